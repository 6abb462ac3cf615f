/- Lemmas. -/
import Derived.Test.YtppmdnmjepkfaaaGreatDoorYR14b
set_option maxHeartbeats 16000000
set_option maxRecDepth 100000
namespace Go.Proofs.YtppmdnmjepkfaaaGreatDoor
open Go.RowKit
open Tryz
open Decidable renaming decide→O
open Option renaming some→G,none→zx
open Bool renaming true→zz,false→zy
open True renaming intro→zw
open Go.Proofs.Tryz renaming prog→zv
open Go renaming Calls→zt
def p7 (els:List El) (a y:El):Bool:=(C1 els y.id).all (λz => !(O ((y.kind.toNat:Int)=6)&&O (z=a.id)))
theorem kX {α:Type} {p:α→Bool} {l:List α} {k:Nat} (h:(l.take k).all p=zy):l.all p=zy:=by
 cases hp:l.all p with
 | false=>rfl
 | true=>
  have:(l.take k).all p=zz:=Cu.2 λx hx=>Cu.1 hp x (List.mem_of_mem_take hx)
  rw [this] at h;cases h
theorem nQ {l:List El} {p:El→Bool} {k:Nat} {b B0:Bool} {q:Int} (hk:k≤l.length) (hk0:k=0∨q=10) (hb:b=(B0&&(l.take k).all p)) (h:(¬(k:Int)<(l.length:Int)∨b=zy)∨¬q=10):b=(B0&&(!(O (q=10)) || l.all p)):=by
 rcases h with (h|h)|h
 ·have hkl:k=l.length:=A0
  rw [hkl,Bc] at hb
  rcases hk0 with h0|h0
  ·have:l=[]:=Bl A0
   subst this;simpa using hb
  simp [hb,h0]
 ·rcases hk0 with h0|h0
  ·subst h0;rw [h] at hb ⊢
   cases B0 with
   | false=>rfl
   | true=>simp at hb
  rw [h] at hb ⊢
  cases B0 with
  | false=>rfl
  | true=>
   have:(l.take k).all p=zy:=by simpa using hb.symm
   simp [h0,kX this]
 rcases hk0 with h0|h0
 ·subst h0;simp [hb,h]
 exact absurd h0 h
theorem UY (els:List El):∀(n:Nat) (y:El),(EL els n y).length≤n
 | 0,_=>Af _
 | n+1,y=>by
  unfold EL
  split
  ·exact Aj _
  cases AG els y.inn with
  | none=>exact Aj _
  | some x=>
   simp only
   split
   ·rw [Al];exact Nat.succ_le_succ (UY els n x)
   exact Aj _
theorem PC (els:List El) (id:Kz):(C1 els id).length≤64:=by
 unfold C1
 cases AG els id with
 | none=>exact Aj _
 | some y=>exact UY els 64 y
def E3 (m:Md) (x:El) (cur:Kz):List Fl→List Kz→Option (List Kz)
 | [],seen=>G seen
 | f::r,seen=>if ((!decide (f.frm=cur)) || (!(MK ((AG m.els f.tg).getD zeroEl))))=zz then E3 m x cur r seen
  else if (O (((AG m.els f.tg).getD zeroEl).id=x.id))=zz then zx
  else if (seen.any (λq=>O (q=((AG m.els f.tg).getD zeroEl).id)))=zy then E3 m x cur r (seen++[((AG m.els f.tg).getD zeroEl).id]) else E3 m x cur r seen
def IR (m:Md) (x:El):Nat→Nat→List Kz→Bool
 | 0,_,_=>zy
 | n+1,k,seen=>match seen[k]? with
  | none=>zy
  | some cur=>match E3 m x cur m.fls seen with
   | none=>zz
   | some s=>IR m x n (k+1) s
theorem u6 {m:Md} {x:El} {n k:Nat} {seen:List Kz} (h:seen.length≤k):IR m x n k seen=zy:=by
 cases n with
 | zero=>rfl
 | succ n=>rw [IR,Fx h]
def SR (m:Md) (x:El):Option Kz:=if (!(MK x))=zz then zx else if IR m x (m.els.length+1) 0 [x.id]=zz then G x.id else zx
theorem HF : ∀(l L:List Kz),l.Nodup→(∀s∈l,s∈L)→l.length≤L.length
 | [],_,_,_=>Aj _
 | a::l,L,h,hs=>by
  have ha:=hs a (by simp);obtain ⟨h0,h1⟩:=Gg.1 h;have h2:=HF l (L.erase a) h1 (λs hs'=>(List.mem_erase_of_ne (by rintro rfl;exact h0 hs')).2 (hs s (by simp [hs'])));rw [List.length_erase_of_mem ha] at h2
  have:0<L.length:=Jh ha
  simp only [Al];omega
theorem ML {l:List Kz} {s:Kz} (h:l.Nodup) (hs:(l.any (λq=>O (q=s)))=zy):(l++[s]).Nodup:=by
 rw [List.nodup_append];refine ⟨h,by simp,λa ha b hb=>?_⟩;simp only [Au] at hb
 subst hb;rintro rfl
 have:=Id.1 hs a ha
 simp at this
theorem RQ {l L:List Kz} {s:Kz} (h:∀q∈l,q∈L) (hs:s∈L):∀q∈l++[s],q∈L:=by
 intro q hq;rcases Bp.1 hq with hq|hq
 ·exact h q hq
 simp only [Au] at hq;subst hq;exact hs
theorem LZ : ∀{l:List El} {k:Kz} {x:El},AG l k=G x→x∈l∧x.id=k
 | [],_,_,h=>by simp [AG] at h
 | y::r,k,x,h=>by
  unfold AG at h
  by_cases hy:y.id=k
  ·rw [Ac hy] at h;injection h with h;subst h;exact ⟨by simp,hy⟩
  rw [Ae hy] at h;obtain ⟨h1,h2⟩:=LZ h;exact ⟨by simp [h1],h2⟩
theorem NY (els:List El) {k:Kz} (h:(!(MK ((AG els k).getD zeroEl)))=zy):((AG els k).getD zeroEl).id∈els.map (·.id):=by
 cases hx:AG els k with
 | none=>rw [hx] at h;exact absurd h AV
 | some x=>exact Cq.2 ⟨x,(LZ hx).1,rfl⟩
def YD (m:Md) (x:El):Option Kz:=(if (!decide ((x.kind.toNat:Int)=(9:Int)))=zz then zx else (if (!((((AG m.els x.att).isSome&&(O (((AG m.els x.att).getD zeroEl).inn=x.inn)))&&(((O ((((AG m.els x.att).getD zeroEl).kind.toNat:Int)=(3:Int))) || (O ((((AG m.els x.att).getD zeroEl).kind.toNat:Int)=(4:Int)))) || ((O ((((AG m.els x.att).getD zeroEl).kind.toNat:Int)=(10:Int)))&&(!decide ((x.ev.toNat:Int)=(1:Int))))))&&(!(O ((((AG m.els x.att).getD zeroEl).kind.toNat:Int)=(10:Int))) || m.els.all (p7 m.els ((AG m.els x.att).getD zeroEl)))))=zz then (G x.id) else zx))
def PJ (m:Md):Option Kz:=ff (YD m) m.els
theorem j8 (m:Md) (a:MdA) (w:Kw) (ho:MdOk m) (hm:MdIn w m a) :
 zt zv 97 #[.agg (Md.cells m a).toArray] w (BR w (.tuple #[str ((PJ m).getD []),.bool (PJ m).isNone])):=by
 have hoi:=ho.id;have hon:=ho.nm;have hnv:=ho.nvars;have hne:=ho.nels;have hnf:=ho.nfls;refine BO func97 ntmps97 X λM=>W ?_
 refine CU M X X λg1 w1 hg1 M=>W ?_
 refine EC M [1] (λze zF e wr mz=>∃(i:Nat),e=(4,AA (i:Int))::ze∧zF wr∧(i≤m.els.length)∧(ff (YD m) m.els=ff (YD m) (m.els.drop i))∧mz=m.els.length-i) ⟨0,X,M,Aj _,X,X⟩ ?_;rintro _ w2 _ ⟨i,rfl,M,hi,hE2,rfl⟩;refine W ?_;refine AC X (λh16=>?_) (λh16=>?_)
 ·have h16p:=odt h16;obtain ⟨x,_,_,hx,hA_x⟩:=ex5 (i:=i) (M.rd hm.els);have ox:=ho.els _ (Ah hx);have ox1:=ox.id;have ox2:=ox.nm;have ox3:=ox.ref;have ox4:=ox.key;refine W ?_;refine ya X (AK i hA_x X X X (sl X) A0) (ya X (AJ X X (BF El.len (M.rd hm.els) hA_x hx) Bk X AM) (CE M X AP λg5 w3 hg5 M=>BX M 0 X X AM X λw4 M=>W ?_));refine AC X (λh26=>?_) (λh26=>?_)
  ·have h26p:=(odf (CJ h26));refine W ?_;refine fag ⟨i+1,X,(M.pk [1]),?_,?_,X⟩
   ·omega
   rw [hE2,AH hx,FA (by rw [YD,Ac h26])]
  have h26p:=(odt (BL h26));refine W ?_;refine CF M 1 X X Ap AO X (W ?_);refine CQ M 31 X X call52 (E9 m a _ _ ho.b (hm.fr0 M.fr)) λw5 M=>W ?_
  refine CE M X AP λg6 w6 hg6 M=>BX M 0 X X AM X λw7 M=>W ?_
  refine fvm M 6 [6,5,4,1] [(41,.bool ((AG m.els x.att).isSome&&(O (((AG m.els x.att).getD zeroEl).inn=x.inn))))] ?_ (λk35=>?_)
  ·intro w8 M;refine yb X (fvm M 19 [6,5,4,1] [(61,.bool (((AG m.els x.att).isSome&&(O (((AG m.els x.att).getD zeroEl).inn=x.inn)))&&(((O ((((AG m.els x.att).getD zeroEl).kind.toNat:Int)=3)) || (O ((((AG m.els x.att).getD zeroEl).kind.toNat:Int)=4))) || ((O ((((AG m.els x.att).getD zeroEl).kind.toNat:Int)=10))&&(!decide ((x.ev.toNat:Int)=1))))))] ?_ (λk42=>?_))
   ·intro w9 M;refine W ?_;refine EC M [6,5,4,1] (λze zF e wr mz=>∃(k:Nat) (b:Bool),e=(8,.bool b)::(9,AA (k:Int))::ze∧zF wr∧(k≤m.els.length)∧(k=0∨(((AG m.els x.att).getD zeroEl).kind.toNat:Int)=10)∧(b=((((AG m.els x.att).isSome&&(O (((AG m.els x.att).getD zeroEl).inn=x.inn)))&&(((O ((((AG m.els x.att).getD zeroEl).kind.toNat:Int)=3)) || (O ((((AG m.els x.att).getD zeroEl).kind.toNat:Int)=4))) || ((O ((((AG m.els x.att).getD zeroEl).kind.toNat:Int)=10))&&(!decide ((x.ev.toNat:Int)=1)))))&&(m.els.take k).all (p7 m.els ((AG m.els x.att).getD zeroEl))))∧mz=m.els.length-k) ⟨0,(((AG m.els x.att).isSome&&(O (((AG m.els x.att).getD zeroEl).inn=x.inn)))&&(((O ((((AG m.els x.att).getD zeroEl).kind.toNat:Int)=3)) || (O ((((AG m.els x.att).getD zeroEl).kind.toNat:Int)=4))) || ((O ((((AG m.els x.att).getD zeroEl).kind.toNat:Int)=10))&&(!decide ((x.ev.toNat:Int)=1))))),X,M,Aj _,.inl X,by simp,rfl⟩ ?_;rintro _ w10 _ ⟨k,b,rfl,M,hk,hk0,hb,rfl⟩;refine W ?_;refine fvm M 2 [9,8,6,5,4,1] [(69,.bool ((O ((k:Int)<(m.els.length:Int)))&&b))] ?_ (λk67=>?_)
    ·intro w11 M;refine yb X (fvm M 4 [9,8,6,5,4,1] [(74,.bool (((O ((k:Int)<(m.els.length:Int)))&&b)&&(O ((((AG m.els x.att).getD zeroEl).kind.toNat:Int)=10))))] ?_ (λk70=>?_))
     ·intro w12 M;refine W ?_;refine AC X (λh74=>?_) (λh74=>?_)
      ·have h74p:=bd h74;refine W ?_;refine DZ 7 CA zr ?_;have M:=M.drew;refine sa X (AJ (xs:=Md.cells m a) X X (M.rdBlk 2 X X) Ap X AO) (W ?_);obtain ⟨y,_,_,hy,hA_y⟩:=ex5 (i:=k) (M.rd hm.els);have oy:=ho.els _ (Ah hy);have oy1:=oy.id;have oy2:=oy.nm;have oy3:=oy.ref;have oy4:=oy.key;refine sa X (AK k hA_y X X X (sl X) A0) (sb X (sd X X (BC El.len (M.rd hm.els) hA_y hy 0 X) (DA (ND M 84 X (AE X X call104) (NX m a _ _ ho (hm.fr0 M.fr)) λA84 c84 w13 M=>?_))));have hL84:=M.ownLen 0 X;refine W ?_;have haL:=PC m.els y.id;refine EC M [10,9,6,5,4,1] (λze zF e wr mz=>∃(j:Nat) (b2:Bool),e=(8,.bool b2)::(11,AA (j:Int))::ze∧zF wr∧(j≤(C1 m.els y.id).length)∧(b2=(b&&((C1 m.els y.id).take j).all (λz => !(O ((y.kind.toNat:Int)=6)&&O (z=((AG m.els x.att).getD zeroEl).id)))))∧mz=(C1 m.els y.id).length-j) ⟨0,b,X,M,Aj _,by simp,rfl⟩ ?_;rintro _ w14 _ ⟨j,b2,rfl,M,hj,hb2,rfl⟩;refine W ?_;refine AC X (λh88=>?_) (λh88=>?_)
       ·have h88p:=odt h88;obtain ⟨z,_,_,hz,hA_z⟩:=ex5 (l:=C1 m.els y.id) (k:=1) (i:=j) (M.rdOwn 0 X);refine W ?_;refine CY CA zr ?_;have M:=M.drew;refine W ?_;refine fvs 18 [11,10,9,8,6,5,4,1] [(110,.bool (b2&&(!((O ((y.kind.toNat:Int)=6))&&(O (z=((AG m.els x.att).getD zeroEl).id))))))] ?_ (λk92=>?_)
        ·refine W ?_;refine fag ⟨j+1,(b2&&(!((O ((y.kind.toNat:Int)=6))&&(O (z=((AG m.els x.att).getD zeroEl).id))))),X,M,?_,?_,X⟩
         ·omega
         rw [hb2,AT hz,IO];simp only [Ef]
        refine C3 (d:=92) X (λh92=>?_) (λh92=>?_)
        ·refine W ?_;refine gsg X (AK k hA_y X X X (sl X) A0) (gsg X (yp X) (gsg X (B3 X X (sc X) (BC El.len (M.rd hm.els) hA_y hy 2 X)) (W ?_)));refine fvs 8 [92,11,10,9,8,6,5,4,1] [(108,.bool ((O ((y.kind.toNat:Int)=6))&&(O (z=((AG m.els x.att).getD zeroEl).id))))] ?_ (λk100=>?_)
         ·refine T2 ?_;exact k92 _ ⟨X,X,X,X,X,X,X,X,(by rw [h92];rfl),zw⟩
         refine C3 (d:=100) X (λh100=>?_) (λh100=>?_)
         ·refine W ?_;refine gsg X (AK j hA_z X X X (sl X) A0) (gsg X (B3 X X (sc X) (BC DN (M.rdOwn 0 X) hA_z hz 0 X)) (T4 ?_));exact k100 _ ⟨X,X,X,X,X,X,X,X,X,(by rw [h100];rfl),zw⟩
         refine T8 ?_;exact k100 _ ⟨X,X,X,X,X,X,X,X,X,(by rw [h100];rfl),zw⟩
        iterate 8 refine EI X X X X X X ?_
        iterate 7 refine RM X X X X X ?_
        exact EI X X X X X X (EI X X X X X X (sb X (k92 _ ⟨X,X,X,X,X,X,X,X,(by rw [h92];rfl),zw⟩)))
       have h88p:=odf h88;refine W ?_;have hjE:j=(C1 m.els y.id).length:=A0
       rw [hjE,Bc] at hb2
       subst hb2;refine W ?_;have hklt:=h74p.1.1;refine fag ⟨k+1,(b&&(C1 m.els y.id).all (λz => !(O ((y.kind.toNat:Int)=6)&&O (z=((AG m.els x.att).getD zeroEl).id)))),X,(M.pk [1,2,3]),?_,?_,?_,X⟩
       ·have:=h74p.1.1;omega
       ·exact .inr h74p.2
       rw [hb,AT hy,IO,p7];simp only [Ef]
      have h74p:=bd h74;refine W ?_;have hbE:=nQ hk hk0 hb h74p;subst hbE;refine W ?_;refine AC X (λh112=>?_) (λh112=>?_)
      ·refine W ?_;refine B1 X X X ?_;rw [AH hx,HI (v:=x.id) (by rw [YD,AN h26,Ac h112])] at hE2
       exact ⟨by rw [PJ,hE2];rfl,M.fr⟩
      have h112p:=BL h112;refine W ?_;refine fag ⟨i+1,X,(M.pk [2]),?_,?_,X⟩
      ·omega
      rw [hE2,AH hx,FA (by rw [YD,AN h26,AN h112])]
     refine A1 (d:=70) X (λh70=>?_) (λh70=>?_)
     ·refine T4 ?_;exact k70 M
     refine T4 ?_;exact k70 M
    refine A1 (d:=67) X (λh67=>?_) (λh67=>?_)
    ·refine T2 ?_;exact k67 M
    refine T2 ?_;exact k67 M
   refine A1 (d:=42) X (λh42=>?_) (λh42=>?_)
   ·refine W ?_;refine fvm M 4 [42,6,5,4,1] [(50,.bool ((O ((((AG m.els x.att).getD zeroEl).kind.toNat:Int)=3)) || (O ((((AG m.els x.att).getD zeroEl).kind.toNat:Int)=4))))] ?_ (λk46=>?_)
    ·intro w15 M;refine gyq X (fvm M 9 [42,6,5,4,1] [(60,.bool (((O ((((AG m.els x.att).getD zeroEl).kind.toNat:Int)=3)) || (O ((((AG m.els x.att).getD zeroEl).kind.toNat:Int)=4))) || ((O ((((AG m.els x.att).getD zeroEl).kind.toNat:Int)=10))&&(!decide ((x.ev.toNat:Int)=1)))))] ?_ (λk51=>?_))
     ·intro w16 M;exact yb X (k42 M)
     refine A1 (d:=51) X (λh51=>?_) (λh51=>?_)
     ·refine T9 ?_;exact k51 M
     refine W ?_;refine fvm M 4 [51,42,6,5,4,1] [(59,.bool ((O ((((AG m.els x.att).getD zeroEl).kind.toNat:Int)=10))&&(!decide ((x.ev.toNat:Int)=1))))] ?_ (λk55=>?_)
     ·intro w17 M;exact gyq X (k51 M)
     refine A1 (d:=55) X (λh55=>?_) (λh55=>?_)
     ·refine T4 ?_;exact k55 M
     refine T4 ?_;exact k55 M
    refine A1 (d:=46) X (λh46=>?_) (λh46=>?_)
    ·refine T4 ?_;exact k46 M
    refine T4 ?_;exact k46 M
   iterate 4 refine yo X ?_
   refine CW X X X X X (CW X X X X X (CW X X X X X (yo X (yo X ?_))));iterate 8 refine CW X X X X X ?_
   exact yo X (yb X (k42 M))
  refine A1 (d:=35) X (λh35=>?_) (λh35=>?_)
  ·refine T6 ?_;exact k35 M
  refine T6 ?_;exact k35 M
 have h16p:=odf h16;refine W ?_;have hiE:i=m.els.length:=A0
 rw [hiE,Aq] at hE2
 have hE2:=hE2.trans (show _=zx from rfl);refine W ?_;exact B1 X X X ⟨by rw [PJ,hE2];rfl,M.fr⟩
def TH (m:Md):Option Kz:=ff (SR m) m.els
theorem o4 (m:Md) (a:MdA) (w:Kw) (ho:MdOk m) (hm:MdIn w m a) :
 zt zv 99 #[.agg (Md.cells m a).toArray] w (BR w (.tuple #[str ((TH m).getD []),.bool (TH m).isNone])):=by
 have hoi:=ho.id;have hon:=ho.nm;have hnv:=ho.nvars;have hne:=ho.nels;have hnf:=ho.nfls;refine BO func99 ntmps99 X λM=>W ?_
 refine CU M X X λg1 w1 hg1 M=>W ?_
 refine EC M [1] (λze zF e wr mz=>∃(i:Nat),e=(4,AA (i:Int))::ze∧zF wr∧(i≤m.els.length)∧(ff (SR m) m.els=ff (SR m) (m.els.drop i))∧mz=m.els.length-i) ⟨0,X,M,Aj _,X,X⟩ ?_;rintro _ w2 _ ⟨i,rfl,M,hi,hE,rfl⟩;refine W ?_;refine AC X (λh16=>?_) (λh16=>?_)
 ·have h16p:=odt h16;obtain ⟨x,_,_,hx,hA_x⟩:=ex5 (i:=i) (M.rd hm.els);have ox:=ho.els _ (Ah hx);have ox1:=ox.id;have ox2:=ox.nm;have ox3:=ox.ref;have ox4:=ox.key;refine W ?_;refine ya X (AK i hA_x X X X (sl X) A0) (ya X (AJ X X (BF El.len (M.rd hm.els) hA_x hx) Bk X AM) (CQ M 24 X X call164 (WU _ _) λw3 M=>W ?_));refine AC X (λh25=>?_) (λh25=>?_)
  ·have h25p:=CJ h25;refine W ?_;refine fag ⟨i+1,X,M,?_,?_,X⟩
   ·omega
   first
    | rw [hE,AH hx,FA (by rw [SR,Ac h25])]
    | rw [hE,AH hx,FA (by rw [SR,AN h25,AN hrF])]
  have h25p:=BL h25;refine W ?_;refine ya X (AK i hA_x X X X (sl X) A0) (yb X (yl X X (BC El.len (M.rd hm.els) hA_x hx 0 X) (CP M kw X X [str x.id] ([str x.id]) X X X X Be CK X X (FZ X) X λg32 w4 hg32 M=>W ?_)));have M:=M.blkOwn 0 (size:=1) (n:=1) X X (by unfold maxLen;omega);refine flp [4,1] (λze e wr mz=>∃(k:Nat) (seen:List Kz) (A:Ky) (c:Nat),e=(5,.slice A seen.length c)::(6,AA (k:Int))::ze∧Mem w AR [As.own w.heap.size 9 1 (.slice A seen.length c) seen.length (AF BH seen),As.blk g1 48 (Md.cells m a)] wr∧(k≤seen.length)∧(seen.Nodup)∧(∀s∈seen,s∈m.els.map (·.id))∧(IR m x (m.els.length+1) 0 [x.id]=IR m x (m.els.length+1-k) k seen)∧mz=m.els.length-k) ⟨0,[x.id],G ⟨g32,0,zx⟩,1,X,M,Aj _,by simp,by intro s hs;simp only [Au] at hs;subst hs;exact Cq.2 ⟨x,Ah hx,rfl⟩,rfl,rfl⟩ ?_;rintro _ w5 _ ⟨k,seen,A,c,rfl,M,hk,hnd,hsub,hr,rfl⟩;refine W ?_;refine AC X (λh36=>?_) (λh36=>?_)
  ·have h36p:=odt h36;obtain ⟨z,_,_,hz,hA_z⟩:=ex5 (l:=seen) (k:=1) (i:=k) (M.rdOwn 0 X);refine W ?_;refine flp [6,4,1] (λze e wr mz=>∃(j:Nat) (s2:List Kz) (A2:Ky) (c2:Nat),e=(5,.slice A2 s2.length c2)::(7,AA (j:Int))::ze∧Mem w AR [As.own w.heap.size 9 1 (.slice A2 s2.length c2) s2.length (AF BH s2),As.blk g1 48 (Md.cells m a)] wr∧(j≤m.fls.length)∧(s2.Nodup)∧(∀s∈s2,s∈m.els.map (·.id))∧(k<s2.length∧s2[k]?=G z)∧(E3 m x z m.fls seen=E3 m x z (m.fls.drop j) s2)∧mz=m.fls.length-j) ⟨0,seen,A,c,X,M,Aj _,hnd,hsub,⟨A0,hz⟩,X,X⟩ ?_;rintro _ w6 _ ⟨j,s2,A2,c2,rfl,M,hj,hnd2,hsub2,hpk,hr2,rfl⟩;refine W ?_;refine AC X (λh43=>?_) (λh43=>?_)
   ·have h43p:=odt h43;obtain ⟨f,_,_,hf,hA_f⟩:=ex5 (i:=j) (M.rd hm.fls);have of:=ho.fls _ (Ah hf);have of1:=of.id;refine W ?_;refine N6 (λ(g8:Nat)=>[(1,pg g1),(4,AA (i:Int)),(5,.slice A2 s2.length c2),(6,AA (k:Int)),(7,AA (j:Int)),(8,pg g8)]) (λ(g8:Nat)=>λw'=>Mem w AR [As.blk g8 106 (El.cells ((AG m.els f.tg).getD zeroEl)),As.own w.heap.size 9 1 (.slice A2 s2.length c2) s2.length (AF BH s2),As.blk g1 48 (Md.cells m a)] w') ?_ (λkr12=>?_)
    ·intro g8 w7 M;refine W ?_;refine DZ 12 CA zr ?_;have M:=M.drew;refine W ?_;refine sa X (AK j hA_f X X X (sl X) A0) (sb X (sd X X (BC Fl.len (M.rd hm.fls) hA_f hf 1 X) (W ?_)));obtain ⟨b6_z,o6_z,hA6_z⟩:=DR (k:=1) A0 (M.rdOwn 1 X) hpk.2;refine sa X (AK k hA6_z X X X (sl X) A0) (sd X X (BC DN (M.rdOwn 1 X) hA6_z hpk.2 0 X) (W ?_));refine fvm M 4 [8,7,6,5,4,1] [(72,.bool ((!decide (f.frm=z)) || (!(MK ((AG m.els f.tg).getD zeroEl)))))] ?_ (λk68=>?_)
     ·intro w8 M;refine W ?_;refine AC X (λh72=>?_) (λh72=>?_)
      ·have h72p:=bd h72;refine W ?_;have hlen2:=HF s2 _ hnd2 hsub2;rw [Br] at hlen2
       refine fag ⟨j+1,s2,A2,c2,X,(M.pk [1,2]),?_,?_,?_,?_,?_,X⟩
       ·omega
       ·first
         | exact hnd2
         | exact ML hnd2 hanyF
       ·first
         | exact hsub2
         | exact RQ hsub2 (NY m.els (FL h72).2)
       ·first
         | exact hpk
         | exact ⟨by simp only [Am];omega,by rw [Cv hpk.1];exact hpk.2⟩
       rw [hr2,AH hf,E3]
       first
        | rw [Ac h72]
        | rw [AN h72,AN h81,Ac (by simpa using h101)]
        | rw [AN h72,AN h81,Ae (by simpa using h101)]
      have h72p:=bd h72;refine W ?_;refine CY CA zr ?_;have M:=M.drew;refine W ?_;refine sa X (AK i hA_x X X X (sl X) A0) (sb X (sd X X (BC El.len (M.rd hm.els) hA_x hx 0 X) (W ?_)));refine AC X (λh81=>?_) (λh81=>?_)
      ·have h81p:=odt h81;refine W ?_;refine B1 X X X ?_;have hyx:E3 m x z m.fls seen=zx:=by rw [hr2,AH hf,E3,AN h72,Ac h81]
       have hlen:=HF seen _ hnd hsub;rw [Br] at hlen
       have hrT:IR m x (m.els.length+1) 0 [x.id]=zz:=by rw [hr,show m.els.length+1-k=(m.els.length+1-(k+1))+1 by omega,IR,hz];simp only [hyx]
       have hid:=odt h81;rw [AH hx,HI (v:=x.id) (by rw [SR,AN h25,Ac hrT])] at hE
       exact ⟨by rw [TH,hE,hid];rfl,M.fr⟩
      have h81p:=odf h81;refine W ?_;have hLs:=M.ownLen 1 X;refine EC M [8,7,6,5,4,1] (λze zF e wr mz=>∃(n:Nat) (b:Bool),e=(10,.bool b)::(11,AA (n:Int))::ze∧zF wr∧(n≤s2.length)∧(b=(s2.take n).any (λq=>O (q=((AG m.els f.tg).getD zeroEl).id)))∧mz=s2.length-n) ⟨0,zy,X,M,Aj _,by simp,rfl⟩ ?_;rintro _ w9 _ ⟨n,b,rfl,M,hn,hb,rfl⟩;refine W ?_;refine AC X (λh87=>?_) (λh87=>?_)
      ·have h87p:=odt h87;obtain ⟨q,_,_,hq,hA_q⟩:=ex5 (l:=s2) (k:=1) (i:=n) (M.rdOwn 1 X);refine W ?_;refine CY CA zr ?_;have M:=M.drew;refine W ?_;refine fvs 8 [11,10,8,7,6,5,4,1] [(99,.bool (b || (O (q=((AG m.els f.tg).getD zeroEl).id))))] ?_ (λk91=>?_)
       ·refine W ?_;refine fag ⟨n+1,(b || (O (q=((AG m.els f.tg).getD zeroEl).id))),X,M,?_,?_,X⟩
        ·omega
        rw [hb,AT hq,SU]
       refine C3 (d:=91) X (λh91=>?_) (λh91=>?_)
       ·refine T8 ?_;exact k91 _ ⟨X,X,X,X,X,X,X,X,(by rw [h91];rfl),zw⟩
       refine W ?_;refine gsg X (AK n hA_q X X X (sl X) A0) (gsg X (B3 X X (sc X) (BC DN (M.rdOwn 1 X) hA_q hq 0 X)) (T4 ?_));exact k91 _ ⟨X,X,X,X,X,X,X,X,(by rw [h91];rfl),zw⟩
      have h87p:=odf h87;refine W ?_;have hnE:n=s2.length:=A0
      rw [hnE,Bc] at hb
      subst hb;refine W ?_;refine AC X (λh101=>?_) (λh101=>?_)
      ·have h101p:=CJ h101;have hanyF:=CJ h101;have hlen2:=HF s2 _ hnd2 hsub2;rw [Br] at hlen2
       refine W ?_;refine CP M kw X X [str (((AG m.els f.tg).getD zeroEl).id)] ([str (((AG m.els f.tg).getD zeroEl).id)]) X X X X Be CK X X (FZ X) X λg105 w10 hg105 M=>CD (len':=(s2++[((AG m.els f.tg).getD zeroEl).id]).length) (xs':=AF BH (s2++[((AG m.els f.tg).getD zeroEl).id])) M 2 kw X X X X X X (M.rdBlk 0 X X) Be C2 X AV (BN X) (Af _) (Af _) D4 (by unfold maxLen;first|omega|(simp;omega)) (by simp) (by first|exact (AY _ _ _).symm|simp [AF,BH]) λA106 c106 w11 M=>W ?_
       have hlen2:=HF s2 _ hnd2 hsub2;rw [Br] at hlen2
       refine fag ⟨j+1,s2++[((AG m.els f.tg).getD zeroEl).id],A106,c106,X,(M.pk [2,3]),?_,?_,?_,?_,?_,X⟩
       ·omega
       ·first
         | exact hnd2
         | exact ML hnd2 hanyF
       ·first
         | exact hsub2
         | exact RQ hsub2 (NY m.els (FL h72).2)
       ·first
         | exact hpk
         | exact ⟨by simp only [Am];omega,by rw [Cv hpk.1];exact hpk.2⟩
       rw [hr2,AH hf,E3]
       first
        | rw [Ac h72]
        | rw [AN h72,AN h81,Ac (by simpa using h101)]
        | rw [AN h72,AN h81,Ae (by simpa using h101)]
      have h101p:=BL h101;refine W ?_;have hlen2:=HF s2 _ hnd2 hsub2;rw [Br] at hlen2
      refine fag ⟨j+1,s2,A2,c2,X,(M.pk [1,2]),?_,?_,?_,?_,?_,X⟩
      ·omega
      ·first
        | exact hnd2
        | exact ML hnd2 hanyF
      ·first
        | exact hsub2
        | exact RQ hsub2 (NY m.els (FL h72).2)
      ·first
        | exact hpk
        | exact ⟨by simp only [Am];omega,by rw [Cv hpk.1];exact hpk.2⟩
      rw [hr2,AH hf,E3]
      first
       | rw [Ac h72]
       | rw [AN h72,AN h81,Ac (by simpa using h101)]
       | rw [AN h72,AN h81,Ae (by simpa using h101)]
     refine A1 (d:=68) X (λh68=>?_) (λh68=>?_)
     ·refine T4 ?_;exact k68 M
     refine yd X (AJ (xs:=El.cells ((AG m.els f.tg).getD zeroEl)) X X (M.rdBlk 0 X X) Bk X AM) (sxl_call (G 70) kw X X (AE X X call164) (WU _ _) ?_);rintro _ w12 ⟨rfl,hfw12⟩;refine cq ?_;have M:=M.step hfw12;refine T2 ?_;exact k68 M
    refine I0 M 14 CA λM=>oa 0 14 X X M (λ_ M=>AJ (xs:=Md.cells m a) X X (M.rdBlk 1 X X) Ap X AO) (oc 1 14 X X M (ol 2 14 X X X M (λ_ M=>(M.cell 1 X X)) (oc 3 14 X X M (oa 4 14 X X M (λ_ M=>AK j hA_f X X X (sl X) A0) (oc 5 14 X X M (ol 6 14 X X X M (λ_ M=>(BC Fl.len (M.rd hm.fls) hA_f hf 2 X)) (FM (rs:=[7,11]) zr (by simp) λiz hiz=>?_)))))))
    simp only [Ao,Ba,or_false] at hiz
    rcases hiz with rfl|rfl
    ·refine GT (G 54) X kw X X (AE X X call52) (E9 m a _ _ ho.b (hm.fr0 M.fr)) ?_;rintro _ w13 ⟨rfl,hfw13⟩;refine ⟨_,X,λ_=>M.step hfw13,?_⟩;have M:=M.step hfw13;refine oc 8 14 X X M (oc 9 14 X X M (oc 10 14 X X M (B7 11 (G 8) zr X kw X X (λρ hρ=>BP 106 X _ [str [],str [],.int .u8 0,str [],str [],str [],.int .u8 0,str [],str [],AA 0,AA 0] AP X) ?_)));rintro _ w14 ⟨g8,rfl,hg8,hq8,hb8,hfw14⟩;refine ⟨λ_=>M.step hfw14,?_⟩;have M:=M.push hfw14 _ hb8 (CR hg8 hq8)
     replace M:Mem w AR (As.blk g8 106 [str [],str [],.int .u8 0,str [],str [],str [],.int .u8 0,str [],str [],AA 0,AA 0]::_) w14:=M
     exact fop M 12 0 X X X AM X (·.drop 1) λw15 M=>oc 13 14 X X (M.drop 1) (fdn (kr12 g8 _ _ M ⟨X,X,X,X,X,X,zw⟩))
    refine DP (G 8) X kw X X (λρ hρ=>BP 106 X _ [str [],str [],.int .u8 0,str [],str [],str [],.int .u8 0,str [],str [],AA 0,AA 0] AP X) ?_;rintro _ w16 ⟨g8,rfl,hg8,hq8,hb8,hfw16⟩;refine ⟨λ_=>M.step hfw16,?_⟩;have M:=M.push hfw16 _ hb8 (CR hg8 hq8)
    replace M:Mem w AR (As.blk g8 106 [str [],str [],.int .u8 0,str [],str [],str [],.int .u8 0,str [],str [],AA 0,AA 0]::_) w16:=M
    refine BB 7 (G 54) zr X kw X X (AE X X call52) (E9 m a _ _ ho.b (hm.fr0 M.fr)) ?_;rintro _ w17 ⟨rfl,hfw17⟩;refine ⟨_,X,λ_=>(M.drop 1).step hfw17,?_⟩;have M:=M.step hfw17;exact oc 8 14 X X (M.drop 1) (oc 9 14 X X (M.drop 1) (oc 10 14 X X (M.drop 1) (fop M 12 0 X X X AM X (·.drop 1) λw18 M=>oc 13 14 X X (M.drop 1) (fdn (kr12 g8 _ _ M ⟨X,X,X,X,X,X,zw⟩)))))
   have h43p:=odf h43;refine W ?_;have hjE:j=m.fls.length:=A0
   rw [hjE,Aq,E3] at hr2
   have hlen2:=HF s2 _ hnd2 hsub2;rw [Br] at hlen2
   refine W ?_;have hlen:=HF seen _ hnd hsub;rw [Br] at hlen
   have hlen2:=HF s2 _ hnd2 hsub2;rw [Br] at hlen2
   refine fag ⟨k+1,s2,A2,c2,X,M,?_,?_,?_,?_,X⟩
   ·omega
   ·exact hnd2
   ·exact hsub2
   rw [hr,show m.els.length+1-k=(m.els.length+1-(k+1))+1 by omega,IR,hz];simp only [hr2]
  have h36p:=odf h36;refine W ?_;have hrF:IR m x (m.els.length+1) 0 [x.id]=zy:=by rw [hr];exact u6 A0
  refine W ?_;refine fag ⟨i+1,X,(M.pk [1]),?_,?_,X⟩
  ·omega
  first
   | rw [hE,AH hx,FA (by rw [SR,Ac h25])]
   | rw [hE,AH hx,FA (by rw [SR,AN h25,AN hrF])]
 have h16p:=odf h16;refine W ?_;refine B1 X X X ?_;have hiE:i=m.els.length:=A0
 rw [hiE,Aq] at hE
 exact ⟨by rw [TH,hE];rfl,M.fr⟩
end Go.Proofs.YtppmdnmjepkfaaaGreatDoor
