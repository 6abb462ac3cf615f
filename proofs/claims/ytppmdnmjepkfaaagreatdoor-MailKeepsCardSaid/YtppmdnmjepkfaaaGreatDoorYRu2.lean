/- Lemmas. -/
import Derived.Test.YtppmdnmjepkfaaaGreatDoorYRu1
set_option maxHeartbeats 16000000
set_option maxRecDepth 100000
namespace Go.Proofs.YtppmdnmjepkfaaaGreatDoor
open Go.RowKit
open Tryz
open Decidable renaming decide→O
open Option renaming some→G,none→zx
open Bool renaming true→zz,false→zy
open True renaming intro→zw
open Go.Proofs.Tryz renaming prog→zv
open Go renaming Calls→zt
def RR (els:List El):Nat→Kz→Bool
 | 0,s=>O (s=[])
 | n+1,s=>if s=[] then zz else O ((((AG els s).getD zeroEl).kind.toNat:Int)=10)&&RR els n ((AG els s).getD zeroEl).inn
theorem nL (els:List El) {d:Nat} {s:Kz} (h:¬s=[]) (hd:d<4) (hk:(((AG els s).getD zeroEl).kind.toNat:Int)=10):RR els (4-d) s=RR els (4-(d+1)) ((AG els s).getD zeroEl).inn:=by
 rw [show 4-d=(4-(d+1))+1 by omega,RR,Ae h,Bg hk];rfl
theorem a1E (els:List El) {d:Nat} {s:Kz} (h:¬s=[]) (hk:¬(((AG els s).getD zeroEl).kind.toNat:Int)=10∨(d:Int)=4):RR els (4-d) s=zy:=by
 rcases hk with hk|hk
 ·cases 4-d with
  | zero=>exact Bb h
  | succ n=>rw [RR,Ae h,Bb hk];rfl
 rw [show 4-d=0 by omega];exact Bb h
theorem a1F (els:List El) {n:Nat} {s:Kz} (h:s=[]):RR els n s=zz:=by
 subst h;cases n<;>simp [RR]
theorem a0V (A:Ky) (c:Nat) (l:List El) (hl:l.length≤4611686018427387904) (f:FuncId) (cs:Kx) (p:El→Bool) (w:Kw) (hP:PredJ zv f cs (λx:El=>.agg x.cells.toArray) l (λ_=>p) AR (λ_ _=>True) w) (hR:Rd w A (l.length*11) (AF El.cells l)) :
 zt zv 141 #[.slice A l.length c,.func (.func f) #[] cs.toArray] w (BR w (.bool (l.any p))):=
 (wQ El.cells El.len A c l hl f cs (λ_=>p) AR (λ_ _=>True) w hP (λ_ hf=>hR.fr0 hf) zw).mono λ_ _ ⟨h1,_,h2⟩=>⟨by rw [h1,MN],h2⟩
theorem LB (A:Ky) (c:Nat) (l:List El) (hl:l.length≤4611686018427387904) (f:FuncId) (cs:Kx) (p:El→Bool) (w:Kw) (hP:PredJ zv f cs (λx:El=>.agg x.cells.toArray) l (λ_=>p) AR (λ_ _=>True) w) (hR:Rd w A (l.length*11) (AF El.cells l)) :
 zt zv 121 #[.slice A l.length c,.func (.func 122) #[] #[],.func (.func f) #[] cs.toArray] w (BR w (.tuple #[str ((ffN (λ_=>p) 0 l).elim [] (λx=>x.id)),.bool (ffN (λ_=>p) 0 l).isSome])):=
 (gL A c l hl f cs (λ_=>p) AR (λ_ _=>True) w hP (λ_ hf=>hR.fr0 hf) zw).mono λ_ _ ⟨h1,_,h2⟩=>⟨h1,h2⟩
theorem mV (A:Ky) (c:Nat) (l:List Fl) (hl:l.length≤4611686018427387904) (f:FuncId) (cs:Kx) (p:Fl→Bool) (w:Kw) (hP:PredJ zv f cs (λx:Fl=>.agg x.cells.toArray) l (λ_=>p) AR (λ_ _=>True) w) (hR:Rd w A (l.length*4) (AF Fl.cells l)) :
 zt zv 131 #[.slice A l.length c,.func (.func f) #[] cs.toArray] w (BR w (.bool (l.any p))):=
 (wP Fl.cells Fl.len A c l hl f cs (λ_=>p) AR (λ_ _=>True) w hP (λ_ hf=>hR.fr0 hf) zw).mono λ_ _ ⟨h1,_,h2⟩=>⟨by rw [h1,MN],h2⟩
theorem ZZ (A:Ky) (c:Nat) (l:List Fl) (hl:l.length≤4611686018427387904) (f:FuncId) (cs:Kx) (p:Fl→Bool) (w:Kw) (hP:PredJ zv f cs (λx:Fl=>.agg x.cells.toArray) l (λ_=>p) AR (λ_ _=>True) w) (hR:Rd w A (l.length*4) (AF Fl.cells l)) :
 zt zv 124 #[.slice A l.length c,.func (.func 125) #[] #[],.func (.func f) #[] cs.toArray] w (BR w (.tuple #[str ((ffN (λ_=>p) 0 l).elim [] (λx=>x.id)),.bool (ffN (λ_=>p) 0 l).isSome])):=
 (gK A c l hl f cs (λ_=>p) AR (λ_ _=>True) w hP (λ_ hf=>hR.fr0 hf) zw).mono λ_ _ ⟨h1,_,h2⟩=>⟨h1,h2⟩
theorem a0W (A:Ky) (c:Nat) (l:List Bd) (hl:l.length≤4611686018427387904) (f:FuncId) (cs:Kx) (p:Bd→Bool) (w:Kw) (hP:PredJ zv f cs (λx:Bd=>.agg x.cells.toArray) l (λ_=>p) AR (λ_ _=>True) w) (hR:Rd w A (l.length*5) (AF Bd.cells l)) :
 zt zv 146 #[.slice A l.length c,.func (.func f) #[] cs.toArray] w (BR w (.bool (l.any p))):=
 (wR Bd.cells Bd.len A c l hl f cs (λ_=>p) AR (λ_ _=>True) w hP (λ_ hf=>hR.fr0 hf) zw).mono λ_ _ ⟨h1,_,h2⟩=>⟨by rw [h1,MN],h2⟩
theorem U7 (a2:Int):zv.built 106 [(2,.int .u8 a2)]=G #[str [],str [],.int .u8 a2,str [],str [],str [],.int .u8 0,str [],str [],AA 0,AA 0]:=zr
theorem Q6 (a2:Int) (a10:Int):zv.built 106 [(2,.int .u8 a2),(10,AA a10)]=G #[str [],str [],.int .u8 a2,str [],str [],str [],.int .u8 0,str [],str [],AA 0,AA a10]:=zr
theorem R8 (a2:Int) (a4:Kz):zv.built 106 [(2,.int .u8 a2),(4,str a4)]=G #[str [],str [],.int .u8 a2,str [],str a4,str [],.int .u8 0,str [],str [],AA 0,AA 0]:=zr
theorem EH : (zv.info? 46).map (·.zero)=G (G (.slice zx 0 0)):=zr
def RI (l:Kz):Bool:=((O (((l.length:Nat):Int)≤(1024:Int)))&&(utf l))
theorem lK (l:Kz) (w:Kw) (hl:(l.length:Int)<4611686018427387904) (hT:Laid w utfL) :
 zt zv 116 #[str l] w (BR w (.bool (RI l))):=by
 refine BO func116 ntmps116 X λM=>W ?_
 refine ya X (BT X X Ad) (W ?_);refine fvm M 3 [2] [(9,.bool ((O ((l.length:Int)≤1024))&&(utf l)))] ?_ (λk6=>?_)
 ·intro w1 M;refine W ?_;exact gr1 X ⟨by rw [RI],M.fr⟩
 refine A1 (d:=6) X (λh6=>?_) (λh6=>?_)
 ·refine gyq X (sxl_call (G 8) kw X X (AE X X call67) (NQ _ _ A0 (hT.fr M.fr)) ?_);rintro _ w2 ⟨rfl,hfw2⟩;refine cq ?_;have M:=M.step hfw2;exact yb X (k6 M)
 refine T3 ?_;exact k6 M
def MY (y:El):Bool:=(if (O ((y.ev.toNat:Int)=(1:Int)))=zz then ((((O ((1:Int)≤y.ticks))&&(O (y.ticks≤(1048576:Int))))&&(O (y.ref=[])))&&(O (y.key=[]))) else (if (O ((y.ev.toNat:Int)=(2:Int)))=zz then (((O (y.ticks=(0:Int)))&&(B5 y.ref))&&(B5 y.key)) else (if (O ((y.ev.toNat:Int)=(3:Int)))=zz then (((O (y.ticks=(0:Int)))&&(B5 y.ref))&&(O (y.key=[]))) else zy)))
theorem wH (y:El) (w:Kw) (oy:ElOk y) :
 zt zv 184 #[.agg y.cells.toArray] w (BR w (.bool (MY y))):=by
 have oy3:=oy.ref;have oy4:=oy.key;have oy5:=oy.id;have oy6:=oy.nm;have oy7:=oy.inn;have oy8:=oy.att;refine BO func184 ntmps184 X λM=>W ?_
 refine CU M X X λg1 w1 hg1 M=>W ?_
 refine AC X (λh5=>?_) (λh5=>?_)
 ·refine W ?_;refine fvm M 4 [2,1] [(14,.bool ((O ((1:Int)≤y.ticks))&&(O (y.ticks≤(1048576:Int)))))] ?_ (λk10=>?_)
  ·intro w2 M;refine yb X (fvm M 4 [2,1] [(19,.bool (((O ((1:Int)≤y.ticks))&&(O (y.ticks≤(1048576:Int))))&&(O (y.ref=[]))))] ?_ (λk15=>?_))
   ·intro w3 M;refine yb X (fvm M 4 [2] [(24,.bool ((((O ((1:Int)≤y.ticks))&&(O (y.ticks≤(1048576:Int))))&&(O (y.ref=[])))&&(O (y.key=[]))))] ?_ (λk20=>?_))
    ·intro w4 M;refine W ?_;exact gr1 X ⟨by rw [MY,Ac h5],M.fr⟩
    refine A1 (d:=20) X (λh20=>?_) (λh20=>?_)
    ·refine T4 ?_;exact k20 M
    refine T4 ?_;exact k20 M
   refine A1 (d:=15) X (λh15=>?_) (λh15=>?_)
   ·refine T4 ?_;exact k15 M
   refine T4 ?_;exact k15 M
  refine A1 (d:=10) X (λh10=>?_) (λh10=>?_)
  ·refine T4 ?_;exact k10 M
  refine T4 ?_;exact k10 M
 have h5p:=odf h5;refine W ?_;refine AC X (λh25=>?_) (λh25=>?_)
 ·have h25p:=odt h25;refine W ?_;refine fvm M 4 [2,1] [(34,.bool ((O (y.ticks=(0:Int)))&&(B5 y.ref)))] ?_ (λk30=>?_)
  ·intro w5 M;refine yb X (fvm M 4 [2] [(39,.bool (((O (y.ticks=(0:Int)))&&(B5 y.ref))&&(B5 y.key)))] ?_ (λk35=>?_))
   ·intro w6 M;refine W ?_;exact gr1 X ⟨by rw [MY,AN h5,Ac h25],M.fr⟩
   refine A1 (d:=35) X (λh35=>?_) (λh35=>?_)
   ·refine W ?_;refine sxl_call (G 38) kw X X (AE X X call37) (E8 _ _ A0) ?_;rintro _ w7 ⟨rfl,hfw7⟩;refine cq ?_;have M:=M.step hfw7;exact yb X (k35 M)
   refine T4 ?_;exact k35 M
  refine A1 (d:=30) X (λh30=>?_) (λh30=>?_)
  ·refine W ?_;refine sxl_call (G 33) kw X X (AE X X call37) (E8 _ _ A0) ?_;rintro _ w8 ⟨rfl,hfw8⟩;refine cq ?_;have M:=M.step hfw8;exact yb X (k30 M)
  refine T4 ?_;exact k30 M
 have h25p:=odf h25;refine W ?_;refine AC X (λh40=>?_) (λh40=>?_)
 ·have h40p:=odt h40;refine W ?_;refine fvm M 4 [2,1] [(49,.bool ((O (y.ticks=(0:Int)))&&(B5 y.ref)))] ?_ (λk45=>?_)
  ·intro w9 M;refine yb X (fvm M 4 [2] [(54,.bool (((O (y.ticks=(0:Int)))&&(B5 y.ref))&&(O (y.key=[]))))] ?_ (λk50=>?_))
   ·intro w10 M;refine W ?_;exact gr1 X ⟨by rw [MY,AN h5,AN h25,Ac h40],M.fr⟩
   refine A1 (d:=50) X (λh50=>?_) (λh50=>?_)
   ·refine T4 ?_;exact k50 M
   refine T4 ?_;exact k50 M
  refine A1 (d:=45) X (λh45=>?_) (λh45=>?_)
  ·refine W ?_;refine sxl_call (G 48) kw X X (AE X X call37) (E8 _ _ A0) ?_;rintro _ w11 ⟨rfl,hfw11⟩;refine cq ?_;have M:=M.step hfw11;exact yb X (k45 M)
  refine T4 ?_;exact k45 M
 refine W ?_;exact gr1 X ⟨by rw [MY,AN h5,AN h25,AN h40],M.fr⟩
def YS (y:El):Bool:=(if ((O ((y.kind.toNat:Int)<(1:Int))) || (O ((10:Int)<(y.kind.toNat:Int))))=zz then zy else (if (O ((y.kind.toNat:Int)=(4:Int)))=zz then (((O ((1:Int)≤y.tries))&&(O (y.tries≤(100:Int))))&&(El.same (⟨[],[],y.kind,[],y.dflt,y.att,y.ev,y.ref,y.key,y.ticks,y.tries⟩:El) (⟨[],[],y.kind,[],[],[],0,[],[],0,y.tries⟩:El))) else (if (O ((y.kind.toNat:Int)=(5:Int)))=zz then (El.same (⟨[],[],y.kind,[],y.dflt,y.att,y.ev,y.ref,y.key,y.ticks,y.tries⟩:El) (⟨[],[],y.kind,[],y.dflt,[],0,[],[],0,0⟩:El)) else (if ((O ((y.kind.toNat:Int)=(8:Int))) || (O ((y.kind.toNat:Int)=(9:Int))))=zz then ((((MY y)&&(O (y.tries=(0:Int))))&&(O (y.dflt=[])))&&((O ((y.kind.toNat:Int)=(9:Int))) || (O (y.att=[])))) else (El.same (⟨[],[],y.kind,[],y.dflt,y.att,y.ev,y.ref,y.key,y.ticks,y.tries⟩:El) (⟨[],[],y.kind,[],[],[],0,[],[],0,0⟩:El))))))
theorem a2C (y:El) (w:Kw) (oy:ElOk y) :
 zt zv 128 #[.agg y.cells.toArray] w (BR w (.bool (YS y))):=by
 have oy3:=oy.ref;have oy4:=oy.key;have oy5:=oy.id;have oy6:=oy.nm;have oy7:=oy.inn;have oy8:=oy.att;refine BO func128 ntmps128 X λM=>V ?_
 refine CU M X X λg1 w1 hg1 M=>V ?_
 refine CF M 0 X X Bk AM X (CE M X AP λg3 w2 hg3 M=>BX M 0 X X AM X λw3 M=>V ?_);refine gp1 M 0 X X X G4 λw4 M=>yb X (gp1 M 0 X X X G4 λw5 M=>yb X (gp1 M 0 X X X G4 λw6 M=>V ?_))
 refine EZ M 1 X X X (G1 X X (yb X (fvm M 4 [3,1] [(16,.bool ((O ((y.kind.toNat:Int)<1)) || (O (10<(y.kind.toNat:Int)))))] ?_ (λk12=>?_))))
 ·intro w7 M;refine V ?_;refine AC X (λh8=>?_) (λh8=>?_)
  ·have h8p:=bd h8;refine V ?_;exact gr1 X ⟨by rw [YS,Ac h8],M.fr⟩
  have h8p:=bd h8;refine V ?_;refine EZ M 1 X X X (HU X X (V ?_));refine AC X (λh17=>?_) (λh17=>?_)
  ·refine V ?_;refine EZ M 1 X X X (a1d X X (yb X (fvm M 4 [3,1] [(28,.bool ((O ((1:Int)≤y.tries))&&(O (y.tries≤(100:Int)))))] ?_ (λk24=>?_))))
   ·intro w8 M;refine yb X (fvm M 8 [3,1] [(37,.bool (((O ((1:Int)≤y.tries))&&(O (y.tries≤(100:Int))))&&(El.same (⟨[],[],y.kind,[],y.dflt,y.att,y.ev,y.ref,y.key,y.ticks,y.tries⟩:El) (⟨[],[],y.kind,[],[],[],0,[],[],0,y.tries⟩:El))))] ?_ (λk29=>?_))
    ·intro w9 M;refine V ?_;exact gr1 X ⟨by rw [YS,AN h8,Ac h17],M.fr⟩
    refine A1 (d:=29) X (λh29=>?_) (λh29=>?_)
    ·exact yd X (AJ (xs:=[str [],str [],.int .u8 (y.kind.toNat:Int),str [],str y.dflt,str y.att,.int .u8 (y.ev.toNat:Int),str y.ref,str y.key,AA y.ticks,AA y.tries]) X X (M.rdBlk 0 X X) Bk X AM) (gyq X (KW M 1 X X X (gyq X (KW M 1 X X X (yd X (B8 (parts:=[(2,_),(10,_)]) X X (Q6 _ _)) (yd X (iK (a:=(⟨[],[],y.kind,[],y.dflt,y.att,y.ev,y.ref,y.key,y.ticks,y.tries⟩:El)) (b:=(⟨[],[],y.kind,[],[],[],0,[],[],0,y.tries⟩:El)) X X X) (yb X (k29 M))))))))
    iterate 7 refine yo X ?_
    exact yb X (k29 M)
   refine A1 (d:=24) X (λh24=>?_) (λh24=>?_)
   ·exact gyq X (KW M 1 X X X (yd X (NO X X X) (yb X (k24 M))))
   exact yo X (yo X (yo X (yb X (k24 M))))
  have h17p:=odf h17;refine V ?_;refine EZ M 1 X X X (HU X X (V ?_));refine AC X (λh38=>?_) (λh38=>?_)
  ·refine V ?_;refine CF M 0 X X Bk AM X (yb X (EZ M 1 X X X (yb X (EZ M 1 X X X (ya X (B8 (parts:=[(2,_),(4,_)]) X X (R8 _ _)) (ya X (iK (a:=(⟨[],[],y.kind,[],y.dflt,y.att,y.ev,y.ref,y.key,y.ticks,y.tries⟩:El)) (b:=(⟨[],[],y.kind,[],y.dflt,[],0,[],[],0,0⟩:El)) X X X) (V ?_)))))));exact gr1 X ⟨by rw [YS,AN h8,AN h17,Ac h38],M.fr⟩
  have h38p:=odf h38;refine V ?_;refine EZ M 1 X X X (HU X X (yb X (fvm M 4 [3,1] [(57,.bool ((O ((y.kind.toNat:Int)=8)) || (O ((y.kind.toNat:Int)=9))))] ?_ (λk53=>?_))))
  ·intro w10 M;refine V ?_;refine AC X (λh49=>?_) (λh49=>?_)
   ·have h49p:=bd h49;refine V ?_;refine CF M 1 X X Bk AM X (CQ M 59 X X call184 (wH _ _ (by assumption)) λw11 M=>yb X (fvm M 4 [3,1] [(64,.bool ((MY y)&&(O (y.tries=(0:Int)))))] ?_ (λk60=>?_)))
    ·intro w12 M;refine yb X (fvm M 4 [3,1] [(69,.bool (((MY y)&&(O (y.tries=(0:Int))))&&(O (y.dflt=[]))))] ?_ (λk65=>?_))
     ·intro w13 M;refine yb X (fvm M 9 [3,1] [(79,.bool ((((MY y)&&(O (y.tries=(0:Int))))&&(O (y.dflt=[])))&&((O ((y.kind.toNat:Int)=9)) || (O (y.att=[])))))] ?_ (λk70=>?_))
      ·intro w14 M;refine V ?_;exact gr1 X ⟨by rw [YS,AN h8,AN h17,AN h38,Ac h49],M.fr⟩
      refine A1 (d:=70) X (λh70=>?_) (λh70=>?_)
      ·refine gyq X (KW M 1 X X X (yd X (ES X X X) (gyq X (fvm M 4 [70,3,1] [(78,.bool ((O ((y.kind.toNat:Int)=9)) || (O (y.att=[]))))] ?_ (λk74=>?_)))))
       ·intro w15 M;exact yb X (k70 M)
       refine A1 (d:=74) X (λh74=>?_) (λh74=>?_)
       ·exact yo X (yo X (yo X (gyq X (k74 M))))
       exact gyq X (KW M 1 X X X (yd X (IV X X X) (gyq X (k74 M))))
      iterate 4 refine yo X ?_
      exact CW X X X X X (CW X X X X X (CW X X X X X (yo X (yb X (k70 M)))))
     refine A1 (d:=65) X (λh65=>?_) (λh65=>?_)
     ·exact gyq X (KW M 1 X X X (yd X (IV X X X) (yb X (k65 M))))
     exact yo X (yo X (yo X (yb X (k65 M))))
    refine A1 (d:=60) X (λh60=>?_) (λh60=>?_)
    ·exact gyq X (KW M 1 X X X (yd X (ES X X X) (yb X (k60 M))))
    exact yo X (yo X (yo X (yb X (k60 M))))
   refine V ?_;refine CF M 0 X X Bk AM X (yb X (EZ M 1 X X X (ya X (B8 (parts:=[(2,_)]) X X (U7 _)) (ya X (iK (a:=(⟨[],[],y.kind,[],y.dflt,y.att,y.ev,y.ref,y.key,y.ticks,y.tries⟩:El)) (b:=(⟨[],[],y.kind,[],[],[],0,[],[],0,0⟩:El)) X X X) (V ?_)))));exact gr1 X ⟨by rw [YS,AN h8,AN h17,AN h38,AN h49],M.fr⟩
  refine A1 (d:=53) X (λh53=>?_) (λh53=>?_)
  ·exact yo X (yo X (yo X (yb X (k53 M))))
  exact gyq X (KW M 1 X X X (yd X (ES X X X) (yb X (k53 M))))
 refine A1 (d:=12) X (λh12=>?_) (λh12=>?_)
 ·exact yo X (yo X (yo X (yb X (k12 M))))
 exact gyq X (KW M 1 X X X (yd X (LG X X X) (yb X (k12 M))))
def W6 (m:Md) (y:El):Bool:=RR m.els 4 y.inn&&YS y
theorem yD (m:Md) (a:MdA) (ix:IxA) (gx gp:Nat) (y:El) (w:Kw) (oy:ElOk y) (_ho:MdOk m) (hx:IxAt w m a ix gx) (hp:Blk w gp 144 [pg gx]) :
 zt zv 127 #[.agg y.cells.toArray,pg gp] w (BR w (.bool (W6 m y))):=by
 have oy3:=oy.ref;have oy4:=oy.key;have oy5:=oy.id;have oy6:=oy.nm;have oy7:=oy.inn;have oy8:=oy.att;refine BO func127 ntmps127 X λM=>V ?_
 refine CU M X X λg2 w1 hg2 M=>V ?_
 refine EZ M 0 X X X (V ?_);refine EC M [2,1] (λze zF e wr mz=>∃(d:Nat) (q:Kz),e=(4,str q)::(5,AA (d:Int))::ze∧zF wr∧(d≤4)∧(RR m.els 4 y.inn=RR m.els (4-d) q)∧mz=4-d) ⟨0,y.inn,X,M,Aj _,X,X⟩ ?_;rintro _ w2 _ ⟨d,q,rfl,M,hd,hs,rfl⟩;refine V ?_;refine ya X (IU X X X) (V ?_);refine AC X (λh10=>?_) (λh10=>?_)
 ·have h10p:=(odf (CJ h10));refine V ?_;refine yl X X (Blk.c (hp.fr0 M.fr) 0 X) (V ?_);refine yl X X (Blk.c ((hx.fr0 M.fr).blk) 5 X) (yb X (ya X (CH X X X Di Ad AP ((hx.fr0 M.fr).E) (hx.getE _)) (CE M X AP λg6 w3 hg6 M=>BX M 0 X X AM X λw4 M=>V ?_)));refine EZ M 0 X X X (mM X X (yb X (fvm M 3 [6,5,4,2,1] [(25,.bool ((!decide ((((AG m.els q).getD zeroEl).kind.toNat:Int)=10)) || (O ((d:Int)=4))))] ?_ (λk22=>?_))))
  ·intro w5 M;refine V ?_;refine AC X (λh25=>?_) (λh25=>?_)
   ·have h25p:=bd h25;refine V ?_;exact gr1 X ⟨by rw [W6,hs,a1E m.els h10p h25p];rfl,M.fr⟩
   have h25p:=bd h25;refine V ?_;refine EZ M 0 X X X (V ?_);refine D3 X X (V ?_);have h10q:¬q=[]:=h10p;have hd4:¬(d:Int)=4:=h25p.2;have hdlt:d<4:=A0
   refine fag ⟨d+1,((AG m.els q).getD zeroEl).inn,X,(M.pk [1]),?_,?_,X⟩
   ·omega
   rw [hs,nL m.els h10q hdlt h25p.1]
  refine A1 (d:=22) X (λh22=>?_) (λh22=>?_)
  ·exact yo X (yo X (yb X (k22 M)))
  exact gyq X (yd X (ES X X X) (yb X (k22 M)))
 have h10p:=(odt (BL h10));refine V ?_;refine CF M 0 X X Bk AM X (CQ M 29 X X call128 (a2C _ _ (by assumption)) λw6 M=>V ?_);exact gr1 X ⟨by rw [W6,hs,a1F m.els h10p];rfl,M.fr⟩
def LL (m:Md) (y:Fl):Bool:=(((((AG m.els y.frm).isSome&&(AG m.els y.tg).isSome)&&(O (((AG m.els y.frm).getD zeroEl).inn=((AG m.els y.tg).getD zeroEl).inn)))&&(!decide ((((AG m.els y.tg).getD zeroEl).kind.toNat:Int)=(9:Int))))&&(!decide (y.frm=y.tg)))
theorem nI (m:Md) (a:MdA) (ix:IxA) (gx gp:Nat) (y:Fl) (w:Kw) (_ho:MdOk m) (hx:IxAt w m a ix gx) (hp:Blk w gp 144 [pg gx]) :
 zt zv 129 #[.agg y.cells.toArray,pg gp] w (BR w (.bool (LL m y))):=by
 refine BO func129 ntmps129 X λM=>W ?_
 refine CU M X X λg2 w1 hg2 M=>W ?_
 refine I0 M 13 CA λM=>ol 0 13 X X X M (λ_ M=>(Blk.c (hp.fr0 M.fr) 0 X)) (oc 1 13 X X M (oc 2 13 X X M (ol 3 13 X X X M (λ_ M=>(Blk.c ((hx.fr0 M.fr).blk) 5 X)) (oc 4 13 X X M (ol 5 13 X X X M (λ_ M=>(M.cell 0 X X)) (oa 6 13 X X M (λ_ M=>EM X X X Di Ad AP ((hx.fr0 M.fr).E) (hx.getE _) (hx.isE _)) (oc 7 13 X X M (oc 8 13 X X M (oc 9 13 X X M (fon M 10 4 X X AP λg4 w2 hg4 M=>fop M 11 0 X X X AM X (·.drop 1) λw3 M=>oc 12 13 X X (M.drop 1) (fdn (W ?_))))))))))))
 refine I0 M 13 CA λM=>ol 0 13 X X X M (λ_ M=>(Blk.c (hp.fr0 M.fr) 0 X)) (oc 1 13 X X M (oc 2 13 X X M (ol 3 13 X X X M (λ_ M=>(Blk.c ((hx.fr0 M.fr).blk) 5 X)) (oc 4 13 X X M (ol 5 13 X X X M (λ_ M=>(M.cell 1 X X)) (oa 6 13 X X M (λ_ M=>EM X X X Di Ad AP ((hx.fr0 M.fr).E) (hx.getE _) (hx.isE _)) (oc 7 13 X X M (oc 8 13 X X M (oc 9 13 X X M (fon M 10 6 X X AP λg6 w4 hg6 M=>fop M 11 0 X X X AM X (·.drop 1) λw5 M=>oc 12 13 X X (M.drop 1) (fdn (W ?_))))))))))))
 refine fvm M 2 [6,4,3,2] [(31,.bool ((AG m.els y.frm).isSome&&(AG m.els y.tg).isSome))] ?_ (λk29=>?_)
 ·intro w6 M;refine yb X (fvm M 6 [6,3,2] [(38,.bool (((AG m.els y.frm).isSome&&(AG m.els y.tg).isSome)&&(O (((AG m.els y.frm).getD zeroEl).inn=((AG m.els y.tg).getD zeroEl).inn))))] ?_ (λk32=>?_))
  ·intro w7 M;refine yb X (fvm M 4 [3,2] [(43,.bool ((((AG m.els y.frm).isSome&&(AG m.els y.tg).isSome)&&(O (((AG m.els y.frm).getD zeroEl).inn=((AG m.els y.tg).getD zeroEl).inn)))&&(!decide ((((AG m.els y.tg).getD zeroEl).kind.toNat:Int)=9))))] ?_ (λk39=>?_))
   ·intro w8 M;refine yb X (fvm M 6 [3] [(50,.bool (((((AG m.els y.frm).isSome&&(AG m.els y.tg).isSome)&&(O (((AG m.els y.frm).getD zeroEl).inn=((AG m.els y.tg).getD zeroEl).inn)))&&(!decide ((((AG m.els y.tg).getD zeroEl).kind.toNat:Int)=9)))&&(!decide (y.frm=y.tg))))] ?_ (λk44=>?_))
    ·intro w9 M;refine W ?_;exact gr1 X ⟨by rw [LL],M.fr⟩
    refine A1 (d:=44) X (λh44=>?_) (λh44=>?_)
    ·refine T6 ?_;exact k44 M
    refine T6 ?_;exact k44 M
   refine A1 (d:=39) X (λh39=>?_) (λh39=>?_)
   ·refine T4 ?_;exact k39 M
   refine T4 ?_;exact k39 M
  refine A1 (d:=32) X (λh32=>?_) (λh32=>?_)
  ·refine T6 ?_;exact k32 M
  refine T6 ?_;exact k32 M
 refine A1 (d:=29) X (λh29=>?_) (λh29=>?_)
 ·refine T2 ?_;exact k29 M
 refine T2 ?_;exact k29 M
def LY (m:Md) (y:Fl):Bool:=((!decide ((((AG m.els y.tg).getD zeroEl).kind.toNat:Int)=(8:Int))) || (!decide ((((E5 m.fls y.tg).length:Nat):Int)=(1:Int))))
theorem pM (m:Md) (a:MdA) (ix:IxA) (gx gp:Nat) (y:Fl) (w:Kw) (ho:MdOk m) (hx:IxAt w m a ix gx) (hp:Blk w gp 144 [pg gx]) :
 zt zv 132 #[.agg y.cells.toArray,pg gp] w (BR w (.bool (LY m y))):=by
 have hIl:=HT m.fls y.tg;have hnf:=ho.nfls;refine BO func132 ntmps132 X λM=>W ?_
 refine CU M X X λg2 w1 hg2 M=>W ?_
 refine CY CA zr ?_;have M:=M.drew;refine sd X X (Blk.c (hp.fr0 M.fr) 0 X) (T2 ?_);refine sd X X (Blk.c ((hx.fr0 M.fr).blk) 5 X) (W ?_);refine sa X (CH X X X Di Ad AP ((hx.fr0 M.fr).E) (hx.getE _)) (sa X (VW (b:=((AG m.els y.tg).getD zeroEl)) X X) (W ?_));refine fvs 10 [3] [(23,.bool ((!decide ((((AG m.els y.tg).getD zeroEl).kind.toNat:Int)=8)) || (!decide (((E5 m.fls y.tg).length:Int)=1))))] ?_ (λk13=>?_)
 ·refine W ?_;exact gr1 X ⟨by rw [LY],M.fr⟩
 refine C3 (d:=13) X (λh13=>?_) (λh13=>?_)
 ·refine T10 ?_;exact k13 _ ⟨X,(by rw [h13];rfl),zw⟩
 refine gsg X (B3 X X (sc X) (Blk.c (hp.fr0 M.fr) 0 X)) (T2 ?_);refine gsg X (B3 X X (sc X) (Blk.c ((hx.fr0 M.fr).blk) 6 X)) (W ?_);refine gsg X (CH X X X Eb Ad EH ((hx.fr0 M.fr).I) (hx.getI _)) (T3 ?_);exact k13 _ ⟨X,(by rw [h13];rfl),zw⟩
def JA (m:Md) (y:El):Bool:=(if ((O ((y.kind.toNat:Int)=(1:Int))) || (O ((y.kind.toNat:Int)=(9:Int))))=zz then ((O ((((E5 m.fls y.id).length:Nat):Int)=(0:Int)))&&(O ((((BV m.fls y.id).length:Nat):Int)=(1:Int)))) else (if (O ((y.kind.toNat:Int)=(2:Int)))=zz then ((O ((((E5 m.fls y.id).length:Nat):Int)=(1:Int)))&&(O ((((BV m.fls y.id).length:Nat):Int)=(0:Int)))) else (if ((O ((y.kind.toNat:Int)=(5:Int))) || (O ((y.kind.toNat:Int)=(6:Int))))=zz then ((O ((1:Int)≤(((E5 m.fls y.id).length:Nat):Int)))&&(O ((1:Int)≤(((BV m.fls y.id).length:Nat):Int)))) else (if (O ((y.kind.toNat:Int)=(7:Int)))=zz then (if ((O ((((E5 m.fls y.id).length:Nat):Int)=(1:Int)))&&(O ((2:Int)≤(((BV m.fls y.id).length:Nat):Int))))=zz then (!((BV m.fls y.id).any (LY m))) else zy) else ((O ((((E5 m.fls y.id).length:Nat):Int)=(1:Int)))&&(O ((((BV m.fls y.id).length:Nat):Int)=(1:Int))))))))
theorem pL (m:Md) (a:MdA) (ix:IxA) (gx gp:Nat) (y:El) (w:Kw) (oy:ElOk y) (ho:MdOk m) (hx:IxAt w m a ix gx) (hp:Blk w gp 144 [pg gx]) :
 zt zv 130 #[.agg y.cells.toArray,pg gp] w (BR w (.bool (JA m y))):=by
 have oy3:=oy.ref;have oy4:=oy.key;have oy5:=oy.id;have oy6:=oy.nm;have oy7:=oy.inn;have oy8:=oy.att;have hIl:=HT m.fls y.id;have hOl:=F4 m.fls y.id;have hnf:=ho.nfls;refine BO func130 ntmps130 X λM=>W ?_
 refine CU M X X λg2 w1 hg2 M=>W ?_
 refine CY CA zr ?_;have M:=M.drew;refine sd X X (Blk.c (hp.fr0 M.fr) 0 X) (T2 ?_);refine sd X X (Blk.c ((hx.fr0 M.fr).blk) 6 X) (W ?_);refine sa X (CH X X X Eb Ad EH ((hx.fr0 M.fr).I) (hx.getI _)) (sa X (I8 X X (sl X)) (sd X X (Blk.c (hp.fr0 M.fr) 0 X) (T2 ?_)));refine sd X X (Blk.c ((hx.fr0 M.fr).blk) 7 X) (W ?_);refine sa X (CH X X X Eb Ad EH ((hx.fr0 M.fr).O) (hx.getO _)) (W ?_);refine KA [(1,pg gp),(2,pg g2),(4,AA ((E5 m.fls y.id).length:Int)),(5,AA ((BV m.fls y.id).length:Int)),(23,.int .u8 (y.kind.toNat:Int)),(24,.bool ((O ((y.kind.toNat:Int)=1)) || (O ((y.kind.toNat:Int)=9))))] (λw'=>Mem w AR [As.blk g2 106 (El.cells y)] w') ?_ (λk24=>?_)
 ·intro w2 M;refine qx_seq (AC X (λh24=>?_) (λh24=>?_))
  ·have h24p:=bd h24;refine W ?_;refine fvm M 3 [5,4] [(32,.bool ((O (((E5 m.fls y.id).length:Int)=0))&&(O (((BV m.fls y.id).length:Int)=1))))] ?_ (λk29=>?_)
   ·intro w3 M;refine W ?_;exact gr1 X ⟨by rw [JA,Ac h24],M.fr⟩
   refine A1 (d:=29) X (λh29=>?_) (λh29=>?_)
   ·refine T3 ?_;exact k29 M
   refine T3 ?_;exact k29 M
  have h24p:=bd h24;refine W ?_;refine AC X (λh33=>?_) (λh33=>?_)
  ·refine W ?_;refine fvm M 3 [5,4] [(40,.bool ((O (((E5 m.fls y.id).length:Int)=1))&&(O (((BV m.fls y.id).length:Int)=0))))] ?_ (λk37=>?_)
   ·intro w4 M;refine W ?_;exact gr1 X ⟨by rw [JA,AN h24,Ac h33],M.fr⟩
   refine A1 (d:=37) X (λh37=>?_) (λh37=>?_)
   ·refine T3 ?_;exact k37 M
   refine T3 ?_;exact k37 M
  have h33p:=odf h33;refine W ?_;refine KA [(1,pg gp),(2,pg g2),(4,AA ((E5 m.fls y.id).length:Int)),(5,AA ((BV m.fls y.id).length:Int)),(23,.int .u8 (y.kind.toNat:Int)),(41,.bool ((O ((y.kind.toNat:Int)=5)) || (O ((y.kind.toNat:Int)=6))))] (λw'=>Mem w AR [As.blk g2 106 (El.cells y)] w') ?_ (λk41=>?_)
  ·intro w5 M;refine qx_seq (AC X (λh41=>?_) (λh41=>?_))
   ·have h41p:=bd h41;refine W ?_;refine fvm M 3 [5,4] [(49,.bool ((O (1≤((E5 m.fls y.id).length:Int)))&&(O (1≤((BV m.fls y.id).length:Int)))))] ?_ (λk46=>?_)
    ·intro w6 M;refine W ?_;exact gr1 X ⟨by rw [JA,AN h24,AN h33,Ac h41],M.fr⟩
    refine A1 (d:=46) X (λh46=>?_) (λh46=>?_)
    ·refine T3 ?_;exact k46 M
    refine T3 ?_;exact k46 M
   have h41p:=bd h41;refine W ?_;refine AC X (λh50=>?_) (λh50=>?_)
   ·have h50p:=odt h50;refine sx_seq (DZ 15 CA zr ?_);have M:=M.drew;refine W ?_;refine fvs 3 [5,4,2,1] [(57,.bool ((O (((E5 m.fls y.id).length:Int)=1))&&(O (2≤((BV m.fls y.id).length:Int)))))] ?_ (λk54=>?_)
    ·refine sb X (C3 (d:=58) X (λh58=>?_) (λh58=>?_))
     ·have h58p:=bd h58;refine gsg X (B3 X X (sc X) (Blk.c (hp.fr0 M.fr) 0 X)) (T2 ?_);refine gsg X (B3 X X (sc X) (Blk.c ((hx.fr0 M.fr).blk) 7 X)) (W ?_);refine gsg X (CH X X X Eb Ad EH ((hx.fr0 M.fr).O) (hx.getO _)) (gsg X (D8 (us:=[]) (vs:=[pg gp]) X X X) (DA (sxl_call (G 67) kw X X (AE X X call131) (mV _ _ (BV m.fls y.id) (by have:=HT m.fls;have:=F4 m.fls;have:=ho.nfls;have:=ho.nels;have:=ho.nvars;first|omega|exact Bh (HT _ _) A0|exact Bh (F4 _ _) A0) 132 [pg gp] (LY m) _ (J7 call132 (λz hz w9 hf9=>pM m a ix gx gp z w9 ho ((hx.fr0 M.fr).fr0 hf9) ((hp.fr0 M.fr).fr0 hf9))) ((hx.fr0 M.fr).rdO _)) ?_)));rintro _ w7 ⟨rfl,hfw7⟩;refine cq ?_;have M:=M.step hfw7;refine W ?_;exact gr1 X ⟨by rw [JA,AN h24,AN h33,AN h41,Ac h50,Ac h58],M.fr⟩
     have h58p:=bd h58;refine W ?_;exact gr1 X ⟨by rw [JA,AN h24,AN h33,AN h41,Ac h50,AN h58],M.fr⟩
    refine C3 (d:=54) X (λh54=>?_) (λh54=>?_)
    ·refine T3 ?_;exact k54 _ ⟨X,X,X,X,(by rw [h54];rfl),zw⟩
    refine T3 ?_;exact k54 _ ⟨X,X,X,X,(by rw [h54];rfl),zw⟩
   refine W ?_;refine fvm M 3 [] [(75,.bool ((O (((E5 m.fls y.id).length:Int)=1))&&(O (((BV m.fls y.id).length:Int)=1))))] ?_ (λk72=>?_)
   ·intro w8 M;refine W ?_;exact gr1 X ⟨by rw [JA,AN h24,AN h33,AN h41,AN h50],M.fr⟩
   refine A1 (d:=72) X (λh72=>?_) (λh72=>?_)
   ·refine T3 ?_;exact k72 M
   refine T3 ?_;exact k72 M
  refine AC X (λh41=>?_) (λh41=>?_)
  ·exact sx_skip (k41 _ _ M ⟨X,X,X,X,X,(by rw [h41];rfl),zw⟩)
  refine T4 ?_;exact k41 _ _ M ⟨X,X,X,X,X,(by rw [h41];rfl),zw⟩
 refine AC X (λh24=>?_) (λh24=>?_)
 ·exact sx_skip (k24 _ _ M ⟨X,X,X,X,X,(by rw [h24];rfl),zw⟩)
 refine T4 ?_;exact k24 _ _ M ⟨X,X,X,X,X,(by rw [h24];rfl),zw⟩
theorem sJ (y:El) (gy:Nat) (z:Fl) (w:Kw) (hb:Blk w gy 106 y.cells) :
 zt zv 137 #[.agg z.cells.toArray,pg gy] w (BR w (.bool (O (z.id=y.dflt)))):=by
 refine BO func137 ntmps137 X λM=>W ?_
 refine CU M X X λg2 w1 hg2 M=>T8 ?_
 refine yl X X (Blk.c (hb.fr0 M.fr) 4 X) (W ?_);exact gr1 X ⟨X,M.fr⟩
def KK (m:Md) (y:El):Bool:=(if (!decide ((y.kind.toNat:Int)=(5:Int)))=zz then zz else (if (O ((((BV m.fls y.id).length:Nat):Int)=(1:Int)))=zz then (O (y.dflt=[])) else ((BV m.fls y.id).any (λz=>O (z.id=y.dflt)))))
theorem yT (m:Md) (a:MdA) (ix:IxA) (gx gp:Nat) (y:El) (w:Kw) (oy:ElOk y) (ho:MdOk m) (hx:IxAt w m a ix gx) (hp:Blk w gp 144 [pg gx]) :
 zt zv 136 #[.agg y.cells.toArray,pg gp] w (BR w (.bool (KK m y))):=by
 have oy3:=oy.ref;have oy4:=oy.key;have oy5:=oy.id;have oy6:=oy.nm;have oy7:=oy.inn;have oy8:=oy.att;have hOl:=F4 m.fls y.id;have hnf:=ho.nfls;refine BO func136 ntmps136 X λM=>W ?_
 refine CU M X X λg2 w1 hg2 M=>W ?_
 refine CY CA zr ?_;have M:=M.drew;refine sd X X (Blk.c (hp.fr0 M.fr) 0 X) (T2 ?_);refine sd X X (Blk.c ((hx.fr0 M.fr).blk) 7 X) (W ?_);refine sa X (CH X X X Eb Ad EH ((hx.fr0 M.fr).O) (hx.getO _)) (W ?_);refine AC X (λh12=>?_) (λh12=>?_)
 ·refine W ?_;exact gr1 X ⟨by rw [KK,Ac h12],M.fr⟩
 have h12p:=(odt (BL h12));refine W ?_;refine AC X (λh16=>?_) (λh16=>?_)
 ·refine W ?_;exact gr1 X ⟨by rw [KK,AN h12,Ac h16],M.fr⟩
 have h16p:=odf h16;refine W ?_;refine ya X (D8 (us:=[]) (vs:=[pg g2]) X X X) (CQ M 25 X X call131 (mV _ _ (BV m.fls y.id) (by have:=HT m.fls;have:=F4 m.fls;have:=ho.nfls;have:=ho.nels;have:=ho.nvars;first|omega|exact Bh (HT _ _) A0|exact Bh (F4 _ _) A0) 137 [pg g2] (λz=>O (z.id=y.dflt)) _ (J7 call137 (λz hz w9 hf9=>sJ y _ z w9 ((M.blk 0 X).fr0 hf9))) ((hx.fr0 M.fr).rdO _)) λw2 M=>W ?_);exact gr1 X ⟨by rw [KK,AN h12,AN h16],M.fr⟩
def PV (y:El) (z:Bd):Bool:=((O (z.name=(y).key))&&(O ((z.v.kind.toNat:Int)=(3:Int))))
theorem kI (y:El) (gy:Nat) (z:Bd) (w:Kw) (hb:Blk w gy 106 y.cells) :
 zt zv 147 #[.agg z.cells.toArray,pg gy] w (BR w (.bool (PV y z))):=by
 refine BO func147 ntmps147 X λM=>W ?_
 refine CU M X X λg2 w1 hg2 M=>T8 ?_
 refine yl X X (Blk.c (hb.fr0 M.fr) 8 X) (W ?_);refine fvm M 5 [3] [(14,.bool ((O (z.name=(y).key))&&(O ((z.v.kind.toNat:Int)=3))))] ?_ (λk9=>?_)
 ·intro w2 M;refine W ?_;exact gr1 X ⟨by rw [PV],M.fr⟩
 refine A1 (d:=9) X (λh9=>?_) (λh9=>?_)
 ·refine T5 ?_;exact k9 M
 refine T5 ?_;exact k9 M
def MZ (m:Md) (y:El):Bool:=((!decide ((y.ev.toNat:Int)=(2:Int))) || (m.vars.any (PV y)))
theorem pW (m:Md) (a:MdA) (ix:IxA) (gx gp:Nat) (y:El) (w:Kw) (oy:ElOk y) (ho:MdOk m) (hx:IxAt w m a ix gx) (hp:Blk w gp 144 [pg gx]) :
 zt zv 145 #[.agg y.cells.toArray,pg gp] w (BR w (.bool (MZ m y))):=by
 have oy3:=oy.ref;have oy4:=oy.key;have oy5:=oy.id;have oy6:=oy.nm;have oy7:=oy.inn;have oy8:=oy.att;refine BO func145 ntmps145 X λM=>W ?_
 refine CU M X X λg2 w1 hg2 M=>W ?_
 refine fvm M 8 [3] [(15,.bool ((!decide ((y.ev.toNat:Int)=2)) || (m.vars.any (PV y))))] ?_ (λk7=>?_)
 ·intro w2 M;refine W ?_;exact gr1 X ⟨by rw [MZ],M.fr⟩
 refine A1 (d:=7) X (λh7=>?_) (λh7=>?_)
 ·refine T8 ?_;exact k7 M
 refine ym X X (Blk.c (hp.fr0 M.fr) 0 X) (T3 ?_);refine ym X X (Blk.c ((hx.fr0 M.fr).blk) 2 X) (yd X (D8 (us:=[]) (vs:=[pg g2]) X X X) (sxl_call (G 14) kw X X (AE X X call146) (a0W _ _ m.vars (by have:=HT m.fls;have:=F4 m.fls;have:=ho.nfls;have:=ho.nels;have:=ho.nvars;first|omega|exact Bh (HT _ _) A0|exact Bh (F4 _ _) A0) 147 [pg g2] (PV y) _ (J7 call147 (λz hz w9 hf9=>kI y _ z w9 ((M.blk 0 X).fr0 hf9))) (M.rd hx.md.vars)) ?_));rintro _ w3 ⟨rfl,hfw3⟩;refine cq ?_;have M:=M.step hfw3;exact yb X (k7 M)
def L0 (m:Md) (k:Kz):Bool:=(((O ((((AG m.els k).getD zeroEl).kind.toNat:Int)=(5:Int))) || (O ((((AG m.els k).getD zeroEl).kind.toNat:Int)=(6:Int)))) || (O ((((AG m.els k).getD zeroEl).kind.toNat:Int)=(10:Int))))
theorem fH (m:Md) (a:MdA) (ix:IxA) (gx gp:Nat) (k:Kz) (w:Kw) (_ho:MdOk m) (hx:IxAt w m a ix gx) (hp:Blk w gp 144 [pg gx]) :
 zt zv 148 #[str k,pg gp] w (BR w (.bool (L0 m k))):=by
 refine BO func148 ntmps148 X λM=>T7 ?_
 refine yl X X (Blk.c (hp.fr0 M.fr) 0 X) (T2 ?_);refine yl X X (Blk.c ((hx.fr0 M.fr).blk) 5 X) (yb X (ya X (CH X X X Di Ad AP ((hx.fr0 M.fr).E) (hx.getE _)) (ya X (VW (b:=((AG m.els k).getD zeroEl)) X X) (W ?_))));refine fvm M 3 [4,3] [(17,.bool ((O ((((AG m.els k).getD zeroEl).kind.toNat:Int)=5)) || (O ((((AG m.els k).getD zeroEl).kind.toNat:Int)=6))))] ?_ (λk14=>?_)
 ·intro w1 M;refine yb X (fvm M 3 [3] [(21,.bool (((O ((((AG m.els k).getD zeroEl).kind.toNat:Int)=5)) || (O ((((AG m.els k).getD zeroEl).kind.toNat:Int)=6))) || (O ((((AG m.els k).getD zeroEl).kind.toNat:Int)=10))))] ?_ (λk18=>?_))
  ·intro w2 M;refine W ?_;exact gr1 X ⟨by rw [L0],M.fr⟩
  refine A1 (d:=18) X (λh18=>?_) (λh18=>?_)
  ·refine T3 ?_;exact k18 M
  refine T3 ?_;exact k18 M
 refine A1 (d:=14) X (λh14=>?_) (λh14=>?_)
 ·refine T3 ?_;exact k14 M
 refine T3 ?_;exact k14 M
end Go.Proofs.YtppmdnmjepkfaaaGreatDoor
