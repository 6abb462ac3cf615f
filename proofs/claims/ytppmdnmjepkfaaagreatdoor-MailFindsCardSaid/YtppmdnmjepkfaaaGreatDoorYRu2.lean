/- Lemmas. -/
import Derived.Test.YtppmdnmjepkfaaaGreatDoorYRu1
set_option maxHeartbeats 16000000
set_option maxRecDepth 100000
namespace Go.Proofs.YtppmdnmjepkfaaaGreatDoor
open Go.RowKit
open Tryz
def RE (els:List El):Nat→Kz→Bool
 | 0,s=>decide (s=[])
 | n+1,s=>if s=[] then true else decide ((((AF els s).getD zeroEl).kind.toNat:Int)=10)&&RE els n ((AF els s).getD zeroEl).inn
theorem mO (els:List El) {d:Nat} {s:Kz} (h:¬s=[]) (hd:d<4) (hk:(((AF els s).getD zeroEl).kind.toNat:Int)=10):RE els (4-d) s=RE els (4-(d+1)) ((AF els s).getD zeroEl).inn:=by
 rw [show 4-d=(4-(d+1))+1 by omega,RE,if_neg h,decide_eq_true hk];rfl
theorem a0P (els:List El) {d:Nat} {s:Kz} (h:¬s=[]) (hk:¬(((AF els s).getD zeroEl).kind.toNat:Int)=10∨(d:Int)=4):RE els (4-d) s=false:=by
 rcases hk with hk|hk
 ·cases 4-d with
  | zero=>exact decide_eq_false h
  | succ n=>rw [RE,if_neg h,decide_eq_false hk];rfl
 rw [show 4-d=0 by omega];exact decide_eq_false h
theorem a0Q (els:List El) {n:Nat} {s:Kz} (h:s=[]):RE els n s=true:=by
 subst h;cases n<;>simp [RE]
theorem a0d (A:Ky) (c:Nat) (l:List El) (hl:l.length≤4611686018427387904) (f:FuncId) (cs:Kx) (p:El→Bool) (w:Kw) (hP:PredJ prog f cs (λx:El=>.agg x.cells.toArray) l (λ_=>p) AR (λ_ _=>True) w) (hR:Rd w A (l.length*11) (AE El.cells l)) :
 Calls prog 141 #[.slice A l.length c,.func (.func f) #[] cs.toArray] w (BS w (.bool (l.any p))):=
 (uV El.cells El.len A c l hl f cs (λ_=>p) AR (λ_ _=>True) w hP (λ_ hf=>hR.fr0 hf) trivial).mono λ_ _ ⟨h1,_,h2⟩=>⟨by rw [h1,M7],h2⟩
theorem KZ (A:Ky) (c:Nat) (l:List El) (hl:l.length≤4611686018427387904) (f:FuncId) (cs:Kx) (p:El→Bool) (w:Kw) (hP:PredJ prog f cs (λx:El=>.agg x.cells.toArray) l (λ_=>p) AR (λ_ _=>True) w) (hR:Rd w A (l.length*11) (AE El.cells l)) :
 Calls prog 121 #[.slice A l.length c,.func (.func 122) #[] #[],.func (.func f) #[] cs.toArray] w (BS w (.tuple #[str ((ffN (λ_=>p) 0 l).elim [] (λx=>x.id)),.bool (ffN (λ_=>p) 0 l).isSome])):=
 (fK A c l hl f cs (λ_=>p) AR (λ_ _=>True) w hP (λ_ hf=>hR.fr0 hf) trivial).mono λ_ _ ⟨h1,_,h2⟩=>⟨h1,h2⟩
theorem m2 (A:Ky) (c:Nat) (l:List Fl) (hl:l.length≤4611686018427387904) (f:FuncId) (cs:Kx) (p:Fl→Bool) (w:Kw) (hP:PredJ prog f cs (λx:Fl=>.agg x.cells.toArray) l (λ_=>p) AR (λ_ _=>True) w) (hR:Rd w A (l.length*4) (AE Fl.cells l)) :
 Calls prog 131 #[.slice A l.length c,.func (.func f) #[] cs.toArray] w (BS w (.bool (l.any p))):=
 (uU Fl.cells Fl.len A c l hl f cs (λ_=>p) AR (λ_ _=>True) w hP (λ_ hf=>hR.fr0 hf) trivial).mono λ_ _ ⟨h1,_,h2⟩=>⟨by rw [h1,M7],h2⟩
theorem ZM (A:Ky) (c:Nat) (l:List Fl) (hl:l.length≤4611686018427387904) (f:FuncId) (cs:Kx) (p:Fl→Bool) (w:Kw) (hP:PredJ prog f cs (λx:Fl=>.agg x.cells.toArray) l (λ_=>p) AR (λ_ _=>True) w) (hR:Rd w A (l.length*4) (AE Fl.cells l)) :
 Calls prog 124 #[.slice A l.length c,.func (.func 125) #[] #[],.func (.func f) #[] cs.toArray] w (BS w (.tuple #[str ((ffN (λ_=>p) 0 l).elim [] (λx=>x.id)),.bool (ffN (λ_=>p) 0 l).isSome])):=
 (fJ A c l hl f cs (λ_=>p) AR (λ_ _=>True) w hP (λ_ hf=>hR.fr0 hf) trivial).mono λ_ _ ⟨h1,_,h2⟩=>⟨h1,h2⟩
theorem a0e (A:Ky) (c:Nat) (l:List Bd) (hl:l.length≤4611686018427387904) (f:FuncId) (cs:Kx) (p:Bd→Bool) (w:Kw) (hP:PredJ prog f cs (λx:Bd=>.agg x.cells.toArray) l (λ_=>p) AR (λ_ _=>True) w) (hR:Rd w A (l.length*5) (AE Bd.cells l)) :
 Calls prog 146 #[.slice A l.length c,.func (.func f) #[] cs.toArray] w (BS w (.bool (l.any p))):=
 (uW Bd.cells Bd.len A c l hl f cs (λ_=>p) AR (λ_ _=>True) w hP (λ_ hf=>hR.fr0 hf) trivial).mono λ_ _ ⟨h1,_,h2⟩=>⟨by rw [h1,M7],h2⟩
theorem TO (a2:Int):prog.built 106 [(2,.int .u8 a2)]=some #[str [],str [],.int .u8 a2,str [],str [],str [],.int .u8 0,str [],str [],AA 0,AA 0]:=by kernel_rfl
theorem PP (a2:Int) (a10:Int):prog.built 106 [(2,.int .u8 a2),(10,AA a10)]=some #[str [],str [],.int .u8 a2,str [],str [],str [],.int .u8 0,str [],str [],AA 0,AA a10]:=by kernel_rfl
theorem QS (a2:Int) (a4:Kz):prog.built 106 [(2,.int .u8 a2),(4,str a4)]=some #[str [],str [],.int .u8 a2,str [],str a4,str [],.int .u8 0,str [],str [],AA 0,AA 0]:=by kernel_rfl
theorem EH : (prog.info? 46).map (·.zero)=some (some (.slice none 0 0)):=by kernel_rfl
def R5 (l:Kz):Bool:=((decide (((l.length:Nat):Int)≤(1024:Int)))&&(utf l))
theorem kN (l:Kz) (w:Kw) (hl:(l.length:Int)<4611686018427387904) (hT:Laid w utfL) :
 Calls prog 116 #[str l] w (BS w (.bool (R5 l))):=by
 refine BR func116 ntmps116 X λM=>W ?_
 refine ya X (BT X X Aa) (W ?_);refine fvm M 3 [2] [(9,.bool ((decide ((l.length:Int)≤1024))&&(utf l)))] ?_ (λk6=>?_)
 ·intro w1 M;refine W ?_;exact gr1 X ⟨by rw [R5],M.fr⟩
 refine A1 (d:=6) X (λh6=>?_) (λh6=>?_)
 ·refine gyq X (sxl_call (some 8) kw X X (AD X X call67) (N9 _ _ A0 (hT.fr M.fr)) ?_);rintro _ w2 ⟨rfl,hfw2⟩;refine cq ?_;have M:=M.step hfw2;exact yb X (k6 M)
 refine T3 ?_;exact k6 M
def MH (y:El):Bool:=(if (decide ((y.ev.toNat:Int)=(1:Int)))=true then ((((decide ((1:Int)≤y.ticks))&&(decide (y.ticks≤(1048576:Int))))&&(decide (y.ref=[])))&&(decide (y.key=[]))) else (if (decide ((y.ev.toNat:Int)=(2:Int)))=true then (((decide (y.ticks=(0:Int)))&&(B6 y.ref))&&(B6 y.key)) else (if (decide ((y.ev.toNat:Int)=(3:Int)))=true then (((decide (y.ticks=(0:Int)))&&(B6 y.ref))&&(decide (y.key=[]))) else false)))
theorem uM (y:El) (w:Kw) (oy:ElOk y) :
 Calls prog 184 #[.agg y.cells.toArray] w (BS w (.bool (MH y))):=by
 have oy3:=oy.ref;have oy4:=oy.key;have oy5:=oy.id;have oy6:=oy.nm;have oy7:=oy.inn;have oy8:=oy.att;refine BR func184 ntmps184 X λM=>W ?_
 refine CO M X X λg1 w1 hg1 M=>W ?_
 refine AB X (λh5=>?_) (λh5=>?_)
 ·refine W ?_;refine fvm M 4 [2,1] [(14,.bool ((decide ((1:Int)≤y.ticks))&&(decide (y.ticks≤(1048576:Int)))))] ?_ (λk10=>?_)
  ·intro w2 M;refine yb X (fvm M 4 [2,1] [(19,.bool (((decide ((1:Int)≤y.ticks))&&(decide (y.ticks≤(1048576:Int))))&&(decide (y.ref=[]))))] ?_ (λk15=>?_))
   ·intro w3 M;refine yb X (fvm M 4 [2] [(24,.bool ((((decide ((1:Int)≤y.ticks))&&(decide (y.ticks≤(1048576:Int))))&&(decide (y.ref=[])))&&(decide (y.key=[]))))] ?_ (λk20=>?_))
    ·intro w4 M;refine W ?_;exact gr1 X ⟨by rw [MH,if_pos h5],M.fr⟩
    refine A1 (d:=20) X (λh20=>?_) (λh20=>?_)
    ·refine T4 ?_;exact k20 M
    refine T4 ?_;exact k20 M
   refine A1 (d:=15) X (λh15=>?_) (λh15=>?_)
   ·refine T4 ?_;exact k15 M
   refine T4 ?_;exact k15 M
  refine A1 (d:=10) X (λh10=>?_) (λh10=>?_)
  ·refine T4 ?_;exact k10 M
  refine T4 ?_;exact k10 M
 have h5p:=odf h5;refine W ?_;refine AB X (λh25=>?_) (λh25=>?_)
 ·have h25p:=odt h25;refine W ?_;refine fvm M 4 [2,1] [(34,.bool ((decide (y.ticks=(0:Int)))&&(B6 y.ref)))] ?_ (λk30=>?_)
  ·intro w5 M;refine yb X (fvm M 4 [2] [(39,.bool (((decide (y.ticks=(0:Int)))&&(B6 y.ref))&&(B6 y.key)))] ?_ (λk35=>?_))
   ·intro w6 M;refine W ?_;exact gr1 X ⟨by rw [MH,AM h5,if_pos h25],M.fr⟩
   refine A1 (d:=35) X (λh35=>?_) (λh35=>?_)
   ·refine W ?_;refine sxl_call (some 38) kw X X (AD X X call37) (EN _ _ A0) ?_;rintro _ w7 ⟨rfl,hfw7⟩;refine cq ?_;have M:=M.step hfw7;exact yb X (k35 M)
   refine T4 ?_;exact k35 M
  refine A1 (d:=30) X (λh30=>?_) (λh30=>?_)
  ·refine W ?_;refine sxl_call (some 33) kw X X (AD X X call37) (EN _ _ A0) ?_;rintro _ w8 ⟨rfl,hfw8⟩;refine cq ?_;have M:=M.step hfw8;exact yb X (k30 M)
  refine T4 ?_;exact k30 M
 have h25p:=odf h25;refine W ?_;refine AB X (λh40=>?_) (λh40=>?_)
 ·have h40p:=odt h40;refine W ?_;refine fvm M 4 [2,1] [(49,.bool ((decide (y.ticks=(0:Int)))&&(B6 y.ref)))] ?_ (λk45=>?_)
  ·intro w9 M;refine yb X (fvm M 4 [2] [(54,.bool (((decide (y.ticks=(0:Int)))&&(B6 y.ref))&&(decide (y.key=[]))))] ?_ (λk50=>?_))
   ·intro w10 M;refine W ?_;exact gr1 X ⟨by rw [MH,AM h5,AM h25,if_pos h40],M.fr⟩
   refine A1 (d:=50) X (λh50=>?_) (λh50=>?_)
   ·refine T4 ?_;exact k50 M
   refine T4 ?_;exact k50 M
  refine A1 (d:=45) X (λh45=>?_) (λh45=>?_)
  ·refine W ?_;refine sxl_call (some 48) kw X X (AD X X call37) (EN _ _ A0) ?_;rintro _ w11 ⟨rfl,hfw11⟩;refine cq ?_;have M:=M.step hfw11;exact yb X (k45 M)
  refine T4 ?_;exact k45 M
 refine W ?_;exact gr1 X ⟨by rw [MH,AM h5,AM h25,AM h40],M.fr⟩
def YJ (y:El):Bool:=(if ((decide ((y.kind.toNat:Int)<(1:Int))) || (decide ((10:Int)<(y.kind.toNat:Int))))=true then false else (if (decide ((y.kind.toNat:Int)=(4:Int)))=true then (((decide ((1:Int)≤y.tries))&&(decide (y.tries≤(100:Int))))&&(El.same (⟨[],[],y.kind,[],y.dflt,y.att,y.ev,y.ref,y.key,y.ticks,y.tries⟩:El) (⟨[],[],y.kind,[],[],[],0,[],[],0,y.tries⟩:El))) else (if (decide ((y.kind.toNat:Int)=(5:Int)))=true then (El.same (⟨[],[],y.kind,[],y.dflt,y.att,y.ev,y.ref,y.key,y.ticks,y.tries⟩:El) (⟨[],[],y.kind,[],y.dflt,[],0,[],[],0,0⟩:El)) else (if ((decide ((y.kind.toNat:Int)=(8:Int))) || (decide ((y.kind.toNat:Int)=(9:Int))))=true then ((((MH y)&&(decide (y.tries=(0:Int))))&&(decide (y.dflt=[])))&&((decide ((y.kind.toNat:Int)=(9:Int))) || (decide (y.att=[])))) else (El.same (⟨[],[],y.kind,[],y.dflt,y.att,y.ev,y.ref,y.key,y.ticks,y.tries⟩:El) (⟨[],[],y.kind,[],[],[],0,[],[],0,0⟩:El))))))
theorem a1Q (y:El) (w:Kw) (oy:ElOk y) :
 Calls prog 128 #[.agg y.cells.toArray] w (BS w (.bool (YJ y))):=by
 have oy3:=oy.ref;have oy4:=oy.key;have oy5:=oy.id;have oy6:=oy.nm;have oy7:=oy.inn;have oy8:=oy.att;refine BR func128 ntmps128 X λM=>V ?_
 refine CO M X X λg1 w1 hg1 M=>V ?_
 refine CH M 0 X X Bf AJ X (CI M X AP λg3 w2 hg3 M=>BY M 0 X X AJ X λw3 M=>V ?_);refine gp1 M 0 X X X GW λw4 M=>yb X (gp1 M 0 X X X GW λw5 M=>yb X (gp1 M 0 X X X GW λw6 M=>V ?_))
 refine FV M 1 X X X (GB X X (yb X (fvm M 4 [3,1] [(16,.bool ((decide ((y.kind.toNat:Int)<1)) || (decide (10<(y.kind.toNat:Int)))))] ?_ (λk12=>?_))))
 ·intro w7 M;refine V ?_;refine AB X (λh8=>?_) (λh8=>?_)
  ·have h8p:=bd h8;refine V ?_;exact gr1 X ⟨by rw [YJ,if_pos h8],M.fr⟩
  have h8p:=bd h8;refine V ?_;refine FV M 1 X X X (JJ X X (V ?_));refine AB X (λh17=>?_) (λh17=>?_)
  ·refine V ?_;refine FV M 1 X X X (a0q X X (yb X (fvm M 4 [3,1] [(28,.bool ((decide ((1:Int)≤y.tries))&&(decide (y.tries≤(100:Int)))))] ?_ (λk24=>?_))))
   ·intro w8 M;refine yb X (fvm M 8 [3,1] [(37,.bool (((decide ((1:Int)≤y.tries))&&(decide (y.tries≤(100:Int))))&&(El.same (⟨[],[],y.kind,[],y.dflt,y.att,y.ev,y.ref,y.key,y.ticks,y.tries⟩:El) (⟨[],[],y.kind,[],[],[],0,[],[],0,y.tries⟩:El))))] ?_ (λk29=>?_))
    ·intro w9 M;refine V ?_;exact gr1 X ⟨by rw [YJ,AM h8,if_pos h17],M.fr⟩
    refine A1 (d:=29) X (λh29=>?_) (λh29=>?_)
    ·exact yd X (AI (xs:=[str [],str [],.int .u8 (y.kind.toNat:Int),str [],str y.dflt,str y.att,.int .u8 (y.ev.toNat:Int),str y.ref,str y.key,AA y.ticks,AA y.tries]) X X (M.rdBlk 0 X X) Bf X AJ) (gyq X (QK M 1 X X X (gyq X (QK M 1 X X X (yd X (B7 (parts:=[(2,_),(10,_)]) X X (PP _ _)) (yd X (gP (a:=(⟨[],[],y.kind,[],y.dflt,y.att,y.ev,y.ref,y.key,y.ticks,y.tries⟩:El)) (b:=(⟨[],[],y.kind,[],[],[],0,[],[],0,y.tries⟩:El)) X X X) (yb X (k29 M))))))))
    iterate 7 refine yo X ?_
    exact yb X (k29 M)
   refine A1 (d:=24) X (λh24=>?_) (λh24=>?_)
   ·exact gyq X (QK M 1 X X X (yd X (N7 X X X) (yb X (k24 M))))
   exact yo X (yo X (yo X (yb X (k24 M))))
  have h17p:=odf h17;refine V ?_;refine FV M 1 X X X (JJ X X (V ?_));refine AB X (λh38=>?_) (λh38=>?_)
  ·refine V ?_;refine CH M 0 X X Bf AJ X (yb X (FV M 1 X X X (yb X (FV M 1 X X X (ya X (B7 (parts:=[(2,_),(4,_)]) X X (QS _ _)) (ya X (gP (a:=(⟨[],[],y.kind,[],y.dflt,y.att,y.ev,y.ref,y.key,y.ticks,y.tries⟩:El)) (b:=(⟨[],[],y.kind,[],y.dflt,[],0,[],[],0,0⟩:El)) X X X) (V ?_)))))));exact gr1 X ⟨by rw [YJ,AM h8,AM h17,if_pos h38],M.fr⟩
  have h38p:=odf h38;refine V ?_;refine FV M 1 X X X (JJ X X (yb X (fvm M 4 [3,1] [(57,.bool ((decide ((y.kind.toNat:Int)=8)) || (decide ((y.kind.toNat:Int)=9))))] ?_ (λk53=>?_))))
  ·intro w10 M;refine V ?_;refine AB X (λh49=>?_) (λh49=>?_)
   ·have h49p:=bd h49;refine V ?_;refine CH M 1 X X Bf AJ X (CW M 59 X X call184 (uM _ _ (by assumption)) λw11 M=>yb X (fvm M 4 [3,1] [(64,.bool ((MH y)&&(decide (y.tries=(0:Int)))))] ?_ (λk60=>?_)))
    ·intro w12 M;refine yb X (fvm M 4 [3,1] [(69,.bool (((MH y)&&(decide (y.tries=(0:Int))))&&(decide (y.dflt=[]))))] ?_ (λk65=>?_))
     ·intro w13 M;refine yb X (fvm M 9 [3,1] [(79,.bool ((((MH y)&&(decide (y.tries=(0:Int))))&&(decide (y.dflt=[])))&&((decide ((y.kind.toNat:Int)=9)) || (decide (y.att=[])))))] ?_ (λk70=>?_))
      ·intro w14 M;refine V ?_;exact gr1 X ⟨by rw [YJ,AM h8,AM h17,AM h38,if_pos h49],M.fr⟩
      refine A1 (d:=70) X (λh70=>?_) (λh70=>?_)
      ·refine gyq X (QK M 1 X X X (yd X (ES X X X) (gyq X (fvm M 4 [70,3,1] [(78,.bool ((decide ((y.kind.toNat:Int)=9)) || (decide (y.att=[]))))] ?_ (λk74=>?_)))))
       ·intro w15 M;exact yb X (k70 M)
       refine A1 (d:=74) X (λh74=>?_) (λh74=>?_)
       ·exact yo X (yo X (yo X (gyq X (k74 M))))
       exact gyq X (QK M 1 X X X (yd X (GI X X X) (gyq X (k74 M))))
      iterate 4 refine yo X ?_
      exact DZ X X X X X (DZ X X X X X (DZ X X X X X (yo X (yb X (k70 M)))))
     refine A1 (d:=65) X (λh65=>?_) (λh65=>?_)
     ·exact gyq X (QK M 1 X X X (yd X (GI X X X) (yb X (k65 M))))
     exact yo X (yo X (yo X (yb X (k65 M))))
    refine A1 (d:=60) X (λh60=>?_) (λh60=>?_)
    ·exact gyq X (QK M 1 X X X (yd X (ES X X X) (yb X (k60 M))))
    exact yo X (yo X (yo X (yb X (k60 M))))
   refine V ?_;refine CH M 0 X X Bf AJ X (yb X (FV M 1 X X X (ya X (B7 (parts:=[(2,_)]) X X (TO _)) (ya X (gP (a:=(⟨[],[],y.kind,[],y.dflt,y.att,y.ev,y.ref,y.key,y.ticks,y.tries⟩:El)) (b:=(⟨[],[],y.kind,[],[],[],0,[],[],0,0⟩:El)) X X X) (V ?_)))));exact gr1 X ⟨by rw [YJ,AM h8,AM h17,AM h38,AM h49],M.fr⟩
  refine A1 (d:=53) X (λh53=>?_) (λh53=>?_)
  ·exact yo X (yo X (yo X (yb X (k53 M))))
  exact gyq X (QK M 1 X X X (yd X (ES X X X) (yb X (k53 M))))
 refine A1 (d:=12) X (λh12=>?_) (λh12=>?_)
 ·exact yo X (yo X (yo X (yb X (k12 M))))
 exact gyq X (QK M 1 X X X (yd X (JR X X X) (yb X (k12 M))))
def VS (m:Md) (y:El):Bool:=RE m.els 4 y.inn&&YJ y
theorem wL (m:Md) (a:MdA) (ix:IxA) (gx gp:Nat) (y:El) (w:Kw) (oy:ElOk y) (_ho:MdOk m) (hx:IxAt w m a ix gx) (hp:Blk w gp 144 [pg gx]) :
 Calls prog 127 #[.agg y.cells.toArray,pg gp] w (BS w (.bool (VS m y))):=by
 have oy3:=oy.ref;have oy4:=oy.key;have oy5:=oy.id;have oy6:=oy.nm;have oy7:=oy.inn;have oy8:=oy.att;refine BR func127 ntmps127 X λM=>V ?_
 refine CO M X X λg2 w1 hg2 M=>V ?_
 refine FV M 0 X X X (V ?_);refine EF M [2,1] (λze zF e wr mz=>∃(d:Nat) (q:Kz),e=(4,str q)::(5,AA (d:Int))::ze∧zF wr∧(d≤4)∧(RE m.els 4 y.inn=RE m.els (4-d) q)∧mz=4-d) ⟨0,y.inn,X,M,Ae _,X,X⟩ ?_;rintro _ w2 _ ⟨d,q,rfl,M,hd,hs,rfl⟩;refine V ?_;refine ya X (I1 X X X) (V ?_);refine AB X (λh10=>?_) (λh10=>?_)
 ·have h10p:=(odf (CJ h10));refine V ?_;refine yl X X (Blk.c (hp.fr0 M.fr) 0 X) (V ?_);refine yl X X (Blk.c ((hx.fr0 M.fr).blk) 5 X) (yb X (ya X (CD X X X Cx Aa AP ((hx.fr0 M.fr).E) (hx.getE _)) (CI M X AP λg6 w3 hg6 M=>BY M 0 X X AJ X λw4 M=>V ?_)));refine FV M 0 X X X (tY X X (yb X (fvm M 3 [6,5,4,2,1] [(25,.bool ((!decide ((((AF m.els q).getD zeroEl).kind.toNat:Int)=10)) || (decide ((d:Int)=4))))] ?_ (λk22=>?_))))
  ·intro w5 M;refine V ?_;refine AB X (λh25=>?_) (λh25=>?_)
   ·have h25p:=bd h25;refine V ?_;exact gr1 X ⟨by rw [VS,hs,a0P m.els h10p h25p];rfl,M.fr⟩
   have h25p:=bd h25;refine V ?_;refine FV M 0 X X X (V ?_);refine CZ X X (V ?_);have h10q:¬q=[]:=h10p;have hd4:¬(d:Int)=4:=h25p.2;have hdlt:d<4:=by omega
   refine fag ⟨d+1,((AF m.els q).getD zeroEl).inn,X,(M.pk [1]),?_,?_,X⟩
   ·omega
   rw [hs,mO m.els h10q hdlt h25p.1]
  refine A1 (d:=22) X (λh22=>?_) (λh22=>?_)
  ·exact yo X (yo X (yb X (k22 M)))
  exact gyq X (yd X (ES X X X) (yb X (k22 M)))
 have h10p:=(odt (BO h10));refine V ?_;refine CH M 0 X X Bf AJ X (CW M 29 X X call128 (a1Q _ _ (by assumption)) λw6 M=>V ?_);exact gr1 X ⟨by rw [VS,hs,a0Q m.els h10p];rfl,M.fr⟩
def L4 (m:Md) (y:Fl):Bool:=(((((AF m.els y.frm).isSome&&(AF m.els y.tg).isSome)&&(decide (((AF m.els y.frm).getD zeroEl).inn=((AF m.els y.tg).getD zeroEl).inn)))&&(!decide ((((AF m.els y.tg).getD zeroEl).kind.toNat:Int)=(9:Int))))&&(!decide (y.frm=y.tg)))
theorem mM (m:Md) (a:MdA) (ix:IxA) (gx gp:Nat) (y:Fl) (w:Kw) (_ho:MdOk m) (hx:IxAt w m a ix gx) (hp:Blk w gp 144 [pg gx]) :
 Calls prog 129 #[.agg y.cells.toArray,pg gp] w (BS w (.bool (L4 m y))):=by
 refine BR func129 ntmps129 X λM=>W ?_
 refine CO M X X λg2 w1 hg2 M=>W ?_
 refine J2 M 13 CA λM=>ol 0 13 X X X M (λ_ M=>(Blk.c (hp.fr0 M.fr) 0 X)) (oc 1 13 X X M (oc 2 13 X X M (ol 3 13 X X X M (λ_ M=>(Blk.c ((hx.fr0 M.fr).blk) 5 X)) (oc 4 13 X X M (ol 5 13 X X X M (λ_ M=>(M.cell 0 X X)) (oa 6 13 X X M (λ_ M=>EM X X X Cx Aa AP ((hx.fr0 M.fr).E) (hx.getE _) (hx.isE _)) (oc 7 13 X X M (oc 8 13 X X M (oc 9 13 X X M (fon M 10 4 X X AP λg4 w2 hg4 M=>fop M 11 0 X X X AJ X (·.drop 1) λw3 M=>oc 12 13 X X (M.drop 1) (fdn (W ?_))))))))))))
 refine J2 M 13 CA λM=>ol 0 13 X X X M (λ_ M=>(Blk.c (hp.fr0 M.fr) 0 X)) (oc 1 13 X X M (oc 2 13 X X M (ol 3 13 X X X M (λ_ M=>(Blk.c ((hx.fr0 M.fr).blk) 5 X)) (oc 4 13 X X M (ol 5 13 X X X M (λ_ M=>(M.cell 1 X X)) (oa 6 13 X X M (λ_ M=>EM X X X Cx Aa AP ((hx.fr0 M.fr).E) (hx.getE _) (hx.isE _)) (oc 7 13 X X M (oc 8 13 X X M (oc 9 13 X X M (fon M 10 6 X X AP λg6 w4 hg6 M=>fop M 11 0 X X X AJ X (·.drop 1) λw5 M=>oc 12 13 X X (M.drop 1) (fdn (W ?_))))))))))))
 refine fvm M 2 [6,4,3,2] [(31,.bool ((AF m.els y.frm).isSome&&(AF m.els y.tg).isSome))] ?_ (λk29=>?_)
 ·intro w6 M;refine yb X (fvm M 6 [6,3,2] [(38,.bool (((AF m.els y.frm).isSome&&(AF m.els y.tg).isSome)&&(decide (((AF m.els y.frm).getD zeroEl).inn=((AF m.els y.tg).getD zeroEl).inn))))] ?_ (λk32=>?_))
  ·intro w7 M;refine yb X (fvm M 4 [3,2] [(43,.bool ((((AF m.els y.frm).isSome&&(AF m.els y.tg).isSome)&&(decide (((AF m.els y.frm).getD zeroEl).inn=((AF m.els y.tg).getD zeroEl).inn)))&&(!decide ((((AF m.els y.tg).getD zeroEl).kind.toNat:Int)=9))))] ?_ (λk39=>?_))
   ·intro w8 M;refine yb X (fvm M 6 [3] [(50,.bool (((((AF m.els y.frm).isSome&&(AF m.els y.tg).isSome)&&(decide (((AF m.els y.frm).getD zeroEl).inn=((AF m.els y.tg).getD zeroEl).inn)))&&(!decide ((((AF m.els y.tg).getD zeroEl).kind.toNat:Int)=9)))&&(!decide (y.frm=y.tg))))] ?_ (λk44=>?_))
    ·intro w9 M;refine W ?_;exact gr1 X ⟨by rw [L4],M.fr⟩
    refine A1 (d:=44) X (λh44=>?_) (λh44=>?_)
    ·refine T6 ?_;exact k44 M
    refine T6 ?_;exact k44 M
   refine A1 (d:=39) X (λh39=>?_) (λh39=>?_)
   ·refine T4 ?_;exact k39 M
   refine T4 ?_;exact k39 M
  refine A1 (d:=32) X (λh32=>?_) (λh32=>?_)
  ·refine T6 ?_;exact k32 M
  refine T6 ?_;exact k32 M
 refine A1 (d:=29) X (λh29=>?_) (λh29=>?_)
 ·refine T2 ?_;exact k29 M
 refine T2 ?_;exact k29 M
def LL (m:Md) (y:Fl):Bool:=((!decide ((((AF m.els y.tg).getD zeroEl).kind.toNat:Int)=(8:Int))) || (!decide ((((E4 m.fls y.tg).length:Nat):Int)=(1:Int))))
theorem oJ (m:Md) (a:MdA) (ix:IxA) (gx gp:Nat) (y:Fl) (w:Kw) (ho:MdOk m) (hx:IxAt w m a ix gx) (hp:Blk w gp 144 [pg gx]) :
 Calls prog 132 #[.agg y.cells.toArray,pg gp] w (BS w (.bool (LL m y))):=by
 have hIl:=HN m.fls y.tg;have hnf:=ho.nfls;refine BR func132 ntmps132 X λM=>W ?_
 refine CO M X X λg2 w1 hg2 M=>W ?_
 refine CS CA gkr ?_;have M:=M.drew;refine sd X X (Blk.c (hp.fr0 M.fr) 0 X) (T2 ?_);refine sd X X (Blk.c ((hx.fr0 M.fr).blk) 5 X) (W ?_);refine sa X (CD X X X Cx Aa AP ((hx.fr0 M.fr).E) (hx.getE _)) (sa X (VH (b:=((AF m.els y.tg).getD zeroEl)) X X) (W ?_));refine fvs 10 [3] [(23,.bool ((!decide ((((AF m.els y.tg).getD zeroEl).kind.toNat:Int)=8)) || (!decide (((E4 m.fls y.tg).length:Int)=1))))] ?_ (λk13=>?_)
 ·refine W ?_;exact gr1 X ⟨by rw [LL],M.fr⟩
 refine C1 (d:=13) X (λh13=>?_) (λh13=>?_)
 ·refine T10 ?_;exact k13 _ ⟨X,(by rw [h13];rfl),trivial⟩
 refine gsg X (B2 X X (sc X) (Blk.c (hp.fr0 M.fr) 0 X)) (T2 ?_);refine gsg X (B2 X X (sc X) (Blk.c ((hx.fr0 M.fr).blk) 6 X)) (W ?_);refine gsg X (CD X X X Dq Aa EH ((hx.fr0 M.fr).I) (hx.getI _)) (T3 ?_);exact k13 _ ⟨X,(by rw [h13];rfl),trivial⟩
def IZ (m:Md) (y:El):Bool:=(if ((decide ((y.kind.toNat:Int)=(1:Int))) || (decide ((y.kind.toNat:Int)=(9:Int))))=true then ((decide ((((E4 m.fls y.id).length:Nat):Int)=(0:Int)))&&(decide ((((BV m.fls y.id).length:Nat):Int)=(1:Int)))) else (if (decide ((y.kind.toNat:Int)=(2:Int)))=true then ((decide ((((E4 m.fls y.id).length:Nat):Int)=(1:Int)))&&(decide ((((BV m.fls y.id).length:Nat):Int)=(0:Int)))) else (if ((decide ((y.kind.toNat:Int)=(5:Int))) || (decide ((y.kind.toNat:Int)=(6:Int))))=true then ((decide ((1:Int)≤(((E4 m.fls y.id).length:Nat):Int)))&&(decide ((1:Int)≤(((BV m.fls y.id).length:Nat):Int)))) else (if (decide ((y.kind.toNat:Int)=(7:Int)))=true then (if ((decide ((((E4 m.fls y.id).length:Nat):Int)=(1:Int)))&&(decide ((2:Int)≤(((BV m.fls y.id).length:Nat):Int))))=true then (!((BV m.fls y.id).any (LL m))) else false) else ((decide ((((E4 m.fls y.id).length:Nat):Int)=(1:Int)))&&(decide ((((BV m.fls y.id).length:Nat):Int)=(1:Int))))))))
theorem oI (m:Md) (a:MdA) (ix:IxA) (gx gp:Nat) (y:El) (w:Kw) (oy:ElOk y) (ho:MdOk m) (hx:IxAt w m a ix gx) (hp:Blk w gp 144 [pg gx]) :
 Calls prog 130 #[.agg y.cells.toArray,pg gp] w (BS w (.bool (IZ m y))):=by
 have oy3:=oy.ref;have oy4:=oy.key;have oy5:=oy.id;have oy6:=oy.nm;have oy7:=oy.inn;have oy8:=oy.att;have hIl:=HN m.fls y.id;have hOl:=F3 m.fls y.id;have hnf:=ho.nfls;refine BR func130 ntmps130 X λM=>W ?_
 refine CO M X X λg2 w1 hg2 M=>W ?_
 refine CS CA gkr ?_;have M:=M.drew;refine sd X X (Blk.c (hp.fr0 M.fr) 0 X) (T2 ?_);refine sd X X (Blk.c ((hx.fr0 M.fr).blk) 6 X) (W ?_);refine sa X (CD X X X Dq Aa EH ((hx.fr0 M.fr).I) (hx.getI _)) (sa X (I7 X X (sl X)) (sd X X (Blk.c (hp.fr0 M.fr) 0 X) (T2 ?_)));refine sd X X (Blk.c ((hx.fr0 M.fr).blk) 7 X) (W ?_);refine sa X (CD X X X Dq Aa EH ((hx.fr0 M.fr).O) (hx.getO _)) (W ?_);refine K5 [(1,pg gp),(2,pg g2),(4,AA ((E4 m.fls y.id).length:Int)),(5,AA ((BV m.fls y.id).length:Int)),(23,.int .u8 (y.kind.toNat:Int)),(24,.bool ((decide ((y.kind.toNat:Int)=1)) || (decide ((y.kind.toNat:Int)=9))))] (λw'=>Mem w AR [As.blk g2 106 (El.cells y)] w') ?_ (λk24=>?_)
 ·intro w2 M;refine qx_seq (AB X (λh24=>?_) (λh24=>?_))
  ·have h24p:=bd h24;refine W ?_;refine fvm M 3 [5,4] [(32,.bool ((decide (((E4 m.fls y.id).length:Int)=0))&&(decide (((BV m.fls y.id).length:Int)=1))))] ?_ (λk29=>?_)
   ·intro w3 M;refine W ?_;exact gr1 X ⟨by rw [IZ,if_pos h24],M.fr⟩
   refine A1 (d:=29) X (λh29=>?_) (λh29=>?_)
   ·refine T3 ?_;exact k29 M
   refine T3 ?_;exact k29 M
  have h24p:=bd h24;refine W ?_;refine AB X (λh33=>?_) (λh33=>?_)
  ·refine W ?_;refine fvm M 3 [5,4] [(40,.bool ((decide (((E4 m.fls y.id).length:Int)=1))&&(decide (((BV m.fls y.id).length:Int)=0))))] ?_ (λk37=>?_)
   ·intro w4 M;refine W ?_;exact gr1 X ⟨by rw [IZ,AM h24,if_pos h33],M.fr⟩
   refine A1 (d:=37) X (λh37=>?_) (λh37=>?_)
   ·refine T3 ?_;exact k37 M
   refine T3 ?_;exact k37 M
  have h33p:=odf h33;refine W ?_;refine K5 [(1,pg gp),(2,pg g2),(4,AA ((E4 m.fls y.id).length:Int)),(5,AA ((BV m.fls y.id).length:Int)),(23,.int .u8 (y.kind.toNat:Int)),(41,.bool ((decide ((y.kind.toNat:Int)=5)) || (decide ((y.kind.toNat:Int)=6))))] (λw'=>Mem w AR [As.blk g2 106 (El.cells y)] w') ?_ (λk41=>?_)
  ·intro w5 M;refine qx_seq (AB X (λh41=>?_) (λh41=>?_))
   ·have h41p:=bd h41;refine W ?_;refine fvm M 3 [5,4] [(49,.bool ((decide (1≤((E4 m.fls y.id).length:Int)))&&(decide (1≤((BV m.fls y.id).length:Int)))))] ?_ (λk46=>?_)
    ·intro w6 M;refine W ?_;exact gr1 X ⟨by rw [IZ,AM h24,AM h33,if_pos h41],M.fr⟩
    refine A1 (d:=46) X (λh46=>?_) (λh46=>?_)
    ·refine T3 ?_;exact k46 M
    refine T3 ?_;exact k46 M
   have h41p:=bd h41;refine W ?_;refine AB X (λh50=>?_) (λh50=>?_)
   ·have h50p:=odt h50;refine sx_seq (EB 15 CA gkr ?_);have M:=M.drew;refine W ?_;refine fvs 3 [5,4,2,1] [(57,.bool ((decide (((E4 m.fls y.id).length:Int)=1))&&(decide (2≤((BV m.fls y.id).length:Int)))))] ?_ (λk54=>?_)
    ·refine sb X (C1 (d:=58) X (λh58=>?_) (λh58=>?_))
     ·have h58p:=bd h58;refine gsg X (B2 X X (sc X) (Blk.c (hp.fr0 M.fr) 0 X)) (T2 ?_);refine gsg X (B2 X X (sc X) (Blk.c ((hx.fr0 M.fr).blk) 7 X)) (W ?_);refine gsg X (CD X X X Dq Aa EH ((hx.fr0 M.fr).O) (hx.getO _)) (gsg X (CY (us:=[]) (vs:=[pg gp]) X X X) (D6 (sxl_call (some 67) kw X X (AD X X call131) (m2 _ _ (BV m.fls y.id) (by have:=HN m.fls;have:=F3 m.fls;have:=ho.nfls;have:=ho.nels;have:=ho.nvars;first|omega|exact Bb (HN _ _) A0|exact Bb (F3 _ _) A0) 132 [pg gp] (LL m) _ (IW call132 (λz hz w9 hf9=>oJ m a ix gx gp z w9 ho ((hx.fr0 M.fr).fr0 hf9) ((hp.fr0 M.fr).fr0 hf9))) ((hx.fr0 M.fr).rdO _)) ?_)));rintro _ w7 ⟨rfl,hfw7⟩;refine cq ?_;have M:=M.step hfw7;refine W ?_;exact gr1 X ⟨by rw [IZ,AM h24,AM h33,AM h41,if_pos h50,if_pos h58],M.fr⟩
     have h58p:=bd h58;refine W ?_;exact gr1 X ⟨by rw [IZ,AM h24,AM h33,AM h41,if_pos h50,AM h58],M.fr⟩
    refine C1 (d:=54) X (λh54=>?_) (λh54=>?_)
    ·refine T3 ?_;exact k54 _ ⟨X,X,X,X,(by rw [h54];rfl),trivial⟩
    refine T3 ?_;exact k54 _ ⟨X,X,X,X,(by rw [h54];rfl),trivial⟩
   refine W ?_;refine fvm M 3 [] [(75,.bool ((decide (((E4 m.fls y.id).length:Int)=1))&&(decide (((BV m.fls y.id).length:Int)=1))))] ?_ (λk72=>?_)
   ·intro w8 M;refine W ?_;exact gr1 X ⟨by rw [IZ,AM h24,AM h33,AM h41,AM h50],M.fr⟩
   refine A1 (d:=72) X (λh72=>?_) (λh72=>?_)
   ·refine T3 ?_;exact k72 M
   refine T3 ?_;exact k72 M
  refine AB X (λh41=>?_) (λh41=>?_)
  ·exact sx_skip (k41 _ _ M ⟨X,X,X,X,X,(by rw [h41];rfl),trivial⟩)
  refine T4 ?_;exact k41 _ _ M ⟨X,X,X,X,X,(by rw [h41];rfl),trivial⟩
 refine AB X (λh24=>?_) (λh24=>?_)
 ·exact sx_skip (k24 _ _ M ⟨X,X,X,X,X,(by rw [h24];rfl),trivial⟩)
 refine T4 ?_;exact k24 _ _ M ⟨X,X,X,X,X,(by rw [h24];rfl),trivial⟩
theorem r8 (y:El) (gy:Nat) (z:Fl) (w:Kw) (hb:Blk w gy 106 y.cells) :
 Calls prog 137 #[.agg z.cells.toArray,pg gy] w (BS w (.bool (decide (z.id=y.dflt)))):=by
 refine BR func137 ntmps137 X λM=>W ?_
 refine CO M X X λg2 w1 hg2 M=>T8 ?_
 refine yl X X (Blk.c (hb.fr0 M.fr) 4 X) (W ?_);exact gr1 X ⟨X,M.fr⟩
def KC (m:Md) (y:El):Bool:=(if (!decide ((y.kind.toNat:Int)=(5:Int)))=true then true else (if (decide ((((BV m.fls y.id).length:Nat):Int)=(1:Int)))=true then (decide (y.dflt=[])) else ((BV m.fls y.id).any (λz=>decide (z.id=y.dflt)))))
theorem xA (m:Md) (a:MdA) (ix:IxA) (gx gp:Nat) (y:El) (w:Kw) (oy:ElOk y) (ho:MdOk m) (hx:IxAt w m a ix gx) (hp:Blk w gp 144 [pg gx]) :
 Calls prog 136 #[.agg y.cells.toArray,pg gp] w (BS w (.bool (KC m y))):=by
 have oy3:=oy.ref;have oy4:=oy.key;have oy5:=oy.id;have oy6:=oy.nm;have oy7:=oy.inn;have oy8:=oy.att;have hOl:=F3 m.fls y.id;have hnf:=ho.nfls;refine BR func136 ntmps136 X λM=>W ?_
 refine CO M X X λg2 w1 hg2 M=>W ?_
 refine CS CA gkr ?_;have M:=M.drew;refine sd X X (Blk.c (hp.fr0 M.fr) 0 X) (T2 ?_);refine sd X X (Blk.c ((hx.fr0 M.fr).blk) 7 X) (W ?_);refine sa X (CD X X X Dq Aa EH ((hx.fr0 M.fr).O) (hx.getO _)) (W ?_);refine AB X (λh12=>?_) (λh12=>?_)
 ·refine W ?_;exact gr1 X ⟨by rw [KC,if_pos h12],M.fr⟩
 have h12p:=(odt (BO h12));refine W ?_;refine AB X (λh16=>?_) (λh16=>?_)
 ·refine W ?_;exact gr1 X ⟨by rw [KC,AM h12,if_pos h16],M.fr⟩
 have h16p:=odf h16;refine W ?_;refine ya X (CY (us:=[]) (vs:=[pg g2]) X X X) (CW M 25 X X call131 (m2 _ _ (BV m.fls y.id) (by have:=HN m.fls;have:=F3 m.fls;have:=ho.nfls;have:=ho.nels;have:=ho.nvars;first|omega|exact Bb (HN _ _) A0|exact Bb (F3 _ _) A0) 137 [pg g2] (λz=>decide (z.id=y.dflt)) _ (IW call137 (λz hz w9 hf9=>r8 y _ z w9 ((M.blk 0 X).fr0 hf9))) ((hx.fr0 M.fr).rdO _)) λw2 M=>W ?_);exact gr1 X ⟨by rw [KC,AM h12,AM h16],M.fr⟩
def PC (y:El) (z:Bd):Bool:=((decide (z.name=(y).key))&&(decide ((z.v.kind.toNat:Int)=(3:Int))))
theorem jH (y:El) (gy:Nat) (z:Bd) (w:Kw) (hb:Blk w gy 106 y.cells) :
 Calls prog 147 #[.agg z.cells.toArray,pg gy] w (BS w (.bool (PC y z))):=by
 refine BR func147 ntmps147 X λM=>W ?_
 refine CO M X X λg2 w1 hg2 M=>T8 ?_
 refine yl X X (Blk.c (hb.fr0 M.fr) 8 X) (W ?_);refine fvm M 5 [3] [(14,.bool ((decide (z.name=(y).key))&&(decide ((z.v.kind.toNat:Int)=3))))] ?_ (λk9=>?_)
 ·intro w2 M;refine W ?_;exact gr1 X ⟨by rw [PC],M.fr⟩
 refine A1 (d:=9) X (λh9=>?_) (λh9=>?_)
 ·refine T5 ?_;exact k9 M
 refine T5 ?_;exact k9 M
def MI (m:Md) (y:El):Bool:=((!decide ((y.ev.toNat:Int)=(2:Int))) || (m.vars.any (PC y)))
theorem oR (m:Md) (a:MdA) (ix:IxA) (gx gp:Nat) (y:El) (w:Kw) (oy:ElOk y) (ho:MdOk m) (hx:IxAt w m a ix gx) (hp:Blk w gp 144 [pg gx]) :
 Calls prog 145 #[.agg y.cells.toArray,pg gp] w (BS w (.bool (MI m y))):=by
 have oy3:=oy.ref;have oy4:=oy.key;have oy5:=oy.id;have oy6:=oy.nm;have oy7:=oy.inn;have oy8:=oy.att;refine BR func145 ntmps145 X λM=>W ?_
 refine CO M X X λg2 w1 hg2 M=>W ?_
 refine fvm M 8 [3] [(15,.bool ((!decide ((y.ev.toNat:Int)=2)) || (m.vars.any (PC y))))] ?_ (λk7=>?_)
 ·intro w2 M;refine W ?_;exact gr1 X ⟨by rw [MI],M.fr⟩
 refine A1 (d:=7) X (λh7=>?_) (λh7=>?_)
 ·refine T8 ?_;exact k7 M
 refine ym X X (Blk.c (hp.fr0 M.fr) 0 X) (T3 ?_);refine ym X X (Blk.c ((hx.fr0 M.fr).blk) 2 X) (yd X (CY (us:=[]) (vs:=[pg g2]) X X X) (sxl_call (some 14) kw X X (AD X X call146) (a0e _ _ m.vars (by have:=HN m.fls;have:=F3 m.fls;have:=ho.nfls;have:=ho.nels;have:=ho.nvars;first|omega|exact Bb (HN _ _) A0|exact Bb (F3 _ _) A0) 147 [pg g2] (PC y) _ (IW call147 (λz hz w9 hf9=>jH y _ z w9 ((M.blk 0 X).fr0 hf9))) (M.rd hx.md.vars)) ?_));rintro _ w3 ⟨rfl,hfw3⟩;refine cq ?_;have M:=M.step hfw3;exact yb X (k7 M)
def KP (m:Md) (k:Kz):Bool:=(((decide ((((AF m.els k).getD zeroEl).kind.toNat:Int)=(5:Int))) || (decide ((((AF m.els k).getD zeroEl).kind.toNat:Int)=(6:Int)))) || (decide ((((AF m.els k).getD zeroEl).kind.toNat:Int)=(10:Int))))
theorem eQ (m:Md) (a:MdA) (ix:IxA) (gx gp:Nat) (k:Kz) (w:Kw) (_ho:MdOk m) (hx:IxAt w m a ix gx) (hp:Blk w gp 144 [pg gx]) :
 Calls prog 148 #[str k,pg gp] w (BS w (.bool (KP m k))):=by
 refine BR func148 ntmps148 X λM=>T7 ?_
 refine yl X X (Blk.c (hp.fr0 M.fr) 0 X) (T2 ?_);refine yl X X (Blk.c ((hx.fr0 M.fr).blk) 5 X) (yb X (ya X (CD X X X Cx Aa AP ((hx.fr0 M.fr).E) (hx.getE _)) (ya X (VH (b:=((AF m.els k).getD zeroEl)) X X) (W ?_))));refine fvm M 3 [4,3] [(17,.bool ((decide ((((AF m.els k).getD zeroEl).kind.toNat:Int)=5)) || (decide ((((AF m.els k).getD zeroEl).kind.toNat:Int)=6))))] ?_ (λk14=>?_)
 ·intro w1 M;refine yb X (fvm M 3 [3] [(21,.bool (((decide ((((AF m.els k).getD zeroEl).kind.toNat:Int)=5)) || (decide ((((AF m.els k).getD zeroEl).kind.toNat:Int)=6))) || (decide ((((AF m.els k).getD zeroEl).kind.toNat:Int)=10))))] ?_ (λk18=>?_))
  ·intro w2 M;refine W ?_;exact gr1 X ⟨by rw [KP],M.fr⟩
  refine A1 (d:=18) X (λh18=>?_) (λh18=>?_)
  ·refine T3 ?_;exact k18 M
  refine T3 ?_;exact k18 M
 refine A1 (d:=14) X (λh14=>?_) (λh14=>?_)
 ·refine T3 ?_;exact k14 M
 refine T3 ?_;exact k14 M
end Go.Proofs.YtppmdnmjepkfaaaGreatDoor
