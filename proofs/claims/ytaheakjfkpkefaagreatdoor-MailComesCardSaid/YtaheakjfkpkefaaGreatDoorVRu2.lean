/- Lemmas. -/
import Derived.Test.YtaheakjfkpkefaaGreatDoorVRu1
set_option maxHeartbeats 16000000
set_option maxRecDepth 100000
namespace Go.Proofs.YtaheakjfkpkefaaGreatDoor
open Go.RowKit
open Tryz
def Q3 (els:List El):Nat→List UInt8→Bool
 | 0,s=>decide (s=[])
 | n+1,s=>if s=[] then true else decide ((((BA els s).getD zeroEl).kind.toNat:Int)=10)&&Q3 els n ((BA els s).getD zeroEl).inn
theorem fL (els:List El) {d:Nat} {s:List UInt8} (h:¬s=[]) (hd:d<4) (hk:(((BA els s).getD zeroEl).kind.toNat:Int)=10):Q3 els (4-d) s=Q3 els (4-(d+1)) ((BA els s).getD zeroEl).inn:=by
 rw [show 4-d=(4-(d+1))+1 by omega,Q3,if_neg h,decide_eq_true hk];rfl
theorem vP (els:List El) {d:Nat} {s:List UInt8} (h:¬s=[]) (hk:¬(((BA els s).getD zeroEl).kind.toNat:Int)=10∨(d:Int)=4):Q3 els (4-d) s=false:=by
 rcases hk with hk|hk
 ·cases 4-d with
  | zero=>exact decide_eq_false h
  | succ n=>rw [Q3,if_neg h,decide_eq_false hk];rfl
 ·rw [show 4-d=0 by omega];exact decide_eq_false h
theorem vQ (els:List El) {n:Nat} {s:List UInt8} (h:s=[]):Q3 els n s=true:=by
 subst h;cases n<;>simp [Q3]
theorem uG (A:Option Addr) (c:Nat) (l:List El) (hl:l.length≤4611686018427387904) (f:FuncId) (cs:List Value) (p:El→Bool) (w:World) (hP:PredJ prog f cs (λx:El=>.agg x.cells.toArray) l (λ_=>p) AR (λ_ _=>True) w) (hR:Rd w A (l.length*11) (AD El.cells l)) :
 Calls prog 130 #[.slice A l.length c,.func (.func f) #[] cs.toArray] w (BI w (.bool (l.any p))):=
 (oR El.cells El.len A c l hl f cs (λ_=>p) AR (λ_ _=>True) w hP (λ_ hf=>hR.fr0 hf) trivial).mono λ_ _ ⟨h1,_,h2⟩=>⟨by rw [h1,JT],h2⟩
theorem IZ (A:Option Addr) (c:Nat) (l:List El) (hl:l.length≤4611686018427387904) (f:FuncId) (cs:List Value) (p:El→Bool) (w:World) (hP:PredJ prog f cs (λx:El=>.agg x.cells.toArray) l (λ_=>p) AR (λ_ _=>True) w) (hR:Rd w A (l.length*11) (AD El.cells l)) :
 Calls prog 110 #[.slice A l.length c,.func (.func 111) #[] #[],.func (.func f) #[] cs.toArray] w (BI w (.tuple #[str ((ffN (λ_=>p) 0 l).elim [] (λx=>x.id)),.bool (ffN (λ_=>p) 0 l).isSome])):=
 (ZD A c l hl f cs (λ_=>p) AR (λ_ _=>True) w hP (λ_ hf=>hR.fr0 hf) trivial).mono λ_ _ ⟨h1,_,h2⟩=>⟨h1,h2⟩
theorem eW (A:Option Addr) (c:Nat) (l:List Fl) (hl:l.length≤4611686018427387904) (f:FuncId) (cs:List Value) (p:Fl→Bool) (w:World) (hP:PredJ prog f cs (λx:Fl=>.agg x.cells.toArray) l (λ_=>p) AR (λ_ _=>True) w) (hR:Rd w A (l.length*4) (AD Fl.cells l)) :
 Calls prog 120 #[.slice A l.length c,.func (.func f) #[] cs.toArray] w (BI w (.bool (l.any p))):=
 (oQ Fl.cells Fl.len A c l hl f cs (λ_=>p) AR (λ_ _=>True) w hP (λ_ hf=>hR.fr0 hf) trivial).mono λ_ _ ⟨h1,_,h2⟩=>⟨by rw [h1,JT],h2⟩
theorem VK (A:Option Addr) (c:Nat) (l:List Fl) (hl:l.length≤4611686018427387904) (f:FuncId) (cs:List Value) (p:Fl→Bool) (w:World) (hP:PredJ prog f cs (λx:Fl=>.agg x.cells.toArray) l (λ_=>p) AR (λ_ _=>True) w) (hR:Rd w A (l.length*4) (AD Fl.cells l)) :
 Calls prog 113 #[.slice A l.length c,.func (.func 114) #[] #[],.func (.func f) #[] cs.toArray] w (BI w (.tuple #[str ((ffN (λ_=>p) 0 l).elim [] (λx=>x.id)),.bool (ffN (λ_=>p) 0 l).isSome])):=
 (ZC A c l hl f cs (λ_=>p) AR (λ_ _=>True) w hP (λ_ hf=>hR.fr0 hf) trivial).mono λ_ _ ⟨h1,_,h2⟩=>⟨h1,h2⟩
theorem uH (A:Option Addr) (c:Nat) (l:List Bd) (hl:l.length≤4611686018427387904) (f:FuncId) (cs:List Value) (p:Bd→Bool) (w:World) (hP:PredJ prog f cs (λx:Bd=>.agg x.cells.toArray) l (λ_=>p) AR (λ_ _=>True) w) (hR:Rd w A (l.length*5) (AD Bd.cells l)) :
 Calls prog 134 #[.slice A l.length c,.func (.func f) #[] cs.toArray] w (BI w (.bool (l.any p))):=
 (oS Bd.cells Bd.len A c l hl f cs (λ_=>p) AR (λ_ _=>True) w hP (λ_ hf=>hR.fr0 hf) trivial).mono λ_ _ ⟨h1,_,h2⟩=>⟨by rw [h1,JT],h2⟩
theorem QQ (a2:Int):prog.built 95 [(2,.int .u8 a2)]=some #[str [],str [],.int .u8 a2,str [],str [],str [],.int .u8 0,str [],str [],AC 0,AC 0]:=by kernel_rfl
theorem NT (a2:Int) (a10:Int):prog.built 95 [(2,.int .u8 a2),(10,AC a10)]=some #[str [],str [],.int .u8 a2,str [],str [],str [],.int .u8 0,str [],str [],AC 0,AC a10]:=by kernel_rfl
theorem ON (a2:Int) (a4:List UInt8):prog.built 95 [(2,.int .u8 a2),(4,str a4)]=some #[str [],str [],.int .u8 a2,str [],str a4,str [],.int .u8 0,str [],str [],AC 0,AC 0]:=by kernel_rfl
theorem zr_sl_api_Flow : (prog.info? 60).map (·.zero)=some (some (.slice none 0 0)):=by kernel_rfl
def SG (l:List UInt8):Bool:=((decide (((l.length:Nat):Int)≤(1024:Int)))&&(utf l))
theorem cS (l:List UInt8) (w:World) (hl:(l.length:Int)<4611686018427387904) (hT:Laid w utfL) :
 Calls prog 105 #[str l] w (BI w (.bool (SG l))):=by
 refine BH func105 ntmps105 X λM=>srg (AJ X (AE X (ya X (FU X X underlying9) (MT X X (yb X (fvm M 3 [2] [(9,.bool ((decide ((l.length:Int)≤1024))&&(utf l)))] ?_ (λk6=>?_)))))))
 ·intro w1 M;exact yb X (gnr (gr1 X ⟨by rw [SG],M.fr⟩))
 refine AI (d:=6) X (λh6=>?_) (λh6=>?_)
 ·refine gyq X (sxl_call (some 8) (wn_on X X X) X X (AG X X call102) (L2 _ _ AA (hT.fr M.fr)) ?_);rintro _ w2 ⟨rfl,hfw2⟩;refine ⟨_,X,?_⟩;have M:=M.step hfw2;exact yb X (k6 M ⟨X,(by rw [h6];rfl),trivial⟩)
 ·exact yo X (yo X (yb X (k6 M ⟨X,(by rw [h6];rfl),trivial⟩)))
def LJ (y:El):Bool:=(if (decide ((y.ev.toNat:Int)=(1:Int)))=true then ((((decide ((1:Int)≤y.ticks))&&(decide (y.ticks≤(1048576:Int))))&&(decide (y.ref=[])))&&(decide (y.key=[]))) else (if (decide ((y.ev.toNat:Int)=(2:Int)))=true then (((decide (y.ticks=(0:Int)))&&(CG y.ref))&&(CG y.key)) else (if (decide ((y.ev.toNat:Int)=(3:Int)))=true then (((decide (y.ticks=(0:Int)))&&(CG y.ref))&&(decide (y.key=[]))) else false)))
theorem o9 (y:El) (w:World) (oy:ElOk y) :
 Calls prog 164 #[.agg y.cells.toArray] w (BI w (.bool (LJ y))):=by
 have oy3:=oy.ref;have oy4:=oy.key;have oy5:=oy.id;have oy6:=oy.nm;have oy7:=oy.inn;have oy8:=oy.att;refine BH func164 ntmps164 X λM=>srg (CC M X X λg1 w1 hg1 M=>AJ X (sx_seq (AE X (AU M 0 X X X (nq (sx_block ?_))))))
 refine srg (BZ X X (AJ X (AF X (λh5=>?_) (λh5=>?_))))
 ·refine AE X (AU M 0 X X X (JU X X (yb X (fvm M 4 [2,1] [(14,.bool ((decide ((1:Int)≤y.ticks))&&(decide (y.ticks≤(1048576:Int)))))] ?_ (λk10=>?_)))))
  ·intro w2 M;refine yb X (fvm M 4 [2,1] [(19,.bool (((decide ((1:Int)≤y.ticks))&&(decide (y.ticks≤(1048576:Int))))&&(decide (y.ref=[]))))] ?_ (λk15=>?_))
   ·intro w3 M;refine yb X (fvm M 4 [2] [(24,.bool ((((decide ((1:Int)≤y.ticks))&&(decide (y.ticks≤(1048576:Int))))&&(decide (y.ref=[])))&&(decide (y.key=[]))))] ?_ (λk20=>?_))
    ·intro w4 M;exact yb X (gnr (qx_block_ret (qx_then_ret (gr1 X ⟨by rw [LJ,if_pos h5],M.fr⟩))))
    refine AI (d:=20) X (λh20=>?_) (λh20=>?_)
    ·exact gyq X (CE M 0 X X X (yd X (CX X X X) (yb X (k20 M ⟨X,(by rw [h20];rfl),trivial⟩))))
    ·exact yo X (yo X (yo X (yb X (k20 M ⟨X,(by rw [h20];rfl),trivial⟩))))
   refine AI (d:=15) X (λh15=>?_) (λh15=>?_)
   ·exact gyq X (CE M 0 X X X (yd X (CX X X X) (yb X (k15 M ⟨X,X,(by rw [h15];rfl),trivial⟩))))
   ·exact yo X (yo X (yo X (yb X (k15 M ⟨X,X,(by rw [h15];rfl),trivial⟩))))
  refine AI (d:=10) X (λh10=>?_) (λh10=>?_)
  ·exact gyq X (CE M 0 X X X (yd X (GH X X X) (yb X (k10 M ⟨X,X,(by rw [h10];rfl),trivial⟩))))
  ·exact yo X (yo X (yo X (yb X (k10 M ⟨X,X,(by rw [h10];rfl),trivial⟩))))
 ·have h5p:=(odf h5);refine srg (BZ X X (AJ X (AF X (λh25=>?_) (λh25=>?_))))
  ·have h25p:=(odt h25);refine AE X (AU M 0 X X X (BZ X X (yb X (fvm M 4 [2,1] [(34,.bool ((decide (y.ticks=(0:Int)))&&(CG y.ref)))] ?_ (λk30=>?_)))))
   ·intro w5 M;refine yb X (fvm M 4 [2] [(39,.bool (((decide (y.ticks=(0:Int)))&&(CG y.ref))&&(CG y.key)))] ?_ (λk35=>?_))
    ·intro w6 M;exact yb X (gnr (qx_block_ret (qx_then_ret (gr1 X ⟨by rw [LJ,AM h5,if_pos h25],M.fr⟩))))
    refine AI (d:=35) X (λh35=>?_) (λh35=>?_)
    ·refine gyq X (CE M 0 X X X (sxl_call (some 38) (wn_on X X X) X X (AG X X call61) (DU _ _ AA) ?_));rintro _ w7 ⟨rfl,hfw7⟩;refine ⟨_,X,?_⟩;have M:=M.step hfw7;exact yb X (k35 M ⟨X,(by rw [h35];rfl),trivial⟩)
    ·exact yo X (yo X (yo X (yb X (k35 M ⟨X,(by rw [h35];rfl),trivial⟩))))
   refine AI (d:=30) X (λh30=>?_) (λh30=>?_)
   ·refine gyq X (CE M 0 X X X (sxl_call (some 33) (wn_on X X X) X X (AG X X call61) (DU _ _ AA) ?_));rintro _ w8 ⟨rfl,hfw8⟩;refine ⟨_,X,?_⟩;have M:=M.step hfw8;exact yb X (k30 M ⟨X,X,(by rw [h30];rfl),trivial⟩)
   ·exact yo X (yo X (yo X (yb X (k30 M ⟨X,X,(by rw [h30];rfl),trivial⟩))))
  ·have h25p:=(odf h25);refine srg (BZ X X (AJ X (AF X (λh40=>?_) (λh40=>?_))))
   ·have h40p:=(odt h40);refine AE X (AU M 0 X X X (BZ X X (yb X (fvm M 4 [2,1] [(49,.bool ((decide (y.ticks=(0:Int)))&&(CG y.ref)))] ?_ (λk45=>?_)))))
    ·intro w9 M;refine yb X (fvm M 4 [2] [(54,.bool (((decide (y.ticks=(0:Int)))&&(CG y.ref))&&(decide (y.key=[]))))] ?_ (λk50=>?_))
     ·intro w10 M;exact yb X (gnr (qx_block_ret (qx_then_ret (gr1 X ⟨by rw [LJ,AM h5,AM h25,if_pos h40],M.fr⟩))))
     refine AI (d:=50) X (λh50=>?_) (λh50=>?_)
     ·exact gyq X (CE M 0 X X X (yd X (CX X X X) (yb X (k50 M ⟨X,(by rw [h50];rfl),trivial⟩))))
     ·exact yo X (yo X (yo X (yb X (k50 M ⟨X,(by rw [h50];rfl),trivial⟩))))
    refine AI (d:=45) X (λh45=>?_) (λh45=>?_)
    ·refine gyq X (CE M 0 X X X (sxl_call (some 48) (wn_on X X X) X X (AG X X call61) (DU _ _ AA) ?_));rintro _ w11 ⟨rfl,hfw11⟩;refine ⟨_,X,?_⟩;have M:=M.step hfw11;exact yb X (k45 M ⟨X,X,(by rw [h45];rfl),trivial⟩)
    ·exact yo X (yo X (yo X (yb X (k45 M ⟨X,X,(by rw [h45];rfl),trivial⟩))))
   ·exact sx_skip (qx_block_normal (qx_seq (AE X (gnr (gr1 X ⟨by rw [LJ,AM h5,AM h25,AM h40],M.fr⟩)))))
def WX (y:El):Bool:=(if ((decide ((y.kind.toNat:Int)<(1:Int))) || (decide ((10:Int)<(y.kind.toNat:Int))))=true then false else (if (decide ((y.kind.toNat:Int)=(4:Int)))=true then (((decide ((1:Int)≤y.tries))&&(decide (y.tries≤(100:Int))))&&(El.same (⟨[],[],y.kind,[],y.dflt,y.att,y.ev,y.ref,y.key,y.ticks,y.tries⟩:El) (⟨[],[],y.kind,[],[],[],0,[],[],0,y.tries⟩:El))) else (if (decide ((y.kind.toNat:Int)=(5:Int)))=true then (El.same (⟨[],[],y.kind,[],y.dflt,y.att,y.ev,y.ref,y.key,y.ticks,y.tries⟩:El) (⟨[],[],y.kind,[],y.dflt,[],0,[],[],0,0⟩:El)) else (if ((decide ((y.kind.toNat:Int)=(8:Int))) || (decide ((y.kind.toNat:Int)=(9:Int))))=true then ((((LJ y)&&(decide (y.tries=(0:Int))))&&(decide (y.dflt=[])))&&((decide ((y.kind.toNat:Int)=(9:Int))) || (decide (y.att=[])))) else (El.same (⟨[],[],y.kind,[],y.dflt,y.att,y.ev,y.ref,y.key,y.ticks,y.tries⟩:El) (⟨[],[],y.kind,[],[],[],0,[],[],0,0⟩:El))))))
theorem xG (y:El) (w:World) (oy:ElOk y) :
 Calls prog 117 #[.agg y.cells.toArray] w (BI w (.bool (WX y))):=by
 have oy3:=oy.ref;have oy4:=oy.key;have oy5:=oy.id;have oy6:=oy.nm;have oy7:=oy.inn;have oy8:=oy.att;refine BH func117 ntmps117 X λM=>srg (CC M X X λg1 w1 hg1 M=>AJ X (srg (CB M 0 X X underlying95 AQ X (CI M X AT λg3 w2 hg3 M=>BD M 0 X X AQ X λw3 M=>sxl_nil ?_))))
 refine qx_seq (AE X (gp1 M 0 X X X FR λw4 M=>yb X (gp1 M 0 X X X FR λw5 M=>yb X (gp1 M 0 X X X FR λw6 M=>nq (sx_seq (sx_block ?_))))));refine AE X (AU M 1 X X X (BB X X (yb X (fvm M 4 [3,1] [(16,.bool ((decide ((y.kind.toNat:Int)<1)) || (decide (10<(y.kind.toNat:Int)))))] ?_ (λk12=>?_)))))
 ·intro w7 M;refine AJ X (AF X (λh8=>?_) (λh8=>?_))
  ·have h8p:=((E1 h8).imp (λz=>(odt z)) (λz=>(odt z)));exact AE X (gnr (qx_block_ret (qx_then_ret (gr1 X ⟨by rw [WX,if_pos h8],M.fr⟩))))
  ·have h8p:=(And.intro (odf (C6 h8).1) (odf (C6 h8).2));refine AE X (AU M 1 X X X (BZ X X (AJ X (AF X (λh17=>?_) (λh17=>?_)))))
   ·refine AE X (AU M 1 X X X (JU X X (yb X (fvm M 4 [3,1] [(28,.bool ((decide ((1:Int)≤y.tries))&&(decide (y.tries≤(100:Int)))))] ?_ (λk24=>?_)))))
    ·intro w8 M;refine yb X (fvm M 8 [3,1] [(37,.bool (((decide ((1:Int)≤y.tries))&&(decide (y.tries≤(100:Int))))&&(El.same (⟨[],[],y.kind,[],y.dflt,y.att,y.ev,y.ref,y.key,y.ticks,y.tries⟩:El) (⟨[],[],y.kind,[],[],[],0,[],[],0,y.tries⟩:El))))] ?_ (λk29=>?_))
     ·intro w9 M;exact yb X (gnr (qx_block_ret (qx_then_ret (gr1 X ⟨by rw [WX,AM h8,if_pos h17],M.fr⟩))))
     refine AI (d:=29) X (λh29=>?_) (λh29=>?_)
     ·exact yd X (AK (xs:=[str [],str [],.int .u8 (y.kind.toNat:Int),str [],str y.dflt,str y.att,.int .u8 (y.ev.toNat:Int),str y.ref,str y.key,AC y.ticks,AC y.tries]) X X (M.rdBlk 0 X X) underlying95 X AQ) (gyq X (CE M 1 X X X (gyq X (CE M 1 X X X (yd X (AY (parts:=[(2,_),(10,_)]) X X (NT _ _)) (yd X (aB (a:=(⟨[],[],y.kind,[],y.dflt,y.att,y.ev,y.ref,y.key,y.ticks,y.tries⟩:El)) (b:=(⟨[],[],y.kind,[],[],[],0,[],[],0,y.tries⟩:El)) X X X) (yb X (k29 M ⟨X,X,(by rw [h29];rfl),trivial⟩))))))))
     ·iterate 7 refine yo X ?_
      exact yb X (k29 M ⟨X,X,(by rw [h29];rfl),trivial⟩)
    refine AI (d:=24) X (λh24=>?_) (λh24=>?_)
    ·exact gyq X (CE M 1 X X X (yd X (GH X X X) (yb X (k24 M ⟨X,X,(by rw [h24];rfl),trivial⟩))))
    ·exact yo X (yo X (yo X (yb X (k24 M ⟨X,X,(by rw [h24];rfl),trivial⟩))))
   ·have h17p:=(odf h17);refine AE X (AU M 1 X X X (BZ X X (AJ X (AF X (λh38=>?_) (λh38=>?_)))))
    ·refine srg (CB M 0 X X underlying95 AQ X (yb X (AU M 1 X X X (yb X (AU M 1 X X X (ya X (AY (parts:=[(2,_),(4,_)]) X X (ON _ _)) (ya X (aB (a:=(⟨[],[],y.kind,[],y.dflt,y.att,y.ev,y.ref,y.key,y.ticks,y.tries⟩:El)) (b:=(⟨[],[],y.kind,[],y.dflt,[],0,[],[],0,0⟩:El)) X X X) (yb X (gnr (qx_block_ret (qx_then_ret (gr1 X ?_))))))))))));exact ⟨by rw [WX,AM h8,AM h17,if_pos h38],M.fr⟩
    ·have h38p:=(odf h38);refine AE X (AU M 1 X X X (BZ X X (yb X (fvm M 4 [3,1] [(57,.bool ((decide ((y.kind.toNat:Int)=8)) || (decide ((y.kind.toNat:Int)=9))))] ?_ (λk53=>?_)))))
     ·intro w10 M;refine AJ X (AF X (λh49=>?_) (λh49=>?_))
      ·have h49p:=((E1 h49).imp (λz=>(odt z)) (λz=>(odt z)));refine srg (CB M 1 X X underlying95 AQ X (CD M 59 X X call164 (o9 _ _ (by assumption)) λw11 M=>yb X (fvm M 4 [3,1] [(64,.bool ((LJ y)&&(decide (y.tries=(0:Int)))))] ?_ (λk60=>?_))))
       ·intro w12 M;refine yb X (fvm M 4 [3,1] [(69,.bool (((LJ y)&&(decide (y.tries=(0:Int))))&&(decide (y.dflt=[]))))] ?_ (λk65=>?_))
        ·intro w13 M;refine yb X (fvm M 9 [3,1] [(79,.bool ((((LJ y)&&(decide (y.tries=(0:Int))))&&(decide (y.dflt=[])))&&((decide ((y.kind.toNat:Int)=9)) || (decide (y.att=[])))))] ?_ (λk70=>?_))
         ·intro w14 M;exact yb X (gnr (qx_block_ret (qx_then_ret (gr1 X ⟨by rw [WX,AM h8,AM h17,AM h38,if_pos h49],M.fr⟩))))
         refine AI (d:=70) X (λh70=>?_) (λh70=>?_)
         ·refine gyq X (CE M 1 X X X (yd X (C9 X X X) (gyq X (fvm M 4 [70,3,1] [(78,.bool ((decide ((y.kind.toNat:Int)=9)) || (decide (y.att=[]))))] ?_ (λk74=>?_)))))
          ·intro w15 M;exact yb X (k70 M ⟨X,X,(by rw [h70];rfl),trivial⟩)
          refine AI (d:=74) X (λh74=>?_) (λh74=>?_)
          ·exact yo X (yo X (yo X (gyq X (k74 M ⟨X,X,X,(by rw [h74];rfl),trivial⟩))))
          ·exact gyq X (CE M 1 X X X (yd X (CX X X X) (gyq X (k74 M ⟨X,X,X,(by rw [h74];rfl),trivial⟩))))
         ·iterate 4 refine yo X ?_
          exact BY X X X X X (BY X X X X X (BY X X X X X (yo X (yb X (k70 M ⟨X,X,(by rw [h70];rfl),trivial⟩)))))
        refine AI (d:=65) X (λh65=>?_) (λh65=>?_)
        ·exact gyq X (CE M 1 X X X (yd X (CX X X X) (yb X (k65 M ⟨X,X,(by rw [h65];rfl),trivial⟩))))
        ·exact yo X (yo X (yo X (yb X (k65 M ⟨X,X,(by rw [h65];rfl),trivial⟩))))
       refine AI (d:=60) X (λh60=>?_) (λh60=>?_)
       ·exact gyq X (CE M 1 X X X (yd X (C9 X X X) (yb X (k60 M ⟨X,X,(by rw [h60];rfl),trivial⟩))))
       ·exact yo X (yo X (yo X (yb X (k60 M ⟨X,X,(by rw [h60];rfl),trivial⟩))))
      ·exact sx_skip (qx_block_normal (qx_seq (srg (CB M 0 X X underlying95 AQ X (yb X (AU M 1 X X X (ya X (AY (parts:=[(2,_)]) X X (QQ _)) (ya X (aB (a:=(⟨[],[],y.kind,[],y.dflt,y.att,y.ev,y.ref,y.key,y.ticks,y.tries⟩:El)) (b:=(⟨[],[],y.kind,[],[],[],0,[],[],0,0⟩:El)) X X X) (yb X (gnr (gr1 X ⟨by rw [WX,AM h8,AM h17,AM h38,AM h49],M.fr⟩)))))))))))
     refine AI (d:=53) X (λh53=>?_) (λh53=>?_)
     ·exact yo X (yo X (yo X (yb X (k53 M ⟨X,X,(by rw [h53];rfl),trivial⟩))))
     ·exact gyq X (CE M 1 X X X (yd X (C9 X X X) (yb X (k53 M ⟨X,X,(by rw [h53];rfl),trivial⟩))))
 refine AI (d:=12) X (λh12=>?_) (λh12=>?_)
 ·exact yo X (yo X (yo X (yb X (k12 M ⟨X,X,(by rw [h12];rfl),trivial⟩))))
 ·exact gyq X (CE M 1 X X X (yd X (GU X X X) (yb X (k12 M ⟨X,X,(by rw [h12];rfl),trivial⟩))))
def W9 (m:Md) (y:El):Bool:=Q3 m.els 4 y.inn&&WX y
theorem qT (m:Md) (a:MdA) (ix:IxA) (gx gp:Nat) (y:El) (w:World) (oy:ElOk y) (_ho:MdOk m) (hx:IxAt w m a ix gx) (hp:Blk w gp 155 [pg gx]) :
 Calls prog 116 #[.agg y.cells.toArray,pg gp] w (BI w (.bool (W9 m y))):=by
 have oy3:=oy.ref;have oy4:=oy.key;have oy5:=oy.id;have oy6:=oy.nm;have oy7:=oy.inn;have oy8:=oy.att;refine BH func116 ntmps116 X λM=>srg (CC M X X λg2 w1 hg2 M=>AJ X (AE X (AU M 0 X X X (AJ X (sx_seq ?_)))))
 refine srg (AJ X (sx_block (JJ M [2,1] (λze zF e wr mz=>∃(d:Nat) (q:List UInt8),e=(4,str q)::(5,AC (d:Int))::ze∧zF wr∧(d≤4)∧(Q3 m.els 4 y.inn=Q3 m.els (4-d) q)∧mz=4-d) ⟨0,y.inn,X,M,Nat.zero_le _,X,X⟩ ?_)));rintro _ w2 _ ⟨d,q,rfl,M,hd,hs,rfl⟩;refine sx_seq (AE X (ya X (GT X X X) (nq (AF X (λh10=>?_) (λh10=>?_)))))
 ·have h10p:=(odf (C5 h10));refine sx_skip (qx_seq (sx_seq (sx_block (srg (yl X X (Blk.c (hp.fr0 M.fr) 0 X) (AV X X (yl X X (Blk.c ((hx.fr0 M.fr).blk) 5 X) (yb X (ya X (BK X X X underlying85 underlying9 AT ((hx.fr0 M.fr).E) (hx.getE _)) (CI M X AT λg6 w3 hg6 M=>BD M 0 X X AQ X λw4 M=>?_))))))))));refine nq (sx_seq (AE X (AU M 0 X X X (CT X X (yb X (fvm M 3 [6,5,4,2,1] [(25,.bool ((!decide ((((BA m.els q).getD zeroEl).kind.toNat:Int)=10)) || (decide ((d:Int)=4))))] ?_ (λk22=>?_)))))))
  ·intro w5 M;refine nq (AF X (λh25=>?_) (λh25=>?_))
   ·have h25p:=((E1 h25).imp (λz=>(odf (C5 z))) (λz=>(odt z)));exact AE X (gnr (qx_then_ret (qx_block_ret (qx_then_ret (qx_then_ret (qx_block_ret (qx_then_ret (gr1 X ⟨by rw [W9,hs,vP m.els h10p h25p];rfl,M.fr⟩))))))))
   ·have h25p:=(And.intro (odt (BL (C6 h25).1)) (odf (C6 h25).2));refine sx_skip (qx_seq (sx_region (yb X (AU M 0 X X X (yb X (sxl_nil (qx_block_normal (qx_seq (sx_region (yb X (BV X X (yb X (sxl_nil ?_)))))))))))));have h10q:¬q=[]:=h10p;have hd4:¬(d:Int)=4:=h25p.2;have hdlt:d<4:=by omega
    refine fag ⟨d+1,((BA m.els q).getD zeroEl).inn,X,(M.pk [1]),?_,?_,X⟩
    ·omega
    ·rw [hs,fL m.els h10q hdlt h25p.1]
  refine AI (d:=22) X (λh22=>?_) (λh22=>?_)
  ·exact yo X (yo X (yb X (k22 M ⟨X,X,X,X,X,(by rw [h22];rfl),trivial⟩)))
  ·exact gyq X (yd X (C9 X X X) (yb X (k22 M ⟨X,X,X,X,X,(by rw [h22];rfl),trivial⟩)))
 ·have h10p:=(odt (BL h10));exact sx_exit (qx_then_exit (qx_then_exit (qx_block_hit (qx_seq (srg (CB M 0 X X underlying95 AQ X (CD M 29 X X call117 (xG _ _ (by assumption)) λw6 M=>yb X (gnr (gr1 X ⟨by rw [W9,hs,vQ m.els h10p];rfl,M.fr⟩)))))))))
def ME (m:Md) (y:Fl):Bool:=(((((BA m.els y.frm).isSome&&(BA m.els y.tg).isSome)&&(decide (((BA m.els y.frm).getD zeroEl).inn=((BA m.els y.tg).getD zeroEl).inn)))&&(!decide ((((BA m.els y.tg).getD zeroEl).kind.toNat:Int)=(9:Int))))&&(!decide (y.frm=y.tg)))
theorem fI (m:Md) (a:MdA) (ix:IxA) (gx gp:Nat) (y:Fl) (w:World) (_ho:MdOk m) (hx:IxAt w m a ix gx) (hp:Blk w gp 155 [pg gx]) :
 Calls prog 118 #[.agg y.cells.toArray,pg gp] w (BI w (.bool (ME m y))):=by
 refine BH func118 ntmps118 X λM=>srg (CC M X X λg2 w1 hg2 M=>AJ X (sx_seq (GP M 13 CH λM=>ol 0 13 X X X M (λ_ M=>(Blk.c (hp.fr0 M.fr) 0 X)) (oc 1 13 X X M (oc 2 13 X X M (ol 3 13 X X X M (λ_ M=>(Blk.c ((hx.fr0 M.fr).blk) 5 X)) (oc 4 13 X X M (ol 5 13 X X X M (λ_ M=>(M.cell 0 X X)) ?_))))))))
 refine oa 6 13 X X M (λ_ M=>DM X X X underlying85 underlying9 AT ((hx.fr0 M.fr).E) (hx.getE _) (hx.isE _)) (oc 7 13 X X M (oc 8 13 X X M (oc 9 13 X X M (fon M 10 4 X X AT λg4 w2 hg4 M=>fop M 11 0 X X X AQ X (·.drop 1) λw3 M=>oc 12 13 X X (M.drop 1) (fdn (qx_seq (sx_seq (GP M 13 CH λM=>ol 0 13 X X X M (λ_ M=>(Blk.c (hp.fr0 M.fr) 0 X)) (oc 1 13 X X M (oc 2 13 X X M (ol 3 13 X X X M (λ_ M=>(Blk.c ((hx.fr0 M.fr).blk) 5 X)) (oc 4 13 X X M ?_))))))))))));refine ol 5 13 X X X M (λ_ M=>(M.cell 1 X X)) (oa 6 13 X X M (λ_ M=>DM X X X underlying85 underlying9 AT ((hx.fr0 M.fr).E) (hx.getE _) (hx.isE _)) (oc 7 13 X X M (oc 8 13 X X M (oc 9 13 X X M (fon M 10 6 X X AT λg6 w4 hg6 M=>fop M 11 0 X X X AQ X (·.drop 1) λw5 M=>oc 12 13 X X (M.drop 1) (fdn (qx_seq (AE X (yb X (fvm M 2 [6,4,3,2] [(31,.bool ((BA m.els y.frm).isSome&&(BA m.els y.tg).isSome))] ?_ (λk29=>?_)))))))))))
 ·intro w6 M;refine yb X (fvm M 6 [6,3,2] [(38,.bool (((BA m.els y.frm).isSome&&(BA m.els y.tg).isSome)&&(decide (((BA m.els y.frm).getD zeroEl).inn=((BA m.els y.tg).getD zeroEl).inn))))] ?_ (λk32=>?_))
  ·intro w7 M;refine yb X (fvm M 4 [3,2] [(43,.bool ((((BA m.els y.frm).isSome&&(BA m.els y.tg).isSome)&&(decide (((BA m.els y.frm).getD zeroEl).inn=((BA m.els y.tg).getD zeroEl).inn)))&&(!decide ((((BA m.els y.tg).getD zeroEl).kind.toNat:Int)=9))))] ?_ (λk39=>?_))
   ·intro w8 M;refine yb X (fvm M 6 [3] [(50,.bool (((((BA m.els y.frm).isSome&&(BA m.els y.tg).isSome)&&(decide (((BA m.els y.frm).getD zeroEl).inn=((BA m.els y.tg).getD zeroEl).inn)))&&(!decide ((((BA m.els y.tg).getD zeroEl).kind.toNat:Int)=9)))&&(!decide (y.frm=y.tg))))] ?_ (λk44=>?_))
    ·intro w9 M;exact yb X (gnr (gr1 X ⟨by rw [ME],M.fr⟩))
    refine AI (d:=44) X (λh44=>?_) (λh44=>?_)
    ·exact gyq X (CE M 2 X X X (gyq X (CE M 2 X X X (yd X (GT X X X) (yb X (k44 M ⟨X,(by rw [h44];rfl),trivial⟩))))))
    ·iterate 5 refine yo X ?_
     exact yb X (k44 M ⟨X,(by rw [h44];rfl),trivial⟩)
   refine AI (d:=39) X (λh39=>?_) (λh39=>?_)
   ·exact gyq X (CE M 0 X X X (yd X (DX X X X) (yb X (k39 M ⟨X,X,(by rw [h39];rfl),trivial⟩))))
   ·exact yo X (yo X (yo X (yb X (k39 M ⟨X,X,(by rw [h39];rfl),trivial⟩))))
  refine AI (d:=32) X (λh32=>?_) (λh32=>?_)
  ·exact gyq X (CE M 1 X X X (gyq X (CE M 0 X X X (yd X (CX X X X) (yb X (k32 M ⟨X,X,X,(by rw [h32];rfl),trivial⟩))))))
  ·iterate 5 refine yo X ?_
   exact yb X (k32 M ⟨X,X,X,(by rw [h32];rfl),trivial⟩)
 refine AI (d:=29) X (λh29=>?_) (λh29=>?_)
 ·exact gyq X (yb X (k29 M ⟨X,X,X,X,(by rw [h29];rfl),trivial⟩))
 ·exact yo X (yb X (k29 M ⟨X,X,X,X,(by rw [h29];rfl),trivial⟩))
def OG (m:Md) (y:Fl):Bool:=((!decide ((((BA m.els y.tg).getD zeroEl).kind.toNat:Int)=(8:Int))) || (!decide ((((DR m.fls y.tg).length:Nat):Int)=(1:Int))))
theorem iR (m:Md) (a:MdA) (ix:IxA) (gx gp:Nat) (y:Fl) (w:World) (ho:MdOk m) (hx:IxAt w m a ix gx) (hp:Blk w gp 155 [pg gx]) :
 Calls prog 121 #[.agg y.cells.toArray,pg gp] w (BI w (.bool (OG m y))):=by
 have hIl:=G8 m.fls y.tg;have hnf:=ho.nfls;refine BH func121 ntmps121 X λM=>srg (CC M X X λg2 w1 hg2 M=>AJ X (sx_seq (E8 CH gkr ?_)))
 have M:=M.drew;refine sd X X (Blk.c (hp.fr0 M.fr) 0 X) (sb X (sb X (sd X X (Blk.c ((hx.fr0 M.fr).blk) 5 X) (sb X (EB M 0 X X X (sa X (BK X X X underlying85 underlying9 AT ((hx.fr0 M.fr).E) (hx.getE _)) (sa X (OS (b:=((BA m.els y.tg).getD zeroEl)) X X) (sa X (DX X X X) (sb X (fvs 10 [3] [(23,.bool ((!decide ((((BA m.els y.tg).getD zeroEl).kind.toNat:Int)=8)) || (!decide (((DR m.fls y.tg).length:Int)=1))))] ?_ (λk13=>?_)))))))))))
 ·exact sb X (EX (qx_seq (sx_ret (gr1 X ⟨by rw [OG],M.fr⟩))))
 refine DG (d:=13) X (λh13=>?_) (λh13=>?_)
 ·iterate 9 refine DD X X X X X X ?_
  exact sb X (k13 _ ⟨X,(by rw [h13];rfl),trivial⟩)
 ·exact gsg X (BF X X (sc X) (Blk.c (hp.fr0 M.fr) 0 X)) (gsg X (yp X) (gsg X (yp X) (gsg X (BF X X (sc X) (Blk.c ((hx.fr0 M.fr).blk) 6 X)) (gsg X (yp X) (gsg X (BF X X (sc X) (M.cell 0 X X)) (gsg X (BK X X X underlying197 underlying9 zr_sl_api_Flow ((hx.fr0 M.fr).I) (hx.getI _)) (gsg X (FM X X (sl X)) (gsg X (DX X X X) (sb X (k13 _ ⟨X,(by rw [h13];rfl),trivial⟩))))))))))
def JB (m:Md) (y:El):Bool:=(if ((decide ((y.kind.toNat:Int)=(1:Int))) || (decide ((y.kind.toNat:Int)=(9:Int))))=true then ((decide ((((DR m.fls y.id).length:Nat):Int)=(0:Int)))&&(decide ((((C3 m.fls y.id).length:Nat):Int)=(1:Int)))) else (if (decide ((y.kind.toNat:Int)=(2:Int)))=true then ((decide ((((DR m.fls y.id).length:Nat):Int)=(1:Int)))&&(decide ((((C3 m.fls y.id).length:Nat):Int)=(0:Int)))) else (if ((decide ((y.kind.toNat:Int)=(5:Int))) || (decide ((y.kind.toNat:Int)=(6:Int))))=true then ((decide ((1:Int)≤(((DR m.fls y.id).length:Nat):Int)))&&(decide ((1:Int)≤(((C3 m.fls y.id).length:Nat):Int)))) else (if (decide ((y.kind.toNat:Int)=(7:Int)))=true then (if ((decide ((((DR m.fls y.id).length:Nat):Int)=(1:Int)))&&(decide ((2:Int)≤(((C3 m.fls y.id).length:Nat):Int))))=true then (!((C3 m.fls y.id).any (OG m))) else false) else ((decide ((((DR m.fls y.id).length:Nat):Int)=(1:Int)))&&(decide ((((C3 m.fls y.id).length:Nat):Int)=(1:Int))))))))
theorem iQ (m:Md) (a:MdA) (ix:IxA) (gx gp:Nat) (y:El) (w:World) (oy:ElOk y) (ho:MdOk m) (hx:IxAt w m a ix gx) (hp:Blk w gp 155 [pg gx]) :
 Calls prog 119 #[.agg y.cells.toArray,pg gp] w (BI w (.bool (JB m y))):=by
 have oy3:=oy.ref;have oy4:=oy.key;have oy5:=oy.id;have oy6:=oy.nm;have oy7:=oy.inn;have oy8:=oy.att;have hIl:=G8 m.fls y.id;have hOl:=E4 m.fls y.id;have hnf:=ho.nfls;refine BH func119 ntmps119 X λM=>srg (CC M X X λg2 w1 hg2 M=>AJ X (sx_seq (E8 CH gkr ?_)))
 have M:=M.drew;refine sd X X (Blk.c (hp.fr0 M.fr) 0 X) (sb X (sb X (sd X X (Blk.c ((hx.fr0 M.fr).blk) 6 X) (sb X (EB M 0 X X X (sa X (BK X X X underlying197 underlying9 zr_sl_api_Flow ((hx.fr0 M.fr).I) (hx.getI _)) (sa X (FM X X (sl X)) (sd X X (Blk.c (hp.fr0 M.fr) 0 X) (sb X (sb X (sd X X (Blk.c ((hx.fr0 M.fr).blk) 7 X) (sb X (EB M 0 X X X (sa X (BK X X X underlying197 underlying9 zr_sl_api_Flow ((hx.fr0 M.fr).O) (hx.getO _)) (sa X (FM X X (sl X)) ?_)))))))))))))));refine sb X (sb X (EX (qx_seq (sx_seq (AE X (AU M 0 X X X (nq (sx_block (sx_seq (srg (BZ X X ?_)))))))))));refine AJ X (IR [(1,pg gp),(2,pg g2),(4,AC ((DR m.fls y.id).length:Int)),(5,AC ((C3 m.fls y.id).length:Int)),(23,.int .u8 (y.kind.toNat:Int)),(24,.bool ((decide ((y.kind.toNat:Int)=1)) || (decide ((y.kind.toNat:Int)=9))))] (λw'=>Mem w AR [As.blk g2 95 (El.cells y)] w') ?_ (λk24=>?_))
 ·intro w2 M;refine qx_seq (AF X (λh24=>?_) (λh24=>?_))
  ·have h24p:=((E1 h24).imp (λz=>(odt z)) (λz=>(odt z)));refine AE X (BZ X X (yb X (fvm M 3 [5,4] [(32,.bool ((decide (((DR m.fls y.id).length:Int)=0))&&(decide (((C3 m.fls y.id).length:Int)=1))))] ?_ (λk29=>?_))))
   ·intro w3 M;exact yb X (gnr (qx_block_ret (qx_then_ret (gr1 X ⟨by rw [JB,if_pos h24],M.fr⟩))))
   refine AI (d:=29) X (λh29=>?_) (λh29=>?_)
   ·exact gyq X (yd X (C9 X X X) (yb X (k29 M ⟨X,X,(by rw [h29];rfl),trivial⟩)))
   ·exact yo X (yo X (yb X (k29 M ⟨X,X,(by rw [h29];rfl),trivial⟩)))
  ·have h24p:=(And.intro (odf (C6 h24).1) (odf (C6 h24).2));refine srg (BZ X X (AJ X (AF X (λh33=>?_) (λh33=>?_))))
   ·refine AE X (BZ X X (yb X (fvm M 3 [5,4] [(40,.bool ((decide (((DR m.fls y.id).length:Int)=1))&&(decide (((C3 m.fls y.id).length:Int)=0))))] ?_ (λk37=>?_))))
    ·intro w4 M;exact yb X (gnr (qx_block_ret (qx_then_ret (gr1 X ⟨by rw [JB,AM h24,if_pos h33],M.fr⟩))))
    refine AI (d:=37) X (λh37=>?_) (λh37=>?_)
    ·exact gyq X (yd X (C9 X X X) (yb X (k37 M ⟨X,X,(by rw [h37];rfl),trivial⟩)))
    ·exact yo X (yo X (yb X (k37 M ⟨X,X,(by rw [h37];rfl),trivial⟩)))
   ·have h33p:=(odf h33);refine sx_seq (srg (BZ X X (AJ X (IR [(1,pg gp),(2,pg g2),(4,AC ((DR m.fls y.id).length:Int)),(5,AC ((C3 m.fls y.id).length:Int)),(23,.int .u8 (y.kind.toNat:Int)),(41,.bool ((decide ((y.kind.toNat:Int)=5)) || (decide ((y.kind.toNat:Int)=6))))] (λw'=>Mem w AR [As.blk g2 95 (El.cells y)] w') ?_ (λk41=>?_)))))
    ·intro w5 M;refine qx_seq (AF X (λh41=>?_) (λh41=>?_))
     ·have h41p:=((E1 h41).imp (λz=>(odt z)) (λz=>(odt z)));refine AE X (JU X X (yb X (fvm M 3 [5,4] [(49,.bool ((decide (1≤((DR m.fls y.id).length:Int)))&&(decide (1≤((C3 m.fls y.id).length:Int)))))] ?_ (λk46=>?_))))
      ·intro w6 M;exact yb X (gnr (qx_block_ret (qx_then_ret (gr1 X ⟨by rw [JB,AM h24,AM h33,if_pos h41],M.fr⟩))))
      refine AI (d:=46) X (λh46=>?_) (λh46=>?_)
      ·exact gyq X (yd X (GV X X X) (yb X (k46 M ⟨X,X,(by rw [h46];rfl),trivial⟩)))
      ·exact yo X (yo X (yb X (k46 M ⟨X,X,(by rw [h46];rfl),trivial⟩)))
     ·have h41p:=(And.intro (odf (C6 h41).1) (odf (C6 h41).2));refine srg (BZ X X (AJ X (AF X (λh50=>?_) (λh50=>?_))))
      ·have h50p:=(odt h50);refine sx_seq (CY 15 CH gkr ?_);have M:=M.drew;refine sb X (sa X (C9 X X X) (sb X (fvs 3 [5,4,2,1] [(57,.bool ((decide (((DR m.fls y.id).length:Int)=1))&&(decide (2≤((C3 m.fls y.id).length:Int)))))] ?_ (λk54=>?_))))
       ·refine sb X (DG (d:=58) X (λh58=>?_) (λh58=>?_))
        ·have h58p:=(And.intro (odt (BR h58).1) (odt (BR h58).2));refine gsg X (BF X X (sc X) (Blk.c (hp.fr0 M.fr) 0 X)) (gsg X (yp X) (gsg X (yp X) (gsg X (BF X X (sc X) (Blk.c ((hx.fr0 M.fr).blk) 7 X)) (gsg X (yp X) (gsg X (BF X X (sc X) (M.cell 0 X X)) (gsg X (BK X X X underlying197 underlying9 zr_sl_api_Flow ((hx.fr0 M.fr).O) (hx.getO _)) (gsg X (CP (us:=[]) (vs:=[pg gp]) X X X) (C8 (sxl_call (some 67) (wn_on X X X) X X (AG X X call120) (eW _ _ (C3 m.fls y.id) (by have:=G8 m.fls;have:=E4 m.fls;have:=ho.nfls;have:=ho.nels;have:=ho.nvars;first|omega|exact Nat.le_trans (G8 _ _) AA|exact Nat.le_trans (E4 _ _) AA) 121 [pg gp] (OG m) _ (G5 call121 (λz hz w9 hf9=>iR m a ix gx gp z w9 ho ((hx.fr0 M.fr).fr0 hf9) ((hp.fr0 M.fr).fr0 hf9))) ((hx.fr0 M.fr).rdO _)) ?_)))))))));rintro _ w7 ⟨rfl,hfw7⟩;refine ⟨_,X,?_⟩;have M:=M.step hfw7;exact gyq X (AV X X (gnr (qx_block_ret (qx_then_ret (gr1 X ⟨by rw [JB,AM h24,AM h33,AM h41,if_pos h50,if_pos h58],M.fr⟩)))))
        ·have h58p:=((CV h58).imp (λz=>(odf z)) (λz=>(odf z)));iterate 8 refine DD X X X X X X ?_
         exact C8 (yo X (yo X (AV X X (gnr (qx_block_ret (qx_then_ret (gr1 X ⟨by rw [JB,AM h24,AM h33,AM h41,if_pos h50,AM h58],M.fr⟩)))))))
       refine DG (d:=54) X (λh54=>?_) (λh54=>?_)
       ·exact gsg X (yp X) (gsg X (GV X X X) (sb X (k54 _ ⟨X,X,X,X,(by rw [h54];rfl),trivial⟩)))
       ·exact DD X X X X X X (DD X X X X X X (sb X (k54 _ ⟨X,X,X,X,(by rw [h54];rfl),trivial⟩)))
      ·refine sx_skip (qx_block_normal (qx_seq (AE X (BZ X X (yb X (fvm M 3 [] [(75,.bool ((decide (((DR m.fls y.id).length:Int)=1))&&(decide (((C3 m.fls y.id).length:Int)=1))))] ?_ (λk72=>?_)))))))
       ·intro w8 M;exact yb X (gnr (gr1 X ⟨by rw [JB,AM h24,AM h33,AM h41,AM h50],M.fr⟩))
       refine AI (d:=72) X (λh72=>?_) (λh72=>?_)
       ·exact gyq X (yd X (C9 X X X) (yb X (k72 M ⟨(by rw [h72];rfl),trivial⟩)))
       ·exact yo X (yo X (yb X (k72 M ⟨(by rw [h72];rfl),trivial⟩)))
    refine AF X (λh41=>?_) (λh41=>?_)
    ·exact sx_skip (k41 _ _ M ⟨X,X,X,X,X,(by rw [h41];rfl),trivial⟩)
    ·exact sx_region (BZ X X (yb X (sxl_nil (k41 _ _ M ⟨X,X,X,X,X,(by rw [h41];rfl),trivial⟩))))
 refine AF X (λh24=>?_) (λh24=>?_)
 ·exact sx_skip (k24 _ _ M ⟨X,X,X,X,X,(by rw [h24];rfl),trivial⟩)
 ·exact sx_region (BZ X X (yb X (sxl_nil (k24 _ _ M ⟨X,X,X,X,X,(by rw [h24];rfl),trivial⟩))))
theorem lL (y:El) (gy:Nat) (z:Fl) (w:World) (hb:Blk w gy 95 y.cells) :
 Calls prog 126 #[.agg z.cells.toArray,pg gy] w (BI w (.bool (decide (z.id=y.dflt)))):=by
 refine BH func126 ntmps126 X λM=>srg (CC M X X λg2 w1 hg2 M=>AJ X (AE X (AU M 0 X X X (yb X (yl X X (Blk.c (hb.fr0 M.fr) 4 X) (ya X (CX X X X) (yb X ?_)))))))
 exact gnr (gr1 X ⟨X,M.fr⟩)
def J2 (m:Md) (y:El):Bool:=(if (!decide ((y.kind.toNat:Int)=(5:Int)))=true then true else (if (decide ((((C3 m.fls y.id).length:Nat):Int)=(1:Int)))=true then (decide (y.dflt=[])) else ((C3 m.fls y.id).any (λz=>decide (z.id=y.dflt)))))
theorem rD (m:Md) (a:MdA) (ix:IxA) (gx gp:Nat) (y:El) (w:World) (oy:ElOk y) (ho:MdOk m) (hx:IxAt w m a ix gx) (hp:Blk w gp 155 [pg gx]) :
 Calls prog 125 #[.agg y.cells.toArray,pg gp] w (BI w (.bool (J2 m y))):=by
 have oy3:=oy.ref;have oy4:=oy.key;have oy5:=oy.id;have oy6:=oy.nm;have oy7:=oy.inn;have oy8:=oy.att;have hOl:=E4 m.fls y.id;have hnf:=ho.nfls;refine BH func125 ntmps125 X λM=>srg (CC M X X λg2 w1 hg2 M=>AJ X (sx_seq (E8 CH gkr ?_)))
 have M:=M.drew;refine sd X X (Blk.c (hp.fr0 M.fr) 0 X) (sb X (sb X (sd X X (Blk.c ((hx.fr0 M.fr).blk) 7 X) (sb X (EB M 0 X X X (sa X (BK X X X underlying197 underlying9 zr_sl_api_Flow ((hx.fr0 M.fr).O) (hx.getO _)) (sb X (EX (qx_seq (sx_seq (sx_block (AE X (AU M 0 X X X ?_)))))))))))));refine CT X X (AJ X (AF X (λh12=>?_) (λh12=>?_)))
 ·exact AE X (gnr (qx_block_ret (qx_then_ret (gr1 X ⟨by rw [J2,if_pos h12],M.fr⟩))))
 ·have h12p:=(odt (BL h12));refine AE X (DF X X (BZ X X (AJ X (AF X (λh16=>?_) (λh16=>?_)))))
  ·exact AE X (AU M 0 X X X (ya X (CX X X X) (yb X (gnr (qx_block_ret (qx_then_ret (gr1 X ⟨by rw [J2,AM h12,if_pos h16],M.fr⟩)))))))
  ·have h16p:=(odf h16);exact sx_skip (qx_block_normal (qx_seq (AE X (ya X (CP (us:=[]) (vs:=[pg g2]) X X X) (CD M 25 X X call120 (eW _ _ (C3 m.fls y.id) (by have:=G8 m.fls;have:=E4 m.fls;have:=ho.nfls;have:=ho.nels;have:=ho.nvars;first|omega|exact Nat.le_trans (G8 _ _) AA|exact Nat.le_trans (E4 _ _) AA) 126 [pg g2] (λz=>decide (z.id=y.dflt)) _ (G5 call126 (λz hz w9 hf9=>lL y _ z w9 ((M.blk 0 X).fr0 hf9))) ((hx.fr0 M.fr).rdO _)) λw2 M=>yb X (gnr (gr1 X ⟨by rw [J2,AM h12,AM h16],M.fr⟩)))))))
def NH (y:El) (z:Bd):Bool:=((decide (z.name=(y).key))&&(decide ((z.v.kind.toNat:Int)=(3:Int))))
theorem bN (y:El) (gy:Nat) (z:Bd) (w:World) (hb:Blk w gy 95 y.cells) :
 Calls prog 135 #[.agg z.cells.toArray,pg gy] w (BI w (.bool (NH y z))):=by
 refine BH func135 ntmps135 X λM=>srg (CC M X X λg2 w1 hg2 M=>AJ X (AE X (AU M 0 X X X (yb X (yl X X (Blk.c (hb.fr0 M.fr) 8 X) (ya X (CX X X X) (yb X ?_)))))))
 refine fvm M 5 [3] [(14,.bool ((decide (z.name=(y).key))&&(decide ((z.v.kind.toNat:Int)=3))))] ?_ (λk9=>?_)
 ·intro w2 M;exact yb X (gnr (gr1 X ⟨by rw [NH],M.fr⟩))
 refine AI (d:=9) X (λh9=>?_) (λh9=>?_)
 ·exact gyq X (gyq X (CE M 0 X X X (yd X (C9 X X X) (yb X (k9 M ⟨X,(by rw [h9];rfl),trivial⟩)))))
 ·iterate 4 refine yo X ?_
  exact yb X (k9 M ⟨X,(by rw [h9];rfl),trivial⟩)
def MZ (m:Md) (y:El):Bool:=((!decide ((y.ev.toNat:Int)=(2:Int))) || (m.vars.any (NH y)))
theorem iY (m:Md) (a:MdA) (ix:IxA) (gx gp:Nat) (y:El) (w:World) (oy:ElOk y) (ho:MdOk m) (hx:IxAt w m a ix gx) (hp:Blk w gp 155 [pg gx]) :
 Calls prog 133 #[.agg y.cells.toArray,pg gp] w (BI w (.bool (MZ m y))):=by
 have oy3:=oy.ref;have oy4:=oy.key;have oy5:=oy.id;have oy6:=oy.nm;have oy7:=oy.inn;have oy8:=oy.att;refine BH func133 ntmps133 X λM=>srg (CC M X X λg2 w1 hg2 M=>AJ X (AE X (AU M 0 X X X (CT X X (yb X (fvm M 8 [3] [(15,.bool ((!decide ((y.ev.toNat:Int)=2)) || (m.vars.any (NH y))))] ?_ (λk7=>?_)))))))
 ·intro w2 M;exact yb X (gnr (gr1 X ⟨by rw [MZ],M.fr⟩))
 refine AI (d:=7) X (λh7=>?_) (λh7=>?_)
 ·iterate 7 refine yo X ?_
  exact yb X (k7 M ⟨X,(by rw [h7];rfl),trivial⟩)
 ·refine ym X X (Blk.c (hp.fr0 M.fr) 0 X) (gyq X (gyq X (gyq X (ym X X (Blk.c ((hx.fr0 M.fr).blk) 2 X) (yd X (CP (us:=[]) (vs:=[pg g2]) X X X) (sxl_call (some 14) (wn_on X X X) X X (AG X X call134) (uH _ _ m.vars (by have:=G8 m.fls;have:=E4 m.fls;have:=ho.nfls;have:=ho.nels;have:=ho.nvars;first|omega|exact Nat.le_trans (G8 _ _) AA|exact Nat.le_trans (E4 _ _) AA) 135 [pg g2] (NH y) _ (G5 call135 (λz hz w9 hf9=>bN y _ z w9 ((M.blk 0 X).fr0 hf9))) (M.rd hx.md.vars)) ?_))))));rintro _ w3 ⟨rfl,hfw3⟩;refine ⟨_,X,?_⟩;have M:=M.step hfw3;exact yb X (k7 M ⟨X,(by rw [h7];rfl),trivial⟩)
def YG (m:Md) (k:List UInt8):Bool:=(((decide ((((BA m.els k).getD zeroEl).kind.toNat:Int)=(5:Int))) || (decide ((((BA m.els k).getD zeroEl).kind.toNat:Int)=(6:Int)))) || (decide ((((BA m.els k).getD zeroEl).kind.toNat:Int)=(10:Int))))
theorem YU (m:Md) (a:MdA) (ix:IxA) (gx gp:Nat) (k:List UInt8) (w:World) (_ho:MdOk m) (hx:IxAt w m a ix gx) (hp:Blk w gp 155 [pg gx]) :
 Calls prog 136 #[str k,pg gp] w (BI w (.bool (YG m k))):=by
 refine BH func136 ntmps136 X λM=>srg (AJ X (srg (yl X X (Blk.c (hp.fr0 M.fr) 0 X) (AV X X (yl X X (Blk.c ((hx.fr0 M.fr).blk) 5 X) (yb X (ya X (BK X X X underlying85 underlying9 AT ((hx.fr0 M.fr).E) (hx.getE _)) (ya X (OS (b:=((BA m.els k).getD zeroEl)) X X) (yb X ?_)))))))))
 refine nq (AE X (BZ X X (yb X (fvm M 3 [4,3] [(17,.bool ((decide ((((BA m.els k).getD zeroEl).kind.toNat:Int)=5)) || (decide ((((BA m.els k).getD zeroEl).kind.toNat:Int)=6))))] ?_ (λk14=>?_)))))
 ·intro w1 M;refine yb X (fvm M 3 [3] [(21,.bool (((decide ((((BA m.els k).getD zeroEl).kind.toNat:Int)=5)) || (decide ((((BA m.els k).getD zeroEl).kind.toNat:Int)=6))) || (decide ((((BA m.els k).getD zeroEl).kind.toNat:Int)=10))))] ?_ (λk18=>?_))
  ·intro w2 M;exact yb X (gnr (gr1 X ⟨by rw [YG],M.fr⟩))
  refine AI (d:=18) X (λh18=>?_) (λh18=>?_)
  ·exact yo X (yo X (yb X (k18 M ⟨X,(by rw [h18];rfl),trivial⟩)))
  ·exact gyq X (yd X (C9 X X X) (yb X (k18 M ⟨X,(by rw [h18];rfl),trivial⟩)))
 refine AI (d:=14) X (λh14=>?_) (λh14=>?_)
 ·exact yo X (yo X (yb X (k14 M ⟨X,X,(by rw [h14];rfl),trivial⟩)))
 ·exact gyq X (yd X (C9 X X X) (yb X (k14 M ⟨X,X,(by rw [h14];rfl),trivial⟩)))
end Go.Proofs.YtaheakjfkpkefaaGreatDoor
