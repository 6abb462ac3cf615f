/- Lemmas. -/
import Derived.Test.YtppmdnmjepkfaaaGreatDoorYRu2
import Derived.Test.YtppmdnmjepkfaaaGreatDoorYEx9
set_option maxHeartbeats 16000000
set_option maxRecDepth 100000
namespace Go.Proofs.YtppmdnmjepkfaaaGreatDoor
open Go.RowKit
open Tryz
open Decidable renaming decide→O
open Option renaming some→G,none→zx
open Bool renaming true→zz,false→zy
open Go.Proofs.Tryz renaming prog→zv
open Go renaming Calls→zt
open True renaming intro→zw
section
def HJ (els:List El):Nat→El→List Kz
 | 0,_=>[]
 | f+1,y=>if y.inn=[] then [] else match AG els y.inn with
  | none=>[]
  | some x=>if x.kind.toNat=10 then x.id::HJ els f x else []
def AZ (els:List El) (id:Kz):List Kz:=HJ els 64 ((AG els id).getD zeroEl)
theorem cZ (els:List El) {y:El} {n:Nat} (h1:¬y.inn=[]) (hn:n<64) (h2:(AG els y.inn).isSome=zz) (h3:(((AG els y.inn).getD zeroEl).kind.toNat:Int)=10):HJ els (64-n) y=((AG els y.inn).getD zeroEl).id::HJ els (64-(n+1)) ((AG els y.inn).getD zeroEl):=by
 rw [show 64-n=(64-(n+1))+1 by omega,HJ,Ae h1]
 cases hx:AG els y.inn with
 | none=>rw [hx] at h2;cases h2
 | some x=>
  rw [hx] at h3
  have h3':x.kind.toNat=10:=by simp only [Df] at h3;omega
  simp only [Ac h3',Df]
theorem cY (els:List El) {y:El} {n:Nat} (h:(AG els y.inn).isSome=zy∨¬(((AG els y.inn).getD zeroEl).kind.toNat:Int)=10):HJ els n y=[]:=by
 cases n with
 | zero=>rfl
 | succ n=>
  rw [HJ]
  split
  ·rfl
  cases hx:AG els y.inn with
  | none=>rfl
  | some x=>
   rw [hx] at h
   simp only [Option.isSome_some,Ez,Df,false_or] at h
   simp only
   rw [Ae A0]
theorem iI (els:List El) {y:El} {n:Nat} (h:y.inn=[]∨¬(n:Int)<64):HJ els (64-n) y=[]:=by
 rcases h with h|h
 ·cases 64-n with
  | zero=>rfl
  | succ k=>rw [HJ,Ac h]
 rw [show 64-n=0 by omega];rfl
theorem UZ (els:List El):∀(n:Nat) (y:El),(HJ els n y).length≤n
 | 0,_=>Af _
 | n+1,y=>by
  rw [HJ]
  split
  ·exact Aj _
  split
  ·exact Aj _
  split
  ·have:=UZ els n;simp only [Al];exact Nat.succ_le_succ (this _)
  exact Aj _
theorem PD (els:List El) (id:Kz):(AZ els id).length≤64:=UZ els 64 _
theorem aL (m:Md) (a:MdA) (ix:IxA) (gx:Nat) (id:Kz) (w:Kw) (_ho:MdOk m) (hx:IxAt w m a ix gx) :
 zt zv 144 #[pg gx,str id] w λe w'=>∃A c,e=.returned (.slice A (AZ m.els id).length c)∧w'.ownsRow w.heap.size 9 1 (.slice A (AZ m.els id).length c) (AZ m.els id).length (AF BH (AZ m.els id))∧Fr0 w w':=by
 refine BO func144 ntmps144 X λM=>T16 ?_
 refine yl X X (Blk.c ((hx.fr0 M.fr).blk) 5 X) (yb X (ya X (CH X X X Di Ad AP ((hx.fr0 M.fr).E) (hx.getE _)) (CE M X AP λg6 w1 hg6 M=>BX M 0 X X AM X λw2 M=>W ?_)));have M:=M.nilOwn 9 1;refine flp [0] (λze e wr mz=>∃(y:El) (acc:List Kz) (A:Ky) (c:Nat) (gv:Nat),e=(5,.slice A acc.length c)::(6,pg gv)::ze∧Mem w AR [As.own w.heap.size 9 1 (.slice A acc.length c) acc.length (AF BH acc),As.blk gv 106 (El.cells y)] wr∧(acc.length≤64)∧(AZ m.els id=acc++HJ m.els (64-acc.length) y)∧mz=64-acc.length) ⟨(AG m.els id).getD zeroEl,[],zx,0,g6,X,M,Aj _,X,X⟩ ?_;rintro _ w3 _ ⟨y,acc,A,c,gv,rfl,M,hl,hr,rfl⟩;refine W ?_;refine fvm M 4 [6,5,0] [(22,.bool ((!decide (y.inn=[]))&&(O ((acc.length:Int)<64))))] ?_ (λk18=>?_)
 ·intro w4 M;refine W ?_;refine AC X (λh22=>?_) (λh22=>?_)
  ·have h22p:=bd h22;refine W ?_;refine I0 M 13 CA λM=>oc 0 13 X X M (oc 1 13 X X M (oc 2 13 X X M (ol 3 13 X X X M (λ_ M=>(Blk.c ((hx.fr0 M.fr).blk) 5 X)) (oc 4 13 X X M (ol 5 13 X X X M (λ_ M=>(M.cell 1 X X)) (oa 6 13 X X M (λ_ M=>EM X X X Di Ad AP ((hx.fr0 M.fr).E) (hx.getE _) (hx.isE _)) (oc 7 13 X X M (oc 8 13 X X M (oc 9 13 X X M (fon M 10 7 X X AP λg7 w5 hg7 M=>fop M 11 0 X X X AM X (·.drop 1) λw6 M=>oc 12 13 X X (M.drop 1) (fdn (W ?_))))))))))))
   refine fvm M 4 [7,6,5,0] [(39,.bool ((!(AG m.els y.inn).isSome) || (!decide ((((AG m.els y.inn).getD zeroEl).kind.toNat:Int)=10))))] ?_ (λk35=>?_)
   ·intro w7 M;refine W ?_;refine AC X (λh39=>?_) (λh39=>?_)
    ·have h39p:=bd h39;refine W ?_;refine II X (W ?_);refine gr1 X ?_;rw [cY m.els h39p,Cd] at hr
     subst hr;exact ⟨_,_,X,M.own 1 X,M.fr⟩
    have h39p:=bd h39;refine W ?_;refine CP M kw X X [str (((AG m.els y.inn).getD zeroEl).id)] ([str (((AG m.els y.inn).getD zeroEl).id)]) X X X X Be CK X X (FZ X) X λg43 w8 hg43 M=>CD (len':=(acc++[((AG m.els y.inn).getD zeroEl).id]).length) (xs':=AF BH (acc++[((AG m.els y.inn).getD zeroEl).id])) M 2 kw X X X X X X (M.rdBlk 0 X X) Be C2 X AV (BN X) (Af _) (Af _) D4 (by unfold maxLen;first|omega|(simp only [Am,Al,Ay];omega)) (by simp) (by simp [AF,BH]) λA44 c44 w9 M=>W ?_
    refine CF M 1 X X Bk AM X (BX M 3 X X AM X λw10 M=>W ?_);refine CF M 3 X X Bk AM X (W ?_);refine CE M X AP λg6 w11 hg6 M=>BX M 0 X X AM X λw12 M=>sxl_nil ?_
    have hlen:=h22p.2;refine fag ⟨((AG m.els y.inn).getD zeroEl),acc++[((AG m.els y.inn).getD zeroEl).id],A44,c44,g6,X,(M.pk [3,0]),?_,?_,X⟩
    ·simp only [Am,Al,Ay];omega
    rw [hr,cZ m.els h22p.1 A0 h39p.1 h39p.2];simp
   refine A1 (d:=35) X (λh35=>?_) (λh35=>?_)
   ·refine T4 ?_;exact k35 M
   refine T4 ?_;exact k35 M
  have h22p:=bd h22;refine W ?_;refine gr1 X ?_;rw [iI m.els h22p,Cd] at hr
  subst hr;exact ⟨_,_,X,M.own 0 X,M.fr⟩
 refine A1 (d:=18) X (λh18=>?_) (λh18=>?_)
 ·refine T4 ?_;exact k18 M
 refine T4 ?_;exact k18 M
def MG (m:Md) (b y:El):Bool:=(if (O ((y.kind.toNat:Int)=(6:Int)))=zz then ((AZ m.els y.id).any (λz=>O (b.id=z))) else zy)
theorem iX (m:Md) (a:MdA) (ix:IxA) (gx gp:Nat) (b:El) (gb:Nat) (y:El) (w:Kw) (ho:MdOk m) (hx:IxAt w m a ix gx) (hp:Blk w gp 144 [pg gx]) (hb:Blk w gb 106 b.cells) :
 zt zv 142 #[.agg y.cells.toArray,pg gp,pg gb] w (BR w (.bool (MG m b y))):=by
 refine BO func142 ntmps142 X λM=>W ?_
 refine CU M X X λg3 w1 hg3 M=>W ?_
 refine I0 M 13 CA λM=>oc 0 13 X X M (ol 1 13 X X X M (λ_ M=>(M.cell 0 X X)) (oa 2 13 X X M (λ_ M=>ES X X X) (oc 3 13 X X M (CC (d:=8) X (λh8=>?_) (λh8=>?_)))))
 ·have h8p:=odt h8;refine ob 4 13 X kw X X M (λ_ M=>B3 X X (sc X) (Blk.c (hp.fr0 M.fr) 0 X)) (ob 5 13 X kw X X M (λ_ M=>yp X) (ob 6 13 X kw X X M (λ_ M=>B3 X X (sc X) (M.cell 0 X X)) (ob 8 13 X kw X X M (λ_ M=>yp X) (ob 9 13 X kw X X M (λ_ M=>B3 X X (sc X) (Blk.c (hb.fr0 M.fr) 0 X)) (BB 7 (G 12) zr X kw X X (AE X X call144) (aL m a ix gx _ _ ho (hx.fr0 M.fr)) ?_)))));rintro _ w2 ⟨A12,c12,rfl,how2,hfw2⟩;refine ⟨_,X,λ_=>M.step hfw2,?_⟩;have M:=M.pushOwn hfw2 (Af _) how2;have hL12:=M.ownLen 0 X;refine BB 10 (G 15) zr X kw X X (AE X X call143) (gW _ _ (AZ m.els y.id) _ _ (by have hL:=M.ownLen 0 rfl;have:=PD m.els y.id;omega) (M.rdOwn 0 X)) ?_;rintro _ w3 ⟨rfl,hfw3⟩;refine ⟨_,X,λ_=>(M.drop 1).step hfw3,?_⟩;have M:=M.step hfw3;refine oc 11 13 X X (M.drop 1) (oc 12 13 X X (M.drop 1) (fdn (W ?_)));exact gr1 X ⟨by rw [MG,Ac h8],M.fr⟩
 refine AQ 4 13 X M (AQ 5 13 X M (AQ 6 13 X M (AQ 7 13 X M (AQ 8 13 X M (AQ 9 13 X M (AQ 10 13 X M (oc 11 13 X X M (oc 12 13 X X M (fdn (W ?_))))))))));exact gr1 X ⟨by rw [MG,AN h8],M.fr⟩
def LN (m:Md) (y:El):Bool:=(if (!decide ((y.kind.toNat:Int)=(9:Int)))=zz then zz else (if ((!(AG m.els y.att).isSome) || (!decide (((AG m.els y.att).getD zeroEl).inn=y.inn)))=zz then zy else (if ((O ((((AG m.els y.att).getD zeroEl).kind.toNat:Int)=(3:Int))) || (O ((((AG m.els y.att).getD zeroEl).kind.toNat:Int)=(4:Int))))=zz then zz else (if ((!decide ((((AG m.els y.att).getD zeroEl).kind.toNat:Int)=(10:Int))) || (O ((y.ev.toNat:Int)=(1:Int))))=zz then zy else (!(m.els.any (MG m ((AG m.els y.att).getD zeroEl))))))))
theorem nS (m:Md) (a:MdA) (ix:IxA) (gx gp:Nat) (y:El) (w:Kw) (oy:ElOk y) (ho:MdOk m) (hx:IxAt w m a ix gx) (hp:Blk w gp 144 [pg gx]) :
 zt zv 140 #[.agg y.cells.toArray,pg gp] w (BR w (.bool (LN m y))):=by
 have oy3:=oy.ref;have oy4:=oy.key;have oy5:=oy.id;have oy6:=oy.nm;have oy7:=oy.inn;have oy8:=oy.att;refine BO func140 ntmps140 X λM=>W ?_
 refine CU M X X λg2 w1 hg2 M=>W ?_
 refine I0 M 13 CA λM=>ol 0 13 X X X M (λ_ M=>(Blk.c (hp.fr0 M.fr) 0 X)) (oc 1 13 X X M (oc 2 13 X X M (ol 3 13 X X X M (λ_ M=>(Blk.c ((hx.fr0 M.fr).blk) 5 X)) (oc 4 13 X X M (ol 5 13 X X X M (λ_ M=>(M.cell 0 X X)) (oa 6 13 X X M (λ_ M=>EM X X X Di Ad AP ((hx.fr0 M.fr).E) (hx.getE _) (hx.isE _)) (oc 7 13 X X M (oc 8 13 X X M (oc 9 13 X X M (fon M 10 4 X X AP λg4 w2 hg4 M=>fop M 11 0 X X X AM X (·.drop 1) λw3 M=>oc 12 13 X X (M.drop 1) (fdn (W ?_))))))))))))
 refine AC X (λh16=>?_) (λh16=>?_)
 ·refine W ?_;exact gr1 X ⟨by rw [LN,Ac h16],M.fr⟩
 have h16p:=(odt (BL h16));refine W ?_;refine fvm M 6 [4,2,1] [(29,.bool ((!(AG m.els y.att).isSome) || (!decide (((AG m.els y.att).getD zeroEl).inn=y.inn))))] ?_ (λk23=>?_)
 ·intro w4 M;refine W ?_;refine AC X (λh20=>?_) (λh20=>?_)
  ·have h20p:=bd h20;refine W ?_;exact gr1 X ⟨by rw [LN,AN h16,Ac h20],M.fr⟩
  have h20p:=bd h20;refine W ?_;refine fvm M 4 [4,2,1] [(38,.bool ((O ((((AG m.els y.att).getD zeroEl).kind.toNat:Int)=3)) || (O ((((AG m.els y.att).getD zeroEl).kind.toNat:Int)=4))))] ?_ (λk34=>?_)
  ·intro w5 M;refine W ?_;refine AC X (λh30=>?_) (λh30=>?_)
   ·have h30p:=bd h30;refine W ?_;exact gr1 X ⟨by rw [LN,AN h16,AN h20,Ac h30],M.fr⟩
   have h30p:=bd h30;refine W ?_;refine fvm M 4 [4,1] [(47,.bool ((!decide ((((AG m.els y.att).getD zeroEl).kind.toNat:Int)=10)) || (O ((y.ev.toNat:Int)=1))))] ?_ (λk43=>?_)
   ·intro w6 M;refine W ?_;refine AC X (λh39=>?_) (λh39=>?_)
    ·have h39p:=bd h39;refine W ?_;exact gr1 X ⟨by rw [LN,AN h16,AN h20,AN h30,Ac h39],M.fr⟩
    have h39p:=bd h39;refine T5 ?_;refine yl X X (Blk.c (hp.fr0 M.fr) 0 X) (T3 ?_);refine yl X X (Blk.c ((hx.fr0 M.fr).blk) 3 X) (ya X (D8 (us:=[]) (vs:=[pg gp,pg g4]) X X X) (CQ M 54 X X call141 (a0V _ _ m.els (by have:=HT m.fls;have:=F4 m.fls;have:=ho.nfls;have:=ho.nels;have:=ho.nvars;first|omega|exact Bh (HT _ _) A0|exact Bh (F4 _ _) A0) 142 [pg gp,pg g4] (MG m ((AG m.els y.att).getD zeroEl)) _ (J7 call142 (λz hz w9 hf9=>iX m a ix gx gp ((AG m.els y.att).getD zeroEl) _ z w9 ho ((hx.fr0 M.fr).fr0 hf9) ((hp.fr0 M.fr).fr0 hf9) ((M.blk 0 X).fr0 hf9))) (M.rd hx.md.els)) λw7 M=>W ?_));exact gr1 X ⟨by rw [LN,AN h16,AN h20,AN h30,AN h39],M.fr⟩
   refine A1 (d:=43) X (λh43=>?_) (λh43=>?_)
   ·refine T4 ?_;exact k43 M
   refine T4 ?_;exact k43 M
  refine A1 (d:=34) X (λh34=>?_) (λh34=>?_)
  ·refine T4 ?_;exact k34 M
  refine T4 ?_;exact k34 M
 refine A1 (d:=23) X (λh23=>?_) (λh23=>?_)
 ·refine T6 ?_;exact k23 M
 refine T6 ?_;exact k23 M
def MT (r:Option Kz):Kv:=.tuple #[str (r.getD []),.bool r.isSome]
def ffE (p:El→Bool) (l:List El):Option Kz:=(ffN (λ_=>p) 0 l).map (·.id)
def ffF (p:Fl→Bool) (l:List Fl):Option Kz:=(ffN (λ_=>p) 0 l).map (·.id)
theorem XR (p:El→Bool) (l:List El):Value.tuple #[str ((ffN (λ_=>p) 0 l).elim [] (λx=>x.id)),.bool (ffN (λ_=>p) 0 l).isSome]=MT (ffE p l):=by unfold MT ffE;cases ffN (λ_=>p) 0 l<;>rfl
theorem wD (p:Fl→Bool) (l:List Fl):Value.tuple #[str ((ffN (λ_=>p) 0 l).elim [] (λx=>x.id)),.bool (ffN (λ_=>p) 0 l).isSome]=MT (ffF p l):=by unfold MT ffF;cases ffN (λ_=>p) 0 l<;>rfl
theorem yC (m:Md) (a:MdA) (ix:IxA) (gx:Nat) (w:Kw) (ho:MdOk m) (hx:IxAt w m a ix gx) :
 zt zv 70 #[pg gx] w (BR w (MT (ffE (W6 m) m.els))):=by
 refine BO func70 ntmps70 X λM=>W ?_
 refine CZ M kw X X 144 X X ([pg gx]) X λg1 w1 hg1 M=>T10 ?_
 refine yl X X (Blk.c ((hx.fr0 M.fr).blk) 3 X) (ya X (D8 (us:=[]) (vs:=[pg g1]) X X X) (CQ M 10 X X call121 (LB _ _ m.els (by have:=ho.nfls;have:=ho.nels;have:=ho.nvars;omega) 127 [pg g1] (W6 m) _ (J7 call127 (λz hz w9 hf9=>yD m a ix gx _ z w9 (ho.els z hz) ho ((hx.fr0 M.fr).fr0 hf9) ((M.blk 0 X).fr0 hf9))) (M.rd hx.md.els)) λw2 M=>W ?_));exact B1 X X X ⟨Bf Ending.returned (XR _ _),M.fr⟩
theorem nH (m:Md) (a:MdA) (ix:IxA) (gx:Nat) (w:Kw) (ho:MdOk m) (hx:IxAt w m a ix gx) :
 zt zv 71 #[pg gx] w (BR w (MT (ffF (LL m) m.fls))):=by
 refine BO func71 ntmps71 X λM=>W ?_
 refine CZ M kw X X 144 X X ([pg gx]) X λg1 w1 hg1 M=>T10 ?_
 refine yl X X (Blk.c ((hx.fr0 M.fr).blk) 4 X) (ya X (D8 (us:=[]) (vs:=[pg g1]) X X X) (CQ M 10 X X call124 (ZZ _ _ m.fls (by have:=ho.nfls;have:=ho.nels;have:=ho.nvars;omega) 129 [pg g1] (LL m) _ (J7 call129 (λz hz w9 hf9=>nI m a ix gx _ z w9 ho ((hx.fr0 M.fr).fr0 hf9) ((M.blk 0 X).fr0 hf9))) (M.rd hx.md.fls)) λw2 M=>W ?_));exact B1 X X X ⟨Bf Ending.returned (wD _ _),M.fr⟩
theorem vQ (m:Md) (a:MdA) (ix:IxA) (gx:Nat) (w:Kw) (ho:MdOk m) (hx:IxAt w m a ix gx) :
 zt zv 72 #[pg gx] w (BR w (MT (ffE (JA m) m.els))):=by
 refine BO func72 ntmps72 X λM=>W ?_
 refine CZ M kw X X 144 X X ([pg gx]) X λg1 w1 hg1 M=>T10 ?_
 refine yl X X (Blk.c ((hx.fr0 M.fr).blk) 3 X) (ya X (D8 (us:=[]) (vs:=[pg g1]) X X X) (CQ M 10 X X call121 (LB _ _ m.els (by have:=ho.nfls;have:=ho.nels;have:=ho.nvars;omega) 130 [pg g1] (JA m) _ (J7 call130 (λz hz w9 hf9=>pL m a ix gx _ z w9 (ho.els z hz) ho ((hx.fr0 M.fr).fr0 hf9) ((M.blk 0 X).fr0 hf9))) (M.rd hx.md.els)) λw2 M=>W ?_));exact B1 X X X ⟨Bf Ending.returned (XR _ _),M.fr⟩
theorem nR (m:Md) (a:MdA) (ix:IxA) (gx:Nat) (w:Kw) (ho:MdOk m) (hx:IxAt w m a ix gx) :
 zt zv 75 #[pg gx] w (BR w (MT (ffE (LN m) m.els))):=by
 refine BO func75 ntmps75 X λM=>W ?_
 refine CZ M kw X X 144 X X ([pg gx]) X λg1 w1 hg1 M=>T10 ?_
 refine yl X X (Blk.c ((hx.fr0 M.fr).blk) 3 X) (ya X (D8 (us:=[]) (vs:=[pg g1]) X X X) (CQ M 10 X X call121 (LB _ _ m.els (by have:=ho.nfls;have:=ho.nels;have:=ho.nvars;omega) 140 [pg g1] (LN m) _ (J7 call140 (λz hz w9 hf9=>nS m a ix gx _ z w9 (ho.els z hz) ho ((hx.fr0 M.fr).fr0 hf9) ((M.blk 0 X).fr0 hf9))) (M.rd hx.md.els)) λw2 M=>W ?_));exact B1 X X X ⟨Bf Ending.returned (XR _ _),M.fr⟩
theorem pU (m:Md) (a:MdA) (ix:IxA) (gx:Nat) (w:Kw) (ho:MdOk m) (hx:IxAt w m a ix gx) :
 zt zv 76 #[pg gx] w (BR w (MT (ffE (MZ m) m.els))):=by
 refine BO func76 ntmps76 X λM=>W ?_
 refine CZ M kw X X 144 X X ([pg gx]) X λg1 w1 hg1 M=>T10 ?_
 refine yl X X (Blk.c ((hx.fr0 M.fr).blk) 3 X) (ya X (D8 (us:=[]) (vs:=[pg g1]) X X X) (CQ M 10 X X call121 (LB _ _ m.els (by have:=ho.nfls;have:=ho.nels;have:=ho.nvars;omega) 145 [pg g1] (MZ m) _ (J7 call145 (λz hz w9 hf9=>pW m a ix gx _ z w9 (ho.els z hz) ho ((hx.fr0 M.fr).fr0 hf9) ((M.blk 0 X).fr0 hf9))) (M.rd hx.md.els)) λw2 M=>W ?_));exact B1 X X X ⟨Bf Ending.returned (XR _ _),M.fr⟩
structure MdB (m:Md):Prop where
 id:(m.id.length:Int)<4611686018427387904
 nm:(m.nm.length:Int)<4611686018427387904
 vars:BdOk m.vars
 nels:m.els.length≤1000
 nfls:m.fls.length≤2199023255488
 nvars:m.vars.length≤4611686018427387904
 els:∀x∈m.els,ElOk x
 fls:∀x∈m.fls,FlOk x
theorem MdOk.b {m:Md} (h:MdOk m):MdB m:=⟨h.id,h.nm,h.vars,by have:=h.nels;omega,by have:=h.nfls;omega,by have:=h.nvars;omega,h.els,h.fls⟩
section
theorem XS (l:List El) (x:El) (k:Kz):AG (l++[x]) k=match AG l k with
 | some y=>G y
 | none=>if x.id=k then G x else zx:=by
 induction l with
 | nil=>rfl
 | cons y r ih=>
  rw [Ii,AG,AG]
  by_cases h:y.id=k
  ·rw [Ac h,Ac h]
  rw [Ae h,Ae h];exact ih
section
variable {L:List (Kz × Kv)} {l l':List El} {x:El} (hL:∀k,CG L k=(AG l k).map elV)
include hL
theorem elG (k:Kz):(CG L k).getD (.agg zeroEl.cells.toArray)=.agg ((AG l k).getD zeroEl).cells.toArray:=by rw [hL];cases AG l k<;>rfl
theorem elI (k:Kz):(CG L k).isSome=(AG l k).isSome:=by rw [hL];cases AG l k<;>rfl
theorem wI (hl:l'=l++[x]) (h:(!(AG l x.id).isSome)=zz):∀k,CG (DG L x.id (.agg (El.cells x).toArray)) k=(AG l' k).map elV:=λk=>by
 have hn:AG l x.id=zx:=by
  cases hq:AG l x.id with
  | none=>rfl
  | some y=>rw [hq] at h;cases h
 rw [G6,hl,XS]
 by_cases hk:k=x.id
 ·subst hk;rw [Ac rfl,hn];simp [elV]
 rw [Ae hk,hL]
 cases AG l k with
 | some y=>rfl
 | none=>rw [Ae (λe=>hk e.symm)]
theorem a1e (hl:l'=l++[x]) (h:(!(AG l x.id).isSome)=zy):∀k,CG L k=(AG l' k).map elV:=λk=>by
 rw [hL,hl,XS]
 cases hq:AG l k with
 | some y=>rfl
 | none=>
  have hk:¬x.id=k:=λe=>by rw [e,hq] at h;cases h
  rw [Ae hk]
end
theorem p5 (l:List Fl) (i:Nat) (k:Kz):(E5 (l.take i) k).length≤l.length:=Bh (HT _ _) (by rw [Bs];omega)
theorem jM (l:List Fl) (i:Nat) (k:Kz):(BV (l.take i) k).length≤l.length:=Bh (F4 _ _) (by rw [Bs];omega)
section
variable {l:List Fl} {j:Nat} {f:Fl} {k:Kz} (hf:l[j]?=G f)
include hf
theorem v8 : E5 (l.take (j+1)) f.tg=E5 (l.take j) f.tg++[f]:=by
 rw [AT hf];unfold E5;rw [Cm];simp
theorem a0q (hk:k≠f.tg):E5 (l.take (j+1)) k=E5 (l.take j) k:=by
 rw [AT hf];unfold E5;rw [Cm];simp [Ne.symm hk]
theorem oH : BV (l.take (j+1)) f.frm=BV (l.take j) f.frm++[f]:=by
 rw [AT hf];unfold BV;rw [Cm];simp
theorem tV (hk:k≠f.frm):BV (l.take (j+1)) k=BV (l.take j) k:=by
 rw [AT hf];unfold BV;rw [Cm];simp [Ne.symm hk]
end
section
variable {w0 w w1:Kw} {S:Nat→Prop} {L:List As}
theorem Mem.toFam {α:Type} (M:Mem w0 S L w) (i:Nat) {g:Nat} (hi:L[i]?=G (As.mp g [])) (e:Ly) (size:Nat) (cells:α→Kx):Mem w0 S (L.set i (As.fam w0.heap.size e size cells g [] (λ_=>[]) (λ_=>False) [])) w:=
 M.upd i hi Fr.refl _ (Fam.new (M.mp i hi) _ _ _ _) (λ_ hg'=>.inl hg')
theorem Mem.appOwn (M:Mem w0 S L w) (i:Nat) {base el size n n':Nat} {v v':Kv} {xs xs':Kx} (hi:L[i]?=G (As.own base el size v n xs)) (ho:w1.ownsRow base el size v' n' xs') (h2:w.grownBy w1 v.ownBlock) (h3:v'.ownBlock=v.ownBlock∨v'.ownBlock=G w.heap.size):Mem w0 S (L.set i (As.own base el size v' n' xs')) w1:=by
 refine M.upd i hi ?_ _ ho ?_
 ·refine ⟨h2.os,h2.tape,h2.output,h2.size,λg hg hn=>h2.block g hg ?_⟩;intro e;exact hn (by simp [As.own,←e])
 intro g hg;rcases h3 with h|h
 ·left;simpa [As.own,h] using hg
 right
 have hg':g=w.heap.size:=by simpa [As.own,h,eq_comm] using hg
 have:=(LV ho g hg).2
 omega
end
def Q2 : Kv→Ky
 | .slice A _ _=>A
 | _=>zx
def j3 : Kv→Nat
 | .slice _ _ c=>c
 | _=>0
theorem Fam.val {α:Type} {w:Kw} {base size g:Nat} {e:Ly} {cells:α→Kx} {L:List (Kz × Kv)} {rows:Kz→List α} {F:List Nat} (h:Fam w base e size cells g L rows (λ_=>False) F) (k:Kz) :
 (CG L k).getD (.slice zx 0 0)=.slice (Q2 (GH L k)) (rows k).length (j3 (GH L k))∧Rd w (Q2 (GH L k)) ((rows k).length*size) (AF cells (rows k)):=by
 obtain ⟨ho,_⟩:=h.row k (λhh=>hh);obtain ⟨A,C,hv,_⟩:=DH ho;have hv':(CG L k).getD (.slice zx 0 0)=.slice A (rows k).length C:=hv;rw [hv',hv];rw [hv] at ho
 exact ⟨X,MV ho⟩
structure IxN (w:Kw) (m:Md) (a:MdA) (x:IxA) (gx:Nat) (F:List Nat):Prop where
 blk:Blk w gx 186 (Ix.cells m a x)
 E:Mp w x.gE x.LE
 I:Mp w x.gI x.LI
 O:Mp w x.gO x.LO
 getE:∀k,(CG x.LE k).getD (.agg zeroEl.cells.toArray)=.agg ((AG m.els k).getD zeroEl).cells.toArray
 isE:∀k,(CG x.LE k).isSome=(AG m.els k).isSome
 getI:∀k,(CG x.LI k).getD (.slice zx 0 0)=.slice (x.iA k) (E5 m.fls k).length (x.iC k)
 getO:∀k,(CG x.LO k).getD (.slice zx 0 0)=.slice (x.oA k) (BV m.fls k).length (x.oC k)
 rdI:∀k,Rd w (x.iA k) ((E5 m.fls k).length*4) (AF Fl.cells (E5 m.fls k))
 rdO:∀k,Rd w (x.oA k) ((BV m.fls k).length*4) (AF Fl.cells (BV m.fls k))
 inF:gx∈F∧x.gE∈F∧x.gI∈F∧x.gO∈F
 inI:∀k b off p,x.iA k=G ⟨b,off,p⟩→b∈F
 inO:∀k b off p,x.oA k=G ⟨b,off,p⟩→b∈F
theorem JO {w w':Kw} {A:Ky} {n:Nat} {xs:Kx} {F:List Nat} (h:Rd w A n xs) (hk:∀g∈F,g<w.heap.size→w'.heap[g]?=w.heap[g]?) (hA:∀b off p,A=G ⟨b,off,p⟩→b∈F):Rd w' A n xs:=by
 refine ⟨h.1,λhn=>?_⟩;obtain ⟨b,off,e,hc⟩:=h.2 hn;refine ⟨b,off,e,λj u hu=>?_⟩;have h1:=hc j u hu;have hl:=World.block_lt_of_cell? w _ h1;have h2:=hk b (hA b off zx e) hl;rw [←h1];unfold World.cell?;simp only [h2]
theorem MM {w w':Kw} {g:Nat} {L:List (Kz × Kv)} {F:List Nat} (h:Mp w g L) (hk:∀g∈F,g<w.heap.size→w'.heap[g]?=w.heap[g]?) (hg:g∈F):Mp w' g L:=by
 obtain ⟨es,cl,h1,h2⟩:=h;exact ⟨es,cl,(hk g hg (Ar.1 h1).1).trans h1,h2⟩
theorem IxN.keep {w w':Kw} {m:Md} {a:MdA} {x:IxA} {gx:Nat} {F:List Nat} (hk:∀g∈F,g<w.heap.size→w'.heap[g]?=w.heap[g]?) (h:IxN w m a x gx F):IxN w' m a x gx F:=
 ⟨(hk gx h.inF.1 h.blk.lt).trans h.blk,MM h.E hk h.inF.2.1,MM h.I hk h.inF.2.2.1,MM h.O hk h.inF.2.2.2,h.getE,h.isE,h.getI,h.getO,λk=>JO (h.rdI k) hk (h.inI k),λk=>JO (h.rdO k) hk (h.inO k),h.inF,h.inI,h.inO⟩
def As.ixp (m:Md) (a:MdA) (x:IxA) (gx:Nat) (F:List Nat):As:=⟨F,λw=>IxN w m a x gx F,λh hb=>hb.keep h⟩
theorem IxN.at {w:Kw} {m:Md} {a:MdA} {x:IxA} {gx:Nat} {F:List Nat} (h:IxN w m a x gx F) (hM:MdIn w m a):IxAt w m a x gx:=
 ⟨hM,h.blk,h.E,h.I,h.O,h.getE,h.isE,h.getI,h.getO,h.rdI,h.rdO⟩
theorem Fam.blk {α:Type} {w:Kw} {base size g:Nat} {e:Ly} {cells:α→Kx} {L:List (Kz × Kv)} {rows:Kz→List α} {F:List Nat} (h:Fam w base e size cells g L rows (λ_=>False) F) (k:Kz) {b:Nat} (hA:(Q2 (GH L k)).map (λa=>a.block)=G b):b∈F:=by
 obtain ⟨ho,hF⟩:=h.row k (λhh=>hh);obtain ⟨A,C,hv,_⟩:=DH ho;refine hF b ?_;rw [hv] at hA ⊢
 cases A with
 | none=>cases hA
 | some q=>simpa [Q2,Value.ownBlock] using hA
theorem fS {m:Md} {a:MdA} {w w':Kw} {g15 g13 g12 g11:Nat} {L LI LO:List (Kz × Kv)} {FI FO:List Nat} {Ls:List As}
 (M:Mem w AR (As.blk g15 186 [str m.id,str m.nm,.slice a.V m.vars.length a.vc,.slice a.E m.els.length a.ec,.slice a.F m.fls.length a.fc,.map (G g11),.map (G g12),.map (G g13)]::As.fam w.heap.size 110 4 Fl.cells g13 LO (BV m.fls) (λ_=>False) FO::As.fam w.heap.size 110 4 Fl.cells g12 LI (E5 m.fls) (λ_=>False) FI::As.mp g11 L::Ls) w')
 (hL:∀k,CG L k=(AG m.els k).map elV) :
 ∃ix gx F,Ending.returned (pg g15)=.returned (pg gx)∧IxN w' m a ix gx F∧(∀g∈F,w.heap.size≤g∧g<w'.heap.size)∧Fr0 w w':=by
 have hO:Fam w' w.heap.size 110 4 Fl.cells g13 LO (BV m.fls) (λ_=>False) FO:=M.ok 1 _ X;have hI:Fam w' w.heap.size 110 4 Fl.cells g12 LI (E5 m.fls) (λ_=>False) FI:=M.ok 2 _ X
 refine ⟨⟨g11,g12,g13,L,LI,LO,λk=>Q2 (GH LI k),λk=>j3 (GH LI k),λk=>Q2 (GH LO k),λk=>j3 (GH LO k)⟩,g15,g15::g11::((g12::FI)++(g13::FO)),X,
  ⟨M.blk 0 rfl,M.mp 3 rfl,hI.map,hO.map,elG hL,elI hL,λk=>(hI.val k).1,λk=>(hO.val k).1,λk=>(hI.val k).2,λk=>(hO.val k).2,⟨by simp,by simp,by simp,by simp⟩,?_,?_⟩,?_,M.fr⟩
 ·intro k b off p hA
  have:=hI.blk k (b:=b) (by simp only at hA;rw [hA];rfl)
  simp [this]
 ·intro k b off p hA
  have:=hO.blk k (b:=b) (by simp only at hA;rw [hA];rfl)
  simp [this]
 intro g hg;rcases Ao.1 hg with rfl|hg
 ·exact M.new0 0 X _ (by simp [As.blk])
 rcases Ao.1 hg with rfl|hg
 ·exact M.new0 3 X _ (by simp [As.mp])
 rcases Bp.1 hg with hg|hg
 ·exact M.new0 2 X g hg
 exact M.new0 1 X g hg
theorem OM (c0_0 c0_1 c0_2 c0_3 c0_4:Kv) (a1:Option Nat) (a2:Option Nat) (a3:Option Nat):zv.built 186 [(0,.agg #[c0_0,c0_1,c0_2,c0_3,c0_4]),(1,.map a1),(2,.map a2),(3,.map a3)]=G #[c0_0,c0_1,c0_2,c0_3,c0_4,.map a1,.map a2,.map a3]:=zr
theorem MX : (zv.info? 110).map (λi=>(i.zero,i.size,i.bytes))=G (G (.agg #[str [],str [],str [],str []]),4,64):=zr
theorem SD : (zv.info? 110).map (λi=>(i.zero,i.size))=G (G (.agg #[str [],str [],str [],str []]),4):=zr
theorem XH (m:Md) (a:MdA) (w:Kw) (ho:MdB m) (hM:MdIn w m a) :
 zt zv 68 #[.agg (Md.cells m a).toArray] w λe w'=>∃ix gx F,e=.returned (pg gx)∧IxN w' m a ix gx F∧(∀g∈F,w.heap.size≤g∧g<w'.heap.size)∧Fr0 w w':=by
 have hne:=ho.nels;have hnf:=ho.nfls;refine BO func68 ntmps68 X λM=>W ?_
 refine CU M X X λg1 w1 hg1 M=>W ?_
 refine CF M 0 X X Ap AO X (K9 M kw X X X λg11 w2 hg11 M=>K9 M kw X X X λg12 w3 hg12 M=>K9 M kw X X X λg13 w4 hg13 M=>ya X (B8 (parts:=[(0,_),(1,_),(2,_),(3,_)]) X X (OM _ _ _ _ _ _ _ _)) (CZ M kw X X 186 X X ([str m.id,str m.nm,.slice a.V m.vars.length a.vc,.slice a.E m.els.length a.ec,.slice a.F m.fls.length a.fc,.map (G g11),.map (G g12),.map (G g13)]) X λg15 w5 hg15 M=>W ?_));refine flp [18,17,3,1] (λze e wr mz=>∃(i:Nat) (L:List (Kz × Kv)),e=(19,AA (i:Int))::ze∧Mem w AR [As.blk g15 186 [str m.id,str m.nm,.slice a.V m.vars.length a.vc,.slice a.E m.els.length a.ec,.slice a.F m.fls.length a.fc,.map (G g11),.map (G g12),.map (G g13)],As.mp g13 [],As.mp g12 [],As.mp g11 L,As.blk g1 48 (Md.cells m a)] wr∧(i≤m.els.length)∧(∀k,CG L k=(AG (m.els.take i) k).map elV)∧mz=m.els.length-i) ⟨0,[],X,M,Aj _,λ_=>X,X⟩ ?_;rintro _ w6 _ ⟨i,L,rfl,M,hi,hL,rfl⟩;refine W ?_;refine AC X (λh20=>?_) (λh20=>?_)
 ·have h20p:=odt h20;refine W ?_;obtain ⟨x,_,_,hx,hA_x⟩:=ex5 (i:=i) (M.rd hM.els);refine ya X (AK i hA_x X X X (sl X) A0) (ya X (AJ X X (BF El.len (M.rd hM.els) hA_x hx) Bk X AM) (CE M X AP λg5 w7 hg5 M=>BX M 0 X X AM X λw8 M=>W ?_));refine I0 M 13 CA λM=>oc 0 13 X X M (oc 1 13 X X M (oc 2 13 X X M (ol 3 13 X X X M (λ_ M=>(M.cell 1 X X)) (oc 4 13 X X M (ol 5 13 X X X M (λ_ M=>(M.cell 0 X X)) (oa 6 13 X X M (λ_ M=>EM X X X Di Ad AP (M.mp 4 X) (elG hL _) (elI hL _)) (oc 7 13 X X M (oc 8 13 X X M (oc 9 13 X X M (fon M 10 6 X X AP λg6 w9 hg6 M=>fop M 11 0 X X X AM X (·.drop 1) λw10 M=>oc 12 13 X X (M.drop 1) (fdn (W ?_))))))))))))
  refine AC X (λh34=>?_) (λh34=>?_)
  ·have h34p:=CJ h34;refine DZ 7 CA zr ?_;have M:=M.drew;refine W ?_;refine sa X (AJ (xs:=El.cells x) X X (M.rdBlk 1 X X) Bk X AM) (DA (GR M 5 kw X X X X X Di Ad X λw11 M=>W ?_));refine fag ⟨i+1,DG L x.id (.agg (El.cells x).toArray),X,(M.pk [2,3,4,5,6]),?_,?_,X⟩
   ·omega
   first
    | exact wI hL (AT hx) h34
    | exact a1e hL (AT hx) h34
  have h34p:=BL h34;refine W ?_;refine fag ⟨i+1,L,X,(M.pk [2,3,4,5,6]),?_,?_,X⟩
  ·omega
  first
   | exact wI hL (AT hx) h34
   | exact a1e hL (AT hx) h34
 have h20p:=odf h20;refine W ?_;have hiE:i=m.els.length:=A0
 rw [hiE,Bc] at hL
 refine W ?_;have M:=M.toFam 2 X 110 4 Fl.cells;have M:=M.toFam 1 X 110 4 Fl.cells;refine flp [45,44,3] (λze e wr mz=>∃(j:Nat) (LI:List (Kz × Kv)) (FI:List Nat) (LO:List (Kz × Kv)) (FO:List Nat),e=(46,AA (j:Int))::ze∧Mem w AR [As.blk g15 186 [str m.id,str m.nm,.slice a.V m.vars.length a.vc,.slice a.E m.els.length a.ec,.slice a.F m.fls.length a.fc,.map (G g11),.map (G g12),.map (G g13)],As.fam w.heap.size 110 4 Fl.cells g13 LO (BV (m.fls.take j)) (λ_=>False) FO,As.fam w.heap.size 110 4 Fl.cells g12 LI (E5 (m.fls.take j)) (λ_=>False) FI,As.mp g11 L,As.blk g1 48 (Md.cells m a)] wr∧(j≤m.fls.length)∧mz=m.fls.length-j) ⟨0,[],[],[],[],X,M,Aj _,X⟩ ?_;rintro _ w12 _ ⟨j,LI,FI,LO,FO,rfl,M,hj,rfl⟩;refine W ?_;refine AC X (λh47=>?_) (λh47=>?_)
 ·have h47p:=odt h47;refine W ?_;obtain ⟨f,_,_,hf,hA_f⟩:=ex5 (i:=j) (M.rd hM.fls);refine ya X (AK j hA_f X X X (sl X) A0) (ya X (AJ X X (BF Fl.len (M.rd hM.fls) hA_f hf) Co X BU) (CE M X DX λg9 w13 hg9 M=>BX M 0 X X BU X λw14 M=>W ?_));obtain ⟨ARI,CRI,F1I,hvI,M⟩:=Mem.famTake (M.pk [3,0,1,2,4,5]) f.tg;have hbI:(E5 (m.fls.take j) f.tg).length≤m.fls.length:=p5 _ _ _;refine EO 16 (λw'=>Mem w AR [As.fam w.heap.size 110 4 Fl.cells g12 LI (E5 (m.fls.take j)) (λk=>k=f.tg) F1I,As.blk g9 110 (Fl.cells f),As.blk g15 186 [str m.id,str m.nm,.slice a.V m.vars.length a.vc,.slice a.E m.els.length a.ec,.slice a.F m.fls.length a.fc,.map (G g11),.map (G g12),.map (G g13)],As.fam w.heap.size 110 4 Fl.cells g13 LO (BV (m.fls.take j)) (λ_=>False) FO,As.mp g11 L,As.blk g1 48 (Md.cells m a)] w') CA ?_;have M:=M.drew;refine oc 0 16 X X (M.pk [1,2,3,4,5,6]) (oc 1 16 X X (M.pk [1,2,3,4,5,6]) (oc 2 16 X X (M.pk [1,2,3,4,5,6]) (ol 3 16 X X X (M.pk [1,2,3,4,5,6]) (λ_ M=>(M.cell 2 X X)) (oc 4 16 X X (M.pk [1,2,3,4,5,6]) (ol 5 16 X X X (M.pk [1,2,3,4,5,6]) (λ_ M=>(M.cell 1 X X)) (oc 6 16 X X (M.pk [1,2,3,4,5,6]) (oc 7 16 X X (M.pk [1,2,3,4,5,6]) (oc 8 16 X X (M.pk [1,2,3,4,5,6]) (ol 9 16 X X X (M.pk [1,2,3,4,5,6]) (λ_ M=>(M.cell 2 X X)) (oc 10 16 X X (M.pk [1,2,3,4,5,6]) (ol 11 16 X X X (M.pk [1,2,3,4,5,6]) (λ_ M=>(M.cell 1 X X)) (oa 12 16 X X (M.pk [1,2,3,4,5,6]) (λ_ M=>CH X X X Eb Ad EH (M.famMp 0 X) hvI) (oa 13 16 X X (M.pk [1,2,3,4,5,6]) (λ_ M=>AJ (xs:=Fl.cells f) X X (M.rdBlk 1 X X) Co X BU) (B7 14 (G 64) zr X kw X X (λρ hρ=>CX [.agg (Fl.cells f).toArray] _ hρ X X X X Ek SD AV AV (FZ X)) ?_))))))))))))));rintro _ w15 ⟨g64,rfl,hg64,hq64,hb64,hfw15⟩
  replace hb64:Blk w15 g64 110 ((Fl.cells f)):=hb64
  refine ⟨λ_=>(M.pk [1,2,3,4,5,6]).step hfw15,?_⟩;have M:=M.push hfw15 _ hb64 (CR hg64 hq64)
  replace M:Mem w AR (As.blk g64 110 ((Fl.cells f))::_) w15:=M
  refine B7 15 (G 65) zr X kw X X (λρ hρ=>D2 _ _ _ X w.heap.size _ _ _ _ Ek MX X AV _ _ _ (hρ _ _ X) (M.own 1 X) _ _ _ _ (hρ _ _ X) (M.rdBlk 0 X X) ((Fl.cells_one _)) (by unfold maxLen;first|omega|(simp;omega)) D4 M.fr.size) ?_;rintro v65 w16 ⟨ho65,hgr65,hvb65⟩
  replace ho65:World.ownsRow w16 w.heap.size 110 4 v65 (((E5 (m.fls.take j) f.tg)++[f]).length) (AF Fl.cells ((E5 (m.fls.take j) f.tg)++[f])):=by rw [show (((E5 (m.fls.take j) f.tg)++[f]).length)=((E5 (m.fls.take j) f.tg).length)+1 from by simp,show (AF Fl.cells ((E5 (m.fls.take j) f.tg)++[f]))=(AF Fl.cells (E5 (m.fls.take j) f.tg))++(Fl.cells f) from by first|exact AY _ _ _|simp [AF]];exact ho65
  have M:=M.appOwn 1 X ho65 hgr65 hvb65;obtain ⟨A65,c65,rfl,_⟩:=DH ho65;refine ⟨λ_=>(M.pk [2,3,4,5,6,7]),B7 16 zx zr X kw X X (λρ hρ=>GP X (hρ _ _ X) (hρ _ _ X) (hρ _ _ X) Eb Ad (M.famMp 2 X)) ?_⟩;rintro _ w17 ⟨rfl,hfw17,hbw17⟩;have M:=M.putFam 2 X hfw17 hbw17;refine ⟨λh=>absurd h AV,?_⟩;obtain ⟨F2I,M⟩:=Mem.famPut (M.pk [1,2,0,3,4,5,6,7]) (by rw [LX,Ac rfl]) X (E5 (m.fls.take (j+1))) (v8 hf) (λk hk=>a0q hf hk);refine fdn (qx_seq ?_);obtain ⟨ARO,CRO,F1O,hvO,M⟩:=Mem.famTake (M.pk [4,0,1,2,3,5,6]) f.frm;have hbO:(BV (m.fls.take j) f.frm).length≤m.fls.length:=jM _ _ _;refine EO 16 (λw'=>Mem w AR [As.fam w.heap.size 110 4 Fl.cells g13 LO (BV (m.fls.take j)) (λk=>k=f.frm) F1O,As.fam w.heap.size 110 4 Fl.cells g12 (DG LI f.tg (.slice A65 (((E5 (m.fls.take j) f.tg)++[f]).length) c65)) (E5 (m.fls.take (j+1))) (λ_=>False) F2I,As.blk g64 110 (Fl.cells f),As.blk g9 110 (Fl.cells f),As.blk g15 186 [str m.id,str m.nm,.slice a.V m.vars.length a.vc,.slice a.E m.els.length a.ec,.slice a.F m.fls.length a.fc,.map (G g11),.map (G g12),.map (G g13)],As.mp g11 L,As.blk g1 48 (Md.cells m a)] w') CA ?_;have M:=M.drew;refine oc 0 16 X X (M.pk [1,2,3,4,5,6,7]) (oc 1 16 X X (M.pk [1,2,3,4,5,6,7]) (oc 2 16 X X (M.pk [1,2,3,4,5,6,7]) (ol 3 16 X X X (M.pk [1,2,3,4,5,6,7]) (λ_ M=>(M.cell 4 X X)) (oc 4 16 X X (M.pk [1,2,3,4,5,6,7]) (ol 5 16 X X X (M.pk [1,2,3,4,5,6,7]) (λ_ M=>(M.cell 3 X X)) (oc 6 16 X X (M.pk [1,2,3,4,5,6,7]) (oc 7 16 X X (M.pk [1,2,3,4,5,6,7]) (oc 8 16 X X (M.pk [1,2,3,4,5,6,7]) (ol 9 16 X X X (M.pk [1,2,3,4,5,6,7]) (λ_ M=>(M.cell 4 X X)) (oc 10 16 X X (M.pk [1,2,3,4,5,6,7]) (ol 11 16 X X X (M.pk [1,2,3,4,5,6,7]) (λ_ M=>(M.cell 3 X X)) (oa 12 16 X X (M.pk [1,2,3,4,5,6,7]) (λ_ M=>CH X X X Eb Ad EH (M.famMp 0 X) hvO) (oa 13 16 X X (M.pk [1,2,3,4,5,6,7]) (λ_ M=>AJ (xs:=Fl.cells f) X X (M.rdBlk 3 X X) Co X BU) (B7 14 (G 80) zr X kw X X (λρ hρ=>CX [.agg (Fl.cells f).toArray] _ hρ X X X X Ek SD AV AV (FZ X)) ?_))))))))))))));rintro _ w18 ⟨g80,rfl,hg80,hq80,hb80,hfw18⟩
  replace hb80:Blk w18 g80 110 ((Fl.cells f)):=hb80
  refine ⟨λ_=>(M.pk [1,2,3,4,5,6,7]).step hfw18,?_⟩;have M:=M.push hfw18 _ hb80 (CR hg80 hq80)
  replace M:Mem w AR (As.blk g80 110 ((Fl.cells f))::_) w18:=M
  refine B7 15 (G 81) zr X kw X X (λρ hρ=>D2 _ _ _ X w.heap.size _ _ _ _ Ek MX X AV _ _ _ (hρ _ _ X) (M.own 1 X) _ _ _ _ (hρ _ _ X) (M.rdBlk 0 X X) ((Fl.cells_one _)) (by unfold maxLen;first|omega|(simp;omega)) D4 M.fr.size) ?_;rintro v81 w19 ⟨ho81,hgr81,hvb81⟩
  replace ho81:World.ownsRow w19 w.heap.size 110 4 v81 (((BV (m.fls.take j) f.frm)++[f]).length) (AF Fl.cells ((BV (m.fls.take j) f.frm)++[f])):=by rw [show (((BV (m.fls.take j) f.frm)++[f]).length)=((BV (m.fls.take j) f.frm).length)+1 from by simp,show (AF Fl.cells ((BV (m.fls.take j) f.frm)++[f]))=(AF Fl.cells (BV (m.fls.take j) f.frm))++(Fl.cells f) from by first|exact AY _ _ _|simp [AF]];exact ho81
  have M:=M.appOwn 1 X ho81 hgr81 hvb81;obtain ⟨A81,c81,rfl,_⟩:=DH ho81;refine ⟨λ_=>(M.pk [2,3,4,5,6,7,8]),B7 16 zx zr X kw X X (λρ hρ=>GP X (hρ _ _ X) (hρ _ _ X) (hρ _ _ X) Eb Ad (M.famMp 2 X)) ?_⟩;rintro _ w20 ⟨rfl,hfw20,hbw20⟩;have M:=M.putFam 2 X hfw20 hbw20;refine ⟨λh=>absurd h AV,?_⟩;obtain ⟨F2O,M⟩:=Mem.famPut (M.pk [1,2,0,3,4,5,6,7,8]) (by rw [LX,Ac rfl]) X (BV (m.fls.take (j+1))) (oH hf) (λk hk=>tV hf hk);refine fdn (W ?_);refine fag ⟨j+1,(DG LI f.tg (.slice A65 (((E5 (m.fls.take j) f.tg)++[f]).length) c65)),F2I,(DG LO f.frm (.slice A81 (((BV (m.fls.take j) f.frm)++[f]).length) c81)),F2O,X,(M.pk [5,0,2,6,7]),?_,X⟩
  ·omega
 have h47p:=odf h47;refine W ?_;have hjE:j=m.fls.length:=A0
 rw [hjE,Bc] at M
 refine W ?_;exact gr1 X (fS M hL)
end
end
section
def aU : List (UInt8 × Int)→Option Int
 | []=>zx
 | q::r=>if (!decide (q.2=0))=zz then G q.2 else aU r
def tyT (n:Xn) (vars:List Bd) (ts:List (UInt8 × Int)):UInt8 × Int:=
 if (O ((n.op.toNat:Int)=(1:Int)))=zz then (n.vl.kind,0)
 else if (O ((n.op.toNat:Int)=(2:Int)))=zz then (match ffN (λ(_:Nat) (b:Bd) => !(O (b.name=n.nm))) 0 vars with
  | none=>(0,100)
  | some b=>(b.v.kind,0))
 else match aU ts with
  | some e=>(0,e)
  | none=>UI n.op (ts.map (·.1))
theorem lI (f:Xq→UInt8 × Int):∀L:List Xq,LJ f L=aU (L.map f)
 | []=>rfl
 | q::r=>by rw [LJ,Cc,aU,lI f r]
theorem a0Z (n:Xn) (vars:List Bd) (f:Xq→UInt8 × Int) (L:List Xq):tyW n vars f L=tyT n vars (L.map f):=by
 unfold tyW tyT;rw [lI,Gy]
 rfl
def tyX (vars:List Bd):Xn→UInt8 × Int
 | .un o a=>tyT (.un o a) vars [tyX vars a]
 | .bin o a b=>tyT (.bin o a b) vars [tyX vars a,tyX vars b]
 | .zero=>tyT .zero vars []
 | .lit v=>tyT (.lit v) vars []
 | .var s=>tyT (.var s) vars []
theorem r5 (vars:List Bd) (n:Xn):tyX vars n=tyT n vars (n.kids.map (tyX vars)):=by cases n<;>simp [tyX,Xn.kids]
def I9 (n:Xn) (vars:List Bd):UInt8 × Int:=if chkX n=zz then tyX vars n else (0,1)
theorem mU {n:Xn} {k:Bool} (h:I5 n k=zz):(n.nk:Int)=IJ n.op:=by
 unfold I5 at h
 by_cases h1:(!decide ((n.nk:Int)=(IJ n.op)))=zz
 ·rw [Ac h1] at h;cases h
 simpa using h1
theorem a2L {n:Xn} {k:Bool} (h:I5 n k=zz):k=zy:=by
 cases k with
 | false=>rfl
 | true=>
  exfalso
  unfold I5 at h
  revert h
  repeat' split
  all_goals simp
theorem i6 {n a:Xn} (h:chkX n=zz) (ha:a∈n.kids):chkX a=zz:=by
 rw [SK] at h
 have h1:=a2L h;rw [Id] at h1
 simpa using h1 a ha
theorem a0M {n:Xn} (h:chkX n=zz) (h1:¬(n.op.toNat:Int)=1) (h2:¬(n.op.toNat:Int)=2):0<n.nk:=by
 rw [SK] at h
 have h3:=mU h;unfold IJ at h3
 split at h3
 ·omega
 rename_i h4
 have h5:=odf (FL (Cp.2 h4)).1
 split at h3
 ·rename_i h6
  have:=odt h6
  omega
 split at h3<;>omega
theorem nE (vars:List Bd) (hvl:vars.length≤4611686018427387904):∀(n:Xn) (A:Ky) (F:List Nat) (V:Ky) (cv:Nat) (w:Kw),n.AtL 113 w A F→chkX n=zz→Rd w V (vars.length*5) (AF Bd.cells vars) →
 zt zv 211 #[.agg (n.cells A).toArray,.slice V vars.length cv] w (BR w (.tuple #[.int .u8 ((tyX vars n).1.toNat:Int),AA (tyX vars n).2])):=by
 refine Xn.ind λn ih A F V cv w hA hc hV=>?_
 obtain ⟨L,hL,hk,hR,hq⟩:=hA.kids;have h1:n.cells A=OF n A L.length:=by rw [hk];rfl
 have h2:tyX vars n=tyW n vars (λq=>tyX vars q.1) L:=by
  rw [a0Z,r5,←hL,Gy];rfl
 rw [h1,h2];refine r4 n A V cv vars L (λq=>tyX vars q.1) w hvl hV (by have:=n.nk_le;omega) hR (λh3 h4=>by rw [hk];exact a0M hc h3 h4) (λq hq' W hW=>?_);obtain ⟨F',hF'⟩:=hq q hq';have hk':q.1∈n.kids:=by rw [←hL];exact Ei hq'
 exact ih q.1 hk' q.2 F' V cv W (hF'.fr0 hW) (i6 hc hk') (hV.fr0 hW)
theorem Xn.sm_mono {j k:Nat} (h:j≤k) (n:Xn):n.sm j→n.sm k:=by
 induction n with
 | zero=>exact id
 | lit v=>exact λq=>Bh q h
 | var s=>exact λq=>Bh q h
 | un o a ih=>exact ih
 | bin o a b ih1 ih2=>exact λq=>⟨ih1 q.1,ih2 q.2⟩
theorem X3 (s:Kz):(CT s).1.sm 1048576:=by
 by_cases h:256<s.length
 ·rw [show CT s=(.zero,0,3) from Ac h];trivial
 exact Xn.sm_mono A0 _ (oE s)
def TW (vars:List Bd) (s:Kz):Bool:=((O ((CT s).2.2=(0:Int)))&&(O ((I9 (CT s).1 vars).2=(0:Int))))&&(O (((I9 (CT s).1 vars).1.toNat:Int)=(2:Int)))
theorem xZ (vars:List Bd) (hvl:vars.length≤4611686018427387904) (n:Xn) (A:Ky) (F:List Nat) (V:Ky) (cv:Nat) (w:Kw) (hA:n.AtL 113 w A F) (hs:n.sm 1048576) (hU:Laid w utfL) (hV:Rd w V (vars.length*5) (AF Bd.cells vars)) :
 zt zv 187 #[.agg (n.cells A).toArray,.slice V vars.length cv] w (BR w (.tuple #[.int .u8 ((I9 n vars).1.toNat:Int),AA (I9 n vars).2])):=by
 refine BO func187 ntmps187 X λM=>W ?_
 refine CU M X X λg2 w1 hg2 M=>W ?_
 refine CF M 0 X X Bt AU X (CQ M 7 X X call210 (wY n A F _ (hA.fr0 M.fr) hs (GC hU M.fr)) λw2 M=>W ?_);refine AC X (λh8=>?_) (λh8=>?_)
 ·replace h8:=CJ h8
  refine W ?_;exact B1 X X X ⟨by rw [I9,AN h8];rfl,M.fr⟩
 replace h8:=BL h8
 refine W ?_;refine CF M 0 X X Bt AU X (yb X (CQ M 11 X X call211 (nE vars hvl n A F V cv _ (hA.fr0 M.fr) h8 (hV.fr0 M.fr)) λw3 M=>W ?_));exact B1 X X X ⟨by rw [I9,Ac h8]<;>rfl,M.fr⟩
theorem o0 (vars:List Bd) (hvl:vars.length≤4611686018427387904) (s:Kz) (hs:s.length≤4611686018427387904) (V:Ky) (cv:Nat) (w:Kw) (hY:Lay0 w) (hV:Rd w V (vars.length*5) (AF Bd.cells vars)) :
 zt zv 139 #[str s,.slice V vars.length cv] w (BR w (.bool (TW vars s))):=by
 refine BO func139 ntmps139 X λM=>W ?_
 refine cl 12 X (AE X X call46) (f6 s _ hs (hY.fr M.fr (λ_ h=>h.elim))) ?_;rintro _ w1 ⟨A,F,rfl,hat,hnw,hfw1⟩;refine cq ?_;have M:=M.push hfw1 (As.xn 113 (CT s).1 A F) hat hnw;refine W ?_;refine CE M X DQ λg5 w2 hg5 M=>BX M 0 X X AU X λw3 M=>W ?_
 refine CF M 0 X X Bt AU X (yb X (CQ M 19 X X call187 (xZ vars hvl (CT s).1 A F V cv _ (M.ok 1 _ X) (X3 s) (GC hY.utf M.fr) (hV.fr0 M.fr)) λw4 M=>W ?_));refine fvm M 3 [8,4] [(27,.bool ((O ((CT s).2.2=(0:Int)))&&(O ((I9 (CT s).1 vars).2=(0:Int)))))] ?_ (λk24=>?_)
 ·intro w5 M;refine yb X (fvm M 3 [4] [(31,.bool (((O ((CT s).2.2=(0:Int)))&&(O ((I9 (CT s).1 vars).2=(0:Int))))&&(O (((I9 (CT s).1 vars).1.toNat:Int)=2))))] ?_ (λk28=>?_))
  ·intro w6 M;refine W ?_;exact gr1 X ⟨X,M.fr⟩
  refine A1 (d:=28) X (λh28=>?_) (λh28=>?_)
  ·refine T3 ?_;exact k28 M
  refine T3 ?_;exact k28 M
 refine A1 (d:=24) X (λh24=>?_) (λh24=>?_)
 ·refine T3 ?_;exact k24 M
 refine T3 ?_;exact k24 M
theorem Lay0.fr0 {w w':Kw} (h:Lay0 w) (hf:Fr0 w w'):Lay0 w':=h.fr hf (λ_ hh=>hh.elim)
def N8 (m:Md) (y:Fl):Bool:=(if (((O ((((AG m.els y.frm).getD zeroEl).kind.toNat:Int)=(5:Int)))&&(O ((1:Int)<(((BV m.fls y.frm).length:Nat):Int))))&&(!decide (((AG m.els y.frm).getD zeroEl).dflt=y.id)))=zz then (if (!decide (y.cond=[]))=zz then (TW m.vars y.cond) else zy) else (O (y.cond=[])))
theorem yS (m:Md) (a:MdA) (ix:IxA) (gx gp:Nat) (y:Fl) (w:Kw) (oy:FlOk y) (ho:MdOk m) (hx:IxAt w m a ix gx) (hp:Blk w gp 144 [pg gx]) (hY:Lay0 w) :
 zt zv 138 #[.agg y.cells.toArray,pg gp] w (BR w (.bool (N8 m y))):=by
 have hOl:=F4 m.fls y.frm;have hnf:=ho.nfls;refine BO func138 ntmps138 X λM=>W ?_
 refine CU M X X λg2 w1 hg2 M=>W ?_
 refine I0 M 9 CA λM=>ol 0 9 X X X M (λ_ M=>(Blk.c (hp.fr0 M.fr) 0 X)) (oc 1 9 X X M (oc 2 9 X X M (ol 3 9 X X X M (λ_ M=>(Blk.c ((hx.fr0 M.fr).blk) 5 X)) (oc 4 9 X X M (ol 5 9 X X X M (λ_ M=>(M.cell 0 X X)) (oa 6 9 X X M (λ_ M=>CH X X X Di Ad AP ((hx.fr0 M.fr).E) (hx.getE _)) (fon M 7 4 X X AP λg4 w2 hg4 M=>fop M 8 0 X X X AM X (·.drop 1) λw3 M=>fdn (W ?_))))))))
 refine CY CA zr ?_;have M:=M.drew;refine W ?_;refine fvs 10 [4,2,1] [(25,.bool ((O ((((AG m.els y.frm).getD zeroEl).kind.toNat:Int)=5))&&(O (1<((BV m.fls y.frm).length:Int)))))] ?_ (λk15=>?_)
 ·refine sb X (fvs 6 [2,1] [(32,.bool (((O ((((AG m.els y.frm).getD zeroEl).kind.toNat:Int)=5))&&(O (1<((BV m.fls y.frm).length:Int))))&&(!decide (((AG m.els y.frm).getD zeroEl).dflt=y.id))))] ?_ (λk26=>?_))
  ·refine W ?_;refine AC X (λh32=>?_) (λh32=>?_)
   ·have h32p:=bd h32;refine sx_seq (DZ 11 CA zr ?_);have M:=M.drew;refine W ?_;refine C3 (d:=36) X (λh36=>?_) (λh36=>?_)
    ·have h36p:=(odf (CJ h36));refine T2 ?_;refine gsg X (B3 X X (sc X) (Blk.c (hp.fr0 M.fr) 0 X)) (T3 ?_);refine gsg X (B3 X X (sc X) (Blk.c ((hx.fr0 M.fr).blk) 2 X)) (DA (sxl_call (G 44) kw X X (AE X X call139) (o0 m.vars (by have:=ho.nvars;omega) y.cond (by have:=oy.cond;omega) _ _ _ (hY.fr0 M.fr) (hx.fr0 M.fr).md.vars) ?_));rintro _ w4 ⟨rfl,hfw4⟩;refine cq ?_;have M:=M.step hfw4;refine W ?_;exact gr1 X ⟨by rw [N8,Ac h32,Ac h36],M.fr⟩
    refine W ?_;exact gr1 X ⟨by rw [N8,Ac h32,AN h36],M.fr⟩
   have h32p:=bd h32;refine W ?_;exact gr1 X ⟨by rw [N8,AN h32],M.fr⟩
  refine C3 (d:=26) X (λh26=>?_) (λh26=>?_)
  ·refine T6 ?_;exact k26 _ ⟨X,X,(by rw [h26];rfl),zw⟩
  refine T6 ?_;exact k26 _ ⟨X,X,(by rw [h26];rfl),zw⟩
 refine C3 (d:=15) X (λh15=>?_) (λh15=>?_)
 ·refine gsg X (B3 X X (sc X) (Blk.c (hp.fr0 M.fr) 0 X)) (T2 ?_);refine gsg X (B3 X X (sc X) (Blk.c ((hx.fr0 M.fr).blk) 7 X)) (W ?_);refine gsg X (CH X X X Eb Ad EH ((hx.fr0 M.fr).O) (hx.getO _)) (T3 ?_);exact k15 _ ⟨X,X,X,(by rw [h15];rfl),zw⟩
 refine T10 ?_;exact k15 _ ⟨X,X,X,(by rw [h15];rfl),zw⟩
def YN (m:Md):Option Kz:=match ffE (KK m) m.els with
 | some k=>G k
 | none=>ffF (N8 m) m.fls
theorem yQ {m:Md} (h:(ffN (λ_=>(KK m)) 0 m.els).isSome=zz):Value.tuple #[str ((ffN (λ_=>(KK m)) 0 m.els).elim [] (λx=>x.id)),.bool zz]=MT (YN m):=by
 unfold YN ffE MT
 cases hq:ffN (λ_=>(KK m)) 0 m.els with
 | none=>rw [hq] at h;cases h
 | some x=>rfl
theorem yP {m:Md} (h:(ffN (λ_=>(KK m)) 0 m.els).isSome=zy):Value.tuple #[str ((ffN (λ_=>(N8 m)) 0 m.fls).elim [] (λx=>x.id)),.bool (ffN (λ_=>(N8 m)) 0 m.fls).isSome]=MT (YN m):=by
 rw [wD];unfold YN ffE
 cases hq:ffN (λ_=>(KK m)) 0 m.els with
 | none=>rfl
 | some x=>rw [hq] at h;cases h
theorem yR (m:Md) (a:MdA) (ix:IxA) (gx:Nat) (w:Kw) (ho:MdOk m) (hx:IxAt w m a ix gx) (hY:Lay0 w) :
 zt zv 74 #[pg gx] w (BR w (MT (YN m))):=by
 refine BO func74 ntmps74 X λM=>W ?_
 refine CZ M kw X X 144 X X ([pg gx]) X λg1 w1 hg1 M=>T11 ?_
 refine yl X X (Blk.c ((hx.fr0 M.fr).blk) 3 X) (ya X (D8 (us:=[]) (vs:=[pg g1]) X X X) (CQ M 13 X X call121 (LB _ _ m.els (by have:=ho.nfls;have:=ho.nels;have:=ho.nvars;omega) 136 [pg g1] (KK m) _ (J7 call136 (λz hz w9 hf9=>yT m a ix gx _ z w9 (ho.els z hz) ho ((hx.fr0 M.fr).fr0 hf9) ((M.blk 0 X).fr0 hf9))) (M.rd hx.md.els)) λw2 M=>W ?_));refine AC X (λh16=>?_) (λh16=>?_)
 ·refine W ?_;exact B1 X X X ⟨Bf Ending.returned (yQ h16),M.fr⟩
 refine T8 ?_;refine yl X X (Blk.c ((hx.fr0 M.fr).blk) 4 X) (ya X (D8 (us:=[]) (vs:=[pg g1]) X X X) (CQ M 24 X X call124 (ZZ _ _ m.fls (by have:=ho.nfls;have:=ho.nels;have:=ho.nvars;omega) 138 [pg g1] (N8 m) _ (J7 call138 (λz hz w9 hf9=>yS m a ix gx _ z w9 (ho.fls z hz) ho ((hx.fr0 M.fr).fr0 hf9) ((M.blk 0 X).fr0 hf9) ((hY.fr0 M.fr).fr0 hf9))) (M.rd hx.md.fls)) λw3 M=>W ?_));exact B1 X X X ⟨Bf Ending.returned (yP h16),M.fr⟩
section
section
variable {P:Lw} {e:Env} {w:Kw} {o:Oper}
theorem dE {t el n sz:Nat} (m:Nat) {x i:Lz} {cs:Array Kv} {u:Kv} (ho:o.op=.index t x i) (hx:ev e x=G (.agg cs)) (hi:ev e i=G (AA (m:Int))) (ht:PX P t=G (n,el,sz)) (hA:∀w,(isAgg el).run P w=.ok zy w) (hm:m<n) (hu:cs[m*sz]?=G u):Y P e o w u:=λρ h=>by
 unfold PX at ht
 split at ht
 ·rename_i el' n' hu'
  split at ht
  ·rename_i i' hi'
   simp only [Ai,Az] at ht
   obtain ⟨rfl,rfl,rfl⟩:=ht;have h1:0≤(m:Int):=A0
   unfold execOp
   simp [ho,h _ _ hx,h _ _ hi,Instr.index,asIntOf,run_underlying hu',h1,hm,sizeOf,typeInfo,hi',part,hA,hu]
  cases ht
 cases ht
end
theorem kC (A:Ky) (c:Nat) (l:List Kz) (hl:l.length≤4611686018427387904) (f:FuncId) (cs:Kx) (p:Kz→Bool) (w:Kw) (hP:PredJ zv f cs str l (λ_=>p) AR (λ_ _=>True) w) (hR:Rd w A (l.length*1) (AF BH l)) :
 zt zv 133 #[.slice A l.length c,.func (.func 134) #[] #[],.func (.func f) #[] cs.toArray] w (BR w (.tuple #[str ((ffN (λ_=>p) 0 l).elim [] (λx=>x)),.bool (ffN (λ_=>p) 0 l).isSome])):=
 (pP A c l hl f cs (λ_=>p) AR (λ_ _=>True) w hP (λ_ hf=>hR.fr0 hf) zw).mono λ_ _ ⟨h1,_,h2⟩=>⟨h1,h2⟩
def cntK (t:Nat) (l:List El) (k:Kz):Nat:=(l.filter λx=>O (x.inn=k)&&O (x.kind.toNat=t)).length
def hG (l:List El) (k:Kz):Kv:=.agg #[.int .i64 ((cntK 1 l k:Nat):Int),.int .i64 ((cntK 2 l k:Nat):Int)]
theorem wS (t:Nat) (l:List El) (k:Kz):cntK t l k≤l.length:=Dy _ _
theorem aG (t:Nat) (l:List El) (i:Nat) (k:Kz):cntK t (l.take i) k≤l.length:=Bh (wS _ _ _) (by rw [Bs];omega)
theorem JB (t:Nat) (l:List El) (x:El) (k:Kz):cntK t (l++[x]) k=cntK t l k+(if x.inn=k∧x.kind.toNat=t then 1 else 0):=by
 unfold cntK;rw [Cm,Am]
 congr 1
 by_cases h1:x.inn=k<;>by_cases h2:x.kind.toNat=t<;>simp [h1,h2]
section
variable {L:List (Kz × Kv)} {l l':List El} {x:El} (hL:∀k,(CG L k).getD (.agg #[.int .i64 0,.int .i64 0])=hG l k) (hl:l'=l++[x])
include hL hl
theorem cQ {a b:Nat} (ha:a=cntK 1 l' x.inn) (hb:b=cntK 2 l' x.inn):∀k,(CG (DG L x.inn (.agg #[AA (a:Int),AA (b:Int)])) k).getD (.agg #[AA 0,AA 0])=hG l' k:=λk=>by
 rw [G6]
 by_cases h:k=x.inn
 ·subst h;subst ha;subst hb;rw [Ac rfl];rfl
 rw [Ae h,hL];unfold hG;rw [hl,JB,JB,Ae (λz=>h z.1.symm),Ae (λz=>h z.1.symm)];rfl
theorem U3 (h:(x.kind.toNat:Int)=1):∀k,(CG (DG L x.inn (.agg #[AA ((cntK 1 l x.inn+1:Nat):Int),AA ((cntK 2 l x.inn:Nat):Int)])) k).getD (.agg #[AA 0,AA 0])=hG l' k:=
 cQ hL hl (by rw [hl,JB,Ac ⟨rfl,A0⟩]) (by rw [hl,JB,Ae (λz=>A0)];rfl)
theorem cP (_h1:¬(x.kind.toNat:Int)=1) (h:(x.kind.toNat:Int)=2):∀k,(CG (DG L x.inn (.agg #[AA ((cntK 1 l x.inn:Nat):Int),AA ((cntK 2 l x.inn+1:Nat):Int)])) k).getD (.agg #[AA 0,AA 0])=hG l' k:=
 cQ hL hl (by rw [hl,JB,Ae (λz=>A0)];rfl) (by rw [hl,JB,Ac ⟨rfl,A0⟩])
theorem XX (h1:¬(x.kind.toNat:Int)=1) (h:¬(x.kind.toNat:Int)=2):∀k,(CG (DG L x.inn (.agg #[AA ((cntK 1 l x.inn:Nat):Int),AA ((cntK 2 l x.inn:Nat):Int)])) k).getD (.agg #[AA 0,AA 0])=hG l' k:=
 cQ hL hl (by rw [hl,JB,Ae (λz=>A0)];rfl) (by rw [hl,JB,Ae (λz=>A0)];rfl)
end
def GS (l:List El):List Kz:=(l.filter λx=>O (x.kind.toNat=10)).map (·.id)
theorem UL {l:List El} {x:El} (h:(x.kind.toNat:Int)=10):GS (l++[x])=GS l++[x.id]:=by
 unfold GS;rw [Cm,Bu]
 simp [show x.kind.toNat=10 by omega]
theorem WK {l:List El} {x:El} (h:¬(x.kind.toNat:Int)=10):GS (l++[x])=GS l:=by
 unfold GS;rw [Cm]
 simp [show ¬x.kind.toNat=10 by omega]
def OI (m:Md) (k:Kz):Bool:=(O (((cntK 1 m.els k:Nat):Int)=(1:Int)))&&(O ((1:Int)≤((cntK 2 m.els k:Nat):Int)))
def ffS (p:Kz→Bool) (l:List Kz):Option Kz:=ffN (λ_=>p) 0 l
theorem a2H (p:Kz→Bool) (l:List Kz):Value.tuple #[str ((ffN (λ_=>p) 0 l).elim [] (λx=>x)),.bool (ffN (λ_=>p) 0 l).isSome]=MT (ffS p l):=by unfold MT ffS;cases ffN (λ_=>p) 0 l<;>rfl
def ZX (m:Md):Option Kz:=ffS (OI m) ([]::GS m.els)
theorem RL : (zv.info? 198).map (·.size)=G 2:=zr
theorem Q1 : (zv.info? 197).map (·.size)=G 1:=zr
theorem RD : (zv.info? 198).map (·.zero)=G (G (.agg #[AA 0,AA 0])):=zr
theorem PZ : (zv.info? 197).map (·.zero)=G (G (.map zx)):=zr
theorem vV (m:Md) (L:List (Kz × Kv)) (hL:∀k,(CG L k).getD (.agg #[AA 0,AA 0])=hG m.els k) (g4 g11:Nat) (k:Kz) (w:Kw) (hp:Blk w g4 197 [.map (G g11)]) (hm:Mp w g11 L) :
 zt zv 135 #[str k,pg g4] w (BR w (.bool (OI m k))):=by
 refine BO func135 ntmps135 X λM=>T7 ?_
 refine yl X X (Blk.c (hp.fr0 M.fr) 0 X) (yb X (ya X (CH X X X Gb Ad RD (hm.fr M.fr (λhh=>hh)) (hL _)) (ya X (dE (m:=0) X X X (ar X) isAgg3 AV X) (W ?_))));refine fvm M 6 [3] [(15,.bool ((O (((cntK 1 m.els k:Nat):Int)=1))&&(O (1≤((cntK 2 m.els k:Nat):Int)))))] ?_ (λk9=>?_)
 ·intro w1 M;refine W ?_;exact gr1 X ⟨X,M.fr⟩
 refine A1 (d:=9) X (λh9=>?_) (λh9=>?_)
 ·refine ym X X (Blk.c (hp.fr0 M.fr) 0 X) (gyq X (yd X (CH X X X Gb Ad RD (hm.fr M.fr (λhh=>hh)) (hL _)) (yd X (dE (m:=1) X X X (ar X) isAgg3 AV X) (T2 ?_))));exact k9 M
 refine T6 ?_;exact k9 M
theorem vU (m:Md) (a:MdA) (ix:IxA) (gx:Nat) (w:Kw) (ho:MdOk m) (hx:IxAt w m a ix gx) :
 zt zv 73 #[pg gx] w (BR w (MT (ZX m))):=by
 have hne:=ho.nels;refine BO func73 ntmps73 X λM=>W ?_
 refine K9 M kw X X X λg11 w1 hg11 M=>G9 M kw X X 197 X [.map zx] PZ X λg4 w2 hg4 M=>gp1 M 0 X X X Q1 λw3 M=>T9 ?_
 refine yl X X (Blk.c ((hx.fr0 M.fr).blk) 3 X) (W ?_);refine flp [17,16,4,0] (λze e wr mz=>∃(i:Nat) (L:List (Kz × Kv)),e=(18,AA (i:Int))::ze∧Mem w AR [As.blk g4 197 [.map (G g11)],As.mp g11 L] wr∧(i≤m.els.length)∧(∀k,(CG L k).getD (.agg #[AA 0,AA 0])=hG (m.els.take i) k)∧mz=m.els.length-i) ⟨0,[],X,M,Aj _,λ_=>X,X⟩ ?_;rintro _ w4 _ ⟨i,L,rfl,M,hi,hL,rfl⟩;refine W ?_;refine AC X (λh19=>?_) (λh19=>?_)
 ·have h19p:=odt h19;refine W ?_;obtain ⟨u,_,_,hu,hA_u⟩:=ex5 (i:=i) (M.rd hx.md.els);refine ya X (AK i hA_u X X X (sl X) A0) (ya X (AJ X X (BF El.len (M.rd hx.md.els) hA_u hu) Bk X AM) (CE M X AP λg6 w5 hg6 M=>BX M 0 X X AM X λw6 M=>W ?_));refine ya X (CH X X X Gb Ad RD (M.mp 2 X) (hL _)) (CE M X RD λg7 w7 hg7 M=>BX M 0 X X RL X λw8 M=>W ?_);refine AC X (λh28=>?_) (λh28=>?_)
  ·have h28p:=odt h28;have hc1:=aG 1 m.els i u.inn;refine sx_region (ya X (G8 X X X (ar X) A0) (W ?_));refine ya X (G8 X X X (ar X) A0) (gp1 M 0 X X X GF λw9 M=>W ?_);refine CF M 0 X X Iu RL X (GR M 3 kw X X X X X Gb Ad X λw10 M=>W ?_);refine fag ⟨i+1,DG L u.inn (.agg #[AA (((cntK 1 (m.els.take i) u.inn)+1:Nat):Int),AA ((cntK 2 (m.els.take i) u.inn:Nat):Int)]),X,(M.pk [2,3]),?_,?_,X⟩
   ·omega
   first
    | exact U3 hL (AT hu) h28p
    | exact cP hL (AT hu) h28p h34p
    | exact XX hL (AT hu) h28p h34p
  have h28p:=odf h28;refine W ?_;refine AC X (λh34=>?_) (λh34=>?_)
  ·have h34p:=odt h34;have hc2:=aG 2 m.els i u.inn;refine sx_region (ya X (G8 X X X (ar X) A0) (W ?_));refine ya X (G8 X X X (ar X) A0) (gp1 M 0 X X X GF λw11 M=>W ?_);refine CF M 0 X X Iu RL X (GR M 3 kw X X X X X Gb Ad X λw12 M=>W ?_);refine fag ⟨i+1,DG L u.inn (.agg #[AA ((cntK 1 (m.els.take i) u.inn:Nat):Int),AA (((cntK 2 (m.els.take i) u.inn)+1:Nat):Int)]),X,(M.pk [2,3]),?_,?_,X⟩
   ·omega
   first
    | exact U3 hL (AT hu) h28p
    | exact cP hL (AT hu) h28p h34p
    | exact XX hL (AT hu) h28p h34p
  have h34p:=odf h34;refine W ?_;refine CF M 0 X X Iu RL X (GR M 3 kw X X X X X Gb Ad X λw13 M=>W ?_);refine fag ⟨i+1,DG L u.inn (.agg #[AA ((cntK 1 (m.els.take i) u.inn:Nat):Int),AA ((cntK 2 (m.els.take i) u.inn:Nat):Int)]),X,(M.pk [2,3]),?_,?_,X⟩
  ·omega
  first
   | exact U3 hL (AT hu) h28p
   | exact cP hL (AT hu) h28p h34p
   | exact XX hL (AT hu) h28p h34p
 have h19p:=odf h19;refine W ?_;have hiE:i=m.els.length:=A0
 rw [hiE,Bc] at hL
 refine W ?_;refine CP M kw X X [str []] ([str []]) X X X X Be CK X X (FZ X) X λg45 w14 hg45 M=>T10 ?_
 refine yl X X (Blk.c ((hx.fr0 M.fr).blk) 3 X) (W ?_);have M:=M.blkOwn 0 (size:=1) (n:=1) X X (by unfold maxLen;omega);refine flp [51,50,4] (λze e wr mz=>∃(j:Nat) (acc:List Kz) (A:Ky) (c:Nat),e=(8,.slice A acc.length c)::(52,AA (j:Int))::ze∧Mem w AR [As.own w.heap.size 9 1 (.slice A acc.length c) acc.length (AF BH acc),As.blk g4 197 [.map (G g11)],As.mp g11 L] wr∧(j≤m.els.length)∧(acc=[]::GS (m.els.take j))∧(acc.length≤j+1)∧mz=m.els.length-j) ⟨0,[[]],G ⟨g45,0,zx⟩,1,X,M,Aj _,X,Af _,X⟩ ?_;rintro _ w15 _ ⟨j,acc,A,c,rfl,M,hj,hacc,hal,rfl⟩;refine W ?_;refine AC X (λh53=>?_) (λh53=>?_)
 ·have h53p:=odt h53;refine W ?_;obtain ⟨v,_,_,hv,hA_v⟩:=ex5 (i:=j) (M.rd hx.md.els);refine ya X (AK j hA_v X X X (sl X) A0) (ya X (AJ X X (BF El.len (M.rd hx.md.els) hA_v hv) Bk X AM) (CE M X AP λg10 w16 hg10 M=>BX M 0 X X AM X λw17 M=>W ?_));refine AC X (λh58=>?_) (λh58=>?_)
  ·have h58p:=odt h58;refine W ?_;refine CP M kw X X [str v.id] ([str v.id]) X X X X Be CK X X (FZ X) X λg62 w18 hg62 M=>CD (len':=(acc++[v.id]).length) (xs':=AF BH (acc++[v.id])) M 2 kw X X X X X X (M.rdBlk 0 X X) Be C2 X AV (BN X) (Af _) (Af _) D4 (by unfold maxLen;first|omega|(simp only [Am,Al,Ay];omega)) (by simp) (by simp [AF,BH]) λA63 c63 w19 M=>W ?_
   refine fag ⟨j+1,acc++[v.id],A63,c63,X,(M.pk [2,3,4]),?_,?_,?_,X⟩
   ·omega
   ·first
     | (rw [hacc,AT hv,UL h58p];rfl)
     | (rw [hacc,AT hv,WK h58p])
   first|omega|(simp only [Am,Al,Ay];omega)
  have h58p:=odf h58;refine W ?_;refine fag ⟨j+1,acc,A,c,X,(M.pk [1,2,3]),?_,?_,?_,X⟩
  ·omega
  ·first
    | (rw [hacc,AT hv,UL h58p];rfl)
    | (rw [hacc,AT hv,WK h58p])
  first|omega|(simp only [Am,Al,Ay];omega)
 have h53p:=odf h53;refine W ?_;have hjE:j=m.els.length:=A0
 rw [hjE,Bc] at hacc
 refine W ?_;refine ya X (D8 (us:=[]) (vs:=[pg g4]) X X X) (CQ M 67 X X call133 (kC _ _ acc (by have:=ho.nels;omega) 135 [pg g4] (OI m) _ (J7 call135 (λz _ w9 hf9=>vV m L hL g4 g11 z w9 ((M.blk 1 X).fr0 hf9) ((M.mp 2 X).fr hf9 (λhh=>hh)))) (M.rdOwn 0 X)) λw20 M=>W ?_);exact B1 X X X ⟨by rw [ZX,←hacc];exact Bf Ending.returned (a2H _ _),M.fr⟩
end
end
end Go.Proofs.YtppmdnmjepkfaaaGreatDoor
