/- Lemmas. -/
import Derived.Test.YtppmdnmjepkfaaaGreatDoorYRu2
import Derived.Test.YtppmdnmjepkfaaaGreatDoorYEx9
set_option maxHeartbeats 16000000
set_option maxRecDepth 100000
namespace Go.Proofs.YtppmdnmjepkfaaaGreatDoor
open Go.RowKit
open Tryz
section
def HE (els:List El):Nat→El→List Kz
 | 0,_=>[]
 | f+1,y=>if y.inn=[] then [] else match AF els y.inn with
  | none=>[]
  | some x=>if x.kind.toNat=10 then x.id::HE els f x else []
def AY (els:List El) (id:Kz):List Kz:=HE els 64 ((AF els id).getD zeroEl)
theorem cE (els:List El) {y:El} {n:Nat} (h1:¬y.inn=[]) (hn:n<64) (h2:(AF els y.inn).isSome=true) (h3:(((AF els y.inn).getD zeroEl).kind.toNat:Int)=10):HE els (64-n) y=((AF els y.inn).getD zeroEl).id::HE els (64-(n+1)) ((AF els y.inn).getD zeroEl):=by
 rw [show 64-n=(64-(n+1))+1 by omega,HE,if_neg h1]
 cases hx:AF els y.inn with
 | none=>rw [hx] at h2;cases h2
 | some x=>
  rw [hx] at h3
  have h3':x.kind.toNat=10:=by simp only [Ct] at h3;omega
  simp only [if_pos h3',Ct]
theorem cD (els:List El) {y:El} {n:Nat} (h:(AF els y.inn).isSome=false∨¬(((AF els y.inn).getD zeroEl).kind.toNat:Int)=10):HE els n y=[]:=by
 cases n with
 | zero=>rfl
 | succ n=>
  rw [HE]
  split
  ·rfl
  cases hx:AF els y.inn with
  | none=>rfl
  | some x=>
   rw [hx] at h
   simp only [Option.isSome_some,Er,Ct,false_or] at h
   simp only
   rw [if_neg A0]
theorem gM (els:List El) {y:El} {n:Nat} (h:y.inn=[]∨¬(n:Int)<64):HE els (64-n) y=[]:=by
 rcases h with h|h
 ·cases 64-n with
  | zero=>rfl
  | succ k=>rw [HE,if_pos h]
 rw [show 64-n=0 by omega];rfl
theorem UH (els:List El):∀(n:Nat) (y:El),(HE els n y).length≤n
 | 0,_=>Ab _
 | n+1,y=>by
  rw [HE]
  split
  ·exact Ae _
  split
  ·exact Ae _
  split
  ·have:=UH els n;simp only [Af];exact Nat.succ_le_succ (this _)
  exact Ae _
theorem OW (els:List El) (id:Kz):(AY els id).length≤64:=UH els 64 _
theorem ZX (m:Md) (a:MdA) (ix:IxA) (gx:Nat) (id:Kz) (w:Kw) (_ho:MdOk m) (hx:IxAt w m a ix gx) :
 Calls prog 144 #[pg gx,str id] w λe w'=>∃A c,e=.returned (.slice A (AY m.els id).length c)∧w'.ownsRow w.heap.size 9 1 (.slice A (AY m.els id).length c) (AY m.els id).length (AE BG (AY m.els id))∧Fr0 w w':=by
 refine BR func144 ntmps144 X λM=>T16 ?_
 refine yl X X (Blk.c ((hx.fr0 M.fr).blk) 5 X) (yb X (ya X (CD X X X Cx Aa AP ((hx.fr0 M.fr).E) (hx.getE _)) (CI M X AP λg6 w1 hg6 M=>BY M 0 X X AJ X λw2 M=>W ?_)));have M:=M.nilOwn 9 1;refine flp [0] (λze e wr mz=>∃(y:El) (acc:List Kz) (A:Ky) (c:Nat) (gv:Nat),e=(5,.slice A acc.length c)::(6,pg gv)::ze∧Mem w AR [As.own w.heap.size 9 1 (.slice A acc.length c) acc.length (AE BG acc),As.blk gv 106 (El.cells y)] wr∧(acc.length≤64)∧(AY m.els id=acc++HE m.els (64-acc.length) y)∧mz=64-acc.length) ⟨(AF m.els id).getD zeroEl,[],none,0,g6,X,M,Ae _,X,X⟩ ?_;rintro _ w3 _ ⟨y,acc,A,c,gv,rfl,M,hl,hr,rfl⟩;refine W ?_;refine fvm M 4 [6,5,0] [(22,.bool ((!decide (y.inn=[]))&&(decide ((acc.length:Int)<64))))] ?_ (λk18=>?_)
 ·intro w4 M;refine W ?_;refine AB X (λh22=>?_) (λh22=>?_)
  ·have h22p:=bd h22;refine W ?_;refine J2 M 13 CA λM=>oc 0 13 X X M (oc 1 13 X X M (oc 2 13 X X M (ol 3 13 X X X M (λ_ M=>(Blk.c ((hx.fr0 M.fr).blk) 5 X)) (oc 4 13 X X M (ol 5 13 X X X M (λ_ M=>(M.cell 1 X X)) (oa 6 13 X X M (λ_ M=>EM X X X Cx Aa AP ((hx.fr0 M.fr).E) (hx.getE _) (hx.isE _)) (oc 7 13 X X M (oc 8 13 X X M (oc 9 13 X X M (fon M 10 7 X X AP λg7 w5 hg7 M=>fop M 11 0 X X X AJ X (·.drop 1) λw6 M=>oc 12 13 X X (M.drop 1) (fdn (W ?_))))))))))))
   refine fvm M 4 [7,6,5,0] [(39,.bool ((!(AF m.els y.inn).isSome) || (!decide ((((AF m.els y.inn).getD zeroEl).kind.toNat:Int)=10))))] ?_ (λk35=>?_)
   ·intro w7 M;refine W ?_;refine AB X (λh39=>?_) (λh39=>?_)
    ·have h39p:=bd h39;refine W ?_;refine IB X (W ?_);refine gr1 X ?_;rw [cD m.els h39p,Bv] at hr
     subst hr;exact ⟨_,_,X,M.own 1 X,M.fr⟩
    have h39p:=bd h39;refine W ?_;refine CV M kw X X [str (((AF m.els y.inn).getD zeroEl).id)] ([str (((AF m.els y.inn).getD zeroEl).id)]) X X X X Az CG X X (GT X) X λg43 w8 hg43 M=>CN (len':=(acc++[((AF m.els y.inn).getD zeroEl).id]).length) (xs':=AE BG (acc++[((AF m.els y.inn).getD zeroEl).id])) M 2 kw X X X X X X (M.rdBlk 0 X X) Az C0 X AV (BW X) (Ab _) (Ab _) DC (by unfold maxLen;first|omega|(simp only [Ah,Af,Aq];omega)) (by simp) (by simp [AE,BG]) λA44 c44 w9 M=>W ?_
    refine CH M 1 X X Bf AJ X (BY M 3 X X AJ X λw10 M=>W ?_);refine CH M 3 X X Bf AJ X (W ?_);refine CI M X AP λg6 w11 hg6 M=>BY M 0 X X AJ X λw12 M=>sxl_nil ?_
    have hlen:=h22p.2;refine fag ⟨((AF m.els y.inn).getD zeroEl),acc++[((AF m.els y.inn).getD zeroEl).id],A44,c44,g6,X,(M.pk [3,0]),?_,?_,X⟩
    ·simp only [Ah,Af,Aq];omega
    rw [hr,cE m.els h22p.1 A0 h39p.1 h39p.2];simp
   refine A1 (d:=35) X (λh35=>?_) (λh35=>?_)
   ·refine T4 ?_;exact k35 M
   refine T4 ?_;exact k35 M
  have h22p:=bd h22;refine W ?_;refine gr1 X ?_;rw [gM m.els h22p,Bv] at hr
  subst hr;exact ⟨_,_,X,M.own 0 X,M.fr⟩
 refine A1 (d:=18) X (λh18=>?_) (λh18=>?_)
 ·refine T4 ?_;exact k18 M
 refine T4 ?_;exact k18 M
def M0 (m:Md) (b y:El):Bool:=(if (decide ((y.kind.toNat:Int)=(6:Int)))=true then ((AY m.els y.id).any (λz=>decide (b.id=z))) else false)
theorem i7 (m:Md) (a:MdA) (ix:IxA) (gx gp:Nat) (b:El) (gb:Nat) (y:El) (w:Kw) (ho:MdOk m) (hx:IxAt w m a ix gx) (hp:Blk w gp 144 [pg gx]) (hb:Blk w gb 106 b.cells) :
 Calls prog 142 #[.agg y.cells.toArray,pg gp,pg gb] w (BS w (.bool (M0 m b y))):=by
 refine BR func142 ntmps142 X λM=>W ?_
 refine CO M X X λg3 w1 hg3 M=>W ?_
 refine J2 M 13 CA λM=>oc 0 13 X X M (ol 1 13 X X X M (λ_ M=>(M.cell 0 X X)) (oa 2 13 X X M (λ_ M=>ES X X X) (oc 3 13 X X M (C8 (d:=8) X (λh8=>?_) (λh8=>?_)))))
 ·have h8p:=odt h8;refine ob 4 13 X kw X X M (λ_ M=>B2 X X (sc X) (Blk.c (hp.fr0 M.fr) 0 X)) (ob 5 13 X kw X X M (λ_ M=>yp X) (ob 6 13 X kw X X M (λ_ M=>B2 X X (sc X) (M.cell 0 X X)) (ob 8 13 X kw X X M (λ_ M=>yp X) (ob 9 13 X kw X X M (λ_ M=>B2 X X (sc X) (Blk.c (hb.fr0 M.fr) 0 X)) (BC 7 (some 12) gkr X kw X X (AD X X call144) (ZX m a ix gx _ _ ho (hx.fr0 M.fr)) ?_)))));rintro _ w2 ⟨A12,c12,rfl,how2,hfw2⟩;refine ⟨_,X,λ_=>M.step hfw2,?_⟩;have M:=M.pushOwn hfw2 (Ab _) how2;have hL12:=M.ownLen 0 X;refine BC 10 (some 15) gkr X kw X X (AD X X call143) (fT _ _ (AY m.els y.id) _ _ (by have hL:=M.ownLen 0 rfl;have:=OW m.els y.id;omega) (M.rdOwn 0 X)) ?_;rintro _ w3 ⟨rfl,hfw3⟩;refine ⟨_,X,λ_=>(M.drop 1).step hfw3,?_⟩;have M:=M.step hfw3;refine oc 11 13 X X (M.drop 1) (oc 12 13 X X (M.drop 1) (fdn (W ?_)));exact gr1 X ⟨by rw [M0,if_pos h8],M.fr⟩
 refine AO 4 13 X M (AO 5 13 X M (AO 6 13 X M (AO 7 13 X M (AO 8 13 X M (AO 9 13 X M (AO 10 13 X M (oc 11 13 X X M (oc 12 13 X X M (fdn (W ?_))))))))));exact gr1 X ⟨by rw [M0,AM h8],M.fr⟩
def L8 (m:Md) (y:El):Bool:=(if (!decide ((y.kind.toNat:Int)=(9:Int)))=true then true else (if ((!(AF m.els y.att).isSome) || (!decide (((AF m.els y.att).getD zeroEl).inn=y.inn)))=true then false else (if ((decide ((((AF m.els y.att).getD zeroEl).kind.toNat:Int)=(3:Int))) || (decide ((((AF m.els y.att).getD zeroEl).kind.toNat:Int)=(4:Int))))=true then true else (if ((!decide ((((AF m.els y.att).getD zeroEl).kind.toNat:Int)=(10:Int))) || (decide ((y.ev.toNat:Int)=(1:Int))))=true then false else (!(m.els.any (M0 m ((AF m.els y.att).getD zeroEl))))))))
theorem mV (m:Md) (a:MdA) (ix:IxA) (gx gp:Nat) (y:El) (w:Kw) (oy:ElOk y) (ho:MdOk m) (hx:IxAt w m a ix gx) (hp:Blk w gp 144 [pg gx]) :
 Calls prog 140 #[.agg y.cells.toArray,pg gp] w (BS w (.bool (L8 m y))):=by
 have oy3:=oy.ref;have oy4:=oy.key;have oy5:=oy.id;have oy6:=oy.nm;have oy7:=oy.inn;have oy8:=oy.att;refine BR func140 ntmps140 X λM=>W ?_
 refine CO M X X λg2 w1 hg2 M=>W ?_
 refine J2 M 13 CA λM=>ol 0 13 X X X M (λ_ M=>(Blk.c (hp.fr0 M.fr) 0 X)) (oc 1 13 X X M (oc 2 13 X X M (ol 3 13 X X X M (λ_ M=>(Blk.c ((hx.fr0 M.fr).blk) 5 X)) (oc 4 13 X X M (ol 5 13 X X X M (λ_ M=>(M.cell 0 X X)) (oa 6 13 X X M (λ_ M=>EM X X X Cx Aa AP ((hx.fr0 M.fr).E) (hx.getE _) (hx.isE _)) (oc 7 13 X X M (oc 8 13 X X M (oc 9 13 X X M (fon M 10 4 X X AP λg4 w2 hg4 M=>fop M 11 0 X X X AJ X (·.drop 1) λw3 M=>oc 12 13 X X (M.drop 1) (fdn (W ?_))))))))))))
 refine AB X (λh16=>?_) (λh16=>?_)
 ·refine W ?_;exact gr1 X ⟨by rw [L8,if_pos h16],M.fr⟩
 have h16p:=(odt (BO h16));refine W ?_;refine fvm M 6 [4,2,1] [(29,.bool ((!(AF m.els y.att).isSome) || (!decide (((AF m.els y.att).getD zeroEl).inn=y.inn))))] ?_ (λk23=>?_)
 ·intro w4 M;refine W ?_;refine AB X (λh20=>?_) (λh20=>?_)
  ·have h20p:=bd h20;refine W ?_;exact gr1 X ⟨by rw [L8,AM h16,if_pos h20],M.fr⟩
  have h20p:=bd h20;refine W ?_;refine fvm M 4 [4,2,1] [(38,.bool ((decide ((((AF m.els y.att).getD zeroEl).kind.toNat:Int)=3)) || (decide ((((AF m.els y.att).getD zeroEl).kind.toNat:Int)=4))))] ?_ (λk34=>?_)
  ·intro w5 M;refine W ?_;refine AB X (λh30=>?_) (λh30=>?_)
   ·have h30p:=bd h30;refine W ?_;exact gr1 X ⟨by rw [L8,AM h16,AM h20,if_pos h30],M.fr⟩
   have h30p:=bd h30;refine W ?_;refine fvm M 4 [4,1] [(47,.bool ((!decide ((((AF m.els y.att).getD zeroEl).kind.toNat:Int)=10)) || (decide ((y.ev.toNat:Int)=1))))] ?_ (λk43=>?_)
   ·intro w6 M;refine W ?_;refine AB X (λh39=>?_) (λh39=>?_)
    ·have h39p:=bd h39;refine W ?_;exact gr1 X ⟨by rw [L8,AM h16,AM h20,AM h30,if_pos h39],M.fr⟩
    have h39p:=bd h39;refine T5 ?_;refine yl X X (Blk.c (hp.fr0 M.fr) 0 X) (T3 ?_);refine yl X X (Blk.c ((hx.fr0 M.fr).blk) 3 X) (ya X (CY (us:=[]) (vs:=[pg gp,pg g4]) X X X) (CW M 54 X X call141 (a0d _ _ m.els (by have:=HN m.fls;have:=F3 m.fls;have:=ho.nfls;have:=ho.nels;have:=ho.nvars;first|omega|exact Bb (HN _ _) A0|exact Bb (F3 _ _) A0) 142 [pg gp,pg g4] (M0 m ((AF m.els y.att).getD zeroEl)) _ (IW call142 (λz hz w9 hf9=>i7 m a ix gx gp ((AF m.els y.att).getD zeroEl) _ z w9 ho ((hx.fr0 M.fr).fr0 hf9) ((hp.fr0 M.fr).fr0 hf9) ((M.blk 0 X).fr0 hf9))) (M.rd hx.md.els)) λw7 M=>W ?_));exact gr1 X ⟨by rw [L8,AM h16,AM h20,AM h30,AM h39],M.fr⟩
   refine A1 (d:=43) X (λh43=>?_) (λh43=>?_)
   ·refine T4 ?_;exact k43 M
   refine T4 ?_;exact k43 M
  refine A1 (d:=34) X (λh34=>?_) (λh34=>?_)
  ·refine T4 ?_;exact k34 M
  refine T4 ?_;exact k34 M
 refine A1 (d:=23) X (λh23=>?_) (λh23=>?_)
 ·refine T6 ?_;exact k23 M
 refine T6 ?_;exact k23 M
def MD (r:Option Kz):Kv:=.tuple #[str (r.getD []),.bool r.isSome]
def ffE (p:El→Bool) (l:List El):Option Kz:=(ffN (λ_=>p) 0 l).map (·.id)
def ffF (p:Fl→Bool) (l:List Fl):Option Kz:=(ffN (λ_=>p) 0 l).map (·.id)
theorem XI (p:El→Bool) (l:List El):Value.tuple #[str ((ffN (λ_=>p) 0 l).elim [] (λx=>x.id)),.bool (ffN (λ_=>p) 0 l).isSome]=MD (ffE p l):=by unfold MD ffE;cases ffN (λ_=>p) 0 l<;>rfl
theorem uK (p:Fl→Bool) (l:List Fl):Value.tuple #[str ((ffN (λ_=>p) 0 l).elim [] (λx=>x.id)),.bool (ffN (λ_=>p) 0 l).isSome]=MD (ffF p l):=by unfold MD ffF;cases ffN (λ_=>p) 0 l<;>rfl
theorem wK (m:Md) (a:MdA) (ix:IxA) (gx:Nat) (w:Kw) (ho:MdOk m) (hx:IxAt w m a ix gx) :
 Calls prog 70 #[pg gx] w (BS w (MD (ffE (VS m) m.els))):=by
 refine BR func70 ntmps70 X λM=>W ?_
 refine DG M kw X X 144 X X ([pg gx]) X λg1 w1 hg1 M=>T10 ?_
 refine yl X X (Blk.c ((hx.fr0 M.fr).blk) 3 X) (ya X (CY (us:=[]) (vs:=[pg g1]) X X X) (CW M 10 X X call121 (KZ _ _ m.els (by have:=ho.nfls;have:=ho.nels;have:=ho.nvars;omega) 127 [pg g1] (VS m) _ (IW call127 (λz hz w9 hf9=>wL m a ix gx _ z w9 (ho.els z hz) ho ((hx.fr0 M.fr).fr0 hf9) ((M.blk 0 X).fr0 hf9))) (M.rd hx.md.els)) λw2 M=>W ?_));exact AZ X X X ⟨Ay Ending.returned (XI _ _),M.fr⟩
theorem mL (m:Md) (a:MdA) (ix:IxA) (gx:Nat) (w:Kw) (ho:MdOk m) (hx:IxAt w m a ix gx) :
 Calls prog 71 #[pg gx] w (BS w (MD (ffF (L4 m) m.fls))):=by
 refine BR func71 ntmps71 X λM=>W ?_
 refine DG M kw X X 144 X X ([pg gx]) X λg1 w1 hg1 M=>T10 ?_
 refine yl X X (Blk.c ((hx.fr0 M.fr).blk) 4 X) (ya X (CY (us:=[]) (vs:=[pg g1]) X X X) (CW M 10 X X call124 (ZM _ _ m.fls (by have:=ho.nfls;have:=ho.nels;have:=ho.nvars;omega) 129 [pg g1] (L4 m) _ (IW call129 (λz hz w9 hf9=>mM m a ix gx _ z w9 ho ((hx.fr0 M.fr).fr0 hf9) ((M.blk 0 X).fr0 hf9))) (M.rd hx.md.fls)) λw2 M=>W ?_));exact AZ X X X ⟨Ay Ending.returned (uK _ _),M.fr⟩
theorem u6 (m:Md) (a:MdA) (ix:IxA) (gx:Nat) (w:Kw) (ho:MdOk m) (hx:IxAt w m a ix gx) :
 Calls prog 72 #[pg gx] w (BS w (MD (ffE (IZ m) m.els))):=by
 refine BR func72 ntmps72 X λM=>W ?_
 refine DG M kw X X 144 X X ([pg gx]) X λg1 w1 hg1 M=>T10 ?_
 refine yl X X (Blk.c ((hx.fr0 M.fr).blk) 3 X) (ya X (CY (us:=[]) (vs:=[pg g1]) X X X) (CW M 10 X X call121 (KZ _ _ m.els (by have:=ho.nfls;have:=ho.nels;have:=ho.nvars;omega) 130 [pg g1] (IZ m) _ (IW call130 (λz hz w9 hf9=>oI m a ix gx _ z w9 (ho.els z hz) ho ((hx.fr0 M.fr).fr0 hf9) ((M.blk 0 X).fr0 hf9))) (M.rd hx.md.els)) λw2 M=>W ?_));exact AZ X X X ⟨Ay Ending.returned (XI _ _),M.fr⟩
theorem mU (m:Md) (a:MdA) (ix:IxA) (gx:Nat) (w:Kw) (ho:MdOk m) (hx:IxAt w m a ix gx) :
 Calls prog 75 #[pg gx] w (BS w (MD (ffE (L8 m) m.els))):=by
 refine BR func75 ntmps75 X λM=>W ?_
 refine DG M kw X X 144 X X ([pg gx]) X λg1 w1 hg1 M=>T10 ?_
 refine yl X X (Blk.c ((hx.fr0 M.fr).blk) 3 X) (ya X (CY (us:=[]) (vs:=[pg g1]) X X X) (CW M 10 X X call121 (KZ _ _ m.els (by have:=ho.nfls;have:=ho.nels;have:=ho.nvars;omega) 140 [pg g1] (L8 m) _ (IW call140 (λz hz w9 hf9=>mV m a ix gx _ z w9 (ho.els z hz) ho ((hx.fr0 M.fr).fr0 hf9) ((M.blk 0 X).fr0 hf9))) (M.rd hx.md.els)) λw2 M=>W ?_));exact AZ X X X ⟨Ay Ending.returned (XI _ _),M.fr⟩
theorem oQ (m:Md) (a:MdA) (ix:IxA) (gx:Nat) (w:Kw) (ho:MdOk m) (hx:IxAt w m a ix gx) :
 Calls prog 76 #[pg gx] w (BS w (MD (ffE (MI m) m.els))):=by
 refine BR func76 ntmps76 X λM=>W ?_
 refine DG M kw X X 144 X X ([pg gx]) X λg1 w1 hg1 M=>T10 ?_
 refine yl X X (Blk.c ((hx.fr0 M.fr).blk) 3 X) (ya X (CY (us:=[]) (vs:=[pg g1]) X X X) (CW M 10 X X call121 (KZ _ _ m.els (by have:=ho.nfls;have:=ho.nels;have:=ho.nvars;omega) 145 [pg g1] (MI m) _ (IW call145 (λz hz w9 hf9=>oR m a ix gx _ z w9 (ho.els z hz) ho ((hx.fr0 M.fr).fr0 hf9) ((M.blk 0 X).fr0 hf9))) (M.rd hx.md.els)) λw2 M=>W ?_));exact AZ X X X ⟨Ay Ending.returned (XI _ _),M.fr⟩
structure MdB (m:Md):Prop where
 id:(m.id.length:Int)<4611686018427387904
 nm:(m.nm.length:Int)<4611686018427387904
 vars:BdOk m.vars
 nels:m.els.length≤1000
 nfls:m.fls.length≤2199023255488
 nvars:m.vars.length≤4611686018427387904
 els:∀x∈m.els,ElOk x
 fls:∀x∈m.fls,FlOk x
theorem MdOk.b {m:Md} (h:MdOk m):MdB m:=⟨h.id,h.nm,h.vars,by have:=h.nels;omega,by have:=h.nfls;omega,by have:=h.nvars;omega,h.els,h.fls⟩
section
theorem XJ (l:List El) (x:El) (k:Kz):AF (l++[x]) k=match AF l k with
 | some y=>some y
 | none=>if x.id=k then some x else none:=by
 induction l with
 | nil=>rfl
 | cons y r ih=>
  rw [List.cons_append,AF,AF]
  by_cases h:y.id=k
  ·rw [if_pos h,if_pos h]
  rw [if_neg h,if_neg h];exact ih
section
variable {L:List (Kz × Kv)} {l l':List El} {x:El} (hL:∀k,CC L k=(AF l k).map elV)
include hL
theorem elG (k:Kz):(CC L k).getD (.agg zeroEl.cells.toArray)=.agg ((AF l k).getD zeroEl).cells.toArray:=by rw [hL];cases AF l k<;>rfl
theorem elI (k:Kz):(CC L k).isSome=(AF l k).isSome:=by rw [hL];cases AF l k<;>rfl
theorem uN (hl:l'=l++[x]) (h:(!(AF l x.id).isSome)=true):∀k,CC (D9 L x.id (.agg (El.cells x).toArray)) k=(AF l' k).map elV:=λk=>by
 have hn:AF l x.id=none:=by
  cases hq:AF l x.id with
  | none=>rfl
  | some y=>rw [hq] at h;cases h
 rw [G0,hl,XJ]
 by_cases hk:k=x.id
 ·subst hk;rw [if_pos rfl,hn];simp [elV]
 rw [if_neg hk,hL]
 cases AF l k with
 | some y=>rfl
 | none=>rw [if_neg (λe=>hk e.symm)]
theorem a0r (hl:l'=l++[x]) (h:(!(AF l x.id).isSome)=false):∀k,CC L k=(AF l' k).map elV:=λk=>by
 rw [hL,hl,XJ]
 cases hq:AF l k with
 | some y=>rfl
 | none=>
  have hk:¬x.id=k:=λe=>by rw [e,hq] at h;cases h
  rw [if_neg hk]
end
theorem o5 (l:List Fl) (i:Nat) (k:Kz):(E4 (l.take i) k).length≤l.length:=Bb (HN _ _) (by rw [Bl];omega)
theorem iY (l:List Fl) (i:Nat) (k:Kz):(BV (l.take i) k).length≤l.length:=Bb (F3 _ _) (by rw [Bl];omega)
section
variable {l:List Fl} {j:Nat} {f:Fl} {k:Kz} (hf:l[j]?=some f)
include hf
theorem tQ : E4 (l.take (j+1)) f.tg=E4 (l.take j) f.tg++[f]:=by
 rw [AS hf];unfold E4;rw [Cn];simp
theorem zI (hk:k≠f.tg):E4 (l.take (j+1)) k=E4 (l.take j) k:=by
 rw [AS hf];unfold E4;rw [Cn];simp [Ne.symm hk]
theorem nM : BV (l.take (j+1)) f.frm=BV (l.take j) f.frm++[f]:=by
 rw [AS hf];unfold BV;rw [Cn];simp
theorem sL (hk:k≠f.frm):BV (l.take (j+1)) k=BV (l.take j) k:=by
 rw [AS hf];unfold BV;rw [Cn];simp [Ne.symm hk]
end
section
variable {w0 w w1:Kw} {S:Nat→Prop} {L:List As}
theorem Mem.toFam {α:Type} (M:Mem w0 S L w) (i:Nat) {g:Nat} (hi:L[i]?=some (As.mp g [])) (e:Ly) (size:Nat) (cells:α→Kx):Mem w0 S (L.set i (As.fam w0.heap.size e size cells g [] (λ_=>[]) (λ_=>False) [])) w:=
 M.upd i hi Fr.refl _ (Fam.new (M.mp i hi) _ _ _ _) (λ_ hg'=>.inl hg')
theorem Mem.appOwn (M:Mem w0 S L w) (i:Nat) {base el size n n':Nat} {v v':Kv} {xs xs':Kx} (hi:L[i]?=some (As.own base el size v n xs)) (ho:w1.ownsRow base el size v' n' xs') (h2:w.grownBy w1 v.ownBlock) (h3:v'.ownBlock=v.ownBlock∨v'.ownBlock=some w.heap.size):Mem w0 S (L.set i (As.own base el size v' n' xs')) w1:=by
 refine M.upd i hi ?_ _ ho ?_
 ·refine ⟨h2.os,h2.tape,h2.output,h2.size,λg hg hn=>h2.block g hg ?_⟩;intro e;exact hn (by simp [As.own,←e])
 intro g hg;rcases h3 with h|h
 ·left;simpa [As.own,h] using hg
 right
 have hg':g=w.heap.size:=by simpa [As.own,h,eq_comm] using hg
 have:=(QA ho g hg).2
 omega
end
def PJ : Kv→Ky
 | .slice A _ _=>A
 | _=>none
def iF : Kv→Nat
 | .slice _ _ c=>c
 | _=>0
theorem Fam.val {α:Type} {w:Kw} {base size g:Nat} {e:Ly} {cells:α→Kx} {L:List (Kz × Kv)} {rows:Kz→List α} {F:List Nat} (h:Fam w base e size cells g L rows (λ_=>False) F) (k:Kz) :
 (CC L k).getD (.slice none 0 0)=.slice (PJ (G9 L k)) (rows k).length (iF (G9 L k))∧Rd w (PJ (G9 L k)) ((rows k).length*size) (AE cells (rows k)):=by
 obtain ⟨ho,_⟩:=h.row k (λhh=>hh);obtain ⟨A,C,hv,_⟩:=E8 ho;have hv':(CC L k).getD (.slice none 0 0)=.slice A (rows k).length C:=hv;rw [hv',hv];rw [hv] at ho
 exact ⟨X,OH ho⟩
structure IxN (w:Kw) (m:Md) (a:MdA) (x:IxA) (gx:Nat) (F:List Nat):Prop where
 blk:Blk w gx 186 (Ix.cells m a x)
 E:Mp w x.gE x.LE
 I:Mp w x.gI x.LI
 O:Mp w x.gO x.LO
 getE:∀k,(CC x.LE k).getD (.agg zeroEl.cells.toArray)=.agg ((AF m.els k).getD zeroEl).cells.toArray
 isE:∀k,(CC x.LE k).isSome=(AF m.els k).isSome
 getI:∀k,(CC x.LI k).getD (.slice none 0 0)=.slice (x.iA k) (E4 m.fls k).length (x.iC k)
 getO:∀k,(CC x.LO k).getD (.slice none 0 0)=.slice (x.oA k) (BV m.fls k).length (x.oC k)
 rdI:∀k,Rd w (x.iA k) ((E4 m.fls k).length*4) (AE Fl.cells (E4 m.fls k))
 rdO:∀k,Rd w (x.oA k) ((BV m.fls k).length*4) (AE Fl.cells (BV m.fls k))
 inF:gx∈F∧x.gE∈F∧x.gI∈F∧x.gO∈F
 inI:∀k b off p,x.iA k=some ⟨b,off,p⟩→b∈F
 inO:∀k b off p,x.oA k=some ⟨b,off,p⟩→b∈F
theorem JG {w w':Kw} {A:Ky} {n:Nat} {xs:Kx} {F:List Nat} (h:Rd w A n xs) (hk:∀g∈F,g<w.heap.size→w'.heap[g]?=w.heap[g]?) (hA:∀b off p,A=some ⟨b,off,p⟩→b∈F):Rd w' A n xs:=by
 refine ⟨h.1,λhn=>?_⟩;obtain ⟨b,off,e,hc⟩:=h.2 hn;refine ⟨b,off,e,λj u hu=>?_⟩;have h1:=hc j u hu;have hl:=World.block_lt_of_cell? w _ h1;have h2:=hk b (hA b off none e) hl;rw [←h1];unfold World.cell?;simp only [h2]
theorem M6 {w w':Kw} {g:Nat} {L:List (Kz × Kv)} {F:List Nat} (h:Mp w g L) (hk:∀g∈F,g<w.heap.size→w'.heap[g]?=w.heap[g]?) (hg:g∈F):Mp w' g L:=by
 obtain ⟨es,cl,h1,h2⟩:=h;exact ⟨es,cl,(hk g hg (An.1 h1).1).trans h1,h2⟩
theorem IxN.keep {w w':Kw} {m:Md} {a:MdA} {x:IxA} {gx:Nat} {F:List Nat} (hk:∀g∈F,g<w.heap.size→w'.heap[g]?=w.heap[g]?) (h:IxN w m a x gx F):IxN w' m a x gx F:=
 ⟨(hk gx h.inF.1 h.blk.lt).trans h.blk,M6 h.E hk h.inF.2.1,M6 h.I hk h.inF.2.2.1,M6 h.O hk h.inF.2.2.2,h.getE,h.isE,h.getI,h.getO,λk=>JG (h.rdI k) hk (h.inI k),λk=>JG (h.rdO k) hk (h.inO k),h.inF,h.inI,h.inO⟩
def As.ixp (m:Md) (a:MdA) (x:IxA) (gx:Nat) (F:List Nat):As:=⟨F,λw=>IxN w m a x gx F,λh hb=>hb.keep h⟩
theorem IxN.at {w:Kw} {m:Md} {a:MdA} {x:IxA} {gx:Nat} {F:List Nat} (h:IxN w m a x gx F) (hM:MdIn w m a):IxAt w m a x gx:=
 ⟨hM,h.blk,h.E,h.I,h.O,h.getE,h.isE,h.getI,h.getO,h.rdI,h.rdO⟩
theorem Fam.blk {α:Type} {w:Kw} {base size g:Nat} {e:Ly} {cells:α→Kx} {L:List (Kz × Kv)} {rows:Kz→List α} {F:List Nat} (h:Fam w base e size cells g L rows (λ_=>False) F) (k:Kz) {b:Nat} (hA:(PJ (G9 L k)).map (λa=>a.block)=some b):b∈F:=by
 obtain ⟨ho,hF⟩:=h.row k (λhh=>hh);obtain ⟨A,C,hv,_⟩:=E8 ho;refine hF b ?_;rw [hv] at hA ⊢
 cases A with
 | none=>cases hA
 | some q=>simpa [PJ,Value.ownBlock] using hA
theorem eY {m:Md} {a:MdA} {w w':Kw} {g15 g13 g12 g11:Nat} {L LI LO:List (Kz × Kv)} {FI FO:List Nat} {Ls:List As}
 (M:Mem w AR (As.blk g15 186 [str m.id,str m.nm,.slice a.V m.vars.length a.vc,.slice a.E m.els.length a.ec,.slice a.F m.fls.length a.fc,.map (some g11),.map (some g12),.map (some g13)]::As.fam w.heap.size 110 4 Fl.cells g13 LO (BV m.fls) (λ_=>False) FO::As.fam w.heap.size 110 4 Fl.cells g12 LI (E4 m.fls) (λ_=>False) FI::As.mp g11 L::Ls) w')
 (hL:∀k,CC L k=(AF m.els k).map elV) :
 ∃ix gx F,Ending.returned (pg g15)=.returned (pg gx)∧IxN w' m a ix gx F∧(∀g∈F,w.heap.size≤g∧g<w'.heap.size)∧Fr0 w w':=by
 have hO:Fam w' w.heap.size 110 4 Fl.cells g13 LO (BV m.fls) (λ_=>False) FO:=M.ok 1 _ X;have hI:Fam w' w.heap.size 110 4 Fl.cells g12 LI (E4 m.fls) (λ_=>False) FI:=M.ok 2 _ X
 refine ⟨⟨g11,g12,g13,L,LI,LO,λk=>PJ (G9 LI k),λk=>iF (G9 LI k),λk=>PJ (G9 LO k),λk=>iF (G9 LO k)⟩,g15,g15::g11::((g12::FI)++(g13::FO)),X,
  ⟨M.blk 0 rfl,M.mp 3 rfl,hI.map,hO.map,elG hL,elI hL,λk=>(hI.val k).1,λk=>(hO.val k).1,λk=>(hI.val k).2,λk=>(hO.val k).2,⟨by simp,by simp,by simp,by simp⟩,?_,?_⟩,?_,M.fr⟩
 ·intro k b off p hA
  have:=hI.blk k (b:=b) (by simp only at hA;rw [hA];rfl)
  simp [this]
 ·intro k b off p hA
  have:=hO.blk k (b:=b) (by simp only at hA;rw [hA];rfl)
  simp [this]
 intro g hg;rcases Ak.1 hg with rfl|hg
 ·exact M.new0 0 X _ (by simp [As.blk])
 rcases Ak.1 hg with rfl|hg
 ·exact M.new0 3 X _ (by simp [As.mp])
 rcases Bo.1 hg with hg|hg
 ·exact M.new0 2 X g hg
 exact M.new0 1 X g hg
theorem O6 (c0_0 c0_1 c0_2 c0_3 c0_4:Kv) (a1:Option Nat) (a2:Option Nat) (a3:Option Nat):prog.built 186 [(0,.agg #[c0_0,c0_1,c0_2,c0_3,c0_4]),(1,.map a1),(2,.map a2),(3,.map a3)]=some #[c0_0,c0_1,c0_2,c0_3,c0_4,.map a1,.map a2,.map a3]:=by kernel_rfl
theorem MG : (prog.info? 110).map (λi=>(i.zero,i.size,i.bytes))=some (some (.agg #[str [],str [],str [],str []]),4,64):=by kernel_rfl
theorem RY : (prog.info? 110).map (λi=>(i.zero,i.size))=some (some (.agg #[str [],str [],str [],str []]),4):=by kernel_rfl
theorem X7 (m:Md) (a:MdA) (w:Kw) (ho:MdB m) (hM:MdIn w m a) :
 Calls prog 68 #[.agg (Md.cells m a).toArray] w λe w'=>∃ix gx F,e=.returned (pg gx)∧IxN w' m a ix gx F∧(∀g∈F,w.heap.size≤g∧g<w'.heap.size)∧Fr0 w w':=by
 have hne:=ho.nels;have hnf:=ho.nfls;refine BR func68 ntmps68 X λM=>W ?_
 refine CO M X X λg1 w1 hg1 M=>W ?_
 refine CH M 0 X X Al AN X (K4 M kw X X X λg11 w2 hg11 M=>K4 M kw X X X λg12 w3 hg12 M=>K4 M kw X X X λg13 w4 hg13 M=>ya X (B7 (parts:=[(0,_),(1,_),(2,_),(3,_)]) X X (O6 _ _ _ _ _ _ _ _)) (DG M kw X X 186 X X ([str m.id,str m.nm,.slice a.V m.vars.length a.vc,.slice a.E m.els.length a.ec,.slice a.F m.fls.length a.fc,.map (some g11),.map (some g12),.map (some g13)]) X λg15 w5 hg15 M=>W ?_));refine flp [18,17,3,1] (λze e wr mz=>∃(i:Nat) (L:List (Kz × Kv)),e=(19,AA (i:Int))::ze∧Mem w AR [As.blk g15 186 [str m.id,str m.nm,.slice a.V m.vars.length a.vc,.slice a.E m.els.length a.ec,.slice a.F m.fls.length a.fc,.map (some g11),.map (some g12),.map (some g13)],As.mp g13 [],As.mp g12 [],As.mp g11 L,As.blk g1 48 (Md.cells m a)] wr∧(i≤m.els.length)∧(∀k,CC L k=(AF (m.els.take i) k).map elV)∧mz=m.els.length-i) ⟨0,[],X,M,Ae _,λ_=>X,X⟩ ?_;rintro _ w6 _ ⟨i,L,rfl,M,hi,hL,rfl⟩;refine W ?_;refine AB X (λh20=>?_) (λh20=>?_)
 ·have h20p:=odt h20;refine W ?_;obtain ⟨x,_,_,hx,hA_x⟩:=ex5 (i:=i) (M.rd hM.els);refine ya X (AK i hA_x X X X (sl X) A0) (ya X (AI X X (BM El.len (M.rd hM.els) hA_x hx) Bf X AJ) (CI M X AP λg5 w7 hg5 M=>BY M 0 X X AJ X λw8 M=>W ?_));refine J2 M 13 CA λM=>oc 0 13 X X M (oc 1 13 X X M (oc 2 13 X X M (ol 3 13 X X X M (λ_ M=>(M.cell 1 X X)) (oc 4 13 X X M (ol 5 13 X X X M (λ_ M=>(M.cell 0 X X)) (oa 6 13 X X M (λ_ M=>EM X X X Cx Aa AP (M.mp 4 X) (elG hL _) (elI hL _)) (oc 7 13 X X M (oc 8 13 X X M (oc 9 13 X X M (fon M 10 6 X X AP λg6 w9 hg6 M=>fop M 11 0 X X X AJ X (·.drop 1) λw10 M=>oc 12 13 X X (M.drop 1) (fdn (W ?_))))))))))))
  refine AB X (λh34=>?_) (λh34=>?_)
  ·have h34p:=CJ h34;refine EB 7 CA gkr ?_;have M:=M.drew;refine W ?_;refine sa X (AI (xs:=El.cells x) X X (M.rdBlk 1 X X) Bf X AJ) (D6 (GJ M 5 kw X X X X X Cx Aa X λw11 M=>W ?_));refine fag ⟨i+1,D9 L x.id (.agg (El.cells x).toArray),X,(M.pk [2,3,4,5,6]),?_,?_,X⟩
   ·omega
   first
    | exact uN hL (AS hx) h34
    | exact a0r hL (AS hx) h34
  have h34p:=BO h34;refine W ?_;refine fag ⟨i+1,L,X,(M.pk [2,3,4,5,6]),?_,?_,X⟩
  ·omega
  first
   | exact uN hL (AS hx) h34
   | exact a0r hL (AS hx) h34
 have h20p:=odf h20;refine W ?_;have hiE:i=m.els.length:=by omega
 rw [hiE,Ba] at hL
 refine W ?_;have M:=M.toFam 2 X 110 4 Fl.cells;have M:=M.toFam 1 X 110 4 Fl.cells;refine flp [45,44,3] (λze e wr mz=>∃(j:Nat) (LI:List (Kz × Kv)) (FI:List Nat) (LO:List (Kz × Kv)) (FO:List Nat),e=(46,AA (j:Int))::ze∧Mem w AR [As.blk g15 186 [str m.id,str m.nm,.slice a.V m.vars.length a.vc,.slice a.E m.els.length a.ec,.slice a.F m.fls.length a.fc,.map (some g11),.map (some g12),.map (some g13)],As.fam w.heap.size 110 4 Fl.cells g13 LO (BV (m.fls.take j)) (λ_=>False) FO,As.fam w.heap.size 110 4 Fl.cells g12 LI (E4 (m.fls.take j)) (λ_=>False) FI,As.mp g11 L,As.blk g1 48 (Md.cells m a)] wr∧(j≤m.fls.length)∧mz=m.fls.length-j) ⟨0,[],[],[],[],X,M,Ae _,X⟩ ?_;rintro _ w12 _ ⟨j,LI,FI,LO,FO,rfl,M,hj,rfl⟩;refine W ?_;refine AB X (λh47=>?_) (λh47=>?_)
 ·have h47p:=odt h47;refine W ?_;obtain ⟨f,_,_,hf,hA_f⟩:=ex5 (i:=j) (M.rd hM.fls);refine ya X (AK j hA_f X X X (sl X) A0) (ya X (AI X X (BM Fl.len (M.rd hM.fls) hA_f hf) Cf X BU) (CI M X DS λg9 w13 hg9 M=>BY M 0 X X BU X λw14 M=>W ?_));obtain ⟨ARI,CRI,F1I,hvI,M⟩:=Mem.famTake (M.pk [3,0,1,2,4,5]) f.tg;have hbI:(E4 (m.fls.take j) f.tg).length≤m.fls.length:=o5 _ _ _;refine EC 16 (λw'=>Mem w AR [As.fam w.heap.size 110 4 Fl.cells g12 LI (E4 (m.fls.take j)) (λk=>k=f.tg) F1I,As.blk g9 110 (Fl.cells f),As.blk g15 186 [str m.id,str m.nm,.slice a.V m.vars.length a.vc,.slice a.E m.els.length a.ec,.slice a.F m.fls.length a.fc,.map (some g11),.map (some g12),.map (some g13)],As.fam w.heap.size 110 4 Fl.cells g13 LO (BV (m.fls.take j)) (λ_=>False) FO,As.mp g11 L,As.blk g1 48 (Md.cells m a)] w') CA ?_;have M:=M.drew;refine oc 0 16 X X (M.pk [1,2,3,4,5,6]) (oc 1 16 X X (M.pk [1,2,3,4,5,6]) (oc 2 16 X X (M.pk [1,2,3,4,5,6]) (ol 3 16 X X X (M.pk [1,2,3,4,5,6]) (λ_ M=>(M.cell 2 X X)) (oc 4 16 X X (M.pk [1,2,3,4,5,6]) (ol 5 16 X X X (M.pk [1,2,3,4,5,6]) (λ_ M=>(M.cell 1 X X)) (oc 6 16 X X (M.pk [1,2,3,4,5,6]) (oc 7 16 X X (M.pk [1,2,3,4,5,6]) (oc 8 16 X X (M.pk [1,2,3,4,5,6]) (ol 9 16 X X X (M.pk [1,2,3,4,5,6]) (λ_ M=>(M.cell 2 X X)) (oc 10 16 X X (M.pk [1,2,3,4,5,6]) (ol 11 16 X X X (M.pk [1,2,3,4,5,6]) (λ_ M=>(M.cell 1 X X)) (oa 12 16 X X (M.pk [1,2,3,4,5,6]) (λ_ M=>CD X X X Dq Aa EH (M.famMp 0 X) hvI) (oa 13 16 X X (M.pk [1,2,3,4,5,6]) (λ_ M=>AI (xs:=Fl.cells f) X X (M.rdBlk 1 X X) Cf X BU) (B5 14 (some 64) gkr X kw X X (λρ hρ=>DA [.agg (Fl.cells f).toArray] _ hρ X X X X Dz RY AV AV (GT X)) ?_))))))))))))));rintro _ w15 ⟨g64,rfl,hg64,hq64,hb64,hfw15⟩
  replace hb64:Blk w15 g64 110 ((Fl.cells f)):=hb64
  refine ⟨λ_=>(M.pk [1,2,3,4,5,6]).step hfw15,?_⟩;have M:=M.push hfw15 _ hb64 (CU hg64 hq64)
  replace M:Mem w AR (As.blk g64 110 ((Fl.cells f))::_) w15:=M
  refine B5 15 (some 65) gkr X kw X X (λρ hρ=>DL _ _ _ X w.heap.size _ _ _ _ Dz MG X AV _ _ _ (hρ _ _ X) (M.own 1 X) _ _ _ _ (hρ _ _ X) (M.rdBlk 0 X X) ((Fl.cells_one _)) (by unfold maxLen;first|omega|(simp;omega)) DC M.fr.size) ?_;rintro v65 w16 ⟨ho65,hgr65,hvb65⟩
  replace ho65:World.ownsRow w16 w.heap.size 110 4 v65 (((E4 (m.fls.take j) f.tg)++[f]).length) (AE Fl.cells ((E4 (m.fls.take j) f.tg)++[f])):=by rw [show (((E4 (m.fls.take j) f.tg)++[f]).length)=((E4 (m.fls.take j) f.tg).length)+1 from by simp,show (AE Fl.cells ((E4 (m.fls.take j) f.tg)++[f]))=(AE Fl.cells (E4 (m.fls.take j) f.tg))++(Fl.cells f) from by first|exact B3 _ _ _|simp [AE]];exact ho65
  have M:=M.appOwn 1 X ho65 hgr65 hvb65;obtain ⟨A65,c65,rfl,_⟩:=E8 ho65;refine ⟨λ_=>(M.pk [2,3,4,5,6,7]),B5 16 none gkr X kw X X (λρ hρ=>GF X (hρ _ _ X) (hρ _ _ X) (hρ _ _ X) Dq Aa (M.famMp 2 X)) ?_⟩;rintro _ w17 ⟨rfl,hfw17,hbw17⟩;have M:=M.putFam 2 X hfw17 hbw17;refine ⟨λh=>absurd h AV,?_⟩;obtain ⟨F2I,M⟩:=Mem.famPut (M.pk [1,2,0,3,4,5,6,7]) (by rw [LK,if_pos rfl]) X (E4 (m.fls.take (j+1))) (tQ hf) (λk hk=>zI hf hk);refine fdn (qx_seq ?_);obtain ⟨ARO,CRO,F1O,hvO,M⟩:=Mem.famTake (M.pk [4,0,1,2,3,5,6]) f.frm;have hbO:(BV (m.fls.take j) f.frm).length≤m.fls.length:=iY _ _ _;refine EC 16 (λw'=>Mem w AR [As.fam w.heap.size 110 4 Fl.cells g13 LO (BV (m.fls.take j)) (λk=>k=f.frm) F1O,As.fam w.heap.size 110 4 Fl.cells g12 (D9 LI f.tg (.slice A65 (((E4 (m.fls.take j) f.tg)++[f]).length) c65)) (E4 (m.fls.take (j+1))) (λ_=>False) F2I,As.blk g64 110 (Fl.cells f),As.blk g9 110 (Fl.cells f),As.blk g15 186 [str m.id,str m.nm,.slice a.V m.vars.length a.vc,.slice a.E m.els.length a.ec,.slice a.F m.fls.length a.fc,.map (some g11),.map (some g12),.map (some g13)],As.mp g11 L,As.blk g1 48 (Md.cells m a)] w') CA ?_;have M:=M.drew;refine oc 0 16 X X (M.pk [1,2,3,4,5,6,7]) (oc 1 16 X X (M.pk [1,2,3,4,5,6,7]) (oc 2 16 X X (M.pk [1,2,3,4,5,6,7]) (ol 3 16 X X X (M.pk [1,2,3,4,5,6,7]) (λ_ M=>(M.cell 4 X X)) (oc 4 16 X X (M.pk [1,2,3,4,5,6,7]) (ol 5 16 X X X (M.pk [1,2,3,4,5,6,7]) (λ_ M=>(M.cell 3 X X)) (oc 6 16 X X (M.pk [1,2,3,4,5,6,7]) (oc 7 16 X X (M.pk [1,2,3,4,5,6,7]) (oc 8 16 X X (M.pk [1,2,3,4,5,6,7]) (ol 9 16 X X X (M.pk [1,2,3,4,5,6,7]) (λ_ M=>(M.cell 4 X X)) (oc 10 16 X X (M.pk [1,2,3,4,5,6,7]) (ol 11 16 X X X (M.pk [1,2,3,4,5,6,7]) (λ_ M=>(M.cell 3 X X)) (oa 12 16 X X (M.pk [1,2,3,4,5,6,7]) (λ_ M=>CD X X X Dq Aa EH (M.famMp 0 X) hvO) (oa 13 16 X X (M.pk [1,2,3,4,5,6,7]) (λ_ M=>AI (xs:=Fl.cells f) X X (M.rdBlk 3 X X) Cf X BU) (B5 14 (some 80) gkr X kw X X (λρ hρ=>DA [.agg (Fl.cells f).toArray] _ hρ X X X X Dz RY AV AV (GT X)) ?_))))))))))))));rintro _ w18 ⟨g80,rfl,hg80,hq80,hb80,hfw18⟩
  replace hb80:Blk w18 g80 110 ((Fl.cells f)):=hb80
  refine ⟨λ_=>(M.pk [1,2,3,4,5,6,7]).step hfw18,?_⟩;have M:=M.push hfw18 _ hb80 (CU hg80 hq80)
  replace M:Mem w AR (As.blk g80 110 ((Fl.cells f))::_) w18:=M
  refine B5 15 (some 81) gkr X kw X X (λρ hρ=>DL _ _ _ X w.heap.size _ _ _ _ Dz MG X AV _ _ _ (hρ _ _ X) (M.own 1 X) _ _ _ _ (hρ _ _ X) (M.rdBlk 0 X X) ((Fl.cells_one _)) (by unfold maxLen;first|omega|(simp;omega)) DC M.fr.size) ?_;rintro v81 w19 ⟨ho81,hgr81,hvb81⟩
  replace ho81:World.ownsRow w19 w.heap.size 110 4 v81 (((BV (m.fls.take j) f.frm)++[f]).length) (AE Fl.cells ((BV (m.fls.take j) f.frm)++[f])):=by rw [show (((BV (m.fls.take j) f.frm)++[f]).length)=((BV (m.fls.take j) f.frm).length)+1 from by simp,show (AE Fl.cells ((BV (m.fls.take j) f.frm)++[f]))=(AE Fl.cells (BV (m.fls.take j) f.frm))++(Fl.cells f) from by first|exact B3 _ _ _|simp [AE]];exact ho81
  have M:=M.appOwn 1 X ho81 hgr81 hvb81;obtain ⟨A81,c81,rfl,_⟩:=E8 ho81;refine ⟨λ_=>(M.pk [2,3,4,5,6,7,8]),B5 16 none gkr X kw X X (λρ hρ=>GF X (hρ _ _ X) (hρ _ _ X) (hρ _ _ X) Dq Aa (M.famMp 2 X)) ?_⟩;rintro _ w20 ⟨rfl,hfw20,hbw20⟩;have M:=M.putFam 2 X hfw20 hbw20;refine ⟨λh=>absurd h AV,?_⟩;obtain ⟨F2O,M⟩:=Mem.famPut (M.pk [1,2,0,3,4,5,6,7,8]) (by rw [LK,if_pos rfl]) X (BV (m.fls.take (j+1))) (nM hf) (λk hk=>sL hf hk);refine fdn (W ?_);refine fag ⟨j+1,(D9 LI f.tg (.slice A65 (((E4 (m.fls.take j) f.tg)++[f]).length) c65)),F2I,(D9 LO f.frm (.slice A81 (((BV (m.fls.take j) f.frm)++[f]).length) c81)),F2O,X,(M.pk [5,0,2,6,7]),?_,X⟩
  ·omega
 have h47p:=odf h47;refine W ?_;have hjE:j=m.fls.length:=by omega
 rw [hjE,Ba] at M
 refine W ?_;exact gr1 X (eY M hL)
end
end
section
def aH : List (UInt8 × Int)→Option Int
 | []=>none
 | q::r=>if (!decide (q.2=0))=true then some q.2 else aH r
def tyT (n:Xn) (vars:List Bd) (ts:List (UInt8 × Int)):UInt8 × Int:=
 if (decide ((n.op.toNat:Int)=(1:Int)))=true then (n.vl.kind,0)
 else if (decide ((n.op.toNat:Int)=(2:Int)))=true then (match ffN (λ(_:Nat) (b:Bd) => !(decide (b.name=n.nm))) 0 vars with
  | none=>(0,100)
  | some b=>(b.v.kind,0))
 else match aH ts with
  | some e=>(0,e)
  | none=>U0 n.op (ts.map (·.1))
theorem kL (f:Xq→UInt8 × Int):∀L:List Xq,L3 f L=aH (L.map f)
 | []=>rfl
 | q::r=>by rw [L3,Cj,aH,kL f r]
theorem a0h (n:Xn) (vars:List Bd) (f:Xq→UInt8 × Int) (L:List Xq):tyW n vars f L=tyT n vars (L.map f):=by
 unfold tyW tyT;rw [kL,Gr]
 rfl
def tyX (vars:List Bd):Xn→UInt8 × Int
 | .un o a=>tyT (.un o a) vars [tyX vars a]
 | .bin o a b=>tyT (.bin o a b) vars [tyX vars a,tyX vars b]
 | .zero=>tyT .zero vars []
 | .lit v=>tyT (.lit v) vars []
 | .var s=>tyT (.var s) vars []
theorem pZ (vars:List Bd) (n:Xn):tyX vars n=tyT n vars (n.kids.map (tyX vars)):=by cases n<;>simp [tyX,Xn.kids]
def HZ (n:Xn) (vars:List Bd):UInt8 × Int:=if chkX n=true then tyX vars n else (0,1)
theorem m1 {n:Xn} {k:Bool} (h:HX n k=true):(n.nk:Int)=IC n.op:=by
 unfold HX at h
 by_cases h1:(!decide ((n.nk:Int)=(IC n.op)))=true
 ·rw [if_pos h1] at h;cases h
 simpa using h1
theorem a1Z {n:Xn} {k:Bool} (h:HX n k=true):k=false:=by
 cases k with
 | false=>rfl
 | true=>
  exfalso
  unfold HX at h
  revert h
  repeat' split
  all_goals simp
theorem fZ {n a:Xn} (h:chkX n=true) (ha:a∈n.kids):chkX a=true:=by
 rw [S6] at h
 have h1:=a1Z h;rw [Hv] at h1
 simpa using h1 a ha
theorem a05 {n:Xn} (h:chkX n=true) (h1:¬(n.op.toNat:Int)=1) (h2:¬(n.op.toNat:Int)=2):0<n.nk:=by
 rw [S6] at h
 have h3:=m1 h;unfold IC at h3
 split at h3
 ·omega
 rename_i h4
 have h5:=odf (G8 (Cg.2 h4)).1
 split at h3
 ·rename_i h6
  have:=odt h6
  omega
 split at h3<;>omega
theorem mI (vars:List Bd) (hvl:vars.length≤4611686018427387904):∀(n:Xn) (A:Ky) (F:List Nat) (V:Ky) (cv:Nat) (w:Kw),n.AtL 113 w A F→chkX n=true→Rd w V (vars.length*5) (AE Bd.cells vars) →
 Calls prog 211 #[.agg (n.cells A).toArray,.slice V vars.length cv] w (BS w (.tuple #[.int .u8 ((tyX vars n).1.toNat:Int),AA (tyX vars n).2])):=by
 refine Xn.ind λn ih A F V cv w hA hc hV=>?_
 obtain ⟨L,hL,hk,hR,hq⟩:=hA.kids;have h1:n.cells A=O0 n A L.length:=by rw [hk];rfl
 have h2:tyX vars n=tyW n vars (λq=>tyX vars q.1) L:=by
  rw [a0h,pZ,←hL,Gr];rfl
 rw [h1,h2];refine pY n A V cv vars L (λq=>tyX vars q.1) w hvl hV (by have:=n.nk_le;omega) hR (λh3 h4=>by rw [hk];exact a05 hc h3 h4) (λq hq' W hW=>?_);obtain ⟨F',hF'⟩:=hq q hq';have hk':q.1∈n.kids:=by rw [←hL];exact En hq'
 exact ih q.1 hk' q.2 F' V cv W (hF'.fr0 hW) (fZ hc hk') (hV.fr0 hW)
theorem Xn.sm_mono {j k:Nat} (h:j≤k) (n:Xn):n.sm j→n.sm k:=by
 induction n with
 | zero=>exact id
 | lit v=>exact λq=>Bb q h
 | var s=>exact λq=>Bb q h
 | un o a ih=>exact ih
 | bin o a b ih1 ih2=>exact λq=>⟨ih1 q.1,ih2 q.2⟩
theorem WS (s:Kz):(CR s).1.sm 1048576:=by
 by_cases h:256<s.length
 ·rw [show CR s=(.zero,0,3) from if_pos h];trivial
 exact Xn.sm_mono A0 _ (nJ s)
def TE (vars:List Bd) (s:Kz):Bool:=((decide ((CR s).2.2=(0:Int)))&&(decide ((HZ (CR s).1 vars).2=(0:Int))))&&(decide (((HZ (CR s).1 vars).1.toNat:Int)=(2:Int)))
theorem wH (vars:List Bd) (hvl:vars.length≤4611686018427387904) (n:Xn) (A:Ky) (F:List Nat) (V:Ky) (cv:Nat) (w:Kw) (hA:n.AtL 113 w A F) (hs:n.sm 1048576) (hU:Laid w utfL) (hV:Rd w V (vars.length*5) (AE Bd.cells vars)) :
 Calls prog 187 #[.agg (n.cells A).toArray,.slice V vars.length cv] w (BS w (.tuple #[.int .u8 ((HZ n vars).1.toNat:Int),AA (HZ n vars).2])):=by
 refine BR func187 ntmps187 X λM=>W ?_
 refine CO M X X λg2 w1 hg2 M=>W ?_
 refine CH M 0 X X Bk AT X (CW M 7 X X call210 (vB n A F _ (hA.fr0 M.fr) hs (HM hU M.fr)) λw2 M=>W ?_);refine AB X (λh8=>?_) (λh8=>?_)
 ·replace h8:=CJ h8
  refine W ?_;exact AZ X X X ⟨by rw [HZ,AM h8];rfl,M.fr⟩
 replace h8:=BO h8
 refine W ?_;refine CH M 0 X X Bk AT X (yb X (CW M 11 X X call211 (mI vars hvl n A F V cv _ (hA.fr0 M.fr) h8 (hV.fr0 M.fr)) λw3 M=>W ?_));exact AZ X X X ⟨by rw [HZ,if_pos h8]<;>rfl,M.fr⟩
theorem n7 (vars:List Bd) (hvl:vars.length≤4611686018427387904) (s:Kz) (hs:s.length≤4611686018427387904) (V:Ky) (cv:Nat) (w:Kw) (hY:Lay0 w) (hV:Rd w V (vars.length*5) (AE Bd.cells vars)) :
 Calls prog 139 #[str s,.slice V vars.length cv] w (BS w (.bool (TE vars s))):=by
 refine BR func139 ntmps139 X λM=>W ?_
 refine cl 12 X (AD X X call46) (dZ s _ hs (hY.fr M.fr (λ_ h=>h.elim))) ?_;rintro _ w1 ⟨A,F,rfl,hat,hnw,hfw1⟩;refine cq ?_;have M:=M.push hfw1 (As.xn 113 (CR s).1 A F) hat hnw;refine W ?_;refine CI M X DK λg5 w2 hg5 M=>BY M 0 X X AT X λw3 M=>W ?_
 refine CH M 0 X X Bk AT X (yb X (CW M 19 X X call187 (wH vars hvl (CR s).1 A F V cv _ (M.ok 1 _ X) (WS s) (HM hY.utf M.fr) (hV.fr0 M.fr)) λw4 M=>W ?_));refine fvm M 3 [8,4] [(27,.bool ((decide ((CR s).2.2=(0:Int)))&&(decide ((HZ (CR s).1 vars).2=(0:Int)))))] ?_ (λk24=>?_)
 ·intro w5 M;refine yb X (fvm M 3 [4] [(31,.bool (((decide ((CR s).2.2=(0:Int)))&&(decide ((HZ (CR s).1 vars).2=(0:Int))))&&(decide (((HZ (CR s).1 vars).1.toNat:Int)=2))))] ?_ (λk28=>?_))
  ·intro w6 M;refine W ?_;exact gr1 X ⟨X,M.fr⟩
  refine A1 (d:=28) X (λh28=>?_) (λh28=>?_)
  ·refine T3 ?_;exact k28 M
  refine T3 ?_;exact k28 M
 refine A1 (d:=24) X (λh24=>?_) (λh24=>?_)
 ·refine T3 ?_;exact k24 M
 refine T3 ?_;exact k24 M
theorem Lay0.fr0 {w w':Kw} (h:Lay0 w) (hf:Fr0 w w'):Lay0 w':=h.fr hf (λ_ hh=>hh.elim)
def MS (m:Md) (y:Fl):Bool:=(if (((decide ((((AF m.els y.frm).getD zeroEl).kind.toNat:Int)=(5:Int)))&&(decide ((1:Int)<(((BV m.fls y.frm).length:Nat):Int))))&&(!decide (((AF m.els y.frm).getD zeroEl).dflt=y.id)))=true then (if (!decide (y.cond=[]))=true then (TE m.vars y.cond) else false) else (decide (y.cond=[])))
theorem wZ (m:Md) (a:MdA) (ix:IxA) (gx gp:Nat) (y:Fl) (w:Kw) (oy:FlOk y) (ho:MdOk m) (hx:IxAt w m a ix gx) (hp:Blk w gp 144 [pg gx]) (hY:Lay0 w) :
 Calls prog 138 #[.agg y.cells.toArray,pg gp] w (BS w (.bool (MS m y))):=by
 have hOl:=F3 m.fls y.frm;have hnf:=ho.nfls;refine BR func138 ntmps138 X λM=>W ?_
 refine CO M X X λg2 w1 hg2 M=>W ?_
 refine J2 M 9 CA λM=>ol 0 9 X X X M (λ_ M=>(Blk.c (hp.fr0 M.fr) 0 X)) (oc 1 9 X X M (oc 2 9 X X M (ol 3 9 X X X M (λ_ M=>(Blk.c ((hx.fr0 M.fr).blk) 5 X)) (oc 4 9 X X M (ol 5 9 X X X M (λ_ M=>(M.cell 0 X X)) (oa 6 9 X X M (λ_ M=>CD X X X Cx Aa AP ((hx.fr0 M.fr).E) (hx.getE _)) (fon M 7 4 X X AP λg4 w2 hg4 M=>fop M 8 0 X X X AJ X (·.drop 1) λw3 M=>fdn (W ?_))))))))
 refine CS CA gkr ?_;have M:=M.drew;refine W ?_;refine fvs 10 [4,2,1] [(25,.bool ((decide ((((AF m.els y.frm).getD zeroEl).kind.toNat:Int)=5))&&(decide (1<((BV m.fls y.frm).length:Int)))))] ?_ (λk15=>?_)
 ·refine sb X (fvs 6 [2,1] [(32,.bool (((decide ((((AF m.els y.frm).getD zeroEl).kind.toNat:Int)=5))&&(decide (1<((BV m.fls y.frm).length:Int))))&&(!decide (((AF m.els y.frm).getD zeroEl).dflt=y.id))))] ?_ (λk26=>?_))
  ·refine W ?_;refine AB X (λh32=>?_) (λh32=>?_)
   ·have h32p:=bd h32;refine sx_seq (EB 11 CA gkr ?_);have M:=M.drew;refine W ?_;refine C1 (d:=36) X (λh36=>?_) (λh36=>?_)
    ·have h36p:=(odf (CJ h36));refine T2 ?_;refine gsg X (B2 X X (sc X) (Blk.c (hp.fr0 M.fr) 0 X)) (T3 ?_);refine gsg X (B2 X X (sc X) (Blk.c ((hx.fr0 M.fr).blk) 2 X)) (D6 (sxl_call (some 44) kw X X (AD X X call139) (n7 m.vars (by have:=ho.nvars;omega) y.cond (by have:=oy.cond;omega) _ _ _ (hY.fr0 M.fr) (hx.fr0 M.fr).md.vars) ?_));rintro _ w4 ⟨rfl,hfw4⟩;refine cq ?_;have M:=M.step hfw4;refine W ?_;exact gr1 X ⟨by rw [MS,if_pos h32,if_pos h36],M.fr⟩
    refine W ?_;exact gr1 X ⟨by rw [MS,if_pos h32,AM h36],M.fr⟩
   have h32p:=bd h32;refine W ?_;exact gr1 X ⟨by rw [MS,AM h32],M.fr⟩
  refine C1 (d:=26) X (λh26=>?_) (λh26=>?_)
  ·refine T6 ?_;exact k26 _ ⟨X,X,(by rw [h26];rfl),trivial⟩
  refine T6 ?_;exact k26 _ ⟨X,X,(by rw [h26];rfl),trivial⟩
 refine C1 (d:=15) X (λh15=>?_) (λh15=>?_)
 ·refine gsg X (B2 X X (sc X) (Blk.c (hp.fr0 M.fr) 0 X)) (T2 ?_);refine gsg X (B2 X X (sc X) (Blk.c ((hx.fr0 M.fr).blk) 7 X)) (W ?_);refine gsg X (CD X X X Dq Aa EH ((hx.fr0 M.fr).O) (hx.getO _)) (T3 ?_);exact k15 _ ⟨X,X,X,(by rw [h15];rfl),trivial⟩
 refine T10 ?_;exact k15 _ ⟨X,X,X,(by rw [h15];rfl),trivial⟩
def YE (m:Md):Option Kz:=match ffE (KC m) m.els with
 | some k=>some k
 | none=>ffF (MS m) m.fls
theorem wX {m:Md} (h:(ffN (λ_=>(KC m)) 0 m.els).isSome=true):Value.tuple #[str ((ffN (λ_=>(KC m)) 0 m.els).elim [] (λx=>x.id)),.bool true]=MD (YE m):=by
 unfold YE ffE MD
 cases hq:ffN (λ_=>(KC m)) 0 m.els with
 | none=>rw [hq] at h;cases h
 | some x=>rfl
theorem wW {m:Md} (h:(ffN (λ_=>(KC m)) 0 m.els).isSome=false):Value.tuple #[str ((ffN (λ_=>(MS m)) 0 m.fls).elim [] (λx=>x.id)),.bool (ffN (λ_=>(MS m)) 0 m.fls).isSome]=MD (YE m):=by
 rw [uK];unfold YE ffE
 cases hq:ffN (λ_=>(KC m)) 0 m.els with
 | none=>rfl
 | some x=>rw [hq] at h;cases h
theorem wY (m:Md) (a:MdA) (ix:IxA) (gx:Nat) (w:Kw) (ho:MdOk m) (hx:IxAt w m a ix gx) (hY:Lay0 w) :
 Calls prog 74 #[pg gx] w (BS w (MD (YE m))):=by
 refine BR func74 ntmps74 X λM=>W ?_
 refine DG M kw X X 144 X X ([pg gx]) X λg1 w1 hg1 M=>T11 ?_
 refine yl X X (Blk.c ((hx.fr0 M.fr).blk) 3 X) (ya X (CY (us:=[]) (vs:=[pg g1]) X X X) (CW M 13 X X call121 (KZ _ _ m.els (by have:=ho.nfls;have:=ho.nels;have:=ho.nvars;omega) 136 [pg g1] (KC m) _ (IW call136 (λz hz w9 hf9=>xA m a ix gx _ z w9 (ho.els z hz) ho ((hx.fr0 M.fr).fr0 hf9) ((M.blk 0 X).fr0 hf9))) (M.rd hx.md.els)) λw2 M=>W ?_));refine AB X (λh16=>?_) (λh16=>?_)
 ·refine W ?_;exact AZ X X X ⟨Ay Ending.returned (wX h16),M.fr⟩
 refine T8 ?_;refine yl X X (Blk.c ((hx.fr0 M.fr).blk) 4 X) (ya X (CY (us:=[]) (vs:=[pg g1]) X X X) (CW M 24 X X call124 (ZM _ _ m.fls (by have:=ho.nfls;have:=ho.nels;have:=ho.nvars;omega) 138 [pg g1] (MS m) _ (IW call138 (λz hz w9 hf9=>wZ m a ix gx _ z w9 (ho.fls z hz) ho ((hx.fr0 M.fr).fr0 hf9) ((M.blk 0 X).fr0 hf9) ((hY.fr0 M.fr).fr0 hf9))) (M.rd hx.md.fls)) λw3 M=>W ?_));exact AZ X X X ⟨Ay Ending.returned (wW h16),M.fr⟩
section
section
variable {P:Lw} {e:Env} {w:Kw} {o:Oper}
theorem cM {t el n sz:Nat} (m:Nat) {x i:Lz} {cs:Array Kv} {u:Kv} (ho:o.op=.index t x i) (hx:ev e x=some (.agg cs)) (hi:ev e i=some (AA (m:Int))) (ht:PF P t=some (n,el,sz)) (hA:∀w,(isAgg el).run P w=.ok false w) (hm:m<n) (hu:cs[m*sz]?=some u):Y P e o w u:=λρ h=>by
 unfold PF at ht
 split at ht
 ·rename_i el' n' hu'
  split at ht
  ·rename_i i' hi'
   simp only [Ad,Av] at ht
   obtain ⟨rfl,rfl,rfl⟩:=ht;have h1:0≤(m:Int):=by omega
   unfold execOp
   simp [ho,h _ _ hx,h _ _ hi,Instr.index,asIntOf,run_underlying hu',h1,hm,sizeOf,typeInfo,hi',part,hA,hu]
  cases ht
 cases ht
end
theorem jE (A:Ky) (c:Nat) (l:List Kz) (hl:l.length≤4611686018427387904) (f:FuncId) (cs:Kx) (p:Kz→Bool) (w:Kw) (hP:PredJ prog f cs str l (λ_=>p) AR (λ_ _=>True) w) (hR:Rd w A (l.length*1) (AE BG l)) :
 Calls prog 133 #[.slice A l.length c,.func (.func 134) #[] #[],.func (.func f) #[] cs.toArray] w (BS w (.tuple #[str ((ffN (λ_=>p) 0 l).elim [] (λx=>x)),.bool (ffN (λ_=>p) 0 l).isSome])):=
 (oM A c l hl f cs (λ_=>p) AR (λ_ _=>True) w hP (λ_ hf=>hR.fr0 hf) trivial).mono λ_ _ ⟨h1,_,h2⟩=>⟨h1,h2⟩
def cntK (t:Nat) (l:List El) (k:Kz):Nat:=(l.filter λx=>decide (x.inn=k)&&decide (x.kind.toNat=t)).length
def fX (l:List El) (k:Kz):Kv:=.agg #[.int .i64 ((cntK 1 l k:Nat):Int),.int .i64 ((cntK 2 l k:Nat):Int)]
theorem uX (t:Nat) (l:List El) (k:Kz):cntK t l k≤l.length:=Ef _ _
theorem ZS (t:Nat) (l:List El) (i:Nat) (k:Kz):cntK t (l.take i) k≤l.length:=Bb (uX _ _ _) (by rw [Bl];omega)
theorem J0 (t:Nat) (l:List El) (x:El) (k:Kz):cntK t (l++[x]) k=cntK t l k+(if x.inn=k∧x.kind.toNat=t then 1 else 0):=by
 unfold cntK;rw [Cn,Ah]
 congr 1
 by_cases h1:x.inn=k<;>by_cases h2:x.kind.toNat=t<;>simp [h1,h2]
section
variable {L:List (Kz × Kv)} {l l':List El} {x:El} (hL:∀k,(CC L k).getD (.agg #[.int .i64 0,.int .i64 0])=fX l k) (hl:l'=l++[x])
include hL hl
theorem bW {a b:Nat} (ha:a=cntK 1 l' x.inn) (hb:b=cntK 2 l' x.inn):∀k,(CC (D9 L x.inn (.agg #[AA (a:Int),AA (b:Int)])) k).getD (.agg #[AA 0,AA 0])=fX l' k:=λk=>by
 rw [G0]
 by_cases h:k=x.inn
 ·subst h;subst ha;subst hb;rw [if_pos rfl];rfl
 rw [if_neg h,hL];unfold fX;rw [hl,J0,J0,if_neg (λz=>h z.1.symm),if_neg (λz=>h z.1.symm)];rfl
theorem TK (h:(x.kind.toNat:Int)=1):∀k,(CC (D9 L x.inn (.agg #[AA ((cntK 1 l x.inn+1:Nat):Int),AA ((cntK 2 l x.inn:Nat):Int)])) k).getD (.agg #[AA 0,AA 0])=fX l' k:=
 bW hL hl (by rw [hl,J0,if_pos ⟨rfl,by omega⟩]) (by rw [hl,J0,if_neg (λz=>by omega)];rfl)
theorem bV (_h1:¬(x.kind.toNat:Int)=1) (h:(x.kind.toNat:Int)=2):∀k,(CC (D9 L x.inn (.agg #[AA ((cntK 1 l x.inn:Nat):Int),AA ((cntK 2 l x.inn+1:Nat):Int)])) k).getD (.agg #[AA 0,AA 0])=fX l' k:=
 bW hL hl (by rw [hl,J0,if_neg (λz=>by omega)];rfl) (by rw [hl,J0,if_pos ⟨rfl,by omega⟩])
theorem XO (h1:¬(x.kind.toNat:Int)=1) (h:¬(x.kind.toNat:Int)=2):∀k,(CC (D9 L x.inn (.agg #[AA ((cntK 1 l x.inn:Nat):Int),AA ((cntK 2 l x.inn:Nat):Int)])) k).getD (.agg #[AA 0,AA 0])=fX l' k:=
 bW hL hl (by rw [hl,J0,if_neg (λz=>by omega)];rfl) (by rw [hl,J0,if_neg (λz=>by omega)];rfl)
end
def GK (l:List El):List Kz:=(l.filter λx=>decide (x.kind.toNat=10)).map (·.id)
theorem U3 {l:List El} {x:El} (h:(x.kind.toNat:Int)=10):GK (l++[x])=GK l++[x.id]:=by
 unfold GK;rw [Cn,Ck]
 simp [show x.kind.toNat=10 by omega]
theorem W9 {l:List El} {x:El} (h:¬(x.kind.toNat:Int)=10):GK (l++[x])=GK l:=by
 unfold GK;rw [Cn]
 simp [show ¬x.kind.toNat=10 by omega]
def O3 (m:Md) (k:Kz):Bool:=(decide (((cntK 1 m.els k:Nat):Int)=(1:Int)))&&(decide ((1:Int)≤((cntK 2 m.els k:Nat):Int)))
def ffS (p:Kz→Bool) (l:List Kz):Option Kz:=ffN (λ_=>p) 0 l
theorem a1V (p:Kz→Bool) (l:List Kz):Value.tuple #[str ((ffN (λ_=>p) 0 l).elim [] (λx=>x)),.bool (ffN (λ_=>p) 0 l).isSome]=MD (ffS p l):=by unfold MD ffS;cases ffN (λ_=>p) 0 l<;>rfl
def ZK (m:Md):Option Kz:=ffS (O3 m) ([]::GK m.els)
theorem R8 : (prog.info? 198).map (·.size)=some 2:=by kernel_rfl
theorem PI : (prog.info? 197).map (·.size)=some 1:=by kernel_rfl
theorem QW : (prog.info? 198).map (·.zero)=some (some (.agg #[AA 0,AA 0])):=by kernel_rfl
theorem PH : (prog.info? 197).map (·.zero)=some (some (.map none)):=by kernel_rfl
theorem uC (m:Md) (L:List (Kz × Kv)) (hL:∀k,(CC L k).getD (.agg #[AA 0,AA 0])=fX m.els k) (g4 g11:Nat) (k:Kz) (w:Kw) (hp:Blk w g4 197 [.map (some g11)]) (hm:Mp w g11 L) :
 Calls prog 135 #[str k,pg g4] w (BS w (.bool (O3 m k))):=by
 refine BR func135 ntmps135 X λM=>T7 ?_
 refine yl X X (Blk.c (hp.fr0 M.fr) 0 X) (yb X (ya X (CD X X X Fq Aa QW (hm.fr M.fr (λhh=>hh)) (hL _)) (ya X (cM (m:=0) X X X (ar X) isAgg3 AV X) (W ?_))));refine fvm M 6 [3] [(15,.bool ((decide (((cntK 1 m.els k:Nat):Int)=1))&&(decide (1≤((cntK 2 m.els k:Nat):Int)))))] ?_ (λk9=>?_)
 ·intro w1 M;refine W ?_;exact gr1 X ⟨X,M.fr⟩
 refine A1 (d:=9) X (λh9=>?_) (λh9=>?_)
 ·refine ym X X (Blk.c (hp.fr0 M.fr) 0 X) (gyq X (yd X (CD X X X Fq Aa QW (hm.fr M.fr (λhh=>hh)) (hL _)) (yd X (cM (m:=1) X X X (ar X) isAgg3 AV X) (T2 ?_))));exact k9 M
 refine T6 ?_;exact k9 M
theorem uB (m:Md) (a:MdA) (ix:IxA) (gx:Nat) (w:Kw) (ho:MdOk m) (hx:IxAt w m a ix gx) :
 Calls prog 73 #[pg gx] w (BS w (MD (ZK m))):=by
 have hne:=ho.nels;refine BR func73 ntmps73 X λM=>W ?_
 refine K4 M kw X X X λg11 w1 hg11 M=>FR M kw X X 197 X [.map none] PH X λg4 w2 hg4 M=>gp1 M 0 X X X PI λw3 M=>T9 ?_
 refine yl X X (Blk.c ((hx.fr0 M.fr).blk) 3 X) (W ?_);refine flp [17,16,4,0] (λze e wr mz=>∃(i:Nat) (L:List (Kz × Kv)),e=(18,AA (i:Int))::ze∧Mem w AR [As.blk g4 197 [.map (some g11)],As.mp g11 L] wr∧(i≤m.els.length)∧(∀k,(CC L k).getD (.agg #[AA 0,AA 0])=fX (m.els.take i) k)∧mz=m.els.length-i) ⟨0,[],X,M,Ae _,λ_=>X,X⟩ ?_;rintro _ w4 _ ⟨i,L,rfl,M,hi,hL,rfl⟩;refine W ?_;refine AB X (λh19=>?_) (λh19=>?_)
 ·have h19p:=odt h19;refine W ?_;obtain ⟨u,_,_,hu,hA_u⟩:=ex5 (i:=i) (M.rd hx.md.els);refine ya X (AK i hA_u X X X (sl X) A0) (ya X (AI X X (BM El.len (M.rd hx.md.els) hA_u hu) Bf X AJ) (CI M X AP λg6 w5 hg6 M=>BY M 0 X X AJ X λw6 M=>W ?_));refine ya X (CD X X X Fq Aa QW (M.mp 2 X) (hL _)) (CI M X QW λg7 w7 hg7 M=>BY M 0 X X R8 X λw8 M=>W ?_);refine AB X (λh28=>?_) (λh28=>?_)
  ·have h28p:=odt h28;have hc1:=ZS 1 m.els i u.inn;refine sx_region (ya X (G1 X X X (ar X) A0) (W ?_));refine ya X (G1 X X X (ar X) A0) (gp1 M 0 X X X FU λw9 M=>W ?_);refine CH M 0 X X Ij R8 X (GJ M 3 kw X X X X X Fq Aa X λw10 M=>W ?_);refine fag ⟨i+1,D9 L u.inn (.agg #[AA (((cntK 1 (m.els.take i) u.inn)+1:Nat):Int),AA ((cntK 2 (m.els.take i) u.inn:Nat):Int)]),X,(M.pk [2,3]),?_,?_,X⟩
   ·omega
   first
    | exact TK hL (AS hu) h28p
    | exact bV hL (AS hu) h28p h34p
    | exact XO hL (AS hu) h28p h34p
  have h28p:=odf h28;refine W ?_;refine AB X (λh34=>?_) (λh34=>?_)
  ·have h34p:=odt h34;have hc2:=ZS 2 m.els i u.inn;refine sx_region (ya X (G1 X X X (ar X) A0) (W ?_));refine ya X (G1 X X X (ar X) A0) (gp1 M 0 X X X FU λw11 M=>W ?_);refine CH M 0 X X Ij R8 X (GJ M 3 kw X X X X X Fq Aa X λw12 M=>W ?_);refine fag ⟨i+1,D9 L u.inn (.agg #[AA ((cntK 1 (m.els.take i) u.inn:Nat):Int),AA (((cntK 2 (m.els.take i) u.inn)+1:Nat):Int)]),X,(M.pk [2,3]),?_,?_,X⟩
   ·omega
   first
    | exact TK hL (AS hu) h28p
    | exact bV hL (AS hu) h28p h34p
    | exact XO hL (AS hu) h28p h34p
  have h34p:=odf h34;refine W ?_;refine CH M 0 X X Ij R8 X (GJ M 3 kw X X X X X Fq Aa X λw13 M=>W ?_);refine fag ⟨i+1,D9 L u.inn (.agg #[AA ((cntK 1 (m.els.take i) u.inn:Nat):Int),AA ((cntK 2 (m.els.take i) u.inn:Nat):Int)]),X,(M.pk [2,3]),?_,?_,X⟩
  ·omega
  first
   | exact TK hL (AS hu) h28p
   | exact bV hL (AS hu) h28p h34p
   | exact XO hL (AS hu) h28p h34p
 have h19p:=odf h19;refine W ?_;have hiE:i=m.els.length:=by omega
 rw [hiE,Ba] at hL
 refine W ?_;refine CV M kw X X [str []] ([str []]) X X X X Az CG X X (GT X) X λg45 w14 hg45 M=>T10 ?_
 refine yl X X (Blk.c ((hx.fr0 M.fr).blk) 3 X) (W ?_);have M:=M.blkOwn 0 (size:=1) (n:=1) X X (by unfold maxLen;omega);refine flp [51,50,4] (λze e wr mz=>∃(j:Nat) (acc:List Kz) (A:Ky) (c:Nat),e=(8,.slice A acc.length c)::(52,AA (j:Int))::ze∧Mem w AR [As.own w.heap.size 9 1 (.slice A acc.length c) acc.length (AE BG acc),As.blk g4 197 [.map (some g11)],As.mp g11 L] wr∧(j≤m.els.length)∧(acc=[]::GK (m.els.take j))∧(acc.length≤j+1)∧mz=m.els.length-j) ⟨0,[[]],some ⟨g45,0,none⟩,1,X,M,Ae _,X,Ab _,X⟩ ?_;rintro _ w15 _ ⟨j,acc,A,c,rfl,M,hj,hacc,hal,rfl⟩;refine W ?_;refine AB X (λh53=>?_) (λh53=>?_)
 ·have h53p:=odt h53;refine W ?_;obtain ⟨v,_,_,hv,hA_v⟩:=ex5 (i:=j) (M.rd hx.md.els);refine ya X (AK j hA_v X X X (sl X) A0) (ya X (AI X X (BM El.len (M.rd hx.md.els) hA_v hv) Bf X AJ) (CI M X AP λg10 w16 hg10 M=>BY M 0 X X AJ X λw17 M=>W ?_));refine AB X (λh58=>?_) (λh58=>?_)
  ·have h58p:=odt h58;refine W ?_;refine CV M kw X X [str v.id] ([str v.id]) X X X X Az CG X X (GT X) X λg62 w18 hg62 M=>CN (len':=(acc++[v.id]).length) (xs':=AE BG (acc++[v.id])) M 2 kw X X X X X X (M.rdBlk 0 X X) Az C0 X AV (BW X) (Ab _) (Ab _) DC (by unfold maxLen;first|omega|(simp only [Ah,Af,Aq];omega)) (by simp) (by simp [AE,BG]) λA63 c63 w19 M=>W ?_
   refine fag ⟨j+1,acc++[v.id],A63,c63,X,(M.pk [2,3,4]),?_,?_,?_,X⟩
   ·omega
   ·first
     | (rw [hacc,AS hv,U3 h58p];rfl)
     | (rw [hacc,AS hv,W9 h58p])
   first|omega|(simp only [Ah,Af,Aq];omega)
  have h58p:=odf h58;refine W ?_;refine fag ⟨j+1,acc,A,c,X,(M.pk [1,2,3]),?_,?_,?_,X⟩
  ·omega
  ·first
    | (rw [hacc,AS hv,U3 h58p];rfl)
    | (rw [hacc,AS hv,W9 h58p])
  first|omega|(simp only [Ah,Af,Aq];omega)
 have h53p:=odf h53;refine W ?_;have hjE:j=m.els.length:=by omega
 rw [hjE,Ba] at hacc
 refine W ?_;refine ya X (CY (us:=[]) (vs:=[pg g4]) X X X) (CW M 67 X X call133 (jE _ _ acc (by have:=ho.nels;omega) 135 [pg g4] (O3 m) _ (IW call135 (λz _ w9 hf9=>uC m L hL g4 g11 z w9 ((M.blk 1 X).fr0 hf9) ((M.mp 2 X).fr hf9 (λhh=>hh)))) (M.rdOwn 0 X)) λw20 M=>W ?_);exact AZ X X X ⟨by rw [ZK,←hacc];exact Ay Ending.returned (a1V _ _),M.fr⟩
end
end
end Go.Proofs.YtppmdnmjepkfaaaGreatDoor
