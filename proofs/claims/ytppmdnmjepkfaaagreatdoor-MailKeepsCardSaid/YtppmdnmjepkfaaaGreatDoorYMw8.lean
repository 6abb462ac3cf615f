/- Lemmas. -/
import Derived.Test.YtppmdnmjepkfaaaGreatDoorYMv6
import Derived.ArgAppend
import Derived.Sort.OwnSortedInts
import Derived.Scope
set_option maxHeartbeats 16000000
set_option maxRecDepth 100000
namespace Go.Proofs.YtppmdnmjepkfaaaGreatDoor
open Go.RowKit
open Tryz
open Decidable renaming decide→O
open Option renaming some→G,none→zx
open Bool renaming true→zz
open True renaming intro→zw
open Go.Proofs.Tryz renaming prog→zv
open Go renaming Calls→zt
open Bool renaming true→zz,false→zy
theorem a1p {e:Env} {w:Kw} {o:Oper} {x:Lz} {b:Fl} (ho:o.op=.field 110 x 2) (hx:ev e x=G (.agg b.cells.toArray)):Y zv e o w (str b.tg):=λρ h=>by
 unfold execOp
 simp [ho,h _ _ hx,Instr.field,run_underlying underlying110,asAgg,part,isAgg9,Fl.cells]
theorem GY (m:Md) (id:Kz):(DF m id).length≤m.els.length:=by unfold DF;rw [Br];exact Dy _ _
def bL (c:CrA) (t:Tk):List Kz:=
 if ((O (((c.atf t.loc).kind.toNat:Int)=(3:Int))) || (O (((c.atf t.loc).kind.toNat:Int)=(8:Int))))=zz then [t.loc]
 else if (O (((c.atf t.loc).kind.toNat:Int)=(7:Int)))=zz then (c.outs t.loc).map (λk=>(c.flf k).tg)
 else []
def EE (m:Md) (c:CrA) (t:Tk):List Kz:=
 if (O (t.loc=[]))=zz then [] else bL c t++([t.loc]++AZ m.els t.loc).flatMap (DF m)
theorem xR (m:Md) (gc:Nat) (c:CrA) (F:List Nat) (t:Tk) (w:Kw) (ho:MdOk m) (hC:CourseN w m gc c F) :
 zt zv 110 #[pg gc,.agg t.cells.toArray] w λe w'=>∃A c',e=.returned (.slice A (EE m c t).length c')∧w'.ownsRow w.heap.size 9 1 (.slice A (EE m c t).length c') (EE m c t).length (AF BH (EE m c t))∧Fr0 w w':=by
 have hne:=ho.nels;have hnf:=ho.nfls;have hol:=hC.lenO t.loc;have har:=PD m.els t.loc;have hAL:([t.loc]++(AZ m.els t.loc)).length≤65:=by rw [Am,Al,Ay];omega
 refine BO func110 ntmps110 X λM=>W ?_
 refine CU M X X λg3 w1 hg3 M=>W ?_
 refine AC X (λh12=>?_) (λh12=>?_)
 ·refine W ?_;refine gr1 X ?_;have hv0:EE m c t=[]:=Ac h12;rw [hv0];exact ⟨zx,0,X,World.ownsRow_nil _ _ _ _,M.fr⟩
 have h12p:=odf h12;refine W ?_;refine CY CA zr ?_;have M:=M.drew;refine T3 ?_;refine sd X X (Blk.c ((hC.fr0 M.fr).blk) 5 X) (W ?_);refine sa X (CH X X X Di Ad AP ((hC.fr0 M.fr).A) (hC.getA _)) (sa X (VW (b:=(c.atf t.loc)) X X) (W ?_));refine KA [(0,pg gc),(3,pg g3),(5,.slice zx 0 0),(20,.int .u8 ((c.atf t.loc).kind.toNat:Int)),(21,.bool ((O (((c.atf t.loc).kind.toNat:Int)=3)) || (O (((c.atf t.loc).kind.toNat:Int)=8))))] (λw'=>Mem w AR [As.blk g3 75 (Tk.cells t)] w') ?_ (λk21=>?_)
 ·intro w2 M;refine qx_seq (AC X (λh21=>?_) (λh21=>?_))
  ·have h21p:=bd h21;refine W ?_;refine CP M kw X X [str t.loc] ([str t.loc]) X X X X Be CK X X (FZ X) X λg27 w3 hg27 M=>?_
   have M:=M.nilOwn 9 1;refine CD (len':=[t.loc].length) (xs':=AF BH [t.loc]) M 0 kw X X X X X X (M.rdBlk 1 X X) Be C2 X AV (BN X) (Af _) (Af _) D4 (by unfold maxLen;first|omega|(simp only [Am,Al,Ay];omega)) (by simp) (by first|exact (AY _ _ _).symm|simp [AF,BH]) λA28 c28 w4 M=>W ?_
   refine WF (λ(A63:Ky) (c63:Nat) (A64:Ky) (c64:Nat)=>[(0,pg gc),(5,.slice A28 ([t.loc].length) c28),(64,.slice A64 (([t.loc]++(AZ m.els t.loc)).length) c64),(65,AA (([t.loc]++(AZ m.els t.loc)).length:Int)),(66,AA 0)]) (λ(A63:Ky) (c63:Nat) (A64:Ky) (c64:Nat)=>λw'=>Mem w AR [As.own w.heap.size 9 1 (.slice A63 (AZ m.els t.loc).length c63) ((AZ m.els t.loc).length) (AF BH (AZ m.els t.loc)),As.own w.heap.size 9 1 (.slice A64 (([t.loc]++(AZ m.els t.loc)).length) c64) (([t.loc]++(AZ m.els t.loc)).length) (AF BH ([t.loc]++(AZ m.els t.loc))),As.own w.heap.size 9 1 (.slice A28 ([t.loc].length) c28) ([t.loc].length) (AF BH [t.loc]),As.blk g27 9 [str t.loc],As.blk g3 75 (Tk.cells t)] w') ?_ (λkr14=>?_)
   ·intro A63 c63 A64 c64 w5 M;refine W ?_;refine flp [65,64,0] (λze e wr mz=>∃(q:Nat) (acc2:List Kz) (A6:Ky) (c6:Nat),e=(5,.slice A6 acc2.length c6)::(66,AA (q:Int))::ze∧Mem w AR [As.own w.heap.size 9 1 (.slice A63 (AZ m.els t.loc).length c63) ((AZ m.els t.loc).length) (AF BH (AZ m.els t.loc)),As.own w.heap.size 9 1 (.slice A64 (([t.loc]++(AZ m.els t.loc)).length) c64) (([t.loc]++(AZ m.els t.loc)).length) (AF BH ([t.loc]++(AZ m.els t.loc))),As.own w.heap.size 9 1 (.slice A6 acc2.length c6) acc2.length (AF BH acc2),As.blk g27 9 [str t.loc],As.blk g3 75 (Tk.cells t)] wr∧(q≤([t.loc]++(AZ m.els t.loc)).length)∧(acc2=[t.loc]++(([t.loc]++(AZ m.els t.loc)).take q).flatMap (DF m))∧(acc2.length≤400+q*200)∧mz=([t.loc]++(AZ m.els t.loc)).length-q) ⟨0,[t.loc],A28,c28,X,M,Aj _,by rw [Fd,Ev,Cd],by simp only [Al,Ay];omega,rfl⟩ ?_;rintro _ w6 _ ⟨q,acc2,A6,c6,rfl,M,hq,hv,hl2,rfl⟩;refine W ?_;refine AC X (λh67=>?_) (λh67=>?_)
    ·have h67p:=odt h67;refine W ?_;obtain ⟨z,hz⟩:=EJ (l:=[t.loc]++(AZ m.els t.loc)) (i:=q) A0;obtain ⟨b_z,o_z,hA_z⟩:=DR (k:=1) A0 (M.rdOwn 1 X) hz;refine ya X (AK q hA_z X X X (sl X) A0) (yl X X (BC DN (M.rdOwn 1 X) hA_z hz 0 X) (W ?_));refine ya X (AJ (xs:=[str m.id,str m.nm,.slice c.a.V m.vars.length c.a.vc,.slice c.a.E m.els.length c.a.ec,.slice c.a.F m.fls.length c.a.fc]) X X (DO ((hC.fr0 M.fr).blk) 0 5 X X) Ap X AO) (yb X (ND M 76 X (AE X X call173) (P9 m c.a z _ ho (hC.fr0 M.fr).md.md) λA76 c76 w7 M=>?_));have hL76:=M.ownLen 0 X;have hbl:=GY m z;refine CD (len':=(acc2++(DF m z)).length) (xs':=AF BH (acc2++(DF m z))) M 3 kw X X X X X X (M.rdOwn 0 X) Be C2 X AV (D5 FV) (Af _) (Af _) D4 (by unfold maxLen;first|omega|(simp only [Am,Al,Ay];omega)) (by simp) (by first|exact (AY _ _ _).symm|simp [AF,BH]) λA77 c77 w8 M=>W ?_
     refine fag ⟨q+1,acc2++(DF m z),A77,c77,X,(M.pk [1,2,3,4,5]),?_,?_,?_,X⟩
     ·omega
     ·rw [hv,AT hz,Ej,Cg];simp
     have hbz:=GY m z;rw [Am];omega
    have h67p:=odf h67;refine W ?_;have hqE:q=([t.loc]++(AZ m.els t.loc)).length:=A0
    rw [hqE,Bc] at hv
    refine W ?_;refine gr1 X ?_;have hvp:EE m c t=acc2:=by rw [EE,AN h12,hv,bL,Ac h21]<;>rfl
    rw [hvp];exact ⟨_,_,X,M.own 2 X,M.fr⟩
   refine I0 M 13 CA λM=>oc 0 13 X X M (ol 1 13 X X X M (λ_ M=>(M.cell 2 X X)) (oc 3 13 X X M (oc 4 13 X X M (oc 5 13 X X M (oa 6 13 X X M (λ_ M=>AJ (xs:=[str m.id,str m.nm,.slice c.a.V m.vars.length c.a.vc,.slice c.a.E m.els.length c.a.ec,.slice c.a.F m.fls.length c.a.fc]) X X (DO ((hC.fr0 M.fr).blk) 0 5 X X) Ap X AO) (oc 7 13 X X M (ol 8 13 X X X M (λ_ M=>(M.cell 2 X X)) (oc 12 13 X X M (FM (rs:=[2,9]) zr (by simp) λiz hiz=>?_)))))))))
   simp only [Ao,Ba,or_false] at hiz
   rcases hiz with rfl|rfl
   ·refine DP (G 56) X kw X X (λρ hρ=>CX [str t.loc] _ hρ X X X X Be CK AV AV (FZ X)) ?_;rintro _ w9 ⟨g56,rfl,hg56,hq56,hb56,hfw9⟩
    replace hb56:Blk w9 g56 9 ([str t.loc]):=hb56
    refine ⟨λ_=>M.step hfw9,?_⟩;have M:=M.push hfw9 _ hb56 (CR hg56 hq56)
    replace M:Mem w AR (As.blk g56 9 ([str t.loc])::_) w9:=M
    refine BB 9 (G 63) zr X kw X X (AE X X call172) (K6 m c.a t.loc _ ho (hC.fr0 M.fr).md.md) ?_;rintro _ w10 ⟨A63,c63,rfl,how10,hfw10⟩;refine ⟨_,X,λ_=>(M.drop 1).step hfw10,?_⟩;have M:=M.pushOwn hfw10 (Af _) how10;have hL63:=M.ownLen 0 X;have M:=M.blkOwn 1 (size:=1) (n:=1) X X (by unfold maxLen;omega);refine B7 10 (G 64) zr X kw X X (λρ hρ=>D2 _ _ _ X w.heap.size _ _ _ _ Be C2 X AV _ _ _ (hρ _ _ X) (M.own 1 X) _ _ _ _ (hρ _ _ X) (M.rdOwn 0 X) (D5 FV) (by unfold maxLen;first|omega|(simp only [Am,Al,Ay];omega)) D4 M.fr.size) ?_;rintro v64 w11 ⟨ho64,hgr64,hvb64⟩
    replace ho64:World.ownsRow w11 w.heap.size 9 1 v64 (([t.loc]++(AZ m.els t.loc)).length) (AF BH ([t.loc]++(AZ m.els t.loc))):=by rw [show (([t.loc]++(AZ m.els t.loc)).length)=1+(AZ m.els t.loc).length from by first|(simp only [Am,Al,Ay];omega)|simp only [Am,Al,Ay],show (AF BH ([t.loc]++(AZ m.els t.loc)))=(AF BH [t.loc])++(AF BH (AZ m.els t.loc)) from by first|exact AY _ _ _|simp [AF,BH]];exact ho64
    have M:=M.appOwn 1 X ho64 hgr64 hvb64;obtain ⟨A64,c64,rfl,_⟩:=DH ho64;exact ⟨λ_=>(M.drop 2),oa 11 13 X X (M.drop 2) (λ_ M=>I8 X X (sl X)) (fdn (kr14 A63 c63 A64 c64 _ _ M ⟨X,X,X,X,X,zw⟩))⟩
   refine GT (G 63) X kw X X (AE X X call172) (K6 m c.a t.loc _ ho (hC.fr0 M.fr).md.md) ?_;rintro _ w12 ⟨A63,c63,rfl,how12,hfw12⟩;refine ⟨_,X,λ_=>M.step hfw12,?_⟩;have M:=M.pushOwn hfw12 (Af _) how12;have hL63:=M.ownLen 0 X;refine B7 2 (G 56) zr X kw X X (λρ hρ=>CX [str t.loc] _ hρ X X X X Be CK AV AV (FZ X)) ?_;rintro _ w13 ⟨g56,rfl,hg56,hq56,hb56,hfw13⟩
   replace hb56:Blk w13 g56 9 ([str t.loc]):=hb56
   refine ⟨λ_=>(M.drop 1).step hfw13,?_⟩;have M:=M.push hfw13 _ hb56 (CR hg56 hq56)
   replace M:Mem w AR (As.blk g56 9 ([str t.loc])::_) w13:=M
   have M:=M.blkOwn 0 (size:=1) (n:=1) X X (by unfold maxLen;omega);refine B7 10 (G 64) zr X kw X X (λρ hρ=>D2 _ _ _ X w.heap.size _ _ _ _ Be C2 X AV _ _ _ (hρ _ _ X) (M.own 0 X) _ _ _ _ (hρ _ _ X) (M.rdOwn 1 X) (D5 FV) (by unfold maxLen;first|omega|(simp only [Am,Al,Ay];omega)) D4 M.fr.size) ?_;rintro v64 w14 ⟨ho64,hgr64,hvb64⟩
   replace ho64:World.ownsRow w14 w.heap.size 9 1 v64 (([t.loc]++(AZ m.els t.loc)).length) (AF BH ([t.loc]++(AZ m.els t.loc))):=by rw [show (([t.loc]++(AZ m.els t.loc)).length)=1+(AZ m.els t.loc).length from by first|(simp only [Am,Al,Ay];omega)|simp only [Am,Al,Ay],show (AF BH ([t.loc]++(AZ m.els t.loc)))=(AF BH [t.loc])++(AF BH (AZ m.els t.loc)) from by first|exact AY _ _ _|simp [AF,BH]];exact ho64
   have M:=M.appOwn 0 X ho64 hgr64 hvb64;obtain ⟨A64,c64,rfl,_⟩:=DH ho64;exact ⟨λ_=>(M.drop 2),oa 11 13 X X (M.drop 2) (λ_ M=>I8 X X (sl X)) (fdn (kr14 A63 c63 A64 c64 _ _ (M.pk [1,0,2,3,4]) ⟨X,X,X,X,X,zw⟩))⟩
  have h21p:=bd h21;refine W ?_;refine AC X (λh29=>?_) (λh29=>?_)
  ·have h29p:=odt h29;refine sx_seq (CY CA zr ?_);have M:=M.drew;refine T3 ?_;refine sd X X (Blk.c ((hC.fr0 M.fr).blk) 8 X) (W ?_);refine sa X (CH X X X Gp Ad JD ((hC.fr0 M.fr).O) (hC.getO _)) (W ?_);have M:=M.nilOwn 9 1;refine flp [38,37,3,0] (λze e wr mz=>∃(j:Nat) (acc:List Kz) (A5:Ky) (c5:Nat),e=(5,.slice A5 acc.length c5)::(39,AA (j:Int))::ze∧Mem w AR [As.own w.heap.size 9 1 (.slice A5 acc.length c5) acc.length (AF BH acc),As.blk g3 75 (Tk.cells t)] wr∧(j≤(c.outs t.loc).length)∧(acc=((c.outs t.loc).take j).map (λk=>(c.flf k).tg)∧acc.length=j)∧mz=(c.outs t.loc).length-j) ⟨0,[],zx,0,X,M,Aj _,⟨X,X⟩,X⟩ ?_;rintro _ w15 _ ⟨j,acc,A5,c5,rfl,M,hj,hacc,rfl⟩;refine W ?_;refine AC X (λh40=>?_) (λh40=>?_)
   ·have h40p:=odt h40;refine W ?_;obtain ⟨k,_,_,hk,hA_k⟩:=ex5 (l:=(c.outs t.loc)) (k:=1) (i:=j) ((hC.fr0 M.fr).rdO _);refine ya X (AK j hA_k X X X (sl X) A0) (yl X X (BC DN ((hC.fr0 M.fr).rdO _) hA_k hk 0 X) (T8 ?_));refine yl X X (Blk.c ((hC.fr0 M.fr).blk) 6 X) (yb X (ya X (CH X X X Iv Ad DX ((hC.fr0 M.fr).L) (hC.getL _)) (ya X (a1p (b:=(c.flf k)) X X) (CP M kw X X [str ((c.flf k).tg)] ([str ((c.flf k).tg)]) X X X X Be CK X X (FZ X) X λg51 w16 hg51 M=>CD (len':=(acc++[(c.flf k).tg]).length) (xs':=AF BH (acc++[(c.flf k).tg])) M 1 kw X X X X X X (M.rdBlk 0 X X) Be C2 X AV (BN X) (Af _) (Af _) D4 (by unfold maxLen;first|omega|(simp only [Am,Al,Ay];omega)) (by simp) (by first|exact (AY _ _ _).symm|simp [AF,BH]) λA52 c52 w17 M=>W ?_))));refine fag ⟨j+1,acc++[(c.flf k).tg],A52,c52,X,(M.pk [1,2]),?_,?_,X⟩
    ·omega
    exact ⟨by rw [hacc.1,AT hk,Bu];rfl,by rw [Am,hacc.2];rfl⟩
   have h40p:=odf h40;refine W ?_;have hjE:j=(c.outs t.loc).length:=A0
   have hal:acc.length≤400:=by rw [hacc.2,hjE];omega
   have hac:=hacc.1;rw [hjE,Bc] at hac
   refine W ?_;refine WF (λ(A63:Ky) (c63:Nat) (A64:Ky) (c64:Nat)=>[(0,pg gc),(5,.slice A5 acc.length c5),(64,.slice A64 (([t.loc]++(AZ m.els t.loc)).length) c64),(65,AA (([t.loc]++(AZ m.els t.loc)).length:Int)),(66,AA 0)]) (λ(A63:Ky) (c63:Nat) (A64:Ky) (c64:Nat)=>λw'=>Mem w AR [As.own w.heap.size 9 1 (.slice A63 (AZ m.els t.loc).length c63) ((AZ m.els t.loc).length) (AF BH (AZ m.els t.loc)),As.own w.heap.size 9 1 (.slice A64 (([t.loc]++(AZ m.els t.loc)).length) c64) (([t.loc]++(AZ m.els t.loc)).length) (AF BH ([t.loc]++(AZ m.els t.loc))),As.own w.heap.size 9 1 (.slice A5 acc.length c5) acc.length (AF BH acc),As.blk g3 75 (Tk.cells t)] w') ?_ (λkr14=>?_)
   ·intro A63 c63 A64 c64 w18 M;refine W ?_;refine flp [65,64,0] (λze e wr mz=>∃(q:Nat) (acc2:List Kz) (A6:Ky) (c6:Nat),e=(5,.slice A6 acc2.length c6)::(66,AA (q:Int))::ze∧Mem w AR [As.own w.heap.size 9 1 (.slice A63 (AZ m.els t.loc).length c63) ((AZ m.els t.loc).length) (AF BH (AZ m.els t.loc)),As.own w.heap.size 9 1 (.slice A64 (([t.loc]++(AZ m.els t.loc)).length) c64) (([t.loc]++(AZ m.els t.loc)).length) (AF BH ([t.loc]++(AZ m.els t.loc))),As.own w.heap.size 9 1 (.slice A6 acc2.length c6) acc2.length (AF BH acc2),As.blk g3 75 (Tk.cells t)] wr∧(q≤([t.loc]++(AZ m.els t.loc)).length)∧(acc2=acc++(([t.loc]++(AZ m.els t.loc)).take q).flatMap (DF m))∧(acc2.length≤400+q*200)∧mz=([t.loc]++(AZ m.els t.loc)).length-q) ⟨0,acc,A5,c5,X,M,Aj _,by rw [Fd,Ev,Cd],A0,rfl⟩ ?_;rintro _ w19 _ ⟨q,acc2,A6,c6,rfl,M,hq,hv,hl2,rfl⟩;refine W ?_;refine AC X (λh67=>?_) (λh67=>?_)
    ·have h67p:=odt h67;refine W ?_;obtain ⟨z,hz⟩:=EJ (l:=[t.loc]++(AZ m.els t.loc)) (i:=q) A0;obtain ⟨b_z,o_z,hA_z⟩:=DR (k:=1) A0 (M.rdOwn 1 X) hz;refine ya X (AK q hA_z X X X (sl X) A0) (yl X X (BC DN (M.rdOwn 1 X) hA_z hz 0 X) (W ?_));refine ya X (AJ (xs:=[str m.id,str m.nm,.slice c.a.V m.vars.length c.a.vc,.slice c.a.E m.els.length c.a.ec,.slice c.a.F m.fls.length c.a.fc]) X X (DO ((hC.fr0 M.fr).blk) 0 5 X X) Ap X AO) (yb X (ND M 76 X (AE X X call173) (P9 m c.a z _ ho (hC.fr0 M.fr).md.md) λA76 c76 w20 M=>?_));have hL76:=M.ownLen 0 X;have hbl:=GY m z;refine CD (len':=(acc2++(DF m z)).length) (xs':=AF BH (acc2++(DF m z))) M 3 kw X X X X X X (M.rdOwn 0 X) Be C2 X AV (D5 FV) (Af _) (Af _) D4 (by unfold maxLen;first|omega|(simp only [Am,Al,Ay];omega)) (by simp) (by first|exact (AY _ _ _).symm|simp [AF,BH]) λA77 c77 w21 M=>W ?_
     refine fag ⟨q+1,acc2++(DF m z),A77,c77,X,(M.pk [1,2,3,4]),?_,?_,?_,X⟩
     ·omega
     ·rw [hv,AT hz,Ej,Cg];simp
     have hbz:=GY m z;rw [Am];omega
    have h67p:=odf h67;refine W ?_;have hqE:q=([t.loc]++(AZ m.els t.loc)).length:=A0
    rw [hqE,Bc] at hv
    refine W ?_;refine gr1 X ?_;have hvp:EE m c t=acc2:=by rw [EE,AN h12,hv,bL,AN h21,Ac h29,←hac]<;>rfl
    rw [hvp];exact ⟨_,_,X,M.own 2 X,M.fr⟩
   refine I0 M 13 CA λM=>oc 0 13 X X M (ol 1 13 X X X M (λ_ M=>(M.cell 1 X X)) (oc 3 13 X X M (oc 4 13 X X M (oc 5 13 X X M (oa 6 13 X X M (λ_ M=>AJ (xs:=[str m.id,str m.nm,.slice c.a.V m.vars.length c.a.vc,.slice c.a.E m.els.length c.a.ec,.slice c.a.F m.fls.length c.a.fc]) X X (DO ((hC.fr0 M.fr).blk) 0 5 X X) Ap X AO) (oc 7 13 X X M (ol 8 13 X X X M (λ_ M=>(M.cell 1 X X)) (oc 12 13 X X M (FM (rs:=[2,9]) zr (by simp) λiz hiz=>?_)))))))))
   simp only [Ao,Ba,or_false] at hiz
   rcases hiz with rfl|rfl
   ·refine DP (G 56) X kw X X (λρ hρ=>CX [str t.loc] _ hρ X X X X Be CK AV AV (FZ X)) ?_;rintro _ w22 ⟨g56,rfl,hg56,hq56,hb56,hfw22⟩
    replace hb56:Blk w22 g56 9 ([str t.loc]):=hb56
    refine ⟨λ_=>M.step hfw22,?_⟩;have M:=M.push hfw22 _ hb56 (CR hg56 hq56)
    replace M:Mem w AR (As.blk g56 9 ([str t.loc])::_) w22:=M
    refine BB 9 (G 63) zr X kw X X (AE X X call172) (K6 m c.a t.loc _ ho (hC.fr0 M.fr).md.md) ?_;rintro _ w23 ⟨A63,c63,rfl,how23,hfw23⟩;refine ⟨_,X,λ_=>(M.drop 1).step hfw23,?_⟩;have M:=M.pushOwn hfw23 (Af _) how23;have hL63:=M.ownLen 0 X;have M:=M.blkOwn 1 (size:=1) (n:=1) X X (by unfold maxLen;omega);refine B7 10 (G 64) zr X kw X X (λρ hρ=>D2 _ _ _ X w.heap.size _ _ _ _ Be C2 X AV _ _ _ (hρ _ _ X) (M.own 1 X) _ _ _ _ (hρ _ _ X) (M.rdOwn 0 X) (D5 FV) (by unfold maxLen;first|omega|(simp only [Am,Al,Ay];omega)) D4 M.fr.size) ?_;rintro v64 w24 ⟨ho64,hgr64,hvb64⟩
    replace ho64:World.ownsRow w24 w.heap.size 9 1 v64 (([t.loc]++(AZ m.els t.loc)).length) (AF BH ([t.loc]++(AZ m.els t.loc))):=by rw [show (([t.loc]++(AZ m.els t.loc)).length)=1+(AZ m.els t.loc).length from by first|(simp only [Am,Al,Ay];omega)|simp only [Am,Al,Ay],show (AF BH ([t.loc]++(AZ m.els t.loc)))=(AF BH [t.loc])++(AF BH (AZ m.els t.loc)) from by first|exact AY _ _ _|simp [AF,BH]];exact ho64
    have M:=M.appOwn 1 X ho64 hgr64 hvb64;obtain ⟨A64,c64,rfl,_⟩:=DH ho64;exact ⟨λ_=>(M.drop 2),oa 11 13 X X (M.drop 2) (λ_ M=>I8 X X (sl X)) (fdn (kr14 A63 c63 A64 c64 _ _ M ⟨X,X,X,X,X,zw⟩))⟩
   refine GT (G 63) X kw X X (AE X X call172) (K6 m c.a t.loc _ ho (hC.fr0 M.fr).md.md) ?_;rintro _ w25 ⟨A63,c63,rfl,how25,hfw25⟩;refine ⟨_,X,λ_=>M.step hfw25,?_⟩;have M:=M.pushOwn hfw25 (Af _) how25;have hL63:=M.ownLen 0 X;refine B7 2 (G 56) zr X kw X X (λρ hρ=>CX [str t.loc] _ hρ X X X X Be CK AV AV (FZ X)) ?_;rintro _ w26 ⟨g56,rfl,hg56,hq56,hb56,hfw26⟩
   replace hb56:Blk w26 g56 9 ([str t.loc]):=hb56
   refine ⟨λ_=>(M.drop 1).step hfw26,?_⟩;have M:=M.push hfw26 _ hb56 (CR hg56 hq56)
   replace M:Mem w AR (As.blk g56 9 ([str t.loc])::_) w26:=M
   have M:=M.blkOwn 0 (size:=1) (n:=1) X X (by unfold maxLen;omega);refine B7 10 (G 64) zr X kw X X (λρ hρ=>D2 _ _ _ X w.heap.size _ _ _ _ Be C2 X AV _ _ _ (hρ _ _ X) (M.own 0 X) _ _ _ _ (hρ _ _ X) (M.rdOwn 1 X) (D5 FV) (by unfold maxLen;first|omega|(simp only [Am,Al,Ay];omega)) D4 M.fr.size) ?_;rintro v64 w27 ⟨ho64,hgr64,hvb64⟩
   replace ho64:World.ownsRow w27 w.heap.size 9 1 v64 (([t.loc]++(AZ m.els t.loc)).length) (AF BH ([t.loc]++(AZ m.els t.loc))):=by rw [show (([t.loc]++(AZ m.els t.loc)).length)=1+(AZ m.els t.loc).length from by first|(simp only [Am,Al,Ay];omega)|simp only [Am,Al,Ay],show (AF BH ([t.loc]++(AZ m.els t.loc)))=(AF BH [t.loc])++(AF BH (AZ m.els t.loc)) from by first|exact AY _ _ _|simp [AF,BH]];exact ho64
   have M:=M.appOwn 0 X ho64 hgr64 hvb64;obtain ⟨A64,c64,rfl,_⟩:=DH ho64;exact ⟨λ_=>(M.drop 2),oa 11 13 X X (M.drop 2) (λ_ M=>I8 X X (sl X)) (fdn (kr14 A63 c63 A64 c64 _ _ (M.pk [1,0,2,3]) ⟨X,X,X,X,X,zw⟩))⟩
  have h29p:=odf h29;refine W ?_;refine WF (λ(A63:Ky) (c63:Nat) (A64:Ky) (c64:Nat)=>[(0,pg gc),(5,.slice zx 0 0),(64,.slice A64 (([t.loc]++(AZ m.els t.loc)).length) c64),(65,AA (([t.loc]++(AZ m.els t.loc)).length:Int)),(66,AA 0)]) (λ(A63:Ky) (c63:Nat) (A64:Ky) (c64:Nat)=>λw'=>Mem w AR [As.own w.heap.size 9 1 (.slice A63 (AZ m.els t.loc).length c63) ((AZ m.els t.loc).length) (AF BH (AZ m.els t.loc)),As.own w.heap.size 9 1 (.slice A64 (([t.loc]++(AZ m.els t.loc)).length) c64) (([t.loc]++(AZ m.els t.loc)).length) (AF BH ([t.loc]++(AZ m.els t.loc))),As.blk g3 75 (Tk.cells t)] w') ?_ (λkr14=>?_)
  ·intro A63 c63 A64 c64 w28 M;refine W ?_;have M:=M.nilOwn 9 1;refine flp [65,64,0] (λze e wr mz=>∃(q:Nat) (acc2:List Kz) (A6:Ky) (c6:Nat),e=(5,.slice A6 acc2.length c6)::(66,AA (q:Int))::ze∧Mem w AR [As.own w.heap.size 9 1 (.slice A6 acc2.length c6) acc2.length (AF BH acc2),As.own w.heap.size 9 1 (.slice A63 (AZ m.els t.loc).length c63) ((AZ m.els t.loc).length) (AF BH (AZ m.els t.loc)),As.own w.heap.size 9 1 (.slice A64 (([t.loc]++(AZ m.els t.loc)).length) c64) (([t.loc]++(AZ m.els t.loc)).length) (AF BH ([t.loc]++(AZ m.els t.loc))),As.blk g3 75 (Tk.cells t)] wr∧(q≤([t.loc]++(AZ m.els t.loc)).length)∧(acc2=[]++(([t.loc]++(AZ m.els t.loc)).take q).flatMap (DF m))∧(acc2.length≤400+q*200)∧mz=([t.loc]++(AZ m.els t.loc)).length-q) ⟨0,[],zx,0,X,M,Aj _,by rw [Fd,Ev,Cd],by simp only [Ay];omega,rfl⟩ ?_;rintro _ w29 _ ⟨q,acc2,A6,c6,rfl,M,hq,hv,hl2,rfl⟩;refine W ?_;refine AC X (λh67=>?_) (λh67=>?_)
   ·have h67p:=odt h67;refine W ?_;obtain ⟨z,_,_,hz,hA_z⟩:=ex5 (l:=[t.loc]++(AZ m.els t.loc)) (k:=1) (i:=q) (M.rdOwn 2 X);refine ya X (AK q hA_z X X X (sl X) A0) (yl X X (BC DN (M.rdOwn 2 X) hA_z hz 0 X) (W ?_));refine ya X (AJ (xs:=[str m.id,str m.nm,.slice c.a.V m.vars.length c.a.vc,.slice c.a.E m.els.length c.a.ec,.slice c.a.F m.fls.length c.a.fc]) X X (DO ((hC.fr0 M.fr).blk) 0 5 X X) Ap X AO) (yb X (ND M 76 X (AE X X call173) (P9 m c.a z _ ho (hC.fr0 M.fr).md.md) λA76 c76 w30 M=>?_));have hL76:=M.ownLen 0 X;have hbl:=GY m z;refine CD (len':=(acc2++(DF m z)).length) (xs':=AF BH (acc2++(DF m z))) M 1 kw X X X X X X (M.rdOwn 0 X) Be C2 X AV (D5 FV) (Af _) (Af _) D4 (by unfold maxLen;first|omega|(simp only [Am,Al,Ay];omega)) (by simp) (by first|exact (AY _ _ _).symm|simp [AF,BH]) λA77 c77 w31 M=>W ?_
    refine fag ⟨q+1,acc2++(DF m z),A77,c77,X,(M.pk [1,2,3,4]),?_,?_,?_,X⟩
    ·omega
    ·rw [hv,AT hz,Ej,Cg];simp
    have hbz:=GY m z;rw [Am];omega
   have h67p:=odf h67;refine W ?_;have hqE:q=([t.loc]++(AZ m.els t.loc)).length:=A0
   rw [hqE,Bc] at hv
   refine W ?_;refine gr1 X ?_;have hvp:EE m c t=acc2:=by rw [EE,AN h12,hv,bL,AN h21,AN h29]<;>rfl
   rw [hvp];exact ⟨_,_,X,M.own 0 X,M.fr⟩
  refine I0 M 13 CA λM=>oc 0 13 X X M (ol 1 13 X X X M (λ_ M=>(M.cell 0 X X)) (oc 3 13 X X M (oc 4 13 X X M (oc 5 13 X X M (oa 6 13 X X M (λ_ M=>AJ (xs:=[str m.id,str m.nm,.slice c.a.V m.vars.length c.a.vc,.slice c.a.E m.els.length c.a.ec,.slice c.a.F m.fls.length c.a.fc]) X X (DO ((hC.fr0 M.fr).blk) 0 5 X X) Ap X AO) (oc 7 13 X X M (ol 8 13 X X X M (λ_ M=>(M.cell 0 X X)) (oc 12 13 X X M (FM (rs:=[2,9]) zr (by simp) λiz hiz=>?_)))))))))
  simp only [Ao,Ba,or_false] at hiz
  rcases hiz with rfl|rfl
  ·refine DP (G 56) X kw X X (λρ hρ=>CX [str t.loc] _ hρ X X X X Be CK AV AV (FZ X)) ?_;rintro _ w32 ⟨g56,rfl,hg56,hq56,hb56,hfw32⟩
   replace hb56:Blk w32 g56 9 ([str t.loc]):=hb56
   refine ⟨λ_=>M.step hfw32,?_⟩;have M:=M.push hfw32 _ hb56 (CR hg56 hq56)
   replace M:Mem w AR (As.blk g56 9 ([str t.loc])::_) w32:=M
   refine BB 9 (G 63) zr X kw X X (AE X X call172) (K6 m c.a t.loc _ ho (hC.fr0 M.fr).md.md) ?_;rintro _ w33 ⟨A63,c63,rfl,how33,hfw33⟩;refine ⟨_,X,λ_=>(M.drop 1).step hfw33,?_⟩;have M:=M.pushOwn hfw33 (Af _) how33;have hL63:=M.ownLen 0 X;have M:=M.blkOwn 1 (size:=1) (n:=1) X X (by unfold maxLen;omega);refine B7 10 (G 64) zr X kw X X (λρ hρ=>D2 _ _ _ X w.heap.size _ _ _ _ Be C2 X AV _ _ _ (hρ _ _ X) (M.own 1 X) _ _ _ _ (hρ _ _ X) (M.rdOwn 0 X) (D5 FV) (by unfold maxLen;first|omega|(simp only [Am,Al,Ay];omega)) D4 M.fr.size) ?_;rintro v64 w34 ⟨ho64,hgr64,hvb64⟩
   replace ho64:World.ownsRow w34 w.heap.size 9 1 v64 (([t.loc]++(AZ m.els t.loc)).length) (AF BH ([t.loc]++(AZ m.els t.loc))):=by rw [show (([t.loc]++(AZ m.els t.loc)).length)=1+(AZ m.els t.loc).length from by first|(simp only [Am,Al,Ay];omega)|simp only [Am,Al,Ay],show (AF BH ([t.loc]++(AZ m.els t.loc)))=(AF BH [t.loc])++(AF BH (AZ m.els t.loc)) from by first|exact AY _ _ _|simp [AF,BH]];exact ho64
   have M:=M.appOwn 1 X ho64 hgr64 hvb64;obtain ⟨A64,c64,rfl,_⟩:=DH ho64;exact ⟨λ_=>(M.drop 2),oa 11 13 X X (M.drop 2) (λ_ M=>I8 X X (sl X)) (fdn (kr14 A63 c63 A64 c64 _ _ M ⟨X,X,X,X,X,zw⟩))⟩
  refine GT (G 63) X kw X X (AE X X call172) (K6 m c.a t.loc _ ho (hC.fr0 M.fr).md.md) ?_;rintro _ w35 ⟨A63,c63,rfl,how35,hfw35⟩;refine ⟨_,X,λ_=>M.step hfw35,?_⟩;have M:=M.pushOwn hfw35 (Af _) how35;have hL63:=M.ownLen 0 X;refine B7 2 (G 56) zr X kw X X (λρ hρ=>CX [str t.loc] _ hρ X X X X Be CK AV AV (FZ X)) ?_;rintro _ w36 ⟨g56,rfl,hg56,hq56,hb56,hfw36⟩
  replace hb56:Blk w36 g56 9 ([str t.loc]):=hb56
  refine ⟨λ_=>(M.drop 1).step hfw36,?_⟩;have M:=M.push hfw36 _ hb56 (CR hg56 hq56)
  replace M:Mem w AR (As.blk g56 9 ([str t.loc])::_) w36:=M
  have M:=M.blkOwn 0 (size:=1) (n:=1) X X (by unfold maxLen;omega);refine B7 10 (G 64) zr X kw X X (λρ hρ=>D2 _ _ _ X w.heap.size _ _ _ _ Be C2 X AV _ _ _ (hρ _ _ X) (M.own 0 X) _ _ _ _ (hρ _ _ X) (M.rdOwn 1 X) (D5 FV) (by unfold maxLen;first|omega|(simp only [Am,Al,Ay];omega)) D4 M.fr.size) ?_;rintro v64 w37 ⟨ho64,hgr64,hvb64⟩
  replace ho64:World.ownsRow w37 w.heap.size 9 1 v64 (([t.loc]++(AZ m.els t.loc)).length) (AF BH ([t.loc]++(AZ m.els t.loc))):=by rw [show (([t.loc]++(AZ m.els t.loc)).length)=1+(AZ m.els t.loc).length from by first|(simp only [Am,Al,Ay];omega)|simp only [Am,Al,Ay],show (AF BH ([t.loc]++(AZ m.els t.loc)))=(AF BH [t.loc])++(AF BH (AZ m.els t.loc)) from by first|exact AY _ _ _|simp [AF,BH]];exact ho64
  have M:=M.appOwn 0 X ho64 hgr64 hvb64;obtain ⟨A64,c64,rfl,_⟩:=DH ho64;exact ⟨λ_=>(M.drop 2),oa 11 13 X X (M.drop 2) (λ_ M=>I8 X X (sl X)) (fdn (kr14 A63 c63 A64 c64 _ _ (M.pk [1,0,2]) ⟨X,X,X,X,X,zw⟩))⟩
 refine AC X (λh21=>?_) (λh21=>?_)
 ·exact sx_skip (k21 _ _ M ⟨X,X,X,X,(by rw [h21];rfl),zw⟩)
 refine T4 ?_;exact k21 _ _ M ⟨X,X,X,X,(by rw [h21];rfl),zw⟩
section
theorem gH {m:Md} (l:List Kz):(l.flatMap (DF m)).length≤l.length*m.els.length:=by
 induction l with
 | nil=>simp
 | cons a r ih=>
  have:=GY m a
  rw [Fv,Am,Al,Jg];omega
theorem YY {m:Md} {w:Kw} {gc:Nat} {c:CrA} {F:List Nat} (ho:MdOk m) (hC:CourseN w m gc c F) (t:Tk):(EE m c t).length≤20000:=by
 have h1:(bL c t).length≤400:=by
  have:=hC.lenO t.loc
  have:=ho.nfls
  unfold bL
  repeat' split
  all_goals first
   | (rw [Br];omega)
   | simp
 have h2:=gH (m:=m) ([t.loc]++AZ m.els t.loc);have h3:=PD m.els t.loc;have h4:([t.loc]++AZ m.els t.loc).length≤65:=by rw [Am,Al,Ay];omega
 have h5:=Nat.mul_le_mul h4 ho.nels;unfold EE
 split
 ·simp
 rw [Am];omega
def W1 (c:CrA) (t:Tk) (vars:List Bd):List Kz→Option Int
 | []=>zx
 | k::r=>if (!decide ((HA c k t.born vars).2=(0:Int)))=zz then G (HA c k t.born vars).2 else W1 c t vars r
def DE (m:Md) (c:CrA) (t:Tk) (vars:List Bd):List Wt × Int:=
 if (!(HQ m c t))=zz then ([],1)
 else match W1 c t vars (EE m c t) with
  | some e=>([],e)
  | none=>((EE m c t).map (λk=>(HA c k t.born vars).1),0)
theorem IM : (zv.info? 80).map (λi=>(i.zero,i.size,i.bytes))=G (G (.agg #[str [],.int .u8 0,str [],str [],AA 0]),5,64):=zr
theorem JP : (zv.info? 80).map (λi=>(i.zero,i.size))=G (G (.agg #[str [],.int .u8 0,str [],str [],AA 0]),5):=zr
theorem qS (m:Md) (gc:Nat) (c:CrA) (F:List Nat) (t:Tk) (V:Ky) (cv:Nat) (vars:List Bd) (w:Kw) (ho:MdOk m) (hC:CourseN w m gc c F) (hvl:vars.length≤4611686018427387904) (hV:Rd w V (vars.length*5) (AF Bd.cells vars)) :
 zt zv 56 #[pg gc,.slice V vars.length cv,.agg t.cells.toArray] w λe w'=>∃A c',e=.returned (.tuple #[.slice A (DE m c t vars).1.length c',AA (DE m c t vars).2])∧w'.ownsRow w.heap.size 80 5 (.slice A (DE m c t vars).1.length c') (DE m c t vars).1.length (AF Wt.cells (DE m c t vars).1)∧Fr0 w w':=by
 have hvL:=YY ho hC t;refine BO func56 ntmps56 X λM=>W ?_
 refine CU M X X λg5 w1 hg5 M=>W ?_
 refine ya X (N4 X X X (pt X)) (W ?_);refine CF M 0 X X Bw BE X (CQ M 17 X X call109 (X1 m gc c F t _ ho (hC.fr0 M.fr)) λw2 M=>W ?_);refine AC X (λh18=>?_) (λh18=>?_)
 ·refine W ?_;refine B1 X X X ?_;have hwp:DE m c t vars=([],1):=Ac h18;rw [hwp];exact ⟨zx,0,X,World.ownsRow_nil _ _ _ _,M.fr⟩
 have h18p:=BL h18;refine W ?_;refine CF M 0 X X Bw BE X (ND M 21 X (AE X X call110) (xR m gc c F t _ ho (hC.fr0 M.fr)) λA21 c21 w3 M=>?_);have hL21:=M.ownLen 0 X;refine W ?_;have M:=M.nilOwn 80 5;refine flp [22,21,5,1,0] (λze e wr mz=>∃(i:Nat) (acc:List Wt) (A8:Ky) (c8:Nat),e=(8,.slice A8 acc.length c8)::(23,AA (i:Int))::ze∧Mem w AR [As.own w.heap.size 80 5 (.slice A8 acc.length c8) acc.length (AF Wt.cells acc),As.own w.heap.size 9 1 (.slice A21 (EE m c t).length c21) ((EE m c t).length) (AF BH (EE m c t)),As.blk g5 75 (Tk.cells t)] wr∧(i≤(EE m c t).length)∧(acc=((EE m c t).take i).map (λk=>(HA c k t.born vars).1)∧acc.length=i)∧(W1 c t vars (EE m c t)=W1 c t vars ((EE m c t).drop i))∧mz=(EE m c t).length-i) ⟨0,[],zx,0,X,M,Aj _,⟨X,X⟩,X,X⟩ ?_;rintro _ w4 _ ⟨i,acc,A8,c8,rfl,M,hi,hacc,hE,rfl⟩;refine W ?_;refine AC X (λh24=>?_) (λh24=>?_)
 ·have h24p:=odt h24;refine W ?_;obtain ⟨k,_,_,hk,hA_k⟩:=ex5 (l:=(EE m c t)) (k:=1) (i:=i) (M.rdOwn 1 X);refine ya X (AK i hA_k X X X (sl X) A0) (yl X X (BC DN (M.rdOwn 1 X) hA_k hk 0 X) (W ?_));refine CQ M 33 X X call111 (xQ m gc c F k t.born V cv vars _ (hC.fr0 M.fr) hvl (hV.fr0 M.fr)) λw5 M=>W ?_
  refine CE M X KF λg11 w6 hg11 M=>BX M 0 X X CB X λw7 M=>W ?_
  refine AC X (λh37=>?_) (λh37=>?_)
  ·refine W ?_;refine B1 X X X ?_;have hwp:DE m c t vars=([],(HA c k t.born vars).2):=by rw [DE,AN h18,hE,AH hk,W1,Ac h37]
   rw [hwp];exact ⟨zx,0,X,World.ownsRow_nil _ _ _ _,M.fr⟩
  have h37p:=(odt (BL h37));refine W ?_;refine CF M 0 X X Dj CB X (CP M kw X X [.agg (Wt.cells ((HA c k t.born vars).1)).toArray] (Wt.cells ((HA c k t.born vars).1)) X X X X Ep JP X X (FZ X) X λg41 w8 hg41 M=>CD (len':=(acc++[((HA c k t.born vars).1)]).length) (xs':=AF Wt.cells (acc++[((HA c k t.born vars).1)])) M 2 kw X X X X X X (M.rdBlk 0 X X) Ep IM X AV (BN X) (Af _) (Af _) D4 (by unfold maxLen;first|omega|(simp only [Am,Al,Ay];omega)) (by simp) (by first|exact (AY _ _ _).symm|simp [AF]) λA42 c42 w9 M=>W ?_);refine fag ⟨i+1,acc++[((HA c k t.born vars).1)],A42,c42,X,(M.pk [2,3,4]),?_,?_,?_,X⟩
  ·omega
  ·exact ⟨by rw [hacc.1,AT hk,Bu];rfl,by rw [Am,hacc.2];rfl⟩
  rw [hE,AH hk,W1,AN h37]
 have h24p:=odf h24;refine W ?_;have hiE:i=(EE m c t).length:=A0
 have hac:=hacc.1;rw [hiE,Bc] at hac
 have hLe:W1 c t vars (EE m c t)=zx:=by rw [hE,hiE,Aq];rfl
 refine W ?_;refine B1 X X X ?_;have hwp:DE m c t vars=(acc,0):=by rw [DE,AN h18,hLe,hac]
 rw [hwp];exact ⟨_,_,X,M.own 0 X,M.fr⟩
def OR (t:Tk) (k:Int):Bool:=(((O ((0:Int)≤t.born))&&(O (t.born≤k)))&&(((O (t.worker=[]))&&(O (t.until_=(0:Int)))) || (((B5 t.worker)&&(O ((0:Int)≤t.until_)))&&(O (t.until_≤(k+(1048576:Int)))))))
theorem dN (gc:Nat) (t:Tk) (k:Int) (w:Kw) (hw:(t.worker.length:Int)<4611686018427387904) (hk:0≤k∧k≤1099511627776) :
 zt zv 166 #[pg gc,.agg t.cells.toArray,AA k] w (BR w (.bool (OR t k))):=by
 refine BO func166 ntmps166 X λM=>W ?_
 refine CU M X X λg4 w1 hg4 M=>W ?_
 refine fvm M 4 [4,2] [(15,.bool ((O (t.worker=[]))&&(O (t.until_=(0:Int)))))] ?_ (λk11=>?_)
 ·intro w2 M;refine yb X (fvm M 16 [4,2] [(32,.bool (((O (t.worker=[]))&&(O (t.until_=(0:Int)))) || (((B5 t.worker)&&(O ((0:Int)≤t.until_)))&&(O (t.until_≤(k+(1048576:Int)))))))] ?_ (λk16=>?_))
  ·intro w3 M;refine W ?_;refine fvm M 5 [7] [(41,.bool ((O ((0:Int)≤t.born))&&(O (t.born≤k))))] ?_ (λk36=>?_)
   ·intro w4 M;refine yb X (fvm M 2 [] [(44,.bool (((O ((0:Int)≤t.born))&&(O (t.born≤k)))&&(((O (t.worker=[]))&&(O (t.until_=(0:Int)))) || (((B5 t.worker)&&(O ((0:Int)≤t.until_)))&&(O (t.until_≤(k+(1048576:Int))))))))] ?_ (λk42=>?_))
    ·intro w5 M;refine W ?_;exact gr1 X ⟨by rw [OR],M.fr⟩
    refine A1 (d:=42) X (λh42=>?_) (λh42=>?_)
    ·refine T2 ?_;exact k42 M
    refine T2 ?_;exact k42 M
   refine A1 (d:=36) X (λh36=>?_) (λh36=>?_)
   ·refine T5 ?_;exact k36 M
   refine T5 ?_;exact k36 M
  refine A1 (d:=16) X (λh16=>?_) (λh16=>?_)
  ·refine T16 ?_;exact k16 M
  refine W ?_;refine sxl_call (G 19) kw X X (AE X X call37) (E8 _ _ (by first|assumption|omega)) ?_;rintro _ w6 ⟨rfl,hfw6⟩;refine cq ?_;have M:=M.step hfw6;refine gyq X (fvm M 4 [16,4,2] [(24,.bool ((B5 t.worker)&&(O ((0:Int)≤t.until_))))] ?_ (λk20=>?_))
  ·intro w7 M;refine gyq X (fvm M 6 [16,4,2] [(31,.bool (((B5 t.worker)&&(O ((0:Int)≤t.until_)))&&(O (t.until_≤(k+(1048576:Int))))))] ?_ (λk25=>?_))
   ·intro w8 M;exact yb X (k16 M)
   refine A1 (d:=25) X (λh25=>?_) (λh25=>?_)
   ·refine T6 ?_;exact k25 M
   refine T6 ?_;exact k25 M
  refine A1 (d:=20) X (λh20=>?_) (λh20=>?_)
  ·refine T4 ?_;exact k20 M
  refine T4 ?_;exact k20 M
 refine A1 (d:=11) X (λh11=>?_) (λh11=>?_)
 ·refine T4 ?_;exact k11 M
 refine T4 ?_;exact k11 M
def W3 (a b:Bd):Bool:=(((O (a.name=b.name))&&(O ((a.v.kind.toNat:Int)=(b.v.kind.toNat:Int))))&&(O ((chk a.v)=(0:Int))))
theorem qV (a b:Bd) (w:Kw) (hb:(a.v.text.length:Int)<4611686018427387904) (hY:Lay0 w) :
 zt zv 205 #[.agg a.cells.toArray,.agg b.cells.toArray] w (BR w (.bool (W3 a b))):=by
 refine BO func205 ntmps205 X λM=>W ?_
 refine CU M X X λg2 w1 hg2 M=>CU M X X λg3 w2 hg3 M=>W ?_
 refine fvm M 8 [4,2] [(18,.bool ((O (a.name=b.name))&&(O ((a.v.kind.toNat:Int)=(b.v.kind.toNat:Int)))))] ?_ (λk10=>?_)
 ·intro w3 M;refine yb X (fvm M 5 [4] [(24,.bool (((O (a.name=b.name))&&(O ((a.v.kind.toNat:Int)=(b.v.kind.toNat:Int))))&&(O ((chk a.v)=(0:Int)))))] ?_ (λk19=>?_))
  ·intro w4 M;refine W ?_;exact gr1 X ⟨by rw [W3],M.fr⟩
  refine A1 (d:=19) X (λh19=>?_) (λh19=>?_)
  ·refine gyq X (yd X (AJ (xs:=[.int .u8 (a.v.kind.toNat:Int),AA a.v.int,.bool a.v.bool,str a.v.text]) X X (DO (M.blk 1 X) 1 4 X X) By X BM) (sxl_call (G 22) kw X X (AE X X call38) (J1 a.v _ hb (hY.fr0 M.fr).utf) ?_));rintro _ w5 ⟨rfl,hfw5⟩;refine cq ?_;have M:=M.step hfw5;refine T2 ?_;exact k19 M
  refine T5 ?_;exact k19 M
 refine A1 (d:=10) X (λh10=>?_) (λh10=>?_)
 ·refine T8 ?_;exact k10 M
 refine T8 ?_;exact k10 M
def J0 : List Bd→List Bd→Bool
 | [],[]=>zz
 | a::r,b::s=>W3 a b&&J0 r s
 | _,_=>zy
theorem TA : ∀{l k:List Bd},l.length≠k.length→J0 l k=zy
 | [],[],h=>absurd rfl h
 | [],_::_,_=>rfl
 | _::_,[],_=>rfl
 | a::r,b::s,h=>by
  rw [J0,TA (l:=r) (k:=s) (λhh=>h (by simp [hh])),En]
theorem a0G (l1 l2:List Bd) (A B:Ky) (c d:Nat) (w:Kw) (hok:BdOk l1) (hA:Rd w A (l1.length*5) (AF Bd.cells l1)) (hB:Rd w B (l2.length*5) (AF Bd.cells l2)) (hY:Lay0 w) :
 zt zv 204 #[.slice A l1.length c,.slice B l2.length d,.func (.func 205) #[] #[]] w (BR w (.bool (J0 l1 l2))):=by
 have hl:=hok.len;refine BO func204 ntmps204 X λM=>W ?_
 refine AC X (λh14=>?_) (λh14=>?_)
 ·have h14p:=(odf (CJ h14));refine W ?_;exact gr1 X ⟨by rw [TA A0],M.fr⟩
 have h14p:=(odt (BL h14));refine W ?_;refine EC M [16,15,2,1] (λze zF e wr mz=>∃(i:Nat),e=(17,AA (i:Int))::ze∧zF wr∧(i≤l1.length)∧(J0 l1 l2=J0 (l1.drop i) (l2.drop i))∧mz=l1.length-i) ⟨0,X,M,Aj _,X,X⟩ ?_;rintro _ w1 _ ⟨i,rfl,M,hi,hE,rfl⟩;refine W ?_;refine AC X (λh18=>?_) (λh18=>?_)
 ·have h18p:=odt h18;refine W ?_;obtain ⟨x,_,_,hx,hA_x⟩:=ex5 (i:=i) (hA.fr0 M.fr);refine ya X (AK i hA_x X X X (sl X) A0) (ya X (AJ X X (BF Bd.len (hA.fr0 M.fr) hA_x hx) Dt X EW) (CE M X UA λg8 w2 hg8 M=>yb X (BX M 0 X X EW X λw3 M=>W ?_)));obtain ⟨y,_,_,hy,hA_y⟩:=ex5 (i:=i) (hB.fr0 M.fr);refine ya X (AK i hA_y X X X (sl X) A0) (ya X (AJ X X (BF Bd.len (hB.fr0 M.fr) hA_y hy) Dt X EW) (CE M X UA λg9 w4 hg9 M=>BX M 0 X X EW X λw5 M=>W ?_));refine CF M 1 X X Dt EW X (CF M 0 X X Dt EW X (YP M 29 X (C7 X X X call205) (qV x y _ (hok.text x (Ah hx)) (hY.fr0 M.fr)) λw6 M=>W ?_));refine AC X (λh30=>?_) (λh30=>?_)
  ·refine W ?_;exact gr1 X ⟨by rw [hE,AH hx,AH hy,J0,CJ h30];rfl,M.fr⟩
  have h30p:=BL h30;refine W ?_;refine fag ⟨i+1,X,(M.pick [] AV),?_,?_,X⟩
  ·omega
  rw [hE,AH hx,AH hy,J0,BL h30];rfl
 have h18p:=odf h18;refine W ?_;refine gr1 X ?_;obtain rfl:i=l1.length:=A0
 exact ⟨by rw [hE,Aq,Ey A0];rfl,M.fr⟩
theorem xT (m:Md) (gc:Nat) (c:CrA) (F:List Nat) (l:List Bd) (A:Ky) (cap:Nat) (w:Kw) (hC:CourseN w m gc c F) (hok:BdOk l) (hA:Rd w A (l.length*5) (AF Bd.cells l)) (hY:Lay0 w) :
 zt zv 165 #[pg gc,.slice A l.length cap] w (BR w (.bool (J0 l m.vars))):=by
 refine BO func165 ntmps165 X λM=>T12 ?_
 refine yl X X (Blk.c ((hC.fr0 M.fr).blk) 2 X) (CQ M 11 X X call204 (a0G l m.vars A c.a.V cap c.a.vc _ hok (hA.fr0 M.fr) ((hC.fr0 M.fr).md.md.vars) (hY.fr0 M.fr)) λw1 M=>W ?_);exact gr1 X ⟨X,M.fr⟩
section
section
variable {P:Lw} {e:Env} {w:Kw} {o:Oper} {ρ:Lz→Kv}
theorem qJ {t len cap sz el:Nat} {A:Ky} (k:Nat) {x i:Lz} (ho:o.op=.slice t x zx (G i) zx) (hx:ev e x=G (.slice A len cap)) (hi:ev e i=G (AA (k:Int))) (ht:F3 P t=G (el,sz)) (h:k≤cap):Y P e o w (.slice A k cap):=by
 have:=mY (w:=w) ho hx hi ht A0
 rwa [Fb] at this
end
end
theorem Tk.cells_one (t:Tk):∀u∈t.cells,u.oneCell'=zz:=BN rfl
theorem XG : (zv.info? 75).map (λi=>(i.zero,i.size,i.bytes))=G (G (.agg #[AA 0,str [],str [],AA 0,AA 0,str [],AA 0,.int .u8 0,AA 0]),9,96):=zr
section
section
variable {P:Lw} {Q:Exit→Act→Kw→Prop} {n:Nat} {e:Env} {w w0:Kw} {S:Nat→Prop} {L:List As} {ops:Array Oper} {o:Oper} {rest:List Oper}
end
end
section
section
variable {w0 w w':Kw} {S:Nat→Prop} {Ls:List As} {gc vn vc gx:Nat} {V:Ky} {F F':List Nat}
end
end
section
section
variable {P:Lw} {Q:Exit→Act→Kw→Prop} {n:Nat} {e:Env} {w w0:Kw} {S:Nat→Prop} {L:List As} {ops:Array Oper} {o:Oper} {rest:List Oper}
end
def As.crs (m:Md) (p:Ky) (er:Int) (c:CrA) (F:List Nat):As:=⟨F,λw=>er=0→∃gc,p=G ⟨gc,0,Option.none⟩∧CourseN w m gc c F,λh hb he=>by
 obtain ⟨gc,h1,h2⟩:=hb he;exact ⟨gc,h1,h2.keep h⟩⟩
end
end
section
section
section
variable {P:Lw} {e:Env} {w:Kw} {o:Oper} {t t':Nat} {a b:Int} {x y:Lz}
end
end
open Tryz
theorem a0s : (zv.info? 3).map (λi=>(i.zero,i.size))=G (G (AA 0),1):=zr
section
section
variable {P:Lw} {Q:Exit→Act→Kw→Prop} {n:Nat} {e:Env} {w w0:Kw} {S:Nat→Prop} {L:List As} {ops:Array Oper} {o:Oper} {rest:List Oper}
end
end
open Go.RowKit Go.Sort
section
section
variable {w:Kw} {m:Md} {gc:Nat} {c:CrA} {F:List Nat} (h:CourseN w m gc c F) (q:Kz)
include h
end
theorem XF : (zv.info? 3).map (λi=>(i.zero,i.size,i.bytes))=G (G (AA 0),1,8):=zr
end
section
section
variable {P:Lw} {Q:Exit→Act→Kw→Prop} {n:Nat} {e:Env} {w:Kw}
end
end
section
theorem O4 {α:Type} {p:Nat→α→Bool}:∀{l:List α} {i:Nat},ffN p i l=zx→∀j x,l[j]?=G x→p (i+j) x=zz
 | [],_,_,_,_,h=>by simp at h
 | x::r,i,hn,j,y,hj=>by
  unfold ffN at hn
  by_cases h:p i x=zz
  ·rw [Ac h] at hn
   cases j with
   | zero=>simp at hj;subst hj;exact h
   | succ j=>rw [show i+(j+1)=i+1+j by omega];exact O4 hn j y (by simpa using hj)
  rw [Ae h] at hn;simp at hn
theorem X6 {α β:Type} {o:Option α} {f:α→β} (h:o.map f=zx):o=zx:=by cases o<;>simp at h ⊢
theorem VO {p:El→Bool} {l:List El} (h:ffE p l=zx):∀x∈l,p x=zz:=λx hx=>by
 obtain ⟨j,hj⟩:=Cf hx;exact O4 (X6 h) j x hj
theorem mQ {p:Fl→Bool} {l:List Fl} (h:ffF p l=zx):∀x∈l,p x=zz:=λx hx=>by
 obtain ⟨j,hj⟩:=Cf hx;exact O4 (X6 h) j x hj
theorem iE : ∀{l:List (Option Kz)} {i:Nat},(IN i l).2.2=0→∀b∈l,b=zx
 | [],_,_,b,hb=>by cases hb
 | some k::r,i,h,_,_=>by simp [IN] at h
 | none::r,i,h,b,hb=>by
  rcases Ao.1 hb with rfl|hb
  ·rfl
  exact iE (i:=i+1) h b hb
theorem QR {α:Type} {f:α→Kz}:∀{l:List α},(∀i x,l[i]?=G x→f x∉(l.take i).map f)→(l.map f).Nodup:=λ{l} h=>by
 rw [List.nodup_iff_pairwise_ne,Fi];intro i j hi hj hij he;simp only [Br] at hi hj
 simp only [Ih] at he
 refine h j l[j] (Av hj) (Cq.2 ⟨l[i],?_,he⟩);rw [List.mem_take_iff_getElem];exact ⟨i,A0,rfl⟩
structure Rl (m:Md):Prop where
 two:∀x∈m.els,W6 m x=zz
 three:∀x∈m.fls,LL m x=zz
 four:∀x∈m.els,JA m x=zz
 five:∀s∈[]::GS m.els,OI m s=zz
 six1:∀x∈m.els,KK m x=zz
 six2:∀x∈m.fls,N8 m x=zz
 eight:∀x∈m.els,MZ m x=zz
 els:(m.els.map (·.id)).Nodup
 fls:(m.fls.map (·.id)).Nodup
 vars:(m.vars.map (·.name)).Nodup
 elN:∀x∈m.els,B5 x.id=zz
 flN:∀x∈m.fls,B5 x.id=zz
 lens:m.els.length≤64∧m.fls.length≤128∧m.vars.length≤16
 vok:∀x∈m.vars,chk x.v=0
theorem P3 {k:Kz} {s:List Kz} (h:GI k s=zz):B5 k=zz∧k∉s:=by
 unfold GI at h
 simpa using h
theorem bB {α:Type} {f:α→Kz} {base:List Kz} {l:List α} {i:Nat} {k:Kz} (h:k∉G0 f base l i):k∉(l.take i).map f:=λhh=>h (by unfold G0;rw [Bp,List.mem_reverse];exact .inl hh)
theorem m1 {m:Md} (h0:(LR m).2.2=0):Rl m:=by
 have hb:=iE (i:=0) h0;have h1:FN m=zx:=hb _ (by simp [SQ]);have h2:ffE (W6 m) m.els=zx:=hb _ (by simp [SQ]);have h3:ffF (LL m) m.fls=zx:=hb _ (by simp [SQ]);have h4:ffE (JA m) m.els=zx:=hb _ (by simp [SQ]);have h5:ZX m=zx:=hb _ (by simp [SQ]);have h6:YN m=zx:=hb _ (by simp [SQ]);have h8:ffE (MZ m) m.els=zx:=hb _ (by simp [SQ]);unfold FN at h1
 cases hob:QP m with
 | true=>rw [hob,Ac rfl] at h1;cases h1
 | false=>
  rw [hob,Ae AV] at h1
  have hv:ffN (pV m) 0 m.vars=zx:=by
   cases hv:ffN (pV m) 0 m.vars with
   | none=>rfl
   | some b=>rw [hv] at h1;simp at h1
  rw [hv] at h1
  have he:ffN (pE m) 0 m.els=zx:=by
   cases he:ffN (pE m) 0 m.els with
   | none=>rfl
   | some b=>rw [he] at h1;simp at h1
  rw [he] at h1
  have hf:ffN (pF m) 0 m.fls=zx:=X6 h1
  have six:ffE (KK m) m.els=zx∧ffF (N8 m) m.fls=zx:=by
   unfold YN at h6
   cases hq:ffE (KK m) m.els with
   | none=>rw [hq] at h6;exact ⟨rfl,h6⟩
   | some b=>rw [hq] at h6;simp at h6
  have kv:∀i x,m.vars[i]?=G x→GI x.name (G0 (λx=>x.name) [] m.vars i)=zz∧chk x.v=0:=λi x hx=>by
   have:=O4 hv i x hx
   unfold pV at this
   rw [Cr] at this
   simp only [Bn,decide_eq_true_eq] at this
   exact this
  have ke:∀i x,m.els[i]?=G x→GI x.id (G0 (λx=>x.id) [m.id] m.els i)=zz:=λi x hx=>by
   have:=O4 he i x hx
   unfold pE at this
   rw [Cr] at this
   simp only [Bn] at this
   exact this.1
  have kf:∀i x,m.fls[i]?=G x→GI x.id (G0 (λx=>x.id) (G0 (λx=>x.id) [m.id] m.els m.els.length) m.fls i)=zz:=λi x hx=>by
   have:=O4 hf i x hx
   unfold pF at this
   rwa [Cr] at this
  unfold QP at hob
  simp only [Bool.or_eq_false_iff,decide_eq_false_iff_not] at hob
  have hfive:∀s∈[]::GS m.els,OI m s=zz:=λs hs=>by
   obtain ⟨j,hj⟩:=Cf hs;exact O4 (p:=λ_=>OI m) h5 j s hj
  exact { two:=VO h2,three:=mQ h3,four:=VO h4,six1:=VO six.1,six2:=mQ six.2,eight:=VO h8,five:=hfive,els:=QR λi x hx=>bB (P3 (ke i x hx)).2,fls:=QR λi x hx=>bB (P3 (kf i x hx)).2,vars:=QR λi x hx=>bB (P3 (kv i x hx).1).2,elN:=λx hx=>(Cf hx).elim λj hj=>(P3 (ke j x hj)).1,flN:=λx hx=>(Cf hx).elim λj hj=>(P3 (kf j x hj)).1,lens:=⟨A0,A0,A0⟩,vok:=λx hx=>(Cf hx).elim λj hj=>(kv j x hj).2 }
theorem sT {m:Md} (h:HC m=zz):Rl m:=m1 (by
 unfold HC at h
 simp only [Bn,Gk,decide_eq_true_eq] at h
 exact h.1)
theorem XT {l:List El} {k:Kz} {x:El} (h:AG l k=G x):x∈l∧x.id=k:=by
 induction l with
 | nil=>simp [AG] at h
 | cons y r ih=>
  unfold AG at h
  by_cases hk:y.id=k
  ·rw [Ac hk] at h;obtain rfl:y=x:=by simpa using h
   exact ⟨Bi ..,hk⟩
  rw [Ae hk] at h;exact ⟨Ax _ (ih h).1,(ih h).2⟩
theorem wK {l:List El} (hn:(l.map (·.id)).Nodup) {x:El} (hx:x∈l):AG l x.id=G x:=by
 induction l with
 | nil=>cases hx
 | cons y r ih=>
  rw [Cc,Gg] at hn
  unfold AG;rcases Ao.1 hx with rfl|hx
  ·rw [Ac rfl]
  rw [Ae (λhh=>hn.1 (Cq.2 ⟨x,hx,hh.symm⟩))];exact ih hn.2 hx
theorem IS {α β:Type} {f:α→Kz} {v:α→β} {z:β} (l:List α) (k:Kz) :
 (∀x∈l,f x=k→(l.map f).Nodup→(l.foldl (λg x=>λk'=>if k'=f x then v x else g k') (λ_=>z)) k=v x)∧((∀x∈l,f x≠k)→(l.foldl (λg x=>λk'=>if k'=f x then v x else g k') (λ_=>z)) k=z):=by
 have gen:∀(l:List α) (g0:Kz→β),(∀x∈l,f x=k→(l.map f).Nodup→(l.foldl (λg x=>λk'=>if k'=f x then v x else g k') g0) k=v x)∧((∀x∈l,f x≠k)→(l.foldl (λg x=>λk'=>if k'=f x then v x else g k') g0) k=g0 k):=by
  intro l
  induction l with
  | nil=>intro g0;exact ⟨λx hx=>(by cases hx),λ_=>rfl⟩
  | cons y r ih=>
   intro g0;obtain ⟨i1,i2⟩:=ih (λk'=>if k'=f y then v y else g0 k');rw [Ik]
   constructor
   ·intro x hx hk hn;rw [Cc,Gg] at hn
    rcases Ao.1 hx with rfl|hx
    ·rw [i2 (λz hz hzk=>hn.1 (Cq.2 ⟨z,hz,hzk.trans hk.symm⟩)),Ac hk.symm]
    exact i1 x hx hk hn.2
   intro h;rw [i2 λx hx=>h x (Ax _ hx),Ae (λhh=>h y Bi hh.symm)]
 exact gen l (λ_=>z)
section
variable {m:Md} (R:Rl m)
include R
theorem Rl.at_mem {x:El} (hx:x∈m.els):atF m.els x.id=x:=(IS (f:=λx:El=>x.id) (v:=λx=>x) m.els x.id).1 x hx rfl R.els
theorem Rl.isA_mem {x:El} (hx:x∈m.els):YQ m.els x.id=zz:=(IS (f:=λx:El=>x.id) (v:=λ_=>zz) m.els x.id).1 x hx rfl R.els
theorem Rl.fl_mem {x:Fl} (hx:x∈m.fls):flF m.fls x.id=x:=(IS (f:=λx:Fl=>x.id) (v:=λx=>x) m.fls x.id).1 x hx rfl R.fls
theorem Rl.isF_mem {x:Fl} (hx:x∈m.fls):bX m.fls x.id=zz:=(IS (f:=λx:Fl=>x.id) (v:=λ_=>zz) m.fls x.id).1 x hx rfl R.fls
theorem Rl.outs_mem {x:El} (hx:x∈m.els):NZ m m.els x.id=(BV m.fls x.id).map (λu:Fl=>u.id):=(IS (f:=λx:El=>x.id) (v:=λx=>(BV m.fls x.id).map (λu:Fl=>u.id)) m.els x.id).1 x hx rfl R.els
theorem Rl.ins_mem {x:El} (hx:x∈m.els):bY m m.els x.id=(E5 m.fls x.id).map (λu:Fl=>u.id):=(IS (f:=λx:El=>x.id) (v:=λx=>(E5 m.fls x.id).map (λu:Fl=>u.id)) m.els x.id).1 x hx rfl R.els
end
section
variable {m:Md} {k:Kz}
theorem YG (h:∀x∈m.els,x.id≠k):atF m.els k=zeroEl∧YQ m.els k=zy∧NZ m m.els k=[]∧bY m m.els k=[]:=
 ⟨(IS (f:=λx:El=>x.id) (v:=λx=>x) m.els k).2 h,(IS (f:=λx:El=>x.id) (v:=λ_=>zz) m.els k).2 h,(IS (f:=λx:El=>x.id) (v:=λx=>(BV m.fls x.id).map (λu:Fl=>u.id)) m.els k).2 h,(IS (f:=λx:El=>x.id) (v:=λx=>(E5 m.fls x.id).map (λu:Fl=>u.id)) m.els k).2 h⟩
theorem a3r (h:∀x∈m.fls,x.id≠k):flF m.fls k=zeroFl∧bX m.fls k=zy:=
 ⟨(IS (f:=λx:Fl=>x.id) (v:=λx=>x) m.fls k).2 h,(IS (f:=λx:Fl=>x.id) (v:=λ_=>zz) m.fls k).2 h⟩
theorem a2w (h:YQ m.els k=zz):∃x∈m.els,x.id=k:=by
 by_cases hh:∃x∈m.els,x.id=k
 ·exact hh
 have:=(YG (m:=m) (k:=k) λx hx he=>hh ⟨x,hx,he⟩).2.1
 rw [this] at h;cases h
theorem iF (m:Md) (k:Kz):(∃x∈m.els,x.id=k)∨(∀x∈m.els,x.id≠k):=by
 by_cases hh:∃x∈m.els,x.id=k
 ·exact .inl hh
 exact .inr λx hx he=>hh ⟨x,hx,he⟩
end
theorem Rl.ends {m:Md} (R:Rl m) {f:Fl} (hf:f∈m.fls):∃y∈m.els,y.id=f.tg∧y.kind.toNat≠9∧y.kind.toNat≠1∧∃x∈m.els,x.id=f.frm∧x.inn=y.inn:=by
 have h3:=R.three f hf;unfold LL at h3
 simp only [Bn,decide_eq_true_eq,Et,decide_eq_false_iff_not] at h3
 obtain ⟨⟨⟨⟨h1,h2⟩,h4⟩,h5⟩,_⟩:=h3;obtain ⟨x,hx⟩:=Iw.1 h1;obtain ⟨y,hy⟩:=Iw.1 h2;rw [hx,hy] at h4
 rw [hy] at h5
 obtain ⟨hx1,hx2⟩:=XT hx;obtain ⟨hy1,hy2⟩:=XT hy;refine ⟨y,hy1,hy2,λhh=>h5 (by simp [hh]),λhh=>?_,x,hx1,hx2,h4⟩;have h6:=R.four y hy1;unfold JA at h6
 rw [Ac (by simp [hh])] at h6
 simp only [Bn,decide_eq_true_eq] at h6
 have:f∈E5 m.fls y.id:=De.2 ⟨hf,by simp [hy2]⟩
 have:=Jh this
 omega
theorem Rl.out1 {m:Md} (R:Rl m) {y:El} (hy:y∈m.els):(y.kind.toNat=2→(BV m.fls y.id).length=0)∧(y.kind.toNat=7→2≤(BV m.fls y.id).length)∧(y.kind.toNat=5∨y.kind.toNat=6→1≤(BV m.fls y.id).length∧1≤(E5 m.fls y.id).length)∧(y.kind.toNat≠2→y.kind.toNat≠5→y.kind.toNat≠6→y.kind.toNat≠7→(BV m.fls y.id).length=1):=by
 have h4:=R.four y hy;unfold JA at h4
 by_cases h1:y.kind.toNat=1∨y.kind.toNat=9
 ·rw [Ac (by rcases h1 with h|h<;>simp [h])] at h4
  simp only [Bn,decide_eq_true_eq] at h4
  refine ⟨λh=>A0,λh=>A0,λh=>A0,λ_ _ _ _=>A0⟩
 rw [Ae (by simp only [Dw,decide_eq_true_eq];omega)] at h4
 by_cases h2:y.kind.toNat=2
 ·rw [Ac (by simp [h2])] at h4
  simp only [Bn,decide_eq_true_eq] at h4
  refine ⟨λ_=>A0,λh=>A0,λh=>A0,λh=>A0⟩
 rw [Ae (by simp only [decide_eq_true_eq];omega)] at h4
 by_cases h5:y.kind.toNat=5∨y.kind.toNat=6
 ·rw [Ac (by rcases h5 with h|h<;>simp [h])] at h4
  simp only [Bn,decide_eq_true_eq] at h4
  refine ⟨λh=>A0,λh=>A0,λ_=>⟨A0,A0⟩,λ_ h h'=>A0⟩
 rw [Ae (by simp only [Dw,decide_eq_true_eq];omega)] at h4
 by_cases h7:y.kind.toNat=7
 ·rw [Ac (by simp [h7])] at h4
  split at h4
  ·rename_i hc
   simp only [Bn,decide_eq_true_eq] at hc
   refine ⟨λh=>A0,λ_=>A0,λh=>A0,λ_ _ _ h=>A0⟩
  cases h4
 rw [Ae (by simp only [decide_eq_true_eq];omega)] at h4
 simp only [Bn,decide_eq_true_eq] at h4
 refine ⟨λh=>A0,λh=>A0,λh=>A0,λ_ _ _ _=>A0⟩
end
section
structure Cz (m:Md) (c:CrA):Prop where
 eA:c.atf=atF m.els
 eB:c.isA=YQ m.els
 eI:c.ins=bY m m.els
 eO:c.outs=NZ m m.els
 eL:c.flf=flF m.fls
 eM:c.isF=bX m.fls
 eC:c.cnd=cnF m.fls
theorem CourseN.cz {w:Kw} {m:Md} {gc:Nat} {c:CrA} {F:List Nat} (h:CourseN w m gc c F):Cz m c:=⟨h.eA,h.eB,h.eI,h.eO,h.eL,h.eM,h.eC⟩
section
variable {m:Md} {c:CrA} (R:Rl m) (Z:Cz m c)
include R Z
theorem VQ {x:El} (hx:x∈m.els):c.outs x.id=(BV m.fls x.id).map (λu:Fl=>u.id):=by rw [Z.eO];exact R.outs_mem hx
theorem wL {x:El} (hx:x∈m.els):c.ins x.id=(E5 m.fls x.id).map (λu:Fl=>u.id):=by rw [Z.eI];exact R.ins_mem hx
theorem aE {x:El} (hx:x∈m.els):c.atf x.id=x:=by rw [Z.eA];exact R.at_mem hx
theorem a3t {f:Fl} (hf:f∈m.fls):c.flf f.id=f∧c.isF f.id=zz:=by rw [Z.eL,Z.eM];exact ⟨R.fl_mem hf,R.isF_mem hf⟩
theorem pZ {k q:Kz} (hq:q∈c.outs k):∃f∈m.fls,f.id=q∧f.frm=k∧∃x∈m.els,x.id=k:=by
 rcases iF m k with ⟨x,hx,rfl⟩|h
 ·rw [VQ R Z hx] at hq
  obtain ⟨f,hf,rfl⟩:=Cq.1 hq;obtain ⟨h1,h2⟩:=De.1 hf;exact ⟨f,h1,X,by simpa using h2,x,hx,rfl⟩
 rw [Z.eO,(YG h).2.2.1] at hq;cases hq
theorem a2J (k:Kz):(c.ins k).Nodup∧(c.ins k).length≤400:=by
 rcases iF m k with ⟨x,hx,rfl⟩|h
 ·rw [wL R Z hx];refine ⟨?_,?_⟩
  ·exact (R.fls.sublist ((List.filter_sublist (p:=λf:Fl=>O (f.tg=x.id)) (l:=m.fls)).map (λu:Fl=>u.id)))
  rw [Br]
  have:=Dy (λf:Fl=>O (f.tg=x.id)) m.fls
  have h2:=R.lens
  show (E5 m.fls x.id).length≤400
  unfold E5;omega
 rw [Z.eI,(YG h).2.2.2];exact ⟨List.nodup_nil,Aj _⟩
theorem cN {x:El} (hx:x∈m.els) (hk:x.kind.toNat≠2):0<(c.outs x.id).length:=by
 rw [VQ R Z hx,Br];obtain ⟨h2,h7,h56,h1⟩:=R.out1 hx
 by_cases k7:x.kind.toNat=7
 ·have:=h7 k7;omega
 by_cases k5:x.kind.toNat=5∨x.kind.toNat=6
 ·have:=(h56 k5).1;omega
 have:=h1 hk A0 A0 k7;omega
end
section
variable {m:Md} {c:CrA} (R:Rl m) (Z:Cz m c) (vs:List Bd)
include R Z
end
end
section
theorem UD {P:Lw} {ops:Array Oper} {Q:Exit→Act→Kw→Prop} {t:Nat}:∀(fuel:Nat) (listed:Array Bool) (a:Act) (w:Kw),wpAny P .any ops Q fuel listed a w→KU P ops Q t (λ_=>True) fuel listed a w
 | 0,_,_,_,h=>h
 | fuel+1,_,_,_,h=>⟨h.1,λi hi=>wpOp_mono (λa' w' h'=>⟨λ_=>trivial,UD fuel _ a' w' h'⟩) (h.2 i hi)⟩
theorem NU {P:Lw} {ops:Array Oper} {Q:Exit→Act→Kw→Prop} {t1 n f:Nat} {listed:Array Bool} {e:Env} {w:Kw} (t:Nat) (S:Kw→Prop) (k:SxO P ops Q t S n f listed e w):SxO P ops Q t1 (λ_=>True) n f listed e w:=
 ⟨λa ha=>UD _ _ _ _ (QF _ _ _ _ (k.run a ha))⟩
section
variable {P:Lw} {e:Env} {w:Kw} {o:Oper} {t t':Nat} {x y:Lz} {a b:Nat}
theorem aQ (ho:o.op=.binOp .mul t x y t') (hx:ev e x=G (AA (a:Int))) (hy:ev e y=G (AA (b:Int))) (h:a*b≤4611686018427387904):Y P e o w (AA ((a*b:Nat):Int)):=by
 have:=dD (P:=P) (w:=w) ho hx hy ⟨by have:(0:Int)≤(a:Int)*(b:Int):=Int.mul_nonneg A0 A0;omega,by have:((a*b:Nat):Int)=(a:Int)*(b:Int):=Int.natCast_mul a b;omega⟩
 rwa [show (a:Int)*(b:Int)=((a*b:Nat):Int) from (Int.natCast_mul a b).symm] at this
theorem VH {s d:Nat} {ds:TypeDesc} (ho:o.op=.convert s d x) (hx:ev e x=G (AA (a:Int))) (hs:P.underlying s=G ds) (hd:P.underlying d=G (.int .u64)) (h:a≤9223372036854775807):Y P e o w (.int .u64 (a:Int)):=
 CI ho hx hs hd (by rw [IntKind.wrap_u64];omega)
theorem VI {s d:Nat} {ds:TypeDesc} (ho:o.op=.convert s d x) (hx:ev e x=G (.int .u64 (a:Int))) (hs:P.underlying s=G ds) (hd:P.underlying d=G (.int .i64)) (h:a≤9223372036854775807):Y P e o w (AA (a:Int)):=
 CI ho hx hs hd (IntWalk.i64_in _ ⟨A0,A0⟩)
theorem aP {k:IntKind} (ho:o.op=.binOp .shr t x y t') (hx:ev e x=G (.int .u64 (a:Int))) (hy:ev e y=G (.int k 1)):Y P e o w (.int .u64 ((a / 2:Nat):Int)):=λρ h=>by
 have hs:(Op.shift .shr .u64 (a:Int) k 1).run P w=.ok (.int .u64 ((a / 2:Nat):Int)) w:=by
  have hn:min (1:Int).toNat IntKind.u64.bits=1:=by decide
  have he:Int.fdiv (a:Int) (2 ^ 1)=((a / 2:Nat):Int):=by
   rw [show (2 ^ 1:Int)=((2:Nat):Int) by rfl,Int.ofNat_fdiv]
  unfold Op.shift;rw [Ae AV];simp only [hn,he]
  rfl
 unfold execOp;simp [ho,h _ _ hx,h _ _ hy,eqGuard_shr,binOp_shr,hs]
end
section
variable {α:Type} {cells:α→Kx} {k:Nat} {l:List α} {rs:Kx}
theorem ZW {j:Nat} {x:α} (hx:l[j]?=G x):AF cells l=AF cells (l.take j)++(cells x++AF cells (l.drop (j+1))):=by
 have h1:l=l.take j++x::l.drop (j+1):=by
  rw [←AH hx,Dd]
 conv=>lhs;rw [h1]
 rw [AY];simp [AF]
theorem IC (hk:∀x,(cells x).length=k) {w:Kw} {g t:Nat} (hb:Blk w g t (AF cells l++rs)):Rd w (G ⟨g,0,zx⟩) (l.length*k) (AF cells l):=
 DO hb 0 (l.length*k) (by rw [List.drop_zero,Hb (I3 hk l)]) (I3 hk l)
theorem MP (hk:∀x,(cells x).length=k) {j m:Nat} (h:j<l.length) (hm:m=k):0+j*k+m≤(AF cells l++rs).length:=by
 subst hm;rw [Am,I3 hk]
 have:(j+1)*m≤l.length*m:=Ed _ h
 rw [Jg] at this
 omega
theorem KO (hk:∀x,(cells x).length=k) {j:Nat} {y:α} (h:j<l.length):put (AF cells l++rs) (0+j*k) (cells y)=AF cells (l.set j y)++rs:=by
 obtain ⟨x,hx⟩:∃x,l[j]?=G x:=⟨l[j],Av h⟩
 have hy:(l.set j y)[j]?=G y:=Du h;have hl:(AF cells (l.take j)).length=j*k:=by rw [I3 hk,Bs,Gf (Gw h)]
 rw [ZW hx,ZW hy,List.take_set_of_le (Af _),List.drop_set_of_lt A0,Cr];unfold put;rw [Cg,Cg,Hb hl,hk,←Gl,List.drop_left' hl,Cg,List.drop_left' (hk x),Cg]
theorem E2 {i j:Nat} {a b:α} (ha:l[i]?=G a) (hb:l[j]?=G b):((l.set i b).set j a).Perm l:=by
 obtain ⟨h1,rfl⟩:=An.1 ha;obtain ⟨h2,rfl⟩:=An.1 hb;exact List.set_set_perm h1 h2
end
end
section
section
variable {P:Lw} {Q:Exit→Act→Kw→Prop} {n:Nat} {e:Env} {w w0:Kw} {S:Nat→Prop} {L:List As} {ops:Array Oper} {o:Oper} {rest:List Oper}
end
end
section
section
variable {c:CrA} {clock id:Int}
end
theorem uZ (x:Int) (w:Kw):zt zv 170 #[AA x] w (BR w (.bool (!(O (x=x))))):=by
 refine BO func170 ntmps170 X λM=>W ?_
 exact gr1 X ⟨X,M.fr⟩
def P6 (x y:Int):Int:=(if (!(O (x=x)))=zz then (if (!(O (y=y)))=zz then 0 else (-1)) else (if (!(O (y=y)))=zz then 1 else (if (O (x<y))=zz then (-1) else (if (O (y<x))=zz then 1 else 0))))
theorem gX (x y:Int) (w:Kw):zt zv 108 #[AA x,AA y] w (BR w (AA (P6 x y))):=by
 refine BO func108 ntmps108 X λM=>W ?_
 refine CQ M 8 X X call170 (uZ x _) λw1 M=>W ?_
 refine CQ M 10 X X call170 (uZ y _) λw2 M=>W ?_
 refine AC X (λh11=>?_) (λh11=>?_)
 ·refine W ?_;refine AC X (λh12=>?_) (λh12=>?_)
  ·refine W ?_;exact gr1 X ⟨by rw [P6,Ac h11,Ac h12]<;>rfl,M.fr⟩
  refine W ?_;exact gr1 X ⟨by rw [P6,Ac h11,AN h12]<;>rfl,M.fr⟩
 refine W ?_;refine AC X (λh13=>?_) (λh13=>?_)
 ·refine W ?_;exact gr1 X ⟨by rw [P6,AN h11,Ac h13]<;>rfl,M.fr⟩
 refine W ?_;refine AC X (λh16=>?_) (λh16=>?_)
 ·refine W ?_;exact gr1 X ⟨by rw [P6,AN h11,AN h13,Ac h16]<;>rfl,M.fr⟩
 refine W ?_;refine AC X (λh19=>?_) (λh19=>?_)
 ·refine W ?_;exact gr1 X ⟨by rw [P6,AN h11,AN h13,AN h16,Ac h19]<;>rfl,M.fr⟩
 refine W ?_;exact gr1 X ⟨by rw [P6,AN h11,AN h13,AN h16,AN h19]<;>rfl,M.fr⟩
end
structure In where
 id:Int
 mdl:Kz
 st:UInt8
 vars:List Bd
 toks:List Tk
def In.cells (i:In) (V T:Ky) (vc tc:Nat):Kx:=[.int .i64 i.id,str i.mdl,.int .u8 (i.st.toNat:Int),.slice V i.vars.length vc,.slice T i.toks.length tc]
def a2T (b0:Nat) (F0:List Nat) (w w2:Kw):Prop:=∀g,(g∈F0∨b0≤g)→g<w.heap.size→w2.heap[g]?=w.heap[g]?
theorem EN : (zv.info? 42).map (·.size)=G 5:=zr
theorem OC : (zv.info? 40).map (·.size)=G 1:=zr
section
section
variable {w0 w w':Kw} {S:Nat→Prop} {a b:As} {Ls:List As}
end
end
end
end Go.Proofs.YtppmdnmjepkfaaaGreatDoor
