/- Lemmas. -/
import Derived.Test.YtaheakjfkpkefaaGreatDoorVMp
set_option maxHeartbeats 16000000
set_option maxRecDepth 100000
namespace Go.Proofs.YtaheakjfkpkefaaGreatDoor
open Go.RowKit
open Tryz
theorem moF {we w w':World} {F F2:List Nat} {L:List As} {gc vn vc gx:Nat} {V:Option Addr} {σ:Mo} (M:Mem w (λk=>k∈F) L w') (i:Nat) (hi:L[i]?=some (As.mo gc V vn vc gx σ F2)) (hFe:∀g∈F,we.heap.size≤g) (hs:we.heap.size≤w.heap.size):∀g∈F2,we.heap.size≤g:=λg hg=>by
 obtain ⟨_,h2⟩:=M.lt i _ hi g hg;rcases h2 with h2|h2
 ·exact Nat.le_trans hs h2
 ·exact hFe g h2
theorem G1 : (prog.info? 187).map (·.zero)=some (some (.nilFunc)):=by kernel_rfl
def SW : List (UInt8 × Value):=[(3,.func (.func 150) #[] #[]),(4,.func (.func 150) #[] #[]),(8,.func (.func 150) #[] #[]),(7,.func (.func 150) #[] #[]),(10,.func (.func 151) #[] #[]),(2,.func (.func 152) #[] #[]),(5,.func (.func 153) #[] #[]),(6,.func (.func 154) #[] #[])]
def cA (we:World) (m:Md) (gc:Nat) (c:CrA) (V:Option Addr) (vc:Nat) (vs:List Bd) (x:El):Prop:=∃fd,(HA SW x.kind).getD .nilFunc=.func (.func fd) #[] #[]∧(∀(ar:Array Value) (w:World),(callFunc fd ar).run prog w=.ok (.enter fd ar) w) ∧
 ∀(gx:Nat) (σ:Mo) (F:List Nat) (i:Nat) (a:Ar) (w:World),σ.on.length≤500000→σ.fired.length≤500000→σ.came≤500000000→σ.done.length≤500000→σ.on[i]?=some a→a.flow.length≤100000→Fr0 we w→(∀g∈F,we.heap.size≤g)→MoN w gc V vs.length vc gx σ F →
  Calls prog fd #[.pointer (some ⟨gx,0,none⟩),.int .i64 ((i:Nat):Int),.agg x.cells.toArray] w λe w'=>∃b σ',e=.returned (.bool b)∧QV gc V vs.length vc gx σ' F w w'∧Pd m c vs σ i a x b σ'∧(b=false→∀u,Cell w.heap gx 2 u→Cell w'.heap gx 2 u)
def PV (we:World) (m:Md) (gc:Nat) (c:CrA) (V:Option Addr) (vc:Nat) (vs:List Bd):Prop:=∀x∈m.els,x.kind.toNat≠9→x.kind.toNat≠1→cA we m gc c V vc vs x
theorem KI (we:World) (m:Md) (gc:Nat) (c:CrA) (V:Option Addr) (vc:Nat) (vs:List Bd) (x:El) (hxl:x.id.length≤100000) (hk:x.kind=3∨x.kind=4∨x.kind=7∨x.kind=8):cA we m gc c V vc vs x:=by
 rcases hk with h|h|h|h
 ·exact ⟨150,by rw [h];rfl,call150,λgx σ F i a w h1 h2 h3 h4 ha hal hwe hFe hN=>(RO gc V vs.length vc gx σ F i a x w h1 h2 h3 h4 ha hxl hN).mono λ_ _ ⟨e1,e2⟩=>⟨true,_,e1,e2,.inl ⟨by rw [h];decide,rfl,rfl⟩,λhb=>by cases hb⟩⟩
 ·exact ⟨150,by rw [h];rfl,call150,λgx σ F i a w h1 h2 h3 h4 ha hal hwe hFe hN=>(RO gc V vs.length vc gx σ F i a x w h1 h2 h3 h4 ha hxl hN).mono λ_ _ ⟨e1,e2⟩=>⟨true,_,e1,e2,.inl ⟨by rw [h];decide,rfl,rfl⟩,λhb=>by cases hb⟩⟩
 ·exact ⟨150,by rw [h];rfl,call150,λgx σ F i a w h1 h2 h3 h4 ha hal hwe hFe hN=>(RO gc V vs.length vc gx σ F i a x w h1 h2 h3 h4 ha hxl hN).mono λ_ _ ⟨e1,e2⟩=>⟨true,_,e1,e2,.inl ⟨by rw [h];decide,rfl,rfl⟩,λhb=>by cases hb⟩⟩
 ·exact ⟨150,by rw [h];rfl,call150,λgx σ F i a w h1 h2 h3 h4 ha hal hwe hFe hN=>(RO gc V vs.length vc gx σ F i a x w h1 h2 h3 h4 ha hxl hN).mono λ_ _ ⟨e1,e2⟩=>⟨true,_,e1,e2,.inl ⟨by rw [h];decide,rfl,rfl⟩,λhb=>by cases hb⟩⟩
theorem YF (we:World) (m:Md) (gc:Nat) (c:CrA) (Fc:List Nat) (V:Option Addr) (vc:Nat) (vs:List Bd) (hC:CourseN we m gc c Fc) (x:El) (hxl:x.id.length≤100000) (hin:x.inn≠[]→0<(c.outs x.inn).length) (h:x.kind=2):cA we m gc c V vc vs x:=
 ⟨152,by rw [h];rfl,call152,λgx σ F i a w h1 h2 h3 h4 ha hal hwe hFe hN=>(xN we m gc c Fc V vs.length vc gx σ F i a x w h1 h2 h3 ha hxl hin hC hwe hFe hN).mono λ_ _ ⟨e1,e2⟩=>⟨true,_,e1,e2,.inr (.inr (.inl ⟨by rw [h];decide,rfl,rfl⟩)),λhb=>by cases hb⟩⟩
theorem rW (we:World) (m:Md) (gc:Nat) (c:CrA) (Fc:List Nat) (V:Option Addr) (vc:Nat) (vs:List Bd) (ho:MdOk m) (R:Rl m) (hvl:vs.length≤4611686018427387904) (hok:BdOk vs) (hV:Rd we V (vs.length*5) (AD Bd.cells vs)) (hY:Lay0 we) (hC:CourseN we m gc c Fc):PV we m gc c V vc vs:=by
 intro x hx h9 h1';have hk:=R.kind hx;have Z:=hC.cz;have hxl:x.id.length≤100000:=by have:=(IY (R.elN x hx)).2;omega
 have cases_:x.kind=2∨x.kind=3∨x.kind=4∨x.kind=5∨x.kind=6∨x.kind=7∨x.kind=8∨x.kind=10:=by
  have:∀k:UInt8,k.toNat=2∨k.toNat=3∨k.toNat=4∨k.toNat=5∨k.toNat=6∨k.toNat=7∨k.toNat=8∨k.toNat=10→k=2∨k=3∨k=4∨k=5∨k=6∨k=7∨k=8∨k=10:=by
   intro k h;have hk:k=UInt8.ofNat k.toNat:=by simp
   rcases h with h|h|h|h|h|h|h|h<;>(rw [h] at hk;subst hk;decide)
  exact this _ AA
 rcases cases_ with h|h|h|h|h|h|h|h
 ·exact YF we m gc c Fc V vc vs hC x hxl (λhin=>by obtain ⟨s,hs,hs1,hs2⟩:=R.sub_at hx hin;rw [←hs1];exact I8 R Z hs AA) h
 ·exact KI we m gc c V vc vs x hxl (by simp [h])
 ·exact KI we m gc c V vc vs x hxl (by simp [h])
 ·exact ⟨153,by rw [h];rfl,call153,λgx σ F i a w h1 h2 h3 h4 ha hal hwe hFe hN=>(j8 we m gc c Fc V vc gx vs σ F i a x w ho h1 h2 h3 (I8 R Z hx (by rw [h];decide)) (λq hq=>by obtain ⟨f,hf,he,_⟩:=QK R Z hq;have:=(IY (R.flN f hf)).2;rw [←he];omega) (eH R Z hx (by rw [h];decide)).2 hal hvl hok hV hY ha hxl hC hwe hFe hN).mono λ_ _ ⟨e1,e2,e3⟩=>⟨_,_,e1,e2,.inr (.inr (.inr (.inl ⟨by rw [h];decide,rfl,rfl⟩))),e3⟩⟩
 ·exact ⟨154,by rw [h];rfl,call154,λgx σ F i a w h1 h2 h3 h4 ha hal hwe hFe hN=>(t6 we m gc c Fc V vs.length vc gx σ F i x w ho (X7 R Z x.id).1 (X7 R Z x.id).2 h1 h2 h3 hC hwe hFe hN).mono λ_ _ ⟨e1,e2,e3⟩=>⟨_,_,e1,e2,.inr (.inr (.inr (.inr ⟨by rw [h];decide,rfl,rfl⟩))),e3⟩⟩
 ·exact KI we m gc c V vc vs x hxl (by simp [h])
 ·exact KI we m gc c V vc vs x hxl (by simp [h])
 ·exact ⟨151,by rw [h];rfl,call151,λgx σ F i a w h1 h2 h3 h4 ha hal hwe hFe hN=>(vO we m gc c Fc V vs.length vc gx σ F i a x w h1 h2 h3 ha hxl ho (λy hy hy1 _=>I8 R Z hy AA) hC hwe hFe hN).mono λ_ _ ⟨e1,e2⟩=>⟨true,_,e1,e2,.inr (.inl ⟨by rw [h];decide,rfl,rfl⟩),λhb=>by cases hb⟩⟩
theorem gK (w:World):Calls prog 96 #[] w λe w'=>∃g,e=.returned (.map (some g))∧MpU w' g SW∧(w.heap.size≤g∧g<w'.heap.size)∧Fr0 w w':=by
 refine BH func96 ntmps96 X λM=>srg (AJ X (srg (AJ X (srg (XZ M (wn_none X) X X X λg1 w1 hg1 M=>yb X ?_)))))
 refine DP M 0 (k:=(3:UInt8)) (wn_none X) X X X X X underlying185 underlying5 X λw2 M=>yb X (DP M 0 (k:=(4:UInt8)) (wn_none X) X X X X X underlying185 underlying5 X λw3 M=>yb X (DP M 0 (k:=(8:UInt8)) (wn_none X) X X X X X underlying185 underlying5 X λw4 M=>yb X (DP M 0 (k:=(7:UInt8)) (wn_none X) X X X X X underlying185 underlying5 X λw5 M=>DP M 0 (k:=(10:UInt8)) (wn_none X) X X X X X underlying185 underlying5 X λw6 M=>DP M 0 (k:=(2:UInt8)) (wn_none X) X X X X X underlying185 underlying5 X λw7 M=>DP M 0 (k:=(5:UInt8)) (wn_none X) X X X X X underlying185 underlying5 X ?_)))
 intro w8 M;exact DP M 0 (k:=(6:UInt8)) (wn_none X) X X X X X underlying185 underlying5 X λw9 M=>AV X X (gnr (gr1 X ⟨g1,X,(M.ok 0 _ X:MpU _ _ _),M.new0 0 X _ (by simp [As.mpU]),M.fr⟩))
theorem rG (we:World) (m:Md) (gc:Nat) (c:CrA) (Fc:List Nat) (V:Option Addr) (vc gx:Nat) (vs:List Bd) (σ:Mo) (F:List Nat) (w:World) (R:Rl m) (hC:CourseN we m gc c Fc) (hwe:Fr0 we w) (hFe:∀g∈F,we.heap.size≤g) (hN:MoN w gc V vs.length vc gx σ F) (hI:Iv c σ) (hf0:σ.fired.length≤2) (hps:PV we m gc c V vc vs) :
 Calls prog 54 #[pg gx] w λe w'=>∃er σ',e=.returned (AC er)∧QV gc V vs.length vc gx σ' F w w'∧Rn m c vs σ σ'∧Iv c σ'∧σ'.fired.length≤1025∧((er=0∧bZ c σ')∨(er=3∧1024<σ'.fired.length)):=by
 obtain ⟨on,dn,fi,cm⟩:=σ
 dsimp only at hf0
 have Z:=hC.cz;refine sx_enter (vs:=[_]) func54 X ntmps54 X ?_;have M:Mem w (λk=>k∈F) [As.mo gc V vs.length vc gx (⟨on,dn,fi,cm⟩:Mo) F] w:=Mem.oneMo hN;obtain ⟨x1,M⟩:=Mem.openMo M
 replace M:Mem w (λk=>k∈F) [As.blk gx 137 [pg gc,.slice V vs.length vc,.slice x1.A on.length x1.a,.slice x1.B dn.length x1.b,.slice x1.C fi.length x1.c,AC (cm:Int)],As.own 0 139 5 (.slice x1.A on.length x1.a) on.length (AD Ar.cells on),As.own 0 139 5 (.slice x1.B dn.length x1.b) dn.length (AD Ar.cells dn),As.own 0 9 1 (.slice x1.C fi.length x1.c) fi.length (AD C0 fi)] w:=M
 refine srg (AJ X (kZ (srg (cl 7 X (AG X X call96) (gK _) ?_))));rintro _ w1 ⟨gm,rfl,hm,hnm,hfw1⟩;refine ⟨_,X,?_⟩;have M:=M.push hfw1 (As.mpU gm SW) hm (λg hg=>by simp only [As.mpU,List.mem_singleton] at hg;subst hg;exact hnm);refine AJ X (sx_seq (l6 (qx_seq (sx_seq (sx_block ?_)))));obtain ⟨F2,M⟩:=Mem.closeMo (M.pk [1,2,3,4,0]);refine flp [3,0] (λze e wr mz=>∃(on1:List Ar) (dn1:List Ar) (fi1:List (List UInt8)) (cm1:Nat) (F1:List Nat),e=ze∧Mem w (λk=>k∈F) [As.mo gc V vs.length vc gx (⟨on1,dn1,fi1,cm1⟩:Mo) F1,As.mpU gm SW] wr∧(Rn m c vs ⟨on,dn,fi,cm⟩ (⟨on1,dn1,fi1,cm1⟩:Mo))∧(Iv c (⟨on1,dn1,fi1,cm1⟩:Mo))∧(fi1.length≤1025)∧mz=1026-fi1.length) ⟨on,dn,fi,cm,_,X,M,.refl,hI,by omega,rfl⟩ ?_;rintro _ w2 _ ⟨on1,dn1,fi1,cm1,F1,rfl,M,hR,hI1,hfl,rfl⟩;refine sx_seq (AE X (AV X X ?_));obtain ⟨x3,M⟩:=Mem.openMo M
 replace M:Mem w (λk=>k∈F) [As.blk gx 137 [pg gc,.slice V vs.length vc,.slice x3.A on1.length x3.a,.slice x3.B dn1.length x3.b,.slice x3.C fi1.length x3.c,AC (cm1:Int)],As.own 0 139 5 (.slice x3.A on1.length x3.a) on1.length (AD Ar.cells on1),As.own 0 139 5 (.slice x3.B dn1.length x3.b) dn1.length (AD Ar.cells dn1),As.own 0 9 1 (.slice x3.C fi1.length x3.c) fi1.length (AD C0 fi1),As.mpU gm SW] w2:=M
 refine AU M 0 X X X (DF X X (MT X X (nq (AF X (λh13=>?_) (λh13=>?_)))))
 ·have h13p:=(odt h13);refine sx_skip (qx_seq (sx_block (sx_seq (AE X (AV X X (AU M 0 X X X (DF X X (AJ X (sx_block ?_)))))))));have hc0:=M.cell 0 (off:=2) X X;have hfb:fi1.length≤1024:=by omega
  have hb1:=hI1.on;have hb2:=hI1.came;have hb3:=hI1.done
  dsimp only at hb1 hb2 hb3
  obtain ⟨F4,M⟩:=Mem.closeMo (M.pk [0,1,2,3,4]);refine flp [18,17,3,0] (λze e wr mz=>∃(i:Nat) (on2:List Ar) (F2:List Nat),e=(19,AC (i:Int))::ze∧Mem w (λk=>k∈F) [As.mo gc V vs.length vc gx (⟨on2,dn1,fi1,cm1⟩:Mo) F2,As.mpU gm SW] wr∧(i≤on1.length)∧(Rn m c vs ⟨on,dn,fi,cm⟩ (⟨on2,dn1,fi1,cm1⟩:Mo))∧(Iv c (⟨on2,dn1,fi1,cm1⟩:Mo))∧(on2.length=on1.length)∧(∀(k:Nat) (b:Ar),k<i→on2[k]?=some b→Stl c on2 b)∧(Cell wr.heap gx 2 (.slice x3.A on1.length x3.a))∧mz=on1.length-i) ⟨0,on1,_,X,M,Nat.zero_le _,hR,hI1,X,λk _ h=>absurd h (Nat.not_lt_zero k),hc0,X⟩ ?_;rintro _ w3 _ ⟨i,on2,F2,rfl,M,hi,hR2,hI2,hl2,hS2,hc2,rfl⟩;refine srg (BB X X (nq (sx_seq (AF X (λh20=>?_) (λh20=>?_)))))
  ·have h20p:=(odt h20);refine sx_skip (qx_seq (sx_seq (sx_block (AE X ?_))));obtain ⟨x5,M⟩:=Mem.openMo M
   replace M:Mem w (λk=>k∈F) [As.blk gx 137 [pg gc,.slice V vs.length vc,.slice x5.A on2.length x5.a,.slice x5.B dn1.length x5.b,.slice x5.C fi1.length x5.c,AC (cm1:Int)],As.own 0 139 5 (.slice x5.A on2.length x5.a) on2.length (AD Ar.cells on2),As.own 0 139 5 (.slice x5.B dn1.length x5.b) dn1.length (AD Ar.cells dn1),As.own 0 9 1 (.slice x5.C fi1.length x5.c) fi1.length (AD C0 fi1),As.mpU gm SW] w3:=M
   have hq5:=XC (M.cell 0 (off:=2) X X) hc2
   injection hq5 with hqA hqn hqc
   rw [←hqA,←hqc] at M
   obtain ⟨y,hy⟩:=BM (l:=on2) (i:=i) AA;obtain ⟨b22,o22,hA22⟩:=B5 (k:=5) AA (M.rdOwn 1 X) hy;refine ya X (AN i hA22 X X X (sl X) AA) (ya X (AK X X (B6 Ar.len (M.rdOwn 1 X) hA22 hy) underlying139 X B0) (CI M X FL λg5 w4 hg5 M=>yb X (BD M 0 X X B0 X λw5 M=>nq (sx_seq (GP M 21 CH λM=>oc 0 21 X X M (oc 1 21 X X M (oc 2 21 X X M (ol 3 21 X X X M (λ_ M=>(M.cell 1 X X)) (oc 4 21 X X M ?_)))))))));refine oc 5 21 X X M (oa 6 21 X X M (λ_ M=>BF X X (sc X) (Blk.c ((hC.fr0 (BT hwe M.fr hFe)).blk) 5 X)) (oc 7 21 X X M (oc 8 21 X X M (oc 9 21 X X M (ol 10 21 X X X M (λ_ M=>(M.cell 1 X X)) (oc 11 21 X X M (oc 12 21 X X M (oa 13 21 X X M (λ_ M=>BF X X (sc X) (Blk.c ((hC.fr0 (BT hwe M.fr hFe)).blk) 6 X)) (oc 14 21 X X M (ol 15 21 X X X M (λ_ M=>(M.cell 0 X X)) (oa 16 21 X X M (λ_ M=>BK X X X underlying86 underlying9 EN ((hC.fr0 (BT hwe M.fr hFe)).L) (hC.getL _)) (oa 17 21 X X M (λ_ M=>jQ (b:=(c.flf y.flow)) X X) (oa 18 21 X X M (λ_ M=>BK X X X underlying85 underlying9 AT ((hC.fr0 (BT hwe M.fr hFe)).A) (hC.getA _)) (fon M 19 6 X X AT λg6 w6 hg6 M=>fop M 20 0 X X X AQ X (·.drop 1) λw7 M=>?_))))))))))))));refine fdn (qx_seq (AE X (AU M 1 X X X (AV X X (AI (d:=46) X (λh46=>?_) (λh46=>?_))))))
   ·have h46p:=(C5 h46);refine gyq X (gyq X (CE M 0 X X X (yd X (aA X X X underlying185 underlying5 G1 (M.ok 6 _ X:MpU _ _ _)) (gyq X (gyq X (yd X (AK (xs:=El.cells (c.atf ((c.flf y.flow).tg))) X X (M.rdBlk 0 X X) underlying95 X AQ) ?_))))));obtain ⟨x0,hxm,hx0,_,hk9,hk1⟩:=yY R Z (hI2.isF y (List.mem_of_getElem? hy));have hx0:RJ c y=x0:=hx0;rw [←hx0] at hxm hk9 hk1
    have hyl:y.flow.length≤100000:=by obtain ⟨f,hf,he,_⟩:=oL R Z (hI2.isF y (List.mem_of_getElem? hy));have:=(IY (R.flN f hf)).2;rw [←he];omega
    have hc3:=M.cell 2 (off:=2) X X;obtain ⟨F8,M⟩:=Mem.closeMo (M.pk [2,3,4,5,0,1,6]);obtain ⟨fd,hfv,hfn,hfc⟩:=hps (RJ c y) hxm hk9 hk1;refine sxl_call (some 54) (wn_on X X X) X X (BJ X (congrArg some hfv) X hfn) (hfc gx (⟨on2,dn1,fi1,cm1⟩:Mo) F8 i y _ (by dsimp only;omega) (by dsimp only;omega) (by dsimp only;omega) (by dsimp only;omega) hy hyl (BT hwe M.fr hFe) (moF M 0 X hFe hwe.size) (M.ok 0 _ X)) ?_;rintro _ w8 ⟨b,σ',rfl,⟨F9,hN9,hq9,hf9⟩,hP,hkc⟩;refine ⟨_,X,?_⟩;obtain ⟨on3,dn3,fi3,cm3⟩:=σ';have M:=M.updMo 0 X (σ':=(⟨on3,dn3,fi3,cm3⟩:Mo)) hN9 hq9 hf9;refine AJ X (AF X (λh55=>?_) (λh55=>?_))
    ·refine sx_exit (FS X (qx_then_exit (qx_then_exit (FS X (qx_then_exit (qx_block_hit ?_))))));have h9:=(RU R Z vs hxm hI2 hy hP).2.1 h55
     dsimp only at h9
     refine fag ⟨on3,dn3,fi3,cm3,F9,X,(M.pk [0,3]),?_,?_,?_,X⟩
     ·exact Rn.step hR2 hy h46p hP
     ·exact (RU R Z vs hxm hI2 hy hP).1
     ·omega
    ·subst h55;obtain ⟨p1,p2,p3,p4,p5,p6,p7⟩:=m2 hy hP
     dsimp only at p1 p2 p3 p4 p5 p6 p7
     replace p5:=p5.symm
     subst p5
     replace p6:=p6.symm
     subst p6
     replace p7:=p7.symm
     subst p7;refine sx_skip (qx_block_normal (qx_seq (sx_region (BV X X (yb X (sxl_nil (fag ⟨i+1,on3,F9,X,(M.pk [0,3]),?_,?_,?_,?_,?_,?_,X⟩)))))))
     ·omega
     ·first
       | exact Rn.step hR2 hy h46p hP
       | exact hR2
     ·first
       | exact (RU R Z vs hxm hI2 hy hP).1
       | exact hI2
     ·first
       | exact p1.trans hl2
       | exact hl2
     ·intro k b hk hb
      by_cases hki:k=i
      ·subst hki
       first
        | (obtain ⟨a',ha1,ha2⟩:=p4;rw [ha1] at hb;injection hb with hb;exact hb▸ha2)
        | (rw [hy] at hb;injection hb with hb;exact hb▸.inl (by simpa using h46p))
      ·first
        | exact cZ p3 (hS2 k b AA ((p2 k hki).symm.trans hb))
        | exact hS2 k b AA hb
     ·first
       | exact hl2▸hkc rfl _ hc3
       | exact hl2▸hc3
   ·have h46p:=(BL h46);iterate 8 refine yo X ?_
    refine AJ X (sx_false X (sx_skip (qx_block_normal (qx_seq (sx_region (BV X X (yb X (sxl_nil ?_))))))));have hc3:=M.cell 2 (off:=2) X X;obtain ⟨F9,M⟩:=Mem.closeMo (M.pk [2,3,4,5,0,1,6]);refine fag ⟨i+1,on2,F9,X,(M.pk [0,3]),?_,?_,?_,?_,?_,?_,X⟩
    ·omega
    ·first
      | exact Rn.step hR2 hy h46p hP
      | exact hR2
    ·first
      | exact (RU R Z vs hxm hI2 hy hP).1
      | exact hI2
    ·first
      | exact p1.trans hl2
      | exact hl2
    ·intro k b hk hb
     by_cases hki:k=i
     ·subst hki
      first
       | (obtain ⟨a',ha1,ha2⟩:=p4;rw [ha1] at hb;injection hb with hb;exact hb▸ha2)
       | (rw [hy] at hb;injection hb with hb;exact hb▸.inl (by simpa using h46p))
     ·first
       | exact cZ p3 (hS2 k b AA ((p2 k hki).symm.trans hb))
       | exact hS2 k b AA hb
    ·first
      | exact hl2▸hkc rfl _ hc3
      | exact hl2▸hc3
  ·have h20p:=(odf h20);refine sx_exit (qx_then_exit (qx_then_exit (qx_block_hit (qx_seq (AE X (gnr (qx_block_ret (qx_then_ret (qx_block_ret (qx_then_ret (PD ?_)))))))))));exact gr1 X ⟨0,_,X,GX (M.pk [0]),hR2,hI2,by dsimp only;omega,.inl ⟨rfl,λk b hb=>hS2 k b (by have:=(List.getElem?_eq_some_iff.1 hb).1;dsimp only at this;omega) hb⟩⟩
 ·have h13p:=(odf h13);refine sx_exit (qx_then_exit (qx_then_exit (qx_block_hit (qx_seq (AE X (gnr (PD (gr1 X ?_))))))));obtain ⟨F10,M⟩:=Mem.closeMo (M.pk [0,1,2,3,4]);exact ⟨3,_,X,GX (M.pk [0]),hR,hI1,hfl,.inr ⟨X,by dsimp only;omega⟩⟩
section
theorem QY {P:Program} {ops:Array Oper} {Q:Exit→Act→World→Prop} {t:Nat}:∀(fuel:Nat) (listed:Array Bool) (a:Act) (w:World),wpAny P .any ops Q fuel listed a w→IF P ops Q t (λ_=>True) fuel listed a w
 | 0,_,_,_,h=>h
 | fuel+1,_,_,_,h=>⟨h.1,λi hi=>wpOp_mono (λa' w' h'=>⟨λ_=>trivial,QY fuel _ a' w' h'⟩) (h.2 i hi)⟩
theorem G3 {P:Program} {ops:Array Oper} {Q:Exit→Act→World→Prop} {t1 n f:Nat} {listed:Array Bool} {e:Env} {w:World} (t:Nat) (S:World→Prop) (k:SxO P ops Q t S n f listed e w):SxO P ops Q t1 (λ_=>True) n f listed e w:=
 ⟨λa ha=>QY _ _ _ _ (O3 _ _ _ _ (k.run a ha))⟩
section
variable {P:Program} {e:Env} {w:World} {o:Oper} {t t':Nat} {x y:Operand} {a b:Nat}
theorem M8 (ho:o.op=.binOp .mul t x y t') (hx:ev e x=some (AC (a:Int))) (hy:ev e y=some (AC (b:Int))) (h:a*b≤4611686018427387904):Y P e o w (AC ((a*b:Nat):Int)):=by
 have:=yE (P:=P) (w:=w) ho hx hy ⟨by have:(0:Int)≤(a:Int)*(b:Int):=Int.mul_nonneg AA AA;omega,by have:((a*b:Nat):Int)=(a:Int)*(b:Int):=Int.natCast_mul a b;omega⟩
 rwa [show (a:Int)*(b:Int)=((a*b:Nat):Int) from (Int.natCast_mul a b).symm] at this
theorem JN {s d:Nat} {ds:TypeDesc} (ho:o.op=.convert s d x) (hx:ev e x=some (AC (a:Int))) (hs:P.underlying s=some ds) (hd:P.underlying d=some (.int .u64)) (h:a≤9223372036854775807):Y P e o w (.int .u64 (a:Int)):=
 KC ho hx hs hd (by rw [IntKind.wrap_u64];omega)
theorem JO {s d:Nat} {ds:TypeDesc} (ho:o.op=.convert s d x) (hx:ev e x=some (.int .u64 (a:Int))) (hs:P.underlying s=some ds) (hd:P.underlying d=some (.int .i64)) (h:a≤9223372036854775807):Y P e o w (AC (a:Int)):=
 KC ho hx hs hd (IntWalk.i64_in _ ⟨by omega,by omega⟩)
theorem M7 {k:IntKind} (ho:o.op=.binOp .shr t x y t') (hx:ev e x=some (.int .u64 (a:Int))) (hy:ev e y=some (.int k 1)):Y P e o w (.int .u64 ((a / 2:Nat):Int)):=λρ h=>by
 have hs:(Op.shift .shr .u64 (a:Int) k 1).run P w=.ok (.int .u64 ((a / 2:Nat):Int)) w:=by
  have hn:min (1:Int).toNat IntKind.u64.bits=1:=by decide
  have he:Int.fdiv (a:Int) (2 ^ 1)=((a / 2:Nat):Int):=by
   rw [show (2 ^ 1:Int)=((2:Nat):Int) by rfl,Int.ofNat_fdiv]
  unfold Op.shift;rw [if_neg B3];simp only [hn,he]
  rfl
 unfold execOp;simp [ho,h _ _ hx,h _ _ hy,eqGuard_shr,binOp_shr,hs]
end
section
variable {α:Type} {cells:α→List Value} {k:Nat} {l:List α} {rs:List Value}
theorem VJ {j:Nat} {x:α} (hx:l[j]?=some x):AD cells l=AD cells (l.take j)++(cells x++AD cells (l.drop (j+1))):=by
 have h1:l=l.take j++x::l.drop (j+1):=by
  rw [←AZ hx,List.take_append_drop]
 conv=>lhs;rw [h1]
 rw [B9];simp [AD]
theorem DK (hk:∀x,(cells x).length=k) {w:World} {g t:Nat} (hb:Blk w g t (AD cells l++rs)):Rd w (some ⟨g,0,none⟩) (l.length*k) (AD cells l):=
 DZ hb 0 (l.length*k) (by rw [List.drop_zero,List.take_left' (HC hk l)]) (HC hk l)
theorem EZ (hk:∀x,(cells x).length=k) {j m:Nat} (h:j<l.length) (hm:m=k):0+j*k+m≤(AD cells l++rs).length:=by
 subst hm;rw [List.length_append,HC hk]
 have:(j+1)*m≤l.length*m:=Nat.mul_le_mul_right _ h
 rw [Nat.succ_mul] at this
 omega
theorem E9 (hk:∀x,(cells x).length=k) {j:Nat} {y:α} (h:j<l.length):put (AD cells l++rs) (0+j*k) (cells y)=AD cells (l.set j y)++rs:=by
 obtain ⟨x,hx⟩:∃x,l[j]?=some x:=⟨l[j],List.getElem?_eq_getElem h⟩
 have hy:(l.set j y)[j]?=some y:=List.getElem?_set_self h;have hl:(AD cells (l.take j)).length=j*k:=by rw [HC hk,List.length_take,Nat.min_eq_left (Nat.le_of_lt h)]
 rw [VJ hx,VJ hy,List.take_set_of_le (Nat.le_refl _),List.drop_set_of_lt AA,Nat.zero_add];unfold put;rw [List.append_assoc,List.append_assoc,List.take_left' hl,hk,←List.drop_drop,List.drop_left' hl,List.append_assoc,List.drop_left' (hk x),List.append_assoc]
theorem BX {i j:Nat} {a b:α} (ha:l[i]?=some a) (hb:l[j]?=some b):((l.set i b).set j a).Perm l:=by
 obtain ⟨h1,rfl⟩:=List.getElem?_eq_some_iff.1 ha;obtain ⟨h2,rfl⟩:=List.getElem?_eq_some_iff.1 hb;exact List.set_set_perm h1 h2
end
end
theorem dU (g n cp:Nat) (fc:FuncId) (fq:Ar→Ar→Int) (rs:List Value) (a b:Nat) (hfc:∀(ar:Array Value) (w:World),(callFunc fc ar).run prog w=.ok (.enter fc ar) w) (hcmp:∀(a b:Ar) (w:World),Calls prog fc #[.agg a.cells.toArray,.agg b.cells.toArray] w (BI w (AC (fq a b)))) (hm:n≤1000000000) (l:List Ar) (w:World) (hb:Blk w g 139 (AD Ar.cells l++rs)) (hn:l.length=n) (hab:a≤b) (hbn:b≤n) :
 Calls prog 187 #[.slice (some ⟨g,0,none⟩) n cp,AC ((a:Nat):Int),AC (b:Int),.func (.func fc) #[] #[]] w λe w'=>e=.returned (.tuple #[])∧∃l':List Ar,l'.Perm l∧Blk w' g 139 (AD Ar.cells l'++rs)∧Fr (λk=>k=g) w w':=by
 have hp_l:l.Perm l:=List.Perm.refl _;have hn_l:l.length=n:=hn;refine sx_enter (vs:=[_,_,_,_]) func187 X ntmps187 X ?_;have M:Mem w (λk=>k=g) [As.blk g 139 (AD Ar.cells l++rs)] w:=Mem.one hb;refine AE X (BV X X (AJ X (sx_block (flp [3,2,1,0] (λze e wr mz=>∃(i:Nat) (l1:List Ar),e=(8,AC (i:Int))::ze∧Mem w (λk=>k=g) [As.blk g 139 (AD Ar.cells l1++rs)] wr∧(a+1≤i∧i≤b+1)∧(l1.Perm l)∧(l1.length=n)∧mz=b+1-i) ⟨(a+1),l,X,M,⟨Nat.le_refl _,by omega⟩,hp_l,hn_l,X⟩ ?_))));rintro _ w1 _ ⟨i,l1,rfl,M,hi,hp_l1,hn_l1,rfl⟩;refine sx_seq (AE X (yb X (BB X X (nq (AF X (λh14=>?_) (λh14=>?_))))))
 ·have h14p:=(odt h14);refine sx_skip (qx_seq (sx_seq (sx_block (AE X (AJ X (sx_block (flp [8,3,2,1,0] (λze e wr mz=>∃(j:Nat) (l2:List Ar),e=(9,AC (j:Int))::ze∧Mem w (λk=>k=g) [As.blk g 139 (AD Ar.cells l2++rs)] wr∧(j≤i)∧(l2.Perm l)∧(l2.length=n)∧mz=j+1) ⟨i,l1,X,M,Nat.le_refl _,hp_l1,hn_l1,X⟩ ?_)))))));rintro _ w2 _ ⟨j,l2,rfl,M,hj,hp_l2,hn_l2,rfl⟩;refine sx_seq (sx_seq (CY 14 CH gkr ?_));have M:=M.drew;refine sb X (sb X (sa X (GU X X X) (sb X (DG (d:=21) X (λh21=>?_) (λh21=>?_)))))
  ·have h21p:=(odt h21);refine gsg X (yp X) (gsg X (yp X) (gsg X (yp X) (gsg X (AN j X X X X (sl X) AA) ?_)));obtain ⟨x1,hx1⟩:=BM (l:=l2) (i:=j) AA;refine gsg X (AK (xs:=Ar.cells x1) X X (B6 Ar.len (DK Ar.len (M.blk 0 X)) X hx1) underlying139 X B0) (gsg X (yp X) (gsg X (yp X) (gsg X (CK (a:=j) (b:=1) X X X AA AA) (gsg X (AN (j-1) X X X X (sl X) AA) ?_))));obtain ⟨x2,hx2⟩:=BM (l:=l2) (i:=j-1) AA;refine gsg X (AK (xs:=Ar.cells x2) X X (B6 Ar.len (DK Ar.len (M.blk 0 X)) X hx2) underlying139 X B0) (C8 (sxl_call (some 32) (wn_on X X X) X X (BJ X X X hfc) (hcmp _ _ _) ?_));rintro _ w3 ⟨rfl,hfw3⟩;refine ⟨_,X,?_⟩;have M:=M.step hfw3;refine yd X (E0 X X X) (AJ X (AF X (λh34=>?_) (λh34=>?_)))
   ·have h34p:=(odt h34);refine sx_skip (qx_seq (sx_seq (sx_block (EH 18 (λ_=>True) CH ?_))));have M:=M.drew;refine oa 0 18 X X trivial (λ_ _=>yp X) (oa 1 18 X X trivial (λ_ _=>yp X) (oa 2 18 X X trivial (λ_ _=>yp X) (oa 3 18 X X trivial (λ_ _=>yp X) (oa 4 18 X X trivial (λ_ _=>CK (a:=j) (b:=1) X X X AA AA) (oa 5 18 X X trivial (λ_ _=>yp X) (oa 6 18 X X trivial (λ_ _=>yp X) (oa 7 18 X X trivial (λ_ _=>CK (a:=j) (b:=1) X X X AA AA) (oa 8 18 X X trivial (λ_ _=>AN (j-1) X X X X (sl X) AA) (oa 10 18 X X trivial (λ_ _=>yp X) (oa 11 18 X X trivial (λ_ _=>yp X) (oa 12 18 X X trivial (λ_ _=>AN j X X X X (sl X) AA) (G3 14 (λw'=>Mem w (λk=>k=g) [As.blk g 139 (AD Ar.cells l2++rs)] w') ?_))))))))))));obtain ⟨x3,hx3⟩:=BM (l:=l2) (i:=j-1) AA;refine EG 9 gkr (λc a t v w h=>by cases t<;>exact h) gkr gkr gkr X (wn_none X) X X M (λ_ M=>AK (xs:=Ar.cells x3) X X (B6 Ar.len (DK Ar.len (M.blk 0 X)) X hx3) underlying139 X B0) ?_;obtain ⟨x4,hx4⟩:=BM (l:=l2) (i:=j) AA;refine EG 13 gkr (λc a t v w h=>by cases t<;>exact h) gkr gkr gkr X (wn_none X) X X M (λ_ M=>AK (xs:=Ar.cells x4) X X (B6 Ar.len (DK Ar.len (M.blk 0 X)) X hx4) underlying139 X B0) (fo1 14 X X (AN j X X X X (sl X) AA) (B2 15 none gkr X (wn_none X) X X (λρ hρ=>BO 139 _ _ X g (0+j*5) 139 (AD Ar.cells l2++rs) (Ar.cells x3) (hρ _ _ X) (hρ _ _ X) (M.blk 0 X) B0 (EZ Ar.len C2 X) (Ar.cells_one _)) ?_));rintro _ w4 ⟨rfl,hbw4,hfw4⟩;rw [E9 Ar.len C2] at hbw4
    replace M:Mem w (λk=>k=g) (List.set _ 0 (As.blk g 139 (AD Ar.cells (l2.set j x3)++rs))) w4:=M.putB 0 rfl hbw4 hfw4
    refine ⟨λh=>absurd h B3,fo1 16 X X (AN (j-1) X X X X (sl X) AA) (B2 17 none gkr X (wn_none X) X X (λρ hρ=>BO 139 _ _ X g (0+(j-1)*5) 139 (AD Ar.cells (l2.set j x3)++rs) (Ar.cells x4) (hρ _ _ X) (hρ _ _ X) (M.blk 0 X) B0 (EZ Ar.len C2 X) (Ar.cells_one _)) ?_)⟩;rintro _ w5 ⟨rfl,hbw5,hfw5⟩;rw [E9 Ar.len C2] at hbw5
    replace M:Mem w (λk=>k=g) (List.set _ 0 (As.blk g 139 (AD Ar.cells ((l2.set j x3).set (j-1) x4)++rs))) w5:=M.putB 0 rfl hbw5 hfw5
    refine ⟨λh=>absurd h B3,fdn (qx_block_normal (qx_seq (sx_region (yb X (ya X (CK (a:=j) (b:=1) X X X AA AA) (yb X (sxl_nil (fag ⟨j-1,((l2.set j x3).set (j-1) x4),X,M,?_,?_,?_,X⟩))))))))⟩
    ·omega
    ·first
      | assumption
      | (refine (BX ?_ ?_).trans (by assumption)<;>assumption)
    ·first
      | assumption
      | (simp;assumption)
   ·have h34p:=(odf h34);refine sx_exit (qx_then_exit (qx_then_exit (qx_block_hit (qx_block_normal (qx_seq (sx_region (yb X (BV X X (yb X (sxl_nil (fag ⟨i+1,l2,X,M,?_,?_,?_,X⟩)))))))))))
    ·omega
    ·first
      | assumption
      | (refine (BX ?_ ?_).trans (by assumption)<;>assumption)
    ·first
      | assumption
      | (simp;assumption)
  ·have h21p:=(odf h21);iterate 10 refine DD X X X X X X ?_
   refine C8 (yo X (yo X (AJ X (sx_false X (sx_exit (qx_then_exit (qx_then_exit (qx_block_hit (qx_block_normal (qx_seq (sx_region (yb X (BV X X ?_)))))))))))));refine yb X (sxl_nil (fag ⟨i+1,l2,X,M,?_,?_,?_,X⟩))
   ·omega
   ·first
     | assumption
     | (refine (BX ?_ ?_).trans (by assumption)<;>assumption)
   ·first
     | assumption
     | (simp;assumption)
 ·exact sx_exit (qx_then_exit (qx_then_exit (qx_block_hit (qx_ret0 (Or.inr X) X ⟨X,l1,hp_l1,M.blk 0 X,M.fr⟩))))
theorem WF (g n cp:Nat) (fc:FuncId) (rs:List Value) (a b d:Nat) (hm:n≤1000000000) (l:List Ar) (w:World) (hb:Blk w g 139 (AD Ar.cells l++rs)) (hn:l.length=n) (had:a+d≤n) (hbd:b+d≤n) :
 Calls prog 233 #[.slice (some ⟨g,0,none⟩) n cp,AC ((a:Nat):Int),AC (b:Int),AC (d:Int),.func (.func fc) #[] #[]] w λe w'=>e=.returned (.tuple #[])∧∃l':List Ar,l'.Perm l∧Blk w' g 139 (AD Ar.cells l'++rs)∧Fr (λk=>k=g) w w':=by
 have hp_l:l.Perm l:=List.Perm.refl _;have hn_l:l.length=n:=hn;refine sx_enter (vs:=[_,_,_,_,_]) func233 X ntmps233 X ?_;have M:Mem w (λk=>k=g) [As.blk g 139 (AD Ar.cells l++rs)] w:=Mem.one hb;refine srg (AJ X (sx_block (flp [3,2,1,0] (λze e wr mz=>∃(i:Nat) (l1:List Ar),e=(10,AC (i:Int))::ze∧Mem w (λk=>k=g) [As.blk g 139 (AD Ar.cells l1++rs)] wr∧(i≤d)∧(l1.Perm l)∧(l1.length=n)∧mz=d-i) ⟨0,l,X,M,Nat.zero_le _,hp_l,hn_l,X⟩ ?_)));rintro _ w1 _ ⟨i,l1,rfl,M,hi,hp_l1,hn_l1,rfl⟩;refine sx_seq (AE X (yb X (BB X X (nq (AF X (λh13=>?_) (λh13=>?_))))))
 ·have h13p:=(odt h13);refine sx_skip (qx_seq (sx_seq (sx_block (EH 24 (λ_=>True) CH ?_))));have M:=M.drew;refine oa 0 24 X X trivial (λ_ _=>yp X) (oa 1 24 X X trivial (λ_ _=>yp X) (oa 2 24 X X trivial (λ_ _=>yp X) (oa 3 24 X X trivial (λ_ _=>GE X X X AA) (oa 4 24 X X trivial (λ_ _=>yp X) (oa 5 24 X X trivial (λ_ _=>yp X) (oa 6 24 X X trivial (λ_ _=>yp X) (oa 7 24 X X trivial (λ_ _=>GE X X X AA) (oa 8 24 X X trivial (λ_ _=>yp X) (oa 9 24 X X trivial (λ_ _=>yp X) (oa 10 24 X X trivial (λ_ _=>yp X) (oa 11 24 X X trivial (λ_ _=>GE X X X AA) (oa 12 24 X X trivial (λ_ _=>AN (b+i) X X X X (sl X) AA) (oa 14 24 X X trivial (λ_ _=>yp X) (oa 15 24 X X trivial (λ_ _=>yp X) (oa 16 24 X X trivial (λ_ _=>yp X) ?_)))))))))))))));refine oa 17 24 X X trivial (λ_ _=>GE X X X AA) (oa 18 24 X X trivial (λ_ _=>AN (a+i) X X X X (sl X) AA) (G3 20 (λw'=>Mem w (λk=>k=g) [As.blk g 139 (AD Ar.cells l1++rs)] w') ?_));obtain ⟨x1,hx1⟩:=BM (l:=l1) (i:=b+i) AA;refine EG 13 gkr (λc a t v w h=>by cases t<;>exact h) gkr gkr gkr X (wn_none X) X X M (λ_ M=>AK (xs:=Ar.cells x1) X X (B6 Ar.len (DK Ar.len (M.blk 0 X)) X hx1) underlying139 X B0) ?_;obtain ⟨x2,hx2⟩:=BM (l:=l1) (i:=a+i) AA;refine EG 19 gkr (λc a t v w h=>by cases t<;>exact h) gkr gkr gkr X (wn_none X) X X M (λ_ M=>AK (xs:=Ar.cells x2) X X (B6 Ar.len (DK Ar.len (M.blk 0 X)) X hx2) underlying139 X B0) (fo1 20 X X (AN (a+i) X X X X (sl X) AA) (B2 21 none gkr X (wn_none X) X X (λρ hρ=>BO 139 _ _ X g (0+(a+i)*5) 139 (AD Ar.cells l1++rs) (Ar.cells x1) (hρ _ _ X) (hρ _ _ X) (M.blk 0 X) B0 (EZ Ar.len C2 X) (Ar.cells_one _)) ?_));rintro _ w2 ⟨rfl,hbw2,hfw2⟩;rw [E9 Ar.len C2] at hbw2
  replace M:Mem w (λk=>k=g) (List.set _ 0 (As.blk g 139 (AD Ar.cells (l1.set (a+i) x1)++rs))) w2:=M.putB 0 rfl hbw2 hfw2
  refine ⟨λh=>absurd h B3,fo1 22 X X (AN (b+i) X X X X (sl X) AA) (B2 23 none gkr X (wn_none X) X X (λρ hρ=>BO 139 _ _ X g (0+(b+i)*5) 139 (AD Ar.cells (l1.set (a+i) x1)++rs) (Ar.cells x2) (hρ _ _ X) (hρ _ _ X) (M.blk 0 X) B0 (EZ Ar.len C2 X) (Ar.cells_one _)) ?_)⟩;rintro _ w3 ⟨rfl,hbw3,hfw3⟩;rw [E9 Ar.len C2] at hbw3
  replace M:Mem w (λk=>k=g) (List.set _ 0 (As.blk g 139 (AD Ar.cells ((l1.set (a+i) x1).set (b+i) x2)++rs))) w3:=M.putB 0 rfl hbw3 hfw3
  refine ⟨λh=>absurd h B3,fdn (qx_block_normal (qx_seq (sx_region (yb X (BV X X (yb X (sxl_nil (fag ⟨i+1,((l1.set (a+i) x1).set (b+i) x2),X,M,?_,?_,?_,X⟩))))))))⟩
  ·omega
  ·first
    | assumption
    | (refine (BX ?_ ?_).trans (by assumption)<;>assumption)
  ·first
    | assumption
    | (simp;assumption)
 ·exact sx_exit (qx_then_exit (qx_then_exit (qx_block_hit (qx_ret0 (Or.inr X) X ⟨X,l1,hp_l1,M.blk 0 X,M.fr⟩))))
theorem vX (g n cp:Nat) (fc:FuncId) (rs:List Value) (a m b:Nat) (hm:n≤1000000000) (l:List Ar) (w:World) (hb:Blk w g 139 (AD Ar.cells l++rs)) (hn:l.length=n) (ham:a<m) (hmb:m<b) (hbn:b≤n) :
 Calls prog 204 #[.slice (some ⟨g,0,none⟩) n cp,AC (a:Int),AC (m:Int),AC (b:Int),.func (.func fc) #[] #[]] w λe w'=>e=.returned (.tuple #[])∧∃l':List Ar,l'.Perm l∧Blk w' g 139 (AD Ar.cells l'++rs)∧Fr (λk=>k=g) w w':=by
 have hp_l:l.Perm l:=List.Perm.refl _;have hn_l:l.length=n:=hn;refine sx_enter (vs:=[_,_,_,_,_]) func204 X ntmps204 X ?_;have M:Mem w (λk=>k=g) [As.blk g 139 (AD Ar.cells l++rs)] w:=Mem.one hb;refine AE X (yb X (ya X (CK (a:=m) (b:=a) X X X AA AA) (AJ X (AE X (yb X (ya X (CK (a:=b) (b:=m) X X X AA AA) (AJ X ?_)))))));refine sx_seq (sx_block (flp [4,2,0] (λze e wr mz=>∃(i:Nat) (j:Nat) (l1:List Ar),e=(10,AC (i:Int))::(11,AC (j:Int))::ze∧Mem w (λk=>k=g) [As.blk g 139 (AD Ar.cells l1++rs)] wr∧(0<i∧0<j∧i≤m-a∧j≤b-m)∧(l1.Perm l)∧(l1.length=n)∧mz=i+j) ⟨(m-a),(b-m),l,X,M,by omega,hp_l,hn_l,rfl⟩ ?_));rintro _ w1 _ ⟨i,j,l1,rfl,M,hij,hp_l1,hn_l1,rfl⟩;refine sx_seq (AE X (yb X (CT X X (nq (AF X (λh20=>?_) (λh20=>?_))))))
 ·have h20p:=(odf (C5 h20));refine sx_skip (qx_seq (sx_block (AE X (yb X (IM X X (nq (AF X (λh23=>?_) (λh23=>?_))))))))
  ·have h23p:=(odt h23);refine AE X (AV X X (ya X (CK (a:=m) (b:=i) X X X AA AA) (AV X X (yb X (cl 31 X (AG X X call233) (WF g n cp fc rs (m-i) m j hm l1 _ (M.blk 0 X) hn_l1 AA AA) ?_)))));rintro _ w2 ⟨rfl,l1,hqw2,hbw2,hfw2⟩;refine ⟨_,X,?_⟩;have M:=M.putB 0 X hbw2 hfw2;have hp_l1:l1.Perm l:=hqw2.trans hp_l1;have hn_l1:l1.length=n:=hqw2.length_eq.trans hn_l1;refine nq (sx_region (AV X X (ya X (CK (a:=i) (b:=j) X X X AA AA) (yb X (sxl_nil (qx_block_normal (fag ⟨i-j,j,l1,X,M,?_,?_,?_,X⟩)))))))
   ·omega
   ·first
     | assumption
     | (refine (BX ?_ ?_).trans (by assumption)<;>assumption)
   ·first
     | assumption
     | (simp;assumption)
  ·have h23p:=(odf h23);refine AE X (AV X X (ya X (CK (a:=m) (b:=i) X X X AA AA) (AV X X (BV X X (yb X (ya X (CK (a:=m+j) (b:=i) X X X AA AA) (AV X X (cl 46 X (AG X X call233) (WF g n cp fc rs (m-i) ((m+j)-i) i hm l1 _ (M.blk 0 X) hn_l1 AA AA) ?_))))))));rintro _ w3 ⟨rfl,l2,hqw3,hbw3,hfw3⟩;refine ⟨_,X,?_⟩;have M:=M.putB 0 X hbw3 hfw3;have hp_l2:l2.Perm l:=hqw3.trans hp_l1;have hn_l2:l2.length=n:=hqw3.length_eq.trans hn_l1;refine nq (sx_region (AV X X (ya X (CK (a:=j) (b:=i) X X X AA AA) (yb X (sxl_nil (qx_block_normal (fag ⟨i,j-i,l2,X,M,?_,?_,?_,X⟩)))))))
   ·omega
   ·first
     | assumption
     | (refine (BX ?_ ?_).trans (by assumption)<;>assumption)
   ·first
     | assumption
     | (simp;assumption)
 ·have h20p:=(odt (BL h20));refine sx_exit (qx_then_exit (qx_then_exit (qx_block_hit (qx_seq (sx_region (AV X X (yb X (ya X (CK (a:=m) (b:=i) X X X AA AA) (AV X X (yb X (cl 57 X (AG X X call233) (WF g n cp fc rs (m-i) m i hm l1 _ (M.blk 0 X) hn_l1 AA AA) ?_)))))))))));rintro _ w4 ⟨rfl,l3,hqw4,hbw4,hfw4⟩;refine ⟨_,X,?_⟩;have M:=M.putB 0 X hbw4 hfw4;have hp_l3:l3.Perm l:=hqw4.trans hp_l1;have hn_l3:l3.length=n:=hqw4.length_eq.trans hn_l1;exact sxl_nil (qx_ret0 (Or.inr X) X ⟨X,l3,hp_l3,M.blk 0 X,M.fr⟩)
theorem kQ (g n cp:Nat) (fc:FuncId) (fq:Ar→Ar→Int) (rs:List Value) (a m b:Nat) (hfc:∀(ar:Array Value) (w:World),(callFunc fc ar).run prog w=.ok (.enter fc ar) w) (hcmp:∀(a b:Ar) (w:World),Calls prog fc #[.agg a.cells.toArray,.agg b.cells.toArray] w (BI w (AC (fq a b)))) (hm:n≤1000000000) (l:List Ar) (w:World) (hb:Blk w g 139 (AD Ar.cells l++rs)) (hn:l.length=n) (ham:a<m) (hmb:m<b) (hbn:b≤n) (hrec:∀(a' m' b':Nat) (l:List Ar) (w:World),a'<m'→m'<b'→b'≤n→b'-a'<b-a→Blk w g 139 (AD Ar.cells l++rs)→l.length=n→Calls prog 188 #[.slice (some ⟨g,0,none⟩) n cp,AC (a':Int),AC (m':Int),AC (b':Int),.func (.func fc) #[] #[]] w λe w'=>e=.returned (.tuple #[])∧∃l':List Ar,l'.Perm l∧Blk w' g 139 (AD Ar.cells l'++rs)∧Fr (λk=>k=g) w w') :
 Calls prog 188 #[.slice (some ⟨g,0,none⟩) n cp,AC ((a:Nat):Int),AC (m:Int),AC (b:Int),.func (.func fc) #[] #[]] w λe w'=>e=.returned (.tuple #[])∧∃l':List Ar,l'.Perm l∧Blk w' g 139 (AD Ar.cells l'++rs)∧Fr (λk=>k=g) w w':=by
 have hp_l:l.Perm l:=List.Perm.refl _;have hn_l:l.length=n:=hn;refine sx_enter (vs:=[_,_,_,_,_]) func188 X ntmps188 X ?_;have M:Mem w (λk=>k=g) [As.blk g 139 (AD Ar.cells l++rs)] w:=Mem.one hb;refine sx_seq (AE X (yb X (ya X (CK (a:=m) (b:=a) X X X AA AA) (BZ X X (nq (AF X (λh28=>?_) (λh28=>?_)))))))
 ·have h28p:=(odt h28);refine AE X (AJ X (AE X (AJ X (sx_seq (sx_block (flp [4,1,0] (λze e wr mz=>∃(i:Nat) (j:Nat) (l1:List Ar),e=(10,AC (i:Int))::(11,AC (j:Int))::ze∧Mem w (λk=>k=g) [As.blk g 139 (AD Ar.cells l1++rs)] wr∧(m≤i∧i≤j∧j≤b)∧(l1.Perm l)∧(l1.length=n)∧mz=j-i) ⟨m,b,l,X,M,by omega,hp_l,hn_l,rfl⟩ ?_))))));rintro _ w1 _ ⟨i,j,l1,rfl,M,hij,hp_l1,hn_l1,rfl⟩;refine sx_seq (AE X (yb X (BB X X (nq (AF X (λh33=>?_) (λh33=>?_))))))
  ·have h33p:=(odt h33);refine sx_skip (qx_seq (sx_block (AE X (yb X (BV X X (ya X (JN X X underlying3 underlying44 AA) (ya X (M7 (a:=i+j) X X X) (ya X (JO X X underlying44 underlying3 AA) (AJ X (sx_seq (CY 9 CH gkr ?_)))))))))));have M:=M.drew;refine sb X (sb X (sb X (sa X (AN ((i+j) / 2) X X X X (sl X) AA) ?_)));obtain ⟨x1,hx1⟩:=BM (l:=l1) (i:=(i+j) / 2) AA;refine sa X (AK (xs:=Ar.cells x1) X X (B6 Ar.len (DK Ar.len (M.blk 0 X)) X hx1) underlying139 X B0) (sb X (sb X (sa X (AN a X X X X (sl X) AA) ?_)));obtain ⟨x2,hx2⟩:=BM (l:=l1) (i:=a) AA;refine sa X (AK (xs:=Ar.cells x2) X X (B6 Ar.len (DK Ar.len (M.blk 0 X)) X hx2) underlying139 X B0) (C8 (LZ M 49 X (BJ X X X hfc) (hcmp _ _ _) λw2 M=>BB X X (nq (AF X (λh50=>?_) (λh50=>?_)))))
   ·have h50p:=(odt h50);refine sx_region (yb X (BV X X (yb X (sxl_nil (qx_block_normal (fag ⟨((i+j) / 2)+1,j,l1,X,M,?_,?_,?_,X⟩))))))
    ·omega
    ·first
      | assumption
      | (refine (BX ?_ ?_).trans (by assumption)<;>assumption)
    ·first
      | assumption
      | (simp;assumption)
   ·have h50p:=(odf h50);refine sx_region (AV X X (sxl_nil (qx_block_normal (fag ⟨i,(i+j) / 2,l1,X,M,?_,?_,?_,X⟩))))
    ·omega
    ·first
      | assumption
      | (refine (BX ?_ ?_).trans (by assumption)<;>assumption)
    ·first
      | assumption
      | (simp;assumption)
  ·have h33p:=(odf h33);refine sx_exit (qx_then_exit (qx_then_exit (qx_block_hit (qx_seq (sx_seq (AE X (AJ X (sx_block (flp [10,0] (λze e wr mz=>∃(k:Nat) (l2:List Ar),e=(13,AC ((k:Nat):Int))::ze∧Mem w (λk=>k=g) [As.blk g 139 (AD Ar.cells l2++rs)] wr∧(a≤k∧k≤i)∧(l2.Perm l)∧(l2.length=n)∧mz=i-k) ⟨a,l1,X,M,by omega,hp_l1,hn_l1,rfl⟩ ?_)))))))));rintro _ w3 _ ⟨k,l2,rfl,M,hk,hp_l2,hn_l2,rfl⟩;refine sx_seq (AE X (yb X (ya X (CK (a:=i) (b:=1) X X X AA AA) (BB X X (nq (AF X (λh58=>?_) (λh58=>?_)))))))
   ·have h58p:=(odt h58);refine sx_skip (qx_seq (sx_seq (sx_block (EH 18 (λ_=>True) CH ?_))));have M:=M.drew;refine oa 0 18 X X trivial (λ_ _=>yp X) (oa 1 18 X X trivial (λ_ _=>yp X) (oa 2 18 X X trivial (λ_ _=>yp X) (oa 3 18 X X trivial (λ_ _=>yp X) (oa 4 18 X X trivial (λ_ _=>GE X X X AA) (oa 5 18 X X trivial (λ_ _=>yp X) (oa 6 18 X X trivial (λ_ _=>yp X) (oa 7 18 X X trivial (λ_ _=>GE X X X AA) (oa 8 18 X X trivial (λ_ _=>AN (k+1) X X X X (sl X) AA) (oa 10 18 X X trivial (λ_ _=>yp X) (oa 11 18 X X trivial (λ_ _=>yp X) (oa 12 18 X X trivial (λ_ _=>AN k X X X X (sl X) AA) (G3 14 (λw'=>Mem w (λk=>k=g) [As.blk g 139 (AD Ar.cells l2++rs)] w') ?_))))))))))));obtain ⟨x3,hx3⟩:=BM (l:=l2) (i:=k+1) AA;refine EG 9 gkr (λc a t v w h=>by cases t<;>exact h) gkr gkr gkr X (wn_none X) X X M (λ_ M=>AK (xs:=Ar.cells x3) X X (B6 Ar.len (DK Ar.len (M.blk 0 X)) X hx3) underlying139 X B0) ?_;obtain ⟨x4,hx4⟩:=BM (l:=l2) (i:=k) AA;refine EG 13 gkr (λc a t v w h=>by cases t<;>exact h) gkr gkr gkr X (wn_none X) X X M (λ_ M=>AK (xs:=Ar.cells x4) X X (B6 Ar.len (DK Ar.len (M.blk 0 X)) X hx4) underlying139 X B0) (fo1 14 X X (AN k X X X X (sl X) AA) (B2 15 none gkr X (wn_none X) X X (λρ hρ=>BO 139 _ _ X g (0+k*5) 139 (AD Ar.cells l2++rs) (Ar.cells x3) (hρ _ _ X) (hρ _ _ X) (M.blk 0 X) B0 (EZ Ar.len C2 X) (Ar.cells_one _)) ?_));rintro _ w4 ⟨rfl,hbw4,hfw4⟩;rw [E9 Ar.len C2] at hbw4
    replace M:Mem w (λk=>k=g) (List.set _ 0 (As.blk g 139 (AD Ar.cells (l2.set k x3)++rs))) w4:=M.putB 0 rfl hbw4 hfw4
    refine ⟨λh=>absurd h B3,fo1 16 X X (AN (k+1) X X X X (sl X) AA) (B2 17 none gkr X (wn_none X) X X (λρ hρ=>BO 139 _ _ X g (0+(k+1)*5) 139 (AD Ar.cells (l2.set k x3)++rs) (Ar.cells x4) (hρ _ _ X) (hρ _ _ X) (M.blk 0 X) B0 (EZ Ar.len C2 X) (Ar.cells_one _)) ?_)⟩;rintro _ w5 ⟨rfl,hbw5,hfw5⟩;rw [E9 Ar.len C2] at hbw5
    replace M:Mem w (λk=>k=g) (List.set _ 0 (As.blk g 139 (AD Ar.cells ((l2.set k x3).set (k+1) x4)++rs))) w5:=M.putB 0 rfl hbw5 hfw5
    refine ⟨λh=>absurd h B3,fdn (qx_block_normal (qx_seq (sx_region (yb X (BV X X (yb X (sxl_nil (fag ⟨k+1,((l2.set k x3).set (k+1) x4),X,M,?_,?_,?_,X⟩))))))))⟩
    ·omega
    ·first
      | assumption
      | (refine (BX ?_ ?_).trans (by assumption)<;>assumption)
    ·first
      | assumption
      | (simp;assumption)
   ·exact sx_exit (qx_then_exit (qx_then_exit (qx_block_hit (qx_seq (sx_ret (qx_then_ret (qx_ret0 (Or.inl X) X ⟨X,l2,hp_l2,M.blk 0 X,M.fr⟩)))))))
 ·have h28p:=(odf h28);refine sx_skip (qx_seq (sx_seq (AE X (yb X (ya X (CK (a:=b) (b:=m) X X X AA AA) (BZ X X (nq (AF X (λh80=>?_) (λh80=>?_)))))))))
  ·have h80p:=(odt h80);refine AE X (AJ X (AE X (AJ X (sx_seq (sx_block (flp [4,2,0] (λze e wr mz=>∃(i:Nat) (j:Nat) (l1:List Ar),e=(14,AC (i:Int))::(15,AC (j:Int))::ze∧Mem w (λk=>k=g) [As.blk g 139 (AD Ar.cells l1++rs)] wr∧(a≤i∧i≤j∧j≤m)∧(l1.Perm l)∧(l1.length=n)∧mz=j-i) ⟨a,m,l,X,M,by omega,hp_l,hn_l,rfl⟩ ?_))))));rintro _ w6 _ ⟨i,j,l1,rfl,M,hij,hp_l1,hn_l1,rfl⟩;refine sx_seq (AE X (yb X (BB X X (nq (AF X (λh85=>?_) (λh85=>?_))))))
   ·have h85p:=(odt h85);refine sx_skip (qx_seq (sx_block (AE X (yb X (BV X X (ya X (JN X X underlying3 underlying44 AA) (ya X (M7 (a:=i+j) X X X) (ya X (JO X X underlying44 underlying3 AA) (AJ X (sx_seq (CY 9 CH gkr ?_)))))))))));have M:=M.drew;refine sb X (sb X (sb X (sa X (AN m X X X X (sl X) AA) ?_)));obtain ⟨x5,hx5⟩:=BM (l:=l1) (i:=m) AA;refine sa X (AK (xs:=Ar.cells x5) X X (B6 Ar.len (DK Ar.len (M.blk 0 X)) X hx5) underlying139 X B0) (sb X (sb X (sa X (AN ((i+j) / 2) X X X X (sl X) AA) ?_)));obtain ⟨x6,hx6⟩:=BM (l:=l1) (i:=(i+j) / 2) AA;refine sa X (AK (xs:=Ar.cells x6) X X (B6 Ar.len (DK Ar.len (M.blk 0 X)) X hx6) underlying139 X B0) (C8 (LZ M 101 X (BJ X X X hfc) (hcmp _ _ _) λw7 M=>BB X X (AJ X (AF X (λh103=>?_) (λh103=>?_)))))
    ·have h103p:=(odf (C5 h103));refine sx_region (yb X (BV X X (yb X (sxl_nil (qx_block_normal (fag ⟨((i+j) / 2)+1,j,l1,X,M,?_,?_,?_,X⟩))))))
     ·omega
     ·first
       | assumption
       | (refine (BX ?_ ?_).trans (by assumption)<;>assumption)
     ·first
       | assumption
       | (simp;assumption)
    ·have h103p:=(odt (BL h103));refine sx_region (AV X X (sxl_nil (qx_block_normal (fag ⟨i,(i+j) / 2,l1,X,M,?_,?_,?_,X⟩))))
     ·omega
     ·first
       | assumption
       | (refine (BX ?_ ?_).trans (by assumption)<;>assumption)
     ·first
       | assumption
       | (simp;assumption)
   ·have h85p:=(odf h85);refine sx_exit (qx_then_exit (qx_then_exit (qx_block_hit (qx_seq (sx_seq (AE X (AJ X (sx_block (flp [14,0] (λze e wr mz=>∃(k:Nat) (l2:List Ar),e=(17,AC ((k:Nat):Int))::ze∧Mem w (λk=>k=g) [As.blk g 139 (AD Ar.cells l2++rs)] wr∧(i≤k∧k≤m)∧(l2.Perm l)∧(l2.length=n)∧mz=k-i) ⟨m,l1,X,M,by omega,hp_l1,hn_l1,rfl⟩ ?_)))))))));rintro _ w8 _ ⟨k,l2,rfl,M,hk,hp_l2,hn_l2,rfl⟩;refine sx_seq (AE X (yb X (IM X X (nq (AF X (λh110=>?_) (λh110=>?_))))))
    ·have h110p:=(odt h110);refine sx_skip (qx_seq (sx_seq (sx_block (EH 18 (λ_=>True) CH ?_))));have M:=M.drew;refine oa 0 18 X X trivial (λ_ _=>yp X) (oa 1 18 X X trivial (λ_ _=>yp X) (oa 2 18 X X trivial (λ_ _=>yp X) (oa 3 18 X X trivial (λ_ _=>yp X) (oa 4 18 X X trivial (λ_ _=>CK (a:=k) (b:=1) X X X AA AA) (oa 5 18 X X trivial (λ_ _=>yp X) (oa 6 18 X X trivial (λ_ _=>yp X) (oa 7 18 X X trivial (λ_ _=>CK (a:=k) (b:=1) X X X AA AA) (oa 8 18 X X trivial (λ_ _=>AN (k-1) X X X X (sl X) AA) (oa 10 18 X X trivial (λ_ _=>yp X) (oa 11 18 X X trivial (λ_ _=>yp X) (oa 12 18 X X trivial (λ_ _=>AN k X X X X (sl X) AA) (G3 14 (λw'=>Mem w (λk=>k=g) [As.blk g 139 (AD Ar.cells l2++rs)] w') ?_))))))))))));obtain ⟨x7,hx7⟩:=BM (l:=l2) (i:=k-1) AA;refine EG 9 gkr (λc a t v w h=>by cases t<;>exact h) gkr gkr gkr X (wn_none X) X X M (λ_ M=>AK (xs:=Ar.cells x7) X X (B6 Ar.len (DK Ar.len (M.blk 0 X)) X hx7) underlying139 X B0) ?_;obtain ⟨x8,hx8⟩:=BM (l:=l2) (i:=k) AA;refine EG 13 gkr (λc a t v w h=>by cases t<;>exact h) gkr gkr gkr X (wn_none X) X X M (λ_ M=>AK (xs:=Ar.cells x8) X X (B6 Ar.len (DK Ar.len (M.blk 0 X)) X hx8) underlying139 X B0) (fo1 14 X X (AN k X X X X (sl X) AA) (B2 15 none gkr X (wn_none X) X X (λρ hρ=>BO 139 _ _ X g (0+k*5) 139 (AD Ar.cells l2++rs) (Ar.cells x7) (hρ _ _ X) (hρ _ _ X) (M.blk 0 X) B0 (EZ Ar.len C2 X) (Ar.cells_one _)) ?_));rintro _ w9 ⟨rfl,hbw9,hfw9⟩;rw [E9 Ar.len C2] at hbw9
     replace M:Mem w (λk=>k=g) (List.set _ 0 (As.blk g 139 (AD Ar.cells (l2.set k x7)++rs))) w9:=M.putB 0 rfl hbw9 hfw9
     refine ⟨λh=>absurd h B3,fo1 16 X X (AN (k-1) X X X X (sl X) AA) (B2 17 none gkr X (wn_none X) X X (λρ hρ=>BO 139 _ _ X g (0+(k-1)*5) 139 (AD Ar.cells (l2.set k x7)++rs) (Ar.cells x8) (hρ _ _ X) (hρ _ _ X) (M.blk 0 X) B0 (EZ Ar.len C2 X) (Ar.cells_one _)) ?_)⟩;rintro _ w10 ⟨rfl,hbw10,hfw10⟩;rw [E9 Ar.len C2] at hbw10
     replace M:Mem w (λk=>k=g) (List.set _ 0 (As.blk g 139 (AD Ar.cells ((l2.set k x7).set (k-1) x8)++rs))) w10:=M.putB 0 rfl hbw10 hfw10
     refine ⟨λh=>absurd h B3,fdn (qx_block_normal (qx_seq (sx_region (yb X (ya X (CK (a:=k) (b:=1) X X X AA AA) (yb X (sxl_nil (fag ⟨k-1,((l2.set k x7).set (k-1) x8),X,M,?_,?_,?_,X⟩))))))))⟩
     ·omega
     ·first
       | assumption
       | (refine (BX ?_ ?_).trans (by assumption)<;>assumption)
     ·first
       | assumption
       | (simp;assumption)
    ·exact sx_exit (qx_then_exit (qx_then_exit (qx_block_hit (qx_seq (sx_ret (qx_then_ret (qx_ret0 (Or.inl X) X ⟨X,l2,hp_l2,M.blk 0 X,M.fr⟩)))))))
  ·have h80p:=(odf h80);refine sx_skip (qx_seq (AE X (yb X (BV X X (ya X (JN X X underlying3 underlying44 AA) (ya X (M7 (a:=a+b) X X X) (ya X (JO X X underlying44 underlying3 AA) (AJ X (AE X ?_)))))))));refine yb X (BV X X (AJ X (AE X (AJ X (sx_seq (AE X (yb X ?_)))))));refine IM X X (nq (IR [(0,.slice (some ⟨g,0,none⟩) n cp),(1,AC ((a:Nat):Int)),(2,AC (m:Int)),(3,AC (b:Int)),(4,.func (.func fc) #[] #[]),(18,AC (((a+b) / 2:Nat):Int)),(19,AC ((((a+b) / 2)+m:Nat):Int)),(20,AC ((if (decide ((((a+b) / 2:Nat):Int)<(m:Int))) then (((a+b) / 2)+m)-b else a:Nat):Int)),(21,AC ((if (decide ((((a+b) / 2:Nat):Int)<(m:Int))) then (a+b) / 2 else m:Nat):Int))] (λw'=>Mem w (λk=>k=g) [As.blk g 139 (AD Ar.cells l++rs)] w') ?_ (λk140=>?_)))
   ·intro w11 M;refine qx_seq (AE X (ya X (CK (a:=((a+b) / 2)+m) (b:=1) X X X AA AA) (AJ X (sx_seq (sx_block ?_)))))
    have hst:((a+b) / 2<m∧(if (decide ((((a+b) / 2:Nat):Int)<(m:Int))) then (((a+b) / 2)+m)-b else a)+b=(a+b) / 2+m∧(if (decide ((((a+b) / 2:Nat):Int)<(m:Int))) then (a+b) / 2 else m)=(a+b) / 2)∨(m≤(a+b) / 2∧(if (decide ((((a+b) / 2:Nat):Int)<(m:Int))) then (((a+b) / 2)+m)-b else a)=a∧(if (decide ((((a+b) / 2:Nat):Int)<(m:Int))) then (a+b) / 2 else m)=m):=by
     split
     ·rename_i hq
      have:=odt hq
      left;omega
     ·rename_i hq
      have:=odf (Bool.eq_false_iff.2 hq)
      right;omega
    obtain ⟨s0,hs0⟩:∃s0:Nat,s0=if (decide ((((a+b) / 2:Nat):Int)<(m:Int))) then (((a+b) / 2)+m)-b else a:=⟨_,X⟩
    obtain ⟨r0,hr0⟩:∃r0:Nat,r0=if (decide ((((a+b) / 2:Nat):Int)<(m:Int))) then (a+b) / 2 else m:=⟨_,X⟩
    rw [←hs0,←hr0] at hst
    refine flp [22,19,18,4,3,2,1,0] (λze e wr mz=>∃(s:Nat) (r:Nat) (l1:List Ar),e=(20,AC (s:Int))::(21,AC (r:Int))::ze∧Mem w (λk=>k=g) [As.blk g 139 (AD Ar.cells l1++rs)] wr∧(s0≤s∧s≤r∧r≤r0)∧(l1.Perm l)∧(l1.length=n)∧mz=r-s) ⟨(if (decide ((((a+b) / 2:Nat):Int)<(m:Int))) then (((a+b) / 2)+m)-b else a),(if (decide ((((a+b) / 2:Nat):Int)<(m:Int))) then (a+b) / 2 else m),l,X,M,by rw [←hs0,←hr0];omega,hp_l,hn_l,rfl⟩ ?_;rintro _ w12 _ ⟨s,r,l1,rfl,M,hsr,hp_l1,hn_l1,rfl⟩;refine sx_seq (AE X (yb X (BB X X (nq (AF X (λh151=>?_) (λh151=>?_))))))
    ·have h151p:=(odt h151);refine sx_skip (qx_seq (sx_block (AE X (yb X (BV X X (ya X (JN X X underlying3 underlying44 AA) (ya X (M7 (a:=s+r) X X X) (ya X (JO X X underlying44 underlying3 AA) (AJ X (sx_seq (CY 11 CH gkr ?_)))))))))));have M:=M.drew;iterate 4 refine sb X ?_
     refine sa X (CK (a:=(((a+b) / 2)+m)-1) (b:=(s+r) / 2) X X X AA AA) (sa X (AN (((((a+b) / 2)+m)-1)-((s+r) / 2)) X X X X (sl X) AA) ?_);obtain ⟨x9,hx9⟩:=BM (l:=l1) (i:=((((a+b) / 2)+m)-1)-((s+r) / 2)) AA;refine sa X (AK (xs:=Ar.cells x9) X X (B6 Ar.len (DK Ar.len (M.blk 0 X)) X hx9) underlying139 X B0) (sb X (sb X (sa X (AN ((s+r) / 2) X X X X (sl X) AA) ?_)));obtain ⟨x10,hx10⟩:=BM (l:=l1) (i:=(s+r) / 2) AA;refine sa X (AK (xs:=Ar.cells x10) X X (B6 Ar.len (DK Ar.len (M.blk 0 X)) X hx10) underlying139 X B0) (C8 (LZ M 169 X (BJ X X X hfc) (hcmp _ _ _) λw13 M=>BB X X (AJ X (AF X (λh171=>?_) (λh171=>?_)))))
     ·have h171p:=(odf (C5 h171));refine sx_region (yb X (BV X X (yb X (sxl_nil (qx_block_normal (fag ⟨((s+r) / 2)+1,r,l1,X,M,?_,?_,?_,X⟩))))))
      ·omega
      ·first
        | assumption
        | (refine (BX ?_ ?_).trans (by assumption)<;>assumption)
      ·first
        | assumption
        | (simp;assumption)
     ·have h171p:=(odt (BL h171));refine sx_region (AV X X (sxl_nil (qx_block_normal (fag ⟨s,(s+r) / 2,l1,X,M,?_,?_,?_,X⟩))))
      ·omega
      ·first
        | assumption
        | (refine (BX ?_ ?_).trans (by assumption)<;>assumption)
      ·first
        | assumption
        | (simp;assumption)
    ·have h151p:=(odf h151);refine sx_exit (qx_then_exit (qx_then_exit (qx_block_hit (qx_seq (AE X (yb X (ya X (CK (a:=((a+b) / 2)+m) (b:=s) X X X AA AA) (AJ X (sx_seq (srg ?_))))))))));refine AV X X (BB X X (yb X (fvm M 4 [24,20,18,4,3,2,1,0] [(185,.bool ((decide ((s:Int)<(m:Int)))&&(decide ((m:Int)<(((((a+b) / 2)+m)-s:Nat):Int)))))] ?_ (λk181=>?_))))
     ·intro w14 M;refine nq (AF X (λh185=>?_) (λh185=>?_))
      ·have h185p:=(And.intro (odt (BR h185).1) (odt (BR h185).2));refine sx_region ?_;iterate 5 refine yb X ?_
       refine cl 191 X (AG X X call204) (vX g n cp fc rs s m ((((a+b) / 2)+m)-s) hm l1 _ (M.blk 0 X) hn_l1 AA AA AA) ?_;rintro _ w15 ⟨rfl,l11,hqw15,hbw15,hfw15⟩;refine ⟨_,X,?_⟩;have M:=M.putB 0 X hbw15 hfw15;have hp_l11:l11.Perm l:=hqw15.trans hp_l1;have hn_l11:l11.length=n:=hqw15.length_eq.trans hn_l1;refine nq (sx_seq (AE X (yb X (BB X X (yb X (fvm M 4 [24,20,18,4,3,1,0] [(199,.bool ((decide (((a:Nat):Int)<(s:Int)))&&(decide ((s:Int)<(((a+b) / 2:Nat):Int)))))] ?_ (λk195=>?_)))))))
       ·intro w16 M;refine nq (AF X (λh199=>?_) (λh199=>?_))
        ·have h199p:=(And.intro (odt (BR h199).1) (odt (BR h199).2));refine sx_region ?_;iterate 5 refine yb X ?_
         refine cl 205 X (AG X X call188) (hrec a s ((a+b) / 2) l11 _ AA AA AA AA (M.blk 0 X) hn_l11) ?_;rintro _ w17 ⟨rfl,l12,hqw17,hbw17,hfw17⟩;refine ⟨_,X,?_⟩;have M:=M.putB 0 X hbw17 hfw17;have hp_l12:l12.Perm l:=hqw17.trans hp_l11;have hn_l12:l12.length=n:=hqw17.length_eq.trans hn_l11;refine nq (AE X (yb X (BB X X (yb X (fvm M 4 [24,18,4,3,0] [(213,.bool ((decide ((((a+b) / 2:Nat):Int)<(((((a+b) / 2)+m)-s:Nat):Int)))&&(decide ((((((a+b) / 2)+m)-s:Nat):Int)<(b:Int)))))] ?_ (λk209=>?_))))))
         ·intro w18 M;refine nq (AF X (λh213=>?_) (λh213=>?_))
          ·have h213p:=(And.intro (odt (BR h213).1) (odt (BR h213).2));refine sx_region ?_;iterate 5 refine yb X ?_
           refine cl 219 X (AG X X call188) (hrec ((a+b) / 2) ((((a+b) / 2)+m)-s) b l12 _ AA AA AA AA (M.blk 0 X) hn_l12) ?_;rintro _ w19 ⟨rfl,l13,hqw19,hbw19,hfw19⟩;refine ⟨_,X,?_⟩;have M:=M.putB 0 X hbw19 hfw19;have hp_l13:l13.Perm l:=hqw19.trans hp_l12;have hn_l13:l13.length=n:=hqw19.length_eq.trans hn_l12;exact sxl_nil (qx_ret0 (Or.inr X) X ⟨X,l13,hp_l13,M.blk 0 X,M.fr⟩)
          ·have h213p:=((CV h213).imp (λz=>(odf z)) (λz=>(odf z)));exact sx_skip (qx_ret0 (Or.inr X) X ⟨X,l12,hp_l12,M.blk 0 X,M.fr⟩)
         refine AI (d:=209) X (λh209=>?_) (λh209=>?_)
         ·exact gyq X (gyq X (yd X (E0 X X X) (yb X (k209 M ⟨X,X,X,X,X,(by rw [h209];rfl),trivial⟩))))
         ·exact yo X (yo X (yo X (yb X (k209 M ⟨X,X,X,X,X,(by rw [h209];rfl),trivial⟩))))
        ·have h199p:=((CV h199).imp (λz=>(odf z)) (λz=>(odf z)));refine sx_skip (qx_seq (AE X (yb X (BB X X (yb X (fvm M 4 [24,18,4,3,0] [(213,.bool ((decide ((((a+b) / 2:Nat):Int)<(((((a+b) / 2)+m)-s:Nat):Int)))&&(decide ((((((a+b) / 2)+m)-s:Nat):Int)<(b:Int)))))] ?_ (λk209=>?_)))))))
         ·intro w20 M;refine nq (AF X (λh213=>?_) (λh213=>?_))
          ·have h213p:=(And.intro (odt (BR h213).1) (odt (BR h213).2));refine sx_region ?_;iterate 5 refine yb X ?_
           refine cl 219 X (AG X X call188) (hrec ((a+b) / 2) ((((a+b) / 2)+m)-s) b l11 _ AA AA AA AA (M.blk 0 X) hn_l11) ?_;rintro _ w21 ⟨rfl,l14,hqw21,hbw21,hfw21⟩;refine ⟨_,X,?_⟩;have M:=M.putB 0 X hbw21 hfw21;have hp_l14:l14.Perm l:=hqw21.trans hp_l11;have hn_l14:l14.length=n:=hqw21.length_eq.trans hn_l11;exact sxl_nil (qx_ret0 (Or.inr X) X ⟨X,l14,hp_l14,M.blk 0 X,M.fr⟩)
          ·have h213p:=((CV h213).imp (λz=>(odf z)) (λz=>(odf z)));exact sx_skip (qx_ret0 (Or.inr X) X ⟨X,l11,hp_l11,M.blk 0 X,M.fr⟩)
         refine AI (d:=209) X (λh209=>?_) (λh209=>?_)
         ·exact gyq X (gyq X (yd X (E0 X X X) (yb X (k209 M ⟨X,X,X,X,X,(by rw [h209];rfl),trivial⟩))))
         ·exact yo X (yo X (yo X (yb X (k209 M ⟨X,X,X,X,X,(by rw [h209];rfl),trivial⟩))))
       refine AI (d:=195) X (λh195=>?_) (λh195=>?_)
       ·exact gyq X (gyq X (yd X (E0 X X X) (yb X (k195 M ⟨X,X,X,X,X,X,X,(by rw [h195];rfl),trivial⟩))))
       ·exact yo X (yo X (yo X (yb X (k195 M ⟨X,X,X,X,X,X,X,(by rw [h195];rfl),trivial⟩))))
      ·have h185p:=((CV h185).imp (λz=>(odf z)) (λz=>(odf z)));refine sx_skip (qx_seq (sx_seq (AE X (yb X (BB X X (yb X (fvm M 4 [24,20,18,4,3,1,0] [(199,.bool ((decide (((a:Nat):Int)<(s:Int)))&&(decide ((s:Int)<(((a+b) / 2:Nat):Int)))))] ?_ (λk195=>?_))))))))
       ·intro w22 M;refine nq (AF X (λh199=>?_) (λh199=>?_))
        ·have h199p:=(And.intro (odt (BR h199).1) (odt (BR h199).2));refine sx_region ?_;iterate 5 refine yb X ?_
         refine cl 205 X (AG X X call188) (hrec a s ((a+b) / 2) l1 _ AA AA AA AA (M.blk 0 X) hn_l1) ?_;rintro _ w23 ⟨rfl,l15,hqw23,hbw23,hfw23⟩;refine ⟨_,X,?_⟩;have M:=M.putB 0 X hbw23 hfw23;have hp_l15:l15.Perm l:=hqw23.trans hp_l1;have hn_l15:l15.length=n:=hqw23.length_eq.trans hn_l1;refine nq (AE X (yb X (BB X X (yb X (fvm M 4 [24,18,4,3,0] [(213,.bool ((decide ((((a+b) / 2:Nat):Int)<(((((a+b) / 2)+m)-s:Nat):Int)))&&(decide ((((((a+b) / 2)+m)-s:Nat):Int)<(b:Int)))))] ?_ (λk209=>?_))))))
         ·intro w24 M;refine nq (AF X (λh213=>?_) (λh213=>?_))
          ·have h213p:=(And.intro (odt (BR h213).1) (odt (BR h213).2));refine sx_region ?_;iterate 5 refine yb X ?_
           refine cl 219 X (AG X X call188) (hrec ((a+b) / 2) ((((a+b) / 2)+m)-s) b l15 _ AA AA AA AA (M.blk 0 X) hn_l15) ?_;rintro _ w25 ⟨rfl,l16,hqw25,hbw25,hfw25⟩;refine ⟨_,X,?_⟩;have M:=M.putB 0 X hbw25 hfw25;have hp_l16:l16.Perm l:=hqw25.trans hp_l15;have hn_l16:l16.length=n:=hqw25.length_eq.trans hn_l15;exact sxl_nil (qx_ret0 (Or.inr X) X ⟨X,l16,hp_l16,M.blk 0 X,M.fr⟩)
          ·have h213p:=((CV h213).imp (λz=>(odf z)) (λz=>(odf z)));exact sx_skip (qx_ret0 (Or.inr X) X ⟨X,l15,hp_l15,M.blk 0 X,M.fr⟩)
         refine AI (d:=209) X (λh209=>?_) (λh209=>?_)
         ·exact gyq X (gyq X (yd X (E0 X X X) (yb X (k209 M ⟨X,X,X,X,X,(by rw [h209];rfl),trivial⟩))))
         ·exact yo X (yo X (yo X (yb X (k209 M ⟨X,X,X,X,X,(by rw [h209];rfl),trivial⟩))))
        ·have h199p:=((CV h199).imp (λz=>(odf z)) (λz=>(odf z)));refine sx_skip (qx_seq (AE X (yb X (BB X X (yb X (fvm M 4 [24,18,4,3,0] [(213,.bool ((decide ((((a+b) / 2:Nat):Int)<(((((a+b) / 2)+m)-s:Nat):Int)))&&(decide ((((((a+b) / 2)+m)-s:Nat):Int)<(b:Int)))))] ?_ (λk209=>?_)))))))
         ·intro w26 M;refine nq (AF X (λh213=>?_) (λh213=>?_))
          ·have h213p:=(And.intro (odt (BR h213).1) (odt (BR h213).2));refine sx_region ?_;iterate 5 refine yb X ?_
           refine cl 219 X (AG X X call188) (hrec ((a+b) / 2) ((((a+b) / 2)+m)-s) b l1 _ AA AA AA AA (M.blk 0 X) hn_l1) ?_;rintro _ w27 ⟨rfl,l17,hqw27,hbw27,hfw27⟩;refine ⟨_,X,?_⟩;have M:=M.putB 0 X hbw27 hfw27;have hp_l17:l17.Perm l:=hqw27.trans hp_l1;have hn_l17:l17.length=n:=hqw27.length_eq.trans hn_l1;exact sxl_nil (qx_ret0 (Or.inr X) X ⟨X,l17,hp_l17,M.blk 0 X,M.fr⟩)
          ·have h213p:=((CV h213).imp (λz=>(odf z)) (λz=>(odf z)));exact sx_skip (qx_ret0 (Or.inr X) X ⟨X,l1,hp_l1,M.blk 0 X,M.fr⟩)
         refine AI (d:=209) X (λh209=>?_) (λh209=>?_)
         ·exact gyq X (gyq X (yd X (E0 X X X) (yb X (k209 M ⟨X,X,X,X,X,(by rw [h209];rfl),trivial⟩))))
         ·exact yo X (yo X (yo X (yb X (k209 M ⟨X,X,X,X,X,(by rw [h209];rfl),trivial⟩))))
       refine AI (d:=195) X (λh195=>?_) (λh195=>?_)
       ·exact gyq X (gyq X (yd X (E0 X X X) (yb X (k195 M ⟨X,X,X,X,X,X,X,(by rw [h195];rfl),trivial⟩))))
       ·exact yo X (yo X (yo X (yb X (k195 M ⟨X,X,X,X,X,X,X,(by rw [h195];rfl),trivial⟩))))
     refine AI (d:=181) X (λh181=>?_) (λh181=>?_)
     ·exact gyq X (gyq X (yd X (E0 X X X) (yb X (k181 M ⟨X,X,X,X,X,X,X,X,(by rw [h181];rfl),trivial⟩))))
     ·exact yo X (yo X (yo X (yb X (k181 M ⟨X,X,X,X,X,X,X,X,(by rw [h181];rfl),trivial⟩))))
   refine AF X (λh140=>?_) (λh140=>?_)
   ·have h140p:=(odt h140);exact AE X (yb X (ya X (CK (a:=((a+b) / 2)+m) (b:=b) X X X AA AA) (AJ X (sx_region (AV X X (sxl_nil (k140 _ _ M ⟨X,X,X,X,X,X,X,(by rw [h140];rfl),(by rw [h140];rfl),trivial⟩)))))))
   ·exact AE X (AJ X (sx_region (AV X X (sxl_nil (k140 _ _ M ⟨X,X,X,X,X,X,X,(by rw [h140];rfl),(by rw [h140];rfl),trivial⟩)))))
theorem kR (g n cp:Nat) (fc:FuncId) (fq:Ar→Ar→Int) (rs:List Value) (hfc:∀(ar:Array Value) (w:World),(callFunc fc ar).run prog w=.ok (.enter fc ar) w) (hcmp:∀(a b:Ar) (w:World),Calls prog fc #[.agg a.cells.toArray,.agg b.cells.toArray] w (BI w (AC (fq a b)))) (hm:n≤1000000000):∀(d a m b:Nat) (l:List Ar) (w:World),b-a≤d→a<m→m<b→b≤n→Blk w g 139 (AD Ar.cells l++rs)→l.length=n→Calls prog 188 #[.slice (some ⟨g,0,none⟩) n cp,AC ((a:Nat):Int),AC ((m:Nat):Int),AC ((b:Nat):Int),.func (.func fc) #[] #[]] w λe w'=>e=.returned (.tuple #[])∧∃l':List Ar,l'.Perm l∧Blk w' g 139 (AD Ar.cells l'++rs)∧Fr (λk=>k=g) w w':=by
 intro d
 induction d with
 | zero=>intro a m b l w hd h1 h2;omega
 | succ d ih=>exact λa m b l w hd h1 h2 h3 hb hn=>kQ g n cp fc fq rs a m b hfc hcmp hm l w hb hn h1 h2 h3 λa' m' b' l w q1 q2 q3 q4 hb hn=>ih a' m' b' l w AA q1 q2 q3 hb hn
theorem lC (g n cp:Nat) (fc:FuncId) (fq:Ar→Ar→Int) (rs:List Value) (hfc:∀(ar:Array Value) (w:World),(callFunc fc ar).run prog w=.ok (.enter fc ar) w) (hcmp:∀(a b:Ar) (w:World),Calls prog fc #[.agg a.cells.toArray,.agg b.cells.toArray] w (BI w (AC (fq a b)))) (hm:n≤1000000000) (l:List Ar) (w:World) (hb:Blk w g 139 (AD Ar.cells l++rs)) (hn:l.length=n) :
 Calls prog 155 #[.slice (some ⟨g,0,none⟩) n cp,AC (n:Int),.func (.func fc) #[] #[]] w λe w'=>e=.returned (.tuple #[])∧∃l':List Ar,l'.Perm l∧Blk w' g 139 (AD Ar.cells l'++rs)∧Fr (λk=>k=g) w w':=by
 have hp_l:l.Perm l:=List.Perm.refl _;have hn_l:l.length=n:=hn;refine sx_enter (vs:=[_,_,_]) func155 X ntmps155 X ?_;have M:Mem w (λk=>k=g) [As.blk g 139 (AD Ar.cells l++rs)] w:=Mem.one hb;refine srg (AJ X (AE X (yb X (AJ X (sx_seq (sx_block (flp [6,2,1,0] (λze e wr mz=>∃(x:Nat) (l1:List Ar),e=(7,AC (x:Int))::(8,AC ((x+20:Nat):Int))::ze∧Mem w (λk=>k=g) [As.blk g 139 (AD Ar.cells l1++rs)] wr∧(x≤n)∧(l1.Perm l)∧(l1.length=n)∧mz=n-x) ⟨0,l,X,M,Nat.zero_le _,hp_l,hn_l,X⟩ ?_)))))));rintro _ w1 _ ⟨x,l1,rfl,M,hx,hp_l1,hn_l1,rfl⟩;refine sx_seq (AE X (yb X (MT X X (nq (AF X (λh13=>?_) (λh13=>?_))))))
 ·have h13p:=(odt h13);refine sx_skip (qx_seq (sx_block (srg ?_)));iterate 4 refine yb X ?_
  refine cl 18 X (AG X X call187) (dU g n cp fc fq rs x (x+20) hfc hcmp hm l1 _ (M.blk 0 X) hn_l1 AA AA) ?_;rintro _ w2 ⟨rfl,l1,hqw2,hbw2,hfw2⟩;refine ⟨_,X,?_⟩;have M:=M.putB 0 X hbw2 hfw2;have hp_l1:l1.Perm l:=hqw2.trans hp_l1;have hn_l1:l1.length=n:=hqw2.length_eq.trans hn_l1;refine nq (AE X (AJ X (sx_region (AV X X (BV X X (yb X (sxl_nil (qx_block_normal (fag ⟨x+20,l1,X,M,?_,?_,?_,X⟩)))))))))
  ·omega
  ·first
    | assumption
    | (refine (BX ?_ ?_).trans (by assumption)<;>assumption)
  ·first
    | assumption
    | (simp;assumption)
 ·have h13p:=(odf h13);refine sx_exit (qx_then_exit (qx_then_exit (qx_block_hit (qx_seq (srg ?_)))));iterate 4 refine yb X ?_
  refine cl 27 X (AG X X call187) (dU g n cp fc fq rs x n hfc hcmp hm l1 _ (M.blk 0 X) hn_l1 AA AA) ?_;rintro _ w3 ⟨rfl,l2,hqw3,hbw3,hfw3⟩;refine ⟨_,X,?_⟩;have M:=M.putB 0 X hbw3 hfw3;have hp_l2:l2.Perm l:=hqw3.trans hp_l1;have hn_l2:l2.length=n:=hqw3.length_eq.trans hn_l1;refine nq (sx_block (flp [2,1,0] (λze e wr mz=>∃(z:Nat) (l2:List Ar),e=(6,AC (z:Int))::ze∧Mem w (λk=>k=g) [As.blk g 139 (AD Ar.cells l2++rs)] wr∧(20≤z∧z≤2*n+20)∧(l2.Perm l)∧(l2.length=n)∧mz=n-z) ⟨20,l2,X,M,by omega,hp_l2,hn_l2,rfl⟩ ?_));rintro _ w4 _ ⟨z,l2,rfl,M,hz,hp_l2,hn_l2,rfl⟩;refine sx_seq (AE X (yb X (BB X X (nq (AF X (λh30=>?_) (λh30=>?_))))))
  ·have h30p:=(odt h30);refine sx_skip (qx_seq (sx_block (AE X (ya X (M8 (a:=2) (b:=z) X X X AA) (yb X (AJ X (sx_seq (sx_block (flp [6,2,1,0] (λze e wr mz=>∃(y:Nat) (y8:Nat) (l3:List Ar),e=(7,AC (y:Int))::(8,AC (y8:Int))::ze∧Mem w (λk=>k=g) [As.blk g 139 (AD Ar.cells l3++rs)] wr∧(y≤n)∧(y8=y+2*z)∧(l3.Perm l)∧(l3.length=n)∧mz=n-y) ⟨0,(2*z),l2,X,M,Nat.zero_le _,by omega,hp_l2,hn_l2,rfl⟩ ?_)))))))));rintro _ w5 _ ⟨y,y8,l3,rfl,M,hy,hy8,hp_l3,hn_l3,rfl⟩;refine sx_seq (AE X (yb X (MT X X (nq (AF X (λh35=>?_) (λh35=>?_))))))
   ·have h35p:=(odt h35);refine sx_skip (qx_seq (sx_block (srg ?_)));iterate 4 refine yb X ?_
    refine BV X X (AV X X (cl 43 X (AG X X call188) (kR g n cp fc fq rs hfc hcmp hm n y (y+z) y8 l3 _ AA AA AA AA (M.blk 0 X) hn_l3) ?_));rintro _ w6 ⟨rfl,l3,hqw6,hbw6,hfw6⟩;refine ⟨_,X,?_⟩;have M:=M.putB 0 X hbw6 hfw6;have hp_l3:l3.Perm l:=hqw6.trans hp_l3;have hn_l3:l3.length=n:=hqw6.length_eq.trans hn_l3;refine nq (AE X (AJ X (sx_region (AV X X (ya X (M8 (a:=2) (b:=z) X X X AA) (BV X X (yb X (sxl_nil (qx_block_normal ?_)))))))));refine fag ⟨y8,y8+(2*z),l3,X,M,?_,?_,?_,?_,X⟩
    ·omega
    ·omega
    ·first
      | assumption
      | (refine (BX ?_ ?_).trans (by assumption)<;>assumption)
    ·first
      | assumption
      | (simp;assumption)
   ·have h35p:=(odf h35);refine sx_exit (qx_then_exit (qx_then_exit (qx_block_hit (qx_seq (sx_seq (AE X (yb X (BV X X (AJ X (srg ?_))))))))));refine AV X X (BB X X (nq (AF X (λh54=>?_) (λh54=>?_))))
    ·have h54p:=(odt h54);refine sx_region ?_;iterate 5 refine yb X ?_
     refine cl 60 X (AG X X call188) (kR g n cp fc fq rs hfc hcmp hm n y (y+z) n l3 _ AA AA AA AA (M.blk 0 X) hn_l3) ?_;rintro _ w7 ⟨rfl,l4,hqw7,hbw7,hfw7⟩;refine ⟨_,X,?_⟩;have M:=M.putB 0 X hbw7 hfw7;have hp_l4:l4.Perm l:=hqw7.trans hp_l3;have hn_l4:l4.length=n:=hqw7.length_eq.trans hn_l3;refine nq (sx_region (yb X (ya X (M8 (a:=z) (b:=2) X X X AA) (yb X (sxl_nil (qx_block_normal (fag ⟨z*2,l4,X,M,?_,?_,?_,X⟩)))))))
     ·omega
     ·first
       | assumption
       | (refine (BX ?_ ?_).trans (by assumption)<;>assumption)
     ·first
       | assumption
       | (simp;assumption)
    ·have h54p:=(odf h54);refine sx_skip (qx_seq (sx_region (yb X (ya X (M8 (a:=z) (b:=2) X X X AA) (yb X (sxl_nil (qx_block_normal (fag ⟨z*2,l3,X,M,?_,?_,?_,X⟩))))))))
     ·omega
     ·first
       | assumption
       | (refine (BX ?_ ?_).trans (by assumption)<;>assumption)
     ·first
       | assumption
       | (simp;assumption)
  ·exact sx_exit (qx_then_exit (qx_then_exit (qx_block_hit (qx_ret0 (Or.inr X) X ⟨X,l2,hp_l2,M.blk 0 X,M.fr⟩))))
theorem aL (g n cp:Nat) (fc:FuncId) (fq:Ar→Ar→Int) (rs:List Value) (hfc:∀(ar:Array Value) (w:World),(callFunc fc ar).run prog w=.ok (.enter fc ar) w) (hcmp:∀(a b:Ar) (w:World),Calls prog fc #[.agg a.cells.toArray,.agg b.cells.toArray] w (BI w (AC (fq a b)))) (hm:n≤1000000000) (l:List Ar) (w:World) (hb:Blk w g 139 (AD Ar.cells l++rs)) (hn:l.length=n) :
 Calls prog 98 #[.slice (some ⟨g,0,none⟩) n cp,.func (.func fc) #[] #[]] w λe w'=>e=.returned (.tuple #[])∧∃l':List Ar,l'.Perm l∧Blk w' g 139 (AD Ar.cells l'++rs)∧Fr (λk=>k=g) w w':=by
 have hp_l:l.Perm l:=List.Perm.refl _;have hn_l:l.length=n:=hn;refine sx_enter (vs:=[_,_]) func98 X ntmps98 X ?_;have M:Mem w (λk=>k=g) [As.blk g 139 (AD Ar.cells l++rs)] w:=Mem.one hb;refine sx_region (AV X X (DF X X (yb X (cl 8 X (AG X X call155) (lC g n cp fc fq rs hfc hcmp hm l _ (M.blk 0 X) hn_l) ?_))));rintro _ w1 ⟨rfl,l1,hqw1,hbw1,hfw1⟩;refine ⟨_,X,?_⟩;have M:=M.putB 0 X hbw1 hfw1;have hp_l1:l1.Perm l:=hqw1.trans hp_l;have hn_l1:l1.length=n:=hqw1.length_eq.trans hn_l;exact sxl_nil (qx_ret0 (Or.inr X) X ⟨X,l1,hp_l1,M.blk 0 X,M.fr⟩)
theorem nF (A:Option Addr) (cp:Nat) (fc:FuncId) (w:World):Calls prog 187 #[.slice A 0 cp,AC 0,AC 0,.func (.func fc) #[] #[]] w (BI w (.tuple #[])):=by
 refine BH func187 ntmps187 X λM=>AE X (BV X X (AJ X (sx_block (sx_loop (λe wr mz=>e=[(0,.slice A 0 cp),(1,AC 0),(2,AC 0),(3,.func (.func fc) #[] #[]),(8,AC 1)]∧Mem w AR [] wr∧mz=0) ⟨X,M,X⟩ ⟨X,X,X,X,X,trivial⟩ ?_))))
 rintro _ w1 _ ⟨rfl,M,rfl⟩;exact sx_seq (AE X (yb X (BB X X (nq (sx_false X (sx_exit (qx_then_exit (qx_then_exit (qx_block_hit (qx_ret0 (Or.inr X) X ⟨X,M.fr⟩))))))))))
theorem fO (A:Option Addr) (cp:Nat) (fc:FuncId) (w:World):Calls prog 155 #[.slice A 0 cp,AC 0,.func (.func fc) #[] #[]] w (BI w (.tuple #[])):=by
 refine BH func155 ntmps155 X λM=>srg (AJ X (AE X (yb X (AJ X (sx_seq (sx_block (sx_loop (λe wr mz=>e=[(0,.slice A 0 cp),(1,AC 0),(2,.func (.func fc) #[] #[]),(6,AC 20),(7,AC 0),(8,AC 20)]∧Mem w AR [] wr∧mz=0) ⟨X,M,X⟩ ⟨X,X,X,X,X,X,trivial⟩ ?_)))))))
 rintro _ w1 _ ⟨rfl,M,rfl⟩;refine sx_seq (AE X (yb X (MT X X (nq (sx_false X (sx_exit (qx_then_exit (qx_then_exit (qx_block_hit (qx_seq (srg ?_)))))))))));iterate 4 refine yb X ?_
 refine CD M 27 X X call187 (nF A cp fc _) λw2 M=>nq (sx_block (sx_loop (λe wr mz=>e=[(0,.slice A 0 cp),(1,AC 0),(2,.func (.func fc) #[] #[]),(6,AC 20)]∧Mem w AR [] wr∧mz=0) ⟨X,M,X⟩ ⟨X,X,X,X,trivial⟩ ?_))
 rintro _ w3 _ ⟨rfl,M,rfl⟩;exact sx_seq (AE X (yb X (BB X X (nq (sx_false X (sx_exit (qx_then_exit (qx_then_exit (qx_block_hit (qx_ret0 (Or.inr X) X ⟨X,M.fr⟩))))))))))
theorem fR (A:Option Addr) (cp:Nat) (fc:FuncId) (w:World):Calls prog 98 #[.slice A 0 cp,.func (.func fc) #[] #[]] w (BI w (.tuple #[])):=by
 exact BH func98 ntmps98 X λM=>sx_region (AV X X (DF X X (yb X (CD M 8 X X call155 (fO A cp fc _) λw1 M=>sxl_nil (qx_ret0 (Or.inr X) X ⟨X,M.fr⟩)))))
theorem lJ (base:Nat) (A:Option Addr) (c n:Nat) (fc:FuncId) (fq:Ar→Ar→Int) (l:List Ar) (w:World) (hfc:∀(ar:Array Value) (w:World),(callFunc fc ar).run prog w=.ok (.enter fc ar) w) (hcmp:∀(a b:Ar) (w:World),Calls prog fc #[.agg a.cells.toArray,.agg b.cells.toArray] w (BI w (AC (fq a b)))) (hm:n≤1000000000) (hn:l.length=n) (ho:w.ownsRow base 139 5 (.slice A n c) n (AD Ar.cells l)) :
 Calls prog 98 #[.slice A n c,.func (.func fc) #[] #[]] w λe w'=>e=.returned (.tuple #[])∧∃l':List Ar,l'.Perm l∧w'.ownsRow base 139 5 (.slice A n c) n (AD Ar.cells l')∧Fr (λk=>k∈(Value.slice A n c).ownBlock.toList) w w':=by
 rcases ho.2 with ⟨hv,h0⟩|⟨g,cap,cur,hv,hg,hb,hnc,hcm,hcs,ht⟩
 ·subst h0;refine (fR A c fc w).mono ?_;rintro e w' ⟨rfl,hf⟩;exact ⟨X,l,List.Perm.refl _,(As.own base 139 5 (.slice A 0 c) 0 (AD Ar.cells l)).keep (λk _ hk=>hf.block k hk (λhh=>hh)) ho,Fr.of0 hf⟩
 ·injection hv with e1 _ e3
  subst e1;subst e3;have hfl:(AD Ar.cells l).length=n*5:=by rw [HC Ar.len,hn]
  have hcl:cur.toList=AD Ar.cells l++cur.toList.drop (n*5):=by rw [←ht,List.take_append_drop]
  have hb':Blk w g 139 (AD Ar.cells l++cur.toList.drop (n*5)):=by rw [←hcl,Blk,Array.toArray_toList];exact hb
  refine (aL g n c fc fq (cur.toList.drop (n*5)) hfc hcmp hm l w hb' hn).mono ?_;rintro e w' ⟨rfl,l',hp,hb2,hf⟩;have hl':(AD Ar.cells l').length=n*5:=by rw [HC Ar.len,hp.length_eq,hn]
  refine ⟨X,l',hp,⟨hl',.inr ⟨g,c,_,X,hg,hb2,hnc,hcm,?_,?_⟩⟩,hf.mono λk _ hk=>?_⟩
  ·have:=congrArg List.length hcl
   rw [Array.length_toList,List.length_append,hfl] at this
   rw [List.size_toArray,List.length_append,hl',←hcs];omega
  ·rw [List.take_left' hl']
  ·subst hk;simp [Value.ownBlock]
section
theorem Mi.keep {w w':World} {g:Nat} {f:Int→Option Value} (h:Mi w g f) (hk:g<w.heap.size→w'.heap[g]?=w.heap[g]?):Mi w' g f:=by
 obtain ⟨es,cl,h1,h2⟩:=h;exact ⟨es,cl,(hk (Array.getElem?_eq_some_iff.1 h1).1).trans h1,h2⟩
def As.mi (g:Nat) (f:Int→Option Value):As:=⟨[g],λw=>Mi w g f,λh hb=>hb.keep (h g (by simp))⟩
section
variable {P:Program} {Q:Exit→Act→World→Prop} {n:Nat} {e:Env} {w w0:World} {S:Nat→Prop} {L:List As} {ops:Array Oper} {o:Oper} {rest:List Oper}
theorem fK (M:Mem w0 S L w) {d t:Nat} (hw:Wn ops e o) (hd:o.dst=some d) (hn:Nat.blt d n=true) (ho:o.op=.makeMap t none)
 (k:∀g w',w.heap.size≤g→Mem w0 S (As.mi g (λ_=>none)::L) w'→SxL P ops Q n rest ((d,.map (some g))::e) w'):SxL P ops Q n (o::rest) e w:=by
 refine sxl_does (some d) hw hd hn (λρ hρ=>j0 ho) ?_;rintro _ w1 ⟨g,rfl,h1,h2,hb,hf⟩;exact k g w1 h1 (M.push hf _ hb (λg' hg'=>by simp only [As.mi,List.mem_singleton] at hg';subst hg';exact ⟨h1,h2⟩))
theorem kV (M:Mem w0 S L w) (i:Nat) (hw:Wn ops e o) (hd:o.dst=none) {t kt el g:Nat} {q:IntKind} {mp ix x:Operand} {k:Int} {v:Value} {f:Int→Option Value} (ho:o.op=.mapUpdate t mp ix x) (hm:ev e mp=some (.map (some g))) (hx:ev e ix=some (AC k)) (hv:ev e x=some v) (hu:P.underlying t=some (.map kt el)) (hk:P.underlying kt=some (.int q))
 (hi:L[i]?=some (As.mi g f)) (c:∀w',Mem w0 S (L.set i (As.mi g (upd f k v))) w'→SxL P ops Q n rest e w'):SxL P ops Q n (o::rest) e w:=by
 refine sxl_does none hw hd X (λρ hρ=>iZ ho (hρ _ _ hm) (hρ _ _ hx) (hρ _ _ hv) hu hk (M.ok i _ hi:Mi w g f)) ?_;rintro _ w1 ⟨rfl,hf,hb⟩;exact c w1 (M.upd i hi (hf.mono λk _ e=>by simp only [As.mi,List.mem_singleton];exact e) (As.mi g _) hb (λg' hg'=>.inl hg'))
end
theorem jP {P:Program} {w:World} {o:Oper} {e:Env} {t kt el:TypeId} {q:IntKind} {x i:Operand} {g:Nat} {k:Int} {f:Int→Option Value} {z v:Value} (ho:o.op=.lookup t x i false) (hx:ev e x=some (.map (some g))) (hi:ev e i=some (AC k)) (hu:P.underlying t=some (.map kt el)) (hd:P.underlying kt=some (.int q)) (hz:(P.info? el).map (·.zero)=some (some z)) (hM:Mi w g f) (hv:(f k).getD z=v):Y P e o w v:=by
 have:=q6 (P:=P) (ok:=false) ho hx hi hu hd hz hM
 rw [←hv];exact this
end
end Go.Proofs.YtaheakjfkpkefaaGreatDoor
