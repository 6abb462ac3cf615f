/- Lemmas. -/
import Derived.Test.YtppmdnmjepkfaaaGreatDoorYR10b
set_option maxHeartbeats 16000000
set_option maxRecDepth 100000
namespace Go.Proofs.YtppmdnmjepkfaaaGreatDoor
open Go.RowKit
open Tryz
def N4 (s:Kz) (gx:Nat) (w:Kw) (r:Xn × Rx):Ending→Kw→Prop:=λe w'=>∃A F,e=.returned (.agg (r.1.cells A).toArray)∧r.1.AtL 213 w' A F∧(∀k∈F,w.heap.size≤k∧k<w'.heap.size)∧Blk w' gx 258 (Rx.cells s r.2)∧Fr (λk=>k=gx) w w'
structure RefOK (s:Kz) (gx f:Nat) (fr:Nat→Rx→Xn × Rx):Prop where
 I:RfI s f fr
 c1:∀(y:Rx) (w:Kw),Blk w gx 258 (Rx.cells s y)→RxI s y→rM s y<f→Calls prog 200 #[.pointer (some ⟨gx,0,none⟩)] w (N4 s gx w (fr 1 y))
 c2:∀(y:Rx) (w:Kw),Blk w gx 258 (Rx.cells s y)→RxI s y→rM s y<f→Calls prog 223 #[.pointer (some ⟨gx,0,none⟩)] w (N4 s gx w (fr 2 y))
 c3:∀(y:Rx) (w:Kw),Blk w gx 258 (Rx.cells s y)→RxI s y→rM s y<f→Calls prog 242 #[.pointer (some ⟨gx,0,none⟩)] w (N4 s gx w (fr 3 y))
 c5:∀(y:Rx) (w:Kw),Blk w gx 258 (Rx.cells s y)→RxI s y→rM s y<f→Calls prog 258 #[.pointer (some ⟨gx,0,none⟩)] w (N4 s gx w (fr 5 y))
 c6:∀(y:Rx) (w:Kw),Blk w gx 258 (Rx.cells s y)→RxI s y→rM s y<f→Calls prog 261 #[.pointer (some ⟨gx,0,none⟩)] w (N4 s gx w (fr 6 y))
 c7:∀(y:Rx) (w:Kw),Blk w gx 258 (Rx.cells s y)→RxI s y→rM s y<f→Calls prog 266 #[.pointer (some ⟨gx,0,none⟩)] w (N4 s gx w (fr 7 y))
section
variable {s:Kz} {f:Nat} {fr:Nat→Rx→Xn × Rx} {y:Rx}
theorem iQ {op:UInt8} (h:sgC (FH s fr f y).2=some op):KO s fr f y=(.bin op (FH s fr f y).1 (fr 5 (AQ s (FH s fr f y).2)).1,(fr 5 (AQ s (FH s fr f y).2)).2):=by unfold KO;rw [h]
theorem iR (h:sgC (FH s fr f y).2=none):KO s fr f y=FH s fr f y:=by unfold KO;rw [h]
end
theorem O1 {s:Kz} {y:Rx} {k:Kz} (h:isR y k=true):isN s y k=AQ s y:=if_pos h
theorem O2 {s:Kz} {y:Rx} {k:Kz} (h:isR y k=false):isN s y k=y:=AM h
theorem Mem.unR {w0 w:Kw} {t:Ly} {gx ty g:Nat} {cs:Kx} {op:UInt8} {a:Xn} {B:Ky} {F:List Nat} {L:List As} (M:Mem w0 (λk=>k=gx) (As.blk g t (a.cells B)::As.xn t a B F::As.blk gx ty cs::L) w):(Xn.un op a).AtL t w (some ⟨g,0,none⟩) (g::F)∧∀k∈g::F,w0.heap.size≤k∧k<w.heap.size:=M.un
section
variable {s:Kz} {fr:Nat→Rx→Xn × Rx} {y:Rx} (h6:isR y [45]=false)
include h6
theorem a1f (h15:¬y.e=0):EX s fr y=(.zero,y):=by unfold EX;rw [AM h6,if_pos h15]
variable (h15:y.e=0)
include h15
theorem dJ : EX s fr y=if y.kd=1 then (.lit y.vl,AQ s y)
 else if y.kd=2 then (.var y.say,AQ s y)
 else if isR y [40]=true then ((fr 1 (AQ s y)).1,if isR (fr 1 (AQ s y)).2 [41]=true then AQ s (fr 1 (AQ s y)).2 else (fr 1 (AQ s y)).2.fail 4 (fr 1 (AQ s y)).2.tat)
 else (.zero,y.fail 4 y.tat):=by
 unfold EX;rw [AM h6,if_neg (show ¬ ¬y.e=0 from λz=>z h15)]
theorem a1e (h:(y.kd:Int)=(1:Int)):EX s fr y=(.lit y.vl,AQ s y):=by rw [dJ h6 h15,if_pos A0]
theorem a1d (h:(y.kd:Int)=(2:Int)):EX s fr y=(.var y.say,AQ s y):=by rw [dJ h6 h15,if_neg (show ¬y.kd=1 by omega),if_pos (show y.kd=2 by omega)]
variable (h22:¬((y.kd:Nat):Int)=(1:Int))
include h22
variable (h31:¬((y.kd:Nat):Int)=(2:Int))
include h31
theorem a1i (h:isR y [40]=false):EX s fr y=(.zero,y.fail 4 y.tat):=by rw [dJ h6 h15,if_neg (show ¬y.kd=1 by omega),if_neg (show ¬y.kd=2 by omega),AM h]
theorem a1h (h:isR y [40]=true) (h2:isR (fr 1 (AQ s y)).2 [41]=true):EX s fr y=((fr 1 (AQ s y)).1,AQ s (fr 1 (AQ s y)).2):=by rw [dJ h6 h15,if_neg (show ¬y.kd=1 by omega),if_neg (show ¬y.kd=2 by omega),if_pos h,if_pos h2]
theorem a1g (h:isR y [40]=true) (h2:isR (fr 1 (AQ s y)).2 [41]=false):EX s fr y=((fr 1 (AQ s y)).1,(fr 1 (AQ s y)).2.fail 4 (fr 1 (AQ s y)).2.tat):=by rw [dJ h6 h15,if_neg (show ¬y.kd=1 by omega),if_neg (show ¬y.kd=2 by omega),if_pos h,AM h2]
end
theorem EQ  : prog.built 213 []=some #[.int .u8 0,.int .u8 0,AA 0,.bool false,str [],str [],.slice none 0 0]:=by kernel_rfl
theorem LW (a0:Int) (c1_0 c1_1 c1_2 c1_3:Kv):prog.built 213 [(0,.int .u8 a0),(1,.agg #[c1_0,c1_1,c1_2,c1_3])]=some #[.int .u8 a0,c1_0,c1_1,c1_2,c1_3,str [],.slice none 0 0]:=by kernel_rfl
theorem LV (a0:Int) (a2:Kz):prog.built 213 [(0,.int .u8 a0),(2,str a2)]=some #[.int .u8 a0,.int .u8 0,AA 0,.bool false,str [],str a2,.slice none 0 0]:=by kernel_rfl
theorem FW (a0:Int) (A3:Ky) (n3 c3:Nat):prog.built 213 [(0,.int .u8 a0),(3,.slice A3 n3 c3)]=some #[.int .u8 a0,.int .u8 0,AA 0,.bool false,str [],str [],.slice A3 n3 c3]:=by kernel_rfl
theorem GN : (prog.info? 213).map (λi=>(i.zero,i.size))=some (some (.agg #[.int .u8 0,.int .u8 0,AA 0,.bool false,str [],str [],.slice none 0 0]),7):=by kernel_rfl
theorem AC : (prog.info? 213).map (·.size)=some 7:=by kernel_rfl
theorem BH : (prog.info? 213).map (·.zero)=some (some (.agg #[.int .u8 0,.int .u8 0,AA 0,.bool false,str [],str [],.slice none 0 0])):=by kernel_rfl
theorem N6 : (prog.info? 256).map (·.zero)=some (some (.agg #[AA 0,str [],.int .u8 0,AA 0,.bool false,str [],AA 0])):=by kernel_rfl
theorem M3 (op:UInt8) (a b:Xn) (A B:Ky) (w:Kw) :
 Calls prog 225 #[.int .u8 (op.toNat:Int),.agg (a.cells A).toArray,.agg (b.cells B).toArray] w λe w'=>∃g,e=.returned (.agg ((Xn.bin op a b).cells (some ⟨g,0,none⟩)).toArray)∧Blk w' g 213 (a.cells A++b.cells B)∧w.heap.size≤g∧g<w'.heap.size∧Fr0 w w':=by
 refine BR func225 ntmps225 X λM=>W ?_
 refine CO M X X λg4 w1 hg4 M=>CO M X X λg5 w2 hg5 M=>CI M X BH λg6 w3 hg6 M=>W ?_
 refine CH M 2 X X Be AC X (CH M 1 X X Be AC X (CV M kw X X [.agg (Xn.cells a A).toArray,.agg (Xn.cells b B).toArray] ([.int .u8 (a.op.toNat:Int),.int .u8 (a.vl.kind.toNat:Int),AA a.vl.int,.bool a.vl.bool,str a.vl.text,str a.nm,.slice A a.nk a.nk,.int .u8 (b.op.toNat:Int),.int .u8 (b.vl.kind.toNat:Int),AA b.vl.int,.bool b.vl.bool,str b.vl.text,str b.nm,.slice B b.nk b.nk]) X X X X Ii GN X X (by intro v hv;simp only [Ak,Ax,or_false] at hv;rcases hv with rfl|rfl<;>rfl) X λg10 w4 hg10 M=>ya X (B7 (parts:=[(0,_),(3,_)]) X X (FW _ _ _ _)) (BY M 1 X X AC X λw5 M=>W ?_)));exact CT X X (M.rdBlk 1 X X) Be X AC ⟨g10,X,M.blk 0 X,(M.new0 0 X g10 (by simp [As.blk])).1,(M.new0 0 X g10 (by simp [As.blk])).2,M.fr⟩
theorem WC {s:Kz} {gx f:Nat} {fr:Nat→Rx→Xn × Rx} (hF:RefOK s gx f fr) (y:Rx) (w:Kw) (hb:Blk w gx 258 (Rx.cells s y)) (hy:RxI s y) (hm:rM s y≤f) (hl:s.length≤256) :
 Calls prog 266 #[pg gx] w (N4 s gx w (EX s fr y)):=by
 refine sx_enter (vs:=[_]) func266 X ntmps266 X ?_;have M:Mem w (λk=>k=gx) [As.blk gx 258 (Rx.cells s y)] w:=Mem.one hb;refine W ?_;refine CI M X BH λg2 w1 hg2 M=>W ?_
 refine GL M 1 6 X X (AD X X call224) (IJ s y _ [45] _ (M.blk 1 X) hy.at_ hl) λw2 M=>W ?_
 refine AB X (λh6=>?_) (λh6=>?_)
 ·have hg6:=EY h6;have hs6:=G4 hy hg6.1 hg6.2;rw [O1 h6] at M
  refine W ?_;refine cl 8 X (AD X X call266) (hF.c7 (AQ s y) _ (M.blk 1 X) (C6 (s:=s) (y:=y)) A0) ?_;rintro _ w3 ⟨A8,F8,rfl,hat8,hnw8,hbw3,hfw3⟩;have M:=M.putPush 1 X hbw3 hfw3 (As.xn 213 (fr 7 (AQ s y)).1 A8 F8) hat8 hnw8;obtain ⟨hI8,hm8⟩:=(show RxI s (fr 7 (AQ s y)).2∧rM s (fr 7 (AQ s y)).2≤rM s (AQ s y) from ⟨hF.I.I 7 _ (C6 (s:=s) (y:=y)) A0,hF.I.m 7 _ (C6 (s:=s) (y:=y)) A0⟩);refine cq (CV M kw X X [.agg (Xn.cells ((fr 7 (AQ s y)).1) A8).toArray] (Xn.cells ((fr 7 (AQ s y)).1) A8) X X X X Ii GN X X (GT X) X λg9 w4 hg9 M=>ya X (B7 (parts:=[(0,_),(3,_)]) X X (FW _ _ _ _)) (BY M 2 X X AC X λw5 M=>W ?_));refine CT X X (M.rdBlk 2 X X) Be X AC ?_;rw [show EX s fr y=(.un 4 (fr 7 (AQ s y)).1,(fr 7 (AQ s y)).2) from if_pos h6];obtain ⟨ha,hn⟩:=Mem.unR (op:=4) (M.pk [0,1,3]);exact ⟨_,_,X,ha,hn,M.blk 3 X,M.fr⟩
 rw [O2 h6] at M
 refine W ?_;refine ya X (AI (xs:=[AA (y.kd:Int),str y.say,.int .u8 (y.vl.kind.toNat:Int),AA y.vl.int,.bool y.vl.bool,str y.vl.text,AA (y.tat:Int)]) X X (DR (M.blk 1 X) 2 7 X X) underlying256 X CK) (CI M X N6 λg3 w6 hg3 M=>BY M 0 X X CK X λw7 M=>W ?_);refine AB X (λh15=>?_) (λh15=>?_)
 ·have h15p:=(odf (CJ h15));refine W ?_;refine ya X (B7 (parts:=[]) X X (EQ)) (BY M 1 X X AC X λw8 M=>W ?_);refine CT X X (M.rdBlk 1 X X) Be X AC ?_;rw [a1f h6 h15p];exact ⟨none,[],X,⟨X,X⟩,(λk hk=>absurd hk (by simp)),M.blk 2 X,M.fr⟩
 have h15p:=(odt (BO h15));refine W ?_;refine AB X (λh22=>?_) (λh22=>?_)
 ·have h22p:=odt h22;refine W ?_;refine GL M 2 27 X X (AD X X call199) (OY s y _ _ (M.blk 2 X) hy.at_ hl) λw9 M=>W ?_
  refine ya X (AI (xs:=[.int .u8 (y.vl.kind.toNat:Int),AA y.vl.int,.bool y.vl.bool,str y.vl.text]) X X (DR (M.blk 0 X) 2 4 X X) Br X BQ) (ya X (B7 (parts:=[(0,_),(1,_)]) X X (LW _ _ _ _ _)) (BY M 1 X X AC X λw10 M=>W ?_));refine CT X X (M.rdBlk 1 X X) Be X AC ?_;rw [a1e h6 h15p h22p];exact ⟨none,[],X,⟨X,X⟩,(λk hk=>absurd hk (by simp)),M.blk 2 X,M.fr⟩
 have h22p:=odf h22;refine W ?_;refine AB X (λh31=>?_) (λh31=>?_)
 ·have h31p:=odt h31;refine W ?_;refine GL M 2 36 X X (AD X X call199) (OY s y _ _ (M.blk 2 X) hy.at_ hl) λw11 M=>W ?_
  refine ya X (B7 (parts:=[(0,_),(2,_)]) X X (LV _ _)) (BY M 1 X X AC X λw12 M=>W ?_);refine CT X X (M.rdBlk 1 X X) Be X AC ?_;rw [a1d h6 h15p h31p];exact ⟨none,[],X,⟨X,X⟩,(λk hk=>absurd hk (by simp)),M.blk 2 X,M.fr⟩
 have h31p:=odf h31;refine W ?_;refine GL M 2 42 X X (AD X X call224) (IJ s y _ [40] _ (M.blk 2 X) hy.at_ hl) λw13 M=>W ?_
 refine AB X (λh40=>?_) (λh40=>?_)
 ·have hg40:=EY h40;have hs40:=G4 hy hg40.1 hg40.2;rw [O1 h40] at M
  refine W ?_;refine cl 44 X (AD X X call200) (hF.c1 (AQ s y) _ (M.blk 2 X) (C6 (s:=s) (y:=y)) A0) ?_;rintro _ w14 ⟨A44,F44,rfl,hat44,hnw44,hbw14,hfw14⟩;have M:=M.putPush 2 X hbw14 hfw14 (As.xn 213 (fr 1 (AQ s y)).1 A44 F44) hat44 hnw44;obtain ⟨hI44,hm44⟩:=(show RxI s (fr 1 (AQ s y)).2∧rM s (fr 1 (AQ s y)).2≤rM s (AQ s y) from ⟨hF.I.I 1 _ (C6 (s:=s) (y:=y)) A0,hF.I.m 1 _ (C6 (s:=s) (y:=y)) A0⟩);refine cq (CI M X BH λg4 w15 hg4 M=>BY M 0 X X AC X λw16 M=>W ?_);refine GL M 4 46 X X (AD X X call224) (IJ s ((fr 1 (AQ s y)).2) _ [41] _ (M.blk 4 X) hI44.at_ hl) λw17 M=>W ?_
  refine AB X (λh47=>?_) (λh47=>?_)
  ·rw [O2 (CJ h47)] at M
   refine W ?_;refine GL M 4 54 X X (AD X X call201) (GX s ((fr 1 (AQ s y)).2) _ _ _ _ (M.blk 4 X)) λw18 M=>W ?_
   refine CH M 0 X X Be AC X (BY M 3 X X AC X λw19 M=>W ?_);refine CT X X (M.rdBlk 3 X X) Be X AC ?_;rw [a1g h6 h15p h22p h31p h40 (CJ h47)];exact ⟨_,_,X,M.ok 1 _ X,M.newOf 1 4 X X AV,M.blk 4 X,M.fr⟩
  have hg47:=EY (BO h47);have hs47:=G4 hI44 hg47.1 hg47.2;rw [O1 (BO h47)] at M
  refine W ?_;refine CH M 0 X X Be AC X (BY M 3 X X AC X λw20 M=>W ?_);refine CT X X (M.rdBlk 3 X X) Be X AC ?_;rw [a1h h6 h15p h22p h31p h40 (BO h47)];exact ⟨_,_,X,M.ok 1 _ X,M.newOf 1 4 X X AV,M.blk 4 X,M.fr⟩
 rw [O2 h40] at M
 refine W ?_;refine GL M 2 59 X X (AD X X call201) (GX s y _ _ _ _ (M.blk 2 X)) λw21 M=>W ?_
 refine ya X (B7 (parts:=[]) X X (EQ)) (BY M 1 X X AC X λw22 M=>W ?_);refine CT X X (M.rdBlk 1 X X) Be X AC ?_;rw [a1i h6 h15p h22p h31p h40];exact ⟨none,[],X,⟨X,X⟩,(λk hk=>absurd hk (by simp)),M.blk 2 X,M.fr⟩
theorem Z4 {s:Kz} {gx f:Nat} {fr:Nat→Rx→Xn × Rx} (hF:RefOK s gx f fr) (y:Rx) (w:Kw) (hb:Blk w gx 258 (Rx.cells s y)) (hy:RxI s y) (hm:rM s y≤f) (hl:s.length≤256) :
 Calls prog 261 #[pg gx] w (N4 s gx w (KF s fr f y)):=by
 refine sx_enter (vs:=[_]) func261 X ntmps261 X ?_;have M:Mem w (λk=>k=gx) [As.blk gx 258 (Rx.cells s y)] w:=Mem.one hb;refine W ?_;refine CI M X BH λg2 w1 hg2 M=>W ?_
 refine cl 5 X (AD X X call266) (WC hF y _ (M.blk 1 X) hy A0 hl) ?_;rintro _ w2 ⟨A5,F5,rfl,hat5,hnw5,hbw2,hfw2⟩;have M:=M.putPush 1 X hbw2 hfw2 (As.xn 213 (EX s fr y).1 A5 F5) hat5 hnw5;obtain ⟨hI5,hm5⟩:=WK hF.I hy A0;refine cq (CI M X BH λg3 w3 hg3 M=>BY M 0 X X AC X λw4 M=>W ?_);refine flp [3,2,0] (λze e wr mz=>∃(n:Xn) (A:Ky) (F:List Nat) (z:Rx) (k:Nat),e=ze∧Mem w (λk=>k=gx) [As.blk g3 213 (Xn.cells n A),As.xn 213 n A F,As.blk g2 213 [.int .u8 0,.int .u8 0,AA 0,.bool false,str [],str [],.slice none 0 0],As.blk gx 258 (Rx.cells s z)] wr∧(RxI s z)∧(rM s z≤k∧k≤f)∧(KF s fr f y=GS s fr 6 sgP k n z)∧mz=2*k) ⟨(EX s fr y).1,A5,F5,(EX s fr y).2,f,X,M,hI5,⟨by omega,Ab _⟩,X,X⟩ ?_;rintro _ w5 _ ⟨n,A,F,z,k,rfl,M,hzI,hk,heq,rfl⟩;refine W ?_;refine GL M 3 9 X X (AD X X call224) (IJ s z _ [42] _ (M.blk 3 X) hzI.at_ hl) λw6 M=>W ?_
 refine AB X (λh7=>?_) (λh7=>?_)
 ·have hg7:=EY h7;have hs7:=G4 hzI hg7.1 hg7.2;rw [O1 h7] at M
  obtain ⟨j,rfl⟩:∃j,k=j+1:=⟨k-1,by omega⟩
  refine EC 4 (λw'=>Mem w (λk=>k=gx) [As.blk g3 213 (Xn.cells n A),As.xn 213 n A F,As.blk g2 213 [.int .u8 0,.int .u8 0,AA 0,.bool false,str [],str [],.slice none 0 0]] w') CA ?_;have M:=M.drew;refine oa 0 4 X X (M.pk [0,1,2]) (λ_ M=>AI (xs:=Xn.cells n A) X X (M.rdBlk 0 X X) Be X AC) (oc 1 4 X X (M.pk [0,1,2]) (BC 2 (some 12) gkr X kw X X (AD X X call266) (hF.c7 (AQ s z) _ (M.blk 3 X) (C6 (s:=s) (y:=z)) A0) ?_));rintro _ w7 ⟨A12,F12,rfl,hat12,hnw12,hbw7,hfw7⟩;have M:=M.putPush 3 X hbw7 hfw7 (As.xn 213 (fr 7 (AQ s z)).1 A12 F12) hat12 hnw12;obtain ⟨hI12,hm12⟩:=(show RxI s (fr 7 (AQ s z)).2∧rM s (fr 7 (AQ s z)).2≤rM s (AQ s z) from ⟨hF.I.I 7 _ (C6 (s:=s) (y:=z)) A0,hF.I.m 7 _ (C6 (s:=s) (y:=z)) A0⟩);refine ⟨_,X,λ_=>(M.pk [1,2,3]),?_⟩;refine BC 3 (some 13) gkr X kw X X (AD X X call225) (M3 15 n ((fr 7 (AQ s z)).1) A A12 _) ?_;rintro _ w8 ⟨g13,rfl,hbw8,hg13,hq13,hfw8⟩;refine ⟨_,X,λ_=>(M.pk [1,2,3]).step hfw8,?_⟩;have M:=M.push hfw8 _ hbw8 (CU hg13 hq13)
  replace M:Mem w (λk=>k=gx) (As.blk g13 213 (Xn.cells n A++Xn.cells ((fr 7 (AQ s z)).1) A12)::_) w8:=M
  refine B5 4 none gkr X kw X X (λρ hρ=>BK 213 _ _ X g3 0 213 _ (Xn.cells (Xn.bin 15 n ((fr 7 (AQ s z)).1)) (some ⟨g13,0,none⟩)) (hρ _ _ X) (hρ _ _ X) (M.blk 2 X) AC (CL X) (BW X)) ?_;rintro _ w9 ⟨rfl,hbw9,hfw9⟩
  replace M:Mem w (λk=>k=gx) (List.set _ 2 (As.blk g3 213 (Xn.cells (Xn.bin 15 n ((fr 7 (AQ s z)).1)) (some ⟨g13,0,none⟩)))) w9:=M.putB 2 rfl hbw9 hfw9
  refine ⟨λh=>absurd h AV,fdn (W ?_)⟩;have M:=Mem.bin (op:=15) (M.pk [0,3,1,2,4,5]);refine fag ⟨(Xn.bin 15 n ((fr 7 (AQ s z)).1)),(some ⟨g13,0,none⟩),(g13::(F++F12)),(fr 7 (AQ s z)).2,j,X,(M.pk [1,0,2,3]),?_,?_,?_,X⟩
  ·exact hI12
  ·exact ⟨by omega,by omega⟩
  exact heq.trans (LG (a2U h7))
 rw [O2 h7] at M
 refine W ?_;refine GL M 3 16 X X (AD X X call224) (IJ s z _ [47] _ (M.blk 3 X) hzI.at_ hl) λw10 M=>W ?_
 refine AB X (λh14=>?_) (λh14=>?_)
 ·have hg14:=EY h14;have hs14:=G4 hzI hg14.1 hg14.2;rw [O1 h14] at M
  obtain ⟨j,rfl⟩:∃j,k=j+1:=⟨k-1,by omega⟩
  refine EC 4 (λw'=>Mem w (λk=>k=gx) [As.blk g3 213 (Xn.cells n A),As.xn 213 n A F,As.blk g2 213 [.int .u8 0,.int .u8 0,AA 0,.bool false,str [],str [],.slice none 0 0]] w') CA ?_;have M:=M.drew;refine oa 0 4 X X (M.pk [0,1,2]) (λ_ M=>AI (xs:=Xn.cells n A) X X (M.rdBlk 0 X X) Be X AC) (oc 1 4 X X (M.pk [0,1,2]) (BC 2 (some 19) gkr X kw X X (AD X X call266) (hF.c7 (AQ s z) _ (M.blk 3 X) (C6 (s:=s) (y:=z)) A0) ?_));rintro _ w11 ⟨A19,F19,rfl,hat19,hnw19,hbw11,hfw11⟩;have M:=M.putPush 3 X hbw11 hfw11 (As.xn 213 (fr 7 (AQ s z)).1 A19 F19) hat19 hnw19;obtain ⟨hI19,hm19⟩:=(show RxI s (fr 7 (AQ s z)).2∧rM s (fr 7 (AQ s z)).2≤rM s (AQ s z) from ⟨hF.I.I 7 _ (C6 (s:=s) (y:=z)) A0,hF.I.m 7 _ (C6 (s:=s) (y:=z)) A0⟩);refine ⟨_,X,λ_=>(M.pk [1,2,3]),?_⟩;refine BC 3 (some 20) gkr X kw X X (AD X X call225) (M3 16 n ((fr 7 (AQ s z)).1) A A19 _) ?_;rintro _ w12 ⟨g20,rfl,hbw12,hg20,hq20,hfw12⟩;refine ⟨_,X,λ_=>(M.pk [1,2,3]).step hfw12,?_⟩;have M:=M.push hfw12 _ hbw12 (CU hg20 hq20)
  replace M:Mem w (λk=>k=gx) (As.blk g20 213 (Xn.cells n A++Xn.cells ((fr 7 (AQ s z)).1) A19)::_) w12:=M
  refine B5 4 none gkr X kw X X (λρ hρ=>BK 213 _ _ X g3 0 213 _ (Xn.cells (Xn.bin 16 n ((fr 7 (AQ s z)).1)) (some ⟨g20,0,none⟩)) (hρ _ _ X) (hρ _ _ X) (M.blk 2 X) AC (CL X) (BW X)) ?_;rintro _ w13 ⟨rfl,hbw13,hfw13⟩
  replace M:Mem w (λk=>k=gx) (List.set _ 2 (As.blk g3 213 (Xn.cells (Xn.bin 16 n ((fr 7 (AQ s z)).1)) (some ⟨g20,0,none⟩)))) w13:=M.putB 2 rfl hbw13 hfw13
  refine ⟨λh=>absurd h AV,fdn (W ?_)⟩;have M:=Mem.bin (op:=16) (M.pk [0,3,1,2,4,5]);refine fag ⟨(Xn.bin 16 n ((fr 7 (AQ s z)).1)),(some ⟨g20,0,none⟩),(g20::(F++F19)),(fr 7 (AQ s z)).2,j,X,(M.pk [1,0,2,3]),?_,?_,?_,X⟩
  ·exact hI19
  ·exact ⟨by omega,by omega⟩
  exact heq.trans (LG (a2T h7 h14))
 rw [O2 h14] at M
 refine W ?_;refine GL M 3 23 X X (AD X X call224) (IJ s z _ [37] _ (M.blk 3 X) hzI.at_ hl) λw14 M=>W ?_
 refine AB X (λh21=>?_) (λh21=>?_)
 ·have hg21:=EY h21;have hs21:=G4 hzI hg21.1 hg21.2;rw [O1 h21] at M
  obtain ⟨j,rfl⟩:∃j,k=j+1:=⟨k-1,by omega⟩
  refine EC 4 (λw'=>Mem w (λk=>k=gx) [As.blk g3 213 (Xn.cells n A),As.xn 213 n A F,As.blk g2 213 [.int .u8 0,.int .u8 0,AA 0,.bool false,str [],str [],.slice none 0 0]] w') CA ?_;have M:=M.drew;refine oa 0 4 X X (M.pk [0,1,2]) (λ_ M=>AI (xs:=Xn.cells n A) X X (M.rdBlk 0 X X) Be X AC) (oc 1 4 X X (M.pk [0,1,2]) (BC 2 (some 26) gkr X kw X X (AD X X call266) (hF.c7 (AQ s z) _ (M.blk 3 X) (C6 (s:=s) (y:=z)) A0) ?_));rintro _ w15 ⟨A26,F26,rfl,hat26,hnw26,hbw15,hfw15⟩;have M:=M.putPush 3 X hbw15 hfw15 (As.xn 213 (fr 7 (AQ s z)).1 A26 F26) hat26 hnw26;obtain ⟨hI26,hm26⟩:=(show RxI s (fr 7 (AQ s z)).2∧rM s (fr 7 (AQ s z)).2≤rM s (AQ s z) from ⟨hF.I.I 7 _ (C6 (s:=s) (y:=z)) A0,hF.I.m 7 _ (C6 (s:=s) (y:=z)) A0⟩);refine ⟨_,X,λ_=>(M.pk [1,2,3]),?_⟩;refine BC 3 (some 27) gkr X kw X X (AD X X call225) (M3 17 n ((fr 7 (AQ s z)).1) A A26 _) ?_;rintro _ w16 ⟨g27,rfl,hbw16,hg27,hq27,hfw16⟩;refine ⟨_,X,λ_=>(M.pk [1,2,3]).step hfw16,?_⟩;have M:=M.push hfw16 _ hbw16 (CU hg27 hq27)
  replace M:Mem w (λk=>k=gx) (As.blk g27 213 (Xn.cells n A++Xn.cells ((fr 7 (AQ s z)).1) A26)::_) w16:=M
  refine B5 4 none gkr X kw X X (λρ hρ=>BK 213 _ _ X g3 0 213 _ (Xn.cells (Xn.bin 17 n ((fr 7 (AQ s z)).1)) (some ⟨g27,0,none⟩)) (hρ _ _ X) (hρ _ _ X) (M.blk 2 X) AC (CL X) (BW X)) ?_;rintro _ w17 ⟨rfl,hbw17,hfw17⟩
  replace M:Mem w (λk=>k=gx) (List.set _ 2 (As.blk g3 213 (Xn.cells (Xn.bin 17 n ((fr 7 (AQ s z)).1)) (some ⟨g27,0,none⟩)))) w17:=M.putB 2 rfl hbw17 hfw17
  refine ⟨λh=>absurd h AV,fdn (W ?_)⟩;have M:=Mem.bin (op:=17) (M.pk [0,3,1,2,4,5]);refine fag ⟨(Xn.bin 17 n ((fr 7 (AQ s z)).1)),(some ⟨g27,0,none⟩),(g27::(F++F26)),(fr 7 (AQ s z)).2,j,X,(M.pk [1,0,2,3]),?_,?_,?_,X⟩
  ·exact hI26
  ·exact ⟨by omega,by omega⟩
  exact heq.trans (LG (a2S h7 h14 h21))
 rw [O2 h21] at M
 refine W ?_;refine CH M 0 X X Be AC X (BY M 2 X X AC X λw18 M=>W ?_);refine CT X X (M.rdBlk 2 X X) Be X AC ?_;rw [heq.trans (IU k (a2V h7 h14 h21))];exact ⟨_,_,X,M.ok 1 _ X,M.newOf 1 3 X X AV,M.blk 3 X,M.fr⟩
theorem dG {s:Kz} {gx f:Nat} {fr:Nat→Rx→Xn × Rx} (hF:RefOK s gx f fr) (y:Rx) (w:Kw) (hb:Blk w gx 258 (Rx.cells s y)) (hy:RxI s y) (hm:rM s y≤f) (hl:s.length≤256) :
 Calls prog 258 #[pg gx] w (N4 s gx w (FH s fr f y)):=by
 refine sx_enter (vs:=[_]) func258 X ntmps258 X ?_;have M:Mem w (λk=>k=gx) [As.blk gx 258 (Rx.cells s y)] w:=Mem.one hb;refine W ?_;refine CI M X BH λg2 w1 hg2 M=>W ?_
 refine cl 5 X (AD X X call261) (Z4 hF y _ (M.blk 1 X) hy A0 hl) ?_;rintro _ w2 ⟨A5,F5,rfl,hat5,hnw5,hbw2,hfw2⟩;have M:=M.putPush 1 X hbw2 hfw2 (As.xn 213 (KF s fr f y).1 A5 F5) hat5 hnw5;obtain ⟨hI5,hm5⟩:=aT f hF.I hy A0;refine cq (CI M X BH λg3 w3 hg3 M=>BY M 0 X X AC X λw4 M=>W ?_);refine flp [3,2,0] (λze e wr mz=>∃(n:Xn) (A:Ky) (F:List Nat) (z:Rx) (k:Nat),e=ze∧Mem w (λk=>k=gx) [As.blk g3 213 (Xn.cells n A),As.xn 213 n A F,As.blk g2 213 [.int .u8 0,.int .u8 0,AA 0,.bool false,str [],str [],.slice none 0 0],As.blk gx 258 (Rx.cells s z)] wr∧(RxI s z)∧(rM s z≤k∧k≤f)∧(FH s fr f y=GS s fr 5 sgS k n z)∧mz=2*k) ⟨(KF s fr f y).1,A5,F5,(KF s fr f y).2,f,X,M,hI5,⟨by omega,Ab _⟩,X,X⟩ ?_;rintro _ w5 _ ⟨n,A,F,z,k,rfl,M,hzI,hk,heq,rfl⟩;refine W ?_;refine GL M 3 9 X X (AD X X call224) (IJ s z _ [43] _ (M.blk 3 X) hzI.at_ hl) λw6 M=>W ?_
 refine AB X (λh7=>?_) (λh7=>?_)
 ·have hg7:=EY h7;have hs7:=G4 hzI hg7.1 hg7.2;rw [O1 h7] at M
  obtain ⟨j,rfl⟩:∃j,k=j+1:=⟨k-1,by omega⟩
  refine EC 4 (λw'=>Mem w (λk=>k=gx) [As.blk g3 213 (Xn.cells n A),As.xn 213 n A F,As.blk g2 213 [.int .u8 0,.int .u8 0,AA 0,.bool false,str [],str [],.slice none 0 0]] w') CA ?_;have M:=M.drew;refine oa 0 4 X X (M.pk [0,1,2]) (λ_ M=>AI (xs:=Xn.cells n A) X X (M.rdBlk 0 X X) Be X AC) (oc 1 4 X X (M.pk [0,1,2]) (BC 2 (some 12) gkr X kw X X (AD X X call261) (hF.c6 (AQ s z) _ (M.blk 3 X) (C6 (s:=s) (y:=z)) A0) ?_));rintro _ w7 ⟨A12,F12,rfl,hat12,hnw12,hbw7,hfw7⟩;have M:=M.putPush 3 X hbw7 hfw7 (As.xn 213 (fr 6 (AQ s z)).1 A12 F12) hat12 hnw12;obtain ⟨hI12,hm12⟩:=(show RxI s (fr 6 (AQ s z)).2∧rM s (fr 6 (AQ s z)).2≤rM s (AQ s z) from ⟨hF.I.I 6 _ (C6 (s:=s) (y:=z)) A0,hF.I.m 6 _ (C6 (s:=s) (y:=z)) A0⟩);refine ⟨_,X,λ_=>(M.pk [1,2,3]),?_⟩;refine BC 3 (some 13) gkr X kw X X (AD X X call225) (M3 13 n ((fr 6 (AQ s z)).1) A A12 _) ?_;rintro _ w8 ⟨g13,rfl,hbw8,hg13,hq13,hfw8⟩;refine ⟨_,X,λ_=>(M.pk [1,2,3]).step hfw8,?_⟩;have M:=M.push hfw8 _ hbw8 (CU hg13 hq13)
  replace M:Mem w (λk=>k=gx) (As.blk g13 213 (Xn.cells n A++Xn.cells ((fr 6 (AQ s z)).1) A12)::_) w8:=M
  refine B5 4 none gkr X kw X X (λρ hρ=>BK 213 _ _ X g3 0 213 _ (Xn.cells (Xn.bin 13 n ((fr 6 (AQ s z)).1)) (some ⟨g13,0,none⟩)) (hρ _ _ X) (hρ _ _ X) (M.blk 2 X) AC (CL X) (BW X)) ?_;rintro _ w9 ⟨rfl,hbw9,hfw9⟩
  replace M:Mem w (λk=>k=gx) (List.set _ 2 (As.blk g3 213 (Xn.cells (Xn.bin 13 n ((fr 6 (AQ s z)).1)) (some ⟨g13,0,none⟩)))) w9:=M.putB 2 rfl hbw9 hfw9
  refine ⟨λh=>absurd h AV,fdn (W ?_)⟩;have M:=Mem.bin (op:=13) (M.pk [0,3,1,2,4,5]);refine fag ⟨(Xn.bin 13 n ((fr 6 (AQ s z)).1)),(some ⟨g13,0,none⟩),(g13::(F++F12)),(fr 6 (AQ s z)).2,j,X,(M.pk [1,0,2,3]),?_,?_,?_,X⟩
  ·exact hI12
  ·exact ⟨by omega,by omega⟩
  exact heq.trans (LG (a2Q h7))
 rw [O2 h7] at M
 refine W ?_;refine GL M 3 16 X X (AD X X call224) (IJ s z _ [45] _ (M.blk 3 X) hzI.at_ hl) λw10 M=>W ?_
 refine AB X (λh14=>?_) (λh14=>?_)
 ·have hg14:=EY h14;have hs14:=G4 hzI hg14.1 hg14.2;rw [O1 h14] at M
  obtain ⟨j,rfl⟩:∃j,k=j+1:=⟨k-1,by omega⟩
  refine EC 4 (λw'=>Mem w (λk=>k=gx) [As.blk g3 213 (Xn.cells n A),As.xn 213 n A F,As.blk g2 213 [.int .u8 0,.int .u8 0,AA 0,.bool false,str [],str [],.slice none 0 0]] w') CA ?_;have M:=M.drew;refine oa 0 4 X X (M.pk [0,1,2]) (λ_ M=>AI (xs:=Xn.cells n A) X X (M.rdBlk 0 X X) Be X AC) (oc 1 4 X X (M.pk [0,1,2]) (BC 2 (some 19) gkr X kw X X (AD X X call261) (hF.c6 (AQ s z) _ (M.blk 3 X) (C6 (s:=s) (y:=z)) A0) ?_));rintro _ w11 ⟨A19,F19,rfl,hat19,hnw19,hbw11,hfw11⟩;have M:=M.putPush 3 X hbw11 hfw11 (As.xn 213 (fr 6 (AQ s z)).1 A19 F19) hat19 hnw19;obtain ⟨hI19,hm19⟩:=(show RxI s (fr 6 (AQ s z)).2∧rM s (fr 6 (AQ s z)).2≤rM s (AQ s z) from ⟨hF.I.I 6 _ (C6 (s:=s) (y:=z)) A0,hF.I.m 6 _ (C6 (s:=s) (y:=z)) A0⟩);refine ⟨_,X,λ_=>(M.pk [1,2,3]),?_⟩;refine BC 3 (some 20) gkr X kw X X (AD X X call225) (M3 14 n ((fr 6 (AQ s z)).1) A A19 _) ?_;rintro _ w12 ⟨g20,rfl,hbw12,hg20,hq20,hfw12⟩;refine ⟨_,X,λ_=>(M.pk [1,2,3]).step hfw12,?_⟩;have M:=M.push hfw12 _ hbw12 (CU hg20 hq20)
  replace M:Mem w (λk=>k=gx) (As.blk g20 213 (Xn.cells n A++Xn.cells ((fr 6 (AQ s z)).1) A19)::_) w12:=M
  refine B5 4 none gkr X kw X X (λρ hρ=>BK 213 _ _ X g3 0 213 _ (Xn.cells (Xn.bin 14 n ((fr 6 (AQ s z)).1)) (some ⟨g20,0,none⟩)) (hρ _ _ X) (hρ _ _ X) (M.blk 2 X) AC (CL X) (BW X)) ?_;rintro _ w13 ⟨rfl,hbw13,hfw13⟩
  replace M:Mem w (λk=>k=gx) (List.set _ 2 (As.blk g3 213 (Xn.cells (Xn.bin 14 n ((fr 6 (AQ s z)).1)) (some ⟨g20,0,none⟩)))) w13:=M.putB 2 rfl hbw13 hfw13
  refine ⟨λh=>absurd h AV,fdn (W ?_)⟩;have M:=Mem.bin (op:=14) (M.pk [0,3,1,2,4,5]);refine fag ⟨(Xn.bin 14 n ((fr 6 (AQ s z)).1)),(some ⟨g20,0,none⟩),(g20::(F++F19)),(fr 6 (AQ s z)).2,j,X,(M.pk [1,0,2,3]),?_,?_,?_,X⟩
  ·exact hI19
  ·exact ⟨by omega,by omega⟩
  exact heq.trans (LG (a2P h7 h14))
 rw [O2 h14] at M
 refine W ?_;refine CH M 0 X X Be AC X (BY M 2 X X AC X λw14 M=>W ?_);refine CT X X (M.rdBlk 2 X X) Be X AC ?_;rw [heq.trans (IU k (a2R h7 h14))];exact ⟨_,_,X,M.ok 1 _ X,M.newOf 1 3 X X AV,M.blk 3 X,M.fr⟩
theorem mZ {s:Kz} {gx f:Nat} {fr:Nat→Rx→Xn × Rx} (hF:RefOK s gx f fr) (y:Rx) (w:Kw) (hb:Blk w gx 258 (Rx.cells s y)) (hy:RxI s y) (hm:rM s y≤f) (hl:s.length≤256) :
 Calls prog 255 #[pg gx] w (N4 s gx w (KO s fr f y)):=by
 have hcl:csigns.length=6:=X;refine sx_enter (vs:=[_]) func255 X ntmps255 X ?_;have M:Mem w (λk=>k=gx) [As.blk gx 258 (Rx.cells s y)] w:=Mem.one hb;refine W ?_;refine CI M X BH λg2 w1 hg2 M=>W ?_
 refine cl 7 X (AD X X call258) (dG hF y _ (M.blk 1 X) hy A0 hl) ?_;rintro _ w2 ⟨A7,F7,rfl,hat7,hnw7,hbw2,hfw2⟩;have M:=M.putPush 1 X hbw2 hfw2 (As.xn 213 (FH s fr f y).1 A7 F7) hat7 hnw7;obtain ⟨hI7,hm7⟩:=iN f hF.I hy A0;refine cq (CI M X BH λg3 w3 hg3 M=>BY M 0 X X AC X λw4 M=>W ?_);refine CV M kw X X [str [61],str [33,61],str [60],str [60,61],str [62],str [62,61]] ([str [61],str [33,61],str [60],str [60,61],str [62],str [62,61]]) X X X X Az CG X X (by intro v hv;simp only [Ak,Ax,or_false] at hv;rcases hv with rfl|rfl|rfl|rfl|rfl|rfl<;>rfl) X λg8 w5 hg8 M=>W ?_
 have M:=M.blkOwnS 0 (size:=1) (n:=6) X (M.neBlk 0 4 X X AV) X (by unfold maxLen;omega);refine flp [4,3,2,0] (λze e wr mz=>∃(i:Nat),e=(5,AA (i:Int))::ze∧Mem w (λk=>k=gx) [As.own w.heap.size 9 1 (.slice (some ⟨g8,0,none⟩) 6 6) 6 (AE BG csigns),As.blk g3 213 (Xn.cells ((FH s fr f y).1) A7),As.xn 213 ((FH s fr f y).1) A7 F7,As.blk g2 213 [.int .u8 0,.int .u8 0,AA 0,.bool false,str [],str [],.slice none 0 0],As.blk gx 258 (Rx.cells s ((FH s fr f y).2))] wr∧(i≤csigns.length)∧(sgC (FH s fr f y).2=W6 (FH s fr f y).2 i (csigns.drop i))∧mz=6-i) ⟨0,X,M,Ae _,X,X⟩ ?_;rintro _ w6 _ ⟨i,rfl,M,hi,hs,rfl⟩;refine W ?_;refine AB X (λh12=>?_) (λh12=>?_)
 ·have h12p:=odt h12;refine W ?_;obtain ⟨z,_,_,hz,hA_z⟩:=ex5 (l:=csigns) (k:=1) (i:=i) (M.rdOwn 0 X);refine ya X (AK i hA_z X X X (sl X) A0) (yl X X (BD DI (M.rdOwn 0 X) hA_z hz 0 X) (GL M 4 20 X X (AD X X call224) (IJ s ((FH s fr f y).2) _ z _ (M.blk 4 X) hI7.at_ hl) λw7 M=>W ?_));refine AB X (λh20=>?_) (λh20=>?_)
  ·have hg20:=EY h20;have hs20:=G4 hI7 hg20.1 hg20.2;rw [O1 h20] at M
   refine sx_seq (EC 7 (λw'=>Mem w (λk=>k=gx) [As.own w.heap.size 9 1 (.slice (some ⟨g8,0,none⟩) 6 6) 6 (AE BG csigns),As.blk g3 213 (Xn.cells ((FH s fr f y).1) A7),As.xn 213 ((FH s fr f y).1) A7 F7,As.blk g2 213 [.int .u8 0,.int .u8 0,AA 0,.bool false,str [],str [],.slice none 0 0]] w') CA ?_);have M:=M.drew;refine oc 0 7 X X (M.pk [0,1,2,3]) (oa 1 7 X X (M.pk [0,1,2,3]) (λ_ M=>FS X X X A0) (oa 2 7 X X (M.pk [0,1,2,3]) (λ_ M=>CE (r:=((UInt8.ofNat (7+i)).toNat:Int)) X X Bg Bi kD) (oa 3 7 X X (M.pk [0,1,2,3]) (λ_ M=>AI (xs:=Xn.cells ((FH s fr f y).1) A7) X X (M.rdBlk 1 X X) Be X AC) (oc 4 7 X X (M.pk [0,1,2,3]) (BC 5 (some 26) gkr X kw X X (AD X X call258) (hF.c5 (AQ s ((FH s fr f y).2)) _ (M.blk 4 X) (C6 (s:=s) (y:=((FH s fr f y).2))) A0) ?_)))));rintro _ w8 ⟨A26,F26,rfl,hat26,hnw26,hbw8,hfw8⟩;have M:=M.putPush 4 X hbw8 hfw8 (As.xn 213 (fr 5 (AQ s ((FH s fr f y).2))).1 A26 F26) hat26 hnw26;obtain ⟨hI26,hm26⟩:=(show RxI s (fr 5 (AQ s ((FH s fr f y).2))).2∧rM s (fr 5 (AQ s ((FH s fr f y).2))).2≤rM s (AQ s ((FH s fr f y).2)) from ⟨hF.I.I 5 _ (C6 (s:=s) (y:=((FH s fr f y).2))) A0,hF.I.m 5 _ (C6 (s:=s) (y:=((FH s fr f y).2))) A0⟩);refine ⟨_,X,λ_=>(M.pk [1,2,3,4]),?_⟩;refine BC 6 (some 27) gkr X kw X X (AD X X call225) (M3 (UInt8.ofNat (7+i)) ((FH s fr f y).1) ((fr 5 (AQ s ((FH s fr f y).2))).1) A7 A26 _) ?_;rintro _ w9 ⟨g27,rfl,hbw9,hg27,hq27,hfw9⟩;refine ⟨_,X,λ_=>(M.pk [1,2,3,4]).step hfw9,?_⟩;have M:=M.push hfw9 _ hbw9 (CU hg27 hq27)
   replace M:Mem w (λk=>k=gx) (As.blk g27 213 (Xn.cells ((FH s fr f y).1) A7++Xn.cells ((fr 5 (AQ s ((FH s fr f y).2))).1) A26)::_) w9:=M
   refine B5 7 none gkr X kw X X (λρ hρ=>BK 213 _ _ X g2 0 213 _ (Xn.cells (Xn.bin (UInt8.ofNat (7+i)) ((FH s fr f y).1) ((fr 5 (AQ s ((FH s fr f y).2))).1)) (some ⟨g27,0,none⟩)) (hρ _ _ X) (hρ _ _ X) (M.blk 5 X) AC (CL X) (BW X)) ?_;rintro _ w10 ⟨rfl,hbw10,hfw10⟩
   replace M:Mem w (λk=>k=gx) (List.set _ 5 (As.blk g2 213 (Xn.cells (Xn.bin (UInt8.ofNat (7+i)) ((FH s fr f y).1) ((fr 5 (AQ s ((FH s fr f y).2))).1)) (some ⟨g27,0,none⟩)))) w10:=M.putB 5 rfl hbw10 hfw10
   refine ⟨λh=>absurd h AV,fdn (W ?_)⟩;refine CT X X (M.rdBlk 5 X X) Be X AC ?_;have M:=Mem.bin (op:=(UInt8.ofNat (7+i))) (M.pk [0,4,1,2,3,5,6]);rw [iQ (hs.trans (by rw [AG hz,W6,if_pos h20]))];exact ⟨_,_,X,M.ok 0 _ X,M.newOf 0 4 X X AV,M.blk 4 X,M.fr⟩
  rw [O2 h20] at M
  refine W ?_;refine fag ⟨i+1,X,M,?_,?_,X⟩
  ·omega
  rw [hs,AG hz,W6,AM h20]
 have h12p:=odf h12;refine W ?_;refine CH M 1 X X Be AC X (BY M 3 X X AC X λw11 M=>W ?_);refine CT X X (M.rdBlk 3 X X) Be X AC ?_;rw [iR (hs.trans (by rw [show i=csigns.length by omega,Am];rfl))];exact ⟨_,_,X,M.ok 2 _ X,M.newOf 2 4 X X AV,M.blk 4 X,M.fr⟩
theorem dH {s:Kz} {gx f:Nat} {fr:Nat→Rx→Xn × Rx} (hF:RefOK s gx f fr) (y:Rx) (w:Kw) (hb:Blk w gx 258 (Rx.cells s y)) (hy:RxI s y) (hm:rM s y≤f) (hl:s.length≤256) :
 Calls prog 242 #[pg gx] w (N4 s gx w (O4 s fr f y)):=by
 refine sx_enter (vs:=[_]) func242 X ntmps242 X ?_;have M:Mem w (λk=>k=gx) [As.blk gx 258 (Rx.cells s y)] w:=Mem.one hb;refine W ?_;refine CI M X BH λg2 w1 hg2 M=>W ?_
 refine GL M 1 4 X X (AD X X call224) (IJ s y _ [110,111,116] _ (M.blk 1 X) hy.at_ hl) λw2 M=>W ?_
 refine AB X (λh4=>?_) (λh4=>?_)
 ·have hg4:=EY h4;have hs4:=G4 hy hg4.1 hg4.2;rw [O1 h4] at M
  refine W ?_;refine cl 6 X (AD X X call242) (hF.c3 (AQ s y) _ (M.blk 1 X) (C6 (s:=s) (y:=y)) A0) ?_;rintro _ w3 ⟨A6,F6,rfl,hat6,hnw6,hbw3,hfw3⟩;have M:=M.putPush 1 X hbw3 hfw3 (As.xn 213 (fr 3 (AQ s y)).1 A6 F6) hat6 hnw6;obtain ⟨hI6,hm6⟩:=(show RxI s (fr 3 (AQ s y)).2∧rM s (fr 3 (AQ s y)).2≤rM s (AQ s y) from ⟨hF.I.I 3 _ (C6 (s:=s) (y:=y)) A0,hF.I.m 3 _ (C6 (s:=s) (y:=y)) A0⟩);refine cq (CV M kw X X [.agg (Xn.cells ((fr 3 (AQ s y)).1) A6).toArray] (Xn.cells ((fr 3 (AQ s y)).1) A6) X X X X Ii GN X X (GT X) X λg7 w4 hg7 M=>ya X (B7 (parts:=[(0,_),(3,_)]) X X (FW _ _ _ _)) (BY M 2 X X AC X λw5 M=>W ?_));refine CT X X (M.rdBlk 2 X X) Be X AC ?_;rw [show O4 s fr f y=(.un 3 (fr 3 (AQ s y)).1,(fr 3 (AQ s y)).2) from if_pos h4];obtain ⟨ha,hn⟩:=Mem.unR (op:=3) (M.pk [0,1,3]);exact ⟨_,_,X,ha,hn,M.blk 3 X,M.fr⟩
 rw [O2 h4] at M
 refine W ?_;refine cl 10 X (AD X X call255) (mZ hF y _ (M.blk 1 X) hy A0 hl) ?_;rintro _ w6 ⟨A10,F10,rfl,hat10,hnw10,hbw6,hfw6⟩;have M:=M.putPush 1 X hbw6 hfw6 (As.xn 213 (KO s fr f y).1 A10 F10) hat10 hnw10;obtain ⟨hI10,hm10⟩:=aV f hF.I hy A0;refine cq (BY M 1 X X AC X λw7 M=>W ?_);refine CT X X (M.rdBlk 1 X X) Be X AC ?_;rw [show O4 s fr f y=KO s fr f y from AM h4];exact ⟨_,_,X,M.ok 0 _ X,M.newOf 0 2 X X AV,M.blk 2 X,M.fr⟩
theorem dI {s:Kz} {gx f:Nat} {fr:Nat→Rx→Xn × Rx} (hF:RefOK s gx f fr) (y:Rx) (w:Kw) (hb:Blk w gx 258 (Rx.cells s y)) (hy:RxI s y) (hm:rM s y≤f) (hl:s.length≤256) :
 Calls prog 223 #[pg gx] w (N4 s gx w (PK s fr f y)):=by
 refine sx_enter (vs:=[_]) func223 X ntmps223 X ?_;have M:Mem w (λk=>k=gx) [As.blk gx 258 (Rx.cells s y)] w:=Mem.one hb;refine W ?_;refine CI M X BH λg2 w1 hg2 M=>W ?_
 refine cl 5 X (AD X X call242) (dH hF y _ (M.blk 1 X) hy A0 hl) ?_;rintro _ w2 ⟨A5,F5,rfl,hat5,hnw5,hbw2,hfw2⟩;have M:=M.putPush 1 X hbw2 hfw2 (As.xn 213 (O4 s fr f y).1 A5 F5) hat5 hnw5;obtain ⟨hI5,hm5⟩:=iO f hF.I hy A0;refine cq (CI M X BH λg3 w3 hg3 M=>BY M 0 X X AC X λw4 M=>W ?_);refine flp [3,2,0] (λze e wr mz=>∃(n:Xn) (A:Ky) (F:List Nat) (z:Rx) (k:Nat),e=ze∧Mem w (λk=>k=gx) [As.blk g3 213 (Xn.cells n A),As.xn 213 n A F,As.blk g2 213 [.int .u8 0,.int .u8 0,AA 0,.bool false,str [],str [],.slice none 0 0],As.blk gx 258 (Rx.cells s z)] wr∧(RxI s z)∧(rM s z≤k∧k≤f)∧(PK s fr f y=GS s fr 2 sgA k n z)∧mz=2*k) ⟨(O4 s fr f y).1,A5,F5,(O4 s fr f y).2,f,X,M,hI5,⟨by omega,Ab _⟩,X,X⟩ ?_;rintro _ w5 _ ⟨n,A,F,z,k,rfl,M,hzI,hk,heq,rfl⟩;refine W ?_;refine GL M 3 7 X X (AD X X call224) (IJ s z _ [97,110,100] _ (M.blk 3 X) hzI.at_ hl) λw6 M=>W ?_
 refine AB X (λh7=>?_) (λh7=>?_)
 ·have hg7:=EY h7;have hs7:=G4 hzI hg7.1 hg7.2;rw [O1 h7] at M
  obtain ⟨j,rfl⟩:∃j,k=j+1:=⟨k-1,by omega⟩
  refine W ?_;refine EC 4 (λw'=>Mem w (λk=>k=gx) [As.blk g3 213 (Xn.cells n A),As.xn 213 n A F,As.blk g2 213 [.int .u8 0,.int .u8 0,AA 0,.bool false,str [],str [],.slice none 0 0]] w') CA ?_;have M:=M.drew;refine oa 0 4 X X (M.pk [0,1,2]) (λ_ M=>AI (xs:=Xn.cells n A) X X (M.rdBlk 0 X X) Be X AC) (oc 1 4 X X (M.pk [0,1,2]) (BC 2 (some 10) gkr X kw X X (AD X X call242) (hF.c3 (AQ s z) _ (M.blk 3 X) (C6 (s:=s) (y:=z)) A0) ?_));rintro _ w7 ⟨A10,F10,rfl,hat10,hnw10,hbw7,hfw7⟩;have M:=M.putPush 3 X hbw7 hfw7 (As.xn 213 (fr 3 (AQ s z)).1 A10 F10) hat10 hnw10;obtain ⟨hI10,hm10⟩:=(show RxI s (fr 3 (AQ s z)).2∧rM s (fr 3 (AQ s z)).2≤rM s (AQ s z) from ⟨hF.I.I 3 _ (C6 (s:=s) (y:=z)) A0,hF.I.m 3 _ (C6 (s:=s) (y:=z)) A0⟩);refine ⟨_,X,λ_=>(M.pk [1,2,3]),?_⟩;refine BC 3 (some 11) gkr X kw X X (AD X X call225) (M3 5 n ((fr 3 (AQ s z)).1) A A10 _) ?_;rintro _ w8 ⟨g11,rfl,hbw8,hg11,hq11,hfw8⟩;refine ⟨_,X,λ_=>(M.pk [1,2,3]).step hfw8,?_⟩;have M:=M.push hfw8 _ hbw8 (CU hg11 hq11)
  replace M:Mem w (λk=>k=gx) (As.blk g11 213 (Xn.cells n A++Xn.cells ((fr 3 (AQ s z)).1) A10)::_) w8:=M
  refine B5 4 none gkr X kw X X (λρ hρ=>BK 213 _ _ X g3 0 213 _ (Xn.cells (Xn.bin 5 n ((fr 3 (AQ s z)).1)) (some ⟨g11,0,none⟩)) (hρ _ _ X) (hρ _ _ X) (M.blk 2 X) AC (CL X) (BW X)) ?_;rintro _ w9 ⟨rfl,hbw9,hfw9⟩
  replace M:Mem w (λk=>k=gx) (List.set _ 2 (As.blk g3 213 (Xn.cells (Xn.bin 5 n ((fr 3 (AQ s z)).1)) (some ⟨g11,0,none⟩)))) w9:=M.putB 2 rfl hbw9 hfw9
  refine ⟨λh=>absurd h AV,fdn (qx_block_normal ?_)⟩;have M:=Mem.bin (op:=5) (M.pk [0,3,1,2,4,5]);refine fag ⟨(Xn.bin 5 n ((fr 3 (AQ s z)).1)),(some ⟨g11,0,none⟩),(g11::(F++F10)),(fr 3 (AQ s z)).2,j,X,(M.pk [1,0,2,3]),?_,?_,?_,X⟩
  ·exact hI10
  ·exact ⟨by omega,by omega⟩
  exact heq.trans (LG (a2Y h7))
 rw [O2 h7] at M
 refine W ?_;refine CH M 0 X X Be AC X (BY M 2 X X AC X λw10 M=>W ?_);refine CT X X (M.rdBlk 2 X X) Be X AC ?_;rw [heq.trans (IU k (a2Z h7))];exact ⟨_,_,X,M.ok 1 _ X,M.newOf 1 3 X X AV,M.blk 3 X,M.fr⟩
theorem xF {s:Kz} {gx f:Nat} {fr:Nat→Rx→Xn × Rx} (hF:RefOK s gx f fr) (y:Rx) (w:Kw) (hb:Blk w gx 258 (Rx.cells s y)) (hy:RxI s y) (hm:rM s y≤f) (hl:s.length≤256) :
 Calls prog 200 #[pg gx] w (N4 s gx w (rOr s fr f y)):=by
 refine sx_enter (vs:=[_]) func200 X ntmps200 X ?_;have M:Mem w (λk=>k=gx) [As.blk gx 258 (Rx.cells s y)] w:=Mem.one hb;refine W ?_;refine CI M X BH λg2 w1 hg2 M=>W ?_
 refine cl 5 X (AD X X call223) (dI hF y _ (M.blk 1 X) hy A0 hl) ?_;rintro _ w2 ⟨A5,F5,rfl,hat5,hnw5,hbw2,hfw2⟩;have M:=M.putPush 1 X hbw2 hfw2 (As.xn 213 (PK s fr f y).1 A5 F5) hat5 hnw5;obtain ⟨hI5,hm5⟩:=iS f hF.I hy A0;refine cq (CI M X BH λg3 w3 hg3 M=>BY M 0 X X AC X λw4 M=>W ?_);refine flp [3,2,0] (λze e wr mz=>∃(n:Xn) (A:Ky) (F:List Nat) (z:Rx) (k:Nat),e=ze∧Mem w (λk=>k=gx) [As.blk g3 213 (Xn.cells n A),As.xn 213 n A F,As.blk g2 213 [.int .u8 0,.int .u8 0,AA 0,.bool false,str [],str [],.slice none 0 0],As.blk gx 258 (Rx.cells s z)] wr∧(RxI s z)∧(rM s z≤k∧k≤f)∧(rOr s fr f y=GS s fr 1 sgO k n z)∧mz=2*k) ⟨(PK s fr f y).1,A5,F5,(PK s fr f y).2,f,X,M,hI5,⟨by omega,Ab _⟩,X,X⟩ ?_;rintro _ w5 _ ⟨n,A,F,z,k,rfl,M,hzI,hk,heq,rfl⟩;refine W ?_;refine GL M 3 7 X X (AD X X call224) (IJ s z _ [111,114] _ (M.blk 3 X) hzI.at_ hl) λw6 M=>W ?_
 refine AB X (λh7=>?_) (λh7=>?_)
 ·have hg7:=EY h7;have hs7:=G4 hzI hg7.1 hg7.2;rw [O1 h7] at M
  obtain ⟨j,rfl⟩:∃j,k=j+1:=⟨k-1,by omega⟩
  refine W ?_;refine EC 4 (λw'=>Mem w (λk=>k=gx) [As.blk g3 213 (Xn.cells n A),As.xn 213 n A F,As.blk g2 213 [.int .u8 0,.int .u8 0,AA 0,.bool false,str [],str [],.slice none 0 0]] w') CA ?_;have M:=M.drew;refine oa 0 4 X X (M.pk [0,1,2]) (λ_ M=>AI (xs:=Xn.cells n A) X X (M.rdBlk 0 X X) Be X AC) (oc 1 4 X X (M.pk [0,1,2]) (BC 2 (some 10) gkr X kw X X (AD X X call223) (hF.c2 (AQ s z) _ (M.blk 3 X) (C6 (s:=s) (y:=z)) A0) ?_));rintro _ w7 ⟨A10,F10,rfl,hat10,hnw10,hbw7,hfw7⟩;have M:=M.putPush 3 X hbw7 hfw7 (As.xn 213 (fr 2 (AQ s z)).1 A10 F10) hat10 hnw10;obtain ⟨hI10,hm10⟩:=(show RxI s (fr 2 (AQ s z)).2∧rM s (fr 2 (AQ s z)).2≤rM s (AQ s z) from ⟨hF.I.I 2 _ (C6 (s:=s) (y:=z)) A0,hF.I.m 2 _ (C6 (s:=s) (y:=z)) A0⟩);refine ⟨_,X,λ_=>(M.pk [1,2,3]),?_⟩;refine BC 3 (some 11) gkr X kw X X (AD X X call225) (M3 6 n ((fr 2 (AQ s z)).1) A A10 _) ?_;rintro _ w8 ⟨g11,rfl,hbw8,hg11,hq11,hfw8⟩;refine ⟨_,X,λ_=>(M.pk [1,2,3]).step hfw8,?_⟩;have M:=M.push hfw8 _ hbw8 (CU hg11 hq11)
  replace M:Mem w (λk=>k=gx) (As.blk g11 213 (Xn.cells n A++Xn.cells ((fr 2 (AQ s z)).1) A10)::_) w8:=M
  refine B5 4 none gkr X kw X X (λρ hρ=>BK 213 _ _ X g3 0 213 _ (Xn.cells (Xn.bin 6 n ((fr 2 (AQ s z)).1)) (some ⟨g11,0,none⟩)) (hρ _ _ X) (hρ _ _ X) (M.blk 2 X) AC (CL X) (BW X)) ?_;rintro _ w9 ⟨rfl,hbw9,hfw9⟩
  replace M:Mem w (λk=>k=gx) (List.set _ 2 (As.blk g3 213 (Xn.cells (Xn.bin 6 n ((fr 2 (AQ s z)).1)) (some ⟨g11,0,none⟩)))) w9:=M.putB 2 rfl hbw9 hfw9
  refine ⟨λh=>absurd h AV,fdn (qx_block_normal ?_)⟩;have M:=Mem.bin (op:=6) (M.pk [0,3,1,2,4,5]);refine fag ⟨(Xn.bin 6 n ((fr 2 (AQ s z)).1)),(some ⟨g11,0,none⟩),(g11::(F++F10)),(fr 2 (AQ s z)).2,j,X,(M.pk [1,0,2,3]),?_,?_,?_,X⟩
  ·exact hI10
  ·exact ⟨by omega,by omega⟩
  exact heq.trans (LG (a2W h7))
 rw [O2 h7] at M
 refine W ?_;refine CH M 0 X X Be AC X (BY M 2 X X AC X λw10 M=>W ?_);refine CT X X (M.rdBlk 2 X X) Be X AC ?_;rw [heq.trans (IU k (a2X h7))];exact ⟨_,_,X,M.ok 1 _ X,M.newOf 1 3 X X AV,M.blk 3 X,M.fr⟩
end Go.Proofs.YtppmdnmjepkfaaaGreatDoor
