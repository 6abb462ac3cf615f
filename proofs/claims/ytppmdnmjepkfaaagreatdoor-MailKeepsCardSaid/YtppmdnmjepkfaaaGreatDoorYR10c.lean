/- Lemmas. -/
import Derived.Test.YtppmdnmjepkfaaaGreatDoorYR10b
set_option maxHeartbeats 16000000
set_option maxRecDepth 100000
namespace Go.Proofs.YtppmdnmjepkfaaaGreatDoor
open Go.RowKit
open Tryz
open Option renaming some→G,none→zx
open Bool renaming true→zz,false→zy
open Go.Proofs.Tryz renaming prog→zv
open Go renaming Calls→zt
def NK (s:Kz) (gx:Nat) (w:Kw) (r:Xn × Rx):Ending→Kw→Prop:=λe w'=>∃A F,e=.returned (.agg (r.1.cells A).toArray)∧r.1.AtL 213 w' A F∧(∀k∈F,w.heap.size≤k∧k<w'.heap.size)∧Blk w' gx 258 (Rx.cells s r.2)∧Fr (λk=>k=gx) w w'
structure RefOK (s:Kz) (gx f:Nat) (fr:Nat→Rx→Xn × Rx):Prop where
 I:RfI s f fr
 c1:∀(y:Rx) (w:Kw),Blk w gx 258 (Rx.cells s y)→RxI s y→rM s y<f→zt zv 200 #[.pointer (G ⟨gx,0,zx⟩)] w (NK s gx w (fr 1 y))
 c2:∀(y:Rx) (w:Kw),Blk w gx 258 (Rx.cells s y)→RxI s y→rM s y<f→zt zv 223 #[.pointer (G ⟨gx,0,zx⟩)] w (NK s gx w (fr 2 y))
 c3:∀(y:Rx) (w:Kw),Blk w gx 258 (Rx.cells s y)→RxI s y→rM s y<f→zt zv 242 #[.pointer (G ⟨gx,0,zx⟩)] w (NK s gx w (fr 3 y))
 c5:∀(y:Rx) (w:Kw),Blk w gx 258 (Rx.cells s y)→RxI s y→rM s y<f→zt zv 258 #[.pointer (G ⟨gx,0,zx⟩)] w (NK s gx w (fr 5 y))
 c6:∀(y:Rx) (w:Kw),Blk w gx 258 (Rx.cells s y)→RxI s y→rM s y<f→zt zv 261 #[.pointer (G ⟨gx,0,zx⟩)] w (NK s gx w (fr 6 y))
 c7:∀(y:Rx) (w:Kw),Blk w gx 258 (Rx.cells s y)→RxI s y→rM s y<f→zt zv 266 #[.pointer (G ⟨gx,0,zx⟩)] w (NK s gx w (fr 7 y))
section
variable {s:Kz} {f:Nat} {fr:Nat→Rx→Xn × Rx} {y:Rx}
theorem jE {op:UInt8} (h:sgC (FP s fr f y).2=G op):KZ s fr f y=(.bin op (FP s fr f y).1 (fr 5 (AS s (FP s fr f y).2)).1,(fr 5 (AS s (FP s fr f y).2)).2):=by unfold KZ;rw [h]
theorem jF (h:sgC (FP s fr f y).2=zx):KZ s fr f y=FP s fr f y:=by unfold KZ;rw [h]
end
theorem OG {s:Kz} {y:Rx} {k:Kz} (h:isR y k=zz):isN s y k=AS s y:=Ac h
theorem OH {s:Kz} {y:Rx} {k:Kz} (h:isR y k=zy):isN s y k=y:=AN h
theorem Mem.unR {w0 w:Kw} {t:Ly} {gx ty g:Nat} {cs:Kx} {op:UInt8} {a:Xn} {B:Ky} {F:List Nat} {L:List As} (M:Mem w0 (λk=>k=gx) (As.blk g t (a.cells B)::As.xn t a B F::As.blk gx ty cs::L) w):(Xn.un op a).AtL t w (G ⟨g,0,zx⟩) (g::F)∧∀k∈g::F,w0.heap.size≤k∧k<w.heap.size:=M.un
section
variable {s:Kz} {fr:Nat→Rx→Xn × Rx} {y:Rx} (h6:isR y [45]=zy)
include h6
theorem a22 (h15:¬y.e=0):EX s fr y=(.zero,y):=by unfold EX;rw [AN h6,Ac h15]
variable (h15:y.e=0)
include h15
theorem eE : EX s fr y=if y.kd=1 then (.lit y.vl,AS s y)
 else if y.kd=2 then (.var y.say,AS s y)
 else if isR y [40]=zz then ((fr 1 (AS s y)).1,if isR (fr 1 (AS s y)).2 [41]=zz then AS s (fr 1 (AS s y)).2 else (fr 1 (AS s y)).2.fail 4 (fr 1 (AS s y)).2.tat)
 else (.zero,y.fail 4 y.tat):=by
 unfold EX;rw [AN h6,Ae (show ¬ ¬y.e=0 from λz=>z h15)]
theorem a1Z (h:(y.kd:Int)=(1:Int)):EX s fr y=(.lit y.vl,AS s y):=by rw [eE h6 h15,Ac A0]
theorem a1Y (h:(y.kd:Int)=(2:Int)):EX s fr y=(.var y.say,AS s y):=by rw [eE h6 h15,Ae (show ¬y.kd=1 by omega),Ac (show y.kd=2 by omega)]
variable (h22:¬((y.kd:Nat):Int)=(1:Int))
include h22
variable (h31:¬((y.kd:Nat):Int)=(2:Int))
include h31
theorem a26 (h:isR y [40]=zy):EX s fr y=(.zero,y.fail 4 y.tat):=by rw [eE h6 h15,Ae (show ¬y.kd=1 by omega),Ae (show ¬y.kd=2 by omega),AN h]
theorem a25 (h:isR y [40]=zz) (h2:isR (fr 1 (AS s y)).2 [41]=zz):EX s fr y=((fr 1 (AS s y)).1,AS s (fr 1 (AS s y)).2):=by rw [eE h6 h15,Ae (show ¬y.kd=1 by omega),Ae (show ¬y.kd=2 by omega),Ac h,Ac h2]
theorem a24 (h:isR y [40]=zz) (h2:isR (fr 1 (AS s y)).2 [41]=zy):EX s fr y=((fr 1 (AS s y)).1,(fr 1 (AS s y)).2.fail 4 (fr 1 (AS s y)).2.tat):=by rw [eE h6 h15,Ae (show ¬y.kd=1 by omega),Ae (show ¬y.kd=2 by omega),Ac h,AN h2]
end
theorem EQ  : zv.built 213 []=G #[.int .u8 0,.int .u8 0,AA 0,.bool zy,str [],str [],.slice zx 0 0]:=zr
theorem MC (a0:Int) (c1_0 c1_1 c1_2 c1_3:Kv):zv.built 213 [(0,.int .u8 a0),(1,.agg #[c1_0,c1_1,c1_2,c1_3])]=G #[.int .u8 a0,c1_0,c1_1,c1_2,c1_3,str [],.slice zx 0 0]:=zr
theorem MB (a0:Int) (a2:Kz):zv.built 213 [(0,.int .u8 a0),(2,str a2)]=G #[.int .u8 a0,.int .u8 0,AA 0,.bool zy,str [],str a2,.slice zx 0 0]:=zr
theorem G2 (a0:Int) (A3:Ky) (n3 c3:Nat):zv.built 213 [(0,.int .u8 a0),(3,.slice A3 n3 c3)]=G #[.int .u8 a0,.int .u8 0,AA 0,.bool zy,str [],str [],.slice A3 n3 c3]:=zr
theorem GV : (zv.info? 213).map (λi=>(i.zero,i.size))=G (G (.agg #[.int .u8 0,.int .u8 0,AA 0,.bool zy,str [],str [],.slice zx 0 0]),7):=zr
theorem AD : (zv.info? 213).map (·.size)=G 7:=zr
theorem BJ : (zv.info? 213).map (·.zero)=G (G (.agg #[.int .u8 0,.int .u8 0,AA 0,.bool zy,str [],str [],.slice zx 0 0])):=zr
theorem NM : (zv.info? 256).map (·.zero)=G (G (.agg #[AA 0,str [],.int .u8 0,AA 0,.bool zy,str [],AA 0])):=zr
theorem MJ (op:UInt8) (a b:Xn) (A B:Ky) (w:Kw) :
 zt zv 225 #[.int .u8 (op.toNat:Int),.agg (a.cells A).toArray,.agg (b.cells B).toArray] w λe w'=>∃g,e=.returned (.agg ((Xn.bin op a b).cells (G ⟨g,0,zx⟩)).toArray)∧Blk w' g 213 (a.cells A++b.cells B)∧w.heap.size≤g∧g<w'.heap.size∧Fr0 w w':=by
 refine BO func225 ntmps225 X λM=>W ?_
 refine CU M X X λg4 w1 hg4 M=>CU M X X λg5 w2 hg5 M=>CE M X BJ λg6 w3 hg6 M=>W ?_
 refine CF M 2 X X Bj AD X (CF M 1 X X Bj AD X (CP M kw X X [.agg (Xn.cells a A).toArray,.agg (Xn.cells b B).toArray] ([.int .u8 (a.op.toNat:Int),.int .u8 (a.vl.kind.toNat:Int),AA a.vl.int,.bool a.vl.bool,str a.vl.text,str a.nm,.slice A a.nk a.nk,.int .u8 (b.op.toNat:Int),.int .u8 (b.vl.kind.toNat:Int),AA b.vl.int,.bool b.vl.bool,str b.vl.text,str b.nm,.slice B b.nk b.nk]) X X X X It GV X X (by intro v hv;simp only [Ao,Ba,or_false] at hv;rcases hv with rfl|rfl<;>rfl) X λg10 w4 hg10 M=>ya X (B8 (parts:=[(0,_),(3,_)]) X X (G2 _ _ _ _)) (BX M 1 X X AD X λw5 M=>W ?_)));exact CV X X (M.rdBlk 1 X X) Bj X AD ⟨g10,X,M.blk 0 X,(M.new0 0 X g10 (by simp [As.blk])).1,(M.new0 0 X g10 (by simp [As.blk])).2,M.fr⟩
theorem WO {s:Kz} {gx f:Nat} {fr:Nat→Rx→Xn × Rx} (hF:RefOK s gx f fr) (y:Rx) (w:Kw) (hb:Blk w gx 258 (Rx.cells s y)) (hy:RxI s y) (hm:rM s y≤f) (hl:s.length≤256) :
 zt zv 266 #[pg gx] w (NK s gx w (EX s fr y)):=by
 refine sx_enter (vs:=[_]) func266 X ntmps266 X ?_;have M:Mem w (λk=>k=gx) [As.blk gx 258 (Rx.cells s y)] w:=Mem.one hb;refine W ?_;refine CE M X BJ λg2 w1 hg2 M=>W ?_
 refine FQ M 1 6 X X (AE X X call224) (IQ s y _ [45] _ (M.blk 1 X) hy.at_ hl) λw2 M=>W ?_
 refine AC X (λh6=>?_) (λh6=>?_)
 ·have hg6:=EY h6;have hs6:=GA hy hg6.1 hg6.2;rw [OG h6] at M
  refine W ?_;refine cl 8 X (AE X X call266) (hF.c7 (AS s y) _ (M.blk 1 X) (C8 (s:=s) (y:=y)) A0) ?_;rintro _ w3 ⟨A8,F8,rfl,hat8,hnw8,hbw3,hfw3⟩;have M:=M.putPush 1 X hbw3 hfw3 (As.xn 213 (fr 7 (AS s y)).1 A8 F8) hat8 hnw8;obtain ⟨hI8,hm8⟩:=(show RxI s (fr 7 (AS s y)).2∧rM s (fr 7 (AS s y)).2≤rM s (AS s y) from ⟨hF.I.I 7 _ (C8 (s:=s) (y:=y)) A0,hF.I.m 7 _ (C8 (s:=s) (y:=y)) A0⟩);refine cq (CP M kw X X [.agg (Xn.cells ((fr 7 (AS s y)).1) A8).toArray] (Xn.cells ((fr 7 (AS s y)).1) A8) X X X X It GV X X (FZ X) X λg9 w4 hg9 M=>ya X (B8 (parts:=[(0,_),(3,_)]) X X (G2 _ _ _ _)) (BX M 2 X X AD X λw5 M=>W ?_));refine CV X X (M.rdBlk 2 X X) Bj X AD ?_;rw [show EX s fr y=(.un 4 (fr 7 (AS s y)).1,(fr 7 (AS s y)).2) from Ac h6];obtain ⟨ha,hn⟩:=Mem.unR (op:=4) (M.pk [0,1,3]);exact ⟨_,_,X,ha,hn,M.blk 3 X,M.fr⟩
 rw [OH h6] at M
 refine W ?_;refine ya X (AJ (xs:=[AA (y.kd:Int),str y.say,.int .u8 (y.vl.kind.toNat:Int),AA y.vl.int,.bool y.vl.bool,str y.vl.text,AA (y.tat:Int)]) X X (DO (M.blk 1 X) 2 7 X X) underlying256 X CN) (CE M X NM λg3 w6 hg3 M=>BX M 0 X X CN X λw7 M=>W ?_);refine AC X (λh15=>?_) (λh15=>?_)
 ·have h15p:=(odf (CJ h15));refine W ?_;refine ya X (B8 (parts:=[]) X X (EQ)) (BX M 1 X X AD X λw8 M=>W ?_);refine CV X X (M.rdBlk 1 X X) Bj X AD ?_;rw [a22 h6 h15p];exact ⟨zx,[],X,⟨X,X⟩,(λk hk=>absurd hk (by simp)),M.blk 2 X,M.fr⟩
 have h15p:=(odt (BL h15));refine W ?_;refine AC X (λh22=>?_) (λh22=>?_)
 ·have h22p:=odt h22;refine W ?_;refine FQ M 2 27 X X (AE X X call199) (PG s y _ _ (M.blk 2 X) hy.at_ hl) λw9 M=>W ?_
  refine ya X (AJ (xs:=[.int .u8 (y.vl.kind.toNat:Int),AA y.vl.int,.bool y.vl.bool,str y.vl.text]) X X (DO (M.blk 0 X) 2 4 X X) By X BM) (ya X (B8 (parts:=[(0,_),(1,_)]) X X (MC _ _ _ _ _)) (BX M 1 X X AD X λw10 M=>W ?_));refine CV X X (M.rdBlk 1 X X) Bj X AD ?_;rw [a1Z h6 h15p h22p];exact ⟨zx,[],X,⟨X,X⟩,(λk hk=>absurd hk (by simp)),M.blk 2 X,M.fr⟩
 have h22p:=odf h22;refine W ?_;refine AC X (λh31=>?_) (λh31=>?_)
 ·have h31p:=odt h31;refine W ?_;refine FQ M 2 36 X X (AE X X call199) (PG s y _ _ (M.blk 2 X) hy.at_ hl) λw11 M=>W ?_
  refine ya X (B8 (parts:=[(0,_),(2,_)]) X X (MB _ _)) (BX M 1 X X AD X λw12 M=>W ?_);refine CV X X (M.rdBlk 1 X X) Bj X AD ?_;rw [a1Y h6 h15p h31p];exact ⟨zx,[],X,⟨X,X⟩,(λk hk=>absurd hk (by simp)),M.blk 2 X,M.fr⟩
 have h31p:=odf h31;refine W ?_;refine FQ M 2 42 X X (AE X X call224) (IQ s y _ [40] _ (M.blk 2 X) hy.at_ hl) λw13 M=>W ?_
 refine AC X (λh40=>?_) (λh40=>?_)
 ·have hg40:=EY h40;have hs40:=GA hy hg40.1 hg40.2;rw [OG h40] at M
  refine W ?_;refine cl 44 X (AE X X call200) (hF.c1 (AS s y) _ (M.blk 2 X) (C8 (s:=s) (y:=y)) A0) ?_;rintro _ w14 ⟨A44,F44,rfl,hat44,hnw44,hbw14,hfw14⟩;have M:=M.putPush 2 X hbw14 hfw14 (As.xn 213 (fr 1 (AS s y)).1 A44 F44) hat44 hnw44;obtain ⟨hI44,hm44⟩:=(show RxI s (fr 1 (AS s y)).2∧rM s (fr 1 (AS s y)).2≤rM s (AS s y) from ⟨hF.I.I 1 _ (C8 (s:=s) (y:=y)) A0,hF.I.m 1 _ (C8 (s:=s) (y:=y)) A0⟩);refine cq (CE M X BJ λg4 w15 hg4 M=>BX M 0 X X AD X λw16 M=>W ?_);refine FQ M 4 46 X X (AE X X call224) (IQ s ((fr 1 (AS s y)).2) _ [41] _ (M.blk 4 X) hI44.at_ hl) λw17 M=>W ?_
  refine AC X (λh47=>?_) (λh47=>?_)
  ·rw [OH (CJ h47)] at M
   refine W ?_;refine FQ M 4 54 X X (AE X X call201) (HE s ((fr 1 (AS s y)).2) _ _ _ _ (M.blk 4 X)) λw18 M=>W ?_
   refine CF M 0 X X Bj AD X (BX M 3 X X AD X λw19 M=>W ?_);refine CV X X (M.rdBlk 3 X X) Bj X AD ?_;rw [a24 h6 h15p h22p h31p h40 (CJ h47)];exact ⟨_,_,X,M.ok 1 _ X,M.newOf 1 4 X X AV,M.blk 4 X,M.fr⟩
  have hg47:=EY (BL h47);have hs47:=GA hI44 hg47.1 hg47.2;rw [OG (BL h47)] at M
  refine W ?_;refine CF M 0 X X Bj AD X (BX M 3 X X AD X λw20 M=>W ?_);refine CV X X (M.rdBlk 3 X X) Bj X AD ?_;rw [a25 h6 h15p h22p h31p h40 (BL h47)];exact ⟨_,_,X,M.ok 1 _ X,M.newOf 1 4 X X AV,M.blk 4 X,M.fr⟩
 rw [OH h40] at M
 refine W ?_;refine FQ M 2 59 X X (AE X X call201) (HE s y _ _ _ _ (M.blk 2 X)) λw21 M=>W ?_
 refine ya X (B8 (parts:=[]) X X (EQ)) (BX M 1 X X AD X λw22 M=>W ?_);refine CV X X (M.rdBlk 1 X X) Bj X AD ?_;rw [a26 h6 h15p h22p h31p h40];exact ⟨zx,[],X,⟨X,X⟩,(λk hk=>absurd hk (by simp)),M.blk 2 X,M.fr⟩
theorem ZD {s:Kz} {gx f:Nat} {fr:Nat→Rx→Xn × Rx} (hF:RefOK s gx f fr) (y:Rx) (w:Kw) (hb:Blk w gx 258 (Rx.cells s y)) (hy:RxI s y) (hm:rM s y≤f) (hl:s.length≤256) :
 zt zv 261 #[pg gx] w (NK s gx w (KN s fr f y)):=by
 refine sx_enter (vs:=[_]) func261 X ntmps261 X ?_;have M:Mem w (λk=>k=gx) [As.blk gx 258 (Rx.cells s y)] w:=Mem.one hb;refine W ?_;refine CE M X BJ λg2 w1 hg2 M=>W ?_
 refine cl 5 X (AE X X call266) (WO hF y _ (M.blk 1 X) hy A0 hl) ?_;rintro _ w2 ⟨A5,F5,rfl,hat5,hnw5,hbw2,hfw2⟩;have M:=M.putPush 1 X hbw2 hfw2 (As.xn 213 (EX s fr y).1 A5 F5) hat5 hnw5;obtain ⟨hI5,hm5⟩:=WV hF.I hy A0;refine cq (CE M X BJ λg3 w3 hg3 M=>BX M 0 X X AD X λw4 M=>W ?_);refine flp [3,2,0] (λze e wr mz=>∃(n:Xn) (A:Ky) (F:List Nat) (z:Rx) (k:Nat),e=ze∧Mem w (λk=>k=gx) [As.blk g3 213 (Xn.cells n A),As.xn 213 n A F,As.blk g2 213 [.int .u8 0,.int .u8 0,AA 0,.bool zy,str [],str [],.slice zx 0 0],As.blk gx 258 (Rx.cells s z)] wr∧(RxI s z)∧(rM s z≤k∧k≤f)∧(KN s fr f y=HB s fr 6 sgP k n z)∧mz=2*k) ⟨(EX s fr y).1,A5,F5,(EX s fr y).2,f,X,M,hI5,⟨A0,Af _⟩,X,X⟩ ?_;rintro _ w5 _ ⟨n,A,F,z,k,rfl,M,hzI,hk,heq,rfl⟩;refine W ?_;refine FQ M 3 9 X X (AE X X call224) (IQ s z _ [42] _ (M.blk 3 X) hzI.at_ hl) λw6 M=>W ?_
 refine AC X (λh7=>?_) (λh7=>?_)
 ·have hg7:=EY h7;have hs7:=GA hzI hg7.1 hg7.2;rw [OG h7] at M
  obtain ⟨j,rfl⟩:∃j,k=j+1:=⟨k-1,A0⟩
  refine EO 4 (λw'=>Mem w (λk=>k=gx) [As.blk g3 213 (Xn.cells n A),As.xn 213 n A F,As.blk g2 213 [.int .u8 0,.int .u8 0,AA 0,.bool zy,str [],str [],.slice zx 0 0]] w') CA ?_;have M:=M.drew;refine oa 0 4 X X (M.pk [0,1,2]) (λ_ M=>AJ (xs:=Xn.cells n A) X X (M.rdBlk 0 X X) Bj X AD) (oc 1 4 X X (M.pk [0,1,2]) (BB 2 (G 12) zr X kw X X (AE X X call266) (hF.c7 (AS s z) _ (M.blk 3 X) (C8 (s:=s) (y:=z)) A0) ?_));rintro _ w7 ⟨A12,F12,rfl,hat12,hnw12,hbw7,hfw7⟩;have M:=M.putPush 3 X hbw7 hfw7 (As.xn 213 (fr 7 (AS s z)).1 A12 F12) hat12 hnw12;obtain ⟨hI12,hm12⟩:=(show RxI s (fr 7 (AS s z)).2∧rM s (fr 7 (AS s z)).2≤rM s (AS s z) from ⟨hF.I.I 7 _ (C8 (s:=s) (y:=z)) A0,hF.I.m 7 _ (C8 (s:=s) (y:=z)) A0⟩);refine ⟨_,X,λ_=>(M.pk [1,2,3]),?_⟩;refine BB 3 (G 13) zr X kw X X (AE X X call225) (MJ 15 n ((fr 7 (AS s z)).1) A A12 _) ?_;rintro _ w8 ⟨g13,rfl,hbw8,hg13,hq13,hfw8⟩;refine ⟨_,X,λ_=>(M.pk [1,2,3]).step hfw8,?_⟩;have M:=M.push hfw8 _ hbw8 (CR hg13 hq13)
  replace M:Mem w (λk=>k=gx) (As.blk g13 213 (Xn.cells n A++Xn.cells ((fr 7 (AS s z)).1) A12)::_) w8:=M
  refine B7 4 zx zr X kw X X (λρ hρ=>BZ 213 _ _ X g3 0 213 _ (Xn.cells (Xn.bin 15 n ((fr 7 (AS s z)).1)) (G ⟨g13,0,zx⟩)) (hρ _ _ X) (hρ _ _ X) (M.blk 2 X) AD (CM X) (BN X)) ?_;rintro _ w9 ⟨rfl,hbw9,hfw9⟩
  replace M:Mem w (λk=>k=gx) (List.set _ 2 (As.blk g3 213 (Xn.cells (Xn.bin 15 n ((fr 7 (AS s z)).1)) (G ⟨g13,0,zx⟩)))) w9:=M.putB 2 rfl hbw9 hfw9
  refine ⟨λh=>absurd h AV,fdn (W ?_)⟩;have M:=Mem.bin (op:=15) (M.pk [0,3,1,2,4,5]);refine fag ⟨(Xn.bin 15 n ((fr 7 (AS s z)).1)),(G ⟨g13,0,zx⟩),(g13::(F++F12)),(fr 7 (AS s z)).2,j,X,(M.pk [1,0,2,3]),?_,?_,?_,X⟩
  ·exact hI12
  ·exact ⟨A0,A0⟩
  exact heq.trans (LT (a3H h7))
 rw [OH h7] at M
 refine W ?_;refine FQ M 3 16 X X (AE X X call224) (IQ s z _ [47] _ (M.blk 3 X) hzI.at_ hl) λw10 M=>W ?_
 refine AC X (λh14=>?_) (λh14=>?_)
 ·have hg14:=EY h14;have hs14:=GA hzI hg14.1 hg14.2;rw [OG h14] at M
  obtain ⟨j,rfl⟩:∃j,k=j+1:=⟨k-1,A0⟩
  refine EO 4 (λw'=>Mem w (λk=>k=gx) [As.blk g3 213 (Xn.cells n A),As.xn 213 n A F,As.blk g2 213 [.int .u8 0,.int .u8 0,AA 0,.bool zy,str [],str [],.slice zx 0 0]] w') CA ?_;have M:=M.drew;refine oa 0 4 X X (M.pk [0,1,2]) (λ_ M=>AJ (xs:=Xn.cells n A) X X (M.rdBlk 0 X X) Bj X AD) (oc 1 4 X X (M.pk [0,1,2]) (BB 2 (G 19) zr X kw X X (AE X X call266) (hF.c7 (AS s z) _ (M.blk 3 X) (C8 (s:=s) (y:=z)) A0) ?_));rintro _ w11 ⟨A19,F19,rfl,hat19,hnw19,hbw11,hfw11⟩;have M:=M.putPush 3 X hbw11 hfw11 (As.xn 213 (fr 7 (AS s z)).1 A19 F19) hat19 hnw19;obtain ⟨hI19,hm19⟩:=(show RxI s (fr 7 (AS s z)).2∧rM s (fr 7 (AS s z)).2≤rM s (AS s z) from ⟨hF.I.I 7 _ (C8 (s:=s) (y:=z)) A0,hF.I.m 7 _ (C8 (s:=s) (y:=z)) A0⟩);refine ⟨_,X,λ_=>(M.pk [1,2,3]),?_⟩;refine BB 3 (G 20) zr X kw X X (AE X X call225) (MJ 16 n ((fr 7 (AS s z)).1) A A19 _) ?_;rintro _ w12 ⟨g20,rfl,hbw12,hg20,hq20,hfw12⟩;refine ⟨_,X,λ_=>(M.pk [1,2,3]).step hfw12,?_⟩;have M:=M.push hfw12 _ hbw12 (CR hg20 hq20)
  replace M:Mem w (λk=>k=gx) (As.blk g20 213 (Xn.cells n A++Xn.cells ((fr 7 (AS s z)).1) A19)::_) w12:=M
  refine B7 4 zx zr X kw X X (λρ hρ=>BZ 213 _ _ X g3 0 213 _ (Xn.cells (Xn.bin 16 n ((fr 7 (AS s z)).1)) (G ⟨g20,0,zx⟩)) (hρ _ _ X) (hρ _ _ X) (M.blk 2 X) AD (CM X) (BN X)) ?_;rintro _ w13 ⟨rfl,hbw13,hfw13⟩
  replace M:Mem w (λk=>k=gx) (List.set _ 2 (As.blk g3 213 (Xn.cells (Xn.bin 16 n ((fr 7 (AS s z)).1)) (G ⟨g20,0,zx⟩)))) w13:=M.putB 2 rfl hbw13 hfw13
  refine ⟨λh=>absurd h AV,fdn (W ?_)⟩;have M:=Mem.bin (op:=16) (M.pk [0,3,1,2,4,5]);refine fag ⟨(Xn.bin 16 n ((fr 7 (AS s z)).1)),(G ⟨g20,0,zx⟩),(g20::(F++F19)),(fr 7 (AS s z)).2,j,X,(M.pk [1,0,2,3]),?_,?_,?_,X⟩
  ·exact hI19
  ·exact ⟨A0,A0⟩
  exact heq.trans (LT (a3G h7 h14))
 rw [OH h14] at M
 refine W ?_;refine FQ M 3 23 X X (AE X X call224) (IQ s z _ [37] _ (M.blk 3 X) hzI.at_ hl) λw14 M=>W ?_
 refine AC X (λh21=>?_) (λh21=>?_)
 ·have hg21:=EY h21;have hs21:=GA hzI hg21.1 hg21.2;rw [OG h21] at M
  obtain ⟨j,rfl⟩:∃j,k=j+1:=⟨k-1,A0⟩
  refine EO 4 (λw'=>Mem w (λk=>k=gx) [As.blk g3 213 (Xn.cells n A),As.xn 213 n A F,As.blk g2 213 [.int .u8 0,.int .u8 0,AA 0,.bool zy,str [],str [],.slice zx 0 0]] w') CA ?_;have M:=M.drew;refine oa 0 4 X X (M.pk [0,1,2]) (λ_ M=>AJ (xs:=Xn.cells n A) X X (M.rdBlk 0 X X) Bj X AD) (oc 1 4 X X (M.pk [0,1,2]) (BB 2 (G 26) zr X kw X X (AE X X call266) (hF.c7 (AS s z) _ (M.blk 3 X) (C8 (s:=s) (y:=z)) A0) ?_));rintro _ w15 ⟨A26,F26,rfl,hat26,hnw26,hbw15,hfw15⟩;have M:=M.putPush 3 X hbw15 hfw15 (As.xn 213 (fr 7 (AS s z)).1 A26 F26) hat26 hnw26;obtain ⟨hI26,hm26⟩:=(show RxI s (fr 7 (AS s z)).2∧rM s (fr 7 (AS s z)).2≤rM s (AS s z) from ⟨hF.I.I 7 _ (C8 (s:=s) (y:=z)) A0,hF.I.m 7 _ (C8 (s:=s) (y:=z)) A0⟩);refine ⟨_,X,λ_=>(M.pk [1,2,3]),?_⟩;refine BB 3 (G 27) zr X kw X X (AE X X call225) (MJ 17 n ((fr 7 (AS s z)).1) A A26 _) ?_;rintro _ w16 ⟨g27,rfl,hbw16,hg27,hq27,hfw16⟩;refine ⟨_,X,λ_=>(M.pk [1,2,3]).step hfw16,?_⟩;have M:=M.push hfw16 _ hbw16 (CR hg27 hq27)
  replace M:Mem w (λk=>k=gx) (As.blk g27 213 (Xn.cells n A++Xn.cells ((fr 7 (AS s z)).1) A26)::_) w16:=M
  refine B7 4 zx zr X kw X X (λρ hρ=>BZ 213 _ _ X g3 0 213 _ (Xn.cells (Xn.bin 17 n ((fr 7 (AS s z)).1)) (G ⟨g27,0,zx⟩)) (hρ _ _ X) (hρ _ _ X) (M.blk 2 X) AD (CM X) (BN X)) ?_;rintro _ w17 ⟨rfl,hbw17,hfw17⟩
  replace M:Mem w (λk=>k=gx) (List.set _ 2 (As.blk g3 213 (Xn.cells (Xn.bin 17 n ((fr 7 (AS s z)).1)) (G ⟨g27,0,zx⟩)))) w17:=M.putB 2 rfl hbw17 hfw17
  refine ⟨λh=>absurd h AV,fdn (W ?_)⟩;have M:=Mem.bin (op:=17) (M.pk [0,3,1,2,4,5]);refine fag ⟨(Xn.bin 17 n ((fr 7 (AS s z)).1)),(G ⟨g27,0,zx⟩),(g27::(F++F26)),(fr 7 (AS s z)).2,j,X,(M.pk [1,0,2,3]),?_,?_,?_,X⟩
  ·exact hI26
  ·exact ⟨A0,A0⟩
  exact heq.trans (LT (a3F h7 h14 h21))
 rw [OH h21] at M
 refine W ?_;refine CF M 0 X X Bj AD X (BX M 2 X X AD X λw18 M=>W ?_);refine CV X X (M.rdBlk 2 X X) Bj X AD ?_;rw [heq.trans (J5 k (a3I h7 h14 h21))];exact ⟨_,_,X,M.ok 1 _ X,M.newOf 1 3 X X AV,M.blk 3 X,M.fr⟩
theorem dY {s:Kz} {gx f:Nat} {fr:Nat→Rx→Xn × Rx} (hF:RefOK s gx f fr) (y:Rx) (w:Kw) (hb:Blk w gx 258 (Rx.cells s y)) (hy:RxI s y) (hm:rM s y≤f) (hl:s.length≤256) :
 zt zv 258 #[pg gx] w (NK s gx w (FP s fr f y)):=by
 refine sx_enter (vs:=[_]) func258 X ntmps258 X ?_;have M:Mem w (λk=>k=gx) [As.blk gx 258 (Rx.cells s y)] w:=Mem.one hb;refine W ?_;refine CE M X BJ λg2 w1 hg2 M=>W ?_
 refine cl 5 X (AE X X call261) (ZD hF y _ (M.blk 1 X) hy A0 hl) ?_;rintro _ w2 ⟨A5,F5,rfl,hat5,hnw5,hbw2,hfw2⟩;have M:=M.putPush 1 X hbw2 hfw2 (As.xn 213 (KN s fr f y).1 A5 F5) hat5 hnw5;obtain ⟨hI5,hm5⟩:=bG f hF.I hy A0;refine cq (CE M X BJ λg3 w3 hg3 M=>BX M 0 X X AD X λw4 M=>W ?_);refine flp [3,2,0] (λze e wr mz=>∃(n:Xn) (A:Ky) (F:List Nat) (z:Rx) (k:Nat),e=ze∧Mem w (λk=>k=gx) [As.blk g3 213 (Xn.cells n A),As.xn 213 n A F,As.blk g2 213 [.int .u8 0,.int .u8 0,AA 0,.bool zy,str [],str [],.slice zx 0 0],As.blk gx 258 (Rx.cells s z)] wr∧(RxI s z)∧(rM s z≤k∧k≤f)∧(FP s fr f y=HB s fr 5 sgS k n z)∧mz=2*k) ⟨(KN s fr f y).1,A5,F5,(KN s fr f y).2,f,X,M,hI5,⟨A0,Af _⟩,X,X⟩ ?_;rintro _ w5 _ ⟨n,A,F,z,k,rfl,M,hzI,hk,heq,rfl⟩;refine W ?_;refine FQ M 3 9 X X (AE X X call224) (IQ s z _ [43] _ (M.blk 3 X) hzI.at_ hl) λw6 M=>W ?_
 refine AC X (λh7=>?_) (λh7=>?_)
 ·have hg7:=EY h7;have hs7:=GA hzI hg7.1 hg7.2;rw [OG h7] at M
  obtain ⟨j,rfl⟩:∃j,k=j+1:=⟨k-1,A0⟩
  refine EO 4 (λw'=>Mem w (λk=>k=gx) [As.blk g3 213 (Xn.cells n A),As.xn 213 n A F,As.blk g2 213 [.int .u8 0,.int .u8 0,AA 0,.bool zy,str [],str [],.slice zx 0 0]] w') CA ?_;have M:=M.drew;refine oa 0 4 X X (M.pk [0,1,2]) (λ_ M=>AJ (xs:=Xn.cells n A) X X (M.rdBlk 0 X X) Bj X AD) (oc 1 4 X X (M.pk [0,1,2]) (BB 2 (G 12) zr X kw X X (AE X X call261) (hF.c6 (AS s z) _ (M.blk 3 X) (C8 (s:=s) (y:=z)) A0) ?_));rintro _ w7 ⟨A12,F12,rfl,hat12,hnw12,hbw7,hfw7⟩;have M:=M.putPush 3 X hbw7 hfw7 (As.xn 213 (fr 6 (AS s z)).1 A12 F12) hat12 hnw12;obtain ⟨hI12,hm12⟩:=(show RxI s (fr 6 (AS s z)).2∧rM s (fr 6 (AS s z)).2≤rM s (AS s z) from ⟨hF.I.I 6 _ (C8 (s:=s) (y:=z)) A0,hF.I.m 6 _ (C8 (s:=s) (y:=z)) A0⟩);refine ⟨_,X,λ_=>(M.pk [1,2,3]),?_⟩;refine BB 3 (G 13) zr X kw X X (AE X X call225) (MJ 13 n ((fr 6 (AS s z)).1) A A12 _) ?_;rintro _ w8 ⟨g13,rfl,hbw8,hg13,hq13,hfw8⟩;refine ⟨_,X,λ_=>(M.pk [1,2,3]).step hfw8,?_⟩;have M:=M.push hfw8 _ hbw8 (CR hg13 hq13)
  replace M:Mem w (λk=>k=gx) (As.blk g13 213 (Xn.cells n A++Xn.cells ((fr 6 (AS s z)).1) A12)::_) w8:=M
  refine B7 4 zx zr X kw X X (λρ hρ=>BZ 213 _ _ X g3 0 213 _ (Xn.cells (Xn.bin 13 n ((fr 6 (AS s z)).1)) (G ⟨g13,0,zx⟩)) (hρ _ _ X) (hρ _ _ X) (M.blk 2 X) AD (CM X) (BN X)) ?_;rintro _ w9 ⟨rfl,hbw9,hfw9⟩
  replace M:Mem w (λk=>k=gx) (List.set _ 2 (As.blk g3 213 (Xn.cells (Xn.bin 13 n ((fr 6 (AS s z)).1)) (G ⟨g13,0,zx⟩)))) w9:=M.putB 2 rfl hbw9 hfw9
  refine ⟨λh=>absurd h AV,fdn (W ?_)⟩;have M:=Mem.bin (op:=13) (M.pk [0,3,1,2,4,5]);refine fag ⟨(Xn.bin 13 n ((fr 6 (AS s z)).1)),(G ⟨g13,0,zx⟩),(g13::(F++F12)),(fr 6 (AS s z)).2,j,X,(M.pk [1,0,2,3]),?_,?_,?_,X⟩
  ·exact hI12
  ·exact ⟨A0,A0⟩
  exact heq.trans (LT (a3D h7))
 rw [OH h7] at M
 refine W ?_;refine FQ M 3 16 X X (AE X X call224) (IQ s z _ [45] _ (M.blk 3 X) hzI.at_ hl) λw10 M=>W ?_
 refine AC X (λh14=>?_) (λh14=>?_)
 ·have hg14:=EY h14;have hs14:=GA hzI hg14.1 hg14.2;rw [OG h14] at M
  obtain ⟨j,rfl⟩:∃j,k=j+1:=⟨k-1,A0⟩
  refine EO 4 (λw'=>Mem w (λk=>k=gx) [As.blk g3 213 (Xn.cells n A),As.xn 213 n A F,As.blk g2 213 [.int .u8 0,.int .u8 0,AA 0,.bool zy,str [],str [],.slice zx 0 0]] w') CA ?_;have M:=M.drew;refine oa 0 4 X X (M.pk [0,1,2]) (λ_ M=>AJ (xs:=Xn.cells n A) X X (M.rdBlk 0 X X) Bj X AD) (oc 1 4 X X (M.pk [0,1,2]) (BB 2 (G 19) zr X kw X X (AE X X call261) (hF.c6 (AS s z) _ (M.blk 3 X) (C8 (s:=s) (y:=z)) A0) ?_));rintro _ w11 ⟨A19,F19,rfl,hat19,hnw19,hbw11,hfw11⟩;have M:=M.putPush 3 X hbw11 hfw11 (As.xn 213 (fr 6 (AS s z)).1 A19 F19) hat19 hnw19;obtain ⟨hI19,hm19⟩:=(show RxI s (fr 6 (AS s z)).2∧rM s (fr 6 (AS s z)).2≤rM s (AS s z) from ⟨hF.I.I 6 _ (C8 (s:=s) (y:=z)) A0,hF.I.m 6 _ (C8 (s:=s) (y:=z)) A0⟩);refine ⟨_,X,λ_=>(M.pk [1,2,3]),?_⟩;refine BB 3 (G 20) zr X kw X X (AE X X call225) (MJ 14 n ((fr 6 (AS s z)).1) A A19 _) ?_;rintro _ w12 ⟨g20,rfl,hbw12,hg20,hq20,hfw12⟩;refine ⟨_,X,λ_=>(M.pk [1,2,3]).step hfw12,?_⟩;have M:=M.push hfw12 _ hbw12 (CR hg20 hq20)
  replace M:Mem w (λk=>k=gx) (As.blk g20 213 (Xn.cells n A++Xn.cells ((fr 6 (AS s z)).1) A19)::_) w12:=M
  refine B7 4 zx zr X kw X X (λρ hρ=>BZ 213 _ _ X g3 0 213 _ (Xn.cells (Xn.bin 14 n ((fr 6 (AS s z)).1)) (G ⟨g20,0,zx⟩)) (hρ _ _ X) (hρ _ _ X) (M.blk 2 X) AD (CM X) (BN X)) ?_;rintro _ w13 ⟨rfl,hbw13,hfw13⟩
  replace M:Mem w (λk=>k=gx) (List.set _ 2 (As.blk g3 213 (Xn.cells (Xn.bin 14 n ((fr 6 (AS s z)).1)) (G ⟨g20,0,zx⟩)))) w13:=M.putB 2 rfl hbw13 hfw13
  refine ⟨λh=>absurd h AV,fdn (W ?_)⟩;have M:=Mem.bin (op:=14) (M.pk [0,3,1,2,4,5]);refine fag ⟨(Xn.bin 14 n ((fr 6 (AS s z)).1)),(G ⟨g20,0,zx⟩),(g20::(F++F19)),(fr 6 (AS s z)).2,j,X,(M.pk [1,0,2,3]),?_,?_,?_,X⟩
  ·exact hI19
  ·exact ⟨A0,A0⟩
  exact heq.trans (LT (a3C h7 h14))
 rw [OH h14] at M
 refine W ?_;refine CF M 0 X X Bj AD X (BX M 2 X X AD X λw14 M=>W ?_);refine CV X X (M.rdBlk 2 X X) Bj X AD ?_;rw [heq.trans (J5 k (a3E h7 h14))];exact ⟨_,_,X,M.ok 1 _ X,M.newOf 1 3 X X AV,M.blk 3 X,M.fr⟩
theorem nW {s:Kz} {gx f:Nat} {fr:Nat→Rx→Xn × Rx} (hF:RefOK s gx f fr) (y:Rx) (w:Kw) (hb:Blk w gx 258 (Rx.cells s y)) (hy:RxI s y) (hm:rM s y≤f) (hl:s.length≤256) :
 zt zv 255 #[pg gx] w (NK s gx w (KZ s fr f y)):=by
 have hcl:csigns.length=6:=X;refine sx_enter (vs:=[_]) func255 X ntmps255 X ?_;have M:Mem w (λk=>k=gx) [As.blk gx 258 (Rx.cells s y)] w:=Mem.one hb;refine W ?_;refine CE M X BJ λg2 w1 hg2 M=>W ?_
 refine cl 7 X (AE X X call258) (dY hF y _ (M.blk 1 X) hy A0 hl) ?_;rintro _ w2 ⟨A7,F7,rfl,hat7,hnw7,hbw2,hfw2⟩;have M:=M.putPush 1 X hbw2 hfw2 (As.xn 213 (FP s fr f y).1 A7 F7) hat7 hnw7;obtain ⟨hI7,hm7⟩:=jB f hF.I hy A0;refine cq (CE M X BJ λg3 w3 hg3 M=>BX M 0 X X AD X λw4 M=>W ?_);refine CP M kw X X [str [61],str [33,61],str [60],str [60,61],str [62],str [62,61]] ([str [61],str [33,61],str [60],str [60,61],str [62],str [62,61]]) X X X X Be CK X X (by intro v hv;simp only [Ao,Ba,or_false] at hv;rcases hv with rfl|rfl|rfl|rfl|rfl|rfl<;>rfl) X λg8 w5 hg8 M=>W ?_
 have M:=M.blkOwnS 0 (size:=1) (n:=6) X (M.neBlk 0 4 X X AV) X (by unfold maxLen;omega);refine flp [4,3,2,0] (λze e wr mz=>∃(i:Nat),e=(5,AA (i:Int))::ze∧Mem w (λk=>k=gx) [As.own w.heap.size 9 1 (.slice (G ⟨g8,0,zx⟩) 6 6) 6 (AF BH csigns),As.blk g3 213 (Xn.cells ((FP s fr f y).1) A7),As.xn 213 ((FP s fr f y).1) A7 F7,As.blk g2 213 [.int .u8 0,.int .u8 0,AA 0,.bool zy,str [],str [],.slice zx 0 0],As.blk gx 258 (Rx.cells s ((FP s fr f y).2))] wr∧(i≤csigns.length)∧(sgC (FP s fr f y).2=WH (FP s fr f y).2 i (csigns.drop i))∧mz=6-i) ⟨0,X,M,Aj _,X,X⟩ ?_;rintro _ w6 _ ⟨i,rfl,M,hi,hs,rfl⟩;refine W ?_;refine AC X (λh12=>?_) (λh12=>?_)
 ·have h12p:=odt h12;refine W ?_;obtain ⟨z,_,_,hz,hA_z⟩:=ex5 (l:=csigns) (k:=1) (i:=i) (M.rdOwn 0 X);refine ya X (AK i hA_z X X X (sl X) A0) (yl X X (BC DN (M.rdOwn 0 X) hA_z hz 0 X) (FQ M 4 20 X X (AE X X call224) (IQ s ((FP s fr f y).2) _ z _ (M.blk 4 X) hI7.at_ hl) λw7 M=>W ?_));refine AC X (λh20=>?_) (λh20=>?_)
  ·have hg20:=EY h20;have hs20:=GA hI7 hg20.1 hg20.2;rw [OG h20] at M
   refine sx_seq (EO 7 (λw'=>Mem w (λk=>k=gx) [As.own w.heap.size 9 1 (.slice (G ⟨g8,0,zx⟩) 6 6) 6 (AF BH csigns),As.blk g3 213 (Xn.cells ((FP s fr f y).1) A7),As.xn 213 ((FP s fr f y).1) A7 F7,As.blk g2 213 [.int .u8 0,.int .u8 0,AA 0,.bool zy,str [],str [],.slice zx 0 0]] w') CA ?_);have M:=M.drew;refine oc 0 7 X X (M.pk [0,1,2,3]) (oa 1 7 X X (M.pk [0,1,2,3]) (λ_ M=>GZ X X X A0) (oa 2 7 X X (M.pk [0,1,2,3]) (λ_ M=>CI (r:=((UInt8.ofNat (7+i)).toNat:Int)) X X Bm Bo l9) (oa 3 7 X X (M.pk [0,1,2,3]) (λ_ M=>AJ (xs:=Xn.cells ((FP s fr f y).1) A7) X X (M.rdBlk 1 X X) Bj X AD) (oc 4 7 X X (M.pk [0,1,2,3]) (BB 5 (G 26) zr X kw X X (AE X X call258) (hF.c5 (AS s ((FP s fr f y).2)) _ (M.blk 4 X) (C8 (s:=s) (y:=((FP s fr f y).2))) A0) ?_)))));rintro _ w8 ⟨A26,F26,rfl,hat26,hnw26,hbw8,hfw8⟩;have M:=M.putPush 4 X hbw8 hfw8 (As.xn 213 (fr 5 (AS s ((FP s fr f y).2))).1 A26 F26) hat26 hnw26;obtain ⟨hI26,hm26⟩:=(show RxI s (fr 5 (AS s ((FP s fr f y).2))).2∧rM s (fr 5 (AS s ((FP s fr f y).2))).2≤rM s (AS s ((FP s fr f y).2)) from ⟨hF.I.I 5 _ (C8 (s:=s) (y:=((FP s fr f y).2))) A0,hF.I.m 5 _ (C8 (s:=s) (y:=((FP s fr f y).2))) A0⟩);refine ⟨_,X,λ_=>(M.pk [1,2,3,4]),?_⟩;refine BB 6 (G 27) zr X kw X X (AE X X call225) (MJ (UInt8.ofNat (7+i)) ((FP s fr f y).1) ((fr 5 (AS s ((FP s fr f y).2))).1) A7 A26 _) ?_;rintro _ w9 ⟨g27,rfl,hbw9,hg27,hq27,hfw9⟩;refine ⟨_,X,λ_=>(M.pk [1,2,3,4]).step hfw9,?_⟩;have M:=M.push hfw9 _ hbw9 (CR hg27 hq27)
   replace M:Mem w (λk=>k=gx) (As.blk g27 213 (Xn.cells ((FP s fr f y).1) A7++Xn.cells ((fr 5 (AS s ((FP s fr f y).2))).1) A26)::_) w9:=M
   refine B7 7 zx zr X kw X X (λρ hρ=>BZ 213 _ _ X g2 0 213 _ (Xn.cells (Xn.bin (UInt8.ofNat (7+i)) ((FP s fr f y).1) ((fr 5 (AS s ((FP s fr f y).2))).1)) (G ⟨g27,0,zx⟩)) (hρ _ _ X) (hρ _ _ X) (M.blk 5 X) AD (CM X) (BN X)) ?_;rintro _ w10 ⟨rfl,hbw10,hfw10⟩
   replace M:Mem w (λk=>k=gx) (List.set _ 5 (As.blk g2 213 (Xn.cells (Xn.bin (UInt8.ofNat (7+i)) ((FP s fr f y).1) ((fr 5 (AS s ((FP s fr f y).2))).1)) (G ⟨g27,0,zx⟩)))) w10:=M.putB 5 rfl hbw10 hfw10
   refine ⟨λh=>absurd h AV,fdn (W ?_)⟩;refine CV X X (M.rdBlk 5 X X) Bj X AD ?_;have M:=Mem.bin (op:=(UInt8.ofNat (7+i))) (M.pk [0,4,1,2,3,5,6]);rw [jE (hs.trans (by rw [AH hz,WH,Ac h20]))];exact ⟨_,_,X,M.ok 0 _ X,M.newOf 0 4 X X AV,M.blk 4 X,M.fr⟩
  rw [OH h20] at M
  refine W ?_;refine fag ⟨i+1,X,M,?_,?_,X⟩
  ·omega
  rw [hs,AH hz,WH,AN h20]
 have h12p:=odf h12;refine W ?_;refine CF M 1 X X Bj AD X (BX M 3 X X AD X λw11 M=>W ?_);refine CV X X (M.rdBlk 3 X X) Bj X AD ?_;rw [jF (hs.trans (by rw [show i=csigns.length by omega,Aq];rfl))];exact ⟨_,_,X,M.ok 2 _ X,M.newOf 2 4 X X AV,M.blk 4 X,M.fr⟩
theorem dZ {s:Kz} {gx f:Nat} {fr:Nat→Rx→Xn × Rx} (hF:RefOK s gx f fr) (y:Rx) (w:Kw) (hb:Blk w gx 258 (Rx.cells s y)) (hy:RxI s y) (hm:rM s y≤f) (hl:s.length≤256) :
 zt zv 242 #[pg gx] w (NK s gx w (OJ s fr f y)):=by
 refine sx_enter (vs:=[_]) func242 X ntmps242 X ?_;have M:Mem w (λk=>k=gx) [As.blk gx 258 (Rx.cells s y)] w:=Mem.one hb;refine W ?_;refine CE M X BJ λg2 w1 hg2 M=>W ?_
 refine FQ M 1 4 X X (AE X X call224) (IQ s y _ [110,111,116] _ (M.blk 1 X) hy.at_ hl) λw2 M=>W ?_
 refine AC X (λh4=>?_) (λh4=>?_)
 ·have hg4:=EY h4;have hs4:=GA hy hg4.1 hg4.2;rw [OG h4] at M
  refine W ?_;refine cl 6 X (AE X X call242) (hF.c3 (AS s y) _ (M.blk 1 X) (C8 (s:=s) (y:=y)) A0) ?_;rintro _ w3 ⟨A6,F6,rfl,hat6,hnw6,hbw3,hfw3⟩;have M:=M.putPush 1 X hbw3 hfw3 (As.xn 213 (fr 3 (AS s y)).1 A6 F6) hat6 hnw6;obtain ⟨hI6,hm6⟩:=(show RxI s (fr 3 (AS s y)).2∧rM s (fr 3 (AS s y)).2≤rM s (AS s y) from ⟨hF.I.I 3 _ (C8 (s:=s) (y:=y)) A0,hF.I.m 3 _ (C8 (s:=s) (y:=y)) A0⟩);refine cq (CP M kw X X [.agg (Xn.cells ((fr 3 (AS s y)).1) A6).toArray] (Xn.cells ((fr 3 (AS s y)).1) A6) X X X X It GV X X (FZ X) X λg7 w4 hg7 M=>ya X (B8 (parts:=[(0,_),(3,_)]) X X (G2 _ _ _ _)) (BX M 2 X X AD X λw5 M=>W ?_));refine CV X X (M.rdBlk 2 X X) Bj X AD ?_;rw [show OJ s fr f y=(.un 3 (fr 3 (AS s y)).1,(fr 3 (AS s y)).2) from Ac h4];obtain ⟨ha,hn⟩:=Mem.unR (op:=3) (M.pk [0,1,3]);exact ⟨_,_,X,ha,hn,M.blk 3 X,M.fr⟩
 rw [OH h4] at M
 refine W ?_;refine cl 10 X (AE X X call255) (nW hF y _ (M.blk 1 X) hy A0 hl) ?_;rintro _ w6 ⟨A10,F10,rfl,hat10,hnw10,hbw6,hfw6⟩;have M:=M.putPush 1 X hbw6 hfw6 (As.xn 213 (KZ s fr f y).1 A10 F10) hat10 hnw10;obtain ⟨hI10,hm10⟩:=bI f hF.I hy A0;refine cq (BX M 1 X X AD X λw7 M=>W ?_);refine CV X X (M.rdBlk 1 X X) Bj X AD ?_;rw [show OJ s fr f y=KZ s fr f y from AN h4];exact ⟨_,_,X,M.ok 0 _ X,M.newOf 0 2 X X AV,M.blk 2 X,M.fr⟩
theorem eD {s:Kz} {gx f:Nat} {fr:Nat→Rx→Xn × Rx} (hF:RefOK s gx f fr) (y:Rx) (w:Kw) (hb:Blk w gx 258 (Rx.cells s y)) (hy:RxI s y) (hm:rM s y≤f) (hl:s.length≤256) :
 zt zv 223 #[pg gx] w (NK s gx w (Q3 s fr f y)):=by
 refine sx_enter (vs:=[_]) func223 X ntmps223 X ?_;have M:Mem w (λk=>k=gx) [As.blk gx 258 (Rx.cells s y)] w:=Mem.one hb;refine W ?_;refine CE M X BJ λg2 w1 hg2 M=>W ?_
 refine cl 5 X (AE X X call242) (dZ hF y _ (M.blk 1 X) hy A0 hl) ?_;rintro _ w2 ⟨A5,F5,rfl,hat5,hnw5,hbw2,hfw2⟩;have M:=M.putPush 1 X hbw2 hfw2 (As.xn 213 (OJ s fr f y).1 A5 F5) hat5 hnw5;obtain ⟨hI5,hm5⟩:=jC f hF.I hy A0;refine cq (CE M X BJ λg3 w3 hg3 M=>BX M 0 X X AD X λw4 M=>W ?_);refine flp [3,2,0] (λze e wr mz=>∃(n:Xn) (A:Ky) (F:List Nat) (z:Rx) (k:Nat),e=ze∧Mem w (λk=>k=gx) [As.blk g3 213 (Xn.cells n A),As.xn 213 n A F,As.blk g2 213 [.int .u8 0,.int .u8 0,AA 0,.bool zy,str [],str [],.slice zx 0 0],As.blk gx 258 (Rx.cells s z)] wr∧(RxI s z)∧(rM s z≤k∧k≤f)∧(Q3 s fr f y=HB s fr 2 sgA k n z)∧mz=2*k) ⟨(OJ s fr f y).1,A5,F5,(OJ s fr f y).2,f,X,M,hI5,⟨A0,Af _⟩,X,X⟩ ?_;rintro _ w5 _ ⟨n,A,F,z,k,rfl,M,hzI,hk,heq,rfl⟩;refine W ?_;refine FQ M 3 7 X X (AE X X call224) (IQ s z _ [97,110,100] _ (M.blk 3 X) hzI.at_ hl) λw6 M=>W ?_
 refine AC X (λh7=>?_) (λh7=>?_)
 ·have hg7:=EY h7;have hs7:=GA hzI hg7.1 hg7.2;rw [OG h7] at M
  obtain ⟨j,rfl⟩:∃j,k=j+1:=⟨k-1,A0⟩
  refine W ?_;refine EO 4 (λw'=>Mem w (λk=>k=gx) [As.blk g3 213 (Xn.cells n A),As.xn 213 n A F,As.blk g2 213 [.int .u8 0,.int .u8 0,AA 0,.bool zy,str [],str [],.slice zx 0 0]] w') CA ?_;have M:=M.drew;refine oa 0 4 X X (M.pk [0,1,2]) (λ_ M=>AJ (xs:=Xn.cells n A) X X (M.rdBlk 0 X X) Bj X AD) (oc 1 4 X X (M.pk [0,1,2]) (BB 2 (G 10) zr X kw X X (AE X X call242) (hF.c3 (AS s z) _ (M.blk 3 X) (C8 (s:=s) (y:=z)) A0) ?_));rintro _ w7 ⟨A10,F10,rfl,hat10,hnw10,hbw7,hfw7⟩;have M:=M.putPush 3 X hbw7 hfw7 (As.xn 213 (fr 3 (AS s z)).1 A10 F10) hat10 hnw10;obtain ⟨hI10,hm10⟩:=(show RxI s (fr 3 (AS s z)).2∧rM s (fr 3 (AS s z)).2≤rM s (AS s z) from ⟨hF.I.I 3 _ (C8 (s:=s) (y:=z)) A0,hF.I.m 3 _ (C8 (s:=s) (y:=z)) A0⟩);refine ⟨_,X,λ_=>(M.pk [1,2,3]),?_⟩;refine BB 3 (G 11) zr X kw X X (AE X X call225) (MJ 5 n ((fr 3 (AS s z)).1) A A10 _) ?_;rintro _ w8 ⟨g11,rfl,hbw8,hg11,hq11,hfw8⟩;refine ⟨_,X,λ_=>(M.pk [1,2,3]).step hfw8,?_⟩;have M:=M.push hfw8 _ hbw8 (CR hg11 hq11)
  replace M:Mem w (λk=>k=gx) (As.blk g11 213 (Xn.cells n A++Xn.cells ((fr 3 (AS s z)).1) A10)::_) w8:=M
  refine B7 4 zx zr X kw X X (λρ hρ=>BZ 213 _ _ X g3 0 213 _ (Xn.cells (Xn.bin 5 n ((fr 3 (AS s z)).1)) (G ⟨g11,0,zx⟩)) (hρ _ _ X) (hρ _ _ X) (M.blk 2 X) AD (CM X) (BN X)) ?_;rintro _ w9 ⟨rfl,hbw9,hfw9⟩
  replace M:Mem w (λk=>k=gx) (List.set _ 2 (As.blk g3 213 (Xn.cells (Xn.bin 5 n ((fr 3 (AS s z)).1)) (G ⟨g11,0,zx⟩)))) w9:=M.putB 2 rfl hbw9 hfw9
  refine ⟨λh=>absurd h AV,fdn (qx_block_normal ?_)⟩;have M:=Mem.bin (op:=5) (M.pk [0,3,1,2,4,5]);refine fag ⟨(Xn.bin 5 n ((fr 3 (AS s z)).1)),(G ⟨g11,0,zx⟩),(g11::(F++F10)),(fr 3 (AS s z)).2,j,X,(M.pk [1,0,2,3]),?_,?_,?_,X⟩
  ·exact hI10
  ·exact ⟨A0,A0⟩
  exact heq.trans (LT (a3L h7))
 rw [OH h7] at M
 refine W ?_;refine CF M 0 X X Bj AD X (BX M 2 X X AD X λw10 M=>W ?_);refine CV X X (M.rdBlk 2 X X) Bj X AD ?_;rw [heq.trans (J5 k (a3M h7))];exact ⟨_,_,X,M.ok 1 _ X,M.newOf 1 3 X X AV,M.blk 3 X,M.fr⟩
theorem yY {s:Kz} {gx f:Nat} {fr:Nat→Rx→Xn × Rx} (hF:RefOK s gx f fr) (y:Rx) (w:Kw) (hb:Blk w gx 258 (Rx.cells s y)) (hy:RxI s y) (hm:rM s y≤f) (hl:s.length≤256) :
 zt zv 200 #[pg gx] w (NK s gx w (rOr s fr f y)):=by
 refine sx_enter (vs:=[_]) func200 X ntmps200 X ?_;have M:Mem w (λk=>k=gx) [As.blk gx 258 (Rx.cells s y)] w:=Mem.one hb;refine W ?_;refine CE M X BJ λg2 w1 hg2 M=>W ?_
 refine cl 5 X (AE X X call223) (eD hF y _ (M.blk 1 X) hy A0 hl) ?_;rintro _ w2 ⟨A5,F5,rfl,hat5,hnw5,hbw2,hfw2⟩;have M:=M.putPush 1 X hbw2 hfw2 (As.xn 213 (Q3 s fr f y).1 A5 F5) hat5 hnw5;obtain ⟨hI5,hm5⟩:=jG f hF.I hy A0;refine cq (CE M X BJ λg3 w3 hg3 M=>BX M 0 X X AD X λw4 M=>W ?_);refine flp [3,2,0] (λze e wr mz=>∃(n:Xn) (A:Ky) (F:List Nat) (z:Rx) (k:Nat),e=ze∧Mem w (λk=>k=gx) [As.blk g3 213 (Xn.cells n A),As.xn 213 n A F,As.blk g2 213 [.int .u8 0,.int .u8 0,AA 0,.bool zy,str [],str [],.slice zx 0 0],As.blk gx 258 (Rx.cells s z)] wr∧(RxI s z)∧(rM s z≤k∧k≤f)∧(rOr s fr f y=HB s fr 1 sgO k n z)∧mz=2*k) ⟨(Q3 s fr f y).1,A5,F5,(Q3 s fr f y).2,f,X,M,hI5,⟨A0,Af _⟩,X,X⟩ ?_;rintro _ w5 _ ⟨n,A,F,z,k,rfl,M,hzI,hk,heq,rfl⟩;refine W ?_;refine FQ M 3 7 X X (AE X X call224) (IQ s z _ [111,114] _ (M.blk 3 X) hzI.at_ hl) λw6 M=>W ?_
 refine AC X (λh7=>?_) (λh7=>?_)
 ·have hg7:=EY h7;have hs7:=GA hzI hg7.1 hg7.2;rw [OG h7] at M
  obtain ⟨j,rfl⟩:∃j,k=j+1:=⟨k-1,A0⟩
  refine W ?_;refine EO 4 (λw'=>Mem w (λk=>k=gx) [As.blk g3 213 (Xn.cells n A),As.xn 213 n A F,As.blk g2 213 [.int .u8 0,.int .u8 0,AA 0,.bool zy,str [],str [],.slice zx 0 0]] w') CA ?_;have M:=M.drew;refine oa 0 4 X X (M.pk [0,1,2]) (λ_ M=>AJ (xs:=Xn.cells n A) X X (M.rdBlk 0 X X) Bj X AD) (oc 1 4 X X (M.pk [0,1,2]) (BB 2 (G 10) zr X kw X X (AE X X call223) (hF.c2 (AS s z) _ (M.blk 3 X) (C8 (s:=s) (y:=z)) A0) ?_));rintro _ w7 ⟨A10,F10,rfl,hat10,hnw10,hbw7,hfw7⟩;have M:=M.putPush 3 X hbw7 hfw7 (As.xn 213 (fr 2 (AS s z)).1 A10 F10) hat10 hnw10;obtain ⟨hI10,hm10⟩:=(show RxI s (fr 2 (AS s z)).2∧rM s (fr 2 (AS s z)).2≤rM s (AS s z) from ⟨hF.I.I 2 _ (C8 (s:=s) (y:=z)) A0,hF.I.m 2 _ (C8 (s:=s) (y:=z)) A0⟩);refine ⟨_,X,λ_=>(M.pk [1,2,3]),?_⟩;refine BB 3 (G 11) zr X kw X X (AE X X call225) (MJ 6 n ((fr 2 (AS s z)).1) A A10 _) ?_;rintro _ w8 ⟨g11,rfl,hbw8,hg11,hq11,hfw8⟩;refine ⟨_,X,λ_=>(M.pk [1,2,3]).step hfw8,?_⟩;have M:=M.push hfw8 _ hbw8 (CR hg11 hq11)
  replace M:Mem w (λk=>k=gx) (As.blk g11 213 (Xn.cells n A++Xn.cells ((fr 2 (AS s z)).1) A10)::_) w8:=M
  refine B7 4 zx zr X kw X X (λρ hρ=>BZ 213 _ _ X g3 0 213 _ (Xn.cells (Xn.bin 6 n ((fr 2 (AS s z)).1)) (G ⟨g11,0,zx⟩)) (hρ _ _ X) (hρ _ _ X) (M.blk 2 X) AD (CM X) (BN X)) ?_;rintro _ w9 ⟨rfl,hbw9,hfw9⟩
  replace M:Mem w (λk=>k=gx) (List.set _ 2 (As.blk g3 213 (Xn.cells (Xn.bin 6 n ((fr 2 (AS s z)).1)) (G ⟨g11,0,zx⟩)))) w9:=M.putB 2 rfl hbw9 hfw9
  refine ⟨λh=>absurd h AV,fdn (qx_block_normal ?_)⟩;have M:=Mem.bin (op:=6) (M.pk [0,3,1,2,4,5]);refine fag ⟨(Xn.bin 6 n ((fr 2 (AS s z)).1)),(G ⟨g11,0,zx⟩),(g11::(F++F10)),(fr 2 (AS s z)).2,j,X,(M.pk [1,0,2,3]),?_,?_,?_,X⟩
  ·exact hI10
  ·exact ⟨A0,A0⟩
  exact heq.trans (LT (a3J h7))
 rw [OH h7] at M
 refine W ?_;refine CF M 0 X X Bj AD X (BX M 2 X X AD X λw10 M=>W ?_);refine CV X X (M.rdBlk 2 X X) Bj X AD ?_;rw [heq.trans (J5 k (a3K h7))];exact ⟨_,_,X,M.ok 1 _ X,M.newOf 1 3 X X AV,M.blk 3 X,M.fr⟩
end Go.Proofs.YtppmdnmjepkfaaaGreatDoor
