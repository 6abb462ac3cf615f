/- Lemmas. -/
import Derived.Test.YtppmdnmjepkfaaaGreatDoorYb6
import Derived.Laws.RangeString
set_option maxHeartbeats 16000000
set_option maxRecDepth 100000
namespace Go.Proofs.YtppmdnmjepkfaaaGreatDoor
open Go.RowKit
open Tryz
open Decidable renaming decide→O
open Option renaming some→G,none→zx
open Bool renaming true→zz,false→zy
open True renaming intro→zw
open Go.Proofs.Tryz renaming prog→zv
open Go renaming Calls→zt
section
theorem mR {P:Lw} {e:Env} {w:Kw} {o:Oper} {v:Kv} (h:Y P e o w v):∀ρ,Ag e ρ→K7 P ρ o w (λu w'=>u=v∧w'=w):=λρ hρ=>⟨v,w,.inl (h ρ hρ),rfl,rfl⟩
theorem ER {P:Lw} {e:Env} {w:Kw} {o:Oper} {t t':Nat} {a b:Nat} {x y:Lz} (ho:o.op=.binOp .sub t x y t') (hx:ev e x=G (AA (a:Int))) (hy:ev e y=G (AA (b:Int))) (h:b≤a) (hl:a≤9223372036854775807):Y P e o w (AA ((a-b:Nat):Int)):=by
 have:((a-b:Nat):Int)=(a:Int)-(b:Int):=A0
 rw [this];exact N3 ho hx hy A0
theorem rA {l r:Kz} (w:Kw) (h:GX l=r):zt zv 151 #[str l,str [32]] w λe w'=>e=.returned (str r)∧w=w':=h▸rB l w
theorem KD (p:UInt8→Bool):∀l:Kz,(l.dropWhile p).length≤l.length
 | []=>Af _
 | b::l=>by
  rw [Hn]
  split
  ·exact Nat.le_succ_of_le (KD p l)
  exact Af _
theorem I4 (l:Kz) (k:Nat):(GX (l.drop k)).length≤l.length:=
 Bh (KD _ _) (by rw [Ch];omega)
theorem XV {b:UInt8} (h:BY b=zz):b.toNat<128:=by
 have:=odt (DU h).2
 omega
theorem Z8 {is:UInt8→Bool} {l:Kz} {b:UInt8} (hb:l[0]?=G b) (hl:b.toNat<128) (h:is b=zz):0<spanP is l:=by
 obtain ⟨b',r,rfl⟩:∃b' r,l=b'::r:=by cases l with|nil=>simp at hb|cons b' r=>exact ⟨b',r,rfl⟩
 obtain rfl:b'=b:=by simpa using hb
 unfold spanP
 split
 ·simp
 have hs:(ByteArray.mk (b'::r).toArray).size=r.length+1:=by show (b'::r).toArray.size=_;simp
 have hd:Utf8.decode ⟨(b'::r).toArray⟩ 0=(b'.toNat,1):=Go.decode_ascii _ 0 A0 hl
 have hq:KJ is b'.toNat=zy:=by
  unfold KJ;rw [Hz,h];simp only [Gs,Iy,decide_eq_false_iff_not];omega
 have h0:OD is (b'::r)=Lib.idxFuncFrom (KJ is) zz ⟨(b'::r).toArray⟩ r.length 1:=by
  unfold OD Lib.idxFunc;rw [hs,Lib.idxFuncFrom,Ac A0,hd];simp only [hq,Dm,if_false,Cr]
 have h1:=Lib.idxFuncFrom_range (KJ is) zz ⟨(b'::r).toArray⟩ r.length 1;rw [←h0] at h1
 rcases h1 with h1|h1<;>omega
theorem HV (x:Lx) (e:Int) (p:Nat):(x.fail e p).at_=x.at_:=by unfold Lx.fail;split<;>rfl
theorem S8 (t:Kz) (x:Lx):(OY t x).at_=x.at_:=by
 unfold OY
 split
 ·exact HV _ _ _
 split
 ·rfl
 exact HV _ _ _
theorem OQ (t:Kz) (x:Lx):(KH t x).at_=x.at_:=by
 unfold KH
 repeat' split
 all_goals first|rfl|exact HV _ _ _
def sgnN (r:Kz):Nat:=if ((B4 (r.take (min 2 r.length))).isSome&&(O ((1:Int)<((r.length:Nat):Int)))) then 2 else 1
theorem lT {r:Kz} (h:¬r=[]):sgnN r≤r.length:=by
 have:0<r.length:=Fo.2 h
 unfold sgnN
 split
 ·rename_i h1
  have:=odt (DU h1).2
  omega
 omega
theorem sM (r:Kz):sgnN r≤2:=by unfold sgnN;split<;>omega
def KP (s r:Kz) (x:Lx):Lx:=
 if r=[]∨¬x.e=0 then ⟨s.length-r.length,.zero,[],s.length-r.length,zz,x.e,x.wh⟩
 else if BY (r.headD 0)=zz then { OY (r.take (spanP BY r)) ⟨s.length-r.length,.zero,[],s.length-r.length,zy,x.e,x.wh⟩ with at_:=(OY (r.take (spanP BY r)) ⟨s.length-r.length,.zero,[],s.length-r.length,zy,x.e,x.wh⟩).at_+spanP BY r }
 else if DD (r.headD 0)=zz then { KH (r.take (spanP BS r)) ⟨s.length-r.length,.zero,[],s.length-r.length,zy,x.e,x.wh⟩ with at_:=(KH (r.take (spanP BS r)) ⟨s.length-r.length,.zero,[],s.length-r.length,zy,x.e,x.wh⟩).at_+spanP BS r }
 else if ((r.headD 0).toNat:Int)=39 then JU r ⟨s.length-r.length,.zero,[],s.length-r.length,zy,x.e,x.wh⟩
 else if (((!(B4 (r.take (sgnN r))).isSome)&&(!decide ((r.take (sgnN r))=[40])))&&(!decide ((r.take (sgnN r))=[41])))=zz then
  { (⟨s.length-r.length,.zero,r.take (sgnN r),s.length-r.length,zy,x.e,x.wh⟩:Lx).fail 4 (s.length-r.length) with at_:=((⟨s.length-r.length,.zero,r.take (sgnN r),s.length-r.length,zy,x.e,x.wh⟩:Lx).fail 4 (s.length-r.length)).at_+sgnN r }
 else ⟨s.length-r.length+sgnN r,.zero,r.take (sgnN r),s.length-r.length,zy,x.e,x.wh⟩
def BK (s:Kz) (x:Lx):Lx:=KP s (GX (s.drop x.at_)) x
theorem NB {s r:Kz} {x:Lx} (h:GX (s.drop x.at_)=r):BK s x=KP s r x:=h▸rfl
section
variable {s r:Kz} {x:Lx} {b:UInt8}
theorem PP (h:r=[]∨¬x.e=0):KP s r x=⟨s.length-r.length,.zero,[],s.length-r.length,zz,x.e,x.wh⟩:=Ac h
theorem TK (h:¬r=[]∧x.e=0) (hb:r[0]?=G b) (h1:BY b=zz):KP s r x={ OY (r.take (spanP BY r)) ⟨s.length-r.length,.zero,[],s.length-r.length,zy,x.e,x.wh⟩ with at_:=(OY (r.take (spanP BY r)) ⟨s.length-r.length,.zero,[],s.length-r.length,zy,x.e,x.wh⟩).at_+spanP BY r }:=by
 rw [KP,Ae (λz=>z.elim h.1 (λz=>z h.2)),QB hb,Ac h1]
theorem QS (h:¬r=[]∧x.e=0) (hb:r[0]?=G b) (h1:BY b=zy) (h2:DD b=zz):KP s r x={ KH (r.take (spanP BS r)) ⟨s.length-r.length,.zero,[],s.length-r.length,zy,x.e,x.wh⟩ with at_:=(KH (r.take (spanP BS r)) ⟨s.length-r.length,.zero,[],s.length-r.length,zy,x.e,x.wh⟩).at_+spanP BS r }:=by
 rw [KP,Ae (λz=>z.elim h.1 (λz=>z h.2)),QB hb,AN h1,Ac h2]
theorem QT (h:¬r=[]∧x.e=0) (hb:r[0]?=G b) (h1:BY b=zy) (h2:DD b=zy) (h3:(b.toNat:Int)=39):KP s r x=JU r ⟨s.length-r.length,.zero,[],s.length-r.length,zy,x.e,x.wh⟩:=by
 rw [KP,Ae (λz=>z.elim h.1 (λz=>z h.2)),QB hb,AN h1,AN h2,Ac h3]
theorem TL (h:¬r=[]∧x.e=0) (hb:r[0]?=G b) (h1:BY b=zy) (h2:DD b=zy) (h3:¬(b.toNat:Int)=39)
 (h4:(((!(B4 (r.take (sgnN r))).isSome)&&(!decide ((r.take (sgnN r))=[40])))&&(!decide ((r.take (sgnN r))=[41])))=zz):KP s r x={ (⟨s.length-r.length,.zero,r.take (sgnN r),s.length-r.length,zy,x.e,x.wh⟩:Lx).fail 4 (s.length-r.length) with at_:=((⟨s.length-r.length,.zero,r.take (sgnN r),s.length-r.length,zy,x.e,x.wh⟩:Lx).fail 4 (s.length-r.length)).at_+sgnN r }:=by
 rw [KP,Ae (λz=>z.elim h.1 (λz=>z h.2)),QB hb,AN h1,AN h2,Ae h3,Ac h4]
theorem QU (h:¬r=[]∧x.e=0) (hb:r[0]?=G b) (h1:BY b=zy) (h2:DD b=zy) (h3:¬(b.toNat:Int)=39)
 (h4:(((!(B4 (r.take (sgnN r))).isSome)&&(!decide ((r.take (sgnN r))=[40])))&&(!decide ((r.take (sgnN r))=[41])))=zy):KP s r x=⟨s.length-r.length+sgnN r,.zero,r.take (sgnN r),s.length-r.length,zy,x.e,x.wh⟩:=by
 rw [KP,Ae (λz=>z.elim h.1 (λz=>z h.2)),QB hb,AN h1,AN h2,Ae h3,AN h4]
end
theorem SP (a2:Int) (a3:Bool):zv.built 156 [(2,AA a2),(3,.bool a3)]=G #[.int .u8 0,.int .u8 0,AA 0,.bool zy,str [],str [],.slice zx 0 0,str [],AA a2,.bool a3]:=zr
theorem aX : (zv.info? 4).map (·.size)=G 1:=zr
theorem E4 : (zv.info? 164).map (·.size)=G 2:=zr
theorem YL : (zv.info? 156).map (·.size)=G 10:=zr
theorem C5 : (zv.info? 164).map (·.zero)=G (G (.agg #[.int .u8 0,AA 0])):=zr
theorem J9 (s:Kz) (x:Lx) (gx:Nat)  (w:Kw) (hb:Blk w gx 158 (Lx.cells s x)) (hA:x.at_≤s.length) (hl:s.length≤256) (hY:Lay0 w) (hgx:nGlob≤gx) :
 zt zv 83 #[pg gx] w λe w'=>e=.returned (.tuple #[])∧Blk w' gx 158 (Lx.cells s (BK s x))∧Fr (λk=>k=gx) w w':=by
 have hGx:∀k,k=gx→nGlob≤k:=λ_ e=>e▸hgx
 obtain ⟨r,hr⟩:∃r,GX (s.drop x.at_)=r:=⟨_,X⟩
 have hrl:r.length≤s.length:=hr▸I4 _ _;refine sx_enter (vs:=[_]) func83 X ntmps83 X ?_;have M:Mem w (λk=>k=gx) [As.blk gx 158 (Lx.cells s x)] w:=Mem.one hb;refine sx_seq (DZ 9 CA zr ?_);have M:=M.drew;refine W ?_;refine sa X (xM X X X Ad D4) (DA (cl 20 X (AE X X call151) (rA _ hr) ?_));rintro _ _ ⟨rfl,rfl⟩;refine cq (W ?_);refine ya X (BT X X Ad) (yb X (ya X (BT X X Ad) (ya X (ER X X X hrl A0) (W ?_))));refine gp1 M 0 X X X GF λw2 M=>W ?_
 refine ya X (B8 (parts:=[(2,_),(3,_)]) X X (SP _ _)) (W ?_);refine FJ (cs':=[str s,AA ((s.length-r.length:Nat):Int),.int .u8 0,.int .u8 0,AA 0,.bool zy,str [],str [],.slice zx 0 0,str [],AA ((s.length-r.length:Nat):Int),.bool zz,AA x.e,AA (x.wh:Int)]) M 0 kw X X X X X YL X (CM X) (BN X) X λw3 M=>W ?_
 refine fvm M 6 [2,0] [(48,.bool ((O (r=[])) || (!decide (x.e=(0:Int)))))] ?_ (λk42=>?_)
 ·intro w4 M;refine W ?_;refine AC X (λh48=>?_) (λh48=>?_)
  ·have h48p:=bd h48;refine W ?_;exact qx_ret0 (Or.inl X) X ⟨X,by rw [NB hr,PP h48p];exact M.blk 0 rfl,M.fr⟩
  have h48p:=bd h48;have hrn:0<r.length:=Fo.2 h48p.1;refine W ?_;refine gp1 M 0 X X X aX λw5 M=>W ?_
  obtain ⟨b,hb⟩:=EJ (l:=r) (i:=0) A0;refine ya X (BA X X X Ad hb) (W ?_);refine CQ M 122 X X call152 (XU _ _) λw6 M=>W ?_
  refine AC X (λh120=>?_) (λh120=>?_)
  ·refine W ?_;refine CQ M 124 X X call153 (lR BY 152 call152 XU r _) λw7 M=>?_
   have hsp:=RS BY r;have htl:(r.take (spanP BY r)).length≤r.length:=by rw [Bs];omega
   have hpos:0<(r.take (spanP BY r)).length:=by have:=Z8 (is:=BY) hb (XV h120) h120;rw [Bs];omega
   refine W ?_;refine ya X (kZ X X X Ad D4) (FQ M 0 129 X X (AE X X call154) (uK s (⟨s.length-r.length,.zero,[],s.length-r.length,zy,x.e,x.wh⟩:Lx) _ _ _ (M.blk 0 X) (by first|omega|assumption) (by first|omega|assumption) (hY.fr M.fr hGx) hgx) λw8 M=>T8 ?_);refine ya X (GZ X X X (by first|omega|(simp only [S8];omega)|(simp only [OQ];omega)|(simp only [HV];omega))) (W ?_);refine gp1 M 0 X X X GF λw9 M=>W ?_
   exact qx_ret0 (Or.inr X) X ⟨X,by rw [NB hr,TK h48p hb h120];exact M.blk 0 rfl,M.fr⟩
  refine W ?_;refine CQ M 140 X X call155 (ZQ _ _) λw10 M=>W ?_
  refine AC X (λh138=>?_) (λh138=>?_)
  ·refine W ?_;refine CQ M 142 X X call153 (lR BS 156 call156 p9 r _) λw11 M=>?_
   have hsp:=RS BS r;have htl:(r.take (spanP BS r)).length≤r.length:=by rw [Bs];omega
   refine W ?_;refine ya X (kZ X X X Ad D4) (FQ M 0 147 X X (AE X X call157) (oQ s (⟨s.length-r.length,.zero,[],s.length-r.length,zy,x.e,x.wh⟩:Lx) _ _ _ (M.blk 0 X) (by first|omega|assumption)) λw12 M=>T8 ?_);refine ya X (GZ X X X (by first|omega|(simp only [S8];omega)|(simp only [OQ];omega)|(simp only [HV];omega))) (W ?_);refine gp1 M 0 X X X GF λw13 M=>W ?_
   exact qx_ret0 (Or.inr X) X ⟨X,by rw [NB hr,QS h48p hb h120 h138];exact M.blk 0 rfl,M.fr⟩
  refine W ?_;refine AC X (λh156=>?_) (λh156=>?_)
  ·have h156p:=odt h156;refine W ?_;refine FQ M 0 161 X X (AE X X call158) (oR s (⟨s.length-r.length,.zero,[],s.length-r.length,zy,x.e,x.wh⟩:Lx) _ _ _ (M.blk 0 X) (by first|omega|assumption) (by first|omega|assumption|(dsimp only;omega)) (hY.fr M.fr hGx) hgx) λw14 M=>W ?_
   exact qx_ret0 (Or.inr X) X ⟨X,by rw [NB hr,QT h48p hb h120 h138 h156p];exact M.blk 0 rfl,M.fr⟩
  have h156p:=odf h156;have hsg:=lT h48p.1;have hsg2:=sM r;refine W ?_;refine RO (λ(g7:Nat) (g56:Nat)=>[(0,pg gx),(2,str r),(6,AA 1),(8,.bool ((B4 (r.take (min 2 r.length))).isSome))]) (λ(g7:Nat) (g56:Nat)=>λw'=>Mem w (λk=>k=gx) [As.blk g7 164 [.int .u8 (((B4 (r.take (min 2 r.length))).getD (0,0)).1.toNat:Int),AA ((((B4 (r.take (min 2 r.length))).getD (0,0)).2:Nat):Int)],As.mp g56 GG,As.blk gx 158 [str s,AA ((s.length-r.length:Nat):Int),.int .u8 0,.int .u8 0,AA 0,.bool zy,str [],str [],.slice zx 0 0,str [],AA ((s.length-r.length:Nat):Int),.bool zy,AA x.e,AA (x.wh:Int)]] w') ?_ (λkr7=>?_)
  ·intro g7 g56 w15 M;refine W ?_;refine fvm M 4 [6,2,0] [(70,.bool ((B4 (r.take (min 2 r.length))).isSome&&(O (1<(r.length:Int)))))] ?_ (λk66=>?_)
   ·intro w16 M;refine W ?_;refine KA [(0,pg gx),(2,str r),(6,AA ((sgnN r:Nat):Int))] (λw'=>Mem w (λk=>k=gx) [As.blk g7 164 [.int .u8 (((B4 (r.take (min 2 r.length))).getD (0,0)).1.toNat:Int),AA ((((B4 (r.take (min 2 r.length))).getD (0,0)).2:Nat):Int)],As.mp g56 GG,As.blk gx 158 [str s,AA ((s.length-r.length:Nat):Int),.int .u8 0,.int .u8 0,AA 0,.bool zy,str [],str [],.slice zx 0 0,str [],AA ((s.length-r.length:Nat):Int),.bool zy,AA x.e,AA (x.wh:Int)]] w') ?_ (λk70=>?_)
    ·intro w17 M;refine W ?_;refine ya X (kZ X X X Ad D4) (W ?_);refine gp1 M 2 X X X G4 λw18 M=>W ?_
     refine RO (λ(g9:Nat) (g79:Nat)=>[(0,pg gx),(6,AA ((sgnN r:Nat):Int)),(10,.bool ((B4 (r.take (sgnN r))).isSome))]) (λ(g9:Nat) (g79:Nat)=>λw'=>Mem w (λk=>k=gx) [As.blk g9 164 [.int .u8 (((B4 (r.take (sgnN r))).getD (0,0)).1.toNat:Int),AA ((((B4 (r.take (sgnN r))).getD (0,0)).2:Nat):Int)],As.mp g79 GG,As.blk g7 164 [.int .u8 (((B4 (r.take (min 2 r.length))).getD (0,0)).1.toNat:Int),AA ((((B4 (r.take (min 2 r.length))).getD (0,0)).2:Nat):Int)],As.mp g56 GG,As.blk gx 158 [str s,AA ((s.length-r.length:Nat):Int),.int .u8 0,.int .u8 0,AA 0,.bool zy,str [],str [],.slice zx 0 0,str (r.take (sgnN r)),AA ((s.length-r.length:Nat):Int),.bool zy,AA x.e,AA (x.wh:Int)]] w') ?_ (λkr11=>?_)
     ·intro g9 g79 w19 M;refine W ?_;refine fvm M 7 [6,0] [(97,.bool ((!(B4 (r.take (sgnN r))).isSome)&&(!decide ((r.take (sgnN r))=[40]))))] ?_ (λk90=>?_)
      ·intro w20 M;refine yb X (fvm M 7 [6,0] [(105,.bool (((!(B4 (r.take (sgnN r))).isSome)&&(!decide ((r.take (sgnN r))=[40])))&&(!decide ((r.take (sgnN r))=[41]))))] ?_ (λk98=>?_))
       ·intro w21 M;refine W ?_;refine AC X (λh105=>?_) (λh105=>?_)
        ·have h105p:=bd h105;refine W ?_;refine FQ M 4 111 X X (AE X X call86) (GN s (⟨s.length-r.length,.zero,(r.take (sgnN r)),s.length-r.length,zy,x.e,x.wh⟩:Lx) _ _ _ _ (M.blk 4 X)) λw22 M=>T8 ?_
         refine ya X (GZ X X X (by first|omega|(simp only [S8];omega)|(simp only [OQ];omega)|(simp only [HV];omega))) (W ?_);refine gp1 M 4 X X X GF λw23 M=>W ?_
         exact qx_ret0 (Or.inr X) X ⟨X,by rw [NB hr,TL h48p hb h120 h138 h156p h105];exact M.blk 4 rfl,M.fr⟩
        have h105p:=bd h105;refine T8 ?_;refine ya X (GZ X X X (by first|omega|(simp only [S8];omega)|(simp only [OQ];omega)|(simp only [HV];omega))) (W ?_);refine gp1 M 4 X X X GF λw24 M=>W ?_
        exact qx_ret0 (Or.inr X) X ⟨X,by rw [NB hr,QU h48p hb h120 h138 h156p h105];exact M.blk 4 rfl,M.fr⟩
       refine A1 (d:=98) X (λh98=>?_) (λh98=>?_)
       ·refine T7 ?_;exact k98 M
       refine T7 ?_;exact k98 M
      refine A1 (d:=90) X (λh90=>?_) (λh90=>?_)
      ·refine T7 ?_;exact k90 M
      refine T7 ?_;exact k90 M
     refine I0 M 13 CA λM=>oc 1 13 X X M (oc 2 13 X X M (oc 3 13 X X M (oc 4 13 X X M (ol 5 13 X X X M (λ_ M=>(M.cell 2 X X)) (FM (rs:=[0,10]) zr (by simp) λiz hiz=>?_)))))
     simp only [Ao,Ba,or_false] at hiz
     rcases hiz with rfl|rfl
     ·refine GT (G 79) X kw X X (AE X X call90) (KL _) ?_;rintro _ w25 ⟨g79,rfl,hMw25,hgw25,hfw25⟩;refine ⟨_,X,λ_=>M.step hfw25,?_⟩;have M:=M.push hfw25 (As.mp g79 GG) hMw25 (OZ hgw25 hMw25.lt);refine FM (rs:=[6,10]) zr (by simp) λiz hiz=>?_
      simp only [Ao,Ba,or_false] at hiz
      rcases hiz with rfl|rfl
      ·refine DP (G 85) X kw X X (mR (EM X X X Ci Ad C5 (M.mp 0 X) (G5 _) (JM _))) ?_;rintro _ _ ⟨rfl,rfl⟩;refine ⟨λ_=>(M.drop 1),oc 7 13 X X (M.drop 1) (oc 8 13 X X (M.drop 1) (oc 9 13 X X (M.drop 1) (B7 10 (G 9) zr X kw X X (λρ hρ=>BP 164 X _ [.int .u8 0,AA 0] C5 X) ?_)))⟩;rintro _ w26 ⟨g9,rfl,hg9,hq9,hb9,hfw26⟩;refine ⟨λ_=>(M.drop 1).step hfw26,?_⟩;have M:=M.push hfw26 _ hb9 (CR hg9 hq9)
       replace M:Mem w (λk=>k=gx) (As.blk g9 164 [.int .u8 0,AA 0]::_) w26:=M
       exact fop M 11 0 X X X E4 X (·.drop 2) λw27 M=>oc 12 13 X X (M.drop 2) (fdn (kr11 g9 g79 _ _ M ⟨X,X,X,zw⟩))
      refine DP (G 9) X kw X X (λρ hρ=>BP 164 X _ [.int .u8 0,AA 0] C5 X) ?_;rintro _ w28 ⟨g9,rfl,hg9,hq9,hb9,hfw28⟩;refine ⟨λ_=>(M.drop 1).step hfw28,?_⟩;have M:=M.push hfw28 _ hb9 (CR hg9 hq9)
      replace M:Mem w (λk=>k=gx) (As.blk g9 164 [.int .u8 0,AA 0]::_) w28:=M
      exact DV 6 zr X kw X X (EM X X X Ci Ad C5 (M.mp 1 X) (G5 _) (JM _)) (M.drop 2) (oc 7 13 X X (M.drop 2) (oc 8 13 X X (M.drop 2) (oc 9 13 X X (M.drop 2) (fop M 11 0 X X X E4 X (·.drop 2) λw29 M=>oc 12 13 X X (M.drop 2) (fdn (kr11 g9 g79 _ _ M ⟨X,X,X,zw⟩))))))
     refine DP (G 9) X kw X X (λρ hρ=>BP 164 X _ [.int .u8 0,AA 0] C5 X) ?_;rintro _ w30 ⟨g9,rfl,hg9,hq9,hb9,hfw30⟩;refine ⟨λ_=>M.step hfw30,?_⟩;have M:=M.push hfw30 _ hb9 (CR hg9 hq9)
     replace M:Mem w (λk=>k=gx) (As.blk g9 164 [.int .u8 0,AA 0]::_) w30:=M
     refine BB 0 (G 79) zr X kw X X (AE X X call90) (KL _) ?_;rintro _ w31 ⟨g79,rfl,hMw31,hgw31,hfw31⟩;refine ⟨_,X,λ_=>(M.drop 1).step hfw31,?_⟩;have M:=M.push hfw31 (As.mp g79 GG) hMw31 (OZ hgw31 hMw31.lt);exact DV 6 zr X kw X X (EM X X X Ci Ad C5 (M.mp 0 X) (G5 _) (JM _)) (M.drop 2) (oc 7 13 X X (M.drop 2) (oc 8 13 X X (M.drop 2) (oc 9 13 X X (M.drop 2) (fop M 11 1 X X X E4 X (·.drop 2) λw32 M=>oc 12 13 X X (M.drop 2) (fdn (kr11 g9 g79 _ _ (M.pk [1,0,2,3,4]) ⟨X,X,X,zw⟩))))))
    refine AC X (λh70=>?_) (λh70=>?_)
    ·refine T3 ?_;exact k70 _ _ M ⟨X,X,(by unfold sgnN;rw [h70];rfl),zw⟩
    exact sx_skip (k70 _ _ M ⟨X,X,(by unfold sgnN;rw [h70];rfl),zw⟩)
   refine A1 (d:=66) X (λh66=>?_) (λh66=>?_)
   ·refine gyq X (yd X (BT X X Ad) (T2 ?_));exact k66 M
   refine T4 ?_;exact k66 M
  refine I0 M 13 CA λM=>oc 1 13 X X M (oc 2 13 X X M (oa 3 13 X X M (λ_ M=>BT X X Ad) (oa 4 13 X X M (λ_ M=>a1o X X X) (oa 5 13 X X M (λ_ M=>kZ X X X Ad D4) (FM (rs:=[0,10]) zr (by simp) λiz hiz=>?_)))))
  simp only [Ao,Ba,or_false] at hiz
  rcases hiz with rfl|rfl
  ·refine GT (G 56) X kw X X (AE X X call90) (KL _) ?_;rintro _ w33 ⟨g56,rfl,hMw33,hgw33,hfw33⟩;refine ⟨_,X,λ_=>M.step hfw33,?_⟩;have M:=M.push hfw33 (As.mp g56 GG) hMw33 (OZ hgw33 hMw33.lt);refine FM (rs:=[6,10]) zr (by simp) λiz hiz=>?_
   simp only [Ao,Ba,or_false] at hiz
   rcases hiz with rfl|rfl
   ·refine DP (G 62) X kw X X (mR (EM X X X Ci Ad C5 (M.mp 0 X) (G5 _) (JM _))) ?_;rintro _ _ ⟨rfl,rfl⟩;refine ⟨λ_=>(M.drop 1),oc 7 13 X X (M.drop 1) (oc 8 13 X X (M.drop 1) (oc 9 13 X X (M.drop 1) (B7 10 (G 7) zr X kw X X (λρ hρ=>BP 164 X _ [.int .u8 0,AA 0] C5 X) ?_)))⟩;rintro _ w34 ⟨g7,rfl,hg7,hq7,hb7,hfw34⟩;refine ⟨λ_=>(M.drop 1).step hfw34,?_⟩;have M:=M.push hfw34 _ hb7 (CR hg7 hq7)
    replace M:Mem w (λk=>k=gx) (As.blk g7 164 [.int .u8 0,AA 0]::_) w34:=M
    exact fop M 11 0 X X X E4 X (·.drop 2) λw35 M=>oc 12 13 X X (M.drop 2) (fdn (kr7 g7 g56 _ _ M ⟨X,X,X,X,zw⟩))
   refine DP (G 7) X kw X X (λρ hρ=>BP 164 X _ [.int .u8 0,AA 0] C5 X) ?_;rintro _ w36 ⟨g7,rfl,hg7,hq7,hb7,hfw36⟩;refine ⟨λ_=>(M.drop 1).step hfw36,?_⟩;have M:=M.push hfw36 _ hb7 (CR hg7 hq7)
   replace M:Mem w (λk=>k=gx) (As.blk g7 164 [.int .u8 0,AA 0]::_) w36:=M
   exact DV 6 zr X kw X X (EM X X X Ci Ad C5 (M.mp 1 X) (G5 _) (JM _)) (M.drop 2) (oc 7 13 X X (M.drop 2) (oc 8 13 X X (M.drop 2) (oc 9 13 X X (M.drop 2) (fop M 11 0 X X X E4 X (·.drop 2) λw37 M=>oc 12 13 X X (M.drop 2) (fdn (kr7 g7 g56 _ _ M ⟨X,X,X,X,zw⟩))))))
  refine DP (G 7) X kw X X (λρ hρ=>BP 164 X _ [.int .u8 0,AA 0] C5 X) ?_;rintro _ w38 ⟨g7,rfl,hg7,hq7,hb7,hfw38⟩;refine ⟨λ_=>M.step hfw38,?_⟩;have M:=M.push hfw38 _ hb7 (CR hg7 hq7)
  replace M:Mem w (λk=>k=gx) (As.blk g7 164 [.int .u8 0,AA 0]::_) w38:=M
  refine BB 0 (G 56) zr X kw X X (AE X X call90) (KL _) ?_;rintro _ w39 ⟨g56,rfl,hMw39,hgw39,hfw39⟩;refine ⟨_,X,λ_=>(M.drop 1).step hfw39,?_⟩;have M:=M.push hfw39 (As.mp g56 GG) hMw39 (OZ hgw39 hMw39.lt);exact DV 6 zr X kw X X (EM X X X Ci Ad C5 (M.mp 0 X) (G5 _) (JM _)) (M.drop 2) (oc 7 13 X X (M.drop 2) (oc 8 13 X X (M.drop 2) (oc 9 13 X X (M.drop 2) (fop M 11 1 X X X E4 X (·.drop 2) λw40 M=>oc 12 13 X X (M.drop 2) (fdn (kr7 g7 g56 _ _ (M.pk [1,0,2]) ⟨X,X,X,X,zw⟩))))))
 refine A1 (d:=42) X (λh42=>?_) (λh42=>?_)
 ·refine T6 ?_;exact k42 M
 refine T6 ?_;exact k42 M
end
section
def Xn.AtL (t:Ly) (w:Kw):Xn→Ky→List Nat→Prop
 | .un _ a,A,F=>∃g B F',A=G ⟨g,0,zx⟩∧F=g::F'∧Blk w g t (a.cells B)∧Xn.AtL t w a B F'
 | .bin _ a b,A,F=>∃g B C F' F'',A=G ⟨g,0,zx⟩∧F=g::(F'++F'')∧Blk w g t (a.cells B++b.cells C)∧Xn.AtL t w a B F'∧Xn.AtL t w b C F''
 | _,A,F=>A=zx∧F=[]
theorem Xn.AtL.keep {t:Ly} {w w':Kw}:∀{n:Xn} {A:Ky} {F:List Nat},(∀g∈F,g<w.heap.size→w'.heap[g]?=w.heap[g]?)→n.AtL t w A F→n.AtL t w' A F
 | .zero,_,_,_,h=>h
 | .lit _,_,_,_,h=>h
 | .var _,_,_,_,h=>h
 | .un _ _,_,_,hk,⟨g,B,F',h1,h2,h3,h4⟩=>by
  subst h2;exact ⟨g,B,F',h1,X,(hk g (by simp) h3.lt).trans h3,h4.keep (λk hk'=>hk k (by simp [hk']))⟩
 | .bin _ _ _,_,_,hk,⟨g,B,C,F',F'',h1,h2,h3,h4,h5⟩=>by
  subst h2;exact ⟨g,B,C,F',F'',h1,X,(hk g (by simp) h3.lt).trans h3,h4.keep (λk hk'=>hk k (by simp [hk'])),h5.keep (λk hk'=>hk k (by simp [hk']))⟩
theorem Xn.AtL.leaf {t:Ly} {w:Kw} {n:Xn} (h:n.leaf=zz):n.AtL t w zx []:=by
 cases n<;>first|exact ⟨rfl,rfl⟩|cases h
def As.xn (t:Ly) (n:Xn) (A:Ky) (F:List Nat):As:=⟨F,λw=>n.AtL t w A F,λh hb=>hb.keep h⟩
section
variable {w0 w w':Kw} {S:Nat→Prop} {L:List As}
theorem Mem.putPush (M:Mem w0 S L w) (i:Nat) {g ty:Nat} {cs cs':Kx} (hi:L[i]?=G (As.blk g ty cs)) (hb:Blk w' g ty cs') (hf:Fr (λk=>k=g) w w') (a:As) (hok:a.ok w') (hfp:∀k∈a.fp,w.heap.size≤k∧k<w'.heap.size):Mem w0 S (a::L.set i (As.blk g ty cs')) w':=by
 have M':=M.putB i hi hb hf
 have old:∀(j:Nat) (b:As),(L.set i (As.blk g ty cs'))[j]?=G b→∀k∈b.fp,k<w.heap.size:=by
  intro j b hj k hk
  by_cases hji:j=i
  ·subst hji;rw [Du (An.1 hi).1] at hj
   obtain rfl:=Bz hj;exact (M.lt j _ hi k (by simpa [As.blk] using hk)).1
  rw [Ee (Es hji)] at hj
  exact (M.lt j b hj k hk).1
 refine ⟨M'.fr,?_,?_,?_⟩
 ·intro j b hj
  cases j with
  | zero=>simp only [Ak,Ai] at hj;subst hj;exact hok
  | succ j=>exact M'.ok j b (by simpa using hj)
 ·intro j b hj k hk
  cases j with
  | zero=>
   simp only [Ak,Ai] at hj;subst hj
   obtain ⟨h1,h2⟩:=hfp k hk;exact ⟨h2,.inl (Bh M.fr.size h1)⟩
  | succ j=>exact M'.lt j b (by simpa using hj) k hk
 intro j l b c hj hl hne k hk hk'
 cases j with
 | zero=>
  cases l with
  | zero=>exact hne rfl
  | succ l=>
   simp only [Ak,Ai] at hj;subst hj
   have h1:=(hfp k hk).1;have h2:=old l c (by simpa using hl) k hk';omega
 | succ j=>
  cases l with
  | zero=>
   simp only [Ak,Ai] at hl;subst hl
   have h1:=(hfp k hk').1;have h2:=old j b (by simpa using hj) k hk;omega
  | succ l=>exact M'.apart j l b c (by simpa using hj) (by simpa using hl) A0 k hk hk'
theorem Mem.newOf {gx ty:Nat} {cs:Kx} (M:Mem w0 (λk=>k=gx) L w) (i j:Nat) {a:As} (hi:L[i]?=G a) (hj:L[j]?=G (As.blk gx ty cs)) (hne:i≠j):∀g∈a.fp,w0.heap.size≤g∧g<w.heap.size:=λg hg=>by
 obtain ⟨h1,h2⟩:=M.lt i a hi g hg;refine ⟨?_,h1⟩;rcases h2 with h2|h2
 ·exact h2
 exact absurd (by rw [h2];simp [As.blk]:g∈(As.blk gx ty cs).fp) (M.apart i j a _ hi hj hne g hg)
theorem Mem.new0 (M:Mem w0 AR L w) (i:Nat) {a:As} (hi:L[i]?=G a):∀g∈a.fp,w0.heap.size≤g∧g<w.heap.size:=λg hg=>by
 obtain ⟨h1,h2⟩:=M.lt i a hi g hg;exact ⟨h2.elim id (λhh=>hh.elim),h1⟩
theorem Mem.un {t:Ly} {gx ty g:Nat} {cs:Kx} {op:UInt8} {a:Xn} {B:Ky} {F:List Nat} (M:Mem w0 (λk=>k=gx) (As.blk g t (a.cells B)::As.xn t a B F::As.blk gx ty cs::L) w):(Xn.un op a).AtL t w (G ⟨g,0,zx⟩) (g::F)∧∀k∈g::F,w0.heap.size≤k∧k<w.heap.size:=by
 refine ⟨⟨g,B,F,X,X,M.blk 0 X,M.ok 1 _ X⟩,λk hk=>?_⟩;rcases Ao.1 hk with rfl|hk
 ·exact M.newOf 0 2 X X AV k (by simp [As.blk])
 exact M.newOf 1 2 X X AV k hk
end
section
variable (s:Kz) (fr:Nat→Lx→Xn × Lx)
def M7 (op:UInt8) (line:Nat) (x:Lx):Xn × Lx:=(.un op (fr line (BK s x)).1,(fr line (BK s x)).2)
def QD (x:Lx):Xn × Lx:=(x.nd,BK s (if (x.nd.op.toNat:Int)=0 then x.fail 4 x.tat else x))
def HG (x:Lx):Xn × Lx:=
 ((fr 1 (BK s x)).1,BK s (if ¬(fr 1 (BK s x)).2.say=[41] then (fr 1 (BK s x)).2.fail 4 (fr 1 (BK s x)).2.tat else (fr 1 (BK s x)).2))
def BW (line:Nat) (x:Lx):Xn × Lx:=
 if x.say=[110,111,116]∧line≤3 then M7 s fr 3 3 x
 else if x.say=[45] then M7 s fr 4 7 x
 else if x.say=[40] then HG s fr x
 else QD s x
def FT (k:Kz):Nat:=((B4 k).getD (0,0)).2
def KI (x:Lx):Xn × Lx:=
 let r:=fr (FT x.say+1) (BK s x)
 (r.1,if FT x.say=4∧FT r.2.say=4 then r.2.fail 4 r.2.tat else r.2)
def EF : Nat→Nat→Xn→Lx→Xn × Lx
 | 0,_,n,x=>(n,x)
 | k+1,line,n,x=>
  if ¬x.e=0 then (n,x) else
  if (B4 x.say).isNone=zz∨FT x.say<line then (n,x) else
  EF k line (.bin ((B4 x.say).getD (0,0)).1 n (KI s fr x).1) (KI s fr x).2
end
def DB (s:Kz):Nat→Nat→Lx→Xn × Lx
 | 0,_,x=>(.zero,x)
 | f+1,line,x=>if ¬x.e=0 then (.zero,x) else
  EF s (DB s f) f line (BW s (DB s f) line x).1 (BW s (DB s f) line x).2
def CT (s:Kz):Xn × Nat × Int:=
 if 256<s.length then (.zero,0,3) else
 let r:=DB s 258 1 (BK s lx0)
 let y:=if r.2.fin=zy then r.2.fail 4 r.2.tat else r.2
 if y.e=0 then (r.1,0,0) else (.zero,y.wh,y.e)
structure LxI (s:Kz) (x:Lx):Prop where
 at_:x.at_≤s.length
 tat:x.tat≤x.at_
 adv:¬x.say=[]→x.tat<x.at_
 leaf:x.nd.leaf=zz
def lxM (s:Kz) (x:Lx):Nat:=if x.e=0 then s.length+1-x.tat else 0
theorem FS (x:Lx) (e:Int) (p:Nat):(x.fail e p).tat=x.tat:=by unfold Lx.fail;split<;>rfl
theorem FD (x:Lx) (e:Int) (p:Nat):(x.fail e p).nd=x.nd:=by unfold Lx.fail;split<;>rfl
theorem KR (x:Lx) (e:Int) (p:Nat):(x.fail e p).say=x.say:=by unfold Lx.fail;split<;>rfl
theorem EA {x:Lx} {e:Int} {p:Nat} (h:¬e=0):¬(x.fail e p).e=0:=by unfold Lx.fail;split<;>simp_all
theorem LxI.fail {s:Kz} {x:Lx} (h:LxI s x) (e:Int) (p:Nat):LxI s (x.fail e p):=⟨by rw [HV];exact h.at_,by rw [HV,FS];exact h.tat,by rw [HV,FS,KR];exact h.adv,by rw [FD];exact h.leaf⟩
theorem SA {s:Kz} {x:Lx} {e:Int} {p:Nat} (h:¬e=0):lxM s (x.fail e p)=0:=by unfold lxM;rw [Ae (EA h)]
theorem u1 (t:Kz) (x:Lx):(OY t x).tat=x.tat∧(OY t x).say=x.say∧(x.nd.leaf=zz→(OY t x).nd.leaf=zz):=by
 unfold OY
 split
 ·exact ⟨FS _ _ _,KR _ _ _,λh=>by rw [FD];exact h⟩
 split
 ·exact ⟨X,X,λ_=>X⟩
 exact ⟨FS _ _ _,KR _ _ _,λ_=>X⟩
theorem n7 (t:Kz) (x:Lx):(KH t x).tat=x.tat∧(x.nd.leaf=zz→(KH t x).nd.leaf=zz):=by
 unfold KH
 repeat' split
 all_goals first
  | exact ⟨rfl,λ_=>rfl⟩
  | exact ⟨rfl,λh=>h⟩
  | exact ⟨FS _ _ _,λh=>by rw [FD];exact h⟩
theorem nJ (l:Kz) (x:Lx):(JU l x).tat=x.tat∧(JU l x).say=x.say∧(x.nd.leaf=zz→(JU l x).nd.leaf=zz)∧x.at_≤(JU l x).at_∧(JU l x).at_≤x.at_+l.length:=by
 unfold JU
 split
 ·split
  ·exact ⟨X,X,λ_=>X,Dg _ _,by simp only;omega⟩
  exact ⟨FS _ _ _,KR _ _ _,λh=>by rw [FD];exact h,by rw [HV];exact Af _,by rw [HV];omega⟩
 exact ⟨FS _ _ _,KR _ _ _,λh=>by rw [FD];exact h,by rw [HV];exact Af _,by rw [HV];omega⟩
theorem oT {b:UInt8} (h:DD b=zz):b.toNat<128:=by
 have h1:=odt (DU h).2;have h2:b.toNat≤(b ||| 32).toNat:=by rw [Il];exact Nat.left_le_or
 omega
theorem oU {b:UInt8} (h:DD b=zz):BS b=zz:=by unfold BS;rw [h];rfl
theorem mC {s r:Kz} {x:Lx} (hr:r.length≤s.length):LxI s (KP s r x)∧(KP s r x).tat=s.length-r.length:=by
 by_cases h0:r=[]∨¬x.e=0
 ·rw [PP h0];exact ⟨⟨Nat.sub_le _ _,Af _,λh=>absurd X h,X⟩,X⟩
 have h:¬r=[]∧x.e=0:=⟨λz=>h0 (.inl z),Fj λz=>h0 (.inr z)⟩;have hn:0<r.length:=Fo.2 h.1;obtain ⟨b,hb⟩:=EJ (l:=r) (i:=0) hn
 by_cases h1:BY b=zz
 ·rw [TK h hb h1];have hsp:=RS BY r;obtain ⟨e1,e2,e3⟩:=u1 (r.take (spanP BY r)) ⟨s.length-r.length,.zero,[],s.length-r.length,zy,x.e,x.wh⟩;have e4:=S8 (r.take (spanP BY r)) ⟨s.length-r.length,.zero,[],s.length-r.length,zy,x.e,x.wh⟩
  simp only at e1 e2 e4
  refine ⟨⟨?_,?_,?_,e3 X⟩,e1⟩
  ·simp only [e4];omega
  ·simp only [e4,e1];omega
  simp only [e2];exact λh=>absurd zw h
 have h1:=Cp.2 h1
 by_cases h2:DD b=zz
 ·rw [QS h hb h1 h2];have hsp:=RS BS r;have hpo:=Z8 (is:=BS) hb (oT h2) (oU h2);obtain ⟨e1,e3⟩:=n7 (r.take (spanP BS r)) ⟨s.length-r.length,.zero,[],s.length-r.length,zy,x.e,x.wh⟩;have e4:=OQ (r.take (spanP BS r)) ⟨s.length-r.length,.zero,[],s.length-r.length,zy,x.e,x.wh⟩
  simp only at e1 e4
  refine ⟨⟨?_,?_,?_,e3 X⟩,e1⟩
  ·simp only [e4];omega
  ·simp only [e4,e1];omega
  simp only [e4,e1];omega
 have h2:=Cp.2 h2
 by_cases h3:(b.toNat:Int)=39
 ·rw [QT h hb h1 h2 h3];obtain ⟨e1,e2,e3,e4,e5⟩:=nJ r ⟨s.length-r.length,.zero,[],s.length-r.length,zy,x.e,x.wh⟩
  simp only at e1 e2 e4 e5
  refine ⟨⟨A0,A0,?_,e3 rfl⟩,e1⟩;rw [e2];exact λh=>absurd rfl h
 have hsg:=lT h.1;have hs1:0<sgnN r:=by unfold sgnN;split<;>omega
 by_cases h4:(((!(B4 (r.take (sgnN r))).isSome)&&(!decide ((r.take (sgnN r))=[40])))&&(!decide ((r.take (sgnN r))=[41])))=zz
 ·rw [TL h hb h1 h2 h3 h4];refine ⟨⟨?_,?_,?_,?_⟩,?_⟩
  ·simp only [HV];omega
  ·simp only [HV,FS];omega
  ·simp only [HV,FS];omega
  ·simp only [FD];rfl
  simp only [FS]
 rw [QU h hb h1 h2 h3 (Cp.2 h4)];exact ⟨⟨by simp only;omega,by simp only;omega,λ_=>by simp only;omega,rfl⟩,X⟩
theorem E0 {s:Kz} {x:Lx}:LxI s (BK s x):=(mC (I4 _ _)).1
theorem oM {s:Kz} {x:Lx} (h:x.at_≤s.length):x.at_≤(BK s x).tat:=by
 have h1:(BK s x).tat=_:=(mC (I4 s x.at_)).2;have h2:(GX (s.drop x.at_)).length≤s.length-x.at_:=Bh (KD _ _) (by rw [Ch];exact Af _);have h3:=I4 s x.at_;omega
theorem fP {s:Kz} {x:Lx} (h:LxI s x):lxM s (BK s x)≤s.length+1-x.at_:=by
 have:=oM h.at_
 unfold lxM
 split<;>omega
theorem HR {s:Kz} {x:Lx} (h:LxI s x) (he:x.e=0) (hs:¬x.say=[]):lxM s (BK s x)<lxM s x:=by
 have h1:=fP h;have h2:=h.adv hs;have h3:=h.at_;have h4:lxM s x=s.length+1-x.tat:=by unfold lxM;rw [Ac he]
 omega
theorem a2o {s:Kz} {x:Lx} (h:LxI s x) (he:x.e=0):lxM s (BK s x)≤lxM s x:=by
 have h1:=fP h;have h2:=h.tat;have h4:lxM s x=s.length+1-x.tat:=by unfold lxM;rw [Ac he]
 omega
theorem PQ {s:Kz} {x:Lx} (h:¬x.e=0):¬(BK s x).e=0:=by
 unfold BK;rw [PP (.inr h)];exact h
theorem PR {s:Kz} {x:Lx} (h:LxI s x):lxM s (BK s x)≤lxM s x:=by
 by_cases he:x.e=0
 ·exact a2o h he
 unfold lxM;rw [Ae he,Ae (PQ he)];exact Af _
structure FrI (s:Kz) (f:Nat) (fr:Nat→Lx→Xn × Lx):Prop where
 I:∀(line:Nat) (x:Lx),LxI s x→lxM s x≤f→LxI s (fr line x).2
 m:∀(line:Nat) (x:Lx),LxI s x→lxM s x≤f→lxM s (fr line x).2≤lxM s x
section
variable {s:Kz} {f:Nat} {fr:Nat→Lx→Xn × Lx}
theorem VT (h:FrI s f fr) {x:Lx} (hx:LxI s x) (he:x.e=0) (hs:¬x.say=[]) (hm:lxM s x≤f+1) (op:UInt8) (line:Nat):LxI s (M7 s fr op line x).2∧lxM s (M7 s fr op line x).2≤lxM s x:=by
 have h1:=HR hx he hs;exact ⟨h.I _ _ E0 A0,Bh (h.m _ _ E0 A0) A0⟩
theorem xJ {x:Lx} (hx:LxI s x):LxI s (QD s x).2∧lxM s (QD s x).2≤lxM s x:=by
 refine ⟨E0,?_⟩;unfold QD
 split
 ·exact Bh (PR (hx.fail 4 x.tat)) (by rw [SA AV];exact Aj _)
 exact PR hx
theorem Y8 (h:FrI s f fr) {x:Lx} (hx:LxI s x) (he:x.e=0) (hs:¬x.say=[]) (hm:lxM s x≤f+1):LxI s (HG s fr x).2∧lxM s (HG s fr x).2≤lxM s x:=by
 have h1:=HR hx he hs;have h2:=h.I 1 _ (E0 (s:=s) (x:=x)) A0;have h3:=h.m 1 _ (E0 (s:=s) (x:=x)) A0;refine ⟨E0,?_⟩;unfold HG
 simp only
 split
 ·exact Bh (PR (h2.fail 4 _)) (by rw [SA AV];exact Aj _)
 exact Bh (PR h2) A0
theorem KC (h:FrI s f fr) {x:Lx} (hx:LxI s x) (he:x.e=0) (hm:lxM s x≤f+1) (line:Nat):LxI s (BW s fr line x).2∧lxM s (BW s fr line x).2≤lxM s x:=by
 unfold BW
 split
 ·rename_i h1;exact VT h hx he (by rw [h1.1];decide) hm _ _
 split
 ·rename_i h1;exact VT h hx he (by rw [h1];decide) hm _ _
 split
 ·rename_i h1;exact Y8 h hx he (by rw [h1];decide) hm
 exact xJ hx
theorem KM {x:Lx} (h:¬(B4 x.say).isNone=zz):¬x.say=[]:=λe=>h (by rw [e];rfl)
theorem WG (h:FrI s f fr) {x:Lx} (hx:LxI s x) (he:x.e=0) (hs:¬x.say=[]) (hm:lxM s x≤f+1):LxI s (KI s fr x).2∧lxM s (KI s fr x).2<lxM s x:=by
 have h1:=HR hx he hs;have h2:=h.I (FT x.say+1) _ (E0 (s:=s) (x:=x)) A0;have h3:=h.m (FT x.say+1) _ (E0 (s:=s) (x:=x)) A0;unfold KI
 simp only
 split
 ·exact ⟨h2.fail _ _,by rw [SA AV];omega⟩
 exact ⟨h2,A0⟩
theorem QV (h:FrI s f fr) (line:Nat):∀(k:Nat) (n:Xn) (x:Lx),LxI s x→lxM s x≤f+1→LxI s (EF s fr k line n x).2∧lxM s (EF s fr k line n x).2≤lxM s x
 | 0,_,_,hx,_=>⟨hx,Af _⟩
 | k+1,n,x,hx,hm=>by
  unfold EF
  split
  ·exact ⟨hx,Af _⟩
  rename_i he
  split
  ·exact ⟨hx,Af _⟩
  rename_i hs
  have he:x.e=0:=Fj he;obtain ⟨h1,h2⟩:=WG h hx he (KM λz=>hs (.inl z)) hm;obtain ⟨h3,h4⟩:=QV h line k (.bin ((B4 x.say).getD (0,0)).1 n (KI s fr x).1) _ h1 A0;exact ⟨h3,A0⟩
end
theorem XN (s:Kz):∀f:Nat,FrI s f (DB s (f+1))
 | 0=>by
  have key:∀(line:Nat) (x:Lx),LxI s x→lxM s x≤0→(DB s 1 line x).2=x:=λline x hx hm=>by
   have he:¬x.e=0:=λhe=>by
    unfold lxM at hm
    rw [Ac he] at hm
    have:=hx.at_;have:=hx.tat
    omega
   unfold DB;rw [Ac he]
  exact ⟨λl x hx hm=>by rw [key l x hx hm];exact hx,λl x hx hm=>by rw [key l x hx hm];exact Af _⟩
 | f+1=>by
  have ih:=XN s f
  have key:∀(line:Nat) (x:Lx),LxI s x→lxM s x≤f+1→LxI s (DB s (f+1+1) line x).2∧lxM s (DB s (f+1+1) line x).2≤lxM s x:=λline x hx hm=>by
   unfold DB
   split
   ·exact ⟨hx,Af _⟩
   rename_i he
   have he:x.e=0:=Fj he;obtain ⟨h1,h2⟩:=KC ih hx he hm line;obtain ⟨h3,h4⟩:=QV ih line (f+1) (BW s (DB s (f+1)) line x).1 _ h1 A0;exact ⟨h3,A0⟩
  exact ⟨λl x hx hm=>(key l x hx hm).1,λl x hx hm=>(key l x hx hm).2⟩
theorem m7 (k:Kz):FT k≤6:=by
 have:∀(l:List (Kz × (UInt8 × Nat))),(∀q∈l,q.2.2≤6)→((TC l k).getD (0,0)).2≤6:=by
  intro l
  induction l with
  | nil=>intro _;exact Aj _
  | cons a l ih=>
   intro h;obtain ⟨a1,a2⟩:=a;unfold TC
   split
   ·exact h (a1,a2) (by simp)
   exact ih λq hq=>h q (by simp [hq])
 exact this signTab AV
end
def aN (s:Kz) (gx:Nat) (w:Kw) (r:Xn × Lx):Ending→Kw→Prop:=λe w'=>∃A F,e=.returned (.agg (r.1.cells A).toArray)∧r.1.AtL 113 w' A F∧(∀k∈F,w.heap.size≤k∧k<w'.heap.size)∧Blk w' gx 158 (Lx.cells s r.2)∧Fr (λk=>k=gx) w w'
structure PE (s:Kz) (w:Kw) (gx c5 c6 c7 c8 c9 c10:Nat):Prop where
 b5:Blk w c5 154 [.pointer (G ⟨gx,0,zx⟩)]
 b6:Blk w c6 159 [.func (.func 89) #[] #[.pointer (G ⟨c5,0,zx⟩),.pointer (G ⟨c10,0,zx⟩),.pointer (G ⟨c6,0,zx⟩)]]
 b7:Blk w c7 160 [.func (.func 84) #[] #[.pointer (G ⟨c5,0,zx⟩),.pointer (G ⟨c6,0,zx⟩)]]
 b8:Blk w c8 162 [.func (.func 85) #[] #[.pointer (G ⟨c5,0,zx⟩)]]
 b9:Blk w c9 162 [.func (.func 87) #[] #[.pointer (G ⟨c5,0,zx⟩),.pointer (G ⟨c6,0,zx⟩)]]
 b10:Blk w c10 159 [.func (.func 88) #[] #[.pointer (G ⟨c5,0,zx⟩),.pointer (G ⟨c7,0,zx⟩),.pointer (G ⟨c9,0,zx⟩),.pointer (G ⟨c8,0,zx⟩)]]
 n:¬c5=gx∧¬c6=gx∧¬c7=gx∧¬c8=gx∧¬c9=gx∧¬c10=gx
 g:nGlob≤gx
 len:s.length≤256
theorem PE.fr {s:Kz} {w w':Kw} {gx c5 c6 c7 c8 c9 c10:Nat} (h:PE s w gx c5 c6 c7 c8 c9 c10) (hf:Fr (λk=>k=gx) w w'):PE s w' gx c5 c6 c7 c8 c9 c10:=
 ⟨h.b5.fr hf h.n.1,h.b6.fr hf h.n.2.1,h.b7.fr hf h.n.2.2.1,h.b8.fr hf h.n.2.2.2.1,h.b9.fr hf h.n.2.2.2.2.1,h.b10.fr hf h.n.2.2.2.2.2,h.n,h.g,h.len⟩
structure FromOK (s:Kz) (gx c5 c6 c7 c8 c9 c10:Nat) (f:Nat) (fr:Nat→Lx→Xn × Lx):Prop where
 I:FrI s f fr
 call:∀(line:Nat) (x:Lx) (w:Kw),line≤7→Blk w gx 158 (Lx.cells s x)→LxI s x→lxM s x≤f→PE s w gx c5 c6 c7 c8 c9 c10→Lay0 w →
  zt zv 89 #[.int .i64 (line:Int),.pointer (G ⟨c5,0,zx⟩),.pointer (G ⟨c10,0,zx⟩),.pointer (G ⟨c6,0,zx⟩)] w (aN s gx w (fr line x))
theorem NI (a0:Int) (A3:Ky) (n3 c3:Nat):zv.built 113 [(0,.int .u8 a0),(3,.slice A3 n3 c3)]=G #[.int .u8 a0,.int .u8 0,AA 0,.bool zy,str [],str [],.slice A3 n3 c3]:=zr
theorem QA : (zv.info? 113).map (λi=>(i.zero,i.size))=G (G (.agg #[.int .u8 0,.int .u8 0,AA 0,.bool zy,str [],str [],.slice zx 0 0]),7):=zr
theorem DQ : (zv.info? 113).map (·.zero)=G (G (.agg #[.int .u8 0,.int .u8 0,AA 0,.bool zy,str [],str [],.slice zx 0 0])):=zr
theorem ZK {s:Kz} {gx c5 c6 c7 c8 c9 c10:Nat} {f:Nat} {fr:Nat→Lx→Xn × Lx} (hF:FromOK s gx c5 c6 c7 c8 c9 c10 f fr) (op:UInt8) (line:Nat) (hl:line≤7) (x:Lx) (w:Kw) (hb:Blk w gx 158 (Lx.cells s x)) (hx:LxI s x) (he:x.e=0) (hs:¬x.say=[]) (hm:lxM s x≤f+1) (hE:PE s w gx c5 c6 c7 c8 c9 c10) (hY:Lay0 w) :
 zt zv 84 #[.int .u8 (op.toNat:Int),AA (line:Int),pg c5,pg c6] w (aN s gx w (M7 s fr op line x)):=by
 have hGx:∀k,k=gx→nGlob≤k:=λ_ e=>e▸hE.g
 have hst:=HR hx he hs;refine sx_enter (vs:=[_,_,_,_]) func84 X ntmps84 X ?_;have M:Mem w (λk=>k=gx) [As.blk gx 158 (Lx.cells s x)] w:=Mem.one hb;refine W ?_;refine CE M X DQ λg6 w1 hg6 M=>T4 ?_
 refine yl X X (Blk.c ((hE.fr M.fr).b5) 0 X) (FQ M 1 8 X X (AE X X call83) (J9 s x _ _ (M.blk 1 X) hx.at_ hE.len (hY.fr M.fr hGx) hE.g) λw2 M=>T5 ?_);refine yl X X (Blk.c ((hE.fr M.fr).b6) 0 X) (yb X (cl 12 X (C7 X X X call89) (hF.call line (BK s x) _ A0 (M.blk 1 X) E0 A0 (hE.fr M.fr) (hY.fr M.fr hGx)) ?_));rintro _ w3 ⟨A12,F12,rfl,hat12,hnw12,hbw3,hfw3⟩;have M:=M.putPush 1 X hbw3 hfw3 (As.xn 113 (fr line (BK s x)).1 A12 F12) hat12 hnw12;have hI12:=hF.I.I line (BK s x) E0 A0;refine cq ?_;have hm12:=hF.I.m line (BK s x) E0 A0;refine CP M kw X X [.agg (Xn.cells ((fr line (BK s x)).1) A12).toArray] (Xn.cells ((fr line (BK s x)).1) A12) X X X X underlying111 QA X X (FZ X) X λg13 w4 hg13 M=>ya X (B8 (parts:=[(0,_),(3,_)]) X X (NI _ _ _ _)) (BX M 2 X X AU X λw5 M=>W ?_)
 refine CV X X (M.rdBlk 2 X X) Bt X AU ?_;obtain ⟨ha,hn⟩:=Mem.un (op:=op) (M.pk [0,1,3]);exact ⟨_,_,X,ha,hn,M.blk 3 X,M.fr⟩
theorem tS {s:Kz} {gx c5 c6 c7 c8 c9 c10:Nat}  (x:Lx) (w:Kw) (hb:Blk w gx 158 (Lx.cells s x)) (hx:LxI s x) (hE:PE s w gx c5 c6 c7 c8 c9 c10) (hY:Lay0 w) :
 zt zv 85 #[pg c5] w (aN s gx w (QD s x)):=by
 have hGx:∀k,k=gx→nGlob≤k:=λ_ e=>e▸hE.g
 have hc:x.nd.cells zx=[.int .u8 (x.nd.op.toNat:Int),.int .u8 (x.nd.vl.kind.toNat:Int),AA x.nd.vl.int,.bool x.nd.vl.bool,str x.nd.vl.text,str x.nd.nm,.slice zx 0 0]:=by unfold Xn.cells;rw [Xn.nk_leaf hx.leaf]
 refine sx_enter (vs:=[_]) func85 X ntmps85 X ?_;have M:Mem w (λk=>k=gx) [As.blk gx 158 (Lx.cells s x)] w:=Mem.one hb;refine W ?_;refine CE M X DQ λg1 w1 hg1 M=>T4 ?_
 refine yl X X (Blk.c ((hE.fr M.fr).b5) 0 X) (W ?_);refine ya X (AJ (xs:=[.int .u8 (x.nd.op.toNat:Int),.int .u8 (x.nd.vl.kind.toNat:Int),AA x.nd.vl.int,.bool x.nd.vl.bool,str x.nd.vl.text,str x.nd.nm,.slice zx 0 0]) X X (DO (M.blk 1 X) 2 7 X X) Bt X AU) (CE M X DQ λg2 w2 hg2 M=>BX M 0 X X AU X λw3 M=>W ?_);refine AC X (λh10=>?_) (λh10=>?_)
 ·have h10p:=odt h10;refine DZ 6 CA zr ?_;have M:=M.drew;refine sd X X (Blk.c ((hE.fr M.fr).b5) 0 X) (sd X X (Blk.c ((hE.fr M.fr).b5) 0 X) (W ?_));refine FQ M 2 17 X X (AE X X call86) (GN s x _ _ _ _ (M.blk 2 X)) λw4 M=>T4 ?_
  refine yl X X (Blk.c ((hE.fr M.fr).b5) 0 X) (FQ M 2 19 X X (AE X X call83) (J9 s (x.fail 4 x.tat) _ _ (M.blk 2 X) (hx.fail _ _).at_ hE.len (hY.fr M.fr hGx) hE.g) λw5 M=>W ?_);refine CF M 0 X X Bt AU X (BX M 1 X X AU X λw6 M=>W ?_);exact CV X X (M.rdBlk 1 X X) Bt X AU ⟨zx,[],Bf (λz=>Ending.returned (.agg z)) (Bf List.toArray hc.symm),Xn.AtL.leaf hx.leaf,(λk hk=>absurd hk (by simp)),by rw [QD,Ac h10p];exact M.blk 2 rfl,M.fr⟩
 have h10p:=odf h10;refine T4 ?_;refine yl X X (Blk.c ((hE.fr M.fr).b5) 0 X) (FQ M 2 19 X X (AE X X call83) (J9 s x _ _ (M.blk 2 X) hx.at_ hE.len (hY.fr M.fr hGx) hE.g) λw7 M=>W ?_);refine CF M 0 X X Bt AU X (BX M 1 X X AU X λw8 M=>W ?_);exact CV X X (M.rdBlk 1 X X) Bt X AU ⟨zx,[],Bf (λz=>Ending.returned (.agg z)) (Bf List.toArray hc.symm),Xn.AtL.leaf hx.leaf,(λk hk=>absurd hk (by simp)),by rw [QD,Ae h10p];exact M.blk 2 rfl,M.fr⟩
theorem bP {s:Kz} {gx c5 c6 c7 c8 c9 c10:Nat} {f:Nat} {fr:Nat→Lx→Xn × Lx} (hF:FromOK s gx c5 c6 c7 c8 c9 c10 f fr)  (x:Lx) (w:Kw) (hb:Blk w gx 158 (Lx.cells s x)) (hx:LxI s x) (he:x.e=0) (hs:¬x.say=[]) (hm:lxM s x≤f+1) (hE:PE s w gx c5 c6 c7 c8 c9 c10) (hY:Lay0 w) :
 zt zv 87 #[pg c5,pg c6] w (aN s gx w (HG s fr x)):=by
 have hGx:∀k,k=gx→nGlob≤k:=λ_ e=>e▸hE.g
 have hst:=HR hx he hs;refine sx_enter (vs:=[_,_]) func87 X ntmps87 X ?_;have M:Mem w (λk=>k=gx) [As.blk gx 158 (Lx.cells s x)] w:=Mem.one hb;refine W ?_;refine CE M X DQ λg2 w1 hg2 M=>T4 ?_
 refine yl X X (Blk.c ((hE.fr M.fr).b5) 0 X) (FQ M 1 5 X X (AE X X call83) (J9 s x _ _ (M.blk 1 X) hx.at_ hE.len (hY.fr M.fr hGx) hE.g) λw2 M=>T4 ?_);refine yl X X (Blk.c ((hE.fr M.fr).b6) 0 X) (cl 7 X (C7 X X X call89) (hF.call 1 (BK s x) _ A0 (M.blk 1 X) E0 A0 (hE.fr M.fr) (hY.fr M.fr hGx)) ?_);rintro _ w3 ⟨A7,F7,rfl,hat7,hnw7,hbw3,hfw3⟩;have M:=M.putPush 1 X hbw3 hfw3 (As.xn 113 (fr 1 (BK s x)).1 A7 F7) hat7 hnw7;have hI7:=hF.I.I 1 (BK s x) E0 A0;refine cq ?_;have hm7:=hF.I.m 1 (BK s x) E0 A0;refine CE M X DQ λg3 w4 hg3 M=>BX M 0 X X AU X λw5 M=>T5 ?_
 refine yl X X (Blk.c ((hE.fr M.fr).b5) 0 X) (W ?_);refine AC X (λh13=>?_) (λh13=>?_)
 ·have h13p:=(odf (CJ h13));refine DZ 6 CA zr ?_;have M:=M.drew;refine sd X X (Blk.c ((hE.fr M.fr).b5) 0 X) (sd X X (Blk.c ((hE.fr M.fr).b5) 0 X) (W ?_));refine FQ M 3 20 X X (AE X X call86) (GN s ((fr 1 (BK s x)).2) _ _ _ _ (M.blk 3 X)) λw6 M=>T4 ?_
  refine yl X X (Blk.c ((hE.fr M.fr).b5) 0 X) (FQ M 3 22 X X (AE X X call83) (J9 s (((fr 1 (BK s x)).2).fail 4 ((fr 1 (BK s x)).2.tat)) _ _ (M.blk 3 X) (hI7.fail _ _).at_ hE.len (hY.fr M.fr hGx) hE.g) λw7 M=>W ?_);refine CF M 0 X X Bt AU X (BX M 2 X X AU X λw8 M=>W ?_);exact CV X X (M.rdBlk 2 X X) Bt X AU ⟨_,_,X,M.ok 1 _ X,M.newOf 1 3 X X AV,by rw [HG,Ac h13p];exact M.blk 3 rfl,M.fr⟩
 have h13p:=(odt (BL h13));refine T4 ?_;refine yl X X (Blk.c ((hE.fr M.fr).b5) 0 X) (FQ M 3 22 X X (AE X X call83) (J9 s ((fr 1 (BK s x)).2) _ _ (M.blk 3 X) hI7.at_ hE.len (hY.fr M.fr hGx) hE.g) λw9 M=>W ?_);refine CF M 0 X X Bt AU X (BX M 2 X X AU X λw10 M=>W ?_);exact CV X X (M.rdBlk 2 X X) Bt X AU ⟨_,_,X,M.ok 1 _ X,M.newOf 1 3 X X AV,by rw [HG,Ae (λz=>z h13p)];exact M.blk 3 rfl,M.fr⟩
theorem oF {s:Kz} {gx c5 c6 c7 c8 c9 c10:Nat} {f:Nat} {fr:Nat→Lx→Xn × Lx} (hF:FromOK s gx c5 c6 c7 c8 c9 c10 f fr) (line:Nat) (hl:line≤7) (x:Lx) (w:Kw) (hb:Blk w gx 158 (Lx.cells s x)) (hx:LxI s x) (he:x.e=0) (hm:lxM s x≤f+1) (hE:PE s w gx c5 c6 c7 c8 c9 c10) (hY:Lay0 w) :
 zt zv 88 #[AA (line:Int),pg c5,pg c7,pg c9,pg c8] w (aN s gx w (BW s fr line x)):=by
 have hGx:∀k,k=gx→nGlob≤k:=λ_ e=>e▸hE.g
 refine sx_enter (vs:=[_,_,_,_,_]) func88 X ntmps88 X ?_;have M:Mem w (λk=>k=gx) [As.blk gx 158 (Lx.cells s x)] w:=Mem.one hb;refine W ?_;refine CE M X DQ λg6 w1 hg6 M=>T6 ?_
 refine yl X X (Blk.c ((hE.fr M.fr).b5) 0 X) (W ?_);refine fvm M 3 [6,4,3,2,1] [(17,.bool ((O (x.say=[110,111,116]))&&(O ((line:Int)≤3))))] ?_ (λk14=>?_)
 ·intro w2 M;refine W ?_;refine AC X (λh7=>?_) (λh7=>?_)
  ·have h7p:=bd h7;refine T2 ?_;refine yl X X (Blk.c ((hE.fr M.fr).b7) 0 X) (cl 19 X (C7 X X X call84) (ZK hF 3 3 AV x _ (M.blk 1 X) hx he (by rw [h7p.1];decide) hm (hE.fr M.fr) (hY.fr M.fr hGx)) ?_);rintro _ w3 ⟨A19,F19,rfl,hat19,hnw19,hbw3,hfw3⟩;have M:=M.putPush 1 X hbw3 hfw3 (As.xn 113 (M7 s fr 3 3 x).1 A19 F19) hat19 hnw19;have hI19:=(VT hF.I hx he (by rw [h7p.1];decide) hm 3 3).1;refine cq (BX M 1 X X AU X λw4 M=>W ?_);refine CV X X (M.rdBlk 1 X X) Bt X AU ?_;have hfp:BW s fr line x=M7 s fr 3 3 x:=by unfold BW;exact Ac ⟨h7p.1,A0⟩
   rw [hfp];exact ⟨_,_,X,M.ok 0 _ X,M.newOf 0 2 X X AV,M.blk 2 X,M.fr⟩
  have h7p:=bd h7;have h7n:¬(x.say=[110,111,116]∧line≤3):=λz=>h7p.elim (λq=>q z.1) (λq=>q A0)
  refine T2 ?_;refine yl X X (Blk.c ((hE.fr M.fr).b5) 0 X) (W ?_);refine AC X (λh20=>?_) (λh20=>?_)
  ·have h20p:=odt h20;refine T2 ?_;refine yl X X (Blk.c ((hE.fr M.fr).b7) 0 X) (cl 28 X (C7 X X X call84) (ZK hF 4 7 AV x _ (M.blk 1 X) hx he (by rw [h20p];decide) hm (hE.fr M.fr) (hY.fr M.fr hGx)) ?_);rintro _ w5 ⟨A28,F28,rfl,hat28,hnw28,hbw5,hfw5⟩;have M:=M.putPush 1 X hbw5 hfw5 (As.xn 113 (M7 s fr 4 7 x).1 A28 F28) hat28 hnw28;have hI28:=(VT hF.I hx he (by rw [h20p];decide) hm 4 7).1;refine cq (BX M 1 X X AU X λw6 M=>W ?_);refine CV X X (M.rdBlk 1 X X) Bt X AU ?_;have hfp:BW s fr line x=M7 s fr 4 7 x:=by unfold BW;rw [Ae (λz=>h7n z),Ac h20p]
   rw [hfp];exact ⟨_,_,X,M.ok 0 _ X,M.newOf 0 2 X X AV,M.blk 2 X,M.fr⟩
  have h20p:=odf h20;refine T2 ?_;refine yl X X (Blk.c ((hE.fr M.fr).b5) 0 X) (W ?_);refine AC X (λh29=>?_) (λh29=>?_)
  ·have h29p:=odt h29;refine T2 ?_;refine yl X X (Blk.c ((hE.fr M.fr).b9) 0 X) (cl 37 X (C7 X X X call87) (bP hF x _ (M.blk 1 X) hx he (by rw [h29p];decide) hm (hE.fr M.fr) (hY.fr M.fr hGx)) ?_);rintro _ w7 ⟨A37,F37,rfl,hat37,hnw37,hbw7,hfw7⟩;have M:=M.putPush 1 X hbw7 hfw7 (As.xn 113 (HG s fr x).1 A37 F37) hat37 hnw37;have hI37:=(Y8 hF.I hx he (by rw [h29p];decide) hm).1;refine cq (BX M 1 X X AU X λw8 M=>W ?_);refine CV X X (M.rdBlk 1 X X) Bt X AU ?_;have hfp:BW s fr line x=HG s fr x:=by unfold BW;rw [Ae (λz=>h7n z),Ae h20p,Ac h29p]
   rw [hfp];exact ⟨_,_,X,M.ok 0 _ X,M.newOf 0 2 X X AV,M.blk 2 X,M.fr⟩
  have h29p:=odf h29;refine T5 ?_;refine yl X X (Blk.c ((hE.fr M.fr).b8) 0 X) (cl 39 X (C7 X X X call85) (tS x _ (M.blk 1 X) hx (hE.fr M.fr) (hY.fr M.fr hGx)) ?_);rintro _ w9 ⟨A39,F39,rfl,hat39,hnw39,hbw9,hfw9⟩;have M:=M.putPush 1 X hbw9 hfw9 (As.xn 113 (QD s x).1 A39 F39) hat39 hnw39;have hI39:=(xJ hx).1;refine cq (BX M 1 X X AU X λw10 M=>W ?_);refine CV X X (M.rdBlk 1 X X) Bt X AU ?_;have hfp:BW s fr line x=QD s x:=by unfold BW;rw [Ae (λz=>h7n z),Ae h20p,Ae h29p]
  rw [hfp];exact ⟨_,_,X,M.ok 0 _ X,M.newOf 0 2 X X AV,M.blk 2 X,M.fr⟩
 refine A1 (d:=14) X (λh14=>?_) (λh14=>?_)
 ·refine T3 ?_;exact k14 M
 refine T3 ?_;exact k14 M
end Go.Proofs.YtppmdnmjepkfaaaGreatDoor
