/- Lemmas. -/
import Derived.Test.YtppmdnmjepkfaaaGreatDoorYb6
import Derived.Laws.RangeString
set_option maxHeartbeats 16000000
set_option maxRecDepth 100000
namespace Go.Proofs.YtppmdnmjepkfaaaGreatDoor
open Go.RowKit
open Tryz
section
theorem lY {P:Lw} {e:Env} {w:Kw} {o:Oper} {v:Kv} (h:Y P e o w v):∀ρ,Ag e ρ→K2 P ρ o w (λu w'=>u=v∧w'=w):=λρ hρ=>⟨v,w,.inl (h ρ hρ),rfl,rfl⟩
theorem ER {P:Lw} {e:Env} {w:Kw} {o:Oper} {t t':Nat} {a b:Nat} {x y:Lz} (ho:o.op=.binOp .sub t x y t') (hx:ev e x=some (AA (a:Int))) (hy:ev e y=some (AA (b:Int))) (h:b≤a) (hl:a≤9223372036854775807):Y P e o w (AA ((a-b:Nat):Int)):=by
 have:((a-b:Nat):Int)=(a:Int)-(b:Int):=by omega
 rw [this];exact MN ho hx hy A0
theorem q9 {l r:Kz} (w:Kw) (h:GP l=r):Calls prog 151 #[str l,str [32]] w λe w'=>e=.returned (str r)∧w=w':=h▸qA l w
theorem K8 (p:UInt8→Bool):∀l:Kz,(l.dropWhile p).length≤l.length
 | []=>Ab _
 | b::l=>by
  rw [Hg]
  split
  ·exact Nat.le_succ_of_le (K8 p l)
  exact Ab _
theorem HW (l:Kz) (k:Nat):(GP (l.drop k)).length≤l.length:=
 Bb (K8 _ _) (by rw [Bz];omega)
theorem XM {b:UInt8} (h:BL b=true):b.toNat<128:=by
 have:=odt (EE h).2
 omega
theorem YZ {is:UInt8→Bool} {l:Kz} {b:UInt8} (hb:l[0]?=some b) (hl:b.toNat<128) (h:is b=true):0<spanP is l:=by
 obtain ⟨b',r,rfl⟩:∃b' r,l=b'::r:=by cases l with|nil=>simp at hb|cons b' r=>exact ⟨b',r,rfl⟩
 obtain rfl:b'=b:=by simpa using hb
 unfold spanP
 split
 ·simp
 have hs:(ByteArray.mk (b'::r).toArray).size=r.length+1:=by show (b'::r).toArray.size=_;simp
 have hd:Utf8.decode ⟨(b'::r).toArray⟩ 0=(b'.toNat,1):=Go.decode_ascii _ 0 A0 hl
 have hq:KB is b'.toNat=false:=by
  unfold KB;rw [Hq,h];simp only [Gj,Im,decide_eq_false_iff_not];omega
 have h0:NY is (b'::r)=Lib.idxFuncFrom (KB is) true ⟨(b'::r).toArray⟩ r.length 1:=by
  unfold NY Lib.idxFunc;rw [hs,Lib.idxFuncFrom,if_pos A0,hd];simp only [hq,Db,if_false,Cm]
 have h1:=Lib.idxFuncFrom_range (KB is) true ⟨(b'::r).toArray⟩ r.length 1;rw [←h0] at h1
 rcases h1 with h1|h1<;>omega
theorem HO (x:Lx) (e:Int) (p:Nat):(x.fail e p).at_=x.at_:=by unfold Lx.fail;split<;>rfl
theorem RS (t:Kz) (x:Lx):(JH t x).at_=x.at_:=by
 unfold JH
 split
 ·exact HO _ _ _
 split
 ·rfl
 exact HO _ _ _
theorem O9 (t:Kz) (x:Lx):(G2 t x).at_=x.at_:=by
 unfold G2
 repeat' split
 all_goals first|rfl|exact HO _ _ _
def sgnN (r:Kz):Nat:=if ((AU (r.take (min 2 r.length))).isSome&&(decide ((1:Int)<((r.length:Nat):Int)))) then 2 else 1
theorem kW {r:Kz} (h:¬r=[]):sgnN r≤r.length:=by
 have:0<r.length:=Fe.2 h
 unfold sgnN
 split
 ·rename_i h1
  have:=odt (EE h1).2
  omega
 omega
theorem rB (r:Kz):sgnN r≤2:=by unfold sgnN;split<;>omega
def KH (s r:Kz) (x:Lx):Lx:=
 if r=[]∨¬x.e=0 then ⟨s.length-r.length,.zero,[],s.length-r.length,true,x.e,x.wh⟩
 else if BL (r.headD 0)=true then { JH (r.take (spanP BL r)) ⟨s.length-r.length,.zero,[],s.length-r.length,false,x.e,x.wh⟩ with at_:=(JH (r.take (spanP BL r)) ⟨s.length-r.length,.zero,[],s.length-r.length,false,x.e,x.wh⟩).at_+spanP BL r }
 else if D8 (r.headD 0)=true then { G2 (r.take (spanP BE r)) ⟨s.length-r.length,.zero,[],s.length-r.length,false,x.e,x.wh⟩ with at_:=(G2 (r.take (spanP BE r)) ⟨s.length-r.length,.zero,[],s.length-r.length,false,x.e,x.wh⟩).at_+spanP BE r }
 else if ((r.headD 0).toNat:Int)=39 then JN r ⟨s.length-r.length,.zero,[],s.length-r.length,false,x.e,x.wh⟩
 else if (((!(AU (r.take (sgnN r))).isSome)&&(!decide ((r.take (sgnN r))=[40])))&&(!decide ((r.take (sgnN r))=[41])))=true then
  { (⟨s.length-r.length,.zero,r.take (sgnN r),s.length-r.length,false,x.e,x.wh⟩:Lx).fail 4 (s.length-r.length) with at_:=((⟨s.length-r.length,.zero,r.take (sgnN r),s.length-r.length,false,x.e,x.wh⟩:Lx).fail 4 (s.length-r.length)).at_+sgnN r }
 else ⟨s.length-r.length+sgnN r,.zero,r.take (sgnN r),s.length-r.length,false,x.e,x.wh⟩
def BI (s:Kz) (x:Lx):Lx:=KH s (GP (s.drop x.at_)) x
theorem MV {s r:Kz} {x:Lx} (h:GP (s.drop x.at_)=r):BI s x=KH s r x:=h▸rfl
section
variable {s r:Kz} {x:Lx} {b:UInt8}
theorem P6 (h:r=[]∨¬x.e=0):KH s r x=⟨s.length-r.length,.zero,[],s.length-r.length,true,x.e,x.wh⟩:=if_pos h
theorem SW (h:¬r=[]∧x.e=0) (hb:r[0]?=some b) (h1:BL b=true):KH s r x={ JH (r.take (spanP BL r)) ⟨s.length-r.length,.zero,[],s.length-r.length,false,x.e,x.wh⟩ with at_:=(JH (r.take (spanP BL r)) ⟨s.length-r.length,.zero,[],s.length-r.length,false,x.e,x.wh⟩).at_+spanP BL r }:=by
 rw [KH,if_neg (λz=>z.elim h.1 (λz=>z h.2)),PW hb,if_pos h1]
theorem QF (h:¬r=[]∧x.e=0) (hb:r[0]?=some b) (h1:BL b=false) (h2:D8 b=true):KH s r x={ G2 (r.take (spanP BE r)) ⟨s.length-r.length,.zero,[],s.length-r.length,false,x.e,x.wh⟩ with at_:=(G2 (r.take (spanP BE r)) ⟨s.length-r.length,.zero,[],s.length-r.length,false,x.e,x.wh⟩).at_+spanP BE r }:=by
 rw [KH,if_neg (λz=>z.elim h.1 (λz=>z h.2)),PW hb,AM h1,if_pos h2]
theorem QG (h:¬r=[]∧x.e=0) (hb:r[0]?=some b) (h1:BL b=false) (h2:D8 b=false) (h3:(b.toNat:Int)=39):KH s r x=JN r ⟨s.length-r.length,.zero,[],s.length-r.length,false,x.e,x.wh⟩:=by
 rw [KH,if_neg (λz=>z.elim h.1 (λz=>z h.2)),PW hb,AM h1,AM h2,if_pos h3]
theorem SX (h:¬r=[]∧x.e=0) (hb:r[0]?=some b) (h1:BL b=false) (h2:D8 b=false) (h3:¬(b.toNat:Int)=39)
 (h4:(((!(AU (r.take (sgnN r))).isSome)&&(!decide ((r.take (sgnN r))=[40])))&&(!decide ((r.take (sgnN r))=[41])))=true):KH s r x={ (⟨s.length-r.length,.zero,r.take (sgnN r),s.length-r.length,false,x.e,x.wh⟩:Lx).fail 4 (s.length-r.length) with at_:=((⟨s.length-r.length,.zero,r.take (sgnN r),s.length-r.length,false,x.e,x.wh⟩:Lx).fail 4 (s.length-r.length)).at_+sgnN r }:=by
 rw [KH,if_neg (λz=>z.elim h.1 (λz=>z h.2)),PW hb,AM h1,AM h2,if_neg h3,if_pos h4]
theorem QH (h:¬r=[]∧x.e=0) (hb:r[0]?=some b) (h1:BL b=false) (h2:D8 b=false) (h3:¬(b.toNat:Int)=39)
 (h4:(((!(AU (r.take (sgnN r))).isSome)&&(!decide ((r.take (sgnN r))=[40])))&&(!decide ((r.take (sgnN r))=[41])))=false):KH s r x=⟨s.length-r.length+sgnN r,.zero,r.take (sgnN r),s.length-r.length,false,x.e,x.wh⟩:=by
 rw [KH,if_neg (λz=>z.elim h.1 (λz=>z h.2)),PW hb,AM h1,AM h2,if_neg h3,AM h4]
end
theorem SB (a2:Int) (a3:Bool):prog.built 156 [(2,AA a2),(3,.bool a3)]=some #[.int .u8 0,.int .u8 0,AA 0,.bool false,str [],str [],.slice none 0 0,str [],AA a2,.bool a3]:=by kernel_rfl
theorem aJ : (prog.info? 4).map (·.size)=some 1:=by kernel_rfl
theorem E2 : (prog.info? 164).map (·.size)=some 2:=by kernel_rfl
theorem YB : (prog.info? 156).map (·.size)=some 10:=by kernel_rfl
theorem C3 : (prog.info? 164).map (·.zero)=some (some (.agg #[.int .u8 0,AA 0])):=by kernel_rfl
theorem IY (s:Kz) (x:Lx) (gx:Nat)  (w:Kw) (hb:Blk w gx 158 (Lx.cells s x)) (hA:x.at_≤s.length) (hl:s.length≤256) (hY:Lay0 w) (hgx:nGlob≤gx) :
 Calls prog 83 #[pg gx] w λe w'=>e=.returned (.tuple #[])∧Blk w' gx 158 (Lx.cells s (BI s x))∧Fr (λk=>k=gx) w w':=by
 have hGx:∀k,k=gx→nGlob≤k:=λ_ e=>e▸hgx
 obtain ⟨r,hr⟩:∃r,GP (s.drop x.at_)=r:=⟨_,X⟩
 have hrl:r.length≤s.length:=hr▸HW _ _;refine sx_enter (vs:=[_]) func83 X ntmps83 X ?_;have M:Mem w (λk=>k=gx) [As.blk gx 158 (Lx.cells s x)] w:=Mem.one hb;refine sx_seq (EB 9 CA gkr ?_);have M:=M.drew;refine W ?_;refine sa X (vS X X X Aa DC) (D6 (cl 20 X (AD X X call151) (q9 _ hr) ?_));rintro _ _ ⟨rfl,rfl⟩;refine cq (W ?_);refine ya X (BT X X Aa) (yb X (ya X (BT X X Aa) (ya X (ER X X X hrl A0) (W ?_))));refine gp1 M 0 X X X FU λw2 M=>W ?_
 refine ya X (B7 (parts:=[(2,_),(3,_)]) X X (SB _ _)) (W ?_);refine J9 (cs':=[str s,AA ((s.length-r.length:Nat):Int),.int .u8 0,.int .u8 0,AA 0,.bool false,str [],str [],.slice none 0 0,str [],AA ((s.length-r.length:Nat):Int),.bool true,AA x.e,AA (x.wh:Int)]) M 0 kw X X X X X YB X (CL X) (BW X) X λw3 M=>W ?_
 refine fvm M 6 [2,0] [(48,.bool ((decide (r=[])) || (!decide (x.e=(0:Int)))))] ?_ (λk42=>?_)
 ·intro w4 M;refine W ?_;refine AB X (λh48=>?_) (λh48=>?_)
  ·have h48p:=bd h48;refine W ?_;exact qx_ret0 (Or.inl X) X ⟨X,by rw [MV hr,P6 h48p];exact M.blk 0 rfl,M.fr⟩
  have h48p:=bd h48;have hrn:0<r.length:=Fe.2 h48p.1;refine W ?_;refine gp1 M 0 X X X aJ λw5 M=>W ?_
  obtain ⟨b,hb⟩:=EP (l:=r) (i:=0) A0;refine ya X (B8 X X X Aa hb) (W ?_);refine CW M 122 X X call152 (XL _ _) λw6 M=>W ?_
  refine AB X (λh120=>?_) (λh120=>?_)
  ·refine W ?_;refine CW M 124 X X call153 (kU BL 152 call152 XL r _) λw7 M=>?_
   have hsp:=RF BL r;have htl:(r.take (spanP BL r)).length≤r.length:=by rw [Bl];omega
   have hpos:0<(r.take (spanP BL r)).length:=by have:=YZ (is:=BL) hb (XM h120) h120;rw [Bl];omega
   refine W ?_;refine ya X (jY X X X Aa DC) (GL M 0 129 X X (AD X X call154) (tB s (⟨s.length-r.length,.zero,[],s.length-r.length,false,x.e,x.wh⟩:Lx) _ _ _ (M.blk 0 X) (by first|omega|assumption) (by first|omega|assumption) (hY.fr M.fr hGx) hgx) λw8 M=>T8 ?_);refine ya X (FS X X X (by first|omega|(simp only [RS];omega)|(simp only [O9];omega)|(simp only [HO];omega))) (W ?_);refine gp1 M 0 X X X FU λw9 M=>W ?_
   exact qx_ret0 (Or.inr X) X ⟨X,by rw [MV hr,SW h48p hb h120];exact M.blk 0 rfl,M.fr⟩
  refine W ?_;refine CW M 140 X X call155 (ZD _ _) λw10 M=>W ?_
  refine AB X (λh138=>?_) (λh138=>?_)
  ·refine W ?_;refine CW M 142 X X call153 (kU BE 156 call156 o7 r _) λw11 M=>?_
   have hsp:=RF BE r;have htl:(r.take (spanP BE r)).length≤r.length:=by rw [Bl];omega
   refine W ?_;refine ya X (jY X X X Aa DC) (GL M 0 147 X X (AD X X call157) (nU s (⟨s.length-r.length,.zero,[],s.length-r.length,false,x.e,x.wh⟩:Lx) _ _ _ (M.blk 0 X) (by first|omega|assumption)) λw12 M=>T8 ?_);refine ya X (FS X X X (by first|omega|(simp only [RS];omega)|(simp only [O9];omega)|(simp only [HO];omega))) (W ?_);refine gp1 M 0 X X X FU λw13 M=>W ?_
   exact qx_ret0 (Or.inr X) X ⟨X,by rw [MV hr,QF h48p hb h120 h138];exact M.blk 0 rfl,M.fr⟩
  refine W ?_;refine AB X (λh156=>?_) (λh156=>?_)
  ·have h156p:=odt h156;refine W ?_;refine GL M 0 161 X X (AD X X call158) (nV s (⟨s.length-r.length,.zero,[],s.length-r.length,false,x.e,x.wh⟩:Lx) _ _ _ (M.blk 0 X) (by first|omega|assumption) (by first|omega|assumption|(dsimp only;omega)) (hY.fr M.fr hGx) hgx) λw14 M=>W ?_
   exact qx_ret0 (Or.inr X) X ⟨X,by rw [MV hr,QG h48p hb h120 h138 h156p];exact M.blk 0 rfl,M.fr⟩
  have h156p:=odf h156;have hsg:=kW h48p.1;have hsg2:=rB r;refine W ?_;refine RB (λ(g7:Nat) (g56:Nat)=>[(0,pg gx),(2,str r),(6,AA 1),(8,.bool ((AU (r.take (min 2 r.length))).isSome))]) (λ(g7:Nat) (g56:Nat)=>λw'=>Mem w (λk=>k=gx) [As.blk g7 164 [.int .u8 (((AU (r.take (min 2 r.length))).getD (0,0)).1.toNat:Int),AA ((((AU (r.take (min 2 r.length))).getD (0,0)).2:Nat):Int)],As.mp g56 EU,As.blk gx 158 [str s,AA ((s.length-r.length:Nat):Int),.int .u8 0,.int .u8 0,AA 0,.bool false,str [],str [],.slice none 0 0,str [],AA ((s.length-r.length:Nat):Int),.bool false,AA x.e,AA (x.wh:Int)]] w') ?_ (λkr7=>?_)
  ·intro g7 g56 w15 M;refine W ?_;refine fvm M 4 [6,2,0] [(70,.bool ((AU (r.take (min 2 r.length))).isSome&&(decide (1<(r.length:Int)))))] ?_ (λk66=>?_)
   ·intro w16 M;refine W ?_;refine K5 [(0,pg gx),(2,str r),(6,AA ((sgnN r:Nat):Int))] (λw'=>Mem w (λk=>k=gx) [As.blk g7 164 [.int .u8 (((AU (r.take (min 2 r.length))).getD (0,0)).1.toNat:Int),AA ((((AU (r.take (min 2 r.length))).getD (0,0)).2:Nat):Int)],As.mp g56 EU,As.blk gx 158 [str s,AA ((s.length-r.length:Nat):Int),.int .u8 0,.int .u8 0,AA 0,.bool false,str [],str [],.slice none 0 0,str [],AA ((s.length-r.length:Nat):Int),.bool false,AA x.e,AA (x.wh:Int)]] w') ?_ (λk70=>?_)
    ·intro w17 M;refine W ?_;refine ya X (jY X X X Aa DC) (W ?_);refine gp1 M 2 X X X GW λw18 M=>W ?_
     refine RB (λ(g9:Nat) (g79:Nat)=>[(0,pg gx),(6,AA ((sgnN r:Nat):Int)),(10,.bool ((AU (r.take (sgnN r))).isSome))]) (λ(g9:Nat) (g79:Nat)=>λw'=>Mem w (λk=>k=gx) [As.blk g9 164 [.int .u8 (((AU (r.take (sgnN r))).getD (0,0)).1.toNat:Int),AA ((((AU (r.take (sgnN r))).getD (0,0)).2:Nat):Int)],As.mp g79 EU,As.blk g7 164 [.int .u8 (((AU (r.take (min 2 r.length))).getD (0,0)).1.toNat:Int),AA ((((AU (r.take (min 2 r.length))).getD (0,0)).2:Nat):Int)],As.mp g56 EU,As.blk gx 158 [str s,AA ((s.length-r.length:Nat):Int),.int .u8 0,.int .u8 0,AA 0,.bool false,str [],str [],.slice none 0 0,str (r.take (sgnN r)),AA ((s.length-r.length:Nat):Int),.bool false,AA x.e,AA (x.wh:Int)]] w') ?_ (λkr11=>?_)
     ·intro g9 g79 w19 M;refine W ?_;refine fvm M 7 [6,0] [(97,.bool ((!(AU (r.take (sgnN r))).isSome)&&(!decide ((r.take (sgnN r))=[40]))))] ?_ (λk90=>?_)
      ·intro w20 M;refine yb X (fvm M 7 [6,0] [(105,.bool (((!(AU (r.take (sgnN r))).isSome)&&(!decide ((r.take (sgnN r))=[40])))&&(!decide ((r.take (sgnN r))=[41]))))] ?_ (λk98=>?_))
       ·intro w21 M;refine W ?_;refine AB X (λh105=>?_) (λh105=>?_)
        ·have h105p:=bd h105;refine W ?_;refine GL M 4 111 X X (AD X X call86) (GE s (⟨s.length-r.length,.zero,(r.take (sgnN r)),s.length-r.length,false,x.e,x.wh⟩:Lx) _ _ _ _ (M.blk 4 X)) λw22 M=>T8 ?_
         refine ya X (FS X X X (by first|omega|(simp only [RS];omega)|(simp only [O9];omega)|(simp only [HO];omega))) (W ?_);refine gp1 M 4 X X X FU λw23 M=>W ?_
         exact qx_ret0 (Or.inr X) X ⟨X,by rw [MV hr,SX h48p hb h120 h138 h156p h105];exact M.blk 4 rfl,M.fr⟩
        have h105p:=bd h105;refine T8 ?_;refine ya X (FS X X X (by first|omega|(simp only [RS];omega)|(simp only [O9];omega)|(simp only [HO];omega))) (W ?_);refine gp1 M 4 X X X FU λw24 M=>W ?_
        exact qx_ret0 (Or.inr X) X ⟨X,by rw [MV hr,QH h48p hb h120 h138 h156p h105];exact M.blk 4 rfl,M.fr⟩
       refine A1 (d:=98) X (λh98=>?_) (λh98=>?_)
       ·refine T7 ?_;exact k98 M
       refine T7 ?_;exact k98 M
      refine A1 (d:=90) X (λh90=>?_) (λh90=>?_)
      ·refine T7 ?_;exact k90 M
      refine T7 ?_;exact k90 M
     refine J2 M 13 CA λM=>oc 1 13 X X M (oc 2 13 X X M (oc 3 13 X X M (oc 4 13 X X M (ol 5 13 X X X M (λ_ M=>(M.cell 2 X X)) (G3 (rs:=[0,10]) gkr (by simp) λiz hiz=>?_)))))
     simp only [Ak,Ax,or_false] at hiz
     rcases hiz with rfl|rfl
     ·refine HU (some 79) X kw X X (AD X X call90) (KD _) ?_;rintro _ w25 ⟨g79,rfl,hMw25,hgw25,hfw25⟩;refine ⟨_,X,λ_=>M.step hfw25,?_⟩;have M:=M.push hfw25 (As.mp g79 EU) hMw25 (OI hgw25 hMw25.lt);refine G3 (rs:=[6,10]) gkr (by simp) λiz hiz=>?_
      simp only [Ak,Ax,or_false] at hiz
      rcases hiz with rfl|rfl
      ·refine E0 (some 85) X kw X X (lY (EM X X X Ca Aa C3 (M.mp 0 X) (FZ _) (JD _))) ?_;rintro _ _ ⟨rfl,rfl⟩;refine ⟨λ_=>(M.drop 1),oc 7 13 X X (M.drop 1) (oc 8 13 X X (M.drop 1) (oc 9 13 X X (M.drop 1) (B5 10 (some 9) gkr X kw X X (λρ hρ=>BN 164 X _ [.int .u8 0,AA 0] C3 X) ?_)))⟩;rintro _ w26 ⟨g9,rfl,hg9,hq9,hb9,hfw26⟩;refine ⟨λ_=>(M.drop 1).step hfw26,?_⟩;have M:=M.push hfw26 _ hb9 (CU hg9 hq9)
       replace M:Mem w (λk=>k=gx) (As.blk g9 164 [.int .u8 0,AA 0]::_) w26:=M
       exact fop M 11 0 X X X E2 X (·.drop 2) λw27 M=>oc 12 13 X X (M.drop 2) (fdn (kr11 g9 g79 _ _ M ⟨X,X,X,trivial⟩))
      refine E0 (some 9) X kw X X (λρ hρ=>BN 164 X _ [.int .u8 0,AA 0] C3 X) ?_;rintro _ w28 ⟨g9,rfl,hg9,hq9,hb9,hfw28⟩;refine ⟨λ_=>(M.drop 1).step hfw28,?_⟩;have M:=M.push hfw28 _ hb9 (CU hg9 hq9)
      replace M:Mem w (λk=>k=gx) (As.blk g9 164 [.int .u8 0,AA 0]::_) w28:=M
      exact DP 6 gkr X kw X X (EM X X X Ca Aa C3 (M.mp 1 X) (FZ _) (JD _)) (M.drop 2) (oc 7 13 X X (M.drop 2) (oc 8 13 X X (M.drop 2) (oc 9 13 X X (M.drop 2) (fop M 11 0 X X X E2 X (·.drop 2) λw29 M=>oc 12 13 X X (M.drop 2) (fdn (kr11 g9 g79 _ _ M ⟨X,X,X,trivial⟩))))))
     refine E0 (some 9) X kw X X (λρ hρ=>BN 164 X _ [.int .u8 0,AA 0] C3 X) ?_;rintro _ w30 ⟨g9,rfl,hg9,hq9,hb9,hfw30⟩;refine ⟨λ_=>M.step hfw30,?_⟩;have M:=M.push hfw30 _ hb9 (CU hg9 hq9)
     replace M:Mem w (λk=>k=gx) (As.blk g9 164 [.int .u8 0,AA 0]::_) w30:=M
     refine BC 0 (some 79) gkr X kw X X (AD X X call90) (KD _) ?_;rintro _ w31 ⟨g79,rfl,hMw31,hgw31,hfw31⟩;refine ⟨_,X,λ_=>(M.drop 1).step hfw31,?_⟩;have M:=M.push hfw31 (As.mp g79 EU) hMw31 (OI hgw31 hMw31.lt);exact DP 6 gkr X kw X X (EM X X X Ca Aa C3 (M.mp 0 X) (FZ _) (JD _)) (M.drop 2) (oc 7 13 X X (M.drop 2) (oc 8 13 X X (M.drop 2) (oc 9 13 X X (M.drop 2) (fop M 11 1 X X X E2 X (·.drop 2) λw32 M=>oc 12 13 X X (M.drop 2) (fdn (kr11 g9 g79 _ _ (M.pk [1,0,2,3,4]) ⟨X,X,X,trivial⟩))))))
    refine AB X (λh70=>?_) (λh70=>?_)
    ·refine T3 ?_;exact k70 _ _ M ⟨X,X,(by unfold sgnN;rw [h70];rfl),trivial⟩
    exact sx_skip (k70 _ _ M ⟨X,X,(by unfold sgnN;rw [h70];rfl),trivial⟩)
   refine A1 (d:=66) X (λh66=>?_) (λh66=>?_)
   ·refine gyq X (yd X (BT X X Aa) (T2 ?_));exact k66 M
   refine T4 ?_;exact k66 M
  refine J2 M 13 CA λM=>oc 1 13 X X M (oc 2 13 X X M (oa 3 13 X X M (λ_ M=>BT X X Aa) (oa 4 13 X X M (λ_ M=>a0B X X X) (oa 5 13 X X M (λ_ M=>jY X X X Aa DC) (G3 (rs:=[0,10]) gkr (by simp) λiz hiz=>?_)))))
  simp only [Ak,Ax,or_false] at hiz
  rcases hiz with rfl|rfl
  ·refine HU (some 56) X kw X X (AD X X call90) (KD _) ?_;rintro _ w33 ⟨g56,rfl,hMw33,hgw33,hfw33⟩;refine ⟨_,X,λ_=>M.step hfw33,?_⟩;have M:=M.push hfw33 (As.mp g56 EU) hMw33 (OI hgw33 hMw33.lt);refine G3 (rs:=[6,10]) gkr (by simp) λiz hiz=>?_
   simp only [Ak,Ax,or_false] at hiz
   rcases hiz with rfl|rfl
   ·refine E0 (some 62) X kw X X (lY (EM X X X Ca Aa C3 (M.mp 0 X) (FZ _) (JD _))) ?_;rintro _ _ ⟨rfl,rfl⟩;refine ⟨λ_=>(M.drop 1),oc 7 13 X X (M.drop 1) (oc 8 13 X X (M.drop 1) (oc 9 13 X X (M.drop 1) (B5 10 (some 7) gkr X kw X X (λρ hρ=>BN 164 X _ [.int .u8 0,AA 0] C3 X) ?_)))⟩;rintro _ w34 ⟨g7,rfl,hg7,hq7,hb7,hfw34⟩;refine ⟨λ_=>(M.drop 1).step hfw34,?_⟩;have M:=M.push hfw34 _ hb7 (CU hg7 hq7)
    replace M:Mem w (λk=>k=gx) (As.blk g7 164 [.int .u8 0,AA 0]::_) w34:=M
    exact fop M 11 0 X X X E2 X (·.drop 2) λw35 M=>oc 12 13 X X (M.drop 2) (fdn (kr7 g7 g56 _ _ M ⟨X,X,X,X,trivial⟩))
   refine E0 (some 7) X kw X X (λρ hρ=>BN 164 X _ [.int .u8 0,AA 0] C3 X) ?_;rintro _ w36 ⟨g7,rfl,hg7,hq7,hb7,hfw36⟩;refine ⟨λ_=>(M.drop 1).step hfw36,?_⟩;have M:=M.push hfw36 _ hb7 (CU hg7 hq7)
   replace M:Mem w (λk=>k=gx) (As.blk g7 164 [.int .u8 0,AA 0]::_) w36:=M
   exact DP 6 gkr X kw X X (EM X X X Ca Aa C3 (M.mp 1 X) (FZ _) (JD _)) (M.drop 2) (oc 7 13 X X (M.drop 2) (oc 8 13 X X (M.drop 2) (oc 9 13 X X (M.drop 2) (fop M 11 0 X X X E2 X (·.drop 2) λw37 M=>oc 12 13 X X (M.drop 2) (fdn (kr7 g7 g56 _ _ M ⟨X,X,X,X,trivial⟩))))))
  refine E0 (some 7) X kw X X (λρ hρ=>BN 164 X _ [.int .u8 0,AA 0] C3 X) ?_;rintro _ w38 ⟨g7,rfl,hg7,hq7,hb7,hfw38⟩;refine ⟨λ_=>M.step hfw38,?_⟩;have M:=M.push hfw38 _ hb7 (CU hg7 hq7)
  replace M:Mem w (λk=>k=gx) (As.blk g7 164 [.int .u8 0,AA 0]::_) w38:=M
  refine BC 0 (some 56) gkr X kw X X (AD X X call90) (KD _) ?_;rintro _ w39 ⟨g56,rfl,hMw39,hgw39,hfw39⟩;refine ⟨_,X,λ_=>(M.drop 1).step hfw39,?_⟩;have M:=M.push hfw39 (As.mp g56 EU) hMw39 (OI hgw39 hMw39.lt);exact DP 6 gkr X kw X X (EM X X X Ca Aa C3 (M.mp 0 X) (FZ _) (JD _)) (M.drop 2) (oc 7 13 X X (M.drop 2) (oc 8 13 X X (M.drop 2) (oc 9 13 X X (M.drop 2) (fop M 11 1 X X X E2 X (·.drop 2) λw40 M=>oc 12 13 X X (M.drop 2) (fdn (kr7 g7 g56 _ _ (M.pk [1,0,2]) ⟨X,X,X,X,trivial⟩))))))
 refine A1 (d:=42) X (λh42=>?_) (λh42=>?_)
 ·refine T6 ?_;exact k42 M
 refine T6 ?_;exact k42 M
end
section
def Xn.AtL (t:Ly) (w:Kw):Xn→Ky→List Nat→Prop
 | .un _ a,A,F=>∃g B F',A=some ⟨g,0,none⟩∧F=g::F'∧Blk w g t (a.cells B)∧Xn.AtL t w a B F'
 | .bin _ a b,A,F=>∃g B C F' F'',A=some ⟨g,0,none⟩∧F=g::(F'++F'')∧Blk w g t (a.cells B++b.cells C)∧Xn.AtL t w a B F'∧Xn.AtL t w b C F''
 | _,A,F=>A=none∧F=[]
theorem Xn.AtL.keep {t:Ly} {w w':Kw}:∀{n:Xn} {A:Ky} {F:List Nat},(∀g∈F,g<w.heap.size→w'.heap[g]?=w.heap[g]?)→n.AtL t w A F→n.AtL t w' A F
 | .zero,_,_,_,h=>h
 | .lit _,_,_,_,h=>h
 | .var _,_,_,_,h=>h
 | .un _ _,_,_,hk,⟨g,B,F',h1,h2,h3,h4⟩=>by
  subst h2;exact ⟨g,B,F',h1,X,(hk g (by simp) h3.lt).trans h3,h4.keep (λk hk'=>hk k (by simp [hk']))⟩
 | .bin _ _ _,_,_,hk,⟨g,B,C,F',F'',h1,h2,h3,h4,h5⟩=>by
  subst h2;exact ⟨g,B,C,F',F'',h1,X,(hk g (by simp) h3.lt).trans h3,h4.keep (λk hk'=>hk k (by simp [hk'])),h5.keep (λk hk'=>hk k (by simp [hk']))⟩
theorem Xn.AtL.leaf {t:Ly} {w:Kw} {n:Xn} (h:n.leaf=true):n.AtL t w none []:=by
 cases n<;>first|exact ⟨rfl,rfl⟩|cases h
def As.xn (t:Ly) (n:Xn) (A:Ky) (F:List Nat):As:=⟨F,λw=>n.AtL t w A F,λh hb=>hb.keep h⟩
section
variable {w0 w w':Kw} {S:Nat→Prop} {L:List As}
theorem Mem.putPush (M:Mem w0 S L w) (i:Nat) {g ty:Nat} {cs cs':Kx} (hi:L[i]?=some (As.blk g ty cs)) (hb:Blk w' g ty cs') (hf:Fr (λk=>k=g) w w') (a:As) (hok:a.ok w') (hfp:∀k∈a.fp,w.heap.size≤k∧k<w'.heap.size):Mem w0 S (a::L.set i (As.blk g ty cs')) w':=by
 have M':=M.putB i hi hb hf
 have old:∀(j:Nat) (b:As),(L.set i (As.blk g ty cs'))[j]?=some b→∀k∈b.fp,k<w.heap.size:=by
  intro j b hj k hk
  by_cases hji:j=i
  ·subst hji;rw [Dk (Aj.1 hi).1] at hj
   obtain rfl:=Bs hj;exact (M.lt j _ hi k (by simpa [As.blk] using hk)).1
  rw [Du (Ej hji)] at hj
  exact (M.lt j b hj k hk).1
 refine ⟨M'.fr,?_,?_,?_⟩
 ·intro j b hj
  cases j with
  | zero=>simp only [Ai,Ad] at hj;subst hj;exact hok
  | succ j=>exact M'.ok j b (by simpa using hj)
 ·intro j b hj k hk
  cases j with
  | zero=>
   simp only [Ai,Ad] at hj;subst hj
   obtain ⟨h1,h2⟩:=hfp k hk;exact ⟨h2,.inl (Bb M.fr.size h1)⟩
  | succ j=>exact M'.lt j b (by simpa using hj) k hk
 intro j l b c hj hl hne k hk hk'
 cases j with
 | zero=>
  cases l with
  | zero=>exact hne rfl
  | succ l=>
   simp only [Ai,Ad] at hj;subst hj
   have h1:=(hfp k hk).1;have h2:=old l c (by simpa using hl) k hk';omega
 | succ j=>
  cases l with
  | zero=>
   simp only [Ai,Ad] at hl;subst hl
   have h1:=(hfp k hk').1;have h2:=old j b (by simpa using hj) k hk;omega
  | succ l=>exact M'.apart j l b c (by simpa using hj) (by simpa using hl) A0 k hk hk'
theorem Mem.newOf {gx ty:Nat} {cs:Kx} (M:Mem w0 (λk=>k=gx) L w) (i j:Nat) {a:As} (hi:L[i]?=some a) (hj:L[j]?=some (As.blk gx ty cs)) (hne:i≠j):∀g∈a.fp,w0.heap.size≤g∧g<w.heap.size:=λg hg=>by
 obtain ⟨h1,h2⟩:=M.lt i a hi g hg;refine ⟨?_,h1⟩;rcases h2 with h2|h2
 ·exact h2
 exact absurd (by rw [h2];simp [As.blk]:g∈(As.blk gx ty cs).fp) (M.apart i j a _ hi hj hne g hg)
theorem Mem.new0 (M:Mem w0 AR L w) (i:Nat) {a:As} (hi:L[i]?=some a):∀g∈a.fp,w0.heap.size≤g∧g<w.heap.size:=λg hg=>by
 obtain ⟨h1,h2⟩:=M.lt i a hi g hg;exact ⟨h2.elim id (λhh=>hh.elim),h1⟩
theorem Mem.un {t:Ly} {gx ty g:Nat} {cs:Kx} {op:UInt8} {a:Xn} {B:Ky} {F:List Nat} (M:Mem w0 (λk=>k=gx) (As.blk g t (a.cells B)::As.xn t a B F::As.blk gx ty cs::L) w):(Xn.un op a).AtL t w (some ⟨g,0,none⟩) (g::F)∧∀k∈g::F,w0.heap.size≤k∧k<w.heap.size:=by
 refine ⟨⟨g,B,F,X,X,M.blk 0 X,M.ok 1 _ X⟩,λk hk=>?_⟩;rcases Ak.1 hk with rfl|hk
 ·exact M.newOf 0 2 X X AV k (by simp [As.blk])
 exact M.newOf 1 2 X X AV k hk
end
section
variable (s:Kz) (fr:Nat→Lx→Xn × Lx)
def LS (op:UInt8) (line:Nat) (x:Lx):Xn × Lx:=(.un op (fr line (BI s x)).1,(fr line (BI s x)).2)
def PY (x:Lx):Xn × Lx:=(x.nd,BI s (if (x.nd.op.toNat:Int)=0 then x.fail 4 x.tat else x))
def GZ (x:Lx):Xn × Lx:=
 ((fr 1 (BI s x)).1,BI s (if ¬(fr 1 (BI s x)).2.say=[41] then (fr 1 (BI s x)).2.fail 4 (fr 1 (BI s x)).2.tat else (fr 1 (BI s x)).2))
def BX (line:Nat) (x:Lx):Xn × Lx:=
 if x.say=[110,111,116]∧line≤3 then LS s fr 3 3 x
 else if x.say=[45] then LS s fr 4 7 x
 else if x.say=[40] then GZ s fr x
 else PY s x
def FL (k:Kz):Nat:=((AU k).getD (0,0)).2
def KA (x:Lx):Xn × Lx:=
 let r:=fr (FL x.say+1) (BI s x)
 (r.1,if FL x.say=4∧FL r.2.say=4 then r.2.fail 4 r.2.tat else r.2)
def ED : Nat→Nat→Xn→Lx→Xn × Lx
 | 0,_,n,x=>(n,x)
 | k+1,line,n,x=>
  if ¬x.e=0 then (n,x) else
  if (AU x.say).isNone=true∨FL x.say<line then (n,x) else
  ED k line (.bin ((AU x.say).getD (0,0)).1 n (KA s fr x).1) (KA s fr x).2
end
def D3 (s:Kz):Nat→Nat→Lx→Xn × Lx
 | 0,_,x=>(.zero,x)
 | f+1,line,x=>if ¬x.e=0 then (.zero,x) else
  ED s (D3 s f) f line (BX s (D3 s f) line x).1 (BX s (D3 s f) line x).2
def CR (s:Kz):Xn × Nat × Int:=
 if 256<s.length then (.zero,0,3) else
 let r:=D3 s 258 1 (BI s lx0)
 let y:=if r.2.fin=false then r.2.fail 4 r.2.tat else r.2
 if y.e=0 then (r.1,0,0) else (.zero,y.wh,y.e)
structure LxI (s:Kz) (x:Lx):Prop where
 at_:x.at_≤s.length
 tat:x.tat≤x.at_
 adv:¬x.say=[]→x.tat<x.at_
 leaf:x.nd.leaf=true
def lxM (s:Kz) (x:Lx):Nat:=if x.e=0 then s.length+1-x.tat else 0
theorem FK (x:Lx) (e:Int) (p:Nat):(x.fail e p).tat=x.tat:=by unfold Lx.fail;split<;>rfl
theorem FB (x:Lx) (e:Int) (p:Nat):(x.fail e p).nd=x.nd:=by unfold Lx.fail;split<;>rfl
theorem KJ (x:Lx) (e:Int) (p:Nat):(x.fail e p).say=x.say:=by unfold Lx.fail;split<;>rfl
theorem E9 {x:Lx} {e:Int} {p:Nat} (h:¬e=0):¬(x.fail e p).e=0:=by unfold Lx.fail;split<;>simp_all
theorem LxI.fail {s:Kz} {x:Lx} (h:LxI s x) (e:Int) (p:Nat):LxI s (x.fail e p):=⟨by rw [HO];exact h.at_,by rw [HO,FK];exact h.tat,by rw [HO,FK,KJ];exact h.adv,by rw [FB];exact h.leaf⟩
theorem RU {s:Kz} {x:Lx} {e:Int} {p:Nat} (h:¬e=0):lxM s (x.fail e p)=0:=by unfold lxM;rw [if_neg (E9 h)]
theorem sR (t:Kz) (x:Lx):(JH t x).tat=x.tat∧(JH t x).say=x.say∧(x.nd.leaf=true→(JH t x).nd.leaf=true):=by
 unfold JH
 split
 ·exact ⟨FK _ _ _,KJ _ _ _,λh=>by rw [FB];exact h⟩
 split
 ·exact ⟨X,X,λ_=>X⟩
 exact ⟨FK _ _ _,KJ _ _ _,λ_=>X⟩
theorem mA (t:Kz) (x:Lx):(G2 t x).tat=x.tat∧(x.nd.leaf=true→(G2 t x).nd.leaf=true):=by
 unfold G2
 repeat' split
 all_goals first
  | exact ⟨rfl,λ_=>rfl⟩
  | exact ⟨rfl,λh=>h⟩
  | exact ⟨FK _ _ _,λh=>by rw [FB];exact h⟩
theorem mN (l:Kz) (x:Lx):(JN l x).tat=x.tat∧(JN l x).say=x.say∧(x.nd.leaf=true→(JN l x).nd.leaf=true)∧x.at_≤(JN l x).at_∧(JN l x).at_≤x.at_+l.length:=by
 unfold JN
 split
 ·split
  ·exact ⟨X,X,λ_=>X,Cu _ _,by simp only;omega⟩
  exact ⟨FK _ _ _,KJ _ _ _,λh=>by rw [FB];exact h,by rw [HO];exact Ab _,by rw [HO];omega⟩
 exact ⟨FK _ _ _,KJ _ _ _,λh=>by rw [FB];exact h,by rw [HO];exact Ab _,by rw [HO];omega⟩
theorem nX {b:UInt8} (h:D8 b=true):b.toNat<128:=by
 have h1:=odt (EE h).2;have h2:b.toNat≤(b ||| 32).toNat:=by rw [Ib];exact Nat.left_le_or
 omega
theorem nY {b:UInt8} (h:D8 b=true):BE b=true:=by unfold BE;rw [h];rfl
theorem lJ {s r:Kz} {x:Lx} (hr:r.length≤s.length):LxI s (KH s r x)∧(KH s r x).tat=s.length-r.length:=by
 by_cases h0:r=[]∨¬x.e=0
 ·rw [P6 h0];exact ⟨⟨Nat.sub_le _ _,Ab _,λh=>absurd X h,X⟩,X⟩
 have h:¬r=[]∧x.e=0:=⟨λz=>h0 (.inl z),Fa λz=>h0 (.inr z)⟩;have hn:0<r.length:=Fe.2 h.1;obtain ⟨b,hb⟩:=EP (l:=r) (i:=0) hn
 by_cases h1:BL b=true
 ·rw [SW h hb h1];have hsp:=RF BL r;obtain ⟨e1,e2,e3⟩:=sR (r.take (spanP BL r)) ⟨s.length-r.length,.zero,[],s.length-r.length,false,x.e,x.wh⟩;have e4:=RS (r.take (spanP BL r)) ⟨s.length-r.length,.zero,[],s.length-r.length,false,x.e,x.wh⟩
  simp only at e1 e2 e4
  refine ⟨⟨?_,?_,?_,e3 X⟩,e1⟩
  ·simp only [e4];omega
  ·simp only [e4,e1];omega
  simp only [e2];exact λh=>absurd trivial h
 have h1:=Cg.2 h1
 by_cases h2:D8 b=true
 ·rw [QF h hb h1 h2];have hsp:=RF BE r;have hpo:=YZ (is:=BE) hb (nX h2) (nY h2);obtain ⟨e1,e3⟩:=mA (r.take (spanP BE r)) ⟨s.length-r.length,.zero,[],s.length-r.length,false,x.e,x.wh⟩;have e4:=O9 (r.take (spanP BE r)) ⟨s.length-r.length,.zero,[],s.length-r.length,false,x.e,x.wh⟩
  simp only at e1 e4
  refine ⟨⟨?_,?_,?_,e3 X⟩,e1⟩
  ·simp only [e4];omega
  ·simp only [e4,e1];omega
  simp only [e4,e1];omega
 have h2:=Cg.2 h2
 by_cases h3:(b.toNat:Int)=39
 ·rw [QG h hb h1 h2 h3];obtain ⟨e1,e2,e3,e4,e5⟩:=mN r ⟨s.length-r.length,.zero,[],s.length-r.length,false,x.e,x.wh⟩
  simp only at e1 e2 e4 e5
  refine ⟨⟨by omega,by omega,?_,e3 rfl⟩,e1⟩;rw [e2];exact λh=>absurd rfl h
 have hsg:=kW h.1;have hs1:0<sgnN r:=by unfold sgnN;split<;>omega
 by_cases h4:(((!(AU (r.take (sgnN r))).isSome)&&(!decide ((r.take (sgnN r))=[40])))&&(!decide ((r.take (sgnN r))=[41])))=true
 ·rw [SX h hb h1 h2 h3 h4];refine ⟨⟨?_,?_,?_,?_⟩,?_⟩
  ·simp only [HO];omega
  ·simp only [HO,FK];omega
  ·simp only [HO,FK];omega
  ·simp only [FB];rfl
  simp only [FK]
 rw [QH h hb h1 h2 h3 (Cg.2 h4)];exact ⟨⟨by simp only;omega,by simp only;omega,λ_=>by simp only;omega,rfl⟩,X⟩
theorem DU {s:Kz} {x:Lx}:LxI s (BI s x):=(lJ (HW _ _)).1
theorem nR {s:Kz} {x:Lx} (h:x.at_≤s.length):x.at_≤(BI s x).tat:=by
 have h1:(BI s x).tat=_:=(lJ (HW s x.at_)).2;have h2:(GP (s.drop x.at_)).length≤s.length-x.at_:=Bb (K8 _ _) (by rw [Bz];exact Ab _);have h3:=HW s x.at_;omega
theorem eW {s:Kz} {x:Lx} (h:LxI s x):lxM s (BI s x)≤s.length+1-x.at_:=by
 have:=nR h.at_
 unfold lxM
 split<;>omega
theorem HL {s:Kz} {x:Lx} (h:LxI s x) (he:x.e=0) (hs:¬x.say=[]):lxM s (BI s x)<lxM s x:=by
 have h1:=eW h;have h2:=h.adv hs;have h3:=h.at_;have h4:lxM s x=s.length+1-x.tat:=by unfold lxM;rw [if_pos he]
 omega
theorem a1C {s:Kz} {x:Lx} (h:LxI s x) (he:x.e=0):lxM s (BI s x)≤lxM s x:=by
 have h1:=eW h;have h2:=h.tat;have h4:lxM s x=s.length+1-x.tat:=by unfold lxM;rw [if_pos he]
 omega
theorem P7 {s:Kz} {x:Lx} (h:¬x.e=0):¬(BI s x).e=0:=by
 unfold BI;rw [P6 (.inr h)];exact h
theorem P8 {s:Kz} {x:Lx} (h:LxI s x):lxM s (BI s x)≤lxM s x:=by
 by_cases he:x.e=0
 ·exact a1C h he
 unfold lxM;rw [if_neg he,if_neg (P7 he)];exact Ab _
structure FrI (s:Kz) (f:Nat) (fr:Nat→Lx→Xn × Lx):Prop where
 I:∀(line:Nat) (x:Lx),LxI s x→lxM s x≤f→LxI s (fr line x).2
 m:∀(line:Nat) (x:Lx),LxI s x→lxM s x≤f→lxM s (fr line x).2≤lxM s x
section
variable {s:Kz} {f:Nat} {fr:Nat→Lx→Xn × Lx}
theorem VD (h:FrI s f fr) {x:Lx} (hx:LxI s x) (he:x.e=0) (hs:¬x.say=[]) (hm:lxM s x≤f+1) (op:UInt8) (line:Nat):LxI s (LS s fr op line x).2∧lxM s (LS s fr op line x).2≤lxM s x:=by
 have h1:=HL hx he hs;exact ⟨h.I _ _ DU A0,Bb (h.m _ _ DU A0) A0⟩
theorem vP {x:Lx} (hx:LxI s x):LxI s (PY s x).2∧lxM s (PY s x).2≤lxM s x:=by
 refine ⟨DU,?_⟩;unfold PY
 split
 ·exact Bb (P8 (hx.fail 4 x.tat)) (by rw [RU AV];exact Ae _)
 exact P8 hx
theorem XZ (h:FrI s f fr) {x:Lx} (hx:LxI s x) (he:x.e=0) (hs:¬x.say=[]) (hm:lxM s x≤f+1):LxI s (GZ s fr x).2∧lxM s (GZ s fr x).2≤lxM s x:=by
 have h1:=HL hx he hs;have h2:=h.I 1 _ (DU (s:=s) (x:=x)) A0;have h3:=h.m 1 _ (DU (s:=s) (x:=x)) A0;refine ⟨DU,?_⟩;unfold GZ
 simp only
 split
 ·exact Bb (P8 (h2.fail 4 _)) (by rw [RU AV];exact Ae _)
 exact Bb (P8 h2) A0
theorem K7 (h:FrI s f fr) {x:Lx} (hx:LxI s x) (he:x.e=0) (hm:lxM s x≤f+1) (line:Nat):LxI s (BX s fr line x).2∧lxM s (BX s fr line x).2≤lxM s x:=by
 unfold BX
 split
 ·rename_i h1;exact VD h hx he (by rw [h1.1];decide) hm _ _
 split
 ·rename_i h1;exact VD h hx he (by rw [h1];decide) hm _ _
 split
 ·rename_i h1;exact XZ h hx he (by rw [h1];decide) hm
 exact vP hx
theorem KE {x:Lx} (h:¬(AU x.say).isNone=true):¬x.say=[]:=λe=>h (by rw [e];rfl)
theorem W5 (h:FrI s f fr) {x:Lx} (hx:LxI s x) (he:x.e=0) (hs:¬x.say=[]) (hm:lxM s x≤f+1):LxI s (KA s fr x).2∧lxM s (KA s fr x).2<lxM s x:=by
 have h1:=HL hx he hs;have h2:=h.I (FL x.say+1) _ (DU (s:=s) (x:=x)) A0;have h3:=h.m (FL x.say+1) _ (DU (s:=s) (x:=x)) A0;unfold KA
 simp only
 split
 ·exact ⟨h2.fail _ _,by rw [RU AV];omega⟩
 exact ⟨h2,by omega⟩
theorem QI (h:FrI s f fr) (line:Nat):∀(k:Nat) (n:Xn) (x:Lx),LxI s x→lxM s x≤f+1→LxI s (ED s fr k line n x).2∧lxM s (ED s fr k line n x).2≤lxM s x
 | 0,_,_,hx,_=>⟨hx,Ab _⟩
 | k+1,n,x,hx,hm=>by
  unfold ED
  split
  ·exact ⟨hx,Ab _⟩
  rename_i he
  split
  ·exact ⟨hx,Ab _⟩
  rename_i hs
  have he:x.e=0:=Fa he;obtain ⟨h1,h2⟩:=W5 h hx he (KE λz=>hs (.inl z)) hm;obtain ⟨h3,h4⟩:=QI h line k (.bin ((AU x.say).getD (0,0)).1 n (KA s fr x).1) _ h1 A0;exact ⟨h3,by omega⟩
end
theorem XE (s:Kz):∀f:Nat,FrI s f (D3 s (f+1))
 | 0=>by
  have key:∀(line:Nat) (x:Lx),LxI s x→lxM s x≤0→(D3 s 1 line x).2=x:=λline x hx hm=>by
   have he:¬x.e=0:=λhe=>by
    unfold lxM at hm
    rw [if_pos he] at hm
    have:=hx.at_;have:=hx.tat
    omega
   unfold D3;rw [if_pos he]
  exact ⟨λl x hx hm=>by rw [key l x hx hm];exact hx,λl x hx hm=>by rw [key l x hx hm];exact Ab _⟩
 | f+1=>by
  have ih:=XE s f
  have key:∀(line:Nat) (x:Lx),LxI s x→lxM s x≤f+1→LxI s (D3 s (f+1+1) line x).2∧lxM s (D3 s (f+1+1) line x).2≤lxM s x:=λline x hx hm=>by
   unfold D3
   split
   ·exact ⟨hx,Ab _⟩
   rename_i he
   have he:x.e=0:=Fa he;obtain ⟨h1,h2⟩:=K7 ih hx he hm line;obtain ⟨h3,h4⟩:=QI ih line (f+1) (BX s (D3 s (f+1)) line x).1 _ h1 A0;exact ⟨h3,by omega⟩
  exact ⟨λl x hx hm=>(key l x hx hm).1,λl x hx hm=>(key l x hx hm).2⟩
theorem lE (k:Kz):FL k≤6:=by
 have:∀(l:List (Kz × (UInt8 × Nat))),(∀q∈l,q.2.2≤6)→((SN l k).getD (0,0)).2≤6:=by
  intro l
  induction l with
  | nil=>intro _;exact Ae _
  | cons a l ih=>
   intro h;obtain ⟨a1,a2⟩:=a;unfold SN
   split
   ·exact h (a1,a2) (by simp)
   exact ih λq hq=>h q (by simp [hq])
 exact this signTab AV
end
def ZZ (s:Kz) (gx:Nat) (w:Kw) (r:Xn × Lx):Ending→Kw→Prop:=λe w'=>∃A F,e=.returned (.agg (r.1.cells A).toArray)∧r.1.AtL 113 w' A F∧(∀k∈F,w.heap.size≤k∧k<w'.heap.size)∧Blk w' gx 158 (Lx.cells s r.2)∧Fr (λk=>k=gx) w w'
structure PE (s:Kz) (w:Kw) (gx c5 c6 c7 c8 c9 c10:Nat):Prop where
 b5:Blk w c5 154 [.pointer (some ⟨gx,0,none⟩)]
 b6:Blk w c6 159 [.func (.func 89) #[] #[.pointer (some ⟨c5,0,none⟩),.pointer (some ⟨c10,0,none⟩),.pointer (some ⟨c6,0,none⟩)]]
 b7:Blk w c7 160 [.func (.func 84) #[] #[.pointer (some ⟨c5,0,none⟩),.pointer (some ⟨c6,0,none⟩)]]
 b8:Blk w c8 162 [.func (.func 85) #[] #[.pointer (some ⟨c5,0,none⟩)]]
 b9:Blk w c9 162 [.func (.func 87) #[] #[.pointer (some ⟨c5,0,none⟩),.pointer (some ⟨c6,0,none⟩)]]
 b10:Blk w c10 159 [.func (.func 88) #[] #[.pointer (some ⟨c5,0,none⟩),.pointer (some ⟨c7,0,none⟩),.pointer (some ⟨c9,0,none⟩),.pointer (some ⟨c8,0,none⟩)]]
 n:¬c5=gx∧¬c6=gx∧¬c7=gx∧¬c8=gx∧¬c9=gx∧¬c10=gx
 g:nGlob≤gx
 len:s.length≤256
theorem PE.fr {s:Kz} {w w':Kw} {gx c5 c6 c7 c8 c9 c10:Nat} (h:PE s w gx c5 c6 c7 c8 c9 c10) (hf:Fr (λk=>k=gx) w w'):PE s w' gx c5 c6 c7 c8 c9 c10:=
 ⟨h.b5.fr hf h.n.1,h.b6.fr hf h.n.2.1,h.b7.fr hf h.n.2.2.1,h.b8.fr hf h.n.2.2.2.1,h.b9.fr hf h.n.2.2.2.2.1,h.b10.fr hf h.n.2.2.2.2.2,h.n,h.g,h.len⟩
structure FromOK (s:Kz) (gx c5 c6 c7 c8 c9 c10:Nat) (f:Nat) (fr:Nat→Lx→Xn × Lx):Prop where
 I:FrI s f fr
 call:∀(line:Nat) (x:Lx) (w:Kw),line≤7→Blk w gx 158 (Lx.cells s x)→LxI s x→lxM s x≤f→PE s w gx c5 c6 c7 c8 c9 c10→Lay0 w →
  Calls prog 89 #[.int .i64 (line:Int),.pointer (some ⟨c5,0,none⟩),.pointer (some ⟨c10,0,none⟩),.pointer (some ⟨c6,0,none⟩)] w (ZZ s gx w (fr line x))
theorem N0 (a0:Int) (A3:Ky) (n3 c3:Nat):prog.built 113 [(0,.int .u8 a0),(3,.slice A3 n3 c3)]=some #[.int .u8 a0,.int .u8 0,AA 0,.bool false,str [],str [],.slice A3 n3 c3]:=by kernel_rfl
theorem PU : (prog.info? 113).map (λi=>(i.zero,i.size))=some (some (.agg #[.int .u8 0,.int .u8 0,AA 0,.bool false,str [],str [],.slice none 0 0]),7):=by kernel_rfl
theorem DK : (prog.info? 113).map (·.zero)=some (some (.agg #[.int .u8 0,.int .u8 0,AA 0,.bool false,str [],str [],.slice none 0 0])):=by kernel_rfl
theorem Z9 {s:Kz} {gx c5 c6 c7 c8 c9 c10:Nat} {f:Nat} {fr:Nat→Lx→Xn × Lx} (hF:FromOK s gx c5 c6 c7 c8 c9 c10 f fr) (op:UInt8) (line:Nat) (hl:line≤7) (x:Lx) (w:Kw) (hb:Blk w gx 158 (Lx.cells s x)) (hx:LxI s x) (he:x.e=0) (hs:¬x.say=[]) (hm:lxM s x≤f+1) (hE:PE s w gx c5 c6 c7 c8 c9 c10) (hY:Lay0 w) :
 Calls prog 84 #[.int .u8 (op.toNat:Int),AA (line:Int),pg c5,pg c6] w (ZZ s gx w (LS s fr op line x)):=by
 have hGx:∀k,k=gx→nGlob≤k:=λ_ e=>e▸hE.g
 have hst:=HL hx he hs;refine sx_enter (vs:=[_,_,_,_]) func84 X ntmps84 X ?_;have M:Mem w (λk=>k=gx) [As.blk gx 158 (Lx.cells s x)] w:=Mem.one hb;refine W ?_;refine CI M X DK λg6 w1 hg6 M=>T4 ?_
 refine yl X X (Blk.c ((hE.fr M.fr).b5) 0 X) (GL M 1 8 X X (AD X X call83) (IY s x _ _ (M.blk 1 X) hx.at_ hE.len (hY.fr M.fr hGx) hE.g) λw2 M=>T5 ?_);refine yl X X (Blk.c ((hE.fr M.fr).b6) 0 X) (yb X (cl 12 X (C5 X X X call89) (hF.call line (BI s x) _ A0 (M.blk 1 X) DU A0 (hE.fr M.fr) (hY.fr M.fr hGx)) ?_));rintro _ w3 ⟨A12,F12,rfl,hat12,hnw12,hbw3,hfw3⟩;have M:=M.putPush 1 X hbw3 hfw3 (As.xn 113 (fr line (BI s x)).1 A12 F12) hat12 hnw12;have hI12:=hF.I.I line (BI s x) DU A0;refine cq ?_;have hm12:=hF.I.m line (BI s x) DU A0;refine CV M kw X X [.agg (Xn.cells ((fr line (BI s x)).1) A12).toArray] (Xn.cells ((fr line (BI s x)).1) A12) X X X X underlying111 PU X X (GT X) X λg13 w4 hg13 M=>ya X (B7 (parts:=[(0,_),(3,_)]) X X (N0 _ _ _ _)) (BY M 2 X X AT X λw5 M=>W ?_)
 refine CT X X (M.rdBlk 2 X X) Bk X AT ?_;obtain ⟨ha,hn⟩:=Mem.un (op:=op) (M.pk [0,1,3]);exact ⟨_,_,X,ha,hn,M.blk 3 X,M.fr⟩
theorem sJ {s:Kz} {gx c5 c6 c7 c8 c9 c10:Nat}  (x:Lx) (w:Kw) (hb:Blk w gx 158 (Lx.cells s x)) (hx:LxI s x) (hE:PE s w gx c5 c6 c7 c8 c9 c10) (hY:Lay0 w) :
 Calls prog 85 #[pg c5] w (ZZ s gx w (PY s x)):=by
 have hGx:∀k,k=gx→nGlob≤k:=λ_ e=>e▸hE.g
 have hc:x.nd.cells none=[.int .u8 (x.nd.op.toNat:Int),.int .u8 (x.nd.vl.kind.toNat:Int),AA x.nd.vl.int,.bool x.nd.vl.bool,str x.nd.vl.text,str x.nd.nm,.slice none 0 0]:=by unfold Xn.cells;rw [Xn.nk_leaf hx.leaf]
 refine sx_enter (vs:=[_]) func85 X ntmps85 X ?_;have M:Mem w (λk=>k=gx) [As.blk gx 158 (Lx.cells s x)] w:=Mem.one hb;refine W ?_;refine CI M X DK λg1 w1 hg1 M=>T4 ?_
 refine yl X X (Blk.c ((hE.fr M.fr).b5) 0 X) (W ?_);refine ya X (AI (xs:=[.int .u8 (x.nd.op.toNat:Int),.int .u8 (x.nd.vl.kind.toNat:Int),AA x.nd.vl.int,.bool x.nd.vl.bool,str x.nd.vl.text,str x.nd.nm,.slice none 0 0]) X X (DR (M.blk 1 X) 2 7 X X) Bk X AT) (CI M X DK λg2 w2 hg2 M=>BY M 0 X X AT X λw3 M=>W ?_);refine AB X (λh10=>?_) (λh10=>?_)
 ·have h10p:=odt h10;refine EB 6 CA gkr ?_;have M:=M.drew;refine sd X X (Blk.c ((hE.fr M.fr).b5) 0 X) (sd X X (Blk.c ((hE.fr M.fr).b5) 0 X) (W ?_));refine GL M 2 17 X X (AD X X call86) (GE s x _ _ _ _ (M.blk 2 X)) λw4 M=>T4 ?_
  refine yl X X (Blk.c ((hE.fr M.fr).b5) 0 X) (GL M 2 19 X X (AD X X call83) (IY s (x.fail 4 x.tat) _ _ (M.blk 2 X) (hx.fail _ _).at_ hE.len (hY.fr M.fr hGx) hE.g) λw5 M=>W ?_);refine CH M 0 X X Bk AT X (BY M 1 X X AT X λw6 M=>W ?_);exact CT X X (M.rdBlk 1 X X) Bk X AT ⟨none,[],Ay (λz=>Ending.returned (.agg z)) (Ay List.toArray hc.symm),Xn.AtL.leaf hx.leaf,(λk hk=>absurd hk (by simp)),by rw [PY,if_pos h10p];exact M.blk 2 rfl,M.fr⟩
 have h10p:=odf h10;refine T4 ?_;refine yl X X (Blk.c ((hE.fr M.fr).b5) 0 X) (GL M 2 19 X X (AD X X call83) (IY s x _ _ (M.blk 2 X) hx.at_ hE.len (hY.fr M.fr hGx) hE.g) λw7 M=>W ?_);refine CH M 0 X X Bk AT X (BY M 1 X X AT X λw8 M=>W ?_);exact CT X X (M.rdBlk 1 X X) Bk X AT ⟨none,[],Ay (λz=>Ending.returned (.agg z)) (Ay List.toArray hc.symm),Xn.AtL.leaf hx.leaf,(λk hk=>absurd hk (by simp)),by rw [PY,if_neg h10p];exact M.blk 2 rfl,M.fr⟩
theorem bB {s:Kz} {gx c5 c6 c7 c8 c9 c10:Nat} {f:Nat} {fr:Nat→Lx→Xn × Lx} (hF:FromOK s gx c5 c6 c7 c8 c9 c10 f fr)  (x:Lx) (w:Kw) (hb:Blk w gx 158 (Lx.cells s x)) (hx:LxI s x) (he:x.e=0) (hs:¬x.say=[]) (hm:lxM s x≤f+1) (hE:PE s w gx c5 c6 c7 c8 c9 c10) (hY:Lay0 w) :
 Calls prog 87 #[pg c5,pg c6] w (ZZ s gx w (GZ s fr x)):=by
 have hGx:∀k,k=gx→nGlob≤k:=λ_ e=>e▸hE.g
 have hst:=HL hx he hs;refine sx_enter (vs:=[_,_]) func87 X ntmps87 X ?_;have M:Mem w (λk=>k=gx) [As.blk gx 158 (Lx.cells s x)] w:=Mem.one hb;refine W ?_;refine CI M X DK λg2 w1 hg2 M=>T4 ?_
 refine yl X X (Blk.c ((hE.fr M.fr).b5) 0 X) (GL M 1 5 X X (AD X X call83) (IY s x _ _ (M.blk 1 X) hx.at_ hE.len (hY.fr M.fr hGx) hE.g) λw2 M=>T4 ?_);refine yl X X (Blk.c ((hE.fr M.fr).b6) 0 X) (cl 7 X (C5 X X X call89) (hF.call 1 (BI s x) _ A0 (M.blk 1 X) DU A0 (hE.fr M.fr) (hY.fr M.fr hGx)) ?_);rintro _ w3 ⟨A7,F7,rfl,hat7,hnw7,hbw3,hfw3⟩;have M:=M.putPush 1 X hbw3 hfw3 (As.xn 113 (fr 1 (BI s x)).1 A7 F7) hat7 hnw7;have hI7:=hF.I.I 1 (BI s x) DU A0;refine cq ?_;have hm7:=hF.I.m 1 (BI s x) DU A0;refine CI M X DK λg3 w4 hg3 M=>BY M 0 X X AT X λw5 M=>T5 ?_
 refine yl X X (Blk.c ((hE.fr M.fr).b5) 0 X) (W ?_);refine AB X (λh13=>?_) (λh13=>?_)
 ·have h13p:=(odf (CJ h13));refine EB 6 CA gkr ?_;have M:=M.drew;refine sd X X (Blk.c ((hE.fr M.fr).b5) 0 X) (sd X X (Blk.c ((hE.fr M.fr).b5) 0 X) (W ?_));refine GL M 3 20 X X (AD X X call86) (GE s ((fr 1 (BI s x)).2) _ _ _ _ (M.blk 3 X)) λw6 M=>T4 ?_
  refine yl X X (Blk.c ((hE.fr M.fr).b5) 0 X) (GL M 3 22 X X (AD X X call83) (IY s (((fr 1 (BI s x)).2).fail 4 ((fr 1 (BI s x)).2.tat)) _ _ (M.blk 3 X) (hI7.fail _ _).at_ hE.len (hY.fr M.fr hGx) hE.g) λw7 M=>W ?_);refine CH M 0 X X Bk AT X (BY M 2 X X AT X λw8 M=>W ?_);exact CT X X (M.rdBlk 2 X X) Bk X AT ⟨_,_,X,M.ok 1 _ X,M.newOf 1 3 X X AV,by rw [GZ,if_pos h13p];exact M.blk 3 rfl,M.fr⟩
 have h13p:=(odt (BO h13));refine T4 ?_;refine yl X X (Blk.c ((hE.fr M.fr).b5) 0 X) (GL M 3 22 X X (AD X X call83) (IY s ((fr 1 (BI s x)).2) _ _ (M.blk 3 X) hI7.at_ hE.len (hY.fr M.fr hGx) hE.g) λw9 M=>W ?_);refine CH M 0 X X Bk AT X (BY M 2 X X AT X λw10 M=>W ?_);exact CT X X (M.rdBlk 2 X X) Bk X AT ⟨_,_,X,M.ok 1 _ X,M.newOf 1 3 X X AV,by rw [GZ,if_neg (λz=>z h13p)];exact M.blk 3 rfl,M.fr⟩
theorem nK {s:Kz} {gx c5 c6 c7 c8 c9 c10:Nat} {f:Nat} {fr:Nat→Lx→Xn × Lx} (hF:FromOK s gx c5 c6 c7 c8 c9 c10 f fr) (line:Nat) (hl:line≤7) (x:Lx) (w:Kw) (hb:Blk w gx 158 (Lx.cells s x)) (hx:LxI s x) (he:x.e=0) (hm:lxM s x≤f+1) (hE:PE s w gx c5 c6 c7 c8 c9 c10) (hY:Lay0 w) :
 Calls prog 88 #[AA (line:Int),pg c5,pg c7,pg c9,pg c8] w (ZZ s gx w (BX s fr line x)):=by
 have hGx:∀k,k=gx→nGlob≤k:=λ_ e=>e▸hE.g
 refine sx_enter (vs:=[_,_,_,_,_]) func88 X ntmps88 X ?_;have M:Mem w (λk=>k=gx) [As.blk gx 158 (Lx.cells s x)] w:=Mem.one hb;refine W ?_;refine CI M X DK λg6 w1 hg6 M=>T6 ?_
 refine yl X X (Blk.c ((hE.fr M.fr).b5) 0 X) (W ?_);refine fvm M 3 [6,4,3,2,1] [(17,.bool ((decide (x.say=[110,111,116]))&&(decide ((line:Int)≤3))))] ?_ (λk14=>?_)
 ·intro w2 M;refine W ?_;refine AB X (λh7=>?_) (λh7=>?_)
  ·have h7p:=bd h7;refine T2 ?_;refine yl X X (Blk.c ((hE.fr M.fr).b7) 0 X) (cl 19 X (C5 X X X call84) (Z9 hF 3 3 AV x _ (M.blk 1 X) hx he (by rw [h7p.1];decide) hm (hE.fr M.fr) (hY.fr M.fr hGx)) ?_);rintro _ w3 ⟨A19,F19,rfl,hat19,hnw19,hbw3,hfw3⟩;have M:=M.putPush 1 X hbw3 hfw3 (As.xn 113 (LS s fr 3 3 x).1 A19 F19) hat19 hnw19;have hI19:=(VD hF.I hx he (by rw [h7p.1];decide) hm 3 3).1;refine cq (BY M 1 X X AT X λw4 M=>W ?_);refine CT X X (M.rdBlk 1 X X) Bk X AT ?_;have hfp:BX s fr line x=LS s fr 3 3 x:=by unfold BX;exact if_pos ⟨h7p.1,by omega⟩
   rw [hfp];exact ⟨_,_,X,M.ok 0 _ X,M.newOf 0 2 X X AV,M.blk 2 X,M.fr⟩
  have h7p:=bd h7;have h7n:¬(x.say=[110,111,116]∧line≤3):=λz=>h7p.elim (λq=>q z.1) (λq=>q A0)
  refine T2 ?_;refine yl X X (Blk.c ((hE.fr M.fr).b5) 0 X) (W ?_);refine AB X (λh20=>?_) (λh20=>?_)
  ·have h20p:=odt h20;refine T2 ?_;refine yl X X (Blk.c ((hE.fr M.fr).b7) 0 X) (cl 28 X (C5 X X X call84) (Z9 hF 4 7 AV x _ (M.blk 1 X) hx he (by rw [h20p];decide) hm (hE.fr M.fr) (hY.fr M.fr hGx)) ?_);rintro _ w5 ⟨A28,F28,rfl,hat28,hnw28,hbw5,hfw5⟩;have M:=M.putPush 1 X hbw5 hfw5 (As.xn 113 (LS s fr 4 7 x).1 A28 F28) hat28 hnw28;have hI28:=(VD hF.I hx he (by rw [h20p];decide) hm 4 7).1;refine cq (BY M 1 X X AT X λw6 M=>W ?_);refine CT X X (M.rdBlk 1 X X) Bk X AT ?_;have hfp:BX s fr line x=LS s fr 4 7 x:=by unfold BX;rw [if_neg (λz=>h7n z),if_pos h20p]
   rw [hfp];exact ⟨_,_,X,M.ok 0 _ X,M.newOf 0 2 X X AV,M.blk 2 X,M.fr⟩
  have h20p:=odf h20;refine T2 ?_;refine yl X X (Blk.c ((hE.fr M.fr).b5) 0 X) (W ?_);refine AB X (λh29=>?_) (λh29=>?_)
  ·have h29p:=odt h29;refine T2 ?_;refine yl X X (Blk.c ((hE.fr M.fr).b9) 0 X) (cl 37 X (C5 X X X call87) (bB hF x _ (M.blk 1 X) hx he (by rw [h29p];decide) hm (hE.fr M.fr) (hY.fr M.fr hGx)) ?_);rintro _ w7 ⟨A37,F37,rfl,hat37,hnw37,hbw7,hfw7⟩;have M:=M.putPush 1 X hbw7 hfw7 (As.xn 113 (GZ s fr x).1 A37 F37) hat37 hnw37;have hI37:=(XZ hF.I hx he (by rw [h29p];decide) hm).1;refine cq (BY M 1 X X AT X λw8 M=>W ?_);refine CT X X (M.rdBlk 1 X X) Bk X AT ?_;have hfp:BX s fr line x=GZ s fr x:=by unfold BX;rw [if_neg (λz=>h7n z),if_neg h20p,if_pos h29p]
   rw [hfp];exact ⟨_,_,X,M.ok 0 _ X,M.newOf 0 2 X X AV,M.blk 2 X,M.fr⟩
  have h29p:=odf h29;refine T5 ?_;refine yl X X (Blk.c ((hE.fr M.fr).b8) 0 X) (cl 39 X (C5 X X X call85) (sJ x _ (M.blk 1 X) hx (hE.fr M.fr) (hY.fr M.fr hGx)) ?_);rintro _ w9 ⟨A39,F39,rfl,hat39,hnw39,hbw9,hfw9⟩;have M:=M.putPush 1 X hbw9 hfw9 (As.xn 113 (PY s x).1 A39 F39) hat39 hnw39;have hI39:=(vP hx).1;refine cq (BY M 1 X X AT X λw10 M=>W ?_);refine CT X X (M.rdBlk 1 X X) Bk X AT ?_;have hfp:BX s fr line x=PY s x:=by unfold BX;rw [if_neg (λz=>h7n z),if_neg h20p,if_neg h29p]
  rw [hfp];exact ⟨_,_,X,M.ok 0 _ X,M.newOf 0 2 X X AV,M.blk 2 X,M.fr⟩
 refine A1 (d:=14) X (λh14=>?_) (λh14=>?_)
 ·refine T3 ?_;exact k14 M
 refine T3 ?_;exact k14 M
end Go.Proofs.YtppmdnmjepkfaaaGreatDoor
