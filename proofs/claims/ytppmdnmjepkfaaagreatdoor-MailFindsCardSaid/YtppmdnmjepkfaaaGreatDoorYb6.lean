/- Lemmas. -/
import Derived.Test.YtppmdnmjepkfaaaGreatDoorYb5
import Derived.Shelf.Strings.BuilderF
import Derived.Shelf.Strings.Trim
import Derived.Shelf.Strings.FuncGrows
import Derived.Shelf.Strconv.ParseIntPublic10
set_option maxHeartbeats 16000000
set_option maxRecDepth 100000
namespace Go.Proofs.YtppmdnmjepkfaaaGreatDoor
open Go.RowKit
open Tryz
theorem VV : tabL.length=256:=by unfold tabL;simp
theorem qI : ∀u∈tabL,u.oneCell'=true:=by
 intro u hu;obtain ⟨n,_,rfl⟩:=Ch.1 hu
 rfl
theorem wQ {n:Nat} (h:n<256):tabL[n]?=some (.int .u8 (tabN n:Int)):=by unfold tabL;simp [h]
theorem kO (c:UInt8):tabN c.toNat=if CP c then 2 else if F4 c then 1 else 0:=by
 have h1:(((decide (65≤c.toNat)&&decide (c.toNat≤90)) || (decide (97≤c.toNat)&&decide (c.toNat≤122)))=CP c):=by
  unfold CP;rw [Bool.or_comm]
 unfold tabN;rw [h1]
 rfl
def zeroT : Kx:=List.replicate 256 (.int .u8 0)
theorem gY : (prog.info? 139).map (·.zero)=some (some (.agg zeroT.toArray)):=by kernel_rfl
theorem gZ : (prog.info? 139).map (·.size)=some 256:=by kernel_rfl
def HY (l:Kz):Bool:=l.all λc=>CP c || F4 c
theorem RT : ∀(i:Nat) (l:Kz),i≠0→G5 i l=HY l
 | _,[],_=>rfl
 | i,c::l,h=>by
  rw [G5,RT (i+1) l A0,show (i != 0)=true by simp [h],Io]
  rfl
theorem PT (c:UInt8) (l:Kz):G5 0 (c::l)=(CP c&&HY (c::l)):=by
 rw [G5,RT 1 l A0]
 show ((CP c || (F4 c&&(0 != 0)))&&HY l)=(CP c&&((CP c || F4 c)&&HY l))
 cases CP c<;>cases F4 c<;>simp
theorem YL : zeroT.length=256:=by unfold zeroT;rw [List.length_replicate]
theorem EN (l:Kz) (w:Kw) (hm:(l.length:Int)<4611686018427387904):Calls prog 37 #[str l] w (BS w (.bool (B6 l))):=by
 refine sx_enter (vs:=[_]) func37 X ntmps37 X ?_
 by_cases h0:l.length=0
 ·have hno:B6 l=false:=by unfold B6;simp;omega
  refine V ?_;refine ya X (BT X X Aa) (ya X (DF X X X A0) (V ?_));exact gr1 X ⟨by rw [hno],Fr.refl⟩
 by_cases h1:32<l.length
 ·have hno:B6 l=false:=by unfold B6;simp;omega
  refine V ?_;refine ya X (BT X X Aa) (ya X (BP X X X A0) (V ?_));refine yd X (BT X X Aa) (yd X (OX X X X A0) (V ?_));exact gr1 X ⟨by rw [hno],Fr.refl⟩
 obtain ⟨c0,r0,hl⟩:∃c0 r0,l=c0::r0:=Ev (by intro e;rw [e] at h0;exact h0 rfl)
 have hno:B6 l=(CP c0&&HY l):=by
  have:G5 0 l=(CP c0&&HY l):=by rw [hl];exact PT c0 r0
  unfold B6;rw [this];simp [show 1≤l.length by omega,show l.length≤32 by omega]
 have hc0:l[0]?=some c0:=by rw [hl];rfl
 refine V ?_;refine ya X (BT X X Aa) (ya X (BP X X X A0) (V ?_));refine yd X (BT X X Aa) (yd X (II X X X A0) (V ?_));refine sxl_call (some 13) (by first|exact wn_none rfl|exact wn_on rfl rfl rfl) X X (AD X X call64) (hG _) ?_;rintro _ w1 ⟨rfl,hf1⟩;refine cq (sxl_does (some 3) kw X X (λρ hρ=>BN 139 X _ zeroT gY X) ?_);rintro _ w2 ⟨g,rfl,hg1,hg2,hb,hf2⟩;refine sxl_does none kw X X (λρ hρ=>BK 139 (.tmp 3) (.tmp 13) X g 0 139 _ tabL (hρ _ _ X) (hρ _ _ X) hb (by rw [VV];exact gZ) (by rw [VV,YL];omega) qI) ?_;rintro _ w3 ⟨rfl,hb3,hf3⟩;rw [HA zeroT tabL (by rw [VV,YL])] at hb3
 have hf:Fr0 w w3:=(hf1.trans hf2).step hf3 (λk hk e=>by have:=hf1.size;omega);refine V ?_;refine ya X (BT X X Aa) (V ?_)
 have tcell:∀c:UInt8,Cell w3.heap g (0+((c.toNat:Int)).toNat*1) (.int .u8 (tabN c.toNat:Int)):=λc=>by
  have:=hb3.c c.toNat (wQ c.toNat_lt)
  simpa using this
 refine sx_loop (λe wr m=>∃(i:Nat),e=[(16,AA (i:Int)),(15,AA (l.length:Int)),(3,pg g),(0,str l)]∧w3=wr∧i≤l.length∧HY (l.take i)=true∧m=l.length-i) ⟨0,X,X,Ae _,X,X⟩ ⟨X,X,X,X,trivial⟩ ?_;rintro _ _ _ ⟨i,rfl,rfl,hi,hok,rfl⟩
 by_cases hlt:i<l.length
 ·obtain ⟨c,hc⟩:∃c,l[i]?=some c:=⟨_,Ao hlt⟩
  have h256:=c.toNat_lt;have ct:=tcell c
  have hsplit:l=l.take i++c::l.drop (i+1):=by
   have h1:l.drop i=c::l.drop (i+1):=by
    rw [Eg hlt]
    congr 1
    rw [Ao hlt] at hc
    exact Bs hc
   rw [←h1,Cq]
  have htab:=kO c
  by_cases hz:tabN c.toNat=0
  ·have hbad:HY l=false:=by
    rw [hz] at htab
    have h3:CP c=false:=by cases hq:CP c with|false=>rfl|true=>rw [hq] at htab;simp at htab
    have h4:F4 c=false:=by cases hq:F4 c with|false=>rfl|true=>rw [h3,hq] at htab;simp at htab
    rw [hsplit];unfold HY;simp [h3,h4]
   refine V ?_;refine ya X (D4 X X X A0) (V ?_);refine ya X (B8 X X X Aa hc) (ya X (G1 X X X (ar X) A0) (yl X X (by assumption) (ya X (DF X X X A0) (V ?_))));exact gr1 X ⟨by rw [hno,hbad,Ed],hf⟩
  have hstep:HY (l.take (i+1))=true:=by
   have h3:(CP c || F4 c)=true:=by
    cases hq:CP c with
    | true=>rfl
    | false=>cases hq2:F4 c with
     | true=>rfl
     | false=>rw [hq,hq2] at htab;simp at htab;omega
   rw [Da,hc];unfold HY at hok ⊢
   rw [Fw,hok]
   simpa using h3
  refine V ?_;refine ya X (D4 X X X A0) (V ?_);refine ya X (B8 X X X Aa hc) (ya X (G1 X X X (ar X) A0) (yl X X (by assumption) (ya X (BP X X X A0) (V ?_))));refine CZ X X (V ?_);exact fag ⟨i+1,X,X,by omega,hstep,rfl⟩
 obtain rfl:i=l.length:=by omega
 rw [Ba] at hok
 have h256:=c0.toNat_lt;have ct:=tcell c0;have htab:=kO c0
 cases hlet:CP c0 with
 | true=>
  rw [hlet] at htab
  have h2:tabN c0.toNat=2:=htab;refine V ?_;refine ya X (DD X X X A0) (V ?_);refine ya X (B8 (m:=0) X X X Aa hc0) (ya X (G1 X X X (ar X) A0) (yl X X (by assumption) (ya X (DF X X X A0) (V ?_))));exact gr1 X ⟨by rw [hno,hlet,hok];rfl,hf⟩
 | false=>
  rw [hlet] at htab
  have h2:tabN c0.toNat≠2:=by rw [htab];cases F4 c0<;>simp
  refine V ?_;refine ya X (DD X X X A0) (V ?_);refine ya X (B8 (m:=0) X X X Aa hc0) (ya X (G1 X X X (ar X) A0) (yl X X (by assumption) (ya X (BP X X X A0) (V ?_))));exact gr1 X ⟨by rw [hno,hlet];rfl,hf⟩
section
inductive Xn
 | zero
 | lit (v:Vl)
 | var (s:Kz)
 | un (op:UInt8) (a:Xn)
 | bin (op:UInt8) (a b:Xn)
def Xn.op : Xn→UInt8
 | .zero=>0
 | .lit _=>1
 | .var _=>2
 | .un o _=>o
 | .bin o _ _=>o
def Xn.vl : Xn→Vl
 | .lit v=>v
 | _=>zeroVl
def Xn.nm : Xn→Kz
 | .var s=>s
 | _=>[]
def Xn.nk : Xn→Nat
 | .un _ _=>1
 | .bin _ _ _=>2
 | _=>0
def Xn.cells (n:Xn) (A:Ky):Kx:=[.int .u8 (n.op.toNat:Int),.int .u8 (n.vl.kind.toNat:Int),.int .i64 n.vl.int,.bool n.vl.bool,str n.vl.text,str n.nm,.slice A n.nk n.nk]
def Xn.leaf : Xn→Bool
 | .un _ _=>false
 | .bin _ _ _=>false
 | _=>true
theorem Xn.nk_leaf {n:Xn} (h:n.leaf=true):n.nk=0:=by cases n<;>first|rfl|cases h
def BL (b:UInt8):Bool:=decide ((48:Int)≤(b.toNat:Int))&&decide ((b.toNat:Int)≤57)
def D8 (b:UInt8):Bool:=decide ((97:Int)≤((b ||| 32).toNat:Int))&&decide (((b ||| 32).toNat:Int)≤122)
def BE (b:UInt8):Bool:=D8 b || BL b || decide ((b.toNat:Int)=45) || decide ((b.toNat:Int)=95) || decide ((b.toNat:Int)=46)
def signTab : List (Kz × (UInt8 × Nat)):=[([111,114],(6,1)),([97,110,100],(5,2)),([61],(7,4)),([33,61],(8,4)),([60],(9,4)),([60,61],(10,4)),([62],(11,4)),([62,61],(12,4)),([43],(13,5)),([45],(14,5)),([42],(15,6)),([47],(16,6)),([37],(17,6))]
def SN : List (Kz × (UInt8 × Nat))→Kz→Option (UInt8 × Nat)
 | [],_=>none
 | (k',v)::r,k=>if k=k' then some v else SN r k
def AU (s:Kz):Option (UInt8 × Nat):=SN signTab s
def IE (s:Kz):Bool:=decide (s=[97,110,100]) || decide (s=[111,114]) || decide (s=[110,111,116]) || decide (s=[116,114,117,101]) || decide (s=[102,97,108,115,101])
structure Lx where
 at_:Nat
 nd:Xn
 say:Kz
 tat:Nat
 fin:Bool
 e:Int
 wh:Nat
def Lx.cells (s:Kz) (x:Lx):Kx:=[str s,.int .i64 (x.at_:Int),.int .u8 (x.nd.op.toNat:Int),.int .u8 (x.nd.vl.kind.toNat:Int),.int .i64 x.nd.vl.int,.bool x.nd.vl.bool,str x.nd.vl.text,str x.nd.nm,.slice none 0 0,str x.say,.int .i64 (x.tat:Int),.bool x.fin,.int .i64 x.e,.int .i64 (x.wh:Int)]
def Lx.fail (x:Lx) (e:Int) (p:Nat):Lx:=if x.e=0 then { x with e:=e,wh:=p } else x
def GP (l:Kz):Kz:=l.dropWhile (λb=>b==32)
def decN (l:Kz):Nat:=l.foldl (λn b=>n*10+(b.toNat-48)) 0
section
variable (s:Kz) (fr:Nat→Lx→Xn × Lx)
end
def lx0 : Lx:=⟨0,.zero,[],0,false,0,0⟩
end
def r9 (p:UInt8 × Nat):Kv:=.agg #[.int .u8 (p.1.toNat:Int),.int .i64 (p.2:Int)]
def EU : List (Kz × Kv):=signTab.map λp=>(p.1,r9 p.2)
theorem SY (k:Kz):∀l:List (Kz × (UInt8 × Nat)),CC (l.map λp=>(p.1,r9 p.2)) k=(SN l k).map r9
 | []=>rfl
 | (k',v)::r=>by
  rw [Cj,CC,SN]
  by_cases h:k=k'
  ·rw [if_pos h,if_pos h];rfl
  rw [if_neg h,if_neg h];exact SY k r
theorem FZ (k:Kz):(CC EU k).getD (.agg #[.int .u8 0,AA 0])=.agg #[.int .u8 (((AU k).getD (0,0)).1.toNat:Int),AA ((((AU k).getD (0,0)).2:Nat):Int)]:=by
 unfold EU AU;rw [SY]
 cases SN signTab k<;>rfl
theorem JD (k:Kz):(CC EU k).isSome=(AU k).isSome:=by
 unfold EU AU;rw [SY]
 cases SN signTab k<;>rfl
theorem tI (v:Kz):([[97,110,100],[111,114],[110,111,116],[116,114,117,101],[102,97,108,115,101]].any (λz=>decide (v=z)))=IE v:=by
 simp only [Dr,List.any_nil,IE,Im,Bool.or_assoc]
theorem N1 (a0:Int) (a2:Bool):prog.built 61 [(0,.int .u8 a0),(2,.bool a2)]=some #[.int .u8 a0,AA 0,.bool a2,str []]:=by kernel_rfl
theorem GG (a0:Int) (c1_0 c1_1 c1_2 c1_3:Kv):prog.built 113 [(0,.int .u8 a0),(1,.agg #[c1_0,c1_1,c1_2,c1_3])]=some #[.int .u8 a0,c1_0,c1_1,c1_2,c1_3,str [],.slice none 0 0]:=by kernel_rfl
theorem TM (a0:Int) (a2:Kz):prog.built 113 [(0,.int .u8 a0),(2,str a2)]=some #[.int .u8 a0,.int .u8 0,AA 0,.bool false,str [],str a2,.slice none 0 0]:=by kernel_rfl
theorem CM (a0:Int) (a1:Int):prog.built 164 [(0,.int .u8 a0),(1,AA a1)]=some #[.int .u8 a0,AA a1]:=by kernel_rfl
theorem ND : (prog.info? 54).map (·.size)=some 1:=by kernel_rfl
theorem FU : (prog.info? 3).map (·.size)=some 1:=by kernel_rfl
theorem GW : (prog.info? 9).map (·.size)=some 1:=by kernel_rfl
theorem GE (s:Kz) (x:Lx) (gx:Nat) (er:Int) (p:Nat) (w:Kw) (hb:Blk w gx 158 (Lx.cells s x)) :
 Calls prog 86 #[pg gx,AA er,AA (p:Int)] w λe w'=>e=.returned (.tuple #[])∧Blk w' gx 158 (Lx.cells s (x.fail er p))∧Fr (λk=>k=gx) w w':=by
 refine sx_enter (vs:=[_,_,_]) func86 X ntmps86 X ?_;have M:Mem w (λk=>k=gx) [As.blk gx 158 (Lx.cells s x)] w:=Mem.one hb;refine W ?_;refine AB X (λh10=>?_) (λh10=>?_)
 ·have h10p:=odt h10;refine W ?_;refine gp1 M 0 X X X ND λw1 M=>W ?_
  exact gp1 M 0 X X X FU λw2 M=>sxl_nil (qx_ret0 (Or.inr X) X ⟨X,by rw [Lx.fail,if_pos h10p];exact M.blk 0 rfl,M.fr⟩)
 have h10p:=odf h10;exact sx_skip (qx_ret0 (Or.inr X) X ⟨X,by rw [Lx.fail,if_neg h10p];exact M.blk 0 rfl,M.fr⟩)
theorem XL (b:UInt8) (w:Kw):Calls prog 152 #[.int .u8 (b.toNat:Int)] w (BS w (.bool (BL b))):=by
 refine BR func152 ntmps152 X λM=>W ?_
 refine fvm M 3 [2] [(8,.bool ((decide (48≤(b.toNat:Int)))&&(decide ((b.toNat:Int)≤57))))] ?_ (λk5=>?_)
 ·intro w1 M;refine W ?_;exact gr1 X ⟨X,M.fr⟩
 refine A1 (d:=5) X (λh5=>?_) (λh5=>?_)
 ·refine T3 ?_;exact k5 M
 refine T3 ?_;exact k5 M
theorem ZD (b:UInt8) (w:Kw):Calls prog 155 #[.int .u8 (b.toNat:Int)] w (BS w (.bool (D8 b))):=by
 refine BR func155 ntmps155 X λM=>W ?_
 refine ya X (a0g (b:=b) (c:=32) X X X) (W ?_);refine fvm M 4 [2] [(10,.bool ((decide (97≤((b ||| 32).toNat:Int)))&&(decide (((b ||| 32).toNat:Int)≤122))))] ?_ (λk6=>?_)
 ·intro w1 M;refine W ?_;exact gr1 X ⟨X,M.fr⟩
 refine A1 (d:=6) X (λh6=>?_) (λh6=>?_)
 ·refine gyq X (yd X (a0g (b:=b) (c:=32) X X X) (T2 ?_));exact k6 M
 refine T4 ?_;exact k6 M
theorem o7 (b:UInt8) (w:Kw):Calls prog 156 #[.int .u8 (b.toNat:Int)] w (BS w (.bool (BE b))):=by
 refine BR func156 ntmps156 X λM=>W ?_
 refine CW M 4 X X call155 (ZD _ _) λw1 M=>yb X (fvm M 3 [2,0] [(8,.bool ((D8 b) || (BL b)))] ?_ (λk5=>?_))
 ·intro w2 M;refine yb X (fvm M 3 [2,0] [(12,.bool (((D8 b) || (BL b)) || (decide ((b.toNat:Int)=45))))] ?_ (λk9=>?_))
  ·intro w3 M;refine yb X (fvm M 3 [2,0] [(16,.bool ((((D8 b) || (BL b)) || (decide ((b.toNat:Int)=45))) || (decide ((b.toNat:Int)=95))))] ?_ (λk13=>?_))
   ·intro w4 M;refine yb X (fvm M 3 [2] [(20,.bool (((((D8 b) || (BL b)) || (decide ((b.toNat:Int)=45))) || (decide ((b.toNat:Int)=95))) || (decide ((b.toNat:Int)=46))))] ?_ (λk17=>?_))
    ·intro w5 M;refine W ?_;exact gr1 X ⟨X,M.fr⟩
    refine A1 (d:=17) X (λh17=>?_) (λh17=>?_)
    ·refine T3 ?_;exact k17 M
    refine T3 ?_;exact k17 M
   refine A1 (d:=13) X (λh13=>?_) (λh13=>?_)
   ·refine T3 ?_;exact k13 M
   refine T3 ?_;exact k13 M
  refine A1 (d:=9) X (λh9=>?_) (λh9=>?_)
  ·refine T3 ?_;exact k9 M
  refine T3 ?_;exact k9 M
 refine A1 (d:=5) X (λh5=>?_) (λh5=>?_)
 ·refine T3 ?_;exact k5 M
 refine gyq X (sxl_call (some 7) kw X X (AD X X call152) (XL _ _) ?_);rintro _ w6 ⟨rfl,hfw6⟩;refine cq ?_;have M:=M.step hfw6;exact yb X (k5 M)
theorem zN (A:Ky) (c:Nat) (l:List Kz) (v:Kz) (w:Kw) (hl:l.length≤4611686018427387904) (hR:Rd w A (l.length*1) (AE BG l)) :
 Calls prog 188 #[.slice A l.length c,str v] w (BS w (AA (ixJ (λ_ z=>decide (v=z)) 0 l))):=by
 refine BR func188 ntmps188 X λM=>W ?_
 refine EF M [7,1,0] (λze zF e wr mz=>∃(i:Nat),e=(8,AA (i:Int))::ze∧zF wr∧(i≤l.length)∧(ixJ (λ_ z=>decide (v=z)) 0 l=ixJ (λ_ z=>decide (v=z)) i (l.drop i))∧mz=l.length-i) ⟨0,X,M,Ae _,X,X⟩ ?_;rintro _ w1 _ ⟨i,rfl,M,hi,hr,rfl⟩;refine W ?_;refine AB X (λh9=>?_) (λh9=>?_)
 ·have h9p:=odt h9;refine W ?_;obtain ⟨x,_,_,hx,hA_x⟩:=ex5 (i:=i) (hR.fr0 M.fr);refine ya X (AK i hA_x X X X (sl X) A0) (yl X X (BD DI (hR.fr0 M.fr) hA_x hx 0 X) (W ?_));refine AB X (λh16=>?_) (λh16=>?_)
  ·refine W ?_;exact gr1 X ⟨by rw [hr,AG hx,ixJ,if_pos h16],M.fr⟩
  have h16p:=odf h16;refine W ?_;refine fag ⟨i+1,X,M,?_,?_,X⟩
  ·omega
  rw [hr,AG hx,ixJ,AM h16]
 have h9p:=odf h9;refine W ?_;refine gr1 X ?_;obtain rfl:i=l.length:=by omega
 exact ⟨by rw [hr,Am];rfl,M.fr⟩
theorem fT (A:Ky) (c:Nat) (l:List Kz) (v:Kz) (w:Kw) (hl:l.length≤4611686018427387904) (hR:Rd w A (l.length*1) (AE BG l)) :
 Calls prog 143 #[.slice A l.length c,str v] w (BS w (.bool (l.any (λz=>decide (v=z))))):=by
 refine BR func143 ntmps143 X λM=>W ?_
 refine CW M 7 X X call188 (zN _ _ l _ _ (by first|omega|decide) (hR.fr0 M.fr)) λw1 M=>W ?_
 exact gr1 X ⟨by rw [M7],M.fr⟩
theorem KD (w:Kw) :
 Calls prog 90 #[] w λe w'=>∃g,e=.returned (.map (some g))∧Mp w' g EU∧w.heap.size≤g∧Fr0 w w':=by
 refine BR func90 ntmps90 X λM=>W ?_
 refine K4 M kw X X X λg1 w1 hg1 M=>ya X (B7 (parts:=[(0,_),(1,_)]) X X (CM _ _)) (ET M 0 kw X X X X X Ca Aa X λw2 M=>ya X (B7 (parts:=[(0,_),(1,_)]) X X (CM _ _)) (ET M 0 kw X X X X X Ca Aa X λw3 M=>ya X (B7 (parts:=[(0,_),(1,_)]) X X (CM _ _)) (ET M 0 kw X X X X X Ca Aa X λw4 M=>ya X (B7 (parts:=[(0,_),(1,_)]) X X (CM _ _)) (ET M 0 kw X X X X X Ca Aa X λw5 M=>ya X (B7 (parts:=[(0,_),(1,_)]) X X (CM _ _)) (ET M 0 kw X X X X X Ca Aa X ?_)))))
 intro w6 M;refine ya X (B7 (parts:=[(0,_),(1,_)]) X X (CM _ _)) (ET M 0 kw X X X X X Ca Aa X λw7 M=>ya X (B7 (parts:=[(0,_),(1,_)]) X X (CM _ _)) (ET M 0 kw X X X X X Ca Aa X λw8 M=>ya X (B7 (parts:=[(0,_),(1,_)]) X X (CM _ _)) (ET M 0 kw X X X X X Ca Aa X λw9 M=>ya X (B7 (parts:=[(0,_),(1,_)]) X X (CM _ _)) (ET M 0 kw X X X X X Ca Aa X λw10 M=>ya X (B7 (parts:=[(0,_),(1,_)]) X X (CM _ _)) (ET M 0 kw X X X X X Ca Aa X λw11 M=>ya X (B7 (parts:=[(0,_),(1,_)]) X X (CM _ _)) ?_)))));refine ET M 0 kw X X X X X Ca Aa X λw12 M=>ya X (B7 (parts:=[(0,_),(1,_)]) X X (CM _ _)) (ET M 0 kw X X X X X Ca Aa X λw13 M=>ya X (B7 (parts:=[(0,_),(1,_)]) X X (CM _ _)) (ET M 0 kw X X X X X Ca Aa X λw14 M=>W ?_))
 exact gr1 X ⟨_,X,M.mp 0 X,hg1,M.fr⟩
theorem RW (v:Kz) (w:Kw) :
 Calls prog 196 #[str v] w (BS w (.bool (IE v))):=by
 refine BR func196 ntmps196 X λM=>W ?_
 refine CV M kw X X [str [97,110,100],str [111,114],str [110,111,116],str [116,114,117,101],str [102,97,108,115,101]] ([str [97,110,100],str [111,114],str [110,111,116],str [116,114,117,101],str [102,97,108,115,101]]) X X X X Az CG X X (by intro v hv;simp only [Ak,Ax,or_false] at hv;rcases hv with rfl|rfl|rfl|rfl|rfl<;>rfl) X λg3 w1 hg3 M=>yb X (CW M 5 X X call143 (fT _ _ [[97,110,100],[111,114],[110,111,116],[116,114,117,101],[102,97,108,115,101]] _ _ (by first|omega|decide) (M.rdBlk 0 X X)) λw2 M=>W ?_)
 exact gr1 X ⟨by rw [tI],M.fr⟩
def G2 (t:Kz) (x:Lx):Lx:=(if ((decide (t=[116,114,117,101])) || (decide (t=[102,97,108,115,101])))=true then (⟨x.at_,.lit ⟨2,0,(decide (t=[116,114,117,101])),[]⟩,x.say,x.tat,x.fin,x.e,x.wh⟩:Lx) else (if (IE t)=true then (⟨x.at_,x.nd,t,x.tat,x.fin,x.e,x.wh⟩:Lx) else (if (!(B6 t))=true then (x.fail 4 x.at_) else (⟨x.at_,.var t,x.say,x.tat,x.fin,x.e,x.wh⟩:Lx))))
theorem nU (s:Kz) (x:Lx) (gx:Nat) (t:Kz) (w:Kw) (hb:Blk w gx 158 (Lx.cells s x)) (ht:(t.length:Int)<4611686018427387904) :
 Calls prog 157 #[pg gx,str t] w λe w'=>e=.returned (.tuple #[])∧Blk w' gx 158 (Lx.cells s (G2 t x))∧Fr (λk=>k=gx) w w':=by
 refine sx_enter (vs:=[_,_]) func157 X ntmps157 X ?_;have M:Mem w (λk=>k=gx) [As.blk gx 158 (Lx.cells s x)] w:=Mem.one hb;refine W ?_;refine fvm M 3 [0,1] [(16,.bool ((decide (t=[116,114,117,101])) || (decide (t=[102,97,108,115,101]))))] ?_ (λk13=>?_)
 ·intro w1 M;refine W ?_;refine AB X (λh10=>?_) (λh10=>?_)
  ·have h10p:=bd h10;refine W ?_;refine ya X (B7 (parts:=[(0,_),(2,_)]) X X (N1 _ _)) (ya X (B7 (parts:=[(0,_),(1,_)]) X X (GG _ _ _ _ _)) (W ?_));refine J9 (cs':=[str s,AA (x.at_:Int),.int .u8 1,.int .u8 2,AA 0,.bool (decide (t=[116,114,117,101])),str [],str [],.slice none 0 0,str x.say,AA (x.tat:Int),.bool x.fin,AA x.e,AA (x.wh:Int)]) M 0 kw X X X X X AT X (CL X) (BW X) X λw2 M=>W ?_
   exact qx_ret0 (Or.inr X) X ⟨X,by rw [G2,if_pos h10];exact M.blk 0 rfl,M.fr⟩
  have h10p:=bd h10;refine W ?_;refine CW M 27 X X call196 (RW _ _) λw3 M=>W ?_
  refine AB X (λh25=>?_) (λh25=>?_)
  ·refine W ?_;refine gp1 M 0 X X X GW λw4 M=>W ?_
   exact qx_ret0 (Or.inr X) X ⟨X,by rw [G2,AM h10,if_pos h25];exact M.blk 0 rfl,M.fr⟩
  refine W ?_;refine CW M 35 X X call37 (EN _ _ A0) λw5 M=>W ?_
  refine AB X (λh33=>?_) (λh33=>?_)
  ·refine W ?_;refine GL M 0 42 X X (AD X X call86) (GE s _ _ _ _ _ (M.blk 0 X)) λw6 M=>W ?_
   exact qx_ret0 (Or.inr X) X ⟨X,by rw [G2,AM h10,AM h25,if_pos h33];exact M.blk 0 rfl,M.fr⟩
  refine W ?_;refine ya X (B7 (parts:=[(0,_),(2,_)]) X X (TM _ _)) (W ?_);refine J9 (cs':=[str s,AA (x.at_:Int),.int .u8 2,.int .u8 0,AA 0,.bool false,str [],str t,.slice none 0 0,str x.say,AA (x.tat:Int),.bool x.fin,AA x.e,AA (x.wh:Int)]) M 0 kw X X X X X AT X (CL X) (BW X) X λw7 M=>W ?_
  exact qx_ret0 (Or.inr X) X ⟨X,by rw [G2,AM h10,AM h25,AM h33];exact M.blk 0 rfl,M.fr⟩
 refine A1 (d:=13) X (λh13=>?_) (λh13=>?_)
 ·refine T3 ?_;exact k13 M
 refine T3 ?_;exact k13 M
end Go.Proofs.YtppmdnmjepkfaaaGreatDoor
namespace Go.Proofs
open Go.Shelf
def Tryz.lays169_ren : Go.Shelf.Ren:=⟨fun|169=>197|n=>n,fun|70=>248|9=>9|0=>0|72=>251|37=>249|127=>272|3=>3|5=>5|n=>n,fun|n=>n⟩
theorem Tryz.lays169 : Go.Proofs.Lays.n169 prog Tryz.lays169_ren:={
 mixed:=by kernel_rfl
 f169:=func197.trans (congrArg some (by kernel_rfl))
 t0:=underlying0
 a0:=isAgg0
 z0:=sizeOf0
 v0:=zeroValue0
 t3:=underlying3
 a3:=isAgg3
 z3:=sizeOf3
 v3:=zeroValue3
 t9:=underlying9
 a9:=isAgg9
 z9:=sizeOf9
 v9:=zeroValue9
 t37:=underlying249
 a37:=isAgg249
 z37:=sizeOf249
 v37:=zeroValue249
 t70:=underlying248
 a70:=isAgg248
 z70:=sizeOf248
 v70:=zeroValue248
 t72:=underlying251
 a72:=isAgg251
 z72:=sizeOf251
 v72:=zeroValue251
 t127:=underlying272
 a127:=isAgg272
 z127:=sizeOf272
 v127:=zeroValue272 }
theorem Tryz.Builder_Extra_169 : Builder.Extra prog Tryz.lays169_ren:={
 sizeBuilder:=by kernel_rfl
 liesBuilder:=by kernel_rfl
 t5:=underlying5
 a5:=isAgg5
 z5:=sizeOf5
 v5:=zeroValue5
 infoByte:=by kernel_rfl
 cellsByte:=by kernel_rfl
 sizeByte:=by kernel_rfl
 neB5:=by decide }
def Tryz.lays161_ren : Go.Shelf.Ren:=⟨fun|161=>151|231=>189|227=>190|233=>191|235=>192|228=>212|197=>213|151=>214|260=>234|152=>235|137=>246|119=>247|224=>248|225=>249|217=>256|266=>259|n=>n,fun|9=>9|4=>4|3=>3|5=>5|117=>238|116=>237|0=>0|124=>241|105=>267|21=>21|119=>139|46=>228|139=>227|138=>226|n=>n,fun|3=>0|4=>1|n=>n⟩
theorem Tryz.lays161 : Go.Proofs.Lays.n161 prog Tryz.lays161_ren:={
 mixed:=by kernel_rfl
 f119:=func247.trans (congrArg some (by kernel_rfl))
 f137:=func246.trans (congrArg some (by kernel_rfl))
 f151:=func214.trans (congrArg some (by kernel_rfl))
 f152:=func235.trans (congrArg some (by kernel_rfl))
 f161:=func151.trans (congrArg some (by kernel_rfl))
 f197:=func213.trans (congrArg some (by kernel_rfl))
 f217:=func256.trans (congrArg some (by kernel_rfl))
 f224:=func248.trans (congrArg some (by kernel_rfl))
 f225:=func249.trans (congrArg some (by kernel_rfl))
 f227:=func190.trans (congrArg some (by kernel_rfl))
 f228:=func212.trans (congrArg some (by kernel_rfl))
 f231:=func189.trans (congrArg some (by kernel_rfl))
 f233:=func191.trans (congrArg some (by kernel_rfl))
 f235:=func192.trans (congrArg some (by kernel_rfl))
 f260:=func234.trans (congrArg some (by kernel_rfl))
 f266:=func259.trans (congrArg some (by kernel_rfl))
 t0:=underlying0
 a0:=isAgg0
 z0:=sizeOf0
 v0:=zeroValue0
 t3:=underlying3
 a3:=isAgg3
 z3:=sizeOf3
 v3:=zeroValue3
 t4:=underlying4
 a4:=isAgg4
 z4:=sizeOf4
 v4:=zeroValue4
 t5:=underlying5
 a5:=isAgg5
 z5:=sizeOf5
 v5:=zeroValue5
 t9:=underlying9
 a9:=isAgg9
 z9:=sizeOf9
 v9:=zeroValue9
 t21:=underlying21
 a21:=isAgg21
 z21:=sizeOf21
 v21:=zeroValue21
 t46:=underlying228
 a46:=isAgg228
 z46:=sizeOf228
 v46:=zeroValue228
 t105:=underlying267
 a105:=isAgg267
 z105:=sizeOf267
 v105:=zeroValue267
 t116:=underlying237
 a116:=isAgg237
 z116:=sizeOf237
 t117:=underlying238
 a117:=isAgg238
 z117:=sizeOf238
 v117:=zeroValue238
 t119:=underlying139
 a119:=isAgg139
 z119:=sizeOf139
 t124:=underlying241
 a124:=isAgg241
 z124:=sizeOf241
 v124:=zeroValue241
 t138:=underlying226
 a138:=isAgg226
 z138:=sizeOf226
 v138:=zeroValue226
 t139:=underlying227
 a139:=isAgg227
 z139:=sizeOf227
 v139:=zeroValue227
 g3:=by kernel_rfl
 g4:=by kernel_rfl }
open Go.RowKit in
theorem Tryz.strings_TrimLeft_one (s:ByteArray) (c:UInt8) (hc:c.toNat<128) (w:World) :
 Calls prog 151 #[.string s,.string ⟨#[c]⟩] w λe w'=>e=.returned (.string ⟨(Lib.trimLeftB s.data.toList c).toArray⟩)∧w'=w:=Any.strings_TrimLeft_one Tryz.lays161 s c hc w
open Go.RowKit in
theorem Tryz.Builder_String_any_f (B b:Nat) (l:List UInt8) (w:World) (h:Lib.IsBuilderF 251 5 B b (Lib.byteCells l) w) (hBw:B≤w.heap.size) :
 Calls prog 197 #[.pointer (some ⟨b,0,none⟩)] w λe w'=>e=.returned (.string ⟨l.toArray⟩)∧(Lib.IsBuilderF 251 5 B b (Lib.byteCells l) w'∧Below B w w'):=Any.Builder_String_any_f Tryz.lays169 Tryz.Builder_Extra_169 B b l w h hBw
def Tryz.laysC174_ren : Go.Shelf.Ren:=⟨fun|174=>195|247=>216|245=>217|287=>236|279=>237|280=>238|281=>239|282=>240|321=>250|322=>251|316=>252|171=>254|205=>253|243=>257|246=>260|283=>262|284=>263|285=>264|286=>265|129=>268|317=>267|318=>269|319=>270|320=>271|337=>272|338=>273|n=>n,fun|9=>9|3=>3|2=>2|75=>245|85=>246|4=>4|167=>279|5=>5|53=>265|175=>280|46=>228|168=>282|37=>249|0=>0|210=>294|21=>21|127=>272|145=>299|143=>297|171=>301|173=>304|212=>306|51=>307|20=>20|213=>308|232=>311|233=>312|80=>252|n=>n,fun|15=>2|16=>3|17=>5|18=>6|19=>7|n=>n⟩
theorem Tryz.laysC174 : Go.Proofs.LaysC.n174 prog Tryz.laysC174_ren:={
 mixed:=by kernel_rfl
 f129:=func268.trans (congrArg some (by kernel_rfl))
 f171:=func254.trans (congrArg some (by kernel_rfl))
 f174:=func195.trans (congrArg some (by kernel_rfl))
 f205:=func253.trans (congrArg some (by kernel_rfl))
 f243:=func257.trans (congrArg some (by kernel_rfl))
 f245:=func217.trans (congrArg some (by kernel_rfl))
 f246:=func260.trans (congrArg some (by kernel_rfl))
 f247:=func216.trans (congrArg some (by kernel_rfl))
 f279:=func237.trans (congrArg some (by kernel_rfl))
 f280:=func238.trans (congrArg some (by kernel_rfl))
 f281:=func239.trans (congrArg some (by kernel_rfl))
 f282:=func240.trans (congrArg some (by kernel_rfl))
 f283:=func262.trans (congrArg some (by kernel_rfl))
 f284:=func263.trans (congrArg some (by kernel_rfl))
 f285:=func264.trans (congrArg some (by kernel_rfl))
 f286:=func265.trans (congrArg some (by kernel_rfl))
 f287:=func236.trans (congrArg some (by kernel_rfl))
 f316:=func252.trans (congrArg some (by kernel_rfl))
 f317:=func267.trans (congrArg some (by kernel_rfl))
 f318:=func269.trans (congrArg some (by kernel_rfl))
 f319:=func270.trans (congrArg some (by kernel_rfl))
 f320:=func271.trans (congrArg some (by kernel_rfl))
 f321:=func250.trans (congrArg some (by kernel_rfl))
 f322:=func251.trans (congrArg some (by kernel_rfl))
 f337:=func272.trans (congrArg some (by kernel_rfl))
 f338:=func273.trans (congrArg some (by kernel_rfl))
 t0:=underlying0
 a0:=isAgg0
 z0:=sizeOf0
 v0:=zeroValue0
 t2:=underlying2
 a2:=isAgg2
 z2:=sizeOf2
 v2:=zeroValue2
 t3:=underlying3
 a3:=isAgg3
 z3:=sizeOf3
 v3:=zeroValue3
 t4:=underlying4
 a4:=isAgg4
 z4:=sizeOf4
 v4:=zeroValue4
 t5:=underlying5
 a5:=isAgg5
 z5:=sizeOf5
 v5:=zeroValue5
 t9:=underlying9
 a9:=isAgg9
 z9:=sizeOf9
 v9:=zeroValue9
 t20:=underlying20
 a20:=isAgg20
 z20:=sizeOf20
 v20:=zeroValue20
 t21:=underlying21
 a21:=isAgg21
 z21:=sizeOf21
 v21:=zeroValue21
 t37:=underlying249
 a37:=isAgg249
 z37:=sizeOf249
 v37:=zeroValue249
 t46:=underlying228
 a46:=isAgg228
 z46:=sizeOf228
 v46:=zeroValue228
 t51:=underlying307
 a51:=isAgg307
 z51:=sizeOf307
 v51:=zeroValue307
 t53:=underlying265
 a53:=isAgg265
 z53:=sizeOf265
 v53:=zeroValue265
 t75:=underlying245
 a75:=isAgg245
 z75:=sizeOf245
 v75:=zeroValue245
 t85:=underlying246
 a85:=isAgg246
 z85:=sizeOf246
 v85:=zeroValue246
 t127:=underlying272
 a127:=isAgg272
 z127:=sizeOf272
 v127:=zeroValue272
 t143:=underlying297
 a143:=isAgg297
 z143:=sizeOf297
 v143:=zeroValue297
 t145:=underlying299
 a145:=isAgg299
 z145:=sizeOf299
 v145:=zeroValue299
 t167:=underlying279
 a167:=isAgg279
 z167:=sizeOf279
 v167:=zeroValue279
 t168:=underlying282
 a168:=isAgg282
 z168:=sizeOf282
 v168:=zeroValue282
 t171:=underlying301
 a171:=isAgg301
 z171:=sizeOf301
 v171:=zeroValue301
 t173:=underlying304
 a173:=isAgg304
 z173:=sizeOf304
 v173:=zeroValue304
 t175:=underlying280
 a175:=isAgg280
 z175:=sizeOf280
 v175:=zeroValue280
 t210:=underlying294
 a210:=isAgg294
 z210:=sizeOf294
 v210:=zeroValue294
 t212:=underlying306
 a212:=isAgg306
 z212:=sizeOf306
 v212:=zeroValue306
 t213:=underlying308
 a213:=isAgg308
 z213:=sizeOf308
 t232:=underlying311
 a232:=isAgg311
 z232:=sizeOf311
 v232:=zeroValue311
 t233:=underlying312
 a233:=isAgg312
 z233:=sizeOf312
 v233:=zeroValue312
 g15:=by kernel_rfl
 g16:=by kernel_rfl
 g17:=by kernel_rfl
 g18:=by kernel_rfl
 g19:=by kernel_rfl
 t80:=underlying252
 a80:=isAgg252
 z80:=sizeOf252
 v80:=zeroValue252
 i0:=by kernel_rfl
 i2:=by kernel_rfl
 i3:=by kernel_rfl
 i4:=by kernel_rfl
 i5:=by kernel_rfl
 i9:=by kernel_rfl
 i20:=by kernel_rfl
 i21:=by kernel_rfl
 i37:=by kernel_rfl
 i46:=by kernel_rfl
 i51:=by kernel_rfl
 i53:=by kernel_rfl
 i75:=by kernel_rfl
 i80:=by kernel_rfl
 i85:=by kernel_rfl
 i127:=by kernel_rfl
 i143:=by kernel_rfl
 i145:=by kernel_rfl
 i167:=by kernel_rfl
 i168:=by kernel_rfl
 i171:=by kernel_rfl
 i173:=by kernel_rfl
 i175:=by kernel_rfl
 i210:=by kernel_rfl
 i212:=by kernel_rfl
 i232:=by kernel_rfl
 i233:=by kernel_rfl
 m15:=by kernel_rfl
 m16:=by kernel_rfl
 m17:=by kernel_rfl
 m18:=by kernel_rfl
 m19:=by kernel_rfl
 c0:=by kernel_rfl
 c2:=by kernel_rfl
 c3:=by kernel_rfl
 c4:=by kernel_rfl
 c5:=by kernel_rfl
 c9:=by kernel_rfl
 c20:=by kernel_rfl
 c21:=by kernel_rfl
 c37:=by kernel_rfl
 c46:=by kernel_rfl
 c51:=by kernel_rfl
 c53:=by kernel_rfl
 c75:=by kernel_rfl
 c80:=by kernel_rfl
 c85:=by kernel_rfl
 c127:=by kernel_rfl
 c143:=by kernel_rfl
 c145:=by kernel_rfl
 c167:=by kernel_rfl
 c168:=by kernel_rfl
 c171:=by kernel_rfl
 c173:=by kernel_rfl
 c175:=by kernel_rfl
 c210:=by kernel_rfl
 c212:=by kernel_rfl
 c213:=by kernel_rfl
 c232:=by kernel_rfl
 c233:=by kernel_rfl }
open Go.RowKit in
theorem Tryz.strconv_ParseInt_10_at64_ok (s:ByteArray) (hmax:s.size≤9223372036854775806) (v:Int) (h:Lib.parseIntB 64 s.data.toList=.ok v) (w:World) :
 Calls prog 195 #[.string s,.int .i64 10,.int .i64 64] w λe w'=>e=.returned (.tuple #[.int .i64 v,.nilIface])∧(w'=w∨∃t,w'=Lib.bytesWorld w 5 t):=Any.strconv_ParseInt_10_at64_ok Tryz.laysC174 s hmax v h w
open Go.RowKit in
theorem Tryz.strconv_ParseInt_10_at64_syntax (s:ByteArray) (hlim:s.size≤281474976710656) (h:Lib.parseIntB 64 s.data.toList=Lib.NumEnd.syntax) (ev:Value) (w:World) (hv:w.cell? ⟨2,0,none⟩=some ev) (hev:ev=.nilIface∨∃te pe,ev=.iface te pe) :
 Calls prog 195 #[.string s,.int .i64 10,.int .i64 64] w λe w'=>∃N,e=.returned (.tuple #[.int .i64 (0),.iface 282 (.pointer (some ⟨N,0,none⟩))])∧w.heap.size≤N∧w'.heap[N]?=some (.cells #[.string ⟨#[80,97,114,115,101,73,110,116]⟩,.string s,ev] 294 (0,0))∧Below w.heap.size w w':=Any.strconv_ParseInt_10_at64_syntax Tryz.laysC174 s hlim h ev w hv hev
open Go.RowKit in
theorem Tryz.strconv_ParseInt_10_at64_range (s:ByteArray) (hlim:s.size≤281474976710656) (h:Lib.parseIntB 64 s.data.toList=.range) (ev:Value) (w:World) (hv:w.cell? ⟨3,0,none⟩=some ev) (hev:ev=.nilIface∨∃te pe,ev=.iface te pe) :
 Calls prog 195 #[.string s,.int .i64 10,.int .i64 64] w λe w'=>∃N,e=.returned (.tuple #[.int .i64 (Lib.intSat 64 s.data.toList),.iface 282 (.pointer (some ⟨N,0,none⟩))])∧w.heap.size≤N∧w'.heap[N]?=some (.cells #[.string ⟨#[80,97,114,115,101,73,110,116]⟩,.string s,ev] 294 (0,0))∧Below w.heap.size w w':=Any.strconv_ParseInt_10_at64_range Tryz.laysC174 s hlim h ev w hv hev
def Tryz.laysGw15_ren : Go.Shelf.Ren:=⟨fun|15=>193|20=>215|n=>n,fun|9=>9|23=>243|3=>3|4=>4|0=>0|21=>21|n=>n,fun|n=>n⟩
theorem Tryz.laysGw15 : Go.Proofs.LaysGw.n15 prog Tryz.laysGw15_ren:={
 mixed:=by kernel_rfl
 f15:=func193.trans (congrArg some (by kernel_rfl))
 f20:=func215.trans (congrArg some (by kernel_rfl))
 t0:=underlying0
 a0:=isAgg0
 z0:=sizeOf0
 v0:=zeroValue0
 i0:=by kernel_rfl
 t3:=underlying3
 a3:=isAgg3
 z3:=sizeOf3
 v3:=zeroValue3
 i3:=by kernel_rfl
 t4:=underlying4
 a4:=isAgg4
 z4:=sizeOf4
 v4:=zeroValue4
 i4:=by kernel_rfl
 t9:=underlying9
 a9:=isAgg9
 z9:=sizeOf9
 v9:=zeroValue9
 i9:=by kernel_rfl
 t21:=underlying21
 a21:=isAgg21
 z21:=sizeOf21
 v21:=zeroValue21
 i21:=by kernel_rfl
 t23:=underlying243
 a23:=isAgg243
 z23:=sizeOf243
 v23:=zeroValue243
 i23:=by kernel_rfl }
open Go.RowKit Go.Lib in
theorem Tryz.strings_IndexFunc_grows (g:Nat) (lb:Array Value) (eg:∀args w,(callFunc g args).run prog w=.ok (.enter g args) w) (p:Nat→Bool) (s:ByteArray) (w:World) (hp:PredGrows prog g lb p w) :
 Calls prog 193 #[.string s,.func (.func g) #[] lb] w λe w'=>e=.returned (.int .i64 (Lib.idxFunc p true s))∧Below w.heap.size w w':=Any.strings_IndexFunc_grows Tryz.laysGw15 g lb eg p s w hp
end Go.Proofs
namespace Go.Proofs.YtppmdnmjepkfaaaGreatDoor
open Go.RowKit
open Tryz
theorem qA (l:Kz) (w:Kw):Calls prog 151 #[str l,str [32]] w λe w'=>e=.returned (str (GP l))∧w=w':=by
 refine (Tryz.strings_TrimLeft_one ⟨l.toArray⟩ 32 AV w).mono ?_;rintro e w' ⟨rfl,rfl⟩;exact ⟨X,X⟩
def NK (l:Kz):Int × Bool:=match Lib.parseIntB 64 l with
 | .ok v=>(v,true)
 | .range=>(Lib.intSat 64 l,false)
 | _=>(0,false)
def m4 (w:Kw):Prop:=(∃t p,w.cell? ⟨2,0,none⟩=some (.iface t p))∧∃t p,w.cell? ⟨3,0,none⟩=some (.iface t p)
def a2F (ok:Bool) (v:Kv):Prop:=(ok=true∧v=.nilIface)∨(ok=false∧∃t p,v=.iface t (.pointer p))
theorem yH (l:Kz) (w:Kw) (hl:l.length≤281474976710656) (hE:m4 w):Calls prog 195 #[str l,.int .i64 10,.int .i64 64] w λe w'=>∃v,e=.returned (.tuple #[.int .i64 (NK l).1,v])∧a2F (NK l).2 v∧Fr0 w w':=by
 have hs:(ByteArray.mk l.toArray).size=l.length:=by show l.toArray.size=_;simp
 have hd:(ByteArray.mk l.toArray).data.toList=l:=X;obtain ⟨⟨t,p,h1⟩,t',p',h2⟩:=hE
 cases hq:Lib.parseIntB 64 l with
 | ok v=>
  refine (Tryz.strconv_ParseInt_10_at64_ok ⟨l.toArray⟩ A0 v (by rw [hd];exact hq) w).mono ?_;rintro e w' ⟨rfl,hw⟩;refine ⟨.nilIface,by unfold NK;rw [hq],.inl ⟨by unfold NK;rw [hq],rfl⟩,?_⟩;rcases hw with rfl|⟨t,rfl⟩
  ·exact Fr.refl
  exact Fr.ofBelow (Lib.bytesWorld_below w _ t)
 | range=>
  refine (Tryz.strconv_ParseInt_10_at64_range ⟨l.toArray⟩ A0 (by rw [hd];exact hq) _ w h2 (.inr ⟨t',p',X⟩)).mono ?_;rintro e w' ⟨N,rfl,_,_,hb⟩;exact ⟨_,by unfold NK;rw [hq,hd],.inr ⟨by unfold NK;rw [hq],_,_,rfl⟩,Fr.ofBelow hb⟩
 | _=>
  refine (Tryz.strconv_ParseInt_10_at64_syntax ⟨l.toArray⟩ A0 (by rw [hd];exact hq) _ w h1 (.inr ⟨t,p,X⟩)).mono ?_;rintro e w' ⟨N,rfl,_,_,hb⟩;exact ⟨_,by unfold NK;rw [hq],.inr ⟨by unfold NK;rw [hq],_,_,rfl⟩,Fr.ofBelow hb⟩
theorem pI {e:Env} {w:Kw} {o:Oper} {t':Nat} {x:Lz} {v:Kv} {ok:Bool} (ho:o.op=.binOp .neq 245 x (.const .nilIface) t') (hx:ev e x=some v) (hv:a2F ok v):Y prog e o w (.bool (!ok)):=λρ h=>by
 have hc:ρ (.const .nilIface)=.nilIface:=h _ _ X;rcases hv with ⟨rfl,rfl⟩|⟨rfl,t,p,rfl⟩
 ·have h1:(Op.equal 245 .nilIface .nilIface).run prog w=.ok true w:=by
   unfold Op.equal Op.maxDepth Op.equalIn
   simp [run_underlying underlying245]
  unfold execOp
  simp [ho,h _ _ hx,hc,eqGuard_nil_constR,binOp,h1]
 have h1:(Op.equal 245 (.iface t (.pointer p)) .nilIface).run prog w=.ok false w:=by
  unfold Op.equal Op.maxDepth Op.equalIn
  simp [run_underlying underlying245]
 unfold execOp
 simp [ho,h _ _ hx,hc,eqGuard_at_iface,binOp,h1]
def KB (is:UInt8→Bool) (x:Nat):Bool:=decide (127<x) || !(is (UInt8.ofNat x))
theorem qW (is:UInt8→Bool) (x:Nat):(decide (127<(x:Int)) || (!(is (UInt8.ofNat x))))=KB is x:=by
 unfold KB
 by_cases h:127<x
 ·simp [h,show (127:Int)<(x:Int) by omega]
 simp [h,show ¬(127:Int)<(x:Int) by omega]
theorem kD {x:Nat}:(IntKind.u8).wrap (x:Int)=((UInt8.ofNat x).toNat:Int):=by
 simp [IntKind.wrap,IntKind.bits,IntKind.signed]
def NY (is:UInt8→Bool) (l:Kz):Int:=Lib.idxFunc (KB is) true ⟨l.toArray⟩
def spanP (is:UInt8→Bool) (l:Kz):Nat:=if NY is l<0 then l.length else (NY is l).toNat
theorem qZ (is:UInt8→Bool) (l:Kz):NY is l<l.length:=by
 have h:=Lib.idxFuncFrom_range (KB is) true ⟨l.toArray⟩ (ByteArray.mk l.toArray).size 0;have hs:(ByteArray.mk l.toArray).size=l.length:=by show l.toArray.size=_;simp
 rcases h with h|⟨_,h⟩
 ·unfold NY Lib.idxFunc;rw [h];omega
 unfold NY Lib.idxFunc;omega
theorem RF (is:UInt8→Bool) (l:Kz):spanP is l≤l.length:=by
 unfold spanP;have:=qZ is l;split<;>omega
theorem qX {is:UInt8→Bool} {l:Kz} (h:NY is l<0):spanP is l=l.length:=if_pos h
theorem qY {is:UInt8→Bool} {l:Kz} (h:¬NY is l<0):NY is l=((spanP is l:Nat):Int):=by
 unfold spanP;rw [if_neg h];omega
theorem r4 (is:UInt8→Bool) (g:FuncId) (hfn:∀(ar:Array Kv) (w:Kw),(callFunc g ar).run prog w=.ok (.enter g ar) w) (hc:∀(b:UInt8) (w:Kw),Calls prog g #[.int .u8 (b.toNat:Int)] w (BS w (.bool (is b)))) (x:Nat) (g3:Nat) (w:Kw) (hb:Blk w g3 208 [.func (.func g) #[] #[]]) :
 Calls prog 194 #[.int .i32 (x:Int),pg g3] w (BS w (.bool (KB is x))):=by
 refine BR func194 ntmps194 X λM=>W ?_
 refine fvm M 6 [3] [(12,.bool ((decide (127<(x:Int))) || (!(is (UInt8.ofNat x)))))] ?_ (λk6=>?_)
 ·intro w1 M;refine W ?_;exact gr1 X ⟨by rw [qW],M.fr⟩
 refine A1 (d:=6) X (λh6=>?_) (λh6=>?_)
 ·refine T6 ?_;exact k6 M
 refine ym X X (Blk.c (hb.fr0 M.fr) 0 X) (gyq X (yd X (CE (r:=((UInt8.ofNat x).toNat:Int)) X X Hp Bi kD) (sxl_call (some 10) kw X X (C5 X X X hfn) (hc _ _) ?_)));rintro _ w2 ⟨rfl,hfw2⟩;refine cq ?_;have M:=M.step hfw2;refine T2 ?_;exact k6 M
theorem a1J (is:UInt8→Bool) (g:FuncId) (hfn:∀(ar:Array Kv) (w:Kw),(callFunc g ar).run prog w=.ok (.enter g ar) w) (hc:∀(b:UInt8) (w:Kw),Calls prog g #[.int .u8 (b.toNat:Int)] w λe w'=>e=.returned (.bool (is b))∧Fr0 w w') (l:Kz) (g3:Nat) (w:Kw) (hb:Blk w g3 208 [.func (.func g) #[] #[]]) :
 Calls prog 193 #[str l,.func (.func 194) #[] #[.pointer (some ⟨g3,0,none⟩)]] w λe w'=>e=.returned (.int .i64 (NY is l))∧Fr0 w w':=by
 refine (Tryz.strings_IndexFunc_grows 194 #[.pointer (some ⟨g3,0,none⟩)] call194 (KB is) ⟨l.toArray⟩ w ?_).mono ?_
 ·intro W x _ hbW;exact (r4 is g hfn hc x g3 W (hb.fr0 (Fr.ofBelow hbW))).mono λ_ _ ⟨h1,h2⟩=>⟨h1,h2.below⟩
 rintro e w' ⟨rfl,hb'⟩;exact ⟨X,Fr.ofBelow hb'⟩
theorem kU (is:UInt8→Bool) (g:FuncId) (hfn:∀(ar:Array Kv) (w:Kw),(callFunc g ar).run prog w=.ok (.enter g ar) w) (hc:∀(b:UInt8) (w:Kw),Calls prog g #[.int .u8 (b.toNat:Int)] w (BS w (.bool (is b)))) (l:Kz) (w:Kw) :
 Calls prog 153 #[str l,.func (.func g) #[] #[]] w (BS w (AA ((spanP is l:Nat):Int))):=by
 refine BR func153 ntmps153 X λM=>W ?_
 refine DG M kw X X 208 X X ([.func (.func g) #[] #[]]) X λg3 w1 hg3 M=>W ?_
 refine ya X (CY (us:=[]) (vs:=[pg g3]) X X X) (CW M 8 X X call193 (a1J is g hfn hc l _ _ (M.blk 0 X)) λw9 M=>W ?_);refine AB X (λh10=>?_) (λh10=>?_)
 ·have h10p:=odt h10;refine W ?_;refine ya X (BT X X Aa) (W ?_);exact gr1 X ⟨by rw [qX h10p],M.fr⟩
 have h10p:=odf h10;refine W ?_;exact gr1 X ⟨by rw [qY h10p],M.fr⟩
def nGlob : Nat:=max (max 0 1) (max 2 3)+1
structure Lay0 (w:Kw):Prop where
 utf:Laid w utfL
 err:m4 w
 size:nGlob≤w.heap.size
theorem eT : (Nat.blt 0 nGlob&&(Nat.blt 1 nGlob&&(Nat.blt 2 nGlob&&Nat.blt 3 nGlob)))=true:=by kernel_rfl
theorem Lay0.fr {S:Nat→Prop} {w w':Kw} (h:Lay0 w) (hf:Fr S w w') (hS:∀k,S k→nGlob≤k):Lay0 w':=by
 have hn:=eT;simp only [Bh] at hn
 obtain ⟨n1,n2,n3,n4⟩:=hn
 replace n1:=CF n1
 replace n2:=CF n2
 replace n3:=CF n3
 replace n4:=CF n4
 have no:∀g,g<nGlob→¬S g:=λg hg hs=>by have:=hS g hs;omega
 refine ⟨λp hp=>?_,?_,Bb h.size hf.size⟩
 ·obtain ⟨el,fz,h1⟩:=h.utf p hp
  have hp1:p.1<nGlob:=by
   simp only [utfL,Ak,Ax,or_false] at hp
   rcases hp with rfl|rfl
   ·exact n1
   exact n2
  exact ⟨el,fz,(hf.block _ (An.1 h1).1 (no _ hp1)).trans h1⟩
 obtain ⟨t,p,h1⟩:=h.err.1;obtain ⟨t',p',h2⟩:=h.err.2;exact ⟨⟨t,p,(hf.cell (World.block_lt_of_cell? w _ h1) (no _ n3)).trans h1⟩,t',p',(hf.cell (World.block_lt_of_cell? w _ h2) (no _ n4)).trans h2⟩
theorem PW {l:Kz} {c:UInt8} (h:l[0]?=some c):l.headD 0=c:=by cases l<;>simp_all
theorem ZA {a b:Prop} (h:¬a∨¬b):¬(a∧b):=λ⟨h1,h2⟩=>h.elim (λh=>h h1) (λh=>h h2)
def JH (t:Kz) (x:Lx):Lx:=
 if ((t.headD 0).toNat:Int)=48∧(1:Int)<((t.length:Nat):Int) then x.fail 4 x.at_
 else if (NK t).2=true then { x with nd:=.lit ⟨1,(NK t).1,false,[]⟩ }
 else { (x.fail 91 x.at_) with nd:=.lit ⟨1,(NK t).1,false,[]⟩ }
def qt : Kz→Kz→Option (Kz × Nat)
 | _,[]=>none
 | b,[c]=>if (c.toNat:Int)=39 then some (b,0) else none
 | b,c::d::r=>if (c.toNat:Int)=39 then (if (d.toNat:Int)=39 then qt (b++[d]) r else some (b,r.length+1)) else qt (b++[c]) (d::r)
theorem iU {l b:Kz} {i:Nat} {c:UInt8} (hc:l[i]?=some c) (h:¬(c.toNat:Int)=39):qt b (l.drop i)=qt (b++[c]) (l.drop (i+1)):=by
 rw [AG hc]
 cases l.drop (i+1) with
 | nil=>rw [show qt b [c]=if (c.toNat:Int)=39 then some (b,0) else none from rfl,if_neg h];rfl
 | cons d r=>rw [qt,if_neg h]
theorem iT {l b:Kz} {i:Nat} {c d:UInt8} (hc:l[i]?=some c) (hd:l[i+1]?=some d) (h:(c.toNat:Int)=39) (h2:(d.toNat:Int)=39):qt b (l.drop i)=qt (b++[d]) (l.drop (i+2)):=by
 rw [AG hc,AG hd,qt,if_pos h,if_pos h2]
theorem iV {l b:Kz} {i:Nat} {c:UInt8} (hc:l[i]?=some c) (h:(c.toNat:Int)=39) (he:((i+1:Nat):Int)=(l.length:Int)):qt b (l.drop i)=some (b,l.length-(i+1)):=by
 have he':i+1=l.length:=by omega
 rw [AG hc,he',Am,qt,if_pos h,Fy]
theorem aW {l b:Kz} {i:Nat} {c d:UInt8} (hc:l[i]?=some c) (hd:l[i+1]?=some d) (h:(c.toNat:Int)=39) (h2:¬(d.toNat:Int)=39):qt b (l.drop i)=some (b,l.length-(i+1)):=by
 have hlt:=(Aj.1 hd).1;rw [AG hc,AG hd,qt,if_pos h,if_neg h2]
 congr 2
 rw [Bz];omega
def JN (l:Kz) (x:Lx):Lx:=match qt [] l.tail with
 | some (b,k)=>if utf b=true then { x with nd:=.lit ⟨3,0,false,b⟩,at_:=x.at_+(l.length-k) } else x.fail 4 x.at_
 | none=>x.fail 4 x.at_
theorem cY {l b:Kz} {x:Lx} {i:Nat} (hi:i≤l.length) (h:qt [] l.tail=some (b,l.length-i)) (hu:utf b=true):JN l x={ x with nd:=.lit ⟨3,0,false,b⟩,at_:=x.at_+i }:=by
 unfold JN;rw [h];simp only [if_pos hu]
 congr 2;omega
theorem YS {l b:Kz} {x:Lx} {k:Nat} (h:qt [] l.tail=some (b,k)) (hu:utf b=false):JN l x=x.fail 4 x.at_:=by
 unfold JN;rw [h]
 simp [hu]
theorem qE {l:Kz} {x:Lx} (h:qt [] l.tail=none):JN l x=x.fail 4 x.at_:=by
 unfold JN;rw [h]
theorem Y4 {T e:Ly} {B b:Nat} {bs:Kx} {W W':Kw} (h:Lib.IsBuilderF T e B b bs W) (hb:Below W.heap.size W W'):Lib.IsBuilderF T e B b bs W':=
 have one:∀{p:Kv},Lib.BuilderAtF T e B b p bs W→Lib.BuilderAtF T e B b p bs W':=λh=>by
  have hlt:=h.lt;obtain ⟨hB,v,hv,hown,hne⟩:=h;exact ⟨hB,v,(hb.block b hlt).trans hv,hown.kept (row:=none) ⟨hb.os,hb.tape,hb.output,hb.size,λk hk _=>hb.block k hk⟩ (Classical.em _),hne⟩
 h.elim (λx=>.inl (one x)) (λx=>.inr (one x))
theorem o1 {w:Kw} {B g:Nat} (hB:B≤g) (hb:Blk w g 251 [.pointer none,.slice none 0 0]):Lib.IsBuilder 251 5 B g (bvs []) w:=
 .inl ⟨hB,.slice none 0 0,hb,⟨rfl,.inl ⟨rfl,rfl⟩⟩,by simp [Value.ownBlock]⟩
theorem Mem.belowOld {w w1 w2:Kw} {S:Nat→Prop} {g t:Nat} {cs:Kx} (M:Mem w S [As.blk g t cs] w1) (hg:g<w.heap.size) (hb:Below w.heap.size w1 w2):Mem w S [As.blk g t cs] w2 where
 fr:=⟨hb.os.trans M.fr.os,hb.tape.trans M.fr.tape,hb.output.trans M.fr.output,Bb M.fr.size hb.size,λk hk hn=>(hb.block k hk).trans (M.fr.block k hk hn)⟩
 ok i a hi:=by
  cases i with
  | zero=>
   simp only [Ai,Ad] at hi;subst hi
   exact (hb.block g hg).trans (M.blk 0 X)
  | succ i=>simp at hi
 lt i a hi k hk:=by
  obtain ⟨h1,h2⟩:=M.lt i a hi k hk;exact ⟨Bw h1 hb.size,h2⟩
 apart:=M.apart
theorem K0 (a0:Int) (a1:Int):prog.built 61 [(0,.int .u8 a0),(1,AA a1)]=some #[.int .u8 a0,AA a1,.bool false,str []]:=by kernel_rfl
theorem JZ (a0:Int) (a3:Kz):prog.built 61 [(0,.int .u8 a0),(3,str a3)]=some #[.int .u8 a0,AA 0,.bool false,str a3]:=by kernel_rfl
theorem Q0 : (prog.info? 251).map (·.zero)=some (some (.agg #[.pointer none,.slice none 0 0])):=by kernel_rfl
theorem tB (s:Kz) (x:Lx) (gx:Nat) (t:Kz) (w:Kw) (hb:Blk w gx 158 (Lx.cells s x)) (ht:0<t.length) (hl:t.length≤281474976710656) (hY:Lay0 w) (hgx:nGlob≤gx) :
 Calls prog 154 #[pg gx,str t] w λe w'=>e=.returned (.tuple #[])∧Blk w' gx 158 (Lx.cells s (JH t x))∧Fr (λk=>k=gx) w w':=by
 have hGx:∀k,k=gx→nGlob≤k:=λ_ e=>e▸hgx
 refine sx_enter (vs:=[_,_]) func154 X ntmps154 X ?_;have M:Mem w (λk=>k=gx) [As.blk gx 158 (Lx.cells s x)] w:=Mem.one hb;refine W ?_;obtain ⟨c,hc⟩:=EP (l:=t) (i:=0) A0;refine ya X (B8 X X X Aa hc) (W ?_);refine fvm M 4 [0,1] [(13,.bool ((decide ((c.toNat:Int)=48))&&(decide (1<(t.length:Int)))))] ?_ (λk9=>?_)
 ·intro w1 M;refine W ?_;refine AB X (λh13=>?_) (λh13=>?_)
  ·have h13p:=bd h13;refine W ?_;refine GL M 0 19 X X (AD X X call86) (GE s x _ _ _ _ (M.blk 0 X)) λw2 M=>W ?_
   exact qx_ret0 (Or.inl X) X ⟨X,by rw [JH,PW hc,if_pos h13p];exact M.blk 0 rfl,M.fr⟩
  have h13p:=bd h13;refine W ?_;refine cl 22 X (AD X X call195) (yH t _ A0 (hY.fr M.fr hGx).err) ?_;rintro _ w3 ⟨er,rfl,her,hfw3⟩;refine cq ?_;have M:=M.step hfw3;refine W ?_;refine ya X (pI X X her) (W ?_);refine AB X (λh26=>?_) (λh26=>?_)
  ·refine W ?_;refine GL M 0 32 X X (AD X X call86) (GE s x _ _ _ _ (M.blk 0 X)) λw4 M=>W ?_
   refine ya X (B7 (parts:=[(0,_),(1,_)]) X X (K0 _ _)) (ya X (B7 (parts:=[(0,_),(1,_)]) X X (GG _ _ _ _ _)) (W ?_));exact J9 (cs':=[str s,AA (((x.fail 91 x.at_).at_:Nat):Int),.int .u8 1,.int .u8 1,AA ((NK t).1),.bool false,str [],str [],.slice none 0 0,str ((x.fail 91 x.at_).say),AA (((x.fail 91 x.at_).tat:Nat):Int),.bool ((x.fail 91 x.at_).fin),AA ((x.fail 91 x.at_).e),AA (((x.fail 91 x.at_).wh:Nat):Int)]) M 0 kw X X X X X AT X (CL X) (BW X) X λw5 M=>sxl_nil (qx_ret0 (Or.inr X) X ⟨X,by rw [JH,PW hc,if_neg (ZA h13p),if_neg (UN (CJ h26))];exact M.blk 0 rfl,M.fr⟩)
  refine W ?_;refine ya X (B7 (parts:=[(0,_),(1,_)]) X X (K0 _ _)) (ya X (B7 (parts:=[(0,_),(1,_)]) X X (GG _ _ _ _ _)) (W ?_));exact J9 (cs':=[str s,AA (x.at_:Int),.int .u8 1,.int .u8 1,AA ((NK t).1),.bool false,str [],str [],.slice none 0 0,str x.say,AA (x.tat:Int),.bool x.fin,AA x.e,AA (x.wh:Int)]) M 0 kw X X X X X AT X (CL X) (BW X) X λw6 M=>sxl_nil (qx_ret0 (Or.inr X) X ⟨X,by rw [JH,PW hc,if_neg (ZA h13p),if_pos (BO h26)];exact M.blk 0 rfl,M.fr⟩)
 refine A1 (d:=9) X (λh9=>?_) (λh9=>?_)
 ·refine gyq X (yd X (BT X X Aa) (T2 ?_));exact k9 M
 refine T4 ?_;exact k9 M
theorem nV (s:Kz) (x:Lx) (gx:Nat) (l:Kz) (w:Kw) (hb:Blk w gx 158 (Lx.cells s x)) (hn:0<l.length) (hl:l.length+x.at_≤70368744177664) (hY:Lay0 w) (hgx:nGlob≤gx) :
 Calls prog 158 #[.pointer (some ⟨gx,0,none⟩),str l] w λe w'=>e=.returned (.tuple #[])∧Blk w' gx 158 (Lx.cells s (JN l x))∧Fr (λk=>k=gx) w w':=by
 have hGx:∀k,k=gx→nGlob≤k:=λ_ e=>e▸hgx
 have hlt:gx<w.heap.size:=hb.lt;refine sx_enter (vs:=[_,_]) func158 X ntmps158 X ?_;have M:Mem w (λk=>k=gx) [As.blk gx 158 (Lx.cells s x)] w:=Mem.one hb;refine W ?_;refine CI M X Q0 λg4 w1 hg4 M=>?_
 have hbu:Lib.IsBuilder 251 5 w.heap.size g4 (bvs []) w1:=o1 (by have:=M.fr.size;omega) (M.blk 0 X);have M:=M.drop 1
 replace M:Mem w (λk=>k=gx) [As.blk gx 158 (Lx.cells s x)] w1:=M
 refine W ?_;refine EF M [4,1,0] (λze zF e wr mz=>∃(i:Nat) (b:Kz),e=(5,.int .i64 ((i:Nat):Int))::ze∧zF wr∧(1≤i∧i≤l.length)∧(b.length≤i)∧(Lib.IsBuilder 251 5 w.heap.size g4 (bvs b) wr)∧(qt [] l.tail=qt b (l.drop i))∧mz=l.length-i) ⟨1,[],X,M,⟨Ab _,by omega⟩,Ae _,hbu,by rw [List.drop_one],rfl⟩ ?_;rintro _ w2 _ ⟨i,b,rfl,M,hi,hbl,hbu,hq,rfl⟩;refine W ?_;refine ya X (BT X X Aa) (W ?_);refine AB X (λh9=>?_) (λh9=>?_)
 ·have h9p:=odt h9;refine W ?_;obtain ⟨c,hc⟩:=EP (l:=l) (i:=i) A0;refine ya X (B8 X X X Aa hc) (W ?_);refine AB X (λh15=>?_) (λh15=>?_)
  ·have h15p:=odt h15;refine W ?_;refine ya X (BT X X Aa) (W ?_);refine A1 (d:=22) X (λh22=>?_) (λh22=>?_)
   ·have h22p:=odt h22;refine W ?_;have hbf:=Lib.IsBuilderF.of hbu;refine cl 28 X (AD X X call197) (Tryz.Builder_String_any_f w.heap.size g4 b _ hbf M.fr.size) ?_;rintro _ w3 ⟨rfl,hbf,hBw3⟩;refine cq ?_;have M:=M.belowOld hlt hBw3;refine cl 29 X (AD X X call67) (N9 _ _ A0 (hY.fr M.fr hGx).utf) ?_;rintro _ w4 ⟨rfl,hfw4⟩;refine cq ?_;have M:=M.step hfw4;have hbf:=Y4 hbf hfw4.below;refine W ?_;refine AB X (λh30=>?_) (λh30=>?_)
    ·have h30p:=CJ h30;refine W ?_;refine IB X (W ?_);exact GL M 0 55 X X (AD X X call86) (GE s x _ _ _ _ (M.blk 0 X)) λw5 M=>sxl_nil (qx_ret0 (Or.inr X) X ⟨X,by rw [YS (hq.trans (iV hc h15p h22p)) h30p];exact M.blk 0 rfl,M.fr⟩)
    have h30p:=BO h30;refine W ?_;refine cl 32 X (AD X X call197) (Tryz.Builder_String_any_f w.heap.size g4 b _ hbf M.fr.size) ?_;rintro _ w6 ⟨rfl,hbf,hBw6⟩;refine cq ?_;have M:=M.belowOld hlt hBw6;refine ya X (B7 (parts:=[(0,_),(3,_)]) X X (JZ _ _)) (ya X (B7 (parts:=[(0,_),(1,_)]) X X (GG _ _ _ _ _)) (W ?_));refine J9 (cs':=[str s,.int .i64 ((x.at_:Nat):Int),.int .u8 1,.int .u8 3,.int .i64 0,.bool false,str b,str [],.slice none 0 0,str x.say,.int .i64 ((x.tat:Nat):Int),.bool x.fin,.int .i64 x.e,.int .i64 ((x.wh:Nat):Int)]) M 0 kw X X X X X AT X (CL X) (BW X) X λw7 M=>W ?_
    refine gp1 M 0 X X X FU λw8 M=>W ?_
    exact qx_ret0 (Or.inl X) X ⟨X,by rw [cY (i:=i+1) A0 (hq.trans (iV hc h15p h22p)) h30p];exact M.blk 0 rfl,M.fr⟩
   have h22p:=odf h22;refine W ?_;obtain ⟨d,hd⟩:=EP (l:=l) (i:=i+1) A0;refine yd X (B8 X X X Aa hd) (W ?_);refine AB X (λh27=>?_) (λh27=>?_)
   ·have h27p:=(odf (CJ h27));refine W ?_;have hbf:=Lib.IsBuilderF.of hbu;refine cl 28 X (AD X X call197) (Tryz.Builder_String_any_f w.heap.size g4 b _ hbf M.fr.size) ?_;rintro _ w9 ⟨rfl,hbf,hBw9⟩;refine cq ?_;have M:=M.belowOld hlt hBw9;refine cl 29 X (AD X X call67) (N9 _ _ A0 (hY.fr M.fr hGx).utf) ?_;rintro _ w10 ⟨rfl,hfw10⟩;refine cq ?_;have M:=M.step hfw10;have hbf:=Y4 hbf hfw10.below;refine W ?_;refine AB X (λh30=>?_) (λh30=>?_)
    ·have h30p:=CJ h30;refine W ?_;refine IB X (W ?_);exact GL M 0 55 X X (AD X X call86) (GE s x _ _ _ _ (M.blk 0 X)) λw11 M=>sxl_nil (qx_ret0 (Or.inr X) X ⟨X,by rw [YS (hq.trans (aW hc hd h15p h27p)) h30p];exact M.blk 0 rfl,M.fr⟩)
    have h30p:=BO h30;refine W ?_;refine cl 32 X (AD X X call197) (Tryz.Builder_String_any_f w.heap.size g4 b _ hbf M.fr.size) ?_;rintro _ w12 ⟨rfl,hbf,hBw12⟩;refine cq ?_;have M:=M.belowOld hlt hBw12;refine ya X (B7 (parts:=[(0,_),(3,_)]) X X (JZ _ _)) (ya X (B7 (parts:=[(0,_),(1,_)]) X X (GG _ _ _ _ _)) (W ?_));refine J9 (cs':=[str s,.int .i64 ((x.at_:Nat):Int),.int .u8 1,.int .u8 3,.int .i64 0,.bool false,str b,str [],.slice none 0 0,str x.say,.int .i64 ((x.tat:Nat):Int),.bool x.fin,.int .i64 x.e,.int .i64 ((x.wh:Nat):Int)]) M 0 kw X X X X X AT X (CL X) (BW X) X λw13 M=>W ?_
    refine gp1 M 0 X X X FU λw14 M=>W ?_
    exact qx_ret0 (Or.inl X) X ⟨X,by rw [cY (i:=i+1) A0 (hq.trans (aW hc hd h15p h27p)) h30p];exact M.blk 0 rfl,M.fr⟩
   have h27p:=(odt (BO h27));refine W ?_;refine ya X (B8 X X X Aa hd) (cl 49 X (AD X X call198) (QZ w.heap.size g4 b d _ hbu A0 M.fr.size) ?_);rintro _ w15 ⟨rfl,hbu,hBw15⟩;refine cq ?_;have M:=M.belowOld hlt hBw15;refine W ?_;refine fag ⟨i+2,(b++[d]),X,M,?_,?_,?_,?_,X⟩ (by first|omega|(simp<;>omega))
   ·omega
   ·simp only [Ah,Af,Aq];omega
   ·exact hbu
   first
    | (rw [hq,iT hc hd h15p h27p])
    | (rw [hq,iU hc h15p])
  have h15p:=odf h15;refine W ?_;refine ya X (B8 X X X Aa hc) (cl 49 X (AD X X call198) (QZ w.heap.size g4 b c _ hbu A0 M.fr.size) ?_);rintro _ w16 ⟨rfl,hbu,hBw16⟩;refine cq ?_;have M:=M.belowOld hlt hBw16;refine W ?_;refine fag ⟨i+1,(b++[c]),X,M,?_,?_,?_,?_,X⟩ (by first|omega|(simp<;>omega))
  ·omega
  ·simp only [Ah,Af,Aq];omega
  ·exact hbu
  first
   | (rw [hq,iT hc hd h15p h27p])
   | (rw [hq,iU hc h15p])
 have h9p:=odf h9;refine W ?_;refine GL M 0 55 X X (AD X X call86) (GE s x _ _ _ _ (M.blk 0 X)) λw17 M=>sxl_nil (qx_ret0 (Or.inr X) X ?_)
 obtain rfl:i=l.length:=by omega
 exact ⟨X,by rw [qE (hq.trans (by rw [Am];cases b<;>rfl))];exact M.blk 0 rfl,M.fr⟩
end Go.Proofs.YtppmdnmjepkfaaaGreatDoor
