/- Lemmas. -/
import Derived.Test.YtppmdnmjepkfaaaGreatDoorYb5
import Derived.Shelf.Strings.BuilderF
import Derived.Shelf.Strings.Trim
import Derived.Shelf.Strings.FuncGrows
import Derived.Shelf.Strconv.ParseIntPublic10
set_option maxHeartbeats 16000000
set_option maxRecDepth 100000
namespace Go.Proofs.YtppmdnmjepkfaaaGreatDoor
open Go.RowKit
open Tryz
open Decidable renaming decide→O
open Option renaming some→G,none→zx
open Bool renaming true→zz,false→zy
open True renaming intro→zw
open Go.Proofs.Tryz renaming prog→zv
open Go renaming Calls→zt
theorem W9 : tabL.length=256:=by unfold tabL;simp
theorem rL : ∀u∈tabL,u.oneCell'=zz:=by
 intro u hu;obtain ⟨n,_,rfl⟩:=Cq.1 hu
 rfl
theorem yI {n:Nat} (h:n<256):tabL[n]?=G (.int .u8 (tabN n:Int)):=by unfold tabL;simp [h]
theorem lL (c:UInt8):tabN c.toNat=if CS c then 2 else if F9 c then 1 else 0:=by
 have h1:(((O (65≤c.toNat)&&O (c.toNat≤90)) || (O (97≤c.toNat)&&O (c.toNat≤122)))=CS c):=by
  unfold CS;rw [Bool.or_comm]
 unfold tabN;rw [h1]
 rfl
def zeroT : Kx:=List.replicate 256 (.int .u8 0)
theorem iS : (zv.info? 139).map (·.zero)=G (G (.agg zeroT.toArray)):=zr
theorem iT : (zv.info? 139).map (·.size)=G 256:=zr
def I6 (l:Kz):Bool:=l.all λc=>CS c || F9 c
theorem S9 : ∀(i:Nat) (l:Kz),i≠0→GB i l=I6 l
 | _,[],_=>rfl
 | i,c::l,h=>by
  rw [GB,S9 (i+1) l A0,show (i != 0)=zz by simp [h],Iz]
  rfl
theorem Q9 (c:UInt8) (l:Kz):GB 0 (c::l)=(CS c&&I6 (c::l)):=by
 rw [GB,S9 1 l A0]
 show ((CS c || (F9 c&&(0 != 0)))&&I6 l)=(CS c&&((CS c || F9 c)&&I6 l))
 cases CS c<;>cases F9 c<;>simp
theorem YU : zeroT.length=256:=by unfold zeroT;rw [List.length_replicate]
theorem E8 (l:Kz) (w:Kw) (hm:(l.length:Int)<4611686018427387904):zt zv 37 #[str l] w (BR w (.bool (B5 l))):=by
 refine sx_enter (vs:=[_]) func37 X ntmps37 X ?_
 by_cases h0:l.length=0
 ·have hno:B5 l=zy:=by unfold B5;simp;omega
  refine V ?_;refine ya X (BT X X Ad) (ya X (DK X X X A0) (V ?_));exact gr1 X ⟨by rw [hno],Fr.refl⟩
 by_cases h1:32<l.length
 ·have hno:B5 l=zy:=by unfold B5;simp;omega
  refine V ?_;refine ya X (BT X X Ad) (ya X (BQ X X X A0) (V ?_));refine yd X (BT X X Ad) (yd X (PF X X X A0) (V ?_));exact gr1 X ⟨by rw [hno],Fr.refl⟩
 obtain ⟨c0,r0,hl⟩:∃c0 r0,l=c0::r0:=Ff (by intro e;rw [e] at h0;exact h0 rfl)
 have hno:B5 l=(CS c0&&I6 l):=by
  have:GB 0 l=(CS c0&&I6 l):=by rw [hl];exact Q9 c0 r0
  unfold B5;rw [this];simp [show 1≤l.length by omega,show l.length≤32 by omega]
 have hc0:l[0]?=G c0:=by rw [hl];rfl
 refine V ?_;refine ya X (BT X X Ad) (ya X (BQ X X X A0) (V ?_));refine yd X (BT X X Ad) (yd X (IP X X X A0) (V ?_));refine sxl_call (G 13) (by first|exact wn_none rfl|exact wn_on rfl rfl rfl) X X (AE X X call64) (iU _) ?_;rintro _ w1 ⟨rfl,hf1⟩;refine cq (sxl_does (G 3) kw X X (λρ hρ=>BP 139 X _ zeroT iS X) ?_);rintro _ w2 ⟨g,rfl,hg1,hg2,hb,hf2⟩;refine sxl_does zx kw X X (λρ hρ=>BZ 139 (.tmp 3) (.tmp 13) X g 0 139 _ tabL (hρ _ _ X) (hρ _ _ X) hb (by rw [W9];exact iT) (by rw [W9,YU];omega) rL) ?_;rintro _ w3 ⟨rfl,hb3,hf3⟩;rw [HZ zeroT tabL (by rw [W9,YU])] at hb3
 have hf:Fr0 w w3:=(hf1.trans hf2).step hf3 (λk hk e=>by have:=hf1.size;omega);refine V ?_;refine ya X (BT X X Ad) (V ?_)
 have tcell:∀c:UInt8,Cell w3.heap g (0+((c.toNat:Int)).toNat*1) (.int .u8 (tabN c.toNat:Int)):=λc=>by
  have:=hb3.c c.toNat (yI c.toNat_lt)
  simpa using this
 refine sx_loop (λe wr m=>∃(i:Nat),e=[(16,AA (i:Int)),(15,AA (l.length:Int)),(3,pg g),(0,str l)]∧w3=wr∧i≤l.length∧I6 (l.take i)=zz∧m=l.length-i) ⟨0,X,X,Aj _,X,X⟩ ⟨X,X,X,X,zw⟩ ?_;rintro _ _ _ ⟨i,rfl,rfl,hi,hok,rfl⟩
 by_cases hlt:i<l.length
 ·obtain ⟨c,hc⟩:∃c,l[i]?=G c:=⟨_,Av hlt⟩
  have h256:=c.toNat_lt;have ct:=tcell c
  have hsplit:l=l.take i++c::l.drop (i+1):=by
   have h1:l.drop i=c::l.drop (i+1):=by
    rw [Eo hlt]
    congr 1
    rw [Av hlt] at hc
    exact Bz hc
   rw [←h1,Dd]
  have htab:=lL c
  by_cases hz:tabN c.toNat=0
  ·have hbad:I6 l=zy:=by
    rw [hz] at htab
    have h3:CS c=zy:=by cases hq:CS c with|false=>rfl|true=>rw [hq] at htab;simp at htab
    have h4:F9 c=zy:=by cases hq:F9 c with|false=>rfl|true=>rw [h3,hq] at htab;simp at htab
    rw [hsplit];unfold I6;simp [h3,h4]
   refine V ?_;refine ya X (DC X X X A0) (V ?_);refine ya X (BA X X X Ad hc) (ya X (G8 X X X (ar X) A0) (yl X X (by assumption) (ya X (DK X X X A0) (V ?_))));exact gr1 X ⟨by rw [hno,hbad,En],hf⟩
  have hstep:I6 (l.take (i+1))=zz:=by
   have h3:(CS c || F9 c)=zz:=by
    cases hq:CS c with
    | true=>rfl
    | false=>cases hq2:F9 c with
     | true=>rfl
     | false=>rw [hq,hq2] at htab;simp at htab;omega
   rw [Dl,hc];unfold I6 at hok ⊢
   rw [Gh,hok]
   simpa using h3
  refine V ?_;refine ya X (DC X X X A0) (V ?_);refine ya X (BA X X X Ad hc) (ya X (G8 X X X (ar X) A0) (yl X X (by assumption) (ya X (BQ X X X A0) (V ?_))));refine D3 X X (V ?_);exact fag ⟨i+1,X,X,A0,hstep,rfl⟩
 obtain rfl:i=l.length:=A0
 rw [Bc] at hok
 have h256:=c0.toNat_lt;have ct:=tcell c0;have htab:=lL c0
 cases hlet:CS c0 with
 | true=>
  rw [hlet] at htab
  have h2:tabN c0.toNat=2:=htab;refine V ?_;refine ya X (DI X X X A0) (V ?_);refine ya X (BA (m:=0) X X X Ad hc0) (ya X (G8 X X X (ar X) A0) (yl X X (by assumption) (ya X (DK X X X A0) (V ?_))));exact gr1 X ⟨by rw [hno,hlet,hok];rfl,hf⟩
 | false=>
  rw [hlet] at htab
  have h2:tabN c0.toNat≠2:=by rw [htab];cases F9 c0<;>simp
  refine V ?_;refine ya X (DI X X X A0) (V ?_);refine ya X (BA (m:=0) X X X Ad hc0) (ya X (G8 X X X (ar X) A0) (yl X X (by assumption) (ya X (BQ X X X A0) (V ?_))));exact gr1 X ⟨by rw [hno,hlet];rfl,hf⟩
section
inductive Xn
 | zero
 | lit (v:Vl)
 | var (s:Kz)
 | un (op:UInt8) (a:Xn)
 | bin (op:UInt8) (a b:Xn)
def Xn.op : Xn→UInt8
 | .zero=>0
 | .lit _=>1
 | .var _=>2
 | .un o _=>o
 | .bin o _ _=>o
def Xn.vl : Xn→Vl
 | .lit v=>v
 | _=>zeroVl
def Xn.nm : Xn→Kz
 | .var s=>s
 | _=>[]
def Xn.nk : Xn→Nat
 | .un _ _=>1
 | .bin _ _ _=>2
 | _=>0
def Xn.cells (n:Xn) (A:Ky):Kx:=[.int .u8 (n.op.toNat:Int),.int .u8 (n.vl.kind.toNat:Int),.int .i64 n.vl.int,.bool n.vl.bool,str n.vl.text,str n.nm,.slice A n.nk n.nk]
def Xn.leaf : Xn→Bool
 | .un _ _=>zy
 | .bin _ _ _=>zy
 | _=>zz
theorem Xn.nk_leaf {n:Xn} (h:n.leaf=zz):n.nk=0:=by cases n<;>first|rfl|cases h
def BY (b:UInt8):Bool:=O ((48:Int)≤(b.toNat:Int))&&O ((b.toNat:Int)≤57)
def DD (b:UInt8):Bool:=O ((97:Int)≤((b ||| 32).toNat:Int))&&O (((b ||| 32).toNat:Int)≤122)
def BS (b:UInt8):Bool:=DD b || BY b || O ((b.toNat:Int)=45) || O ((b.toNat:Int)=95) || O ((b.toNat:Int)=46)
def signTab : List (Kz × (UInt8 × Nat)):=[([111,114],(6,1)),([97,110,100],(5,2)),([61],(7,4)),([33,61],(8,4)),([60],(9,4)),([60,61],(10,4)),([62],(11,4)),([62,61],(12,4)),([43],(13,5)),([45],(14,5)),([42],(15,6)),([47],(16,6)),([37],(17,6))]
def TC : List (Kz × (UInt8 × Nat))→Kz→Option (UInt8 × Nat)
 | [],_=>zx
 | (k',v)::r,k=>if k=k' then G v else TC r k
def B4 (s:Kz):Option (UInt8 × Nat):=TC signTab s
def IL (s:Kz):Bool:=O (s=[97,110,100]) || O (s=[111,114]) || O (s=[110,111,116]) || O (s=[116,114,117,101]) || O (s=[102,97,108,115,101])
structure Lx where
 at_:Nat
 nd:Xn
 say:Kz
 tat:Nat
 fin:Bool
 e:Int
 wh:Nat
def Lx.cells (s:Kz) (x:Lx):Kx:=[str s,.int .i64 (x.at_:Int),.int .u8 (x.nd.op.toNat:Int),.int .u8 (x.nd.vl.kind.toNat:Int),.int .i64 x.nd.vl.int,.bool x.nd.vl.bool,str x.nd.vl.text,str x.nd.nm,.slice zx 0 0,str x.say,.int .i64 (x.tat:Int),.bool x.fin,.int .i64 x.e,.int .i64 (x.wh:Int)]
def Lx.fail (x:Lx) (e:Int) (p:Nat):Lx:=if x.e=0 then { x with e:=e,wh:=p } else x
def GX (l:Kz):Kz:=l.dropWhile (λb=>b==32)
def decN (l:Kz):Nat:=l.foldl (λn b=>n*10+(b.toNat-48)) 0
section
variable (s:Kz) (fr:Nat→Lx→Xn × Lx)
end
def lx0 : Lx:=⟨0,.zero,[],0,zy,0,0⟩
end
def sK (p:UInt8 × Nat):Kv:=.agg #[.int .u8 (p.1.toNat:Int),.int .i64 (p.2:Int)]
def GG : List (Kz × Kv):=signTab.map λp=>(p.1,sK p.2)
theorem TO (k:Kz):∀l:List (Kz × (UInt8 × Nat)),CG (l.map λp=>(p.1,sK p.2)) k=(TC l k).map sK
 | []=>rfl
 | (k',v)::r=>by
  rw [Cc,CG,TC]
  by_cases h:k=k'
  ·rw [Ac h,Ac h];rfl
  rw [Ae h,Ae h];exact TO k r
theorem G5 (k:Kz):(CG GG k).getD (.agg #[.int .u8 0,AA 0])=.agg #[.int .u8 (((B4 k).getD (0,0)).1.toNat:Int),AA ((((B4 k).getD (0,0)).2:Nat):Int)]:=by
 unfold GG B4;rw [TO]
 cases TC signTab k<;>rfl
theorem JM (k:Kz):(CG GG k).isSome=(B4 k).isSome:=by
 unfold GG B4;rw [TO]
 cases TC signTab k<;>rfl
theorem uR (v:Kz):([[97,110,100],[111,114],[110,111,116],[116,114,117,101],[102,97,108,115,101]].any (λz=>O (v=z)))=IL v:=by
 simp only [Ec,List.any_nil,IL,Iy,Bool.or_assoc]
theorem NJ (a0:Int) (a2:Bool):zv.built 61 [(0,.int .u8 a0),(2,.bool a2)]=G #[.int .u8 a0,AA 0,.bool a2,str []]:=zr
theorem GQ (a0:Int) (c1_0 c1_1 c1_2 c1_3:Kv):zv.built 113 [(0,.int .u8 a0),(1,.agg #[c1_0,c1_1,c1_2,c1_3])]=G #[.int .u8 a0,c1_0,c1_1,c1_2,c1_3,str [],.slice zx 0 0]:=zr
theorem U5 (a0:Int) (a2:Kz):zv.built 113 [(0,.int .u8 a0),(2,str a2)]=G #[.int .u8 a0,.int .u8 0,AA 0,.bool zy,str [],str a2,.slice zx 0 0]:=zr
theorem CO (a0:Int) (a1:Int):zv.built 164 [(0,.int .u8 a0),(1,AA a1)]=G #[.int .u8 a0,AA a1]:=zr
theorem NT : (zv.info? 54).map (·.size)=G 1:=zr
theorem GF : (zv.info? 3).map (·.size)=G 1:=zr
theorem G4 : (zv.info? 9).map (·.size)=G 1:=zr
theorem GN (s:Kz) (x:Lx) (gx:Nat) (er:Int) (p:Nat) (w:Kw) (hb:Blk w gx 158 (Lx.cells s x)) :
 zt zv 86 #[pg gx,AA er,AA (p:Int)] w λe w'=>e=.returned (.tuple #[])∧Blk w' gx 158 (Lx.cells s (x.fail er p))∧Fr (λk=>k=gx) w w':=by
 refine sx_enter (vs:=[_,_,_]) func86 X ntmps86 X ?_;have M:Mem w (λk=>k=gx) [As.blk gx 158 (Lx.cells s x)] w:=Mem.one hb;refine W ?_;refine AC X (λh10=>?_) (λh10=>?_)
 ·have h10p:=odt h10;refine W ?_;refine gp1 M 0 X X X NT λw1 M=>W ?_
  exact gp1 M 0 X X X GF λw2 M=>sxl_nil (qx_ret0 (Or.inr X) X ⟨X,by rw [Lx.fail,Ac h10p];exact M.blk 0 rfl,M.fr⟩)
 have h10p:=odf h10;exact sx_skip (qx_ret0 (Or.inr X) X ⟨X,by rw [Lx.fail,Ae h10p];exact M.blk 0 rfl,M.fr⟩)
theorem XU (b:UInt8) (w:Kw):zt zv 152 #[.int .u8 (b.toNat:Int)] w (BR w (.bool (BY b))):=by
 refine BO func152 ntmps152 X λM=>W ?_
 refine fvm M 3 [2] [(8,.bool ((O (48≤(b.toNat:Int)))&&(O ((b.toNat:Int)≤57))))] ?_ (λk5=>?_)
 ·intro w1 M;refine W ?_;exact gr1 X ⟨X,M.fr⟩
 refine A1 (d:=5) X (λh5=>?_) (λh5=>?_)
 ·refine T3 ?_;exact k5 M
 refine T3 ?_;exact k5 M
theorem ZQ (b:UInt8) (w:Kw):zt zv 155 #[.int .u8 (b.toNat:Int)] w (BR w (.bool (DD b))):=by
 refine BO func155 ntmps155 X λM=>W ?_
 refine ya X (a0Y (b:=b) (c:=32) X X X) (W ?_);refine fvm M 4 [2] [(10,.bool ((O (97≤((b ||| 32).toNat:Int)))&&(O (((b ||| 32).toNat:Int)≤122))))] ?_ (λk6=>?_)
 ·intro w1 M;refine W ?_;exact gr1 X ⟨X,M.fr⟩
 refine A1 (d:=6) X (λh6=>?_) (λh6=>?_)
 ·refine gyq X (yd X (a0Y (b:=b) (c:=32) X X X) (T2 ?_));exact k6 M
 refine T4 ?_;exact k6 M
theorem p9 (b:UInt8) (w:Kw):zt zv 156 #[.int .u8 (b.toNat:Int)] w (BR w (.bool (BS b))):=by
 refine BO func156 ntmps156 X λM=>W ?_
 refine CQ M 4 X X call155 (ZQ _ _) λw1 M=>yb X (fvm M 3 [2,0] [(8,.bool ((DD b) || (BY b)))] ?_ (λk5=>?_))
 ·intro w2 M;refine yb X (fvm M 3 [2,0] [(12,.bool (((DD b) || (BY b)) || (O ((b.toNat:Int)=45))))] ?_ (λk9=>?_))
  ·intro w3 M;refine yb X (fvm M 3 [2,0] [(16,.bool ((((DD b) || (BY b)) || (O ((b.toNat:Int)=45))) || (O ((b.toNat:Int)=95))))] ?_ (λk13=>?_))
   ·intro w4 M;refine yb X (fvm M 3 [2] [(20,.bool (((((DD b) || (BY b)) || (O ((b.toNat:Int)=45))) || (O ((b.toNat:Int)=95))) || (O ((b.toNat:Int)=46))))] ?_ (λk17=>?_))
    ·intro w5 M;refine W ?_;exact gr1 X ⟨X,M.fr⟩
    refine A1 (d:=17) X (λh17=>?_) (λh17=>?_)
    ·refine T3 ?_;exact k17 M
    refine T3 ?_;exact k17 M
   refine A1 (d:=13) X (λh13=>?_) (λh13=>?_)
   ·refine T3 ?_;exact k13 M
   refine T3 ?_;exact k13 M
  refine A1 (d:=9) X (λh9=>?_) (λh9=>?_)
  ·refine T3 ?_;exact k9 M
  refine T3 ?_;exact k9 M
 refine A1 (d:=5) X (λh5=>?_) (λh5=>?_)
 ·refine T3 ?_;exact k5 M
 refine gyq X (sxl_call (G 7) kw X X (AE X X call152) (XU _ _) ?_);rintro _ w6 ⟨rfl,hfw6⟩;refine cq ?_;have M:=M.step hfw6;exact yb X (k5 M)
theorem a0u (A:Ky) (c:Nat) (l:List Kz) (v:Kz) (w:Kw) (hl:l.length≤4611686018427387904) (hR:Rd w A (l.length*1) (AF BH l)) :
 zt zv 188 #[.slice A l.length c,str v] w (BR w (AA (ixJ (λ_ z=>O (v=z)) 0 l))):=by
 refine BO func188 ntmps188 X λM=>W ?_
 refine EC M [7,1,0] (λze zF e wr mz=>∃(i:Nat),e=(8,AA (i:Int))::ze∧zF wr∧(i≤l.length)∧(ixJ (λ_ z=>O (v=z)) 0 l=ixJ (λ_ z=>O (v=z)) i (l.drop i))∧mz=l.length-i) ⟨0,X,M,Aj _,X,X⟩ ?_;rintro _ w1 _ ⟨i,rfl,M,hi,hr,rfl⟩;refine W ?_;refine AC X (λh9=>?_) (λh9=>?_)
 ·have h9p:=odt h9;refine W ?_;obtain ⟨x,_,_,hx,hA_x⟩:=ex5 (i:=i) (hR.fr0 M.fr);refine ya X (AK i hA_x X X X (sl X) A0) (yl X X (BC DN (hR.fr0 M.fr) hA_x hx 0 X) (W ?_));refine AC X (λh16=>?_) (λh16=>?_)
  ·refine W ?_;exact gr1 X ⟨by rw [hr,AH hx,ixJ,Ac h16],M.fr⟩
  have h16p:=odf h16;refine W ?_;refine fag ⟨i+1,X,M,?_,?_,X⟩
  ·omega
  rw [hr,AH hx,ixJ,AN h16]
 have h9p:=odf h9;refine W ?_;refine gr1 X ?_;obtain rfl:i=l.length:=A0
 exact ⟨by rw [hr,Aq];rfl,M.fr⟩
theorem gW (A:Ky) (c:Nat) (l:List Kz) (v:Kz) (w:Kw) (hl:l.length≤4611686018427387904) (hR:Rd w A (l.length*1) (AF BH l)) :
 zt zv 143 #[.slice A l.length c,str v] w (BR w (.bool (l.any (λz=>O (v=z))))):=by
 refine BO func143 ntmps143 X λM=>W ?_
 refine CQ M 7 X X call188 (a0u _ _ l _ _ (by first|omega|decide) (hR.fr0 M.fr)) λw1 M=>W ?_
 exact gr1 X ⟨by rw [MN],M.fr⟩
theorem KL (w:Kw) :
 zt zv 90 #[] w λe w'=>∃g,e=.returned (.map (G g))∧Mp w' g GG∧w.heap.size≤g∧Fr0 w w':=by
 refine BO func90 ntmps90 X λM=>W ?_
 refine K9 M kw X X X λg1 w1 hg1 M=>ya X (B8 (parts:=[(0,_),(1,_)]) X X (CO _ _)) (ET M 0 kw X X X X X Ci Ad X λw2 M=>ya X (B8 (parts:=[(0,_),(1,_)]) X X (CO _ _)) (ET M 0 kw X X X X X Ci Ad X λw3 M=>ya X (B8 (parts:=[(0,_),(1,_)]) X X (CO _ _)) (ET M 0 kw X X X X X Ci Ad X λw4 M=>ya X (B8 (parts:=[(0,_),(1,_)]) X X (CO _ _)) (ET M 0 kw X X X X X Ci Ad X λw5 M=>ya X (B8 (parts:=[(0,_),(1,_)]) X X (CO _ _)) (ET M 0 kw X X X X X Ci Ad X ?_)))))
 intro w6 M;refine ya X (B8 (parts:=[(0,_),(1,_)]) X X (CO _ _)) (ET M 0 kw X X X X X Ci Ad X λw7 M=>ya X (B8 (parts:=[(0,_),(1,_)]) X X (CO _ _)) (ET M 0 kw X X X X X Ci Ad X λw8 M=>ya X (B8 (parts:=[(0,_),(1,_)]) X X (CO _ _)) (ET M 0 kw X X X X X Ci Ad X λw9 M=>ya X (B8 (parts:=[(0,_),(1,_)]) X X (CO _ _)) (ET M 0 kw X X X X X Ci Ad X λw10 M=>ya X (B8 (parts:=[(0,_),(1,_)]) X X (CO _ _)) (ET M 0 kw X X X X X Ci Ad X λw11 M=>ya X (B8 (parts:=[(0,_),(1,_)]) X X (CO _ _)) ?_)))));refine ET M 0 kw X X X X X Ci Ad X λw12 M=>ya X (B8 (parts:=[(0,_),(1,_)]) X X (CO _ _)) (ET M 0 kw X X X X X Ci Ad X λw13 M=>ya X (B8 (parts:=[(0,_),(1,_)]) X X (CO _ _)) (ET M 0 kw X X X X X Ci Ad X λw14 M=>W ?_))
 exact gr1 X ⟨_,X,M.mp 0 X,hg1,M.fr⟩
theorem SC (v:Kz) (w:Kw) :
 zt zv 196 #[str v] w (BR w (.bool (IL v))):=by
 refine BO func196 ntmps196 X λM=>W ?_
 refine CP M kw X X [str [97,110,100],str [111,114],str [110,111,116],str [116,114,117,101],str [102,97,108,115,101]] ([str [97,110,100],str [111,114],str [110,111,116],str [116,114,117,101],str [102,97,108,115,101]]) X X X X Be CK X X (by intro v hv;simp only [Ao,Ba,or_false] at hv;rcases hv with rfl|rfl|rfl|rfl|rfl<;>rfl) X λg3 w1 hg3 M=>yb X (CQ M 5 X X call143 (gW _ _ [[97,110,100],[111,114],[110,111,116],[116,114,117,101],[102,97,108,115,101]] _ _ (by first|omega|decide) (M.rdBlk 0 X X)) λw2 M=>W ?_)
 exact gr1 X ⟨by rw [uR],M.fr⟩
def KH (t:Kz) (x:Lx):Lx:=(if ((O (t=[116,114,117,101])) || (O (t=[102,97,108,115,101])))=zz then (⟨x.at_,.lit ⟨2,0,(O (t=[116,114,117,101])),[]⟩,x.say,x.tat,x.fin,x.e,x.wh⟩:Lx) else (if (IL t)=zz then (⟨x.at_,x.nd,t,x.tat,x.fin,x.e,x.wh⟩:Lx) else (if (!(B5 t))=zz then (x.fail 4 x.at_) else (⟨x.at_,.var t,x.say,x.tat,x.fin,x.e,x.wh⟩:Lx))))
theorem oQ (s:Kz) (x:Lx) (gx:Nat) (t:Kz) (w:Kw) (hb:Blk w gx 158 (Lx.cells s x)) (ht:(t.length:Int)<4611686018427387904) :
 zt zv 157 #[pg gx,str t] w λe w'=>e=.returned (.tuple #[])∧Blk w' gx 158 (Lx.cells s (KH t x))∧Fr (λk=>k=gx) w w':=by
 refine sx_enter (vs:=[_,_]) func157 X ntmps157 X ?_;have M:Mem w (λk=>k=gx) [As.blk gx 158 (Lx.cells s x)] w:=Mem.one hb;refine W ?_;refine fvm M 3 [0,1] [(16,.bool ((O (t=[116,114,117,101])) || (O (t=[102,97,108,115,101]))))] ?_ (λk13=>?_)
 ·intro w1 M;refine W ?_;refine AC X (λh10=>?_) (λh10=>?_)
  ·have h10p:=bd h10;refine W ?_;refine ya X (B8 (parts:=[(0,_),(2,_)]) X X (NJ _ _)) (ya X (B8 (parts:=[(0,_),(1,_)]) X X (GQ _ _ _ _ _)) (W ?_));refine FJ (cs':=[str s,AA (x.at_:Int),.int .u8 1,.int .u8 2,AA 0,.bool (O (t=[116,114,117,101])),str [],str [],.slice zx 0 0,str x.say,AA (x.tat:Int),.bool x.fin,AA x.e,AA (x.wh:Int)]) M 0 kw X X X X X AU X (CM X) (BN X) X λw2 M=>W ?_
   exact qx_ret0 (Or.inr X) X ⟨X,by rw [KH,Ac h10];exact M.blk 0 rfl,M.fr⟩
  have h10p:=bd h10;refine W ?_;refine CQ M 27 X X call196 (SC _ _) λw3 M=>W ?_
  refine AC X (λh25=>?_) (λh25=>?_)
  ·refine W ?_;refine gp1 M 0 X X X G4 λw4 M=>W ?_
   exact qx_ret0 (Or.inr X) X ⟨X,by rw [KH,AN h10,Ac h25];exact M.blk 0 rfl,M.fr⟩
  refine W ?_;refine CQ M 35 X X call37 (E8 _ _ A0) λw5 M=>W ?_
  refine AC X (λh33=>?_) (λh33=>?_)
  ·refine W ?_;refine FQ M 0 42 X X (AE X X call86) (GN s _ _ _ _ _ (M.blk 0 X)) λw6 M=>W ?_
   exact qx_ret0 (Or.inr X) X ⟨X,by rw [KH,AN h10,AN h25,Ac h33];exact M.blk 0 rfl,M.fr⟩
  refine W ?_;refine ya X (B8 (parts:=[(0,_),(2,_)]) X X (U5 _ _)) (W ?_);refine FJ (cs':=[str s,AA (x.at_:Int),.int .u8 2,.int .u8 0,AA 0,.bool zy,str [],str t,.slice zx 0 0,str x.say,AA (x.tat:Int),.bool x.fin,AA x.e,AA (x.wh:Int)]) M 0 kw X X X X X AU X (CM X) (BN X) X λw7 M=>W ?_
  exact qx_ret0 (Or.inr X) X ⟨X,by rw [KH,AN h10,AN h25,AN h33];exact M.blk 0 rfl,M.fr⟩
 refine A1 (d:=13) X (λh13=>?_) (λh13=>?_)
 ·refine T3 ?_;exact k13 M
 refine T3 ?_;exact k13 M
end Go.Proofs.YtppmdnmjepkfaaaGreatDoor
namespace Go.Proofs
open Go.Shelf
open Decidable renaming decide→O
open Option renaming some→G,none→zx
open Bool renaming true→zz,false→zy
open True renaming intro→zw
open Go.Proofs.Tryz renaming prog→zv
open Go renaming Calls→zt
def Tryz.lays169_ren : Go.Shelf.Ren:=⟨fun|169=>197|n=>n,fun|70=>248|9=>9|0=>0|72=>251|37=>249|127=>272|3=>3|5=>5|n=>n,fun|n=>n⟩
theorem Tryz.lays169 : Go.Proofs.Lays.n169 zv Tryz.lays169_ren:={
 mixed:=by kernel_rfl
 f169:=func197.trans (congrArg G (by kernel_rfl))
 t0:=underlying0
 a0:=isAgg0
 z0:=sizeOf0
 v0:=zeroValue0
 t3:=underlying3
 a3:=isAgg3
 z3:=sizeOf3
 v3:=zeroValue3
 t9:=underlying9
 a9:=isAgg9
 z9:=sizeOf9
 v9:=zeroValue9
 t37:=underlying249
 a37:=isAgg249
 z37:=sizeOf249
 v37:=zeroValue249
 t70:=underlying248
 a70:=isAgg248
 z70:=sizeOf248
 v70:=zeroValue248
 t72:=underlying251
 a72:=isAgg251
 z72:=sizeOf251
 v72:=zeroValue251
 t127:=underlying272
 a127:=isAgg272
 z127:=sizeOf272
 v127:=zeroValue272 }
theorem Tryz.Builder_Extra_169 : Builder.Extra zv Tryz.lays169_ren:={
 sizeBuilder:=by kernel_rfl
 liesBuilder:=by kernel_rfl
 t5:=underlying5
 a5:=isAgg5
 z5:=sizeOf5
 v5:=zeroValue5
 infoByte:=by kernel_rfl
 cellsByte:=by kernel_rfl
 sizeByte:=by kernel_rfl
 neB5:=by decide }
def Tryz.lays161_ren : Go.Shelf.Ren:=⟨fun|161=>151|231=>189|227=>190|233=>191|235=>192|228=>212|197=>213|151=>214|260=>234|152=>235|137=>246|119=>247|224=>248|225=>249|217=>256|266=>259|n=>n,fun|9=>9|4=>4|3=>3|5=>5|117=>238|116=>237|0=>0|124=>241|105=>267|21=>21|119=>139|46=>228|139=>227|138=>226|n=>n,fun|3=>0|4=>1|n=>n⟩
theorem Tryz.lays161 : Go.Proofs.Lays.n161 zv Tryz.lays161_ren:={
 mixed:=by kernel_rfl
 f119:=func247.trans (congrArg G (by kernel_rfl))
 f137:=func246.trans (congrArg G (by kernel_rfl))
 f151:=func214.trans (congrArg G (by kernel_rfl))
 f152:=func235.trans (congrArg G (by kernel_rfl))
 f161:=func151.trans (congrArg G (by kernel_rfl))
 f197:=func213.trans (congrArg G (by kernel_rfl))
 f217:=func256.trans (congrArg G (by kernel_rfl))
 f224:=func248.trans (congrArg G (by kernel_rfl))
 f225:=func249.trans (congrArg G (by kernel_rfl))
 f227:=func190.trans (congrArg G (by kernel_rfl))
 f228:=func212.trans (congrArg G (by kernel_rfl))
 f231:=func189.trans (congrArg G (by kernel_rfl))
 f233:=func191.trans (congrArg G (by kernel_rfl))
 f235:=func192.trans (congrArg G (by kernel_rfl))
 f260:=func234.trans (congrArg G (by kernel_rfl))
 f266:=func259.trans (congrArg G (by kernel_rfl))
 t0:=underlying0
 a0:=isAgg0
 z0:=sizeOf0
 v0:=zeroValue0
 t3:=underlying3
 a3:=isAgg3
 z3:=sizeOf3
 v3:=zeroValue3
 t4:=underlying4
 a4:=isAgg4
 z4:=sizeOf4
 v4:=zeroValue4
 t5:=underlying5
 a5:=isAgg5
 z5:=sizeOf5
 v5:=zeroValue5
 t9:=underlying9
 a9:=isAgg9
 z9:=sizeOf9
 v9:=zeroValue9
 t21:=underlying21
 a21:=isAgg21
 z21:=sizeOf21
 v21:=zeroValue21
 t46:=underlying228
 a46:=isAgg228
 z46:=sizeOf228
 v46:=zeroValue228
 t105:=underlying267
 a105:=isAgg267
 z105:=sizeOf267
 v105:=zeroValue267
 t116:=underlying237
 a116:=isAgg237
 z116:=sizeOf237
 t117:=underlying238
 a117:=isAgg238
 z117:=sizeOf238
 v117:=zeroValue238
 t119:=underlying139
 a119:=isAgg139
 z119:=sizeOf139
 t124:=underlying241
 a124:=isAgg241
 z124:=sizeOf241
 v124:=zeroValue241
 t138:=underlying226
 a138:=isAgg226
 z138:=sizeOf226
 v138:=zeroValue226
 t139:=underlying227
 a139:=isAgg227
 z139:=sizeOf227
 v139:=zeroValue227
 g3:=by kernel_rfl
 g4:=by kernel_rfl }
open Go.RowKit in
theorem Tryz.strings_TrimLeft_one (s:ByteArray) (c:UInt8) (hc:c.toNat<128) (w:World) :
 zt zv 151 #[.string s,.string ⟨#[c]⟩] w λe w'=>e=.returned (.string ⟨(Lib.trimLeftB s.data.toList c).toArray⟩)∧w'=w:=Any.strings_TrimLeft_one Tryz.lays161 s c hc w
open Go.RowKit in
theorem Tryz.Builder_String_any_f (B b:Nat) (l:List UInt8) (w:World) (h:Lib.IsBuilderF 251 5 B b (Lib.byteCells l) w) (hBw:B≤w.heap.size) :
 zt zv 197 #[.pointer (G ⟨b,0,zx⟩)] w λe w'=>e=.returned (.string ⟨l.toArray⟩)∧(Lib.IsBuilderF 251 5 B b (Lib.byteCells l) w'∧Below B w w'):=Any.Builder_String_any_f Tryz.lays169 Tryz.Builder_Extra_169 B b l w h hBw
def Tryz.laysC174_ren : Go.Shelf.Ren:=⟨fun|174=>195|247=>216|245=>217|287=>236|279=>237|280=>238|281=>239|282=>240|321=>250|322=>251|316=>252|171=>254|205=>253|243=>257|246=>260|283=>262|284=>263|285=>264|286=>265|129=>268|317=>267|318=>269|319=>270|320=>271|337=>272|338=>273|n=>n,fun|9=>9|3=>3|2=>2|75=>245|85=>246|4=>4|167=>279|5=>5|53=>265|175=>280|46=>228|168=>282|37=>249|0=>0|210=>294|21=>21|127=>272|145=>299|143=>297|171=>301|173=>304|212=>306|51=>307|20=>20|213=>308|232=>311|233=>312|80=>252|n=>n,fun|15=>2|16=>3|17=>5|18=>6|19=>7|n=>n⟩
theorem Tryz.laysC174 : Go.Proofs.LaysC.n174 zv Tryz.laysC174_ren:={
 mixed:=by kernel_rfl
 f129:=func268.trans (congrArg G (by kernel_rfl))
 f171:=func254.trans (congrArg G (by kernel_rfl))
 f174:=func195.trans (congrArg G (by kernel_rfl))
 f205:=func253.trans (congrArg G (by kernel_rfl))
 f243:=func257.trans (congrArg G (by kernel_rfl))
 f245:=func217.trans (congrArg G (by kernel_rfl))
 f246:=func260.trans (congrArg G (by kernel_rfl))
 f247:=func216.trans (congrArg G (by kernel_rfl))
 f279:=func237.trans (congrArg G (by kernel_rfl))
 f280:=func238.trans (congrArg G (by kernel_rfl))
 f281:=func239.trans (congrArg G (by kernel_rfl))
 f282:=func240.trans (congrArg G (by kernel_rfl))
 f283:=func262.trans (congrArg G (by kernel_rfl))
 f284:=func263.trans (congrArg G (by kernel_rfl))
 f285:=func264.trans (congrArg G (by kernel_rfl))
 f286:=func265.trans (congrArg G (by kernel_rfl))
 f287:=func236.trans (congrArg G (by kernel_rfl))
 f316:=func252.trans (congrArg G (by kernel_rfl))
 f317:=func267.trans (congrArg G (by kernel_rfl))
 f318:=func269.trans (congrArg G (by kernel_rfl))
 f319:=func270.trans (congrArg G (by kernel_rfl))
 f320:=func271.trans (congrArg G (by kernel_rfl))
 f321:=func250.trans (congrArg G (by kernel_rfl))
 f322:=func251.trans (congrArg G (by kernel_rfl))
 f337:=func272.trans (congrArg G (by kernel_rfl))
 f338:=func273.trans (congrArg G (by kernel_rfl))
 t0:=underlying0
 a0:=isAgg0
 z0:=sizeOf0
 v0:=zeroValue0
 t2:=underlying2
 a2:=isAgg2
 z2:=sizeOf2
 v2:=zeroValue2
 t3:=underlying3
 a3:=isAgg3
 z3:=sizeOf3
 v3:=zeroValue3
 t4:=underlying4
 a4:=isAgg4
 z4:=sizeOf4
 v4:=zeroValue4
 t5:=underlying5
 a5:=isAgg5
 z5:=sizeOf5
 v5:=zeroValue5
 t9:=underlying9
 a9:=isAgg9
 z9:=sizeOf9
 v9:=zeroValue9
 t20:=underlying20
 a20:=isAgg20
 z20:=sizeOf20
 v20:=zeroValue20
 t21:=underlying21
 a21:=isAgg21
 z21:=sizeOf21
 v21:=zeroValue21
 t37:=underlying249
 a37:=isAgg249
 z37:=sizeOf249
 v37:=zeroValue249
 t46:=underlying228
 a46:=isAgg228
 z46:=sizeOf228
 v46:=zeroValue228
 t51:=underlying307
 a51:=isAgg307
 z51:=sizeOf307
 v51:=zeroValue307
 t53:=underlying265
 a53:=isAgg265
 z53:=sizeOf265
 v53:=zeroValue265
 t75:=underlying245
 a75:=isAgg245
 z75:=sizeOf245
 v75:=zeroValue245
 t85:=underlying246
 a85:=isAgg246
 z85:=sizeOf246
 v85:=zeroValue246
 t127:=underlying272
 a127:=isAgg272
 z127:=sizeOf272
 v127:=zeroValue272
 t143:=underlying297
 a143:=isAgg297
 z143:=sizeOf297
 v143:=zeroValue297
 t145:=underlying299
 a145:=isAgg299
 z145:=sizeOf299
 v145:=zeroValue299
 t167:=underlying279
 a167:=isAgg279
 z167:=sizeOf279
 v167:=zeroValue279
 t168:=underlying282
 a168:=isAgg282
 z168:=sizeOf282
 v168:=zeroValue282
 t171:=underlying301
 a171:=isAgg301
 z171:=sizeOf301
 v171:=zeroValue301
 t173:=underlying304
 a173:=isAgg304
 z173:=sizeOf304
 v173:=zeroValue304
 t175:=underlying280
 a175:=isAgg280
 z175:=sizeOf280
 v175:=zeroValue280
 t210:=underlying294
 a210:=isAgg294
 z210:=sizeOf294
 v210:=zeroValue294
 t212:=underlying306
 a212:=isAgg306
 z212:=sizeOf306
 v212:=zeroValue306
 t213:=underlying308
 a213:=isAgg308
 z213:=sizeOf308
 t232:=underlying311
 a232:=isAgg311
 z232:=sizeOf311
 v232:=zeroValue311
 t233:=underlying312
 a233:=isAgg312
 z233:=sizeOf312
 v233:=zeroValue312
 g15:=by kernel_rfl
 g16:=by kernel_rfl
 g17:=by kernel_rfl
 g18:=by kernel_rfl
 g19:=by kernel_rfl
 t80:=underlying252
 a80:=isAgg252
 z80:=sizeOf252
 v80:=zeroValue252
 i0:=by kernel_rfl
 i2:=by kernel_rfl
 i3:=by kernel_rfl
 i4:=by kernel_rfl
 i5:=by kernel_rfl
 i9:=by kernel_rfl
 i20:=by kernel_rfl
 i21:=by kernel_rfl
 i37:=by kernel_rfl
 i46:=by kernel_rfl
 i51:=by kernel_rfl
 i53:=by kernel_rfl
 i75:=by kernel_rfl
 i80:=by kernel_rfl
 i85:=by kernel_rfl
 i127:=by kernel_rfl
 i143:=by kernel_rfl
 i145:=by kernel_rfl
 i167:=by kernel_rfl
 i168:=by kernel_rfl
 i171:=by kernel_rfl
 i173:=by kernel_rfl
 i175:=by kernel_rfl
 i210:=by kernel_rfl
 i212:=by kernel_rfl
 i232:=by kernel_rfl
 i233:=by kernel_rfl
 m15:=by kernel_rfl
 m16:=by kernel_rfl
 m17:=by kernel_rfl
 m18:=by kernel_rfl
 m19:=by kernel_rfl
 c0:=by kernel_rfl
 c2:=by kernel_rfl
 c3:=by kernel_rfl
 c4:=by kernel_rfl
 c5:=by kernel_rfl
 c9:=by kernel_rfl
 c20:=by kernel_rfl
 c21:=by kernel_rfl
 c37:=by kernel_rfl
 c46:=by kernel_rfl
 c51:=by kernel_rfl
 c53:=by kernel_rfl
 c75:=by kernel_rfl
 c80:=by kernel_rfl
 c85:=by kernel_rfl
 c127:=by kernel_rfl
 c143:=by kernel_rfl
 c145:=by kernel_rfl
 c167:=by kernel_rfl
 c168:=by kernel_rfl
 c171:=by kernel_rfl
 c173:=by kernel_rfl
 c175:=by kernel_rfl
 c210:=by kernel_rfl
 c212:=by kernel_rfl
 c213:=by kernel_rfl
 c232:=by kernel_rfl
 c233:=by kernel_rfl }
open Go.RowKit in
theorem Tryz.strconv_ParseInt_10_at64_ok (s:ByteArray) (hmax:s.size≤9223372036854775806) (v:Int) (h:Lib.parseIntB 64 s.data.toList=.ok v) (w:World) :
 zt zv 195 #[.string s,.int .i64 10,.int .i64 64] w λe w'=>e=.returned (.tuple #[.int .i64 v,.nilIface])∧(w'=w∨∃t,w'=Lib.bytesWorld w 5 t):=Any.strconv_ParseInt_10_at64_ok Tryz.laysC174 s hmax v h w
open Go.RowKit in
theorem Tryz.strconv_ParseInt_10_at64_syntax (s:ByteArray) (hlim:s.size≤281474976710656) (h:Lib.parseIntB 64 s.data.toList=Lib.NumEnd.syntax) (ev:Value) (w:World) (hv:w.cell? ⟨2,0,zx⟩=G ev) (hev:ev=.nilIface∨∃te pe,ev=.iface te pe) :
 zt zv 195 #[.string s,.int .i64 10,.int .i64 64] w λe w'=>∃N,e=.returned (.tuple #[.int .i64 (0),.iface 282 (.pointer (G ⟨N,0,zx⟩))])∧w.heap.size≤N∧w'.heap[N]?=G (.cells #[.string ⟨#[80,97,114,115,101,73,110,116]⟩,.string s,ev] 294 (0,0))∧Below w.heap.size w w':=Any.strconv_ParseInt_10_at64_syntax Tryz.laysC174 s hlim h ev w hv hev
open Go.RowKit in
theorem Tryz.strconv_ParseInt_10_at64_range (s:ByteArray) (hlim:s.size≤281474976710656) (h:Lib.parseIntB 64 s.data.toList=.range) (ev:Value) (w:World) (hv:w.cell? ⟨3,0,zx⟩=G ev) (hev:ev=.nilIface∨∃te pe,ev=.iface te pe) :
 zt zv 195 #[.string s,.int .i64 10,.int .i64 64] w λe w'=>∃N,e=.returned (.tuple #[.int .i64 (Lib.intSat 64 s.data.toList),.iface 282 (.pointer (G ⟨N,0,zx⟩))])∧w.heap.size≤N∧w'.heap[N]?=G (.cells #[.string ⟨#[80,97,114,115,101,73,110,116]⟩,.string s,ev] 294 (0,0))∧Below w.heap.size w w':=Any.strconv_ParseInt_10_at64_range Tryz.laysC174 s hlim h ev w hv hev
def Tryz.laysGw15_ren : Go.Shelf.Ren:=⟨fun|15=>193|20=>215|n=>n,fun|9=>9|23=>243|3=>3|4=>4|0=>0|21=>21|n=>n,fun|n=>n⟩
theorem Tryz.laysGw15 : Go.Proofs.LaysGw.n15 zv Tryz.laysGw15_ren:={
 mixed:=by kernel_rfl
 f15:=func193.trans (congrArg G (by kernel_rfl))
 f20:=func215.trans (congrArg G (by kernel_rfl))
 t0:=underlying0
 a0:=isAgg0
 z0:=sizeOf0
 v0:=zeroValue0
 i0:=by kernel_rfl
 t3:=underlying3
 a3:=isAgg3
 z3:=sizeOf3
 v3:=zeroValue3
 i3:=by kernel_rfl
 t4:=underlying4
 a4:=isAgg4
 z4:=sizeOf4
 v4:=zeroValue4
 i4:=by kernel_rfl
 t9:=underlying9
 a9:=isAgg9
 z9:=sizeOf9
 v9:=zeroValue9
 i9:=by kernel_rfl
 t21:=underlying21
 a21:=isAgg21
 z21:=sizeOf21
 v21:=zeroValue21
 i21:=by kernel_rfl
 t23:=underlying243
 a23:=isAgg243
 z23:=sizeOf243
 v23:=zeroValue243
 i23:=by kernel_rfl }
open Go.RowKit Go.Lib in
theorem Tryz.strings_IndexFunc_grows (g:Nat) (lb:Array Value) (eg:∀args w,(callFunc g args).run zv w=.ok (.enter g args) w) (p:Nat→Bool) (s:ByteArray) (w:World) (hp:PredGrows zv g lb p w) :
 zt zv 193 #[.string s,.func (.func g) #[] lb] w λe w'=>e=.returned (.int .i64 (Lib.idxFunc p zz s))∧Below w.heap.size w w':=Any.strings_IndexFunc_grows Tryz.laysGw15 g lb eg p s w hp
end Go.Proofs
namespace Go.Proofs.YtppmdnmjepkfaaaGreatDoor
open Go.RowKit
open Tryz
open Decidable renaming decide→O
open Option renaming some→G,none→zx
open Bool renaming true→zz,false→zy
open True renaming intro→zw
open Go.Proofs.Tryz renaming prog→zv
open Go renaming Calls→zt
theorem rB (l:Kz) (w:Kw):zt zv 151 #[str l,str [32]] w λe w'=>e=.returned (str (GX l))∧w=w':=by
 refine (Tryz.strings_TrimLeft_one ⟨l.toArray⟩ 32 AV w).mono ?_;rintro e w' ⟨rfl,rfl⟩;exact ⟨X,X⟩
def OK (l:Kz):Int × Bool:=match Lib.parseIntB 64 l with
 | .ok v=>(v,zz)
 | .range=>(Lib.intSat 64 l,zy)
 | _=>(0,zy)
def mX (w:Kw):Prop:=(∃t p,w.cell? ⟨2,0,zx⟩=G (.iface t p))∧∃t p,w.cell? ⟨3,0,zx⟩=G (.iface t p)
def a3s (ok:Bool) (v:Kv):Prop:=(ok=zz∧v=.nilIface)∨(ok=zy∧∃t p,v=.iface t (.pointer p))
theorem zX (l:Kz) (w:Kw) (hl:l.length≤281474976710656) (hE:mX w):zt zv 195 #[str l,.int .i64 10,.int .i64 64] w λe w'=>∃v,e=.returned (.tuple #[.int .i64 (OK l).1,v])∧a3s (OK l).2 v∧Fr0 w w':=by
 have hs:(ByteArray.mk l.toArray).size=l.length:=by show l.toArray.size=_;simp
 have hd:(ByteArray.mk l.toArray).data.toList=l:=X;obtain ⟨⟨t,p,h1⟩,t',p',h2⟩:=hE
 cases hq:Lib.parseIntB 64 l with
 | ok v=>
  refine (Tryz.strconv_ParseInt_10_at64_ok ⟨l.toArray⟩ A0 v (by rw [hd];exact hq) w).mono ?_;rintro e w' ⟨rfl,hw⟩;refine ⟨.nilIface,by unfold OK;rw [hq],.inl ⟨by unfold OK;rw [hq],rfl⟩,?_⟩;rcases hw with rfl|⟨t,rfl⟩
  ·exact Fr.refl
  exact Fr.ofBelow (Lib.bytesWorld_below w _ t)
 | range=>
  refine (Tryz.strconv_ParseInt_10_at64_range ⟨l.toArray⟩ A0 (by rw [hd];exact hq) _ w h2 (.inr ⟨t',p',X⟩)).mono ?_;rintro e w' ⟨N,rfl,_,_,hb⟩;exact ⟨_,by unfold OK;rw [hq,hd],.inr ⟨by unfold OK;rw [hq],_,_,rfl⟩,Fr.ofBelow hb⟩
 | _=>
  refine (Tryz.strconv_ParseInt_10_at64_syntax ⟨l.toArray⟩ A0 (by rw [hd];exact hq) _ w h1 (.inr ⟨t,p,X⟩)).mono ?_;rintro e w' ⟨N,rfl,_,_,hb⟩;exact ⟨_,by unfold OK;rw [hq],.inr ⟨by unfold OK;rw [hq],_,_,rfl⟩,Fr.ofBelow hb⟩
theorem qM {e:Env} {w:Kw} {o:Oper} {t':Nat} {x:Lz} {v:Kv} {ok:Bool} (ho:o.op=.binOp .neq 245 x (.const .nilIface) t') (hx:ev e x=G v) (hv:a3s ok v):Y zv e o w (.bool (!ok)):=λρ h=>by
 have hc:ρ (.const .nilIface)=.nilIface:=h _ _ X;rcases hv with ⟨rfl,rfl⟩|⟨rfl,t,p,rfl⟩
 ·have h1:(Op.equal 245 .nilIface .nilIface).run zv w=.ok zz w:=by
   unfold Op.equal Op.maxDepth Op.equalIn
   simp [run_underlying underlying245]
  unfold execOp
  simp [ho,h _ _ hx,hc,eqGuard_nil_constR,binOp,h1]
 have h1:(Op.equal 245 (.iface t (.pointer p)) .nilIface).run zv w=.ok zy w:=by
  unfold Op.equal Op.maxDepth Op.equalIn
  simp [run_underlying underlying245]
 unfold execOp
 simp [ho,h _ _ hx,hc,eqGuard_at_iface,binOp,h1]
def KJ (is:UInt8→Bool) (x:Nat):Bool:=O (127<x) || !(is (UInt8.ofNat x))
theorem sA (is:UInt8→Bool) (x:Nat):(O (127<(x:Int)) || (!(is (UInt8.ofNat x))))=KJ is x:=by
 unfold KJ
 by_cases h:127<x
 ·simp [h,show (127:Int)<(x:Int) by omega]
 simp [h,show ¬(127:Int)<(x:Int) by omega]
theorem l9 {x:Nat}:(IntKind.u8).wrap (x:Int)=((UInt8.ofNat x).toNat:Int):=by
 simp [IntKind.wrap,IntKind.bits,IntKind.signed]
def OD (is:UInt8→Bool) (l:Kz):Int:=Lib.idxFunc (KJ is) zz ⟨l.toArray⟩
def spanP (is:UInt8→Bool) (l:Kz):Nat:=if OD is l<0 then l.length else (OD is l).toNat
theorem sD (is:UInt8→Bool) (l:Kz):OD is l<l.length:=by
 have h:=Lib.idxFuncFrom_range (KJ is) zz ⟨l.toArray⟩ (ByteArray.mk l.toArray).size 0;have hs:(ByteArray.mk l.toArray).size=l.length:=by show l.toArray.size=_;simp
 rcases h with h|⟨_,h⟩
 ·unfold OD Lib.idxFunc;rw [h];omega
 unfold OD Lib.idxFunc;omega
theorem RS (is:UInt8→Bool) (l:Kz):spanP is l≤l.length:=by
 unfold spanP;have:=sD is l;split<;>omega
theorem sB {is:UInt8→Bool} {l:Kz} (h:OD is l<0):spanP is l=l.length:=Ac h
theorem sC {is:UInt8→Bool} {l:Kz} (h:¬OD is l<0):OD is l=((spanP is l:Nat):Int):=by
 unfold spanP;rw [Ae h];omega
theorem sE (is:UInt8→Bool) (g:FuncId) (hfn:∀(ar:Array Kv) (w:Kw),(callFunc g ar).run zv w=.ok (.enter g ar) w) (hc:∀(b:UInt8) (w:Kw),zt zv g #[.int .u8 (b.toNat:Int)] w (BR w (.bool (is b)))) (x:Nat) (g3:Nat) (w:Kw) (hb:Blk w g3 208 [.func (.func g) #[] #[]]) :
 zt zv 194 #[.int .i32 (x:Int),pg g3] w (BR w (.bool (KJ is x))):=by
 refine BO func194 ntmps194 X λM=>W ?_
 refine fvm M 6 [3] [(12,.bool ((O (127<(x:Int))) || (!(is (UInt8.ofNat x)))))] ?_ (λk6=>?_)
 ·intro w1 M;refine W ?_;exact gr1 X ⟨by rw [sA],M.fr⟩
 refine A1 (d:=6) X (λh6=>?_) (λh6=>?_)
 ·refine T6 ?_;exact k6 M
 refine ym X X (Blk.c (hb.fr0 M.fr) 0 X) (gyq X (yd X (CI (r:=((UInt8.ofNat x).toNat:Int)) X X Hy Bo l9) (sxl_call (G 10) kw X X (C7 X X X hfn) (hc _ _) ?_)));rintro _ w2 ⟨rfl,hfw2⟩;refine cq ?_;have M:=M.step hfw2;refine T2 ?_;exact k6 M
theorem a2v (is:UInt8→Bool) (g:FuncId) (hfn:∀(ar:Array Kv) (w:Kw),(callFunc g ar).run zv w=.ok (.enter g ar) w) (hc:∀(b:UInt8) (w:Kw),zt zv g #[.int .u8 (b.toNat:Int)] w λe w'=>e=.returned (.bool (is b))∧Fr0 w w') (l:Kz) (g3:Nat) (w:Kw) (hb:Blk w g3 208 [.func (.func g) #[] #[]]) :
 zt zv 193 #[str l,.func (.func 194) #[] #[.pointer (G ⟨g3,0,zx⟩)]] w λe w'=>e=.returned (.int .i64 (OD is l))∧Fr0 w w':=by
 refine (Tryz.strings_IndexFunc_grows 194 #[.pointer (G ⟨g3,0,zx⟩)] call194 (KJ is) ⟨l.toArray⟩ w ?_).mono ?_
 ·intro W x _ hbW;exact (sE is g hfn hc x g3 W (hb.fr0 (Fr.ofBelow hbW))).mono λ_ _ ⟨h1,h2⟩=>⟨h1,h2.below⟩
 rintro e w' ⟨rfl,hb'⟩;exact ⟨X,Fr.ofBelow hb'⟩
theorem lR (is:UInt8→Bool) (g:FuncId) (hfn:∀(ar:Array Kv) (w:Kw),(callFunc g ar).run zv w=.ok (.enter g ar) w) (hc:∀(b:UInt8) (w:Kw),zt zv g #[.int .u8 (b.toNat:Int)] w (BR w (.bool (is b)))) (l:Kz) (w:Kw) :
 zt zv 153 #[str l,.func (.func g) #[] #[]] w (BR w (AA ((spanP is l:Nat):Int))):=by
 refine BO func153 ntmps153 X λM=>W ?_
 refine CZ M kw X X 208 X X ([.func (.func g) #[] #[]]) X λg3 w1 hg3 M=>W ?_
 refine ya X (D8 (us:=[]) (vs:=[pg g3]) X X X) (CQ M 8 X X call193 (a2v is g hfn hc l _ _ (M.blk 0 X)) λw9 M=>W ?_);refine AC X (λh10=>?_) (λh10=>?_)
 ·have h10p:=odt h10;refine W ?_;refine ya X (BT X X Ad) (W ?_);exact gr1 X ⟨by rw [sB h10p],M.fr⟩
 have h10p:=odf h10;refine W ?_;exact gr1 X ⟨by rw [sC h10p],M.fr⟩
def nGlob : Nat:=max (max 0 1) (max 2 3)+1
structure Lay0 (w:Kw):Prop where
 utf:Laid w utfL
 err:mX w
 size:nGlob≤w.heap.size
theorem fM : (Nat.blt 0 nGlob&&(Nat.blt 1 nGlob&&(Nat.blt 2 nGlob&&Nat.blt 3 nGlob)))=zz:=zr
theorem Lay0.fr {S:Nat→Prop} {w w':Kw} (h:Lay0 w) (hf:Fr S w w') (hS:∀k,S k→nGlob≤k):Lay0 w':=by
 have hn:=fM;simp only [Bn] at hn
 obtain ⟨n1,n2,n3,n4⟩:=hn
 replace n1:=D6 n1
 replace n2:=D6 n2
 replace n3:=D6 n3
 replace n4:=D6 n4
 have no:∀g,g<nGlob→¬S g:=λg hg hs=>by have:=hS g hs;omega
 refine ⟨λp hp=>?_,?_,Bh h.size hf.size⟩
 ·obtain ⟨el,fz,h1⟩:=h.utf p hp
  have hp1:p.1<nGlob:=by
   simp only [utfL,Ao,Ba,or_false] at hp
   rcases hp with rfl|rfl
   ·exact n1
   exact n2
  exact ⟨el,fz,(hf.block _ (Ar.1 h1).1 (no _ hp1)).trans h1⟩
 obtain ⟨t,p,h1⟩:=h.err.1;obtain ⟨t',p',h2⟩:=h.err.2;exact ⟨⟨t,p,(hf.cell (World.block_lt_of_cell? w _ h1) (no _ n3)).trans h1⟩,t',p',(hf.cell (World.block_lt_of_cell? w _ h2) (no _ n4)).trans h2⟩
theorem QB {l:Kz} {c:UInt8} (h:l[0]?=G c):l.headD 0=c:=by cases l<;>simp_all
theorem ZL {a b:Prop} (h:¬a∨¬b):¬(a∧b):=λ⟨h1,h2⟩=>h.elim (λh=>h h1) (λh=>h h2)
def OY (t:Kz) (x:Lx):Lx:=
 if ((t.headD 0).toNat:Int)=48∧(1:Int)<((t.length:Nat):Int) then x.fail 4 x.at_
 else if (OK t).2=zz then { x with nd:=.lit ⟨1,(OK t).1,zy,[]⟩ }
 else { (x.fail 91 x.at_) with nd:=.lit ⟨1,(OK t).1,zy,[]⟩ }
def qt : Kz→Kz→Option (Kz × Nat)
 | _,[]=>zx
 | b,[c]=>if (c.toNat:Int)=39 then G (b,0) else zx
 | b,c::d::r=>if (c.toNat:Int)=39 then (if (d.toNat:Int)=39 then qt (b++[d]) r else G (b,r.length+1)) else qt (b++[c]) (d::r)
theorem jI {l b:Kz} {i:Nat} {c:UInt8} (hc:l[i]?=G c) (h:¬(c.toNat:Int)=39):qt b (l.drop i)=qt (b++[c]) (l.drop (i+1)):=by
 rw [AH hc]
 cases l.drop (i+1) with
 | nil=>rw [show qt b [c]=if (c.toNat:Int)=39 then G (b,0) else zx from rfl,Ae h];rfl
 | cons d r=>rw [qt,Ae h]
theorem jH {l b:Kz} {i:Nat} {c d:UInt8} (hc:l[i]?=G c) (hd:l[i+1]?=G d) (h:(c.toNat:Int)=39) (h2:(d.toNat:Int)=39):qt b (l.drop i)=qt (b++[d]) (l.drop (i+2)):=by
 rw [AH hc,AH hd,qt,Ac h,Ac h2]
theorem jJ {l b:Kz} {i:Nat} {c:UInt8} (hc:l[i]?=G c) (h:(c.toNat:Int)=39) (he:((i+1:Nat):Int)=(l.length:Int)):qt b (l.drop i)=G (b,l.length-(i+1)):=by
 have he':i+1=l.length:=A0
 rw [AH hc,he',Aq,qt,Ac h,Gi]
theorem bK {l b:Kz} {i:Nat} {c d:UInt8} (hc:l[i]?=G c) (hd:l[i+1]?=G d) (h:(c.toNat:Int)=39) (h2:¬(d.toNat:Int)=39):qt b (l.drop i)=G (b,l.length-(i+1)):=by
 have hlt:=(An.1 hd).1;rw [AH hc,AH hd,qt,Ac h,Ae h2]
 congr 2
 rw [Ch];omega
def JU (l:Kz) (x:Lx):Lx:=match qt [] l.tail with
 | some (b,k)=>if utf b=zz then { x with nd:=.lit ⟨3,0,zy,b⟩,at_:=x.at_+(l.length-k) } else x.fail 4 x.at_
 | none=>x.fail 4 x.at_
theorem dO {l b:Kz} {x:Lx} {i:Nat} (hi:i≤l.length) (h:qt [] l.tail=G (b,l.length-i)) (hu:utf b=zz):JU l x={ x with nd:=.lit ⟨3,0,zy,b⟩,at_:=x.at_+i }:=by
 unfold JU;rw [h];simp only [Ac hu]
 congr 2;omega
theorem Z2 {l b:Kz} {x:Lx} {k:Nat} (h:qt [] l.tail=G (b,k)) (hu:utf b=zy):JU l x=x.fail 4 x.at_:=by
 unfold JU;rw [h]
 simp [hu]
theorem rG {l:Kz} {x:Lx} (h:qt [] l.tail=zx):JU l x=x.fail 4 x.at_:=by
 unfold JU;rw [h]
theorem YE {T e:Ly} {B b:Nat} {bs:Kx} {W W':Kw} (h:Lib.IsBuilderF T e B b bs W) (hb:Below W.heap.size W W'):Lib.IsBuilderF T e B b bs W':=
 have one:∀{p:Kv},Lib.BuilderAtF T e B b p bs W→Lib.BuilderAtF T e B b p bs W':=λh=>by
  have hlt:=h.lt;obtain ⟨hB,v,hv,hown,hne⟩:=h;exact ⟨hB,v,(hb.block b hlt).trans hv,hown.kept (row:=zx) ⟨hb.os,hb.tape,hb.output,hb.size,λk hk _=>hb.block k hk⟩ (Classical.em _),hne⟩
 h.elim (λx=>.inl (one x)) (λx=>.inr (one x))
theorem oX {w:Kw} {B g:Nat} (hB:B≤g) (hb:Blk w g 251 [.pointer zx,.slice zx 0 0]):Lib.IsBuilder 251 5 B g (bvs []) w:=
 .inl ⟨hB,.slice zx 0 0,hb,⟨rfl,.inl ⟨rfl,rfl⟩⟩,by simp [Value.ownBlock]⟩
theorem Mem.belowOld {w w1 w2:Kw} {S:Nat→Prop} {g t:Nat} {cs:Kx} (M:Mem w S [As.blk g t cs] w1) (hg:g<w.heap.size) (hb:Below w.heap.size w1 w2):Mem w S [As.blk g t cs] w2 where
 fr:=⟨hb.os.trans M.fr.os,hb.tape.trans M.fr.tape,hb.output.trans M.fr.output,Bh M.fr.size hb.size,λk hk hn=>(hb.block k hk).trans (M.fr.block k hk hn)⟩
 ok i a hi:=by
  cases i with
  | zero=>
   simp only [Ak,Ai] at hi;subst hi
   exact (hb.block g hg).trans (M.blk 0 X)
  | succ i=>simp at hi
 lt i a hi k hk:=by
  obtain ⟨h1,h2⟩:=M.lt i a hi k hk;exact ⟨Ce h1 hb.size,h2⟩
 apart:=M.apart
theorem K5 (a0:Int) (a1:Int):zv.built 61 [(0,.int .u8 a0),(1,AA a1)]=G #[.int .u8 a0,AA a1,.bool zy,str []]:=zr
theorem I7 (a0:Int) (a3:Kz):zv.built 61 [(0,.int .u8 a0),(3,str a3)]=G #[.int .u8 a0,AA 0,.bool zy,str a3]:=zr
theorem QE : (zv.info? 251).map (·.zero)=G (G (.agg #[.pointer zx,.slice zx 0 0])):=zr
theorem uK (s:Kz) (x:Lx) (gx:Nat) (t:Kz) (w:Kw) (hb:Blk w gx 158 (Lx.cells s x)) (ht:0<t.length) (hl:t.length≤281474976710656) (hY:Lay0 w) (hgx:nGlob≤gx) :
 zt zv 154 #[pg gx,str t] w λe w'=>e=.returned (.tuple #[])∧Blk w' gx 158 (Lx.cells s (OY t x))∧Fr (λk=>k=gx) w w':=by
 have hGx:∀k,k=gx→nGlob≤k:=λ_ e=>e▸hgx
 refine sx_enter (vs:=[_,_]) func154 X ntmps154 X ?_;have M:Mem w (λk=>k=gx) [As.blk gx 158 (Lx.cells s x)] w:=Mem.one hb;refine W ?_;obtain ⟨c,hc⟩:=EJ (l:=t) (i:=0) A0;refine ya X (BA X X X Ad hc) (W ?_);refine fvm M 4 [0,1] [(13,.bool ((O ((c.toNat:Int)=48))&&(O (1<(t.length:Int)))))] ?_ (λk9=>?_)
 ·intro w1 M;refine W ?_;refine AC X (λh13=>?_) (λh13=>?_)
  ·have h13p:=bd h13;refine W ?_;refine FQ M 0 19 X X (AE X X call86) (GN s x _ _ _ _ (M.blk 0 X)) λw2 M=>W ?_
   exact qx_ret0 (Or.inl X) X ⟨X,by rw [OY,QB hc,Ac h13p];exact M.blk 0 rfl,M.fr⟩
  have h13p:=bd h13;refine W ?_;refine cl 22 X (AE X X call195) (zX t _ A0 (hY.fr M.fr hGx).err) ?_;rintro _ w3 ⟨er,rfl,her,hfw3⟩;refine cq ?_;have M:=M.step hfw3;refine W ?_;refine ya X (qM X X her) (W ?_);refine AC X (λh26=>?_) (λh26=>?_)
  ·refine W ?_;refine FQ M 0 32 X X (AE X X call86) (GN s x _ _ _ _ (M.blk 0 X)) λw4 M=>W ?_
   refine ya X (B8 (parts:=[(0,_),(1,_)]) X X (K5 _ _)) (ya X (B8 (parts:=[(0,_),(1,_)]) X X (GQ _ _ _ _ _)) (W ?_));exact FJ (cs':=[str s,AA (((x.fail 91 x.at_).at_:Nat):Int),.int .u8 1,.int .u8 1,AA ((OK t).1),.bool zy,str [],str [],.slice zx 0 0,str ((x.fail 91 x.at_).say),AA (((x.fail 91 x.at_).tat:Nat):Int),.bool ((x.fail 91 x.at_).fin),AA ((x.fail 91 x.at_).e),AA (((x.fail 91 x.at_).wh:Nat):Int)]) M 0 kw X X X X X AU X (CM X) (BN X) X λw5 M=>sxl_nil (qx_ret0 (Or.inr X) X ⟨X,by rw [OY,QB hc,Ae (ZL h13p),Ae (V8 (CJ h26))];exact M.blk 0 rfl,M.fr⟩)
  refine W ?_;refine ya X (B8 (parts:=[(0,_),(1,_)]) X X (K5 _ _)) (ya X (B8 (parts:=[(0,_),(1,_)]) X X (GQ _ _ _ _ _)) (W ?_));exact FJ (cs':=[str s,AA (x.at_:Int),.int .u8 1,.int .u8 1,AA ((OK t).1),.bool zy,str [],str [],.slice zx 0 0,str x.say,AA (x.tat:Int),.bool x.fin,AA x.e,AA (x.wh:Int)]) M 0 kw X X X X X AU X (CM X) (BN X) X λw6 M=>sxl_nil (qx_ret0 (Or.inr X) X ⟨X,by rw [OY,QB hc,Ae (ZL h13p),Ac (BL h26)];exact M.blk 0 rfl,M.fr⟩)
 refine A1 (d:=9) X (λh9=>?_) (λh9=>?_)
 ·refine gyq X (yd X (BT X X Ad) (T2 ?_));exact k9 M
 refine T4 ?_;exact k9 M
theorem oR (s:Kz) (x:Lx) (gx:Nat) (l:Kz) (w:Kw) (hb:Blk w gx 158 (Lx.cells s x)) (hn:0<l.length) (hl:l.length+x.at_≤70368744177664) (hY:Lay0 w) (hgx:nGlob≤gx) :
 zt zv 158 #[.pointer (G ⟨gx,0,zx⟩),str l] w λe w'=>e=.returned (.tuple #[])∧Blk w' gx 158 (Lx.cells s (JU l x))∧Fr (λk=>k=gx) w w':=by
 have hGx:∀k,k=gx→nGlob≤k:=λ_ e=>e▸hgx
 have hlt:gx<w.heap.size:=hb.lt;refine sx_enter (vs:=[_,_]) func158 X ntmps158 X ?_;have M:Mem w (λk=>k=gx) [As.blk gx 158 (Lx.cells s x)] w:=Mem.one hb;refine W ?_;refine CE M X QE λg4 w1 hg4 M=>?_
 have hbu:Lib.IsBuilder 251 5 w.heap.size g4 (bvs []) w1:=oX (by have:=M.fr.size;omega) (M.blk 0 X);have M:=M.drop 1
 replace M:Mem w (λk=>k=gx) [As.blk gx 158 (Lx.cells s x)] w1:=M
 refine W ?_;refine EC M [4,1,0] (λze zF e wr mz=>∃(i:Nat) (b:Kz),e=(5,.int .i64 ((i:Nat):Int))::ze∧zF wr∧(1≤i∧i≤l.length)∧(b.length≤i)∧(Lib.IsBuilder 251 5 w.heap.size g4 (bvs b) wr)∧(qt [] l.tail=qt b (l.drop i))∧mz=l.length-i) ⟨1,[],X,M,⟨Af _,A0⟩,Aj _,hbu,by rw [List.drop_one],rfl⟩ ?_;rintro _ w2 _ ⟨i,b,rfl,M,hi,hbl,hbu,hq,rfl⟩;refine W ?_;refine ya X (BT X X Ad) (W ?_);refine AC X (λh9=>?_) (λh9=>?_)
 ·have h9p:=odt h9;refine W ?_;obtain ⟨c,hc⟩:=EJ (l:=l) (i:=i) A0;refine ya X (BA X X X Ad hc) (W ?_);refine AC X (λh15=>?_) (λh15=>?_)
  ·have h15p:=odt h15;refine W ?_;refine ya X (BT X X Ad) (W ?_);refine A1 (d:=22) X (λh22=>?_) (λh22=>?_)
   ·have h22p:=odt h22;refine W ?_;have hbf:=Lib.IsBuilderF.of hbu;refine cl 28 X (AE X X call197) (Tryz.Builder_String_any_f w.heap.size g4 b _ hbf M.fr.size) ?_;rintro _ w3 ⟨rfl,hbf,hBw3⟩;refine cq ?_;have M:=M.belowOld hlt hBw3;refine cl 29 X (AE X X call67) (NQ _ _ A0 (hY.fr M.fr hGx).utf) ?_;rintro _ w4 ⟨rfl,hfw4⟩;refine cq ?_;have M:=M.step hfw4;have hbf:=YE hbf hfw4.below;refine W ?_;refine AC X (λh30=>?_) (λh30=>?_)
    ·have h30p:=CJ h30;refine W ?_;refine II X (W ?_);exact FQ M 0 55 X X (AE X X call86) (GN s x _ _ _ _ (M.blk 0 X)) λw5 M=>sxl_nil (qx_ret0 (Or.inr X) X ⟨X,by rw [Z2 (hq.trans (jJ hc h15p h22p)) h30p];exact M.blk 0 rfl,M.fr⟩)
    have h30p:=BL h30;refine W ?_;refine cl 32 X (AE X X call197) (Tryz.Builder_String_any_f w.heap.size g4 b _ hbf M.fr.size) ?_;rintro _ w6 ⟨rfl,hbf,hBw6⟩;refine cq ?_;have M:=M.belowOld hlt hBw6;refine ya X (B8 (parts:=[(0,_),(3,_)]) X X (I7 _ _)) (ya X (B8 (parts:=[(0,_),(1,_)]) X X (GQ _ _ _ _ _)) (W ?_));refine FJ (cs':=[str s,.int .i64 ((x.at_:Nat):Int),.int .u8 1,.int .u8 3,.int .i64 0,.bool zy,str b,str [],.slice zx 0 0,str x.say,.int .i64 ((x.tat:Nat):Int),.bool x.fin,.int .i64 x.e,.int .i64 ((x.wh:Nat):Int)]) M 0 kw X X X X X AU X (CM X) (BN X) X λw7 M=>W ?_
    refine gp1 M 0 X X X GF λw8 M=>W ?_
    exact qx_ret0 (Or.inl X) X ⟨X,by rw [dO (i:=i+1) A0 (hq.trans (jJ hc h15p h22p)) h30p];exact M.blk 0 rfl,M.fr⟩
   have h22p:=odf h22;refine W ?_;obtain ⟨d,hd⟩:=EJ (l:=l) (i:=i+1) A0;refine yd X (BA X X X Ad hd) (W ?_);refine AC X (λh27=>?_) (λh27=>?_)
   ·have h27p:=(odf (CJ h27));refine W ?_;have hbf:=Lib.IsBuilderF.of hbu;refine cl 28 X (AE X X call197) (Tryz.Builder_String_any_f w.heap.size g4 b _ hbf M.fr.size) ?_;rintro _ w9 ⟨rfl,hbf,hBw9⟩;refine cq ?_;have M:=M.belowOld hlt hBw9;refine cl 29 X (AE X X call67) (NQ _ _ A0 (hY.fr M.fr hGx).utf) ?_;rintro _ w10 ⟨rfl,hfw10⟩;refine cq ?_;have M:=M.step hfw10;have hbf:=YE hbf hfw10.below;refine W ?_;refine AC X (λh30=>?_) (λh30=>?_)
    ·have h30p:=CJ h30;refine W ?_;refine II X (W ?_);exact FQ M 0 55 X X (AE X X call86) (GN s x _ _ _ _ (M.blk 0 X)) λw11 M=>sxl_nil (qx_ret0 (Or.inr X) X ⟨X,by rw [Z2 (hq.trans (bK hc hd h15p h27p)) h30p];exact M.blk 0 rfl,M.fr⟩)
    have h30p:=BL h30;refine W ?_;refine cl 32 X (AE X X call197) (Tryz.Builder_String_any_f w.heap.size g4 b _ hbf M.fr.size) ?_;rintro _ w12 ⟨rfl,hbf,hBw12⟩;refine cq ?_;have M:=M.belowOld hlt hBw12;refine ya X (B8 (parts:=[(0,_),(3,_)]) X X (I7 _ _)) (ya X (B8 (parts:=[(0,_),(1,_)]) X X (GQ _ _ _ _ _)) (W ?_));refine FJ (cs':=[str s,.int .i64 ((x.at_:Nat):Int),.int .u8 1,.int .u8 3,.int .i64 0,.bool zy,str b,str [],.slice zx 0 0,str x.say,.int .i64 ((x.tat:Nat):Int),.bool x.fin,.int .i64 x.e,.int .i64 ((x.wh:Nat):Int)]) M 0 kw X X X X X AU X (CM X) (BN X) X λw13 M=>W ?_
    refine gp1 M 0 X X X GF λw14 M=>W ?_
    exact qx_ret0 (Or.inl X) X ⟨X,by rw [dO (i:=i+1) A0 (hq.trans (bK hc hd h15p h27p)) h30p];exact M.blk 0 rfl,M.fr⟩
   have h27p:=(odt (BL h27));refine W ?_;refine ya X (BA X X X Ad hd) (cl 49 X (AE X X call198) (RF w.heap.size g4 b d _ hbu A0 M.fr.size) ?_);rintro _ w15 ⟨rfl,hbu,hBw15⟩;refine cq ?_;have M:=M.belowOld hlt hBw15;refine W ?_;refine fag ⟨i+2,(b++[d]),X,M,?_,?_,?_,?_,X⟩ (by first|omega|(simp<;>omega))
   ·omega
   ·simp only [Am,Al,Ay];omega
   ·exact hbu
   first
    | (rw [hq,jH hc hd h15p h27p])
    | (rw [hq,jI hc h15p])
  have h15p:=odf h15;refine W ?_;refine ya X (BA X X X Ad hc) (cl 49 X (AE X X call198) (RF w.heap.size g4 b c _ hbu A0 M.fr.size) ?_);rintro _ w16 ⟨rfl,hbu,hBw16⟩;refine cq ?_;have M:=M.belowOld hlt hBw16;refine W ?_;refine fag ⟨i+1,(b++[c]),X,M,?_,?_,?_,?_,X⟩ (by first|omega|(simp<;>omega))
  ·omega
  ·simp only [Am,Al,Ay];omega
  ·exact hbu
  first
   | (rw [hq,jH hc hd h15p h27p])
   | (rw [hq,jI hc h15p])
 have h9p:=odf h9;refine W ?_;refine FQ M 0 55 X X (AE X X call86) (GN s x _ _ _ _ (M.blk 0 X)) λw17 M=>sxl_nil (qx_ret0 (Or.inr X) X ?_)
 obtain rfl:i=l.length:=A0
 exact ⟨X,by rw [rG (hq.trans (by rw [Aq];cases b<;>rfl))];exact M.blk 0 rfl,M.fr⟩
end Go.Proofs.YtppmdnmjepkfaaaGreatDoor
