/- Lemmas. -/
import Derived.Test.YtppmdnmjepkfaaaGreatDoorYb2
import Derived.Lib.LaidTab
import Derived.ChangeSame
import Derived.Stop.LaidErr
import Derived.MakeChecks
import GoSem.PinnedTables
import Derived.Lib.ValidLaws
set_option maxHeartbeats 16000000
set_option maxRecDepth 100000
namespace Go.Proofs.YtppmdnmjepkfaaaGreatDoor
open Go.RowKit Go.ChangeShapes
open Decidable renaming decide→O
open Option renaming some→G,none→zx
open Bool renaming true→zz,false→zy
open True renaming intro→zw
open Go.Proofs.Tryz renaming prog→zv
open Go renaming Calls→zt
def Laid (w:Kw) (L:List (Nat × Kx)):Prop:=∀p∈L,∃el fz,w.heap[p.1]?=G (.cells p.2.toArray el fz)
theorem WP {P:Lw} {w:Kw} {name:String} {g:Nat} {cs:Array Kv} (hg:P.globalNamed name=G g) (h:w.var? P name=G cs):∃el fz,w.heap[g]?=G (.cells cs el fz):=by
 unfold World.var? at h
 rw [hg] at h
 simp only [Fh] at h
 split at h
 ·rename_i row el fz hrow
  injection h with h;subst h
  exact ⟨el,fz,hrow⟩
 cases h
theorem Y1 {H:Type} {enc:Ly × Kv→H} {P:Lw} {w:Kw} {base:Nat} {sp:Nat→Bool} {held:Bool} {fuel:Nat} {t e:Ly} {n:Nat} {k:IntKind} {f0 f1:Field} {cs:Kx} {zs:List (Int × Int)} {p:List MemPlace}
 (ht:P.underlying t=G (.array n e)) (he:P.underlying e=G (.struct #[f0,f1])) (hb0:P.underlying f0.type=G (.int k)) (hb1:P.underlying f1.type=G (.int k)) (ho:f0.offset=0∧f1.offset=1) (hc0:P.cellsOf f0.type=1) (hc1:P.cellsOf f1.type=1)
 (hce:P.cellsOf e=2) (hct:P.cellsOf t=n*2)
 (h:DataW.trod enc P w base sp held fuel t cs=G (.agg (zs.map λz=>.agg [.lit (.int k z.1),.lit (.int k z.2)]),p)):cs=zs.flatMap λz=>[Value.int k z.1,Value.int k z.2]:=by
 cases fuel with
 | zero=>simp [DataW.trod] at h
 | succ fuel=>
  simp only [DataW.trod,ht,hce,hct] at h
  split at h
  ·rename_i hl
   obtain ⟨xs,hm,hx⟩:=Dp.1 h
   have hxs:xs.map (·.1)=zs.map λz=>(DataW.agg [.lit (.int k z.1),.lit (.int k z.2)]:DataW H):=by
    have:=Bf Prod.fst hx
    simpa using this
   have hxl:xs.length=n:=by simpa using Go.Lib.mapM_length hm
   have hzl:zs.length=n:=by
    have:=Bf List.length hxs
    simp at this
    omega
   have hpair:∀i z,zs[i]?=G z→cs[2*i]?=G (.int k z.1)∧cs[2*i+1]?=G (.int k z.2):=λi z hz=>by
    have hi:i<n:=by have:=(An.1 hz).1;omega
    obtain ⟨x,hxi,hf⟩:=Go.Lib.mapM_at hm i i (by simp [hi]);obtain ⟨y0,y1,m,hx2,_,g0,g1⟩:=trod_struct2 he hf;rw [ho.1,hc0] at g0
    rw [ho.2,hc1] at g1
    obtain ⟨a,ha,rfl,_⟩:=DataW.trod_int hb0 g0;obtain ⟨c,hc,rfl,_⟩:=DataW.trod_int hb1 g1;have h2:(xs.map (·.1))[i]?=G (DataW.agg [.lit (.int k a),.lit (.int k c)]):=by rw [Cb,hxi,hx2];rfl
    rw [hxs,Cb,hz] at h2
    simp only [Dn,Ai,DataW.agg.injEq,Cx,DataW.lit.injEq,Lit.int.injEq,true_and,and_true] at h2
    obtain ⟨rfl,rfl⟩:=h2;have q0:=Bf (·[0]?) ha;have q1:=Bf (·[0]?) hc
    simp [List.getElem?_drop] at q0 q1
    rw [Gv] at q0 q1
    exact ⟨q0,q1⟩
   have hlen:(zs.flatMap λz=>[Value.int k z.1,Value.int k z.2]).length=n*2:=by
    rw [←hzl];clear hpair hxs hl hm h hx hzl
    induction zs with
    | nil=>rfl
    | cons z zs ih=>simp only [Fv,Am,ih,Al,Ay];omega
   have hget:∀(zs:List (Int × Int)) (i:Nat) z,zs[i]?=G z→(zs.flatMap λz=>[Value.int k z.1,Value.int k z.2])[2*i]?=G (.int k z.1)∧(zs.flatMap λz=>[Value.int k z.1,Value.int k z.2])[2*i+1]?=G (.int k z.2):=by
    intro zs
    induction zs with
    | nil=>intro i z hz;simp at hz
    | cons y zs ih=>
     intro i z hz
     cases i with
     | zero=>simp only [Ak,Ai] at hz;subst hz;exact ⟨rfl,rfl⟩
     | succ i=>
      have:=ih i z (by simpa using hz)
      simp only [Fv];rw [Ck (by simp;omega),Ck (by simp;omega)]
      simpa [show 2*(i+1)-2=2*i by omega,show 2*(i+1)+1-2=2*i+1 by omega] using this
   apply Eh
   intro j
   by_cases hj:j<n*2
   ·obtain ⟨z,hz⟩:∃z,zs[j / 2]?=G z:=⟨_,Av A0⟩
    have a:=hpair _ _ hz;have c:=hget zs _ _ hz;rcases Nat.mod_two_eq_zero_or_one j with hm2|hm2
    ·have:j=2*(j / 2):=A0
     rw [this,a.1,c.1]
    have:j=2*(j / 2)+1:=A0
    rw [this,a.2,c.2]
   rw [Fx A0,Fx A0]
  cases h
open Tryz
def pairsZ : List (Int × Int):=[(128,191),(160,191),(128,159),(144,191),(128,143),(0,0),(0,0),(0,0),(0,0),(0,0),(0,0),(0,0),(0,0),(0,0),(0,0),(0,0)]
def a2f : DataW Unit:=.agg (pairsZ.map λz=>.agg [.lit (.int .u8 z.1),.lit (.int .u8 z.2)])
def firstZ : List Int:=Go.Pinned.utf8FirstZ.map λn=>Int.ofNat n
def utfL : List (Nat × Kx):=[(0,firstZ.map λz=>Value.int .u8 z),(1,pairsZ.flatMap λz=>[Value.int .u8 z.1,Value.int .u8 z.2])]
theorem SB {P:Lw} {W:Kw}:∀{l:List (String × DataW Unit)} {ps:List MemPlace},DataW.LaidVars P W l ps→∀{n:String} {d:DataW Unit},(n,d)∈l →
 ∃g t cs fuel p,P.globalNamed n=G g∧(P.globals[g]?).map (·.type)=G t∧W.var? P n=G cs∧DataW.trod (λ_=>()) P W 0 (λ_=>zz) zy fuel t cs.toList=G (d,p)
 | [],_,_,_,_,h=>by cases h
 | (n',d')::r,ps,hv,n,d,h=>by
  obtain ⟨g,t,cs,fuel,p,q,h1,h2,h3,h4,h5,_⟩:=hv;rcases Ao.1 h with he|h
  ·injection he with e1 e2;subst e1;subst e2
   exact ⟨g,t,cs,fuel,p,h1,h2,h3,h4⟩
  exact SB h5 h
theorem vX : Go.Pinned.utf8First=Go.Lib.tabData .u8 firstZ:=zr
theorem first_named : prog.globalNamed "unicode/utf8.first" = some 0 := by kernel_rfl
theorem ranges_named : prog.globalNamed "unicode/utf8.acceptRanges" = some 1 := by kernel_rfl
theorem qX {l : List (String × DataW Unit)} {W : Kw} (hL : laidMet prog l W) (h1 : ("unicode/utf8.first", Go.Pinned.utf8First) ∈ l) (h2 : ("unicode/utf8.acceptRanges", a2f) ∈ l) : Laid W utfL := by
 obtain ⟨ps,hv,_,_⟩:=hL;intro p hp;rcases Ao.1 hp with rfl|hp
 ·obtain ⟨g,t,cs,fuel,q,e1,e2,e3,e4⟩:=SB hv h1;obtain rfl:=Bz (first_named.symm.trans e1);obtain rfl:=Bz ((show (zv.globals[0]?).map (·.type)=G 139 by kernel_rfl).symm.trans e2);rw [vX] at e4
  have e5:=Go.Lib.cells_of_tab Gn Bo zr zr e4
  have:=WP first_named e3
  rw [←Gd (xs:=cs),e5] at this
  exact this
 obtain rfl:=Au.1 hp;obtain ⟨g,t,cs,fuel,q,e1,e2,e3,e4⟩:=SB hv h2;obtain rfl:=Bz (ranges_named.symm.trans e1);obtain rfl:=Bz ((show (zv.globals[1]?).map (·.type)=G 227 by kernel_rfl).symm.trans e2);have e5:=Y1 Iq Ir Bo Bo ⟨X,X⟩ zr zr zr zr e4
 have:=WP ranges_named e3
 rw [←Gd (xs:=cs),e5] at this
 exact this
def VD (b:UInt8):Bool:=O (128≤b.toNat)&&O (b.toNat≤191)
def lo2 (a:UInt8):Nat:=if a.toNat=224 then 160 else if a.toNat=240 then 144 else 128
def hi2 (a:UInt8):Nat:=if a.toNat=237 then 159 else if a.toNat=244 then 143 else 191
def mid (a b:UInt8):Bool:=O (lo2 a≤b.toNat)&&O (b.toNat≤hi2 a)
def u2 (a:UInt8):Kz→Nat
 | b::_=>if mid a b then 2 else 0
 | []=>0
def u3 (a:UInt8):Kz→Nat
 | b::c::_=>if mid a b&&VD c then 3 else 0
 | _=>0
def u4 (a:UInt8):Kz→Nat
 | b::c::d::_=>if mid a b&&VD c&&VD d then 4 else 0
 | _=>0
def J2 (a:UInt8) (r:Kz):Nat:=if a.toNat<128 then 1 else if a.toNat<194 then 0 else if a.toNat<224 then u2 a r else if a.toNat<240 then u3 a r else if a.toNat<245 then u4 a r else 0
def KV : Kz→Nat
 | []=>0
 | a::r=>J2 a r
theorem E1 (a:UInt8) (r:Kz):KV (a::r)=J2 a r:=rfl
theorem a30 (a:UInt8):∀r,u2 a r≤r.length+1
 | []=>by simp [u2]
 | b::r=>by rw [u2];split<;>simp
theorem a2Z (a:UInt8):∀r,u3 a r≤r.length+1
 | []=>by simp [u3]
 | [b]=>by simp [u3]
 | b::c::r=>by rw [u3];split<;>simp
theorem a2Y (a:UInt8):∀r,u4 a r≤r.length+1
 | []=>by simp [u4]
 | [b]=>by simp [u4]
 | [b,c]=>by simp [u4]
 | b::c::d::r=>by rw [u4];split<;>simp
theorem xW : ∀l:Kz,KV l≤l.length
 | []=>Af _
 | a::r=>by
  rw [E1,J2,Al];have h2:=a30 a r;have h3:=a2Z a r;have h4:=a2Y a r
  split
  ·omega
  split
  ·omega
  split
  ·exact h2
  split
  ·exact h3
  split
  ·exact h4
  omega
def nD : Nat→Kz→Bool
 | 0,l=>l.isEmpty
 | n+1,l=>l.isEmpty || (KV l != 0&&nD n (l.drop (KV l)))
def utf (l:Kz):Bool:=nD l.length l
theorem Z0 : ∀(n m:Nat) (l:Kz),l.length≤n→l.length≤m→nD n l=nD m l
 | 0,0,_,_,_=>rfl
 | 0,m+1,l,h,_=>by
  have:l=[]:=Bl A0
  subst this;rfl
 | n+1,0,l,_,h=>by
  have:l=[]:=Bl A0
  subst this;rfl
 | n+1,m+1,l,h1,h2=>by
  unfold nD
  by_cases h0:KV l=0
  ·simp [h0]
  rw [Z0 n m (l.drop (KV l)) (by rw [Ch];omega) (by rw [Ch];omega)]
theorem W5 (l:Kz) (h:l≠[]):utf l=(KV l != 0&&utf (l.drop (KV l))):=by
 unfold utf;obtain ⟨a,r,rfl⟩:=Ff h;rw [Al]
 conv=>lhs;unfold nD
 by_cases h0:KV (a::r)=0
 ·simp [h0]
 rw [Z0 r.length _ _ (by rw [Ch,Al];omega) (Af _)]
 simp
theorem xU (l:Kz) (h:l≠[]) (h0:KV l=0):utf l=zy:=by rw [W5 l h,h0];rfl
theorem qY (l:Kz) (n:Nat) (hn:n≠0) (h0:KV l=n):utf l=utf (l.drop n):=by
 have h:l≠[]:=λe=>by subst e;exact hn h0.symm
 rw [W5 l h,h0]
 simp [hn]
def E7 (c:Int):Option Kz:=
 if c<0∨1114111<c∨(55296≤c∧c≤57343) then zx
 else if c≤127 then G [UInt8.ofNat c.toNat]
 else if c≤2047 then G [UInt8.ofNat (192+c.toNat / 64),UInt8.ofNat (128+c.toNat%64)]
 else if c≤65535 then G [UInt8.ofNat (224+c.toNat / 4096),UInt8.ofNat (128+c.toNat / 64%64),UInt8.ofNat (128+c.toNat%64)]
 else G [UInt8.ofNat (240+c.toNat / 262144),UInt8.ofNat (128+c.toNat / 4096%64),UInt8.ofNat (128+c.toNat / 64%64),UInt8.ofNat (128+c.toNat%64)]
def nOf (a:UInt8):Nat:=if 240≤a.toNat then 4 else if 224≤a.toNat then 3 else if 192≤a.toNat then 2 else 1
def D9 (a:UInt8):Int:=if 240≤a.toNat then a.toNat-240 else if 224≤a.toNat then a.toNat-224 else if 192≤a.toNat then a.toNat-192 else a.toNat
def more (c:Int):Kz→Int
 | []=>c
 | b::r=>more (c*64+b.toNat-128) r
theorem KQ (c:Int):∀(l:Kz) (b:UInt8),more c (l++[b])=more c l*64+b.toNat-128
 | [],b=>rfl
 | x::l,b=>by show more _ (l++[b])=_;rw [KQ];rfl
def HW (a:UInt8) (r:Kz):Int:=more (D9 a) (r.take (nOf a-1))
def EP (a:UInt8) (r:Kz):Bool:=O (nOf a≤r.length+1)&&O (E7 (HW a r)=G ((a::r).take (nOf a)))
theorem JI {n:Nat} (b:UInt8) (h:n<256):(UInt8.ofNat n=b)↔n=b.toNat:=by
 constructor
 ·intro e;subst e;simp [Nat.mod_eq_of_lt h]
 intro e;subst e;simp
theorem a0S (a:UInt8) (r:Kz):(EP a r=zz→KV (a::r)=nOf a)∧(EP a r=zy→KV (a::r)=0):=by
 have ha:=a.toNat_lt
 by_cases h1:a.toNat<192
 ·have hn:nOf a=1:=by unfold nOf;rw [Ae A0,Ae A0,Ae A0]
  have hb:D9 a=a.toNat:=by unfold D9;rw [Ae A0,Ae A0,Ae A0]
  have hc:HW a r=a.toNat:=by unfold HW;rw [hn,hb];simp [more]
  have hat:EP a r=O (a.toNat<128):=by
   unfold EP;rw [hn,hc]
   by_cases h2:a.toNat<128
   ·have:E7 (a.toNat:Int)=G [a]:=by
     unfold E7;rw [Ae A0,Ac A0]
     simp
    rw [this];simp [h2]
   have:E7 (a.toNat:Int)≠G [a]:=by
    unfold E7;rw [Ae A0,Ae A0,Ac A0]
    simp
   simp [h2,this]
  rw [hat]
  constructor
  ·intro h;have h:a.toNat<128:=by simpa using h
   rw [E1,J2];rw [Ac h,hn]
  intro h;have h:¬a.toNat<128:=by simpa using h
  rw [E1,J2];rw [Ae h,Ac A0]
 by_cases h2:a.toNat<224
 ·have hn:nOf a=2:=by unfold nOf;rw [Ae A0,Ae A0,Ac A0]
  have hb:D9 a=a.toNat-192:=by unfold D9;rw [Ae A0,Ae A0,Ac A0]
  match r with
  | []=>
   have hat:EP a []=zy:=by unfold EP;rw [hn];simp
   rw [hat];refine ⟨λh=>(by cases h),λ_=>?_⟩;rw [E1,J2];rw [Ae A0]
   split
   ·rfl
   rfl
  | b::r=>
   have hbl:=b.toNat_lt;have hc:HW a (b::r)=(a.toNat-192)*64+b.toNat-128:=by unfold HW;rw [hn,hb];simp [more]
   have hul:KV (a::b::r)=if 194≤a.toNat∧128≤b.toNat∧b.toNat≤191 then 2 else 0:=by
    rw [E1,J2];rw [Ae A0]
    by_cases h3:a.toNat<194
    ·rw [Ac h3,Ae A0]
    rw [Ae h3,Ac h2]
    have hm:mid a b=O (128≤b.toNat∧b.toNat≤191):=by
     unfold mid lo2 hi2;rw [Ae A0,Ae A0,Ae A0,Ae A0]
     simp
    rw [u2,hm]
    by_cases h4:128≤b.toNat∧b.toNat≤191
    ·rw [Ac (by simpa using h4),Ac ⟨A0,h4⟩]
    rw [Ae (by simpa using h4),Ae (λh=>h4 h.2)]
   have hat:EP a (b::r)=O (194≤a.toNat∧128≤b.toNat∧b.toNat≤191):=by
    unfold EP;rw [hn,hc];have htk:(a::b::r).take 2=[a,b]:=X;rw [htk]
    have key:(E7 (((a.toNat:Int)-192)*64+b.toNat-128)=G [a,b])↔(194≤a.toNat∧128≤b.toNat∧b.toNat≤191):=by
     unfold E7
     split
     ·constructor
      ·intro h;cases h
      intro h;omega
     split
     ·constructor
      ·intro h;simp at h
      intro h;omega
     split
     ·rename_i g1 g2 g3
      simp only [Ai,Cx,and_true];rw [JI a A0,JI b A0]
      constructor
      ·intro h;omega
      intro h;omega
     split
     ·constructor
      ·intro h;simp at h
      intro h;omega
     constructor
     ·intro h;simp at h
     intro h;omega
    simp [key]
   rw [hul,hat]
   by_cases h4:194≤a.toNat∧128≤b.toNat∧b.toNat≤191
   ·rw [Ac h4,hn];simp [h4]
   rw [Ae h4];simp only [h4];simp
 by_cases h3:a.toNat<240
 ·have hn:nOf a=3:=by unfold nOf;rw [Ae A0,Ac A0]
  have hb:D9 a=a.toNat-224:=by unfold D9;rw [Ae A0,Ac A0]
  match r with
  | []=>
   have hat:EP a []=zy:=by unfold EP;rw [hn];simp
   rw [hat];refine ⟨λh=>(by cases h),λ_=>?_⟩;rw [E1,J2];rw [Ae A0,Ae A0,Ae A0,Ac h3];rfl
  | [b]=>
   have hat:EP a [b]=zy:=by unfold EP;rw [hn];simp
   rw [hat];refine ⟨λh=>(by cases h),λ_=>?_⟩;rw [E1,J2];rw [Ae A0,Ae A0,Ae A0,Ac h3];rfl
  | b::c::r=>
   have hbl:=b.toNat_lt;have hcl:=c.toNat_lt;have hc:HW a (b::c::r)=(((a.toNat:Int)-224)*64+b.toNat-128)*64+c.toNat-128:=by unfold HW;rw [hn,hb];simp [more]
   have hul:KV (a::b::c::r)=if lo2 a≤b.toNat∧b.toNat≤hi2 a∧128≤c.toNat∧c.toNat≤191 then 3 else 0:=by
    rw [E1,J2];rw [Ae A0,Ae A0,Ae A0,Ac h3,u3]
    by_cases h4:lo2 a≤b.toNat∧b.toNat≤hi2 a∧128≤c.toNat∧c.toNat≤191
    ·rw [Ac h4,Ac (by simp [mid,VD,h4])]
    rw [Ae h4,Ae (λh=>h4 (by simp [mid,VD] at h;omega))]
   have hat:EP a (b::c::r)=O (lo2 a≤b.toNat∧b.toNat≤hi2 a∧128≤c.toNat∧c.toNat≤191):=by
    unfold EP;rw [hn,hc];have htk:(a::b::c::r).take 3=[a,b,c]:=X;rw [htk]
    have key:(E7 ((((a.toNat:Int)-224)*64+b.toNat-128)*64+c.toNat-128)=G [a,b,c])↔(lo2 a≤b.toNat∧b.toNat≤hi2 a∧128≤c.toNat∧c.toNat≤191):=by
     have hlo:lo2 a=if a.toNat=224 then 160 else 128:=by unfold lo2;split;rfl;rw [Ae A0]
     have hhi:hi2 a=if a.toNat=237 then 159 else 191:=by unfold hi2;split;rfl;rw [Ae A0]
     rw [hlo,hhi];unfold E7
     split
     ·constructor
      ·intro h;cases h
      intro h;split at h<;>split at h<;>omega
     split
     ·constructor
      ·intro h;simp at h
      intro h;split at h<;>split at h<;>omega
     split
     ·constructor
      ·intro h;simp at h
      intro h;split at h<;>split at h<;>omega
     split
     ·rename_i g1 g2 g3 g4
      simp only [Ai,Cx,and_true];rw [JI a A0,JI b A0,JI c A0]
      constructor
      ·intro h;split<;>split<;>omega
      intro h;split at h<;>split at h<;>omega
     constructor
     ·intro h;simp at h
     intro h;split at h<;>split at h<;>omega
    simp [key]
   rw [hul,hat]
   by_cases h4:lo2 a≤b.toNat∧b.toNat≤hi2 a∧128≤c.toNat∧c.toNat≤191
   ·rw [Ac h4,hn];simp [h4]
   rw [Ae h4];simp only [h4];simp
 have hn:nOf a=4:=by unfold nOf;rw [Ac A0]
 have hb:D9 a=a.toNat-240:=by unfold D9;rw [Ac A0]
 match r with
 | []=>
  have hat:EP a []=zy:=by unfold EP;rw [hn];simp
  rw [hat];refine ⟨λh=>(by cases h),λ_=>?_⟩;rw [E1,J2];rw [Ae A0,Ae A0,Ae A0,Ae A0];split<;>rfl
 | [b]=>
  have hat:EP a [b]=zy:=by unfold EP;rw [hn];simp
  rw [hat];refine ⟨λh=>(by cases h),λ_=>?_⟩;rw [E1,J2];rw [Ae A0,Ae A0,Ae A0,Ae A0];split<;>rfl
 | [b,c]=>
  have hat:EP a [b,c]=zy:=by unfold EP;rw [hn];simp
  rw [hat];refine ⟨λh=>(by cases h),λ_=>?_⟩;rw [E1,J2];rw [Ae A0,Ae A0,Ae A0,Ae A0];split<;>rfl
 | b::c::d::r=>
  have hbl:=b.toNat_lt;have hcl:=c.toNat_lt;have hdl:=d.toNat_lt;have hc:HW a (b::c::d::r)=((((a.toNat:Int)-240)*64+b.toNat-128)*64+c.toNat-128)*64+d.toNat-128:=by unfold HW;rw [hn,hb];simp [more]
  have hul:KV (a::b::c::d::r)=if a.toNat<245∧lo2 a≤b.toNat∧b.toNat≤hi2 a∧128≤c.toNat∧c.toNat≤191∧128≤d.toNat∧d.toNat≤191 then 4 else 0:=by
   rw [E1,J2];rw [Ae A0,Ae A0,Ae A0,Ae h3]
   by_cases h5:a.toNat<245
   ·rw [Ac h5,u4]
    by_cases h4:a.toNat<245∧lo2 a≤b.toNat∧b.toNat≤hi2 a∧128≤c.toNat∧c.toNat≤191∧128≤d.toNat∧d.toNat≤191
    ·rw [Ac h4,Ac (by simp [mid,VD,h4])]
    rw [Ae h4,Ae (λh=>h4 (by simp [mid,VD] at h;omega))]
   rw [Ae h5,Ae (λh=>h5 h.1)]
  have hat:EP a (b::c::d::r)=O (a.toNat<245∧lo2 a≤b.toNat∧b.toNat≤hi2 a∧128≤c.toNat∧c.toNat≤191∧128≤d.toNat∧d.toNat≤191):=by
   unfold EP;rw [hn,hc];have htk:(a::b::c::d::r).take 4=[a,b,c,d]:=X;rw [htk]
   have key:(E7 (((((a.toNat:Int)-240)*64+b.toNat-128)*64+c.toNat-128)*64+d.toNat-128)=G [a,b,c,d])↔(a.toNat<245∧lo2 a≤b.toNat∧b.toNat≤hi2 a∧128≤c.toNat∧c.toNat≤191∧128≤d.toNat∧d.toNat≤191):=by
    have hlo:lo2 a=if a.toNat=240 then 144 else 128:=by unfold lo2;rw [Ae A0]
    have hhi:hi2 a=if a.toNat=244 then 143 else 191:=by unfold hi2;rw [Ae A0]
    rw [hlo,hhi];unfold E7
    split
    ·constructor
     ·intro h;cases h
     intro h;split at h<;>split at h<;>omega
    split
    ·constructor
     ·intro h;simp at h
     intro h;split at h<;>split at h<;>omega
    split
    ·constructor
     ·intro h;simp at h
     intro h;split at h<;>split at h<;>omega
    split
    ·constructor
     ·intro h;simp at h
     intro h;split at h<;>split at h<;>omega
    rename_i g1 g2 g3 g4
    simp only [Ai,Cx,and_true];rw [JI a A0,JI b A0,JI c A0,JI d A0]
    constructor
    ·intro h;split<;>split<;>omega
    intro h;split at h<;>split at h<;>omega
   simp [key]
  rw [hul,hat]
  by_cases h4:a.toNat<245∧lo2 a≤b.toNat∧b.toNat≤hi2 a∧128≤c.toNat∧c.toNat≤191∧128≤d.toNat∧d.toNat≤191
  ·rw [Ac h4,hn];simp [h4]
  rw [Ae h4];simp only [h4];simp
open Go.Lib
theorem kM (a:UInt8) (r:Kz) (h:128≤a.toNat) :
 checkN (a::r).length ((a::r).getD 1 0).toNat ((a::r).getD 2 0).toNat ((a::r).getD 3 0).toNat (firstT a.toNat%8) (accLo (firstT a.toNat / 16)) (accHi (firstT a.toNat / 16))=if KV (a::r)=0 then zx else G (KV (a::r)):=by
 have ha:=a.toNat_lt
 by_cases c0:a.toNat<194
 ·have hu:KV (a::r)=0:=by rw [E1,J2,Ae A0,Ac c0]
  rw [hu,Ac rfl]
  simp [firstT,checkN,show ¬a.toNat<128 by omega,c0]
 have fin2:∀x lo hi,firstT a.toNat=x→x%8=2→accLo (x / 16)=lo→accHi (x / 16)=hi→lo=lo2 a→hi=hi2 a→checkN (a::r).length ((a::r).getD 1 0).toNat ((a::r).getD 2 0).toNat ((a::r).getD 3 0).toNat (firstT a.toNat%8) (accLo (firstT a.toNat / 16)) (accHi (firstT a.toNat / 16))=if u2 a r=0 then zx else G (u2 a r):=by
  intro x lo hi e1 e2 e3 e4 e5 e6;rw [e1,e2,e3,e4];unfold checkN;rw [Ac rfl]
  match r with
  | []=>simp [u2]
  | b::r=>
   have:mid a b=O (lo≤b.toNat∧b.toNat≤hi):=by rw [e5,e6];simp [mid]
   rw [u2,this]
   by_cases hb:lo≤b.toNat∧b.toNat≤hi
   ·simp [hb]
   simp only [hb];simp<;>omega
 have fin3:∀x lo hi,firstT a.toNat=x→x%8=3→accLo (x / 16)=lo→accHi (x / 16)=hi→lo=lo2 a→hi=hi2 a→checkN (a::r).length ((a::r).getD 1 0).toNat ((a::r).getD 2 0).toNat ((a::r).getD 3 0).toNat (firstT a.toNat%8) (accLo (firstT a.toNat / 16)) (accHi (firstT a.toNat / 16))=if u3 a r=0 then zx else G (u3 a r):=by
  intro x lo hi e1 e2 e3 e4 e5 e6;rw [e1,e2,e3,e4];unfold checkN;rw [Ae A0,Ac rfl]
  match r with
  | []=>simp [u3]
  | [b]=>simp [u3]
  | b::c::r=>
   have:(mid a b&&VD c)=O (lo≤b.toNat∧b.toNat≤hi∧128≤c.toNat∧c.toNat≤191):=by
    rw [e5,e6,Bool.eq_iff_iff];unfold mid VD;constructor<;>intro h<;>simp at h ⊢<;>omega
   rw [u3,this]
   by_cases hb:lo≤b.toNat∧b.toNat≤hi∧128≤c.toNat∧c.toNat≤191
   ·simp [hb]
   simp only [hb];simp<;>omega
 have fin4:∀x lo hi,firstT a.toNat=x→x%8=4→accLo (x / 16)=lo→accHi (x / 16)=hi→lo=lo2 a→hi=hi2 a→checkN (a::r).length ((a::r).getD 1 0).toNat ((a::r).getD 2 0).toNat ((a::r).getD 3 0).toNat (firstT a.toNat%8) (accLo (firstT a.toNat / 16)) (accHi (firstT a.toNat / 16))=if u4 a r=0 then zx else G (u4 a r):=by
  intro x lo hi e1 e2 e3 e4 e5 e6;rw [e1,e2,e3,e4];unfold checkN;rw [Ae A0,Ae A0,Ac rfl]
  match r with
  | []=>simp [u4]
  | [b]=>simp [u4]
  | [b,c]=>simp [u4]
  | b::c::d::r=>
   have:(mid a b&&VD c&&VD d)=O (lo≤b.toNat∧b.toNat≤hi∧128≤c.toNat∧c.toNat≤191∧128≤d.toNat∧d.toNat≤191):=by
    rw [e5,e6,Bool.eq_iff_iff];unfold mid VD;constructor<;>intro h<;>simp at h ⊢<;>omega
   rw [u4,this]
   by_cases hb:lo≤b.toNat∧b.toNat≤hi∧128≤c.toNat∧c.toNat≤191∧128≤d.toNat∧d.toNat≤191
   ·simp [hb]
   simp only [hb];simp<;>omega
 by_cases c1:a.toNat<224
 ·rw [show KV (a::r)=u2 a r by rw [E1,J2,Ae A0,Ae c0,Ac c1]];exact fin2 2 128 191 (by simp [firstT,show ¬a.toNat<128 by omega,c0,c1]) X X X (by unfold lo2;rw [Ae A0,Ae A0]) (by unfold hi2;rw [Ae A0,Ae A0])
 by_cases c5:a.toNat<240
 ·rw [show KV (a::r)=u3 a r by rw [E1,J2,Ae A0,Ae c0,Ae c1,Ac c5]]
  by_cases c2:a.toNat=224
  ·exact fin3 19 160 191 (by rw [c2];rfl) X X X (by unfold lo2;rw [Ac c2]) (by unfold hi2;rw [Ae A0,Ae A0])
  by_cases c4:a.toNat=237
  ·exact fin3 35 128 159 (by rw [c4];rfl) X X X (by unfold lo2;rw [Ae A0,Ae A0]) (by unfold hi2;rw [Ac c4])
  refine fin3 3 128 191 ?_ X X X (by unfold lo2;rw [Ae A0,Ae A0]) (by unfold hi2;rw [Ae A0,Ae A0])
  by_cases c3:a.toNat<237
  ·simp [firstT,show ¬a.toNat<128 by omega,c0,c1,c2,c3]
  simp [firstT,show ¬a.toNat<128 by omega,c0,c1,c2,c3,c4,c5]
 by_cases c9:a.toNat<245
 ·rw [show KV (a::r)=u4 a r by rw [E1,J2,Ae A0,Ae c0,Ae c1,Ae c5,Ac c9]]
  by_cases c6:a.toNat=240
  ·exact fin4 52 144 191 (by rw [c6];rfl) X X X (by unfold lo2;rw [Ae A0,Ac c6]) (by unfold hi2;rw [Ae A0,Ae A0])
  by_cases c8:a.toNat=244
  ·exact fin4 68 128 143 (by rw [c8];rfl) X X X (by unfold lo2;rw [Ae A0,Ae A0]) (by unfold hi2;rw [Ae A0,Ac c8])
  exact fin4 4 128 191 (by simp [firstT,show ¬a.toNat<128 by omega,c0,c1,show ¬a.toNat=224 by omega,show ¬a.toNat<237 by omega,show ¬a.toNat=237 by omega,c5,c6,show a.toNat<244 by omega]) X X X (by unfold lo2;rw [Ae A0,Ae A0]) (by unfold hi2;rw [Ae A0,Ae A0])
 rw [show KV (a::r)=0 by rw [E1,J2,Ae A0,Ae c0,Ae c1,Ae c5,Ae c9],Ac rfl]
 simp [firstT,checkN,show ¬a.toNat<128 by omega,c0,c1,show ¬a.toNat=224 by omega,show ¬a.toNat<237 by omega,show ¬a.toNat=237 by omega,c5,show ¬a.toNat=240 by omega,show ¬a.toNat<244 by omega,show ¬a.toNat=244 by omega]
theorem iM : ∀(n:Nat) (l:Kz),l.length≤n→validD l=utf l
 | 0,l,h=>by
  obtain rfl:l=[]:=Bl A0
  rfl
 | n+1,[],_=>rfl
 | n+1,a::r,h=>by
  rw [Al] at h
  by_cases c:a.toNat<128
  ·rw [validD_cons a r c,qY (a::r) 1 A0 (by rw [E1,J2,Ac c])];exact iM n r A0
  rw [validD_lead (a::r) (by simp) (by show 128≤a.toNat;omega)]
  have:=kM a r A0
  simp only [List.getD_cons_zero] at this ⊢
  rw [this,W5 (a::r) (by simp)]
  by_cases c0:KV (a::r)=0
  ·rw [Ac c0,c0];rfl
  rw [Ae c0];rw [show (KV (a::r) != 0)=zz by simp [c0],Eu];exact iM n _ (by rw [Ch,Al];omega)
open Go.RowKit
section
section
variable {P:Lw} {e:Env} {w:Kw} {n:Nat}
theorem CV {fn:Func} {R:Ending→Kw→Prop} {t ty g m:Nat} {d:TypeDesc} {xs:Kx} (hr:fn.results = #[.cell t ty]) (hv:e.get t=G (pg g)) (hrd:Rd w (G ⟨g,0,zx⟩) m xs) (hu:P.underlying ty=G d) (hd:d.isRow=zz) (hi:(P.info? ty).map (·.size)=G m)
 (h:R (.returned (.agg xs.toArray)) w):QX (bodyPost P fn R) .ret n e w:=.mk λa ha=>by
 have hc:w.rangeAt g 0 xs:=λj v hv=>by
  have hj:0<m:=by have:=(An.1 hv).1;have:=hrd.1;omega
  obtain ⟨b',off',e,hc⟩:=hrd.2 hj
  injection e with e;injection e with e1 e2 _;subst e1;subst e2
  exact hc j v hv
 have hrun:=run_loadVar_mid (P:=P) w g 0 ty xs d hc hu hd (by rw [hrd.1];exact hi)
 have:(results fn a.tmps).run P w=.ok (.agg xs.toArray) w:=by simp [results,hr,ha.get t _ hv,asAddr,hrun]
 exact ⟨ha.defers,_,this,h⟩
end
def tabN (n:Nat):Nat:=if (O (65≤n)&&O (n≤90)) || (O (97≤n)&&O (n≤122)) then 2 else if ((O (48≤n)&&O (n≤57)) || n==45 || n==95 || n==46) then 1 else 0
def tabL : Kx:=(List.range 256).map λn=>.int .u8 (tabN n:Int)
def a3B : Kv:=.agg tabL.toArray
def tbF (f:Nat→Nat):Kx:=(List.range 256).map λn=>.int .u8 (f n:Int)
theorem K8 (f:Nat→Nat):(tbF f).length=256:=by unfold tbF;rw [Br,List.length_range]
theorem yH (f:Nat→Nat):∀u∈tbF f,u.oneCell'=zz:=by
 intro u hu;obtain ⟨n,_,rfl⟩:=Cq.1 hu
 rfl
theorem TE {f g:Nat→Nat} (h:∀n,n<256→f n=g n):tbF f=tbF g:=by
 unfold tbF;exact Fm λn hn=>by rw [h n (Fe.1 hn)]
theorem TD {f:Nat→Nat} {k c off:Nat} (ho:off=k):(tbF f).set off (.int .u8 (c:Int))=tbF λn=>if n=k then c else f n:=by
 subst ho
 apply Eh
 intro n;rw [Ib];unfold tbF
 by_cases h:off=n
 ·subst h
  by_cases hl:off<256
  ·simp [hl]
  simp [hl]
 rw [Ae h]
 by_cases hl:n<256
 ·have hn:¬n=off:=λe=>h e.symm
  simp [hl,hn]
 simp [hl]
def tb1 (i n:Nat):Nat:=if (97≤n∧n<97+i)∨(65≤n∧n<65+i) then 2 else 0
def tb2 (j n:Nat):Nat:=if 48≤n∧n<48+j then 1 else tb1 26 n
theorem rJ {i:Nat}:tbF (λn=>if n=(((65+i:Nat):Int):Int).toNat then 2 else (λn=>if n=(((97+i:Nat):Int):Int).toNat then 2 else (tb1 i) n) n)=tbF (tb1 (i+1)):=TE λn _=>by
 unfold tb1;simp only [Fb]
 repeat' split
 all_goals first
  | rfl
  | (exfalso;omega)
theorem rH {j:Nat}:tbF (λn=>if n=(((48+j:Nat):Int):Int).toNat then 1 else (tb2 j) n)=tbF (tb2 (j+1)):=TE λn _=>by
 unfold tb2;simp only [Fb]
 repeat' split
 all_goals first
  | rfl
  | (exfalso;omega)
theorem a3A : tbF (tb1 26)=tbF (tb2 0):=TE λn _=>by
 unfold tb2;rw [Ae A0]
theorem rK : tbF (λn=>if n=(46:Int).toNat then 1 else (λn=>if n=(95:Int).toNat then 1 else (λn=>if n=(45:Int).toNat then 1 else (tb2 10) n) n) n)=tabL:=zr
theorem yG : (zv.info? 139).map (·.zero)=G (G (.agg (tbF (tb1 0)).toArray)):=zr
theorem Z3 : (zv.info? 5).map (·.size)=G 1:=zr
theorem aW : (zv.info? 139).map (·.size)=G 256:=zr
theorem iU (w:Kw) :
 zt zv 64 #[] w (BR w a3B):=by
 refine BO func64 ntmps64 X λM=>W ?_
 refine G9 M kw X X 139 X (tbF (tb1 0)) yG X λg0 w1 hg0 M=>W ?_
 refine flp [0] (λze e wr mz=>∃(i:Nat),e=(3,AA (i:Int))::ze∧Mem w AR [As.blk g0 139 (tbF (tb1 i))] wr∧(i≤26)∧mz=26-i) ⟨0,X,M,Aj _,X⟩ ?_;rintro _ w2 _ ⟨i,rfl,M,hi,rfl⟩;refine W ?_;refine AC X (λh4=>?_) (λh4=>?_)
 ·have h4p:=odt h4;refine W ?_;refine ya X (G8 X X X (ar X) A0) (FK (cs':=tbF (λn=>if n=(((97+i:Nat):Int):Int).toNat then 2 else (tb1 i) n)) M 0 kw X X X X X X X Z3 (by rw [K8];omega) (TD A0) λw3 M=>ya X (G8 X X X (ar X) A0) (FK (cs':=tbF (λn=>if n=(((65+i:Nat):Int):Int).toNat then 2 else (λn=>if n=(((97+i:Nat):Int):Int).toNat then 2 else (tb1 i) n) n)) M 0 kw X X X X X X X Z3 (by rw [K8];omega) (TD A0) λw4 M=>W ?_));rw [rJ] at M
  refine fag ⟨i+1,X,M,?_,X⟩
  ·omega
 have h4p:=odf h4;refine W ?_;obtain rfl:i=26:=A0
 rw [a3A] at M
 refine W ?_;refine flp [0] (λze e wr mz=>∃(j:Nat),e=(13,AA (j:Int))::ze∧Mem w AR [As.blk g0 139 (tbF (tb2 j))] wr∧(j≤10)∧mz=10-j) ⟨0,X,M,Aj _,X⟩ ?_;rintro _ w5 _ ⟨j,rfl,M,hj,rfl⟩;refine W ?_;refine AC X (λh14=>?_) (λh14=>?_)
 ·have h14p:=odt h14;refine W ?_;refine ya X (G8 X X X (ar X) A0) (FK (cs':=tbF (λn=>if n=(((48+j:Nat):Int):Int).toNat then 1 else (tb2 j) n)) M 0 kw X X X X X X X Z3 (by rw [K8];omega) (TD A0) λw6 M=>W ?_);rw [rH] at M
  refine fag ⟨j+1,X,M,?_,X⟩
  ·omega
 have h14p:=odf h14;refine W ?_;obtain rfl:j=10:=A0
 refine W ?_;refine ya X (G8 X X X (ar X) A0) (FK (cs':=tbF (λn=>if n=(45:Int).toNat then 1 else (tb2 10) n)) M 0 kw X X X X X X X Z3 (by rw [K8];omega) (TD A0) λw7 M=>ya X (G8 X X X (ar X) A0) (FK (cs':=tbF (λn=>if n=(95:Int).toNat then 1 else (λn=>if n=(45:Int).toNat then 1 else (tb2 10) n) n)) M 0 kw X X X X X X X Z3 (by rw [K8];omega) (TD A0) λw8 M=>ya X (G8 X X X (ar X) A0) (FK (cs':=tbF (λn=>if n=(46:Int).toNat then 1 else (λn=>if n=(95:Int).toNat then 1 else (λn=>if n=(45:Int).toNat then 1 else (tb2 10) n) n) n)) M 0 kw X X X X X X X Z3 (by rw [K8];omega) (TD A0) λw9 M=>W ?_)));refine ya X (AJ (xs:=tbF (λn=>if n=(46:Int).toNat then 1 else (λn=>if n=(95:Int).toNat then 1 else (λn=>if n=(45:Int).toNat then 1 else (tb2 10) n) n) n)) X X (M.rdBlk 0 X (K8 _)) Gn X aW) (FJ (cs':=(tbF (λn=>if n=(46:Int).toNat then 1 else (λn=>if n=(95:Int).toNat then 1 else (λn=>if n=(45:Int).toNat then 1 else (tb2 10) n) n) n))) M 0 kw X X X X X aW (K8 _) (by rw [K8];decide) (yH _) (HZ _ _ X) λw10 M=>W ?_);exact CV X X (M.rdBlk 0 X (K8 _)) Gn X aW ⟨by rw [rK];rfl,M.fr⟩
end
structure Vl where
 kind:UInt8
 int:Int
 bool:Bool
 text:Kz
def Vl.cells (v:Vl):Kx:=[bv v.kind,.int .i64 v.int,.bool v.bool,str v.text]
def Vl.val (v:Vl):Kv:=.agg v.cells.toArray
def Vl.same (a b:Vl):Bool:=O ((a.kind.toNat:Int)=b.kind.toNat)&&(O (a.int=b.int)&&((a.bool==b.bool)&&O (a.text=b.text)))
theorem Vl.cells_one (v:Vl):∀u∈v.cells,u.oneCell'=zz:=by
 intro u hu;simp only [Vl.cells,Ao,Ba,or_false] at hu
 rcases hu with rfl|rfl|rfl|rfl<;>rfl
def zeroVl : Vl:=⟨0,0,zy,[]⟩
theorem QH : (zv.info? 61).map (·.zero)=G (G zeroVl.val):=zr
theorem FU : (zv.info? 61).map (·.size)=G 4:=zr
theorem bQ (n:Int):zv.built 61 [(0,.int .u8 1),(1,AA n)]=G (Vl.cells ⟨1,n,zy,[]⟩).toArray:=zr
theorem dM (b:Bool):zv.built 61 [(0,.int .u8 2),(2,.bool b)]=G (Vl.cells ⟨2,0,b,[]⟩).toArray:=zr
theorem dG (l:Kz):zv.built 61 [(0,.int .u8 3),(3,str l)]=G (Vl.cells ⟨3,0,zy,l⟩).toArray:=zr
theorem oK (i:Int) (w:Kw):zt zv 65 #[AA i] w (BR w (Vl.val ⟨1,i,zy,[]⟩)):=by
 refine sx_enter (vs:=[_]) func65 X ntmps65 X (W ?_);refine sxl_does (G 2) kw X X (λρ hρ=>BP 61 X _ _ QH X) ?_;rintro _ w1 ⟨g,rfl,hg1,hg2,hb,hf⟩;refine W ?_;refine ya X (B8 X X (bQ i)) (sxl_does zx kw X X (λρ hρ=>BZ 61 (.tmp 2) (.tmp 4) X g 0 61 _ (Vl.cells ⟨1,i,zy,[]⟩) (hρ _ _ X) (hρ _ _ X) hb FU (by show 0+4≤4;omega) (Vl.cells_one _)) ?_);rintro _ w2 ⟨rfl,hb2,hf2⟩;rw [HZ zeroVl.cells (Vl.cells ⟨1,i,zy,[]⟩) rfl] at hb2
 refine W ?_;exact CV X X (Rd.ofBlk hb2 X) By X FU ⟨X,hf.step hf2 (λk hk e=>A0)⟩
theorem r9 (i:Bool) (w:Kw):zt zv 66 #[.bool i] w (BR w (Vl.val ⟨2,0,i,[]⟩)):=by
 refine sx_enter (vs:=[_]) func66 X ntmps66 X (W ?_);refine sxl_does (G 2) kw X X (λρ hρ=>BP 61 X _ _ QH X) ?_;rintro _ w1 ⟨g,rfl,hg1,hg2,hb,hf⟩;refine W ?_;refine ya X (B8 X X (dM i)) (sxl_does zx kw X X (λρ hρ=>BZ 61 (.tmp 2) (.tmp 4) X g 0 61 _ (Vl.cells ⟨2,0,i,[]⟩) (hρ _ _ X) (hρ _ _ X) hb FU (by show 0+4≤4;omega) (Vl.cells_one _)) ?_);rintro _ w2 ⟨rfl,hb2,hf2⟩;rw [HZ zeroVl.cells (Vl.cells ⟨2,0,i,[]⟩) rfl] at hb2
 refine W ?_;exact CV X X (Rd.ofBlk hb2 X) By X FU ⟨X,hf.step hf2 (λk hk e=>A0)⟩
theorem dF (i:Kz) (w:Kw):zt zv 39 #[str i] w (BR w (Vl.val ⟨3,0,zy,i⟩)):=by
 refine sx_enter (vs:=[_]) func39 X ntmps39 X (W ?_);refine sxl_does (G 2) kw X X (λρ hρ=>BP 61 X _ _ QH X) ?_;rintro _ w1 ⟨g,rfl,hg1,hg2,hb,hf⟩;refine W ?_;refine ya X (B8 X X (dG i)) (sxl_does zx kw X X (λρ hρ=>BZ 61 (.tmp 2) (.tmp 4) X g 0 61 _ (Vl.cells ⟨3,0,zy,i⟩) (hρ _ _ X) (hρ _ _ X) hb FU (by show 0+4≤4;omega) (Vl.cells_one _)) ?_);rintro _ w2 ⟨rfl,hb2,hf2⟩;rw [HZ zeroVl.cells (Vl.cells ⟨3,0,zy,i⟩) rfl] at hb2
 refine W ?_;exact CV X X (Rd.ofBlk hb2 X) By X FU ⟨X,hf.step hf2 (λk hk e=>A0)⟩
theorem UH : zv.eqGuardType zv.depth 61=zy:=zr
theorem W4 : zv.stoodInHeld 61=zy:=zr
theorem RH : zv.underlying 61=G (.struct (zv.fieldsOf 61)):=zr
theorem BG {P : Lw} {w : Kw} {f : Field} {fs : List Field} {d : Nat} {xs ys : Array Kv} {a b : Kv} {r : Bool} (hn : f.name ≠ "_") (ha : (part f.type xs f.offset).run P w = .ok a w) (hb : (part f.type ys f.offset).run P w = .ok b w)
 (hr:(Op.equalIn d f.type a b).run P w=.ok r w):(Op.eqFields d xs ys (f::fs)).run P w=if r then (Op.eqFields d xs ys fs).run P w else .ok zy w:=by
 simp only [Op.eqFields,Ac hn,Sem.run_bind,ha,hb,hr,Result.andThen_ok]
 cases r<;>simp
theorem BD {P:Lw} {w:Kw} {t:Ly} {xs:Array Kv} {off:Nat} {v:Kv} (ha:(isAgg t).run P w=.ok zy w) (hx:xs[off]?=G v):(part t xs off).run P w=.ok v w:=by simp [part,ha,hx]
theorem iJ {e:Env} {w:Kw} {o:Oper} {t':Nat} {x y:Lz} {a b:Vl} (ho:o.op=.binOp .eql 61 x y t') (hx:ev e x=G a.val) (hy:ev e y=G b.val):Y zv e o w (.bool (a.same b)):=λρ h=>by
 have h1:ρ x=.agg a.cells.toArray:=h _ _ hx;have h2:ρ y=.agg b.cells.toArray:=h _ _ hy;have hg:=run_eqGuard_agg (P:=zv) w .eql 61 x y a.cells.toArray b.cells.toArray UH
 have hrun:(Op.equalIn 10000 61 (.agg a.cells.toArray) (.agg b.cells.toArray)).run zv w=.ok (a.same b) w:=by
  rw [run_equalIn_struct w 9999 61 _ _ RH W4];have hl:(zv.fieldsOf 61).toList=(match zv.underlying 61 with|some (.struct fs)=>fs.toList|_=>[]):=by unfold Program.fieldsOf;rw [By]
  rw [hl,By]
  simp only
  rw [BG (a:=.int .u8 (a.kind.toNat:Int)) (b:=.int .u8 (b.kind.toNat:Int)) AV (BD (isAgg5 w) rfl) (BD (isAgg5 w) rfl) (run_equalIn_int w 9998 5 _ _ _ _ Bo),
   BG (a:=AA a.int) (b:=AA b.int) AV (BD (isAgg2 w) rfl) (BD (isAgg2 w) rfl) (run_equalIn_int w 9998 2 _ _ _ _ Hg),
   BG (a:=.bool a.bool) (b:=.bool b.bool) AV (BD (isAgg4 w) rfl) (BD (isAgg4 w) rfl) (run_equalIn_bool' w 9998 4 _ _ Eq),
   BG (a:=str a.text) (b:=str b.text) AV (BD (isAgg9 w) rfl) (BD (isAgg9 w) rfl) (run_equalIn_string w 9998 9 _ _ Ad)]
  have ht:((⟨a.text.toArray⟩:ByteArray).toList==(⟨b.text.toArray⟩:ByteArray).toList)=O (a.text=b.text):=by
   rw [ByteArray.toList_eq,ByteArray.toList_eq]
   by_cases h:a.text=b.text<;>simp [h]
  rw [ht];simp only [Op.eqFields,Sem.run_pure];unfold Vl.same
  by_cases h1:(a.kind.toNat:Int)=b.kind.toNat<;>by_cases h2:a.int=b.int<;>by_cases h3:a.bool=b.bool<;>by_cases h4:a.text=b.text<;>simp [h1,h2,h3,h4]
 unfold execOp;simp only [ho,h1,h2,Sem.run_bind,hg,Result.andThen_ok,run_eql_struct,hrun]
 rfl
def CS (c:UInt8):Bool:=(97≤c.toNat&&c.toNat≤122) || (65≤c.toNat&&c.toNat≤90)
def F9 (c:UInt8):Bool:=(48≤c.toNat&&c.toNat≤57) || c.toNat==45 || c.toNat==95 || c.toNat==46
def GB : Nat→Kz→Bool
 | _,[]=>zz
 | i,c::l=>(CS c || (F9 c&&i != 0))&&GB (i+1) l
def B5 (l:Kz):Bool:=O (1≤l.length)&&O (l.length≤32)&&GB 0 l
theorem a3l (c:Nat) (h:c<256):c≤44∨c=45∨c=46∨c=47∨(48≤c∧c≤57)∨(58≤c∧c≤64)∨(65≤c∧c≤90)∨(91≤c∧c≤94)∨c=95∨c=96∨(97≤c∧c≤122)∨(123≤c):=A0
theorem FW (l:Kz) (w:Kw) (hm:(l.length:Int)<9223372036854775807):zt zv 34 #[str l] w λe w'=>e=.returned (.bool (B5 l))∧w=w':=by
 refine sx_enter (vs:=[_]) func34 X ntmps34 X ?_
 by_cases h0:l.length<1
 ·refine V ?_;refine ya X (BT X X Ad) (ya X (DC X X X A0) (V ?_));exact gr1 X ⟨by simp [B5,show ¬1≤l.length by omega],rfl⟩
 by_cases h1:32<l.length
 ·refine V ?_;refine ya X (BT X X Ad) (ya X (DI X X X A0) (V ?_));refine yd X (BT X X Ad) (yd X (PF X X X A0) (V ?_));exact gr1 X ⟨by simp [B5,show ¬l.length≤32 by omega],rfl⟩
 refine V ?_;refine ya X (BT X X Ad) (ya X (DI X X X A0) (V ?_));refine yd X (BT X X Ad) (yd X (IP X X X A0) (V ?_));have hno:B5 l=GB 0 l:=by simp [B5,show 1≤l.length by omega,show l.length≤32 by omega]
 refine sx_loop (λe wr m=>∃(i:Nat),e=[(3,AA (i:Int)),(0,str l)]∧w=wr∧i≤l.length∧GB 0 l=GB i (l.drop i)∧m=l.length-i) ⟨0,X,X,Aj _,X,X⟩ ⟨X,X,zw⟩ ?_;rintro _ _ _ ⟨i,rfl,rfl,hi,hn,rfl⟩
 by_cases hlt:i<l.length
 ·obtain ⟨c,hc⟩:∃c,l[i]?=G c:=⟨_,Av hlt⟩
  have hdr:l.drop i=c::l.drop (i+1):=by
   rw [Eo hlt]
   congr 1
   rw [Av hlt] at hc
   exact Bz hc
  have hstep:GB 0 l=((CS c || (F9 c&&i != 0))&&GB (i+1) (l.drop (i+1))):=by rw [hn,hdr,GB]
  have h256:=c.toNat_lt;rcases a3l c.toNat h256 with hk|hk|hk|hk|hk|hk|hk|hk|hk|hk|hk|hk
  ·have hL:CS c=zy:=by unfold CS;simp;omega
   have hO:F9 c=zy:=by unfold F9;simp;omega
   refine V ?_;refine ya X (BT X X Ad) (ya X (DC X X X A0) (V ?_));refine ya X (BA X X X Ad hc) (V ?_);refine ya X (C6 X X X A0) (V ?_);refine yd X (C6 X X X A0) (V ?_);refine ya X (C6 X X X A0) (V ?_);refine yd X (BQ X X X A0) (V ?_);refine yd X (BQ X X X A0) (V ?_);refine yd X (BQ X X X A0) (V ?_);exact gr1 X ⟨by rw [hno,hstep];simp [hL,hO],rfl⟩
  ·have hL:CS c=zy:=by unfold CS;simp;omega
   have hO:F9 c=zz:=by unfold F9;simp;omega
   by_cases hi0:i=0
   ·refine V ?_;refine ya X (BT X X Ad) (ya X (DC X X X A0) (V ?_));refine ya X (BA X X X Ad hc) (V ?_);refine ya X (C6 X X X A0) (V ?_);refine yd X (C6 X X X A0) (V ?_);refine ya X (C6 X X X A0) (V ?_);refine yd X (DK X X X A0) (V ?_);refine yd X (DK X X X A0) (V ?_);exact gr1 X ⟨by rw [hno,hstep];simp [hL,hO,hi0],rfl⟩
   refine V ?_;refine ya X (BT X X Ad) (ya X (DC X X X A0) (V ?_));refine ya X (BA X X X Ad hc) (V ?_);refine ya X (C6 X X X A0) (V ?_);refine yd X (C6 X X X A0) (V ?_);refine ya X (C6 X X X A0) (V ?_);refine yd X (DK X X X A0) (V ?_);refine yd X (BQ X X X A0) (V ?_);refine D3 X X (V ?_);exact fag ⟨i+1,X,X,A0,by rw [hstep];simp [hL,hO,hi0],rfl⟩
  ·have hL:CS c=zy:=by unfold CS;simp;omega
   have hO:F9 c=zz:=by unfold F9;simp;omega
   by_cases hi0:i=0
   ·refine V ?_;refine ya X (BT X X Ad) (ya X (DC X X X A0) (V ?_));refine ya X (BA X X X Ad hc) (V ?_);refine ya X (C6 X X X A0) (V ?_);refine yd X (C6 X X X A0) (V ?_);refine ya X (C6 X X X A0) (V ?_);refine yd X (BQ X X X A0) (V ?_);refine yd X (BQ X X X A0) (V ?_);refine yd X (DK X X X A0) (V ?_);refine yd X (DK X X X A0) (V ?_);exact gr1 X ⟨by rw [hno,hstep];simp [hL,hO,hi0],rfl⟩
   refine V ?_;refine ya X (BT X X Ad) (ya X (DC X X X A0) (V ?_));refine ya X (BA X X X Ad hc) (V ?_);refine ya X (C6 X X X A0) (V ?_);refine yd X (C6 X X X A0) (V ?_);refine ya X (C6 X X X A0) (V ?_);refine yd X (BQ X X X A0) (V ?_);refine yd X (BQ X X X A0) (V ?_);refine yd X (DK X X X A0) (V ?_);refine yd X (BQ X X X A0) (V ?_);refine D3 X X (V ?_);exact fag ⟨i+1,X,X,A0,by rw [hstep];simp [hL,hO,hi0],rfl⟩
  ·have hL:CS c=zy:=by unfold CS;simp;omega
   have hO:F9 c=zy:=by unfold F9;simp;omega
   refine V ?_;refine ya X (BT X X Ad) (ya X (DC X X X A0) (V ?_));refine ya X (BA X X X Ad hc) (V ?_);refine ya X (C6 X X X A0) (V ?_);refine yd X (C6 X X X A0) (V ?_);refine ya X (C6 X X X A0) (V ?_);refine yd X (BQ X X X A0) (V ?_);refine yd X (BQ X X X A0) (V ?_);refine yd X (BQ X X X A0) (V ?_);exact gr1 X ⟨by rw [hno,hstep];simp [hL,hO],rfl⟩
  ·have hL:CS c=zy:=by unfold CS;simp;omega
   have hO:F9 c=zz:=by unfold F9;simp;omega
   by_cases hi0:i=0
   ·refine V ?_;refine ya X (BT X X Ad) (ya X (DC X X X A0) (V ?_));refine ya X (BA X X X Ad hc) (V ?_);refine ya X (C6 X X X A0) (V ?_);refine yd X (C6 X X X A0) (V ?_);refine ya X (DJ X X X A0) (V ?_);refine yd X (JE X X X A0) (V ?_);refine yd X (DK X X X A0) (V ?_);exact gr1 X ⟨by rw [hno,hstep];simp [hL,hO,hi0],rfl⟩
   refine V ?_;refine ya X (BT X X Ad) (ya X (DC X X X A0) (V ?_));refine ya X (BA X X X Ad hc) (V ?_);refine ya X (C6 X X X A0) (V ?_);refine yd X (C6 X X X A0) (V ?_);refine ya X (DJ X X X A0) (V ?_);refine yd X (JE X X X A0) (V ?_);refine yd X (BQ X X X A0) (V ?_);refine D3 X X (V ?_);exact fag ⟨i+1,X,X,A0,by rw [hstep];simp [hL,hO,hi0],rfl⟩
  ·have hL:CS c=zy:=by unfold CS;simp;omega
   have hO:F9 c=zy:=by unfold F9;simp;omega
   refine V ?_;refine ya X (BT X X Ad) (ya X (DC X X X A0) (V ?_));refine ya X (BA X X X Ad hc) (V ?_);refine ya X (C6 X X X A0) (V ?_);refine yd X (C6 X X X A0) (V ?_);refine ya X (DJ X X X A0) (V ?_);refine yd X (DY X X X A0) (V ?_);refine yd X (BQ X X X A0) (V ?_);refine yd X (BQ X X X A0) (V ?_);refine yd X (BQ X X X A0) (V ?_);exact gr1 X ⟨by rw [hno,hstep];simp [hL,hO],rfl⟩
  ·have hL:CS c=zz:=by unfold CS;simp;omega
   refine V ?_;refine ya X (BT X X Ad) (ya X (DC X X X A0) (V ?_));refine ya X (BA X X X Ad hc) (V ?_);refine ya X (C6 X X X A0) (V ?_);refine yd X (DJ X X X A0) (V ?_);refine yd X (JE X X X A0) (V ?_);refine ya X (DJ X X X A0) (V ?_);refine yd X (DY X X X A0) (V ?_);refine yd X (BQ X X X A0) (V ?_);refine yd X (BQ X X X A0) (V ?_);refine yd X (BQ X X X A0) (V ?_);refine D3 X X (V ?_);exact fag ⟨i+1,X,X,A0,by rw [hstep];simp [hL],rfl⟩
  ·have hL:CS c=zy:=by unfold CS;simp;omega
   have hO:F9 c=zy:=by unfold F9;simp;omega
   refine V ?_;refine ya X (BT X X Ad) (ya X (DC X X X A0) (V ?_));refine ya X (BA X X X Ad hc) (V ?_);refine ya X (C6 X X X A0) (V ?_);refine yd X (DJ X X X A0) (V ?_);refine yd X (DY X X X A0) (V ?_);refine ya X (DJ X X X A0) (V ?_);refine yd X (DY X X X A0) (V ?_);refine yd X (BQ X X X A0) (V ?_);refine yd X (BQ X X X A0) (V ?_);refine yd X (BQ X X X A0) (V ?_);exact gr1 X ⟨by rw [hno,hstep];simp [hL,hO],rfl⟩
  ·have hL:CS c=zy:=by unfold CS;simp;omega
   have hO:F9 c=zz:=by unfold F9;simp;omega
   by_cases hi0:i=0
   ·refine V ?_;refine ya X (BT X X Ad) (ya X (DC X X X A0) (V ?_));refine ya X (BA X X X Ad hc) (V ?_);refine ya X (C6 X X X A0) (V ?_);refine yd X (DJ X X X A0) (V ?_);refine yd X (DY X X X A0) (V ?_);refine ya X (DJ X X X A0) (V ?_);refine yd X (DY X X X A0) (V ?_);refine yd X (BQ X X X A0) (V ?_);refine yd X (DK X X X A0) (V ?_);refine yd X (DK X X X A0) (V ?_);exact gr1 X ⟨by rw [hno,hstep];simp [hL,hO,hi0],rfl⟩
   refine V ?_;refine ya X (BT X X Ad) (ya X (DC X X X A0) (V ?_));refine ya X (BA X X X Ad hc) (V ?_);refine ya X (C6 X X X A0) (V ?_);refine yd X (DJ X X X A0) (V ?_);refine yd X (DY X X X A0) (V ?_);refine ya X (DJ X X X A0) (V ?_);refine yd X (DY X X X A0) (V ?_);refine yd X (BQ X X X A0) (V ?_);refine yd X (DK X X X A0) (V ?_);refine yd X (BQ X X X A0) (V ?_);refine D3 X X (V ?_);exact fag ⟨i+1,X,X,A0,by rw [hstep];simp [hL,hO,hi0],rfl⟩
  ·have hL:CS c=zy:=by unfold CS;simp;omega
   have hO:F9 c=zy:=by unfold F9;simp;omega
   refine V ?_;refine ya X (BT X X Ad) (ya X (DC X X X A0) (V ?_));refine ya X (BA X X X Ad hc) (V ?_);refine ya X (C6 X X X A0) (V ?_);refine yd X (DJ X X X A0) (V ?_);refine yd X (DY X X X A0) (V ?_);refine ya X (DJ X X X A0) (V ?_);refine yd X (DY X X X A0) (V ?_);refine yd X (BQ X X X A0) (V ?_);refine yd X (BQ X X X A0) (V ?_);refine yd X (BQ X X X A0) (V ?_);exact gr1 X ⟨by rw [hno,hstep];simp [hL,hO],rfl⟩
  ·have hL:CS c=zz:=by unfold CS;simp;omega
   refine V ?_;refine ya X (BT X X Ad) (ya X (DC X X X A0) (V ?_));refine ya X (BA X X X Ad hc) (V ?_);refine ya X (DJ X X X A0) (V ?_);refine yd X (JE X X X A0) (V ?_);refine ya X (DJ X X X A0) (V ?_);refine yd X (DY X X X A0) (V ?_);refine yd X (BQ X X X A0) (V ?_);refine yd X (BQ X X X A0) (V ?_);refine yd X (BQ X X X A0) (V ?_);refine D3 X X (V ?_);exact fag ⟨i+1,X,X,A0,by rw [hstep];simp [hL],rfl⟩
  have hL:CS c=zy:=by unfold CS;simp;omega
  have hO:F9 c=zy:=by unfold F9;simp;omega
  refine V ?_;refine ya X (BT X X Ad) (ya X (DC X X X A0) (V ?_));refine ya X (BA X X X Ad hc) (V ?_);refine ya X (DJ X X X A0) (V ?_);refine yd X (DY X X X A0) (V ?_);refine yd X (DJ X X X A0) (V ?_);refine yd X (DY X X X A0) (V ?_);refine ya X (DJ X X X A0) (V ?_);refine yd X (DY X X X A0) (V ?_);refine yd X (BQ X X X A0) (V ?_);refine yd X (BQ X X X A0) (V ?_);refine yd X (BQ X X X A0) (V ?_);exact gr1 X ⟨by rw [hno,hstep];simp [hL,hO],rfl⟩
 obtain rfl:i=l.length:=A0
 refine V ?_;refine ya X (BT X X Ad) (ya X (DI X X X A0) (V ?_));exact gr1 X ⟨by rw [hno,hn,Aq,GB],rfl⟩
section
structure Bd where
 name:Kz
 v:Vl
def Bd.cells (b:Bd):Kx:=str b.name::b.v.cells
def Bd.val (b:Bd):Kv:=.agg b.cells.toArray
def lX (l:List Bd):List Kx:=l.map Bd.cells
def UR (l:List Bd):Kx:=(lX l).flatten
theorem nX (l:List Bd):All 5 (lX l):=λr hr=>by
 obtain ⟨b,_,rfl⟩:=Cq.1 hr
 rfl
theorem vR {l:List Bd} {i:Nat} {x:Bd} (h:l[i]?=G x) {j:Nat} {u:Kv} (hj:x.cells[j]?=G u):(UR l)[i*5+j]?=G u:=by
 have h1:=cF (nX l) (i:=i) (x:=x.cells) (by unfold lX;rw [Cb,h];rfl);have hj5:j<5:=by have:=(An.1 hj).1;exact this
 have h2:(((lX l).flatten.drop (i*5)).take 5)[j]?=x.cells[j]?:=Bf (·[j]?) h1;rw [Cj hj5,Ca,hj] at h2
 exact h2
structure ElD (w:Kw) (b off:Nat) (x:Bd):Prop where
 name:Cell w.heap b (off+0) (str x.name)
 kind:Cell w.heap b (off+1+0) (.int .u8 (x.v.kind.toNat:Int))
 val:Rd w (G ⟨b,off+1,zx⟩) 4 x.v.cells
 all:Rd w (G ⟨b,off,zx⟩) 5 x.cells
theorem ElD.of {w:Kw} {b off:Nat} {x:Bd} (h:∀(j:Nat) u,x.cells[j]?=G u→w.cell? ⟨b,off+j,zx⟩=G u):ElD w b off x where
 name:=Cell.of (h 0 _ rfl)
 kind:=Cell.of (h 1 _ rfl)
 val:=⟨rfl,λ_=>⟨b,off+1,rfl,λj u hu=>by rw [Fp,Nat.add_comm 1 j];exact h (j+1) u hu⟩⟩
 all:=⟨rfl,λ_=>⟨b,off,rfl,h⟩⟩
theorem PH {w:Kw} {A:Ky} {l:List Bd} (hr:Rd w A (l.length*5) (UR l)) {i:Nat} {x:Bd} (hx:l[i]?=G x):∃b off,A=G ⟨b,off,zx⟩∧ElD w b (off+i*5) x:=by
 have hi:=(An.1 hx).1;obtain ⟨b,off,e,hc⟩:=hr.2 A0;exact ⟨b,off,e,ElD.of λj u hu=>by rw [Fp];exact hc _ u (vR hx hu)⟩
theorem PB {w:Kw} {g:Nat} {t:Ly} {x:Bd} (h:Blk w g t x.cells):ElD w g 0 x:=ElD.of λj u hu=>by
 rw [Cr];exact (h.cell j).trans hu
theorem Bd.cells_one (b:Bd):∀u∈b.cells,u.oneCell'=zz:=by
 intro u hu;simp only [Bd.cells,Vl.cells,Ao,Ba,or_false] at hu
 rcases hu with rfl|rfl|rfl|rfl|rfl<;>rfl
def zeroBd : Bd:=⟨[],zeroVl⟩
theorem U8 : (zv.info? 63).map (·.zero)=G (G zeroBd.val):=zr
theorem LD : (zv.info? 63).map (·.size)=G 5:=zr
def EK : List Bd→Kz→Option Vl
 | [],_=>zx
 | x::r,k=>if x.name=k then G x.v else EK r k
section
variable {P:Lw} {e:Env} {w:Kw} {n:Nat}
theorem FY {fn:Func} {R:Ending→Kw→Prop} {t ty g m u:Nat} {v:Kv} {d:TypeDesc} {xs:Kx} (hr:fn.results = #[.cell t ty,.tmp u]) (hv:e.get t=G (pg g)) (hrd:Rd w (G ⟨g,0,zx⟩) m xs) (hu:P.underlying ty=G d) (hd:d.isRow=zz) (hi:(P.info? ty).map (·.size)=G m)
 (hv':e.get u=G v) (h:R (.returned (.tuple #[.agg xs.toArray,v])) w):QX (bodyPost P fn R) .ret n e w:=.mk λa ha=>by
 have hc:w.rangeAt g 0 xs:=λj v hv=>by
  have hj:0<m:=by have:=(An.1 hv).1;have:=hrd.1;omega
  obtain ⟨b',off',e,hc⟩:=hrd.2 hj
  injection e with e;injection e with e1 e2 _;subst e1;subst e2
  exact hc j v hv
 have hrun:=run_loadVar_mid (P:=P) w g 0 ty xs d hc hu hd (by rw [hrd.1];exact hi)
 have:(results fn a.tmps).run P w=.ok (.tuple #[.agg xs.toArray,v]) w:=by simp [results,hr,ha.get t _ hv,ha.get u _ hv',asAddr,hrun]
 exact ⟨ha.defers,_,this,h⟩
theorem IH {fn:Func} {R:Ending→Kw→Prop} {t ty g m u u2:Nat} {v v2:Kv} {d:TypeDesc} {xs:Kx} (hr:fn.results = #[.cell t ty,.tmp u,.tmp u2]) (hv:e.get t=G (pg g)) (hrd:Rd w (G ⟨g,0,zx⟩) m xs) (hu:P.underlying ty=G d) (hd:d.isRow=zz) (hi:(P.info? ty).map (·.size)=G m)
 (hv':e.get u=G v) (hv2:e.get u2=G v2) (h:R (.returned (.tuple #[.agg xs.toArray,v,v2])) w):QX (bodyPost P fn R) .ret n e w:=.mk λa ha=>by
 have hc:w.rangeAt g 0 xs:=λj v hv=>by
  have hj:0<m:=by have:=(An.1 hv).1;have:=hrd.1;omega
  obtain ⟨b',off',e,hc⟩:=hrd.2 hj
  injection e with e;injection e with e1 e2 _;subst e1;subst e2
  exact hc j v hv
 have hrun:=run_loadVar_mid (P:=P) w g 0 ty xs d hc hu hd (by rw [hrd.1];exact hi)
 have:(results fn a.tmps).run P w=.ok (.tuple #[.agg xs.toArray,v,v2]) w:=by simp [results,hr,ha.get t _ hv,ha.get u _ hv',ha.get u2 _ hv2,asAddr,hrun]
 exact ⟨ha.defers,_,this,h⟩
end
structure BdOk (l:List Bd):Prop where
 len:(l.length:Int)<4611686018427387904
 name:∀x∈l,(x.name.length:Int)<4611686018427387904
 text:∀x∈l,(x.v.text.length:Int)<4611686018427387904
theorem VP {l:List Bd} {i:Nat} {x:Bd} (hx:l[i]?=G x):l.drop i=x::l.drop (i+1):=by
 have hlt:=(An.1 hx).1;rw [Eo hlt]
 congr 1
 rw [Av hlt] at hx
 exact Bz hx
end
structure El where
 id:Kz
 nm:Kz
 kind:UInt8
 inn:Kz
 dflt:Kz
 att:Kz
 ev:UInt8
 ref:Kz
 key:Kz
 ticks:Int
 tries:Int
def El.cells (x:El):Kx:=[str x.id,str x.nm,.int .u8 (x.kind.toNat:Int),str x.inn,str x.dflt,str x.att,.int .u8 (x.ev.toNat:Int),str x.ref,str x.key,.int .i64 x.ticks,.int .i64 x.tries]
theorem El.cells_one (x:El):∀u∈x.cells,u.oneCell'=zz:=BN rfl
theorem El.len (x:El):x.cells.length=11:=rfl
def zeroEl : El:=⟨[],[],0,[],[],[],0,[],[],0,0⟩
structure Fl where
 id:Kz
 frm:Kz
 tg:Kz
 cond:Kz
def Fl.cells (x:Fl):Kx:=[str x.id,str x.frm,str x.tg,str x.cond]
theorem Fl.cells_one (x:Fl):∀u∈x.cells,u.oneCell'=zz:=BN rfl
theorem Fl.len (x:Fl):x.cells.length=4:=rfl
def zeroFl : Fl:=⟨[],[],[],[]⟩
theorem Bd.len (x:Bd):x.cells.length=5:=rfl
structure Md where
 id:Kz
 nm:Kz
 vars:List Bd
 els:List El
 fls:List Fl
structure MdA where
 V:Ky
 vc:Nat
 E:Ky
 ec:Nat
 F:Ky
 fc:Nat
def Md.cells (m:Md) (a:MdA):Kx:=[str m.id,str m.nm,.slice a.V m.vars.length a.vc,.slice a.E m.els.length a.ec,.slice a.F m.fls.length a.fc]
structure MdIn (w:Kw) (m:Md) (a:MdA):Prop where
 vars:Rd w a.V (m.vars.length*5) (AF Bd.cells m.vars)
 els:Rd w a.E (m.els.length*11) (AF El.cells m.els)
 fls:Rd w a.F (m.fls.length*4) (AF Fl.cells m.fls)
theorem MdIn.fr0 {w w':Kw} {m:Md} {a:MdA} (h:MdIn w m a) (hf:Fr0 w w'):MdIn w' m a:=⟨h.vars.fr0 hf,h.els.fr0 hf,h.fls.fr0 hf⟩
structure ElOk (x:El):Prop where
 id:(x.id.length:Int)<4611686018427387904
 nm:(x.nm.length:Int)<4611686018427387904
 inn:(x.inn.length:Int)<4611686018427387904
 dflt:(x.dflt.length:Int)<4611686018427387904
 att:(x.att.length:Int)<4611686018427387904
 ref:(x.ref.length:Int)<4611686018427387904
 key:(x.key.length:Int)<4611686018427387904
structure FlOk (x:Fl):Prop where
 id:(x.id.length:Int)<4611686018427387904
 frm:(x.frm.length:Int)<4611686018427387904
 tg:(x.tg.length:Int)<4611686018427387904
 cond:(x.cond.length:Int)<4611686018427387904
structure MdOk (m:Md):Prop where
 id:(m.id.length:Int)<4611686018427387904
 nm:(m.nm.length:Int)<4611686018427387904
 vars:BdOk m.vars
 nels:m.els.length≤200
 nfls:m.fls.length≤400
 nvars:m.vars.length≤200
 els:∀x∈m.els,ElOk x
 fls:∀x∈m.fls,FlOk x
theorem AP : (zv.info? 106).map (·.zero)=G (G (.agg zeroEl.cells.toArray)):=zr
theorem AM : (zv.info? 106).map (·.size)=G 11:=zr
theorem BU : (zv.info? 110).map (·.size)=G 4:=zr
theorem DX : (zv.info? 110).map (·.zero)=G (G (.agg zeroFl.cells.toArray)):=zr
theorem AO : (zv.info? 48).map (·.size)=G 5:=zr
theorem UA : (zv.info? 63).map (·.zero)=G (G (.agg zeroBd.cells.toArray)):=zr
theorem EW : (zv.info? 63).map (·.size)=G 5:=zr
theorem BM : (zv.info? 61).map (·.size)=G 4:=zr
theorem CK : (zv.info? 9).map (λi=>(i.zero,i.size))=G (G (str []),1):=zr
theorem C2 : (zv.info? 9).map (λi=>(i.zero,i.size,i.bytes))=G (G (str []),1,16):=zr
theorem SM : zv.built 106 []=G zeroEl.cells.toArray:=zr
structure PredJ {α:Type} (P:Lw) (f:FuncId) (cs:Kx) (av:α→Kv) (l:List α) (p:Nat→α→Bool) (S:Nat→Prop) (J:Nat→Kw→Prop) (w:Kw):Prop where
 fn:∀(us:Array Kv) (w:Kw),(callFunc f us).run P w=.ok (.enter f us) w
 call:∀(i:Nat) (x:α) (w1:Kw),l[i]?=G x→Fr S w w1→J i w1→zt P f (av x::cs).toArray w1 λe w2=>e=.returned (.bool (p i x))∧J (i+1) w2∧Fr S w1 w2
 st:∀(i:Nat) (w1 w2:Kw),Fr0 w1 w2→J i w1→J i w2
 old:∀g,S g→g<w.heap.size
def ixJ {α:Type} (p:Nat→α→Bool):Nat→List α→Int
 | _,[] => -1
 | i,x::r=>if p i x=zz then (i:Int) else ixJ p (i+1) r
def ixN {α:Type} (p:Nat→α→Bool):Nat→List α→Nat
 | i,[]=>i
 | i,x::r=>if p i x=zz then i+1 else ixN p (i+1) r
theorem MN {α:Type} (p:α→Bool):∀(l:List α) (i:Nat),O (0≤ixJ (λ_=>p) i l)=l.any p
 | [],i=>by simp [ixJ]
 | x::r,i=>by
  rw [ixJ,Ec]
  by_cases h:p x=zz
  ·rw [Ac h,h];simp
  rw [Ae h,MN p r (i+1)];simp [h]
def ffN {α:Type} (p:Nat→α→Bool):Nat→List α→Option α
 | _,[]=>zx
 | i,x::r=>if p i x=zz then ffN p (i+1) r else G x
theorem bU {α:Type} (p:Nat→α→Bool):∀(l:List α) (i:Nat),(ixJ (λi x => !(p i x)) i l = -1∧ffN p i l=zx)∨∃j x,ixJ (λi x => !(p i x)) i l=((i+j:Nat):Int)∧l[j]?=G x∧ffN p i l=G x
 | [],i=>.inl ⟨rfl,rfl⟩
 | x::r,i=>by
  by_cases h:p i x=zz
  ·rw [ixJ,Ae (by simp [h]),ffN,Ac h];rcases bU p r (i+1) with h1|⟨j,y,h1,h2,h3⟩
   ·exact .inl h1
   right;exact ⟨j+1,y,by rw [h1];congr 1;omega,h2,h3⟩
  right;exact ⟨0,x,by rw [ixJ,Ac (by simp [h])];rfl,rfl,by rw [ffN,Ae h]⟩
theorem Mem.one {w:Kw} {g t:Nat} {cs:Kx} (h:Blk w g t cs):Mem w (λk=>k=g) [As.blk g t cs] w where
 fr:=Fr.refl
 ok i a hi:=by
  cases i with
  | zero=>simp only [Ak,Ai] at hi;subst hi;exact h
  | succ i=>simp at hi
 lt i a hi g' hg':=by
  cases i with
  | zero=>
   simp only [Ak,Ai] at hi;subst hi
   simp only [As.blk,Au] at hg';subst hg'
   exact ⟨h.lt,.inr X⟩
  | succ i=>simp at hi
 apart i j a b hi hj hne:=by
  cases i with
  | zero=>
   cases j with
   | zero=>exact absurd rfl hne
   | succ j=>simp at hj
  | succ i=>simp at hi
end Go.Proofs.YtppmdnmjepkfaaaGreatDoor
