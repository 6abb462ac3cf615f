/- Lemmas. -/
import Derived.Test.YtppmdnmjepkfaaaGreatDoorYb2
import Derived.Lib.LaidTab
import Derived.ChangeSame
import Derived.Stop.LaidErr
import Derived.MakeChecks
import GoSem.PinnedTables
import Derived.Lib.ValidLaws
set_option maxHeartbeats 16000000
set_option maxRecDepth 100000
namespace Go.Proofs.YtppmdnmjepkfaaaGreatDoor
open Go.RowKit Go.ChangeShapes
def Laid (w:Kw) (L:List (Nat × Kx)):Prop:=∀p∈L,∃el fz,w.heap[p.1]?=some (.cells p.2.toArray el fz)
theorem WD {P:Lw} {w:Kw} {name:String} {g:Nat} {cs:Array Kv} (hg:P.globalNamed name=some g) (h:w.var? P name=some cs):∃el fz,w.heap[g]?=some (.cells cs el fz):=by
 unfold World.var? at h
 rw [hg] at h
 simp only [Ey] at h
 split at h
 ·rename_i row el fz hrow
  injection h with h;subst h
  exact ⟨el,fz,hrow⟩
 cases h
theorem XS {H:Type} {enc:Ly × Kv→H} {P:Lw} {w:Kw} {base:Nat} {sp:Nat→Bool} {held:Bool} {fuel:Nat} {t e:Ly} {n:Nat} {k:IntKind} {f0 f1:Field} {cs:Kx} {zs:List (Int × Int)} {p:List MemPlace}
 (ht:P.underlying t=some (.array n e)) (he:P.underlying e=some (.struct #[f0,f1])) (hb0:P.underlying f0.type=some (.int k)) (hb1:P.underlying f1.type=some (.int k)) (ho:f0.offset=0∧f1.offset=1) (hc0:P.cellsOf f0.type=1) (hc1:P.cellsOf f1.type=1)
 (hce:P.cellsOf e=2) (hct:P.cellsOf t=n*2)
 (h:DataW.trod enc P w base sp held fuel t cs=some (.agg (zs.map λz=>.agg [.lit (.int k z.1),.lit (.int k z.2)]),p)):cs=zs.flatMap λz=>[Value.int k z.1,Value.int k z.2]:=by
 cases fuel with
 | zero=>simp [DataW.trod] at h
 | succ fuel=>
  simp only [DataW.trod,ht,hce,hct] at h
  split at h
  ·rename_i hl
   obtain ⟨xs,hm,hx⟩:=Dd.1 h
   have hxs:xs.map (·.1)=zs.map λz=>(DataW.agg [.lit (.int k z.1),.lit (.int k z.2)]:DataW H):=by
    have:=Ay Prod.fst hx
    simpa using this
   have hxl:xs.length=n:=by simpa using Go.Lib.mapM_length hm
   have hzl:zs.length=n:=by
    have:=Ay List.length hxs
    simp at this
    omega
   have hpair:∀i z,zs[i]?=some z→cs[2*i]?=some (.int k z.1)∧cs[2*i+1]?=some (.int k z.2):=λi z hz=>by
    have hi:i<n:=by have:=(Aj.1 hz).1;omega
    obtain ⟨x,hxi,hf⟩:=Go.Lib.mapM_at hm i i (by simp [hi]);obtain ⟨y0,y1,m,hx2,_,g0,g1⟩:=trod_struct2 he hf;rw [ho.1,hc0] at g0
    rw [ho.2,hc1] at g1
    obtain ⟨a,ha,rfl,_⟩:=DataW.trod_int hb0 g0;obtain ⟨c,hc,rfl,_⟩:=DataW.trod_int hb1 g1;have h2:(xs.map (·.1))[i]?=some (DataW.agg [.lit (.int k a),.lit (.int k c)]):=by rw [Bu,hxi,hx2];rfl
    rw [hxs,Bu,hz] at h2
    simp only [Dc,Ad,DataW.agg.injEq,Cs,DataW.lit.injEq,Lit.int.injEq,true_and,and_true] at h2
    obtain ⟨rfl,rfl⟩:=h2;have q0:=Ay (·[0]?) ha;have q1:=Ay (·[0]?) hc
    simp [List.getElem?_drop] at q0 q1
    rw [Gm] at q0 q1
    exact ⟨q0,q1⟩
   have hlen:(zs.flatMap λz=>[Value.int k z.1,Value.int k z.2]).length=n*2:=by
    rw [←hzl];clear hpair hxs hl hm h hx hzl
    induction zs with
    | nil=>rfl
    | cons z zs ih=>simp only [Fj,Ah,ih,Af,Aq];omega
   have hget:∀(zs:List (Int × Int)) (i:Nat) z,zs[i]?=some z→(zs.flatMap λz=>[Value.int k z.1,Value.int k z.2])[2*i]?=some (.int k z.1)∧(zs.flatMap λz=>[Value.int k z.1,Value.int k z.2])[2*i+1]?=some (.int k z.2):=by
    intro zs
    induction zs with
    | nil=>intro i z hz;simp at hz
    | cons y zs ih=>
     intro i z hz
     cases i with
     | zero=>simp only [Ai,Ad] at hz;subst hz;exact ⟨rfl,rfl⟩
     | succ i=>
      have:=ih i z (by simpa using hz)
      simp only [Fj];rw [Cc (by simp;omega),Cc (by simp;omega)]
      simpa [show 2*(i+1)-2=2*i by omega,show 2*(i+1)+1-2=2*i+1 by omega] using this
   apply Dx
   intro j
   by_cases hj:j<n*2
   ·obtain ⟨z,hz⟩:∃z,zs[j / 2]?=some z:=⟨_,Ao A0⟩
    have a:=hpair _ _ hz;have c:=hget zs _ _ hz;rcases Nat.mod_two_eq_zero_or_one j with hm2|hm2
    ·have:j=2*(j / 2):=by omega
     rw [this,a.1,c.1]
    have:j=2*(j / 2)+1:=by omega
    rw [this,a.2,c.2]
   rw [Fm A0,Fm A0]
  cases h
open Tryz
def pairsZ : List (Int × Int):=[(128,191),(160,191),(128,159),(144,191),(128,143),(0,0),(0,0),(0,0),(0,0),(0,0),(0,0),(0,0),(0,0),(0,0),(0,0),(0,0)]
def a1s : DataW Unit:=.agg (pairsZ.map λz=>.agg [.lit (.int .u8 z.1),.lit (.int .u8 z.2)])
def firstZ : List Int:=Go.Pinned.utf8FirstZ.map λn=>Int.ofNat n
def utfL : List (Nat × Kx):=[(0,firstZ.map λz=>Value.int .u8 z),(1,pairsZ.flatMap λz=>[Value.int .u8 z.1,Value.int .u8 z.2])]
theorem RV {P:Lw} {W:Kw}:∀{l:List (String × DataW Unit)} {ps:List MemPlace},DataW.LaidVars P W l ps→∀{n:String} {d:DataW Unit},(n,d)∈l →
 ∃g t cs fuel p,P.globalNamed n=some g∧(P.globals[g]?).map (·.type)=some t∧W.var? P n=some cs∧DataW.trod (λ_=>()) P W 0 (λ_=>true) false fuel t cs.toList=some (d,p)
 | [],_,_,_,_,h=>by cases h
 | (n',d')::r,ps,hv,n,d,h=>by
  obtain ⟨g,t,cs,fuel,p,q,h1,h2,h3,h4,h5,_⟩:=hv;rcases Ak.1 h with he|h
  ·injection he with e1 e2;subst e1;subst e2
   exact ⟨g,t,cs,fuel,p,h1,h2,h3,h4⟩
  exact RV h5 h
theorem uE : Go.Pinned.utf8First=Go.Lib.tabData .u8 firstZ:=by kernel_rfl
theorem first_named : prog.globalNamed "unicode/utf8.first" = some 0 := by kernel_rfl
theorem ranges_named : prog.globalNamed "unicode/utf8.acceptRanges" = some 1 := by kernel_rfl
theorem pU {l : List (String × DataW Unit)} {W : Kw} (hL : laidMet prog l W) (h1 : ("unicode/utf8.first", Go.Pinned.utf8First) ∈ l) (h2 : ("unicode/utf8.acceptRanges", a1s) ∈ l) : Laid W utfL := by
 obtain ⟨ps,hv,_,_⟩:=hL;intro p hp;rcases Ak.1 hp with rfl|hp
 ·obtain ⟨g,t,cs,fuel,q,e1,e2,e3,e4⟩:=RV hv h1;obtain rfl:=Bs (first_named.symm.trans e1);obtain rfl:=Bs ((show (prog.globals[0]?).map (·.type)=some 139 by kernel_rfl).symm.trans e2);rw [uE] at e4
  have e5:=Go.Lib.cells_of_tab Gf Bi gkr gkr e4
  have:=WD first_named e3
  rw [←Ft (xs:=cs),e5] at this
  exact this
 obtain rfl:=Au.1 hp;obtain ⟨g,t,cs,fuel,q,e1,e2,e3,e4⟩:=RV hv h2;obtain rfl:=Bs (ranges_named.symm.trans e1);obtain rfl:=Bs ((show (prog.globals[1]?).map (·.type)=some 227 by kernel_rfl).symm.trans e2);have e5:=XS Ig Ih Bi Bi ⟨X,X⟩ gkr gkr gkr gkr e4
 have:=WD ranges_named e3
 rw [←Ft (xs:=cs),e5] at this
 exact this
def US (b:UInt8):Bool:=decide (128≤b.toNat)&&decide (b.toNat≤191)
def lo2 (a:UInt8):Nat:=if a.toNat=224 then 160 else if a.toNat=240 then 144 else 128
def hi2 (a:UInt8):Nat:=if a.toNat=237 then 159 else if a.toNat=244 then 143 else 191
def mid (a b:UInt8):Bool:=decide (lo2 a≤b.toNat)&&decide (b.toNat≤hi2 a)
def u2 (a:UInt8):Kz→Nat
 | b::_=>if mid a b then 2 else 0
 | []=>0
def u3 (a:UInt8):Kz→Nat
 | b::c::_=>if mid a b&&US c then 3 else 0
 | _=>0
def u4 (a:UInt8):Kz→Nat
 | b::c::d::_=>if mid a b&&US c&&US d then 4 else 0
 | _=>0
def IR (a:UInt8) (r:Kz):Nat:=if a.toNat<128 then 1 else if a.toNat<194 then 0 else if a.toNat<224 then u2 a r else if a.toNat<240 then u3 a r else if a.toNat<245 then u4 a r else 0
def KL : Kz→Nat
 | []=>0
 | a::r=>IR a r
theorem DX (a:UInt8) (r:Kz):KL (a::r)=IR a r:=rfl
theorem a2g (a:UInt8):∀r,u2 a r≤r.length+1
 | []=>by simp [u2]
 | b::r=>by rw [u2];split<;>simp
theorem a2f (a:UInt8):∀r,u3 a r≤r.length+1
 | []=>by simp [u3]
 | [b]=>by simp [u3]
 | b::c::r=>by rw [u3];split<;>simp
theorem a2e (a:UInt8):∀r,u4 a r≤r.length+1
 | []=>by simp [u4]
 | [b]=>by simp [u4]
 | [b,c]=>by simp [u4]
 | b::c::d::r=>by rw [u4];split<;>simp
theorem wE : ∀l:Kz,KL l≤l.length
 | []=>Ab _
 | a::r=>by
  rw [DX,IR,Af];have h2:=a2g a r;have h3:=a2f a r;have h4:=a2e a r
  split
  ·omega
  split
  ·omega
  split
  ·exact h2
  split
  ·exact h3
  split
  ·exact h4
  omega
def mH : Nat→Kz→Bool
 | 0,l=>l.isEmpty
 | n+1,l=>l.isEmpty || (KL l != 0&&mH n (l.drop (KL l)))
def utf (l:Kz):Bool:=mH l.length l
theorem YQ : ∀(n m:Nat) (l:Kz),l.length≤n→l.length≤m→mH n l=mH m l
 | 0,0,_,_,_=>rfl
 | 0,m+1,l,h,_=>by
  have:l=[]:=Bj A0
  subst this;rfl
 | n+1,0,l,_,h=>by
  have:l=[]:=Bj A0
  subst this;rfl
 | n+1,m+1,l,h1,h2=>by
  unfold mH
  by_cases h0:KL l=0
  ·simp [h0]
  rw [YQ n m (l.drop (KL l)) (by rw [Bz];omega) (by rw [Bz];omega)]
theorem VR (l:Kz) (h:l≠[]):utf l=(KL l != 0&&utf (l.drop (KL l))):=by
 unfold utf;obtain ⟨a,r,rfl⟩:=Ev h;rw [Af]
 conv=>lhs;unfold mH
 by_cases h0:KL (a::r)=0
 ·simp [h0]
 rw [YQ r.length _ _ (by rw [Bz,Af];omega) (Ab _)]
 simp
theorem wC (l:Kz) (h:l≠[]) (h0:KL l=0):utf l=false:=by rw [VR l h,h0];rfl
theorem pW (l:Kz) (n:Nat) (hn:n≠0) (h0:KL l=n):utf l=utf (l.drop n):=by
 have h:l≠[]:=λe=>by subst e;exact hn h0.symm
 rw [VR l h,h0]
 simp [hn]
def E6 (c:Int):Option Kz:=
 if c<0∨1114111<c∨(55296≤c∧c≤57343) then none
 else if c≤127 then some [UInt8.ofNat c.toNat]
 else if c≤2047 then some [UInt8.ofNat (192+c.toNat / 64),UInt8.ofNat (128+c.toNat%64)]
 else if c≤65535 then some [UInt8.ofNat (224+c.toNat / 4096),UInt8.ofNat (128+c.toNat / 64%64),UInt8.ofNat (128+c.toNat%64)]
 else some [UInt8.ofNat (240+c.toNat / 262144),UInt8.ofNat (128+c.toNat / 4096%64),UInt8.ofNat (128+c.toNat / 64%64),UInt8.ofNat (128+c.toNat%64)]
def nOf (a:UInt8):Nat:=if 240≤a.toNat then 4 else if 224≤a.toNat then 3 else if 192≤a.toNat then 2 else 1
def D0 (a:UInt8):Int:=if 240≤a.toNat then a.toNat-240 else if 224≤a.toNat then a.toNat-224 else if 192≤a.toNat then a.toNat-192 else a.toNat
def more (c:Int):Kz→Int
 | []=>c
 | b::r=>more (c*64+b.toNat-128) r
theorem KI (c:Int):∀(l:Kz) (b:UInt8),more c (l++[b])=more c l*64+b.toNat-128
 | [],b=>rfl
 | x::l,b=>by show more _ (l++[b])=_;rw [KI];rfl
def HP (a:UInt8) (r:Kz):Int:=more (D0 a) (r.take (nOf a-1))
def EO (a:UInt8) (r:Kz):Bool:=decide (nOf a≤r.length+1)&&decide (E6 (HP a r)=some ((a::r).take (nOf a)))
theorem J7 {n:Nat} (b:UInt8) (h:n<256):(UInt8.ofNat n=b)↔n=b.toNat:=by
 constructor
 ·intro e;subst e;simp [Nat.mod_eq_of_lt h]
 intro e;subst e;simp
theorem a0b (a:UInt8) (r:Kz):(EO a r=true→KL (a::r)=nOf a)∧(EO a r=false→KL (a::r)=0):=by
 have ha:=a.toNat_lt
 by_cases h1:a.toNat<192
 ·have hn:nOf a=1:=by unfold nOf;rw [if_neg A0,if_neg A0,if_neg A0]
  have hb:D0 a=a.toNat:=by unfold D0;rw [if_neg A0,if_neg A0,if_neg A0]
  have hc:HP a r=a.toNat:=by unfold HP;rw [hn,hb];simp [more]
  have hat:EO a r=decide (a.toNat<128):=by
   unfold EO;rw [hn,hc]
   by_cases h2:a.toNat<128
   ·have:E6 (a.toNat:Int)=some [a]:=by
     unfold E6;rw [if_neg A0,if_pos A0]
     simp
    rw [this];simp [h2]
   have:E6 (a.toNat:Int)≠some [a]:=by
    unfold E6;rw [if_neg A0,if_neg A0,if_pos A0]
    simp
   simp [h2,this]
  rw [hat]
  constructor
  ·intro h;have h:a.toNat<128:=by simpa using h
   rw [DX,IR];rw [if_pos h,hn]
  intro h;have h:¬a.toNat<128:=by simpa using h
  rw [DX,IR];rw [if_neg h,if_pos A0]
 by_cases h2:a.toNat<224
 ·have hn:nOf a=2:=by unfold nOf;rw [if_neg A0,if_neg A0,if_pos A0]
  have hb:D0 a=a.toNat-192:=by unfold D0;rw [if_neg A0,if_neg A0,if_pos A0]
  match r with
  | []=>
   have hat:EO a []=false:=by unfold EO;rw [hn];simp
   rw [hat];refine ⟨λh=>(by cases h),λ_=>?_⟩;rw [DX,IR];rw [if_neg A0]
   split
   ·rfl
   rfl
  | b::r=>
   have hbl:=b.toNat_lt;have hc:HP a (b::r)=(a.toNat-192)*64+b.toNat-128:=by unfold HP;rw [hn,hb];simp [more]
   have hul:KL (a::b::r)=if 194≤a.toNat∧128≤b.toNat∧b.toNat≤191 then 2 else 0:=by
    rw [DX,IR];rw [if_neg A0]
    by_cases h3:a.toNat<194
    ·rw [if_pos h3,if_neg A0]
    rw [if_neg h3,if_pos h2]
    have hm:mid a b=decide (128≤b.toNat∧b.toNat≤191):=by
     unfold mid lo2 hi2;rw [if_neg A0,if_neg A0,if_neg A0,if_neg A0]
     simp
    rw [u2,hm]
    by_cases h4:128≤b.toNat∧b.toNat≤191
    ·rw [if_pos (by simpa using h4),if_pos ⟨by omega,h4⟩]
    rw [if_neg (by simpa using h4),if_neg (λh=>h4 h.2)]
   have hat:EO a (b::r)=decide (194≤a.toNat∧128≤b.toNat∧b.toNat≤191):=by
    unfold EO;rw [hn,hc];have htk:(a::b::r).take 2=[a,b]:=X;rw [htk]
    have key:(E6 (((a.toNat:Int)-192)*64+b.toNat-128)=some [a,b])↔(194≤a.toNat∧128≤b.toNat∧b.toNat≤191):=by
     unfold E6
     split
     ·constructor
      ·intro h;cases h
      intro h;omega
     split
     ·constructor
      ·intro h;simp at h
      intro h;omega
     split
     ·rename_i g1 g2 g3
      simp only [Ad,Cs,and_true];rw [J7 a A0,J7 b A0]
      constructor
      ·intro h;omega
      intro h;omega
     split
     ·constructor
      ·intro h;simp at h
      intro h;omega
     constructor
     ·intro h;simp at h
     intro h;omega
    simp [key]
   rw [hul,hat]
   by_cases h4:194≤a.toNat∧128≤b.toNat∧b.toNat≤191
   ·rw [if_pos h4,hn];simp [h4]
   rw [if_neg h4];simp only [h4];simp
 by_cases h3:a.toNat<240
 ·have hn:nOf a=3:=by unfold nOf;rw [if_neg A0,if_pos A0]
  have hb:D0 a=a.toNat-224:=by unfold D0;rw [if_neg A0,if_pos A0]
  match r with
  | []=>
   have hat:EO a []=false:=by unfold EO;rw [hn];simp
   rw [hat];refine ⟨λh=>(by cases h),λ_=>?_⟩;rw [DX,IR];rw [if_neg A0,if_neg A0,if_neg A0,if_pos h3];rfl
  | [b]=>
   have hat:EO a [b]=false:=by unfold EO;rw [hn];simp
   rw [hat];refine ⟨λh=>(by cases h),λ_=>?_⟩;rw [DX,IR];rw [if_neg A0,if_neg A0,if_neg A0,if_pos h3];rfl
  | b::c::r=>
   have hbl:=b.toNat_lt;have hcl:=c.toNat_lt;have hc:HP a (b::c::r)=(((a.toNat:Int)-224)*64+b.toNat-128)*64+c.toNat-128:=by unfold HP;rw [hn,hb];simp [more]
   have hul:KL (a::b::c::r)=if lo2 a≤b.toNat∧b.toNat≤hi2 a∧128≤c.toNat∧c.toNat≤191 then 3 else 0:=by
    rw [DX,IR];rw [if_neg A0,if_neg A0,if_neg A0,if_pos h3,u3]
    by_cases h4:lo2 a≤b.toNat∧b.toNat≤hi2 a∧128≤c.toNat∧c.toNat≤191
    ·rw [if_pos h4,if_pos (by simp [mid,US,h4])]
    rw [if_neg h4,if_neg (λh=>h4 (by simp [mid,US] at h;omega))]
   have hat:EO a (b::c::r)=decide (lo2 a≤b.toNat∧b.toNat≤hi2 a∧128≤c.toNat∧c.toNat≤191):=by
    unfold EO;rw [hn,hc];have htk:(a::b::c::r).take 3=[a,b,c]:=X;rw [htk]
    have key:(E6 ((((a.toNat:Int)-224)*64+b.toNat-128)*64+c.toNat-128)=some [a,b,c])↔(lo2 a≤b.toNat∧b.toNat≤hi2 a∧128≤c.toNat∧c.toNat≤191):=by
     have hlo:lo2 a=if a.toNat=224 then 160 else 128:=by unfold lo2;split;rfl;rw [if_neg A0]
     have hhi:hi2 a=if a.toNat=237 then 159 else 191:=by unfold hi2;split;rfl;rw [if_neg A0]
     rw [hlo,hhi];unfold E6
     split
     ·constructor
      ·intro h;cases h
      intro h;split at h<;>split at h<;>omega
     split
     ·constructor
      ·intro h;simp at h
      intro h;split at h<;>split at h<;>omega
     split
     ·constructor
      ·intro h;simp at h
      intro h;split at h<;>split at h<;>omega
     split
     ·rename_i g1 g2 g3 g4
      simp only [Ad,Cs,and_true];rw [J7 a A0,J7 b A0,J7 c A0]
      constructor
      ·intro h;split<;>split<;>omega
      intro h;split at h<;>split at h<;>omega
     constructor
     ·intro h;simp at h
     intro h;split at h<;>split at h<;>omega
    simp [key]
   rw [hul,hat]
   by_cases h4:lo2 a≤b.toNat∧b.toNat≤hi2 a∧128≤c.toNat∧c.toNat≤191
   ·rw [if_pos h4,hn];simp [h4]
   rw [if_neg h4];simp only [h4];simp
 have hn:nOf a=4:=by unfold nOf;rw [if_pos A0]
 have hb:D0 a=a.toNat-240:=by unfold D0;rw [if_pos A0]
 match r with
 | []=>
  have hat:EO a []=false:=by unfold EO;rw [hn];simp
  rw [hat];refine ⟨λh=>(by cases h),λ_=>?_⟩;rw [DX,IR];rw [if_neg A0,if_neg A0,if_neg A0,if_neg A0];split<;>rfl
 | [b]=>
  have hat:EO a [b]=false:=by unfold EO;rw [hn];simp
  rw [hat];refine ⟨λh=>(by cases h),λ_=>?_⟩;rw [DX,IR];rw [if_neg A0,if_neg A0,if_neg A0,if_neg A0];split<;>rfl
 | [b,c]=>
  have hat:EO a [b,c]=false:=by unfold EO;rw [hn];simp
  rw [hat];refine ⟨λh=>(by cases h),λ_=>?_⟩;rw [DX,IR];rw [if_neg A0,if_neg A0,if_neg A0,if_neg A0];split<;>rfl
 | b::c::d::r=>
  have hbl:=b.toNat_lt;have hcl:=c.toNat_lt;have hdl:=d.toNat_lt;have hc:HP a (b::c::d::r)=((((a.toNat:Int)-240)*64+b.toNat-128)*64+c.toNat-128)*64+d.toNat-128:=by unfold HP;rw [hn,hb];simp [more]
  have hul:KL (a::b::c::d::r)=if a.toNat<245∧lo2 a≤b.toNat∧b.toNat≤hi2 a∧128≤c.toNat∧c.toNat≤191∧128≤d.toNat∧d.toNat≤191 then 4 else 0:=by
   rw [DX,IR];rw [if_neg A0,if_neg A0,if_neg A0,if_neg h3]
   by_cases h5:a.toNat<245
   ·rw [if_pos h5,u4]
    by_cases h4:a.toNat<245∧lo2 a≤b.toNat∧b.toNat≤hi2 a∧128≤c.toNat∧c.toNat≤191∧128≤d.toNat∧d.toNat≤191
    ·rw [if_pos h4,if_pos (by simp [mid,US,h4])]
    rw [if_neg h4,if_neg (λh=>h4 (by simp [mid,US] at h;omega))]
   rw [if_neg h5,if_neg (λh=>h5 h.1)]
  have hat:EO a (b::c::d::r)=decide (a.toNat<245∧lo2 a≤b.toNat∧b.toNat≤hi2 a∧128≤c.toNat∧c.toNat≤191∧128≤d.toNat∧d.toNat≤191):=by
   unfold EO;rw [hn,hc];have htk:(a::b::c::d::r).take 4=[a,b,c,d]:=X;rw [htk]
   have key:(E6 (((((a.toNat:Int)-240)*64+b.toNat-128)*64+c.toNat-128)*64+d.toNat-128)=some [a,b,c,d])↔(a.toNat<245∧lo2 a≤b.toNat∧b.toNat≤hi2 a∧128≤c.toNat∧c.toNat≤191∧128≤d.toNat∧d.toNat≤191):=by
    have hlo:lo2 a=if a.toNat=240 then 144 else 128:=by unfold lo2;rw [if_neg A0]
    have hhi:hi2 a=if a.toNat=244 then 143 else 191:=by unfold hi2;rw [if_neg A0]
    rw [hlo,hhi];unfold E6
    split
    ·constructor
     ·intro h;cases h
     intro h;split at h<;>split at h<;>omega
    split
    ·constructor
     ·intro h;simp at h
     intro h;split at h<;>split at h<;>omega
    split
    ·constructor
     ·intro h;simp at h
     intro h;split at h<;>split at h<;>omega
    split
    ·constructor
     ·intro h;simp at h
     intro h;split at h<;>split at h<;>omega
    rename_i g1 g2 g3 g4
    simp only [Ad,Cs,and_true];rw [J7 a A0,J7 b A0,J7 c A0,J7 d A0]
    constructor
    ·intro h;split<;>split<;>omega
    intro h;split at h<;>split at h<;>omega
   simp [key]
  rw [hul,hat]
  by_cases h4:a.toNat<245∧lo2 a≤b.toNat∧b.toNat≤hi2 a∧128≤c.toNat∧c.toNat≤191∧128≤d.toNat∧d.toNat≤191
  ·rw [if_pos h4,hn];simp [h4]
  rw [if_neg h4];simp only [h4];simp
open Go.Lib
theorem jM (a:UInt8) (r:Kz) (h:128≤a.toNat) :
 checkN (a::r).length ((a::r).getD 1 0).toNat ((a::r).getD 2 0).toNat ((a::r).getD 3 0).toNat (firstT a.toNat%8) (accLo (firstT a.toNat / 16)) (accHi (firstT a.toNat / 16))=if KL (a::r)=0 then none else some (KL (a::r)):=by
 have ha:=a.toNat_lt
 by_cases c0:a.toNat<194
 ·have hu:KL (a::r)=0:=by rw [DX,IR,if_neg A0,if_pos c0]
  rw [hu,if_pos rfl]
  simp [firstT,checkN,show ¬a.toNat<128 by omega,c0]
 have fin2:∀x lo hi,firstT a.toNat=x→x%8=2→accLo (x / 16)=lo→accHi (x / 16)=hi→lo=lo2 a→hi=hi2 a→checkN (a::r).length ((a::r).getD 1 0).toNat ((a::r).getD 2 0).toNat ((a::r).getD 3 0).toNat (firstT a.toNat%8) (accLo (firstT a.toNat / 16)) (accHi (firstT a.toNat / 16))=if u2 a r=0 then none else some (u2 a r):=by
  intro x lo hi e1 e2 e3 e4 e5 e6;rw [e1,e2,e3,e4];unfold checkN;rw [if_pos rfl]
  match r with
  | []=>simp [u2]
  | b::r=>
   have:mid a b=decide (lo≤b.toNat∧b.toNat≤hi):=by rw [e5,e6];simp [mid]
   rw [u2,this]
   by_cases hb:lo≤b.toNat∧b.toNat≤hi
   ·simp [hb]
   simp only [hb];simp<;>omega
 have fin3:∀x lo hi,firstT a.toNat=x→x%8=3→accLo (x / 16)=lo→accHi (x / 16)=hi→lo=lo2 a→hi=hi2 a→checkN (a::r).length ((a::r).getD 1 0).toNat ((a::r).getD 2 0).toNat ((a::r).getD 3 0).toNat (firstT a.toNat%8) (accLo (firstT a.toNat / 16)) (accHi (firstT a.toNat / 16))=if u3 a r=0 then none else some (u3 a r):=by
  intro x lo hi e1 e2 e3 e4 e5 e6;rw [e1,e2,e3,e4];unfold checkN;rw [if_neg A0,if_pos rfl]
  match r with
  | []=>simp [u3]
  | [b]=>simp [u3]
  | b::c::r=>
   have:(mid a b&&US c)=decide (lo≤b.toNat∧b.toNat≤hi∧128≤c.toNat∧c.toNat≤191):=by
    rw [e5,e6,Bool.eq_iff_iff];unfold mid US;constructor<;>intro h<;>simp at h ⊢<;>omega
   rw [u3,this]
   by_cases hb:lo≤b.toNat∧b.toNat≤hi∧128≤c.toNat∧c.toNat≤191
   ·simp [hb]
   simp only [hb];simp<;>omega
 have fin4:∀x lo hi,firstT a.toNat=x→x%8=4→accLo (x / 16)=lo→accHi (x / 16)=hi→lo=lo2 a→hi=hi2 a→checkN (a::r).length ((a::r).getD 1 0).toNat ((a::r).getD 2 0).toNat ((a::r).getD 3 0).toNat (firstT a.toNat%8) (accLo (firstT a.toNat / 16)) (accHi (firstT a.toNat / 16))=if u4 a r=0 then none else some (u4 a r):=by
  intro x lo hi e1 e2 e3 e4 e5 e6;rw [e1,e2,e3,e4];unfold checkN;rw [if_neg A0,if_neg A0,if_pos rfl]
  match r with
  | []=>simp [u4]
  | [b]=>simp [u4]
  | [b,c]=>simp [u4]
  | b::c::d::r=>
   have:(mid a b&&US c&&US d)=decide (lo≤b.toNat∧b.toNat≤hi∧128≤c.toNat∧c.toNat≤191∧128≤d.toNat∧d.toNat≤191):=by
    rw [e5,e6,Bool.eq_iff_iff];unfold mid US;constructor<;>intro h<;>simp at h ⊢<;>omega
   rw [u4,this]
   by_cases hb:lo≤b.toNat∧b.toNat≤hi∧128≤c.toNat∧c.toNat≤191∧128≤d.toNat∧d.toNat≤191
   ·simp [hb]
   simp only [hb];simp<;>omega
 by_cases c1:a.toNat<224
 ·rw [show KL (a::r)=u2 a r by rw [DX,IR,if_neg A0,if_neg c0,if_pos c1]];exact fin2 2 128 191 (by simp [firstT,show ¬a.toNat<128 by omega,c0,c1]) X X X (by unfold lo2;rw [if_neg A0,if_neg A0]) (by unfold hi2;rw [if_neg A0,if_neg A0])
 by_cases c5:a.toNat<240
 ·rw [show KL (a::r)=u3 a r by rw [DX,IR,if_neg A0,if_neg c0,if_neg c1,if_pos c5]]
  by_cases c2:a.toNat=224
  ·exact fin3 19 160 191 (by rw [c2];rfl) X X X (by unfold lo2;rw [if_pos c2]) (by unfold hi2;rw [if_neg A0,if_neg A0])
  by_cases c4:a.toNat=237
  ·exact fin3 35 128 159 (by rw [c4];rfl) X X X (by unfold lo2;rw [if_neg A0,if_neg A0]) (by unfold hi2;rw [if_pos c4])
  refine fin3 3 128 191 ?_ X X X (by unfold lo2;rw [if_neg A0,if_neg A0]) (by unfold hi2;rw [if_neg A0,if_neg A0])
  by_cases c3:a.toNat<237
  ·simp [firstT,show ¬a.toNat<128 by omega,c0,c1,c2,c3]
  simp [firstT,show ¬a.toNat<128 by omega,c0,c1,c2,c3,c4,c5]
 by_cases c9:a.toNat<245
 ·rw [show KL (a::r)=u4 a r by rw [DX,IR,if_neg A0,if_neg c0,if_neg c1,if_neg c5,if_pos c9]]
  by_cases c6:a.toNat=240
  ·exact fin4 52 144 191 (by rw [c6];rfl) X X X (by unfold lo2;rw [if_neg A0,if_pos c6]) (by unfold hi2;rw [if_neg A0,if_neg A0])
  by_cases c8:a.toNat=244
  ·exact fin4 68 128 143 (by rw [c8];rfl) X X X (by unfold lo2;rw [if_neg A0,if_neg A0]) (by unfold hi2;rw [if_neg A0,if_pos c8])
  exact fin4 4 128 191 (by simp [firstT,show ¬a.toNat<128 by omega,c0,c1,show ¬a.toNat=224 by omega,show ¬a.toNat<237 by omega,show ¬a.toNat=237 by omega,c5,c6,show a.toNat<244 by omega]) X X X (by unfold lo2;rw [if_neg A0,if_neg A0]) (by unfold hi2;rw [if_neg A0,if_neg A0])
 rw [show KL (a::r)=0 by rw [DX,IR,if_neg A0,if_neg c0,if_neg c1,if_neg c5,if_neg c9],if_pos rfl]
 simp [firstT,checkN,show ¬a.toNat<128 by omega,c0,c1,show ¬a.toNat=224 by omega,show ¬a.toNat<237 by omega,show ¬a.toNat=237 by omega,c5,show ¬a.toNat=240 by omega,show ¬a.toNat<244 by omega,show ¬a.toNat=244 by omega]
theorem gS : ∀(n:Nat) (l:Kz),l.length≤n→validD l=utf l
 | 0,l,h=>by
  obtain rfl:l=[]:=Bj A0
  rfl
 | n+1,[],_=>rfl
 | n+1,a::r,h=>by
  rw [Af] at h
  by_cases c:a.toNat<128
  ·rw [validD_cons a r c,pW (a::r) 1 A0 (by rw [DX,IR,if_pos c])];exact gS n r A0
  rw [validD_lead (a::r) (by simp) (by show 128≤a.toNat;omega)]
  have:=jM a r A0
  simp only [List.getD_cons_zero] at this ⊢
  rw [this,VR (a::r) (by simp)]
  by_cases c0:KL (a::r)=0
  ·rw [if_pos c0,c0];rfl
  rw [if_neg c0];rw [show (KL (a::r) != 0)=true by simp [c0],Em];exact gS n _ (by rw [Bz,Af];omega)
open Go.RowKit
section
section
variable {P:Lw} {e:Env} {w:Kw} {n:Nat}
theorem CT {fn:Func} {R:Ending→Kw→Prop} {t ty g m:Nat} {d:TypeDesc} {xs:Kx} (hr:fn.results = #[.cell t ty]) (hv:e.get t=some (pg g)) (hrd:Rd w (some ⟨g,0,none⟩) m xs) (hu:P.underlying ty=some d) (hd:d.isRow=true) (hi:(P.info? ty).map (·.size)=some m)
 (h:R (.returned (.agg xs.toArray)) w):QX (bodyPost P fn R) .ret n e w:=.mk λa ha=>by
 have hc:w.rangeAt g 0 xs:=λj v hv=>by
  have hj:0<m:=by have:=(Aj.1 hv).1;have:=hrd.1;omega
  obtain ⟨b',off',e,hc⟩:=hrd.2 hj
  injection e with e;injection e with e1 e2 _;subst e1;subst e2
  exact hc j v hv
 have hrun:=run_loadVar_mid (P:=P) w g 0 ty xs d hc hu hd (by rw [hrd.1];exact hi)
 have:(results fn a.tmps).run P w=.ok (.agg xs.toArray) w:=by simp [results,hr,ha.get t _ hv,asAddr,hrun]
 exact ⟨ha.defers,_,this,h⟩
end
def tabN (n:Nat):Nat:=if (decide (65≤n)&&decide (n≤90)) || (decide (97≤n)&&decide (n≤122)) then 2 else if ((decide (48≤n)&&decide (n≤57)) || n==45 || n==95 || n==46) then 1 else 0
def tabL : Kx:=(List.range 256).map λn=>.int .u8 (tabN n:Int)
def a2O : Kv:=.agg tabL.toArray
def tbF (f:Nat→Nat):Kx:=(List.range 256).map λn=>.int .u8 (f n:Int)
theorem K3 (f:Nat→Nat):(tbF f).length=256:=by unfold tbF;rw [Bp,List.length_range]
theorem wP (f:Nat→Nat):∀u∈tbF f,u.oneCell'=true:=by
 intro u hu;obtain ⟨n,_,rfl⟩:=Ch.1 hu
 rfl
theorem SP {f g:Nat→Nat} (h:∀n,n<256→f n=g n):tbF f=tbF g:=by
 unfold tbF;exact Fd λn hn=>by rw [h n (Eu.1 hn)]
theorem SO {f:Nat→Nat} {k c off:Nat} (ho:off=k):(tbF f).set off (.int .u8 (c:Int))=tbF λn=>if n=k then c else f n:=by
 subst ho
 apply Dx
 intro n;rw [Hs];unfold tbF
 by_cases h:off=n
 ·subst h
  by_cases hl:off<256
  ·simp [hl]
  simp [hl]
 rw [if_neg h]
 by_cases hl:n<256
 ·have hn:¬n=off:=λe=>h e.symm
  simp [hl,hn]
 simp [hl]
def tb1 (i n:Nat):Nat:=if (97≤n∧n<97+i)∨(65≤n∧n<65+i) then 2 else 0
def tb2 (j n:Nat):Nat:=if 48≤n∧n<48+j then 1 else tb1 26 n
theorem qG {i:Nat}:tbF (λn=>if n=(((65+i:Nat):Int):Int).toNat then 2 else (λn=>if n=(((97+i:Nat):Int):Int).toNat then 2 else (tb1 i) n) n)=tbF (tb1 (i+1)):=SP λn _=>by
 unfold tb1;simp only [Es]
 repeat' split
 all_goals first
  | rfl
  | (exfalso;omega)
theorem qF {j:Nat}:tbF (λn=>if n=(((48+j:Nat):Int):Int).toNat then 1 else (tb2 j) n)=tbF (tb2 (j+1)):=SP λn _=>by
 unfold tb2;simp only [Es]
 repeat' split
 all_goals first
  | rfl
  | (exfalso;omega)
theorem a2N : tbF (tb1 26)=tbF (tb2 0):=SP λn _=>by
 unfold tb2;rw [if_neg A0]
theorem qH : tbF (λn=>if n=(46:Int).toNat then 1 else (λn=>if n=(95:Int).toNat then 1 else (λn=>if n=(45:Int).toNat then 1 else (tb2 10) n) n) n)=tabL:=by kernel_rfl
theorem wO : (prog.info? 139).map (·.zero)=some (some (.agg (tbF (tb1 0)).toArray)):=by kernel_rfl
theorem YT : (prog.info? 5).map (·.size)=some 1:=by kernel_rfl
theorem aI : (prog.info? 139).map (·.size)=some 256:=by kernel_rfl
theorem hG (w:Kw) :
 Calls prog 64 #[] w (BS w a2O):=by
 refine BR func64 ntmps64 X λM=>W ?_
 refine FR M kw X X 139 X (tbF (tb1 0)) wO X λg0 w1 hg0 M=>W ?_
 refine flp [0] (λze e wr mz=>∃(i:Nat),e=(3,AA (i:Int))::ze∧Mem w AR [As.blk g0 139 (tbF (tb1 i))] wr∧(i≤26)∧mz=26-i) ⟨0,X,M,Ae _,X⟩ ?_;rintro _ w2 _ ⟨i,rfl,M,hi,rfl⟩;refine W ?_;refine AB X (λh4=>?_) (λh4=>?_)
 ·have h4p:=odt h4;refine W ?_;refine ya X (G1 X X X (ar X) A0) (D1 (cs':=tbF (λn=>if n=(((97+i:Nat):Int):Int).toNat then 2 else (tb1 i) n)) M 0 kw X X X X X X X YT (by rw [K3];omega) (SO A0) λw3 M=>ya X (G1 X X X (ar X) A0) (D1 (cs':=tbF (λn=>if n=(((65+i:Nat):Int):Int).toNat then 2 else (λn=>if n=(((97+i:Nat):Int):Int).toNat then 2 else (tb1 i) n) n)) M 0 kw X X X X X X X YT (by rw [K3];omega) (SO A0) λw4 M=>W ?_));rw [qG] at M
  refine fag ⟨i+1,X,M,?_,X⟩
  ·omega
 have h4p:=odf h4;refine W ?_;obtain rfl:i=26:=by omega
 rw [a2N] at M
 refine W ?_;refine flp [0] (λze e wr mz=>∃(j:Nat),e=(13,AA (j:Int))::ze∧Mem w AR [As.blk g0 139 (tbF (tb2 j))] wr∧(j≤10)∧mz=10-j) ⟨0,X,M,Ae _,X⟩ ?_;rintro _ w5 _ ⟨j,rfl,M,hj,rfl⟩;refine W ?_;refine AB X (λh14=>?_) (λh14=>?_)
 ·have h14p:=odt h14;refine W ?_;refine ya X (G1 X X X (ar X) A0) (D1 (cs':=tbF (λn=>if n=(((48+j:Nat):Int):Int).toNat then 1 else (tb2 j) n)) M 0 kw X X X X X X X YT (by rw [K3];omega) (SO A0) λw6 M=>W ?_);rw [qF] at M
  refine fag ⟨j+1,X,M,?_,X⟩
  ·omega
 have h14p:=odf h14;refine W ?_;obtain rfl:j=10:=by omega
 refine W ?_;refine ya X (G1 X X X (ar X) A0) (D1 (cs':=tbF (λn=>if n=(45:Int).toNat then 1 else (tb2 10) n)) M 0 kw X X X X X X X YT (by rw [K3];omega) (SO A0) λw7 M=>ya X (G1 X X X (ar X) A0) (D1 (cs':=tbF (λn=>if n=(95:Int).toNat then 1 else (λn=>if n=(45:Int).toNat then 1 else (tb2 10) n) n)) M 0 kw X X X X X X X YT (by rw [K3];omega) (SO A0) λw8 M=>ya X (G1 X X X (ar X) A0) (D1 (cs':=tbF (λn=>if n=(46:Int).toNat then 1 else (λn=>if n=(95:Int).toNat then 1 else (λn=>if n=(45:Int).toNat then 1 else (tb2 10) n) n) n)) M 0 kw X X X X X X X YT (by rw [K3];omega) (SO A0) λw9 M=>W ?_)));refine ya X (AI (xs:=tbF (λn=>if n=(46:Int).toNat then 1 else (λn=>if n=(95:Int).toNat then 1 else (λn=>if n=(45:Int).toNat then 1 else (tb2 10) n) n) n)) X X (M.rdBlk 0 X (K3 _)) Gf X aI) (J9 (cs':=(tbF (λn=>if n=(46:Int).toNat then 1 else (λn=>if n=(95:Int).toNat then 1 else (λn=>if n=(45:Int).toNat then 1 else (tb2 10) n) n) n))) M 0 kw X X X X X aI (K3 _) (by rw [K3];decide) (wP _) (HA _ _ X) λw10 M=>W ?_);exact CT X X (M.rdBlk 0 X (K3 _)) Gf X aI ⟨by rw [qH];rfl,M.fr⟩
end
structure Vl where
 kind:UInt8
 int:Int
 bool:Bool
 text:Kz
def Vl.cells (v:Vl):Kx:=[bv v.kind,.int .i64 v.int,.bool v.bool,str v.text]
def Vl.val (v:Vl):Kv:=.agg v.cells.toArray
def Vl.same (a b:Vl):Bool:=decide ((a.kind.toNat:Int)=b.kind.toNat)&&(decide (a.int=b.int)&&((a.bool==b.bool)&&decide (a.text=b.text)))
theorem Vl.cells_one (v:Vl):∀u∈v.cells,u.oneCell'=true:=by
 intro u hu;simp only [Vl.cells,Ak,Ax,or_false] at hu
 rcases hu with rfl|rfl|rfl|rfl<;>rfl
def zeroVl : Vl:=⟨0,0,false,[]⟩
theorem Q3 : (prog.info? 61).map (·.zero)=some (some zeroVl.val):=by kernel_rfl
theorem FN : (prog.info? 61).map (·.size)=some 4:=by kernel_rfl
theorem bC (n:Int):prog.built 61 [(0,.int .u8 1),(1,AA n)]=some (Vl.cells ⟨1,n,false,[]⟩).toArray:=by kernel_rfl
theorem cU (b:Bool):prog.built 61 [(0,.int .u8 2),(2,.bool b)]=some (Vl.cells ⟨2,0,b,[]⟩).toArray:=by kernel_rfl
theorem cN (l:Kz):prog.built 61 [(0,.int .u8 3),(3,str l)]=some (Vl.cells ⟨3,0,false,l⟩).toArray:=by kernel_rfl
theorem nP (i:Int) (w:Kw):Calls prog 65 #[AA i] w (BS w (Vl.val ⟨1,i,false,[]⟩)):=by
 refine sx_enter (vs:=[_]) func65 X ntmps65 X (W ?_);refine sxl_does (some 2) kw X X (λρ hρ=>BN 61 X _ _ Q3 X) ?_;rintro _ w1 ⟨g,rfl,hg1,hg2,hb,hf⟩;refine W ?_;refine ya X (B7 X X (bC i)) (sxl_does none kw X X (λρ hρ=>BK 61 (.tmp 2) (.tmp 4) X g 0 61 _ (Vl.cells ⟨1,i,false,[]⟩) (hρ _ _ X) (hρ _ _ X) hb FN (by show 0+4≤4;omega) (Vl.cells_one _)) ?_);rintro _ w2 ⟨rfl,hb2,hf2⟩;rw [HA zeroVl.cells (Vl.cells ⟨1,i,false,[]⟩) rfl] at hb2
 refine W ?_;exact CT X X (Rd.ofBlk hb2 X) Br X FN ⟨X,hf.step hf2 (λk hk e=>by omega)⟩
theorem q8 (i:Bool) (w:Kw):Calls prog 66 #[.bool i] w (BS w (Vl.val ⟨2,0,i,[]⟩)):=by
 refine sx_enter (vs:=[_]) func66 X ntmps66 X (W ?_);refine sxl_does (some 2) kw X X (λρ hρ=>BN 61 X _ _ Q3 X) ?_;rintro _ w1 ⟨g,rfl,hg1,hg2,hb,hf⟩;refine W ?_;refine ya X (B7 X X (cU i)) (sxl_does none kw X X (λρ hρ=>BK 61 (.tmp 2) (.tmp 4) X g 0 61 _ (Vl.cells ⟨2,0,i,[]⟩) (hρ _ _ X) (hρ _ _ X) hb FN (by show 0+4≤4;omega) (Vl.cells_one _)) ?_);rintro _ w2 ⟨rfl,hb2,hf2⟩;rw [HA zeroVl.cells (Vl.cells ⟨2,0,i,[]⟩) rfl] at hb2
 refine W ?_;exact CT X X (Rd.ofBlk hb2 X) Br X FN ⟨X,hf.step hf2 (λk hk e=>by omega)⟩
theorem pL (i:Kz) (w:Kw):Calls prog 39 #[str i] w (BS w (Vl.val ⟨3,0,false,i⟩)):=by
 refine sx_enter (vs:=[_]) func39 X ntmps39 X (W ?_);refine sxl_does (some 2) kw X X (λρ hρ=>BN 61 X _ _ Q3 X) ?_;rintro _ w1 ⟨g,rfl,hg1,hg2,hb,hf⟩;refine W ?_;refine ya X (B7 X X (cN i)) (sxl_does none kw X X (λρ hρ=>BK 61 (.tmp 2) (.tmp 4) X g 0 61 _ (Vl.cells ⟨3,0,false,i⟩) (hρ _ _ X) (hρ _ _ X) hb FN (by show 0+4≤4;omega) (Vl.cells_one _)) ?_);rintro _ w2 ⟨rfl,hb2,hf2⟩;rw [HA zeroVl.cells (Vl.cells ⟨3,0,false,i⟩) rfl] at hb2
 refine W ?_;exact CT X X (Rd.ofBlk hb2 X) Br X FN ⟨X,hf.step hf2 (λk hk e=>by omega)⟩
theorem TZ : prog.eqGuardType prog.depth 61=false:=by kernel_rfl
theorem VQ : prog.stoodInHeld 61=false:=by kernel_rfl
theorem R4 : prog.underlying 61=some (.struct (prog.fieldsOf 61)):=by kernel_rfl
theorem BF {P : Lw} {w : Kw} {f : Field} {fs : List Field} {d : Nat} {xs ys : Array Kv} {a b : Kv} {r : Bool} (hn : f.name ≠ "_") (ha : (part f.type xs f.offset).run P w = .ok a w) (hb : (part f.type ys f.offset).run P w = .ok b w)
 (hr:(Op.equalIn d f.type a b).run P w=.ok r w):(Op.eqFields d xs ys (f::fs)).run P w=if r then (Op.eqFields d xs ys fs).run P w else .ok false w:=by
 simp only [Op.eqFields,if_pos hn,Sem.run_bind,ha,hb,hr,Result.andThen_ok]
 cases r<;>simp
theorem BB {P:Lw} {w:Kw} {t:Ly} {xs:Array Kv} {off:Nat} {v:Kv} (ha:(isAgg t).run P w=.ok false w) (hx:xs[off]?=some v):(part t xs off).run P w=.ok v w:=by simp [part,ha,hx]
theorem gN {e:Env} {w:Kw} {o:Oper} {t':Nat} {x y:Lz} {a b:Vl} (ho:o.op=.binOp .eql 61 x y t') (hx:ev e x=some a.val) (hy:ev e y=some b.val):Y prog e o w (.bool (a.same b)):=λρ h=>by
 have h1:ρ x=.agg a.cells.toArray:=h _ _ hx;have h2:ρ y=.agg b.cells.toArray:=h _ _ hy;have hg:=run_eqGuard_agg (P:=prog) w .eql 61 x y a.cells.toArray b.cells.toArray TZ
 have hrun:(Op.equalIn 10000 61 (.agg a.cells.toArray) (.agg b.cells.toArray)).run prog w=.ok (a.same b) w:=by
  rw [run_equalIn_struct w 9999 61 _ _ R4 VQ];have hl:(prog.fieldsOf 61).toList=(match prog.underlying 61 with|some (.struct fs)=>fs.toList|_=>[]):=by unfold Program.fieldsOf;rw [Br]
  rw [hl,Br]
  simp only
  rw [BF (a:=.int .u8 (a.kind.toNat:Int)) (b:=.int .u8 (b.kind.toNat:Int)) AV (BB (isAgg5 w) rfl) (BB (isAgg5 w) rfl) (run_equalIn_int w 9998 5 _ _ _ _ Bi),
   BF (a:=AA a.int) (b:=AA b.int) AV (BB (isAgg2 w) rfl) (BB (isAgg2 w) rfl) (run_equalIn_int w 9998 2 _ _ _ _ Ha),
   BF (a:=.bool a.bool) (b:=.bool b.bool) AV (BB (isAgg4 w) rfl) (BB (isAgg4 w) rfl) (run_equalIn_bool' w 9998 4 _ _ Ei),
   BF (a:=str a.text) (b:=str b.text) AV (BB (isAgg9 w) rfl) (BB (isAgg9 w) rfl) (run_equalIn_string w 9998 9 _ _ Aa)]
  have ht:((⟨a.text.toArray⟩:ByteArray).toList==(⟨b.text.toArray⟩:ByteArray).toList)=decide (a.text=b.text):=by
   rw [ByteArray.toList_eq,ByteArray.toList_eq]
   by_cases h:a.text=b.text<;>simp [h]
  rw [ht];simp only [Op.eqFields,Sem.run_pure];unfold Vl.same
  by_cases h1:(a.kind.toNat:Int)=b.kind.toNat<;>by_cases h2:a.int=b.int<;>by_cases h3:a.bool=b.bool<;>by_cases h4:a.text=b.text<;>simp [h1,h2,h3,h4]
 unfold execOp;simp only [ho,h1,h2,Sem.run_bind,hg,Result.andThen_ok,run_eql_struct,hrun]
 rfl
def CP (c:UInt8):Bool:=(97≤c.toNat&&c.toNat≤122) || (65≤c.toNat&&c.toNat≤90)
def F4 (c:UInt8):Bool:=(48≤c.toNat&&c.toNat≤57) || c.toNat==45 || c.toNat==95 || c.toNat==46
def G5 : Nat→Kz→Bool
 | _,[]=>true
 | i,c::l=>(CP c || (F4 c&&i != 0))&&G5 (i+1) l
def B6 (l:Kz):Bool:=decide (1≤l.length)&&decide (l.length≤32)&&G5 0 l
theorem a2x (c:Nat) (h:c<256):c≤44∨c=45∨c=46∨c=47∨(48≤c∧c≤57)∨(58≤c∧c≤64)∨(65≤c∧c≤90)∨(91≤c∧c≤94)∨c=95∨c=96∨(97≤c∧c≤122)∨(123≤c):=by omega
theorem G7 (l:Kz) (w:Kw) (hm:(l.length:Int)<9223372036854775807):Calls prog 34 #[str l] w λe w'=>e=.returned (.bool (B6 l))∧w=w':=by
 refine sx_enter (vs:=[_]) func34 X ntmps34 X ?_
 by_cases h0:l.length<1
 ·refine V ?_;refine ya X (BT X X Aa) (ya X (D4 X X X A0) (V ?_));exact gr1 X ⟨by simp [B6,show ¬1≤l.length by omega],rfl⟩
 by_cases h1:32<l.length
 ·refine V ?_;refine ya X (BT X X Aa) (ya X (DD X X X A0) (V ?_));refine yd X (BT X X Aa) (yd X (OX X X X A0) (V ?_));exact gr1 X ⟨by simp [B6,show ¬l.length≤32 by omega],rfl⟩
 refine V ?_;refine ya X (BT X X Aa) (ya X (DD X X X A0) (V ?_));refine yd X (BT X X Aa) (yd X (II X X X A0) (V ?_));have hno:B6 l=G5 0 l:=by simp [B6,show 1≤l.length by omega,show l.length≤32 by omega]
 refine sx_loop (λe wr m=>∃(i:Nat),e=[(3,AA (i:Int)),(0,str l)]∧w=wr∧i≤l.length∧G5 0 l=G5 i (l.drop i)∧m=l.length-i) ⟨0,X,X,Ae _,X,X⟩ ⟨X,X,trivial⟩ ?_;rintro _ _ _ ⟨i,rfl,rfl,hi,hn,rfl⟩
 by_cases hlt:i<l.length
 ·obtain ⟨c,hc⟩:∃c,l[i]?=some c:=⟨_,Ao hlt⟩
  have hdr:l.drop i=c::l.drop (i+1):=by
   rw [Eg hlt]
   congr 1
   rw [Ao hlt] at hc
   exact Bs hc
  have hstep:G5 0 l=((CP c || (F4 c&&i != 0))&&G5 (i+1) (l.drop (i+1))):=by rw [hn,hdr,G5]
  have h256:=c.toNat_lt;rcases a2x c.toNat h256 with hk|hk|hk|hk|hk|hk|hk|hk|hk|hk|hk|hk
  ·have hL:CP c=false:=by unfold CP;simp;omega
   have hO:F4 c=false:=by unfold F4;simp;omega
   refine V ?_;refine ya X (BT X X Aa) (ya X (D4 X X X A0) (V ?_));refine ya X (B8 X X X Aa hc) (V ?_);refine ya X (C4 X X X A0) (V ?_);refine yd X (C4 X X X A0) (V ?_);refine ya X (C4 X X X A0) (V ?_);refine yd X (BP X X X A0) (V ?_);refine yd X (BP X X X A0) (V ?_);refine yd X (BP X X X A0) (V ?_);exact gr1 X ⟨by rw [hno,hstep];simp [hL,hO],rfl⟩
  ·have hL:CP c=false:=by unfold CP;simp;omega
   have hO:F4 c=true:=by unfold F4;simp;omega
   by_cases hi0:i=0
   ·refine V ?_;refine ya X (BT X X Aa) (ya X (D4 X X X A0) (V ?_));refine ya X (B8 X X X Aa hc) (V ?_);refine ya X (C4 X X X A0) (V ?_);refine yd X (C4 X X X A0) (V ?_);refine ya X (C4 X X X A0) (V ?_);refine yd X (DF X X X A0) (V ?_);refine yd X (DF X X X A0) (V ?_);exact gr1 X ⟨by rw [hno,hstep];simp [hL,hO,hi0],rfl⟩
   refine V ?_;refine ya X (BT X X Aa) (ya X (D4 X X X A0) (V ?_));refine ya X (B8 X X X Aa hc) (V ?_);refine ya X (C4 X X X A0) (V ?_);refine yd X (C4 X X X A0) (V ?_);refine ya X (C4 X X X A0) (V ?_);refine yd X (DF X X X A0) (V ?_);refine yd X (BP X X X A0) (V ?_);refine CZ X X (V ?_);exact fag ⟨i+1,X,X,by omega,by rw [hstep];simp [hL,hO,hi0],rfl⟩
  ·have hL:CP c=false:=by unfold CP;simp;omega
   have hO:F4 c=true:=by unfold F4;simp;omega
   by_cases hi0:i=0
   ·refine V ?_;refine ya X (BT X X Aa) (ya X (D4 X X X A0) (V ?_));refine ya X (B8 X X X Aa hc) (V ?_);refine ya X (C4 X X X A0) (V ?_);refine yd X (C4 X X X A0) (V ?_);refine ya X (C4 X X X A0) (V ?_);refine yd X (BP X X X A0) (V ?_);refine yd X (BP X X X A0) (V ?_);refine yd X (DF X X X A0) (V ?_);refine yd X (DF X X X A0) (V ?_);exact gr1 X ⟨by rw [hno,hstep];simp [hL,hO,hi0],rfl⟩
   refine V ?_;refine ya X (BT X X Aa) (ya X (D4 X X X A0) (V ?_));refine ya X (B8 X X X Aa hc) (V ?_);refine ya X (C4 X X X A0) (V ?_);refine yd X (C4 X X X A0) (V ?_);refine ya X (C4 X X X A0) (V ?_);refine yd X (BP X X X A0) (V ?_);refine yd X (BP X X X A0) (V ?_);refine yd X (DF X X X A0) (V ?_);refine yd X (BP X X X A0) (V ?_);refine CZ X X (V ?_);exact fag ⟨i+1,X,X,by omega,by rw [hstep];simp [hL,hO,hi0],rfl⟩
  ·have hL:CP c=false:=by unfold CP;simp;omega
   have hO:F4 c=false:=by unfold F4;simp;omega
   refine V ?_;refine ya X (BT X X Aa) (ya X (D4 X X X A0) (V ?_));refine ya X (B8 X X X Aa hc) (V ?_);refine ya X (C4 X X X A0) (V ?_);refine yd X (C4 X X X A0) (V ?_);refine ya X (C4 X X X A0) (V ?_);refine yd X (BP X X X A0) (V ?_);refine yd X (BP X X X A0) (V ?_);refine yd X (BP X X X A0) (V ?_);exact gr1 X ⟨by rw [hno,hstep];simp [hL,hO],rfl⟩
  ·have hL:CP c=false:=by unfold CP;simp;omega
   have hO:F4 c=true:=by unfold F4;simp;omega
   by_cases hi0:i=0
   ·refine V ?_;refine ya X (BT X X Aa) (ya X (D4 X X X A0) (V ?_));refine ya X (B8 X X X Aa hc) (V ?_);refine ya X (C4 X X X A0) (V ?_);refine yd X (C4 X X X A0) (V ?_);refine ya X (DE X X X A0) (V ?_);refine yd X (J4 X X X A0) (V ?_);refine yd X (DF X X X A0) (V ?_);exact gr1 X ⟨by rw [hno,hstep];simp [hL,hO,hi0],rfl⟩
   refine V ?_;refine ya X (BT X X Aa) (ya X (D4 X X X A0) (V ?_));refine ya X (B8 X X X Aa hc) (V ?_);refine ya X (C4 X X X A0) (V ?_);refine yd X (C4 X X X A0) (V ?_);refine ya X (DE X X X A0) (V ?_);refine yd X (J4 X X X A0) (V ?_);refine yd X (BP X X X A0) (V ?_);refine CZ X X (V ?_);exact fag ⟨i+1,X,X,by omega,by rw [hstep];simp [hL,hO,hi0],rfl⟩
  ·have hL:CP c=false:=by unfold CP;simp;omega
   have hO:F4 c=false:=by unfold F4;simp;omega
   refine V ?_;refine ya X (BT X X Aa) (ya X (D4 X X X A0) (V ?_));refine ya X (B8 X X X Aa hc) (V ?_);refine ya X (C4 X X X A0) (V ?_);refine yd X (C4 X X X A0) (V ?_);refine ya X (DE X X X A0) (V ?_);refine yd X (DT X X X A0) (V ?_);refine yd X (BP X X X A0) (V ?_);refine yd X (BP X X X A0) (V ?_);refine yd X (BP X X X A0) (V ?_);exact gr1 X ⟨by rw [hno,hstep];simp [hL,hO],rfl⟩
  ·have hL:CP c=true:=by unfold CP;simp;omega
   refine V ?_;refine ya X (BT X X Aa) (ya X (D4 X X X A0) (V ?_));refine ya X (B8 X X X Aa hc) (V ?_);refine ya X (C4 X X X A0) (V ?_);refine yd X (DE X X X A0) (V ?_);refine yd X (J4 X X X A0) (V ?_);refine ya X (DE X X X A0) (V ?_);refine yd X (DT X X X A0) (V ?_);refine yd X (BP X X X A0) (V ?_);refine yd X (BP X X X A0) (V ?_);refine yd X (BP X X X A0) (V ?_);refine CZ X X (V ?_);exact fag ⟨i+1,X,X,by omega,by rw [hstep];simp [hL],rfl⟩
  ·have hL:CP c=false:=by unfold CP;simp;omega
   have hO:F4 c=false:=by unfold F4;simp;omega
   refine V ?_;refine ya X (BT X X Aa) (ya X (D4 X X X A0) (V ?_));refine ya X (B8 X X X Aa hc) (V ?_);refine ya X (C4 X X X A0) (V ?_);refine yd X (DE X X X A0) (V ?_);refine yd X (DT X X X A0) (V ?_);refine ya X (DE X X X A0) (V ?_);refine yd X (DT X X X A0) (V ?_);refine yd X (BP X X X A0) (V ?_);refine yd X (BP X X X A0) (V ?_);refine yd X (BP X X X A0) (V ?_);exact gr1 X ⟨by rw [hno,hstep];simp [hL,hO],rfl⟩
  ·have hL:CP c=false:=by unfold CP;simp;omega
   have hO:F4 c=true:=by unfold F4;simp;omega
   by_cases hi0:i=0
   ·refine V ?_;refine ya X (BT X X Aa) (ya X (D4 X X X A0) (V ?_));refine ya X (B8 X X X Aa hc) (V ?_);refine ya X (C4 X X X A0) (V ?_);refine yd X (DE X X X A0) (V ?_);refine yd X (DT X X X A0) (V ?_);refine ya X (DE X X X A0) (V ?_);refine yd X (DT X X X A0) (V ?_);refine yd X (BP X X X A0) (V ?_);refine yd X (DF X X X A0) (V ?_);refine yd X (DF X X X A0) (V ?_);exact gr1 X ⟨by rw [hno,hstep];simp [hL,hO,hi0],rfl⟩
   refine V ?_;refine ya X (BT X X Aa) (ya X (D4 X X X A0) (V ?_));refine ya X (B8 X X X Aa hc) (V ?_);refine ya X (C4 X X X A0) (V ?_);refine yd X (DE X X X A0) (V ?_);refine yd X (DT X X X A0) (V ?_);refine ya X (DE X X X A0) (V ?_);refine yd X (DT X X X A0) (V ?_);refine yd X (BP X X X A0) (V ?_);refine yd X (DF X X X A0) (V ?_);refine yd X (BP X X X A0) (V ?_);refine CZ X X (V ?_);exact fag ⟨i+1,X,X,by omega,by rw [hstep];simp [hL,hO,hi0],rfl⟩
  ·have hL:CP c=false:=by unfold CP;simp;omega
   have hO:F4 c=false:=by unfold F4;simp;omega
   refine V ?_;refine ya X (BT X X Aa) (ya X (D4 X X X A0) (V ?_));refine ya X (B8 X X X Aa hc) (V ?_);refine ya X (C4 X X X A0) (V ?_);refine yd X (DE X X X A0) (V ?_);refine yd X (DT X X X A0) (V ?_);refine ya X (DE X X X A0) (V ?_);refine yd X (DT X X X A0) (V ?_);refine yd X (BP X X X A0) (V ?_);refine yd X (BP X X X A0) (V ?_);refine yd X (BP X X X A0) (V ?_);exact gr1 X ⟨by rw [hno,hstep];simp [hL,hO],rfl⟩
  ·have hL:CP c=true:=by unfold CP;simp;omega
   refine V ?_;refine ya X (BT X X Aa) (ya X (D4 X X X A0) (V ?_));refine ya X (B8 X X X Aa hc) (V ?_);refine ya X (DE X X X A0) (V ?_);refine yd X (J4 X X X A0) (V ?_);refine ya X (DE X X X A0) (V ?_);refine yd X (DT X X X A0) (V ?_);refine yd X (BP X X X A0) (V ?_);refine yd X (BP X X X A0) (V ?_);refine yd X (BP X X X A0) (V ?_);refine CZ X X (V ?_);exact fag ⟨i+1,X,X,by omega,by rw [hstep];simp [hL],rfl⟩
  have hL:CP c=false:=by unfold CP;simp;omega
  have hO:F4 c=false:=by unfold F4;simp;omega
  refine V ?_;refine ya X (BT X X Aa) (ya X (D4 X X X A0) (V ?_));refine ya X (B8 X X X Aa hc) (V ?_);refine ya X (DE X X X A0) (V ?_);refine yd X (DT X X X A0) (V ?_);refine yd X (DE X X X A0) (V ?_);refine yd X (DT X X X A0) (V ?_);refine ya X (DE X X X A0) (V ?_);refine yd X (DT X X X A0) (V ?_);refine yd X (BP X X X A0) (V ?_);refine yd X (BP X X X A0) (V ?_);refine yd X (BP X X X A0) (V ?_);exact gr1 X ⟨by rw [hno,hstep];simp [hL,hO],rfl⟩
 obtain rfl:i=l.length:=by omega
 refine V ?_;refine ya X (BT X X Aa) (ya X (DD X X X A0) (V ?_));exact gr1 X ⟨by rw [hno,hn,Am,G5],rfl⟩
section
structure Bd where
 name:Kz
 v:Vl
def Bd.cells (b:Bd):Kx:=str b.name::b.v.cells
def Bd.val (b:Bd):Kv:=.agg b.cells.toArray
def l5 (l:List Bd):List Kx:=l.map Bd.cells
def U8 (l:List Bd):Kx:=(l5 l).flatten
theorem n0 (l:List Bd):All 5 (l5 l):=λr hr=>by
 obtain ⟨b,_,rfl⟩:=Ch.1 hr
 rfl
theorem u7 {l:List Bd} {i:Nat} {x:Bd} (h:l[i]?=some x) {j:Nat} {u:Kv} (hj:x.cells[j]?=some u):(U8 l)[i*5+j]?=some u:=by
 have h1:=bP (n0 l) (i:=i) (x:=x.cells) (by unfold l5;rw [Bu,h];rfl);have hj5:j<5:=by have:=(Aj.1 hj).1;exact this
 have h2:(((l5 l).flatten.drop (i*5)).take 5)[j]?=x.cells[j]?:=Ay (·[j]?) h1;rw [Cb hj5,Bt,hj] at h2
 exact h2
structure ElD (w:Kw) (b off:Nat) (x:Bd):Prop where
 name:Cell w.heap b (off+0) (str x.name)
 kind:Cell w.heap b (off+1+0) (.int .u8 (x.v.kind.toNat:Int))
 val:Rd w (some ⟨b,off+1,none⟩) 4 x.v.cells
 all:Rd w (some ⟨b,off,none⟩) 5 x.cells
theorem ElD.of {w:Kw} {b off:Nat} {x:Bd} (h:∀(j:Nat) u,x.cells[j]?=some u→w.cell? ⟨b,off+j,none⟩=some u):ElD w b off x where
 name:=Cell.of (h 0 _ rfl)
 kind:=Cell.of (h 1 _ rfl)
 val:=⟨rfl,λ_=>⟨b,off+1,rfl,λj u hu=>by rw [Ff,Nat.add_comm 1 j];exact h (j+1) u hu⟩⟩
 all:=⟨rfl,λ_=>⟨b,off,rfl,h⟩⟩
theorem OZ {w:Kw} {A:Ky} {l:List Bd} (hr:Rd w A (l.length*5) (U8 l)) {i:Nat} {x:Bd} (hx:l[i]?=some x):∃b off,A=some ⟨b,off,none⟩∧ElD w b (off+i*5) x:=by
 have hi:=(Aj.1 hx).1;obtain ⟨b,off,e,hc⟩:=hr.2 A0;exact ⟨b,off,e,ElD.of λj u hu=>by rw [Ff];exact hc _ u (u7 hx hu)⟩
theorem OU {w:Kw} {g:Nat} {t:Ly} {x:Bd} (h:Blk w g t x.cells):ElD w g 0 x:=ElD.of λj u hu=>by
 rw [Cm];exact (h.cell j).trans hu
theorem Bd.cells_one (b:Bd):∀u∈b.cells,u.oneCell'=true:=by
 intro u hu;simp only [Bd.cells,Vl.cells,Ak,Ax,or_false] at hu
 rcases hu with rfl|rfl|rfl|rfl|rfl<;>rfl
def zeroBd : Bd:=⟨[],zeroVl⟩
theorem TP : (prog.info? 63).map (·.zero)=some (some zeroBd.val):=by kernel_rfl
theorem L0 : (prog.info? 63).map (·.size)=some 5:=by kernel_rfl
def EK : List Bd→Kz→Option Vl
 | [],_=>none
 | x::r,k=>if x.name=k then some x.v else EK r k
section
variable {P:Lw} {e:Env} {w:Kw} {n:Nat}
theorem FQ {fn:Func} {R:Ending→Kw→Prop} {t ty g m u:Nat} {v:Kv} {d:TypeDesc} {xs:Kx} (hr:fn.results = #[.cell t ty,.tmp u]) (hv:e.get t=some (pg g)) (hrd:Rd w (some ⟨g,0,none⟩) m xs) (hu:P.underlying ty=some d) (hd:d.isRow=true) (hi:(P.info? ty).map (·.size)=some m)
 (hv':e.get u=some v) (h:R (.returned (.tuple #[.agg xs.toArray,v])) w):QX (bodyPost P fn R) .ret n e w:=.mk λa ha=>by
 have hc:w.rangeAt g 0 xs:=λj v hv=>by
  have hj:0<m:=by have:=(Aj.1 hv).1;have:=hrd.1;omega
  obtain ⟨b',off',e,hc⟩:=hrd.2 hj
  injection e with e;injection e with e1 e2 _;subst e1;subst e2
  exact hc j v hv
 have hrun:=run_loadVar_mid (P:=P) w g 0 ty xs d hc hu hd (by rw [hrd.1];exact hi)
 have:(results fn a.tmps).run P w=.ok (.tuple #[.agg xs.toArray,v]) w:=by simp [results,hr,ha.get t _ hv,ha.get u _ hv',asAddr,hrun]
 exact ⟨ha.defers,_,this,h⟩
theorem IA {fn:Func} {R:Ending→Kw→Prop} {t ty g m u u2:Nat} {v v2:Kv} {d:TypeDesc} {xs:Kx} (hr:fn.results = #[.cell t ty,.tmp u,.tmp u2]) (hv:e.get t=some (pg g)) (hrd:Rd w (some ⟨g,0,none⟩) m xs) (hu:P.underlying ty=some d) (hd:d.isRow=true) (hi:(P.info? ty).map (·.size)=some m)
 (hv':e.get u=some v) (hv2:e.get u2=some v2) (h:R (.returned (.tuple #[.agg xs.toArray,v,v2])) w):QX (bodyPost P fn R) .ret n e w:=.mk λa ha=>by
 have hc:w.rangeAt g 0 xs:=λj v hv=>by
  have hj:0<m:=by have:=(Aj.1 hv).1;have:=hrd.1;omega
  obtain ⟨b',off',e,hc⟩:=hrd.2 hj
  injection e with e;injection e with e1 e2 _;subst e1;subst e2
  exact hc j v hv
 have hrun:=run_loadVar_mid (P:=P) w g 0 ty xs d hc hu hd (by rw [hrd.1];exact hi)
 have:(results fn a.tmps).run P w=.ok (.tuple #[.agg xs.toArray,v,v2]) w:=by simp [results,hr,ha.get t _ hv,ha.get u _ hv',ha.get u2 _ hv2,asAddr,hrun]
 exact ⟨ha.defers,_,this,h⟩
end
structure BdOk (l:List Bd):Prop where
 len:(l.length:Int)<4611686018427387904
 name:∀x∈l,(x.name.length:Int)<4611686018427387904
 text:∀x∈l,(x.v.text.length:Int)<4611686018427387904
theorem V9 {l:List Bd} {i:Nat} {x:Bd} (hx:l[i]?=some x):l.drop i=x::l.drop (i+1):=by
 have hlt:=(Aj.1 hx).1;rw [Eg hlt]
 congr 1
 rw [Ao hlt] at hx
 exact Bs hx
end
structure El where
 id:Kz
 nm:Kz
 kind:UInt8
 inn:Kz
 dflt:Kz
 att:Kz
 ev:UInt8
 ref:Kz
 key:Kz
 ticks:Int
 tries:Int
def El.cells (x:El):Kx:=[str x.id,str x.nm,.int .u8 (x.kind.toNat:Int),str x.inn,str x.dflt,str x.att,.int .u8 (x.ev.toNat:Int),str x.ref,str x.key,.int .i64 x.ticks,.int .i64 x.tries]
theorem El.cells_one (x:El):∀u∈x.cells,u.oneCell'=true:=BW rfl
theorem El.len (x:El):x.cells.length=11:=rfl
def zeroEl : El:=⟨[],[],0,[],[],[],0,[],[],0,0⟩
structure Fl where
 id:Kz
 frm:Kz
 tg:Kz
 cond:Kz
def Fl.cells (x:Fl):Kx:=[str x.id,str x.frm,str x.tg,str x.cond]
theorem Fl.cells_one (x:Fl):∀u∈x.cells,u.oneCell'=true:=BW rfl
theorem Fl.len (x:Fl):x.cells.length=4:=rfl
def zeroFl : Fl:=⟨[],[],[],[]⟩
theorem Bd.len (x:Bd):x.cells.length=5:=rfl
structure Md where
 id:Kz
 nm:Kz
 vars:List Bd
 els:List El
 fls:List Fl
structure MdA where
 V:Ky
 vc:Nat
 E:Ky
 ec:Nat
 F:Ky
 fc:Nat
def Md.cells (m:Md) (a:MdA):Kx:=[str m.id,str m.nm,.slice a.V m.vars.length a.vc,.slice a.E m.els.length a.ec,.slice a.F m.fls.length a.fc]
structure MdIn (w:Kw) (m:Md) (a:MdA):Prop where
 vars:Rd w a.V (m.vars.length*5) (AE Bd.cells m.vars)
 els:Rd w a.E (m.els.length*11) (AE El.cells m.els)
 fls:Rd w a.F (m.fls.length*4) (AE Fl.cells m.fls)
theorem MdIn.fr0 {w w':Kw} {m:Md} {a:MdA} (h:MdIn w m a) (hf:Fr0 w w'):MdIn w' m a:=⟨h.vars.fr0 hf,h.els.fr0 hf,h.fls.fr0 hf⟩
structure ElOk (x:El):Prop where
 id:(x.id.length:Int)<4611686018427387904
 nm:(x.nm.length:Int)<4611686018427387904
 inn:(x.inn.length:Int)<4611686018427387904
 dflt:(x.dflt.length:Int)<4611686018427387904
 att:(x.att.length:Int)<4611686018427387904
 ref:(x.ref.length:Int)<4611686018427387904
 key:(x.key.length:Int)<4611686018427387904
structure FlOk (x:Fl):Prop where
 id:(x.id.length:Int)<4611686018427387904
 frm:(x.frm.length:Int)<4611686018427387904
 tg:(x.tg.length:Int)<4611686018427387904
 cond:(x.cond.length:Int)<4611686018427387904
structure MdOk (m:Md):Prop where
 id:(m.id.length:Int)<4611686018427387904
 nm:(m.nm.length:Int)<4611686018427387904
 vars:BdOk m.vars
 nels:m.els.length≤200
 nfls:m.fls.length≤400
 nvars:m.vars.length≤200
 els:∀x∈m.els,ElOk x
 fls:∀x∈m.fls,FlOk x
theorem AP : (prog.info? 106).map (·.zero)=some (some (.agg zeroEl.cells.toArray)):=by kernel_rfl
theorem AJ : (prog.info? 106).map (·.size)=some 11:=by kernel_rfl
theorem BU : (prog.info? 110).map (·.size)=some 4:=by kernel_rfl
theorem DS : (prog.info? 110).map (·.zero)=some (some (.agg zeroFl.cells.toArray)):=by kernel_rfl
theorem AN : (prog.info? 48).map (·.size)=some 5:=by kernel_rfl
theorem TS : (prog.info? 63).map (·.zero)=some (some (.agg zeroBd.cells.toArray)):=by kernel_rfl
theorem FJ : (prog.info? 63).map (·.size)=some 5:=by kernel_rfl
theorem BQ : (prog.info? 61).map (·.size)=some 4:=by kernel_rfl
theorem CG : (prog.info? 9).map (λi=>(i.zero,i.size))=some (some (str []),1):=by kernel_rfl
theorem C0 : (prog.info? 9).map (λi=>(i.zero,i.size,i.bytes))=some (some (str []),1,16):=by kernel_rfl
theorem S8 : prog.built 106 []=some zeroEl.cells.toArray:=by kernel_rfl
structure PredJ {α:Type} (P:Lw) (f:FuncId) (cs:Kx) (av:α→Kv) (l:List α) (p:Nat→α→Bool) (S:Nat→Prop) (J:Nat→Kw→Prop) (w:Kw):Prop where
 fn:∀(us:Array Kv) (w:Kw),(callFunc f us).run P w=.ok (.enter f us) w
 call:∀(i:Nat) (x:α) (w1:Kw),l[i]?=some x→Fr S w w1→J i w1→Calls P f (av x::cs).toArray w1 λe w2=>e=.returned (.bool (p i x))∧J (i+1) w2∧Fr S w1 w2
 st:∀(i:Nat) (w1 w2:Kw),Fr0 w1 w2→J i w1→J i w2
 old:∀g,S g→g<w.heap.size
def ixJ {α:Type} (p:Nat→α→Bool):Nat→List α→Int
 | _,[] => -1
 | i,x::r=>if p i x=true then (i:Int) else ixJ p (i+1) r
def ixN {α:Type} (p:Nat→α→Bool):Nat→List α→Nat
 | i,[]=>i
 | i,x::r=>if p i x=true then i+1 else ixN p (i+1) r
theorem M7 {α:Type} (p:α→Bool):∀(l:List α) (i:Nat),decide (0≤ixJ (λ_=>p) i l)=l.any p
 | [],i=>by simp [ixJ]
 | x::r,i=>by
  rw [ixJ,Dr]
  by_cases h:p x=true
  ·rw [if_pos h,h];simp
  rw [if_neg h,M7 p r (i+1)];simp [h]
def ffN {α:Type} (p:Nat→α→Bool):Nat→List α→Option α
 | _,[]=>none
 | i,x::r=>if p i x=true then ffN p (i+1) r else some x
theorem bG {α:Type} (p:Nat→α→Bool):∀(l:List α) (i:Nat),(ixJ (λi x => !(p i x)) i l = -1∧ffN p i l=none)∨∃j x,ixJ (λi x => !(p i x)) i l=((i+j:Nat):Int)∧l[j]?=some x∧ffN p i l=some x
 | [],i=>.inl ⟨rfl,rfl⟩
 | x::r,i=>by
  by_cases h:p i x=true
  ·rw [ixJ,if_neg (by simp [h]),ffN,if_pos h];rcases bG p r (i+1) with h1|⟨j,y,h1,h2,h3⟩
   ·exact .inl h1
   right;exact ⟨j+1,y,by rw [h1];congr 1;omega,h2,h3⟩
  right;exact ⟨0,x,by rw [ixJ,if_pos (by simp [h])];rfl,rfl,by rw [ffN,if_neg h]⟩
theorem Mem.one {w:Kw} {g t:Nat} {cs:Kx} (h:Blk w g t cs):Mem w (λk=>k=g) [As.blk g t cs] w where
 fr:=Fr.refl
 ok i a hi:=by
  cases i with
  | zero=>simp only [Ai,Ad] at hi;subst hi;exact h
  | succ i=>simp at hi
 lt i a hi g' hg':=by
  cases i with
  | zero=>
   simp only [Ai,Ad] at hi;subst hi
   simp only [As.blk,Au] at hg';subst hg'
   exact ⟨h.lt,.inr X⟩
  | succ i=>simp at hi
 apart i j a b hi hj hne:=by
  cases i with
  | zero=>
   cases j with
   | zero=>exact absurd rfl hne
   | succ j=>simp at hj
  | succ i=>simp at hi
end Go.Proofs.YtppmdnmjepkfaaaGreatDoor
