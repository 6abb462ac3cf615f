/- Lemmas. -/
import Derived.Test.YtppmdnmjepkfaaaGreatDoorYRu1
set_option maxHeartbeats 16000000
set_option maxRecDepth 100000
namespace Go.Proofs.YtppmdnmjepkfaaaGreatDoor
open Go.RowKit
open Decidable renaming decide→O
open Option renaming some→G,none→zx
open Bool renaming true→zz,false→zy
open True renaming intro→zw
structure Rx where
 at_:Nat
 kd:Nat
 say:Kz
 vl:Vl
 tat:Nat
 e:Int
 wh:Nat
def Rx.cells (s:Kz) (y:Rx):Kx:=[str s,.int .i64 (y.at_:Int),.int .i64 (y.kd:Int),str y.say,.int .u8 (y.vl.kind.toNat:Int),.int .i64 y.vl.int,.bool y.vl.bool,str y.vl.text,.int .i64 (y.tat:Int),.int .i64 y.e,.int .i64 (y.wh:Int)]
def Rx.fail (y:Rx) (e:Int) (p:Nat):Rx:=if y.e=0 then ⟨y.at_,y.kd,y.say,y.vl,y.tat,e,p⟩ else y
def rsigns : List Kz:=[[60,61],[62,61],[33,61],[40],[41],[43],[45],[42],[47],[37],[61],[60],[62]]
def J3 (r:Kz):List Kz→Option Kz
 | []=>zx
 | k::l=>if r.take k.length=k then G k else J3 r l
def rnumV (t:Kz):Nat:=if 19<t.length then 9223372036854775808 else decN t
def TG (s r:Kz) (y:Rx):Rx:=
 if ¬y.e=0∨r=[] then ⟨s.length-r.length,0,[],zeroVl,s.length-r.length,y.e,y.wh⟩
 else if BY (r.headD 0)=zz then
  if ((r.headD 0).toNat:Int)=48∧1<(r.takeWhile BY).length then (⟨s.length-r.length+(r.takeWhile BY).length,0,[],zeroVl,s.length-r.length,y.e,y.wh⟩:Rx).fail 4 (s.length-r.length)
  else if 9223372036854775807<rnumV (r.takeWhile BY) then (⟨s.length-r.length+(r.takeWhile BY).length,0,[],zeroVl,s.length-r.length,y.e,y.wh⟩:Rx).fail 91 (s.length-r.length)
  else ⟨s.length-r.length+(r.takeWhile BY).length,1,[],⟨1,(rnumV (r.takeWhile BY):Int),zy,[]⟩,s.length-r.length,y.e,y.wh⟩
 else if DD (r.headD 0)=zz then
  if r.takeWhile BS=[116,114,117,101]∨r.takeWhile BS=[102,97,108,115,101] then ⟨s.length-r.length+(r.takeWhile BS).length,1,[],⟨2,0,O (r.takeWhile BS=[116,114,117,101]),[]⟩,s.length-r.length,y.e,y.wh⟩
  else if IL (r.takeWhile BS)=zz then ⟨s.length-r.length+(r.takeWhile BS).length,3,r.takeWhile BS,zeroVl,s.length-r.length,y.e,y.wh⟩
  else if 32<(r.takeWhile BS).length then (⟨s.length-r.length+(r.takeWhile BS).length,0,[],zeroVl,s.length-r.length,y.e,y.wh⟩:Rx).fail 4 (s.length-r.length)
  else ⟨s.length-r.length+(r.takeWhile BS).length,2,r.takeWhile BS,zeroVl,s.length-r.length,y.e,y.wh⟩
 else if ((r.headD 0).toNat:Int)=39 then
  match qt [] r.tail with
  | some (b,k)=>if utf b=zz then ⟨s.length-r.length+(r.length-k),1,[],⟨3,0,zy,b⟩,s.length-r.length,y.e,y.wh⟩ else (⟨s.length-r.length,0,[],zeroVl,s.length-r.length,y.e,y.wh⟩:Rx).fail 4 (s.length-r.length)
  | none=>(⟨s.length-r.length,0,[],zeroVl,s.length-r.length,y.e,y.wh⟩:Rx).fail 4 (s.length-r.length)
 else match J3 r rsigns with
  | some k=>⟨s.length-r.length+k.length,3,k,zeroVl,s.length-r.length,y.e,y.wh⟩
  | none=>(⟨s.length-r.length,0,[],zeroVl,s.length-r.length,y.e,y.wh⟩:Rx).fail 4 (s.length-r.length)
def AS (s:Kz) (y:Rx):Rx:=TG s (GX (s.drop y.at_)) y
def isR (y:Rx) (k:Kz):Bool:=O (y.e=0)&&(O (y.kd=3)&&O (y.say=k))
def sgP (y:Rx):Option UInt8:=if isR y [42]=zz then G 15 else if isR y [47]=zz then G 16 else if isR y [37]=zz then G 17 else zx
def sgS (y:Rx):Option UInt8:=if isR y [43]=zz then G 13 else if isR y [45]=zz then G 14 else zx
def sgA (y:Rx):Option UInt8:=if isR y [97,110,100]=zz then G 5 else zx
def sgO (y:Rx):Option UInt8:=if isR y [111,114]=zz then G 6 else zx
def csigns : List Kz:=[[61],[33,61],[60],[60,61],[62],[62,61]]
def WH (y:Rx):Nat→List Kz→Option UInt8
 | _,[]=>zx
 | i,k::l=>if isR y k=zz then G (UInt8.ofNat (7+i)) else WH y (i+1) l
def sgC (y:Rx):Option UInt8:=WH y 0 csigns
section
variable (s:Kz) (fr:Nat→Rx→Xn × Rx)
def EX (y:Rx):Xn × Rx:=
 if isR y [45]=zz then (.un 4 (fr 7 (AS s y)).1,(fr 7 (AS s y)).2)
 else if ¬y.e=0 then (.zero,y)
 else if y.kd=1 then (.lit y.vl,AS s y)
 else if y.kd=2 then (.var y.say,AS s y)
 else if isR y [40]=zz then ((fr 1 (AS s y)).1,if isR (fr 1 (AS s y)).2 [41]=zz then AS s (fr 1 (AS s y)).2 else (fr 1 (AS s y)).2.fail 4 (fr 1 (AS s y)).2.tat)
 else (.zero,y.fail 4 y.tat)
def HB (line:Nat) (sg:Rx→Option UInt8):Nat→Xn→Rx→Xn × Rx
 | 0,n,y=>(n,y)
 | k+1,n,y=>match sg y with
  | some op=>HB line sg k (.bin op n (fr (line+1) (AS s y)).1) (fr (line+1) (AS s y)).2
  | none=>(n,y)
def KN (k:Nat) (y:Rx):Xn × Rx:=HB s fr 6 sgP k (EX s fr y).1 (EX s fr y).2
def FP (k:Nat) (y:Rx):Xn × Rx:=HB s fr 5 sgS k (KN s fr k y).1 (KN s fr k y).2
def KZ (k:Nat) (y:Rx):Xn × Rx:=match sgC (FP s fr k y).2 with
 | some op=>(.bin op (FP s fr k y).1 (fr 5 (AS s (FP s fr k y).2)).1,(fr 5 (AS s (FP s fr k y).2)).2)
 | none=>FP s fr k y
def OJ (k:Nat) (y:Rx):Xn × Rx:=if isR y [110,111,116]=zz then (.un 3 (fr 3 (AS s y)).1,(fr 3 (AS s y)).2) else KZ s fr k y
def Q3 (k:Nat) (y:Rx):Xn × Rx:=HB s fr 2 sgA k (OJ s fr k y).1 (OJ s fr k y).2
def rOr (k:Nat) (y:Rx):Xn × Rx:=HB s fr 1 sgO k (Q3 s fr k y).1 (Q3 s fr k y).2
def jD (k line:Nat) (y:Rx):Xn × Rx:=if line=1 then rOr s fr k y else if line=2 then Q3 s fr k y else if line=3 then OJ s fr k y else if line=4 then KZ s fr k y else if line=5 then FP s fr k y else if line=6 then KN s fr k y else EX s fr y
end
def DW (s:Kz):Nat→Nat→Rx→Xn × Rx
 | 0,_,y=>(.zero,y)
 | f+1,line,y=>jD s (DW s f) f line y
def rx0 : Rx:=⟨0,0,[],zeroVl,0,0,0⟩
def D0 (s:Kz):Xn × Nat × Int:=
 if 256<s.length then (.zero,0,3) else
 let r:=DW s 258 1 (AS s rx0)
 let y:=if r.2.e=0∧¬r.2.kd=0 then r.2.fail 4 r.2.tat else r.2
 if y.e=0 then (r.1,0,0) else (.zero,y.wh,y.e)
structure TkX (x:Lx) (y:Rx):Prop where
 xe:x.e=0
 ye:y.e=0
 at_:x.at_=y.at_
 tok:(y.kd=0∧x.fin=zz∧x.nd=.zero∧x.say=[])∨(y.kd=1∧x.fin=zy∧x.nd=.lit y.vl∧x.say=[])∨(y.kd=2∧x.fin=zy∧x.nd=.var y.say∧x.say=[])∨(y.kd=3∧x.fin=zy∧x.nd=.zero∧x.say=y.say)
def a2R (x:Lx) (y:Rx):Prop:=TkX x y∨(¬x.e=0∧¬y.e=0)
theorem Rx.fail_e {y:Rx} {e:Int} {p:Nat} (h:¬e=0):¬(y.fail e p).e=0:=by unfold Rx.fail;split<;>simp_all
theorem Z4 (p:UInt8→Bool) (l:Kz):(l.takeWhile p).length≤l.length:=(Jl p).length_le
theorem W8 (p:UInt8→Bool) (l:Kz):l.take (l.takeWhile p).length=l.takeWhile p:=(List.prefix_iff_eq_take.1 (Jl p)).symm
theorem kT {s:ByteArray} {i:Nat} (h:128≤(s.get! i).toNat):127<(Utf8.decode s i).1:=by
 unfold Utf8.decode;simp only [Ia];have hr:127<Utf8.runeError:=by decide
 rw [Ae A0]
 split
 ·split
  ·simp only;omega
  exact hr
 split
 ·split
  ·rename_i h2;simp only [Bn,decide_eq_true_eq] at h2;simp only;omega
  exact hr
 split
 ·split
  ·rename_i h2;simp only [Bn,decide_eq_true_eq] at h2;simp only;omega
  exact hr
 exact hr
theorem a0D (pre l:Kz) (b:UInt8):(ByteArray.mk (pre++b::l).toArray).get! pre.length=b:=by
 show (pre++b::l).toArray[pre.length]! = b
 simp
theorem fT {is:UInt8→Bool} (hs:∀b,is b=zz→b.toNat<128):∀(l pre:Kz) (f:Nat),l.length≤f →
 Lib.idxFuncFrom (KJ is) zz ⟨(pre++l).toArray⟩ f pre.length=if l.all is=zz then -1 else ((pre.length+(l.takeWhile is).length:Nat):Int)
 | [],pre,f,_=>by
  rw [Lib.idxFuncFrom_end]
  ·rfl
  show ¬pre.length<(pre++[]).toArray.size
  simp
 | b::l,pre,f,hf=>by
  obtain ⟨f,rfl⟩:∃g,f=g+1:=⟨f-1,by simp only [Al] at hf;omega⟩
  have hsz:(ByteArray.mk (pre++b::l).toArray).size=pre.length+(l.length+1):=by show (pre++b::l).toArray.size=_;simp
  have hget:=a0D pre l b;rw [Lib.idxFuncFrom,Ac A0]
  by_cases hb:b.toNat<128
  ·have hd:Utf8.decode ⟨(pre++b::l).toArray⟩ pre.length=(b.toNat,1):=by
    have hg:(ByteArray.mk (pre++b::l).toArray)[pre.length]'A0=b:=by
     show (pre++b::l).toArray[pre.length]'_=b
     simp
    have:=Go.decode_ascii ⟨(pre++b::l).toArray⟩ pre.length A0 (by rw [hg];exact hb)
    rw [this,hg]
   rw [hd]
   by_cases hi:is b=zz
   ·have hq:KJ is b.toNat=zy:=by
     unfold KJ;rw [Hz,hi];simp only [Gs,Iy,decide_eq_false_iff_not];omega
    simp only [hq,Dm,if_false];have ih:=fT hs l (pre++[b]) f (by simp only [Al] at hf;omega);rw [Am,He,Cg,Hd] at ih
    rw [ih,Dr,hi,Eu,Da,Ac hi,Al]
    congr 2;omega
   have hi':=Cp.2 hi
   have hq:KJ is b.toNat=zz:=by
    unfold KJ;rw [Hz,hi']
    simp
   simp only [hq,if_true];rw [Dr,hi',Fw,Ae AV,Da,Ae (by simp [hi'])]
   rfl
  have hi':is b=zy:=Cp.2 λh=>hb (hs b h)
  have hd:127<(Utf8.decode ⟨(pre++b::l).toArray⟩ pre.length).1:=kT (by rw [hget];omega);have hq:KJ is (Utf8.decode ⟨(pre++b::l).toArray⟩ pre.length).1=zz:=by unfold KJ;rw [Bg hd];rfl
  simp only [hq,if_true];rw [Dr,hi',Fw,Ae AV,Da,Ae (by simp [hi'])]
  rfl
theorem Z5 {p:UInt8→Bool}:∀{l:Kz},l.all p=zz→l.takeWhile p=l
 | [],_=>rfl
 | b::l,h=>by
  rw [Dr,Bn] at h
  rw [Da,Ac h.1,Z5 h.2]
theorem lS {is:UInt8→Bool} (hs:∀b,is b=zz→b.toNat<128) (l:Kz):spanP is l=(l.takeWhile is).length:=by
 have h:=fT hs l [] l.length (Af _);rw [Fq,Ay,Cr] at h
 have h':OD is l=if l.all is=zz then -1 else ((l.takeWhile is).length:Int):=h
 unfold spanP;rw [h']
 by_cases ha:l.all is=zz
 ·rw [Ac ha,Ac AV];rw [Z5 ha]
 rw [Ae ha,Ae A0];omega
theorem jW {b:UInt8} (h:DD b=zz):b.toNat<128:=by
 have h1:=odt (DU h).2;have h2:b.toNat≤(b ||| 32).toNat:=by rw [Il];exact Nat.left_le_or
 omega
theorem pA {b:UInt8} (h:BS b=zz):b.toNat<128:=by
 unfold BS at h
 simp only [Dw,decide_eq_true_eq] at h
 rcases h with (((h|h)|h)|h)|h
 ·exact jW h
 ·exact XV h
 ·omega
 ·omega
 omega
theorem iD {p:Nat→Bool} (h:(List.range 256).all p=zz) (b:UInt8):p b.toNat=zz:=Cu.1 h _ (Fe.2 b.toNat_lt)
theorem ZR (b:UInt8):DD b=CS b:=by
 have h:=iD (p:=λn=>DD (UInt8.ofNat n)==CS (UInt8.ofNat n)) (by decide +kernel) b
 simpa using h
theorem pB (b:UInt8):BS b=(CS b || F9 b):=by
 have h:=iD (p:=λn=>BS (UInt8.ofNat n)==(CS (UInt8.ofNat n) || F9 (UInt8.ofNat n))) (by decide +kernel) b
 simpa using h
theorem PY (p:UInt8→Bool):∀l:Kz,(l.takeWhile p).all p=zz
 | []=>rfl
 | b::l=>by
  rw [Da]
  split
  ·rename_i h;rw [Dr,h,PY p l];rfl
  rfl
theorem n6 {l:Kz} {b:UInt8} (hb:l[0]?=G b) (h:DD b=zz):B5 (l.takeWhile BS)=O ((l.takeWhile BS).length≤32):=by
 obtain ⟨r,rfl⟩:∃r,l=b::r:=by cases l with|nil=>simp at hb|cons a r=>exact ⟨r,by simp at hb;rw [hb]⟩
 have hi:BS b=zz:=by unfold BS;rw [h];rfl
 have ha:=PY BS (b::r);rw [Da,Ac hi] at ha ⊢
 have hal:I6 (b::r.takeWhile BS)=zz:=by
  unfold I6;rw [←ha]
  congr 1
  funext c
  rw [pB]
 unfold B5;rw [Q9,←ZR,h,hal]
 simp
def O6 (a:Nat) (l:Kz):Nat:=l.foldl (λn b=>n*10+(b.toNat-48)) a
theorem cM : ∀(l:Kz) (a:Nat),a*10 ^ l.length≤O6 a l
 | [],a=>by simp [O6]
 | b::l,a=>by
  have h:=cM l (a*10+(b.toNat-48));have e:O6 a (b::l)=O6 (a*10+(b.toNat-48)) l:=X;rw [e,Al,Nat.pow_succ];refine Bh ?_ h;rw [Gv (10 ^ l.length) 10,←Nat.mul_assoc];exact Ed _ (Dg _ _)
theorem pY (l:Kz) (a:Nat):a≤O6 a l:=Bh (Gt a (Nat.pow_pos AV)) (cM l a)
theorem SJ {b:UInt8} (h:BY b=zz):48≤b.toNat∧b.toNat≤57:=by
 unfold BY at h
 simp only [Bn,decide_eq_true_eq] at h
 omega
theorem dK : ∀(l:Kz) (a:Nat),l.all BY=zz→a<2 ^ 64→Lib.parseUintM (2 ^ 64-1) a l=if O6 a l<2 ^ 64 then .ok (O6 a l) else .range
 | [],a,_,ha=>by
  have e:O6 a []=a:=X;rw [e,Ac ha];rfl
 | b::l,a,h,ha=>by
  rw [Dr,Bn] at h
  obtain ⟨h1,h2⟩:=SJ h.1;have e:O6 a (b::l)=O6 (a*10+(b.toNat-48)) l:=X;have hm:=pY l (a*10+(b.toNat-48));rw [Lib.parseUintM,Ac ⟨h1,h2⟩,e]
  split
  ·rw [Ae A0]
  split
  ·rw [Ae A0]
  exact dK l _ h.2 A0
theorem tR {l:Kz} (h:l.all BY=zz) (h0:l≠[]):OK l=if decN l<2 ^ 63 then ((decN l:Int),zz) else (Lib.intSat 64 l,zy):=by
 obtain ⟨b,r,rfl⟩:=Ff h0;have hb:=h;rw [Dr,Bn] at hb
 obtain ⟨h1,h2⟩:=SJ hb.1;have hu:=dK (b::r) 0 h AV;have hd:O6 0 (b::r)=decN (b::r):=X;rw [hd] at hu
 have hi:Lib.parseIntB 64 (b::r)=if decN (b::r)<2 ^ 63 then .ok (decN (b::r):Int) else .range:=by
  unfold Lib.parseIntB Lib.parseUintB;simp only [Ae (show ¬(b.toNat=43∨b.toNat=45) by omega),Ae (show ¬(b::r)=[] by simp),hu]
  by_cases h64:decN (b::r)<2 ^ 64
  ·rw [Ac h64];simp only [show ¬b.toNat=45 by omega,not_false_eq_true,true_and,false_and,if_false]
   by_cases h63:decN (b::r)<2 ^ 63
   ·rw [Ae A0,Ac h63]
   rw [Ac A0,Ae h63]
  rw [Ae h64,Ae A0]
 unfold OK;rw [hi]
 by_cases h63:decN (b::r)<2 ^ 63
 ·simp only [Ac h63]
 simp only [Ae h63]
theorem u0 {l:Kz} {b:UInt8} (h:l.all BY=zz) (hb:l[0]?=G b) (hn:¬((b.toNat:Int)=48∧1<l.length)) :
 ((OK l).2=zz∧¬9223372036854775807<rnumV l∧(OK l).1=(rnumV l:Int))∨((OK l).2=zy∧9223372036854775807<rnumV l):=by
 obtain ⟨r,rfl⟩:∃r,l=b::r:=by cases l with|nil=>simp at hb|cons a r=>exact ⟨r,by simp at hb;rw [hb]⟩
 have hd:=h;rw [Dr,Bn] at hd
 obtain ⟨h1,h2⟩:=SJ hd.1;rw [tR h (by simp)];unfold rnumV
 by_cases h19:19<(b::r).length
 ·rw [Ac h19]
  right
  rw [Al] at h19 hn
  have hg:=cM r (0*10+(b.toNat-48));have e:decN (b::r)=O6 (0*10+(b.toNat-48)) r:=X;have hp:10 ^ 19≤10 ^ r.length:=Nat.pow_le_pow_right AV A0;have hm:1*10 ^ r.length≤(0*10+(b.toNat-48))*10 ^ r.length:=Ed _ A0;rw [Ae (by rw [e];omega)];exact ⟨X,by decide⟩
 rw [Ae h19]
 by_cases h63:decN (b::r)<2 ^ 63
 ·rw [Ac h63];left;exact ⟨rfl,A0,rfl⟩
 rw [Ae h63];right;exact ⟨rfl,A0⟩
def RX (b:UInt8):Bool:=O (b=61) || O (b=60) || O (b=62) || O (b=43) || O (b=45) || O (b=42) || O (b=47) || O (b=37)
theorem RT (b:UInt8):(B4 [b]).isSome=RX b:=by
 unfold B4 signTab;simp only [TC,Cx,and_true,reduceCtorEq,and_false,if_false];unfold RX
 repeat' split
 all_goals simp_all
theorem OS (b c:UInt8) (h:¬b=111):(B4 [b,c]).isSome=(O (c=61)&&(O (b=33) || O (b=60) || O (b=62))):=by
 unfold B4 signTab;simp only [TC,Cx,and_true,reduceCtorEq,and_false,if_false,h,false_and]
 by_cases hc:c=61
 ·simp only [hc,and_true]
  repeat' split
  all_goals simp_all
 simp [hc]
theorem TF (b c:UInt8) (q:Kz):J3 (b::c::q) rsigns=if c=61∧(b=60∨b=62∨b=33) then G [b,c] else if RX b=zz∨b=40∨b=41 then G [b] else zx:=by
 unfold rsigns;simp only [J3,Al,Ay,Hk,Fd,Cx,and_true]
 by_cases hc:c=61
 ·by_cases h1:b=60
  ·simp [hc,h1]
  by_cases h2:b=62
  ·simp [hc,h2]
  by_cases h3:b=33
  ·simp [hc,h3]
  simp only [h1,h2,h3,false_and,and_false,or_false,if_false];unfold RX
  repeat' split
  all_goals simp_all
 simp only [hc,false_and,and_false,if_false];unfold RX
 repeat' split
 all_goals simp_all
theorem Z9 (b:UInt8):J3 [b] rsigns=if RX b=zz∨b=40∨b=41 then G [b] else zx:=by
 unfold rsigns;simp only [J3,Al,Ay,Hk,List.take_nil,Cx,and_true,reduceCtorEq,and_false,if_false];unfold RX
 repeat' split
 all_goals simp_all
theorem a1H {r:Kz} {b:UInt8} (hb:r[0]?=G b) (h2:DD b=zy) (h4:(((!(B4 (r.take (sgnN r))).isSome)&&(!decide ((r.take (sgnN r))=[40])))&&(!decide ((r.take (sgnN r))=[41])))=zy):J3 r rsigns=G (r.take (sgnN r))∧(r.take (sgnN r)).length=sgnN r:=by
 have h111:¬b=111:=by rintro rfl;exact absurd h2 AV
 cases r with
 | nil=>simp at hb
 | cons a r=>
  simp only [Ak,Ai] at hb;subst hb
  cases r with
  | nil=>
   have hn:sgnN [a]=1:=by unfold sgnN;simp
   rw [hn,show ([a]:Kz).take 1=[a] from rfl,RT] at h4
   rw [hn,Z9,Ac]
   ·exact ⟨X,X⟩
   cases h:RX a<;>simp_all<;>(first|omega|(by_cases h:a=40<;>simp_all))
  | cons c q=>
   by_cases ht:c=61∧(a=60∨a=62∨a=33)
   ·have hn:sgnN (a::c::q)=2:=by
     unfold sgnN;rw [show min 2 (a::c::q).length=2 by simp,show (a::c::q).take 2=[a,c] from rfl,OS a c h111,Ac]
     simp [ht.1];rcases ht.2 with h|h|h<;>simp [h]<;>omega
    rw [hn,TF,Ac ht];exact ⟨X,X⟩
   have hn:sgnN (a::c::q)=1:=by
    unfold sgnN;rw [show min 2 (a::c::q).length=2 by simp,show (a::c::q).take 2=[a,c] from rfl,OS a c h111,Ae];simp only [Bn,Dw,decide_eq_true_eq];rintro ⟨⟨h,h'⟩,_⟩;exact ht ⟨h,by rcases h' with (h'|h')|h'<;>simp [h']⟩
   rw [hn,show (a::c::q).take 1=[a] from rfl,RT] at h4
   rw [hn,TF,Ae ht,Ac]
   ·exact ⟨X,X⟩
   cases h:RX a<;>simp_all<;>(first|omega|(by_cases h:a=40<;>simp_all))
theorem a1I {r:Kz} {b:UInt8} (hb:r[0]?=G b) (h2:DD b=zy) (h4:(((!(B4 (r.take (sgnN r))).isSome)&&(!decide ((r.take (sgnN r))=[40])))&&(!decide ((r.take (sgnN r))=[41])))=zz):J3 r rsigns=zx:=by
 have h111:¬b=111:=by rintro rfl;exact absurd h2 AV
 cases r with
 | nil=>simp at hb
 | cons a r=>
  simp only [Ak,Ai] at hb;subst hb
  cases r with
  | nil=>
   have hn:sgnN [a]=1:=by unfold sgnN;simp
   rw [hn,show ([a]:Kz).take 1=[a] from rfl,RT] at h4
   rw [Z9,Ae]
   simp_all
  | cons c q=>
   by_cases ht:c=61∧(a=60∨a=62∨a=33)
   ·exfalso
    have hn:sgnN (a::c::q)=2:=by
     unfold sgnN;rw [show min 2 (a::c::q).length=2 by simp,show (a::c::q).take 2=[a,c] from rfl,OS a c h111,Ac]
     simp [ht.1];rcases ht.2 with h|h|h<;>simp [h]<;>omega
    rw [hn,show (a::c::q).take 2=[a,c] from rfl,OS a c h111] at h4
    obtain ⟨h1,h3⟩:=ht;rcases h3 with h3|h3|h3<;>simp [h1,h3] at h4
   have hn:sgnN (a::c::q)=1:=by
    unfold sgnN;rw [show min 2 (a::c::q).length=2 by simp,show (a::c::q).take 2=[a,c] from rfl,OS a c h111,Ae];simp only [Bn,Dw,decide_eq_true_eq];rintro ⟨⟨h,h'⟩,_⟩;exact ht ⟨h,by rcases h' with (h'|h')|h'<;>simp [h']⟩
   rw [hn,show (a::c::q).take 1=[a] from rfl,RT] at h4
   rw [TF,Ae ht,Ae]
   simp_all
theorem PO {s:Kz} {x:Lx} {y:Rx} (hx:x.e=0) (hy:y.e=0) (ha:x.at_=y.at_):a2R (BK s x) (AS s y):=by
 unfold BK AS;rw [←ha];have hls:=I4 s x.at_;obtain ⟨r,hr⟩:∃r,GX (s.drop x.at_)=r:=⟨_,X⟩
 rw [hr] at hls ⊢
 by_cases h0:r=[]
 ·rw [PP (.inl h0),TG,Ac (.inr h0)];exact .inl ⟨hx,hy,X,.inl ⟨X,X,X,X⟩⟩
 have hn:0<r.length:=Fo.2 h0;obtain ⟨b,hb⟩:=EJ (l:=r) (i:=0) hn;have hne:¬(¬y.e=0∨r=[]):=λz=>z.elim (λz=>z hy) h0
 have hh:¬r=[]∧x.e=0:=⟨h0,hx⟩;rw [TG,Ae hne,QB hb]
 by_cases h1:BY b=zz
 ·rw [TK hh hb h1,Ac h1,lS (λb h=>XV h) r,W8];have hal:=PY BY r
  have hb':(r.takeWhile BY)[0]?=G b:=by
   cases r with
   | nil=>simp at hb
   | cons a r=>simp only [Ak,Ai] at hb;subst hb;rw [Da,Ac h1];rfl
  obtain ⟨t,ht⟩:∃t,r.takeWhile BY=t:=⟨_,X⟩
  rw [ht] at hal hb' ⊢
  unfold OY;rw [QB hb']
  by_cases h2:(b.toNat:Int)=48∧1<t.length
  ·rw [Ac ⟨h2.1,A0⟩,Ac h2];exact .inr ⟨EA AV,Rx.fail_e AV⟩
  rw [Ae (λz=>h2 ⟨z.1,A0⟩),Ae h2];rcases u0 hal hb' h2 with ⟨h3,h4,h5⟩|⟨h3,h4⟩
  ·rw [Ac h3,Ae h4];exact .inl ⟨hx,hy,X,.inr (.inl ⟨X,X,by rw [h5],rfl⟩)⟩
  rw [Ae (by rw [h3];decide),Ac h4];exact .inr ⟨EA AV,Rx.fail_e AV⟩
 have h1':=Cp.2 h1;rw [Ae h1]
 by_cases h2:DD b=zz
 ·rw [QS hh hb h1' h2,Ac h2,lS (λb h=>pA h) r,W8];have hw:=n6 hb h2;obtain ⟨t,ht⟩:∃t,r.takeWhile BS=t:=⟨_,X⟩
  rw [ht] at hw ⊢
  unfold KH
  by_cases h3:t=[116,114,117,101]∨t=[102,97,108,115,101]
  ·rw [Ac (by simpa using h3),Ac h3];exact .inl ⟨hx,hy,X,.inr (.inl ⟨X,X,X,X⟩)⟩
  rw [Ae (by simpa using h3),Ae h3]
  by_cases h4:IL t=zz
  ·rw [Ac h4,Ac h4];exact .inl ⟨hx,hy,X,.inr (.inr (.inr ⟨X,X,X,X⟩))⟩
  rw [Ae h4,Ae h4,hw]
  by_cases h5:32<t.length
  ·rw [Ac (by simpa using h5),Ac h5];exact .inr ⟨EA AV,Rx.fail_e AV⟩
  rw [Ae (by simpa using h5),Ae h5];exact .inl ⟨hx,hy,X,.inr (.inr (.inl ⟨X,X,X,X⟩))⟩
 have h2':=Cp.2 h2;rw [Ae h2]
 by_cases h3:(b.toNat:Int)=39
 ·rw [QT hh hb h1' h2' h3,Ac h3];unfold JU
  cases hq:qt [] r.tail with
  | none=>exact .inr ⟨EA AV,Rx.fail_e AV⟩
  | some v=>
   obtain ⟨v,k⟩:=v
   simp only
   by_cases hu:utf v=zz
   ·rw [Ac hu,Ac hu];exact .inl ⟨hx,hy,X,.inr (.inl ⟨X,X,X,X⟩)⟩
   rw [Ae hu,Ae hu];exact .inr ⟨EA AV,Rx.fail_e AV⟩
 rw [Ae h3]
 by_cases h4:(((!(B4 (r.take (sgnN r))).isSome)&&(!decide ((r.take (sgnN r))=[40])))&&(!decide ((r.take (sgnN r))=[41])))=zz
 ·rw [TL hh hb h1' h2' h3 h4,a1I hb h2' h4];exact .inr ⟨EA AV,Rx.fail_e AV⟩
 have h4':=Cp.2 h4;obtain ⟨h5,h6⟩:=a1H hb h2' h4';rw [QU hh hb h1' h2' h3 h4',h5];refine .inl ⟨hx,hy,?_,.inr (.inr (.inr ⟨X,X,X,X⟩))⟩;simp only [h6]
theorem FE {x:Lx} {y:Rx} (h:TkX x y) {k:Kz} (hk:¬k=[]):isR y k=O (x.say=k):=by
 unfold isR;rw [Bg h.ye,Eu];rcases h.tok with ⟨h1,_,_,h4⟩|⟨h1,_,_,h4⟩|⟨h1,_,_,h4⟩|⟨h1,_,_,h4⟩
 ·rw [h1,h4];simp [Ne.symm hk]
 ·rw [h1,h4];simp [Ne.symm hk]
 ·rw [h1,h4];simp [Ne.symm hk]
 rw [h1,h4];simp
theorem MO {y:Rx} {k:Kz} (h:¬y.e=0):isR y k=zy:=by unfold isR;rw [Bb h];rfl
theorem bW {y:Rx} {k:Kz} (h:¬y.say=k):isR y k=zy:=by unfold isR;rw [Bb h];simp
theorem JY (k:Kz):B4 k=zx∨∃q∈signTab,q.1=k∧B4 k=G q.2:=by
 unfold B4
 have:∀l:List (Kz × (UInt8 × Nat)),TC l k=zx∨∃q∈l,q.1=k∧TC l k=G q.2:=by
  intro l
  induction l with
  | nil=>exact .inl rfl
  | cons a l ih=>
   obtain ⟨a,v⟩:=a;unfold TC
   by_cases h:k=a
   ·rw [Ac h];exact .inr ⟨(a,v),by simp,h.symm,rfl⟩
   rw [Ae h];rcases ih with ih|⟨q,h1,h2,h3⟩
   ·exact .inl ih
   exact .inr ⟨q,by simp [h1],h2,h3⟩
 exact this signTab
structure SgOk (line:Nat) (sg:Rx→Option UInt8):Prop where
 err:∀y:Rx,¬y.e=0→sg y=zx
 doom:line≤2→∀y:Rx,FT y.say=4→sg y=zx
 no:∀(x:Lx) (y:Rx),TkX x y→FT x.say<line→sg y=zx
 yes:∀(x:Lx) (y:Rx),TkX x y→FT x.say=line→sg y=G ((B4 x.say).getD (0,0)).1
theorem J8 {k:Kz} (h:B4 k=zx):FT k=0:=by unfold FT;rw [h];rfl
theorem LQ {k q:Kz} (h:¬FT k=FT q):¬k=q:=λe=>h (by rw [e])
theorem sgP_ok : SgOk 6 sgP where
 err y h:=by unfold sgP;simp [MO h]
 doom h:=absurd h AV
 no x y h hp:=by
  unfold sgP;rw [FE h AV,FE h AV,FE h AV,Bb (LQ (q:=[42]) (by rw [show FT [42]=6 from rfl];omega)),Bb (LQ (q:=[47]) (by rw [show FT [47]=6 from rfl];omega)),Bb (LQ (q:=[37]) (by rw [show FT [37]=6 from rfl];omega))]
  rfl
 yes x y h hp:=by
  unfold sgP;rw [FE h AV,FE h AV,FE h AV];rcases JY x.say with hs|⟨q,hq,h1,h2⟩
  ·rw [J8 hs] at hp;cases hp
  rw [←h1] at hp ⊢
  simp only [signTab,Ao,Ba,or_false] at hq
  rcases hq with rfl|rfl|rfl|rfl|rfl|rfl|rfl|rfl|rfl|rfl|rfl|rfl|rfl<;>first|rfl|exact absurd hp AV
theorem sgS_ok : SgOk 5 sgS where
 err y h:=by unfold sgS;simp [MO h]
 doom h:=absurd h AV
 no x y h hp:=by
  unfold sgS;rw [FE h AV,FE h AV,Bb (LQ (q:=[43]) (by rw [show FT [43]=5 from rfl];omega)),Bb (LQ (q:=[45]) (by rw [show FT [45]=5 from rfl];omega))]
  rfl
 yes x y h hp:=by
  unfold sgS;rw [FE h AV,FE h AV];rcases JY x.say with hs|⟨q,hq,h1,h2⟩
  ·rw [J8 hs] at hp;cases hp
  rw [←h1] at hp ⊢
  simp only [signTab,Ao,Ba,or_false] at hq
  rcases hq with rfl|rfl|rfl|rfl|rfl|rfl|rfl|rfl|rfl|rfl|rfl|rfl|rfl<;>first|rfl|exact absurd hp AV
theorem sgA_ok : SgOk 2 sgA where
 err y h:=by unfold sgA;simp [MO h]
 doom _ y h:=by unfold sgA;rw [bW (LQ (by rw [h];decide))];rfl
 no x y h hp:=by
  unfold sgA;rw [FE h AV,Bb (LQ (q:=[97,110,100]) (by rw [show FT [97,110,100]=2 from rfl];omega))]
  rfl
 yes x y h hp:=by
  unfold sgA;rw [FE h AV];rcases JY x.say with hs|⟨q,hq,h1,h2⟩
  ·rw [J8 hs] at hp;cases hp
  rw [←h1] at hp ⊢
  simp only [signTab,Ao,Ba,or_false] at hq
  rcases hq with rfl|rfl|rfl|rfl|rfl|rfl|rfl|rfl|rfl|rfl|rfl|rfl|rfl<;>first|rfl|exact absurd hp AV
theorem sgO_ok : SgOk 1 sgO where
 err y h:=by unfold sgO;simp [MO h]
 doom _ y h:=by unfold sgO;rw [bW (LQ (by rw [h];decide))];rfl
 no x y h hp:=by
  unfold sgO;rw [FE h AV,Bb (LQ (q:=[111,114]) (by rw [show FT [111,114]=1 from rfl];omega))]
  rfl
 yes x y h hp:=by
  unfold sgO;rw [FE h AV];rcases JY x.say with hs|⟨q,hq,h1,h2⟩
  ·rw [J8 hs] at hp;cases hp
  rw [←h1] at hp ⊢
  simp only [signTab,Ao,Ba,or_false] at hq
  rcases hq with rfl|rfl|rfl|rfl|rfl|rfl|rfl|rfl|rfl|rfl|rfl|rfl|rfl<;>first|rfl|exact absurd hp AV
theorem lU {y:Rx} (h:¬y.e=0):sgC y=zx:=by unfold sgC csigns;simp [WH,MO h]
theorem a1O {x:Lx} {y:Rx} (h:TkX x y) (hp:FT x.say<4):sgC y=zx:=by
 have key:∀k∈csigns,isR y k=zy:=λk hk=>by
  simp only [csigns,Ao,Ba,or_false] at hk
  rcases hk with rfl|rfl|rfl|rfl|rfl|rfl<;>(rw [FE h AV];exact Bb (LQ (Nat.ne_of_lt (Ce hp AV))))
 have:∀(l:List Kz) (i:Nat),(∀k∈l,isR y k=zy)→WH y i l=zx:=by
  intro l
  induction l with
  | nil=>intro _ _;rfl
  | cons a l ih=>intro i hl;rw [WH,hl a (by simp),Ae AV];exact ih _ λk hk=>hl k (by simp [hk])
 exact this _ _ key
theorem yV {x:Lx} {y:Rx} (h:TkX x y) (hp:FT x.say=4):sgC y=G ((B4 x.say).getD (0,0)).1:=by
 unfold sgC csigns;simp only [WH,FE h (show ¬([61]:Kz)=[] by decide),FE h (show ¬([33,61]:Kz)=[] by decide),FE h (show ¬([60]:Kz)=[] by decide),FE h (show ¬([60,61]:Kz)=[] by decide),FE h (show ¬([62]:Kz)=[] by decide),FE h (show ¬([62,61]:Kz)=[] by decide)];rcases JY x.say with hs|⟨q,hq,h1,h2⟩
 ·rw [J8 hs] at hp;cases hp
 rw [←h1] at hp ⊢
 simp only [signTab,Ao,Ba,or_false] at hq
 rcases hq with rfl|rfl|rfl|rfl|rfl|rfl|rfl|rfl|rfl|rfl|rfl|rfl|rfl<;>first|rfl|exact absurd hp AV
def YI (line:Nat) (r:Xn × Lx) (q:Xn × Rx):Prop:=(TkX r.2 q.2∧r.1=q.1∧FT r.2.say<line)∨(¬r.2.e=0∧(¬q.2.e=0∨(line≤4∧q.2.kd=3∧FT q.2.say=4)))
section
variable {s:Kz} {f:Nat} {fr:Nat→Lx→Xn × Lx} {rr:Nat→Rx→Xn × Rx}
theorem L6 {line k:Nat} {n:Xn} {x:Lx} (he:x.e=0) (hs:(B4 x.say).isNone=zz∨FT x.say<line):EF s fr (k+1) line n x=(n,x):=by
 rw [EF,Ae (show ¬ ¬x.e=0 from λz=>z he),Ac hs]
theorem PS {line k:Nat} {n:Xn} {x:Lx} (he:x.e=0) (hs:¬((B4 x.say).isNone=zz∨FT x.say<line)):EF s fr (k+1) line n x=EF s fr k line (.bin ((B4 x.say).getD (0,0)).1 n (KI s fr x).1) (KI s fr x).2:=by
 rw [EF,Ae (show ¬ ¬x.e=0 from λz=>z he),Ae hs]
theorem ZP (h:FrI s f fr) (line:Nat):∀(k j:Nat) (n:Xn) (x:Lx),LxI s x→lxM s x≤k→lxM s x≤j→lxM s x≤f+1→EF s fr k line n x=EF s fr j line n x
 | 0,j,n,x,hx,hk,hj,hm=>by
  have he:¬x.e=0:=λhe=>by have:=O2 hx he;omega
  rw [EB he,EB he]
 | k+1,j,n,x,hx,hk,hj,hm=>by
  by_cases he:x.e=0
  ·have hp:=O2 hx he;obtain ⟨j,rfl⟩:∃j',j=j'+1:=⟨j-1,A0⟩
   by_cases hs:(B4 x.say).isNone=zz∨FT x.say<line
   ·rw [L6 he hs,L6 he hs]
   rw [PS he hs,PS he hs];obtain ⟨h1,h2⟩:=WG h hx he (KM λz=>hs (.inl z)) hm;exact ZP h line k j _ _ h1 A0 A0 A0
  rw [EB he,EB he]
theorem K2 (h:FrI s f fr) (line l2:Nat) (h2:l2=line+1):∀(k:Nat) (n:Xn) (x:Lx),LxI s x→lxM s x≤k→lxM s x≤f+1→EF s fr k line n x=EF s fr k line (EF s fr k l2 n x).1 (EF s fr k l2 n x).2
 | 0,n,x,_,_,_=>rfl
 | k+1,n,x,hx,hk,hm=>by
  by_cases he:x.e=0
  ·by_cases hs:(B4 x.say).isNone=zz∨FT x.say<l2
   ·rw [L6 (line:=l2) he hs]
   have hs':¬((B4 x.say).isNone=zz∨FT x.say<line):=λz=>hs (z.imp id λz=>A0)
   obtain ⟨h1,h3⟩:=WG h hx he (KM λz=>hs (.inl z)) hm;rw [PS (line:=l2) he hs,PS (line:=line) he hs'];obtain ⟨h4,h5⟩:=QV h l2 k (.bin ((B4 x.say).getD (0,0)).1 n (KI s fr x).1) _ h1 A0;rw [ZP h line (k+1) k _ _ h4 A0 A0 A0,←K2 h line l2 h2 k _ _ h1 A0 A0]
  rw [EB (line:=l2) he]
theorem US {line:Nat} {x:Lx} (h:line≤3):BW s fr line x=BW s fr 3 x:=by
 unfold BW
 by_cases h1:x.say=[110,111,116]
 ·rw [Ac ⟨h1,h⟩,Ac (show x.say=[110,111,116]∧3≤3 from ⟨h1,Af _⟩)]
 rw [Ae (λz=>h1 z.1),Ae (show ¬(x.say=[110,111,116]∧3≤3) from λz=>h1 z.1)]
theorem cG {line:Nat} {x:Lx} (h:4≤line):BW s fr line x=BW s fr 4 x:=by
 unfold BW;rw [Ae (show ¬(x.say=[110,111,116]∧line≤3) from λz=>absurd z.2 A0),Ae (show ¬(x.say=[110,111,116]∧4≤3) from λz=>absurd z.2 AV)]
theorem gM {x:Lx} (h:¬x.say=[110,111,116]):BW s fr 3 x=BW s fr 4 x:=by
 unfold BW;rw [Ae (show ¬(x.say=[110,111,116]∧3≤3) from λz=>h z.1),Ae (show ¬(x.say=[110,111,116]∧4≤3) from λz=>h z.1)]
variable (H:∀(line:Nat) (x:Lx) (y:Rx),1≤line→line≤7→a2R x y→LxI s x→lxM s x≤f→YI line (fr line x) (rr line y))
include H
theorem P1 (h:FrI s f fr) {line:Nat} {sg:Rx→Option UInt8} (hg:SgOk line sg) (hl:1≤line∧line≤6∧(line≤2∨5≤line)):∀(k:Nat) (n:Xn) (x:Lx) (y:Rx),LxI s x→lxM s x≤k→lxM s x≤f+1→TkX x y→FT x.say≤line →
 YI line (EF s fr k line n x) (HB s rr line sg k n y)
 | 0,n,x,y,hx,hk,_,ht,_=>by have:=O2 hx ht.xe;omega
 | k+1,n,x,y,hx,hk,hm,ht,hp=>by
  rw [HB]
  by_cases hs:(B4 x.say).isNone=zz∨FT x.say<line
  ·have hlt:FT x.say<line:=hs.elim (λz=>by rw [J8 (Io.1 z)];omega) id;rw [L6 ht.xe hs,hg.no x y ht hlt];exact .inl ⟨ht,X,hlt⟩
  have heq:FT x.say=line:=by have:=λz=>hs (.inr z);omega
  rw [PS ht.xe hs,hg.yes x y ht heq];have hst:=HR hx ht.xe (KM λz=>hs (.inl z));obtain ⟨h1,h2⟩:=WG h hx ht.xe (KM λz=>hs (.inl z)) hm
  have hE:KI s fr x=fr (line+1) (BK s x):=by
   unfold KI;rw [heq]
   simp only
   rw [Ae (λz=>A0)]
  rw [hE] at h1 h2 ⊢
  rcases H (line+1) (BK s x) (AS s y) A0 A0 (PO ht.xe ht.ye ht.at_) E0 A0 with ⟨g1,g2,g3⟩|⟨g1,g2⟩
  ·rw [g2];exact P1 h hg hl k _ _ _ h1 A0 A0 g1 A0
  rw [EB g1]
  have hn:sg (rr (line+1) (AS s y)).2=zx:=by
   rcases g2 with g2|⟨g2,g3,g4⟩
   ·exact hg.err _ g2
   exact hg.doom A0 _ g4
  have hr:∀(j:Nat) (m:Xn),(HB s rr line sg j m (rr (line+1) (AS s y)).2).2=(rr (line+1) (AS s y)).2:=λj m=>by
   cases j with
   | zero=>rfl
   | succ j=>rw [HB,hn]
  refine .inr ⟨g1,?_⟩;rw [hr];exact g2.imp id λ⟨a,b,c⟩=>⟨A0,b,c⟩
theorem ZY (h:FrI s f fr) {x:Lx} {y:Rx} (hx:LxI s x) (hm:lxM s x≤f+1) (ht:TkX x y):YI 7 (BW s fr 4 x) (EX s rr y):=by
 have hlt:∀k,FT k<7:=λk=>Nat.lt_succ_of_le (m7 k)
 have hN:=PO ht.xe ht.ye ht.at_ (s:=s);unfold BW EX;rw [Ae (λz=>absurd z.2 AV),FE ht (show ¬([45]:Kz)=[] by decide),FE ht (show ¬([40]:Kz)=[] by decide)]
 by_cases h1:x.say=[45]
 ·rw [Ac h1,Ac (Bg h1)];have hst:=HR hx ht.xe (by rw [h1];decide);rcases H 7 (BK s x) (AS s y) AV AV hN E0 A0 with ⟨g1,g2,g3⟩|⟨g1,g2⟩
  ·refine .inl ⟨g1,?_,g3⟩
   show Xn.un 4 _=Xn.un 4 _
   rw [g2]
  exact .inr ⟨g1,g2⟩
 rw [Ae h1,Ae (show ¬O (x.say=[45])=zz from λz=>h1 (odt z)),Ae (show ¬ ¬y.e=0 from λz=>z ht.ye)]
 by_cases h2:x.say=[40]
 ·have hk:y.kd=3:=by
   rcases ht.tok with ⟨_,_,_,h4⟩|⟨_,_,_,h4⟩|⟨_,_,_,h4⟩|⟨h1,_,_,_⟩
   ·rw [h4] at h2;cases h2
   ·rw [h4] at h2;cases h2
   ·rw [h4] at h2;cases h2
   exact h1
  rw [Ac h2,Ae (show ¬y.kd=1 by omega),Ae (show ¬y.kd=2 by omega),Ac (Bg h2)];have hst:=HR hx ht.xe (by rw [h2];decide);have hI:=h.I 1 (BK s x) E0 A0;unfold HG;rcases H 1 (BK s x) (AS s y) AV AV hN E0 A0 with ⟨g1,g2,g3⟩|⟨g1,g2⟩
  ·rw [FE g1 AV]
   by_cases h3:(fr 1 (BK s x)).2.say=[41]
   ·rw [Ae (λz=>z h3),Ac (Bg h3),g2];rcases PO g1.xe g1.ye g1.at_ (s:=s) with g|g
    ·exact .inl ⟨g,X,hlt _⟩
    exact .inr ⟨g.1,.inl g.2⟩
   rw [Ac h3,Ae (λz=>h3 (odt z))];exact .inr ⟨PQ (EA AV),.inl (Rx.fail_e AV)⟩
  have hb:isR (rr 1 (AS s y)).2 [41]=zy:=by
   rcases g2 with g2|⟨_,_,g4⟩
   ·exact MO g2
   exact bW (LQ (by rw [g4];decide))
  rw [hb,Ae (show ¬zy=zz by decide)]
  by_cases h3:(fr 1 (BK s x)).2.say=[41]
  ·rw [Ae (λz=>z h3)];exact .inr ⟨PQ g1,.inl (Rx.fail_e AV)⟩
  rw [Ac h3];exact .inr ⟨PQ (EA AV),.inl (Rx.fail_e AV)⟩
 rw [Ae h2,Ae (show ¬O (x.say=[40])=zz from λz=>h2 (odt z))];unfold QD;rcases ht.tok with ⟨k1,_,k3,_⟩|⟨k1,_,k3,_⟩|⟨k1,_,k3,_⟩|⟨k1,_,k3,_⟩
 ·rw [Ae (show ¬y.kd=1 by omega),Ae (show ¬y.kd=2 by omega),k3,Ac (show (Xn.zero.op.toNat:Int)=0 from rfl)];exact .inr ⟨PQ (EA AV),.inl (Rx.fail_e AV)⟩
 ·rw [Ac k1,k3,Ae (show ¬((Xn.lit y.vl).op.toNat:Int)=0 from by show ¬((1:UInt8).toNat:Int)=0;decide)];rcases hN with g|g
  ·exact .inl ⟨g,X,hlt _⟩
  exact .inr ⟨g.1,.inl g.2⟩
 ·rw [Ae (show ¬y.kd=1 by omega),Ac k1,k3,Ae (show ¬((Xn.var y.say).op.toNat:Int)=0 from by show ¬((2:UInt8).toNat:Int)=0;decide)];rcases hN with g|g
  ·exact .inl ⟨g,X,hlt _⟩
  exact .inr ⟨g.1,.inl g.2⟩
 rw [Ae (show ¬y.kd=1 by omega),Ae (show ¬y.kd=2 by omega),k3,Ac (show (Xn.zero.op.toNat:Int)=0 from rfl)];exact .inr ⟨PQ (EA AV),.inl (Rx.fail_e AV)⟩
theorem eV (h:FrI s f fr) {x:Lx} {y:Rx} (hx:LxI s x) (hm:lxM s x≤f+1) (ht:TkX x y):YI 6 (EF s fr (f+1) 6 (BW s fr 4 x).1 (BW s fr 4 x).2) (KN s rr (f+1) y):=by
 obtain ⟨i1,i2⟩:=KC h hx ht.xe hm 4;rcases ZY H h hx hm ht with ⟨g1,g2,g3⟩|⟨g1,g2⟩
 ·unfold KN;rw [g2];exact P1 H h sgP_ok AV (f+1) _ _ _ i1 A0 A0 g1 A0
 have g2:¬(EX s rr y).2.e=0:=g2.elim id λz=>absurd z.1 AV
 unfold KN;rw [EB g1];refine .inr ⟨g1,.inl ?_⟩;rw [HB,sgP_ok.err _ g2];exact g2
theorem lQ (h:FrI s f fr) {x:Lx} {y:Rx} (hx:LxI s x) (hm:lxM s x≤f+1) (ht:TkX x y):YI 5 (EF s fr (f+1) 5 (BW s fr 4 x).1 (BW s fr 4 x).2) (FP s rr (f+1) y):=by
 obtain ⟨i1,i2⟩:=KC h hx ht.xe hm 4;obtain ⟨j1,j2⟩:=QV h 6 (f+1) (BW s fr 4 x).1 _ i1 A0;rw [K2 h 5 6 rfl (f+1) _ _ i1 A0 A0];rcases eV H h hx hm ht with ⟨g1,g2,g3⟩|⟨g1,g2⟩
 ·unfold FP;rw [g2];exact P1 H h sgS_ok AV (f+1) _ _ _ j1 A0 A0 g1 A0
 have g2:¬(KN s rr (f+1) y).2.e=0:=g2.elim id λz=>absurd z.1 AV
 unfold FP;rw [EB g1];refine .inr ⟨g1,.inl ?_⟩;rw [HB,sgS_ok.err _ g2];exact g2
theorem gY (h:FrI s f fr) {x:Lx} {y:Rx} (hx:LxI s x) (hm:lxM s x≤f+1) (ht:TkX x y):YI 4 (EF s fr (f+1) 4 (BW s fr 4 x).1 (BW s fr 4 x).2) (KZ s rr (f+1) y):=by
 obtain ⟨i1,i2⟩:=KC h hx ht.xe hm 4;obtain ⟨j1,j2⟩:=QV h 5 (f+1) (BW s fr 4 x).1 _ i1 A0;rw [K2 h 4 5 rfl (f+1) _ _ i1 A0 A0];have go:=lQ H h hx hm ht;obtain ⟨r,hr⟩:∃r,EF s fr (f+1) 5 (BW s fr 4 x).1 (BW s fr 4 x).2=r:=⟨_,X⟩
 obtain ⟨q,hq⟩:∃q,FP s rr (f+1) y=q:=⟨_,X⟩
 rw [hr] at go j1 j2 ⊢
 unfold KZ;rw [hq] at go ⊢
 rcases go with ⟨g1,g2,g3⟩|⟨g1,g2⟩
 ·by_cases h4:FT r.2.say=4
  ·have hs:¬((B4 r.2.say).isNone=zz∨FT r.2.say<4):=λz=>z.elim (λz=>by rw [J8 (Io.1 z)] at h4;cases h4) (λz=>A0)
   rw [PS g1.xe hs,yV g1 h4];have hst:=HR j1 g1.xe (KM λz=>hs (.inl z));obtain ⟨h1,h2⟩:=WG h j1 g1.xe (KM λz=>hs (.inl z)) A0;have hH:=H 5 (BK s r.2) (AS s q.2) AV AV (PO g1.xe g1.ye g1.at_) E0 A0;unfold KI at h1 h2 ⊢
   rw [h4] at h1 h2 ⊢
   simp only at h1 h2 ⊢
   rcases hH with ⟨k1,k2,k3⟩|⟨k1,k2⟩
   ·by_cases h5:FT (fr 5 (BK s r.2)).2.say=4
    ·rw [Ac ⟨zw,h5⟩] at h1 h2 ⊢
     rw [EB (EA AV)];refine .inr ⟨EA AV,.inr ⟨Af _,?_,?_⟩⟩
     ·rcases k1.tok with ⟨_,_,_,z⟩|⟨_,_,_,z⟩|⟨_,_,_,z⟩|⟨z,_,_,_⟩
      ·rw [z] at h5;cases h5
      ·rw [z] at h5;cases h5
      ·rw [z] at h5;cases h5
      exact z
     rcases k1.tok with ⟨_,_,_,z⟩|⟨_,_,_,z⟩|⟨_,_,_,z⟩|⟨_,_,_,z⟩
     ·rw [z] at h5;cases h5
     ·rw [z] at h5;cases h5
     ·rw [z] at h5;cases h5
     rw [←z];exact h5
    rw [Ae (λz=>h5 z.2)] at h1 h2 ⊢
    have hlt:FT (fr 5 (BK s r.2)).2.say<4:=A0
    obtain ⟨k,hk⟩:∃k,f=k+1:=⟨f-1,by have:=O2 h1 k1.xe;omega⟩
    rw [hk,L6 k1.xe (.inr hlt)];refine .inl ⟨k1,?_,hlt⟩
    show Xn.bin _ r.1 _=Xn.bin _ q.1 _
    rw [g2,k2]
   have h6:¬(if True∧FT (fr 5 (BK s r.2)).2.say=4 then (fr 5 (BK s r.2)).2.fail 4 (fr 5 (BK s r.2)).2.tat else (fr 5 (BK s r.2)).2).e=0:=by
    split
    ·exact EA AV
    exact k1
   rw [EB h6];exact .inr ⟨h6,.inl (k2.elim id λz=>absurd z.1 AV)⟩
  have hlt:FT r.2.say<4:=A0
  rw [L6 g1.xe (.inr hlt),a1O g1 hlt];exact .inl ⟨g1,g2,hlt⟩
 have g2:¬q.2.e=0:=g2.elim id λz=>absurd z.1 AV
 rw [EB g1,lU g2];exact .inr ⟨g1,.inl g2⟩
theorem mB (h:FrI s f fr) {x:Lx} {y:Rx} (hx:LxI s x) (hm:lxM s x≤f+1) (ht:TkX x y):YI 3 (EF s fr (f+1) 3 (BW s fr 3 x).1 (BW s fr 3 x).2) (OJ s rr (f+1) y):=by
 have hp3:∀k,FT k<4→FT k<3:=λk hk=>by
  rcases JY k with hs|⟨q,hq,h1,h2⟩
  ·rw [J8 hs];decide
  rw [←h1] at hk ⊢
  simp only [signTab,Ao,Ba,or_false] at hq
  rcases hq with rfl|rfl|rfl|rfl|rfl|rfl|rfl|rfl|rfl|rfl|rfl|rfl|rfl<;>first|decide|exact absurd hk AV
 unfold OJ;rw [FE ht AV]
 by_cases h1:x.say=[110,111,116]
 ·rw [Ac (Bg h1)];have hfp:BW s fr 3 x=M7 s fr 3 3 x:=by unfold BW;rw [Ac ⟨h1,Af _⟩]
  have hst:=HR hx ht.xe (by rw [h1];decide);obtain ⟨i1,i2⟩:=KC h hx ht.xe hm 3;rw [hfp] at i1 i2 ⊢
  unfold M7 at i1 i2 ⊢
  rcases H 3 (BK s x) (AS s y) AV AV (PO ht.xe ht.ye ht.at_) E0 A0 with ⟨g1,g2,g3⟩|⟨g1,g2⟩
  ·rw [L6 g1.xe (.inr g3)];refine .inl ⟨g1,?_,g3⟩
   show Xn.un _ _=Xn.un _ _
   rw [g2]
  rw [EB g1];exact .inr ⟨g1,g2.imp id λz=>⟨by decide,z.2⟩⟩
 rw [Ae (λz=>h1 (odt z))];have hfp:BW s fr 3 x=BW s fr 4 x:=gM h1;obtain ⟨i1,i2⟩:=KC h hx ht.xe hm 4;rw [hfp,K2 h 3 4 rfl (f+1) _ _ i1 A0 A0];rcases gY H h hx hm ht with ⟨g1,g2,g3⟩|⟨g1,g2⟩
 ·rw [L6 g1.xe (.inr (hp3 _ g3))];exact .inl ⟨g1,g2,hp3 _ g3⟩
 rw [EB g1];exact .inr ⟨g1,g2.imp id λz=>⟨by decide,z.2⟩⟩
theorem mW (h:FrI s f fr) {x:Lx} {y:Rx} (hx:LxI s x) (hm:lxM s x≤f+1) (ht:TkX x y):YI 2 (EF s fr (f+1) 2 (BW s fr 3 x).1 (BW s fr 3 x).2) (Q3 s rr (f+1) y):=by
 obtain ⟨i1,i2⟩:=KC h hx ht.xe hm 3;obtain ⟨j1,j2⟩:=QV h 3 (f+1) (BW s fr 3 x).1 _ i1 A0;rw [K2 h 2 3 rfl (f+1) _ _ i1 A0 A0];unfold Q3;rcases mB H h hx hm ht with ⟨g1,g2,g3⟩|⟨g1,g2⟩
 ·rw [g2];exact P1 H h sgA_ok AV (f+1) _ _ _ j1 A0 A0 g1 A0
 have hn:sgA (OJ s rr (f+1) y).2=zx:=g2.elim (sgA_ok.err _) λz=>sgA_ok.doom AV _ z.2.2
 rw [EB g1,HB,hn];exact .inr ⟨g1,g2.imp id λz=>⟨by decide,z.2⟩⟩
theorem a2g (h:FrI s f fr) {x:Lx} {y:Rx} (hx:LxI s x) (hm:lxM s x≤f+1) (ht:TkX x y):YI 1 (EF s fr (f+1) 1 (BW s fr 3 x).1 (BW s fr 3 x).2) (rOr s rr (f+1) y):=by
 obtain ⟨i1,i2⟩:=KC h hx ht.xe hm 3;obtain ⟨j1,j2⟩:=QV h 2 (f+1) (BW s fr 3 x).1 _ i1 A0;rw [K2 h 1 2 rfl (f+1) _ _ i1 A0 A0];unfold rOr;rcases mW H h hx hm ht with ⟨g1,g2,g3⟩|⟨g1,g2⟩
 ·rw [g2];exact P1 H h sgO_ok AV (f+1) _ _ _ j1 A0 A0 g1 A0
 have hn:sgO (Q3 s rr (f+1) y).2=zx:=g2.elim (sgO_ok.err _) λz=>sgO_ok.doom AV _ z.2.2
 rw [EB g1,HB,hn];exact .inr ⟨g1,g2.imp id λz=>⟨by decide,z.2⟩⟩
end
theorem J5 {s:Kz} {rr:Nat→Rx→Xn × Rx} {line:Nat} {sg:Rx→Option UInt8} (k:Nat) {n:Xn} {y:Rx} (h:sg y=zx):HB s rr line sg k n y=(n,y):=by
 cases k with
 | zero=>rfl
 | succ k=>rw [HB,h]
theorem tC {s:Kz} {rr:Nat→Rx→Xn × Rx} (k line:Nat) {y:Rx} (h:¬y.e=0):(jD s rr k line y).2=y:=by
 have h7:EX s rr y=(.zero,y):=by unfold EX;rw [MO h,Ae AV,Ac h]
 have h6:KN s rr k y=(.zero,y):=by unfold KN;rw [h7];exact J5 k (sgP_ok.err _ h)
 have h5:FP s rr k y=(.zero,y):=by unfold FP;rw [h6];exact J5 k (sgS_ok.err _ h)
 have h4:KZ s rr k y=(.zero,y):=by unfold KZ;rw [h5];simp only [lU h]
 have h3:OJ s rr k y=(.zero,y):=by unfold OJ;rw [MO h,Ae AV,h4]
 have h2:Q3 s rr k y=(.zero,y):=by unfold Q3;rw [h3];exact J5 k (sgA_ok.err _ h)
 have h1:rOr s rr k y=(.zero,y):=by unfold rOr;rw [h2];exact J5 k (sgO_ok.err _ h)
 unfold jD;rw [h1,h2,h3,h4,h5,h6,h7]
 repeat' split
 all_goals rfl
theorem fZ (s:Kz):∀(f line:Nat) (x:Lx) (y:Rx),1≤line→line≤7→a2R x y→LxI s x→lxM s x≤f→YI line (DB s (f+1) line x) (DW s (f+1) line y)
 | f,line,x,y,h1,h7,.inr ht,hx,hm=>by
  rw [mO ht.1,DW];refine .inr ⟨ht.1,.inl ?_⟩;rw [tC _ _ ht.2];exact ht.2
 | 0,line,x,y,h1,h7,.inl ht,hx,hm=>by have:=O2 hx ht.xe;omega
 | f+1,line,x,y,h1,h7,.inl ht,hx,hm=>by
  have H:=fZ s f;have h:=XN s f;rw [gB ht.xe rfl,DW];unfold jD
  by_cases e1:line=1
  ·subst e1;rw [Ac rfl,US (line:=1) AV];exact a2g H h hx hm ht
  rw [Ae e1]
  by_cases e2:line=2
  ·subst e2;rw [Ac rfl,US (line:=2) AV];exact mW H h hx hm ht
  rw [Ae e2]
  by_cases e3:line=3
  ·subst e3;rw [Ac rfl];exact mB H h hx hm ht
  rw [Ae e3]
  by_cases e4:line=4
  ·subst e4;rw [Ac rfl];exact gY H h hx hm ht
  rw [Ae e4,cG (line:=line) A0]
  by_cases e5:line=5
  ·subst e5;rw [Ac rfl];exact lQ H h hx hm ht
  rw [Ae e5]
  by_cases e6:line=6
  ·subst e6;rw [Ac rfl];exact eV H h hx hm ht
  rw [Ae e6];have e7:line=7:=A0
  subst e7;rcases ZY H h hx hm ht with ⟨g1,g2,g3⟩|⟨g1,g2⟩
  ·rw [L6 g1.xe (.inr g3)];exact .inl ⟨g1,g2,g3⟩
  rw [EB g1];exact .inr ⟨g1,g2⟩
theorem X2 (s:Kz):((CT s).2.2=0∧(D0 s).2.2=0∧(CT s).1=(D0 s).1)∨(¬(CT s).2.2=0∧¬(D0 s).2.2=0):=by
 unfold CT D0
 by_cases h:256<s.length
 ·rw [Ac h,Ac h];exact .inr ⟨by decide,by decide⟩
 rw [Ae h,Ae h]
 simp only
 have go:YI 1 (DB s 258 1 (BK s lx0)) (DW s 258 1 (AS s rx0)):=fZ s 257 1 (BK s lx0) (AS s rx0) AV AV (PO X X X) E0 (Bh (bR _ _) A0);obtain ⟨r,hr⟩:∃r,DB s 258 1 (BK s lx0)=r:=⟨_,X⟩
 obtain ⟨q,hq⟩:∃q,DW s 258 1 (AS s rx0)=q:=⟨_,X⟩
 rw [hr,hq] at go ⊢
 rcases go with ⟨g1,g2,g3⟩|⟨g1,g2⟩
 ·rcases g1.tok with ⟨k1,k2,_,_⟩|⟨k1,k2,_,_⟩|⟨k1,k2,_,_⟩|⟨k1,k2,_,_⟩
  ·rw [Ae (show ¬r.2.fin=zy from λz=>by rw [k2] at z;cases z),Ae (show ¬(q.2.e=0∧¬q.2.kd=0) from λz=>z.2 k1),Ac g1.xe,Ac g1.ye];exact .inl ⟨X,X,g2⟩
  all_goals
   rw [Ac k2,Ac (show q.2.e=0∧¬q.2.kd=0 from ⟨g1.ye,A0⟩),Ae (EA AV),Ae (Rx.fail_e AV)];exact .inr ⟨EA AV,Rx.fail_e AV⟩
 have a:¬(if r.2.fin=zy then r.2.fail 4 r.2.tat else r.2).e=0:=by
  split
  ·exact EA AV
  exact g1
 have b:¬(if q.2.e=0∧¬q.2.kd=0 then q.2.fail 4 q.2.tat else q.2).e=0:=by
  by_cases hz:q.2.e=0∧¬q.2.kd=0
  ·rw [Ac hz];exact Rx.fail_e AV
  rw [Ae hz];exact λhz2=>hz ⟨hz2,(g2.elim (λz=>absurd hz2 z) λz=>by rw [z.2.1];decide)⟩
 rw [Ae a,Ae b];exact .inr ⟨a,b⟩
end Go.Proofs.YtppmdnmjepkfaaaGreatDoor
