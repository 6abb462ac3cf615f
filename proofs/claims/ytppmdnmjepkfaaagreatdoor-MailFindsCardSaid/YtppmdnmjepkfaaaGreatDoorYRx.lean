/- Lemmas. -/
import Derived.Test.YtppmdnmjepkfaaaGreatDoorYRu1
set_option maxHeartbeats 16000000
set_option maxRecDepth 100000
namespace Go.Proofs.YtppmdnmjepkfaaaGreatDoor
open Go.RowKit
structure Rx where
 at_:Nat
 kd:Nat
 say:Kz
 vl:Vl
 tat:Nat
 e:Int
 wh:Nat
def Rx.cells (s:Kz) (y:Rx):Kx:=[str s,.int .i64 (y.at_:Int),.int .i64 (y.kd:Int),str y.say,.int .u8 (y.vl.kind.toNat:Int),.int .i64 y.vl.int,.bool y.vl.bool,str y.vl.text,.int .i64 (y.tat:Int),.int .i64 y.e,.int .i64 (y.wh:Int)]
def Rx.fail (y:Rx) (e:Int) (p:Nat):Rx:=if y.e=0 then ⟨y.at_,y.kd,y.say,y.vl,y.tat,e,p⟩ else y
def rsigns : List Kz:=[[60,61],[62,61],[33,61],[40],[41],[43],[45],[42],[47],[37],[61],[60],[62]]
def IS (r:Kz):List Kz→Option Kz
 | []=>none
 | k::l=>if r.take k.length=k then some k else IS r l
def rnumV (t:Kz):Nat:=if 19<t.length then 9223372036854775808 else decN t
def SR (s r:Kz) (y:Rx):Rx:=
 if ¬y.e=0∨r=[] then ⟨s.length-r.length,0,[],zeroVl,s.length-r.length,y.e,y.wh⟩
 else if BL (r.headD 0)=true then
  if ((r.headD 0).toNat:Int)=48∧1<(r.takeWhile BL).length then (⟨s.length-r.length+(r.takeWhile BL).length,0,[],zeroVl,s.length-r.length,y.e,y.wh⟩:Rx).fail 4 (s.length-r.length)
  else if 9223372036854775807<rnumV (r.takeWhile BL) then (⟨s.length-r.length+(r.takeWhile BL).length,0,[],zeroVl,s.length-r.length,y.e,y.wh⟩:Rx).fail 91 (s.length-r.length)
  else ⟨s.length-r.length+(r.takeWhile BL).length,1,[],⟨1,(rnumV (r.takeWhile BL):Int),false,[]⟩,s.length-r.length,y.e,y.wh⟩
 else if D8 (r.headD 0)=true then
  if r.takeWhile BE=[116,114,117,101]∨r.takeWhile BE=[102,97,108,115,101] then ⟨s.length-r.length+(r.takeWhile BE).length,1,[],⟨2,0,decide (r.takeWhile BE=[116,114,117,101]),[]⟩,s.length-r.length,y.e,y.wh⟩
  else if IE (r.takeWhile BE)=true then ⟨s.length-r.length+(r.takeWhile BE).length,3,r.takeWhile BE,zeroVl,s.length-r.length,y.e,y.wh⟩
  else if 32<(r.takeWhile BE).length then (⟨s.length-r.length+(r.takeWhile BE).length,0,[],zeroVl,s.length-r.length,y.e,y.wh⟩:Rx).fail 4 (s.length-r.length)
  else ⟨s.length-r.length+(r.takeWhile BE).length,2,r.takeWhile BE,zeroVl,s.length-r.length,y.e,y.wh⟩
 else if ((r.headD 0).toNat:Int)=39 then
  match qt [] r.tail with
  | some (b,k)=>if utf b=true then ⟨s.length-r.length+(r.length-k),1,[],⟨3,0,false,b⟩,s.length-r.length,y.e,y.wh⟩ else (⟨s.length-r.length,0,[],zeroVl,s.length-r.length,y.e,y.wh⟩:Rx).fail 4 (s.length-r.length)
  | none=>(⟨s.length-r.length,0,[],zeroVl,s.length-r.length,y.e,y.wh⟩:Rx).fail 4 (s.length-r.length)
 else match IS r rsigns with
  | some k=>⟨s.length-r.length+k.length,3,k,zeroVl,s.length-r.length,y.e,y.wh⟩
  | none=>(⟨s.length-r.length,0,[],zeroVl,s.length-r.length,y.e,y.wh⟩:Rx).fail 4 (s.length-r.length)
def AQ (s:Kz) (y:Rx):Rx:=SR s (GP (s.drop y.at_)) y
def isR (y:Rx) (k:Kz):Bool:=decide (y.e=0)&&(decide (y.kd=3)&&decide (y.say=k))
def sgP (y:Rx):Option UInt8:=if isR y [42]=true then some 15 else if isR y [47]=true then some 16 else if isR y [37]=true then some 17 else none
def sgS (y:Rx):Option UInt8:=if isR y [43]=true then some 13 else if isR y [45]=true then some 14 else none
def sgA (y:Rx):Option UInt8:=if isR y [97,110,100]=true then some 5 else none
def sgO (y:Rx):Option UInt8:=if isR y [111,114]=true then some 6 else none
def csigns : List Kz:=[[61],[33,61],[60],[60,61],[62],[62,61]]
def W6 (y:Rx):Nat→List Kz→Option UInt8
 | _,[]=>none
 | i,k::l=>if isR y k=true then some (UInt8.ofNat (7+i)) else W6 y (i+1) l
def sgC (y:Rx):Option UInt8:=W6 y 0 csigns
section
variable (s:Kz) (fr:Nat→Rx→Xn × Rx)
def EX (y:Rx):Xn × Rx:=
 if isR y [45]=true then (.un 4 (fr 7 (AQ s y)).1,(fr 7 (AQ s y)).2)
 else if ¬y.e=0 then (.zero,y)
 else if y.kd=1 then (.lit y.vl,AQ s y)
 else if y.kd=2 then (.var y.say,AQ s y)
 else if isR y [40]=true then ((fr 1 (AQ s y)).1,if isR (fr 1 (AQ s y)).2 [41]=true then AQ s (fr 1 (AQ s y)).2 else (fr 1 (AQ s y)).2.fail 4 (fr 1 (AQ s y)).2.tat)
 else (.zero,y.fail 4 y.tat)
def GS (line:Nat) (sg:Rx→Option UInt8):Nat→Xn→Rx→Xn × Rx
 | 0,n,y=>(n,y)
 | k+1,n,y=>match sg y with
  | some op=>GS line sg k (.bin op n (fr (line+1) (AQ s y)).1) (fr (line+1) (AQ s y)).2
  | none=>(n,y)
def KF (k:Nat) (y:Rx):Xn × Rx:=GS s fr 6 sgP k (EX s fr y).1 (EX s fr y).2
def FH (k:Nat) (y:Rx):Xn × Rx:=GS s fr 5 sgS k (KF s fr k y).1 (KF s fr k y).2
def KO (k:Nat) (y:Rx):Xn × Rx:=match sgC (FH s fr k y).2 with
 | some op=>(.bin op (FH s fr k y).1 (fr 5 (AQ s (FH s fr k y).2)).1,(fr 5 (AQ s (FH s fr k y).2)).2)
 | none=>FH s fr k y
def O4 (k:Nat) (y:Rx):Xn × Rx:=if isR y [110,111,116]=true then (.un 3 (fr 3 (AQ s y)).1,(fr 3 (AQ s y)).2) else KO s fr k y
def PK (k:Nat) (y:Rx):Xn × Rx:=GS s fr 2 sgA k (O4 s fr k y).1 (O4 s fr k y).2
def rOr (k:Nat) (y:Rx):Xn × Rx:=GS s fr 1 sgO k (PK s fr k y).1 (PK s fr k y).2
def iP (k line:Nat) (y:Rx):Xn × Rx:=if line=1 then rOr s fr k y else if line=2 then PK s fr k y else if line=3 then O4 s fr k y else if line=4 then KO s fr k y else if line=5 then FH s fr k y else if line=6 then KF s fr k y else EX s fr y
end
def DQ (s:Kz):Nat→Nat→Rx→Xn × Rx
 | 0,_,y=>(.zero,y)
 | f+1,line,y=>iP s (DQ s f) f line y
def rx0 : Rx:=⟨0,0,[],zeroVl,0,0,0⟩
def CX (s:Kz):Xn × Nat × Int:=
 if 256<s.length then (.zero,0,3) else
 let r:=DQ s 258 1 (AQ s rx0)
 let y:=if r.2.e=0∧¬r.2.kd=0 then r.2.fail 4 r.2.tat else r.2
 if y.e=0 then (r.1,0,0) else (.zero,y.wh,y.e)
structure TkX (x:Lx) (y:Rx):Prop where
 xe:x.e=0
 ye:y.e=0
 at_:x.at_=y.at_
 tok:(y.kd=0∧x.fin=true∧x.nd=.zero∧x.say=[])∨(y.kd=1∧x.fin=false∧x.nd=.lit y.vl∧x.say=[])∨(y.kd=2∧x.fin=false∧x.nd=.var y.say∧x.say=[])∨(y.kd=3∧x.fin=false∧x.nd=.zero∧x.say=y.say)
def a28 (x:Lx) (y:Rx):Prop:=TkX x y∨(¬x.e=0∧¬y.e=0)
theorem Rx.fail_e {y:Rx} {e:Int} {p:Nat} (h:¬e=0):¬(y.fail e p).e=0:=by unfold Rx.fail;split<;>simp_all
theorem YU (p:UInt8→Bool) (l:Kz):(l.takeWhile p).length≤l.length:=(Jd p).length_le
theorem VU (p:UInt8→Bool) (l:Kz):l.take (l.takeWhile p).length=l.takeWhile p:=(List.prefix_iff_eq_take.1 (Jd p)).symm
theorem jU {s:ByteArray} {i:Nat} (h:128≤(s.get! i).toNat):127<(Utf8.decode s i).1:=by
 unfold Utf8.decode;simp only [Hr];have hr:127<Utf8.runeError:=by decide
 rw [if_neg A0]
 split
 ·split
  ·simp only;omega
  exact hr
 split
 ·split
  ·rename_i h2;simp only [Bh,decide_eq_true_eq] at h2;simp only;omega
  exact hr
 split
 ·split
  ·rename_i h2;simp only [Bh,decide_eq_true_eq] at h2;simp only;omega
  exact hr
 exact hr
theorem zW (pre l:Kz) (b:UInt8):(ByteArray.mk (pre++b::l).toArray).get! pre.length=b:=by
 show (pre++b::l).toArray[pre.length]! = b
 simp
theorem eZ {is:UInt8→Bool} (hs:∀b,is b=true→b.toNat<128):∀(l pre:Kz) (f:Nat),l.length≤f →
 Lib.idxFuncFrom (KB is) true ⟨(pre++l).toArray⟩ f pre.length=if l.all is=true then -1 else ((pre.length+(l.takeWhile is).length:Nat):Int)
 | [],pre,f,_=>by
  rw [Lib.idxFuncFrom_end]
  ·rfl
  show ¬pre.length<(pre++[]).toArray.size
  simp
 | b::l,pre,f,hf=>by
  obtain ⟨f,rfl⟩:∃g,f=g+1:=⟨f-1,by simp only [Af] at hf;omega⟩
  have hsz:(ByteArray.mk (pre++b::l).toArray).size=pre.length+(l.length+1):=by show (pre++b::l).toArray.size=_;simp
  have hget:=zW pre l b;rw [Lib.idxFuncFrom,if_pos A0]
  by_cases hb:b.toNat<128
  ·have hd:Utf8.decode ⟨(pre++b::l).toArray⟩ pre.length=(b.toNat,1):=by
    have hg:(ByteArray.mk (pre++b::l).toArray)[pre.length]'A0=b:=by
     show (pre++b::l).toArray[pre.length]'_=b
     simp
    have:=Go.decode_ascii ⟨(pre++b::l).toArray⟩ pre.length A0 (by rw [hg];exact hb)
    rw [this,hg]
   rw [hd]
   by_cases hi:is b=true
   ·have hq:KB is b.toNat=false:=by
     unfold KB;rw [Hq,hi];simp only [Gj,Im,decide_eq_false_iff_not];omega
    simp only [hq,Db,if_false];have ih:=eZ hs l (pre++[b]) f (by simp only [Af] at hf;omega);rw [Ah,Gy,By,Gx] at ih
    rw [ih,Df,hi,Em,Co,if_pos hi,Af]
    congr 2;omega
   have hi':=Cg.2 hi
   have hq:KB is b.toNat=true:=by
    unfold KB;rw [Hq,hi']
    simp
   simp only [hq,if_true];rw [Df,hi',Fk,if_neg AV,Co,if_neg (by simp [hi'])]
   rfl
  have hi':is b=false:=Cg.2 λh=>hb (hs b h)
  have hd:127<(Utf8.decode ⟨(pre++b::l).toArray⟩ pre.length).1:=jU (by rw [hget];omega);have hq:KB is (Utf8.decode ⟨(pre++b::l).toArray⟩ pre.length).1=true:=by unfold KB;rw [decide_eq_true hd];rfl
  simp only [hq,if_true];rw [Df,hi',Fk,if_neg AV,Co,if_neg (by simp [hi'])]
  rfl
theorem YV {p:UInt8→Bool}:∀{l:Kz},l.all p=true→l.takeWhile p=l
 | [],_=>rfl
 | b::l,h=>by
  rw [Df,Bh] at h
  rw [Co,if_pos h.1,YV h.2]
theorem kV {is:UInt8→Bool} (hs:∀b,is b=true→b.toNat<128) (l:Kz):spanP is l=(l.takeWhile is).length:=by
 have h:=eZ hs l [] l.length (Ab _);rw [Fg,Aq,Cm] at h
 have h':NY is l=if l.all is=true then -1 else ((l.takeWhile is).length:Int):=h
 unfold spanP;rw [h']
 by_cases ha:l.all is=true
 ·rw [if_pos ha,if_pos AV];rw [YV ha]
 rw [if_neg ha,if_neg A0];omega
theorem j7 {b:UInt8} (h:D8 b=true):b.toNat<128:=by
 have h1:=odt (EE h).2;have h2:b.toNat≤(b ||| 32).toNat:=by rw [Ib];exact Nat.left_le_or
 omega
theorem o8 {b:UInt8} (h:BE b=true):b.toNat<128:=by
 unfold BE at h
 simp only [Dm,decide_eq_true_eq] at h
 rcases h with (((h|h)|h)|h)|h
 ·exact j7 h
 ·exact XM h
 ·omega
 ·omega
 omega
theorem gG {p:Nat→Bool} (h:(List.range 256).all p=true) (b:UInt8):p b.toNat=true:=Ci.1 h _ (Eu.2 b.toNat_lt)
theorem ZE (b:UInt8):D8 b=CP b:=by
 have h:=gG (p:=λn=>D8 (UInt8.ofNat n)==CP (UInt8.ofNat n)) (by decide +kernel) b
 simpa using h
theorem o9 (b:UInt8):BE b=(CP b || F4 b):=by
 have h:=gG (p:=λn=>BE (UInt8.ofNat n)==(CP (UInt8.ofNat n) || F4 (UInt8.ofNat n))) (by decide +kernel) b
 simpa using h
theorem PG (p:UInt8→Bool):∀l:Kz,(l.takeWhile p).all p=true
 | []=>rfl
 | b::l=>by
  rw [Co]
  split
  ·rename_i h;rw [Df,h,PG p l];rfl
  rfl
theorem m9 {l:Kz} {b:UInt8} (hb:l[0]?=some b) (h:D8 b=true):B6 (l.takeWhile BE)=decide ((l.takeWhile BE).length≤32):=by
 obtain ⟨r,rfl⟩:∃r,l=b::r:=by cases l with|nil=>simp at hb|cons a r=>exact ⟨r,by simp at hb;rw [hb]⟩
 have hi:BE b=true:=by unfold BE;rw [h];rfl
 have ha:=PG BE (b::r);rw [Co,if_pos hi] at ha ⊢
 have hal:HY (b::r.takeWhile BE)=true:=by
  unfold HY;rw [←ha]
  congr 1
  funext c
  rw [o9]
 unfold B6;rw [PT,←ZE,h,hal]
 simp
def NS (a:Nat) (l:Kz):Nat:=l.foldl (λn b=>n*10+(b.toNat-48)) a
theorem bS : ∀(l:Kz) (a:Nat),a*10 ^ l.length≤NS a l
 | [],a=>by simp [NS]
 | b::l,a=>by
  have h:=bS l (a*10+(b.toNat-48));have e:NS a (b::l)=NS (a*10+(b.toNat-48)) l:=X;rw [e,Af,Nat.pow_succ];refine Bb ?_ h;rw [Gm (10 ^ l.length) 10,←Nat.mul_assoc];exact Ds _ (Cu _ _)
theorem oT (l:Kz) (a:Nat):a≤NS a l:=Bb (Gk a (Nat.pow_pos AV)) (bS l a)
theorem S5 {b:UInt8} (h:BL b=true):48≤b.toNat∧b.toNat≤57:=by
 unfold BL at h
 simp only [Bh,decide_eq_true_eq] at h
 omega
theorem cS : ∀(l:Kz) (a:Nat),l.all BL=true→a<2 ^ 64→Lib.parseUintM (2 ^ 64-1) a l=if NS a l<2 ^ 64 then .ok (NS a l) else .range
 | [],a,_,ha=>by
  have e:NS a []=a:=X;rw [e,if_pos ha];rfl
 | b::l,a,h,ha=>by
  rw [Df,Bh] at h
  obtain ⟨h1,h2⟩:=S5 h.1;have e:NS a (b::l)=NS (a*10+(b.toNat-48)) l:=X;have hm:=oT l (a*10+(b.toNat-48));rw [Lib.parseUintM,if_pos ⟨h1,h2⟩,e]
  split
  ·rw [if_neg A0]
  split
  ·rw [if_neg A0]
  exact cS l _ h.2 A0
theorem sI {l:Kz} (h:l.all BL=true) (h0:l≠[]):NK l=if decN l<2 ^ 63 then ((decN l:Int),true) else (Lib.intSat 64 l,false):=by
 obtain ⟨b,r,rfl⟩:=Ev h0;have hb:=h;rw [Df,Bh] at hb
 obtain ⟨h1,h2⟩:=S5 hb.1;have hu:=cS (b::r) 0 h AV;have hd:NS 0 (b::r)=decN (b::r):=X;rw [hd] at hu
 have hi:Lib.parseIntB 64 (b::r)=if decN (b::r)<2 ^ 63 then .ok (decN (b::r):Int) else .range:=by
  unfold Lib.parseIntB Lib.parseUintB;simp only [if_neg (show ¬(b.toNat=43∨b.toNat=45) by omega),if_neg (show ¬(b::r)=[] by simp),hu]
  by_cases h64:decN (b::r)<2 ^ 64
  ·rw [if_pos h64];simp only [show ¬b.toNat=45 by omega,not_false_eq_true,true_and,false_and,if_false]
   by_cases h63:decN (b::r)<2 ^ 63
   ·rw [if_neg A0,if_pos h63]
   rw [if_pos A0,if_neg h63]
  rw [if_neg h64,if_neg A0]
 unfold NK;rw [hi]
 by_cases h63:decN (b::r)<2 ^ 63
 ·simp only [if_pos h63]
 simp only [if_neg h63]
theorem sQ {l:Kz} {b:UInt8} (h:l.all BL=true) (hb:l[0]?=some b) (hn:¬((b.toNat:Int)=48∧1<l.length)) :
 ((NK l).2=true∧¬9223372036854775807<rnumV l∧(NK l).1=(rnumV l:Int))∨((NK l).2=false∧9223372036854775807<rnumV l):=by
 obtain ⟨r,rfl⟩:∃r,l=b::r:=by cases l with|nil=>simp at hb|cons a r=>exact ⟨r,by simp at hb;rw [hb]⟩
 have hd:=h;rw [Df,Bh] at hd
 obtain ⟨h1,h2⟩:=S5 hd.1;rw [sI h (by simp)];unfold rnumV
 by_cases h19:19<(b::r).length
 ·rw [if_pos h19]
  right
  rw [Af] at h19 hn
  have hg:=bS r (0*10+(b.toNat-48));have e:decN (b::r)=NS (0*10+(b.toNat-48)) r:=X;have hp:10 ^ 19≤10 ^ r.length:=Nat.pow_le_pow_right AV A0;have hm:1*10 ^ r.length≤(0*10+(b.toNat-48))*10 ^ r.length:=Ds _ A0;rw [if_neg (by rw [e];omega)];exact ⟨X,by decide⟩
 rw [if_neg h19]
 by_cases h63:decN (b::r)<2 ^ 63
 ·rw [if_pos h63];left;exact ⟨rfl,by omega,rfl⟩
 rw [if_neg h63];right;exact ⟨rfl,by omega⟩
def RK (b:UInt8):Bool:=decide (b=61) || decide (b=60) || decide (b=62) || decide (b=43) || decide (b=45) || decide (b=42) || decide (b=47) || decide (b=37)
theorem RG (b:UInt8):(AU [b]).isSome=RK b:=by
 unfold AU signTab;simp only [SN,Cs,and_true,reduceCtorEq,and_false,if_false];unfold RK
 repeat' split
 all_goals simp_all
theorem OC (b c:UInt8) (h:¬b=111):(AU [b,c]).isSome=(decide (c=61)&&(decide (b=33) || decide (b=60) || decide (b=62))):=by
 unfold AU signTab;simp only [SN,Cs,and_true,reduceCtorEq,and_false,if_false,h,false_and]
 by_cases hc:c=61
 ·simp only [hc,and_true]
  repeat' split
  all_goals simp_all
 simp [hc]
theorem SQ (b c:UInt8) (q:Kz):IS (b::c::q) rsigns=if c=61∧(b=60∨b=62∨b=33) then some [b,c] else if RK b=true∨b=40∨b=41 then some [b] else none:=by
 unfold rsigns;simp only [IS,Af,Aq,List.take_succ_cons,Et,Cs,and_true]
 by_cases hc:c=61
 ·by_cases h1:b=60
  ·simp [hc,h1]
  by_cases h2:b=62
  ·simp [hc,h2]
  by_cases h3:b=33
  ·simp [hc,h3]
  simp only [h1,h2,h3,false_and,and_false,or_false,if_false];unfold RK
  repeat' split
  all_goals simp_all
 simp only [hc,false_and,and_false,if_false];unfold RK
 repeat' split
 all_goals simp_all
theorem Z0 (b:UInt8):IS [b] rsigns=if RK b=true∨b=40∨b=41 then some [b] else none:=by
 unfold rsigns;simp only [IS,Af,Aq,List.take_succ_cons,List.take_nil,Cs,and_true,reduceCtorEq,and_false,if_false];unfold RK
 repeat' split
 all_goals simp_all
theorem a0S {r:Kz} {b:UInt8} (hb:r[0]?=some b) (h2:D8 b=false) (h4:(((!(AU (r.take (sgnN r))).isSome)&&(!decide ((r.take (sgnN r))=[40])))&&(!decide ((r.take (sgnN r))=[41])))=false):IS r rsigns=some (r.take (sgnN r))∧(r.take (sgnN r)).length=sgnN r:=by
 have h111:¬b=111:=by rintro rfl;exact absurd h2 AV
 cases r with
 | nil=>simp at hb
 | cons a r=>
  simp only [Ai,Ad] at hb;subst hb
  cases r with
  | nil=>
   have hn:sgnN [a]=1:=by unfold sgnN;simp
   rw [hn,show ([a]:Kz).take 1=[a] from rfl,RG] at h4
   rw [hn,Z0,if_pos]
   ·exact ⟨X,X⟩
   cases h:RK a<;>simp_all<;>(first|omega|(by_cases h:a=40<;>simp_all))
  | cons c q=>
   by_cases ht:c=61∧(a=60∨a=62∨a=33)
   ·have hn:sgnN (a::c::q)=2:=by
     unfold sgnN;rw [show min 2 (a::c::q).length=2 by simp,show (a::c::q).take 2=[a,c] from rfl,OC a c h111,if_pos]
     simp [ht.1];rcases ht.2 with h|h|h<;>simp [h]<;>omega
    rw [hn,SQ,if_pos ht];exact ⟨X,X⟩
   have hn:sgnN (a::c::q)=1:=by
    unfold sgnN;rw [show min 2 (a::c::q).length=2 by simp,show (a::c::q).take 2=[a,c] from rfl,OC a c h111,if_neg];simp only [Bh,Dm,decide_eq_true_eq];rintro ⟨⟨h,h'⟩,_⟩;exact ht ⟨h,by rcases h' with (h'|h')|h'<;>simp [h']⟩
   rw [hn,show (a::c::q).take 1=[a] from rfl,RG] at h4
   rw [hn,SQ,if_neg ht,if_pos]
   ·exact ⟨X,X⟩
   cases h:RK a<;>simp_all<;>(first|omega|(by_cases h:a=40<;>simp_all))
theorem a0T {r:Kz} {b:UInt8} (hb:r[0]?=some b) (h2:D8 b=false) (h4:(((!(AU (r.take (sgnN r))).isSome)&&(!decide ((r.take (sgnN r))=[40])))&&(!decide ((r.take (sgnN r))=[41])))=true):IS r rsigns=none:=by
 have h111:¬b=111:=by rintro rfl;exact absurd h2 AV
 cases r with
 | nil=>simp at hb
 | cons a r=>
  simp only [Ai,Ad] at hb;subst hb
  cases r with
  | nil=>
   have hn:sgnN [a]=1:=by unfold sgnN;simp
   rw [hn,show ([a]:Kz).take 1=[a] from rfl,RG] at h4
   rw [Z0,if_neg]
   simp_all
  | cons c q=>
   by_cases ht:c=61∧(a=60∨a=62∨a=33)
   ·exfalso
    have hn:sgnN (a::c::q)=2:=by
     unfold sgnN;rw [show min 2 (a::c::q).length=2 by simp,show (a::c::q).take 2=[a,c] from rfl,OC a c h111,if_pos]
     simp [ht.1];rcases ht.2 with h|h|h<;>simp [h]<;>omega
    rw [hn,show (a::c::q).take 2=[a,c] from rfl,OC a c h111] at h4
    obtain ⟨h1,h3⟩:=ht;rcases h3 with h3|h3|h3<;>simp [h1,h3] at h4
   have hn:sgnN (a::c::q)=1:=by
    unfold sgnN;rw [show min 2 (a::c::q).length=2 by simp,show (a::c::q).take 2=[a,c] from rfl,OC a c h111,if_neg];simp only [Bh,Dm,decide_eq_true_eq];rintro ⟨⟨h,h'⟩,_⟩;exact ht ⟨h,by rcases h' with (h'|h')|h'<;>simp [h']⟩
   rw [hn,show (a::c::q).take 1=[a] from rfl,RG] at h4
   rw [SQ,if_neg ht,if_neg]
   simp_all
theorem P5 {s:Kz} {x:Lx} {y:Rx} (hx:x.e=0) (hy:y.e=0) (ha:x.at_=y.at_):a28 (BI s x) (AQ s y):=by
 unfold BI AQ;rw [←ha];have hls:=HW s x.at_;obtain ⟨r,hr⟩:∃r,GP (s.drop x.at_)=r:=⟨_,X⟩
 rw [hr] at hls ⊢
 by_cases h0:r=[]
 ·rw [P6 (.inl h0),SR,if_pos (.inr h0)];exact .inl ⟨hx,hy,X,.inl ⟨X,X,X,X⟩⟩
 have hn:0<r.length:=Fe.2 h0;obtain ⟨b,hb⟩:=EP (l:=r) (i:=0) hn;have hne:¬(¬y.e=0∨r=[]):=λz=>z.elim (λz=>z hy) h0
 have hh:¬r=[]∧x.e=0:=⟨h0,hx⟩;rw [SR,if_neg hne,PW hb]
 by_cases h1:BL b=true
 ·rw [SW hh hb h1,if_pos h1,kV (λb h=>XM h) r,VU];have hal:=PG BL r
  have hb':(r.takeWhile BL)[0]?=some b:=by
   cases r with
   | nil=>simp at hb
   | cons a r=>simp only [Ai,Ad] at hb;subst hb;rw [Co,if_pos h1];rfl
  obtain ⟨t,ht⟩:∃t,r.takeWhile BL=t:=⟨_,X⟩
  rw [ht] at hal hb' ⊢
  unfold JH;rw [PW hb']
  by_cases h2:(b.toNat:Int)=48∧1<t.length
  ·rw [if_pos ⟨h2.1,by omega⟩,if_pos h2];exact .inr ⟨E9 AV,Rx.fail_e AV⟩
  rw [if_neg (λz=>h2 ⟨z.1,by omega⟩),if_neg h2];rcases sQ hal hb' h2 with ⟨h3,h4,h5⟩|⟨h3,h4⟩
  ·rw [if_pos h3,if_neg h4];exact .inl ⟨hx,hy,X,.inr (.inl ⟨X,X,by rw [h5],rfl⟩)⟩
  rw [if_neg (by rw [h3];decide),if_pos h4];exact .inr ⟨E9 AV,Rx.fail_e AV⟩
 have h1':=Cg.2 h1;rw [if_neg h1]
 by_cases h2:D8 b=true
 ·rw [QF hh hb h1' h2,if_pos h2,kV (λb h=>o8 h) r,VU];have hw:=m9 hb h2;obtain ⟨t,ht⟩:∃t,r.takeWhile BE=t:=⟨_,X⟩
  rw [ht] at hw ⊢
  unfold G2
  by_cases h3:t=[116,114,117,101]∨t=[102,97,108,115,101]
  ·rw [if_pos (by simpa using h3),if_pos h3];exact .inl ⟨hx,hy,X,.inr (.inl ⟨X,X,X,X⟩)⟩
  rw [if_neg (by simpa using h3),if_neg h3]
  by_cases h4:IE t=true
  ·rw [if_pos h4,if_pos h4];exact .inl ⟨hx,hy,X,.inr (.inr (.inr ⟨X,X,X,X⟩))⟩
  rw [if_neg h4,if_neg h4,hw]
  by_cases h5:32<t.length
  ·rw [if_pos (by simpa using h5),if_pos h5];exact .inr ⟨E9 AV,Rx.fail_e AV⟩
  rw [if_neg (by simpa using h5),if_neg h5];exact .inl ⟨hx,hy,X,.inr (.inr (.inl ⟨X,X,X,X⟩))⟩
 have h2':=Cg.2 h2;rw [if_neg h2]
 by_cases h3:(b.toNat:Int)=39
 ·rw [QG hh hb h1' h2' h3,if_pos h3];unfold JN
  cases hq:qt [] r.tail with
  | none=>exact .inr ⟨E9 AV,Rx.fail_e AV⟩
  | some v=>
   obtain ⟨v,k⟩:=v
   simp only
   by_cases hu:utf v=true
   ·rw [if_pos hu,if_pos hu];exact .inl ⟨hx,hy,X,.inr (.inl ⟨X,X,X,X⟩)⟩
   rw [if_neg hu,if_neg hu];exact .inr ⟨E9 AV,Rx.fail_e AV⟩
 rw [if_neg h3]
 by_cases h4:(((!(AU (r.take (sgnN r))).isSome)&&(!decide ((r.take (sgnN r))=[40])))&&(!decide ((r.take (sgnN r))=[41])))=true
 ·rw [SX hh hb h1' h2' h3 h4,a0T hb h2' h4];exact .inr ⟨E9 AV,Rx.fail_e AV⟩
 have h4':=Cg.2 h4;obtain ⟨h5,h6⟩:=a0S hb h2' h4';rw [QH hh hb h1' h2' h3 h4',h5];refine .inl ⟨hx,hy,?_,.inr (.inr (.inr ⟨X,X,X,X⟩))⟩;simp only [h6]
theorem FD {x:Lx} {y:Rx} (h:TkX x y) {k:Kz} (hk:¬k=[]):isR y k=decide (x.say=k):=by
 unfold isR;rw [decide_eq_true h.ye,Em];rcases h.tok with ⟨h1,_,_,h4⟩|⟨h1,_,_,h4⟩|⟨h1,_,_,h4⟩|⟨h1,_,_,h4⟩
 ·rw [h1,h4];simp [Ne.symm hk]
 ·rw [h1,h4];simp [Ne.symm hk]
 ·rw [h1,h4];simp [Ne.symm hk]
 rw [h1,h4];simp
theorem M8 {y:Rx} {k:Kz} (h:¬y.e=0):isR y k=false:=by unfold isR;rw [decide_eq_false h];rfl
theorem bI {y:Rx} {k:Kz} (h:¬y.say=k):isR y k=false:=by unfold isR;rw [decide_eq_false h];simp
theorem JT (k:Kz):AU k=none∨∃q∈signTab,q.1=k∧AU k=some q.2:=by
 unfold AU
 have:∀l:List (Kz × (UInt8 × Nat)),SN l k=none∨∃q∈l,q.1=k∧SN l k=some q.2:=by
  intro l
  induction l with
  | nil=>exact .inl rfl
  | cons a l ih=>
   obtain ⟨a,v⟩:=a;unfold SN
   by_cases h:k=a
   ·rw [if_pos h];exact .inr ⟨(a,v),by simp,h.symm,rfl⟩
   rw [if_neg h];rcases ih with ih|⟨q,h1,h2,h3⟩
   ·exact .inl ih
   exact .inr ⟨q,by simp [h1],h2,h3⟩
 exact this signTab
structure SgOk (line:Nat) (sg:Rx→Option UInt8):Prop where
 err:∀y:Rx,¬y.e=0→sg y=none
 doom:line≤2→∀y:Rx,FL y.say=4→sg y=none
 no:∀(x:Lx) (y:Rx),TkX x y→FL x.say<line→sg y=none
 yes:∀(x:Lx) (y:Rx),TkX x y→FL x.say=line→sg y=some ((AU x.say).getD (0,0)).1
theorem IX {k:Kz} (h:AU k=none):FL k=0:=by unfold FL;rw [h];rfl
theorem LB {k q:Kz} (h:¬FL k=FL q):¬k=q:=λe=>h (by rw [e])
theorem sgP_ok : SgOk 6 sgP where
 err y h:=by unfold sgP;simp [M8 h]
 doom h:=absurd h AV
 no x y h hp:=by
  unfold sgP;rw [FD h AV,FD h AV,FD h AV,decide_eq_false (LB (q:=[42]) (by rw [show FL [42]=6 from rfl];omega)),decide_eq_false (LB (q:=[47]) (by rw [show FL [47]=6 from rfl];omega)),decide_eq_false (LB (q:=[37]) (by rw [show FL [37]=6 from rfl];omega))]
  rfl
 yes x y h hp:=by
  unfold sgP;rw [FD h AV,FD h AV,FD h AV];rcases JT x.say with hs|⟨q,hq,h1,h2⟩
  ·rw [IX hs] at hp;cases hp
  rw [←h1] at hp ⊢
  simp only [signTab,Ak,Ax,or_false] at hq
  rcases hq with rfl|rfl|rfl|rfl|rfl|rfl|rfl|rfl|rfl|rfl|rfl|rfl|rfl<;>first|rfl|exact absurd hp AV
theorem sgS_ok : SgOk 5 sgS where
 err y h:=by unfold sgS;simp [M8 h]
 doom h:=absurd h AV
 no x y h hp:=by
  unfold sgS;rw [FD h AV,FD h AV,decide_eq_false (LB (q:=[43]) (by rw [show FL [43]=5 from rfl];omega)),decide_eq_false (LB (q:=[45]) (by rw [show FL [45]=5 from rfl];omega))]
  rfl
 yes x y h hp:=by
  unfold sgS;rw [FD h AV,FD h AV];rcases JT x.say with hs|⟨q,hq,h1,h2⟩
  ·rw [IX hs] at hp;cases hp
  rw [←h1] at hp ⊢
  simp only [signTab,Ak,Ax,or_false] at hq
  rcases hq with rfl|rfl|rfl|rfl|rfl|rfl|rfl|rfl|rfl|rfl|rfl|rfl|rfl<;>first|rfl|exact absurd hp AV
theorem sgA_ok : SgOk 2 sgA where
 err y h:=by unfold sgA;simp [M8 h]
 doom _ y h:=by unfold sgA;rw [bI (LB (by rw [h];decide))];rfl
 no x y h hp:=by
  unfold sgA;rw [FD h AV,decide_eq_false (LB (q:=[97,110,100]) (by rw [show FL [97,110,100]=2 from rfl];omega))]
  rfl
 yes x y h hp:=by
  unfold sgA;rw [FD h AV];rcases JT x.say with hs|⟨q,hq,h1,h2⟩
  ·rw [IX hs] at hp;cases hp
  rw [←h1] at hp ⊢
  simp only [signTab,Ak,Ax,or_false] at hq
  rcases hq with rfl|rfl|rfl|rfl|rfl|rfl|rfl|rfl|rfl|rfl|rfl|rfl|rfl<;>first|rfl|exact absurd hp AV
theorem sgO_ok : SgOk 1 sgO where
 err y h:=by unfold sgO;simp [M8 h]
 doom _ y h:=by unfold sgO;rw [bI (LB (by rw [h];decide))];rfl
 no x y h hp:=by
  unfold sgO;rw [FD h AV,decide_eq_false (LB (q:=[111,114]) (by rw [show FL [111,114]=1 from rfl];omega))]
  rfl
 yes x y h hp:=by
  unfold sgO;rw [FD h AV];rcases JT x.say with hs|⟨q,hq,h1,h2⟩
  ·rw [IX hs] at hp;cases hp
  rw [←h1] at hp ⊢
  simp only [signTab,Ak,Ax,or_false] at hq
  rcases hq with rfl|rfl|rfl|rfl|rfl|rfl|rfl|rfl|rfl|rfl|rfl|rfl|rfl<;>first|rfl|exact absurd hp AV
theorem kX {y:Rx} (h:¬y.e=0):sgC y=none:=by unfold sgC csigns;simp [W6,M8 h]
theorem a0Z {x:Lx} {y:Rx} (h:TkX x y) (hp:FL x.say<4):sgC y=none:=by
 have key:∀k∈csigns,isR y k=false:=λk hk=>by
  simp only [csigns,Ak,Ax,or_false] at hk
  rcases hk with rfl|rfl|rfl|rfl|rfl|rfl<;>(rw [FD h AV];exact decide_eq_false (LB (Nat.ne_of_lt (Bw hp AV))))
 have:∀(l:List Kz) (i:Nat),(∀k∈l,isR y k=false)→W6 y i l=none:=by
  intro l
  induction l with
  | nil=>intro _ _;rfl
  | cons a l ih=>intro i hl;rw [W6,hl a (by simp),if_neg AV];exact ih _ λk hk=>hl k (by simp [hk])
 exact this _ _ key
theorem xC {x:Lx} {y:Rx} (h:TkX x y) (hp:FL x.say=4):sgC y=some ((AU x.say).getD (0,0)).1:=by
 unfold sgC csigns;simp only [W6,FD h (show ¬([61]:Kz)=[] by decide),FD h (show ¬([33,61]:Kz)=[] by decide),FD h (show ¬([60]:Kz)=[] by decide),FD h (show ¬([60,61]:Kz)=[] by decide),FD h (show ¬([62]:Kz)=[] by decide),FD h (show ¬([62,61]:Kz)=[] by decide)];rcases JT x.say with hs|⟨q,hq,h1,h2⟩
 ·rw [IX hs] at hp;cases hp
 rw [←h1] at hp ⊢
 simp only [signTab,Ak,Ax,or_false] at hq
 rcases hq with rfl|rfl|rfl|rfl|rfl|rfl|rfl|rfl|rfl|rfl|rfl|rfl|rfl<;>first|rfl|exact absurd hp AV
def Y8 (line:Nat) (r:Xn × Lx) (q:Xn × Rx):Prop:=(TkX r.2 q.2∧r.1=q.1∧FL r.2.say<line)∨(¬r.2.e=0∧(¬q.2.e=0∨(line≤4∧q.2.kd=3∧FL q.2.say=4)))
section
variable {s:Kz} {f:Nat} {fr:Nat→Lx→Xn × Lx} {rr:Nat→Rx→Xn × Rx}
theorem KV {line k:Nat} {n:Xn} {x:Lx} (he:x.e=0) (hs:(AU x.say).isNone=true∨FL x.say<line):ED s fr (k+1) line n x=(n,x):=by
 rw [ED,if_neg (show ¬ ¬x.e=0 from λz=>z he),if_pos hs]
theorem P9 {line k:Nat} {n:Xn} {x:Lx} (he:x.e=0) (hs:¬((AU x.say).isNone=true∨FL x.say<line)):ED s fr (k+1) line n x=ED s fr k line (.bin ((AU x.say).getD (0,0)).1 n (KA s fr x).1) (KA s fr x).2:=by
 rw [ED,if_neg (show ¬ ¬x.e=0 from λz=>z he),if_neg hs]
theorem ZC (h:FrI s f fr) (line:Nat):∀(k j:Nat) (n:Xn) (x:Lx),LxI s x→lxM s x≤k→lxM s x≤j→lxM s x≤f+1→ED s fr k line n x=ED s fr j line n x
 | 0,j,n,x,hx,hk,hj,hm=>by
  have he:¬x.e=0:=λhe=>by have:=NO hx he;omega
  rw [EA he,EA he]
 | k+1,j,n,x,hx,hk,hj,hm=>by
  by_cases he:x.e=0
  ·have hp:=NO hx he;obtain ⟨j,rfl⟩:∃j',j=j'+1:=⟨j-1,by omega⟩
   by_cases hs:(AU x.say).isNone=true∨FL x.say<line
   ·rw [KV he hs,KV he hs]
   rw [P9 he hs,P9 he hs];obtain ⟨h1,h2⟩:=W5 h hx he (KE λz=>hs (.inl z)) hm;exact ZC h line k j _ _ h1 A0 A0 A0
  rw [EA he,EA he]
theorem JW (h:FrI s f fr) (line l2:Nat) (h2:l2=line+1):∀(k:Nat) (n:Xn) (x:Lx),LxI s x→lxM s x≤k→lxM s x≤f+1→ED s fr k line n x=ED s fr k line (ED s fr k l2 n x).1 (ED s fr k l2 n x).2
 | 0,n,x,_,_,_=>rfl
 | k+1,n,x,hx,hk,hm=>by
  by_cases he:x.e=0
  ·by_cases hs:(AU x.say).isNone=true∨FL x.say<l2
   ·rw [KV (line:=l2) he hs]
   have hs':¬((AU x.say).isNone=true∨FL x.say<line):=λz=>hs (z.imp id λz=>by omega)
   obtain ⟨h1,h3⟩:=W5 h hx he (KE λz=>hs (.inl z)) hm;rw [P9 (line:=l2) he hs,P9 (line:=line) he hs'];obtain ⟨h4,h5⟩:=QI h l2 k (.bin ((AU x.say).getD (0,0)).1 n (KA s fr x).1) _ h1 A0;rw [ZC h line (k+1) k _ _ h4 A0 A0 A0,←JW h line l2 h2 k _ _ h1 A0 A0]
  rw [EA (line:=l2) he]
theorem U9 {line:Nat} {x:Lx} (h:line≤3):BX s fr line x=BX s fr 3 x:=by
 unfold BX
 by_cases h1:x.say=[110,111,116]
 ·rw [if_pos ⟨h1,h⟩,if_pos (show x.say=[110,111,116]∧3≤3 from ⟨h1,Ab _⟩)]
 rw [if_neg (λz=>h1 z.1),if_neg (show ¬(x.say=[110,111,116]∧3≤3) from λz=>h1 z.1)]
theorem bQ {line:Nat} {x:Lx} (h:4≤line):BX s fr line x=BX s fr 4 x:=by
 unfold BX;rw [if_neg (show ¬(x.say=[110,111,116]∧line≤3) from λz=>absurd z.2 A0),if_neg (show ¬(x.say=[110,111,116]∧4≤3) from λz=>absurd z.2 AV)]
theorem fL {x:Lx} (h:¬x.say=[110,111,116]):BX s fr 3 x=BX s fr 4 x:=by
 unfold BX;rw [if_neg (show ¬(x.say=[110,111,116]∧3≤3) from λz=>h z.1),if_neg (show ¬(x.say=[110,111,116]∧4≤3) from λz=>h z.1)]
variable (H:∀(line:Nat) (x:Lx) (y:Rx),1≤line→line≤7→a28 x y→LxI s x→lxM s x≤f→Y8 line (fr line x) (rr line y))
include H
theorem OK (h:FrI s f fr) {line:Nat} {sg:Rx→Option UInt8} (hg:SgOk line sg) (hl:1≤line∧line≤6∧(line≤2∨5≤line)):∀(k:Nat) (n:Xn) (x:Lx) (y:Rx),LxI s x→lxM s x≤k→lxM s x≤f+1→TkX x y→FL x.say≤line →
 Y8 line (ED s fr k line n x) (GS s rr line sg k n y)
 | 0,n,x,y,hx,hk,_,ht,_=>by have:=NO hx ht.xe;omega
 | k+1,n,x,y,hx,hk,hm,ht,hp=>by
  rw [GS]
  by_cases hs:(AU x.say).isNone=true∨FL x.say<line
  ·have hlt:FL x.say<line:=hs.elim (λz=>by rw [IX (Id.1 z)];omega) id;rw [KV ht.xe hs,hg.no x y ht hlt];exact .inl ⟨ht,X,hlt⟩
  have heq:FL x.say=line:=by have:=λz=>hs (.inr z);omega
  rw [P9 ht.xe hs,hg.yes x y ht heq];have hst:=HL hx ht.xe (KE λz=>hs (.inl z));obtain ⟨h1,h2⟩:=W5 h hx ht.xe (KE λz=>hs (.inl z)) hm
  have hE:KA s fr x=fr (line+1) (BI s x):=by
   unfold KA;rw [heq]
   simp only
   rw [if_neg (λz=>by omega)]
  rw [hE] at h1 h2 ⊢
  rcases H (line+1) (BI s x) (AQ s y) A0 A0 (P5 ht.xe ht.ye ht.at_) DU A0 with ⟨g1,g2,g3⟩|⟨g1,g2⟩
  ·rw [g2];exact OK h hg hl k _ _ _ h1 A0 A0 g1 A0
  rw [EA g1]
  have hn:sg (rr (line+1) (AQ s y)).2=none:=by
   rcases g2 with g2|⟨g2,g3,g4⟩
   ·exact hg.err _ g2
   exact hg.doom A0 _ g4
  have hr:∀(j:Nat) (m:Xn),(GS s rr line sg j m (rr (line+1) (AQ s y)).2).2=(rr (line+1) (AQ s y)).2:=λj m=>by
   cases j with
   | zero=>rfl
   | succ j=>rw [GS,hn]
  refine .inr ⟨g1,?_⟩;rw [hr];exact g2.imp id λ⟨a,b,c⟩=>⟨by omega,b,c⟩
theorem ZL (h:FrI s f fr) {x:Lx} {y:Rx} (hx:LxI s x) (hm:lxM s x≤f+1) (ht:TkX x y):Y8 7 (BX s fr 4 x) (EX s rr y):=by
 have hlt:∀k,FL k<7:=λk=>Nat.lt_succ_of_le (lE k)
 have hN:=P5 ht.xe ht.ye ht.at_ (s:=s);unfold BX EX;rw [if_neg (λz=>absurd z.2 AV),FD ht (show ¬([45]:Kz)=[] by decide),FD ht (show ¬([40]:Kz)=[] by decide)]
 by_cases h1:x.say=[45]
 ·rw [if_pos h1,if_pos (decide_eq_true h1)];have hst:=HL hx ht.xe (by rw [h1];decide);rcases H 7 (BI s x) (AQ s y) AV AV hN DU A0 with ⟨g1,g2,g3⟩|⟨g1,g2⟩
  ·refine .inl ⟨g1,?_,g3⟩
   show Xn.un 4 _=Xn.un 4 _
   rw [g2]
  exact .inr ⟨g1,g2⟩
 rw [if_neg h1,if_neg (show ¬decide (x.say=[45])=true from λz=>h1 (odt z)),if_neg (show ¬ ¬y.e=0 from λz=>z ht.ye)]
 by_cases h2:x.say=[40]
 ·have hk:y.kd=3:=by
   rcases ht.tok with ⟨_,_,_,h4⟩|⟨_,_,_,h4⟩|⟨_,_,_,h4⟩|⟨h1,_,_,_⟩
   ·rw [h4] at h2;cases h2
   ·rw [h4] at h2;cases h2
   ·rw [h4] at h2;cases h2
   exact h1
  rw [if_pos h2,if_neg (show ¬y.kd=1 by omega),if_neg (show ¬y.kd=2 by omega),if_pos (decide_eq_true h2)];have hst:=HL hx ht.xe (by rw [h2];decide);have hI:=h.I 1 (BI s x) DU A0;unfold GZ;rcases H 1 (BI s x) (AQ s y) AV AV hN DU A0 with ⟨g1,g2,g3⟩|⟨g1,g2⟩
  ·rw [FD g1 AV]
   by_cases h3:(fr 1 (BI s x)).2.say=[41]
   ·rw [if_neg (λz=>z h3),if_pos (decide_eq_true h3),g2];rcases P5 g1.xe g1.ye g1.at_ (s:=s) with g|g
    ·exact .inl ⟨g,X,hlt _⟩
    exact .inr ⟨g.1,.inl g.2⟩
   rw [if_pos h3,if_neg (λz=>h3 (odt z))];exact .inr ⟨P7 (E9 AV),.inl (Rx.fail_e AV)⟩
  have hb:isR (rr 1 (AQ s y)).2 [41]=false:=by
   rcases g2 with g2|⟨_,_,g4⟩
   ·exact M8 g2
   exact bI (LB (by rw [g4];decide))
  rw [hb,if_neg (show ¬false=true by decide)]
  by_cases h3:(fr 1 (BI s x)).2.say=[41]
  ·rw [if_neg (λz=>z h3)];exact .inr ⟨P7 g1,.inl (Rx.fail_e AV)⟩
  rw [if_pos h3];exact .inr ⟨P7 (E9 AV),.inl (Rx.fail_e AV)⟩
 rw [if_neg h2,if_neg (show ¬decide (x.say=[40])=true from λz=>h2 (odt z))];unfold PY;rcases ht.tok with ⟨k1,_,k3,_⟩|⟨k1,_,k3,_⟩|⟨k1,_,k3,_⟩|⟨k1,_,k3,_⟩
 ·rw [if_neg (show ¬y.kd=1 by omega),if_neg (show ¬y.kd=2 by omega),k3,if_pos (show (Xn.zero.op.toNat:Int)=0 from rfl)];exact .inr ⟨P7 (E9 AV),.inl (Rx.fail_e AV)⟩
 ·rw [if_pos k1,k3,if_neg (show ¬((Xn.lit y.vl).op.toNat:Int)=0 from by show ¬((1:UInt8).toNat:Int)=0;decide)];rcases hN with g|g
  ·exact .inl ⟨g,X,hlt _⟩
  exact .inr ⟨g.1,.inl g.2⟩
 ·rw [if_neg (show ¬y.kd=1 by omega),if_pos k1,k3,if_neg (show ¬((Xn.var y.say).op.toNat:Int)=0 from by show ¬((2:UInt8).toNat:Int)=0;decide)];rcases hN with g|g
  ·exact .inl ⟨g,X,hlt _⟩
  exact .inr ⟨g.1,.inl g.2⟩
 rw [if_neg (show ¬y.kd=1 by omega),if_neg (show ¬y.kd=2 by omega),k3,if_pos (show (Xn.zero.op.toNat:Int)=0 from rfl)];exact .inr ⟨P7 (E9 AV),.inl (Rx.fail_e AV)⟩
theorem dU (h:FrI s f fr) {x:Lx} {y:Rx} (hx:LxI s x) (hm:lxM s x≤f+1) (ht:TkX x y):Y8 6 (ED s fr (f+1) 6 (BX s fr 4 x).1 (BX s fr 4 x).2) (KF s rr (f+1) y):=by
 obtain ⟨i1,i2⟩:=K7 h hx ht.xe hm 4;rcases ZL H h hx hm ht with ⟨g1,g2,g3⟩|⟨g1,g2⟩
 ·unfold KF;rw [g2];exact OK H h sgP_ok AV (f+1) _ _ _ i1 A0 A0 g1 A0
 have g2:¬(EX s rr y).2.e=0:=g2.elim id λz=>absurd z.1 AV
 unfold KF;rw [EA g1];refine .inr ⟨g1,.inl ?_⟩;rw [GS,sgP_ok.err _ g2];exact g2
theorem kT (h:FrI s f fr) {x:Lx} {y:Rx} (hx:LxI s x) (hm:lxM s x≤f+1) (ht:TkX x y):Y8 5 (ED s fr (f+1) 5 (BX s fr 4 x).1 (BX s fr 4 x).2) (FH s rr (f+1) y):=by
 obtain ⟨i1,i2⟩:=K7 h hx ht.xe hm 4;obtain ⟨j1,j2⟩:=QI h 6 (f+1) (BX s fr 4 x).1 _ i1 A0;rw [JW h 5 6 rfl (f+1) _ _ i1 A0 A0];rcases dU H h hx hm ht with ⟨g1,g2,g3⟩|⟨g1,g2⟩
 ·unfold FH;rw [g2];exact OK H h sgS_ok AV (f+1) _ _ _ j1 A0 A0 g1 A0
 have g2:¬(KF s rr (f+1) y).2.e=0:=g2.elim id λz=>absurd z.1 AV
 unfold FH;rw [EA g1];refine .inr ⟨g1,.inl ?_⟩;rw [GS,sgS_ok.err _ g2];exact g2
theorem fV (h:FrI s f fr) {x:Lx} {y:Rx} (hx:LxI s x) (hm:lxM s x≤f+1) (ht:TkX x y):Y8 4 (ED s fr (f+1) 4 (BX s fr 4 x).1 (BX s fr 4 x).2) (KO s rr (f+1) y):=by
 obtain ⟨i1,i2⟩:=K7 h hx ht.xe hm 4;obtain ⟨j1,j2⟩:=QI h 5 (f+1) (BX s fr 4 x).1 _ i1 A0;rw [JW h 4 5 rfl (f+1) _ _ i1 A0 A0];have go:=kT H h hx hm ht;obtain ⟨r,hr⟩:∃r,ED s fr (f+1) 5 (BX s fr 4 x).1 (BX s fr 4 x).2=r:=⟨_,X⟩
 obtain ⟨q,hq⟩:∃q,FH s rr (f+1) y=q:=⟨_,X⟩
 rw [hr] at go j1 j2 ⊢
 unfold KO;rw [hq] at go ⊢
 rcases go with ⟨g1,g2,g3⟩|⟨g1,g2⟩
 ·by_cases h4:FL r.2.say=4
  ·have hs:¬((AU r.2.say).isNone=true∨FL r.2.say<4):=λz=>z.elim (λz=>by rw [IX (Id.1 z)] at h4;cases h4) (λz=>by omega)
   rw [P9 g1.xe hs,xC g1 h4];have hst:=HL j1 g1.xe (KE λz=>hs (.inl z));obtain ⟨h1,h2⟩:=W5 h j1 g1.xe (KE λz=>hs (.inl z)) A0;have hH:=H 5 (BI s r.2) (AQ s q.2) AV AV (P5 g1.xe g1.ye g1.at_) DU A0;unfold KA at h1 h2 ⊢
   rw [h4] at h1 h2 ⊢
   simp only at h1 h2 ⊢
   rcases hH with ⟨k1,k2,k3⟩|⟨k1,k2⟩
   ·by_cases h5:FL (fr 5 (BI s r.2)).2.say=4
    ·rw [if_pos ⟨trivial,h5⟩] at h1 h2 ⊢
     rw [EA (E9 AV)];refine .inr ⟨E9 AV,.inr ⟨Ab _,?_,?_⟩⟩
     ·rcases k1.tok with ⟨_,_,_,z⟩|⟨_,_,_,z⟩|⟨_,_,_,z⟩|⟨z,_,_,_⟩
      ·rw [z] at h5;cases h5
      ·rw [z] at h5;cases h5
      ·rw [z] at h5;cases h5
      exact z
     rcases k1.tok with ⟨_,_,_,z⟩|⟨_,_,_,z⟩|⟨_,_,_,z⟩|⟨_,_,_,z⟩
     ·rw [z] at h5;cases h5
     ·rw [z] at h5;cases h5
     ·rw [z] at h5;cases h5
     rw [←z];exact h5
    rw [if_neg (λz=>h5 z.2)] at h1 h2 ⊢
    have hlt:FL (fr 5 (BI s r.2)).2.say<4:=by omega
    obtain ⟨k,hk⟩:∃k,f=k+1:=⟨f-1,by have:=NO h1 k1.xe;omega⟩
    rw [hk,KV k1.xe (.inr hlt)];refine .inl ⟨k1,?_,hlt⟩
    show Xn.bin _ r.1 _=Xn.bin _ q.1 _
    rw [g2,k2]
   have h6:¬(if True∧FL (fr 5 (BI s r.2)).2.say=4 then (fr 5 (BI s r.2)).2.fail 4 (fr 5 (BI s r.2)).2.tat else (fr 5 (BI s r.2)).2).e=0:=by
    split
    ·exact E9 AV
    exact k1
   rw [EA h6];exact .inr ⟨h6,.inl (k2.elim id λz=>absurd z.1 AV)⟩
  have hlt:FL r.2.say<4:=by omega
  rw [KV g1.xe (.inr hlt),a0Z g1 hlt];exact .inl ⟨g1,g2,hlt⟩
 have g2:¬q.2.e=0:=g2.elim id λz=>absurd z.1 AV
 rw [EA g1,kX g2];exact .inr ⟨g1,.inl g2⟩
theorem lI (h:FrI s f fr) {x:Lx} {y:Rx} (hx:LxI s x) (hm:lxM s x≤f+1) (ht:TkX x y):Y8 3 (ED s fr (f+1) 3 (BX s fr 3 x).1 (BX s fr 3 x).2) (O4 s rr (f+1) y):=by
 have hp3:∀k,FL k<4→FL k<3:=λk hk=>by
  rcases JT k with hs|⟨q,hq,h1,h2⟩
  ·rw [IX hs];decide
  rw [←h1] at hk ⊢
  simp only [signTab,Ak,Ax,or_false] at hq
  rcases hq with rfl|rfl|rfl|rfl|rfl|rfl|rfl|rfl|rfl|rfl|rfl|rfl|rfl<;>first|decide|exact absurd hk AV
 unfold O4;rw [FD ht AV]
 by_cases h1:x.say=[110,111,116]
 ·rw [if_pos (decide_eq_true h1)];have hfp:BX s fr 3 x=LS s fr 3 3 x:=by unfold BX;rw [if_pos ⟨h1,Ab _⟩]
  have hst:=HL hx ht.xe (by rw [h1];decide);obtain ⟨i1,i2⟩:=K7 h hx ht.xe hm 3;rw [hfp] at i1 i2 ⊢
  unfold LS at i1 i2 ⊢
  rcases H 3 (BI s x) (AQ s y) AV AV (P5 ht.xe ht.ye ht.at_) DU A0 with ⟨g1,g2,g3⟩|⟨g1,g2⟩
  ·rw [KV g1.xe (.inr g3)];refine .inl ⟨g1,?_,g3⟩
   show Xn.un _ _=Xn.un _ _
   rw [g2]
  rw [EA g1];exact .inr ⟨g1,g2.imp id λz=>⟨by decide,z.2⟩⟩
 rw [if_neg (λz=>h1 (odt z))];have hfp:BX s fr 3 x=BX s fr 4 x:=fL h1;obtain ⟨i1,i2⟩:=K7 h hx ht.xe hm 4;rw [hfp,JW h 3 4 rfl (f+1) _ _ i1 A0 A0];rcases fV H h hx hm ht with ⟨g1,g2,g3⟩|⟨g1,g2⟩
 ·rw [KV g1.xe (.inr (hp3 _ g3))];exact .inl ⟨g1,g2,hp3 _ g3⟩
 rw [EA g1];exact .inr ⟨g1,g2.imp id λz=>⟨by decide,z.2⟩⟩
theorem m3 (h:FrI s f fr) {x:Lx} {y:Rx} (hx:LxI s x) (hm:lxM s x≤f+1) (ht:TkX x y):Y8 2 (ED s fr (f+1) 2 (BX s fr 3 x).1 (BX s fr 3 x).2) (PK s rr (f+1) y):=by
 obtain ⟨i1,i2⟩:=K7 h hx ht.xe hm 3;obtain ⟨j1,j2⟩:=QI h 3 (f+1) (BX s fr 3 x).1 _ i1 A0;rw [JW h 2 3 rfl (f+1) _ _ i1 A0 A0];unfold PK;rcases lI H h hx hm ht with ⟨g1,g2,g3⟩|⟨g1,g2⟩
 ·rw [g2];exact OK H h sgA_ok AV (f+1) _ _ _ j1 A0 A0 g1 A0
 have hn:sgA (O4 s rr (f+1) y).2=none:=g2.elim (sgA_ok.err _) λz=>sgA_ok.doom AV _ z.2.2
 rw [EA g1,GS,hn];exact .inr ⟨g1,g2.imp id λz=>⟨by decide,z.2⟩⟩
theorem a1u (h:FrI s f fr) {x:Lx} {y:Rx} (hx:LxI s x) (hm:lxM s x≤f+1) (ht:TkX x y):Y8 1 (ED s fr (f+1) 1 (BX s fr 3 x).1 (BX s fr 3 x).2) (rOr s rr (f+1) y):=by
 obtain ⟨i1,i2⟩:=K7 h hx ht.xe hm 3;obtain ⟨j1,j2⟩:=QI h 2 (f+1) (BX s fr 3 x).1 _ i1 A0;rw [JW h 1 2 rfl (f+1) _ _ i1 A0 A0];unfold rOr;rcases m3 H h hx hm ht with ⟨g1,g2,g3⟩|⟨g1,g2⟩
 ·rw [g2];exact OK H h sgO_ok AV (f+1) _ _ _ j1 A0 A0 g1 A0
 have hn:sgO (PK s rr (f+1) y).2=none:=g2.elim (sgO_ok.err _) λz=>sgO_ok.doom AV _ z.2.2
 rw [EA g1,GS,hn];exact .inr ⟨g1,g2.imp id λz=>⟨by decide,z.2⟩⟩
end
theorem IU {s:Kz} {rr:Nat→Rx→Xn × Rx} {line:Nat} {sg:Rx→Option UInt8} (k:Nat) {n:Xn} {y:Rx} (h:sg y=none):GS s rr line sg k n y=(n,y):=by
 cases k with
 | zero=>rfl
 | succ k=>rw [GS,h]
theorem rW {s:Kz} {rr:Nat→Rx→Xn × Rx} (k line:Nat) {y:Rx} (h:¬y.e=0):(iP s rr k line y).2=y:=by
 have h7:EX s rr y=(.zero,y):=by unfold EX;rw [M8 h,if_neg AV,if_pos h]
 have h6:KF s rr k y=(.zero,y):=by unfold KF;rw [h7];exact IU k (sgP_ok.err _ h)
 have h5:FH s rr k y=(.zero,y):=by unfold FH;rw [h6];exact IU k (sgS_ok.err _ h)
 have h4:KO s rr k y=(.zero,y):=by unfold KO;rw [h5];simp only [kX h]
 have h3:O4 s rr k y=(.zero,y):=by unfold O4;rw [M8 h,if_neg AV,h4]
 have h2:PK s rr k y=(.zero,y):=by unfold PK;rw [h3];exact IU k (sgA_ok.err _ h)
 have h1:rOr s rr k y=(.zero,y):=by unfold rOr;rw [h2];exact IU k (sgO_ok.err _ h)
 unfold iP;rw [h1,h2,h3,h4,h5,h6,h7]
 repeat' split
 all_goals rfl
theorem fD (s:Kz):∀(f line:Nat) (x:Lx) (y:Rx),1≤line→line≤7→a28 x y→LxI s x→lxM s x≤f→Y8 line (D3 s (f+1) line x) (DQ s (f+1) line y)
 | f,line,x,y,h1,h7,.inr ht,hx,hm=>by
  rw [lV ht.1,DQ];refine .inr ⟨ht.1,.inl ?_⟩;rw [rW _ _ ht.2];exact ht.2
 | 0,line,x,y,h1,h7,.inl ht,hx,hm=>by have:=NO hx ht.xe;omega
 | f+1,line,x,y,h1,h7,.inl ht,hx,hm=>by
  have H:=fD s f;have h:=XE s f;rw [fE ht.xe rfl,DQ];unfold iP
  by_cases e1:line=1
  ·subst e1;rw [if_pos rfl,U9 (line:=1) AV];exact a1u H h hx hm ht
  rw [if_neg e1]
  by_cases e2:line=2
  ·subst e2;rw [if_pos rfl,U9 (line:=2) AV];exact m3 H h hx hm ht
  rw [if_neg e2]
  by_cases e3:line=3
  ·subst e3;rw [if_pos rfl];exact lI H h hx hm ht
  rw [if_neg e3]
  by_cases e4:line=4
  ·subst e4;rw [if_pos rfl];exact fV H h hx hm ht
  rw [if_neg e4,bQ (line:=line) A0]
  by_cases e5:line=5
  ·subst e5;rw [if_pos rfl];exact kT H h hx hm ht
  rw [if_neg e5]
  by_cases e6:line=6
  ·subst e6;rw [if_pos rfl];exact dU H h hx hm ht
  rw [if_neg e6];have e7:line=7:=by omega
  subst e7;rcases ZL H h hx hm ht with ⟨g1,g2,g3⟩|⟨g1,g2⟩
  ·rw [KV g1.xe (.inr g3)];exact .inl ⟨g1,g2,g3⟩
  rw [EA g1];exact .inr ⟨g1,g2⟩
theorem WR (s:Kz):((CR s).2.2=0∧(CX s).2.2=0∧(CR s).1=(CX s).1)∨(¬(CR s).2.2=0∧¬(CX s).2.2=0):=by
 unfold CR CX
 by_cases h:256<s.length
 ·rw [if_pos h,if_pos h];exact .inr ⟨by decide,by decide⟩
 rw [if_neg h,if_neg h]
 simp only
 have go:Y8 1 (D3 s 258 1 (BI s lx0)) (DQ s 258 1 (AQ s rx0)):=fD s 257 1 (BI s lx0) (AQ s rx0) AV AV (P5 X X X) DU (Bb (bD _ _) A0);obtain ⟨r,hr⟩:∃r,D3 s 258 1 (BI s lx0)=r:=⟨_,X⟩
 obtain ⟨q,hq⟩:∃q,DQ s 258 1 (AQ s rx0)=q:=⟨_,X⟩
 rw [hr,hq] at go ⊢
 rcases go with ⟨g1,g2,g3⟩|⟨g1,g2⟩
 ·rcases g1.tok with ⟨k1,k2,_,_⟩|⟨k1,k2,_,_⟩|⟨k1,k2,_,_⟩|⟨k1,k2,_,_⟩
  ·rw [if_neg (show ¬r.2.fin=false from λz=>by rw [k2] at z;cases z),if_neg (show ¬(q.2.e=0∧¬q.2.kd=0) from λz=>z.2 k1),if_pos g1.xe,if_pos g1.ye];exact .inl ⟨X,X,g2⟩
  all_goals
   rw [if_pos k2,if_pos (show q.2.e=0∧¬q.2.kd=0 from ⟨g1.ye,by omega⟩),if_neg (E9 AV),if_neg (Rx.fail_e AV)];exact .inr ⟨E9 AV,Rx.fail_e AV⟩
 have a:¬(if r.2.fin=false then r.2.fail 4 r.2.tat else r.2).e=0:=by
  split
  ·exact E9 AV
  exact g1
 have b:¬(if q.2.e=0∧¬q.2.kd=0 then q.2.fail 4 q.2.tat else q.2).e=0:=by
  by_cases hz:q.2.e=0∧¬q.2.kd=0
  ·rw [if_pos hz];exact Rx.fail_e AV
  rw [if_neg hz];exact λhz2=>hz ⟨hz2,(g2.elim (λz=>absurd hz2 z) λz=>by rw [z.2.1];decide)⟩
 rw [if_neg a,if_neg b];exact .inr ⟨a,b⟩
end Go.Proofs.YtppmdnmjepkfaaaGreatDoor
