/- Lemmas. -/
import Derived.Test.YtppmdnmjepkfaaaGreatDoorYR21b
set_option maxHeartbeats 16000000
set_option maxRecDepth 100000
namespace Go.Proofs.YtppmdnmjepkfaaaGreatDoor
open Go.RowKit
open Decidable renaming decide→O
open Option renaming some→G,none→zx
open Bool renaming true→zz,false→zy
open Bool renaming false→zy
open Go.Proofs.Tryz renaming prog→zv
open Go renaming Calls→zt,reachBytes→zu
section
theorem QZ {p:El→Bool} {b:El→Option Kz}:∀(l:List El) (i:Nat),(∀x∈l,b x=if p x=zz then zx else G x.id)→ff b l=(ffN (λ_=>p) i l).map (·.id)
 | [],_,_=>rfl
 | x::r,i,h=>by
  rw [ff,h x (by simp),ffN]
  by_cases hp:p x=zz
  ·rw [Ac hp,Ac hp];exact QZ r (i+1) λy hy=>h y (by simp [hy])
  rw [Ae hp,Ae hp];rfl
theorem kE {p:Fl→Bool} {b:Fl→Option Kz}:∀(l:List Fl) (i:Nat),(∀x∈l,b x=if p x=zz then zx else G x.id)→ff b l=(ffN (λ_=>p) i l).map (·.id)
 | [],_,_=>rfl
 | x::r,i,h=>by
  rw [ff,h x (by simp),ffN]
  by_cases hp:p x=zz
  ·rw [Ac hp,Ac hp];exact kE r (i+1) λy hy=>h y (by simp [hy])
  rw [Ae hp,Ae hp];rfl
theorem GU {α:Type} {b c:Bool} {x y:α} (h:b = !c):(if b=zz then x else y)=if c=zz then y else x:=by subst h;cases c<;>rfl
theorem VN {α:Type} {f:α→Kz} {p:Nat→α→Bool} {b:List α→α→Option Kz} (l:List α) (h:∀(i:Nat) (x:α),l[i]?=G x→b (l.take i) x=if p i x=zz then zx else G (f x)):∀(k:Nat) (r:List α),l.drop k=r→ffp b (l.take k) r=(ffN p k r).map f
 | _,[],_=>rfl
 | k,x::r,hr=>by
  have hk:l[k]?=G x:=by
   have:=Bf (λz=>z[0]?) hr
   simpa using this
  have hd:l.drop (k+1)=r:=by
   have:=AH hk
   rw [hr] at this
   exact (List.cons.inj this).2.symm
  have ht:l.take (k+1)=l.take k++[x]:=by rw [Dl,hk];rfl
  rw [ffp,h k x hk,ffN]
  by_cases hp:p k x=zz
  ·rw [Ac hp,Ac hp];have ih:=VN l h (k+1) r hd;rw [ht] at ih
   exact ih
  rw [Ae hp,Ae hp];rfl
theorem dQ (els:List El):∀(n:Nat) (s:Kz),LM els n s=RR els n s
 | 0,_=>rfl
 | n+1,s=>by
  unfold LM RR
  split
  ·rfl
  rw [dQ els n]
  cases hx:AG els s with
  | none=>simp [zeroEl]
  | some x=>simp
theorem r6 (l:Kz):N5 l=RI l:=rfl
theorem xI {a b:Bool} (h:a=zz↔b=zz):a=b:=by cases a<;>cases b<;>simp_all
theorem vJ (x:El):TV x=YS x:=by
 obtain ⟨k,hk⟩:∃k,(x.kind.toNat:Int)=k:=⟨_,X⟩
 obtain ⟨v,hv⟩:∃v,(x.ev.toNat:Int)=v:=⟨_,X⟩
 have he:El.same (⟨[],[],x.kind,[],x.dflt,x.att,x.ev,x.ref,x.key,x.ticks,x.tries⟩:El) (⟨[],[],x.kind,[],[],[],0,[],[],0,x.tries⟩:El)=(O (x.dflt=[])&&(O (x.att=[])&&(O (v=0)&&(O (x.ref=[])&&(O (x.key=[])&&O (x.ticks=0)))))):=by
  unfold El.same;rw [hv]
  simp
 have he5:El.same (⟨[],[],x.kind,[],x.dflt,x.att,x.ev,x.ref,x.key,x.ticks,x.tries⟩:El) (⟨[],[],x.kind,[],x.dflt,[],0,[],[],0,0⟩:El)=(O (x.att=[])&&(O (v=0)&&(O (x.ref=[])&&(O (x.key=[])&&(O (x.ticks=0)&&O (x.tries=0)))))):=by
  unfold El.same;rw [hv]
  simp
 have he0:El.same (⟨[],[],x.kind,[],x.dflt,x.att,x.ev,x.ref,x.key,x.ticks,x.tries⟩:El) (⟨[],[],x.kind,[],[],[],0,[],[],0,0⟩:El)=(O (x.dflt=[])&&(O (x.att=[])&&(O (v=0)&&(O (x.ref=[])&&(O (x.key=[])&&(O (x.ticks=0)&&O (x.tries=0))))))):=by
  unfold El.same;rw [hv]
  simp
 unfold TV YS MY;rw [he,he5,he0,hk,hv];have t1:O (x.tries<(1:Int)) = !decide ((1:Int)≤x.tries):=by by_cases h:x.tries<1<;>simp [h]<;>omega
 have t2:O ((100:Int)<x.tries) = !decide (x.tries≤(100:Int)):=by by_cases h:x.tries≤100<;>simp [h]<;>omega
 rw [t1,t2]
 generalize O ((1:Int)≤x.tries)=R1
 generalize O (x.tries≤(100:Int))=R2
 generalize O (x.tries=(0:Int))=R0
 generalize O ((1:Int)≤x.ticks)=T1
 generalize O (x.ticks≤(1048576:Int))=T2
 generalize O (x.ticks=(0:Int))=T0
 generalize B5 x.ref=nr
 generalize B5 x.key=nk
 generalize O (x.dflt=[])=D
 generalize O (x.att=[])=A
 generalize O (x.ref=[])=R
 generalize O (x.key=[])=K
 generalize O (v=(0:Int))=V0
 generalize O (v=(1:Int))=V1
 generalize O (v=(2:Int))=V2
 generalize O (v=(3:Int))=V3
 clear he he5 he0 t1 t2
 by_cases h0:(O (k<1) || O (10<k))=zz
 ·rw [Ac h0,Ac h0]
 rw [Ae h0,Ae h0]
 by_cases h4:k=4
 ·subst h4;simp only [show O ((4:Int)=5)=zy from rfl,show O ((4:Int)=8)=zy from rfl,show O ((4:Int)=9)=zy from rfl]
  revert R1 R2 R0 T0 D A R K V0;clear hk h0 hv;decide +revert +kernel
 by_cases h5:k=5
 ·subst h5;simp only [show O ((5:Int)=4)=zy from rfl,show O ((5:Int)=8)=zy from rfl,show O ((5:Int)=9)=zy from rfl]
  clear hk h0 hv h4;decide +revert +kernel
 by_cases h8:k=8
 ·subst h8;simp only [show O ((8:Int)=4)=zy from rfl,show O ((8:Int)=5)=zy from rfl,show O ((8:Int)=9)=zy from rfl]
  cases V1<;>cases V2<;>cases V3<;>(simp only [if_true,if_false,Dm];clear hk h0 hv h4 h5;decide +revert +kernel)
 by_cases h9:k=9
 ·subst h9;simp only [show O ((9:Int)=4)=zy from rfl,show O ((9:Int)=5)=zy from rfl,show O ((9:Int)=8)=zy from rfl]
  cases V1<;>cases V2<;>cases V3<;>(simp only [if_true,if_false,Dm];clear hk h0 hv h4 h5 h8;decide +revert +kernel)
 simp only [Bb h4,Bb h5,Bb h8,Bb h9]
 clear hk h0 hv h4 h5 h8 h9;decide +revert +kernel
theorem r7 (m:Md):ZG m=ffE (W6 m) m.els:=by
 refine QZ m.els 0 λx _=>?_
 unfold aK W6;rw [dQ,vJ];exact GU (by cases RR m.els 4 x.inn<;>cases YS x<;>rfl)
theorem iR (m:Md):PI m=ffF (LL m) m.fls:=by
 refine kE m.fls 0 λx _=>?_
 unfold aJ LL;refine GU ?_
 generalize (AG m.els x.frm).isSome=a
 generalize (AG m.els x.tg).isSome=b
 generalize O (((AG m.els x.frm).getD zeroEl).inn=((AG m.els x.tg).getD zeroEl).inn)=c
 generalize O ((((AG m.els x.tg).getD zeroEl).kind.toNat:Int)=9)=d
 generalize O (x.frm=x.tg)=e
 decide +revert
theorem mK (l:List Fl) (k:Kz):(D7 l k).length=(E5 l k).length:=by
 induction l with
 | nil=>rfl
 | cons f r ih=>
  unfold D7 E5;rw [Db]
  by_cases h:f.tg=k
  ·rw [Ac h,Ac (by simpa using h),Al,Al,ih];rfl
  rw [Ae h,Ae (by simpa using h),ih];rfl
theorem S7 (l:List Fl) (k:Kz):BI l k=(BV l k).map (·.id):=by
 induction l with
 | nil=>rfl
 | cons f r ih=>
  unfold BI BV;rw [Db]
  by_cases h:f.frm=k
  ·rw [Ac h,Ac (by simpa using h),Cc,ih];rfl
  rw [Ae h,Ae (by simpa using h),ih];rfl
theorem fE (l:List Fl) (k:Kz):(BI l k).length=(BV l k).length:=by rw [S7,Br]
theorem vN (m:Md) (x:El):m.fls.all (O3 m x) = !((BV m.fls x.id).any (LY m)):=by
 have:∀l:List Fl,l.all (O3 m x) = !((BV l x.id).any (LY m)):=by
  intro l
  induction l with
  | nil=>rfl
  | cons f r ih=>
   rw [Dr,ih];unfold BV;rw [Db];unfold O3
   by_cases h:f.frm=x.id
   ·rw [Ac (by simpa using h),Ac (by simpa using h),Ec,Bool.not_or]
    congr 1
    unfold LY
    cases hx:AG m.els f.tg with
    | none=>simp [zeroEl]
    | some y=>rw [mK];simp only [Df,(LZ hx).2];cases O ((y.kind.toNat:Int)=8)<;>simp
   rw [Ae (by simpa using h),Ae (by simpa using h)];rfl
 exact this m.fls
theorem pK (m:Md):MU m=ffE (JA m) m.els:=by
 refine QZ m.els 0 λx _=>?_
 unfold MR JA;rw [mK,fE,vN]
 by_cases h1:(O ((x.kind.toNat:Int)=1) || O ((x.kind.toNat:Int)=9))=zz
 ·rw [Ac h1,Ac h1];exact GU rfl
 rw [Ae h1,Ae h1]
 by_cases h2:O ((x.kind.toNat:Int)=2)=zz
 ·rw [Ac h2,Ac h2];exact GU rfl
 rw [Ae h2,Ae h2]
 by_cases h5:(O ((x.kind.toNat:Int)=5) || O ((x.kind.toNat:Int)=6))=zz
 ·rw [Ac h5,Ac h5];exact GU rfl
 rw [Ae h5,Ae h5]
 by_cases h7:O ((x.kind.toNat:Int)=7)=zz
 ·rw [Ac h7,Ac h7];refine GU ?_
  generalize O (((E5 m.fls x.id).length:Int)=1)=a
  generalize O (2≤((BV m.fls x.id).length:Int))=b
  generalize (BV m.fls x.id).any (LY m)=c
  decide +revert
 rw [Ae h7,Ae h7];exact GU rfl
theorem gZ (t:Nat) (x:El) (l:List El) (k:Kz):cntK t (x::l) k=cntK t l k+(if x.inn=k∧x.kind.toNat=t then 1 else 0):=by
 unfold cntK;rw [Db]
 by_cases h:x.inn=k∧x.kind.toNat=t
 ·rw [Ac (by simpa using h),Ac h,Al]
 rw [Ae (by simpa using h),Ae h];rfl
theorem ZC (k:Kz):∀(l:List El) (a b:Nat),HY k a b l=(O (((a+cntK 1 l k:Nat):Int)=1)&&O (1≤((b+cntK 2 l k:Nat):Int)))
 | [],a,b=>rfl
 | x::l,a,b=>by
  rw [HY,ZC k l,gZ,gZ]
  have h1:(if (O (x.inn=k)&&O ((x.kind.toNat:Int)=1))=zz then a+1 else a)+cntK 1 l k=a+(cntK 1 l k+(if x.inn=k∧x.kind.toNat=1 then 1 else 0)):=by
   by_cases h:x.inn=k∧x.kind.toNat=1
   ·rw [Ac h,Ac (by rw [Bg h.1,Bg A0];rfl)];omega
   rw [Ae h,Ae (λz=>h ⟨odt (DU z).1,by have:=odt (DU z).2;omega⟩)];omega
  have h2:(if (O (x.inn=k)&&O ((x.kind.toNat:Int)=2))=zz then b+1 else b)+cntK 2 l k=b+(cntK 2 l k+(if x.inn=k∧x.kind.toNat=2 then 1 else 0)):=by
   by_cases h:x.inn=k∧x.kind.toNat=2
   ·rw [Ac h,Ac (by rw [Bg h.1,Bg A0];rfl)];omega
   rw [Ae h,Ae (λz=>h ⟨odt (DU z).1,by have:=odt (DU z).2;omega⟩)];omega
  rw [h1,h2]
theorem WL (m:Md) (k:Kz):scopeR m.els k=OI m k:=by
 unfold scopeR OI;rw [ZC,Cr,Cr]
theorem pO (m:Md):OV m=ZX m:=by
 unfold OV ZX ffS;rw [ffN,WL]
 have key:∀(l:List El) (i:Nat),ff (SS m) l=ffN (λ_=>OI m) i (GS l):=by
  intro l
  induction l with
  | nil=>intro _;rfl
  | cons x r ih=>
   intro i
   have e:SS m x=(if x.kind.toNat=10 then (if OI m x.id=zz then zx else G x.id) else zx):=by
    unfold SS;rw [WL]
    by_cases h:x.kind.toNat=10
    ·rw [Ac (Bg (show (x.kind.toNat:Int)=10 by omega)),Ac h];exact GU rfl
    rw [Ae (λz=>h (by have:=odt z;omega)),Ae h]
   have es:GS (x::r)=if x.kind.toNat=10 then x.id::GS r else GS r:=by
    unfold GS;rw [Db]
    by_cases h:x.kind.toNat=10
    ·rw [Ac (Bg h),Ac h];rfl
    rw [Ae (λz=>h (odt z)),Ae h]
   rw [ff,e,es]
   by_cases h:x.kind.toNat=10
   ·rw [Ac h,Ac h,ffN]
    cases OI m x.id with
    | false=>rfl
    | true=>simp only [if_true];exact ih _
   rw [Ae h,Ae h];exact ih i
 cases OI m [] with
 | false=>rfl
 | true=>simp only [Gs,Dm,if_false,if_true];exact key _ _
theorem ST (els:List El):∀(n:Nat) (y:El),EL els n y=HJ els n y
 | 0,_=>rfl
 | n+1,y=>by
  unfold EL HJ
  split
  ·rfl
  cases AG els y.inn with
  | none=>rfl
  | some x=>simp only;split<;>simp [ST els n]
theorem UX (els:List El) (id:Kz):C1 els id=AZ els id:=by
 unfold C1 AZ
 cases AG els id with
 | none=>rfl
 | some y=>exact ST els 64 y
theorem ZB (m:Md) (a:El):∀l:List El,l.all (p7 m.els a) = !(l.any (MG m a))
 | []=>rfl
 | y::r=>by
  rw [Dr,Ec,Bool.not_or,ZB m a r]
  congr 1
  unfold p7 MG;rw [UX]
  cases O ((y.kind.toNat:Int)=6) with
  | false=>simp
  | true=>
   simp only [Eu,if_true]
   induction AZ m.els y.id with
   | nil=>rfl
   | cons z t ih=>rw [Dr,Ec,Bool.not_or,ih];congr 2;exact decide_eq_decide.2 eq_comm
theorem iW (m:Md):PJ m=ffE (LN m) m.els:=by
 refine QZ m.els 0 λx _=>?_
 unfold YD LN;rw [ZB]
 by_cases h9:(!decide ((x.kind.toNat:Int)=9))=zz
 ·rw [Ac h9,Ac h9];rfl
 rw [Ae h9,Ae h9];refine GU ?_
 generalize ha:((AG m.els x.att).getD zeroEl)=a
 generalize (AG m.els x.att).isSome=b1
 generalize O (a.inn=x.inn)=b2
 generalize m.els.any (MG m a)=b3
 generalize O ((x.ev.toNat:Int)=1)=b4
 obtain ⟨k,hk⟩:∃k,(a.kind.toNat:Int)=k:=⟨_,X⟩
 rw [hk]
 clear ha h9 hk
 by_cases h3:k=3
 ·subst h3;simp only [show O ((3:Int)=4)=zy from rfl,show O ((3:Int)=10)=zy from rfl];decide +revert
 by_cases h4:k=4
 ·subst h4;simp only [show O ((4:Int)=3)=zy from rfl,show O ((4:Int)=10)=zy from rfl];clear h3;decide +revert
 by_cases h10:k=10
 ·subst h10;simp only [show O ((10:Int)=3)=zy from rfl,show O ((10:Int)=4)=zy from rfl];clear h3 h4;decide +revert
 simp only [Bb h3,Bb h4,Bb h10];clear h3 h4 h10;decide +revert
theorem kH (m:Md):PK m=ffE (MZ m) m.els:=by
 refine QZ m.els 0 λx _=>?_
 unfold aI MZ;exact GU X
theorem tX (m:Md):OE m=FN m:=by
 unfold OE FN QP
 by_cases h:(((((!(B5 m.id)) || (!(RI m.nm))) || (O (64<(m.els.length:Int)))) || (O (128<(m.fls.length:Int)))) || (O (16<(m.vars.length:Int))))=zz
 ·rw [Ac h];exact Ac h
 rw [Ae h];refine (Ae h).trans ?_
 have hmem:∀{α:Type} (f:α→Kz) (l:List α) (i:Nat) (k:Kz),(l.take i).all (λy => !decide (f y=k)) = !(O (k∈((l.take i).map f).reverse)):=by
  intro α f l i k
  induction l.take i with
  | nil=>simp
  | cons a t ih=>
   rw [Dr,ih]
   by_cases ha:f a=k
   ·simp [ha]
   simp [ha,Ne.symm ha]
 have hV:ffp Y9 [] m.vars=(ffN (pV m) 0 m.vars).map (·.name):=by
  refine VN (p:=pV m) m.vars (λi x hx=>?_) 0 m.vars X;unfold Y9 pV GI G0;rw [hmem];refine GU ?_;simp only [Cd]
  cases B5 x.name<;>cases O (chk x.v=0)<;>simp
 have hE:ffp (YB m) [] m.els=(ffN (pE m) 0 m.els).map (·.id):=by
  refine VN (p:=pE m) m.els (λi x hx=>?_) 0 m.els X;unfold YB pE GI G0;rw [hmem,r6];refine GU ?_;simp only [Bp,Au]
  by_cases h1:x.id∈((m.els.take i).map (λx=>x.id)).reverse<;>by_cases h2:x.id=m.id<;>cases B5 x.id<;>cases RI x.nm<;>simp_all
 have hF:ffp (YA m) [] m.fls=(ffN (pF m) 0 m.fls).map (·.id):=by
  refine VN (p:=pF m) m.fls (λi x hx=>?_) 0 m.fls X;unfold YA pF GI G0;rw [hmem];refine GU ?_
  have he:(AG m.els x.id).isSome=O (x.id∈(m.els.map (λx=>x.id)).reverse):=by
   induction m.els with
   | nil=>rfl
   | cons a t ih=>
    unfold AG
    by_cases ha:a.id=x.id
    ·rw [Ac ha];simp [ha]
    rw [Ae ha,ih];simp [Ne.symm ha]
  rw [he,Bc];simp only [Bp,Au]
  by_cases h1:x.id∈((m.fls.take i).map (λx=>x.id)).reverse<;>by_cases h2:x.id=m.id<;>by_cases h3:x.id∈(m.els.map (λx=>x.id)).reverse<;>cases B5 x.id<;>simp_all
 rw [hV,hE,hF]
 cases ffN (pV m) 0 m.vars with
 | some b=>rfl
 | none=>
  cases ffN (pE m) 0 m.els with
  | some b=>rfl
  | none=>rfl
def Hop (m:Md) (j k:Kz):Prop:=∃f∈m.fls,f.frm=j∧f.tg=k∧L0 m k=zz
inductive Way (m:Md):Kz→Kz→Prop
 | one {j k:Kz}:Hop m j k→Way m j k
 | more {j k l:Kz}:Way m j k→Hop m k l→Way m j l
theorem Way.cons {m:Md} {j k l:Kz} (h:Hop m j k) (w:Way m k l):Way m j l:=by
 induction w with
 | one h2=>exact .more (.one h) h2
 | more _ h2 ih=>exact .more ih h2
structure Seen (m:Md) (k:Kz) (s r:List Kz):Prop where
 keep:∀x∈s,x∈r
 way:∀x∈r,x∈s∨Way m k x
 out:∀x∈r,x∉s→∀y,Hop m x y→y∈r
 here:∀y,Hop m k y→y∈r
theorem NR {m:Md} {k:Kz} {N:Nat} {rc:Kz→List Kz→List Kz} (hrc:∀j s,JR m s<N→Seen m j s (rc j s)) (hle:∀j s,JR m s<N→JR m (rc j s)≤JR m s):∀(l:List Fl) (s:List Kz),(∀f∈l,f∈BV m.fls k)→JR m s≤N →
 (∀x∈s,x∈JT m rc l s)∧(∀x∈JT m rc l s,x∈s∨Way m k x)∧(∀x∈JT m rc l s,x∉s→∀y,Hop m x y→y∈JT m rc l s)∧(∀f∈l,L0 m f.tg=zz→f.tg∈JT m rc l s)
 | [],s,_,_=>⟨λ_ h=>h,λ_ h=>.inl h,λ_ h hn=>absurd h hn,λ_ h=>absurd h (by simp)⟩
 | f::r,s,hl,hN=>by
  have hf:=hl f (by simp);have hfm:f∈m.fls∧f.frm=k:=by simpa [BV] using hf
  rw [JT]
  split
  ·rename_i hc
   have hp:=(DU hc).1;have hns:f.tg∉s:=odf (CJ (DU hc).2);have hlt:=cR (s:=s) hf (Bb hns);have hS:=hrc f.tg (f.tg::s) (Ce hlt hN);have hL:=hle f.tg (f.tg::s) (Ce hlt hN);have hop:Hop m k f.tg:=⟨f,hfm.1,hfm.2,X,hp⟩;obtain ⟨a1,a2,a3,a4⟩:=NR hrc hle r (rc f.tg (f.tg::s)) (λx hx=>hl x (Ax _ hx)) A0;refine ⟨λx hx=>a1 x (hS.keep x (by simp [hx])),λx hx=>?_,λx hx hn y hy=>?_,λg hg hq=>?_⟩
   ·rcases a2 x hx with h|h
    ·rcases hS.way x h with h|h
     ·rcases Ao.1 h with h|h
      ·exact .inr (h▸.one hop)
      exact .inl h
     exact .inr (.cons hop h)
    exact .inr h
   ·by_cases h1:x∈rc f.tg (f.tg::s)
    ·by_cases h2:x=f.tg
     ·exact a1 y (hS.here y (h2▸hy))
     exact a1 y (hS.out x h1 (λz=>(Ao.1 z).elim h2 hn) y hy)
    exact a3 x hx h1 y hy
   rcases Ao.1 hg with rfl|hg
   ·exact a1 _ (hS.keep _ (by simp))
   exact a4 g hg hq
  rename_i hc
  obtain ⟨a1,a2,a3,a4⟩:=NR hrc hle r s (λx hx=>hl x (Ax _ hx)) hN;refine ⟨a1,a2,a3,λg hg hq=>?_⟩;rcases Ao.1 hg with rfl|hg
  ·rw [hq,Eu] at hc
   exact a1 _ (odt (BL (Cp.2 hc)))
  exact a4 g hg hq
theorem lV {m:Md} {k:Kz} {s r:List Kz} (h:(∀x∈s,x∈r)∧(∀x∈r,x∈s∨Way m k x)∧(∀x∈r,x∉s→∀y,Hop m x y→y∈r)∧(∀f∈BV m.fls k,L0 m f.tg=zz→f.tg∈r)):Seen m k s r where
 keep:=h.1
 way:=h.2.1
 out:=h.2.2.1
 here:=λy ⟨f,h1,h2,h3,h4⟩=>h3▸h.2.2.2 f (by simp [BV,h1,h2]) (h3▸h4)
theorem VZ (m:Md):∀(n:Nat) (k:Kz) (s:List Kz),JR m s≤n→Seen m k s (UE m n k s)
 | 0,k,s,h=>lV (NR (N:=0) (λ_ _ h=>A0) (λ_ _ h=>A0) _ s (λ_ hf=>hf) h)
 | n+1,k,s,h=>lV (NR (N:=n+1) (λj t ht=>VZ m n j t A0) (λj t ht=>W0 m n j t A0) _ s (λ_ hf=>hf) h)
theorem qQ (m:Md) (k x:Kz):x∈UE m m.fls.length k []↔Way m k x:=by
 have hS:=VZ m m.fls.length k [] (hZ m []);refine ⟨λh=>(hS.way x h).elim (λh=>absurd h (by simp)) id,λh=>?_⟩
 induction h with
 | one h=>exact hS.here _ h
 | more _ h2 ih=>exact hS.out _ ih (by simp) _ h2
theorem mA (m:Md) (k:Kz):MK ((AG m.els k).getD zeroEl)=L0 m k:=rfl
theorem zU {m:Md} {k:Kz} (h:L0 m k=zz):((AG m.els k).getD zeroEl).id=k:=by
 unfold L0 at h
 cases hx:AG m.els k with
 | none=>rw [hx] at h;exact absurd h AV
 | some x=>exact (LZ hx).2
theorem VK (m:Md) (x:El) (cur:Kz):∀(l:List Fl) (seen:List Kz),(∀f∈l,f∈m.fls) →
  match E3 m x cur l seen with
  | none=>Hop m cur x.id
  | some s=>(∃t,s=seen++t)∧(∀k∈s,k∈seen∨Hop m cur k)∧(∀f∈l,f.frm=cur→L0 m f.tg=zz→f.tg∈s∧¬f.tg=x.id)
 | [],seen,_=>⟨⟨[],by simp⟩,λk hk=>.inl hk,λ_ h=>absurd h (by simp)⟩
 | f::r,seen,hl=>by
  have hf:=hl f (by simp);have hr:∀g∈r,g∈m.fls:=λg hg=>hl g (by simp [hg])
  rw [E3,mA]
  by_cases h1:((!decide (f.frm=cur)) || (!(L0 m f.tg)))=zz
  ·rw [Ac h1];have ih:=VK m x cur r seen hr
   cases hs:E3 m x cur r seen with
   | none=>rw [hs] at ih;exact ih
   | some s=>
    rw [hs] at ih
    refine ⟨ih.1,ih.2.1,λg hg h2 h3=>?_⟩;rcases Ao.1 hg with rfl|hg
    ·rw [h3,Bg h2] at h1;cases h1
    exact ih.2.2 g hg h2 h3
  rw [Ae h1];have h1':=FL (Cp.2 h1);have hfr:f.frm=cur:=odt (BL h1'.1);have hp:L0 m f.tg=zz:=BL h1'.2;rw [zU hp]
  by_cases h2:f.tg=x.id
  ·rw [Ac (Bg h2)];exact ⟨f,hf,hfr,h2,h2▸hp⟩
  rw [Ae (λz=>h2 (odt z))]
  by_cases h3:(seen.any (λq=>O (q=f.tg)))=zy
  ·rw [Ac h3];have ih:=VK m x cur r (seen++[f.tg]) hr
   cases hs:E3 m x cur r (seen++[f.tg]) with
   | none=>rw [hs] at ih;exact ih
   | some s=>
    rw [hs] at ih
    obtain ⟨⟨t,ht⟩,ih2,ih3⟩:=ih;refine ⟨⟨f.tg::t,by rw [ht];simp⟩,λk hk=>?_,λg hg h4 h5=>?_⟩
    ·rcases ih2 k hk with h|h
     ·rcases Bp.1 h with h|h
      ·exact .inl h
      rw [Au] at h;exact .inr ⟨f,hf,hfr,h.symm,h▸hp⟩
     exact .inr h
    rcases Ao.1 hg with rfl|hg
    ·exact ⟨by rw [ht];simp,h2⟩
    exact ih3 g hg h4 h5
  rw [Ae h3]
  have hin:f.tg∈seen:=by
   obtain ⟨q,hq,h4⟩:=List.any_eq_true.1 (by simpa using h3:seen.any (λq=>O (q=f.tg))=zz);exact odt h4▸hq
  have ih:=VK m x cur r seen hr
  cases hs:E3 m x cur r seen with
  | none=>rw [hs] at ih;exact ih
  | some s=>
   rw [hs] at ih
   obtain ⟨⟨t,ht⟩,ih2,ih3⟩:=ih;refine ⟨⟨t,ht⟩,ih2,λg hg h4 h5=>?_⟩;rcases Ao.1 hg with rfl|hg
   ·exact ⟨by rw [ht];simp [hin],h2⟩
   exact ih3 g hg h4 h5
theorem NV (m:Md) (x:El) (cur:Kz):∀(l:List Fl) (seen s:List Kz),E3 m x cur l seen=G s→seen.Nodup→(∀k∈seen,k∈m.els.map (·.id))→s.Nodup∧∀k∈s,k∈m.els.map (·.id)
 | [],seen,s,h,h1,h2=>by rw [E3] at h;injection h with h;subst h;exact ⟨h1,h2⟩
 | f::r,seen,s,h,h1,h2=>by
  rw [E3] at h
  split at h
  ·exact NV m x cur r seen s h h1 h2
  rename_i hc
  split at h
  ·cases h
  split at h
  ·rename_i h3
   exact NV m x cur r _ s h (ML h1 h3) (RQ h2 (NY m.els (FL (Cp.2 hc)).2))
  exact NV m x cur r seen s h h1 h2
theorem n8 {m:Md} {x:Kz} {s:List Kz} (h:∀j∈s,∀k,Hop m j k→k∈s∧¬k=x) {j k:Kz} (w:Way m j k):j∈s→k∈s∧¬k=x:=by
 induction w with
 | one h1=>exact λhj=>h _ hj _ h1
 | more _ h2 ih=>exact λhj=>h _ (ih hj).1 _ h2
theorem lW (m:Md) (x:El):∀(n k:Nat) (seen:List Kz),seen.Nodup→(∀j∈seen,j∈m.els.map (·.id))→x.id∈seen→(∀j∈seen,j=x.id∨Way m x.id j)→k≤seen.length →
 (∀j∈seen.take k,∀l,Hop m j l→l∈seen∧¬l=x.id)→m.els.length<n+k→(IR m x n k seen=zz↔Way m x.id x.id)
 | 0,k,seen,hd,hs,_,_,hk,_,hn=>by
  have:=HF seen _ hd hs
  rw [Br] at this
  omega
 | n+1,k,seen,hd,hs,h0,hw,hk,hc,hn=>by
  rw [IR]
  cases hz:seen[k]? with
  | none=>
   have hkl:seen.length≤k:=List.getElem?_eq_none_iff.1 hz;have hke:k=seen.length:=A0
   rw [hke,Bc] at hc
   refine ⟨λh=>(by cases h),λh=>?_⟩;exact absurd X (n8 hc h h0).2
  | some cur=>
   have hst:=VK m x cur m.fls seen (λ_ h=>h);have hcm:cur∈seen:=Ah hz
   simp only
   cases hs2:E3 m x cur m.fls seen with
   | none=>
    rw [hs2] at hst
    have hst:Hop m cur x.id:=hst;refine ⟨λ_=>?_,λ_=>X⟩;rcases hw cur hcm with h|h
    ·rw [h] at hst;exact .one hst
    exact .more h hst
   | some s=>
    rw [hs2] at hst
    obtain ⟨⟨t,ht⟩,h2,h3⟩:=hst;obtain ⟨g1,g2⟩:=NV m x cur m.fls seen s hs2 hd hs;have hlt:=(An.1 hz).1;refine lW m x n (k+1) s g1 g2 (by rw [ht];simp [h0]) (λj hj=>?_) (by rw [ht,Am];omega) (λj hj l hop=>?_) A0
    ·rcases h2 j hj with h|h
     ·exact hw j h
     rcases hw cur hcm with h4|h4
     ·exact .inr (h4▸.one h)
     exact .inr (.more h4 h)
    have htk:s.take (k+1)=seen.take k++[cur]:=by
     rw [ht,List.take_append_of_le_length A0,Dl,hz];rfl
    rw [htk] at hj
    rcases Bp.1 hj with hj|hj
    ·obtain ⟨a,b⟩:=hc j hj l hop;exact ⟨by rw [ht];simp [a],b⟩
    rw [Au] at hj
    obtain ⟨f,f1,f2,f3,f4⟩:=hop;subst f3;exact h3 f f1 (f2.trans hj) f4
theorem oL {m:Md} (hid:(m.els.map (·.id)).Nodup):TH m=ffE (fI m) m.els:=by
 refine QZ m.els 0 λx hx=>?_
 have hx':x.id∈m.els.map (·.id):=Cq.2 ⟨x,hx,X⟩
 have hf:AG m.els x.id=G x:=by
  have:∀l:List El,(l.map (·.id)).Nodup→x∈l→AG l x.id=G x:=by
   intro l
   induction l with
   | nil=>intro _ h;cases h
   | cons a t ih=>
    intro hd h;rw [Cc,Gg] at hd
    unfold AG;rcases Ao.1 h with rfl|h
    ·rw [Ac rfl]
    rw [Ae (λz=>hd.1 (Cq.2 ⟨x,h,z.symm⟩)),ih hd.2 h]
  exact this m.els hid hx
 have hp:MK x=L0 m x.id:=by rw [←mA,hf];rfl
 have hrun:=lW m x (m.els.length+1) 0 [x.id] (by simp) (by intro j hj;rw [Au] at hj;rw [hj];exact hx') (by simp) (λj hj=>.inl (Au.1 hj)) (Aj _) (λj hj=>absurd hj (by simp)) A0;unfold SR fI;rw [hp]
 by_cases h1:(!(L0 m x.id))=zz
 ·rw [Ac h1,Ac h1];rfl
 rw [Ae h1,Ae h1];refine GU ?_;rw [Gk];refine xI ?_;rw [hrun,decide_eq_true_eq,qQ]
theorem wE {p:El→Bool}:∀{l:List El},ffE p l=zx→∀x∈l,p x=zz:=by
 have key:∀(l:List El) (i:Nat),ffN (λ_=>p) i l=zx→∀x∈l,p x=zz:=by
  intro l
  induction l with
  | nil=>intro _ _ x hx;cases hx
  | cons a l ih=>
   intro i h x hx;rw [ffN] at h
   by_cases hp:p a=zz
   ·rw [Ac hp] at h
    rcases Ao.1 hx with rfl|hx
    ·exact hp
    exact ih _ h x hx
   rw [Ae hp] at h;cases h
 intro l h;refine key l 0 ?_;unfold ffE at h
 cases hf:ffN (λ_=>p) 0 l with
 | none=>rfl
 | some y=>rw [hf] at h;cases h
theorem gN {α:Type} {p:Nat→α→Bool}:∀{l:List α} {i:Nat},ffN p i l=zx→∀(j:Nat) (x:α),l[j]?=G x→p (i+j) x=zz
 | [],_,_,j,x,hx=>by simp at hx
 | a::l,i,h,j,x,hx=>by
  rw [ffN] at h
  by_cases hp:p i a=zz
  ·rw [Ac hp] at h
   cases j with
   | zero=>simp only [Ak,Ai] at hx;subst hx;exact hp
   | succ j=>
    have:=gN h j x (by simpa using hx)
    rwa [show i+1+j=i+(j+1) by omega] at this
  rw [Ae hp] at h;cases h
theorem oI {m:Md} (h:FN m=zx):(m.els.map (·.id)).Nodup:=by
 unfold FN at h
 split at h
 ·cases h
 split at h
 ·cases h
 split at h
 ·cases h
 rename_i hE
 have key:=gN hE;rw [List.Nodup,Fi];intro i j hi hj hij;rw [Br] at hi hj
 rw [Ih,Ih];have h1:=key j m.els[j] (Av hj);unfold pE GI G0 at h1
 have h2:=odf (CJ (DU (DU h1).1).2);intro he;refine h2 (Bp.2 (.inl (List.mem_reverse.2 (Cq.2 ⟨m.els[i],?_,he⟩))));rw [Cr];exact Ah (i:=i) (by rw [Cj hij,Av hi])
theorem kA (vars:List Bd) (s:Kz):TW vars s = !(((!decide ((D0 s).2.2=(0:Int))) || (!decide ((I9 (D0 s).1 vars).2=(0:Int)))) || (!decide (((I9 (D0 s).1 vars).1.toNat:Int)=2))):=by
 unfold TW;rcases X2 s with ⟨h1,h2,h3⟩|⟨h1,h2⟩
 ·rw [h3,h1,h2];simp
 rw [Bb h1,Bb h2];simp
theorem sI {m:Md} (h4:ffE (JA m) m.els=zx):S4 m=YN m:=by
 have hA:ff (PA m) m.els=ffE (KK m) m.els:=by
  refine QZ m.els 0 λx hx=>?_
  have hf:=wE h4 x hx;unfold PA KK
  by_cases h5:(!decide ((x.kind.toNat:Int)=5))=zz
  ·rw [Ac h5,Ac h5];rfl
  rw [Ae h5,Ae h5];have hk:(x.kind.toNat:Int)=5:=odt (BL (Cp.2 h5))
  have hl:1≤(BV m.fls x.id).length:=by
   unfold JA at hf
   rw [hk,Ae AV,Ae AV,Ac AV] at hf
   have:=odt (DU hf).2
   omega
  rw [S7,Br,Jj]
  by_cases h1:(BV m.fls x.id).length=1
  ·rw [h1]
   by_cases hd:x.dflt=[]<;>simp [hd]
  have h1':¬((BV m.fls x.id).length:Int)=1:=A0
  have h2':(1:Int)<((BV m.fls x.id).length:Int):=A0
  rw [Bb h1',Bg h2',Fw,Gc,Eu,Ae (show ¬zy=zz by decide)];exact GU X
 have hB:ff (O8 m) m.fls=ffF (N8 m) m.fls:=by
  refine kE m.fls 0 λx hx=>?_
  unfold O8 N8
  have hn:(((O ((((AG m.els x.frm).getD zeroEl).kind.toNat:Int)=5))&&(O (1<((BI m.fls ((AG m.els x.frm).getD zeroEl).id).length:Int))))&&(!decide (((AG m.els x.frm).getD zeroEl).dflt=x.id)))=(((O ((((AG m.els x.frm).getD zeroEl).kind.toNat:Int)=5))&&(O (1<((BV m.fls x.frm).length:Int))))&&(!decide (((AG m.els x.frm).getD zeroEl).dflt=x.id))):=by
   cases hy:AG m.els x.frm with
   | none=>simp [zeroEl]
   | some y=>rw [fE];simp only [Df,(LZ hy).2]
  rw [hn,kA]
  generalize (((O ((((AG m.els x.frm).getD zeroEl).kind.toNat:Int)=5))&&(O (1<((BV m.fls x.frm).length:Int))))&&(!decide (((AG m.els x.frm).getD zeroEl).dflt=x.id)))=N
  generalize O (x.cond=[])=C
  generalize (((!decide ((D0 x.cond).2.2=(0:Int))) || (!decide ((I9 (D0 x.cond).1 m.vars).2=(0:Int)))) || (!decide (((I9 (D0 x.cond).1 m.vars).1.toNat:Int)=2)))=G'
  cases N<;>cases C<;>cases G'<;>rfl
 unfold S4 YN;rw [hA,hB]
 cases ffE (KK m) m.els<;>rfl
theorem tG (m:Md):Q4 m=LR m:=by
 unfold Q4 LR V7 SQ;rw [tX,r7,iR,pK,pO,iW,kH]
 cases h1:FN m with
 | some k=>rfl
 | none=>
  cases h4:ffE (JA m) m.els with
  | some k=>
   cases ffE (W6 m) m.els with
   | some j=>rfl
   | none=>
    cases ffF (LL m) m.fls with
    | some j=>rfl
    | none=>rfl
  | none=>rw [sI h4,oL (oI h1)]
section
theorem fO (m:Md):jT m=HC m:=by
 unfold jT HC;rw [tG]
 by_cases h:(LR m).2.2=0
 ·have R:=m1 h
  have hc:m.fls.all K4=zz:=Cu.2 λy hy=>by
   have h6:=R.six2 y hy;unfold N8 at h6
   unfold K4
   split
   ·rename_i hn
    split at h6
    ·have h7:TW m.vars y.cond=zz:=by simpa [hn] using h6
     unfold TW at h7
     simp only [Bn,decide_eq_true_eq] at h7
     simp [h7.1.1]
    simp only [decide_eq_true_eq] at h6
    simp [h6] at hn
   rfl
  rw [hc,h];rfl
 simp [h]
theorem a0o (l:List Fl) (k:Kz):D7 l k=(E5 l k).map (λu:Fl=>u.id):=by
 induction l with
 | nil=>rfl
 | cons f r ih=>
  unfold D7 E5;rw [Db]
  by_cases h:f.tg=k
  ·rw [Ac h,Ac (by simpa using h),Cc,ih];rfl
  rw [Ae h,Ae (by simpa using h),ih];rfl
theorem wC {l:List Fl} {k:Kz} {x:Fl} (h:EU l k=G x):x∈l∧x.id=k:=by
 induction l with
 | nil=>cases h
 | cons y r ih=>
  unfold EU at h
  split at h
  ·rename_i hy
   injection h with h;subst h;exact ⟨Bi,hy⟩
  exact ⟨Ax _ (ih h).1,(ih h).2⟩
theorem wB {l:List Fl} {k:Kz} (h:EU l k=zx):∀x∈l,x.id≠k:=by
 induction l with
 | nil=>intro x hx;cases hx
 | cons y r ih=>
  unfold EU at h
  split at h
  ·cases h
  rename_i hy
  intro x hx;rcases Ao.1 hx with rfl|hx
  ·exact hy
  exact ih h x hx
theorem kJ {l:List El} {k:Kz} (h:AG l k=zx):∀x∈l,x.id≠k:=by
 induction l with
 | nil=>intro x hx;cases hx
 | cons y r ih=>
  unfold AG at h
  split at h
  ·cases h
  rename_i hy
  intro x hx;rcases Ao.1 hx with rfl|hx
  ·exact hy
  exact ih h x hx
section
variable {m:Md} {c:CrA} (R:Rl m) (Z:Cz m c)
include R Z
theorem zR (k:Kz):(AG m.els k).getD zeroEl=c.atf k∧(AG m.els k).isSome=c.isA k:=by
 rw [Z.eA,Z.eB]
 cases h:AG m.els k with
 | some x=>obtain ⟨hx,rfl⟩:=XT h;exact ⟨(R.at_mem hx).symm,(R.isA_mem hx).symm⟩
 | none=>have:=YG (m:=m) (kJ h);exact ⟨this.1.symm,this.2.1.symm⟩
theorem a2c (k:Kz):(EU m.fls k).getD zeroFl=c.flf k∧(EU m.fls k).isSome=c.isF k:=by
 rw [Z.eL,Z.eM]
 cases h:EU m.fls k with
 | some x=>obtain ⟨hx,rfl⟩:=wC h;exact ⟨(R.fl_mem hx).symm,(R.isF_mem hx).symm⟩
 | none=>have:=a3r (m:=m) (wB h);exact ⟨this.1.symm,this.2.symm⟩
theorem a2a {k:Kz} (h:c.isA k=zz):BI m.fls k=c.outs k:=by
 rw [Z.eB] at h
 obtain ⟨x,hx,rfl⟩:=a2w h;rw [VQ R Z hx,S7]
theorem a3c {x:El} (hx:x∈m.els):D7 m.fls x.id=c.ins x.id:=by
 rw [wL R Z hx,a0o]
end
theorem XM (m:Md) (id:Kz):∀l:List Fl,HD m.els id l=SG m id l
 | []=>rfl
 | u::r=>by
  unfold HD SG;rw [XM m id r]
  by_cases h:u.tg=id<;>simp [h]
theorem pI (m:Md) (id:Kz):(UQ m id).isSome=(QC m id).2:=by
 unfold UQ QC
 split
 ·rfl
 rw [XM]
 cases SG m id m.fls<;>rfl
theorem cV (m:Md) (id:Kz):B6 m.els id=DF m id:=by
 unfold DF
 generalize m.els=l
 induction l with
 | nil=>rfl
 | cons x r ih=>
  unfold B6
  split
  ·rename_i h
   rw [Db,Ac h,Cc,ih]
  rename_i h
  rw [Db,Ae h,ih]
theorem nC : ∀(l v:List Bd),UF l v=J0 l v:=by
 intro l v;unfold UF
 split
 ·rename_i h
  refine (TA λe=>?_).symm;rw [e] at h;simp at h
 rename_i h
 have hl:l.length=v.length:=by
  have:=odt (BL (Cp.2 h))
  omega
 clear h
 induction l generalizing v with
 | nil=>
  cases v with
  | nil=>rfl
  | cons b s=>simp at hl
 | cons a r ih=>
  cases v with
  | nil=>simp at hl
  | cons b s=>
   have:=ih s (by simpa using hl)
   unfold UG J0 W3
   by_cases h1:a.name=b.name<;>by_cases h2:a.v.kind.toNat=b.v.kind.toNat<;>by_cases h3:chk a.v=0<;>simp_all
section
variable {m:Md} {c:CrA} (R:Rl m) (Z:Cz m c)
include R Z
theorem a2b (k:Kz):((O (((c.atf k).kind.toNat:Int)=5))&&(O (1<((BI m.fls (c.atf k).id).length:Int))))=((O (((c.atf k).kind.toNat:Int)=5))&&(O (1<((c.outs (c.atf k).id).length:Int)))):=by
 rcases iF m k with ⟨x,hx,rfl⟩|h
 ·rw [aE R Z hx,VQ R Z hx,S7]
 rw [Z.eA,(YG h).1];rfl
theorem X0 (t:Tk):IY m t=HQ m c t:=by
 have ha:∀k,(AG m.els k).getD zeroEl=c.atf k:=λk=>(zR R Z k).1
 have hb:∀k,(AG m.els k).isSome=c.isA k:=λk=>(zR R Z k).2
 have hf:∀k,(EU m.fls k).getD zeroFl=c.flf k:=λk=>(a2c R Z k).1
 have hg:∀k,(EU m.fls k).isSome=c.isF k:=λk=>(a2c R Z k).2
 unfold IY HQ;simp only [ha,hb,hf,hg,pI,a2b R Z]
 by_cases hl:t.loc=[]
 ·have s1:Tk.same t ⟨t.id,[],t.on,0,0,[],0,1,91⟩=(O (t.born=(0:Int))&&(O (t.tries=(0:Int))&&(O (t.worker=[])&&(O (t.until_=(0:Int))&&(O ((t.inc.toNat:Int)=1)&&O (t.err=(91:Int))))))):=by simp [Tk.same,hl]
  have s0:Tk.same t ⟨t.id,[],t.on,0,0,[],0,0,0⟩=(O (t.born=(0:Int))&&(O (t.tries=(0:Int))&&(O (t.worker=[])&&(O (t.until_=(0:Int))&&(O ((t.inc.toNat:Int)=0)&&O (t.err=(0:Int))))))):=by simp [Tk.same,hl]
  have hd:O (t.loc=[])=zz:=by simpa using hl
  rw [s1,s0,hd,Ac rfl,Ac rfl]
  generalize ((O (((c.atf (c.flf t.on).tg).kind.toNat:Int)=5))&&(O (1<((c.outs (c.atf (c.flf t.on).tg).id).length:Int))))=a1
  generalize O (((c.atf (c.flf t.on).tg).kind.toNat:Int)=6)=a2
  generalize c.isF t.on=a3
  generalize O (t.born=(0:Int))=a4
  generalize O (t.tries=(0:Int))=a5
  generalize O (t.worker=[])=a6
  generalize O (t.until_=(0:Int))=a7
  generalize O ((t.inc.toNat:Int)=1)=a8
  generalize O (t.err=(91:Int))=a9
  generalize O ((t.inc.toNat:Int)=0)=a10
  generalize O (t.err=(0:Int))=a11
  cases a1<;>cases a2<;>cases a3<;>cases a4<;>cases a5<;>cases a6<;>cases a7<;>simp
 have s2:Tk.same t ⟨t.id,t.loc,[],t.born,t.tries,[],0,2,0⟩=(O (t.on=[])&&(O (t.worker=[])&&(O (t.until_=(0:Int))&&(O ((t.inc.toNat:Int)=2)&&O (t.err=(0:Int)))))):=by simp [Tk.same]
 have s3:Tk.same t ⟨t.id,t.loc,[],t.born,t.tries,t.worker,t.until_,0,0⟩=(O (t.on=[])&&(O ((t.inc.toNat:Int)=0)&&O (t.err=(0:Int)))):=by simp [Tk.same]
 have s4:Tk.same t ⟨t.id,t.loc,[],t.born,0,[],0,0,0⟩=(O (t.on=[])&&(O (t.tries=(0:Int))&&(O (t.worker=[])&&(O (t.until_=(0:Int))&&(O ((t.inc.toNat:Int)=0)&&O (t.err=(0:Int))))))):=by simp [Tk.same]
 have t1:O ((0:Int)<t.tries)=(O ((0:Int)≤t.tries) && !decide (t.tries=(0:Int))):=by by_cases h:t.tries=0<;>by_cases h2:0≤t.tries<;>simp [h,h2]<;>omega
 have t2:O (t.tries=(0:Int))=zz→O ((0:Int)≤t.tries)=zz∧O (t.tries≤(100:Int))=zz:=λh=>by have:=odt h;rw [this];decide
 have hd:O (t.loc=[])=zy:=by simpa using hl
 rw [s2,s3,s4,t1,hd,Ae Gm,Ae Gm]
 revert t2
 generalize O (((c.atf t.loc).kind.toNat:Int)=4)=a1
 generalize O (((c.atf t.loc).kind.toNat:Int)=8)=a2
 generalize ((O (((c.atf t.loc).kind.toNat:Int)=3)) || (O (((c.atf t.loc).kind.toNat:Int)=7)))=a3
 generalize c.isA t.loc=a4
 generalize O (t.on=[])=a5
 generalize O (t.tries=(0:Int))=a6
 generalize O (t.worker=[])=a7
 generalize O (t.until_=(0:Int))=a8
 generalize O ((t.inc.toNat:Int)=2)=a9
 generalize O (t.err=(0:Int))=a10
 generalize O ((t.inc.toNat:Int)=0)=a11
 generalize O ((0:Int)≤t.tries)=a12
 generalize O (t.tries≤(100:Int))=a13
 generalize (QC m t.loc).2=a14
 intro t2
 cases a1<;>cases a2<;>cases a4<;>cases a5<;>cases a6<;>cases a10<;>cases a7<;>cases a8<;>cases a9<;>first|(simp_all;done)|(simp_all;cases a11<;>cases a12<;>cases a13<;>rfl)
theorem n9 (t:Tk):FR m t=EE m c t:=by
 unfold FR EE
 split
 ·rfl
 have hp:eW m t=bL c t:=by
  unfold eW bL;rw [(zR R Z t.loc).1]
  split
  ·rfl
  split
  ·rename_i h7
   have hA:c.isA t.loc=zz:=by
    rcases iF m t.loc with ⟨x,hx,he⟩|h
    ·rw [←he,Z.eB];exact R.isA_mem hx
    rw [Z.eA,(YG h).1] at h7;simp [zeroEl] at h7
   rw [a2a R Z hA];exact Fm λk _=>by rw [(a2c R Z k).1]
  rfl
 have hB:B6 m.els=DF m:=funext λk=>cV m k
 rw [hp,hB,UX,Ej,Fv,Ev,Cd,Cg]
end
theorem YF (nm:Kz):∀(l:List Bd) (j:Nat),EK l nm=(ffN (λ(_:Nat) (b:Bd) => !(O (b.name=nm))) j l).map (·.v)
 | [],_=>rfl
 | x::r,j=>by
  unfold EK ffN
  by_cases h:x.name=nm
  ·rw [Ac h,Ae (by simp [h])];rfl
  rw [Ae h,Ac (by simp [h])];exact YF nm r (j+1)
section
variable {m:Md} {c:CrA} (R:Rl m) (Z:Cz m c)
include R Z
theorem YX {t:Tk} {k:Kz} (hk:k∈EE m c t) (vars:List Bd):HN vars t.born ((AG m.els k).getD zeroEl)=HA c k t.born vars:=by
 obtain ⟨x,hx,hi,ha⟩:=(W2 R Z (.inl hk)).2;have hf:∀nm,EK vars nm=YT vars nm:=λnm=>YF nm vars 0
 rw [(zR R Z k).1,ha];unfold HN HA kK;rw [ha,hf,hi]
 by_cases h1:(x.ev.toNat:Int)=1
 ·have h2:¬(x.ev.toNat:Int)=2:=A0
  simp [h1]
 simp [h1]
theorem YW {t:Tk} (vars:List Bd):∀l:List Kz,(∀k∈l,k∈EE m c t)→QG m t vars l=W1 c t vars l
 | [],_=>rfl
 | k::r,h=>by
  unfold QG W1;rw [YX R Z (h k Bi) vars,YW vars r λz hz=>h z (Ax _ hz)]
theorem iL (t:Tk) (vars:List Bd):GK m vars t=DE m c t vars:=by
 unfold GK DE;rw [X0 R Z,n9 R Z,YW R Z vars _ λk hk=>hk]
 split
 ·rfl
 have:(EE m c t).map (λk=>(HN vars t.born ((AG m.els k).getD zeroEl)).1)=(EE m c t).map (λk=>(HA c k t.born vars).1):=Fm λk hk=>by rw [YX R Z hk]
 rw [this];rfl
end
section
variable {m:Md} {c:CrA} (R:Rl m) (Z:Cz m c)
include R Z
theorem rC (i:In) (next k:Int) (q:Nat) (y:Tk):(if RJ m i next k q y=zz then zy else if (((O (y.worker=[]))&&(!decide (y.until_=(0:Int)))) || ((!decide (y.worker=[]))&&(((!(B5 y.worker)) || (O (y.until_<(0:Int)))) || (O ((k+(1048576:Int))<y.until_)))))=zz then zy else zz)=N1 m c i next k zz q y:=by
 have n1:∀a b:Int,O (a<b) = !decide (b≤a):=λa b=>by by_cases h:a<b<;>simp [h]<;>omega
 unfold RJ N1 OR;rw [X0 R Z];simp only [n1];have hq:O ((q:Int)≤0)=O ((q:Int)=0):=by by_cases h:(q:Int)=0<;>simp [h]<;>omega
 have hw:O (y.worker=[])=zz→B5 y.worker=zy:=λh=>by rw [odt h];rfl
 rw [hq]
 revert hw
 generalize O ((q:Int)=0)=a1
 generalize O (y.id≤bM i q)=a2
 generalize O ((1:Int)≤y.id)=a3
 generalize O (y.id≤next)=a4
 generalize O (y.id=i.id)=a5
 generalize HQ m c y=a6
 generalize O ((0:Int)≤y.born)=a7
 generalize O (y.born≤k)=a8
 generalize O (y.worker=[])=a9
 generalize O (y.until_=(0:Int))=a10
 generalize B5 y.worker=a11
 generalize O ((0:Int)≤y.until_)=a12
 generalize O (y.until_≤k+1048576)=a13
 intro hw
 cases a3
 ·rfl
 cases a4
 ·rfl
 cases a5
 ·cases a1<;>cases a2<;>cases a6<;>first|rfl|(cases a7<;>cases a8<;>first|rfl|(cases a9<;>cases a10<;>cases a11<;>cases a12<;>cases a13<;>first|rfl|exact absurd (hw rfl) AV))
 rfl
omit R Z in
theorem wX (i:In) (next k:Int) (b:Bool) (q:Nat) (y:Tk):N1 m c i next k b q y=(b&&N1 m c i next k zz q y):=by
 cases b
 ·rfl
 rfl
theorem Z1 (i:In) (next k:Int) (b:Bool):∀(l pre:List Tk),pre++l=i.toks→XY m c i next k b i.toks.length=(XY m c i next k b pre.length&&TB m i next k pre.length l)
 | [],pre,h=>by
  rw [←h,Cd,TB,Iz]
 | y::r,pre,h=>by
  have ih:=Z1 i next k b r (pre++[y]) (by rw [Cg];exact h);have hy:i.toks[pre.length]?=G y:=by rw [←h,Ck (Af _),Gi];rfl
  rw [ih,Am,He,XY,hy,TB]
  show (N1 m c i next k (XY m c i next k b pre.length) pre.length y&&_)=_
  rw [wX,Ef]
  congr 1
  rw [←rC R Z]
  split
  ·rfl
  split<;>simp
theorem gS (i:In):∀l:List El,(∀x∈l,x∈m.els)→elL m i l=l.all (λx => !(kL c i x))
 | [],_=>rfl
 | x::r,h=>by
  rw [elL,Dr,gS i r λy hy=>h y (Ax _ hy),a3c R Z (h x Bi)];unfold kL
  by_cases h6:(x.kind.toNat:Int)=6
  ·have ha:(!(List.any (c.ins x.id) (λf => !(onP i.toks f))))=(c.ins x.id).all (λf=>i.toks.any (λt=>O (t.on=f))):=by
    rw [List.not_any_eq_all_not];exact Bf _ (funext λf=>by rw [Gk];rfl)
   rw [Bg h6,ha]
   generalize (c.ins x.id).all (λf=>i.toks.any (λt=>O (t.on=f)))=b
   generalize r.all _=d
   cases b<;>cases d<;>rfl
  rw [Bb h6]
  generalize (c.ins x.id).all (λf=>i.toks.any (λt=>O (t.on=f)))=b
  generalize r.all _=d
  cases b<;>cases d<;>rfl
theorem oZ (i:In) (next k:Int):KY m i next k=IE m c i next k:=by
 have h1:KY m i next k=(Q5 m i next k&&(TB m i next k 0 i.toks&&elL m i m.els)):=by
  unfold KY Q5 M0;rw [nC]
  generalize (TB m i next k 0 i.toks&&elL m i m.els)=Xx
  generalize J0 i.vars m.vars=v
  have n1:∀a b:Int,O (a<b) = !decide (b≤a):=λa b=>by by_cases h:a<b<;>simp [h]<;>omega
  have hn:O ((i.toks.length:Int)=0)=O ((i.toks.length:Int)≤0):=by by_cases h:(i.toks.length:Int)=0<;>simp [h]
  have hs:((!decide (1≤(i.st.toNat:Int))) || (!decide ((i.st.toNat:Int)≤3))) = !(O ((i.st.toNat:Int)=1) || (O ((i.st.toNat:Int)=2) || O ((i.st.toNat:Int)=3))):=by
   by_cases a:(i.st.toNat:Int)=1
   ·simp [a]
   by_cases b:(i.st.toNat:Int)=2
   ·simp [b]
   by_cases d:(i.st.toNat:Int)=3
   ·simp [d]
   simp only [Bb a,Bb b,Bb d]
   by_cases e:(1:Int)≤(i.st.toNat:Int)
   ·simp only [Bg e,Bb (show ¬(i.st.toNat:Int)≤3 by omega)];rfl
   simp only [Bb e];rfl
  have h12:O ((i.st.toNat:Int)=1)=zz→O ((i.st.toNat:Int)=2)=zy∧O ((i.st.toNat:Int)=3)=zy:=λh=>by have:=odt h;rw [this];decide
  simp only [n1,hn,hs]
  revert h12
  generalize O ((i.st.toNat:Int)=1)=s1
  generalize O ((i.st.toNat:Int)=2)=s2
  generalize O ((i.st.toNat:Int)=3)=s3
  generalize O ((i.toks.length:Int)≤0)=n
  generalize O (0≤next)=a1
  generalize O (next≤2147483647)=a2
  generalize O (0≤k)=a3
  generalize O (k≤1099511627776)=a4
  generalize O (i.mdl=m.id)=a5
  generalize O (1≤i.id)=a6
  generalize O (i.id≤next)=a7
  intro h12
  have h0:((((((((!a1) || (!a2)) || (!a3)) || (!a4)) || (!a5)) || (!a6)) || (!a7)) || (!v)) = !(((((((a1&&a2)&&a3)&&a4)&&a5)&&a6)&&a7)&&v):=by
   cases a1<;>cases a2<;>cases a3<;>cases a4<;>cases a5<;>cases a6<;>cases a7<;>cases v<;>rfl
  have h9:(if (((((((a1&&a2)&&a3)&&a4)&&a5)&&a6)&&a7))=zz then v else zy)=(((((((a1&&a2)&&a3)&&a4)&&a5)&&a6)&&a7)&&v):=by
   cases (((((((a1&&a2)&&a3)&&a4)&&a5)&&a6)&&a7))<;>rfl
  rw [h0,h9]
  generalize (((((((a1&&a2)&&a3)&&a4)&&a5)&&a6)&&a7)&&v)=g
  cases s1
  ·cases g<;>cases s2<;>cases s3<;>cases n<;>cases Xx<;>rfl
  obtain ⟨h2,h3⟩:=h12 X;subst h2 h3
  cases g<;>cases n<;>cases Xx<;>rfl
 rw [h1,gS R Z i m.els λ_ h=>h];unfold IE
 have:=Z1 R Z i next k (Q5 m i next k) i.toks [] X
 rw [this,Ef];rfl
end
end
end
section
section
section
variable {α β:Type} {f:α→Int}
theorem s9 {l:List α} (h:Srt f l 0 l.length):l.Pairwise (λx y=>f x≤f y):=by
 rw [Fi];intro i j hi hj hij
 have:=h.le (Aj i) (Gw hij) hj
 rwa [HH (Av hi),HH (Av hj)] at this
theorem Stf.symm {A B:List α} (h:Stf f A B):Stf f B A:=λk=>(h k).symm
theorem VJ {A B:List α} (h:Stf f A B) {x:α} (hx:x∈A):x∈B:=by
 have:x∈A.filter (λy=>O (f y=f x)):=De.2 ⟨hx,by simp⟩
 rw [←h (f x)] at this
 exact (De.1 this).1
theorem dS : ∀{A B:List α},A.Pairwise (λx y=>f x≤f y)→B.Pairwise (λx y=>f x≤f y)→Stf f A B→A=B
 | [],[],_,_,_=>rfl
 | [],b::B,_,_,h=>by have:=VJ h.symm (Bi (a:=b) (l:=B));cases this
 | a::A,[],_,_,h=>by have:=VJ h (Bi (a:=a) (l:=A));cases this
 | a::A,b::B,hA,hB,h=>by
  have ha:=Hs.1 hA;have hb:=Hs.1 hB
  have h1:f b≤f a:=by
   rcases Ao.1 (VJ h (Bi (a:=a) (l:=A))) with e|e
   ·rw [e];exact Hj _
   exact hb.1 a e
  have h2:f a≤f b:=by
   rcases Ao.1 (VJ h.symm (Bi (a:=b) (l:=B))) with e|e
   ·rw [e];exact Hj _
   exact ha.1 b e
  have he:f a=f b:=Int.le_antisymm h2 h1;have e:=h (f a);rw [Cs (by simp [he]),Cs (by simp)] at e
  injection e with e1 e2
  subst e1;rw [dS ha.2 hb.2 λk=>?_]
  by_cases hk:f b=k
  ·subst hk;exact e2
  have:=h k
  rwa [Ct (by simpa using hk),Ct (by simpa using hk)] at this
end
end
open Go.RowKit
theorem a0C {ap:Pa→Wt→Bool} {x:Pa} {s:St} {h:Ht} (hh:M9 ap x s=G h):h.pl=s.pl∧h.tok=s.tk.id:=by
 unfold M9 at hh
 split at hh
 ·obtain ⟨wt,_,rfl⟩:=Dp.1 hh;exact ⟨X,X⟩
 cases hh
section
section
variable {α:Type} (f:α→Int)
def L5 (l:List α) (t:Int):Nat→Nat
 | 0=>0
 | n+1=>if t<Kf f l n then L5 l t n else n+1
def VA (l:List α) (h:α):List α:=l.take (L5 f l (f h) l.length)++h::l.drop (L5 f l (f h) l.length)
variable {f}
theorem m8 (l:List α) (t:Int):∀n,L5 f l t n≤n
 | 0=>Af _
 | n+1=>by
  unfold L5
  split
  ·exact Nat.le_succ_of_le (m8 l t n)
  exact Af _
theorem m9 (l:List α) (t:Int):∀n q,L5 f l t n≤q→q<n→t<Kf f l q
 | 0,q,_,h=>absurd h (Dv _)
 | n+1,q,h,hq=>by
  unfold L5 at h
  split at h
  ·rename_i ht
   by_cases hn:q=n
   ·rw [hn];exact ht
   exact m9 l t n q h A0
  omega
theorem eX (l:List α) (t:Int):∀n,L5 f l t n=0∨Kf f l (L5 f l t n-1)≤t
 | 0=>.inl rfl
 | n+1=>by
  unfold L5
  split
  ·exact eX l t n
  rename_i ht
  exact .inr (Int.not_lt.1 ht)
theorem a0i {l:List α} (h:l.Pairwise (λx y=>f x≤f y)) {i j:Nat} (hij:i≤j) (hj:j<l.length):Kf f l i≤Kf f l j:=by
 rcases Nat.lt_or_eq_of_le hij with h1|h1
 ·rw [HH (Av (Nat.lt_trans h1 hj)),HH (Av hj)];exact Fi.1 h i j _ _ h1
 rw [h1];exact Hj _
theorem tO {l:List α} (h:l.Pairwise (λx y=>f x≤f y)) (t:Int):∀x∈l.take (L5 f l t l.length),f x≤t:=λx hx=>by
 obtain ⟨i,hi⟩:=Cf hx;have hlt:=(An.1 hi).1;rw [Bs] at hlt
 have hil:i<L5 f l t l.length:=A0
 rw [Cj hil] at hi
 rcases eX (f:=f) l t l.length with h0|h0
 ·omega
 have hle:=m8 (f:=f) l t l.length;have h1:=a0i h (i:=i) (j:=L5 f l t l.length-1) A0 A0;rw [HH hi] at h1
 exact Jk h1 h0
theorem WZ {l:List α} (t:Int):∀x∈l.drop (L5 f l t l.length),t<f x:=λx hx=>by
 obtain ⟨i,hi⟩:=Cf hx;rw [Ca] at hi
 have:=m9 l t l.length _ (Dg _ i) (An.1 hi).1
 rwa [HH hi] at this
theorem v7 {l:List α} (h:l.Pairwise (λx y=>f x≤f y)) (a:α):(VA f l a).Pairwise (λx y=>f x≤f y):=by
 unfold VA;rw [List.pairwise_append,Hs];refine ⟨h.sublist (List.take_sublist _ _),⟨λy hy=>Ha (WZ (f a) y hy),h.sublist (List.drop_sublist _ _)⟩,λx hx y hy=>?_⟩;have h1:=tO h (f a) x hx;rcases Ao.1 hy with e|e
 ·rw [e];exact h1
 exact Jk h1 (Ha (WZ (f a) y e))
theorem a0n {A l:List α} (h:Stf f A l) (a:α):Stf f (A++[a]) (VA f l a):=λk=>by
 unfold VA;have hl:=h k
 conv at hl=>lhs;rw [←Dd (L5 f l (f a) l.length) l,Cm]
 rw [Cm,Cm]
 by_cases hk:f a=k
 ·have hd:(l.drop (L5 f l (f a) l.length)).filter (λx=>O (f x=k))=[]:=Gz.2 λx hx=>by
   have:=WZ (f a) x hx
   simp only [decide_eq_true_eq];omega
  rw [hd,Cd] at hl
  rw [Cs (by simpa using hk),hd,hl,Cs (by simpa using hk),List.filter_nil]
 rw [Ct (by simpa using hk),Ct (by simpa using hk),List.filter_nil,Cd,←hl]
theorem vA : ∀(U A l:List α),l.Pairwise (λx y=>f x≤f y)→Stf f A l→(U.foldl (VA f) l).Pairwise (λx y=>f x≤f y)∧Stf f (A++U) (U.foldl (VA f) l)
 | [],A,l,h1,h2=>⟨h1,by rw [Cd];exact h2⟩
 | a::U,A,l,h1,h2=>by
  have:=vA U (A++[a]) (VA f l a) (v7 h1 a) (a0n h2 a)
  rwa [Cg] at this
theorem YM {β:Type} {g:β→Int} {F:α→Option β} (hg:∀x y,F x=G y→g y=f x) {A B:List α} (h:Stf f A B):Stf g (A.filterMap F) (B.filterMap F):=λk=>by
 have hh:∀C:List α,(C.filterMap F).filter (λy=>O (g y=k))=(C.filter (λx=>O (f x=k))).filterMap F:=by
  intro C
  induction C with
  | nil=>rfl
  | cons x r ih=>
   cases hx:F x with
   | none=>
    rw [Gr hx,ih]
    by_cases hk:f x=k
    ·rw [Cs (by simpa using hk),Gr hx]
    rw [Ct (by simpa using hk)]
   | some y=>
    rw [Gq hx]
    by_cases hk:f x=k
    ·rw [Cs (by simpa [hg x y hx] using hk),Cs (by simpa using hk),Gq hx,ih]
    rw [Ct (by simpa [hg x y hx] using hk),Ct (by simpa using hk),ih]
 rw [hh,hh,h k]
theorem X4 {β:Type} {g:β→Int} {F:α→Option β} (hg:∀x y,F x=G y→g y=f x) {A:List α} (h:A.Pairwise (λx y=>f x≤f y)):(A.filterMap F).Pairwise (λx y=>g x≤g y):=by
 rw [List.pairwise_filterMap];exact h.imp λ{a b} hab x hx y hy=>by rw [hg _ _ hx,hg _ _ hy];exact hab
end
def hkey (h:Ht):Int:=h.tok
def a1u (l:List Pa) (ap:Pa→Wt→Bool):List Ht:=(HO l 0).filterMap λs=>(l[s.pl.toNat]?).bind λx=>M9 ap x s
theorem vG {l:List Pa} {ss:List St} (h:SsP l ss) (ap:Pa→Wt→Bool):GO l ap ss=(a1u l ap).foldl (VA hkey) []:=by
 have hg:∀(x:St) (y:Ht),((l[x.pl.toNat]?).bind λz=>M9 ap z x)=G y→hkey y=yO x:=λx y e=>by
  cases hz:l[x.pl.toNat]? with
  | none=>rw [hz] at e;cases e
  | some z=>rw [hz] at e;exact (a0C e).2
 have h0:=vA (f:=hkey) (a1u l ap) [] [] List.Pairwise.nil (λ_=>X);rw [Fq] at h0
 have h1:=YM hg h.st;have h2:=X4 hg (s9 h.s);refine dS h2 h0.1 λk=>?_
 rw [h0.2 k];exact (h1 k).symm
end
open Tryz
structure Pqs (w:Kw) (A:Ky) (l:List Pq):Prop where
 rd:Rd w A (l.length*10) (AF Pq.cells l)
 ok:∀x∈l,PqOk w x
 ln:l.length≤zu
theorem Pqs.fr0 {w w':Kw} {A:Ky} {l:List Pq} (h:Pqs w A l) (hf:Fr0 w w'):Pqs w' A l:=⟨h.rd.fr0 hf,λx hx=>(h.ok x hx).fr0 hf,h.ln⟩
def X9 (l:List Pq):Bool:=(O ((8:Int)<((l.length:Nat):Int))) || (O ((300:Int)<((sumP l:Nat):Int)))
theorem lA {x:Int} (h : -9223372036854775808≤x) (h2:x≤9223372036854775807):(IntKind.i64).wrap x=x:=by
 simp [IntKind.wrap,IntKind.bits,IntKind.signed];omega
theorem a1D {w:Kw} {l:List Pq} {j:Nat} {x:Pq} (hx:l[j]?=G x) (ho:PqOk w x) (hs:sumP (l.take j)≤j*281474976702464):sumP (l.take (j+1))≤(j+1)*281474976702464:=by
 rw [AT hx,Z7];have h1:=ho.eb;have h2:=ho.tb;simp only [zu] at h1 h2
 omega
theorem rX {w:Kw} {l:List Pq} {j:Nat} {x:Pq} {n:Int} (hx:l[j]?=G x) (ho:PqOk w x) (hn:l.length≤8→n=((sumP (l.take j):Nat):Int)) (hs:sumP (l.take j)≤j*281474976702464) (hj:j≤l.length):l.length≤8→((IntKind.i64).wrap ((IntKind.i64).wrap (n+(x.i.toks.length:Int))+(x.m.els.length:Int)))=((sumP (l.take (j+1)):Nat):Int):=λh8=>by
 have h1:=ho.eb;have h2:=ho.tb;simp only [zu] at h1 h2
 rw [hn h8,AT hx,Z7,lA (x:=((sumP (l.take j):Nat):Int)+_) A0 A0,lA A0 A0];omega
theorem uN {l:List Pq} {n:Int} (hn:l.length≤8→n=((sumP l:Nat):Int)):((O (8<(l.length:Int))) || (O ((300:Int)<n)))=X9 l:=by
 unfold X9
 by_cases h:l.length≤8
 ·rw [hn h]
 rw [Bg (show (8:Int)<(l.length:Int) by omega)];rfl
theorem oW {l:List Pq} (h:X9 l=zy):l.length≤8∧∀x∈l,x.i.toks.length≤300∧x.m.els.length≤300:=by
 have h1:=odf (FL h).1;have h2:=odf (FL h).2;exact ⟨A0,λx hx=>by have:=yL hx;omega⟩
theorem a2e {x y z:List Nat}:∀g∈x++(y++z),g∈x∨g∈y∨g∈z:=λ_ hg=>(Bp.1 hg).imp id Bp.1
theorem SN (a0:Ky) (c1_0 c1_1 c1_2 c1_3 c1_4:Kv):zv.built 44 [(0,.pointer a0),(1,.agg #[c1_0,c1_1,c1_2,c1_3,c1_4])]=G #[.pointer a0,c1_0,c1_1,c1_2,c1_3,c1_4]:=zr
theorem VB : (zv.info? 44).map (λi=>(i.zero,i.size,i.bytes))=G (G (.agg #[.pointer zx,AA 0,str [],.int .u8 0,.slice zx 0 0,.slice zx 0 0]),6,88):=zr
theorem XD : (zv.info? 44).map (λi=>(i.zero,i.size))=G (G (.agg #[.pointer zx,AA 0,str [],.int .u8 0,.slice zx 0 0,.slice zx 0 0]),6):=zr
theorem O9 : (zv.info? 42).map (·.zero)=G (G (.agg #[AA 0,str [],.int .u8 0,.slice zx 0 0,.slice zx 0 0])):=zr
theorem uE (i:In) (V T:Ky) (vc tc:Nat) (w:Kw) (htl:i.toks.length≤300) (hvl:i.vars.length*56≤zu) (hV:Rd w V (i.vars.length*5) (AF Bd.cells i.vars)) (hT:Rd w T (i.toks.length*9) (AF Tk.cells i.toks)) :
 zt zv 20 #[.agg (In.cells i V T vc tc).toArray] w λe w'=>∃V' vc' T' tc',e=.returned (.agg (In.cells i V' T' vc' tc').toArray)∧(∀w2,a2T w.heap.size [] w' w2→Rd w2 V' (i.vars.length*5) (AF Bd.cells i.vars)∧Rd w2 T' (i.toks.length*9) (AF Tk.cells i.toks))∧Fr0 w w':=by
 simp only [zu] at hvl
 refine BO func20 ntmps20 X λM=>W ?_
 refine CU M X X λg1 w1 hg1 M=>CE M X O9 λg2 w2 hg2 M=>W ?_
 refine CF M 1 X X Ew EN X (CE M X O9 λg3 w3 hg3 M=>BX M 0 X X EN X λw4 M=>W ?_);refine gp1 M 0 X X X GM λw5 M=>W ?_
 have M:=M.nilOwn 63 5;refine CD (len':=i.vars.length) (xs':=AF Bd.cells i.vars) M 0 kw X X X X X X (hV.fr0 M.fr) Dk KB X AV (D5 Bd.cells_one) (Af _) (Af _) D4 (by unfold maxLen;first|omega|(simp;omega)) (by first|(simp;done)|(simp;omega)) (by first|exact (AY _ _ _).symm|rfl|simp [AF]) λA10 c10 w6 M=>yb X (gp1 M 1 X X X GM λw7 M=>W ?_)
 refine gp1 M 1 X X X OC λw8 M=>W ?_
 have M:=M.nilOwn 75 9;refine CD (len':=i.toks.length) (xs':=AF Tk.cells i.toks) M 0 kw X X X X X X (hT.fr0 M.fr) Gu XG X AV (D5 Tk.cells_one) (Af _) (Af _) D4 (by unfold maxLen;first|omega|(simp;omega)) (by first|(simp;done)|(simp;omega)) (by first|exact (AY _ _ _).symm|rfl|simp [AF]) λA17 c17 w9 M=>yb X (gp1 M 2 X X X OC λw10 M=>W ?_)
 refine CF M 2 X X Ew EN X (BX M 3 X X EN X λw11 M=>W ?_);exact CV X X (M.rdBlk 3 X X) Ew X EN ⟨_,_,_,_,X,λw2 h2=>⟨M.rdNew 1 X h2,M.rdNew 0 X h2⟩,M.fr⟩
theorem oV (A:Ky) (cp:Nat) (l:List Pq) (w:Kw) (hP:Pqs w A l) :
 zt zv 5 #[.slice A l.length cp] w (BR w (.bool (X9 l))):=by
 have hln:=hP.ln;simp only [zu] at hln
 refine BO func5 ntmps5 X λM=>W ?_
 refine EC M [0] (λze zF e wr mz=>∃(j:Nat) (n:Int),e=(3,AA n)::(4,AA (j:Int))::ze∧zF wr∧(j≤l.length)∧(l.length≤8→n=((sumP (l.take j):Nat):Int))∧(sumP (l.take j)≤j*281474976702464)∧mz=l.length-j) ⟨0,0,X,M,Aj _,λ_=>X,by simp [sumP],rfl⟩ ?_;rintro _ w1 _ ⟨j,n,rfl,M,hj,hn,hs,rfl⟩;refine W ?_;refine AC X (λh8=>?_) (λh8=>?_)
 ·have h8p:=odt h8;refine W ?_;refine CY CA zr ?_;have M:=M.drew;refine W ?_;obtain ⟨x,_,_,hx,hA_x⟩:=ex5 (i:=j) ((hP.fr0 M.fr).rd);refine sa X (AK j hA_x X X X (sl X) A0) (T2 ?_);refine sd X X (BC Pq.len ((hP.fr0 M.fr).rd) hA_x hx 9 X) (sa X (I8 X X (sl X)) (sa X (aR X X X) (W ?_)));refine sa X (AK j hA_x X X X (sl X) A0) (T2 ?_);refine sd X X (BC Pq.len ((hP.fr0 M.fr).rd) hA_x hx 3 X) (sa X (I8 X X (sl X)) (sa X (aR X X X) (W ?_)));refine fag ⟨j+1,((IntKind.i64).wrap (((IntKind.i64).wrap (n+(x.i.toks.length:Int)))+(x.m.els.length:Int))),X,M,?_,?_,?_,X⟩
  ·omega
  ·exact rX hx (hP.ok _ (Ah hx)) hn hs hj
  exact a1D hx (hP.ok _ (Ah hx)) hs
 have h8p:=odf h8;refine W ?_;obtain rfl:j=l.length:=A0
 rw [Bc] at hn
 refine W ?_;refine fvm M 3 [] [(34,.bool ((O (8<(l.length:Int))) || (O ((300:Int)<n))))] ?_ (λk31=>?_)
 ·intro w2 M;refine W ?_;exact gr1 X ⟨by rw [uN hn],M.fr⟩
 refine A1 (d:=31) X (λh31=>?_) (λh31=>?_)
 ·refine T3 ?_;exact k31 M
 refine T3 ?_;exact k31 M
theorem eZ (A:Ky) (cp:Nat) (l:List Pq) (w:Kw) (hP:Pqs w A l) (hbig:∀x∈l,x.i.toks.length≤300∧x.m.els.length≤300) (hl:l.length≤8) (hY:Lay0 w) :
 zt zv 6 #[.slice A l.length cp] w λe w'=>∃(L:List Pa) (A':Ky) (c':Nat),e=.returned (.slice A' L.length c')∧w'.ownsRow w.heap.size 44 6 (.slice A' L.length c') L.length (AF Pa.cells L)∧(∀x∈L,PaOk w' x)∧L.map (λx=>(x.m,x.i))=l.map (λx=>(x.m,x.i))∧L.length=l.length∧(∀x∈L,x.p.isSome=HC x.m)∧Fr0 w w':=by
 refine BO func6 ntmps6 X λM=>W ?_
 have M:=M.nilOwn 44 6;have M:=M.nilCl (P:=kY []) zV;refine flp [0] (λze e wr mz=>∃(j:Nat) (acc:List Pa) (A3:Ky) (c3:Nat) (F:List Nat),e=(3,.slice A3 acc.length c3)::(4,AA (j:Int))::ze∧Mem w AR [As.cl F (kY acc),As.own w.heap.size 44 6 (.slice A3 acc.length c3) acc.length (AF Pa.cells acc)] wr∧(j≤l.length)∧(acc.map (λx=>(x.m,x.i))=(l.take j).map (λx=>(x.m,x.i)))∧(∀y∈acc,y.p.isSome=HC y.m)∧(acc.length=j)∧mz=l.length-j) ⟨0,[],zx,0,[],X,M,Aj _,X,(λ_ h=>by cases h),X,X⟩ ?_;rintro _ w1 _ ⟨j,acc,A3,c3,F,rfl,M,hj,hacc,hsm,hal,rfl⟩;refine W ?_;refine AC X (λh10=>?_) (λh10=>?_)
 ·have h10p:=odt h10;refine W ?_;obtain ⟨x,_,_,hx,hA_x⟩:=ex5 (i:=j) ((hP.fr0 M.fr).rd);refine ya X (AK j hA_x X X X (sl X) A0) (yb X (ya X (AJ (xs:=Md.cells x.m x.a) X X (MI Pq.len ((hP.fr0 M.fr).rd) hA_x hx 0 5 X X) Ap X AO) (cl 19 X (AE X X call19) (a09 x.m x.a _ ((hP.ok _ (Ah hx)).b (hbig _ (Ah hx)).2) ((hP.ok _ (Ah hx)).fr0 M.fr).md (hY.fr0 M.fr)) ?_)));rintro _ w2 ⟨p,er,c,Fc,rfl,hcr,hnk,hnc,hnil,hsome,hfw2⟩;refine cq ?_;have M:=M.push hfw2 (As.crs x.m p er c Fc) hcr hnc;refine W ?_;refine ya X (AK j hA_x X X X (sl X) A0) (yb X (ya X (AJ (xs:=In.cells x.i x.V x.T x.vc x.tc) X X (MI Pq.len ((hP.fr0 M.fr).rd) hA_x hx 5 5 X X) Ew X EN) (cl 29 X (AE X X call20) (uE x.i x.V x.T x.vc x.tc _ (hbig _ (Ah hx)).1 (hP.ok _ (Ah hx)).vb ((hP.ok _ (Ah hx)).fr0 M.fr).V ((hP.ok _ (Ah hx)).fr0 M.fr).T) ?_)));rintro _ w3 ⟨V',vc',T',tc',rfl,hres,hfw3⟩;refine cq ?_;have M:=M.push hfw3 (As.res _ _ [] (λw2=>Rd w2 V' (x.i.vars.length*5) (AF Bd.cells x.i.vars)∧Rd w2 T' (x.i.toks.length*9) (AF Tk.cells x.i.toks))) (λw2 h2=>hres w2 (a0X h2)) (a07);refine ya X (B8 (parts:=[(0,_),(1,_)]) X X (SN _ _ _ _ _ _)) (CP M kw X X [.agg #[.pointer p,AA x.i.id,str x.i.mdl,.int .u8 (x.i.st.toNat:Int),.slice V' x.i.vars.length vc',.slice T' x.i.toks.length tc']] ([.pointer p,AA x.i.id,str x.i.mdl,.int .u8 (x.i.st.toNat:Int),.slice V' x.i.vars.length vc',.slice T' x.i.toks.length tc']) X X X X underlying27 XD X X (FZ X) X λg31 w4 hg31 M=>CD (len':=(acc++[(⟨p,x.m,c,Fc,x.i,V',vc',T',tc'⟩:Pa)]).length) (xs':=AF Pa.cells (acc++[(⟨p,x.m,c,Fc,x.i,V',vc',T',tc'⟩:Pa)])) M 4 kw X X X X X X (M.rdBlk 0 X X) underlying27 VB X AV (BN X) (Af _) (Af _) D4 (by unfold maxLen;first|omega|(simp;omega)) (by first|(simp;done)|(simp;omega)) (by first|exact (AY _ _ _).symm|rfl|simp [AF,Pa.cells,In.cells]) λA32 c32 w5 M=>W ?_);have hpas:=zW vc' tc' (M.ok 3 _ X) (M.ok 2 _ X) hnil hnk (M.ok 1 _ X) (hP.ok _ (Ah hx)).bd (hbig _ (Ah hx)).1 (hP.ok _ (Ah hx)).wk;have M:=(M.pk [1,2,3,0,4]).meet3 _ (a2e) hpas;refine fag ⟨j+1,acc++[(⟨p,x.m,c,Fc,x.i,V',vc',T',tc'⟩:Pa)],A32,c32,_,X,(M.pk [0,2]),?_,?_,?_,?_,X⟩
  ·omega
  ·rw [AT hx,Bu,Bu,hacc];rfl
  ·intro y hy;rcases Bp.1 hy with h|h
   ·exact hsm y h
   rw [Au.1 h];exact hsome
  simp;omega
 have h10p:=odf h10;refine W ?_;obtain rfl:j=l.length:=A0
 rw [Bc] at hacc
 refine W ?_;exact gr1 X ⟨acc,A3,c3,X,M.own 1 X,M.pasOk 0 X,hacc,hal,hsm,M.fr⟩
end
end Go.Proofs.YtppmdnmjepkfaaaGreatDoor
