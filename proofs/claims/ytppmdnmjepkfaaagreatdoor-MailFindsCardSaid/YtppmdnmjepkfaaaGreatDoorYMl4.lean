/- Lemmas. -/
import Derived.Test.YtppmdnmjepkfaaaGreatDoorYR21b
set_option maxHeartbeats 16000000
set_option maxRecDepth 100000
namespace Go.Proofs.YtppmdnmjepkfaaaGreatDoor
open Go.RowKit
theorem QM {p:El→Bool} {b:El→Option Kz}:∀(l:List El) (i:Nat),(∀x∈l,b x=if p x=true then none else some x.id)→ff b l=(ffN (λ_=>p) i l).map (·.id)
 | [],_,_=>rfl
 | x::r,i,h=>by
  rw [ff,h x (by simp),ffN]
  by_cases hp:p x=true
  ·rw [if_pos hp,if_pos hp];exact QM r (i+1) λy hy=>h y (by simp [hy])
  rw [if_neg hp,if_neg hp];rfl
theorem jF {p:Fl→Bool} {b:Fl→Option Kz}:∀(l:List Fl) (i:Nat),(∀x∈l,b x=if p x=true then none else some x.id)→ff b l=(ffN (λ_=>p) i l).map (·.id)
 | [],_,_=>rfl
 | x::r,i,h=>by
  rw [ff,h x (by simp),ffN]
  by_cases hp:p x=true
  ·rw [if_pos hp,if_pos hp];exact jF r (i+1) λy hy=>h y (by simp [hy])
  rw [if_neg hp,if_neg hp];rfl
theorem GM {α:Type} {b c:Bool} {x y:α} (h:b = !c):(if b=true then x else y)=if c=true then y else x:=by subst h;cases c<;>rfl
theorem V7 {α:Type} {f:α→Kz} {p:Nat→α→Bool} {b:List α→α→Option Kz} (l:List α) (h:∀(i:Nat) (x:α),l[i]?=some x→b (l.take i) x=if p i x=true then none else some (f x)):∀(k:Nat) (r:List α),l.drop k=r→ffp b (l.take k) r=(ffN p k r).map f
 | _,[],_=>rfl
 | k,x::r,hr=>by
  have hk:l[k]?=some x:=by
   have:=Ay (λz=>z[0]?) hr
   simpa using this
  have hd:l.drop (k+1)=r:=by
   have:=AG hk
   rw [hr] at this
   exact (List.cons.inj this).2.symm
  have ht:l.take (k+1)=l.take k++[x]:=by rw [Da,hk];rfl
  rw [ffp,h k x hk,ffN]
  by_cases hp:p k x=true
  ·rw [if_pos hp,if_pos hp];have ih:=V7 l h (k+1) r hd;rw [ht] at ih
   exact ih
  rw [if_neg hp,if_neg hp];rfl
theorem cZ (els:List El):∀(n:Nat) (s:Kz),L7 els n s=RE els n s
 | 0,_=>rfl
 | n+1,s=>by
  unfold L7 RE
  split
  ·rfl
  rw [cZ els n]
  cases hx:AF els s with
  | none=>simp [zeroEl]
  | some x=>simp
theorem q5 (l:Kz):MP l=R5 l:=rfl
theorem vO {a b:Bool} (h:a=true↔b=true):a=b:=by cases a<;>cases b<;>simp_all
theorem tV (x:El):TD x=YJ x:=by
 obtain ⟨k,hk⟩:∃k,(x.kind.toNat:Int)=k:=⟨_,X⟩
 obtain ⟨v,hv⟩:∃v,(x.ev.toNat:Int)=v:=⟨_,X⟩
 have he:El.same (⟨[],[],x.kind,[],x.dflt,x.att,x.ev,x.ref,x.key,x.ticks,x.tries⟩:El) (⟨[],[],x.kind,[],[],[],0,[],[],0,x.tries⟩:El)=(decide (x.dflt=[])&&(decide (x.att=[])&&(decide (v=0)&&(decide (x.ref=[])&&(decide (x.key=[])&&decide (x.ticks=0)))))):=by
  unfold El.same;rw [hv]
  simp
 have he5:El.same (⟨[],[],x.kind,[],x.dflt,x.att,x.ev,x.ref,x.key,x.ticks,x.tries⟩:El) (⟨[],[],x.kind,[],x.dflt,[],0,[],[],0,0⟩:El)=(decide (x.att=[])&&(decide (v=0)&&(decide (x.ref=[])&&(decide (x.key=[])&&(decide (x.ticks=0)&&decide (x.tries=0)))))):=by
  unfold El.same;rw [hv]
  simp
 have he0:El.same (⟨[],[],x.kind,[],x.dflt,x.att,x.ev,x.ref,x.key,x.ticks,x.tries⟩:El) (⟨[],[],x.kind,[],[],[],0,[],[],0,0⟩:El)=(decide (x.dflt=[])&&(decide (x.att=[])&&(decide (v=0)&&(decide (x.ref=[])&&(decide (x.key=[])&&(decide (x.ticks=0)&&decide (x.tries=0))))))):=by
  unfold El.same;rw [hv]
  simp
 unfold TD YJ MH;rw [he,he5,he0,hk,hv];have t1:decide (x.tries<(1:Int)) = !decide ((1:Int)≤x.tries):=by by_cases h:x.tries<1<;>simp [h]<;>omega
 have t2:decide ((100:Int)<x.tries) = !decide (x.tries≤(100:Int)):=by by_cases h:x.tries≤100<;>simp [h]<;>omega
 rw [t1,t2]
 generalize decide ((1:Int)≤x.tries)=R1
 generalize decide (x.tries≤(100:Int))=R2
 generalize decide (x.tries=(0:Int))=R0
 generalize decide ((1:Int)≤x.ticks)=T1
 generalize decide (x.ticks≤(1048576:Int))=T2
 generalize decide (x.ticks=(0:Int))=T0
 generalize B6 x.ref=nr
 generalize B6 x.key=nk
 generalize decide (x.dflt=[])=D
 generalize decide (x.att=[])=A
 generalize decide (x.ref=[])=R
 generalize decide (x.key=[])=K
 generalize decide (v=(0:Int))=V0
 generalize decide (v=(1:Int))=V1
 generalize decide (v=(2:Int))=V2
 generalize decide (v=(3:Int))=V3
 clear he he5 he0 t1 t2
 by_cases h0:(decide (k<1) || decide (10<k))=true
 ·rw [if_pos h0,if_pos h0]
 rw [if_neg h0,if_neg h0]
 by_cases h4:k=4
 ·subst h4;simp only [show decide ((4:Int)=5)=false from rfl,show decide ((4:Int)=8)=false from rfl,show decide ((4:Int)=9)=false from rfl]
  revert R1 R2 R0 T0 D A R K V0;clear hk h0 hv;decide +revert +kernel
 by_cases h5:k=5
 ·subst h5;simp only [show decide ((5:Int)=4)=false from rfl,show decide ((5:Int)=8)=false from rfl,show decide ((5:Int)=9)=false from rfl]
  clear hk h0 hv h4;decide +revert +kernel
 by_cases h8:k=8
 ·subst h8;simp only [show decide ((8:Int)=4)=false from rfl,show decide ((8:Int)=5)=false from rfl,show decide ((8:Int)=9)=false from rfl]
  cases V1<;>cases V2<;>cases V3<;>(simp only [if_true,if_false,Db];clear hk h0 hv h4 h5;decide +revert +kernel)
 by_cases h9:k=9
 ·subst h9;simp only [show decide ((9:Int)=4)=false from rfl,show decide ((9:Int)=5)=false from rfl,show decide ((9:Int)=8)=false from rfl]
  cases V1<;>cases V2<;>cases V3<;>(simp only [if_true,if_false,Db];clear hk h0 hv h4 h5 h8;decide +revert +kernel)
 simp only [decide_eq_false h4,decide_eq_false h5,decide_eq_false h8,decide_eq_false h9]
 clear hk h0 hv h4 h5 h8 h9;decide +revert +kernel
theorem q6 (m:Md):Z6 m=ffE (VS m) m.els:=by
 refine QM m.els 0 λx _=>?_
 unfold ZW VS;rw [cZ,tV];exact GM (by cases RE m.els 4 x.inn<;>cases YJ x<;>rfl)
theorem gX (m:Md):P0 m=ffF (L4 m) m.fls:=by
 refine jF m.fls 0 λx _=>?_
 unfold ZV L4;refine GM ?_
 generalize (AF m.els x.frm).isSome=a
 generalize (AF m.els x.tg).isSome=b
 generalize decide (((AF m.els x.frm).getD zeroEl).inn=((AF m.els x.tg).getD zeroEl).inn)=c
 generalize decide ((((AF m.els x.tg).getD zeroEl).kind.toNat:Int)=9)=d
 generalize decide (x.frm=x.tg)=e
 decide +revert
theorem lR (l:List Fl) (k:Kz):(D2 l k).length=(E4 l k).length:=by
 induction l with
 | nil=>rfl
 | cons f r ih=>
  unfold D2 E4;rw [Cw]
  by_cases h:f.tg=k
  ·rw [if_pos h,if_pos (by simpa using h),Af,Af,ih];rfl
  rw [if_neg h,if_neg (by simpa using h),ih];rfl
theorem RR (l:List Fl) (k:Kz):BJ l k=(BV l k).map (·.id):=by
 induction l with
 | nil=>rfl
 | cons f r ih=>
  unfold BJ BV;rw [Cw]
  by_cases h:f.frm=k
  ·rw [if_pos h,if_pos (by simpa using h),Cj,ih];rfl
  rw [if_neg h,if_neg (by simpa using h),ih];rfl
theorem eK (l:List Fl) (k:Kz):(BJ l k).length=(BV l k).length:=by rw [RR,Bp]
theorem u0 (m:Md) (x:El):m.fls.all (NP m x) = !((BV m.fls x.id).any (LL m)):=by
 have:∀l:List Fl,l.all (NP m x) = !((BV l x.id).any (LL m)):=by
  intro l
  induction l with
  | nil=>rfl
  | cons f r ih=>
   rw [Df,ih];unfold BV;rw [Cw];unfold NP
   by_cases h:f.frm=x.id
   ·rw [if_pos (by simpa using h),if_pos (by simpa using h),Dr,Bool.not_or]
    congr 1
    unfold LL
    cases hx:AF m.els f.tg with
    | none=>simp [zeroEl]
    | some y=>rw [lR];simp only [Ct,(LM hx).2];cases decide ((y.kind.toNat:Int)=8)<;>simp
   rw [if_neg (by simpa using h),if_neg (by simpa using h)];rfl
 exact this m.fls
theorem oH (m:Md):ME m=ffE (IZ m) m.els:=by
 refine QM m.els 0 λx _=>?_
 unfold MB IZ;rw [lR,eK,u0]
 by_cases h1:(decide ((x.kind.toNat:Int)=1) || decide ((x.kind.toNat:Int)=9))=true
 ·rw [if_pos h1,if_pos h1];exact GM rfl
 rw [if_neg h1,if_neg h1]
 by_cases h2:decide ((x.kind.toNat:Int)=2)=true
 ·rw [if_pos h2,if_pos h2];exact GM rfl
 rw [if_neg h2,if_neg h2]
 by_cases h5:(decide ((x.kind.toNat:Int)=5) || decide ((x.kind.toNat:Int)=6))=true
 ·rw [if_pos h5,if_pos h5];exact GM rfl
 rw [if_neg h5,if_neg h5]
 by_cases h7:decide ((x.kind.toNat:Int)=7)=true
 ·rw [if_pos h7,if_pos h7];refine GM ?_
  generalize decide (((E4 m.fls x.id).length:Int)=1)=a
  generalize decide (2≤((BV m.fls x.id).length:Int))=b
  generalize (BV m.fls x.id).any (LL m)=c
  decide +revert
 rw [if_neg h7,if_neg h7];exact GM rfl
theorem fW (t:Nat) (x:El) (l:List El) (k:Kz):cntK t (x::l) k=cntK t l k+(if x.inn=k∧x.kind.toNat=t then 1 else 0):=by
 unfold cntK;rw [Cw]
 by_cases h:x.inn=k∧x.kind.toNat=t
 ·rw [if_pos (by simpa using h),if_pos h,Af]
 rw [if_neg (by simpa using h),if_neg h];rfl
theorem Z3 (k:Kz):∀(l:List El) (a b:Nat),HT k a b l=(decide (((a+cntK 1 l k:Nat):Int)=1)&&decide (1≤((b+cntK 2 l k:Nat):Int)))
 | [],a,b=>rfl
 | x::l,a,b=>by
  rw [HT,Z3 k l,fW,fW]
  have h1:(if (decide (x.inn=k)&&decide ((x.kind.toNat:Int)=1))=true then a+1 else a)+cntK 1 l k=a+(cntK 1 l k+(if x.inn=k∧x.kind.toNat=1 then 1 else 0)):=by
   by_cases h:x.inn=k∧x.kind.toNat=1
   ·rw [if_pos h,if_pos (by rw [decide_eq_true h.1,decide_eq_true A0];rfl)];omega
   rw [if_neg h,if_neg (λz=>h ⟨odt (EE z).1,by have:=odt (EE z).2;omega⟩)];omega
  have h2:(if (decide (x.inn=k)&&decide ((x.kind.toNat:Int)=2))=true then b+1 else b)+cntK 2 l k=b+(cntK 2 l k+(if x.inn=k∧x.kind.toNat=2 then 1 else 0)):=by
   by_cases h:x.inn=k∧x.kind.toNat=2
   ·rw [if_pos h,if_pos (by rw [decide_eq_true h.1,decide_eq_true A0];rfl)];omega
   rw [if_neg h,if_neg (λz=>h ⟨odt (EE z).1,by have:=odt (EE z).2;omega⟩)];omega
  rw [h1,h2]
theorem WA (m:Md) (k:Kz):scopeR m.els k=O3 m k:=by
 unfold scopeR O3;rw [Z3,Cm,Cm]
theorem oL (m:Md):OF m=ZK m:=by
 unfold OF ZK ffS;rw [ffN,WA]
 have key:∀(l:List El) (i:Nat),ff (SE m) l=ffN (λ_=>O3 m) i (GK l):=by
  intro l
  induction l with
  | nil=>intro _;rfl
  | cons x r ih=>
   intro i
   have e:SE m x=(if x.kind.toNat=10 then (if O3 m x.id=true then none else some x.id) else none):=by
    unfold SE;rw [WA]
    by_cases h:x.kind.toNat=10
    ·rw [if_pos (decide_eq_true (show (x.kind.toNat:Int)=10 by omega)),if_pos h];exact GM rfl
    rw [if_neg (λz=>h (by have:=odt z;omega)),if_neg h]
   have es:GK (x::r)=if x.kind.toNat=10 then x.id::GK r else GK r:=by
    unfold GK;rw [Cw]
    by_cases h:x.kind.toNat=10
    ·rw [if_pos (decide_eq_true h),if_pos h];rfl
    rw [if_neg (λz=>h (odt z)),if_neg h]
   rw [ff,e,es]
   by_cases h:x.kind.toNat=10
   ·rw [if_pos h,if_pos h,ffN]
    cases O3 m x.id with
    | false=>rfl
    | true=>simp only [if_true];exact ih _
   rw [if_neg h,if_neg h];exact ih i
 cases O3 m [] with
 | false=>rfl
 | true=>simp only [Gj,Db,if_false,if_true];exact key _ _
theorem SF (els:List El):∀(n:Nat) (y:El),EL els n y=HE els n y
 | 0,_=>rfl
 | n+1,y=>by
  unfold EL HE
  split
  ·rfl
  cases AF els y.inn with
  | none=>rfl
  | some x=>simp only;split<;>simp [SF els n]
theorem UF (els:List El) (id:Kz):C2 els id=AY els id:=by
 unfold C2 AY
 cases AF els id with
 | none=>rfl
 | some y=>exact SF els 64 y
theorem Z2 (m:Md) (a:El):∀l:List El,l.all (p7 m.els a) = !(l.any (M0 m a))
 | []=>rfl
 | y::r=>by
  rw [Df,Dr,Bool.not_or,Z2 m a r]
  congr 1
  unfold p7 M0;rw [UF]
  cases decide ((y.kind.toNat:Int)=6) with
  | false=>simp
  | true=>
   simp only [Em,if_true]
   induction AY m.els y.id with
   | nil=>rfl
   | cons z t ih=>rw [Df,Dr,Bool.not_or,ih];congr 2;exact decide_eq_decide.2 eq_comm
theorem i6 (m:Md):P1 m=ffE (L8 m) m.els:=by
 refine QM m.els 0 λx _=>?_
 unfold Y3 L8;rw [Z2]
 by_cases h9:(!decide ((x.kind.toNat:Int)=9))=true
 ·rw [if_pos h9,if_pos h9];rfl
 rw [if_neg h9,if_neg h9];refine GM ?_
 generalize ha:((AF m.els x.att).getD zeroEl)=a
 generalize (AF m.els x.att).isSome=b1
 generalize decide (a.inn=x.inn)=b2
 generalize m.els.any (M0 m a)=b3
 generalize decide ((x.ev.toNat:Int)=1)=b4
 obtain ⟨k,hk⟩:∃k,(a.kind.toNat:Int)=k:=⟨_,X⟩
 rw [hk]
 clear ha h9 hk
 by_cases h3:k=3
 ·subst h3;simp only [show decide ((3:Int)=4)=false from rfl,show decide ((3:Int)=10)=false from rfl];decide +revert
 by_cases h4:k=4
 ·subst h4;simp only [show decide ((4:Int)=3)=false from rfl,show decide ((4:Int)=10)=false from rfl];clear h3;decide +revert
 by_cases h10:k=10
 ·subst h10;simp only [show decide ((10:Int)=3)=false from rfl,show decide ((10:Int)=4)=false from rfl];clear h3 h4;decide +revert
 simp only [decide_eq_false h3,decide_eq_false h4,decide_eq_false h10];clear h3 h4 h10;decide +revert
theorem jG (m:Md):P2 m=ffE (MI m) m.els:=by
 refine QM m.els 0 λx _=>?_
 unfold ZU MI;exact GM X
theorem sN (m:Md):NZ m=FG m:=by
 unfold NZ FG QC
 by_cases h:(((((!(B6 m.id)) || (!(R5 m.nm))) || (decide (64<(m.els.length:Int)))) || (decide (128<(m.fls.length:Int)))) || (decide (16<(m.vars.length:Int))))=true
 ·rw [if_pos h];exact if_pos h
 rw [if_neg h];refine (if_neg h).trans ?_
 have hmem:∀{α:Type} (f:α→Kz) (l:List α) (i:Nat) (k:Kz),(l.take i).all (λy => !decide (f y=k)) = !(decide (k∈((l.take i).map f).reverse)):=by
  intro α f l i k
  induction l.take i with
  | nil=>simp
  | cons a t ih=>
   rw [Df,ih]
   by_cases ha:f a=k
   ·simp [ha]
   simp [ha,Ne.symm ha]
 have hV:ffp Y0 [] m.vars=(ffN (pV m) 0 m.vars).map (·.name):=by
  refine V7 (p:=pV m) m.vars (λi x hx=>?_) 0 m.vars X;unfold Y0 pV GA FT;rw [hmem];refine GM ?_;simp only [Bv]
  cases B6 x.name<;>cases decide (chk x.v=0)<;>simp
 have hE:ffp (Y2 m) [] m.els=(ffN (pE m) 0 m.els).map (·.id):=by
  refine V7 (p:=pE m) m.els (λi x hx=>?_) 0 m.els X;unfold Y2 pE GA FT;rw [hmem,q5];refine GM ?_;simp only [Bo,Au]
  by_cases h1:x.id∈((m.els.take i).map (λx=>x.id)).reverse<;>by_cases h2:x.id=m.id<;>cases B6 x.id<;>cases R5 x.nm<;>simp_all
 have hF:ffp (Y1 m) [] m.fls=(ffN (pF m) 0 m.fls).map (·.id):=by
  refine V7 (p:=pF m) m.fls (λi x hx=>?_) 0 m.fls X;unfold Y1 pF GA FT;rw [hmem];refine GM ?_
  have he:(AF m.els x.id).isSome=decide (x.id∈(m.els.map (λx=>x.id)).reverse):=by
   induction m.els with
   | nil=>rfl
   | cons a t ih=>
    unfold AF
    by_cases ha:a.id=x.id
    ·rw [if_pos ha];simp [ha]
    rw [if_neg ha,ih];simp [Ne.symm ha]
  rw [he,Ba];simp only [Bo,Au]
  by_cases h1:x.id∈((m.fls.take i).map (λx=>x.id)).reverse<;>by_cases h2:x.id=m.id<;>by_cases h3:x.id∈(m.els.map (λx=>x.id)).reverse<;>cases B6 x.id<;>simp_all
 rw [hV,hE,hF]
 cases ffN (pV m) 0 m.vars with
 | some b=>rfl
 | none=>
  cases ffN (pE m) 0 m.els with
  | some b=>rfl
  | none=>rfl
def Hop (m:Md) (j k:Kz):Prop:=∃f∈m.fls,f.frm=j∧f.tg=k∧KP m k=true
inductive Way (m:Md):Kz→Kz→Prop
 | one {j k:Kz}:Hop m j k→Way m j k
 | more {j k l:Kz}:Way m j k→Hop m k l→Way m j l
theorem Way.cons {m:Md} {j k l:Kz} (h:Hop m j k) (w:Way m k l):Way m j l:=by
 induction w with
 | one h2=>exact .more (.one h) h2
 | more _ h2 ih=>exact .more ih h2
structure Seen (m:Md) (k:Kz) (s r:List Kz):Prop where
 keep:∀x∈s,x∈r
 way:∀x∈r,x∈s∨Way m k x
 out:∀x∈r,x∉s→∀y,Hop m x y→y∈r
 here:∀y,Hop m k y→y∈r
theorem NA {m:Md} {k:Kz} {N:Nat} {rc:Kz→List Kz→List Kz} (hrc:∀j s,JK m s<N→Seen m j s (rc j s)) (hle:∀j s,JK m s<N→JK m (rc j s)≤JK m s):∀(l:List Fl) (s:List Kz),(∀f∈l,f∈BV m.fls k)→JK m s≤N →
 (∀x∈s,x∈JM m rc l s)∧(∀x∈JM m rc l s,x∈s∨Way m k x)∧(∀x∈JM m rc l s,x∉s→∀y,Hop m x y→y∈JM m rc l s)∧(∀f∈l,KP m f.tg=true→f.tg∈JM m rc l s)
 | [],s,_,_=>⟨λ_ h=>h,λ_ h=>.inl h,λ_ h hn=>absurd h hn,λ_ h=>absurd h (by simp)⟩
 | f::r,s,hl,hN=>by
  have hf:=hl f (by simp);have hfm:f∈m.fls∧f.frm=k:=by simpa [BV] using hf
  rw [JM]
  split
  ·rename_i hc
   have hp:=(EE hc).1;have hns:f.tg∉s:=odf (CJ (EE hc).2);have hlt:=bX (s:=s) hf (decide_eq_false hns);have hS:=hrc f.tg (f.tg::s) (Bw hlt hN);have hL:=hle f.tg (f.tg::s) (Bw hlt hN);have hop:Hop m k f.tg:=⟨f,hfm.1,hfm.2,X,hp⟩;obtain ⟨a1,a2,a3,a4⟩:=NA hrc hle r (rc f.tg (f.tg::s)) (λx hx=>hl x (Ap _ hx)) A0;refine ⟨λx hx=>a1 x (hS.keep x (by simp [hx])),λx hx=>?_,λx hx hn y hy=>?_,λg hg hq=>?_⟩
   ·rcases a2 x hx with h|h
    ·rcases hS.way x h with h|h
     ·rcases Ak.1 h with h|h
      ·exact .inr (h▸.one hop)
      exact .inl h
     exact .inr (.cons hop h)
    exact .inr h
   ·by_cases h1:x∈rc f.tg (f.tg::s)
    ·by_cases h2:x=f.tg
     ·exact a1 y (hS.here y (h2▸hy))
     exact a1 y (hS.out x h1 (λz=>(Ak.1 z).elim h2 hn) y hy)
    exact a3 x hx h1 y hy
   rcases Ak.1 hg with rfl|hg
   ·exact a1 _ (hS.keep _ (by simp))
   exact a4 g hg hq
  rename_i hc
  obtain ⟨a1,a2,a3,a4⟩:=NA hrc hle r s (λx hx=>hl x (Ap _ hx)) hN;refine ⟨a1,a2,a3,λg hg hq=>?_⟩;rcases Ak.1 hg with rfl|hg
  ·rw [hq,Em] at hc
   exact a1 _ (odt (BO (Cg.2 hc)))
  exact a4 g hg hq
theorem kY {m:Md} {k:Kz} {s r:List Kz} (h:(∀x∈s,x∈r)∧(∀x∈r,x∈s∨Way m k x)∧(∀x∈r,x∉s→∀y,Hop m x y→y∈r)∧(∀f∈BV m.fls k,KP m f.tg=true→f.tg∈r)):Seen m k s r where
 keep:=h.1
 way:=h.2.1
 out:=h.2.2.1
 here:=λy ⟨f,h1,h2,h3,h4⟩=>h3▸h.2.2.2 f (by simp [BV,h1,h2]) (h3▸h4)
theorem VK (m:Md):∀(n:Nat) (k:Kz) (s:List Kz),JK m s≤n→Seen m k s (TW m n k s)
 | 0,k,s,h=>kY (NA (N:=0) (λ_ _ h=>by omega) (λ_ _ h=>by omega) _ s (λ_ hf=>hf) h)
 | n+1,k,s,h=>kY (NA (N:=n+1) (λj t ht=>VK m n j t A0) (λj t ht=>VL m n j t A0) _ s (λ_ hf=>hf) h)
theorem pN (m:Md) (k x:Kz):x∈TW m m.fls.length k []↔Way m k x:=by
 have hS:=VK m m.fls.length k [] (fY m []);refine ⟨λh=>(hS.way x h).elim (λh=>absurd h (by simp)) id,λh=>?_⟩
 induction h with
 | one h=>exact hS.here _ h
 | more _ h2 ih=>exact hS.out _ ih (by simp) _ h2
theorem lH (m:Md) (k:Kz):M4 ((AF m.els k).getD zeroEl)=KP m k:=rfl
theorem yD {m:Md} {k:Kz} (h:KP m k=true):((AF m.els k).getD zeroEl).id=k:=by
 unfold KP at h
 cases hx:AF m.els k with
 | none=>rw [hx] at h;exact absurd h AV
 | some x=>exact (LM hx).2
theorem UZ (m:Md) (x:El) (cur:Kz):∀(l:List Fl) (seen:List Kz),(∀f∈l,f∈m.fls) →
  match E1 m x cur l seen with
  | none=>Hop m cur x.id
  | some s=>(∃t,s=seen++t)∧(∀k∈s,k∈seen∨Hop m cur k)∧(∀f∈l,f.frm=cur→KP m f.tg=true→f.tg∈s∧¬f.tg=x.id)
 | [],seen,_=>⟨⟨[],by simp⟩,λk hk=>.inl hk,λ_ h=>absurd h (by simp)⟩
 | f::r,seen,hl=>by
  have hf:=hl f (by simp);have hr:∀g∈r,g∈m.fls:=λg hg=>hl g (by simp [hg])
  rw [E1,lH]
  by_cases h1:((!decide (f.frm=cur)) || (!(KP m f.tg)))=true
  ·rw [if_pos h1];have ih:=UZ m x cur r seen hr
   cases hs:E1 m x cur r seen with
   | none=>rw [hs] at ih;exact ih
   | some s=>
    rw [hs] at ih
    refine ⟨ih.1,ih.2.1,λg hg h2 h3=>?_⟩;rcases Ak.1 hg with rfl|hg
    ·rw [h3,decide_eq_true h2] at h1;cases h1
    exact ih.2.2 g hg h2 h3
  rw [if_neg h1];have h1':=G8 (Cg.2 h1);have hfr:f.frm=cur:=odt (BO h1'.1);have hp:KP m f.tg=true:=BO h1'.2;rw [yD hp]
  by_cases h2:f.tg=x.id
  ·rw [if_pos (decide_eq_true h2)];exact ⟨f,hf,hfr,h2,h2▸hp⟩
  rw [if_neg (λz=>h2 (odt z))]
  by_cases h3:(seen.any (λq=>decide (q=f.tg)))=false
  ·rw [if_pos h3];have ih:=UZ m x cur r (seen++[f.tg]) hr
   cases hs:E1 m x cur r (seen++[f.tg]) with
   | none=>rw [hs] at ih;exact ih
   | some s=>
    rw [hs] at ih
    obtain ⟨⟨t,ht⟩,ih2,ih3⟩:=ih;refine ⟨⟨f.tg::t,by rw [ht];simp⟩,λk hk=>?_,λg hg h4 h5=>?_⟩
    ·rcases ih2 k hk with h|h
     ·rcases Bo.1 h with h|h
      ·exact .inl h
      rw [Au] at h;exact .inr ⟨f,hf,hfr,h.symm,h▸hp⟩
     exact .inr h
    rcases Ak.1 hg with rfl|hg
    ·exact ⟨by rw [ht];simp,h2⟩
    exact ih3 g hg h4 h5
  rw [if_neg h3]
  have hin:f.tg∈seen:=by
   obtain ⟨q,hq,h4⟩:=List.any_eq_true.1 (by simpa using h3:seen.any (λq=>decide (q=f.tg))=true);exact odt h4▸hq
  have ih:=UZ m x cur r seen hr
  cases hs:E1 m x cur r seen with
  | none=>rw [hs] at ih;exact ih
  | some s=>
   rw [hs] at ih
   obtain ⟨⟨t,ht⟩,ih2,ih3⟩:=ih;refine ⟨⟨t,ht⟩,ih2,λg hg h4 h5=>?_⟩;rcases Ak.1 hg with rfl|hg
   ·exact ⟨by rw [ht];simp [hin],h2⟩
   exact ih3 g hg h4 h5
theorem NG (m:Md) (x:El) (cur:Kz):∀(l:List Fl) (seen s:List Kz),E1 m x cur l seen=some s→seen.Nodup→(∀k∈seen,k∈m.els.map (·.id))→s.Nodup∧∀k∈s,k∈m.els.map (·.id)
 | [],seen,s,h,h1,h2=>by rw [E1] at h;injection h with h;subst h;exact ⟨h1,h2⟩
 | f::r,seen,s,h,h1,h2=>by
  rw [E1] at h
  split at h
  ·exact NG m x cur r seen s h h1 h2
  rename_i hc
  split at h
  ·cases h
  split at h
  ·rename_i h3
   exact NG m x cur r _ s h (M5 h1 h3) (RD h2 (NJ m.els (G8 (Cg.2 hc)).2))
  exact NG m x cur r seen s h h1 h2
theorem mB {m:Md} {x:Kz} {s:List Kz} (h:∀j∈s,∀k,Hop m j k→k∈s∧¬k=x) {j k:Kz} (w:Way m j k):j∈s→k∈s∧¬k=x:=by
 induction w with
 | one h1=>exact λhj=>h _ hj _ h1
 | more _ h2 ih=>exact λhj=>h _ (ih hj).1 _ h2
theorem kZ (m:Md) (x:El):∀(n k:Nat) (seen:List Kz),seen.Nodup→(∀j∈seen,j∈m.els.map (·.id))→x.id∈seen→(∀j∈seen,j=x.id∨Way m x.id j)→k≤seen.length →
 (∀j∈seen.take k,∀l,Hop m j l→l∈seen∧¬l=x.id)→m.els.length<n+k→(IK m x n k seen=true↔Way m x.id x.id)
 | 0,k,seen,hd,hs,_,_,hk,_,hn=>by
  have:=GY seen _ hd hs
  rw [Bp] at this
  omega
 | n+1,k,seen,hd,hs,h0,hw,hk,hc,hn=>by
  rw [IK]
  cases hz:seen[k]? with
  | none=>
   have hkl:seen.length≤k:=List.getElem?_eq_none_iff.1 hz;have hke:k=seen.length:=by omega
   rw [hke,Ba] at hc
   refine ⟨λh=>(by cases h),λh=>?_⟩;exact absurd X (mB hc h h0).2
  | some cur=>
   have hst:=UZ m x cur m.fls seen (λ_ h=>h);have hcm:cur∈seen:=Ac hz
   simp only
   cases hs2:E1 m x cur m.fls seen with
   | none=>
    rw [hs2] at hst
    have hst:Hop m cur x.id:=hst;refine ⟨λ_=>?_,λ_=>X⟩;rcases hw cur hcm with h|h
    ·rw [h] at hst;exact .one hst
    exact .more h hst
   | some s=>
    rw [hs2] at hst
    obtain ⟨⟨t,ht⟩,h2,h3⟩:=hst;obtain ⟨g1,g2⟩:=NG m x cur m.fls seen s hs2 hd hs;have hlt:=(Aj.1 hz).1;refine kZ m x n (k+1) s g1 g2 (by rw [ht];simp [h0]) (λj hj=>?_) (by rw [ht,Ah];omega) (λj hj l hop=>?_) A0
    ·rcases h2 j hj with h|h
     ·exact hw j h
     rcases hw cur hcm with h4|h4
     ·exact .inr (h4▸.one h)
     exact .inr (.more h4 h)
    have htk:s.take (k+1)=seen.take k++[cur]:=by
     rw [ht,List.take_append_of_le_length A0,Da,hz];rfl
    rw [htk] at hj
    rcases Bo.1 hj with hj|hj
    ·obtain ⟨a,b⟩:=hc j hj l hop;exact ⟨by rw [ht];simp [a],b⟩
    rw [Au] at hj
    obtain ⟨f,f1,f2,f3,f4⟩:=hop;subst f3;exact h3 f f1 (f2.trans hj) f4
theorem nQ {m:Md} (hid:(m.els.map (·.id)).Nodup):SS m=ffE (eR m) m.els:=by
 refine QM m.els 0 λx hx=>?_
 have hx':x.id∈m.els.map (·.id):=Ch.2 ⟨x,hx,X⟩
 have hf:AF m.els x.id=some x:=by
  have:∀l:List El,(l.map (·.id)).Nodup→x∈l→AF l x.id=some x:=by
   intro l
   induction l with
   | nil=>intro _ h;cases h
   | cons a t ih=>
    intro hd h;rw [Cj,Fv] at hd
    unfold AF;rcases Ak.1 h with rfl|h
    ·rw [if_pos rfl]
    rw [if_neg (λz=>hd.1 (Ch.2 ⟨x,h,z.symm⟩)),ih hd.2 h]
  exact this m.els hid hx
 have hp:M4 x=KP m x.id:=by rw [←lH,hf];rfl
 have hrun:=kZ m x (m.els.length+1) 0 [x.id] (by simp) (by intro j hj;rw [Au] at hj;rw [hj];exact hx') (by simp) (λj hj=>.inl (Au.1 hj)) (Ae _) (λj hj=>absurd hj (by simp)) A0;unfold SD eR;rw [hp]
 by_cases h1:(!(KP m x.id))=true
 ·rw [if_pos h1,if_pos h1];rfl
 rw [if_neg h1,if_neg h1];refine GM ?_;rw [Ga];refine vO ?_;rw [hrun,decide_eq_true_eq,pN]
theorem uL {p:El→Bool}:∀{l:List El},ffE p l=none→∀x∈l,p x=true:=by
 have key:∀(l:List El) (i:Nat),ffN (λ_=>p) i l=none→∀x∈l,p x=true:=by
  intro l
  induction l with
  | nil=>intro _ _ x hx;cases hx
  | cons a l ih=>
   intro i h x hx;rw [ffN] at h
   by_cases hp:p a=true
   ·rw [if_pos hp] at h
    rcases Ak.1 hx with rfl|hx
    ·exact hp
    exact ih _ h x hx
   rw [if_neg hp] at h;cases h
 intro l h;refine key l 0 ?_;unfold ffE at h
 cases hf:ffN (λ_=>p) 0 l with
 | none=>rfl
 | some y=>rw [hf] at h;cases h
theorem fM {α:Type} {p:Nat→α→Bool}:∀{l:List α} {i:Nat},ffN p i l=none→∀(j:Nat) (x:α),l[j]?=some x→p (i+j) x=true
 | [],_,_,j,x,hx=>by simp at hx
 | a::l,i,h,j,x,hx=>by
  rw [ffN] at h
  by_cases hp:p i a=true
  ·rw [if_pos hp] at h
   cases j with
   | zero=>simp only [Ai,Ad] at hx;subst hx;exact hp
   | succ j=>
    have:=fM h j x (by simpa using hx)
    rwa [show i+1+j=i+(j+1) by omega] at this
  rw [if_neg hp] at h;cases h
theorem nN {m:Md} (h:FG m=none):(m.els.map (·.id)).Nodup:=by
 unfold FG at h
 split at h
 ·cases h
 split at h
 ·cases h
 split at h
 ·cases h
 rename_i hE
 have key:=fM hE;rw [List.Nodup,Ez];intro i j hi hj hij;rw [Bp] at hi hj
 rw [Hx,Hx];have h1:=key j m.els[j] (Ao hj);unfold pE GA FT at h1
 have h2:=odf (CJ (EE (EE h1).1).2);intro he;refine h2 (Bo.2 (.inl (List.mem_reverse.2 (Ch.2 ⟨m.els[i],?_,he⟩))));rw [Cm];exact Ac (i:=i) (by rw [Cb hij,Ao hi])
theorem jC (vars:List Bd) (s:Kz):TE vars s = !(((!decide ((CX s).2.2=(0:Int))) || (!decide ((HZ (CX s).1 vars).2=(0:Int)))) || (!decide (((HZ (CX s).1 vars).1.toNat:Int)=2))):=by
 unfold TE;rcases WR s with ⟨h1,h2,h3⟩|⟨h1,h2⟩
 ·rw [h3,h1,h2];simp
 rw [decide_eq_false h1,decide_eq_false h2];simp
theorem r7 {m:Md} (h4:ffE (IZ m) m.els=none):RN m=YE m:=by
 have hA:ff (OT m) m.els=ffE (KC m) m.els:=by
  refine QM m.els 0 λx hx=>?_
  have hf:=uL h4 x hx;unfold OT KC
  by_cases h5:(!decide ((x.kind.toNat:Int)=5))=true
  ·rw [if_pos h5,if_pos h5];rfl
  rw [if_neg h5,if_neg h5];have hk:(x.kind.toNat:Int)=5:=odt (BO (Cg.2 h5))
  have hl:1≤(BV m.fls x.id).length:=by
   unfold IZ at hf
   rw [hk,if_neg AV,if_neg AV,if_pos AV] at hf
   have:=odt (EE hf).2
   omega
  rw [RR,Bp,Jb]
  by_cases h1:(BV m.fls x.id).length=1
  ·rw [h1]
   by_cases hd:x.dflt=[]<;>simp [hd]
  have h1':¬((BV m.fls x.id).length:Int)=1:=by omega
  have h2':(1:Int)<((BV m.fls x.id).length:Int):=by omega
  rw [decide_eq_false h1',decide_eq_true h2',Fk,Fs,Em,if_neg (show ¬false=true by decide)];exact GM X
 have hB:ff (NT m) m.fls=ffF (MS m) m.fls:=by
  refine jF m.fls 0 λx hx=>?_
  unfold NT MS
  have hn:(((decide ((((AF m.els x.frm).getD zeroEl).kind.toNat:Int)=5))&&(decide (1<((BJ m.fls ((AF m.els x.frm).getD zeroEl).id).length:Int))))&&(!decide (((AF m.els x.frm).getD zeroEl).dflt=x.id)))=(((decide ((((AF m.els x.frm).getD zeroEl).kind.toNat:Int)=5))&&(decide (1<((BV m.fls x.frm).length:Int))))&&(!decide (((AF m.els x.frm).getD zeroEl).dflt=x.id))):=by
   cases hy:AF m.els x.frm with
   | none=>simp [zeroEl]
   | some y=>rw [eK];simp only [Ct,(LM hy).2]
  rw [hn,jC]
  generalize (((decide ((((AF m.els x.frm).getD zeroEl).kind.toNat:Int)=5))&&(decide (1<((BV m.fls x.frm).length:Int))))&&(!decide (((AF m.els x.frm).getD zeroEl).dflt=x.id)))=N
  generalize decide (x.cond=[])=C
  generalize (((!decide ((CX x.cond).2.2=(0:Int))) || (!decide ((HZ (CX x.cond).1 m.vars).2=(0:Int)))) || (!decide (((HZ (CX x.cond).1 m.vars).1.toNat:Int)=2)))=G
  cases N<;>cases C<;>cases G<;>rfl
 unfold RN YE;rw [hA,hB]
 cases ffE (KC m) m.els<;>rfl
theorem s6 (m:Md):PL m=LD m:=by
 unfold PL LD UM SC;rw [sN,q6,gX,oH,oL,i6,jG]
 cases h1:FG m with
 | some k=>rfl
 | none=>
  cases h4:ffE (IZ m) m.els with
  | some k=>
   cases ffE (VS m) m.els with
   | some j=>rfl
   | none=>
    cases ffF (L4 m) m.fls with
    | some j=>rfl
    | none=>rfl
  | none=>rw [r7 h4,nQ (nN h1)]
section
theorem eV (m:Md):j5 m=GU m:=by
 unfold j5 GU;rw [s6]
 by_cases h:(LD m).2.2=0
 ·have R:=l8 h
  have hc:m.fls.all JY=true:=Ci.2 λy hy=>by
   have h6:=R.six2 y hy;unfold MS at h6
   unfold JY
   split
   ·rename_i hn
    split at h6
    ·have h7:TE m.vars y.cond=true:=by simpa [hn] using h6
     unfold TE at h7
     simp only [Bh,decide_eq_true_eq] at h7
     simp [h7.1.1]
    simp only [decide_eq_true_eq] at h6
    simp [h6] at hn
   rfl
  rw [hc,h];rfl
 simp [h]
theorem zG (l:List Fl) (k:Kz):D2 l k=(E4 l k).map (λu:Fl=>u.id):=by
 induction l with
 | nil=>rfl
 | cons f r ih=>
  unfold D2 E4;rw [Cw]
  by_cases h:f.tg=k
  ·rw [if_pos h,if_pos (by simpa using h),Cj,ih];rfl
  rw [if_neg h,if_neg (by simpa using h),ih];rfl
theorem uJ {l:List Fl} {k:Kz} {x:Fl} (h:EV l k=some x):x∈l∧x.id=k:=by
 induction l with
 | nil=>cases h
 | cons y r ih=>
  unfold EV at h
  split at h
  ·rename_i hy
   injection h with h;subst h;exact ⟨Bc,hy⟩
  exact ⟨Ap _ (ih h).1,(ih h).2⟩
theorem uI {l:List Fl} {k:Kz} (h:EV l k=none):∀x∈l,x.id≠k:=by
 induction l with
 | nil=>intro x hx;cases hx
 | cons y r ih=>
  unfold EV at h
  split at h
  ·cases h
  rename_i hy
  intro x hx;rcases Ak.1 hx with rfl|hx
  ·exact hy
  exact ih h x hx
theorem jI {l:List El} {k:Kz} (h:AF l k=none):∀x∈l,x.id≠k:=by
 induction l with
 | nil=>intro x hx;cases hx
 | cons y r ih=>
  unfold AF at h
  split at h
  ·cases h
  rename_i hy
  intro x hx;rcases Ak.1 hx with rfl|hx
  ·exact hy
  exact ih h x hx
section
variable {m:Md} {c:CrA} (R:Rl m) (Z:Cz m c)
include R Z
theorem yA (k:Kz):(AF m.els k).getD zeroEl=c.atf k∧(AF m.els k).isSome=c.isA k:=by
 rw [Z.eA,Z.eB]
 cases h:AF m.els k with
 | some x=>obtain ⟨hx,rfl⟩:=XK h;exact ⟨(R.at_mem hx).symm,(R.isA_mem hx).symm⟩
 | none=>have:=Y6 (m:=m) (jI h);exact ⟨this.1.symm,this.2.1.symm⟩
theorem a1p (k:Kz):(EV m.fls k).getD zeroFl=c.flf k∧(EV m.fls k).isSome=c.isF k:=by
 rw [Z.eL,Z.eM]
 cases h:EV m.fls k with
 | some x=>obtain ⟨hx,rfl⟩:=uJ h;exact ⟨(R.fl_mem hx).symm,(R.isF_mem hx).symm⟩
 | none=>have:=a2E (m:=m) (uI h);exact ⟨this.1.symm,this.2.symm⟩
theorem a1n {k:Kz} (h:c.isA k=true):BJ m.fls k=c.outs k:=by
 rw [Z.eB] at h
 obtain ⟨x,hx,rfl⟩:=a1K h;rw [VA R Z hx,RR]
theorem a2q {x:El} (hx:x∈m.els):D2 m.fls x.id=c.ins x.id:=by
 rw [uQ R Z hx,zG]
end
theorem XD (m:Md) (id:Kz):∀l:List Fl,GV m.els id l=S3 m id l
 | []=>rfl
 | u::r=>by
  unfold GV S3;rw [XD m id r]
  by_cases h:u.tg=id<;>simp [h]
theorem oG (m:Md) (id:Kz):(U7 m id).isSome=(PX m id).2:=by
 unfold U7 PX
 split
 ·rfl
 rw [XD]
 cases S3 m id m.fls<;>rfl
theorem cB (m:Md) (id:Kz):B4 m.els id=D7 m id:=by
 unfold D7
 generalize m.els=l
 induction l with
 | nil=>rfl
 | cons x r ih=>
  unfold B4
  split
  ·rename_i h
   rw [Cw,if_pos h,Cj,ih]
  rename_i h
  rw [Cw,if_neg h,ih]
theorem mF : ∀(l v:List Bd),TX l v=IQ l v:=by
 intro l v;unfold TX
 split
 ·rename_i h
  refine (SL λe=>?_).symm;rw [e] at h;simp at h
 rename_i h
 have hl:l.length=v.length:=by
  have:=odt (BO (Cg.2 h))
  omega
 clear h
 induction l generalizing v with
 | nil=>
  cases v with
  | nil=>rfl
  | cons b s=>simp at hl
 | cons a r ih=>
  cases v with
  | nil=>simp at hl
  | cons b s=>
   have:=ih s (by simpa using hl)
   unfold TY IQ VP
   by_cases h1:a.name=b.name<;>by_cases h2:a.v.kind.toNat=b.v.kind.toNat<;>by_cases h3:chk a.v=0<;>simp_all
section
variable {m:Md} {c:CrA} (R:Rl m) (Z:Cz m c)
include R Z
theorem a1o (k:Kz):((decide (((c.atf k).kind.toNat:Int)=5))&&(decide (1<((BJ m.fls (c.atf k).id).length:Int))))=((decide (((c.atf k).kind.toNat:Int)=5))&&(decide (1<((c.outs (c.atf k).id).length:Int)))):=by
 rcases gJ m k with ⟨x,hx,rfl⟩|h
 ·rw [ZQ R Z hx,VA R Z hx,RR]
 rw [Z.eA,(Y6 h).1];rfl
theorem WP (t:Tk):IP m t=HK m c t:=by
 have ha:∀k,(AF m.els k).getD zeroEl=c.atf k:=λk=>(yA R Z k).1
 have hb:∀k,(AF m.els k).isSome=c.isA k:=λk=>(yA R Z k).2
 have hf:∀k,(EV m.fls k).getD zeroFl=c.flf k:=λk=>(a1p R Z k).1
 have hg:∀k,(EV m.fls k).isSome=c.isF k:=λk=>(a1p R Z k).2
 unfold IP HK;simp only [ha,hb,hf,hg,oG,a1o R Z]
 by_cases hl:t.loc=[]
 ·have s1:Tk.same t ⟨t.id,[],t.on,0,0,[],0,1,91⟩=(decide (t.born=(0:Int))&&(decide (t.tries=(0:Int))&&(decide (t.worker=[])&&(decide (t.until_=(0:Int))&&(decide ((t.inc.toNat:Int)=1)&&decide (t.err=(91:Int))))))):=by simp [Tk.same,hl]
  have s0:Tk.same t ⟨t.id,[],t.on,0,0,[],0,0,0⟩=(decide (t.born=(0:Int))&&(decide (t.tries=(0:Int))&&(decide (t.worker=[])&&(decide (t.until_=(0:Int))&&(decide ((t.inc.toNat:Int)=0)&&decide (t.err=(0:Int))))))):=by simp [Tk.same,hl]
  have hd:decide (t.loc=[])=true:=by simpa using hl
  rw [s1,s0,hd,if_pos rfl,if_pos rfl]
  generalize ((decide (((c.atf (c.flf t.on).tg).kind.toNat:Int)=5))&&(decide (1<((c.outs (c.atf (c.flf t.on).tg).id).length:Int))))=a1
  generalize decide (((c.atf (c.flf t.on).tg).kind.toNat:Int)=6)=a2
  generalize c.isF t.on=a3
  generalize decide (t.born=(0:Int))=a4
  generalize decide (t.tries=(0:Int))=a5
  generalize decide (t.worker=[])=a6
  generalize decide (t.until_=(0:Int))=a7
  generalize decide ((t.inc.toNat:Int)=1)=a8
  generalize decide (t.err=(91:Int))=a9
  generalize decide ((t.inc.toNat:Int)=0)=a10
  generalize decide (t.err=(0:Int))=a11
  cases a1<;>cases a2<;>cases a3<;>cases a4<;>cases a5<;>cases a6<;>cases a7<;>simp
 have s2:Tk.same t ⟨t.id,t.loc,[],t.born,t.tries,[],0,2,0⟩=(decide (t.on=[])&&(decide (t.worker=[])&&(decide (t.until_=(0:Int))&&(decide ((t.inc.toNat:Int)=2)&&decide (t.err=(0:Int)))))):=by simp [Tk.same]
 have s3:Tk.same t ⟨t.id,t.loc,[],t.born,t.tries,t.worker,t.until_,0,0⟩=(decide (t.on=[])&&(decide ((t.inc.toNat:Int)=0)&&decide (t.err=(0:Int)))):=by simp [Tk.same]
 have s4:Tk.same t ⟨t.id,t.loc,[],t.born,0,[],0,0,0⟩=(decide (t.on=[])&&(decide (t.tries=(0:Int))&&(decide (t.worker=[])&&(decide (t.until_=(0:Int))&&(decide ((t.inc.toNat:Int)=0)&&decide (t.err=(0:Int))))))):=by simp [Tk.same]
 have t1:decide ((0:Int)<t.tries)=(decide ((0:Int)≤t.tries) && !decide (t.tries=(0:Int))):=by by_cases h:t.tries=0<;>by_cases h2:0≤t.tries<;>simp [h,h2]<;>omega
 have t2:decide (t.tries=(0:Int))=true→decide ((0:Int)≤t.tries)=true∧decide (t.tries≤(100:Int))=true:=λh=>by have:=odt h;rw [this];decide
 have hd:decide (t.loc=[])=false:=by simpa using hl
 rw [s2,s3,s4,t1,hd,if_neg Gd,if_neg Gd]
 revert t2
 generalize decide (((c.atf t.loc).kind.toNat:Int)=4)=a1
 generalize decide (((c.atf t.loc).kind.toNat:Int)=8)=a2
 generalize ((decide (((c.atf t.loc).kind.toNat:Int)=3)) || (decide (((c.atf t.loc).kind.toNat:Int)=7)))=a3
 generalize c.isA t.loc=a4
 generalize decide (t.on=[])=a5
 generalize decide (t.tries=(0:Int))=a6
 generalize decide (t.worker=[])=a7
 generalize decide (t.until_=(0:Int))=a8
 generalize decide ((t.inc.toNat:Int)=2)=a9
 generalize decide (t.err=(0:Int))=a10
 generalize decide ((t.inc.toNat:Int)=0)=a11
 generalize decide ((0:Int)≤t.tries)=a12
 generalize decide (t.tries≤(100:Int))=a13
 generalize (PX m t.loc).2=a14
 intro t2
 cases a1<;>cases a2<;>cases a4<;>cases a5<;>cases a6<;>cases a10<;>cases a7<;>cases a8<;>cases a9<;>first|(simp_all;done)|(simp_all;cases a11<;>cases a12<;>cases a13<;>rfl)
theorem mC (t:Tk):FM m t=EI m c t:=by
 unfold FM EI
 split
 ·rfl
 have hp:dV m t=aX c t:=by
  unfold dV aX;rw [(yA R Z t.loc).1]
  split
  ·rfl
  split
  ·rename_i h7
   have hA:c.isA t.loc=true:=by
    rcases gJ m t.loc with ⟨x,hx,he⟩|h
    ·rw [←he,Z.eB];exact R.isA_mem hx
    rw [Z.eA,(Y6 h).1] at h7;simp [zeroEl] at h7
   rw [a1n R Z hA];exact Fd λk _=>by rw [(a1p R Z k).1]
  rfl
 have hB:B4 m.els=D7 m:=funext λk=>cB m k
 rw [hp,hB,UF,Dy,Fj,Eo,Bv,By]
end
theorem Y5 (nm:Kz):∀(l:List Bd) (j:Nat),EK l nm=(ffN (λ(_:Nat) (b:Bd) => !(decide (b.name=nm))) j l).map (·.v)
 | [],_=>rfl
 | x::r,j=>by
  unfold EK ffN
  by_cases h:x.name=nm
  ·rw [if_pos h,if_neg (by simp [h])];rfl
  rw [if_neg h,if_pos (by simp [h])];exact Y5 nm r (j+1)
section
variable {m:Md} {c:CrA} (R:Rl m) (Z:Cz m c)
include R Z
theorem YO {t:Tk} {k:Kz} (hk:k∈EI m c t) (vars:List Bd):HH vars t.born ((AF m.els k).getD zeroEl)=GR c k t.born vars:=by
 obtain ⟨x,hx,hi,ha⟩:=(VN R Z (.inl hk)).2;have hf:∀nm,EK vars nm=YK vars nm:=λnm=>Y5 nm vars 0
 rw [(yA R Z k).1,ha];unfold HH GR jJ;rw [ha,hf,hi]
 by_cases h1:(x.ev.toNat:Int)=1
 ·have h2:¬(x.ev.toNat:Int)=2:=by omega
  simp [h1]
 simp [h1]
theorem YN {t:Tk} (vars:List Bd):∀l:List Kz,(∀k∈l,k∈EI m c t)→Q2 m t vars l=VM c t vars l
 | [],_=>rfl
 | k::r,h=>by
  unfold Q2 VM;rw [YO R Z (h k Bc) vars,YN vars r λz hz=>h z (Ap _ hz)]
theorem gQ (t:Tk) (vars:List Bd):GC m vars t=D5 m c t vars:=by
 unfold GC D5;rw [WP R Z,mC R Z,YN R Z vars _ λk hk=>hk]
 split
 ·rfl
 have:(EI m c t).map (λk=>(HH vars t.born ((AF m.els k).getD zeroEl)).1)=(EI m c t).map (λk=>(GR c k t.born vars).1):=Fd λk hk=>by rw [YO R Z hk]
 rw [this];rfl
end
section
variable {m:Md} {c:CrA} (R:Rl m) (Z:Cz m c)
include R Z
theorem qB (i:In) (next k:Int) (q:Nat) (y:Tk):(if R6 m i next k q y=true then false else if (((decide (y.worker=[]))&&(!decide (y.until_=(0:Int)))) || ((!decide (y.worker=[]))&&(((!(B6 y.worker)) || (decide (y.until_<(0:Int)))) || (decide ((k+(1048576:Int))<y.until_)))))=true then false else true)=MK m c i next k true q y:=by
 have n1:∀a b:Int,decide (a<b) = !decide (b≤a):=λa b=>by by_cases h:a<b<;>simp [h]<;>omega
 unfold R6 MK OA;rw [WP R Z];simp only [n1];have hq:decide ((q:Int)≤0)=decide ((q:Int)=0):=by by_cases h:(q:Int)=0<;>simp [h]<;>omega
 have hw:decide (y.worker=[])=true→B6 y.worker=false:=λh=>by rw [odt h];rfl
 rw [hq]
 revert hw
 generalize decide ((q:Int)=0)=a1
 generalize decide (y.id≤aY i q)=a2
 generalize decide ((1:Int)≤y.id)=a3
 generalize decide (y.id≤next)=a4
 generalize decide (y.id=i.id)=a5
 generalize HK m c y=a6
 generalize decide ((0:Int)≤y.born)=a7
 generalize decide (y.born≤k)=a8
 generalize decide (y.worker=[])=a9
 generalize decide (y.until_=(0:Int))=a10
 generalize B6 y.worker=a11
 generalize decide ((0:Int)≤y.until_)=a12
 generalize decide (y.until_≤k+1048576)=a13
 intro hw
 cases a3
 ·rfl
 cases a4
 ·rfl
 cases a5
 ·cases a1<;>cases a2<;>cases a6<;>first|rfl|(cases a7<;>cases a8<;>first|rfl|(cases a9<;>cases a10<;>cases a11<;>cases a12<;>cases a13<;>first|rfl|exact absurd (hw rfl) AV))
 rfl
omit R Z in
theorem vA (i:In) (next k:Int) (b:Bool) (q:Nat) (y:Tk):MK m c i next k b q y=(b&&MK m c i next k true q y):=by
 cases b
 ·rfl
 rfl
theorem YR (i:In) (next k:Int) (b:Bool):∀(l pre:List Tk),pre++l=i.toks→XP m c i next k b i.toks.length=(XP m c i next k b pre.length&&SM m i next k pre.length l)
 | [],pre,h=>by
  rw [←h,Bv,SM,Io]
 | y::r,pre,h=>by
  have ih:=YR i next k b r (pre++[y]) (by rw [By];exact h);have hy:i.toks[pre.length]?=some y:=by rw [←h,Cc (Ab _),Fy];rfl
  rw [ih,Ah,Gy,XP,hy,SM]
  show (MK m c i next k (XP m c i next k b pre.length) pre.length y&&_)=_
  rw [vA,Dv]
  congr 1
  rw [←qB R Z]
  split
  ·rfl
  split<;>simp
theorem fP (i:In):∀l:List El,(∀x∈l,x∈m.els)→elL m i l=l.all (λx => !(jL c i x))
 | [],_=>rfl
 | x::r,h=>by
  rw [elL,Df,fP i r λy hy=>h y (Ap _ hy),a2q R Z (h x Bc)];unfold jL
  by_cases h6:(x.kind.toNat:Int)=6
  ·have ha:(!(List.any (c.ins x.id) (λf => !(onP i.toks f))))=(c.ins x.id).all (λf=>i.toks.any (λt=>decide (t.on=f))):=by
    rw [List.not_any_eq_all_not];exact Ay _ (funext λf=>by rw [Ga];rfl)
   rw [decide_eq_true h6,ha]
   generalize (c.ins x.id).all (λf=>i.toks.any (λt=>decide (t.on=f)))=b
   generalize r.all _=d
   cases b<;>cases d<;>rfl
  rw [decide_eq_false h6]
  generalize (c.ins x.id).all (λf=>i.toks.any (λt=>decide (t.on=f)))=b
  generalize r.all _=d
  cases b<;>cases d<;>rfl
theorem o3 (i:In) (next k:Int):KN m i next k=I6 m c i next k:=by
 have h1:KN m i next k=(PO m i next k&&(SM m i next k 0 i.toks&&elL m i m.els)):=by
  unfold KN PO LP;rw [mF]
  generalize (SM m i next k 0 i.toks&&elL m i m.els)=Xx
  generalize IQ i.vars m.vars=v
  have n1:∀a b:Int,decide (a<b) = !decide (b≤a):=λa b=>by by_cases h:a<b<;>simp [h]<;>omega
  have hn:decide ((i.toks.length:Int)=0)=decide ((i.toks.length:Int)≤0):=by by_cases h:(i.toks.length:Int)=0<;>simp [h]
  have hs:((!decide (1≤(i.st.toNat:Int))) || (!decide ((i.st.toNat:Int)≤3))) = !(decide ((i.st.toNat:Int)=1) || (decide ((i.st.toNat:Int)=2) || decide ((i.st.toNat:Int)=3))):=by
   by_cases a:(i.st.toNat:Int)=1
   ·simp [a]
   by_cases b:(i.st.toNat:Int)=2
   ·simp [b]
   by_cases d:(i.st.toNat:Int)=3
   ·simp [d]
   simp only [decide_eq_false a,decide_eq_false b,decide_eq_false d]
   by_cases e:(1:Int)≤(i.st.toNat:Int)
   ·simp only [decide_eq_true e,decide_eq_false (show ¬(i.st.toNat:Int)≤3 by omega)];rfl
   simp only [decide_eq_false e];rfl
  have h12:decide ((i.st.toNat:Int)=1)=true→decide ((i.st.toNat:Int)=2)=false∧decide ((i.st.toNat:Int)=3)=false:=λh=>by have:=odt h;rw [this];decide
  simp only [n1,hn,hs]
  revert h12
  generalize decide ((i.st.toNat:Int)=1)=s1
  generalize decide ((i.st.toNat:Int)=2)=s2
  generalize decide ((i.st.toNat:Int)=3)=s3
  generalize decide ((i.toks.length:Int)≤0)=n
  generalize decide (0≤next)=a1
  generalize decide (next≤2147483647)=a2
  generalize decide (0≤k)=a3
  generalize decide (k≤1099511627776)=a4
  generalize decide (i.mdl=m.id)=a5
  generalize decide (1≤i.id)=a6
  generalize decide (i.id≤next)=a7
  intro h12
  have h0:((((((((!a1) || (!a2)) || (!a3)) || (!a4)) || (!a5)) || (!a6)) || (!a7)) || (!v)) = !(((((((a1&&a2)&&a3)&&a4)&&a5)&&a6)&&a7)&&v):=by
   cases a1<;>cases a2<;>cases a3<;>cases a4<;>cases a5<;>cases a6<;>cases a7<;>cases v<;>rfl
  have h9:(if (((((((a1&&a2)&&a3)&&a4)&&a5)&&a6)&&a7))=true then v else false)=(((((((a1&&a2)&&a3)&&a4)&&a5)&&a6)&&a7)&&v):=by
   cases (((((((a1&&a2)&&a3)&&a4)&&a5)&&a6)&&a7))<;>rfl
  rw [h0,h9]
  generalize (((((((a1&&a2)&&a3)&&a4)&&a5)&&a6)&&a7)&&v)=g
  cases s1
  ·cases g<;>cases s2<;>cases s3<;>cases n<;>cases Xx<;>rfl
  obtain ⟨h2,h3⟩:=h12 X;subst h2 h3
  cases g<;>cases n<;>cases Xx<;>rfl
 rw [h1,fP R Z i m.els λ_ h=>h];unfold I6
 have:=YR R Z i next k (PO m i next k) i.toks [] X
 rw [this,Dv];rfl
end
end
section
section
variable {α β:Type} {f:α→Int}
theorem qV {l:List α} (h:Srt f l 0 l.length):l.Pairwise (λx y=>f x≤f y):=by
 rw [Ez];intro i j hi hj hij
 have:=h.le (Ae i) (Gn hij) hj
 rwa [HB (Ao hi),HB (Ao hj)] at this
theorem Stf.symm {A B:List α} (h:Stf f A B):Stf f B A:=λk=>(h k).symm
theorem UY {A B:List α} (h:Stf f A B) {x:α} (hx:x∈A):x∈B:=by
 have:x∈A.filter (λy=>decide (f y=f x)):=Dg.2 ⟨hx,by simp⟩
 rw [←h (f x)] at this
 exact (Dg.1 this).1
theorem dA : ∀{A B:List α},A.Pairwise (λx y=>f x≤f y)→B.Pairwise (λx y=>f x≤f y)→Stf f A B→A=B
 | [],[],_,_,_=>rfl
 | [],b::B,_,_,h=>by have:=UY h.symm (Bc (a:=b) (l:=B));cases this
 | a::A,[],_,_,h=>by have:=UY h (Bc (a:=a) (l:=A));cases this
 | a::A,b::B,hA,hB,h=>by
  have ha:=Hl.1 hA;have hb:=Hl.1 hB
  have h1:f b≤f a:=by
   rcases Ak.1 (UY h (Bc (a:=a) (l:=A))) with e|e
   ·rw [e];exact Hd _
   exact hb.1 a e
  have h2:f a≤f b:=by
   rcases Ak.1 (UY h.symm (Bc (a:=b) (l:=B))) with e|e
   ·rw [e];exact Hd _
   exact ha.1 b e
  have he:f a=f b:=Int.le_antisymm h2 h1;have e:=h (f a);rw [Dh (by simp [he]),Dh (by simp)] at e
  injection e with e1 e2
  subst e1;rw [dA ha.2 hb.2 λk=>?_]
  by_cases hk:f b=k
  ·subst hk;exact e2
  have:=h k
  rwa [Di (by simpa using hk),Di (by simpa using hk)] at this
end
end
theorem zV {ap:Pa→Wt→Bool} {x:Pa} {s:St} {h:Ht} (hh:LT ap x s=some h):h.pl=s.pl∧h.tok=s.tk.id:=by
 unfold LT at hh
 split at hh
 ·obtain ⟨wt,_,rfl⟩:=Dd.1 hh;exact ⟨X,X⟩
 cases hh
section
section
variable {α:Type} (f:α→Int)
def KU (l:List α) (t:Int):Nat→Nat
 | 0=>0
 | n+1=>if t<Kf f l n then KU l t n else n+1
def UO (l:List α) (h:α):List α:=l.take (KU f l (f h) l.length)++h::l.drop (KU f l (f h) l.length)
variable {f}
theorem lF (l:List α) (t:Int):∀n,KU f l t n≤n
 | 0=>Ab _
 | n+1=>by
  unfold KU
  split
  ·exact Nat.le_succ_of_le (lF l t n)
  exact Ab _
theorem lG (l:List α) (t:Int):∀n q,KU f l t n≤q→q<n→t<Kf f l q
 | 0,q,_,h=>absurd h (Dl _)
 | n+1,q,h,hq=>by
  unfold KU at h
  split at h
  ·rename_i ht
   by_cases hn:q=n
   ·rw [hn];exact ht
   exact lG l t n q h A0
  omega
theorem dW (l:List α) (t:Int):∀n,KU f l t n=0∨Kf f l (KU f l t n-1)≤t
 | 0=>.inl rfl
 | n+1=>by
  unfold KU
  split
  ·exact dW l t n
  rename_i ht
  exact .inr (Int.not_lt.1 ht)
theorem zB {l:List α} (h:l.Pairwise (λx y=>f x≤f y)) {i j:Nat} (hij:i≤j) (hj:j<l.length):Kf f l i≤Kf f l j:=by
 rcases Nat.lt_or_eq_of_le hij with h1|h1
 ·rw [HB (Ao (Nat.lt_trans h1 hj)),HB (Ao hj)];exact Ez.1 h i j _ _ h1
 rw [h1];exact Hd _
theorem sG {l:List α} (h:l.Pairwise (λx y=>f x≤f y)) (t:Int):∀x∈l.take (KU f l t l.length),f x≤t:=λx hx=>by
 obtain ⟨i,hi⟩:=Cd hx;have hlt:=(Aj.1 hi).1;rw [Bl] at hlt
 have hil:i<KU f l t l.length:=by omega
 rw [Cb hil] at hi
 rcases dW (f:=f) l t l.length with h0|h0
 ·omega
 have hle:=lF (f:=f) l t l.length;have h1:=zB h (i:=i) (j:=KU f l t l.length-1) A0 A0;rw [HB hi] at h1
 exact Jc h1 h0
theorem WO {l:List α} (t:Int):∀x∈l.drop (KU f l t l.length),t<f x:=λx hx=>by
 obtain ⟨i,hi⟩:=Cd hx;rw [Bt] at hi
 have:=lG l t l.length _ (Cu _ i) (Aj.1 hi).1
 rwa [HB hi] at this
theorem tP {l:List α} (h:l.Pairwise (λx y=>f x≤f y)) (a:α):(UO f l a).Pairwise (λx y=>f x≤f y):=by
 unfold UO;rw [List.pairwise_append,Hl];refine ⟨h.sublist (List.take_sublist _ _),⟨λy hy=>Gt (WO (f a) y hy),h.sublist (List.drop_sublist _ _)⟩,λx hx y hy=>?_⟩;have h1:=sG h (f a) x hx;rcases Ak.1 hy with e|e
 ·rw [e];exact h1
 exact Jc h1 (Gt (WO (f a) y e))
theorem zE {A l:List α} (h:Stf f A l) (a:α):Stf f (A++[a]) (UO f l a):=λk=>by
 unfold UO;have hl:=h k
 conv at hl=>lhs;rw [←Cq (KU f l (f a) l.length) l,Cn]
 rw [Cn,Cn]
 by_cases hk:f a=k
 ·have hd:(l.drop (KU f l (f a) l.length)).filter (λx=>decide (f x=k))=[]:=Gs.2 λx hx=>by
   have:=WO (f a) x hx
   simp only [decide_eq_true_eq];omega
  rw [hd,Bv] at hl
  rw [Dh (by simpa using hk),hd,hl,Dh (by simpa using hk),List.filter_nil]
 rw [Di (by simpa using hk),Di (by simpa using hk),List.filter_nil,Bv,←hl]
theorem tR : ∀(U A l:List α),l.Pairwise (λx y=>f x≤f y)→Stf f A l→(U.foldl (UO f) l).Pairwise (λx y=>f x≤f y)∧Stf f (A++U) (U.foldl (UO f) l)
 | [],A,l,h1,h2=>⟨h1,by rw [Bv];exact h2⟩
 | a::U,A,l,h1,h2=>by
  have:=tR U (A++[a]) (UO f l a) (tP h1 a) (zE h2 a)
  rwa [By] at this
theorem YD {β:Type} {g:β→Int} {F:α→Option β} (hg:∀x y,F x=some y→g y=f x) {A B:List α} (h:Stf f A B):Stf g (A.filterMap F) (B.filterMap F):=λk=>by
 have hh:∀C:List α,(C.filterMap F).filter (λy=>decide (g y=k))=(C.filter (λx=>decide (f x=k))).filterMap F:=by
  intro C
  induction C with
  | nil=>rfl
  | cons x r ih=>
   cases hx:F x with
   | none=>
    rw [Gi hx,ih]
    by_cases hk:f x=k
    ·rw [Dh (by simpa using hk),Gi hx]
    rw [Di (by simpa using hk)]
   | some y=>
    rw [Gh hx]
    by_cases hk:f x=k
    ·rw [Dh (by simpa [hg x y hx] using hk),Dh (by simpa using hk),Gh hx,ih]
    rw [Di (by simpa [hg x y hx] using hk),Di (by simpa using hk),ih]
 rw [hh,hh,h k]
theorem WT {β:Type} {g:β→Int} {F:α→Option β} (hg:∀x y,F x=some y→g y=f x) {A:List α} (h:A.Pairwise (λx y=>f x≤f y)):(A.filterMap F).Pairwise (λx y=>g x≤g y):=by
 rw [List.pairwise_filterMap];exact h.imp λ{a b} hab x hx y hy=>by rw [hg _ _ hx,hg _ _ hy];exact hab
end
def hkey (h:Ht):Int:=h.tok
def a0G (l:List Pa) (ap:Pa→Wt→Bool):List Ht:=(HI l 0).filterMap λs=>(l[s.pl.toNat]?).bind λx=>LT ap x s
theorem tT {l:List Pa} {ss:List St} (h:SsP l ss) (ap:Pa→Wt→Bool):DV l ap ss=(a0G l ap).foldl (UO hkey) []:=by
 have hg:∀(x:St) (y:Ht),((l[x.pl.toNat]?).bind λz=>LT ap z x)=some y→hkey y=wV x:=λx y e=>by
  cases hz:l[x.pl.toNat]? with
  | none=>rw [hz] at e;cases e
  | some z=>rw [hz] at e;exact (zV e).2
 have h0:=tR (f:=hkey) (a0G l ap) [] [] List.Pairwise.nil (λ_=>X);rw [Fg] at h0
 have h1:=YD hg h.st;have h2:=WT hg (qV h.s);refine dA h2 h0.1 λk=>?_
 rw [h0.2 k];exact (h1 k).symm
end
section
def zeroHt : Ht:=⟨0,0,[]⟩
def uG : List Ht→Kv
 | []=>.tuple #[.agg zeroHt.cells.toArray,.bool false]
 | h::_=>.tuple #[.agg h.cells.toArray,.bool true]
theorem i8 {P:Lw} {t g off:Nat} {v:Kv} {w:Kw} (ht:L9 P t=true) (hc:Cell w.heap g off v):(loadVar t ⟨g,off,none⟩).run P w=.ok v w:=by
 have hcell:=hc.get w X;unfold L9 at ht
 have ha:(isAgg t).run P w=.ok false w:=by
  cases hu:P.underlying t with
  | none=>simp [hu] at ht
  | some d=>
   unfold isAgg;rw [Sem.run_bind,run_underlying hu w]
   cases d<;>simp_all
 simp only [Sem.run_bind,Result.andThen_ok,loadVar,ha,Db,if_false]
 simp [hcell]
theorem MM {w w':Kw} {F:List Nat} (h:∀g∈F,g<w.heap.size→w'.heap[g]?=w.heap[g]?) {g:Nat} {o:Obj} (hg:g∈F) (ho:w.heap[g]?=some o):w'.heap[g]?=some o:=(h g hg (An.1 ho).1).trans ho
def JFi (rc:Loop) (gd lr g4 g5:Nat) (hs:List Ht) (F:List Nat) (w:Kw):Prop:=F=[gd,lr,g4,g5]∧w.heap[gd]?=some (.deferred (some [])) ∧
 ((hs=[]∧w.heap[lr]?=some (.loop rc)∧Blk w g4 32 zeroHt.cells∧Blk w g5 4 [.bool false])∨∃h,hs=[h]∧w.heap[lr]?=some (.loop { rc with state:=.done,pending:=some .ret })∧Blk w g4 32 h.cells∧Blk w g5 4 [.bool true])
theorem tJ (rc:Loop) (gd lr g4 g5:Nat) (hs:List Ht) (F:List Nat) (w w':Kw) (h:∀g∈F,g<w.heap.size→w'.heap[g]?=w.heap[g]?) (hJ:JFi rc gd lr g4 g5 hs F w):JFi rc gd lr g4 g5 hs F w':=by
 obtain ⟨rfl,h1,h2⟩:=hJ;refine ⟨X,MM h (by simp) h1,?_⟩;rcases h2 with ⟨a,b,c,d⟩|⟨x,a,b,c,d⟩
 ·exact .inl ⟨a,MM h (by simp) b,MM h (by simp) c,MM h (by simp) d⟩
 exact .inr ⟨x,a,MM h (by simp) b,MM h (by simp) c,MM h (by simp) d⟩
namespace Sf
section
variable {D:List Deferred} {P:Lw} {Q:Exit→Act→Kw→Prop} {n:Nat} {e:Env} {w:Kw}
theorem YX {g:Lz} {ps:Array Nat} {asg body:Code} {f:FuncId} {cs:Kx} (hg:ev e g=some (.func (.func f) #[] cs.toArray)) (hc:∀(ar:Array Kv) (w:Kw),(callFunc f ar).run P w=.ok (.enter f ar) w)
 (h:∀fn tm rc,tm.size=n→(∀k v,e.get k=some v→tm[k]?=some v)→rc=WG w fn tm ps asg body→Calls P f ((.func (.yield (w.heap.size+1)) #[] #[])::cs).toArray ((w.alloc (.deferred (some []))).alloc (.loop rc))
  λx w3=>∃v r,x=.returned v∧w3.heap[w.heap.size+1]?=some (.loop r)∧r.state≠.busy∧((r.pending=none∧QX ({ target:=.collected w.heap.size,args := #[] }::D) Q .normal n e (w3.putObj (w.heap.size+1) (.loop { r with state:=.exhausted }))) ∨
   (r.pending=some .ret∧QX ({ target:=.collected w.heap.size,args := #[] }::D) Q .ret n e (w3.putObj (w.heap.size+1) (.loop { r with state:=.exhausted }))))) :
 Sx none D P (Code.rangeFunc g ps asg body) Q n e w:=.mk λa ha=>by
 refine wpIn_rangeFunc λfn _=>?_
 have hu:a.eval g=.func (.func f) #[] cs.toArray:=ha.eval _ _ hg
 refine ⟨w.heap.size+1,[{ target:=.collected w.heap.size,args := #[] }],TI w fn a.tmps ps asg body,{ target:=.fn (.func f) cs.toArray,args := #[] ++ #[.func (.yield (w.heap.size+1)) #[] #[]] },TI w fn a.tmps ps asg body,f,((.func (.yield (w.heap.size+1)) #[] #[])::cs).toArray,TI w fn a.tmps ps asg body,
  by rw [dP,run_enterLoop_outer];rfl,?_,λf' _=>U6 _ f',?_,λhd=>by rw [RP] at hd;(cases hd),?_⟩
 ·simp only [resolve,hu,Deferred.ofValue,Sem.run_pure];simp [Act.eval]
 ·unfold invoke
  simp [hc]
 refine (XV (h fn a.tmps _ ha.size ha.get X) 1).mono λx w3 hR=>?_
 obtain ⟨v,r,rfl,hr,hb,hq⟩:=hR;refine ⟨_,_,run_endLoop hr hb,?_⟩;have hA:∀a:Act,Agr D n e a→Agr ({ target:=.collected w.heap.size,args := #[] }::D) n e { a with defers:=[{ target:=.collected w.heap.size,args := #[] }]++a.defers }:=λa ha=>⟨ha.size,by show [({ target:=.collected w.heap.size,args := #[] }:Deferred)]++a.defers=_;rw [ha.defers];rfl,ha.get⟩
 rcases hq with ⟨hp,hq⟩|⟨hp,hq⟩
 ·have Xx:=hq.run _ (hA a ha);rw [hp] at Xx ⊢
  exact Xx
 have Xx:=hq.run _ (hA a ha);rw [hp] at Xx ⊢
 exact wpIn_ret Xx
theorem dT {fn:Func} {R:Ending→Kw→Prop} {t ty t2 ty2 g g2 b m:Nat} {v:Kv} {d:TypeDesc} {xs:Kx} (hr:fn.results = #[.cell t ty,.cell t2 ty2]) (hv:e.get t=some (pg g)) (hv2:e.get t2=some (pg g2)) (hrd:Rd (w.putObj b (.deferred none)) (some ⟨g,0,none⟩) m xs)
 (hc2:Cell (w.putObj b (.deferred none)).heap g2 0 v) (hu:P.underlying ty=some d) (hd:d.isRow=true) (hi:(P.info? ty).map (·.size)=some m) (hs:L9 P ty2=true) (hb:w.heap[b]?=some (.deferred (some []))) (h:R (.returned (.tuple #[.agg xs.toArray,v])) (w.putObj b (.deferred none))) :
 QX [{ target:=.collected b,args := #[] }] (bodyPostM Fence.wide 2 P fn R) .ret n e w:=.mk λa ha=>by
 have hc:(w.putObj b (.deferred none)).rangeAt g 0 xs:=λj v hv=>by
  have hj:0<m:=by have:=(Aj.1 hv).1;have:=hrd.1;omega
  obtain ⟨b',off',e,hc⟩:=hrd.2 hj
  injection e with e;injection e with e1 e2 _;subst e1;subst e2
  exact hc j v hv
 have hrun:=run_loadVar_mid (P:=P) (w.putObj b (.deferred none)) g 0 ty xs d hc hu hd (by rw [hrd.1];exact hi);have hrun2:=i8 (P:=P) hs hc2
 have:(results fn a.tmps).run P (w.putObj b (.deferred none))=.ok (.tuple #[.agg xs.toArray,v]) (w.putObj b (.deferred none)):=by simp [results,hr,ha.get t _ hv,ha.get t2 _ hv2,asAddr,hrun,hrun2]
 show LeavesInM _ _ _ _ _ _ a.defers _ _
 rw [ha.defers];exact ⟨by simp,.inl ⟨b,_,rfl,run_takeDeferred hb,⟨_,this,h⟩⟩⟩
end
end Sf
end
end Go.Proofs.YtppmdnmjepkfaaaGreatDoor
