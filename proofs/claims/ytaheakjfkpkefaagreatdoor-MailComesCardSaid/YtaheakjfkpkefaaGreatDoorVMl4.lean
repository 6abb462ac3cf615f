/- Lemmas. -/
import Derived.Test.YtaheakjfkpkefaaGreatDoorVMl3
set_option maxHeartbeats 16000000
set_option maxRecDepth 100000
namespace Go.Proofs.YtaheakjfkpkefaaGreatDoor
open Go.ChangeShapes Go.WideShapes Go.ChangeAt Go.RowKit Go.Deep Go.Joins
open Tryz
section
theorem U4 : prog.cellsOf 64=10:=by kernel_rfl
theorem bT : prog.cellsOf 26=4:=by kernel_rfl
structure Pq where
 m:Md
 a:MdA
 i:In
 V:Option Addr
 vc:Nat
 T:Option Addr
 tc:Nat
def Pq.cells (x:Pq):List Value:=Md.cells x.m x.a++In.cells x.i x.V x.T x.vc x.tc
theorem Pq.len (x:Pq):x.cells.length=10:=rfl
structure PqOk (w:World) (x:Pq):Prop where
 str:MdStr x.m
 fb:x.m.fls.length*64≤reachBytes
 eb:x.m.els.length≤reachBytes
 tb:x.i.toks.length≤reachBytes
 vb:x.i.vars.length*56≤reachBytes
 md:MdIn w x.m x.a
 bd:BdOk x.i.vars
 wk:∀t∈x.i.toks,(t.worker.length:Int)<4611686018427387904
 V:Rd w x.V (x.i.vars.length*5) (AD Bd.cells x.i.vars)
 T:Rd w x.T (x.i.toks.length*9) (AD Tk.cells x.i.toks)
theorem PqOk.fr0 {w w':World} {x:Pq} (h:PqOk w x) (hf:Fr0 w w'):PqOk w' x:=⟨h.str,h.fb,h.eb,h.tb,h.vb,h.md.fr0 hf,h.bd,h.wk,h.V.fr0 hf,h.T.fr0 hf⟩
theorem PqOk.b {w:World} {x:Pq} (h:PqOk w x) (hn:x.m.els.length≤300):MdB x.m:=by
 have h1:=h.fb;have h2:=h.str.vars.len;exact ⟨h.str.id,h.str.nm,h.str.vars,by omega,by simp only [reachBytes] at h1;omega,by omega,h.str.els,h.str.fls⟩
section
variable {H:Type} {enc:TypeId × Value→H} {w:World}
theorem TG {t e sz:Nat} {A:Option Addr} {len cap fuel:Nat} {x:DataW H × List MemPlace} (ht:prog.underlying t=some (.slice e)) (hc:prog.cellsOf e=sz) (hpos:0<sz) (h:DataW.trod enc prog w 0 (λ_=>true) true fuel t [.slice A len cap]=some x) (hz:Sized prog t x.1):len*prog.bytesOf e≤reachBytes:=by
 obtain ⟨rows,D,hl,hD,_,hr,_,_,hn,hx,hd⟩:=KH ht hc hpos h;rcases hd with ⟨_,h0,_⟩|⟨sp,hs,_⟩
 ·rw [h0,Nat.zero_mul];exact Nat.zero_le _
 ·rw [hs] at hz
  have h1:=hz ((D.length+sp.length)*prog.bytesOf e) (by simp [DataW.weights,ht]);rw [hD] at h1
  exact Nat.le_trans (Nat.mul_le_mul_right _ (Nat.le_add_right _ _)) h1
theorem pJ : prog.bytesOf 103=56:=by kernel_rfl
theorem pH : prog.bytesOf 109=64:=by kernel_rfl
theorem pG : (1≤prog.bytesOf 64)=True:=eq_true (by decide +kernel)
theorem pI : (1≤prog.bytesOf 95)=True:=eq_true (by decide +kernel)
theorem pD : (1≤prog.bytesOf 56)=True:=eq_true (by decide +kernel)
theorem mW {n b c:Nat} (h:n*b≤c) (hb:1≤b):n≤c:=Nat.le_trans (Nat.le_mul_of_pos_right _ hb) h
theorem rQ {cs:List Value} {fuel:Nat} {d:DataW H} {p:List MemPlace} (hsz:cs.length=5) (hf:DataW.trod enc prog w 0 (λ_=>true) true fuel 62 cs=some (d,p)) (hz:Sized prog 62 d) :
 ∃(m:Md) (a:MdA),cs=Md.cells m a∧MdStr m∧MdIn w m a∧m.fls.length*64≤reachBytes∧m.els.length≤reachBytes:=by
 obtain ⟨xs,n,_,hx,hl,hlen,hfl⟩:=DataW.trod_struct underlying62 hf
 match cs,hsz with
 | [c0,c1,c2,c3,c4],_=>
 match xs,hlen with
 | [y0,y1,y2,y3,y4],_=>
  have k0:DataW.trod enc prog w 0 (λ_=>true) true n 9 (List.take (prog.cellsOf 9) [c0,c1,c2,c3,c4])=some y0:=hfl 0 _ X;have k1:DataW.trod enc prog w 0 (λ_=>true) true n 9 (List.take (prog.cellsOf 9) [c1,c2,c3,c4])=some y1:=hfl 1 _ X;have k2:DataW.trod enc prog w 0 (λ_=>true) true n 24 (List.take (prog.cellsOf 24) [c2,c3,c4])=some y2:=hfl 2 _ X;have k3:DataW.trod enc prog w 0 (λ_=>true) true n 59 (List.take (prog.cellsOf 59) [c3,c4])=some y3:=hfl 3 _ X;have k4:DataW.trod enc prog w 0 (λ_=>true) true n 60 (List.take (prog.cellsOf 60) [c4])=some y4:=hfl 4 _ X;rw [DA] at k0 k1
  rw [N0] at k2
  rw [jD] at k3
  rw [jB] at k4
  injection hx with hx1 hx2
  rw [hx1] at hz
  obtain ⟨s0,e0,d0,_⟩:=DataW.trod_string underlying9 k0;obtain ⟨s1,e1,d1,_⟩:=DataW.trod_string underlying9 k1;obtain rfl:c0=_:=by simpa using e0
  obtain rfl:c1=_:=by simpa using e1
  have z0:=Sized.field (j:=0) underlying62 hz X X;have z1:=Sized.field (j:=1) underlying62 hz X X;have z2:=Sized.field (j:=2) underlying62 hz X X;have z3:=Sized.field (j:=3) underlying62 hz X X;have z4:=Sized.field (j:=4) underlying62 hz X X;rw [d0] at z0
  rw [d1] at z1
  obtain ⟨V,vn,vc,rfl⟩:=KF underlying24 k2;obtain ⟨E,en,ec,rfl⟩:=KF underlying59 k3;obtain ⟨F,fn,fc,rfl⟩:=KF underlying60 k4;obtain ⟨lv,rfl,hbv,hrv⟩:=TH k2 z2;obtain ⟨le,rfl,hbe,hre⟩:=xD k3 z3;have hfb:=TG underlying60 U6 AA k4 z4;rw [pH] at hfb
  have heb:=mW (TG underlying59 U7 AA k3 z3) (of_eq_true pI);obtain ⟨lf,rfl,hbf,hrf⟩:=xC k4 z4;have hlt:=SS;have t0:s0.data.toList.length≤reachBytes:=z0.text;have t1:s1.data.toList.length≤reachBytes:=z1.text;refine ⟨⟨s0.data.toList,s1.data.toList,lv,le,lf⟩,⟨V,vc,E,ec,F,fc⟩,X,⟨by simp only;omega,by simp only;omega,hbv,λx hx=>?_,λx hx=>?_⟩,⟨hrv,hre,hrf⟩,hfb,heb⟩
  ·obtain ⟨h1,h2,h3,h4,h5,h6,h7⟩:=hbe x hx
   constructor<;>omega
  ·obtain ⟨h1,h2,h3,h4⟩:=hbf x hx
   constructor<;>omega
theorem rR {cs:List Value} {fuel:Nat} {d:DataW H} {p:List MemPlace} (hsz:cs.length=5) (hf:DataW.trod enc prog w 0 (λ_=>true) true fuel 33 cs=some (d,p)) (hz:Sized prog 33 d) :
 ∃(i:In) (V T:Option Addr) (vc tc:Nat),cs=In.cells i V T vc tc∧BdOk i.vars∧(∀t∈i.toks,(t.worker.length:Int)<4611686018427387904)∧Rd w V (i.vars.length*5) (AD Bd.cells i.vars)∧Rd w T (i.toks.length*9) (AD Tk.cells i.toks)∧i.toks.length≤reachBytes∧i.vars.length*56≤reachBytes:=by
 obtain ⟨xs,n,_,hx,hl,hlen,hfl⟩:=DataW.trod_struct underlying33 hf
 match cs,hsz with
 | [c0,c1,c2,c3,c4],_=>
 match xs,hlen with
 | [y0,y1,y2,y3,y4],_=>
  have k0:DataW.trod enc prog w 0 (λ_=>true) true n 3 (List.take (prog.cellsOf 3) [c0,c1,c2,c3,c4])=some y0:=hfl 0 _ X;rw [HE] at k0
  obtain ⟨a0,e0,_⟩:=DataW.trod_int underlying3 k0;obtain rfl:c0=_:=by simpa using e0
  have k1:DataW.trod enc prog w 0 (λ_=>true) true n 9 (List.take (prog.cellsOf 9) [c1,c2,c3,c4])=some y1:=hfl 1 _ X;rw [DA] at k1
  obtain ⟨s1,e1,_,_⟩:=DataW.trod_string underlying9 k1;obtain rfl:c1=_:=by simpa using e1
  have k2:DataW.trod enc prog w 0 (λ_=>true) true n 5 (List.take (prog.cellsOf 5) [c2,c3,c4])=some y2:=hfl 2 _ X;rw [pC] at k2
  obtain ⟨a2,e2,_,w2⟩:=DataW.trod_int underlying5 k2;obtain rfl:c2=_:=by simpa using e2
  have k3:DataW.trod enc prog w 0 (λ_=>true) true n 24 (List.take (prog.cellsOf 24) [c3,c4])=some y3:=hfl 3 _ X;have k4:DataW.trod enc prog w 0 (λ_=>true) true n 31 (List.take (prog.cellsOf 31) [c4])=some y4:=hfl 4 _ X;rw [N0] at k3
  rw [bS] at k4
  injection hx with hx1 hx2
  rw [hx1] at hz
  have z3:=Sized.field (j:=3) underlying33 hz X X;have z4:=Sized.field (j:=4) underlying33 hz X X;obtain ⟨V,vn,vc,rfl⟩:=KF underlying24 k3;obtain ⟨T,tn,tc,rfl⟩:=KF underlying31 k4;have hvb:=TG underlying24 OL AA k3 z3;rw [pJ] at hvb
  obtain ⟨lv,rfl,hbv,hrv⟩:=TH k3 z3;have htb:=mW (TG underlying31 U3 AA k4 z4) (of_eq_true pD);obtain ⟨lt,rfl,hbt,hrt⟩:=tF k4 z4;have hlt:=SS;refine ⟨⟨a0,s1.data.toList,UInt8.ofNat a2.toNat,lv,lt⟩,V,T,vc,tc,by rw [XR w2];rfl,hbv,λt ht=>?_,hrv,hrt,htb,hvb⟩
  have:=(hbt t ht).2.2
  omega
theorem rP {cs:List Value} {fuel:Nat} {d:DataW H} {p:List MemPlace} (hsz:cs.length=4) (hf:DataW.trod enc prog w 0 (λ_=>true) true fuel 26 cs=some (d,p)) (hz:Sized prog 26 d) :
 ∃q:Mq,cs=q.cells∧MqOk w q:=by
 obtain ⟨xs,n,_,hx,hl,hlen,hfl⟩:=DataW.trod_struct underlying26 hf
 match cs,hsz with
 | [c0,c1,c2,c3],_=>
 match xs,hlen with
 | [y0,y1,y2,y3],_=>
  have k0:DataW.trod enc prog w 0 (λ_=>true) true n 9 (List.take (prog.cellsOf 9) [c0,c1,c2,c3])=some y0:=hfl 0 _ X;have k1:DataW.trod enc prog w 0 (λ_=>true) true n 9 (List.take (prog.cellsOf 9) [c1,c2,c3])=some y1:=hfl 1 _ X;have k2:DataW.trod enc prog w 0 (λ_=>true) true n 24 (List.take (prog.cellsOf 24) [c2,c3])=some y2:=hfl 2 _ X;have k3:DataW.trod enc prog w 0 (λ_=>true) true n 3 (List.take (prog.cellsOf 3) [c3])=some y3:=hfl 3 _ X;rw [DA] at k0 k1
  rw [N0] at k2
  rw [HE] at k3
  injection hx with hx1 hx2
  rw [hx1] at hz
  obtain ⟨s0,e0,_,_⟩:=DataW.trod_string underlying9 k0;obtain ⟨s1,e1,_,_⟩:=DataW.trod_string underlying9 k1;obtain ⟨a3,e3,_⟩:=DataW.trod_int underlying3 k3;obtain rfl:c0=_:=by simpa using e0
  obtain rfl:c1=_:=by simpa using e1
  obtain rfl:c3=_:=by simpa using e3
  have z2:=Sized.field (j:=2) underlying26 hz X X;obtain ⟨V,vn,vc,rfl⟩:=KF underlying24 k2;obtain ⟨lv,rfl,hbv,hrv⟩:=TH k2 z2;exact ⟨⟨s0.data.toList,s1.data.toList,lv,V,vc,a3⟩,X,hrv,hbv⟩
theorem tG {r:Reach} {b0:Nat} {v:Value} {d:DataW H} {p:List MemPlace} (hv:Value.okWide prog w r b0 26 v) (h:DataW.Trod enc prog w 0 (λ_=>true) true 26 v d p) (hz:Sized prog 26 d) :
 ∃q:Mq,v=.agg q.cells.toArray∧MqOk w q:=by
 obtain ⟨cs,rfl,hsz⟩:=okWide_struct underlying26 hv;rw [bT] at hsz
 obtain ⟨fuel,hf⟩:=h;obtain ⟨cs⟩:=cs;obtain ⟨q,rfl,hq⟩:=rP hsz hf hz;exact ⟨q,X,hq⟩
theorem rN {r:List Value} {d:DataW H} (h:VU enc prog w 64 r d) (hz:Sized prog 64 d):∃x:Pq,r=x.cells∧PqOk w x:=by
 obtain ⟨fuel,p,hf⟩:=h;obtain ⟨xs,n,_,hx,hl,hlen,hfl⟩:=DataW.trod_struct underlying64 hf;rw [U4] at hl
 match r,hl with
 | [c0,c1,c2,c3,c4,c5,c6,c7,c8,c9],_=>
 match xs,hlen with
 | [y0,y1],_=>
  have k0:DataW.trod enc prog w 0 (λ_=>true) true n 62 (List.take (prog.cellsOf 62) [c0,c1,c2,c3,c4,c5,c6,c7,c8,c9])=some (y0.1,y0.2):=hfl 0 _ X;have k1:DataW.trod enc prog w 0 (λ_=>true) true n 33 (List.take (prog.cellsOf 33) [c5,c6,c7,c8,c9])=some (y1.1,y1.2):=hfl 1 _ X;rw [ZS] at k0
  rw [bU] at k1
  injection hx with hx1 hx2
  rw [hx1] at hz
  have z0:=Sized.field (j:=0) underlying64 hz X X;have z1:=Sized.field (j:=1) underlying64 hz X X;obtain ⟨m,a,e0,hs,hM,hfb,heb⟩:=rQ X k0 z0;obtain ⟨i,V,T,vc,tc,e1,hb,hwk,hV,hT,htb,hvb⟩:=rR X k1 z1;refine ⟨⟨m,a,i,V,vc,T,tc⟩,?_,hs,hfb,heb,htb,hvb,hM,hb,hwk,hV,hT⟩
  show [c0,c1,c2,c3,c4]++[c5,c6,c7,c8,c9]=Md.cells m a++In.cells i V T vc tc
  exact congr (congrArg _ e0) e1
theorem xB {A:Option Addr} {len cap fuel:Nat} {x:DataW H × List MemPlace} (h:DataW.trod enc prog w 0 (λ_=>true) true fuel 22 [.slice A len cap]=some x) (hz:Sized prog 22 x.1) :
 ∃l:List Pq,l.length=len∧(∀b∈l,PqOk w b)∧Rd w A (l.length*10) (AD Pq.cells l)∧l.length≤reachBytes:=by
 have hln:=mW (TG underlying22 U4 AA h hz) (of_eq_true pG);obtain ⟨rows,D,hl,hD,_,hr,_,_,hn,hx,hd⟩:=KH underlying22 U4 AA h
 have key:∀r∈rows,∃b:Pq,r=b.cells∧PqOk w b:=by
  rcases hd with ⟨_,h0,_⟩|⟨sp,hs,_⟩
  ·have:rows=[]:=List.eq_nil_of_length_eq_zero AA
   subst this;exact λr hr=>by (cases hr)
  ·rw [hs] at hz
   intro r hr;obtain ⟨i,hi⟩:=List.getElem?_of_mem hr;obtain ⟨d,hdi,hrd⟩:=hx i r hi;exact rN hrd (hz.elem underlying22 (List.mem_of_getElem? hdi))
 obtain ⟨l,rfl,hq⟩:=KY Pq.cells (λb=>PqOk w b) rows key;rw [List.length_map] at hl
 subst hl;exact ⟨l,X,hq,hr,hln⟩
end
end
open Go.RowKit
def mmS : El:=⟨[115],[],1,[],[],[],0,[],[],0,0⟩
def mmC : El:=⟨[99],[],8,[],[],[],2,[109],[107],0,0⟩
def mmE : El:=⟨[101],[],2,[],[],[],0,[],[],0,0⟩
def mmK (v:List UInt8):Bd:=⟨[107],⟨3,0,false,v⟩⟩
def mmM : Md:=⟨[112],[],[mmK []],[mmS,mmC,mmE],[⟨[102],[115],[99],[]⟩,⟨[103],[99],[101],[]⟩]⟩
def mmT (nx:Int):Tk:=⟨nx+2,[99],[],0,0,[],0,0,0⟩
def mmI (v:List UInt8) (nx:Int):In:=⟨nx+1,[112],1,[mmK v],[mmT nx]⟩
theorem bB : HM mmM=true:=by kernel_rfl
theorem mQ {v:List UInt8} (hv:v.length≤1000):BdOk [mmK v]:=
 ⟨by simp,λx hx=>by
  obtain rfl:x=mmK v:=by simpa using hx
  show (([107]:List UInt8).length:Int)<4611686018427387904
  decide,λx hx=>by
  obtain rfl:x=mmK v:=by simpa using hx
  show (v.length:Int)<_
  omega⟩
theorem mP : MdOk mmM:=by
 refine ⟨by decide,by decide,mQ (v:=[]) B3,by decide,by decide,by decide,λx hx=>?_,λx hx=>?_⟩
 ·have:x=mmS∨x=mmC∨x=mmE:=by simpa [mmM] using hx
  rcases this with rfl|rfl|rfl<;>constructor<;>decide
 ·have:x=⟨[102],[115],[99],[]⟩∨x=⟨[103],[99],[101],[]⟩:=by simpa [mmM] using hx
  rcases this with rfl|rfl<;>constructor<;>decide
theorem yM : Rl mmM:=dB bB
theorem sV {c:CrA} (Z:Cz mmM c):(E2 mmM c (mmI [97] 0) 2147483647 1099511627776=true∧E2 mmM c (mmI [98] 3) 2147483647 1099511627776=true)∧(D7 mmM c (mmT 0) [mmK [97]]=([⟨[99],2,[109],[97],0⟩],0)∧D7 mmM c (mmT 3) [mmK [98]]=([⟨[99],2,[109],[98],0⟩],0))∧c.atf (c.flf [102]).tg=mmC∧c.outs [115]=[[102]]∧(c.atf [99]).tries=0:=by
 obtain ⟨eA,eB,eI,eO,eL,eM,eC⟩:=Z
 cases c
 dsimp only at eA eB eI eO eL eM eC
 subst eA eB eI eO eL eM eC;refine ⟨⟨by rfl,by rfl⟩,⟨by rfl,by rfl⟩,by rfl,by rfl,by rfl⟩
def mmA : Ar:=⟨[102],1,0,[],false⟩
def mmD : Ar:=⟨[102],1,0,[99],false⟩
theorem YX {x:El} (hx:x∈mmM.els) (hk:x.kind.toNat=1):x=mmS:=by
 have:x=mmS∨x=mmC∨x=mmE:=by simpa [mmM] using hx
 rcases this with rfl|rfl|rfl
 ·rfl
 ·exact absurd hk B3
 ·exact absurd hk B3
theorem uN {c:CrA} (Z:Cz mmM c) (v:List UInt8):∀σ',Rn mmM c [mmK v] (L5 [] [102] [mmS.id]) σ'→σ'=L5 [] [102] [mmS.id]∨σ'=⟨[],[mmD],[[115],[99,43]],1⟩:=λσ' hr=>vY (a0:=mmA) rfl (λb τ' hp=>by
 have hel:RJ c mmA=mmC:=(sV Z).2.2.1;rw [hel] at hp
 rcases hp with ⟨_,_,rfl⟩|⟨h,_⟩|⟨h,_⟩|⟨h,_⟩|⟨h,_⟩
 ·rfl
 all_goals exact absurd h B3) rfl hr
theorem wQ {c:CrA} (Z:Cz mmM c) (v:List UInt8):∀x∈mmM.els,x.kind.toNat=1→∀z,(c.outs x.id)[0]?=some z→∀σ',Rn mmM c [mmK v] (L5 [] z [x.id]) σ'→(λk=>k=1) (σ'.on++σ'.done).length:=λx hx hk z hz σ' hr=>by
 obtain rfl:=YX hx hk;have ho:=(sV Z).2.2.2.1;rw [show mmS.id=[115] from rfl,ho] at hz
 obtain rfl:[102]=z:=Option.some.inj hz;rcases uN Z v σ' hr with rfl|rfl<;>rfl
theorem sU {we:World} {gc:Nat} {c:CrA} {Fc:List Nat} {V:Option Addr} {vc:Nat} (v:List UInt8) (hC:CourseN we mmM gc c Fc):PV we mmM gc c V vc [mmK v]:=λx hx _ h1=>by
 have:x=mmS∨x=mmC∨x=mmE:=by simpa [mmM] using hx
 rcases this with rfl|rfl|rfl
 ·exact absurd X h1
 ·exact KI we mmM gc c V vc _ mmC B3 (.inr (.inr (.inr X)))
 ·exact YF we mmM gc c Fc V vc _ hC mmE B3 (λh=>absurd X h) X
theorem YY {c:CrA} (Z:Cz mmM c) {v:List UInt8} {nx:Int} (hnx:nx≤1000) {x:El} (hx:x∈mmM.els) (hk:x.kind.toNat=1) {e:Ending} {w2:World} (h:MvD mmM c ⟨nx+1,mmM.id,0,[mmK v],[]⟩ [] (((c.outs x.id)[0]?).getD []) [x.id] (nx+1) 0 e w2):∃V vc T tc a5 A fn fc,e=.returned (.tuple #[.agg #[AC (nx+1),str [112],.int .u8 1,.slice V 1 vc,.slice T 1 tc,AC a5,.slice A fn fc],AC 0])∧Rd w2 V (1*5) (AD Bd.cells [mmK v])∧Rd w2 T (1*9) (AD Tk.cells [mmT nx]):=by
 obtain ⟨_,_,hu,ho,ht⟩:=sV Z;obtain rfl:=YX hx hk;have hfl:(((c.outs mmS.id)[0]?).getD [])=[102]:=by rw [show mmS.id=[115] from rfl,ho];rfl
 rw [hfl] at h
 have hel:RJ c mmA=mmC:=hu;have hrn:=uN Z v;have hst:¬bZ c (L5 [] [102] [mmS.id]):=λhr=>wM hel X B3 (hr 0 mmA X)
 rcases h with ⟨_,⟨σ',hR,hf⟩|⟨σ',ls,hR,hs,hp,hf⟩⟩|⟨σ',ls,V',vc',T',tc',A',fc',rfl,hR,_,hs,hp,_,h1,h2,h3⟩
 ·rcases hrn σ' hR with rfl|rfl<;>exact absurd hf B3
 ·rcases hrn σ' hR with rfl|rfl
  ·exact absurd hs hst
  ·have hl:ls=[mmD]:=List.perm_singleton.1 hp;subst hl
   have:nx+1+((1:Nat):Int)≤2147483647:=by omega
   exact absurd hf (Int.not_lt.2 this)
 ·rcases hrn σ' hR with rfl|rfl
  ·exact absurd hs hst
  ·have hl:ls=[mmD]:=List.perm_singleton.1 hp;subst hl
   have hL:HK c [] [mmD] (nx+1) 0=[mmT nx]:=by
    show [(⟨nx+1+1,[99],[],0,(c.atf [99]).tries,[],0,0,0⟩:Tk)]=_
    rw [ht]
    show [(⟨nx+1+1,[99],[],0,0,[],0,0,0⟩:Tk)]=[⟨nx+2,[99],[],0,0,[],0,0,0⟩]
    rw [show nx+1+1=nx+2 by omega]
   rw [hL] at h2 ⊢
   exact ⟨V',vc',T',tc',_,A',_,fc',X,h1,h2⟩
theorem gX {c:CrA} (Z:Cz mmM c) {v:List UInt8} {nx:Int} (hnx:nx≤1000) {x:El} (hx:x∈mmM.els) (hk:x.kind.toNat=1) {e:Ending} {b0:Nat} {w':World} (h:∀w2,N7 b0 [] w' w2→MvD mmM c ⟨nx+1,mmM.id,0,[mmK v],[]⟩ [] (((c.outs x.id)[0]?).getD []) [x.id] (nx+1) 0 e w2):∃V vc T tc a5 A fn fc,e=.returned (.tuple #[.agg #[AC (nx+1),str [112],.int .u8 1,.slice V 1 vc,.slice T 1 tc,AC a5,.slice A fn fc],AC 0])∧∀w2,N7 b0 [] w' w2→Rd w2 V (1*5) (AD Bd.cells [mmK v])∧Rd w2 T (1*9) (AD Tk.cells [mmT nx]):=by
 obtain ⟨V,vc,T,tc,a5,A,fn,fc,rfl,_,_⟩:=YY Z hnx hx hk (h w' λ_ _ _=>X);refine ⟨V,vc,T,tc,a5,A,fn,fc,X,λw2 hw=>?_⟩;obtain ⟨V2,vc2,T2,tc2,a52,A2,fn2,fc2,he,h1,h2⟩:=YY Z hnx hx hk (h w2 hw);simp only [Ending.returned.injEq,Value.tuple.injEq,Value.agg.injEq,Array.mk.injEq,List.cons.injEq,Value.slice.injEq,and_true,true_and] at he
 obtain ⟨⟨rfl,_⟩,⟨rfl,_⟩,_⟩:=he;exact ⟨h1,h2⟩
def mmP (gc:Nat) (c:CrA) (F:List Nat) (v:List UInt8) (nx:Int) (V:Option Addr) (vc:Nat) (T:Option Addr) (tc:Nat):Pa:=⟨some ⟨gc,0,none⟩,mmM,c,F,mmI v nx,V,vc,T,tc⟩
theorem uO {gc:Nat} {c:CrA} {F:List Nat} {w:World} (hC:CourseN w mmM gc c F) {v:List UInt8} (hv:v.length≤1000) {nx:Int} {V T:Option Addr} {vc tc:Nat} (hV:Rd w V (1*5) (AD Bd.cells [mmK v])) (hT:Rd w T (1*9) (AD Tk.cells [mmT nx])):PaOk w (mmP gc c F v nx V vc T tc):=
 ⟨.inr ⟨gc,rfl,hC,bB,mP⟩,hV,hT,mQ hv,by show 1≤300;omega,λt ht=>by
  obtain rfl:t=mmT nx:=by simpa [mmP,mmI] using ht
  show (([]:List UInt8).length:Int)<4611686018427387904
  decide⟩
theorem mO (w:World) (k:List UInt8):MqOk w ⟨[109],k,[],none,0,0⟩:=⟨⟨rfl,λh=>absurd h (Nat.lt_irrefl 0)⟩,xX⟩
def mmQ (k:List UInt8):Mq:=⟨[109],k,[],none,0,0⟩
theorem fm2 {α β:Type} (g:α→Option β) (x y:α):[x,y].filterMap g=(g x).toList++(g y).toList:=by
 rw [List.filterMap_cons,List.filterMap_cons,List.filterMap_nil]
 cases g x<;>cases g y<;>rfl
theorem dK {gc:Nat} {c:CrA} {F:List Nat} {V V2 T T2:Option Addr} {vc vc2 tc tc2:Nat} (Z:Cz mmM c) {l:List Pa} (hl:l=[mmP gc c F [97] 0 V vc T tc,mmP gc c F [98] 3 V2 vc2 T2 tc2]) {ss:List St} (hs0:SsP l ss):D5 l (IE (mmQ [98])) ss=[⟨1,5,[99]⟩]∧D5 l (IE (mmQ [122])) ss=[]:=by
 have hp:=hs0.perm;subst hl;obtain ⟨⟨k1,k2⟩,⟨w1,w2⟩,_⟩:=sV Z
 have r1:runP (mmP gc c F [97] 0 V vc T tc)=true:=by
  show (true&&(decide (((1:UInt8).toNat:Int)=1)&&E2 mmM c (mmI [97] 0) 2147483647 1099511627776))=true
  rw [k1];rfl
 have r2:runP (mmP gc c F [98] 3 V2 vc2 T2 tc2)=true:=by
  show (true&&(decide (((1:UInt8).toNat:Int)=1)&&E2 mmM c (mmI [98] 3) 2147483647 1099511627776))=true
  rw [k2];rfl
 have hs:FW [mmP gc c F [97] 0 V vc T tc,mmP gc c F [98] 3 V2 vc2 T2 tc2] 0=[⟨0,mmT 0⟩,⟨1,mmT 3⟩]:=by
  rw [FW,FW,FW,IH,IH,if_pos r1,if_pos r2];rfl
 rw [hs] at hp
 have key:∀ap:Pa→Wt→Bool,∀a b:List Ht,(LD ap (mmP gc c F [97] 0 V vc T tc) ⟨0,mmT 0⟩).toList=a→(LD ap (mmP gc c F [98] 3 V2 vc2 T2 tc2) ⟨1,mmT 3⟩).toList=b→List.Perm (D5 [mmP gc c F [97] 0 V vc T tc,mmP gc c F [98] 3 V2 vc2 T2 tc2] ap ss) (a++b):=by
  rintro ap a b rfl rfl;exact (hp.filterMap _).trans (List.Perm.of_eq (fm2 _ _ _))
 have hf:∀(k v:List UInt8) (x:Pa) (s:St),x.m=mmM→D7 mmM x.c s.tk x.i.vars=([⟨[99],2,[109],v,0⟩],0)→LD (IE (mmQ k)) x s=if v=k then some ⟨s.pl,s.tk.id,[99]⟩ else none:=by
  intro k v x s hm hw;rw [LD,hm,hw,if_pos rfl]
  have ha:IE (mmQ k) x ⟨[99],2,[109],v,0⟩=decide (v=k):=by
   unfold IE;rw [hm,show OH mmM.vars (mmQ k).vars=0 from rfl]
   by_cases hvk:v=k<;>simp [mmQ,hvk]
  rw [List.find?_cons,ha]
  by_cases h:v=k
  ·rw [decide_eq_true h,if_pos h];rfl
  ·rw [decide_eq_false h,if_neg h];rfl
 constructor
 ·refine List.perm_singleton.1 (key _ [] [⟨1,5,[99]⟩] ?_ ?_)
  ·rw [hf [98] [97] _ _ rfl w1];rfl
  ·rw [hf [98] [98] _ _ rfl w2];rfl
 ·refine List.perm_nil.1 (key _ [] [] ?_ ?_)
  ·rw [hf [122] [97] _ _ rfl w1];rfl
  ·rw [hf [122] [98] _ _ rfl w2];rfl
section
def zeroHt : Ht:=⟨0,0,[]⟩
def o5 : List Ht→Value
 | []=>.tuple #[.agg zeroHt.cells.toArray,.bool false]
 | h::_=>.tuple #[.agg h.cells.toArray,.bool true]
theorem aN {P:Program} {t g off:Nat} {v:Value} {w:World} (ht:J3 P t=true) (hc:Cell w.heap g off v):(loadVar t ⟨g,off,none⟩).run P w=.ok v w:=by
 have hcell:=hc.get w X;unfold J3 at ht
 have ha:(isAgg t).run P w=.ok false w:=by
  cases hu:P.underlying t with
  | none=>simp [hu] at ht
  | some d=>
   unfold isAgg;rw [Sem.run_bind,run_underlying hu w]
   cases d<;>simp_all
 simp only [Sem.run_bind,Result.andThen_ok,loadVar,ha,Bool.false_eq_true,if_false]
 simp [hcell]
theorem KB {w w':World} {F:List Nat} (h:∀g∈F,g<w.heap.size→w'.heap[g]?=w.heap[g]?) {g:Nat} {o:Obj} (hg:g∈F) (ho:w.heap[g]?=some o):w'.heap[g]?=some o:=(h g hg (Array.getElem?_eq_some_iff.1 ho).1).trans ho
def JFi (rc:Loop) (gd lr g4 g5:Nat) (hs:List Ht) (F:List Nat) (w:World):Prop:=F=[gd,lr,g4,g5]∧w.heap[gd]?=some (.deferred (some [])) ∧
 ((hs=[]∧w.heap[lr]?=some (.loop rc)∧Blk w g4 38 zeroHt.cells∧Blk w g5 4 [.bool false])∨∃h,hs=[h]∧w.heap[lr]?=some (.loop { rc with state:=.done,pending:=some .ret })∧Blk w g4 38 h.cells∧Blk w g5 4 [.bool true])
theorem nA (rc:Loop) (gd lr g4 g5:Nat) (hs:List Ht) (F:List Nat) (w w':World) (h:∀g∈F,g<w.heap.size→w'.heap[g]?=w.heap[g]?) (hJ:JFi rc gd lr g4 g5 hs F w):JFi rc gd lr g4 g5 hs F w':=by
 obtain ⟨rfl,h1,h2⟩:=hJ;refine ⟨X,KB h (by simp) h1,?_⟩;rcases h2 with ⟨a,b,c,d⟩|⟨x,a,b,c,d⟩
 ·exact .inl ⟨a,KB h (by simp) b,KB h (by simp) c,KB h (by simp) d⟩
 ·exact .inr ⟨x,a,KB h (by simp) b,KB h (by simp) c,KB h (by simp) d⟩
namespace Sf
section
variable {D:List Deferred} {P:Program} {Q:Exit→Act→World→Prop} {n:Nat} {e:Env} {w:World}
theorem V4 {g:Operand} {ps:Array Nat} {asg body:Code} {f:FuncId} {cs:List Value} (hg:ev e g=some (.func (.func f) #[] cs.toArray)) (hc:∀(ar:Array Value) (w:World),(callFunc f ar).run P w=.ok (.enter f ar) w)
 (h:∀fn tm rc,tm.size=n→(∀k v,e.get k=some v→tm[k]?=some v)→rc=SR w fn tm ps asg body→Calls P f ((.func (.yield (w.heap.size+1)) #[] #[])::cs).toArray ((w.alloc (.deferred (some []))).alloc (.loop rc))
  λx w3=>∃v r,x=.returned v∧w3.heap[w.heap.size+1]?=some (.loop r)∧r.state≠.busy∧((r.pending=none∧QX ({ target:=.collected w.heap.size,args := #[] }::D) Q .normal n e (w3.putObj (w.heap.size+1) (.loop { r with state:=.exhausted }))) ∨
   (r.pending=some .ret∧QX ({ target:=.collected w.heap.size,args := #[] }::D) Q .ret n e (w3.putObj (w.heap.size+1) (.loop { r with state:=.exhausted }))))) :
 Sx none D P (Code.rangeFunc g ps asg body) Q n e w:=.mk λa ha=>by
 refine wpIn_rangeFunc λfn _=>?_
 have hu:a.eval g=.func (.func f) #[] cs.toArray:=ha.eval _ _ hg
 refine ⟨w.heap.size+1,[{ target:=.collected w.heap.size,args := #[] }],QI w fn a.tmps ps asg body,{ target:=.fn (.func f) cs.toArray,args := #[] ++ #[.func (.yield (w.heap.size+1)) #[] #[]] },QI w fn a.tmps ps asg body,f,((.func (.yield (w.heap.size+1)) #[] #[])::cs).toArray,QI w fn a.tmps ps asg body,
  by rw [YB,run_enterLoop_outer];rfl,?_,λf' _=>R5 _ f',?_,λhd=>by rw [PB] at hd;(cases hd),?_⟩
 ·simp only [resolve,hu,Deferred.ofValue,Sem.run_pure];simp [Act.eval]
 ·unfold invoke
  simp [hc]
 ·refine (U8 (h fn a.tmps _ ha.size ha.get X) 1).mono λx w3 hR=>?_
  obtain ⟨v,r,rfl,hr,hb,hq⟩:=hR;refine ⟨_,_,run_endLoop hr hb,?_⟩;have hA:∀a:Act,Agr D n e a→Agr ({ target:=.collected w.heap.size,args := #[] }::D) n e { a with defers:=[{ target:=.collected w.heap.size,args := #[] }]++a.defers }:=λa ha=>⟨ha.size,by show [({ target:=.collected w.heap.size,args := #[] }:Deferred)]++a.defers=_;rw [ha.defers];rfl,ha.get⟩
  rcases hq with ⟨hp,hq⟩|⟨hp,hq⟩
  ·have Xx:=hq.run _ (hA a ha);rw [hp] at Xx ⊢
   exact Xx
  ·have Xx:=hq.run _ (hA a ha);rw [hp] at Xx ⊢
   exact wpIn_ret Xx
theorem YD {fn:Func} {R:Ending→World→Prop} {t ty t2 ty2 g g2 b m:Nat} {v:Value} {d:TypeDesc} {xs:List Value} (hr:fn.results = #[.cell t ty,.cell t2 ty2]) (hv:e.get t=some (pg g)) (hv2:e.get t2=some (pg g2)) (hrd:Rd (w.putObj b (.deferred none)) (some ⟨g,0,none⟩) m xs)
 (hc2:Cell (w.putObj b (.deferred none)).heap g2 0 v) (hu:P.underlying ty=some d) (hd:d.isRow=true) (hi:(P.info? ty).map (·.size)=some m) (hs:J3 P ty2=true) (hb:w.heap[b]?=some (.deferred (some []))) (h:R (.returned (.tuple #[.agg xs.toArray,v])) (w.putObj b (.deferred none))) :
 QX [{ target:=.collected b,args := #[] }] (bodyPostM Fence.wide 2 P fn R) .ret n e w:=.mk λa ha=>by
 have hc:(w.putObj b (.deferred none)).rangeAt g 0 xs:=λj v hv=>by
  have hj:0<m:=by have:=(List.getElem?_eq_some_iff.1 hv).1;have:=hrd.1;omega
  obtain ⟨b',off',e,hc⟩:=hrd.2 hj
  injection e with e;injection e with e1 e2 _;subst e1;subst e2
  exact hc j v hv
 have hrun:=run_loadVar_mid (P:=P) (w.putObj b (.deferred none)) g 0 ty xs d hc hu hd (by rw [hrd.1];exact hi);have hrun2:=aN (P:=P) hs hc2
 have:(results fn a.tmps).run P (w.putObj b (.deferred none))=.ok (.tuple #[.agg xs.toArray,v]) (w.putObj b (.deferred none)):=by simp [results,hr,ha.get t _ hv,ha.get t2 _ hv2,asAddr,hrun,hrun2]
 show LeavesInM _ _ _ _ _ _ a.defers _ _
 rw [ha.defers];exact ⟨by simp,.inl ⟨b,_,rfl,run_takeDeferred hb,⟨_,this,h⟩⟩⟩
end
end Sf
end
end Go.Proofs.YtaheakjfkpkefaaGreatDoor
