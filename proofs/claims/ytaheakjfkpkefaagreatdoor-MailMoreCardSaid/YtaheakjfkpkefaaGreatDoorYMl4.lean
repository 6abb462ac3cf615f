/- Lemmas that the last text rests on. Condition: each says its own. -/
import Derived.Test.YtaheakjfkpkefaaGreatDoorYMl3
set_option maxHeartbeats 16000000
set_option maxRecDepth 100000
namespace Go.Proofs.YtaheakjfkpkefaaGreatDoor
open Go.ChangeShapes Go.WideShapes Go.ChangeAt Go.RowKit Go.Deep Go.Joins
open Tryz
section
theorem S9 : prog.cellsOf 64=10:=by kernel_rfl
theorem N3 : prog.cellsOf 26=4:=by kernel_rfl
structure Pq where
 m:Md
 a:MdA
 i:In
 V:Option Addr
 vc:Nat
 T:Option Addr
 tc:Nat
def Pq.cells (x:Pq):List Value:=Md.cells x.m x.a++In.cells x.i x.V x.T x.vc x.tc
theorem Pq.len (x:Pq):x.cells.length=10:=rfl
structure PqOk (w:World) (x:Pq):Prop where
 str:MdStr x.m
 fb:x.m.fls.length * 64≤reachBytes
 eb:x.m.els.length≤reachBytes
 tb:x.i.toks.length≤reachBytes
 vb:x.i.vars.length * 56≤reachBytes
 md:MdIn w x.m x.a
 bd:BdOk x.i.vars
 wk : ∀t ∈ x.i.toks,(t.worker.length:Int)<4611686018427387904
 V:Rd w x.V (x.i.vars.length * 5) (AB Bd.cells x.i.vars)
 T:Rd w x.T (x.i.toks.length * 9) (AB Tk.cells x.i.toks)
theorem PqOk.fr0 {w w':World} {x:Pq} (h:PqOk w x) (hf:Fr0 w w'):PqOk w' x:=⟨h.str,h.fb,h.eb,h.tb,h.vb,h.md.fr0 hf,h.bd,h.wk,h.V.fr0 hf,h.T.fr0 hf⟩
theorem PqOk.b {w:World} {x:Pq} (h:PqOk w x) (hn:x.m.els.length≤300):MdB x.m:=by
 have h1:=h.fb
 have h2:=h.str.vars.len
 exact ⟨h.str.id,h.str.nm,h.str.vars,by omega,by simp only [reachBytes] at h1;omega,by omega,h.str.els,h.str.fls⟩
section
variable {H:Type} {enc:TypeId × Value→H} {w:World}
theorem RN {t e sz:Nat} {A:Option Addr} {len cap fuel:Nat} {x:DataW H × List MemPlace} (ht:prog.underlying t=some (.slice e)) (hc:prog.cellsOf e=sz) (hpos:0<sz) (h:DataW.trod enc prog w 0 (λ_=>true) true fuel t [.slice A len cap]=some x) (hz:Sized prog t x.1):len * prog.bytesOf e≤reachBytes:=by
 obtain ⟨rows,D,hl,hD,_,hr,_,_,hn,hx,hd⟩:=IG ht hc hpos h
 rcases hd with ⟨_,h0,_⟩ | ⟨sp,hs,_⟩
 ·rw [h0,Nat.zero_mul];exact Nat.zero_le _
 ·rw [hs] at hz
  have h1:=hz ((D.length+sp.length) * prog.bytesOf e) (by simp [DataW.weights,ht])
  rw [hD] at h1
  exact Nat.le_trans (Nat.mul_le_mul_right _ (Nat.le_add_right _ _)) h1
theorem lQ : prog.bytesOf 103=56:=by kernel_rfl
theorem lO : prog.bytesOf 109=64:=by kernel_rfl
theorem lN : (1≤prog.bytesOf 64)=True:=eq_true (by decide +kernel)
theorem lP : (1≤prog.bytesOf 95)=True:=eq_true (by decide +kernel)
theorem lM : (1≤prog.bytesOf 56)=True:=eq_true (by decide +kernel)
theorem jH {n b c:Nat} (h:n * b≤c) (hb:1≤b):n≤c:=Nat.le_trans (Nat.le_mul_of_pos_right _ hb) h
theorem nB {cs:List Value} {fuel:Nat} {d:DataW H} {p:List MemPlace} (hsz:cs.length=5) (hf:DataW.trod enc prog w 0 (λ_=>true) true fuel 62 cs=some (d,p)) (hz:Sized prog 62 d) :
 ∃(m:Md) (a:MdA),cs=Md.cells m a∧MdStr m∧MdIn w m a∧m.fls.length * 64≤reachBytes∧m.els.length≤reachBytes:=by
 obtain ⟨xs,n,_,hx,hl,hlen,hfl⟩:=DataW.trod_struct underlying62 hf
 match cs,hsz with
 | [c0,c1,c2,c3,c4],_=>
 match xs,hlen with
 | [y0,y1,y2,y3,y4],_=>
  have k0:DataW.trod enc prog w 0 (λ_=>true) true n 9 (List.take (prog.cellsOf 9) [c0,c1,c2,c3,c4])=some y0:=hfl 0 _ rfl
  have k1:DataW.trod enc prog w 0 (λ_=>true) true n 9 (List.take (prog.cellsOf 9) [c1,c2,c3,c4])=some y1:=hfl 1 _ rfl
  have k2:DataW.trod enc prog w 0 (λ_=>true) true n 24 (List.take (prog.cellsOf 24) [c2,c3,c4])=some y2:=hfl 2 _ rfl
  have k3:DataW.trod enc prog w 0 (λ_=>true) true n 59 (List.take (prog.cellsOf 59) [c3,c4])=some y3:=hfl 3 _ rfl
  have k4:DataW.trod enc prog w 0 (λ_=>true) true n 60 (List.take (prog.cellsOf 60) [c4])=some y4:=hfl 4 _ rfl
  rw [CV] at k0 k1
  rw [LL] at k2
  rw [eQ] at k3
  rw [eN] at k4
  injection hx with hx1 hx2
  rw [hx1] at hz
  obtain ⟨s0,e0,d0,_⟩:=DataW.trod_string underlying9 k0
  obtain ⟨s1,e1,d1,_⟩:=DataW.trod_string underlying9 k1
  obtain rfl:c0=_:=by simpa using e0
  obtain rfl:c1=_:=by simpa using e1
  have z0:=Sized.field (j:=0) underlying62 hz rfl rfl
  have z1:=Sized.field (j:=1) underlying62 hz rfl rfl
  have z2:=Sized.field (j:=2) underlying62 hz rfl rfl
  have z3:=Sized.field (j:=3) underlying62 hz rfl rfl
  have z4:=Sized.field (j:=4) underlying62 hz rfl rfl
  rw [d0] at z0
  rw [d1] at z1
  obtain ⟨V,vn,vc,rfl⟩:=JL underlying24 k2
  obtain ⟨E,en,ec,rfl⟩:=JL underlying59 k3
  obtain ⟨F,fn,fc,rfl⟩:=JL underlying60 k4
  obtain ⟨lv,rfl,hbv,hrv⟩:=RO k2 z2
  obtain ⟨le,rfl,hbe,hre⟩:=rN k3 z3
  have hfb:=RN underlying60 SB A0 k4 z4
  rw [lO] at hfb
  have heb:=jH (RN underlying59 SC A0 k3 z3) (of_eq_true lP)
  obtain ⟨lf,rfl,hbf,hrf⟩:=rM k4 z4
  have hlt:=R6
  have t0:s0.data.toList.length≤reachBytes:=z0.text
  have t1:s1.data.toList.length≤reachBytes:=z1.text
  refine ⟨⟨s0.data.toList,s1.data.toList,lv,le,lf⟩,⟨V,vc,E,ec,F,fc⟩,rfl,⟨by simp only;omega,by simp only;omega,hbv,λx hx=>?_,λx hx=>?_⟩,⟨hrv,hre,hrf⟩,hfb,heb⟩
  ·obtain ⟨h1,h2,h3,h4,h5,h6,h7⟩:=hbe x hx
   constructor<;>omega
  ·obtain ⟨h1,h2,h3,h4⟩:=hbf x hx
   constructor<;>omega
theorem nC {cs:List Value} {fuel:Nat} {d:DataW H} {p:List MemPlace} (hsz:cs.length=5) (hf:DataW.trod enc prog w 0 (λ_=>true) true fuel 33 cs=some (d,p)) (hz:Sized prog 33 d) :
 ∃(i:In) (V T:Option Addr) (vc tc:Nat),cs=In.cells i V T vc tc∧BdOk i.vars∧(∀t ∈ i.toks,(t.worker.length:Int)<4611686018427387904)∧Rd w V (i.vars.length * 5) (AB Bd.cells i.vars)∧Rd w T (i.toks.length * 9) (AB Tk.cells i.toks)∧i.toks.length≤reachBytes∧i.vars.length * 56≤reachBytes:=by
 obtain ⟨xs,n,_,hx,hl,hlen,hfl⟩:=DataW.trod_struct underlying33 hf
 match cs,hsz with
 | [c0,c1,c2,c3,c4],_=>
 match xs,hlen with
 | [y0,y1,y2,y3,y4],_=>
  have k0:DataW.trod enc prog w 0 (λ_=>true) true n 3 (List.take (prog.cellsOf 3) [c0,c1,c2,c3,c4])=some y0:=hfl 0 _ rfl
  rw [GJ] at k0
  obtain ⟨a0,e0,_⟩:=DataW.trod_int underlying3 k0
  obtain rfl:c0=_:=by simpa using e0
  have k1:DataW.trod enc prog w 0 (λ_=>true) true n 9 (List.take (prog.cellsOf 9) [c1,c2,c3,c4])=some y1:=hfl 1 _ rfl
  rw [CV] at k1
  obtain ⟨s1,e1,_,_⟩:=DataW.trod_string underlying9 k1
  obtain rfl:c1=_:=by simpa using e1
  have k2:DataW.trod enc prog w 0 (λ_=>true) true n 5 (List.take (prog.cellsOf 5) [c2,c3,c4])=some y2:=hfl 2 _ rfl
  rw [lL] at k2
  obtain ⟨a2,e2,_,w2⟩:=DataW.trod_int underlying5 k2
  obtain rfl:c2=_:=by simpa using e2
  have k3:DataW.trod enc prog w 0 (λ_=>true) true n 24 (List.take (prog.cellsOf 24) [c3,c4])=some y3:=hfl 3 _ rfl
  have k4:DataW.trod enc prog w 0 (λ_=>true) true n 31 (List.take (prog.cellsOf 31) [c4])=some y4:=hfl 4 _ rfl
  rw [LL] at k3
  rw [YX] at k4
  injection hx with hx1 hx2
  rw [hx1] at hz
  have z3:=Sized.field (j:=3) underlying33 hz rfl rfl
  have z4:=Sized.field (j:=4) underlying33 hz rfl rfl
  obtain ⟨V,vn,vc,rfl⟩:=JL underlying24 k3
  obtain ⟨T,tn,tc,rfl⟩:=JL underlying31 k4
  have hvb:=RN underlying24 N4 A0 k3 z3
  rw [lQ] at hvb
  obtain ⟨lv,rfl,hbv,hrv⟩:=RO k3 z3
  have htb:=jH (RN underlying31 S8 A0 k4 z4) (of_eq_true lM)
  obtain ⟨lt,rfl,hbt,hrt⟩:=oJ k4 z4
  have hlt:=R6
  refine ⟨⟨a0,s1.data.toList,UInt8.ofNat a2.toNat,lv,lt⟩,V,T,vc,tc,by rw [VQ w2];rfl,hbv,λt ht=>?_,hrv,hrt,htb,hvb⟩
  have:=(hbt t ht).2.2
  omega
theorem ZQ {cs:List Value} {fuel:Nat} {d:DataW H} {p:List MemPlace} (hsz:cs.length=4) (hf:DataW.trod enc prog w 0 (λ_=>true) true fuel 26 cs=some (d,p)) (hz:Sized prog 26 d) :
 ∃q:Mq,cs=q.cells∧MqOk w q:=by
 obtain ⟨xs,n,_,hx,hl,hlen,hfl⟩:=DataW.trod_struct underlying26 hf
 match cs,hsz with
 | [c0,c1,c2,c3],_=>
 match xs,hlen with
 | [y0,y1,y2,y3],_=>
  have k0:DataW.trod enc prog w 0 (λ_=>true) true n 9 (List.take (prog.cellsOf 9) [c0,c1,c2,c3])=some y0:=hfl 0 _ rfl
  have k1:DataW.trod enc prog w 0 (λ_=>true) true n 9 (List.take (prog.cellsOf 9) [c1,c2,c3])=some y1:=hfl 1 _ rfl
  have k2:DataW.trod enc prog w 0 (λ_=>true) true n 24 (List.take (prog.cellsOf 24) [c2,c3])=some y2:=hfl 2 _ rfl
  have k3:DataW.trod enc prog w 0 (λ_=>true) true n 3 (List.take (prog.cellsOf 3) [c3])=some y3:=hfl 3 _ rfl
  rw [CV] at k0 k1
  rw [LL] at k2
  rw [GJ] at k3
  injection hx with hx1 hx2
  rw [hx1] at hz
  obtain ⟨s0,e0,_,_⟩:=DataW.trod_string underlying9 k0
  obtain ⟨s1,e1,_,_⟩:=DataW.trod_string underlying9 k1
  obtain ⟨a3,e3,_⟩:=DataW.trod_int underlying3 k3
  obtain rfl:c0=_:=by simpa using e0
  obtain rfl:c1=_:=by simpa using e1
  obtain rfl:c3=_:=by simpa using e3
  have z2:=Sized.field (j:=2) underlying26 hz rfl rfl
  obtain ⟨V,vn,vc,rfl⟩:=JL underlying24 k2
  obtain ⟨lv,rfl,hbv,hrv⟩:=RO k2 z2
  exact ⟨⟨s0.data.toList,s1.data.toList,lv,V,vc,a3⟩,rfl,hrv,hbv⟩
theorem oK {r:Reach} {b0:Nat} {v:Value} {d:DataW H} {p:List MemPlace} (hv:Value.okWide prog w r b0 26 v) (h:DataW.Trod enc prog w 0 (λ_=>true) true 26 v d p) (hz:Sized prog 26 d) :
 ∃q:Mq,v=.agg q.cells.toArray∧MqOk w q:=by
 obtain ⟨cs,rfl,hsz⟩:=okWide_struct underlying26 hv
 rw [N3] at hsz
 obtain ⟨fuel,hf⟩:=h
 obtain ⟨cs⟩:=cs
 obtain ⟨q,rfl,hq⟩:=ZQ hsz hf hz
 exact ⟨q,rfl,hq⟩
theorem n9 {r:List Value} {d:DataW H} (h:SL enc prog w 64 r d) (hz:Sized prog 64 d) : ∃x:Pq,r=x.cells∧PqOk w x:=by
 obtain ⟨fuel,p,hf⟩:=h
 obtain ⟨xs,n,_,hx,hl,hlen,hfl⟩:=DataW.trod_struct underlying64 hf
 rw [S9] at hl
 match r,hl with
 | [c0,c1,c2,c3,c4,c5,c6,c7,c8,c9],_=>
 match xs,hlen with
 | [y0,y1],_=>
  have k0:DataW.trod enc prog w 0 (λ_=>true) true n 62 (List.take (prog.cellsOf 62) [c0,c1,c2,c3,c4,c5,c6,c7,c8,c9])=some (y0.1,y0.2):=hfl 0 _ rfl
  have k1:DataW.trod enc prog w 0 (λ_=>true) true n 33 (List.take (prog.cellsOf 33) [c5,c6,c7,c8,c9])=some (y1.1,y1.2):=hfl 1 _ rfl
  rw [XF] at k0
  rw [YY] at k1
  injection hx with hx1 hx2
  rw [hx1] at hz
  have z0:=Sized.field (j:=0) underlying64 hz rfl rfl
  have z1:=Sized.field (j:=1) underlying64 hz rfl rfl
  obtain ⟨m,a,e0,hs,hM,hfb,heb⟩:=nB rfl k0 z0
  obtain ⟨i,V,T,vc,tc,e1,hb,hwk,hV,hT,htb,hvb⟩:=nC rfl k1 z1
  refine ⟨⟨m,a,i,V,vc,T,tc⟩,?_,hs,hfb,heb,htb,hvb,hM,hb,hwk,hV,hT⟩
  show [c0,c1,c2,c3,c4]++[c5,c6,c7,c8,c9]=Md.cells m a++In.cells i V T vc tc
  exact congr (congrArg _ e0) e1
theorem rL {A:Option Addr} {len cap fuel:Nat} {x:DataW H × List MemPlace} (h:DataW.trod enc prog w 0 (λ_=>true) true fuel 22 [.slice A len cap]=some x) (hz:Sized prog 22 x.1) :
 ∃l:List Pq,l.length=len∧(∀b ∈ l,PqOk w b)∧Rd w A (l.length * 10) (AB Pq.cells l)∧l.length≤reachBytes:=by
 have hln:=jH (RN underlying22 S9 A0 h hz) (of_eq_true lN)
 obtain ⟨rows,D,hl,hD,_,hr,_,_,hn,hx,hd⟩:=IG underlying22 S9 A0 h
 have key : ∀r ∈ rows,∃b:Pq,r=b.cells∧PqOk w b:=by
  rcases hd with ⟨_,h0,_⟩ | ⟨sp,hs,_⟩
  ·have:rows=[]:=List.eq_nil_of_length_eq_zero A0
   subst this
   exact λr hr=>by (cases hr)
  ·rw [hs] at hz
   intro r hr
   obtain ⟨i,hi⟩:=List.getElem?_of_mem hr
   obtain ⟨d,hdi,hrd⟩:=hx i r hi
   exact n9 hrd (hz.elem underlying22 (List.mem_of_getElem? hdi))
 obtain ⟨l,rfl,hq⟩:=IU Pq.cells (λb=>PqOk w b) rows key
 rw [List.length_map] at hl
 subst hl
 exact ⟨l,rfl,hq,hr,hln⟩
theorem nA {r:List Value} {d:DataW H} (h:SL enc prog w 26 r d) (hz:Sized prog 26 d) : ∃q:Mq,r=q.cells∧MqOk w q:=by
 obtain ⟨fuel,p,hf⟩:=h
 obtain ⟨xs,n,_,hx,hl,hlen,hfl⟩:=DataW.trod_struct underlying26 hf
 rw [N3] at hl
 exact ZQ hl hf hz
theorem jV {A:Option Addr} {len cap fuel:Nat} {x:DataW H × List MemPlace} (h:DataW.trod enc prog w 0 (λ_=>true) true fuel 23 [.slice A len cap]=some x) (hz:Sized prog 23 x.1) :
 ∃l:List Mq,l.length=len∧(∀b ∈ l,MqOk w b)∧Rd w A (l.length * 4) (AB Mq.cells l):=by
 obtain ⟨rows,D,hl,hD,_,hr,_,_,hn,hx,hd⟩:=IG underlying23 N3 A0 h
 have key : ∀r ∈ rows,∃b:Mq,r=b.cells∧MqOk w b:=by
  rcases hd with ⟨_,h0,_⟩ | ⟨sp,hs,_⟩
  ·have:rows=[]:=List.eq_nil_of_length_eq_zero A0
   subst this
   exact λr hr=>by (cases hr)
  ·rw [hs] at hz
   intro r hr
   obtain ⟨i,hi⟩:=List.getElem?_of_mem hr
   obtain ⟨d,hdi,hrd⟩:=hx i r hi
   exact nA hrd (hz.elem underlying23 (List.mem_of_getElem? hdi))
 obtain ⟨l,rfl,hq⟩:=IU Mq.cells (λb=>MqOk w b) rows key
 rw [List.length_map] at hl
 subst hl
 exact ⟨l,rfl,hq,hr⟩
end
end
open Go.RowKit
def mmS : El:=⟨[115],[],1,[],[],[],0,[],[],0,0⟩
def mmC : El:=⟨[99],[],8,[],[],[],2,[109],[107],0,0⟩
def mmE : El:=⟨[101],[],2,[],[],[],0,[],[],0,0⟩
def mmK (v:List UInt8):Bd:=⟨[107],⟨3,0,false,v⟩⟩
def mmM : Md:=⟨[112],[],[mmK []],[mmS,mmC,mmE],[⟨[102],[115],[99],[]⟩,⟨[103],[99],[101],[]⟩]⟩
def mmT (nx:Int):Tk:=⟨nx+2,[99],[],0,0,[],0,0,0⟩
def mmI (v:List UInt8) (nx:Int):In:=⟨nx+1,[112],1,[mmK v],[mmT nx]⟩
theorem YI : GS mmM=true:=by kernel_rfl
theorem jB {v:List UInt8} (hv:v.length≤1000):BdOk [mmK v]:=
 ⟨by simp,λx hx=>by
  obtain rfl:x=mmK v:=by simpa using hx
  show (([107]:List UInt8).length:Int)<4611686018427387904
  decide,λx hx=>by
  obtain rfl:x=mmK v:=by simpa using hx
  show (v.length:Int)<_
  omega⟩
theorem jA : MdOk mmM:=by
 refine ⟨by decide,by decide,jB (v:=[]) AU,by decide,by decide,by decide,λx hx=>?_,λx hx=>?_⟩
 ·have:x=mmS∨x=mmC∨x=mmE:=by simpa [mmM] using hx
  rcases this with rfl | rfl | rfl<;>constructor<;>decide
 ·have:x=⟨[102],[115],[99],[]⟩∨x=⟨[103],[99],[101],[]⟩:=by simpa [mmM] using hx
  rcases this with rfl | rfl<;>constructor<;>decide
theorem sW : Rl mmM:=pQ YI
theorem o5 {c:CrA} (Z:Cz mmM c):(GC mmM c (mmI [97] 0) 2147483647 1099511627776=true∧GC mmM c (mmI [98] 3) 2147483647 1099511627776=true)∧(D5 mmM c (mmT 0) [mmK [97]]=([⟨[99],2,[109],[97],0⟩],0)∧D5 mmM c (mmT 3) [mmK [98]]=([⟨[99],2,[109],[98],0⟩],0))∧c.atf (c.flf [102]).tg=mmC∧c.outs [115]=[[102]]∧(c.atf [99]).tries=0:=by
 obtain ⟨eA,eB,eI,eO,eL,eM,eC⟩:=Z
 cases c
 dsimp only at eA eB eI eO eL eM eC
 subst eA eB eI eO eL eM eC
 refine ⟨⟨by rfl,by rfl⟩,⟨by rfl,by rfl⟩,by rfl,by rfl,by rfl⟩
def mmA : Ar:=⟨[102],1,0,[],false⟩
def mmD : Ar:=⟨[102],1,0,[99],false⟩
theorem WO {x:El} (hx:x ∈ mmM.els) (hk:x.kind.toNat=1):x=mmS:=by
 have:x=mmS∨x=mmC∨x=mmE:=by simpa [mmM] using hx
 rcases this with rfl | rfl | rfl
 ·rfl
 ·exact absurd hk AU
 ·exact absurd hk AU
theorem pU {c:CrA} (Z:Cz mmM c) (v:List UInt8) : ∀σ',Rn mmM c [mmK v] (K4 [] [102] [mmS.id]) σ'→σ'=K4 [] [102] [mmS.id]∨σ'=⟨[],[mmD],[[115],[99,43]],1⟩:=λσ' hr=>qT (a0:=mmA) rfl (λb τ' hp=>by
 have hel:OA c mmA=mmC:=(o5 Z).2.2.1
 rw [hel] at hp
 rcases hp with ⟨_,_,rfl⟩ | ⟨h,_⟩ | ⟨h,_⟩ | ⟨h,_⟩ | ⟨h,_⟩
 ·rfl
 all_goals exact absurd h AU) rfl hr
theorem rD {c:CrA} (Z:Cz mmM c) (v:List UInt8) : ∀x ∈ mmM.els,x.kind.toNat=1 → ∀z,(c.outs x.id)[0]?=some z → ∀σ',Rn mmM c [mmK v] (K4 [] z [x.id]) σ'→(λk=>k=1) (σ'.on++σ'.done).length:=λx hx hk z hz σ' hr=>by
 obtain rfl:=WO hx hk
 have ho:=(o5 Z).2.2.2.1
 rw [show mmS.id=[115] from rfl,ho] at hz
 obtain rfl:[102]=z:=Option.some.inj hz
 rcases pU Z v σ' hr with rfl | rfl<;>rfl
theorem o4 {we:World} {gc:Nat} {c:CrA} {Fc:List Nat} {V:Option Addr} {vc:Nat} (v:List UInt8) (hC:CourseN we mmM gc c Fc):QO we mmM gc c V vc [mmK v]:=λx hx _ h1=>by
 have:x=mmS∨x=mmC∨x=mmE:=by simpa [mmM] using hx
 rcases this with rfl | rfl | rfl
 ·exact absurd rfl h1
 ·exact cG we mmM gc c V vc _ mmC AU (.inr (.inr (.inr rfl)))
 ·exact iN we mmM gc c Fc V vc _ hC mmE AU (λh=>absurd rfl h) rfl
theorem WP {c:CrA} (Z:Cz mmM c) {v:List UInt8} {nx:Int} (hnx:nx≤1000) {x:El} (hx:x ∈ mmM.els) (hk:x.kind.toNat=1) {e:Ending} {w2:World} (h:MvD mmM c ⟨nx+1,mmM.id,0,[mmK v],[]⟩ [] (((c.outs x.id)[0]?).getD []) [x.id] (nx+1) 0 e w2) : ∃V vc T tc a5 A fn fc,e=.returned (.tuple #[.agg #[AA (nx+1),str [112],.int .u8 1,.slice V 1 vc,.slice T 1 tc,AA a5,.slice A fn fc],AA 0])∧Rd w2 V (1 * 5) (AB Bd.cells [mmK v])∧Rd w2 T (1 * 9) (AB Tk.cells [mmT nx]):=by
 obtain ⟨_,_,hu,ho,ht⟩:=o5 Z
 obtain rfl:=WO hx hk
 have hfl:(((c.outs mmS.id)[0]?).getD [])=[102]:=by rw [show mmS.id=[115] from rfl,ho];rfl
 rw [hfl] at h
 have hel:OA c mmA=mmC:=hu
 have hrn:=pU Z v
 have hst : ¬Z2 c (K4 [] [102] [mmS.id]):=λhr=>r9 hel rfl AU (hr 0 mmA rfl)
 rcases h with ⟨_,⟨σ',hR,hf⟩ | ⟨σ',ls,hR,hs,hp,hf⟩⟩ | ⟨σ',ls,V',vc',T',tc',A',fc',rfl,hR,_,hs,hp,_,h1,h2,h3⟩
 ·rcases hrn σ' hR with rfl | rfl<;>exact absurd hf AU
 ·rcases hrn σ' hR with rfl | rfl
  ·exact absurd hs hst
  ·have hl:ls=[mmD]:=List.perm_singleton.1 hp
   subst hl
   have:nx+1+((1:Nat):Int)≤2147483647:=by omega
   exact absurd hf (Int.not_lt.2 this)
 ·rcases hrn σ' hR with rfl | rfl
  ·exact absurd hs hst
  ·have hl:ls=[mmD]:=List.perm_singleton.1 hp
   subst hl
   have hL:JM c [] [mmD] (nx+1) 0=[mmT nx]:=by
    show [(⟨nx+1+1,[99],[],0,(c.atf [99]).tries,[],0,0,0⟩:Tk)]=_
    rw [ht]
    show [(⟨nx+1+1,[99],[],0,0,[],0,0,0⟩:Tk)]=[⟨nx+2,[99],[],0,0,[],0,0,0⟩]
    rw [show nx+1+1=nx+2 by omega]
   rw [hL] at h2 ⊢
   exact ⟨V',vc',T',tc',_,A',_,fc',rfl,h1,h2⟩
theorem cY {c:CrA} (Z:Cz mmM c) {v:List UInt8} {nx:Int} (hnx:nx≤1000) {x:El} (hx:x ∈ mmM.els) (hk:x.kind.toNat=1) {e:Ending} {b0:Nat} {w':World} (h : ∀w2,SM b0 [] w' w2→MvD mmM c ⟨nx+1,mmM.id,0,[mmK v],[]⟩ [] (((c.outs x.id)[0]?).getD []) [x.id] (nx+1) 0 e w2) : ∃V vc T tc a5 A fn fc,e=.returned (.tuple #[.agg #[AA (nx+1),str [112],.int .u8 1,.slice V 1 vc,.slice T 1 tc,AA a5,.slice A fn fc],AA 0]) ∧ ∀w2,SM b0 [] w' w2→Rd w2 V (1 * 5) (AB Bd.cells [mmK v])∧Rd w2 T (1 * 9) (AB Tk.cells [mmT nx]):=by
 obtain ⟨V,vc,T,tc,a5,A,fn,fc,rfl,_,_⟩:=WP Z hnx hx hk (h w' λ_ _ _=>rfl)
 refine ⟨V,vc,T,tc,a5,A,fn,fc,rfl,λw2 hw=>?_⟩
 obtain ⟨V2,vc2,T2,tc2,a52,A2,fn2,fc2,he,h1,h2⟩:=WP Z hnx hx hk (h w2 hw)
 simp only [Ending.returned.injEq,Value.tuple.injEq,Value.agg.injEq,Array.mk.injEq,List.cons.injEq,Value.slice.injEq,and_true,true_and] at he
 obtain ⟨⟨rfl,_⟩,⟨rfl,_⟩,_⟩:=he
 exact ⟨h1,h2⟩
def mmP (gc:Nat) (c:CrA) (F:List Nat) (v:List UInt8) (nx:Int) (V:Option Addr) (vc:Nat) (T:Option Addr) (tc:Nat):Pa:=⟨some ⟨gc,0,none⟩,mmM,c,F,mmI v nx,V,vc,T,tc⟩
theorem pW {gc:Nat} {c:CrA} {F:List Nat} {w:World} (hC:CourseN w mmM gc c F) {v:List UInt8} (hv:v.length≤1000) {nx:Int} {V T:Option Addr} {vc tc:Nat} (hV:Rd w V (1 * 5) (AB Bd.cells [mmK v])) (hT:Rd w T (1 * 9) (AB Tk.cells [mmT nx])):PaOk w (mmP gc c F v nx V vc T tc):=
 ⟨.inr ⟨gc,rfl,hC,YI,jA⟩,hV,hT,jB hv,by show 1≤300;omega,λt ht=>by
  obtain rfl:t=mmT nx:=by simpa [mmP,mmI] using ht
  show (([]:List UInt8).length:Int)<4611686018427387904
  decide⟩
theorem j9 (w:World) (k:List UInt8):MqOk w ⟨[109],k,[],none,0,0⟩:=⟨⟨rfl,λh=>absurd h (Nat.lt_irrefl 0)⟩,sC⟩
def mmQ (k:List UInt8):Mq:=⟨[109],k,[],none,0,0⟩
theorem fm2 {α β:Type} (g:α→Option β) (x y:α):[x,y].filterMap g=(g x).toList++(g y).toList:=by
 rw [List.filterMap_cons,List.filterMap_cons,List.filterMap_nil]
 cases g x<;>cases g y<;>rfl
theorem ZX {gc:Nat} {c:CrA} {F:List Nat} {V V2 T T2:Option Addr} {vc vc2 tc tc2:Nat} (Z:Cz mmM c) {l:List Pa} (hl:l=[mmP gc c F [97] 0 V vc T tc,mmP gc c F [98] 3 V2 vc2 T2 tc2]) {ss:List St} (hs0:SsP l ss):C6 l (D9 (mmQ [98])) ss=[⟨1,5,[99]⟩]∧C6 l (D9 (mmQ [122])) ss=[]:=by
 have hp:=hs0.perm
 subst hl
 obtain ⟨⟨k1,k2⟩,⟨w1,w2⟩,_⟩:=o5 Z
 have r1:runP (mmP gc c F [97] 0 V vc T tc)=true:=by
  show (true && (decide (((1:UInt8).toNat:Int)=1) && GC mmM c (mmI [97] 0) 2147483647 1099511627776))=true
  rw [k1];rfl
 have r2:runP (mmP gc c F [98] 3 V2 vc2 T2 tc2)=true:=by
  show (true && (decide (((1:UInt8).toNat:Int)=1) && GC mmM c (mmI [98] 3) 2147483647 1099511627776))=true
  rw [k2];rfl
 have hs:E2 [mmP gc c F [97] 0 V vc T tc,mmP gc c F [98] 3 V2 vc2 T2 tc2] 0=[⟨0,mmT 0⟩,⟨1,mmT 3⟩]:=by
  rw [E2,E2,E2,HD,HD,if_pos r1,if_pos r2];rfl
 rw [hs] at hp
 have key : ∀ap:Pa→Wt→Bool,∀a b:List Ht,(GY ap (mmP gc c F [97] 0 V vc T tc) ⟨0,mmT 0⟩).toList=a→(GY ap (mmP gc c F [98] 3 V2 vc2 T2 tc2) ⟨1,mmT 3⟩).toList=b→List.Perm (C6 [mmP gc c F [97] 0 V vc T tc,mmP gc c F [98] 3 V2 vc2 T2 tc2] ap ss) (a++b):=by
  rintro ap a b rfl rfl
  exact (hp.filterMap _).trans (List.Perm.of_eq (fm2 _ _ _))
 have hf : ∀(k v:List UInt8) (x:Pa) (s:St),x.m=mmM→D5 mmM x.c s.tk x.i.vars=([⟨[99],2,[109],v,0⟩],0)→GY (D9 (mmQ k)) x s=if v=k then some ⟨s.pl,s.tk.id,[99]⟩ else none:=by
  intro k v x s hm hw
  rw [GY,hm,hw,if_pos rfl]
  have ha:D9 (mmQ k) x ⟨[99],2,[109],v,0⟩=decide (v=k):=by
   unfold D9
   rw [hm,show MY mmM.vars (mmQ k).vars=0 from rfl]
   by_cases hvk:v=k<;>simp [mmQ,hvk]
  rw [List.find?_cons,ha]
  by_cases h:v=k
  ·rw [decide_eq_true h,if_pos h];rfl
  ·rw [decide_eq_false h,if_neg h];rfl
 constructor
 ·refine List.perm_singleton.1 (key _ [] [⟨1,5,[99]⟩] ?_ ?_)
  ·rw [hf [98] [97] _ _ rfl w1];rfl
  ·rw [hf [98] [98] _ _ rfl w2];rfl
 ·refine List.perm_nil.1 (key _ [] [] ?_ ?_)
  ·rw [hf [122] [97] _ _ rfl w1];rfl
  ·rw [hf [122] [98] _ _ rfl w2];rfl
section
def zeroHt : Ht:=⟨0,0,[]⟩
def kP : List Ht→Value
 | []=>.tuple #[.agg zeroHt.cells.toArray,.bool false]
 | h::_=>.tuple #[.agg h.cells.toArray,.bool true]
theorem Y2 {P:Program} {t g off:Nat} {v:Value} {w:World} (ht:IF P t=true) (hc:Cell w.heap g off v):(loadVar t ⟨g,off,none⟩).run P w=.ok v w:=by
 have hcell:=hc.get w rfl
 unfold IF at ht
 have ha:(isAgg t).run P w=.ok false w:=by
  cases hu:P.underlying t with
  | none=>simp [hu] at ht
  | some d=>
   unfold isAgg;rw [Sem.run_bind,run_underlying hu w]
   cases d<;>simp_all
 simp only [Sem.run_bind,Result.andThen_ok,loadVar,ha,Bool.false_eq_true,if_false]
 simp [hcell]
theorem N9 {w w':World} {F:List Nat} (h : ∀g ∈ F,g<w.heap.size→w'.heap[g]?=w.heap[g]?) {g:Nat} {o:Obj} (hg:g ∈ F) (ho:w.heap[g]?=some o):w'.heap[g]?=some o:=(h g hg (Array.getElem?_eq_some_iff.1 ho).1).trans ho
def JFi (rc:Loop) (gd lr g4 g5:Nat) (hs:List Ht) (F:List Nat) (w:World):Prop:=F=[gd,lr,g4,g5]∧w.heap[gd]?=some (.deferred (some [])) ∧
 ((hs=[]∧w.heap[lr]?=some (.loop rc)∧Blk w g4 38 zeroHt.cells∧Blk w g5 4 [.bool false]) ∨ ∃h,hs=[h]∧w.heap[lr]?=some (.loop { rc with state:=.done,pending:=some .ret })∧Blk w g4 38 h.cells∧Blk w g5 4 [.bool true])
theorem jO (rc:Loop) (gd lr g4 g5:Nat) (hs:List Ht) (F:List Nat) (w w':World) (h : ∀g ∈ F,g<w.heap.size→w'.heap[g]?=w.heap[g]?) (hJ:JFi rc gd lr g4 g5 hs F w):JFi rc gd lr g4 g5 hs F w':=by
 obtain ⟨rfl,h1,h2⟩:=hJ
 refine ⟨rfl,N9 h (by simp) h1,?_⟩
 rcases h2 with ⟨a,b,c,d⟩ | ⟨x,a,b,c,d⟩
 ·exact .inl ⟨a,N9 h (by simp) b,N9 h (by simp) c,N9 h (by simp) d⟩
 ·exact .inr ⟨x,a,N9 h (by simp) b,N9 h (by simp) c,N9 h (by simp) d⟩
namespace Sf
section
variable {D:List Deferred} {P:Program} {Q:Exit→Act→World→Prop} {n:Nat} {e:Env} {w:World}
theorem bP {g:Operand} {ps:Array Nat} {asg body:Code} {f:FuncId} {cs:List Value} (hg:ev e g=some (.func (.func f) #[] cs.toArray)) (hc : ∀(ar:Array Value) (w:World),(callFunc f ar).run P w=.ok (.enter f ar) w)
 (h : ∀fn tm rc,tm.size=n→(∀k v,e.get k=some v→tm[k]?=some v)→rc=TB w fn tm ps asg body→Calls P f ((.func (.yield (w.heap.size+1)) #[] #[])::cs).toArray ((w.alloc (.deferred (some []))).alloc (.loop rc))
  λx w3 => ∃v r,x=.returned v∧w3.heap[w.heap.size+1]?=some (.loop r)∧r.state≠.busy∧((r.pending=none∧QX ({ target:=.collected w.heap.size,args := #[] }::D) Q .normal n e (w3.putObj (w.heap.size+1) (.loop { r with state:=.exhausted }))) ∨
   (r.pending=some .ret∧QX ({ target:=.collected w.heap.size,args := #[] }::D) Q .ret n e (w3.putObj (w.heap.size+1) (.loop { r with state:=.exhausted }))))) :
 Sx none D P (Code.rangeFunc g ps asg body) Q n e w:=.mk λa ha=>by
 refine wpIn_rangeFunc λfn _=>?_
 have hu:a.eval g=.func (.func f) #[] cs.toArray:=ha.eval _ _ hg
 refine ⟨w.heap.size+1,[{ target:=.collected w.heap.size,args := #[] }],P6 w fn a.tmps ps asg body,{ target:=.fn (.func f) cs.toArray,args := #[] ++ #[.func (.yield (w.heap.size+1)) #[] #[]] },P6 w fn a.tmps ps asg body,f,((.func (.yield (w.heap.size+1)) #[] #[])::cs).toArray,P6 w fn a.tmps ps asg body,
  by rw [W5,run_enterLoop_outer];rfl,?_,λf' _=>PP _ f',?_,λhd=>by rw [NW] at hd;(cases hd),?_⟩
 ·simp only [resolve,hu,Deferred.ofValue,Sem.run_pure];simp [Act.eval]
 ·unfold invoke
  simp [hc]
 ·refine (SD (h fn a.tmps _ ha.size ha.get rfl) 1).mono λx w3 hR=>?_
  obtain ⟨v,r,rfl,hr,hb,hq⟩:=hR
  refine ⟨_,_,run_endLoop hr hb,?_⟩
  have hA : ∀a:Act,Agr D n e a→Agr ({ target:=.collected w.heap.size,args := #[] }::D) n e { a with defers:=[{ target:=.collected w.heap.size,args := #[] }]++a.defers }:=λa ha=>⟨ha.size,by show [({ target:=.collected w.heap.size,args := #[] }:Deferred)]++a.defers=_;rw [ha.defers];rfl,ha.get⟩
  rcases hq with ⟨hp,hq⟩ | ⟨hp,hq⟩
  ·have X:=hq.run _ (hA a ha)
   rw [hp] at X ⊢
   exact X
  ·have X:=hq.run _ (hA a ha)
   rw [hp] at X ⊢
   exact wpIn_ret X
theorem W6 {fn:Func} {R:Ending→World→Prop} {t ty t2 ty2 g g2 b m:Nat} {v:Value} {d:TypeDesc} {xs:List Value} (hr:fn.results = #[.cell t ty,.cell t2 ty2]) (hv:e.get t=some (.pointer (some ⟨g,0,none⟩))) (hv2:e.get t2=some (.pointer (some ⟨g2,0,none⟩))) (hrd:Rd (w.putObj b (.deferred none)) (some ⟨g,0,none⟩) m xs)
 (hc2:Cell (w.putObj b (.deferred none)).heap g2 0 v) (hu:P.underlying ty=some d) (hd:d.isRow=true) (hi:(P.info? ty).map (·.size)=some m) (hs:IF P ty2=true) (hb:w.heap[b]?=some (.deferred (some []))) (h:R (.returned (.tuple #[.agg xs.toArray,v])) (w.putObj b (.deferred none))) :
 QX [{ target:=.collected b,args := #[] }] (bodyPostM Fence.wide 2 P fn R) .ret n e w:=.mk λa ha=>by
 have hc:(w.putObj b (.deferred none)).rangeAt g 0 xs:=λj v hv=>by
  have hj:0<m:=by have:=(List.getElem?_eq_some_iff.1 hv).1;have:=hrd.1;omega
  obtain ⟨b',off',e,hc⟩:=hrd.2 hj
  injection e with e;injection e with e1 e2 _;subst e1;subst e2
  exact hc j v hv
 have hrun:=run_loadVar_mid (P:=P) (w.putObj b (.deferred none)) g 0 ty xs d hc hu hd (by rw [hrd.1];exact hi)
 have hrun2:=Y2 (P:=P) hs hc2
 have:(results fn a.tmps).run P (w.putObj b (.deferred none))=.ok (.tuple #[.agg xs.toArray,v]) (w.putObj b (.deferred none)):=by simp [results,hr,ha.get t _ hv,ha.get t2 _ hv2,asAddr,hrun,hrun2]
 show LeavesInM _ _ _ _ _ _ a.defers _ _
 rw [ha.defers]
 exact ⟨by simp,.inl ⟨b,_,rfl,run_takeDeferred hb,⟨_,this,h⟩⟩⟩
end
end Sf
end
end Go.Proofs.YtaheakjfkpkefaaGreatDoor
