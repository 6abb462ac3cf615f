/- Lemmas. -/
import Derived.Test.YtaheakjfkpkefaaGreatDoorVMwIn
set_option maxHeartbeats 16000000
set_option maxRecDepth 100000
namespace Go.Proofs.YtaheakjfkpkefaaGreatDoor
open Go.ChangeShapes Go.WideShapes Go.ChangeAt Go.RowKit Go.Deep Go.Joins
open Tryz
section
theorem U7 : prog.cellsOf 95=11:=by kernel_rfl
theorem U6 : prog.cellsOf 109=4:=by kernel_rfl
theorem U3 : prog.cellsOf 56=9:=by kernel_rfl
theorem bU : prog.cellsOf 33=5:=by kernel_rfl
theorem bS : prog.cellsOf 31=1:=by kernel_rfl
theorem pC : prog.cellsOf 5=1:=by kernel_rfl
theorem HE : prog.cellsOf 3=1:=by kernel_rfl
theorem jC : prog.cellsOf 51=1:=by kernel_rfl
theorem jD : prog.cellsOf 59=1:=by kernel_rfl
theorem jB : prog.cellsOf 60=1:=by kernel_rfl
section
variable {H:Type} {enc:TypeId × Value→H} {w:World}
theorem rT {r:List Value} {d:DataW H} (h:VU enc prog w 95 r d) (hz:Sized prog 95 d):∃b:El,r=b.cells∧(b.id.length≤reachBytes∧b.nm.length≤reachBytes∧b.inn.length≤reachBytes∧b.dflt.length≤reachBytes∧b.att.length≤reachBytes∧b.ref.length≤reachBytes∧b.key.length≤reachBytes):=by
 obtain ⟨fuel,p,hf⟩:=h;obtain ⟨xs,n,_,hx,hl,hlen,hfl⟩:=DataW.trod_struct underlying95 hf;rw [U7] at hl
 match r,hl with
 | [c0,c1,c2,c3,c4,c5,c6,c7,c8,c9,c10],_=>
 match xs,hlen with
 | [y0,y1,y2,y3,y4,y5,y6,y7,y8,y9,y10],_=>
  simp only [Prod.mk.injEq] at hx
  obtain ⟨rfl,_⟩:=hx;have k0:DataW.trod enc prog w 0 (λ_=>true) true n 9 (List.take (prog.cellsOf 9) [c0,c1,c2,c3,c4,c5,c6,c7,c8,c9,c10])=some y0:=hfl 0 _ X;rw [DA] at k0
  obtain ⟨s0,e0,d0,_⟩:=DataW.trod_string underlying9 k0;obtain rfl:c0=_:=by simpa using e0
  have z0:=Sized.field (j:=0) underlying95 hz X X;rw [d0] at z0
  have k1:DataW.trod enc prog w 0 (λ_=>true) true n 9 (List.take (prog.cellsOf 9) [c1,c2,c3,c4,c5,c6,c7,c8,c9,c10])=some y1:=hfl 1 _ X;rw [DA] at k1
  obtain ⟨s1,e1,d1,_⟩:=DataW.trod_string underlying9 k1;obtain rfl:c1=_:=by simpa using e1
  have z1:=Sized.field (j:=1) underlying95 hz X X;rw [d1] at z1
  have k2:DataW.trod enc prog w 0 (λ_=>true) true n 5 (List.take (prog.cellsOf 5) [c2,c3,c4,c5,c6,c7,c8,c9,c10])=some y2:=hfl 2 _ X;rw [PQ] at k2
  obtain ⟨a2,e2,_,w2⟩:=DataW.trod_int underlying5 k2;obtain rfl:c2=_:=by simpa using e2
  have k3:DataW.trod enc prog w 0 (λ_=>true) true n 9 (List.take (prog.cellsOf 9) [c3,c4,c5,c6,c7,c8,c9,c10])=some y3:=hfl 3 _ X;rw [DA] at k3
  obtain ⟨s3,e3,d3,_⟩:=DataW.trod_string underlying9 k3;obtain rfl:c3=_:=by simpa using e3
  have z3:=Sized.field (j:=3) underlying95 hz X X;rw [d3] at z3
  have k4:DataW.trod enc prog w 0 (λ_=>true) true n 9 (List.take (prog.cellsOf 9) [c4,c5,c6,c7,c8,c9,c10])=some y4:=hfl 4 _ X;rw [DA] at k4
  obtain ⟨s4,e4,d4,_⟩:=DataW.trod_string underlying9 k4;obtain rfl:c4=_:=by simpa using e4
  have z4:=Sized.field (j:=4) underlying95 hz X X;rw [d4] at z4
  have k5:DataW.trod enc prog w 0 (λ_=>true) true n 9 (List.take (prog.cellsOf 9) [c5,c6,c7,c8,c9,c10])=some y5:=hfl 5 _ X;rw [DA] at k5
  obtain ⟨s5,e5,d5,_⟩:=DataW.trod_string underlying9 k5;obtain rfl:c5=_:=by simpa using e5
  have z5:=Sized.field (j:=5) underlying95 hz X X;rw [d5] at z5
  have k6:DataW.trod enc prog w 0 (λ_=>true) true n 5 (List.take (prog.cellsOf 5) [c6,c7,c8,c9,c10])=some y6:=hfl 6 _ X;rw [PQ] at k6
  obtain ⟨a6,e6,_,w6⟩:=DataW.trod_int underlying5 k6;obtain rfl:c6=_:=by simpa using e6
  have k7:DataW.trod enc prog w 0 (λ_=>true) true n 9 (List.take (prog.cellsOf 9) [c7,c8,c9,c10])=some y7:=hfl 7 _ X;rw [DA] at k7
  obtain ⟨s7,e7,d7,_⟩:=DataW.trod_string underlying9 k7;obtain rfl:c7=_:=by simpa using e7
  have z7:=Sized.field (j:=7) underlying95 hz X X;rw [d7] at z7
  have k8:DataW.trod enc prog w 0 (λ_=>true) true n 9 (List.take (prog.cellsOf 9) [c8,c9,c10])=some y8:=hfl 8 _ X;rw [DA] at k8
  obtain ⟨s8,e8,d8,_⟩:=DataW.trod_string underlying9 k8;obtain rfl:c8=_:=by simpa using e8
  have z8:=Sized.field (j:=8) underlying95 hz X X;rw [d8] at z8
  have k9:DataW.trod enc prog w 0 (λ_=>true) true n 3 (List.take (prog.cellsOf 3) [c9,c10])=some y9:=hfl 9 _ X;rw [HE] at k9
  obtain ⟨a9,e9,_⟩:=DataW.trod_int underlying3 k9;obtain rfl:c9=_:=by simpa using e9
  have k10:DataW.trod enc prog w 0 (λ_=>true) true n 3 (List.take (prog.cellsOf 3) [c10])=some y10:=hfl 10 _ X;rw [HE] at k10
  obtain ⟨a10,e10,_⟩:=DataW.trod_int underlying3 k10;obtain rfl:c10=_:=by simpa using e10
  exact ⟨⟨s0.data.toList,s1.data.toList,UInt8.ofNat a2.toNat,s3.data.toList,s4.data.toList,s5.data.toList,UInt8.ofNat a6.toNat,s7.data.toList,s8.data.toList,a9,a10⟩,by rw [XR w2,XR w6];rfl,z0.text,z1.text,z3.text,z4.text,z5.text,z7.text,z8.text⟩
theorem xD {A:Option Addr} {len cap fuel:Nat} {x:DataW H × List MemPlace} (h:DataW.trod enc prog w 0 (λ_=>true) true fuel 59 [.slice A len cap]=some x) (hz:Sized prog 59 x.1) :
 ∃l:List El,l.length=len∧(∀b∈l,b.id.length≤reachBytes∧b.nm.length≤reachBytes∧b.inn.length≤reachBytes∧b.dflt.length≤reachBytes∧b.att.length≤reachBytes∧b.ref.length≤reachBytes∧b.key.length≤reachBytes)∧Rd w A (l.length*11) (AD El.cells l):=by
 obtain ⟨rows,D,hl,hD,_,hr,_,_,hn,hx,hd⟩:=KH underlying59 U7 AA h
 have key:∀r∈rows,∃b:El,r=b.cells∧(b.id.length≤reachBytes∧b.nm.length≤reachBytes∧b.inn.length≤reachBytes∧b.dflt.length≤reachBytes∧b.att.length≤reachBytes∧b.ref.length≤reachBytes∧b.key.length≤reachBytes):=by
  rcases hd with ⟨_,h0,_⟩|⟨sp,hs,_⟩
  ·have:rows=[]:=List.eq_nil_of_length_eq_zero AA
   subst this;exact λr hr=>by (cases hr)
  ·rw [hs] at hz
   intro r hr;obtain ⟨i,hi⟩:=List.getElem?_of_mem hr;obtain ⟨d,hdi,hrd⟩:=hx i r hi;exact rT hrd (hz.elem underlying59 (List.mem_of_getElem? hdi))
 obtain ⟨l,rfl,hq⟩:=KY El.cells (λb=>b.id.length≤reachBytes∧b.nm.length≤reachBytes∧b.inn.length≤reachBytes∧b.dflt.length≤reachBytes∧b.att.length≤reachBytes∧b.ref.length≤reachBytes∧b.key.length≤reachBytes) rows key;rw [List.length_map] at hl
 subst hl;exact ⟨l,X,hq,hr⟩
theorem rS {r:List Value} {d:DataW H} (h:VU enc prog w 109 r d) (hz:Sized prog 109 d):∃b:Fl,r=b.cells∧(b.id.length≤reachBytes∧b.frm.length≤reachBytes∧b.tg.length≤reachBytes∧b.cond.length≤reachBytes):=by
 obtain ⟨fuel,p,hf⟩:=h;obtain ⟨xs,n,_,hx,hl,hlen,hfl⟩:=DataW.trod_struct underlying109 hf;rw [U6] at hl
 match r,hl with
 | [c0,c1,c2,c3],_=>
 match xs,hlen with
 | [y0,y1,y2,y3],_=>
  simp only [Prod.mk.injEq] at hx
  obtain ⟨rfl,_⟩:=hx;have k0:DataW.trod enc prog w 0 (λ_=>true) true n 9 (List.take (prog.cellsOf 9) [c0,c1,c2,c3])=some y0:=hfl 0 _ X;rw [DA] at k0
  obtain ⟨s0,e0,d0,_⟩:=DataW.trod_string underlying9 k0;obtain rfl:c0=_:=by simpa using e0
  have z0:=Sized.field (j:=0) underlying109 hz X X;rw [d0] at z0
  have k1:DataW.trod enc prog w 0 (λ_=>true) true n 9 (List.take (prog.cellsOf 9) [c1,c2,c3])=some y1:=hfl 1 _ X;rw [DA] at k1
  obtain ⟨s1,e1,d1,_⟩:=DataW.trod_string underlying9 k1;obtain rfl:c1=_:=by simpa using e1
  have z1:=Sized.field (j:=1) underlying109 hz X X;rw [d1] at z1
  have k2:DataW.trod enc prog w 0 (λ_=>true) true n 9 (List.take (prog.cellsOf 9) [c2,c3])=some y2:=hfl 2 _ X;rw [DA] at k2
  obtain ⟨s2,e2,d2,_⟩:=DataW.trod_string underlying9 k2;obtain rfl:c2=_:=by simpa using e2
  have z2:=Sized.field (j:=2) underlying109 hz X X;rw [d2] at z2
  have k3:DataW.trod enc prog w 0 (λ_=>true) true n 9 (List.take (prog.cellsOf 9) [c3])=some y3:=hfl 3 _ X;rw [DA] at k3
  obtain ⟨s3,e3,d3,_⟩:=DataW.trod_string underlying9 k3;obtain rfl:c3=_:=by simpa using e3
  have z3:=Sized.field (j:=3) underlying109 hz X X;rw [d3] at z3
  exact ⟨⟨s0.data.toList,s1.data.toList,s2.data.toList,s3.data.toList⟩,by rfl,z0.text,z1.text,z2.text,z3.text⟩
theorem xC {A:Option Addr} {len cap fuel:Nat} {x:DataW H × List MemPlace} (h:DataW.trod enc prog w 0 (λ_=>true) true fuel 60 [.slice A len cap]=some x) (hz:Sized prog 60 x.1) :
 ∃l:List Fl,l.length=len∧(∀b∈l,b.id.length≤reachBytes∧b.frm.length≤reachBytes∧b.tg.length≤reachBytes∧b.cond.length≤reachBytes)∧Rd w A (l.length*4) (AD Fl.cells l):=by
 obtain ⟨rows,D,hl,hD,_,hr,_,_,hn,hx,hd⟩:=KH underlying60 U6 AA h
 have key:∀r∈rows,∃b:Fl,r=b.cells∧(b.id.length≤reachBytes∧b.frm.length≤reachBytes∧b.tg.length≤reachBytes∧b.cond.length≤reachBytes):=by
  rcases hd with ⟨_,h0,_⟩|⟨sp,hs,_⟩
  ·have:rows=[]:=List.eq_nil_of_length_eq_zero AA
   subst this;exact λr hr=>by (cases hr)
  ·rw [hs] at hz
   intro r hr;obtain ⟨i,hi⟩:=List.getElem?_of_mem hr;obtain ⟨d,hdi,hrd⟩:=hx i r hi;exact rS hrd (hz.elem underlying60 (List.mem_of_getElem? hdi))
 obtain ⟨l,rfl,hq⟩:=KY Fl.cells (λb=>b.id.length≤reachBytes∧b.frm.length≤reachBytes∧b.tg.length≤reachBytes∧b.cond.length≤reachBytes) rows key;rw [List.length_map] at hl
 subst hl;exact ⟨l,X,hq,hr⟩
theorem rM {r:List Value} {d:DataW H} (h:VU enc prog w 56 r d) (hz:Sized prog 56 d):∃b:Tk,r=b.cells∧(b.loc.length≤reachBytes∧b.on.length≤reachBytes∧b.worker.length≤reachBytes):=by
 obtain ⟨fuel,p,hf⟩:=h;obtain ⟨xs,n,_,hx,hl,hlen,hfl⟩:=DataW.trod_struct underlying56 hf;rw [U3] at hl
 match r,hl with
 | [c0,c1,c2,c3,c4,c5,c6,c7,c8],_=>
 match xs,hlen with
 | [y0,y1,y2,y3,y4,y5,y6,y7,y8],_=>
  simp only [Prod.mk.injEq] at hx
  obtain ⟨rfl,_⟩:=hx;have k0:DataW.trod enc prog w 0 (λ_=>true) true n 3 (List.take (prog.cellsOf 3) [c0,c1,c2,c3,c4,c5,c6,c7,c8])=some y0:=hfl 0 _ X;rw [HE] at k0
  obtain ⟨a0,e0,_⟩:=DataW.trod_int underlying3 k0;obtain rfl:c0=_:=by simpa using e0
  have k1:DataW.trod enc prog w 0 (λ_=>true) true n 9 (List.take (prog.cellsOf 9) [c1,c2,c3,c4,c5,c6,c7,c8])=some y1:=hfl 1 _ X;rw [DA] at k1
  obtain ⟨s1,e1,d1,_⟩:=DataW.trod_string underlying9 k1;obtain rfl:c1=_:=by simpa using e1
  have z1:=Sized.field (j:=1) underlying56 hz X X;rw [d1] at z1
  have k2:DataW.trod enc prog w 0 (λ_=>true) true n 9 (List.take (prog.cellsOf 9) [c2,c3,c4,c5,c6,c7,c8])=some y2:=hfl 2 _ X;rw [DA] at k2
  obtain ⟨s2,e2,d2,_⟩:=DataW.trod_string underlying9 k2;obtain rfl:c2=_:=by simpa using e2
  have z2:=Sized.field (j:=2) underlying56 hz X X;rw [d2] at z2
  have k3:DataW.trod enc prog w 0 (λ_=>true) true n 3 (List.take (prog.cellsOf 3) [c3,c4,c5,c6,c7,c8])=some y3:=hfl 3 _ X;rw [HE] at k3
  obtain ⟨a3,e3,_⟩:=DataW.trod_int underlying3 k3;obtain rfl:c3=_:=by simpa using e3
  have k4:DataW.trod enc prog w 0 (λ_=>true) true n 3 (List.take (prog.cellsOf 3) [c4,c5,c6,c7,c8])=some y4:=hfl 4 _ X;rw [HE] at k4
  obtain ⟨a4,e4,_⟩:=DataW.trod_int underlying3 k4;obtain rfl:c4=_:=by simpa using e4
  have k5:DataW.trod enc prog w 0 (λ_=>true) true n 9 (List.take (prog.cellsOf 9) [c5,c6,c7,c8])=some y5:=hfl 5 _ X;rw [DA] at k5
  obtain ⟨s5,e5,d5,_⟩:=DataW.trod_string underlying9 k5;obtain rfl:c5=_:=by simpa using e5
  have z5:=Sized.field (j:=5) underlying56 hz X X;rw [d5] at z5
  have k6:DataW.trod enc prog w 0 (λ_=>true) true n 3 (List.take (prog.cellsOf 3) [c6,c7,c8])=some y6:=hfl 6 _ X;rw [HE] at k6
  obtain ⟨a6,e6,_⟩:=DataW.trod_int underlying3 k6;obtain rfl:c6=_:=by simpa using e6
  have k7:DataW.trod enc prog w 0 (λ_=>true) true n 5 (List.take (prog.cellsOf 5) [c7,c8])=some y7:=hfl 7 _ X;rw [PQ] at k7
  obtain ⟨a7,e7,_,w7⟩:=DataW.trod_int underlying5 k7;obtain rfl:c7=_:=by simpa using e7
  have k8:DataW.trod enc prog w 0 (λ_=>true) true n 51 (List.take (prog.cellsOf 51) [c8])=some y8:=hfl 8 _ X;rw [jC] at k8
  obtain ⟨a8,e8,_⟩:=DataW.trod_int underlying51 k8;obtain rfl:c8=_:=by simpa using e8
  exact ⟨⟨a0,s1.data.toList,s2.data.toList,a3,a4,s5.data.toList,a6,UInt8.ofNat a7.toNat,a8⟩,by rw [XR w7];rfl,z1.text,z2.text,z5.text⟩
theorem tF {A:Option Addr} {len cap fuel:Nat} {x:DataW H × List MemPlace} (h:DataW.trod enc prog w 0 (λ_=>true) true fuel 31 [.slice A len cap]=some x) (hz:Sized prog 31 x.1) :
 ∃l:List Tk,l.length=len∧(∀b∈l,b.loc.length≤reachBytes∧b.on.length≤reachBytes∧b.worker.length≤reachBytes)∧Rd w A (l.length*9) (AD Tk.cells l):=by
 obtain ⟨rows,D,hl,hD,_,hr,_,_,hn,hx,hd⟩:=KH underlying31 U3 AA h
 have key:∀r∈rows,∃b:Tk,r=b.cells∧(b.loc.length≤reachBytes∧b.on.length≤reachBytes∧b.worker.length≤reachBytes):=by
  rcases hd with ⟨_,h0,_⟩|⟨sp,hs,_⟩
  ·have:rows=[]:=List.eq_nil_of_length_eq_zero AA
   subst this;exact λr hr=>by (cases hr)
  ·rw [hs] at hz
   intro r hr;obtain ⟨i,hi⟩:=List.getElem?_of_mem hr;obtain ⟨d,hdi,hrd⟩:=hx i r hi;exact rM hrd (hz.elem underlying31 (List.mem_of_getElem? hdi))
 obtain ⟨l,rfl,hq⟩:=KY Tk.cells (λb=>b.loc.length≤reachBytes∧b.on.length≤reachBytes∧b.worker.length≤reachBytes) rows key;rw [List.length_map] at hl
 subst hl;exact ⟨l,X,hq,hr⟩
theorem KF {t e:TypeId} {n:Nat} {c:Value} {x:DataW H × List MemPlace} (ht:prog.underlying t=some (.slice e)) (k:DataW.trod enc prog w 0 (λ_=>true) true n t [c]=some x):∃A len cap,c=.slice A len cap:=by
 rcases open_slice ht k with ⟨hcs,_⟩|⟨a,len,cap,m,n,D,Pl,hcs,_⟩
 ·exact ⟨none,0,0,by simpa using hcs⟩
 ·exact ⟨some a,len,cap,by simpa using hcs⟩
end
theorem ZI {l:List (String × DataW Unit)} {W:World} {n nm:String} {d:DataW Unit} {g:Nat} (hL:laidMet prog l W) (hm:(n,.iface nm d)∈l) (hg:prog.globalNamed n=some g) (ht:(prog.globals[g]?).map (·.type)=some 240):∃t p,W.cell? ⟨g,0,none⟩=some (.iface t p):=by
 obtain ⟨ps,hv,_,_⟩:=hL;obtain ⟨g',t',cs,fuel,q,e1,e2,e3,e4⟩:=PJ hv hm;obtain rfl:=Option.some.inj (hg.symm.trans e1);obtain rfl:=Option.some.inj (ht.symm.trans e2);obtain ⟨cs⟩:=cs;have h0:=World.var?_cell hg e3 0
 cases fuel with
 | zero=>simp [DataW.trod] at e4
 | succ fuel=>
  match cs,e4,h0 with
  | [],e4,_=>simp [DataW.trod,underlying240] at e4
  | [E],e4,h0=>
   cases E with
   | iface u v=>exact ⟨u,v,by simpa using h0⟩
   | _=>simp [DataW.trod,underlying240] at e4
  | _::_::_,e4,_=>simp [DataW.trod,underlying240] at e4
theorem sY {l : List (String × DataW Unit)} {W : World} {d1 d2 : DataW Unit} {n1 n2 : String} (hL : laidMet prog l W) (hu : Laid W utfL) (h1 : ("strconv.ErrSyntax", .iface n1 d1) ∈ l) (h2 : ("strconv.ErrRange", .iface n2 d2) ∈ l) : Lay0 W := by
 obtain ⟨t,p,e1⟩:=ZI hL h1 (g:=2) gkr gkr;obtain ⟨t',p',e2⟩:=ZI hL h2 (g:=3) gkr gkr;refine ⟨hu,⟨⟨t,p,e1⟩,t',p',e2⟩,?_⟩;have b1:=World.block_lt_of_cell? W _ e1;have b2:=World.block_lt_of_cell? W _ e2;obtain ⟨_,_,b3⟩:=hu _ (List.mem_cons_self ..);obtain ⟨_,_,b4⟩:=hu _ (List.mem_cons_of_mem _ (List.mem_cons_self ..));have b3:=(Array.getElem?_eq_some_iff.1 b3).1;have b4:=(Array.getElem?_eq_some_iff.1 b4).1
 simp only at b1 b2 b3 b4
 unfold nGlob;omega
end
open Go.RowKit
section
section
variable {m:Md} {c:CrA} {kept:List Tk} {σ:Mo}
variable (R:Rl m)
include R
variable (Z:Cz m c)
include Z
end
end
section
theorem sM (c:CrA) (k d:Int) (a:Ar):(T5 c k d a).id=d:=by
 unfold T5;split
 ·rfl
 ·split<;>rfl
theorem YT (c:CrA) (k:Int):∀(l:List Ar) (n:Int) (q:Nat) (t:Tk),(OB c k n l)[q]?=some t→∃a,l[q]?=some a∧t=T5 c k (n+(q:Int)+1) a
 | [],_,_,_,h=>by simp [OB] at h
 | b::r,n,0,t,h=>by
  simp only [OB,List.getElem?_cons_zero,Option.some.injEq] at h
  exact ⟨b,X,by rw [←h];simp⟩
 | b::r,n,q+1,t,h=>by
  simp only [OB,List.getElem?_cons_succ] at h
  obtain ⟨a,h1,h2⟩:=YT c k r (n+1) q t h;exact ⟨a,by simpa using h1,by rw [h2];congr 1;omega⟩
theorem YS (c:CrA) (k:Int):∀(l:List Ar) (n:Int),(OB c k n l).length=l.length
 | [],_=>rfl
 | b::r,n=>by rw [OB,List.length_cons,YS c k r,List.length_cons]
section
variable {m:Md} {c:CrA}
def SN (kept:List Tk) (ls:List Ar):List Tk:=kept.filter (λt:Tk=>(!decide (t.loc=[])) || MI ls t.id)
def sN (ls:List Ar):List Ar:=ls.filter (λa:Ar => !decide (0<a.rests))
theorem Y9 (kept:List Tk) (ls:List Ar) (next clock:Int):HK c kept ls next clock=SN kept ls++OB c clock next (sN ls):=rfl
theorem gB {kept:List Tk} {ls:List Ar} {next clock:Int} {k:Nat} {t:Tk} (h:(HK c kept ls next clock)[k]?=some t):(k<(SN kept ls).length∧(SN kept ls)[k]?=some t)∨(∃q a,k=(SN kept ls).length+q∧q<(sN ls).length∧a∈sN ls∧t=T5 c clock (next+(q:Int)+1) a):=by
 rw [Y9] at h
 by_cases hk:k<(SN kept ls).length
 ·rw [List.getElem?_append_left hk] at h;exact .inl ⟨hk,h⟩
 ·rw [List.getElem?_append_right AA] at h
  obtain ⟨a,h1,h2⟩:=YT c clock _ _ _ _ h;exact .inr ⟨k-(SN kept ls).length,a,by omega,(List.getElem?_eq_some_iff.1 h1).1,List.mem_of_getElem? h1,h2⟩
variable (R:Rl m)
include R
variable (Z:Cz m c)
include Z
end
end
theorem xX : BdOk []:=⟨by decide,λx hx=>(by cases hx),λx hx=>(by cases hx)⟩
theorem jE {w w2:World} {b j:Nat} (h:w2.heap[b]?=w.heap[b]?):w2.cell? ⟨b,j,none⟩=w.cell? ⟨b,j,none⟩:=by
 unfold World.cell?;simp only [h]
theorem wA {w':World} {b0 n:Nat} {A:Option Addr} {xs:List Value} (h0:Rd w' A n xs) (h:∀w2,N7 b0 [] w' w2→∃ys,Rd w2 A n ys):∀w2,N7 b0 [] w' w2→Rd w2 A n xs:=λw2 h2=>by
 refine h0.keep λhn b off e j hj=>?_
 have hlt:=h0.lt hn b off e
 by_cases hb:b0≤b
 ·exact jE (h2 b (.inr hb) hlt)
 ·exfalso
  obtain ⟨ys,hy⟩:=h { w' with heap:=w'.heap.setIfInBounds b (.cells #[] 0) } (λg hg hgl=>by
   rcases hg with hg|hg
   ·cases hg
   ·show (w'.heap.setIfInBounds b _)[g]?=_
    rw [Array.getElem?_setIfInBounds_ne AA])
  obtain ⟨b',off',e',u,_,hc⟩:=hy.at_ hn;rw [e] at e'
  injection e' with e'
  injection e' with e1 _ _
  subst e1;unfold World.cell? at hc
  simp only [Array.getElem?_setIfInBounds_self_of_lt hlt] at hc
  simp at hc
theorem wV {tid:Int} {l:List Tk} {j:Nat} {y:Tk} (h:ixT tid l=(j:Int)) (hj:l[j]?=some y):y.id=tid:=by
 unfold ixT at h
 rcases dS (λ(_:Nat) (t:Tk)=>decide (t.id=tid)) l 0 with h1|⟨q,x,h1,h2,h3⟩
 ·omega
 ·have:q=j:=by omega
  subst this;rw [hj] at h2
  injection h2 with h2
  subst h2;exact odt h3
theorem S5 {b0 b1:Nat} {w w2:World} (h:∀g∈[]++List.range' b0 (b1-b0),g<w.heap.size→w2.heap[g]?=w.heap[g]?) (hb:w.heap.size≤b1:=by exact Nat.le_refl _):N7 b0 [] w w2:=λg hg hlt=>h g (by
 rw [List.nil_append,List.mem_range'_1];rcases hg with hg|hg
 ·cases hg
 ·omega) hlt
theorem RR {b0 b1:Nat} {P:World→Prop}:∀g∈(As.res b0 b1 [] P).fp,b0≤g∧g<b1:=λg hg=>by
 have hg:g∈[]++List.range' b0 (b1-b0):=hg;rw [List.nil_append,List.mem_range'_1] at hg
 omega
structure St where
 pl:Int
 tk:Tk
def St.cells (a:St):List Value:=.int .i64 a.pl::a.tk.cells
theorem St.len (a:St):a.cells.length=10:=rfl
theorem St.cells_one (a:St):∀u∈a.cells,u.oneCell'=true:=CL rfl
structure Ht where
 pl:Int
 tok:Int
 via:List UInt8
def Ht.cells (a:Ht):List Value:=[.int .i64 a.pl,.int .i64 a.tok,str a.via]
theorem Ht.len (a:Ht):a.cells.length=3:=rfl
theorem Ht.cells_one (a:Ht):∀u∈a.cells,u.oneCell'=true:=CL rfl
structure Pa where
 p:Option Addr
 m:Md
 c:CrA
 F:List Nat
 i:In
 V:Option Addr
 vc:Nat
 T:Option Addr
 tc:Nat
def Pa.cells (x:Pa):List Value:=.pointer x.p::In.cells x.i x.V x.T x.vc x.tc
theorem Pa.len (x:Pa):x.cells.length=6:=rfl
theorem TE : (prog.info? 119).map (λi=>(i.zero,i.size,i.bytes))=some (some (.agg #[AC 0,AC 0,str [],str [],AC 0,AC 0,str [],AC 0,.int .u8 0,AC 0]),10,104):=by kernel_rfl
theorem BS : (prog.info? 119).map (·.size)=some 10:=by kernel_rfl
theorem VX : (prog.info? 119).map (·.zero)=some (some (.agg #[AC 0,AC 0,str [],str [],AC 0,AC 0,str [],AC 0,.int .u8 0,AC 0])):=by kernel_rfl
theorem O0 : (prog.info? 38).map (λi=>(i.zero,i.size,i.bytes))=some (some (.agg #[AC 0,AC 0,str []]),3,32):=by kernel_rfl
theorem D8 : (prog.info? 38).map (·.size)=some 3:=by kernel_rfl
theorem G2 : (prog.info? 38).map (·.zero)=some (some (.agg #[AC 0,AC 0,str []])):=by kernel_rfl
theorem ER : (prog.info? 36).map (·.size)=some 6:=by kernel_rfl
theorem K0 : (prog.info? 36).map (·.zero)=some (some (.agg #[.pointer none,AC 0,str [],.int .u8 0,.slice none 0 0,.slice none 0 0])):=by kernel_rfl
structure PaOk (w:World) (x:Pa):Prop where
 cr:x.p=none∨∃gc,x.p=some ⟨gc,0,none⟩∧CourseN w x.m gc x.c x.F∧HM x.m=true∧MdOk x.m
 V:Rd w x.V (x.i.vars.length*5) (AD Bd.cells x.i.vars)
 T:Rd w x.T (x.i.toks.length*9) (AD Tk.cells x.i.toks)
 bd:BdOk x.i.vars
 tl:x.i.toks.length≤300
 wk:∀t∈x.i.toks,(t.worker.length:Int)<4611686018427387904
structure Pts (w:World) (A:Option Addr) (l:List Pa):Prop where
 rd:Rd w A (l.length*6) (AD Pa.cells l)
 ok:∀x∈l,PaOk w x
 len:l.length≤8
theorem PaOk.fr0 {w w':World} {x:Pa} (h:PaOk w x) (hf:Fr0 w w'):PaOk w' x:=
 ⟨h.cr.imp id λ⟨gc,h1,h2,h3⟩=>⟨gc,h1,h2.fr0 hf,h3⟩,h.V.fr0 hf,h.T.fr0 hf,h.bd,h.tl,h.wk⟩
theorem Pts.fr0 {w w':World} {A:Option Addr} {l:List Pa} (h:Pts w A l) (hf:Fr0 w w'):Pts w' A l:=⟨h.rd.fr0 hf,λx hx=>(h.ok x hx).fr0 hf,h.len⟩
def runP (x:Pa):Bool:=x.p.isSome&&(decide ((x.i.st.toNat:Int)=1)&&E2 x.m x.c x.i 2147483647 1099511627776)
def IH (x:Pa) (j:Nat):List St:=if runP x=true then x.i.toks.map (λt=>⟨((j:Nat):Int),t⟩) else []
def FW : List Pa→Nat→List St
 | [],_=>[]
 | x::r,j=>IH x j++FW r (j+1)
theorem R3 (x:Pa):∀(l:List Pa) (j:Nat),FW (l++[x]) j=FW l j++IH x (j+l.length)
 | [],j=>by simp [FW]
 | y::r,j=>by
  rw [List.cons_append,FW,FW,R3 x r,List.append_assoc,List.length_cons,show j+1+r.length=j+(r.length+1) by omega]
theorem R2 {l:List Pa} {j:Nat} {x:Pa} (hx:l[j]?=some x):FW (l.take (j+1)) 0=FW (l.take j) 0++IH x j:=by
 have:=(List.getElem?_eq_some_iff.1 hx).1
 rw [AP hx,R3,Nat.zero_add,List.length_take,Nat.min_eq_left AA]
theorem O7 {s:St}:∀{l:List Pa} {j:Nat},s∈FW l j→∃k x,s.pl=((j+k:Nat):Int)∧l[k]?=some x∧runP x=true∧s.tk∈x.i.toks
 | [],_,h=>by cases h
 | y::r,j,h=>by
  rcases List.mem_append.1 h with h|h
  ·unfold IH at h
   split at h
   ·rename_i hr
    obtain ⟨t,ht,rfl⟩:=List.mem_map.1 h;exact ⟨0,y,X,X,hr,ht⟩
   ·cases h
  ·obtain ⟨k,x,h1,h2,h3⟩:=O7 h;exact ⟨k+1,x,by rw [h1];congr 1;omega,h2,h3⟩
theorem SO : ∀{l:List Pa} {j:Nat},(∀x∈l,x.i.toks.length≤300)→(FW l j).length≤l.length*300
 | [],_,_=>Nat.le_refl _
 | x::r,j,h=>by
  have h1:=SO (l:=r) (j:=j+1) λy hy=>h y (List.mem_cons_of_mem _ hy)
  have h2:(IH x j).length≤300:=by
   unfold IH
   split
   ·rw [List.length_map];exact h x List.mem_cons_self
   ·exact Nat.zero_le _
  rw [FW,List.length_append,List.length_cons];omega
end Go.Proofs.YtaheakjfkpkefaaGreatDoor
