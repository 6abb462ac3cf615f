/- Lemmas. -/
import Derived.Test.YtppmdnmjepkfaaaGreatDoorYMwIn
set_option maxHeartbeats 16000000
set_option maxRecDepth 100000
namespace Go.Proofs.YtppmdnmjepkfaaaGreatDoor
open Go.ChangeShapes Go.WideShapes Go.ChangeAt Go.RowKit Go.Deep Go.Joins
open Tryz
open Decidable renaming decide→O
open Option renaming some→G,none→zx
open Bool renaming true→zz
open Go.Proofs.Tryz renaming prog→zv
open Go renaming reachBytes→zu
section
theorem Y3 : zv.cellsOf 106=11:=zr
theorem Y2 : zv.cellsOf 110=4:=zr
theorem XZ : zv.cellsOf 75=9:=zr
theorem kO : zv.cellsOf 42=5:=zr
theorem kN : zv.cellsOf 40=1:=zr
theorem xB : zv.cellsOf 5=1:=zr
theorem JC : zv.cellsOf 3=1:=zr
theorem q9 : zv.cellsOf 54=1:=zr
theorem qA : zv.cellsOf 45=1:=zr
theorem q8 : zv.cellsOf 46=1:=zr
section
variable {H:Type} {enc:Ly × Kv→H} {w:Kw}
theorem zJ {r:Kx} {d:DataW H} (h:YH enc zv w 106 r d) (hz:Sized zv 106 d):∃b:El,r=b.cells∧(b.id.length≤zu∧b.nm.length≤zu∧b.inn.length≤zu∧b.dflt.length≤zu∧b.att.length≤zu∧b.ref.length≤zu∧b.key.length≤zu):=by
 obtain ⟨fuel,p,hf⟩:=h;obtain ⟨xs,n,_,hx,hl,hlen,hfl⟩:=DataW.trod_struct Bk hf;rw [Y3] at hl
 match r,hl with
 | [c0,c1,c2,c3,c4,c5,c6,c7,c8,c9,c10],_=>
 match xs,hlen with
 | [y0,y1,y2,y3,y4,y5,y6,y7,y8,y9,y10],_=>
  simp only [Az] at hx
  obtain ⟨rfl,_⟩:=hx;have k0:DataW.trod enc zv w 0 (λ_=>zz) zz n 9 (List.take (zv.cellsOf 9) [c0,c1,c2,c3,c4,c5,c6,c7,c8,c9,c10])=G y0:=hfl 0 _ X;rw [DS] at k0
  obtain ⟨s0,e0,d0,_⟩:=DataW.trod_string Ad k0;obtain rfl:c0=_:=by simpa using e0
  have z0:=Sized.field (j:=0) Bk hz X X;rw [d0] at z0
  have k1:DataW.trod enc zv w 0 (λ_=>zz) zz n 9 (List.take (zv.cellsOf 9) [c1,c2,c3,c4,c5,c6,c7,c8,c9,c10])=G y1:=hfl 1 _ X;rw [DS] at k1
  obtain ⟨s1,e1,d1,_⟩:=DataW.trod_string Ad k1;obtain rfl:c1=_:=by simpa using e1
  have z1:=Sized.field (j:=1) Bk hz X X;rw [d1] at z1
  have k2:DataW.trod enc zv w 0 (λ_=>zz) zz n 5 (List.take (zv.cellsOf 5) [c2,c3,c4,c5,c6,c7,c8,c9,c10])=G y2:=hfl 2 _ X;rw [SL] at k2
  obtain ⟨a2,e2,_,w2⟩:=DataW.trod_int Bo k2;obtain rfl:c2=_:=by simpa using e2
  have k3:DataW.trod enc zv w 0 (λ_=>zz) zz n 9 (List.take (zv.cellsOf 9) [c3,c4,c5,c6,c7,c8,c9,c10])=G y3:=hfl 3 _ X;rw [DS] at k3
  obtain ⟨s3,e3,d3,_⟩:=DataW.trod_string Ad k3;obtain rfl:c3=_:=by simpa using e3
  have z3:=Sized.field (j:=3) Bk hz X X;rw [d3] at z3
  have k4:DataW.trod enc zv w 0 (λ_=>zz) zz n 9 (List.take (zv.cellsOf 9) [c4,c5,c6,c7,c8,c9,c10])=G y4:=hfl 4 _ X;rw [DS] at k4
  obtain ⟨s4,e4,d4,_⟩:=DataW.trod_string Ad k4;obtain rfl:c4=_:=by simpa using e4
  have z4:=Sized.field (j:=4) Bk hz X X;rw [d4] at z4
  have k5:DataW.trod enc zv w 0 (λ_=>zz) zz n 9 (List.take (zv.cellsOf 9) [c5,c6,c7,c8,c9,c10])=G y5:=hfl 5 _ X;rw [DS] at k5
  obtain ⟨s5,e5,d5,_⟩:=DataW.trod_string Ad k5;obtain rfl:c5=_:=by simpa using e5
  have z5:=Sized.field (j:=5) Bk hz X X;rw [d5] at z5
  have k6:DataW.trod enc zv w 0 (λ_=>zz) zz n 5 (List.take (zv.cellsOf 5) [c6,c7,c8,c9,c10])=G y6:=hfl 6 _ X;rw [SL] at k6
  obtain ⟨a6,e6,_,w6⟩:=DataW.trod_int Bo k6;obtain rfl:c6=_:=by simpa using e6
  have k7:DataW.trod enc zv w 0 (λ_=>zz) zz n 9 (List.take (zv.cellsOf 9) [c7,c8,c9,c10])=G y7:=hfl 7 _ X;rw [DS] at k7
  obtain ⟨s7,e7,d7,_⟩:=DataW.trod_string Ad k7;obtain rfl:c7=_:=by simpa using e7
  have z7:=Sized.field (j:=7) Bk hz X X;rw [d7] at z7
  have k8:DataW.trod enc zv w 0 (λ_=>zz) zz n 9 (List.take (zv.cellsOf 9) [c8,c9,c10])=G y8:=hfl 8 _ X;rw [DS] at k8
  obtain ⟨s8,e8,d8,_⟩:=DataW.trod_string Ad k8;obtain rfl:c8=_:=by simpa using e8
  have z8:=Sized.field (j:=8) Bk hz X X;rw [d8] at z8
  have k9:DataW.trod enc zv w 0 (λ_=>zz) zz n 3 (List.take (zv.cellsOf 3) [c9,c10])=G y9:=hfl 9 _ X;rw [JC] at k9
  obtain ⟨a9,e9,_⟩:=DataW.trod_int Bm k9;obtain rfl:c9=_:=by simpa using e9
  have k10:DataW.trod enc zv w 0 (λ_=>zz) zz n 3 (List.take (zv.cellsOf 3) [c10])=G y10:=hfl 10 _ X;rw [JC] at k10
  obtain ⟨a10,e10,_⟩:=DataW.trod_int Bm k10;obtain rfl:c10=_:=by simpa using e10
  exact ⟨⟨s0.data.toList,s1.data.toList,UInt8.ofNat a2.toNat,s3.data.toList,s4.data.toList,s5.data.toList,UInt8.ofNat a6.toNat,s7.data.toList,s8.data.toList,a9,a10⟩,by rw [dL w2,dL w6];rfl,z0.text,z1.text,z3.text,z4.text,z5.text,z7.text,z8.text⟩
theorem a2z {A:Ky} {len cap fuel:Nat} {x:DataW H × List MemPlace} (h:DataW.trod enc zv w 0 (λ_=>zz) zz fuel 45 [.slice A len cap]=G x) (hz:Sized zv 45 x.1) :
 ∃l:List El,l.length=len∧(∀b∈l,b.id.length≤zu∧b.nm.length≤zu∧b.inn.length≤zu∧b.dflt.length≤zu∧b.att.length≤zu∧b.ref.length≤zu∧b.key.length≤zu)∧Rd w A (l.length*11) (AF El.cells l):=by
 obtain ⟨rows,D,hl,hD,_,hr,_,_,hn,hx,hd⟩:=LS Fs Y3 A0 h
 have key:∀r∈rows,∃b:El,r=b.cells∧(b.id.length≤zu∧b.nm.length≤zu∧b.inn.length≤zu∧b.dflt.length≤zu∧b.att.length≤zu∧b.ref.length≤zu∧b.key.length≤zu):=by
  rcases hd with ⟨_,h0,_⟩|⟨sp,hs,_⟩
  ·have:rows=[]:=Bl A0
   subst this;exact λr hr=>by (cases hr)
  rw [hs] at hz
  intro r hr;obtain ⟨i,hi⟩:=Cf hr;obtain ⟨d,hdi,hrd⟩:=hx i r hi;exact zJ hrd (hz.elem Fs (Ah hdi))
 obtain ⟨l,rfl,hq⟩:=M6 El.cells (λb=>b.id.length≤zu∧b.nm.length≤zu∧b.inn.length≤zu∧b.dflt.length≤zu∧b.att.length≤zu∧b.ref.length≤zu∧b.key.length≤zu) rows key;rw [Br] at hl
 subst hl;exact ⟨l,X,hq,hr⟩
theorem zI {r:Kx} {d:DataW H} (h:YH enc zv w 110 r d) (hz:Sized zv 110 d):∃b:Fl,r=b.cells∧(b.id.length≤zu∧b.frm.length≤zu∧b.tg.length≤zu∧b.cond.length≤zu):=by
 obtain ⟨fuel,p,hf⟩:=h;obtain ⟨xs,n,_,hx,hl,hlen,hfl⟩:=DataW.trod_struct Co hf;rw [Y2] at hl
 match r,hl with
 | [c0,c1,c2,c3],_=>
 match xs,hlen with
 | [y0,y1,y2,y3],_=>
  simp only [Az] at hx
  obtain ⟨rfl,_⟩:=hx;have k0:DataW.trod enc zv w 0 (λ_=>zz) zz n 9 (List.take (zv.cellsOf 9) [c0,c1,c2,c3])=G y0:=hfl 0 _ X;rw [DS] at k0
  obtain ⟨s0,e0,d0,_⟩:=DataW.trod_string Ad k0;obtain rfl:c0=_:=by simpa using e0
  have z0:=Sized.field (j:=0) Co hz X X;rw [d0] at z0
  have k1:DataW.trod enc zv w 0 (λ_=>zz) zz n 9 (List.take (zv.cellsOf 9) [c1,c2,c3])=G y1:=hfl 1 _ X;rw [DS] at k1
  obtain ⟨s1,e1,d1,_⟩:=DataW.trod_string Ad k1;obtain rfl:c1=_:=by simpa using e1
  have z1:=Sized.field (j:=1) Co hz X X;rw [d1] at z1
  have k2:DataW.trod enc zv w 0 (λ_=>zz) zz n 9 (List.take (zv.cellsOf 9) [c2,c3])=G y2:=hfl 2 _ X;rw [DS] at k2
  obtain ⟨s2,e2,d2,_⟩:=DataW.trod_string Ad k2;obtain rfl:c2=_:=by simpa using e2
  have z2:=Sized.field (j:=2) Co hz X X;rw [d2] at z2
  have k3:DataW.trod enc zv w 0 (λ_=>zz) zz n 9 (List.take (zv.cellsOf 9) [c3])=G y3:=hfl 3 _ X;rw [DS] at k3
  obtain ⟨s3,e3,d3,_⟩:=DataW.trod_string Ad k3;obtain rfl:c3=_:=by simpa using e3
  have z3:=Sized.field (j:=3) Co hz X X;rw [d3] at z3
  exact ⟨⟨s0.data.toList,s1.data.toList,s2.data.toList,s3.data.toList⟩,by rfl,z0.text,z1.text,z2.text,z3.text⟩
theorem a2y {A:Ky} {len cap fuel:Nat} {x:DataW H × List MemPlace} (h:DataW.trod enc zv w 0 (λ_=>zz) zz fuel 46 [.slice A len cap]=G x) (hz:Sized zv 46 x.1) :
 ∃l:List Fl,l.length=len∧(∀b∈l,b.id.length≤zu∧b.frm.length≤zu∧b.tg.length≤zu∧b.cond.length≤zu)∧Rd w A (l.length*4) (AF Fl.cells l):=by
 obtain ⟨rows,D,hl,hD,_,hr,_,_,hn,hx,hd⟩:=LS Ek Y2 A0 h
 have key:∀r∈rows,∃b:Fl,r=b.cells∧(b.id.length≤zu∧b.frm.length≤zu∧b.tg.length≤zu∧b.cond.length≤zu):=by
  rcases hd with ⟨_,h0,_⟩|⟨sp,hs,_⟩
  ·have:rows=[]:=Bl A0
   subst this;exact λr hr=>by (cases hr)
  rw [hs] at hz
  intro r hr;obtain ⟨i,hi⟩:=Cf hr;obtain ⟨d,hdi,hrd⟩:=hx i r hi;exact zI hrd (hz.elem Ek (Ah hdi))
 obtain ⟨l,rfl,hq⟩:=M6 Fl.cells (λb=>b.id.length≤zu∧b.frm.length≤zu∧b.tg.length≤zu∧b.cond.length≤zu) rows key;rw [Br] at hl
 subst hl;exact ⟨l,X,hq,hr⟩
theorem zD {r:Kx} {d:DataW H} (h:YH enc zv w 75 r d) (hz:Sized zv 75 d):∃b:Tk,r=b.cells∧(b.loc.length≤zu∧b.on.length≤zu∧b.worker.length≤zu):=by
 obtain ⟨fuel,p,hf⟩:=h;obtain ⟨xs,n,_,hx,hl,hlen,hfl⟩:=DataW.trod_struct Bw hf;rw [XZ] at hl
 match r,hl with
 | [c0,c1,c2,c3,c4,c5,c6,c7,c8],_=>
 match xs,hlen with
 | [y0,y1,y2,y3,y4,y5,y6,y7,y8],_=>
  simp only [Az] at hx
  obtain ⟨rfl,_⟩:=hx;have k0:DataW.trod enc zv w 0 (λ_=>zz) zz n 3 (List.take (zv.cellsOf 3) [c0,c1,c2,c3,c4,c5,c6,c7,c8])=G y0:=hfl 0 _ X;rw [JC] at k0
  obtain ⟨a0,e0,_⟩:=DataW.trod_int Bm k0;obtain rfl:c0=_:=by simpa using e0
  have k1:DataW.trod enc zv w 0 (λ_=>zz) zz n 9 (List.take (zv.cellsOf 9) [c1,c2,c3,c4,c5,c6,c7,c8])=G y1:=hfl 1 _ X;rw [DS] at k1
  obtain ⟨s1,e1,d1,_⟩:=DataW.trod_string Ad k1;obtain rfl:c1=_:=by simpa using e1
  have z1:=Sized.field (j:=1) Bw hz X X;rw [d1] at z1
  have k2:DataW.trod enc zv w 0 (λ_=>zz) zz n 9 (List.take (zv.cellsOf 9) [c2,c3,c4,c5,c6,c7,c8])=G y2:=hfl 2 _ X;rw [DS] at k2
  obtain ⟨s2,e2,d2,_⟩:=DataW.trod_string Ad k2;obtain rfl:c2=_:=by simpa using e2
  have z2:=Sized.field (j:=2) Bw hz X X;rw [d2] at z2
  have k3:DataW.trod enc zv w 0 (λ_=>zz) zz n 3 (List.take (zv.cellsOf 3) [c3,c4,c5,c6,c7,c8])=G y3:=hfl 3 _ X;rw [JC] at k3
  obtain ⟨a3,e3,_⟩:=DataW.trod_int Bm k3;obtain rfl:c3=_:=by simpa using e3
  have k4:DataW.trod enc zv w 0 (λ_=>zz) zz n 3 (List.take (zv.cellsOf 3) [c4,c5,c6,c7,c8])=G y4:=hfl 4 _ X;rw [JC] at k4
  obtain ⟨a4,e4,_⟩:=DataW.trod_int Bm k4;obtain rfl:c4=_:=by simpa using e4
  have k5:DataW.trod enc zv w 0 (λ_=>zz) zz n 9 (List.take (zv.cellsOf 9) [c5,c6,c7,c8])=G y5:=hfl 5 _ X;rw [DS] at k5
  obtain ⟨s5,e5,d5,_⟩:=DataW.trod_string Ad k5;obtain rfl:c5=_:=by simpa using e5
  have z5:=Sized.field (j:=5) Bw hz X X;rw [d5] at z5
  have k6:DataW.trod enc zv w 0 (λ_=>zz) zz n 3 (List.take (zv.cellsOf 3) [c6,c7,c8])=G y6:=hfl 6 _ X;rw [JC] at k6
  obtain ⟨a6,e6,_⟩:=DataW.trod_int Bm k6;obtain rfl:c6=_:=by simpa using e6
  have k7:DataW.trod enc zv w 0 (λ_=>zz) zz n 5 (List.take (zv.cellsOf 5) [c7,c8])=G y7:=hfl 7 _ X;rw [SL] at k7
  obtain ⟨a7,e7,_,w7⟩:=DataW.trod_int Bo k7;obtain rfl:c7=_:=by simpa using e7
  have k8:DataW.trod enc zv w 0 (λ_=>zz) zz n 54 (List.take (zv.cellsOf 54) [c8])=G y8:=hfl 8 _ X;rw [q9] at k8
  obtain ⟨a8,e8,_⟩:=DataW.trod_int underlying54 k8;obtain rfl:c8=_:=by simpa using e8
  exact ⟨⟨a0,s1.data.toList,s2.data.toList,a3,a4,s5.data.toList,a6,UInt8.ofNat a7.toNat,a8⟩,by rw [dL w7];rfl,z1.text,z2.text,z5.text⟩
theorem a0t {A:Ky} {len cap fuel:Nat} {x:DataW H × List MemPlace} (h:DataW.trod enc zv w 0 (λ_=>zz) zz fuel 40 [.slice A len cap]=G x) (hz:Sized zv 40 x.1) :
 ∃l:List Tk,l.length=len∧(∀b∈l,b.loc.length≤zu∧b.on.length≤zu∧b.worker.length≤zu)∧Rd w A (l.length*9) (AF Tk.cells l):=by
 obtain ⟨rows,D,hl,hD,_,hr,_,_,hn,hx,hd⟩:=LS Gu XZ A0 h
 have key:∀r∈rows,∃b:Tk,r=b.cells∧(b.loc.length≤zu∧b.on.length≤zu∧b.worker.length≤zu):=by
  rcases hd with ⟨_,h0,_⟩|⟨sp,hs,_⟩
  ·have:rows=[]:=Bl A0
   subst this;exact λr hr=>by (cases hr)
  rw [hs] at hz
  intro r hr;obtain ⟨i,hi⟩:=Cf hr;obtain ⟨d,hdi,hrd⟩:=hx i r hi;exact zD hrd (hz.elem Gu (Ah hdi))
 obtain ⟨l,rfl,hq⟩:=M6 Tk.cells (λb=>b.loc.length≤zu∧b.on.length≤zu∧b.worker.length≤zu) rows key;rw [Br] at hl
 subst hl;exact ⟨l,X,hq,hr⟩
theorem N7 {t e:Ly} {n:Nat} {c:Kv} {x:DataW H × List MemPlace} (ht:zv.underlying t=G (.slice e)) (k:DataW.trod enc zv w 0 (λ_=>zz) zz n t [c]=G x):∃A len cap,c=.slice A len cap:=by
 rcases open_slice ht k with ⟨hcs,_⟩|⟨a,len,cap,m,n,D,Pl,hcs,_⟩
 ·exact ⟨zx,0,0,by simpa using hcs⟩
 exact ⟨G a,len,cap,by simpa using hcs⟩
end
theorem gR {l:List (String × DataW Unit)} {W:Kw} {n nm:String} {d:DataW Unit} {g:Nat} (hL:laidMet zv l W) (hm:(n,.iface nm d)∈l) (hg:zv.globalNamed n=G g) (ht:(zv.globals[g]?).map (·.type)=G 245):∃t p,W.cell? ⟨g,0,zx⟩=G (.iface t p):=by
 obtain ⟨ps,hv,_,_⟩:=hL;obtain ⟨g',t',cs,fuel,q,e1,e2,e3,e4⟩:=SB hv hm;obtain rfl:=Bz (hg.symm.trans e1);obtain rfl:=Bz (ht.symm.trans e2);obtain ⟨cs⟩:=cs;have h0:=World.var?_cell hg e3 0
 cases fuel with
 | zero=>simp [DataW.trod] at e4
 | succ fuel=>
  match cs,e4,h0 with
  | [],e4,_=>simp [DataW.trod,underlying245] at e4
  | [E],e4,h0=>
   cases E with
   | iface u v=>exact ⟨u,v,by simpa using h0⟩
   | _=>simp [DataW.trod,underlying245] at e4
  | _::_::_,e4,_=>simp [DataW.trod,underlying245] at e4
theorem a0g {l : List (String × DataW Unit)} {W : Kw} {d1 d2 : DataW Unit} {n1 n2 : String} (hL : laidMet prog l W) (hu : Laid W utfL) (h1 : ("strconv.ErrSyntax", .iface n1 d1) ∈ l) (h2 : ("strconv.ErrRange", .iface n2 d2) ∈ l) : Lay0 W := by
 obtain ⟨t,p,e1⟩:=gR hL h1 (g:=2) zr zr;obtain ⟨t',p',e2⟩:=gR hL h2 (g:=3) zr zr;refine ⟨hu,⟨⟨t,p,e1⟩,t',p',e2⟩,?_⟩;have b1:=World.block_lt_of_cell? W _ e1;have b2:=World.block_lt_of_cell? W _ e2;obtain ⟨_,_,b3⟩:=hu _ (Bi ..);obtain ⟨_,_,b4⟩:=hu _ (Ax _ (Bi ..));have b3:=(Ar.1 b3).1;have b4:=(Ar.1 b4).1
 simp only at b1 b2 b3 b4
 unfold nGlob;omega
end
open Go.RowKit
section
section
variable {m:Md} {c:CrA} {kept:List Tk}
variable (R:Rl m)
include R
variable (Z:Cz m c)
include Z
end
end
section
section
variable {m:Md} {c:CrA}
variable (R:Rl m)
include R
variable (Z:Cz m c)
include Z
end
end
theorem a0X {b0 b1:Nat} {w w2:Kw} (h:∀g∈[]++List.range' b0 (b1-b0),g<w.heap.size→w2.heap[g]?=w.heap[g]?) (hb:w.heap.size≤b1:=by exact Af _):a2T b0 [] w w2:=λg hg hlt=>h g (by
 rw [Fq,List.mem_range'_1];rcases hg with hg|hg
 ·cases hg
 omega) hlt
theorem a07 {b0 b1:Nat} {P:Kw→Prop}:∀g∈(As.res b0 b1 [] P).fp,b0≤g∧g<b1:=λg hg=>by
 have hg:g∈[]++List.range' b0 (b1-b0):=hg;rw [Fq,List.mem_range'_1] at hg
 omega
structure St where
 pl:Int
 tk:Tk
def St.cells (a:St):Kx:=.int .i64 a.pl::a.tk.cells
theorem St.len (a:St):a.cells.length=10:=rfl
theorem St.cells_one (a:St):∀u∈a.cells,u.oneCell'=zz:=BN rfl
structure Ht where
 pl:Int
 tok:Int
 via:Kz
def Ht.cells (a:Ht):Kx:=[.int .i64 a.pl,.int .i64 a.tok,str a.via]
theorem Ht.len (a:Ht):a.cells.length=3:=rfl
theorem Ht.cells_one (a:Ht):∀u∈a.cells,u.oneCell'=zz:=BN rfl
structure Pa where
 p:Ky
 m:Md
 c:CrA
 F:List Nat
 i:In
 V:Ky
 vc:Nat
 T:Ky
 tc:Nat
def Pa.cells (x:Pa):Kx:=.pointer x.p::In.cells x.i x.V x.T x.vc x.tc
theorem Pa.len (x:Pa):x.cells.length=6:=rfl
theorem XE : (zv.info? 127).map (λi=>(i.zero,i.size,i.bytes))=G (G (.agg #[AA 0,AA 0,str [],str [],AA 0,AA 0,str [],AA 0,.int .u8 0,AA 0]),10,104):=zr
theorem C0 : (zv.info? 127).map (·.size)=G 10:=zr
theorem aO : (zv.info? 127).map (·.zero)=G (G (.agg #[AA 0,AA 0,str [],str [],AA 0,AA 0,str [],AA 0,.int .u8 0,AA 0])):=zr
theorem DM : (zv.info? 32).map (·.size)=G 3:=zr
theorem KE : (zv.info? 32).map (·.zero)=G (G (.agg #[AA 0,AA 0,str []])):=zr
theorem IF : (zv.info? 44).map (·.size)=G 6:=zr
theorem Q7 : (zv.info? 44).map (·.zero)=G (G (.agg #[.pointer zx,AA 0,str [],.int .u8 0,.slice zx 0 0,.slice zx 0 0])):=zr
structure PaOk (w:Kw) (x:Pa):Prop where
 cr:x.p=zx∨∃gc,x.p=G ⟨gc,0,zx⟩∧CourseN w x.m gc x.c x.F∧HC x.m=zz∧MdOk x.m
 V:Rd w x.V (x.i.vars.length*5) (AF Bd.cells x.i.vars)
 T:Rd w x.T (x.i.toks.length*9) (AF Tk.cells x.i.toks)
 bd:BdOk x.i.vars
 tl:x.i.toks.length≤300
 wk:∀t∈x.i.toks,(t.worker.length:Int)<4611686018427387904
structure Pts (w:Kw) (A:Ky) (l:List Pa):Prop where
 rd:Rd w A (l.length*6) (AF Pa.cells l)
 ok:∀x∈l,PaOk w x
 len:l.length≤8
theorem PaOk.fr0 {w w':Kw} {x:Pa} (h:PaOk w x) (hf:Fr0 w w'):PaOk w' x:=
 ⟨h.cr.imp id λ⟨gc,h1,h2,h3⟩=>⟨gc,h1,h2.fr0 hf,h3⟩,h.V.fr0 hf,h.T.fr0 hf,h.bd,h.tl,h.wk⟩
theorem Pts.fr0 {w w':Kw} {A:Ky} {l:List Pa} (h:Pts w A l) (hf:Fr0 w w'):Pts w' A l:=⟨h.rd.fr0 hf,λx hx=>(h.ok x hx).fr0 hf,h.len⟩
def runP (x:Pa):Bool:=x.p.isSome&&(O ((x.i.st.toNat:Int)=1)&&IE x.m x.c x.i 2147483647 1099511627776)
def JZ (x:Pa) (j:Nat):List St:=if runP x=zz then x.i.toks.map (λt=>⟨((j:Nat):Int),t⟩) else []
def HO : List Pa→Nat→List St
 | [],_=>[]
 | x::r,j=>JZ x j++HO r (j+1)
theorem UK (x:Pa):∀(l:List Pa) (j:Nat),HO (l++[x]) j=HO l j++JZ x (j+l.length)
 | [],j=>by simp [HO]
 | y::r,j=>by
  rw [Ii,HO,HO,UK x r,Cg,Al,show j+1+r.length=j+(r.length+1) by omega]
theorem UJ {l:List Pa} {j:Nat} {x:Pa} (hx:l[j]?=G x):HO (l.take (j+1)) 0=HO (l.take j) 0++JZ x j:=by
 have:=(An.1 hx).1
 rw [AT hx,UK,Cr,Bs,Gf A0]
theorem WI {s:St}:∀{l:List Pa} {j:Nat},s∈HO l j→∃k x,s.pl=((j+k:Nat):Int)∧l[k]?=G x∧runP x=zz∧s.tk∈x.i.toks
 | [],_,h=>by cases h
 | y::r,j,h=>by
  rcases Bp.1 h with h|h
  ·unfold JZ at h
   split at h
   ·rename_i hr
    obtain ⟨t,ht,rfl⟩:=Cq.1 h;exact ⟨0,y,X,X,hr,ht⟩
   cases h
  obtain ⟨k,x,h1,h2,h3⟩:=WI h;exact ⟨k+1,x,by rw [h1];congr 1;omega,h2,h3⟩
theorem WJ : ∀{l:List Pa} {j:Nat},(∀x∈l,x.i.toks.length≤300)→(HO l j).length≤l.length*300
 | [],_,_=>Af _
 | x::r,j,h=>by
  have h1:=WJ (l:=r) (j:=j+1) λy hy=>h y (Ax _ hy)
  have h2:(JZ x j).length≤300:=by
   unfold JZ
   split
   ·rw [Br];exact h x Bi
   exact Aj _
  rw [HO,Am,Al];omega
section
section
variable {α:Type} (f:α→Int)
def Kf (l:List α) (q:Nat):Int:=((l[q]?).map f).getD 0
variable {f}
theorem HH {l:List α} {q:Nat} {x:α} (h:l[q]?=G x):Kf f l q=f x:=by rw [Kf,h];rfl
theorem IK {l l':List α} {p q:Nat} (h:l'[q]?=l[p]?):Kf f l' q=Kf f l p:=by rw [Kf,Kf,h]
variable (f)
def Srt (l:List α) (a b:Nat):Prop:=∀q,a≤q→q+1<b→Kf f l q≤Kf f l (q+1)
def Stf (l l':List α):Prop:=∀k:Int,l'.filter (λx=>O (f x=k))=l.filter (λx=>O (f x=k))
def OutS (l l':List α) (a b:Nat):Prop:=∀q,q<a∨b≤q→l'[q]?=l[q]?
def Bnd (l l':List α) (a b:Nat):Prop:=(∀v,(∀q,a≤q→q<b→Kf f l q≤v)→∀q,a≤q→q<b→Kf f l' q≤v)∧∀v,(∀q,a≤q→q<b→v≤Kf f l q)→∀q,a≤q→q<b→v≤Kf f l' q
variable {f}
theorem Srt.le {l:List α} {a b:Nat} (h:Srt f l a b) {i j:Nat} (hi:a≤i) (hij:i≤j) (hj:j<b):Kf f l i≤Kf f l j:=by
 induction j with
 | zero=>
  obtain rfl:i=0:=A0
  exact Hj _
 | succ j ih=>
  rcases Gj j i with h1|h1
  ·obtain rfl:i=j+1:=A0
   exact Hj _
  exact Jk (ih h1 A0) (h j A0 hj)
theorem Srt.sub {l:List α} {a b c d:Nat} (h:Srt f l a b) (hc:a≤c) (hd:d≤b):Srt f l c d:=λq h1 h2=>h q A0 A0
theorem Srt.out {l l':List α} {a b c d:Nat} (h:Srt f l c d) (ho:OutS l l' a b) (hx:d≤a∨b≤c):Srt f l' c d:=λq h1 h2=>by
 rw [IK (ho q A0),IK (ho (q+1) A0)];exact h q h1 h2
theorem Stf.refl (l:List α):Stf f l l:=λ_=>rfl
theorem Stf.trans {l l' l'':List α} (h:Stf f l l') (h':Stf f l' l''):Stf f l l'':=λk=>(h' k).trans (h k)
theorem OutS.refl (l:List α) (a b:Nat):OutS l l a b:=λ_ _=>rfl
theorem OutS.trans {l l' l'':List α} {a b:Nat} (h:OutS l l' a b) (h':OutS l' l'' a b):OutS l l'' a b:=λq hq=>(h' q hq).trans (h q hq)
theorem OutS.wide {l l':List α} {a b c d:Nat} (h:OutS l l' a b) (hc:c≤a) (hd:b≤d):OutS l l' c d:=λq hq=>h q A0
theorem Bnd.refl (l:List α) (a b:Nat):Bnd f l l a b:=⟨λ_ h=>h,λ_ h=>h⟩
theorem Bnd.trans {l l' l'':List α} {a b:Nat} (h:Bnd f l l' a b) (h':Bnd f l' l'' a b):Bnd f l l'' a b:=⟨λv hv=>h'.1 v (h.1 v hv),λv hv=>h'.2 v (h.2 v hv)⟩
theorem Bnd.wide {l l':List α} {a b c d:Nat} (h:Bnd f l l' a b) (ho:OutS l l' a b) (hc:c≤a) (hd:b≤d):Bnd f l l' c d:=by
 refine ⟨λv hv q h1 h2=>?_,λv hv q h1 h2=>?_⟩<;>by_cases hq:a≤q∧q<b
 ·exact h.1 v (λq h3 h4=>hv q A0 A0) q hq.1 hq.2
 ·rw [IK (ho q A0)];exact hv q h1 h2
 ·exact h.2 v (λq h3 h4=>hv q A0 A0) q hq.1 hq.2
 rw [IK (ho q A0)];exact hv q h1 h2
def K0 (a m b q:Nat):Nat:=if a≤q∧q<a+(b-m) then q+(m-a) else if a+(b-m)≤q∧q<b then q-(b-m) else q
def swI (a b d q:Nat):Nat:=if a≤q∧q<a+d then q-a+b else if b≤q∧q<b+d then q-b+a else q
def Rot (l l':List α) (a m b:Nat):Prop:=∀q,l'[q]?=l[K0 a m b q]?
theorem HP {l:List α} {a m b:Nat} (h:a=m∨m=b):Rot l l a m b:=λq=>by
 have:K0 a m b q=q:=by unfold K0;split<;>(try split)<;>omega
 rw [this]
theorem RP {l:List α} {i j:Nat} {x y:α} (hx:l[i]?=G x) (hy:l[j]?=G y) (q:Nat):((l.set i y).set j x)[q]?=if q=j then l[i]? else if q=i then l[j]? else l[q]?:=by
 have hi:=(An.1 hx).1;have hj:=(An.1 hy).1
 by_cases h1:q=j
 ·subst h1;rw [Ac rfl,Du (by rw [Hc];exact hj),hx]
 rw [Ae h1,Ee (Es h1)]
 by_cases h2:q=i
 ·subst h2;rw [Ac rfl,Du hi,hy]
 rw [Ae h2,Ee (Es h2)]
theorem a3P (l:List α) {a m b:Nat} (h1:a≤m) (h2:m≤b):l=l.take a++((l.drop a).take (m-a)++((l.drop m).take (b-m)++l.drop b)):=by
 have e1:l.drop b=(l.drop m).drop (b-m):=by rw [Gl];congr 1;omega
 have e2:l.drop m=(l.drop a).drop (m-a):=by rw [Gl];congr 1;omega
 rw [e1,Dd]
 conv=>rhs;rw [e2]
 rw [Dd,Dd]
theorem Rot.dec {l l':List α} {a m b:Nat} (h:Rot l l' a m b) (h1:a≤m) (h2:m≤b) (hb:b≤l.length):l'=l.take a++((l.drop m).take (b-m)++((l.drop a).take (m-a)++l.drop b)):=by
 refine Eh λq=>?_
 rw [h q];have n1:(l.take a).length=a:=by rw [Bs];omega
 have n2:((l.drop m).take (b-m)).length=b-m:=by rw [Bs,Ch];omega
 have n3:((l.drop a).take (m-a)).length=m-a:=by rw [Bs,Ch];omega
 unfold K0
 by_cases c1:q<a
 ·rw [Ae A0,Ae A0,Cv A0,Cj c1]
 rw [Ck A0,n1]
 by_cases c2:q<a+(b-m)
 ·rw [Ac A0,Cv A0,Cj A0,Ca]
  congr 1;omega
 rw [Ck A0,n2]
 by_cases c3:q<b
 ·rw [Ae A0,Ac A0,Cv A0,Cj A0,Ca]
  congr 1;omega
 rw [Ae A0,Ae A0,Ck A0,n3,Ca]
 congr 1;omega
theorem f5 {l:List α} {a m:Nat} {x:α} (h:x∈(l.drop a).take (m-a)):∃i,a≤i∧i<m∧l[i]?=G x:=by
 obtain ⟨k,hk⟩:=Cf h;have hlt:=(An.1 hk).1;rw [Bs] at hlt
 rw [Cj A0,Ca] at hk
 exact ⟨a+k,A0,A0,hk⟩
theorem Rot.stf {l l':List α} {a m b:Nat} (h:Rot l l' a m b) (h1:a≤m) (h2:m≤b) (hb:b≤l.length) (hne:∀i j,a≤i→i<m→m≤j→j<b→Kf f l i≠Kf f l j):Stf f l l':=λk=>by
 rw [h.dec h1 h2 hb]
 conv=>rhs;rw [a3P l h1 h2]
 simp only [Cm]
 have:((l.drop a).take (m-a)).filter (λx=>O (f x=k))=[]∨((l.drop m).take (b-m)).filter (λx=>O (f x=k))=[]:=by
  rw [Gz,Gz];refine Fj λhc=>?_
  rw [not_or] at hc
  obtain ⟨c1,c2⟩:=hc;simp only [Classical.not_forall,Classical.not_not] at c1 c2
  obtain ⟨x,hx,kx⟩:=c1;obtain ⟨y,hy,ky⟩:=c2;obtain ⟨i,i1,i2,hi⟩:=f5 hx;obtain ⟨j,j1,j2,hj⟩:=f5 hy;refine hne i j i1 i2 j1 j2 ?_;rw [HH hi,HH hj,odt kx,odt ky]
 rcases this with e|e<;>rw [e]<;>simp
theorem Rot.out {l l':List α} {a m b:Nat} (h:Rot l l' a m b) (h1:a≤m) (h2:m≤b):OutS l l' a b:=λq hq=>by
 rw [h q]
 have:K0 a m b q=q:=by unfold K0;split<;>(try split)<;>omega
 rw [this]
theorem yZ {a m b q:Nat} (h1:a≤m) (h2:m≤b) (ha:a≤q) (hb:q<b):a≤K0 a m b q∧K0 a m b q<b:=by unfold K0;split<;>(try split)<;>omega
theorem Rot.bnd {l l':List α} {a m b:Nat} (h:Rot l l' a m b) (h1:a≤m) (h2:m≤b):Bnd f l l' a b:=by
 refine ⟨λv hv q q1 q2=>?_,λv hv q q1 q2=>?_⟩<;>rw [IK (h q)]<;>obtain ⟨r1,r2⟩:=yZ h1 h2 q1 q2<;>exact hv _ r1 r2
theorem rW {l:List α} {j:Nat} {x y:α} (hj:0<j) (hx:l[j]?=G x) (hy:l[j-1]?=G y):Rot l ((l.set j y).set (j-1) x) (j-1) j (j+1):=λq=>by
 rw [RP hx hy];unfold K0
 by_cases h1:q=j-1
 ·subst h1;rw [Ac rfl,Ac A0];congr 1;omega
 rw [Ae h1]
 by_cases h2:q=j
 ·subst h2;rw [Ac rfl,Ae A0,Ac A0];congr 1;omega
 rw [Ae h2,Ae A0,Ae A0]
variable (f)
structure InJ (l0:List α) (a b i j:Nat) (l:List α):Prop where
 st:Stf f l0 l
 out:OutS l0 l a b
 s1:∀q,a≤q→q+1≤i→q+1≠j→Kf f l q≤Kf f l (q+1)
 s2:a<j→j<i→Kf f l (j-1)≤Kf f l (j+1)
structure InI (l0:List α) (a b i:Nat) (l:List α):Prop where
 st:Stf f l0 l
 out:OutS l0 l a b
 s:Srt f l a i
variable {f}
theorem InI.start (l:List α) (a b:Nat):InI f l a b (a+1) l:=⟨Stf.refl l,OutS.refl l a b,λq h1 h2=>A0⟩
theorem InI.j {l0 l:List α} {a b i:Nat} (h:InI f l0 a b i l):InJ f l0 a b i i l:=⟨h.st,h.out,λq h1 h2 h3=>h.s q h1 A0,λ_ h2=>absurd h2 (Nat.lt_irrefl _)⟩
theorem InJ.step {l0 l:List α} {a b i j:Nat} {x y:α} (h:InJ f l0 a b i j l) (hx:l[j]?=G x) (hy:l[j-1]?=G y) (hlt:f x<f y) (haj:a<j) (hji:j≤i) (hib:i<b):InJ f l0 a b i (j-1) ((l.set j y).set (j-1) x):=by
 have hjl:=(An.1 hx).1;have kx:=HH (f:=f) hx;have ky:=HH (f:=f) hy;have R:=rW A0 hx hy
 have hK:∀q,Kf f ((l.set j y).set (j-1) x) q=if q=j-1 then Kf f l j else if q=j then Kf f l (j-1) else Kf f l q:=λq=>by
  have e:=RP hx hy q
  split
  ·rename_i h1;rw [Ac h1] at e;exact IK e
  rename_i h1
  rw [Ae h1] at e
  split
  ·rename_i h2;rw [Ac h2] at e;exact IK e
  rename_i h2;rw [Ae h2] at e;exact IK e
 refine ⟨h.st.trans (R.stf A0 A0 A0 λp q p1 p2 q1 q2=>?_),h.out.trans ((R.out A0 A0).wide A0 A0),λq q1 q2 q3=>?_,λq1 q2=>?_⟩
 ·obtain rfl:p=j-1:=A0
  obtain rfl:q=j:=A0
  omega
 ·rw [hK,hK]
  by_cases c1:q=j-1
  ·subst c1;rw [Ac rfl,Ae A0,Ac A0];omega
  rw [Ae c1]
  by_cases c2:q=j
  ·subst c2;rw [Ac rfl,Ae A0,Ae A0];exact h.s2 haj A0
  rw [Ae c2,Ae A0,Ae A0];exact h.s1 q q1 q2 A0
 rw [hK,hK,Ae A0,Ae A0,Ae A0,Ac A0]
 have:=h.s1 (j-1-1) A0 A0 A0
 rwa [show j-1-1+1=j-1 by omega] at this
theorem InJ.step2 {l0 l:List α} {a b i j:Nat} {x y x' y':α} (h:InJ f l0 a b i j l) (hlt:f x'<f y') (hx':l[j]?=G x') (hy':l[j-1]?=G y') (hx:l[j]?=G x) (hy:l[j-1]?=G y) (haj:a<j) (hji:j≤i) (hib:i<b):InJ f l0 a b i (j-1) ((l.set j y).set (j-1) x):=by
 obtain rfl:=Bz (hx'.symm.trans hx);obtain rfl:=Bz (hy'.symm.trans hy);exact h.step hx hy hlt haj hji hib
theorem InJ.done0 {l0 l:List α} {a b i j:Nat} (h:InJ f l0 a b i j l) (hj:j≤a):InI f l0 a b (i+1) l:=⟨h.st,h.out,λq h1 h2=>h.s1 q h1 A0 A0⟩
theorem InJ.done1 {l0 l:List α} {a b i j:Nat} {x y:α} (h:InJ f l0 a b i j l) (hx:l[j]?=G x) (hy:l[j-1]?=G y) (hge:¬f x<f y):InI f l0 a b (i+1) l:=⟨h.st,h.out,λq h1 h2=>by
 by_cases hq:q+1=j
 ·subst hq;rw [show q+1-1=q by omega] at hy
  rw [HH hx,HH hy];omega
 exact h.s1 q h1 A0 hq⟩
variable (f)
structure Isd (l l':List α) (a b:Nat):Prop where
 st:Stf f l l'
 out:OutS l l' a b
 s:Srt f l' a b
variable {f}
theorem InI.done {l0 l:List α} {a b i:Nat} (h:InI f l0 a b i l) (hi:b≤i):Isd f l0 l a b:=⟨h.st,h.out,h.s.sub (Af _) hi⟩
def Sws (l l':List α) (a b d:Nat):Prop:=∀q,l'[q]?=l[swI a b d q]?
theorem Sws.start (l:List α) (a b:Nat):Sws l l a b 0:=λq=>by
 have:swI a b 0 q=q:=by unfold swI;split<;>(try split)<;>omega
 rw [this]
theorem Sws.step {l l':List α} {a b i:Nat} {x y:α} (h:Sws l l' a b i) (hx:l'[a+i]?=G x) (hy:l'[b+i]?=G y) (hab:a+i<b):Sws l ((l'.set (a+i) y).set (b+i) x) a b (i+1):=λq=>by
 rw [RP hx hy];have e:∀p,l'[p]?=l[swI a b i p]?:=h
 by_cases h1:q=b+i
 ·subst h1;rw [Ac rfl,e];congr 1;unfold swI;(repeat' split)<;>omega
 rw [Ae h1]
 by_cases h2:q=a+i
 ·subst h2;rw [Ac rfl,e];congr 1;unfold swI;(repeat' split)<;>omega
 rw [Ae h2,e];congr 1;unfold swI;(repeat' split)<;>omega
def RoS (l l':List α) (a m b i j:Nat):Prop:=∀q,l'[K0 (m-i) m (m+j) q]?=l[K0 a m b q]?
theorem RoS.start (l:List α) {a m b:Nat} (h1:a<m) (h2:m<b):RoS l l a m b (m-a) (b-m):=λq=>by rw [show m-(m-a)=a by omega,show m+(b-m)=b by omega]
theorem RoS.left {l l' l'':List α} {a m b i j:Nat} (h:RoS l l' a m b i j) (hs:Sws l' l'' (m-i) m j) (hij:j<i) (him:i≤m):RoS l l'' a m b (i-j) j:=λq=>by
 rw [hs,←h q];congr 1;unfold swI K0;(repeat' split)<;>omega
theorem RoS.right {l l' l'':List α} {a m b i j:Nat} (h:RoS l l' a m b i j) (hs:Sws l' l'' (m-i) (m+j-i) i) (hij:i<j) (him:i≤m):RoS l l'' a m b i (j-i):=λq=>by
 rw [hs,←h q];congr 1;unfold swI K0;(repeat' split)<;>omega
theorem RoS.done {l l' l'':List α} {a m b i:Nat} (h:RoS l l' a m b i i) (hs:Sws l' l'' (m-i) m i) (him:i≤m):Rot l l'' a m b:=λq=>by
 rw [hs,←h q];congr 1;unfold swI K0;(repeat' split)<;>omega
variable (f)
structure Mgd (l l':List α) (a b:Nat):Prop where
 st:Stf f l l'
 out:OutS l l' a b
 bnd:Bnd f l l' a b
 s:Srt f l' a b
variable {f}
theorem Mgd.none {l:List α} {a b:Nat} (h:Srt f l a b):Mgd f l l a b:=⟨Stf.refl l,OutS.refl l a b,Bnd.refl l a b,h⟩
theorem Rot.k {l l':List α} {a m b:Nat} (h:Rot l l' a m b) (q:Nat):Kf f l' q=Kf f l (K0 a m b q):=IK (h q)
theorem RW {a m b q:Nat} (h1:a≤q) (h2:q<a+(b-m)):K0 a m b q=q+(m-a):=Ac ⟨h1,h2⟩
theorem RV {a m b q:Nat} (h1:a+(b-m)≤q) (h2:q<b):K0 a m b q=q-(b-m):=by rw [K0,Ae A0,Ac ⟨h1,h2⟩]
theorem MH {a m b q:Nat} (h1:q<a∨(b≤q∧a+(b-m)≤q)):K0 a m b q=q:=by rw [K0,Ae A0,Ae A0]
theorem Rot.cast {l l':List α} {a m b a' m' b':Nat} (h:Rot l l' a m b) (h1:a=a') (h2:m=m') (h3:b=b'):Rot l l' a' m' b':=by subst h1 h2 h3;exact h
theorem nZ {l l2:List α} {a k:Nat} {x y:α} (h:Rot l l2 a (a+1) (k+1)) (hk:a≤k) (hx:l2[k]?=G x) (hy:l2[k+1]?=G y):Rot l ((l2.set k y).set (k+1) x) a (a+1) (k+1+1):=λq=>by
 rw [RP hx hy]
 by_cases h1:q=k+1
 ·subst h1;rw [Ac rfl,h];congr 1;unfold K0;(repeat' split)<;>omega
 rw [Ae h1]
 by_cases h2:q=k
 ·subst h2;rw [Ac rfl,h];congr 1;unfold K0;(repeat' split)<;>omega
 rw [Ae h2,h];congr 1;unfold K0;(repeat' split)<;>omega
theorem nY {l l2:List α} {m k:Nat} {x y:α} (h:Rot l l2 k m (m+1)) (hk:0<k) (hkm:k≤m) (hx:l2[k]?=G x) (hy:l2[k-1]?=G y):Rot l ((l2.set k y).set (k-1) x) (k-1) m (m+1):=λq=>by
 rw [RP hx hy]
 by_cases h1:q=k-1
 ·subst h1;rw [Ac rfl,h];congr 1;unfold K0;(repeat' split)<;>omega
 rw [Ae h1]
 by_cases h2:q=k
 ·subst h2;rw [Ac rfl,h];congr 1;unfold K0;(repeat' split)<;>omega
 rw [Ae h2,h];congr 1;unfold K0;(repeat' split)<;>omega
theorem a1i {l:List α} {a m b h:Nat} {x y:α} (S:Srt f l m b) (hlt:f x<f y) (hx:l[h]?=G x) (hy:l[a]?=G y) (hb:h<b):∀q,m≤q→q<h+1→Kf f l q<Kf f l a:=λq q1 q2=>by
 have:=S.le q1 (show q≤h by omega) hb
 rw [HH hx] at this;rw [HH hy];omega
theorem a1g {l:List α} {a m b h:Nat} {x y:α} (S:Srt f l m b) (hge:¬f x<f y) (hx:l[h]?=G x) (hy:l[a]?=G y) (hm:m≤h):∀q,h≤q→q<b→Kf f l a≤Kf f l q:=λq q1 q2=>by
 have:=S.le hm q1 q2
 rw [HH hx] at this;rw [HH hy];omega
theorem a1h {l:List α} {a m h:Nat} {x y:α} (S:Srt f l a m) (hge:¬f x<f y) (hx:l[m]?=G x) (hy:l[h]?=G y) (hb:h<m):∀q,a≤q→q<h+1→Kf f l q≤Kf f l m:=λq q1 q2=>by
 have:=S.le q1 (show q≤h by omega) hb
 rw [HH hy] at this;rw [HH hx];omega
theorem a1f {l:List α} {a m h:Nat} {x y:α} (S:Srt f l a m) (hlt:f x<f y) (hx:l[m]?=G x) (hy:l[h]?=G y) (hm:a≤h):∀q,h≤q→q<m→Kf f l m<Kf f l q:=λq q1 q2=>by
 have:=S.le hm q1 q2
 rw [HH hy] at this;rw [HH hx];omega
theorem a0e {l l':List α} {a m b i:Nat} (hm:m=a+1) (S:Srt f l m b) (hi:m≤i) (hib:i≤b) (hbl:b≤l.length) (hL:∀q,m≤q→q<i→Kf f l q<Kf f l a) (hR:∀q,i≤q→q<b→Kf f l a≤Kf f l q) (R:Rot l l' a m i):Mgd f l l' a b:=by
 subst hm;refine ⟨R.stf A0 hi A0 λp q p1 p2 q1 q2=>?_,(R.out A0 hi).wide (Af _) hib,(R.bnd A0 hi).wide (R.out A0 hi) (Af _) hib,λq q1 q2=>?_⟩
 ·obtain rfl:p=a:=A0
  have:=hL q q1 q2;omega
 rw [R.k,R.k]
 by_cases c1:q+1<a+(i-(a+1))
 ·rw [RW A0 A0,RW A0 A0]
  have:=S (q+(a+1-a)) A0 A0
  rwa [show q+(a+1-a)+1=q+1+(a+1-a) by omega] at this
 by_cases c2:q+1=a+(i-(a+1))
 ·rw [RW A0 A0,RV A0 A0,show q+1-(i-(a+1))=a by omega];exact Ha (hL _ A0 A0)
 by_cases c3:q+1=i
 ·rw [RV A0 A0,MH A0,show q-(i-(a+1))=a by omega];exact hR _ A0 A0
 rw [MH A0,MH A0];exact S q A0 q2
theorem uI {l l':List α} {a m b i:Nat} (hb:b=m+1) (S:Srt f l a m) (hi:a≤i) (him:i≤m) (hbl:b≤l.length) (hL:∀q,a≤q→q<i→Kf f l q≤Kf f l m) (hR:∀q,i≤q→q<m→Kf f l m<Kf f l q) (R:Rot l l' i m b):Mgd f l l' a b:=by
 subst hb;refine ⟨R.stf him A0 hbl λp q p1 p2 q1 q2=>?_,(R.out him A0).wide hi (Af _),(R.bnd him A0).wide (R.out him A0) hi (Af _),λq q1 q2=>?_⟩
 ·obtain rfl:q=m:=A0
  have:=hR p p1 p2;omega
 rw [R.k,R.k]
 by_cases c1:q+1<i
 ·rw [MH A0,MH A0];exact S q q1 A0
 by_cases c2:q+1=i
 ·rw [MH A0,RW A0 A0,show q+1+(m-i)=m by omega];exact hL _ q1 A0
 by_cases c3:q=i
 ·rw [RW A0 A0,RV A0 A0,show q+(m-i)=m by omega];exact Ha (hR _ A0 A0)
 rw [RV A0 A0,RV A0 A0]
 have:=S (q-(m+1-m)) A0 A0
 rwa [show q-(m+1-m)+1=q+1-(m+1-m) by omega] at this
variable (f)
structure MgA (l l2:List α) (a b s mid e:Nat):Prop where
 s1:Srt f l2 a s
 s2:Srt f l2 s mid
 s3:Srt f l2 mid e
 s4:Srt f l2 e b
 cross:∀i j,a≤i→i<mid→mid≤j→j<b→Kf f l2 i≤Kf f l2 j
 st:Stf f l l2
 out:OutS l l2 a b
 bnd:Bnd f l l2 a b
structure Sea (l:List α) (p s0 r0 s r:Nat):Prop where
 lo:∀c,s0≤c→c<s→Kf f l c≤Kf f l (p-c)
 hi:∀c,r≤c→c<r0→Kf f l (p-c)<Kf f l c
variable {f}
def Cse (a m b s0 r0:Nat):Prop:=((a+b) / 2<m∧s0+b=(a+b) / 2+m∧r0=(a+b) / 2)∨(m≤(a+b) / 2∧s0=a∧r0=m)
theorem Sea.up {l:List α} {a m b s0 r0 s r c:Nat} {x y:α} (h:Sea f l ((a+b) / 2+m-1) s0 r0 s r) (hc:Cse a m b s0 r0) (ham:a<m) (S1:Srt f l a m) (S2:Srt f l m b) (h2:c<r) (h3:r≤r0) (hx:l[(a+b) / 2+m-1-c]?=G x) (hy:l[c]?=G y) (hge:¬f x<f y):Sea f l ((a+b) / 2+m-1) s0 r0 (c+1) r:=by
 refine ⟨λd d1 d2=>?_,h.hi⟩;rcases Gj d s with q|q
 ·exact h.lo d d1 q
 have kx:=HH (f:=f) hx;have ky:=HH (f:=f) hy
 have e1:Kf f l d≤Kf f l c:=by
  rcases hc with hc|hc
  ·exact S1.le A0 A0 A0
  exact S1.le A0 A0 A0
 have e2:Kf f l ((a+b) / 2+m-1-c)≤Kf f l ((a+b) / 2+m-1-d):=by
  rcases hc with hc|hc
  ·exact S2.le A0 A0 A0
  exact S2.le A0 A0 A0
 omega
theorem Sea.down {l:List α} {a m b s0 r0 s r c:Nat} {x y:α} (h:Sea f l ((a+b) / 2+m-1) s0 r0 s r) (hc:Cse a m b s0 r0) (S1:Srt f l a m) (S2:Srt f l m b) (h0:s0≤s) (h1:s≤c) (h2:c<r) (h3:r≤r0) (hx:l[(a+b) / 2+m-1-c]?=G x) (hy:l[c]?=G y) (hlt:f x<f y):Sea f l ((a+b) / 2+m-1) s0 r0 s c:=by
 refine ⟨h.lo,λd d1 d2=>?_⟩;rcases Gj d r with q|q
 ·have kx:=HH (f:=f) hx;have ky:=HH (f:=f) hy
  have e1:Kf f l c≤Kf f l d:=by
   rcases hc with hc|hc
   ·exact S1.le A0 A0 A0
   exact S1.le A0 A0 A0
  have e2:Kf f l ((a+b) / 2+m-1-d)≤Kf f l ((a+b) / 2+m-1-c):=by
   rcases hc with hc|hc
   ·exact S2.le A0 A0 A0
   exact S2.le A0 A0 A0
  omega
 exact h.hi d q d2
theorem a2n {l l2:List α} {a m b s0 r0 s:Nat} (h:Sea f l ((a+b) / 2+m-1) s0 r0 s s) (hc:Cse a m b s0 r0) (ham:a<m) (hmb:m<b) (hbl:b≤l.length) (S1:Srt f l a m) (S2:Srt f l m b) (h0:s0≤s) (h3:s≤r0) (R:Rot l l2 s m ((a+b) / 2+m-s)):MgA f l l2 a b s ((a+b) / 2) ((a+b) / 2+m-s):=by
 unfold Cse at hc
 obtain ⟨e,he⟩:∃e,e=(a+b) / 2+m-s:=⟨_,X⟩
 obtain ⟨d,hd⟩:∃d,d=(a+b) / 2:=⟨_,X⟩
 rw [←he] at R ⊢
 rw [←hd] at hc he ⊢ h
 have hsm:s≤m:=by rcases hc with hc|hc<;>omega
 have hme:m≤e:=by rcases hc with hc|hc<;>omega
 have hsd:s≤d:=by rcases hc with hc|hc<;>omega
 have has:a≤s:=by rcases hc with hc|hc<;>omega
 have hde:d≤e:=by rcases hc with hc|hc<;>omega
 have heb:e≤b:=by rcases hc with hc|hc<;>omega
 have hlt:∀i j,s≤i→i<m→m≤j→j<e→Kf f l j<Kf f l i:=λi j i1 i2 j1 j2=>by
  have e0:=h.hi s (Af _) (by rcases hc with hc|hc<;>omega);have e1:=S1.le (i:=s) (j:=i) has i1 i2;have e2:=S2.le (i:=j) (j:=d+m-1-s) j1 A0 A0;omega
 have hX:∀i j,a≤i→i<s→e≤j→j<b→Kf f l i≤Kf f l j:=λi j i1 i2 j1 j2=>by
  have e0:=h.lo (s-1) (by rcases hc with hc|hc<;>omega) A0;rw [show d+m-1-(s-1)=e by omega] at e0
  have e1:=S1.le (i:=i) (j:=s-1) i1 A0 A0;have e2:=S2.le (i:=e) (j:=j) A0 j1 j2;omega
 refine ⟨λq q1 q2=>?_,λq q1 q2=>?_,λq q1 q2=>?_,λq q1 q2=>?_,λi j i1 i2 j1 j2=>?_,R.stf hsm hme A0 λi j i1 i2 j1 j2=>?_,(R.out hsm hme).wide has heb,(R.bnd hsm hme).wide (R.out hsm hme) has heb⟩
 ·rw [R.k,R.k,MH A0,MH A0];exact S1 q q1 A0
 ·rw [R.k,R.k,RW q1 A0,RW A0 A0]
  have:=S2 (q+(m-s)) A0 A0
  rwa [show q+(m-s)+1=q+1+(m-s) by omega] at this
 ·rw [R.k,R.k,RV A0 A0,RV A0 A0]
  have:=S1 (q-(e-m)) A0 A0
  rwa [show q-(e-m)+1=q+1-(e-m) by omega] at this
 ·rw [R.k,R.k,MH A0,MH A0];exact S2 q A0 q2
 ·rw [R.k,R.k]
  by_cases c1:i<s<;>by_cases c2:j<e
  ·rw [MH A0,RV A0 c2];exact S1.le i1 A0 A0
  ·rw [MH A0,MH A0];exact hX i j i1 c1 A0 j2
  ·rw [RW A0 A0,RV A0 c2];exact Ha (hlt _ _ A0 A0 A0 A0)
  rw [RW A0 A0,MH A0];exact S2.le A0 A0 j2
 have:=hlt i j i1 i2 j1 j2;omega
theorem MgA.left {l l2:List α} {a b s mid e:Nat} (h:MgA f l l2 a b s mid e) (hq:s≤a∨mid≤s):Mgd f l2 l2 a mid:=Mgd.none (by
 rcases hq with hq|hq
 ·exact h.s2.sub hq (Af _)
 exact h.s1.sub (Af _) hq)
theorem MgA.right {l l2 l3:List α} {a b s mid e:Nat} (h:MgA f l l2 a b s mid e) (h3:Mgd f l2 l3 a mid) (hq:e≤mid∨b≤e):Mgd f l3 l3 mid b:=Mgd.none (by
 rcases hq with hq|hq
 ·exact (h.s4.sub hq (Af _)).out h3.out (.inr (Af _))
 exact (h.s3.sub (Af _) hq).out h3.out (.inr (Af _)))
theorem P0 {l l2 l3 l4:List α} {a b s mid e:Nat} (h:MgA f l l2 a b s mid e) (ha:a≤mid) (hb:mid≤b) (h3:Mgd f l2 l3 a mid) (h4:Mgd f l3 l4 mid b):Mgd f l l4 a b:=by
 refine ⟨(h.st.trans h3.st).trans h4.st,(h.out.trans (h3.out.wide (Af _) hb)).trans (h4.out.wide ha (Af _)),(h.bnd.trans (h3.bnd.wide h3.out (Af _) hb)).trans (h4.bnd.wide h4.out ha (Af _)),λq q1 q2=>?_⟩
 by_cases c1:q+1<mid
 ·exact (h3.s.out h4.out (.inl (Af _))) q q1 c1
 by_cases c2:q+1=mid
 ·have hl:∀j,mid≤j→j<b→∀i,a≤i→i<mid→Kf f l3 i≤Kf f l3 j:=λj j1 j2=>by
   rw [IK (h3.out j (.inr j1))];exact h3.bnd.1 _ λi i1 i2=>h.cross i j i1 i2 j1 j2
  rw [IK (h4.out q (.inl A0))];exact h4.bnd.2 _ (λj j1 j2=>hl j j1 j2 q q1 A0) (q+1) A0 q2
 exact h4.s q A0 q2
variable (f)
structure Bks (l0 l:List α) (n z y:Nat):Prop where
 st:Stf f l0 l
 two:∀q,q+1<y→q+1<n→(q+1)%(2*z)≠0→Kf f l q≤Kf f l (q+1)
 one:∀q,y≤q→q+1<n→(q+1)%z≠0→Kf f l q≤Kf f l (q+1)
 mul:y%(2*z)=0
structure Bk1 (l0 l:List α) (x:Nat):Prop where
 st:Stf f l0 l
 s:∀q,q+1<x→(q+1)%20≠0→Kf f l q≤Kf f l (q+1)
 mul:x%20=0
variable {f}
theorem Bk1.start (l:List α):Bk1 f l l 0:=⟨Stf.refl l,λq h=>A0,rfl⟩
theorem Bk1.step {l0 l l':List α} {x:Nat} (h:Bk1 f l0 l x) (hi:Isd f l l' x (x+20)):Bk1 f l0 l' (x+20):=by
 refine ⟨h.st.trans hi.st,λq q1 q2=>?_,by have:=h.mul;omega⟩
 have:=h.mul
 by_cases c:x≤q
 ·exact hi.s q c q1
 rw [IK (hi.out q A0),IK (hi.out (q+1) A0)];exact h.s q A0 q2
theorem Bk1.done {l0 l l':List α} {x n:Nat} (h:Bk1 f l0 l x) (hi:Isd f l l' x n):Bks f l0 l' n 20 0:=by
 refine ⟨h.st.trans hi.st,λq h=>A0,λq _ q1 q2=>?_,rfl⟩
 have:=h.mul
 by_cases c:x≤q
 ·exact hi.s q c q1
 rw [IK (hi.out q A0),IK (hi.out (q+1) A0)];exact h.s q A0 q2
theorem uH {y z d:Nat} (h:y%z=0) (h1:0<d) (h2:d<z):(y+d)%z≠0:=by
 rw [Nat.add_mod,h,Cr,Nat.mod_mod,Nat.mod_eq_of_lt h2];omega
theorem fN {y z:Nat} (h:y%(2*z)=0):y%z=0:=by
 rw [←Nat.mod_mod_of_dvd y (Nat.dvd_mul_left z 2),h,Je]
theorem Bks.l1 {l0 l:List α} {n z y b:Nat} (h:Bks f l0 l n z y) (hb:b≤y+z) (hn:b≤n):Srt f l y b:=λq q1 q2=>h.one q q1 A0 (by
 have:=uH (d:=q+1-y) (fN h.mul) A0 A0
 rwa [show y+(q+1-y)=q+1 by omega] at this)
theorem Bks.l2 {l0 l:List α} {n z y b:Nat} (h:Bks f l0 l n z y) (hb:b≤y+2*z) (hn:b≤n):Srt f l (y+z) b:=λq q1 q2=>h.one q A0 A0 (by
 have hz:(y+z)%z=0:=by rw [Nat.add_mod_right];exact fN h.mul
 have:=uH (d:=q+1-(y+z)) hz A0 A0
 rwa [show y+z+(q+1-(y+z))=q+1 by omega] at this)
theorem Bks.step {l0 l l':List α} {n z y:Nat} (h:Bks f l0 l n z y) (hz:0<z) (hi:Mgd f l l' y (y+2*z)):Bks f l0 l' n z (y+2*z):=by
 have hm:=h.mul;refine ⟨h.st.trans hi.st,λq q1 q2 q3=>?_,λq q1 q2 q3=>?_,by rw [Nat.add_mod_right];exact hm⟩
 ·by_cases c:y≤q
  ·exact hi.s q c q1
  have:q+1≠y:=λe=>q3 (e▸hm)
  rw [IK (hi.out q A0),IK (hi.out (q+1) A0)];exact h.two q A0 q2 q3
 rw [IK (hi.out q A0),IK (hi.out (q+1) A0)];exact h.one q A0 q2 q3
theorem Bks.next {l0 l:List α} {n z y:Nat} (h:Bks f l0 l n z y) (hn:n≤y+z):Bks f l0 l n (2*z) 0:=by
 have hm:=h.mul;refine ⟨h.st,λq h=>A0,λq _ q1 q2=>?_,Je _⟩
 by_cases c:y≤q
 ·exact h.l1 (b:=n) hn (Af _) q c q1
 have:q+1≠y:=λe=>q2 (e▸hm)
 exact h.two q A0 q1 q2
theorem Bks.next2 {l0 l l':List α} {n z y:Nat} (h:Bks f l0 l n z y) (hi:Mgd f l l' y n):Bks f l0 l' n (2*z) 0:=by
 have hm:=h.mul;refine ⟨h.st.trans hi.st,λq h=>A0,λq _ q1 q2=>?_,Je _⟩
 by_cases c:y≤q
 ·exact hi.s q c q1
 have:q+1≠y:=λe=>q2 (e▸hm)
 rw [IK (hi.out q A0),IK (hi.out (q+1) A0)];exact h.two q A0 q1 q2
theorem VS {l0 l:List α} {n z y:Nat} (h:Bks f l0 l n (2*z) y):Bks f l0 l n (z*2) y:=by rw [Gv];exact h
theorem Bks.done {l0 l:List α} {n z:Nat} (h:Bks f l0 l n z 0) (hn:n≤z):Stf f l0 l∧Srt f l 0 n:=⟨h.st,h.l1 A0 (Af _)⟩
end
end
end Go.Proofs.YtppmdnmjepkfaaaGreatDoor
