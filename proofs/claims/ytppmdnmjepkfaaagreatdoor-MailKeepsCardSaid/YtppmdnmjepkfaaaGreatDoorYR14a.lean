/- Lemmas. -/
import Derived.Test.YtppmdnmjepkfaaaGreatDoorYMlRow
set_option maxHeartbeats 16000000
set_option maxRecDepth 100000
namespace Go.Proofs.YtppmdnmjepkfaaaGreatDoor
open Go.ChangeShapes Go.WideShapes Go.ChangeAt Go.RowKit Go.Deep Go.Joins
open Tryz
open Decidable renaming decide→O
open Option renaming some→G,none→zx
open Bool renaming true→zz,false→zy
open True renaming intro→zw
open Go.Proofs.Tryz renaming prog→zv
open Go renaming Calls→zt,reachBytes→zu
open Go.RowKit
open Go renaming Calls→zt
section
section
structure MqB (w:Kw) (q:Mq):Prop where
 ok:MqOk w q
 nb:q.nm.length≤zu
 kb:q.key.length≤zu
 vb:q.vars.length*56≤zu
section
variable {H:Type} {enc:Ly × Kv→H} {w:Kw}
theorem eF {cs:Kx} {fuel:Nat} {d:DataW H} {p:List MemPlace} (hsz:cs.length=4) (hf:DataW.trod enc zv w 0 (λ_=>zz) zz fuel 25 cs=G (d,p)) (hz:Sized zv 25 d) :
 ∃q:Mq,cs=q.cells∧MqB w q:=by
 obtain ⟨xs,n,_,hx,hl,hlen,hfl⟩:=DataW.trod_struct Cl hf
 match cs,hsz with
 | [c0,c1,c2,c3],_=>
 match xs,hlen with
 | [y0,y1,y2,y3],_=>
  have k0:DataW.trod enc zv w 0 (λ_=>zz) zz n 9 (List.take (zv.cellsOf 9) [c0,c1,c2,c3])=G y0:=hfl 0 _ X;have k1:DataW.trod enc zv w 0 (λ_=>zz) zz n 9 (List.take (zv.cellsOf 9) [c1,c2,c3])=G y1:=hfl 1 _ X;have k2:DataW.trod enc zv w 0 (λ_=>zz) zz n 23 (List.take (zv.cellsOf 23) [c2,c3])=G y2:=hfl 2 _ X;have k3:DataW.trod enc zv w 0 (λ_=>zz) zz n 3 (List.take (zv.cellsOf 3) [c3])=G y3:=hfl 3 _ X;rw [DS] at k0 k1
  rw [P7] at k2
  rw [JC] at k3
  injection hx with hx1 hx2
  rw [hx1] at hz
  obtain ⟨s0,e0,d0,_⟩:=DataW.trod_string Ad k0;obtain ⟨s1,e1,d1,_⟩:=DataW.trod_string Ad k1;obtain ⟨a3,e3,_⟩:=DataW.trod_int Bm k3;obtain rfl:c0=_:=by simpa using e0
  obtain rfl:c1=_:=by simpa using e1
  obtain rfl:c3=_:=by simpa using e3
  have z0:=Sized.field (j:=0) Cl hz X X;have z1:=Sized.field (j:=1) Cl hz X X;rw [d0] at z0
  rw [d1] at z1
  have z2:=Sized.field (j:=2) Cl hz X X;obtain ⟨V,vn,vc,rfl⟩:=N7 Dk k2;have hvb:=TU Dk O7 A0 k2 z2;rw [iB] at hvb
  obtain ⟨lv,rfl,hbv,hrv⟩:=XI k2 z2;exact ⟨⟨s0.data.toList,s1.data.toList,lv,V,vc,a3⟩,X,⟨hrv,hbv⟩,z0.text,z1.text,hvb⟩
theorem vB {r:Reach} {b0:Nat} {v:Kv} {d:DataW H} {p:List MemPlace} (hv:Value.okWide zv w r b0 25 v) (h:DataW.Trod enc zv w 0 (λ_=>zz) zz 25 v d p) (hz:Sized zv 25 d) :
 ∃q:Mq,v=.agg q.cells.toArray∧MqB w q:=by
 obtain ⟨cs,rfl,hsz⟩:=okWide_struct Cl hv;rw [R5] at hsz
 obtain ⟨fuel,hf⟩:=h;obtain ⟨cs⟩:=cs;obtain ⟨q,rfl,hq⟩:=eF hsz hf hz;exact ⟨q,X,hq⟩
theorem sU {r:Kx} {d:DataW H} (h:YH enc zv w 25 r d) (hz:Sized zv 25 d):∃q:Mq,r=q.cells∧MqB w q:=by
 obtain ⟨fuel,p,hf⟩:=h;obtain ⟨xs,n,_,hx,hl,hlen,hfl⟩:=DataW.trod_struct Cl hf;rw [R5] at hl
 exact eF hl hf hz
theorem p8 {A:Ky} {len cap fuel:Nat} {x:DataW H × List MemPlace} (h:DataW.trod enc zv w 0 (λ_=>zz) zz fuel 52 [.slice A len cap]=G x) (hz:Sized zv 52 x.1) :
 ∃l:List Mq,l.length=len∧(∀b∈l,MqB w b)∧Rd w A (l.length*4) (AF Mq.cells l):=by
 obtain ⟨rows,D,hl,hD,_,hr,_,_,hn,hx,hd⟩:=LS Cw R5 A0 h
 have key:∀r∈rows,∃b:Mq,r=b.cells∧MqB w b:=by
  rcases hd with ⟨_,h0,_⟩|⟨sp,hs,_⟩
  ·have:rows=[]:=Bl A0
   subst this;exact λr hr=>by (cases hr)
  rw [hs] at hz
  intro r hr;obtain ⟨i,hi⟩:=Cf hr;obtain ⟨d,hdi,hrd⟩:=hx i r hi;exact sU hrd (hz.elem Cw (Ah hdi))
 obtain ⟨l,rfl,hq⟩:=M6 Mq.cells (λb=>MqB w b) rows key;rw [Br] at hl
 subst hl;exact ⟨l,X,hq,hr⟩
end
end
open Go.RowKit
section
def zeroHt : Ht:=⟨0,0,[]⟩
def vZ : List Ht→Kv
 | []=>.tuple #[.agg zeroHt.cells.toArray,.bool zy]
 | h::_=>.tuple #[.agg h.cells.toArray,.bool zz]
theorem iY {P:Lw} {t g off:Nat} {v:Kv} {w:Kw} (ht:LP P t=zz) (hc:Cell w.heap g off v):(loadVar t ⟨g,off,zx⟩).run P w=.ok v w:=by
 have hcell:=hc.get w X;unfold LP at ht
 have ha:(isAgg t).run P w=.ok zy w:=by
  cases hu:P.underlying t with
  | none=>simp [hu] at ht
  | some d=>
   unfold isAgg;rw [Sem.run_bind,run_underlying hu w]
   cases d<;>simp_all
 simp only [Sem.run_bind,Result.andThen_ok,loadVar,ha,Dm,if_false]
 simp [hcell]
theorem RB {w w':Kw} {F:List Nat} (h:∀g∈F,g<w.heap.size→w'.heap[g]?=w.heap[g]?) {g:Nat} {o:Obj} (hg:g∈F) (ho:w.heap[g]?=G o):w'.heap[g]?=G o:=(h g hg (Ar.1 ho).1).trans ho
def JFi (rc:Loop) (gd lr g4 g5:Nat) (hs:List Ht) (F:List Nat) (w:Kw):Prop:=F=[gd,lr,g4,g5]∧w.heap[gd]?=G (.deferred (G [])) ∧
 ((hs=[]∧w.heap[lr]?=G (.loop rc)∧Blk w g4 32 zeroHt.cells∧Blk w g5 4 [.bool zy])∨∃h,hs=[h]∧w.heap[lr]?=G (.loop { rc with state:=.done,pending:=G .ret })∧Blk w g4 32 h.cells∧Blk w g5 4 [.bool zz])
theorem uU (rc:Loop) (gd lr g4 g5:Nat) (hs:List Ht) (F:List Nat) (w w':Kw) (h:∀g∈F,g<w.heap.size→w'.heap[g]?=w.heap[g]?) (hJ:JFi rc gd lr g4 g5 hs F w):JFi rc gd lr g4 g5 hs F w':=by
 obtain ⟨rfl,h1,h2⟩:=hJ;refine ⟨X,RB h (by simp) h1,?_⟩;rcases h2 with ⟨a,b,c,d⟩|⟨x,a,b,c,d⟩
 ·exact .inl ⟨a,RB h (by simp) b,RB h (by simp) c,RB h (by simp) d⟩
 exact .inr ⟨x,a,RB h (by simp) b,RB h (by simp) c,RB h (by simp) d⟩
namespace Sf
section
variable {D:List Deferred} {P:Lw} {Q:Exit→Act→Kw→Prop} {n:Nat} {e:Env} {w:Kw}
theorem nK {g:Lz} {ps:Array Nat} {asg body:Code} {f:FuncId} {cs:Kx} (hg:ev e g=G (.func (.func f) #[] cs.toArray)) (hc:∀(ar:Array Kv) (w:Kw),(callFunc f ar).run P w=.ok (.enter f ar) w)
 (h:∀fn tm rc,tm.size=n→(∀k v,e.get k=G v→tm[k]?=G v)→rc=ZF w fn tm ps asg body→zt P f ((.func (.yield (w.heap.size+1)) #[] #[])::cs).toArray ((w.alloc (.deferred (G []))).alloc (.loop rc))
  λx w3=>∃v r,x=.returned v∧w3.heap[w.heap.size+1]?=G (.loop r)∧r.state≠.busy∧((r.pending=zx∧QX ({ target:=.collected w.heap.size,args := #[] }::D) Q .normal n e (w3.putObj (w.heap.size+1) (.loop { r with state:=.exhausted }))) ∨
   (r.pending=G .ret∧QX ({ target:=.collected w.heap.size,args := #[] }::D) Q .ret n e (w3.putObj (w.heap.size+1) (.loop { r with state:=.exhausted }))))) :
 Sx zx D P (Code.rangeFunc g ps asg body) Q n e w:=.mk λa ha=>by
 refine wpIn_rangeFunc λfn _=>?_
 have hu:a.eval g=.func (.func f) #[] cs.toArray:=ha.eval _ _ hg
 refine ⟨w.heap.size+1,[{ target:=.collected w.heap.size,args := #[] }],U1 w fn a.tmps ps asg body,{ target:=.fn (.func f) cs.toArray,args := #[] ++ #[.func (.yield (w.heap.size+1)) #[] #[]] },U1 w fn a.tmps ps asg body,f,((.func (.yield (w.heap.size+1)) #[] #[])::cs).toArray,U1 w fn a.tmps ps asg body,
  by rw [eQ,run_enterLoop_outer];rfl,?_,λf' _=>UO _ f',?_,λhd=>by rw [S6] at hd;(cases hd),?_⟩
 ·simp only [resolve,hu,Deferred.ofValue,Sem.run_pure];simp [Act.eval]
 ·unfold invoke
  simp [hc]
 refine (Y4 (h fn a.tmps _ ha.size ha.get X) 1).mono λx w3 hR=>?_
 obtain ⟨v,r,rfl,hr,hb,hq⟩:=hR;refine ⟨_,_,run_endLoop hr hb,?_⟩;have hA:∀a:Act,Agr D n e a→Agr ({ target:=.collected w.heap.size,args := #[] }::D) n e { a with defers:=[{ target:=.collected w.heap.size,args := #[] }]++a.defers }:=λa ha=>⟨ha.size,by show [({ target:=.collected w.heap.size,args := #[] }:Deferred)]++a.defers=_;rw [ha.defers];rfl,ha.get⟩
 rcases hq with ⟨hp,hq⟩|⟨hp,hq⟩
 ·have Xx:=hq.run _ (hA a ha);rw [hp] at Xx ⊢
  exact Xx
 have Xx:=hq.run _ (hA a ha);rw [hp] at Xx ⊢
 exact wpIn_ret Xx
theorem eU {fn:Func} {R:Ending→Kw→Prop} {t ty t2 ty2 g g2 b m:Nat} {v:Kv} {d:TypeDesc} {xs:Kx} (hr:fn.results = #[.cell t ty,.cell t2 ty2]) (hv:e.get t=G (pg g)) (hv2:e.get t2=G (pg g2)) (hrd:Rd (w.putObj b (.deferred zx)) (G ⟨g,0,zx⟩) m xs)
 (hc2:Cell (w.putObj b (.deferred zx)).heap g2 0 v) (hu:P.underlying ty=G d) (hd:d.isRow=zz) (hi:(P.info? ty).map (·.size)=G m) (hs:LP P ty2=zz) (hb:w.heap[b]?=G (.deferred (G []))) (h:R (.returned (.tuple #[.agg xs.toArray,v])) (w.putObj b (.deferred zx))) :
 QX [{ target:=.collected b,args := #[] }] (bodyPostM Fence.wide 2 P fn R) .ret n e w:=.mk λa ha=>by
 have hc:(w.putObj b (.deferred zx)).rangeAt g 0 xs:=λj v hv=>by
  have hj:0<m:=by have:=(An.1 hv).1;have:=hrd.1;omega
  obtain ⟨b',off',e,hc⟩:=hrd.2 hj
  injection e with e;injection e with e1 e2 _;subst e1;subst e2
  exact hc j v hv
 have hrun:=run_loadVar_mid (P:=P) (w.putObj b (.deferred zx)) g 0 ty xs d hc hu hd (by rw [hrd.1];exact hi);have hrun2:=iY (P:=P) hs hc2
 have:(results fn a.tmps).run P (w.putObj b (.deferred zx))=.ok (.tuple #[.agg xs.toArray,v]) (w.putObj b (.deferred zx)):=by simp [results,hr,ha.get t _ hv,ha.get t2 _ hv2,asAddr,hrun,hrun2]
 show LeavesInM _ _ _ _ _ _ a.defers _ _
 rw [ha.defers];exact ⟨by simp,.inl ⟨b,_,rfl,run_takeDeferred hb,⟨_,this,h⟩⟩⟩
end
end Sf
end
theorem Fr.putS {S:Nat→Prop} {w w':Kw} (h:Fr S w w') {lr:Nat} (o:Obj) (hl:S lr):Fr S w (w'.putObj lr o):=
 ⟨h.os,h.tape,h.output,by rw [World.putObj_size];exact h.size,λk hk hn=>(World.putObj_heap_other (by intro e;subst e;exact hn hl)).trans (h.block k hk hn)⟩
theorem P8 : zv.built 32 []=G #[AA 0,AA 0,str []]:=zr
namespace Sf
theorem mfind_ok (A:Ky) (cp:Nat) (l:List Pa) (q:Mq) (w:Kw) (hP:Pts w A l) (hq:MqOk w q) (hY:Lay0 w) :
 zt zv 8 #[.slice A l.length cp,.agg q.cells.toArray] w λe w'=>∃ss:List St,SsP l ss∧e=.returned (vZ (GO l (MS q) ss))∧Fr0 w w':=by
 refine sx_enter (vs:=[_,_]) func8 X ntmps8 X (sx_seq (sx_region (sxl_does (G 3) (wn_none X) X X (λρ hρ=>NF 25 (.tmp 1) X q.cells (by rw [hρ _ _ rfl];rfl)) ?_)));rintro _ w1 ⟨gm,rfl,hm1,hm2,hbm,hf1⟩;refine sxl_does (G 4) (wn_none X) X X (λρ hρ=>BP 32 X _ zeroHt.cells KE X) ?_;rintro _ w2 ⟨g4,rfl,h4a,h4b,hb4,hf2⟩;refine sxl_does (G 5) (wn_none X) X X (λρ hρ=>BP 4 X _ [.bool zy] RC X) ?_;rintro _ w3 ⟨g5,rfl,h5a,h5b,hb5,hf3⟩;refine sxl_nil (qx_seq (sx_seq (sx_seq (sx_region (sxl_y (wn_none X) X X (yp X) (sxl_y (wn_none X) X X (D8 (us:=[]) (vs:=[pg gm]) X X X) (sxl_call (G 9) (wn_none X) X X (AE X X call25) (a0A A cp l.length 26 gm w3) ?_)))))));rintro _ w4 ⟨gl,ga,rfl,hbl,hba,hl,ha,hf4⟩;refine ⟨_,X,sxl_nil (qx_seq (sx_block (nK X call54 λfn tm rc htm hget hrc=>?_)))⟩;have a0:Agr [] 13 _ { tmps:=tm,defers:=[] }:=⟨htm,X,hget⟩;have hs1:=hf1.size;have hs2:=hf2.size;have hs3:=hf3.size;have hs4:=hf4.size;have hfw:Fr0 w w4:=((hf1.trans hf2).trans hf3).trans hf4;have e1:(w4.alloc (.deferred (G []))).heap.size=w4.heap.size+1:=World.size_alloc _ _;obtain ⟨W,hW⟩:∃W,(w4.alloc (.deferred (G []))).alloc (.loop rc)=W:=⟨_,X⟩
 have hfW:Fr0 w4 W:=hW▸(Fr.refl.alloc _).alloc _;have hsW:W.heap.size=w4.heap.size+2:=by rw [←hW,World.size_alloc,e1]
 have hrW:W.heap[w4.heap.size+1]?=G (.loop rc):=by
  have:=World.alloc_heap_new (w4.alloc (.deferred (G []))) (.loop rc)
  rw [e1] at this;rw [←hW];exact this
 have hdW:W.heap[w4.heap.size]?=G (.deferred (G [])):=by
  rw [←hW,aM _ _ (by rw [e1];omega)];exact World.alloc_heap_new _ _
 rw [hW]
 have hnew:∀k,k∈[w4.heap.size,w4.heap.size+1,g4,g5]→w.heap.size≤k:=λk hk=>by
  simp only [Ao,Ba,or_false] at hk
  omega
 have hin:∀w1',Fr (λk=>k∈[w4.heap.size,w4.heap.size+1,g4,g5]) W w1'→Fr0 w w1':=λw1' hf=>I1 (hfw.trans hfW) hf hnew
 have hbmW:∀w1',Fr (λk=>k∈[w4.heap.size,w4.heap.size+1,g4,g5]) W w1'→Blk w1' gm 25 q.cells:=λw1' hf=>
  Blk.fr (((hbm.fr0 hf2).fr0 hf3).fr0 (hf4.trans hfW)) hf (by simp only [Ao,Ba,or_false];omega)
 refine (vI A cp l gl ga 26 gm (MS q) zy (w4.heap.size+1) (JFi rc w4.heap.size (w4.heap.size+1) g4 g5) (uU rc _ _ g4 g5) [w4.heap.size,w4.heap.size+1,g4,g5] W ?_ ?_ call26 ?_ ?_ ?_).mono ?_
 ·exact ⟨X,hdW,.inl ⟨X,hrW,(hb4.fr0 hf3).fr0 (hf4.trans hfW),hb5.fr0 (hf4.trans hfW)⟩⟩
 ·intro k hk;simp only [Ao,Ba,or_false] at hk
  omega
 ·intro w1' hf;exact ⟨hP.fr0 (hin w1' hf),hY.fr0 (hin w1' hf),Blk.fr (hbl.fr0 hfW) hf (by simp only [Ao,Ba,or_false];omega),Blk.fr (hba.fr0 hfW) hf (by simp only [Ao,Ba,or_false];omega)⟩
 ·intro x hx hrun wt w1' hf;exact pQ gm q x wt w1' (hbmW w1' hf) ((hP.fr0 (hin w1' hf)).ok x hx) hrun (hq.fr0 (hin w1' hf)) (hY.fr0 (hin w1' hf))
 ·intro hs F h v1 _ hJ hgo;obtain ⟨rfl,hd1,hc1⟩:=hJ;have hs0:hs=[]:=hgo.resolve_left (by decide);subst hs0;rcases hc1 with ⟨_,hr1,hb41,hb51⟩|⟨x,hx,_⟩
  case inr=>cases hx
  have hlr:=(Ar.1 hr1).1;refine ⟨rc,hr1,by rw [hrc];rfl,roundIn_of_wpIn (F:=Fence.wide) zw ?_⟩
  have hfold:((rc.params.zip [Value.agg h.cells.toArray].toArray).foldl (λtmps (t,a)=>tmps.setIfInBounds t a) rc.tmps)=tm.setIfInBounds 10 (.agg h.cells.toArray):=by
   rw [hrc,←Hu,Array.toList_zip];rfl
  rw [hfold,show rc.assign=_ from Bf Loop.assign hrc,show rc.body=_ from Bf Loop.body hrc];simp only [ZF];refine Sx.run (rd:=G (w4.heap.size+1)) (D:=[]) (n:=13) ?_ _ (a0.put (d:=10) A0 (.agg h.cells.toArray));refine sx_region (sxl_does (G 6) (wn_none X) X X (λρ hρ=>BP 32 X _ zeroHt.cells KE X) ?_);rintro _ v2 ⟨g6,rfl,h6a,h6b,hb6,hfv2⟩;refine sxl_does zx (wn_none X) X X (λρ hρ=>BZ 32 (.tmp 6) (.tmp 10) X g6 0 32 _ h.cells (hρ _ _ X) (hρ _ _ X) hb6 DM (by show 0+3≤3;omega) (Ht.cells_one _)) ?_;rintro _ v3 ⟨rfl,hb6',hfv3⟩;rw [HZ zeroHt.cells h.cells rfl] at hb6'
  have hfa:Fr0 v1 v3:=hfv2.step hfv3 (λk hk e=>A0);have hr3:v3.heap[w4.heap.size+1]?=G (.loop rc):=(hfa.block _ hlr (λhh=>hh)).trans hr1;have hready:rc.state=.ready:=by rw [hrc];rfl
  have hsa:=hfa.size;refine sxl_nil (.mk λa1 ha1=>⟨_,run_beginRound hr3 hready,Sx.run (rd:=G (w4.heap.size+1)) ?_ a1 ha1⟩);obtain ⟨v4,hv4⟩:∃v4,v3.putObj (w4.heap.size+1) (.loop { rc with state:=.busy })=v4:=⟨_,X⟩
  rw [hv4];have hs4':v4.heap.size=v3.heap.size:=by rw [←hv4];exact World.putObj_size
  have hfr4:Fr (λk=>k∈[w4.heap.size,w4.heap.size+1,g4,g5]) v1 v4:=by rw [←hv4];exact (Fr.of0 hfa).putS _ (by simp)
  have hl4:=hb41.lt;have hl5:=hb51.lt;have hldd:=(Ar.1 hd1).1;have hb6_4:Blk v4 g6 32 h.cells:=by rw [←hv4];exact hb6'.putObj _ A0
  have hb4_4:Blk v4 g4 32 zeroHt.cells:=by rw [←hv4];exact (hb41.fr0 hfa).putObj _ A0
  have hb5_4:Blk v4 g5 4 [.bool zy]:=by rw [←hv4];exact (hb51.fr0 hfa).putObj _ A0
  have hr4:v4.heap[w4.heap.size+1]?=G (.loop { rc with state:=.busy }):=by rw [←hv4];exact World.putObj_heap_same A0
  have hd4:v4.heap[w4.heap.size]?=G (.deferred (G [])):=by rw [←hv4];exact (World.putObj_heap_other A0).trans ((hfa.block _ hldd (λhh=>hh)).trans hd1)
  refine sx_block (sx_seq (sx_region (sxl_y (wn_none X) X X (AJ (xs:=h.cells) X X (Rd.ofBlk hb6_4 X) Er X DM) (sxl_does zx (wn_none X) X X (λρ hρ=>BZ 32 (.tmp 4) (.tmp 11) X g4 0 32 _ h.cells (hρ _ _ X) (hρ _ _ X) hb4_4 DM (by show 0+3≤3;omega) (Ht.cells_one _)) ?_))));rintro _ v5 ⟨rfl,hb4_5,hf5⟩;rw [HZ zeroHt.cells h.cells rfl] at hb4_5
  refine sxl_does zx (wn_none X) X X (λρ hρ=>ED 4 (.tmp 5) (.const (.bool zz)) X g5 0 4 _ (.bool zz) (hρ _ _ X) (hρ _ _ X) X (hb5_4.fr hf5 A0) aX (by decide) X) ?_;rintro _ v6 ⟨rfl,hb5_6,hf6⟩;have hs5:=hf5.size;have hs6:=hf6.size;refine sxl_nil (qx_seq (sx_ret (qx_block_ret ?_)));have hr6:v6.heap[w4.heap.size+1]?=G (.loop { rc with state:=.busy }):=(hf6.block _ A0 A0).trans ((hf5.block _ A0 A0).trans hr4);have hd6:v6.heap[w4.heap.size]?=G (.deferred (G [])):=(hf6.block _ A0 A0).trans ((hf5.block _ A0 A0).trans hd4);refine .mk λa2 _=>⟨_,_,run_endRound (G .ret) hr6,X,[w4.heap.size,w4.heap.size+1,g4,g5],⟨X,(World.putObj_heap_other A0).trans hd6,.inr ⟨h,X,World.putObj_heap_same A0,(hb4_5.fr hf6 A0).putObj _ A0,Blk.putObj hb5_6 _ A0⟩⟩,?_,λg hg=>.inl hg⟩
  exact ((hfr4.step hf5 (λk _ e=>by subst e;simp)).step hf6 (λk _ e=>by subst e;simp)).putS _ (by simp)
 rintro x w8 ⟨rfl,ss,hs,F',hp,hhs,hJ,hf8,-⟩;obtain ⟨rfl,hd8,hc8⟩:=hJ;rw [Ae (by decide)] at hhs
 have hs8:=hf8.size;have hf08:Fr0 w w8:=hin w8 hf8;rcases hc8 with ⟨h0,hr8,hb48,hb58⟩|⟨h,h0,hr8,hb48,hb58⟩
 ·refine ⟨_,rc,X,hr8,(by rw [hrc];intro h;cases h),.inl ⟨(by rw [hrc];rfl),?_⟩⟩;obtain ⟨w9,hw9⟩:∃w9,w8.putObj (w4.heap.size+1) (.loop { rc with state:=.exhausted })=w9:=⟨_,X⟩
  rw [hw9];have hs9:w9.heap.size=w8.heap.size:=by rw [←hw9];exact World.putObj_size
  have hf9:Fr0 w w9:=by rw [←hw9];exact hf08.putObj _ A0
  have hb49:Blk w9 g4 32 zeroHt.cells:=by rw [←hw9];exact hb48.putObj _ A0
  have hb59:Blk w9 g5 4 [.bool zy]:=by rw [←hw9];exact hb58.putObj _ A0
  have hd9:w9.heap[w4.heap.size]?=G (.deferred (G [])):=by rw [←hw9];exact (World.putObj_heap_other A0).trans hd8
  refine qx_block_normal (qx_seq (sx_seq (sx_region (sxl_y (wn_none X) X X (B8 (parts:=[]) X X P8) (sxl_does zx (wn_none X) X X (λρ hρ=>BZ 32 (.tmp 4) (.tmp 12) X g4 0 32 _ zeroHt.cells (hρ _ _ X) (hρ _ _ X) hb49 DM (by show 0+3≤3;omega) (Ht.cells_one _)) ?_)))));rintro _ v5 ⟨rfl,hb4_5,hf5⟩;rw [HZ zeroHt.cells zeroHt.cells rfl] at hb4_5
  refine sxl_does zx (wn_none X) X X (λρ hρ=>ED 4 (.tmp 5) (.const (.bool zy)) X g5 0 4 _ (.bool zy) (hρ _ _ X) (hρ _ _ X) X (hb59.fr hf5 A0) aX (by decide) X) ?_;rintro _ v6 ⟨rfl,hb5_6,hf6⟩;have hs5:=hf5.size;have hs6:=hf6.size;refine sxl_nil (qx_seq (sx_ret ?_));have hd6:v6.heap[w4.heap.size]?=G (.deferred (G [])):=(hf6.block _ A0 A0).trans ((hf5.block _ A0 A0).trans hd9);refine eU X X X (Rd.ofBlk ((hb4_5.fr hf6 A0).putObj _ A0) X) ((Blk.putObj hb5_6 _ A0).c 0 X) Er X DM X hd6 ⟨ss,hp,?_,((hf9.step hf5 (λk hk e=>A0)).step hf6 (λk hk e=>A0)).putObj _ A0⟩
  have:GO l (MS q) ss=[]:=by
   cases hh:GO l (MS q) ss with
   | nil=>rfl
   | cons a r=>rw [hh,h0] at hhs;cases hhs
  rw [this];rfl
 refine ⟨_,_,X,hr8,(by intro h;cases h),.inr ⟨X,?_⟩⟩
 have fin:∀{e:Env} (o:Obj),e.get 4=G (pg g4)→e.get 5=G (pg g5)→QX [{ target:=.collected w4.heap.size,args := #[] }] (bodyPostM Fence.wide 2 zv Tryz.f8 λe w'=>∃ss:List St,SsP l ss∧e=.returned (vZ (GO l (MS q) ss))∧Fr0 w w') .ret 13 e (w8.putObj (w4.heap.size+1) o):=by
  intro e o k4 k5;obtain ⟨w9,hw9⟩:∃w9,w8.putObj (w4.heap.size+1) o=w9:=⟨_,X⟩
  rw [hw9];have hs9:w9.heap.size=w8.heap.size:=by rw [←hw9];exact World.putObj_size
  have hf9:Fr0 w w9:=by rw [←hw9];exact hf08.putObj _ A0
  have hb49:Blk w9 g4 32 h.cells:=by rw [←hw9];exact hb48.putObj _ A0
  have hb59:Blk w9 g5 4 [.bool zz]:=by rw [←hw9];exact hb58.putObj _ A0
  have hd9:w9.heap[w4.heap.size]?=G (.deferred (G [])):=by rw [←hw9];exact (World.putObj_heap_other A0).trans hd8
  refine eU X k4 k5 (Rd.ofBlk (hb49.putObj _ A0) X) ((Blk.putObj hb59 _ A0).c 0 X) Er X DM X hd9 ⟨ss,hp,?_,hf9.putObj _ A0⟩
  cases hh:GO l (MS q) ss with
  | nil=>rw [hh,h0] at hhs;cases hhs
  | cons a r=>
   rw [hh,h0] at hhs
   injection hhs with hhs
   rw [hhs];rfl
 exact qx_block_ret (qx_then_ret (fin _ X X))
end Sf
theorem bZ : (zv.info? 32).map (λi=>(i.zero,i.size))=G (G (.agg #[AA 0,AA 0,str []]),3):=zr
namespace Sf
end Sf
theorem ZJ {P:Lw} {e:Env} {w:Kw} {n:Nat} {fn:Func} {R:Ending→Kw→Prop} {t ty g m u u2:Nat} {v v2:Kv} {d:TypeDesc} {xs:Kx} (hr:fn.results = #[.tmp u,.cell t ty,.tmp u2]) (hv:e.get t=G (pg g)) (hrd:Rd w (G ⟨g,0,zx⟩) m xs) (hu:P.underlying ty=G d) (hd:d.isRow=zz) (hi:(P.info? ty).map (·.size)=G m)
 (hv':e.get u=G v) (hv2:e.get u2=G v2) (h:R (.returned (.tuple #[v,.agg xs.toArray,v2])) w):QX (bodyPost P fn R) .ret n e w:=.mk λa ha=>by
 have hc:w.rangeAt g 0 xs:=λj v hv=>by
  have hj:0<m:=by have:=(An.1 hv).1;have:=hrd.1;omega
  obtain ⟨b',off',e,hc⟩:=hrd.2 hj
  injection e with e;injection e with e1 e2 _;subst e1;subst e2
  exact hc j v hv
 have hrun:=run_loadVar_mid (P:=P) w g 0 ty xs d hc hu hd (by rw [hrd.1];exact hi)
 have:(results fn a.tmps).run P w=.ok (.tuple #[v,.agg xs.toArray,v2]) w:=by simp [results,hr,ha.get t _ hv,ha.get u _ hv',ha.get u2 _ hv2,asAddr,hrun]
 exact ⟨ha.defers,_,this,h⟩
structure Mqs (w:Kw) (A:Ky) (l:List Mq):Prop where
 rd:Rd w A (l.length*4) (AF Mq.cells l)
 ok:∀x∈l,MqOk w x
theorem Mq.len (x:Mq):x.cells.length=4:=rfl
theorem Mq.cells_one (x:Mq):∀u∈x.cells,u.oneCell'=zz:=BN rfl
theorem Mqs.fr0 {w w':Kw} {A:Ky} {l:List Mq} (h:Mqs w A l) (hf:Fr0 w w'):Mqs w' A l:=⟨h.rd.fr0 hf,λx hx=>(h.ok x hx).fr0 hf⟩
theorem kD (hs:List Ht):vZ hs=.tuple #[.agg (hs.head?.getD zeroHt).cells.toArray,.bool hs.head?.isSome]:=by cases hs<;>rfl
def GJ (H:Mq→List Ht):List Mq→Nat→Option (Nat × Ht)
 | [],_=>zx
 | q::r,i=>match (H q).head? with
  | some h=>G (i,h)
  | none=>GJ H r (i+1)
def uC : Option (Nat × Ht)→Kv
 | none=>.tuple #[.int .i64 0,.agg zeroHt.cells.toArray,.bool zy]
 | some (i,h)=>.tuple #[.int .i64 ((i:Nat):Int),.agg h.cells.toArray,.bool zz]
theorem TM (H:Mq→List Ht) (q:Mq):∀(ms:List Mq) (i:Nat),GJ H (ms++[q]) i=(GJ H ms i).or ((H q).head?.map λh=>(i+ms.length,h))
 | [],i=>by
  show (match (H q).head? with|some h=>G (i,h)|none=>zx)=_
  cases (H q).head?<;>rfl
 | x::r,i=>by
  rw [Ii,GJ,GJ]
  cases (H x).head? with
  | some h=>rfl
  | none=>
   show GJ H (r++[q]) (i+1)=_
   rw [TM H q r (i+1),Al,show i+1+r.length=i+(r.length+1) by omega]
theorem fK {H:Mq→List Ht} {ms:List Mq} {i:Nat} {q:Mq} (h:GJ H (ms.take i) 0=zx) (hq:ms[i]?=G q) (hk:(H q).head?.isSome=zy):GJ H (ms.take (i+1)) 0=zx:=by
 rw [AT hq,TM,h]
 cases hh:(H q).head? with
 | none=>rfl
 | some a=>rw [hh] at hk;cases hk
theorem ZN {H:Mq→List Ht}:∀{ms:List Mq} {i j:Nat} {v:Nat × Ht},GJ H (ms.take i) j=G v→GJ H ms j=G v
 | [],_,_,_,h=>by rw [List.take_nil] at h;exact h
 | x::r,0,_,_,h=>by cases h
 | x::r,i+1,j,v,h=>by
  rw [Hk,GJ] at h
  rw [GJ]
  cases hh:(H x).head? with
  | some a=>rw [hh] at h;exact h
  | none=>rw [hh] at h;exact ZN h
theorem ZM {H:Mq→List Ht} {ms:List Mq} {i:Nat} {q:Mq} (h:GJ H (ms.take i) 0=zx) (hq:ms[i]?=G q) (hk:(H q).head?.isSome=zz):GJ H ms 0=G (i,(H q).head?.getD zeroHt):=by
 refine ZN (i:=i+1) ?_;have hi:=(An.1 hq).1;rw [AT hq,TM,h,Bs,Gf A0,Cr]
 cases hh:(H q).head? with
 | none=>rw [hh] at hk;cases hk
 | some a=>rfl
theorem oN (o:Option (Nat × Ht)):∃(k:Nat) (h:Ht) (f:Bool),o=(if f=zz then G (k,h) else zx)∧(f=zy→k=0∧h=zeroHt)∧uC o=.tuple #[AA (k:Int),.agg h.cells.toArray,.bool f]:=by
 cases o with
 | none=>exact ⟨0,zeroHt,zy,rfl,λ_=>⟨rfl,rfl⟩,rfl⟩
 | some v=>exact ⟨v.1,v.2,zz,rfl,(λh=>by cases h),rfl⟩
theorem C4 : (zv.info? 25).map (·.size)=G 4:=zr
theorem KG : (zv.info? 25).map (·.zero)=G (G (.agg #[str [],str [],.slice zx 0 0,AA 0])):=zr
theorem uB (B:Ky) (cb:Nat) (ms:List Mq) (A:Ky) (cp:Nat) (l:List Pa) (H:Mq→List Ht) (w:Kw) (hM:Mqs w B ms) (hP:Pts w A l) (hH:∀ss q,SsP l ss→GO l (MS q) ss=H q) (hml:ms.length≤1000000) (hY:Lay0 w) :
 zt zv 18 #[.slice B ms.length cb,.slice A l.length cp] w (BR w (uC (GJ H ms 0))):=by
 refine BO func18 ntmps18 X λM=>W ?_
 refine CE M X KE λg5 w1 hg5 M=>W ?_
 refine EC M [12,11,5,1] (λze zF e wr mz=>∃(i:Nat),e=(13,AA (i:Int))::ze∧zF wr∧(i≤ms.length)∧(GJ H (ms.take i) 0=zx)∧mz=ms.length-i) ⟨0,X,M,Aj _,X,X⟩ ?_;rintro _ w2 _ ⟨i,rfl,M,hi,hN,rfl⟩;refine W ?_;refine AC X (λh14=>?_) (λh14=>?_)
 ·have h14p:=odt h14;refine W ?_;obtain ⟨q,_,_,hq,hA_q⟩:=ex5 (i:=i) ((hM.fr0 M.fr).rd);refine ya X (AK i hA_q X X X (sl X) A0) (ya X (AJ X X (BF Mq.len ((hM.fr0 M.fr).rd) hA_q hq) Cl X C4) (CE M X KG λg8 w3 hg8 M=>yb X (BX M 0 X X C4 X λw4 M=>W ?_)));refine CF M 0 X X Cl C4 X (cl 21 X (AE X X call8) (Sf.mfind_ok A cp l q _ (hP.fr0 M.fr) ((hM.fr0 M.fr).ok _ (Ah hq)) (hY.fr0 M.fr)) ?_);rintro _ w5 ⟨rr,hrr,rfl,hfw5⟩;rw [hH rr q hrr,kD];obtain ⟨h0,hh0⟩:∃h,h=(H q).head?.getD zeroHt:=⟨_,X⟩
  obtain ⟨ok0,hk0⟩:∃b,b=(H q).head?.isSome:=⟨_,X⟩
  rw [←hh0,←hk0];refine cq ?_;have M:=M.step hfw5;refine W ?_;refine CE M X KE λg9 w6 hg9 M=>BX M 0 X X DM X λw7 M=>W ?_
  refine AC X (λh24=>?_) (λh24=>?_)
  ·refine sx_seq (DZ 3 CA zr ?_);have M:=M.drew;refine sb X (sa X (AJ (xs:=Ht.cells h0) X X (M.rdBlk 0 X X) Er X DM) (W ?_));refine BX M 2 X X DM X λw8 M=>W ?_
   exact ZJ X X (M.rdBlk 2 X X) Er X DM X X ⟨by rw [ZM hN hq (hk0▸h24),←hh0];rfl,M.fr⟩
  refine W ?_;refine fag ⟨i+1,X,(M.pk [2]),?_,?_,X⟩
  ·omega
  exact fK hN hq (hk0▸h24)
 have h14p:=odf h14;refine W ?_;obtain rfl:i=ms.length:=A0
 rw [Bc] at hN
 refine W ?_;refine ya X (B8 (parts:=[]) X X (P8)) (yb X (BX M 0 X X DM X λw9 M=>W ?_));exact ZJ X X (M.rdBlk 0 X X) Er X DM X X ⟨by rw [hN];rfl,M.fr⟩
section
section
variable {m:Md} {c:CrA} (R:Rl m) (Z:Cz m c)
include R Z
end
end
theorem yX {x:Pa} (hr:runP x=zz):IE x.m x.c x.i 2147483647 1099511627776=zz:=by
 unfold runP at hr
 simp only [Bn] at hr
 exact hr.2.2
def As.cl (F:List Nat) (P:Kw→Prop):As:=⟨F,λw=>∀w2,(∀g∈F,g<w.heap.size→w2.heap[g]?=w.heap[g]?)→P w2,λ{w w'} h hb w2 h2=>hb w2 λg hg hlt=>by
 have h3:=h g hg hlt
 have hlt':g<w'.heap.size:=by
  rw [Fk hlt] at h3
  exact (Ar.1 h3).1
 exact (h2 g hg hlt').trans h3⟩
theorem Mem.meet3 {w0 w:Kw} {S:Nat→Prop} {a b d:As} {Ls:List As} (M:Mem w0 S (a::b::d::Ls) w) (c:As) (hfp:∀g∈c.fp,g∈a.fp∨g∈b.fp∨g∈d.fp) (hok:c.ok w):Mem w0 S (c::Ls) w:=by
 have key:∀g∈c.fp,∃(i:Nat) (x:As),i<3∧(a::b::d::Ls)[i]?=G x∧g∈x.fp:=λg hg=>by
  rcases hfp g hg with h|h|h
  ·exact ⟨0,a,A0,rfl,h⟩
  ·exact ⟨1,b,A0,rfl,h⟩
  exact ⟨2,d,A0,rfl,h⟩
 refine ⟨M.fr,λi x hi=>?_,λi x hi g hg=>?_,λi j x y hi hj hne g hg hg'=>?_⟩
 ·cases i with
  | zero=>
   simp only [Ak,Ai] at hi;subst hi;exact hok
  | succ i=>exact M.ok (i+3) x hi
 ·cases i with
  | zero=>
   simp only [Ak,Ai] at hi;subst hi
   obtain ⟨k,z,_,hz,hgz⟩:=key g hg;exact M.lt k z hz g hgz
  | succ i=>exact M.lt (i+3) x hi g hg
 cases i with
 | zero=>
  simp only [Ak,Ai] at hi;subst hi
  cases j with
  | zero=>exact hne rfl
  | succ j=>
   obtain ⟨k,z,hk,hz,hgz⟩:=key g hg;exact M.apart k (j+3) z y hz hj A0 g hgz hg'
 | succ i=>
  cases j with
  | zero=>
   simp only [Ak,Ai] at hj;subst hj
   obtain ⟨k,z,hk,hz,hgz⟩:=key g hg';exact M.apart (i+3) k x z hi hz A0 g hg hgz
  | succ j=>exact M.apart (i+3) (j+3) x y hi hj A0 g hg hg'
theorem Mem.nilCl {w0 w:Kw} {S:Nat→Prop} {L:List As} (M:Mem w0 S L w) {P:Kw→Prop} (hP:∀w2,P w2):Mem w0 S (As.cl [] P::L) w:=M.push Fr.refl _ (λw2 _=>hP w2) λg hg=>by cases hg
def kY (L:List Pa) (w:Kw):Prop:=∀x∈L,PaOk w x
theorem zV (w:Kw):kY [] w:=λx hx=>by cases hx
theorem Mem.rdNew {w0 w' w2:Kw} {L:List As} (M:Mem w0 AR L w') (i:Nat) {base e size n c:Nat} {A:Ky} {xs:Kx} (hi:L[i]?=G (As.own base e size (.slice A n c) n xs)) (hf:a2T w0.heap.size [] w' w2):Rd w2 A (n*size) xs:=
 MV ((As.own base e size (.slice A n c) n xs).keep (λg hg hlt=>hf g (.inr ((M.lt i _ hi g hg).2.elim id False.elim)) hlt) (M.ok i _ hi))
theorem zW {w:Kw} {F Fc:List Nat} {L:List Pa} {b0 b1:Nat} {m:Md} {p:Ky} {er:Int} {c:CrA} {i:In} {V T:Ky} (vc tc:Nat) (hp:(As.cl F (kY L)).ok w) (hc:(As.crs m p er c Fc).ok w) (hn:er≠0→p=zx) (hk:er=0→HC m=zz∧MdOk m) (hr:(As.res b0 b1 [] (λw2=>Rd w2 V (i.vars.length*5) (AF Bd.cells i.vars)∧Rd w2 T (i.toks.length*9) (AF Tk.cells i.toks))).ok w) (hbd:BdOk i.vars) (htl:i.toks.length≤300) (hwk:∀t∈i.toks,(t.worker.length:Int)<4611686018427387904) :
 (As.cl (([]++List.range' b0 (b1-b0))++(Fc++F)) (kY (L++[⟨p,m,c,Fc,i,V,vc,T,tc⟩]))).ok w:=by
 intro w2 h2 x hx;rcases Bp.1 hx with h|h
 ·exact hp w2 (λg hg=>h2 g (Cy _ (Cy _ hg))) x h
 obtain rfl:=Au.1 h;obtain ⟨hV,hT⟩:=hr w2 λg hg=>h2 g (Ds _ hg)
 refine ⟨?_,hV,hT,hbd,htl,hwk⟩
 by_cases he:er=0
 ·obtain ⟨gc,h3,h4⟩:=(As.crs m p er c Fc).keep (λg hg=>h2 g (Cy _ (Ds _ hg))) hc he;exact .inr ⟨gc,h3,h4,hk he⟩
 exact .inl (hn he)
theorem Mem.pasOk {w0 w:Kw} {S:Nat→Prop} {Ls:List As} {F:List Nat} {L:List Pa} (M:Mem w0 S Ls w) (i:Nat) (hi:Ls[i]?=G (As.cl F (kY L))):kY L w:=M.ok i _ hi w λ_ _ _=>rfl
def sumP (l:List Pq):Nat:=(l.map λx=>x.i.toks.length+x.m.els.length).sum
theorem Z7 (l:List Pq) (x:Pq):sumP (l++[x])=sumP l+(x.i.toks.length+x.m.els.length):=by simp [sumP]
theorem yL {l:List Pq} {x:Pq} (h:x∈l):x.i.toks.length+x.m.els.length≤sumP l:=by
 induction l with
 | nil=>cases h
 | cons y r ih=>
  simp only [sumP,Cc,List.sum_cons] at ih ⊢
  rcases Ao.1 h with rfl|h
  ·omega
  have:=ih h;omega
theorem fL {m:Md} (hb:MdB m) (h:HC m=zz):MdOk m:=tZ hb (by
 unfold HC at h
 simp only [Bn,Et,Bool.not_eq_false',decide_eq_true_eq] at h
 exact h.1)
theorem a09 (m:Md) (a:MdA) (w:Kw) (hb:MdB m) (hM:MdIn w m a) (hY:Lay0 w) :
 zt zv 19 #[.agg (Md.cells m a).toArray] w λe w'=>∃p er c F,e=.returned (.tuple #[.pointer p,AA er])∧(er=0→∃gc,p=G ⟨gc,0,zx⟩∧CourseN w' m gc c F)∧(er=0→HC m=zz∧MdOk m)∧(∀g∈F,w.heap.size≤g∧g<w'.heap.size)∧(er≠0→p=zx)∧p.isSome=HC m∧Fr0 w w':=
 (a08 m a w hb hM hY).mono λe w' ⟨h,hf⟩=>by
  rcases h with ⟨hn,gc,c,F,h1,h2,h3⟩|⟨hn,h1⟩
  ·exact ⟨G ⟨gc,0,zx⟩,0,c,F,h1,λ_=>⟨gc,X,h2⟩,λ_=>⟨hn,fL hb hn⟩,h3,λh=>absurd X h,by rw [hn];rfl,hf⟩
  exact ⟨zx,140,⟨⟨zx,0,zx,0,zx,0⟩,0,0,0,0,0,[],[],[],λ_=>zeroEl,λ_=>zy,λ_=>zeroFl,λ_=>zy,λ_=>[],[],λ_=>[],[],λ_=>zx,λ_=>zx,[]⟩,[],h1,λz=>absurd z AV,λz=>absurd z AV,λg hg=>absurd hg (by simp),λ_=>X,by rw [hn];rfl,hf⟩
def Mq.pl (q:Mq):Kz × Kz × List Bd × Int:=(q.nm,q.key,q.vars,q.un)
theorem eY {a b:Mq} (h:a.pl=b.pl):a.nm=b.nm∧a.key=b.key∧a.vars=b.vars∧a.un=b.un:=by
 unfold Mq.pl at h
 simp only [Az] at h
 exact h
theorem a3d {L l:List Mq} (h:L.map Mq.pl=l.map Mq.pl) {j:Nat} {x y:Mq} (hx:L[j]?=G x) (hy:l[j]?=G y):x.pl=y.pl:=by
 have:=Bf (λz=>z[j]?) h
 simp only [Cb,hx,hy,Dn,Ai] at this
 exact this
theorem OX {L l:List Mq} (h:L.map Mq.pl=l.map Mq.pl):L.length=l.length:=by
 have:=Bf List.length h
 rwa [Br,Br] at this
theorem TN {w:Kw} {ms:List Mq} {q:Mq} (h:∀x∈ms,MqOk w x) (hq:MqOk w q):∀x∈ms++[q],MqOk w x:=λx hx=>by
 rcases Bp.1 hx with h1|h1
 ·exact h x h1
 rw [Au.1 h1];exact hq
theorem Mem.meet2 {w0 w:Kw} {S:Nat→Prop} {a b:As} {Ls:List As} (M:Mem w0 S (a::b::Ls) w) (c:As) (hfp:∀g∈c.fp,g∈a.fp∨g∈b.fp) (hok:c.ok w):Mem w0 S (c::Ls) w:=by
 have key:∀g∈c.fp,∃(i:Nat) (x:As),i<2∧(a::b::Ls)[i]?=G x∧g∈x.fp:=λg hg=>by
  rcases hfp g hg with h|h
  ·exact ⟨0,a,A0,rfl,h⟩
  exact ⟨1,b,A0,rfl,h⟩
 refine ⟨M.fr,λi x hi=>?_,λi x hi g hg=>?_,λi j x y hi hj hne g hg hg'=>?_⟩
 ·cases i with
  | zero=>
   simp only [Ak,Ai] at hi;subst hi;exact hok
  | succ i=>exact M.ok (i+2) x hi
 ·cases i with
  | zero=>
   simp only [Ak,Ai] at hi;subst hi
   obtain ⟨k,z,_,hz,hgz⟩:=key g hg;exact M.lt k z hz g hgz
  | succ i=>exact M.lt (i+2) x hi g hg
 cases i with
 | zero=>
  simp only [Ak,Ai] at hi;subst hi
  cases j with
  | zero=>exact hne rfl
  | succ j=>
   obtain ⟨k,z,hk,hz,hgz⟩:=key g hg;exact M.apart k (j+2) z y hz hj A0 g hgz hg'
 | succ i=>
  cases j with
  | zero=>
   simp only [Ak,Ai] at hj;subst hj
   obtain ⟨k,z,hk,hz,hgz⟩:=key g hg';exact M.apart (i+2) k x z hi hz A0 g hg hgz
  | succ j=>exact M.apart (i+2) (j+2) x y hi hj A0 g hg hg'
theorem Mem.push2 {w0 w w':Kw} {S:Nat→Prop} {L:List As} (M:Mem w0 S L w) (hf:Fr0 w w') (a b:As) (ha:a.ok w') (hb:b.ok w') (hfa:∀g∈a.fp,w.heap.size≤g∧g<w'.heap.size) (hfb:∀g∈b.fp,w.heap.size≤g∧g<w'.heap.size) (hap:∀g∈a.fp,g∉b.fp):Mem w0 S (a::b::L) w':=by
 have M1:=M.push hf a ha hfa;have M2:=M.push hf b hb hfb;refine ⟨M1.fr,λi x hi=>?_,λi x hi g hg=>?_,λi j x y hi hj hne g hg hg'=>?_⟩
 ·match i with
  | 0=>exact M1.ok 0 x hi
  | i+1=>exact M2.ok i x hi
 ·match i with
  | 0=>exact M1.lt 0 x hi g hg
  | i+1=>exact M2.lt i x hi g hg
 match i,j with
 | 0,0=>exact hne rfl
 | 0,1=>
  simp only [Ak,Bq,Ai] at hi hj
  subst hi hj;exact hap g hg hg'
 | 1,0=>
  simp only [Ak,Bq,Ai] at hi hj
  subst hi hj;exact hap g hg' hg
 | 0,j+2=>exact M1.apart 0 (j+1) x y hi hj A0 g hg hg'
 | i+2,0=>exact M1.apart (i+1) 0 x y hi hj A0 g hg hg'
 | i+1,j+1=>exact M2.apart i j x y hi hj A0 g hg hg'
def a2S (b:Nat) (w:Kw) (x:Mq):Prop:=w.ownsRow b 63 5 (.slice x.V x.vars.length x.vc) x.vars.length (AF Bd.cells x.vars)
def MD (b:Nat) (L:List Mq) (w:Kw):Prop:=∀x∈L,a2S b w x
theorem SI (b:Nat) (w:Kw):MD b [] w:=λx hx=>by cases hx
theorem cK {w:Kw} {F:List Nat} {b:Nat} {L:List Mq} (x:Mq) (hp:(As.cl F (MD b L)).ok w) (ho:(As.own b 63 5 (.slice x.V x.vars.length x.vc) x.vars.length (AF Bd.cells x.vars)).ok w):(As.cl ((Value.slice x.V x.vars.length x.vc).ownBlock.toList++F) (MD b (L++[x]))).ok w:=by
 intro w2 h2 y hy;rcases Bp.1 hy with h|h
 ·exact hp w2 (λg hg=>h2 g (Cy _ hg)) y h
 obtain rfl:=Au.1 h;exact (As.own b 63 5 _ _ _).keep (λg hg=>h2 g (Ds _ hg)) ho
theorem kF {x y:List Nat}:∀g∈x++y,g∈x∨g∈y:=λ_ hg=>Bp.1 hg
theorem Mem.famOk {w0 w:Kw} {S:Nat→Prop} {Ls:List As} {F:List Nat} {b:Nat} {L:List Mq} (M:Mem w0 S Ls w) (i:Nat) (hi:Ls[i]?=G (As.cl F (MD b L))):MD b L w:=M.ok i _ hi w λ_ _ _=>rfl
theorem U0 {w:Kw} {b:Nat} {L:List Mq} (h:MD b L w) (hb:∀x∈L,BdOk x.vars):∀x∈L,MqOk w x:=λx hx=>⟨MV (h x hx),hb x hx⟩
theorem tQ {L l:List Mq} (h:L.map Mq.pl=l.map Mq.pl) {x:Mq} (hx:x∈L):∃y∈l,x.pl=y.pl:=by
 have:x.pl∈l.map Mq.pl:=h▸Ei hx
 obtain ⟨y,hy,e⟩:=Cq.1 this;exact ⟨y,hy,e.symm⟩
def a3w (w:Kw) (x:Mq):Prop:=x.vars.length=0∨∃g cs,x.V=G ⟨g,0,Option.none⟩∧Blk w g 63 cs∧x.vars.length*5≤cs.length
def wG (L:List Mq):List Nat:=L.flatMap λx=>(Value.slice x.V x.vars.length x.vc).ownBlock.toList
theorem gP {L:List Mq} {x:Mq} {g:Nat} (hx:x∈L) (h:x.V=G ⟨g,0,Option.none⟩):g∈wG L:=Fy.2 ⟨x,hx,by rw [h];simp [Value.ownBlock]⟩
def As.mfam (L:List Mq):As:=⟨wG L,λw=>∀x∈L,a3w w x,λ{w w'} h hb x hx=>by
 rcases hb x hx with hb|⟨g,cs,h1,hb,hl⟩
 ·exact .inl hb
 exact .inr ⟨g,cs,h1,(h g (gP hx h1) hb.lt).trans hb,hl⟩⟩
theorem eJ {w:Kw} {b:Nat} {x:Mq} (h:a2S b w x):a3w w x:=by
 rcases h.2 with ⟨_,h0⟩|⟨g,cap,cur,hv,_,hg,hc,_,hs,_⟩
 ·exact .inl h0
 injection hv with h1 h2 h3
 exact .inr ⟨g,cur.toList,h1,by simpa [Blk] using hg,by have:=Ed 5 hc;simp;omega⟩
theorem kG {w:Kw} {b:Nat} {L:List Mq} (h:MD b L w):∀g∈wG L,b≤g∧g<w.heap.size:=λg hg=>by
 obtain ⟨x,hx,hg⟩:=Fy.1 hg;exact LV (h x hx) g hg
theorem pS {w:Kw} {b b2 n c:Nat} {A:Ky} {xs:Kx} {L:List Mq} (h:MD b L w) (ho:w.ownsRow b2 25 4 (.slice A n c) n xs):∀g∈(Value.slice A n c).ownBlock.toList,g∉wG L:=λg hg hg'=>by
 obtain ⟨x,hx,hgx⟩:=Fy.1 hg'
 have key:∀{b size n c:Nat} {t:Ly} {A:Ky} {xs:Kx} {g:Nat},w.ownsRow b t size (.slice A n c) n xs→g∈(Value.slice A n c).ownBlock.toList→∃cs,Blk w g t cs:=λ{b size n c t A xs g} h hg=>by
  rcases h.2 with ⟨hv,h0⟩|⟨g',cap,cur,hv,_,hg',hc,_,hs,_⟩
  ·rw [hv] at hg;simp [Value.ownBlock] at hg
  rw [hv] at hg
  simp only [Value.ownBlock,Option.toList_some,Au] at hg
  subst hg;exact ⟨cur.toList,by simpa [Blk] using hg'⟩
 obtain ⟨c1,h1⟩:=key ho hg;obtain ⟨c2,h2⟩:=key (h x hx) hgx;exact Blk.ne h1 h2 AV X
theorem wF {w:Kw} {L:List Mq} {x:Mq} (h:(As.mfam L).ok w) (hx:x∈L) (hn:0<x.vars.length):∃g cs,x.V=G ⟨g,0,zx⟩∧Blk w g 63 cs∧x.vars.length*5≤cs.length:=Or.resolve_left (h x hx) A0
theorem dP {P:Lw} {Q:Exit→Act→Kw→Prop} {n:Nat} {e:Env} {w w0:Kw} {S:Nat→Prop} {L:List As} {ops:Array Oper} {o:Oper} {rest:List Oper} (M:Mem w0 S L w) (i:Nat) (hw:Wn ops e o) (hd:o.dst=zx) {ty g off:Nat} {x y:Lz} {v:Kv} {l:List Mq} {z:Mq} (ho:o.op=.store ty x y) (hx:ev e x=G (.pointer (G ⟨g,off,zx⟩))) (hy:ev e y=G v) (hi:L[i]?=G (As.mfam l)) (hz:z∈l) (hA:z.V=G ⟨g,0,zx⟩)
 (hv:v.cells = #[v]) (h1:v.oneCell'=zz) (hsz:(P.info? ty).map (·.size)=G 1) (hl:off<z.vars.length*5)
 (k:∀w',Mem w0 S L w'→SxL P ops Q n rest e w'):SxL P ops Q n (o::rest) e w:=by
 rcases M.ok i _ hi z hz with h0|⟨g',cs,hA',hb,hle⟩
 ·rw [h0,Ft] at hl;omega
 rw [hA] at hA'
 obtain rfl:g=g':=by simpa using hA'
 refine sxl_does zx hw hd X (λρ hρ=>ED ty x y ho g off 63 cs v (hρ _ _ hx) (hρ _ _ hy) hv hb hsz A0 h1) ?_;rintro _ w1 ⟨rfl,hb1,hf⟩
 have M1:=M.upd i hi (hf.mono λk _ hk=>by subst hk;exact gP hz hA) (As.mfam l) (λy hy=>by
  rcases M.ok i _ hi y hy with h0|⟨g2,c2,h2,hb2,hl2⟩
  ·exact .inl h0
  by_cases hg:g2=g
  ·subst hg
   have hc:c2=cs:=by
    have:=hb2.symm.trans hb
    simpa using this
   exact .inr ⟨g2,_,h2,hb1,by rw [Hc,←hc];exact hl2⟩
  exact .inr ⟨g2,c2,h2,hb2.fr hf hg,hl2⟩) (λg' hg'=>.inl hg')
 have e1:L.set i (As.mfam l)=L:=by
  apply Eh
  intro j
  by_cases hj:i=j
  ·subst hj;rw [Du (An.1 hi).1,hi]
  rw [Ee hj]
 rw [e1] at M1
 exact k w1 M1
def MW (q:Mq):Bool:=(((((B5 q.nm)&&(O ((chk (⟨3,0,zy,q.key⟩:Vl))=(0:Int))))&&(O ((FF [] q.vars)=(0:Int))))&&(O ((0:Int)≤q.un)))&&(O (q.un≤(1099512676352:Int))))
theorem mE (q:Mq):(((((!(B5 q.nm)) || (!decide ((chk (⟨3,0,zy,q.key⟩:Vl))=(0:Int)))) || (!decide ((FF [] q.vars)=(0:Int)))) || (O (q.un<(0:Int)))) || (O ((1099512676352:Int)<q.un))) = !(MW q):=by
 have h1:O (q.un<(0:Int)) = !decide ((0:Int)≤q.un):=by by_cases h:q.un<0<;>simp [h]<;>omega
 have h2:O ((1099512676352:Int)<q.un) = !decide (q.un≤(1099512676352:Int)):=by by_cases h:(1099512676352:Int)<q.un<;>simp [h]<;>omega
 unfold MW;rw [h1,h2,Ie,Ie,Ie,Ie]
theorem fJ {H:Mq→List Ht} (hH:∀a b:Mq,a.pl=b.pl→H a=H b):∀{L l:List Mq} {j:Nat},L.map Mq.pl=l.map Mq.pl→GJ H L j=GJ H l j
 | [],[],_,_=>rfl
 | [],_::_,_,h=>by cases h
 | _::_,[],_,h=>by cases h
 | x::r,y::s,j,h=>by
  rw [Cc,Cc,Cx] at h
  rw [GJ,GJ,hH x y h.1,fJ hH h.2]
end
theorem MdB.b {m:Md} (h:MdB m):MdB m:=h
def D7 : List Fl→Kz→List Kz
 | [],_=>[]
 | x::r,k=>if x.tg=k then x.id::D7 r k else D7 r k
def BI : List Fl→Kz→List Kz
 | [],_=>[]
 | x::r,k=>if x.frm=k then x.id::BI r k else BI r k
def HY (id:Kz):Nat→Nat→List El→Bool
 | s,t,[]=>O ((s:Int)=1)&&O ((1:Int)≤(t:Int))
 | s,t,x::r=>HY id (if (O (x.inn=id)&&O ((x.kind.toNat:Int)=1))=zz then s+1 else s) (if (O (x.inn=id)&&O ((x.kind.toNat:Int)=2))=zz then t+1 else t) r
def scopeR (l:List El) (id:Kz):Bool:=HY id 0 0 l
def EL (els:List El):Nat→El→List Kz
 | 0,_=>[]
 | f+1,y=>if y.inn=[] then [] else match AG els y.inn with
  | none=>[]
  | some x=>if x.kind.toNat=10 then x.id::EL els f x else []
def C1 (els:List El) (id:Kz):List Kz:=match AG els id with
 | none=>[]
 | some y=>EL els 64 y
theorem iH (els:List El) {y:El} {n:Nat} (h1:¬y.inn=[]) (hn:n<64) (h2:(AG els y.inn).isSome=zz) (h3:(((AG els y.inn).getD zeroEl).kind.toNat:Int)=10):EL els (64-n) y=((AG els y.inn).getD zeroEl).id::EL els (64-(n+1)) ((AG els y.inn).getD zeroEl):=by
 rw [show 64-n=(64-(n+1))+1 by omega,EL,Ae h1]
 cases hx:AG els y.inn with
 | none=>rw [hx] at h2;cases h2
 | some x=>
  rw [hx] at h3
  have h3':x.kind.toNat=10:=by simp only [Df] at h3;omega
  simp only [Ac h3',Df]
theorem iG (els:List El) {y:El} {n:Nat} (h:(AG els y.inn).isSome=zy∨¬(((AG els y.inn).getD zeroEl).kind.toNat:Int)=10):EL els n y=[]:=by
 cases n with
 | zero=>rfl
 | succ n=>
  rw [EL]
  split
  ·rfl
  cases hx:AG els y.inn with
  | none=>rfl
  | some x=>
   rw [hx] at h
   simp only [Option.isSome_some,Ez,Df,false_or] at h
   simp only
   rw [Ae A0]
theorem kW (els:List El) {b:Bool} {y:El} {n:Nat} (h:(b=zy∨y.inn=[])∨¬(n:Int)<64):(if b=zz then EL els (64-n) y else [])=[]:=by
 rcases h with (h|h)|h
 ·rw [h];rfl
 ·split
  ·cases 64-n with
   | zero=>rfl
   | succ k=>rw [EL,Ac h]
  rfl
 rw [show 64-n=0 by omega];split<;>rfl
theorem E9 (m:Md) (a:MdA) (id:Kz) (w:Kw) (ho:MdB m) (hm:MdIn w m a) :
 zt zv 52 #[.agg (Md.cells m a).toArray,str id] w (BR w (.tuple #[.agg ((AG m.els id).getD zeroEl).cells.toArray,.bool (AG m.els id).isSome])):=by
 have hoi:=ho.id;have hon:=ho.nm;have hnv:=ho.nvars;have hne:=ho.nels;have hnf:=ho.nfls;refine BO func52 ntmps52 X λM=>W ?_
 refine CU M X X λg2 w1 hg2 M=>CE M X AP λg4 w2 hg4 M=>W ?_
 refine EC M [4,2,1] (λze zF e wr mz=>∃(i:Nat),e=(6,AA (i:Int))::ze∧zF wr∧(i≤m.els.length)∧(AG m.els id=AG (m.els.drop i) id)∧mz=m.els.length-i) ⟨0,X,M,Aj _,X,X⟩ ?_;rintro _ w3 _ ⟨i,rfl,M,hi,hr,rfl⟩;refine W ?_;refine AC X (λh11=>?_) (λh11=>?_)
 ·have h11p:=odt h11;refine W ?_;obtain ⟨x,_,_,hx,hA_x⟩:=ex5 (i:=i) (M.rd hm.els);refine ya X (AK i hA_x X X X (sl X) A0) (yb X (yl X X (BC El.len (M.rd hm.els) hA_x hx 0 X) (W ?_)));refine AC X (λh21=>?_) (λh21=>?_)
  ·have h21p:=odt h21;refine W ?_;refine ya X (AK i hA_x X X X (sl X) A0) (ya X (AJ X X (BF El.len (M.rd hm.els) hA_x hx) Bk X AM) (BX M 0 X X AM X λw4 M=>W ?_));exact FY X X (M.rdBlk 0 X X) Bk X AM X ⟨by rw [hr,AH hx,AG,Ac h21p];rfl,M.fr⟩
  have h21p:=odf h21;refine W ?_;refine fag ⟨i+1,X,M,?_,?_,X⟩
  ·omega
  rw [hr,AH hx,AG,Ae h21p]
 have h11p:=odf h11;refine W ?_;refine ya X (B8 (parts:=[]) X X SM) (BX M 0 X X AM X λw5 M=>W ?_);refine FY X X (M.rdBlk 0 X X) Bk X AM X ?_;obtain rfl:i=m.els.length:=A0
 exact ⟨by rw [hr,Aq];rfl,M.fr⟩
theorem bH (m:Md) (a:MdA) (id:Kz) (w:Kw) (ho:MdOk m) (hm:MdIn w m a) :
 zt zv 50 #[.agg (Md.cells m a).toArray,str id] w λe w'=>∃A c,e=.returned (.slice A (D7 m.fls id).length c)∧w'.ownsRow w.heap.size 9 1 (.slice A (D7 m.fls id).length c) (D7 m.fls id).length (AF BH (D7 m.fls id))∧Fr0 w w':=by
 have hoi:=ho.id;have hon:=ho.nm;have hnv:=ho.nvars;have hne:=ho.nels;have hnf:=ho.nfls;refine BO func50 ntmps50 X λM=>V ?_
 refine CU M X X λg2 w1 hg2 M=>V ?_
 have M:=M.nilOwn 9 1;refine flp [2,1] (λze e wr mz=>∃(i:Nat) (acc:List Kz) (A:Ky) (c:Nat),e=(5,.slice A acc.length c)::(6,AA (i:Int))::ze∧Mem w AR [As.own w.heap.size 9 1 (.slice A acc.length c) acc.length (AF BH acc),As.blk g2 48 (Md.cells m a)] wr∧(i≤m.fls.length)∧(D7 m.fls id=acc++D7 (m.fls.drop i) id)∧(acc.length≤i)∧mz=m.fls.length-i) ⟨0,[],zx,0,X,M,Aj _,X,Aj _,X⟩ ?_;rintro _ w2 _ ⟨i,acc,A,c,rfl,M,hi,hr,hl,rfl⟩;refine V ?_;refine EZ M 1 X X X (SF X X (G1 X X (V ?_)));refine AC X (λh11=>?_) (λh11=>?_)
 ·have h11p:=odt h11;refine V ?_;refine EZ M 1 X X X (yb X ?_);obtain ⟨x,_,_,hx,hA_x⟩:=ex5 (i:=i) (M.rd hm.fls);refine ya X (AK i hA_x X X X (sl X) A0) (yb X (yl X X (BC Fl.len (M.rd hm.fls) hA_x hx 2 X) (yb X (ya X (IV X X X) (V ?_)))));refine AC X (λh21=>?_) (λh21=>?_)
  ·have h21p:=odt h21;refine V ?_;refine EZ M 1 X X X (yb X (ya X (AK i hA_x X X X (sl X) A0) (yb X (yl X X (BC Fl.len (M.rd hm.fls) hA_x hx 0 X) (CP M kw X X [str x.id] ([str x.id]) X X X X Be CK X X (FZ X) X λg29 w3 hg29 M=>CD (len':=(acc++[x.id]).length) (xs':=AF BH (acc++[x.id])) M 1 kw X X X X X X (M.rdBlk 0 X X) Be C2 X AV (BN X) (Af _) (Af _) D4 (by unfold maxLen;first|omega|(simp;omega)) (by simp) (by first|exact (AY _ _ _).symm|simp [AF,BH]) λA30 c30 w4 M=>V ?_)))));refine D3 X X (V ?_);refine fag ⟨i+1,acc++[x.id],A30,c30,X,(M.pk [1,2]),?_,?_,?_,X⟩
   ·omega
   ·first
     | rw [hr,AH hx,D7,Ac (by assumption)];simp
     | rw [hr,AH hx,D7,Ae (by assumption)]
   first|omega|(simp;omega)
  have h21p:=odf h21;refine V ?_;refine D3 X X (V ?_);refine fag ⟨i+1,acc,A,c,X,M,?_,?_,?_,X⟩
  ·omega
  ·first
    | rw [hr,AH hx,D7,Ac (by assumption)];simp
    | rw [hr,AH hx,D7,Ae (by assumption)]
  first|omega|(simp;omega)
 have h11p:=odf h11;refine V ?_;refine gr1 X ?_;obtain rfl:i=m.fls.length:=A0
 rw [Aq,D7,Cd] at hr
 subst hr;exact ⟨_,_,X,M.own 0 X,M.fr⟩
theorem OW (m:Md) (a:MdA) (id:Kz) (w:Kw) (ho:MdOk m) (hm:MdIn w m a) :
 zt zv 101 #[.agg (Md.cells m a).toArray,str id] w λe w'=>∃A c,e=.returned (.slice A (BI m.fls id).length c)∧w'.ownsRow w.heap.size 9 1 (.slice A (BI m.fls id).length c) (BI m.fls id).length (AF BH (BI m.fls id))∧Fr0 w w':=by
 have hoi:=ho.id;have hon:=ho.nm;have hnv:=ho.nvars;have hne:=ho.nels;have hnf:=ho.nfls;refine BO func101 ntmps101 X λM=>V ?_
 refine CU M X X λg2 w1 hg2 M=>V ?_
 have M:=M.nilOwn 9 1;refine flp [2,1] (λze e wr mz=>∃(i:Nat) (acc:List Kz) (A:Ky) (c:Nat),e=(5,.slice A acc.length c)::(6,AA (i:Int))::ze∧Mem w AR [As.own w.heap.size 9 1 (.slice A acc.length c) acc.length (AF BH acc),As.blk g2 48 (Md.cells m a)] wr∧(i≤m.fls.length)∧(BI m.fls id=acc++BI (m.fls.drop i) id)∧(acc.length≤i)∧mz=m.fls.length-i) ⟨0,[],zx,0,X,M,Aj _,X,Aj _,X⟩ ?_;rintro _ w2 _ ⟨i,acc,A,c,rfl,M,hi,hr,hl,rfl⟩;refine V ?_;refine EZ M 1 X X X (SF X X (G1 X X (V ?_)));refine AC X (λh11=>?_) (λh11=>?_)
 ·have h11p:=odt h11;refine V ?_;refine EZ M 1 X X X (yb X ?_);obtain ⟨x,_,_,hx,hA_x⟩:=ex5 (i:=i) (M.rd hm.fls);refine ya X (AK i hA_x X X X (sl X) A0) (yb X (yl X X (BC Fl.len (M.rd hm.fls) hA_x hx 1 X) (yb X (ya X (IV X X X) (V ?_)))));refine AC X (λh21=>?_) (λh21=>?_)
  ·have h21p:=odt h21;refine V ?_;refine EZ M 1 X X X (yb X (ya X (AK i hA_x X X X (sl X) A0) (yb X (yl X X (BC Fl.len (M.rd hm.fls) hA_x hx 0 X) (CP M kw X X [str x.id] ([str x.id]) X X X X Be CK X X (FZ X) X λg29 w3 hg29 M=>CD (len':=(acc++[x.id]).length) (xs':=AF BH (acc++[x.id])) M 1 kw X X X X X X (M.rdBlk 0 X X) Be C2 X AV (BN X) (Af _) (Af _) D4 (by unfold maxLen;first|omega|(simp;omega)) (by simp) (by first|exact (AY _ _ _).symm|simp [AF,BH]) λA30 c30 w4 M=>V ?_)))));refine D3 X X (V ?_);refine fag ⟨i+1,acc++[x.id],A30,c30,X,(M.pk [1,2]),?_,?_,?_,X⟩
   ·omega
   ·first
     | rw [hr,AH hx,BI,Ac (by assumption)];simp
     | rw [hr,AH hx,BI,Ae (by assumption)]
   first|omega|(simp;omega)
  have h21p:=odf h21;refine V ?_;refine D3 X X (V ?_);refine fag ⟨i+1,acc,A,c,X,M,?_,?_,?_,X⟩
  ·omega
  ·first
    | rw [hr,AH hx,BI,Ac (by assumption)];simp
    | rw [hr,AH hx,BI,Ae (by assumption)]
  first|omega|(simp;omega)
 have h11p:=odf h11;refine V ?_;refine gr1 X ?_;obtain rfl:i=m.fls.length:=A0
 rw [Aq,BI,Cd] at hr
 subst hr;exact ⟨_,_,X,M.own 0 X,M.fr⟩
def N5 (l:Kz):Bool:=((O (((l.length:Nat):Int)≤(1024:Int)))&&(utf l))
theorem eP (l:Kz) (w:Kw) (hl:(l.length:Int)<4611686018427387904) :
 zt zv 159 #[str l] w (BR w (.bool (N5 l))):=by
 refine BO func159 ntmps159 X λM=>W ?_
 refine ya X (BT X X Ad) (W ?_);refine fvm M 3 [2] [(9,.bool ((O ((l.length:Int)≤1024))&&(utf l)))] ?_ (λk6=>?_)
 ·intro w1 M;refine W ?_;exact gr1 X ⟨by rw [N5],M.fr⟩
 refine A1 (d:=6) X (λh6=>?_) (λh6=>?_)
 ·refine gyq X (sxl_call (G 8) kw X X (AE X X call63) (QI _ _ A0) ?_);rintro _ w2 ⟨rfl,hfw2⟩;refine cq ?_;have M:=M.step hfw2;exact yb X (k6 M)
 refine T3 ?_;exact k6 M
def TV (x:El):Bool:=(if ((O ((x.kind.toNat:Int)<(1:Int))) || (O ((10:Int)<(x.kind.toNat:Int))))=zz then zy else (if (((O ((x.kind.toNat:Int)=(4:Int)))&&((O (x.tries<(1:Int))) || (O ((100:Int)<x.tries)))) || ((!decide ((x.kind.toNat:Int)=(4:Int)))&&(!decide (x.tries=(0:Int)))))=zz then zy else (if (((!decide ((x.kind.toNat:Int)=(5:Int)))&&(!decide (x.dflt=[]))) || ((!decide ((x.kind.toNat:Int)=(9:Int)))&&(!decide (x.att=[]))))=zz then zy else (if ((!decide ((x.kind.toNat:Int)=(8:Int)))&&(!decide ((x.kind.toNat:Int)=(9:Int))))=zz then ((((O ((x.ev.toNat:Int)=(0:Int)))&&(O (x.ref=[])))&&(O (x.key=[])))&&(O (x.ticks=(0:Int)))) else (if (O ((x.ev.toNat:Int)=(1:Int)))=zz then ((((O (x.ref=[]))&&(O (x.key=[])))&&(O ((1:Int)≤x.ticks)))&&(O (x.ticks≤(1048576:Int)))) else (if (O ((x.ev.toNat:Int)=(2:Int)))=zz then (((B5 x.ref)&&(B5 x.key))&&(O (x.ticks=(0:Int)))) else (if (O ((x.ev.toNat:Int)=(3:Int)))=zz then (((B5 x.ref)&&(O (x.key=[])))&&(O (x.ticks=(0:Int)))) else zy)))))))
theorem zO (x:El) (w:Kw) (ox:ElOk x) :
 zt zv 160 #[.agg x.cells.toArray] w (BR w (.bool (TV x))):=by
 have ox3:=ox.ref;have ox4:=ox.key;refine BO func160 ntmps160 X λM=>W ?_
 refine CU M X X λg1 w1 hg1 M=>W ?_
 refine fvm M 4 [1] [(10,.bool ((O ((x.kind.toNat:Int)<1)) || (O (10<(x.kind.toNat:Int)))))] ?_ (λk6=>?_)
 ·intro w2 M;refine W ?_;refine AC X (λh10=>?_) (λh10=>?_)
  ·have h10p:=bd h10;refine W ?_;exact gr1 X ⟨by rw [TV,Ac h10],M.fr⟩
  have h10p:=bd h10;refine W ?_;refine fvm M 9 [1] [(23,.bool ((O ((x.kind.toNat:Int)=4))&&((O (x.tries<(1:Int))) || (O ((100:Int)<x.tries)))))] ?_ (λk14=>?_)
  ·intro w3 M;refine yb X (fvm M 9 [1] [(33,.bool (((O ((x.kind.toNat:Int)=4))&&((O (x.tries<(1:Int))) || (O ((100:Int)<x.tries)))) || ((!decide ((x.kind.toNat:Int)=4))&&(!decide (x.tries=(0:Int))))))] ?_ (λk24=>?_))
   ·intro w4 M;refine W ?_;refine AC X (λh33=>?_) (λh33=>?_)
    ·have h33p:=bd h33;refine W ?_;exact gr1 X ⟨by rw [TV,AN h10,Ac h33],M.fr⟩
    have h33p:=bd h33;refine W ?_;refine fvm M 4 [1] [(41,.bool ((!decide ((x.kind.toNat:Int)=5))&&(!decide (x.dflt=[]))))] ?_ (λk37=>?_)
    ·intro w5 M;refine yb X (fvm M 9 [1] [(51,.bool (((!decide ((x.kind.toNat:Int)=5))&&(!decide (x.dflt=[]))) || ((!decide ((x.kind.toNat:Int)=9))&&(!decide (x.att=[])))))] ?_ (λk42=>?_))
     ·intro w6 M;refine W ?_;refine AC X (λh51=>?_) (λh51=>?_)
      ·have h51p:=bd h51;refine W ?_;exact gr1 X ⟨by rw [TV,AN h10,AN h33,Ac h51],M.fr⟩
      have h51p:=bd h51;refine W ?_;refine fvm M 4 [1] [(59,.bool ((!decide ((x.kind.toNat:Int)=8))&&(!decide ((x.kind.toNat:Int)=9))))] ?_ (λk55=>?_)
      ·intro w7 M;refine W ?_;refine AC X (λh59=>?_) (λh59=>?_)
       ·refine W ?_;refine fvm M 4 [1] [(67,.bool ((O ((x.ev.toNat:Int)=0))&&(O (x.ref=[]))))] ?_ (λk63=>?_)
        ·intro w8 M;refine yb X (fvm M 4 [1] [(72,.bool (((O ((x.ev.toNat:Int)=0))&&(O (x.ref=[])))&&(O (x.key=[]))))] ?_ (λk68=>?_))
         ·intro w9 M;refine yb X (fvm M 4 [] [(77,.bool ((((O ((x.ev.toNat:Int)=0))&&(O (x.ref=[])))&&(O (x.key=[])))&&(O (x.ticks=(0:Int)))))] ?_ (λk73=>?_))
          ·intro w10 M;refine W ?_;exact gr1 X ⟨by rw [TV,AN h10,AN h33,AN h51,Ac h59],M.fr⟩
          refine A1 (d:=73) X (λh73=>?_) (λh73=>?_)
          ·refine T4 ?_;exact k73 M
          refine T4 ?_;exact k73 M
         refine A1 (d:=68) X (λh68=>?_) (λh68=>?_)
         ·refine T4 ?_;exact k68 M
         refine T4 ?_;exact k68 M
        refine A1 (d:=63) X (λh63=>?_) (λh63=>?_)
        ·refine T4 ?_;exact k63 M
        refine T4 ?_;exact k63 M
       have h59p:=bd h59;refine W ?_;refine AC X (λh80=>?_) (λh80=>?_)
       ·refine W ?_;refine fvm M 4 [1] [(89,.bool ((O (x.ref=[]))&&(O (x.key=[]))))] ?_ (λk85=>?_)
        ·intro w11 M;refine yb X (fvm M 4 [1] [(94,.bool (((O (x.ref=[]))&&(O (x.key=[])))&&(O ((1:Int)≤x.ticks))))] ?_ (λk90=>?_))
         ·intro w12 M;refine yb X (fvm M 4 [] [(99,.bool ((((O (x.ref=[]))&&(O (x.key=[])))&&(O ((1:Int)≤x.ticks)))&&(O (x.ticks≤(1048576:Int)))))] ?_ (λk95=>?_))
          ·intro w13 M;refine W ?_;exact gr1 X ⟨by rw [TV,AN h10,AN h33,AN h51,AN h59,Ac h80],M.fr⟩
          refine A1 (d:=95) X (λh95=>?_) (λh95=>?_)
          ·refine T4 ?_;exact k95 M
          refine T4 ?_;exact k95 M
         refine A1 (d:=90) X (λh90=>?_) (λh90=>?_)
         ·refine T4 ?_;exact k90 M
         refine T4 ?_;exact k90 M
        refine A1 (d:=85) X (λh85=>?_) (λh85=>?_)
        ·refine T4 ?_;exact k85 M
        refine T4 ?_;exact k85 M
       have h80p:=odf h80;refine W ?_;refine AC X (λh100=>?_) (λh100=>?_)
       ·have h100p:=odt h100;refine W ?_;refine JK kw X X (AE X X call34) (FW _ _ A0) (yb X (fvm M 4 [1] [(109,.bool ((B5 x.ref)&&(B5 x.key)))] ?_ (λk105=>?_)))
        ·intro w14 M;refine yb X (fvm M 4 [] [(114,.bool (((B5 x.ref)&&(B5 x.key))&&(O (x.ticks=(0:Int)))))] ?_ (λk110=>?_))
         ·intro w15 M;refine W ?_;exact gr1 X ⟨by rw [TV,AN h10,AN h33,AN h51,AN h59,AN h80,Ac h100],M.fr⟩
         refine A1 (d:=110) X (λh110=>?_) (λh110=>?_)
         ·refine T4 ?_;exact k110 M
         refine T4 ?_;exact k110 M
        refine A1 (d:=105) X (λh105=>?_) (λh105=>?_)
        ·refine W ?_;exact JK kw X X (AE X X call34) (FW _ _ A0) (yb X (k105 M))
        refine T4 ?_;exact k105 M
       have h100p:=odf h100;refine W ?_;refine AC X (λh115=>?_) (λh115=>?_)
       ·have h115p:=odt h115;refine W ?_;refine JK kw X X (AE X X call34) (FW _ _ A0) (yb X (fvm M 4 [1] [(124,.bool ((B5 x.ref)&&(O (x.key=[]))))] ?_ (λk120=>?_)))
        ·intro w16 M;refine yb X (fvm M 4 [] [(129,.bool (((B5 x.ref)&&(O (x.key=[])))&&(O (x.ticks=(0:Int)))))] ?_ (λk125=>?_))
         ·intro w17 M;refine W ?_;exact gr1 X ⟨by rw [TV,AN h10,AN h33,AN h51,AN h59,AN h80,AN h100,Ac h115],M.fr⟩
         refine A1 (d:=125) X (λh125=>?_) (λh125=>?_)
         ·refine T4 ?_;exact k125 M
         refine T4 ?_;exact k125 M
        refine A1 (d:=120) X (λh120=>?_) (λh120=>?_)
        ·refine T4 ?_;exact k120 M
        refine T4 ?_;exact k120 M
       refine W ?_;exact gr1 X ⟨by rw [TV,AN h10,AN h33,AN h51,AN h59,AN h80,AN h100,AN h115],M.fr⟩
      refine A1 (d:=55) X (λh55=>?_) (λh55=>?_)
      ·refine T4 ?_;exact k55 M
      refine T4 ?_;exact k55 M
     refine A1 (d:=42) X (λh42=>?_) (λh42=>?_)
     ·refine T9 ?_;exact k42 M
     refine W ?_;refine fvm M 4 [42,1] [(50,.bool ((!decide ((x.kind.toNat:Int)=9))&&(!decide (x.att=[]))))] ?_ (λk46=>?_)
     ·intro w18 M;exact yb X (k42 M)
     refine A1 (d:=46) X (λh46=>?_) (λh46=>?_)
     ·refine T4 ?_;exact k46 M
     refine T4 ?_;exact k46 M
    refine A1 (d:=37) X (λh37=>?_) (λh37=>?_)
    ·refine T4 ?_;exact k37 M
    refine T4 ?_;exact k37 M
   refine A1 (d:=24) X (λh24=>?_) (λh24=>?_)
   ·refine T9 ?_;exact k24 M
   refine W ?_;refine fvm M 4 [24,1] [(32,.bool ((!decide ((x.kind.toNat:Int)=4))&&(!decide (x.tries=(0:Int)))))] ?_ (λk28=>?_)
   ·intro w19 M;exact yb X (k24 M)
   refine A1 (d:=28) X (λh28=>?_) (λh28=>?_)
   ·refine T4 ?_;exact k28 M
   refine T4 ?_;exact k28 M
  refine A1 (d:=14) X (λh14=>?_) (λh14=>?_)
  ·refine W ?_;refine fvm M 4 [14,1] [(22,.bool ((O (x.tries<(1:Int))) || (O ((100:Int)<x.tries))))] ?_ (λk18=>?_)
   ·intro w20 M;exact yb X (k14 M)
   refine A1 (d:=18) X (λh18=>?_) (λh18=>?_)
   ·refine T4 ?_;exact k18 M
   refine T4 ?_;exact k18 M
  refine T9 ?_;exact k14 M
 refine A1 (d:=6) X (λh6=>?_) (λh6=>?_)
 ·refine T4 ?_;exact k6 M
 refine T4 ?_;exact k6 M
theorem ZH (m:Md) (a:MdA) (id:Kz) (w:Kw) (ho:MdOk m) (hm:MdIn w m a) :
 zt zv 161 #[.agg (Md.cells m a).toArray,str id] w (BR w (.bool (scopeR m.els id))):=by
 have hoi:=ho.id;have hon:=ho.nm;have hnv:=ho.nvars;have hne:=ho.nels;have hnf:=ho.nfls;refine BO func161 ntmps161 X λM=>W ?_
 refine CU M X X λg2 w1 hg2 M=>W ?_
 refine EC M [2,1] (λze zF e wr mz=>∃(i:Nat) (s:Nat) (t:Nat),e=(5,AA (s:Int))::(6,AA (t:Int))::(7,AA (i:Int))::ze∧zF wr∧(i≤m.els.length)∧(s≤i)∧(t≤i)∧(scopeR m.els id=HY id s t (m.els.drop i))∧mz=m.els.length-i) ⟨0,0,0,X,M,Aj _,Aj _,Aj _,X,X⟩ ?_;rintro _ w2 _ ⟨i,s,t,rfl,M,hi,hs,ht,hr,rfl⟩;refine W ?_;refine AC X (λh12=>?_) (λh12=>?_)
 ·have h12p:=odt h12;refine W ?_;obtain ⟨x,_,_,hx,hA_x⟩:=ex5 (i:=i) (M.rd hm.els);refine ya X (AK i hA_x X X X (sl X) A0) (yb X (yl X X (BC El.len (M.rd hm.els) hA_x hx 3 X) (W ?_)));refine fvm M 8 [7,6,5,2,1] [(31,.bool ((O (x.inn=id))&&(O ((x.kind.toNat:Int)=1))))] ?_ (λk23=>?_)
  ·intro w3 M;refine W ?_;refine KA [(1,str id),(2,pg g2),(5,AA ((if ((O (x.inn=id))&&(O ((x.kind.toNat:Int)=1))) then s+1 else s:Nat):Int)),(6,AA (t:Int)),(7,AA (i:Int))] (λw'=>Mem w AR [As.blk g2 48 (Md.cells m a)] w') ?_ (λk31=>?_)
   ·intro w4 M;refine W ?_;refine ya X (AK i hA_x X X X (sl X) A0) (yb X (yl X X (BC El.len (M.rd hm.els) hA_x hx 3 X) (W ?_)));refine fvm M 8 [7,6,5,2,1] [(50,.bool ((O (x.inn=id))&&(O ((x.kind.toNat:Int)=2))))] ?_ (λk42=>?_)
    ·intro w5 M;refine W ?_;refine AC X (λh50=>?_) (λh50=>?_)
     ·have h50p:=bd h50;refine W ?_;refine fag ⟨i+1,if ((O (x.inn=id))&&(O ((x.kind.toNat:Int)=1))) then s+1 else s,t+1,rfl,M,?_,?_,?_,?_,rfl⟩
      ·omega
      ·first|omega|(split<;>omega)
      ·first|omega|(split<;>omega)
      first|rw [hr,AH hx,HY,Ac h50]|rw [hr,AH hx,HY,AN h50]
     have h50p:=bd h50;refine W ?_;refine fag ⟨i+1,if ((O (x.inn=id))&&(O ((x.kind.toNat:Int)=1))) then s+1 else s,t,rfl,M,?_,?_,?_,?_,rfl⟩
     ·omega
     ·first|omega|(split<;>omega)
     ·first|omega|(split<;>omega)
     first|rw [hr,AH hx,HY,Ac h50]|rw [hr,AH hx,HY,AN h50]
    refine A1 (d:=42) X (λh42=>?_) (λh42=>?_)
    ·refine W ?_;refine yd X (AK i hA_x X X X (sl X) A0) (gyq X (ym X X (BC El.len (M.rd hm.els) hA_x hx 2 X) (T2 ?_)));exact k42 M
    refine T8 ?_;exact k42 M
   refine AC X (λh31=>?_) (λh31=>?_)
   ·refine T5 ?_;exact k31 _ _ M ⟨X,X,(by rw [h31];rfl),X,X,zw⟩
   exact sx_skip (k31 _ _ M ⟨X,X,(by rw [h31];rfl),X,X,zw⟩)
  refine A1 (d:=23) X (λh23=>?_) (λh23=>?_)
  ·refine W ?_;refine yd X (AK i hA_x X X X (sl X) A0) (gyq X (ym X X (BC El.len (M.rd hm.els) hA_x hx 2 X) (T2 ?_)));exact k23 M
  refine T8 ?_;exact k23 M
 have h12p:=odf h12;refine W ?_;refine fvm M 3 [] [(58,.bool ((O ((s:Int)=1))&&(O (1≤(t:Int)))))] ?_ (λk55=>?_)
 ·intro w6 M;refine W ?_;refine gr1 X ?_;obtain rfl:i=m.els.length:=A0
  exact ⟨by rw [hr,Aq];rfl,M.fr⟩
 refine A1 (d:=55) X (λh55=>?_) (λh55=>?_)
 ·refine T3 ?_;exact k55 M
 refine T3 ?_;exact k55 M
theorem NX (m:Md) (a:MdA) (id:Kz) (w:Kw) (ho:MdOk m) (hm:MdIn w m a) :
 zt zv 104 #[.agg (Md.cells m a).toArray,str id] w λe w'=>∃A c,e=.returned (.slice A (C1 m.els id).length c)∧w'.ownsRow w.heap.size 9 1 (.slice A (C1 m.els id).length c) (C1 m.els id).length (AF BH (C1 m.els id))∧Fr0 w w':=by
 have hoi:=ho.id;have hon:=ho.nm;have hnv:=ho.nvars;have hne:=ho.nels;have hnf:=ho.nfls;refine BO func104 ntmps104 X λM=>W ?_
 refine CU M X X λg2 w1 hg2 M=>W ?_
 refine CF M 0 X X Ap AO X (yb X (CQ M 13 X X call52 (E9 m a _ _ ho.b (hm.fr0 M.fr)) λw2 M=>W ?_));refine CE M X AP λg6 w3 hg6 M=>BX M 0 X X AM X λw4 M=>W ?_
 have M:=M.nilOwn 9 1;refine flp [7,6,2] (λze e wr mz=>∃(y:El) (acc:List Kz) (A:Ky) (c:Nat),e=(5,.slice A acc.length c)::ze∧Mem w AR [As.own w.heap.size 9 1 (.slice A acc.length c) acc.length (AF BH acc),As.blk g6 106 (El.cells y),As.blk g2 48 (Md.cells m a)] wr∧(acc.length≤64)∧(C1 m.els id=acc++(if (AG m.els id).isSome=zz then EL m.els (64-acc.length) y else []))∧mz=64-acc.length) ⟨(AG m.els id).getD zeroEl,[],zx,0,X,M,Aj _,by unfold C1;cases AG m.els id<;>rfl,rfl⟩ ?_;rintro _ w5 _ ⟨y,acc,A,c,rfl,M,hl,hr,rfl⟩;refine W ?_;refine fvm M 4 [7,6,5,2] [(21,.bool ((AG m.els id).isSome&&(!decide (y.inn=[]))))] ?_ (λk17=>?_)
 ·intro w6 M;refine yb X (fvm M 4 [7,6,5,2] [(26,.bool (((AG m.els id).isSome&&(!decide (y.inn=[])))&&(O ((acc.length:Int)<64))))] ?_ (λk22=>?_))
  ·intro w7 M;refine W ?_;refine AC X (λh26=>?_) (λh26=>?_)
   ·have h26p:=bd h26;refine W ?_;refine CF M 2 X X Ap AO X (W ?_);refine CQ M 31 X X call52 (E9 m a _ _ ho.b (hm.fr0 M.fr)) λw8 M=>W ?_
    refine CE M X AP λg8 w9 hg8 M=>BX M 0 X X AM X λw10 M=>W ?_
    refine fvm M 4 [8,7,6,5,2] [(40,.bool ((!(AG m.els y.inn).isSome) || (!decide ((((AG m.els y.inn).getD zeroEl).kind.toNat:Int)=10))))] ?_ (λk36=>?_)
    ·intro w11 M;refine W ?_;refine AC X (λh40=>?_) (λh40=>?_)
     ·have h40p:=bd h40;refine W ?_;refine gr1 X ?_;rw [Ac h26p.1.1,iG m.els h40p,Cd] at hr
      subst hr;exact ⟨_,_,X,M.own 1 X,M.fr⟩
     have h40p:=bd h40;refine W ?_;refine CP M kw X X [str (((AG m.els y.inn).getD zeroEl).id)] ([str (((AG m.els y.inn).getD zeroEl).id)]) X X X X Be CK X X (FZ X) X λg45 w12 hg45 M=>CD (len':=(acc++[((AG m.els y.inn).getD zeroEl).id]).length) (xs':=AF BH (acc++[((AG m.els y.inn).getD zeroEl).id])) M 2 kw X X X X X X (M.rdBlk 0 X X) Be C2 X AV (BN X) (Af _) (Af _) D4 (by unfold maxLen;first|omega|(simp;omega)) (by simp) (by first|exact (AY _ _ _).symm|simp [AF,BH]) λA46 c46 w13 M=>W ?_
     refine CF M 1 X X Bk AM X (BX M 3 X X AM X λw14 M=>W ?_);have hlen:=h26p.2;refine fag ⟨((AG m.els y.inn).getD zeroEl),acc++[((AG m.els y.inn).getD zeroEl).id],A46,c46,X,(M.pk [2,3,4]),?_,?_,X⟩
     ·simp only [Am,Al,Ay];omega
     rw [hr,Ac h26p.1.1,Ac h26p.1.1,iH m.els h26p.1.2 A0 h40p.1 h40p.2];simp
    refine A1 (d:=36) X (λh36=>?_) (λh36=>?_)
    ·refine T4 ?_;exact k36 M
    refine T4 ?_;exact k36 M
   have h26p:=bd h26;refine W ?_;refine gr1 X ?_;rw [kW m.els h26p,Cd] at hr
   subst hr;exact ⟨_,_,X,M.own 0 X,M.fr⟩
  refine A1 (d:=22) X (λh22=>?_) (λh22=>?_)
  ·refine T4 ?_;exact k22 M
  refine T4 ?_;exact k22 M
 refine A1 (d:=17) X (λh17=>?_) (λh17=>?_)
 ·refine T4 ?_;exact k17 M
 refine T4 ?_;exact k17 M
end Go.Proofs.YtppmdnmjepkfaaaGreatDoor
