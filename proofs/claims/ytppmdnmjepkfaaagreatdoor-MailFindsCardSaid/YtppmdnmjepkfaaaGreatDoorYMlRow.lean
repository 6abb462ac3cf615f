/- Lemmas. -/
import Derived.Test.YtppmdnmjepkfaaaGreatDoorYMl2
set_option maxHeartbeats 16000000
set_option maxRecDepth 100000
namespace Go.Proofs.YtppmdnmjepkfaaaGreatDoor
open Go.RowKit
open Tryz
theorem Fr.putObj {S:Nat→Prop} {w w':Kw} (h:Fr S w w') {lr:Nat} (o:Obj) (hl:w.heap.size≤lr):Fr S w (w'.putObj lr o):=
 ⟨h.os,h.tape,h.output,by rw [World.putObj_size];exact h.size,λk hk hn=>(World.putObj_heap_other A0).trans (h.block k hk hn)⟩
theorem Mp.putObj {w:Kw} {g lr:Nat} {L:List (Kz × Kv)} (h:Mp w g L) (o:Obj) (hne:g≠lr):Mp (w.putObj lr o) g L:=by
 obtain ⟨es,cl,h1,h2⟩:=h;exact ⟨es,cl,(World.putObj_heap_other hne).trans h1,h2⟩
theorem Blk.putObj {w:Kw} {g lr:Nat} {t:Ly} {cs:Kx} (h:Blk w g t cs) (o:Obj) (hne:g≠lr):Blk (w.putObj lr o) g t cs:=(World.putObj_heap_other hne).trans h
theorem p5 (A:Ky) (n c:Nat) (w:Kw):Calls prog 59 #[.slice A n c] w λe w'=>
 ∃g,e=.returned (.func (.func 112) #[] #[pg g])∧w.heap.size≤g∧g<w'.heap.size∧Blk w' g 23 [.slice A n c]∧Fr0 w w':=by
 refine sx_enter (vs:=[_]) func59 X ntmps59 X (W ?_);refine sxl_does (some 1) kw X X (λρ hρ=>LN 23 (.tmp 0) X [.slice A n c] (by rw [hρ _ _ rfl];rfl)) ?_;rintro _ w1 ⟨g,rfl,hg1,hg2,hb,hf⟩;refine W ?_;refine ya X (CY (xs:=[]) (ys:=[.tmp 1]) X X X) (W ?_);exact gr1 X ⟨g,X,hg1,hg2,hb,hf⟩
namespace Sf
theorem a0a (A:Ky) (c lr gb:Nat) (l:List Bd) (J:Nat→Kw→Prop) (hlen:(l.length:Int)<4611686018427387904)
 (hcell:∀i w,J i w→Cell w.heap gb 0 (.slice A l.length c)) (hrd:∀i w,J i w→Rd w A (l.length*5) (U8 l)) (hrec:∀i w,J i w→∃r,w.heap[lr]?=some (.loop r)∧r.params.size=2)
 (hround:∀i x w r,l[i]?=some x→J (i+1) w→w.heap[lr]?=some (.loop r)→RoundIn Fence.wide 2 prog lr r.fn ((r.params.zip [Value.int .i64 (i:Int),x.val].toArray).foldl (λtmps (t,a)=>tmps.setIfInBounds t a) r.tmps) r.assign r.body w
  (λe w'=>e=.returned (.bool true)∧J i w')) (w:Kw) (h0:J l.length w) :
 Calls prog 112 #[.func (.yield lr) #[] #[],pg gb] w λe w'=>e=.returned (.tuple #[])∧J 0 w':=by
 refine sx_enter (vs:=[_,_]) func112 X ntmps112 X ?_;have c0:=hcell _ _ h0;refine sx_seq (sx_region (sxl_y (wn_none X) X X (B2 X X (sc X) (by assumption)) (sxl_y (wn_none X) X X (I7 X X (sl X)) (sxl_y (wn_none X) X X (MN X X X (by omega)) (sxl_y (wn_none X) X X (yp X) (sxl_nil (qx_seq (sx_block (sx_loop (e0:=[(3,AA ((l.length:Int)-1)),(0,.func (.yield lr) #[] #[]),(1,pg gb)]) (λe wr m=>∃(j:Nat),e=[(3,AA ((j:Int)-1)),(0,.func (.yield lr) #[] #[]),(1,pg gb)]∧J j wr∧j≤l.length∧m=j) ⟨l.length,X,h0,Ab _,X⟩ ⟨X,X,X,trivial⟩ ?_)))))))));rintro _ wr m ⟨j,rfl,hJ,hj,hm⟩
 by_cases hj0:j=0
 ·subst hj0;exact sx_seq (sx_seq (sx_region (sxl_y (wn_none X) X X (yp X) (sxl_y (wn_none X) X X (C4 X X X (by omega)) (sxl_nil (qx_seq (sx_false X (sx_exit (qx_then_exit (qx_then_exit (qx_block_hit (qx_ret0 (Or.inr X) X ⟨X,hJ⟩))))))))))))
 obtain ⟨i,rfl⟩:∃i,j=i+1:=⟨j-1,by omega⟩
 rw [show (((i+1:Nat):Int)-1)=(i:Int) by omega];have c1:=hcell _ _ hJ;obtain ⟨x,hx⟩:∃x,l[i]?=some x:=⟨_,Ao (by omega)⟩
 obtain ⟨b,off,rfl,el⟩:=OZ (hrd _ _ hJ) hx;obtain ⟨r,hr,hps⟩:=hrec _ _ hJ;refine sx_seq (sx_seq (sx_region (sxl_y (wn_none X) X X (yp X) (sxl_y (wn_none X) X X (DE X X X (by omega)) (sxl_nil (qx_seq (sx_true X (sx_skip (qx_seq (sx_seq (sx_block (sx_seq (sx_region (sxl_y (wn_none X) X X (yp X) (sxl_y (wn_none X) X X (yp X) ?_)))))))))))))));refine sxl_y (wn_none X) X X (B2 X X (sc X) (by assumption)) (sxl_y (wn_none X) X X (yp X) (sxl_y (wn_none X) X X (HG X X X (sl X) (by omega)) (sxl_y (wn_none X) X X (AI X X el.all Dj X L0) (sxl_round (some 17) (wn_none X) X X X X X hr (by rw [hps];rfl) (hround i x _ r hx hJ hr) ?_))));rintro _ w2 ⟨rfl,hJ2⟩;exact ⟨_,X,sxl_y (wn_none X) X X (yp X) (sxl_nil (qx_seq (sx_false X (sx_skip (qx_block_normal (qx_seq (sx_region (sxl_y (wn_none X) X X (yp X) (sxl_y (wn_none X) X X (MN X X X (by omega)) (sxl_y (wn_none X) X X (yp X) (sxl_nil (qx_again [(3,AA ((i:Int)-1)),(0,.func (.yield lr) #[] #[]),(1,pg gb)] i ⟨i,X,hJ2,by omega,rfl⟩ (by omega) ⟨X,X,X,trivial⟩))))))))))))⟩
end Sf
def I4 (l:List Bd):List Kz:=l.map (·.name)
def HQ : List Kz→List Bd→Int
 | _,[]=>0
 | seen,x::r=>if (B6 x.name&&vOk x.v)=false then 1 else if x.name∈seen then 6 else HQ (seen++[x.name]) r
theorem NM {l:List Bd} {i:Nat} {x:Bd} (hx:l[i]?=some x):I4 (l.take (i+1))=I4 (l.take i)++[x.name]:=by
 unfold I4;rw [Da,hx]
 simp
theorem nI (A:Ky) (c:Nat) (l:List Bd) (w:Kw) (hl:BdOk l) (hr:Rd w A (l.length*5) (U8 l)) :
 Calls prog 36 #[.slice A l.length c] w (BS w (AA (HQ [] l))):=by
 have hlen:=hl.len;refine sx_enter (vs:=[_]) func36 X ntmps36 X (V ?_);refine sx_loop (e0:=[(3,AA 0),(0,.slice A l.length c)]) (λe wr m=>∃(i:Nat),e=[(3,AA (i:Int)),(0,.slice A l.length c)]∧Fr0 w wr∧i≤l.length∧HQ [] l=HQ (I4 (l.take i)) (l.drop i)∧m=l.length-i) ⟨0,X,Fr.refl,Ae _,X,X⟩ ⟨X,X,trivial⟩ ?_;rintro _ wr _ ⟨i,rfl,hf,hi,hcb,rfl⟩
 by_cases hlt:i<l.length
 ·obtain ⟨x,hx⟩:∃x,l[i]?=some x:=⟨_,Ao hlt⟩
  have hxl:x∈l:=Ac hx;obtain ⟨b,off,rfl,el⟩:=OZ (hr.fr0 hf) hx;have e0:=el.name;rw [V9 hx,HQ] at hcb
  refine V ?_;refine UR X X (ya X (D4 X X X A0) (V ?_));refine ya X (HG X X X (sl X) A0) (yb X (yl X X (by assumption) (sxl_call (some 16) (by first|exact wn_none rfl|exact wn_on rfl rfl rfl) X X (AD X X call34) (G7 x.name _ (by have:=hl.name x hxl;omega)) ?_)));rintro _ w1 ⟨rfl,rfl⟩;refine cq ?_
  cases hn:B6 x.name with
  | false=>
   have hres:HQ [] l=1:=by rw [hcb,hn];rfl
   refine V ?_;exact gr1 X ⟨by rw [hres],hf⟩
  | true=>
   refine V ?_;refine yd X (HG X X X (sl X) A0) (gyq X (yd X (AI X X el.val Br X FN) (sxl_call (some 24) (by first|exact wn_none rfl|exact wn_on rfl rfl rfl) X X (AD X X call35) (P3 x.v _ (hl.text x hxl)) ?_)));rintro _ w1 ⟨rfl,hf1⟩;refine cq ?_;have hf2:=hf.trans hf1
   cases hv:vOk x.v with
   | false=>
    have hres:HQ [] l=1:=by rw [hcb,hn,hv];rfl
    rw [JQ hv];refine yd X (UU X X X A0) (V ?_);exact gr1 X ⟨by rw [hres],hf2⟩
   | true=>
    rw [hn,hv] at hcb
    simp only [Bool.and_self,Er,if_false] at hcb
    rw [UB hv];refine yd X (UV X X X A0) (V ?_);refine sx_loop (e0:=[(4,AA 0),(3,AA (i:Int)),(0,.slice (some ⟨b,off,none⟩) l.length c)]) (λe wr m=>∃(k:Nat),e=[(4,AA (k:Int)),(3,AA (i:Int)),(0,.slice (some ⟨b,off,none⟩) l.length c)]∧Fr0 w wr∧k≤i∧(x.name∉I4 (l.take k))∧m=i-k) ⟨0,X,hf2,Ae _,by simp [I4],rfl⟩ ⟨X,X,X,trivial⟩ ?_;rintro _ wr2 _ ⟨k,rfl,hf3,hk,hnot,rfl⟩
    by_cases hki:k<i
    ·obtain ⟨y,hy⟩:∃y,l[k]?=some y:=⟨_,Ao A0⟩
     obtain ⟨b1,off1,hA,el2⟩:=OZ (hr.fr0 hf3) hx
     injection hA with hA;injection hA with hA1 hA2 _;subst hA1;subst hA2
     obtain ⟨b2,off2,hA,el3⟩:=OZ (hr.fr0 hf3) hy
     injection hA with hA;injection hA with hA1 hA2 _;subst hA1;subst hA2
     have e1':Cell wr2.drew.heap b (off+i*5+0) (str x.name):=el2.name;have e2':Cell wr2.drew.heap b (off+k*5+0) (str y.name):=el3.name
     by_cases hyx:y.name=x.name
     ·have hin:x.name∈I4 (l.take i):=by
       unfold I4;refine Ch.2 ⟨y,?_,hyx⟩;exact Ac (i:=k) (by rw [Cb hki];exact hy)
      rw [if_pos hin] at hcb
      have hdk:decide (y.name=x.name)=true:=by simp [hyx]
      refine V ?_;refine ya X (D4 X X X A0) (V ?_);refine CS CA gkr (V ?_);refine sa X (HG X X X (sl X) A0) (sb X (sd X X (by assumption) (V ?_)));refine sa X (HG X X X (sl X) A0) (sb X (sd X X (by assumption) (sa X (GI X X X) (V ?_))));rw [hdk];refine V ?_;exact gr1 X ⟨by rw [hcb],hf3.drew⟩
     have hnot2:x.name∉I4 (l.take (k+1)):=by
      rw [NM hy];simp only [Bo,Au,not_or];exact ⟨hnot,λe=>hyx e.symm⟩
     have hdk:decide (y.name=x.name)=false:=by simp [hyx]
     refine V ?_;refine ya X (D4 X X X A0) (V ?_);refine CS CA gkr (V ?_);refine sa X (HG X X X (sl X) A0) (sb X (sd X X (by assumption) (V ?_)));refine sa X (HG X X X (sl X) A0) (sb X (sd X X (by assumption) (sa X (GI X X X) (V ?_))));rw [hdk];refine V ?_;refine CZ X X (V ?_);exact fag ⟨k+1,X,hf3.drew,by omega,hnot2,rfl⟩
    obtain rfl:k=i:=by omega
    rw [if_neg hnot] at hcb
    refine V ?_;refine ya X (DD X X X A0) (V ?_);refine CZ X X (V ?_);exact fag ⟨k+1,X,hf3,by omega,by rw [hcb,NM hx],rfl⟩
 obtain rfl:i=l.length:=by omega
 rw [Am] at hcb
 refine V ?_;refine UR X X (ya X (DD X X X A0) (V ?_));exact gr1 X ⟨by rw [hcb];rfl,hf⟩
theorem nT {L:List (Kz × Kv)} {S:List Kz} (h:∀k,(CC L k).getD (.bool false)=.bool (decide (k∈S))) (x:Kz):∀k,(CC (D9 L x (.bool true)) k).getD (.bool false)=.bool (decide (k∈S++[x])):=λk=>by
 rw [G0]
 by_cases e:k=x
 ·simp [e]
 rw [if_neg e,h k];simp [e]
theorem p4 : (prog.info? 4).map (·.zero)=some (some (.bool false)):=by kernel_rfl
theorem mG (A:Ky) (c:Nat) (l:List Bd) (w:Kw) (hl:BdOk l) (hr:Rd w A (l.length*5) (U8 l)) (hT:Laid w utfL) :
 Calls prog 40 #[.slice A l.length c] w (BS w (AA (HQ [] l))):=by
 have hlen:=hl.len;refine sx_enter (vs:=[_]) func40 X ntmps40 X (V ?_);refine sxl_does (some 6) kw X X (λρ hρ=>TJ X) ?_;rintro _ w1 ⟨mp,rfl,hmp1,hmp2,hM0,hf0⟩;refine V ?_;refine UR X X (V ?_);refine sx_loop (e0:=[(9,AA 0),(8,AA (l.length:Int)),(7,.slice A l.length c),(3,.map (some mp))]) (λe wr m=>∃(i:Nat) (L:List (Kz × Kv)),e=[(9,AA (i:Int)),(8,AA (l.length:Int)),(7,.slice A l.length c),(3,.map (some mp))]∧Fr0 w wr∧Mp wr mp L∧(∀k,(CC L k).getD (.bool false)=.bool (decide (k∈I4 (l.take i))))∧i≤l.length∧HQ [] l=HQ (I4 (l.take i)) (l.drop i)∧m=l.length-i) ⟨0,[],X,hf0,hM0,λk=>by simp [CC,I4],Ae _,rfl,rfl⟩ ⟨X,X,X,X,trivial⟩ ?_;rintro _ wr _ ⟨i,L,rfl,hf,hM,hseen,hi,hcb,rfl⟩
 by_cases hlt:i<l.length
 ·obtain ⟨x,hx⟩:∃x,l[i]?=some x:=⟨_,Ao hlt⟩
  have hxl:x∈l:=Ac hx;obtain ⟨b,off,rfl,el⟩:=OZ (hr.fr0 hf) hx;rw [V9 hx,HQ] at hcb
  refine V ?_;refine ya X (D4 X X X A0) (V ?_);refine ya X (HG X X X (sl X) A0) (ya X (AI X X el.all Dj X L0) (sxl_does (some 5) kw X X (λρ hρ=>BN 63 X _ _ TP X) ?_));rintro _ w2 ⟨g,rfl,hg1,hg2,hb,hf2⟩;refine sxl_does none kw X X (λρ hρ=>BK 63 (.tmp 5) (.tmp 12) X g 0 63 _ x.cells (hρ _ _ X) (hρ _ _ X) hb L0 (by show 0+5≤5;omega) (Bd.cells_one _)) ?_;rintro _ w3 ⟨rfl,hb3,hf3⟩;rw [HA zeroBd.cells x.cells rfl] at hb3
  have hwr:=hf.size;have hfa:Fr0 wr w3:=hf2.step hf3 (λk hk e=>by omega);have hf':Fr0 w w3:=hf.trans hfa;have hM':=hM.fr hfa (λhh=>hh);have el3:=OU hb3;have e0:=el3.name;refine V ?_;refine yl X X (by assumption) (sxl_call (some 16) (by first|exact wn_none rfl|exact wn_on rfl rfl rfl) X X (AD X X call37) (EN x.name _ (hl.name x hxl)) ?_);rintro _ w4 ⟨rfl,hf4⟩;refine cq ?_;have hf4':=hf'.trans hf4
  cases hn:B6 x.name with
  | false=>
   have hres:HQ [] l=1:=by rw [hcb,hn];rfl
   refine V ?_;exact gr1 X ⟨by rw [hres],hf4'⟩
  | true=>
   have el4:=OU (hb3.fr0 hf4);refine V ?_;refine yd X (AI X X el4.val Br X FN) (sxl_call (some 21) (by first|exact wn_none rfl|exact wn_on rfl rfl rfl) X X (AD X X call38) (JS x.v _ (hl.text x hxl) (hT.fr hf4')) ?_);rintro _ w5 ⟨rfl,hf5⟩;refine cq ?_;have hf5':=hf4'.trans hf5;have hM5:=(hM'.fr hf4 (λhh=>hh)).fr hf5 (λhh=>hh);have el5:=OU ((hb3.fr0 hf4).fr0 hf5);have e5:=el5.name
   cases hv:vOk x.v with
   | false=>
    have hres:HQ [] l=1:=by rw [hcb,hn,hv];rfl
    rw [JQ hv];refine yd X (UU X X X A0) (V ?_);exact gr1 X ⟨by rw [hres],hf5'⟩
   | true=>
    rw [hn,hv] at hcb
    simp only [Bool.and_self,Er,if_false] at hcb
    rw [UB hv];refine yd X (UV X X X A0) (V ?_);refine yl X X (by assumption) (ya X (QY (ok:=false) X X X Ec Aa p4 hM5) (V ?_));rw [show (if (false:Bool)=true then Value.tuple #[(CC L x.name).getD (.bool false),.bool (CC L x.name).isSome] else (CC L x.name).getD (.bool false))=.bool (decide (x.name∈I4 (l.take i))) from hseen x.name]
    by_cases hin:x.name∈I4 (l.take i)
    ·rw [show decide (x.name∈I4 (l.take i))=true by simp [hin]];rw [if_pos hin] at hcb
     refine V ?_;exact gr1 X ⟨by rw [hcb],hf5'⟩
    rw [show decide (x.name∈I4 (l.take i))=false by simp [hin]];rw [if_neg hin] at hcb
    refine V ?_;refine yl X X (by assumption) (sxl_does none kw X X (λρ hρ=>GF (v:=.bool true) X (hρ _ _ X) (hρ _ _ X) (hρ _ _ X) Ec Aa hM5) ?_);rintro _ w6 ⟨rfl,hf6,hM6⟩;refine V ?_;refine CZ X X (V ?_);exact fag ⟨i+1,_,X,hf5'.step hf6 (λk hk e=>by omega),hM6,by rw [NM hx];exact nT hseen x.name,by omega,by rw [hcb,NM hx],rfl⟩
 obtain rfl:i=l.length:=by omega
 rw [Am] at hcb
 refine V ?_;refine ya X (DD X X X A0) (V ?_);exact gr1 X ⟨by rw [hcb];rfl,hf⟩
def JX : List Bd→List (Kz × Kv)
 | []=>[]
 | x::r=>D9 (JX r) x.name (.int .u8 (x.v.kind.toNat:Int))
theorem WU (k:Kz):∀l:List Bd,CC (JX l) k=(EK l k).map λv=>.int .u8 (v.kind.toNat:Int)
 | []=>rfl
 | x::r=>by
  rw [JX,G0,EK,WU k r]
  by_cases h:x.name=k
  ·rw [if_pos h,if_pos h.symm];rfl
  rw [if_neg h,if_neg (λe=>h e.symm)]
def G6 (vars:List Bd):List Bd→Int
 | []=>0
 | x::r=>match EK vars x.name with
  | none=>100
  | some v=>if v.kind=x.v.kind then G6 vars r else 90
def I5 (vars patch:List Bd):Int:=if HQ [] patch=0 then G6 vars patch else HQ [] patch
def j4 (id nm:Kz) (A:Ky) (n c:Nat) (vE vF:Kv):Kx:=[str id,str nm,.slice A n c,vE,vF]
theorem SI {P:Lw} {e:Env} {w:Kw} {o:Oper} {t kt el:Ly} {x i:Lz} {g:Nat} {k:Kz} {L:List (Kz × Kv)} {z:Kv} {r:Option Kv} (ho:o.op=.lookup t x i true) (hx:ev e x=some (.map (some g))) (hi:ev e i=some (str k)) (hu:P.underlying t=some (.map kt el)) (hd:P.underlying kt=some .string)
 (hz:(P.info? el).map (·.zero)=some (some z)) (hM:Mp w g L) (hr:CC L k=r):Y P e o w (.tuple #[r.getD z,.bool r.isSome]):=by
 subst hr;exact QY (ok:=true) ho hx hi hu hd hz hM
theorem aG : (prog.info? 5).map (·.zero)=some (some (.int .u8 0)):=by kernel_rfl
theorem j8 : (prog.info? 131).map (·.zero)=some (some (.map none)):=by kernel_rfl
theorem j9 {a b:UInt8} (h:(a.toNat:Int)=b.toNat):a=b:=Fu.1 A0
theorem Fr.none_of {w w' w'':Kw} {m:Nat} (h:Fr0 w w') (h':Fr (λk=>k=m) w' w'') (hm:w.heap.size≤m):Fr0 w w'':=h.step h' (λk hk e=>by omega)
namespace Sf
structure JF (w0:Kw) (mp:Nat) (l:List Bd) (r:Loop) (i:Nat) (w':Kw):Prop where
 fr:Fr (λk=>k=mp) w0 w'
 mp:Mp w' mp (JX (l.drop i))
 rc:w'.heap[w0.heap.size+1]?=some (.loop r)
 df:w'.heap[w0.heap.size]?=some (.deferred (some []))
theorem fits_ok (id nm:Kz) (A B:Ky) (c cp:Nat) (vE vF:Kv) (l p:List Bd) (w:Kw) (hl:BdOk l) (hp:BdOk p) (hrl:Rd w A (l.length*5) (U8 l)) (hrp:Rd w B (p.length*5) (U8 p)) (hT:Laid w utfL) :
 Calls prog 27 #[.agg (j4 id nm A l.length c vE vF).toArray,.slice B p.length cp] w (BS w (AA (I5 l p))):=by
 have hlen:=hl.len;have hplen:=hp.len;refine sx_enter (vs:=[_,_]) func27 X ntmps27 X (sx_seq (sx_region (sxl_does (some 2) (wn_none X) X X (λρ hρ=>LN 48 (.tmp 0) X (j4 id nm A l.length c vE vF) (by rw [hρ _ _ rfl];rfl)) ?_)));rintro _ w1 ⟨g2,rfl,hg2a,hg2b,hb2,hf1⟩;refine sxl_y (wn_none X) X X (yp X) (sxl_nil (qx_seq (sx_seq (sx_seq (sx_region (sxl_y (wn_none X) X X (yp X) (sxl_call (some 14) (by first|exact wn_none rfl|exact wn_on rfl rfl rfl) X X (AD X X call40) (mG B cp p _ hp (hrp.fr0 hf1) (hT.fr hf1)) ?_)))))));rintro _ w2 ⟨rfl,hf2⟩;refine ⟨_,X,?_⟩;have hf2':=hf1.trans hf2
 by_cases he:HQ [] p=0
 case neg=>
  have hres:I5 l p=HQ [] p:=by unfold I5;rw [if_neg he]
  refine sxl_y (wn_none X) X X (yp X) (sxl_nil (qx_seq (sx_seq (sx_region (sxl_y (wn_none X) X X (yp X) (sxl_y (wn_none X) X X (UU X X X (by omega)) (sxl_nil (qx_seq (sx_true X (sx_seq (sx_region (sxl_y (wn_none X) X X (yp X) (sxl_y (wn_none X) X X (yp X) (sxl_nil (qx_seq ?_)))))))))))))));exact sx_ret (qx_then_ret (qx_ret1 X X ⟨by rw [hres],hf2'⟩))
 have hres:I5 l p=G6 l p:=by unfold I5;rw [if_pos he]
 refine sxl_y (wn_none X) X X (yp X) (sxl_nil (qx_seq (sx_seq (sx_region (sxl_y (wn_none X) X X (yp X) (sxl_y (wn_none X) X X (UV X X X (by omega)) (sxl_nil (qx_seq (sx_false X (sx_skip (qx_seq (sx_seq (sx_region (sxl_does (some 18) (wn_none X) X X (λρ hρ=>TJ X) ?_))))))))))))));rintro _ w3 ⟨mp,rfl,hmp1,hmp2,hM0,hf3⟩;refine sxl_does (some 6) (wn_none X) X X (λρ hρ=>BN 131 X _ [.map none] j8 X) ?_;rintro _ w4 ⟨g6,rfl,hg6a,hg6b,hb6,hf4⟩;refine sxl_does none (wn_none X) X X (λρ hρ=>DW 131 (.tmp 6) (.tmp 18) X g6 0 131 _ (.map (some mp)) (hρ _ _ X) (hρ _ _ X) X hb6 (by kernel_rfl) (by decide) X) ?_;rintro _ w5 ⟨rfl,hb6',hf5⟩;have hne6:g6≠mp:=by omega
 have hwm:w.heap.size≤mp:=by have:=hf2'.size;omega
 have hf5':Fr0 w w5:=((hf2'.trans hf3).trans hf4).step hf5 (λk hk e=>by have:=hf2'.size;have:=hf3.size;omega);have hM5:Mp w5 mp []:=(hM0.fr hf4 (λhh=>hh)).fr hf5 (λe=>hne6 e.symm);have hs1:=hf1.size;have hs2:=hf2.size;have hs3:=hf3.size;have hs4:=hf4.size;have hs5:=hf5.size;have hb2':Blk w5 g2 48 (j4 id nm A l.length c vE vF):=(((hb2.fr hf2 (λhh=>hh)).fr hf3 (λhh=>hh)).fr hf4 (λhh=>hh)).fr hf5 (λe=>by omega);have c2:Cell w5.heap g2 2 (.slice A l.length c):=hb2'.c 2 X;refine sxl_nil (qx_seq (sx_seq (sx_seq (sx_region (sxl_y (wn_none X) X X (yp X) (sxl_y (wn_none X) X X (B2 X X (sc X) (by assumption)) (sxl_call (some 21) (by first|exact wn_none rfl|exact wn_on rfl rfl rfl) X X (AD X X call59) (p5 A l.length c _) ?_)))))));rintro _ w6 ⟨gb,rfl,hgb1,hgb2,hbb,hf6⟩;refine ⟨_,X,?_⟩;have hf6':=hf5'.trans hf6;have hs6:=hf6.size;have hb6_6:Blk w6 g6 131 [.map (some mp)]:=Blk.fr hb6' hf6 (λhh=>hh);have hM6:Mp w6 mp []:=hM5.fr hf6 (λhh=>hh);refine sxl_nil (qx_seq (sx_block (qP X call112 λfn tm rc htm hget hrc=>?_)));have h6:tm[6]?=some (pg g6):=hget 6 _ X;have hrdJ:∀i w',JF w6 mp l rc i w'→Fr0 w w':=λi w' hJ=>Fr.none_of hf6' hJ.fr hwm
 refine (a0a A c (w6.heap.size+1) gb l (JF w6 mp l rc) hlen (λi w' hJ=>(hbb.fr hJ.fr (by omega)).c 0 X) (λi w' hJ=>hrl.fr0 (hrdJ i w' hJ)) (λi w' hJ=>⟨rc,hJ.rc,by rw [hrc];rfl⟩) ?_ _ ?_).mono ?_
 ·intro i x w' r hx hJ hr;have hrr:r=rc:=by have:=hJ.rc;rw [hr] at this;injection this with this;injection this
  rw [hrr];refine roundIn_of_wpIn (F:=Fence.wide) trivial ?_
  have hfold:((rc.params.zip [Value.int .i64 (i:Int),x.val].toArray).foldl (λtmps (t,a)=>tmps.setIfInBounds t a) rc.tmps)=(tm.setIfInBounds 22 (AA (i:Int))).setIfInBounds 23 x.val:=by
   rw [hrc,←Ge,Hy];rfl
  rw [hfold]
  have a0:Agr [] 53 [(6,pg g6)] { tmps:=tm,defers:=[] }:=⟨htm,X,λk v hk=>by
   unfold Env.get at hk
   cases hb:Nat.beq 6 k with
   | true=>
    rw [hb] at hk
    injection hk with hk
    have:=Ce hb
    subst this;rw [←hk];exact h6
   | false=>rw [hb] at hk;cases hk⟩
  have hs':=hJ.fr.size;have hasg:rc.assign=(WG w6 fn tm rc.params rc.assign rc.body).assign:=X;have hcode:=hrc;rw [show rc.assign=_ from Ay Loop.assign hrc,show rc.body=_ from Ay Loop.body hrc];simp only [WG];refine Sx.run (rd:=some (w6.heap.size+1)) (D:=[]) (n:=53) (e:=[(23,x.val),(22,AA (i:Int)),(6,pg g6)]) ?_ _ ((a0.put (d:=22) (by omega) (AA (i:Int))).put (d:=23) (by omega) x.val);refine sx_region (sxl_does (some 8) (wn_none X) X X (λρ hρ=>BN 63 X _ _ TP X) ?_);rintro _ v1 ⟨g8,rfl,h8a,h8b,hb8,hf8⟩;refine sxl_does none (wn_none X) X X (λρ hρ=>BK 63 (.tmp 8) (.tmp 23) X g8 0 63 _ x.cells (hρ _ _ X) (hρ _ _ X) hb8 L0 (by show 0+5≤5;omega) (Bd.cells_one _)) ?_;rintro _ v2 ⟨rfl,hb8',hf8'⟩;rw [HA zeroBd.cells x.cells rfl] at hb8'
  have hfa:Fr0 w' v2:=hf8.step hf8' (λk hk e=>by omega);have hrc2:v2.heap[w6.heap.size+1]?=some (.loop rc):=(hfa.block _ (An.1 hJ.rc).1 (λhh=>hh)).trans hJ.rc;have hrlt:=(An.1 hJ.rc).1;have hsa:=hfa.size;have hready:rc.state=.ready:=by rw [hrc];rfl
  refine sxl_nil (.mk λa1 ha1=>⟨_,run_beginRound hrc2 hready,Sx.run (rd:=some (w6.heap.size+1)) ?_ a1 ha1⟩);obtain ⟨v3,hv3⟩:∃v3,v2.putObj (w6.heap.size+1) (.loop { rc with state:=.busy })=v3:=⟨_,X⟩
  rw [hv3];have hfr2:Fr (λk=>k=mp) w6 v2:=hJ.fr.step hfa (λk hk hh=>hh.elim);have hfr3:Fr (λk=>k=mp) w6 v3:=by rw [←hv3];exact hfr2.putObj _ (by omega)
  have hM3:Mp v3 mp (JX (l.drop (i+1))):=by rw [←hv3];exact (hJ.mp.fr hfa (λhh=>hh)).putObj _ (by omega)
  have hb8_3:Blk v3 g8 63 x.cells:=by rw [←hv3];exact hb8'.putObj _ (by omega)
  have hs3':v3.heap.size=v2.heap.size:=by rw [←hv3];exact World.putObj_size
  have hrc3:v3.heap[w6.heap.size+1]?=some (.loop { rc with state:=.busy }):=by rw [←hv3];exact World.putObj_heap_same (by omega)
  have hdf3:v3.heap[w6.heap.size]?=some (.deferred (some [])):=by rw [←hv3];exact (World.putObj_heap_other (by omega)).trans ((hfa.block _ (by omega) (λhh=>hh)).trans hJ.df)
  have c6:Cell v3.heap g6 0 (.map (some mp)):=(hb6_6.fr hfr3 hne6).c 0 X;have el:=OU hb8_3;have e0:=el.name;have e1:=el.kind;refine sx_block (sx_region (sxl_y (wn_none X) X X (B2 X X (sc X) (by assumption)) (sxl_y (wn_none X) X X (yp X) (sxl_y (wn_none X) X X (B2 X X (sc X) (by assumption)) (sxl_y (wn_none X) X X (yp X) (sxl_y (wn_none X) X X (yp X) (sxl_y (wn_none X) X X (B2 X X (sc X) (by assumption)) (sxl_does none (wn_none X) X X (λρ hρ=>GF (v:=.int .u8 (x.v.kind.toNat:Int)) X (hρ _ _ X) (hρ _ _ X) (hρ _ _ X) Hj Aa hM3) ?_))))))));rintro _ v4 ⟨rfl,hf9,hM4⟩;have hs9:=hf9.size;have hrc4:v4.heap[w6.heap.size+1]?=some (.loop { rc with state:=.busy }):=(hf9.block _ (by omega) (by omega)).trans hrc3;have hdf4:v4.heap[w6.heap.size]?=some (.deferred (some [])):=(hf9.block _ (by omega) (by omega)).trans hdf3;refine sxl_nil (qx_block_normal (.mk λa2 _=>⟨_,_,run_endRound none hrc4,X,?_⟩));have hback:({ ({ rc with state:=LoopState.busy }:Loop) with state:=if (none:Option Code).isNone then LoopState.ready else LoopState.done,pending:=none }:Loop)=rc:=by rw [hrc];rfl
  rw [hback];refine ⟨(hfr3.step hf9 (λk hk e=>e)).putObj _ (by omega),?_,World.putObj_heap_same (by omega),(World.putObj_heap_other (by omega)).trans hdf4⟩;rw [V9 hx];exact hM4.putObj _ (by omega)
 ·have e1:(w6.alloc (.deferred (some []))).heap.size=w6.heap.size+1:=World.size_alloc _ _;refine ⟨(Fr.refl.alloc _).alloc _,?_,?_,?_⟩
  ·rw [Am];exact hM6.fr ((Fr.refl.alloc _).alloc _:Fr0 w6 _) (λhh=>hh)
  ·have:=World.alloc_heap_new (w6.alloc (.deferred (some []))) (.loop rc)
   rw [e1] at this;exact this
  rw [TR _ _ (by rw [e1];omega)];exact World.alloc_heap_new _ _
 rintro _ w8 ⟨rfl,hJ⟩;have hs8:=hJ.fr.size;have hrlt:=(An.1 hJ.rc).1;refine ⟨_,rc,X,hJ.rc,(by rw [hrc];intro h;cases h),(by rw [hrc];rfl),?_⟩;obtain ⟨w9,hw9⟩:∃w9,w8.putObj (w6.heap.size+1) (.loop { rc with state:=.exhausted })=w9:=⟨_,X⟩
 rw [hw9];have hf9:Fr0 w w9:=by rw [←hw9];exact (hrdJ _ _ hJ).putObj _ (by omega)
 have hM9:Mp w9 mp (JX l):=by rw [←hw9];exact hJ.mp.putObj _ (by omega)
 have hb6_9:Blk w9 g6 131 [.map (some mp)]:=by rw [←hw9];exact (hb6_6.fr hJ.fr hne6).putObj _ (by omega)
 have hdf9:w9.heap[w6.heap.size]?=some (.deferred (some [])):=by rw [←hw9];exact (World.putObj_heap_other (by omega)).trans hJ.df
 refine qx_block_normal (qx_seq (sx_seq (sx_seq (sx_region (sxl_y (wn_none X) X X (yp X) (sxl_y (wn_none X) X X (I7 X X (sl X)) (sxl_y (wn_none X) X X (yp X) (sxl_nil (qx_seq (sx_block (sx_loop (e0:=[(32,AA 0),(31,AA (p.length:Int)),(30,.slice B p.length cp),(6,pg g6)]) (λe wr m=>∃(i:Nat),e=[(32,AA (i:Int)),(31,AA (p.length:Int)),(30,.slice B p.length cp),(6,pg g6)]∧Fr0 w9 wr∧i≤p.length∧G6 l p=G6 l (p.drop i)∧m=p.length-i) ⟨0,X,Fr.refl,Ae _,X,X⟩ ⟨X,X,X,X,trivial⟩ ?_)))))))))));rintro _ wr _ ⟨i,rfl,hfr,hi,hfit,rfl⟩;have hlt9:=(An.1 hdf9).1;have hdfr:wr.heap[w6.heap.size]?=some (.deferred (some [])):=(hfr.block _ hlt9 (λhh=>hh)).trans hdf9
 have done:∀wx,Fr0 wr wx→Fr0 w (wx.putObj w6.heap.size (.deferred none))∧wx.heap[w6.heap.size]?=some (.deferred (some [])):=λwx hx=>
  ⟨((hf9.trans hfr).trans hx).putObj _ (by omega),(hx.block _ (An.1 hdfr).1 (λhh=>hh)).trans hdfr⟩
 by_cases hlt:i<p.length
 ·obtain ⟨x,hx⟩:∃x,p[i]?=some x:=⟨_,Ao hlt⟩
  obtain ⟨b,off,rfl,el⟩:=OZ (hrp.fr0 (hf9.trans hfr)) hx;rw [V9 hx,G6] at hfit
  refine sx_seq (sx_region (sxl_y (wn_none X) X X (D4 X X X (by omega)) (sxl_nil (qx_seq (sx_seq (sx_true X (sx_skip (qx_seq (sx_seq (sx_block (sx_seq (sx_region (sxl_y (wn_none X) X X (HG X X X (sl X) (by omega)) (sxl_y (wn_none X) X X (AI X X el.all Dj X L0) (sxl_does (some 10) (wn_none X) X X (λρ hρ=>BN 63 X _ _ TP X) ?_)))))))))))))));rintro _ v1 ⟨g10,rfl,h8a,h8b,hb8,hf8⟩;refine sxl_does none (wn_none X) X X (λρ hρ=>BK 63 (.tmp 10) (.tmp 35) X g10 0 63 _ x.cells (hρ _ _ X) (hρ _ _ X) hb8 L0 (by show 0+5≤5;omega) (Bd.cells_one _)) ?_;rintro _ v2 ⟨rfl,hb8',hf8'⟩;rw [HA zeroBd.cells x.cells rfl] at hb8'
  have hfa:Fr0 wr v2:=hf8.step hf8' (λk hk e=>by omega);obtain ⟨hdone,hdfx⟩:=done v2 hfa;have hM2:Mp v2 mp (JX l):=(hM9.fr hfr (λhh=>hh)).fr hfa (λhh=>hh);have c6:Cell v2.heap g6 0 (.map (some mp)):=(Blk.fr (Blk.fr hb6_9 hfr (λhh=>hh)) hfa (λhh=>hh)).c 0 X;have el2:=OU hb8';have e0:=el2.name;have e1:=el2.kind;have hmg:=WU x.name l
  cases hfb:EK l x.name with
  | none=>
   rw [hfb] at hfit hmg
   refine sxl_nil (qx_seq (sx_seq (sx_region (sxl_y (wn_none X) X X (B2 X X (sc X) (by assumption)) (sxl_y (wn_none X) X X (yp X) (sxl_y (wn_none X) X X (B2 X X (sc X) (by assumption)) (sxl_y (wn_none X) X X (SI X X X Hj Aa aG hM2 hmg) ?_)))))));iterate 5 refine sxl_y (wn_none X) X X (yp X) ?_
   refine sxl_nil (qx_seq (sx_block (sx_seq (sx_region (sxl_y (wn_none X) X X (yp X) (sxl_y (wn_none X) X X (yp X) (sxl_y (wn_none X) X X (yp X) (sxl_nil (qx_seq (sx_true X (sx_seq (sx_region (sxl_y (wn_none X) X X (yp X) (sxl_nil (qx_seq ?_)))))))))))))));exact sx_ret (qx_block_ret (qx_block_ret (qx_then_ret (qx_then_ret (qx_block_ret (qx_then_ret (V5 X X hdfx ⟨by rw [hres,hfit],hdone⟩)))))))
  | some u=>
   rw [hfb] at hfit hmg
   have hfit:G6 l p=if u.kind=x.v.kind then G6 l (p.drop (i+1)) else 90:=hfit
   by_cases hk:u.kind=x.v.kind
   ·have hk':(u.kind.toNat:Int)=x.v.kind.toNat:=by rw [hk]
    rw [if_pos hk] at hfit
    refine sxl_nil (qx_seq (sx_seq (sx_region (sxl_y (wn_none X) X X (B2 X X (sc X) (by assumption)) (sxl_y (wn_none X) X X (yp X) (sxl_y (wn_none X) X X (B2 X X (sc X) (by assumption)) (sxl_y (wn_none X) X X (SI X X X Hj Aa aG hM2 hmg) ?_)))))));iterate 5 refine sxl_y (wn_none X) X X (yp X) ?_
    refine sxl_nil (qx_seq (sx_block (sx_seq (sx_region (sxl_y (wn_none X) X X (yp X) (sxl_y (wn_none X) X X (yp X) (sxl_y (wn_none X) X X (yp X) (sxl_nil (qx_seq (sx_false X (sx_seq (sx_region (sxl_y (wn_none X) X X (yp X) (sxl_y (wn_none X) X X (yp X) (sxl_y (wn_none X) X X (yp X) ?_)))))))))))))));exact sxl_y (wn_none X) X X (B2 X X (sc X) (by assumption)) (sxl_y (wn_none X) X X (UV X X X (by omega)) (sxl_y (wn_none X) X X (yp X) (sxl_nil (qx_seq (sx_false X (sx_skip (qx_block_normal (qx_block_normal (qx_seq (sx_region (sxl_y (wn_none X) X X (FS X X X (by omega)) (sxl_y (wn_none X) X X (yp X) (sxl_nil (qx_again [(32,AA ((i+1:Nat):Int)),(31,AA (p.length:Int)),(30,.slice (some ⟨b,off,none⟩) p.length cp),(6,pg g6)] (p.length-(i+1)) ⟨i+1,X,hfr.trans hfa,by omega,hfit,rfl⟩ (by omega) ⟨X,X,X,X,trivial⟩))))))))))))))
   have hk':(u.kind.toNat:Int)≠x.v.kind.toNat:=λe=>hk (j9 e)
   rw [if_neg hk] at hfit
   refine sxl_nil (qx_seq (sx_seq (sx_region (sxl_y (wn_none X) X X (B2 X X (sc X) (by assumption)) (sxl_y (wn_none X) X X (yp X) (sxl_y (wn_none X) X X (B2 X X (sc X) (by assumption)) (sxl_y (wn_none X) X X (SI X X X Hj Aa aG hM2 hmg) ?_)))))));iterate 5 refine sxl_y (wn_none X) X X (yp X) ?_
   refine sxl_nil (qx_seq (sx_block (sx_seq (sx_region (sxl_y (wn_none X) X X (yp X) (sxl_y (wn_none X) X X (yp X) (sxl_y (wn_none X) X X (yp X) (sxl_nil (qx_seq (sx_false X (sx_seq (sx_region (sxl_y (wn_none X) X X (yp X) (sxl_y (wn_none X) X X (yp X) (sxl_y (wn_none X) X X (yp X) ?_)))))))))))))));refine sxl_y (wn_none X) X X (B2 X X (sc X) (by assumption)) (sxl_y (wn_none X) X X (UU X X X (by omega)) (sxl_y (wn_none X) X X (yp X) (sxl_nil (qx_seq (sx_true X (sx_seq (sx_region (sxl_y (wn_none X) X X (yp X) (sxl_nil (qx_seq (sx_ret (qx_block_ret (qx_block_ret (qx_then_ret (qx_then_ret ?_)))))))))))))));exact qx_block_ret (qx_then_ret (V5 X X hdfx ⟨by rw [hres,hfit],hdone⟩))
 obtain rfl:i=p.length:=by omega
 rw [Am] at hfit
 obtain ⟨hdone,hdfx⟩:=done wr Fr.refl;refine sx_seq (sx_region (sxl_y (wn_none X) X X (DD X X X (by omega)) (sxl_nil (qx_seq (sx_seq (sx_false X (sx_exit (qx_then_exit (qx_then_exit (qx_block_hit (qx_seq (sx_seq (sx_region (sxl_y (wn_none X) X X (yp X) (sxl_nil ?_)))))))))))))));exact qx_seq (sx_ret (V5 X X hdfx ⟨by rw [hres,hfit];rfl,hdone⟩))
end Sf
section
structure Mq where
 nm:Kz
 key:Kz
 vars:List Bd
 V:Ky
 vc:Nat
 un:Int
def Mq.cells (q:Mq):Kx:=[str q.nm,str q.key,.slice q.V q.vars.length q.vc,.int .i64 q.un]
structure MqOk (w:Kw) (q:Mq):Prop where
 V:Rd w q.V (q.vars.length*5) (AE Bd.cells q.vars)
 ok:BdOk q.vars
theorem MqOk.fr0 {w w':Kw} {q:Mq} (h:MqOk w q) (hf:Fr0 w w'):MqOk w' q:=⟨h.V.fr0 hf,h.ok⟩
def N2 (q:Mq) (x:Pa) (wt:Wt):Bool:=((decide ((wt.ev.toNat:Int)=(2:Int))&&decide (wt.nm=q.nm))&&decide (wt.key=q.key))&&decide (I5 x.m.vars q.vars=(0:Int))
def PZ (nm:Kz) (wt:Wt):Bool:=decide ((wt.ev.toNat:Int)=(3:Int))&&decide (wt.nm=nm)
theorem t6 (m:Md) (gc:Nat) (c:CrA) (F:List Nat) (w:Kw) (ho:MdOk m) (hC:CourseN w m gc c F) :
 Calls prog 28 #[pg gc] w λe w'=>∃a' F0,e=.returned (.agg (Md.cells m a').toArray)∧MdN w' m a' F0∧(∀g∈F0,w.heap.size≤g∧g<w'.heap.size)∧Fr0 w w':=by
 refine BR func28 ntmps28 X λM=>W ?_
 refine CI M X zr_api_Model λg2 w1 hg2 M=>W ?_
 refine ya X (MO X X X (pt X)) (W ?_);refine ya X (AI (xs:=[str m.id,str m.nm,.slice c.a.V m.vars.length c.a.vc,.slice c.a.E m.els.length c.a.ec,.slice c.a.F m.fls.length c.a.fc]) X X (DR ((hC.fr0 M.fr).blk) 0 5 X X) Al X AN) (cl 10 X (AD X X call43) (kM m c.a _ ho ((hC.fr0 M.fr).md.md)) ?_);rintro _ w2 ⟨a',F0,rfl,hmd,hnw,hfw2⟩;refine cq ?_;have M:=M.push hfw2 (As.mdp m a' F0) hmd hnw;refine BY M 1 X X AN X λw3 M=>W ?_
 exact CT X X (M.rdBlk 1 X X) Al X AN ⟨a',F0,X,M.mdN 0 X,M.new0 0 X,M.fr⟩
theorem yX {x:Pa} {w:Kw} (hx:PaOk w x) (hr:runP x=true) :
 Calls prog 28 #[.pointer x.p] w λe w'=>∃a' F0,e=.returned (.agg (Md.cells x.m a').toArray)∧MdN w' x.m a' F0∧(∀g∈F0,w.heap.size≤g∧g<w'.heap.size)∧Fr0 w w':=by
 obtain ⟨gc,h,hC,hn,ho⟩:=OD hx hr;rw [h];exact t6 x.m gc x.c x.F w ho hC
theorem lT (A:Ky) (cp n:Nat) (fa:FuncId) (gm:Nat) (w:Kw) :
 Calls prog 25 #[.slice A n cp,.func (.func fa) #[] #[pg gm]] w λe w'=>∃gl ga,e=.returned (.func (.func 54) #[] #[pg gl,pg ga])∧Blk w' gl 27 [.slice A n cp]∧Blk w' ga 87 [.func (.func fa) #[] #[pg gm]]∧(w.heap.size≤gl∧gl<w'.heap.size)∧(w.heap.size≤ga∧ga<w'.heap.size)∧Fr0 w w':=by
 refine BR func25 ntmps25 X λM=>W ?_
 refine DG M kw X X 27 X X ([.slice A n cp]) X λg2 w1 hg2 M=>DG M kw X X 87 X X ([.func (.func fa) #[] #[pg gm]]) X λg3 w2 hg3 M=>W ?_
 refine ya X (CY (us:=[]) (vs:=[pg g2,pg g3]) X X X) (W ?_);exact gr1 X ⟨_,_,X,M.blk 1 X,M.blk 0 X,M.new0 1 X _ (by simp [As.blk]),M.new0 0 X _ (by simp [As.blk]),M.fr⟩
theorem oN (gm:Nat) (q:Mq) (x:Pa) (wt:Wt) (w:Kw) (hbm:Blk w gm 25 q.cells) (hx:PaOk w x) (hrun:runP x=true) (hq:MqOk w q) (hY:Lay0 w) :
 Calls prog 26 #[.agg (Pa.cells x).toArray,.agg (Wt.cells wt).toArray,pg gm] w (BS w (.bool (N2 q x wt))):=by
 obtain ⟨gc,hpp,hC,hnk,hmo⟩:=OD hx hrun;refine BR func26 ntmps26 X λM=>W ?_
 refine CO M X X λg3 w1 hg3 M=>CO M X X λg4 w2 hg4 M=>W ?_
 refine J2 M 27 CA λM=>oc 0 27 X X M (ol 1 27 X X X M (λ_ M=>(M.cell 0 X X)) (oa 2 27 X X M (λ_ M=>ES X X X) (oc 3 27 X X M (C8 (d:=9) X (λh9=>?_) (λh9=>?_)))))
 ·refine ob 4 27 X kw X X M (λ_ M=>yp X) (ob 5 27 X kw X X M (λ_ M=>B2 X X (sc X) (M.cell 0 X X)) (ob 6 27 X kw X X M (λ_ M=>yp X) (ob 7 27 X kw X X M (λ_ M=>B2 X X (sc X) (Blk.c (hbm.fr0 M.fr) 0 X)) (ob 8 27 X kw X X M (λ_ M=>GI X X X) (oc 9 27 X X M (oc 10 27 X X M (C8 (d:=16) X (λh16=>?_) (λh16=>?_))))))))
  ·refine ob 11 27 X kw X X M (λ_ M=>yp X) (ob 12 27 X kw X X M (λ_ M=>B2 X X (sc X) (M.cell 0 X X)) (ob 13 27 X kw X X M (λ_ M=>yp X) (ob 14 27 X kw X X M (λ_ M=>B2 X X (sc X) (Blk.c (hbm.fr0 M.fr) 1 X)) (ob 15 27 X kw X X M (λ_ M=>GI X X X) (oc 16 27 X X M (oc 17 27 X X M (C8 (d:=23) X (λh23=>?_) (λh23=>?_))))))))
   ·refine ob 18 27 X kw X X M (λ_ M=>yp X) (ob 19 27 X kw X X M (λ_ M=>B2 X X (sc X) (M.cell 1 X X)) (ob 21 27 X kw X X M (λ_ M=>yp X) (ob 22 27 X kw X X M (λ_ M=>B2 X X (sc X) (Blk.c (hbm.fr0 M.fr) 2 X)) (BC 20 (some 26) gkr X kw X X (AD X X call28) (yX (hx.fr0 M.fr) hrun) ?_))));rintro _ w3 ⟨a',F0,rfl,hmd,hnw,hfw3⟩;refine ⟨_,X,λ_=>M.step hfw3,?_⟩;have M:=M.push hfw3 (As.mdp x.m a' F0) hmd hnw;refine BC 23 (some 29) gkr X kw X X (AD X X call27) (Sf.fits_ok x.m.id x.m.nm a'.V q.V a'.vc q.vc (.slice a'.E x.m.els.length a'.ec) (.slice a'.F x.m.fls.length a'.fc) x.m.vars q.vars _ hmo.vars hq.ok (M.mdN 0 X).md.vars (hq.V.fr0 M.fr) (hY.fr0 M.fr).utf) ?_;rintro _ w4 ⟨rfl,hfw4⟩;refine ⟨_,X,λ_=>(M.drop 1).step hfw4,?_⟩;have M:=M.step hfw4;refine ob 24 27 X kw X X (M.drop 1) (λ_ M=>ES X X X) (oc 25 27 X X (M.drop 1) (oc 26 27 X X (M.drop 1) (fdn (W ?_))));exact gr1 X ⟨by unfold N2;simp [h9,h16,h23],M.fr⟩
   refine AO 18 27 X M (AO 19 27 X M (AO 20 27 X M (AO 21 27 X M (AO 22 27 X M (AO 23 27 X M (AO 24 27 X M (oc 25 27 X X M (oc 26 27 X X M (fdn (W ?_))))))))));exact gr1 X ⟨by unfold N2;simp [h9,h16,h23],M.fr⟩
  refine AO 11 27 X M (AO 12 27 X M (AO 13 27 X M (AO 14 27 X M (AO 15 27 X M (oc 16 27 X X M (oc 17 27 X X M (AO 18 27 X M (AO 19 27 X M (AO 20 27 X M (AO 21 27 X M (AO 22 27 X M (AO 23 27 X M (AO 24 27 X M (oc 25 27 X X M (oc 26 27 X X M ?_)))))))))))))));refine fdn (W ?_);exact gr1 X ⟨by unfold N2;simp [h9,h16],M.fr⟩
 refine AO 4 27 X M (AO 5 27 X M (AO 6 27 X M (AO 7 27 X M (AO 8 27 X M (oc 9 27 X X M (oc 10 27 X X M (AO 11 27 X M (AO 12 27 X M (AO 13 27 X M (AO 14 27 X M (AO 15 27 X M (oc 16 27 X X M (oc 17 27 X X M (AO 18 27 X M (AO 19 27 X M ?_)))))))))))))));refine AO 20 27 X M (AO 21 27 X M (AO 22 27 X M (AO 23 27 X M (AO 24 27 X M (oc 25 27 X X M (oc 26 27 X X M (fdn (W ?_))))))));exact gr1 X ⟨by unfold N2;simp [h9],M.fr⟩
theorem cQ (gm:Nat) (nm:Kz) (x:Pa) (wt:Wt) (w:Kw) (hbm:Blk w gm 9 [str nm]) :
 Calls prog 30 #[.agg (Pa.cells x).toArray,.agg (Wt.cells wt).toArray,pg gm] w (BS w (.bool (PZ nm wt))):=by
 refine BR func30 ntmps30 X λM=>W ?_
 refine CO M X X λg3 w1 hg3 M=>CO M X X λg4 w2 hg4 M=>W ?_
 refine fvm M 5 [5] [(14,.bool ((decide ((wt.ev.toNat:Int)=3))&&(decide (wt.nm=nm))))] ?_ (λk9=>?_)
 ·intro w3 M;refine W ?_;exact gr1 X ⟨X,M.fr⟩
 refine A1 (d:=9) X (λh9=>?_) (λh9=>?_)
 ·refine T2 ?_;refine ym X X (Blk.c (hbm.fr0 M.fr) 0 X) (T2 ?_);exact k9 M
 refine T5 ?_;exact k9 M
open Go.ChangeShapes Go.WideShapes Go.ChangeAt Go.RowKit Go.Deep Go.Joins
section
theorem XR : prog.cellsOf 50=10:=by kernel_rfl
theorem jO : prog.cellsOf 25=4:=by kernel_rfl
structure Pq where
 m:Md
 a:MdA
 i:In
 V:Ky
 vc:Nat
 T:Ky
 tc:Nat
def Pq.cells (x:Pq):Kx:=Md.cells x.m x.a++In.cells x.i x.V x.T x.vc x.tc
theorem Pq.len (x:Pq):x.cells.length=10:=rfl
structure PqOk (w:Kw) (x:Pq):Prop where
 str:MdStr x.m
 fb:x.m.fls.length*64≤reachBytes
 eb:x.m.els.length≤reachBytes
 tb:x.i.toks.length≤reachBytes
 vb:x.i.vars.length*56≤reachBytes
 md:MdIn w x.m x.a
 bd:BdOk x.i.vars
 wk:∀t∈x.i.toks,(t.worker.length:Int)<4611686018427387904
 V:Rd w x.V (x.i.vars.length*5) (AE Bd.cells x.i.vars)
 T:Rd w x.T (x.i.toks.length*9) (AE Tk.cells x.i.toks)
theorem PqOk.fr0 {w w':Kw} {x:Pq} (h:PqOk w x) (hf:Fr0 w w'):PqOk w' x:=⟨h.str,h.fb,h.eb,h.tb,h.vb,h.md.fr0 hf,h.bd,h.wk,h.V.fr0 hf,h.T.fr0 hf⟩
theorem PqOk.b {w:Kw} {x:Pq} (h:PqOk w x) (hn:x.m.els.length≤300):MdB x.m:=by
 have h1:=h.fb;have h2:=h.str.vars.len;exact ⟨h.str.id,h.str.nm,h.str.vars,by omega,by simp only [reachBytes] at h1;omega,by omega,h.str.els,h.str.fls⟩
section
variable {H:Type} {enc:Ly × Kv→H} {w:Kw}
theorem X8 {t e sz:Nat} {A:Ky} {len cap fuel:Nat} {x:DataW H × List MemPlace} (ht:prog.underlying t=some (.slice e)) (hc:prog.cellsOf e=sz) (hpos:0<sz) (h:DataW.trod enc prog w 0 (λ_=>true) true fuel t [.slice A len cap]=some x) (hz:Sized prog t x.1):len*prog.bytesOf e≤reachBytes:=by
 obtain ⟨rows,D,hl,hD,_,hr,_,_,hn,hx,hd⟩:=MU ht hc hpos h;rcases hd with ⟨_,h0,_⟩|⟨sp,hs,_⟩
 ·rw [h0,Fi];exact Ae _
 rw [hs] at hz
 have h1:=hz ((D.length+sp.length)*prog.bytesOf e) (by simp [DataW.weights,ht]);rw [hD] at h1
 exact Bb (Ds _ (Cu _ _)) h1
theorem vL : prog.bytesOf 63=56:=by kernel_rfl
theorem vJ : prog.bytesOf 110=64:=by kernel_rfl
theorem vI : (1≤prog.bytesOf 50)=True:=eq_true (by decide +kernel)
theorem vK : (1≤prog.bytesOf 106)=True:=eq_true (by decide +kernel)
theorem vH : (1≤prog.bytesOf 75)=True:=eq_true (by decide +kernel)
theorem tD {n b c:Nat} (h:n*b≤c) (hb:1≤b):n≤c:=Bb (Gk _ hb) h
theorem xO {cs:Kx} {fuel:Nat} {d:DataW H} {p:List MemPlace} (hsz:cs.length=5) (hf:DataW.trod enc prog w 0 (λ_=>true) true fuel 48 cs=some (d,p)) (hz:Sized prog 48 d) :
 ∃(m:Md) (a:MdA),cs=Md.cells m a∧MdStr m∧MdIn w m a∧m.fls.length*64≤reachBytes∧m.els.length≤reachBytes:=by
 obtain ⟨xs,n,_,hx,hl,hlen,hfl⟩:=DataW.trod_struct Al hf
 match cs,hsz with
 | [c0,c1,c2,c3,c4],_=>
 match xs,hlen with
 | [y0,y1,y2,y3,y4],_=>
  have k0:DataW.trod enc prog w 0 (λ_=>true) true n 9 (List.take (prog.cellsOf 9) [c0,c1,c2,c3,c4])=some y0:=hfl 0 _ X;have k1:DataW.trod enc prog w 0 (λ_=>true) true n 9 (List.take (prog.cellsOf 9) [c1,c2,c3,c4])=some y1:=hfl 1 _ X;have k2:DataW.trod enc prog w 0 (λ_=>true) true n 23 (List.take (prog.cellsOf 23) [c2,c3,c4])=some y2:=hfl 2 _ X;have k3:DataW.trod enc prog w 0 (λ_=>true) true n 45 (List.take (prog.cellsOf 45) [c3,c4])=some y3:=hfl 3 _ X;have k4:DataW.trod enc prog w 0 (λ_=>true) true n 46 (List.take (prog.cellsOf 46) [c4])=some y4:=hfl 4 _ X;rw [DM] at k0 k1
  rw [OR] at k2
  rw [p3] at k3
  rw [oY] at k4
  injection hx with hx1 hx2
  rw [hx1] at hz
  obtain ⟨s0,e0,d0,_⟩:=DataW.trod_string Aa k0;obtain ⟨s1,e1,d1,_⟩:=DataW.trod_string Aa k1;obtain rfl:c0=_:=by simpa using e0
  obtain rfl:c1=_:=by simpa using e1
  have z0:=Sized.field (j:=0) Al hz X X;have z1:=Sized.field (j:=1) Al hz X X;have z2:=Sized.field (j:=2) Al hz X X;have z3:=Sized.field (j:=3) Al hz X X;have z4:=Sized.field (j:=4) Al hz X X;rw [d0] at z0
  rw [d1] at z1
  obtain ⟨V,vn,vc,rfl⟩:=MR Eb k2;obtain ⟨E,en,ec,rfl⟩:=MR Fh k3;obtain ⟨F,fn,fc,rfl⟩:=MR Dz k4;obtain ⟨lv,rfl,hbv,hrv⟩:=X9 k2 z2;obtain ⟨le,rfl,hbe,hre⟩:=a1N k3 z3;have hfb:=X8 Dz XT A0 k4 z4;rw [vJ] at hfb
  have heb:=tD (X8 Fh XU A0 k3 z3) (of_eq_true vK);obtain ⟨lf,rfl,hbf,hrf⟩:=a1M k4 z4;have hlt:=WH;have t0:s0.data.toList.length≤reachBytes:=z0.text;have t1:s1.data.toList.length≤reachBytes:=z1.text;refine ⟨⟨s0.data.toList,s1.data.toList,lv,le,lf⟩,⟨V,vc,E,ec,F,fc⟩,X,⟨by simp only;omega,by simp only;omega,hbv,λx hx=>?_,λx hx=>?_⟩,⟨hrv,hre,hrf⟩,hfb,heb⟩
  ·obtain ⟨h1,h2,h3,h4,h5,h6,h7⟩:=hbe x hx
   constructor<;>omega
  obtain ⟨h1,h2,h3,h4⟩:=hbf x hx
  constructor<;>omega
theorem xP {cs:Kx} {fuel:Nat} {d:DataW H} {p:List MemPlace} (hsz:cs.length=5) (hf:DataW.trod enc prog w 0 (λ_=>true) true fuel 42 cs=some (d,p)) (hz:Sized prog 42 d) :
 ∃(i:In) (V T:Ky) (vc tc:Nat),cs=In.cells i V T vc tc∧BdOk i.vars∧(∀t∈i.toks,(t.worker.length:Int)<4611686018427387904)∧Rd w V (i.vars.length*5) (AE Bd.cells i.vars)∧Rd w T (i.toks.length*9) (AE Tk.cells i.toks)∧i.toks.length≤reachBytes∧i.vars.length*56≤reachBytes:=by
 obtain ⟨xs,n,_,hx,hl,hlen,hfl⟩:=DataW.trod_struct Ea hf
 match cs,hsz with
 | [c0,c1,c2,c3,c4],_=>
 match xs,hlen with
 | [y0,y1,y2,y3,y4],_=>
  have k0:DataW.trod enc prog w 0 (λ_=>true) true n 3 (List.take (prog.cellsOf 3) [c0,c1,c2,c3,c4])=some y0:=hfl 0 _ X;rw [J1] at k0
  obtain ⟨a0,e0,_⟩:=DataW.trod_int Bg k0;obtain rfl:c0=_:=by simpa using e0
  have k1:DataW.trod enc prog w 0 (λ_=>true) true n 9 (List.take (prog.cellsOf 9) [c1,c2,c3,c4])=some y1:=hfl 1 _ X;rw [DM] at k1
  obtain ⟨s1,e1,_,_⟩:=DataW.trod_string Aa k1;obtain rfl:c1=_:=by simpa using e1
  have k2:DataW.trod enc prog w 0 (λ_=>true) true n 5 (List.take (prog.cellsOf 5) [c2,c3,c4])=some y2:=hfl 2 _ X;rw [vG] at k2
  obtain ⟨a2,e2,_,w2⟩:=DataW.trod_int Bi k2;obtain rfl:c2=_:=by simpa using e2
  have k3:DataW.trod enc prog w 0 (λ_=>true) true n 23 (List.take (prog.cellsOf 23) [c3,c4])=some y3:=hfl 3 _ X;have k4:DataW.trod enc prog w 0 (λ_=>true) true n 40 (List.take (prog.cellsOf 40) [c4])=some y4:=hfl 4 _ X;rw [OR] at k3
  rw [jN] at k4
  injection hx with hx1 hx2
  rw [hx1] at hz
  have z3:=Sized.field (j:=3) Ea hz X X;have z4:=Sized.field (j:=4) Ea hz X X;obtain ⟨V,vn,vc,rfl⟩:=MR Eb k3;obtain ⟨T,tn,tc,rfl⟩:=MR Gl k4;have hvb:=X8 Eb QP A0 k3 z3;rw [vL] at hvb
  obtain ⟨lv,rfl,hbv,hrv⟩:=X9 k3 z3;have htb:=tD (X8 Gl XQ A0 k4 z4) (of_eq_true vH);obtain ⟨lt,rfl,hbt,hrt⟩:=zL k4 z4;have hlt:=WH;refine ⟨⟨a0,s1.data.toList,UInt8.ofNat a2.toNat,lv,lt⟩,V,T,vc,tc,by rw [cT w2];rfl,hbv,λt ht=>?_,hrv,hrt,htb,hvb⟩
  have:=(hbt t ht).2.2
  omega
theorem xN {cs:Kx} {fuel:Nat} {d:DataW H} {p:List MemPlace} (hsz:cs.length=4) (hf:DataW.trod enc prog w 0 (λ_=>true) true fuel 25 cs=some (d,p)) (hz:Sized prog 25 d) :
 ∃q:Mq,cs=q.cells∧MqOk w q:=by
 obtain ⟨xs,n,_,hx,hl,hlen,hfl⟩:=DataW.trod_struct Fx hf
 match cs,hsz with
 | [c0,c1,c2,c3],_=>
 match xs,hlen with
 | [y0,y1,y2,y3],_=>
  have k0:DataW.trod enc prog w 0 (λ_=>true) true n 9 (List.take (prog.cellsOf 9) [c0,c1,c2,c3])=some y0:=hfl 0 _ X;have k1:DataW.trod enc prog w 0 (λ_=>true) true n 9 (List.take (prog.cellsOf 9) [c1,c2,c3])=some y1:=hfl 1 _ X;have k2:DataW.trod enc prog w 0 (λ_=>true) true n 23 (List.take (prog.cellsOf 23) [c2,c3])=some y2:=hfl 2 _ X;have k3:DataW.trod enc prog w 0 (λ_=>true) true n 3 (List.take (prog.cellsOf 3) [c3])=some y3:=hfl 3 _ X;rw [DM] at k0 k1
  rw [OR] at k2
  rw [J1] at k3
  injection hx with hx1 hx2
  rw [hx1] at hz
  obtain ⟨s0,e0,_,_⟩:=DataW.trod_string Aa k0;obtain ⟨s1,e1,_,_⟩:=DataW.trod_string Aa k1;obtain ⟨a3,e3,_⟩:=DataW.trod_int Bg k3;obtain rfl:c0=_:=by simpa using e0
  obtain rfl:c1=_:=by simpa using e1
  obtain rfl:c3=_:=by simpa using e3
  have z2:=Sized.field (j:=2) Fx hz X X;obtain ⟨V,vn,vc,rfl⟩:=MR Eb k2;obtain ⟨lv,rfl,hbv,hrv⟩:=X9 k2 z2;exact ⟨⟨s0.data.toList,s1.data.toList,lv,V,vc,a3⟩,X,hrv,hbv⟩
theorem zM {r:Reach} {b0:Nat} {v:Kv} {d:DataW H} {p:List MemPlace} (hv:Value.okWide prog w r b0 25 v) (h:DataW.Trod enc prog w 0 (λ_=>true) true 25 v d p) (hz:Sized prog 25 d) :
 ∃q:Mq,v=.agg q.cells.toArray∧MqOk w q:=by
 obtain ⟨cs,rfl,hsz⟩:=okWide_struct Fx hv;rw [jO] at hsz
 obtain ⟨fuel,hf⟩:=h;obtain ⟨cs⟩:=cs;obtain ⟨q,rfl,hq⟩:=xN hsz hf hz;exact ⟨q,X,hq⟩
theorem xM {r:Kx} {d:DataW H} (h:ZY enc prog w 50 r d) (hz:Sized prog 50 d):∃x:Pq,r=x.cells∧PqOk w x:=by
 obtain ⟨fuel,p,hf⟩:=h;obtain ⟨xs,n,_,hx,hl,hlen,hfl⟩:=DataW.trod_struct Hn hf;rw [XR] at hl
 match r,hl with
 | [c0,c1,c2,c3,c4,c5,c6,c7,c8,c9],_=>
 match xs,hlen with
 | [y0,y1],_=>
  have k0:DataW.trod enc prog w 0 (λ_=>true) true n 48 (List.take (prog.cellsOf 48) [c0,c1,c2,c3,c4,c5,c6,c7,c8,c9])=some (y0.1,y0.2):=hfl 0 _ X;have k1:DataW.trod enc prog w 0 (λ_=>true) true n 42 (List.take (prog.cellsOf 42) [c5,c6,c7,c8,c9])=some (y1.1,y1.2):=hfl 1 _ X;rw [gD] at k0
  rw [jP] at k1
  injection hx with hx1 hx2
  rw [hx1] at hz
  have z0:=Sized.field (j:=0) Hn hz X X;have z1:=Sized.field (j:=1) Hn hz X X;obtain ⟨m,a,e0,hs,hM,hfb,heb⟩:=xO X k0 z0;obtain ⟨i,V,T,vc,tc,e1,hb,hwk,hV,hT,htb,hvb⟩:=xP X k1 z1;refine ⟨⟨m,a,i,V,vc,T,tc⟩,?_,hs,hfb,heb,htb,hvb,hM,hb,hwk,hV,hT⟩
  show [c0,c1,c2,c3,c4]++[c5,c6,c7,c8,c9]=Md.cells m a++In.cells i V T vc tc
  exact congr (Ay _ e0) e1
theorem a1L {A:Ky} {len cap fuel:Nat} {x:DataW H × List MemPlace} (h:DataW.trod enc prog w 0 (λ_=>true) true fuel 22 [.slice A len cap]=some x) (hz:Sized prog 22 x.1) :
 ∃l:List Pq,l.length=len∧(∀b∈l,PqOk w b)∧Rd w A (l.length*10) (AE Pq.cells l)∧l.length≤reachBytes:=by
 have hln:=tD (X8 Iu XR A0 h hz) (of_eq_true vI);obtain ⟨rows,D,hl,hD,_,hr,_,_,hn,hx,hd⟩:=MU Iu XR A0 h
 have key:∀r∈rows,∃b:Pq,r=b.cells∧PqOk w b:=by
  rcases hd with ⟨_,h0,_⟩|⟨sp,hs,_⟩
  ·have:rows=[]:=Bj A0
   subst this;exact λr hr=>by (cases hr)
  rw [hs] at hz
  intro r hr;obtain ⟨i,hi⟩:=Cd hr;obtain ⟨d,hdi,hrd⟩:=hx i r hi;exact xM hrd (hz.elem Iu (Ac hdi))
 obtain ⟨l,rfl,hq⟩:=N3 Pq.cells (λb=>PqOk w b) rows key;rw [Bp] at hl
 subst hl;exact ⟨l,X,hq,hr,hln⟩
end
end
end
end Go.Proofs.YtppmdnmjepkfaaaGreatDoor
