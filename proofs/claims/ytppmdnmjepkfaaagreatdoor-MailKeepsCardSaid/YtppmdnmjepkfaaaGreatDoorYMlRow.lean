/- Lemmas. -/
import Derived.Test.YtppmdnmjepkfaaaGreatDoorYMl2
set_option maxHeartbeats 16000000
set_option maxRecDepth 100000
namespace Go.Proofs.YtppmdnmjepkfaaaGreatDoor
open Go.RowKit
open Tryz
open Decidable renaming decide→O
open Option renaming some→G,none→zx
open Bool renaming true→zz,false→zy
open True renaming intro→zw
open Go.Proofs.Tryz renaming prog→zv
open Go renaming Calls→zt,reachBytes→zu
section
theorem Fr.putObj {S:Nat→Prop} {w w':Kw} (h:Fr S w w') {lr:Nat} (o:Obj) (hl:w.heap.size≤lr):Fr S w (w'.putObj lr o):=
 ⟨h.os,h.tape,h.output,by rw [World.putObj_size];exact h.size,λk hk hn=>(World.putObj_heap_other A0).trans (h.block k hk hn)⟩
theorem Mp.putObj {w:Kw} {g lr:Nat} {L:List (Kz × Kv)} (h:Mp w g L) (o:Obj) (hne:g≠lr):Mp (w.putObj lr o) g L:=by
 obtain ⟨es,cl,h1,h2⟩:=h;exact ⟨es,cl,(World.putObj_heap_other hne).trans h1,h2⟩
theorem Blk.putObj {w:Kw} {g lr:Nat} {t:Ly} {cs:Kx} (h:Blk w g t cs) (o:Obj) (hne:g≠lr):Blk (w.putObj lr o) g t cs:=(World.putObj_heap_other hne).trans h
theorem qC (A:Ky) (n c:Nat) (w:Kw):zt zv 59 #[.slice A n c] w λe w'=>
 ∃g,e=.returned (.func (.func 112) #[] #[pg g])∧w.heap.size≤g∧g<w'.heap.size∧Blk w' g 23 [.slice A n c]∧Fr0 w w':=by
 refine sx_enter (vs:=[_]) func59 X ntmps59 X (W ?_);refine sxl_does (G 1) kw X X (λρ hρ=>NF 23 (.tmp 0) X [.slice A n c] (by rw [hρ _ _ rfl];rfl)) ?_;rintro _ w1 ⟨g,rfl,hg1,hg2,hb,hf⟩;refine W ?_;refine ya X (D8 (xs:=[]) (ys:=[.tmp 1]) X X X) (W ?_);exact gr1 X ⟨g,X,hg1,hg2,hb,hf⟩
namespace Sf
theorem a0R (A:Ky) (c lr gb:Nat) (l:List Bd) (J:Nat→Kw→Prop) (hlen:(l.length:Int)<4611686018427387904)
 (hcell:∀i w,J i w→Cell w.heap gb 0 (.slice A l.length c)) (hrd:∀i w,J i w→Rd w A (l.length*5) (UR l)) (hrec:∀i w,J i w→∃r,w.heap[lr]?=G (.loop r)∧r.params.size=2)
 (hround:∀i x w r,l[i]?=G x→J (i+1) w→w.heap[lr]?=G (.loop r)→RoundIn Fence.wide 2 zv lr r.fn ((r.params.zip [Value.int .i64 (i:Int),x.val].toArray).foldl (λtmps (t,a)=>tmps.setIfInBounds t a) r.tmps) r.assign r.body w
  (λe w'=>e=.returned (.bool zz)∧J i w')) (w:Kw) (h0:J l.length w) :
 zt zv 112 #[.func (.yield lr) #[] #[],pg gb] w λe w'=>e=.returned (.tuple #[])∧J 0 w':=by
 refine sx_enter (vs:=[_,_]) func112 X ntmps112 X ?_;have c0:=hcell _ _ h0;refine sx_seq (sx_region (sxl_y (wn_none X) X X (B3 X X (sc X) (by assumption)) (sxl_y (wn_none X) X X (I8 X X (sl X)) (sxl_y (wn_none X) X X (N3 X X X A0) (sxl_y (wn_none X) X X (yp X) (sxl_nil (qx_seq (sx_block (sx_loop (e0:=[(3,AA ((l.length:Int)-1)),(0,.func (.yield lr) #[] #[]),(1,pg gb)]) (λe wr m=>∃(j:Nat),e=[(3,AA ((j:Int)-1)),(0,.func (.yield lr) #[] #[]),(1,pg gb)]∧J j wr∧j≤l.length∧m=j) ⟨l.length,X,h0,Af _,X⟩ ⟨X,X,X,zw⟩ ?_)))))))));rintro _ wr m ⟨j,rfl,hJ,hj,hm⟩
 by_cases hj0:j=0
 ·subst hj0;exact sx_seq (sx_seq (sx_region (sxl_y (wn_none X) X X (yp X) (sxl_y (wn_none X) X X (C6 X X X A0) (sxl_nil (qx_seq (sx_false X (sx_exit (qx_then_exit (qx_then_exit (qx_block_hit (qx_ret0 (Or.inr X) X ⟨X,hJ⟩))))))))))))
 obtain ⟨i,rfl⟩:∃i,j=i+1:=⟨j-1,A0⟩
 rw [show (((i+1:Nat):Int)-1)=(i:Int) by omega];have c1:=hcell _ _ hJ;obtain ⟨x,hx⟩:∃x,l[i]?=G x:=⟨_,Av A0⟩
 obtain ⟨b,off,rfl,el⟩:=PH (hrd _ _ hJ) hx;obtain ⟨r,hr,hps⟩:=hrec _ _ hJ;refine sx_seq (sx_seq (sx_region (sxl_y (wn_none X) X X (yp X) (sxl_y (wn_none X) X X (DJ X X X A0) (sxl_nil (qx_seq (sx_true X (sx_skip (qx_seq (sx_seq (sx_block (sx_seq (sx_region (sxl_y (wn_none X) X X (yp X) (sxl_y (wn_none X) X X (yp X) ?_)))))))))))))));refine sxl_y (wn_none X) X X (B3 X X (sc X) (by assumption)) (sxl_y (wn_none X) X X (yp X) (sxl_y (wn_none X) X X (HM X X X (sl X) A0) (sxl_y (wn_none X) X X (AJ X X el.all Dt X LD) (sxl_round (G 17) (wn_none X) X X X X X hr (by rw [hps];rfl) (hround i x _ r hx hJ hr) ?_))));rintro _ w2 ⟨rfl,hJ2⟩;exact ⟨_,X,sxl_y (wn_none X) X X (yp X) (sxl_nil (qx_seq (sx_false X (sx_skip (qx_block_normal (qx_seq (sx_region (sxl_y (wn_none X) X X (yp X) (sxl_y (wn_none X) X X (N3 X X X A0) (sxl_y (wn_none X) X X (yp X) (sxl_nil (qx_again [(3,AA ((i:Int)-1)),(0,.func (.yield lr) #[] #[]),(1,pg gb)] i ⟨i,X,hJ2,A0,rfl⟩ A0 ⟨X,X,X,zw⟩))))))))))))⟩
end Sf
def ID (l:List Bd):List Kz:=l.map (·.name)
def FF : List Kz→List Bd→Int
 | _,[]=>0
 | seen,x::r=>if (B5 x.name&&vOk x.v)=zy then 1 else if x.name∈seen then 6 else FF (seen++[x.name]) r
theorem O0 {l:List Bd} {i:Nat} {x:Bd} (hx:l[i]?=G x):ID (l.take (i+1))=ID (l.take i)++[x.name]:=by
 unfold ID;rw [Dl,hx]
 simp
theorem ZI (A:Ky) (c:Nat) (l:List Bd) (w:Kw) (hl:BdOk l) (hr:Rd w A (l.length*5) (UR l)) :
 zt zv 36 #[.slice A l.length c] w (BR w (AA (FF [] l))):=by
 have hlen:=hl.len;refine sx_enter (vs:=[_]) func36 X ntmps36 X (V ?_);refine sx_loop (e0:=[(3,AA 0),(0,.slice A l.length c)]) (λe wr m=>∃(i:Nat),e=[(3,AA (i:Int)),(0,.slice A l.length c)]∧Fr0 w wr∧i≤l.length∧FF [] l=FF (ID (l.take i)) (l.drop i)∧m=l.length-i) ⟨0,X,Fr.refl,Aj _,X,X⟩ ⟨X,X,zw⟩ ?_;rintro _ wr _ ⟨i,rfl,hf,hi,hcb,rfl⟩
 by_cases hlt:i<l.length
 ·obtain ⟨x,hx⟩:∃x,l[i]?=G x:=⟨_,Av hlt⟩
  have hxl:x∈l:=Ah hx;obtain ⟨b,off,rfl,el⟩:=PH (hr.fr0 hf) hx;have e0:=el.name;rw [VP hx,FF] at hcb
  refine V ?_;refine SF X X (ya X (DC X X X A0) (V ?_));refine ya X (HM X X X (sl X) A0) (yb X (yl X X (by assumption) (sxl_call (G 16) (by first|exact wn_none rfl|exact wn_on rfl rfl rfl) X X (AE X X call34) (FW x.name _ (by have:=hl.name x hxl;omega)) ?_)));rintro _ w1 ⟨rfl,rfl⟩;refine cq ?_
  cases hn:B5 x.name with
  | false=>
   have hres:FF [] l=1:=by rw [hcb,hn];rfl
   refine V ?_;exact gr1 X ⟨by rw [hres],hf⟩
  | true=>
   refine V ?_;refine yd X (HM X X X (sl X) A0) (gyq X (yd X (AJ X X el.val By X FU) (sxl_call (G 24) (by first|exact wn_none rfl|exact wn_on rfl rfl rfl) X X (AE X X call35) (NA x.v _ (hl.text x hxl)) ?_)));rintro _ w1 ⟨rfl,hf1⟩;refine cq ?_;have hf2:=hf.trans hf1
   cases hv:vOk x.v with
   | false=>
    have hres:FF [] l=1:=by rw [hcb,hn,hv];rfl
    rw [JX hv];refine yd X (VF X X X A0) (V ?_);exact gr1 X ⟨by rw [hres],hf2⟩
   | true=>
    rw [hn,hv] at hcb
    simp only [Bool.and_self,Ez,if_false] at hcb
    rw [UU hv];refine yd X (VG X X X A0) (V ?_);refine sx_loop (e0:=[(4,AA 0),(3,AA (i:Int)),(0,.slice (G ⟨b,off,zx⟩) l.length c)]) (λe wr m=>∃(k:Nat),e=[(4,AA (k:Int)),(3,AA (i:Int)),(0,.slice (G ⟨b,off,zx⟩) l.length c)]∧Fr0 w wr∧k≤i∧(x.name∉ID (l.take k))∧m=i-k) ⟨0,X,hf2,Aj _,by simp [ID],rfl⟩ ⟨X,X,X,zw⟩ ?_;rintro _ wr2 _ ⟨k,rfl,hf3,hk,hnot,rfl⟩
    by_cases hki:k<i
    ·obtain ⟨y,hy⟩:∃y,l[k]?=G y:=⟨_,Av A0⟩
     obtain ⟨b1,off1,hA,el2⟩:=PH (hr.fr0 hf3) hx
     injection hA with hA;injection hA with hA1 hA2 _;subst hA1;subst hA2
     obtain ⟨b2,off2,hA,el3⟩:=PH (hr.fr0 hf3) hy
     injection hA with hA;injection hA with hA1 hA2 _;subst hA1;subst hA2
     have e1':Cell wr2.drew.heap b (off+i*5+0) (str x.name):=el2.name;have e2':Cell wr2.drew.heap b (off+k*5+0) (str y.name):=el3.name
     by_cases hyx:y.name=x.name
     ·have hin:x.name∈ID (l.take i):=by
       unfold ID;refine Cq.2 ⟨y,?_,hyx⟩;exact Ah (i:=k) (by rw [Cj hki];exact hy)
      rw [Ac hin] at hcb
      have hdk:O (y.name=x.name)=zz:=by simp [hyx]
      refine V ?_;refine ya X (DC X X X A0) (V ?_);refine CY CA zr (V ?_);refine sa X (HM X X X (sl X) A0) (sb X (sd X X (by assumption) (V ?_)));refine sa X (HM X X X (sl X) A0) (sb X (sd X X (by assumption) (sa X (IV X X X) (V ?_))));rw [hdk];refine V ?_;exact gr1 X ⟨by rw [hcb],hf3.drew⟩
     have hnot2:x.name∉ID (l.take (k+1)):=by
      rw [O0 hy];simp only [Bp,Au,not_or];exact ⟨hnot,λe=>hyx e.symm⟩
     have hdk:O (y.name=x.name)=zy:=by simp [hyx]
     refine V ?_;refine ya X (DC X X X A0) (V ?_);refine CY CA zr (V ?_);refine sa X (HM X X X (sl X) A0) (sb X (sd X X (by assumption) (V ?_)));refine sa X (HM X X X (sl X) A0) (sb X (sd X X (by assumption) (sa X (IV X X X) (V ?_))));rw [hdk];refine V ?_;refine D3 X X (V ?_);exact fag ⟨k+1,X,hf3.drew,A0,hnot2,rfl⟩
    obtain rfl:k=i:=A0
    rw [Ae hnot] at hcb
    refine V ?_;refine ya X (DI X X X A0) (V ?_);refine D3 X X (V ?_);exact fag ⟨k+1,X,hf3,A0,by rw [hcb,O0 hx],rfl⟩
 obtain rfl:i=l.length:=A0
 rw [Aq] at hcb
 refine V ?_;refine SF X X (ya X (DI X X X A0) (V ?_));exact gr1 X ⟨by rw [hcb];rfl,hf⟩
theorem oP {L:List (Kz × Kv)} {S:List Kz} (h:∀k,(CG L k).getD (.bool zy)=.bool (O (k∈S))) (x:Kz):∀k,(CG (DG L x (.bool zz)) k).getD (.bool zy)=.bool (O (k∈S++[x])):=λk=>by
 rw [G6]
 by_cases e:k=x
 ·simp [e]
 rw [Ae e,h k];simp [e]
theorem qB : (zv.info? 4).map (·.zero)=G (G (.bool zy)):=zr
theorem YZ (A:Ky) (c:Nat) (l:List Bd) (w:Kw) (hl:BdOk l) (hr:Rd w A (l.length*5) (UR l)) (hT:Laid w utfL) :
 zt zv 40 #[.slice A l.length c] w (BR w (AA (FF [] l))):=by
 have hlen:=hl.len;refine sx_enter (vs:=[_]) func40 X ntmps40 X (V ?_);refine sxl_does (G 6) kw X X (λρ hρ=>U2 X) ?_;rintro _ w1 ⟨mp,rfl,hmp1,hmp2,hM0,hf0⟩;refine V ?_;refine SF X X (V ?_);refine sx_loop (e0:=[(9,AA 0),(8,AA (l.length:Int)),(7,.slice A l.length c),(3,.map (G mp))]) (λe wr m=>∃(i:Nat) (L:List (Kz × Kv)),e=[(9,AA (i:Int)),(8,AA (l.length:Int)),(7,.slice A l.length c),(3,.map (G mp))]∧Fr0 w wr∧Mp wr mp L∧(∀k,(CG L k).getD (.bool zy)=.bool (O (k∈ID (l.take i))))∧i≤l.length∧FF [] l=FF (ID (l.take i)) (l.drop i)∧m=l.length-i) ⟨0,[],X,hf0,hM0,λk=>by simp [CG,ID],Aj _,rfl,rfl⟩ ⟨X,X,X,X,zw⟩ ?_;rintro _ wr _ ⟨i,L,rfl,hf,hM,hseen,hi,hcb,rfl⟩
 by_cases hlt:i<l.length
 ·obtain ⟨x,hx⟩:∃x,l[i]?=G x:=⟨_,Av hlt⟩
  have hxl:x∈l:=Ah hx;obtain ⟨b,off,rfl,el⟩:=PH (hr.fr0 hf) hx;rw [VP hx,FF] at hcb
  refine V ?_;refine ya X (DC X X X A0) (V ?_);refine ya X (HM X X X (sl X) A0) (ya X (AJ X X el.all Dt X LD) (sxl_does (G 5) kw X X (λρ hρ=>BP 63 X _ _ U8 X) ?_));rintro _ w2 ⟨g,rfl,hg1,hg2,hb,hf2⟩;refine sxl_does zx kw X X (λρ hρ=>BZ 63 (.tmp 5) (.tmp 12) X g 0 63 _ x.cells (hρ _ _ X) (hρ _ _ X) hb LD (by show 0+5≤5;omega) (Bd.cells_one _)) ?_;rintro _ w3 ⟨rfl,hb3,hf3⟩;rw [HZ zeroBd.cells x.cells rfl] at hb3
  have hwr:=hf.size;have hfa:Fr0 wr w3:=hf2.step hf3 (λk hk e=>A0);have hf':Fr0 w w3:=hf.trans hfa;have hM':=hM.fr hfa (λhh=>hh);have el3:=PB hb3;have e0:=el3.name;refine V ?_;refine yl X X (by assumption) (sxl_call (G 16) (by first|exact wn_none rfl|exact wn_on rfl rfl rfl) X X (AE X X call37) (E8 x.name _ (hl.name x hxl)) ?_);rintro _ w4 ⟨rfl,hf4⟩;refine cq ?_;have hf4':=hf'.trans hf4
  cases hn:B5 x.name with
  | false=>
   have hres:FF [] l=1:=by rw [hcb,hn];rfl
   refine V ?_;exact gr1 X ⟨by rw [hres],hf4'⟩
  | true=>
   have el4:=PB (hb3.fr0 hf4);refine V ?_;refine yd X (AJ X X el4.val By X FU) (sxl_call (G 21) (by first|exact wn_none rfl|exact wn_on rfl rfl rfl) X X (AE X X call38) (J1 x.v _ (hl.text x hxl) (hT.fr hf4')) ?_);rintro _ w5 ⟨rfl,hf5⟩;refine cq ?_;have hf5':=hf4'.trans hf5;have hM5:=(hM'.fr hf4 (λhh=>hh)).fr hf5 (λhh=>hh);have el5:=PB ((hb3.fr0 hf4).fr0 hf5);have e5:=el5.name
   cases hv:vOk x.v with
   | false=>
    have hres:FF [] l=1:=by rw [hcb,hn,hv];rfl
    rw [JX hv];refine yd X (VF X X X A0) (V ?_);exact gr1 X ⟨by rw [hres],hf5'⟩
   | true=>
    rw [hn,hv] at hcb
    simp only [Bool.and_self,Ez,if_false] at hcb
    rw [UU hv];refine yd X (VG X X X A0) (V ?_);refine yl X X (by assumption) (ya X (RE (ok:=zy) X X X Em Ad qB hM5) (V ?_));rw [show (if (zy:Bool)=zz then Value.tuple #[(CG L x.name).getD (.bool zy),.bool (CG L x.name).isSome] else (CG L x.name).getD (.bool zy))=.bool (O (x.name∈ID (l.take i))) from hseen x.name]
    by_cases hin:x.name∈ID (l.take i)
    ·rw [show O (x.name∈ID (l.take i))=zz by simp [hin]];rw [Ac hin] at hcb
     refine V ?_;exact gr1 X ⟨by rw [hcb],hf5'⟩
    rw [show O (x.name∈ID (l.take i))=zy by simp [hin]];rw [Ae hin] at hcb
    refine V ?_;refine yl X X (by assumption) (sxl_does zx kw X X (λρ hρ=>GP (v:=.bool zz) X (hρ _ _ X) (hρ _ _ X) (hρ _ _ X) Em Ad hM5) ?_);rintro _ w6 ⟨rfl,hf6,hM6⟩;refine V ?_;refine D3 X X (V ?_);exact fag ⟨i+1,_,X,hf5'.step hf6 (λk hk e=>A0),hM6,by rw [O0 hx];exact oP hseen x.name,A0,by rw [hcb,O0 hx],rfl⟩
 obtain rfl:i=l.length:=A0
 rw [Aq] at hcb
 refine V ?_;refine ya X (DI X X X A0) (V ?_);exact gr1 X ⟨by rw [hcb];rfl,hf⟩
def K3 : List Bd→List (Kz × Kv)
 | []=>[]
 | x::r=>DG (K3 r) x.name (.int .u8 (x.v.kind.toNat:Int))
theorem X5 (k:Kz):∀l:List Bd,CG (K3 l) k=(EK l k).map λv=>.int .u8 (v.kind.toNat:Int)
 | []=>rfl
 | x::r=>by
  rw [K3,G6,EK,X5 k r]
  by_cases h:x.name=k
  ·rw [Ac h,Ac h.symm];rfl
  rw [Ae h,Ae (λe=>h e.symm)]
def GE (vars:List Bd):List Bd→Int
 | []=>0
 | x::r=>match EK vars x.name with
  | none=>100
  | some v=>if v.kind=x.v.kind then GE vars r else 90
def IZ (vars patch:List Bd):Int:=if FF [] patch=0 then GE vars patch else FF [] patch
def jS (id nm:Kz) (A:Ky) (n c:Nat) (vE vF:Kv):Kx:=[str id,str nm,.slice A n c,vE,vF]
theorem SW {P:Lw} {e:Env} {w:Kw} {o:Oper} {t kt el:Ly} {x i:Lz} {g:Nat} {k:Kz} {L:List (Kz × Kv)} {z:Kv} {r:Option Kv} (ho:o.op=.lookup t x i zz) (hx:ev e x=G (.map (G g))) (hi:ev e i=G (str k)) (hu:P.underlying t=G (.map kt el)) (hd:P.underlying kt=G .string)
 (hz:(P.info? el).map (·.zero)=G (G z)) (hM:Mp w g L) (hr:CG L k=r):Y P e o w (.tuple #[r.getD z,.bool r.isSome]):=by
 subst hr;exact RE (ok:=zz) ho hx hi hu hd hz hM
theorem aT : (zv.info? 5).map (·.zero)=G (G (.int .u8 0)):=zr
theorem jX : (zv.info? 131).map (·.zero)=G (G (.map zx)):=zr
theorem jY {a b:UInt8} (h:(a.toNat:Int)=b.toNat):a=b:=Ge.1 A0
theorem Fr.none_of {w w' w'':Kw} {m:Nat} (h:Fr0 w w') (h':Fr (λk=>k=m) w' w'') (hm:w.heap.size≤m):Fr0 w w'':=h.step h' (λk hk e=>A0)
namespace Sf
structure JF (w0:Kw) (mp:Nat) (l:List Bd) (r:Loop) (i:Nat) (w':Kw):Prop where
 fr:Fr (λk=>k=mp) w0 w'
 mp:Mp w' mp (K3 (l.drop i))
 rc:w'.heap[w0.heap.size+1]?=G (.loop r)
 df:w'.heap[w0.heap.size]?=G (.deferred (G []))
theorem fits_ok (id nm:Kz) (A B:Ky) (c cp:Nat) (vE vF:Kv) (l p:List Bd) (w:Kw) (hl:BdOk l) (hp:BdOk p) (hrl:Rd w A (l.length*5) (UR l)) (hrp:Rd w B (p.length*5) (UR p)) (hT:Laid w utfL) :
 zt zv 27 #[.agg (jS id nm A l.length c vE vF).toArray,.slice B p.length cp] w (BR w (AA (IZ l p))):=by
 have hlen:=hl.len;have hplen:=hp.len;refine sx_enter (vs:=[_,_]) func27 X ntmps27 X (sx_seq (sx_region (sxl_does (G 2) (wn_none X) X X (λρ hρ=>NF 48 (.tmp 0) X (jS id nm A l.length c vE vF) (by rw [hρ _ _ rfl];rfl)) ?_)));rintro _ w1 ⟨g2,rfl,hg2a,hg2b,hb2,hf1⟩;refine sxl_y (wn_none X) X X (yp X) (sxl_nil (qx_seq (sx_seq (sx_seq (sx_region (sxl_y (wn_none X) X X (yp X) (sxl_call (G 14) (by first|exact wn_none rfl|exact wn_on rfl rfl rfl) X X (AE X X call40) (YZ B cp p _ hp (hrp.fr0 hf1) (hT.fr hf1)) ?_)))))));rintro _ w2 ⟨rfl,hf2⟩;refine ⟨_,X,?_⟩;have hf2':=hf1.trans hf2
 by_cases he:FF [] p=0
 case neg=>
  have hres:IZ l p=FF [] p:=by unfold IZ;rw [Ae he]
  refine sxl_y (wn_none X) X X (yp X) (sxl_nil (qx_seq (sx_seq (sx_region (sxl_y (wn_none X) X X (yp X) (sxl_y (wn_none X) X X (VF X X X A0) (sxl_nil (qx_seq (sx_true X (sx_seq (sx_region (sxl_y (wn_none X) X X (yp X) (sxl_y (wn_none X) X X (yp X) (sxl_nil (qx_seq ?_)))))))))))))));exact sx_ret (qx_then_ret (qx_ret1 X X ⟨by rw [hres],hf2'⟩))
 have hres:IZ l p=GE l p:=by unfold IZ;rw [Ac he]
 refine sxl_y (wn_none X) X X (yp X) (sxl_nil (qx_seq (sx_seq (sx_region (sxl_y (wn_none X) X X (yp X) (sxl_y (wn_none X) X X (VG X X X A0) (sxl_nil (qx_seq (sx_false X (sx_skip (qx_seq (sx_seq (sx_region (sxl_does (G 18) (wn_none X) X X (λρ hρ=>U2 X) ?_))))))))))))));rintro _ w3 ⟨mp,rfl,hmp1,hmp2,hM0,hf3⟩;refine sxl_does (G 6) (wn_none X) X X (λρ hρ=>BP 131 X _ [.map zx] jX X) ?_;rintro _ w4 ⟨g6,rfl,hg6a,hg6b,hb6,hf4⟩;refine sxl_does zx (wn_none X) X X (λρ hρ=>ED 131 (.tmp 6) (.tmp 18) X g6 0 131 _ (.map (G mp)) (hρ _ _ X) (hρ _ _ X) X hb6 zr (by decide) X) ?_;rintro _ w5 ⟨rfl,hb6',hf5⟩;have hne6:g6≠mp:=A0
 have hwm:w.heap.size≤mp:=by have:=hf2'.size;omega
 have hf5':Fr0 w w5:=((hf2'.trans hf3).trans hf4).step hf5 (λk hk e=>by have:=hf2'.size;have:=hf3.size;omega);have hM5:Mp w5 mp []:=(hM0.fr hf4 (λhh=>hh)).fr hf5 (λe=>hne6 e.symm);have hs1:=hf1.size;have hs2:=hf2.size;have hs3:=hf3.size;have hs4:=hf4.size;have hs5:=hf5.size;have hb2':Blk w5 g2 48 (jS id nm A l.length c vE vF):=(((hb2.fr hf2 (λhh=>hh)).fr hf3 (λhh=>hh)).fr hf4 (λhh=>hh)).fr hf5 (λe=>A0);have c2:Cell w5.heap g2 2 (.slice A l.length c):=hb2'.c 2 X;refine sxl_nil (qx_seq (sx_seq (sx_seq (sx_region (sxl_y (wn_none X) X X (yp X) (sxl_y (wn_none X) X X (B3 X X (sc X) (by assumption)) (sxl_call (G 21) (by first|exact wn_none rfl|exact wn_on rfl rfl rfl) X X (AE X X call59) (qC A l.length c _) ?_)))))));rintro _ w6 ⟨gb,rfl,hgb1,hgb2,hbb,hf6⟩;refine ⟨_,X,?_⟩;have hf6':=hf5'.trans hf6;have hs6:=hf6.size;have hb6_6:Blk w6 g6 131 [.map (G mp)]:=Blk.fr hb6' hf6 (λhh=>hh);have hM6:Mp w6 mp []:=hM5.fr hf6 (λhh=>hh);refine sxl_nil (qx_seq (sx_block (rU X call112 λfn tm rc htm hget hrc=>?_)));have h6:tm[6]?=G (pg g6):=hget 6 _ X;have hrdJ:∀i w',JF w6 mp l rc i w'→Fr0 w w':=λi w' hJ=>Fr.none_of hf6' hJ.fr hwm
 refine (a0R A c (w6.heap.size+1) gb l (JF w6 mp l rc) hlen (λi w' hJ=>(hbb.fr hJ.fr A0).c 0 X) (λi w' hJ=>hrl.fr0 (hrdJ i w' hJ)) (λi w' hJ=>⟨rc,hJ.rc,by rw [hrc];rfl⟩) ?_ _ ?_).mono ?_
 ·intro i x w' r hx hJ hr;have hrr:r=rc:=by have:=hJ.rc;rw [hr] at this;injection this with this;injection this
  rw [hrr];refine roundIn_of_wpIn (F:=Fence.wide) zw ?_
  have hfold:((rc.params.zip [Value.int .i64 (i:Int),x.val].toArray).foldl (λtmps (t,a)=>tmps.setIfInBounds t a) rc.tmps)=(tm.setIfInBounds 22 (AA (i:Int))).setIfInBounds 23 x.val:=by
   rw [hrc,←Hu,Array.toList_zip];rfl
  rw [hfold]
  have a0:Agr [] 53 [(6,pg g6)] { tmps:=tm,defers:=[] }:=⟨htm,X,λk v hk=>by
   unfold Env.get at hk
   cases hb:Nat.beq 6 k with
   | true=>
    rw [hb] at hk
    injection hk with hk
    have:=Cn hb
    subst this;rw [←hk];exact h6
   | false=>rw [hb] at hk;cases hk⟩
  have hs':=hJ.fr.size;have hasg:rc.assign=(ZF w6 fn tm rc.params rc.assign rc.body).assign:=X;have hcode:=hrc;rw [show rc.assign=_ from Bf Loop.assign hrc,show rc.body=_ from Bf Loop.body hrc];simp only [ZF];refine Sx.run (rd:=G (w6.heap.size+1)) (D:=[]) (n:=53) (e:=[(23,x.val),(22,AA (i:Int)),(6,pg g6)]) ?_ _ ((a0.put (d:=22) A0 (AA (i:Int))).put (d:=23) A0 x.val);refine sx_region (sxl_does (G 8) (wn_none X) X X (λρ hρ=>BP 63 X _ _ U8 X) ?_);rintro _ v1 ⟨g8,rfl,h8a,h8b,hb8,hf8⟩;refine sxl_does zx (wn_none X) X X (λρ hρ=>BZ 63 (.tmp 8) (.tmp 23) X g8 0 63 _ x.cells (hρ _ _ X) (hρ _ _ X) hb8 LD (by show 0+5≤5;omega) (Bd.cells_one _)) ?_;rintro _ v2 ⟨rfl,hb8',hf8'⟩;rw [HZ zeroBd.cells x.cells rfl] at hb8'
  have hfa:Fr0 w' v2:=hf8.step hf8' (λk hk e=>A0);have hrc2:v2.heap[w6.heap.size+1]?=G (.loop rc):=(hfa.block _ (Ar.1 hJ.rc).1 (λhh=>hh)).trans hJ.rc;have hrlt:=(Ar.1 hJ.rc).1;have hsa:=hfa.size;have hready:rc.state=.ready:=by rw [hrc];rfl
  refine sxl_nil (.mk λa1 ha1=>⟨_,run_beginRound hrc2 hready,Sx.run (rd:=G (w6.heap.size+1)) ?_ a1 ha1⟩);obtain ⟨v3,hv3⟩:∃v3,v2.putObj (w6.heap.size+1) (.loop { rc with state:=.busy })=v3:=⟨_,X⟩
  rw [hv3];have hfr2:Fr (λk=>k=mp) w6 v2:=hJ.fr.step hfa (λk hk hh=>hh.elim);have hfr3:Fr (λk=>k=mp) w6 v3:=by rw [←hv3];exact hfr2.putObj _ A0
  have hM3:Mp v3 mp (K3 (l.drop (i+1))):=by rw [←hv3];exact (hJ.mp.fr hfa (λhh=>hh)).putObj _ A0
  have hb8_3:Blk v3 g8 63 x.cells:=by rw [←hv3];exact hb8'.putObj _ A0
  have hs3':v3.heap.size=v2.heap.size:=by rw [←hv3];exact World.putObj_size
  have hrc3:v3.heap[w6.heap.size+1]?=G (.loop { rc with state:=.busy }):=by rw [←hv3];exact World.putObj_heap_same A0
  have hdf3:v3.heap[w6.heap.size]?=G (.deferred (G [])):=by rw [←hv3];exact (World.putObj_heap_other A0).trans ((hfa.block _ A0 (λhh=>hh)).trans hJ.df)
  have c6:Cell v3.heap g6 0 (.map (G mp)):=(hb6_6.fr hfr3 hne6).c 0 X;have el:=PB hb8_3;have e0:=el.name;have e1:=el.kind;refine sx_block (sx_region (sxl_y (wn_none X) X X (B3 X X (sc X) (by assumption)) (sxl_y (wn_none X) X X (yp X) (sxl_y (wn_none X) X X (B3 X X (sc X) (by assumption)) (sxl_y (wn_none X) X X (yp X) (sxl_y (wn_none X) X X (yp X) (sxl_y (wn_none X) X X (B3 X X (sc X) (by assumption)) (sxl_does zx (wn_none X) X X (λρ hρ=>GP (v:=.int .u8 (x.v.kind.toNat:Int)) X (hρ _ _ X) (hρ _ _ X) (hρ _ _ X) Hq Ad hM3) ?_))))))));rintro _ v4 ⟨rfl,hf9,hM4⟩;have hs9:=hf9.size;have hrc4:v4.heap[w6.heap.size+1]?=G (.loop { rc with state:=.busy }):=(hf9.block _ A0 A0).trans hrc3;have hdf4:v4.heap[w6.heap.size]?=G (.deferred (G [])):=(hf9.block _ A0 A0).trans hdf3;refine sxl_nil (qx_block_normal (.mk λa2 _=>⟨_,_,run_endRound zx hrc4,X,?_⟩));have hback:({ ({ rc with state:=LoopState.busy }:Loop) with state:=if (zx:Option Code).isNone then LoopState.ready else LoopState.done,pending:=zx }:Loop)=rc:=by rw [hrc];rfl
  rw [hback];refine ⟨(hfr3.step hf9 (λk hk e=>e)).putObj _ A0,?_,World.putObj_heap_same A0,(World.putObj_heap_other A0).trans hdf4⟩;rw [VP hx];exact hM4.putObj _ A0
 ·have e1:(w6.alloc (.deferred (G []))).heap.size=w6.heap.size+1:=World.size_alloc _ _;refine ⟨(Fr.refl.alloc _).alloc _,?_,?_,?_⟩
  ·rw [Aq];exact hM6.fr ((Fr.refl.alloc _).alloc _:Fr0 w6 _) (λhh=>hh)
  ·have:=World.alloc_heap_new (w6.alloc (.deferred (G []))) (.loop rc)
   rw [e1] at this;exact this
  rw [aM _ _ (by rw [e1];omega)];exact World.alloc_heap_new _ _
 rintro _ w8 ⟨rfl,hJ⟩;have hs8:=hJ.fr.size;have hrlt:=(Ar.1 hJ.rc).1;refine ⟨_,rc,X,hJ.rc,(by rw [hrc];intro h;cases h),(by rw [hrc];rfl),?_⟩;obtain ⟨w9,hw9⟩:∃w9,w8.putObj (w6.heap.size+1) (.loop { rc with state:=.exhausted })=w9:=⟨_,X⟩
 rw [hw9];have hf9:Fr0 w w9:=by rw [←hw9];exact (hrdJ _ _ hJ).putObj _ A0
 have hM9:Mp w9 mp (K3 l):=by rw [←hw9];exact hJ.mp.putObj _ A0
 have hb6_9:Blk w9 g6 131 [.map (G mp)]:=by rw [←hw9];exact (hb6_6.fr hJ.fr hne6).putObj _ A0
 have hdf9:w9.heap[w6.heap.size]?=G (.deferred (G [])):=by rw [←hw9];exact (World.putObj_heap_other A0).trans hJ.df
 refine qx_block_normal (qx_seq (sx_seq (sx_seq (sx_region (sxl_y (wn_none X) X X (yp X) (sxl_y (wn_none X) X X (I8 X X (sl X)) (sxl_y (wn_none X) X X (yp X) (sxl_nil (qx_seq (sx_block (sx_loop (e0:=[(32,AA 0),(31,AA (p.length:Int)),(30,.slice B p.length cp),(6,pg g6)]) (λe wr m=>∃(i:Nat),e=[(32,AA (i:Int)),(31,AA (p.length:Int)),(30,.slice B p.length cp),(6,pg g6)]∧Fr0 w9 wr∧i≤p.length∧GE l p=GE l (p.drop i)∧m=p.length-i) ⟨0,X,Fr.refl,Aj _,X,X⟩ ⟨X,X,X,X,zw⟩ ?_)))))))))));rintro _ wr _ ⟨i,rfl,hfr,hi,hfit,rfl⟩;have hlt9:=(Ar.1 hdf9).1;have hdfr:wr.heap[w6.heap.size]?=G (.deferred (G [])):=(hfr.block _ hlt9 (λhh=>hh)).trans hdf9
 have done:∀wx,Fr0 wr wx→Fr0 w (wx.putObj w6.heap.size (.deferred zx))∧wx.heap[w6.heap.size]?=G (.deferred (G [])):=λwx hx=>
  ⟨((hf9.trans hfr).trans hx).putObj _ A0,(hx.block _ (Ar.1 hdfr).1 (λhh=>hh)).trans hdfr⟩
 by_cases hlt:i<p.length
 ·obtain ⟨x,hx⟩:∃x,p[i]?=G x:=⟨_,Av hlt⟩
  obtain ⟨b,off,rfl,el⟩:=PH (hrp.fr0 (hf9.trans hfr)) hx;rw [VP hx,GE] at hfit
  refine sx_seq (sx_region (sxl_y (wn_none X) X X (DC X X X A0) (sxl_nil (qx_seq (sx_seq (sx_true X (sx_skip (qx_seq (sx_seq (sx_block (sx_seq (sx_region (sxl_y (wn_none X) X X (HM X X X (sl X) A0) (sxl_y (wn_none X) X X (AJ X X el.all Dt X LD) (sxl_does (G 10) (wn_none X) X X (λρ hρ=>BP 63 X _ _ U8 X) ?_)))))))))))))));rintro _ v1 ⟨g10,rfl,h8a,h8b,hb8,hf8⟩;refine sxl_does zx (wn_none X) X X (λρ hρ=>BZ 63 (.tmp 10) (.tmp 35) X g10 0 63 _ x.cells (hρ _ _ X) (hρ _ _ X) hb8 LD (by show 0+5≤5;omega) (Bd.cells_one _)) ?_;rintro _ v2 ⟨rfl,hb8',hf8'⟩;rw [HZ zeroBd.cells x.cells rfl] at hb8'
  have hfa:Fr0 wr v2:=hf8.step hf8' (λk hk e=>A0);obtain ⟨hdone,hdfx⟩:=done v2 hfa;have hM2:Mp v2 mp (K3 l):=(hM9.fr hfr (λhh=>hh)).fr hfa (λhh=>hh);have c6:Cell v2.heap g6 0 (.map (G mp)):=(Blk.fr (Blk.fr hb6_9 hfr (λhh=>hh)) hfa (λhh=>hh)).c 0 X;have el2:=PB hb8';have e0:=el2.name;have e1:=el2.kind;have hmg:=X5 x.name l
  cases hfb:EK l x.name with
  | none=>
   rw [hfb] at hfit hmg
   refine sxl_nil (qx_seq (sx_seq (sx_region (sxl_y (wn_none X) X X (B3 X X (sc X) (by assumption)) (sxl_y (wn_none X) X X (yp X) (sxl_y (wn_none X) X X (B3 X X (sc X) (by assumption)) (sxl_y (wn_none X) X X (SW X X X Hq Ad aT hM2 hmg) ?_)))))));iterate 5 refine sxl_y (wn_none X) X X (yp X) ?_
   refine sxl_nil (qx_seq (sx_block (sx_seq (sx_region (sxl_y (wn_none X) X X (yp X) (sxl_y (wn_none X) X X (yp X) (sxl_y (wn_none X) X X (yp X) (sxl_nil (qx_seq (sx_true X (sx_seq (sx_region (sxl_y (wn_none X) X X (yp X) (sxl_nil (qx_seq ?_)))))))))))))));exact sx_ret (qx_block_ret (qx_block_ret (qx_then_ret (qx_then_ret (qx_block_ret (qx_then_ret (bJ X X hdfx ⟨by rw [hres,hfit],hdone⟩)))))))
  | some u=>
   rw [hfb] at hfit hmg
   have hfit:GE l p=if u.kind=x.v.kind then GE l (p.drop (i+1)) else 90:=hfit
   by_cases hk:u.kind=x.v.kind
   ·have hk':(u.kind.toNat:Int)=x.v.kind.toNat:=by rw [hk]
    rw [Ac hk] at hfit
    refine sxl_nil (qx_seq (sx_seq (sx_region (sxl_y (wn_none X) X X (B3 X X (sc X) (by assumption)) (sxl_y (wn_none X) X X (yp X) (sxl_y (wn_none X) X X (B3 X X (sc X) (by assumption)) (sxl_y (wn_none X) X X (SW X X X Hq Ad aT hM2 hmg) ?_)))))));iterate 5 refine sxl_y (wn_none X) X X (yp X) ?_
    refine sxl_nil (qx_seq (sx_block (sx_seq (sx_region (sxl_y (wn_none X) X X (yp X) (sxl_y (wn_none X) X X (yp X) (sxl_y (wn_none X) X X (yp X) (sxl_nil (qx_seq (sx_false X (sx_seq (sx_region (sxl_y (wn_none X) X X (yp X) (sxl_y (wn_none X) X X (yp X) (sxl_y (wn_none X) X X (yp X) ?_)))))))))))))));exact sxl_y (wn_none X) X X (B3 X X (sc X) (by assumption)) (sxl_y (wn_none X) X X (VG X X X A0) (sxl_y (wn_none X) X X (yp X) (sxl_nil (qx_seq (sx_false X (sx_skip (qx_block_normal (qx_block_normal (qx_seq (sx_region (sxl_y (wn_none X) X X (GZ X X X A0) (sxl_y (wn_none X) X X (yp X) (sxl_nil (qx_again [(32,AA ((i+1:Nat):Int)),(31,AA (p.length:Int)),(30,.slice (G ⟨b,off,zx⟩) p.length cp),(6,pg g6)] (p.length-(i+1)) ⟨i+1,X,hfr.trans hfa,A0,hfit,rfl⟩ A0 ⟨X,X,X,X,zw⟩))))))))))))))
   have hk':(u.kind.toNat:Int)≠x.v.kind.toNat:=λe=>hk (jY e)
   rw [Ae hk] at hfit
   refine sxl_nil (qx_seq (sx_seq (sx_region (sxl_y (wn_none X) X X (B3 X X (sc X) (by assumption)) (sxl_y (wn_none X) X X (yp X) (sxl_y (wn_none X) X X (B3 X X (sc X) (by assumption)) (sxl_y (wn_none X) X X (SW X X X Hq Ad aT hM2 hmg) ?_)))))));iterate 5 refine sxl_y (wn_none X) X X (yp X) ?_
   refine sxl_nil (qx_seq (sx_block (sx_seq (sx_region (sxl_y (wn_none X) X X (yp X) (sxl_y (wn_none X) X X (yp X) (sxl_y (wn_none X) X X (yp X) (sxl_nil (qx_seq (sx_false X (sx_seq (sx_region (sxl_y (wn_none X) X X (yp X) (sxl_y (wn_none X) X X (yp X) (sxl_y (wn_none X) X X (yp X) ?_)))))))))))))));refine sxl_y (wn_none X) X X (B3 X X (sc X) (by assumption)) (sxl_y (wn_none X) X X (VF X X X A0) (sxl_y (wn_none X) X X (yp X) (sxl_nil (qx_seq (sx_true X (sx_seq (sx_region (sxl_y (wn_none X) X X (yp X) (sxl_nil (qx_seq (sx_ret (qx_block_ret (qx_block_ret (qx_then_ret (qx_then_ret ?_)))))))))))))));exact qx_block_ret (qx_then_ret (bJ X X hdfx ⟨by rw [hres,hfit],hdone⟩))
 obtain rfl:i=p.length:=A0
 rw [Aq] at hfit
 obtain ⟨hdone,hdfx⟩:=done wr Fr.refl;refine sx_seq (sx_region (sxl_y (wn_none X) X X (DI X X X A0) (sxl_nil (qx_seq (sx_seq (sx_false X (sx_exit (qx_then_exit (qx_then_exit (qx_block_hit (qx_seq (sx_seq (sx_region (sxl_y (wn_none X) X X (yp X) (sxl_nil ?_)))))))))))))));exact qx_seq (sx_ret (bJ X X hdfx ⟨by rw [hres,hfit];rfl,hdone⟩))
end Sf
structure Mq where
 nm:Kz
 key:Kz
 vars:List Bd
 V:Ky
 vc:Nat
 un:Int
def Mq.cells (q:Mq):Kx:=[str q.nm,str q.key,.slice q.V q.vars.length q.vc,.int .i64 q.un]
structure MqOk (w:Kw) (q:Mq):Prop where
 V:Rd w q.V (q.vars.length*5) (AF Bd.cells q.vars)
 ok:BdOk q.vars
theorem MqOk.fr0 {w w':Kw} {q:Mq} (h:MqOk w q) (hf:Fr0 w w'):MqOk w' q:=⟨h.V.fr0 hf,h.ok⟩
def MS (q:Mq) (x:Pa) (wt:Wt):Bool:=((O ((wt.ev.toNat:Int)=(2:Int))&&O (wt.nm=q.nm))&&O (wt.key=q.key))&&O (IZ x.m.vars q.vars=(0:Int))
theorem uG (m:Md) (gc:Nat) (c:CrA) (F:List Nat) (w:Kw) (ho:MdOk m) (hC:CourseN w m gc c F) :
 zt zv 28 #[pg gc] w λe w'=>∃a' F0,e=.returned (.agg (Md.cells m a').toArray)∧MdN w' m a' F0∧(∀g∈F0,w.heap.size≤g∧g<w'.heap.size)∧Fr0 w w':=by
 refine BO func28 ntmps28 X λM=>W ?_
 refine CE M X NN λg2 w1 hg2 M=>W ?_
 refine ya X (N4 X X X (pt X)) (W ?_);refine ya X (AJ (xs:=[str m.id,str m.nm,.slice c.a.V m.vars.length c.a.vc,.slice c.a.E m.els.length c.a.ec,.slice c.a.F m.fls.length c.a.fc]) X X (DO ((hC.fr0 M.fr).blk) 0 5 X X) Ap X AO) (cl 10 X (AE X X call43) (lJ m c.a _ ho ((hC.fr0 M.fr).md.md)) ?_);rintro _ w2 ⟨a',F0,rfl,hmd,hnw,hfw2⟩;refine cq ?_;have M:=M.push hfw2 (As.mdp m a' F0) hmd hnw;refine BX M 1 X X AO X λw3 M=>W ?_
 exact CV X X (M.rdBlk 1 X X) Ap X AO ⟨a',F0,X,M.mdN 0 X,M.new0 0 X,M.fr⟩
theorem a0d {x:Pa} {w:Kw} (hx:PaOk w x) (hr:runP x=zz) :
 zt zv 28 #[.pointer x.p] w λe w'=>∃a' F0,e=.returned (.agg (Md.cells x.m a').toArray)∧MdN w' x.m a' F0∧(∀g∈F0,w.heap.size≤g∧g<w'.heap.size)∧Fr0 w w':=by
 obtain ⟨gc,h,hC,hn,ho⟩:=OT hx hr;rw [h];exact uG x.m gc x.c x.F w ho hC
theorem a0A (A:Ky) (cp n:Nat) (fa:FuncId) (gm:Nat) (w:Kw) :
 zt zv 25 #[.slice A n cp,.func (.func fa) #[] #[pg gm]] w λe w'=>∃gl ga,e=.returned (.func (.func 54) #[] #[pg gl,pg ga])∧Blk w' gl 27 [.slice A n cp]∧Blk w' ga 87 [.func (.func fa) #[] #[pg gm]]∧(w.heap.size≤gl∧gl<w'.heap.size)∧(w.heap.size≤ga∧ga<w'.heap.size)∧Fr0 w w':=by
 refine BO func25 ntmps25 X λM=>W ?_
 refine CZ M kw X X 27 X X ([.slice A n cp]) X λg2 w1 hg2 M=>CZ M kw X X 87 X X ([.func (.func fa) #[] #[pg gm]]) X λg3 w2 hg3 M=>W ?_
 refine ya X (D8 (us:=[]) (vs:=[pg g2,pg g3]) X X X) (W ?_);exact gr1 X ⟨_,_,X,M.blk 1 X,M.blk 0 X,M.new0 1 X _ (by simp [As.blk]),M.new0 0 X _ (by simp [As.blk]),M.fr⟩
theorem pQ (gm:Nat) (q:Mq) (x:Pa) (wt:Wt) (w:Kw) (hbm:Blk w gm 25 q.cells) (hx:PaOk w x) (hrun:runP x=zz) (hq:MqOk w q) (hY:Lay0 w) :
 zt zv 26 #[.agg (Pa.cells x).toArray,.agg (Wt.cells wt).toArray,pg gm] w (BR w (.bool (MS q x wt))):=by
 obtain ⟨gc,hpp,hC,hnk,hmo⟩:=OT hx hrun;refine BO func26 ntmps26 X λM=>W ?_
 refine CU M X X λg3 w1 hg3 M=>CU M X X λg4 w2 hg4 M=>W ?_
 refine I0 M 27 CA λM=>oc 0 27 X X M (ol 1 27 X X X M (λ_ M=>(M.cell 0 X X)) (oa 2 27 X X M (λ_ M=>ES X X X) (oc 3 27 X X M (CC (d:=9) X (λh9=>?_) (λh9=>?_)))))
 ·refine ob 4 27 X kw X X M (λ_ M=>yp X) (ob 5 27 X kw X X M (λ_ M=>B3 X X (sc X) (M.cell 0 X X)) (ob 6 27 X kw X X M (λ_ M=>yp X) (ob 7 27 X kw X X M (λ_ M=>B3 X X (sc X) (Blk.c (hbm.fr0 M.fr) 0 X)) (ob 8 27 X kw X X M (λ_ M=>IV X X X) (oc 9 27 X X M (oc 10 27 X X M (CC (d:=16) X (λh16=>?_) (λh16=>?_))))))))
  ·refine ob 11 27 X kw X X M (λ_ M=>yp X) (ob 12 27 X kw X X M (λ_ M=>B3 X X (sc X) (M.cell 0 X X)) (ob 13 27 X kw X X M (λ_ M=>yp X) (ob 14 27 X kw X X M (λ_ M=>B3 X X (sc X) (Blk.c (hbm.fr0 M.fr) 1 X)) (ob 15 27 X kw X X M (λ_ M=>IV X X X) (oc 16 27 X X M (oc 17 27 X X M (CC (d:=23) X (λh23=>?_) (λh23=>?_))))))))
   ·refine ob 18 27 X kw X X M (λ_ M=>yp X) (ob 19 27 X kw X X M (λ_ M=>B3 X X (sc X) (M.cell 1 X X)) (ob 21 27 X kw X X M (λ_ M=>yp X) (ob 22 27 X kw X X M (λ_ M=>B3 X X (sc X) (Blk.c (hbm.fr0 M.fr) 2 X)) (BB 20 (G 26) zr X kw X X (AE X X call28) (a0d (hx.fr0 M.fr) hrun) ?_))));rintro _ w3 ⟨a',F0,rfl,hmd,hnw,hfw3⟩;refine ⟨_,X,λ_=>M.step hfw3,?_⟩;have M:=M.push hfw3 (As.mdp x.m a' F0) hmd hnw;refine BB 23 (G 29) zr X kw X X (AE X X call27) (Sf.fits_ok x.m.id x.m.nm a'.V q.V a'.vc q.vc (.slice a'.E x.m.els.length a'.ec) (.slice a'.F x.m.fls.length a'.fc) x.m.vars q.vars _ hmo.vars hq.ok (M.mdN 0 X).md.vars (hq.V.fr0 M.fr) (hY.fr0 M.fr).utf) ?_;rintro _ w4 ⟨rfl,hfw4⟩;refine ⟨_,X,λ_=>(M.drop 1).step hfw4,?_⟩;have M:=M.step hfw4;refine ob 24 27 X kw X X (M.drop 1) (λ_ M=>ES X X X) (oc 25 27 X X (M.drop 1) (oc 26 27 X X (M.drop 1) (fdn (W ?_))));exact gr1 X ⟨by unfold MS;simp [h9,h16,h23],M.fr⟩
   refine AQ 18 27 X M (AQ 19 27 X M (AQ 20 27 X M (AQ 21 27 X M (AQ 22 27 X M (AQ 23 27 X M (AQ 24 27 X M (oc 25 27 X X M (oc 26 27 X X M (fdn (W ?_))))))))));exact gr1 X ⟨by unfold MS;simp [h9,h16,h23],M.fr⟩
  refine AQ 11 27 X M (AQ 12 27 X M (AQ 13 27 X M (AQ 14 27 X M (AQ 15 27 X M (oc 16 27 X X M (oc 17 27 X X M (AQ 18 27 X M (AQ 19 27 X M (AQ 20 27 X M (AQ 21 27 X M (AQ 22 27 X M (AQ 23 27 X M (AQ 24 27 X M (oc 25 27 X X M (oc 26 27 X X M ?_)))))))))))))));refine fdn (W ?_);exact gr1 X ⟨by unfold MS;simp [h9,h16],M.fr⟩
 refine AQ 4 27 X M (AQ 5 27 X M (AQ 6 27 X M (AQ 7 27 X M (AQ 8 27 X M (oc 9 27 X X M (oc 10 27 X X M (AQ 11 27 X M (AQ 12 27 X M (AQ 13 27 X M (AQ 14 27 X M (AQ 15 27 X M (oc 16 27 X X M (oc 17 27 X X M (AQ 18 27 X M (AQ 19 27 X M ?_)))))))))))))));refine AQ 20 27 X M (AQ 21 27 X M (AQ 22 27 X M (AQ 23 27 X M (AQ 24 27 X M (oc 25 27 X X M (oc 26 27 X X M (fdn (W ?_))))))));exact gr1 X ⟨by unfold MS;simp [h9],M.fr⟩
open Go.ChangeShapes Go.WideShapes Go.ChangeAt Go.RowKit Go.Deep Go.Joins
section
theorem Y0 : zv.cellsOf 50=10:=zr
theorem R5 : zv.cellsOf 25=4:=zr
structure Pq where
 m:Md
 a:MdA
 i:In
 V:Ky
 vc:Nat
 T:Ky
 tc:Nat
def Pq.cells (x:Pq):Kx:=Md.cells x.m x.a++In.cells x.i x.V x.T x.vc x.tc
theorem Pq.len (x:Pq):x.cells.length=10:=rfl
structure PqOk (w:Kw) (x:Pq):Prop where
 str:MdStr x.m
 fb:x.m.fls.length*64≤zu
 eb:x.m.els.length≤zu
 tb:x.i.toks.length≤zu
 vb:x.i.vars.length*56≤zu
 md:MdIn w x.m x.a
 bd:BdOk x.i.vars
 wk:∀t∈x.i.toks,(t.worker.length:Int)<4611686018427387904
 V:Rd w x.V (x.i.vars.length*5) (AF Bd.cells x.i.vars)
 T:Rd w x.T (x.i.toks.length*9) (AF Tk.cells x.i.toks)
theorem PqOk.fr0 {w w':Kw} {x:Pq} (h:PqOk w x) (hf:Fr0 w w'):PqOk w' x:=⟨h.str,h.fb,h.eb,h.tb,h.vb,h.md.fr0 hf,h.bd,h.wk,h.V.fr0 hf,h.T.fr0 hf⟩
theorem PqOk.b {w:Kw} {x:Pq} (h:PqOk w x) (hn:x.m.els.length≤300):MdB x.m:=by
 have h1:=h.fb;have h2:=h.str.vars.len;exact ⟨h.str.id,h.str.nm,h.str.vars,A0,by simp only [zu] at h1;omega,A0,h.str.els,h.str.fls⟩
section
variable {H:Type} {enc:Ly × Kv→H} {w:Kw}
theorem TU {t e sz:Nat} {A:Ky} {len cap fuel:Nat} {x:DataW H × List MemPlace} (ht:zv.underlying t=G (.slice e)) (hc:zv.cellsOf e=sz) (hpos:0<sz) (h:DataW.trod enc zv w 0 (λ_=>zz) zz fuel t [.slice A len cap]=G x) (hz:Sized zv t x.1):len*zv.bytesOf e≤zu:=by
 obtain ⟨rows,D,hl,hD,_,hr,_,_,hn,hx,hd⟩:=LS ht hc hpos h;rcases hd with ⟨_,h0,_⟩|⟨sp,hs,_⟩
 ·rw [h0,Ft];exact Aj _
 rw [hs] at hz
 have h1:=hz ((D.length+sp.length)*zv.bytesOf e) (by simp [DataW.weights,ht]);rw [hD] at h1
 exact Bh (Ed _ (Dg _ _)) h1
theorem iB : zv.bytesOf 63=56:=zr
theorem xE : zv.bytesOf 110=64:=zr
theorem xD : (1≤zv.bytesOf 50)=True:=eq_true (by decide +kernel)
theorem xF : (1≤zv.bytesOf 106)=True:=eq_true (by decide +kernel)
theorem xC : (1≤zv.bytesOf 75)=True:=eq_true (by decide +kernel)
theorem uM {n b c:Nat} (h:n*b≤c) (hb:1≤b):n≤c:=Bh (Gt _ hb) h
theorem zG {cs:Kx} {fuel:Nat} {d:DataW H} {p:List MemPlace} (hsz:cs.length=5) (hf:DataW.trod enc zv w 0 (λ_=>zz) zz fuel 48 cs=G (d,p)) (hz:Sized zv 48 d) :
 ∃(m:Md) (a:MdA),cs=Md.cells m a∧MdStr m∧MdIn w m a∧m.fls.length*64≤zu∧m.els.length≤zu:=by
 obtain ⟨xs,n,_,hx,hl,hlen,hfl⟩:=DataW.trod_struct Ap hf
 match cs,hsz with
 | [c0,c1,c2,c3,c4],_=>
 match xs,hlen with
 | [y0,y1,y2,y3,y4],_=>
  have k0:DataW.trod enc zv w 0 (λ_=>zz) zz n 9 (List.take (zv.cellsOf 9) [c0,c1,c2,c3,c4])=G y0:=hfl 0 _ X;have k1:DataW.trod enc zv w 0 (λ_=>zz) zz n 9 (List.take (zv.cellsOf 9) [c1,c2,c3,c4])=G y1:=hfl 1 _ X;have k2:DataW.trod enc zv w 0 (λ_=>zz) zz n 23 (List.take (zv.cellsOf 23) [c2,c3,c4])=G y2:=hfl 2 _ X;have k3:DataW.trod enc zv w 0 (λ_=>zz) zz n 45 (List.take (zv.cellsOf 45) [c3,c4])=G y3:=hfl 3 _ X;have k4:DataW.trod enc zv w 0 (λ_=>zz) zz n 46 (List.take (zv.cellsOf 46) [c4])=G y4:=hfl 4 _ X;rw [DS] at k0 k1
  rw [P7] at k2
  rw [qA] at k3
  rw [q8] at k4
  injection hx with hx1 hx2
  rw [hx1] at hz
  obtain ⟨s0,e0,d0,_⟩:=DataW.trod_string Ad k0;obtain ⟨s1,e1,d1,_⟩:=DataW.trod_string Ad k1;obtain rfl:c0=_:=by simpa using e0
  obtain rfl:c1=_:=by simpa using e1
  have z0:=Sized.field (j:=0) Ap hz X X;have z1:=Sized.field (j:=1) Ap hz X X;have z2:=Sized.field (j:=2) Ap hz X X;have z3:=Sized.field (j:=3) Ap hz X X;have z4:=Sized.field (j:=4) Ap hz X X;rw [d0] at z0
  rw [d1] at z1
  obtain ⟨V,vn,vc,rfl⟩:=N7 Dk k2;obtain ⟨E,en,ec,rfl⟩:=N7 Fs k3;obtain ⟨F,fn,fc,rfl⟩:=N7 Ek k4;obtain ⟨lv,rfl,hbv,hrv⟩:=XI k2 z2;obtain ⟨le,rfl,hbe,hre⟩:=a2z k3 z3;have hfb:=TU Ek Y2 A0 k4 z4;rw [xE] at hfb
  have heb:=uM (TU Fs Y3 A0 k3 z3) (of_eq_true xF);obtain ⟨lf,rfl,hbf,hrf⟩:=a2y k4 z4;have hlt:=WS;have t0:s0.data.toList.length≤zu:=z0.text;have t1:s1.data.toList.length≤zu:=z1.text;refine ⟨⟨s0.data.toList,s1.data.toList,lv,le,lf⟩,⟨V,vc,E,ec,F,fc⟩,X,⟨by simp only;omega,by simp only;omega,hbv,λx hx=>?_,λx hx=>?_⟩,⟨hrv,hre,hrf⟩,hfb,heb⟩
  ·obtain ⟨h1,h2,h3,h4,h5,h6,h7⟩:=hbe x hx
   constructor<;>omega
  obtain ⟨h1,h2,h3,h4⟩:=hbf x hx
  constructor<;>omega
theorem zH {cs:Kx} {fuel:Nat} {d:DataW H} {p:List MemPlace} (hsz:cs.length=5) (hf:DataW.trod enc zv w 0 (λ_=>zz) zz fuel 42 cs=G (d,p)) (hz:Sized zv 42 d) :
 ∃(i:In) (V T:Ky) (vc tc:Nat),cs=In.cells i V T vc tc∧BdOk i.vars∧(∀t∈i.toks,(t.worker.length:Int)<4611686018427387904)∧Rd w V (i.vars.length*5) (AF Bd.cells i.vars)∧Rd w T (i.toks.length*9) (AF Tk.cells i.toks)∧i.toks.length≤zu∧i.vars.length*56≤zu:=by
 obtain ⟨xs,n,_,hx,hl,hlen,hfl⟩:=DataW.trod_struct Ew hf
 match cs,hsz with
 | [c0,c1,c2,c3,c4],_=>
 match xs,hlen with
 | [y0,y1,y2,y3,y4],_=>
  have k0:DataW.trod enc zv w 0 (λ_=>zz) zz n 3 (List.take (zv.cellsOf 3) [c0,c1,c2,c3,c4])=G y0:=hfl 0 _ X;rw [JC] at k0
  obtain ⟨a0,e0,_⟩:=DataW.trod_int Bm k0;obtain rfl:c0=_:=by simpa using e0
  have k1:DataW.trod enc zv w 0 (λ_=>zz) zz n 9 (List.take (zv.cellsOf 9) [c1,c2,c3,c4])=G y1:=hfl 1 _ X;rw [DS] at k1
  obtain ⟨s1,e1,_,_⟩:=DataW.trod_string Ad k1;obtain rfl:c1=_:=by simpa using e1
  have k2:DataW.trod enc zv w 0 (λ_=>zz) zz n 5 (List.take (zv.cellsOf 5) [c2,c3,c4])=G y2:=hfl 2 _ X;rw [xB] at k2
  obtain ⟨a2,e2,_,w2⟩:=DataW.trod_int Bo k2;obtain rfl:c2=_:=by simpa using e2
  have k3:DataW.trod enc zv w 0 (λ_=>zz) zz n 23 (List.take (zv.cellsOf 23) [c3,c4])=G y3:=hfl 3 _ X;have k4:DataW.trod enc zv w 0 (λ_=>zz) zz n 40 (List.take (zv.cellsOf 40) [c4])=G y4:=hfl 4 _ X;rw [P7] at k3
  rw [kN] at k4
  injection hx with hx1 hx2
  rw [hx1] at hz
  have z3:=Sized.field (j:=3) Ew hz X X;have z4:=Sized.field (j:=4) Ew hz X X;obtain ⟨V,vn,vc,rfl⟩:=N7 Dk k3;obtain ⟨T,tn,tc,rfl⟩:=N7 Gu k4;have hvb:=TU Dk O7 A0 k3 z3;rw [iB] at hvb
  obtain ⟨lv,rfl,hbv,hrv⟩:=XI k3 z3;have htb:=uM (TU Gu XZ A0 k4 z4) (of_eq_true xC);obtain ⟨lt,rfl,hbt,hrt⟩:=a0t k4 z4;have hlt:=WS;refine ⟨⟨a0,s1.data.toList,UInt8.ofNat a2.toNat,lv,lt⟩,V,T,vc,tc,by rw [dL w2];rfl,hbv,λt ht=>?_,hrv,hrt,htb,hvb⟩
  have:=(hbt t ht).2.2
  omega
theorem zE {r:Kx} {d:DataW H} (h:YH enc zv w 50 r d) (hz:Sized zv 50 d):∃x:Pq,r=x.cells∧PqOk w x:=by
 obtain ⟨fuel,p,hf⟩:=h;obtain ⟨xs,n,_,hx,hl,hlen,hfl⟩:=DataW.trod_struct Hw hf;rw [Y0] at hl
 match r,hl with
 | [c0,c1,c2,c3,c4,c5,c6,c7,c8,c9],_=>
 match xs,hlen with
 | [y0,y1],_=>
  have k0:DataW.trod enc zv w 0 (λ_=>zz) zz n 48 (List.take (zv.cellsOf 48) [c0,c1,c2,c3,c4,c5,c6,c7,c8,c9])=G (y0.1,y0.2):=hfl 0 _ X;have k1:DataW.trod enc zv w 0 (λ_=>zz) zz n 42 (List.take (zv.cellsOf 42) [c5,c6,c7,c8,c9])=G (y1.1,y1.2):=hfl 1 _ X;rw [i8] at k0
  rw [kO] at k1
  injection hx with hx1 hx2
  rw [hx1] at hz
  have z0:=Sized.field (j:=0) Hw hz X X;have z1:=Sized.field (j:=1) Hw hz X X;obtain ⟨m,a,e0,hs,hM,hfb,heb⟩:=zG X k0 z0;obtain ⟨i,V,T,vc,tc,e1,hb,hwk,hV,hT,htb,hvb⟩:=zH X k1 z1;refine ⟨⟨m,a,i,V,vc,T,tc⟩,?_,hs,hfb,heb,htb,hvb,hM,hb,hwk,hV,hT⟩
  show [c0,c1,c2,c3,c4]++[c5,c6,c7,c8,c9]=Md.cells m a++In.cells i V T vc tc
  exact congr (Bf _ e0) e1
theorem a2x {A:Ky} {len cap fuel:Nat} {x:DataW H × List MemPlace} (h:DataW.trod enc zv w 0 (λ_=>zz) zz fuel 22 [.slice A len cap]=G x) (hz:Sized zv 22 x.1) :
 ∃l:List Pq,l.length=len∧(∀b∈l,PqOk w b)∧Rd w A (l.length*10) (AF Pq.cells l)∧l.length≤zu:=by
 have hln:=uM (TU Jd Y0 A0 h hz) (of_eq_true xD);obtain ⟨rows,D,hl,hD,_,hr,_,_,hn,hx,hd⟩:=LS Jd Y0 A0 h
 have key:∀r∈rows,∃b:Pq,r=b.cells∧PqOk w b:=by
  rcases hd with ⟨_,h0,_⟩|⟨sp,hs,_⟩
  ·have:rows=[]:=Bl A0
   subst this;exact λr hr=>by (cases hr)
  rw [hs] at hz
  intro r hr;obtain ⟨i,hi⟩:=Cf hr;obtain ⟨d,hdi,hrd⟩:=hx i r hi;exact zE hrd (hz.elem Jd (Ah hdi))
 obtain ⟨l,rfl,hq⟩:=M6 Pq.cells (λb=>PqOk w b) rows key;rw [Br] at hl
 subst hl;exact ⟨l,X,hq,hr,hln⟩
end
end
end
end Go.Proofs.YtppmdnmjepkfaaaGreatDoor
