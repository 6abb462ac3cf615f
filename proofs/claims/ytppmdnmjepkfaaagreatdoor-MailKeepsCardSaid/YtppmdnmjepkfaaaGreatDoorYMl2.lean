/- Lemmas. -/
import Derived.Test.YtppmdnmjepkfaaaGreatDoorYSss
import Derived.LoopNIn
import Derived.TacticsIn
import Derived.OrdersIn
import Derived.RangeFuncCalls
import Derived.RangeFuncLeaves
import Derived.RangeFuncRecord
set_option maxHeartbeats 16000000
set_option maxRecDepth 100000
namespace Go.Proofs.YtppmdnmjepkfaaaGreatDoor
open Go.RowKit
open Tryz
open Decidable renaming decide→O
open Option renaming some→G,none→zx
open Bool renaming true→zz,false→zy
open True renaming intro→zw
open Go.Proofs.Tryz renaming prog→zv
open Go renaming Calls→zt
def yO (s:St):Int:=s.tk.id
structure SsP (l:List Pa) (ss:List St):Prop where
 perm:ss.Perm (HO l 0)
 st:Stf yO (HO l 0) ss
 s:Srt yO ss 0 ss.length
theorem wV (a b:Int):P6 a b<0↔a<b:=by
 unfold P6;simp only [decide_true,Gs,Dm,if_false,decide_eq_true_eq]
 split
 ·omega
 split<;>omega
theorem a0Q {x:Pa} {w:Kw} (hx:PaOk w x) (hp:x.p.isNone=zy) (next k:Int) (hY:Lay0 w) :
 zt zv 105 #[.pointer x.p,.agg (In.cells x.i x.V x.T x.vc x.tc).toArray,AA next,AA k] w (BR w (AA (if IE x.m x.c x.i next k=zz then 0 else 1))):=by
 rcases hx.cr with h|⟨gc,h,hC,hn,ho⟩
 ·rw [h] at hp;cases hp
 rw [h];exact wZ x.m gc x.c x.F x.i x.V x.T x.vc x.tc next k w ho hC (λq=>(a2J (sT hn) hC.cz q).2) (by have:=hx.tl;omega) hx.bd hx.wk hx.V hx.T hY
theorem U4 (a0:Int) (c1_0 c1_1 c1_2 c1_3 c1_4 c1_5 c1_6 c1_7 c1_8:Kv):zv.built 127 [(0,AA a0),(1,.agg #[c1_0,c1_1,c1_2,c1_3,c1_4,c1_5,c1_6,c1_7,c1_8])]=G #[AA a0,c1_0,c1_1,c1_2,c1_3,c1_4,c1_5,c1_6,c1_7,c1_8]:=zr
theorem YR : (zv.info? 127).map (λi=>(i.zero,i.size))=G (G (.agg #[AA 0,AA 0,str [],str [],AA 0,AA 0,str [],AA 0,.int .u8 0,AA 0]),10):=zr
theorem iQ (a b:St) (w:Kw):zt zv 107 #[.agg a.cells.toArray,.agg b.cells.toArray] w (BR w (AA (P6 a.tk.id b.tk.id))):=by
 refine BO func107 ntmps107 X λM=>W ?_
 refine CU M X X λg2 w1 hg2 M=>CU M X X λg3 w2 hg3 M=>W ?_
 refine CQ M 11 X X call108 (gX a.tk.id b.tk.id _) λw3 M=>W ?_
 exact gr1 X ⟨X,M.fr⟩
theorem dU (x:Pa):((x.p.isNone || (!decide ((x.i.st.toNat:Int)=1))) || (!decide ((if IE x.m x.c x.i 2147483647 1099511627776=zz then 0 else 1)=(0:Int)))) = !runP x:=by
 unfold runP
 cases x.p<;>(by_cases h:(x.i.st.toNat:Int)=1)<;>by_cases hc:IE x.m x.c x.i 2147483647 1099511627776=zz<;>simp [h,hc]
theorem dV {x:Pa} (h:((x.p.isNone || (!decide ((x.i.st.toNat:Int)=1))) || (!decide ((if IE x.m x.c x.i 2147483647 1099511627776=zz then 0 else 1)=(0:Int))))=zy):runP x=zz:=by rw [dU] at h;simpa using h
theorem dT {x:Pa} (h:((x.p.isNone || (!decide ((x.i.st.toNat:Int)=1))) || (!decide ((if IE x.m x.c x.i 2147483647 1099511627776=zz then 0 else 1)=(0:Int))))=zz):¬runP x=zz:=by rw [dU] at h;simpa using h
theorem nF (A:Ky) (cp:Nat) (l:List Pa) (w:Kw) (hP:Pts w A l) (hY:Lay0 w) :
 zt zv 55 #[.slice A l.length cp] w λe w'=>∃ss A' c',e=.returned (.slice A' ss.length c')∧SsP l ss∧w'.ownsRow w.heap.size 127 10 (.slice A' ss.length c') ss.length (AF St.cells ss)∧Fr0 w w':=by
 have hlen:=hP.len;refine BO func55 ntmps55 X λM=>W ?_
 have M:=M.nilOwn 127 10;refine flp [9,8] (λze e wr mz=>∃(j:Nat) (acc:List St) (A3:Ky) (c3:Nat),e=(3,.slice A3 acc.length c3)::(10,AA (j:Int))::ze∧Mem w AR [As.own w.heap.size 127 10 (.slice A3 acc.length c3) acc.length (AF St.cells acc)] wr∧(j≤l.length)∧(acc=HO (l.take j) 0)∧(acc.length≤j*300)∧mz=l.length-j) ⟨0,[],zx,0,X,M,Aj _,X,Af _,X⟩ ?_;rintro _ w1 _ ⟨j,acc,A3,c3,rfl,M,hj,hacc,hal,rfl⟩;refine W ?_;refine AC X (λh11=>?_) (λh11=>?_)
 ·have h11p:=odt h11;refine W ?_;obtain ⟨x,_,_,hx,hA_x⟩:=ex5 (i:=j) ((hP.fr0 M.fr).rd);have htl_x:=(hP.ok _ (Ah hx)).tl;refine ya X (AK j hA_x X X X (sl X) A0) (ya X (AJ X X (BF Pa.len ((hP.fr0 M.fr).rd) hA_x hx) Jc X IF) (CE M X Q7 λg5 w2 hg5 M=>yb X (BX M 0 X X IF X λw3 M=>W ?_)));refine ya X (N4 X X X (pt X)) (yb X (fvm M 5 [4,5,10,9,8,3] [(23,.bool (x.p.isNone || (!decide ((x.i.st.toNat:Int)=1))))] ?_ (λk18=>?_)))
  ·intro w4 M;refine yb X (fvm M 7 [4,5,10,9,8,3] [(31,.bool ((x.p.isNone || (!decide ((x.i.st.toNat:Int)=1))) || (!decide ((if IE x.m x.c x.i 2147483647 1099511627776=zz then 0 else 1)=(0:Int)))))] ?_ (λk24=>?_))
   ·intro w5 M;refine W ?_;refine AC X (λh31=>?_) (λh31=>?_)
    ·have h31p:=bd h31;refine W ?_;refine fag ⟨j+1,acc,A3,c3,X,(M.pk [1]),?_,?_,?_,X⟩
     ·omega
     ·rw [UJ hx,←hacc]
      first
       | (rw [JZ,Ae (dT h31)];simp;done)
       | (rw [hacc2,JZ,Ac (dV h31)];done)
       | exact hacc2
     first
      | omega
      | (simp;omega)
    have h31p:=bd h31;refine W ?_;refine flp [35,34,10,9,8,4] (λze e wr mz=>∃(k:Nat) (acc2:List St) (A4:Ky) (c4:Nat),e=(3,.slice A4 acc2.length c4)::(36,AA (k:Int))::ze∧Mem w AR [As.blk g5 44 (Pa.cells x),As.own w.heap.size 127 10 (.slice A4 acc2.length c4) acc2.length (AF St.cells acc2)] wr∧(k≤x.i.toks.length)∧(acc2=acc++(x.i.toks.take k).map (λt=>⟨(j:Int),t⟩))∧(acc2.length≤j*300+k)∧mz=x.i.toks.length-k) ⟨0,acc,A3,c3,X,M,Aj _,(Cd _).symm,A0,rfl⟩ ?_;rintro _ w6 _ ⟨k,acc2,A4,c4,rfl,M,hk,hacc2,hal2,rfl⟩;refine W ?_;refine AC X (λh37=>?_) (λh37=>?_)
    ·have h37p:=odt h37;refine W ?_;obtain ⟨y,_,_,hy,hA_y⟩:=ex5 (l:=x.i.toks) (k:=9) (i:=k) (((hP.fr0 M.fr).ok _ (Ah hx)).T);refine ya X (AK k hA_y X X X (sl X) A0) (ya X (AJ X X (BF Tk.len (((hP.fr0 M.fr).ok _ (Ah hx)).T) hA_y hy) Bw X BE) (CE M X HX λg7 w7 hg7 M=>BX M 0 X X BE X λw8 M=>W ?_));refine CF M 0 X X Bw BE X (ya X (B8 (parts:=[(0,_),(1,_)]) X X (U4 _ _ _ _ _ _ _ _ _ _)) (CP M kw X X [.agg #[AA (j:Int),AA y.id,str y.loc,str y.on,AA y.born,AA y.tries,str y.worker,AA y.until_,.int .u8 (y.inc.toNat:Int),AA y.err]] ([AA (j:Int),AA y.id,str y.loc,str y.on,AA y.born,AA y.tries,str y.worker,AA y.until_,.int .u8 (y.inc.toNat:Int),AA y.err]) X X X X underlying124 YR X X (FZ X) X λg44 w9 hg44 M=>CD (len':=(acc2++[(⟨(j:Int),y⟩:St)]).length) (xs':=AF St.cells (acc2++[(⟨(j:Int),y⟩:St)])) M 3 kw X X X X X X (M.rdBlk 0 X X) underlying124 XE X AV (BN X) (Af _) (Af _) D4 (by unfold maxLen;first|omega|(simp;omega)) (by simp) (by first|exact (AY _ _ _).symm|simp [AF,St.cells,Tk.cells]) λA45 c45 w10 M=>W ?_));refine fag ⟨k+1,acc2++[(⟨(j:Int),y⟩:St)],A45,c45,X,(M.pk [2,3]),?_,?_,?_,X⟩
     ·omega
     ·rw [AT hy,Bu,←Cg,←hacc2];rfl
     first
      | omega
      | (simp;omega)
    have h37p:=odf h37;refine W ?_;obtain rfl:k=x.i.toks.length:=A0
    rw [Bc] at hacc2
    refine W ?_;refine fag ⟨j+1,acc2,A4,c4,X,(M.pk [1]),?_,?_,?_,X⟩
    ·omega
    ·rw [UJ hx,←hacc]
     first
      | (rw [JZ,Ae (dT h31)];simp;done)
      | (rw [hacc2,JZ,Ac (dV h31)];done)
      | exact hacc2
    first
     | omega
     | (simp;omega)
   refine A1 (d:=24) X (λh24=>?_) (λh24=>?_)
   ·refine T7 ?_;exact k24 M
   refine W ?_;refine yd X (AJ (xs:=[AA x.i.id,str x.i.mdl,.int .u8 (x.i.st.toNat:Int),.slice x.V x.i.vars.length x.vc,.slice x.T x.i.toks.length x.tc]) X X (DO (M.blk 0 X) 1 5 X X) Ew X EN) (sxl_call (G 29) kw X X (AE X X call105) (a0Q ((hP.fr0 M.fr).ok _ (Ah hx)) (FL h24).1 2147483647 1099511627776 (hY.fr0 M.fr)) ?_);rintro _ w11 ⟨rfl,hfw11⟩;refine cq ?_;have M:=M.step hfw11;refine T2 ?_;exact k24 M
  refine A1 (d:=18) X (λh18=>?_) (λh18=>?_)
  ·refine T5 ?_;exact k18 M
  refine T5 ?_;exact k18 M
 have h11p:=odf h11;refine W ?_;obtain rfl:j=l.length:=A0
 have hacc1:=hacc;rw [Bc] at hacc1
 refine W ?_;refine cl 49 X (AE X X call106) (sF w.heap.size A3 c3 acc.length 107 (λa b=>P6 a.tk.id b.tk.id) yO acc _ call107 (λa b w=>iQ a b w) (λa b=>wV _ _) A0 X (M.own 0 X)) ?_;rintro _ w12 ⟨rfl,ls,hpl,hst,how12,hfw12⟩;refine cq ?_;have M:=M.upd 0 X hfw12 (As.own _ 127 10 (.slice A3 acc.length c3) acc.length (AF St.cells ls)) how12 (λg hg=>.inl hg);have hll:ls.length=acc.length:=hpl.length_eq;rw [←hll] at M ⊢
 refine W ?_;exact gr1 X ⟨_,_,_,X,⟨hacc1▸hpl,hacc1▸hst.1,hll▸hst.2⟩,M.own 0 X,M.fr⟩
section
def rF : Option Nat→Fence
 | none=>Fence.wide
 | some l=>Fence.wide.inRound l
theorem UO (rd:Option Nat) (f:FuncId):(rF rd).fn f:=by cases rd<;>trivial
theorem S6 (rd:Option Nat):(rF rd).depth=zx:=by cases rd<;>rfl
theorem eQ (rd:Option Nat):(rF rd).round=rd:=by cases rd<;>rfl
theorem jK (a:Act) (d:Option Tmp) (v:Kv):(a.put d v).defers=a.defers:=by cases d<;>rfl
section
variable {P:Lw} {rd:Option Nat} {w:Kw}
theorem Y4 {f:FuncId} {args:Array Kv} {R:Ending→Kw→Prop} (h:zt P f args w R) (k:Nat):CallsIn (rF rd) k P f args w R:=by
 cases rd with
 | none=>exact callsIn_wide.2 h
 | some l=>exact CallsIn.inRound l (callsIn_wide.2 h)
theorem sR {l:Nat} {f:FuncId} {tmps:Array Kv} {asg body:Code} {R:Ending→Kw→Prop} (h:RoundIn Fence.wide 2 P l f tmps asg body w R) (k:Nat):RoundIn (rF rd) k P l f tmps asg body w R:=by
 refine ⟨UO rd f,λc cs _=>?_⟩
 have:=h.2 c cs (room_wide _)
 cases rd<;>exact this
end
theorem aM (w:Kw) (o:Obj) {r:Nat} (hr:r<w.heap.size):(w.alloc o).heap[r]?=w.heap[r]?:=by
 show (w.heap.push o)[r]?=_
 rw [Array.getElem?_push,Ae A0]
end
end Go.Proofs.YtppmdnmjepkfaaaGreatDoor
namespace Go.Proofs.YtppmdnmjepkfaaaGreatDoor.Sf
open Go.RowKit
open Decidable renaming decide→O
open Option renaming some→G,none→zx
open Bool renaming true→zz,false→zy
open True renaming intro→zw
open Go.Proofs.Tryz renaming prog→zv
open Go renaming Calls→zt
structure Agr (D:List Deferred) (n:Nat) (e:Env) (a:Act):Prop where
 size:a.tmps.size=n
 defers:a.defers=D
 get:∀k v,e.get k=G v→a.tmps[k]?=G v
theorem Agr.eval {D:List Deferred} {n:Nat} {e:Env} {a:Act} (h:Agr D n e a):Ag e a.eval:=λx v hx=>by
 cases x with
 | tmp t=>have:=h.get t v hx;simp [Act.eval,this]
 | const c=>injection hx
 | global g=>injection hx
 | func f=>injection hx
theorem Agr.weak {D:List Deferred} {n:Nat} {e r:Env} {a:Act} (h:Agr D n e a) (hl:r.le e):Agr D n r a:=⟨h.size,h.defers,λk v hk=>h.get k v (Env.le_get hl k v hk)⟩
theorem Agr.put {D:List Deferred} {n:Nat} {e:Env} {a:Act} (h:Agr D n e a) {d:Nat} (hd:d<n) (v:Kv):Agr D n ((d,v)::e) (a.put (G d) v) where
 size:=by simp [Act.put,h.size]
 defers:=by rw [jK];exact h.defers
 get k u hk:=by
  simp only [Act.put]
  by_cases hkd:d=k
  ·subst hkd
   have:u=v:=by simp [Env.get] at hk;exact hk.symm
   rw [this,Array.getElem?_setIfInBounds_self_of_lt (by rw [h.size];exact hd)]
  rw [Dx hkd];refine h.get k u ?_;have hb:Nat.beq d k=zy:=by cases hq:Nat.beq d k with|false=>rfl|true=>exact absurd (Cn hq) hkd
  simpa [Env.get,hkd,Ne.symm hkd,hb] using hk
theorem Agr.ins {D:List Deferred} {n:Nat} {e:Env} {a:Act} (h:Agr D n e a) {d:Option Tmp} (hd:JW n d=zz) (v:Kv):Agr D n (e.ins d v) (a.put d v):=by
 cases d with
 | none=>exact h
 | some d=>exact h.put (D6 hd) v
structure Sx (rd:Option Nat) (D:List Deferred) (P:Lw) (c:Code) (Q:Exit→Act→Kw→Prop) (n:Nat) (e:Env) (w:Kw):Prop where
 run:∀a,Agr D n e a→c.wpIn (rF rd) 2 P Q a w
structure SxL (rd:Option Nat) (D:List Deferred) (P:Lw) (ops:Array Oper) (Q:Exit→Act→Kw→Prop) (n:Nat) (l:List Oper) (e:Env) (w:Kw):Prop where
 run:∀a,Agr D n e a→wpListIn (rF rd) 2 P ops Q l a w
structure QX (D:List Deferred) (Q:Exit→Act→Kw→Prop) (x:Exit) (n:Nat) (e:Env) (w:Kw):Prop where
 run:∀a,Agr D n e a→Q x a w
section
variable {rd:Option Nat} {D:List Deferred} {P:Lw} {Q:Exit→Act→Kw→Prop} {n:Nat} {e:Env} {w:Kw}
theorem sx_seq {x y:Code} (h:Sx rd D P x (Exit.then (y.wpIn (rF rd) 2 P Q) Q) n e w):Sx rd D P (Code.seq x y) Q n e w:=⟨λa ha=>wpIn_seq (h.run a ha)⟩
theorem sx_block {id:Nat} {c:Code} (h:Sx rd D P c (Exit.inBlock id Q) n e w):Sx rd D P (Code.block id c) Q n e w:=⟨λa ha=>wpIn_block (h.run a ha)⟩
theorem sx_skip (h:QX D Q .normal n e w):Sx rd D P Code.skip Q n e w:=⟨λa ha=>wpIn_skip (h.run a ha)⟩
theorem sx_exit {id:Nat} (h:QX D Q (.exit id) n e w):Sx rd D P (Code.exit id) Q n e w:=⟨λa ha=>wpIn_exit (h.run a ha)⟩
theorem sx_ret (h:QX D Q .ret n e w):Sx rd D P Code.ret Q n e w:=⟨λa ha=>wpIn_ret (h.run a ha)⟩
theorem sx_true {c:Lz} {x y:Code} (hc:ev e c=G (.bool zz)) (h:Sx rd D P x Q n e w):Sx rd D P (Code.cond c x y) Q n e w:=⟨λa ha=>wpIn_cond_true (ha.eval _ _ hc) (h.run a ha)⟩
theorem sx_false {c:Lz} {x y:Code} (hc:ev e c=G (.bool zy)) (h:Sx rd D P y Q n e w):Sx rd D P (Code.cond c x y) Q n e w:=⟨λa ha=>wpIn_cond_false (ha.eval _ _ hc) (h.run a ha)⟩
theorem sx_region {id:Nat} {l:List Oper} (h:SxL rd D P l.toArray Q n l e w):Sx rd D P (Code.region id l.toArray zy) Q n e w:=⟨λa ha=>wpIn_region_list (show wpListIn (rF rd) 2 P l.toArray Q l.toArray.toList a w from h.run a ha)⟩
theorem sxl_nil {ops:Array Oper} (h:QX D Q .normal n e w):SxL rd D P ops Q n [] e w:=⟨λa ha=>wpListIn_nil (h.run a ha)⟩
theorem qx_seq {y:Code} {Q':Exit→Act→Kw→Prop} (h:Sx rd D P y Q n e w):QX D (Exit.then (y.wpIn (rF rd) 2 P Q) Q') .normal n e w:=⟨λa ha=>h.run a ha⟩
theorem qx_then_exit {K:Act→Kw→Prop} {id:Nat} (h:QX D Q (.exit id) n e w):QX D (Exit.then K Q) (.exit id) n e w:=⟨λa ha=>h.run a ha⟩
theorem qx_then_ret {K:Act→Kw→Prop} (h:QX D Q .ret n e w):QX D (Exit.then K Q) .ret n e w:=⟨λa ha=>h.run a ha⟩
theorem qx_block_normal {id:Nat} (h:QX D Q .normal n e w):QX D (Exit.inBlock id Q) .normal n e w:=⟨λa ha=>h.run a ha⟩
theorem qx_block_ret {id:Nat} (h:QX D Q .ret n e w):QX D (Exit.inBlock id Q) .ret n e w:=⟨λa ha=>h.run a ha⟩
theorem qx_block_hit {id:Nat} (h:QX D Q .normal n e w):QX D (Exit.inBlock id Q) (.exit id) n e w:=.mk λa ha=>by simp only [Exit.inBlock,if_true];exact h.run a ha
def Wn (ops:Array Oper) (e:Env) (o:Oper):Prop:=∀D n a,Agr D n e a→Region.wanted o (yielded ops a.tmps)=zz
theorem wn_none {ops:Array Oper} {o:Oper} (h:o.guard=zx):Wn ops e o:=λ_ _ a _=>by simp [Region.wanted,h]
theorem wn_on {ops:Array Oper} {o:Oper} {j d:Nat} {b:Bool} (h:o.guard=G (j,b)) (hj:(ops[j]?).bind (·.dst)=G d) (hb:e.get d=G (.bool b)):Wn ops e o:=λ_ _ a ha=>by
 simp [Region.wanted,h,yielded,hj,ha.get d _ hb]
theorem sxl_off {ops:Array Oper} {o:Oper} {rest:List Oper} {j d d':Nat} {b c:Bool} (h:o.guard=G (j,b)) (hj:(ops[j]?).bind (·.dst)=G d) (hb:e.get d=G (.bool c)) (hne:(c==b)=zy) (hd:o.dst=G d') (hn:Nat.blt d' n=zz)
 (k:SxL rd D P ops Q n rest ((d',undef)::e) w):SxL rd D P ops Q n (o::rest) e w:=.mk λa ha=>by
 have hw:Region.wanted o (yielded ops a.tmps)=zy:=by
  simp only [Region.wanted,h,yielded,hj,ha.get d _ hb,Fh]
  cases c<;>cases b<;>simp_all
 unfold wpListIn;rw [Ae (by simp [hw]),hd];exact ⟨λf _=>UO rd f,k.run _ (ha.put (D6 hn) _)⟩
theorem sxl_y {ops:Array Oper} {o:Oper} {rest:List Oper} {d:Nat} {v:Kv} (hw:Wn ops e o) (hd:o.dst=G d) (hn:Nat.blt d n=zz) (hy:Y P e o w v)
 (k:SxL rd D P ops Q n rest ((d,v)::e) w) (hnd:∀c,o.op≠.defer c:=by intro c h;cases h):SxL rd D P ops Q n (o::rest) e w:=.mk λa ha=>by
 unfold wpListIn;rw [Ac (hw D n a ha)];refine ⟨λf _=>UO rd f,?_⟩;rw [Oper.semAt_eq _ _ _ hnd,hy _ ha.eval,Oper.uponIn_value,hd];exact k.run _ (ha.put (D6 hn) v)
theorem sxl_does {ops:Array Oper} {o:Oper} {rest:List Oper} {R:Kv→Kw→Prop} (d:Option Tmp) (hw:Wn ops e o) (hd:o.dst=d) (hn:JW n d=zz) (hy:∀ρ,Ag e ρ→K7 P ρ o w R)
 (k:∀v w',R v w'→SxL rd D P ops Q n rest (e.ins d v) w') (hnd:∀c,o.op≠.defer c:=by intro c h;cases h):SxL rd D P ops Q n (o::rest) e w:=.mk λa ha=>by
 unfold wpListIn;rw [Ac (hw D n a ha)];refine ⟨λf _=>UO rd f,?_⟩;rw [Oper.semAt_eq _ _ _ hnd];obtain ⟨u,w',hr|⟨hr,rfl⟩,hR⟩:=hy _ ha.eval
 ·rw [hr,Oper.uponIn_value,hd];exact (k u w' hR).run _ (ha.ins hn u)
 rw [hr,Oper.uponIn_skip,hd];exact (k _ w' hR).run _ (ha.ins hn _)
theorem sxl_call {ops:Array Oper} {o:Oper} {rest:List Oper} {f:FuncId} {args:Array Kv} {R:Ending→Kw→Prop} (d:Option Tmp) (hw:Wn ops e o) (hd:o.dst=d) (hn:JW n d=zz) (hy:YC P e o w f args) (hc:zt P f args w R)
 (k:∀x w',R x w'→∃v,x=.returned v∧SxL rd D P ops Q n rest (e.ins d v) w') (hnd:∀c,o.op≠.defer c:=by intro c h;cases h):SxL rd D P ops Q n (o::rest) e w:=.mk λa ha=>by
 unfold wpListIn;rw [Ac (hw D n a ha)];refine ⟨λf _=>UO rd f,?_⟩;rw [Oper.semAt_eq _ _ _ hnd,hy _ ha.eval,Oper.uponIn_enter];refine ⟨λh=>by rw [S6] at h;(cases h),(Y4 hc 1).mono λx w' hR=>?_⟩;obtain ⟨v,rfl,h⟩:=k x w' hR;simp only [hd];exact h.run _ (ha.ins hn v)
theorem sxl_round {ops:Array Oper} {o:Oper} {rest:List Oper} {x:Lz} {xs:List Lz} {vs:Kx} {ts:Array Ly} {lr:Nat} {r:Loop} {R:Ending→Kw→Prop} (d:Option Tmp) (hw:Wn ops e o) (hd:o.dst=d) (hn:JW n d=zz)
 (ho:o.op=.call { callee:=.value x,args:=xs.toArray,argTypes:=ts }) (hx:ev e x=G (.func (.yield lr) #[] #[])) (hxs:evs e xs=G vs) (hh:w.heap[lr]?=G (.loop r)) (hl:vs.length=r.params.size)
 (hc:RoundIn Fence.wide 2 P lr r.fn ((r.params.zip vs.toArray).foldl (λtmps (t,a)=>tmps.setIfInBounds t a) r.tmps) r.assign r.body w R)
 (k:∀x w',R x w'→∃v,x=.returned v∧SxL rd D P ops Q n rest (e.ins d v) w'):SxL rd D P ops Q n (o::rest) e w:=.mk λa ha=>by
 unfold wpListIn;rw [Ac (hw D n a ha)];refine ⟨λf _=>UO rd f,?_⟩;rw [Oper.semAt_eq _ _ _ (λc h=>by rw [ho] at h;cases h)]
 have hrun:(execOp a.eval o).run P w=(Instr.yield lr vs.toArray).run P w:=by
  have h1:a.eval x=.func (.yield lr) #[] #[]:=ha.eval _ _ hx;have h2:=ha.eval.all hxs;unfold execOp
  simp [ho,resolve,h1,Deferred.ofValue,invoke,h2]
 rw [hrun,run_yield (P:=P) hh (by simpa using hl),Oper.uponIn_round];refine ⟨λh=>by rw [S6] at h;(cases h),(sR hc 1).mono λx w' hR=>?_⟩;obtain ⟨v,rfl,h⟩:=k x w' hR;simp only [hd];exact h.run _ (ha.ins hn v)
def Again (D:List Deferred) (I:Env→Kw→Nat→Prop) (n m:Nat) (a:Act) (w:Kw):Prop:=∃e m',I e w m'∧m'<m∧Agr D n e a
theorem sx_loop {c:Code} (I:Env→Kw→Nat→Prop) {m0:Nat} {e0:Env} (h0:I e0 w m0) (hl:e0.le e)
 (round:∀e w m,I e w m→Sx rd D P c (Exit.then (Again D I n m) Q) n e w):Sx rd D P (Code.loop c) Q n e w:=by
 refine ⟨λa ha=>wpIn_loop_rounds (m0+1) ?_⟩
 have key:∀k e w a m,m<k→I e w m→Agr D n e a→Code.roundsIn (rF rd) 2 P c Q k a w:=by
  intro k
  induction k with
  | zero=>intro e w a m hm;omega
  | succ k ih=>
   intro e w a m hm hI hA;rw [roundsIn_succ];refine wpIn_mono ((round e w m hI).run a hA) λx a' w' hx=>?_
   cases x with
   | normal=>
    obtain ⟨e',m',h1,h2,h3⟩:=hx;exact ih e' w' a' m' A0 h1 h3
   | exit id=>exact hx
   | goto l=>exact hx
   | ret=>exact hx
   | panic ch=>exact hx
   | outgrown=>exact hx
 exact key (m0+1) e0 w a m0 A0 h0 (ha.weak hl)
theorem qx_again {I:Env→Kw→Nat→Prop} {m:Nat} (r:Env) (m':Nat) (hI:I r w m') (hm:m'<m) (hl:r.le e):QX D (Exit.then (Again D I n m) Q) .normal n e w:=⟨λ_ ha=>⟨r,m',hI,hm,ha.weak hl⟩⟩
theorem sx_enter {f:FuncId} {fn:Func} {c:Code} {vs:Kx} {R:Ending→Kw→Prop} (hf:P.funcs[f]?=G fn) (hb:fn.body=G c) (hn:fn.ntmps=n) (hl:Nat.ble vs.length n=zz)
 (h:Sx zx [] P c (bodyPostM Fence.wide 2 P fn R) n (RA 0 vs) w):zt P f vs.toArray w R:=by
 refine (callsIn_wide (n:=2)).1 (callsIn_of_wp_marks hf hb zw (h.run _ ⟨?_,X,λk v hk=>?_⟩))
 ·have:=Fa hl
  simp;omega
 obtain ⟨_,h2⟩:=R9 vs 0 k v hk;rw [Nat.sub_zero] at h2
 have hlt:=(An.1 h2).1;rw [Im (by simpa using hlt)]
 simpa using h2
theorem qx_ret1 {fn:Func} {R:Ending→Kw→Prop} {t:Nat} {v:Kv} (hr:fn.results = #[.tmp t]) (hv:e.get t=G v) (h:R (.returned v) w):QX [] (bodyPostM Fence.wide 2 P fn R) .ret n e w:=.mk λa ha=>by
 have:(results fn a.tmps).run P w=.ok v w:=by simp [results,hr,ha.get t v hv]
 show LeavesInM _ _ _ _ _ _ a.defers _ _
 rw [ha.defers];exact ⟨v,this,h⟩
theorem qx_ret0 {fn:Func} {R:Ending→Kw→Prop} {x:Exit} (hx:x=.ret∨x=.normal) (hr:fn.results = #[]) (h:R (.returned (.tuple #[])) w):QX [] (bodyPostM Fence.wide 2 P fn R) x n e w:=.mk λa ha=>by
 have:(results fn a.tmps).run P w=.ok (.tuple #[]) w:=by simp [results,hr]
 rcases hx with rfl|rfl
 ·show LeavesInM _ _ _ _ _ _ a.defers _ _
  rw [ha.defers];exact ⟨_,this,h⟩
 show LeavesInM _ _ _ _ _ _ a.defers _ _
 rw [ha.defers];exact ⟨_,this,h⟩
theorem bJ {fn:Func} {R:Ending→Kw→Prop} {t b:Nat} {v:Kv} (hr:fn.results = #[.tmp t]) (hv:e.get t=G v) (hb:w.heap[b]?=G (.deferred (G []))) (h:R (.returned v) (w.putObj b (.deferred zx))) :
 QX [{ target:=.collected b,args := #[] }] (bodyPostM Fence.wide 2 P fn R) .ret n e w:=.mk λa ha=>by
 have:(results fn a.tmps).run P (w.putObj b (.deferred zx))=.ok v (w.putObj b (.deferred zx)):=by simp [results,hr,ha.get t v hv]
 show LeavesInM _ _ _ _ _ _ a.defers _ _
 rw [ha.defers];exact ⟨by simp,.inl ⟨b,_,rfl,run_takeDeferred hb,⟨v,this,h⟩⟩⟩
def ZF (w:Kw) (fn:FuncId) (tm:Array Kv) (ps:Array Nat) (asg body:Code):Loop:={ state:=.ready,pending:=zx,fn:=fn,tmps:=tm,params:=ps,assign:=asg,body:=body,defers:=w.heap.size }
def U1 (w:Kw) (fn:FuncId) (tm:Array Kv) (ps:Array Nat) (asg body:Code):Kw:=(w.alloc (.deferred (G []))).alloc (.loop (ZF w fn tm ps asg body))
theorem rU {g:Lz} {ps:Array Nat} {asg body:Code} {f:FuncId} {cs:Kx} (hg:ev e g=G (.func (.func f) #[] cs.toArray)) (hc:∀(us:Array Kv) (w:Kw),(callFunc f us).run P w=.ok (.enter f us) w)
 (h:∀fn tm rc,tm.size=n→(∀k v,e.get k=G v→tm[k]?=G v)→rc=ZF w fn tm ps asg body→zt P f ((.func (.yield (w.heap.size+1)) #[] #[])::cs).toArray ((w.alloc (.deferred (G []))).alloc (.loop rc))
  λx w3=>∃v r,x=.returned v∧w3.heap[w.heap.size+1]?=G (.loop r)∧r.state≠.busy∧r.pending=zx∧QX ({ target:=.collected w.heap.size,args := #[] }::D) Q .normal n e (w3.putObj (w.heap.size+1) (.loop { r with state:=.exhausted }))) :
 Sx zx D P (Code.rangeFunc g ps asg body) Q n e w:=.mk λa ha=>by
 refine wpIn_rangeFunc λfn _=>?_
 have hu:a.eval g=.func (.func f) #[] cs.toArray:=ha.eval _ _ hg
 refine ⟨w.heap.size+1,[{ target:=.collected w.heap.size,args := #[] }],U1 w fn a.tmps ps asg body,{ target:=.fn (.func f) cs.toArray,args := #[] ++ #[.func (.yield (w.heap.size+1)) #[] #[]] },U1 w fn a.tmps ps asg body,f,((.func (.yield (w.heap.size+1)) #[] #[])::cs).toArray,U1 w fn a.tmps ps asg body,
  by rw [eQ,run_enterLoop_outer];rfl,?_,λf' _=>UO _ f',?_,λhd=>by rw [S6] at hd;(cases hd),?_⟩
 ·simp only [resolve,hu,Deferred.ofValue,Sem.run_pure];simp [Act.eval]
 ·unfold invoke
  simp [hc]
 refine (Y4 (h fn a.tmps _ ha.size ha.get X) 1).mono λx w3 hR=>?_
 obtain ⟨v,r,rfl,hr,hb,hp,hq⟩:=hR;refine ⟨_,_,run_endLoop hr hb,?_⟩;have Xx:=hq.run { a with defers:=[{ target:=.collected w.heap.size,args := #[] }]++a.defers } ⟨ha.size,by show [({ target:=.collected w.heap.size,args := #[] }:Deferred)]++a.defers=_;rw [ha.defers];rfl,ha.get⟩;rw [hp] at Xx ⊢
 exact Xx
end
end Go.Proofs.YtppmdnmjepkfaaaGreatDoor.Sf
namespace Go.Proofs.YtppmdnmjepkfaaaGreatDoor
open Go.RowKit
open Decidable renaming decide→O
open Option renaming some→G,none→zx
open Bool renaming true→zz,false→zy
open True renaming intro→zw
open Go.Proofs.Tryz renaming prog→zv
open Go renaming Calls→zt
section
section
variable {P:Lw} {ops:Array Oper} {md:Region.Mode} {w:Kw}
theorem YJ {o:Oper} {a:Act} {K:Act→Prop} {K':Act→Kw→Prop} {Q':Exit→Act→Kw→Prop} (h:∀a,K a→K' a w) (hh:o.still P a w K):o.wpIn Fence.wide 2 P a w K' Q':=by
 unfold Oper.still at hh
 refine ⟨λf _=>trivial,?_⟩;rw [show Fence.wide.round=zx from rfl,Oper.semAt_none]
 generalize (execOp a.eval o).run P w=r at *
 cases r with
 | ok n w'=>
  cases n<;>simp only [Oper.stillUpon] at hh<;>simp only [Oper.uponIn]
  case enter f args=>
   obtain ⟨rfl,v,hc,hn⟩:=hh;exact ⟨λh=>(by cases h),callsIn_wide.2 (hc.mono λe w'' ⟨he,hw⟩=>by subst he;subst hw;exact h _ hn)⟩
  all_goals (obtain ⟨rfl,h2⟩:=hh;exact h _ h2)
 | halt x w'=>simp only [Oper.stillUpon] at hh
theorem VY {i:Nat} {a:Act} {K:Act→Prop} {K':Act→Kw→Prop} {Q':Exit→Act→Kw→Prop} (h:∀a,K a→K' a w) (hh:stOp P ops w i K a):wpOpIn Fence.wide 2 P ops Q' i K' a w:=by
 unfold stOp at hh
 unfold wpOpIn
 split
 ·rename_i ho;simp only [ho] at hh;exact h _ hh
 rename_i o ho
 simp only [ho] at hh
 split
 ·rename_i hw;simp only [hw,if_true] at hh;exact YJ h hh
 rename_i hw;simp only [hw] at hh;exact ⟨λ_ _=>trivial,h _ hh⟩
theorem OA {n g:Nat} {L:Array Bool→Act→Prop} {Q':Exit→Act→Kw→Prop} (hL:∀listed a,L listed a→wpAnyIn Fence.wide 2 P md ops Q' g listed a w) :
 ∀(f:Nat) (listed:Array Bool) (a:Act),wpAnyL P md ops w n L f listed a→wpAnyIn Fence.wide 2 P md ops Q' (f+g) listed a w
 | 0,listed,a,h=>by rw [Cr];exact hL _ _ h
 | f+1,listed,a,h=>by
  rw [show f+1+g=(f+g)+1 by omega];exact ⟨λh0=>absurd h0 h.1,λi hi=>VY (λa' h'=>OA hL f _ a' h') (h.2 i hi).2⟩
theorem OP {Q':Exit→Act→Kw→Prop}:∀(l:List Oper) (k:Nat) (listed:Array Bool) (a:Act) (w:Kw),(∀j,l[j]?=ops[k+j]?) →
 Region.seqB md ops l.length k listed=zz→wpListIn Fence.wide 2 P ops Q' l a w→wpAnyIn Fence.wide 2 P md ops Q' l.length listed a w
 | [],_,_,_,_,_,hB,h=>⟨by simpa [Region.seqB] using hB,h⟩
 | o::l,k,listed,a,w,hl,hB,h=>by
  have h0:ops[k]?=G o:=by simpa using (hl 0).symm
  simp only [Al,Region.seqB,Bn,decide_eq_true_eq] at hB
  refine ⟨λh1=>(by rw [hB.1] at h1;cases h1),λi hi=>?_⟩;rw [hB.1] at hi
  have hik:i=k:=by simpa using hi
  subst hik;have hw:wpOpIn Fence.wide 2 P ops Q' i (wpListIn Fence.wide 2 P ops Q' l) a w:=by unfold wpOpIn;simp only [h0];exact h
  exact wpOpIn_mono (λa' w' h'=>OP l (i+1) _ a' w' (λj=>by have:=hl (j+1);simpa [Nat.add_assoc,Nat.add_comm 1 j] using this) hB.2 h') hw
theorem SY {id:Nat} {Q:Exit→Act→Kw→Prop} {a:Act} {w:Kw} {l:List Oper} (n:Nat) (hm:P.follows .mixedOrders=zz) (hB:Region.lexTailB .any l.toArray n=zz)
 (h:wpStill P l.toArray { w with drawn:=w.drawn+1 } (λa'=>wpListIn Fence.wide 2 P l.toArray Q (l.drop n) a' { w with drawn:=w.drawn+1 }) (l.take n) a):(Code.region id l.toArray zz).wpIn Fence.wide 2 P Q a w:=by
 simp only [Region.lexTailB,Bn,decide_eq_true_eq] at hB
 obtain ⟨⟨⟨⟨hsel,hn⟩,hs⟩,hc⟩,hlex⟩:=hB;have hn':n<l.length:=by simpa using hn
 have htl:(l.take n).length=n:=by simp;omega
 have hdl:(l.drop n).length=l.toArray.size-n:=by simp
 have inv0:HeadInv .any l.toArray n (Array.replicate l.toArray.size zy):=
  ⟨by simp,λj oj _ hl=>(by rw [getD_replicate_false] at hl;cases hl),λt _ ht=>getD_in (by simpa using ht) (getD_replicate_false _ _)⟩
 have H:=wpAnyL_lex (md:=.any) (g:=l.toArray.size-n) hsel hs hc hn (l.take n) 0 _ a (λj hj=>by
  have hj':j<n:=by rw [htl] at hj;exact hj
  simp [hj']) (by simpa using htl) inv0 (by rw [htl];exact hlex) h
 refine wpIn_region_any hm ?_
 have:=OA (Q':=Q) (g:=l.toArray.size-n) (λlisted a' hL=>by
  have:=OP (md:=.any) (Q':=Q) (l.drop n) n listed a' { w with drawn:=w.drawn+1 } (λj=>by simp [List.getElem?_drop]) (by rw [hdl];exact hL.1) hL.2
  rwa [hdl] at this) _ _ _ H
 rw [htl,show n+(l.toArray.size-n)=l.toArray.size by omega] at this
 exact this
end
section
variable {P:Lw} {Q:Exit→Act→Kw→Prop} {n:Nat} {e:Env} {w:Kw}
theorem rT {id:Nat} {l:List Oper} (k:Nat) (hm:P.follows .mixedOrders=zz) (hB:Region.lexTailB .any l.toArray k=zz)
 (h:SxS P l.toArray w.drew (λa'=>wpListIn Fence.wide 2 P l.toArray Q (l.drop k) a' w.drew) n (l.take k) e):Sx P (Code.region id l.toArray zz) Q n e w:=⟨λa ha=>wpIn_wide.1 (SY k hm hB (h.run a ha))⟩
theorem Z6 {ops:Array Oper} {l:List Oper} (h:Sf.SxL zx [] P ops Q n l e w):SxS P ops w (λa'=>wpListIn Fence.wide 2 P ops Q l a' w) n [] e:=⟨λa ha=>wpStill_nil (h.run a ⟨ha.size,ha.defers,ha.get⟩)⟩
theorem lP {ops:Array Oper} (h:QX Q .normal n e w):Sf.SxL zx [] P ops Q n [] e w:=⟨λa ha=>wpListIn_nil (h.run a ⟨ha.size,ha.defers,ha.get⟩)⟩
end
end
open Tryz
section
def As.yl (J:List Ht→List Nat→Kw→Prop) (hJk:∀(hs:List Ht) (F:List Nat) (w w':Kw),(∀g∈F,g<w.heap.size→w'.heap[g]?=w.heap[g]?)→J hs F w→J hs F w') (hs:List Ht) (F:List Nat):As:=⟨F,J hs F,λh hb=>hJk hs F _ _ h hb⟩
theorem Mem.one2 {J:List Ht→List Nat→Kw→Prop} {hJk:∀(hs:List Ht) (F:List Nat) (w w':Kw),(∀g∈F,g<w.heap.size→w'.heap[g]?=w.heap[g]?)→J hs F w→J hs F w'} {hs:List Ht} {F:List Nat} {w:Kw} (h:J hs F w) (hF:∀g∈F,g<w.heap.size):Mem w (λk=>k∈F) [As.yl J hJk hs F] w where
 fr:=Fr.refl
 ok i a hi:=by
  cases i with
  | zero=>simp only [Ak,Ai] at hi;subst hi;exact h
  | succ i=>simp at hi
 lt i a hi g hg:=by
  cases i with
  | zero=>simp only [Ak,Ai] at hi;subst hi;exact ⟨hF g hg,.inr hg⟩
  | succ i=>simp at hi
 apart i j a b hi hj hne:=by
  cases i<;>cases j<;>simp at hi hj<;>omega
structure HIn (w:Kw) (A:Ky) (cp:Nat) (l:List Pa) (gl ga:Nat) (fa:FuncId) (gm:Nat):Prop where
 pts:Pts w A l
 lay:Lay0 w
 gl:Blk w gl 27 [.slice A l.length cp]
 ga:Blk w ga 87 [.func (.func fa) #[] #[.pointer (G ⟨gm,0,zx⟩)]]
theorem yW {l:List Pa} {ss:List St} {i:Nat} {s:St} (hp:SsP l ss) (h:ss[i]?=G s):∃k x,s.pl=((k:Nat):Int)∧l[k]?=G x∧runP x=zz∧s.tk∈x.i.toks:=by
 obtain ⟨k,x,h1,h2⟩:=WI (hp.perm.mem_iff.1 (Ah h));exact ⟨k,x,by rw [h1,Cr],h2⟩
theorem OT {x:Pa} {w:Kw} (hx:PaOk w x) (hr:runP x=zz):∃gc,x.p=G ⟨gc,0,zx⟩∧CourseN w x.m gc x.c x.F∧HC x.m=zz∧MdOk x.m:=by
 rcases hx.cr with h|h
 ·rw [runP,h] at hr;cases hr
 exact h
theorem xP {x:Pa} {w:Kw} (hx:PaOk w x) (hr:runP x=zz) (t:Tk) :
 zt zv 56 #[.pointer x.p,.slice x.V x.i.vars.length x.vc,.agg t.cells.toArray] w λe w'=>∃A c',e=.returned (.tuple #[.slice A (DE x.m x.c t x.i.vars).1.length c',AA (DE x.m x.c t x.i.vars).2])∧w'.ownsRow w.heap.size 80 5 (.slice A (DE x.m x.c t x.i.vars).1.length c') (DE x.m x.c t x.i.vars).1.length (AF Wt.cells (DE x.m x.c t x.i.vars).1)∧Fr0 w w':=by
 obtain ⟨gc,h,hC,hn,ho⟩:=OT hx hr;rw [h];exact qS x.m gc x.c x.F t x.V x.vc x.i.vars w ho hC (by have:=hx.bd.len;omega) hx.V
theorem a1s {x:Pa} {w:Kw} (hx:PaOk w x) (hr:runP x=zz) (t:Tk):(DE x.m x.c t x.i.vars).1.length≤20000:=by
 obtain ⟨gc,h,hC,hn,ho⟩:=OT hx hr
 have:=YY ho hC t
 unfold DE
 split
 ·exact Aj _
 split
 ·exact Aj _
 rw [Br];exact this
theorem TR {α:Type} {p:α→Bool}:∀(l:List α) (i:Nat),(l.find? p=zx∧ixJ (λ_=>p) i l = -1)∨∃j a,ixJ (λ_=>p) i l=((i+j:Nat):Int)∧l[j]?=G a∧l.find? p=G a
 | [],_=>.inl ⟨rfl,rfl⟩
 | x::r,i=>by
  by_cases h:p x=zz
  ·exact .inr ⟨0,x,by rw [ixJ,Ac h];rfl,rfl,by rw [List.find?_cons_of_pos h]⟩
  rw [List.find?_cons_of_neg h,ixJ,Ae h];rcases TR r (i+1) with h1|⟨j,a,h1,h2,h3⟩
  ·exact .inl h1
  exact .inr ⟨j+1,a,by rw [h1];congr 1;omega,h2,h3⟩
theorem uV {α:Type} {p:α→Bool} {l:List α} (h:0≤ixJ (λ(_:Nat)=>p) 0 l):∃j a,ixJ (λ(_:Nat)=>p) 0 l=((j:Nat):Int)∧l[j]?=G a∧l.find? p=G a:=by
 rcases TR (p:=p) l 0 with ⟨_,h1⟩|⟨j,a,h1,h2⟩
 ·omega
 exact ⟨j,a,by rw [h1,Cr],h2⟩
theorem XA {α:Type} {p:α→Bool} {l:List α} (h:O ((0:Int)≤ixJ (λ(_:Nat)=>p) 0 l)=zy):l.find? p=zx:=by
 have h:=odf h;rcases TR (p:=p) l 0 with ⟨h1,_⟩|⟨j,a,h1,h2⟩
 ·exact h1
 omega
def M9 (ap:Pa→Wt→Bool) (x:Pa) (s:St):Option Ht:=if (DE x.m x.c s.tk x.i.vars).2=0 then ((DE x.m x.c s.tk x.i.vars).1.find? (ap x)).map (λwt=>⟨s.pl,s.tk.id,wt.via⟩) else zx
def GO (l:List Pa) (ap:Pa→Wt→Bool) (ss:List St):List Ht:=ss.filterMap λs=>(l[s.pl.toNat]?).bind λx=>M9 ap x s
section
variable {ap:Pa→Wt→Bool} {x:Pa} {s:St}
theorem cC (h:(!decide ((DE x.m x.c s.tk x.i.vars).2=(0:Int)))=zz):M9 ap x s=zx:=Ae (odf (CJ h))
theorem XK (h:(!decide ((DE x.m x.c s.tk x.i.vars).2=(0:Int)))=zy) (hf:(DE x.m x.c s.tk x.i.vars).1.find? (ap x)=zx):M9 ap x s=zx:=by rw [M9,Ac (odt (BL h)),hf];rfl
theorem SE {wt:Wt} (h:(!decide ((DE x.m x.c s.tk x.i.vars).2=(0:Int)))=zy) (hf:(DE x.m x.c s.tk x.i.vars).1.find? (ap x)=G wt):M9 ap x s=G ⟨s.pl,s.tk.id,wt.via⟩:=by rw [M9,Ac (odt (BL h)),hf];rfl
variable {l:List Pa} {ss ss':List St} {go:Bool} {hs:List Ht} {k:Nat}
theorem QW (hk:s.pl=(k:Int)) (hx:l[k]?=G x):GO l ap (ss++[s])=GO l ap ss++(M9 ap x s).toList:=by
 have:(l[s.pl.toNat]?).bind (λx=>M9 ap x s)=M9 ap x s:=by rw [hk,Fb,hx];rfl
 rw [GO,Hf]
 congr 1
 rw [Hm,this]
 cases M9 ap x s<;>rfl
theorem vD {i:Nat} {A:Ky} {w:Kw} {B:Prop} (hE:hs=GO l ap (ss.take i)∧B) (hp:SsP l ss) (hP:Pts w A l):hs.length≤2400:=by
 have h1:hs.length≤(ss.take i).length:=by rw [hE.1];exact List.length_filterMap_le _ _
 have h2:(ss.take i).length≤ss.length:=by rw [Bs];omega
 have h3:=hp.perm.length_eq;have h4:=WJ (l:=l) (j:=0) λx hx=>(hP.ok x hx).tl
 have h5:=hP.len;omega
theorem PU (hE:hs=GO l ap ss∧(go=zz∨hs=[])) (ht:ss'=ss++[s]) (hk:s.pl=(k:Int)) (hx:l[k]?=G x) (hn:M9 ap x s=zx):hs=GO l ap ss'∧(go=zz∨hs=[]):=by
 rw [ht,QW hk hx,hn,←hE.1];exact ⟨(Cd _).symm,hE.2⟩
theorem XJ {h:Ht} (hE:hs=GO l ap ss∧(go=zz∨hs=[])) (ht:ss'=ss++[s]) (hk:s.pl=(k:Int)) (hx:l[k]?=G x) (hn:M9 ap x s=G h) (hg:go=zz):hs++[h]=GO l ap ss'∧(go=zz∨hs++[h]=[]):=by
 rw [ht,QW hk hx,hn,←hE.1];exact ⟨rfl,.inl hg⟩
variable {J:List Ht→List Nat→Kw→Prop} {hJk:∀(hs:List Ht) (F:List Nat) (w w':Kw),(∀g∈F,g<w.heap.size→w'.heap[g]?=w.heap[g]?)→J hs F w→J hs F w'} {F0 F1:List Nat} {w w':Kw} {Ls:List As} {e:Ending}
theorem pG (he:e=.returned (.tuple #[])) (hp:SsP l ss) (M:Mem w (λk=>k∈F0) Ls w') (i:Nat) (hi:Ls[i]?=G (As.yl J hJk hs F1)) (hE:hs=GO l ap (ss.take ss.length)∧(go=zz∨hs=[])) :
 e=.returned (.tuple #[])∧∃(ss:List St) (hs:List Ht) (F':List Nat),SsP l ss∧hs=(if go=zz then GO l ap ss else (GO l ap ss).take 1)∧J hs F' w'∧Fr (λk=>k∈F0) w w'∧∀g∈F',g∈F0∨(w.heap.size≤g∧g<w'.heap.size):=by
 rw [Bc] at hE
 refine ⟨he,ss,hs,F1,hp,?_,M.ok i _ hi,M.fr,λg hg=>?_⟩
 ·split
  ·exact hE.1
  rename_i hg
  rw [←hE.1,hE.2.resolve_left hg];rfl
 have:=M.lt i _ hi g hg
 exact this.2.symm.imp id λh=>⟨h,this.1⟩
theorem pD {h:Ht} {q:Nat} (he:e=.returned (.tuple #[])) (hp:SsP l ss) (M:Mem w (λk=>k∈F0) Ls w') (i:Nat) (hi:Ls[i]?=G (As.yl J hJk (hs++[h]) F1)) (hE:hs=GO l ap (ss.take q)∧(go=zz∨hs=[])) (hs':ss[q]?=G s) (hk:s.pl=((k:Nat):Int)) (hx:l[k]?=G x) (hn:M9 ap x s=G h) (hg:go=zy) :
 e=.returned (.tuple #[])∧∃(ss:List St) (hs:List Ht) (F':List Nat),SsP l ss∧hs=(if go=zz then GO l ap ss else (GO l ap ss).take 1)∧J hs F' w'∧Fr (λk=>k∈F0) w w'∧∀g∈F',g∈F0∨(w.heap.size≤g∧g<w'.heap.size):=by
 have h0:hs=[]:=hE.2.resolve_left (by rw [hg];decide);refine ⟨he,ss,hs++[h],F1,hp,?_,M.ok i _ hi,M.fr,λg hg=>?_⟩
 ·rw [Ae (by rw [hg];decide),←Dd (q+1) ss,GO,Hf,AT hs']
  have:=QW (ap:=ap) (ss:=ss.take q) hk hx
  rw [hn,←hE.1,h0] at this
  unfold GO at this
  rw [this,h0];rfl
 have:=M.lt i _ hi g hg
 exact this.2.symm.imp id λh=>⟨h,this.1⟩
end
theorem SO (a0:Int) (a1:Int) (a2:Kz):zv.built 32 [(0,AA a0),(1,AA a1),(2,str a2)]=G #[AA a0,AA a1,str a2]:=zr
theorem vH (ga gp:Nat) (fa:FuncId) (gm:Nat) (x:Pa) (wt:Wt) (b:Bool) (w:Kw) (hfa:∀(ar:Array Kv) (w:Kw),(callFunc fa ar).run zv w=.ok (.enter fa ar) w) (hba:Blk w ga 87 [.func (.func fa) #[] #[pg gm]]) (hbp:Blk w gp 44 (Pa.cells x))
 (hask:∀w1,Fr0 w w1→zt zv fa #[.agg (Pa.cells x).toArray,.agg (Wt.cells wt).toArray,pg gm] w1 (BR w1 (.bool b))) :
 zt zv 58 #[.agg (Wt.cells wt).toArray,pg ga,pg gp] w (BR w (.bool b)):=by
 refine BO func58 ntmps58 X λM=>W ?_
 refine CU M X X λg3 w1 hg3 M=>T5 ?_
 refine yl X X (Blk.c (hba.fr0 M.fr) 0 X) (ya X (AJ (xs:=[.pointer x.p,AA x.i.id,str x.i.mdl,.int .u8 (x.i.st.toNat:Int),.slice x.V x.i.vars.length x.vc,.slice x.T x.i.toks.length x.tc]) X X (DO (hbp.fr0 M.fr) 0 6 X X) Jc X IF) (CF M 0 X X Dj CB X (YP M 8 X (C7 X X X hfa) (hask _ M.fr) λw2 M=>W ?_)));exact gr1 X ⟨X,M.fr⟩
theorem a0v {α:Type} (cells:α→Kx) (hk:∀x,(cells x).length=5) (A:Ky) (c:Nat) (l:List α) (hl:l.length≤4611686018427387904) (f:FuncId) (cs:Kx) (p:Nat→α→Bool) (S:Nat→Prop) (J:Nat→Kw→Prop) (w:Kw) (hP:PredJ zv f cs (λx=>.agg (cells x).toArray) l p S J w) (hR:∀w1,Fr S w w1→Rd w1 A (l.length*5) (AF cells l)) (hJ:J 0 w) :
 zt zv 57 #[.slice A l.length c,.func (.func f) #[] cs.toArray] w λe w'=>e=.returned (AA (ixJ p 0 l))∧J (ixN p 0 l) w'∧Fr S w w':=by
 refine sx_enter (vs:=[_,_]) func57 X ntmps57 X ?_;have M:Mem w S [] w:=Mem.nil w;refine W ?_;refine EC M [7,1,0] (λze zF e wr mz=>∃(i:Nat),e=(8,AA (i:Int))::ze∧zF wr∧(i≤l.length)∧(J i wr)∧(ixJ p 0 l=ixJ p i (l.drop i))∧(ixN p 0 l=ixN p i (l.drop i))∧mz=l.length-i) ⟨0,X,M,Aj _,hJ,X,X,X⟩ ?_;rintro _ w1 _ ⟨i,rfl,M,hi,hJ,hr,hn,rfl⟩;refine W ?_;refine AC X (λh9=>?_) (λh9=>?_)
 ·have h9p:=odt h9;refine W ?_;obtain ⟨x,_,_,hx,hA_x⟩:=ex5 (l:=l) (k:=5) (i:=i) (hR _ M.fr);refine ya X (AK i hA_x X X X (sl X) A0) (ya X (AJ X X (BF hk (hR _ M.fr) hA_x hx) Dj X CB) (cl 16 X (C7 X X X hP.fn) (hP.call i x _ hx M.fr hJ) ?_));rintro _ w9 ⟨rfl,hJ,hf9⟩;refine cq ?_;have M:Mem w S [] w9:=Mem.ofFr (M.fr.trans hf9);refine W ?_;refine AC X (λh16=>?_) (λh16=>?_)
  ·refine W ?_;exact gr1 X ⟨by rw [hr,AH hx,ixJ,Ac h16],by rw [hn,AH hx,ixN,Ac h16];exact hJ,M.fr⟩
  refine W ?_;refine fag ⟨i+1,X,M,?_,?_,?_,?_,X⟩
  ·omega
  ·exact hJ
  ·rw [hr,AH hx,ixJ,AN h16]
  rw [hn,AH hx,ixN,AN h16]
 have h9p:=odf h9;refine W ?_;refine gr1 X ?_;obtain rfl:i=l.length:=A0
 exact ⟨by rw [hr,Aq];rfl,by rw [hn,Aq];exact hJ,M.fr⟩
theorem vI (A:Ky) (cp:Nat) (l:List Pa) (gl ga:Nat) (fa:FuncId) (gm:Nat) (ap:Pa→Wt→Bool) (go:Bool) (lr:Nat) (J:List Ht→List Nat→Kw→Prop) (hJk:∀(hs:List Ht) (F:List Nat) (w w':Kw),(∀g∈F,g<w.heap.size→w'.heap[g]?=w.heap[g]?)→J hs F w→J hs F w') (F0:List Nat) (w:Kw) (hJ:J [] F0 w) (hF0:∀g∈F0,g<w.heap.size)
 (hfa:∀(ar:Array Kv) (w:Kw),(callFunc fa ar).run zv w=.ok (.enter fa ar) w) (hPt:∀w1,Fr (λk=>k∈F0) w w1→HIn w1 A cp l gl ga fa gm)
 (hask:∀x∈l,runP x=zz→∀(wt:Wt) (w1:Kw),Fr (λk=>k∈F0) w w1→zt zv fa #[.agg (Pa.cells x).toArray,.agg (Wt.cells wt).toArray,pg gm] w1 (BR w1 (.bool (ap x wt))))
 (hround:∀(hs:List Ht) (F:List Nat) (h:Ht) (w1:Kw),hs.length≤2400→J hs F w1→(go=zz∨hs=[])→∃r,w1.heap[lr]?=G (.loop r)∧r.params.size=1∧RoundIn Fence.wide 2 zv lr r.fn ((r.params.zip [Value.agg (Ht.cells h).toArray].toArray).foldl (λtmps (t,a)=>tmps.setIfInBounds t a) r.tmps) r.assign r.body w1 (λe w'=>e=.returned (.bool go)∧∃F',J (hs++[h]) F' w'∧Fr (λk=>k∈F) w1 w'∧∀g∈F',g∈F∨(w1.heap.size≤g∧g<w'.heap.size))) :
 zt zv 54 #[.func (.yield lr) #[] #[],pg gl,pg ga] w λe w'=>e=.returned (.tuple #[])∧∃(ss:List St) (hs:List Ht) (F':List Nat),SsP l ss∧hs=(if go=zz then GO l ap ss else (GO l ap ss).take 1)∧J hs F' w'∧Fr (λk=>k∈F0) w w'∧∀g∈F',g∈F0∨(w.heap.size≤g∧g<w'.heap.size):=by
 refine sx_enter (vs:=[_,_,_]) func54 X ntmps54 X ?_;have M:Mem w (λk=>k∈F0) [As.yl J hJk [] F0] w:=Mem.one2 hJ hF0;refine srg (yl X X (Blk.c ((hPt _ M.fr).gl) 0 X) (cl 11 X (AE X X call55) (nF A cp l _ (hPt _ M.fr).pts (hPt _ M.fr).lay) ?_));rintro _ w1 ⟨ss,A',c',rfl,hpm,how1,hfw1⟩;refine ⟨_,X,?_⟩;have M:=M.pushOwn hfw1 (Af _) how1;have hL11:=M.ownLen 0 X;refine SF X X (D1 X (sx_block (flp [12,11,2,1,0] (λze e wr mz=>∃(i:Nat) (hz:List Ht) (F1:List Nat),e=(13,AA (i:Int))::ze∧Mem w (λk=>k∈F0) [As.own w.heap.size 127 10 (.slice A' ss.length c') ss.length (AF St.cells ss),As.yl J hJk hz F1] wr∧(i≤ss.length)∧(hz=GO l ap (ss.take i)∧(go=zz∨hz=[]))∧mz=ss.length-i) ⟨0,[],F0,X,M,Aj _,⟨X,.inr X⟩,X⟩ ?_)));rintro _ w2 _ ⟨i,hz,F1,rfl,M,hi,hE,rfl⟩;refine srg (G1 X X (nq (sx_seq (AC X (λh14=>?_) (λh14=>?_)))))
 ·have h14p:=(odt h14);refine sx_skip (qx_seq (sx_seq (sx_block (srg ?_))));obtain ⟨s,hs⟩:=EJ (l:=ss) (i:=i) A0;obtain ⟨b_s,o_s,hA_s⟩:=DR (k:=10) A0 (M.rdOwn 0 X) hs;refine ya X (AK i hA_s X X X (sl X) A0) (ya X (AJ X X (BF St.len (M.rdOwn 0 X) hA_s hs) Dc X C0) (CE M X aO λg5 w3 hg5 M=>BX M 0 X X C0 X λw4 M=>a3O (yl X X (Blk.c ((hPt _ M.fr).gl) 0 X) (yb X ?_))));obtain ⟨k,x,hk,hx,hrun,hmem⟩:=yW hpm hs;refine ya X (B3 X X (sc X) (show Cell _ g5 0 (AA ((k:Nat):Int)) from hk▸M.cell 0 rfl rfl)) ?_;have hkl:k<l.length:=(An.1 hx).1;obtain ⟨b3_x,o3_x,hA3_x⟩:=DR (k:=6) A0 ((hPt _ M.fr).pts.rd) hx;refine ya X (AK k hA3_x X X X (sl X) A0) (ya X (AJ X X (BF Pa.len ((hPt _ M.fr).pts.rd) hA3_x hx) Jc X IF) (CE M X Q7 λg6 w5 hg6 M=>BX M 0 X X IF X λw6 M=>nq (CL X (EZ M 0 X X X (HK X X (EZ M 0 X X X (yb X ?_)))))));refine ya X (AJ (xs:=[AA s.tk.id,str s.tk.loc,str s.tk.on,AA s.tk.born,AA s.tk.tries,str s.tk.worker,AA s.tk.until_,.int .u8 (s.tk.inc.toNat:Int),AA s.tk.err]) X X (DO (M.blk 1 X) 1 9 X X) Bw X BE) (cl 30 X (AE X X call56) (xP ((hPt _ M.fr).pts.ok _ (Ah hx)) hrun s.tk) ?_);rintro _ w7 ⟨AW,cW,rfl,how7,hfw7⟩;refine ⟨_,X,?_⟩;have M:=M.pushOwn hfw7 (Af _) how7;have hL30:=M.ownLen 0 X;iterate 5 refine yb X ?_
  refine nq (sx_seq (CL X (mM X X (nq (AC X (λh34=>?_) (λh34=>?_))))))
  ·have h34p:=(odf (CJ h34));refine sx_exit (qx_then_exit (qx_block_hit (qx_seq (sx_region (D3 X X (yb X (sxl_nil (fag ⟨i+1,hz,F1,X,(M.pk [3,4]),?_,?_,X⟩))))))))
   ·omega
   first
    | exact PU hE (AT hs) hk hx (cC h34)
    | exact PU hE (AT hs) hk hx (XK h34 (XA h40))
    | exact XJ hE (AT hs) hk hx (SE h34 hfd) (by simpa using h55)
  have h34p:=(odt (BL h34));refine sx_skip (qx_seq (CL X (ya X (D8 (us:=[]) (vs:=[pg ga,pg g6]) X X X) ?_)));have hWl:=a1s ((hPt _ M.fr).pts.ok _ (Ah hx)) hrun s.tk;refine cl 37 X (AE X X call57) (a0v Wt.cells Wt.len AW cW (DE x.m x.c s.tk x.i.vars).1 A0 58 [pg ga,pg g6] (λ(_:Nat) (wt:Wt)=>ap x wt) AR (λ_ _=>True) _ (J7 call58 (λwt _ w9 hf9=>vH ga g6 fa gm x wt (ap x wt) w9 hfa (hPt _ (M.fr.then0 hf9)).ga ((M.blk 1 X).fr0 hf9) (λw8 hf8=>hask x (Ah hx) hrun wt w8 ((M.fr.then0 hf9).then0 hf8)))) (λ_ hf9=>(M.rdOwn 0 X).fr0 hf9) zw) ?_;rintro _ w8 ⟨rfl,_,hfw8⟩;refine ⟨AA (ixJ (λ(_:Nat) (wt:Wt)=>ap x wt) 0 (DE x.m x.c s.tk x.i.vars).1),X,?_⟩;have M:=M.step hfw8;refine D1 X (sx_seq (rT 15 CA zr ?_));have M:=M.drew;refine sb X (sa X (LH X X X) (sb X (C3 (d:=40) X (λh40=>?_) (λh40=>?_))))
  ·have h40p:=(odt h40);obtain ⟨j,wt,hj,hw,hfd⟩:=uV (by have:=odt h40;omega);rw [hj];have hjl:j<(DE x.m x.c s.tk x.i.vars).1.length:=(An.1 hw).1;refine gsg X (yp X) (gsg X (yp X) (gsg X (B3 X X (sc X) (M.cell 2 X X)) (gsg X (yp X) (gsg X (yp X) (gsg X (B3 X X (sc X) (M.cell 2 X X)) (gsg X (yp X) (gsg X (yp X) ?_)))))));obtain ⟨b5_wt,o5_wt,hA5_wt⟩:=DR (k:=5) A0 (M.rdOwn 0 X) hw;refine gsg X (AK j hA5_wt X X X (sl X) A0) (gsg X (yp X) (gsg X (B3 X X (sc X) (BC Wt.len (M.rdOwn 0 X) hA5_wt hw 0 X)) (gsg X (B8 (parts:=[(0,_),(1,_),(2,_)]) X X (SO _ _ _)) (Z6 ?_))));obtain ⟨r,hr,hps,hro⟩:=hround hz F1 (⟨s.pl,s.tk.id,wt.via⟩:Ht) _ (vD hE hpm (hPt _ M.fr).pts) (M.ok 4 _ X) hE.2;refine Sf.sxl_round (G 53) (Sf.wn_on X X X) X X X X X hr (by rw [hps];rfl) hro ?_;rintro _ w9 ⟨rfl,F2,hJ2,hfw9,hF2⟩;refine ⟨_,X,?_⟩;have M:=M.upd 4 X hfw9 (As.yl J hJk (hz++[(⟨s.pl,s.tk.id,wt.via⟩:Ht)]) F2) hJ2 hF2;refine Sf.sxl_y (Sf.wn_on X X X) X X (yp X) (Sf.sxl_y (Sf.wn_none X) X X (yp X) (lP (qx_seq (AC X (λh55=>?_) (λh55=>?_)))))
   ·have h55p:=(CJ h55);exact sx_ret (qx_block_ret (qx_then_ret (qx_then_ret (qx_block_ret (qx_ret0 (Or.inl X) X (pD X hpm M 4 X hE hs hk hx (SE h34 hfd) (by simpa using h55)))))))
   have h55p:=(BL h55);refine sx_skip (qx_block_normal (qx_seq (sx_region (D3 X X (yb X (sxl_nil (fag ⟨i+1,(hz++[(⟨s.pl,s.tk.id,wt.via⟩:Ht)]),F2,X,(M.pk [3,4]),?_,?_,X⟩)))))))
   ·omega
   first
    | exact PU hE (AT hs) hk hx (cC h34)
    | exact PU hE (AT hs) hk hx (XK h34 (XA h40))
    | exact XJ hE (AT hs) hk hx (SE h34 hfd) (by simpa using h55)
  have h40p:=(odf h40);iterate 12 refine EI X X X X X X ?_
  refine Z6 (Sf.sxl_off X X X X X X (Sf.sxl_off X X X X X X (Sf.sxl_y (Sf.wn_none X) X X (yp X) (lP (qx_seq (sx_false X (sx_skip (qx_block_normal (qx_seq (sx_region (D3 X X (yb X (sxl_nil (fag ⟨i+1,hz,F1,X,(M.pk [3,4]),?_,?_,X⟩))))))))))))))
  ·omega
  first
   | exact PU hE (AT hs) hk hx (cC h34)
   | exact PU hE (AT hs) hk hx (XK h34 (XA h40))
   | exact XJ hE (AT hs) hk hx (SE h34 hfd) (by simpa using h55)
 have h14p:=(odf h14);refine sx_exit (qx_then_exit (qx_then_exit ?_));obtain rfl:i=ss.length:=A0
 exact qx_block_hit (qx_ret0 (Or.inr X) X (pG X hpm M 1 X hE))
end
end Go.Proofs.YtppmdnmjepkfaaaGreatDoor
