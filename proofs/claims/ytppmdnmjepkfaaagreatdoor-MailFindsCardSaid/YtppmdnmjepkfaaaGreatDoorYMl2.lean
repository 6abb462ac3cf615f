/- Lemmas. -/
import Derived.Test.YtppmdnmjepkfaaaGreatDoorYSss
import Derived.LoopNIn
import Derived.TacticsIn
import Derived.OrdersIn
import Derived.RangeFuncCalls
import Derived.RangeFuncLeaves
import Derived.RangeFuncRecord
set_option maxHeartbeats 16000000
set_option maxRecDepth 100000
namespace Go.Proofs.YtppmdnmjepkfaaaGreatDoor
open Go.RowKit
open Tryz
def wV (s:St):Int:=s.tk.id
structure SsP (l:List Pa) (ss:List St):Prop where
 perm:ss.Perm (HI l 0)
 st:Stf wV (HI l 0) ss
 s:Srt wV ss 0 ss.length
theorem v8 (a b:Int):OQ a b<0↔a<b:=by
 unfold OQ;simp only [decide_true,Gj,Db,if_false,decide_eq_true_eq]
 split
 ·omega
 split<;>omega
theorem a09 {x:Pa} {w:Kw} (hx:PaOk w x) (hp:x.p.isNone=false) (next k:Int) (hY:Lay0 w) :
 Calls prog 105 #[.pointer x.p,.agg (In.cells x.i x.V x.T x.vc x.tc).toArray,AA next,AA k] w (BS w (AA (if I6 x.m x.c x.i next k=true then 0 else 1))):=by
 rcases hx.cr with h|⟨gc,h,hC,hn,ho⟩
 ·rw [h] at hp;cases hp
 rw [h];exact vC x.m gc x.c x.F x.i x.V x.T x.vc x.tc next k w ho hC (λq=>(a1X (rK hn) hC.cz q).2) (by have:=hx.tl;omega) hx.bd hx.wk hx.V hx.T hY
theorem TL (a0:Int) (c1_0 c1_1 c1_2 c1_3 c1_4 c1_5 c1_6 c1_7 c1_8:Kv):prog.built 127 [(0,AA a0),(1,.agg #[c1_0,c1_1,c1_2,c1_3,c1_4,c1_5,c1_6,c1_7,c1_8])]=some #[AA a0,c1_0,c1_1,c1_2,c1_3,c1_4,c1_5,c1_6,c1_7,c1_8]:=by kernel_rfl
theorem YH : (prog.info? 127).map (λi=>(i.zero,i.size))=some (some (.agg #[AA 0,AA 0,str [],str [],AA 0,AA 0,str [],AA 0,.int .u8 0,AA 0]),10):=by kernel_rfl
theorem gW (a b:St) (w:Kw):Calls prog 107 #[.agg a.cells.toArray,.agg b.cells.toArray] w (BS w (AA (OQ a.tk.id b.tk.id))):=by
 refine BR func107 ntmps107 X λM=>W ?_
 refine CO M X X λg2 w1 hg2 M=>CO M X X λg3 w2 hg3 M=>W ?_
 refine CW M 11 X X call108 (fU a.tk.id b.tk.id _) λw3 M=>W ?_
 exact gr1 X ⟨X,M.fr⟩
theorem dC (x:Pa):((x.p.isNone || (!decide ((x.i.st.toNat:Int)=1))) || (!decide ((if I6 x.m x.c x.i 2147483647 1099511627776=true then 0 else 1)=(0:Int)))) = !runP x:=by
 unfold runP
 cases x.p<;>(by_cases h:(x.i.st.toNat:Int)=1)<;>by_cases hc:I6 x.m x.c x.i 2147483647 1099511627776=true<;>simp [h,hc]
theorem dD {x:Pa} (h:((x.p.isNone || (!decide ((x.i.st.toNat:Int)=1))) || (!decide ((if I6 x.m x.c x.i 2147483647 1099511627776=true then 0 else 1)=(0:Int))))=false):runP x=true:=by rw [dC] at h;simpa using h
theorem dB {x:Pa} (h:((x.p.isNone || (!decide ((x.i.st.toNat:Int)=1))) || (!decide ((if I6 x.m x.c x.i 2147483647 1099511627776=true then 0 else 1)=(0:Int))))=true):¬runP x=true:=by rw [dC] at h;simpa using h
theorem mJ (A:Ky) (cp:Nat) (l:List Pa) (w:Kw) (hP:Pts w A l) (hY:Lay0 w) :
 Calls prog 55 #[.slice A l.length cp] w λe w'=>∃ss A' c',e=.returned (.slice A' ss.length c')∧SsP l ss∧w'.ownsRow w.heap.size 127 10 (.slice A' ss.length c') ss.length (AE St.cells ss)∧Fr0 w w':=by
 have hlen:=hP.len;refine BR func55 ntmps55 X λM=>W ?_
 have M:=M.nilOwn 127 10;refine flp [9,8] (λze e wr mz=>∃(j:Nat) (acc:List St) (A3:Ky) (c3:Nat),e=(3,.slice A3 acc.length c3)::(10,AA (j:Int))::ze∧Mem w AR [As.own w.heap.size 127 10 (.slice A3 acc.length c3) acc.length (AE St.cells acc)] wr∧(j≤l.length)∧(acc=HI (l.take j) 0)∧(acc.length≤j*300)∧mz=l.length-j) ⟨0,[],none,0,X,M,Ae _,X,Ab _,X⟩ ?_;rintro _ w1 _ ⟨j,acc,A3,c3,rfl,M,hj,hacc,hal,rfl⟩;refine W ?_;refine AB X (λh11=>?_) (λh11=>?_)
 ·have h11p:=odt h11;refine W ?_;obtain ⟨x,_,_,hx,hA_x⟩:=ex5 (i:=j) ((hP.fr0 M.fr).rd);have htl_x:=(hP.ok _ (Ac hx)).tl;refine ya X (AK j hA_x X X X (sl X) A0) (ya X (AI X X (BM Pa.len ((hP.fr0 M.fr).rd) hA_x hx) Ir X I8) (CI M X PR λg5 w2 hg5 M=>yb X (BY M 0 X X I8 X λw3 M=>W ?_)));refine ya X (MO X X X (pt X)) (yb X (fvm M 5 [4,5,10,9,8,3] [(23,.bool (x.p.isNone || (!decide ((x.i.st.toNat:Int)=1))))] ?_ (λk18=>?_)))
  ·intro w4 M;refine yb X (fvm M 7 [4,5,10,9,8,3] [(31,.bool ((x.p.isNone || (!decide ((x.i.st.toNat:Int)=1))) || (!decide ((if I6 x.m x.c x.i 2147483647 1099511627776=true then 0 else 1)=(0:Int)))))] ?_ (λk24=>?_))
   ·intro w5 M;refine W ?_;refine AB X (λh31=>?_) (λh31=>?_)
    ·have h31p:=bd h31;refine W ?_;refine fag ⟨j+1,acc,A3,c3,X,(M.pk [1]),?_,?_,?_,X⟩
     ·omega
     ·rw [U1 hx,←hacc]
      first
       | (rw [JU,if_neg (dB h31)];simp;done)
       | (rw [hacc2,JU,if_pos (dD h31)];done)
       | exact hacc2
     first
      | omega
      | (simp;omega)
    have h31p:=bd h31;refine W ?_;refine flp [35,34,10,9,8,4] (λze e wr mz=>∃(k:Nat) (acc2:List St) (A4:Ky) (c4:Nat),e=(3,.slice A4 acc2.length c4)::(36,AA (k:Int))::ze∧Mem w AR [As.blk g5 44 (Pa.cells x),As.own w.heap.size 127 10 (.slice A4 acc2.length c4) acc2.length (AE St.cells acc2)] wr∧(k≤x.i.toks.length)∧(acc2=acc++(x.i.toks.take k).map (λt=>⟨(j:Int),t⟩))∧(acc2.length≤j*300+k)∧mz=x.i.toks.length-k) ⟨0,acc,A3,c3,X,M,Ae _,(Bv _).symm,by omega,rfl⟩ ?_;rintro _ w6 _ ⟨k,acc2,A4,c4,rfl,M,hk,hacc2,hal2,rfl⟩;refine W ?_;refine AB X (λh37=>?_) (λh37=>?_)
    ·have h37p:=odt h37;refine W ?_;obtain ⟨y,_,_,hy,hA_y⟩:=ex5 (l:=x.i.toks) (k:=9) (i:=k) (((hP.fr0 M.fr).ok _ (Ac hx)).T);refine ya X (AK k hA_y X X X (sl X) A0) (ya X (AI X X (BM Tk.len (((hP.fr0 M.fr).ok _ (Ac hx)).T) hA_y hy) Bm X BA) (CI M X HR λg7 w7 hg7 M=>BY M 0 X X BA X λw8 M=>W ?_));refine CH M 0 X X Bm BA X (ya X (B7 (parts:=[(0,_),(1,_)]) X X (TL _ _ _ _ _ _ _ _ _ _)) (CV M kw X X [.agg #[AA (j:Int),AA y.id,str y.loc,str y.on,AA y.born,AA y.tries,str y.worker,AA y.until_,.int .u8 (y.inc.toNat:Int),AA y.err]] ([AA (j:Int),AA y.id,str y.loc,str y.on,AA y.born,AA y.tries,str y.worker,AA y.until_,.int .u8 (y.inc.toNat:Int),AA y.err]) X X X X underlying124 YH X X (GT X) X λg44 w9 hg44 M=>CN (len':=(acc2++[(⟨(j:Int),y⟩:St)]).length) (xs':=AE St.cells (acc2++[(⟨(j:Int),y⟩:St)])) M 3 kw X X X X X X (M.rdBlk 0 X X) underlying124 X4 X AV (BW X) (Ab _) (Ab _) DC (by unfold maxLen;first|omega|(simp;omega)) (by simp) (by first|exact (B3 _ _ _).symm|simp [AE,St.cells,Tk.cells]) λA45 c45 w10 M=>W ?_));refine fag ⟨k+1,acc2++[(⟨(j:Int),y⟩:St)],A45,c45,X,(M.pk [2,3]),?_,?_,?_,X⟩
     ·omega
     ·rw [AS hy,Ck,←By,←hacc2];rfl
     first
      | omega
      | (simp;omega)
    have h37p:=odf h37;refine W ?_;obtain rfl:k=x.i.toks.length:=by omega
    rw [Ba] at hacc2
    refine W ?_;refine fag ⟨j+1,acc2,A4,c4,X,(M.pk [1]),?_,?_,?_,X⟩
    ·omega
    ·rw [U1 hx,←hacc]
     first
      | (rw [JU,if_neg (dB h31)];simp;done)
      | (rw [hacc2,JU,if_pos (dD h31)];done)
      | exact hacc2
    first
     | omega
     | (simp;omega)
   refine A1 (d:=24) X (λh24=>?_) (λh24=>?_)
   ·refine T7 ?_;exact k24 M
   refine W ?_;refine yd X (AI (xs:=[AA x.i.id,str x.i.mdl,.int .u8 (x.i.st.toNat:Int),.slice x.V x.i.vars.length x.vc,.slice x.T x.i.toks.length x.tc]) X X (DR (M.blk 0 X) 1 5 X X) Ea X DJ) (sxl_call (some 29) kw X X (AD X X call105) (a09 ((hP.fr0 M.fr).ok _ (Ac hx)) (G8 h24).1 2147483647 1099511627776 (hY.fr0 M.fr)) ?_);rintro _ w11 ⟨rfl,hfw11⟩;refine cq ?_;have M:=M.step hfw11;refine T2 ?_;exact k24 M
  refine A1 (d:=18) X (λh18=>?_) (λh18=>?_)
  ·refine T5 ?_;exact k18 M
  refine T5 ?_;exact k18 M
 have h11p:=odf h11;refine W ?_;obtain rfl:j=l.length:=by omega
 have hacc1:=hacc;rw [Ba] at hacc1
 refine W ?_;refine cl 49 X (AD X X call106) (r5 w.heap.size A3 c3 acc.length 107 (λa b=>OQ a.tk.id b.tk.id) wV acc _ call107 (λa b w=>gW a b w) (λa b=>v8 _ _) A0 X (M.own 0 X)) ?_;rintro _ w12 ⟨rfl,ls,hpl,hst,how12,hfw12⟩;refine cq ?_;have M:=M.upd 0 X hfw12 (As.own _ 127 10 (.slice A3 acc.length c3) acc.length (AE St.cells ls)) how12 (λg hg=>.inl hg);have hll:ls.length=acc.length:=hpl.length_eq;rw [←hll] at M ⊢
 refine W ?_;exact gr1 X ⟨_,_,_,X,⟨hacc1▸hpl,hacc1▸hst.1,hll▸hst.2⟩,M.own 0 X,M.fr⟩
section
def rF : Option Nat→Fence
 | none=>Fence.wide
 | some l=>Fence.wide.inRound l
theorem U6 (rd:Option Nat) (f:FuncId):(rF rd).fn f:=by cases rd<;>trivial
theorem RP (rd:Option Nat):(rF rd).depth=none:=by cases rd<;>rfl
theorem dP (rd:Option Nat):(rF rd).round=rd:=by cases rd<;>rfl
theorem iW (a:Act) (d:Option Tmp) (v:Kv):(a.put d v).defers=a.defers:=by cases d<;>rfl
section
variable {P:Lw} {rd:Option Nat} {w:Kw}
theorem XV {f:FuncId} {args:Array Kv} {R:Ending→Kw→Prop} (h:Calls P f args w R) (k:Nat):CallsIn (rF rd) k P f args w R:=by
 cases rd with
 | none=>exact callsIn_wide.2 h
 | some l=>exact CallsIn.inRound l (callsIn_wide.2 h)
theorem rH {l:Nat} {f:FuncId} {tmps:Array Kv} {asg body:Code} {R:Ending→Kw→Prop} (h:RoundIn Fence.wide 2 P l f tmps asg body w R) (k:Nat):RoundIn (rF rd) k P l f tmps asg body w R:=by
 refine ⟨U6 rd f,λc cs _=>?_⟩
 have:=h.2 c cs (room_wide _)
 cases rd<;>exact this
end
theorem TR (w:Kw) (o:Obj) {r:Nat} (hr:r<w.heap.size):(w.alloc o).heap[r]?=w.heap[r]?:=by
 show (w.heap.push o)[r]?=_
 rw [Array.getElem?_push,if_neg A0]
end
end Go.Proofs.YtppmdnmjepkfaaaGreatDoor
namespace Go.Proofs.YtppmdnmjepkfaaaGreatDoor.Sf
open Go.RowKit
structure Agr (D:List Deferred) (n:Nat) (e:Env) (a:Act):Prop where
 size:a.tmps.size=n
 defers:a.defers=D
 get:∀k v,e.get k=some v→a.tmps[k]?=some v
theorem Agr.eval {D:List Deferred} {n:Nat} {e:Env} {a:Act} (h:Agr D n e a):Ag e a.eval:=λx v hx=>by
 cases x with
 | tmp t=>have:=h.get t v hx;simp [Act.eval,this]
 | const c=>injection hx
 | global g=>injection hx
 | func f=>injection hx
theorem Agr.weak {D:List Deferred} {n:Nat} {e r:Env} {a:Act} (h:Agr D n e a) (hl:r.le e):Agr D n r a:=⟨h.size,h.defers,λk v hk=>h.get k v (Env.le_get hl k v hk)⟩
theorem Agr.put {D:List Deferred} {n:Nat} {e:Env} {a:Act} (h:Agr D n e a) {d:Nat} (hd:d<n) (v:Kv):Agr D n ((d,v)::e) (a.put (some d) v) where
 size:=by simp [Act.put,h.size]
 defers:=by rw [iW];exact h.defers
 get k u hk:=by
  simp only [Act.put]
  by_cases hkd:d=k
  ·subst hkd
   have:u=v:=by simp [Env.get] at hk;exact hk.symm
   rw [this,Array.getElem?_setIfInBounds_self_of_lt (by rw [h.size];exact hd)]
  rw [Dn hkd];refine h.get k u ?_;have hb:Nat.beq d k=false:=by cases hq:Nat.beq d k with|false=>rfl|true=>exact absurd (Ce hq) hkd
  simpa [Env.get,hkd,Ne.symm hkd,hb] using hk
theorem Agr.ins {D:List Deferred} {n:Nat} {e:Env} {a:Act} (h:Agr D n e a) {d:Option Tmp} (hd:JP n d=true) (v:Kv):Agr D n (e.ins d v) (a.put d v):=by
 cases d with
 | none=>exact h
 | some d=>exact h.put (CF hd) v
structure Sx (rd:Option Nat) (D:List Deferred) (P:Lw) (c:Code) (Q:Exit→Act→Kw→Prop) (n:Nat) (e:Env) (w:Kw):Prop where
 run:∀a,Agr D n e a→c.wpIn (rF rd) 2 P Q a w
structure SxL (rd:Option Nat) (D:List Deferred) (P:Lw) (ops:Array Oper) (Q:Exit→Act→Kw→Prop) (n:Nat) (l:List Oper) (e:Env) (w:Kw):Prop where
 run:∀a,Agr D n e a→wpListIn (rF rd) 2 P ops Q l a w
structure QX (D:List Deferred) (Q:Exit→Act→Kw→Prop) (x:Exit) (n:Nat) (e:Env) (w:Kw):Prop where
 run:∀a,Agr D n e a→Q x a w
section
variable {rd:Option Nat} {D:List Deferred} {P:Lw} {Q:Exit→Act→Kw→Prop} {n:Nat} {e:Env} {w:Kw}
theorem sx_seq {x y:Code} (h:Sx rd D P x (Exit.then (y.wpIn (rF rd) 2 P Q) Q) n e w):Sx rd D P (Code.seq x y) Q n e w:=⟨λa ha=>wpIn_seq (h.run a ha)⟩
theorem sx_block {id:Nat} {c:Code} (h:Sx rd D P c (Exit.inBlock id Q) n e w):Sx rd D P (Code.block id c) Q n e w:=⟨λa ha=>wpIn_block (h.run a ha)⟩
theorem sx_skip (h:QX D Q .normal n e w):Sx rd D P Code.skip Q n e w:=⟨λa ha=>wpIn_skip (h.run a ha)⟩
theorem sx_exit {id:Nat} (h:QX D Q (.exit id) n e w):Sx rd D P (Code.exit id) Q n e w:=⟨λa ha=>wpIn_exit (h.run a ha)⟩
theorem sx_ret (h:QX D Q .ret n e w):Sx rd D P Code.ret Q n e w:=⟨λa ha=>wpIn_ret (h.run a ha)⟩
theorem sx_true {c:Lz} {x y:Code} (hc:ev e c=some (.bool true)) (h:Sx rd D P x Q n e w):Sx rd D P (Code.cond c x y) Q n e w:=⟨λa ha=>wpIn_cond_true (ha.eval _ _ hc) (h.run a ha)⟩
theorem sx_false {c:Lz} {x y:Code} (hc:ev e c=some (.bool false)) (h:Sx rd D P y Q n e w):Sx rd D P (Code.cond c x y) Q n e w:=⟨λa ha=>wpIn_cond_false (ha.eval _ _ hc) (h.run a ha)⟩
theorem sx_region {id:Nat} {l:List Oper} (h:SxL rd D P l.toArray Q n l e w):Sx rd D P (Code.region id l.toArray false) Q n e w:=⟨λa ha=>wpIn_region_list (show wpListIn (rF rd) 2 P l.toArray Q l.toArray.toList a w from h.run a ha)⟩
theorem sxl_nil {ops:Array Oper} (h:QX D Q .normal n e w):SxL rd D P ops Q n [] e w:=⟨λa ha=>wpListIn_nil (h.run a ha)⟩
theorem qx_seq {y:Code} {Q':Exit→Act→Kw→Prop} (h:Sx rd D P y Q n e w):QX D (Exit.then (y.wpIn (rF rd) 2 P Q) Q') .normal n e w:=⟨λa ha=>h.run a ha⟩
theorem qx_then_exit {K:Act→Kw→Prop} {id:Nat} (h:QX D Q (.exit id) n e w):QX D (Exit.then K Q) (.exit id) n e w:=⟨λa ha=>h.run a ha⟩
theorem qx_then_ret {K:Act→Kw→Prop} (h:QX D Q .ret n e w):QX D (Exit.then K Q) .ret n e w:=⟨λa ha=>h.run a ha⟩
theorem qx_block_normal {id:Nat} (h:QX D Q .normal n e w):QX D (Exit.inBlock id Q) .normal n e w:=⟨λa ha=>h.run a ha⟩
theorem qx_block_ret {id:Nat} (h:QX D Q .ret n e w):QX D (Exit.inBlock id Q) .ret n e w:=⟨λa ha=>h.run a ha⟩
theorem qx_block_hit {id:Nat} (h:QX D Q .normal n e w):QX D (Exit.inBlock id Q) (.exit id) n e w:=.mk λa ha=>by simp only [Exit.inBlock,if_true];exact h.run a ha
def Wn (ops:Array Oper) (e:Env) (o:Oper):Prop:=∀D n a,Agr D n e a→Region.wanted o (yielded ops a.tmps)=true
theorem wn_none {ops:Array Oper} {o:Oper} (h:o.guard=none):Wn ops e o:=λ_ _ a _=>by simp [Region.wanted,h]
theorem wn_on {ops:Array Oper} {o:Oper} {j d:Nat} {b:Bool} (h:o.guard=some (j,b)) (hj:(ops[j]?).bind (·.dst)=some d) (hb:e.get d=some (.bool b)):Wn ops e o:=λ_ _ a ha=>by
 simp [Region.wanted,h,yielded,hj,ha.get d _ hb]
theorem sxl_off {ops:Array Oper} {o:Oper} {rest:List Oper} {j d d':Nat} {b c:Bool} (h:o.guard=some (j,b)) (hj:(ops[j]?).bind (·.dst)=some d) (hb:e.get d=some (.bool c)) (hne:(c==b)=false) (hd:o.dst=some d') (hn:Nat.blt d' n=true)
 (k:SxL rd D P ops Q n rest ((d',undef)::e) w):SxL rd D P ops Q n (o::rest) e w:=.mk λa ha=>by
 have hw:Region.wanted o (yielded ops a.tmps)=false:=by
  simp only [Region.wanted,h,yielded,hj,ha.get d _ hb,Ey]
  cases c<;>cases b<;>simp_all
 unfold wpListIn;rw [if_neg (by simp [hw]),hd];exact ⟨λf _=>U6 rd f,k.run _ (ha.put (CF hn) _)⟩
theorem sxl_y {ops:Array Oper} {o:Oper} {rest:List Oper} {d:Nat} {v:Kv} (hw:Wn ops e o) (hd:o.dst=some d) (hn:Nat.blt d n=true) (hy:Y P e o w v)
 (k:SxL rd D P ops Q n rest ((d,v)::e) w) (hnd:∀c,o.op≠.defer c:=by intro c h;cases h):SxL rd D P ops Q n (o::rest) e w:=.mk λa ha=>by
 unfold wpListIn;rw [if_pos (hw D n a ha)];refine ⟨λf _=>U6 rd f,?_⟩;rw [Oper.semAt_eq _ _ _ hnd,hy _ ha.eval,Oper.uponIn_value,hd];exact k.run _ (ha.put (CF hn) v)
theorem sxl_does {ops:Array Oper} {o:Oper} {rest:List Oper} {R:Kv→Kw→Prop} (d:Option Tmp) (hw:Wn ops e o) (hd:o.dst=d) (hn:JP n d=true) (hy:∀ρ,Ag e ρ→K2 P ρ o w R)
 (k:∀v w',R v w'→SxL rd D P ops Q n rest (e.ins d v) w') (hnd:∀c,o.op≠.defer c:=by intro c h;cases h):SxL rd D P ops Q n (o::rest) e w:=.mk λa ha=>by
 unfold wpListIn;rw [if_pos (hw D n a ha)];refine ⟨λf _=>U6 rd f,?_⟩;rw [Oper.semAt_eq _ _ _ hnd];obtain ⟨u,w',hr|⟨hr,rfl⟩,hR⟩:=hy _ ha.eval
 ·rw [hr,Oper.uponIn_value,hd];exact (k u w' hR).run _ (ha.ins hn u)
 rw [hr,Oper.uponIn_skip,hd];exact (k _ w' hR).run _ (ha.ins hn _)
theorem sxl_call {ops:Array Oper} {o:Oper} {rest:List Oper} {f:FuncId} {args:Array Kv} {R:Ending→Kw→Prop} (d:Option Tmp) (hw:Wn ops e o) (hd:o.dst=d) (hn:JP n d=true) (hy:YC P e o w f args) (hc:Calls P f args w R)
 (k:∀x w',R x w'→∃v,x=.returned v∧SxL rd D P ops Q n rest (e.ins d v) w') (hnd:∀c,o.op≠.defer c:=by intro c h;cases h):SxL rd D P ops Q n (o::rest) e w:=.mk λa ha=>by
 unfold wpListIn;rw [if_pos (hw D n a ha)];refine ⟨λf _=>U6 rd f,?_⟩;rw [Oper.semAt_eq _ _ _ hnd,hy _ ha.eval,Oper.uponIn_enter];refine ⟨λh=>by rw [RP] at h;(cases h),(XV hc 1).mono λx w' hR=>?_⟩;obtain ⟨v,rfl,h⟩:=k x w' hR;simp only [hd];exact h.run _ (ha.ins hn v)
theorem sxl_round {ops:Array Oper} {o:Oper} {rest:List Oper} {x:Lz} {xs:List Lz} {vs:Kx} {ts:Array Ly} {lr:Nat} {r:Loop} {R:Ending→Kw→Prop} (d:Option Tmp) (hw:Wn ops e o) (hd:o.dst=d) (hn:JP n d=true)
 (ho:o.op=.call { callee:=.value x,args:=xs.toArray,argTypes:=ts }) (hx:ev e x=some (.func (.yield lr) #[] #[])) (hxs:evs e xs=some vs) (hh:w.heap[lr]?=some (.loop r)) (hl:vs.length=r.params.size)
 (hc:RoundIn Fence.wide 2 P lr r.fn ((r.params.zip vs.toArray).foldl (λtmps (t,a)=>tmps.setIfInBounds t a) r.tmps) r.assign r.body w R)
 (k:∀x w',R x w'→∃v,x=.returned v∧SxL rd D P ops Q n rest (e.ins d v) w'):SxL rd D P ops Q n (o::rest) e w:=.mk λa ha=>by
 unfold wpListIn;rw [if_pos (hw D n a ha)];refine ⟨λf _=>U6 rd f,?_⟩;rw [Oper.semAt_eq _ _ _ (λc h=>by rw [ho] at h;cases h)]
 have hrun:(execOp a.eval o).run P w=(Instr.yield lr vs.toArray).run P w:=by
  have h1:a.eval x=.func (.yield lr) #[] #[]:=ha.eval _ _ hx;have h2:=ha.eval.all hxs;unfold execOp
  simp [ho,resolve,h1,Deferred.ofValue,invoke,h2]
 rw [hrun,run_yield (P:=P) hh (by simpa using hl),Oper.uponIn_round];refine ⟨λh=>by rw [RP] at h;(cases h),(rH hc 1).mono λx w' hR=>?_⟩;obtain ⟨v,rfl,h⟩:=k x w' hR;simp only [hd];exact h.run _ (ha.ins hn v)
def Again (D:List Deferred) (I:Env→Kw→Nat→Prop) (n m:Nat) (a:Act) (w:Kw):Prop:=∃e m',I e w m'∧m'<m∧Agr D n e a
theorem sx_loop {c:Code} (I:Env→Kw→Nat→Prop) {m0:Nat} {e0:Env} (h0:I e0 w m0) (hl:e0.le e)
 (round:∀e w m,I e w m→Sx rd D P c (Exit.then (Again D I n m) Q) n e w):Sx rd D P (Code.loop c) Q n e w:=by
 refine ⟨λa ha=>wpIn_loop_rounds (m0+1) ?_⟩
 have key:∀k e w a m,m<k→I e w m→Agr D n e a→Code.roundsIn (rF rd) 2 P c Q k a w:=by
  intro k
  induction k with
  | zero=>intro e w a m hm;omega
  | succ k ih=>
   intro e w a m hm hI hA;rw [roundsIn_succ];refine wpIn_mono ((round e w m hI).run a hA) λx a' w' hx=>?_
   cases x with
   | normal=>
    obtain ⟨e',m',h1,h2,h3⟩:=hx;exact ih e' w' a' m' A0 h1 h3
   | exit id=>exact hx
   | goto l=>exact hx
   | ret=>exact hx
   | panic ch=>exact hx
   | outgrown=>exact hx
 exact key (m0+1) e0 w a m0 A0 h0 (ha.weak hl)
theorem qx_again {I:Env→Kw→Nat→Prop} {m:Nat} (r:Env) (m':Nat) (hI:I r w m') (hm:m'<m) (hl:r.le e):QX D (Exit.then (Again D I n m) Q) .normal n e w:=⟨λ_ ha=>⟨r,m',hI,hm,ha.weak hl⟩⟩
theorem sx_enter {f:FuncId} {fn:Func} {c:Code} {vs:Kx} {R:Ending→Kw→Prop} (hf:P.funcs[f]?=some fn) (hb:fn.body=some c) (hn:fn.ntmps=n) (hl:Nat.ble vs.length n=true)
 (h:Sx none [] P c (bodyPostM Fence.wide 2 P fn R) n (QU 0 vs) w):Calls P f vs.toArray w R:=by
 refine (callsIn_wide (n:=2)).1 (callsIn_of_wp_marks hf hb trivial (h.run _ ⟨?_,X,λk v hk=>?_⟩))
 ·have:=Ee hl
  simp;omega
 obtain ⟨_,h2⟩:=QT vs 0 k v hk;rw [Nat.sub_zero] at h2
 have hlt:=(Aj.1 h2).1;rw [Ic (by simpa using hlt)]
 simpa using h2
theorem qx_ret1 {fn:Func} {R:Ending→Kw→Prop} {t:Nat} {v:Kv} (hr:fn.results = #[.tmp t]) (hv:e.get t=some v) (h:R (.returned v) w):QX [] (bodyPostM Fence.wide 2 P fn R) .ret n e w:=.mk λa ha=>by
 have:(results fn a.tmps).run P w=.ok v w:=by simp [results,hr,ha.get t v hv]
 show LeavesInM _ _ _ _ _ _ a.defers _ _
 rw [ha.defers];exact ⟨v,this,h⟩
theorem qx_ret0 {fn:Func} {R:Ending→Kw→Prop} {x:Exit} (hx:x=.ret∨x=.normal) (hr:fn.results = #[]) (h:R (.returned (.tuple #[])) w):QX [] (bodyPostM Fence.wide 2 P fn R) x n e w:=.mk λa ha=>by
 have:(results fn a.tmps).run P w=.ok (.tuple #[]) w:=by simp [results,hr]
 rcases hx with rfl|rfl
 ·show LeavesInM _ _ _ _ _ _ a.defers _ _
  rw [ha.defers];exact ⟨_,this,h⟩
 show LeavesInM _ _ _ _ _ _ a.defers _ _
 rw [ha.defers];exact ⟨_,this,h⟩
theorem V5 {fn:Func} {R:Ending→Kw→Prop} {t b:Nat} {v:Kv} (hr:fn.results = #[.tmp t]) (hv:e.get t=some v) (hb:w.heap[b]?=some (.deferred (some []))) (h:R (.returned v) (w.putObj b (.deferred none))) :
 QX [{ target:=.collected b,args := #[] }] (bodyPostM Fence.wide 2 P fn R) .ret n e w:=.mk λa ha=>by
 have:(results fn a.tmps).run P (w.putObj b (.deferred none))=.ok v (w.putObj b (.deferred none)):=by simp [results,hr,ha.get t v hv]
 show LeavesInM _ _ _ _ _ _ a.defers _ _
 rw [ha.defers];exact ⟨by simp,.inl ⟨b,_,rfl,run_takeDeferred hb,⟨v,this,h⟩⟩⟩
def WG (w:Kw) (fn:FuncId) (tm:Array Kv) (ps:Array Nat) (asg body:Code):Loop:={ state:=.ready,pending:=none,fn:=fn,tmps:=tm,params:=ps,assign:=asg,body:=body,defers:=w.heap.size }
def TI (w:Kw) (fn:FuncId) (tm:Array Kv) (ps:Array Nat) (asg body:Code):Kw:=(w.alloc (.deferred (some []))).alloc (.loop (WG w fn tm ps asg body))
theorem qP {g:Lz} {ps:Array Nat} {asg body:Code} {f:FuncId} {cs:Kx} (hg:ev e g=some (.func (.func f) #[] cs.toArray)) (hc:∀(us:Array Kv) (w:Kw),(callFunc f us).run P w=.ok (.enter f us) w)
 (h:∀fn tm rc,tm.size=n→(∀k v,e.get k=some v→tm[k]?=some v)→rc=WG w fn tm ps asg body→Calls P f ((.func (.yield (w.heap.size+1)) #[] #[])::cs).toArray ((w.alloc (.deferred (some []))).alloc (.loop rc))
  λx w3=>∃v r,x=.returned v∧w3.heap[w.heap.size+1]?=some (.loop r)∧r.state≠.busy∧r.pending=none∧QX ({ target:=.collected w.heap.size,args := #[] }::D) Q .normal n e (w3.putObj (w.heap.size+1) (.loop { r with state:=.exhausted }))) :
 Sx none D P (Code.rangeFunc g ps asg body) Q n e w:=.mk λa ha=>by
 refine wpIn_rangeFunc λfn _=>?_
 have hu:a.eval g=.func (.func f) #[] cs.toArray:=ha.eval _ _ hg
 refine ⟨w.heap.size+1,[{ target:=.collected w.heap.size,args := #[] }],TI w fn a.tmps ps asg body,{ target:=.fn (.func f) cs.toArray,args := #[] ++ #[.func (.yield (w.heap.size+1)) #[] #[]] },TI w fn a.tmps ps asg body,f,((.func (.yield (w.heap.size+1)) #[] #[])::cs).toArray,TI w fn a.tmps ps asg body,
  by rw [dP,run_enterLoop_outer];rfl,?_,λf' _=>U6 _ f',?_,λhd=>by rw [RP] at hd;(cases hd),?_⟩
 ·simp only [resolve,hu,Deferred.ofValue,Sem.run_pure];simp [Act.eval]
 ·unfold invoke
  simp [hc]
 refine (XV (h fn a.tmps _ ha.size ha.get X) 1).mono λx w3 hR=>?_
 obtain ⟨v,r,rfl,hr,hb,hp,hq⟩:=hR;refine ⟨_,_,run_endLoop hr hb,?_⟩;have Xx:=hq.run { a with defers:=[{ target:=.collected w.heap.size,args := #[] }]++a.defers } ⟨ha.size,by show [({ target:=.collected w.heap.size,args := #[] }:Deferred)]++a.defers=_;rw [ha.defers];rfl,ha.get⟩;rw [hp] at Xx ⊢
 exact Xx
end
end Go.Proofs.YtppmdnmjepkfaaaGreatDoor.Sf
namespace Go.Proofs.YtppmdnmjepkfaaaGreatDoor
open Go.RowKit
section
section
variable {P:Lw} {ops:Array Oper} {md:Region.Mode} {w:Kw}
theorem Y9 {o:Oper} {a:Act} {K:Act→Prop} {K':Act→Kw→Prop} {Q':Exit→Act→Kw→Prop} (h:∀a,K a→K' a w) (hh:o.still P a w K):o.wpIn Fence.wide 2 P a w K' Q':=by
 unfold Oper.still at hh
 refine ⟨λf _=>trivial,?_⟩;rw [show Fence.wide.round=none from rfl,Oper.semAt_none]
 generalize (execOp a.eval o).run P w=r at *
 cases r with
 | ok n w'=>
  cases n<;>simp only [Oper.stillUpon] at hh<;>simp only [Oper.uponIn]
  case enter f args=>
   obtain ⟨rfl,v,hc,hn⟩:=hh;exact ⟨λh=>(by cases h),callsIn_wide.2 (hc.mono λe w'' ⟨he,hw⟩=>by subst he;subst hw;exact h _ hn)⟩
  all_goals (obtain ⟨rfl,h2⟩:=hh;exact h _ h2)
 | halt x w'=>simp only [Oper.stillUpon] at hh
theorem VJ {i:Nat} {a:Act} {K:Act→Prop} {K':Act→Kw→Prop} {Q':Exit→Act→Kw→Prop} (h:∀a,K a→K' a w) (hh:stOp P ops w i K a):wpOpIn Fence.wide 2 P ops Q' i K' a w:=by
 unfold stOp at hh
 unfold wpOpIn
 split
 ·rename_i ho;simp only [ho] at hh;exact h _ hh
 rename_i o ho
 simp only [ho] at hh
 split
 ·rename_i hw;simp only [hw,if_true] at hh;exact Y9 h hh
 rename_i hw;simp only [hw] at hh;exact ⟨λ_ _=>trivial,h _ hh⟩
theorem NV {n g:Nat} {L:Array Bool→Act→Prop} {Q':Exit→Act→Kw→Prop} (hL:∀listed a,L listed a→wpAnyIn Fence.wide 2 P md ops Q' g listed a w) :
 ∀(f:Nat) (listed:Array Bool) (a:Act),wpAnyL P md ops w n L f listed a→wpAnyIn Fence.wide 2 P md ops Q' (f+g) listed a w
 | 0,listed,a,h=>by rw [Cm];exact hL _ _ h
 | f+1,listed,a,h=>by
  rw [show f+1+g=(f+g)+1 by omega];exact ⟨λh0=>absurd h0 h.1,λi hi=>VJ (λa' h'=>NV hL f _ a' h') (h.2 i hi).2⟩
theorem O8 {Q':Exit→Act→Kw→Prop}:∀(l:List Oper) (k:Nat) (listed:Array Bool) (a:Act) (w:Kw),(∀j,l[j]?=ops[k+j]?) →
 Region.seqB md ops l.length k listed=true→wpListIn Fence.wide 2 P ops Q' l a w→wpAnyIn Fence.wide 2 P md ops Q' l.length listed a w
 | [],_,_,_,_,_,hB,h=>⟨by simpa [Region.seqB] using hB,h⟩
 | o::l,k,listed,a,w,hl,hB,h=>by
  have h0:ops[k]?=some o:=by simpa using (hl 0).symm
  simp only [Af,Region.seqB,Bh,decide_eq_true_eq] at hB
  refine ⟨λh1=>(by rw [hB.1] at h1;cases h1),λi hi=>?_⟩;rw [hB.1] at hi
  have hik:i=k:=by simpa using hi
  subst hik;have hw:wpOpIn Fence.wide 2 P ops Q' i (wpListIn Fence.wide 2 P ops Q' l) a w:=by unfold wpOpIn;simp only [h0];exact h
  exact wpOpIn_mono (λa' w' h'=>O8 l (i+1) _ a' w' (λj=>by have:=hl (j+1);simpa [Nat.add_assoc,Nat.add_comm 1 j] using this) hB.2 h') hw
theorem SK {id:Nat} {Q:Exit→Act→Kw→Prop} {a:Act} {w:Kw} {l:List Oper} (n:Nat) (hm:P.follows .mixedOrders=true) (hB:Region.lexTailB .any l.toArray n=true)
 (h:wpStill P l.toArray { w with drawn:=w.drawn+1 } (λa'=>wpListIn Fence.wide 2 P l.toArray Q (l.drop n) a' { w with drawn:=w.drawn+1 }) (l.take n) a):(Code.region id l.toArray true).wpIn Fence.wide 2 P Q a w:=by
 simp only [Region.lexTailB,Bh,decide_eq_true_eq] at hB
 obtain ⟨⟨⟨⟨hsel,hn⟩,hs⟩,hc⟩,hlex⟩:=hB;have hn':n<l.length:=by simpa using hn
 have htl:(l.take n).length=n:=by simp;omega
 have hdl:(l.drop n).length=l.toArray.size-n:=by simp
 have inv0:HeadInv .any l.toArray n (Array.replicate l.toArray.size false):=
  ⟨by simp,λj oj _ hl=>(by rw [getD_replicate_false] at hl;cases hl),λt _ ht=>getD_in (by simpa using ht) (getD_replicate_false _ _)⟩
 have H:=wpAnyL_lex (md:=.any) (g:=l.toArray.size-n) hsel hs hc hn (l.take n) 0 _ a (λj hj=>by
  have hj':j<n:=by rw [htl] at hj;exact hj
  simp [hj']) (by simpa using htl) inv0 (by rw [htl];exact hlex) h
 refine wpIn_region_any hm ?_
 have:=NV (Q':=Q) (g:=l.toArray.size-n) (λlisted a' hL=>by
  have:=O8 (md:=.any) (Q':=Q) (l.drop n) n listed a' { w with drawn:=w.drawn+1 } (λj=>by simp [List.getElem?_drop]) (by rw [hdl];exact hL.1) hL.2
  rwa [hdl] at this) _ _ _ H
 rw [htl,show n+(l.toArray.size-n)=l.toArray.size by omega] at this
 exact this
end
section
variable {P:Lw} {Q:Exit→Act→Kw→Prop} {n:Nat} {e:Env} {w:Kw}
theorem qO {id:Nat} {l:List Oper} (k:Nat) (hm:P.follows .mixedOrders=true) (hB:Region.lexTailB .any l.toArray k=true)
 (h:SxS P l.toArray w.drew (λa'=>wpListIn Fence.wide 2 P l.toArray Q (l.drop k) a' w.drew) n (l.take k) e):Sx P (Code.region id l.toArray true) Q n e w:=⟨λa ha=>wpIn_wide.1 (SK k hm hB (h.run a ha))⟩
theorem YW {ops:Array Oper} {l:List Oper} (h:Sf.SxL none [] P ops Q n l e w):SxS P ops w (λa'=>wpListIn Fence.wide 2 P ops Q l a' w) n [] e:=⟨λa ha=>wpStill_nil (h.run a ⟨ha.size,ha.defers,ha.get⟩)⟩
theorem kS {ops:Array Oper} (h:QX Q .normal n e w):Sf.SxL none [] P ops Q n [] e w:=⟨λa ha=>wpListIn_nil (h.run a ⟨ha.size,ha.defers,ha.get⟩)⟩
end
end
open Tryz
section
def As.yl (J:List Ht→List Nat→Kw→Prop) (hJk:∀(hs:List Ht) (F:List Nat) (w w':Kw),(∀g∈F,g<w.heap.size→w'.heap[g]?=w.heap[g]?)→J hs F w→J hs F w') (hs:List Ht) (F:List Nat):As:=⟨F,J hs F,λh hb=>hJk hs F _ _ h hb⟩
theorem Mem.one2 {J:List Ht→List Nat→Kw→Prop} {hJk:∀(hs:List Ht) (F:List Nat) (w w':Kw),(∀g∈F,g<w.heap.size→w'.heap[g]?=w.heap[g]?)→J hs F w→J hs F w'} {hs:List Ht} {F:List Nat} {w:Kw} (h:J hs F w) (hF:∀g∈F,g<w.heap.size):Mem w (λk=>k∈F) [As.yl J hJk hs F] w where
 fr:=Fr.refl
 ok i a hi:=by
  cases i with
  | zero=>simp only [Ai,Ad] at hi;subst hi;exact h
  | succ i=>simp at hi
 lt i a hi g hg:=by
  cases i with
  | zero=>simp only [Ai,Ad] at hi;subst hi;exact ⟨hF g hg,.inr hg⟩
  | succ i=>simp at hi
 apart i j a b hi hj hne:=by
  cases i<;>cases j<;>simp at hi hj<;>omega
structure HIn (w:Kw) (A:Ky) (cp:Nat) (l:List Pa) (gl ga:Nat) (fa:FuncId) (gm:Nat):Prop where
 pts:Pts w A l
 lay:Lay0 w
 gl:Blk w gl 27 [.slice A l.length cp]
 ga:Blk w ga 87 [.func (.func fa) #[] #[.pointer (some ⟨gm,0,none⟩)]]
theorem xD {l:List Pa} {ss:List St} {i:Nat} {s:St} (hp:SsP l ss) (h:ss[i]?=some s):∃k x,s.pl=((k:Nat):Int)∧l[k]?=some x∧runP x=true∧s.tk∈x.i.toks:=by
 obtain ⟨k,x,h1,h2⟩:=W7 (hp.perm.mem_iff.1 (Ac h));exact ⟨k,x,by rw [h1,Cm],h2⟩
theorem OD {x:Pa} {w:Kw} (hx:PaOk w x) (hr:runP x=true):∃gc,x.p=some ⟨gc,0,none⟩∧CourseN w x.m gc x.c x.F∧GU x.m=true∧MdOk x.m:=by
 rcases hx.cr with h|h
 ·rw [runP,h] at hr;cases hr
 exact h
theorem vX {x:Pa} {w:Kw} (hx:PaOk w x) (hr:runP x=true) (t:Tk) :
 Calls prog 56 #[.pointer x.p,.slice x.V x.i.vars.length x.vc,.agg t.cells.toArray] w λe w'=>∃A c',e=.returned (.tuple #[.slice A (D5 x.m x.c t x.i.vars).1.length c',AA (D5 x.m x.c t x.i.vars).2])∧w'.ownsRow w.heap.size 80 5 (.slice A (D5 x.m x.c t x.i.vars).1.length c') (D5 x.m x.c t x.i.vars).1.length (AE Wt.cells (D5 x.m x.c t x.i.vars).1)∧Fr0 w w':=by
 obtain ⟨gc,h,hC,hn,ho⟩:=OD hx hr;rw [h];exact pP x.m gc x.c x.F t x.V x.vc x.i.vars w ho hC (by have:=hx.bd.len;omega) hx.V
theorem a0E {x:Pa} {w:Kw} (hx:PaOk w x) (hr:runP x=true) (t:Tk):(D5 x.m x.c t x.i.vars).1.length≤20000:=by
 obtain ⟨gc,h,hC,hn,ho⟩:=OD hx hr
 have:=YP ho hC t
 unfold D5
 split
 ·exact Ae _
 split
 ·exact Ae _
 rw [Bp];exact this
theorem TA {α:Type} {p:α→Bool}:∀(l:List α) (i:Nat),(l.find? p=none∧ixJ (λ_=>p) i l = -1)∨∃j a,ixJ (λ_=>p) i l=((i+j:Nat):Int)∧l[j]?=some a∧l.find? p=some a
 | [],_=>.inl ⟨rfl,rfl⟩
 | x::r,i=>by
  by_cases h:p x=true
  ·exact .inr ⟨0,x,by rw [ixJ,if_pos h];rfl,rfl,by rw [List.find?_cons_of_pos h]⟩
  rw [List.find?_cons_of_neg h,ixJ,if_neg h];rcases TA r (i+1) with h1|⟨j,a,h1,h2,h3⟩
  ·exact .inl h1
  exact .inr ⟨j+1,a,by rw [h1];congr 1;omega,h2,h3⟩
theorem tK {α:Type} {p:α→Bool} {l:List α} (h:0≤ixJ (λ(_:Nat)=>p) 0 l):∃j a,ixJ (λ(_:Nat)=>p) 0 l=((j:Nat):Int)∧l[j]?=some a∧l.find? p=some a:=by
 rcases TA (p:=p) l 0 with ⟨_,h1⟩|⟨j,a,h1,h2⟩
 ·omega
 exact ⟨j,a,by rw [h1,Cm],h2⟩
theorem X0 {α:Type} {p:α→Bool} {l:List α} (h:decide ((0:Int)≤ixJ (λ(_:Nat)=>p) 0 l)=false):l.find? p=none:=by
 have h:=odf h;rcases TA (p:=p) l 0 with ⟨h1,_⟩|⟨j,a,h1,h2⟩
 ·exact h1
 omega
def LT (ap:Pa→Wt→Bool) (x:Pa) (s:St):Option Ht:=if (D5 x.m x.c s.tk x.i.vars).2=0 then ((D5 x.m x.c s.tk x.i.vars).1.find? (ap x)).map (λwt=>⟨s.pl,s.tk.id,wt.via⟩) else none
def DV (l:List Pa) (ap:Pa→Wt→Bool) (ss:List St):List Ht:=ss.filterMap λs=>(l[s.pl.toNat]?).bind λx=>LT ap x s
section
variable {ap:Pa→Wt→Bool} {x:Pa} {s:St}
theorem bM (h:(!decide ((D5 x.m x.c s.tk x.i.vars).2=(0:Int)))=true):LT ap x s=none:=if_neg (odf (CJ h))
theorem XB (h:(!decide ((D5 x.m x.c s.tk x.i.vars).2=(0:Int)))=false) (hf:(D5 x.m x.c s.tk x.i.vars).1.find? (ap x)=none):LT ap x s=none:=by rw [LT,if_pos (odt (BO h)),hf];rfl
theorem RZ {wt:Wt} (h:(!decide ((D5 x.m x.c s.tk x.i.vars).2=(0:Int)))=false) (hf:(D5 x.m x.c s.tk x.i.vars).1.find? (ap x)=some wt):LT ap x s=some ⟨s.pl,s.tk.id,wt.via⟩:=by rw [LT,if_pos (odt (BO h)),hf];rfl
variable {l:List Pa} {ss ss':List St} {go:Bool} {hs:List Ht} {k:Nat}
theorem QJ (hk:s.pl=(k:Int)) (hx:l[k]?=some x):DV l ap (ss++[s])=DV l ap ss++(LT ap x s).toList:=by
 have:(l[s.pl.toNat]?).bind (λx=>LT ap x s)=LT ap x s:=by rw [hk,Es,hx];rfl
 rw [DV,Gz]
 congr 1
 rw [Hf,this]
 cases LT ap x s<;>rfl
theorem f6 {i:Nat} {A:Ky} {w:Kw} {B:Prop} (hE:hs=DV l ap (ss.take i)∧B) (hp:SsP l ss) (hP:Pts w A l):hs.length≤2400:=by
 have h1:hs.length≤(ss.take i).length:=by rw [hE.1];exact List.length_filterMap_le _ _
 have h2:(ss.take i).length≤ss.length:=by rw [Bl];omega
 have h3:=hp.perm.length_eq;have h4:=W8 (l:=l) (j:=0) λx hx=>(hP.ok x hx).tl
 have h5:=hP.len;omega
theorem PB (hE:hs=DV l ap ss∧(go=true∨hs=[])) (ht:ss'=ss++[s]) (hk:s.pl=(k:Int)) (hx:l[k]?=some x) (hn:LT ap x s=none):hs=DV l ap ss'∧(go=true∨hs=[]):=by
 rw [ht,QJ hk hx,hn,←hE.1];exact ⟨(Bv _).symm,hE.2⟩
theorem XA {h:Ht} (hE:hs=DV l ap ss∧(go=true∨hs=[])) (ht:ss'=ss++[s]) (hk:s.pl=(k:Int)) (hx:l[k]?=some x) (hn:LT ap x s=some h) (hg:go=true):hs++[h]=DV l ap ss'∧(go=true∨hs++[h]=[]):=by
 rw [ht,QJ hk hx,hn,←hE.1];exact ⟨rfl,.inl hg⟩
variable {J:List Ht→List Nat→Kw→Prop} {hJk:∀(hs:List Ht) (F:List Nat) (w w':Kw),(∀g∈F,g<w.heap.size→w'.heap[g]?=w.heap[g]?)→J hs F w→J hs F w'} {F0 F1:List Nat} {w w':Kw} {Ls:List As} {e:Ending}
theorem oE (he:e=.returned (.tuple #[])) (hp:SsP l ss) (M:Mem w (λk=>k∈F0) Ls w') (i:Nat) (hi:Ls[i]?=some (As.yl J hJk hs F1)) (hE:hs=DV l ap (ss.take ss.length)∧(go=true∨hs=[])) :
 e=.returned (.tuple #[])∧∃(ss:List St) (hs:List Ht) (F':List Nat),SsP l ss∧hs=(if go=true then DV l ap ss else (DV l ap ss).take 1)∧J hs F' w'∧Fr (λk=>k∈F0) w w'∧∀g∈F',g∈F0∨(w.heap.size≤g∧g<w'.heap.size):=by
 rw [Ba] at hE
 refine ⟨he,ss,hs,F1,hp,?_,M.ok i _ hi,M.fr,λg hg=>?_⟩
 ·split
  ·exact hE.1
  rename_i hg
  rw [←hE.1,hE.2.resolve_left hg];rfl
 have:=M.lt i _ hi g hg
 exact this.2.symm.imp id λh=>⟨h,this.1⟩
theorem oD {h:Ht} {q:Nat} (he:e=.returned (.tuple #[])) (hp:SsP l ss) (M:Mem w (λk=>k∈F0) Ls w') (i:Nat) (hi:Ls[i]?=some (As.yl J hJk (hs++[h]) F1)) (hE:hs=DV l ap (ss.take q)∧(go=true∨hs=[])) (hs':ss[q]?=some s) (hk:s.pl=((k:Nat):Int)) (hx:l[k]?=some x) (hn:LT ap x s=some h) (hg:go=false) :
 e=.returned (.tuple #[])∧∃(ss:List St) (hs:List Ht) (F':List Nat),SsP l ss∧hs=(if go=true then DV l ap ss else (DV l ap ss).take 1)∧J hs F' w'∧Fr (λk=>k∈F0) w w'∧∀g∈F',g∈F0∨(w.heap.size≤g∧g<w'.heap.size):=by
 have h0:hs=[]:=hE.2.resolve_left (by rw [hg];decide);refine ⟨he,ss,hs++[h],F1,hp,?_,M.ok i _ hi,M.fr,λg hg=>?_⟩
 ·rw [if_neg (by rw [hg];decide),←Cq (q+1) ss,DV,Gz,AS hs']
  have:=QJ (ap:=ap) (ss:=ss.take q) hk hx
  rw [hn,←hE.1,h0] at this
  unfold DV at this
  rw [this,h0];rfl
 have:=M.lt i _ hi g hg
 exact this.2.symm.imp id λh=>⟨h,this.1⟩
end
theorem SA (a0:Int) (a1:Int) (a2:Kz):prog.built 32 [(0,AA a0),(1,AA a1),(2,str a2)]=some #[AA a0,AA a1,str a2]:=by kernel_rfl
theorem tU (ga gp:Nat) (fa:FuncId) (gm:Nat) (x:Pa) (wt:Wt) (b:Bool) (w:Kw) (hfa:∀(ar:Array Kv) (w:Kw),(callFunc fa ar).run prog w=.ok (.enter fa ar) w) (hba:Blk w ga 87 [.func (.func fa) #[] #[pg gm]]) (hbp:Blk w gp 44 (Pa.cells x))
 (hask:∀w1,Fr0 w w1→Calls prog fa #[.agg (Pa.cells x).toArray,.agg (Wt.cells wt).toArray,pg gm] w1 (BS w1 (.bool b))) :
 Calls prog 58 #[.agg (Wt.cells wt).toArray,pg ga,pg gp] w (BS w (.bool b)):=by
 refine BR func58 ntmps58 X λM=>W ?_
 refine CO M X X λg3 w1 hg3 M=>T5 ?_
 refine yl X X (Blk.c (hba.fr0 M.fr) 0 X) (ya X (AI (xs:=[.pointer x.p,AA x.i.id,str x.i.mdl,.int .u8 (x.i.st.toNat:Int),.slice x.V x.i.vars.length x.vc,.slice x.T x.i.toks.length x.tc]) X X (DR (hbp.fr0 M.fr) 0 6 X X) Ir X I8) (CH M 0 X X Cy C9 X (PN M 8 X (C5 X X X hfa) (hask _ M.fr) λw2 M=>W ?_)));exact gr1 X ⟨X,M.fr⟩
theorem zO {α:Type} (cells:α→Kx) (hk:∀x,(cells x).length=5) (A:Ky) (c:Nat) (l:List α) (hl:l.length≤4611686018427387904) (f:FuncId) (cs:Kx) (p:Nat→α→Bool) (S:Nat→Prop) (J:Nat→Kw→Prop) (w:Kw) (hP:PredJ prog f cs (λx=>.agg (cells x).toArray) l p S J w) (hR:∀w1,Fr S w w1→Rd w1 A (l.length*5) (AE cells l)) (hJ:J 0 w) :
 Calls prog 57 #[.slice A l.length c,.func (.func f) #[] cs.toArray] w λe w'=>e=.returned (AA (ixJ p 0 l))∧J (ixN p 0 l) w'∧Fr S w w':=by
 refine sx_enter (vs:=[_,_]) func57 X ntmps57 X ?_;have M:Mem w S [] w:=Mem.nil w;refine W ?_;refine EF M [7,1,0] (λze zF e wr mz=>∃(i:Nat),e=(8,AA (i:Int))::ze∧zF wr∧(i≤l.length)∧(J i wr)∧(ixJ p 0 l=ixJ p i (l.drop i))∧(ixN p 0 l=ixN p i (l.drop i))∧mz=l.length-i) ⟨0,X,M,Ae _,hJ,X,X,X⟩ ?_;rintro _ w1 _ ⟨i,rfl,M,hi,hJ,hr,hn,rfl⟩;refine W ?_;refine AB X (λh9=>?_) (λh9=>?_)
 ·have h9p:=odt h9;refine W ?_;obtain ⟨x,_,_,hx,hA_x⟩:=ex5 (l:=l) (k:=5) (i:=i) (hR _ M.fr);refine ya X (AK i hA_x X X X (sl X) A0) (ya X (AI X X (BM hk (hR _ M.fr) hA_x hx) Cy X C9) (cl 16 X (C5 X X X hP.fn) (hP.call i x _ hx M.fr hJ) ?_));rintro _ w9 ⟨rfl,hJ,hf9⟩;refine cq ?_;have M:Mem w S [] w9:=Mem.ofFr (M.fr.trans hf9);refine W ?_;refine AB X (λh16=>?_) (λh16=>?_)
  ·refine W ?_;exact gr1 X ⟨by rw [hr,AG hx,ixJ,if_pos h16],by rw [hn,AG hx,ixN,if_pos h16];exact hJ,M.fr⟩
  refine W ?_;refine fag ⟨i+1,X,M,?_,?_,?_,?_,X⟩
  ·omega
  ·exact hJ
  ·rw [hr,AG hx,ixJ,AM h16]
  rw [hn,AG hx,ixN,AM h16]
 have h9p:=odf h9;refine W ?_;refine gr1 X ?_;obtain rfl:i=l.length:=by omega
 exact ⟨by rw [hr,Am];rfl,by rw [hn,Am];exact hJ,M.fr⟩
theorem f7 (A:Ky) (cp:Nat) (l:List Pa) (gl ga:Nat) (fa:FuncId) (gm:Nat) (ap:Pa→Wt→Bool) (go:Bool) (lr:Nat) (J:List Ht→List Nat→Kw→Prop) (hJk:∀(hs:List Ht) (F:List Nat) (w w':Kw),(∀g∈F,g<w.heap.size→w'.heap[g]?=w.heap[g]?)→J hs F w→J hs F w') (F0:List Nat) (w:Kw) (hJ:J [] F0 w) (hF0:∀g∈F0,g<w.heap.size)
 (hfa:∀(ar:Array Kv) (w:Kw),(callFunc fa ar).run prog w=.ok (.enter fa ar) w) (hPt:∀w1,Fr (λk=>k∈F0) w w1→HIn w1 A cp l gl ga fa gm)
 (hask:∀x∈l,runP x=true→∀(wt:Wt) (w1:Kw),Fr (λk=>k∈F0) w w1→Calls prog fa #[.agg (Pa.cells x).toArray,.agg (Wt.cells wt).toArray,pg gm] w1 (BS w1 (.bool (ap x wt))))
 (hround:∀(hs:List Ht) (F:List Nat) (h:Ht) (w1:Kw),hs.length≤2400→J hs F w1→(go=true∨hs=[])→∃r,w1.heap[lr]?=some (.loop r)∧r.params.size=1∧RoundIn Fence.wide 2 prog lr r.fn ((r.params.zip [Value.agg (Ht.cells h).toArray].toArray).foldl (λtmps (t,a)=>tmps.setIfInBounds t a) r.tmps) r.assign r.body w1 (λe w'=>e=.returned (.bool go)∧∃F',J (hs++[h]) F' w'∧Fr (λk=>k∈F) w1 w'∧∀g∈F',g∈F∨(w1.heap.size≤g∧g<w'.heap.size))) :
 Calls prog 54 #[.func (.yield lr) #[] #[],pg gl,pg ga] w λe w'=>e=.returned (.tuple #[])∧∃(ss:List St) (hs:List Ht) (F':List Nat),SsP l ss∧hs=(if go=true then DV l ap ss else (DV l ap ss).take 1)∧J hs F' w'∧Fr (λk=>k∈F0) w w'∧∀g∈F',g∈F0∨(w.heap.size≤g∧g<w'.heap.size):=by
 refine sx_enter (vs:=[_,_,_]) func54 X ntmps54 X ?_;have M:Mem w (λk=>k∈F0) [As.yl J hJk [] F0] w:=Mem.one2 hJ hF0;refine srg (yl X X (Blk.c ((hPt _ M.fr).gl) 0 X) (cl 11 X (AD X X call55) (mJ A cp l _ (hPt _ M.fr).pts (hPt _ M.fr).lay) ?_));rintro _ w1 ⟨ss,A',c',rfl,hpm,how1,hfw1⟩;refine ⟨_,X,?_⟩;have M:=M.pushOwn hfw1 (Ab _) how1;have hL11:=M.ownLen 0 X;refine UR X X (CQ X (sx_block (flp [12,11,2,1,0] (λze e wr mz=>∃(i:Nat) (hz:List Ht) (F1:List Nat),e=(13,AA (i:Int))::ze∧Mem w (λk=>k∈F0) [As.own w.heap.size 127 10 (.slice A' ss.length c') ss.length (AE St.cells ss),As.yl J hJk hz F1] wr∧(i≤ss.length)∧(hz=DV l ap (ss.take i)∧(go=true∨hz=[]))∧mz=ss.length-i) ⟨0,[],F0,X,M,Ae _,⟨X,.inr X⟩,X⟩ ?_)));rintro _ w2 _ ⟨i,hz,F1,rfl,M,hi,hE,rfl⟩;refine srg (GB X X (nq (sx_seq (AB X (λh14=>?_) (λh14=>?_)))))
 ·have h14p:=(odt h14);refine sx_skip (qx_seq (sx_seq (sx_block (srg ?_))));obtain ⟨s,hs⟩:=EP (l:=ss) (i:=i) A0;obtain ⟨b_s,o_s,hA_s⟩:=E3 (k:=10) A0 (M.rdOwn 0 X) hs;refine ya X (AK i hA_s X X X (sl X) A0) (ya X (AI X X (BM St.len (M.rdOwn 0 X) hA_s hs) Cp X BZ) (CI M X aA λg5 w3 hg5 M=>BY M 0 X X BZ X λw4 M=>a2D (yl X X (Blk.c ((hPt _ M.fr).gl) 0 X) (yb X ?_))));obtain ⟨k,x,hk,hx,hrun,hmem⟩:=xD hpm hs;refine ya X (B2 X X (sc X) (show Cell _ g5 0 (AA ((k:Nat):Int)) from hk▸M.cell 0 rfl rfl)) ?_;have hkl:k<l.length:=(Aj.1 hx).1;obtain ⟨b3_x,o3_x,hA3_x⟩:=E3 (k:=6) A0 ((hPt _ M.fr).pts.rd) hx;refine ya X (AK k hA3_x X X X (sl X) A0) (ya X (AI X X (BM Pa.len ((hPt _ M.fr).pts.rd) hA3_x hx) Ir X I8) (CI M X PR λg6 w5 hg6 M=>BY M 0 X X I8 X λw6 M=>nq (CB X (FV M 0 X X X (DO X X (FV M 0 X X X (yb X ?_)))))));refine ya X (AI (xs:=[AA s.tk.id,str s.tk.loc,str s.tk.on,AA s.tk.born,AA s.tk.tries,str s.tk.worker,AA s.tk.until_,.int .u8 (s.tk.inc.toNat:Int),AA s.tk.err]) X X (DR (M.blk 1 X) 1 9 X X) Bm X BA) (cl 30 X (AD X X call56) (vX ((hPt _ M.fr).pts.ok _ (Ac hx)) hrun s.tk) ?_);rintro _ w7 ⟨AW,cW,rfl,how7,hfw7⟩;refine ⟨_,X,?_⟩;have M:=M.pushOwn hfw7 (Ab _) how7;have hL30:=M.ownLen 0 X;iterate 5 refine yb X ?_
  refine nq (sx_seq (CB X (tY X X (nq (AB X (λh34=>?_) (λh34=>?_))))))
  ·have h34p:=(odf (CJ h34));refine sx_exit (qx_then_exit (qx_block_hit (qx_seq (sx_region (CZ X X (yb X (sxl_nil (fag ⟨i+1,hz,F1,X,(M.pk [3,4]),?_,?_,X⟩))))))))
   ·omega
   first
    | exact PB hE (AS hs) hk hx (bM h34)
    | exact PB hE (AS hs) hk hx (XB h34 (X0 h40))
    | exact XA hE (AS hs) hk hx (RZ h34 hfd) (by simpa using h55)
  have h34p:=(odt (BO h34));refine sx_skip (qx_seq (CB X (ya X (CY (us:=[]) (vs:=[pg ga,pg g6]) X X X) ?_)));have hWl:=a0E ((hPt _ M.fr).pts.ok _ (Ac hx)) hrun s.tk;refine cl 37 X (AD X X call57) (zO Wt.cells Wt.len AW cW (D5 x.m x.c s.tk x.i.vars).1 A0 58 [pg ga,pg g6] (λ(_:Nat) (wt:Wt)=>ap x wt) AR (λ_ _=>True) _ (IW call58 (λwt _ w9 hf9=>tU ga g6 fa gm x wt (ap x wt) w9 hfa (hPt _ (M.fr.then0 hf9)).ga ((M.blk 1 X).fr0 hf9) (λw8 hf8=>hask x (Ac hx) hrun wt w8 ((M.fr.then0 hf9).then0 hf8)))) (λ_ hf9=>(M.rdOwn 0 X).fr0 hf9) trivial) ?_;rintro _ w8 ⟨rfl,_,hfw8⟩;refine ⟨AA (ixJ (λ(_:Nat) (wt:Wt)=>ap x wt) 0 (D5 x.m x.c s.tk x.i.vars).1),X,?_⟩;have M:=M.step hfw8;refine CQ X (sx_seq (qO 15 CA gkr ?_));have M:=M.drew;refine sb X (sa X (L2 X X X) (sb X (C1 (d:=40) X (λh40=>?_) (λh40=>?_))))
  ·have h40p:=(odt h40);obtain ⟨j,wt,hj,hw,hfd⟩:=tK (by have:=odt h40;omega);rw [hj];have hjl:j<(D5 x.m x.c s.tk x.i.vars).1.length:=(Aj.1 hw).1;refine gsg X (yp X) (gsg X (yp X) (gsg X (B2 X X (sc X) (M.cell 2 X X)) (gsg X (yp X) (gsg X (yp X) (gsg X (B2 X X (sc X) (M.cell 2 X X)) (gsg X (yp X) (gsg X (yp X) ?_)))))));obtain ⟨b5_wt,o5_wt,hA5_wt⟩:=E3 (k:=5) A0 (M.rdOwn 0 X) hw;refine gsg X (AK j hA5_wt X X X (sl X) A0) (gsg X (yp X) (gsg X (B2 X X (sc X) (BD Wt.len (M.rdOwn 0 X) hA5_wt hw 0 X)) (gsg X (B7 (parts:=[(0,_),(1,_),(2,_)]) X X (SA _ _ _)) (YW ?_))));obtain ⟨r,hr,hps,hro⟩:=hround hz F1 (⟨s.pl,s.tk.id,wt.via⟩:Ht) _ (f6 hE hpm (hPt _ M.fr).pts) (M.ok 4 _ X) hE.2;refine Sf.sxl_round (some 53) (Sf.wn_on X X X) X X X X X hr (by rw [hps];rfl) hro ?_;rintro _ w9 ⟨rfl,F2,hJ2,hfw9,hF2⟩;refine ⟨_,X,?_⟩;have M:=M.upd 4 X hfw9 (As.yl J hJk (hz++[(⟨s.pl,s.tk.id,wt.via⟩:Ht)]) F2) hJ2 hF2;refine Sf.sxl_y (Sf.wn_on X X X) X X (yp X) (Sf.sxl_y (Sf.wn_none X) X X (yp X) (kS (qx_seq (AB X (λh55=>?_) (λh55=>?_)))))
   ·have h55p:=(CJ h55);exact sx_ret (qx_block_ret (qx_then_ret (qx_then_ret (qx_block_ret (qx_ret0 (Or.inl X) X (oD X hpm M 4 X hE hs hk hx (RZ h34 hfd) (by simpa using h55)))))))
   have h55p:=(BO h55);refine sx_skip (qx_block_normal (qx_seq (sx_region (CZ X X (yb X (sxl_nil (fag ⟨i+1,(hz++[(⟨s.pl,s.tk.id,wt.via⟩:Ht)]),F2,X,(M.pk [3,4]),?_,?_,X⟩)))))))
   ·omega
   first
    | exact PB hE (AS hs) hk hx (bM h34)
    | exact PB hE (AS hs) hk hx (XB h34 (X0 h40))
    | exact XA hE (AS hs) hk hx (RZ h34 hfd) (by simpa using h55)
  have h40p:=(odf h40);iterate 12 refine EJ X X X X X X ?_
  refine YW (Sf.sxl_off X X X X X X (Sf.sxl_off X X X X X X (Sf.sxl_y (Sf.wn_none X) X X (yp X) (kS (qx_seq (sx_false X (sx_skip (qx_block_normal (qx_seq (sx_region (CZ X X (yb X (sxl_nil (fag ⟨i+1,hz,F1,X,(M.pk [3,4]),?_,?_,X⟩))))))))))))))
  ·omega
  first
   | exact PB hE (AS hs) hk hx (bM h34)
   | exact PB hE (AS hs) hk hx (XB h34 (X0 h40))
   | exact XA hE (AS hs) hk hx (RZ h34 hfd) (by simpa using h55)
 have h14p:=(odf h14);refine sx_exit (qx_then_exit (qx_then_exit ?_));obtain rfl:i=ss.length:=by omega
 exact qx_block_hit (qx_ret0 (Or.inr X) X (oE X hpm M 1 X hE))
end
end Go.Proofs.YtppmdnmjepkfaaaGreatDoor
