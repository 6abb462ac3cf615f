/- Lemmas. -/
import Derived.Test.YtaheakjfkpkefaaGreatDoorVb2
import Derived.LoopNIn
import Derived.TacticsIn
import Derived.OrdersIn
import Derived.RangeFuncCalls
import Derived.RangeFuncLeaves
import Derived.RangeFuncRecord
set_option maxHeartbeats 16000000
set_option maxRecDepth 100000
namespace Go.Proofs.YtaheakjfkpkefaaGreatDoor
open Go.RowKit
def rF : Option Nat→Fence
 | none=>Fence.wide
 | some l=>Fence.wide.inRound l
theorem R5 (rd:Option Nat) (f:FuncId):(rF rd).fn f:=by cases rd<;>trivial
theorem PB (rd:Option Nat):(rF rd).depth=none:=by cases rd<;>rfl
theorem YB (rd:Option Nat):(rF rd).round=rd:=by cases rd<;>rfl
theorem aT (a:Act) (d:Option Tmp) (v:Value):(a.put d v).defers=a.defers:=by cases d<;>rfl
section
variable {P:Program} {rd:Option Nat} {w:World}
theorem U8 {f:FuncId} {args:Array Value} {R:Ending→World→Prop} (h:Calls P f args w R) (k:Nat):CallsIn (rF rd) k P f args w R:=by
 cases rd with
 | none=>exact callsIn_wide.2 h
 | some l=>exact CallsIn.inRound l (callsIn_wide.2 h)
theorem lQ {l:Nat} {f:FuncId} {tmps:Array Value} {asg body:Code} {R:Ending→World→Prop} (h:RoundIn Fence.wide 2 P l f tmps asg body w R) (k:Nat):RoundIn (rF rd) k P l f tmps asg body w R:=by
 refine ⟨R5 rd f,λc cs _=>?_⟩
 have:=h.2 c cs (room_wide _)
 cases rd<;>exact this
end
theorem QT (w:World) (o:Obj) {r:Nat} (hr:r<w.heap.size):(w.alloc o).heap[r]?=w.heap[r]?:=by
 show (w.heap.push o)[r]?=_
 rw [Array.getElem?_push,if_neg AA]
end Go.Proofs.YtaheakjfkpkefaaGreatDoor
namespace Go.Proofs.YtaheakjfkpkefaaGreatDoor.Sf
open Go.RowKit
structure Agr (D:List Deferred) (n:Nat) (e:Env) (a:Act):Prop where
 size:a.tmps.size=n
 defers:a.defers=D
 get:∀k v,e.get k=some v→a.tmps[k]?=some v
theorem Agr.eval {D:List Deferred} {n:Nat} {e:Env} {a:Act} (h:Agr D n e a):Ag e a.eval:=λx v hx=>by
 cases x with
 | tmp t=>have:=h.get t v hx;simp [Act.eval,this]
 | const c=>injection hx
 | global g=>injection hx
 | func f=>injection hx
theorem Agr.weak {D:List Deferred} {n:Nat} {e r:Env} {a:Act} (h:Agr D n e a) (hl:r.le e):Agr D n r a:=⟨h.size,h.defers,λk v hk=>h.get k v (Env.le_get hl k v hk)⟩
theorem Agr.put {D:List Deferred} {n:Nat} {e:Env} {a:Act} (h:Agr D n e a) {d:Nat} (hd:d<n) (v:Value):Agr D n ((d,v)::e) (a.put (some d) v) where
 size:=by simp [Act.put,h.size]
 defers:=by rw [aT];exact h.defers
 get k u hk:=by
  simp only [Act.put]
  by_cases hkd:d=k
  ·subst hkd
   have:u=v:=by simp [Env.get] at hk;exact hk.symm
   rw [this,Array.getElem?_setIfInBounds_self_of_lt (by rw [h.size];exact hd)]
  ·rw [Array.getElem?_setIfInBounds_ne hkd];refine h.get k u ?_;have hb:Nat.beq d k=false:=by cases hq:Nat.beq d k with|false=>rfl|true=>exact absurd (Nat.eq_of_beq_eq_true hq) hkd
   simpa [Env.get,hkd,Ne.symm hkd,hb] using hk
theorem Agr.ins {D:List Deferred} {n:Nat} {e:Env} {a:Act} (h:Agr D n e a) {d:Option Tmp} (hd:JC n d=true) (v:Value):Agr D n (e.ins d v) (a.put d v):=by
 cases d with
 | none=>exact h
 | some d=>exact h.put (CO hd) v
structure Sx (rd:Option Nat) (D:List Deferred) (P:Program) (c:Code) (Q:Exit→Act→World→Prop) (n:Nat) (e:Env) (w:World):Prop where
 run:∀a,Agr D n e a→c.wpIn (rF rd) 2 P Q a w
structure SxL (rd:Option Nat) (D:List Deferred) (P:Program) (ops:Array Oper) (Q:Exit→Act→World→Prop) (n:Nat) (l:List Oper) (e:Env) (w:World):Prop where
 run:∀a,Agr D n e a→wpListIn (rF rd) 2 P ops Q l a w
structure QX (D:List Deferred) (Q:Exit→Act→World→Prop) (x:Exit) (n:Nat) (e:Env) (w:World):Prop where
 run:∀a,Agr D n e a→Q x a w
section
variable {rd:Option Nat} {D:List Deferred} {P:Program} {Q:Exit→Act→World→Prop} {n:Nat} {e:Env} {w:World}
theorem sx_seq {x y:Code} (h:Sx rd D P x (Exit.then (y.wpIn (rF rd) 2 P Q) Q) n e w):Sx rd D P (Code.seq x y) Q n e w:=⟨λa ha=>wpIn_seq (h.run a ha)⟩
theorem sx_block {id:Nat} {c:Code} (h:Sx rd D P c (Exit.inBlock id Q) n e w):Sx rd D P (Code.block id c) Q n e w:=⟨λa ha=>wpIn_block (h.run a ha)⟩
theorem sx_skip (h:QX D Q .normal n e w):Sx rd D P Code.skip Q n e w:=⟨λa ha=>wpIn_skip (h.run a ha)⟩
theorem sx_exit {id:Nat} (h:QX D Q (.exit id) n e w):Sx rd D P (Code.exit id) Q n e w:=⟨λa ha=>wpIn_exit (h.run a ha)⟩
theorem sx_ret (h:QX D Q .ret n e w):Sx rd D P Code.ret Q n e w:=⟨λa ha=>wpIn_ret (h.run a ha)⟩
theorem sx_true {c:Operand} {x y:Code} (hc:ev e c=some (.bool true)) (h:Sx rd D P x Q n e w):Sx rd D P (Code.cond c x y) Q n e w:=⟨λa ha=>wpIn_cond_true (ha.eval _ _ hc) (h.run a ha)⟩
theorem sx_false {c:Operand} {x y:Code} (hc:ev e c=some (.bool false)) (h:Sx rd D P y Q n e w):Sx rd D P (Code.cond c x y) Q n e w:=⟨λa ha=>wpIn_cond_false (ha.eval _ _ hc) (h.run a ha)⟩
theorem sx_region {id:Nat} {l:List Oper} (h:SxL rd D P l.toArray Q n l e w):Sx rd D P (Code.region id l.toArray false) Q n e w:=⟨λa ha=>wpIn_region_list (show wpListIn (rF rd) 2 P l.toArray Q l.toArray.toList a w from h.run a ha)⟩
theorem sxl_nil {ops:Array Oper} (h:QX D Q .normal n e w):SxL rd D P ops Q n [] e w:=⟨λa ha=>wpListIn_nil (h.run a ha)⟩
theorem qx_seq {y:Code} {Q':Exit→Act→World→Prop} (h:Sx rd D P y Q n e w):QX D (Exit.then (y.wpIn (rF rd) 2 P Q) Q') .normal n e w:=⟨λa ha=>h.run a ha⟩
theorem qx_then_exit {K:Act→World→Prop} {id:Nat} (h:QX D Q (.exit id) n e w):QX D (Exit.then K Q) (.exit id) n e w:=⟨λa ha=>h.run a ha⟩
theorem qx_then_ret {K:Act→World→Prop} (h:QX D Q .ret n e w):QX D (Exit.then K Q) .ret n e w:=⟨λa ha=>h.run a ha⟩
theorem qx_block_normal {id:Nat} (h:QX D Q .normal n e w):QX D (Exit.inBlock id Q) .normal n e w:=⟨λa ha=>h.run a ha⟩
theorem qx_block_ret {id:Nat} (h:QX D Q .ret n e w):QX D (Exit.inBlock id Q) .ret n e w:=⟨λa ha=>h.run a ha⟩
theorem qx_block_hit {id:Nat} (h:QX D Q .normal n e w):QX D (Exit.inBlock id Q) (.exit id) n e w:=.mk λa ha=>by simp only [Exit.inBlock,if_true];exact h.run a ha
def Wn (ops:Array Oper) (e:Env) (o:Oper):Prop:=∀D n a,Agr D n e a→Region.wanted o (yielded ops a.tmps)=true
theorem wn_none {ops:Array Oper} {o:Oper} (h:o.guard=none):Wn ops e o:=λ_ _ a _=>by simp [Region.wanted,h]
theorem wn_on {ops:Array Oper} {o:Oper} {j d:Nat} {b:Bool} (h:o.guard=some (j,b)) (hj:(ops[j]?).bind (·.dst)=some d) (hb:e.get d=some (.bool b)):Wn ops e o:=λ_ _ a ha=>by
 simp [Region.wanted,h,yielded,hj,ha.get d _ hb]
theorem sxl_off {ops:Array Oper} {o:Oper} {rest:List Oper} {j d d':Nat} {b c:Bool} (h:o.guard=some (j,b)) (hj:(ops[j]?).bind (·.dst)=some d) (hb:e.get d=some (.bool c)) (hne:(c==b)=false) (hd:o.dst=some d') (hn:Nat.blt d' n=true)
 (k:SxL rd D P ops Q n rest ((d',undef)::e) w):SxL rd D P ops Q n (o::rest) e w:=.mk λa ha=>by
 have hw:Region.wanted o (yielded ops a.tmps)=false:=by
  simp only [Region.wanted,h,yielded,hj,ha.get d _ hb,Option.bind_some]
  cases c<;>cases b<;>simp_all
 unfold wpListIn;rw [if_neg (by simp [hw]),hd];exact ⟨λf _=>R5 rd f,k.run _ (ha.put (CO hn) _)⟩
theorem sxl_y {ops:Array Oper} {o:Oper} {rest:List Oper} {d:Nat} {v:Value} (hw:Wn ops e o) (hd:o.dst=some d) (hn:Nat.blt d n=true) (hy:Y P e o w v)
 (k:SxL rd D P ops Q n rest ((d,v)::e) w) (hnd:∀c,o.op≠.defer c:=by intro c h;cases h):SxL rd D P ops Q n (o::rest) e w:=.mk λa ha=>by
 unfold wpListIn;rw [if_pos (hw D n a ha)];refine ⟨λf _=>R5 rd f,?_⟩;rw [Oper.semAt_eq _ _ _ hnd,hy _ ha.eval,Oper.uponIn_value,hd];exact k.run _ (ha.put (CO hn) v)
theorem sxl_does {ops:Array Oper} {o:Oper} {rest:List Oper} {R:Value→World→Prop} (d:Option Tmp) (hw:Wn ops e o) (hd:o.dst=d) (hn:JC n d=true) (hy:∀ρ,Ag e ρ→GB P ρ o w R)
 (k:∀v w',R v w'→SxL rd D P ops Q n rest (e.ins d v) w') (hnd:∀c,o.op≠.defer c:=by intro c h;cases h):SxL rd D P ops Q n (o::rest) e w:=.mk λa ha=>by
 unfold wpListIn;rw [if_pos (hw D n a ha)];refine ⟨λf _=>R5 rd f,?_⟩;rw [Oper.semAt_eq _ _ _ hnd];obtain ⟨u,w',hr|⟨hr,rfl⟩,hR⟩:=hy _ ha.eval
 ·rw [hr,Oper.uponIn_value,hd];exact (k u w' hR).run _ (ha.ins hn u)
 ·rw [hr,Oper.uponIn_skip,hd];exact (k _ w' hR).run _ (ha.ins hn _)
theorem sxl_call {ops:Array Oper} {o:Oper} {rest:List Oper} {f:FuncId} {args:Array Value} {R:Ending→World→Prop} (d:Option Tmp) (hw:Wn ops e o) (hd:o.dst=d) (hn:JC n d=true) (hy:YC P e o w f args) (hc:Calls P f args w R)
 (k:∀x w',R x w'→∃v,x=.returned v∧SxL rd D P ops Q n rest (e.ins d v) w') (hnd:∀c,o.op≠.defer c:=by intro c h;cases h):SxL rd D P ops Q n (o::rest) e w:=.mk λa ha=>by
 unfold wpListIn;rw [if_pos (hw D n a ha)];refine ⟨λf _=>R5 rd f,?_⟩;rw [Oper.semAt_eq _ _ _ hnd,hy _ ha.eval,Oper.uponIn_enter];refine ⟨λh=>by rw [PB] at h;(cases h),(U8 hc 1).mono λx w' hR=>?_⟩;obtain ⟨v,rfl,h⟩:=k x w' hR;simp only [hd];exact h.run _ (ha.ins hn v)
theorem sxl_round {ops:Array Oper} {o:Oper} {rest:List Oper} {x:Operand} {xs:List Operand} {vs:List Value} {ts:Array TypeId} {lr:Nat} {r:Loop} {R:Ending→World→Prop} (d:Option Tmp) (hw:Wn ops e o) (hd:o.dst=d) (hn:JC n d=true)
 (ho:o.op=.call { callee:=.value x,args:=xs.toArray,argTypes:=ts }) (hx:ev e x=some (.func (.yield lr) #[] #[])) (hxs:evs e xs=some vs) (hh:w.heap[lr]?=some (.loop r)) (hl:vs.length=r.params.size)
 (hc:RoundIn Fence.wide 2 P lr r.fn ((r.params.zip vs.toArray).foldl (λtmps (t,a)=>tmps.setIfInBounds t a) r.tmps) r.assign r.body w R)
 (k:∀x w',R x w'→∃v,x=.returned v∧SxL rd D P ops Q n rest (e.ins d v) w'):SxL rd D P ops Q n (o::rest) e w:=.mk λa ha=>by
 unfold wpListIn;rw [if_pos (hw D n a ha)];refine ⟨λf _=>R5 rd f,?_⟩;rw [Oper.semAt_eq _ _ _ (λc h=>by rw [ho] at h;cases h)]
 have hrun:(execOp a.eval o).run P w=(Instr.yield lr vs.toArray).run P w:=by
  have h1:a.eval x=.func (.yield lr) #[] #[]:=ha.eval _ _ hx;have h2:=ha.eval.all hxs;unfold execOp
  simp [ho,resolve,h1,Deferred.ofValue,invoke,h2]
 rw [hrun,run_yield (P:=P) hh (by simpa using hl),Oper.uponIn_round];refine ⟨λh=>by rw [PB] at h;(cases h),(lQ hc 1).mono λx w' hR=>?_⟩;obtain ⟨v,rfl,h⟩:=k x w' hR;simp only [hd];exact h.run _ (ha.ins hn v)
def Again (D:List Deferred) (I:Env→World→Nat→Prop) (n m:Nat) (a:Act) (w:World):Prop:=∃e m',I e w m'∧m'<m∧Agr D n e a
theorem sx_loop {c:Code} (I:Env→World→Nat→Prop) {m0:Nat} {e0:Env} (h0:I e0 w m0) (hl:e0.le e)
 (round:∀e w m,I e w m→Sx rd D P c (Exit.then (Again D I n m) Q) n e w):Sx rd D P (Code.loop c) Q n e w:=by
 refine ⟨λa ha=>wpIn_loop_rounds (m0+1) ?_⟩
 have key:∀k e w a m,m<k→I e w m→Agr D n e a→Code.roundsIn (rF rd) 2 P c Q k a w:=by
  intro k
  induction k with
  | zero=>intro e w a m hm;omega
  | succ k ih=>
   intro e w a m hm hI hA;rw [roundsIn_succ];refine wpIn_mono ((round e w m hI).run a hA) λx a' w' hx=>?_
   cases x with
   | normal=>
    obtain ⟨e',m',h1,h2,h3⟩:=hx;exact ih e' w' a' m' AA h1 h3
   | exit id=>exact hx
   | goto l=>exact hx
   | ret=>exact hx
   | panic ch=>exact hx
   | outgrown=>exact hx
 exact key (m0+1) e0 w a m0 AA h0 (ha.weak hl)
theorem qx_again {I:Env→World→Nat→Prop} {m:Nat} (r:Env) (m':Nat) (hI:I r w m') (hm:m'<m) (hl:r.le e):QX D (Exit.then (Again D I n m) Q) .normal n e w:=⟨λ_ ha=>⟨r,m',hI,hm,ha.weak hl⟩⟩
theorem sx_enter {f:FuncId} {fn:Func} {c:Code} {vs:List Value} {R:Ending→World→Prop} (hf:P.funcs[f]?=some fn) (hb:fn.body=some c) (hn:fn.ntmps=n) (hl:Nat.ble vs.length n=true)
 (h:Sx none [] P c (bodyPostM Fence.wide 2 P fn R) n (OP 0 vs) w):Calls P f vs.toArray w R:=by
 refine (callsIn_wide (n:=2)).1 (callsIn_of_wp_marks hf hb trivial (h.run _ ⟨?_,X,λk v hk=>?_⟩))
 ·have:=Nat.le_of_ble_eq_true hl
  simp;omega
 ·obtain ⟨_,h2⟩:=OO vs 0 k v hk;rw [Nat.sub_zero] at h2
  have hlt:=(List.getElem?_eq_some_iff.1 h2).1;rw [Array.getElem?_append_left (by simpa using hlt)]
  simpa using h2
theorem qx_ret1 {fn:Func} {R:Ending→World→Prop} {t:Nat} {v:Value} (hr:fn.results = #[.tmp t]) (hv:e.get t=some v) (h:R (.returned v) w):QX [] (bodyPostM Fence.wide 2 P fn R) .ret n e w:=.mk λa ha=>by
 have:(results fn a.tmps).run P w=.ok v w:=by simp [results,hr,ha.get t v hv]
 show LeavesInM _ _ _ _ _ _ a.defers _ _
 rw [ha.defers];exact ⟨v,this,h⟩
theorem qx_ret0 {fn:Func} {R:Ending→World→Prop} {x:Exit} (hx:x=.ret∨x=.normal) (hr:fn.results = #[]) (h:R (.returned (.tuple #[])) w):QX [] (bodyPostM Fence.wide 2 P fn R) x n e w:=.mk λa ha=>by
 have:(results fn a.tmps).run P w=.ok (.tuple #[]) w:=by simp [results,hr]
 rcases hx with rfl|rfl
 ·show LeavesInM _ _ _ _ _ _ a.defers _ _
  rw [ha.defers];exact ⟨_,this,h⟩
 ·show LeavesInM _ _ _ _ _ _ a.defers _ _
  rw [ha.defers];exact ⟨_,this,h⟩
theorem RQ {fn:Func} {R:Ending→World→Prop} {t b:Nat} {v:Value} (hr:fn.results = #[.tmp t]) (hv:e.get t=some v) (hb:w.heap[b]?=some (.deferred (some []))) (h:R (.returned v) (w.putObj b (.deferred none))) :
 QX [{ target:=.collected b,args := #[] }] (bodyPostM Fence.wide 2 P fn R) .ret n e w:=.mk λa ha=>by
 have:(results fn a.tmps).run P (w.putObj b (.deferred none))=.ok v (w.putObj b (.deferred none)):=by simp [results,hr,ha.get t v hv]
 show LeavesInM _ _ _ _ _ _ a.defers _ _
 rw [ha.defers];exact ⟨by simp,.inl ⟨b,_,rfl,run_takeDeferred hb,⟨v,this,h⟩⟩⟩
def SR (w:World) (fn:FuncId) (tm:Array Value) (ps:Array Nat) (asg body:Code):Loop:={ state:=.ready,pending:=none,fn:=fn,tmps:=tm,params:=ps,assign:=asg,body:=body,defers:=w.heap.size }
def QI (w:World) (fn:FuncId) (tm:Array Value) (ps:Array Nat) (asg body:Code):World:=(w.alloc (.deferred (some []))).alloc (.loop (SR w fn tm ps asg body))
theorem l5 {g:Operand} {ps:Array Nat} {asg body:Code} {f:FuncId} {cs:List Value} (hg:ev e g=some (.func (.func f) #[] cs.toArray)) (hc:∀(us:Array Value) (w:World),(callFunc f us).run P w=.ok (.enter f us) w)
 (h:∀fn tm rc,tm.size=n→(∀k v,e.get k=some v→tm[k]?=some v)→rc=SR w fn tm ps asg body→Calls P f ((.func (.yield (w.heap.size+1)) #[] #[])::cs).toArray ((w.alloc (.deferred (some []))).alloc (.loop rc))
  λx w3=>∃v r,x=.returned v∧w3.heap[w.heap.size+1]?=some (.loop r)∧r.state≠.busy∧r.pending=none∧QX ({ target:=.collected w.heap.size,args := #[] }::D) Q .normal n e (w3.putObj (w.heap.size+1) (.loop { r with state:=.exhausted }))) :
 Sx none D P (Code.rangeFunc g ps asg body) Q n e w:=.mk λa ha=>by
 refine wpIn_rangeFunc λfn _=>?_
 have hu:a.eval g=.func (.func f) #[] cs.toArray:=ha.eval _ _ hg
 refine ⟨w.heap.size+1,[{ target:=.collected w.heap.size,args := #[] }],QI w fn a.tmps ps asg body,{ target:=.fn (.func f) cs.toArray,args := #[] ++ #[.func (.yield (w.heap.size+1)) #[] #[]] },QI w fn a.tmps ps asg body,f,((.func (.yield (w.heap.size+1)) #[] #[])::cs).toArray,QI w fn a.tmps ps asg body,
  by rw [YB,run_enterLoop_outer];rfl,?_,λf' _=>R5 _ f',?_,λhd=>by rw [PB] at hd;(cases hd),?_⟩
 ·simp only [resolve,hu,Deferred.ofValue,Sem.run_pure];simp [Act.eval]
 ·unfold invoke
  simp [hc]
 ·refine (U8 (h fn a.tmps _ ha.size ha.get X) 1).mono λx w3 hR=>?_
  obtain ⟨v,r,rfl,hr,hb,hp,hq⟩:=hR;refine ⟨_,_,run_endLoop hr hb,?_⟩;have Xx:=hq.run { a with defers:=[{ target:=.collected w.heap.size,args := #[] }]++a.defers } ⟨ha.size,by show [({ target:=.collected w.heap.size,args := #[] }:Deferred)]++a.defers=_;rw [ha.defers];rfl,ha.get⟩;rw [hp] at Xx ⊢
  exact Xx
end
end Go.Proofs.YtaheakjfkpkefaaGreatDoor.Sf
namespace Go.Proofs.YtaheakjfkpkefaaGreatDoor
open Go.RowKit
section
variable {P:Program} {ops:Array Oper} {md:Region.Mode} {w:World}
theorem UG {o:Oper} {a:Act} {K:Act→Prop} {K':Act→World→Prop} {Q':Exit→Act→World→Prop} (h:∀a,K a→K' a w) (hh:o.still P a w K):o.wpIn Fence.wide 2 P a w K' Q':=by
 unfold Oper.still at hh
 refine ⟨λf _=>trivial,?_⟩;rw [show Fence.wide.round=none from rfl,Oper.semAt_none]
 generalize (execOp a.eval o).run P w=r at *
 cases r with
 | ok n w'=>
  cases n<;>simp only [Oper.stillUpon] at hh<;>simp only [Oper.uponIn]
  case enter f args=>
   obtain ⟨rfl,v,hc,hn⟩:=hh;exact ⟨λh=>(by cases h),callsIn_wide.2 (hc.mono λe w'' ⟨he,hw⟩=>by subst he;subst hw;exact h _ hn)⟩
  all_goals (obtain ⟨rfl,h2⟩:=hh;exact h _ h2)
 | halt x w'=>simp only [Oper.stillUpon] at hh
theorem S8 {i:Nat} {a:Act} {K:Act→Prop} {K':Act→World→Prop} {Q':Exit→Act→World→Prop} (h:∀a,K a→K' a w) (hh:stOp P ops w i K a):wpOpIn Fence.wide 2 P ops Q' i K' a w:=by
 unfold stOp at hh
 unfold wpOpIn
 split
 ·rename_i ho;simp only [ho] at hh;exact h _ hh
 ·rename_i o ho
  simp only [ho] at hh
  split
  ·rename_i hw;simp only [hw,if_true] at hh;exact UG h hh
  ·rename_i hw;simp only [hw] at hh;exact ⟨λ_ _=>trivial,h _ hh⟩
theorem LQ {n g:Nat} {L:Array Bool→Act→Prop} {Q':Exit→Act→World→Prop} (hL:∀listed a,L listed a→wpAnyIn Fence.wide 2 P md ops Q' g listed a w) :
 ∀(f:Nat) (listed:Array Bool) (a:Act),wpAnyL P md ops w n L f listed a→wpAnyIn Fence.wide 2 P md ops Q' (f+g) listed a w
 | 0,listed,a,h=>by rw [Nat.zero_add];exact hL _ _ h
 | f+1,listed,a,h=>by
  rw [show f+1+g=(f+g)+1 by omega];exact ⟨λh0=>absurd h0 h.1,λi hi=>S8 (λa' h'=>LQ hL f _ a' h') (h.2 i hi).2⟩
theorem MB {Q':Exit→Act→World→Prop}:∀(l:List Oper) (k:Nat) (listed:Array Bool) (a:Act) (w:World),(∀j,l[j]?=ops[k+j]?) →
 Region.seqB md ops l.length k listed=true→wpListIn Fence.wide 2 P ops Q' l a w→wpAnyIn Fence.wide 2 P md ops Q' l.length listed a w
 | [],_,_,_,_,_,hB,h=>⟨by simpa [Region.seqB] using hB,h⟩
 | o::l,k,listed,a,w,hl,hB,h=>by
  have h0:ops[k]?=some o:=by simpa using (hl 0).symm
  simp only [List.length_cons,Region.seqB,Bool.and_eq_true,decide_eq_true_eq] at hB
  refine ⟨λh1=>(by rw [hB.1] at h1;cases h1),λi hi=>?_⟩;rw [hB.1] at hi
  have hik:i=k:=by simpa using hi
  subst hik;have hw:wpOpIn Fence.wide 2 P ops Q' i (wpListIn Fence.wide 2 P ops Q' l) a w:=by unfold wpOpIn;simp only [h0];exact h
  exact wpOpIn_mono (λa' w' h'=>MB l (i+1) _ a' w' (λj=>by have:=hl (j+1);simpa [Nat.add_assoc,Nat.add_comm 1 j] using this) hB.2 h') hw
theorem PY {id:Nat} {Q:Exit→Act→World→Prop} {a:Act} {w:World} {l:List Oper} (n:Nat) (hm:P.follows .mixedOrders=true) (hB:Region.lexTailB .any l.toArray n=true)
 (h:wpStill P l.toArray { w with drawn:=w.drawn+1 } (λa'=>wpListIn Fence.wide 2 P l.toArray Q (l.drop n) a' { w with drawn:=w.drawn+1 }) (l.take n) a):(Code.region id l.toArray true).wpIn Fence.wide 2 P Q a w:=by
 simp only [Region.lexTailB,Bool.and_eq_true,decide_eq_true_eq] at hB
 obtain ⟨⟨⟨⟨hsel,hn⟩,hs⟩,hc⟩,hlex⟩:=hB;have hn':n<l.length:=by simpa using hn
 have htl:(l.take n).length=n:=by simp;omega
 have hdl:(l.drop n).length=l.toArray.size-n:=by simp
 have inv0:HeadInv .any l.toArray n (Array.replicate l.toArray.size false):=
  ⟨by simp,λj oj _ hl=>(by rw [getD_replicate_false] at hl;cases hl),λt _ ht=>getD_in (by simpa using ht) (getD_replicate_false _ _)⟩
 have H:=wpAnyL_lex (md:=.any) (g:=l.toArray.size-n) hsel hs hc hn (l.take n) 0 _ a (λj hj=>by
  have hj':j<n:=by rw [htl] at hj;exact hj
  simp [hj']) (by simpa using htl) inv0 (by rw [htl];exact hlex) h
 refine wpIn_region_any hm ?_
 have:=LQ (Q':=Q) (g:=l.toArray.size-n) (λlisted a' hL=>by
  have:=MB (md:=.any) (Q':=Q) (l.drop n) n listed a' { w with drawn:=w.drawn+1 } (λj=>by simp [List.getElem?_drop]) (by rw [hdl];exact hL.1) hL.2
  rwa [hdl] at this) _ _ _ H
 rw [htl,show n+(l.toArray.size-n)=l.toArray.size by omega] at this
 exact this
end
section
variable {P:Program} {Q:Exit→Act→World→Prop} {n:Nat} {e:Env} {w:World}
theorem kY {id:Nat} {l:List Oper} (k:Nat) (hm:P.follows .mixedOrders=true) (hB:Region.lexTailB .any l.toArray k=true)
 (h:SxS P l.toArray w.drew (λa'=>wpListIn Fence.wide 2 P l.toArray Q (l.drop k) a' w.drew) n (l.take k) e):Sx P (Code.region id l.toArray true) Q n e w:=⟨λa ha=>wpIn_wide.1 (PY k hm hB (h.run a ha))⟩
theorem V3 {ops:Array Oper} {l:List Oper} (h:Sf.SxL none [] P ops Q n l e w):SxS P ops w (λa'=>wpListIn Fence.wide 2 P ops Q l a' w) n [] e:=⟨λa ha=>wpStill_nil (h.run a ⟨ha.size,ha.defers,ha.get⟩)⟩
theorem cX {ops:Array Oper} (h:QX Q .normal n e w):Sf.SxL none [] P ops Q n [] e w:=⟨λa ha=>wpListIn_nil (h.run a ⟨ha.size,ha.defers,ha.get⟩)⟩
end
end Go.Proofs.YtaheakjfkpkefaaGreatDoor
