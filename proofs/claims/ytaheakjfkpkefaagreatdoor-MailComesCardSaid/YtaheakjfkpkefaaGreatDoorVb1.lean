/- Lemmas. -/
import Derived.WalkKit
import Derived.Maps.AppendAt
import Derived.Deep.AppendLies
import Derived.Deep.Draws
import Derived.Deep.MidRow
import Derived.Laws.CopyOwn
import Derived.Lib.Hide
import Derived.KernelRfl
import Derived.Deep.RegionLaw
import Derived.Deep.QuietTactic
import Derived.BigQuiet
import Derived.Laws.StructEq
import Derived.Laws.MakeOwn
import Derived.StillTail
import Derived.IntWalk
import Derived.OrdersHeld
import Derived.Laws.Tables
import Derived.Great.BuildSlice
import Derived.Laws.BytesArg
import Derived.Lib.Strings
set_option maxHeartbeats 16000000
set_option maxRecDepth 100000
namespace Go.Proofs.YtaheakjfkpkefaaGreatDoor
open Go.RowKit
theorem X.{u} {α:Sort u} {a:α}:a=a:=rfl
section
theorem odt {p:Prop} [Decidable p] (h:decide p=true):p:=of_decide_eq_true h
theorem odf {p:Prop} [Decidable p] (h:decide p=false):¬p:=of_decide_eq_false h
structure Fr (S:Nat→Prop) (w w':World):Prop where
 os:w'.os=w.os
 tape:w'.tape=w.tape
 output:w'.output=w.output
 size:w.heap.size≤w'.heap.size
 block:∀k,k<w.heap.size→¬S k→w'.heap[k]?=w.heap[k]?
abbrev AR : Nat→Prop:=λ_=>False
abbrev Fr0 := Fr AR
namespace Fr
variable {S T:Nat→Prop} {w w' w'':World}
theorem refl : Fr S w w:=⟨rfl,rfl,rfl,Nat.le_refl _,λ_ _ _=>rfl⟩
theorem mono (h:Fr S w w') (hs:∀k,k<w.heap.size→S k→T k):Fr T w w':=
 ⟨h.os,h.tape,h.output,h.size,λk hk hn=>h.block k hk (λhh=>hn (hs k hk hh))⟩
theorem of0 (h:Fr0 w w'):Fr S w w':=h.mono (λ_ _ hh=>hh.elim)
theorem trans (h:Fr S w w') (h':Fr S w' w''):Fr S w w'':=
 ⟨h'.os.trans h.os,h'.tape.trans h.tape,h'.output.trans h.output,Nat.le_trans h.size h'.size,
  λk hk hn=>(h'.block k (Nat.lt_of_lt_of_le hk h.size) hn).trans (h.block k hk hn)⟩
theorem step (h:Fr S w w') (h':Fr T w' w'') (ht:∀k,k<w.heap.size→T k→S k):Fr S w w'':=
 ⟨h'.os.trans h.os,h'.tape.trans h.tape,h'.output.trans h.output,Nat.le_trans h.size h'.size,
  λk hk hn=>(h'.block k (Nat.lt_of_lt_of_le hk h.size) (λhh=>hn (ht k hk hh))).trans (h.block k hk hn)⟩
theorem then0 (h:Fr S w w') (h':Fr0 w' w''):Fr S w w'':=h.step h' (λ_ _ hh=>hh.elim)
theorem drew (h:Fr S w w'):Fr S w w'.drew:=⟨h.os,h.tape,h.output,h.size,h.block⟩
theorem alloc (h:Fr S w w') (o:Obj):Fr S w (w'.alloc o):=
 h.step (T:=AR) ⟨rfl,rfl,rfl,by simp,λk hk _=>Below.heap_alloc _ _ _ hk⟩ (λ_ _ hh=>hh.elim)
theorem below (h:Fr0 w w'):Below w.heap.size w w':=⟨h.os,h.tape,h.output,h.size,λk hk=>h.block k hk (λhh=>hh)⟩
theorem ofBelow (h:Below w.heap.size w w'):Fr S w w':=⟨h.os,h.tape,h.output,h.size,λk hk _=>h.block k hk⟩
theorem cell (h:Fr S w w') {p:Addr} (hp:p.block<w.heap.size) (hn:¬S p.block):w'.cell? p=w.cell? p:=
 World.cell?_of_block (w:=w) (h.block p.block hp hn)
end Fr
def Blk (w:World) (g:Nat) (t:TypeId) (cs:List Value):Prop:=w.heap[g]?=some (.cells cs.toArray t (0,0))
namespace Blk
variable {w w':World} {g:Nat} {t:TypeId} {cs:List Value}
theorem lt (h:Blk w g t cs):g<w.heap.size:=by
 rcases Nat.lt_or_ge g w.heap.size with hlt|hge
 ·exact hlt
 ·unfold Blk at h;rw [Array.getElem?_eq_none hge] at h;cases h
theorem cell (h:Blk w g t cs) (i:Nat):w.cell? ⟨g,i,none⟩=cs[i]?:=by
 rw [cell_of_row w g i cs.toArray t (0,0) h];simp
theorem new (w:World) (t:TypeId) (cs:List Value):Blk (w.alloc (.cells cs.toArray t)) w.heap.size t cs:=heap_alloc_new w _
theorem fr {S:Nat→Prop} (h:Blk w g t cs) (hf:Fr S w w') (hn:¬S g):Blk w' g t cs:=(hf.block g h.lt hn).trans h
theorem fr0 (h:Blk w g t cs) (hf:Fr0 w w'):Blk w' g t cs:=h.fr hf (λhh=>hh)
end Blk
def Rd (w:World) (A:Option Addr) (n:Nat) (xs:List Value):Prop:=
 xs.length=n∧(0<n→∃b off,A=some ⟨b,off,none⟩∧∀j u,xs[j]?=some u→w.cell? ⟨b,off+j,none⟩=some u)
namespace Rd
variable {w w':World} {A:Option Addr} {n:Nat} {xs:List Value}
theorem nil {A:Option Addr}:Rd w A 0 []:=⟨rfl,λh=>absurd h (by omega)⟩
theorem at_ (h:Rd w A n xs) {k:Nat} (hk:k<n):∃b off,A=some ⟨b,off,none⟩∧∃u,xs[k]?=some u∧w.cell? ⟨b,off+k,none⟩=some u:=by
 obtain ⟨b,off,e,hc⟩:=h.2 (by omega);have hl:k<xs.length:=by have:=h.1;omega
 exact ⟨b,off,e,xs[k],List.getElem?_eq_getElem hl,hc k _ (List.getElem?_eq_getElem hl)⟩
theorem keep (h:Rd w A n xs) (hk:0<n→∀b off,A=some ⟨b,off,none⟩→∀j,w.cell? ⟨b,j,none⟩≠none→w'.cell? ⟨b,j,none⟩=w.cell? ⟨b,j,none⟩):Rd w' A n xs:=
 ⟨h.1,λhn=>by
  obtain ⟨b,off,e,hc⟩:=h.2 hn;exact ⟨b,off,e,λj u hu=>(hk hn b off e _ (by rw [hc j u hu];simp)).trans (hc j u hu)⟩⟩
theorem fr {S:Nat→Prop} (h:Rd w A n xs) (hf:Fr S w w') (hn:0<n→∀b off,A=some ⟨b,off,none⟩→¬S b):Rd w' A n xs:=
 h.keep λh0 b off e j hj=>hf.cell (p:=⟨b,j,none⟩) (by
  cases hc:w.cell? ⟨b,j,none⟩ with
  | none=>exact absurd hc hj
  | some v=>exact World.block_lt_of_cell? w ⟨b,j,none⟩ hc) (hn h0 b off e)
theorem fr0 (h:Rd w A n xs) (hf:Fr0 w w'):Rd w' A n xs:=h.fr hf (λ_ _ _ _ hh=>hh)
theorem lt (h:Rd w A n xs) (hn:0<n):∀b off,A=some ⟨b,off,none⟩→b<w.heap.size:=by
 intro b off e;obtain ⟨b',off',e',u,hu,hc⟩:=h.at_ hn;rw [e] at e';injection e' with e';injection e' with e1 _ _;subst e1
 exact World.block_lt_of_cell? w _ hc
theorem of_own {base:Nat} {e:TypeId} {A:Option Addr} {c:Nat} (h:w.ownsRow base e 1 (.slice A n c) n xs):Rd w A n xs:=by
 refine ⟨by simpa using h.1,λhn=>?_⟩;rcases h.2 with ⟨hv,h0⟩|⟨g,cap,cur,hv,_⟩
 ·omega
 ·injection hv with hA
  subst hA;refine ⟨g,0,X,λj u hu=>?_⟩
  have:=h.cells (g:=g) X j u hu
  rwa [Addr.add_mid] at this
end Rd
def bv (c:UInt8):Value:=.int .u8 (c.toNat:Int)
def bvs (l:List UInt8):List Value:=l.map bv
theorem UA (l:List UInt8):(bvs l).length=l.length:=by simp [bvs]
section
variable {P:Program} (w:World)
theorem RE (base:Nat) (t ty e:TypeId) (i:TypeInfo) (z:Value) (bytes:Nat) (ht:P.underlying t=some (.slice e)) (hi:P.info? e=some i) (hz:i.zero=some z)
 (hsize:i.size=1) (hby:i.bytes=bytes) (hzs:z.cells.size=1)
 (v:Value) (n:Nat) (xs:List Value) (hown:w.ownsRow base e 1 v n xs)
 (A:Option Addr) (m c:Nat) (news:List Value) (hr:Rd w A m news) (h1:∀u∈news,u.oneCell'=true)
 (h63:n+m≤maxLen) (hbytes:(n+m)*bytes≤140737488355328) (hbase:base≤w.heap.size) :
 ∃v' w',(Builtin.append_ #[t,t] ty #[v,.slice A m c]).run P w=.ok v' w'∧w'.ownsRow base e 1 v' (n+m) (xs++news)∧w.grownBy w' v.ownBlock ∧
  (v'.ownBlock=v.ownBlock∨v'.ownBlock=some w.heap.size):=by
 rcases A with _|ad
 ·have hm:m=0:=by
   rcases Nat.eq_zero_or_pos m with h0|h0
   ·exact h0
   ·obtain ⟨b,off,h,_⟩:=hr.2 h0
    cases h
  subst hm;have hn:news=[]:=List.eq_nil_of_length_eq_zero hr.1;subst hn;refine ⟨v,w,?_,by simpa using hown,⟨rfl,rfl,rfl,Nat.le_refl _,λ_ _ _=>rfl⟩,.inl rfl⟩;rcases hown.2 with ⟨rfl,rfl⟩|⟨g,cap,cur,rfl,_,_,hnc,_⟩
  ·simp [Builtin.append_,run_underlying ht,sizeOf,typeInfo,hi,Builtin.lenOf,Builtin.firstCells]
  ·simp [Builtin.append_,run_underlying ht,sizeOf,typeInfo,hi,Builtin.lenOf,Builtin.firstCells,hnc,storeCells]
 ·have hcells:∀j u,news[j]?=some u→w.cell? (ad.add j)=some u:=by
   intro j u hu;rcases Nat.eq_zero_or_pos m with h0|h0
   ·subst h0;have hn:news=[]:=List.eq_nil_of_length_eq_zero hr.1;subst hn
    simp at hu
   ·obtain ⟨b',off',h,hc⟩:=hr.2 h0
    injection h with h
    subst h;rw [Addr.add_mid];exact hc j u hu
  obtain ⟨v',w',hrun,h2,h3,_,h5⟩:=run_append_own_at (P:=P) w base t ty e i z 1 bytes ht hi hz hsize hby hzs (by omega) v n xs hown ad m c news (by simpa using hr.1) hcells h1 h63 hbytes hbase;exact ⟨v',w',hrun,h2,h3,h5⟩
end
end
section
def GB (P:Program) (ρ:Operand→Value) (o:Oper) (w:World) (R:Value→World→Prop):Prop:=
 ∃v w',((execOp ρ o).run P w=.ok (.value v) w'∨((execOp ρ o).run P w=.ok .skip w'∧v=undef))∧R v w'
namespace GB
variable {P:Program} {o:Oper} {w:World} {R:Value→World→Prop} {ops:Array Oper} {rest:List Oper} {a:Act} {Q:Exit→Act→World→Prop}
theorem wp {K:Act→World→Prop} (h:GB P a.eval o w R) (k:∀v w',R v w'→K (a.put o.dst v) w'):o.wp P a w K Q:=by
 obtain ⟨v,w',hr|⟨hr,rfl⟩,hR⟩:=h
 ·unfold Oper.wp;rw [hr];exact k _ _ hR
 ·unfold Oper.wp;rw [hr];exact k _ _ hR
theorem mono {ρ:Operand→Value} {R':Value→World→Prop} (h:GB P ρ o w R) (k:∀v w',R v w'→R' v w'):GB P ρ o w R':=
 let ⟨v,w',hr,hR⟩:=h;⟨v,w',hr,k _ _ hR⟩
end GB
theorem Fr.setRow {S:Nat→Prop} {w w':World} (h:Fr S w w') {g:Nat} (hg:g<w.heap.size→S g) (cs:Array Value):Fr S w (w'.setRow g cs):=
 h.step (T:=λk=>k=g) ⟨rfl,rfl,rfl,by simp,λk _ hn=>setRow_other w' g k cs hn⟩ (λk hk e=>by subst e;exact hg hk)
theorem NF (w:World) (g:Nat) (cs:Array Value):Fr (λk=>k=g) w (w.setRow g cs):=Fr.setRow (S:=λk=>k=g) Fr.refl (λ_=>rfl) cs
def put (cs:List Value) (off:Nat) (xs:List Value):List Value:=cs.take off++(xs++cs.drop (off+xs.length))
theorem J4 (cs:List Value) (off:Nat) (xs:List Value) (h:off+xs.length≤cs.length):(put cs off xs).length=cs.length:=by
 simp [put];omega
theorem rU (cs:List Value) (off:Nat):put cs off []=cs:=by simp [put]
theorem FZ (cs xs:List Value) (h:xs.length=cs.length):put cs 0 xs=xs:=by
 simp [put,h]
section
variable {P:Program} {ρ:Operand→Value} {o:Oper} {w:World}
theorem BO (ty:TypeId) (x y:Operand) (ho:o.op=.store ty x y) (g off:Nat) (t:TypeId) (cs new:List Value)
 (hx:ρ x=.pointer (some ⟨g,off,none⟩)) (hy:ρ y=.agg new.toArray) (hb:Blk w g t cs)
 (hi:(P.info? ty).map (·.size)=some new.length) (hl:off+new.length≤cs.length) (h1:∀u∈new,u.oneCell'=true) :
 GB P ρ o w λv w'=>v=undef∧Blk w' g t (put cs off new)∧Fr (λk=>k=g) w w':=by
 have hs:=run_storeCells_at P g off t new 0 cs.toArray w hb (by simpa using hl) h1;refine ⟨undef,w.setRow g (put cs off new).toArray,.inr ⟨?_,X⟩,X,?_,NF w g _⟩
 rotate_left
 ·exact setRow_heap w g _ _ t _ hb
 ·have hrun:(storeVar ty ⟨g,off,none⟩ (.agg new.toArray)).run P w=.ok () (w.setRow g (put cs off new).toArray):=by
   cases hq:P.info? ty with
   | none=>simp [hq] at hi
   | some i=>
    have hsz:new.length=i.size:=by simp [hq] at hi;omega
    simp only [Nat.add_zero] at hs
    simp [storeVar,sizeOf,typeInfo,hq,Value.cells,hsz,hs,put]
  unfold execOp;simp only [ho,hx,hy,Instr.storeAt,Instr.sureAddr,Sem.run_bind,Sem.run_pure,Result.andThen_ok,hrun]
theorem CU (ty:TypeId) (x y:Operand) (ho:o.op=.store ty x y) (g off:Nat) (t:TypeId) (cs:List Value) (v:Value)
 (hx:ρ x=.pointer (some ⟨g,off,none⟩)) (hy:ρ y=v) (hv:v.cells = #[v]) (hb:Blk w g t cs)
 (hi:(P.info? ty).map (·.size)=some 1) (hl:off<cs.length) (h1:v.oneCell'=true) :
 GB P ρ o w λu w'=>u=undef∧Blk w' g t (cs.set off v)∧Fr (λk=>k=g) w w':=by
 have hs:=run_storeCells_at P g off t [v] 0 cs.toArray w hb (by simp;omega) (by simpa using h1)
 have hput:cs.set off v=put cs off [v]:=by
  rw [List.set_eq_take_append_cons_drop,if_pos hl];simp [put]
 refine ⟨undef,w.setRow g (put cs off [v]).toArray,.inr ⟨?_,X⟩,X,?_,NF w g _⟩
 rotate_left
 ·rw [hput];exact setRow_heap w g _ _ t _ hb
 ·have hrun:(storeVar ty ⟨g,off,none⟩ v).run P w=.ok () (w.setRow g (put cs off [v]).toArray):=by
   cases hq:P.info? ty with
   | none=>simp [hq] at hi
   | some i=>
    have hsz:i.size=1:=by simpa [hq] using hi
    simp only [Nat.add_zero] at hs
    simp [storeVar,sizeOf,typeInfo,hq,hv,hsz,hs,put]
  unfold execOp;simp only [ho,hx,hy,Instr.storeAt,Instr.sureAddr,Sem.run_bind,Sem.run_pure,Result.andThen_ok,hrun]
theorem C7 (e:TypeId) (ho:o.op=.alloc e) (z:Value) (zs:List Value) (hz:(P.info? e).map (·.zero)=some (some z)) (hc:z.cells=zs.toArray) :
 GB P ρ o w λv w'=>∃g,v=.pointer (some ⟨g,0,none⟩)∧w.heap.size≤g∧g<w'.heap.size∧Blk w' g e zs∧Fr0 w w':=by
 refine ⟨_,w.alloc (.cells zs.toArray e),.inl ?_,w.heap.size,X,Nat.le_refl _,by simp,Blk.new w e zs,Fr.refl.alloc _⟩
 cases hq:P.info? e with
 | none=>simp [hq] at hz
 | some i=>
  have hz':i.zero=some z:=by simpa [hq] using hz
  unfold execOp
  simp [ho,Instr.alloc,zeroValue,typeInfo,hq,hz',newVar,newRow,hc]
theorem KR (e:TypeId) (x:Operand) (ho:o.op=.box e x) (cs:List Value) (hx:(ρ x).cells=cs.toArray) :
 GB P ρ o w λv w'=>∃g,v=.pointer (some ⟨g,0,none⟩)∧w.heap.size≤g∧g<w'.heap.size∧Blk w' g e cs∧Fr0 w w':=by
 refine ⟨_,w.alloc (.cells cs.toArray e),.inl ?_,w.heap.size,X,Nat.le_refl _,by simp,Blk.new w e cs,Fr.refl.alloc _⟩;unfold execOp
 simp [ho,Instr.box,newVar,newRow,hx]
theorem ZK (s x:Operand) (t:TypeId) (ho:o.op=.call { callee:=.builtin .append,args := #[s,x],argTypes := #[t,t] })
 (base:Nat) (e:TypeId) (z:Value) (bytes:Nat) (ht:P.underlying t=some (.slice e)) (hi:(P.info? e).map (λi=>(i.zero,i.size,i.bytes))=some (some z,1,bytes)) (hzs:z.cells.size=1)
 (v:Value) (n:Nat) (xs:List Value) (hs:ρ s=v) (hown:w.ownsRow base e 1 v n xs)
 (A:Option Addr) (m c:Nat) (news:List Value) (hx:ρ x=.slice A m c) (hr:Rd w A m news) (h1:∀u∈news,u.oneCell'=true)
 (h63:n+m≤maxLen) (hbytes:(n+m)*bytes≤140737488355328) (hbase:base≤w.heap.size) :
 GB P ρ o w λv' w'=>w'.ownsRow base e 1 v' (n+m) (xs++news)∧w.grownBy w' v.ownBlock∧(v'.ownBlock=v.ownBlock∨v'.ownBlock=some w.heap.size):=by
 cases hq:P.info? e with
 | none=>simp [hq] at hi
 | some i=>
  obtain ⟨hz,hsize,hby⟩:i.zero=some z∧i.size=1∧i.bytes=bytes:=by simpa [hq] using hi
  obtain ⟨v',w',hrun,h2,h3,h4⟩:=RE (P:=P) w base t o.type e i z bytes ht hq hz hsize hby hzs v n xs hown A m c news hr h1 h63 hbytes hbase;refine ⟨v',w',.inl ?_,h2,h3,h4⟩;unfold execOp;simp only [ho,resolve,invoke,builtin,Sem.run_bind,Sem.run_pure,Result.andThen_ok,List.map_toArray,List.map_cons,List.map_nil,hs,hx,hrun]
end
theorem YO {w:World} {base:Nat} {e:TypeId} {v:Value} {n:Nat} {xs:List Value} (h:w.ownsRow base e 1 v n xs) :
 ∃A cap,v=.slice A n cap∧n≤cap∧cap≤maxLen∧Rd w A n xs∧(∀b off,A=some ⟨b,off,none⟩→base≤b∧off=0):=by
 rcases h.2 with ⟨rfl,h0⟩|⟨g,cap,cur,rfl,hb,hg,hc,hm,hs,ht⟩
 ·subst h0;have hx:xs=[]:=List.eq_nil_of_length_eq_zero (by simpa using h.1);subst hx;exact ⟨none,0,X,Nat.le_refl _,Nat.zero_le _,Rd.nil,by simp⟩
 ·refine ⟨some ⟨g,0,none⟩,cap,X,hc,hm,Rd.of_own h,?_⟩;intro b off e;injection e with e;injection e with e1 e2 _;subst e1;exact ⟨hb,e2.symm⟩
theorem aW {w w':World} {S:Nat→Prop} {base:Nat} {e:TypeId} {v:Value} {n:Nat} {xs:List Value} (h:w.ownsRow base e 1 v n xs) (hf:Fr S w w') (hn:∀k,v.ownBlock=some k→¬S k) :
 w'.ownsRow base e 1 v n xs:=by
 refine ⟨h.1,?_⟩;rcases h.2 with hh|⟨g,cap,cur,rfl,hb,hg,r⟩
 ·exact .inl hh
 ·exact .inr ⟨g,cap,cur,X,hb,(hf.block g (Array.getElem?_eq_some_iff.1 hg).1 (hn g X)).trans hg,r⟩
end
section
section
variable {P:Program} (w:World)
end
theorem ZG {P:Program} {ρ:Operand→Value} {o:Oper} {w:World} (ty:TypeId) (x:Operand) (ho:o.op=.load ty x) (b off n:Nat) (xs:List Value) (d:TypeDesc)
 (hx:ρ x=.pointer (some ⟨b,off,none⟩)) (hr:Rd w (some ⟨b,off,none⟩) n xs) (hu:P.underlying ty=some d) (hd:d.isRow=true) (hi:(P.info? ty).map (·.size)=some n) :
 (execOp ρ o).run P w=.ok (.value (.agg xs.toArray)) w:=by
 have hc:w.rangeAt b off xs:=λj v hv=>by
  have hj:0<n:=by have:=(List.getElem?_eq_some_iff.1 hv).1;have:=hr.1;omega
  obtain ⟨b',off',e,hc⟩:=hr.2 hj
  injection e with e;injection e with e1 e2 _;subst e1;subst e2
  exact hc j v hv
 have hrun:=run_loadVar_mid (P:=P) w b off ty xs d hc hu hd (by rw [hr.1];exact hi);unfold execOp;simp only [ho,hx,Instr.loadAt,Instr.sureAddr,Sem.run_bind,Sem.run_pure,Result.andThen_ok,hrun]
end
section
section
variable {P:Program} {ρ:Operand→Value} {o:Oper} {w:World}
end
end
section
section
variable {P:Program} {ρ:Operand→Value} {o:Oper} {w:World}
theorem CZ (s x:Operand) (t:TypeId) (ho:o.op=.call { callee:=.builtin .append,args := #[s,x],argTypes := #[t,t] })
 (base:Nat) (e:TypeId) (z:Value) (size bytes:Nat) (ht:P.underlying t=some (.slice e)) (hi:(P.info? e).map (λi=>(i.zero,i.size,i.bytes))=some (some z,size,bytes)) (hzs:z.cells.size=size) (hpos:0<size)
 (v:Value) (n:Nat) (xs:List Value) (hs:ρ s=v) (hown:w.ownsRow base e size v n xs)
 (A:Option Addr) (m c:Nat) (news:List Value) (hx:ρ x=.slice A m c) (hr:Rd w A (m*size) news) (h1:∀u∈news,u.oneCell'=true)
 (h63:n+m≤maxLen) (hbytes:(n+m)*bytes≤140737488355328) (hbase:base≤w.heap.size) :
 GB P ρ o w λv' w'=>w'.ownsRow base e size v' (n+m) (xs++news)∧w.grownBy w' v.ownBlock∧(v'.ownBlock=v.ownBlock∨v'.ownBlock=some w.heap.size):=by
 cases hq:P.info? e with
 | none=>simp [hq] at hi
 | some i=>
  obtain ⟨hz,hsize,hby⟩:i.zero=some z∧i.size=size∧i.bytes=bytes:=by simpa [hq] using hi
  have key:∃v' w',(Builtin.append_ #[t,t] o.type #[v,.slice A m c]).run P w=.ok v' w'∧w'.ownsRow base e size v' (n+m) (xs++news)∧w.grownBy w' v.ownBlock∧(v'.ownBlock=v.ownBlock∨v'.ownBlock=some w.heap.size):=by
   rcases A with _|ad
   ·have hm:m=0:=by
     rcases Nat.eq_zero_or_pos m with h0|h0
     ·exact h0
     ·obtain ⟨b,off,h,_⟩:=hr.2 (Nat.mul_pos h0 hpos)
      cases h
    subst hm;have hn:news=[]:=List.eq_nil_of_length_eq_zero (by rw [hr.1,Nat.zero_mul]);subst hn;refine ⟨v,w,?_,by simpa using hown,⟨rfl,rfl,rfl,Nat.le_refl _,λ_ _ _=>rfl⟩,.inl rfl⟩;rcases hown.2 with ⟨rfl,rfl⟩|⟨g,cap,cur,rfl,_,_,hnc,_⟩
    ·simp [Builtin.append_,run_underlying ht,sizeOf,typeInfo,hq,Builtin.lenOf,Builtin.firstCells]
    ·simp [Builtin.append_,run_underlying ht,sizeOf,typeInfo,hq,Builtin.lenOf,Builtin.firstCells,hnc,storeCells]
   ·have hcells:∀j u,news[j]?=some u→w.cell? (ad.add j)=some u:=by
     intro j u hu;have hl:0<m*size:=by have:=(List.getElem?_eq_some_iff.1 hu).1;rw [hr.1] at this;omega
     obtain ⟨b',off',h,hc⟩:=hr.2 hl
     injection h with h
     subst h;rw [Addr.add_mid];exact hc j u hu
    obtain ⟨v',w',hrun,h2,h3,_,h5⟩:=run_append_own_at (P:=P) w base t o.type e i z size bytes ht hq hz hsize hby hzs hpos v n xs hown ad m c news hr.1 hcells h1 h63 hbytes hbase;exact ⟨v',w',hrun,h2,h3,h5⟩
  obtain ⟨v',w',hrun,h2,h3,h4⟩:=key;refine ⟨v',w',.inl ?_,h2,h3,h4⟩;unfold execOp;simp only [ho,resolve,invoke,builtin,Sem.run_bind,Sem.run_pure,Result.andThen_ok,List.map_toArray,List.map_cons,List.map_nil,hs,hx,hrun]
theorem gN (w:World) (e:TypeId) (size:Nat):(w.alloc (.cells #[] e)).ownsRow w.heap.size e size (.slice (some ⟨w.heap.size,0,none⟩) 0 0) 0 []:=
 World.ownsRow_made w #[] 0 (Nat.le_refl _) (Nat.zero_le _) (by simp)
theorem IX {w:World} {base base' size:Nat} {e:TypeId} {v:Value} {n:Nat} {xs:List Value} (h:w.ownsRow base e size v n xs) (hb:base'≤base):w.ownsRow base' e size v n xs:=by
 refine ⟨h.1,?_⟩;rcases h.2 with hh|⟨g,cap,cur,hv,hg,r⟩
 ·exact .inl hh
 ·exact .inr ⟨g,cap,cur,hv,by omega,r⟩
end
end
section
theorem Fr.ofDrew {S:Nat→Prop} {w w':World} (h:Fr S w.drew w'):Fr S w w':=⟨h.os,h.tape,h.output,h.size,h.block⟩
theorem CO {a b:Nat} (h:Nat.blt a b=true):a<b:=Nat.le_of_ble_eq_true h
abbrev Env := List (Nat × Value)
def Env.get : Env→Nat→Option Value
 | [],_=>none
 | (k,v)::e,n=>match Nat.beq k n with
  | true=>some v
  | false=>Env.get e n
structure Agr (n:Nat) (e:Env) (a:Act):Prop where
 size:a.tmps.size=n
 defers:a.defers=[]
 get:∀k v,e.get k=some v→a.tmps[k]?=some v
def ev (e:Env):Operand→Option Value
 | .tmp t=>e.get t
 | .const v=>some v
 | .global g=>some (.pointer (some ⟨g,0,none⟩))
 | .func f=>some (.func (.func f) #[] #[])
def evs (e:Env):List Operand→Option (List Value)
 | []=>some []
 | x::xs=>match ev e x,evs e xs with
  | some v,some vs=>some (v::vs)
  | _,_=>none
def Ag (e:Env) (ρ:Operand→Value):Prop:=∀x v,ev e x=some v→ρ x=v
theorem Agr.eval {n:Nat} {e:Env} {a:Act} (h:Agr n e a):Ag e a.eval:=by
 intro x v hx
 cases x with
 | tmp t=>have:=h.get t v hx;simp [Act.eval,this]
 | const u=>simpa [ev,Act.eval] using hx
 | global g=>simpa [ev,Act.eval] using hx
 | func f=>simpa [ev,Act.eval] using hx
theorem Ag.all {e:Env} {ρ:Operand→Value} (h:Ag e ρ):∀{xs:List Operand} {vs:List Value},evs e xs=some vs→xs.map ρ=vs
 | [],vs,hx=>by simp [evs] at hx;simp [hx]
 | x::xs,vs,hx=>by
  unfold evs at hx
  cases h1:ev e x with
  | none=>simp [h1] at hx
  | some v=>
   cases h2:evs e xs with
   | none=>simp [h1,h2] at hx
   | some us=>
    simp only [h1,h2,Option.some.injEq] at hx
    subst hx;rw [List.map_cons,h x v h1,h.all h2]
theorem Agr.put {n:Nat} {e:Env} {a:Act} (h:Agr n e a) {d:Nat} (hd:d<n) (v:Value):Agr n ((d,v)::e) (a.put (some d) v) where
 size:=by simp [Act.put,h.size]
 defers:=by simpa [Act.put] using h.defers
 get:=by
  intro k u hk;unfold Env.get at hk
  simp only [Act.put]
  split at hk
  ·rename_i hb
   obtain rfl:d=k:=Nat.eq_of_beq_eq_true hb;simp only [Option.some.injEq] at hk
   subst hk
   have:d<a.tmps.size:=by rw [h.size];exact hd
   simp [this]
  ·rename_i hb
   have hne:d≠k:=λe=>by subst e;simp at hb
   rw [Array.getElem?_setIfInBounds_ne hne];exact h.get k u hk
def Env.ins (e:Env):Option Tmp→Value→Env
 | some d,v=>(d,v)::e
 | none,_=>e
def JC (n:Nat):Option Tmp→Bool
 | some d=>Nat.blt d n
 | none=>true
theorem Agr.ins {n:Nat} {e:Env} {a:Act} (h:Agr n e a) {d:Option Tmp} (hd:JC n d=true) (v:Value):Agr n (e.ins d v) (a.put d v):=by
 cases d with
 | none=>exact h
 | some d=>exact h.put (CO hd) v
def Env.le : Env→Env→Prop
 | [],_=>True
 | (k,v)::r,e=>e.get k=some v∧Env.le r e
theorem Env.le_get {r e:Env} (h:r.le e):∀k v,r.get k=some v→e.get k=some v:=by
 induction r with
 | nil=>intro k v hk;simp [Env.get] at hk
 | cons p r ih=>
  obtain ⟨k0,v0⟩:=p;intro k v hk;unfold Env.get at hk
  split at hk
  ·rename_i hb
   obtain rfl:k0=k:=Nat.eq_of_beq_eq_true hb;simp only [Option.some.injEq] at hk
   subst hk;exact h.1
  ·exact ih h.2 k v hk
theorem Agr.weak {n:Nat} {e r:Env} {a:Act} (h:Agr n e a) (hl:r.le e):Agr n r a:=⟨h.size,h.defers,λk v hk=>h.get k v (Env.le_get hl k v hk)⟩
structure Sx (P:Program) (c:Code) (Q:Exit→Act→World→Prop) (n:Nat) (e:Env) (w:World):Prop where
 run:∀a,Agr n e a→c.wp P Q a w
structure SxL (P:Program) (ops:Array Oper) (Q:Exit→Act→World→Prop) (n:Nat) (l:List Oper) (e:Env) (w:World):Prop where
 run:∀a,Agr n e a→wpList P ops Q l a w
structure QX (Q:Exit→Act→World→Prop) (x:Exit) (n:Nat) (e:Env) (w:World):Prop where
 run:∀a,Agr n e a→Q x a w
structure SxS (P:Program) (ops:Array Oper) (w:World) (q:Act→Prop) (n:Nat) (l:List Oper) (e:Env):Prop where
 run:∀a,Agr n e a→wpStill P ops w q l a
section
variable {P:Program} {Q:Exit→Act→World→Prop} {n:Nat} {e:Env} {w:World}
theorem sx_seq {x y:Code} (h:Sx P x (Exit.then (y.wp P Q) Q) n e w):Sx P (Code.seq x y) Q n e w:=⟨λa ha=>wp_seq (h.run a ha)⟩
theorem sx_block {id:Nat} {c:Code} (h:Sx P c (Exit.inBlock id Q) n e w):Sx P (Code.block id c) Q n e w:=⟨λa ha=>wp_block (h.run a ha)⟩
theorem sx_skip (h:QX Q .normal n e w):Sx P Code.skip Q n e w:=⟨λa ha=>wp_skip (h.run a ha)⟩
theorem sx_exit {id:Nat} (h:QX Q (.exit id) n e w):Sx P (Code.exit id) Q n e w:=⟨λa ha=>wp_exit (h.run a ha)⟩
theorem sx_ret (h:QX Q .ret n e w):Sx P Code.ret Q n e w:=⟨λa ha=>wp_ret (h.run a ha)⟩
theorem sx_true {c:Operand} {x y:Code} (hc:ev e c=some (.bool true)) (h:Sx P x Q n e w):Sx P (Code.cond c x y) Q n e w:=⟨λa ha=>wp_cond_true (ha.eval _ _ hc) (h.run a ha)⟩
theorem sx_false {c:Operand} {x y:Code} (hc:ev e c=some (.bool false)) (h:Sx P y Q n e w):Sx P (Code.cond c x y) Q n e w:=⟨λa ha=>wp_cond_false (ha.eval _ _ hc) (h.run a ha)⟩
theorem sx_region {id:Nat} {l:List Oper} (h:SxL P l.toArray Q n l e w):Sx P (Code.region id l.toArray false) Q n e w:=⟨λa ha=>wp_region_lit (h.run a ha)⟩
theorem E8 {id:Nat} {l:List Oper} (hm:P.follows .mixedOrders=true) (hB:Region.lexB .any l.toArray=true)
 (h:SxS P l.toArray w.drew (λa'=>Q .normal a' w.drew) n l e):Sx P (Code.region id l.toArray true) Q n e w:=⟨λa ha=>wp_region_still_lit hm hB (h.run a ha)⟩
theorem CY {id:Nat} {l:List Oper} (k:Nat) (hm:P.follows .mixedOrders=true) (hB:Region.lexTailB .any l.toArray k=true)
 (h:SxS P l.toArray w.drew (λa'=>wpList P l.toArray Q (l.drop k) a' w.drew) n (l.take k) e):Sx P (Code.region id l.toArray true) Q n e w:=⟨λa ha=>wp_region_still_tail k hm hB (h.run a ha)⟩
theorem EX {ops:Array Oper} (h:QX Q .normal n e w):SxS P ops w (λa'=>Q .normal a' w) n [] e:=⟨λa ha=>wpStill_nil (h.run a ha)⟩
theorem C8 {ops:Array Oper} {l:List Oper} (h:SxL P ops Q n l e w):SxS P ops w (λa'=>wpList P ops Q l a' w) n [] e:=⟨λa ha=>wpStill_nil (h.run a ha)⟩
theorem sxl_nil {ops:Array Oper} (h:QX Q .normal n e w):SxL P ops Q n [] e w:=⟨λa ha=>wpList_nil (h.run a ha)⟩
theorem qx_seq {y:Code} {Q':Exit→Act→World→Prop} (h:Sx P y Q n e w):QX (Exit.then (y.wp P Q) Q') .normal n e w:=⟨λa ha=>h.run a ha⟩
theorem nq {ops:Array Oper} {y:Code} {Q':Exit→Act→World→Prop} (h:Sx P y Q n e w):SxL P ops (Exit.then (y.wp P Q) Q') n [] e w:=sxl_nil (qx_seq h)
theorem srg {id:Nat} {l:List Oper} {y:Code} (h:SxL P l.toArray (Exit.then (y.wp P Q) Q) n l e w):Sx P (Code.seq (Code.region id l.toArray false) y) Q n e w:=sx_seq (sx_region h)
theorem qx_then_exit {K:Act→World→Prop} {id:Nat} (h:QX Q (.exit id) n e w):QX (Exit.then K Q) (.exit id) n e w:=⟨λa ha=>h.run a ha⟩
theorem qx_then_ret {K:Act→World→Prop} (h:QX Q .ret n e w):QX (Exit.then K Q) .ret n e w:=⟨λa ha=>h.run a ha⟩
theorem qx_block_normal {id:Nat} (h:QX Q .normal n e w):QX (Exit.inBlock id Q) .normal n e w:=⟨λa ha=>h.run a ha⟩
theorem qx_block_ret {id:Nat} (h:QX Q .ret n e w):QX (Exit.inBlock id Q) .ret n e w:=⟨λa ha=>h.run a ha⟩
theorem qx_block_hit {id:Nat} (h:QX Q .normal n e w):QX (Exit.inBlock id Q) (.exit id) n e w:=.mk λa ha=>by simp only [Exit.inBlock,if_true];exact h.run a ha
theorem FS {id id':Nat} (hne:Nat.beq id' id=false) (h:QX Q (.exit id') n e w):QX (Exit.inBlock id Q) (.exit id') n e w:=.mk λa ha=>by
 have:id'≠id:=λhe=>by subst he;simp at hne
 simp only [Exit.inBlock,this,if_false];exact h.run a ha
theorem r4 {c:Code} {r:Env} (hl:r.le e) (h:Sx P c Q n r w):Sx P c Q n e w:=⟨λa ha=>h.run a (ha.weak hl)⟩
theorem kU {ops:Array Oper} {l:List Oper} {r:Env} (hl:r.le e) (h:SxL P ops Q n l r w):SxL P ops Q n l e w:=⟨λa ha=>h.run a (ha.weak hl)⟩
def Wn (ops:Array Oper) (e:Env) (o:Oper):Prop:=∀n a,Agr n e a→Region.wanted o (yielded ops a.tmps)=true
theorem wn_none {ops:Array Oper} {o:Oper} (h:o.guard=none):Wn ops e o:=λ_ a _=>by simp [Region.wanted,h]
theorem wn_on {ops:Array Oper} {o:Oper} {j d:Nat} {b:Bool} (h:o.guard=some (j,b)) (hj:(ops[j]?).bind (·.dst)=some d) (hb:e.get d=some (.bool b)):Wn ops e o:=λ_ a ha=>by
 simp [Region.wanted,h,yielded,hj,ha.get d _ hb]
theorem sxl_off {ops:Array Oper} {o:Oper} {rest:List Oper} {j d d':Nat} {b c:Bool} (h:o.guard=some (j,b)) (hj:(ops[j]?).bind (·.dst)=some d) (hb:e.get d=some (.bool c)) (hne:(c==b)=false) (hd:o.dst=some d') (hn:Nat.blt d' n=true)
 (k:SxL P ops Q n rest ((d',undef)::e) w):SxL P ops Q n (o::rest) e w:=.mk λa ha=>by
 have hw:Region.wanted o (yielded ops a.tmps)=false:=by
  simp only [Region.wanted,h,yielded,hj,ha.get d _ hb,Option.bind_some]
  cases c<;>cases b<;>simp_all
 unfold wpList;rw [if_neg (by simp [hw]),hd];exact k.run _ (ha.put (CO hn) _)
theorem DD {ops:Array Oper} {q:Act→Prop} {o:Oper} {rest:List Oper} {j d d':Nat} {b c:Bool} (h:o.guard=some (j,b)) (hj:(ops[j]?).bind (·.dst)=some d) (hb:e.get d=some (.bool c)) (hne:(c==b)=false) (hd:o.dst=some d') (hn:Nat.blt d' n=true)
 (k:SxS P ops w q n rest ((d',undef)::e)):SxS P ops w q n (o::rest) e:=.mk λa ha=>by
 have hw:Region.wanted o (yielded ops a.tmps)=false:=by
  simp only [Region.wanted,h,yielded,hj,ha.get d _ hb,Option.bind_some]
  cases c<;>cases b<;>simp_all
 unfold wpStill;rw [if_neg (by simp [hw]),hd];exact k.run _ (ha.put (CO hn) _)
theorem BY {ops:Array Oper} {o:Oper} {rest:List Oper} {j d d':Nat} {b:Bool} (h:o.guard=some (j,b)) (hj:(ops[j]?).bind (·.dst)=some d) (hb:e.get d=some undef) (hd:o.dst=some d') (hn:Nat.blt d' n=true)
 (k:SxL P ops Q n rest ((d',undef)::e) w):SxL P ops Q n (o::rest) e w:=.mk λa ha=>by
 have hw:Region.wanted o (yielded ops a.tmps)=false:=by
  simp [Region.wanted,h,yielded,hj,ha.get d _ hb,undef]
 unfold wpList;rw [if_neg (by simp [hw]),hd];exact k.run _ (ha.put (CO hn) _)
def Y (P:Program) (e:Env) (o:Oper) (w:World) (v:Value):Prop:=∀ρ,Ag e ρ→(execOp ρ o).run P w=.ok (.value v) w
theorem sxl_y {ops:Array Oper} {o:Oper} {rest:List Oper} {d:Nat} {v:Value} (hw:Wn ops e o) (hd:o.dst=some d) (hn:Nat.blt d n=true) (hy:Y P e o w v)
 (k:SxL P ops Q n rest ((d,v)::e) w):SxL P ops Q n (o::rest) e w:=.mk λa ha=>by
 unfold wpList;rw [if_pos (hw n a ha)];refine .inl ?_;unfold Oper.wp;rw [hy _ ha.eval,Oper.upon_value,hd];exact k.run _ (ha.put (CO hn) _)
theorem ya {ops:Array Oper} {o:Oper} {rest:List Oper} {d:Nat} {v:Value} (h:(o.guard,o.dst,Nat.blt d n)=(none,some d,true)) (hy:Y P e o w v) (k:SxL P ops Q n rest ((d,v)::e) w):SxL P ops Q n (o::rest) e w:=
 sxl_y (wn_none (Prod.mk.inj h).1) (Prod.mk.inj (Prod.mk.inj h).2).1 (Prod.mk.inj (Prod.mk.inj h).2).2 hy k
theorem yd {ops:Array Oper} {o:Oper} {rest:List Oper} {j d' d:Nat} {b:Bool} {v:Value} (h:(o.guard,(ops[j]?).bind (·.dst),e.get d',o.dst,Nat.blt d n)=(some (j,b),some d',some (.bool b),some d,true)) (hy:Y P e o w v) (k:SxL P ops Q n rest ((d,v)::e) w):SxL P ops Q n (o::rest) e w:=by
 simp only [Prod.mk.injEq] at h
 exact sxl_y (wn_on h.1 h.2.1 h.2.2.1) h.2.2.2.1 h.2.2.2.2 hy k
theorem yo {ops:Array Oper} {o:Oper} {rest:List Oper} {j d d':Nat} {b c:Bool} (h:(o.guard,(ops[j]?).bind (·.dst),e.get d,(c==b),o.dst,Nat.blt d' n)=(some (j,b),some d,some (.bool c),false,some d',true)) (k:SxL P ops Q n rest ((d',undef)::e) w):SxL P ops Q n (o::rest) e w:=
 sxl_off (Prod.mk.inj h).1 (Prod.mk.inj (Prod.mk.inj h).2).1 (Prod.mk.inj (Prod.mk.inj (Prod.mk.inj h).2).2).1 (Prod.mk.inj (Prod.mk.inj (Prod.mk.inj (Prod.mk.inj h).2).2).2).1 (Prod.mk.inj (Prod.mk.inj (Prod.mk.inj (Prod.mk.inj (Prod.mk.inj h).2).2).2).2).1 (Prod.mk.inj (Prod.mk.inj (Prod.mk.inj (Prod.mk.inj (Prod.mk.inj h).2).2).2).2).2 k
theorem XX {ops:Array Oper} {q:Act→Prop} {o:Oper} {rest:List Oper} {d:Nat} {v:Value} (hw:Wn ops e o) (hd:o.dst=some d) (hn:Nat.blt d n=true) (hy:Y P e o w v)
 (k:SxS P ops w q n rest ((d,v)::e)):SxS P ops w q n (o::rest) e:=.mk λa ha=>by
 unfold wpStill;rw [if_pos (hw n a ha)];unfold Oper.still;rw [hy _ ha.eval,Oper.stillUpon_value,hd];exact k.run _ (ha.put (CO hn) _)
theorem sxl_does {ops:Array Oper} {o:Oper} {rest:List Oper} {R:Value→World→Prop} (d:Option Tmp) (hw:Wn ops e o) (hd:o.dst=d) (hn:JC n d=true) (hy:∀ρ,Ag e ρ→GB P ρ o w R)
 (k:∀v w',R v w'→SxL P ops Q n rest (e.ins d v) w'):SxL P ops Q n (o::rest) e w:=.mk λa ha=>by
 unfold wpList;rw [if_pos (hw n a ha)];refine .inl ((hy _ ha.eval).wp λv w' hR=>?_);rw [hd];exact (k v w' hR).run _ (ha.ins hn v)
def YC (P:Program) (e:Env) (o:Oper) (w:World) (f:FuncId) (args:Array Value):Prop:=∀ρ,Ag e ρ→(execOp ρ o).run P w=.ok (.enter f args) w
theorem sxl_call {ops:Array Oper} {o:Oper} {rest:List Oper} {f:FuncId} {args:Array Value} {R:Ending→World→Prop} (d:Option Tmp) (hw:Wn ops e o) (hd:o.dst=d) (hn:JC n d=true) (hy:YC P e o w f args) (hc:Calls P f args w R)
 (k:∀x w',R x w'→∃v,x=.returned v∧SxL P ops Q n rest (e.ins d v) w'):SxL P ops Q n (o::rest) e w:=.mk λa ha=>by
 unfold wpList;rw [if_pos (hw n a ha)];refine .inl ?_;unfold Oper.wp;rw [hy _ ha.eval,Oper.upon_enter];refine hc.mono λx w' hR=>?_
 obtain ⟨v,rfl,h⟩:=k x w' hR;simp only [hd];exact h.run _ (ha.ins hn v)
def OP : Nat→List Value→Env
 | _,[]=>[]
 | i,v::vs=>(i,v)::OP (i+1) vs
theorem OO : ∀(vs:List Value) (i k:Nat) (v:Value),(OP i vs).get k=some v→i≤k∧vs[k-i]?=some v
 | [],_,_,_,h=>by simp [OP,Env.get] at h
 | u::vs,i,k,v,h=>by
  unfold OP Env.get at h
  split at h
  ·rename_i hb
   obtain rfl:i=k:=Nat.eq_of_beq_eq_true hb;simp only [Option.some.injEq] at h
   subst h
   simp
  ·obtain ⟨h1,h2⟩:=OO vs (i+1) k v h;refine ⟨by omega,?_⟩;rw [show k-i=(k-(i+1))+1 by omega,List.getElem?_cons_succ];exact h2
theorem sx_enter {f:FuncId} {fn:Func} {c:Code} {vs:List Value} {R:Ending→World→Prop} (hf:P.funcs[f]?=some fn) (hb:fn.body=some c) (hn:fn.ntmps=n) (hl:Nat.ble vs.length n=true)
 (h:Sx P c (bodyPost P fn R) n (OP 0 vs) w):Calls P f vs.toArray w R:=by
 refine calls_of_wp hf hb (h.run _ ⟨?_,X,?_⟩)
 ·have:vs.length≤n:=Nat.le_of_ble_eq_true hl
  simp [hn];omega
 ·intro k v hk;obtain ⟨_,h2⟩:=OO vs 0 k v hk;rw [Nat.sub_zero] at h2
  have hlt:k<vs.length:=(List.getElem?_eq_some_iff.1 h2).1;rw [Array.getElem?_append_left (by simpa using hlt)]
  simpa using h2
theorem qx_ret0 {fn:Func} {R:Ending→World→Prop} {x:Exit} (hx:x=.ret∨x=.normal) (hr:fn.results = #[]) (h:R (.returned (.tuple #[])) w):QX (bodyPost P fn R) x n e w:=.mk λa ha=>by
 have:(results fn a.tmps).run P w=.ok (.tuple #[]) w:=by simp [results,hr]
 rcases hx with rfl|rfl<;>exact ⟨ha.defers,_,this,h⟩
theorem qx_ret1 {fn:Func} {R:Ending→World→Prop} {t:Nat} {v:Value} (hr:fn.results = #[.tmp t]) (hv:e.get t=some v) (h:R (.returned v) w):QX (bodyPost P fn R) .ret n e w:=.mk λa ha=>by
 have:(results fn a.tmps).run P w=.ok v w:=by simp [results,hr,ha.get t v hv]
 exact ⟨ha.defers,_,this,h⟩
theorem C4 {fn:Func} {R:Ending→World→Prop} {t u:Nat} {v v':Value} (hr:fn.results = #[.tmp t,.tmp u]) (hv:e.get t=some v) (hv':e.get u=some v') (h:R (.returned (.tuple #[v,v'])) w):QX (bodyPost P fn R) .ret n e w:=.mk λa ha=>by
 have:(results fn a.tmps).run P w=.ok (.tuple #[v,v']) w:=by simp [results,hr,ha.get t v hv,ha.get u v' hv']
 exact ⟨ha.defers,_,this,h⟩
theorem IT {fn:Func} {R:Ending→World→Prop} {t u s:Nat} {v v' v'':Value} (hr:fn.results = #[.tmp t,.tmp u,.tmp s]) (hv:e.get t=some v) (hv':e.get u=some v') (hv'':e.get s=some v'') (h:R (.returned (.tuple #[v,v',v''])) w):QX (bodyPost P fn R) .ret n e w:=.mk λa ha=>by
 have:(results fn a.tmps).run P w=.ok (.tuple #[v,v',v'']) w:=by simp [results,hr,ha.get t v hv,ha.get u v' hv',ha.get s v'' hv'']
 exact ⟨ha.defers,_,this,h⟩
theorem yP (p:Nat→Prop) (h:∃m,p m):∃m,p m∧∀k,p k→m≤k:=by
 obtain ⟨m,hm⟩:=h
 induction m using Nat.strongRecOn with
 | _ m ih=>
  by_cases hs:∃k,k<m∧p k
  ·obtain ⟨k,hk,hp⟩:=hs;exact ih k hk hp
  ·exact ⟨m,hm,λk hp=>Nat.le_of_not_lt λhlt=>hs ⟨k,hlt,hp⟩⟩
def Again (I:Env→World→Nat→Prop) (n m:Nat) (a:Act) (w:World):Prop:=∃e m',I e w m'∧m'<m∧Agr n e a
theorem sx_loop {c:Code} (I:Env→World→Nat→Prop) {m0:Nat} {e0:Env} (h0:I e0 w m0) (hl:e0.le e)
 (round:∀e w m,I e w m→Sx P c (Exit.then (Again I n m) Q) n e w):Sx P (Code.loop c) Q n e w:=by
 refine ⟨λa ha=>?_⟩
 have hp:∀a w,(∃e m,I e w m∧Agr n e a)→∃m,(∃e,I e w m∧Agr n e a)∧∀k,(∃e,I e w k∧Agr n e a)→m≤k:=
  λa w ⟨e,m,h⟩=>yP _ ⟨m,e,h⟩
 classical
 let μ:Act→World→Nat:=λa w=>if h:∃e m,I e w m∧Agr n e a then (hp a w h).choose else 0
 have hμ:∀a w e m,I e w m→Agr n e a→μ a w≤m∧∃e',I e' w (μ a w)∧Agr n e' a:=by
  intro a w e m hI hA;have hex:∃e m,I e w m∧Agr n e a:=⟨e,m,hI,hA⟩
  have hs:=(hp a w hex).choose_spec
  have:μ a w=(hp a w hex).choose:=dif_pos hex
  rw [this];exact ⟨hs.2 m ⟨e,hI,hA⟩,hs.1⟩
 refine wp_loop (λa w=>∃e m,I e w m∧Agr n e a) μ ⟨e0,m0,h0,ha.weak hl⟩ ?_;rintro a w ⟨e,m,hI,hA⟩;obtain ⟨hle,e',hI',hA'⟩:=hμ a w e m hI hA;refine wp_mono ((round e' w (μ a w) hI').run a hA') λx a' w' hx=>?_
 cases x with
 | normal=>
  obtain ⟨e'',m'',h1,h2,h3⟩:=hx;exact ⟨⟨e'',m'',h1,h3⟩,Nat.lt_of_le_of_lt (hμ a' w' e'' m'' h1 h3).1 h2⟩
 | exit id=>exact hx
 | goto l=>exact hx
 | ret=>exact hx
 | panic ch=>exact hx
 | outgrown=>exact hx
theorem qx_again {I:Env→World→Nat→Prop} {m:Nat} (r:Env) (m':Nat) (hI:I r w m') (hm:m'<m) (hl:r.le e):QX (Exit.then (Again I n m) Q) .normal n e w:=⟨λ_ ha=>⟨r,m',hI,hm,ha.weak hl⟩⟩
end
end
section
structure Cell (h:Array Obj) (g off:Nat) (v:Value):Prop where
 get:∀w:World,w.heap=h→w.cell? ⟨g,off,none⟩=some v
theorem Cell.of {w:World} {g off:Nat} {v:Value} (h:w.cell? ⟨g,off,none⟩=some v):Cell w.heap g off v:=
 ⟨λw' hw=>by rw [←h];exact World.cell?_of_block (w:=w) (by rw [hw])⟩
theorem Blk.c {w:World} {g:Nat} {t:TypeId} {cs:List Value} (h:Blk w g t cs) (off:Nat) {v:Value} (hv:cs[off]?=some v):Cell w.heap g off v:=Cell.of ((h.cell off).trans hv)
theorem Cell.fr {S:Nat→Prop} {w w':World} {g off:Nat} {v:Value} (h:Cell w.heap g off v) (hf:Fr S w w') (hn:¬S g):Cell w'.heap g off v:=
 have hc:=h.get w X
 Cell.of ((hf.cell (p:=⟨g,off,none⟩) (World.block_lt_of_cell? w _ hc) hn).trans hc)
def MX (P:Program) (s f:Nat):Option Nat:=match P.underlying s with
 | some (.struct fs)=>match fs[f]? with
  | some fd=>match P.info? fd.type with
   | some i=>if i.size=0 then none else some fd.offset
   | none=>none
  | none=>none
 | _=>none
def J3 (P:Program) (t:Nat):Bool:=match P.underlying t with
 | some (.struct _)|some (.array _ _)|none=>false
 | some _=>true
def DH (P:Program) (t:Nat):Option (Nat × Nat):=match P.underlying t with
 | some (.slice e)=>match P.info? e with
  | some i=>some (e,i.size)
  | none=>none
 | _=>none
def NK (P:Program) (t:Nat):Option (Nat × Nat × Nat):=match P.underlying t with
 | some (.array n e)=>match P.info? e with
  | some i=>some (n,e,i.size)
  | none=>none
 | _=>none
def NB (P:Program) (t:Nat):Option Nat:=match P.underlying t with
 | some (.pointer el)=>some el
 | _=>none
theorem ST {P:Program} {t el:Nat} (h:NB P t=some el):P.underlying t=some (.pointer el):=by
 unfold NB at h
 split at h
 ·rename_i hu;simp only [Option.some.injEq] at h;subst h;exact hu
 ·cases h
section
variable {P:Program} {e:Env} {w:World} {o:Oper}
theorem vA {x:Operand} {v:Value} (ho:o.op=.move x) (hx:ev e x=some v):Y P e o w v:=λρ h=>by
 unfold execOp;simp only [ho];rw [h _ _ hx];rfl
theorem jR {x:Operand} {v:Value} (ho:o.op=.assign x) (hx:ev e x=some v):Y P e o w v:=λρ h=>by
 unfold execOp;simp only [ho];rw [h _ _ hx];rfl
theorem jM {c x y:Operand} {v:Value} (ho:o.op=.pick c x y) (hc:ev e c=some (.bool true)) (hx:ev e x=some v):Y P e o w v:=λρ h=>by
 unfold execOp;simp [ho,h _ _ hc,h _ _ hx,asBool]
theorem jN {c x y:Operand} {v:Value} (ho:o.op=.pick c x y) (hc:ev e c=some (.bool false)) (hx:ev e y=some v):Y P e o w v:=λρ h=>by
 unfold execOp;simp [ho,h _ _ hc,h _ _ hx,asBool]
theorem yD {x:Operand} {p:Addr} (ho:o.op=.nilCheck x) (hx:ev e x=some (.pointer (some p))):Y P e o w (.pointer (some p)):=λρ h=>by
 unfold execOp;simp only [ho,h _ _ hx];rfl
theorem qE {s f k g off:Nat} {x:Operand} (ho:o.op=.fieldAddr s x f) (hx:ev e x=some (.pointer (some ⟨g,off,none⟩))) (hf:MX P s f=some k):Y P e o w (.pointer (some ⟨g,off+k,none⟩)):=λρ h=>by
 unfold MX at hf
 split at hf
 ·rename_i fs hu
  split at hf
  ·rename_i fd hfd
   split at hf
   ·rename_i i hi
    split at hf
    ·cases hf
    ·rename_i hz
     simp only [Option.some.injEq] at hf
     subst hf;unfold execOp
     simp [ho,h _ _ hx,Instr.fieldAt,run_underlying hu,hfd,Instr.sureAddr,fieldPlace,sizeOf,typeInfo,hi,hz,Addr.add_mid]
   ·cases hf
  ·cases hf
 ·cases hf
theorem BF {t g off:Nat} {x:Operand} {v:Value} (ho:o.op=.load t x) (hx:ev e x=some (.pointer (some ⟨g,off,none⟩))) (ht:J3 P t=true) (hc:Cell w.heap g off v):Y P e o w v:=λρ h=>by
 have hcell:=hc.get w X;unfold J3 at ht
 have ha:(isAgg t).run P w=.ok false w:=by
  cases hu:P.underlying t with
  | none=>simp [hu] at ht
  | some d=>
   unfold isAgg;rw [Sem.run_bind,run_underlying hu w]
   cases d<;>simp_all
 unfold execOp;simp only [ho,h _ _ hx,Instr.loadAt,Instr.sureAddr,Sem.run_bind,Sem.run_pure,Result.andThen_ok,loadVar,ha,Bool.false_eq_true,if_false]
 simp [hcell]
theorem RM {t t':Nat} {k:IntKind} {a b:Int} {x y:Operand} (ho:o.op=.binOp .lss t x y t') (hx:ev e x=some (.int k a)) (hy:ev e y=some (.int k b)) (hc:a<b):Y P e o w (.bool true):=λρ h=>by
 unfold execOp;simp [ho,h _ _ hx,h _ _ hy,eqGuard_at_int,binOp_lss];omega
theorem RN {t t':Nat} {k:IntKind} {a b:Int} {x y:Operand} (ho:o.op=.binOp .lss t x y t') (hx:ev e x=some (.int k a)) (hy:ev e y=some (.int k b)) (hc:¬(a<b)):Y P e o w (.bool false):=λρ h=>by
 unfold execOp;simp [ho,h _ _ hx,h _ _ hy,eqGuard_at_int,binOp_lss];omega
theorem q7 {t t':Nat} {k:IntKind} {a b:Int} {x y:Operand} (ho:o.op=.binOp .leq t x y t') (hx:ev e x=some (.int k a)) (hy:ev e y=some (.int k b)) (hc:a≤b):Y P e o w (.bool true):=λρ h=>by
 unfold execOp;simp [ho,h _ _ hx,h _ _ hy,eqGuard_at_int,binOp_leq];omega
theorem q8 {t t':Nat} {k:IntKind} {a b:Int} {x y:Operand} (ho:o.op=.binOp .leq t x y t') (hx:ev e x=some (.int k a)) (hy:ev e y=some (.int k b)) (hc:¬(a≤b)):Y P e o w (.bool false):=λρ h=>by
 unfold execOp;simp [ho,h _ _ hx,h _ _ hy,eqGuard_at_int,binOp_leq];omega
theorem qA {t t':Nat} {k:IntKind} {a b:Int} {x y:Operand} (ho:o.op=.binOp .gtr t x y t') (hx:ev e x=some (.int k a)) (hy:ev e y=some (.int k b)) (hc:b<a):Y P e o w (.bool true):=λρ h=>by
 unfold execOp;simp [ho,h _ _ hx,h _ _ hy,eqGuard_at_int,binOp_gtr];omega
theorem qB {t t':Nat} {k:IntKind} {a b:Int} {x y:Operand} (ho:o.op=.binOp .gtr t x y t') (hx:ev e x=some (.int k a)) (hy:ev e y=some (.int k b)) (hc:¬(b<a)):Y P e o w (.bool false):=λρ h=>by
 unfold execOp;simp [ho,h _ _ hx,h _ _ hy,eqGuard_at_int,binOp_gtr];omega
theorem qC {t t':Nat} {k:IntKind} {a b:Int} {x y:Operand} (ho:o.op=.binOp .geq t x y t') (hx:ev e x=some (.int k a)) (hy:ev e y=some (.int k b)) (hc:b≤a):Y P e o w (.bool true):=λρ h=>by
 unfold execOp;simp [ho,h _ _ hx,h _ _ hy,eqGuard_at_int,binOp_geq];omega
theorem qD {t t':Nat} {k:IntKind} {a b:Int} {x y:Operand} (ho:o.op=.binOp .geq t x y t') (hx:ev e x=some (.int k a)) (hy:ev e y=some (.int k b)) (hc:¬(b≤a)):Y P e o w (.bool false):=λρ h=>by
 unfold execOp;simp [ho,h _ _ hx,h _ _ hy,eqGuard_at_int,binOp_geq];omega
theorem N9 {t t':Nat} {k:IntKind} {a b:Int} {x y:Operand} (ho:o.op=.binOp .eql t x y t') (hx:ev e x=some (.int k a)) (hy:ev e y=some (.int k b)) (hc:a=b):Y P e o w (.bool true):=λρ h=>by
 unfold execOp;simp [ho,h _ _ hx,h _ _ hy,eqGuard_at_int,binOp_eql];omega
theorem I3 {t t':Nat} {k:IntKind} {a b:Int} {x y:Operand} (ho:o.op=.binOp .eql t x y t') (hx:ev e x=some (.int k a)) (hy:ev e y=some (.int k b)) (hc:¬(a=b)):Y P e o w (.bool false):=λρ h=>by
 unfold execOp;simp [ho,h _ _ hx,h _ _ hy,eqGuard_at_int,binOp_eql];omega
theorem VY {t t':Nat} {k:IntKind} {a b:Int} {x y:Operand} (ho:o.op=.binOp .neq t x y t') (hx:ev e x=some (.int k a)) (hy:ev e y=some (.int k b)) (hc:a≠b):Y P e o w (.bool true):=λρ h=>by
 unfold execOp;simp [ho,h _ _ hx,h _ _ hy,eqGuard_at_int,binOp_neq];omega
theorem VZ {t t':Nat} {k:IntKind} {a b:Int} {x y:Operand} (ho:o.op=.binOp .neq t x y t') (hx:ev e x=some (.int k a)) (hy:ev e y=some (.int k b)) (hc:¬(a≠b)):Y P e o w (.bool false):=λρ h=>by
 unfold execOp;simp [ho,h _ _ hx,h _ _ hy,eqGuard_at_int,binOp_neq];omega
theorem GE {t t':Nat} {a b:Int} {x y:Operand} (ho:o.op=.binOp .add t x y t') (hx:ev e x=some (.int .i64 a)) (hy:ev e y=some (.int .i64 b)) (hc : -9223372036854775808≤a+b∧a+b≤9223372036854775807):Y P e o w (.int .i64 (a+b)):=λρ h=>by
 unfold execOp;simp [ho,h _ _ hx,h _ _ hy,eqGuard_at_int,binOp_add,Op.intArith,IntWalk.i64_in _ hc]
theorem cC {t t':Nat} {a b:Int} {x y:Operand} (ho:o.op=.binOp .sub t x y t') (hx:ev e x=some (.int .i64 a)) (hy:ev e y=some (.int .i64 b)) (hc : -9223372036854775808≤a-b∧a-b≤9223372036854775807):Y P e o w (.int .i64 (a-b)):=λρ h=>by
 unfold execOp;simp [ho,h _ _ hx,h _ _ hy,eqGuard_at_int,binOp_sub,Op.intArith,IntWalk.i64_in _ hc]
theorem yE {t t':Nat} {a b:Int} {x y:Operand} (ho:o.op=.binOp .mul t x y t') (hx:ev e x=some (.int .i64 a)) (hy:ev e y=some (.int .i64 b)) (hc : -9223372036854775808≤a*b∧a*b≤9223372036854775807):Y P e o w (.int .i64 (a*b)):=λρ h=>by
 unfold execOp;simp [ho,h _ _ hx,h _ _ hy,eqGuard_at_int,binOp_mul,Op.intArith,IntWalk.i64_in _ hc]
theorem yC {t:Nat} {b:Bool} {x:Operand} (ho:o.op=.unOp .not t x) (hx:ev e x=some (.bool b)):Y P e o w (.bool (!b)):=λρ h=>by
 unfold execOp;simp [ho,h _ _ hx,Op.unary]
theorem CP {f:Fn} {xs ys:List Operand} {us vs:List Value} (ho:o.op=.makeFunc f xs.toArray ys.toArray) (hx:evs e xs=some us) (hy:evs e ys=some vs):Y P e o w (.func f us.toArray vs.toArray):=λρ h=>by
 unfold execOp;simp [ho,Instr.makeFunc,h.all hx,h.all hy]
theorem f7 {x:Operand} {ix:Nat} {vs:Array Value} {v:Value} (ho:o.op=.extract x ix) (hx:ev e x=some (.tuple vs)) (hv:vs[ix]?=some v):Y P e o w v:=λρ h=>by
 unfold execOp;simp [ho,h _ _ hx,Instr.extract,hv]
theorem q9 {t g off len cap sz el:Nat} {m:Int} {k:IntKind} {x i:Operand} (ho:o.op=.indexAddr t x i) (hx:ev e x=some (.slice (some ⟨g,off,none⟩) len cap)) (hi:ev e i=some (.int k m)) (ht:DH P t=some (el,sz)) (h0:0≤m∧m<len) :
 Y P e o w (.pointer (some ⟨g,off+m.toNat*sz,none⟩)):=λρ h=>by
 unfold DH at ht
 split at ht
 ·rename_i el' hu
  split at ht
  ·rename_i i' hi'
   simp only [Option.some.injEq,Prod.mk.injEq] at ht
   obtain ⟨rfl,rfl⟩:=ht;unfold execOp
   simp [ho,h _ _ hx,h _ _ hi,Instr.indexAt,asIntOf,run_underlying hu,h0.1,h0.2,sizeOf,typeInfo,hi',Addr.add_mid]
  ·cases ht
 ·cases ht
theorem M9 {t g off len cap sz el j:Nat} {k:IntKind} {x i:Operand} (ho:o.op=.indexAddr t x i) (hx:ev e x=some (.slice (some ⟨g,off,none⟩) len cap)) (hi:ev e i=some (.int k (j:Int))) (ht:DH P t=some (el,sz)) (h0:j<len) :
 Y P e o w (.pointer (some ⟨g,off+j*sz,none⟩)):=q9 ho hx hi ht ⟨by omega,by omega⟩
theorem EO {t g off len sz el:Nat} {m:Int} {k:IntKind} {x i:Operand} (ho:o.op=.indexAddr t x i) (hx:ev e x=some (.pointer (some ⟨g,off,none⟩))) (hi:ev e i=some (.int k m)) (ht:NK P t=some (len,el,sz)) (h0:0≤m∧m<len) :
 Y P e o w (.pointer (some ⟨g,off+m.toNat*sz,none⟩)):=λρ h=>by
 unfold NK at ht
 split at ht
 ·rename_i el' n' hu
  split at ht
  ·rename_i i' hi'
   simp only [Option.some.injEq,Prod.mk.injEq] at ht
   obtain ⟨rfl,rfl,rfl⟩:=ht;unfold execOp
   simp [ho,h _ _ hx,h _ _ hi,Instr.indexAt,asIntOf,run_underlying hu,Instr.sureAddr,h0.1,h0.2,sizeOf,typeInfo,hi',Addr.add_mid]
  ·cases ht
 ·cases ht
theorem FM {t n c el sz:Nat} {x:Operand} {A:Option Addr} (ho:o.op=.call { callee:=.builtin .len,args := #[x],argTypes := #[t] }) (hx:ev e x=some (.slice A n c)) (ht:DH P t=some (el,sz)):Y P e o w (.int .i64 (n:Int)):=λρ h=>by
 unfold DH at ht
 split at ht
 ·rename_i el' hu
  unfold execOp
  simp [ho,h _ _ hx,resolve,invoke,builtin,Builtin.len_,run_underlying hu,goInt]
 ·cases ht
theorem eZ {t len cap sz el:Nat} {A:Option Addr} {m:Int} {k:IntKind} {x i:Operand} (ho:o.op=.slice t x none (some i) none) (hx:ev e x=some (.slice A len cap)) (hi:ev e i=some (.int k m)) (ht:DH P t=some (el,sz)) (h0:0≤m∧m≤cap) :
 Y P e o w (.slice A m.toNat cap):=λρ h=>by
 unfold DH at ht
 split at ht
 ·rename_i el' hu
  split at ht
  ·rename_i i' hi'
   simp only [Option.some.injEq,Prod.mk.injEq] at ht
   obtain ⟨rfl,rfl⟩:=ht;have ha:(A.map λx:Addr=>x.add 0)=A:=by cases A<;>simp [Addr.add_zero']
   unfold execOp
   simp [ho,h _ _ hx,h _ _ hi,Instr.sliceAt,Instr.slice,run_underlying hu,Instr.sliceBounds,Instr.sliceBound,asIntOf,h0.1,h0.2,sizeOf,typeInfo,hi',ha]
  ·cases ht
 ·cases ht
def J5 (F:Nat→Nat→Option Nat) (e:Env):Op→Option Value
 | .move x=>ev e x
 | .assign x=>ev e x
 | .pick c x y=>match ev e c with
  | some (.bool true)=>ev e x
  | some (.bool false)=>ev e y
  | _=>none
 | .nilCheck x=>match ev e x with
  | some (.pointer (some p))=>some (.pointer (some p))
  | _=>none
 | .fieldAddr s x f=>match ev e x,F s f with
  | some (.pointer (some ⟨g,off,none⟩)),some k=>some (.pointer (some ⟨g,off+k,none⟩))
  | _,_=>none
 | .extract x i=>match ev e x with
  | some (.tuple vs)=>vs[i]?
  | _=>none
 | .unOp u _ x=>match u,ev e x with
  | .not,some (.bool b)=>some (.bool (!b))
  | _,_=>none
 | _=>none
theorem uY {F:Nat→Nat→Option Nat} {v:Value} (hF:∀s f k,F s f=some k→MX P s f=some k) (h:J5 F e o.op=some v):Y P e o w v:=by
 cases ho:o.op<;>rw [ho] at h<;>simp only [J5] at h
 all_goals first
  | exact vA ho h
  | exact jR ho h
  | cases h
  | skip
 ·split at h
  ·rename_i hc;exact jM ho hc h
  ·rename_i hc;exact jN ho hc h
  ·cases h
 ·split at h
  ·rename_i hc;simp only [Option.some.injEq] at h;subst h;exact yD ho hc
  ·cases h
 ·split at h
  ·rename_i hc;simp only [Option.some.injEq] at h;subst h;exact yC ho hc
  ·cases h
 ·split at h
  ·rename_i hc hf;simp only [Option.some.injEq] at h;subst h;exact qE ho hc (hF _ _ _ hf)
  ·cases h
 ·split at h
  ·rename_i hc;exact f7 ho hc h
  ·cases h
theorem AG {f:FuncId} {xs:List Operand} {vs:List Value} {ts:Array TypeId} (ho:o.op=.call { callee:=.value (.func f),args:=xs.toArray,argTypes:=ts }) (hx:evs e xs=some vs) (hc:∀(us:Array Value) (w:World),(callFunc f us).run P w=.ok (.enter f us) w):YC P e o w f vs.toArray:=λρ h=>by
 have:=h.all hx
 unfold execOp
 simp [ho,resolve,h (.func f) _ rfl,Deferred.ofValue,invoke,hc,this]
theorem BJ {f:FuncId} {x:Operand} {cs:List Value} {xs:List Operand} {vs:List Value} {ts:Array TypeId} (ho:o.op=.call { callee:=.value x,args:=xs.toArray,argTypes:=ts }) (hf:ev e x=some (.func (.func f) #[] cs.toArray)) (hx:evs e xs=some vs) (hc:∀(us:Array Value) (w:World),(callFunc f us).run P w=.ok (.enter f us) w):YC P e o w f (vs++cs).toArray:=λρ h=>by
 have:=h.all hx
 unfold execOp
 simp [ho,resolve,h _ _ hf,Deferred.ofValue,invoke,hc,this]
theorem KC {s d:Nat} {k k':IntKind} {m:Int} {x:Operand} {ds:TypeDesc} (ho:o.op=.convert s d x) (hx:ev e x=some (.int k m)) (hs:P.underlying s=some ds) (hd:P.underlying d=some (.int k')) {r:Int} (hr:k'.wrap m=r):Y P e o w (.int k' r):=λρ h=>by
 subst hr;unfold execOp
 simp [ho,h _ _ hx,convert,run_underlying hs,run_underlying hd,Conv.intToInt]
theorem UK {t el:Nat} (hu:P.underlying t=some (.pointer el)) (a:Option Addr):(Op.equal t (.pointer a) (.pointer none)).run P w=.ok a.isNone w:=by
 unfold Op.equal Op.maxDepth Op.equalIn
 cases a<;>simp [run_underlying hu]
theorem J1 {t t' el:Nat} {a:Option Addr} {x y:Operand} (ho:o.op=.binOp .eql t x y t') (hx:ev e x=some (.pointer a)) (hy:ev e y=some (.pointer none)) (hu:NB P t=some el):Y P e o w (.bool a.isNone):=λρ h=>by
 unfold execOp;simp [ho,h _ _ hx,h _ _ hy,eqGuard_at_pointer,binOp,UK (ST hu)]
theorem MH {t:Nat} (hu:P.underlying t=some .bool) (a b:Bool):(Op.equal t (.bool a) (.bool b)).run P w=.ok (a==b) w:=by
 unfold Op.equal Op.maxDepth Op.equalIn
 simp [run_underlying hu]
theorem IV {t t':Nat} {a b:Bool} {x y:Operand} (ho:o.op=.binOp .eql t x y t') (hx:ev e x=some (.bool a)) (hy:ev e y=some (.bool b)) (hu:P.underlying t=some .bool):Y P e o w (.bool (a==b)):=λρ h=>by
 unfold execOp;simp [ho,h _ _ hx,h _ _ hy,eqGuard_at_bool,binOp,MH hu]
theorem f6 {t t':Nat} {a b:Bool} {x y:Operand} (ho:o.op=.binOp .neq t x y t') (hx:ev e x=some (.bool a)) (hy:ev e y=some (.bool b)) (hu:P.underlying t=some .bool):Y P e o w (.bool (!(a==b))):=λρ h=>by
 unfold execOp;simp [ho,h _ _ hx,h _ _ hy,eqGuard_at_bool,binOp,MH hu]
end
end
section
def HF (ops:Array Oper) (h t:Nat):Bool:=(List.range ops.size).all λj=>decide (j<t) || (List.range h).all λi=>Region.waitsFor .any ops j i
def IF (P:Program) (ops:Array Oper) (Q:Exit→Act→World→Prop) (t:Nat) (S:World→Prop):Nat→Array Bool→Act→World→Prop
 | 0,listed,a,w=>Region.ready .any ops listed=[]∧Q .normal a w
 | fuel+1,listed,a,w=>
  (Region.ready .any ops listed=[]→Q .normal a w) ∧
  ∀i∈Region.ready .any ops listed,wpOp P ops Q i (λa' w'=>(i<t→S w')∧IF P ops Q t S fuel (listed.setIfInBounds i true) a' w') a w
section
variable {P:Program} {ops:Array Oper} {Q:Exit→Act→World→Prop} {S:World→Prop} {h t:Nat}
theorem O3 : ∀(fuel:Nat) (listed:Array Bool) (a:Act) (w:World),IF P ops Q t S fuel listed a w→wpAny P .any ops Q fuel listed a w
 | 0,_,_,_,h=>h
 | fuel+1,_,_,_,h=>⟨h.1,λi hi=>wpOp_mono (λa' w' h'=>O3 fuel _ a' w' h'.2) (h.2 i hi)⟩
theorem L0 {i:Nat} {oi:Oper} {v:Value} (hi:ops[i]?=some oi) (hsel:∀(j:Nat) (o:Oper) cs b,ops[j]?=some o→o.op≠.select cs b)
 (hQ:∀c a w,Q (.panic c) (a.put oi.dst v) w→Q (.panic c) a w) (hwait:HF ops h t=true) (hih:i<h) :
 ∀(fuel:Nat) (listed:Array Bool) (a:Act) (w:World),
  (∀j oj,ops[j]?=some oj→j≠i→listed.getD j true=false→(∀e∈oj.after,Region.binds .any e=true→e.on≠i)→oi.apart ops oj=true) →
  i∈Region.ready .any ops listed→YieldsIf P ops S oi v a→S w →
  IF P ops Q t S fuel (listed.setIfInBounds i true) (a.put oi.dst v) w→IF P ops Q t S (fuel+1) listed a w:=by
 intro fuel
 induction fuel with
 | zero=>
  intro listed a w _ hr hy hS H;refine ⟨λh=>(by rw [h] at hr;cases hr),λj hj=>?_⟩
  by_cases hji:j=i
  ·subst hji;exact hy.wpOp hi hS ⟨λ_=>hS,H⟩
  ·have:=ready_mono hj hji
   rw [H.1] at this
   cases this
 | succ fuel ih=>
  intro listed a w hfree hr hy hS H;refine ⟨λh=>(by rw [h] at hr;cases hr),λj hj=>?_⟩
  by_cases hji:j=i
  ·subst hji;exact hy.wpOp hi hS ⟨λ_=>hS,H⟩
  ·have h1:=H.2 j (ready_mono hj hji);obtain ⟨hjun,oj,hoj,hall⟩:=mem_ready.1 hj
   have hnot:∀e∈oj.after,Region.binds .any e=true→e.on≠i:=λe he hb heq=>by
    have h1:=hall e he hb;have h0:=(mem_ready.1 hr).1;rw [heq,getD_both h0] at h1
    cases h1
   have hjt:j<t:=by
    have h2:=List.all_eq_true.1 hwait j (List.mem_range.2 (Array.getElem?_eq_some_iff.1 hoj).1);simp only [Bool.or_eq_true,decide_eq_true_eq] at h2
    rcases h2 with h2|h2
    ·exact h2
    ·obtain ⟨o',ho',e,he,hb,hon⟩:=Region.waitsFor_spec (List.all_eq_true.1 h2 i (List.mem_range.2 hih));rw [hoj] at ho'
     injection ho' with ho'
     subst ho';exact absurd hon (hnot e he hb)
   have h2:=wpOp_putIf hoj (hfree j oj hoj hji hjun hnot) (λcs b=>hsel i oi cs b hi) (λcs b=>hsel j oj cs b hoj) hQ hy h1
   have hfree':∀k ok,ops[k]?=some ok→k≠i→(listed.setIfInBounds j true).getD k true=false →
    (∀e∈ok.after,Region.binds .any e=true→e.on≠i)→oi.apart ops ok=true:=λk ok hk hki hun hno=>by
    refine hfree k ok hk hki ?_ hno
    by_cases hjk:j=k
    ·subst hjk;exact hjun
    ·rw [getD_set_ne true hjk] at hun;exact hun
   refine wpOp_mono (λa' w' h3=>⟨h3.2.1,ih (listed.setIfInBounds j true) a' w' hfree' (ready_mono hr (Ne.symm hji)) h3.1 (h3.2.1 hjt) ?_⟩) h2;rw [Array.setIfInBounds_comm _ _ hji];exact h3.2.2
theorem NU : ∀(fuel:Nat) (listed:Array Bool) (a:Act) (w:World),(∀i,i<t→listed.getD i true=true)→wpAny P .any ops Q fuel listed a w→IF P ops Q t S fuel listed a w
 | 0,_,_,_,_,h=>h
 | fuel+1,listed,_,_,hd,h=>by
  refine ⟨h.1,λi hi=>wpOp_mono (λa' w' h'=>?_) (h.2 i hi)⟩
  have hno:¬i<t:=λhit=>by
   have h0:=(mem_ready.1 hi).1;rw [hd i hit] at h0;cases h0
  refine ⟨λhit=>absurd hit hno,NU fuel _ a' w' (λk hk=>?_) h'⟩;rw [getD_set_ne true (λe:i=k=>hno (by omega))];exact hd k hk
structure SxO (P:Program) (ops:Array Oper) (Q:Exit→Act→World→Prop) (t:Nat) (S:World→Prop) (n f:Nat) (listed:Array Bool) (e:Env) (w:World):Prop where
 run:∀a,Agr n e a→IF P ops Q t S f listed a w
variable {n f:Nat} {listed:Array Bool} {e:Env} {w:World}
theorem EH {id:Nat} {l:List Oper} (t:Nat) (S:World→Prop) (hm:P.follows .mixedOrders=true) (k:SxO P l.toArray Q t S n l.length (Array.replicate l.length false) e w.drew):Sx P (Code.region id l.toArray true) Q n e w:=⟨λa ha=>by
 refine wp_region_any hm (O3 (t:=t) (S:=S) _ _ _ _ ?_)
 simpa using k.run a ha⟩
theorem cU {o:Oper} {d:Nat} {v:Value} (i h:Nat) (hs:Region.noSelect ops=true) (hQ:∀c (a:Act) t v w,Q (.panic c) (a.put t v) w→Q (.panic c) a w) (hwait:HF ops h t=true) (hih:Nat.blt i h=true)
 (hf:Region.free .any ops listed i=true) (hr:(Region.ready .any ops listed).contains i=true) (ho:ops[i]?=some o) (hw:Wn ops e o) (hd:o.dst=some d) (hn:Nat.blt d n=true) (hS:S w) (hy:∀w',S w'→Y P e o w' v)
 (k:SxO P ops Q t S n f (listed.setIfInBounds i true) ((d,v)::e) w):SxO P ops Q t S n (f+1) listed e w:=⟨λa ha=>
 L0 ho (Region.noSelect_spec hs) (λc a w=>hQ c a _ _ w) hwait (CO hih) f listed a w (Region.free_spec ho hf) (by simpa using hr) (.inl ⟨hw n a ha,λw' hw'=>hy w' hw' _ ha.eval⟩) hS (by
  rw [hd];exact k.run _ (ha.put (CO hn) v))⟩
theorem oa {o:Oper} {d:Nat} {v:Value} (i h:Nat) (ho:ops[i]?=some o) (hd:(o.guard,o.dst,Nat.blt d n)=(none,some d,true)) (hS:S w) (hy:∀w',S w'→Y P e o w' v) (k:SxO P ops Q t S n f (listed.setIfInBounds i true) ((d,v)::e) w) (hs:Region.noSelect ops=true:=by kernel_rfl) (hQ:∀c (a:Act) t v w,Q (.panic c) (a.put t v) w→Q (.panic c) a w:=by exact λc a t v w h=>by cases t<;>exact h) (hwait:HF ops h t=true:=by kernel_rfl) (hih:Nat.blt i h=true:=by exact rfl) (hf:Region.free .any ops listed i=true:=by kernel_rfl) (hr:(Region.ready .any ops listed).contains i=true:=by kernel_rfl):SxO P ops Q t S n (f+1) listed e w:=
 cU i h hs hQ hwait hih hf hr ho (wn_none (Prod.mk.inj hd).1) (Prod.mk.inj (Prod.mk.inj hd).2).1 (Prod.mk.inj (Prod.mk.inj hd).2).2 hS hy k
theorem ob {o:Oper} {d:Nat} {v:Value} (i h:Nat) (ho:ops[i]?=some o) (hw:Wn ops e o) (hd:o.dst=some d) (hn:Nat.blt d n=true) (hS:S w) (hy:∀w',S w'→Y P e o w' v) (k:SxO P ops Q t S n f (listed.setIfInBounds i true) ((d,v)::e) w) (hs:Region.noSelect ops=true:=by kernel_rfl) (hQ:∀c (a:Act) t v w,Q (.panic c) (a.put t v) w→Q (.panic c) a w:=by exact λc a t v w h=>by cases t<;>exact h) (hwait:HF ops h t=true:=by kernel_rfl) (hih:Nat.blt i h=true:=by exact rfl) (hf:Region.free .any ops listed i=true:=by kernel_rfl) (hr:(Region.ready .any ops listed).contains i=true:=by kernel_rfl):SxO P ops Q t S n (f+1) listed e w:=
 cU i h hs hQ hwait hih hf hr ho hw hd hn hS hy k
theorem B2 {o:Oper} {R:Value→World→Prop} (i:Nat) (d:Option Tmp) (hr:Region.ready .any ops listed=[i]) (ho:ops[i]?=some o) (hw:Wn ops e o) (hd:o.dst=d) (hn:JC n d=true) (hy:∀ρ,Ag e ρ→GB P ρ o w R)
 (k:∀v w',R v w'→(i<t→S w')∧SxO P ops Q t S n f (listed.setIfInBounds i true) (e.ins d v) w'):SxO P ops Q t S n (f+1) listed e w:=⟨λa ha=>by
 refine ⟨λh0=>(by rw [hr] at h0;cases h0),λj hj=>?_⟩;rw [hr] at hj
 obtain rfl:j=i:=by simpa using hj
 unfold wpOp;simp only [ho,hw n a ha,if_true];refine .inl ((hy _ ha.eval).wp λv w' hR=>?_);rw [hd];obtain ⟨h1,h2⟩:=k v w' hR;exact ⟨h1,h2.run _ (ha.ins hn v)⟩⟩
theorem BQ {o:Oper} {fn:FuncId} {args:Array Value} {R:Ending→World→Prop} (i:Nat) (d:Option Tmp) (hr:Region.ready .any ops listed=[i]) (ho:ops[i]?=some o) (hw:Wn ops e o) (hd:o.dst=d) (hn:JC n d=true) (hy:YC P e o w fn args) (hc:Calls P fn args w R)
 (k:∀x w',R x w'→∃v,x=.returned v∧(i<t→S w')∧SxO P ops Q t S n f (listed.setIfInBounds i true) (e.ins d v) w'):SxO P ops Q t S n (f+1) listed e w:=⟨λa ha=>by
 refine ⟨λh0=>(by rw [hr] at h0;cases h0),λj hj=>?_⟩;rw [hr] at hj
 obtain rfl:j=i:=by simpa using hj
 unfold wpOp;simp only [ho,hw n a ha,if_true];refine .inl ?_;unfold Oper.wp;rw [hy _ ha.eval,Oper.upon_enter];refine hc.mono λx w' hR=>?_
 obtain ⟨v,rfl,h1,h2⟩:=k x w' hR;simp only [hd];exact ⟨h1,h2.run _ (ha.ins hn v)⟩⟩
theorem GQ {rs:List Nat} (hr:Region.ready .any ops listed=rs) (hne:rs≠[])
 (k:∀i∈rs,∀a,Agr n e a→wpOp P ops Q i (λa' w'=>(i<t→S w')∧IF P ops Q t S f (listed.setIfInBounds i true) a' w') a w):SxO P ops Q t S n (f+1) listed e w:=⟨λa ha=>
 ⟨λh0=>absurd (hr▸h0) hne,λi hi=>k i (hr▸hi) a ha⟩⟩
theorem JR {o:Oper} {fn:FuncId} {args:Array Value} {R:Ending→World→Prop} {i:Nat} (d:Option Tmp) (ho:ops[i]?=some o) (hw:Wn ops e o) (hd:o.dst=d) (hn:JC n d=true) (hy:YC P e o w fn args) (hc:Calls P fn args w R)
 (k:∀x w',R x w'→∃v,x=.returned v∧(i<t→S w')∧SxO P ops Q t S n f (listed.setIfInBounds i true) (e.ins d v) w'):∀a,Agr n e a→wpOp P ops Q i (λa' w'=>(i<t→S w')∧IF P ops Q t S f (listed.setIfInBounds i true) a' w') a w:=λa ha=>by
 unfold wpOp;simp only [ho,hw n a ha,if_true];refine .inl ?_;unfold Oper.wp;rw [hy _ ha.eval,Oper.upon_enter];refine hc.mono λx w' hR=>?_
 obtain ⟨v,rfl,h1,h2⟩:=k x w' hR;simp only [hd];exact ⟨h1,h2.run _ (ha.ins hn v)⟩
theorem EA {o:Oper} {R:Value→World→Prop} {i:Nat} (d:Option Tmp) (ho:ops[i]?=some o) (hw:Wn ops e o) (hd:o.dst=d) (hn:JC n d=true) (hy:∀ρ,Ag e ρ→GB P ρ o w R)
 (k:∀v w',R v w'→(i<t→S w')∧SxO P ops Q t S n f (listed.setIfInBounds i true) (e.ins d v) w'):∀a,Agr n e a→wpOp P ops Q i (λa' w'=>(i<t→S w')∧IF P ops Q t S f (listed.setIfInBounds i true) a' w') a w:=λa ha=>by
 unfold wpOp;simp only [ho,hw n a ha,if_true];refine .inl ((hy _ ha.eval).wp λv w' hR=>?_);rw [hd];obtain ⟨h1,h2⟩:=k v w' hR;exact ⟨h1,h2.run _ (ha.ins hn v)⟩
theorem kT (hr:Region.ready .any ops listed=[]) (k:QX Q .normal n e w):SxO P ops Q t S n f listed e w:=⟨λa ha=>by
 cases f with
 | zero=>exact ⟨hr,k.run a ha⟩
 | succ f=>exact ⟨λ_=>k.run a ha,by rw [hr];simp⟩⟩
def jK (listed:Array Bool) (t:Nat):Bool:=(List.range t).all λi=>listed.getD i true
theorem P2 {l:List Oper} (j:Nat) (hl:jK listed t=true) (hf:l.length=f) (hj:ops.toList.drop j=l) (hB:Region.seqB .any ops l.length j listed=true) (k:SxL P ops Q n l e w):SxO P ops Q t S n f listed e w:=⟨λa ha=>by
 subst hf;refine NU _ _ _ _ (λi hi=>List.all_eq_true.1 hl i (List.mem_range.2 hi)) (wpAny_of_seq (md:=.any) l j listed a w (λk=>?_) hB (k.run a ha));rw [←hj,List.getElem?_drop];simp⟩
end
end
section
def evp (e:Env):List (Nat × Operand)→Option (List (Nat × Value))
 | []=>some []
 | (i,x)::xs=>match ev e x,evp e xs with
  | some v,some vs=>some ((i,v)::vs)
  | _,_=>none
theorem Ag.parts {e:Env} {ρ:Operand→Value} (h:Ag e ρ):∀{xs:List (Nat × Operand)} {vs:List (Nat × Value)},evp e xs=some vs→xs.map (λ(i,x)=>(i,ρ x))=vs
 | [],vs,hx=>by simp [evp] at hx;simp [hx]
 | (i,x)::xs,vs,hx=>by
  unfold evp at hx
  cases h1:ev e x with
  | none=>simp [h1] at hx
  | some v=>
   cases h2:evp e xs with
   | none=>simp [h1,h2] at hx
   | some us=>
    simp only [h1,h2,Option.some.injEq] at hx
    subst hx;rw [List.map_cons,h.parts h2]
    show (i,ρ x)::us=_
    rw [h x v h1]
theorem dG (cs xs:List Value) (off i:Nat) (h:off≤cs.length):(put cs off xs)[i]?=if i<off then cs[i]? else if i<off+xs.length then xs[i-off]? else cs[i]?:=by
 unfold put;have hl:(cs.take off).length=off:=by simp;omega
 by_cases h1:i<off
 ·rw [if_pos h1,List.getElem?_append_left (by omega),List.getElem?_take_of_lt h1]
 ·rw [if_neg h1,List.getElem?_append_right (by omega),hl]
  by_cases h2:i<off+xs.length
  ·rw [if_pos h2,List.getElem?_append_left (by omega)]
  ·rw [if_neg h2,List.getElem?_append_right (by omega),List.getElem?_drop]
   congr 1;omega
theorem lV (cs vs:List Value) (k:Nat) (v:Value) (h:k+1+vs.length≤cs.length):put (cs.set k v) (k+1) vs=put cs k (v::vs):=by
 apply List.ext_getElem?
 intro i;rw [dG _ _ _ _ (by rw [List.length_set];omega),dG _ _ _ _ (by omega),List.length_cons]
 by_cases h1:i<k
 ·rw [if_pos (by omega),if_pos h1,List.getElem?_set_ne (by omega)]
 ·by_cases h2:i=k
  ·subst h2;rw [if_pos (by omega),if_neg h1,if_pos (by omega),List.getElem?_set_self (by omega),Nat.sub_self];rfl
  ·rw [if_neg (by omega),if_neg h1]
   by_cases h3:i<k+1+vs.length
   ·rw [if_pos h3,if_pos (by omega),show i-k=(i-(k+1))+1 by omega,List.getElem?_cons_succ]
   ·rw [if_neg h3,if_neg (by omega),List.getElem?_set_ne (by omega)]
theorem VI (off:Nat):∀(vs:List Value) (j:Nat) (cells:List Value),off+j+vs.length≤cells.length →
 (vs.zipIdx j).foldl (λ(cs:Array Value) (p:Value × Nat)=>cs.setIfInBounds (off+p.2) p.1) cells.toArray=(put cells (off+j) vs).toArray
 | [],j,cells,_=>by simp [rU]
 | v::vs,j,cells,h=>by
  simp only [List.length_cons] at h
  rw [List.zipIdx_cons,List.foldl_cons,List.setIfInBounds_toArray,VI off vs (j+1) _ (by rw [List.length_set];omega)];rw [show off+(j+1)=off+j+1 by omega,lV _ _ _ _ (by omega)]
theorem iU (place:Nat→Option (Nat × Nat)) (cells:List Value) (i off:Nat) (v:Value) (vs:List Value) (rest:List (Nat × Value)) (hv:v.cells=vs.toArray) (hp:place i=some (off,vs.length)) (hl:off+vs.length≤cells.length) :
 Instr.fill place cells.toArray ((i,v)::rest)=Instr.fill place (put cells off vs).toArray rest:=by
 have hf:=VI off vs 0 cells (by omega)
 conv=>lhs;unfold Instr.fill
 rw [hp];simp only [hv,List.size_toArray,ne_eq,not_true_eq_false,decide_false,Bool.false_or,decide_eq_true_eq];rw [if_neg (by omega)];rw [←Array.foldl_toList,Array.toList_zipIdx];simp only [Nat.add_zero] at hf
 rw [hf]
theorem TO (size:Nat):∀(vs:List Value) (j:Nat) (pre rest:List Value),pre.length=j*size→rest.length=vs.length*size→(∀v∈vs,v.cells.size=size) →
 Instr.fill (λi=>some (i*size,size)) (pre++rest).toArray ((vs.zipIdx j).map λx=>(x.2,x.1))=some (pre++(vs.map λv=>v.cells.toList).flatten).toArray
 | [],j,pre,rest,_,hr,_=>by
  have:rest=[]:=List.eq_nil_of_length_eq_zero (by simpa using hr)
  subst this
  simp [Instr.fill]
 | v::vs,j,pre,rest,hp,hr,hv=>by
  have hvs:v.cells.toList.length=size:=by simpa using hv v (by simp)
  simp only [List.length_cons,Nat.add_mul,Nat.one_mul] at hr
  rw [List.zipIdx_cons,List.map_cons];rw [iU _ _ j (j*size) v v.cells.toList _ (by simp) (by rw [hvs]) (by rw [List.length_append,hvs];omega)]
  have e:put (pre++rest) (j*size) v.cells.toList=(pre++v.cells.toList)++rest.drop size:=by
   unfold put;rw [←hp,List.take_left,hvs,List.drop_append,List.drop_of_length_le (by omega),List.nil_append,List.append_assoc]
   congr 3;omega
  rw [e,TO size vs (j+1) _ _ (by rw [List.length_append,hvs,hp,Nat.add_mul];omega) (by rw [List.length_drop];omega) (λu hu=>hv u (by simp [hu]))]
  simp
section
variable {P:Program} {e:Env} {w:World} {o:Oper}
theorem AY {t:Nat} {parts:List (Nat × Operand)} {ps:List (Nat × Value)} {cells:Array Value} (ho:o.op=.build t parts.toArray) (hp:evp e parts=some ps) (hb:P.built t ps=some cells):Y P e o w (.agg cells):=λρ h=>by
 have:=h.parts hp
 unfold execOp;simp only [ho,Sem.run_bind];have hm:(parts.toArray.map λ(i,x)=>(i,ρ x))=ps.toArray:=by simp [this]
 rw [hm,run_build w t ps.toArray cells (by simpa using hb)]
 rfl
theorem AK {t b off n:Nat} {x:Operand} {d:TypeDesc} {xs:List Value} (ho:o.op=.load t x) (hx:ev e x=some (.pointer (some ⟨b,off,none⟩))) (hr:Rd w (some ⟨b,off,none⟩) n xs) (hu:P.underlying t=some d) (hd:d.isRow=true) (hi:(P.info? t).map (·.size)=some n):Y P e o w (.agg xs.toArray):=λ_ h=>
 ZG t x ho b off n xs d (h _ _ hx) hr hu hd hi
theorem D3 {ρ:Operand→Value} {t el size len:Nat} {parts:List (Nat × Operand)} {ps:List (Nat × Value)} (vs:List Value) (z:Value) (hρ:Ag e ρ) (ho:o.op=.buildSlice t len parts.toArray) (hp:evp e parts=some ps) (hps:ps=(vs.zipIdx 0).map λx=>(x.2,x.1)) (hlen:vs.length=len)
 (hu:P.underlying t=some (.slice el)) (hi:(P.info? el).map (λi=>(i.zero,i.size))=some (some z,size)) (hpos:0<len*size) (hsm:len*size≤16777216) (hv:∀v∈vs,v.cells.size=size) :
 GB P ρ o w λv w'=>∃g,v=.slice (some ⟨g,0,none⟩) len len∧w.heap.size≤g∧g<w'.heap.size∧Blk w' g el ((vs.map λv=>v.cells.toList).flatten)∧Fr0 w w':=by
 cases hq:P.info? el with
 | none=>simp [hq] at hi
 | some i=>
  obtain ⟨hz,hsize⟩:i.zero=some z∧i.size=size:=by simpa [hq] using hi
  subst hsize;have hm:(parts.toArray.map λ(i,x)=>(i,ρ x))=ps.toArray:=by simp [hρ.parts hp]
  have hfill:=TO i.size vs 0 [] ((Array.range (len*i.size)).map (z.cells[·%z.cells.size]!)).toList (by simp) (by simp [hlen]) hv;simp only [List.nil_append] at hfill
  rw [Array.toArray_toList] at hfill
  refine ⟨_,w.alloc (.cells ((vs.map λv=>v.cells.toList).flatten).toArray el),.inl ?_,w.heap.size,X,Nat.le_refl _,by simp,Blk.new w el _,Fr.refl.alloc _⟩;have hr:=run_buildSlice (P:=P) w t el len ps.toArray _ i z hu hq hz (by simp;omega) (by omega) (by rw [hps];exact hfill);unfold execOp;simp only [ho,Sem.run_bind,hm,hr,Result.andThen_ok]
  rfl
end
end
section
section
variable {P:Program} {Q:Exit→Act→World→Prop} {n:Nat} {e:Env} {w:World}
end
theorem Rd.ofBlk {w:World} {g:Nat} {t:TypeId} {xs:List Value} (h:Blk w g t xs) {n:Nat} (hn:xs.length=n):Rd w (some ⟨g,0,none⟩) n xs:=
 ⟨hn,λ_=>⟨g,0,rfl,λj u hu=>by rw [Nat.zero_add];exact (h.cell j).trans hu⟩⟩
end
section
section
variable {P:Program} {Q:Exit→Act→World→Prop} {n:Nat} {e:Env} {w:World}
theorem PC {x:Exit} {r:Env} (hl:r.le e) (h:QX Q x n r w):QX Q x n e w:=⟨λa ha=>h.run a (ha.weak hl)⟩
theorem Y1 {ι:Type} {c y:Code} {Q':Exit→Act→World→Prop} (F:ι→World→Prop) (E:ι→Env) (h:∀x w',F x w'→Sx P y Q n (E x) w') (k:(∀x w' e,F x w'→(E x).le e→QX (Exit.then (y.wp P Q) Q') .normal n e w')→Sx P c (Exit.then (y.wp P Q) Q') n e w):Sx P c (Exit.then (y.wp P Q) Q') n e w:=
 k λx w' _ hF hl=>qx_seq (r4 hl (h x w' hF))
end
section
variable {P:Program} {e:Env} {w:World} {o:Oper}
theorem XH {t len cap sz el:Nat} {A:Option Addr} {m:Int} {k:IntKind} {x i:Operand} (ho:o.op=.slice t x (some i) none none) (hx:ev e x=some (.slice A len cap)) (hi:ev e i=some (.int k m)) (ht:DH P t=some (el,sz)) (h0:0≤m∧m≤len) :
 Y P e o w (.slice (if cap=m.toNat then A else A.map (·.add (m.toNat*sz))) (len-m.toNat) (cap-m.toNat)):=λρ h=>by
 unfold DH at ht
 split at ht
 ·rename_i el' hu
  split at ht
  ·rename_i i' hi'
   simp only [Option.some.injEq,Prod.mk.injEq] at ht
   obtain ⟨rfl,rfl⟩:=ht;unfold execOp
   simp [ho,h _ _ hx,h _ _ hi,Instr.sliceAt,Instr.slice,run_underlying hu,Instr.sliceBounds,Instr.sliceBound,asIntOf,h0.1,h0.2,sizeOf,typeInfo,hi']
  ·cases ht
 ·cases ht
end
section
variable {P:Program} {ρ:Operand→Value} {w:World} {o:Oper}
theorem ID (t e size:Nat) (ho:o.op=.buildSlice t 0 #[]) (hu:P.underlying t=some (.slice e)) (hi:(P.info? e).map (·.size)=some size) :
 GB P ρ o w λv w'=>∃g,v=.slice (some ⟨g,0,none⟩) 0 0∧w.heap.size≤g∧g<w'.heap.size∧Blk w' g e []∧Fr0 w w'∧∀base,base≤w.heap.size→w'.ownsRow base e size v 0 []:=by
 cases hq:P.info? e with
 | none=>simp [hq] at hi
 | some i=>
  have hr:(Instr.buildSlice t 0 #[]).run P w=.ok (.slice (some ⟨w.heap.size,0,none⟩) 0 0) (w.alloc (.cells #[] e)):=by
   simp [Instr.buildSlice,run_underlying hu,sizeOf,typeInfo,hq,newRow,Instr.fill]
   rw [show Array.range 0 = #[] from by apply Array.eq_empty_of_size_eq_zero;simp,List.map_toArray,List.map_nil]
  refine ⟨_,w.alloc (.cells #[] e),.inl ?_,w.heap.size,X,Nat.le_refl _,by simp,Blk.new w e [],Fr.refl.alloc _,λbase hb=>IX (gN w e size) hb⟩;unfold execOp;simp only [ho,Sem.run_bind];rw [List.map_toArray,List.map_nil,hr]
  rfl
end
end
section
def str (l:List UInt8):Value:=.string ⟨l.toArray⟩
section
variable {P:Program} {e:Env} {w:World} {o:Oper}
theorem FU {t:Nat} {x:Operand} {l:List UInt8} (ho:o.op=.call { callee:=.builtin .len,args := #[x],argTypes := #[t] }) (hx:ev e x=some (str l)) (ht:P.underlying t=some .string):Y P e o w (.int .i64 (l.length:Int)):=λρ h=>by
 have hs:(ByteArray.mk l.toArray).size=l.length:=by show l.toArray.size=_;simp
 unfold execOp
 simp [ho,h _ _ hx,str,resolve,invoke,builtin,Builtin.len_,run_underlying ht,goInt,hs]
theorem GK {t:Nat} {x i:Operand} {l:List UInt8} {k:IntKind} {m:Nat} {b:UInt8} (ho:o.op=.index t x i) (hx:ev e x=some (str l)) (hi:ev e i=some (.int k (m:Int))) (ht:P.underlying t=some .string) (hb:l[m]?=some b):Y P e o w (.int .u8 (b.toNat:Int)):=λρ h=>by
 have hs:(ByteArray.mk l.toArray)[m]?=some b:=by
  have hl:=(List.getElem?_eq_some_iff.1 hb).1;have he:=(List.getElem?_eq_some_iff.1 hb).2;rw [getElem?_pos (ByteArray.mk l.toArray) m (by show m<l.toArray.size;simpa using hl)]
  congr 1
 unfold execOp
 simp [ho,h _ _ hx,h _ _ hi,str,Instr.index,asIntOf,run_underlying ht,hs]
theorem CX {t t':Nat} {a b:List UInt8} {x y:Operand} (ho:o.op=.binOp .eql t x y t') (hx:ev e x=some (str a)) (hy:ev e y=some (str b)):Y P e o w (.bool (decide (a=b))):=λρ h=>by
 have h1:ρ x=.string ⟨a.toArray⟩:=h _ _ hx;have h2:ρ y=.string ⟨b.toArray⟩:=h _ _ hy;unfold execOp
 simp [ho,h1,h2,eqGuard_at_string,binOp,Op.stringOp]
 by_cases hab:a=b
 ·subst hab;simp
 ·simp [hab]
end
end
section
def CA : List (List UInt8 × Value)→List UInt8→Option Value
 | [],_=>none
 | (k',v)::r,k=>if k=k' then some v else CA r k
def D2 : List (List UInt8 × Value)→List UInt8→Value→List (List UInt8 × Value)
 | [],k,v=>[(k,v)]
 | (k',v')::r,k,v=>if k=k' then (k,v)::r else (k',v')::D2 r k v
theorem EL (k k':List UInt8) (v:Value):∀L,CA (D2 L k v) k'=if k'=k then some v else CA L k'
 | []=>by simp [D2,CA]
 | (k1,v1)::r=>by
  unfold D2
  by_cases h:k=k1
  ·subst h;rw [if_pos rfl];unfold CA;by_cases h2:k'=k<;>simp [h2]
  ·rw [if_neg h];unfold CA
   by_cases h2:k'=k1
   ·subst h2;rw [if_pos rfl,if_pos rfl,if_neg (λe=>h e.symm)]
   ·rw [if_neg h2,if_neg h2];exact EL k k' v r
def Mp (w:World) (g:Nat) (L:List (List UInt8 × Value)):Prop:=∃(es:Array MapEntry) (clock:Nat),w.heap[g]?=some (.map es clock)∧es.toList.map (λe=>(e.key,e.val))=L.map λp=>(str p.1,p.2)
theorem Mp.lt {w:World} {g:Nat} {L:List (List UInt8 × Value)} (h:Mp w g L):g<w.heap.size:=by
 obtain ⟨es,cl,h,_⟩:=h;exact (Array.getElem?_eq_some_iff.1 h).1
theorem Mp.fr {S:Nat→Prop} {w w':World} {g:Nat} {L:List (List UInt8 × Value)} (h:Mp w g L) (hf:Fr S w w') (hn:¬S g):Mp w' g L:=by
 obtain ⟨es,cl,h1,h2⟩:=h;exact ⟨es,cl,(hf.block g (Array.getElem?_eq_some_iff.1 h1).1 hn).trans h1,h2⟩
theorem WG (a b:List UInt8):((⟨a.toArray⟩:ByteArray)==⟨b.toArray⟩)=decide (a=b):=by
 have h1:((⟨a.toArray⟩:ByteArray)==⟨b.toArray⟩)=(a.toArray==b.toArray):=X;rw [h1];by_cases h:a=b<;>simp [h]
theorem lO (a b:List UInt8):Instr.sameNow .string (str a) (str b)=some (decide (a=b)):=by
 unfold str;simp only [Instr.sameNow,WG]
section
variable {P:Program} {e:Env} {w:World} {o:Oper}
theorem PN (k:List UInt8):∀(L:List (List UInt8 × Value)) (es:List MapEntry) (i:Nat),es.map (λe=>(e.key,e.val))=L.map (λp=>(str p.1,p.2)) →
 (CA L k=none∧Instr.findNow .string (str k) es i=some none∧D2 L k=λv=>L++[(k,v)]) ∨
 ∃j v,CA L k=some v∧Instr.findNow .string (str k) es i=some (some (i+j,v))∧j<L.length∧(L[j]?).map (·.1)=some k∧D2 L k=λv=>L.set j (k,v)
 | [],es,i,h=>by
  obtain rfl:es=[]:=by simpa using h
  exact .inl ⟨X,X,by funext v;rfl⟩
 | (k',v')::L,[],i,h=>by simp at h
 | (k',v')::L,en::es,i,h=>by
  simp only [List.map_cons,List.cons.injEq,Prod.mk.injEq] at h
  obtain ⟨⟨h1,h2⟩,h3⟩:=h;have hc:Instr.findNow .string (str k) (en::es) i=match Instr.sameNow .string (str k) en.key with|some true=>some (some (i,en.val))|some false=>Instr.findNow .string (str k) es (i+1)|none=>none:=X
  rw [h1,lO] at hc
  by_cases hk:k=k'
  ·subst hk
   right
   refine ⟨0,v',by simp [CA],?_,by simp,by simp,by funext v;simp [D2]⟩;rw [hc];simp [h2]
  ·rcases PN k L es (i+1) h3 with ⟨a1,a2,a3⟩|⟨j,v,a1,a2,a3,a4,a5⟩
   ·left
    refine ⟨by simp [CA,hk,a1],?_,by funext v;simp [D2,hk,a3]⟩;rw [hc];simp [hk,a2]
   ·right
    refine ⟨j+1,v,by simp [CA,hk,a1],?_,by simp;omega,by simpa using a4,by funext v;simp [D2,hk,a5]⟩;rw [hc];simp [hk,a2];omega
theorem GY {kt:TypeId} {k:List UInt8} {es:List MapEntry} {r:Option (Nat × Value)} (hd:P.underlying kt=some .string) (hf:Instr.findNow .string (str k) es 0=some r) (w:World):(Instr.findKey kt (str k) es).run P w=.ok r w:=by
 unfold Instr.findKey
 simp [run_underlying hd,hf]
theorem HJ {kt:TypeId} (hd:P.underlying kt=some .string) (k:List UInt8) (b:Bool) (w:World):(Instr.checkKey b 10000 kt (str k)).run P w=.ok () w:=by
 show (Instr.checkKey b (9999+1) kt _).run P w=_
 unfold Instr.checkKey
 simp [run_underlying hd]
theorem GC {g clock:Nat} {es:Array MapEntry} (hb:w.heap[g]?=some (.map es clock)):(Go.getObj g).run P w=.ok (.map es clock) w:=by
 unfold Go.getObj;simp only [Sem.run,hb]
theorem TS {ρ:Operand→Value} {t:TypeId} (ho:o.op=.makeMap t none):GB P ρ o w λv w'=>v=.map (some w.heap.size)∧w'=w.alloc (.map #[] 0):=by
 refine ⟨_,_,.inl ?_,X,X⟩;unfold execOp
 simp [ho,Instr.makeMap]
theorem wP (w:World):Mp (w.alloc (.map #[] 0)) w.heap.size []:=⟨#[],0,by show (w.heap.push (.map #[] 0))[w.heap.size]?=_;simp,rfl⟩
theorem QJ {ρ:Operand→Value} {t:TypeId} (ho:o.op=.makeMap t none):GB P ρ o w λv w'=>∃g,v=.map (some g)∧w.heap.size≤g∧g<w'.heap.size∧Mp w' g []∧Fr0 w w':=
 (TS ho).mono λv w' ⟨h1,h2⟩=>by
  subst h2;exact ⟨w.heap.size,h1,Nat.le_refl _,by simp,wP w,Fr.refl.alloc _⟩
theorem OR {t kt el:TypeId} {x i:Operand} {ok:Bool} {g:Nat} {k:List UInt8} {L:List (List UInt8 × Value)} {z:Value} (ho:o.op=.lookup t x i ok) (hx:ev e x=some (.map (some g))) (hi:ev e i=some (str k)) (hu:P.underlying t=some (.map kt el)) (hd:P.underlying kt=some .string)
 (hz:(P.info? el).map (·.zero)=some (some z)) (hM:Mp w g L):Y P e o w (if ok then .tuple #[(CA L k).getD z,.bool (CA L k).isSome] else (CA L k).getD z):=λρ h=>by
 obtain ⟨es,clock,hb,hes⟩:=hM;obtain ⟨inf,hinf,hinz⟩:=Option.map_eq_some_iff.1 hz;have h1:ρ x=.map (some g):=h _ _ hx;have h2:ρ i=str k:=h _ _ hi;unfold execOp;simp only [ho,h1,h2];unfold Instr.lookup;simp only [Sem.run_bind,run_underlying hu,Result.andThen_ok,Sem.run_pure,GC hb,HJ hd];rcases PN k L es.toList 0 hes with ⟨a1,a2,_⟩|⟨j,v,a1,a2,_,_,_⟩
 ·simp only [GY hd a2,a1]
  cases ok<;>simp [zeroValue,typeInfo,hinf,hinz]
 ·simp only [GY hd a2,a1]
  cases ok<;>simp
theorem R7 {ρ:Operand→Value} {t kt el:TypeId} {mp i x:Operand} {g:Nat} {k:List UInt8} {v:Value} {L:List (List UInt8 × Value)} (ho:o.op=.mapUpdate t mp i x∨o.op=.insert t mp i x) (hm:ρ mp=.map (some g)) (hi:ρ i=str k) (hx:ρ x=v) (hu:P.underlying t=some (.map kt el)) (hd:P.underlying kt=some .string)
 (hM:Mp w g L):GB P ρ o w λu w'=>u=undef∧Fr (λb=>b=g) w w'∧Mp w' g (D2 L k v):=by
 obtain ⟨es,clock,hb,hes⟩:=hM;have hlt:g<w.heap.size:=(Array.getElem?_eq_some_iff.1 hb).1
 have fin:∀(es':Array MapEntry) (clock':Nat),(Instr.mapUpdate t (.map (some g)) (str k) v).run P w=.ok () { w with heap:=w.heap.setIfInBounds g (.map es' clock') }→es'.toList.map (λe=>(e.key,e.val))=(D2 L k v).map (λp=>(str p.1,p.2)) →
  GB P ρ o w λu w'=>u=undef∧Fr (λb=>b=g) w w'∧Mp w' g (D2 L k v):=λes' clock' hrun hes'=>by
  refine ⟨undef,{ w with heap:=w.heap.setIfInBounds g (.map es' clock') },.inr ⟨?_,X⟩,X,⟨X,X,X,by simp,λr _ hn=>by simp [Array.getElem?_setIfInBounds_ne (Ne.symm hn)]⟩,es',clock',by simp [hlt],hes'⟩;rcases ho with ho|ho<;>(unfold execOp;simp only [ho,hm,hi,hx,Sem.run_bind,hrun,Result.andThen_ok];rfl)
 have hbits:Instr.sameBits 10000 (str k) (str k)=true:=by
  unfold str
  simp [Instr.sameBits,WG]
 rcases PN k L es.toList 0 hes with ⟨a1,a2,a3⟩|⟨j,v0,a1,a2,a3,a4,a5⟩
 ·refine fin (es.push { key:=str k,val:=v,born:=clock }) (clock+1) ?_ (by rw [a3];simp [hes]);unfold Instr.mapUpdate;simp only [Sem.run_bind,run_underlying hu,Result.andThen_ok,GC hb,HJ hd,GY hd a2];unfold setObj;simp only [Sem.run,hb]
 ·rw [Nat.zero_add] at a2
  have hlen:es.toList.length=L.length:=by have:=congrArg List.length hes;simpa using this
  obtain ⟨en,hen⟩:∃en,es[j]?=some en:=⟨_,Array.getElem?_eq_getElem (by simp at hlen;omega)⟩
  have hkey:en.key=str k:=by
   have h1:=congrArg (·[j]?) hes;simp only [List.getElem?_map] at h1
   have h2:es.toList[j]?=some en:=by simpa using hen
   rw [h2] at h1
   cases hL:L[j]? with
   | none=>rw [hL] at h1;cases h1
   | some p=>
    rw [hL] at h1 a4
    simp only [Option.map_some,Option.some.injEq,Prod.mk.injEq] at h1 a4
    rw [h1.1,a4]
  refine fin (es.modify j λe=>{ e with key:=str k,val:=v }) clock ?_ ?_
  ·have hold:((es[j]?).map (·.key)).getD (str k)=str k:=by rw [hen];exact hkey
   unfold Instr.mapUpdate;simp only [Sem.run_bind,run_underlying hu,Result.andThen_ok,GC hb,HJ hd,GY hd a2,hold,Instr.keyThatStays,hbits,if_true,Sem.run_pure];unfold setObj;simp only [Sem.run,hb]
  ·rw [a5]
   apply List.ext_getElem?
   intro i;have h1:=congrArg (·[i]?) hes;simp only [List.getElem?_map] at h1
   rw [Array.toList_modify,List.getElem?_map,List.getElem?_modify,List.getElem?_map,List.getElem?_set]
   by_cases hij:j=i
   ·subst hij
    simp [hen,a3]
   ·simp [hij]
    simpa using h1
theorem FD {ρ:Operand→Value} {t kt el:TypeId} {mp i x:Operand} {g:Nat} {k:List UInt8} {v:Value} {L:List (List UInt8 × Value)} (ho:o.op=.mapUpdate t mp i x) (hm:ρ mp=.map (some g)) (hi:ρ i=str k) (hx:ρ x=v) (hu:P.underlying t=some (.map kt el)) (hd:P.underlying kt=some .string)
 (hM:Mp w g L):GB P ρ o w λu w'=>u=undef∧Fr (λb=>b=g) w w'∧Mp w' g (D2 L k v):=R7 (.inl ho) hm hi hx hu hd hM
theorem ZJ {ρ:Operand→Value} {t kt el:TypeId} {mp i x:Operand} {g:Nat} {k:List UInt8} {v:Value} {L:List (List UInt8 × Value)} (ho:o.op=.insert t mp i x) (hm:ρ mp=.map (some g)) (hi:ρ i=str k) (hx:ρ x=v) (hu:P.underlying t=some (.map kt el)) (hd:P.underlying kt=some .string)
 (hM:Mp w g L):GB P ρ o w λu w'=>u=undef∧Fr (λb=>b=g) w w'∧Mp w' g (D2 L k v):=R7 (.inr ho) hm hi hx hu hd hM
end
end
section
structure As where
 fp:List Nat
 ok:World→Prop
 keep:∀{w w':World},(∀g∈fp,g<w.heap.size→w'.heap[g]?=w.heap[g]?)→ok w→ok w'
def As.blk (g:Nat) (t:TypeId) (cs:List Value):As:=⟨[g],λw=>Blk w g t cs,λh hb=>(h g (by simp) hb.lt).trans hb⟩
def As.mp (g:Nat) (M:List (List UInt8 × Value)):As:=⟨[g],λw=>Mp w g M,λh hb=>by
 obtain ⟨es,cl,h1,h2⟩:=hb;exact ⟨es,cl,(h g (by simp) (Array.getElem?_eq_some_iff.1 h1).1).trans h1,h2⟩⟩
def As.own (base:Nat) (e:TypeId) (size:Nat) (v:Value) (n:Nat) (xs:List Value):As:=⟨v.ownBlock.toList,λw=>w.ownsRow base e size v n xs,λh hb=>by
 refine ⟨hb.1,?_⟩;rcases hb.2 with hh|⟨g,cap,cur,rfl,hb,hg,r⟩
 ·exact .inl hh
 ·exact .inr ⟨g,cap,cur,X,hb,(h g (by simp [Value.ownBlock]) (Array.getElem?_eq_some_iff.1 hg).1).trans hg,r⟩⟩
def As.none : As:=⟨[],λ_=>True,λ_ _=>trivial⟩
structure Mem (w0:World) (S:Nat→Prop) (L:List As) (w:World):Prop where
 fr:Fr S w0 w
 ok:∀(i:Nat) (a:As),L[i]?=some a→a.ok w
 lt:∀(i:Nat) (a:As),L[i]?=some a→∀g∈a.fp,g<w.heap.size∧(w0.heap.size≤g∨S g)
 apart:∀(i j:Nat) (a b:As),L[i]?=some a→L[j]?=some b→i≠j→∀g∈a.fp,g∉b.fp
namespace Mem
variable {w0 w w':World} {S:Nat→Prop} {L:List As}
theorem nil (w:World):Mem w S [] w:=⟨Fr.refl,by simp,by simp,by simp⟩
theorem ofFr (h:Fr S w0 w):Mem w0 S [] w:=⟨h,by simp,by simp,by simp⟩
theorem step (M:Mem w0 S L w) (hf:Fr0 w w'):Mem w0 S L w' where
 fr:=M.fr.then0 hf
 ok i a hi:=a.keep (λg _ hg=>hf.block g hg (λhh=>hh)) (M.ok i a hi)
 lt i a hi g hg:=by
  obtain ⟨h1,h2⟩:=M.lt i a hi g hg;exact ⟨Nat.lt_of_lt_of_le h1 hf.size,h2⟩
 apart:=M.apart
theorem drew (M:Mem w0 S L w):Mem w0 S L w.drew:=M.step (Fr.drew Fr.refl)
theorem push (M:Mem w0 S L w) (hf:Fr0 w w') (a:As) (hok:a.ok w') (hfp:∀g∈a.fp,w.heap.size≤g∧g<w'.heap.size):Mem w0 S (a::L) w':=by
 have M':=M.step hf;refine ⟨M'.fr,?_,?_,?_⟩
 ·intro i b hi
  cases i with
  | zero=>simp only [List.getElem?_cons_zero,Option.some.injEq] at hi;subst hi;exact hok
  | succ i=>exact M'.ok i b (by simpa using hi)
 ·intro i b hi g hg
  cases i with
  | zero=>
   simp only [List.getElem?_cons_zero,Option.some.injEq] at hi;subst hi
   obtain ⟨h1,h2⟩:=hfp g hg;exact ⟨h2,.inl (Nat.le_trans M.fr.size h1)⟩
  | succ i=>exact M'.lt i b (by simpa using hi) g hg
 ·intro i j b c hi hj hne g hg hg'
  cases i with
  | zero=>
   cases j with
   | zero=>exact hne rfl
   | succ j=>
    simp only [List.getElem?_cons_zero,Option.some.injEq] at hi;subst hi
    have h1:=(hfp g hg).1;have h2:=(M.lt j c (by simpa using hj) g hg').1;omega
  | succ i=>
   cases j with
   | zero=>
    simp only [List.getElem?_cons_zero,Option.some.injEq] at hj;subst hj
    have h1:=(hfp g hg').1;have h2:=(M.lt i b (by simpa using hi) g hg).1;omega
   | succ j=>exact M.apart i j b c (by simpa using hi) (by simpa using hj) (by omega) g hg hg'
theorem upd (M:Mem w0 S L w) (i:Nat) {a:As} (hi:L[i]?=some a) (hf:Fr (λk=>k∈a.fp) w w') (a':As) (hok:a'.ok w') (hfp:∀g∈a'.fp,g∈a.fp∨(w.heap.size≤g∧g<w'.heap.size)):Mem w0 S (L.set i a') w':=by
 have hl:i<L.length:=(List.getElem?_eq_some_iff.1 hi).1
 have get:∀(j:Nat) (b:As),(L.set i a')[j]?=some b→(j=i∧b=a')∨(j≠i∧L[j]?=some b):=by
  intro j b hj
  by_cases hji:j=i
  ·subst hji;rw [List.getElem?_set_self hl] at hj
   exact .inl ⟨X,(Option.some.inj hj).symm⟩
  ·rw [List.getElem?_set_ne (Ne.symm hji)] at hj
   exact .inr ⟨hji,hj⟩
 refine ⟨M.fr.step hf (λk hk hm=>?_),?_,?_,?_⟩
 ·rcases (M.lt i a hi k hm).2 with h|h
  ·omega
  ·exact h
 ·intro j b hj;rcases get j b hj with ⟨_,rfl⟩|⟨hne,hj'⟩
  ·exact hok
  ·exact b.keep (λg hg hlt=>hf.block g hlt (λhm=>M.apart i j a b hi hj' (Ne.symm hne) g hm hg)) (M.ok j b hj')
 ·intro j b hj g hg;rcases get j b hj with ⟨_,rfl⟩|⟨hne,hj'⟩
  ·rcases hfp g hg with h|⟨h1,h2⟩
   ·obtain ⟨h1,h2⟩:=M.lt i a hi g h;exact ⟨Nat.lt_of_lt_of_le h1 hf.size,h2⟩
   ·exact ⟨h2,.inl (Nat.le_trans M.fr.size h1)⟩
  ·obtain ⟨h1,h2⟩:=M.lt j b hj' g hg;exact ⟨Nat.lt_of_lt_of_le h1 hf.size,h2⟩
 ·intro j k b c hj hk hne g hg hg';rcases get j b hj with ⟨rfl,rfl⟩|⟨hji,hj'⟩
  ·rcases get k c hk with ⟨rfl,rfl⟩|⟨hki,hk'⟩
   ·exact hne X
   ·rcases hfp g hg with h|⟨h1,_⟩
    ·exact M.apart j k a c hi hk' hne g h hg'
    ·have:=(M.lt k c hk' g hg').1;omega
  ·rcases get k c hk with ⟨rfl,rfl⟩|⟨hki,hk'⟩
   ·rcases hfp g hg' with h|⟨h1,_⟩
    ·exact M.apart k j a b hi hj' (Ne.symm hne) g h hg
    ·have:=(M.lt j b hj' g hg).1;omega
   ·exact M.apart j k b c hj' hk' hne g hg hg'
theorem drop (M:Mem w0 S L w) (n:Nat):Mem w0 S (L.drop n) w:=by
 refine ⟨M.fr,?_,?_,?_⟩
 ·intro i a hi;rw [List.getElem?_drop] at hi;exact M.ok _ a hi
 ·intro i a hi;rw [List.getElem?_drop] at hi;exact M.lt _ a hi
 ·intro i j a b hi hj hne;rw [List.getElem?_drop] at hi hj;exact M.apart _ _ a b hi hj (by omega)
theorem pick (M:Mem w0 S L w) (f:List Nat) (hf:f.Nodup):Mem w0 S (f.map λi=>(L[i]?).getD As.none) w:=by
 have get:∀(i:Nat) (a:As),(f.map λi=>(L[i]?).getD As.none)[i]?=some a→(∃k:Nat,f[i]?=some k∧L[k]?=some a)∨a=As.none:=by
  intro i a h;rw [List.getElem?_map] at h
  cases hk:f[i]? with
  | none=>rw [hk] at h;cases h
  | some k=>
   rw [hk] at h
   simp only [Option.map_some,Option.some.injEq] at h
   cases hl:L[k]? with
   | none=>rw [hl] at h;exact .inr h.symm
   | some b=>rw [hl] at h;simp only [Option.getD_some] at h;subst h;exact .inl ⟨k,rfl,hl⟩
 refine ⟨M.fr,?_,?_,?_⟩
 ·intro i a hi;rcases get i a hi with ⟨k,_,h⟩|rfl
  ·exact M.ok k a h
  ·trivial
 ·intro i a hi g hg;rcases get i a hi with ⟨k,_,h⟩|rfl
  ·exact M.lt k a h g hg
  ·simp [As.none] at hg
 ·intro i j a b hi hj hne g hg hg';rcases get i a hi with ⟨k,h1,h⟩|rfl
  ·rcases get j b hj with ⟨k',h1',h'⟩|rfl
   ·have:k≠k':=by
     rintro rfl;obtain ⟨l1,e1⟩:=List.getElem?_eq_some_iff.1 h1;obtain ⟨l2,e2⟩:=List.getElem?_eq_some_iff.1 h1';exact hne ((List.getElem_inj hf).1 (e1.trans e2.symm))
    exact M.apart k k' a b h h' this g hg hg'
   ·simp [As.none] at hg'
  ·simp [As.none] at hg
theorem cell (M:Mem w0 S L w) (i:Nat) {g t off:Nat} {cs:List Value} {u:Value} (hi:L[i]?=some (As.blk g t cs)) (hu:cs[off]?=some u):Cell w.heap g off u:=
 Blk.c (M.ok i _ hi:Blk w g t cs) off hu
theorem blk (M:Mem w0 S L w) (i:Nat) {g t:Nat} {cs:List Value} (hi:L[i]?=some (As.blk g t cs)):Blk w g t cs:=M.ok i _ hi
theorem mp (M:Mem w0 S L w) (i:Nat) {g:Nat} {K:List (List UInt8 × Value)} (hi:L[i]?=some (As.mp g K)):Mp w g K:=M.ok i _ hi
theorem own (M:Mem w0 S L w) (i:Nat) {base e size n:Nat} {v:Value} {xs:List Value} (hi:L[i]?=some (As.own base e size v n xs)):w.ownsRow base e size v n xs:=M.ok i _ hi
theorem rd (M:Mem w0 AR L w) {A:Option Addr} {n:Nat} {xs:List Value} (h:Rd w0 A n xs):Rd w A n xs:=h.fr0 M.fr
end Mem
theorem sT (w:World):Mem w AR [] w:=Mem.nil w
abbrev ni (n:Nat):Value:=.int .i64 (n:Int)
abbrev pg (g:Nat):Value:=.pointer (some ⟨g,0,none⟩)
abbrev AC (n:Int):Value:=.int .i64 n
abbrev BI (w:World) (v:Value) (e:Ending) (w':World):Prop:=e=.returned v∧Fr0 w w'
theorem Mem.pk {w0 w:World} {S:Nat→Prop} {L:List As} (M:Mem w0 S L w) (f:List Nat) (hf:f.Nodup:=by decide):Mem w0 S (f.map λi=>(L[i]?).getD As.none) w:=M.pick f hf
theorem LZ {P:Program} {Q:Exit→Act→World→Prop} {n:Nat} {e:Env} {w w0:World} {S:Nat→Prop} {L:List As} {ops:Array Oper} {o:Oper} {rest:List Oper} {f:FuncId} {args:Array Value} {v:Value} (M:Mem w0 S L w) (d:Nat) (hd:(o.guard,o.dst,JC n (some d))=(none,some d,true)) (hy:YC P e o w f args) (hc:Calls P f args w λx w'=>x=.returned v∧Fr0 w w') (k:∀w',Mem w0 S L w'→SxL P ops Q n rest ((d,v)::e) w'):SxL P ops Q n (o::rest) e w:=by
 simp only [Prod.mk.injEq] at hd
 refine sxl_call (some d) (wn_none hd.1) hd.2.1 hd.2.2 hy hc ?_;rintro _ w' ⟨rfl,hf⟩;exact ⟨_,X,k w' (M.step hf)⟩
theorem cl {P:Program} {Q:Exit→Act→World→Prop} {n:Nat} {e:Env} {w:World} {ops:Array Oper} {o:Oper} {rest:List Oper} {f:FuncId} {args:Array Value} {R:Ending→World→Prop} (d:Nat) (hd:(o.guard,o.dst,JC n (some d))=(none,some d,true)) (hy:YC P e o w f args) (hc:Calls P f args w R) (k:∀x w',R x w'→∃v,x=.returned v∧SxL P ops Q n rest (e.ins (some d) v) w'):SxL P ops Q n (o::rest) e w:=by
 simp only [Prod.mk.injEq] at hd
 exact sxl_call (some d) (wn_none hd.1) hd.2.1 hd.2.2 hy hc k
theorem FP {x:Value} {s:Nat} (h:x.cells.size=s):∀v∈[x],v.cells.size=s:=λv hv=>by
 rw [List.mem_singleton.1 hv];exact h
section
variable {P:Program} {Q:Exit→Act→World→Prop} {n:Nat} {e:Env} {w w0:World} {S:Nat→Prop} {L:List As} {ops:Array Oper} {o:Oper} {rest:List Oper}
theorem EI (M:Mem w0 S L w) {d:Nat} (hw:Wn ops e o) (hd:o.dst=some d) (hn:Nat.blt d n=true) (t:TypeId) (ho:o.op=.alloc t) {z:Value} (zs:List Value) (hz:(P.info? t).map (·.zero)=some (some z)) (hc:z.cells=zs.toArray)
 (k:∀g w',w.heap.size≤g→Mem w0 S (As.blk g t zs::L) w'→SxL P ops Q n rest ((d,.pointer (some ⟨g,0,none⟩))::e) w'):SxL P ops Q n (o::rest) e w:=by
 refine sxl_does (some d) hw hd hn (λρ hρ=>C7 t ho z zs hz hc) ?_;rintro _ w1 ⟨g,rfl,h1,h2,hb,hf⟩;exact k g w1 h1 (M.push hf _ hb (λg' hg'=>by simp only [As.blk,List.mem_singleton] at hg';subst hg';exact ⟨h1,h2⟩))
theorem D6 (M:Mem w0 S L w) {d:Nat} (hw:Wn ops e o) (hd:o.dst=some d) (hn:Nat.blt d n=true) (t:TypeId) {x:Operand} (ho:o.op=.box t x) {v:Value} (hx:ev e x=some v) (cs:List Value) (hc:v.cells=cs.toArray)
 (k:∀g w',w.heap.size≤g→Mem w0 S (As.blk g t cs::L) w'→SxL P ops Q n rest ((d,.pointer (some ⟨g,0,none⟩))::e) w'):SxL P ops Q n (o::rest) e w:=by
 refine sxl_does (some d) hw hd hn (λρ hρ=>KR t x ho cs (by rw [hρ _ _ hx];exact hc)) ?_;rintro _ w1 ⟨g,rfl,h1,h2,hb,hf⟩;exact k g w1 h1 (M.push hf _ hb (λg' hg'=>by simp only [As.blk,List.mem_singleton] at hg';subst hg';exact ⟨h1,h2⟩))
theorem bX {g:Nat} {t:TypeId} {cs:List Value} {w w':World} (h:Fr (λk=>k=g) w w'):Fr (λk=>k∈(As.blk g t cs).fp) w w':=h.mono λk _ e=>by simp only [As.blk,List.mem_singleton];exact e
theorem E7 (M:Mem w0 S L w) (i:Nat) (hw:Wn ops e o) (hd:o.dst=none) {ty g off t:Nat} {x y:Operand} {cs cs':List Value} {v:Value} (ho:o.op=.store ty x y) (hx:ev e x=some (.pointer (some ⟨g,off,none⟩))) (hy:ev e y=some v) (hi:L[i]?=some (As.blk g t cs))
 (hv:v.cells = #[v]) (h1:v.oneCell'=true) (hsz:(P.info? ty).map (·.size)=some 1) (hl:off<cs.length) (hcs:cs.set off v=cs')
 (k:∀w',Mem w0 S (L.set i (As.blk g t cs')) w'→SxL P ops Q n rest e w'):SxL P ops Q n (o::rest) e w:=by
 refine sxl_does none hw hd X (λρ hρ=>CU ty x y ho g off t cs v (hρ _ _ hx) (hρ _ _ hy) hv (M.blk i hi) hsz hl h1) ?_;rintro _ w1 ⟨rfl,hb,hf⟩;subst hcs;exact k w1 (M.upd i hi (bX hf) (As.blk g t _) hb (λg' hg'=>.inl hg'))
theorem XY (M:Mem w0 S L w) (i:Nat) (hw:Wn ops e o) (hd:o.dst=none) {ty g off t m:Nat} {x y:Operand} {cs cs' new:List Value} (ho:o.op=.store ty x y) (hx:ev e x=some (.pointer (some ⟨g,off,none⟩))) (hy:ev e y=some (.agg new.toArray)) (hi:L[i]?=some (As.blk g t cs))
 (hsz:(P.info? ty).map (·.size)=some m) (hm:new.length=m) (hl:off+m≤cs.length) (h1:∀u∈new,u.oneCell'=true) (hcs:put cs off new=cs')
 (k:∀w',Mem w0 S (L.set i (As.blk g t cs')) w'→SxL P ops Q n rest e w'):SxL P ops Q n (o::rest) e w:=by
 subst hm;refine sxl_does none hw hd X (λρ hρ=>BO ty x y ho g off t cs new (hρ _ _ hx) (hρ _ _ hy) (M.blk i hi) hsz hl h1) ?_;rintro _ w1 ⟨rfl,hb,hf⟩;subst hcs;exact k w1 (M.upd i hi (bX hf) (As.blk g t _) hb (λg' hg'=>.inl hg'))
theorem I5 (M:Mem w0 S L w) {d t:Nat} (hw:Wn ops e o) (hd:o.dst=some d) (hn:Nat.blt d n=true) (ho:o.op=.makeMap t none)
 (k:∀g w',w.heap.size≤g→Mem w0 S (As.mp g []::L) w'→SxL P ops Q n rest ((d,.map (some g))::e) w'):SxL P ops Q n (o::rest) e w:=by
 refine sxl_does (some d) hw hd hn (λρ hρ=>QJ ho) ?_;rintro _ w1 ⟨g,rfl,h1,h2,hb,hf⟩;exact k g w1 h1 (M.push hf _ hb (λg' hg'=>by simp only [As.mp,List.mem_singleton] at hg';subst hg';exact ⟨h1,h2⟩))
theorem FH (M:Mem w0 S L w) (i:Nat) (hw:Wn ops e o) (hd:o.dst=none) {t kt el g:Nat} {mp ix x:Operand} {key:List UInt8} {v:Value} {K:List (List UInt8 × Value)} (ho:o.op=.mapUpdate t mp ix x) (hm:ev e mp=some (.map (some g))) (hx:ev e ix=some (str key)) (hv:ev e x=some v) (hu:P.underlying t=some (.map kt el)) (hk:P.underlying kt=some .string)
 (hi:L[i]?=some (As.mp g K)) (k:∀w',Mem w0 S (L.set i (As.mp g (D2 K key v))) w'→SxL P ops Q n rest e w'):SxL P ops Q n (o::rest) e w:=by
 refine sxl_does none hw hd X (λρ hρ=>FD ho (hρ _ _ hm) (hρ _ _ hx) (hρ _ _ hv) hu hk (M.mp i hi)) ?_;rintro _ w1 ⟨rfl,hf,hb⟩;exact k w1 (M.upd i hi (hf.mono λk _ e=>by simp only [As.mp,List.mem_singleton];exact e) (As.mp g _) hb (λg' hg'=>.inl hg'))
theorem DY (M:Mem w0 S L w) (i:Nat) (hw:Wn ops e o) (hd:o.dst=none) {t kt el g:Nat} {mp ix x:Operand} {key:List UInt8} {v:Value} {K:List (List UInt8 × Value)} (ho:o.op=.insert t mp ix x) (hm:ev e mp=some (.map (some g))) (hx:ev e ix=some (str key)) (hv:ev e x=some v) (hu:P.underlying t=some (.map kt el)) (hk:P.underlying kt=some .string)
 (hi:L[i]?=some (As.mp g K)) (k:∀w',Mem w0 S (L.set i (As.mp g (D2 K key v))) w'→SxL P ops Q n rest e w'):SxL P ops Q n (o::rest) e w:=by
 refine sxl_does none hw hd X (λρ hρ=>ZJ ho (hρ _ _ hm) (hρ _ _ hx) (hρ _ _ hv) hu hk (M.mp i hi)) ?_;rintro _ w1 ⟨rfl,hf,hb⟩;exact k w1 (M.upd i hi (hf.mono λk _ e=>by simp only [As.mp,List.mem_singleton];exact e) (As.mp g _) hb (λg' hg'=>.inl hg'))
theorem AF {c:Operand} {x y:Code} {b:Bool} (hc:ev e c=some (.bool b)) (h1:b=true→Sx P x Q n e w) (h2:b=false→Sx P y Q n e w):Sx P (Code.cond c x y) Q n e w:=by
 cases b
 ·exact sx_false hc (h2 X)
 ·exact sx_true hc (h1 X)
end
end
section
section
variable {α:Type}
def All (m:Nat) (l:List (List α)):Prop:=∀x∈l,x.length=m
theorem All.nil {m:Nat}:All m ([]:List (List α)):=λ_ h=>by cases h
theorem All.tail {m:Nat} {x:List α} {l:List (List α)} (h:All m (x::l)):All m l:=λy hy=>h y (List.mem_cons_of_mem _ hy)
theorem All.head {m:Nat} {x:List α} {l:List (List α)} (h:All m (x::l)):x.length=m:=h x List.mem_cons_self
theorem MW {m:Nat} {l:List (List α)} (h:All m l):l.flatten.length=l.length*m:=by
 induction l with
 | nil=>simp
 | cons x l ih=>rw [List.flatten_cons,List.length_append,ih h.tail,h.head,List.length_cons,Nat.add_mul];omega
theorem X1 {m:Nat} {l:List (List α)} (h:All m l) {i:Nat} {x:List α} (hx:l[i]?=some x):(l.flatten.drop (i*m)).take m=x:=by
 induction l generalizing i with
 | nil=>simp at hx
 | cons y l ih=>
  cases i with
  | zero=>
   simp only [List.getElem?_cons_zero,Option.some.injEq] at hx
   subst hx;rw [Nat.zero_mul,List.drop_zero,List.flatten_cons];exact List.take_left' h.head
  | succ i=>
   rw [List.flatten_cons,show (i+1)*m=y.length+i*m from by rw [h.head,Nat.add_mul];omega,←List.drop_drop,List.drop_left];exact ih h.tail (by simpa using hx)
end
end
section
section
variable {P:Program} {e:Env} {w:World} {o:Oper}
theorem pY {t:Nat} {x i:Operand} {l:List UInt8} {k:IntKind} {a:Nat} (ho:o.op=.slice t x (some i) none none) (hx:ev e x=some (str l)) (hi:ev e i=some (.int k (a:Int))) (ht:P.underlying t=some .string) (ha:a≤l.length):Y P e o w (str (l.drop a)):=λρ h=>by
 have hs:(ByteArray.mk l.toArray).size=l.length:=by show l.toArray.size=_;simp
 have hd:(l.drop a).take (l.length-a)=l.drop a:=List.take_of_length_le (by rw [List.length_drop];omega);unfold execOp
 simp [ho,h _ _ hx,h _ _ hi,str,Instr.sliceAt,Instr.slice,run_underlying ht,Instr.sliceBounds,Instr.sliceBound,asIntOf,hs,ha,Lib.extract_eq,hd]
theorem GT {t t':Nat} {a b:List UInt8} {x y:Operand} (ho:o.op=.binOp .neq t x y t') (hx:ev e x=some (str a)) (hy:ev e y=some (str b)):Y P e o w (.bool (!decide (a=b))):=λρ h=>by
 have h1:ρ x=.string ⟨a.toArray⟩:=h _ _ hx;have h2:ρ y=.string ⟨b.toArray⟩:=h _ _ hy;unfold execOp
 simp [ho,h1,h2,eqGuard_at_string,binOp,Op.stringOp]
 by_cases hab:a=b
 ·subst hab;simp
 ·simp [hab]
end
end
end Go.Proofs.YtaheakjfkpkefaaGreatDoor
