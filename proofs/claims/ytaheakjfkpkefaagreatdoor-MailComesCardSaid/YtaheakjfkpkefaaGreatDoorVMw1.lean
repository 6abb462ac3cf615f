/- Lemmas. -/
import Derived.Test.YtaheakjfkpkefaaGreatDoorVMv11
import Derived.ArgAppend
set_option maxHeartbeats 16000000
set_option maxRecDepth 100000
namespace Go.Proofs.YtaheakjfkpkefaaGreatDoor
open Go.RowKit
open Tryz
theorem cP (m:Md) (gc:Nat) (c:CrA) (F:List Nat) (l:List Bd) (A:Option Addr) (cap:Nat) (w:World) (hC:CourseN w m gc c F) (hok:BdOk l) (hA:Rd w A (l.length*5) (AD Bd.cells l)) (hY:Lay0 w) :
 Calls prog 30 #[pg gc,.slice A l.length cap] w (BI w (.bool (FN l m.vars))):=by
 refine BH func30 ntmps30 X λM=>srg (AJ X (srg ?_))
 iterate 5 refine yb X ?_
 exact yl X X (Blk.c ((hC.fr0 M.fr).blk) 2 X) (CD M 11 X X call57 (tR l m.vars A c.a.V cap c.a.vc _ hok (hA.fr0 M.fr) ((hC.fr0 M.fr).md.md.vars) (hY.fr0 M.fr)) λw1 M=>yb X (gnr (gr1 X ⟨X,M.fr⟩)))
theorem oU (g3:Nat) (id:Int) (t:Tk) (w:World) (hb:Blk w g3 3 [AC id]) :
 Calls prog 25 #[.agg t.cells.toArray,pg g3] w (BI w (.bool (decide (t.id=id)))):=by
 refine BH func25 ntmps25 X λM=>srg (CC M X X λg2 w1 hg2 M=>AJ X (AE X (AU M 0 X X X (yl X X (Blk.c (hb.fr0 M.fr) 0 X) (BZ X X (yb X (sxl_nil ?_)))))))
 exact qx_seq (sx_ret (gr1 X ⟨X,M.fr⟩))
section
section
variable {P:Program} {e:Env} {w:World} {o:Oper} {ρ:Operand→Value}
theorem uI {t len cap sz el:Nat} {A:Option Addr} (k:Nat) {x i:Operand} (ho:o.op=.slice t x none (some i) none) (hx:ev e x=some (.slice A len cap)) (hi:ev e i=some (AC (k:Int))) (ht:DH P t=some (el,sz)) (h:k≤cap):Y P e o w (.slice A k cap):=by
 have:=eZ (w:=w) ho hx hi ht AA
 rwa [Int.toNat_natCast] at this
theorem cE {t len cap sz el g:Nat} (k:Nat) {x i:Operand} (ho:o.op=.slice t x (some i) none none) (hx:ev e x=some (.slice (some ⟨g,0,none⟩) len cap)) (hi:ev e i=some (AC (k:Int))) (ht:DH P t=some (el,sz)) (h:k≤len):Y P e o w (.slice (if cap=k then some ⟨g,0,none⟩ else some ⟨g,0+k*sz,none⟩) (len-k) (cap-k)):=by
 have:=XH (w:=w) ho hx hi ht AA
 rw [Int.toNat_natCast,Option.map_some,Addr.add_mid] at this
 exact this
theorem uJ {t len cap sz el g:Nat} (lo n:Nat) {x i j:Operand} (ho:o.op=.slice t x (some i) (some j) none) (hx:ev e x=some (.slice (some ⟨g,0,none⟩) len cap)) (hi:ev e i=some (AC (lo:Int))) (hj:ev e j=some (AC (n:Int))) (ht:DH P t=some (el,sz)) (h1:lo<n) (h2:n≤cap) :
 Y P e o w (.slice (some ⟨g,0+lo*sz,none⟩) (n-lo) (cap-lo)):=λρ h=>by
 unfold DH at ht
 split at ht
 ·rename_i el' hu
  split at ht
  ·rename_i i' hi'
   simp only [Option.some.injEq,Prod.mk.injEq] at ht
   obtain ⟨rfl,rfl⟩:=ht;have q2:lo≤n:=by omega
   have q4:¬cap=lo:=by omega
   unfold execOp
   simp [ho,h _ _ hx,h _ _ hi,h _ _ hj,Instr.sliceAt,Instr.slice,run_underlying hu,Instr.sliceBounds,Instr.sliceBound,asIntOf,q2,h2,q4,sizeOf,typeInfo,hi',Addr.add_lit]
  ·cases ht
 ·cases ht
theorem yB {t len cap sz el g:Nat} (i n m:Nat) {x a b c:Operand} (ho:o.op=.slice t x (some a) (some b) (some c)) (hx:ev e x=some (.slice (some ⟨g,0,none⟩) len cap)) (ha:ev e a=some (AC (i:Int))) (hb:ev e b=some (AC (n:Int))) (hc:ev e c=some (AC (m:Int))) (ht:DH P t=some (el,sz)) (h1:i≤n) (h2:n≤m) (h3:m≤cap) (h4:i<m) :
 Y P e o w (.slice (some ⟨g,0+i*sz,none⟩) (n-i) (m-i)):=λρ h=>by
 unfold DH at ht
 split at ht
 ·rename_i el' hu
  split at ht
  ·rename_i i' hi'
   simp only [Option.some.injEq,Prod.mk.injEq] at ht
   obtain ⟨rfl,rfl⟩:=ht;have q5:¬m=i:=by omega
   unfold execOp
   simp [ho,h _ _ hx,h _ _ ha,h _ _ hb,h _ _ hc,Instr.sliceAt,Instr.slice,run_underlying hu,Instr.sliceBounds,Instr.sliceBound,asIntOf,h1,h2,h3,q5,sizeOf,typeInfo,hi',Addr.add_lit]
  ·cases ht
 ·cases ht
theorem TT {s x:Operand} {t:TypeId} (ho:o.op=.call { callee:=.builtin .append,args := #[s,x],argTypes := #[t,t] }) {el:TypeId} {size g n cap m c:Nat} {cs news:List Value} {A:Option Addr} (ht:P.underlying t=some (.slice el)) (hi:(P.info? el).map (·.size)=some size)
 (hs:ρ s=.slice (some ⟨g,0,none⟩) n cap) (hb:Blk w g el cs) (hx:ρ x=.slice A m c) (hr:Rd w A (m*size) news) (h1:∀u∈news,u.oneCell'=true) (hroom:n+m≤cap) (hl:n*size+news.length≤cs.length) :
 GB P ρ o w λv w'=>v=.slice (some ⟨g,0,none⟩) (n+m) cap∧Blk w' g el (put cs (n*size) news)∧Fr (λk=>k=g) w w':=by
 have hst:=run_storeCells_at P g (n*size) el news 0 cs.toArray w hb (by simpa using hl) h1;simp only [Nat.add_zero] at hst
 refine ⟨_,w.setRow g (put cs (n*size) news).toArray,.inl ?_,X,setRow_heap w g _ _ el _ hb,NF w g _⟩
 cases hq:P.info? el with
 | none=>simp [hq] at hi
 | some i=>
  have hsz:i.size=size:=by simpa [hq] using hi
  subst hsz
  have hfc:(Builtin.firstCells i.size m (.slice A m c)).run P w=.ok news.toArray w:=by
   rcases A with _|ad
   ·have:news=[]:=by
     rcases Nat.eq_zero_or_pos (m*i.size) with h0|h0
     ·exact List.eq_nil_of_length_eq_zero (by rw [hr.1,h0])
     ·obtain ⟨b,off,h,_⟩:=hr.2 h0;cases h
    subst this;rfl
   ·refine run_firstCells_some (P:=P) w i.size m ad m c news hr.1 (λj u hu=>?_);have hl:0<m*i.size:=by have:=(List.getElem?_eq_some_iff.1 hu).1;rw [hr.1] at this;omega
    obtain ⟨b',off',h,hc⟩:=hr.2 hl
    injection h with h
    subst h;rw [Addr.add_mid];exact hc j u hu
  unfold execOp
  simp [ho,hs,hx,resolve,invoke,builtin,Builtin.append_,run_underlying ht,sizeOf,typeInfo,hq,Builtin.lenOf,hroom,hfc,Addr.add_lit,hst,put]
theorem VO {x:Operand} {t:TypeId} (ho:o.op=.call { callee:=.builtin .clear,args := #[x],argTypes := #[t] }) {el:TypeId} {g off n c:Nat} {cs zs:List Value} {z:Value} (ht:P.underlying t=some (.slice el)) (hi:(P.info? el).map (·.zero)=some (some z)) (hz:z.cells=zs.toArray)
 (hx:ρ x=.slice (some ⟨g,off,none⟩) n c) (hn:n=1) (hb:Blk w g el cs) (h1:∀u∈zs,u.oneCell'=true) (hl:off+zs.length≤cs.length) :
 GB P ρ o w λ_ w'=>Blk w' g el (put cs off zs)∧Fr (λk=>k=g) w w':=by
 subst hn;have hst:=run_storeCells_at P g off el zs 0 cs.toArray w hb (by simpa using hl) h1;simp only [Nat.add_zero] at hst
 refine ⟨.tuple #[],w.setRow g (put cs off zs).toArray,.inl ?_,setRow_heap w g _ _ el _ hb,NF w g _⟩
 cases hq:P.info? el with
 | none=>simp [hq] at hi
 | some i=>
  have hzz:i.zero=some z:=by simpa [hq] using hi
  have hzc:(Builtin.zeroCells z.cells 1).toList=zs:=by
   rw [hz]
   apply List.ext_getElem
   ·simp [Builtin.zeroCells]
   ·intro k h1 h2
    simp [Builtin.zeroCells,Nat.mod_eq_of_lt h2,h2]
  unfold execOp
  simp [ho,hx,resolve,invoke,builtin,Builtin.clear_,run_underlying ht,zeroValue,typeInfo,hq,hzz,hzc,hst,put]
end
theorem dD {w:World} {g n k cap sz:Nat} {t:TypeId} {cs:List Value} (hb:Blk w g t cs) (hl:n*sz≤cs.length) (hk:k≤n) (hn:n≤cap):Rd w (if cap=k then some ⟨g,0,none⟩ else some ⟨g,0+k*sz,none⟩) ((n-k)*sz) ((cs.take (n*sz)).drop (k*sz)):=by
 have hlen:((cs.take (n*sz)).drop (k*sz)).length=(n-k)*sz:=by
  rw [List.length_drop,List.length_take,Nat.min_eq_left hl,Nat.sub_mul]
 refine ⟨hlen,λh0=>?_⟩
 have hck:¬cap=k:=λhh=>by
  have:n-k=0:=by omega
  rw [this,Nat.zero_mul] at h0;omega
 rw [if_neg hck];refine ⟨g,_,X,λj u hu=>?_⟩;rw [List.getElem?_drop] at hu
 have h2:=List.getElem?_take_of_lt (l:=cs) (i:=k*sz+j) (j:=n*sz) (by
  have:=(List.getElem?_eq_some_iff.1 hu).1
  rw [List.length_take] at this;omega)
 rw [h2] at hu
 have:=(hb.c (k*sz+j) hu).get w X
 simpa using this
def ZL (cs zs:List Value) (n i sz:Nat):List Value:=put (put cs (i*sz) ((cs.take (n*sz)).drop ((i+1)*sz))) ((i+(n-(i+1)))*sz) zs
theorem oK {cs zs:List Value} {n i sz:Nat} (hl:n*sz≤cs.length) (hi:i<n) (hz:zs.length=sz):(ZL cs zs n i sz).length=cs.length:=by
 have e1:n*sz=i*sz+sz+(n-(i+1))*sz:=by
  rw [←Nat.add_one_mul,←Nat.add_mul];congr 1;omega
 have e2:(i+(n-(i+1)))*sz=i*sz+(n-(i+1))*sz:=Nat.add_mul _ _ _;have e3:(i+1)*sz=i*sz+sz:=Nat.add_one_mul _ _;have h1:(put cs (i*sz) ((cs.take (n*sz)).drop ((i+1)*sz))).length=cs.length:=J4 _ _ _ (by rw [List.length_drop,List.length_take];omega);unfold ZL;rw [J4 _ _ _ AA,h1]
theorem j4 {α:Type} {cells:α→List Value} {cs zs:List Value} {l:List α} {i sz:Nat} (hk:∀x,(cells x).length=sz) (ht:cs.take (l.length*sz)=AD cells l) (hl:l.length*sz≤cs.length) (hi:i<l.length) (hz:zs.length=sz) :
 (ZL cs zs l.length i sz).take ((i+(l.length-(i+1)))*sz)=AD cells (l.eraseIdx i):=by
 have e1:l.length*sz=i*sz+sz+(l.length-(i+1))*sz:=by
  rw [←Nat.add_one_mul,←Nat.add_mul];congr 1;omega
 have e2:(i+(l.length-(i+1)))*sz=i*sz+(l.length-(i+1))*sz:=Nat.add_mul _ _ _;have e3:(i+1)*sz=i*sz+sz:=Nat.add_one_mul _ _;have hp:(put cs (i*sz) ((cs.take (l.length*sz)).drop ((i+1)*sz))).length=cs.length:=J4 _ _ _ (by rw [List.length_drop,List.length_take];omega)
 have fl:∀k:List α,(AD cells k).length=k.length*sz:=λk=>by
  induction k with
  | nil=>simp [AD]
  | cons x r ih=>rw [show AD cells (x::r)=cells x++AD cells r from rfl,List.length_append,hk,ih,List.length_cons,Nat.add_one_mul,Nat.add_comm]
 have sp:∀k:Nat,k≤l.length→AD cells l=AD cells (l.take k)++AD cells (l.drop k):=λk _=>by
  conv=>lhs;rw [←List.take_append_drop k l]
  rw [B9]
 have f1:(AD cells (l.take i)).length=i*sz:=by rw [fl,List.length_take,Nat.min_eq_left AA]
 have f2:(AD cells (l.take (i+1))).length=(i+1)*sz:=by rw [fl,List.length_take,Nat.min_eq_left AA]
 have hd:(cs.take (l.length*sz)).drop ((i+1)*sz)=AD cells (l.drop (i+1)):=by
  rw [ht,sp (i+1) AA,List.drop_append_of_le_length AA,←f2,List.drop_length,List.nil_append]
 have hti:cs.take (i*sz)=AD cells (l.take i):=by
  have:(cs.take (l.length*sz)).take (i*sz)=cs.take (i*sz):=by rw [List.take_take,Nat.min_eq_left AA]
  rw [←this,ht,sp i AA,List.take_append_of_le_length AA,←f1,List.take_length]
 have f3:(AD cells (l.drop (i+1))).length=(l.length-(i+1))*sz:=by rw [fl,List.length_drop]
 unfold ZL;rw [put,List.take_append_of_le_length (by rw [List.length_take,hp];omega),List.take_take,Nat.min_self,put,hd,hti,List.eraseIdx_eq_take_drop_succ,B9,e2];rw [List.take_append,f1,List.take_of_length_le AA,show i*sz+(l.length-(i+1))*sz-i*sz=(l.length-(i+1))*sz by omega,List.take_append_of_le_length AA,←f3,List.take_length]
theorem dH {α:Type} {cells:α→List Value} {w':World} {zs:List Value} {l:List α} {i sz base g cap:Nat} {t:TypeId} {cur:List Value} (hk:∀x,(cells x).length=sz) (hb:Blk w' g t (ZL cur zs l.length i sz)) (hg:base≤g) (hcap:l.length≤cap) (hm:cap≤maxLen) (hc:cur.length=cap*sz) (ht:cur.take (l.length*sz)=AD cells l) (hi:i<l.length) (hz:zs.length=sz) :
 w'.ownsRow base t sz (.slice (some ⟨g,0,none⟩) (l.eraseIdx i).length cap) (l.eraseIdx i).length (AD cells (l.eraseIdx i)):=by
 have hle:l.length*sz≤cur.length:=by rw [hc];exact Nat.mul_le_mul_right _ hcap
 have hlen:(l.eraseIdx i).length=i+(l.length-(i+1)):=by rw [List.length_eraseIdx_of_lt hi];omega
 have htk:=j4 (zs:=zs) hk ht hle hi hz;have hdl:=oK (zs:=zs) hle hi hz;rw [hlen];refine ⟨?_,.inr ⟨g,cap,(ZL cur zs l.length i sz).toArray,X,hg,hb,by omega,hm,by simp [hdl,hc],by simpa using htk⟩⟩;rw [←htk,List.length_take,hdl];refine Nat.min_eq_left (Nat.le_trans (Nat.mul_le_mul_right _ AA) hle)
end
structure Ar where
 flow:List UInt8
 order:Int
 rests:Int
 at_:List UInt8
 stops:Bool
def Ar.cells (a:Ar):List Value:=[str a.flow,.int .i64 a.order,.int .i64 a.rests,str a.at_,.bool a.stops]
theorem Ar.len (a:Ar):a.cells.length=5:=rfl
theorem Ar.cells_one (a:Ar):∀u∈a.cells,u.oneCell'=true:=CL rfl
theorem Tk.cells_one (t:Tk):∀u∈t.cells,u.oneCell'=true:=CL rfl
theorem FB : (prog.info? 56).map (λi=>(i.zero,i.size,i.bytes))=some (some (.agg #[AC 0,str [],str [],AC 0,AC 0,str [],AC 0,.int .u8 0,AC 0]),9,96):=by kernel_rfl
theorem EP : (prog.info? 139).map (λi=>(i.zero,i.size,i.bytes))=some (some (.agg #[str [],AC 0,AC 0,str [],.bool false]),5,56):=by kernel_rfl
theorem B0 : (prog.info? 139).map (·.size)=some 5:=by kernel_rfl
theorem FL : (prog.info? 139).map (·.zero)=some (some (.agg #[str [],AC 0,AC 0,str [],.bool false])):=by kernel_rfl
theorem eP (A:Option Addr) (c:Nat) (l:List Ar) (w:World) (hl:l.length≤1048576) (hR:Rd w A (l.length*5) (AD Ar.cells l)) :
 Calls prog 97 #[.slice A l.length c] w λe w'=>∃A' c',e=.returned (.slice A' l.length c')∧w'.ownsRow w.heap.size 139 5 (.slice A' l.length c') l.length (AD Ar.cells l)∧Fr0 w w':=by
 refine BH func97 ntmps97 X λM=>srg (AJ X (sx_seq (AE X (ya X (MA X X underlying135) (nq (AF X (λh4=>?_) (λh4=>?_)))))))
 ·refine AE X (gnr (qx_then_ret (gr1 X ?_)));obtain rfl:=PA hR B3 h4;exact ⟨none,0,X,World.ownsRow_nil _ _ _ _,M.fr⟩
 ·refine sx_skip (qx_seq (srg (sxl_does (some 5) (wn_none X) X X (λρ hρ=>ID 135 139 5 X underlying135 B0) ?_)));rintro _ w1 ⟨g5,rfl,hg5,_,_,hfw1,ho5⟩;have M:=M.pushOwn hfw1 (Nat.le_refl _) (ho5 _ (Nat.le_refl _));exact yb X (DE (len':=l.length) (xs':=AD Ar.cells l) M 0 (wn_none X) X X X X X X (hR.fr0 M.fr) underlying135 EP X B3 (DS Ar.cells_one) (Nat.le_refl _) (Nat.le_refl _) C2 (by unfold maxLen;first|omega|(simp only [List.length_append,List.length_cons,List.length_nil];omega)) (by simp) (by first|exact (B9 _ _ _).symm|simp [AD]) λA7 c7 w2 M=>yb X (gnr (gr1 X ⟨_,_,X,M.own 0 X,M.fr⟩)))
theorem u0 (A:Option Addr) (c:Nat) (l:List Tk) (w:World) (hl:l.length≤1048576) (hR:Rd w A (l.length*9) (AD Tk.cells l)) :
 Calls prog 29 #[.slice A l.length c] w λe w'=>∃A' c',e=.returned (.slice A' l.length c')∧w'.ownsRow w.heap.size 56 9 (.slice A' l.length c') l.length (AD Tk.cells l)∧Fr0 w w':=by
 refine BH func29 ntmps29 X λM=>srg (AJ X (sx_seq (AE X (ya X (MA X X underlying31) (nq (AF X (λh4=>?_) (λh4=>?_)))))))
 ·refine AE X (gnr (qx_then_ret (gr1 X ?_)));obtain rfl:=PA hR B3 h4;exact ⟨none,0,X,World.ownsRow_nil _ _ _ _,M.fr⟩
 ·refine sx_skip (qx_seq (srg (sxl_does (some 5) (wn_none X) X X (λρ hρ=>ID 31 56 9 X underlying31 B4) ?_)));rintro _ w1 ⟨g5,rfl,hg5,_,_,hfw1,ho5⟩;have M:=M.pushOwn hfw1 (Nat.le_refl _) (ho5 _ (Nat.le_refl _));exact yb X (DE (len':=l.length) (xs':=AD Tk.cells l) M 0 (wn_none X) X X X X X X (hR.fr0 M.fr) underlying31 FB X B3 (DS Tk.cells_one) (Nat.le_refl _) (Nat.le_refl _) C2 (by unfold maxLen;first|omega|(simp only [List.length_append,List.length_cons,List.length_nil];omega)) (by simp) (by first|exact (B9 _ _ _).symm|simp [AD]) λA7 c7 w2 M=>yb X (gnr (gr1 X ⟨_,_,X,M.own 0 X,M.fr⟩)))
theorem tV (g n cap i:Nat) (cs:List Value) (w:World) (hb:Blk w g 139 cs) (hle:n*5≤cs.length) (h1:∀u∈(cs.take (n*5)).drop ((i+1)*5),u.oneCell'=true) (hi:i<n) (hn:n≤cap) (hm:cap≤maxLen) :
 Calls prog 200 #[.slice (some ⟨g,0,none⟩) n cap,AC (i:Int),AC (((i+1):Nat):Int)] w λe w'=>e=.returned (.slice (some ⟨g,0,none⟩) (i+(n-(i+1))) cap)∧Blk w' g 139 (ZL cs [str [],AC 0,AC 0,str [],.bool false] n i 5)∧Fr (λk=>k=g) w w':=by
 have hmx:cap≤9223372036854775807:=hm;have hlq:i*5+((cs.take (n*5)).drop ((i+1)*5)).length≤cs.length:=by rw [List.length_drop,List.length_take];omega
 have hpl:(put cs (i*5) ((cs.take (n*5)).drop ((i+1)*5))).length=cs.length:=J4 _ _ _ hlq;refine sx_enter (vs:=[_,_,_]) func200 X ntmps200 X ?_;have M:Mem w (λk=>k=g) [As.blk g 139 cs] w:=Mem.one hb;refine srg (AJ X (srg ?_));iterate 4 refine yb X ?_
 refine DF X X (ya X (yB i (i+1) n X X X X X (sl X) AA AA AA AA) (nq (sx_seq (AE X (yb X (BZ X X (nq (AF X (λh16=>?_) (λh16=>?_)))))))))
 ·have h16p:=(odt h16);refine AE X (yb X (gnr (qx_then_ret (gr1 X ?_))))
  exfalso;omega
 ·have h16p:=(odf h16);refine sx_skip (qx_seq (AE X (DF X X (AJ X (sx_seq (CY 6 CH gkr ?_))))));have M:=M.drew;refine sb X (sb X (sa X (uI i X X X (sl X) AA) (sb X (sb X (sa X (cE (i+1) X X X (sl X) AA) (C8 (sxl_does (some 26) (wn_none X) X X (λρ hρ=>TT (news:=(cs.take (n*5)).drop ((i+1)*5)) X underlying135 B0 (hρ _ _ X) (M.blk 0 X) (hρ _ _ X) (dD (M.blk 0 X) hle AA AA) h1 AA hlq) ?_)))))));rintro _ w1 ⟨rfl,hbw1,hfw1⟩;have M:=M.putB 0 X hbw1 hfw1;refine AJ X (AE X (yb X (DF X X (yb X (ya X (uJ (i+(n-(i+1))) n X X X X (sl X) AA AA) (sxl_does none (wn_none X) X X (λρ hρ=>VO (zs:=[str [],AC 0,AC 0,str [],.bool false]) X underlying135 FL X (hρ _ _ X) AA (M.blk 0 X) (CL X) (by rw [hpl];simp only [List.length_cons,List.length_nil];omega)) ?_))))));rintro _ w2 ⟨hbw2,hfw2⟩;rw [Nat.zero_add] at hbw2
  have M:=M.putB 0 X hbw2 hfw2;exact nq (AE X (yb X (gnr (gr1 X ⟨X,M.blk 0 X,M.fr⟩))))
theorem yX (base:Nat) (A:Option Addr) (c i:Nat) (l:List Ar) (w:World) (ho:w.ownsRow base 139 5 (.slice A l.length c) l.length (AD Ar.cells l)) (hi:i<l.length) :
 Calls prog 200 #[.slice A l.length c,AC (i:Int),AC (((i+1):Nat):Int)] w λe w'=>e=.returned (.slice A (l.eraseIdx i).length c)∧w'.ownsRow base 139 5 (.slice A (l.eraseIdx i).length c) (l.eraseIdx i).length (AD Ar.cells (l.eraseIdx i))∧Fr (λk=>k∈(Value.slice A l.length c).ownBlock.toList) w w':=by
 rcases ho.2 with ⟨_,h0⟩|⟨g,cap,cur,hv,hg,hb,hnc,hcm,hcs,ht⟩
 ·omega
 ·injection hv with e1 _ e3
  subst e1;subst e3;have hlen:(l.eraseIdx i).length=i+(l.length-(i+1)):=by rw [List.length_eraseIdx_of_lt hi];omega
  have hcl:cur.toList.length=c*5:=by rw [Array.length_toList,hcs]
  have hle:l.length*5≤cur.toList.length:=by rw [hcl];exact Nat.mul_le_mul_right _ hnc
  have hb':Blk w g 139 cur.toList:=by rw [Blk,Array.toArray_toList];exact hb
  refine (tV g l.length c i cur.toList w hb' hle (λu hu=>?_) hi hnc hcm).mono ?_
  ·rw [ht] at hu
   exact DS Ar.cells_one u (List.mem_of_mem_drop hu)
  ·rintro e w' ⟨rfl,h2,h3⟩;refine ⟨by rw [hlen],dH (λx=>rfl) h2 hg hnc hcm hcl ht hi rfl,h3.mono λk _ hk=>?_⟩;subst hk;simp [Value.ownBlock]
theorem tU (g n cap i:Nat) (cs:List Value) (w:World) (hb:Blk w g 56 cs) (hle:n*9≤cs.length) (h1:∀u∈(cs.take (n*9)).drop ((i+1)*9),u.oneCell'=true) (hi:i<n) (hn:n≤cap) (hm:cap≤maxLen) :
 Calls prog 28 #[.slice (some ⟨g,0,none⟩) n cap,AC (i:Int),AC (((i+1):Nat):Int)] w λe w'=>e=.returned (.slice (some ⟨g,0,none⟩) (i+(n-(i+1))) cap)∧Blk w' g 56 (ZL cs [AC 0,str [],str [],AC 0,AC 0,str [],AC 0,.int .u8 0,AC 0] n i 9)∧Fr (λk=>k=g) w w':=by
 have hmx:cap≤9223372036854775807:=hm;have hlq:i*9+((cs.take (n*9)).drop ((i+1)*9)).length≤cs.length:=by rw [List.length_drop,List.length_take];omega
 have hpl:(put cs (i*9) ((cs.take (n*9)).drop ((i+1)*9))).length=cs.length:=J4 _ _ _ hlq;refine sx_enter (vs:=[_,_,_]) func28 X ntmps28 X ?_;have M:Mem w (λk=>k=g) [As.blk g 56 cs] w:=Mem.one hb;refine srg (AJ X (srg ?_));iterate 4 refine yb X ?_
 refine DF X X (ya X (yB i (i+1) n X X X X X (sl X) AA AA AA AA) (nq (sx_seq (AE X (yb X (BZ X X (nq (AF X (λh16=>?_) (λh16=>?_)))))))))
 ·have h16p:=(odt h16);refine AE X (yb X (gnr (qx_then_ret (gr1 X ?_))))
  exfalso;omega
 ·have h16p:=(odf h16);refine sx_skip (qx_seq (AE X (DF X X (AJ X (sx_seq (CY 6 CH gkr ?_))))));have M:=M.drew;refine sb X (sb X (sa X (uI i X X X (sl X) AA) (sb X (sb X (sa X (cE (i+1) X X X (sl X) AA) (C8 (sxl_does (some 26) (wn_none X) X X (λρ hρ=>TT (news:=(cs.take (n*9)).drop ((i+1)*9)) X underlying31 B4 (hρ _ _ X) (M.blk 0 X) (hρ _ _ X) (dD (M.blk 0 X) hle AA AA) h1 AA hlq) ?_)))))));rintro _ w1 ⟨rfl,hbw1,hfw1⟩;have M:=M.putB 0 X hbw1 hfw1;refine AJ X (AE X (yb X (DF X X (yb X (ya X (uJ (i+(n-(i+1))) n X X X X (sl X) AA AA) (sxl_does none (wn_none X) X X (λρ hρ=>VO (zs:=[AC 0,str [],str [],AC 0,AC 0,str [],AC 0,.int .u8 0,AC 0]) X underlying31 EM X (hρ _ _ X) AA (M.blk 0 X) (CL X) (by rw [hpl];simp only [List.length_cons,List.length_nil];omega)) ?_))))));rintro _ w2 ⟨hbw2,hfw2⟩;rw [Nat.zero_add] at hbw2
  have M:=M.putB 0 X hbw2 hfw2;exact nq (AE X (yb X (gnr (gr1 X ⟨X,M.blk 0 X,M.fr⟩))))
theorem yW (base:Nat) (A:Option Addr) (c i:Nat) (l:List Tk) (w:World) (ho:w.ownsRow base 56 9 (.slice A l.length c) l.length (AD Tk.cells l)) (hi:i<l.length) :
 Calls prog 28 #[.slice A l.length c,AC (i:Int),AC (((i+1):Nat):Int)] w λe w'=>e=.returned (.slice A (l.eraseIdx i).length c)∧w'.ownsRow base 56 9 (.slice A (l.eraseIdx i).length c) (l.eraseIdx i).length (AD Tk.cells (l.eraseIdx i))∧Fr (λk=>k∈(Value.slice A l.length c).ownBlock.toList) w w':=by
 rcases ho.2 with ⟨_,h0⟩|⟨g,cap,cur,hv,hg,hb,hnc,hcm,hcs,ht⟩
 ·omega
 ·injection hv with e1 _ e3
  subst e1;subst e3;have hlen:(l.eraseIdx i).length=i+(l.length-(i+1)):=by rw [List.length_eraseIdx_of_lt hi];omega
  have hcl:cur.toList.length=c*9:=by rw [Array.length_toList,hcs]
  have hle:l.length*9≤cur.toList.length:=by rw [hcl];exact Nat.mul_le_mul_right _ hnc
  have hb':Blk w g 56 cur.toList:=by rw [Blk,Array.toArray_toList];exact hb
  refine (tU g l.length c i cur.toList w hb' hle (λu hu=>?_) hi hnc hcm).mono ?_
  ·rw [ht] at hu
   exact DS Tk.cells_one u (List.mem_of_mem_drop hu)
  ·rintro e w' ⟨rfl,h2,h3⟩;refine ⟨by rw [hlen],dH (λx=>rfl) h2 hg hnc hcm hcl ht hi rfl,h3.mono λk _ hk=>?_⟩;subst hk;simp [Value.ownBlock]
theorem tM {α:Type} (cells:α→List Value) (hk:∀x,(cells x).length=5) (A:Option Addr) (c:Nat) (l:List α) (hl:l.length≤4611686018427387904) (f:FuncId) (cs:List Value) (p:Nat→α→Bool) (S:Nat→Prop) (J:Nat→World→Prop) (w:World) (hP:PredJ prog f cs (λx=>.agg (cells x).toArray) l p S J w) (hR:∀w1,Fr S w w1→Rd w1 A (l.length*5) (AD cells l)) (hJ:J 0 w) :
 Calls prog 183 #[.slice A l.length c,.func (.func f) #[] cs.toArray] w λe w'=>e=.returned (AC (ixJ p 0 l))∧J (ixN p 0 l) w'∧Fr S w w':=by
 refine sx_enter (vs:=[_,_]) func183 X ntmps183 X ?_;have M:Mem w S [] w:=Mem.nil w;refine srg (AJ X (sx_seq (AE X (DF X X (AJ X (sx_block (JJ M [7,1,0] (λze zF e wr mz=>∃(i:Nat),e=(8,AC (i:Int))::ze∧zF wr∧(i≤l.length)∧(J i wr)∧(ixJ p 0 l=ixJ p i (l.drop i))∧(ixN p 0 l=ixN p i (l.drop i))∧mz=l.length-i) ⟨0,X,M,Nat.zero_le _,hJ,X,X,X⟩ ?_)))))));rintro _ w1 _ ⟨i,rfl,M,hi,hJ,hr,hn,rfl⟩;refine srg (BB X X (nq (sx_seq (AF X (λh9=>?_) (λh9=>?_)))))
 ·have h9p:=(odt h9);refine sx_skip (qx_seq (sx_seq (sx_block (AE X (AJ X (AE X (AV X X ?_)))))));obtain ⟨x,hx⟩:=BM (l:=l) (i:=i) AA;obtain ⟨b_x,o_x,hA_x⟩:=B5 (k:=5) AA (hR _ M.fr) hx;refine ya X (AN i hA_x X X X (sl X) AA) (ya X (AK X X (B6 hk (hR _ M.fr) hA_x hx) underlying139 X B0) (cl 16 X (BJ X X X hP.fn) (hP.call i x _ hx M.fr hJ) ?_));rintro _ w9 ⟨rfl,hJ,hf9⟩;refine ⟨_,X,?_⟩;have M:Mem w S [] w9:=Mem.ofFr (M.fr.trans hf9);refine nq (AF X (λh16=>?_) (λh16=>?_))
  ·exact AE X (yb X (gnr (qx_block_ret (qx_then_ret (qx_then_ret (qx_block_ret (qx_then_ret (gr1 X ⟨by rw [hr,AZ hx,ixJ,if_pos h16],by rw [hn,AZ hx,ixN,if_pos h16];exact hJ,M.fr⟩))))))))
  ·refine sx_skip (qx_block_normal (qx_seq (sx_region (BV X X (yb X (sxl_nil (fag ⟨i+1,X,M,?_,?_,?_,?_,X⟩)))))))
   ·omega
   ·exact hJ
   ·rw [hr,AZ hx,ixJ,AM h16]
   ·rw [hn,AZ hx,ixN,AM h16]
 ·have h9p:=(odf h9);refine sx_exit (qx_then_exit (qx_then_exit (qx_block_hit (qx_seq (AE X (gnr (gr1 X ?_)))))));obtain rfl:i=l.length:=by omega
  exact ⟨by rw [hr,List.drop_length];rfl,by rw [hn,List.drop_length];exact hJ,M.fr⟩
theorem tK {α:Type} (cells:α→List Value) (hk:∀x,(cells x).length=9) (A:Option Addr) (c:Nat) (l:List α) (hl:l.length≤4611686018427387904) (f:FuncId) (cs:List Value) (p:Nat→α→Bool) (S:Nat→Prop) (J:Nat→World→Prop) (w:World) (hP:PredJ prog f cs (λx=>.agg (cells x).toArray) l p S J w) (hR:∀w1,Fr S w w1→Rd w1 A (l.length*9) (AD cells l)) (hJ:J 0 w) :
 Calls prog 24 #[.slice A l.length c,.func (.func f) #[] cs.toArray] w λe w'=>e=.returned (AC (ixJ p 0 l))∧J (ixN p 0 l) w'∧Fr S w w':=by
 refine sx_enter (vs:=[_,_]) func24 X ntmps24 X ?_;have M:Mem w S [] w:=Mem.nil w;refine srg (AJ X (sx_seq (AE X (DF X X (AJ X (sx_block (JJ M [7,1,0] (λze zF e wr mz=>∃(i:Nat),e=(8,AC (i:Int))::ze∧zF wr∧(i≤l.length)∧(J i wr)∧(ixJ p 0 l=ixJ p i (l.drop i))∧(ixN p 0 l=ixN p i (l.drop i))∧mz=l.length-i) ⟨0,X,M,Nat.zero_le _,hJ,X,X,X⟩ ?_)))))));rintro _ w1 _ ⟨i,rfl,M,hi,hJ,hr,hn,rfl⟩;refine srg (BB X X (nq (sx_seq (AF X (λh9=>?_) (λh9=>?_)))))
 ·have h9p:=(odt h9);refine sx_skip (qx_seq (sx_seq (sx_block (AE X (AJ X (AE X (AV X X ?_)))))));obtain ⟨x,hx⟩:=BM (l:=l) (i:=i) AA;obtain ⟨b_x,o_x,hA_x⟩:=B5 (k:=9) AA (hR _ M.fr) hx;refine ya X (AN i hA_x X X X (sl X) AA) (ya X (AK X X (B6 hk (hR _ M.fr) hA_x hx) underlying56 X B4) (cl 16 X (BJ X X X hP.fn) (hP.call i x _ hx M.fr hJ) ?_));rintro _ w9 ⟨rfl,hJ,hf9⟩;refine ⟨_,X,?_⟩;have M:Mem w S [] w9:=Mem.ofFr (M.fr.trans hf9);refine nq (AF X (λh16=>?_) (λh16=>?_))
  ·exact AE X (yb X (gnr (qx_block_ret (qx_then_ret (qx_then_ret (qx_block_ret (qx_then_ret (gr1 X ⟨by rw [hr,AZ hx,ixJ,if_pos h16],by rw [hn,AZ hx,ixN,if_pos h16];exact hJ,M.fr⟩))))))))
  ·refine sx_skip (qx_block_normal (qx_seq (sx_region (BV X X (yb X (sxl_nil (fag ⟨i+1,X,M,?_,?_,?_,?_,X⟩)))))))
   ·omega
   ·exact hJ
   ·rw [hr,AZ hx,ixJ,AM h16]
   ·rw [hn,AZ hx,ixN,AM h16]
 ·have h9p:=(odf h9);refine sx_exit (qx_then_exit (qx_then_exit (qx_block_hit (qx_seq (AE X (gnr (gr1 X ?_)))))));obtain rfl:i=l.length:=by omega
  exact ⟨by rw [hr,List.drop_length];rfl,by rw [hn,List.drop_length];exact hJ,M.fr⟩
end Go.Proofs.YtaheakjfkpkefaaGreatDoor
