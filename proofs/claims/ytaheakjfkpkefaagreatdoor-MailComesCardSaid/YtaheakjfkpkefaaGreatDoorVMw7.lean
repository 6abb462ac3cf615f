/- Lemmas. -/
import Derived.Test.YtaheakjfkpkefaaGreatDoorVMw6
set_option maxHeartbeats 16000000
set_option maxRecDepth 100000
namespace Go.Proofs.YtaheakjfkpkefaaGreatDoor
open Go.RowKit
open Tryz
structure In where
 id:Int
 mdl:List UInt8
 st:UInt8
 vars:List Bd
 toks:List Tk
def In.cells (i:In) (V T:Option Addr) (vc tc:Nat):List Value:=[.int .i64 i.id,str i.mdl,.int .u8 (i.st.toNat:Int),.slice V i.vars.length vc,.slice T i.toks.length tc]
def KA : Nat→List Tk→List Ar
 | _,[]=>[]
 | n,t::r=>if t.loc=[] then ⟨t.on,((n+1:Nat):Int),t.id,[],(!decide ((t.inc.toNat:Int)=(0:Int)))⟩::KA (n+1) r else KA n r
theorem NJ (t:Tk):∀(l:List Tk) (n:Nat),KA n (l++[t])=KA n l++(if t.loc=[] then [⟨t.on,((n+(KA n l).length+1:Nat):Int),t.id,[],(!decide ((t.inc.toNat:Int)=0))⟩] else [])
 | [],n=>by
  show (if t.loc=[] then _ else _)=_
  split<;>rfl
 | u::r,n=>by
  rw [List.cons_append,KA,KA]
  by_cases hu:u.loc=[]
  ·rw [if_pos hu,if_pos hu,NJ t r (n+1),List.cons_append,List.length_cons,show n+1+(KA (n+1) r).length+1=n+((KA (n+1) r).length+1)+1 by omega]
  ·rw [if_neg hu,if_neg hu,NJ t r n]
theorem ZY {t:Tk} {l:List Tk} {n:Nat} (h:t.loc=[]):KA n (l++[t])=KA n l++[⟨t.on,((n+(KA n l).length+1:Nat):Int),t.id,[],(!decide ((t.inc.toNat:Int)=0))⟩]:=by rw [NJ,if_pos h]
theorem eV {t:Tk} {l:List Tk} {n:Nat} (h:¬t.loc=[]):KA n (l++[t])=KA n l:=by rw [NJ,if_neg h,List.append_nil]
theorem UF {a:Ar}:∀{l:List Tk} {n:Nat},a∈KA n l→∃t∈l,t.loc=[]∧a.flow=t.on∧a.rests=t.id∧a.at_=[]∧a.stops=(!decide ((t.inc.toNat:Int)=0))
 | [],_,h=>by cases h
 | t::r,n,h=>by
  rw [KA] at h
  by_cases ht:t.loc=[]
  ·rw [if_pos ht] at h
   rcases List.mem_cons.1 h with rfl|h
   ·exact ⟨t,List.mem_cons_self,ht,X,X,X,X⟩
   ·obtain ⟨u,hu,h2⟩:=UF h;exact ⟨u,List.mem_cons_of_mem _ hu,h2⟩
  ·rw [if_neg ht] at h
   obtain ⟨u,hu,h2⟩:=UF h;exact ⟨u,List.mem_cons_of_mem _ hu,h2⟩
def L5 (kept:List Tk) (flow:List UInt8) (fired:List (List UInt8)):Mo:=⟨KA 0 kept++[⟨flow,(((KA 0 kept).length+1:Nat):Int),0,[],false⟩],[],fired,(KA 0 kept).length+1⟩
theorem nC {c:CrA} {kept:List Tk} {flow:List UInt8} {fired:List (List UInt8)} {on1:List Ar} {cm1 n:Nat} {k:Int} (hE:on1=KA 0 kept) (hc:cm1=on1.length) (hkF:∀t∈kept,t.loc=[]→c.isF t.on=true) (hflow:c.isF flow=true) (hk:n≤300) (hol:on1.length≤n):Iv c ⟨on1++[⟨flow,k,0,[],false⟩],[],fired,cm1+1⟩:=by
 refine ⟨λa ha=>?_,?_,?_,?_⟩
 ·simp only [List.mem_append,List.mem_singleton] at ha
  rcases ha with ha|rfl
  ·rw [hE] at ha
   obtain ⟨t,ht,h1,h2,_⟩:=UF ha;rw [h2];exact hkF t ht h1
  ·exact hflow
 ·simp only [List.length_append,List.length_cons,List.length_nil];omega
 ·simp only;omega
 ·simp only [List.length_nil];omega
def zMvd : List Value:=[.int .i64 0,str [],.int .u8 0,.slice none 0 0,.slice none 0 0,.int .i64 0,.slice none 0 0]
def gU (i:In) (L:List Tk) (nx:Int) (V:Option Addr) (vc:Nat) (T:Option Addr) (tc:Nat) (A:Option Addr) (n fc:Nat):List Value:=[.int .i64 i.id,str i.mdl,.int .u8 (if decide (((L.length:Nat):Int)=(0:Int))=true then 2 else 1),.slice V i.vars.length vc,.slice T L.length tc,.int .i64 nx,.slice A n fc]
def MvF (m:Md) (c:CrA) (i:In) (kept:List Tk) (flow:List UInt8) (fired:List (List UInt8)) (next:Int):Prop:=(∃σ',Rn m c i.vars (L5 kept flow fired) σ'∧1024<σ'.fired.length)∨∃σ' ls,Rn m c i.vars (L5 kept flow fired) σ'∧bZ c σ'∧List.Perm ls (σ'.on++σ'.done)∧2147483647<next+((ls.filter (λa:Ar => !decide (0<a.rests))).length:Int)
def MvD (m:Md) (c:CrA) (i:In) (kept:List Tk) (flow:List UInt8) (fired:List (List UInt8)) (next clock:Int) (e:Ending) (w2:World):Prop:=(e=.returned (.tuple #[.agg zMvd.toArray,.int .i64 3])∧MvF m c i kept flow fired next)∨∃σ' ls V' vc' T' tc' A' fc',e=.returned (.tuple #[.agg (gU i (HK c kept ls next clock) (next+((ls.filter (λa:Ar => !decide (0<a.rests))).length:Int)) V' vc' T' tc' A' σ'.fired.length fc').toArray,.int .i64 0])∧Rn m c i.vars (L5 kept flow fired) σ'∧(Iv c σ'∧σ'.fired.length≤1025)∧bZ c σ'∧ls.Perm (σ'.on++σ'.done)∧next+((ls.filter (λa:Ar => !decide (0<a.rests))).length:Int)≤2147483647∧Rd w2 V' (i.vars.length*5) (AD Bd.cells i.vars)∧Rd w2 T' ((HK c kept ls next clock).length*9) (AD Tk.cells (HK c kept ls next clock))∧Rd w2 A' (σ'.fired.length*1) (AD C0 σ'.fired)
theorem MvD.shape {m:Md} {c:CrA} {i:In} {kept:List Tk} {flow:List UInt8} {fired:List (List UInt8)} {next clock:Int} {e:Ending} {w':World} (h:MvD m c i kept flow fired next clock e w'):∃a0 a1 a2 W0 wn wc X0 xn xc a5 Y0 yn yc er,e=.returned (.tuple #[.agg [AC a0,str a1,.int .u8 a2,.slice W0 wn wc,.slice X0 xn xc,AC a5,.slice Y0 yn yc].toArray,AC er])∧(er=0∨er=3):=by
 rcases h with ⟨rfl,_⟩|⟨σ',ls,V',vc',T',tc',A',fc',rfl,_⟩
 ·exact ⟨_,_,_,_,_,_,_,_,_,_,_,_,_,_,X,.inr X⟩
 ·exact ⟨_,_,_,_,_,_,_,_,_,_,_,_,_,_,X,.inl X⟩
def N7 (b0:Nat) (F0:List Nat) (w w2:World):Prop:=∀g,(g∈F0∨b0≤g)→g<w.heap.size→w2.heap[g]?=w.heap[g]?
theorem Mem.rdAgr {w0 w' w2:World} {F0:List Nat} {L:List As} (M:Mem w0 (λk=>k∈F0) L w') (i:Nat) {base e size n c:Nat} {A:Option Addr} {xs:List Value} (hi:L[i]?=some (As.own base e size (.slice A n c) n xs)) (hf:N7 w0.heap.size F0 w' w2):Rd w2 A (n*size) xs:=
 L7 ((As.own base e size (.slice A n c) n xs).keep (λg hg hlt=>hf g ((M.lt i _ hi g hg).2.elim .inr .inl) hlt) (M.ok i _ hi))
theorem Y8 (m:Md) (gc:Nat) (c:CrA) (F:List Nat) (V:Option Addr) (vn vc gx:Nat) (σ:Mo) (F':List Nat) (K:Option Addr) (kc:Nat) (kept:List Tk) (next clock:Int) (w:World) (hI:Iv c σ) (h2:σ.fired.length≤1025) (h3:kept.length≤400000) (hn1:0≤next) (hn2:next≤2147483647) (hC:CourseN w m gc c F) (hN:MoN w gc V vn vc gx σ F') (hK:Rd w K (kept.length*9) (AD Tk.cells kept)) {Q:Nat→Prop} (hS:QU Q) (hQ:Q (σ.on++σ.done).length) :
 Calls prog 55 #[pg gx,.slice K kept.length kc,AC next,AC clock] w λe w'=>∃ls:List Ar,ls.Perm (σ.on++σ.done)∧Fr0 w w'∧∃A c' L nx er,e=.returned (.tuple #[.slice A (L:List Tk).length c',AC nx,AC er])∧w'.ownsRow w.heap.size 56 9 (.slice A L.length c') L.length (AD Tk.cells L)∧((er=3∧2147483647<next+((ls.filter (λa:Ar => !decide (0<a.rests))).length:Int))∨(er=0∧next+((ls.filter (λa:Ar => !decide (0<a.rests))).length:Int)≤2147483647∧L=HK c kept ls next clock∧nx=next+((ls.filter (λa:Ar => !decide (0<a.rests))).length:Int))):=by
 have i1:=hI.on;have i2:=hI.done;refine (aQ m gc c F V vn vc gx σ F' K kc kept next clock w AA AA h3 hn1 hn2 hC hN hK hS hQ).mono λe w'=>?_
 rintro ⟨ls,hp,hf,⟨h,rfl⟩|⟨h,A,c',rfl,hown⟩⟩
 ·exact ⟨ls,hp,hf,none,0,[],0,3,X,World.ownsRow_nil _ _ _ _,.inl ⟨X,h⟩⟩
 ·exact ⟨ls,hp,hf,A,c',_,_,0,X,hown,.inr ⟨X,h,X,X⟩⟩
theorem FT  : prog.built 50 []=some #[AC 0,str [],.int .u8 0,.slice none 0 0,.slice none 0 0,AC 0,.slice none 0 0]:=by kernel_rfl
theorem IN (c0_0 c0_1 c0_2 c0_3 c0_4:Value) (a1:Int) (A2:Option Addr) (n2 c2:Nat):prog.built 50 [(0,.agg #[c0_0,c0_1,c0_2,c0_3,c0_4]),(1,AC a1),(2,.slice A2 n2 c2)]=some #[c0_0,c0_1,c0_2,c0_3,c0_4,AC a1,.slice A2 n2 c2]:=by kernel_rfl
theorem KT (a0:List UInt8) (a1:Int) (a2:Int) (a4:Bool):prog.built 139 [(0,str a0),(1,AC a1),(2,AC a2),(4,.bool a4)]=some #[str a0,AC a1,AC a2,str [],.bool a4]:=by kernel_rfl
theorem NR (a0:Option Addr) (A1:Option Addr) (n1 c1:Nat) (A4:Option Addr) (n4 c4:Nat):prog.built 137 [(0,.pointer a0),(1,.slice A1 n1 c1),(4,.slice A4 n4 c4)]=some #[.pointer a0,.slice A1 n1 c1,.slice none 0 0,.slice none 0 0,.slice A4 n4 c4,AC 0]:=by kernel_rfl
theorem CF : (prog.info? 33).map (·.size)=some 5:=by kernel_rfl
theorem BU : (prog.info? 50).map (·.size)=some 7:=by kernel_rfl
theorem IG : (prog.info? 31).map (·.size)=some 1:=by kernel_rfl
theorem FQ : (prog.info? 50).map (·.zero)=some (some (.agg #[AC 0,str [],.int .u8 0,.slice none 0 0,.slice none 0 0,AC 0,.slice none 0 0])):=by kernel_rfl
theorem VE (we:World) (m:Md) (gc:Nat) (c:CrA) (Fc:List Nat) (i:In) (V T K A:Option Addr) (vc tc kc cf bf bk:Nat) (kept:List Tk) (flow:List UInt8) (fired:List (List UInt8)) (next clock:Int) (F0:List Nat) (w:World) (_ho:MdOk m) (R:Rl m) (hvl:i.vars.length≤1000) (hV:Rd we V (i.vars.length*5) (AD Bd.cells i.vars)) (hC:CourseN we m gc c Fc) (hwe:Fr0 we w) (hFe:∀g∈F0,we.heap.size≤g)
 (hkF:∀t∈kept,t.loc=[]→c.isF t.on=true) (hflow:c.isF flow=true) (hk:kept.length≤300) (hfi:fired.length≤2) (hn1:0≤next) (hn2:next≤2147483647) (M0:Mem w (λk=>k∈F0) [As.own bf 9 1 (.slice A fired.length cf) fired.length (AD C0 fired),As.own bk 56 9 (.slice K kept.length kc) kept.length (AD Tk.cells kept)] w) {Q:Nat→Prop} (hS:QU Q) (hps:PV we m gc c V vc i.vars) (hQ:∀σ',Rn m c i.vars (L5 kept flow fired) σ'→Q (σ'.on++σ'.done).length) :
 Calls prog 27 #[pg gc,.agg (In.cells i V T vc tc).toArray,.slice K kept.length kc,str flow,.slice A fired.length cf,AC next,AC clock] w λe w'=>Fr (λk=>k∈F0) w w'∧∀w2,N7 w.heap.size F0 w' w2→MvD m c i kept flow fired next clock e w2:=by
 refine sx_enter (vs:=[_,_,_,_,_,_,_]) func27 X ntmps27 X ?_;have M:=M0;refine srg (CC M X X λg8 w1 hg8 M=>CI M X FQ λg14 w2 hg14 M=>AJ X (AE X (yb X (AU M 1 X X X (yb X (ya X (AY (parts:=[(0,_),(1,_),(4,_)]) X X (NR _ _ _ _ _ _ _)) ?_))))));refine D6 M (wn_none X) X X 137 X X ([pg gc,.slice V i.vars.length vc,.slice none 0 0,.slice none 0 0,.slice A fired.length cf,AC 0]) X λgx w3 hgx M=>?_
 have M:=M.nilOwn 139 5;have M:=M.nilOwn 139 5
 replace M:Mem w (λk=>k∈F0) [As.own w.heap.size 139 5 (.slice none 0 0) 0 [],As.own w.heap.size 139 5 (.slice none 0 0) 0 [],As.blk gx 137 [pg gc,.slice V i.vars.length vc,.slice none 0 0,.slice none 0 0,.slice A fired.length cf,AC ((0:Nat):Int)],As.blk g14 50 [AC 0,str [],.int .u8 0,.slice none 0 0,.slice none 0 0,AC 0,.slice none 0 0],As.blk g8 33 (In.cells i V T vc tc),As.own bf 9 1 (.slice A fired.length cf) fired.length (AD C0 fired),As.own bk 56 9 (.slice K kept.length kc) kept.length (AD Tk.cells kept)] w3:=M
 refine AJ X (sx_seq (AE X (DF X X (AJ X (sx_block ?_)))));obtain ⟨F3,M⟩:=Mem.closeMo (on:=[]) (n1:=0) (dn:=[]) (n2:=0) (cm:=0) (M.pk [2,0,1,5,3,4,6]);refine flp [29,28,16,14,8,6,5,3,2] (λze e wr mz=>∃(j:Nat) (on1:List Ar) (cm1:Nat) (F1:List Nat),e=(30,AC (j:Int))::ze∧Mem w (λk=>k∈F0) [As.mo gc V i.vars.length vc gx (⟨on1,([]:List Ar),fired,cm1⟩:Mo) F1,As.blk g14 50 [AC 0,str [],.int .u8 0,.slice none 0 0,.slice none 0 0,AC 0,.slice none 0 0],As.blk g8 33 (In.cells i V T vc tc),As.own bk 56 9 (.slice K kept.length kc) kept.length (AD Tk.cells kept)] wr∧(j≤kept.length)∧(on1=KA 0 (kept.take j))∧(cm1=on1.length∧on1.length≤j)∧mz=kept.length-j) ⟨0,[],0,_,X,M,Nat.zero_le _,X,⟨X,Nat.le_refl _⟩,X⟩ ?_;rintro _ w4 _ ⟨j,on1,cm1,F1,rfl,M,hj,hE,hcm,rfl⟩;refine srg (BB X X (nq (sx_seq (AF X (λh31=>?_) (λh31=>?_)))))
 ·have h31p:=(odt h31);refine sx_skip (qx_seq (sx_seq (sx_block (srg ?_))));obtain ⟨y,hy⟩:=BM (l:=kept) (i:=j) AA;obtain ⟨b_y,o_y,hA_y⟩:=B5 (k:=9) AA (M.rdOwn 3 X) hy;refine ya X (AN j hA_y X X X (sl X) AA) (ya X (AK X X (B6 Tk.len (M.rdOwn 3 X) hA_y hy) underlying56 X B4) (CI M X EM λg18 w5 hg18 M=>BD M 0 X X B4 X λw6 M=>nq (AE X (AU M 0 X X X (ya X (CX X X X) (nq (AF X (λh36=>?_) (λh36=>?_))))))))
  ·have h36p:=(odt h36);refine AE X (AV X X ?_);have M:=M.pk [1,0,2,3,4];obtain ⟨x6,M⟩:=Mem.openMo M
   replace M:Mem w (λk=>k∈F0) [As.blk gx 137 [pg gc,.slice V i.vars.length vc,.slice x6.A on1.length x6.a,.slice x6.B (([]:List Ar).length) x6.b,.slice x6.C fired.length x6.c,AC (cm1:Int)],As.own 0 139 5 (.slice x6.A on1.length x6.a) on1.length (AD Ar.cells on1),As.own 0 139 5 (.slice x6.B ([]:List Ar).length x6.b) (([]:List Ar).length) (AD Ar.cells ([]:List Ar)),As.own 0 9 1 (.slice x6.C fired.length x6.c) fired.length (AD C0 fired),As.blk g18 56 (Tk.cells y),As.blk g14 50 [AC 0,str [],.int .u8 0,.slice none 0 0,.slice none 0 0,AC 0,.slice none 0 0],As.blk g8 33 (In.cells i V T vc tc),As.own bk 56 9 (.slice K kept.length kc) kept.length (AD Tk.cells kept)] w6:=M
   refine AU M 0 X X X (BV X X (AV X X (gp1 M 0 X X X GI λw7 M=>nq (EH 19 (λw'=>Mem w (λk=>k∈F0) [As.blk gx 137 [pg gc,.slice V i.vars.length vc,.slice x6.A on1.length x6.a,.slice x6.B (([]:List Ar).length) x6.b,.slice x6.C fired.length x6.c,AC ((cm1+1:Nat):Int)],As.own 0 139 5 (.slice x6.B ([]:List Ar).length x6.b) (([]:List Ar).length) (AD Ar.cells ([]:List Ar)),As.own 0 9 1 (.slice x6.C fired.length x6.c) fired.length (AD C0 fired),As.blk g18 56 (Tk.cells y),As.blk g14 50 [AC 0,str [],.int .u8 0,.slice none 0 0,.slice none 0 0,AC 0,.slice none 0 0],As.blk g8 33 (In.cells i V T vc tc),As.own bk 56 9 (.slice K kept.length kc) kept.length (AD Tk.cells kept)] w') CH ?_))));have M:=M.drew;refine oc 0 19 X X (M.pk [0,2,3,4,5,6,7]) (oc 1 19 X X (M.pk [0,2,3,4,5,6,7]) (oc 2 19 X X (M.pk [0,2,3,4,5,6,7]) (oc 3 19 X X (M.pk [0,2,3,4,5,6,7]) (ol 4 19 X X X (M.pk [0,2,3,4,5,6,7]) (λ_ M=>(M.cell 0 X X)) (oc 5 19 X X (M.pk [0,2,3,4,5,6,7]) (ol 6 19 X X X (M.pk [0,2,3,4,5,6,7]) (λ_ M=>(M.cell 3 X X)) (oc 7 19 X X (M.pk [0,2,3,4,5,6,7]) (oc 8 19 X X (M.pk [0,2,3,4,5,6,7]) (oc 9 19 X X (M.pk [0,2,3,4,5,6,7]) (ol 10 19 X X X (M.pk [0,2,3,4,5,6,7]) (λ_ M=>(M.cell 0 X X)) (oc 11 19 X X (M.pk [0,2,3,4,5,6,7]) (ol 12 19 X X X (M.pk [0,2,3,4,5,6,7]) (λ_ M=>(M.cell 3 X X)) (oc 13 19 X X (M.pk [0,2,3,4,5,6,7]) (ol 14 19 X X X (M.pk [0,2,3,4,5,6,7]) (λ_ M=>(M.cell 3 X X)) (oa 15 19 X X (M.pk [0,2,3,4,5,6,7]) (λ_ M=>DX X X X) ?_)))))))))))))));refine oa 16 19 X X (M.pk [0,2,3,4,5,6,7]) (λ_ M=>AY (parts:=[(0,_),(1,_),(2,_),(4,_)]) X X (KT _ _ _ _)) (B2 17 (some 61) gkr X (wn_none X) X X (λρ hρ=>D3 [.agg #[str y.on,AC ((cm1+1:Nat):Int),AC y.id,str [],.bool (!decide ((y.inc.toNat:Int)=0))]] _ hρ X X X X underlying135 HZ B3 B3 (FP X)) ?_);rintro _ w8 ⟨g61,rfl,hg61,hq61,hb61,hfw8⟩
   replace hb61:Blk w8 g61 139 ([str y.on,AC ((cm1+1:Nat):Int),AC y.id,str [],.bool (!decide ((y.inc.toNat:Int)=0))]):=hb61
   refine ⟨λ_=>(M.pk [0,2,3,4,5,6,7]).step hfw8,?_⟩;have M:=M.push hfw8 _ hb61 (DO hg61 hq61)
   replace M:Mem w (λk=>k∈F0) (As.blk g61 139 ([str y.on,AC ((cm1+1:Nat):Int),AC y.id,str [],.bool (!decide ((y.inc.toNat:Int)=0))])::_) w8:=M
   refine B2 18 (some 62) gkr X (wn_none X) X X (λρ hρ=>CZ _ _ _ X 0 _ _ _ _ underlying135 EP X B3 _ _ _ (hρ _ _ X) (M.own 2 X) _ _ _ _ (hρ _ _ X) (M.rdBlk 0 X X) (CL X) (by unfold maxLen;first|omega|(simp;omega)) C2 (Nat.zero_le _)) ?_;rintro v62 w9 ⟨ho62,hgr62,hvb62⟩
   replace ho62:World.ownsRow w9 0 139 5 v62 ((on1++[(⟨y.on,((cm1+1:Nat):Int),y.id,[],(!decide ((y.inc.toNat:Int)=0))⟩:Ar)]).length) (AD Ar.cells (on1++[(⟨y.on,((cm1+1:Nat):Int),y.id,[],(!decide ((y.inc.toNat:Int)=0))⟩:Ar)])):=by rw [show ((on1++[(⟨y.on,((cm1+1:Nat):Int),y.id,[],(!decide ((y.inc.toNat:Int)=0))⟩:Ar)]).length)=on1.length+1 from by simp,show (AD Ar.cells (on1++[(⟨y.on,((cm1+1:Nat):Int),y.id,[],(!decide ((y.inc.toNat:Int)=0))⟩:Ar)]))=(AD Ar.cells on1)++[str y.on,AC ((cm1+1:Nat):Int),AC y.id,str [],.bool (!decide ((y.inc.toNat:Int)=0))] from by first|exact B9 _ _ _|simp [AD,Ar.cells]];exact ho62
   have M:=M.appOwn 2 X ho62 hgr62 hvb62;obtain ⟨A62,c62,rfl,_⟩:=DI ho62;refine ⟨λ_=>(M.pk [1,3,4,5,6,7,8]),fo1 19 X X (yp X) (fo1 20 X X (yp X) (B2 21 none gkr X (wn_none X) X X (λρ hρ=>CU 135 _ _ X gx 2 137 _ (.slice A62 ((on1++[(⟨y.on,((cm1+1:Nat):Int),y.id,[],(!decide ((y.inc.toNat:Int)=0))⟩:Ar)]).length) c62) (hρ _ _ X) (hρ _ _ X) X (M.blk 1 X) FG (CO X) X) ?_))⟩;rintro _ w10 ⟨rfl,hbw10,hfw10⟩
   replace M:Mem w (λk=>k∈F0) (List.set _ 1 (As.blk gx 137 [pg gc,.slice V i.vars.length vc,.slice A62 ((on1++[(⟨y.on,((cm1+1:Nat):Int),y.id,[],(!decide ((y.inc.toNat:Int)=0))⟩:Ar)]).length) c62,.slice x6.B (([]:List Ar).length) x6.b,.slice x6.C fired.length x6.c,AC ((cm1+1:Nat):Int)])) w10:=M.putB 1 rfl hbw10 hfw10
   refine ⟨λh=>absurd h B3,fdn (qx_block_normal (qx_seq (sx_region (BV X X (yb X (sxl_nil ?_))))))⟩;obtain ⟨F8,M⟩:=Mem.closeMo (M.pk [1,2,3,4,0,5,6,7,8]);refine fag ⟨j+1,on1++[(⟨y.on,((cm1+1:Nat):Int),y.id,[],(!decide ((y.inc.toNat:Int)=0))⟩:Ar)],cm1+1,F8,X,(M.pk [0,3,4,5]),?_,?_,?_,X⟩
   ·omega
   ·rw [AP hy]
    first
     | rw [ZY h36p,Nat.zero_add,←hE,hcm.1]
     | rw [eV h36p,←hE]
   ·first
     | exact ⟨hcm.1,by omega⟩
     | exact ⟨by simp [hcm.1],by simp;omega⟩
  ·have h36p:=(odf h36);refine sx_skip (qx_block_normal (qx_seq (sx_region (BV X X (yb X (sxl_nil (fag ⟨j+1,on1,cm1,F1,X,(M.pk [1,2,3,4]),?_,?_,?_,X⟩)))))))
   ·omega
   ·rw [AP hy]
    first
     | rw [ZY h36p,Nat.zero_add,←hE,hcm.1]
     | rw [eV h36p,←hE]
   ·first
     | exact ⟨hcm.1,by omega⟩
     | exact ⟨by simp [hcm.1],by simp;omega⟩
 ·have h31p:=(odf h31);refine sx_exit (qx_then_exit (qx_then_exit ?_));obtain rfl:j=kept.length:=by omega
  rw [List.take_length] at hE
  have hol:=hcm.2;refine qx_block_hit (qx_seq (AE X (yb X (cl 68 X (AG X X call53) (O9 gc V i.vars.length vc gx (⟨on1,([]:List Ar),fired,cm1⟩:Mo) F1 flow _ (by first|omega|(simp;omega)|(simp [List.length_eraseIdx];split<;>omega)) (by first|omega|(simp;omega)|(simp [List.length_eraseIdx];split<;>omega)) (M.ok 0 _ X)) ?_))));rintro _ w11 ⟨rfl,F9,hNw11,hqw11,hfw11⟩;refine ⟨_,X,?_⟩;have M:=M.updMo 0 X (σ':=(⟨on1++[(⟨flow,((cm1+1:Nat):Int),0,[],false⟩:Ar)],([]:List Ar),fired,cm1+1⟩:Mo)) hNw11 hqw11 hfw11;refine nq (sx_seq (AE X ?_));have hIv:Iv c (⟨on1++[(⟨flow,((cm1+1:Nat):Int),0,[],false⟩:Ar)],([]:List Ar),fired,cm1+1⟩:Mo):=nC hE hcm.1 hkF hflow hk hol;refine cl 70 X (AG X X call54) (rG we m gc c Fc V vc gx i.vars (⟨on1++[(⟨flow,((cm1+1:Nat):Int),0,[],false⟩:Ar)],([]:List Ar),fired,cm1+1⟩:Mo) F9 _ R hC (BT hwe M.fr hFe) (moF M 0 X hFe hwe.size) (M.ok 0 _ X) hIv hfi hps) ?_;rintro _ w12 ⟨er,σ',rfl,⟨F9,hN9,hq9,hf9⟩,hRn,hIv9,hf9l,hres⟩;refine ⟨_,X,?_⟩;obtain ⟨on3,dn3,fi3,cm3⟩:=σ';have M:=M.updMo 0 X (σ':=(⟨on3,dn3,fi3,cm3⟩:Mo)) hN9 hq9 hf9;rw [hcm.1,hE] at hRn
  refine AJ X (AE X (CT X X (nq (AF X (λh72=>?_) (λh72=>?_)))))
  ·refine srg (ya X (AY (parts:=[]) X X (FT)) (yb X (BD M 1 X X BU X λw13 M=>yb X (gnr (qx_then_ret (B1 X X (M.rdBlk 1 X X) underlying50 X BU X ?_))))));have he:er=3∧_:=hres.elim (λh=>by rw [h.1] at h72;cases h72) id;rw [he.1];exact ⟨M.fr,λ_ _=>.inl ⟨X,.inl ⟨_,hRn,he.2⟩⟩⟩
  ·have h72p:=(odt (BL h72));refine sx_skip (qx_seq (srg ?_));iterate 4 refine yb X ?_
   refine cl 80 X (AG X X call55) (Y8 m gc c Fc V i.vars.length vc gx (⟨on3,dn3,fi3,cm3⟩:Mo) F9 K kc kept next clock _ hIv9 hf9l AA hn1 hn2 (hC.fr0 (BT hwe M.fr hFe)) (M.ok 0 _ X) (M.rdOwn 3 X) hS (hQ _ hRn)) ?_;rintro _ w14 ⟨ls,hpl,hfw14,A',c',L',nx,er2,rfl,how14,hres2⟩;refine ⟨_,X,?_⟩;have M:=M.pushOwn hfw14 (Nat.le_refl _) how14;iterate 7 refine yb X ?_
   refine nq (sx_seq (AE X (CT X X (nq (AF X (λh85=>?_) (λh85=>?_))))))
   ·refine srg (ya X (AY (parts:=[]) X X (FT)) (yb X (BD M 2 X X BU X λw15 M=>yb X (gnr (qx_then_ret (B1 X X (M.rdBlk 2 X X) underlying50 X BU X ?_))))));have he:er2=3∧_:=hres2.elim id (λh=>by rw [h.1] at h85;cases h85);obtain ⟨_,hrst⟩:er=0∧bZ c (⟨on3,dn3,fi3,cm3⟩:Mo):=hres.elim id (λh=>by rw [h.1] at h72;cases h72);rw [he.1];exact ⟨M.fr,λ_ _=>.inl ⟨X,.inr ⟨_,ls,hRn,hrst,hpl,he.2⟩⟩⟩
   ·have h85p:=(odt (BL h85));refine sx_skip (qx_seq (AE X (AU M 3 X X X (cl 90 X (AG X X call56) (eN V vc i.vars _ AA (hV.fr0 (BT hwe M.fr hFe))) ?_))));rintro _ w16 ⟨A90,c90,rfl,how16,hfw16⟩;refine ⟨_,X,?_⟩;have M:=M.pushOwn hfw16 (Nat.le_refl _) how16;refine AV X X (gp1 M 4 X X X HG λw17 M=>yb X (gp1 M 4 X X X IG λw18 M=>yb X (gp1 M 4 X X X KE λw19 M=>nq (sx_seq (AE X ?_)))));refine DF X X (BZ X X (nq (AF X (λh97=>?_) (λh97=>?_))))
    ·refine sx_region (yb X (gp1 M 4 X X X KE λw20 M=>nq (sx_seq (CY 7 CH gkr ?_))));have M:=M.drew;refine sa X (AK (xs:=[AC i.id,str i.mdl,.int .u8 2,.slice A90 i.vars.length c90,.slice A' L'.length c']) X X (M.rdBlk 4 X X) underlying33 X CF) ?_;iterate 4 refine sb X ?_
     have M:=M.pk [2,0,1,3,4,5];obtain ⟨x10,M⟩:=Mem.openMo M
     replace M:Mem w (λk=>k∈F0) [As.blk gx 137 [pg gc,.slice V i.vars.length vc,.slice x10.A on3.length x10.a,.slice x10.B dn3.length x10.b,.slice x10.C fi3.length x10.c,AC (cm3:Int)],As.own 0 139 5 (.slice x10.A on3.length x10.a) on3.length (AD Ar.cells on3),As.own 0 139 5 (.slice x10.B dn3.length x10.b) dn3.length (AD Ar.cells dn3),As.own 0 9 1 (.slice x10.C fi3.length x10.c) fi3.length (AD C0 fi3),As.own w.heap.size 103 5 (.slice A90 i.vars.length c90) i.vars.length (AD Bd.cells i.vars),As.own w.heap.size 56 9 (.slice A' L'.length c') L'.length (AD Tk.cells L'),As.blk g14 50 [AC 0,str [],.int .u8 0,.slice none 0 0,.slice none 0 0,AC 0,.slice none 0 0],As.blk g8 33 [AC i.id,str i.mdl,.int .u8 2,.slice A90 i.vars.length c90,.slice A' L'.length c'],As.own bk 56 9 (.slice K kept.length kc) kept.length (AD Tk.cells kept)] w20.drew:=M
     refine EB M 0 X X X (sa X (AY (parts:=[(0,_),(1,_),(2,_)]) X X (IN _ _ _ _ _ _ _ _ _)) (C8 (BD M 6 X X BU X λw21 M=>yb X (gnr (B1 X X (M.rdBlk 6 X X) underlying50 X BU X ?_)))));obtain ⟨he1,hrst⟩:er=0∧bZ c (⟨on3,dn3,fi3,cm3⟩:Mo):=hres.elim id (λh=>by rw [h.1] at h72;cases h72);obtain ⟨hle,rfl,rfl⟩:next+((ls.filter (λa:Ar => !decide (0<a.rests))).length:Int)≤2147483647∧L'=HK c kept ls next clock∧nx=next+((ls.filter (λa:Ar => !decide (0<a.rests))).length:Int):=hres2.elim (λh=>by rw [h.1] at h85;cases h85) (λh=>h.2);refine ⟨M.fr,λw2 hw2=>.inr ⟨(⟨on3,dn3,fi3,cm3⟩:Mo),ls,A90,c90,A',c',x10.C,x10.c,?_,hRn,⟨hIv9,hf9l⟩,hrst,hpl,hle,M.rdAgr 4 X hw2,M.rdAgr 5 X hw2,M.rdAgr 3 X hw2⟩⟩;rw [gU,if_pos h97]
    ·refine sx_skip (qx_seq (sx_seq (CY 7 CH gkr ?_)));have M:=M.drew;refine sa X (AK (xs:=[AC i.id,str i.mdl,.int .u8 1,.slice A90 i.vars.length c90,.slice A' L'.length c']) X X (M.rdBlk 4 X X) underlying33 X CF) ?_;iterate 4 refine sb X ?_
     have M:=M.pk [2,0,1,3,4,5];obtain ⟨x11,M⟩:=Mem.openMo M
     replace M:Mem w (λk=>k∈F0) [As.blk gx 137 [pg gc,.slice V i.vars.length vc,.slice x11.A on3.length x11.a,.slice x11.B dn3.length x11.b,.slice x11.C fi3.length x11.c,AC (cm3:Int)],As.own 0 139 5 (.slice x11.A on3.length x11.a) on3.length (AD Ar.cells on3),As.own 0 139 5 (.slice x11.B dn3.length x11.b) dn3.length (AD Ar.cells dn3),As.own 0 9 1 (.slice x11.C fi3.length x11.c) fi3.length (AD C0 fi3),As.own w.heap.size 103 5 (.slice A90 i.vars.length c90) i.vars.length (AD Bd.cells i.vars),As.own w.heap.size 56 9 (.slice A' L'.length c') L'.length (AD Tk.cells L'),As.blk g14 50 [AC 0,str [],.int .u8 0,.slice none 0 0,.slice none 0 0,AC 0,.slice none 0 0],As.blk g8 33 [AC i.id,str i.mdl,.int .u8 1,.slice A90 i.vars.length c90,.slice A' L'.length c'],As.own bk 56 9 (.slice K kept.length kc) kept.length (AD Tk.cells kept)] w19.drew:=M
     refine EB M 0 X X X (sa X (AY (parts:=[(0,_),(1,_),(2,_)]) X X (IN _ _ _ _ _ _ _ _ _)) (C8 (BD M 6 X X BU X λw22 M=>yb X (gnr (B1 X X (M.rdBlk 6 X X) underlying50 X BU X ?_)))));obtain ⟨he1,hrst⟩:er=0∧bZ c (⟨on3,dn3,fi3,cm3⟩:Mo):=hres.elim id (λh=>by rw [h.1] at h72;cases h72);obtain ⟨hle,rfl,rfl⟩:next+((ls.filter (λa:Ar => !decide (0<a.rests))).length:Int)≤2147483647∧L'=HK c kept ls next clock∧nx=next+((ls.filter (λa:Ar => !decide (0<a.rests))).length:Int):=hres2.elim (λh=>by rw [h.1] at h85;cases h85) (λh=>h.2);refine ⟨M.fr,λw2 hw2=>.inr ⟨(⟨on3,dn3,fi3,cm3⟩:Mo),ls,A90,c90,A',c',x11.C,x11.c,?_,hRn,⟨hIv9,hf9l⟩,hrst,hpl,hle,M.rdAgr 4 X hw2,M.rdAgr 5 X hw2,M.rdAgr 3 X hw2⟩⟩;rw [gU,AM h97]
theorem mL (we:World) (m:Md) (gc:Nat) (c:CrA) (Fc:List Nat) (i:In) (V T K A:Option Addr) (vc tc kc cf bf bk:Nat) (kept:List Tk) (flow:List UInt8) (fired:List (List UInt8)) (next clock:Int) (F0:List Nat) (w:World) (ho:MdOk m) (R:Rl m) (hvl:i.vars.length≤1000) (hok:BdOk i.vars) (hV:Rd we V (i.vars.length*5) (AD Bd.cells i.vars)) (hY:Lay0 we) (hC:CourseN we m gc c Fc) (hwe:Fr0 we w) (hFe:∀g∈F0,we.heap.size≤g)
 (hkF:∀t∈kept,t.loc=[]→c.isF t.on=true) (hflow:c.isF flow=true) (hk:kept.length≤300) (hfi:fired.length≤2) (hn1:0≤next) (hn2:next≤2147483647) (M0:Mem w (λk=>k∈F0) [As.own bf 9 1 (.slice A fired.length cf) fired.length (AD C0 fired),As.own bk 56 9 (.slice K kept.length kc) kept.length (AD Tk.cells kept)] w) :
 Calls prog 27 #[pg gc,.agg (In.cells i V T vc tc).toArray,.slice K kept.length kc,str flow,.slice A fired.length cf,AC next,AC clock] w λe w'=>Fr (λk=>k∈F0) w w'∧∀w2,N7 w.heap.size F0 w' w2→MvD m c i kept flow fired next clock e w2:=
 VE we m gc c Fc i V T K A vc tc kc cf bf bk kept flow fired next clock F0 w ho R hvl hV hC hwe hFe hkF hflow hk hfi hn1 hn2 M0 vS (rW we m gc c Fc V vc i.vars ho R AA hok hV hY hC) (λ_ _=>trivial)
end Go.Proofs.YtaheakjfkpkefaaGreatDoor
