/- Lemmas. -/
import Derived.Test.YtaheakjfkpkefaaGreatDoorVMl1
import Derived.Test.YtaheakjfkpkefaaGreatDoorVRnd
set_option maxHeartbeats 16000000
set_option maxRecDepth 100000
namespace Go.Proofs.YtaheakjfkpkefaaGreatDoor
open Go.RowKit
open Tryz
def As.yl (J:List Ht→List Nat→World→Prop) (hJk:∀(hs:List Ht) (F:List Nat) (w w':World),(∀g∈F,g<w.heap.size→w'.heap[g]?=w.heap[g]?)→J hs F w→J hs F w') (hs:List Ht) (F:List Nat):As:=⟨F,J hs F,λh hb=>hJk hs F _ _ h hb⟩
theorem Mem.one2 {J:List Ht→List Nat→World→Prop} {hJk:∀(hs:List Ht) (F:List Nat) (w w':World),(∀g∈F,g<w.heap.size→w'.heap[g]?=w.heap[g]?)→J hs F w→J hs F w'} {hs:List Ht} {F:List Nat} {w:World} (h:J hs F w) (hF:∀g∈F,g<w.heap.size):Mem w (λk=>k∈F) [As.yl J hJk hs F] w where
 fr:=Fr.refl
 ok i a hi:=by
  cases i with
  | zero=>simp only [List.getElem?_cons_zero,Option.some.injEq] at hi;subst hi;exact h
  | succ i=>simp at hi
 lt i a hi g hg:=by
  cases i with
  | zero=>simp only [List.getElem?_cons_zero,Option.some.injEq] at hi;subst hi;exact ⟨hF g hg,.inr hg⟩
  | succ i=>simp at hi
 apart i j a b hi hj hne:=by
  cases i<;>cases j<;>simp at hi hj<;>omega
structure HIn (w:World) (A:Option Addr) (cp:Nat) (l:List Pa) (gl ga:Nat) (fa:FuncId) (gm:Nat):Prop where
 pts:Pts w A l
 lay:Lay0 w
 gl:Blk w gl 29 [.slice A l.length cp]
 ga:Blk w ga 75 [.func (.func fa) #[] #[.pointer (some ⟨gm,0,none⟩)]]
theorem rE {l:List Pa} {ss:List St} {i:Nat} {s:St} (hp:SsP l ss) (h:ss[i]?=some s):∃k x,s.pl=((k:Nat):Int)∧l[k]?=some x∧runP x=true∧s.tk∈x.i.toks:=by
 obtain ⟨k,x,h1,h2⟩:=O7 (hp.perm.mem_iff.1 (List.mem_of_getElem? h));exact ⟨k,x,by rw [h1,Nat.zero_add],h2⟩
theorem KG {x:Pa} {w:World} (hx:PaOk w x) (hr:runP x=true):∃gc,x.p=some ⟨gc,0,none⟩∧CourseN w x.m gc x.c x.F∧HM x.m=true∧MdOk x.m:=by
 rcases hx.cr with h|h
 ·rw [runP,h] at hr;cases hr
 ·exact h
theorem qG {x:Pa} {w:World} (hx:PaOk w x) (hr:runP x=true) (t:Tk) :
 Calls prog 45 #[.pointer x.p,.slice x.V x.i.vars.length x.vc,.agg t.cells.toArray] w λe w'=>∃A c',e=.returned (.tuple #[.slice A (D7 x.m x.c t x.i.vars).1.length c',AC (D7 x.m x.c t x.i.vars).2])∧w'.ownsRow w.heap.size 72 5 (.slice A (D7 x.m x.c t x.i.vars).1.length c') (D7 x.m x.c t x.i.vars).1.length (AD Wt.cells (D7 x.m x.c t x.i.vars).1)∧Fr0 w w':=by
 obtain ⟨gc,h,hC,hn,ho⟩:=KG hx hr;rw [h];exact jU x.m gc x.c x.F t x.V x.vc x.i.vars w ho hC (by have:=hx.bd.len;omega) hx.V
theorem vG {x:Pa} {w:World} (hx:PaOk w x) (hr:runP x=true) (t:Tk):(D7 x.m x.c t x.i.vars).1.length≤20000:=by
 obtain ⟨gc,h,hC,hn,ho⟩:=KG hx hr
 have:=PZ ho hC t
 unfold D7
 split
 ·exact Nat.zero_le _
 ·split
  ·exact Nat.zero_le _
  ·rw [List.length_map];exact this
theorem QB {α:Type} {p:α→Bool}:∀(l:List α) (i:Nat),(l.find? p=none∧ixJ (λ_=>p) i l = -1)∨∃j a,ixJ (λ_=>p) i l=((i+j:Nat):Int)∧l[j]?=some a∧l.find? p=some a
 | [],_=>.inl ⟨rfl,rfl⟩
 | x::r,i=>by
  by_cases h:p x=true
  ·exact .inr ⟨0,x,by rw [ixJ,if_pos h];rfl,rfl,by rw [List.find?_cons_of_pos h]⟩
  ·rw [List.find?_cons_of_neg h,ixJ,if_neg h];rcases QB r (i+1) with h1|⟨j,a,h1,h2,h3⟩
   ·exact .inl h1
   ·exact .inr ⟨j+1,a,by rw [h1];congr 1;omega,h2,h3⟩
theorem nB {α:Type} {p:α→Bool} {l:List α} (h:0≤ixJ (λ(_:Nat)=>p) 0 l):∃j a,ixJ (λ(_:Nat)=>p) 0 l=((j:Nat):Int)∧l[j]?=some a∧l.find? p=some a:=by
 rcases QB (p:=p) l 0 with ⟨_,h1⟩|⟨j,a,h1,h2⟩
 ·omega
 ·exact ⟨j,a,by rw [h1,Nat.zero_add],h2⟩
theorem TD {α:Type} {p:α→Bool} {l:List α} (h:decide ((0:Int)≤ixJ (λ(_:Nat)=>p) 0 l)=false):l.find? p=none:=by
 have h:=odf h;rcases QB (p:=p) l 0 with ⟨h1,_⟩|⟨j,a,h1,h2⟩
 ·exact h1
 ·omega
def LD (ap:Pa→Wt→Bool) (x:Pa) (s:St):Option Ht:=if (D7 x.m x.c s.tk x.i.vars).2=0 then ((D7 x.m x.c s.tk x.i.vars).1.find? (ap x)).map (λwt=>⟨s.pl,s.tk.id,wt.via⟩) else none
def D5 (l:List Pa) (ap:Pa→Wt→Bool) (ss:List St):List Ht:=ss.filterMap λs=>(l[s.pl.toNat]?).bind λx=>LD ap x s
section
variable {ap:Pa→Wt→Bool} {x:Pa} {s:St}
theorem WW (h:(!decide ((D7 x.m x.c s.tk x.i.vars).2=(0:Int)))=true):LD ap x s=none:=if_neg (odf (C5 h))
theorem TJ (h:(!decide ((D7 x.m x.c s.tk x.i.vars).2=(0:Int)))=false) (hf:(D7 x.m x.c s.tk x.i.vars).1.find? (ap x)=none):LD ap x s=none:=by rw [LD,if_pos (odt (BL h)),hf];rfl
theorem PM {wt:Wt} (h:(!decide ((D7 x.m x.c s.tk x.i.vars).2=(0:Int)))=false) (hf:(D7 x.m x.c s.tk x.i.vars).1.find? (ap x)=some wt):LD ap x s=some ⟨s.pl,s.tk.id,wt.via⟩:=by rw [LD,if_pos (odt (BL h)),hf];rfl
variable {l:List Pa} {ss ss':List St} {go:Bool} {hs:List Ht} {k:Nat}
theorem OE (hk:s.pl=(k:Int)) (hx:l[k]?=some x):D5 l ap (ss++[s])=D5 l ap ss++(LD ap x s).toList:=by
 have:(l[s.pl.toNat]?).bind (λx=>LD ap x s)=LD ap x s:=by rw [hk,Int.toNat_natCast,hx];rfl
 rw [D5,List.filterMap_append]
 congr 1
 rw [List.filterMap_cons,this]
 cases LD ap x s<;>rfl
theorem Z3 {i:Nat} {A:Option Addr} {w:World} {B:Prop} (hE:hs=D5 l ap (ss.take i)∧B) (hp:SsP l ss) (hP:Pts w A l):hs.length≤2400:=by
 have h1:hs.length≤(ss.take i).length:=by rw [hE.1];exact List.length_filterMap_le _ _
 have h2:(ss.take i).length≤ss.length:=by rw [List.length_take];omega
 have h3:=hp.perm.length_eq;have h4:=SO (l:=l) (j:=0) λx hx=>(hP.ok x hx).tl
 have h5:=hP.len;omega
theorem NE (hE:hs=D5 l ap ss∧(go=true∨hs=[])) (ht:ss'=ss++[s]) (hk:s.pl=(k:Int)) (hx:l[k]?=some x) (hn:LD ap x s=none):hs=D5 l ap ss'∧(go=true∨hs=[]):=by
 rw [ht,OE hk hx,hn,←hE.1];exact ⟨(List.append_nil _).symm,hE.2⟩
theorem TI {h:Ht} (hE:hs=D5 l ap ss∧(go=true∨hs=[])) (ht:ss'=ss++[s]) (hk:s.pl=(k:Int)) (hx:l[k]?=some x) (hn:LD ap x s=some h) (hg:go=true):hs++[h]=D5 l ap ss'∧(go=true∨hs++[h]=[]):=by
 rw [ht,OE hk hx,hn,←hE.1];exact ⟨rfl,.inl hg⟩
variable {J:List Ht→List Nat→World→Prop} {hJk:∀(hs:List Ht) (F:List Nat) (w w':World),(∀g∈F,g<w.heap.size→w'.heap[g]?=w.heap[g]?)→J hs F w→J hs F w'} {F0 F1:List Nat} {w w':World} {Ls:List As} {e:Ending}
theorem iN (he:e=.returned (.tuple #[])) (hp:SsP l ss) (M:Mem w (λk=>k∈F0) Ls w') (i:Nat) (hi:Ls[i]?=some (As.yl J hJk hs F1)) (hE:hs=D5 l ap (ss.take ss.length)∧(go=true∨hs=[])) :
 e=.returned (.tuple #[])∧∃(ss:List St) (hs:List Ht) (F':List Nat),SsP l ss∧hs=(if go=true then D5 l ap ss else (D5 l ap ss).take 1)∧J hs F' w'∧Fr (λk=>k∈F0) w w'∧∀g∈F',g∈F0∨(w.heap.size≤g∧g<w'.heap.size):=by
 rw [List.take_length] at hE
 refine ⟨he,ss,hs,F1,hp,?_,M.ok i _ hi,M.fr,λg hg=>?_⟩
 ·split
  ·exact hE.1
  ·rename_i hg
   rw [←hE.1,hE.2.resolve_left hg];rfl
 ·have:=M.lt i _ hi g hg
  exact this.2.symm.imp id λh=>⟨h,this.1⟩
theorem iM {h:Ht} {q:Nat} (he:e=.returned (.tuple #[])) (hp:SsP l ss) (M:Mem w (λk=>k∈F0) Ls w') (i:Nat) (hi:Ls[i]?=some (As.yl J hJk (hs++[h]) F1)) (hE:hs=D5 l ap (ss.take q)∧(go=true∨hs=[])) (hs':ss[q]?=some s) (hk:s.pl=((k:Nat):Int)) (hx:l[k]?=some x) (hn:LD ap x s=some h) (hg:go=false) :
 e=.returned (.tuple #[])∧∃(ss:List St) (hs:List Ht) (F':List Nat),SsP l ss∧hs=(if go=true then D5 l ap ss else (D5 l ap ss).take 1)∧J hs F' w'∧Fr (λk=>k∈F0) w w'∧∀g∈F',g∈F0∨(w.heap.size≤g∧g<w'.heap.size):=by
 have h0:hs=[]:=hE.2.resolve_left (by rw [hg];decide);refine ⟨he,ss,hs++[h],F1,hp,?_,M.ok i _ hi,M.fr,λg hg=>?_⟩
 ·rw [if_neg (by rw [hg];decide),←List.take_append_drop (q+1) ss,D5,List.filterMap_append,AP hs']
  have:=OE (ap:=ap) (ss:=ss.take q) hk hx
  rw [hn,←hE.1,h0] at this
  unfold D5 at this
  rw [this,h0];rfl
 ·have:=M.lt i _ hi g hg
  exact this.2.symm.imp id λh=>⟨h,this.1⟩
end
theorem JY (a0:Int) (a1:Int) (a2:List UInt8):prog.built 38 [(0,AC a0),(1,AC a1),(2,str a2)]=some #[AC a0,AC a1,str a2]:=by kernel_rfl
theorem nM (ga gp:Nat) (fa:FuncId) (gm:Nat) (x:Pa) (wt:Wt) (b:Bool) (w:World) (hfa:∀(ar:Array Value) (w:World),(callFunc fa ar).run prog w=.ok (.enter fa ar) w) (hba:Blk w ga 75 [.func (.func fa) #[] #[pg gm]]) (hbp:Blk w gp 36 (Pa.cells x))
 (hask:∀w1,Fr0 w w1→Calls prog fa #[.agg (Pa.cells x).toArray,.agg (Wt.cells wt).toArray,pg gm] w1 (BI w1 (.bool b))) :
 Calls prog 47 #[.agg (Wt.cells wt).toArray,pg ga,pg gp] w (BI w (.bool b)):=by
 refine BH func47 ntmps47 X λM=>srg (CC M X X λg3 w1 hg3 M=>AJ X (srg (yl X X (Blk.c (hba.fr0 M.fr) 0 X) (ya X (AK (xs:=[.pointer x.p,AC x.i.id,str x.i.mdl,.int .u8 (x.i.st.toNat:Int),.slice x.V x.i.vars.length x.vc,.slice x.T x.i.toks.length x.tc]) X X (DZ (hbp.fr0 M.fr) 0 6 X X) underlying36 X ER) (CB M 0 X X underlying72 CR X (LZ M 8 X (BJ X X X hfa) (hask _ M.fr) λw2 M=>yb X (sxl_nil ?_)))))))
 exact qx_seq (sx_ret (gr1 X ⟨X,M.fr⟩))
theorem tI {α:Type} (cells:α→List Value) (hk:∀x,(cells x).length=5) (A:Option Addr) (c:Nat) (l:List α) (hl:l.length≤4611686018427387904) (f:FuncId) (cs:List Value) (p:Nat→α→Bool) (S:Nat→Prop) (J:Nat→World→Prop) (w:World) (hP:PredJ prog f cs (λx=>.agg (cells x).toArray) l p S J w) (hR:∀w1,Fr S w w1→Rd w1 A (l.length*5) (AD cells l)) (hJ:J 0 w) :
 Calls prog 46 #[.slice A l.length c,.func (.func f) #[] cs.toArray] w λe w'=>e=.returned (AC (ixJ p 0 l))∧J (ixN p 0 l) w'∧Fr S w w':=by
 refine sx_enter (vs:=[_,_]) func46 X ntmps46 X ?_;have M:Mem w S [] w:=Mem.nil w;refine srg (AJ X (sx_seq (AE X (DF X X (AJ X (sx_block (JJ M [7,1,0] (λze zF e wr mz=>∃(i:Nat),e=(8,AC (i:Int))::ze∧zF wr∧(i≤l.length)∧(J i wr)∧(ixJ p 0 l=ixJ p i (l.drop i))∧(ixN p 0 l=ixN p i (l.drop i))∧mz=l.length-i) ⟨0,X,M,Nat.zero_le _,hJ,X,X,X⟩ ?_)))))));rintro _ w1 _ ⟨i,rfl,M,hi,hJ,hr,hn,rfl⟩;refine srg (BB X X (nq (sx_seq (AF X (λh9=>?_) (λh9=>?_)))))
 ·have h9p:=(odt h9);refine sx_skip (qx_seq (sx_seq (sx_block (AE X (AJ X (AE X (AV X X ?_)))))));obtain ⟨x,hx⟩:=BM (l:=l) (i:=i) AA;obtain ⟨b_x,o_x,hA_x⟩:=B5 (k:=5) AA (hR _ M.fr) hx;refine ya X (AN i hA_x X X X (sl X) AA) (ya X (AK X X (B6 hk (hR _ M.fr) hA_x hx) underlying72 X CR) (cl 16 X (BJ X X X hP.fn) (hP.call i x _ hx M.fr hJ) ?_));rintro _ w9 ⟨rfl,hJ,hf9⟩;refine ⟨_,X,?_⟩;have M:Mem w S [] w9:=Mem.ofFr (M.fr.trans hf9);refine nq (AF X (λh16=>?_) (λh16=>?_))
  ·exact AE X (yb X (gnr (qx_block_ret (qx_then_ret (qx_then_ret (qx_block_ret (qx_then_ret (gr1 X ⟨by rw [hr,AZ hx,ixJ,if_pos h16],by rw [hn,AZ hx,ixN,if_pos h16];exact hJ,M.fr⟩))))))))
  ·refine sx_skip (qx_block_normal (qx_seq (sx_region (BV X X (yb X (sxl_nil (fag ⟨i+1,X,M,?_,?_,?_,?_,X⟩)))))))
   ·omega
   ·exact hJ
   ·rw [hr,AZ hx,ixJ,AM h16]
   ·rw [hn,AZ hx,ixN,AM h16]
 ·have h9p:=(odf h9);refine sx_exit (qx_then_exit (qx_then_exit (qx_block_hit (qx_seq (AE X (gnr (gr1 X ?_)))))));obtain rfl:i=l.length:=by omega
  exact ⟨by rw [hr,List.drop_length];rfl,by rw [hn,List.drop_length];exact hJ,M.fr⟩
theorem Z4 (A:Option Addr) (cp:Nat) (l:List Pa) (gl ga:Nat) (fa:FuncId) (gm:Nat) (ap:Pa→Wt→Bool) (go:Bool) (lr:Nat) (J:List Ht→List Nat→World→Prop) (hJk:∀(hs:List Ht) (F:List Nat) (w w':World),(∀g∈F,g<w.heap.size→w'.heap[g]?=w.heap[g]?)→J hs F w→J hs F w') (F0:List Nat) (w:World) (hJ:J [] F0 w) (hF0:∀g∈F0,g<w.heap.size)
 (hfa:∀(ar:Array Value) (w:World),(callFunc fa ar).run prog w=.ok (.enter fa ar) w) (hPt:∀w1,Fr (λk=>k∈F0) w w1→HIn w1 A cp l gl ga fa gm)
 (hask:∀x∈l,runP x=true→∀(wt:Wt) (w1:World),Fr (λk=>k∈F0) w w1→Calls prog fa #[.agg (Pa.cells x).toArray,.agg (Wt.cells wt).toArray,pg gm] w1 (BI w1 (.bool (ap x wt))))
 (hround:∀(hs:List Ht) (F:List Nat) (h:Ht) (w1:World),hs.length≤2400→J hs F w1→(go=true∨hs=[])→∃r,w1.heap[lr]?=some (.loop r)∧r.params.size=1∧RoundIn Fence.wide 2 prog lr r.fn ((r.params.zip [Value.agg (Ht.cells h).toArray].toArray).foldl (λtmps (t,a)=>tmps.setIfInBounds t a) r.tmps) r.assign r.body w1 (λe w'=>e=.returned (.bool go)∧∃F',J (hs++[h]) F' w'∧Fr (λk=>k∈F) w1 w'∧∀g∈F',g∈F∨(w1.heap.size≤g∧g<w'.heap.size))) :
 Calls prog 43 #[.func (.yield lr) #[] #[],pg gl,pg ga] w λe w'=>e=.returned (.tuple #[])∧∃(ss:List St) (hs:List Ht) (F':List Nat),SsP l ss∧hs=(if go=true then D5 l ap ss else (D5 l ap ss).take 1)∧J hs F' w'∧Fr (λk=>k∈F0) w w'∧∀g∈F',g∈F0∨(w.heap.size≤g∧g<w'.heap.size):=by
 refine sx_enter (vs:=[_,_,_]) func43 X ntmps43 X ?_;have M:Mem w (λk=>k∈F0) [As.yl J hJk [] F0] w:=Mem.one2 hJ hF0;refine srg (yl X X (Blk.c ((hPt _ M.fr).gl) 0 X) (cl 11 X (AG X X call44) (fF A cp l _ (hPt _ M.fr).pts (hPt _ M.fr).lay) ?_));rintro _ w1 ⟨ss,A',c',rfl,hpm,how1,hfw1⟩;refine ⟨_,X,?_⟩;have M:=M.pushOwn hfw1 (Nat.le_refl _) how1;have hL11:=M.ownLen 0 X;refine DF X X (AJ X (sx_block (flp [12,11,2,1,0] (λze e wr mz=>∃(i:Nat) (hz:List Ht) (F1:List Nat),e=(13,AC (i:Int))::ze∧Mem w (λk=>k∈F0) [As.own w.heap.size 119 10 (.slice A' ss.length c') ss.length (AD St.cells ss),As.yl J hJk hz F1] wr∧(i≤ss.length)∧(hz=D5 l ap (ss.take i)∧(go=true∨hz=[]))∧mz=ss.length-i) ⟨0,[],F0,X,M,Nat.zero_le _,⟨X,.inr X⟩,X⟩ ?_)));rintro _ w2 _ ⟨i,hz,F1,rfl,M,hi,hE,rfl⟩;refine srg (BB X X (nq (sx_seq (AF X (λh14=>?_) (λh14=>?_)))))
 ·have h14p:=(odt h14);refine sx_skip (qx_seq (sx_seq (sx_block (srg ?_))));obtain ⟨s,hs⟩:=BM (l:=ss) (i:=i) AA;obtain ⟨b_s,o_s,hA_s⟩:=B5 (k:=10) AA (M.rdOwn 0 X) hs;refine ya X (AN i hA_s X X X (sl X) AA) (ya X (AK X X (B6 St.len (M.rdOwn 0 X) hA_s hs) underlying119 X BS) (CI M X VX λg5 w3 hg5 M=>BD M 0 X X BS X λw4 M=>EV (yl X X (Blk.c ((hPt _ M.fr).gl) 0 X) (yb X ?_))));obtain ⟨k,x,hk,hx,hrun,hmem⟩:=rE hpm hs;refine ya X (BF X X (sc X) (show Cell _ g5 0 (AC ((k:Nat):Int)) from hk▸M.cell 0 rfl rfl)) ?_;have hkl:k<l.length:=(List.getElem?_eq_some_iff.1 hx).1;obtain ⟨b3_x,o3_x,hA3_x⟩:=B5 (k:=6) AA ((hPt _ M.fr).pts.rd) hx;refine ya X (AN k hA3_x X X X (sl X) AA) (ya X (AK X X (B6 Pa.len ((hPt _ M.fr).pts.rd) hA3_x hx) underlying36 X ER) (CI M X K0 λg6 w5 hg6 M=>BD M 0 X X ER X λw6 M=>nq (AE X (AU M 0 X X X (AV X X (AU M 0 X X X (yb X ?_)))))));refine ya X (AK (xs:=[AC s.tk.id,str s.tk.loc,str s.tk.on,AC s.tk.born,AC s.tk.tries,str s.tk.worker,AC s.tk.until_,.int .u8 (s.tk.inc.toNat:Int),AC s.tk.err]) X X (DZ (M.blk 1 X) 1 9 X X) underlying56 X B4) (cl 30 X (AG X X call45) (qG ((hPt _ M.fr).pts.ok _ (List.mem_of_getElem? hx)) hrun s.tk) ?_);rintro _ w7 ⟨AW,cW,rfl,how7,hfw7⟩;refine ⟨_,X,?_⟩;have M:=M.pushOwn hfw7 (Nat.le_refl _) how7;have hL30:=M.ownLen 0 X;iterate 5 refine yb X ?_
  refine nq (sx_seq (AE X (CT X X (nq (AF X (λh34=>?_) (λh34=>?_))))))
  ·have h34p:=(odf (C5 h34));refine sx_exit (qx_then_exit (qx_block_hit (qx_seq (sx_region (BV X X (yb X (sxl_nil (fag ⟨i+1,hz,F1,X,(M.pk [3,4]),?_,?_,X⟩))))))))
   ·omega
   ·first
     | exact NE hE (AP hs) hk hx (WW h34)
     | exact NE hE (AP hs) hk hx (TJ h34 (TD h40))
     | exact TI hE (AP hs) hk hx (PM h34 hfd) (by simpa using h55)
  ·have h34p:=(odt (BL h34));refine sx_skip (qx_seq (AE X (ya X (CP (us:=[]) (vs:=[pg ga,pg g6]) X X X) ?_)));have hWl:=vG ((hPt _ M.fr).pts.ok _ (List.mem_of_getElem? hx)) hrun s.tk;refine cl 37 X (AG X X call46) (tI Wt.cells Wt.len AW cW (D7 x.m x.c s.tk x.i.vars).1 AA 47 [pg ga,pg g6] (λ(_:Nat) (wt:Wt)=>ap x wt) AR (λ_ _=>True) _ (G5 call47 (λwt _ w9 hf9=>nM ga g6 fa gm x wt (ap x wt) w9 hfa (hPt _ (M.fr.then0 hf9)).ga ((M.blk 1 X).fr0 hf9) (λw8 hf8=>hask x (List.mem_of_getElem? hx) hrun wt w8 ((M.fr.then0 hf9).then0 hf8)))) (λ_ hf9=>(M.rdOwn 0 X).fr0 hf9) trivial) ?_;rintro _ w8 ⟨rfl,_,hfw8⟩;refine ⟨AC (ixJ (λ(_:Nat) (wt:Wt)=>ap x wt) 0 (D7 x.m x.c s.tk x.i.vars).1),X,?_⟩;have M:=M.step hfw8;refine AJ X (sx_seq (kY 15 CH gkr ?_));have M:=M.drew;refine sb X (sa X (GV X X X) (sb X (DG (d:=40) X (λh40=>?_) (λh40=>?_))))
   ·have h40p:=(odt h40);obtain ⟨j,wt,hj,hw,hfd⟩:=nB (by have:=odt h40;omega);rw [hj];have hjl:j<(D7 x.m x.c s.tk x.i.vars).1.length:=(List.getElem?_eq_some_iff.1 hw).1;refine gsg X (yp X) (gsg X (yp X) (gsg X (BF X X (sc X) (M.cell 2 X X)) (gsg X (yp X) (gsg X (yp X) (gsg X (BF X X (sc X) (M.cell 2 X X)) (gsg X (yp X) (gsg X (yp X) ?_)))))));obtain ⟨b5_wt,o5_wt,hA5_wt⟩:=B5 (k:=5) AA (M.rdOwn 0 X) hw;refine gsg X (AN j hA5_wt X X X (sl X) AA) (gsg X (yp X) (gsg X (BF X X (sc X) (D9 Wt.len (M.rdOwn 0 X) hA5_wt hw 0 X)) (gsg X (AY (parts:=[(0,_),(1,_),(2,_)]) X X (JY _ _ _)) (V3 ?_))));obtain ⟨r,hr,hps,hro⟩:=hround hz F1 (⟨s.pl,s.tk.id,wt.via⟩:Ht) _ (Z3 hE hpm (hPt _ M.fr).pts) (M.ok 4 _ X) hE.2;refine Sf.sxl_round (some 53) (Sf.wn_on X X X) X X X X X hr (by rw [hps];rfl) hro ?_;rintro _ w9 ⟨rfl,F2,hJ2,hfw9,hF2⟩;refine ⟨_,X,?_⟩;have M:=M.upd 4 X hfw9 (As.yl J hJk (hz++[(⟨s.pl,s.tk.id,wt.via⟩:Ht)]) F2) hJ2 hF2;refine Sf.sxl_y (Sf.wn_on X X X) X X (yp X) (Sf.sxl_y (Sf.wn_none X) X X (yp X) (cX (qx_seq (AF X (λh55=>?_) (λh55=>?_)))))
    ·have h55p:=(C5 h55);exact sx_ret (qx_block_ret (qx_then_ret (qx_then_ret (qx_block_ret (qx_ret0 (Or.inl X) X (iM X hpm M 4 X hE hs hk hx (PM h34 hfd) (by simpa using h55)))))))
    ·have h55p:=(BL h55);refine sx_skip (qx_block_normal (qx_seq (sx_region (BV X X (yb X (sxl_nil (fag ⟨i+1,(hz++[(⟨s.pl,s.tk.id,wt.via⟩:Ht)]),F2,X,(M.pk [3,4]),?_,?_,X⟩)))))))
     ·omega
     ·first
       | exact NE hE (AP hs) hk hx (WW h34)
       | exact NE hE (AP hs) hk hx (TJ h34 (TD h40))
       | exact TI hE (AP hs) hk hx (PM h34 hfd) (by simpa using h55)
   ·have h40p:=(odf h40);iterate 12 refine DD X X X X X X ?_
    refine V3 (Sf.sxl_off X X X X X X (Sf.sxl_off X X X X X X (Sf.sxl_y (Sf.wn_none X) X X (yp X) (cX (qx_seq (sx_false X (sx_skip (qx_block_normal (qx_seq (sx_region (BV X X (yb X (sxl_nil (fag ⟨i+1,hz,F1,X,(M.pk [3,4]),?_,?_,X⟩))))))))))))))
    ·omega
    ·first
      | exact NE hE (AP hs) hk hx (WW h34)
      | exact NE hE (AP hs) hk hx (TJ h34 (TD h40))
      | exact TI hE (AP hs) hk hx (PM h34 hfd) (by simpa using h55)
 ·have h14p:=(odf h14);refine sx_exit (qx_then_exit (qx_then_exit ?_));obtain rfl:i=ss.length:=by omega
  exact qx_block_hit (qx_ret0 (Or.inr X) X (iN X hpm M 1 X hE))
end Go.Proofs.YtaheakjfkpkefaaGreatDoor
