/- Lemmas. -/
import Derived.Test.YtaheakjfkpkefaaGreatDoorVMiP
set_option maxHeartbeats 16000000
set_option maxRecDepth 100000
namespace Go.Proofs.YtaheakjfkpkefaaGreatDoor
open Go.RowKit
open Tryz
theorem f8 {e:Env} {w:World} {o:Oper} {x:Operand} {b:El} (ho:o.op=.field 95 x 10) (hx:ev e x=some (.agg b.cells.toArray)):Y prog e o w (AC b.tries):=λρ h=>by
 unfold execOp
 simp [ho,h _ _ hx,Instr.field,run_underlying underlying95,asAgg,part,isAgg3,El.cells]
def MI (l:List Ar) (k:Int):Bool:=l.any λa=>decide (a.rests=k)&&decide (0<a.rests)
theorem rJ {l l':List Ar} {f:Int→Option Value} {z:Ar} (h:∀k,(f k).getD (.bool false)=.bool (MI l k)) (hl:l'=l++[z]):∀k,(upd f z.rests (.bool (decide ((0:Int)<z.rests))) k).getD (.bool false)=.bool (MI l' k):=λk=>by
 subst hl;unfold upd
 by_cases hk:k=z.rests
 ·rw [if_pos hk];have h1:MI (l++[z]) k=(MI l k || decide (0<z.rests)):=by unfold MI;rw [List.any_append];simp [hk]
  rw [h1]
  by_cases h0:0<z.rests
  ·rw [decide_eq_true h0,Bool.or_true];rfl
  ·have h2:MI l k=false:=by
    unfold MI;rw [List.any_eq_false];intro a _;simp only [Bool.and_eq_true,decide_eq_true_eq,not_and];omega
   rw [h2,decide_eq_false h0];rfl
 ·rw [if_neg hk,h k]
  congr 1
  unfold MI;rw [List.any_append]
  have:¬z.rests=k:=λe=>hk e.symm
  simp [this]
def T5 (c:CrA) (clock id:Int) (a:Ar):Tk:=if (!decide (a.at_=[]))=true then ⟨id,a.at_,[],clock,(c.atf a.at_).tries,[],0,0,0⟩ else if a.stops=true then ⟨id,[],a.flow,0,0,[],0,1,91⟩ else ⟨id,[],a.flow,0,0,[],0,0,0⟩
section
variable {c:CrA} {clock id:Int} {a:Ar}
theorem RT (h:(!decide (a.at_=[]))=true):T5 c clock id a=⟨id,a.at_,[],clock,(c.atf a.at_).tries,[],0,0,0⟩:=if_pos h
theorem NC (h:(!decide (a.at_=[]))=false) (h2:a.stops=true):T5 c clock id a=⟨id,[],a.flow,0,0,[],0,1,91⟩:=by rw [T5,AM h,if_pos h2]
theorem RS (h:(!decide (a.at_=[]))=false) (h2:a.stops=false):T5 c clock id a=⟨id,[],a.flow,0,0,[],0,0,0⟩:=by rw [T5,AM h,AM h2]
end
def OB (c:CrA) (clock:Int):Int→List Ar→List Tk
 | _,[]=>[]
 | n,a::r=>T5 c clock (n+1) a::OB c clock (n+1) r
theorem KJ (c:CrA) (clock:Int) (a:Ar):∀(l:List Ar) (n:Int),OB c clock n (l++[a])=OB c clock n l++[T5 c clock (n+(l.length:Int)+1) a]
 | [],n=>by simp [OB]
 | b::r,n=>by
  rw [List.cons_append,OB,OB,KJ c clock a r (n+1),List.cons_append]
  congr 3
  simp only [List.length_cons];congr 1;omega
def HK (c:CrA) (kept:List Tk) (ls:List Ar) (next clock:Int):List Tk:=kept.filter (λt:Tk=>(!decide (t.loc=[])) || MI ls t.id)++OB c clock next (ls.filter (λa:Ar => !decide (0<a.rests)))
theorem ML {z:Ar} (h:decide ((0:Int)<z.rests)=false):[z].filter (λa:Ar => !decide (0<a.rests))=[z]:=by simp [h]
theorem MM {z:Ar} (h:decide ((0:Int)<z.rests)=true):[z].filter (λa:Ar => !decide (0<a.rests))=[]:=by simp [h]
theorem n5 {ls:List Ar} {y:Tk} (h:((!decide (y.loc=[])) || MI ls y.id)=true):[y].filter (λt:Tk=>(!decide (t.loc=[])) || MI ls t.id)=[y]:=by simp only [List.filter_cons,List.filter_nil,h,if_true]
theorem n6 {ls:List Ar} {y:Tk} (h:((!decide (y.loc=[])) || MI ls y.id)=false):[y].filter (λt:Tk=>(!decide (t.loc=[])) || MI ls t.id)=[]:=by simp only [List.filter_cons,List.filter_nil,h];rfl
theorem ZF {α:Type} (p:α→Bool) {l:List α} {k:Nat} {z:α} (hz:l[k]?=some z) (hp:p z=true):((l.take k).filter p).length+1≤(l.filter p).length:=by
 have h1:l=l.take k++z::l.drop (k+1):=by rw [←AZ hz,List.take_append_drop]
 conv=>rhs;rw [h1]
 rw [List.filter_append,List.filter_cons_of_pos hp,List.length_append,List.length_cons];omega
theorem N1 (a0:Int) (a1:List UInt8) (a3:Int) (a4:Int):prog.built 56 [(0,AC a0),(1,str a1),(3,AC a3),(4,AC a4)]=some #[AC a0,str a1,str [],AC a3,AC a4,str [],AC 0,.int .u8 0,AC 0]:=by kernel_rfl
theorem I7 : (prog.info? 56).map (λi=>(i.zero,i.size))=some (some (.agg #[AC 0,str [],str [],AC 0,AC 0,str [],AC 0,.int .u8 0,AC 0]),9):=by kernel_rfl
theorem nI (x:Int) (w:World):Calls prog 148 #[AC x] w (BI w (.bool (!(decide (x=x))))):=by
 refine BH func148 ntmps148 X λM=>srg (AJ X (AE X (yb X (CT X X (yb X (gnr (gr1 X ?_)))))))
 exact ⟨X,M.fr⟩
def KS (x y:Int):Int:=(if (!(decide (x=x)))=true then (if (!(decide (y=y)))=true then 0 else (-1)) else (if (!(decide (y=y)))=true then 1 else (if (decide (x<y))=true then (-1) else (if (decide (y<x))=true then 1 else 0))))
theorem R8 (x y:Int) (w:World):Calls prog 90 #[AC x,AC y] w (BI w (AC (KS x y))):=by
 refine BH func90 ntmps90 X λM=>srg (AJ X (AE X (CD M 8 X X call148 (nI x _) λw1 M=>AJ X (AE X ?_))))
 refine CD M 10 X X call148 (nI y _) λw2 M=>AJ X (sx_seq (srg (AJ X (AF X (λh11=>?_) (λh11=>?_)))))
 ·refine sx_seq (srg (AJ X (AF X (λh12=>?_) (λh12=>?_))))
  ·exact AE X (gnr (qx_then_ret (qx_then_ret (gr1 X ⟨by rw [KS,if_pos h11,if_pos h12]<;>rfl,M.fr⟩))))
  ·exact sx_skip (qx_seq (AE X (gnr (qx_then_ret (gr1 X ⟨by rw [KS,if_pos h11,AM h12]<;>rfl,M.fr⟩)))))
 ·refine sx_skip (qx_seq (sx_seq (srg (AJ X (AF X (λh13=>?_) (λh13=>?_))))))
  ·exact AE X (gnr (qx_then_ret (gr1 X ⟨by rw [KS,AM h11,if_pos h13]<;>rfl,M.fr⟩)))
  ·refine sx_skip (qx_seq (sx_seq (AE X (yb X (BB X X (nq (AF X (λh16=>?_) (λh16=>?_))))))))
   ·exact AE X (gnr (qx_then_ret (gr1 X ⟨by rw [KS,AM h11,AM h13,if_pos h16]<;>rfl,M.fr⟩)))
   ·refine sx_skip (qx_seq (sx_seq (AE X (yb X (IM X X (nq (AF X (λh19=>?_) (λh19=>?_))))))))
    ·exact AE X (gnr (qx_then_ret (gr1 X ⟨by rw [KS,AM h11,AM h13,AM h16,if_pos h19]<;>rfl,M.fr⟩)))
    ·exact sx_skip (qx_seq (AE X (gnr (gr1 X ⟨by rw [KS,AM h11,AM h13,AM h16,AM h19]<;>rfl,M.fr⟩))))
theorem aR (a b:Ar) (w:World):Calls prog 99 #[.agg a.cells.toArray,.agg b.cells.toArray] w (BI w (AC (KS a.order b.order))):=by
 refine BH func99 ntmps99 X λM=>srg (CC M X X λg2 w1 hg2 M=>CC M X X λg3 w2 hg3 M=>AJ X (AE X (AU M 1 X X X (yb X (AU M 0 X X X ?_)))))
 exact CD M 9 X X call90 (R8 a.order b.order _) λw3 M=>yb X (gnr (gr1 X ⟨X,M.fr⟩))
def QU (Q:Nat→Prop):Prop:=∀(base:Nat) (A:Option Addr) (c n:Nat) (l:List Ar) (w:World),Q l.length→n≤1000000000→l.length=n→w.ownsRow base 139 5 (.slice A n c) n (AD Ar.cells l) →
 Calls prog 98 #[.slice A n c,.func (.func 99) #[] #[]] w λe w'=>e=.returned (.tuple #[])∧∃l':List Ar,l'.Perm l∧w'.ownsRow base 139 5 (.slice A n c) n (AD Ar.cells l')∧Fr (λk=>k∈(Value.slice A n c).ownBlock.toList) w w'
theorem vS : QU (λ_=>True):=λbase A c n l w _ hm hn ho=>lJ base A c n 99 (λa b=>KS a.order b.order) l w call99 (λa b w=>aR a b w) hm hn ho
theorem aQ (m:Md) (gc:Nat) (c:CrA) (F:List Nat) (V:Option Addr) (vn vc gx:Nat) (σ:Mo) (F':List Nat) (K:Option Addr) (kc:Nat) (kept:List Tk) (next clock:Int) (w:World) (h1:σ.on.length≤500000) (h2:σ.done.length≤400000) (h3:kept.length≤400000) (hn1:0≤next) (hn2:next≤2147483647) (hC:CourseN w m gc c F) (hN:MoN w gc V vn vc gx σ F') (hK:Rd w K (kept.length*9) (AD Tk.cells kept)) {Q:Nat→Prop} (hS:QU Q) (hQ:Q (σ.on++σ.done).length) :
 Calls prog 55 #[pg gx,.slice K kept.length kc,AC next,AC clock] w λe w'=>∃ls:List Ar,ls.Perm (σ.on++σ.done)∧Fr0 w w'∧((2147483647<next+((ls.filter (λa:Ar => !decide (0<a.rests))).length:Int)∧e=.returned (.tuple #[.slice none 0 0,AC 0,AC 3]))∨(next+((ls.filter (λa:Ar => !decide (0<a.rests))).length:Int)≤2147483647∧∃A c',e=.returned (.tuple #[.slice A (HK c kept ls next clock).length c',AC (next+((ls.filter (λa:Ar => !decide (0<a.rests))).length:Int)),AC 0])∧w'.ownsRow w.heap.size 56 9 (.slice A (HK c kept ls next clock).length c') (HK c kept ls next clock).length (AD Tk.cells (HK c kept ls next clock)))):=by
 obtain ⟨on,dn,fi,cm⟩:=σ;obtain ⟨_,_,x,Mx⟩:=hN
 dsimp only at h1 h2 Mx
 have hbx:=Mx.blk 0 X;have hon:=Mx.rdOwn 1 X;have hdn:=Mx.rdOwn 2 X;refine BH func55 ntmps55 X λM=>AE X (yb X (AJ X (sx_seq (GP M 11 CH λM=>oc 0 11 X X M (oc 1 11 X X M (oc 2 11 X X M (ol 3 11 X X X M (λ_ M=>(Blk.c (hbx.fr0 M.fr) 2 X)) (oc 5 11 X X M (oc 6 11 X X M ?_)))))))))
 refine oc 7 11 X X M (ol 8 11 X X X M (λ_ M=>(Blk.c (hbx.fr0 M.fr) 3 X)) (BQ 4 (some 25) gkr X (wn_none X) X X (AG X X call97) (eP x.A x.a on _ AA (hon.fr0 M.fr)) ?_));rintro _ w1 ⟨A25,c25,rfl,how1,hfw1⟩;refine ⟨_,X,λ_=>M.step hfw1,?_⟩;have M:=M.pushOwn hfw1 (Nat.le_refl _) how1;refine B2 9 (some 30) gkr X (wn_none X) X X (λρ hρ=>CZ _ _ _ X w.heap.size _ _ _ _ underlying135 EP X B3 _ _ _ (hρ _ _ X) (M.own 0 X) _ _ _ _ (hρ _ _ X) (hdn.fr0 M.fr) (DS Ar.cells_one) (by unfold maxLen;first|omega|(simp;omega)) C2 M.fr.size) ?_;rintro v30 w2 ⟨ho30,hgr30,hvb30⟩
 replace ho30:World.ownsRow w2 w.heap.size 139 5 v30 ((on++dn).length) (AD Ar.cells (on++dn)):=by rw [show ((on++dn).length)=on.length+dn.length from by simp,show (AD Ar.cells (on++dn))=(AD Ar.cells on)++(AD Ar.cells dn) from by first|exact B9 _ _ _|simp [AD,Ar.cells]];exact ho30
 have M:=M.appOwn 0 X ho30 hgr30 hvb30;obtain ⟨A30,c30,rfl,_⟩:=DI ho30;refine ⟨λ_=>(M.drop 1),oc 10 11 X X (M.drop 1) (fdn (qx_seq (AE X (cl 32 X (AG X X call98) (hS w.heap.size A30 c30 ((on++dn).length) (on++dn) _ hQ (by simp;omega) X (M.own 0 X)) ?_))))⟩;rintro _ w3 ⟨rfl,ls,hpl,how3,hfw3⟩;refine ⟨_,X,?_⟩;have M:=M.upd 0 X hfw3 (As.own _ 139 5 (.slice A30 ((on++dn).length) c30) ((on++dn).length) (AD Ar.cells ls)) how3 (λg hg=>.inl hg);have hll:ls.length=(on++dn).length:=hpl.length_eq;have hlb:ls.length≤900000:=by rw [hll];simp;omega
 rw [←hll] at M ⊢
 refine EV (AJ X (srg (fK M (wn_none X) X X X λg33 w4 hg33 M=>AJ X (sx_seq (sx_seq ?_)))));refine sx_region (yb X (DF X X (AJ X (sx_block (flp [35,34,13,12,11,3,2,1,0] (λze e wr mz=>∃(i:Nat) (f:Int→Option Value),e=(36,AC (i:Int))::ze∧Mem w AR [As.mi g33 f,As.own w.heap.size 139 5 (.slice A30 ls.length c30) ls.length (AD Ar.cells ls)] wr∧(i≤ls.length)∧(∀k,(f k).getD (.bool false)=.bool (MI (ls.take i) k))∧mz=ls.length-i) ⟨0,_,X,M,Nat.zero_le _,λ_=>X,X⟩ ?_)))));rintro _ w5 _ ⟨i,f,rfl,M,hi,hf,rfl⟩;refine srg (BB X X (nq (sx_seq (AF X (λh37=>?_) (λh37=>?_)))))
 ·have h37p:=(odt h37);refine sx_skip (qx_seq (sx_seq (sx_block (srg ?_))));obtain ⟨z,hz⟩:=BM (l:=ls) (i:=i) AA;obtain ⟨b_z,o_z,hA_z⟩:=B5 (k:=5) AA (M.rdOwn 1 X) hz;refine ya X (AN i hA_z X X X (sl X) AA) (ya X (AK X X (B6 Ar.len (M.rdOwn 1 X) hA_z hz) underlying139 X B0) (CI M X FL λg15 w6 hg15 M=>BD M 0 X X B0 X λw7 M=>nq (sx_region (AV X X (AU M 0 X X X (yb X (AU M 0 X X X (IM X X (kV M 1 (wn_none X) X X X X X underlying191 underlying3 X ?_)))))))));intro w8 M;refine sxl_nil (qx_block_normal (qx_seq (sx_region (BV X X (yb X (sxl_nil (fag ⟨i+1,(upd f z.rests (.bool (decide ((0:Int)<z.rests)))),X,(M.pk [1,2]),?_,?_,X⟩)))))))
  ·omega
  ·exact rJ hf (AP hz)
 ·have h37p:=(odf h37);refine sx_exit (qx_then_exit (qx_then_exit ?_));obtain rfl:i=ls.length:=by omega
  have hF:=hf;simp only [List.take_length] at hF
  refine qx_block_hit (qx_seq (sx_seq (AE X (DF X X (AJ X (sx_block ?_))))));have M:=M.nilOwn 56 9;refine flp [48,47,13,11,3,2,0] (λze e wr mz=>∃(j:Nat) (acc:List Tk) (A12:Option Addr) (c12:Nat),e=(12,.slice A12 acc.length c12)::(49,AC (j:Int))::ze∧Mem w AR [As.own w.heap.size 56 9 (.slice A12 acc.length c12) acc.length (AD Tk.cells acc),As.mi g33 f,As.own w.heap.size 139 5 (.slice A30 ls.length c30) ls.length (AD Ar.cells ls)] wr∧(j≤kept.length)∧(acc=(kept.take j).filter (λt:Tk=>(!decide (t.loc=[])) || MI ls t.id))∧(acc.length≤j)∧mz=kept.length-j) ⟨0,[],none,0,X,M,Nat.zero_le _,X,Nat.le_refl _,X⟩ ?_;rintro _ w9 _ ⟨j,acc,A12,c12,rfl,M,hj,hacc,hal,rfl⟩;refine srg (BB X X (nq (sx_seq (AF X (λh50=>?_) (λh50=>?_)))))
  ·have h50p:=(odt h50);refine sx_skip (qx_seq (sx_seq (sx_block (srg ?_))));obtain ⟨y,hy⟩:=BM (l:=kept) (i:=j) AA;obtain ⟨b_y,o_y,hA_y⟩:=B5 (k:=9) AA (hK.fr0 M.fr) hy;refine ya X (AN j hA_y X X X (sl X) AA) (ya X (AK X X (B6 Tk.len (hK.fr0 M.fr) hA_y hy) underlying56 X B4) (CI M X EM λg17 w10 hg17 M=>BD M 0 X X B4 X λw11 M=>nq (AE X (AU M 0 X X X (ya X (GT X X X) (yb X (fvm M 5 [17,49,48,47,13,12,11,3,2,0] [(61,.bool ((!decide (y.loc=[])) || (MI ls y.id)))] ?_ (λk56=>?_))))))))
   ·intro w12 M;refine nq (AF X (λh61=>?_) (λh61=>?_))
    ·have h61p:=((E1 h61).imp (λz=>(odf (C5 z))) (λz=>z));refine sx_region (yb X (CB M 0 X X underlying56 B4 X (CN M (wn_none X) X X [.agg (Tk.cells y).toArray] (Tk.cells y) X X X X underlying31 I7 X X (FP X) X λg64 w13 hg64 M=>DE (len':=(acc++[y]).length) (xs':=AD Tk.cells (acc++[y])) M 2 (wn_none X) X X X X X X (M.rdBlk 0 X X) underlying31 FB X B3 (CL X) (Nat.le_refl _) (Nat.le_refl _) C2 (by unfold maxLen;first|omega|(simp;omega)) (by simp) (by first|exact (B9 _ _ _).symm|simp [AD,Tk.cells]) λA65 c65 w14 M=>yb X (sxl_nil (qx_block_normal (qx_seq (sx_region (BV X X (yb X (sxl_nil (fag ⟨j+1,acc++[y],A65,c65,X,(M.pk [2,3,4]),?_,?_,?_,X⟩)))))))))))
     ·omega
     ·rw [AP hy,List.filter_append,←hacc]
      first
       | rw [n5 h61]
       | (rw [n6 h61];simp)
     ·first
       | omega
       | (simp;omega)
    ·have h61p:=(And.intro (odt (BL (C6 h61).1)) (C6 h61).2);refine sx_skip (qx_block_normal (qx_seq (sx_region (BV X X (yb X (sxl_nil (fag ⟨j+1,acc,A12,c12,X,(M.pk [1,2,3]),?_,?_,?_,X⟩)))))))
     ·omega
     ·rw [AP hy,List.filter_append,←hacc]
      first
       | rw [n5 h61]
       | (rw [n6 h61];simp)
     ·first
       | omega
       | (simp;omega)
   refine AI (d:=56) X (λh56=>?_) (λh56=>?_)
   ·iterate 4 refine yo X ?_
    exact yb X (k56 M ⟨X,X,X,X,X,X,X,X,X,X,(by rw [h56];rfl),trivial⟩)
   ·exact gyq X (gyq X (CE M 0 X X X (yd X (jP X X X underlying191 underlying3 N8 (M.ok 2 _ X:Mi _ _ _) (hF y.id)) (yb X (k56 M ⟨X,X,X,X,X,X,X,X,X,X,(by rw [h56];rfl),trivial⟩)))))
  ·have h50p:=(odf h50);refine sx_exit (qx_then_exit (qx_then_exit ?_));obtain rfl:j=kept.length:=by omega
   have hacc1:=hacc;rw [List.take_length] at hacc1
   refine qx_block_hit (qx_seq (sx_seq (AE X (DF X X (AJ X (sx_block (flp [68,67,3,0] (λze e wr mz=>∃(k:Nat) (acc2:List Tk) (A13:Option Addr) (c13:Nat) (nx:Int),e=(2,AC nx)::(12,.slice A13 acc2.length c13)::(69,AC ((k:Nat):Int))::ze∧Mem w AR [As.own w.heap.size 56 9 (.slice A13 acc2.length c13) acc2.length (AD Tk.cells acc2),As.mi g33 f,As.own w.heap.size 139 5 (.slice A30 ls.length c30) ls.length (AD Ar.cells ls)] wr∧(k≤ls.length)∧(acc2=acc++OB c clock next ((ls.take k).filter (λa:Ar => !decide (0<a.rests))))∧(nx=next+(((ls.take k).filter (λa:Ar => !decide (0<a.rests))).length:Int)∧nx≤2147483647)∧(acc2.length≤kept.length+k)∧mz=ls.length-k) ⟨0,acc,A12,c12,next,X,M,Nat.zero_le _,(List.append_nil _).symm,⟨(Int.add_zero _).symm,hn2⟩,by omega,rfl⟩ ?_)))))));rintro _ w15 _ ⟨k,acc2,A13,c13,nx,rfl,M,hk,hac2,hnx,hal2,rfl⟩;refine srg (BB X X (nq (sx_seq (AF X (λh70=>?_) (λh70=>?_)))))
   ·have h70p:=(odt h70);refine sx_skip (qx_seq (sx_seq (sx_block (srg ?_))));obtain ⟨z,hz⟩:=BM (l:=ls) (i:=k) AA;obtain ⟨b_z,o_z,hA_z⟩:=B5 (k:=5) AA (M.rdOwn 2 X) hz;refine ya X (AN k hA_z X X X (sl X) AA) (ya X (AK X X (B6 Ar.len (M.rdOwn 2 X) hA_z hz) underlying139 X B0) (CI M X FL λg19 w16 hg19 M=>BD M 0 X X B0 X λw17 M=>nq (sx_seq (AE X (AU M 0 X X X (IM X X (nq ?_)))))));refine AF X (λh75=>?_) (λh75=>?_)
    ·have h75p:=(odt h75);refine sx_exit (qx_then_exit (qx_block_hit (qx_seq (sx_region (BV X X (yb X (sxl_nil (fag ⟨k+1,acc2,A13,c13,nx,X,(M.pk [1,2,3]),?_,?_,?_,?_,X⟩))))))))
     ·omega
     ·rw [AP hz,List.filter_append,hac2]
      first
       | (rw [MM h75];simp)
       | (rw [ML h75,KJ,←hnx.1,List.append_assoc];first
        | (rw [RT h84]<;>rfl)
        | (rw [NC h84 h104]<;>rfl)
        | (rw [RS h84 h104]<;>rfl))
     ·rw [AP hz,List.filter_append]
      first
       | (rw [MM h75];simpa using hnx)
       | (rw [ML h75,List.length_append];refine ⟨?_,by omega⟩;rw [hnx.1];simp;omega)
     ·first
       | omega
       | (simp;omega)
    ·have h75p:=(odf h75);refine sx_skip (qx_seq (sx_seq (AE X (BZ X X (nq (AF X (λh77=>?_) (λh77=>?_)))))))
     ·have h77p:=(odt h77);refine AE X (AV X X (gnr (qx_then_ret (qx_block_ret (qx_then_ret (qx_then_ret (qx_block_ret (qx_then_ret (IT X X X X ⟨ls,hpl,M.fr,.inl ⟨?_,X⟩⟩)))))))));have h1:=ZF (λa:Ar => !decide (0<a.rests)) hz (by rw [h75];rfl);have h2:=hnx.1;omega
     ·have h77p:=(odf h77);refine sx_skip (qx_seq (AE X (BV X X (AJ X (AE X (yb X (AU M 0 X X X (ya X (AY (parts:=[(0,_),(2,_)]) X X (KX _ _)) (CI M X EM ?_)))))))));intro g20 w18 hg20 M;refine BD M 0 X X B4 X λw19 M=>nq (sx_seq (sx_block (AE X (AU M 1 X X X (ya X (GT X X X) (AJ X (AF X (λh84=>?_) (λh84=>?_))))))))
      ·have h84p:=(odf (C5 h84));refine CY 16 CH gkr ?_;have M:=M.drew;refine sb X (sb X (EB M 1 X X X ?_));iterate 4 refine sb X ?_
       refine sd X X (Blk.c (hbx.fr0 M.fr) 0 X) (sb X (sb X (sd X X (Blk.c ((hC.fr0 M.fr).blk) 5 X) (sb X (EB M 1 X X X (sa X (BK X X X underlying85 underlying9 AT ((hC.fr0 M.fr).A) (hC.getA _)) (sa X (f8 (b:=(c.atf z.at_)) X X) (sa X (AY (parts:=[(0,_),(1,_),(3,_),(4,_)]) X X (N1 _ _ _ _)) (C8 (BD M 0 X X B4 X λw20 M=>sxl_nil (qx_block_normal (qx_seq (sx_region ?_)))))))))))));refine yb X (CB M 0 X X underlying56 B4 X (CN M (wn_none X) X X [.agg #[AC (nx+(1:Int)),str z.at_,str [],AC clock,AC ((c.atf z.at_).tries),str [],AC 0,.int .u8 0,AC 0]] ([AC (nx+(1:Int)),str z.at_,str [],AC clock,AC ((c.atf z.at_).tries),str [],AC 0,.int .u8 0,AC 0]) X X X X underlying31 I7 X X (FP X) X λg111 w21 hg111 M=>DE (len':=(acc2++[(⟨(nx+(1:Int)),z.at_,[],clock,((c.atf z.at_).tries),[],0,0,0⟩:Tk)]).length) (xs':=AD Tk.cells (acc2++[(⟨(nx+(1:Int)),z.at_,[],clock,((c.atf z.at_).tries),[],0,0,0⟩:Tk)])) M 3 (wn_none X) X X X X X X (M.rdBlk 0 X X) underlying31 FB X B3 (CL X) (Nat.le_refl _) (Nat.le_refl _) C2 (by unfold maxLen;first|omega|(simp;omega)) (by simp) (by first|exact (B9 _ _ _).symm|simp [AD,Tk.cells]) λA112 c112 w22 M=>yb X (sxl_nil (qx_block_normal (qx_seq (sx_region (BV X X (yb X (sxl_nil (fag ⟨k+1,acc2++[(⟨(nx+(1:Int)),z.at_,[],clock,((c.atf z.at_).tries),[],0,0,0⟩:Tk)],A112,c112,(nx+(1:Int)),X,(M.pk [3,4,5]),?_,?_,?_,?_,X⟩))))))))))
       ·omega
       ·rw [AP hz,List.filter_append,hac2]
        first
         | (rw [MM h75];simp)
         | (rw [ML h75,KJ,←hnx.1,List.append_assoc];first
          | (rw [RT h84]<;>rfl)
          | (rw [NC h84 h104]<;>rfl)
          | (rw [RS h84 h104]<;>rfl))
       ·rw [AP hz,List.filter_append]
        first
         | (rw [MM h75];simpa using hnx)
         | (rw [ML h75,List.length_append];refine ⟨?_,by omega⟩;rw [hnx.1];simp;omega)
       ·first
         | omega
         | (simp;omega)
      ·have h84p:=(odt (BL h84));refine AE X (AU M 1 X X X (AJ X (AF X (λh104=>?_) (λh104=>?_))))
       ·refine sx_region (yb X (gp1 M 0 X X X KE λw23 M=>yb X (gp1 M 0 X X X L4 λw24 M=>sxl_nil (qx_block_normal (qx_seq (sx_region (yb X (CB M 0 X X underlying56 B4 X (CN M (wn_none X) X X [.agg #[AC (nx+(1:Int)),str [],str z.flow,AC 0,AC 0,str [],AC 0,.int .u8 1,AC 91]] ([AC (nx+(1:Int)),str [],str z.flow,AC 0,AC 0,str [],AC 0,.int .u8 1,AC 91]) X X X X underlying31 I7 X X (FP X) X λg111 w25 hg111 M=>DE (len':=(acc2++[(⟨(nx+(1:Int)),[],z.flow,0,0,[],0,1,91⟩:Tk)]).length) (xs':=AD Tk.cells (acc2++[(⟨(nx+(1:Int)),[],z.flow,0,0,[],0,1,91⟩:Tk)])) M 3 (wn_none X) X X X X X X (M.rdBlk 0 X X) underlying31 FB X B3 (CL X) (Nat.le_refl _) (Nat.le_refl _) C2 (by unfold maxLen;first|omega|(simp;omega)) (by simp) (by first|exact (B9 _ _ _).symm|simp [AD,Tk.cells]) ?_)))))))));intro A112 c112 w26 M;refine yb X (sxl_nil (qx_block_normal (qx_seq (sx_region (BV X X (yb X (sxl_nil (fag ⟨k+1,acc2++[(⟨(nx+(1:Int)),[],z.flow,0,0,[],0,1,91⟩:Tk)],A112,c112,(nx+(1:Int)),X,(M.pk [3,4,5]),?_,?_,?_,?_,X⟩))))))))
        ·omega
        ·rw [AP hz,List.filter_append,hac2]
         first
          | (rw [MM h75];simp)
          | (rw [ML h75,KJ,←hnx.1,List.append_assoc];first
           | (rw [RT h84]<;>rfl)
           | (rw [NC h84 h104]<;>rfl)
           | (rw [RS h84 h104]<;>rfl))
        ·rw [AP hz,List.filter_append]
         first
          | (rw [MM h75];simpa using hnx)
          | (rw [ML h75,List.length_append];refine ⟨?_,by omega⟩;rw [hnx.1];simp;omega)
        ·first
          | omega
          | (simp;omega)
       ·refine sx_skip (qx_block_normal (qx_seq (sx_region (yb X (CB M 0 X X underlying56 B4 X (CN M (wn_none X) X X [.agg #[AC (nx+(1:Int)),str [],str z.flow,AC 0,AC 0,str [],AC 0,.int .u8 0,AC 0]] ([AC (nx+(1:Int)),str [],str z.flow,AC 0,AC 0,str [],AC 0,.int .u8 0,AC 0]) X X X X underlying31 I7 X X (FP X) X λg111 w27 hg111 M=>DE (len':=(acc2++[(⟨(nx+(1:Int)),[],z.flow,0,0,[],0,0,0⟩:Tk)]).length) (xs':=AD Tk.cells (acc2++[(⟨(nx+(1:Int)),[],z.flow,0,0,[],0,0,0⟩:Tk)])) M 3 (wn_none X) X X X X X X (M.rdBlk 0 X X) underlying31 FB X B3 (CL X) (Nat.le_refl _) (Nat.le_refl _) C2 (by unfold maxLen;first|omega|(simp;omega)) (by simp) (by first|exact (B9 _ _ _).symm|simp [AD,Tk.cells]) λA112 c112 w28 M=>yb X (sxl_nil (qx_block_normal (qx_seq (sx_region (BV X X ?_)))))))))));refine yb X (sxl_nil (fag ⟨k+1,acc2++[(⟨(nx+(1:Int)),[],z.flow,0,0,[],0,0,0⟩:Tk)],A112,c112,(nx+(1:Int)),X,(M.pk [3,4,5]),?_,?_,?_,?_,X⟩))
        ·omega
        ·rw [AP hz,List.filter_append,hac2]
         first
          | (rw [MM h75];simp)
          | (rw [ML h75,KJ,←hnx.1,List.append_assoc];first
           | (rw [RT h84]<;>rfl)
           | (rw [NC h84 h104]<;>rfl)
           | (rw [RS h84 h104]<;>rfl))
        ·rw [AP hz,List.filter_append]
         first
          | (rw [MM h75];simpa using hnx)
          | (rw [ML h75,List.length_append];refine ⟨?_,by omega⟩;rw [hnx.1];simp;omega)
        ·first
          | omega
          | (simp;omega)
   ·have h70p:=(odf h70);refine sx_exit (qx_then_exit (qx_then_exit ?_));obtain rfl:k=ls.length:=by omega
    rw [List.take_length] at hac2 hnx
    refine qx_block_hit (qx_seq (srg ?_));iterate 5 refine yb X ?_
    refine gnr (IT X X X X ?_);have hR:HK c kept ls next clock=acc2:=by rw [HK,←hacc1,hac2]
    rw [hnx.1];refine ⟨ls,hpl,M.fr,.inr ⟨by omega,A13,c13,by rw [hR],?_⟩⟩;rw [hR];exact M.own 0 X
end Go.Proofs.YtaheakjfkpkefaaGreatDoor
