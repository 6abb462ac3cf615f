/- Lemmas. -/
import Derived.Test.YtaheakjfkpkefaaGreatDoorVRu4
set_option maxHeartbeats 16000000
set_option maxRecDepth 100000
namespace Go.Proofs.YtaheakjfkpkefaaGreatDoor
open Go.RowKit
open Tryz
section
variable {P:Program} {e:Env} {w:World} {o:Oper}
theorem XI {t el n sz:Nat} (m:Nat) {x i:Operand} {cs:Array Value} {u:Value} (ho:o.op=.index t x i) (hx:ev e x=some (.agg cs)) (hi:ev e i=some (AC (m:Int))) (ht:NK P t=some (n,el,sz)) (hA:∀w,(isAgg el).run P w=.ok false w) (hm:m<n) (hu:cs[m*sz]?=some u):Y P e o w u:=λρ h=>by
 unfold NK at ht
 split at ht
 ·rename_i el' n' hu'
  split at ht
  ·rename_i i' hi'
   simp only [Option.some.injEq,Prod.mk.injEq] at ht
   obtain ⟨rfl,rfl,rfl⟩:=ht;have h1:0≤(m:Int):=by omega
   unfold execOp
   simp [ho,h _ _ hx,h _ _ hi,Instr.index,asIntOf,run_underlying hu',h1,hm,sizeOf,typeInfo,hi',part,hA,hu]
  ·cases ht
 ·cases ht
end
theorem bM (A:Option Addr) (c:Nat) (l:List (List UInt8)) (hl:l.length≤4611686018427387904) (f:FuncId) (cs:List Value) (p:List UInt8→Bool) (w:World) (hP:PredJ prog f cs str l (λ_=>p) AR (λ_ _=>True) w) (hR:Rd w A (l.length*1) (AD C0 l)) :
 Calls prog 122 #[.slice A l.length c,.func (.func 123) #[] #[],.func (.func f) #[] cs.toArray] w (BI w (.tuple #[str ((ffN (λ_=>p) 0 l).elim [] (λx=>x)),.bool (ffN (λ_=>p) 0 l).isSome])):=
 (iS A c l hl f cs (λ_=>p) AR (λ_ _=>True) w hP (λ_ hf=>hR.fr0 hf) trivial).mono λ_ _ ⟨h1,_,h2⟩=>⟨h1,h2⟩
def cntK (t:Nat) (l:List El) (k:List UInt8):Nat:=(l.filter λx=>decide (x.inn=k)&&decide (x.kind.toNat=t)).length
def ZP (l:List El) (k:List UInt8):Value:=.agg #[.int .i64 ((cntK 1 l k:Nat):Int),.int .i64 ((cntK 2 l k:Nat):Int)]
theorem oW (t:Nat) (l:List El) (k:List UInt8):cntK t l k≤l.length:=List.length_filter_le _ _
theorem VR (t:Nat) (l:List El) (i:Nat) (k:List UInt8):cntK t (l.take i) k≤l.length:=Nat.le_trans (oW _ _ _) (by rw [List.length_take];omega)
theorem HD (t:Nat) (l:List El) (x:El) (k:List UInt8):cntK t (l++[x]) k=cntK t l k+(if x.inn=k∧x.kind.toNat=t then 1 else 0):=by
 unfold cntK;rw [List.filter_append,List.length_append]
 congr 1
 by_cases h1:x.inn=k<;>by_cases h2:x.kind.toNat=t<;>simp [h1,h2]
section
variable {L:List (List UInt8 × Value)} {l l':List El} {x:El} (hL:∀k,(CA L k).getD (.agg #[.int .i64 0,.int .i64 0])=ZP l k) (hl:l'=l++[x])
include hL hl
theorem XA {a b:Nat} (ha:a=cntK 1 l' x.inn) (hb:b=cntK 2 l' x.inn):∀k,(CA (D2 L x.inn (.agg #[AC (a:Int),AC (b:Int)])) k).getD (.agg #[AC 0,AC 0])=ZP l' k:=λk=>by
 rw [EL]
 by_cases h:k=x.inn
 ·subst h;subst ha;subst hb;rw [if_pos rfl];rfl
 ·rw [if_neg h,hL];unfold ZP;rw [hl,HD,HD,if_neg (λz=>h z.1.symm),if_neg (λz=>h z.1.symm)];rfl
theorem QL (h:(x.kind.toNat:Int)=1):∀k,(CA (D2 L x.inn (.agg #[AC ((cntK 1 l x.inn+1:Nat):Int),AC ((cntK 2 l x.inn:Nat):Int)])) k).getD (.agg #[AC 0,AC 0])=ZP l' k:=
 XA hL hl (by rw [hl,HD,if_pos ⟨rfl,by omega⟩]) (by rw [hl,HD,if_neg (λz=>by omega)];rfl)
theorem X9 (_h1:¬(x.kind.toNat:Int)=1) (h:(x.kind.toNat:Int)=2):∀k,(CA (D2 L x.inn (.agg #[AC ((cntK 1 l x.inn:Nat):Int),AC ((cntK 2 l x.inn+1:Nat):Int)])) k).getD (.agg #[AC 0,AC 0])=ZP l' k:=
 XA hL hl (by rw [hl,HD,if_neg (λz=>by omega)];rfl) (by rw [hl,HD,if_pos ⟨rfl,by omega⟩])
theorem TY (h1:¬(x.kind.toNat:Int)=1) (h:¬(x.kind.toNat:Int)=2):∀k,(CA (D2 L x.inn (.agg #[AC ((cntK 1 l x.inn:Nat):Int),AC ((cntK 2 l x.inn:Nat):Int)])) k).getD (.agg #[AC 0,AC 0])=ZP l' k:=
 XA hL hl (by rw [hl,HD,if_neg (λz=>by omega)];rfl) (by rw [hl,HD,if_neg (λz=>by omega)];rfl)
end
def I6 (l:List El):List (List UInt8):=(l.filter λx=>decide (x.kind.toNat=10)).map (·.id)
theorem R4 {l:List El} {x:El} (h:(x.kind.toNat:Int)=10):I6 (l++[x])=I6 l++[x.id]:=by
 unfold I6;rw [List.filter_append,List.map_append]
 simp [show x.kind.toNat=10 by omega]
theorem SP {l:List El} {x:El} (h:¬(x.kind.toNat:Int)=10):I6 (l++[x])=I6 l:=by
 unfold I6;rw [List.filter_append]
 simp [show ¬x.kind.toNat=10 by omega]
def TN (m:Md) (k:List UInt8):Bool:=(decide (((cntK 1 m.els k:Nat):Int)=(1:Int)))&&(decide ((1:Int)≤((cntK 2 m.els k:Nat):Int)))
def ffS (p:List UInt8→Bool) (l:List (List UInt8)):Option (List UInt8):=ffN (λ_=>p) 0 l
theorem xI (p:List UInt8→Bool) (l:List (List UInt8)):Value.tuple #[str ((ffN (λ_=>p) 0 l).elim [] (λx=>x)),.bool (ffN (λ_=>p) 0 l).isSome]=K4 (ffS p l):=by unfold K4 ffS;cases ffN (λ_=>p) 0 l<;>rfl
def dZ (m:Md):Option (List UInt8):=ffS (TN m) ([]::I6 m.els)
theorem P1 : (prog.info? 210).map (·.size)=some 2:=by kernel_rfl
theorem NM : (prog.info? 209).map (·.size)=some 1:=by kernel_rfl
theorem OQ : (prog.info? 210).map (·.zero)=some (some (.agg #[AC 0,AC 0])):=by kernel_rfl
theorem NL : (prog.info? 209).map (·.zero)=some (some (.map none)):=by kernel_rfl
theorem o0 (m:Md) (L:List (List UInt8 × Value)) (hL:∀k,(CA L k).getD (.agg #[AC 0,AC 0])=ZP m.els k) (g4 g11:Nat) (k:List UInt8) (w:World) (hp:Blk w g4 209 [.map (some g11)]) (hm:Mp w g11 L) :
 Calls prog 124 #[str k,pg g4] w (BI w (.bool (TN m k))):=by
 refine BH func124 ntmps124 X λM=>srg (AJ X (srg (yl X X (Blk.c (hp.fr0 M.fr) 0 X) (yb X (ya X (BK X X X underlying209 underlying9 OQ (hm.fr M.fr (λhh=>hh)) (hL _)) (ya X (XI (m:=0) X X X (ar X) isAgg3 B3 X) (BZ X X (yb X (fvm M 6 [3] [(15,.bool ((decide (((cntK 1 m.els k:Nat):Int)=1))&&(decide (1≤((cntK 2 m.els k:Nat):Int)))))] ?_ (λk9=>?_))))))))))
 ·intro w1 M;exact yb X (gnr (gr1 X ⟨X,M.fr⟩))
 refine AI (d:=9) X (λh9=>?_) (λh9=>?_)
 ·exact ym X X (Blk.c (hp.fr0 M.fr) 0 X) (gyq X (yd X (BK X X X underlying209 underlying9 OQ (hm.fr M.fr (λhh=>hh)) (hL _)) (yd X (XI (m:=1) X X X (ar X) isAgg3 B3 X) (yd X (GV X X X) (yb X (k9 M ⟨X,(by rw [h9];rfl),trivial⟩))))))
 ·iterate 5 refine yo X ?_
  exact yb X (k9 M ⟨X,(by rw [h9];rfl),trivial⟩)
theorem nZ (m:Md) (a:MdA) (ix:IxA) (gx:Nat) (w:World) (ho:MdOk m) (hx:IxAt w m a ix gx) :
 Calls prog 70 #[pg gx] w (BI w (K4 (dZ m))):=by
 have hne:=ho.nels;refine BH func70 ntmps70 X λM=>AE X (AJ X (srg (I5 M (wn_none X) X X X λg11 w1 hg11 M=>EI M (wn_none X) X X 209 X [.map none] NL X λg4 w2 hg4 M=>gp1 M 0 X X X NM λw3 M=>sxl_nil ?_)))
 refine qx_seq (sx_seq (srg ?_));iterate 4 refine yb X ?_
 refine yl X X (Blk.c ((hx.fr0 M.fr).blk) 3 X) (DF X X (AJ X (sx_block (flp [17,16,4,0] (λze e wr mz=>∃(i:Nat) (L:List (List UInt8 × Value)),e=(18,AC (i:Int))::ze∧Mem w AR [As.blk g4 209 [.map (some g11)],As.mp g11 L] wr∧(i≤m.els.length)∧(∀k,(CA L k).getD (.agg #[AC 0,AC 0])=ZP (m.els.take i) k)∧mz=m.els.length-i) ⟨0,[],X,M,Nat.zero_le _,λ_=>X,X⟩ ?_))));rintro _ w4 _ ⟨i,L,rfl,M,hi,hL,rfl⟩;refine srg (BB X X (nq (sx_seq (AF X (λh19=>?_) (λh19=>?_)))))
 ·have h19p:=(odt h19);refine sx_skip (qx_seq (sx_seq (sx_block (srg ?_))));obtain ⟨u,hu⟩:=BM (l:=m.els) (i:=i) AA;obtain ⟨b_u,o_u,hA_u⟩:=B5 (k:=11) AA (M.rd hx.md.els) hu;refine ya X (AN i hA_u X X X (sl X) AA) (ya X (AK X X (B6 El.len (M.rd hx.md.els) hA_u hu) underlying95 X AQ) (CI M X AT λg6 w5 hg6 M=>BD M 0 X X AQ X λw6 M=>EV (AU M 1 X X X (yb X (AU M 0 X X X (ya X (BK X X X underlying209 underlying9 OQ (M.mp 2 X) (hL _)) (CI M X OQ λg7 w7 hg7 M=>?_)))))));refine BD M 0 X X P1 X λw8 M=>nq (sx_seq (AE X (AU M 1 X X X (nq (sx_block (srg (BZ X X (yb X ?_))))))))
  refine nq (AF X (λh28=>?_) (λh28=>?_))
  ·have h28p:=(odt h28);have hc1:=VR 1 m.els i u.inn;refine sx_region (ya X (EO X X X (ar X) AA) (AU M 0 X X X (BV X X (ya X (EO X X X (ar X) AA) (gp1 M 0 X X X GI λw9 M=>sxl_nil (qx_block_normal (qx_seq (sx_region (AU M 2 X X X (yb X (AU M 1 X X X (CB M 0 X X underlying210 P1 X (FH M 3 (wn_none X) X X X X X underlying209 underlying9 X ?_)))))))))))));intro w10 M;refine sxl_nil (qx_block_normal (qx_seq (sx_region (BV X X (yb X (sxl_nil (fag ⟨i+1,D2 L u.inn (.agg #[AC (((cntK 1 (m.els.take i) u.inn)+1:Nat):Int),AC ((cntK 2 (m.els.take i) u.inn:Nat):Int)]),X,(M.pk [2,3]),?_,?_,X⟩)))))))
   ·omega
   ·first
     | exact QL hL (AP hu) h28p
     | exact X9 hL (AP hu) h28p h34p
     | exact TY hL (AP hu) h28p h34p
  ·have h28p:=(odf h28);refine srg (BZ X X (AJ X (AF X (λh34=>?_) (λh34=>?_))))
   ·have h34p:=(odt h34);have hc2:=VR 2 m.els i u.inn;refine sx_region (ya X (EO X X X (ar X) AA) (AU M 0 X X X (BV X X (ya X (EO X X X (ar X) AA) (gp1 M 0 X X X GI λw11 M=>sxl_nil (qx_block_normal (qx_seq (sx_region (AU M 2 X X X (yb X (AU M 1 X X X (CB M 0 X X underlying210 P1 X (FH M 3 (wn_none X) X X X X X underlying209 underlying9 X ?_)))))))))))));intro w12 M;refine sxl_nil (qx_block_normal (qx_seq (sx_region (BV X X (yb X (sxl_nil (fag ⟨i+1,D2 L u.inn (.agg #[AC ((cntK 1 (m.els.take i) u.inn:Nat):Int),AC (((cntK 2 (m.els.take i) u.inn)+1:Nat):Int)]),X,(M.pk [2,3]),?_,?_,X⟩)))))))
    ·omega
    ·first
      | exact QL hL (AP hu) h28p
      | exact X9 hL (AP hu) h28p h34p
      | exact TY hL (AP hu) h28p h34p
   ·have h34p:=(odf h34);refine sx_skip (qx_block_normal (qx_seq (sx_region (AU M 2 X X X (yb X (AU M 1 X X X (CB M 0 X X underlying210 P1 X (FH M 3 (wn_none X) X X X X X underlying209 underlying9 X λw13 M=>sxl_nil (qx_block_normal (qx_seq (sx_region (BV X X (yb X ?_)))))))))))));refine sxl_nil (fag ⟨i+1,D2 L u.inn (.agg #[AC ((cntK 1 (m.els.take i) u.inn:Nat):Int),AC ((cntK 2 (m.els.take i) u.inn:Nat):Int)]),X,(M.pk [2,3]),?_,?_,X⟩)
    ·omega
    ·first
      | exact QL hL (AP hu) h28p
      | exact X9 hL (AP hu) h28p h34p
      | exact TY hL (AP hu) h28p h34p
 ·have h19p:=(odf h19);refine sx_exit (qx_then_exit (qx_then_exit ?_));have hiE:i=m.els.length:=by omega
  rw [hiE,List.take_length] at hL
  refine qx_block_hit (qx_seq (srg (CN M (wn_none X) X X [str []] ([str []]) X X X X underlying48 CS X X (FP X) X λg45 w14 hg45 M=>AJ X (sx_seq (srg ?_)))));iterate 4 refine yb X ?_
  refine yl X X (Blk.c ((hx.fr0 M.fr).blk) 3 X) (DF X X (AJ X (sx_block ?_)));have M:=M.blkOwn 0 (size:=1) (n:=1) X X (by unfold maxLen;omega);refine flp [51,50,4] (λze e wr mz=>∃(j:Nat) (acc:List (List UInt8)) (A:Option Addr) (c:Nat),e=(8,.slice A acc.length c)::(52,AC (j:Int))::ze∧Mem w AR [As.own w.heap.size 9 1 (.slice A acc.length c) acc.length (AD C0 acc),As.blk g4 209 [.map (some g11)],As.mp g11 L] wr∧(j≤m.els.length)∧(acc=[]::I6 (m.els.take j))∧(acc.length≤j+1)∧mz=m.els.length-j) ⟨0,[[]],some ⟨g45,0,none⟩,1,X,M,Nat.zero_le _,X,Nat.le_refl _,X⟩ ?_;rintro _ w15 _ ⟨j,acc,A,c,rfl,M,hj,hacc,hal,rfl⟩;refine srg (BB X X (nq (sx_seq (AF X (λh53=>?_) (λh53=>?_)))))
  ·have h53p:=(odt h53);refine sx_skip (qx_seq (sx_seq (sx_block (srg ?_))));obtain ⟨v,hv⟩:=BM (l:=m.els) (i:=j) AA;obtain ⟨b_v,o_v,hA_v⟩:=B5 (k:=11) AA (M.rd hx.md.els) hv;refine ya X (AN j hA_v X X X (sl X) AA) (ya X (AK X X (B6 El.len (M.rd hx.md.els) hA_v hv) underlying95 X AQ) (CI M X AT λg10 w16 hg10 M=>BD M 0 X X AQ X λw17 M=>nq (AE X (AU M 0 X X X (BZ X X (nq (AF X (λh58=>?_) (λh58=>?_))))))))
   ·have h58p:=(odt h58);refine sx_region (AV X X (AU M 0 X X X (CN M (wn_none X) X X [str v.id] ([str v.id]) X X X X underlying48 CS X X (FP X) X λg62 w18 hg62 M=>DE (len':=(acc++[v.id]).length) (xs':=AD C0 (acc++[v.id])) M 2 (wn_none X) X X X X X X (M.rdBlk 0 X X) underlying48 D0 X B3 (CL X) (Nat.le_refl _) (Nat.le_refl _) C2 (by unfold maxLen;first|omega|(simp only [List.length_append,List.length_cons,List.length_nil];omega)) (by simp) (by simp [AD,C0]) λA63 c63 w19 M=>yb X (sxl_nil (qx_block_normal (qx_seq (sx_region (BV X X (yb X (sxl_nil ?_))))))))));refine fag ⟨j+1,acc++[v.id],A63,c63,X,(M.pk [2,3,4]),?_,?_,?_,X⟩
    ·omega
    ·first
      | (rw [hacc,AP hv,R4 h58p];rfl)
      | (rw [hacc,AP hv,SP h58p])
    ·first|omega|(simp only [List.length_append,List.length_cons,List.length_nil];omega)
   ·have h58p:=(odf h58);refine sx_skip (qx_block_normal (qx_seq (sx_region (BV X X (yb X (sxl_nil (fag ⟨j+1,acc,A,c,X,(M.pk [1,2,3]),?_,?_,?_,X⟩)))))))
    ·omega
    ·first
      | (rw [hacc,AP hv,R4 h58p];rfl)
      | (rw [hacc,AP hv,SP h58p])
    ·first|omega|(simp only [List.length_append,List.length_cons,List.length_nil];omega)
  ·have h53p:=(odf h53);refine sx_exit (qx_then_exit (qx_then_exit ?_));have hjE:j=m.els.length:=by omega
   rw [hjE,List.take_length] at hacc
   refine qx_block_hit (qx_seq (AE X (ya X (CP (us:=[]) (vs:=[pg g4]) X X X) (CD M 67 X X call122 (bM _ _ acc (by have:=ho.nels;omega) 124 [pg g4] (TN m) _ (G5 call124 (λz _ w9 hf9=>o0 m L hL g4 g11 z w9 ((M.blk 1 X).fr0 hf9) ((M.mp 2 X).fr hf9 (λhh=>hh)))) (M.rdOwn 0 X)) λw20 M=>?_))));iterate 4 refine yb X ?_
   exact gnr (C4 X X X ⟨by rw [dZ,←hacc];exact congrArg Ending.returned (xI _ _),M.fr⟩)
end Go.Proofs.YtaheakjfkpkefaaGreatDoor
