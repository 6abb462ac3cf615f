/- Lemmas. -/
import Derived.Test.YtaheakjfkpkefaaGreatDoorVRu7
set_option maxHeartbeats 16000000
set_option maxRecDepth 100000
namespace Go.Proofs.YtaheakjfkpkefaaGreatDoor
open Go.RowKit
open Tryz
theorem Mem.freshF {w0 w:World} {S:Nat→Prop} {L:List As} (M:Mem w0 S L w) (i:Nat) {g3 g6:Nat} {seen:List (List UInt8)} (hi:L[i]?=some (As.fresh g3 g6 seen)):Fresh w g3 g6 seen:=M.ok i _ hi
theorem Mem.freshC {w0 w:World} {S:Nat→Prop} {L:List As} (M:Mem w0 S L w) (i:Nat) {g3 g6:Nat} {seen:List (List UInt8)} (hi:L[i]?=some (As.fresh g3 g6 seen)):Blk w g3 92 [.map (some g6)]:=(M.freshF i hi).1
theorem UT {e:Env} {w:World} {o:Oper} {t kt el:TypeId} {x i:Operand} {g3 g6:Nat} {k:List UInt8} {seen:List (List UInt8)} (ho:o.op=.lookup t x i false) (hx:ev e x=some (.map (some g6))) (hi:ev e i=some (str k)) (hu:prog.underlying t=some (.map kt el)) (hd:prog.underlying kt=some .string)
 (hz:(prog.info? el).map (·.zero)=some (some (.bool false))) (hF:Fresh w g3 g6 seen):Y prog e o w (.bool (decide (k∈seen))):=by
 obtain ⟨_,_,L,hm,hL⟩:=hF;exact BK ho hx hi hu hd hz hm (hL k)
theorem WD {Q:Exit→Act→World→Prop} {n:Nat} {e:Env} {w w0:World} {S:Nat→Prop} {L:List As} {ops:Array Oper} {o:Oper} {rest:List Oper} (M:Mem w0 S L w) (i:Nat) (hw:Wn ops e o) (hd:o.dst=none) {t kt el g3 g6:Nat} {mp ix x:Operand} {key:List UInt8} {seen:List (List UInt8)} (ho:o.op=.mapUpdate t mp ix x) (hm:ev e mp=some (.map (some g6))) (hx:ev e ix=some (str key)) (hv:ev e x=some (.bool true)) (hu:prog.underlying t=some (.map kt el)) (hk:prog.underlying kt=some .string)
 (hi:L[i]?=some (As.fresh g3 g6 seen)) (k:∀w',Mem w0 S (L.set i (As.fresh g3 g6 (key::seen))) w'→SxL prog ops Q n rest e w'):SxL prog ops Q n (o::rest) e w:=by
 obtain ⟨hc,hne,K,hm',hL⟩:=M.freshF i hi;refine sxl_does none hw hd X (λρ hρ=>FD ho (hρ _ _ hm) (hρ _ _ hx) (hρ _ _ hv) hu hk hm') ?_;rintro _ w1 ⟨rfl,hf,hb⟩;exact k w1 (M.updFresh i hi ⟨hc.fr hf hne,hne,_,hb,QE hL⟩ (hf.mono λ_ _ e=>.inr e))
def JK (m:Md) (s:List (List UInt8)):Nat:=(m.fls.filter λf => !(decide (f.tg∈s))).length
theorem VM {α:Type} {p q:α→Bool}:∀l:List α,(∀x∈l,q x=true→p x=true)→(l.filter q).length≤(l.filter p).length
 | [],_=>Nat.le_refl _
 | y::t,h=>by
  have h1:=VM t (λx hx=>h x (List.mem_cons_of_mem _ hx));rw [List.filter_cons,List.filter_cons]
  by_cases hy:q y=true
  ·rw [if_pos hy,if_pos (h y (by simp) hy),List.length_cons,List.length_cons];omega
  ·rw [if_neg hy]
   split
   ·rw [List.length_cons];omega
   ·exact h1
theorem VL {α:Type} {p q:α→Bool}:∀{l:List α} {f:α},f∈l→(∀x∈l,q x=true→p x=true)→p f=true→q f=false→(l.filter q).length<(l.filter p).length
 | x::r,f,hf,hpq,hp,hq=>by
  rw [List.filter_cons,List.filter_cons];have h1:=VM r (λx hx=>hpq x (List.mem_cons_of_mem _ hx));rcases List.mem_cons.1 hf with rfl|hf
  ·rw [if_pos hp,if_neg (by rw [hq];decide),List.length_cons];omega
  ·have h2:=VL hf (λx hx=>hpq x (List.mem_cons_of_mem _ hx)) hp hq
   by_cases hy:q x=true
   ·rw [if_pos hy,if_pos (hpq x (by simp) hy),List.length_cons,List.length_cons];omega
   ·rw [if_neg hy]
    split
    ·rw [List.length_cons];omega
    ·exact h2
theorem eJ {m:Md} {s:List (List UInt8)} {k:List UInt8} {f:Fl} (hf:f∈C3 m.fls k) (h:decide (f.tg∈s)=false):JK m (f.tg::s)<JK m s:=by
 have hf':f∈m.fls:=(List.mem_filter.1 hf).1;refine VL hf' (λx _ hx=>?_) (by rw [h];rfl) (by simp);simp only [List.mem_cons,Bool.not_eq_true',decide_eq_false_iff_not] at hx ⊢
 exact λz=>hx (.inr z)
def LS (m:Md) (rc:List UInt8→List (List UInt8)→List (List UInt8)):List Fl→List (List UInt8)→List (List UInt8)
 | [],s=>s
 | f::r,s=>if (YG m f.tg&&(!(decide (f.tg∈s))))=true then LS m rc r (rc f.tg (f.tg::s)) else LS m rc r s
theorem OU {m:Md} {N:Nat} {rc:List UInt8→List (List UInt8)→List (List UInt8)} (hmono:∀k' s',JK m s'<N→JK m (rc k' s')≤JK m s') {k:List UInt8}:∀(l:List Fl) (s:List (List UInt8)),(∀f∈l,f∈C3 m.fls k)→JK m s≤N→JK m (LS m rc l s)≤JK m s
 | [],_,_,_=>Nat.le_refl _
 | f::r,s,hl,hN=>by
  rw [LS]
  split
  ·rename_i h
   have hlt:=eJ (s:=s) (hl f (by simp)) (C5 (BR h).2);have h1:=hmono f.tg (f.tg::s) (Nat.lt_of_lt_of_le hlt hN);have h2:=OU hmono r (rc f.tg (f.tg::s)) (λx hx=>hl x (List.mem_cons_of_mem _ hx)) AA;omega
  ·exact OU hmono r s (λx hx=>hl x (List.mem_cons_of_mem _ hx)) hN
def UU (m:Md):Nat→List UInt8→List (List UInt8)→List (List UInt8)
 | 0,k,s=>LS m (λ_ s=>s) (C3 m.fls k) s
 | n+1,k,s=>LS m (UU m n) (C3 m.fls k) s
def rL (m:Md):Nat→List UInt8→List (List UInt8)→List (List UInt8)
 | 0=>λ_ s=>s
 | n+1=>UU m n
theorem XM (m:Md) (n:Nat) (k:List UInt8) (s:List (List UInt8)):UU m n k s=LS m (rL m n) (C3 m.fls k) s:=by cases n<;>rfl
theorem XL (m:Md):∀(n:Nat) (k:List UInt8) (s:List (List UInt8)),JK m s≤n→JK m (UU m n k s)≤JK m s
 | 0,k,s,h=>OU (N:=0) (λ_ _ h=>by omega) (k:=k) _ s (λ_ hf=>hf) h
 | n+1,k,s,h=>OU (N:=n+1) (λk' s' h'=>XL m n k' s' AA) (k:=k) _ s (λ_ hf=>hf) h
theorem dC (m:Md) (n:Nat):∀(k:List UInt8) (s:List (List UInt8)),JK m s<n→JK m (rL m n k s)≤JK m s:=λk s h=>by
 cases n with
 | zero=>omega
 | succ n=>exact XL m n k s AA
theorem Mem.join2 {w0 w:World} {S:Nat→Prop} {L:List As} {a b:As} (M:Mem w0 S (a::b::L) w) (c:As) (hok:c.ok w) (hfp:∀g∈c.fp,g∈a.fp∨g∈b.fp):Mem w0 S (c::L) w:=by
 have get:∀(i:Nat) (d:As),L[i]?=some d→(a::b::L)[i+2]?=some d:=λi d h=>h
 have fp:∀k,k∈c.fp→∃(i:Nat) (d:As),i<2∧(a::b::L)[i]?=some d∧k∈d.fp:=λk hk=>by
  rcases hfp k hk with h|h
  ·exact ⟨0,_,by decide,rfl,h⟩
  ·exact ⟨1,_,by decide,rfl,h⟩
 refine ⟨M.fr,?_,?_,?_⟩
 ·intro i d hi
  cases i with
  | zero=>simp only [List.getElem?_cons_zero,Option.some.injEq] at hi;subst hi;exact hok
  | succ i=>exact M.ok (i+2) d (get i d (by simpa using hi))
 ·intro i d hi k hk
  cases i with
  | zero=>
   simp only [List.getElem?_cons_zero,Option.some.injEq] at hi;subst hi
   obtain ⟨j,e,_,h1,h2⟩:=fp k hk;exact M.lt j e h1 k h2
  | succ i=>exact M.lt (i+2) d (get i d (by simpa using hi)) k hk
 ·intro i j d e hi hj hne k hk hk'
  cases i with
  | zero=>
   cases j with
   | zero=>exact hne rfl
   | succ j=>
    simp only [List.getElem?_cons_zero,Option.some.injEq] at hi;subst hi
    obtain ⟨q,d',hq,h1,h2⟩:=fp k hk;exact M.apart q (j+2) d' e h1 (get j e (by simpa using hj)) AA k h2 hk'
  | succ i=>
   cases j with
   | zero=>
    simp only [List.getElem?_cons_zero,Option.some.injEq] at hj;subst hj
    obtain ⟨q,d',hq,h1,h2⟩:=fp k hk';exact M.apart (i+2) q d d' (get i d (by simpa using hi)) h1 AA k hk h2
   | succ j=>exact M.apart (i+2) (j+2) d e (get i d (by simpa using hi)) (get j e (by simpa using hj)) AA k hk hk'
theorem oV (m:Md) (s:List (List UInt8)):JK m s≤m.fls.length:=List.length_filter_le _ _
def gR (m:Md) (y:El):Bool:=if (!(YG m y.id))=true then true else !(decide (y.id∈UU m m.fls.length y.id []))
theorem SK : (prog.info? 247).map (·.size)=some 1:=by kernel_rfl
theorem S7 : (prog.info? 247).map (·.zero)=some (some (.nilFunc)):=by kernel_rfl
theorem jT (m:Md) (a:MdA) (ix:IxA) (gx gp g4 g5 gm g6:Nat) (w0:World) (ho:MdOk m) (hx:IxAt w0 m a ix gx) (hp:Blk w0 gp 155 [pg gx]) (h4:Blk w0 g4 97 [.func (.func 136) #[] #[pg gp]]) (hS:∀k,(k=g5∨k=gm)→w0.heap.size≤k) (hn6:¬(g6=g5∨g6=gm)) (N:Nat) (rc:List UInt8→List (List UInt8)→List (List UInt8)) (hmono:∀k' s',JK m s'<N→JK m (rc k' s')≤JK m s')
 (hR:∀(k':List UInt8) (s':List (List UInt8)) (W:World),JK m s'<N→Fr0 w0 W→Fresh W g5 gm s'→Blk W g6 140 [.func (.func 138) #[] #[pg gp,pg g4,pg g5,pg g6]]→Calls prog 138 #[str k',pg gp,pg g4,pg g5,pg g6] W λe W'=>e=.returned (.tuple #[])∧Fresh W' g5 gm (rc k' s')∧Fr (λk=>k=g5∨k=gm) W W')
 (k:List UInt8) (s0:List (List UInt8)) (w:World) (hN:JK m s0≤N) (h0:Fr0 w0 w) (hF:Fresh w g5 gm s0) (h6:Blk w g6 140 [.func (.func 138) #[] #[pg gp,pg g4,pg g5,pg g6]]) :
 Calls prog 138 #[str k,pg gp,pg g4,pg g5,pg g6] w λe w'=>e=.returned (.tuple #[])∧Fresh w' g5 gm (LS m rc (C3 m.fls k) s0)∧Fr (λk=>k=g5∨k=gm) w w':=by
 have hOl:=E4 m.fls k;have hnf:=ho.nfls;refine sx_enter (vs:=[_,_,_,_,_]) func138 X ntmps138 X ?_;have M:Mem w (λk=>k=g5∨k=gm) [As.fresh g5 gm s0] w:=Mem.oneFresh hF;refine srg (yl X X (Blk.c (hp.fr0 (BT h0 M.fr hS)) 0 X) (AV X X (ya X (BF X X (sc X) (Blk.c ((hx.fr0 (BT h0 M.fr hS)).blk) 7 X)) (yb X (ya X (BK X X X underlying197 underlying9 zr_sl_api_Flow ((hx.fr0 (BT h0 M.fr hS)).O) (hx.getO _)) (DF X X (AJ X (sx_block (flp [14,13,4,3,2] (λze e wr mz=>∃(i:Nat) (s:List (List UInt8)),e=(15,AC (i:Int))::ze∧Mem w (λk=>k=g5∨k=gm) [As.fresh g5 gm s] wr∧(i≤(C3 m.fls k).length)∧(JK m s≤N)∧(LS m rc (C3 m.fls k) s0=LS m rc ((C3 m.fls k).drop i) s)∧mz=(C3 m.fls k).length-i) ⟨0,s0,X,M,Nat.zero_le _,hN,X,X⟩ ?_)))))))));rintro _ w1 _ ⟨i,s,rfl,M,hi,hN,hE,rfl⟩;refine srg (BB X X (nq (sx_seq (AF X (λh16=>?_) (λh16=>?_)))))
 ·have h16p:=(odt h16);refine sx_skip (qx_seq (sx_seq (sx_block (srg ?_))));obtain ⟨u,hu⟩:=BM (l:=(C3 m.fls k)) (i:=i) AA;obtain ⟨b_u,o_u,hA_u⟩:=B5 (k:=4) AA ((hx.fr0 (BT h0 M.fr hS)).rdO _) hu;refine ya X (AN i hA_u X X X (sl X) AA) (ya X (AK X X (B6 Fl.len ((hx.fr0 (BT h0 M.fr hS)).rdO _) hA_u hu) underlying109 X CM) (CI M X EN λg7 w2 hg7 M=>BD M 0 X X CM X λw3 M=>EV (yl X X (Blk.c (h4.fr0 (BT h0 M.fr hS)) 0 X) (yb X (AU M 0 X X X (LZ M 22 X (BJ X X X call136) (YU m a ix gx gp u.tg _ ho (hx.fr0 (BT h0 M.fr hS)) (hp.fr0 (BT h0 M.fr hS))) λw4 M=>yb X (fvm M 6 [7,15,14,13,4,3,2] [(29,.bool ((YG m u.tg)&&(!(decide (u.tg∈s)))))] ?_ (λk23=>?_))))))))
  ·intro w5 M;refine nq (AF X (λh29=>?_) (λh29=>?_))
   ·have h29p:=(And.intro (BR h29).1 (C5 (BR h29).2));have hlt:=eJ (m:=m) (s:=s) (List.mem_of_getElem? hu) (C5 (BR h29).2);refine srg (yl X X (Blk.c (M.freshC 1 X) 0 X) (yb X (AU M 0 X X X (WD M 1 (wn_none X) X X X X X underlying92 underlying9 X λw6 M=>nq (sx_region (yl X X (Blk.c (h6.fr M.fr hn6) 0 X) (yb X (AU M 0 X X X (cl 36 X (BJ X X X call138) (hR u.tg (u.tg::s) _ (Nat.lt_of_lt_of_le hlt hN) (BT h0 M.fr hS) (M.freshF 1 X) (h6.fr M.fr hn6)) ?_)))))))));rintro _ w7 ⟨rfl,hFw7,hfw7⟩;have M:=M.updFresh 1 X hFw7 hfw7;refine ⟨_,X,sxl_nil (qx_block_normal (qx_seq (sx_region (BV X X (yb X (sxl_nil (fag ⟨i+1,(rc u.tg (u.tg::s)),X,(M.pk [1]),?_,?_,?_,X⟩)))))))⟩
    ·omega
    ·first
      | exact Nat.le_trans (hmono _ _ (Nat.lt_of_lt_of_le hlt hN)) (Nat.le_trans (Nat.le_of_lt hlt) hN)
      | exact hN
    ·rw [hE,AZ hu,LS]
     first
      | rw [if_pos h29]
      | rw [AM h29]
   ·have h29p:=((CV h29).imp (λz=>z) (λz=>(BL z)));refine sx_skip (qx_block_normal (qx_seq (sx_region (BV X X (yb X (sxl_nil (fag ⟨i+1,s,X,(M.pk [1]),?_,?_,?_,X⟩)))))))
    ·omega
    ·first
      | exact Nat.le_trans (hmono _ _ (Nat.lt_of_lt_of_le hlt hN)) (Nat.le_trans (Nat.le_of_lt hlt) hN)
      | exact hN
    ·rw [hE,AZ hu,LS]
     first
      | rw [if_pos h29]
      | rw [AM h29]
  refine AI (d:=23) X (λh23=>?_) (λh23=>?_)
  ·exact ym X X (Blk.c (M.freshC 1 X) 0 X) (gyq X (CE M 0 X X X (yd X (UT X X X underlying92 underlying9 N8 (M.freshF 1 X)) (gyq X (yb X (k23 M ⟨X,X,X,X,X,X,X,(by rw [h23];rfl),trivial⟩))))))
  ·iterate 5 refine yo X ?_
   exact yb X (k23 M ⟨X,X,X,X,X,X,X,(by rw [h23];rfl),trivial⟩)
 ·have h16p:=(odf h16);refine sx_exit (qx_then_exit (qx_then_exit (qx_block_hit (qx_ret0 (Or.inr X) X ?_))));obtain rfl:i=(C3 m.fls k).length:=by omega
  exact ⟨X,by rw [hE,List.drop_length];exact M.ok 0 _ rfl,M.fr⟩
theorem cI (m:Md) (a:MdA) (ix:IxA) (gx gp g4 g5 gm g6:Nat) (w0:World) (ho:MdOk m) (hx:IxAt w0 m a ix gx) (hp:Blk w0 gp 155 [pg gx]) (h4:Blk w0 g4 97 [.func (.func 136) #[] #[pg gp]]) (hS:∀k,(k=g5∨k=gm)→w0.heap.size≤k) (hn6:¬(g6=g5∨g6=gm)):∀(N:Nat) (k:List UInt8) (s0:List (List UInt8)) (w:World),JK m s0≤N→Fr0 w0 w→Fresh w g5 gm s0→Blk w g6 140 [.func (.func 138) #[] #[pg gp,pg g4,pg g5,pg g6]] →
 Calls prog 138 #[str k,pg gp,pg g4,pg g5,pg g6] w λe w'=>e=.returned (.tuple #[])∧Fresh w' g5 gm (UU m N k s0)∧Fr (λk=>k=g5∨k=gm) w w'
 | 0,k,s0,w,hN,h0,hF,h6=>XM m 0 k s0▸jT m a ix gx gp g4 g5 gm g6 w0 ho hx hp h4 hS hn6 0 (rL m 0) (dC m 0) (λ_ _ _ h=>by omega) k s0 w hN h0 hF h6
 | N+1,k,s0,w,hN,h0,hF,h6=>XM m (N+1) k s0▸jT m a ix gx gp g4 g5 gm g6 w0 ho hx hp h4 hS hn6 (N+1) (rL m (N+1)) (dC m (N+1)) (λk' s' W h h0' hF' h6'=>cI m a ix gx gp g4 g5 gm g6 w0 ho hx hp h4 hS hn6 N k' s' W AA h0' hF' h6') k s0 w hN h0 hF h6
theorem mF (m:Md) (a:MdA) (ix:IxA) (gx gp g4:Nat) (y:El) (w:World) (ho:MdOk m) (hx:IxAt w m a ix gx) (hp:Blk w gp 155 [pg gx]) (h4:Blk w g4 97 [.func (.func 136) #[] #[pg gp]]) :
 Calls prog 137 #[.agg y.cells.toArray,pg g4,pg gp] w (BI w (.bool (gR m y))):=by
 refine BH func137 ntmps137 X λM=>srg (CC M X X λg3 w1 hg3 M=>AJ X (sx_seq (srg (yl X X (Blk.c (h4.fr0 M.fr) 0 X) (yb X (AU M 0 X X X (LZ M 10 X (BJ X X X call136) (YU m a ix gx gp y.id _ ho (hx.fr0 M.fr) (hp.fr0 M.fr)) λw2 M=>yb X ?_)))))))
 refine nq (AF X (λh11=>?_) (λh11=>?_))
 ·exact AE X (gnr (qx_then_ret (gr1 X ⟨by rw [gR,if_pos h11],M.fr⟩)))
 ·have h11p:=(BL h11);refine sx_skip (qx_seq (srg (I5 M (wn_none X) X X X λg12 w3 hg12 M=>EI M (wn_none X) X X 92 X [.map none] GS X λg5 w4 hg5 M=>gp1 M 0 X X X GW λw5 M=>EV (EI M (wn_none X) X X 140 X [.nilFunc] S7 X λg6 w6 hg6 M=>?_))));refine EV (ya X (CP (us:=[]) (vs:=[pg gp,pg g4,pg g5,pg g6]) X X X) (E7 (cs':=[.func (.func 138) #[] #[pg gp,pg g4,pg g5,pg g6]]) M 0 (wn_none X) X X X X X X X SK (CO X) X λw7 M=>EV (AU M 0 X X X (yb X (AU M 3 X X X ?_)))));have M:=Mem.join2 (M.pk [1,2,0,3]) (As.fresh g5 g12 []) ⟨M.blk 1 X,M.neMp 1 2 X X B3,[],M.mp 2 X,λ_=>by simp [CA]⟩ (λg hg=>by simpa [As.fresh,As.blk,As.mp] using hg);have hSn:=M.newF 0 X;have h6n:=M.neFresh 1 0 X X B3;refine cl 17 X (BJ X X X call138) (cI m a ix gx gp g4 g5 g12 g6 w ho hx hp h4 hSn h6n m.fls.length y.id [] _ (oV m []) M.fr (M.freshF 0 X) (M.blk 1 X)) ?_;rintro _ w8 ⟨rfl,hFw8,hfw8⟩;have M:=M.updFresh 0 X hFw8 hfw8;exact ⟨_,X,EV (yl X X (Blk.c (M.freshC 0 X) 0 X) (yb X (AU M 2 X X X (ya X (UT X X X underlying92 underlying9 N8 (M.freshF 0 X)) (AV X X (gnr (gr1 X ⟨by rw [gR,AM h11],M.fr⟩)))))))⟩
theorem mE (m:Md) (a:MdA) (ix:IxA) (gx:Nat) (w:World) (ho:MdOk m) (hx:IxAt w m a ix gx) :
 Calls prog 74 #[pg gx] w (BI w (K4 (ffE (gR m) m.els))):=by
 refine BH func74 ntmps74 X λM=>srg (D6 M (wn_none X) X X 155 X X ([pg gx]) X λg1 w1 hg1 M=>yb X (AJ X (srg (ya X (CP (us:=[]) (vs:=[pg g1]) X X X) (EI M (wn_none X) X X 97 X [.nilFunc] GG X λg4 w2 hg4 M=>E7 (cs':=[.func (.func 136) #[] #[pg g1]]) M 0 (wn_none X) X X X X X X X GJ (CO X) X λw3 M=>?_)))))
 refine EV (AU M 1 X X X (AV X X (yb X (yl X X (Blk.c ((hx.fr0 M.fr).blk) 3 X) (ya X (CP (us:=[]) (vs:=[pg g4,pg g1]) X X X) (CD M 12 X X call110 (IZ _ _ m.els (by have:=ho.nfls;have:=ho.nels;have:=ho.nvars;omega) 137 [pg g4,pg g1] (gR m) _ (G5 call137 (λz hz w9 hf9=>mF m a ix gx g1 g4 z w9 ho ((hx.fr0 M.fr).fr0 hf9) ((M.blk 1 X).fr0 hf9) ((M.blk 0 X).fr0 hf9))) (M.rd hx.md.els)) λw4 M=>?_))))));iterate 4 refine yb X ?_
 exact gnr (C4 X X X ⟨congrArg Ending.returned (TP _ _),M.fr⟩)
end Go.Proofs.YtaheakjfkpkefaaGreatDoor
