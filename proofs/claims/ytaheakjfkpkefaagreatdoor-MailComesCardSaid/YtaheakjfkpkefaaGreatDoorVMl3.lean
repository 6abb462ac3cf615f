/- Lemmas. -/
import Derived.Test.YtaheakjfkpkefaaGreatDoorVMl2
import Derived.Test.YtaheakjfkpkefaaGreatDoorVFits
set_option maxHeartbeats 16000000
set_option maxRecDepth 100000
namespace Go.Proofs.YtaheakjfkpkefaaGreatDoor
open Go.RowKit
open Tryz
structure Mq where
 nm:List UInt8
 key:List UInt8
 vars:List Bd
 V:Option Addr
 vc:Nat
 un:Int
def Mq.cells (q:Mq):List Value:=[str q.nm,str q.key,.slice q.V q.vars.length q.vc,.int .i64 q.un]
structure MqOk (w:World) (q:Mq):Prop where
 V:Rd w q.V (q.vars.length*5) (AD Bd.cells q.vars)
 ok:BdOk q.vars
theorem MqOk.fr0 {w w':World} {q:Mq} (h:MqOk w q) (hf:Fr0 w w'):MqOk w' q:=⟨h.V.fr0 hf,h.ok⟩
def IE (q:Mq) (x:Pa) (wt:Wt):Bool:=((decide ((wt.ev.toNat:Int)=(2:Int))&&decide (wt.nm=q.nm))&&decide (wt.key=q.key))&&decide (OH x.m.vars q.vars=(0:Int))
def PU (nm:List UInt8) (wt:Wt):Bool:=decide ((wt.ev.toNat:Int)=(3:Int))&&decide (wt.nm=nm)
theorem mM (m:Md) (gc:Nat) (c:CrA) (F:List Nat) (w:World) (ho:MdOk m) (hC:CourseN w m gc c F) :
 Calls prog 21 #[pg gc] w λe w'=>∃a' F0,e=.returned (.agg (Md.cells m a').toArray)∧MdN w' m a' F0∧(∀g∈F0,w.heap.size≤g∧g<w'.heap.size)∧Fr0 w w':=by
 refine BH func21 ntmps21 X λM=>srg (CI M X zr_api_Model λg2 w1 hg2 M=>nq (sx_seq (AE X (ya X (J1 X X X (pt X)) (nq (sx_false X (sx_skip ?_)))))))
 refine qx_seq (AE X (AV X X (ya X (AK (xs:=[str m.id,str m.nm,.slice c.a.V m.vars.length c.a.vc,.slice c.a.E m.els.length c.a.ec,.slice c.a.F m.fls.length c.a.fc]) X X (DZ ((hC.fr0 M.fr).blk) 0 5 X X) underlying62 X BN) (cl 10 X (AG X X call39) (cR m c.a _ ho ((hC.fr0 M.fr).md.md)) ?_))));rintro _ w2 ⟨a',F0,rfl,hmd,hnw,hfw2⟩;refine ⟨_,X,?_⟩;have M:=M.push hfw2 (As.mdp m a' F0) hmd hnw;exact BD M 1 X X BN X λw3 M=>gnr (E3 X X (M.rdBlk 1 X X) underlying62 X BN ⟨a',F0,X,M.mdN 0 X,M.new0 0 X,M.fr⟩)
theorem sR {x:Pa} {w:World} (hx:PaOk w x) (hr:runP x=true) :
 Calls prog 21 #[.pointer x.p] w λe w'=>∃a' F0,e=.returned (.agg (Md.cells x.m a').toArray)∧MdN w' x.m a' F0∧(∀g∈F0,w.heap.size≤g∧g<w'.heap.size)∧Fr0 w w':=by
 obtain ⟨gc,h,hC,hn,ho⟩:=KG hx hr;rw [h];exact mM x.m gc x.c x.F w ho hC
theorem dX (A:Option Addr) (cp n:Nat) (fa:FuncId) (gm:Nat) (w:World) :
 Calls prog 18 #[.slice A n cp,.func (.func fa) #[] #[pg gm]] w λe w'=>∃gl ga,e=.returned (.func (.func 43) #[] #[pg gl,pg ga])∧Blk w' gl 29 [.slice A n cp]∧Blk w' ga 75 [.func (.func fa) #[] #[pg gm]]∧(w.heap.size≤gl∧gl<w'.heap.size)∧(w.heap.size≤ga∧ga<w'.heap.size)∧Fr0 w w':=by
 refine BH func18 ntmps18 X λM=>srg (D6 M (wn_none X) X X 29 X X ([.slice A n cp]) X λg2 w1 hg2 M=>D6 M (wn_none X) X X 75 X X ([.func (.func fa) #[] #[pg gm]]) X λg3 w2 hg3 M=>AJ X (srg (ya X (CP (us:=[]) (vs:=[pg g2,pg g3]) X X X) (AJ X ?_))))
 exact sx_ret (gr1 X ⟨_,_,X,M.blk 1 X,M.blk 0 X,M.new0 1 X _ (by simp [As.blk]),M.new0 0 X _ (by simp [As.blk]),M.fr⟩)
theorem iT (gm:Nat) (q:Mq) (x:Pa) (wt:Wt) (w:World) (hbm:Blk w gm 26 q.cells) (hx:PaOk w x) (hrun:runP x=true) (hq:MqOk w q) (hY:Lay0 w) :
 Calls prog 19 #[.agg (Pa.cells x).toArray,.agg (Wt.cells wt).toArray,pg gm] w (BI w (.bool (IE q x wt))):=by
 obtain ⟨gc,hpp,hC,hnk,hmo⟩:=KG hx hrun;refine BH func19 ntmps19 X λM=>srg (CC M X X λg3 w1 hg3 M=>CC M X X λg4 w2 hg4 M=>AJ X (sx_seq (GP M 27 CH λM=>oc 0 27 X X M (ol 1 27 X X X M (λ_ M=>(M.cell 0 X X)) (oa 2 27 X X M (λ_ M=>C9 X X X) (oc 3 27 X X M ?_))))))
 refine DN (d:=9) X (λh9=>?_) (λh9=>?_)
 ·refine ob 4 27 X (wn_on X X X) X X M (λ_ M=>yp X) (ob 5 27 X (wn_on X X X) X X M (λ_ M=>BF X X (sc X) (M.cell 0 X X)) (ob 6 27 X (wn_on X X X) X X M (λ_ M=>yp X) (ob 7 27 X (wn_on X X X) X X M (λ_ M=>BF X X (sc X) (Blk.c (hbm.fr0 M.fr) 0 X)) (ob 8 27 X (wn_on X X X) X X M (λ_ M=>CX X X X) (oc 9 27 X X M (oc 10 27 X X M (DN (d:=16) X (λh16=>?_) (λh16=>?_))))))))
  ·refine ob 11 27 X (wn_on X X X) X X M (λ_ M=>yp X) (ob 12 27 X (wn_on X X X) X X M (λ_ M=>BF X X (sc X) (M.cell 0 X X)) (ob 13 27 X (wn_on X X X) X X M (λ_ M=>yp X) (ob 14 27 X (wn_on X X X) X X M (λ_ M=>BF X X (sc X) (Blk.c (hbm.fr0 M.fr) 1 X)) (ob 15 27 X (wn_on X X X) X X M (λ_ M=>CX X X X) (oc 16 27 X X M (oc 17 27 X X M (DN (d:=23) X (λh23=>?_) (λh23=>?_))))))))
   ·refine ob 18 27 X (wn_on X X X) X X M (λ_ M=>yp X) (ob 19 27 X (wn_on X X X) X X M (λ_ M=>BF X X (sc X) (M.cell 1 X X)) (ob 21 27 X (wn_on X X X) X X M (λ_ M=>yp X) (ob 22 27 X (wn_on X X X) X X M (λ_ M=>BF X X (sc X) (Blk.c (hbm.fr0 M.fr) 2 X)) (BQ 20 (some 26) gkr X (wn_on X X X) X X (AG X X call21) (sR (hx.fr0 M.fr) hrun) ?_))));rintro _ w3 ⟨a',F0,rfl,hmd,hnw,hfw3⟩;refine ⟨_,X,λ_=>M.step hfw3,?_⟩;have M:=M.push hfw3 (As.mdp x.m a' F0) hmd hnw;refine BQ 23 (some 29) gkr X (wn_on X X X) X X (AG X X call20) (Sf.fits_ok x.m.id x.m.nm a'.V q.V a'.vc q.vc (.slice a'.E x.m.els.length a'.ec) (.slice a'.F x.m.fls.length a'.fc) x.m.vars q.vars _ hmo.vars hq.ok (M.mdN 0 X).md.vars (hq.V.fr0 M.fr) (hY.fr0 M.fr).utf) ?_;rintro _ w4 ⟨rfl,hfw4⟩;refine ⟨_,X,λ_=>(M.drop 1).step hfw4,?_⟩;have M:=M.step hfw4;exact ob 24 27 X (wn_on X X X) X X (M.drop 1) (λ_ M=>C9 X X X) (oc 25 27 X X (M.drop 1) (oc 26 27 X X (M.drop 1) (fdn (qx_seq (sx_ret (gr1 X ⟨by unfold IE;simp [h9,h16,h23],M.fr⟩))))))
   ·exact BG 18 27 X M (BG 19 27 X M (BG 20 27 X M (BG 21 27 X M (BG 22 27 X M (BG 23 27 X M (BG 24 27 X M (oc 25 27 X X M (oc 26 27 X X M (fdn (qx_seq (sx_ret (gr1 X ⟨by unfold IE;simp [h9,h16,h23],M.fr⟩))))))))))))
  ·refine BG 11 27 X M (BG 12 27 X M (BG 13 27 X M (BG 14 27 X M (BG 15 27 X M (oc 16 27 X X M (oc 17 27 X X M (BG 18 27 X M (BG 19 27 X M (BG 20 27 X M (BG 21 27 X M (BG 22 27 X M (BG 23 27 X M (BG 24 27 X M (oc 25 27 X X M (oc 26 27 X X M ?_)))))))))))))));exact fdn (qx_seq (sx_ret (gr1 X ⟨by unfold IE;simp [h9,h16],M.fr⟩)))
 ·refine BG 4 27 X M (BG 5 27 X M (BG 6 27 X M (BG 7 27 X M (BG 8 27 X M (oc 9 27 X X M (oc 10 27 X X M (BG 11 27 X M (BG 12 27 X M (BG 13 27 X M (BG 14 27 X M (BG 15 27 X M (oc 16 27 X X M (oc 17 27 X X M (BG 18 27 X M (BG 19 27 X M ?_)))))))))))))));exact BG 20 27 X M (BG 21 27 X M (BG 22 27 X M (BG 23 27 X M (BG 24 27 X M (oc 25 27 X X M (oc 26 27 X X M (fdn (qx_seq (sx_ret (gr1 X ⟨by unfold IE;simp [h9],M.fr⟩))))))))))
theorem XN (gm:Nat) (nm:List UInt8) (x:Pa) (wt:Wt) (w:World) (hbm:Blk w gm 9 [str nm]) :
 Calls prog 23 #[.agg (Pa.cells x).toArray,.agg (Wt.cells wt).toArray,pg gm] w (BI w (.bool (PU nm wt))):=by
 refine BH func23 ntmps23 X λM=>srg (CC M X X λg3 w1 hg3 M=>CC M X X λg4 w2 hg4 M=>AJ X (AE X (AU M 0 X X X (BZ X X (yb X ?_)))))
 refine fvm M 5 [5] [(14,.bool ((decide ((wt.ev.toNat:Int)=3))&&(decide (wt.nm=nm))))] ?_ (λk9=>?_)
 ·intro w3 M;exact yb X (gnr (gr1 X ⟨X,M.fr⟩))
 refine AI (d:=9) X (λh9=>?_) (λh9=>?_)
 ·exact gyq X (CE M 0 X X X (ym X X (Blk.c (hbm.fr0 M.fr) 0 X) (yd X (CX X X X) (yb X (k9 M ⟨X,(by rw [h9];rfl),trivial⟩)))))
 ·iterate 4 refine yo X ?_
  exact yb X (k9 M ⟨X,(by rw [h9];rfl),trivial⟩)
end Go.Proofs.YtaheakjfkpkefaaGreatDoor
