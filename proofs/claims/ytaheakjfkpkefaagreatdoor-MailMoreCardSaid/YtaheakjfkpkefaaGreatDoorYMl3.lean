/- Lemmas that the last text rests on. Condition: each says its own. -/
import Derived.Test.YtaheakjfkpkefaaGreatDoorYMl2
import Derived.Test.YtaheakjfkpkefaaGreatDoorYFits
set_option maxHeartbeats 16000000
set_option maxRecDepth 100000
namespace Go.Proofs.YtaheakjfkpkefaaGreatDoor
open Go.RowKit
open Tryz
structure Mq where
 nm:List UInt8
 key:List UInt8
 vars:List Bd
 V:Option Addr
 vc:Nat
 un:Int
def Mq.cells (q:Mq):List Value:=[str q.nm,str q.key,.slice q.V q.vars.length q.vc,.int .i64 q.un]
structure MqOk (w:World) (q:Mq):Prop where
 V:Rd w q.V (q.vars.length * 5) (AB Bd.cells q.vars)
 ok:BdOk q.vars
theorem MqOk.fr0 {w w':World} {q:Mq} (h:MqOk w q) (hf:Fr0 w w'):MqOk w' q:=⟨h.V.fr0 hf,h.ok⟩
def D9 (q:Mq) (x:Pa) (wt:Wt):Bool:=((decide ((wt.ev.toNat:Int)=(2:Int)) && decide (wt.nm=q.nm)) && decide (wt.key=q.key)) && decide (MY x.m.vars q.vars=(0:Int))
theorem j7 (m:Md) (gc:Nat) (c:CrA) (F:List Nat) (w:World) (ho:MdOk m) (hC:CourseN w m gc c F) :
 Calls prog 21 #[pg gc] w λe w' => ∃a' F0,e=.returned (.agg (Md.cells m a').toArray)∧MdN w' m a' F0∧(∀g ∈ F0,w.heap.size≤g∧g<w'.heap.size)∧Fr0 w w':=by
 refine BL func21 ntmps21 rfl λM=>srg (CO M rfl zr_api_Model λg2 w1 hg2 M=>nq (sx_seq (AC rfl (ya rfl (IC rfl rfl rfl (pt rfl)) (nq (sx_false rfl (sx_skip ?_)))))))
 refine qx_seq (AC rfl (AV rfl rfl (ya rfl (AH (xs:=[str m.id,str m.nm,.slice c.a.V m.vars.length c.a.vc,.slice c.a.E m.els.length c.a.ec,.slice c.a.F m.fls.length c.a.fc]) rfl rfl (DK ((hC.fr0 M.fr).blk) 0 5 rfl rfl) underlying62 rfl B6) (cl 10 rfl (AE rfl rfl call39) (ZC m c.a _ ho ((hC.fr0 M.fr).md.md)) ?_))))
 rintro _ w2 ⟨a',F0,rfl,hmd,hnw,hfw2⟩
 refine ⟨_,rfl,?_⟩
 have M:=M.push hfw2 (As.mdp m a' F0) hmd hnw
 exact C2 M 1 rfl rfl B6 rfl λw3 M=>gnr (DQ rfl rfl (M.rdBlk 1 rfl rfl) underlying62 rfl B6 ⟨a',F0,rfl,M.mdN 0 rfl,M.new0 0 rfl,M.fr⟩)
theorem o2 {x:Pa} {w:World} (hx:PaOk w x) (hr:runP x=true) :
 Calls prog 21 #[.pointer x.p] w λe w' => ∃a' F0,e=.returned (.agg (Md.cells x.m a').toArray)∧MdN w' x.m a' F0∧(∀g ∈ F0,w.heap.size≤g∧g<w'.heap.size)∧Fr0 w w':=by
 obtain ⟨gc,h,hC,hn,ho⟩:=NT hx hr
 rw [h]
 exact j7 x.m gc x.c x.F w ho hC
theorem oQ (A:Option Addr) (cp n:Nat) (fa:FuncId) (gm:Nat) (w:World) :
 Calls prog 18 #[.slice A n cp,.func (.func fa) #[] #[pg gm]] w λe w' => ∃gl ga,e=.returned (.func (.func 43) #[] #[pg gl,pg ga])∧Blk w' gl 29 [.slice A n cp]∧Blk w' ga 75 [.func (.func fa) #[] #[pg gm]]∧(w.heap.size≤gl∧gl<w'.heap.size)∧(w.heap.size≤ga∧ga<w'.heap.size)∧Fr0 w w':=by
 refine BL func18 ntmps18 rfl λM=>srg (DB M (wn_none rfl) rfl rfl 29 rfl rfl ([.slice A n cp]) rfl λg2 w1 hg2 M=>DB M (wn_none rfl) rfl rfl 75 rfl rfl ([.func (.func fa) #[] #[pg gm]]) rfl λg3 w2 hg3 M=>AG rfl (srg (ya rfl (CE (us:=[]) (vs:=[pg g2,pg g3]) rfl rfl rfl) (AG rfl ?_))))
 exact sx_ret (gr1 rfl ⟨_,_,rfl,M.blk 1 rfl,M.blk 0 rfl,M.new0 1 rfl _ (by simp [As.blk]),M.new0 0 rfl _ (by simp [As.blk]),M.fr⟩)
theorem dU (gm:Nat) (q:Mq) (x:Pa) (wt:Wt) (w:World) (hbm:Blk w gm 26 q.cells) (hx:PaOk w x) (hrun:runP x=true) (hq:MqOk w q) (hY:Lay0 w) :
 Calls prog 19 #[.agg (Pa.cells x).toArray,.agg (Wt.cells wt).toArray,pg gm] w (BN w (.bool (D9 q x wt))):=by
 obtain ⟨gc,hpp,hC,hnk,hmo⟩:=NT hx hrun
 refine BL func19 ntmps19 rfl λM=>srg (DD M rfl rfl λg3 w1 hg3 M=>DD M rfl rfl λg4 w2 hg4 M=>AG rfl (sx_seq (I6 M 27 CL λM=>oc 0 27 rfl rfl M (ol 1 27 rfl rfl rfl M (λ_ M=>(M.cell 0 rfl rfl)) (oa 2 27 rfl rfl M (λ_ M=>BO rfl rfl rfl) (oc 3 27 rfl rfl M ?_))))))
 refine D7 (d:=9) rfl (λh9=>?_) (λh9=>?_)
 ·refine ob 4 27 rfl (wn_on rfl rfl rfl) rfl rfl M (λ_ M=>yp rfl) (ob 5 27 rfl (wn_on rfl rfl rfl) rfl rfl M (λ_ M=>B9 rfl rfl (sc rfl) (M.cell 0 rfl rfl)) (ob 6 27 rfl (wn_on rfl rfl rfl) rfl rfl M (λ_ M=>yp rfl) (ob 7 27 rfl (wn_on rfl rfl rfl) rfl rfl M (λ_ M=>B9 rfl rfl (sc rfl) (Blk.c (hbm.fr0 M.fr) 0 rfl)) (ob 8 27 rfl (wn_on rfl rfl rfl) rfl rfl M (λ_ M=>CS rfl rfl rfl) (oc 9 27 rfl rfl M (oc 10 27 rfl rfl M (D7 (d:=16) rfl (λh16=>?_) (λh16=>?_))))))))
  ·refine ob 11 27 rfl (wn_on rfl rfl rfl) rfl rfl M (λ_ M=>yp rfl) (ob 12 27 rfl (wn_on rfl rfl rfl) rfl rfl M (λ_ M=>B9 rfl rfl (sc rfl) (M.cell 0 rfl rfl)) (ob 13 27 rfl (wn_on rfl rfl rfl) rfl rfl M (λ_ M=>yp rfl) (ob 14 27 rfl (wn_on rfl rfl rfl) rfl rfl M (λ_ M=>B9 rfl rfl (sc rfl) (Blk.c (hbm.fr0 M.fr) 1 rfl)) (ob 15 27 rfl (wn_on rfl rfl rfl) rfl rfl M (λ_ M=>CS rfl rfl rfl) (oc 16 27 rfl rfl M (oc 17 27 rfl rfl M (D7 (d:=23) rfl (λh23=>?_) (λh23=>?_))))))))
   ·refine ob 18 27 rfl (wn_on rfl rfl rfl) rfl rfl M (λ_ M=>yp rfl) (ob 19 27 rfl (wn_on rfl rfl rfl) rfl rfl M (λ_ M=>B9 rfl rfl (sc rfl) (M.cell 1 rfl rfl)) (ob 21 27 rfl (wn_on rfl rfl rfl) rfl rfl M (λ_ M=>yp rfl) (ob 22 27 rfl (wn_on rfl rfl rfl) rfl rfl M (λ_ M=>B9 rfl rfl (sc rfl) (Blk.c (hbm.fr0 M.fr) 2 rfl)) (C5 20 (some 26) gkr rfl (wn_on rfl rfl rfl) rfl rfl (AE rfl rfl call21) (o2 (hx.fr0 M.fr) hrun) ?_))))
    rintro _ w3 ⟨a',F0,rfl,hmd,hnw,hfw3⟩
    refine ⟨_,rfl,λ_=>M.step hfw3,?_⟩
    have M:=M.push hfw3 (As.mdp x.m a' F0) hmd hnw
    refine C5 23 (some 29) gkr rfl (wn_on rfl rfl rfl) rfl rfl (AE rfl rfl call20) (Sf.fits_ok x.m.id x.m.nm a'.V q.V a'.vc q.vc (.slice a'.E x.m.els.length a'.ec) (.slice a'.F x.m.fls.length a'.fc) x.m.vars q.vars _ hmo.vars hq.ok (M.mdN 0 rfl).md.vars (hq.V.fr0 M.fr) (hY.fr0 M.fr).utf) ?_
    rintro _ w4 ⟨rfl,hfw4⟩
    refine ⟨_,rfl,λ_=>(M.drop 1).step hfw4,?_⟩
    have M:=M.step hfw4
    exact ob 24 27 rfl (wn_on rfl rfl rfl) rfl rfl (M.drop 1) (λ_ M=>BO rfl rfl rfl) (oc 25 27 rfl rfl (M.drop 1) (oc 26 27 rfl rfl (M.drop 1) (fdn (qx_seq (sx_ret (gr1 rfl ⟨by unfold D9;simp [h9,h16,h23],M.fr⟩))))))
   ·exact B5 18 27 rfl M (B5 19 27 rfl M (B5 20 27 rfl M (B5 21 27 rfl M (B5 22 27 rfl M (B5 23 27 rfl M (B5 24 27 rfl M (oc 25 27 rfl rfl M (oc 26 27 rfl rfl M (fdn (qx_seq (sx_ret (gr1 rfl ⟨by unfold D9;simp [h9,h16,h23],M.fr⟩))))))))))))
  ·refine B5 11 27 rfl M (B5 12 27 rfl M (B5 13 27 rfl M (B5 14 27 rfl M (B5 15 27 rfl M (oc 16 27 rfl rfl M (oc 17 27 rfl rfl M (B5 18 27 rfl M (B5 19 27 rfl M (B5 20 27 rfl M (B5 21 27 rfl M (B5 22 27 rfl M (B5 23 27 rfl M (B5 24 27 rfl M (oc 25 27 rfl rfl M (oc 26 27 rfl rfl M ?_)))))))))))))))
   exact fdn (qx_seq (sx_ret (gr1 rfl ⟨by unfold D9;simp [h9,h16],M.fr⟩)))
 ·refine B5 4 27 rfl M (B5 5 27 rfl M (B5 6 27 rfl M (B5 7 27 rfl M (B5 8 27 rfl M (oc 9 27 rfl rfl M (oc 10 27 rfl rfl M (B5 11 27 rfl M (B5 12 27 rfl M (B5 13 27 rfl M (B5 14 27 rfl M (B5 15 27 rfl M (oc 16 27 rfl rfl M (oc 17 27 rfl rfl M (B5 18 27 rfl M (B5 19 27 rfl M ?_)))))))))))))))
  exact B5 20 27 rfl M (B5 21 27 rfl M (B5 22 27 rfl M (B5 23 27 rfl M (B5 24 27 rfl M (oc 25 27 rfl rfl M (oc 26 27 rfl rfl M (fdn (qx_seq (sx_ret (gr1 rfl ⟨by unfold D9;simp [h9],M.fr⟩))))))))))
end Go.Proofs.YtaheakjfkpkefaaGreatDoor
