/- Lemmas that the last text rests on. Condition: each says its own. -/
import Derived.Test.YtaheakjfkpkefaaGreatDoorZMl2
import Derived.Test.YtaheakjfkpkefaaGreatDoorZFits
set_option maxHeartbeats 16000000
set_option maxRecDepth 100000
namespace Go.Proofs.YtaheakjfkpkefaaGreatDoor
open Go.RowKit
open Tryz
structure Mq where
 nm:List UInt8
 key:List UInt8
 vars:List Bd
 V:Option Addr
 vc:Nat
 un:Int
def Mq.cells (q:Mq):List Value:=[str q.nm,str q.key,.slice q.V q.vars.length q.vc,.int .i64 q.un]
structure MqOk (w:World) (q:Mq):Prop where
 V:Rd w q.V (q.vars.length * 5) (AB Bd.cells q.vars)
 ok:BdOk q.vars
theorem MqOk.fr0 {w w':World} {q:Mq} (h:MqOk w q) (hf:Fr0 w w'):MqOk w' q:=⟨h.V.fr0 hf,h.ok⟩
def G8 (q:Mq) (x:Pa) (wt:Wt):Bool:=((decide ((wt.ev.toNat:Int)=(2:Int)) && decide (wt.nm=q.nm)) && decide (wt.key=q.key)) && decide (N4 x.m.vars q.vars=(0:Int))
def IQ (nm:List UInt8) (wt:Wt):Bool:=decide ((wt.ev.toNat:Int)=(3:Int)) && decide (wt.nm=nm)
theorem kA (m:Md) (gc:Nat) (c:CrA) (F:List Nat) (w:World) (ho:MdOk m) (hC:CourseN w m gc c F) :
 Calls prog 21 #[pg gc] w λe w' => ∃a' F0,e=.returned (.agg (Md.cells m a').toArray)∧MdN w' m a' F0∧(∀g ∈ F0,w.heap.size≤g∧g<w'.heap.size)∧Fr0 w w':=by
 refine BK func21 ntmps21 rfl λM=>srg (CV M rfl zr_api_Model λg2 w1 hg2 M=>nq (sx_seq (AC rfl (ya rfl (IB rfl rfl rfl (pt rfl)) (nq (sx_false rfl (sx_skip ?_)))))))
 refine qx_seq (AC rfl (AT rfl rfl (ya rfl (AI (xs:=[str m.id,str m.nm,.slice c.a.V m.vars.length c.a.vc,.slice c.a.E m.els.length c.a.ec,.slice c.a.F m.fls.length c.a.fc]) rfl rfl (DT ((hC.fr0 M.fr).blk) 0 5 rfl rfl) underlying62 rfl B9) (cl 10 rfl (AE rfl rfl call39) (ZV m c.a _ ho ((hC.fr0 M.fr).md.md)) ?_))))
 rintro _ w2 ⟨a',F0,rfl,hmd,hnw,hfw2⟩
 refine ⟨_,rfl,?_⟩
 have M:=M.push hfw2 (As.mdp m a' F0) hmd hnw
 exact C1 M 1 rfl rfl B9 rfl λw3 M=>gnr (DQ rfl rfl (M.rdBlk 1 rfl rfl) underlying62 rfl B9 ⟨a',F0,rfl,M.mdN 0 rfl,M.new0 0 rfl,M.fr⟩)
theorem p8 {x:Pa} {w:World} (hx:PaOk w x) (hr:runP x=true) :
 Calls prog 21 #[.pointer x.p] w λe w' => ∃a' F0,e=.returned (.agg (Md.cells x.m a').toArray)∧MdN w' x.m a' F0∧(∀g ∈ F0,w.heap.size≤g∧g<w'.heap.size)∧Fr0 w w':=by
 obtain ⟨gc,h,hC,hn,ho⟩:=KX hx hr
 rw [h]
 exact kA x.m gc x.c x.F w ho hC
theorem bB (A:Option Addr) (cp n:Nat) (fa:FuncId) (gm:Nat) (w:World) :
 Calls prog 18 #[.slice A n cp,.func (.func fa) #[] #[pg gm]] w λe w' => ∃gl ga,e=.returned (.func (.func 43) #[] #[pg gl,pg ga])∧Blk w' gl 29 [.slice A n cp]∧Blk w' ga 75 [.func (.func fa) #[] #[pg gm]]∧(w.heap.size≤gl∧gl<w'.heap.size)∧(w.heap.size≤ga∧ga<w'.heap.size)∧Fr0 w w':=by
 refine BK func18 ntmps18 rfl λM=>srg (D3 M (wn_none rfl) rfl rfl 29 rfl rfl ([.slice A n cp]) rfl λg2 w1 hg2 M=>D3 M (wn_none rfl) rfl rfl 75 rfl rfl ([.func (.func fa) #[] #[pg gm]]) rfl λg3 w2 hg3 M=>AG rfl (srg (ya rfl (CB (us:=[]) (vs:=[pg g2,pg g3]) rfl rfl rfl) (AG rfl ?_))))
 exact sx_ret (gr1 rfl ⟨_,_,rfl,M.blk 1 rfl,M.blk 0 rfl,M.new0 1 rfl _ (by simp [As.blk]),M.new0 0 rfl _ (by simp [As.blk]),M.fr⟩)
theorem eY (gm:Nat) (q:Mq) (x:Pa) (wt:Wt) (w:World) (hbm:Blk w gm 26 q.cells) (hx:PaOk w x) (hrun:runP x=true) (hq:MqOk w q) (hY:Lay0 w) :
 Calls prog 19 #[.agg (Pa.cells x).toArray,.agg (Wt.cells wt).toArray,pg gm] w (BM w (.bool (G8 q x wt))):=by
 obtain ⟨gc,hpp,hC,hnk,hmo⟩:=KX hx hrun
 refine BK func19 ntmps19 rfl λM=>srg (D7 M rfl rfl λg3 w1 hg3 M=>D7 M rfl rfl λg4 w2 hg4 M=>AG rfl (sx_seq (HT M 27 CF λM=>oc 0 27 rfl rfl M (ol 1 27 rfl rfl rfl M (λ_ M=>(M.cell 0 rfl rfl)) (oa 2 27 rfl rfl M (λ_ M=>BW rfl rfl rfl) (oc 3 27 rfl rfl M ?_))))))
 refine D6 (d:=9) rfl (λh9=>?_) (λh9=>?_)
 ·refine ob 4 27 rfl (wn_on rfl rfl rfl) rfl rfl M (λ_ M=>yp rfl) (ob 5 27 rfl (wn_on rfl rfl rfl) rfl rfl M (λ_ M=>B6 rfl rfl (sc rfl) (M.cell 0 rfl rfl)) (ob 6 27 rfl (wn_on rfl rfl rfl) rfl rfl M (λ_ M=>yp rfl) (ob 7 27 rfl (wn_on rfl rfl rfl) rfl rfl M (λ_ M=>B6 rfl rfl (sc rfl) (Blk.c (hbm.fr0 M.fr) 0 rfl)) (ob 8 27 rfl (wn_on rfl rfl rfl) rfl rfl M (λ_ M=>CP rfl rfl rfl) (oc 9 27 rfl rfl M (oc 10 27 rfl rfl M (D6 (d:=16) rfl (λh16=>?_) (λh16=>?_))))))))
  ·refine ob 11 27 rfl (wn_on rfl rfl rfl) rfl rfl M (λ_ M=>yp rfl) (ob 12 27 rfl (wn_on rfl rfl rfl) rfl rfl M (λ_ M=>B6 rfl rfl (sc rfl) (M.cell 0 rfl rfl)) (ob 13 27 rfl (wn_on rfl rfl rfl) rfl rfl M (λ_ M=>yp rfl) (ob 14 27 rfl (wn_on rfl rfl rfl) rfl rfl M (λ_ M=>B6 rfl rfl (sc rfl) (Blk.c (hbm.fr0 M.fr) 1 rfl)) (ob 15 27 rfl (wn_on rfl rfl rfl) rfl rfl M (λ_ M=>CP rfl rfl rfl) (oc 16 27 rfl rfl M (oc 17 27 rfl rfl M (D6 (d:=23) rfl (λh23=>?_) (λh23=>?_))))))))
   ·refine ob 18 27 rfl (wn_on rfl rfl rfl) rfl rfl M (λ_ M=>yp rfl) (ob 19 27 rfl (wn_on rfl rfl rfl) rfl rfl M (λ_ M=>B6 rfl rfl (sc rfl) (M.cell 1 rfl rfl)) (ob 21 27 rfl (wn_on rfl rfl rfl) rfl rfl M (λ_ M=>yp rfl) (ob 22 27 rfl (wn_on rfl rfl rfl) rfl rfl M (λ_ M=>B6 rfl rfl (sc rfl) (Blk.c (hbm.fr0 M.fr) 2 rfl)) (C6 20 (some 26) gkr rfl (wn_on rfl rfl rfl) rfl rfl (AE rfl rfl call21) (p8 (hx.fr0 M.fr) hrun) ?_))))
    rintro _ w3 ⟨a',F0,rfl,hmd,hnw,hfw3⟩
    refine ⟨_,rfl,λ_=>M.step hfw3,?_⟩
    have M:=M.push hfw3 (As.mdp x.m a' F0) hmd hnw
    refine C6 23 (some 29) gkr rfl (wn_on rfl rfl rfl) rfl rfl (AE rfl rfl call20) (Sf.fits_ok x.m.id x.m.nm a'.V q.V a'.vc q.vc (.slice a'.E x.m.els.length a'.ec) (.slice a'.F x.m.fls.length a'.fc) x.m.vars q.vars _ hmo.vars hq.ok (M.mdN 0 rfl).md.vars (hq.V.fr0 M.fr) (hY.fr0 M.fr).utf) ?_
    rintro _ w4 ⟨rfl,hfw4⟩
    refine ⟨_,rfl,λ_=>(M.drop 1).step hfw4,?_⟩
    have M:=M.step hfw4
    exact ob 24 27 rfl (wn_on rfl rfl rfl) rfl rfl (M.drop 1) (λ_ M=>BW rfl rfl rfl) (oc 25 27 rfl rfl (M.drop 1) (oc 26 27 rfl rfl (M.drop 1) (fdn (qx_seq (sx_ret (gr1 rfl ⟨by unfold G8;simp [h9,h16,h23],M.fr⟩))))))
   ·exact B7 18 27 rfl M (B7 19 27 rfl M (B7 20 27 rfl M (B7 21 27 rfl M (B7 22 27 rfl M (B7 23 27 rfl M (B7 24 27 rfl M (oc 25 27 rfl rfl M (oc 26 27 rfl rfl M (fdn (qx_seq (sx_ret (gr1 rfl ⟨by unfold G8;simp [h9,h16,h23],M.fr⟩))))))))))))
  ·refine B7 11 27 rfl M (B7 12 27 rfl M (B7 13 27 rfl M (B7 14 27 rfl M (B7 15 27 rfl M (oc 16 27 rfl rfl M (oc 17 27 rfl rfl M (B7 18 27 rfl M (B7 19 27 rfl M (B7 20 27 rfl M (B7 21 27 rfl M (B7 22 27 rfl M (B7 23 27 rfl M (B7 24 27 rfl M (oc 25 27 rfl rfl M (oc 26 27 rfl rfl M ?_)))))))))))))))
   exact fdn (qx_seq (sx_ret (gr1 rfl ⟨by unfold G8;simp [h9,h16],M.fr⟩)))
 ·refine B7 4 27 rfl M (B7 5 27 rfl M (B7 6 27 rfl M (B7 7 27 rfl M (B7 8 27 rfl M (oc 9 27 rfl rfl M (oc 10 27 rfl rfl M (B7 11 27 rfl M (B7 12 27 rfl M (B7 13 27 rfl M (B7 14 27 rfl M (B7 15 27 rfl M (oc 16 27 rfl rfl M (oc 17 27 rfl rfl M (B7 18 27 rfl M (B7 19 27 rfl M ?_)))))))))))))))
  exact B7 20 27 rfl M (B7 21 27 rfl M (B7 22 27 rfl M (B7 23 27 rfl M (B7 24 27 rfl M (oc 25 27 rfl rfl M (oc 26 27 rfl rfl M (fdn (qx_seq (sx_ret (gr1 rfl ⟨by unfold G8;simp [h9],M.fr⟩))))))))))
theorem VR (gm:Nat) (nm:List UInt8) (x:Pa) (wt:Wt) (w:World) (hbm:Blk w gm 9 [str nm]) :
 Calls prog 23 #[.agg (Pa.cells x).toArray,.agg (Wt.cells wt).toArray,pg gm] w (BM w (.bool (IQ nm wt))):=by
 refine BK func23 ntmps23 rfl λM=>srg (D7 M rfl rfl λg3 w1 hg3 M=>D7 M rfl rfl λg4 w2 hg4 M=>AG rfl (AC rfl (AS M 0 rfl rfl rfl (C2 rfl rfl (yb rfl ?_)))))
 refine fvm M 5 [5] [(14,.bool ((decide ((wt.ev.toNat:Int)=3)) && (decide (wt.nm=nm))))] ?_ (λk9=>?_)
 ·intro w3 M
  exact yb rfl (gnr (gr1 rfl ⟨rfl,M.fr⟩))
 refine AD (d:=9) rfl (λh9=>?_) (λh9=>?_)
 ·exact gyq rfl (C3 M 0 rfl rfl rfl (ym rfl rfl (Blk.c (hbm.fr0 M.fr) 0 rfl) (yd rfl (CP rfl rfl rfl) (yb rfl (k9 M ⟨rfl,(by rw [h9];rfl),trivial⟩)))))
 ·iterate 4 refine yo rfl ?_
  exact yb rfl (k9 M ⟨rfl,(by rw [h9];rfl),trivial⟩)
end Go.Proofs.YtaheakjfkpkefaaGreatDoor
