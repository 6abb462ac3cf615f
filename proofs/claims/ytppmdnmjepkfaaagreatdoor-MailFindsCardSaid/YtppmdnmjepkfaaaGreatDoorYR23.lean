/- Lemmas. -/
import Derived.Test.YtppmdnmjepkfaaaGreatDoorYMl4
set_option maxHeartbeats 16000000
set_option maxRecDepth 100000
namespace Go.Proofs.YtppmdnmjepkfaaaGreatDoor
open Go.RowKit
open Tryz
section
theorem Fr.putS {S:Nat→Prop} {w w':Kw} (h:Fr S w w') {lr:Nat} (o:Obj) (hl:S lr):Fr S w (w'.putObj lr o):=
 ⟨h.os,h.tape,h.output,by rw [World.putObj_size];exact h.size,λk hk hn=>(World.putObj_heap_other (by intro e;subst e;exact hn hl)).trans (h.block k hk hn)⟩
theorem UD : prog.built 32 []=some #[AA 0,AA 0,str []]:=by kernel_rfl
namespace Sf
theorem mfind_ok (A:Ky) (cp:Nat) (l:List Pa) (q:Mq) (w:Kw) (hP:Pts w A l) (hq:MqOk w q) (hY:Lay0 w) :
 Calls prog 8 #[.slice A l.length cp,.agg q.cells.toArray] w λe w'=>∃ss:List St,SsP l ss∧e=.returned (uG (DV l (N2 q) ss))∧Fr0 w w':=by
 refine sx_enter (vs:=[_,_]) func8 X ntmps8 X (sx_seq (sx_region (sxl_does (some 3) (wn_none X) X X (λρ hρ=>LN 25 (.tmp 1) X q.cells (by rw [hρ _ _ rfl];rfl)) ?_)));rintro _ w1 ⟨gm,rfl,hm1,hm2,hbm,hf1⟩;refine sxl_does (some 4) (wn_none X) X X (λρ hρ=>BN 32 X _ zeroHt.cells LX X) ?_;rintro _ w2 ⟨g4,rfl,h4a,h4b,hb4,hf2⟩;refine sxl_does (some 5) (wn_none X) X X (λρ hρ=>BN 4 X _ [.bool false] QV X) ?_;rintro _ w3 ⟨g5,rfl,h5a,h5b,hb5,hf3⟩;refine sxl_nil (qx_seq (sx_seq (sx_seq (sx_region (sxl_y (wn_none X) X X (yp X) (sxl_y (wn_none X) X X (CY (us:=[]) (vs:=[pg gm]) X X X) (sxl_call (some 9) (wn_none X) X X (AD X X call25) (lT A cp l.length 26 gm w3) ?_)))))));rintro _ w4 ⟨gl,ga,rfl,hbl,hba,hl,ha,hf4⟩;refine ⟨_,X,sxl_nil (qx_seq (sx_block (YX X call54 λfn tm rc htm hget hrc=>?_)))⟩;have a0:Agr [] 13 _ { tmps:=tm,defers:=[] }:=⟨htm,X,hget⟩;have hs1:=hf1.size;have hs2:=hf2.size;have hs3:=hf3.size;have hs4:=hf4.size;have hfw:Fr0 w w4:=((hf1.trans hf2).trans hf3).trans hf4;have e1:(w4.alloc (.deferred (some []))).heap.size=w4.heap.size+1:=World.size_alloc _ _;obtain ⟨W,hW⟩:∃W,(w4.alloc (.deferred (some []))).alloc (.loop rc)=W:=⟨_,X⟩
 have hfW:Fr0 w4 W:=hW▸(Fr.refl.alloc _).alloc _;have hsW:W.heap.size=w4.heap.size+2:=by rw [←hW,World.size_alloc,e1]
 have hrW:W.heap[w4.heap.size+1]?=some (.loop rc):=by
  have:=World.alloc_heap_new (w4.alloc (.deferred (some []))) (.loop rc)
  rw [e1] at this;rw [←hW];exact this
 have hdW:W.heap[w4.heap.size]?=some (.deferred (some [])):=by
  rw [←hW,TR _ _ (by rw [e1];omega)];exact World.alloc_heap_new _ _
 rw [hW]
 have hnew:∀k,k∈[w4.heap.size,w4.heap.size+1,g4,g5]→w.heap.size≤k:=λk hk=>by
  simp only [Ak,Ax,or_false] at hk
  omega
 have hin:∀w1',Fr (λk=>k∈[w4.heap.size,w4.heap.size+1,g4,g5]) W w1'→Fr0 w w1':=λw1' hf=>HC (hfw.trans hfW) hf hnew
 have hbmW:∀w1',Fr (λk=>k∈[w4.heap.size,w4.heap.size+1,g4,g5]) W w1'→Blk w1' gm 25 q.cells:=λw1' hf=>
  Blk.fr (((hbm.fr0 hf2).fr0 hf3).fr0 (hf4.trans hfW)) hf (by simp only [Ak,Ax,or_false];omega)
 refine (f7 A cp l gl ga 26 gm (N2 q) false (w4.heap.size+1) (JFi rc w4.heap.size (w4.heap.size+1) g4 g5) (tJ rc _ _ g4 g5) [w4.heap.size,w4.heap.size+1,g4,g5] W ?_ ?_ call26 ?_ ?_ ?_).mono ?_
 ·exact ⟨X,hdW,.inl ⟨X,hrW,(hb4.fr0 hf3).fr0 (hf4.trans hfW),hb5.fr0 (hf4.trans hfW)⟩⟩
 ·intro k hk;simp only [Ak,Ax,or_false] at hk
  omega
 ·intro w1' hf;exact ⟨hP.fr0 (hin w1' hf),hY.fr0 (hin w1' hf),Blk.fr (hbl.fr0 hfW) hf (by simp only [Ak,Ax,or_false];omega),Blk.fr (hba.fr0 hfW) hf (by simp only [Ak,Ax,or_false];omega)⟩
 ·intro x hx hrun wt w1' hf;exact oN gm q x wt w1' (hbmW w1' hf) ((hP.fr0 (hin w1' hf)).ok x hx) hrun (hq.fr0 (hin w1' hf)) (hY.fr0 (hin w1' hf))
 ·intro hs F h v1 _ hJ hgo;obtain ⟨rfl,hd1,hc1⟩:=hJ;have hs0:hs=[]:=hgo.resolve_left (by decide);subst hs0;rcases hc1 with ⟨_,hr1,hb41,hb51⟩|⟨x,hx,_⟩
  case inr=>cases hx
  have hlr:=(An.1 hr1).1;refine ⟨rc,hr1,by rw [hrc];rfl,roundIn_of_wpIn (F:=Fence.wide) trivial ?_⟩
  have hfold:((rc.params.zip [Value.agg h.cells.toArray].toArray).foldl (λtmps (t,a)=>tmps.setIfInBounds t a) rc.tmps)=tm.setIfInBounds 10 (.agg h.cells.toArray):=by
   rw [hrc,←Ge,Hy];rfl
  rw [hfold,show rc.assign=_ from Ay Loop.assign hrc,show rc.body=_ from Ay Loop.body hrc];simp only [WG];refine Sx.run (rd:=some (w4.heap.size+1)) (D:=[]) (n:=13) ?_ _ (a0.put (d:=10) (by omega) (.agg h.cells.toArray));refine sx_region (sxl_does (some 6) (wn_none X) X X (λρ hρ=>BN 32 X _ zeroHt.cells LX X) ?_);rintro _ v2 ⟨g6,rfl,h6a,h6b,hb6,hfv2⟩;refine sxl_does none (wn_none X) X X (λρ hρ=>BK 32 (.tmp 6) (.tmp 10) X g6 0 32 _ h.cells (hρ _ _ X) (hρ _ _ X) hb6 EW (by show 0+3≤3;omega) (Ht.cells_one _)) ?_;rintro _ v3 ⟨rfl,hb6',hfv3⟩;rw [HA zeroHt.cells h.cells rfl] at hb6'
  have hfa:Fr0 v1 v3:=hfv2.step hfv3 (λk hk e=>by omega);have hr3:v3.heap[w4.heap.size+1]?=some (.loop rc):=(hfa.block _ hlr (λhh=>hh)).trans hr1;have hready:rc.state=.ready:=by rw [hrc];rfl
  have hsa:=hfa.size;refine sxl_nil (.mk λa1 ha1=>⟨_,run_beginRound hr3 hready,Sx.run (rd:=some (w4.heap.size+1)) ?_ a1 ha1⟩);obtain ⟨v4,hv4⟩:∃v4,v3.putObj (w4.heap.size+1) (.loop { rc with state:=.busy })=v4:=⟨_,X⟩
  rw [hv4];have hs4':v4.heap.size=v3.heap.size:=by rw [←hv4];exact World.putObj_size
  have hfr4:Fr (λk=>k∈[w4.heap.size,w4.heap.size+1,g4,g5]) v1 v4:=by rw [←hv4];exact (Fr.of0 hfa).putS _ (by simp)
  have hl4:=hb41.lt;have hl5:=hb51.lt;have hldd:=(An.1 hd1).1;have hb6_4:Blk v4 g6 32 h.cells:=by rw [←hv4];exact hb6'.putObj _ (by omega)
  have hb4_4:Blk v4 g4 32 zeroHt.cells:=by rw [←hv4];exact (hb41.fr0 hfa).putObj _ (by omega)
  have hb5_4:Blk v4 g5 4 [.bool false]:=by rw [←hv4];exact (hb51.fr0 hfa).putObj _ (by omega)
  have hr4:v4.heap[w4.heap.size+1]?=some (.loop { rc with state:=.busy }):=by rw [←hv4];exact World.putObj_heap_same (by omega)
  have hd4:v4.heap[w4.heap.size]?=some (.deferred (some [])):=by rw [←hv4];exact (World.putObj_heap_other (by omega)).trans ((hfa.block _ hldd (λhh=>hh)).trans hd1)
  refine sx_block (sx_seq (sx_region (sxl_y (wn_none X) X X (AI (xs:=h.cells) X X (Rd.ofBlk hb6_4 X) Ex X EW) (sxl_does none (wn_none X) X X (λρ hρ=>BK 32 (.tmp 4) (.tmp 11) X g4 0 32 _ h.cells (hρ _ _ X) (hρ _ _ X) hb4_4 EW (by show 0+3≤3;omega) (Ht.cells_one _)) ?_))));rintro _ v5 ⟨rfl,hb4_5,hf5⟩;rw [HA zeroHt.cells h.cells rfl] at hb4_5
  refine sxl_does none (wn_none X) X X (λρ hρ=>DW 4 (.tmp 5) (.const (.bool true)) X g5 0 4 _ (.bool true) (hρ _ _ X) (hρ _ _ X) X (hb5_4.fr hf5 (by omega)) aJ (by decide) X) ?_;rintro _ v6 ⟨rfl,hb5_6,hf6⟩;have hs5:=hf5.size;have hs6:=hf6.size;refine sxl_nil (qx_seq (sx_ret (qx_block_ret ?_)));have hr6:v6.heap[w4.heap.size+1]?=some (.loop { rc with state:=.busy }):=(hf6.block _ (by omega) (by omega)).trans ((hf5.block _ (by omega) (by omega)).trans hr4);have hd6:v6.heap[w4.heap.size]?=some (.deferred (some [])):=(hf6.block _ (by omega) (by omega)).trans ((hf5.block _ (by omega) (by omega)).trans hd4);refine .mk λa2 _=>⟨_,_,run_endRound (some .ret) hr6,X,[w4.heap.size,w4.heap.size+1,g4,g5],⟨X,(World.putObj_heap_other (by omega)).trans hd6,.inr ⟨h,X,World.putObj_heap_same (by omega),(hb4_5.fr hf6 (by omega)).putObj _ (by omega),Blk.putObj hb5_6 _ (by omega)⟩⟩,?_,λg hg=>.inl hg⟩
  exact ((hfr4.step hf5 (λk _ e=>by subst e;simp)).step hf6 (λk _ e=>by subst e;simp)).putS _ (by simp)
 rintro x w8 ⟨rfl,ss,hs,F',hp,hhs,hJ,hf8,-⟩;obtain ⟨rfl,hd8,hc8⟩:=hJ;rw [if_neg (by decide)] at hhs
 have hs8:=hf8.size;have hf08:Fr0 w w8:=hin w8 hf8;rcases hc8 with ⟨h0,hr8,hb48,hb58⟩|⟨h,h0,hr8,hb48,hb58⟩
 ·refine ⟨_,rc,X,hr8,(by rw [hrc];intro h;cases h),.inl ⟨(by rw [hrc];rfl),?_⟩⟩;obtain ⟨w9,hw9⟩:∃w9,w8.putObj (w4.heap.size+1) (.loop { rc with state:=.exhausted })=w9:=⟨_,X⟩
  rw [hw9];have hs9:w9.heap.size=w8.heap.size:=by rw [←hw9];exact World.putObj_size
  have hf9:Fr0 w w9:=by rw [←hw9];exact hf08.putObj _ (by omega)
  have hb49:Blk w9 g4 32 zeroHt.cells:=by rw [←hw9];exact hb48.putObj _ (by omega)
  have hb59:Blk w9 g5 4 [.bool false]:=by rw [←hw9];exact hb58.putObj _ (by omega)
  have hd9:w9.heap[w4.heap.size]?=some (.deferred (some [])):=by rw [←hw9];exact (World.putObj_heap_other (by omega)).trans hd8
  refine qx_block_normal (qx_seq (sx_seq (sx_region (sxl_y (wn_none X) X X (B7 (parts:=[]) X X UD) (sxl_does none (wn_none X) X X (λρ hρ=>BK 32 (.tmp 4) (.tmp 12) X g4 0 32 _ zeroHt.cells (hρ _ _ X) (hρ _ _ X) hb49 EW (by show 0+3≤3;omega) (Ht.cells_one _)) ?_)))));rintro _ v5 ⟨rfl,hb4_5,hf5⟩;rw [HA zeroHt.cells zeroHt.cells rfl] at hb4_5
  refine sxl_does none (wn_none X) X X (λρ hρ=>DW 4 (.tmp 5) (.const (.bool false)) X g5 0 4 _ (.bool false) (hρ _ _ X) (hρ _ _ X) X (hb59.fr hf5 (by omega)) aJ (by decide) X) ?_;rintro _ v6 ⟨rfl,hb5_6,hf6⟩;have hs5:=hf5.size;have hs6:=hf6.size;refine sxl_nil (qx_seq (sx_ret ?_));have hd6:v6.heap[w4.heap.size]?=some (.deferred (some [])):=(hf6.block _ (by omega) (by omega)).trans ((hf5.block _ (by omega) (by omega)).trans hd9);refine dT X X X (Rd.ofBlk ((hb4_5.fr hf6 (by omega)).putObj _ (by omega)) X) ((Blk.putObj hb5_6 _ (by omega)).c 0 X) Ex X EW X hd6 ⟨ss,hp,?_,((hf9.step hf5 (λk hk e=>by omega)).step hf6 (λk hk e=>by omega)).putObj _ (by omega)⟩
  have:DV l (N2 q) ss=[]:=by
   cases hh:DV l (N2 q) ss with
   | nil=>rfl
   | cons a r=>rw [hh,h0] at hhs;cases hhs
  rw [this];rfl
 refine ⟨_,_,X,hr8,(by intro h;cases h),.inr ⟨X,?_⟩⟩
 have fin:∀{e:Env} (o:Obj),e.get 4=some (pg g4)→e.get 5=some (pg g5)→QX [{ target:=.collected w4.heap.size,args := #[] }] (bodyPostM Fence.wide 2 prog Tryz.f8 λe w'=>∃ss:List St,SsP l ss∧e=.returned (uG (DV l (N2 q) ss))∧Fr0 w w') .ret 13 e (w8.putObj (w4.heap.size+1) o):=by
  intro e o k4 k5;obtain ⟨w9,hw9⟩:∃w9,w8.putObj (w4.heap.size+1) o=w9:=⟨_,X⟩
  rw [hw9];have hs9:w9.heap.size=w8.heap.size:=by rw [←hw9];exact World.putObj_size
  have hf9:Fr0 w w9:=by rw [←hw9];exact hf08.putObj _ (by omega)
  have hb49:Blk w9 g4 32 h.cells:=by rw [←hw9];exact hb48.putObj _ (by omega)
  have hb59:Blk w9 g5 4 [.bool true]:=by rw [←hw9];exact hb58.putObj _ (by omega)
  have hd9:w9.heap[w4.heap.size]?=some (.deferred (some [])):=by rw [←hw9];exact (World.putObj_heap_other (by omega)).trans hd8
  refine dT X k4 k5 (Rd.ofBlk (hb49.putObj _ (by omega)) X) ((Blk.putObj hb59 _ (by omega)).c 0 X) Ex X EW X hd9 ⟨ss,hp,?_,hf9.putObj _ (by omega)⟩
  cases hh:DV l (N2 q) ss with
  | nil=>rw [hh,h0] at hhs;cases hhs
  | cons a r=>
   rw [hh,h0] at hhs
   injection hhs with hhs
   rw [hhs];rfl
 exact qx_block_ret (qx_then_ret (fin _ X X))
end Sf
theorem RX : (prog.info? 32).map (λi=>(i.zero,i.size))=some (some (.agg #[AA 0,AA 0,str []]),3):=by kernel_rfl
theorem VX : (prog.info? 36).map (·.size)=some 1:=by kernel_rfl
def JA (rc:Loop) (gd lr g2:Nat) (hs:List Ht) (F:List Nat) (w:Kw):Prop:=∃A c,F=gd::lr::g2::(Value.slice A hs.length c).ownBlock.toList∧w.heap[gd]?=some (.deferred (some []))∧w.heap[lr]?=some (.loop rc)∧Blk w g2 36 [.slice A hs.length c] ∧
 w.ownsRow (lr+1) 32 3 (.slice A hs.length c) hs.length (AE Ht.cells hs)
theorem zC (rc:Loop) (gd lr g2:Nat) (hs:List Ht) (F:List Nat) (w w':Kw) (h:∀g∈F,g<w.heap.size→w'.heap[g]?=w.heap[g]?) (hJ:JA rc gd lr g2 hs F w):JA rc gd lr g2 hs F w':=by
 obtain ⟨A,c,rfl,h1,h2,h3,h4⟩:=hJ;exact ⟨A,c,X,MM h (by simp) h1,MM h (by simp) h2,MM h (by simp) h3,(As.own (lr+1) 32 3 (.slice A hs.length c) hs.length (AE Ht.cells hs)).keep (λg hg=>h g (by simp only [Ak];exact .inr (.inr (.inr hg)))) h4⟩
theorem a1t {w:Kw} {base size:Nat} {e:Ly} {v:Kv} {n g:Nat} {xs:Kx} (h:w.ownsRow base e size v n xs) (hg:v.ownBlock=some g):g<w.heap.size:=by
 rcases h.2 with ⟨rfl,_⟩|⟨g',cap,cur,rfl,_,hb,_⟩
 ·simp [Value.ownBlock] at hg
 simp [Value.ownBlock] at hg
 subst hg;exact (An.1 hb).1
namespace Sf
theorem appSeq_ok (A:Ky) (cp:Nat) (l:List Pa) (gl ga:Nat) (fa:FuncId) (gm:Nat) (ap:Pa→Wt→Bool) (w:Kw) (hI:HIn w A cp l gl ga fa gm) (hfa:∀(ar:Array Kv) (w:Kw),(callFunc fa ar).run prog w=.ok (.enter fa ar) w)
 (hask:∀x∈l,runP x=true→∀(wt:Wt) (w1:Kw),Fr0 w w1→Calls prog fa #[.agg (Pa.cells x).toArray,.agg (Wt.cells wt).toArray,pg gm] w1 (BS w1 (.bool (ap x wt)))) :
 Calls prog 60 #[.slice none 0 0,.func (.func 54) #[] #[pg gl,pg ga]] w λe w'=>∃(ss:List St) (A':Ky) (c':Nat),SsP l ss∧e=.returned (.slice A' (DV l ap ss).length c')∧w'.ownsRow w.heap.size 32 3 (.slice A' (DV l ap ss).length c') (DV l ap ss).length (AE Ht.cells (DV l ap ss))∧(DV l ap ss).length≤2400∧Fr0 w w':=by
 refine sx_enter (vs:=[_,_]) func60 X ntmps60 X (sx_seq (sx_region (sxl_does (some 2) (wn_none X) X X (λρ hρ=>LN 36 (.tmp 0) X [.slice none 0 0] (by rw [hρ _ _ rfl];rfl)) ?_)));rintro _ w4 ⟨g2,rfl,h2a,h2b,hb2,hf1⟩;refine sxl_y (wn_none X) X X (yp X) (sxl_nil (qx_seq (sx_seq (sx_seq (sx_region (sxl_y (wn_none X) X X (yp X) (sxl_nil (qx_seq (sx_block (YX X call54 λfn tm rc htm hget hrc=>?_))))))))));have a0:Agr [] 13 _ { tmps:=tm,defers:=[] }:=⟨htm,X,hget⟩;have hs1:=hf1.size;have e1:(w4.alloc (.deferred (some []))).heap.size=w4.heap.size+1:=World.size_alloc _ _;obtain ⟨W,hW⟩:∃W,(w4.alloc (.deferred (some []))).alloc (.loop rc)=W:=⟨_,X⟩
 have hfW:Fr0 w4 W:=hW▸(Fr.refl.alloc _).alloc _;have hsW:W.heap.size=w4.heap.size+2:=by rw [←hW,World.size_alloc,e1]
 have hrW:W.heap[w4.heap.size+1]?=some (.loop rc):=by
  have:=World.alloc_heap_new (w4.alloc (.deferred (some []))) (.loop rc)
  rw [e1] at this;rw [←hW];exact this
 have hdW:W.heap[w4.heap.size]?=some (.deferred (some [])):=by
  rw [←hW,TR _ _ (by rw [e1];omega)];exact World.alloc_heap_new _ _
 rw [hW]
 have hnew:∀k,k∈[w4.heap.size,w4.heap.size+1,g2]→w.heap.size≤k:=λk hk=>by
  simp only [Ak,Ax,or_false] at hk
  omega
 have hin:∀w1',Fr (λk=>k∈[w4.heap.size,w4.heap.size+1,g2]) W w1'→Fr0 w w1':=λw1' hf=>HC (hf1.trans hfW) hf hnew
 refine (f7 A cp l gl ga fa gm ap true (w4.heap.size+1) (JA rc w4.heap.size (w4.heap.size+1) g2) (zC rc _ _ g2) [w4.heap.size,w4.heap.size+1,g2] W ?_ ?_ hfa ?_ ?_ ?_).mono ?_
 ·exact ⟨none,0,X,hdW,hrW,hb2.fr0 hfW,World.ownsRow_nil _ _ _ _⟩
 ·intro k hk;simp only [Ak,Ax,or_false] at hk
  omega
 ·intro w1' hf
  have:=hin w1' hf
  exact ⟨hI.pts.fr0 this,hI.lay.fr0 this,hI.gl.fr0 this,hI.ga.fr0 this⟩
 ·intro x hx hrun wt w1' hf;exact hask x hx hrun wt w1' (hin w1' hf)
 ·intro hs F h v1 hlen hJ _;obtain ⟨Ar,cr,rfl,hd1,hr1,hb21,ho1⟩:=hJ;have hlr:=(An.1 hr1).1;have hldd:=(An.1 hd1).1;have hl2:=hb21.lt;refine ⟨rc,hr1,by rw [hrc];rfl,roundIn_of_wpIn (F:=Fence.wide) trivial ?_⟩
  have hfold:((rc.params.zip [Value.agg h.cells.toArray].toArray).foldl (λtmps (t,a)=>tmps.setIfInBounds t a) rc.tmps)=tm.setIfInBounds 7 (.agg h.cells.toArray):=by
   rw [hrc,←Ge,Hy];rfl
  rw [hfold,show rc.assign=_ from Ay Loop.assign hrc,show rc.body=_ from Ay Loop.body hrc];simp only [WG];refine Sx.run (rd:=some (w4.heap.size+1)) (D:=[]) (n:=13) ?_ _ (a0.put (d:=7) (by omega) (.agg h.cells.toArray));refine sx_region (sxl_does (some 5) (wn_none X) X X (λρ hρ=>BN 32 X _ zeroHt.cells LX X) ?_);rintro _ v2 ⟨g6,rfl,h6a,h6b,hb6,hfv2⟩;refine sxl_does none (wn_none X) X X (λρ hρ=>BK 32 (.tmp 5) (.tmp 7) X g6 0 32 _ h.cells (hρ _ _ X) (hρ _ _ X) hb6 EW (by show 0+3≤3;omega) (Ht.cells_one _)) ?_;rintro _ v3 ⟨rfl,hb6',hfv3⟩;rw [HA zeroHt.cells h.cells rfl] at hb6'
  have hfa3:Fr0 v1 v3:=hfv2.step hfv3 (λk hk e=>by omega);have hr3:v3.heap[w4.heap.size+1]?=some (.loop rc):=(hfa3.block _ hlr (λhh=>hh)).trans hr1;have hready:rc.state=.ready:=by rw [hrc];rfl
  have hsa:=hfa3.size;refine sxl_nil (.mk λa1 ha1=>⟨_,run_beginRound hr3 hready,Sx.run (rd:=some (w4.heap.size+1)) ?_ a1 ha1⟩);obtain ⟨v4,hv4⟩:∃v4,v3.putObj (w4.heap.size+1) (.loop { rc with state:=.busy })=v4:=⟨_,X⟩
  rw [hv4];have hs4':v4.heap.size=v3.heap.size:=by rw [←hv4];exact World.putObj_size
  have hob:∀g∈(Value.slice Ar hs.length cr).ownBlock.toList,w4.heap.size+1<g:=λg hg=>by
   rcases ho1.2 with ⟨e,_⟩|⟨g',cap,cur,e,hg',_⟩
   ·rw [e] at hg;simp [Value.ownBlock] at hg
   rw [e] at hg;simp [Value.ownBlock] at hg;omega
  have hfr4:Fr (λk=>k∈w4.heap.size::(w4.heap.size+1)::g2::(Value.slice Ar hs.length cr).ownBlock.toList) v1 v4:=by rw [←hv4];exact (Fr.of0 hfa3).putS _ (by simp)
  have hb6_4:Blk v4 g6 32 h.cells:=by rw [←hv4];exact hb6'.putObj _ (by omega)
  have hb2_4:Blk v4 g2 36 [.slice Ar hs.length cr]:=by rw [←hv4];exact (hb21.fr0 hfa3).putObj _ (by omega)
  have hr4:v4.heap[w4.heap.size+1]?=some (.loop { rc with state:=.busy }):=by rw [←hv4];exact World.putObj_heap_same (by omega)
  have hd4:v4.heap[w4.heap.size]?=some (.deferred (some [])):=by rw [←hv4];exact (World.putObj_heap_other (by omega)).trans ((hfa3.block _ hldd (λhh=>hh)).trans hd1)
  have ho4:v4.ownsRow (w4.heap.size+1+1) 32 3 (.slice Ar hs.length cr) hs.length (AE Ht.cells hs):=
   (As.own (w4.heap.size+1+1) 32 3 (.slice Ar hs.length cr) hs.length (AE Ht.cells hs)).keep (λg hg hl=>by
    have:=hob g hg
    rw [←hv4,World.putObj_heap_other (by omega)];exact hfa3.block g hl (λhh=>hh)) ho1
  refine sx_block (sx_region (sxl_y (wn_none X) X X (B2 X X (sc X) (hb2_4.c 0 X)) (sxl_y (wn_none X) X X (AI (xs:=h.cells) X X (Rd.ofBlk hb6_4 X) Ex X EW) (sxl_does (some 10) (wn_none X) X X (λρ hρ=>DA (parts:=[(0,.tmp 9)]) [.agg h.cells.toArray] _ hρ X X X X It RX (CF X) (Ee X) (by intro v hv;simp only [Au] at hv;subst hv;rfl)) ?_))));rintro _ v5 ⟨g10,rfl,h10a,h10b,hb10,hf5⟩;have hs5:=hf5.size;have ho5:=(As.own (w4.heap.size+1+1) 32 3 (.slice Ar hs.length cr) hs.length (AE Ht.cells hs)).keep (λg _ hl=>hf5.block g hl (λhh=>hh)) ho4;refine sxl_does (some 11) (wn_none X) X X (λρ hρ=>DL (.tmp 8) (.tmp 10) 36 X (w4.heap.size+1+1) 32 _ 3 32 It YI X (by decide) _ _ _ (hρ _ _ X) ho5 _ 1 _ h.cells (hρ _ _ X) (Rd.ofBlk hb10 X) (Ht.cells_one _) (by unfold maxLen;omega) (by omega) (by omega)) ?_;rintro _ v6 ⟨ho6,hg6,hv6⟩;obtain ⟨A',c',rfl,_⟩:=E8 ho6;have hs6:=hg6.size;have hgb:∀g,g<v5.heap.size→(∀g'∈(Value.slice Ar hs.length cr).ownBlock.toList,g'≠g)→v6.heap[g]?=v5.heap[g]?:=λg hg hn=>hg6.block g hg (λe=>hn g (by rw [←e];simp) X)
  have hb2_6:Blk v6 g2 36 [.slice Ar hs.length cr]:=(hgb g2 (by omega) (λg' hg'=>by have:=hob g' hg';omega)).trans (hb2_4.fr0 hf5);refine sxl_does none (wn_none X) X X (λρ hρ=>DW 36 (.tmp 2) (.tmp 11) X g2 0 36 _ (.slice A' (hs.length+1) c') (hρ _ _ X) (hρ _ _ X) X hb2_6 VX (Nat.lt_succ_self 0) X) ?_;rintro _ v7 ⟨rfl,hb2_7,hf7⟩;have hs7:=hf7.size;have hr7:v7.heap[w4.heap.size+1]?=some (.loop { rc with state:=.busy }):=(hf7.block _ (by omega) (by omega)).trans ((hgb _ (by omega) (λg' hg'=>by have:=hob g' hg';omega)).trans ((hf5.block _ (by omega) (λhh=>hh)).trans hr4));have hd7:v7.heap[w4.heap.size]?=some (.deferred (some [])):=(hf7.block _ (by omega) (by omega)).trans ((hgb _ (by omega) (λg' hg'=>by have:=hob g' hg';omega)).trans ((hf5.block _ (by omega) (λhh=>hh)).trans hd4));have hback:({ ({ rc with state:=LoopState.busy }:Loop) with state:=if (none:Option Code).isNone then LoopState.ready else LoopState.done,pending:=none }:Loop)=rc:=by rw [hrc];rfl
  have hob':∀g∈(Value.slice A' (hs.length+1) c').ownBlock.toList,w4.heap.size+1<g:=λg hg=>by
   rcases ho6.2 with ⟨e,_⟩|⟨g',cap,cur,e,hg',_⟩
   ·rw [e] at hg;simp [Value.ownBlock] at hg
   rw [e] at hg;simp [Value.ownBlock] at hg;omega
  have hl1:(hs++[h]).length=hs.length+1:=by simp
  have hfl:AE Ht.cells (hs++[h])=AE Ht.cells hs++h.cells:=by simp [AE]
  refine sxl_nil (qx_block_normal (.mk λa2 _=>⟨_,_,run_endRound none hr7,X,_,⟨A',c',X,(World.putObj_heap_other (by omega)).trans hd7,by rw [hback];exact World.putObj_heap_same (by omega),?_,?_⟩,?_,?_⟩))
  ·rw [hl1];exact Blk.putObj hb2_7 _ (by omega)
  ·rw [hl1,hfl]
   exact (As.own (w4.heap.size+1+1) 32 3 (.slice A' (hs.length+1) c') (hs.length+1) (AE Ht.cells hs++h.cells)).keep (λg hg hl=>by
    have:=hob' g hg
    rw [World.putObj_heap_other (by omega)];exact hf7.block g hl (by omega)) ho6
  ·refine Fr.putS ?_ _ (by simp);refine Fr.step (w':=v6) ?_ hf7 (λk _ e=>by subst e;simp);refine ⟨hg6.os.trans (hf5.os.trans hfr4.os),hg6.tape.trans (hf5.tape.trans hfr4.tape),hg6.output.trans (hf5.output.trans hfr4.output),by have:=hfr4.size;omega,λk hk hn=>?_⟩
   have:=hfr4.size
   exact (hgb k (by omega) (λg' hg' e=>hn (by subst e;simp only [Ak];exact .inr (.inr (.inr hg'))))).trans ((hf5.block k (by omega) (λhh=>hh)).trans (hfr4.block k hk hn))
  intro g hg;rw [hl1] at hg
  simp only [Ak] at hg ⊢
  rcases hg with rfl|rfl|rfl|hg
  ·exact .inl (.inl X)
  ·exact .inl (.inr (.inl X))
  ·exact .inl (.inr (.inr (.inl X)))
  rcases hv6 with h1|h1
  ·rw [h1] at hg;exact .inl (.inr (.inr (.inr hg)))
  rw [h1] at hg
  simp at hg
  subst hg;exact .inr ⟨by have:=hfr4.size;omega,by rw [World.putObj_size];have:=(a1t ho6 h1);omega⟩
 rintro x w8 ⟨rfl,ss,hs,F',hp,hhs,hJ,hf8,-⟩;obtain ⟨Ar,cr,rfl,hd8,hr8,hb28,ho8⟩:=hJ;rw [if_pos rfl] at hhs
 have hs8:=hf8.size;have hf08:Fr0 w w8:=hin w8 hf8;refine ⟨_,rc,X,hr8,(by rw [hrc];intro h;cases h),.inl ⟨(by rw [hrc];rfl),?_⟩⟩;obtain ⟨w9,hw9⟩:∃w9,w8.putObj (w4.heap.size+1) (.loop { rc with state:=.exhausted })=w9:=⟨_,X⟩
 rw [hw9];have hs9:w9.heap.size=w8.heap.size:=by rw [←hw9];exact World.putObj_size
 have hf9:Fr0 w w9:=by rw [←hw9];exact hf08.putObj _ (by omega)
 have hb29:Blk w9 g2 36 [.slice Ar hs.length cr]:=by rw [←hw9];exact hb28.putObj _ (by omega)
 have hd9:w9.heap[w4.heap.size]?=some (.deferred (some [])):=by rw [←hw9];exact (World.putObj_heap_other (by omega)).trans hd8
 have hob:∀g∈(Value.slice Ar hs.length cr).ownBlock.toList,w4.heap.size+1<g:=λg hg=>by
  rcases ho8.2 with ⟨e,_⟩|⟨g',cap,cur,e,hg',_⟩
  ·rw [e] at hg;simp [Value.ownBlock] at hg
  rw [e] at hg;simp [Value.ownBlock] at hg;omega
 have ho9:w9.ownsRow (w4.heap.size+1+1) 32 3 (.slice Ar hs.length cr) hs.length (AE Ht.cells hs):=
  (As.own (w4.heap.size+1+1) 32 3 (.slice Ar hs.length cr) hs.length (AE Ht.cells hs)).keep (λg hg hl=>by
   have:=hob g hg
   rw [←hw9,World.putObj_heap_other (by omega)]) ho8
 refine qx_block_normal (qx_seq (sx_seq (sx_region (sxl_y (wn_none X) X X (B2 X X (sc X) (hb29.c 0 X)) (sxl_y (wn_none X) X X (yp X) (sxl_nil (qx_seq (sx_ret (V5 X X hd9 ?_)))))))));subst hhs;refine ⟨ss,Ar,cr,hp,X,?_,?_,hf9.putObj _ (by omega)⟩
 ·have h1:=(As.own (w4.heap.size+1+1) 32 3 (.slice Ar (DV l ap ss).length cr) (DV l ap ss).length (AE Ht.cells (DV l ap ss))).keep (w':=w9.putObj w4.heap.size (.deferred none)) (λg hg hl=>by
   have:=hob g hg
   rw [World.putObj_heap_other (by omega)]) ho9
  exact SV h1 (by omega)
 exact f6 (i:=ss.length) ⟨by rw [Ba],trivial⟩ hp hI.pts
end Sf
theorem HIn.fr0 {w w':Kw} {A:Ky} {cp:Nat} {l:List Pa} {gl ga:Nat} {fa:FuncId} {gm:Nat} (h:HIn w A cp l gl ga fa gm) (hf:Fr0 w w'):HIn w' A cp l gl ga fa gm:=⟨h.pts.fr0 hf,h.lay.fr0 hf,h.gl.fr0 hf,h.ga.fr0 hf⟩
theorem jK (A:Ky) (cp:Nat) (l:List Pa) (gl ga:Nat) (fa:FuncId) (gm:Nat) (ap:Pa→Wt→Bool) (w:Kw) (hI:HIn w A cp l gl ga fa gm) (hfa:∀(ar:Array Kv) (w:Kw),(callFunc fa ar).run prog w=.ok (.enter fa ar) w)
 (hask:∀x∈l,runP x=true→∀(wt:Wt) (w1:Kw),Fr0 w w1→Calls prog fa #[.agg (Pa.cells x).toArray,.agg (Wt.cells wt).toArray,pg gm] w1 (BS w1 (.bool (ap x wt)))) :
 Calls prog 29 #[.func (.func 54) #[] #[pg gl,pg ga]] w λe w'=>∃(ss:List St) (A':Ky) (c':Nat),SsP l ss∧e=.returned (.slice A' (DV l ap ss).length c')∧w'.ownsRow w.heap.size 32 3 (.slice A' (DV l ap ss).length c') (DV l ap ss).length (AE Ht.cells (DV l ap ss))∧(DV l ap ss).length≤2400∧Fr0 w w':=by
 refine BR func29 ntmps29 X λM=>W ?_
 refine cl 4 X (AD X X call60) (Sf.appSeq_ok A cp l gl ga fa gm ap _ (hI.fr0 M.fr) hfa (λx hx hr wt w1 hf=>hask x hx hr wt w1 (M.fr.trans hf))) ?_;rintro _ w1 ⟨ss,AH,cH,hpm,rfl,how1,hn,hfw1⟩;refine cq ?_;have M:=M.pushOwn hfw1 (Ab _) how1;refine W ?_;exact gr1 X ⟨ss,AH,cH,hpm,X,M.own 0 X,hn,M.fr⟩
theorem gR (A:Ky) (cp:Nat) (l:List Pa) (nm:Kz) (w:Kw) (hP:Pts w A l) (hY:Lay0 w) :
 Calls prog 10 #[.slice A l.length cp,str nm] w λe w'=>∃(ss:List St) (A':Ky) (c':Nat),SsP l ss∧e=.returned (.slice A' (DV l (λ_=>PZ nm) ss).length c')∧w'.ownsRow w.heap.size 32 3 (.slice A' (DV l (λ_=>PZ nm) ss).length c') (DV l (λ_=>PZ nm) ss).length (AE Ht.cells (DV l (λ_=>PZ nm) ss))∧(DV l (λ_=>PZ nm) ss).length≤2400∧Fr0 w w':=by
 refine BR func10 ntmps10 X λM=>W ?_
 refine DG M kw X X 9 X X ([str nm]) X λg3 w1 hg3 M=>W ?_
 refine ya X (CY (us:=[]) (vs:=[pg g3]) X X X) (cl 7 X (AD X X call25) (lT A cp l.length 30 g3 _) ?_);rintro _ w2 ⟨gl,ga,rfl,hbl,hba,hngl,hnga,hfw2⟩;refine cq ?_;have M:=M.step hfw2;refine cl 8 X (AD X X call29) (jK A cp l gl ga 30 g3 (λ_=>PZ nm) _ ⟨hP.fr0 M.fr,hY.fr0 M.fr,hbl,hba⟩ call30 (λx _ _ wt w1 hf=>cQ g3 nm x wt w1 ((M.blk 0 X).fr0 hf))) ?_;rintro _ w3 ⟨ss,AH,cH,hpm,rfl,how3,hn,hfw3⟩;refine cq ?_;have M:=M.pushOwn hfw3 (Ab _) how3;refine W ?_;exact gr1 X ⟨ss,AH,cH,hpm,X,M.own 0 X,hn,M.fr⟩
section
section
variable {m:Md} {c:CrA} (R:Rl m) (Z:Cz m c)
include R Z
end
end
theorem xE {x:Pa} (hr:runP x=true):I6 x.m x.c x.i 2147483647 1099511627776=true:=by
 unfold runP at hr
 simp only [Bh] at hr
 exact hr.2.2
def As.cl (F:List Nat) (P:Kw→Prop):As:=⟨F,λw=>∀w2,(∀g∈F,g<w.heap.size→w2.heap[g]?=w.heap[g]?)→P w2,λ{w w'} h hb w2 h2=>hb w2 λg hg hlt=>by
 have h3:=h g hg hlt
 have hlt':g<w'.heap.size:=by
  rw [Fb hlt] at h3
  exact (An.1 h3).1
 exact (h2 g hg hlt').trans h3⟩
theorem Mem.meet3 {w0 w:Kw} {S:Nat→Prop} {a b d:As} {Ls:List As} (M:Mem w0 S (a::b::d::Ls) w) (c:As) (hfp:∀g∈c.fp,g∈a.fp∨g∈b.fp∨g∈d.fp) (hok:c.ok w):Mem w0 S (c::Ls) w:=by
 have key:∀g∈c.fp,∃(i:Nat) (x:As),i<3∧(a::b::d::Ls)[i]?=some x∧g∈x.fp:=λg hg=>by
  rcases hfp g hg with h|h|h
  ·exact ⟨0,a,by omega,rfl,h⟩
  ·exact ⟨1,b,by omega,rfl,h⟩
  exact ⟨2,d,by omega,rfl,h⟩
 refine ⟨M.fr,λi x hi=>?_,λi x hi g hg=>?_,λi j x y hi hj hne g hg hg'=>?_⟩
 ·cases i with
  | zero=>
   simp only [Ai,Ad] at hi;subst hi;exact hok
  | succ i=>exact M.ok (i+3) x hi
 ·cases i with
  | zero=>
   simp only [Ai,Ad] at hi;subst hi
   obtain ⟨k,z,_,hz,hgz⟩:=key g hg;exact M.lt k z hz g hgz
  | succ i=>exact M.lt (i+3) x hi g hg
 cases i with
 | zero=>
  simp only [Ai,Ad] at hi;subst hi
  cases j with
  | zero=>exact hne rfl
  | succ j=>
   obtain ⟨k,z,hk,hz,hgz⟩:=key g hg;exact M.apart k (j+3) z y hz hj A0 g hgz hg'
 | succ i=>
  cases j with
  | zero=>
   simp only [Ai,Ad] at hj;subst hj
   obtain ⟨k,z,hk,hz,hgz⟩:=key g hg';exact M.apart (i+3) k x z hi hz A0 g hg hgz
  | succ j=>exact M.apart (i+3) (j+3) x y hi hj A0 g hg hg'
theorem Mem.nilCl {w0 w:Kw} {S:Nat→Prop} {L:List As} (M:Mem w0 S L w) {P:Kw→Prop} (hP:∀w2,P w2):Mem w0 S (As.cl [] P::L) w:=M.push Fr.refl _ (λw2 _=>hP w2) λg hg=>by cases hg
def jX (L:List Pa) (w:Kw):Prop:=∀x∈L,PaOk w x
theorem yE (w:Kw):jX [] w:=λx hx=>by cases hx
theorem Mem.rdNew {w0 w' w2:Kw} {L:List As} (M:Mem w0 AR L w') (i:Nat) {base e size n c:Nat} {A:Ky} {xs:Kx} (hi:L[i]?=some (As.own base e size (.slice A n c) n xs)) (hf:a29 w0.heap.size [] w' w2):Rd w2 A (n*size) xs:=
 OH ((As.own base e size (.slice A n c) n xs).keep (λg hg hlt=>hf g (.inr ((M.lt i _ hi g hg).2.elim id False.elim)) hlt) (M.ok i _ hi))
theorem yF {w:Kw} {F Fc:List Nat} {L:List Pa} {b0 b1:Nat} {m:Md} {p:Ky} {er:Int} {c:CrA} {i:In} {V T:Ky} (vc tc:Nat) (hp:(As.cl F (jX L)).ok w) (hc:(As.crs m p er c Fc).ok w) (hn:er≠0→p=none) (hk:er=0→GU m=true∧MdOk m) (hr:(As.res b0 b1 [] (λw2=>Rd w2 V (i.vars.length*5) (AE Bd.cells i.vars)∧Rd w2 T (i.toks.length*9) (AE Tk.cells i.toks))).ok w) (hbd:BdOk i.vars) (htl:i.toks.length≤300) (hwk:∀t∈i.toks,(t.worker.length:Int)<4611686018427387904) :
 (As.cl (([]++List.range' b0 (b1-b0))++(Fc++F)) (jX (L++[⟨p,m,c,Fc,i,V,vc,T,tc⟩]))).ok w:=by
 intro w2 h2 x hx;rcases Bo.1 hx with h|h
 ·exact hp w2 (λg hg=>h2 g (Cr _ (Cr _ hg))) x h
 obtain rfl:=Au.1 h;obtain ⟨hV,hT⟩:=hr w2 λg hg=>h2 g (Dt _ hg)
 refine ⟨?_,hV,hT,hbd,htl,hwk⟩
 by_cases he:er=0
 ·obtain ⟨gc,h3,h4⟩:=(As.crs m p er c Fc).keep (λg hg=>h2 g (Cr _ (Dt _ hg))) hc he;exact .inr ⟨gc,h3,h4,hk he⟩
 exact .inl (hn he)
theorem Mem.pasOk {w0 w:Kw} {S:Nat→Prop} {Ls:List As} {F:List Nat} {L:List Pa} (M:Mem w0 S Ls w) (i:Nat) (hi:Ls[i]?=some (As.cl F (jX L))):jX L w:=M.ok i _ hi w λ_ _ _=>rfl
def sumP (l:List Pq):Nat:=(l.map λx=>x.i.toks.length+x.m.els.length).sum
theorem YY (l:List Pq) (x:Pq):sumP (l++[x])=sumP l+(x.i.toks.length+x.m.els.length):=by simp [sumP]
theorem wS {l:List Pq} {x:Pq} (h:x∈l):x.i.toks.length+x.m.els.length≤sumP l:=by
 induction l with
 | nil=>cases h
 | cons y r ih=>
  simp only [sumP,Cj,List.sum_cons] at ih ⊢
  rcases Ak.1 h with rfl|h
  ·omega
  have:=ih h;omega
theorem eS {m:Md} (hb:MdB m) (h:GU m=true):MdOk m:=sP hb (by
 unfold GU at h
 simp only [Bh,Ek,Bool.not_eq_false',decide_eq_true_eq] at h
 exact h.1)
theorem yT (m:Md) (a:MdA) (w:Kw) (hb:MdB m) (hM:MdIn w m a) (hY:Lay0 w) :
 Calls prog 19 #[.agg (Md.cells m a).toArray] w λe w'=>∃p er c F,e=.returned (.tuple #[.pointer p,AA er])∧(er=0→∃gc,p=some ⟨gc,0,none⟩∧CourseN w' m gc c F)∧(er=0→GU m=true∧MdOk m)∧(∀g∈F,w.heap.size≤g∧g<w'.heap.size)∧(er≠0→p=none)∧p.isSome=GU m∧Fr0 w w':=
 (yS m a w hb hM hY).mono λe w' ⟨h,hf⟩=>by
  rcases h with ⟨hn,gc,c,F,h1,h2,h3⟩|⟨hn,h1⟩
  ·exact ⟨some ⟨gc,0,none⟩,0,c,F,h1,λ_=>⟨gc,X,h2⟩,λ_=>⟨hn,eS hb hn⟩,h3,λh=>absurd X h,by rw [hn];rfl,hf⟩
  exact ⟨none,140,⟨⟨none,0,none,0,none,0⟩,0,0,0,0,0,[],[],[],λ_=>zeroEl,λ_=>false,λ_=>zeroFl,λ_=>false,λ_=>[],[],λ_=>[],[],λ_=>none,λ_=>none,[]⟩,[],h1,λz=>absurd z AV,λz=>absurd z AV,λg hg=>absurd hg (by simp),λ_=>X,by rw [hn];rfl,hf⟩
structure Pqs (w:Kw) (A:Ky) (l:List Pq):Prop where
 rd:Rd w A (l.length*10) (AE Pq.cells l)
 ok:∀x∈l,PqOk w x
 ln:l.length≤reachBytes
theorem Pqs.fr0 {w w':Kw} {A:Ky} {l:List Pq} (h:Pqs w A l) (hf:Fr0 w w'):Pqs w' A l:=⟨h.rd.fr0 hf,λx hx=>(h.ok x hx).fr0 hf,h.ln⟩
def bF (l:List Pq):Bool:=(decide ((8:Int)<((l.length:Nat):Int))) || (decide ((300:Int)<((sumP l:Nat):Int)))
theorem kE {x:Int} (h : -9223372036854775808≤x) (h2:x≤9223372036854775807):(IntKind.i64).wrap x=x:=by
 simp [IntKind.wrap,IntKind.bits,IntKind.signed];omega
theorem a0O {w:Kw} {l:List Pq} {j:Nat} {x:Pq} (hx:l[j]?=some x) (ho:PqOk w x) (hs:sumP (l.take j)≤j*281474976702464):sumP (l.take (j+1))≤(j+1)*281474976702464:=by
 rw [AS hx,YY];have h1:=ho.eb;have h2:=ho.tb;simp only [reachBytes] at h1 h2
 omega
theorem qR {w:Kw} {l:List Pq} {j:Nat} {x:Pq} {n:Int} (hx:l[j]?=some x) (ho:PqOk w x) (hn:l.length≤8→n=((sumP (l.take j):Nat):Int)) (hs:sumP (l.take j)≤j*281474976702464) (hj:j≤l.length):l.length≤8→((IntKind.i64).wrap ((IntKind.i64).wrap (n+(x.i.toks.length:Int))+(x.m.els.length:Int)))=((sumP (l.take (j+1)):Nat):Int):=λh8=>by
 have h1:=ho.eb;have h2:=ho.tb;simp only [reachBytes] at h1 h2
 rw [hn h8,AS hx,YY,kE (x:=((sumP (l.take j):Nat):Int)+_) A0 A0,kE A0 A0];omega
theorem tE {l:List Pq} {n:Int} (hn:l.length≤8→n=((sumP l:Nat):Int)):((decide (8<(l.length:Int))) || (decide ((300:Int)<n)))=bF l:=by
 unfold bF
 by_cases h:l.length≤8
 ·rw [hn h]
 rw [decide_eq_true (show (8:Int)<(l.length:Int) by omega)];rfl
theorem o0 {l:List Pq} (h:bF l=false):l.length≤8∧∀x∈l,x.i.toks.length≤300∧x.m.els.length≤300:=by
 have h1:=odf (G8 h).1;have h2:=odf (G8 h).2;exact ⟨by omega,λx hx=>by have:=wS hx;omega⟩
theorem a1r {x y z:List Nat}:∀g∈x++(y++z),g∈x∨g∈y∨g∈z:=λ_ hg=>(Bo.1 hg).imp id Bo.1
theorem S9 (a0:Ky) (c1_0 c1_1 c1_2 c1_3 c1_4:Kv):prog.built 44 [(0,.pointer a0),(1,.agg #[c1_0,c1_1,c1_2,c1_3,c1_4])]=some #[.pointer a0,c1_0,c1_1,c1_2,c1_3,c1_4]:=by kernel_rfl
theorem UP : (prog.info? 44).map (λi=>(i.zero,i.size,i.bytes))=some (some (.agg #[.pointer none,AA 0,str [],.int .u8 0,.slice none 0 0,.slice none 0 0]),6,88):=by kernel_rfl
theorem X3 : (prog.info? 44).map (λi=>(i.zero,i.size))=some (some (.agg #[.pointer none,AA 0,str [],.int .u8 0,.slice none 0 0,.slice none 0 0]),6):=by kernel_rfl
theorem NU : (prog.info? 42).map (·.zero)=some (some (.agg #[AA 0,str [],.int .u8 0,.slice none 0 0,.slice none 0 0])):=by kernel_rfl
theorem sY (i:In) (V T:Ky) (vc tc:Nat) (w:Kw) (htl:i.toks.length≤300) (hvl:i.vars.length*56≤reachBytes) (hV:Rd w V (i.vars.length*5) (AE Bd.cells i.vars)) (hT:Rd w T (i.toks.length*9) (AE Tk.cells i.toks)) :
 Calls prog 20 #[.agg (In.cells i V T vc tc).toArray] w λe w'=>∃V' vc' T' tc',e=.returned (.agg (In.cells i V' T' vc' tc').toArray)∧(∀w2,a29 w.heap.size [] w' w2→Rd w2 V' (i.vars.length*5) (AE Bd.cells i.vars)∧Rd w2 T' (i.toks.length*9) (AE Tk.cells i.toks))∧Fr0 w w':=by
 simp only [reachBytes] at hvl
 refine BR func20 ntmps20 X λM=>W ?_
 refine CO M X X λg1 w1 hg1 M=>CI M X NU λg2 w2 hg2 M=>W ?_
 refine CH M 1 X X Ea DJ X (CI M X NU λg3 w3 hg3 M=>BY M 0 X X DJ X λw4 M=>W ?_);refine gp1 M 0 X X X L5 λw5 M=>W ?_
 have M:=M.nilOwn 63 5;refine CN (len':=i.vars.length) (xs':=AE Bd.cells i.vars) M 0 kw X X X X X X (hV.fr0 M.fr) Eb PV X AV (DB Bd.cells_one) (Ab _) (Ab _) DC (by unfold maxLen;first|omega|(simp;omega)) (by first|(simp;done)|(simp;omega)) (by first|exact (B3 _ _ _).symm|rfl|simp [AE]) λA10 c10 w6 M=>yb X (gp1 M 1 X X X L5 λw7 M=>W ?_)
 refine gp1 M 1 X X X NX λw8 M=>W ?_
 have M:=M.nilOwn 75 9;refine CN (len':=i.toks.length) (xs':=AE Tk.cells i.toks) M 0 kw X X X X X X (hT.fr0 M.fr) Gl X6 X AV (DB Tk.cells_one) (Ab _) (Ab _) DC (by unfold maxLen;first|omega|(simp;omega)) (by first|(simp;done)|(simp;omega)) (by first|exact (B3 _ _ _).symm|rfl|simp [AE]) λA17 c17 w9 M=>yb X (gp1 M 2 X X X NX λw10 M=>W ?_)
 refine CH M 2 X X Ea DJ X (BY M 3 X X DJ X λw11 M=>W ?_);exact CT X X (M.rdBlk 3 X X) Ea X DJ ⟨_,_,_,_,X,λw2 h2=>⟨M.rdNew 1 X h2,M.rdNew 0 X h2⟩,M.fr⟩
theorem nZ (A:Ky) (cp:Nat) (l:List Pq) (w:Kw) (hP:Pqs w A l) :
 Calls prog 5 #[.slice A l.length cp] w (BS w (.bool (bF l))):=by
 have hln:=hP.ln;simp only [reachBytes] at hln
 refine BR func5 ntmps5 X λM=>W ?_
 refine EF M [0] (λze zF e wr mz=>∃(j:Nat) (n:Int),e=(3,AA n)::(4,AA (j:Int))::ze∧zF wr∧(j≤l.length)∧(l.length≤8→n=((sumP (l.take j):Nat):Int))∧(sumP (l.take j)≤j*281474976702464)∧mz=l.length-j) ⟨0,0,X,M,Ae _,λ_=>X,by simp [sumP],rfl⟩ ?_;rintro _ w1 _ ⟨j,n,rfl,M,hj,hn,hs,rfl⟩;refine W ?_;refine AB X (λh8=>?_) (λh8=>?_)
 ·have h8p:=odt h8;refine W ?_;refine CS CA gkr ?_;have M:=M.drew;refine W ?_;obtain ⟨x,_,_,hx,hA_x⟩:=ex5 (i:=j) ((hP.fr0 M.fr).rd);refine sa X (AK j hA_x X X X (sl X) A0) (T2 ?_);refine sd X X (BD Pq.len ((hP.fr0 M.fr).rd) hA_x hx 9 X) (sa X (I7 X X (sl X)) (sa X (aE X X X) (W ?_)));refine sa X (AK j hA_x X X X (sl X) A0) (T2 ?_);refine sd X X (BD Pq.len ((hP.fr0 M.fr).rd) hA_x hx 3 X) (sa X (I7 X X (sl X)) (sa X (aE X X X) (W ?_)));refine fag ⟨j+1,((IntKind.i64).wrap (((IntKind.i64).wrap (n+(x.i.toks.length:Int)))+(x.m.els.length:Int))),X,M,?_,?_,?_,X⟩
  ·omega
  ·exact qR hx (hP.ok _ (Ac hx)) hn hs hj
  exact a0O hx (hP.ok _ (Ac hx)) hs
 have h8p:=odf h8;refine W ?_;obtain rfl:j=l.length:=by omega
 rw [Ba] at hn
 refine W ?_;refine fvm M 3 [] [(34,.bool ((decide (8<(l.length:Int))) || (decide ((300:Int)<n))))] ?_ (λk31=>?_)
 ·intro w2 M;refine W ?_;exact gr1 X ⟨by rw [tE hn],M.fr⟩
 refine A1 (d:=31) X (λh31=>?_) (λh31=>?_)
 ·refine T3 ?_;exact k31 M
 refine T3 ?_;exact k31 M
theorem dX (A:Ky) (cp:Nat) (l:List Pq) (w:Kw) (hP:Pqs w A l) (hbig:∀x∈l,x.i.toks.length≤300∧x.m.els.length≤300) (hl:l.length≤8) (hY:Lay0 w) :
 Calls prog 6 #[.slice A l.length cp] w λe w'=>∃(L:List Pa) (A':Ky) (c':Nat),e=.returned (.slice A' L.length c')∧w'.ownsRow w.heap.size 44 6 (.slice A' L.length c') L.length (AE Pa.cells L)∧(∀x∈L,PaOk w' x)∧L.map (λx=>(x.m,x.i))=l.map (λx=>(x.m,x.i))∧L.length=l.length∧(∀x∈L,x.p.isSome=GU x.m)∧Fr0 w w':=by
 refine BR func6 ntmps6 X λM=>W ?_
 have M:=M.nilOwn 44 6;have M:=M.nilCl (P:=jX []) yE;refine flp [0] (λze e wr mz=>∃(j:Nat) (acc:List Pa) (A3:Ky) (c3:Nat) (F:List Nat),e=(3,.slice A3 acc.length c3)::(4,AA (j:Int))::ze∧Mem w AR [As.cl F (jX acc),As.own w.heap.size 44 6 (.slice A3 acc.length c3) acc.length (AE Pa.cells acc)] wr∧(j≤l.length)∧(acc.map (λx=>(x.m,x.i))=(l.take j).map (λx=>(x.m,x.i)))∧(∀y∈acc,y.p.isSome=GU y.m)∧(acc.length=j)∧mz=l.length-j) ⟨0,[],none,0,[],X,M,Ae _,X,(λ_ h=>by cases h),X,X⟩ ?_;rintro _ w1 _ ⟨j,acc,A3,c3,F,rfl,M,hj,hacc,hsm,hal,rfl⟩;refine W ?_;refine AB X (λh10=>?_) (λh10=>?_)
 ·have h10p:=odt h10;refine W ?_;obtain ⟨x,_,_,hx,hA_x⟩:=ex5 (i:=j) ((hP.fr0 M.fr).rd);refine ya X (AK j hA_x X X X (sl X) A0) (yb X (ya X (AI (xs:=Md.cells x.m x.a) X X (K6 Pq.len ((hP.fr0 M.fr).rd) hA_x hx 0 5 X X) Al X AN) (cl 19 X (AD X X call19) (yT x.m x.a _ ((hP.ok _ (Ac hx)).b (hbig _ (Ac hx)).2) ((hP.ok _ (Ac hx)).fr0 M.fr).md (hY.fr0 M.fr)) ?_)));rintro _ w2 ⟨p,er,c,Fc,rfl,hcr,hnk,hnc,hnil,hsome,hfw2⟩;refine cq ?_;have M:=M.push hfw2 (As.crs x.m p er c Fc) hcr hnc;refine W ?_;refine ya X (AK j hA_x X X X (sl X) A0) (yb X (ya X (AI (xs:=In.cells x.i x.V x.T x.vc x.tc) X X (K6 Pq.len ((hP.fr0 M.fr).rd) hA_x hx 5 5 X X) Ea X DJ) (cl 29 X (AD X X call20) (sY x.i x.V x.T x.vc x.tc _ (hbig _ (Ac hx)).1 (hP.ok _ (Ac hx)).vb ((hP.ok _ (Ac hx)).fr0 M.fr).V ((hP.ok _ (Ac hx)).fr0 M.fr).T) ?_)));rintro _ w3 ⟨V',vc',T',tc',rfl,hres,hfw3⟩;refine cq ?_;have M:=M.push hfw3 (As.res _ _ [] (λw2=>Rd w2 V' (x.i.vars.length*5) (AE Bd.cells x.i.vars)∧Rd w2 T' (x.i.toks.length*9) (AE Tk.cells x.i.toks))) (λw2 h2=>hres w2 (a0f h2)) (yR);refine ya X (B7 (parts:=[(0,_),(1,_)]) X X (S9 _ _ _ _ _ _)) (CV M kw X X [.agg #[.pointer p,AA x.i.id,str x.i.mdl,.int .u8 (x.i.st.toNat:Int),.slice V' x.i.vars.length vc',.slice T' x.i.toks.length tc']] ([.pointer p,AA x.i.id,str x.i.mdl,.int .u8 (x.i.st.toNat:Int),.slice V' x.i.vars.length vc',.slice T' x.i.toks.length tc']) X X X X underlying27 X3 X X (GT X) X λg31 w4 hg31 M=>CN (len':=(acc++[(⟨p,x.m,c,Fc,x.i,V',vc',T',tc'⟩:Pa)]).length) (xs':=AE Pa.cells (acc++[(⟨p,x.m,c,Fc,x.i,V',vc',T',tc'⟩:Pa)])) M 4 kw X X X X X X (M.rdBlk 0 X X) underlying27 UP X AV (BW X) (Ab _) (Ab _) DC (by unfold maxLen;first|omega|(simp;omega)) (by first|(simp;done)|(simp;omega)) (by first|exact (B3 _ _ _).symm|rfl|simp [AE,Pa.cells,In.cells]) λA32 c32 w5 M=>W ?_);have hpas:=yF vc' tc' (M.ok 3 _ X) (M.ok 2 _ X) hnil hnk (M.ok 1 _ X) (hP.ok _ (Ac hx)).bd (hbig _ (Ac hx)).1 (hP.ok _ (Ac hx)).wk;have M:=(M.pk [1,2,3,0,4]).meet3 _ (a1r) hpas;refine fag ⟨j+1,acc++[(⟨p,x.m,c,Fc,x.i,V',vc',T',tc'⟩:Pa)],A32,c32,_,X,(M.pk [0,2]),?_,?_,?_,?_,X⟩
  ·omega
  ·rw [AS hx,Ck,Ck,hacc];rfl
  ·intro y hy;rcases Bo.1 hy with h|h
   ·exact hsm y h
   rw [Au.1 h];exact hsome
  simp;omega
 have h10p:=odf h10;refine W ?_;obtain rfl:j=l.length:=by omega
 rw [Ba] at hacc
 refine W ?_;exact gr1 X ⟨acc,A3,c3,X,M.own 1 X,M.pasOk 0 X,hacc,hal,hsm,M.fr⟩
end
section
theorem tA {m:Md} (hb:MdB m) (h:j5 m=true):MdOk m:=eS hb ((eV m)▸h)
def d6 (x:Pq):Bool:=(((!(j5 x.m)) || (!decide ((x.i.st.toNat:Int)=(1:Int)))) || (!(KN x.m x.i 2147483647 1099511627776)))
def TQ (q:Mq) (sg:Bool) (x:Pq) (u:Wt):Bool:=(((sg&&(decide ((u.ev.toNat:Int)=(3:Int))))&&(decide (u.nm=q.nm))) || (((((!sg)&&(decide ((u.ev.toNat:Int)=(2:Int))))&&(decide (u.nm=q.nm)))&&(decide (u.key=q.key)))&&(decide ((I5 x.m.vars q.vars)=(0:Int)))))
def UJ (q:Mq) (sg:Bool) (x:Pq):List Wt→Kz
 | []=>[]
 | u::r=>if TQ q sg x u=true then (if u.via=[] then UJ q sg x r else u.via) else UJ q sg x r
def VO (q:Mq) (sg:Bool) (x:Pq) (t:Tk):Kz:=UJ q sg x (GC x.m x.i.vars t).1
def NC (q:Mq) (sg:Bool) (x:Pq) (j:Nat):List Tk→List Ht→List Ht
 | [],hs=>hs
 | t::r,hs=>if VO q sg x t=[] then NC q sg x j r hs else NC q sg x j r (UO hkey hs ⟨((j:Nat):Int),t.id,VO q sg x t⟩)
def PQ (q:Mq) (sg:Bool):List Pq→Nat→List Ht→List Ht
 | [],_,hs=>hs
 | x::r,j,hs=>if d6 x=true then PQ q sg r (j+1) hs else PQ q sg r (j+1) (NC q sg x j x.i.toks hs)
theorem wA {q:Mq} {sg:Bool} {x:Pq} {ws:List Wt} {n:Nat} {v:Kz} (_hn:n≤ws.length) (hv:UJ q sg x ws=if v=[] then UJ q sg x (ws.drop n) else v) (h:¬(n:Int)<(ws.length:Int)∨¬v=[]):UJ q sg x ws=v:=by
 rw [hv]
 split
 ·rename_i e
  rcases h with h|h
  ·rw [Ja A0,e];rfl
  exact absurd e h
 rfl
theorem sH {hs:List Ht} {t:Int} {p:Nat} (h:(0:Int)<(p:Int)∧t<Kf hkey hs (p-1)):KU hkey hs t p=KU hkey hs t (p-1):=by
 cases p with
 | zero=>exact absurd h.1 AV
 | succ p=>
  have h2:=h.2;rw [Nat.add_sub_cancel] at h2 ⊢
  rw [KU,if_pos h2]
theorem yC {hs:List Ht} {t:Int} {p:Nat} (h:¬(0:Int)<(p:Int)∨¬t<Kf hkey hs (p-1)):KU hkey hs t p=p:=by
 cases p with
 | zero=>rfl
 | succ p=>
  rcases h with h|h
  ·exact absurd A0 h
  rw [Nat.add_sub_cancel] at h
  rw [KU,if_neg h]
theorem a0N {q:Mq} {sg:Bool} {x:Pq} {j k:Nat} {l:List Tk} {t:Tk} {hs hs2:List Ht} {v:Kz} (hE:NC q sg x j l hs=NC q sg x j (l.drop k) hs2) (ht:l[k]?=some t) (hv:VO q sg x t=v) (h:v=[]):NC q sg x j l hs=NC q sg x j (l.drop (k+1)) hs2:=by
 rw [hE,AG ht,NC,if_pos (hv.trans h)]
theorem wM {q:Mq} {sg:Bool} {x:Pq} {j k p:Nat} {l:List Tk} {t:Tk} {hs hs2:List Ht} {v:Kz} (hE:NC q sg x j l hs=NC q sg x j (l.drop k) hs2) (ht:l[k]?=some t) (hv:VO q sg x t=v) (h:¬v=[]) (hp:KU hkey hs2 t.id hs2.length=p):NC q sg x j l hs=NC q sg x j (l.drop (k+1)) ((hs2.take p++[(⟨(j:Int),t.id,v⟩:Ht)])++hs2.drop p):=by
 rw [hE,AG ht,NC,if_neg (hv▸h),UO,hv,show hkey ⟨(j:Int),t.id,v⟩=t.id from rfl,hp,By,Gx]
theorem zR {hs:List Ht} {ns:List Int} {p:Nat} {t v:_} {j:Int} (h:ns=hs.map hkey):(ns.take p++[t])++ns.drop p=((hs.take p++[(⟨j,t,v⟩:Ht)])++hs.drop p).map hkey:=by
 rw [h,Ck,Ck,List.map_take,List.map_drop];rfl
section
variable {w w0:Kw} {S:Nat→Prop} {L:List As}
theorem Mem.ownCap (M:Mem w0 S L w) (i:Nat) {base e size n c:Nat} {A:Ky} {xs:Kx} (hi:L[i]?=some (As.own base e size (.slice A n c) n xs)):n≤c:=by
 obtain ⟨A',cap,h,hle⟩:=E8 (M.own i hi)
 injection h with _ _ h3
 rw [h3];exact hle
variable {α:Type} {cells:α→Kx} {k:Nat}
theorem WI (hk:∀x,(cells x).length=k) {A:Ky} {n:Nat} {L:List α} (h:Rd w A (L.length*k) (AE cells L)) (hn:n≤L.length):Rd w A (n*k) (AE cells (L.take n)):=by
 have e:AE cells L=AE cells (L.take n)++AE cells (L.drop n):=by rw [←B3,Cq]
 have hl:(AE cells (L.take n)).length=n*k:=by rw [HV hk,Bl,Gu hn]
 have hle:=Ds k hn;refine ⟨hl,λh0=>?_⟩;obtain ⟨b,off,e1,hc⟩:=h.2 A0;refine ⟨b,off,e1,λj u hu=>hc j u ?_⟩;rw [e,Cl (Aj.1 hu).1];exact hu
theorem dK (hk:∀x,(cells x).length=k) {A:Ky} {n c:Nat} {L:List α} (h:Rd w A (L.length*k) (AE cells L)) (hn:n≤L.length) (hc:L.length≤c):Rd w (if c=n then A else A.map (λz=>z.add (n*k))) ((L.length-n)*k) (AE cells (L.drop n)):=by
 by_cases hnl:n=L.length
 ·rw [hnl,Fy,Fi,Am];exact ⟨rfl,λh0=>absurd h0 A0⟩
 rw [if_neg A0];have e:AE cells L=AE cells (L.take n)++AE cells (L.drop n):=by rw [←B3,Cq]
 have hl:(AE cells (L.take n)).length=n*k:=by rw [HV hk,Bl,Gu hn]
 have hle:=Ds k (show L.length-n≤L.length by omega);refine ⟨by rw [HV hk,Bz],λh0=>?_⟩;obtain ⟨b,off,e1,hc⟩:=h.2 A0;refine ⟨b,off+n*k,by rw [e1,Dc,Addr.add_mid],λj u hu=>?_⟩
 have:=hc (n*k+j) u (by rw [e,Cc A0,hl,Iq];exact hu)
 rwa [←Ff] at this
variable {P:Lw} {e:Env} {o:Oper}
theorem cJ {t len cap sz el:Nat} {A:Ky} (k:Nat) {x i:Lz} (ho:o.op=.slice t x (some i) none none) (hx:ev e x=some (.slice A len cap)) (hi:ev e i=some (AA (k:Int))) (ht:EZ P t=some (el,sz)) (h:k≤len):Y P e o w (.slice (if cap=k then A else A.map (λz=>z.add (k*sz))) (len-k) (cap-k)):=by
 have:=cI (w:=w) ho hx hi ht A0
 rwa [Es] at this
end
theorem LQ (a0:Int) (a1:Int) (a2:Kz):prog.built 82 [(0,AA a0),(1,AA a1),(2,str a2)]=some #[AA a0,AA a1,str a2]:=by kernel_rfl
theorem GO : (prog.info? 82).map (λi=>(i.zero,i.size,i.bytes))=some (some (.agg #[AA 0,AA 0,str []]),3,32):=by kernel_rfl
theorem O5 : (prog.info? 82).map (λi=>(i.zero,i.size))=some (some (.agg #[AA 0,AA 0,str []]),3):=by kernel_rfl
theorem J8 : (prog.info? 50).map (·.size)=some 10:=by kernel_rfl
theorem N5 : (prog.info? 50).map (·.zero)=some (some (.agg #[str [],str [],.slice none 0 0,.slice none 0 0,.slice none 0 0,AA 0,str [],.int .u8 0,.slice none 0 0,.slice none 0 0])):=by kernel_rfl
theorem Z8 (A:Ky) (cp:Nat) (l:List Pq) (sg:Bool) (q:Mq) (w:Kw) (hP:Pqs w A l) (hbig:∀x∈l,x.i.toks.length≤300∧x.m.els.length≤300) (h8:l.length≤8) (hq:MqOk w q) :
 Calls prog 7 #[.slice A l.length cp,.bool sg,.agg q.cells.toArray] w λe w'=>∃A' c',e=.returned (.slice A' (PQ q sg l 0 []).length c')∧w'.ownsRow w.heap.size 82 3 (.slice A' (PQ q sg l 0 []).length c') (PQ q sg l 0 []).length (AE Ht.cells (PQ q sg l 0 []))∧Fr0 w w':=by
 refine BR func7 ntmps7 X λM=>W ?_
 refine DG M kw X X 25 X X (q.cells) X λg5 w1 hg5 M=>W ?_
 have M:=M.nilOwn 82 3;have M:=M.nilOwn 3 1;refine flp [5,1,0] (λze e wr mz=>∃(i:Nat) (hs:List Ht) (ns:List Int) (A7:Ky) (c7:Nat) (A8:Ky) (c8:Nat),e=(7,.slice A7 hs.length c7)::(8,.slice A8 ns.length c8)::(9,AA (i:Int))::ze∧Mem w AR [As.own w.heap.size 3 1 (.slice A8 ns.length c8) ns.length (AE X2 ns),As.own w.heap.size 82 3 (.slice A7 hs.length c7) hs.length (AE Ht.cells hs),As.blk g5 25 q.cells] wr∧(i≤l.length)∧(PQ q sg l 0 []=PQ q sg (l.drop i) i hs)∧(ns=hs.map hkey)∧(hs.length≤i*300)∧mz=l.length-i) ⟨0,[],[],none,0,none,0,X,M,Ae _,X,X,Ae _,X⟩ ?_;rintro _ w2 _ ⟨i,hs,ns,A7,c7,A8,c8,rfl,M,hi,hE,hns,hl,rfl⟩;refine W ?_;refine AB X (λh24=>?_) (λh24=>?_)
 ·have h24p:=odt h24;refine W ?_;obtain ⟨x,_,_,hx,hA_x⟩:=ex5 (i:=i) ((hP.fr0 M.fr).rd);have hox:=hP.ok _ (Ac hx);have hb:=hox.b (hbig _ (Ac hx)).2;have hbt:=(hbig _ (Ac hx)).1;have hbv:=hox.vb;simp only [reachBytes] at hbv
  refine ya X (AK i hA_x X X X (sl X) A0) (ya X (AI X X (BM Pq.len ((hP.fr0 M.fr).rd) hA_x hx) Hn X J8) (CI M X N5 λg10 w3 hg10 M=>BY M 0 X X J8 X λw4 M=>W ?_));refine ya X (AI (xs:=[str x.m.id,str x.m.nm,.slice x.a.V x.m.vars.length x.a.vc,.slice x.a.E x.m.els.length x.a.ec,.slice x.a.F x.m.fls.length x.a.fc]) X X (DR (M.blk 0 X) 0 5 X X) Al X AN) (CW M 33 X X call21 (xW x.m x.a _ hb (hox.fr0 M.fr).md) λw5 M=>W ?_);refine fvm M 5 [10,9,8,7,5,1,0] [(40,.bool ((!(j5 x.m)) || (!decide ((x.i.st.toNat:Int)=1))))] ?_ (λk35=>?_)
  ·intro w6 M;refine yb X (fvm M 7 [10,9,8,7,5,1,0] [(48,.bool (((!(j5 x.m)) || (!decide ((x.i.st.toNat:Int)=1))) || (!(KN x.m x.i 2147483647 1099511627776))))] ?_ (λk41=>?_))
   ·intro w7 M;refine W ?_;refine AB X (λh48=>?_) (λh48=>?_)
    ·have h48p:=bd h48;refine W ?_;refine fag ⟨i+1,hs,ns,A7,c7,A8,c8,X,(M.pk [1,2,3]),?_,?_,?_,?_,X⟩
     ·omega
     ·rw [hE,AG hx,PQ,if_pos (show d6 x=true from h48)]
     ·assumption
     omega
    have h48p:=bd h48;have ho:=tA hb (BO (G8 (G8 h48).1).1);refine W ?_;refine flp [10,9,5,1,0] (λze e wr mz=>∃(k:Nat) (hs2:List Ht) (ns2:List Int) (A9:Ky) (c9:Nat) (B9:Ky) (d9:Nat),e=(7,.slice A9 hs2.length c9)::(8,.slice B9 ns2.length d9)::(11,AA (k:Int))::ze∧Mem w AR [As.blk g10 50 (Pq.cells x),As.own w.heap.size 3 1 (.slice B9 ns2.length d9) ns2.length (AE X2 ns2),As.own w.heap.size 82 3 (.slice A9 hs2.length c9) hs2.length (AE Ht.cells hs2),As.blk g5 25 q.cells] wr∧(k≤x.i.toks.length)∧(NC q sg x i x.i.toks hs=NC q sg x i (x.i.toks.drop k) hs2)∧(ns2=hs2.map hkey)∧(hs2.length≤hs.length+k)∧mz=x.i.toks.length-k) ⟨0,hs,ns,A7,c7,A8,c8,X,M,Ae _,X,hns,Ab _,X⟩ ?_;rintro _ w8 _ ⟨k,hs2,ns2,A9,c9,B9,d9,rfl,M,hk,hE2,hns2,hl2,rfl⟩;refine W ?_;refine AB X (λh54=>?_) (λh54=>?_)
    ·have h54p:=odt h54;refine W ?_;obtain ⟨t,_,_,ht,hA_t⟩:=ex5 (l:=x.i.toks) (k:=9) (i:=k) ((((hP.ok _ (Ac hx))).fr0 M.fr).T);refine ya X (AK k hA_t X X X (sl X) A0) (ya X (AI X X (BM Tk.len ((((hP.ok _ (Ac hx))).fr0 M.fr).T) hA_t ht) Bm X BA) (CI M X HR λg12 w9 hg12 M=>BY M 0 X X BA X λw10 M=>W ?_));refine ya X (AI (xs:=[str x.m.id,str x.m.nm,.slice x.a.V x.m.vars.length x.a.vc,.slice x.a.E x.m.els.length x.a.ec,.slice x.a.F x.m.fls.length x.a.fc]) X X (DR (M.blk 1 X) 0 5 X X) Al X AN) (W ?_);refine CH M 0 X X Bm BA X (cl 70 X (AD X X call23) (nE x.m x.a x.i.vars x.V x.vc t _ ho (hox.fr0 M.fr).md A0 (hox.fr0 M.fr).V) ?_);rintro _ w11 ⟨Aw,cw,rfl,how,hfw11⟩;refine cq ?_;have M:=M.pushOwn hfw11 (Ab _) how;have hwl:=M.ownLen 0 X;obtain ⟨ws,hws⟩:∃ws,ws=(GC x.m x.i.vars t).1:=⟨_,X⟩
     rw [←hws] at M hwl ⊢
     refine W ?_;refine EF M [13,12,11,10,9,8,7,5,1,0] (λze zF e wr mz=>∃(n:Nat) (v:Kz),e=(15,str v)::(16,AA (n:Int))::ze∧zF wr∧(n≤ws.length)∧(UJ q sg x ws=if v=[] then UJ q sg x (ws.drop n) else v)∧mz=ws.length-n) ⟨0,[],X,M,Ae _,(if_pos X).symm,X⟩ ?_;rintro _ w12 _ ⟨n,v,rfl,M,hn,hv,rfl⟩;refine W ?_;refine fvm M 3 [16,15,13,12,11,10,9,8,7,5,1,0] [(80,.bool ((decide ((n:Int)<(ws.length:Int)))&&(decide (v=[]))))] ?_ (λk77=>?_)
     ·intro w13 M;refine W ?_;refine AB X (λh80=>?_) (λh80=>?_)
      ·have h80p:=bd h80;obtain ⟨u,_,_,hu,hA_u⟩:=ex5 (l:=ws) (k:=5) (i:=n) (M.rdOwn 0 X);refine W ?_;refine ya X (AK n hA_u X X X (sl X) A0) (ya X (AI X X (BM Wt.len (M.rdOwn 0 X) hA_u hu) Cy X C9) (CI M X K9 λg17 w14 hg17 M=>BY M 0 X X C9 X λw15 M=>W ?_));refine fvm M 4 [17,16,15,13,12,11,10,9,8,7,5,1,0] [(92,.bool (sg&&(decide ((u.ev.toNat:Int)=3))))] ?_ (λk88=>?_)
       ·intro w16 M;refine yb X (fvm M 6 [17,16,15,13,12,11,10,9,8,7,5,1,0] [(99,.bool ((sg&&(decide ((u.ev.toNat:Int)=3)))&&(decide (u.nm=q.nm))))] ?_ (λk93=>?_))
        ·intro w17 M;refine yb X (fvm M 30 [17,16,15,13,12,11,10,9,8,7,5,1,0] [(130,.bool (((sg&&(decide ((u.ev.toNat:Int)=3)))&&(decide (u.nm=q.nm))) || (((((!sg)&&(decide ((u.ev.toNat:Int)=2)))&&(decide (u.nm=q.nm)))&&(decide (u.key=q.key)))&&(decide ((I5 x.m.vars q.vars)=(0:Int))))))] ?_ (λk100=>?_))
         ·intro w18 M;refine W ?_;refine AB X (λh130=>?_) (λh130=>?_)
          ·have h130p:=bd h130;refine W ?_;refine fag ⟨n+1,u.via,X,(M.pk [1,2,3,4,5,6]),?_,?_,X⟩
           ·omega
           rw [hv,if_pos h80p.2,AG hu,UJ,if_pos (show TQ q sg x u=true from h130)]
          have h130p:=bd h130;refine W ?_;refine fag ⟨n+1,v,X,(M.pk [1,2,3,4,5,6]),?_,?_,X⟩
          ·omega
          rw [hv,if_pos h80p.2,if_pos h80p.2,AG hu,UJ,if_neg (UN (show TQ q sg x u=false from h130))]
         refine A1 (d:=100) X (λh100=>?_) (λh100=>?_)
         ·refine yo X (yo X (yo X (DZ X X X X X (DZ X X X X X (DZ X X X X X (yo X (yo X ?_)))))));iterate 5 refine DZ X X X X X ?_
          refine yo X (yo X ?_);iterate 5 refine DZ X X X X X ?_
          refine yo X (yo X ?_);iterate 6 refine DZ X X X X X ?_
          exact yo X (yb X (k100 M))
         have h100p:=bd h100;refine W ?_;refine fvm M 4 [100,17,16,15,13,12,11,10,9,8,7,5,1,0] [(107,.bool ((!sg)&&(decide ((u.ev.toNat:Int)=2))))] ?_ (λk103=>?_)
         ·intro w19 M;refine gyq X (fvm M 6 [100,17,16,15,13,12,11,10,9,8,7,5,1,0] [(114,.bool (((!sg)&&(decide ((u.ev.toNat:Int)=2)))&&(decide (u.nm=q.nm))))] ?_ (λk108=>?_))
          ·intro w20 M;refine gyq X (fvm M 6 [100,17,16,15,13,12,11,10,9,8,7,5,1,0] [(121,.bool ((((!sg)&&(decide ((u.ev.toNat:Int)=2)))&&(decide (u.nm=q.nm)))&&(decide (u.key=q.key))))] ?_ (λk115=>?_))
           ·intro w21 M;refine gyq X (fvm M 7 [100,17,16,15,13,12,11,10,9,8,7,5,1,0] [(129,.bool (((((!sg)&&(decide ((u.ev.toNat:Int)=2)))&&(decide (u.nm=q.nm)))&&(decide (u.key=q.key)))&&(decide ((I5 x.m.vars q.vars)=(0:Int)))))] ?_ (λk122=>?_))
            ·intro w22 M;exact yb X (k100 M)
            refine A1 (d:=122) X (λh122=>?_) (λh122=>?_)
            ·refine gyq X (yd X (AI (xs:=[str x.m.id,str x.m.nm,.slice x.a.V x.m.vars.length x.a.vc,.slice x.a.E x.m.els.length x.a.ec,.slice x.a.F x.m.fls.length x.a.fc]) X X (DR (M.blk 3 X) 0 5 X X) Al X AN) (W ?_));refine sxl_call (some 127) kw X X (AD X X call24) (n8 x.m.id x.m.nm x.a.V q.V x.a.vc q.vc (.slice x.a.E x.m.els.length x.a.ec) (.slice x.a.F x.m.fls.length x.a.fc) x.m.vars q.vars _ hox.str.vars hq.ok (hox.fr0 M.fr).md.vars (hq.fr0 M.fr).V) ?_;rintro _ w23 ⟨rfl,hfw23⟩;refine cq ?_;have M:=M.step hfw23;refine T2 ?_;exact k122 M
            have h122p:=bd h122;refine T7 ?_;exact k122 M
           refine A1 (d:=115) X (λh115=>?_) (λh115=>?_)
           ·refine T6 ?_;exact k115 M
           have h115p:=bd h115;refine T6 ?_;exact k115 M
          refine A1 (d:=108) X (λh108=>?_) (λh108=>?_)
          ·refine T6 ?_;exact k108 M
          have h108p:=bd h108;refine T6 ?_;exact k108 M
         refine A1 (d:=103) X (λh103=>?_) (λh103=>?_)
         ·refine T4 ?_;exact k103 M
         refine T4 ?_;exact k103 M
        refine A1 (d:=93) X (λh93=>?_) (λh93=>?_)
        ·refine T6 ?_;exact k93 M
        have h93p:=bd h93;refine T6 ?_;exact k93 M
       refine A1 (d:=88) X (λh88=>?_) (λh88=>?_)
       ·refine T4 ?_;exact k88 M
       refine T4 ?_;exact k88 M
      have h80p:=bd h80;refine W ?_;have hvR:VO q sg x t=v:=by rw [VO,←hws];exact wA hn hv h80p
      refine W ?_;refine AB X (λh134=>?_) (λh134=>?_)
      ·have h134p:=odt h134;refine W ?_;refine fag ⟨k+1,hs2,ns2,A9,c9,B9,d9,X,(M.pk [2,3,4,5]),?_,?_,?_,?_,X⟩
       ·omega
       ·exact a0N hE2 ht hvR h134p
       ·assumption
       omega
      have h134p:=odf h134;refine W ?_;have hnl:ns2.length=hs2.length:=by rw [hns2,Bp]
      refine EF M [15,12,11,10,9,8,7,5,1,0] (λze zF e wr mz=>∃(p:Nat),e=(18,AA (p:Int))::ze∧zF wr∧(p≤hs2.length)∧(KU hkey hs2 t.id hs2.length=KU hkey hs2 t.id p)∧mz=p+1) ⟨hs2.length,X,M,Ab _,X,X⟩ ?_;rintro _ w24 _ ⟨p,rfl,M,hp,hpo,rfl⟩;refine W ?_;refine CS CA gkr ?_;have M:=M.drew;refine W ?_;refine fvs 9 [18,15,12,11,10,9,8,7,5,1,0] [(148,.bool ((decide (0<(p:Int)))&&(decide (t.id<(Kf hkey hs2 (p-1))))))] ?_ (λk139=>?_)
      ·refine W ?_;refine AB X (λh148=>?_) (λh148=>?_)
       ·have h148p:=bd h148;refine W ?_;refine ya X (ER (a:=p) (b:=1) X X X A0 A0) (W ?_);refine fag ⟨p-1,X,M,?_,?_,X⟩
        ·omega
        exact hpo.trans (sH h148p)
       have h148p:=bd h148;refine W ?_;have hpE:=hpo.trans (yC h148p);refine W ?_;have hcp154:=M.ownCap 4 X;refine ya X (pD p X X X (sl X) A0) ?_;have M:=M.nilOwn 82 3;refine CN (len':=(hs2.take p).length) (xs':=AE Ht.cells (hs2.take p)) M 0 kw X X X X X X ((WI Ht.len (M.rdOwn 5 X) A0)) Ho GO X AV (DB Ht.cells_one) (Ab _) (Ab _) DC (by unfold maxLen;first|omega|(simp;omega)) (by first|(simp;done)|(simp;omega)) (by first|exact (B3 _ _ _).symm|rfl|simp [AE,Ht.cells]) λA155 c155 w25 M=>W ?_
       refine ya X (B7 (parts:=[(0,_),(1,_),(2,_)]) X X (LQ _ _ _)) (CV M kw X X [.agg #[AA (i:Int),AA t.id,str v]] ([AA (i:Int),AA t.id,str v]) X X X X Ho O5 X X (GT X) X λg162 w26 hg162 M=>CN (len':=((hs2.take p)++[(⟨(i:Int),t.id,v⟩:Ht)]).length) (xs':=AE Ht.cells ((hs2.take p)++[(⟨(i:Int),t.id,v⟩:Ht)])) M 1 kw X X X X X X (M.rdBlk 0 X X) Ho GO X AV (BW X) (Ab _) (Ab _) DC (by unfold maxLen;first|omega|(simp;omega)) (by first|(simp;done)|(simp;omega)) (by first|exact (B3 _ _ _).symm|rfl|simp [AE,Ht.cells]) λA163 c163 w27 M=>W ?_);have hcp167:=M.ownCap 6 X;refine ya X (cJ p X X X (sl X) A0) (CN (len':=(((hs2.take p)++[(⟨(i:Int),t.id,v⟩:Ht)])++(hs2.drop p)).length) (xs':=AE Ht.cells (((hs2.take p)++[(⟨(i:Int),t.id,v⟩:Ht)])++(hs2.drop p))) M 1 kw X X X X X X ((dK Ht.len (M.rdOwn 6 X) A0 A0)) Ho GO X AV (DB Ht.cells_one) (Ab _) (Ab _) DC (by unfold maxLen;first|omega|(simp;omega)) (by first|(simp;done)|(simp;omega)) (by first|exact (B3 _ _ _).symm|rfl|simp [AE,Ht.cells]) λA168 c168 w28 M=>W ?_);have hcp172:=M.ownCap 5 X;refine ya X (pD p X X X (sl X) A0) ?_;have M:=M.nilOwn 3 1;refine CN (len':=(ns2.take p).length) (xs':=AE X2 (ns2.take p)) M 0 kw X X X X X X ((WI X1 (M.rdOwn 6 X) A0)) Hm X5 X AV (DB eX) (Ab _) (Ab _) DC (by unfold maxLen;first|omega|(simp;omega)) (by first|(simp;done)|(simp;omega)) (by first|exact (B3 _ _ _).symm|rfl|simp [AE,X2]) λA173 c173 w29 M=>W ?_
       refine CV M kw X X [AA t.id] ([AA t.id]) X X X X Hm zK X X (GT X) X λg177 w30 hg177 M=>CN (len':=((ns2.take p)++[t.id]).length) (xs':=AE X2 ((ns2.take p)++[t.id])) M 1 kw X X X X X X (M.rdBlk 0 X X) Hm X5 X AV (BW X) (Ab _) (Ab _) DC (by unfold maxLen;first|omega|(simp;omega)) (by first|(simp;done)|(simp;omega)) (by first|exact (B3 _ _ _).symm|rfl|simp [AE,X2]) λA178 c178 w31 M=>W ?_
       have hcp182:=M.ownCap 7 X;refine ya X (cJ p X X X (sl X) A0) (CN (len':=(((ns2.take p)++[t.id])++(ns2.drop p)).length) (xs':=AE X2 (((ns2.take p)++[t.id])++(ns2.drop p))) M 1 kw X X X X X X ((dK X1 (M.rdOwn 7 X) A0 A0)) Hm X5 X AV (DB eX) (Ab _) (Ab _) DC (by unfold maxLen;first|omega|(simp;omega)) (by first|(simp;done)|(simp;omega)) (by first|exact (B3 _ _ _).symm|rfl|simp [AE,X2]) λA183 c183 w32 M=>W ?_);refine fag ⟨k+1,((hs2.take p)++[(⟨(i:Int),t.id,v⟩:Ht)])++(hs2.drop p),((ns2.take p)++[t.id])++(ns2.drop p),A168,c168,A183,c183,X,(M.pk [6,1,3,9]),?_,?_,?_,?_,X⟩
       ·omega
       ·exact wM hE2 ht hvR h134p hpE
       ·exact zR hns2
       simp;omega
      refine C1 (d:=139) X (λh139=>?_) (λh139=>?_)
      ·have h139p:=odt h139;refine W ?_;refine gsg X (ER (a:=p) (b:=1) X X X A0 A0) ?_;obtain ⟨z,_,_,hz,hA_z⟩:=ex5 (l:=ns2) (k:=1) (i:=p-1) (M.rdOwn 3 X);refine gsg X (AK (p-1) hA_z X X X (sl X) A0) ?_;have hkd:Kf hkey hs2 (p-1)=z:=by unfold Kf;rw [←Bu,←hns2,hz];rfl
       refine gsg X (B2 X X (sc X) (hkd▸BD X1 (M.rdOwn 3 X) hA_z hz 0 X)) (T4 ?_);exact k139 _ ⟨X,X,X,X,X,X,X,X,X,X,X,(by rw [h139];rfl),trivial⟩
      refine T9 ?_;exact k139 _ ⟨X,X,X,X,X,X,X,X,X,X,X,(by rw [h139];rfl),trivial⟩
     refine A1 (d:=77) X (λh77=>?_) (λh77=>?_)
     ·refine T3 ?_;exact k77 M
     refine T3 ?_;exact k77 M
    have h54p:=odf h54;refine W ?_;obtain rfl:k=x.i.toks.length:=by omega
    have hT:NC q sg x i x.i.toks hs=hs2:=by rw [hE2,Am,NC]
    refine W ?_;refine fag ⟨i+1,hs2,ns2,A9,c9,B9,d9,X,(M.pk [1,2,3]),?_,?_,?_,?_,X⟩
    ·omega
    ·rw [hE,AG hx,PQ,if_neg (UN (show d6 x=false from h48)),hT]
    ·assumption
    omega
   refine A1 (d:=41) X (λh41=>?_) (λh41=>?_)
   ·have h41p:=bd h41;refine T7 ?_;exact k41 M
   have h41p:=bd h41;refine gyq X (yd X (AI (xs:=[str x.m.id,str x.m.nm,.slice x.a.V x.m.vars.length x.a.vc,.slice x.a.E x.m.els.length x.a.ec,.slice x.a.F x.m.fls.length x.a.fc]) X X (DR (M.blk 0 X) 0 5 X X) Al X AN) (gyq X (yd X (AI (xs:=[AA x.i.id,str x.i.mdl,.int .u8 (x.i.st.toNat:Int),.slice x.V x.i.vars.length x.vc,.slice x.T x.i.toks.length x.tc]) X X (DR (M.blk 0 X) 5 5 X X) Ea X DJ) (sxl_call (some 46) kw X X (AD X X call22) (dQ x.m x.a x.i x.V x.T x.vc x.tc 2147483647 1099511627776 _ (tA hb (BO (G8 h41).1)) (hox.fr0 M.fr).md ⟨by decide,by decide⟩ A0 hox.bd hox.wk (hox.fr0 M.fr).V (hox.fr0 M.fr).T) ?_))));rintro _ w33 ⟨rfl,hfw33⟩;refine cq ?_;have M:=M.step hfw33;refine T2 ?_;exact k41 M
  refine A1 (d:=35) X (λh35=>?_) (λh35=>?_)
  ·refine T5 ?_;exact k35 M
  refine T5 ?_;exact k35 M
 have h24p:=odf h24;refine W ?_;obtain rfl:i=l.length:=by omega
 rw [Am,PQ] at hE
 refine W ?_;refine gr1 X ?_;rw [hE];exact ⟨A7,c7,X,M.own 1 X,M.fr⟩
end
end Go.Proofs.YtppmdnmjepkfaaaGreatDoor
