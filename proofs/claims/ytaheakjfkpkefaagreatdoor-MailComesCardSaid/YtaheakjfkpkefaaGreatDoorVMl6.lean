/- Lemmas. -/
import Derived.Test.YtaheakjfkpkefaaGreatDoorVMl4
set_option maxHeartbeats 16000000
set_option maxRecDepth 100000
namespace Go.Proofs.YtaheakjfkpkefaaGreatDoor
open Go.RowKit
open Tryz
theorem Fr.putS {S:Nat→Prop} {w w':World} (h:Fr S w w') {lr:Nat} (o:Obj) (hl:S lr):Fr S w (w'.putObj lr o):=
 ⟨h.os,h.tape,h.output,by rw [World.putObj_size];exact h.size,λk hk hn=>(World.putObj_heap_other (by intro e;subst e;exact hn hl)).trans (h.block k hk hn)⟩
theorem ZT : prog.built 38 []=some #[AC 0,AC 0,str []]:=by kernel_rfl
namespace Sf
theorem mfind_ok (A:Option Addr) (cp:Nat) (l:List Pa) (q:Mq) (w:World) (hP:Pts w A l) (hq:MqOk w q) (hY:Lay0 w) :
 Calls prog 9 #[.slice A l.length cp,.agg q.cells.toArray] w λe w'=>∃ss:List St,SsP l ss∧e=.returned (o5 (D5 l (IE q) ss))∧Fr0 w w':=by
 refine sx_enter (vs:=[_,_]) func9 X ntmps9 X (sx_seq (sx_region (sxl_does (some 3) (wn_none X) X X (λρ hρ=>KR 26 (.tmp 1) X q.cells (by rw [hρ _ _ rfl];rfl)) ?_)));rintro _ w1 ⟨gm,rfl,hm1,hm2,hbm,hf1⟩;refine sxl_does (some 4) (wn_none X) X X (λρ hρ=>C7 38 X _ zeroHt.cells G2 X) ?_;rintro _ w2 ⟨g4,rfl,h4a,h4b,hb4,hf2⟩;refine sxl_does (some 5) (wn_none X) X X (λρ hρ=>C7 4 X _ [.bool false] N8 X) ?_;rintro _ w3 ⟨g5,rfl,h5a,h5b,hb5,hf3⟩;refine sxl_nil (qx_seq (sx_seq (sx_seq (sx_region (sxl_y (wn_none X) X X (yp X) (sxl_y (wn_none X) X X (CP (us:=[]) (vs:=[pg gm]) X X X) (sxl_call (some 9) (wn_none X) X X (AG X X call18) (dX A cp l.length 19 gm w3) ?_)))))));rintro _ w4 ⟨gl,ga,rfl,hbl,hba,hl,ha,hf4⟩;refine ⟨_,X,sxl_nil (qx_seq (sx_block (V4 X call43 λfn tm rc htm hget hrc=>?_)))⟩;have a0:Agr [] 13 _ { tmps:=tm,defers:=[] }:=⟨htm,X,hget⟩;have hs1:=hf1.size;have hs2:=hf2.size;have hs3:=hf3.size;have hs4:=hf4.size;have hfw:Fr0 w w4:=((hf1.trans hf2).trans hf3).trans hf4;have e1:(w4.alloc (.deferred (some []))).heap.size=w4.heap.size+1:=World.size_alloc _ _;obtain ⟨W,hW⟩:∃W,(w4.alloc (.deferred (some []))).alloc (.loop rc)=W:=⟨_,X⟩
 have hfW:Fr0 w4 W:=hW▸(Fr.refl.alloc _).alloc _;have hsW:W.heap.size=w4.heap.size+2:=by rw [←hW,World.size_alloc,e1]
 have hrW:W.heap[w4.heap.size+1]?=some (.loop rc):=by
  have:=World.alloc_heap_new (w4.alloc (.deferred (some []))) (.loop rc)
  rw [e1] at this;rw [←hW];exact this
 have hdW:W.heap[w4.heap.size]?=some (.deferred (some [])):=by
  rw [←hW,QT _ _ (by rw [e1];omega)];exact World.alloc_heap_new _ _
 rw [hW]
 have hnew:∀k,k∈[w4.heap.size,w4.heap.size+1,g4,g5]→w.heap.size≤k:=λk hk=>by
  simp only [List.mem_cons,List.not_mem_nil,or_false] at hk
  omega
 have hin:∀w1',Fr (λk=>k∈[w4.heap.size,w4.heap.size+1,g4,g5]) W w1'→Fr0 w w1':=λw1' hf=>BT (hfw.trans hfW) hf hnew
 have hbmW:∀w1',Fr (λk=>k∈[w4.heap.size,w4.heap.size+1,g4,g5]) W w1'→Blk w1' gm 26 q.cells:=λw1' hf=>
  Blk.fr (((hbm.fr0 hf2).fr0 hf3).fr0 (hf4.trans hfW)) hf (by simp only [List.mem_cons,List.not_mem_nil,or_false];omega)
 refine (Z4 A cp l gl ga 19 gm (IE q) false (w4.heap.size+1) (JFi rc w4.heap.size (w4.heap.size+1) g4 g5) (nA rc _ _ g4 g5) [w4.heap.size,w4.heap.size+1,g4,g5] W ?_ ?_ call19 ?_ ?_ ?_).mono ?_
 ·exact ⟨X,hdW,.inl ⟨X,hrW,(hb4.fr0 hf3).fr0 (hf4.trans hfW),hb5.fr0 (hf4.trans hfW)⟩⟩
 ·intro k hk;simp only [List.mem_cons,List.not_mem_nil,or_false] at hk
  omega
 ·intro w1' hf;exact ⟨hP.fr0 (hin w1' hf),hY.fr0 (hin w1' hf),Blk.fr (hbl.fr0 hfW) hf (by simp only [List.mem_cons,List.not_mem_nil,or_false];omega),Blk.fr (hba.fr0 hfW) hf (by simp only [List.mem_cons,List.not_mem_nil,or_false];omega)⟩
 ·intro x hx hrun wt w1' hf;exact iT gm q x wt w1' (hbmW w1' hf) ((hP.fr0 (hin w1' hf)).ok x hx) hrun (hq.fr0 (hin w1' hf)) (hY.fr0 (hin w1' hf))
 ·intro hs F h v1 _ hJ hgo;obtain ⟨rfl,hd1,hc1⟩:=hJ;have hs0:hs=[]:=hgo.resolve_left (by decide);subst hs0;rcases hc1 with ⟨_,hr1,hb41,hb51⟩|⟨x,hx,_⟩
  case inr=>cases hx
  have hlr:=(Array.getElem?_eq_some_iff.1 hr1).1;refine ⟨rc,hr1,by rw [hrc];rfl,roundIn_of_wpIn (F:=Fence.wide) trivial ?_⟩
  have hfold:((rc.params.zip [Value.agg h.cells.toArray].toArray).foldl (λtmps (t,a)=>tmps.setIfInBounds t a) rc.tmps)=tm.setIfInBounds 10 (.agg h.cells.toArray):=by
   rw [hrc,←Array.foldl_toList,Array.toList_zip];rfl
  rw [hfold,show rc.assign=_ from congrArg Loop.assign hrc,show rc.body=_ from congrArg Loop.body hrc];simp only [SR];refine Sx.run (rd:=some (w4.heap.size+1)) (D:=[]) (n:=13) ?_ _ (a0.put (d:=10) (by omega) (.agg h.cells.toArray));refine sx_region (sxl_does (some 6) (wn_none X) X X (λρ hρ=>C7 38 X _ zeroHt.cells G2 X) ?_);rintro _ v2 ⟨g6,rfl,h6a,h6b,hb6,hfv2⟩;refine sxl_does none (wn_none X) X X (λρ hρ=>BO 38 (.tmp 6) (.tmp 10) X g6 0 38 _ h.cells (hρ _ _ X) (hρ _ _ X) hb6 D8 (by show 0+3≤3;omega) (Ht.cells_one _)) ?_;rintro _ v3 ⟨rfl,hb6',hfv3⟩;rw [FZ zeroHt.cells h.cells rfl] at hb6'
  have hfa:Fr0 v1 v3:=hfv2.step hfv3 (λk hk e=>by omega);have hr3:v3.heap[w4.heap.size+1]?=some (.loop rc):=(hfa.block _ hlr (λhh=>hh)).trans hr1;have hready:rc.state=.ready:=by rw [hrc];rfl
  have hsa:=hfa.size;refine sxl_nil (.mk λa1 ha1=>⟨_,run_beginRound hr3 hready,Sx.run (rd:=some (w4.heap.size+1)) ?_ a1 ha1⟩);obtain ⟨v4,hv4⟩:∃v4,v3.putObj (w4.heap.size+1) (.loop { rc with state:=.busy })=v4:=⟨_,X⟩
  rw [hv4];have hs4':v4.heap.size=v3.heap.size:=by rw [←hv4];exact World.putObj_size
  have hfr4:Fr (λk=>k∈[w4.heap.size,w4.heap.size+1,g4,g5]) v1 v4:=by rw [←hv4];exact (Fr.of0 hfa).putS _ (by simp)
  have hl4:=hb41.lt;have hl5:=hb51.lt;have hldd:=(Array.getElem?_eq_some_iff.1 hd1).1;have hb6_4:Blk v4 g6 38 h.cells:=by rw [←hv4];exact hb6'.putObj _ (by omega)
  have hb4_4:Blk v4 g4 38 zeroHt.cells:=by rw [←hv4];exact (hb41.fr0 hfa).putObj _ (by omega)
  have hb5_4:Blk v4 g5 4 [.bool false]:=by rw [←hv4];exact (hb51.fr0 hfa).putObj _ (by omega)
  have hr4:v4.heap[w4.heap.size+1]?=some (.loop { rc with state:=.busy }):=by rw [←hv4];exact World.putObj_heap_same (by omega)
  have hd4:v4.heap[w4.heap.size]?=some (.deferred (some [])):=by rw [←hv4];exact (World.putObj_heap_other (by omega)).trans ((hfa.block _ hldd (λhh=>hh)).trans hd1)
  refine sx_block (sx_seq (sx_region (sxl_y (wn_none X) X X (AK (xs:=h.cells) X X (Rd.ofBlk hb6_4 X) underlying38 X D8) (sxl_does none (wn_none X) X X (λρ hρ=>BO 38 (.tmp 4) (.tmp 11) X g4 0 38 _ h.cells (hρ _ _ X) (hρ _ _ X) hb4_4 D8 (by show 0+3≤3;omega) (Ht.cells_one _)) ?_))));rintro _ v5 ⟨rfl,hb4_5,hf5⟩;rw [FZ zeroHt.cells h.cells rfl] at hb4_5
  refine sxl_does none (wn_none X) X X (λρ hρ=>CU 4 (.tmp 5) (.const (.bool true)) X g5 0 4 _ (.bool true) (hρ _ _ X) (hρ _ _ X) X (hb5_4.fr hf5 (by omega)) RP (by decide) X) ?_;rintro _ v6 ⟨rfl,hb5_6,hf6⟩;have hs5:=hf5.size;have hs6:=hf6.size;refine sxl_nil (qx_seq (sx_ret (qx_block_ret ?_)));have hr6:v6.heap[w4.heap.size+1]?=some (.loop { rc with state:=.busy }):=(hf6.block _ (by omega) (by omega)).trans ((hf5.block _ (by omega) (by omega)).trans hr4);have hd6:v6.heap[w4.heap.size]?=some (.deferred (some [])):=(hf6.block _ (by omega) (by omega)).trans ((hf5.block _ (by omega) (by omega)).trans hd4);refine .mk λa2 _=>⟨_,_,run_endRound (some .ret) hr6,X,[w4.heap.size,w4.heap.size+1,g4,g5],⟨X,(World.putObj_heap_other (by omega)).trans hd6,.inr ⟨h,X,World.putObj_heap_same (by omega),(hb4_5.fr hf6 (by omega)).putObj _ (by omega),Blk.putObj hb5_6 _ (by omega)⟩⟩,?_,λg hg=>.inl hg⟩
  exact ((hfr4.step hf5 (λk _ e=>by subst e;simp)).step hf6 (λk _ e=>by subst e;simp)).putS _ (by simp)
 ·rintro x w8 ⟨rfl,ss,hs,F',hp,hhs,hJ,hf8,-⟩;obtain ⟨rfl,hd8,hc8⟩:=hJ;rw [if_neg (by decide)] at hhs
  have hs8:=hf8.size;have hf08:Fr0 w w8:=hin w8 hf8;rcases hc8 with ⟨h0,hr8,hb48,hb58⟩|⟨h,h0,hr8,hb48,hb58⟩
  ·refine ⟨_,rc,X,hr8,(by rw [hrc];intro h;cases h),.inl ⟨(by rw [hrc];rfl),?_⟩⟩;obtain ⟨w9,hw9⟩:∃w9,w8.putObj (w4.heap.size+1) (.loop { rc with state:=.exhausted })=w9:=⟨_,X⟩
   rw [hw9];have hs9:w9.heap.size=w8.heap.size:=by rw [←hw9];exact World.putObj_size
   have hf9:Fr0 w w9:=by rw [←hw9];exact hf08.putObj _ (by omega)
   have hb49:Blk w9 g4 38 zeroHt.cells:=by rw [←hw9];exact hb48.putObj _ (by omega)
   have hb59:Blk w9 g5 4 [.bool false]:=by rw [←hw9];exact hb58.putObj _ (by omega)
   have hd9:w9.heap[w4.heap.size]?=some (.deferred (some [])):=by rw [←hw9];exact (World.putObj_heap_other (by omega)).trans hd8
   refine qx_block_normal (qx_seq (sx_seq (sx_region (sxl_y (wn_none X) X X (AY (parts:=[]) X X ZT) (sxl_does none (wn_none X) X X (λρ hρ=>BO 38 (.tmp 4) (.tmp 12) X g4 0 38 _ zeroHt.cells (hρ _ _ X) (hρ _ _ X) hb49 D8 (by show 0+3≤3;omega) (Ht.cells_one _)) ?_)))));rintro _ v5 ⟨rfl,hb4_5,hf5⟩;rw [FZ zeroHt.cells zeroHt.cells rfl] at hb4_5
   refine sxl_does none (wn_none X) X X (λρ hρ=>CU 4 (.tmp 5) (.const (.bool false)) X g5 0 4 _ (.bool false) (hρ _ _ X) (hρ _ _ X) X (hb59.fr hf5 (by omega)) RP (by decide) X) ?_;rintro _ v6 ⟨rfl,hb5_6,hf6⟩;have hs5:=hf5.size;have hs6:=hf6.size;refine sxl_nil (qx_seq (sx_ret ?_));have hd6:v6.heap[w4.heap.size]?=some (.deferred (some [])):=(hf6.block _ (by omega) (by omega)).trans ((hf5.block _ (by omega) (by omega)).trans hd9);refine YD X X X (Rd.ofBlk ((hb4_5.fr hf6 (by omega)).putObj _ (by omega)) X) ((Blk.putObj hb5_6 _ (by omega)).c 0 X) underlying38 X D8 X hd6 ⟨ss,hp,?_,((hf9.step hf5 (λk hk e=>by omega)).step hf6 (λk hk e=>by omega)).putObj _ (by omega)⟩
   have:D5 l (IE q) ss=[]:=by
    cases hh:D5 l (IE q) ss with
    | nil=>rfl
    | cons a r=>rw [hh,h0] at hhs;cases hhs
   rw [this];rfl
  ·refine ⟨_,_,X,hr8,(by intro h;cases h),.inr ⟨X,?_⟩⟩
   have fin:∀{e:Env} (o:Obj),e.get 4=some (pg g4)→e.get 5=some (pg g5)→QX [{ target:=.collected w4.heap.size,args := #[] }] (bodyPostM Fence.wide 2 prog Tryz.f9 λe w'=>∃ss:List St,SsP l ss∧e=.returned (o5 (D5 l (IE q) ss))∧Fr0 w w') .ret 13 e (w8.putObj (w4.heap.size+1) o):=by
    intro e o k4 k5;obtain ⟨w9,hw9⟩:∃w9,w8.putObj (w4.heap.size+1) o=w9:=⟨_,X⟩
    rw [hw9];have hs9:w9.heap.size=w8.heap.size:=by rw [←hw9];exact World.putObj_size
    have hf9:Fr0 w w9:=by rw [←hw9];exact hf08.putObj _ (by omega)
    have hb49:Blk w9 g4 38 h.cells:=by rw [←hw9];exact hb48.putObj _ (by omega)
    have hb59:Blk w9 g5 4 [.bool true]:=by rw [←hw9];exact hb58.putObj _ (by omega)
    have hd9:w9.heap[w4.heap.size]?=some (.deferred (some [])):=by rw [←hw9];exact (World.putObj_heap_other (by omega)).trans hd8
    refine YD X k4 k5 (Rd.ofBlk (hb49.putObj _ (by omega)) X) ((Blk.putObj hb59 _ (by omega)).c 0 X) underlying38 X D8 X hd9 ⟨ss,hp,?_,hf9.putObj _ (by omega)⟩
    cases hh:D5 l (IE q) ss with
    | nil=>rw [hh,h0] at hhs;cases hhs
    | cons a r=>
     rw [hh,h0] at hhs
     injection hhs with hhs
     rw [hhs];rfl
   exact qx_block_ret (qx_then_ret (fin _ X X))
end Sf
theorem PL : (prog.info? 38).map (λi=>(i.zero,i.size))=some (some (.agg #[AC 0,AC 0,str []]),3):=by kernel_rfl
theorem SI : (prog.info? 45).map (·.size)=some 1:=by kernel_rfl
def JA (rc:Loop) (gd lr g2:Nat) (hs:List Ht) (F:List Nat) (w:World):Prop:=∃A c,F=gd::lr::g2::(Value.slice A hs.length c).ownBlock.toList∧w.heap[gd]?=some (.deferred (some []))∧w.heap[lr]?=some (.loop rc)∧Blk w g2 45 [.slice A hs.length c] ∧
 w.ownsRow (lr+1) 38 3 (.slice A hs.length c) hs.length (AD Ht.cells hs)
theorem t7 (rc:Loop) (gd lr g2:Nat) (hs:List Ht) (F:List Nat) (w w':World) (h:∀g∈F,g<w.heap.size→w'.heap[g]?=w.heap[g]?) (hJ:JA rc gd lr g2 hs F w):JA rc gd lr g2 hs F w':=by
 obtain ⟨A,c,rfl,h1,h2,h3,h4⟩:=hJ;exact ⟨A,c,X,KB h (by simp) h1,KB h (by simp) h2,KB h (by simp) h3,(As.own (lr+1) 38 3 (.slice A hs.length c) hs.length (AD Ht.cells hs)).keep (λg hg=>h g (by simp only [List.mem_cons];exact .inr (.inr (.inr hg)))) h4⟩
theorem wF {w:World} {base size:Nat} {e:TypeId} {v:Value} {n g:Nat} {xs:List Value} (h:w.ownsRow base e size v n xs) (hg:v.ownBlock=some g):g<w.heap.size:=by
 rcases h.2 with ⟨rfl,_⟩|⟨g',cap,cur,rfl,_,hb,_⟩
 ·simp [Value.ownBlock] at hg
 ·simp [Value.ownBlock] at hg
  subst hg;exact (Array.getElem?_eq_some_iff.1 hb).1
namespace Sf
theorem appSeq_ok (A:Option Addr) (cp:Nat) (l:List Pa) (gl ga:Nat) (fa:FuncId) (gm:Nat) (ap:Pa→Wt→Bool) (w:World) (hI:HIn w A cp l gl ga fa gm) (hfa:∀(ar:Array Value) (w:World),(callFunc fa ar).run prog w=.ok (.enter fa ar) w)
 (hask:∀x∈l,runP x=true→∀(wt:Wt) (w1:World),Fr0 w w1→Calls prog fa #[.agg (Pa.cells x).toArray,.agg (Wt.cells wt).toArray,pg gm] w1 (BI w1 (.bool (ap x wt)))) :
 Calls prog 50 #[.slice none 0 0,.func (.func 43) #[] #[pg gl,pg ga]] w λe w'=>∃(ss:List St) (A':Option Addr) (c':Nat),SsP l ss∧e=.returned (.slice A' (D5 l ap ss).length c')∧w'.ownsRow w.heap.size 38 3 (.slice A' (D5 l ap ss).length c') (D5 l ap ss).length (AD Ht.cells (D5 l ap ss))∧(D5 l ap ss).length≤2400∧Fr0 w w':=by
 refine sx_enter (vs:=[_,_]) func50 X ntmps50 X (sx_seq (sx_region (sxl_does (some 2) (wn_none X) X X (λρ hρ=>KR 45 (.tmp 0) X [.slice none 0 0] (by rw [hρ _ _ rfl];rfl)) ?_)));rintro _ w4 ⟨g2,rfl,h2a,h2b,hb2,hf1⟩;refine sxl_y (wn_none X) X X (yp X) (sxl_nil (qx_seq (sx_seq (sx_seq (sx_region (sxl_y (wn_none X) X X (yp X) (sxl_nil (qx_seq (sx_block (V4 X call43 λfn tm rc htm hget hrc=>?_))))))))));have a0:Agr [] 13 _ { tmps:=tm,defers:=[] }:=⟨htm,X,hget⟩;have hs1:=hf1.size;have e1:(w4.alloc (.deferred (some []))).heap.size=w4.heap.size+1:=World.size_alloc _ _;obtain ⟨W,hW⟩:∃W,(w4.alloc (.deferred (some []))).alloc (.loop rc)=W:=⟨_,X⟩
 have hfW:Fr0 w4 W:=hW▸(Fr.refl.alloc _).alloc _;have hsW:W.heap.size=w4.heap.size+2:=by rw [←hW,World.size_alloc,e1]
 have hrW:W.heap[w4.heap.size+1]?=some (.loop rc):=by
  have:=World.alloc_heap_new (w4.alloc (.deferred (some []))) (.loop rc)
  rw [e1] at this;rw [←hW];exact this
 have hdW:W.heap[w4.heap.size]?=some (.deferred (some [])):=by
  rw [←hW,QT _ _ (by rw [e1];omega)];exact World.alloc_heap_new _ _
 rw [hW]
 have hnew:∀k,k∈[w4.heap.size,w4.heap.size+1,g2]→w.heap.size≤k:=λk hk=>by
  simp only [List.mem_cons,List.not_mem_nil,or_false] at hk
  omega
 have hin:∀w1',Fr (λk=>k∈[w4.heap.size,w4.heap.size+1,g2]) W w1'→Fr0 w w1':=λw1' hf=>BT (hf1.trans hfW) hf hnew
 refine (Z4 A cp l gl ga fa gm ap true (w4.heap.size+1) (JA rc w4.heap.size (w4.heap.size+1) g2) (t7 rc _ _ g2) [w4.heap.size,w4.heap.size+1,g2] W ?_ ?_ hfa ?_ ?_ ?_).mono ?_
 ·exact ⟨none,0,X,hdW,hrW,hb2.fr0 hfW,World.ownsRow_nil _ _ _ _⟩
 ·intro k hk;simp only [List.mem_cons,List.not_mem_nil,or_false] at hk
  omega
 ·intro w1' hf
  have:=hin w1' hf
  exact ⟨hI.pts.fr0 this,hI.lay.fr0 this,hI.gl.fr0 this,hI.ga.fr0 this⟩
 ·intro x hx hrun wt w1' hf;exact hask x hx hrun wt w1' (hin w1' hf)
 ·intro hs F h v1 hlen hJ _;obtain ⟨Ar,cr,rfl,hd1,hr1,hb21,ho1⟩:=hJ;have hlr:=(Array.getElem?_eq_some_iff.1 hr1).1;have hldd:=(Array.getElem?_eq_some_iff.1 hd1).1;have hl2:=hb21.lt;refine ⟨rc,hr1,by rw [hrc];rfl,roundIn_of_wpIn (F:=Fence.wide) trivial ?_⟩
  have hfold:((rc.params.zip [Value.agg h.cells.toArray].toArray).foldl (λtmps (t,a)=>tmps.setIfInBounds t a) rc.tmps)=tm.setIfInBounds 7 (.agg h.cells.toArray):=by
   rw [hrc,←Array.foldl_toList,Array.toList_zip];rfl
  rw [hfold,show rc.assign=_ from congrArg Loop.assign hrc,show rc.body=_ from congrArg Loop.body hrc];simp only [SR];refine Sx.run (rd:=some (w4.heap.size+1)) (D:=[]) (n:=13) ?_ _ (a0.put (d:=7) (by omega) (.agg h.cells.toArray));refine sx_region (sxl_does (some 5) (wn_none X) X X (λρ hρ=>C7 38 X _ zeroHt.cells G2 X) ?_);rintro _ v2 ⟨g6,rfl,h6a,h6b,hb6,hfv2⟩;refine sxl_does none (wn_none X) X X (λρ hρ=>BO 38 (.tmp 5) (.tmp 7) X g6 0 38 _ h.cells (hρ _ _ X) (hρ _ _ X) hb6 D8 (by show 0+3≤3;omega) (Ht.cells_one _)) ?_;rintro _ v3 ⟨rfl,hb6',hfv3⟩;rw [FZ zeroHt.cells h.cells rfl] at hb6'
  have hfa3:Fr0 v1 v3:=hfv2.step hfv3 (λk hk e=>by omega);have hr3:v3.heap[w4.heap.size+1]?=some (.loop rc):=(hfa3.block _ hlr (λhh=>hh)).trans hr1;have hready:rc.state=.ready:=by rw [hrc];rfl
  have hsa:=hfa3.size;refine sxl_nil (.mk λa1 ha1=>⟨_,run_beginRound hr3 hready,Sx.run (rd:=some (w4.heap.size+1)) ?_ a1 ha1⟩);obtain ⟨v4,hv4⟩:∃v4,v3.putObj (w4.heap.size+1) (.loop { rc with state:=.busy })=v4:=⟨_,X⟩
  rw [hv4];have hs4':v4.heap.size=v3.heap.size:=by rw [←hv4];exact World.putObj_size
  have hob:∀g∈(Value.slice Ar hs.length cr).ownBlock.toList,w4.heap.size+1<g:=λg hg=>by
   rcases ho1.2 with ⟨e,_⟩|⟨g',cap,cur,e,hg',_⟩
   ·rw [e] at hg;simp [Value.ownBlock] at hg
   ·rw [e] at hg;simp [Value.ownBlock] at hg;omega
  have hfr4:Fr (λk=>k∈w4.heap.size::(w4.heap.size+1)::g2::(Value.slice Ar hs.length cr).ownBlock.toList) v1 v4:=by rw [←hv4];exact (Fr.of0 hfa3).putS _ (by simp)
  have hb6_4:Blk v4 g6 38 h.cells:=by rw [←hv4];exact hb6'.putObj _ (by omega)
  have hb2_4:Blk v4 g2 45 [.slice Ar hs.length cr]:=by rw [←hv4];exact (hb21.fr0 hfa3).putObj _ (by omega)
  have hr4:v4.heap[w4.heap.size+1]?=some (.loop { rc with state:=.busy }):=by rw [←hv4];exact World.putObj_heap_same (by omega)
  have hd4:v4.heap[w4.heap.size]?=some (.deferred (some [])):=by rw [←hv4];exact (World.putObj_heap_other (by omega)).trans ((hfa3.block _ hldd (λhh=>hh)).trans hd1)
  have ho4:v4.ownsRow (w4.heap.size+1+1) 38 3 (.slice Ar hs.length cr) hs.length (AD Ht.cells hs):=
   (As.own (w4.heap.size+1+1) 38 3 (.slice Ar hs.length cr) hs.length (AD Ht.cells hs)).keep (λg hg hl=>by
    have:=hob g hg
    rw [←hv4,World.putObj_heap_other (by omega)];exact hfa3.block g hl (λhh=>hh)) ho1
  refine sx_block (sx_region (sxl_y (wn_none X) X X (BF X X (sc X) (hb2_4.c 0 X)) (sxl_y (wn_none X) X X (AK (xs:=h.cells) X X (Rd.ofBlk hb6_4 X) underlying38 X D8) (sxl_does (some 10) (wn_none X) X X (λρ hρ=>D3 (parts:=[(0,.tmp 9)]) [.agg h.cells.toArray] _ hρ X X X X underlying45 PL (CO X) (Nat.le_of_ble_eq_true X) (by intro v hv;simp only [List.mem_singleton] at hv;subst hv;rfl)) ?_))));rintro _ v5 ⟨g10,rfl,h10a,h10b,hb10,hf5⟩;have hs5:=hf5.size;have ho5:=(As.own (w4.heap.size+1+1) 38 3 (.slice Ar hs.length cr) hs.length (AD Ht.cells hs)).keep (λg _ hl=>hf5.block g hl (λhh=>hh)) ho4;refine sxl_does (some 11) (wn_none X) X X (λρ hρ=>CZ (.tmp 8) (.tmp 10) 45 X (w4.heap.size+1+1) 38 _ 3 32 underlying45 O0 X (by decide) _ _ _ (hρ _ _ X) ho5 _ 1 _ h.cells (hρ _ _ X) (Rd.ofBlk hb10 X) (Ht.cells_one _) (by unfold maxLen;omega) (by omega) (by omega)) ?_;rintro _ v6 ⟨ho6,hg6,hv6⟩;obtain ⟨A',c',rfl,_⟩:=DI ho6;have hs6:=hg6.size;have hgb:∀g,g<v5.heap.size→(∀g'∈(Value.slice Ar hs.length cr).ownBlock.toList,g'≠g)→v6.heap[g]?=v5.heap[g]?:=λg hg hn=>hg6.block g hg (λe=>hn g (by rw [←e];simp) X)
  have hb2_6:Blk v6 g2 45 [.slice Ar hs.length cr]:=(hgb g2 (by omega) (λg' hg'=>by have:=hob g' hg';omega)).trans (hb2_4.fr0 hf5);refine sxl_does none (wn_none X) X X (λρ hρ=>CU 45 (.tmp 2) (.tmp 11) X g2 0 45 _ (.slice A' (hs.length+1) c') (hρ _ _ X) (hρ _ _ X) X hb2_6 SI (Nat.lt_succ_self 0) X) ?_;rintro _ v7 ⟨rfl,hb2_7,hf7⟩;have hs7:=hf7.size;have hr7:v7.heap[w4.heap.size+1]?=some (.loop { rc with state:=.busy }):=(hf7.block _ (by omega) (by omega)).trans ((hgb _ (by omega) (λg' hg'=>by have:=hob g' hg';omega)).trans ((hf5.block _ (by omega) (λhh=>hh)).trans hr4));have hd7:v7.heap[w4.heap.size]?=some (.deferred (some [])):=(hf7.block _ (by omega) (by omega)).trans ((hgb _ (by omega) (λg' hg'=>by have:=hob g' hg';omega)).trans ((hf5.block _ (by omega) (λhh=>hh)).trans hd4));have hback:({ ({ rc with state:=LoopState.busy }:Loop) with state:=if (none:Option Code).isNone then LoopState.ready else LoopState.done,pending:=none }:Loop)=rc:=by rw [hrc];rfl
  have hob':∀g∈(Value.slice A' (hs.length+1) c').ownBlock.toList,w4.heap.size+1<g:=λg hg=>by
   rcases ho6.2 with ⟨e,_⟩|⟨g',cap,cur,e,hg',_⟩
   ·rw [e] at hg;simp [Value.ownBlock] at hg
   ·rw [e] at hg;simp [Value.ownBlock] at hg;omega
  have hl1:(hs++[h]).length=hs.length+1:=by simp
  have hfl:AD Ht.cells (hs++[h])=AD Ht.cells hs++h.cells:=by simp [AD]
  refine sxl_nil (qx_block_normal (.mk λa2 _=>⟨_,_,run_endRound none hr7,X,_,⟨A',c',X,(World.putObj_heap_other (by omega)).trans hd7,by rw [hback];exact World.putObj_heap_same (by omega),?_,?_⟩,?_,?_⟩))
  ·rw [hl1];exact Blk.putObj hb2_7 _ (by omega)
  ·rw [hl1,hfl]
   exact (As.own (w4.heap.size+1+1) 38 3 (.slice A' (hs.length+1) c') (hs.length+1) (AD Ht.cells hs++h.cells)).keep (λg hg hl=>by
    have:=hob' g hg
    rw [World.putObj_heap_other (by omega)];exact hf7.block g hl (by omega)) ho6
  ·refine Fr.putS ?_ _ (by simp);refine Fr.step (w':=v6) ?_ hf7 (λk _ e=>by subst e;simp);refine ⟨hg6.os.trans (hf5.os.trans hfr4.os),hg6.tape.trans (hf5.tape.trans hfr4.tape),hg6.output.trans (hf5.output.trans hfr4.output),by have:=hfr4.size;omega,λk hk hn=>?_⟩
   have:=hfr4.size
   exact (hgb k (by omega) (λg' hg' e=>hn (by subst e;simp only [List.mem_cons];exact .inr (.inr (.inr hg'))))).trans ((hf5.block k (by omega) (λhh=>hh)).trans (hfr4.block k hk hn))
  ·intro g hg;rw [hl1] at hg
   simp only [List.mem_cons] at hg ⊢
   rcases hg with rfl|rfl|rfl|hg
   ·exact .inl (.inl X)
   ·exact .inl (.inr (.inl X))
   ·exact .inl (.inr (.inr (.inl X)))
   ·rcases hv6 with h1|h1
    ·rw [h1] at hg;exact .inl (.inr (.inr (.inr hg)))
    ·rw [h1] at hg
     simp at hg
     subst hg;exact .inr ⟨by have:=hfr4.size;omega,by rw [World.putObj_size];have:=(wF ho6 h1);omega⟩
 ·rintro x w8 ⟨rfl,ss,hs,F',hp,hhs,hJ,hf8,-⟩;obtain ⟨Ar,cr,rfl,hd8,hr8,hb28,ho8⟩:=hJ;rw [if_pos rfl] at hhs
  have hs8:=hf8.size;have hf08:Fr0 w w8:=hin w8 hf8;refine ⟨_,rc,X,hr8,(by rw [hrc];intro h;cases h),.inl ⟨(by rw [hrc];rfl),?_⟩⟩;obtain ⟨w9,hw9⟩:∃w9,w8.putObj (w4.heap.size+1) (.loop { rc with state:=.exhausted })=w9:=⟨_,X⟩
  rw [hw9];have hs9:w9.heap.size=w8.heap.size:=by rw [←hw9];exact World.putObj_size
  have hf9:Fr0 w w9:=by rw [←hw9];exact hf08.putObj _ (by omega)
  have hb29:Blk w9 g2 45 [.slice Ar hs.length cr]:=by rw [←hw9];exact hb28.putObj _ (by omega)
  have hd9:w9.heap[w4.heap.size]?=some (.deferred (some [])):=by rw [←hw9];exact (World.putObj_heap_other (by omega)).trans hd8
  have hob:∀g∈(Value.slice Ar hs.length cr).ownBlock.toList,w4.heap.size+1<g:=λg hg=>by
   rcases ho8.2 with ⟨e,_⟩|⟨g',cap,cur,e,hg',_⟩
   ·rw [e] at hg;simp [Value.ownBlock] at hg
   ·rw [e] at hg;simp [Value.ownBlock] at hg;omega
  have ho9:w9.ownsRow (w4.heap.size+1+1) 38 3 (.slice Ar hs.length cr) hs.length (AD Ht.cells hs):=
   (As.own (w4.heap.size+1+1) 38 3 (.slice Ar hs.length cr) hs.length (AD Ht.cells hs)).keep (λg hg hl=>by
    have:=hob g hg
    rw [←hw9,World.putObj_heap_other (by omega)]) ho8
  refine qx_block_normal (qx_seq (sx_seq (sx_region (sxl_y (wn_none X) X X (BF X X (sc X) (hb29.c 0 X)) (sxl_y (wn_none X) X X (yp X) (sxl_nil (qx_seq (sx_ret (RQ X X hd9 ?_)))))))));subst hhs;refine ⟨ss,Ar,cr,hp,X,?_,?_,hf9.putObj _ (by omega)⟩
  ·have h1:=(As.own (w4.heap.size+1+1) 38 3 (.slice Ar (D5 l ap ss).length cr) (D5 l ap ss).length (AD Ht.cells (D5 l ap ss))).keep (w':=w9.putObj w4.heap.size (.deferred none)) (λg hg hl=>by
    have:=hob g hg
    rw [World.putObj_heap_other (by omega)]) ho9
   exact IX h1 (by omega)
  ·exact Z3 (i:=ss.length) ⟨by rw [List.take_length],trivial⟩ hp hI.pts
end Sf
end Go.Proofs.YtaheakjfkpkefaaGreatDoor
