/- Lemmas that the last text rests on. Condition: each says its own. -/
import Derived.Test.YtaheakjfkpkefaaGreatDoorYMl4
set_option maxHeartbeats 16000000
set_option maxRecDepth 100000
namespace Go.Proofs.YtaheakjfkpkefaaGreatDoor
open Go.RowKit
open Tryz
theorem Fr.putS {S:Nat→Prop} {w w':World} (h:Fr S w w') {lr:Nat} (o:Obj) (hl:S lr):Fr S w (w'.putObj lr o):=
 ⟨h.os,h.tape,h.output,by rw [World.putObj_size];exact h.size,λk hk hn=>(World.putObj_heap_other (by intro e;subst e;exact hn hl)).trans (h.block k hk hn)⟩
theorem PV : prog.built 38 []=some #[AA 0,AA 0,str []]:=by kernel_rfl
namespace Sf
theorem mfind_ok (A:Option Addr) (cp:Nat) (l:List Pa) (q:Mq) (w:World) (hP:Pts w A l) (hq:MqOk w q) (hY:Lay0 w) :
 Calls prog 9 #[.slice A l.length cp,.agg q.cells.toArray] w λe w' => ∃ss:List St,SsP l ss∧e=.returned (kP (C6 l (D9 q) ss))∧Fr0 w w':=by
 refine sx_enter (vs:=[_,_]) func9 rfl ntmps9 rfl (sx_seq (sx_region (sxl_does (some 3) (wn_none rfl) rfl rfl (λρ hρ=>LH 26 (.tmp 1) rfl q.cells (by rw [hρ _ _ rfl];rfl)) ?_)))
 rintro _ w1 ⟨gm,rfl,hm1,hm2,hbm,hf1⟩
 refine sxl_does (some 4) (wn_none rfl) rfl rfl (λρ hρ=>BW 38 rfl _ zeroHt.cells DY rfl) ?_
 rintro _ w2 ⟨g4,rfl,h4a,h4b,hb4,hf2⟩
 refine sxl_does (some 5) (wn_none rfl) rfl rfl (λρ hρ=>BW 4 rfl _ [.bool false] LS rfl) ?_
 rintro _ w3 ⟨g5,rfl,h5a,h5b,hb5,hf3⟩
 refine sxl_nil (qx_seq (sx_seq (sx_seq (sx_region (sxl_y (wn_none rfl) rfl rfl (yp rfl) (sxl_y (wn_none rfl) rfl rfl (CE (us:=[]) (vs:=[.pointer (some ⟨gm,0,none⟩)]) rfl rfl rfl) (sxl_call (some 9) (wn_none rfl) rfl rfl (AE rfl rfl call18) (oQ A cp l.length 19 gm w3) ?_)))))))
 rintro _ w4 ⟨gl,ga,rfl,hbl,hba,hl,ha,hf4⟩
 refine ⟨_,rfl,sxl_nil (qx_seq (sx_block (bP rfl call43 λfn tm rc htm hget hrc=>?_)))⟩
 have a0:Agr [] 13 _ { tmps:=tm,defers:=[] }:=⟨htm,rfl,hget⟩
 have hs1:=hf1.size
 have hs2:=hf2.size
 have hs3:=hf3.size
 have hs4:=hf4.size
 have hfw:Fr0 w w4:=((hf1.trans hf2).trans hf3).trans hf4
 have e1:(w4.alloc (.deferred (some []))).heap.size=w4.heap.size+1:=World.size_alloc _ _
 obtain ⟨W,hW⟩ : ∃W,(w4.alloc (.deferred (some []))).alloc (.loop rc)=W:=⟨_,rfl⟩
 have hfW:Fr0 w4 W:=hW▸(Fr.refl.alloc _).alloc _
 have hsW:W.heap.size=w4.heap.size+2:=by rw [←hW,World.size_alloc,e1]
 have hrW:W.heap[w4.heap.size+1]?=some (.loop rc):=by
  have:=World.alloc_heap_new (w4.alloc (.deferred (some []))) (.loop rc)
  rw [e1] at this;rw [←hW];exact this
 have hdW:W.heap[w4.heap.size]?=some (.deferred (some [])):=by
  rw [←hW,TX _ _ (by rw [e1];omega)];exact World.alloc_heap_new _ _
 rw [hW]
 have hnew : ∀k,k ∈ [w4.heap.size,w4.heap.size+1,g4,g5]→w.heap.size≤k:=λk hk=>by
  simp only [List.mem_cons,List.not_mem_nil,or_false] at hk
  omega
 have hin : ∀w1',Fr (λk=>k ∈ [w4.heap.size,w4.heap.size+1,g4,g5]) W w1'→Fr0 w w1':=λw1' hf=>D4 (hfw.trans hfW) hf hnew
 have hbmW : ∀w1',Fr (λk=>k ∈ [w4.heap.size,w4.heap.size+1,g4,g5]) W w1'→Blk w1' gm 26 q.cells:=λw1' hf=>
  Blk.fr (((hbm.fr0 hf2).fr0 hf3).fr0 (hf4.trans hfW)) hf (by simp only [List.mem_cons,List.not_mem_nil,or_false];omega)
 refine (jZ A cp l gl ga 19 gm (D9 q) false (w4.heap.size+1) (JFi rc w4.heap.size (w4.heap.size+1) g4 g5) (jO rc _ _ g4 g5) [w4.heap.size,w4.heap.size+1,g4,g5] W ?_ ?_ call19 ?_ ?_ ?_).mono ?_
 ·exact ⟨rfl,hdW,.inl ⟨rfl,hrW,(hb4.fr0 hf3).fr0 (hf4.trans hfW),hb5.fr0 (hf4.trans hfW)⟩⟩
 ·intro k hk
  simp only [List.mem_cons,List.not_mem_nil,or_false] at hk
  omega
 ·intro w1' hf
  exact ⟨hP.fr0 (hin w1' hf),hY.fr0 (hin w1' hf),Blk.fr (hbl.fr0 hfW) hf (by simp only [List.mem_cons,List.not_mem_nil,or_false];omega),Blk.fr (hba.fr0 hfW) hf (by simp only [List.mem_cons,List.not_mem_nil,or_false];omega)⟩
 ·intro x hx hrun wt w1' hf
  exact dU gm q x wt w1' (hbmW w1' hf) ((hP.fr0 (hin w1' hf)).ok x hx) hrun (hq.fr0 (hin w1' hf)) (hY.fr0 (hin w1' hf))
 ·intro hs F h v1 _ hJ hgo
  obtain ⟨rfl,hd1,hc1⟩:=hJ
  have hs0:hs=[]:=hgo.resolve_left (by decide)
  subst hs0
  rcases hc1 with ⟨_,hr1,hb41,hb51⟩ | ⟨x,hx,_⟩
  case inr=>cases hx
  have hlr:=(Array.getElem?_eq_some_iff.1 hr1).1
  refine ⟨rc,hr1,by rw [hrc];rfl,roundIn_of_wpIn (F:=Fence.wide) trivial ?_⟩
  have hfold:((rc.params.zip [Value.agg h.cells.toArray].toArray).foldl (λtmps (t,a)=>tmps.setIfInBounds t a) rc.tmps)=tm.setIfInBounds 10 (.agg h.cells.toArray):=by
   rw [hrc,←Array.foldl_toList,Array.toList_zip];rfl
  rw [hfold,show rc.assign=_ from congrArg Loop.assign hrc,show rc.body=_ from congrArg Loop.body hrc]
  simp only [TB]
  refine Sx.run (rd:=some (w4.heap.size+1)) (D:=[]) (n:=13) ?_ _ (a0.put (d:=10) (by omega) (.agg h.cells.toArray))
  refine sx_region (sxl_does (some 6) (wn_none rfl) rfl rfl (λρ hρ=>BW 38 rfl _ zeroHt.cells DY rfl) ?_)
  rintro _ v2 ⟨g6,rfl,h6a,h6b,hb6,hfv2⟩
  refine sxl_does none (wn_none rfl) rfl rfl (λρ hρ=>BH 38 (.tmp 6) (.tmp 10) rfl g6 0 38 _ h.cells (hρ _ _ rfl) (hρ _ _ rfl) hb6 BQ (by show 0+3≤3;omega) (Ht.cells_one _)) ?_
  rintro _ v3 ⟨rfl,hb6',hfv3⟩
  rw [FR zeroHt.cells h.cells rfl] at hb6'
  have hfa:Fr0 v1 v3:=hfv2.step hfv3 (λk hk e=>by omega)
  have hr3:v3.heap[w4.heap.size+1]?=some (.loop rc):=(hfa.block _ hlr (λhh=>hh)).trans hr1
  have hready:rc.state=.ready:=by rw [hrc];rfl
  have hsa:=hfa.size
  refine sxl_nil (.mk λa1 ha1=>⟨_,run_beginRound hr3 hready,Sx.run (rd:=some (w4.heap.size+1)) ?_ a1 ha1⟩)
  obtain ⟨v4,hv4⟩ : ∃v4,v3.putObj (w4.heap.size+1) (.loop { rc with state:=.busy })=v4:=⟨_,rfl⟩
  rw [hv4]
  have hs4':v4.heap.size=v3.heap.size:=by rw [←hv4];exact World.putObj_size
  have hfr4:Fr (λk=>k ∈ [w4.heap.size,w4.heap.size+1,g4,g5]) v1 v4:=by rw [←hv4];exact (Fr.of0 hfa).putS _ (by simp)
  have hl4:=hb41.lt
  have hl5:=hb51.lt
  have hldd:=(Array.getElem?_eq_some_iff.1 hd1).1
  have hb6_4:Blk v4 g6 38 h.cells:=by rw [←hv4];exact hb6'.putObj _ (by omega)
  have hb4_4:Blk v4 g4 38 zeroHt.cells:=by rw [←hv4];exact (hb41.fr0 hfa).putObj _ (by omega)
  have hb5_4:Blk v4 g5 4 [.bool false]:=by rw [←hv4];exact (hb51.fr0 hfa).putObj _ (by omega)
  have hr4:v4.heap[w4.heap.size+1]?=some (.loop { rc with state:=.busy }):=by rw [←hv4];exact World.putObj_heap_same (by omega)
  have hd4:v4.heap[w4.heap.size]?=some (.deferred (some [])):=by rw [←hv4];exact (World.putObj_heap_other (by omega)).trans ((hfa.block _ hldd (λhh=>hh)).trans hd1)
  refine sx_block (sx_seq (sx_region (sxl_y (wn_none rfl) rfl rfl (AH (xs:=h.cells) rfl rfl (Rd.ofBlk hb6_4 rfl) underlying38 rfl BQ) (sxl_does none (wn_none rfl) rfl rfl (λρ hρ=>BH 38 (.tmp 4) (.tmp 11) rfl g4 0 38 _ h.cells (hρ _ _ rfl) (hρ _ _ rfl) hb4_4 BQ (by show 0+3≤3;omega) (Ht.cells_one _)) ?_))))
  rintro _ v5 ⟨rfl,hb4_5,hf5⟩
  rw [FR zeroHt.cells h.cells rfl] at hb4_5
  refine sxl_does none (wn_none rfl) rfl rfl (λρ hρ=>CQ 4 (.tmp 5) (.const (.bool true)) rfl g5 0 4 _ (.bool true) (hρ _ _ rfl) (hρ _ _ rfl) rfl (hb5_4.fr hf5 (by omega)) UC (by decide) rfl) ?_
  rintro _ v6 ⟨rfl,hb5_6,hf6⟩
  have hs5:=hf5.size
  have hs6:=hf6.size
  refine sxl_nil (qx_seq (sx_ret (qx_block_ret ?_)))
  have hr6:v6.heap[w4.heap.size+1]?=some (.loop { rc with state:=.busy }):=(hf6.block _ (by omega) (by omega)).trans ((hf5.block _ (by omega) (by omega)).trans hr4)
  have hd6:v6.heap[w4.heap.size]?=some (.deferred (some [])):=(hf6.block _ (by omega) (by omega)).trans ((hf5.block _ (by omega) (by omega)).trans hd4)
  refine .mk λa2 _=>⟨_,_,run_endRound (some .ret) hr6,rfl,[w4.heap.size,w4.heap.size+1,g4,g5],⟨rfl,(World.putObj_heap_other (by omega)).trans hd6,.inr ⟨h,rfl,World.putObj_heap_same (by omega),(hb4_5.fr hf6 (by omega)).putObj _ (by omega),Blk.putObj hb5_6 _ (by omega)⟩⟩,?_,λg hg=>.inl hg⟩
  exact ((hfr4.step hf5 (λk _ e=>by subst e;simp)).step hf6 (λk _ e=>by subst e;simp)).putS _ (by simp)
 ·rintro x w8 ⟨rfl,ss,hs,F',hp,hhs,hJ,hf8,-⟩
  obtain ⟨rfl,hd8,hc8⟩:=hJ
  rw [if_neg (by decide)] at hhs
  have hs8:=hf8.size
  have hf08:Fr0 w w8:=hin w8 hf8
  rcases hc8 with ⟨h0,hr8,hb48,hb58⟩ | ⟨h,h0,hr8,hb48,hb58⟩
  ·refine ⟨_,rc,rfl,hr8,(by rw [hrc];intro h;cases h),.inl ⟨(by rw [hrc];rfl),?_⟩⟩
   obtain ⟨w9,hw9⟩ : ∃w9,w8.putObj (w4.heap.size+1) (.loop { rc with state:=.exhausted })=w9:=⟨_,rfl⟩
   rw [hw9]
   have hs9:w9.heap.size=w8.heap.size:=by rw [←hw9];exact World.putObj_size
   have hf9:Fr0 w w9:=by rw [←hw9];exact hf08.putObj _ (by omega)
   have hb49:Blk w9 g4 38 zeroHt.cells:=by rw [←hw9];exact hb48.putObj _ (by omega)
   have hb59:Blk w9 g5 4 [.bool false]:=by rw [←hw9];exact hb58.putObj _ (by omega)
   have hd9:w9.heap[w4.heap.size]?=some (.deferred (some [])):=by rw [←hw9];exact (World.putObj_heap_other (by omega)).trans hd8
   refine qx_block_normal (qx_seq (sx_seq (sx_region (sxl_y (wn_none rfl) rfl rfl (AY (parts:=[]) rfl rfl PV) (sxl_does none (wn_none rfl) rfl rfl (λρ hρ=>BH 38 (.tmp 4) (.tmp 12) rfl g4 0 38 _ zeroHt.cells (hρ _ _ rfl) (hρ _ _ rfl) hb49 BQ (by show 0+3≤3;omega) (Ht.cells_one _)) ?_)))))
   rintro _ v5 ⟨rfl,hb4_5,hf5⟩
   rw [FR zeroHt.cells zeroHt.cells rfl] at hb4_5
   refine sxl_does none (wn_none rfl) rfl rfl (λρ hρ=>CQ 4 (.tmp 5) (.const (.bool false)) rfl g5 0 4 _ (.bool false) (hρ _ _ rfl) (hρ _ _ rfl) rfl (hb59.fr hf5 (by omega)) UC (by decide) rfl) ?_
   rintro _ v6 ⟨rfl,hb5_6,hf6⟩
   have hs5:=hf5.size
   have hs6:=hf6.size
   refine sxl_nil (qx_seq (sx_ret ?_))
   have hd6:v6.heap[w4.heap.size]?=some (.deferred (some [])):=(hf6.block _ (by omega) (by omega)).trans ((hf5.block _ (by omega) (by omega)).trans hd9)
   refine W6 rfl rfl rfl (Rd.ofBlk ((hb4_5.fr hf6 (by omega)).putObj _ (by omega)) rfl) ((Blk.putObj hb5_6 _ (by omega)).c 0 rfl) underlying38 rfl BQ rfl hd6 ⟨ss,hp,?_,((hf9.step hf5 (λk hk e=>by omega)).step hf6 (λk hk e=>by omega)).putObj _ (by omega)⟩
   have:C6 l (D9 q) ss=[]:=by
    cases hh:C6 l (D9 q) ss with
    | nil=>rfl
    | cons a r=>rw [hh,h0] at hhs;cases hhs
   rw [this];rfl
  ·refine ⟨_,_,rfl,hr8,(by intro h;cases h),.inr ⟨rfl,?_⟩⟩
   have fin : ∀{e:Env} (o:Obj),e.get 4=some (.pointer (some ⟨g4,0,none⟩))→e.get 5=some (.pointer (some ⟨g5,0,none⟩))→QX [{ target:=.collected w4.heap.size,args := #[] }] (bodyPostM Fence.wide 2 prog Tryz.f9 λe w' => ∃ss:List St,SsP l ss∧e=.returned (kP (C6 l (D9 q) ss))∧Fr0 w w') .ret 13 e (w8.putObj (w4.heap.size+1) o):=by
    intro e o k4 k5
    obtain ⟨w9,hw9⟩ : ∃w9,w8.putObj (w4.heap.size+1) o=w9:=⟨_,rfl⟩
    rw [hw9]
    have hs9:w9.heap.size=w8.heap.size:=by rw [←hw9];exact World.putObj_size
    have hf9:Fr0 w w9:=by rw [←hw9];exact hf08.putObj _ (by omega)
    have hb49:Blk w9 g4 38 h.cells:=by rw [←hw9];exact hb48.putObj _ (by omega)
    have hb59:Blk w9 g5 4 [.bool true]:=by rw [←hw9];exact hb58.putObj _ (by omega)
    have hd9:w9.heap[w4.heap.size]?=some (.deferred (some [])):=by rw [←hw9];exact (World.putObj_heap_other (by omega)).trans hd8
    refine W6 rfl k4 k5 (Rd.ofBlk (hb49.putObj _ (by omega)) rfl) ((Blk.putObj hb59 _ (by omega)).c 0 rfl) underlying38 rfl BQ rfl hd9 ⟨ss,hp,?_,hf9.putObj _ (by omega)⟩
    cases hh:C6 l (D9 q) ss with
    | nil=>rw [hh,h0] at hhs;cases hhs
    | cons a r=>
     rw [hh,h0] at hhs
     injection hhs with hhs
     rw [hhs];rfl
   exact qx_block_ret (qx_then_ret (fin _ rfl rfl))
end Sf
namespace Sf
end Sf
end Go.Proofs.YtaheakjfkpkefaaGreatDoor
