/- Lemmas. -/
import Derived.Test.YtaheakjfkpkefaaGreatDoorVRnd
import Derived.Test.YtaheakjfkpkefaaGreatDoorVb4
set_option maxHeartbeats 16000000
set_option maxRecDepth 100000
namespace Go.Proofs.YtaheakjfkpkefaaGreatDoor
open Go.RowKit
open Tryz
theorem Fr.putObj {S:Nat→Prop} {w w':World} (h:Fr S w w') {lr:Nat} (o:Obj) (hl:w.heap.size≤lr):Fr S w (w'.putObj lr o):=
 ⟨h.os,h.tape,h.output,by rw [World.putObj_size];exact h.size,λk hk hn=>(World.putObj_heap_other AA).trans (h.block k hk hn)⟩
theorem Mp.putObj {w:World} {g lr:Nat} {L:List (List UInt8 × Value)} (h:Mp w g L) (o:Obj) (hne:g≠lr):Mp (w.putObj lr o) g L:=by
 obtain ⟨es,cl,h1,h2⟩:=h;exact ⟨es,cl,(World.putObj_heap_other hne).trans h1,h2⟩
theorem Blk.putObj {w:World} {g lr:Nat} {t:TypeId} {cs:List Value} (h:Blk w g t cs) (o:Obj) (hne:g≠lr):Blk (w.putObj lr o) g t cs:=(World.putObj_heap_other hne).trans h
theorem jI (A:Option Addr) (n c:Nat) (w:World):Calls prog 49 #[.slice A n c] w λe w'=>
 ∃g,e=.returned (.func (.func 92) #[] #[pg g])∧w.heap.size≤g∧g<w'.heap.size∧Blk w' g 24 [.slice A n c]∧Fr0 w w':=by
 refine sx_enter (vs:=[_]) func49 X ntmps49 X (srg (sxl_does (some 1) (wn_none X) X X (λρ hρ=>KR 24 (.tmp 0) X [.slice A n c] (by rw [hρ _ _ rfl];rfl)) ?_));rintro _ w1 ⟨g,rfl,hg1,hg2,hb,hf⟩;exact AJ X (srg (ya X (CP (xs:=[]) (ys:=[.tmp 1]) X X X) (yb X (gnr (gr1 X ⟨g,X,hg1,hg2,hb,hf⟩)))))
namespace Sf
theorem uE (A:Option Addr) (c lr gb:Nat) (l:List Bd) (J:Nat→World→Prop) (hlen:(l.length:Int)<4611686018427387904)
 (hcell:∀i w,J i w→Cell w.heap gb 0 (.slice A l.length c)) (hrd:∀i w,J i w→Rd w A (l.length*5) (TM l)) (hrec:∀i w,J i w→∃r,w.heap[lr]?=some (.loop r)∧r.params.size=2)
 (hround:∀i x w r,l[i]?=some x→J (i+1) w→w.heap[lr]?=some (.loop r)→RoundIn Fence.wide 2 prog lr r.fn ((r.params.zip [Value.int .i64 (i:Int),x.val].toArray).foldl (λtmps (t,a)=>tmps.setIfInBounds t a) r.tmps) r.assign r.body w
  (λe w'=>e=.returned (.bool true)∧J i w')) (w:World) (h0:J l.length w) :
 Calls prog 92 #[.func (.yield lr) #[] #[],pg gb] w λe w'=>e=.returned (.tuple #[])∧J 0 w':=by
 refine sx_enter (vs:=[_,_]) func92 X ntmps92 X ?_;have c0:=hcell _ _ h0;refine sx_seq (sx_region (sxl_y (wn_none X) X X (BF X X (sc X) (by assumption)) (sxl_y (wn_none X) X X (FM X X (sl X)) (sxl_y (wn_none X) X X (cC X X X (by omega)) (sxl_y (wn_none X) X X (yp X) (sxl_nil (qx_seq (sx_block (sx_loop (e0:=[(3,AC ((l.length:Int)-1)),(0,.func (.yield lr) #[] #[]),(1,pg gb)]) (λe wr m=>∃(j:Nat),e=[(3,AC ((j:Int)-1)),(0,.func (.yield lr) #[] #[]),(1,pg gb)]∧J j wr∧j≤l.length∧m=j) ⟨l.length,X,h0,Nat.le_refl _,X⟩ ⟨X,X,X,trivial⟩ ?_)))))))));rintro _ wr m ⟨j,rfl,hJ,hj,hm⟩
 by_cases hj0:j=0
 ·subst hj0;exact sx_seq (sx_seq (sx_region (sxl_y (wn_none X) X X (yp X) (sxl_y (wn_none X) X X (qD X X X (by omega)) (sxl_nil (qx_seq (sx_false X (sx_exit (qx_then_exit (qx_then_exit (qx_block_hit (qx_ret0 (Or.inr X) X ⟨X,hJ⟩))))))))))))
 ·obtain ⟨i,rfl⟩:∃i,j=i+1:=⟨j-1,by omega⟩
  rw [show (((i+1:Nat):Int)-1)=(i:Int) by omega];have c1:=hcell _ _ hJ;obtain ⟨x,hx⟩:∃x,l[i]?=some x:=⟨_,List.getElem?_eq_getElem (by omega)⟩
  obtain ⟨b,off,rfl,el⟩:=WK (hrd _ _ hJ) hx;obtain ⟨r,hr,hps⟩:=hrec _ _ hJ;refine sx_seq (sx_seq (sx_region (sxl_y (wn_none X) X X (yp X) (sxl_y (wn_none X) X X (qC X X X (by omega)) (sxl_nil (qx_seq (sx_true X (sx_skip (qx_seq (sx_seq (sx_block (sx_seq (sx_region (sxl_y (wn_none X) X X (yp X) (sxl_y (wn_none X) X X (yp X) ?_)))))))))))))));refine sxl_y (wn_none X) X X (BF X X (sc X) (by assumption)) (sxl_y (wn_none X) X X (yp X) (sxl_y (wn_none X) X X (M9 X X X (sl X) (by omega)) (sxl_y (wn_none X) X X (AK X X el.all underlying103 X J0) (sxl_round (some 17) (wn_none X) X X X X X hr (by rw [hps];rfl) (hround i x _ r hx hJ hr) ?_))));rintro _ w2 ⟨rfl,hJ2⟩;exact ⟨_,X,sxl_y (wn_none X) X X (yp X) (sxl_nil (qx_seq (sx_false X (sx_skip (qx_block_normal (qx_seq (sx_region (sxl_y (wn_none X) X X (yp X) (sxl_y (wn_none X) X X (cC X X X (by omega)) (sxl_y (wn_none X) X X (yp X) (sxl_nil (qx_again [(3,AC ((i:Int)-1)),(0,.func (.yield lr) #[] #[]),(1,pg gb)] i ⟨i,X,hJ2,by omega,rfl⟩ (by omega) ⟨X,X,X,trivial⟩))))))))))))⟩
end Sf
def K5 (l:List Bd):List (List UInt8):=l.map (·.name)
def JG : List (List UInt8)→List Bd→Int
 | _,[]=>0
 | seen,x::r=>if (CG x.name&&vOk x.v)=false then 1 else if x.name∈seen then 6 else JG (seen++[x.name]) r
theorem T6 {l:List Bd} {i:Nat} {x:Bd} (hx:l[i]?=some x):K5 (l.take (i+1))=K5 (l.take i)++[x.name]:=by
 unfold K5;rw [List.take_add_one,hx]
 simp
theorem gV {L:List (List UInt8 × Value)} {S:List (List UInt8)} (h:∀k,(CA L k).getD (.bool false)=.bool (decide (k∈S))) (x:List UInt8):∀k,(CA (D2 L x (.bool true)) k).getD (.bool false)=.bool (decide (k∈S++[x])):=λk=>by
 rw [EL]
 by_cases e:k=x
 ·simp [e]
 ·rw [if_neg e,h k];simp [e]
theorem jF : (prog.info? 4).map (·.zero)=some (some (.bool false)):=by kernel_rfl
theorem fC (A:Option Addr) (c:Nat) (l:List Bd) (w:World) (hl:BdOk l) (hr:Rd w A (l.length*5) (TM l)) (hT:Laid w utfL) :
 Calls prog 48 #[.slice A l.length c] w (BI w (AC (JG [] l))):=by
 have hlen:=hl.len;refine sx_enter (vs:=[_]) func48 X ntmps48 X (srg (AJ X (srg (sxl_does (some 6) (wn_none X) X X (λρ hρ=>QJ X) ?_))));rintro _ w1 ⟨mp,rfl,hmp1,hmp2,hM0,hf0⟩;refine AJ X (sx_seq (AE X (DF X X (AJ X (sx_block (sx_loop (e0:=[(9,AC 0),(8,AC (l.length:Int)),(7,.slice A l.length c),(3,.map (some mp))]) (λe wr m=>∃(i:Nat) (L:List (List UInt8 × Value)),e=[(9,AC (i:Int)),(8,AC (l.length:Int)),(7,.slice A l.length c),(3,.map (some mp))]∧Fr0 w wr∧Mp wr mp L∧(∀k,(CA L k).getD (.bool false)=.bool (decide (k∈K5 (l.take i))))∧i≤l.length∧JG [] l=JG (K5 (l.take i)) (l.drop i)∧m=l.length-i) ⟨0,[],X,hf0,hM0,λk=>by simp [CA,K5],Nat.zero_le _,rfl,rfl⟩ ⟨X,X,X,X,trivial⟩ ?_))))));rintro _ wr _ ⟨i,L,rfl,hf,hM,hseen,hi,hcb,rfl⟩
 by_cases hlt:i<l.length
 ·obtain ⟨x,hx⟩:∃x,l[i]?=some x:=⟨_,List.getElem?_eq_getElem hlt⟩
  have hxl:x∈l:=List.mem_of_getElem? hx;obtain ⟨b,off,rfl,el⟩:=WK (hr.fr0 hf) hx;rw [X4 hx,JG] at hcb
  refine srg (ya X (RM X X X AA) (nq (sx_seq (sx_true X (sx_skip (qx_seq (sx_seq (sx_block (srg (ya X (M9 X X X (sl X) AA) (ya X (AK X X el.all underlying103 X J0) (sxl_does (some 5) (wn_none X) X X (λρ hρ=>C7 103 X _ _ QS X) ?_))))))))))));rintro _ w2 ⟨g,rfl,hg1,hg2,hb,hf2⟩;refine sxl_does none (wn_none X) X X (λρ hρ=>BO 103 (.tmp 5) (.tmp 12) X g 0 103 _ x.cells (hρ _ _ X) (hρ _ _ X) hb J0 (by show 0+5≤5;omega) (Bd.cells_one _)) ?_;rintro _ w3 ⟨rfl,hb3,hf3⟩;rw [FZ zeroBd.cells x.cells rfl] at hb3
  have hwr:=hf.size;have hfa:Fr0 wr w3:=hf2.step hf3 (λk hk e=>by omega);have hf':Fr0 w w3:=hf.trans hfa;have hM':=hM.fr hfa (λhh=>hh);have el3:=N5 hb3;have e0:=el3.name;refine nq (sx_seq (sx_block (AE X (yl X X (by assumption) (sxl_call (some 16) (by first|exact wn_none rfl|exact wn_on rfl rfl rfl) X X (AG X X call61) (DU x.name _ (hl.name x hxl)) ?_)))));rintro _ w4 ⟨rfl,hf4⟩;refine ⟨_,X,?_⟩;have hf4':=hf'.trans hf4
  cases hn:CG x.name with
  | false=>
   have hres:JG [] l=1:=by rw [hcb,hn];rfl
   refine AV X X ?_;iterate 4 refine yo X ?_
   refine yb X (AJ X (sx_true X (AE X (gnr (qx_block_ret (qx_then_ret (qx_block_ret (qx_then_ret (qx_then_ret ?_)))))))));exact qx_block_ret (qx_then_ret (gr1 X ⟨by rw [hres],hf4'⟩))
  | true=>
   have el4:=N5 (hb3.fr0 hf4);refine AV X X (gyq X (yd X (AK X X el4.val underlying100 X EQ) (sxl_call (some 21) (by first|exact wn_none rfl|exact wn_on rfl rfl rfl) X X (AG X X call59) (EJ x.v _ (hl.text x hxl) (hT.fr hf4')) ?_)));rintro _ w5 ⟨rfl,hf5⟩;refine ⟨_,X,?_⟩;have hf5':=hf4'.trans hf5;have hM5:=(hM'.fr hf4 (λhh=>hh)).fr hf5 (λhh=>hh);have el5:=N5 ((hb3.fr0 hf4).fr0 hf5);have e5:=el5.name
   cases hv:vOk x.v with
   | false=>
    have hres:JG [] l=1:=by rw [hcb,hn,hv];rfl
    rw [TZ hv];refine yd X (VY X X X AA) (yb X (AJ X (sx_true X (AE X (gnr (qx_block_ret (qx_then_ret (qx_block_ret (qx_then_ret ?_)))))))));exact qx_then_ret (qx_block_ret (qx_then_ret (gr1 X ⟨by rw [hres],hf5'⟩)))
   | true=>
    rw [hn,hv] at hcb
    simp only [Bool.and_self,Bool.true_eq_false,if_false] at hcb
    rw [eQ hv];refine yd X (VZ X X X AA) (yb X (AJ X (sx_false X (AE X (yb X (yl X X (by assumption) (ya X (OR (ok:=false) X X X underlying92 underlying9 jF hM5) (AJ X ?_))))))));rw [show (if (false:Bool)=true then Value.tuple #[(CA L x.name).getD (.bool false),.bool (CA L x.name).isSome] else (CA L x.name).getD (.bool false))=.bool (decide (x.name∈K5 (l.take i))) from hseen x.name]
    by_cases hin:x.name∈K5 (l.take i)
    ·rw [show decide (x.name∈K5 (l.take i))=true by simp [hin]];rw [if_pos hin] at hcb
     exact sx_true X (AE X (gnr (qx_block_ret (qx_then_ret (qx_block_ret (qx_then_ret (qx_then_ret (qx_block_ret (qx_then_ret (gr1 X ⟨by rw [hcb],hf5'⟩))))))))))
    ·rw [show decide (x.name∈K5 (l.take i))=false by simp [hin]];rw [if_neg hin] at hcb
     refine sx_false X (sx_skip (qx_block_normal (qx_seq (sx_region (AV X X (yl X X (by assumption) (sxl_does none (wn_none X) X X (λρ hρ=>FD (v:=.bool true) X (hρ _ _ X) (hρ _ _ X) (hρ _ _ X) underlying92 underlying9 hM5) ?_)))))));rintro _ w6 ⟨rfl,hf6,hM6⟩;exact sxl_nil (qx_block_normal (qx_seq (sx_region (BV X X (yb X (sxl_nil (fag ⟨i+1,_,X,hf5'.step hf6 (λk hk e=>by omega),hM6,by rw [T6 hx];exact gV hseen x.name,by omega,by rw [hcb,T6 hx],rfl⟩)))))))
 ·obtain rfl:i=l.length:=by omega
  rw [List.drop_length] at hcb
  refine srg (ya X (RN X X X AA) (nq (sx_seq (sx_false X (sx_exit (qx_then_exit (qx_then_exit (qx_block_hit (qx_seq (AE X (sxl_nil ?_)))))))))));exact qx_seq (sx_ret (gr1 X ⟨by rw [hcb];rfl,hf⟩))
def HY : List Bd→List (List UInt8 × Value)
 | []=>[]
 | x::r=>D2 (HY r) x.name (.int .u8 (x.v.kind.toNat:Int))
theorem T9 (k:List UInt8):∀l:List Bd,CA (HY l) k=(ZW l k).map λv=>.int .u8 (v.kind.toNat:Int)
 | []=>rfl
 | x::r=>by
  rw [HY,EL,ZW,T9 k r]
  by_cases h:x.name=k
  ·rw [if_pos h,if_pos h.symm];rfl
  ·rw [if_neg h,if_neg (λe=>h e.symm)]
def JV (vars:List Bd):List Bd→Int
 | []=>0
 | x::r=>match ZW vars x.name with
  | none=>100
  | some v=>if v.kind=x.v.kind then JV vars r else 90
def OH (vars patch:List Bd):Int:=if JG [] patch=0 then JV vars patch else JG [] patch
def bC (id nm:List UInt8) (A:Option Addr) (n c:Nat) (vE vF:Value):List Value:=[str id,str nm,.slice A n c,vE,vF]
theorem PW {P:Program} {e:Env} {w:World} {o:Oper} {t kt el:TypeId} {x i:Operand} {g:Nat} {k:List UInt8} {L:List (List UInt8 × Value)} {z:Value} {r:Option Value} (ho:o.op=.lookup t x i true) (hx:ev e x=some (.map (some g))) (hi:ev e i=some (str k)) (hu:P.underlying t=some (.map kt el)) (hd:P.underlying kt=some .string)
 (hz:(P.info? el).map (·.zero)=some (some z)) (hM:Mp w g L) (hr:CA L k=r):Y P e o w (.tuple #[r.getD z,.bool r.isSome]):=by
 subst hr;exact OR (ok:=true) ho hx hi hu hd hz hM
theorem W7 : (prog.info? 5).map (·.zero)=some (some (.int .u8 0)):=by kernel_rfl
theorem bF : (prog.info? 126).map (·.zero)=some (some (.map none)):=by kernel_rfl
theorem bG {a b:UInt8} (h:(a.toNat:Int)=b.toNat):a=b:=UInt8.toNat_inj.1 AA
theorem Fr.none_of {w w' w'':World} {m:Nat} (h:Fr0 w w') (h':Fr (λk=>k=m) w' w'') (hm:w.heap.size≤m):Fr0 w w'':=h.step h' (λk hk e=>by omega)
namespace Sf
structure JF (w0:World) (mp:Nat) (l:List Bd) (r:Loop) (i:Nat) (w':World):Prop where
 fr:Fr (λk=>k=mp) w0 w'
 mp:Mp w' mp (HY (l.drop i))
 rc:w'.heap[w0.heap.size+1]?=some (.loop r)
 df:w'.heap[w0.heap.size]?=some (.deferred (some []))
theorem fits_ok (id nm:List UInt8) (A B:Option Addr) (c cp:Nat) (vE vF:Value) (l p:List Bd) (w:World) (hl:BdOk l) (hp:BdOk p) (hrl:Rd w A (l.length*5) (TM l)) (hrp:Rd w B (p.length*5) (TM p)) (hT:Laid w utfL) :
 Calls prog 20 #[.agg (bC id nm A l.length c vE vF).toArray,.slice B p.length cp] w (BI w (AC (OH l p))):=by
 have hlen:=hl.len;have hplen:=hp.len;refine sx_enter (vs:=[_,_]) func20 X ntmps20 X (sx_seq (sx_region (sxl_does (some 2) (wn_none X) X X (λρ hρ=>KR 62 (.tmp 0) X (bC id nm A l.length c vE vF) (by rw [hρ _ _ rfl];rfl)) ?_)));rintro _ w1 ⟨g2,rfl,hg2a,hg2b,hb2,hf1⟩;refine sxl_y (wn_none X) X X (yp X) (sxl_nil (qx_seq (sx_seq (sx_seq (sx_region (sxl_y (wn_none X) X X (yp X) (sxl_call (some 14) (by first|exact wn_none rfl|exact wn_on rfl rfl rfl) X X (AG X X call48) (fC B cp p _ hp (hrp.fr0 hf1) (hT.fr hf1)) ?_)))))));rintro _ w2 ⟨rfl,hf2⟩;refine ⟨_,X,?_⟩;have hf2':=hf1.trans hf2
 by_cases he:JG [] p=0
 case neg=>
  have hres:OH l p=JG [] p:=by unfold OH;rw [if_neg he]
  refine sxl_y (wn_none X) X X (yp X) (sxl_nil (qx_seq (sx_seq (sx_region (sxl_y (wn_none X) X X (yp X) (sxl_y (wn_none X) X X (VY X X X (by omega)) (sxl_nil (qx_seq (sx_true X (sx_seq (sx_region (sxl_y (wn_none X) X X (yp X) (sxl_y (wn_none X) X X (yp X) (sxl_nil (qx_seq ?_)))))))))))))));exact sx_ret (qx_then_ret (qx_ret1 X X ⟨by rw [hres],hf2'⟩))
 have hres:OH l p=JV l p:=by unfold OH;rw [if_pos he]
 refine sxl_y (wn_none X) X X (yp X) (sxl_nil (qx_seq (sx_seq (sx_region (sxl_y (wn_none X) X X (yp X) (sxl_y (wn_none X) X X (VZ X X X (by omega)) (sxl_nil (qx_seq (sx_false X (sx_skip (qx_seq (sx_seq (sx_region (sxl_does (some 18) (wn_none X) X X (λρ hρ=>QJ X) ?_))))))))))))));rintro _ w3 ⟨mp,rfl,hmp1,hmp2,hM0,hf3⟩;refine sxl_does (some 6) (wn_none X) X X (λρ hρ=>C7 126 X _ [.map none] bF X) ?_;rintro _ w4 ⟨g6,rfl,hg6a,hg6b,hb6,hf4⟩;refine sxl_does none (wn_none X) X X (λρ hρ=>CU 126 (.tmp 6) (.tmp 18) X g6 0 126 _ (.map (some mp)) (hρ _ _ X) (hρ _ _ X) X hb6 (by kernel_rfl) (by decide) X) ?_;rintro _ w5 ⟨rfl,hb6',hf5⟩;have hne6:g6≠mp:=by omega
 have hwm:w.heap.size≤mp:=by have:=hf2'.size;omega
 have hf5':Fr0 w w5:=((hf2'.trans hf3).trans hf4).step hf5 (λk hk e=>by have:=hf2'.size;have:=hf3.size;omega);have hM5:Mp w5 mp []:=(hM0.fr hf4 (λhh=>hh)).fr hf5 (λe=>hne6 e.symm);have hs1:=hf1.size;have hs2:=hf2.size;have hs3:=hf3.size;have hs4:=hf4.size;have hs5:=hf5.size;have hb2':Blk w5 g2 62 (bC id nm A l.length c vE vF):=(((hb2.fr hf2 (λhh=>hh)).fr hf3 (λhh=>hh)).fr hf4 (λhh=>hh)).fr hf5 (λe=>by omega);have c2:Cell w5.heap g2 2 (.slice A l.length c):=hb2'.c 2 X;refine sxl_nil (qx_seq (sx_seq (sx_seq (sx_region (sxl_y (wn_none X) X X (yp X) (sxl_y (wn_none X) X X (BF X X (sc X) (by assumption)) (sxl_call (some 21) (by first|exact wn_none rfl|exact wn_on rfl rfl rfl) X X (AG X X call49) (jI A l.length c _) ?_)))))));rintro _ w6 ⟨gb,rfl,hgb1,hgb2,hbb,hf6⟩;refine ⟨_,X,?_⟩;have hf6':=hf5'.trans hf6;have hs6:=hf6.size;have hb6_6:Blk w6 g6 126 [.map (some mp)]:=Blk.fr hb6' hf6 (λhh=>hh);have hM6:Mp w6 mp []:=hM5.fr hf6 (λhh=>hh);refine sxl_nil (qx_seq (sx_block (l5 X call92 λfn tm rc htm hget hrc=>?_)));have h6:tm[6]?=some (pg g6):=hget 6 _ X;have hrdJ:∀i w',JF w6 mp l rc i w'→Fr0 w w':=λi w' hJ=>Fr.none_of hf6' hJ.fr hwm
 refine (uE A c (w6.heap.size+1) gb l (JF w6 mp l rc) hlen (λi w' hJ=>(hbb.fr hJ.fr (by omega)).c 0 X) (λi w' hJ=>hrl.fr0 (hrdJ i w' hJ)) (λi w' hJ=>⟨rc,hJ.rc,by rw [hrc];rfl⟩) ?_ _ ?_).mono ?_
 ·intro i x w' r hx hJ hr;have hrr:r=rc:=by have:=hJ.rc;rw [hr] at this;injection this with this;injection this
  rw [hrr];refine roundIn_of_wpIn (F:=Fence.wide) trivial ?_
  have hfold:((rc.params.zip [Value.int .i64 (i:Int),x.val].toArray).foldl (λtmps (t,a)=>tmps.setIfInBounds t a) rc.tmps)=(tm.setIfInBounds 22 (AC (i:Int))).setIfInBounds 23 x.val:=by
   rw [hrc,←Array.foldl_toList,Array.toList_zip];rfl
  rw [hfold]
  have a0:Agr [] 53 [(6,pg g6)] { tmps:=tm,defers:=[] }:=⟨htm,X,λk v hk=>by
   unfold Env.get at hk
   cases hb:Nat.beq 6 k with
   | true=>
    rw [hb] at hk
    injection hk with hk
    have:=Nat.eq_of_beq_eq_true hb
    subst this;rw [←hk];exact h6
   | false=>rw [hb] at hk;cases hk⟩
  have hs':=hJ.fr.size;have hasg:rc.assign=(SR w6 fn tm rc.params rc.assign rc.body).assign:=X;have hcode:=hrc;rw [show rc.assign=_ from congrArg Loop.assign hrc,show rc.body=_ from congrArg Loop.body hrc];simp only [SR];refine Sx.run (rd:=some (w6.heap.size+1)) (D:=[]) (n:=53) (e:=[(23,x.val),(22,AC (i:Int)),(6,pg g6)]) ?_ _ ((a0.put (d:=22) (by omega) (AC (i:Int))).put (d:=23) (by omega) x.val);refine sx_region (sxl_does (some 8) (wn_none X) X X (λρ hρ=>C7 103 X _ _ QS X) ?_);rintro _ v1 ⟨g8,rfl,h8a,h8b,hb8,hf8⟩;refine sxl_does none (wn_none X) X X (λρ hρ=>BO 103 (.tmp 8) (.tmp 23) X g8 0 103 _ x.cells (hρ _ _ X) (hρ _ _ X) hb8 J0 (by show 0+5≤5;omega) (Bd.cells_one _)) ?_;rintro _ v2 ⟨rfl,hb8',hf8'⟩;rw [FZ zeroBd.cells x.cells rfl] at hb8'
  have hfa:Fr0 w' v2:=hf8.step hf8' (λk hk e=>by omega);have hrc2:v2.heap[w6.heap.size+1]?=some (.loop rc):=(hfa.block _ (Array.getElem?_eq_some_iff.1 hJ.rc).1 (λhh=>hh)).trans hJ.rc;have hrlt:=(Array.getElem?_eq_some_iff.1 hJ.rc).1;have hsa:=hfa.size;have hready:rc.state=.ready:=by rw [hrc];rfl
  refine sxl_nil (.mk λa1 ha1=>⟨_,run_beginRound hrc2 hready,Sx.run (rd:=some (w6.heap.size+1)) ?_ a1 ha1⟩);obtain ⟨v3,hv3⟩:∃v3,v2.putObj (w6.heap.size+1) (.loop { rc with state:=.busy })=v3:=⟨_,X⟩
  rw [hv3];have hfr2:Fr (λk=>k=mp) w6 v2:=hJ.fr.step hfa (λk hk hh=>hh.elim);have hfr3:Fr (λk=>k=mp) w6 v3:=by rw [←hv3];exact hfr2.putObj _ (by omega)
  have hM3:Mp v3 mp (HY (l.drop (i+1))):=by rw [←hv3];exact (hJ.mp.fr hfa (λhh=>hh)).putObj _ (by omega)
  have hb8_3:Blk v3 g8 103 x.cells:=by rw [←hv3];exact hb8'.putObj _ (by omega)
  have hs3':v3.heap.size=v2.heap.size:=by rw [←hv3];exact World.putObj_size
  have hrc3:v3.heap[w6.heap.size+1]?=some (.loop { rc with state:=.busy }):=by rw [←hv3];exact World.putObj_heap_same (by omega)
  have hdf3:v3.heap[w6.heap.size]?=some (.deferred (some [])):=by rw [←hv3];exact (World.putObj_heap_other (by omega)).trans ((hfa.block _ (by omega) (λhh=>hh)).trans hJ.df)
  have c6:Cell v3.heap g6 0 (.map (some mp)):=(hb6_6.fr hfr3 hne6).c 0 X;have el:=N5 hb8_3;have e0:=el.name;have e1:=el.kind;refine sx_block (sx_region (sxl_y (wn_none X) X X (BF X X (sc X) (by assumption)) (sxl_y (wn_none X) X X (yp X) (sxl_y (wn_none X) X X (BF X X (sc X) (by assumption)) (sxl_y (wn_none X) X X (yp X) (sxl_y (wn_none X) X X (yp X) (sxl_y (wn_none X) X X (BF X X (sc X) (by assumption)) (sxl_does none (wn_none X) X X (λρ hρ=>FD (v:=.int .u8 (x.v.kind.toNat:Int)) X (hρ _ _ X) (hρ _ _ X) (hρ _ _ X) underlying126 underlying9 hM3) ?_))))))));rintro _ v4 ⟨rfl,hf9,hM4⟩;have hs9:=hf9.size;have hrc4:v4.heap[w6.heap.size+1]?=some (.loop { rc with state:=.busy }):=(hf9.block _ (by omega) (by omega)).trans hrc3;have hdf4:v4.heap[w6.heap.size]?=some (.deferred (some [])):=(hf9.block _ (by omega) (by omega)).trans hdf3;refine sxl_nil (qx_block_normal (.mk λa2 _=>⟨_,_,run_endRound none hrc4,X,?_⟩));have hback:({ ({ rc with state:=LoopState.busy }:Loop) with state:=if (none:Option Code).isNone then LoopState.ready else LoopState.done,pending:=none }:Loop)=rc:=by rw [hrc];rfl
  rw [hback];refine ⟨(hfr3.step hf9 (λk hk e=>e)).putObj _ (by omega),?_,World.putObj_heap_same (by omega),(World.putObj_heap_other (by omega)).trans hdf4⟩;rw [X4 hx];exact hM4.putObj _ (by omega)
 ·have e1:(w6.alloc (.deferred (some []))).heap.size=w6.heap.size+1:=World.size_alloc _ _;refine ⟨(Fr.refl.alloc _).alloc _,?_,?_,?_⟩
  ·rw [List.drop_length];exact hM6.fr ((Fr.refl.alloc _).alloc _:Fr0 w6 _) (λhh=>hh)
  ·have:=World.alloc_heap_new (w6.alloc (.deferred (some []))) (.loop rc)
   rw [e1] at this;exact this
  ·rw [QT _ _ (by rw [e1];omega)];exact World.alloc_heap_new _ _
 rintro _ w8 ⟨rfl,hJ⟩;have hs8:=hJ.fr.size;have hrlt:=(Array.getElem?_eq_some_iff.1 hJ.rc).1;refine ⟨_,rc,X,hJ.rc,(by rw [hrc];intro h;cases h),(by rw [hrc];rfl),?_⟩;obtain ⟨w9,hw9⟩:∃w9,w8.putObj (w6.heap.size+1) (.loop { rc with state:=.exhausted })=w9:=⟨_,X⟩
 rw [hw9];have hf9:Fr0 w w9:=by rw [←hw9];exact (hrdJ _ _ hJ).putObj _ (by omega)
 have hM9:Mp w9 mp (HY l):=by rw [←hw9];exact hJ.mp.putObj _ (by omega)
 have hb6_9:Blk w9 g6 126 [.map (some mp)]:=by rw [←hw9];exact (hb6_6.fr hJ.fr hne6).putObj _ (by omega)
 have hdf9:w9.heap[w6.heap.size]?=some (.deferred (some [])):=by rw [←hw9];exact (World.putObj_heap_other (by omega)).trans hJ.df
 refine qx_block_normal (qx_seq (sx_seq (sx_seq (sx_region (sxl_y (wn_none X) X X (yp X) (sxl_y (wn_none X) X X (FM X X (sl X)) (sxl_y (wn_none X) X X (yp X) (sxl_nil (qx_seq (sx_block (sx_loop (e0:=[(32,AC 0),(31,AC (p.length:Int)),(30,.slice B p.length cp),(6,pg g6)]) (λe wr m=>∃(i:Nat),e=[(32,AC (i:Int)),(31,AC (p.length:Int)),(30,.slice B p.length cp),(6,pg g6)]∧Fr0 w9 wr∧i≤p.length∧JV l p=JV l (p.drop i)∧m=p.length-i) ⟨0,X,Fr.refl,Nat.zero_le _,X,X⟩ ⟨X,X,X,X,trivial⟩ ?_)))))))))));rintro _ wr _ ⟨i,rfl,hfr,hi,hfit,rfl⟩;have hlt9:=(Array.getElem?_eq_some_iff.1 hdf9).1;have hdfr:wr.heap[w6.heap.size]?=some (.deferred (some [])):=(hfr.block _ hlt9 (λhh=>hh)).trans hdf9
 have done:∀wx,Fr0 wr wx→Fr0 w (wx.putObj w6.heap.size (.deferred none))∧wx.heap[w6.heap.size]?=some (.deferred (some [])):=λwx hx=>
  ⟨((hf9.trans hfr).trans hx).putObj _ (by omega),(hx.block _ (Array.getElem?_eq_some_iff.1 hdfr).1 (λhh=>hh)).trans hdfr⟩
 by_cases hlt:i<p.length
 ·obtain ⟨x,hx⟩:∃x,p[i]?=some x:=⟨_,List.getElem?_eq_getElem hlt⟩
  obtain ⟨b,off,rfl,el⟩:=WK (hrp.fr0 (hf9.trans hfr)) hx;rw [X4 hx,JV] at hfit
  refine sx_seq (sx_region (sxl_y (wn_none X) X X (RM X X X (by omega)) (sxl_nil (qx_seq (sx_seq (sx_true X (sx_skip (qx_seq (sx_seq (sx_block (sx_seq (sx_region (sxl_y (wn_none X) X X (M9 X X X (sl X) (by omega)) (sxl_y (wn_none X) X X (AK X X el.all underlying103 X J0) (sxl_does (some 10) (wn_none X) X X (λρ hρ=>C7 103 X _ _ QS X) ?_)))))))))))))));rintro _ v1 ⟨g10,rfl,h8a,h8b,hb8,hf8⟩;refine sxl_does none (wn_none X) X X (λρ hρ=>BO 103 (.tmp 10) (.tmp 35) X g10 0 103 _ x.cells (hρ _ _ X) (hρ _ _ X) hb8 J0 (by show 0+5≤5;omega) (Bd.cells_one _)) ?_;rintro _ v2 ⟨rfl,hb8',hf8'⟩;rw [FZ zeroBd.cells x.cells rfl] at hb8'
  have hfa:Fr0 wr v2:=hf8.step hf8' (λk hk e=>by omega);obtain ⟨hdone,hdfx⟩:=done v2 hfa;have hM2:Mp v2 mp (HY l):=(hM9.fr hfr (λhh=>hh)).fr hfa (λhh=>hh);have c6:Cell v2.heap g6 0 (.map (some mp)):=(Blk.fr (Blk.fr hb6_9 hfr (λhh=>hh)) hfa (λhh=>hh)).c 0 X;have el2:=N5 hb8';have e0:=el2.name;have e1:=el2.kind;have hmg:=T9 x.name l
  cases hfb:ZW l x.name with
  | none=>
   rw [hfb] at hfit hmg
   refine sxl_nil (qx_seq (sx_seq (sx_region (sxl_y (wn_none X) X X (BF X X (sc X) (by assumption)) (sxl_y (wn_none X) X X (yp X) (sxl_y (wn_none X) X X (BF X X (sc X) (by assumption)) (sxl_y (wn_none X) X X (PW X X X underlying126 underlying9 W7 hM2 hmg) ?_)))))));iterate 5 refine sxl_y (wn_none X) X X (yp X) ?_
   refine sxl_nil (qx_seq (sx_block (sx_seq (sx_region (sxl_y (wn_none X) X X (yp X) (sxl_y (wn_none X) X X (yp X) (sxl_y (wn_none X) X X (yp X) (sxl_nil (qx_seq (sx_true X (sx_seq (sx_region (sxl_y (wn_none X) X X (yp X) (sxl_nil (qx_seq ?_)))))))))))))));exact sx_ret (qx_block_ret (qx_block_ret (qx_then_ret (qx_then_ret (qx_block_ret (qx_then_ret (RQ X X hdfx ⟨by rw [hres,hfit],hdone⟩)))))))
  | some u=>
   rw [hfb] at hfit hmg
   have hfit:JV l p=if u.kind=x.v.kind then JV l (p.drop (i+1)) else 90:=hfit
   by_cases hk:u.kind=x.v.kind
   ·have hk':(u.kind.toNat:Int)=x.v.kind.toNat:=by rw [hk]
    rw [if_pos hk] at hfit
    refine sxl_nil (qx_seq (sx_seq (sx_region (sxl_y (wn_none X) X X (BF X X (sc X) (by assumption)) (sxl_y (wn_none X) X X (yp X) (sxl_y (wn_none X) X X (BF X X (sc X) (by assumption)) (sxl_y (wn_none X) X X (PW X X X underlying126 underlying9 W7 hM2 hmg) ?_)))))));iterate 5 refine sxl_y (wn_none X) X X (yp X) ?_
    refine sxl_nil (qx_seq (sx_block (sx_seq (sx_region (sxl_y (wn_none X) X X (yp X) (sxl_y (wn_none X) X X (yp X) (sxl_y (wn_none X) X X (yp X) (sxl_nil (qx_seq (sx_false X (sx_seq (sx_region (sxl_y (wn_none X) X X (yp X) (sxl_y (wn_none X) X X (yp X) (sxl_y (wn_none X) X X (yp X) ?_)))))))))))))));exact sxl_y (wn_none X) X X (BF X X (sc X) (by assumption)) (sxl_y (wn_none X) X X (VZ X X X (by omega)) (sxl_y (wn_none X) X X (yp X) (sxl_nil (qx_seq (sx_false X (sx_skip (qx_block_normal (qx_block_normal (qx_seq (sx_region (sxl_y (wn_none X) X X (GE X X X (by omega)) (sxl_y (wn_none X) X X (yp X) (sxl_nil (qx_again [(32,AC ((i+1:Nat):Int)),(31,AC (p.length:Int)),(30,.slice (some ⟨b,off,none⟩) p.length cp),(6,pg g6)] (p.length-(i+1)) ⟨i+1,X,hfr.trans hfa,by omega,hfit,rfl⟩ (by omega) ⟨X,X,X,X,trivial⟩))))))))))))))
   ·have hk':(u.kind.toNat:Int)≠x.v.kind.toNat:=λe=>hk (bG e)
    rw [if_neg hk] at hfit
    refine sxl_nil (qx_seq (sx_seq (sx_region (sxl_y (wn_none X) X X (BF X X (sc X) (by assumption)) (sxl_y (wn_none X) X X (yp X) (sxl_y (wn_none X) X X (BF X X (sc X) (by assumption)) (sxl_y (wn_none X) X X (PW X X X underlying126 underlying9 W7 hM2 hmg) ?_)))))));iterate 5 refine sxl_y (wn_none X) X X (yp X) ?_
    refine sxl_nil (qx_seq (sx_block (sx_seq (sx_region (sxl_y (wn_none X) X X (yp X) (sxl_y (wn_none X) X X (yp X) (sxl_y (wn_none X) X X (yp X) (sxl_nil (qx_seq (sx_false X (sx_seq (sx_region (sxl_y (wn_none X) X X (yp X) (sxl_y (wn_none X) X X (yp X) (sxl_y (wn_none X) X X (yp X) ?_)))))))))))))));refine sxl_y (wn_none X) X X (BF X X (sc X) (by assumption)) (sxl_y (wn_none X) X X (VY X X X (by omega)) (sxl_y (wn_none X) X X (yp X) (sxl_nil (qx_seq (sx_true X (sx_seq (sx_region (sxl_y (wn_none X) X X (yp X) (sxl_nil (qx_seq (sx_ret (qx_block_ret (qx_block_ret (qx_then_ret (qx_then_ret ?_)))))))))))))));exact qx_block_ret (qx_then_ret (RQ X X hdfx ⟨by rw [hres,hfit],hdone⟩))
 ·obtain rfl:i=p.length:=by omega
  rw [List.drop_length] at hfit
  obtain ⟨hdone,hdfx⟩:=done wr Fr.refl;refine sx_seq (sx_region (sxl_y (wn_none X) X X (RN X X X (by omega)) (sxl_nil (qx_seq (sx_seq (sx_false X (sx_exit (qx_then_exit (qx_then_exit (qx_block_hit (qx_seq (sx_seq (sx_region (sxl_y (wn_none X) X X (yp X) (sxl_nil ?_)))))))))))))));exact qx_seq (sx_ret (RQ X X hdfx ⟨by rw [hres,hfit];rfl,hdone⟩))
end Sf
end Go.Proofs.YtaheakjfkpkefaaGreatDoor
