/- Lemmas that the last text rests on. Condition: each says its own. -/
import Derived.Test.YtaheakjfkpkefaaGreatDoorYMl13
set_option maxHeartbeats 16000000
set_option maxRecDepth 100000
namespace Go.Proofs.YtaheakjfkpkefaaGreatDoor
open Go.RowKit
open Tryz
theorem TC {P:Program} {e:Env} {w:World} {n:Nat} {fn:Func} {R:Ending→World→Prop} {t ty g m u u2:Nat} {v v2:Value} {d:TypeDesc} {xs:List Value} (hr:fn.results = #[.tmp u,.cell t ty,.tmp u2]) (hv:e.get t=some (pg g)) (hrd:Rd w (some ⟨g,0,none⟩) m xs) (hu:P.underlying ty=some d) (hd:d.isRow=true) (hi:(P.info? ty).map (·.size)=some m)
 (hv':e.get u=some v) (hv2:e.get u2=some v2) (h:R (.returned (.tuple #[v,.agg xs.toArray,v2])) w):QX (bodyPost P fn R) .ret n e w:=.mk λa ha=>by
 have hc:w.rangeAt g 0 xs:=λj v hv=>by
  have hj:0<m:=by have:=(List.getElem?_eq_some_iff.1 hv).1;have:=hrd.1;omega
  obtain ⟨b',off',e,hc⟩:=hrd.2 hj
  injection e with e;injection e with e1 e2 _;subst e1;subst e2
  exact hc j v hv
 have hrun:=run_loadVar_mid (P:=P) w g 0 ty xs d hc hu hd (by rw [hrd.1];exact hi)
 have:(results fn a.tmps).run P w=.ok (.tuple #[v,.agg xs.toArray,v2]) w:=by simp [results,hr,ha.get t _ hv,ha.get u _ hv',ha.get u2 _ hv2,asAddr,hrun]
 exact ⟨ha.defers,_,this,h⟩
structure Mqs (w:World) (A:Option Addr) (l:List Mq):Prop where
 rd:Rd w A (l.length * 4) (AB Mq.cells l)
 ok : ∀x ∈ l,MqOk w x
theorem Mq.len (x:Mq):x.cells.length=4:=rfl
theorem Mq.cells_one (x:Mq) : ∀u ∈ x.cells,u.oneCell'=true:=BG rfl
theorem Mqs.fr0 {w w':World} {A:Option Addr} {l:List Mq} (h:Mqs w A l) (hf:Fr0 w w'):Mqs w' A l:=⟨h.rd.fr0 hf,λx hx=>(h.ok x hx).fr0 hf⟩
theorem j4 {w:World} {ms:List Mq} {q:Mq} (h : ∀x ∈ ms,MqOk w x) (hq:MqOk w q) : ∀x ∈ ms++[q],MqOk w x:=λx hx=>by
 rcases List.mem_append.1 hx with h1 | h1
 ·exact h x h1
 ·rw [List.mem_singleton.1 h1];exact hq
def EH (l:List Pa) (ss:List St):List Mq→Nat→Option (Nat × Ht)
 | [],_=>none
 | q::r,i=>match (C6 l (D9 q) ss).head? with
  | some h=>some (i,h)
  | none=>EH l ss r (i+1)
def pT : Option (Nat × Ht)→Value
 | none=>.tuple #[.int .i64 0,.agg zeroHt.cells.toArray,.bool false]
 | some (i,h)=>.tuple #[.int .i64 ((i:Nat):Int),.agg h.cells.toArray,.bool true]
theorem KA (l:List Pa) (ss:List St) (q:Mq) : ∀(ms:List Mq) (i:Nat),EH l ss (ms++[q]) i=(EH l ss ms i).or ((C6 l (D9 q) ss).head?.map λh=>(i+ms.length,h))
 | [],i=>by
  show (match (C6 l (D9 q) ss).head? with | some h=>some (i,h) | none=>none)=_
  cases (C6 l (D9 q) ss).head?<;>rfl
 | x::r,i=>by
  rw [List.cons_append,EH,EH]
  cases (C6 l (D9 x) ss).head? with
  | some h=>rfl
  | none=>
   show EH l ss (r++[q]) (i+1)=_
   rw [KA l ss q r (i+1),List.length_cons,show i+1+r.length=i+(r.length+1) by omega]
theorem nV {l:List Pa} {ss:List St} {ms:List Mq} {i:Nat} {q:Mq} (h:EH l ss (ms.take i) 0=none) (hq:ms[i]?=some q) (hk:(C6 l (D9 q) ss).head?.isSome=false):EH l ss (ms.take (i+1)) 0=none:=by
 rw [AJ hq,KA,h]
 cases hh:(C6 l (D9 q) ss).head? with
 | none=>rfl
 | some a=>rw [hh] at hk;cases hk
theorem RG {l:List Pa} {ss:List St} : ∀{ms:List Mq} {i j:Nat} {v:Nat × Ht},EH l ss (ms.take i) j=some v→EH l ss ms j=some v
 | [],_,_,_,h=>by rw [List.take_nil] at h;exact h
 | x::r,0,_,_,h=>by cases h
 | x::r,i+1,j,v,h=>by
  rw [List.take_succ_cons,EH] at h
  rw [EH]
  cases hh:(C6 l (D9 x) ss).head? with
  | some a=>rw [hh] at h;exact h
  | none=>rw [hh] at h;exact RG h
theorem iX {l:List Pa} {ss:List St} {ms:List Mq} {i:Nat} {q:Mq} (h:EH l ss (ms.take i) 0=none) (hq:ms[i]?=some q) (hk:(C6 l (D9 q) ss).head?.isSome=true):EH l ss ms 0=some (i,(C6 l (D9 q) ss).head?.getD zeroHt):=by
 refine RG (i:=i+1) ?_
 have hi:=(List.getElem?_eq_some_iff.1 hq).1
 rw [AJ hq,KA,h,List.length_take,Nat.min_eq_left A0,Nat.zero_add]
 cases hh:(C6 l (D9 q) ss).head? with
 | none=>rw [hh] at hk;cases hk
 | some a=>rfl
theorem WL (o:Option (Nat × Ht)) : ∃(k:Nat) (h:Ht) (f:Bool),o=(if f=true then some (k,h) else none)∧pT o=.tuple #[AA (k:Int),.agg h.cells.toArray,.bool f]:=by
 cases o with
 | none=>exact ⟨0,zeroHt,false,rfl,rfl⟩
 | some v=>exact ⟨v.1,v.2,true,rfl,rfl⟩
theorem iY {L:List Pa} {ss:List St} {ms:List Mq} {q:Mq} {k2 k3:Nat} {h0 h2 h3:Ht} {f2 f3 k0:Bool} (n2:EH L ss ms 0=if f2=true then some (k2,h2) else none) (n3:EH L ss (ms++[q]) 0=if f3=true then some (k3,h3) else none) (a0:h0=(C6 L (D9 q) ss).head?.getD zeroHt) (b0:k0=(C6 L (D9 q) ss).head?.isSome) :
 (f2=true→f3=true∧k3=k2∧h3=h2)∧(f2=false→f3=k0∧(k0=true→k3=ms.length∧h3=h0)):=by
 rw [KA,n2] at n3
 subst a0 b0
 cases f2<;>cases f3<;>cases hh:(C6 L (D9 q) ss).head?<;>simp_all
theorem sT {b:Bool} (h:(!b)=false):b=true:=by cases b<;>simp_all
theorem aH (a:Ht):a.same a=true:=by simp [Ht.same]
theorem YH {L:List Pa} {ss rr:List St} (hs:SsP L ss) (hr:SsP (L.filter (λx=>decide ((x.i.st.toNat:Int)=1))) rr) (ap:Pa→Wt→Bool):(C6 L ap ss).map (Ht.re λ_=>0)=(C6 (L.filter (λx=>decide ((x.i.st.toNat:Int)=1))) ap rr).map (Ht.re λ_=>0):=
 cT (λx hx=>by unfold runP;rw [hx,Bool.false_and,Bool.and_false]) hs hr ap
theorem j6 {H G:List Ht} {r:Ht→Ht} (e:H.map r=G.map r) {h0 h1:Ht} {k0 k1:Bool} (a0:h0=H.head?.getD zeroHt) (b0:k0=H.head?.isSome) (a1:h1=G.head?.getD zeroHt) (b1:k1=G.head?.isSome):k0=k1∧r h0=r h1:=by
 subst a0 b0 a1 b1
 cases H<;>cases G<;>simp_all
theorem cU {L acc:List Pa} {q:Mq} {ss rr:List St} (hacc:acc=L.filter (λx=>decide ((x.i.st.toNat:Int)=1))) (hs:SsP L ss) (hr:SsP acc rr) {h0 h1:Ht} {k0 k1:Bool} (a0:h0=(C6 L (D9 q) ss).head?.getD zeroHt) (b0:k0=(C6 L (D9 q) ss).head?.isSome) (a1:h1=(C6 acc (D9 q) rr).head?.getD zeroHt) (b1:k1=(C6 acc (D9 q) rr).head?.isSome):k0=k1∧h0.tok=h1.tok∧h0.via=h1.via:=by
 subst hacc
 obtain ⟨h1,h2⟩:=j6 (YH hs hr (D9 q)) a0 b0 a1 b1
 unfold Ht.re at h2
 injection h2 with _ h3 h4
 exact ⟨h1,h3,h4⟩
theorem EX : (prog.info? 26).map (λi=>(i.zero,i.size,i.bytes))=some (some (.agg #[str [],str [],.slice none 0 0,AA 0]),4,64):=by kernel_rfl
theorem KB : (prog.info? 26).map (λi=>(i.zero,i.size))=some (some (.agg #[str [],str [],.slice none 0 0,AA 0]),4):=by kernel_rfl
theorem VI : (prog.info? 26).map (·.zero)=some (some (.agg #[str [],str [],.slice none 0 0,AA 0])):=by kernel_rfl
theorem ZU (B:Option Addr) (cb:Nat) (ms:List Mq) (A:Option Addr) (cp:Nat) (l:List Pa) (ss:List St) (w:World) (hM:Mqs w B ms) (hP:Pts w A l) (hss:SsP l ss) (hml:ms.length≤1000000) (hY:Lay0 w) :
 Calls prog 10 #[.slice B ms.length cb,.slice A l.length cp] w (BN w (pT (EH l ss ms 0))):=by
 refine BL func10 ntmps10 rfl λM=>AC rfl (CO M rfl DY λg5 w1 hg5 M=>AG rfl (sx_seq (AC rfl (DP rfl rfl (yb rfl (sxl_nil ?_))))))
 refine qx_seq (sx_block (MX M [12,11,5,1] (λze zF e wr mz => ∃(i:Nat),e=(13,AA (i:Int))::ze∧zF wr∧(i≤ms.length)∧(EH l ss (ms.take i) 0=none)∧mz=ms.length - i) ⟨0,rfl,M,Nat.zero_le _,rfl,rfl⟩ ?_))
 rintro _ w2 _ ⟨i,rfl,M,hi,hN,rfl⟩
 refine srg (BM rfl rfl (nq (sx_seq (AF rfl (λh14=>?_) (λh14=>?_)))))
 ·have h14p:=(odt h14)
  refine sx_skip (qx_seq (sx_seq (sx_block (AC rfl ?_))))
  obtain ⟨q,hq⟩:=BZ (l:=ms) (i:=i) A0
  obtain ⟨b_q,o_q,hA_q⟩:=B7 (k:=4) A0 ((hM.fr0 M.fr).rd) hq
  refine ya rfl (AP i hA_q rfl rfl rfl (sl rfl) A0) (ya rfl (AH rfl rfl (BB Mq.len ((hM.fr0 M.fr).rd) hA_q hq) underlying26 rfl EM) (CO M rfl VI λg8 w3 hg8 M=>yb rfl (C2 M 0 rfl rfl EM rfl λw4 M=>nq (AC rfl (DO M 0 rfl rfl underlying26 EM rfl (cl 21 rfl (AE rfl rfl call9) (Sf.mfind_ok A cp l q _ (hP.fr0 M.fr) ((hM.fr0 M.fr).ok _ (List.mem_of_getElem? hq)) (hY.fr0 M.fr)) ?_))))))
  rintro _ w5 ⟨rr,hrr,rfl,hfw5⟩
  obtain rfl:=gP hss hrr
  rw [RW]
  obtain ⟨h0,hh0⟩ : ∃h,h=(C6 l (D9 q) ss).head?.getD zeroHt:=⟨_,rfl⟩
  obtain ⟨ok0,hk0⟩ : ∃b,b=(C6 l (D9 q) ss).head?.isSome:=⟨_,rfl⟩
  rw [←hh0,←hk0]
  refine ⟨_,rfl,?_⟩
  have M:=M.step hfw5
  refine AV rfl rfl (yb rfl (CO M rfl DY λg9 w6 hg9 M=>C2 M 0 rfl rfl BQ rfl λw7 M=>AG rfl (srg (AG rfl (AF rfl (λh24=>?_) (λh24=>?_))))))
  ·refine sx_seq (DL 3 CL gkr ?_)
   have M:=M.drew
   refine sb rfl (sa rfl (AH (xs:=Ht.cells h0) rfl rfl (M.rdBlk 0 rfl rfl) underlying38 rfl BQ) (sb rfl (CB (C2 M 2 rfl rfl BQ rfl λw8 M=>yb rfl (gnr (qx_block_ret (qx_then_ret (qx_then_ret (qx_block_ret (qx_then_ret (TC rfl rfl (M.rdBlk 2 rfl rfl) underlying38 rfl BQ rfl rfl ?_)))))))))))
   exact ⟨by rw [iX hN hq (hk0▸h24),←hh0];rfl,M.fr⟩
  ·refine sx_skip (qx_block_normal (qx_seq (sx_region (C1 rfl rfl (yb rfl (sxl_nil (fag ⟨i+1,rfl,(M.pk [2]),?_,?_,rfl⟩)))))))
   ·omega
   ·exact nV hN hq (hk0▸h24)
 ·have h14p:=(odf h14)
  refine sx_exit (qx_then_exit (qx_then_exit ?_))
  obtain rfl:i=ms.length:=by omega
  rw [List.take_length] at hN
  exact qx_block_hit (qx_seq (srg (ya rfl (AY (parts:=[]) rfl rfl (PV)) (yb rfl (C2 M 0 rfl rfl BQ rfl λw9 M=>yb rfl (gnr (TC rfl rfl (M.rdBlk 0 rfl rfl) underlying38 rfl BQ rfl rfl ⟨by rw [hN];rfl,M.fr⟩)))))))
theorem SS (A:Option Addr) (cp:Nat) (l:List Pq) (B:Option Addr) (cb:Nat) (ms:List Mq) (q:Mq) (w:World) (hP:Pqs w A l) (hM:Mqs w B ms) (hq:MqOk w q) (hY:Lay0 w) :
 Calls prog 3 #[.slice A l.length cp,.slice B ms.length cb,.agg q.cells.toArray] w (BN w (.bool true)):=by
 refine BL func3 ntmps3 rfl λM=>srg (DB M (wn_none rfl) rfl rfl 26 rfl rfl (q.cells) rfl λg5 w1 hg5 M=>AG rfl (sx_seq (srg (DV M 21 rfl rfl call6 (OW _ (hY.fr0 M.fr)) λw2 M=>AV rfl rfl (gyq rfl (sxl_call (some 25) (wn_on rfl rfl rfl) rfl rfl (AE rfl rfl call7) (dE A cp l _ (hP.fr0 M.fr)) ?_))))))
 rintro _ w3 ⟨rfl,hfw3⟩
 refine ⟨_,rfl,?_⟩
 have M:=M.step hfw3
 refine AV rfl rfl (AD (d:=27) rfl (λh27=>?_) (λh27=>?_))
 ·refine yo rfl (yo rfl (yo rfl (AG rfl (sx_true rfl (srg (DV M 32 rfl rfl call6 (OW _ (hY.fr0 M.fr)) λw4 M=>yb rfl (gnr (qx_then_ret (gr1 rfl ?_)))))))))
  exact ⟨rfl,M.fr⟩
 ·obtain ⟨h8,hbig⟩:=dF h27
  refine gyq rfl (yd rfl (F5 rfl rfl (sl rfl)) (yd rfl (G9 rfl rfl rfl) (AG rfl (AF rfl (λh31=>?_) (λh31=>?_)))))
  ·exact srg (DV M 32 rfl rfl call6 (OW _ (hY.fr0 M.fr)) λw5 M=>yb rfl (gnr (qx_then_ret (gr1 rfl ⟨rfl,M.fr⟩))))
  ·have h31p:=(odf h31)
   refine sx_skip (qx_seq (AC rfl (cl 34 rfl (AE rfl rfl call8) (Y8 A cp l _ (hP.fr0 M.fr) hbig h8 (hY.fr0 M.fr)) ?_)))
   rintro _ w6 ⟨L,AL,cL,rfl,hoL,hokL,hmL,hlL,hfw6⟩
   refine ⟨_,rfl,?_⟩
   have M:=M.step hfw6
   have hPt:Pts w6 AL L:=⟨K7 hoL,hokL,by omega⟩
   have hLl:=hPt.len
   replace hM:=hM.fr0 M.fr
   have hB:Blk _ g5 26 q.cells:=M.blk 0 rfl
   have hfw:=M.fr
   replace hY:=hY.fr0 hfw
   replace hq:=hq.fr0 hfw
   clear M
   rename World=>w
   have M:=cV w
   refine AG rfl (srg (AG rfl (sx_seq (srg (AG rfl (sx_block ?_))))))
   have M:=M.nilOwn 36 6
   refine flp [7,5,1] (λze e wr mz => ∃(j:Nat) (acc:List Pa) (A3:Option Addr) (c3:Nat),e=(8,.slice A3 acc.length c3)::(9,AA (j:Int))::ze∧Mem w AM [As.own w.heap.size 36 6 (.slice A3 acc.length c3) acc.length (AB Pa.cells acc)] wr∧(j≤L.length)∧(acc=(L.take j).filter (λx=>decide ((x.i.st.toNat:Int)=1)))∧(acc.length≤j)∧mz=L.length - j) ⟨0,[],none,0,rfl,M,Nat.zero_le _,rfl,Nat.le_refl _,rfl⟩ ?_
   rintro _ w7 _ ⟨j,acc,A3,c3,rfl,M,hj,hacc,hal,rfl⟩
   refine sx_seq (AC rfl (yb rfl (DP rfl rfl (BM rfl rfl (nq (AF rfl (λh38=>?_) (λh38=>?_)))))))
   ·have h38p:=(odt h38)
    refine sx_skip (qx_seq (sx_seq (sx_block (AC rfl (yb rfl ?_)))))
    obtain ⟨x,hx⟩:=BZ (l:=L) (i:=j) A0
    obtain ⟨b_x,o_x,hA_x⟩:=B7 (k:=6) A0 ((hPt.fr0 M.fr).rd) hx
    refine ya rfl (AP j hA_x rfl rfl rfl (sl rfl) A0) (AV rfl rfl (yl rfl rfl (E5 Pa.len ((hPt.fr0 M.fr).rd) hA_x hx 3 rfl) (C7 rfl rfl (nq (AF rfl (λh47=>?_) (λh47=>?_))))))
    ·have h47p:=(odt h47)
     refine sx_region (AV rfl rfl (yb rfl (ya rfl (AP j hA_x rfl rfl rfl (sl rfl) A0) (ya rfl (AH rfl rfl (BB Pa.len ((hPt.fr0 M.fr).rd) hA_x hx) underlying36 rfl EW) (CU M (wn_none rfl) rfl rfl [.agg (Pa.cells x).toArray] (Pa.cells x) rfl rfl rfl rfl underlying29 IM rfl rfl (EZ rfl) rfl λg53 w8 hg53 M=>DC (len':=(acc++[x]).length) (xs':=AB Pa.cells (acc++[x])) M 1 (wn_none rfl) rfl rfl rfl rfl rfl rfl (M.rdBlk 0 rfl rfl) underlying29 KN rfl AU (BG rfl) (Nat.le_refl _) (Nat.le_refl _) CX (by unfold maxLen;first | omega | (simp;omega)) (by simp) (by first | exact (AT _ _ _).symm | simp [AB,Pa.cells,In.cells]) λA54 c54 w9 M=>yb rfl (sxl_nil (qx_block_normal (qx_seq (sx_region (yb rfl ?_))))))))))
     refine C1 rfl rfl (yb rfl (sxl_nil (fag ⟨j+1,acc++[x],A54,c54,rfl,(M.pk [1]),?_,?_,?_,rfl⟩)))
     ·omega
     ·rw [AJ hx,List.filter_append,←hacc]
      first
       | (rw [List.filter_cons_of_pos (by simpa using h47p)];rfl)
       | (rw [List.filter_cons_of_neg (by simpa using h47p)];simp)
     ·first
       | omega
       | (simp;omega)
    ·have h47p:=(odf h47)
     refine sx_skip (qx_block_normal (qx_seq (sx_region (yb rfl (C1 rfl rfl (yb rfl (sxl_nil (fag ⟨j+1,acc,A3,c3,rfl,M,?_,?_,?_,rfl⟩))))))))
     ·omega
     ·rw [AJ hx,List.filter_append,←hacc]
      first
       | (rw [List.filter_cons_of_pos (by simpa using h47p)];rfl)
       | (rw [List.filter_cons_of_neg (by simpa using h47p)];simp)
     ·first
       | omega
       | (simp;omega)
   ·have h38p:=(odf h38)
    refine sx_exit (qx_then_exit (qx_then_exit ?_))
    obtain rfl:j=L.length:=by omega
    rw [List.take_length] at hacc
    refine qx_block_hit (qx_seq (srg ?_))
    have hRt:Pts w7 A3 acc:=⟨M.rdOwn 0 rfl,λx hx=>(hPt.fr0 M.fr).ok x (by rw [hacc] at hx;exact (List.mem_filter.1 hx).1),by omega⟩
    replace hPt:=hPt.fr0 M.fr
    replace hB:=hB.fr0 M.fr
    replace hY:=hY.fr0 M.fr
    replace hq:=hq.fr0 M.fr
    replace hM:=hM.fr0 M.fr
    replace hfw:=hfw.trans M.fr
    clear M
    rename World=>w
    have M:=cV w
    refine yb rfl (ya rfl (AH (xs:=[str q.nm,str q.key,.slice q.V q.vars.length q.vc,AA q.un]) rfl rfl (DK (hB.fr0 M.fr) 0 4 rfl rfl) underlying26 rfl EM) (cl 58 rfl (AE rfl rfl call9) (Sf.mfind_ok AL cL L q _ (hPt.fr0 M.fr) (hq.fr0 M.fr) (hY.fr0 M.fr)) ?_))
    rintro _ w10 ⟨ss,hss,rfl,hfw10⟩
    rw [RW]
    obtain ⟨h0,hh0⟩ : ∃h,h=(C6 L (D9 q) ss).head?.getD zeroHt:=⟨_,rfl⟩
    obtain ⟨ok0,hk0⟩ : ∃b,b=(C6 L (D9 q) ss).head?.isSome:=⟨_,rfl⟩
    rw [←hh0,←hk0]
    refine ⟨_,rfl,?_⟩
    have M:=M.step hfw10
    refine AV rfl rfl (yb rfl (CO M rfl DY λg10 w11 hg10 M=>C2 M 0 rfl rfl BQ rfl λw12 M=>AG rfl (AC rfl (ya rfl (AH (xs:=[str q.nm,str q.key,.slice q.V q.vars.length q.vc,AA q.un]) rfl rfl (DK (hB.fr0 M.fr) 0 4 rfl rfl) underlying26 rfl EM) (cl 64 rfl (AE rfl rfl call9) (Sf.mfind_ok A3 c3 acc q _ (hRt.fr0 M.fr) (hq.fr0 M.fr) (hY.fr0 M.fr)) ?_)))))
    rintro _ w13 ⟨rr,hrr,rfl,hfw13⟩
    rw [RW]
    obtain ⟨h1,hh1⟩ : ∃h,h=(C6 acc (D9 q) rr).head?.getD zeroHt:=⟨_,rfl⟩
    obtain ⟨ok1,hk1⟩ : ∃b,b=(C6 acc (D9 q) rr).head?.isSome:=⟨_,rfl⟩
    rw [←hh1,←hk1]
    have hrel:=cU hacc hss hrr hh0 hk0 hh1 hk1
    rw [←hrel.1]
    replace hrel:=hrel.2
    refine ⟨_,rfl,?_⟩
    have M:=M.step hfw13
    refine AV rfl rfl (yb rfl (CO M rfl DY λg12 w14 hg12 M=>C2 M 0 rfl rfl BQ rfl λw15 M=>AG rfl (sx_seq (AC rfl (yb rfl (ya rfl (aZ rfl rfl rfl underlying4) ?_))))))
    refine yb rfl (AD (d:=70) rfl (λh70=>?_) (λh70=>?_))
    ·exact absurd h70 (by cases ok0<;>decide)
    ·refine gyq rfl (C3 M 1 rfl rfl rfl (gyq rfl (C3 M 0 rfl rfl rfl (yd rfl (E1 rfl rfl rfl) (AV rfl rfl (AD (d:=77) rfl (λh77=>?_) (λh77=>?_)))))))
     ·have h77p:=(odf (BY h77))
      exact absurd hrel.1 h77p
     ·have h77p:=(odt (BJ h77))
      refine gyq rfl (C3 M 1 rfl rfl rfl (gyq rfl (C3 M 0 rfl rfl rfl (yd rfl (FV rfl rfl rfl) (AG rfl (AF rfl (λh83=>?_) (λh83=>?_)))))))
      ·have h83p:=(odf (BY h83))
       exact absurd hrel.2 h83p
      ·have h83p:=(odt (BJ h83))
       refine sx_skip (qx_seq (AC rfl (yb rfl (cl 87 rfl (AE rfl rfl call10) (ZU B cb ms AL cL L ss _ (hM.fr0 M.fr) (hPt.fr0 M.fr) hss A0 (hY.fr0 M.fr)) ?_))))
       rintro _ w16 ⟨rfl,hfw16⟩
       obtain ⟨k2,h2,f2,hn2,hv2⟩:=WL (EH L ss ms 0)
       rw [hv2]
       refine ⟨_,rfl,?_⟩
       have M:=M.step hfw16
       iterate 4 refine yb rfl ?_
       refine CO M rfl DY λg15 w17 hg15 M=>yb rfl (C2 M 0 rfl rfl BQ rfl λw18 M=>AG rfl (sx_seq (gK (λ(g95:Nat) (A96:Option Addr) (c96:Nat)=>[(1,.slice B ms.length cb),(7,.slice AL L.length cL),(10,pg g10),(11,.bool ok0),(14,AA (k2:Int)),(15,pg g15),(16,.bool f2),(17,.slice A96 ((ms++[q]).length) c96)]) (λ(g95:Nat) (A96:Option Addr) (c96:Nat)=>λw'=>Mem w AM [As.blk g95 26 [str q.nm,str q.key,.slice q.V q.vars.length q.vc,AA q.un],As.own w.heap.size 26 4 (.slice A96 ((ms++[q]).length) c96) ((ms++[q]).length) (AB Mq.cells (ms++[q])),As.blk g15 38 (Ht.cells h2),As.blk g12 38 (Ht.cells h1),As.blk g10 38 (Ht.cells h0)] w') ?_ (λkr15=>?_))))
       ·intro g95 A96 c96 w19 M
        refine qx_seq (srg ?_)
        have hM2:Mqs w19 A96 (ms++[q]):=⟨M.rdOwn 1 rfl,j4 (hM.fr0 M.fr).ok (hq.fr0 M.fr)⟩
        replace hfw:=hfw.trans M.fr
        replace hPt:=hPt.fr0 M.fr
        replace hB:=hB.fr0 M.fr
        replace hY:=hY.fr0 M.fr
        replace hq:=hq.fr0 M.fr
        replace hM:=hM.fr0 M.fr
        have hb_g15:Blk w19 g15 38 (Ht.cells h2):=M.blk 2 rfl
        have hb_g12:Blk w19 g12 38 (Ht.cells h1):=M.blk 3 rfl
        have hb_g10:Blk w19 g10 38 (Ht.cells h0):=M.blk 4 rfl
        clear M
        rename World=>w
        have M:=cV w
        refine AV rfl rfl (cl 100 rfl (AE rfl rfl call10) (ZU A96 c96 (ms++[q]) AL cL L ss _ (hM2.fr0 M.fr) (hPt.fr0 M.fr) hss (by simp;omega) (hY.fr0 M.fr)) ?_)
        rintro _ w20 ⟨rfl,hfw20⟩
        obtain ⟨k3,h3,f3,hn3,hv3⟩:=WL (EH L ss (ms++[q]) 0)
        rw [hv3]
        refine ⟨_,rfl,?_⟩
        have M:=M.step hfw20
        have hn4:=iY hn2 hn3 hh0 hk0
        iterate 4 refine yb rfl ?_
        refine CO M rfl DY λg19 w21 hg19 M=>yb rfl (C2 M 0 rfl rfl BQ rfl λw22 M=>AG rfl (sx_seq (srg (AG rfl (AF rfl (λh104=>?_) (λh104=>?_))))))
        ·refine AC rfl (yb rfl (AD (d:=106) rfl (λh106=>?_) (λh106=>?_)))
         ·refine gyq rfl (gyq rfl (yd rfl (BO rfl rfl rfl) (AV rfl rfl (AD (d:=111) rfl (λh111=>?_) (λh111=>?_)))))
          ·exact yd rfl (AH (xs:=Ht.cells h3) rfl rfl (M.rdBlk 0 rfl rfl) underlying38 rfl BQ) (yd rfl (AH (xs:=[AA h2.pl,AA h2.tok,str h2.via]) rfl rfl (DK (hb_g15.fr0 M.fr) 0 3 rfl rfl) underlying38 rfl BQ) (yd rfl (XN (a:=h3) (b:=h2) rfl rfl rfl) (AV rfl rfl (gnr (qx_then_ret (gr1 rfl ⟨by rw [(hn4.1 h104).2.2,aH],hfw.trans M.fr⟩))))))
          ·have h111p:=(odf h111)
           exact absurd (by rw [(hn4.1 h104).2.1]) h111p
         ·exact absurd (hn4.1 h104).1 (by rw [h106];decide)
        ·refine sx_skip (qx_seq (AC rfl (yb rfl (ya rfl (bC rfl rfl rfl underlying4) (yb rfl (AD (d:=119) rfl (λh119=>?_) (λh119=>?_)))))))
         ·refine gyq rfl (gyq rfl (gyq rfl (AD (d:=122) rfl (λh122=>?_) (λh122=>?_))))
          ·iterate 5 refine yo rfl ?_
           exact BE rfl rfl rfl rfl rfl (BE rfl rfl rfl rfl rfl (BE rfl rfl rfl rfl rfl (yo rfl (gyq rfl (AV rfl rfl (gnr (gr1 rfl ⟨rfl,hfw.trans M.fr⟩)))))))
          ·refine gyq rfl (gyq rfl (yd rfl (F5 rfl rfl (sl rfl)) (yd rfl (BO rfl rfl rfl) (gyq rfl (AD (d:=127) rfl (λh127=>?_) (λh127=>?_))))))
           ·exact yd rfl (AH (xs:=Ht.cells h3) rfl rfl (M.rdBlk 0 rfl rfl) underlying38 rfl BQ) (yd rfl (AH (xs:=[AA h0.pl,AA h0.tok,str h0.via]) rfl rfl (DK (hb_g10.fr0 M.fr) 0 3 rfl rfl) underlying38 rfl BQ) (yd rfl (XN (a:=h3) (b:=h0) rfl rfl rfl) (gyq rfl (gyq rfl (AV rfl rfl (gnr (gr1 rfl ⟨by rw [((hn4.2 h104).2 (sT h122)).2,aH],hfw.trans M.fr⟩)))))))
           ·have h127p:=(odf h127)
            exact absurd (by rw [((hn4.2 h104).2 (sT h122)).1]) h127p
         ·exact absurd h119 (by rw [(hn4.2 h104).1];cases ok0<;>decide)
       refine I6 M 7 CL λM=>oc 1 7 rfl rfl M (oa 3 7 rfl rfl M (λ_ M=>AH (xs:=[str q.nm,str q.key,.slice q.V q.vars.length q.vc,AA q.un]) rfl rfl (DK (hB.fr0 M.fr) 0 4 rfl rfl) underlying26 rfl EM) (FP (rs:=[0,4]) gkr (by simp) λiz hiz=>?_))
       simp only [List.mem_cons,List.not_mem_nil,or_false] at hiz
       rcases hiz with rfl | rfl
       ·refine DE (some 91) rfl (wn_none rfl) rfl rfl (λρ hρ=>GH 23 26 4 rfl underlying23 EM) ?_
        rintro _ w23 ⟨g91,rfl,hg91,_,_,hfw23,ho91⟩
        refine ⟨λ_=>M.step hfw23,?_⟩
        have M:=M.pushOwn hfw23 (Nat.le_refl _) (ho91 _ (Nat.le_refl _))
        refine FP (rs:=[2,4]) gkr (by simp) λiz hiz=>?_
        simp only [List.mem_cons,List.not_mem_nil,or_false] at hiz
        rcases hiz with rfl | rfl
        ·refine DE (some 93) rfl (wn_none rfl) rfl rfl (λρ hρ=>BV _ _ _ rfl w.heap.size _ _ _ _ underlying23 EX rfl AU _ _ _ (hρ _ _ rfl) (M.own 0 rfl) _ _ _ _ (hρ _ _ rfl) ((hM.fr0 M.fr).rd) (D8 Mq.cells_one) (by unfold maxLen;first | omega | (simp;omega)) CX M.fr.size) ?_
         rintro v93 w24 ⟨ho93,hgr93,hvb93⟩
         replace ho93:World.ownsRow w24 w.heap.size 26 4 v93 (ms.length) (AB Mq.cells ms):=by rw [show ms.length=0+ms.length from by first | (simp;done) | (simp;omega),show (AB Mq.cells ms)=[]++(AB Mq.cells ms) from by first | exact AT _ _ _ | simp [AB]];exact ho93
         have M:=M.appOwn 0 rfl ho93 hgr93 hvb93
         obtain ⟨A93,c93,rfl,_⟩:=CC ho93
         refine ⟨λ_=>(M.drop 1),AR 4 (some 95) gkr rfl (wn_none rfl) rfl rfl (λρ hρ=>CM [.agg #[str q.nm,str q.key,.slice q.V q.vars.length q.vc,AA q.un]] _ hρ rfl rfl rfl rfl underlying23 KB AU AU (EZ rfl)) ?_⟩
         rintro _ w25 ⟨g95,rfl,hg95,hq95,hb95,hfw25⟩
         replace hb95:Blk w25 g95 26 ([str q.nm,str q.key,.slice q.V q.vars.length q.vc,AA q.un]):=hb95
         refine ⟨λ_=>(M.drop 1).step hfw25,?_⟩
         have M:=M.push hfw25 _ hb95 (DF hg95 hq95)
         replace M:Mem w AM (As.blk g95 26 ([str q.nm,str q.key,.slice q.V q.vars.length q.vc,AA q.un])::_) w25:=M
         refine AR 5 (some 96) gkr rfl (wn_none rfl) rfl rfl (λρ hρ=>BV _ _ _ rfl w.heap.size _ _ _ _ underlying23 EX rfl AU _ _ _ (hρ _ _ rfl) (M.own 1 rfl) _ _ _ _ (hρ _ _ rfl) (M.rdBlk 0 rfl rfl) (BG rfl) (by unfold maxLen;first | omega | (simp;omega)) CX M.fr.size) ?_
         rintro v96 w26 ⟨ho96,hgr96,hvb96⟩
         replace ho96:World.ownsRow w26 w.heap.size 26 4 v96 ((ms++[q]).length) (AB Mq.cells (ms++[q])):=by rw [show ((ms++[q]).length)=ms.length+1 from by first | (simp;done) | (simp;omega),show (AB Mq.cells (ms++[q]))=(AB Mq.cells ms)++[str q.nm,str q.key,.slice q.V q.vars.length q.vc,AA q.un] from by first | exact AT _ _ _ | simp [AB]];exact ho96
         have M:=M.appOwn 1 rfl ho96 hgr96 hvb96
         obtain ⟨A96,c96,rfl,_⟩:=CC ho96
         exact ⟨λ_=>(M.drop 2),oc 6 7 rfl rfl (M.drop 2) (fdn (kr15 g95 A96 c96 _ _ M ⟨rfl,rfl,rfl,rfl,rfl,rfl,rfl,rfl,trivial⟩))⟩
        ·refine DE (some 95) rfl (wn_none rfl) rfl rfl (λρ hρ=>CM [.agg #[str q.nm,str q.key,.slice q.V q.vars.length q.vc,AA q.un]] _ hρ rfl rfl rfl rfl underlying23 KB AU AU (EZ rfl)) ?_
         rintro _ w27 ⟨g95,rfl,hg95,hq95,hb95,hfw27⟩
         replace hb95:Blk w27 g95 26 ([str q.nm,str q.key,.slice q.V q.vars.length q.vc,AA q.un]):=hb95
         refine ⟨λ_=>(M.drop 1).step hfw27,?_⟩
         have M:=M.push hfw27 _ hb95 (DF hg95 hq95)
         replace M:Mem w AM (As.blk g95 26 ([str q.nm,str q.key,.slice q.V q.vars.length q.vc,AA q.un])::_) w27:=M
         refine AR 2 (some 93) gkr rfl (wn_none rfl) rfl rfl (λρ hρ=>BV _ _ _ rfl w.heap.size _ _ _ _ underlying23 EX rfl AU _ _ _ (hρ _ _ rfl) (M.own 1 rfl) _ _ _ _ (hρ _ _ rfl) ((hM.fr0 M.fr).rd) (D8 Mq.cells_one) (by unfold maxLen;first | omega | (simp;omega)) CX M.fr.size) ?_
         rintro v93 w28 ⟨ho93,hgr93,hvb93⟩
         replace ho93:World.ownsRow w28 w.heap.size 26 4 v93 (ms.length) (AB Mq.cells ms):=by rw [show ms.length=0+ms.length from by first | (simp;done) | (simp;omega),show (AB Mq.cells ms)=[]++(AB Mq.cells ms) from by first | exact AT _ _ _ | simp [AB]];exact ho93
         have M:=M.appOwn 1 rfl ho93 hgr93 hvb93
         obtain ⟨A93,c93,rfl,_⟩:=CC ho93
         refine ⟨λ_=>(M.drop 2),AR 5 (some 96) gkr rfl (wn_none rfl) rfl rfl (λρ hρ=>BV _ _ _ rfl w.heap.size _ _ _ _ underlying23 EX rfl AU _ _ _ (hρ _ _ rfl) (M.own 1 rfl) _ _ _ _ (hρ _ _ rfl) (M.rdBlk 0 rfl rfl) (BG rfl) (by unfold maxLen;first | omega | (simp;omega)) CX M.fr.size) ?_⟩
         rintro v96 w29 ⟨ho96,hgr96,hvb96⟩
         replace ho96:World.ownsRow w29 w.heap.size 26 4 v96 ((ms++[q]).length) (AB Mq.cells (ms++[q])):=by rw [show ((ms++[q]).length)=ms.length+1 from by first | (simp;done) | (simp;omega),show (AB Mq.cells (ms++[q]))=(AB Mq.cells ms)++[str q.nm,str q.key,.slice q.V q.vars.length q.vc,AA q.un] from by first | exact AT _ _ _ | simp [AB]];exact ho96
         have M:=M.appOwn 1 rfl ho96 hgr96 hvb96
         obtain ⟨A96,c96,rfl,_⟩:=CC ho96
         exact ⟨λ_=>(M.drop 2),oc 6 7 rfl rfl (M.drop 2) (fdn (kr15 g95 A96 c96 _ _ M ⟨rfl,rfl,rfl,rfl,rfl,rfl,rfl,rfl,trivial⟩))⟩
       ·refine DE (some 95) rfl (wn_none rfl) rfl rfl (λρ hρ=>CM [.agg #[str q.nm,str q.key,.slice q.V q.vars.length q.vc,AA q.un]] _ hρ rfl rfl rfl rfl underlying23 KB AU AU (EZ rfl)) ?_
        rintro _ w30 ⟨g95,rfl,hg95,hq95,hb95,hfw30⟩
        replace hb95:Blk w30 g95 26 ([str q.nm,str q.key,.slice q.V q.vars.length q.vc,AA q.un]):=hb95
        refine ⟨λ_=>M.step hfw30,?_⟩
        have M:=M.push hfw30 _ hb95 (DF hg95 hq95)
        replace M:Mem w AM (As.blk g95 26 ([str q.nm,str q.key,.slice q.V q.vars.length q.vc,AA q.un])::_) w30:=M
        refine AR 0 (some 91) gkr rfl (wn_none rfl) rfl rfl (λρ hρ=>GH 23 26 4 rfl underlying23 EM) ?_
        rintro _ w31 ⟨g91,rfl,hg91,_,_,hfw31,ho91⟩
        refine ⟨λ_=>(M.drop 1).step hfw31,?_⟩
        have M:=M.pushOwn hfw31 (Nat.le_refl _) (ho91 _ (Nat.le_refl _))
        refine AR 2 (some 93) gkr rfl (wn_none rfl) rfl rfl (λρ hρ=>BV _ _ _ rfl w.heap.size _ _ _ _ underlying23 EX rfl AU _ _ _ (hρ _ _ rfl) (M.own 0 rfl) _ _ _ _ (hρ _ _ rfl) ((hM.fr0 M.fr).rd) (D8 Mq.cells_one) (by unfold maxLen;first | omega | (simp;omega)) CX M.fr.size) ?_
        rintro v93 w32 ⟨ho93,hgr93,hvb93⟩
        replace ho93:World.ownsRow w32 w.heap.size 26 4 v93 (ms.length) (AB Mq.cells ms):=by rw [show ms.length=0+ms.length from by first | (simp;done) | (simp;omega),show (AB Mq.cells ms)=[]++(AB Mq.cells ms) from by first | exact AT _ _ _ | simp [AB]];exact ho93
        have M:=M.appOwn 0 rfl ho93 hgr93 hvb93
        obtain ⟨A93,c93,rfl,_⟩:=CC ho93
        refine ⟨λ_=>(M.drop 2),AR 5 (some 96) gkr rfl (wn_none rfl) rfl rfl (λρ hρ=>BV _ _ _ rfl w.heap.size _ _ _ _ underlying23 EX rfl AU _ _ _ (hρ _ _ rfl) (M.own 0 rfl) _ _ _ _ (hρ _ _ rfl) (M.rdBlk 1 rfl rfl) (BG rfl) (by unfold maxLen;first | omega | (simp;omega)) CX M.fr.size) ?_⟩
        rintro v96 w33 ⟨ho96,hgr96,hvb96⟩
        replace ho96:World.ownsRow w33 w.heap.size 26 4 v96 ((ms++[q]).length) (AB Mq.cells (ms++[q])):=by rw [show ((ms++[q]).length)=ms.length+1 from by first | (simp;done) | (simp;omega),show (AB Mq.cells (ms++[q]))=(AB Mq.cells ms)++[str q.nm,str q.key,.slice q.V q.vars.length q.vc,AA q.un] from by first | exact AT _ _ _ | simp [AB]];exact ho96
        have M:=M.appOwn 0 rfl ho96 hgr96 hvb96
        obtain ⟨A96,c96,rfl,_⟩:=CC ho96
        exact ⟨λ_=>(M.drop 2),oc 6 7 rfl rfl (M.drop 2) (fdn (kr15 g95 A96 c96 _ _ (M.pk [1,0,2,3,4]) ⟨rfl,rfl,rfl,rfl,rfl,rfl,rfl,rfl,trivial⟩))⟩
end Go.Proofs.YtaheakjfkpkefaaGreatDoor
