/- Lemmas that the last text rests on. Condition: each says its own. -/
import Derived.Test.YtaheakjfkpkefaaGreatDoorZMl6
set_option maxHeartbeats 16000000
set_option maxRecDepth 100000
namespace Go.Proofs.YtaheakjfkpkefaaGreatDoor
open Go.RowKit
open Tryz
theorem HIn.fr0 {w w':World} {A:Option Addr} {cp:Nat} {l:List Pa} {gl ga:Nat} {fa:FuncId} {gm:Nat} (h:HIn w A cp l gl ga fa gm) (hf:Fr0 w w'):HIn w' A cp l gl ga fa gm:=⟨h.pts.fr0 hf,h.lay.fr0 hf,h.gl.fr0 hf,h.ga.fr0 hf⟩
theorem Z9 (A:Option Addr) (cp:Nat) (l:List Pa) (gl ga:Nat) (fa:FuncId) (gm:Nat) (ap:Pa→Wt→Bool) (w:World) (hI:HIn w A cp l gl ga fa gm) (hfa : ∀(ar:Array Value) (w:World),(callFunc fa ar).run prog w=.ok (.enter fa ar) w)
 (hask : ∀x ∈ l,runP x=true → ∀(wt:Wt) (w1:World),Fr0 w w1→Calls prog fa #[.agg (Pa.cells x).toArray,.agg (Wt.cells wt).toArray,pg gm] w1 (BM w1 (.bool (ap x wt)))) :
 Calls prog 22 #[.func (.func 43) #[] #[pg gl,pg ga]] w λe w' => ∃(ss:List St) (A':Option Addr) (c':Nat),SsP l ss∧e=.returned (.slice A' (BY l ap ss).length c')∧w'.ownsRow w.heap.size 38 3 (.slice A' (BY l ap ss).length c') (BY l ap ss).length (AB Ht.cells (BY l ap ss))∧(BY l ap ss).length≤2400∧Fr0 w w':=by
 refine BK func22 ntmps22 rfl λM=>srg (AG rfl (AC rfl (cl 4 rfl (AE rfl rfl call50) (Sf.appSeq_ok A cp l gl ga fa gm ap _ (hI.fr0 M.fr) hfa (λx hx hr wt w1 hf=>hask x hx hr wt w1 (M.fr.trans hf))) ?_)))
 rintro _ w1 ⟨ss,AH,cH,hpm,rfl,how1,hn,hfw1⟩
 refine ⟨_,rfl,?_⟩
 have M:=M.pushOwn hfw1 (Nat.le_refl _) how1
 exact yb rfl (gnr (gr1 rfl ⟨ss,AH,cH,hpm,rfl,M.own 0 rfl,hn,M.fr⟩))
theorem K0 (A:Option Addr) (cp:Nat) (l:List Pa) (nm:List UInt8) (w:World) (hP:Pts w A l) (hY:Lay0 w) :
 Calls prog 12 #[.slice A l.length cp,str nm] w λe w' => ∃(ss:List St) (A':Option Addr) (c':Nat),SsP l ss∧e=.returned (.slice A' (BY l (λ_=>IQ nm) ss).length c')∧w'.ownsRow w.heap.size 38 3 (.slice A' (BY l (λ_=>IQ nm) ss).length c') (BY l (λ_=>IQ nm) ss).length (AB Ht.cells (BY l (λ_=>IQ nm) ss))∧(BY l (λ_=>IQ nm) ss).length≤2400∧Fr0 w w':=by
 refine BK func12 ntmps12 rfl λM=>srg (D3 M (wn_none rfl) rfl rfl 9 rfl rfl ([str nm]) rfl λg3 w1 hg3 M=>AG rfl (AC rfl (ya rfl (CB (us:=[]) (vs:=[pg g3]) rfl rfl rfl) (cl 7 rfl (AE rfl rfl call18) (bB A cp l.length 23 g3 _) ?_))))
 rintro _ w2 ⟨gl,ga,rfl,hbl,hba,hngl,hnga,hfw2⟩
 refine ⟨_,rfl,?_⟩
 have M:=M.step hfw2
 refine cl 8 rfl (AE rfl rfl call22) (Z9 A cp l gl ga 23 g3 (λ_=>IQ nm) _ ⟨hP.fr0 M.fr,hY.fr0 M.fr,hbl,hba⟩ call23 (λx _ _ wt w1 hf=>VR g3 nm x wt w1 ((M.blk 0 rfl).fr0 hf))) ?_
 rintro _ w3 ⟨ss,AH,cH,hpm,rfl,how3,hn,hfw3⟩
 refine ⟨_,rfl,?_⟩
 have M:=M.pushOwn hfw3 (Nat.le_refl _) how3
 exact yb rfl (gnr (gr1 rfl ⟨ss,AH,cH,hpm,rfl,M.own 0 rfl,hn,M.fr⟩))
section
section
variable {m:Md} {c:CrA} (R:Rl m) (Z:Cz m c)
include R Z
theorem rM {vars:List Bd} (hv:EP vars m.vars=true) {y:Tk} (hp:GE m c y=true) {j:Nat} {x:Wt} (hx:(CN m c y vars).1[j]?=some x):x.via ∈ DN m c y:=by
 rw [←(gG R Z hv hp).2]
 exact List.mem_map_of_mem (List.mem_of_getElem? hx)
end
end
theorem o0 {x:Pa} (hr:runP x=true):EW x.m x.c x.i 2147483647 1099511627776=true:=by
 unfold runP at hr
 simp only [Bool.and_eq_true] at hr
 exact hr.2.2
def As.cl (F:List Nat) (P:World→Prop):As:=⟨F,λw => ∀w2,(∀g ∈ F,g<w.heap.size→w2.heap[g]?=w.heap[g]?)→P w2,λ{w w'} h hb w2 h2=>hb w2 λg hg hlt=>by
 have h3:=h g hg hlt
 have hlt':g<w'.heap.size:=by
  rw [Array.getElem?_eq_getElem hlt] at h3
  exact (Array.getElem?_eq_some_iff.1 h3).1
 exact (h2 g hg hlt').trans h3⟩
theorem Mem.meet3 {w0 w:World} {S:Nat→Prop} {a b d:As} {Ls:List As} (M:Mem w0 S (a::b::d::Ls) w) (c:As) (hfp : ∀g ∈ c.fp,g ∈ a.fp∨g ∈ b.fp∨g ∈ d.fp) (hok:c.ok w):Mem w0 S (c::Ls) w:=by
 have key : ∀g ∈ c.fp,∃(i:Nat) (x:As),i<3∧(a::b::d::Ls)[i]?=some x∧g ∈ x.fp:=λg hg=>by
  rcases hfp g hg with h | h | h
  ·exact ⟨0,a,by omega,rfl,h⟩
  ·exact ⟨1,b,by omega,rfl,h⟩
  ·exact ⟨2,d,by omega,rfl,h⟩
 refine ⟨M.fr,λi x hi=>?_,λi x hi g hg=>?_,λi j x y hi hj hne g hg hg'=>?_⟩
 ·cases i with
  | zero=>
   simp only [List.getElem?_cons_zero,Option.some.injEq] at hi;subst hi;exact hok
  | succ i=>exact M.ok (i+3) x hi
 ·cases i with
  | zero=>
   simp only [List.getElem?_cons_zero,Option.some.injEq] at hi;subst hi
   obtain ⟨k,z,_,hz,hgz⟩:=key g hg
   exact M.lt k z hz g hgz
  | succ i=>exact M.lt (i+3) x hi g hg
 ·cases i with
  | zero=>
   simp only [List.getElem?_cons_zero,Option.some.injEq] at hi;subst hi
   cases j with
   | zero=>exact hne rfl
   | succ j=>
    obtain ⟨k,z,hk,hz,hgz⟩:=key g hg
    exact M.apart k (j+3) z y hz hj A0 g hgz hg'
  | succ i=>
   cases j with
   | zero=>
    simp only [List.getElem?_cons_zero,Option.some.injEq] at hj;subst hj
    obtain ⟨k,z,hk,hz,hgz⟩:=key g hg'
    exact M.apart (i+3) k x z hi hz A0 g hg hgz
   | succ j=>exact M.apart (i+3) (j+3) x y hi hj A0 g hg hg'
theorem Mem.nilCl {w0 w:World} {S:Nat→Prop} {L:List As} (M:Mem w0 S L w) {P:World→Prop} (hP : ∀w2,P w2):Mem w0 S (As.cl [] P::L) w:=M.push Fr.refl _ (λw2 _=>hP w2) λg hg=>by cases hg
def ZK (L:List Pa) (w:World):Prop := ∀x ∈ L,PaOk w x
theorem oG (w:World):ZK [] w:=λx hx=>by cases hx
theorem Mem.rdNew {w0 w' w2:World} {L:List As} (M:Mem w0 AP L w') (i:Nat) {base e size n c:Nat} {A:Option Addr} {xs:List Value} (hi:L[i]?=some (As.own base e size (.slice A n c) n xs)) (hf:SN w0.heap.size [] w' w2):Rd w2 A (n * size) xs:=
 K6 ((As.own base e size (.slice A n c) n xs).keep (λg hg hlt=>hf g (.inr ((M.lt i _ hi g hg).2.elim id False.elim)) hlt) (M.ok i _ hi))
theorem oH {w:World} {F Fc:List Nat} {L:List Pa} {b0 b1:Nat} {m:Md} {p:Option Addr} {er:Int} {c:CrA} {i:In} {V T:Option Addr} (vc tc:Nat) (hp:(As.cl F (ZK L)).ok w) (hc:(As.crs m p er c Fc).ok w) (hn:er≠0→p=none) (hk:er=0→GU m=true∧MdOk m) (hr:(As.res b0 b1 [] (λw2=>Rd w2 V (i.vars.length * 5) (AB Bd.cells i.vars)∧Rd w2 T (i.toks.length * 9) (AB Tk.cells i.toks))).ok w) (hbd:BdOk i.vars) (htl:i.toks.length≤300) (hwk : ∀t ∈ i.toks,(t.worker.length:Int)<4611686018427387904) :
 (As.cl (([]++List.range' b0 (b1 - b0))++(Fc++F)) (ZK (L++[⟨p,m,c,Fc,i,V,vc,T,tc⟩]))).ok w:=by
 intro w2 h2 x hx
 rcases List.mem_append.1 hx with h | h
 ·exact hp w2 (λg hg=>h2 g (List.mem_append_right _ (List.mem_append_right _ hg))) x h
 ·obtain rfl:=List.mem_singleton.1 h
  obtain ⟨hV,hT⟩:=hr w2 λg hg=>h2 g (List.mem_append_left _ hg)
  refine ⟨?_,hV,hT,hbd,htl,hwk⟩
  by_cases he:er=0
  ·obtain ⟨gc,h3,h4⟩:=(As.crs m p er c Fc).keep (λg hg=>h2 g (List.mem_append_right _ (List.mem_append_left _ hg))) hc he
   exact .inr ⟨gc,h3,h4,hk he⟩
  ·exact .inl (hn he)
theorem Mem.pasOk {w0 w:World} {S:Nat→Prop} {Ls:List As} {F:List Nat} {L:List Pa} (M:Mem w0 S Ls w) (i:Nat) (hi:Ls[i]?=some (As.cl F (ZK L))):ZK L w:=M.ok i _ hi w λ_ _ _=>rfl
def sumP (l:List Pq):Nat:=(l.map λx=>x.i.toks.length+x.m.els.length).sum
theorem TB (l:List Pq) (x:Pq):sumP (l++[x])=sumP l+(x.i.toks.length+x.m.els.length):=by simp [sumP]
theorem nR {l:List Pq} {x:Pq} (h:x ∈ l):x.i.toks.length+x.m.els.length≤sumP l:=by
 induction l with
 | nil=>cases h
 | cons y r ih=>
  simp only [sumP,List.map_cons,List.sum_cons] at ih ⊢
  rcases List.mem_cons.1 h with rfl | h
  ·omega
  ·have:=ih h;omega
theorem jW {m:Md} (hb:MdB m) (h:GU m=true):MdOk m:=jQ hb (by
 unfold GU at h
 simp only [Bool.and_eq_true,Bool.not_eq_true',Bool.not_eq_false',decide_eq_true_eq] at h
 exact h.1)
theorem oV (m:Md) (a:MdA) (w:World) (hb:MdB m) (hM:MdIn w m a) (hY:Lay0 w) :
 Calls prog 16 #[.agg (Md.cells m a).toArray] w λe w' => ∃p er c F,e=.returned (.tuple #[.pointer p,AA er])∧(er=0 → ∃gc,p=some ⟨gc,0,none⟩∧CourseN w' m gc c F)∧(er=0→GU m=true∧MdOk m)∧(∀g ∈ F,w.heap.size≤g∧g<w'.heap.size)∧(er≠0→p=none)∧Fr0 w w':=
 (aP m a w hb hM hY).mono λe w' ⟨h,hf⟩=>by
  rcases h with ⟨hn,gc,c,F,h1,h2,h3⟩ | ⟨_,h1⟩
  ·exact ⟨some ⟨gc,0,none⟩,0,c,F,h1,λ_=>⟨gc,rfl,h2⟩,λ_=>⟨hn,jW hb hn⟩,h3,λh=>absurd rfl h,hf⟩
  ·exact ⟨none,140,⟨⟨none,0,none,0,none,0⟩,0,0,0,0,0,[],[],[],λ_=>zeroEl,λ_=>false,λ_=>zeroFl,λ_=>false,λ_=>[],[],λ_=>[],[],λ_=>none,λ_=>none,[]⟩,[],h1,λz=>absurd z AY,λz=>absurd z AY,λg hg=>absurd hg (by simp),λ_=>rfl,hf⟩
structure Pqs (w:World) (A:Option Addr) (l:List Pq):Prop where
 rd:Rd w A (l.length * 10) (AB Pq.cells l)
 ok : ∀x ∈ l,PqOk w x
 ln:l.length≤reachBytes
theorem Pqs.fr0 {w w':World} {A:Option Addr} {l:List Pq} (h:Pqs w A l) (hf:Fr0 w w'):Pqs w' A l:=⟨h.rd.fr0 hf,λx hx=>(h.ok x hx).fr0 hf,h.ln⟩
def UT (l:List Pq):Bool:=(decide ((8:Int)<((l.length:Nat):Int))) || (decide ((300:Int)<((sumP l:Nat):Int)))
theorem ZO {x:Int} (h : -9223372036854775808≤x) (h2:x≤9223372036854775807):(IntKind.i64).wrap x=x:=by
 simp [IntKind.wrap,IntKind.bits,IntKind.signed];omega
theorem rW {w:World} {l:List Pq} {j:Nat} {x:Pq} (hx:l[j]?=some x) (ho:PqOk w x) (hs:sumP (l.take j)≤j * 281474976702464):sumP (l.take (j+1))≤(j+1) * 281474976702464:=by
 rw [AK hx,TB]
 have h1:=ho.eb
 have h2:=ho.tb
 simp only [reachBytes] at h1 h2
 omega
theorem iM {w:World} {l:List Pq} {j:Nat} {x:Pq} {n:Int} (hx:l[j]?=some x) (ho:PqOk w x) (hn:l.length≤8→n=((sumP (l.take j):Nat):Int)) (hs:sumP (l.take j)≤j * 281474976702464) (hj:j≤l.length):l.length≤8→((IntKind.i64).wrap ((IntKind.i64).wrap (n+(x.i.toks.length:Int))+(x.m.els.length:Int)))=((sumP (l.take (j+1)):Nat):Int):=λh8=>by
 have h1:=ho.eb
 have h2:=ho.tb
 simp only [reachBytes] at h1 h2
 rw [hn h8,AK hx,TB,ZO (x:=((sumP (l.take j):Nat):Int)+_) A0 A0,ZO A0 A0]
 omega
theorem kM {l:List Pq} {n:Int} (hn:l.length≤8→n=((sumP l:Nat):Int)):((decide (8<(l.length:Int))) || (decide ((300:Int)<n)))=UT l:=by
 unfold UT
 by_cases h:l.length≤8
 ·rw [hn h]
 ·rw [decide_eq_true (show (8:Int)<(l.length:Int) by omega)];rfl
theorem eE {l:List Pq} (h:UT l=false):l.length≤8 ∧ ∀x ∈ l,x.i.toks.length≤300∧x.m.els.length≤300:=by
 have h1:=odf (BS h).1
 have h2:=odf (BS h).2
 exact ⟨by omega,λx hx=>by have:=nR hx;omega⟩
theorem sE {x y z:List Nat} : ∀g ∈ x++(y++z),g ∈ x∨g ∈ y∨g ∈ z:=λ_ hg=>(List.mem_append.1 hg).imp id List.mem_append.1
theorem GY (a0:Option Addr) (c1_0 c1_1 c1_2 c1_3 c1_4:Value):prog.built 36 [(0,.pointer a0),(1,.agg #[c1_0,c1_1,c1_2,c1_3,c1_4])]=some #[.pointer a0,c1_0,c1_1,c1_2,c1_3,c1_4]:=by kernel_rfl
theorem HX : (prog.info? 36).map (λi=>(i.zero,i.size,i.bytes))=some (some (.agg #[.pointer none,AA 0,str [],.int .u8 0,.slice none 0 0,.slice none 0 0]),6,88):=by kernel_rfl
theorem L8 : (prog.info? 36).map (λi=>(i.zero,i.size))=some (some (.agg #[.pointer none,AA 0,str [],.int .u8 0,.slice none 0 0,.slice none 0 0]),6):=by kernel_rfl
theorem KH : (prog.info? 33).map (·.zero)=some (some (.agg #[AA 0,str [],.int .u8 0,.slice none 0 0,.slice none 0 0])):=by kernel_rfl
theorem jY (i:In) (V T:Option Addr) (vc tc:Nat) (w:World) (htl:i.toks.length≤300) (hvl:i.vars.length * 56≤reachBytes) (hV:Rd w V (i.vars.length * 5) (AB Bd.cells i.vars)) (hT:Rd w T (i.toks.length * 9) (AB Tk.cells i.toks)) :
 Calls prog 17 #[.agg (In.cells i V T vc tc).toArray] w λe w' => ∃V' vc' T' tc',e=.returned (.agg (In.cells i V' T' vc' tc').toArray)∧(∀w2,SN w.heap.size [] w' w2→Rd w2 V' (i.vars.length * 5) (AB Bd.cells i.vars)∧Rd w2 T' (i.toks.length * 9) (AB Tk.cells i.toks))∧Fr0 w w':=by
 simp only [reachBytes] at hvl
 refine BK func17 ntmps17 rfl λM=>srg (D7 M rfl rfl λg1 w1 hg1 M=>CV M rfl KH λg2 w2 hg2 M=>EC (DP M 1 rfl rfl underlying33 CH rfl (CV M rfl KH λg3 w3 hg3 M=>C1 M 0 rfl rfl CH rfl λw4 M=>?_)))
 refine nq (AC rfl (gp1 M 0 rfl rfl rfl GN λw5 M=>nq (AC rfl (AS M 0 rfl rfl rfl (yb rfl (AS M 2 rfl rfl rfl ?_))))))
 have M:=M.nilOwn 103 5
 refine D9 (len':=i.vars.length) (xs':=AB Bd.cells i.vars) M 0 (wn_none rfl) rfl rfl rfl rfl rfl rfl (hV.fr0 M.fr) underlying24 MO rfl AY (DD Bd.cells_one) (Nat.le_refl _) (Nat.le_refl _) D4 (by unfold maxLen;first | omega | (simp;omega)) (by simp) (by first | exact (AV _ _ _).symm | simp [AB]) λA10 c10 w6 M=>yb rfl (gp1 M 1 rfl rfl rfl GN λw7 M=>nq (AC rfl (gp1 M 1 rfl rfl rfl HW λw8 M=>EC ?_)))
 refine yb rfl (AS M 1 rfl rfl rfl (yb rfl (AS M 3 rfl rfl rfl ?_)))
 have M:=M.nilOwn 56 9
 refine D9 (len':=i.toks.length) (xs':=AB Tk.cells i.toks) M 0 (wn_none rfl) rfl rfl rfl rfl rfl rfl (hT.fr0 M.fr) underlying31 FK rfl AY (DD Tk.cells_one) (Nat.le_refl _) (Nat.le_refl _) D4 (by unfold maxLen;first | omega | (simp;omega)) (by simp) (by first | exact (AV _ _ _).symm | simp [AB]) λA17 c17 w9 M=>yb rfl (gp1 M 2 rfl rfl rfl HW λw10 M=>EC (DP M 2 rfl rfl underlying33 CH rfl (C1 M 3 rfl rfl CH rfl λw11 M=>gnr (DQ rfl rfl (M.rdBlk 3 rfl rfl) underlying33 rfl CH ?_))))
 exact ⟨_,_,_,_,rfl,λw2 h2=>⟨M.rdNew 1 rfl h2,M.rdNew 0 rfl h2⟩,M.fr⟩
theorem eD (A:Option Addr) (cp:Nat) (l:List Pq) (w:World) (hP:Pqs w A l) :
 Calls prog 7 #[.slice A l.length cp] w (BM w (.bool (UT l))):=by
 have hln:=hP.ln
 simp only [reachBytes] at hln
 refine BK func7 ntmps7 rfl λM=>srg (AG rfl (srg (AG rfl (sx_seq (AC rfl (sxl_nil ?_))))))
 refine qx_seq (sx_block (KB M [0] (λze zF e wr mz => ∃(j:Nat) (n:Int),e=(3,AA n)::(4,AA (j:Int))::ze∧zF wr∧(j≤l.length)∧(l.length≤8→n=((sumP (l.take j):Nat):Int))∧(sumP (l.take j)≤j * 281474976702464)∧mz=l.length - j) ⟨0,0,rfl,M,Nat.zero_le _,λ_=>rfl,by simp [sumP],rfl⟩ ?_))
 rintro _ w1 _ ⟨j,n,rfl,M,hj,hn,hs,rfl⟩
 refine sx_seq (AC rfl (yb rfl (DA rfl rfl (BH rfl rfl (nq (AF rfl (λh8=>?_) (λh8=>?_)))))))
 ·have h8p:=(odt h8)
  refine sx_skip (qx_seq (sx_seq (sx_block (EQ CF gkr ?_))))
  have M:=M.drew
  refine sb rfl (sb rfl (sb rfl ?_))
  obtain ⟨x,hx⟩:=BN (l:=l) (i:=j) A0
  obtain ⟨b_x,o_x,hA_x⟩:=B8 (k:=10) A0 ((hP.fr0 M.fr).rd) hx
  refine sa rfl (AN j hA_x rfl rfl rfl (sl rfl) A0) (sb rfl (sb rfl (sd rfl rfl (CI Pq.len ((hP.fr0 M.fr).rd) hA_x hx 9 rfl) (sa rfl (EX rfl rfl (sl rfl)) (sa rfl (Y4 rfl rfl rfl) (sb rfl (sb rfl (sa rfl (AN j hA_x rfl rfl rfl (sl rfl) A0) (sb rfl (sb rfl (sd rfl rfl (CI Pq.len ((hP.fr0 M.fr).rd) hA_x hx 3 rfl) (sa rfl (EX rfl rfl (sl rfl)) (sa rfl (Y4 rfl rfl rfl) (sb rfl (EL ?_)))))))))))))))
  refine qx_block_normal (qx_seq (sx_region (yb rfl (BT rfl rfl (yb rfl (sxl_nil (fag ⟨j+1,((IntKind.i64).wrap (((IntKind.i64).wrap (n+(x.i.toks.length:Int)))+(x.m.els.length:Int))),rfl,M,?_,?_,?_,rfl⟩)))))))
  ·omega
  ·exact iM hx (hP.ok _ (List.mem_of_getElem? hx)) hn hs hj
  ·exact rW hx (hP.ok _ (List.mem_of_getElem? hx)) hs
 ·have h8p:=(odf h8)
  refine sx_exit (qx_then_exit (qx_then_exit ?_))
  obtain rfl:j=l.length:=by omega
  rw [List.take_length] at hn
  refine qx_block_hit (qx_seq (AC rfl (DA rfl rfl (OB rfl rfl (yb rfl (fvm M 3 [] [(34,.bool ((decide (8<(l.length:Int))) || (decide ((300:Int)<n))))] ?_ (λk31=>?_)))))))
  ·intro w2 M
   exact yb rfl (gnr (gr1 rfl ⟨by rw [kM hn],M.fr⟩))
  refine AD (d:=31) rfl (λh31=>?_) (λh31=>?_)
  ·exact yo rfl (yo rfl (yb rfl (k31 M ⟨(by rw [h31];rfl),trivial⟩)))
  ·exact gyq rfl (yd rfl (FW rfl rfl rfl) (yb rfl (k31 M ⟨(by rw [h31];rfl),trivial⟩)))
theorem YM (A:Option Addr) (cp:Nat) (l:List Pq) (w:World) (hP:Pqs w A l) (hbig : ∀x ∈ l,x.i.toks.length≤300∧x.m.els.length≤300) (hl:l.length≤8) (hY:Lay0 w) :
 Calls prog 8 #[.slice A l.length cp] w λe w' => ∃(L:List Pa) (A':Option Addr) (c':Nat),e=.returned (.slice A' L.length c')∧w'.ownsRow w.heap.size 36 6 (.slice A' L.length c') L.length (AB Pa.cells L)∧(∀x ∈ L,PaOk w' x)∧L.map (λx=>x.i)=l.map (λx=>x.i)∧L.length=l.length∧Fr0 w w':=by
 refine BK func8 ntmps8 rfl λM=>srg (AG rfl (srg (AG rfl (sx_seq (AC rfl (sxl_nil ?_))))))
 refine qx_seq (sx_block ?_)
 have M:=M.nilOwn 36 6
 have M:=M.nilCl (P:=ZK []) oG
 refine flp [0] (λze e wr mz => ∃(j:Nat) (acc:List Pa) (A3:Option Addr) (c3:Nat) (F:List Nat),e=(3,.slice A3 acc.length c3)::(4,AA (j:Int))::ze∧Mem w AP [As.cl F (ZK acc),As.own w.heap.size 36 6 (.slice A3 acc.length c3) acc.length (AB Pa.cells acc)] wr∧(j≤l.length)∧(acc.map (λx=>x.i)=(l.take j).map (λx=>x.i))∧(acc.length=j)∧mz=l.length - j) ⟨0,[],none,0,[],rfl,M,Nat.zero_le _,rfl,rfl,rfl⟩ ?_
 rintro _ w1 _ ⟨j,acc,A3,c3,F,rfl,M,hj,hacc,hal,rfl⟩
 refine sx_seq (AC rfl (yb rfl (DA rfl rfl (BH rfl rfl (nq (AF rfl (λh10=>?_) (λh10=>?_)))))))
 ·have h10p:=(odt h10)
  refine sx_skip (qx_seq (sx_seq (sx_block (AC rfl (yb rfl ?_)))))
  obtain ⟨x,hx⟩:=BN (l:=l) (i:=j) A0
  obtain ⟨b_x,o_x,hA_x⟩:=B8 (k:=10) A0 ((hP.fr0 M.fr).rd) hx
  refine ya rfl (AN j hA_x rfl rfl rfl (sl rfl) A0) (yb rfl (ya rfl (AI (xs:=Md.cells x.m x.a) rfl rfl (UM Pq.len ((hP.fr0 M.fr).rd) hA_x hx 0 5 rfl rfl) underlying62 rfl B9) (cl 19 rfl (AE rfl rfl call16) (oV x.m x.a _ ((hP.ok _ (List.mem_of_getElem? hx)).b (hbig _ (List.mem_of_getElem? hx)).2) ((hP.ok _ (List.mem_of_getElem? hx)).fr0 M.fr).md (hY.fr0 M.fr)) ?_)))
  rintro _ w2 ⟨p,er,c,Fc,rfl,hcr,hnk,hnc,hnil,hfw2⟩
  refine ⟨_,rfl,?_⟩
  have M:=M.push hfw2 (As.crs x.m p er c Fc) hcr hnc
  iterate 5 refine yb rfl ?_
  refine nq (sx_region ?_)
  iterate 4 refine yb rfl ?_
  refine ya rfl (AN j hA_x rfl rfl rfl (sl rfl) A0) (yb rfl (ya rfl (AI (xs:=In.cells x.i x.V x.T x.vc x.tc) rfl rfl (UM Pq.len ((hP.fr0 M.fr).rd) hA_x hx 5 5 rfl rfl) underlying33 rfl CH) (cl 29 rfl (AE rfl rfl call17) (jY x.i x.V x.T x.vc x.tc _ (hbig _ (List.mem_of_getElem? hx)).1 (hP.ok _ (List.mem_of_getElem? hx)).vb ((hP.ok _ (List.mem_of_getElem? hx)).fr0 M.fr).V ((hP.ok _ (List.mem_of_getElem? hx)).fr0 M.fr).T) ?_)))
  rintro _ w3 ⟨V',vc',T',tc',rfl,hres,hfw3⟩
  refine ⟨_,rfl,?_⟩
  have M:=M.push hfw3 (As.res _ _ [] (λw2=>Rd w2 V' (x.i.vars.length * 5) (AB Bd.cells x.i.vars)∧Rd w2 T' (x.i.toks.length * 9) (AB Tk.cells x.i.toks))) (λw2 h2=>hres w2 (VI h2)) (US)
  refine ya rfl (AU (parts:=[(0,_),(1,_)]) rfl rfl (GY _ _ _ _ _ _)) (CT M (wn_none rfl) rfl rfl [.agg #[.pointer p,AA x.i.id,str x.i.mdl,.int .u8 (x.i.st.toNat:Int),.slice V' x.i.vars.length vc',.slice T' x.i.toks.length tc']] ([.pointer p,AA x.i.id,str x.i.mdl,.int .u8 (x.i.st.toNat:Int),.slice V' x.i.vars.length vc',.slice T' x.i.toks.length tc']) rfl rfl rfl rfl underlying29 L8 rfl rfl (FR rfl) rfl λg31 w4 hg31 M=>D9 (len':=(acc++[(⟨p,x.m,c,Fc,x.i,V',vc',T',tc'⟩:Pa)]).length) (xs':=AB Pa.cells (acc++[(⟨p,x.m,c,Fc,x.i,V',vc',T',tc'⟩:Pa)])) M 4 (wn_none rfl) rfl rfl rfl rfl rfl rfl (M.rdBlk 0 rfl rfl) underlying29 HX rfl AY (CA rfl) (Nat.le_refl _) (Nat.le_refl _) D4 (by unfold maxLen;first | omega | (simp;omega)) (by simp) (by first | exact (AV _ _ _).symm | simp [AB,Pa.cells,In.cells]) λA32 c32 w5 M=>yb rfl (sxl_nil (qx_block_normal (qx_seq (sx_region (yb rfl (BT rfl rfl (yb rfl (sxl_nil ?_)))))))))
  have hpas:=oH vc' tc' (M.ok 3 _ rfl) (M.ok 2 _ rfl) hnil hnk (M.ok 1 _ rfl) (hP.ok _ (List.mem_of_getElem? hx)).bd (hbig _ (List.mem_of_getElem? hx)).1 (hP.ok _ (List.mem_of_getElem? hx)).wk
  have M:=(M.pk [1,2,3,0,4]).meet3 _ (sE) hpas
  refine fag ⟨j+1,acc++[(⟨p,x.m,c,Fc,x.i,V',vc',T',tc'⟩:Pa)],A32,c32,_,rfl,(M.pk [0,2]),?_,?_,?_,rfl⟩
  ·omega
  ·rw [AK hx,List.map_append,List.map_append,hacc];rfl
  ·simp;omega
 ·have h10p:=(odf h10)
  refine sx_exit (qx_then_exit (qx_then_exit ?_))
  obtain rfl:j=l.length:=by omega
  rw [List.take_length] at hacc
  exact qx_block_hit (qx_seq (AC rfl (yb rfl (gnr (gr1 rfl ⟨acc,A3,c3,rfl,M.own 1 rfl,M.pasOk 0 rfl,hacc,hal,M.fr⟩)))))
theorem kW (A:Option Addr) (cp:Nat) (fc:FuncId) (w:World):Calls prog 187 #[.slice A 1 cp,AA 0,AA 1,.func (.func fc) #[] #[]] w (BM w (.tuple #[])):=by
 refine BK func187 ntmps187 rfl λM=>AC rfl (BT rfl rfl (AG rfl (sx_block (sx_loop (λe wr mz=>e=[(0,.slice A 1 cp),(1,AA 0),(2,AA 1),(3,.func (.func fc) #[] #[]),(8,AA 1)]∧Mem w AP [] wr∧mz=0) ⟨rfl,M,rfl⟩ ⟨rfl,rfl,rfl,rfl,rfl,trivial⟩ ?_))))
 rintro _ w1 _ ⟨rfl,M,rfl⟩
 exact sx_seq (AC rfl (yb rfl (BH rfl rfl (nq (sx_false rfl (sx_exit (qx_then_exit (qx_then_exit (qx_block_hit (qx_ret0 (Or.inr rfl) rfl ⟨rfl,M.fr⟩))))))))))
theorem cS (A:Option Addr) (cp:Nat) (fc:FuncId) (w:World):Calls prog 155 #[.slice A 1 cp,AA 1,.func (.func fc) #[] #[]] w (BM w (.tuple #[])):=by
 refine BK func155 ntmps155 rfl λM=>srg (AG rfl (AC rfl (yb rfl (AG rfl (sx_seq (sx_block (sx_loop (λe wr mz=>e=[(0,.slice A 1 cp),(1,AA 1),(2,.func (.func fc) #[] #[]),(6,AA 20),(7,AA 0),(8,AA 20)]∧Mem w AP [] wr∧mz=0) ⟨rfl,M,rfl⟩ ⟨rfl,rfl,rfl,rfl,rfl,rfl,trivial⟩ ?_)))))))
 rintro _ w1 _ ⟨rfl,M,rfl⟩
 refine sx_seq (AC rfl (yb rfl (PU rfl rfl (nq (sx_false rfl (sx_exit (qx_then_exit (qx_then_exit (qx_block_hit (qx_seq (srg ?_)))))))))))
 iterate 4 refine yb rfl ?_
 refine DH M 27 rfl rfl call187 (kW A cp fc _) λw2 M=>nq (sx_block (sx_loop (λe wr mz=>e=[(0,.slice A 1 cp),(1,AA 1),(2,.func (.func fc) #[] #[]),(6,AA 20)]∧Mem w AP [] wr∧mz=0) ⟨rfl,M,rfl⟩ ⟨rfl,rfl,rfl,rfl,trivial⟩ ?_))
 rintro _ w3 _ ⟨rfl,M,rfl⟩
 exact sx_seq (AC rfl (yb rfl (BH rfl rfl (nq (sx_false rfl (sx_exit (qx_then_exit (qx_then_exit (qx_block_hit (qx_ret0 (Or.inr rfl) rfl ⟨rfl,M.fr⟩))))))))))
theorem cU (A:Option Addr) (cp:Nat) (fc:FuncId) (w:World):Calls prog 98 #[.slice A 1 cp,.func (.func fc) #[] #[]] w (BM w (.tuple #[])):=by
 exact BK func98 ntmps98 rfl λM=>sx_region (AT rfl rfl (DA rfl rfl (yb rfl (DH M 8 rfl rfl call155 (cS A cp fc _) λw1 M=>sxl_nil (qx_ret0 (Or.inr rfl) rfl ⟨rfl,M.fr⟩)))))
theorem nS : SM (λk=>k=1):=λbase A c n l w hk _ hn ho=>by
 have hk:l.length=1:=hk
 obtain rfl:n=1:=by omega
 refine (cU A c 99 w).mono ?_
 rintro e w' ⟨rfl,hf⟩
 exact ⟨rfl,l,List.Perm.refl _,(As.own base 139 5 (.slice A 1 c) 1 (AB Ar.cells l)).keep (λk _ hk=>hf.block k hk (λhh=>hh)) ho,Fr.of0 hf⟩
end Go.Proofs.YtaheakjfkpkefaaGreatDoor
