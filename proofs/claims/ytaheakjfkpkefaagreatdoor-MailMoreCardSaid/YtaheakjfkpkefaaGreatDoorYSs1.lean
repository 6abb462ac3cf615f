/- Lemmas that the last text rests on. Condition: each says its own. -/
import Derived.Test.YtaheakjfkpkefaaGreatDoorYMl6
set_option maxHeartbeats 16000000
set_option maxRecDepth 100000
namespace Go.Proofs.YtaheakjfkpkefaaGreatDoor
open Go.RowKit
section
section
variable {m:Md} {c:CrA} (R:Rl m) (Z:Cz m c)
include R Z
end
end
open Tryz
def As.cl (F:List Nat) (P:World→Prop):As:=⟨F,λw => ∀w2,(∀g ∈ F,g<w.heap.size→w2.heap[g]?=w.heap[g]?)→P w2,λ{w w'} h hb w2 h2=>hb w2 λg hg hlt=>by
 have h3:=h g hg hlt
 have hlt':g<w'.heap.size:=by
  rw [Array.getElem?_eq_getElem hlt] at h3
  exact (Array.getElem?_eq_some_iff.1 h3).1
 exact (h2 g hg hlt').trans h3⟩
theorem Mem.meet3 {w0 w:World} {S:Nat→Prop} {a b d:As} {Ls:List As} (M:Mem w0 S (a::b::d::Ls) w) (c:As) (hfp : ∀g ∈ c.fp,g ∈ a.fp∨g ∈ b.fp∨g ∈ d.fp) (hok:c.ok w):Mem w0 S (c::Ls) w:=by
 have key : ∀g ∈ c.fp,∃(i:Nat) (x:As),i<3∧(a::b::d::Ls)[i]?=some x∧g ∈ x.fp:=λg hg=>by
  rcases hfp g hg with h | h | h
  ·exact ⟨0,a,by omega,rfl,h⟩
  ·exact ⟨1,b,by omega,rfl,h⟩
  ·exact ⟨2,d,by omega,rfl,h⟩
 refine ⟨M.fr,λi x hi=>?_,λi x hi g hg=>?_,λi j x y hi hj hne g hg hg'=>?_⟩
 ·cases i with
  | zero=>
   simp only [List.getElem?_cons_zero,Option.some.injEq] at hi;subst hi;exact hok
  | succ i=>exact M.ok (i+3) x hi
 ·cases i with
  | zero=>
   simp only [List.getElem?_cons_zero,Option.some.injEq] at hi;subst hi
   obtain ⟨k,z,_,hz,hgz⟩:=key g hg
   exact M.lt k z hz g hgz
  | succ i=>exact M.lt (i+3) x hi g hg
 ·cases i with
  | zero=>
   simp only [List.getElem?_cons_zero,Option.some.injEq] at hi;subst hi
   cases j with
   | zero=>exact hne rfl
   | succ j=>
    obtain ⟨k,z,hk,hz,hgz⟩:=key g hg
    exact M.apart k (j+3) z y hz hj A0 g hgz hg'
  | succ i=>
   cases j with
   | zero=>
    simp only [List.getElem?_cons_zero,Option.some.injEq] at hj;subst hj
    obtain ⟨k,z,hk,hz,hgz⟩:=key g hg'
    exact M.apart (i+3) k x z hi hz A0 g hg hgz
   | succ j=>exact M.apart (i+3) (j+3) x y hi hj A0 g hg hg'
theorem Mem.nilCl {w0 w:World} {S:Nat→Prop} {L:List As} (M:Mem w0 S L w) {P:World→Prop} (hP : ∀w2,P w2):Mem w0 S (As.cl [] P::L) w:=M.push Fr.refl _ (λw2 _=>hP w2) λg hg=>by cases hg
def Z4 (L:List Pa) (w:World):Prop := ∀x ∈ L,PaOk w x
theorem nI (w:World):Z4 [] w:=λx hx=>by cases hx
theorem Mem.rdNew {w0 w' w2:World} {L:List As} (M:Mem w0 AM L w') (i:Nat) {base e size n c:Nat} {A:Option Addr} {xs:List Value} (hi:L[i]?=some (As.own base e size (.slice A n c) n xs)) (hf:SM w0.heap.size [] w' w2):Rd w2 A (n * size) xs:=
 K7 ((As.own base e size (.slice A n c) n xs).keep (λg hg hlt=>hf g (.inr ((M.lt i _ hi g hg).2.elim id False.elim)) hlt) (M.ok i _ hi))
theorem nJ {w:World} {F Fc:List Nat} {L:List Pa} {b0 b1:Nat} {m:Md} {p:Option Addr} {er:Int} {c:CrA} {i:In} {V T:Option Addr} (vc tc:Nat) (hp:(As.cl F (Z4 L)).ok w) (hc:(As.crs m p er c Fc).ok w) (hn:er≠0→p=none) (hk:er=0→GS m=true∧MdOk m) (hr:(As.res b0 b1 [] (λw2=>Rd w2 V (i.vars.length * 5) (AB Bd.cells i.vars)∧Rd w2 T (i.toks.length * 9) (AB Tk.cells i.toks))).ok w) (hbd:BdOk i.vars) (htl:i.toks.length≤300) (hwk : ∀t ∈ i.toks,(t.worker.length:Int)<4611686018427387904) :
 (As.cl (([]++List.range' b0 (b1 - b0))++(Fc++F)) (Z4 (L++[⟨p,m,c,Fc,i,V,vc,T,tc⟩]))).ok w:=by
 intro w2 h2 x hx
 rcases List.mem_append.1 hx with h | h
 ·exact hp w2 (λg hg=>h2 g (List.mem_append_right _ (List.mem_append_right _ hg))) x h
 ·obtain rfl:=List.mem_singleton.1 h
  obtain ⟨hV,hT⟩:=hr w2 λg hg=>h2 g (List.mem_append_left _ hg)
  refine ⟨?_,hV,hT,hbd,htl,hwk⟩
  by_cases he:er=0
  ·obtain ⟨gc,h3,h4⟩:=(As.crs m p er c Fc).keep (λg hg=>h2 g (List.mem_append_right _ (List.mem_append_left _ hg))) hc he
   exact .inr ⟨gc,h3,h4,hk he⟩
  ·exact .inl (hn he)
theorem Mem.pasOk {w0 w:World} {S:Nat→Prop} {Ls:List As} {F:List Nat} {L:List Pa} (M:Mem w0 S Ls w) (i:Nat) (hi:Ls[i]?=some (As.cl F (Z4 L))):Z4 L w:=M.ok i _ hi w λ_ _ _=>rfl
def sumP (l:List Pq):Nat:=(l.map λx=>x.i.toks.length+x.m.els.length).sum
theorem T8 (l:List Pq) (x:Pq):sumP (l++[x])=sumP l+(x.i.toks.length+x.m.els.length):=by simp [sumP]
theorem mS {l:List Pq} {x:Pq} (h:x ∈ l):x.i.toks.length+x.m.els.length≤sumP l:=by
 induction l with
 | nil=>cases h
 | cons y r ih=>
  simp only [sumP,List.map_cons,List.sum_cons] at ih ⊢
  rcases List.mem_cons.1 h with rfl | h
  ·omega
  ·have:=ih h;omega
theorem j0 {m:Md} (hb:MdB m) (h:GS m=true):MdOk m:=iS hb (by
 unfold GS at h
 simp only [Bool.and_eq_true,Bool.not_eq_true',Bool.not_eq_false',decide_eq_true_eq] at h
 exact h.1)
theorem nX (m:Md) (a:MdA) (w:World) (hb:MdB m) (hM:MdIn w m a) (hY:Lay0 w) :
 Calls prog 16 #[.agg (Md.cells m a).toArray] w λe w' => ∃p er c F,e=.returned (.tuple #[.pointer p,AA er])∧(er=0 → ∃gc,p=some ⟨gc,0,none⟩∧CourseN w' m gc c F)∧(er=0→GS m=true∧MdOk m)∧(∀g ∈ F,w.heap.size≤g∧g<w'.heap.size)∧(er≠0→p=none)∧Fr0 w w':=
 (ZW m a w hb hM hY).mono λe w' ⟨h,hf⟩=>by
  rcases h with ⟨hn,gc,c,F,h1,h2,h3⟩ | ⟨_,h1⟩
  ·exact ⟨some ⟨gc,0,none⟩,0,c,F,h1,λ_=>⟨gc,rfl,h2⟩,λ_=>⟨hn,j0 hb hn⟩,h3,λh=>absurd rfl h,hf⟩
  ·exact ⟨none,140,⟨⟨none,0,none,0,none,0⟩,0,0,0,0,0,[],[],[],λ_=>zeroEl,λ_=>false,λ_=>zeroFl,λ_=>false,λ_=>[],[],λ_=>[],[],λ_=>none,λ_=>none,[]⟩,[],h1,λz=>absurd z AU,λz=>absurd z AU,λg hg=>absurd hg (by simp),λ_=>rfl,hf⟩
structure Pqs (w:World) (A:Option Addr) (l:List Pq):Prop where
 rd:Rd w A (l.length * 10) (AB Pq.cells l)
 ok : ∀x ∈ l,PqOk w x
 ln:l.length≤reachBytes
theorem Pqs.fr0 {w w':World} {A:Option Addr} {l:List Pq} (h:Pqs w A l) (hf:Fr0 w w'):Pqs w' A l:=⟨h.rd.fr0 hf,λx hx=>(h.ok x hx).fr0 hf,h.ln⟩
def UQ (l:List Pq):Bool:=(decide ((8:Int)<((l.length:Nat):Int))) || (decide ((300:Int)<((sumP l:Nat):Int)))
theorem Z7 {x:Int} (h : -9223372036854775808≤x) (h2:x≤9223372036854775807):(IntKind.i64).wrap x=x:=by
 simp [IntKind.wrap,IntKind.bits,IntKind.signed];omega
theorem qM {w:World} {l:List Pq} {j:Nat} {x:Pq} (hx:l[j]?=some x) (ho:PqOk w x) (hs:sumP (l.take j)≤j * 281474976702464):sumP (l.take (j+1))≤(j+1) * 281474976702464:=by
 rw [AJ hx,T8]
 have h1:=ho.eb
 have h2:=ho.tb
 simp only [reachBytes] at h1 h2
 omega
theorem gM {w:World} {l:List Pq} {j:Nat} {x:Pq} {n:Int} (hx:l[j]?=some x) (ho:PqOk w x) (hn:l.length≤8→n=((sumP (l.take j):Nat):Int)) (hs:sumP (l.take j)≤j * 281474976702464) (hj:j≤l.length):l.length≤8→((IntKind.i64).wrap ((IntKind.i64).wrap (n+(x.i.toks.length:Int))+(x.m.els.length:Int)))=((sumP (l.take (j+1)):Nat):Int):=λh8=>by
 have h1:=ho.eb
 have h2:=ho.tb
 simp only [reachBytes] at h1 h2
 rw [hn h8,AJ hx,T8,Z7 (x:=((sumP (l.take j):Nat):Int)+_) A0 A0,Z7 A0 A0]
 omega
theorem jI {l:List Pq} {n:Int} (hn:l.length≤8→n=((sumP l:Nat):Int)):((decide (8<(l.length:Int))) || (decide ((300:Int)<n)))=UQ l:=by
 unfold UQ
 by_cases h:l.length≤8
 ·rw [hn h]
 ·rw [decide_eq_true (show (8:Int)<(l.length:Int) by omega)];rfl
theorem dF {l:List Pq} (h:UQ l=false):l.length≤8 ∧ ∀x ∈ l,x.i.toks.length≤300∧x.m.els.length≤300:=by
 have h1:=odf (BT h).1
 have h2:=odf (BT h).2
 exact ⟨by omega,λx hx=>by have:=mS hx;omega⟩
theorem qX {x y z:List Nat} : ∀g ∈ x++(y++z),g ∈ x∨g ∈ y∨g ∈ z:=λ_ hg=>(List.mem_append.1 hg).imp id List.mem_append.1
theorem GW (a0:Option Addr) (c1_0 c1_1 c1_2 c1_3 c1_4:Value):prog.built 36 [(0,.pointer a0),(1,.agg #[c1_0,c1_1,c1_2,c1_3,c1_4])]=some #[.pointer a0,c1_0,c1_1,c1_2,c1_3,c1_4]:=by kernel_rfl
theorem KN : (prog.info? 36).map (λi=>(i.zero,i.size,i.bytes))=some (some (.agg #[.pointer none,AA 0,str [],.int .u8 0,.slice none 0 0,.slice none 0 0]),6,88):=by kernel_rfl
theorem IM : (prog.info? 36).map (λi=>(i.zero,i.size))=some (some (.agg #[.pointer none,AA 0,str [],.int .u8 0,.slice none 0 0,.slice none 0 0]),6):=by kernel_rfl
theorem KI : (prog.info? 33).map (·.zero)=some (some (.agg #[AA 0,str [],.int .u8 0,.slice none 0 0,.slice none 0 0])):=by kernel_rfl
theorem j3 (i:In) (V T:Option Addr) (vc tc:Nat) (w:World) (htl:i.toks.length≤300) (hvl:i.vars.length * 56≤reachBytes) (hV:Rd w V (i.vars.length * 5) (AB Bd.cells i.vars)) (hT:Rd w T (i.toks.length * 9) (AB Tk.cells i.toks)) :
 Calls prog 17 #[.agg (In.cells i V T vc tc).toArray] w λe w' => ∃V' vc' T' tc',e=.returned (.agg (In.cells i V' T' vc' tc').toArray)∧(∀w2,SM w.heap.size [] w' w2→Rd w2 V' (i.vars.length * 5) (AB Bd.cells i.vars)∧Rd w2 T' (i.toks.length * 9) (AB Tk.cells i.toks))∧Fr0 w w':=by
 simp only [reachBytes] at hvl
 refine BL func17 ntmps17 rfl λM=>srg (DD M rfl rfl λg1 w1 hg1 M=>CO M rfl KI λg2 w2 hg2 M=>EF (DO M 1 rfl rfl underlying33 CH rfl (CO M rfl KI λg3 w3 hg3 M=>C2 M 0 rfl rfl CH rfl λw4 M=>?_)))
 refine nq (AC rfl (gp1 M 0 rfl rfl rfl GM λw5 M=>nq (AC rfl (B2 M 0 rfl rfl rfl (yb rfl (B2 M 2 rfl rfl rfl ?_))))))
 have M:=M.nilOwn 103 5
 refine DC (len':=i.vars.length) (xs':=AB Bd.cells i.vars) M 0 (wn_none rfl) rfl rfl rfl rfl rfl rfl (hV.fr0 M.fr) underlying24 MM rfl AU (D8 Bd.cells_one) (Nat.le_refl _) (Nat.le_refl _) CX (by unfold maxLen;first | omega | (simp;omega)) (by simp) (by first | exact (AT _ _ _).symm | simp [AB]) λA10 c10 w6 M=>yb rfl (gp1 M 1 rfl rfl rfl GM λw7 M=>nq (AC rfl (gp1 M 1 rfl rfl rfl HZ λw8 M=>EF ?_)))
 refine yb rfl (B2 M 1 rfl rfl rfl (yb rfl (B2 M 3 rfl rfl rfl ?_)))
 have M:=M.nilOwn 56 9
 refine DC (len':=i.toks.length) (xs':=AB Tk.cells i.toks) M 0 (wn_none rfl) rfl rfl rfl rfl rfl rfl (hT.fr0 M.fr) underlying31 FJ rfl AU (D8 Tk.cells_one) (Nat.le_refl _) (Nat.le_refl _) CX (by unfold maxLen;first | omega | (simp;omega)) (by simp) (by first | exact (AT _ _ _).symm | simp [AB]) λA17 c17 w9 M=>yb rfl (gp1 M 2 rfl rfl rfl HZ λw10 M=>EF (DO M 2 rfl rfl underlying33 CH rfl (C2 M 3 rfl rfl CH rfl λw11 M=>gnr (DQ rfl rfl (M.rdBlk 3 rfl rfl) underlying33 rfl CH ?_))))
 exact ⟨_,_,_,_,rfl,λw2 h2=>⟨M.rdNew 1 rfl h2,M.rdNew 0 rfl h2⟩,M.fr⟩
theorem dE (A:Option Addr) (cp:Nat) (l:List Pq) (w:World) (hP:Pqs w A l) :
 Calls prog 7 #[.slice A l.length cp] w (BN w (.bool (UQ l))):=by
 have hln:=hP.ln
 simp only [reachBytes] at hln
 refine BL func7 ntmps7 rfl λM=>srg (AG rfl (srg (AG rfl (sx_seq (AC rfl (sxl_nil ?_))))))
 refine qx_seq (sx_block (MX M [0] (λze zF e wr mz => ∃(j:Nat) (n:Int),e=(3,AA n)::(4,AA (j:Int))::ze∧zF wr∧(j≤l.length)∧(l.length≤8→n=((sumP (l.take j):Nat):Int))∧(sumP (l.take j)≤j * 281474976702464)∧mz=l.length - j) ⟨0,0,rfl,M,Nat.zero_le _,λ_=>rfl,by simp [sumP],rfl⟩ ?_))
 rintro _ w1 _ ⟨j,n,rfl,M,hj,hn,hs,rfl⟩
 refine sx_seq (AC rfl (yb rfl (DP rfl rfl (BM rfl rfl (nq (AF rfl (λh8=>?_) (λh8=>?_)))))))
 ·have h8p:=(odt h8)
  refine sx_skip (qx_seq (sx_seq (sx_block (HT CL gkr ?_))))
  have M:=M.drew
  refine sb rfl (sb rfl (sb rfl ?_))
  obtain ⟨x,hx⟩:=BZ (l:=l) (i:=j) A0
  obtain ⟨b_x,o_x,hA_x⟩:=B7 (k:=10) A0 ((hP.fr0 M.fr).rd) hx
  refine sa rfl (AP j hA_x rfl rfl rfl (sl rfl) A0) (sb rfl (sb rfl (sd rfl rfl (E5 Pq.len ((hP.fr0 M.fr).rd) hA_x hx 9 rfl) (sa rfl (F5 rfl rfl (sl rfl)) (sa rfl (XP rfl rfl rfl) (sb rfl (sb rfl (sa rfl (AP j hA_x rfl rfl rfl (sl rfl) A0) (sb rfl (sb rfl (sd rfl rfl (E5 Pq.len ((hP.fr0 M.fr).rd) hA_x hx 3 rfl) (sa rfl (F5 rfl rfl (sl rfl)) (sa rfl (XP rfl rfl rfl) (sb rfl (IY ?_)))))))))))))))
  refine qx_block_normal (qx_seq (sx_region (yb rfl (C1 rfl rfl (yb rfl (sxl_nil (fag ⟨j+1,((IntKind.i64).wrap (((IntKind.i64).wrap (n+(x.i.toks.length:Int)))+(x.m.els.length:Int))),rfl,M,?_,?_,?_,rfl⟩)))))))
  ·omega
  ·exact gM hx (hP.ok _ (List.mem_of_getElem? hx)) hn hs hj
  ·exact qM hx (hP.ok _ (List.mem_of_getElem? hx)) hs
 ·have h8p:=(odf h8)
  refine sx_exit (qx_then_exit (qx_then_exit ?_))
  obtain rfl:j=l.length:=by omega
  rw [List.take_length] at hn
  refine qx_block_hit (qx_seq (AC rfl (DP rfl rfl (O8 rfl rfl (yb rfl (fvm M 3 [] [(34,.bool ((decide (8<(l.length:Int))) || (decide ((300:Int)<n))))] ?_ (λk31=>?_)))))))
  ·intro w2 M
   exact yb rfl (gnr (gr1 rfl ⟨by rw [jI hn],M.fr⟩))
  refine AD (d:=31) rfl (λh31=>?_) (λh31=>?_)
  ·exact yo rfl (yo rfl (yb rfl (k31 M ⟨(by rw [h31];rfl),trivial⟩)))
  ·exact gyq rfl (yd rfl (G9 rfl rfl rfl) (yb rfl (k31 M ⟨(by rw [h31];rfl),trivial⟩)))
theorem Y8 (A:Option Addr) (cp:Nat) (l:List Pq) (w:World) (hP:Pqs w A l) (hbig : ∀x ∈ l,x.i.toks.length≤300∧x.m.els.length≤300) (hl:l.length≤8) (hY:Lay0 w) :
 Calls prog 8 #[.slice A l.length cp] w λe w' => ∃(L:List Pa) (A':Option Addr) (c':Nat),e=.returned (.slice A' L.length c')∧w'.ownsRow w.heap.size 36 6 (.slice A' L.length c') L.length (AB Pa.cells L)∧(∀x ∈ L,PaOk w' x)∧L.map (λx=>x.i)=l.map (λx=>x.i)∧L.length=l.length∧Fr0 w w':=by
 refine BL func8 ntmps8 rfl λM=>srg (AG rfl (srg (AG rfl (sx_seq (AC rfl (sxl_nil ?_))))))
 refine qx_seq (sx_block ?_)
 have M:=M.nilOwn 36 6
 have M:=M.nilCl (P:=Z4 []) nI
 refine flp [0] (λze e wr mz => ∃(j:Nat) (acc:List Pa) (A3:Option Addr) (c3:Nat) (F:List Nat),e=(3,.slice A3 acc.length c3)::(4,AA (j:Int))::ze∧Mem w AM [As.cl F (Z4 acc),As.own w.heap.size 36 6 (.slice A3 acc.length c3) acc.length (AB Pa.cells acc)] wr∧(j≤l.length)∧(acc.map (λx=>x.i)=(l.take j).map (λx=>x.i))∧(acc.length=j)∧mz=l.length - j) ⟨0,[],none,0,[],rfl,M,Nat.zero_le _,rfl,rfl,rfl⟩ ?_
 rintro _ w1 _ ⟨j,acc,A3,c3,F,rfl,M,hj,hacc,hal,rfl⟩
 refine sx_seq (AC rfl (yb rfl (DP rfl rfl (BM rfl rfl (nq (AF rfl (λh10=>?_) (λh10=>?_)))))))
 ·have h10p:=(odt h10)
  refine sx_skip (qx_seq (sx_seq (sx_block (AC rfl (yb rfl ?_)))))
  obtain ⟨x,hx⟩:=BZ (l:=l) (i:=j) A0
  obtain ⟨b_x,o_x,hA_x⟩:=B7 (k:=10) A0 ((hP.fr0 M.fr).rd) hx
  refine ya rfl (AP j hA_x rfl rfl rfl (sl rfl) A0) (yb rfl (ya rfl (AH (xs:=Md.cells x.m x.a) rfl rfl (UI Pq.len ((hP.fr0 M.fr).rd) hA_x hx 0 5 rfl rfl) underlying62 rfl B6) (cl 19 rfl (AE rfl rfl call16) (nX x.m x.a _ ((hP.ok _ (List.mem_of_getElem? hx)).b (hbig _ (List.mem_of_getElem? hx)).2) ((hP.ok _ (List.mem_of_getElem? hx)).fr0 M.fr).md (hY.fr0 M.fr)) ?_)))
  rintro _ w2 ⟨p,er,c,Fc,rfl,hcr,hnk,hnc,hnil,hfw2⟩
  refine ⟨_,rfl,?_⟩
  have M:=M.push hfw2 (As.crs x.m p er c Fc) hcr hnc
  iterate 5 refine yb rfl ?_
  refine nq (sx_region ?_)
  iterate 4 refine yb rfl ?_
  refine ya rfl (AP j hA_x rfl rfl rfl (sl rfl) A0) (yb rfl (ya rfl (AH (xs:=In.cells x.i x.V x.T x.vc x.tc) rfl rfl (UI Pq.len ((hP.fr0 M.fr).rd) hA_x hx 5 5 rfl rfl) underlying33 rfl CH) (cl 29 rfl (AE rfl rfl call17) (j3 x.i x.V x.T x.vc x.tc _ (hbig _ (List.mem_of_getElem? hx)).1 (hP.ok _ (List.mem_of_getElem? hx)).vb ((hP.ok _ (List.mem_of_getElem? hx)).fr0 M.fr).V ((hP.ok _ (List.mem_of_getElem? hx)).fr0 M.fr).T) ?_)))
  rintro _ w3 ⟨V',vc',T',tc',rfl,hres,hfw3⟩
  refine ⟨_,rfl,?_⟩
  have M:=M.push hfw3 (As.res _ _ [] (λw2=>Rd w2 V' (x.i.vars.length * 5) (AB Bd.cells x.i.vars)∧Rd w2 T' (x.i.toks.length * 9) (AB Tk.cells x.i.toks))) (λw2 h2=>hres w2 (VF h2)) (UP)
  refine ya rfl (AY (parts:=[(0,_),(1,_)]) rfl rfl (GW _ _ _ _ _ _)) (CU M (wn_none rfl) rfl rfl [.agg #[.pointer p,AA x.i.id,str x.i.mdl,.int .u8 (x.i.st.toNat:Int),.slice V' x.i.vars.length vc',.slice T' x.i.toks.length tc']] ([.pointer p,AA x.i.id,str x.i.mdl,.int .u8 (x.i.st.toNat:Int),.slice V' x.i.vars.length vc',.slice T' x.i.toks.length tc']) rfl rfl rfl rfl underlying29 IM rfl rfl (EZ rfl) rfl λg31 w4 hg31 M=>DC (len':=(acc++[(⟨p,x.m,c,Fc,x.i,V',vc',T',tc'⟩:Pa)]).length) (xs':=AB Pa.cells (acc++[(⟨p,x.m,c,Fc,x.i,V',vc',T',tc'⟩:Pa)])) M 4 (wn_none rfl) rfl rfl rfl rfl rfl rfl (M.rdBlk 0 rfl rfl) underlying29 KN rfl AU (BG rfl) (Nat.le_refl _) (Nat.le_refl _) CX (by unfold maxLen;first | omega | (simp;omega)) (by simp) (by first | exact (AT _ _ _).symm | simp [AB,Pa.cells,In.cells]) λA32 c32 w5 M=>yb rfl (sxl_nil (qx_block_normal (qx_seq (sx_region (yb rfl (C1 rfl rfl (yb rfl (sxl_nil ?_)))))))))
  have hpas:=nJ vc' tc' (M.ok 3 _ rfl) (M.ok 2 _ rfl) hnil hnk (M.ok 1 _ rfl) (hP.ok _ (List.mem_of_getElem? hx)).bd (hbig _ (List.mem_of_getElem? hx)).1 (hP.ok _ (List.mem_of_getElem? hx)).wk
  have M:=(M.pk [1,2,3,0,4]).meet3 _ (qX) hpas
  refine fag ⟨j+1,acc++[(⟨p,x.m,c,Fc,x.i,V',vc',T',tc'⟩:Pa)],A32,c32,_,rfl,(M.pk [0,2]),?_,?_,?_,rfl⟩
  ·omega
  ·rw [AJ hx,List.map_append,List.map_append,hacc];rfl
  ·simp;omega
 ·have h10p:=(odf h10)
  refine sx_exit (qx_then_exit (qx_then_exit ?_))
  obtain rfl:j=l.length:=by omega
  rw [List.take_length] at hacc
  exact qx_block_hit (qx_seq (AC rfl (yb rfl (gnr (gr1 rfl ⟨acc,A3,c3,rfl,M.own 1 rfl,M.pasOk 0 rfl,hacc,hal,M.fr⟩)))))
theorem jS (A:Option Addr) (cp:Nat) (fc:FuncId) (w:World):Calls prog 187 #[.slice A 1 cp,AA 0,AA 1,.func (.func fc) #[] #[]] w (BN w (.tuple #[])):=by
 refine BL func187 ntmps187 rfl λM=>AC rfl (C1 rfl rfl (AG rfl (sx_block (sx_loop (λe wr mz=>e=[(0,.slice A 1 cp),(1,AA 0),(2,AA 1),(3,.func (.func fc) #[] #[]),(8,AA 1)]∧Mem w AM [] wr∧mz=0) ⟨rfl,M,rfl⟩ ⟨rfl,rfl,rfl,rfl,rfl,trivial⟩ ?_))))
 rintro _ w1 _ ⟨rfl,M,rfl⟩
 exact sx_seq (AC rfl (yb rfl (BM rfl rfl (nq (sx_false rfl (sx_exit (qx_then_exit (qx_then_exit (qx_block_hit (qx_ret0 (Or.inr rfl) rfl ⟨rfl,M.fr⟩))))))))))
theorem bS (A:Option Addr) (cp:Nat) (fc:FuncId) (w:World):Calls prog 155 #[.slice A 1 cp,AA 1,.func (.func fc) #[] #[]] w (BN w (.tuple #[])):=by
 refine BL func155 ntmps155 rfl λM=>srg (AG rfl (AC rfl (yb rfl (AG rfl (sx_seq (sx_block (sx_loop (λe wr mz=>e=[(0,.slice A 1 cp),(1,AA 1),(2,.func (.func fc) #[] #[]),(6,AA 20),(7,AA 0),(8,AA 20)]∧Mem w AM [] wr∧mz=0) ⟨rfl,M,rfl⟩ ⟨rfl,rfl,rfl,rfl,rfl,rfl,trivial⟩ ?_)))))))
 rintro _ w1 _ ⟨rfl,M,rfl⟩
 refine sx_seq (AC rfl (yb rfl (PR rfl rfl (nq (sx_false rfl (sx_exit (qx_then_exit (qx_then_exit (qx_block_hit (qx_seq (srg ?_)))))))))))
 iterate 4 refine yb rfl ?_
 refine DV M 27 rfl rfl call187 (jS A cp fc _) λw2 M=>nq (sx_block (sx_loop (λe wr mz=>e=[(0,.slice A 1 cp),(1,AA 1),(2,.func (.func fc) #[] #[]),(6,AA 20)]∧Mem w AM [] wr∧mz=0) ⟨rfl,M,rfl⟩ ⟨rfl,rfl,rfl,rfl,trivial⟩ ?_))
 rintro _ w3 _ ⟨rfl,M,rfl⟩
 exact sx_seq (AC rfl (yb rfl (BM rfl rfl (nq (sx_false rfl (sx_exit (qx_then_exit (qx_then_exit (qx_block_hit (qx_ret0 (Or.inr rfl) rfl ⟨rfl,M.fr⟩))))))))))
theorem bU (A:Option Addr) (cp:Nat) (fc:FuncId) (w:World):Calls prog 98 #[.slice A 1 cp,.func (.func fc) #[] #[]] w (BN w (.tuple #[])):=by
 exact BL func98 ntmps98 rfl λM=>sx_region (AV rfl rfl (DP rfl rfl (yb rfl (DV M 8 rfl rfl call155 (bS A cp fc _) λw1 M=>sxl_nil (qx_ret0 (Or.inr rfl) rfl ⟨rfl,M.fr⟩)))))
theorem mT : SK (λk=>k=1):=λbase A c n l w hk _ hn ho=>by
 have hk:l.length=1:=hk
 obtain rfl:n=1:=by omega
 refine (bU A c 99 w).mono ?_
 rintro e w' ⟨rfl,hf⟩
 exact ⟨rfl,l,List.Perm.refl _,(As.own base 139 5 (.slice A 1 c) 1 (AB Ar.cells l)).keep (λk _ hk=>hf.block k hk (λhh=>hh)) ho,Fr.of0 hf⟩
end Go.Proofs.YtaheakjfkpkefaaGreatDoor
