/- Lemmas. -/
import Derived.Test.YtaheakjfkpkefaaGreatDoorVMl6
set_option maxHeartbeats 16000000
set_option maxRecDepth 100000
namespace Go.Proofs.YtaheakjfkpkefaaGreatDoor
open Go.RowKit
open Tryz
theorem HIn.fr0 {w w':World} {A:Option Addr} {cp:Nat} {l:List Pa} {gl ga:Nat} {fa:FuncId} {gm:Nat} (h:HIn w A cp l gl ga fa gm) (hf:Fr0 w w'):HIn w' A cp l gl ga fa gm:=⟨h.pts.fr0 hf,h.lay.fr0 hf,h.gl.fr0 hf,h.ga.fr0 hf⟩
theorem bP (A:Option Addr) (cp:Nat) (l:List Pa) (gl ga:Nat) (fa:FuncId) (gm:Nat) (ap:Pa→Wt→Bool) (w:World) (hI:HIn w A cp l gl ga fa gm) (hfa:∀(ar:Array Value) (w:World),(callFunc fa ar).run prog w=.ok (.enter fa ar) w)
 (hask:∀x∈l,runP x=true→∀(wt:Wt) (w1:World),Fr0 w w1→Calls prog fa #[.agg (Pa.cells x).toArray,.agg (Wt.cells wt).toArray,pg gm] w1 (BI w1 (.bool (ap x wt)))) :
 Calls prog 22 #[.func (.func 43) #[] #[pg gl,pg ga]] w λe w'=>∃(ss:List St) (A':Option Addr) (c':Nat),SsP l ss∧e=.returned (.slice A' (D5 l ap ss).length c')∧w'.ownsRow w.heap.size 38 3 (.slice A' (D5 l ap ss).length c') (D5 l ap ss).length (AD Ht.cells (D5 l ap ss))∧(D5 l ap ss).length≤2400∧Fr0 w w':=by
 refine BH func22 ntmps22 X λM=>srg (AJ X (AE X (cl 4 X (AG X X call50) (Sf.appSeq_ok A cp l gl ga fa gm ap _ (hI.fr0 M.fr) hfa (λx hx hr wt w1 hf=>hask x hx hr wt w1 (M.fr.trans hf))) ?_)))
 rintro _ w1 ⟨ss,AH,cH,hpm,rfl,how1,hn,hfw1⟩;refine ⟨_,X,?_⟩;have M:=M.pushOwn hfw1 (Nat.le_refl _) how1;exact yb X (gnr (gr1 X ⟨ss,AH,cH,hpm,X,M.own 0 X,hn,M.fr⟩))
theorem aD (A:Option Addr) (cp:Nat) (l:List Pa) (nm:List UInt8) (w:World) (hP:Pts w A l) (hY:Lay0 w) :
 Calls prog 12 #[.slice A l.length cp,str nm] w λe w'=>∃(ss:List St) (A':Option Addr) (c':Nat),SsP l ss∧e=.returned (.slice A' (D5 l (λ_=>PU nm) ss).length c')∧w'.ownsRow w.heap.size 38 3 (.slice A' (D5 l (λ_=>PU nm) ss).length c') (D5 l (λ_=>PU nm) ss).length (AD Ht.cells (D5 l (λ_=>PU nm) ss))∧(D5 l (λ_=>PU nm) ss).length≤2400∧Fr0 w w':=by
 refine BH func12 ntmps12 X λM=>srg (D6 M (wn_none X) X X 9 X X ([str nm]) X λg3 w1 hg3 M=>AJ X (AE X (ya X (CP (us:=[]) (vs:=[pg g3]) X X X) (cl 7 X (AG X X call18) (dX A cp l.length 23 g3 _) ?_))))
 rintro _ w2 ⟨gl,ga,rfl,hbl,hba,hngl,hnga,hfw2⟩;refine ⟨_,X,?_⟩;have M:=M.step hfw2;refine cl 8 X (AG X X call22) (bP A cp l gl ga 23 g3 (λ_=>PU nm) _ ⟨hP.fr0 M.fr,hY.fr0 M.fr,hbl,hba⟩ call23 (λx _ _ wt w1 hf=>XN g3 nm x wt w1 ((M.blk 0 X).fr0 hf))) ?_;rintro _ w3 ⟨ss,AH,cH,hpm,rfl,how3,hn,hfw3⟩;refine ⟨_,X,?_⟩;have M:=M.pushOwn hfw3 (Nat.le_refl _) how3;exact yb X (gnr (gr1 X ⟨ss,AH,cH,hpm,X,M.own 0 X,hn,M.fr⟩))
section
theorem wU {m:Md} {c:CrA} {i:In} {next clock:Int} (hck:E2 m c i next clock=true) {q:Nat} {y:Tk} (hy:i.toks[q]?=some y):ixT y.id i.toks=(q:Int):=by
 obtain ⟨j,z,h1,h2,h3⟩:=dR (p:=λt:Tk=>decide (t.id=y.id)) ⟨y,List.mem_of_getElem? hy,by simp⟩ 0
 have:=U1 hck h2 hy (odt h3)
 unfold ixT;rw [h1,this,Nat.zero_add]
section
variable {m:Md} {c:CrA} (R:Rl m) (Z:Cz m c)
include R Z
theorem vD {vars:List Bd} (hv:FN vars m.vars=true) {y:Tk} (hp:ET m c y=true) {j:Nat} {x:Wt} (hx:(D7 m c y vars).1[j]?=some x):x.via∈DJ m c y:=by
 rw [←(jV R Z hv hp).2];exact List.mem_map_of_mem (List.mem_of_getElem? hx)
theorem qL {y:Tk} {via:List UInt8} (h:via∈DJ m c y):via.length≤4611686018427387903:=by
 obtain ⟨_,x,hx,rfl,_⟩:=KD R Z (.inl h)
 have:=(IY (R.elN x hx)).2
 omega
end
end
theorem rH {x:Pa} (hr:runP x=true):E2 x.m x.c x.i 2147483647 1099511627776=true:=by
 unfold runP at hr
 simp only [Bool.and_eq_true] at hr
 exact hr.2.2
theorem xP {x:Pa} {w:World} (hx:PaOk w x) (hr:runP x=true) {y:Tk} (hy:y∈x.i.toks) {via:List UInt8} (hv:via∈DJ x.m x.c y) (next clock:Int) (hY:Lay0 w) :
 Calls prog 13 #[.pointer x.p,.agg (In.cells x.i x.V x.T x.vc x.tc).toArray,AC y.id,str via,AC next,AC clock] w λe w'=>∃(ro:List Tk) (st:UInt8) (a0:Int) (a1:List UInt8) (W0:Option Addr) (vn wc:Nat) (X0:Option Addr) (xc:Nat) (a5:Int) (Y0:Option Addr) (yn yc:Nat) (er:Int),e=.returned (.tuple #[.agg [AC a0,str a1,.int .u8 (st.toNat:Int),.slice W0 vn wc,.slice X0 ro.length xc,AC a5,.slice Y0 yn yc].toArray,AC er]) ∧
  (er≠0→er=3∨er=1∧E2 x.m x.c x.i next clock=false)∧(er=0→(∀t∈ro,t.id≠y.id)∧ro.length≤1000000)∧(∀w2,N7 w.heap.size [] w' w2→er=0→Rd w2 X0 (ro.length*9) (AD Tk.cells ro))∧Fr0 w w':=by
 obtain ⟨gc,hp,hC,hn,ho⟩:=KG hx hr;have R:Rl x.m:=dB hn;rw [hp];have hym:∀{j:Nat} {z:Tk},CmY x.m x.c x.i y.id via next clock j z→z.id=y.id∧z.id≤next:=λ{j z} hcm=>⟨wV hcm.2.1 hcm.2.2.1,((PP hcm.1).2 z (List.mem_of_getElem? hcm.2.2.1)).2.2.2⟩
 refine (tX x.m gc x.c x.F x.i x.V x.T x.vc x.tc y.id via next clock w ho R hC hx.tl hx.bd hx.wk (qL R hC.cz hv) hx.V hx.T hY).mono λe w' ⟨hf,h⟩=>?_
 rcases h with ⟨rfl,hno⟩|⟨j,z,hcm,h⟩
 ·refine ⟨[],0,0,[],none,0,0,none,0,0,none,0,0,1,X,λ_=>.inr ⟨X,?_⟩,λh=>absurd h B3,λ_ _ h=>absurd h B3,hf⟩
  cases hck:E2 x.m x.c x.i next clock with
  | false=>rfl
  | true=>
   obtain ⟨q,hq⟩:=List.getElem?_of_mem hy;exact absurd ⟨hck,wU hck hq,hq,j6 hv⟩ (hno q y)
 ·rcases h w' (λ_ _ _=>rfl) with ⟨rfl,_⟩|⟨σ',ls,V',vc',T',tc',A',fc',rfl,_,⟨hI,hfl⟩,_,hp,_,_,hRT,_⟩
  ·exact ⟨[],0,0,[],none,0,0,none,0,0,none,0,0,3,X,λ_=>.inl X,λh=>absurd h B3,λ_ _ h=>absurd h B3,hf⟩
  ·have both:∀w2,N7 w.heap.size [] w' w2→∃ys,Rd w2 T' ((HK x.c (x.i.toks.eraseIdx j) ls next clock).length*9) ys:=λw2 h2=>by
    rcases h w2 h2 with ⟨he,_⟩|⟨σ2,ls2,V2,vc2,T2,tc2,A2,fc2,he,_,_,_,_,_,h3,h4,_⟩
    ·simp at he
    ·simp only [gU,Ending.returned.injEq,Value.tuple.injEq,Array.mk.injEq,List.cons.injEq,Value.agg.injEq,Value.slice.injEq] at he
     obtain ⟨⟨_,_,_,⟨e1,_,_⟩,⟨e2,e3,_⟩,_⟩,_⟩:=he;rw [e2,e3];exact ⟨_,h4⟩
   refine ⟨HK x.c (x.i.toks.eraseIdx j) ls next clock,(if decide (((HK x.c (x.i.toks.eraseIdx j) ls next clock).length:Int)=0)=true then 2 else 1),x.i.id,x.i.mdl,V',x.i.vars.length,vc',T',tc',next+((ls.filter (λa:Ar => !decide (0<a.rests))).length:Int),A',σ'.fired.length,fc',0,?_,λh=>absurd X h,λ_=>⟨λt ht=>?_,?_⟩,λw2 h2 _=>wA hRT both w2 h2,hf⟩
   ·by_cases hz:decide (((HK x.c (x.i.toks.eraseIdx j) ls next clock).length:Int)=0)=true
    ·simp only [gU,if_pos hz];rfl
    ·simp only [gU,if_neg hz];rfl
   ·obtain ⟨k,hk⟩:=List.getElem?_of_mem ht;obtain ⟨h1,h2⟩:=hym hcm;rcases gB hk with ⟨_,h3⟩|⟨q,a,_,_,_,rfl⟩
    ·have h4:=(List.mem_filter.1 (List.mem_of_getElem? h3)).1;intro he;obtain ⟨q,hq,hqt⟩:=List.mem_eraseIdx_iff_getElem?.1 h4;exact hq (U1 hcm.1 hqt hcm.2.2.1 (by rw [he,h1]))
    ·rw [sM];omega
   ·have h1:(sN ls).length≤ls.length:=List.length_filter_le _ _;have h2:=hp.length_eq;have h3:(SN (x.i.toks.eraseIdx j) ls).length≤(x.i.toks.eraseIdx j).length:=List.length_filter_le _ _;have h4:(x.i.toks.eraseIdx j).length≤x.i.toks.length:=(List.eraseIdx_sublist x.i.toks j).length_le;have h5:=hI.on;have h6:=hI.done;have h7:=hx.tl;rw [List.length_append] at h2
    rw [Y9,List.length_append,YS];omega
def As.cl (F:List Nat) (P:World→Prop):As:=⟨F,λw=>∀w2,(∀g∈F,g<w.heap.size→w2.heap[g]?=w.heap[g]?)→P w2,λ{w w'} h hb w2 h2=>hb w2 λg hg hlt=>by
 have h3:=h g hg hlt
 have hlt':g<w'.heap.size:=by
  rw [Array.getElem?_eq_getElem hlt] at h3
  exact (Array.getElem?_eq_some_iff.1 h3).1
 exact (h2 g hg hlt').trans h3⟩
theorem Mem.meet3 {w0 w:World} {S:Nat→Prop} {a b d:As} {Ls:List As} (M:Mem w0 S (a::b::d::Ls) w) (c:As) (hfp:∀g∈c.fp,g∈a.fp∨g∈b.fp∨g∈d.fp) (hok:c.ok w):Mem w0 S (c::Ls) w:=by
 have key:∀g∈c.fp,∃(i:Nat) (x:As),i<3∧(a::b::d::Ls)[i]?=some x∧g∈x.fp:=λg hg=>by
  rcases hfp g hg with h|h|h
  ·exact ⟨0,a,by omega,rfl,h⟩
  ·exact ⟨1,b,by omega,rfl,h⟩
  ·exact ⟨2,d,by omega,rfl,h⟩
 refine ⟨M.fr,λi x hi=>?_,λi x hi g hg=>?_,λi j x y hi hj hne g hg hg'=>?_⟩
 ·cases i with
  | zero=>
   simp only [List.getElem?_cons_zero,Option.some.injEq] at hi;subst hi;exact hok
  | succ i=>exact M.ok (i+3) x hi
 ·cases i with
  | zero=>
   simp only [List.getElem?_cons_zero,Option.some.injEq] at hi;subst hi
   obtain ⟨k,z,_,hz,hgz⟩:=key g hg;exact M.lt k z hz g hgz
  | succ i=>exact M.lt (i+3) x hi g hg
 ·cases i with
  | zero=>
   simp only [List.getElem?_cons_zero,Option.some.injEq] at hi;subst hi
   cases j with
   | zero=>exact hne rfl
   | succ j=>
    obtain ⟨k,z,hk,hz,hgz⟩:=key g hg;exact M.apart k (j+3) z y hz hj AA g hgz hg'
  | succ i=>
   cases j with
   | zero=>
    simp only [List.getElem?_cons_zero,Option.some.injEq] at hj;subst hj
    obtain ⟨k,z,hk,hz,hgz⟩:=key g hg';exact M.apart (i+3) k x z hi hz AA g hg hgz
   | succ j=>exact M.apart (i+3) (j+3) x y hi hj AA g hg hg'
theorem Mem.nilCl {w0 w:World} {S:Nat→Prop} {L:List As} (M:Mem w0 S L w) {P:World→Prop} (hP:∀w2,P w2):Mem w0 S (As.cl [] P::L) w:=M.push Fr.refl _ (λw2 _=>hP w2) λg hg=>by cases hg
def cB (L:List Pa) (w:World):Prop:=∀x∈L,PaOk w x
theorem rX (w:World):cB [] w:=λx hx=>by cases hx
theorem Mem.rdNew {w0 w' w2:World} {L:List As} (M:Mem w0 AR L w') (i:Nat) {base e size n c:Nat} {A:Option Addr} {xs:List Value} (hi:L[i]?=some (As.own base e size (.slice A n c) n xs)) (hf:N7 w0.heap.size [] w' w2):Rd w2 A (n*size) xs:=
 L7 ((As.own base e size (.slice A n c) n xs).keep (λg hg hlt=>hf g (.inr ((M.lt i _ hi g hg).2.elim id False.elim)) hlt) (M.ok i _ hi))
theorem rY {w:World} {F Fc:List Nat} {L:List Pa} {b0 b1:Nat} {m:Md} {p:Option Addr} {er:Int} {c:CrA} {i:In} {V T:Option Addr} (vc tc:Nat) (hp:(As.cl F (cB L)).ok w) (hc:(As.crs m p er c Fc).ok w) (hn:er≠0→p=none) (hk:er=0→HM m=true∧MdOk m) (hr:(As.res b0 b1 [] (λw2=>Rd w2 V (i.vars.length*5) (AD Bd.cells i.vars)∧Rd w2 T (i.toks.length*9) (AD Tk.cells i.toks))).ok w) (hbd:BdOk i.vars) (htl:i.toks.length≤300) (hwk:∀t∈i.toks,(t.worker.length:Int)<4611686018427387904) :
 (As.cl (([]++List.range' b0 (b1-b0))++(Fc++F)) (cB (L++[⟨p,m,c,Fc,i,V,vc,T,tc⟩]))).ok w:=by
 intro w2 h2 x hx;rcases List.mem_append.1 hx with h|h
 ·exact hp w2 (λg hg=>h2 g (List.mem_append_right _ (List.mem_append_right _ hg))) x h
 ·obtain rfl:=List.mem_singleton.1 h;obtain ⟨hV,hT⟩:=hr w2 λg hg=>h2 g (List.mem_append_left _ hg)
  refine ⟨?_,hV,hT,hbd,htl,hwk⟩
  by_cases he:er=0
  ·obtain ⟨gc,h3,h4⟩:=(As.crs m p er c Fc).keep (λg hg=>h2 g (List.mem_append_right _ (List.mem_append_left _ hg))) hc he;exact .inr ⟨gc,h3,h4,hk he⟩
  ·exact .inl (hn he)
theorem Mem.pasOk {w0 w:World} {S:Nat→Prop} {Ls:List As} {F:List Nat} {L:List Pa} (M:Mem w0 S Ls w) (i:Nat) (hi:Ls[i]?=some (As.cl F (cB L))):cB L w:=M.ok i _ hi w λ_ _ _=>rfl
def sumP (l:List Pq):Nat:=(l.map λx=>x.i.toks.length+x.m.els.length).sum
theorem V5 (l:List Pq) (x:Pq):sumP (l++[x])=sumP l+(x.i.toks.length+x.m.els.length):=by simp [sumP]
theorem r5 {l:List Pq} {x:Pq} (h:x∈l):x.i.toks.length+x.m.els.length≤sumP l:=by
 induction l with
 | nil=>cases h
 | cons y r ih=>
  simp only [sumP,List.map_cons,List.sum_cons] at ih ⊢
  rcases List.mem_cons.1 h with rfl|h
  ·omega
  ·have:=ih h;omega
theorem mH {m:Md} (hb:MdB m) (h:HM m=true):MdOk m:=m9 hb (by
 unfold HM at h
 simp only [Bool.and_eq_true,Bool.not_eq_true',Bool.not_eq_false',decide_eq_true_eq] at h
 exact h.1)
theorem sK (m:Md) (a:MdA) (w:World) (hb:MdB m) (hM:MdIn w m a) (hY:Lay0 w) :
 Calls prog 16 #[.agg (Md.cells m a).toArray] w λe w'=>∃p er c F,e=.returned (.tuple #[.pointer p,AC er])∧(er=0→∃gc,p=some ⟨gc,0,none⟩∧CourseN w' m gc c F)∧(er=0→HM m=true∧MdOk m)∧(∀g∈F,w.heap.size≤g∧g<w'.heap.size)∧(er≠0→p=none)∧Fr0 w w':=
 (dJ m a w hb hM hY).mono λe w' ⟨h,hf⟩=>by
  rcases h with ⟨hn,gc,c,F,h1,h2,h3⟩|⟨_,h1⟩
  ·exact ⟨some ⟨gc,0,none⟩,0,c,F,h1,λ_=>⟨gc,X,h2⟩,λ_=>⟨hn,mH hb hn⟩,h3,λh=>absurd X h,hf⟩
  ·exact ⟨none,140,⟨⟨none,0,none,0,none,0⟩,0,0,0,0,0,[],[],[],λ_=>zeroEl,λ_=>false,λ_=>zeroFl,λ_=>false,λ_=>[],[],λ_=>[],[],λ_=>none,λ_=>none,[]⟩,[],h1,λz=>absurd z B3,λz=>absurd z B3,λg hg=>absurd hg (by simp),λ_=>X,hf⟩
structure Pqs (w:World) (A:Option Addr) (l:List Pq):Prop where
 rd:Rd w A (l.length*10) (AD Pq.cells l)
 ok:∀x∈l,PqOk w x
 ln:l.length≤reachBytes
theorem Pqs.fr0 {w w':World} {A:Option Addr} {l:List Pq} (h:Pqs w A l) (hf:Fr0 w w'):Pqs w' A l:=⟨h.rd.fr0 hf,λx hx=>(h.ok x hx).fr0 hf,h.ln⟩
def WQ (l:List Pq):Bool:=(decide ((8:Int)<((l.length:Nat):Int))) || (decide ((300:Int)<((sumP l:Nat):Int)))
theorem cG {x:Int} (h : -9223372036854775808≤x) (h2:x≤9223372036854775807):(IntKind.i64).wrap x=x:=by
 simp [IntKind.wrap,IntKind.bits,IntKind.signed];omega
theorem vN {w:World} {l:List Pq} {j:Nat} {x:Pq} (hx:l[j]?=some x) (ho:PqOk w x) (hs:sumP (l.take j)≤j*281474976702464):sumP (l.take (j+1))≤(j+1)*281474976702464:=by
 rw [AP hx,V5];have h1:=ho.eb;have h2:=ho.tb;simp only [reachBytes] at h1 h2
 omega
theorem l9 {w:World} {l:List Pq} {j:Nat} {x:Pq} {n:Int} (hx:l[j]?=some x) (ho:PqOk w x) (hn:l.length≤8→n=((sumP (l.take j):Nat):Int)) (hs:sumP (l.take j)≤j*281474976702464) (hj:j≤l.length):l.length≤8→((IntKind.i64).wrap ((IntKind.i64).wrap (n+(x.i.toks.length:Int))+(x.m.els.length:Int)))=((sumP (l.take (j+1)):Nat):Int):=λh8=>by
 have h1:=ho.eb;have h2:=ho.tb;simp only [reachBytes] at h1 h2
 rw [hn h8,AP hx,V5,cG (x:=((sumP (l.take j):Nat):Int)+_) AA AA,cG AA AA];omega
theorem mX {l:List Pq} {n:Int} (hn:l.length≤8→n=((sumP l:Nat):Int)):((decide (8<(l.length:Int))) || (decide ((300:Int)<n)))=WQ l:=by
 unfold WQ
 by_cases h:l.length≤8
 ·rw [hn h]
 ·rw [decide_eq_true (show (8:Int)<(l.length:Int) by omega)];rfl
theorem iE {l:List Pq} (h:WQ l=false):l.length≤8∧∀x∈l,x.i.toks.length≤300∧x.m.els.length≤300:=by
 have h1:=odf (C6 h).1;have h2:=odf (C6 h).2;exact ⟨by omega,λx hx=>by have:=r5 hx;omega⟩
theorem wD {x y z:List Nat}:∀g∈x++(y++z),g∈x∨g∈y∨g∈z:=λ_ hg=>(List.mem_append.1 hg).imp id List.mem_append.1
theorem HQ (a0:Option Addr) (c1_0 c1_1 c1_2 c1_3 c1_4:Value):prog.built 36 [(0,.pointer a0),(1,.agg #[c1_0,c1_1,c1_2,c1_3,c1_4])]=some #[.pointer a0,c1_0,c1_1,c1_2,c1_3,c1_4]:=by kernel_rfl
theorem RH : (prog.info? 36).map (λi=>(i.zero,i.size,i.bytes))=some (some (.agg #[.pointer none,AC 0,str [],.int .u8 0,.slice none 0 0,.slice none 0 0]),6,88):=by kernel_rfl
theorem MR : (prog.info? 36).map (λi=>(i.zero,i.size))=some (some (.agg #[.pointer none,AC 0,str [],.int .u8 0,.slice none 0 0,.slice none 0 0]),6):=by kernel_rfl
theorem LP : (prog.info? 33).map (·.zero)=some (some (.agg #[AC 0,str [],.int .u8 0,.slice none 0 0,.slice none 0 0])):=by kernel_rfl
theorem mJ (i:In) (V T:Option Addr) (vc tc:Nat) (w:World) (htl:i.toks.length≤300) (hvl:i.vars.length*56≤reachBytes) (hV:Rd w V (i.vars.length*5) (AD Bd.cells i.vars)) (hT:Rd w T (i.toks.length*9) (AD Tk.cells i.toks)) :
 Calls prog 17 #[.agg (In.cells i V T vc tc).toArray] w λe w'=>∃V' vc' T' tc',e=.returned (.agg (In.cells i V' T' vc' tc').toArray)∧(∀w2,N7 w.heap.size [] w' w2→Rd w2 V' (i.vars.length*5) (AD Bd.cells i.vars)∧Rd w2 T' (i.toks.length*9) (AD Tk.cells i.toks))∧Fr0 w w':=by
 simp only [reachBytes] at hvl
 refine BH func17 ntmps17 X λM=>srg (CC M X X λg1 w1 hg1 M=>CI M X LP λg2 w2 hg2 M=>EV (CB M 1 X X underlying33 CF X (CI M X LP λg3 w3 hg3 M=>BD M 0 X X CF X λw4 M=>?_)))
 refine nq (AE X (gp1 M 0 X X X HG λw5 M=>nq (AE X (AU M 0 X X X (yb X (AU M 2 X X X ?_))))));have M:=M.nilOwn 103 5;refine DE (len':=i.vars.length) (xs':=AD Bd.cells i.vars) M 0 (wn_none X) X X X X X X (hV.fr0 M.fr) underlying24 O1 X B3 (DS Bd.cells_one) (Nat.le_refl _) (Nat.le_refl _) C2 (by unfold maxLen;first|omega|(simp;omega)) (by simp) (by first|exact (B9 _ _ _).symm|simp [AD]) λA10 c10 w6 M=>yb X (gp1 M 1 X X X HG λw7 M=>nq (AE X (gp1 M 1 X X X IG λw8 M=>EV ?_)))
 refine yb X (AU M 1 X X X (yb X (AU M 3 X X X ?_)));have M:=M.nilOwn 56 9;refine DE (len':=i.toks.length) (xs':=AD Tk.cells i.toks) M 0 (wn_none X) X X X X X X (hT.fr0 M.fr) underlying31 FB X B3 (DS Tk.cells_one) (Nat.le_refl _) (Nat.le_refl _) C2 (by unfold maxLen;first|omega|(simp;omega)) (by simp) (by first|exact (B9 _ _ _).symm|simp [AD]) λA17 c17 w9 M=>yb X (gp1 M 2 X X X IG λw10 M=>EV (CB M 2 X X underlying33 CF X (BD M 3 X X CF X λw11 M=>gnr (E3 X X (M.rdBlk 3 X X) underlying33 X CF ?_))))
 exact ⟨_,_,_,_,X,λw2 h2=>⟨M.rdNew 1 X h2,M.rdNew 0 X h2⟩,M.fr⟩
theorem iD (A:Option Addr) (cp:Nat) (l:List Pq) (w:World) (hP:Pqs w A l) :
 Calls prog 7 #[.slice A l.length cp] w (BI w (.bool (WQ l))):=by
 have hln:=hP.ln;simp only [reachBytes] at hln
 refine BH func7 ntmps7 X λM=>srg (AJ X (srg (AJ X (sx_seq (AE X (sxl_nil ?_))))))
 refine qx_seq (sx_block (JJ M [0] (λze zF e wr mz=>∃(j:Nat) (n:Int),e=(3,AC n)::(4,AC (j:Int))::ze∧zF wr∧(j≤l.length)∧(l.length≤8→n=((sumP (l.take j):Nat):Int))∧(sumP (l.take j)≤j*281474976702464)∧mz=l.length-j) ⟨0,0,X,M,Nat.zero_le _,λ_=>X,by simp [sumP],rfl⟩ ?_));rintro _ w1 _ ⟨j,n,rfl,M,hj,hn,hs,rfl⟩;refine sx_seq (AE X (yb X (DF X X (BB X X (nq (AF X (λh8=>?_) (λh8=>?_)))))))
 ·have h8p:=(odt h8);refine sx_skip (qx_seq (sx_seq (sx_block (E8 CH gkr ?_))));have M:=M.drew;refine sb X (sb X (sb X ?_));obtain ⟨x,hx⟩:=BM (l:=l) (i:=j) AA;obtain ⟨b_x,o_x,hA_x⟩:=B5 (k:=10) AA ((hP.fr0 M.fr).rd) hx;refine sa X (AN j hA_x X X X (sl X) AA) (sb X (sb X (sd X X (D9 Pq.len ((hP.fr0 M.fr).rd) hA_x hx 9 X) (sa X (FM X X (sl X)) (sa X (W3 X X X) (sb X (sb X (sa X (AN j hA_x X X X (sl X) AA) (sb X (sb X (sd X X (D9 Pq.len ((hP.fr0 M.fr).rd) hA_x hx 3 X) (sa X (FM X X (sl X)) (sa X (W3 X X X) (sb X (EX ?_)))))))))))))));refine qx_block_normal (qx_seq (sx_region (yb X (BV X X (yb X (sxl_nil (fag ⟨j+1,((IntKind.i64).wrap (((IntKind.i64).wrap (n+(x.i.toks.length:Int)))+(x.m.els.length:Int))),X,M,?_,?_,?_,X⟩)))))))
  ·omega
  ·exact l9 hx (hP.ok _ (List.mem_of_getElem? hx)) hn hs hj
  ·exact vN hx (hP.ok _ (List.mem_of_getElem? hx)) hs
 ·have h8p:=(odf h8);refine sx_exit (qx_then_exit (qx_then_exit ?_));obtain rfl:j=l.length:=by omega
  rw [List.take_length] at hn
  refine qx_block_hit (qx_seq (AE X (DF X X (IM X X (yb X (fvm M 3 [] [(34,.bool ((decide (8<(l.length:Int))) || (decide ((300:Int)<n))))] ?_ (λk31=>?_)))))))
  ·intro w2 M;exact yb X (gnr (gr1 X ⟨by rw [mX hn],M.fr⟩))
  refine AI (d:=31) X (λh31=>?_) (λh31=>?_)
  ·exact yo X (yo X (yb X (k31 M ⟨(by rw [h31];rfl),trivial⟩)))
  ·exact gyq X (yd X (GU X X X) (yb X (k31 M ⟨(by rw [h31];rfl),trivial⟩)))
theorem aV (A:Option Addr) (cp:Nat) (l:List Pq) (w:World) (hP:Pqs w A l) (hbig:∀x∈l,x.i.toks.length≤300∧x.m.els.length≤300) (hl:l.length≤8) (hY:Lay0 w) :
 Calls prog 8 #[.slice A l.length cp] w λe w'=>∃(L:List Pa) (A':Option Addr) (c':Nat),e=.returned (.slice A' L.length c')∧w'.ownsRow w.heap.size 36 6 (.slice A' L.length c') L.length (AD Pa.cells L)∧(∀x∈L,PaOk w' x)∧L.map (λx=>x.i)=l.map (λx=>x.i)∧L.length=l.length∧Fr0 w w':=by
 refine BH func8 ntmps8 X λM=>srg (AJ X (srg (AJ X (sx_seq (AE X (sxl_nil ?_))))))
 refine qx_seq (sx_block ?_);have M:=M.nilOwn 36 6;have M:=M.nilCl (P:=cB []) rX;refine flp [0] (λze e wr mz=>∃(j:Nat) (acc:List Pa) (A3:Option Addr) (c3:Nat) (F:List Nat),e=(3,.slice A3 acc.length c3)::(4,AC (j:Int))::ze∧Mem w AR [As.cl F (cB acc),As.own w.heap.size 36 6 (.slice A3 acc.length c3) acc.length (AD Pa.cells acc)] wr∧(j≤l.length)∧(acc.map (λx=>x.i)=(l.take j).map (λx=>x.i))∧(acc.length=j)∧mz=l.length-j) ⟨0,[],none,0,[],X,M,Nat.zero_le _,X,X,X⟩ ?_;rintro _ w1 _ ⟨j,acc,A3,c3,F,rfl,M,hj,hacc,hal,rfl⟩;refine sx_seq (AE X (yb X (DF X X (BB X X (nq (AF X (λh10=>?_) (λh10=>?_)))))))
 ·have h10p:=(odt h10);refine sx_skip (qx_seq (sx_seq (sx_block (AE X (yb X ?_)))));obtain ⟨x,hx⟩:=BM (l:=l) (i:=j) AA;obtain ⟨b_x,o_x,hA_x⟩:=B5 (k:=10) AA ((hP.fr0 M.fr).rd) hx;refine ya X (AN j hA_x X X X (sl X) AA) (yb X (ya X (AK (xs:=Md.cells x.m x.a) X X (WJ Pq.len ((hP.fr0 M.fr).rd) hA_x hx 0 5 X X) underlying62 X BN) (cl 19 X (AG X X call16) (sK x.m x.a _ ((hP.ok _ (List.mem_of_getElem? hx)).b (hbig _ (List.mem_of_getElem? hx)).2) ((hP.ok _ (List.mem_of_getElem? hx)).fr0 M.fr).md (hY.fr0 M.fr)) ?_)));rintro _ w2 ⟨p,er,c,Fc,rfl,hcr,hnk,hnc,hnil,hfw2⟩;refine ⟨_,X,?_⟩;have M:=M.push hfw2 (As.crs x.m p er c Fc) hcr hnc;iterate 5 refine yb X ?_
  refine nq (sx_region ?_);iterate 4 refine yb X ?_
  refine ya X (AN j hA_x X X X (sl X) AA) (yb X (ya X (AK (xs:=In.cells x.i x.V x.T x.vc x.tc) X X (WJ Pq.len ((hP.fr0 M.fr).rd) hA_x hx 5 5 X X) underlying33 X CF) (cl 29 X (AG X X call17) (mJ x.i x.V x.T x.vc x.tc _ (hbig _ (List.mem_of_getElem? hx)).1 (hP.ok _ (List.mem_of_getElem? hx)).vb ((hP.ok _ (List.mem_of_getElem? hx)).fr0 M.fr).V ((hP.ok _ (List.mem_of_getElem? hx)).fr0 M.fr).T) ?_)));rintro _ w3 ⟨V',vc',T',tc',rfl,hres,hfw3⟩;refine ⟨_,X,?_⟩;have M:=M.push hfw3 (As.res _ _ [] (λw2=>Rd w2 V' (x.i.vars.length*5) (AD Bd.cells x.i.vars)∧Rd w2 T' (x.i.toks.length*9) (AD Tk.cells x.i.toks))) (λw2 h2=>hres w2 (S5 h2)) (RR);refine ya X (AY (parts:=[(0,_),(1,_)]) X X (HQ _ _ _ _ _ _)) (CN M (wn_none X) X X [.agg #[.pointer p,AC x.i.id,str x.i.mdl,.int .u8 (x.i.st.toNat:Int),.slice V' x.i.vars.length vc',.slice T' x.i.toks.length tc']] ([.pointer p,AC x.i.id,str x.i.mdl,.int .u8 (x.i.st.toNat:Int),.slice V' x.i.vars.length vc',.slice T' x.i.toks.length tc']) X X X X underlying29 MR X X (FP X) X λg31 w4 hg31 M=>DE (len':=(acc++[(⟨p,x.m,c,Fc,x.i,V',vc',T',tc'⟩:Pa)]).length) (xs':=AD Pa.cells (acc++[(⟨p,x.m,c,Fc,x.i,V',vc',T',tc'⟩:Pa)])) M 4 (wn_none X) X X X X X X (M.rdBlk 0 X X) underlying29 RH X B3 (CL X) (Nat.le_refl _) (Nat.le_refl _) C2 (by unfold maxLen;first|omega|(simp;omega)) (by simp) (by first|exact (B9 _ _ _).symm|simp [AD,Pa.cells,In.cells]) λA32 c32 w5 M=>yb X (sxl_nil (qx_block_normal (qx_seq (sx_region (yb X (BV X X (yb X (sxl_nil ?_)))))))));have hpas:=rY vc' tc' (M.ok 3 _ X) (M.ok 2 _ X) hnil hnk (M.ok 1 _ X) (hP.ok _ (List.mem_of_getElem? hx)).bd (hbig _ (List.mem_of_getElem? hx)).1 (hP.ok _ (List.mem_of_getElem? hx)).wk;have M:=(M.pk [1,2,3,0,4]).meet3 _ (wD) hpas;refine fag ⟨j+1,acc++[(⟨p,x.m,c,Fc,x.i,V',vc',T',tc'⟩:Pa)],A32,c32,_,X,(M.pk [0,2]),?_,?_,?_,X⟩
  ·omega
  ·rw [AP hx,List.map_append,List.map_append,hacc];rfl
  ·simp;omega
 ·have h10p:=(odf h10);refine sx_exit (qx_then_exit (qx_then_exit ?_));obtain rfl:j=l.length:=by omega
  rw [List.take_length] at hacc
  exact qx_block_hit (qx_seq (AE X (yb X (gnr (gr1 X ⟨acc,A3,c3,X,M.own 1 X,M.pasOk 0 X,hacc,hal,M.fr⟩)))))
theorem nE (A:Option Addr) (cp:Nat) (fc:FuncId) (w:World):Calls prog 187 #[.slice A 1 cp,AC 0,AC 1,.func (.func fc) #[] #[]] w (BI w (.tuple #[])):=by
 refine BH func187 ntmps187 X λM=>AE X (BV X X (AJ X (sx_block (sx_loop (λe wr mz=>e=[(0,.slice A 1 cp),(1,AC 0),(2,AC 1),(3,.func (.func fc) #[] #[]),(8,AC 1)]∧Mem w AR [] wr∧mz=0) ⟨X,M,X⟩ ⟨X,X,X,X,X,trivial⟩ ?_))))
 rintro _ w1 _ ⟨rfl,M,rfl⟩;exact sx_seq (AE X (yb X (BB X X (nq (sx_false X (sx_exit (qx_then_exit (qx_then_exit (qx_block_hit (qx_ret0 (Or.inr X) X ⟨X,M.fr⟩))))))))))
theorem fN (A:Option Addr) (cp:Nat) (fc:FuncId) (w:World):Calls prog 155 #[.slice A 1 cp,AC 1,.func (.func fc) #[] #[]] w (BI w (.tuple #[])):=by
 refine BH func155 ntmps155 X λM=>srg (AJ X (AE X (yb X (AJ X (sx_seq (sx_block (sx_loop (λe wr mz=>e=[(0,.slice A 1 cp),(1,AC 1),(2,.func (.func fc) #[] #[]),(6,AC 20),(7,AC 0),(8,AC 20)]∧Mem w AR [] wr∧mz=0) ⟨X,M,X⟩ ⟨X,X,X,X,X,X,trivial⟩ ?_)))))))
 rintro _ w1 _ ⟨rfl,M,rfl⟩;refine sx_seq (AE X (yb X (MT X X (nq (sx_false X (sx_exit (qx_then_exit (qx_then_exit (qx_block_hit (qx_seq (srg ?_)))))))))));iterate 4 refine yb X ?_
 refine CD M 27 X X call187 (nE A cp fc _) λw2 M=>nq (sx_block (sx_loop (λe wr mz=>e=[(0,.slice A 1 cp),(1,AC 1),(2,.func (.func fc) #[] #[]),(6,AC 20)]∧Mem w AR [] wr∧mz=0) ⟨X,M,X⟩ ⟨X,X,X,X,trivial⟩ ?_))
 rintro _ w3 _ ⟨rfl,M,rfl⟩;exact sx_seq (AE X (yb X (BB X X (nq (sx_false X (sx_exit (qx_then_exit (qx_then_exit (qx_block_hit (qx_ret0 (Or.inr X) X ⟨X,M.fr⟩))))))))))
theorem fQ (A:Option Addr) (cp:Nat) (fc:FuncId) (w:World):Calls prog 98 #[.slice A 1 cp,.func (.func fc) #[] #[]] w (BI w (.tuple #[])):=by
 exact BH func98 ntmps98 X λM=>sx_region (AV X X (DF X X (yb X (CD M 8 X X call155 (fN A cp fc _) λw1 M=>sxl_nil (qx_ret0 (Or.inr X) X ⟨X,M.fr⟩)))))
theorem r8 : QU (λk=>k=1):=λbase A c n l w hk _ hn ho=>by
 have hk:l.length=1:=hk;obtain rfl:n=1:=by omega
 refine (fQ A c 99 w).mono ?_;rintro e w' ⟨rfl,hf⟩;exact ⟨X,l,List.Perm.refl _,(As.own base 139 5 (.slice A 1 c) 1 (AD Ar.cells l)).keep (λk _ hk=>hf.block k hk (λhh=>hh)) ho,Fr.of0 hf⟩
end Go.Proofs.YtaheakjfkpkefaaGreatDoor
