/- Lemmas. -/
import Derived.Test.YtaheakjfkpkefaaGreatDoorVMw9
set_option maxHeartbeats 16000000
set_option maxRecDepth 100000
namespace Go.Proofs.YtaheakjfkpkefaaGreatDoor
open Go.RowKit
section
section
variable {m:Md} {c:CrA}
theorem SV {t:Tk} (h:ET m c t=true) (hl:t.loc=[]):c.isF t.on=true∧(t.inc.toNat=0∨t.inc.toNat=1):=by
 unfold ET at h
 rw [if_pos (by simpa using hl)] at h
 split at h<;>simp only [Bool.and_eq_true,Tk.same,decide_eq_true_eq] at h
 ·refine ⟨h.1.1,.inr ?_⟩
  have:(t.inc.toNat:Int)=(1:Int):=h.2.2.2.2.2.2.2.2.1
  omega
 ·refine ⟨h.1.1,.inl ?_⟩
  have:=h.2.2.2.2.2.2.2.2.1
  simpa using this
theorem YE {t:Tk} (h:ET m c t=true) (hl:¬t.loc=[]):c.isA t.loc=true∧t.on=[]∧(((c.atf t.loc).kind.toNat=4∧(t.inc.toNat=0∨t.inc.toNat=2))∨(((c.atf t.loc).kind.toNat=3∨(c.atf t.loc).kind.toNat=7∨(c.atf t.loc).kind.toNat=8)∧t.inc.toNat=0)):=by
 unfold ET at h
 rw [if_neg (by simpa using hl)] at h
 split at h
 ·rename_i h4
  have h4:=odt h4
  split at h<;>simp only [Bool.and_eq_true,Tk.same,decide_eq_true_eq] at h
  ·refine ⟨h.1.1.1,h.1.1.2.2.2.1,.inl ⟨by omega,.inr ?_⟩⟩
   have:(t.inc.toNat:Int)=(2:Int):=h.1.1.2.2.2.2.2.2.2.2.1
   omega
  ·refine ⟨h.1.1.1,h.1.1.2.2.2.1,.inl ⟨by omega,.inl ?_⟩⟩
   have:=h.1.1.2.2.2.2.2.2.2.2.1
   simpa using this
 ·split at h
  ·rename_i h8
   have h8:=odt h8;simp only [Bool.and_eq_true,Tk.same,decide_eq_true_eq] at h
   refine ⟨h.1.1,h.1.2.2.2.1,.inr ⟨.inr (.inr AA),?_⟩⟩
   have:=h.1.2.2.2.2.2.2.2.2.1
   simpa using this
  ·simp only [Bool.and_eq_true,Bool.or_eq_true,Tk.same,decide_eq_true_eq] at h
   refine ⟨h.1.1,h.1.2.2.2.1,.inr ⟨by rcases h.2 with h|h<;>omega,?_⟩⟩
   have:=h.1.2.2.2.2.2.2.2.2.1
   simpa using this
theorem u7 {i:In} {next k:Int} {b1:Bool} {j:Nat} {y:Tk} (h:NQ m c i next k b1 j y=true):b1=true∧(ET m c y=true∧O5 y k=true∧1≤y.id∧y.id≤next)∧(j=0∨gJ i j<y.id):=by
 unfold NQ at h
 split at h
 ·rename_i h1
  split at h
  ·rename_i h2
   split at h
   ·rename_i h3
    split at h
    ·split at h
     ·rename_i h5
      split at h
      ·rename_i h6;exact ⟨h1,⟨h6,h,odt h2,odt h3⟩,.inl (by have:=odt h5;omega)⟩
      ·cases h
     ·split at h
      ·rename_i h5
       split at h
       ·rename_i h6;exact ⟨h1,⟨h6,h,odt h2,odt h3⟩,.inr (odt h5)⟩
       ·cases h
      ·cases h
    ·cases h
   ·cases h
  ·cases h
 ·cases h
theorem S0 {i:In} {next k:Int} {b0:Bool}:∀{j:Nat},bQ m c i next k b0 j=true→b0=true∧∀q y,q<j→i.toks[q]?=some y→(ET m c y=true∧O5 y k=true∧1≤y.id∧y.id≤next)∧(q=0∨gJ i q<y.id)
 | 0,h=>⟨h,λq y hq=>absurd hq (Nat.not_lt_zero _)⟩
 | j+1,h=>by
  rw [bQ] at h
  cases hj:i.toks[j]? with
  | none=>
   rw [hj] at h
   obtain ⟨h1,h2⟩:=S0 h;refine ⟨h1,λq y hq hy=>?_⟩
   by_cases hqj:q=j
   ·subst hqj;rw [hj] at hy;cases hy
   ·exact h2 q y AA hy
  | some y0=>
   rw [hj] at h
   have h9:=u7 h;obtain ⟨h1,h2⟩:=S0 h9.1;refine ⟨h1,λq y hq hy=>?_⟩
   by_cases hqj:q=j
   ·subst hqj;rw [hj] at hy;injection hy with hy;subst hy;exact h9.2
   ·exact h2 q y AA hy
theorem u9 {i:In} {next k:Int} (h:QM m i next k=true):0≤next∧next≤2147483647∧0≤k∧k≤1099511627776∧i.mdl=m.id∧FN i.vars m.vars=true:=by
 have h0:JX m i next k=true:=by
  cases hc:JX m i next k with
  | true=>rfl
  | false=>unfold QM at h;rw [hc] at h;simp at h
 unfold JX at h0
 split at h0
 ·rename_i hc
  simp only [Bool.and_eq_true,decide_eq_true_eq] at hc
  obtain ⟨⟨⟨⟨⟨⟨a1,a2⟩,a3⟩,a4⟩,a5⟩,_⟩,_⟩:=hc;exact ⟨a1,a2,a3,a4,a5,h0⟩
 ·cases h0
theorem PP {i:In} {next k:Int} (h:E2 m c i next k=true):(0≤next∧next≤2147483647∧0≤k∧k≤1099511627776∧i.mdl=m.id∧FN i.vars m.vars=true)∧∀y∈i.toks,ET m c y=true∧O5 y k=true∧1≤y.id∧y.id≤next:=by
 unfold E2 at h
 rw [Bool.and_eq_true] at h
 obtain ⟨h1,h2⟩:=S0 h.1;refine ⟨u9 h1,λy hy=>?_⟩;obtain ⟨q,hq,he⟩:=List.mem_iff_getElem.1 hy;exact (h2 q y hq (by rw [List.getElem?_eq_getElem hq,he])).1
theorem U2 {i:In} {next k:Int} (h:E2 m c i next k=true):∀(d q:Nat) (y z:Tk),i.toks[q]?=some y→i.toks[q+1+d]?=some z→y.id<z.id:=by
 unfold E2 at h
 rw [Bool.and_eq_true] at h
 have h2:=(S0 h.1).2
 have one:∀(q:Nat) (y z:Tk),i.toks[q]?=some y→i.toks[q+1]?=some z→y.id<z.id:=λq y z hy hz=>by
  rcases (h2 (q+1) z (List.getElem?_eq_some_iff.1 hz).1 hz).2 with h3|h3
  ·omega
  ·unfold gJ at h3
   rw [Nat.add_sub_cancel,hy] at h3
   exact h3
 intro d
 induction d with
 | zero=>exact one
 | succ d ih=>
  intro q y z hy hz;have hlt:q+1+d<i.toks.length:=by have:=(List.getElem?_eq_some_iff.1 hz).1;omega
  have hx:i.toks[q+1+d]?=some i.toks[q+1+d]:=List.getElem?_eq_getElem hlt;have h3:=ih q y _ hy hx;have h4:=one (q+1+d) _ z hx hz;omega
theorem U1 {i:In} {next k:Int} (h:E2 m c i next k=true) {q r:Nat} {y z:Tk} (hy:i.toks[q]?=some y) (hz:i.toks[r]?=some z) (he:y.id=z.id):q=r:=by
 rcases Nat.lt_trichotomy q r with hlt|h0|hlt
 ·have:=U2 h (r-(q+1)) q y z hy (by rw [show q+1+(r-(q+1))=r by omega];exact hz)
  omega
 ·exact h0
 ·have:=U2 h (q-(r+1)) r z y hz (by rw [show r+1+(q-(r+1))=q by omega];exact hy)
  omega
variable (R:Rl m)
include R
theorem tO {x:El} (hx:x∈m.els) (h7:x.kind.toNat=7) {f:Fl} (hf:f∈m.fls) (hfx:f.frm=x.id):∃y∈m.els,y.id=f.tg∧y.kind.toNat=8:=by
 obtain ⟨y,hy,hyi,_⟩:=R.ends hf;refine ⟨y,hy,hyi,?_⟩;have h4:=R.four x hx;unfold JB at h4
 rw [if_neg (by simp [h7]),if_neg (by simp [h7]),if_neg (by simp [h7]),if_pos (by simp [h7])] at h4
 split at h4
 ·have h5:OG m f=false:=by
   cases hq:OG m f with
   | false=>rfl
   | true=>
    rw [Bool.not_eq_true',List.any_eq_false] at h4
    exact absurd hq (h4 f (List.mem_filter.2 ⟨hf,by simp [hfx]⟩))
  unfold OG at h5
  rw [←hyi,oH R.els hy] at h5
  simp only [Bool.or_eq_false_iff,Bool.not_eq_false',decide_eq_true_eq] at h5
  have:=h5.1
  simp only [Option.getD_some] at this
  omega
 ·cases h4
variable (Z:Cz m c)
include Z
theorem YQ {k:List UInt8} (h0:(c.atf k).kind.toNat≠0) (h2:(c.atf k).kind.toNat≠2):0<(c.outs k).length∧∃x∈m.els,x.id=k∧c.atf k=x:=by
 rcases eU m k with ⟨x,hx,rfl⟩|h
 ·rw [VP R Z hx] at h2
  exact ⟨I8 R Z hx h2,x,hx,X,VP R Z hx⟩
 ·rw [Z.eA,(ZX h).1] at h0;exact absurd rfl h0
theorem KD {t:Tk} {via:List UInt8} (hv:via∈DJ m c t∨((c.atf t.loc).kind.toNat=4∧via=t.loc)):0<(c.outs via).length∧∃x∈m.els,x.id=via∧c.atf via=x:=by
 rcases hv with hv|⟨h4,rfl⟩
 ·unfold DJ at hv
  split at hv
  ·cases hv
  ·rcases List.mem_append.1 hv with hv|hv
   ·unfold aU at hv
    split at hv
    ·rename_i hk
     simp only [Bool.or_eq_true,decide_eq_true_eq] at hk
     rw [List.mem_singleton] at hv
     rw [hv];exact YQ R Z AA AA
    ·split at hv
     ·rename_i hk
      have hk:=odt hk;obtain ⟨k,hk2,rfl⟩:=List.mem_map.1 hv;obtain ⟨f,hf,rfl,hfr,x,hx,hxi⟩:=QK R Z hk2;rw [(oM R Z hf).1];have hk7:x.kind.toNat=7:=by rw [←hxi,VP R Z hx] at hk;omega
      obtain ⟨y,hy,hyi,hy8⟩:=tO R hx hk7 hf (by rw [hfr,hxi]);rw [←hyi];exact ⟨I8 R Z hy AA,y,hy,X,VP R Z hy⟩
     ·cases hv
   ·obtain ⟨k,_,hk⟩:=List.mem_flatMap.1 hv;unfold DB at hk
    obtain ⟨x,hx,rfl⟩:=List.mem_map.1 hk;obtain ⟨hx1,hx2⟩:=List.mem_filter.1 hx;simp only [Bool.and_eq_true,decide_eq_true_eq] at hx2
    exact ⟨I8 R Z hx1 AA,x,hx1,X,VP R Z hx1⟩
 ·exact YQ R Z AA AA
theorem TX {t:Tk} {via:List UInt8} (hp:ET m c t=true) (ho:(DW m c t via).2.2=true):c.isF (DW m c t via).1=true∧(DW m c t via).2.1.length≤1:=by
 have hin:∀via,¬(!(List.any (DJ m c t) (λz=>decide (via=z))))=true→via∈DJ m c t:=λvia h=>by
  simp only [Bool.not_eq_true',Bool.not_eq_false,List.any_eq_true,decide_eq_true_eq] at h
  obtain ⟨z,hz,rfl⟩:=h;exact hz
 generalize hE:DW m c t via=e at ho ⊢
 unfold DW at hE
 split at hE
 ·rename_i hc
  simp only [Bool.and_eq_true,decide_eq_true_eq] at hc
  subst hE
  have hl:t.loc=[]:=Classical.byContradiction λhl=>by
   have:=(YE hp hl).2.2
   omega
  refine ⟨?_,Nat.zero_le _⟩
  show c.isF via=true
  rw [hc.2];exact (SV hp hl).1
 ·split at hE
  ·rename_i hc
   simp only [Bool.and_eq_true,decide_eq_true_eq] at hc
   subst hE;exact ⟨JW R Z (KP (KD R Z (.inr ⟨by omega,hc.2⟩)).1),Nat.le_refl _⟩
  ·split at hE
   ·subst hE;cases ho
   ·rename_i hn
    split at hE
    ·subst hE;exact ⟨JW R Z (KP (KD R Z (.inl (hin _ hn))).1),Nat.le_refl _⟩
    ·subst hE;exact ⟨JW R Z (KP (KD R Z (.inl (hin _ hn))).1),Nat.le_refl _⟩
omit R Z in
theorem dY {nm:List UInt8}:∀{l k:List Bd} {i:Nat},FN l k=true→(k.map (·.name)).Nodup→∀z∈k,z.name=nm→∃v,(ffN (λ(_:Nat) (b:Bd) => !(decide (b.name=nm))) i l).map (·.v)=some v∧v.kind.toNat=z.v.kind.toNat
 | [],[],_,_,_,z,hz,_=>by cases hz
 | [],_::_,_,h,_,_,_,_=>by cases h
 | _::_,[],_,h,_,_,_,_=>by cases h
 | a::r,b::s,i,h,hn,z,hz,he=>by
  rw [FN,Bool.and_eq_true] at h
  rw [List.map_cons,List.nodup_cons] at hn
  have h1:=h.1;unfold W5 at h1
  simp only [Bool.and_eq_true,decide_eq_true_eq] at h1
  rcases List.mem_cons.1 hz with rfl|hz
  ·refine ⟨a.v,?_,by omega⟩;rw [ffN,if_neg (by simp [h1.1.1,he])];rfl
  ·have hne:¬a.name=nm:=λe=>hn.1 (by rw [←h1.1.1,e,←he];exact List.mem_map_of_mem hz)
   rw [ffN,if_pos (by simp [hne])];exact dY h.2 hn.2 z hz he
theorem cJ {t:Tk} {vars:List Bd} (hv:FN vars m.vars=true) {k:List UInt8} (hk:k∈DJ m c t):(GF c k t.born vars).2=0∧(GF c k t.born vars).1.via=k:=by
 obtain ⟨_,x,hx,_,he⟩:=KD R Z (.inl hk);unfold GF
 split
 ·exact ⟨X,X⟩
 ·split
  ·rename_i h2
   rw [he] at h2 ⊢
   have h8:=R.eight x hx;unfold MZ at h8
   rw [h2] at h8
   simp only [Bool.not_true,Bool.false_or,List.any_eq_true] at h8
   obtain ⟨z,hz,h81⟩:=h8;unfold NH at h81
   simp only [Bool.and_eq_true,decide_eq_true_eq] at h81
   obtain ⟨v,hv1,hv2⟩:=dY (i:=0) hv R.vars z hz h81.1;have hf:MU vars x.key=some v:=hv1;rw [hf];rw [if_neg (by simp),if_neg (by simp only [Option.getD_some,Bool.not_eq_true',decide_eq_false_iff_not,Decidable.not_not];omega)];exact ⟨X,X⟩
  ·exact ⟨X,X⟩
theorem cM {t:Tk} {vars:List Bd} (hv:FN vars m.vars=true):∀l:List (List UInt8),(∀k∈l,k∈DJ m c t)→W4 c t vars l=none
 | [],_=>rfl
 | k::r,h=>by
  rw [W4,if_neg (by rw [(cJ R Z hv (h k List.mem_cons_self)).1];decide)];exact cM hv r λq hq=>h q (List.mem_cons_of_mem _ hq)
theorem jV {t:Tk} {vars:List Bd} (hv:FN vars m.vars=true) (hp:ET m c t=true):D7 m c t vars=((DJ m c t).map (λk=>(GF c k t.born vars).1),0)∧(D7 m c t vars).1.map (·.via)=DJ m c t:=by
 have h1:D7 m c t vars=((DJ m c t).map (λk=>(GF c k t.born vars).1),0):=by
  unfold D7;rw [if_neg (by simp [hp]),cM R Z hv _ λk hk=>hk]
 refine ⟨h1,?_⟩;rw [h1,List.map_map];exact (List.map_congr_left λk hk=>(cJ R Z hv hk).2).trans (List.map_id _)
omit R Z
theorem j6 {t:Tk} {via:List UInt8} (hv:via∈DJ m c t):(DW m c t via).2.2=true:=by
 unfold DW
 split
 ·rfl
 ·split
  ·rfl
  ·split
   ·rename_i h
    simp only [Bool.not_eq_true',List.any_eq_false,decide_eq_true_eq] at h
    exact absurd X (h _ hv)
   ·split<;>rfl
end
end
open Tryz
def ixT (tid:Int) (l:List Tk):Int:=ixJ (λ(_:Nat) (t:Tk)=>decide (t.id=tid)) 0 l
theorem tB {p:Tk→Bool} {l:List Tk}:∀(i:Nat),0≤ixJ (λ(_:Nat) (b:Tk)=>p b) i l→∃j a,ixJ (λ(_:Nat) (b:Tk)=>p b) i l=((i+j:Nat):Int)∧l[j]?=some a:=by
 induction l with
 | nil=>intro i h;simp [ixJ] at h
 | cons b r ih=>
  intro i h;unfold ixJ at h ⊢
  by_cases hb:p b=true
  ·exact ⟨0,b,by rw [if_pos hb];rfl,rfl⟩
  ·rw [if_neg hb] at h ⊢
   obtain ⟨j,a,h1,h2⟩:=ih (i+1) h;exact ⟨j+1,a,by rw [h1];congr 1;omega,by simpa using h2⟩
theorem wW {tid:Int} {l:List Tk} (h:¬ixT tid l<0):∃j y,ixT tid l=((j:Nat):Int)∧l[j]?=some y:=by
 obtain ⟨j,a,h1,h2⟩:=tB (p:=λt=>decide (t.id=tid)) 0 (Int.not_lt.1 h);exact ⟨j,a,by unfold ixT;rw [h1,Nat.zero_add],h2⟩
def CmY (m:Md) (c:CrA) (i:In) (tid:Int) (via:List UInt8) (next clock:Int) (j:Nat) (y:Tk):Prop:=E2 m c i next clock=true∧ixT tid i.toks=((j:Nat):Int)∧i.toks[j]?=some y∧(DW m c y via).2.2=true
def As.res (b0 b1:Nat) (F0:List Nat) (P:World→Prop):As:=⟨F0++List.range' b0 (b1-b0),λw=>∀w2,(∀g∈F0++List.range' b0 (b1-b0),g<w.heap.size→w2.heap[g]?=w.heap[g]?)→P w2,λ{w w'} h hb w2 h2=>hb w2 λg hg hlt=>by
 have h3:=h g hg hlt
 have hlt':g<w'.heap.size:=by
  rw [Array.getElem?_eq_getElem hlt] at h3
  exact (Array.getElem?_eq_some_iff.1 h3).1
 exact (h2 g hg hlt').trans h3⟩
theorem Mem.swap2 {w0 w w':World} {S:Nat→Prop} {a b:As} {Ls:List As} (M:Mem w0 S (a::b::Ls) w) (hf:Fr (λk=>k∈a.fp++b.fp) w w') {P:World→Prop} (hP:∀w2,N7 w.heap.size (a.fp++b.fp) w' w2→P w2):Mem w0 S (As.res w.heap.size w'.heap.size (a.fp++b.fp) P::Ls) w':=by
 have M1:=M.gone2 hf
 have hlt:∀g∈a.fp++b.fp,g<w.heap.size∧(w0.heap.size≤g∨S g):=λg hg=>by
  rcases List.mem_append.1 hg with h|h
  ·exact M.lt 0 a X g h
  ·exact M.lt 1 b X g h
 have h0:w0.heap.size≤w.heap.size:=M.fr.size;have hs:w.heap.size≤w'.heap.size:=hf.size
 have hfp:∀g∈(As.res w.heap.size w'.heap.size (a.fp++b.fp) P).fp,g∈a.fp++b.fp∨(w.heap.size≤g∧g<w'.heap.size):=λg hg=>by
  rcases List.mem_append.1 hg with h|h
  ·exact .inl h
  ·rw [List.mem_range'_1] at h
   exact .inr ⟨h.1,by omega⟩
 have hap:∀(i:Nat) (x:As),Ls[i]?=some x→∀g∈x.fp,g∉(As.res w.heap.size w'.heap.size (a.fp++b.fp) P).fp:=λi x hi g hg h=>by
  rcases hfp g h with h|h
  ·rcases List.mem_append.1 h with h|h
   ·exact M.apart 0 (i+2) a x X hi AA g h hg
   ·exact M.apart 1 (i+2) b x X hi AA g h hg
  ·have:=(M.lt (i+2) x hi g hg).1
   omega
 refine ⟨M1.fr,λi x hi=>?_,λi x hi g hg=>?_,λi j x y hi hj hne g hg=>?_⟩
 ·cases i with
  | zero=>
   simp only [List.getElem?_cons_zero,Option.some.injEq] at hi;subst hi
   exact λw2 h2=>hP w2 λg hg hlt'=>h2 g (by
    rcases hg with h|h
    ·exact List.mem_append_left _ h
    ·exact List.mem_append_right _ (by rw [List.mem_range'_1];omega)) hlt'
  | succ i=>exact M1.ok i x hi
 ·cases i with
  | zero=>
   simp only [List.getElem?_cons_zero,Option.some.injEq] at hi;subst hi
   rcases hfp g hg with h|h
   ·have:=hlt g h
    exact ⟨by omega,this.2⟩
   ·exact ⟨h.2,.inl AA⟩
  | succ i=>exact M1.lt i x hi g hg
 ·cases i with
  | zero=>
   cases j with
   | zero=>exact absurd rfl hne
   | succ j=>
    simp only [List.getElem?_cons_zero,Option.some.injEq] at hi;subst hi
    exact λh=>hap j y hj g h hg
  | succ i=>
   cases j with
   | zero=>
    simp only [List.getElem?_cons_zero,Option.some.injEq] at hj;subst hj
    exact hap i x hi g hg
   | succ j=>exact M1.apart i j x y hi hj AA g hg
theorem Mem.resA {w0 w:World} {Ls:List As} {b0 b1:Nat} {F0:List Nat} {P:World→Prop} (M:Mem w0 AR Ls w) (i:Nat) (hi:Ls[i]?=some (As.res b0 b1 F0 P)):∀w2,N7 w0.heap.size [] w w2→P w2:=λw2 h=>M.ok i _ hi w2 λg hg hlt=>h g (.inr ((M.lt i _ hi g hg).2.elim id False.elim)) hlt
theorem SD {l k:List Bd} (h:FN l k=true):l.length=k.length:=Classical.byContradiction λhn=>by rw [Q0 hn] at h;cases h
theorem gH {m:Md} {c:CrA} (R:Rl m) (Z:Cz m c) {t:Tk} (hp:ET m c t=true):t.loc.length≤4611686018427387903:=by
 by_cases hl:t.loc=[]
 ·rw [hl];decide
 ·have h:=(YE hp hl).1;rw [Z.eB] at h
  obtain ⟨x,hx,he⟩:=xA h
  have:=(IY (R.elN x hx)).2
  rw [he] at this;omega
theorem tX (m:Md) (gc:Nat) (c:CrA) (F:List Nat) (i:In) (V T:Option Addr) (vc tc:Nat) (tid:Int) (via:List UInt8) (next clock:Int) (w:World) (ho:MdOk m) (R:Rl m) (hC:CourseN w m gc c F) (htl:i.toks.length≤300) (hok:BdOk i.vars) (hwk:∀t∈i.toks,(t.worker.length:Int)<4611686018427387904) (hvia:via.length≤4611686018427387903) (hV:Rd w V (i.vars.length*5) (AD Bd.cells i.vars)) (hT:Rd w T (i.toks.length*9) (AD Tk.cells i.toks)) (hY:Lay0 w) :
 Calls prog 13 #[pg gc,.agg (In.cells i V T vc tc).toArray,AC tid,str via,AC next,AC clock] w λe w'=>Fr0 w w'∧((e=.returned (.tuple #[.agg zMvd.toArray,AC 1])∧∀j y,¬CmY m c i tid via next clock j y)∨∃j y,CmY m c i tid via next clock j y∧∀w2,N7 w.heap.size [] w' w2→MvD m c i (i.toks.eraseIdx j) (DW m c y via).1 (DW m c y via).2.1 next clock e w2):=by
 have Z:=hC.cz;have hil:∀q,(c.ins q).length≤400:=λq=>(X7 R Z q).2
 refine BH func13 ntmps13 X λM=>srg (CC M X X λg7 w1 hg7 M=>D6 M (wn_none X) X X 3 X X ([AC tid]) X λg8 w2 hg8 M=>CI M X FQ λg12 w3 hg12 M=>AJ X (sx_seq (AE X ?_)))
 refine CB M 2 X X underlying33 CF X (AV X X (CD M 23 X X call14 (ZR m gc c F i V T vc tc next clock _ ho (hC.fr0 M.fr) hil AA hok hwk (hV.fr0 M.fr) (hT.fr0 M.fr) (hY.fr0 M.fr)) λw4 M=>AJ X (AE X (CT X X (nq (AF X (λh25=>?_) (λh25=>?_)))))))
 ·refine srg (ya X (AY (parts:=[]) X X (FT)) (yb X (BD M 0 X X BU X λw5 M=>yb X (gnr (qx_then_ret (B1 X X (M.rdBlk 0 X X) underlying50 X BU X ?_))))));have hck:¬E2 m c i next clock=true:=λhn=>by rw [if_pos hn] at h25;cases h25
  rw [if_neg hck];exact ⟨M.fr,.inl ⟨X,λj y h=>hck h.1⟩⟩
 ·have h25p:=(odt (BL h25));have hck:E2 m c i next clock=true:=Classical.byContradiction λhn=>by rw [if_neg hn] at h25;cases h25
  obtain ⟨⟨hn1,hn2,_,_,_,hvE⟩,htk⟩:=PP hck;have hvl:i.vars.length≤1000:=by rw [SD hvE];have:=R.lens.2.2;omega
  refine sx_skip (qx_seq (AE X (AU M 2 X X X (ya X (CP (us:=[]) (vs:=[pg g8]) X X X) (cl 31 X (AG X X call24) (tK Tk.cells Tk.len T tc i.toks AA 25 [pg g8] (λ(_:Nat) (t:Tk)=>decide (t.id=tid)) AR (λ_ _=>True) _ (G5 call25 (λx _ w9 hf9=>oU g8 tid x w9 ((M.blk 1 X).fr0 hf9))) (λ_ hf9=>(hT.fr0 M.fr).fr0 hf9) trivial) ?_)))));rintro _ w6 ⟨rfl,_,hfw6⟩;refine ⟨AC (ixT tid i.toks),X,?_⟩;have M:=M.step hfw6;refine AJ X (sx_seq (AE X (BB X X (nq (AF X (λh33=>?_) (λh33=>?_))))))
  ·have h33p:=(odt h33);exact srg (ya X (AY (parts:=[]) X X (FT)) (BD M 0 X X BU X λw7 M=>yb X (gnr (qx_then_ret (B1 X X (M.rdBlk 0 X X) underlying50 X BU X ⟨M.fr,.inl ⟨X,λj y h=>by have:=h.2.1;omega⟩⟩)))))
  ·have h33p:=(odf h33);obtain ⟨j,y,hj,hy⟩:=wW h33p;have hjl:j<i.toks.length:=(List.getElem?_eq_some_iff.1 hy).1;have hym:y∈i.toks:=List.mem_of_getElem? hy;rw [hj];obtain ⟨b_y,o_y,hA_y⟩:=B5 (k:=9) AA (hT.fr0 M.fr) hy;refine sx_skip (qx_seq (AE X (yb X (AU M 2 X X X (yb X (ya X (AN j hA_y X X X (sl X) AA) (ya X (AK X X (B6 Tk.len (hT.fr0 M.fr) hA_y hy) underlying56 X B4) (yb X (cl 43 X (AG X X call26) (oT m gc c F y via _ ho (hC.fr0 M.fr) hvia (gH R Z (htk y hym).1) (λh=>(KD R Z h).1)) ?_)))))))));rintro _ w8 ⟨Af,cf,rfl,how8,hfw8⟩;refine ⟨_,X,?_⟩;have M:=M.pushOwn hfw8 (Nat.le_refl _) how8;iterate 7 refine yb X ?_
   refine nq (sx_seq (AE X (AJ X (AF X (λh48=>?_) (λh48=>?_)))))
   ·have h48p:=(C5 h48);refine srg (ya X (AY (parts:=[]) X X (FT)) (BD M 1 X X BU X λw9 M=>yb X (gnr (qx_then_ret (B1 X X (M.rdBlk 1 X X) underlying50 X BU X ?_)))))
    exact ⟨M.fr,.inl ⟨X,λj2 y2 h=>by
     obtain ⟨_,h2,h3,h4⟩:=h
     have:j2=j:=by omega
     subst this;rw [hy] at h3;injection h3 with h3;subst h3
     rw [h4] at h48;cases h48⟩⟩
   ·have h48p:=(BL h48);refine sx_skip (qx_seq (sx_seq (EH 16 (λw'=>Mem w AR [As.blk g12 50 [AC 0,str [],.int .u8 0,.slice none 0 0,.slice none 0 0,AC 0,.slice none 0 0],As.blk g8 3 [AC tid],As.blk g7 33 (In.cells i V T vc tc)] w') CH ?_)));have M:=M.drew;refine oc 0 16 X X (M.pk [1,2,3]) (oa 1 16 X X (M.pk [1,2,3]) (λ_ M=>AK (xs:=In.cells i V T vc tc) X X (M.rdBlk 2 X X) underlying33 X CF) (oc 2 16 X X (M.pk [1,2,3]) (ol 3 16 X X X (M.pk [1,2,3]) (λ_ M=>(M.cell 2 X X)) (oc 5 16 X X (M.pk [1,2,3]) (oc 6 16 X X (M.pk [1,2,3]) (oa 7 16 X X (M.pk [1,2,3]) (λ_ M=>GE X X X AA) (oc 9 16 X X (M.pk [1,2,3]) (oc 10 16 X X (M.pk [1,2,3]) (oc 11 16 X X (M.pk [1,2,3]) (oc 12 16 X X (M.pk [1,2,3]) (BQ 4 (some 54) gkr X (wn_none X) X X (AG X X call29) (u0 T tc i.toks _ AA (hT.fr0 M.fr)) ?_)))))))))));rintro _ w10 ⟨A54,c54,rfl,how10,hfw10⟩;refine ⟨_,X,λ_=>(M.pk [1,2,3]).step hfw10,?_⟩;have M:=M.pushOwn hfw10 (Nat.le_refl _) how10;have hL54:=M.ownLen 0 X;refine BQ 8 (some 58) gkr X (wn_none X) X X (AG X X call28) (yW _ A54 c54 j i.toks _ (M.own 0 X) hjl) ?_;rintro _ w11 ⟨rfl,how11,hfw11⟩;have M:=M.upd 0 X hfw11 (As.own _ 56 9 (.slice A54 (i.toks.eraseIdx j).length c54) (i.toks.eraseIdx j).length (AD Tk.cells (i.toks.eraseIdx j))) how11 (λg hg=>.inl (m4 g hg));refine ⟨_,X,λ_=>(M.pk [2,3,4]),?_⟩;have M2:=M.pk [1,0,2,3,4];refine BQ 13 (some 63) gkr X (wn_none X) X X (AG X X call27) (mL w m gc c F i V T A54 Af vc tc c54 cf _ _ (i.toks.eraseIdx j) (DW m c y via).1 (DW m c y via).2.1 next clock _ _ ho R hvl hok hV hY hC M.fr M2.new2 (λt ht hl=>(SV (htk t (List.mem_of_mem_eraseIdx ht)).1 hl).1) (TX R Z (htk y hym).1 (BL h48)).1 (by have:=List.length_eraseIdx_of_lt hjl;omega) (by have:=(TX R Z (htk y hym).1 (BL h48)).2;omega) hn1 hn2 M2.self2) ?_;rintro e9 w12 ⟨hfw12,hres⟩;have M:=M2.swap2 hfw12 hres;obtain ⟨a0,a1,a2,W0,wn,wc,X0,xn,xc,a5,Y0,yn,yc,er,rfl,her⟩:=MvD.shape (hres _ λ_ _ _=>X);refine ⟨_,X,λ_=>(M.pk [1,2,3]),?_⟩;refine oc 14 16 X X (M.pk [1,2,3]) (oc 15 16 X X (M.pk [1,2,3]) (B2 16 none gkr X (wn_none X) X X (λρ hρ=>BO 50 _ _ X g12 0 50 _ ([AC a0,str a1,.int .u8 a2,.slice W0 wn wc,.slice X0 xn xc,AC a5,.slice Y0 yn yc]) (hρ _ _ X) (hρ _ _ X) (M.blk 1 X) BU (HX X) (CL X)) ?_));rintro _ w13 ⟨rfl,hbw13,hfw13⟩
    replace M:Mem w AR (List.set _ 1 (As.blk g12 50 [AC a0,str a1,.int .u8 a2,.slice W0 wn wc,.slice X0 xn xc,AC a5,.slice Y0 yn yc])) w13:=M.putB 1 rfl hbw13 hfw13
    exact ⟨λh=>absurd h B3,fo1 17 X X (yp X) (fdn (qx_seq (sx_ret (B1 X X (M.rdBlk 1 X X) underlying50 X BU X ⟨M.fr,.inr ⟨j,y,⟨hck,hj,hy,BL h48⟩,M.resA 0 X⟩⟩))))⟩
end Go.Proofs.YtaheakjfkpkefaaGreatDoor
