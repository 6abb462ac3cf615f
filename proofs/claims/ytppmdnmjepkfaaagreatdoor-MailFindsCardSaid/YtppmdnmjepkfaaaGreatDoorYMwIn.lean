/- Lemmas. -/
import Derived.Test.YtppmdnmjepkfaaaGreatDoorYMv9
import Derived.Sort.OwnSortedInts
import Derived.Scope
import Derived.SizedLaws
import Derived.Lib.SmallJoins
import Derived.ChangeArms
set_option maxHeartbeats 16000000
set_option maxRecDepth 100000
namespace Go.Proofs.YtppmdnmjepkfaaaGreatDoor
open Go.RowKit
open Tryz
section
section
section
variable {P:Lw} {e:Env} {w:Kw} {o:Oper} {t t':Nat} {a b:Int} {x y:Lz}
end
end
open Tryz
theorem zK : (prog.info? 3).map (λi=>(i.zero,i.size))=some (some (AA 0),1):=by kernel_rfl
section
section
variable {P:Lw} {Q:Exit→Act→Kw→Prop} {n:Nat} {e:Env} {w w0:Kw} {S:Nat→Prop} {L:List As} {ops:Array Oper} {o:Oper} {rest:List Oper}
end
end
open Go.RowKit Go.Sort
section
section
variable {w:Kw} {m:Md} {gc:Nat} {c:CrA} {F:List Nat} (h:CourseN w m gc c F) (q:Kz)
include h
end
theorem X5 : (prog.info? 3).map (λi=>(i.zero,i.size,i.bytes))=some (some (AA 0),1,8):=by kernel_rfl
end
section
section
variable {P:Lw} {Q:Exit→Act→Kw→Prop} {n:Nat} {e:Env} {w:Kw}
end
end
section
theorem NQ {α:Type} {p:Nat→α→Bool}:∀{l:List α} {i:Nat},ffN p i l=none→∀j x,l[j]?=some x→p (i+j) x=true
 | [],_,_,_,_,h=>by simp at h
 | x::r,i,hn,j,y,hj=>by
  unfold ffN at hn
  by_cases h:p i x=true
  ·rw [if_pos h] at hn
   cases j with
   | zero=>simp at hj;subst hj;exact h
   | succ j=>rw [show i+(j+1)=i+1+j by omega];exact NQ hn j y (by simpa using hj)
  rw [if_neg h] at hn;simp at hn
theorem WV {α β:Type} {o:Option α} {f:α→β} (h:o.map f=none):o=none:=by cases o<;>simp at h ⊢
theorem V8 {p:El→Bool} {l:List El} (h:ffE p l=none):∀x∈l,p x=true:=λx hx=>by
 obtain ⟨j,hj⟩:=Cd hx;exact NQ (WV h) j x hj
theorem lX {p:Fl→Bool} {l:List Fl} (h:ffF p l=none):∀x∈l,p x=true:=λx hx=>by
 obtain ⟨j,hj⟩:=Cd hx;exact NQ (WV h) j x hj
theorem gH : ∀{l:List (Option Kz)} {i:Nat},(IG i l).2.2=0→∀b∈l,b=none
 | [],_,_,b,hb=>by cases hb
 | some k::r,i,h,_,_=>by simp [IG] at h
 | none::r,i,h,b,hb=>by
  rcases Ak.1 hb with rfl|hb
  ·rfl
  exact gH (i:=i+1) h b hb
theorem QE {α:Type} {f:α→Kz}:∀{l:List α},(∀i x,l[i]?=some x→f x∉(l.take i).map f)→(l.map f).Nodup:=λ{l} h=>by
 rw [List.nodup_iff_pairwise_ne,Ez];intro i j hi hj hij he;simp only [Bp] at hi hj
 simp only [Hx] at he
 refine h j l[j] (Ao hj) (Ch.2 ⟨l[i],?_,he⟩);rw [List.mem_take_iff_getElem];exact ⟨i,by omega,rfl⟩
structure Rl (m:Md):Prop where
 two:∀x∈m.els,VS m x=true
 three:∀x∈m.fls,L4 m x=true
 four:∀x∈m.els,IZ m x=true
 five:∀s∈[]::GK m.els,O3 m s=true
 six1:∀x∈m.els,KC m x=true
 six2:∀x∈m.fls,MS m x=true
 eight:∀x∈m.els,MI m x=true
 els:(m.els.map (·.id)).Nodup
 fls:(m.fls.map (·.id)).Nodup
 vars:(m.vars.map (·.name)).Nodup
 elN:∀x∈m.els,B6 x.id=true
 flN:∀x∈m.fls,B6 x.id=true
 lens:m.els.length≤64∧m.fls.length≤128∧m.vars.length≤16
 vok:∀x∈m.vars,chk x.v=0
theorem OM {k:Kz} {s:List Kz} (h:GA k s=true):B6 k=true∧k∉s:=by
 unfold GA at h
 simpa using h
theorem aN {α:Type} {f:α→Kz} {base:List Kz} {l:List α} {i:Nat} {k:Kz} (h:k∉FT f base l i):k∉(l.take i).map f:=λhh=>h (by unfold FT;rw [Bo,List.mem_reverse];exact .inl hh)
theorem l8 {m:Md} (h0:(LD m).2.2=0):Rl m:=by
 have hb:=gH (i:=0) h0;have h1:FG m=none:=hb _ (by simp [SC]);have h2:ffE (VS m) m.els=none:=hb _ (by simp [SC]);have h3:ffF (L4 m) m.fls=none:=hb _ (by simp [SC]);have h4:ffE (IZ m) m.els=none:=hb _ (by simp [SC]);have h5:ZK m=none:=hb _ (by simp [SC]);have h6:YE m=none:=hb _ (by simp [SC]);have h8:ffE (MI m) m.els=none:=hb _ (by simp [SC]);unfold FG at h1
 cases hob:QC m with
 | true=>rw [hob,if_pos rfl] at h1;cases h1
 | false=>
  rw [hob,if_neg AV] at h1
  have hv:ffN (pV m) 0 m.vars=none:=by
   cases hv:ffN (pV m) 0 m.vars with
   | none=>rfl
   | some b=>rw [hv] at h1;simp at h1
  rw [hv] at h1
  have he:ffN (pE m) 0 m.els=none:=by
   cases he:ffN (pE m) 0 m.els with
   | none=>rfl
   | some b=>rw [he] at h1;simp at h1
  rw [he] at h1
  have hf:ffN (pF m) 0 m.fls=none:=WV h1
  have six:ffE (KC m) m.els=none∧ffF (MS m) m.fls=none:=by
   unfold YE at h6
   cases hq:ffE (KC m) m.els with
   | none=>rw [hq] at h6;exact ⟨rfl,h6⟩
   | some b=>rw [hq] at h6;simp at h6
  have kv:∀i x,m.vars[i]?=some x→GA x.name (FT (λx=>x.name) [] m.vars i)=true∧chk x.v=0:=λi x hx=>by
   have:=NQ hv i x hx
   unfold pV at this
   rw [Cm] at this
   simp only [Bh,decide_eq_true_eq] at this
   exact this
  have ke:∀i x,m.els[i]?=some x→GA x.id (FT (λx=>x.id) [m.id] m.els i)=true:=λi x hx=>by
   have:=NQ he i x hx
   unfold pE at this
   rw [Cm] at this
   simp only [Bh] at this
   exact this.1
  have kf:∀i x,m.fls[i]?=some x→GA x.id (FT (λx=>x.id) (FT (λx=>x.id) [m.id] m.els m.els.length) m.fls i)=true:=λi x hx=>by
   have:=NQ hf i x hx
   unfold pF at this
   rwa [Cm] at this
  unfold QC at hob
  simp only [Bool.or_eq_false_iff,decide_eq_false_iff_not] at hob
  have hfive:∀s∈[]::GK m.els,O3 m s=true:=λs hs=>by
   obtain ⟨j,hj⟩:=Cd hs;exact NQ (p:=λ_=>O3 m) h5 j s hj
  exact { two:=V8 h2,three:=lX h3,four:=V8 h4,six1:=V8 six.1,six2:=lX six.2,eight:=V8 h8,five:=hfive,els:=QE λi x hx=>aN (OM (ke i x hx)).2,fls:=QE λi x hx=>aN (OM (kf i x hx)).2,vars:=QE λi x hx=>aN (OM (kv i x hx).1).2,elN:=λx hx=>(Cd hx).elim λj hj=>(OM (ke j x hj)).1,flN:=λx hx=>(Cd hx).elim λj hj=>(OM (kf j x hj)).1,lens:=⟨by omega,by omega,by omega⟩,vok:=λx hx=>(Cd hx).elim λj hj=>(kv j x hj).2 }
theorem rK {m:Md} (h:GU m=true):Rl m:=l8 (by
 unfold GU at h
 simp only [Bh,Ga,decide_eq_true_eq] at h
 exact h.1)
theorem XK {l:List El} {k:Kz} {x:El} (h:AF l k=some x):x∈l∧x.id=k:=by
 induction l with
 | nil=>simp [AF] at h
 | cons y r ih=>
  unfold AF at h
  by_cases hk:y.id=k
  ·rw [if_pos hk] at h;obtain rfl:y=x:=by simpa using h
   exact ⟨Bc ..,hk⟩
  rw [if_neg hk] at h;exact ⟨Ap _ (ih h).1,(ih h).2⟩
theorem uP {l:List El} (hn:(l.map (·.id)).Nodup) {x:El} (hx:x∈l):AF l x.id=some x:=by
 induction l with
 | nil=>cases hx
 | cons y r ih=>
  rw [Cj,Fv] at hn
  unfold AF;rcases Ak.1 hx with rfl|hx
  ·rw [if_pos rfl]
  rw [if_neg (λhh=>hn.1 (Ch.2 ⟨x,hx,hh.symm⟩))];exact ih hn.2 hx
theorem IL {α β:Type} {f:α→Kz} {v:α→β} {z:β} (l:List α) (k:Kz) :
 (∀x∈l,f x=k→(l.map f).Nodup→(l.foldl (λg x=>λk'=>if k'=f x then v x else g k') (λ_=>z)) k=v x)∧((∀x∈l,f x≠k)→(l.foldl (λg x=>λk'=>if k'=f x then v x else g k') (λ_=>z)) k=z):=by
 have gen:∀(l:List α) (g0:Kz→β),(∀x∈l,f x=k→(l.map f).Nodup→(l.foldl (λg x=>λk'=>if k'=f x then v x else g k') g0) k=v x)∧((∀x∈l,f x≠k)→(l.foldl (λg x=>λk'=>if k'=f x then v x else g k') g0) k=g0 k):=by
  intro l
  induction l with
  | nil=>intro g0;exact ⟨λx hx=>(by cases hx),λ_=>rfl⟩
  | cons y r ih=>
   intro g0;obtain ⟨i1,i2⟩:=ih (λk'=>if k'=f y then v y else g0 k');rw [Ia]
   constructor
   ·intro x hx hk hn;rw [Cj,Fv] at hn
    rcases Ak.1 hx with rfl|hx
    ·rw [i2 (λz hz hzk=>hn.1 (Ch.2 ⟨z,hz,hzk.trans hk.symm⟩)),if_pos hk.symm]
    exact i1 x hx hk hn.2
   intro h;rw [i2 λx hx=>h x (Ap _ hx),if_neg (λhh=>h y Bc hh.symm)]
 exact gen l (λ_=>z)
section
variable {m:Md} (R:Rl m)
include R
theorem Rl.at_mem {x:El} (hx:x∈m.els):atF m.els x.id=x:=(IL (f:=λx:El=>x.id) (v:=λx=>x) m.els x.id).1 x hx rfl R.els
theorem Rl.isA_mem {x:El} (hx:x∈m.els):YG m.els x.id=true:=(IL (f:=λx:El=>x.id) (v:=λ_=>true) m.els x.id).1 x hx rfl R.els
theorem Rl.fl_mem {x:Fl} (hx:x∈m.fls):flF m.fls x.id=x:=(IL (f:=λx:Fl=>x.id) (v:=λx=>x) m.fls x.id).1 x hx rfl R.fls
theorem Rl.isF_mem {x:Fl} (hx:x∈m.fls):bJ m.fls x.id=true:=(IL (f:=λx:Fl=>x.id) (v:=λ_=>true) m.fls x.id).1 x hx rfl R.fls
theorem Rl.outs_mem {x:El} (hx:x∈m.els):NL m m.els x.id=(BV m.fls x.id).map (λu:Fl=>u.id):=(IL (f:=λx:El=>x.id) (v:=λx=>(BV m.fls x.id).map (λu:Fl=>u.id)) m.els x.id).1 x hx rfl R.els
theorem Rl.ins_mem {x:El} (hx:x∈m.els):bK m m.els x.id=(E4 m.fls x.id).map (λu:Fl=>u.id):=(IL (f:=λx:El=>x.id) (v:=λx=>(E4 m.fls x.id).map (λu:Fl=>u.id)) m.els x.id).1 x hx rfl R.els
end
section
variable {m:Md} {k:Kz}
theorem Y6 (h:∀x∈m.els,x.id≠k):atF m.els k=zeroEl∧YG m.els k=false∧NL m m.els k=[]∧bK m m.els k=[]:=
 ⟨(IL (f:=λx:El=>x.id) (v:=λx=>x) m.els k).2 h,(IL (f:=λx:El=>x.id) (v:=λ_=>true) m.els k).2 h,(IL (f:=λx:El=>x.id) (v:=λx=>(BV m.fls x.id).map (λu:Fl=>u.id)) m.els k).2 h,(IL (f:=λx:El=>x.id) (v:=λx=>(E4 m.fls x.id).map (λu:Fl=>u.id)) m.els k).2 h⟩
theorem a2E (h:∀x∈m.fls,x.id≠k):flF m.fls k=zeroFl∧bJ m.fls k=false:=
 ⟨(IL (f:=λx:Fl=>x.id) (v:=λx=>x) m.fls k).2 h,(IL (f:=λx:Fl=>x.id) (v:=λ_=>true) m.fls k).2 h⟩
theorem a1K (h:YG m.els k=true):∃x∈m.els,x.id=k:=by
 by_cases hh:∃x∈m.els,x.id=k
 ·exact hh
 have:=(Y6 (m:=m) (k:=k) λx hx he=>hh ⟨x,hx,he⟩).2.1
 rw [this] at h;cases h
theorem gJ (m:Md) (k:Kz):(∃x∈m.els,x.id=k)∨(∀x∈m.els,x.id≠k):=by
 by_cases hh:∃x∈m.els,x.id=k
 ·exact .inl hh
 exact .inr λx hx he=>hh ⟨x,hx,he⟩
end
theorem Rl.ends {m:Md} (R:Rl m) {f:Fl} (hf:f∈m.fls):∃y∈m.els,y.id=f.tg∧y.kind.toNat≠9∧y.kind.toNat≠1∧∃x∈m.els,x.id=f.frm∧x.inn=y.inn:=by
 have h3:=R.three f hf;unfold L4 at h3
 simp only [Bh,decide_eq_true_eq,Ek,decide_eq_false_iff_not] at h3
 obtain ⟨⟨⟨⟨h1,h2⟩,h4⟩,h5⟩,_⟩:=h3;obtain ⟨x,hx⟩:=Il.1 h1;obtain ⟨y,hy⟩:=Il.1 h2;rw [hx,hy] at h4
 rw [hy] at h5
 obtain ⟨hx1,hx2⟩:=XK hx;obtain ⟨hy1,hy2⟩:=XK hy;refine ⟨y,hy1,hy2,λhh=>h5 (by simp [hh]),λhh=>?_,x,hx1,hx2,h4⟩;have h6:=R.four y hy1;unfold IZ at h6
 rw [if_pos (by simp [hh])] at h6
 simp only [Bh,decide_eq_true_eq] at h6
 have:f∈E4 m.fls y.id:=Dg.2 ⟨hf,by simp [hy2]⟩
 have:=Iz this
 omega
theorem Rl.out1 {m:Md} (R:Rl m) {y:El} (hy:y∈m.els):(y.kind.toNat=2→(BV m.fls y.id).length=0)∧(y.kind.toNat=7→2≤(BV m.fls y.id).length)∧(y.kind.toNat=5∨y.kind.toNat=6→1≤(BV m.fls y.id).length∧1≤(E4 m.fls y.id).length)∧(y.kind.toNat≠2→y.kind.toNat≠5→y.kind.toNat≠6→y.kind.toNat≠7→(BV m.fls y.id).length=1):=by
 have h4:=R.four y hy;unfold IZ at h4
 by_cases h1:y.kind.toNat=1∨y.kind.toNat=9
 ·rw [if_pos (by rcases h1 with h|h<;>simp [h])] at h4
  simp only [Bh,decide_eq_true_eq] at h4
  refine ⟨λh=>by omega,λh=>by omega,λh=>by omega,λ_ _ _ _=>by omega⟩
 rw [if_neg (by simp only [Dm,decide_eq_true_eq];omega)] at h4
 by_cases h2:y.kind.toNat=2
 ·rw [if_pos (by simp [h2])] at h4
  simp only [Bh,decide_eq_true_eq] at h4
  refine ⟨λ_=>by omega,λh=>by omega,λh=>by omega,λh=>by omega⟩
 rw [if_neg (by simp only [decide_eq_true_eq];omega)] at h4
 by_cases h5:y.kind.toNat=5∨y.kind.toNat=6
 ·rw [if_pos (by rcases h5 with h|h<;>simp [h])] at h4
  simp only [Bh,decide_eq_true_eq] at h4
  refine ⟨λh=>by omega,λh=>by omega,λ_=>⟨by omega,by omega⟩,λ_ h h'=>by omega⟩
 rw [if_neg (by simp only [Dm,decide_eq_true_eq];omega)] at h4
 by_cases h7:y.kind.toNat=7
 ·rw [if_pos (by simp [h7])] at h4
  split at h4
  ·rename_i hc
   simp only [Bh,decide_eq_true_eq] at hc
   refine ⟨λh=>by omega,λ_=>by omega,λh=>by omega,λ_ _ _ h=>by omega⟩
  cases h4
 rw [if_neg (by simp only [decide_eq_true_eq];omega)] at h4
 simp only [Bh,decide_eq_true_eq] at h4
 refine ⟨λh=>by omega,λh=>by omega,λh=>by omega,λ_ _ _ _=>by omega⟩
end
section
structure Cz (m:Md) (c:CrA):Prop where
 eA:c.atf=atF m.els
 eB:c.isA=YG m.els
 eI:c.ins=bK m m.els
 eO:c.outs=NL m m.els
 eL:c.flf=flF m.fls
 eM:c.isF=bJ m.fls
 eC:c.cnd=cnF m.fls
theorem CourseN.cz {w:Kw} {m:Md} {gc:Nat} {c:CrA} {F:List Nat} (h:CourseN w m gc c F):Cz m c:=⟨h.eA,h.eB,h.eI,h.eO,h.eL,h.eM,h.eC⟩
section
variable {m:Md} {c:CrA} (R:Rl m) (Z:Cz m c)
include R Z
theorem VA {x:El} (hx:x∈m.els):c.outs x.id=(BV m.fls x.id).map (λu:Fl=>u.id):=by rw [Z.eO];exact R.outs_mem hx
theorem uQ {x:El} (hx:x∈m.els):c.ins x.id=(E4 m.fls x.id).map (λu:Fl=>u.id):=by rw [Z.eI];exact R.ins_mem hx
theorem ZQ {x:El} (hx:x∈m.els):c.atf x.id=x:=by rw [Z.eA];exact R.at_mem hx
theorem a2G {f:Fl} (hf:f∈m.fls):c.flf f.id=f∧c.isF f.id=true:=by rw [Z.eL,Z.eM];exact ⟨R.fl_mem hf,R.isF_mem hf⟩
theorem oU {k q:Kz} (hq:q∈c.outs k):∃f∈m.fls,f.id=q∧f.frm=k∧∃x∈m.els,x.id=k:=by
 rcases gJ m k with ⟨x,hx,rfl⟩|h
 ·rw [VA R Z hx] at hq
  obtain ⟨f,hf,rfl⟩:=Ch.1 hq;obtain ⟨h1,h2⟩:=Dg.1 hf;exact ⟨f,h1,X,by simpa using h2,x,hx,rfl⟩
 rw [Z.eO,(Y6 h).2.2.1] at hq;cases hq
theorem a1X (k:Kz):(c.ins k).Nodup∧(c.ins k).length≤400:=by
 rcases gJ m k with ⟨x,hx,rfl⟩|h
 ·rw [uQ R Z hx];refine ⟨?_,?_⟩
  ·exact (R.fls.sublist ((List.filter_sublist (p:=λf:Fl=>decide (f.tg=x.id)) (l:=m.fls)).map (λu:Fl=>u.id)))
  rw [Bp]
  have:=Ef (λf:Fl=>decide (f.tg=x.id)) m.fls
  have h2:=R.lens
  show (E4 m.fls x.id).length≤400
  unfold E4;omega
 rw [Z.eI,(Y6 h).2.2.2];exact ⟨List.nodup_nil,Ae _⟩
theorem bT {x:El} (hx:x∈m.els) (hk:x.kind.toNat≠2):0<(c.outs x.id).length:=by
 rw [VA R Z hx,Bp];obtain ⟨h2,h7,h56,h1⟩:=R.out1 hx
 by_cases k7:x.kind.toNat=7
 ·have:=h7 k7;omega
 by_cases k5:x.kind.toNat=5∨x.kind.toNat=6
 ·have:=(h56 k5).1;omega
 have:=h1 hk A0 A0 k7;omega
end
section
variable {m:Md} {c:CrA} (R:Rl m) (Z:Cz m c) (vs:List Bd)
include R Z
end
end
section
theorem TV {P:Lw} {ops:Array Oper} {Q:Exit→Act→Kw→Prop} {t:Nat}:∀(fuel:Nat) (listed:Array Bool) (a:Act) (w:Kw),wpAny P .any ops Q fuel listed a w→KK P ops Q t (λ_=>True) fuel listed a w
 | 0,_,_,_,h=>h
 | fuel+1,_,_,_,h=>⟨h.1,λi hi=>wpOp_mono (λa' w' h'=>⟨λ_=>trivial,TV fuel _ a' w' h'⟩) (h.2 i hi)⟩
theorem NE {P:Lw} {ops:Array Oper} {Q:Exit→Act→Kw→Prop} {t1 n f:Nat} {listed:Array Bool} {e:Env} {w:Kw} (t:Nat) (S:Kw→Prop) (k:SxO P ops Q t S n f listed e w):SxO P ops Q t1 (λ_=>True) n f listed e w:=
 ⟨λa ha=>TV _ _ _ _ (Q1 _ _ _ _ (k.run a ha))⟩
section
variable {P:Lw} {e:Env} {w:Kw} {o:Oper} {t t':Nat} {x y:Lz} {a b:Nat}
theorem aD (ho:o.op=.binOp .mul t x y t') (hx:ev e x=some (AA (a:Int))) (hy:ev e y=some (AA (b:Int))) (h:a*b≤4611686018427387904):Y P e o w (AA ((a*b:Nat):Int)):=by
 have:=cK (P:=P) (w:=w) ho hx hy ⟨by have:(0:Int)≤(a:Int)*(b:Int):=Int.mul_nonneg A0 A0;omega,by have:((a*b:Nat):Int)=(a:Int)*(b:Int):=Int.natCast_mul a b;omega⟩
 rwa [show (a:Int)*(b:Int)=((a*b:Nat):Int) from (Int.natCast_mul a b).symm] at this
theorem UW {s d:Nat} {ds:TypeDesc} (ho:o.op=.convert s d x) (hx:ev e x=some (AA (a:Int))) (hs:P.underlying s=some ds) (hd:P.underlying d=some (.int .u64)) (h:a≤9223372036854775807):Y P e o w (.int .u64 (a:Int)):=
 CE ho hx hs hd (by rw [IntKind.wrap_u64];omega)
theorem UX {s d:Nat} {ds:TypeDesc} (ho:o.op=.convert s d x) (hx:ev e x=some (.int .u64 (a:Int))) (hs:P.underlying s=some ds) (hd:P.underlying d=some (.int .i64)) (h:a≤9223372036854775807):Y P e o w (AA (a:Int)):=
 CE ho hx hs hd (IntWalk.i64_in _ ⟨by omega,by omega⟩)
theorem aB {k:IntKind} (ho:o.op=.binOp .shr t x y t') (hx:ev e x=some (.int .u64 (a:Int))) (hy:ev e y=some (.int k 1)):Y P e o w (.int .u64 ((a / 2:Nat):Int)):=λρ h=>by
 have hs:(Op.shift .shr .u64 (a:Int) k 1).run P w=.ok (.int .u64 ((a / 2:Nat):Int)) w:=by
  have hn:min (1:Int).toNat IntKind.u64.bits=1:=by decide
  have he:Int.fdiv (a:Int) (2 ^ 1)=((a / 2:Nat):Int):=by
   rw [show (2 ^ 1:Int)=((2:Nat):Int) by rfl,Int.ofNat_fdiv]
  unfold Op.shift;rw [if_neg AV];simp only [hn,he]
  rfl
 unfold execOp;simp [ho,h _ _ hx,h _ _ hy,eqGuard_shr,binOp_shr,hs]
end
section
variable {α:Type} {cells:α→Kx} {k:Nat} {l:List α} {rs:Kx}
theorem ZJ {j:Nat} {x:α} (hx:l[j]?=some x):AE cells l=AE cells (l.take j)++(cells x++AE cells (l.drop (j+1))):=by
 have h1:l=l.take j++x::l.drop (j+1):=by
  rw [←AG hx,Cq]
 conv=>lhs;rw [h1]
 rw [B3];simp [AE]
theorem I3 (hk:∀x,(cells x).length=k) {w:Kw} {g t:Nat} (hb:Blk w g t (AE cells l++rs)):Rd w (some ⟨g,0,none⟩) (l.length*k) (AE cells l):=
 DR hb 0 (l.length*k) (by rw [List.drop_zero,Gv (HV hk l)]) (HV hk l)
theorem M9 (hk:∀x,(cells x).length=k) {j m:Nat} (h:j<l.length) (hm:m=k):0+j*k+m≤(AE cells l++rs).length:=by
 subst hm;rw [Ah,HV hk]
 have:(j+1)*m≤l.length*m:=Ds _ h
 rw [Iy] at this
 omega
theorem KG (hk:∀x,(cells x).length=k) {j:Nat} {y:α} (h:j<l.length):put (AE cells l++rs) (0+j*k) (cells y)=AE cells (l.set j y)++rs:=by
 obtain ⟨x,hx⟩:∃x,l[j]?=some x:=⟨l[j],Ao h⟩
 have hy:(l.set j y)[j]?=some y:=Dk h;have hl:(AE cells (l.take j)).length=j*k:=by rw [HV hk,Bl,Gu (Gn h)]
 rw [ZJ hx,ZJ hy,List.take_set_of_le (Ab _),List.drop_set_of_lt A0,Cm];unfold put;rw [By,By,Gv hl,hk,←Gc,List.drop_left' hl,By,List.drop_left' (hk x),By]
theorem DY {i j:Nat} {a b:α} (ha:l[i]?=some a) (hb:l[j]?=some b):((l.set i b).set j a).Perm l:=by
 obtain ⟨h1,rfl⟩:=Aj.1 ha;obtain ⟨h2,rfl⟩:=Aj.1 hb;exact List.set_set_perm h1 h2
end
end
section
section
variable {P:Lw} {Q:Exit→Act→Kw→Prop} {n:Nat} {e:Env} {w w0:Kw} {S:Nat→Prop} {L:List As} {ops:Array Oper} {o:Oper} {rest:List Oper}
end
end
section
section
variable {c:CrA} {clock id:Int}
end
theorem tO (x:Int) (w:Kw):Calls prog 170 #[AA x] w (BS w (.bool (!(decide (x=x))))):=by
 refine BR func170 ntmps170 X λM=>W ?_
 exact gr1 X ⟨X,M.fr⟩
def OQ (x y:Int):Int:=(if (!(decide (x=x)))=true then (if (!(decide (y=y)))=true then 0 else (-1)) else (if (!(decide (y=y)))=true then 1 else (if (decide (x<y))=true then (-1) else (if (decide (y<x))=true then 1 else 0))))
theorem fU (x y:Int) (w:Kw):Calls prog 108 #[AA x,AA y] w (BS w (AA (OQ x y))):=by
 refine BR func108 ntmps108 X λM=>W ?_
 refine CW M 8 X X call170 (tO x _) λw1 M=>W ?_
 refine CW M 10 X X call170 (tO y _) λw2 M=>W ?_
 refine AB X (λh11=>?_) (λh11=>?_)
 ·refine W ?_;refine AB X (λh12=>?_) (λh12=>?_)
  ·refine W ?_;exact gr1 X ⟨by rw [OQ,if_pos h11,if_pos h12]<;>rfl,M.fr⟩
  refine W ?_;exact gr1 X ⟨by rw [OQ,if_pos h11,AM h12]<;>rfl,M.fr⟩
 refine W ?_;refine AB X (λh13=>?_) (λh13=>?_)
 ·refine W ?_;exact gr1 X ⟨by rw [OQ,AM h11,if_pos h13]<;>rfl,M.fr⟩
 refine W ?_;refine AB X (λh16=>?_) (λh16=>?_)
 ·refine W ?_;exact gr1 X ⟨by rw [OQ,AM h11,AM h13,if_pos h16]<;>rfl,M.fr⟩
 refine W ?_;refine AB X (λh19=>?_) (λh19=>?_)
 ·refine W ?_;exact gr1 X ⟨by rw [OQ,AM h11,AM h13,AM h16,if_pos h19]<;>rfl,M.fr⟩
 refine W ?_;exact gr1 X ⟨by rw [OQ,AM h11,AM h13,AM h16,AM h19]<;>rfl,M.fr⟩
end
structure In where
 id:Int
 mdl:Kz
 st:UInt8
 vars:List Bd
 toks:List Tk
def In.cells (i:In) (V T:Ky) (vc tc:Nat):Kx:=[.int .i64 i.id,str i.mdl,.int .u8 (i.st.toNat:Int),.slice V i.vars.length vc,.slice T i.toks.length tc]
def a29 (b0:Nat) (F0:List Nat) (w w2:Kw):Prop:=∀g,(g∈F0∨b0≤g)→g<w.heap.size→w2.heap[g]?=w.heap[g]?
theorem DJ : (prog.info? 42).map (·.size)=some 5:=by kernel_rfl
theorem NX : (prog.info? 40).map (·.size)=some 1:=by kernel_rfl
section
section
variable {w0 w w':Kw} {S:Nat→Prop} {a b:As} {Ls:List As}
end
end
end
def onP (l:List Tk) (q:Kz):Bool:=l.any λt=>decide (t.on=q)
theorem a1v {l l':List Tk} {L:List (Kz × Kv)} {y:Tk} (h:∀q,(CC L q).getD (.bool false)=.bool (onP l q)) (hl:l'=l++[y]):∀q,(CC (D9 L y.on (.bool true)) q).getD (.bool false)=.bool (onP l' q):=λq=>by
 rw [hl,G0];unfold onP;rw [List.any_append]
 by_cases hq:q=y.on
 ·rw [if_pos hq,hq];simp
 have:¬y.on=q:=λe=>hq e.symm
 rw [if_neg hq,h q];unfold onP;simp [this]
def aY (i:In) (j:Nat):Int:=((i.toks[j-1]?).map (·.id)).getD 0
theorem oW (l:List Tk) (g10 g79:Nat) (L:List (Kz × Kv)) (f:Kz) (w:Kw) (hb:Blk w g10 143 [.map (some g79)]) (hm:Mp w g79 L) (hon:∀q,(CC L q).getD (.bool false)=.bool (onP l q)) :
 Calls prog 168 #[str f,pg g10] w (BS w (.bool (!(onP l f)))):=by
 refine BR func168 ntmps168 X λM=>T7 ?_
 refine yl X X (Blk.c (hb.fr0 M.fr) 0 X) (yb X (ya X (CD X X X Ec Aa QV (Mp.fr hm M.fr (λhh=>hh)) (hon f)) (W ?_)));exact gr1 X ⟨X,M.fr⟩
theorem oV (A:Ky) (c:Nat) (l:List Kz) (hl:l.length≤4611686018427387904) (f:FuncId) (cs:Kx) (p:Nat→Kz→Bool) (S:Nat→Prop) (J:Nat→Kw→Prop) (w:Kw) (hP:PredJ prog f cs str l p S J w) (hR:∀w1,Fr S w w1→Rd w1 A (l.length*1) (AE BG l)) (hJ:J 0 w) :
 Calls prog 167 #[.slice A l.length c,.func (.func f) #[] cs.toArray] w λe w'=>e=.returned (.bool (decide (0≤ixJ p 0 l)))∧J (ixN p 0 l) w'∧Fr S w w':=by
 refine sx_enter (vs:=[_,_]) func167 X ntmps167 X ?_;have M:Mem w S [] w:=Mem.nil w;refine W ?_;refine cl 7 X (AD X X call185) (f5 A c l hl f cs p S J _ hP hR hJ) ?_;rintro _ w9 ⟨rfl,hJ,hf9⟩;refine cq ?_;have M:Mem w S [] w9:=Mem.ofFr hf9;refine W ?_;exact gr1 X ⟨X,hJ,M.fr⟩
theorem p6 (A:Ky) (c:Nat) (l:List Kz) (w:Kw) (hl:l.length≤4611686018427387904) (f:FuncId) (cs:Kx) (p:Kz→Bool) (hP:PredJ prog f cs str l (λ_=>p) AR (λ_ _=>True) w) (hR:Rd w A (l.length*1) (AE BG l)) :
 Calls prog 167 #[.slice A l.length c,.func (.func f) #[] cs.toArray] w (BS w (.bool (l.any p))):=
 (oV A c l hl f cs (λ_=>p) AR (λ_ _=>True) w hP (λ_ hf=>hR.fr0 hf) trivial).mono λ_ _ ⟨h1,_,h2⟩=>⟨by rw [h1,M7],h2⟩
def LP (m:Md) (i:In) (next k:Int):Bool:=(if (((((((decide ((0:Int)≤next))&&(decide (next≤(2147483647:Int))))&&(decide ((0:Int)≤k)))&&(decide (k≤(1099511627776:Int))))&&(decide (i.mdl=m.id)))&&(decide ((1:Int)≤i.id)))&&(decide (i.id≤next)))=true then (IQ i.vars m.vars) else false)
def PO (m:Md) (i:In) (next k:Int):Bool:=(if (decide ((i.st.toNat:Int)=(1:Int)))=true then ((LP m i next k)&&(decide ((0:Int)<((i.toks.length:Nat):Int)))) else (if ((decide ((i.st.toNat:Int)=(2:Int))) || (decide ((i.st.toNat:Int)=(3:Int))))=true then ((LP m i next k)&&(decide (((i.toks.length:Nat):Int)=(0:Int)))) else false))
def MK (m:Md) (c:CrA) (i:In) (next k:Int) (b1:Bool) (j:Nat) (y:Tk):Bool:=(if b1=true then (if (decide ((1:Int)≤y.id))=true then (if (decide (y.id≤next))=true then (if (!decide (y.id=i.id))=true then (if (decide (((j:Nat):Int)=(0:Int)))=true then (if (HK m c y)=true then (OA y k) else false) else (if (decide ((aY i j)<y.id))=true then (if (HK m c y)=true then (OA y k) else false) else false)) else false) else false) else false) else false)
def jL (c:CrA) (i:In) (x:El):Bool:=(if (decide ((x.kind.toNat:Int)=(6:Int)))=true then (!(List.any (c.ins x.id) (λf => !(onP i.toks f)))) else false)
theorem a24 {m:Md} {i:In} {next k:Int} (h:PO m i next k=true):0≤k∧k≤1099511627776:=by
 have h0:LP m i next k=true:=by
  cases hc:LP m i next k with
  | true=>rfl
  | false=>unfold PO at h;rw [hc] at h;simp at h
 unfold LP at h0
 repeat' split at h0
 all_goals first
  | (simp_all;done)
  | (simp_all;omega)
def XP (m:Md) (c:CrA) (i:In) (next k:Int) (b0:Bool):Nat→Bool
 | 0=>b0
 | j+1=>match i.toks[j]? with
  | some y=>MK m c i next k (XP m c i next k b0 j) j y
  | none=>XP m c i next k b0 j
theorem a22 {m:Md} {c:CrA} {i:In} {next k:Int} {b1:Bool} {j:Nat} {y:Tk} (h:MK m c i next k b1 j y=true):b1=true:=by
 cases b1 with
 | true=>rfl
 | false=>unfold MK at h;simp at h
def I6 (m:Md) (c:CrA) (i:In) (next k:Int):Bool:=XP m c i next k (PO m i next k) i.toks.length&&m.els.all (λx => !(jL c i x))
theorem vC (m:Md) (gc:Nat) (c:CrA) (F:List Nat) (i:In) (V T:Ky) (vc tc:Nat) (next k:Int) (w:Kw) (ho:MdOk m) (hC:CourseN w m gc c F) (hil:∀q,(c.ins q).length≤400) (htl:i.toks.length≤1000000) (hok:BdOk i.vars) (hwk:∀t∈i.toks,(t.worker.length:Int)<4611686018427387904) (hV:Rd w V (i.vars.length*5) (AE Bd.cells i.vars)) (hT:Rd w T (i.toks.length*9) (AE Tk.cells i.toks)) (hY:Lay0 w) :
 Calls prog 105 #[pg gc,.agg (In.cells i V T vc tc).toArray,AA next,AA k] w (BS w (AA (if I6 m c i next k=true then 0 else 1))):=by
 have hne:=ho.nels;refine BR func105 ntmps105 X λM=>srg (CO M X X λg5 w1 hg5 M=>CQ X (sx_seq (CB X (ya X (MO X X X (pt X)) (nq (sx_false X ?_))))))
 refine sx_skip (qx_seq (sx_seq (JC ([(0,pg gc),(2,AA next),(3,AA k),(5,pg g5),(9,.bool (LP m i next k))]) (λw'=>Mem w AR [As.blk g5 42 (In.cells i V T vc tc)] w') ?_ (λkj3=>?_))))
 ·intro w2 M;refine qx_seq (sx_seq (CB X (FV M 0 X X X (nq (JC ([(0,pg gc),(2,AA next),(3,AA k),(5,pg g5),(9,.bool (PO m i next k))]) (λw'=>Mem w AR [As.blk g5 42 (In.cells i V T vc tc)] w') ?_ (λkj0=>?_))))))
  ·intro w3 M;refine qx_seq (srg (K4 M (wn_none X) X X X λg79 w4 hg79 M=>FR M (wn_none X) X X 143 X [.map none] IM X λg10 w5 hg10 M=>gp1 M 0 X X X IN λw6 M=>nq (sx_seq (CB X (FV M 2 X X X ?_)))));refine UR X X (CQ X (sx_block (flp [82,81,10,5,3,2,0] (λze e wr mz=>∃(j:Nat) (b1:Bool) (L1:List (Kz × Kv)),e=(9,.bool b1)::(83,AA (j:Int))::ze∧Mem w AR [As.blk g10 143 [.map (some g79)],As.mp g79 L1,As.blk g5 42 (In.cells i V T vc tc)] wr∧(j≤i.toks.length)∧(b1=XP m c i next k (PO m i next k) j)∧(b1=true→0≤k∧k≤1099511627776)∧(∀q,(CC L1 q).getD (.bool false)=.bool (onP (i.toks.take j) q))∧mz=i.toks.length-j) ⟨0,(PO m i next k),[],X,M,Ae _,by first|rfl|(unfold PO;rfl),λh=>a24 (by first|exact h|(unfold PO;exact h)),λ_=>rfl,rfl⟩ ?_)));rintro _ w7 _ ⟨j,b1,L1,rfl,M,hj,hbE,hbk,hon,rfl⟩;refine srg (GB X X (nq (sx_seq (AB X (λh84=>?_) (λh84=>?_)))))
   ·have h84p:=(odt h84);refine sx_skip (qx_seq (sx_seq (sx_block (CB X ?_))));obtain ⟨y,hy⟩:=EP (l:=i.toks) (i:=j) A0;obtain ⟨b_y,o_y,hA_y⟩:=E3 (k:=9) A0 (hT.fr0 M.fr) hy;refine ya X (AK j hA_y X X X (sl X) A0) (ya X (AI X X (BM Tk.len (hT.fr0 M.fr) hA_y hy) Bm X BA) (CI M X HR λg12 w8 hg12 M=>yb X (BY M 0 X X BA X λw9 M=>nq (sx_seq (JC ([(0,pg gc),(2,AA next),(3,AA k),(5,pg g5),(9,.bool (MK m c i next k b1 j y)),(10,pg g10),(12,pg g12),(81,.slice T i.toks.length tc),(82,AA (i.toks.length:Int)),(83,AA (j:Int))]) (λw'=>Mem w AR [As.blk g12 75 (Tk.cells y),As.blk g10 143 [.map (some g79)],As.mp g79 L1,As.blk g5 42 (In.cells i V T vc tc)] w') ?_ (λkr15=>?_))))))
    ·intro  w10 M;refine qx_seq (sx_region (FV M 1 X X X (yb X (FV M 0 X X X (GJ M 2 (wn_none X) X X X X X Ec Aa X λw11 M=>sxl_nil (qx_block_normal (qx_seq (sx_region (CZ X X (yb X (sxl_nil (fag ⟨j+1,(MK m c i next k b1 j y),D9 L1 y.on (.bool true),X,(M.pk [1,2,3]),?_,?_,?_,?_,X⟩))))))))))))
     ·omega
     ·rw [hbE,XP,hy]
     ·exact λh=>hbk (a22 h)
     exact a1v hon (AS hy)
    refine J2 M 47 CA λM=>oc 0 47 X X M (oc 1 47 X X M (C8 (d:=89) X (λh89=>?_) (λh89=>?_)))
    ·refine ob 2 47 X (wn_on X X X) X X M (λ_ M=>yp X) (ob 3 47 X (wn_on X X X) X X M (λ_ M=>B2 X X (sc X) (M.cell 0 X X)) (ob 4 47 X (wn_on X X X) X X M (λ_ M=>L2 X X X) (oc 5 47 X X M (oc 6 47 X X M (C8 (d:=94) X (λh94=>?_) (λh94=>?_))))))
     ·have h94p:=(odt h94);refine ob 7 47 X (wn_on X X X) X X M (λ_ M=>yp X) (ob 8 47 X (wn_on X X X) X X M (λ_ M=>B2 X X (sc X) (M.cell 0 X X)) (ob 9 47 X (wn_on X X X) X X M (λ_ M=>yp X) (ob 10 47 X (wn_on X X X) X X M (λ_ M=>N7 X X X) (oc 11 47 X X M (oc 12 47 X X M (C8 (d:=100) X (λh100=>?_) (λh100=>?_)))))))
      ·have h100p:=(odt h100);refine ob 13 47 X (wn_on X X X) X X M (λ_ M=>yp X) (ob 14 47 X (wn_on X X X) X X M (λ_ M=>B2 X X (sc X) (M.cell 0 X X)) (ob 15 47 X (wn_on X X X) X X M (λ_ M=>yp X) (ob 16 47 X (wn_on X X X) X X M (λ_ M=>B2 X X (sc X) (M.cell 3 X X)) (ob 17 47 X (wn_on X X X) X X M (λ_ M=>MC X X X) (oc 18 47 X X M (oc 19 47 X X M (C8 (d:=107) X (λh107=>?_) (λh107=>?_))))))))
       ·have h107p:=(odf (CJ h107));refine ob 20 47 X (wn_on X X X) X X M (λ_ M=>yp X) (ob 21 47 X (wn_on X X X) X X M (λ_ M=>ES X X X) (ob 22 47 X (wn_on X X X) X X M (λ_ M=>yp X) (C8 (d:=110) X (λh110=>?_) (λh110=>?_))))
        ·refine AO 23 47 X M (AO 24 47 X M (AO 25 47 X M (AO 26 47 X M (AO 27 47 X M (AO 28 47 X M (AO 29 47 X M (AO 30 47 X M (AO 31 47 X M (AO 32 47 X M (ob 33 47 X (wn_on X X X) X X M (λ_ M=>yp X) (oc 34 47 X X M (oc 35 47 X X M (ob 36 47 X (wn_on X X X) X X M (λ_ M=>yp X) (ob 37 47 X (wn_on X X X) X X M (λ_ M=>AI (xs:=Tk.cells y) X X (M.rdBlk 0 X X) Bm X BA) (BC 38 (some 126) gkr X (wn_on X X X) X X (AD X X call109) (WQ m gc c F y _ ho (hC.fr0 M.fr)) ?_)))))))))))))));rintro _ w12 ⟨rfl,hfw12⟩;refine ⟨_,X,λ_=>M.step hfw12,?_⟩;have M:=M.step hfw12;refine oc 39 47 X X M (oc 40 47 X X M (C8 (d:=128) X (λh128=>?_) (λh128=>?_)))
         ·refine ob 41 47 X (wn_on X X X) X X M (λ_ M=>yp X) (ob 42 47 X (wn_on X X X) X X M (λ_ M=>AI (xs:=Tk.cells y) X X (M.rdBlk 0 X X) Bm X BA) (ob 43 47 X (wn_on X X X) X X M (λ_ M=>yp X) (BC 44 (some 132) gkr X (wn_on X X X) X X (AD X X call166) (cX gc y k _ (hwk y (Ac hy)) (hbk h89)) ?_)));rintro _ w13 ⟨rfl,hfw13⟩;refine ⟨_,X,λ_=>M.step hfw13,?_⟩;have M:=M.step hfw13;exact oc 45 47 X X M (oc 46 47 X X M (fdn (kr15  _ _ M ⟨X,X,X,X,(by rw [MK,if_pos h89,if_pos h94,if_pos h100,if_pos h107,if_pos h110,if_pos h128];rfl),X,X,X,X,X,trivial⟩)))
         exact AO 41 47 X M (AO 42 47 X M (AO 43 47 X M (AO 44 47 X M (oc 45 47 X X M (oc 46 47 X X M (fdn (kr15  _ _ M ⟨X,X,X,X,(by rw [MK,if_pos h89,if_pos h94,if_pos h100,if_pos h107,if_pos h110,AM h128];rfl),X,X,X,X,X,trivial⟩)))))))
        have h110p:=(odf h110);refine ob 23 47 X (wn_on X X X) X X M (λ_ M=>yp X) (ob 24 47 X (wn_on X X X) X X M (λ_ M=>B2 X X (sc X) (M.cell 3 X X)) (ob 25 47 X (wn_on X X X) X X M (λ_ M=>yp X) (ob 26 47 X (wn_on X X X) X X M (λ_ M=>ER (a:=j) (b:=1) X X X A0 A0) ?_)));obtain ⟨y2,hy2⟩:=EP (l:=i.toks) (i:=j-1) A0;obtain ⟨b_y2,o_y2,hA_y2⟩:=E3 (k:=9) A0 (hT.fr0 M.fr) hy2;refine ob 27 47 X (wn_on X X X) X X M (λ_ M=>AK (j-1) hA_y2 X X X (sl X) A0) (ob 28 47 X (wn_on X X X) X X M (λ_ M=>yp X) ?_);have hpd:aY i j=y2.id:=by unfold aY;rw [hy2];rfl
        refine ob 29 47 X (wn_on X X X) X X M (λ_ M=>B2 X X (sc X) (hpd▸BD Tk.len (hT.fr0 M.fr) hA_y2 hy2 0 X)) (ob 30 47 X (wn_on X X X) X X M (λ_ M=>yp X) (ob 31 47 X (wn_on X X X) X X M (λ_ M=>B2 X X (sc X) (M.cell 0 X X)) (ob 32 47 X (wn_on X X X) X X M (λ_ M=>HF X X X) (ob 33 47 X (wn_on X X X) X X M (λ_ M=>yp X) (oc 34 47 X X M (oc 35 47 X X M (C8 (d:=123) X (λh123=>?_) (λh123=>?_))))))))
        ·refine ob 36 47 X (wn_on X X X) X X M (λ_ M=>yp X) (ob 37 47 X (wn_on X X X) X X M (λ_ M=>AI (xs:=Tk.cells y) X X (M.rdBlk 0 X X) Bm X BA) (BC 38 (some 126) gkr X (wn_on X X X) X X (AD X X call109) (WQ m gc c F y _ ho (hC.fr0 M.fr)) ?_));rintro _ w14 ⟨rfl,hfw14⟩;refine ⟨_,X,λ_=>M.step hfw14,?_⟩;have M:=M.step hfw14;refine oc 39 47 X X M (oc 40 47 X X M (C8 (d:=128) X (λh128=>?_) (λh128=>?_)))
         ·refine ob 41 47 X (wn_on X X X) X X M (λ_ M=>yp X) (ob 42 47 X (wn_on X X X) X X M (λ_ M=>AI (xs:=Tk.cells y) X X (M.rdBlk 0 X X) Bm X BA) (ob 43 47 X (wn_on X X X) X X M (λ_ M=>yp X) (BC 44 (some 132) gkr X (wn_on X X X) X X (AD X X call166) (cX gc y k _ (hwk y (Ac hy)) (hbk h89)) ?_)));rintro _ w15 ⟨rfl,hfw15⟩;refine ⟨_,X,λ_=>M.step hfw15,?_⟩;have M:=M.step hfw15;exact oc 45 47 X X M (oc 46 47 X X M (fdn (kr15  _ _ M ⟨X,X,X,X,(by rw [MK,if_pos h89,if_pos h94,if_pos h100,if_pos h107,AM h110,if_pos h123,if_pos h128];rfl),X,X,X,X,X,trivial⟩)))
         exact AO 41 47 X M (AO 42 47 X M (AO 43 47 X M (AO 44 47 X M (oc 45 47 X X M (oc 46 47 X X M (fdn (kr15  _ _ M ⟨X,X,X,X,(by rw [MK,if_pos h89,if_pos h94,if_pos h100,if_pos h107,AM h110,if_pos h123,AM h128];rfl),X,X,X,X,X,trivial⟩)))))))
        exact AO 36 47 X M (AO 37 47 X M (AO 38 47 X M (oc 39 47 X X M (oc 40 47 X X M (AO 41 47 X M (AO 42 47 X M (AO 43 47 X M (AO 44 47 X M (oc 45 47 X X M (oc 46 47 X X M (fdn (kr15  _ _ M ⟨X,X,X,X,(by rw [MK,if_pos h89,if_pos h94,if_pos h100,if_pos h107,AM h110,AM h123];rfl),X,X,X,X,X,trivial⟩))))))))))))
       refine AO 20 47 X M (AO 21 47 X M (AO 22 47 X M (C7 23 47 X X M (C7 24 47 X X M (C7 25 47 X X M (C7 26 47 X X M (C7 27 47 X X M (C7 28 47 X X M (C7 29 47 X X M (C7 30 47 X X M (C7 31 47 X X M (C7 32 47 X X M (AO 33 47 X M (oc 34 47 X X M (oc 35 47 X X M ?_)))))))))))))));exact AO 36 47 X M (AO 37 47 X M (AO 38 47 X M (oc 39 47 X X M (oc 40 47 X X M (AO 41 47 X M (AO 42 47 X M (AO 43 47 X M (AO 44 47 X M (oc 45 47 X X M (oc 46 47 X X M (fdn (kr15  _ _ M ⟨X,X,X,X,(by rw [MK,if_pos h89,if_pos h94,if_pos h100,AM h107];rfl),X,X,X,X,X,trivial⟩))))))))))))
      refine AO 13 47 X M (AO 14 47 X M (AO 15 47 X M (AO 16 47 X M (AO 17 47 X M (oc 18 47 X X M (oc 19 47 X X M (AO 20 47 X M (AO 21 47 X M (AO 22 47 X M (C7 23 47 X X M (C7 24 47 X X M (C7 25 47 X X M (C7 26 47 X X M (C7 27 47 X X M (C7 28 47 X X M ?_)))))))))))))));refine C7 29 47 X X M (C7 30 47 X X M (C7 31 47 X X M (C7 32 47 X X M (AO 33 47 X M (oc 34 47 X X M (oc 35 47 X X M (AO 36 47 X M (AO 37 47 X M (AO 38 47 X M (oc 39 47 X X M (oc 40 47 X X M (AO 41 47 X M (AO 42 47 X M (AO 43 47 X M (AO 44 47 X M ?_)))))))))))))));exact oc 45 47 X X M (oc 46 47 X X M (fdn (kr15  _ _ M ⟨X,X,X,X,(by rw [MK,if_pos h89,if_pos h94,AM h100];rfl),X,X,X,X,X,trivial⟩)))
     refine AO 7 47 X M (AO 8 47 X M (AO 9 47 X M (AO 10 47 X M (oc 11 47 X X M (oc 12 47 X X M (AO 13 47 X M (AO 14 47 X M (AO 15 47 X M (AO 16 47 X M (AO 17 47 X M (oc 18 47 X X M (oc 19 47 X X M (AO 20 47 X M (AO 21 47 X M (AO 22 47 X M ?_)))))))))))))));refine C7 23 47 X X M (C7 24 47 X X M (C7 25 47 X X M (C7 26 47 X X M (C7 27 47 X X M (C7 28 47 X X M (C7 29 47 X X M (C7 30 47 X X M (C7 31 47 X X M (C7 32 47 X X M (AO 33 47 X M (oc 34 47 X X M (oc 35 47 X X M (AO 36 47 X M (AO 37 47 X M (AO 38 47 X M ?_)))))))))))))));exact oc 39 47 X X M (oc 40 47 X X M (AO 41 47 X M (AO 42 47 X M (AO 43 47 X M (AO 44 47 X M (oc 45 47 X X M (oc 46 47 X X M (fdn (kr15  _ _ M ⟨X,X,X,X,(by rw [MK,if_pos h89,AM h94];rfl),X,X,X,X,X,trivial⟩)))))))))
    refine AO 2 47 X M (AO 3 47 X M (AO 4 47 X M (oc 5 47 X X M (oc 6 47 X X M (AO 7 47 X M (AO 8 47 X M (AO 9 47 X M (AO 10 47 X M (oc 11 47 X X M (oc 12 47 X X M (AO 13 47 X M (AO 14 47 X M (AO 15 47 X M (AO 16 47 X M (AO 17 47 X M ?_)))))))))))))));refine oc 18 47 X X M (oc 19 47 X X M (AO 20 47 X M (AO 21 47 X M (AO 22 47 X M (C7 23 47 X X M (C7 24 47 X X M (C7 25 47 X X M (C7 26 47 X X M (C7 27 47 X X M (C7 28 47 X X M (C7 29 47 X X M (C7 30 47 X X M (C7 31 47 X X M (C7 32 47 X X M (AO 33 47 X M ?_)))))))))))))));exact oc 34 47 X X M (oc 35 47 X X M (AO 36 47 X M (AO 37 47 X M (AO 38 47 X M (oc 39 47 X X M (oc 40 47 X X M (AO 41 47 X M (AO 42 47 X M (AO 43 47 X M (AO 44 47 X M (oc 45 47 X X M (oc 46 47 X X M (fdn (kr15  _ _ M ⟨X,X,X,X,(by rw [MK,AM h89];rfl),X,X,X,X,X,trivial⟩))))))))))))))
   have h84p:=(odf h84);refine sx_exit (qx_then_exit (qx_then_exit ?_));obtain rfl:j=i.toks.length:=by omega
   rw [Ba] at hon
   refine qx_block_hit (qx_seq (sx_seq (srg ?_)));iterate 4 refine yb X ?_
   refine yl X X (Blk.c ((hC.fr0 M.fr).blk) 3 X) (UR X X (CQ X (sx_block (EF M [143,142,10,0] (λze zF e wr mz=>∃(q:Nat) (b2:Bool),e=(9,.bool b2)::(144,AA ((q:Nat):Int))::ze∧zF wr∧(q≤m.els.length)∧(b2=(b1&&(m.els.take q).all (λx => !(jL c i x))))∧mz=m.els.length-q) ⟨0,b1,X,M,Ae _,(Io _).symm,X⟩ ?_))));rintro _ w16 _ ⟨q,b2,rfl,M,hq,hb2,rfl⟩;refine srg (GB X X (nq (sx_seq (AB X (λh145=>?_) (λh145=>?_)))))
   ·have h145p:=(odt h145);refine sx_skip (qx_seq (sx_seq (sx_block (srg ?_))));obtain ⟨x,hx⟩:=EP (l:=m.els) (i:=q) A0;obtain ⟨b_x,o_x,hA_x⟩:=E3 (k:=11) A0 ((hC.fr0 M.fr).md.md.els) hx;refine ya X (AK q hA_x X X X (sl X) A0) (ya X (AI X X (BM El.len ((hC.fr0 M.fr).md.md.els) hA_x hx) Bf X AJ) (CI M X AP λg14 w17 hg14 M=>BY M 0 X X AJ X λw18 M=>nq (sx_seq (JC ([(0,pg gc),(9,.bool b2),(10,pg g10),(142,.slice c.a.E m.els.length c.a.ec),(143,AA (m.els.length:Int)),(144,AA ((q:Nat):Int)),(162,.bool (jL c i x))]) (λw'=>Mem w AR [As.blk g14 106 (El.cells x),As.blk g10 143 [.map (some g79)],As.mp g79 L1,As.blk g5 42 (In.cells i V T vc tc)] w') ?_ (λkj21=>?_)))))
    ·intro w19 M;refine qx_seq (AB X (λh162=>?_) (λh162=>?_))
     ·refine sx_region (yb X (sxl_nil (qx_block_normal (qx_seq (sx_region (CZ X X (yb X (sxl_nil (fag ⟨q+1,false,X,(M.pk [1,2,3]),?_,?_,X⟩)))))))))
      ·omega
      rw [AS hx,Fw]
      first
       | (rw [hb2];simp [h162];done)
       | simp [h162]
     refine sx_skip (qx_block_normal (qx_seq (sx_region (CZ X X (yb X (sxl_nil (fag ⟨q+1,b2,X,(M.pk [1,2,3]),?_,?_,X⟩)))))))
     ·omega
     rw [AS hx,Fw]
     first
      | (rw [hb2];simp [h162];done)
      | simp [h162]
    refine EB 12 CA gkr ?_;have M:=M.drew;refine sb X (bN M 0 X X X (sa X (ES X X X) (sb X (C1 (d:=151) X (λh151=>?_) (λh151=>?_)))))
    ·have h151p:=(odt h151);refine gsg X (yp X) (gsg X (yp X) (gsg X (yp X) (gsg X (B2 X X (sc X) (Blk.c ((hC.fr0 M.fr).blk) 7 X)) (gsg X (yp X) (gsg X (B2 X X (sc X) (M.cell 0 X X)) (gsg X (CD X X X Gg Aa J3 ((hC.fr0 M.fr).I) (hC.getI _)) (gsg X (CY (us:=[]) (vs:=[pg g10]) X X X) (D6 (sxl_call (some 160) (wn_on X X X) X X (AD X X call167) (p6 (PJ (G9 c.LI x.id)) (iF (G9 c.LI x.id)) (c.ins x.id) _ (by have:=hil x.id;omega) 168 [pg g10] (λf => !(onP i.toks f)) (IW call168 (λf _ w9 hf9=>oW i.toks g10 g79 L1 f w9 ((M.blk 1 X).fr0 hf9) (Mp.fr (M.mp 2 X) hf9 (λhh=>hh)) hon)) ((hC.fr0 M.fr).rdI _)) ?_)))))))));rintro _ w20 ⟨rfl,hfw20⟩;refine ⟨_,X,?_⟩;have M:=M.step hfw20;exact gyq X (yb X (sxl_nil (kj21 _ _ M ⟨X,X,X,X,X,X,(by rw [jL,if_pos h151];rfl),trivial⟩)))
    iterate 8 refine EJ X X X X X X ?_
    exact D6 (yo X (yo X (yb X (sxl_nil (kj21 _ _ M ⟨X,X,X,X,X,X,(by rw [jL,AM h151];rfl),trivial⟩)))))
   have h145p:=(odf h145);refine sx_exit (qx_then_exit (qx_then_exit ?_));obtain rfl:q=m.els.length:=by omega
   rw [Ba] at hb2
   refine qx_block_hit (qx_seq (sx_seq (CB X (CQ X (AB X (λh165=>?_) (λh165=>?_))))))
   ·exact CB X (gnr (qx_then_ret (gr1 X ⟨by rw [I6,←hbE,←hb2,if_neg (by rw [CJ h165];decide)],M.fr⟩)))
   exact sx_skip (qx_seq (CB X (gnr (gr1 X ⟨by rw [I6,←hbE,←hb2,if_pos (BO h165)],M.fr⟩))))
  refine sx_block (srg (JJ X X (CQ X (AB X (λh60=>?_) (λh60=>?_)))))
  ·refine sx_region (DO X X (fvm M 5 [9,5,3,2,0] [(68,.bool ((LP m i next k)&&(decide (0<(i.toks.length:Int)))))] ?_ (λk63=>?_)))
   ·intro w21 M;exact yb X (sxl_nil (qx_block_normal (kj0 _ _ M ⟨X,X,X,X,(by rw [PO,if_pos h60];rfl),trivial⟩)))
   refine A1 (d:=63) X (λh63=>?_) (λh63=>?_)
   ·exact gyq X (QK M 0 X X X (yd X (I7 X X (sl X)) (yd X (JR X X X) (yb X (k63 M ⟨X,X,X,X,X,(by rw [h63];rfl),trivial⟩)))))
   iterate 4 refine yo X ?_
   exact yb X (k63 M ⟨X,X,X,X,X,(by rw [h63];rfl),trivial⟩)
  refine sx_seq (srg (JJ X X (CQ X (K5 [(0,pg gc),(2,AA next),(3,AA k),(5,pg g5),(9,.bool (LP m i next k)),(69,.bool ((decide ((i.st.toNat:Int)=2)) || (decide ((i.st.toNat:Int)=3))))] (λw'=>Mem w AR [As.blk g5 42 (In.cells i V T vc tc)] w') ?_ (λk69=>?_)))))
  ·intro w22 M;refine qx_seq (AB X (λh69=>?_) (λh69=>?_))
   ·have h69p:=((PM h69).imp (λz=>(odt z)) (λz=>(odt z)));refine sx_region (DO X X (fvm M 5 [9,5,3,2,0] [(78,.bool ((LP m i next k)&&(decide ((i.toks.length:Int)=0))))] ?_ (λk73=>?_)))
    ·intro w23 M;exact yb X (sxl_nil (qx_block_normal (kj0 _ _ M ⟨X,X,X,X,(by rw [PO,AM h60,if_pos h69];rfl),trivial⟩)))
    refine A1 (d:=73) X (λh73=>?_) (λh73=>?_)
    ·exact gyq X (QK M 0 X X X (yd X (I7 X X (sl X)) (yd X (ES X X X) (yb X (k73 M ⟨X,X,X,X,X,(by rw [h73];rfl),trivial⟩)))))
    iterate 4 refine yo X ?_
    exact yb X (k73 M ⟨X,X,X,X,X,(by rw [h73];rfl),trivial⟩)
   exact sx_region (yb X (sxl_nil (qx_block_normal (kj0 _ _ M ⟨X,X,X,X,(by rw [PO,AM h60,AM h69];rfl),trivial⟩))))
  refine AB X (λh69=>?_) (λh69=>?_)
  ·exact sx_skip (k69 _ _ M ⟨X,X,X,X,X,(by rw [h69];rfl),trivial⟩)
  exact sx_region (JJ X X (yb X (sxl_nil (k69 _ _ M ⟨X,X,X,X,X,(by rw [h69];rfl),trivial⟩))))
 refine EB 39 CA gkr ?_;have M:=M.drew;refine sb X (sa X (L2 X X X) (sb X (fvs 3 [5,3,2,0] [(22,.bool ((decide ((0:Int)≤next))&&(decide (next≤(2147483647:Int)))))] ?_ (λk19=>?_))))
 ·refine sb X (fvs 3 [5,3,2,0] [(26,.bool (((decide ((0:Int)≤next))&&(decide (next≤(2147483647:Int))))&&(decide ((0:Int)≤k))))] ?_ (λk23=>?_))
  ·refine sb X (fvs 3 [5,3,2,0] [(30,.bool ((((decide ((0:Int)≤next))&&(decide (next≤(2147483647:Int))))&&(decide ((0:Int)≤k)))&&(decide (k≤(1099511627776:Int)))))] ?_ (λk27=>?_))
   ·refine sb X (fvs 9 [5,3,2,0] [(40,.bool (((((decide ((0:Int)≤next))&&(decide (next≤(2147483647:Int))))&&(decide ((0:Int)≤k)))&&(decide (k≤(1099511627776:Int))))&&(decide (i.mdl=m.id))))] ?_ (λk31=>?_))
    ·refine sb X (fvs 4 [5,3,2,0] [(45,.bool ((((((decide ((0:Int)≤next))&&(decide (next≤(2147483647:Int))))&&(decide ((0:Int)≤k)))&&(decide (k≤(1099511627776:Int))))&&(decide (i.mdl=m.id)))&&(decide ((1:Int)≤i.id))))] ?_ (λk41=>?_))
     ·refine sb X (fvs 5 [5,3,2,0] [(51,.bool (((((((decide ((0:Int)≤next))&&(decide (next≤(2147483647:Int))))&&(decide ((0:Int)≤k)))&&(decide (k≤(1099511627776:Int))))&&(decide (i.mdl=m.id)))&&(decide ((1:Int)≤i.id)))&&(decide (i.id≤next))))] ?_ (λk46=>?_))
      ·refine sb X (C1 (d:=52) X (λh52=>?_) (λh52=>?_))
       ·refine gsg X (yp X) (gsg X (yp X) (gsg X (B2 X X (sc X) (M.cell 0 X X)) (D6 (sxl_call (some 56) (wn_on X X X) X X (AD X X call165) (wB m gc c F i.vars V vc _ (hC.fr0 M.fr) hok (hV.fr0 M.fr) (hY.fr0 M.fr)) ?_))));rintro _ w24 ⟨rfl,hfw24⟩;refine ⟨_,X,?_⟩;have M:=M.step hfw24;exact DO X X (sxl_nil (kj3 _ _ M ⟨X,X,X,X,(by rw [LP,if_pos h52];rfl),trivial⟩))
       have h52p:=((KQ h52).imp (λz=>((KQ z).imp (λz=>((KQ z).imp (λz=>((KQ z).imp (λz=>((KQ z).imp (λz=>((KQ z).imp (λz=>(odf z)) (λz=>(odf z)))) (λz=>(odf z)))) (λz=>(odf z)))) (λz=>(odf z)))) (λz=>(odf z)))) (λz=>(odf z)));exact EJ X X X X X X (EJ X X X X X X (EJ X X X X X X (D6 (yo X (DO X X (sxl_nil (kj3 _ _ M ⟨X,X,X,X,(by rw [LP,AM h52];rfl),trivial⟩)))))))
      refine C1 (d:=46) X (λh46=>?_) (λh46=>?_)
      ·exact gsg X (yp X) (gsg X (B2 X X (sc X) (M.cell 0 X X)) (gsg X (yp X) (gsg X (N7 X X X) (sb X (k46 _ ⟨X,X,X,X,(by rw [h46];rfl),trivial⟩)))))
      iterate 4 refine EJ X X X X X X ?_
      exact sb X (k46 _ ⟨X,X,X,X,(by rw [h46];rfl),trivial⟩)
     refine C1 (d:=41) X (λh41=>?_) (λh41=>?_)
     ·exact gsg X (yp X) (gsg X (B2 X X (sc X) (M.cell 0 X X)) (gsg X (L2 X X X) (sb X (k41 _ ⟨X,X,X,X,(by rw [h41];rfl),trivial⟩))))
     exact EJ X X X X X X (EJ X X X X X X (EJ X X X X X X (sb X (k41 _ ⟨X,X,X,X,(by rw [h41];rfl),trivial⟩))))
    refine C1 (d:=31) X (λh31=>?_) (λh31=>?_)
    ·refine gsg X (yp X) (gsg X (B2 X X (sc X) (M.cell 0 X X)) ?_);iterate 4 refine gsg X (yp X) ?_
     exact gsg X (B2 X X (sc X) (Blk.c ((hC.fr0 M.fr).blk) 0 X)) (gsg X (GI X X X) (sb X (k31 _ ⟨X,X,X,X,(by rw [h31];rfl),trivial⟩)))
    iterate 8 refine EJ X X X X X X ?_
    exact sb X (k31 _ ⟨X,X,X,X,(by rw [h31];rfl),trivial⟩)
   refine C1 (d:=27) X (λh27=>?_) (λh27=>?_)
   ·exact gsg X (yp X) (gsg X (N7 X X X) (sb X (k27 _ ⟨X,X,X,X,(by rw [h27];rfl),trivial⟩)))
   exact EJ X X X X X X (EJ X X X X X X (sb X (k27 _ ⟨X,X,X,X,(by rw [h27];rfl),trivial⟩)))
  refine C1 (d:=23) X (λh23=>?_) (λh23=>?_)
  ·exact gsg X (yp X) (gsg X (L2 X X X) (sb X (k23 _ ⟨X,X,X,X,(by rw [h23];rfl),trivial⟩)))
  exact EJ X X X X X X (EJ X X X X X X (sb X (k23 _ ⟨X,X,X,X,(by rw [h23];rfl),trivial⟩)))
 refine C1 (d:=19) X (λh19=>?_) (λh19=>?_)
 ·exact gsg X (yp X) (gsg X (N7 X X X) (sb X (k19 _ ⟨X,X,X,X,(by rw [h19];rfl),trivial⟩)))
 exact EJ X X X X X X (EJ X X X X X X (sb X (k19 _ ⟨X,X,X,X,(by rw [h19];rfl),trivial⟩)))
section
section
section
variable {m:Md} {c:CrA}
theorem a06 {i:In} {next k:Int} {b1:Bool} {j:Nat} {y:Tk} (h:MK m c i next k b1 j y=true):b1=true∧(HK m c y=true∧OA y k=true∧1≤y.id∧y.id≤next)∧(j=0∨aY i j<y.id):=by
 unfold MK at h
 split at h
 ·rename_i h1
  split at h
  ·rename_i h2
   split at h
   ·rename_i h3
    split at h
    ·split at h
     ·rename_i h5
      split at h
      ·rename_i h6;exact ⟨h1,⟨h6,h,odt h2,odt h3⟩,.inl (by have:=odt h5;omega)⟩
      cases h
     split at h
     ·rename_i h5
      split at h
      ·rename_i h6;exact ⟨h1,⟨h6,h,odt h2,odt h3⟩,.inr (odt h5)⟩
      cases h
     cases h
    cases h
   cases h
  cases h
 cases h
theorem bZ {i:In} {next k:Int} {b0:Bool}:∀{j:Nat},XP m c i next k b0 j=true→b0=true∧∀q y,q<j→i.toks[q]?=some y→(HK m c y=true∧OA y k=true∧1≤y.id∧y.id≤next)∧(q=0∨aY i q<y.id)
 | 0,h=>⟨h,λq y hq=>absurd hq (Dl _)⟩
 | j+1,h=>by
  rw [XP] at h
  cases hj:i.toks[j]? with
  | none=>
   rw [hj] at h
   obtain ⟨h1,h2⟩:=bZ h;refine ⟨h1,λq y hq hy=>?_⟩
   by_cases hqj:q=j
   ·subst hqj;rw [hj] at hy;cases hy
   exact h2 q y A0 hy
  | some y0=>
   rw [hj] at h
   have h9:=a06 h;obtain ⟨h1,h2⟩:=bZ h9.1;refine ⟨h1,λq y hq hy=>?_⟩
   by_cases hqj:q=j
   ·subst hqj;rw [hj] at hy;injection hy with hy;subst hy;exact h9.2
   exact h2 q y A0 hy
theorem a07 {i:In} {next k:Int} (h:PO m i next k=true):0≤next∧next≤2147483647∧0≤k∧k≤1099511627776∧i.mdl=m.id∧IQ i.vars m.vars=true:=by
 have h0:LP m i next k=true:=by
  cases hc:LP m i next k with
  | true=>rfl
  | false=>unfold PO at h;rw [hc] at h;simp at h
 unfold LP at h0
 split at h0
 ·rename_i hc
  simp only [Bh,decide_eq_true_eq] at hc
  obtain ⟨⟨⟨⟨⟨⟨a1,a2⟩,a3⟩,a4⟩,a5⟩,_⟩,_⟩:=hc;exact ⟨a1,a2,a3,a4,a5,h0⟩
 cases h0
theorem gB {i:In} {next k:Int} (h:I6 m c i next k=true):(0≤next∧next≤2147483647∧0≤k∧k≤1099511627776∧i.mdl=m.id∧IQ i.vars m.vars=true)∧∀y∈i.toks,HK m c y=true∧OA y k=true∧1≤y.id∧y.id≤next:=by
 unfold I6 at h
 rw [Bh] at h
 obtain ⟨h1,h2⟩:=bZ h.1;refine ⟨a07 h1,λy hy=>?_⟩;obtain ⟨q,hq,he⟩:=List.mem_iff_getElem.1 hy;exact (h2 q y hq (by rw [Ao hq,he])).1
variable (R:Rl m)
include R
theorem zX {x:El} (hx:x∈m.els) (h7:x.kind.toNat=7) {f:Fl} (hf:f∈m.fls) (hfx:f.frm=x.id):∃y∈m.els,y.id=f.tg∧y.kind.toNat=8:=by
 obtain ⟨y,hy,hyi,_⟩:=R.ends hf;refine ⟨y,hy,hyi,?_⟩;have h4:=R.four x hx;unfold IZ at h4
 rw [if_neg (by simp [h7]),if_neg (by simp [h7]),if_neg (by simp [h7]),if_pos (by simp [h7])] at h4
 split at h4
 ·have h5:LL m f=false:=by
   cases hq:LL m f with
   | false=>rfl
   | true=>
    rw [Ek,Hv] at h4
    exact absurd hq (h4 f (Dg.2 ⟨hf,by simp [hfx]⟩))
  unfold LL at h5
  rw [←hyi,uP R.els hy] at h5
  simp only [Bool.or_eq_false_iff,Bool.not_eq_false',decide_eq_true_eq] at h5
  have:=h5.1
  simp only [Ct] at this
  omega
 cases h4
variable (Z:Cz m c)
include Z
theorem eP {k:Kz} (h0:(c.atf k).kind.toNat≠0) (h2:(c.atf k).kind.toNat≠2):0<(c.outs k).length∧∃x∈m.els,x.id=k∧c.atf k=x:=by
 rcases gJ m k with ⟨x,hx,rfl⟩|h
 ·rw [ZQ R Z hx] at h2
  exact ⟨bT R Z hx h2,x,hx,X,ZQ R Z hx⟩
 rw [Z.eA,(Y6 h).1] at h0;exact absurd rfl h0
theorem VN {t:Tk} {via:Kz} (hv:via∈EI m c t∨((c.atf t.loc).kind.toNat=4∧via=t.loc)):0<(c.outs via).length∧∃x∈m.els,x.id=via∧c.atf via=x:=by
 rcases hv with hv|⟨h4,rfl⟩
 ·unfold EI at hv
  split at hv
  ·cases hv
  rcases Bo.1 hv with hv|hv
  ·unfold aX at hv
   split at hv
   ·rename_i hk
    simp only [Dm,decide_eq_true_eq] at hk
    rw [Au] at hv
    rw [hv];exact eP R Z A0 A0
   split at hv
   ·rename_i hk
    have hk:=odt hk;obtain ⟨k,hk2,rfl⟩:=Ch.1 hv;obtain ⟨f,hf,rfl,hfr,x,hx,hxi⟩:=oU R Z hk2;rw [(a2G R Z hf).1];have hk7:x.kind.toNat=7:=by rw [←hxi,ZQ R Z hx] at hk;omega
    obtain ⟨y,hy,hyi,hy8⟩:=zX R hx hk7 hf (by rw [hfr,hxi]);rw [←hyi];exact ⟨bT R Z hy A0,y,hy,X,ZQ R Z hy⟩
   cases hv
  obtain ⟨k,_,hk⟩:=List.mem_flatMap.1 hv;unfold D7 at hk
  obtain ⟨x,hx,rfl⟩:=Ch.1 hk;obtain ⟨hx1,hx2⟩:=Dg.1 hx;simp only [Bh,decide_eq_true_eq] at hx2
  exact ⟨bT R Z hx1 A0,x,hx1,X,ZQ R Z hx1⟩
 exact eP R Z A0 A0
omit R Z in
theorem lU {nm:Kz}:∀{l k:List Bd} {i:Nat},IQ l k=true→(k.map (·.name)).Nodup→∀z∈k,z.name=nm→∃v,(ffN (λ(_:Nat) (b:Bd) => !(decide (b.name=nm))) i l).map (·.v)=some v∧v.kind.toNat=z.v.kind.toNat
 | [],[],_,_,_,z,hz,_=>by cases hz
 | [],_::_,_,h,_,_,_,_=>by cases h
 | _::_,[],_,h,_,_,_,_=>by cases h
 | a::r,b::s,i,h,hn,z,hz,he=>by
  rw [IQ,Bh] at h
  rw [Cj,Fv] at hn
  have h1:=h.1;unfold VP at h1
  simp only [Bh,decide_eq_true_eq] at h1
  rcases Ak.1 hz with rfl|hz
  ·refine ⟨a.v,?_,by omega⟩;rw [ffN,if_neg (by simp [h1.1.1,he])];rfl
  have hne:¬a.name=nm:=λe=>hn.1 (by rw [←h1.1.1,e,←he];exact En hz)
  rw [ffN,if_pos (by simp [hne])];exact lU h.2 hn.2 z hz he
theorem kG {t:Tk} {vars:List Bd} (hv:IQ vars m.vars=true) {k:Kz} (hk:k∈EI m c t):(GR c k t.born vars).2=0∧(GR c k t.born vars).1.via=k:=by
 obtain ⟨_,x,hx,_,he⟩:=VN R Z (.inl hk);unfold GR
 split
 ·exact ⟨X,X⟩
 split
 ·rename_i h2
  rw [he] at h2 ⊢
  have h8:=R.eight x hx;unfold MI at h8
  rw [h2] at h8
  simp only [Gj,Fs,List.any_eq_true] at h8
  obtain ⟨z,hz,h81⟩:=h8;unfold PC at h81
  simp only [Bh,decide_eq_true_eq] at h81
  obtain ⟨v,hv1,hv2⟩:=lU (i:=0) hv R.vars z hz h81.1;have hf:YK vars x.key=some v:=hv1;rw [hf];rw [if_neg (by simp),if_neg (by simp only [Ct,Ek,decide_eq_false_iff_not,Decidable.not_not];omega)];exact ⟨X,X⟩
 exact ⟨X,X⟩
theorem kI {t:Tk} {vars:List Bd} (hv:IQ vars m.vars=true):∀l:List Kz,(∀k∈l,k∈EI m c t)→VM c t vars l=none
 | [],_=>rfl
 | k::r,h=>by
  rw [VM,if_neg (by rw [(kG R Z hv (h k Bc)).1];decide)];exact kI hv r λq hq=>h q (Ap _ hq)
theorem pQ {t:Tk} {vars:List Bd} (hv:IQ vars m.vars=true) (hp:HK m c t=true):D5 m c t vars=((EI m c t).map (λk=>(GR c k t.born vars).1),0)∧(D5 m c t vars).1.map (·.via)=EI m c t:=by
 have h1:D5 m c t vars=((EI m c t).map (λk=>(GR c k t.born vars).1),0):=by
  unfold D5;rw [if_neg (by simp [hp]),kI R Z hv _ λk hk=>hk]
 refine ⟨h1,?_⟩;rw [h1,Gr];exact (Fd λk hk=>(kG R Z hv hk).2).trans (List.map_id _)
omit R Z
end
end
def As.res (b0 b1:Nat) (F0:List Nat) (P:Kw→Prop):As:=⟨F0++List.range' b0 (b1-b0),λw=>∀w2,(∀g∈F0++List.range' b0 (b1-b0),g<w.heap.size→w2.heap[g]?=w.heap[g]?)→P w2,λ{w w'} h hb w2 h2=>hb w2 λg hg hlt=>by
 have h3:=h g hg hlt
 have hlt':g<w'.heap.size:=by
  rw [Fb hlt] at h3
  exact (An.1 h3).1
 exact (h2 g hg hlt').trans h3⟩
structure MdStr (m:Md):Prop where
 id:(m.id.length:Int)<4611686018427387904
 nm:(m.nm.length:Int)<4611686018427387904
 vars:BdOk m.vars
 els:∀x∈m.els,ElOk x
 fls:∀x∈m.fls,FlOk x
open Go.ChangeShapes Go.WideShapes Go.ChangeAt Go.RowKit Go.Deep Go.Joins
open Tryz
section
def Sized {H:Type} (P:Lw) (t:Ly) (d:DataW H):Prop:=∀n∈d.weights P t,n≤reachBytes
theorem NW {H:Type} {P:Lw} {e:Ly}:∀{ds:List (DataW H)} {d:DataW H},d∈ds→∀n∈d.weights P e,n∈DataW.weightsAll P e ds
 | d0::ds,d,hd,n,hn=>by
  simp only [DataW.weightsAll,Bo];rcases Ak.1 hd with rfl|hd
  ·exact .inl hn
  exact .inr (NW hd n hn)
section
variable {H:Type} {P:Lw} {t e:Ly}
theorem Sized.of {ts:List Ly} {ds:List (DataW H)} (h:(DataW.weightsEach P ts ds).all (·≤reachBytes)=true) {j:Nat} {t:Ly} {d:DataW H} (ht:ts[j]?=some t) (hd:ds[j]?=some d):Sized P t d:=λn hn=>by
 have:=Ci.1 h _ (DataW.weights_mem_each ht hd n hn)
 simpa using this
theorem Sized.elem {D sp:List (DataW H)} {d:DataW H} (ht:P.underlying t=some (.slice e)) (h:Sized P t (.slice D sp)) (hd:d∈D):Sized P e d:=λn hn=>h n (by
 simp only [DataW.weights,ht,Ak,Bo];exact .inr (.inl (NW hd n hn)))
theorem Sized.len {D sp:List (DataW H)} (ht:P.underlying t=some (.slice e)) (hb:0<P.bytesOf e) (h:Sized P t (.slice D sp)):D.length≤reachBytes:=by
 have:=h ((D.length+sp.length)*P.bytesOf e) (by simp [DataW.weights,ht])
 exact Bb (Bb (Cu _ _) (Gk _ hb)) this
theorem Sized.field {fs:Array Field} {D:List (DataW H)} {j:Nat} {f:Field} {d:DataW H} (ht:P.underlying t=some (.struct fs)) (h:Sized P t (.agg D)) (hf:fs[j]?=some f) (hd:D[j]?=some d):Sized P f.type d:=λn hn=>h n (by
 simp only [DataW.weights,ht];exact DataW.weights_mem_each (j:=j) (by rw [Bu,Array.getElem?_toList,hf];rfl) hd n hn)
theorem Sized.text {l:Kz} (h:Sized (H:=H) P t (.lit (.string l))):l.length≤reachBytes:=h _ (by simp only [DataW.weights];exact Au.2 rfl)
end
theorem WH : reachBytes<4611686018427387904:=by decide
theorem N3 {α β:Type} (f:β→α) (Q:β→Prop):∀(rows:List α),(∀r∈rows,∃p,r=f p∧Q p)→∃l:List β,rows=l.map f∧∀x∈l,Q x
 | [],_=>⟨[],rfl,λ_ h=>by cases h⟩
 | r::rows,h=>by
  obtain ⟨p,hp,hq⟩:=h r (by simp);obtain ⟨l,hl,hl'⟩:=N3 f Q rows (λr hr=>h r (by simp [hr]))
  exact ⟨p::l,by rw [hp,hl];rfl,λx hx=>by
   rcases Ak.1 hx with rfl|hx
   ·exact hq
   exact hl' x hx⟩
theorem QP : prog.cellsOf 63=5:=by kernel_rfl
theorem UC : prog.cellsOf 61=4:=by kernel_rfl
theorem gD : prog.cellsOf 48=5:=by kernel_rfl
theorem DM : prog.cellsOf 9=1:=by kernel_rfl
theorem S7 : prog.cellsOf 5=1:=by kernel_rfl
theorem jQ : prog.cellsOf 4=1:=by kernel_rfl
theorem oX : prog.cellsOf 2=1:=by kernel_rfl
theorem jR : 0<prog.bytesOf 63:=by rw [show prog.bytesOf 63=56 by kernel_rfl];decide
theorem OR : prog.cellsOf 23=1:=by kernel_rfl
section
variable {H:Type} {enc:Ly × Kv→H} {w:Kw}
theorem iI {r:Kx} {n:Nat} {x:DataW H × List MemPlace} (h:DataW.trod enc prog w 0 (λ_=>true) true n 61 r=some x) (hz:Sized prog 61 x.1):∃v:Vl,r=v.cells∧v.text.length≤reachBytes:=by
 obtain ⟨y0,y1,y2,y3,m,rfl,hl,h0,h1,h2,h3⟩:=trod_struct4 Br h;rw [UC] at hl
 simp only [S7,jQ,oX,DM] at h0 h1 h2 h3
 obtain ⟨a,ha,_,wa⟩:=DataW.trod_int Bi h0;obtain ⟨b,hb,_⟩:=DataW.trod_int Ha h1;obtain ⟨c,hc,_⟩:=DataW.trod_bool Ei h2;obtain ⟨s,hs,hd,_⟩:=DataW.trod_string Aa h3;have hz3:=Sized.field (j:=3) Br hz X X;rw [hd] at hz3
 match r,hl with
 | [r0,r1,r2,r3],_=>
  obtain rfl:r0=_:=by simpa using ha
  obtain rfl:r1=_:=by simpa using hb
  obtain rfl:r2=_:=by simpa using hc
  obtain rfl:r3=_:=by simpa using hs
  exact ⟨⟨UInt8.ofNat a.toNat,b,c,s.data.toList⟩,by rw [cT wa];rfl,hz3.text⟩
theorem n9 {r:Kx} {d:DataW H} (h:ZY enc prog w 63 r d) (hz:Sized prog 63 d):∃b:Bd,r=b.cells∧b.name.length≤reachBytes∧b.v.text.length≤reachBytes:=by
 obtain ⟨n,p,h⟩:=h;obtain ⟨y0,y1,m,hx,hl,h0,h1⟩:=trod_struct2 Dj h;rw [QP] at hl
 simp only [Av] at hx
 obtain ⟨rfl,_⟩:=hx;simp only [UC,DM] at h0 h1
 obtain ⟨s,hs,hd,_⟩:=DataW.trod_string Aa h0;have hz0:=Sized.field (j:=0) Dj hz X X;have hz1:=Sized.field (j:=1) Dj hz X X;rw [hd] at hz0
 obtain ⟨v,hv,hvt⟩:=iI h1 hz1
 match r,hl with
 | r0::r',hl=>
  obtain rfl:r0=_:=by simpa using hs
  have hl':r'.length=4:=by simpa using hl
  have e:r'=v.cells:=by
   have e1:(r'.take 4)=v.cells:=hv;rw [Gp A0] at e1
   exact e1
  exact ⟨⟨s.data.toList,v⟩,by rw [e];rfl,hz0.text,hvt⟩
theorem X9 {A:Ky} {len cap fuel:Nat} {x:DataW H × List MemPlace} (h:DataW.trod enc prog w 0 (λ_=>true) true fuel 23 [.slice A len cap]=some x) (hz:Sized prog 23 x.1) :
 ∃l:List Bd,l.length=len∧BdOk l∧Rd w A (l.length*5) (U8 l):=by
 obtain ⟨rows,D,hl,hD,_,hr,_,_,hn,hx,hd⟩:=MU Eb QP A0 h
 have key:(∀r∈rows,∃b:Bd,r=b.cells∧(b.name.length≤reachBytes∧b.v.text.length≤reachBytes))∧len≤reachBytes:=by
  rcases hd with ⟨_,h0,_⟩|⟨sp,hs,_⟩
  ·have:rows=[]:=Bj A0
   subst this;exact ⟨λr hr=>by (cases hr),by omega⟩
  rw [hs] at hz
  refine ⟨λr hr=>?_,by rw [←hD];exact hz.len Eb jR⟩;obtain ⟨i,hi⟩:=Cd hr;obtain ⟨d,hdi,hrd⟩:=hx i r hi;exact n9 hrd (hz.elem Eb (Ac hdi))
 obtain ⟨l,rfl,hq⟩:=N3 Bd.cells (λb=>b.name.length≤reachBytes∧b.v.text.length≤reachBytes) rows key.1;rw [Bp] at hl
 subst hl;have hlt:=WH;have hlen:=key.2;exact ⟨l,X,⟨by omega,λx hx=>by have:=(hq x hx).1;omega,λx hx=>by have:=(hq x hx).2;omega⟩,hr⟩
end
end
end
end Go.Proofs.YtppmdnmjepkfaaaGreatDoor
