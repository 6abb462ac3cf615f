/- Lemmas. -/
import Derived.Test.YtaheakjfkpkefaaGreatDoorVScp
set_option maxHeartbeats 16000000
set_option maxRecDepth 100000
namespace Go.Proofs.YtaheakjfkpkefaaGreatDoor
open Go.RowKit
section
theorem LH {α:Type} {p:Nat→α→Bool}:∀{l:List α} {i:Nat},ffN p i l=none→∀j x,l[j]?=some x→p (i+j) x=true
 | [],_,_,_,_,h=>by simp at h
 | x::r,i,hn,j,y,hj=>by
  unfold ffN at hn
  by_cases h:p i x=true
  ·rw [if_pos h] at hn
   cases j with
   | zero=>simp at hj;subst hj;exact h
   | succ j=>rw [show i+(j+1)=i+1+j by omega];exact LH hn j y (by simpa using hj)
  ·rw [if_neg h] at hn;simp at hn
theorem TA {α β:Type} {o:Option α} {f:α→β} (h:o.map f=none):o=none:=by cases o<;>simp at h ⊢
theorem RX {p:El→Bool} {l:List El} (h:ffE p l=none):∀x∈l,p x=true:=λx hx=>by
 obtain ⟨j,hj⟩:=List.getElem?_of_mem hx;exact LH (TA h) j x hj
theorem eE {p:Fl→Bool} {l:List Fl} (h:ffF p l=none):∀x∈l,p x=true:=λx hx=>by
 obtain ⟨j,hj⟩:=List.getElem?_of_mem hx;exact LH (TA h) j x hj
theorem ZU : ∀{l:List (Option (List UInt8))} {i:Nat},(HO i l).2.2=0→∀b∈l,b=none
 | [],_,_,b,hb=>by cases hb
 | some k::r,i,h,_,_=>by simp [HO] at h
 | none::r,i,h,b,hb=>by
  rcases List.mem_cons.1 hb with rfl|hb
  ·rfl
  ·exact ZU (i:=i+1) h b hb
theorem OC {α:Type} {f:α→List UInt8}:∀{l:List α},(∀i x,l[i]?=some x→f x∉(l.take i).map f)→(l.map f).Nodup:=λ{l} h=>by
 rw [List.nodup_iff_pairwise_ne,List.pairwise_iff_getElem];intro i j hi hj hij he;simp only [List.length_map] at hi hj
 simp only [List.getElem_map] at he
 refine h j l[j] (List.getElem?_eq_getElem hj) (List.mem_map.2 ⟨l[i],?_,he⟩);rw [List.mem_take_iff_getElem];exact ⟨i,by omega,rfl⟩
theorem IY {s:List UInt8} (h:CG s=true):s≠[]∧s.length≤32:=by
 unfold CG at h
 simp only [Bool.and_eq_true,decide_eq_true_eq] at h
 exact ⟨λhh=>by rw [hh] at h;simp at h,h.1.2⟩
structure Rl (m:Md):Prop where
 two:∀x∈m.els,W9 m x=true
 three:∀x∈m.fls,ME m x=true
 four:∀x∈m.els,JB m x=true
 five:∀s∈[]::I6 m.els,TN m s=true
 six1:∀x∈m.els,J2 m x=true
 six2:∀x∈m.fls,NW m x=true
 eight:∀x∈m.els,MZ m x=true
 els:(m.els.map (·.id)).Nodup
 fls:(m.fls.map (·.id)).Nodup
 vars:(m.vars.map (·.name)).Nodup
 elN:∀x∈m.els,CG x.id=true
 flN:∀x∈m.fls,CG x.id=true
 lens:m.els.length≤64∧m.fls.length≤128∧m.vars.length≤16
 vok:∀x∈m.vars,chk x.v=0
theorem MV {k:List UInt8} {s:List (List UInt8)} (h:G9 k s=true):CG k=true∧k∉s:=by
 unfold G9 at h
 simpa using h
theorem WH {α:Type} {f:α→List UInt8} {base:List (List UInt8)} {l:List α} {i:Nat} {k:List UInt8} (h:k∉FF f base l i):k∉(l.take i).map f:=λhh=>h (by unfold FF;rw [List.mem_append,List.mem_reverse];exact .inl hh)
theorem dB {m:Md} (h:HM m=true):Rl m:=by
 have h0:(LU m).2.2=0:=by
  unfold HM at h
  simp only [Bool.and_eq_true,Bool.not_not,decide_eq_true_eq] at h
  exact h.1
 have hb:=ZU (i:=0) h0;have h1:FY m=none:=hb _ (by simp [QR]);have h2:ffE (W9 m) m.els=none:=hb _ (by simp [QR]);have h3:ffF (ME m) m.fls=none:=hb _ (by simp [QR]);have h4:ffE (JB m) m.els=none:=hb _ (by simp [QR]);have h5:dZ m=none:=hb _ (by simp [QR]);have h6:Y5 m=none:=hb _ (by simp [QR]);have h8:ffE (MZ m) m.els=none:=hb _ (by simp [QR]);unfold FY at h1
 cases hob:Q6 m with
 | true=>rw [hob,if_pos rfl] at h1;cases h1
 | false=>
  rw [hob,if_neg B3] at h1
  have hv:ffN (pV m) 0 m.vars=none:=by
   cases hv:ffN (pV m) 0 m.vars with
   | none=>rfl
   | some b=>rw [hv] at h1;simp at h1
  rw [hv] at h1
  have he:ffN (pE m) 0 m.els=none:=by
   cases he:ffN (pE m) 0 m.els with
   | none=>rfl
   | some b=>rw [he] at h1;simp at h1
  rw [he] at h1
  have hf:ffN (pF m) 0 m.fls=none:=TA h1
  have six:ffE (J2 m) m.els=none∧ffF (NW m) m.fls=none:=by
   unfold Y5 at h6
   cases hq:ffE (J2 m) m.els with
   | none=>rw [hq] at h6;exact ⟨rfl,h6⟩
   | some b=>rw [hq] at h6;simp at h6
  have kv:∀i x,m.vars[i]?=some x→G9 x.name (FF (λx=>x.name) [] m.vars i)=true∧chk x.v=0:=λi x hx=>by
   have:=LH hv i x hx
   unfold pV at this
   rw [Nat.zero_add] at this
   simp only [Bool.and_eq_true,decide_eq_true_eq] at this
   exact this
  have ke:∀i x,m.els[i]?=some x→G9 x.id (FF (λx=>x.id) [m.id] m.els i)=true:=λi x hx=>by
   have:=LH he i x hx
   unfold pE at this
   rw [Nat.zero_add] at this
   simp only [Bool.and_eq_true] at this
   exact this.1
  have kf:∀i x,m.fls[i]?=some x→G9 x.id (FF (λx=>x.id) (FF (λx=>x.id) [m.id] m.els m.els.length) m.fls i)=true:=λi x hx=>by
   have:=LH hf i x hx
   unfold pF at this
   rwa [Nat.zero_add] at this
  unfold Q6 at hob
  simp only [Bool.or_eq_false_iff,decide_eq_false_iff_not] at hob
  have hfive:∀s∈[]::I6 m.els,TN m s=true:=λs hs=>by
   obtain ⟨j,hj⟩:=List.getElem?_of_mem hs;exact LH (p:=λ_=>TN m) h5 j s hj
  exact { two:=RX h2,three:=eE h3,four:=RX h4,six1:=RX six.1,six2:=eE six.2,eight:=RX h8,five:=hfive,els:=OC λi x hx=>WH (MV (ke i x hx)).2,fls:=OC λi x hx=>WH (MV (kf i x hx)).2,vars:=OC λi x hx=>WH (MV (kv i x hx).1).2,elN:=λx hx=>(List.getElem?_of_mem hx).elim λj hj=>(MV (ke j x hj)).1,flN:=λx hx=>(List.getElem?_of_mem hx).elim λj hj=>(MV (kf j x hj)).1,lens:=⟨by omega,by omega,by omega⟩,vok:=λx hx=>(List.getElem?_of_mem hx).elim λj hj=>(kv j x hj).2 }
theorem PO {l:List El} {k:List UInt8} {x:El} (h:BA l k=some x):x∈l∧x.id=k:=by
 induction l with
 | nil=>simp [BA] at h
 | cons y r ih=>
  unfold BA at h
  by_cases hk:y.id=k
  ·rw [if_pos hk] at h;obtain rfl:y=x:=by simpa using h
   exact ⟨List.mem_cons_self ..,hk⟩
  ·rw [if_neg hk] at h;exact ⟨List.mem_cons_of_mem _ (ih h).1,(ih h).2⟩
theorem oH {l:List El} (hn:(l.map (·.id)).Nodup) {x:El} (hx:x∈l):BA l x.id=some x:=by
 induction l with
 | nil=>cases hx
 | cons y r ih=>
  rw [List.map_cons,List.nodup_cons] at hn
  unfold BA;rcases List.mem_cons.1 hx with rfl|hx
  ·rw [if_pos rfl]
  ·rw [if_neg (λhh=>hn.1 (List.mem_map.2 ⟨x,hx,hh.symm⟩))];exact ih hn.2 hx
theorem HN {α β:Type} {f:α→List UInt8} {v:α→β} {z:β} (l:List α) (k:List UInt8) :
 (∀x∈l,f x=k→(l.map f).Nodup→(l.foldl (λg x=>λk'=>if k'=f x then v x else g k') (λ_=>z)) k=v x)∧((∀x∈l,f x≠k)→(l.foldl (λg x=>λk'=>if k'=f x then v x else g k') (λ_=>z)) k=z):=by
 have gen:∀(l:List α) (g0:List UInt8→β),(∀x∈l,f x=k→(l.map f).Nodup→(l.foldl (λg x=>λk'=>if k'=f x then v x else g k') g0) k=v x)∧((∀x∈l,f x≠k)→(l.foldl (λg x=>λk'=>if k'=f x then v x else g k') g0) k=g0 k):=by
  intro l
  induction l with
  | nil=>intro g0;exact ⟨λx hx=>(by cases hx),λ_=>rfl⟩
  | cons y r ih=>
   intro g0;obtain ⟨i1,i2⟩:=ih (λk'=>if k'=f y then v y else g0 k');rw [List.foldl_cons]
   constructor
   ·intro x hx hk hn;rw [List.map_cons,List.nodup_cons] at hn
    rcases List.mem_cons.1 hx with rfl|hx
    ·rw [i2 (λz hz hzk=>hn.1 (List.mem_map.2 ⟨z,hz,hzk.trans hk.symm⟩)),if_pos hk.symm]
    ·exact i1 x hx hk hn.2
   ·intro h;rw [i2 λx hx=>h x (List.mem_cons_of_mem _ hx),if_neg (λhh=>h y List.mem_cons_self hh.symm)]
 exact gen l (λ_=>z)
section
variable {m:Md} (R:Rl m)
include R
theorem Rl.at_mem {x:El} (hx:x∈m.els):atF m.els x.id=x:=(HN (f:=λx:El=>x.id) (v:=λx=>x) m.els x.id).1 x hx rfl R.els
theorem Rl.fl_mem {x:Fl} (hx:x∈m.fls):flF m.fls x.id=x:=(HN (f:=λx:Fl=>x.id) (v:=λx=>x) m.fls x.id).1 x hx rfl R.fls
theorem Rl.isF_mem {x:Fl} (hx:x∈m.fls):UM m.fls x.id=true:=(HN (f:=λx:Fl=>x.id) (v:=λ_=>true) m.fls x.id).1 x hx rfl R.fls
theorem Rl.outs_mem {x:El} (hx:x∈m.els):L8 m m.els x.id=(C3 m.fls x.id).map (λu:Fl=>u.id):=(HN (f:=λx:El=>x.id) (v:=λx=>(C3 m.fls x.id).map (λu:Fl=>u.id)) m.els x.id).1 x hx rfl R.els
theorem Rl.ins_mem {x:El} (hx:x∈m.els):WU m m.els x.id=(DR m.fls x.id).map (λu:Fl=>u.id):=(HN (f:=λx:El=>x.id) (v:=λx=>(DR m.fls x.id).map (λu:Fl=>u.id)) m.els x.id).1 x hx rfl R.els
end
section
variable {m:Md} {k:List UInt8}
theorem ZX (h:∀x∈m.els,x.id≠k):atF m.els k=zeroEl∧WT m.els k=false∧L8 m m.els k=[]∧WU m m.els k=[]:=
 ⟨(HN (f:=λx:El=>x.id) (v:=λx=>x) m.els k).2 h,(HN (f:=λx:El=>x.id) (v:=λ_=>true) m.els k).2 h,(HN (f:=λx:El=>x.id) (v:=λx=>(C3 m.fls x.id).map (λu:Fl=>u.id)) m.els k).2 h,(HN (f:=λx:El=>x.id) (v:=λx=>(DR m.fls x.id).map (λu:Fl=>u.id)) m.els k).2 h⟩
theorem yU (h:∀x∈m.fls,x.id≠k):flF m.fls k=zeroFl∧UM m.fls k=false:=
 ⟨(HN (f:=λx:Fl=>x.id) (v:=λx=>x) m.fls k).2 h,(HN (f:=λx:Fl=>x.id) (v:=λ_=>true) m.fls k).2 h⟩
theorem wZ (h:UM m.fls k=true):∃x∈m.fls,x.id=k:=by
 by_cases hh:∃x∈m.fls,x.id=k
 ·exact hh
 ·have:=(yU (m:=m) (k:=k) λx hx he=>hh ⟨x,hx,he⟩).2
  rw [this] at h;cases h
theorem xA (h:WT m.els k=true):∃x∈m.els,x.id=k:=by
 by_cases hh:∃x∈m.els,x.id=k
 ·exact hh
 ·have:=(ZX (m:=m) (k:=k) λx hx he=>hh ⟨x,hx,he⟩).2.1
  rw [this] at h;cases h
theorem eU (m:Md) (k:List UInt8):(∃x∈m.els,x.id=k)∨(∀x∈m.els,x.id≠k):=by
 by_cases hh:∃x∈m.els,x.id=k
 ·exact .inl hh
 ·exact .inr λx hx he=>hh ⟨x,hx,he⟩
end
theorem Rl.has {m:Md} (R:Rl m) {x:El} (hx:x∈m.els):Q3 m.els 4 x.inn=true∧WX x=true:=by
 have:=R.two x hx
 unfold W9 at this
 simpa using this
theorem Rl.kind {m:Md} (R:Rl m) {x:El} (hx:x∈m.els):1≤x.kind.toNat∧x.kind.toNat≤10:=by
 have:=(R.has hx).2
 unfold WX at this
 split at this
 ·cases this
 ·rename_i hc
  simp only [Bool.or_eq_true,decide_eq_true_eq,not_or] at hc
  omega
theorem Rl.ends {m:Md} (R:Rl m) {f:Fl} (hf:f∈m.fls):∃y∈m.els,y.id=f.tg∧y.kind.toNat≠9∧y.kind.toNat≠1∧∃x∈m.els,x.id=f.frm∧x.inn=y.inn:=by
 have h3:=R.three f hf;unfold ME at h3
 simp only [Bool.and_eq_true,decide_eq_true_eq,Bool.not_eq_true',decide_eq_false_iff_not] at h3
 obtain ⟨⟨⟨⟨h1,h2⟩,h4⟩,h5⟩,_⟩:=h3;obtain ⟨x,hx⟩:=Option.isSome_iff_exists.1 h1;obtain ⟨y,hy⟩:=Option.isSome_iff_exists.1 h2;rw [hx,hy] at h4
 rw [hy] at h5
 obtain ⟨hx1,hx2⟩:=PO hx;obtain ⟨hy1,hy2⟩:=PO hy;refine ⟨y,hy1,hy2,λhh=>h5 (by simp [hh]),λhh=>?_,x,hx1,hx2,h4⟩;have h6:=R.four y hy1;unfold JB at h6
 rw [if_pos (by simp [hh])] at h6
 simp only [Bool.and_eq_true,decide_eq_true_eq] at h6
 have:f∈DR m.fls y.id:=List.mem_filter.2 ⟨hf,by simp [hy2]⟩
 have:=List.length_pos_of_mem this
 omega
theorem Rl.out1 {m:Md} (R:Rl m) {y:El} (hy:y∈m.els):(y.kind.toNat=2→(C3 m.fls y.id).length=0)∧(y.kind.toNat=7→2≤(C3 m.fls y.id).length)∧(y.kind.toNat=5∨y.kind.toNat=6→1≤(C3 m.fls y.id).length∧1≤(DR m.fls y.id).length)∧(y.kind.toNat≠2→y.kind.toNat≠5→y.kind.toNat≠6→y.kind.toNat≠7→(C3 m.fls y.id).length=1):=by
 have h4:=R.four y hy;unfold JB at h4
 by_cases h1:y.kind.toNat=1∨y.kind.toNat=9
 ·rw [if_pos (by rcases h1 with h|h<;>simp [h])] at h4
  simp only [Bool.and_eq_true,decide_eq_true_eq] at h4
  refine ⟨λh=>by omega,λh=>by omega,λh=>by omega,λ_ _ _ _=>by omega⟩
 ·rw [if_neg (by simp only [Bool.or_eq_true,decide_eq_true_eq];omega)] at h4
  by_cases h2:y.kind.toNat=2
  ·rw [if_pos (by simp [h2])] at h4
   simp only [Bool.and_eq_true,decide_eq_true_eq] at h4
   refine ⟨λ_=>by omega,λh=>by omega,λh=>by omega,λh=>by omega⟩
  ·rw [if_neg (by simp only [decide_eq_true_eq];omega)] at h4
   by_cases h5:y.kind.toNat=5∨y.kind.toNat=6
   ·rw [if_pos (by rcases h5 with h|h<;>simp [h])] at h4
    simp only [Bool.and_eq_true,decide_eq_true_eq] at h4
    refine ⟨λh=>by omega,λh=>by omega,λ_=>⟨by omega,by omega⟩,λ_ h h'=>by omega⟩
   ·rw [if_neg (by simp only [Bool.or_eq_true,decide_eq_true_eq];omega)] at h4
    by_cases h7:y.kind.toNat=7
    ·rw [if_pos (by simp [h7])] at h4
     split at h4
     ·rename_i hc
      simp only [Bool.and_eq_true,decide_eq_true_eq] at hc
      refine ⟨λh=>by omega,λ_=>by omega,λh=>by omega,λ_ _ _ h=>by omega⟩
     ·cases h4
    ·rw [if_neg (by simp only [decide_eq_true_eq];omega)] at h4
     simp only [Bool.and_eq_true,decide_eq_true_eq] at h4
     refine ⟨λh=>by omega,λh=>by omega,λh=>by omega,λ_ _ _ _=>by omega⟩
theorem Rl.sub_at {m:Md} (R:Rl m) {x:El} (hx:x∈m.els) (h:x.inn≠[]):∃s∈m.els,s.id=x.inn∧s.kind.toNat=10:=by
 have:=(R.has hx).1
 rw [Q3,if_neg h] at this
 simp only [Bool.and_eq_true,decide_eq_true_eq] at this
 cases hq:BA m.els x.inn with
 | none=>rw [hq] at this;exact absurd this.1 B3
 | some s=>rw [hq] at this;exact ⟨s,(PO hq).1,(PO hq).2,by simpa using (show s.kind.toNat=10 by have:=this.1;simp only [Option.getD_some] at this;omega)⟩
end
section
structure Cz (m:Md) (c:CrA):Prop where
 eA:c.atf=atF m.els
 eB:c.isA=WT m.els
 eI:c.ins=WU m m.els
 eO:c.outs=L8 m m.els
 eL:c.flf=flF m.fls
 eM:c.isF=UM m.fls
 eC:c.cnd=cnF m.fls
theorem CourseN.cz {w:World} {m:Md} {gc:Nat} {c:CrA} {F:List Nat} (h:CourseN w m gc c F):Cz m c:=⟨h.eA,h.eB,h.eI,h.eO,h.eL,h.eM,h.eC⟩
section
variable {m:Md} {c:CrA} (R:Rl m) (Z:Cz m c)
include R Z
theorem RY {x:El} (hx:x∈m.els):c.outs x.id=(C3 m.fls x.id).map (λu:Fl=>u.id):=by rw [Z.eO];exact R.outs_mem hx
theorem xO {x:El} (hx:x∈m.els):c.ins x.id=(DR m.fls x.id).map (λu:Fl=>u.id):=by rw [Z.eI];exact R.ins_mem hx
theorem VP {x:El} (hx:x∈m.els):c.atf x.id=x:=by rw [Z.eA];exact R.at_mem hx
theorem oM {f:Fl} (hf:f∈m.fls):c.flf f.id=f∧c.isF f.id=true:=by rw [Z.eL,Z.eM];exact ⟨R.fl_mem hf,R.isF_mem hf⟩
theorem QK {k q:List UInt8} (hq:q∈c.outs k):∃f∈m.fls,f.id=q∧f.frm=k∧∃x∈m.els,x.id=k:=by
 rcases eU m k with ⟨x,hx,rfl⟩|h
 ·rw [RY R Z hx] at hq
  obtain ⟨f,hf,rfl⟩:=List.mem_map.1 hq;obtain ⟨h1,h2⟩:=List.mem_filter.1 hf;exact ⟨f,h1,X,by simpa using h2,x,hx,rfl⟩
 ·rw [Z.eO,(ZX h).2.2.1] at hq;cases hq
theorem oL {q:List UInt8} (h:c.isF q=true):∃f∈m.fls,f.id=q∧c.flf q=f:=by
 rw [Z.eM] at h
 obtain ⟨f,hf,rfl⟩:=wZ h;exact ⟨f,hf,X,(oM R Z hf).1⟩
theorem yY {q:List UInt8} (h:c.isF q=true):∃y∈m.els,c.atf (c.flf q).tg=y∧y.id=(c.flf q).tg∧y.kind.toNat≠9∧y.kind.toNat≠1:=by
 obtain ⟨f,hf,_,he⟩:=oL R Z h;obtain ⟨y,hy,h1,h2,h3,_⟩:=R.ends hf;rw [he];exact ⟨y,hy,by rw [←h1];exact VP R Z hy,h1,h2,h3⟩
theorem X7 (k:List UInt8):(c.ins k).Nodup∧(c.ins k).length≤400:=by
 rcases eU m k with ⟨x,hx,rfl⟩|h
 ·rw [xO R Z hx];refine ⟨?_,?_⟩
  ·exact (R.fls.sublist ((List.filter_sublist (p:=λf:Fl=>decide (f.tg=x.id)) (l:=m.fls)).map (λu:Fl=>u.id)))
  ·rw [List.length_map]
   have:=List.length_filter_le (λf:Fl=>decide (f.tg=x.id)) m.fls
   have h2:=R.lens
   show (DR m.fls x.id).length≤400
   unfold DR;omega
 ·rw [Z.eI,(ZX h).2.2.2];exact ⟨List.nodup_nil,Nat.zero_le _⟩
theorem tW (k:List UInt8):(c.outs k).length≤128:=by
 rcases eU m k with ⟨x,hx,rfl⟩|h
 ·rw [RY R Z hx,List.length_map]
  have:=List.length_filter_le (λf:Fl=>decide (f.frm=x.id)) m.fls
  have h2:=R.lens
  show (C3 m.fls x.id).length≤128
  unfold C3;omega
 ·rw [Z.eO,(ZX h).2.2.1];exact Nat.zero_le _
theorem I8 {x:El} (hx:x∈m.els) (hk:x.kind.toNat≠2):0<(c.outs x.id).length:=by
 rw [RY R Z hx,List.length_map];obtain ⟨h2,h7,h56,h1⟩:=R.out1 hx
 by_cases k7:x.kind.toNat=7
 ·have:=h7 k7;omega
 ·by_cases k5:x.kind.toNat=5∨x.kind.toNat=6
  ·have:=(h56 k5).1;omega
  ·have:=h1 hk AA AA k7;omega
theorem eH {x:El} (hx:x∈m.els) (h5:x.kind.toNat=5):(1<(c.outs x.id).length→x.dflt∈c.outs x.id)∧x.dflt.length≤100000:=by
 have h6:=R.six1 x hx;unfold J2 at h6
 rw [if_neg (by simp [h5])] at h6
 rw [RY R Z hx,List.length_map]
 split at h6
 ·rename_i h1
  have h1:(C3 m.fls x.id).length=1:=by have:=odt h1;omega
  have hd:x.dflt=[]:=by simpa using h6
  exact ⟨λh=>by omega,by rw [hd];decide⟩
 ·obtain ⟨f,hf,he⟩:=List.any_eq_true.1 h6;have he:f.id=x.dflt:=by simpa using he
  refine ⟨λ_=>List.mem_map.2 ⟨f,hf,he⟩,?_⟩;rw [←he]
  have:=(IY (R.flN f (List.mem_filter.1 hf).1)).2
  omega
end
theorem KP {l:List (List UInt8)} (h:0<l.length):(l[0]?).getD []∈l:=by
 cases l with
 | nil=>simp at h
 | cons a r=>simp
def Pd (m:Md) (c:CrA) (vs:List Bd) (σ:Mo) (i:Nat) (a:Ar) (x:El) (b:Bool) (σ':Mo):Prop:=
 ((x.kind.toNat=3∨x.kind.toNat=4∨x.kind.toNat=7∨x.kind.toNat=8)∧b=true∧σ'=σ.rest i a x)∨(x.kind.toNat=10∧b=true∧σ'=σ.sub m c i x)∨(x.kind.toNat=2∧b=true∧σ'=σ.end_ c i x) ∨
 (x.kind.toNat=5∧b=(chP c vs x).isSome∧σ'=σ.choose c vs i a x)∨(x.kind.toNat=6∧b=(c.ins x.id).all (λf=>decide (0≤jIx σ.on f))∧σ'=if (c.ins x.id).all (λf=>decide (0≤jIx σ.on f))=true then σ.join c x else σ)
def RJ (c:CrA) (a:Ar):El:=c.atf (c.flf a.flow).tg
def Stl (c:CrA) (on:List Ar) (a:Ar):Prop:=a.stops=true∨((RJ c a).kind.toNat=6∧(c.ins (RJ c a).id).all (λf=>decide (0≤jIx on f))=false)
def bZ (c:CrA) (σ:Mo):Prop:=∀(i:Nat) (a:Ar),σ.on[i]?=some a→Stl c σ.on a
inductive Rn (m:Md) (c:CrA) (vs:List Bd) (σ:Mo):Mo→Prop
 | refl:Rn m c vs σ σ
 | step {τ τ':Mo} {i:Nat} {a:Ar} {b:Bool}:Rn m c vs σ τ→τ.on[i]?=some a→a.stops=false→Pd m c vs τ i a (RJ c a) b τ'→Rn m c vs σ τ'
structure Iv (c:CrA) (σ:Mo):Prop where
 isF:∀a∈σ.on,c.isF a.flow=true
 on:σ.on.length≤1000+400*σ.fired.length
 came:σ.came≤1000+400*σ.fired.length
 done:σ.done.length≤1000+σ.fired.length
theorem dF (σ:Mo) (l:List (List UInt8)):(σ.puts l).done=σ.done∧(σ.puts l).fired=σ.fired∧(σ.puts l).came=σ.came+l.length∧(σ.puts l).on.length=σ.on.length+l.length∧∀a∈(σ.puts l).on,a∈σ.on∨a.flow∈l:=by
 induction l generalizing σ with
 | nil=>exact ⟨rfl,rfl,rfl,rfl,λa h=>.inl h⟩
 | cons f r ih=>
  obtain ⟨h1,h2,h3,h4,h5⟩:=ih (σ.put f);refine ⟨h1,h2,?_,?_,λa ha=>?_⟩
  ·show ((σ.put f).puts r).came=_
   rw [h3];simp only [Mo.put,List.length_cons];omega
  ·show ((σ.put f).puts r).on.length=_
   rw [h4];simp only [Mo.put,List.length_append,List.length_cons,List.length_nil];omega
  ·rcases h5 a ha with h|h
   ·simp only [Mo.put,List.mem_append,List.mem_singleton] at h
    rcases h with h|h
    ·exact .inl h
    ·exact .inr (by rw [h];exact List.mem_cons_self)
   ·exact .inr (List.mem_cons_of_mem _ h)
theorem xL (ks:List Int):∀(l:List Ar),(∀a∈ks.foldl erI l,a∈l)∧(ks.foldl erI l).length≤l.length:=by
 induction ks with
 | nil=>intro l;exact ⟨λa h=>h,Nat.le_refl _⟩
 | cons k r ih=>
  intro l;obtain ⟨h1,h2⟩:=ih (erI l k);refine ⟨λa ha=>List.mem_of_mem_eraseIdx (h1 a ha),Nat.le_trans h2 ?_⟩;unfold erI;rw [List.length_eraseIdx];split<;>omega
theorem XB (c:CrA) (vs:List Bd):∀(l:List (List UInt8)) (d q:List UInt8),chF c vs l d=some q→q∈l∨q=d
 | [],d,q,h=>by injection h with h;exact .inr h.symm
 | k::r,d,q,h=>by
  rw [chF] at h
  by_cases h1:(!(c.cnd k).isSome)=true
  ·rw [if_pos h1] at h
   rcases XB c vs r d q h with h|h
   ·exact .inl (List.mem_cons_of_mem _ h)
   ·exact .inr h
  ·rw [if_neg h1] at h
   by_cases h2:(!decide ((evB (RK c k) vs).2=(0:Int)))=true
   ·rw [if_pos h2] at h;cases h
   ·rw [if_neg h2] at h
    by_cases h3:(evB (RK c k) vs).1=true
    ·rw [if_pos h3] at h;injection h with h;exact .inl (by rw [h];exact List.mem_cons_self)
    ·rw [if_neg h3] at h
     rcases XB c vs r d q h with h|h
     ·exact .inl (List.mem_cons_of_mem _ h)
     ·exact .inr h
section
variable {m:Md} {c:CrA} (R:Rl m) (Z:Cz m c) (vs:List Bd)
include R Z
theorem JW {k q:List UInt8} (hq:q∈c.outs k):c.isF q=true:=by
 obtain ⟨f,hf,rfl,_⟩:=QK R Z hq;exact (oM R Z hf).2
theorem uB {x:El} (hx:x∈m.els) (h5:x.kind.toNat=5) {q:List UInt8} (h:chP c vs x=some q):q∈c.outs x.id:=by
 unfold chP at h
 split at h
 ·rename_i h1
  have h1:=odt h1;rcases XB c vs _ _ _ h with h|h
  ·exact h
  ·rw [h];exact (eH R Z hx h5).1 AA
 ·injection h with h
  rw [←h];exact KP (I8 R Z hx AA)
theorem RU {σ σ':Mo} {i:Nat} {a:Ar} {x:El} {b:Bool} (hx:x∈m.els) (hI:Iv c σ) (ha:σ.on[i]?=some a) (hP:Pd m c vs σ i a x b σ'):Iv c σ'∧(b=true→σ'.fired.length=σ.fired.length+1)∧(b=false→σ'.fired=σ.fired):=by
 have hi:i<σ.on.length:=(List.getElem?_eq_some_iff.1 ha).1;have he:∀y∈σ.on.eraseIdx i,c.isF y.flow=true:=λy hy=>hI.isF y (List.mem_of_mem_eraseIdx hy)
 have hel:(σ.on.eraseIdx i).length=σ.on.length-1:=List.length_eraseIdx_of_lt hi;obtain ⟨i1,i2,i3,i4⟩:=hI;rcases hP with ⟨_,rfl,rfl⟩|⟨_,rfl,rfl⟩|⟨h2,rfl,rfl⟩|⟨h5,rfl,rfl⟩|⟨_,rfl,rfl⟩
 ·refine ⟨⟨he,?_,?_,?_⟩,λ_=>?_,λh=>by cases h⟩<;>simp only [Mo.rest,List.length_append,List.length_cons,List.length_nil]<;>omega
 ·obtain ⟨p1,p2,p3,p4,p5⟩:=dF ⟨σ.on.eraseIdx i,σ.done,σ.fired++[x.id],σ.came⟩ ((m.els.filter λy:El=>decide ((y.kind.toNat:Int)=1)&&decide (y.inn=x.id)).map λy:El=>((c.outs y.id)[0]?).getD [])
  have hl:((m.els.filter λy:El=>decide ((y.kind.toNat:Int)=1)&&decide (y.inn=x.id)).map λy:El=>((c.outs y.id)[0]?).getD []).length≤64:=by
   rw [List.length_map];exact Nat.le_trans (List.length_filter_le _ _) R.lens.1
  refine ⟨⟨λy hy=>?_,?_,?_,?_⟩,λ_=>?_,λh=>by cases h⟩
  ·rcases p5 y hy with h|h
   ·exact he y h
   ·obtain ⟨z,hz,hz2⟩:=List.mem_map.1 h;obtain ⟨z1,z2⟩:=List.mem_filter.1 hz;simp only [Bool.and_eq_true,decide_eq_true_eq] at z2
    rw [←hz2];exact JW R Z (KP (I8 R Z z1 AA))
  ·unfold Mo.sub;rw [p4,p2];simp only [List.length_append,List.length_cons,List.length_nil];omega
  ·unfold Mo.sub;rw [p3,p2];simp only [List.length_append,List.length_cons,List.length_nil];omega
  ·unfold Mo.sub;rw [p1,p2];simp only [List.length_append,List.length_cons,List.length_nil];omega
  ·unfold Mo.sub;rw [p2];simp
 ·unfold Mo.end_
  by_cases hin:x.inn=[]
  ·simp only [if_pos hin];refine ⟨⟨he,?_,?_,?_⟩,λ_=>?_,λh=>by cases h⟩<;>simp only [List.length_append,List.length_cons,List.length_nil]<;>omega
  ·simp only [if_neg hin,Mo.put];obtain ⟨s,hs,hs1,hs2⟩:=R.sub_at hx hin;refine ⟨⟨λy hy=>?_,?_,?_,?_⟩,λ_=>?_,λh=>by cases h⟩
   ·simp only [List.mem_append,List.mem_singleton] at hy
    rcases hy with hy|rfl
    ·exact he y hy
    ·rw [←hs1];exact JW R Z (KP (I8 R Z hs AA))
   all_goals (simp only [List.length_append,List.length_cons,List.length_nil];try omega)
 ·unfold Mo.choose
  cases hc:chP c vs x with
  | none=>
   refine ⟨⟨λy hy=>?_,?_,i3,i4⟩,λh=>(by cases h),λ_=>X⟩
   ·rcases List.mem_or_eq_of_mem_set hy with h|h
    ·exact i1 y h
    ·rw [h];exact i1 a (List.mem_of_getElem? ha)
   ·simp only [List.length_set];exact i2
  | some q=>
   refine ⟨⟨λy hy=>?_,?_,?_,?_⟩,λ_=>?_,λh=>by cases h⟩
   ·simp only [List.mem_append,List.mem_singleton] at hy
    rcases hy with hy|rfl
    ·exact he y hy
    ·exact JW R Z (uB R Z vs hx h5 hc)
   all_goals (simp only [List.length_append,List.length_cons,List.length_nil];try omega)
 ·cases hb:(c.ins x.id).all (λf=>decide (0≤jIx σ.on f)) with
  | false=>
   rw [if_neg B3];exact ⟨⟨i1,i2,i3,i4⟩,λh=>(by cases h),λ_=>X⟩
  | true=>
   rw [if_pos rfl];obtain ⟨e1,e2⟩:=xL ((HU ((c.ins x.id).map (jIx σ.on))).reverse) σ.on;obtain ⟨p1,p2,p3,p4,p5⟩:=dF ⟨((HU ((c.ins x.id).map (jIx σ.on))).reverse).foldl erI σ.on,σ.done,σ.fired++[x.id],σ.came⟩ (c.outs x.id);have hl:=tW R Z x.id;refine ⟨⟨λy hy=>?_,?_,?_,?_⟩,λ_=>?_,λh=>by cases h⟩
   ·rcases p5 y hy with h|h
    ·exact i1 y (e1 y h)
    ·exact JW R Z h
   ·unfold Mo.join;rw [p4,p2];simp only [List.length_append,List.length_cons,List.length_nil];omega
   ·unfold Mo.join;rw [p3,p2];simp only [List.length_append,List.length_cons,List.length_nil];omega
   ·unfold Mo.join;rw [p1,p2];simp only [List.length_append,List.length_cons,List.length_nil];omega
   ·unfold Mo.join;rw [p2];simp
end
theorem tA {on:List Ar} {j:Nat} {a:Ar} (h:on[j]?=some a) (f:List UInt8):∀i,ixJ (λ(_:Nat) (b:Ar)=>decide (b.flow=f)) i (on.set j a.stopd)=ixJ (λ(_:Nat) (b:Ar)=>decide (b.flow=f)) i on:=by
 induction on generalizing j with
 | nil=>intro i;rfl
 | cons b r ih=>
  intro i
  cases j with
  | zero=>simp only [List.getElem?_cons_zero,Option.some.injEq] at h;subst h;rfl
  | succ j=>
   rw [List.set_cons_succ,ixJ,ixJ,ih (by simpa using h)]
theorem m2 {m:Md} {c:CrA} {vs:List Bd} {σ σ':Mo} {i:Nat} {a:Ar} (ha:σ.on[i]?=some a) (hP:Pd m c vs σ i a (RJ c a) false σ'):σ'.on.length=σ.on.length∧(∀k,k≠i→σ'.on[k]?=σ.on[k]?)∧(∀f,jIx σ'.on f=jIx σ.on f)∧(∃a',σ'.on[i]?=some a'∧Stl c σ'.on a')∧σ'.done=σ.done∧σ'.fired=σ.fired∧σ'.came=σ.came:=by
 have hi:i<σ.on.length:=(List.getElem?_eq_some_iff.1 ha).1;rcases hP with ⟨_,h,_⟩|⟨_,h,_⟩|⟨_,h,_⟩|⟨_,hb,rfl⟩|⟨h6,hb,rfl⟩
 ·cases h
 ·cases h
 ·cases h
 ·have hc:chP c vs (RJ c a)=none:=by cases hq:chP c vs (RJ c a) with
   | none=>rfl
   | some q=>rw [hq] at hb;cases hb
  unfold Mo.choose;rw [hc];exact ⟨List.length_set ..,λk hk=>List.getElem?_set_ne (Ne.symm hk),λf=>tA ha f 0,⟨a.stopd,List.getElem?_set_self hi,.inl X⟩,X,X,X⟩
 ·rw [←hb,if_neg B3];exact ⟨X,λ_ _=>X,λ_=>X,⟨a,ha,.inr ⟨h6,hb.symm⟩⟩,X,X,X⟩
theorem cZ {c:CrA} {on on':List Ar} (h:∀f,jIx on' f=jIx on f) {a:Ar} (hs:Stl c on a):Stl c on' a:=by
 rcases hs with h1|⟨h1,h2⟩
 ·exact .inl h1
 ·exact .inr ⟨h1,by rw [←h2];simp only [h]⟩
end
end Go.Proofs.YtaheakjfkpkefaaGreatDoor
