/- Lemmas. -/
import Derived.Test.YtppmdnmjepkfaaaGreatDoorYMv2
set_option maxHeartbeats 16000000
set_option maxRecDepth 100000
namespace Go.Proofs.YtppmdnmjepkfaaaGreatDoor
open Go.RowKit
open Tryz
section
theorem Mem.freshF {w0 w:Kw} {S:Nat→Prop} {L:List As} (M:Mem w0 S L w) (i:Nat) {g3 g6:Nat} {seen:List Kz} (hi:L[i]?=some (As.fresh g3 g6 seen)):Fresh w g3 g6 seen:=M.ok i _ hi
theorem Mem.freshC {w0 w:Kw} {S:Nat→Prop} {L:List As} (M:Mem w0 S L w) (i:Nat) {g3 g6:Nat} {seen:List Kz} (hi:L[i]?=some (As.fresh g3 g6 seen)):Blk w g3 143 [.map (some g6)]:=(M.freshF i hi).1
theorem YM {e:Env} {w:Kw} {o:Oper} {t kt el:Ly} {x i:Lz} {g3 g6:Nat} {k:Kz} {seen:List Kz} (ho:o.op=.lookup t x i false) (hx:ev e x=some (.map (some g6))) (hi:ev e i=some (str k)) (hu:prog.underlying t=some (.map kt el)) (hd:prog.underlying kt=some .string)
 (hz:(prog.info? el).map (·.zero)=some (some (.bool false))) (hF:Fresh w g3 g6 seen):Y prog e o w (.bool (decide (k∈seen))):=by
 obtain ⟨_,_,L,hm,hL⟩:=hF;exact CD ho hx hi hu hd hz hm (hL k)
theorem aK {Q:Exit→Act→Kw→Prop} {n:Nat} {e:Env} {w w0:Kw} {S:Nat→Prop} {L:List As} {ops:Array Oper} {o:Oper} {rest:List Oper} (M:Mem w0 S L w) (i:Nat) (hw:Wn ops e o) (hd:o.dst=none) {t kt el g3 g6:Nat} {mp ix x:Lz} {key:Kz} {seen:List Kz} (ho:o.op=.mapUpdate t mp ix x) (hm:ev e mp=some (.map (some g6))) (hx:ev e ix=some (str key)) (hv:ev e x=some (.bool true)) (hu:prog.underlying t=some (.map kt el)) (hk:prog.underlying kt=some .string)
 (hi:L[i]?=some (As.fresh g3 g6 seen)) (k:∀w',Mem w0 S (L.set i (As.fresh g3 g6 (key::seen))) w'→SxL prog ops Q n rest e w'):SxL prog ops Q n (o::rest) e w:=by
 obtain ⟨hc,hne,K,hm',hL⟩:=M.freshF i hi;refine sxl_does none hw hd X (λρ hρ=>GF ho (hρ _ _ hm) (hρ _ _ hx) (hρ _ _ hv) hu hk hm') ?_;rintro _ w1 ⟨rfl,hf,hb⟩;exact k w1 (M.updFresh i hi ⟨hc.fr hf hne,hne,_,hb,TF hL⟩ (hf.mono λ_ _ e=>.inr e))
def JK (m:Md) (s:List Kz):Nat:=(m.fls.filter λf => !(decide (f.tg∈s))).length
theorem ZO {α:Type} {p q:α→Bool}:∀l:List α,(∀x∈l,q x=true→p x=true)→(l.filter q).length≤(l.filter p).length
 | [],_=>Ab _
 | y::t,h=>by
  have h1:=ZO t (λx hx=>h x (Ap _ hx));rw [Cw,Cw]
  by_cases hy:q y=true
  ·rw [if_pos hy,if_pos (h y (by simp) hy),Af,Af];omega
  rw [if_neg hy]
  split
  ·rw [Af];omega
  exact h1
theorem ZN {α:Type} {p q:α→Bool}:∀{l:List α} {f:α},f∈l→(∀x∈l,q x=true→p x=true)→p f=true→q f=false→(l.filter q).length<(l.filter p).length
 | x::r,f,hf,hpq,hp,hq=>by
  rw [Cw,Cw];have h1:=ZO r (λx hx=>hpq x (Ap _ hx));rcases Ak.1 hf with rfl|hf
  ·rw [if_pos hp,if_neg (by rw [hq];decide),Af];omega
  have h2:=ZN hf (λx hx=>hpq x (Ap _ hx)) hp hq
  by_cases hy:q x=true
  ·rw [if_pos hy,if_pos (hpq x (by simp) hy),Af,Af];omega
  rw [if_neg hy]
  split
  ·rw [Af];omega
  exact h2
theorem bX {m:Md} {s:List Kz} {k:Kz} {f:Fl} (hf:f∈BV m.fls k) (h:decide (f.tg∈s)=false):JK m (f.tg::s)<JK m s:=by
 have hf':f∈m.fls:=(Dg.1 hf).1;refine ZN hf' (λx _ hx=>?_) (by rw [h];rfl) (by simp);simp only [Ak,Ek,decide_eq_false_iff_not] at hx ⊢
 exact λz=>hx (.inr z)
def JM (m:Md) (rc:Kz→List Kz→List Kz):List Fl→List Kz→List Kz
 | [],s=>s
 | f::r,s=>if (KP m f.tg&&(!(decide (f.tg∈s))))=true then JM m rc r (rc f.tg (f.tg::s)) else JM m rc r s
theorem R3 {m:Md} {N:Nat} {rc:Kz→List Kz→List Kz} (hmono:∀k' s',JK m s'<N→JK m (rc k' s')≤JK m s') {k:Kz}:∀(l:List Fl) (s:List Kz),(∀f∈l,f∈BV m.fls k)→JK m s≤N→JK m (JM m rc l s)≤JK m s
 | [],_,_,_=>Ab _
 | f::r,s,hl,hN=>by
  rw [JM]
  split
  ·rename_i h
   have hlt:=bX (s:=s) (hl f (by simp)) (CJ (EE h).2);have h1:=hmono f.tg (f.tg::s) (Bw hlt hN);have h2:=R3 hmono r (rc f.tg (f.tg::s)) (λx hx=>hl x (Ap _ hx)) A0;omega
  exact R3 hmono r s (λx hx=>hl x (Ap _ hx)) hN
def TW (m:Md):Nat→Kz→List Kz→List Kz
 | 0,k,s=>JM m (λ_ s=>s) (BV m.fls k) s
 | n+1,k,s=>JM m (TW m n) (BV m.fls k) s
def xK (m:Md):Nat→Kz→List Kz→List Kz
 | 0=>λ_ s=>s
 | n+1=>TW m n
theorem cP (m:Md) (n:Nat) (k:Kz) (s:List Kz):TW m n k s=JM m (xK m n) (BV m.fls k) s:=by cases n<;>rfl
theorem VL (m:Md):∀(n:Nat) (k:Kz) (s:List Kz),JK m s≤n→JK m (TW m n k s)≤JK m s
 | 0,k,s,h=>R3 (N:=0) (λ_ _ h=>by omega) (k:=k) _ s (λ_ hf=>hf) h
 | n+1,k,s,h=>R3 (N:=n+1) (λk' s' h'=>VL m n k' s' A0) (k:=k) _ s (λ_ hf=>hf) h
theorem l9 (m:Md) (n:Nat):∀(k:Kz) (s:List Kz),JK m s<n→JK m (xK m n k s)≤JK m s:=λk s h=>by
 cases n with
 | zero=>omega
 | succ n=>exact VL m n k s A0
theorem Mem.join2 {w0 w:Kw} {S:Nat→Prop} {L:List As} {a b:As} (M:Mem w0 S (a::b::L) w) (c:As) (hok:c.ok w) (hfp:∀g∈c.fp,g∈a.fp∨g∈b.fp):Mem w0 S (c::L) w:=by
 have get:∀(i:Nat) (d:As),L[i]?=some d→(a::b::L)[i+2]?=some d:=λi d h=>h
 have fp:∀k,k∈c.fp→∃(i:Nat) (d:As),i<2∧(a::b::L)[i]?=some d∧k∈d.fp:=λk hk=>by
  rcases hfp k hk with h|h
  ·exact ⟨0,_,by decide,rfl,h⟩
  exact ⟨1,_,by decide,rfl,h⟩
 refine ⟨M.fr,?_,?_,?_⟩
 ·intro i d hi
  cases i with
  | zero=>simp only [Ai,Ad] at hi;subst hi;exact hok
  | succ i=>exact M.ok (i+2) d (get i d (by simpa using hi))
 ·intro i d hi k hk
  cases i with
  | zero=>
   simp only [Ai,Ad] at hi;subst hi
   obtain ⟨j,e,_,h1,h2⟩:=fp k hk;exact M.lt j e h1 k h2
  | succ i=>exact M.lt (i+2) d (get i d (by simpa using hi)) k hk
 intro i j d e hi hj hne k hk hk'
 cases i with
 | zero=>
  cases j with
  | zero=>exact hne rfl
  | succ j=>
   simp only [Ai,Ad] at hi;subst hi
   obtain ⟨q,d',hq,h1,h2⟩:=fp k hk;exact M.apart q (j+2) d' e h1 (get j e (by simpa using hj)) A0 k h2 hk'
 | succ i=>
  cases j with
  | zero=>
   simp only [Ai,Ad] at hj;subst hj
   obtain ⟨q,d',hq,h1,h2⟩:=fp k hk';exact M.apart (i+2) q d d' (get i d (by simpa using hi)) h1 A0 k hk h2
  | succ j=>exact M.apart (i+2) (j+2) d e (get i d (by simpa using hi)) (get j e (by simpa using hj)) A0 k hk hk'
theorem fY (m:Md) (s:List Kz):JK m s≤m.fls.length:=Ef _ _
def eR (m:Md) (y:El):Bool:=if (!(KP m y.id))=true then true else !(decide (y.id∈TW m m.fls.length y.id []))
theorem VZ : (prog.info? 252).map (·.size)=some 1:=by kernel_rfl
theorem VF : (prog.info? 252).map (·.zero)=some (some (.nilFunc)):=by kernel_rfl
theorem pO (m:Md) (a:MdA) (ix:IxA) (gx gp g4 g5 gm g6:Nat) (w0:Kw) (ho:MdOk m) (hx:IxAt w0 m a ix gx) (hp:Blk w0 gp 144 [pg gx]) (h4:Blk w0 g4 91 [.func (.func 148) #[] #[pg gp]]) (hS:∀k,(k=g5∨k=gm)→w0.heap.size≤k) (hn6:¬(g6=g5∨g6=gm)) (N:Nat) (rc:Kz→List Kz→List Kz) (hmono:∀k' s',JK m s'<N→JK m (rc k' s')≤JK m s')
 (hR:∀(k':Kz) (s':List Kz) (W:Kw),JK m s'<N→Fr0 w0 W→Fresh W g5 gm s'→Blk W g6 206 [.func (.func 150) #[] #[pg gp,pg g4,pg g5,pg g6]]→Calls prog 150 #[str k',pg gp,pg g4,pg g5,pg g6] W λe W'=>e=.returned (.tuple #[])∧Fresh W' g5 gm (rc k' s')∧Fr (λk=>k=g5∨k=gm) W W')
 (k:Kz) (s0:List Kz) (w:Kw) (hN:JK m s0≤N) (h0:Fr0 w0 w) (hF:Fresh w g5 gm s0) (h6:Blk w g6 206 [.func (.func 150) #[] #[pg gp,pg g4,pg g5,pg g6]]) :
 Calls prog 150 #[str k,pg gp,pg g4,pg g5,pg g6] w λe w'=>e=.returned (.tuple #[])∧Fresh w' g5 gm (JM m rc (BV m.fls k) s0)∧Fr (λk=>k=g5∨k=gm) w w':=by
 have hOl:=F3 m.fls k;have hnf:=ho.nfls;refine sx_enter (vs:=[_,_,_,_,_]) func150 X ntmps150 X ?_;have M:Mem w (λk=>k=g5∨k=gm) [As.fresh g5 gm s0] w:=Mem.oneFresh hF;refine T2 ?_;refine yl X X (Blk.c (hp.fr0 (HC h0 M.fr hS)) 0 X) (T2 ?_);refine ya X (B2 X X (sc X) (Blk.c ((hx.fr0 (HC h0 M.fr hS)).blk) 7 X)) (yb X (ya X (CD X X X Dq Aa EH ((hx.fr0 (HC h0 M.fr hS)).O) (hx.getO _)) (W ?_)));refine flp [14,13,4,3,2] (λze e wr mz=>∃(i:Nat) (s:List Kz),e=(15,AA (i:Int))::ze∧Mem w (λk=>k=g5∨k=gm) [As.fresh g5 gm s] wr∧(i≤(BV m.fls k).length)∧(JK m s≤N)∧(JM m rc (BV m.fls k) s0=JM m rc ((BV m.fls k).drop i) s)∧mz=(BV m.fls k).length-i) ⟨0,s0,X,M,Ae _,hN,X,X⟩ ?_;rintro _ w1 _ ⟨i,s,rfl,M,hi,hN,hE,rfl⟩;refine W ?_;refine AB X (λh16=>?_) (λh16=>?_)
 ·have h16p:=odt h16;refine W ?_;obtain ⟨u,_,_,hu,hA_u⟩:=ex5 (l:=(BV m.fls k)) (k:=4) (i:=i) ((hx.fr0 (HC h0 M.fr hS)).rdO _);refine ya X (AK i hA_u X X X (sl X) A0) (ya X (AI X X (BM Fl.len ((hx.fr0 (HC h0 M.fr hS)).rdO _) hA_u hu) Cf X BU) (CI M X DS λg7 w2 hg7 M=>BY M 0 X X BU X λw3 M=>T4 ?_));refine yl X X (Blk.c (h4.fr0 (HC h0 M.fr hS)) 0 X) (W ?_);refine PN M 22 X (C5 X X X call148) (eQ m a ix gx gp u.tg _ ho (hx.fr0 (HC h0 M.fr hS)) (hp.fr0 (HC h0 M.fr hS))) λw4 M=>yb X (fvm M 6 [7,15,14,13,4,3,2] [(29,.bool ((KP m u.tg)&&(!(decide (u.tg∈s)))))] ?_ (λk23=>?_))
  ·intro w5 M;refine W ?_;refine AB X (λh29=>?_) (λh29=>?_)
   ·have h29p:=bd h29;have hlt:=bX (m:=m) (s:=s) (Ac hu) (CJ (EE h29).2);refine T2 ?_;refine yl X X (Blk.c (M.freshC 1 X) 0 X) (W ?_);refine aK M 1 kw X X X X X Ec Aa X λw6 M=>T3 ?_
    refine yl X X (Blk.c (h6.fr M.fr hn6) 0 X) (W ?_);refine cl 36 X (C5 X X X call150) (hR u.tg (u.tg::s) _ (Bw hlt hN) (HC h0 M.fr hS) (M.freshF 1 X) (h6.fr M.fr hn6)) ?_;rintro _ w7 ⟨rfl,hFw7,hfw7⟩;have M:=M.updFresh 1 X hFw7 hfw7;refine cq (W ?_);refine fag ⟨i+1,(rc u.tg (u.tg::s)),X,(M.pk [1]),?_,?_,?_,X⟩
    ·omega
    ·first
      | exact Bb (hmono _ _ (Bw hlt hN)) (Bb (Gn hlt) hN)
      | exact hN
    rw [hE,AG hu,JM]
    first
     | rw [if_pos h29]
     | rw [AM h29]
   have h29p:=bd h29;refine W ?_;refine fag ⟨i+1,s,X,(M.pk [1]),?_,?_,?_,X⟩
   ·omega
   ·first
     | exact Bb (hmono _ _ (Bw hlt hN)) (Bb (Gn hlt) hN)
     | exact hN
   rw [hE,AG hu,JM]
   first
    | rw [if_pos h29]
    | rw [AM h29]
  refine A1 (d:=23) X (λh23=>?_) (λh23=>?_)
  ·refine ym X X (Blk.c (M.freshC 1 X) 0 X) (W ?_);refine yd X (YM X X X Ec Aa QV (M.freshF 1 X)) (T2 ?_);exact k23 M
  refine T6 ?_;exact k23 M
 have h16p:=odf h16;refine W ?_;refine qx_ret0 (Or.inr X) X ?_;obtain rfl:i=(BV m.fls k).length:=by omega
 exact ⟨X,by rw [hE,Am];exact M.ok 0 _ rfl,M.fr⟩
theorem kF (m:Md) (a:MdA) (ix:IxA) (gx gp g4 g5 gm g6:Nat) (w0:Kw) (ho:MdOk m) (hx:IxAt w0 m a ix gx) (hp:Blk w0 gp 144 [pg gx]) (h4:Blk w0 g4 91 [.func (.func 148) #[] #[pg gp]]) (hS:∀k,(k=g5∨k=gm)→w0.heap.size≤k) (hn6:¬(g6=g5∨g6=gm)):∀(N:Nat) (k:Kz) (s0:List Kz) (w:Kw),JK m s0≤N→Fr0 w0 w→Fresh w g5 gm s0→Blk w g6 206 [.func (.func 150) #[] #[pg gp,pg g4,pg g5,pg g6]] →
 Calls prog 150 #[str k,pg gp,pg g4,pg g5,pg g6] w λe w'=>e=.returned (.tuple #[])∧Fresh w' g5 gm (TW m N k s0)∧Fr (λk=>k=g5∨k=gm) w w'
 | 0,k,s0,w,hN,h0,hF,h6=>cP m 0 k s0▸pO m a ix gx gp g4 g5 gm g6 w0 ho hx hp h4 hS hn6 0 (xK m 0) (l9 m 0) (λ_ _ _ h=>by omega) k s0 w hN h0 hF h6
 | N+1,k,s0,w,hN,h0,hF,h6=>cP m (N+1) k s0▸pO m a ix gx gp g4 g5 gm g6 w0 ho hx hp h4 hS hn6 (N+1) (xK m (N+1)) (l9 m (N+1)) (λk' s' W h h0' hF' h6'=>kF m a ix gx gp g4 g5 gm g6 w0 ho hx hp h4 hS hn6 N k' s' W A0 h0' hF' h6') k s0 w hN h0 hF h6
theorem sV (m:Md) (a:MdA) (ix:IxA) (gx gp g4:Nat) (y:El) (w:Kw) (ho:MdOk m) (hx:IxAt w m a ix gx) (hp:Blk w gp 144 [pg gx]) (h4:Blk w g4 91 [.func (.func 148) #[] #[pg gp]]) :
 Calls prog 149 #[.agg y.cells.toArray,pg g4,pg gp] w (BS w (.bool (eR m y))):=by
 refine BR func149 ntmps149 X λM=>W ?_
 refine CO M X X λg3 w1 hg3 M=>T6 ?_
 refine yl X X (Blk.c (h4.fr0 M.fr) 0 X) (W ?_);refine PN M 10 X (C5 X X X call148) (eQ m a ix gx gp y.id _ ho (hx.fr0 M.fr) (hp.fr0 M.fr)) λw2 M=>W ?_
 refine AB X (λh11=>?_) (λh11=>?_)
 ·refine W ?_;exact gr1 X ⟨by rw [eR,if_pos h11],M.fr⟩
 have h11p:=BO h11;refine W ?_;refine K4 M kw X X X λg12 w3 hg12 M=>FR M kw X X 143 X [.map none] IM X λg5 w4 hg5 M=>gp1 M 0 X X X IN λw5 M=>W ?_
 refine FR M kw X X 206 X [.nilFunc] VF X λg6 w6 hg6 M=>W ?_
 refine ya X (CY (us:=[]) (vs:=[pg gp,pg g4,pg g5,pg g6]) X X X) (D1 (cs':=[.func (.func 150) #[] #[pg gp,pg g4,pg g5,pg g6]]) M 0 kw X X X X X X X VZ (CF X) X λw7 M=>W ?_);have M:=Mem.join2 (M.pk [1,2,0,3]) (As.fresh g5 g12 []) ⟨M.blk 1 X,M.neMp 1 2 X X AV,[],M.mp 2 X,λ_=>by simp [CC]⟩ (λg hg=>by simpa [As.fresh,As.blk,As.mp] using hg);have hSn:=M.newF 0 X;have h6n:=M.neFresh 1 0 X X AV;refine cl 17 X (C5 X X X call150) (kF m a ix gx gp g4 g5 g12 g6 w ho hx hp h4 hSn h6n m.fls.length y.id [] _ (fY m []) M.fr (M.freshF 0 X) (M.blk 1 X)) ?_;rintro _ w8 ⟨rfl,hFw8,hfw8⟩;have M:=M.updFresh 0 X hFw8 hfw8;refine cq (T4 ?_);refine yl X X (Blk.c (M.freshC 0 X) 0 X) (W ?_);refine ya X (YM X X X Ec Aa QV (M.freshF 0 X)) (W ?_);exact gr1 X ⟨by rw [eR,AM h11],M.fr⟩
theorem sU (m:Md) (a:MdA) (ix:IxA) (gx:Nat) (w:Kw) (ho:MdOk m) (hx:IxAt w m a ix gx) :
 Calls prog 77 #[pg gx] w (BS w (MD (ffE (eR m) m.els))):=by
 refine BR func77 ntmps77 X λM=>W ?_
 refine DG M kw X X 144 X X ([pg gx]) X λg1 w1 hg1 M=>W ?_
 refine ya X (CY (us:=[]) (vs:=[pg g1]) X X X) (FR M kw X X 91 X [.nilFunc] I0 X λg4 w2 hg4 M=>D1 (cs':=[.func (.func 148) #[] #[pg g1]]) M 0 kw X X X X X X X I2 (CF X) X λw3 M=>T8 ?_);refine yl X X (Blk.c ((hx.fr0 M.fr).blk) 3 X) (ya X (CY (us:=[]) (vs:=[pg g4,pg g1]) X X X) (CW M 12 X X call121 (KZ _ _ m.els (by have:=ho.nfls;have:=ho.nels;have:=ho.nvars;omega) 149 [pg g4,pg g1] (eR m) _ (IW call149 (λz hz w9 hf9=>sV m a ix gx g1 g4 z w9 ho ((hx.fr0 M.fr).fr0 hf9) ((M.blk 1 X).fr0 hf9) ((M.blk 0 X).fr0 hf9))) (M.rd hx.md.els)) λw4 M=>W ?_));exact AZ X X X ⟨Ay Ending.returned (XI _ _),M.fr⟩
def a33 : Kx:=[.func (.func 69) #[] #[],.func (.func 70) #[] #[],.func (.func 71) #[] #[],.func (.func 72) #[] #[],.func (.func 73) #[] #[],.func (.func 74) #[] #[],.func (.func 75) #[] #[],.func (.func 76) #[] #[],.func (.func 77) #[] #[]]
def SC (m:Md):List (Option Kz):=[FG m,ffE (VS m) m.els,ffF (L4 m) m.fls,ffE (IZ m) m.els,ZK m,YE m,ffE (L8 m) m.els,ffE (MI m) m.els,ffE (eR m) m.els]
theorem a25 (m:Md) (a:MdA) (ix:IxA) (gx:Nat) (hb:MdB m):∀i,i<9→(i=0∨MdOk m)→∃fd b,a33[i]?=some (.func (.func fd) #[] #[])∧(SC m)[i]?=some b∧(∀(ar:Array Kv) (w:Kw),(callFunc fd ar).run prog w=.ok (.enter fd ar) w) ∧
 ∀W,IxAt W m a ix gx→Lay0 W→Calls prog fd #[pg gx] W (BS W (.tuple #[str (b.getD []),.bool b.isSome])):=by
 intro i hi hk;have ho:i≠0→MdOk m:=λh=>hk.resolve_left h
 match i,hi with
 | 0,_=>exact ⟨_,_,rfl,rfl,call69,λW hx hY=>yI m a ix gx W hb hx hY⟩
 | 1,_=>exact ⟨_,_,rfl,rfl,call70,λW hx _=>wK m a ix gx W (ho AV) hx⟩
 | 2,_=>exact ⟨_,_,rfl,rfl,call71,λW hx _=>mL m a ix gx W (ho AV) hx⟩
 | 3,_=>exact ⟨_,_,rfl,rfl,call72,λW hx _=>u6 m a ix gx W (ho AV) hx⟩
 | 4,_=>exact ⟨_,_,rfl,rfl,call73,λW hx _=>uB m a ix gx W (ho AV) hx⟩
 | 5,_=>exact ⟨_,_,rfl,rfl,call74,λW hx hY=>wY m a ix gx W (ho AV) hx hY⟩
 | 6,_=>exact ⟨_,_,rfl,rfl,call75,λW hx _=>mU m a ix gx W (ho AV) hx⟩
 | 7,_=>exact ⟨_,_,rfl,rfl,call76,λW hx _=>oQ m a ix gx W (ho AV) hx⟩
 | 8,_=>exact ⟨_,_,rfl,rfl,call77,λW hx _=>sU m a ix gx W (ho AV) hx⟩
 | i+9,hi=>omega
def IG : Nat→List (Option Kz)→Nat × Kz × Int
 | _,[]=>(0,[],0)
 | i,some k::_=>(i+1,k,140)
 | i,none::r=>IG (i+1) r
theorem B1 {i:Nat} {b:Option Kz} {r:List (Option Kz)} (h:b.isSome=false):IG i (b::r)=IG (i+1) r:=by
 cases b with
 | none=>rfl
 | some k=>cases h
theorem EG {i:Nat} {b:Option Kz} {r:List (Option Kz)} (h:b.isSome=true):IG i (b::r)=(i+1,b.getD [],140):=by
 cases b with
 | none=>cases h
 | some k=>rfl
theorem a0n {m:Md} (hb:MdB m) {i:Nat} {b:Option Kz} (hk:i=0∨MdOk m) (h:(SC m)[i]?=some b) (hn:b.isSome=false):i+1=0∨MdOk m:=by
 rcases hk with rfl|hk
 ·right
  injection h with h
  subst h
  have hq:QC m=false:=by
   cases hq:QC m with
   | false=>rfl
   | true=>rw [FG,if_pos hq] at hn;cases hn
  have h1:=(G8 hq).1;have a1:=odf (G8 (G8 h1).1).2;have a2:=odf (G8 h1).2;have a3:=odf (G8 hq).2;exact ⟨hb.id,hb.nm,hb.vars,by omega,by omega,by omega,hb.els,hb.fls⟩
 exact .inr hk
def LD (m:Md):Nat × Kz × Int:=IG 0 (SC m)
theorem sP {m:Md} (hb:MdB m) (h:(LD m).2.2=0):MdOk m:=by
 have h0:(FG m).isSome=false:=by
  cases hq:FG m with
  | none=>rfl
  | some k=>
   have:(LD m).2.2=140:=by unfold LD SC;rw [hq];rfl
   rw [this] at h;cases h
 exact (a0n hb (i:=0) (.inl X) X h0).resolve_left AV
theorem TB : (prog.info? 148).map (λi=>(i.zero,i.size))=some (some (.nilFunc),1):=by kernel_rfl
theorem aO (m:Md) (a:MdA) (w:Kw) (ho:MdB m) (hM:MdIn w m a) (hY:Lay0 w) :
 Calls prog 42 #[.agg (Md.cells m a).toArray] w (BS w (.tuple #[AA (((LD m).1:Nat):Int),str (LD m).2.1,AA (LD m).2.2])):=by
 refine BR func42 ntmps42 X λM=>W ?_
 refine CO M X X λg1 w1 hg1 M=>W ?_
 refine CH M 0 X X Al AN X (cl 11 X (AD X X call68) (X7 m a _ ho (hM.fr0 M.fr)) ?_);rintro _ w2 ⟨ix,gx,FX,rfl,hix,hnx,hfw2⟩;refine cq ?_;have M:=M.push hfw2 (As.ixp m a ix gx FX) hix hnx;refine W ?_;refine CV M kw X X [.func (.func 69) #[] #[],.func (.func 70) #[] #[],.func (.func 71) #[] #[],.func (.func 72) #[] #[],.func (.func 73) #[] #[],.func (.func 74) #[] #[],.func (.func 75) #[] #[],.func (.func 76) #[] #[],.func (.func 77) #[] #[]] ([.func (.func 69) #[] #[],.func (.func 70) #[] #[],.func (.func 71) #[] #[],.func (.func 72) #[] #[],.func (.func 73) #[] #[],.func (.func 74) #[] #[],.func (.func 75) #[] #[],.func (.func 76) #[] #[],.func (.func 77) #[] #[]]) X X X X underlying147 TB X X (by intro v hv;simp only [Ak,Ax,or_false] at hv;rcases hv with rfl|rfl|rfl|rfl|rfl|rfl|rfl|rfl|rfl<;>rfl) X λg12 w3 hg12 M=>W ?_
 refine EF M [13,12,5] (λze zF e wr mz=>∃(i:Nat),e=(14,AA (i:Int))::ze∧zF wr∧(i≤9)∧(IG 0 (SC m)=IG i ((SC m).drop i))∧(i=0∨MdOk m)∧mz=9-i) ⟨0,X,M,Ae _,X,.inl X,X⟩ ?_;rintro _ w4 _ ⟨i,rfl,M,hi,hE,hk,rfl⟩;refine W ?_;refine AB X (λh15=>?_) (λh15=>?_)
 ·have h15p:=odt h15;have hil:i<9:=by omega
  refine W ?_;obtain ⟨fd,b,hfd,hbk,hen,hcl⟩:=a25 m a ix gx ho i hil hk;refine ya X (HG (j:=i) X X X (sl X) A0) (yl X X (Blk.c (M.blk 0 X) (0+i*1) (by rw [Cm,Nat.mul_one];exact hfd)) (W ?_));refine PN M 22 X (C5 X X X hen) (hcl _ (IxN.at (M.ok 1 _ X) (hM.fr0 M.fr)) (hY.fr0 M.fr)) λw5 M=>W ?_
  refine AB X (λh25=>?_) (λh25=>?_)
  ·refine W ?_;exact DH X X X X ⟨by rw [LD,hE,AG hbk,EG h25]<;>rfl,M.fr⟩
  refine W ?_;refine fag ⟨i+1,X,M,?_,?_,?_,X⟩
  ·omega
  ·rw [hE,AG hbk,B1 h25]
  exact a0n ho hk hbk h25
 have h15p:=odf h15;refine W ?_;obtain rfl:i=9:=by omega
 refine W ?_;exact DH X X X X ⟨by rw [LD,hE];rfl,M.fr⟩
section
def MpS (w:Kw) (g:Nat) (L:List (Kz × Kv)):Option (Kz × Nat)→Prop
 | none=>MpB w g L
 | some (k,b)=>EntAt w g L k b
theorem MpS.keep {w w':Kw} {g:Nat} {L:List (Kz × Kv)} {st:Option (Kz × Nat)} (hk:g<w.heap.size→w'.heap[g]?=w.heap[g]?) (h:MpS w g L st):MpS w' g L st:=by
 cases st with
 | none=>exact MpB.keep hk h
 | some p=>obtain ⟨k,b⟩:=p;exact EntAt.keep hk h
def As.mpS (g:Nat) (L:List (Kz × Kv)) (st:Option (Kz × Nat)):As:=⟨[g],λw=>MpS w g L st,λh hb=>hb.keep (h g (by simp))⟩
structure RowS (w:Kw) (g:Nat) (L:List (Kz × Kv)) (st:Option (Kz × Nat)) (rows:Kz→List Kz) (F:List Nat):Prop where
 map:MpS w g L st
 gF:¬g∈F
 row:∀k,∃A C,G9 L k=.slice A (rows k).length C∧Rd w A ((rows k).length*1) (AE BG (rows k))∧∀b off p,A=some ⟨b,off,p⟩→b∈F
theorem RowS.keep {w w':Kw} {g:Nat} {L:List (Kz × Kv)} {st:Option (Kz × Nat)} {rows:Kz→List Kz} {F:List Nat} (hk:∀x∈g::F,x<w.heap.size→w'.heap[x]?=w.heap[x]?) (h:RowS w g L st rows F):RowS w' g L st rows F:=
 ⟨h.map.keep (hk g (by simp)),h.gF,λk=>by
  obtain ⟨A,C,h1,h2,h3⟩:=h.row k;exact ⟨A,C,h1,JG h2 (λx hx=>hk x (Ap _ hx)) h3,h3⟩⟩
def As.rowS (g:Nat) (L:List (Kz × Kv)) (st:Option (Kz × Nat)) (rows:Kz→List Kz) (F:List Nat):As:=⟨g::F,λw=>RowS w g L st rows F,λh hb=>hb.keep h⟩
def As.both (a b:As):As:=⟨a.fp++b.fp,λw=>a.ok w∧b.ok w,λh hb=>⟨a.keep (λg hg=>h g (Dt _ hg)) hb.1,b.keep (λg hg=>h g (Cr _ hg)) hb.2⟩⟩
section
variable {w0 w w':Kw} {S:Nat→Prop} {Ls:List As} {g b:Nat} {L L':List (Kz × Kv)} {k:Kz} {rows:Kz→List Kz} {F:List Nat} {st:Option (Kz × Nat)}
theorem yW (w:Kw):MpB (w.alloc (.map #[] 0)) w.heap.size []:=⟨#[],0,by show (w.heap.push (.map #[] 0))[w.heap.size]?=_;simp,rfl,by simp,by simp⟩
theorem W3 {P:Lw} {Q:Exit→Act→Kw→Prop} {n:Nat} {e:Env} {ops:Array Oper} {o:Oper} {rest:List Oper} (M:Mem w0 S Ls w) {d t:Nat} (hw:Wn ops e o) (hd:o.dst=some d) (hn:Nat.blt d n=true) (ho:o.op=.makeMap t none)
 (k:∀g w',w.heap.size≤g→Mem w0 S (As.mpS g [] none::Ls) w'→SxL P ops Q n rest ((d,.map (some g))::e) w'):SxL P ops Q n (o::rest) e w:=by
 refine sxl_does (some d) hw hd hn (λρ hρ=>fQ ho) ?_;rintro _ w1 ⟨rfl,rfl⟩;exact k _ _ (Ab _) (M.push (Fr.refl.alloc _) _ (yW w) (λg' hg'=>by simp only [As.mpS,Au] at hg';subst hg';simp))
theorem Mem.mpS (M:Mem w0 S Ls w) (i:Nat) (hi:Ls[i]?=some (As.mpS g L st)):MpS w g L st:=M.ok i _ hi
theorem Mem.rowS (M:Mem w0 S Ls w) (i:Nat) (hi:Ls[i]?=some (As.rowS g L st rows F)):RowS w g L st rows F:=M.ok i _ hi
theorem Mem.toRow (M:Mem w0 S Ls w) (i:Nat) (hi:Ls[i]?=some (As.mpS g [] none)):Mem w0 S (Ls.set i (As.rowS g [] none (λ_=>[]) [])) w:=
 M.upd i hi Fr.refl _ (show RowS w g [] none (λ_=>[]) [] from ⟨M.ok i _ hi,by simp,λk=>⟨none,0,by simp [G9,CC],Rd.nil,λb off p h=>by cases h⟩⟩) (λ_ hg'=>.inl hg')
theorem Mem.entA (M:Mem w0 S Ls w) (i:Nat) (hi:Ls[i]?=some (As.mpS g L none)) (hf:Fr (λx=>x=g) w w') (hE:EntAt w' g L' k b):Mem w0 S (Ls.set i (As.mpS g L' (some (k,b)))) w':=
 M.upd i hi (hf.mono λk _ e=>by simp only [As.mpS,Au];exact e) (As.mpS g L' (some (k,b))) hE (λ_ hg'=>.inl hg')
theorem Mem.putA (M:Mem w0 S Ls w) (i:Nat) (hi:Ls[i]?=some (As.mpS g L (some (k,b)))) (hf:Fr (λx=>x=g) w w') (hE:MpB w' g L'):Mem w0 S (Ls.set i (As.mpS g L' none)) w':=
 M.upd i hi (hf.mono λk _ e=>by simp only [As.mpS,Au];exact e) (As.mpS g L' none) hE (λ_ hg'=>.inl hg')
theorem Mem.entR (M:Mem w0 S Ls w) (i:Nat) (hi:Ls[i]?=some (As.rowS g L none rows F)) (hf:Fr (λx=>x=g) w w') (hE:EntAt w' g (D9 L k ((CC L k).getD (.slice none 0 0))) k b):Mem w0 S (Ls.set i (As.rowS g (D9 L k ((CC L k).getD (.slice none 0 0))) (some (k,b)) rows F)) w':=by
 have h:RowS w g L none rows F:=M.ok i _ hi;refine M.upd i hi (hf.mono λk _ e=>by rw [e];exact Bc) _ (show RowS w' g _ (some (k,b)) rows F from ⟨hE,h.gF,λk'=>?_⟩) (λ_ hg'=>.inl hg');obtain ⟨A,C,h1,h2,h3⟩:=h.row k';refine ⟨A,C,?_,JG h2 (λx hx hl=>hf.block x hl (λe=>h.gF (e▸hx))) h3,h3⟩;rw [LK]
 by_cases hk:k'=k
 ·subst hk;rw [if_pos rfl];exact h1
 rw [if_neg hk];exact h1
theorem Mem.putR {base T n C:Nat} {A:Ky} {l:List Kz} (M:Mem w0 S (As.own base T 1 (.slice A n C) n (AE BG l)::As.rowS g L (some (k,b)) rows F::Ls) w) (hf:Fr (λx=>x=g) w w') (hE:MpB w' g (D9 L k (.slice A n C))) (hn:n=l.length) :
 ∃F',Mem w0 S (As.rowS g (D9 L k (.slice A n C)) none (λk'=>if k'=k then l else rows k') F'::Ls) w':=by
 have ho:=M.own 0 X;have h:RowS w g L (some (k,b)) rows F:=M.ok 1 _ X;have hap:∀x∈(Value.slice A n C).ownBlock.toList,¬x∈g::F:=λx hx=>M.apart 0 1 _ _ X X AV x hx
 have M1:=M.joinFam (As.both (As.own base T 1 (.slice A n C) n (AE BG l)) (As.rowS g L (some (k,b)) rows F)) ⟨ho,h⟩ (λx hx=>Bo.1 hx);have hA:∀b off p,A=some ⟨b,off,p⟩→b∈(Value.slice A n C).ownBlock.toList:=λb off p e=>by subst e;simp [Value.ownBlock]
 refine ⟨(Value.slice A n C).ownBlock.toList++F,M1.upd 0 X (hf.mono λx _ e=>by rw [e];exact Cr _ Bc) _ (show RowS w' g _ none _ _ from ⟨hE,?_,λk'=>?_⟩) ?_⟩
 ·intro hh;rcases Bo.1 hh with hh|hh
  ·exact hap g hh Bc
  exact h.gF hh
 ·rw [LK]
  by_cases hk:k'=k
  ·subst hk;simp only [if_pos];rw [hn] at ho hA ⊢
   refine ⟨A,C,X,JG (OH ho) (F:=(Value.slice A l.length C).ownBlock.toList) (λx hx hl=>hf.block x hl (λe=>hap x (hn▸hx) (by rw [e];exact Bc))) hA,λb off p e=>Dt _ (hA b off p e)⟩
  simp only [if_neg hk];obtain ⟨A',C',h1,h2,h3⟩:=h.row k';exact ⟨A',C',h1,JG h2 (λx hx hl=>hf.block x hl (λe=>h.gF (e▸hx))) h3,λb off p e=>Cr _ (h3 b off p e)⟩
 intro x hx
 left
 rcases Ak.1 (show x∈g::((Value.slice A n C).ownBlock.toList++F) from hx) with rfl|hx
 ·exact Cr _ Bc
 rcases Bo.1 hx with hx|hx
 ·exact Dt _ hx
 exact Cr _ (Ap _ hx)
theorem Mem.mdN {m:Md} {a:MdA} (M:Mem w0 S Ls w) (i:Nat) (hi:Ls[i]?=some (As.mdp m a F)):MdN w m a F:=M.ok i _ hi
end
end
end
theorem a26 {L:List (Kz × Kv)} {f:Kz→El} {is:Kz→Bool} {x:El} (h:∀k,(CC L k).getD (.agg zeroEl.cells.toArray)=.agg (f k).cells.toArray∧(CC L k).isSome=is k) :
 ∀k,(CC (D9 L x.id (.agg (El.cells x).toArray)) k).getD (.agg zeroEl.cells.toArray)=.agg ((if k=x.id then x else f k)).cells.toArray∧(CC (D9 L x.id (.agg (El.cells x).toArray)) k).isSome=(if k=x.id then true else is k):=λk=>by
 rw [G0]
 by_cases hk:k=x.id
 ·rw [if_pos hk,if_pos hk,if_pos hk];exact ⟨rfl,rfl⟩
 rw [if_neg hk,if_neg hk,if_neg hk];exact h k
theorem yZ {m:Md} {r:Kz→List Kz} {x:El} (h:∀k,(r k).length≤m.fls.length):∀k,((λk'=>if k'=x.id then (BV m.fls x.id).map (λu:Fl=>u.id) else r k') k).length≤m.fls.length:=λk=>by
 simp only
 split
 ·rw [Bp];exact F3 _ _
 exact h k
theorem uA {L:List (Kz × Kv)} {f:Kz→Fl} {is:Kz→Bool} {x:Fl} (h:∀k,(CC L k).getD (.agg zeroFl.cells.toArray)=.agg (f k).cells.toArray∧(CC L k).isSome=is k) :
 ∀k,(CC (D9 L x.id (.agg (Fl.cells x).toArray)) k).getD (.agg zeroFl.cells.toArray)=.agg ((if k=x.id then x else f k)).cells.toArray∧(CC (D9 L x.id (.agg (Fl.cells x).toArray)) k).isSome=(if k=x.id then true else is k):=λk=>by
 rw [G0]
 by_cases hk:k=x.id
 ·rw [if_pos hk,if_pos hk,if_pos hk];exact ⟨rfl,rfl⟩
 rw [if_neg hk,if_neg hk,if_neg hk];exact h k
def JY (f:Fl):Bool:=if (!decide (f.cond=[]))=true then !(!decide ((CR f.cond).2.2=(0:Int))) else true
theorem ZR {f:Fl} (h:(!decide (f.cond=[]))=false):JY f=true:=AM h
theorem XN {f:Fl} (h:(!decide (f.cond=[]))=true) (h2:(!decide ((CR f.cond).2.2=(0:Int)))=false):JY f=true:=by rw [JY,if_pos h,h2];rfl
theorem PD {l l':List Fl} {f:Fl} (h:l.all JY=true) (hl:l'=l++[f]) (hf:JY f=true):l'.all JY=true:=by rw [hl,Fw,h];simp [hf]
def GU (m:Md):Bool := !(!decide ((LD m).2.2=(0:Int)))&&m.fls.all JY
theorem j0 {m:Md} (h:(!decide ((LD m).2.2=(0:Int)))=true):GU m=false:=by unfold GU;rw [h];rfl
theorem j3 {m:Md} {j:Nat} {f:Fl} (hf:m.fls[j]?=some f) (h:(!decide (f.cond=[]))=true) (h2:(!decide ((CR f.cond).2.2=(0:Int)))=true):GU m=false:=by
 have:m.fls.all JY=false:=by
  rw [List.all_eq_false];exact ⟨f,Ac hf,by rw [JY,if_pos h,h2];decide⟩
 unfold GU;rw [this,Ed]
theorem nS {m:Md} (h:(!decide ((LD m).2.2=(0:Int)))=false) (h2:m.fls.all JY=true):GU m=true:=by unfold GU;rw [h,h2];rfl
def CndS (w:Kw) (cn:Kz→Option Kz) (aC:Kz→Ky) (F:List Nat):Prop:=∀k s,cn k=some s→∃F',(CR s).1.AtL 113 w (aC k) F'∧∀x∈F',x∈F
theorem CndS.keep {w w':Kw} {cn:Kz→Option Kz} {aC:Kz→Ky} {F:List Nat} (h:CndS w cn aC F) (hk:∀g∈F,g<w.heap.size→w'.heap[g]?=w.heap[g]?):CndS w' cn aC F:=λk s hc=>by
 obtain ⟨F',h1,h2⟩:=h k s hc;exact ⟨F',h1.keep (λg hg=>hk g (h2 g hg)),h2⟩
def As.cnd (cn:Kz→Option Kz) (aC:Kz→Ky) (F:List Nat):As:=⟨F,λw=>CndS w cn aC F,λh hb=>hb.keep h⟩
theorem Mem.pushE {w0 w:Kw} {S:Nat→Prop} {Ls:List As} (M:Mem w0 S Ls w) (a:As) (h:a.ok w) (hf:a.fp=[]):Mem w0 S (a::Ls) w:=M.push Fr.refl a h (λg hg=>by rw [hf] at hg;cases hg)
theorem Mem.foldC {w0 w:Kw} {S:Nat→Prop} {Ls:List As} {AX:Ky} {FX FC:List Nat} {cn:Kz→Option Kz} {aC:Kz→Ky} (k s:Kz) (M:Mem w0 S (As.xn 113 (CR s).1 AX FX::As.cnd cn aC FC::Ls) w) :
 Mem w0 S (As.cnd (λk'=>if k'=k then some s else cn k') (λk'=>if k'=k then AX else aC k') (FX++FC)::Ls) w:=by
 have h1:(CR s).1.AtL 113 w AX FX:=M.ok 0 _ X;have h2:CndS w cn aC FC:=M.ok 1 _ X;refine M.joinFam _ (show CndS w _ _ _ from λk' s' hc=>?_) (λx hx=>Bo.1 hx)
 by_cases hk:k'=k
 ·rw [if_pos hk] at hc
  cases hc
  rw [if_pos hk];exact ⟨FX,h1,λx hx=>Dt _ hx⟩
 rw [if_neg hk] at hc
 rw [if_neg hk];obtain ⟨F',h3,h4⟩:=h2 k' s' hc;exact ⟨F',h3,λx hx=>Cr _ (h4 x hx)⟩
theorem uY {LC:List (Kz × Kv)} {cn:Kz→Option Kz} {aC:Kz→Ky} {f:Fl} {AX:Ky} (h:∀k,CC LC k=(cn k).map (λs=>.agg ((CR s).1.cells (aC k)).toArray)) :
 ∀k,CC (D9 LC f.id (.agg (Xn.cells (CR f.cond).1 AX).toArray)) k=((if k=f.id then some f.cond else cn k).map (λs=>.agg ((CR s).1.cells (if k=f.id then AX else aC k)).toArray)):=λk=>by
 rw [G0]
 by_cases hk:k=f.id
 ·rw [if_pos hk,if_pos hk,if_pos hk];rfl
 rw [if_neg hk,if_neg hk,if_neg hk];exact h k
def atF (l:List El):Kz→El:=l.foldl (λf x=>λk=>if k=x.id then x else f k) (λ_=>zeroEl)
def YG (l:List El):Kz→Bool:=l.foldl (λf x=>λk=>if k=x.id then true else f k) (λ_=>false)
def bK (m:Md) (l:List El):Kz→List Kz:=l.foldl (λf x=>λk=>if k=x.id then (E4 m.fls x.id).map (λu:Fl=>u.id) else f k) (λ_=>[])
def NL (m:Md) (l:List El):Kz→List Kz:=l.foldl (λf x=>λk=>if k=x.id then (BV m.fls x.id).map (λu:Fl=>u.id) else f k) (λ_=>[])
def flF (l:List Fl):Kz→Fl:=l.foldl (λf x=>λk=>if k=x.id then x else f k) (λ_=>zeroFl)
def bJ (l:List Fl):Kz→Bool:=l.foldl (λf x=>λk=>if k=x.id then true else f k) (λ_=>false)
def cnF (l:List Fl):Kz→Option Kz:=l.foldl (λf x=>if x.cond=[] then f else λk=>if k=x.id then some x.cond else f k) (λ_=>none)
theorem vQ (l:List El) (x:El):atF (l++[x])=λk=>if k=x.id then x else atF l k:=by unfold atF;rw [De];rfl
theorem o2 (l:List El) (x:El):YG (l++[x])=λk=>if k=x.id then true else YG l k:=by unfold YG;rw [De];rfl
theorem o4 (m:Md) (l:List El) (x:El):bK m (l++[x])=λk=>if k=x.id then (E4 m.fls x.id).map (λu:Fl=>u.id) else bK m l k:=by unfold bK;rw [De];rfl
theorem eN (m:Md) (l:List El) (x:El):NL m (l++[x])=λk=>if k=x.id then (BV m.fls x.id).map (λu:Fl=>u.id) else NL m l k:=by unfold NL;rw [De];rfl
theorem fI (l:List Fl) (x:Fl):flF (l++[x])=λk=>if k=x.id then x else flF l k:=by unfold flF;rw [De];rfl
theorem ZF (l:List Fl) (x:Fl):bJ (l++[x])=λk=>if k=x.id then true else bJ l k:=by unfold bJ;rw [De];rfl
theorem uZ {l:List Fl} {x:Fl} (h:x.cond=[]):cnF (l++[x])=cnF l:=by unfold cnF;rw [De];exact if_pos h
theorem lZ {l:List Fl} {x:Fl} (h:¬x.cond=[]):cnF (l++[x])=λk=>if k=x.id then some x.cond else cnF l k:=by unfold cnF;rw [De];exact if_neg h
structure CrA where
 a:MdA
 gA:Nat
 gF:Nat
 gI:Nat
 gO:Nat
 gC:Nat
 LA:List (Kz × Kv)
 LF:List (Kz × Kv)
 LO:List (Kz × Kv)
 atf:Kz→El
 isA:Kz→Bool
 flf:Kz→Fl
 isF:Kz→Bool
 outs:Kz→List Kz
 LI:List (Kz × Kv)
 ins:Kz→List Kz
 LC:List (Kz × Kv)
 cnd:Kz→Option Kz
 aC:Kz→Ky
 FC:List Nat
def CrA.cells (m:Md) (c:CrA):Kx:=[str m.id,str m.nm,.slice c.a.V m.vars.length c.a.vc,.slice c.a.E m.els.length c.a.ec,.slice c.a.F m.fls.length c.a.fc,.map (some c.gA),.map (some c.gF),.map (some c.gI),.map (some c.gO),.map (some c.gC)]
structure CourseN (w:Kw) (m:Md) (gc:Nat) (c:CrA) (F:List Nat):Prop where
 blk:Blk w gc 104 (c.cells m)
 md:MdN w m c.a F
 A:Mp w c.gA c.LA
 L:Mp w c.gF c.LF
 O:Mp w c.gO c.LO
 getA:∀k,(CC c.LA k).getD (.agg zeroEl.cells.toArray)=.agg (c.atf k).cells.toArray
 isA:∀k,(CC c.LA k).isSome=c.isA k
 getL:∀k,(CC c.LF k).getD (.agg zeroFl.cells.toArray)=.agg (c.flf k).cells.toArray
 isL:∀k,(CC c.LF k).isSome=c.isF k
 getO:∀k,(CC c.LO k).getD (.slice none 0 0)=.slice (PJ (G9 c.LO k)) (c.outs k).length (iF (G9 c.LO k))
 rdO:∀k,Rd w (PJ (G9 c.LO k)) ((c.outs k).length*1) (AE BG (c.outs k))
 I:Mp w c.gI c.LI
 C:Mp w c.gC c.LC
 getI:∀k,(CC c.LI k).getD (.slice none 0 0)=.slice (PJ (G9 c.LI k)) (c.ins k).length (iF (G9 c.LI k))
 rdI:∀k,Rd w (PJ (G9 c.LI k)) ((c.ins k).length*1) (AE BG (c.ins k))
 getC:∀k,CC c.LC k=(c.cnd k).map (λs=>.agg ((CR s).1.cells (c.aC k)).toArray)
 ndC:CndS w c.cnd c.aC c.FC
 eA:c.atf=atF m.els
 eB:c.isA=YG m.els
 eI:c.ins=bK m m.els
 eO:c.outs=NL m m.els
 eL:c.flf=flF m.fls
 eM:c.isF=bJ m.fls
 eC:c.cnd=cnF m.fls
 inF:gc∈F∧c.gA∈F∧c.gF∈F∧c.gO∈F∧c.gI∈F∧c.gC∈F
 inI:∀k b off p,PJ (G9 c.LI k)=some ⟨b,off,p⟩→b∈F
 inC:∀x∈c.FC,x∈F
 inO:∀k b off p,PJ (G9 c.LO k)=some ⟨b,off,p⟩→b∈F
 lenO:∀k,(c.outs k).length≤m.fls.length
theorem MdN.mono {w:Kw} {m:Md} {a:MdA} {F F':List Nat} (h:MdN w m a F) (hF:∀x∈F,x∈F'):MdN w m a F':=⟨h.md,λb off p e=>hF b (h.V b off p e),λb off p e=>hF b (h.E b off p e),λb off p e=>hF b (h.L b off p e)⟩
theorem CourseN.keep {w w':Kw} {m:Md} {gc:Nat} {c:CrA} {F:List Nat} (hk:∀g∈F,g<w.heap.size→w'.heap[g]?=w.heap[g]?) (h:CourseN w m gc c F):CourseN w' m gc c F:=
 ⟨(hk gc h.inF.1 h.blk.lt).trans h.blk,h.md.keep hk,M6 h.A hk h.inF.2.1,M6 h.L hk h.inF.2.2.1,M6 h.O hk h.inF.2.2.2.1,h.getA,h.isA,h.getL,h.isL,h.getO,λk=>JG (h.rdO k) hk (h.inO k),M6 h.I hk h.inF.2.2.2.2.1,M6 h.C hk h.inF.2.2.2.2.2,h.getI,λk=>JG (h.rdI k) hk (h.inI k),h.getC,h.ndC.keep (λg hg=>hk g (h.inC g hg)),h.eA,h.eB,h.eI,h.eO,h.eL,h.eM,h.eC,h.inF,h.inI,h.inC,h.inO,h.lenO⟩
theorem yU {m:Md} {a':MdA} {w w':Kw} {g31 g25 g26 g27 g28 g29:Nat} {F0 FO FI FC:List Nat} {LA LF LO LI LC:List (Kz × Kv)} {atf:Kz→El} {isA isF:Kz→Bool} {flf:Kz→Fl} {rO rI:Kz→List Kz} {cn:Kz→Option Kz} {aC:Kz→Ky} {Ls:List As}
 (M:Mem w AR (As.blk g31 104 [str m.id,str m.nm,.slice a'.V m.vars.length a'.vc,.slice a'.E m.els.length a'.ec,.slice a'.F m.fls.length a'.fc,.map (some g25),.map (some g26),.map (some g27),.map (some g28),.map (some g29)]::As.mdp m a' F0::As.mpS g25 LA none::As.mp g26 LF::As.rowS g28 LO none rO FO::As.rowS g27 LI none rI FI::As.mp g29 LC::As.cnd cn aC FC::Ls) w')
 (h1:∀k,(CC LA k).getD (.agg zeroEl.cells.toArray)=.agg (atf k).cells.toArray) (h2:∀k,(CC LA k).isSome=isA k) (h3:∀k,(CC LF k).getD (.agg zeroFl.cells.toArray)=.agg (flf k).cells.toArray) (h4:∀k,(CC LF k).isSome=isF k) (h5:∀k,(rO k).length≤m.fls.length)
 (h6:∀k,CC LC k=(cn k).map (λs=>.agg ((CR s).1.cells (aC k)).toArray)) (e1:atf=atF m.els) (e2:isA=YG m.els) (e3:rI=bK m m.els) (e4:rO=NL m m.els) (e5:flf=flF m.fls) (e6:isF=bJ m.fls) (e7:cn=cnF m.fls) :
 ∃gc c F,Ending.returned (.tuple #[pg g31,AA 0])=.returned (.tuple #[pg gc,AA 0])∧CourseN w' m gc c F∧∀g∈F,w.heap.size≤g∧g<w'.heap.size:=by
 have hR:RowS w' g28 LO none rO FO:=M.ok 4 _ X;have hA:MpB w' g25 LA:=M.ok 2 _ X;have hO:MpB w' g28 LO:=hR.map;have hI:RowS w' g27 LI none rI FI:=M.ok 5 _ X;have hIm:MpB w' g27 LI:=hI.map
 have hv:∀{g:Nat} {L:List (Kz × Kv)} {r:Kz→List Kz} {F:List Nat},RowS w' g L none r F→∀k,(CC L k).getD (.slice none 0 0)=.slice (PJ (G9 L k)) (r k).length (iF (G9 L k))∧Rd w' (PJ (G9 L k)) ((r k).length*1) (AE BG (r k))∧∀b off p,PJ (G9 L k)=some ⟨b,off,p⟩→b∈F:=λ{g L r F} hR k=>by
  obtain ⟨A,C,e1,e2,e3⟩:=hR.row k;rw [show (CC L k).getD (.slice none 0 0)=G9 L k from rfl,e1];exact ⟨X,e2,e3⟩
 refine ⟨g31,⟨a',g25,g26,g27,g28,g29,LA,LF,LO,atf,isA,flf,isF,rO,LI,rI,LC,cn,aC,FC⟩,g31::g25::g26::g28::g27::g29::(F0++(FO++(FI++FC))),X,⟨M.blk 0 X,(M.mdN 1 X).mono (λx hx=>by simp [hx]),hA.mp,M.mp 3 X,hO.mp,h1,h2,h3,h4,λk=>(hv hR k).1,λk=>(hv hR k).2.1,hIm.mp,M.mp 6 X,λk=>(hv hI k).1,λk=>(hv hI k).2.1,h6,M.ok 7 _ X,e1,e2,e3,e4,e5,e6,e7,⟨by simp,by simp,by simp,by simp,by simp,by simp⟩,λk b off p e=>by simp [(hv hI k).2.2 b off p e],λx hx=>by simp [show x∈FC from hx],λk b off p e=>by simp [(hv hR k).2.2 b off p e],h5⟩,?_⟩;intro g hg;simp only [Ak,Bo] at hg
 rcases hg with rfl|rfl|rfl|rfl|rfl|rfl|hg|hg|hg|hg
 ·exact M.new0 0 X _ (by simp [As.blk])
 ·exact M.new0 2 X _ (by simp [As.mpS])
 ·exact M.new0 3 X _ (by simp [As.mp])
 ·exact M.new0 4 X _ Bc
 ·exact M.new0 5 X _ Bc
 ·exact M.new0 6 X _ (by simp [As.mp])
 ·exact M.new0 1 X g hg
 ·exact M.new0 4 X g (Ap _ hg)
 ·exact M.new0 5 X g (Ap _ hg)
 exact M.new0 7 X g hg
theorem LR (c0_0 c0_1 c0_2 c0_3 c0_4:Kv) (a1:Option Nat) (a2:Option Nat) (a3:Option Nat) (a4:Option Nat) (a5:Option Nat):prog.built 104 [(0,.agg #[c0_0,c0_1,c0_2,c0_3,c0_4]),(1,.map a1),(2,.map a2),(3,.map a3),(4,.map a4),(5,.map a5)]=some #[c0_0,c0_1,c0_2,c0_3,c0_4,.map a1,.map a2,.map a3,.map a4,.map a5]:=by kernel_rfl
theorem J3 : (prog.info? 107).map (·.zero)=some (some (.slice none 0 0)):=by kernel_rfl
theorem yS (m:Md) (a:MdA) (w:Kw) (hb:MdB m) (hM:MdIn w m a) (hY:Lay0 w) :
 Calls prog 19 #[.agg (Md.cells m a).toArray] w λe w'=>((GU m=true∧∃gc c F,e=.returned (.tuple #[pg gc,AA 0])∧CourseN w' m gc c F∧∀g∈F,w.heap.size≤g∧g<w'.heap.size)∨(GU m=false∧e=.returned (.tuple #[.pointer none,AA 140])))∧Fr0 w w':=by
 refine BR func19 ntmps19 X λM=>W ?_
 refine CO M X X λg1 w1 hg1 M=>W ?_
 refine CH M 0 X X Al AN X (CW M 17 X X call42 (aO m a _ hb (hM.fr0 M.fr) (hY.fr0 M.fr)) λw2 M=>W ?_);refine AB X (λh22=>?_) (λh22=>?_)
 ·refine W ?_;exact AZ X X X ⟨.inr ⟨j0 h22,X⟩,M.fr⟩
 have h22p:=(odt (BO h22));have ho:=sP hb h22p;have hne:=ho.nels;have hnf:=ho.nfls;refine W ?_;refine CH M 0 X X Al AN X (cl 24 X (AD X X call43) (kM m a _ ho (hM.fr0 M.fr)) ?_);rintro _ w3 ⟨a',F0,rfl,hmd,hnw,hfw3⟩;refine cq ?_;have M:=M.push hfw3 (As.mdp m a' F0) hmd hnw;refine W3 M kw X X X λg25 w4 hg25 M=>K4 M kw X X X λg26 w5 hg26 M=>W3 M kw X X X λg27 w6 hg27 M=>?_
 have M:=M.toRow 0 X;refine W3 M kw X X X λg28 w7 hg28 M=>?_
 have M:=M.toRow 0 X;refine K4 M kw X X X λg29 w8 hg29 M=>ya X (B7 (parts:=[(0,_),(1,_),(2,_),(3,_),(4,_),(5,_)]) X X (LR _ _ _ _ _ _ _ _ _ _)) (DG M kw X X 104 X X ([str m.id,str m.nm,.slice a'.V m.vars.length a'.vc,.slice a'.E m.els.length a'.ec,.slice a'.F m.fls.length a'.fc,.map (some g25),.map (some g26),.map (some g27),.map (some g28),.map (some g29)]) X λg31 w9 hg31 M=>W ?_)
 refine flp [37,36,7,1] (λze e wr mz=>∃(i:Nat) (LA:List (Kz × Kv)) (atf:Kz→El) (isA:Kz→Bool) (LI:List (Kz × Kv)) (rI:Kz→List Kz) (FI:List Nat) (LO:List (Kz × Kv)) (rO:Kz→List Kz) (FO:List Nat),e=(38,AA (i:Int))::ze∧Mem w AR [As.blk g31 104 [str m.id,str m.nm,.slice a'.V m.vars.length a'.vc,.slice a'.E m.els.length a'.ec,.slice a'.F m.fls.length a'.fc,.map (some g25),.map (some g26),.map (some g27),.map (some g28),.map (some g29)],As.mp g29 [],As.rowS g28 LO none rO FO,As.rowS g27 LI none rI FI,As.mp g26 [],As.mpS g25 LA none,As.mdp m a' F0,As.blk g1 48 (Md.cells m a)] wr∧(i≤m.els.length)∧(∀k,(CC LA k).getD (.agg zeroEl.cells.toArray)=.agg (atf k).cells.toArray∧(CC LA k).isSome=isA k)∧(∀k,(rO k).length≤m.fls.length)∧(atf=atF (m.els.take i))∧(isA=YG (m.els.take i))∧(rI=bK m (m.els.take i))∧(rO=NL m (m.els.take i))∧mz=m.els.length-i) ⟨0,[],(λ_=>zeroEl),(λ_=>false),[],(λ_=>[]),[],[],(λ_=>[]),[],X,M,Ae _,λ_=>⟨X,X⟩,λ_=>Ae _,X,X,X,X,X⟩ ?_;rintro _ w10 _ ⟨i,LA,atf,isA,LI,rI,FI,LO,rO,FO,rfl,M,hi,hA,hOl,hAe,hBe,hIe,hOe,rfl⟩;refine W ?_;refine AB X (λh39=>?_) (λh39=>?_)
 ·have h39p:=odt h39;refine W ?_;obtain ⟨x,_,_,hx,hA_x⟩:=ex5 (i:=i) ((M.mdN 6 X).md.els);refine ya X (AK i hA_x X X X (sl X) A0) (ya X (AI X X (BM El.len ((M.mdN 6 X).md.els) hA_x hx) Bf X AJ) (CI M X AP λg9 w11 hg9 M=>BY M 0 X X AJ X λw12 M=>W ?_));refine EC 36 (λw'=>Mem w AR [As.blk g9 106 (El.cells x),As.blk g31 104 [str m.id,str m.nm,.slice a'.V m.vars.length a'.vc,.slice a'.E m.els.length a'.ec,.slice a'.F m.fls.length a'.fc,.map (some g25),.map (some g26),.map (some g27),.map (some g28),.map (some g29)],As.mp g29 [],As.mp g26 [],As.mdp m a' F0,As.blk g1 48 (Md.cells m a)] w') CA ?_;have M:=M.drew;refine oc 0 36 X X (M.pk [0,1,2,5,7,8]) (oc 1 36 X X (M.pk [0,1,2,5,7,8]) (oc 2 36 X X (M.pk [0,1,2,5,7,8]) (ol 3 36 X X X (M.pk [0,1,2,5,7,8]) (λ_ M=>(M.cell 1 X X)) (oc 4 36 X X (M.pk [0,1,2,5,7,8]) (ol 5 36 X X X (M.pk [0,1,2,5,7,8]) (λ_ M=>(M.cell 0 X X)) (oc 6 36 X X (M.pk [0,1,2,5,7,8]) (oc 7 36 X X (M.pk [0,1,2,5,7,8]) (oc 8 36 X X (M.pk [0,1,2,5,7,8]) (ol 9 36 X X X (M.pk [0,1,2,5,7,8]) (λ_ M=>(M.cell 1 X X)) (oc 10 36 X X (M.pk [0,1,2,5,7,8]) (ol 11 36 X X X (M.pk [0,1,2,5,7,8]) (λ_ M=>(M.cell 0 X X)) (oc 12 36 X X (M.pk [0,1,2,5,7,8]) (oc 13 36 X X (M.pk [0,1,2,5,7,8]) (oc 14 36 X X (M.pk [0,1,2,5,7,8]) (ol 15 36 X X X (M.pk [0,1,2,5,7,8]) (λ_ M=>(M.cell 1 X X)) ?_)))))))))))))));refine oc 16 36 X X (M.pk [0,1,2,5,7,8]) (ol 17 36 X X X (M.pk [0,1,2,5,7,8]) (λ_ M=>(M.cell 0 X X)) (oa 18 36 X X (M.pk [0,1,2,5,7,8]) (λ_ M=>AI (xs:=El.cells x) X X (M.rdBlk 0 X X) Bf X AJ) (oa 19 36 X X (M.pk [0,1,2,5,7,8]) (λ_ M=>AI (xs:=Md.cells m a) X X (M.rdBlk 5 X X) Al X AN) (oc 20 36 X X (M.pk [0,1,2,5,7,8]) (ol 21 36 X X X (M.pk [0,1,2,5,7,8]) (λ_ M=>(M.cell 0 X X)) (oa 23 36 X X (M.pk [0,1,2,5,7,8]) (λ_ M=>AI (xs:=Md.cells m a) X X (M.rdBlk 5 X X) Al X AN) (oc 24 36 X X (M.pk [0,1,2,5,7,8]) (ol 25 36 X X X (M.pk [0,1,2,5,7,8]) (λ_ M=>(M.cell 0 X X)) (BC 22 (some 64) gkr X kw X X (AD X X call44) (zH m a x.id _ ho (hM.fr0 M.fr)) ?_)))))))));rintro _ w13 ⟨A64,c64,rfl,how13,hfw13⟩;refine ⟨_,X,λ_=>(M.pk [0,1,2,5,7,8]).step hfw13,?_⟩;have M:=M.pushOwn hfw13 (Ab _) how13;have hL64:=M.ownLen 0 X;refine BC 26 (some 68) gkr X kw X X (AD X X call45) (sK m a x.id _ ho (hM.fr0 M.fr)) ?_;rintro _ w14 ⟨A68,c68,rfl,how14,hfw14⟩;refine ⟨_,X,λ_=>(M.pk [1,2,3,6,8,9]).step hfw14,?_⟩;have M:=M.pushOwn hfw14 (Ab _) how14;have hL68:=M.ownLen 0 X;refine B5 27 (some 69) gkr X kw X X (λρ hρ=>MJ X (hρ _ _ X) (hρ _ _ X) Cx Aa AP (M.mpS 8 X)) ?_;rintro _ w15 ⟨b69,rfl,hfw15,hEw15⟩;have M:=M.entA 8 X hfw15 hEw15;refine ⟨λ_=>(M.pk [2,3,4,7,9,10]),oc 28 36 X X (M.pk [2,3,4,7,9,10]) (B5 29 none gkr X kw X X (λρ hρ=>KM X (hρ _ _ X) (hρ _ _ X) (hρ _ _ X) (M.mpS 8 X)) ?_)⟩;rintro _ w16 ⟨rfl,hfw16,hbw16⟩;rw [MW] at hbw16
  have M:=M.putA 8 X hfw16 hbw16;refine ⟨λ_=>(M.pk [2,3,4,7,9,10]),B5 30 (some 71) gkr X kw X X (λρ hρ=>MJ X (hρ _ _ X) (hρ _ _ X) Gg Aa J3 ((M.rowS 6 X).map)) ?_⟩;rintro _ w17 ⟨b71,rfl,hfw17,hEw17⟩;have M:=M.entR 6 X hfw17 hEw17;refine ⟨λ_=>(M.pk [2,3,4,7,9,10]),oc 31 36 X X (M.pk [2,3,4,7,9,10]) (B5 32 none gkr X kw X X (λρ hρ=>KM X (hρ _ _ X) (hρ _ _ X) (hρ _ _ X) ((M.rowS 6 X).map)) ?_)⟩;rintro _ w18 ⟨rfl,hfw18,hbw18⟩;obtain ⟨F2I,M⟩:=Mem.putR (M.pk [1,6,0,2,3,4,5,7,8,9,10]) hfw18 hbw18 X;rw [MW] at M
  have M:=M.pk [1,2,3,4,5,0,6,7,8,9];refine ⟨λ_=>(M.pk [1,2,3,6,8,9]),B5 33 (some 73) gkr X kw X X (λρ hρ=>MJ X (hρ _ _ X) (hρ _ _ X) Gg Aa J3 ((M.rowS 4 X).map)) ?_⟩;rintro _ w19 ⟨b73,rfl,hfw19,hEw19⟩;have M:=M.entR 4 X hfw19 hEw19;refine ⟨λ_=>(M.pk [1,2,3,6,8,9]),oc 34 36 X X (M.pk [1,2,3,6,8,9]) (B5 35 none gkr X kw X X (λρ hρ=>KM X (hρ _ _ X) (hρ _ _ X) (hρ _ _ X) ((M.rowS 4 X).map)) ?_)⟩;rintro _ w20 ⟨rfl,hfw20,hbw20⟩;obtain ⟨F2O,M⟩:=Mem.putR (M.pk [0,4,1,2,3,5,6,7,8,9]) hfw20 hbw20 X;rw [MW] at M
  have M:=M.pk [1,2,3,0,4,5,6,7,8];refine ⟨λ_=>(M.pk [0,1,2,5,7,8]),fdn (W ?_)⟩;refine fag ⟨i+1,(D9 LA x.id (.agg (El.cells x).toArray)),(λk=>if k=x.id then x else atf k),(λk=>if k=x.id then true else isA k),(D9 LI x.id (.slice A64 (((E4 m.fls x.id).map (λu:Fl=>u.id)).length) c64)),(λk'=>if k'=x.id then ((E4 m.fls x.id).map (λu:Fl=>u.id)) else rI k'),F2I,(D9 LO x.id (.slice A68 (((BV m.fls x.id).map (λu:Fl=>u.id)).length) c68)),(λk'=>if k'=x.id then ((BV m.fls x.id).map (λu:Fl=>u.id)) else rO k'),F2O,X,(M.pk [1,2,3,4,5,6,7,8]),?_,?_,?_,?_,?_,?_,?_,X⟩
  ·omega
  ·exact a26 hA
  ·exact yZ hOl
  ·rw [AS hx,vQ,←hAe]
  ·rw [AS hx,o2,←hBe]
  ·rw [AS hx,o4,←hIe]
  rw [AS hx,eN,←hOe]
 have h39p:=odf h39;refine W ?_;have hiE:i=m.els.length:=by omega
 rw [hiE,Ba] at hAe hBe hIe hOe
 refine W ?_;have M:=M.pushE (As.cnd (λ_=>none) (λ_=>none) []) (λ_ _ h=>by cases h) X;refine flp [81,80,7] (λze e wr mz=>∃(j:Nat) (LF:List (Kz × Kv)) (flf:Kz→Fl) (isF:Kz→Bool) (LC:List (Kz × Kv)) (cn:Kz→Option Kz) (aC:Kz→Ky) (FC:List Nat),e=(82,AA (j:Int))::ze∧Mem w AR [As.cnd cn aC FC,As.blk g31 104 [str m.id,str m.nm,.slice a'.V m.vars.length a'.vc,.slice a'.E m.els.length a'.ec,.slice a'.F m.fls.length a'.fc,.map (some g25),.map (some g26),.map (some g27),.map (some g28),.map (some g29)],As.mp g29 LC,As.rowS g28 LO none rO FO,As.rowS g27 LI none rI FI,As.mp g26 LF,As.mpS g25 LA none,As.mdp m a' F0,As.blk g1 48 (Md.cells m a)] wr∧(j≤m.fls.length)∧(∀k,(CC LF k).getD (.agg zeroFl.cells.toArray)=.agg (flf k).cells.toArray∧(CC LF k).isSome=isF k)∧((m.fls.take j).all JY=true)∧(∀k,CC LC k=(cn k).map (λs=>.agg ((CR s).1.cells (aC k)).toArray))∧(flf=flF (m.fls.take j))∧(isF=bJ (m.fls.take j))∧(cn=cnF (m.fls.take j))∧mz=m.fls.length-j) ⟨0,[],(λ_=>zeroFl),(λ_=>false),[],(λ_=>none),(λ_=>none),[],X,M,Ae _,λ_=>⟨X,X⟩,X,λ_=>X,X,X,X,X⟩ ?_;rintro _ w21 _ ⟨j,LF,flf,isF,LC,cn,aC,FC,rfl,M,hj,hFl,hC,hCn,hFe,hGe,hCe,rfl⟩;refine W ?_;refine AB X (λh83=>?_) (λh83=>?_)
 ·have h83p:=odt h83;refine W ?_;obtain ⟨f,_,_,hf,hA_f⟩:=ex5 (i:=j) ((M.mdN 7 X).md.fls);refine ya X (AK j hA_f X X X (sl X) A0) (ya X (AI X X (BM Fl.len ((M.mdN 7 X).md.fls) hA_f hf) Cf X BU) (CI M X DS λg11 w22 hg11 M=>BY M 0 X X BU X λw23 M=>W ?_));refine EB 7 CA gkr ?_;have M:=M.drew;refine W ?_;refine sa X (AI (xs:=Fl.cells f) X X (M.rdBlk 0 X X) Cf X BU) (D6 (GJ M 6 kw X X X X X Ik Aa X λw24 M=>W ?_));refine AB X (λh95=>?_) (λh95=>?_)
  ·have h95p:=(odf (CJ h95));refine W ?_;refine cl 99 X (AD X X call46) (dZ f.cond _ (by have:=(ho.fls f (Ac hf)).cond;omega) (hY.fr0 M.fr)) ?_;rintro _ w25 ⟨AX,FX,rfl,hat,hnx,hfw25⟩;refine cq ?_;have M:=M.push hfw25 (As.xn 113 (CR f.cond).1 AX FX) hat hnx;refine W ?_;refine CI M X DK λg12 w26 hg12 M=>BY M 0 X X AT X λw27 M=>W ?_
   refine AB X (λh104=>?_) (λh104=>?_)
   ·refine W ?_;exact AZ X X X ⟨.inr ⟨j3 hf h95 h104,X⟩,M.fr⟩
   have h104p:=(odt (BO h104));refine W ?_;refine EB 7 CA gkr ?_;have M:=M.drew;refine T3 ?_;refine bN M 4 X X X (W ?_);refine sa X (AI (xs:=Xn.cells (CR f.cond).1 AX) X X (M.rdBlk 0 X X) Bk X AT) (D6 (GJ M 5 kw X X X X X underlying102 Aa X λw28 M=>W ?_));have M:=Mem.foldC f.id f.cond (M.pk [1,3,0,2,4,5,6,7,8,9,10,11]);refine fag ⟨j+1,D9 LF f.id (.agg (Fl.cells f).toArray),(λk=>if k=f.id then f else flf k),(λk=>if k=f.id then true else isF k),D9 LC f.id (.agg (Xn.cells (CR f.cond).1 AX).toArray),(λk'=>if k'=f.id then some f.cond else cn k'),(λk'=>if k'=f.id then AX else aC k'),(FX++FC),X,(M.pk [0,3,4,5,6,7,8,9,10]),?_,?_,?_,?_,?_,?_,?_,X⟩
   ·omega
   ·exact uA hFl
   ·first
     | exact PD hC (AS hf) (ZR h95)
     | exact PD hC (AS hf) (XN h95 h104)
   ·first
     | exact hCn
     | exact uY hCn
   ·rw [AS hf,fI,←hFe]
   ·rw [AS hf,ZF,←hGe]
   first
    | rw [AS hf,uZ h95p,←hCe]
    | rw [AS hf,lZ h95p,←hCe]
  have h95p:=(odt (BO h95));refine W ?_;refine fag ⟨j+1,D9 LF f.id (.agg (Fl.cells f).toArray),(λk=>if k=f.id then f else flf k),(λk=>if k=f.id then true else isF k),LC,cn,aC,FC,X,(M.pk [1,2,3,4,5,6,7,8,9]),?_,?_,?_,?_,?_,?_,?_,X⟩
  ·omega
  ·exact uA hFl
  ·first
    | exact PD hC (AS hf) (ZR h95)
    | exact PD hC (AS hf) (XN h95 h104)
  ·first
    | exact hCn
    | exact uY hCn
  ·rw [AS hf,fI,←hFe]
  ·rw [AS hf,ZF,←hGe]
  first
   | rw [AS hf,uZ h95p,←hCe]
   | rw [AS hf,lZ h95p,←hCe]
 have h83p:=odf h83;refine W ?_;have hjE:j=m.fls.length:=by omega
 rw [hjE,Ba] at hC hFe hGe hCe
 refine W ?_;exact AZ X X X ⟨.inl ⟨nS h22 hC,yU (M.pk [1,7,6,5,3,4,2,0]) (λk=>(hA k).1) (λk=>(hA k).2) (λk=>(hFl k).1) (λk=>(hFl k).2) hOl hCn hAe hBe hIe hOe hFe hGe hCe⟩,M.fr⟩
theorem aE {P:Lw} {e:Env} {w:Kw} {o:Oper} {t t':Nat} {a b:Int} {x y:Lz} (ho:o.op=.binOp .add t x y t') (hx:ev e x=some (AA a)) (hy:ev e y=some (AA b)):Y P e o w (AA ((IntKind.i64).wrap (a+b))):=λρ h=>by
 unfold execOp;simp [ho,h _ _ hx,h _ _ hy,eqGuard_at_int,binOp_add,Op.intArith]
theorem CourseN.fr0 {w w':Kw} {m:Md} {gc:Nat} {c:CrA} {F:List Nat} (h:CourseN w m gc c F) (hf:Fr0 w w'):CourseN w' m gc c F:=h.keep (λg _ hg=>hf.block g hg (λhh=>hh))
structure Tk where
 id:Int
 loc:Kz
 on:Kz
 born:Int
 tries:Int
 worker:Kz
 until_:Int
 inc:UInt8
 err:Int
structure Wt where
 via:Kz
 ev:UInt8
 nm:Kz
 key:Kz
 due:Int
def Tk.cells (t:Tk):Kx:=[.int .i64 t.id,str t.loc,str t.on,.int .i64 t.born,.int .i64 t.tries,str t.worker,.int .i64 t.until_,.int .u8 (t.inc.toNat:Int),.int .i64 t.err]
def Wt.cells (t:Wt):Kx:=[str t.via,.int .u8 (t.ev.toNat:Int),str t.nm,str t.key,.int .i64 t.due]
theorem Tk.len (t:Tk):t.cells.length=9:=rfl
theorem Wt.len (t:Wt):t.cells.length=5:=rfl
def YK (vars:List Bd) (name:Kz):Option Vl:=(ffN (λ(_:Nat) (b:Bd) => !(decide (b.name=name))) 0 vars).map (·.v)
def GR (c:CrA) (via:Kz) (born:Int) (vars:List Bd):Wt × Int:=
 if (decide (((c.atf via).ev.toNat:Int)=(1:Int)))=true then (⟨via,(c.atf via).ev,(c.atf via).ref,[],(IntKind.i64).wrap (born+(c.atf via).ticks)⟩,0)
 else if (decide (((c.atf via).ev.toNat:Int)=(2:Int)))=true then
  (if (!((YK vars (c.atf via).key).isSome))=true then (⟨[],0,[],[],0⟩,100)
  else if (!decide ((((YK vars (c.atf via).key).getD zeroVl).kind.toNat:Int)=(3:Int)))=true then (⟨[],0,[],[],0⟩,90)
  else (⟨via,(c.atf via).ev,(c.atf via).ref,((YK vars (c.atf via).key).getD zeroVl).text,0⟩,0))
 else (⟨via,(c.atf via).ev,(c.atf via).ref,[],0⟩,0)
theorem UE  : prog.built 80 []=some #[str [],.int .u8 0,str [],str [],AA 0]:=by kernel_rfl
theorem MA (a0:Kz) (a1:Int) (a2:Kz):prog.built 80 [(0,str a0),(1,.int .u8 a1),(2,str a2)]=some #[str a0,.int .u8 a1,str a2,str [],AA 0]:=by kernel_rfl
theorem C9 : (prog.info? 80).map (·.size)=some 5:=by kernel_rfl
theorem GH : (prog.info? 61).map (·.zero)=some (some (.agg #[.int .u8 0,AA 0,.bool false,str []])):=by kernel_rfl
theorem K9 : (prog.info? 80).map (·.zero)=some (some (.agg #[str [],.int .u8 0,str [],str [],AA 0])):=by kernel_rfl
theorem mE (g3:Nat) (name:Kz) (x:Bd) (w:Kw) (hb:Blk w g3 9 [str name]) :
 Calls prog 209 #[.agg x.cells.toArray,pg g3] w (BS w (.bool (decide (x.name=name)))):=by
 refine BR func209 ntmps209 X λM=>W ?_
 refine CO M X X λg2 w1 hg2 M=>T7 ?_
 refine yl X X (Blk.c (hb.fr0 M.fr) 0 X) (W ?_);exact gr1 X ⟨X,M.fr⟩
theorem pR (A:Ky) (cv:Nat) (vars:List Bd) (name:Kz) (w:Kw) (hvl:vars.length≤4611686018427387904) (hV:Rd w A (vars.length*5) (AE Bd.cells vars)) :
 Calls prog 174 #[.slice A vars.length cv,str name] w (BS w (.tuple #[.agg (((YK vars name).getD zeroVl).cells).toArray,.bool (YK vars name).isSome])):=by
 refine BR func174 ntmps174 X λM=>W ?_
 refine DG M kw X X 9 X X ([str name]) X λg3 w1 hg3 M=>CI M X GH λg4 w2 hg4 M=>W ?_
 refine ya X (CY (us:=[]) (vs:=[pg g3]) X X X) (cl 9 X (AD X X call178) (V6 Bd.cells Bd.len A cv vars hvl 209 [pg g3] (λ(_:Nat) (b:Bd) => !(!(decide (b.name=name)))) AR (λ_ _=>True) _ (IW call209 (λx _ w9 hf9=>(mE g3 name x w9 ((M.blk 1 X).fr0 hf9)).mono λ_ _ ⟨h1,h2⟩=>⟨by rw [h1,Ga],h2⟩)) (λ_ hf9=>(hV.fr0 M.fr).fr0 hf9) trivial) ?_);rintro _ w3 ⟨rfl,_,hfw3⟩;refine cq ?_;have M:=M.step hfw3;refine W ?_;refine AB X (λh11=>?_) (λh11=>?_)
 ·have h11p:=odt h11;have hff:=QN (p:=(λ(_:Nat) (b:Bd) => !(decide (b.name=name)))) h11p;refine W ?_;refine ya X (B7 (parts:=[]) X X (KX)) (BY M 0 X X BQ X λw4 M=>W ?_);exact FQ X X (M.rdBlk 0 X X) Br X BQ X ⟨by rw [YK,hff];rfl,M.fr⟩
 have h11p:=odf h11;obtain ⟨j,x,hj,hx,hff⟩:=QO (p:=(λ(_:Nat) (b:Bd) => !(decide (b.name=name)))) h11p;have hjl:j<vars.length:=(Aj.1 hx).1;rw [hj];obtain ⟨b_x,o_x,hA_x⟩:=E3 (k:=5) A0 (hV.fr0 M.fr) hx;refine W ?_;refine ya X (AK j hA_x X X X (sl X) A0) (yb X (ya X (AI (xs:=Vl.cells x.v) X X (K6 Bd.len (hV.fr0 M.fr) hA_x hx 1 4 X X) Br X BQ) (BY M 0 X X BQ X λw5 M=>W ?_)));exact FQ X X (M.rdBlk 0 X X) Br X BQ X ⟨by rw [YK,hff];rfl,M.fr⟩
theorem vY (m:Md) (gc:Nat) (c:CrA) (F:List Nat) (via:Kz) (born:Int) (A:Ky) (cv:Nat) (vars:List Bd) (w:Kw) (hC:CourseN w m gc c F) (hvl:vars.length≤4611686018427387904) (hV:Rd w A (vars.length*5) (AE Bd.cells vars)) :
 Calls prog 111 #[pg gc,str via,AA born,.slice A vars.length cv] w (BS w (.tuple #[.agg ((GR c via born vars).1.cells).toArray,AA (GR c via born vars).2])):=by
 refine BR func111 ntmps111 X λM=>W ?_
 refine CI M X K9 λg8 w1 hg8 M=>T8 ?_
 refine yl X X (Blk.c ((hC.fr0 M.fr).blk) 5 X) (yb X (ya X (CD X X X Cx Aa AP ((hC.fr0 M.fr).A) (hC.getA _)) (CI M X AP λg10 w2 hg10 M=>BY M 0 X X AJ X λw3 M=>W ?_)));refine ya X (B7 (parts:=[(0,_),(1,_),(2,_)]) X X (MA _ _ _)) (CI M X K9 λg11 w4 hg11 M=>BY M 0 X X C9 X λw5 M=>W ?_);refine AB X (λh28=>?_) (λh28=>?_)
 ·refine T4 ?_;refine ya X (aE X X X) (yb X (gp1 M 0 X X X FU λw6 M=>W ?_));refine CH M 0 X X Cy C9 X (BY M 2 X X C9 X λw7 M=>W ?_);exact FQ X X (M.rdBlk 2 X X) Cy X C9 X ⟨by rw [GR,if_pos h28]<;>rfl,M.fr⟩
 refine W ?_;refine AB X (λh35=>?_) (λh35=>?_)
 ·refine W ?_;refine CW M 41 X X call174 (pR A cv vars ((c.atf via).key) _ hvl (hV.fr0 M.fr)) λw8 M=>W ?_
  refine CI M X GH λg12 w9 hg12 M=>BY M 0 X X BQ X λw10 M=>W ?_
  refine AB X (λh44=>?_) (λh44=>?_)
  ·refine W ?_;refine ya X (B7 (parts:=[]) X X (UE)) (BY M 3 X X C9 X λw11 M=>W ?_);exact FQ X X (M.rdBlk 3 X X) Cy X C9 X ⟨by rw [GR,AM h28,if_pos h35,if_pos h44]<;>rfl,M.fr⟩
  refine W ?_;refine AB X (λh48=>?_) (λh48=>?_)
  ·refine W ?_;refine ya X (B7 (parts:=[]) X X (UE)) (BY M 3 X X C9 X λw12 M=>W ?_);exact FQ X X (M.rdBlk 3 X X) Cy X C9 X ⟨by rw [GR,AM h28,if_pos h35,AM h44,if_pos h48]<;>rfl,M.fr⟩
  refine W ?_;refine gp1 M 1 X X X GW λw13 M=>W ?_
  refine ya X (AI (xs:=[str via,.int .u8 ((c.atf via).ev.toNat:Int),str ((c.atf via).ref),str (((YK vars ((c.atf via).key)).getD zeroVl).text),AA 0]) X X (M.rdBlk 1 X X) Cy X C9) (BY M 3 X X C9 X λw14 M=>W ?_);exact FQ X X (M.rdBlk 3 X X) Cy X C9 X ⟨by rw [GR,AM h28,if_pos h35,AM h44,AM h48]<;>rfl,M.fr⟩
 refine W ?_;refine CH M 0 X X Cy C9 X (BY M 2 X X C9 X λw15 M=>W ?_);exact FQ X X (M.rdBlk 2 X X) Cy X C9 X ⟨by rw [GR,AM h28,AM h35]<;>rfl,M.fr⟩
end Go.Proofs.YtppmdnmjepkfaaaGreatDoor
