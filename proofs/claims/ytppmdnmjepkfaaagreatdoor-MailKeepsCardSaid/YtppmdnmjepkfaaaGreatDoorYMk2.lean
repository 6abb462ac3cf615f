/- Lemmas. -/
import Derived.Test.YtppmdnmjepkfaaaGreatDoorYMk1
set_option maxHeartbeats 16000000
set_option maxRecDepth 100000
namespace Go.Proofs.YtppmdnmjepkfaaaGreatDoor
open Go.RowKit
open Tryz
open Decidable renaming decide→O
open Option renaming some→G,none→zx
open Bool renaming true→zz,false→zy
open True renaming intro→zw
open Go.Proofs.Tryz renaming prog→zv
open Go renaming Calls→zt,reachBytes→zu
theorem a2W {e:Env} {w:Kw} {o:Oper} {t':Nat} {x y:Lz} {a b:Ht} (h:a=b) (ho:o.op=.binOp .eql 32 x y t') (hx:ev e x=G (.agg a.cells.toArray)) (hy:ev e y=G (.agg b.cells.toArray)):Y zv e o w (.bool zz):=by
 have:=a1q (w:=w) ho hx hy
 subst h
 rwa [show a.same a=zz by simp [Ht.same]] at this
theorem UP {L l:List Mq} (h:L.map Mq.pl=l.map Mq.pl) (hl:∀x∈l,BdOk x.vars):∀x∈L,BdOk x.vars:=λx hx=>by
 obtain ⟨y,hy,e⟩:=tQ h hx;rw [(eY e).2.2.1];exact hl y hy
theorem jR {l:List Mq} {q:Mq} (hl:∀x∈l,BdOk x.vars) (hq:BdOk q.vars):∀x∈l++[q],BdOk x.vars:=λx hx=>by
 rcases Bp.1 hx with h|h
 ·exact hl x h
 rw [Au.1 h];exact hq
theorem a0l {I La:List Mq} {q:Mq} {c:Prop} (h1:c→La.map Mq.pl=(I++[q]).map Mq.pl) (h2:¬c→La=[]) (hI:∀x∈I,BdOk x.vars) (hq:BdOk q.vars):(∀x∈La,BdOk x.vars)∧La.length≤I.length+1:=by
 by_cases hc:c
 ·exact ⟨UP (h1 hc) (jR hI hq),by rw [OX (h1 hc)];simp⟩
 rw [h2 hc];exact ⟨λx hx=>(by cases hx),Aj _⟩
theorem a0F {w:Kw} {b b2 c:Nat} {A:Ky} {L l:List Mq} (ho:w.ownsRow b2 25 4 (.slice A L.length c) L.length (AF Mq.cells L)) (hf:MD b L w) (hp:L.map Mq.pl=l.map Mq.pl) (hb:∀x∈l,x.vars.length*56≤zu) (hl:∀x∈l,BdOk x.vars):Mqs w A L∧(∀x∈L,x.vars.length*56≤zu)∧L.length=l.length:=
 ⟨⟨MV ho,U0 hf (UP hp hl)⟩,λx hx=>by
  obtain ⟨y,hy,e⟩:=tQ hp hx;rw [(eY e).2.2.1];exact hb y hy,OX hp⟩
theorem cJ (k:Int):∀{L l:List Mq},L.map Mq.pl=l.map Mq.pl→(L.filter λx=>O (k<x.un)).map Mq.pl=(l.filter λx=>O (k<x.un)).map Mq.pl
 | [],[],_=>rfl
 | [],_::_,h=>by cases h
 | _::_,[],h=>by cases h
 | x::r,y::s,h=>by
  rw [Cc,Cc,Cx] at h
  rw [Db,Db,(eY h.1).2.2.2]
  split
  ·rw [Cc,Cc,h.1,cJ k h.2]
  exact cJ k h.2
theorem a0T {a b:Mq} (h:a.pl=b.pl) (sg:Bool) (x:Pq) (u:Wt):U9 a sg x u=U9 b sg x u:=by
 obtain ⟨h1,h2,h3,_⟩:=eY h;unfold U9;rw [h1,h2,h3]
theorem lF {a b:Mq} (h:a.pl=b.pl) (sg:Bool) (x:Pq):∀ws,Q0 a sg x ws=Q0 b sg x ws
 | []=>rfl
 | u::r=>by rw [Q0,Q0,a0T h,lF h sg x r]
theorem aV {a b:Mq} (h:a.pl=b.pl) (sg:Bool) (x:Pq) (j:Nat):∀ts hs,LK a sg x j ts hs=LK b sg x j ts hs
 | [],_=>rfl
 | t::r,hs=>by
  have hv:SZ a sg x t=SZ b sg x t:=lF h sg x _;rw [LK,LK,hv,aV h sg x j r,aV h sg x j r]
theorem kV {a b:Mq} (h:a.pl=b.pl):∀(l:List Pq) (j:Nat) (hs:List Ht),M5 a zy l j hs=M5 b zy l j hs
 | [],_,_=>rfl
 | x::r,j,hs=>by rw [M5,M5,aV h,kV h r,kV h r]
theorem uS {H:Mq→List Ht} {ms:List Mq} {j k:Nat} {x:Mq} {h:Ht} {f:Bool} {Wk:List Ht} (hN:GJ H (ms.take j) 0=zx) (hx:ms[j]?=G x) (hW:Wk=H x) (h0:0<Wk.length) (hn:GJ H ms 0=if f=zz then G (k,h) else zx):zz=f∧j=k∧[h]=Wk.take 1:=by
 subst hW
 cases hh:H x with
 | nil=>rw [hh] at h0;simp at h0
 | cons a r=>
  rw [ZM hN hx (by rw [hh];rfl),hh] at hn
  cases f with
  | false=>cases hn
  | true=>
   rw [Ac rfl] at hn
   injection hn with hn
   injection hn with h1 h2
   refine ⟨X,h1,?_⟩;rw [←h2];rfl
theorem a0k {H:Mq→List Ht} {ms:List Mq} {j:Nat} {x:Mq} {Wk:List Ht} (hN:GJ H (ms.take j) 0=zx) (hx:ms[j]?=G x) (hW:Wk=H x) (h0:¬0<Wk.length):GJ H (ms.take (j+1)) 0=zx:=
 fK hN hx (by rw [←hW,Bl (Nat.eq_zero_of_not_pos h0)];rfl)
theorem uT {H:Mq→List Ht} {ms:List Mq} {j k:Nat} {h:Ht} {f:Bool} (hN:GJ H (ms.take j) 0=zx) (hj:ms.length≤j) (hn:GJ H ms 0=if f=zz then G (k,h) else zx):f=zy:=by
 rw [Fu hj] at hN
 rw [hN] at hn
 cases f with
 | false=>rfl
 | true=>cases hn
def As.mfamO (b:Nat) (L:List Mq):As:=⟨wG L,λw=>MD b L w,λh hb x hx=>(As.own b 63 5 _ _ _).keep (λg hg=>h g (Fy.2 ⟨x,hx,hg⟩)) (hb x hx)⟩
theorem Mem.pushFam {w0 w w':Kw} {S:Nat→Prop} {Ls:List As} (M:Mem w0 S Ls w) (hf:Fr0 w w') {n c:Nat} {A:Ky} {xs:Kx} {L:List Mq} (ho:w'.ownsRow w.heap.size 25 4 (.slice A n c) n xs) (hF:MD w.heap.size L w'):Mem w0 S (As.own w0.heap.size 25 4 (.slice A n c) n xs::As.mfamO w0.heap.size L::Ls) w':=by
 have hw:=M.fr.size;exact M.push2 hf _ _ (PN ho hw) (λx hx=>PN (hF x hx) hw) (λg hg=>LV ho g hg) (λg hg=>kG hF g hg) (pS hF ho)
theorem X7 (B:Ky) (cb:Nat) (ms:List Mq) (q:Mq) (A:Ky) (cp:Nat) (l:List Pq) (clock:Int) (w:Kw) (hrM:Rd w B (ms.length*4) (AF Mq.cells ms)) (hoM:∀x∈ms,MqB w x) (hq:MqB w q) (hP:Pqs w A l) (hY:Lay0 w) :
 zt zv 4 #[.slice B ms.length cb,.agg q.cells.toArray,.slice A l.length cp,AA clock] w (BR w (.bool zz)):=by
 have hqb:=hq.vb;have hn:(q.nm.length:Int)<4611686018427387904:=by have:=hq.nb;simp only [zu] at this;omega
 have hk:(q.key.length:Int)<4611686018427387904:=by have:=hq.kb;simp only [zu] at this;omega
 replace hq:=hq.ok
 have hbM:∀x∈ms,x.vars.length*56≤zu:=λx hx=>(hoM x hx).vb
 have hM:Mqs w B ms:=⟨hrM,λx hx=>(hoM x hx).ok⟩
 clear hrM hoM
 refine BO func4 ntmps4 X λM=>W ?_
 refine CZ M kw X X 25 X X (q.cells) X λg5 w1 hg5 M=>W ?_
 refine CQ M 26 X X call5 (oV A cp l _ (hP.fr0 M.fr)) λw2 M=>yb X (fvm M 4 [5,3,2,0] [(31,.bool ((X9 l) || (O (70<(ms.length:Int)))))] ?_ (λk27=>?_))
 ·intro w3 M;refine W ?_;refine AC X (λh31=>?_) (λh31=>?_)
  ·have h31p:=bd h31;refine W ?_;exact gr1 X ⟨X,M.fr⟩
  have h31p:=bd h31;obtain ⟨h8,hbig⟩:=oW h31p.1;have hml:ms.length≤70:=by have:=h31p.2;omega
  refine W ?_;refine cl 33 X (AE X X call12) (WM B cb ms _ A0 hbM (hM.fr0 M.fr)) ?_;rintro _ w4 ⟨I,AI,cI,rfl,hoI,hfI,hpI,hfw4⟩;refine cq ?_;have M:=M.step hfw4;obtain ⟨hI,hbI,hlI⟩:=a0F hoI hfI hpI hbM (λx hx=>(hM.ok x hx).ok)
  replace hI:Mqs w4 AI I:=hI
  have hB:Blk _ g5 25 q.cells:=M.blk 0 X;have hfw:=M.fr
  replace hM:=hM.fr0 M.fr
  replace hq:=hq.fr0 M.fr
  replace hP:=hP.fr0 M.fr
  replace hY:=hY.fr0 M.fr
  clear M
  rename Kw=>w
  have M:=a3i w;refine W ?_;refine ya X (AJ (xs:=q.cells) X X (DO (hB.fr0 M.fr) 0 4 X X) Cl X C4) (cl 37 X (AE X X call13) (a0j AI cI I q _ A0 hbI (hI.fr0 M.fr) hqb hn hk (hq.fr0 M.fr) (hY.fr0 M.fr).utf) ?_);rintro _ w5 ⟨La,Aa,ca,rfl,hoa,hfa,⟨hpa1,hpa2⟩,hfw5⟩;obtain ⟨er,her⟩:∃er:Int,er=(if MW q=zz then (if 64≤I.length then 3 else 0) else 1):=⟨_,X⟩
  rw [←her];refine cq ?_;have M:=M.pushFam hfw5 hoa hfa;obtain ⟨hbLa,hlLa⟩:=a0l hpa1 hpa2 (λx hx=>(hI.ok x hx).ok) hq.ok;refine W ?_;refine ya X (AJ (xs:=q.cells) X X (DO (hB.fr0 M.fr) 0 4 X X) Cl X C4) (CQ M 41 X X call14 (sW q _ hn hk (hq.fr0 M.fr)) λw6 M=>W ?_);refine ya X (AJ (xs:=q.cells) X X (DO (hB.fr0 M.fr) 0 4 X X) Cl X C4) (CQ M 43 X X call15 (TP q _ hn hk (hq.fr0 M.fr) (hY.fr0 M.fr).utf) λw7 M=>W ?_);refine ya X (SV X X X Eq) (yb X (fvm M 8 [12,11,10,9,5,3,2,0] [(55,.bool ((!((O ((if MW q=zz then 0 else 1)=(0:Int)))==(MW q))) || ((!(MW q))&&(!decide ((if MW q=zz then 0 else 1)=(1:Int))))))] ?_ (λk47=>?_)))
  ·intro w8 M;refine W ?_;refine AC X (λh55=>?_) (λh55=>?_)
   ·have h55p:=bd h55;exact absurd h55 (by cases MW q<;>decide)
   have h55p:=bd h55;refine T3 ?_;refine JL ([(0,.slice B ms.length cb),(2,.slice A l.length cp),(3,AA clock),(9,.slice AI I.length cI),(10,.slice Aa La.length ca)]) (λw'=>Mem w AR [As.own w.heap.size 25 4 (.slice Aa La.length ca) La.length (AF Mq.cells La),As.mfamO w.heap.size La] w') ?_ (λkj0=>?_)
   ·intro w9 M;refine W ?_;have M:=M.upd 1 X Fr.refl (As.mfam La) (λx hx=>eJ ((M.ok 1 _ X:MD _ _ _) x hx)) (λg hg=>.inl hg);refine EC M [10,9,3,2,0] (λze zF e wr mz=>∃(j:Nat),e=(13,AA (j:Int))::ze∧zF wr∧(j≤La.length)∧mz=La.length-j) ⟨0,X,M,Aj _,X⟩ ?_;rintro _ w10 _ ⟨j,rfl,M,hj,rfl⟩;refine W ?_;refine AC X (λh92=>?_) (λh92=>?_)
    ·have h92p:=odt h92;refine W ?_;obtain ⟨y,_,_,hy,hA_y⟩:=ex5 (l:=La) (k:=4) (i:=j) (M.rdOwn 0 X);have hyl:=(hbLa _ (Ah hy)).len;refine EC M [13,10,9,3,2,0] (λze zF e wr mz=>∃(k:Nat),e=(14,AA (k:Int))::ze∧zF wr∧(k≤y.vars.length)∧mz=y.vars.length-k) ⟨0,X,M,Aj _,X⟩ ?_;rintro _ w11 _ ⟨k,rfl,M,hk9,rfl⟩;refine W ?_;refine ya X (AK j hA_y X X X (sl X) A0) (yb X (yl X X (BC Mq.len (M.rdOwn 0 X) hA_y hy 2 X) (W ?_)));refine AC X (λh102=>?_) (λh102=>?_)
     ·have h102p:=odt h102;refine W ?_;refine ya X (AK j hA_y X X X (sl X) A0) (yb X (yl X X (BC Mq.len (M.rdOwn 0 X) hA_y hy 2 X) (yb X ?_)));obtain ⟨g,cs,hgA,hgb,hgl⟩:=wF (M.ok 1 _ X) (Ah hy) A0;refine ya X (AK k hgA X X X (sl X) A0) (yb X (dP M 1 kw X X X X X (Ah hy) hgA X X G4 A0 λw12 M=>W ?_));refine fag ⟨k+1,X,M,?_,X⟩
      ·omega
     have h102p:=odf h102;refine W ?_;refine fag ⟨j+1,X,M,?_,X⟩
     ·omega
    have h92p:=odf h92;refine W ?_;have M:=M.nilOwn 25 4;refine flp [9,3,2,0] (λze e wr mz=>∃(j:Nat) (fr:List Mq) (A4:Ky) (c4:Nat),e=(15,.slice A4 fr.length c4)::(16,AA (j:Int))::ze∧Mem w AR [As.own w.heap.size 25 4 (.slice A4 fr.length c4) fr.length (AF Mq.cells fr)] wr∧(j≤ms.length)∧(fr=(ms.take j).filter (λx=>O (clock<x.un)))∧(fr.length≤j)∧mz=ms.length-j) ⟨0,[],zx,0,X,(M.pk [0]),Aj _,X,Af _,X⟩ ?_;rintro _ w13 _ ⟨j,fr,A4,c4,rfl,M,hj,hfr,hfl,rfl⟩;refine W ?_;refine AC X (λh116=>?_) (λh116=>?_)
    ·have h116p:=odt h116;refine W ?_;obtain ⟨x,hx⟩:=EJ (l:=ms) (i:=j) A0;obtain ⟨b_x,o_x,hA_x⟩:=DR (k:=4) A0 ((hM.fr0 M.fr).rd) hx;refine ya X (AK j hA_x X X X (sl X) A0) (yb X (yl X X (BC Mq.len ((hM.fr0 M.fr).rd) hA_x hx 3 X) (W ?_)));refine AC X (λh125=>?_) (λh125=>?_)
     ·have h125p:=odt h125;refine W ?_;refine ya X (AK j hA_x X X X (sl X) A0) (ya X (AJ X X (BF Mq.len ((hM.fr0 M.fr).rd) hA_x hx) Cl X C4) (CP M kw X X [.agg (Mq.cells x).toArray] (Mq.cells x) X X X X Cw GD X X (FZ X) X λg131 w14 hg131 M=>CD (len':=(fr++[x]).length) (xs':=AF Mq.cells (fr++[x])) M 1 kw X X X X X X (M.rdBlk 0 X X) Cw EV X AV (BN X) (Af _) (Af _) D4 (by unfold maxLen;first|omega|(simp;omega)) (by first|(simp;done)|(simp;omega)) (by first|exact (AY _ _ _).symm|rfl|simp [AF]) λA132 c132 w15 M=>W ?_));refine fag ⟨j+1,fr++[x],A132,c132,X,(M.pk [1]),?_,?_,?_,X⟩
      ·omega
      ·rw [AT hx,Cm,←hfr]
       first
        | (rw [Cs (by simpa using h125p)];rfl)
        | (rw [Ct (by simpa using h125p)];simp)
      first
       | omega
       | (simp;omega)
     have h125p:=odf h125;refine W ?_;refine fag ⟨j+1,fr,A4,c4,X,M,?_,?_,?_,X⟩
     ·omega
     ·rw [AT hx,Cm,←hfr]
      first
       | (rw [Cs (by simpa using h125p)];rfl)
       | (rw [Ct (by simpa using h125p)];simp)
     first
      | omega
      | (simp;omega)
    have h116p:=odf h116;refine W ?_;obtain rfl:j=ms.length:=A0
    rw [Bc] at hfr
    refine W ?_;refine cl 135 X (AE X X call17) (pJ AI cI I clock _ A0 hbI (hI.fr0 M.fr)) ?_;rintro _ w16 ⟨Lb,Ab,cb2,rfl,hob,hfb,hpb,hfw16⟩;refine cq ?_;have M:=M.pushFam hfw16 hob hfb;have hlb:Lb.length≤I.length:=by have:=OX hpb;rw [this];exact Dy _ _
    have hbLb:=UP hpb (λx hx=>(hI.ok x (De.1 hx).1).ok);refine W ?_;refine CQ M 138 X X call16 (K1 Ab A4 cb2 c4 Lb.length fr.length Lb fr _ (hpb.trans ((cJ _ hpI).trans (by rw [←hfr]))) X X A0 ⟨M.rdOwn 0 X,U0 (M.ok 1 _ X) (UP hpb (λx hx=>(hI.ok x (De.1 hx).1).ok))⟩ ⟨M.rdOwn 2 X,λx hx=>(hM.fr0 M.fr).ok x (by rw [hfr] at hx;exact (De.1 hx).1)⟩) λw17 M=>W ?_
    refine sxl_call (G 143) kw X X (AE X X call16) (K1 AI B cI cb I.length ms.length I ms _ hpI X X A0 (hI.fr0 M.fr) (hM.fr0 M.fr)) ?_;rintro _ w18 ⟨rfl,hfw18⟩;refine cq ?_;have M:=M.step hfw18;refine W ?_;have M:=M.upd 1 X Fr.refl (As.mfam Lb) (λx hx=>eJ ((M.ok 1 _ X:MD _ _ _) x hx)) (λg hg=>.inl hg);refine EC M [17,9,2,0] (λze zF e wr mz=>∃(j:Nat),e=(18,AA (j:Int))::ze∧zF wr∧(j≤Lb.length)∧mz=Lb.length-j) ⟨0,X,M,Aj _,X⟩ ?_;rintro _ w19 _ ⟨j,rfl,M,hj,rfl⟩;refine W ?_;refine AC X (λh149=>?_) (λh149=>?_)
    ·have h149p:=odt h149;refine W ?_;obtain ⟨z,_,_,hz,hA_z⟩:=ex5 (l:=Lb) (k:=4) (i:=j) (M.rdOwn 0 X);have hzl:=(hbLb _ (Ah hz)).len;refine EC M [18,17,9,2,0] (λze zF e wr mz=>∃(k:Nat),e=(19,AA (k:Int))::ze∧zF wr∧(k≤z.vars.length)∧mz=z.vars.length-k) ⟨0,X,M,Aj _,X⟩ ?_;rintro _ w20 _ ⟨k,rfl,M,hk9,rfl⟩;refine W ?_;refine ya X (AK j hA_z X X X (sl X) A0) (yb X (yl X X (BC Mq.len (M.rdOwn 0 X) hA_z hz 2 X) (W ?_)));refine AC X (λh159=>?_) (λh159=>?_)
     ·have h159p:=odt h159;refine W ?_;refine ya X (AK j hA_z X X X (sl X) A0) (yb X (yl X X (BC Mq.len (M.rdOwn 0 X) hA_z hz 2 X) (yb X ?_)));obtain ⟨g,cs,hgA,hgb,hgl⟩:=wF (M.ok 1 _ X) (Ah hz) A0;refine ya X (AK k hgA X X X (sl X) A0) (yb X (dP M 1 kw X X X X X (Ah hz) hgA X X G4 A0 λw21 M=>W ?_));refine fag ⟨k+1,X,M,?_,X⟩
      ·omega
     have h159p:=odf h159;refine W ?_;refine fag ⟨j+1,X,M,?_,X⟩
     ·omega
    have h149p:=odf h149;refine W ?_;refine cl 173 X (AE X X call6) (eZ A cp l _ (hP.fr0 M.fr) hbig h8 (hY.fr0 M.fr)) ?_;rintro _ w22 ⟨L,AL,cL,rfl,hoL,hokL,hmL,hlL,hsL,hfw22⟩;refine cq ?_;have M:=M.step hfw22;have hPt:Pts w22 AL L:=⟨MV hoL,hokL,A0⟩;have hLl:=hPt.len
    replace hfw:=hfw.trans M.fr
    replace hM:=hM.fr0 M.fr
    replace hq:=hq.fr0 M.fr
    replace hP:=hP.fr0 M.fr
    replace hY:=hY.fr0 M.fr
    replace hI:=hI.fr0 M.fr
    clear M
    rename Kw=>w
    have M:=a3i w;refine cl 174 X (AE X X call18) (uB AI cI I AL cL L (λq=>M5 q zy l 0 []) _ (hI.fr0 M.fr) (hPt.fr0 M.fr) (λss q hss=>kU hPt.ok hsL hmL hss (a3v q)) A0 (hY.fr0 M.fr)) ?_;rintro _ w23 ⟨rfl,hfw23⟩;obtain ⟨k2,h2,f2,hn2,hz2,hv2⟩:=oN (GJ (λq=>M5 q zy l 0 []) I 0);rw [hv2];rw [fJ (H:=(λq=>M5 q zy l 0 [])) (λa b h=>kV h l 0 []) hpI] at hn2
    refine cq ?_;have M:=M.step hfw23;refine W ?_;refine CE M X KE λg21 w24 hg21 M=>yb X (BX M 0 X X DM X λw25 M=>W ?_)
    refine EC M [22,21,20,9,2,0] (λze zF e wr mz=>∃(j:Nat),e=(23,AA (j:Int))::ze∧zF wr∧(j≤ms.length∧j≤20)∧(GJ (λq=>M5 q zy l 0 []) (ms.take j) 0=zx)∧mz=ms.length-j) ⟨0,X,M,⟨Aj _,Aj _⟩,X,X⟩ ?_;rintro _ w26 _ ⟨j,rfl,M,hj,hN,rfl⟩;refine W ?_;refine fvm M 3 [23,22,21,20,9,2,0] [(185,.bool ((O ((j:Int)<(ms.length:Int)))&&(O ((j:Int)<20))))] ?_ (λk182=>?_)
    ·intro w27 M;refine W ?_;refine AC X (λh185=>?_) (λh185=>?_)
     ·have h185p:=bd h185;refine W ?_;obtain ⟨x,_,_,hx,hA_x⟩:=ex5 (i:=j) ((hM.fr0 M.fr).rd);refine ya X (AK j hA_x X X X (sl X) A0) (ya X (AJ X X (BF Mq.len ((hM.fr0 M.fr).rd) hA_x hx) Cl X C4) (ND M 193 X (AE X X call7) (oD A cp l zy x _ (hP.fr0 M.fr) hbig h8 ((hM.fr0 M.fr).ok _ (Ah hx))) λAB cB w28 M=>?_));obtain ⟨Wk,hW⟩:∃Wk,Wk=M5 x zy l 0 []:=⟨_,X⟩
      rw [←hW] at M ⊢
      refine W ?_;refine AC X (λh196=>?_) (λh196=>?_)
      ·have h196p:=odt h196;obtain ⟨rfl,rfl,ht0⟩:=uS hN hx hW A0 hn2;refine sx_seq (I0 M 19 CA λM=>oc 0 19 X X M (oc 1 19 X X M (ob 2 19 X kw X X M (λ_ M=>yp X) (ob 3 19 X kw X X M (λ_ M=>yp X) (ob 4 19 X kw X X M (λ_ M=>ES X X X) (oc 5 19 X X M (oc 6 19 X X M (CC (d:=203) X (λh203=>?_) (λh203=>?_)))))))))
       ·have h203p:=odt h203;refine ob 7 19 X kw X X M (λ_ M=>AJ (xs:=Ht.cells h2) X X (M.rdBlk 1 X X) Er X DM) (ob 9 19 X kw X X M (λ_ M=>yp X) ?_);have hcp:=M.ownCap 0 X;refine ob 10 19 X kw X X M (λ_ M=>qJ 1 X X X (sl X) A0) (B7 8 (G 205) zr X kw X X (λρ hρ=>CX [.agg (Ht.cells h2).toArray] _ hρ X X X X underlying36 bZ AV AV (FZ X)) ?_);rintro _ w29 ⟨g205,rfl,hg205,hq205,hb205,hfw29⟩
        replace hb205:Blk w29 g205 32 ((Ht.cells h2)):=hb205
        refine ⟨λ_=>M.step hfw29,?_⟩;have M:=M.push hfw29 _ hb205 (CR hg205 hq205)
        replace M:Mem w AR (As.blk g205 32 ((Ht.cells h2))::_) w29:=M
        refine BB 11 (G 208) zr X kw X X (AE X X call9) (jV (G ⟨g205,0,zx⟩) AB 1 cB 1 [h2] (Wk.take 1) _ ht0 X (by simp) (zK (M.rdBlk 0 X X)) (sV ht0 (M.rdOwn 1 X) A0)) ?_;rintro _ w30 ⟨rfl,hfw30⟩;refine ⟨_,X,λ_=>(M.drop 1).step hfw30,?_⟩;have M:=M.step hfw30;refine oc 12 19 X X (M.drop 1) (oc 13 19 X X (M.drop 1) (ob 14 19 X kw X X (M.drop 1) (λ_ M=>yp X) (ob 15 19 X kw X X (M.drop 1) (λ_ M=>yp X) (BB 16 (G 213) zr X kw X X (AE X X call16) (K1 AI B cI cb I.length ms.length I ms _ hpI X X A0 (hI.fr0 M.fr) (hM.fr0 M.fr)) ?_))));rintro _ w31 ⟨rfl,hfw31⟩;refine ⟨_,X,λ_=>(M.drop 1).step hfw31,?_⟩;have M:=M.step hfw31;refine oc 17 19 X X (M.drop 1) (oc 18 19 X X (M.drop 1) (fdn (W ?_)));exact gr1 X ⟨X,hfw.trans M.fr⟩
       exact absurd h203 (by simp)
      have h196p:=odf h196;refine W ?_;refine fag ⟨j+1,X,(M.pk [1]),?_,?_,X⟩
      ·omega
      exact a0k hN hx hW A0
     have h185p:=bd h185;refine W ?_;refine A1 (d:=218) X (λh218=>?_) (λh218=>?_)
     ·have h218p:=odt h218;refine W ?_;refine sxl_call (G 234) kw X X (AE X X call16) (K1 AI B cI cb I.length ms.length I ms _ hpI X X A0 (hI.fr0 M.fr) (hM.fr0 M.fr)) ?_;rintro _ w32 ⟨rfl,hfw32⟩;refine cq ?_;have M:=M.step hfw32;refine W ?_;exact gr1 X ⟨X,hfw.trans M.fr⟩
     have h218p:=odf h218;obtain rfl:f2=zy:=uT hN A0 hn2;obtain ⟨rfl,hz0⟩:=hz2 X;refine W ?_;refine yd X (AJ (xs:=Ht.cells h2) X X (M.rdBlk 0 X X) Er X DM) (yd X (B8 (parts:=[]) X X (P8)) (yd X (a2W hz0 X X X) (W ?_)));refine sxl_call (G 234) kw X X (AE X X call16) (K1 AI B cI cb I.length ms.length I ms _ hpI X X A0 (hI.fr0 M.fr) (hM.fr0 M.fr)) ?_;rintro _ w33 ⟨rfl,hfw33⟩;refine cq ?_;have M:=M.step hfw33;refine W ?_;exact gr1 X ⟨X,hfw.trans M.fr⟩
    refine A1 (d:=182) X (λh182=>?_) (λh182=>?_)
    ·refine T3 ?_;exact k182 M
    refine T3 ?_;exact k182 M
   refine W ?_;refine AC X (λh68=>?_) (λh68=>?_)
   ·have h68p:=CJ h68;have hm:MW q=zy:=by simpa using h68
    have hLa:La=[]:=hpa2 (λh=>by rw [hm] at h;cases h.1);obtain rfl:er=1:=by rw [her,hm];rfl
    refine W ?_;refine AC X (λh77=>?_) (λh77=>?_)
    ·exact absurd h77 (by rw [hLa];decide)
    refine T2 ?_;exact kj0 _ _ M ⟨X,X,X,X,X,zw⟩
   have h68p:=BL h68;refine W ?_;refine AC X (λh78=>?_) (λh78=>?_)
   ·have h78p:=odt h78;have hm:MW q=zz:=by simpa using h68
    have hl:64≤I.length:=A0
    have hLa:La=[]:=hpa2 (λh=>A0);obtain rfl:er=3:=by rw [her,Ac hm,Ac hl]
    refine W ?_;refine AC X (λh88=>?_) (λh88=>?_)
    ·exact absurd h88 (by rw [hLa];decide)
    refine T2 ?_;exact kj0 _ _ M ⟨X,X,X,X,X,zw⟩
   have h78p:=odf h78;have hm:MW q=zz:=by simpa using h68
   have hl:¬64≤I.length:=A0
   have hpa:=hpa1 ⟨hm,A0⟩;obtain rfl:er=0:=by rw [her,Ac hm,Ae hl]
   refine sx_seq (I0 M 12 CA λM=>oc 0 12 X X M (oa 1 12 X X M (λ_ M=>KT X X X) (oc 2 12 X X M (ob 3 12 X kw X X M (λ_ M=>yp X) (ob 4 12 X kw X X M (λ_ M=>yp X) (ob 6 12 X kw X X M (λ_ M=>AJ (xs:=q.cells) X X (DO (hB.fr0 M.fr) 0 4 X X) Cl X C4) (FM (rs:=[5,7]) zr (by simp) λiz hiz=>?_)))))));simp only [Ao,Ba,or_false] at hiz
   rcases hiz with rfl|rfl
   ·refine GT (G 61) X kw X X (AE X X call12) (WM B cb ms _ A0 hbM (hM.fr0 M.fr)) ?_;rintro _ w34 ⟨I2,AI2,cI2,rfl,hoI2,hfI2,hpI2,hfw34⟩;refine ⟨_,X,λ_=>M.step hfw34,?_⟩;have M:=M.pushFam hfw34 hoI2 hfI2;have hlI2:I2.length=ms.length:=OX hpI2;refine B7 7 (G 63) zr X kw X X (λρ hρ=>CX [.agg (q.cells).toArray] _ hρ X X X X Cw GD AV AV (FZ X)) ?_;rintro _ w35 ⟨g63,rfl,hg63,hq63,hb63,hfw35⟩
    replace hb63:Blk w35 g63 25 (q.cells):=hb63
    refine ⟨λ_=>(M.drop 2).step hfw35,?_⟩;have M:=M.push hfw35 _ hb63 (CR hg63 hq63)
    replace M:Mem w AR (As.blk g63 25 (q.cells)::_) w35:=M
    refine B7 8 (G 64) zr X kw X X (λρ hρ=>D2 _ _ _ X w.heap.size _ _ _ _ Cw EV X AV _ _ _ (hρ _ _ X) (M.own 1 X) _ _ _ _ (hρ _ _ X) (M.rdBlk 0 X X) ((Mq.cells_one _)) (by unfold maxLen;first|omega|(simp;omega)) D4 M.fr.size) ?_;rintro v64 w36 ⟨ho64,hgr64,hvb64⟩
    replace ho64:World.ownsRow w36 w.heap.size 25 4 v64 ((I2++[q]).length) (AF Mq.cells (I2++[q])):=by rw [show ((I2++[q]).length)=I2.length+1 from by first|(simp;done)|(simp;omega),show (AF Mq.cells (I2++[q]))=(AF Mq.cells I2)++q.cells from by first|exact AY _ _ _|simp [AF]];exact ho64
    have M:=M.appOwn 1 X ho64 hgr64 hvb64;obtain ⟨A64,c64,rfl,_⟩:=DH ho64;refine ⟨λ_=>(M.drop 3),BB 9 (G 65) zr X kw X X (AE X X call16) (K1 Aa A64 ca c64 La.length (I2++[q]).length La (I2++[q]) _ (hpa.trans (by rw [Bu,Bu,hpI,hpI2])) X X (by have:=OX hpa;simp at this;omega) ⟨M.rdOwn 3 X,U0 (M.ok 4 _ X) (UP hpa (jR (λx hx=>(hI.ok x hx).ok) hq.ok))⟩ ⟨M.rdOwn 1 X,TN (U0 (M.ok 2 _ X) (UP hpI2 (λx hx=>(hM.ok x hx).ok))) (hq.fr0 M.fr)⟩) ?_⟩;rintro _ w37 ⟨rfl,hfw37⟩;refine ⟨_,X,λ_=>(M.drop 3).step hfw37,?_⟩;have M:=M.step hfw37;refine ob 10 12 X kw X X (M.drop 3) (λ_ M=>yp X) (oc 11 12 X X (M.drop 3) (fdn (T4 ?_)));exact kj0 _ _ (M.drop 3) ⟨X,X,X,X,X,zw⟩
   refine DP (G 63) X kw X X (λρ hρ=>CX [.agg (q.cells).toArray] _ hρ X X X X Cw GD AV AV (FZ X)) ?_;rintro _ w38 ⟨g63,rfl,hg63,hq63,hb63,hfw38⟩
   replace hb63:Blk w38 g63 25 (q.cells):=hb63
   refine ⟨λ_=>M.step hfw38,?_⟩;have M:=M.push hfw38 _ hb63 (CR hg63 hq63)
   replace M:Mem w AR (As.blk g63 25 (q.cells)::_) w38:=M
   refine BB 5 (G 61) zr X kw X X (AE X X call12) (WM B cb ms _ A0 hbM (hM.fr0 M.fr)) ?_;rintro _ w39 ⟨I2,AI2,cI2,rfl,hoI2,hfI2,hpI2,hfw39⟩;refine ⟨_,X,λ_=>(M.drop 1).step hfw39,?_⟩;have M:=M.pushFam hfw39 hoI2 hfI2;have hlI2:I2.length=ms.length:=OX hpI2;refine B7 8 (G 64) zr X kw X X (λρ hρ=>D2 _ _ _ X w.heap.size _ _ _ _ Cw EV X AV _ _ _ (hρ _ _ X) (M.own 0 X) _ _ _ _ (hρ _ _ X) (M.rdBlk 2 X X) ((Mq.cells_one _)) (by unfold maxLen;first|omega|(simp;omega)) D4 M.fr.size) ?_;rintro v64 w40 ⟨ho64,hgr64,hvb64⟩
   replace ho64:World.ownsRow w40 w.heap.size 25 4 v64 ((I2++[q]).length) (AF Mq.cells (I2++[q])):=by rw [show ((I2++[q]).length)=I2.length+1 from by first|(simp;done)|(simp;omega),show (AF Mq.cells (I2++[q]))=(AF Mq.cells I2)++q.cells from by first|exact AY _ _ _|simp [AF]];exact ho64
   have M:=M.appOwn 0 X ho64 hgr64 hvb64;obtain ⟨A64,c64,rfl,_⟩:=DH ho64;refine ⟨λ_=>(M.drop 3),BB 9 (G 65) zr X kw X X (AE X X call16) (K1 Aa A64 ca c64 La.length (I2++[q]).length La (I2++[q]) _ (hpa.trans (by rw [Bu,Bu,hpI,hpI2])) X X (by have:=OX hpa;simp at this;omega) ⟨M.rdOwn 3 X,U0 (M.ok 4 _ X) (UP hpa (jR (λx hx=>(hI.ok x hx).ok) hq.ok))⟩ ⟨M.rdOwn 0 X,TN (U0 (M.ok 1 _ X) (UP hpI2 (λx hx=>(hM.ok x hx).ok))) (hq.fr0 M.fr)⟩) ?_⟩;rintro _ w41 ⟨rfl,hfw41⟩;refine ⟨_,X,λ_=>(M.drop 3).step hfw41,?_⟩;have M:=M.step hfw41;refine ob 10 12 X kw X X (M.drop 3) (λ_ M=>yp X) (oc 11 12 X X (M.drop 3) (fdn (T4 ?_)));exact kj0 _ _ (M.drop 3) ⟨X,X,X,X,X,zw⟩
  refine A1 (d:=47) X (λh47=>?_) (λh47=>?_)
  ·refine T8 ?_;exact k47 M
  refine W ?_;refine fvm M 4 [47,12,11,10,9,5,3,2,0] [(54,.bool ((!(MW q))&&(!decide ((if MW q=zz then 0 else 1)=(1:Int)))))] ?_ (λk50=>?_)
  ·intro w42 M;exact yb X (k47 M)
  refine A1 (d:=50) X (λh50=>?_) (λh50=>?_)
  ·refine yd X (AJ (xs:=q.cells) X X (DO (hB.fr0 M.fr) 0 4 X X) Cl X C4) (sxl_call (G 52) kw X X (AE X X call15) (TP q _ hn hk (hq.fr0 M.fr) (hY.fr0 M.fr).utf) ?_);rintro _ w43 ⟨rfl,hfw43⟩;refine cq ?_;have M:=M.step hfw43;refine T2 ?_;exact k50 M
  refine T4 ?_;exact k50 M
 refine A1 (d:=27) X (λh27=>?_) (λh27=>?_)
 ·refine T4 ?_;exact k27 M
 refine T4 ?_;exact k27 M
end Go.Proofs.YtppmdnmjepkfaaaGreatDoor
