/- Lemmas. -/
import Derived.Test.YtppmdnmjepkfaaaGreatDoorYSp0
set_option maxHeartbeats 16000000
set_option maxRecDepth 100000
namespace Go.Proofs.YtppmdnmjepkfaaaGreatDoor
open Go.RowKit
open Tryz
open Decidable renaming decide→O
open Option renaming some→G,none→zx
open True renaming intro→zw
open Go.Proofs.Tryz renaming prog→zv
open Go renaming Calls→zt
theorem mI (g n cp:Nat) (fc:FuncId) (fq:St→St→Int) (f:St→Int) (rs:Kx) (a b:Nat) (hfc:∀(ar:Array Kv) (w:Kw),(callFunc fc ar).run zv w=.ok (.enter fc ar) w) (hcmp:∀(a b:St) (w:Kw),zt zv fc #[.agg a.cells.toArray,.agg b.cells.toArray] w (BR w (AA (fq a b)))) (hfq:∀a b,fq a b<0↔f a<f b) (hm:n≤1000000000) (l:List St) (w:Kw) (hb:Blk w g 127 (AF St.cells l++rs)) (hn:l.length=n) (hab:a≤b) (hbn:b≤n) :
 zt zv 206 #[.slice (G ⟨g,0,zx⟩) n cp,AA ((a:Nat):Int),AA ((b:Nat):Int),.func (.func fc) #[] #[]] w λe w'=>e=.returned (.tuple #[])∧∃l':List St,l'.Perm l∧(Isd f l l' a b)∧Blk w' g 127 (AF St.cells l'++rs)∧Fr (λk=>k=g) w w':=by
 have hp_l:l.Perm l:=Fg _;have hn_l:l.length=n:=hn;refine sx_enter (vs:=[_,_,_,_]) func206 X ntmps206 X ?_;have M:Mem w (λk=>k=g) [As.blk g 127 (AF St.cells l++rs)] w:=Mem.one hb;refine V ?_;refine D3 X X (V ?_);refine flp [3,2,1,0] (λze e wr mz=>∃(i:Nat) (l1:List St),e=(8,AA (i:Int))::ze∧Mem w (λk=>k=g) [As.blk g 127 (AF St.cells l1++rs)] wr∧(a+1≤i∧i≤b+1)∧(InI f l a b i l1)∧(l1.Perm l)∧(l1.length=n)∧mz=b+1-i) ⟨(a+1),l,X,M,⟨Af _,A0⟩,InI.start l a b,hp_l,hn_l,X⟩ ?_;rintro _ w1 _ ⟨i,l1,rfl,M,hi,hI,hp_l1,hn_l1,rfl⟩;refine V ?_;refine G1 X X (V ?_);refine AC X (λh14=>?_) (λh14=>?_)
 ·have h14p:=odt h14;refine V ?_;refine flp [8,3,2,1,0] (λze e wr mz=>∃(j:Nat) (l2:List St),e=(9,AA (j:Int))::ze∧Mem w (λk=>k=g) [As.blk g 127 (AF St.cells l2++rs)] wr∧(j≤i)∧(InJ f l a b i j l2)∧(l2.Perm l)∧(l2.length=n)∧mz=j+1) ⟨i,l1,X,M,Af _,hI.j,hp_l1,hn_l1,X⟩ ?_;rintro _ w2 _ ⟨j,l2,rfl,M,hj,hJ,hp_l2,hn_l2,rfl⟩;refine V ?_;refine DZ 14 CA zr ?_;have M:=M.drew;refine V ?_;refine sa X (LG X X X) (sb X (C3 (d:=21) X (λh21=>?_) (λh21=>?_)))
  ·have h21p:=odt h21;refine V ?_;refine gsg X (AK j X X X X (sl X) A0) ?_;obtain ⟨x1,hx1⟩:=EJ (l:=l2) (i:=j) A0;refine gsg X (AJ (xs:=St.cells x1) X X (BF St.len (IC St.len (M.blk 0 X)) X hx1) Dc X C0) (V ?_);refine gsg X (ER (a:=j) (b:=1) X X X A0 A0) (gsg X (AK (j-1) X X X X (sl X) A0) ?_);obtain ⟨x2,hx2⟩:=EJ (l:=l2) (i:=j-1) A0;refine gsg X (AJ (xs:=St.cells x2) X X (BF St.len (IC St.len (M.blk 0 X)) X hx2) Dc X C0) (DA (sxl_call (G 32) kw X X (C7 X X X hfc) (hcmp _ _ _) ?_));rintro _ w3 ⟨rfl,hfw3⟩;refine cq ?_;have M:=M.step hfw3;refine yd X (HL X X X) (V ?_);refine AC X (λh34=>?_) (λh34=>?_)
   ·have h34p:=odt h34;refine V ?_;refine EO 18 (λ_=>True) CA ?_;have M:=M.drew;refine oa 0 18 X X zw (λ_ _=>yp X) (oa 1 18 X X zw (λ_ _=>yp X) (oa 2 18 X X zw (λ_ _=>yp X) (oa 3 18 X X zw (λ_ _=>yp X) (oa 4 18 X X zw (λ_ _=>ER (a:=j) (b:=1) X X X A0 A0) (oa 5 18 X X zw (λ_ _=>yp X) (oa 6 18 X X zw (λ_ _=>yp X) (oa 7 18 X X zw (λ_ _=>ER (a:=j) (b:=1) X X X A0 A0) (oa 8 18 X X zw (λ_ _=>AK (j-1) X X X X (sl X) A0) (oa 10 18 X X zw (λ_ _=>yp X) (oa 11 18 X X zw (λ_ _=>yp X) (oa 12 18 X X zw (λ_ _=>AK j X X X X (sl X) A0) (NU 14 (λw'=>Mem w (λk=>k=g) [As.blk g 127 (AF St.cells l2++rs)] w') ?_))))))))))));obtain ⟨x3,hx3⟩:=EJ (l:=l2) (i:=j-1) A0;refine IX 9 zr (λc a t v w h=>by cases t<;>exact h) zr zr zr X kw X X M (λ_ M=>AJ (xs:=St.cells x3) X X (BF St.len (IC St.len (M.blk 0 X)) X hx3) Dc X C0) ?_;obtain ⟨x4,hx4⟩:=EJ (l:=l2) (i:=j) A0;refine IX 13 zr (λc a t v w h=>by cases t<;>exact h) zr zr zr X kw X X M (λ_ M=>AJ (xs:=St.cells x4) X X (BF St.len (IC St.len (M.blk 0 X)) X hx4) Dc X C0) (fo1 14 X X (AK j X X X X (sl X) A0) (B7 15 zx zr X kw X X (λρ hρ=>BZ 127 _ _ X g (0+j*10) 127 (AF St.cells l2++rs) (St.cells x3) (hρ _ _ X) (hρ _ _ X) (M.blk 0 X) C0 (MP St.len D4 X) (St.cells_one _)) ?_));rintro _ w4 ⟨rfl,hbw4,hfw4⟩;rw [KO St.len D4] at hbw4
    replace M:Mem w (λk=>k=g) (List.set _ 0 (As.blk g 127 (AF St.cells (l2.set j x3)++rs))) w4:=M.putB 0 rfl hbw4 hfw4
    refine ⟨λh=>absurd h AV,fo1 16 X X (AK (j-1) X X X X (sl X) A0) (B7 17 zx zr X kw X X (λρ hρ=>BZ 127 _ _ X g (0+(j-1)*10) 127 (AF St.cells (l2.set j x3)++rs) (St.cells x4) (hρ _ _ X) (hρ _ _ X) (M.blk 0 X) C0 (MP St.len D4 X) (St.cells_one _)) ?_)⟩;rintro _ w5 ⟨rfl,hbw5,hfw5⟩;rw [KO St.len D4] at hbw5
    replace M:Mem w (λk=>k=g) (List.set _ 0 (As.blk g 127 (AF St.cells ((l2.set j x3).set (j-1) x4)++rs))) w5:=M.putB 0 rfl hbw5 hfw5
    refine ⟨λh=>absurd h AV,fdn (V ?_)⟩;refine ya X (ER (a:=j) (b:=1) X X X A0 A0) (V ?_);refine fag ⟨j-1,((l2.set j x3).set (j-1) x4),X,M,?_,?_,?_,?_,X⟩
    ·omega
    ·exact hJ.step2 ((hfq _ _).1 h34p) (by assumption) (by assumption) (by assumption) (by assumption) A0 A0 A0
    ·first
      | assumption
      | (refine (E2 ?_ ?_).trans (by assumption)<;>assumption)
    first
     | assumption
     | (simp;assumption)
   have h34p:=odf h34;refine V ?_;refine D3 X X (V ?_);refine fag ⟨i+1,l2,X,M,?_,?_,?_,?_,X⟩
   ·omega
   ·first
     | exact hJ.done0 A0
     | exact hJ.done1 (by assumption) (by assumption) (λhh=>h34p ((hfq _ _).2 hh))
   ·first
     | assumption
     | (refine (E2 ?_ ?_).trans (by assumption)<;>assumption)
   first
    | assumption
    | (simp;assumption)
  have h21p:=odf h21;refine V ?_;refine D3 X X (V ?_);refine fag ⟨i+1,l2,X,M,?_,?_,?_,?_,X⟩
  ·omega
  ·first
    | exact hJ.done0 A0
    | exact hJ.done1 (by assumption) (by assumption) (λhh=>h34p ((hfq _ _).2 hh))
  ·first
    | assumption
    | (refine (E2 ?_ ?_).trans (by assumption)<;>assumption)
  first
   | assumption
   | (simp;assumption)
 have h14p:=odf h14;refine V ?_;exact qx_ret0 (Or.inr X) X ⟨X,l1,hp_l1,hI.done A0,M.blk 0 X,M.fr⟩
theorem aZ (g n cp:Nat) (fc:FuncId) (rs:Kx) (a b d:Nat) (hm:n≤1000000000) (l:List St) (w:Kw) (hb:Blk w g 127 (AF St.cells l++rs)) (hn:l.length=n) (had:a+d≤b) (hbd:b+d≤n) :
 zt zv 243 #[.slice (G ⟨g,0,zx⟩) n cp,AA ((a:Nat):Int),AA (b:Int),AA (d:Int),.func (.func fc) #[] #[]] w λe w'=>e=.returned (.tuple #[])∧∃l':List St,l'.Perm l∧(Sws l l' a b d)∧Blk w' g 127 (AF St.cells l'++rs)∧Fr (λk=>k=g) w w':=by
 have hp_l:l.Perm l:=Fg _;have hn_l:l.length=n:=hn;refine sx_enter (vs:=[_,_,_,_,_]) func243 X ntmps243 X ?_;have M:Mem w (λk=>k=g) [As.blk g 127 (AF St.cells l++rs)] w:=Mem.one hb;refine V ?_;refine flp [3,2,1,0] (λze e wr mz=>∃(i:Nat) (l1:List St),e=(10,AA (i:Int))::ze∧Mem w (λk=>k=g) [As.blk g 127 (AF St.cells l1++rs)] wr∧(i≤d)∧(Sws l l1 a b i)∧(l1.Perm l)∧(l1.length=n)∧mz=d-i) ⟨0,l,X,M,Aj _,Sws.start l a b,hp_l,hn_l,X⟩ ?_;rintro _ w1 _ ⟨i,l1,rfl,M,hi,hS,hp_l1,hn_l1,rfl⟩;refine V ?_;refine G1 X X (V ?_);refine AC X (λh13=>?_) (λh13=>?_)
 ·have h13p:=odt h13;refine V ?_;refine EO 24 (λ_=>True) CA ?_;have M:=M.drew;refine oa 0 24 X X zw (λ_ _=>yp X) (oa 1 24 X X zw (λ_ _=>yp X) (oa 2 24 X X zw (λ_ _=>yp X) (oa 3 24 X X zw (λ_ _=>GZ X X X A0) (oa 4 24 X X zw (λ_ _=>yp X) (oa 5 24 X X zw (λ_ _=>yp X) (oa 6 24 X X zw (λ_ _=>yp X) (oa 7 24 X X zw (λ_ _=>GZ X X X A0) (oa 8 24 X X zw (λ_ _=>yp X) (oa 9 24 X X zw (λ_ _=>yp X) (oa 10 24 X X zw (λ_ _=>yp X) (oa 11 24 X X zw (λ_ _=>GZ X X X A0) (oa 12 24 X X zw (λ_ _=>AK (b+i) X X X X (sl X) A0) (oa 14 24 X X zw (λ_ _=>yp X) (oa 15 24 X X zw (λ_ _=>yp X) (oa 16 24 X X zw (λ_ _=>yp X) ?_)))))))))))))));refine oa 17 24 X X zw (λ_ _=>GZ X X X A0) (oa 18 24 X X zw (λ_ _=>AK (a+i) X X X X (sl X) A0) (NU 20 (λw'=>Mem w (λk=>k=g) [As.blk g 127 (AF St.cells l1++rs)] w') ?_));obtain ⟨x1,hx1⟩:=EJ (l:=l1) (i:=b+i) A0;refine IX 13 zr (λc a t v w h=>by cases t<;>exact h) zr zr zr X kw X X M (λ_ M=>AJ (xs:=St.cells x1) X X (BF St.len (IC St.len (M.blk 0 X)) X hx1) Dc X C0) ?_;obtain ⟨x2,hx2⟩:=EJ (l:=l1) (i:=a+i) A0;refine IX 19 zr (λc a t v w h=>by cases t<;>exact h) zr zr zr X kw X X M (λ_ M=>AJ (xs:=St.cells x2) X X (BF St.len (IC St.len (M.blk 0 X)) X hx2) Dc X C0) (fo1 20 X X (AK (a+i) X X X X (sl X) A0) (B7 21 zx zr X kw X X (λρ hρ=>BZ 127 _ _ X g (0+(a+i)*10) 127 (AF St.cells l1++rs) (St.cells x1) (hρ _ _ X) (hρ _ _ X) (M.blk 0 X) C0 (MP St.len D4 X) (St.cells_one _)) ?_));rintro _ w2 ⟨rfl,hbw2,hfw2⟩;rw [KO St.len D4] at hbw2
  replace M:Mem w (λk=>k=g) (List.set _ 0 (As.blk g 127 (AF St.cells (l1.set (a+i) x1)++rs))) w2:=M.putB 0 rfl hbw2 hfw2
  refine ⟨λh=>absurd h AV,fo1 22 X X (AK (b+i) X X X X (sl X) A0) (B7 23 zx zr X kw X X (λρ hρ=>BZ 127 _ _ X g (0+(b+i)*10) 127 (AF St.cells (l1.set (a+i) x1)++rs) (St.cells x2) (hρ _ _ X) (hρ _ _ X) (M.blk 0 X) C0 (MP St.len D4 X) (St.cells_one _)) ?_)⟩;rintro _ w3 ⟨rfl,hbw3,hfw3⟩;rw [KO St.len D4] at hbw3
  replace M:Mem w (λk=>k=g) (List.set _ 0 (As.blk g 127 (AF St.cells ((l1.set (a+i) x1).set (b+i) x2)++rs))) w3:=M.putB 0 rfl hbw3 hfw3
  refine ⟨λh=>absurd h AV,fdn (V ?_)⟩;refine D3 X X (V ?_);refine fag ⟨i+1,((l1.set (a+i) x1).set (b+i) x2),X,M,?_,?_,?_,?_,X⟩
  ·omega
  ·exact hS.step (by assumption) (by assumption) A0
  ·first
    | assumption
    | (refine (E2 ?_ ?_).trans (by assumption)<;>assumption)
  first
   | assumption
   | (simp;assumption)
 have h13p:=odf h13;refine V ?_;refine qx_ret0 (Or.inr X) X ?_;obtain rfl:i=d:=A0
 exact ⟨X,l1,hp_l1,hS,M.blk 0 X,M.fr⟩
theorem a1U (g n cp:Nat) (fc:FuncId) (rs:Kx) (a m b:Nat) (hm:n≤1000000000) (l:List St) (w:Kw) (hb:Blk w g 127 (AF St.cells l++rs)) (hn:l.length=n) (ham:a<m) (hmb:m<b) (hbn:b≤n) :
 zt zv 226 #[.slice (G ⟨g,0,zx⟩) n cp,AA (a:Int),AA (m:Int),AA (b:Int),.func (.func fc) #[] #[]] w λe w'=>e=.returned (.tuple #[])∧∃l':List St,l'.Perm l∧(Rot l l' a m b)∧Blk w' g 127 (AF St.cells l'++rs)∧Fr (λk=>k=g) w w':=by
 have hp_l:l.Perm l:=Fg _;have hn_l:l.length=n:=hn;refine sx_enter (vs:=[_,_,_,_,_]) func226 X ntmps226 X ?_;have M:Mem w (λk=>k=g) [As.blk g 127 (AF St.cells l++rs)] w:=Mem.one hb;refine V ?_;refine ya X (ER (a:=m) (b:=a) X X X A0 A0) (V ?_);refine ya X (ER (a:=b) (b:=m) X X X A0 A0) (V ?_);refine flp [4,2,0] (λze e wr mz=>∃(i:Nat) (j:Nat) (l1:List St),e=(10,AA (i:Int))::(11,AA (j:Int))::ze∧Mem w (λk=>k=g) [As.blk g 127 (AF St.cells l1++rs)] wr∧(0<i∧0<j∧i≤m-a∧j≤b-m)∧(RoS l l1 a m b i j)∧(l1.Perm l)∧(l1.length=n)∧mz=i+j) ⟨(m-a),(b-m),l,X,M,A0,RoS.start l ham hmb,hp_l,hn_l,rfl⟩ ?_;rintro _ w1 _ ⟨i,j,l1,rfl,M,hij,hR,hp_l1,hn_l1,rfl⟩;refine V ?_;refine mM X X (V ?_);refine AC X (λh20=>?_) (λh20=>?_)
 ·have h20p:=(odf (CJ h20));refine V ?_;refine vM X X (V ?_);refine AC X (λh23=>?_) (λh23=>?_)
  ·have h23p:=odt h23;refine V ?_;refine ya X (ER (a:=m) (b:=i) X X X A0 A0) (V ?_);refine cl 31 X (AE X X call243) (aZ g n cp fc rs (m-i) m j hm l1 _ (M.blk 0 X) hn_l1 A0 A0) ?_;rintro _ w2 ⟨rfl,l1,hqw2,hrw2,hbw2,hfw2⟩;refine cq ?_;have M:=M.putB 0 X hbw2 hfw2;have hp_l1:l1.Perm l:=hqw2.trans hp_l1;have hn_l1:l1.length=n:=hqw2.length_eq.trans hn_l1;refine V ?_;refine ya X (ER (a:=i) (b:=j) X X X A0 A0) (V ?_);refine fag ⟨i-j,j,l1,X,M,?_,?_,?_,?_,X⟩
   ·omega
   ·first
     | exact hR.left (by assumption) A0 A0
     | exact hR.right (by assumption) A0 A0
   ·first
     | assumption
     | (refine (E2 ?_ ?_).trans (by assumption)<;>assumption)
   first
    | assumption
    | (simp;assumption)
  have h23p:=odf h23;refine V ?_;refine ya X (ER (a:=m) (b:=i) X X X A0 A0) (V ?_);refine D3 X X (yb X (ya X (ER (a:=m+j) (b:=i) X X X A0 A0) (V ?_)));refine cl 46 X (AE X X call243) (aZ g n cp fc rs (m-i) ((m+j)-i) i hm l1 _ (M.blk 0 X) hn_l1 A0 A0) ?_;rintro _ w3 ⟨rfl,l2,hqw3,hrw3,hbw3,hfw3⟩;refine cq ?_;have M:=M.putB 0 X hbw3 hfw3;have hp_l2:l2.Perm l:=hqw3.trans hp_l1;have hn_l2:l2.length=n:=hqw3.length_eq.trans hn_l1;refine V ?_;refine ya X (ER (a:=j) (b:=i) X X X A0 A0) (V ?_);refine fag ⟨i,j-i,l2,X,M,?_,?_,?_,?_,X⟩
  ·omega
  ·first
    | exact hR.left (by assumption) A0 A0
    | exact hR.right (by assumption) A0 A0
  ·first
    | assumption
    | (refine (E2 ?_ ?_).trans (by assumption)<;>assumption)
  first
   | assumption
   | (simp;assumption)
 have h20p:=(odt (BL h20));refine V ?_;refine ya X (ER (a:=m) (b:=i) X X X A0 A0) (V ?_);refine cl 57 X (AE X X call243) (aZ g n cp fc rs (m-i) m i hm l1 _ (M.blk 0 X) hn_l1 A0 A0) ?_;rintro _ w4 ⟨rfl,l3,hqw4,hrw4,hbw4,hfw4⟩;refine cq ?_;have M:=M.putB 0 X hbw4 hfw4;have hp_l3:l3.Perm l:=hqw4.trans hp_l1;have hn_l3:l3.length=n:=hqw4.length_eq.trans hn_l1;refine sxl_nil (qx_ret0 (Or.inr X) X ?_);obtain rfl:i=j:=A0
 exact ⟨X,l3,hp_l3,hR.done hrw4 A0,M.blk 0 X,M.fr⟩
theorem rN (g n cp:Nat) (fc:FuncId) (fq:St→St→Int) (f:St→Int) (rs:Kx) (a m b:Nat) (hfc:∀(ar:Array Kv) (w:Kw),(callFunc fc ar).run zv w=.ok (.enter fc ar) w) (hcmp:∀(a b:St) (w:Kw),zt zv fc #[.agg a.cells.toArray,.agg b.cells.toArray] w (BR w (AA (fq a b)))) (hfq:∀a b,fq a b<0↔f a<f b) (hm:n≤1000000000) (l:List St) (w:Kw) (hb:Blk w g 127 (AF St.cells l++rs)) (hn:l.length=n) (ham:a<m) (hmb:m<b) (hbn:b≤n) (S1:Srt f l a m) (S2:Srt f l m b) (hrec:∀(a' m' b':Nat) (l:List St) (w:Kw),a'<m'→m'<b'→b'≤n→b'-a'<b-a→Blk w g 127 (AF St.cells l++rs)→l.length=n→Srt f l a' m'→Srt f l m' b'→zt zv 207 #[.slice (G ⟨g,0,zx⟩) n cp,AA (a':Int),AA (m':Int),AA (b':Int),.func (.func fc) #[] #[]] w λe w'=>e=.returned (.tuple #[])∧∃l':List St,l'.Perm l∧(Mgd f l l' a' b')∧Blk w' g 127 (AF St.cells l'++rs)∧Fr (λk=>k=g) w w') :
 zt zv 207 #[.slice (G ⟨g,0,zx⟩) n cp,AA ((a:Nat):Int),AA (m:Int),AA ((b:Nat):Int),.func (.func fc) #[] #[]] w λe w'=>e=.returned (.tuple #[])∧∃l':List St,l'.Perm l∧(Mgd f l l' a b)∧Blk w' g 127 (AF St.cells l'++rs)∧Fr (λk=>k=g) w w':=by
 have hp_l:l.Perm l:=Fg _;have hn_l:l.length=n:=hn;refine sx_enter (vs:=[_,_,_,_,_]) func207 X ntmps207 X ?_;have M:Mem w (λk=>k=g) [As.blk g 127 (AF St.cells l++rs)] w:=Mem.one hb;refine V ?_;refine ya X (ER (a:=m) (b:=a) X X X A0 A0) (HU X X (V ?_));refine AC X (λh28=>?_) (λh28=>?_)
 ·have h28p:=odt h28;refine V ?_;refine flp [4,1,0] (λze e wr mz=>∃(i:Nat) (j:Nat) (l1:List St),e=(10,AA (i:Int))::(11,AA (j:Int))::ze∧Mem w (λk=>k=g) [As.blk g 127 (AF St.cells l1++rs)] wr∧(m≤i∧i≤j∧j≤b)∧(Srt f l1 a m)∧(Srt f l1 m b)∧(l1=l)∧(∀q,m≤q→q<i→Kf f l1 q<Kf f l1 a)∧(∀q,j≤q→q<b→Kf f l1 a≤Kf f l1 q)∧(l1.Perm l)∧(l1.length=n)∧mz=j-i) ⟨m,b,l,X,M,A0,S1,S2,rfl,λq h1 h2=>A0,λq h1 h2=>A0,hp_l,hn_l,rfl⟩ ?_;rintro _ w1 _ ⟨i,j,l1,rfl,M,hij,hS1,hS2,he,hbL,hbR,hp_l1,hn_l1,rfl⟩;refine V ?_;refine G1 X X (V ?_);refine AC X (λh33=>?_) (λh33=>?_)
  ·have h33p:=odt h33;refine V ?_;refine D3 X X (ya X (VH X X Bm Ea A0) (ya X (aP (a:=i+j) X X X) (ya X (VI X X Ea Bm A0) (V ?_))));refine DZ 9 CA zr ?_;have M:=M.drew;refine V ?_;refine sa X (AK ((i+j) / 2) X X X X (sl X) A0) ?_;obtain ⟨x1,hx1⟩:=EJ (l:=l1) (i:=(i+j) / 2) A0;refine sa X (AJ (xs:=St.cells x1) X X (BF St.len (IC St.len (M.blk 0 X)) X hx1) Dc X C0) (V ?_);refine sa X (AK a X X X X (sl X) A0) ?_;obtain ⟨x2,hx2⟩:=EJ (l:=l1) (i:=a) A0;refine sa X (AJ (xs:=St.cells x2) X X (BF St.len (IC St.len (M.blk 0 X)) X hx2) Dc X C0) (DA (YP M 49 X (C7 X X X hfc) (hcmp _ _ _) λw2 M=>G1 X X (V ?_)));refine AC X (λh50=>?_) (λh50=>?_)
   ·have h50p:=odt h50;refine V ?_;refine D3 X X (V ?_);refine fag ⟨((i+j) / 2)+1,j,l1,X,M,?_,?_,?_,?_,?_,?_,?_,?_,X⟩
    ·omega
    ·assumption
    ·assumption
    ·assumption
    ·first
      | exact hbL
      | exact a1i hS2 ((hfq _ _).1 h50p) (by assumption) (by assumption) A0
    ·first
      | exact hbR
      | exact a1g hS2 (λhh=>h50p ((hfq _ _).2 hh)) (by assumption) (by assumption) A0
    ·first
      | assumption
      | (refine (E2 ?_ ?_).trans (by assumption)<;>assumption)
    first
     | assumption
     | (simp;assumption)
   have h50p:=odf h50;refine V ?_;refine fag ⟨i,(i+j) / 2,l1,X,M,?_,?_,?_,?_,?_,?_,?_,?_,X⟩
   ·omega
   ·assumption
   ·assumption
   ·assumption
   ·first
     | exact hbL
     | exact a1i hS2 ((hfq _ _).1 h50p) (by assumption) (by assumption) A0
   ·first
     | exact hbR
     | exact a1g hS2 (λhh=>h50p ((hfq _ _).2 hh)) (by assumption) (by assumption) A0
   ·first
     | assumption
     | (refine (E2 ?_ ?_).trans (by assumption)<;>assumption)
   first
    | assumption
    | (simp;assumption)
  have h33p:=odf h33;refine V ?_;refine flp [10,0] (λze e wr mz=>∃(k:Nat) (l2:List St),e=(13,AA ((k:Nat):Int))::ze∧Mem w (λk=>k=g) [As.blk g 127 (AF St.cells l2++rs)] wr∧(a≤k∧k+1≤i)∧(Rot l1 l2 a (a+1) (k+1))∧(l2.Perm l)∧(l2.length=n)∧mz=i-k) ⟨a,l1,X,M,A0,HP (.inr rfl),hp_l1,hn_l1,rfl⟩ ?_;rintro _ w3 _ ⟨k,l2,rfl,M,hk,hT,hp_l2,hn_l2,rfl⟩;refine V ?_;refine ya X (ER (a:=i) (b:=1) X X X A0 A0) (G1 X X (V ?_));refine AC X (λh58=>?_) (λh58=>?_)
  ·have h58p:=odt h58;refine V ?_;refine EO 18 (λ_=>True) CA ?_;have M:=M.drew;refine oa 0 18 X X zw (λ_ _=>yp X) (oa 1 18 X X zw (λ_ _=>yp X) (oa 2 18 X X zw (λ_ _=>yp X) (oa 3 18 X X zw (λ_ _=>yp X) (oa 4 18 X X zw (λ_ _=>GZ X X X A0) (oa 5 18 X X zw (λ_ _=>yp X) (oa 6 18 X X zw (λ_ _=>yp X) (oa 7 18 X X zw (λ_ _=>GZ X X X A0) (oa 8 18 X X zw (λ_ _=>AK (k+1) X X X X (sl X) A0) (oa 10 18 X X zw (λ_ _=>yp X) (oa 11 18 X X zw (λ_ _=>yp X) (oa 12 18 X X zw (λ_ _=>AK k X X X X (sl X) A0) (NU 14 (λw'=>Mem w (λk=>k=g) [As.blk g 127 (AF St.cells l2++rs)] w') ?_))))))))))));obtain ⟨x3,hx3⟩:=EJ (l:=l2) (i:=k+1) A0;refine IX 9 zr (λc a t v w h=>by cases t<;>exact h) zr zr zr X kw X X M (λ_ M=>AJ (xs:=St.cells x3) X X (BF St.len (IC St.len (M.blk 0 X)) X hx3) Dc X C0) ?_;obtain ⟨x4,hx4⟩:=EJ (l:=l2) (i:=k) A0;refine IX 13 zr (λc a t v w h=>by cases t<;>exact h) zr zr zr X kw X X M (λ_ M=>AJ (xs:=St.cells x4) X X (BF St.len (IC St.len (M.blk 0 X)) X hx4) Dc X C0) (fo1 14 X X (AK k X X X X (sl X) A0) (B7 15 zx zr X kw X X (λρ hρ=>BZ 127 _ _ X g (0+k*10) 127 (AF St.cells l2++rs) (St.cells x3) (hρ _ _ X) (hρ _ _ X) (M.blk 0 X) C0 (MP St.len D4 X) (St.cells_one _)) ?_));rintro _ w4 ⟨rfl,hbw4,hfw4⟩;rw [KO St.len D4] at hbw4
   replace M:Mem w (λk=>k=g) (List.set _ 0 (As.blk g 127 (AF St.cells (l2.set k x3)++rs))) w4:=M.putB 0 rfl hbw4 hfw4
   refine ⟨λh=>absurd h AV,fo1 16 X X (AK (k+1) X X X X (sl X) A0) (B7 17 zx zr X kw X X (λρ hρ=>BZ 127 _ _ X g (0+(k+1)*10) 127 (AF St.cells (l2.set k x3)++rs) (St.cells x4) (hρ _ _ X) (hρ _ _ X) (M.blk 0 X) C0 (MP St.len D4 X) (St.cells_one _)) ?_)⟩;rintro _ w5 ⟨rfl,hbw5,hfw5⟩;rw [KO St.len D4] at hbw5
   replace M:Mem w (λk=>k=g) (List.set _ 0 (As.blk g 127 (AF St.cells ((l2.set k x3).set (k+1) x4)++rs))) w5:=M.putB 0 rfl hbw5 hfw5
   refine ⟨λh=>absurd h AV,fdn (V ?_)⟩;refine D3 X X (V ?_);refine fag ⟨k+1,((l2.set k x3).set (k+1) x4),X,M,?_,?_,?_,?_,X⟩
   ·omega
   ·exact nZ hT A0 (by assumption) (by assumption)
   ·first
     | assumption
     | (refine (E2 ?_ ?_).trans (by assumption)<;>assumption)
   first
    | assumption
    | (simp;assumption)
  have h58p:=odf h58;refine V ?_;exact qx_ret0 (Or.inl X) X ⟨X,l2,hp_l2,(by rw [←he];exact a0e A0 hS2 A0 A0 A0 hbL (λq h1 h2=>hbR q A0 h2) (hT.cast rfl A0 A0)),M.blk 0 X,M.fr⟩
 have h28p:=odf h28;refine V ?_;refine ya X (ER (a:=b) (b:=m) X X X A0 A0) (HU X X (V ?_));refine AC X (λh80=>?_) (λh80=>?_)
 ·have h80p:=odt h80;refine V ?_;refine flp [4,2,0] (λze e wr mz=>∃(i:Nat) (j:Nat) (l1:List St),e=(14,AA (i:Int))::(15,AA (j:Int))::ze∧Mem w (λk=>k=g) [As.blk g 127 (AF St.cells l1++rs)] wr∧(a≤i∧i≤j∧j≤m)∧(Srt f l1 a m)∧(Srt f l1 m b)∧(l1=l)∧(∀q,a≤q→q<i→Kf f l1 q≤Kf f l1 m)∧(∀q,j≤q→q<m→Kf f l1 m<Kf f l1 q)∧(l1.Perm l)∧(l1.length=n)∧mz=j-i) ⟨a,m,l,X,M,A0,S1,S2,rfl,λq h1 h2=>A0,λq h1 h2=>A0,hp_l,hn_l,rfl⟩ ?_;rintro _ w6 _ ⟨i,j,l1,rfl,M,hij,hS1,hS2,he,hbL,hbR,hp_l1,hn_l1,rfl⟩;refine V ?_;refine G1 X X (V ?_);refine AC X (λh85=>?_) (λh85=>?_)
  ·have h85p:=odt h85;refine V ?_;refine D3 X X (ya X (VH X X Bm Ea A0) (ya X (aP (a:=i+j) X X X) (ya X (VI X X Ea Bm A0) (V ?_))));refine DZ 9 CA zr ?_;have M:=M.drew;refine V ?_;refine sa X (AK m X X X X (sl X) A0) ?_;obtain ⟨x5,hx5⟩:=EJ (l:=l1) (i:=m) A0;refine sa X (AJ (xs:=St.cells x5) X X (BF St.len (IC St.len (M.blk 0 X)) X hx5) Dc X C0) (V ?_);refine sa X (AK ((i+j) / 2) X X X X (sl X) A0) ?_;obtain ⟨x6,hx6⟩:=EJ (l:=l1) (i:=(i+j) / 2) A0;refine sa X (AJ (xs:=St.cells x6) X X (BF St.len (IC St.len (M.blk 0 X)) X hx6) Dc X C0) (DA (YP M 101 X (C7 X X X hfc) (hcmp _ _ _) λw7 M=>G1 X X (V ?_)));refine AC X (λh103=>?_) (λh103=>?_)
   ·have h103p:=(odf (CJ h103));refine V ?_;refine D3 X X (V ?_);refine fag ⟨((i+j) / 2)+1,j,l1,X,M,?_,?_,?_,?_,?_,?_,?_,?_,X⟩
    ·omega
    ·assumption
    ·assumption
    ·assumption
    ·first
      | exact hbL
      | exact a1h hS1 (λhh=>h103p ((hfq _ _).2 hh)) (by assumption) (by assumption) A0
    ·first
      | exact hbR
      | exact a1f hS1 ((hfq _ _).1 h103p) (by assumption) (by assumption) A0
    ·first
      | assumption
      | (refine (E2 ?_ ?_).trans (by assumption)<;>assumption)
    first
     | assumption
     | (simp;assumption)
   have h103p:=(odt (BL h103));refine V ?_;refine fag ⟨i,(i+j) / 2,l1,X,M,?_,?_,?_,?_,?_,?_,?_,?_,X⟩
   ·omega
   ·assumption
   ·assumption
   ·assumption
   ·first
     | exact hbL
     | exact a1h hS1 (λhh=>h103p ((hfq _ _).2 hh)) (by assumption) (by assumption) A0
   ·first
     | exact hbR
     | exact a1f hS1 ((hfq _ _).1 h103p) (by assumption) (by assumption) A0
   ·first
     | assumption
     | (refine (E2 ?_ ?_).trans (by assumption)<;>assumption)
   first
    | assumption
    | (simp;assumption)
  have h85p:=odf h85;refine V ?_;refine flp [14,0] (λze e wr mz=>∃(k:Nat) (l2:List St),e=(17,AA ((k:Nat):Int))::ze∧Mem w (λk=>k=g) [As.blk g 127 (AF St.cells l2++rs)] wr∧(i≤k∧k≤m)∧(Rot l1 l2 k m (m+1))∧(l2.Perm l)∧(l2.length=n)∧mz=k-i) ⟨m,l1,X,M,A0,HP (.inl rfl),hp_l1,hn_l1,rfl⟩ ?_;rintro _ w8 _ ⟨k,l2,rfl,M,hk,hT,hp_l2,hn_l2,rfl⟩;refine V ?_;refine vM X X (V ?_);refine AC X (λh110=>?_) (λh110=>?_)
  ·have h110p:=odt h110;refine V ?_;refine EO 18 (λ_=>True) CA ?_;have M:=M.drew;refine oa 0 18 X X zw (λ_ _=>yp X) (oa 1 18 X X zw (λ_ _=>yp X) (oa 2 18 X X zw (λ_ _=>yp X) (oa 3 18 X X zw (λ_ _=>yp X) (oa 4 18 X X zw (λ_ _=>ER (a:=k) (b:=1) X X X A0 A0) (oa 5 18 X X zw (λ_ _=>yp X) (oa 6 18 X X zw (λ_ _=>yp X) (oa 7 18 X X zw (λ_ _=>ER (a:=k) (b:=1) X X X A0 A0) (oa 8 18 X X zw (λ_ _=>AK (k-1) X X X X (sl X) A0) (oa 10 18 X X zw (λ_ _=>yp X) (oa 11 18 X X zw (λ_ _=>yp X) (oa 12 18 X X zw (λ_ _=>AK k X X X X (sl X) A0) (NU 14 (λw'=>Mem w (λk=>k=g) [As.blk g 127 (AF St.cells l2++rs)] w') ?_))))))))))));obtain ⟨x7,hx7⟩:=EJ (l:=l2) (i:=k-1) A0;refine IX 9 zr (λc a t v w h=>by cases t<;>exact h) zr zr zr X kw X X M (λ_ M=>AJ (xs:=St.cells x7) X X (BF St.len (IC St.len (M.blk 0 X)) X hx7) Dc X C0) ?_;obtain ⟨x8,hx8⟩:=EJ (l:=l2) (i:=k) A0;refine IX 13 zr (λc a t v w h=>by cases t<;>exact h) zr zr zr X kw X X M (λ_ M=>AJ (xs:=St.cells x8) X X (BF St.len (IC St.len (M.blk 0 X)) X hx8) Dc X C0) (fo1 14 X X (AK k X X X X (sl X) A0) (B7 15 zx zr X kw X X (λρ hρ=>BZ 127 _ _ X g (0+k*10) 127 (AF St.cells l2++rs) (St.cells x7) (hρ _ _ X) (hρ _ _ X) (M.blk 0 X) C0 (MP St.len D4 X) (St.cells_one _)) ?_));rintro _ w9 ⟨rfl,hbw9,hfw9⟩;rw [KO St.len D4] at hbw9
   replace M:Mem w (λk=>k=g) (List.set _ 0 (As.blk g 127 (AF St.cells (l2.set k x7)++rs))) w9:=M.putB 0 rfl hbw9 hfw9
   refine ⟨λh=>absurd h AV,fo1 16 X X (AK (k-1) X X X X (sl X) A0) (B7 17 zx zr X kw X X (λρ hρ=>BZ 127 _ _ X g (0+(k-1)*10) 127 (AF St.cells (l2.set k x7)++rs) (St.cells x8) (hρ _ _ X) (hρ _ _ X) (M.blk 0 X) C0 (MP St.len D4 X) (St.cells_one _)) ?_)⟩;rintro _ w10 ⟨rfl,hbw10,hfw10⟩;rw [KO St.len D4] at hbw10
   replace M:Mem w (λk=>k=g) (List.set _ 0 (As.blk g 127 (AF St.cells ((l2.set k x7).set (k-1) x8)++rs))) w10:=M.putB 0 rfl hbw10 hfw10
   refine ⟨λh=>absurd h AV,fdn (V ?_)⟩;refine ya X (ER (a:=k) (b:=1) X X X A0 A0) (V ?_);refine fag ⟨k-1,((l2.set k x7).set (k-1) x8),X,M,?_,?_,?_,?_,X⟩
   ·omega
   ·exact nY hT A0 A0 (by assumption) (by assumption)
   ·first
     | assumption
     | (refine (E2 ?_ ?_).trans (by assumption)<;>assumption)
   first
    | assumption
    | (simp;assumption)
  have h110p:=odf h110;refine V ?_;exact qx_ret0 (Or.inl X) X ⟨X,l2,hp_l2,(by rw [←he];exact uI A0 hS1 A0 A0 A0 hbL (λq h1 h2=>hbR q A0 h2) (hT.cast A0 rfl A0)),M.blk 0 X,M.fr⟩
 have h80p:=odf h80;refine V ?_;refine D3 X X (ya X (VH X X Bm Ea A0) (ya X (aP (a:=a+b) X X X) (ya X (VI X X Ea Bm A0) (V ?_))));refine D3 X X (V ?_);refine vM X X (V ?_);refine KA [(0,.slice (G ⟨g,0,zx⟩) n cp),(1,AA ((a:Nat):Int)),(2,AA (m:Int)),(3,AA ((b:Nat):Int)),(4,.func (.func fc) #[] #[]),(18,AA (((a+b) / 2:Nat):Int)),(19,AA ((((a+b) / 2)+m:Nat):Int)),(20,AA ((if (O ((((a+b) / 2:Nat):Int)<(m:Int))) then (((a+b) / 2)+m)-b else a:Nat):Int)),(21,AA ((if (O ((((a+b) / 2:Nat):Int)<(m:Int))) then (a+b) / 2 else m:Nat):Int))] (λw'=>Mem w (λk=>k=g) [As.blk g 127 (AF St.cells l++rs)] w') ?_ (λk140=>?_)
 ·intro w11 M;refine V ?_;refine ya X (ER (a:=((a+b) / 2)+m) (b:=1) X X X A0 A0) (V ?_)
  have hst:((a+b) / 2<m∧(if (O ((((a+b) / 2:Nat):Int)<(m:Int))) then (((a+b) / 2)+m)-b else a)+b=(a+b) / 2+m∧(if (O ((((a+b) / 2:Nat):Int)<(m:Int))) then (a+b) / 2 else m)=(a+b) / 2)∨(m≤(a+b) / 2∧(if (O ((((a+b) / 2:Nat):Int)<(m:Int))) then (((a+b) / 2)+m)-b else a)=a∧(if (O ((((a+b) / 2:Nat):Int)<(m:Int))) then (a+b) / 2 else m)=m):=by
   split
   ·rename_i hq
    have:=odt hq
    left;omega
   rename_i hq
   have:=odf (Cp.2 hq)
   right;omega
  obtain ⟨s0,hs0⟩:∃s0:Nat,s0=if (O ((((a+b) / 2:Nat):Int)<(m:Int))) then (((a+b) / 2)+m)-b else a:=⟨_,X⟩
  obtain ⟨r0,hr0⟩:∃r0:Nat,r0=if (O ((((a+b) / 2:Nat):Int)<(m:Int))) then (a+b) / 2 else m:=⟨_,X⟩
  rw [←hs0,←hr0] at hst
  refine flp [22,19,18,4,3,2,1,0] (λze e wr mz=>∃(s:Nat) (r:Nat) (l1:List St),e=(20,AA (s:Int))::(21,AA (r:Int))::ze∧Mem w (λk=>k=g) [As.blk g 127 (AF St.cells l1++rs)] wr∧(s0≤s∧s≤r∧r≤r0)∧(Srt f l1 a m)∧(Srt f l1 m b)∧(l1=l)∧(Sea f l1 ((a+b) / 2+m-1) s0 r0 s r)∧(l1.Perm l)∧(l1.length=n)∧mz=r-s) ⟨(if (O ((((a+b) / 2:Nat):Int)<(m:Int))) then (((a+b) / 2)+m)-b else a),(if (O ((((a+b) / 2:Nat):Int)<(m:Int))) then (a+b) / 2 else m),l,X,M,by rw [←hs0,←hr0];omega,S1,S2,rfl,⟨λc h1 h2=>A0,λc h1 h2=>A0⟩,hp_l,hn_l,rfl⟩ ?_;rintro _ w12 _ ⟨s,r,l1,rfl,M,hsr,hS1,hS2,he,hse,hp_l1,hn_l1,rfl⟩;refine V ?_;refine G1 X X (V ?_);refine AC X (λh151=>?_) (λh151=>?_)
  ·have h151p:=odt h151;refine V ?_;refine D3 X X (ya X (VH X X Bm Ea A0) (ya X (aP (a:=s+r) X X X) (ya X (VI X X Ea Bm A0) (V ?_))));refine DZ 11 CA zr ?_;have M:=M.drew;refine V ?_;refine sa X (ER (a:=(((a+b) / 2)+m)-1) (b:=(s+r) / 2) X X X A0 A0) (sa X (AK (((((a+b) / 2)+m)-1)-((s+r) / 2)) X X X X (sl X) A0) ?_);obtain ⟨x9,hx9⟩:=EJ (l:=l1) (i:=((((a+b) / 2)+m)-1)-((s+r) / 2)) A0;refine sa X (AJ (xs:=St.cells x9) X X (BF St.len (IC St.len (M.blk 0 X)) X hx9) Dc X C0) (V ?_);refine sa X (AK ((s+r) / 2) X X X X (sl X) A0) ?_;obtain ⟨x10,hx10⟩:=EJ (l:=l1) (i:=(s+r) / 2) A0;refine sa X (AJ (xs:=St.cells x10) X X (BF St.len (IC St.len (M.blk 0 X)) X hx10) Dc X C0) (DA (YP M 169 X (C7 X X X hfc) (hcmp _ _ _) λw13 M=>G1 X X (V ?_)));refine AC X (λh171=>?_) (λh171=>?_)
   ·have h171p:=(odf (CJ h171));refine V ?_;refine D3 X X (V ?_);refine fag ⟨((s+r) / 2)+1,r,l1,X,M,?_,?_,?_,?_,?_,?_,?_,X⟩
    ·omega
    ·assumption
    ·assumption
    ·assumption
    ·first
      | exact hse.up hst ham hS1 hS2 A0 hsr.2.2 (by assumption) (by assumption) (λhh=>h171p ((hfq _ _).2 hh))
      | exact hse.down hst hS1 hS2 hsr.1 A0 A0 hsr.2.2 (by assumption) (by assumption) ((hfq _ _).1 h171p)
    ·first
      | assumption
      | (refine (E2 ?_ ?_).trans (by assumption)<;>assumption)
    first
     | assumption
     | (simp;assumption)
   have h171p:=(odt (BL h171));refine V ?_;refine fag ⟨s,(s+r) / 2,l1,X,M,?_,?_,?_,?_,?_,?_,?_,X⟩
   ·omega
   ·assumption
   ·assumption
   ·assumption
   ·first
     | exact hse.up hst ham hS1 hS2 A0 hsr.2.2 (by assumption) (by assumption) (λhh=>h171p ((hfq _ _).2 hh))
     | exact hse.down hst hS1 hS2 hsr.1 A0 A0 hsr.2.2 (by assumption) (by assumption) ((hfq _ _).1 h171p)
   ·first
     | assumption
     | (refine (E2 ?_ ?_).trans (by assumption)<;>assumption)
   first
    | assumption
    | (simp;assumption)
  have h151p:=odf h151;refine V ?_;obtain rfl:s=r:=A0
  have hall:∀l2,Rot l1 l2 s m ((a+b) / 2+m-s)→MgA f l1 l2 a b s ((a+b) / 2) ((a+b) / 2+m-s):=λl2 R=>a2n hse hst ham hmb A0 hS1 hS2 hsr.1 hsr.2.2 R
  refine V ?_;refine ya X (ER (a:=((a+b) / 2)+m) (b:=s) X X X A0 A0) (V ?_);refine G1 X X (yb X (fvm M 4 [24,20,18,4,3,2,1,0] [(185,.bool ((O ((s:Int)<(m:Int)))&&(O ((m:Int)<(((((a+b) / 2)+m)-s:Nat):Int)))))] ?_ (λk181=>?_)))
  ·intro w14 M;refine V ?_;refine AC X (λh185=>?_) (λh185=>?_)
   ·have h185p:=bd h185;refine V ?_;refine cl 191 X (AE X X call226) (a1U g n cp fc rs s m ((((a+b) / 2)+m)-s) hm l1 _ (M.blk 0 X) hn_l1 A0 A0 A0) ?_;rintro _ w15 ⟨rfl,l11,hqw15,hrw15,hbw15,hfw15⟩;refine cq ?_;have M:=M.putB 0 X hbw15 hfw15;have hp_l11:l11.Perm l:=hqw15.trans hp_l1;have hn_l11:l11.length=n:=hqw15.length_eq.trans hn_l1;refine V ?_;refine G1 X X (yb X (fvm M 4 [24,20,18,4,3,1,0] [(199,.bool ((O (((a:Nat):Int)<(s:Int)))&&(O ((s:Int)<(((a+b) / 2:Nat):Int)))))] ?_ (λk195=>?_)))
    ·intro w16 M;refine V ?_;refine AC X (λh199=>?_) (λh199=>?_)
     ·have h199p:=bd h199;refine V ?_;refine cl 205 X (AE X X call207) (hrec a s ((a+b) / 2) l11 _ A0 A0 A0 A0 (M.blk 0 X) hn_l11 (hall _ hrw15).s1 (hall _ hrw15).s2) ?_;rintro _ w17 ⟨rfl,l12,hqw17,hrw17,hbw17,hfw17⟩;refine cq ?_;have M:=M.putB 0 X hbw17 hfw17;have hp_l12:l12.Perm l:=hqw17.trans hp_l11;have hn_l12:l12.length=n:=hqw17.length_eq.trans hn_l11;refine V ?_;refine G1 X X (yb X (fvm M 4 [24,18,4,3,0] [(213,.bool ((O ((((a+b) / 2:Nat):Int)<(((((a+b) / 2)+m)-s:Nat):Int)))&&(O ((((((a+b) / 2)+m)-s:Nat):Int)<((b:Nat):Int)))))] ?_ (λk209=>?_)))
      ·intro w18 M;refine V ?_;refine AC X (λh213=>?_) (λh213=>?_)
       ·have h213p:=bd h213;refine V ?_;refine cl 219 X (AE X X call207) (hrec ((a+b) / 2) ((((a+b) / 2)+m)-s) b l12 _ A0 A0 A0 A0 (M.blk 0 X) hn_l12 ((hall _ hrw15).s3.out hrw17.out (.inr (Af _))) ((hall _ hrw15).s4.out hrw17.out (.inr A0))) ?_;rintro _ w19 ⟨rfl,l13,hqw19,hrw19,hbw19,hfw19⟩;refine cq ?_;have M:=M.putB 0 X hbw19 hfw19;have hp_l13:l13.Perm l:=hqw19.trans hp_l12;have hn_l13:l13.length=n:=hqw19.length_eq.trans hn_l12;exact sxl_nil (qx_ret0 (Or.inr X) X ⟨X,l13,hp_l13,(by rw [←he];exact P0 (hall _ hrw15) A0 A0 hrw17 hrw19),M.blk 0 X,M.fr⟩)
       have h213p:=bd h213;exact sx_skip (qx_ret0 (Or.inr X) X ⟨X,l12,hp_l12,(by rw [←he];exact P0 (hall _ hrw15) A0 A0 hrw17 ((hall _ hrw15).right hrw17 A0)),M.blk 0 X,M.fr⟩)
      refine A1 (d:=209) X (λh209=>?_) (λh209=>?_)
      ·refine V ?_;exact yd X (HL X X X) (yb X (k209 M))
      exact yo X (yo X (yo X (yb X (k209 M))))
     have h199p:=bd h199;refine V ?_;refine G1 X X (yb X (fvm M 4 [24,18,4,3,0] [(213,.bool ((O ((((a+b) / 2:Nat):Int)<(((((a+b) / 2)+m)-s:Nat):Int)))&&(O ((((((a+b) / 2)+m)-s:Nat):Int)<((b:Nat):Int)))))] ?_ (λk209=>?_)))
     ·intro w20 M;refine V ?_;refine AC X (λh213=>?_) (λh213=>?_)
      ·have h213p:=bd h213;refine V ?_;refine cl 219 X (AE X X call207) (hrec ((a+b) / 2) ((((a+b) / 2)+m)-s) b l11 _ A0 A0 A0 A0 (M.blk 0 X) hn_l11 (hall _ hrw15).s3 (hall _ hrw15).s4) ?_;rintro _ w21 ⟨rfl,l14,hqw21,hrw21,hbw21,hfw21⟩;refine cq ?_;have M:=M.putB 0 X hbw21 hfw21;have hp_l14:l14.Perm l:=hqw21.trans hp_l11;have hn_l14:l14.length=n:=hqw21.length_eq.trans hn_l11;exact sxl_nil (qx_ret0 (Or.inr X) X ⟨X,l14,hp_l14,(by rw [←he];exact P0 (hall _ hrw15) A0 A0 ((hall _ hrw15).left A0) hrw21),M.blk 0 X,M.fr⟩)
      have h213p:=bd h213;exact sx_skip (qx_ret0 (Or.inr X) X ⟨X,l11,hp_l11,(by rw [←he];exact P0 (hall _ hrw15) A0 A0 ((hall _ hrw15).left A0) ((hall _ hrw15).right ((hall _ hrw15).left A0) A0)),M.blk 0 X,M.fr⟩)
     refine A1 (d:=209) X (λh209=>?_) (λh209=>?_)
     ·refine V ?_;exact yd X (HL X X X) (yb X (k209 M))
     exact yo X (yo X (yo X (yb X (k209 M))))
    refine A1 (d:=195) X (λh195=>?_) (λh195=>?_)
    ·refine V ?_;exact yd X (HL X X X) (yb X (k195 M))
    exact yo X (yo X (yo X (yb X (k195 M))))
   have h185p:=bd h185;refine V ?_;refine G1 X X (yb X (fvm M 4 [24,20,18,4,3,1,0] [(199,.bool ((O (((a:Nat):Int)<(s:Int)))&&(O ((s:Int)<(((a+b) / 2:Nat):Int)))))] ?_ (λk195=>?_)))
   ·intro w22 M;refine V ?_;refine AC X (λh199=>?_) (λh199=>?_)
    ·have h199p:=bd h199;refine V ?_;refine cl 205 X (AE X X call207) (hrec a s ((a+b) / 2) l1 _ A0 A0 A0 A0 (M.blk 0 X) hn_l1 (hall _ (HP A0)).s1 (hall _ (HP A0)).s2) ?_;rintro _ w23 ⟨rfl,l15,hqw23,hrw23,hbw23,hfw23⟩;refine cq ?_;have M:=M.putB 0 X hbw23 hfw23;have hp_l15:l15.Perm l:=hqw23.trans hp_l1;have hn_l15:l15.length=n:=hqw23.length_eq.trans hn_l1;refine V ?_;refine G1 X X (yb X (fvm M 4 [24,18,4,3,0] [(213,.bool ((O ((((a+b) / 2:Nat):Int)<(((((a+b) / 2)+m)-s:Nat):Int)))&&(O ((((((a+b) / 2)+m)-s:Nat):Int)<((b:Nat):Int)))))] ?_ (λk209=>?_)))
     ·intro w24 M;refine V ?_;refine AC X (λh213=>?_) (λh213=>?_)
      ·have h213p:=bd h213;refine V ?_;refine cl 219 X (AE X X call207) (hrec ((a+b) / 2) ((((a+b) / 2)+m)-s) b l15 _ A0 A0 A0 A0 (M.blk 0 X) hn_l15 ((hall _ (HP A0)).s3.out hrw23.out (.inr (Af _))) ((hall _ (HP A0)).s4.out hrw23.out (.inr A0))) ?_;rintro _ w25 ⟨rfl,l16,hqw25,hrw25,hbw25,hfw25⟩;refine cq ?_;have M:=M.putB 0 X hbw25 hfw25;have hp_l16:l16.Perm l:=hqw25.trans hp_l15;have hn_l16:l16.length=n:=hqw25.length_eq.trans hn_l15;exact sxl_nil (qx_ret0 (Or.inr X) X ⟨X,l16,hp_l16,(by rw [←he];exact P0 (hall _ (HP A0)) A0 A0 hrw23 hrw25),M.blk 0 X,M.fr⟩)
      have h213p:=bd h213;exact sx_skip (qx_ret0 (Or.inr X) X ⟨X,l15,hp_l15,(by rw [←he];exact P0 (hall _ (HP A0)) A0 A0 hrw23 ((hall _ (HP A0)).right hrw23 A0)),M.blk 0 X,M.fr⟩)
     refine A1 (d:=209) X (λh209=>?_) (λh209=>?_)
     ·refine V ?_;exact yd X (HL X X X) (yb X (k209 M))
     exact yo X (yo X (yo X (yb X (k209 M))))
    have h199p:=bd h199;refine V ?_;refine G1 X X (yb X (fvm M 4 [24,18,4,3,0] [(213,.bool ((O ((((a+b) / 2:Nat):Int)<(((((a+b) / 2)+m)-s:Nat):Int)))&&(O ((((((a+b) / 2)+m)-s:Nat):Int)<((b:Nat):Int)))))] ?_ (λk209=>?_)))
    ·intro w26 M;refine V ?_;refine AC X (λh213=>?_) (λh213=>?_)
     ·have h213p:=bd h213;refine V ?_;refine cl 219 X (AE X X call207) (hrec ((a+b) / 2) ((((a+b) / 2)+m)-s) b l1 _ A0 A0 A0 A0 (M.blk 0 X) hn_l1 (hall _ (HP A0)).s3 (hall _ (HP A0)).s4) ?_;rintro _ w27 ⟨rfl,l17,hqw27,hrw27,hbw27,hfw27⟩;refine cq ?_;have M:=M.putB 0 X hbw27 hfw27;have hp_l17:l17.Perm l:=hqw27.trans hp_l1;have hn_l17:l17.length=n:=hqw27.length_eq.trans hn_l1;exact sxl_nil (qx_ret0 (Or.inr X) X ⟨X,l17,hp_l17,(by rw [←he];exact P0 (hall _ (HP A0)) A0 A0 ((hall _ (HP A0)).left A0) hrw27),M.blk 0 X,M.fr⟩)
     have h213p:=bd h213;exact sx_skip (qx_ret0 (Or.inr X) X ⟨X,l1,hp_l1,(by rw [←he];exact P0 (hall _ (HP A0)) A0 A0 ((hall _ (HP A0)).left A0) ((hall _ (HP A0)).right ((hall _ (HP A0)).left A0) A0)),M.blk 0 X,M.fr⟩)
    refine A1 (d:=209) X (λh209=>?_) (λh209=>?_)
    ·refine V ?_;exact yd X (HL X X X) (yb X (k209 M))
    exact yo X (yo X (yo X (yb X (k209 M))))
   refine A1 (d:=195) X (λh195=>?_) (λh195=>?_)
   ·refine V ?_;exact yd X (HL X X X) (yb X (k195 M))
   exact yo X (yo X (yo X (yb X (k195 M))))
  refine A1 (d:=181) X (λh181=>?_) (λh181=>?_)
  ·refine V ?_;exact yd X (HL X X X) (yb X (k181 M))
  exact yo X (yo X (yo X (yb X (k181 M))))
 refine AC X (λh140=>?_) (λh140=>?_)
 ·have h140p:=odt h140;refine V ?_;exact ya X (ER (a:=((a+b) / 2)+m) (b:=b) X X X A0 A0) (D1 X (sx_region (HK X X (sxl_nil (k140 _ _ M ⟨X,X,X,X,X,X,X,(by rw [h140];rfl),(by rw [h140];rfl),zw⟩)))))
 exact CL X (D1 X (sx_region (HK X X (sxl_nil (k140 _ _ M ⟨X,X,X,X,X,X,X,(by rw [h140];rfl),(by rw [h140];rfl),zw⟩)))))
theorem rP (g n cp:Nat) (fc:FuncId) (fq:St→St→Int) (f:St→Int) (rs:Kx) (hfc:∀(ar:Array Kv) (w:Kw),(callFunc fc ar).run zv w=.ok (.enter fc ar) w) (hcmp:∀(a b:St) (w:Kw),zt zv fc #[.agg a.cells.toArray,.agg b.cells.toArray] w (BR w (AA (fq a b)))) (hfq:∀a b,fq a b<0↔f a<f b) (hm:n≤1000000000):∀(d a m b:Nat) (l:List St) (w:Kw),b-a≤d→a<m→m<b→b≤n→Blk w g 127 (AF St.cells l++rs)→l.length=n→Srt f l a m→Srt f l m b→zt zv 207 #[.slice (G ⟨g,0,zx⟩) n cp,AA ((a:Nat):Int),AA ((m:Nat):Int),AA ((b:Nat):Int),.func (.func fc) #[] #[]] w λe w'=>e=.returned (.tuple #[])∧∃l':List St,l'.Perm l∧(Mgd f l l' a b)∧Blk w' g 127 (AF St.cells l'++rs)∧Fr (λk=>k=g) w w':=by
 intro d
 induction d with
 | zero=>intro a m b l w hd h1 h2;omega
 | succ d ih=>exact λa m b l w hd h1 h2 h3 hb hn s1 s2=>rN g n cp fc fq f rs a m b hfc hcmp hfq hm l w hb hn h1 h2 h3 s1 s2 λa' m' b' l w q1 q2 q3 q4 hb hn s1 s2=>ih a' m' b' l w A0 q1 q2 q3 hb hn s1 s2
theorem s6 (g n cp:Nat) (fc:FuncId) (fq:St→St→Int) (f:St→Int) (rs:Kx) (hfc:∀(ar:Array Kv) (w:Kw),(callFunc fc ar).run zv w=.ok (.enter fc ar) w) (hcmp:∀(a b:St) (w:Kw),zt zv fc #[.agg a.cells.toArray,.agg b.cells.toArray] w (BR w (AA (fq a b)))) (hfq:∀a b,fq a b<0↔f a<f b) (hm:n≤1000000000) (l:List St) (w:Kw) (hb:Blk w g 127 (AF St.cells l++rs)) (hn:l.length=n) :
 zt zv 169 #[.slice (G ⟨g,0,zx⟩) n cp,AA (n:Int),.func (.func fc) #[] #[]] w λe w'=>e=.returned (.tuple #[])∧∃l':List St,l'.Perm l∧(Stf f l l'∧Srt f l' 0 n)∧Blk w' g 127 (AF St.cells l'++rs)∧Fr (λk=>k=g) w w':=by
 have hp_l:l.Perm l:=Fg _;have hn_l:l.length=n:=hn;refine sx_enter (vs:=[_,_,_]) func169 X ntmps169 X ?_;have M:Mem w (λk=>k=g) [As.blk g 127 (AF St.cells l++rs)] w:=Mem.one hb;refine V ?_;refine flp [6,2,1,0] (λze e wr mz=>∃(x:Nat) (l1:List St),e=(7,AA (x:Int))::(8,AA ((x+20:Nat):Int))::ze∧Mem w (λk=>k=g) [As.blk g 127 (AF St.cells l1++rs)] wr∧(x≤n)∧(Bk1 f l l1 x)∧(l1.Perm l)∧(l1.length=n)∧mz=n-x) ⟨0,l,X,M,Aj _,Bk1.start l,hp_l,hn_l,X⟩ ?_;rintro _ w1 _ ⟨x,l1,rfl,M,hx,hB1,hp_l1,hn_l1,rfl⟩;refine V ?_;refine a1c X X (V ?_);refine AC X (λh13=>?_) (λh13=>?_)
 ·have h13p:=odt h13;refine V ?_;refine cl 18 X (AE X X call206) (mI g n cp fc fq f rs x (x+20) hfc hcmp hfq hm l1 _ (M.blk 0 X) hn_l1 A0 A0) ?_;rintro _ w2 ⟨rfl,l1,hqw2,hrw2,hbw2,hfw2⟩;refine cq ?_;have M:=M.putB 0 X hbw2 hfw2;have hp_l1:l1.Perm l:=hqw2.trans hp_l1;have hn_l1:l1.length=n:=hqw2.length_eq.trans hn_l1;refine V ?_;refine D3 X X (V ?_);refine fag ⟨x+20,l1,X,M,?_,?_,?_,?_,X⟩
  ·omega
  ·exact hB1.step (by assumption)
  ·first
    | assumption
    | (refine (E2 ?_ ?_).trans (by assumption)<;>assumption)
  first
   | assumption
   | (simp;assumption)
 have h13p:=odf h13;refine V ?_;refine cl 27 X (AE X X call206) (mI g n cp fc fq f rs x n hfc hcmp hfq hm l1 _ (M.blk 0 X) hn_l1 A0 A0) ?_;rintro _ w3 ⟨rfl,l2,hqw3,hrw3,hbw3,hfw3⟩;refine cq ?_;have M:=M.putB 0 X hbw3 hfw3;have hp_l2:l2.Perm l:=hqw3.trans hp_l1;have hn_l2:l2.length=n:=hqw3.length_eq.trans hn_l1;refine V ?_;refine flp [2,1,0] (λze e wr mz=>∃(z:Nat) (l2:List St),e=(6,AA (z:Int))::ze∧Mem w (λk=>k=g) [As.blk g 127 (AF St.cells l2++rs)] wr∧(20≤z∧z≤2*n+20)∧(Bks f l l2 n z 0)∧(l2.Perm l)∧(l2.length=n)∧mz=n-z) ⟨20,l2,X,M,A0,hB1.done (by assumption),hp_l2,hn_l2,rfl⟩ ?_;rintro _ w4 _ ⟨z,l2,rfl,M,hz,hB,hp_l2,hn_l2,rfl⟩;refine V ?_;refine G1 X X (V ?_);refine AC X (λh30=>?_) (λh30=>?_)
 ·have h30p:=odt h30;refine V ?_;refine ya X (aQ (a:=2) (b:=z) X X X A0) (V ?_);refine flp [6,2,1,0] (λze e wr mz=>∃(y:Nat) (y8:Nat) (l3:List St),e=(7,AA (y:Int))::(8,AA (y8:Int))::ze∧Mem w (λk=>k=g) [As.blk g 127 (AF St.cells l3++rs)] wr∧(y≤n)∧(y8=y+2*z)∧(Bks f l l3 n z y)∧(l3.Perm l)∧(l3.length=n)∧mz=n-y) ⟨0,(2*z),l2,X,M,Aj _,A0,hB,hp_l2,hn_l2,rfl⟩ ?_;rintro _ w5 _ ⟨y,y8,l3,rfl,M,hy,hy8,hBy,hp_l3,hn_l3,rfl⟩;refine V ?_;refine a1c X X (V ?_);refine AC X (λh35=>?_) (λh35=>?_)
  ·have h35p:=odt h35;refine V ?_;refine D3 X X (V ?_);refine cl 43 X (AE X X call207) (rP g n cp fc fq f rs hfc hcmp hfq hm n y (y+z) y8 l3 _ A0 A0 A0 A0 (M.blk 0 X) hn_l3 (hBy.l1 A0 A0) (hBy.l2 A0 A0)) ?_;rintro _ w6 ⟨rfl,l3,hqw6,hrw6,hbw6,hfw6⟩;refine cq ?_;have M:=M.putB 0 X hbw6 hfw6;have hp_l3:l3.Perm l:=hqw6.trans hp_l3;have hn_l3:l3.length=n:=hqw6.length_eq.trans hn_l3;refine V ?_;refine ya X (aQ (a:=2) (b:=z) X X X A0) (D3 X X (V ?_));refine fag ⟨y8,y8+(2*z),l3,X,M,?_,?_,?_,?_,?_,X⟩
   ·omega
   ·omega
   ·subst hy8;exact hBy.step A0 (by assumption)
   ·first
     | assumption
     | (refine (E2 ?_ ?_).trans (by assumption)<;>assumption)
   first
    | assumption
    | (simp;assumption)
  have h35p:=odf h35;refine V ?_;refine D3 X X (V ?_);refine G1 X X (V ?_);refine AC X (λh54=>?_) (λh54=>?_)
  ·have h54p:=odt h54;refine V ?_;refine cl 60 X (AE X X call207) (rP g n cp fc fq f rs hfc hcmp hfq hm n y (y+z) n l3 _ A0 A0 A0 A0 (M.blk 0 X) hn_l3 (hBy.l1 A0 A0) (hBy.l2 A0 A0)) ?_;rintro _ w7 ⟨rfl,l4,hqw7,hrw7,hbw7,hfw7⟩;refine cq ?_;have M:=M.putB 0 X hbw7 hfw7;have hp_l4:l4.Perm l:=hqw7.trans hp_l3;have hn_l4:l4.length=n:=hqw7.length_eq.trans hn_l3;refine V ?_;refine ya X (aQ (a:=z) (b:=2) X X X A0) (V ?_);refine fag ⟨z*2,l4,X,M,?_,?_,?_,?_,X⟩
   ·omega
   ·first
     | exact VS (hBy.next A0)
     | exact VS (hBy.next2 (by assumption))
   ·first
     | assumption
     | (refine (E2 ?_ ?_).trans (by assumption)<;>assumption)
   first
    | assumption
    | (simp;assumption)
  have h54p:=odf h54;refine V ?_;refine ya X (aQ (a:=z) (b:=2) X X X A0) (V ?_);refine fag ⟨z*2,l3,X,M,?_,?_,?_,?_,X⟩
  ·omega
  ·first
    | exact VS (hBy.next A0)
    | exact VS (hBy.next2 (by assumption))
  ·first
    | assumption
    | (refine (E2 ?_ ?_).trans (by assumption)<;>assumption)
  first
   | assumption
   | (simp;assumption)
 have h30p:=odf h30;refine V ?_;exact qx_ret0 (Or.inr X) X ⟨X,l2,hp_l2,hB.done A0,M.blk 0 X,M.fr⟩
theorem iV (g n cp:Nat) (fc:FuncId) (fq:St→St→Int) (f:St→Int) (rs:Kx) (hfc:∀(ar:Array Kv) (w:Kw),(callFunc fc ar).run zv w=.ok (.enter fc ar) w) (hcmp:∀(a b:St) (w:Kw),zt zv fc #[.agg a.cells.toArray,.agg b.cells.toArray] w (BR w (AA (fq a b)))) (hfq:∀a b,fq a b<0↔f a<f b) (hm:n≤1000000000) (l:List St) (w:Kw) (hb:Blk w g 127 (AF St.cells l++rs)) (hn:l.length=n) :
 zt zv 106 #[.slice (G ⟨g,0,zx⟩) n cp,.func (.func fc) #[] #[]] w λe w'=>e=.returned (.tuple #[])∧∃l':List St,l'.Perm l∧(Stf f l l'∧Srt f l' 0 n)∧Blk w' g 127 (AF St.cells l'++rs)∧Fr (λk=>k=g) w w':=by
 have hp_l:l.Perm l:=Fg _;have hn_l:l.length=n:=hn;refine sx_enter (vs:=[_,_]) func106 X ntmps106 X ?_;have M:Mem w (λk=>k=g) [As.blk g 127 (AF St.cells l++rs)] w:=Mem.one hb;refine W ?_;refine cl 8 X (AE X X call169) (s6 g n cp fc fq f rs hfc hcmp hfq hm l _ (M.blk 0 X) hn_l) ?_;rintro _ w1 ⟨rfl,l1,hqw1,hrw1,hbw1,hfw1⟩;refine cq ?_;have M:=M.putB 0 X hbw1 hfw1;have hp_l1:l1.Perm l:=hqw1.trans hp_l;have hn_l1:l1.length=n:=hqw1.length_eq.trans hn_l;exact sxl_nil (qx_ret0 (Or.inr X) X ⟨X,l1,hp_l1,hrw1,M.blk 0 X,M.fr⟩)
theorem uX (A:Ky) (cp:Nat) (fc:FuncId) (w:Kw):zt zv 206 #[.slice A 0 cp,AA 0,AA 0,.func (.func fc) #[] #[]] w (BR w (.tuple #[])):=by
 refine BO func206 ntmps206 X λM=>W ?_
 refine sx_loop (λe wr mz=>e=[(0,.slice A 0 cp),(1,AA 0),(2,AA 0),(3,.func (.func fc) #[] #[]),(8,AA 1)]∧Mem w AR [] wr∧mz=0) ⟨X,M,X⟩ ⟨X,X,X,X,X,zw⟩ ?_;rintro _ w1 _ ⟨rfl,M,rfl⟩;refine W ?_;exact qx_ret0 (Or.inr X) X ⟨X,M.fr⟩
theorem nN (A:Ky) (cp:Nat) (fc:FuncId) (w:Kw):zt zv 169 #[.slice A 0 cp,AA 0,.func (.func fc) #[] #[]] w (BR w (.tuple #[])):=by
 refine BO func169 ntmps169 X λM=>W ?_
 refine sx_loop (λe wr mz=>e=[(0,.slice A 0 cp),(1,AA 0),(2,.func (.func fc) #[] #[]),(6,AA 20),(7,AA 0),(8,AA 20)]∧Mem w AR [] wr∧mz=0) ⟨X,M,X⟩ ⟨X,X,X,X,X,X,zw⟩ ?_;rintro _ w1 _ ⟨rfl,M,rfl⟩;refine W ?_;refine CQ M 27 X X call206 (uX A cp fc _) λw2 M=>W ?_
 refine sx_loop (λe wr mz=>e=[(0,.slice A 0 cp),(1,AA 0),(2,.func (.func fc) #[] #[]),(6,AA 20)]∧Mem w AR [] wr∧mz=0) ⟨X,M,X⟩ ⟨X,X,X,X,zw⟩ ?_;rintro _ w3 _ ⟨rfl,M,rfl⟩;refine W ?_;exact qx_ret0 (Or.inr X) X ⟨X,M.fr⟩
theorem nO (A:Ky) (cp:Nat) (fc:FuncId) (w:Kw):zt zv 106 #[.slice A 0 cp,.func (.func fc) #[] #[]] w (BR w (.tuple #[])):=by
 refine BO func106 ntmps106 X λM=>W ?_
 exact CQ M 8 X X call169 (nN A cp fc _) λw1 M=>sxl_nil (qx_ret0 (Or.inr X) X ⟨X,M.fr⟩)
theorem sF (base:Nat) (A:Ky) (c n:Nat) (fc:FuncId) (fq:St→St→Int) (f:St→Int) (l:List St) (w:Kw) (hfc:∀(ar:Array Kv) (w:Kw),(callFunc fc ar).run zv w=.ok (.enter fc ar) w) (hcmp:∀(a b:St) (w:Kw),zt zv fc #[.agg a.cells.toArray,.agg b.cells.toArray] w (BR w (AA (fq a b)))) (hfq:∀a b,fq a b<0↔f a<f b) (hm:n≤1000000000) (hn:l.length=n) (ho:w.ownsRow base 127 10 (.slice A n c) n (AF St.cells l)) :
 zt zv 106 #[.slice A n c,.func (.func fc) #[] #[]] w λe w'=>e=.returned (.tuple #[])∧∃l':List St,l'.Perm l∧(Stf f l l'∧Srt f l' 0 n)∧w'.ownsRow base 127 10 (.slice A n c) n (AF St.cells l')∧Fr (λk=>k∈(Value.slice A n c).ownBlock.toList) w w':=by
 rcases ho.2 with ⟨hv,h0⟩|⟨g,cap,cur,hv,hg,hb,hnc,hcm,hcs,ht⟩
 ·subst h0;refine (nO A c fc w).mono ?_;rintro e w' ⟨rfl,hf⟩;exact ⟨X,l,Fg _,⟨Stf.refl l,λq h1 h2=>absurd h2 A0⟩,(As.own base 127 10 (.slice A 0 c) 0 (AF St.cells l)).keep (λk _ hk=>hf.block k hk (λhh=>hh)) ho,Fr.of0 hf⟩
 injection hv with e1 _ e3
 subst e1;subst e3;have hfl:(AF St.cells l).length=n*10:=by rw [I3 St.len,hn]
 have hcl:cur.toList=AF St.cells l++cur.toList.drop (n*10):=by rw [←ht,Dd]
 have hb':Blk w g 127 (AF St.cells l++cur.toList.drop (n*10)):=by rw [←hcl,Blk,Gd];exact hb
 refine (iV g n c fc fq f (cur.toList.drop (n*10)) hfc hcmp hfq hm l w hb' hn).mono ?_;rintro e w' ⟨rfl,l',hp,hst,hb2,hf⟩;have hl':(AF St.cells l').length=n*10:=by rw [I3 St.len,hp.length_eq,hn]
 refine ⟨X,l',hp,hst,⟨hl',.inr ⟨g,c,_,X,hg,hb2,hnc,hcm,?_,?_⟩⟩,hf.mono λk _ hk=>?_⟩
 ·have:=Bf List.length hcl
  rw [Array.length_toList,Am,hfl] at this
  rw [List.size_toArray,Am,hl',←hcs];omega
 ·rw [Hb hl']
 subst hk;simp [Value.ownBlock]
end Go.Proofs.YtppmdnmjepkfaaaGreatDoor
