/- Lemmas. -/
import Derived.Test.YtppmdnmjepkfaaaGreatDoorYR10c
import Derived.Test.YtppmdnmjepkfaaaGreatDoorYR14c
import Derived.Test.YtppmdnmjepkfaaaGreatDoorYMlRow
set_option maxHeartbeats 16000000
set_option maxRecDepth 100000
namespace Go.Proofs.YtppmdnmjepkfaaaGreatDoor
open Go.RowKit
open Tryz
section
theorem a0l (s:Kz) (gx:Nat) (hl:s.length≤256):∀f:Nat,RefOK s gx f (DQ s f)
 | 0=>⟨WF s 0,λ_ _ _ _ h=>absurd h (Dl _),λ_ _ _ _ h=>absurd h (Dl _),λ_ _ _ _ h=>absurd h (Dl _),λ_ _ _ _ h=>absurd h (Dl _),λ_ _ _ _ h=>absurd h (Dl _),λ_ _ _ _ h=>absurd h (Dl _)⟩
 | f+1=>
  have hF:=a0l s gx hl f
  ⟨WF s (f+1),λy w hb hy hm=>xF hF y w hb hy (Dw hm) hl,λy w hb hy hm=>dI hF y w hb hy (Dw hm) hl,λy w hb hy hm=>dH hF y w hb hy (Dw hm) hl,λy w hb hy hm=>dG hF y w hb hy (Dw hm) hl,λy w hb hy hm=>Z4 hF y w hb hy (Dw hm) hl,λy w hb hy hm=>WC hF y w hb hy (Dw hm) hl⟩
theorem U5 {s:Kz} (h:(256:Int)<(s.length:Int)):CX s=(.zero,0,3):=if_pos A0
theorem a0k {s:Kz} (h1:((decide ((DQ s 258 1 (AQ s rx0)).2.e=(0:Int)))&&(!decide ((((DQ s 258 1 (AQ s rx0)).2.kd:Nat):Int)=0)))=true):(DQ s 258 1 (AQ s rx0)).2.e=0∧¬(DQ s 258 1 (AQ s rx0)).2.kd=0:=⟨odt (EE h1).1,λz=>odf (CJ (EE h1).2) A0⟩
theorem a0j {s:Kz} (h1:((decide ((DQ s 258 1 (AQ s rx0)).2.e=(0:Int)))&&(!decide ((((DQ s 258 1 (AQ s rx0)).2.kd:Nat):Int)=0)))=false):¬((DQ s 258 1 (AQ s rx0)).2.e=0∧¬(DQ s 258 1 (AQ s rx0)).2.kd=0):=λz=>by
 rcases KQ h1 with h1|h1
 ·exact odf h1 z.1
 exact z.2 (by have:=odt (BO h1);omega)
section
variable {s:Kz} (h:¬(256:Int)<((s.length:Nat):Int))
include h
theorem MT : CX s=if (if (DQ s 258 1 (AQ s rx0)).2.e=0∧¬(DQ s 258 1 (AQ s rx0)).2.kd=0 then (DQ s 258 1 (AQ s rx0)).2.fail 4 (DQ s 258 1 (AQ s rx0)).2.tat else (DQ s 258 1 (AQ s rx0)).2).e=0 then ((DQ s 258 1 (AQ s rx0)).1,0,0) else (.zero,(if (DQ s 258 1 (AQ s rx0)).2.e=0∧¬(DQ s 258 1 (AQ s rx0)).2.kd=0 then (DQ s 258 1 (AQ s rx0)).2.fail 4 (DQ s 258 1 (AQ s rx0)).2.tat else (DQ s 258 1 (AQ s rx0)).2).wh,(if (DQ s 258 1 (AQ s rx0)).2.e=0∧¬(DQ s 258 1 (AQ s rx0)).2.kd=0 then (DQ s 258 1 (AQ s rx0)).2.fail 4 (DQ s 258 1 (AQ s rx0)).2.tat else (DQ s 258 1 (AQ s rx0)).2).e):=by
 unfold CX;rw [if_neg (show ¬256<s.length by omega)]
theorem aQ (h1:((decide ((DQ s 258 1 (AQ s rx0)).2.e=(0:Int)))&&(!decide ((((DQ s 258 1 (AQ s rx0)).2.kd:Nat):Int)=0)))=true) (h2:¬((DQ s 258 1 (AQ s rx0)).2.fail 4 (DQ s 258 1 (AQ s rx0)).2.tat).e=0) :
 CX s=(.zero,((DQ s 258 1 (AQ s rx0)).2.fail 4 (DQ s 258 1 (AQ s rx0)).2.tat).wh,((DQ s 258 1 (AQ s rx0)).2.fail 4 (DQ s 258 1 (AQ s rx0)).2.tat).e):=by
 rw [MT h,if_pos (a0k h1),if_neg h2]
theorem aP (h1:((decide ((DQ s 258 1 (AQ s rx0)).2.e=(0:Int)))&&(!decide ((((DQ s 258 1 (AQ s rx0)).2.kd:Nat):Int)=0)))=true) (h2:((DQ s 258 1 (AQ s rx0)).2.fail 4 (DQ s 258 1 (AQ s rx0)).2.tat).e=0):CX s=((DQ s 258 1 (AQ s rx0)).1,0,0):=by
 rw [MT h,if_pos (a0k h1),if_pos h2]
theorem dF (h1:((decide ((DQ s 258 1 (AQ s rx0)).2.e=(0:Int)))&&(!decide ((((DQ s 258 1 (AQ s rx0)).2.kd:Nat):Int)=0)))=false) (h2:¬(DQ s 258 1 (AQ s rx0)).2.e=0):CX s=(.zero,(DQ s 258 1 (AQ s rx0)).2.wh,(DQ s 258 1 (AQ s rx0)).2.e):=by
 rw [MT h,if_neg (a0j h1),if_neg h2]
theorem dE (h1:((decide ((DQ s 258 1 (AQ s rx0)).2.e=(0:Int)))&&(!decide ((((DQ s 258 1 (AQ s rx0)).2.kd:Nat):Int)=0)))=false) (h2:(DQ s 258 1 (AQ s rx0)).2.e=0):CX s=((DQ s 258 1 (AQ s rx0)).1,0,0):=by
 rw [MT h,if_neg (a0j h1),if_pos h2]
end
theorem sB {Xx:Rx} {n:Xn} (h:¬(if Xx.e=0 then ((n,0,0):Xn × Nat × Int) else (.zero,Xx.wh,Xx.e)).2.2=0):(if Xx.e=0 then ((n,0,0):Xn × Nat × Int) else (.zero,Xx.wh,Xx.e)).1=.zero:=by
 by_cases hx:Xx.e=0
 ·rw [if_pos hx] at h;exact absurd rfl h
 rw [if_neg hx]
theorem mY (s:Kz):(CX s).1.sm 1048576:=by
 rcases WR s with ⟨_,_,h⟩|⟨_,h⟩
 ·rw [←h];exact WS s
 have:(CX s).1=.zero:=by
  by_cases h1:(256:Int)<(s.length:Int)
  ·rw [U5 h1]
  rw [MT h1] at h ⊢
  exact sB h
 rw [this];trivial
theorem LU (a0:Kz):prog.built 258 [(0,str a0)]=some #[str a0,AA 0,AA 0,str [],.int .u8 0,AA 0,.bool false,str [],AA 0,AA 0,AA 0]:=by kernel_rfl
theorem nG (s:Kz) (w:Kw) (hs:s.length≤4611686018427387904) :
 Calls prog 162 #[str s] w λe w'=>∃A F,e=.returned (.tuple #[.agg ((CX s).1.cells A).toArray,AA (((CX s).2.1:Nat):Int),AA (CX s).2.2])∧(CX s).1.AtL 213 w' A F∧(∀k∈F,w.heap.size≤k∧k<w'.heap.size)∧Fr0 w w':=by
 refine BR func162 ntmps162 X λM=>W ?_
 refine CI M X BH λg2 w1 hg2 M=>W ?_
 refine ya X (BT X X Aa) (W ?_);refine AB X (λh9=>?_) (λh9=>?_)
 ·have h9p:=odt h9;refine W ?_;refine ya X (B7 (parts:=[]) X X (EQ)) (BY M 0 X X AC X λw2 M=>W ?_);refine IA X X (M.rdBlk 0 X X) Be X AC X X ?_;rw [U5 h9p];exact ⟨none,[],X,⟨X,X⟩,(λk hk=>absurd hk (by simp)),M.fr⟩
 have h9p:=odf h9;refine W ?_;refine ya X (B7 (parts:=[(0,_)]) X X (LU _)) (CO M X X λgx w3 hgx M=>W ?_);refine GL M 0 15 X X (AD X X call199) (OY s rx0 _ _ (M.blk 0 X) (Ae _) A0) λw4 M=>W ?_
 refine cl 17 X (AD X X call200) ((a0l s gx A0 258).c1 (AQ s rx0) _ (M.blk 0 X) C6 (Hk (rU _ _) A0)) ?_;rintro _ w5 ⟨A17,F17,rfl,hat17,hnw17,hbw5,hfw5⟩;have M:=M.putPush 0 X hbw5 hfw5 (As.xn 213 (DQ s 258 1 (AQ s rx0)).1 A17 F17) hat17 hnw17;obtain ⟨hI17,hm17⟩:=(show RxI s (DQ s 258 1 (AQ s rx0)).2∧True from ⟨(WF s 258).I 1 _ C6 (Hk (rU _ _) A0),trivial⟩);refine cq (CI M X BH λg6 w6 hg6 M=>BY M 0 X X AC X λw7 M=>W ?_);refine fvm M 7 [6,5,2] [(30,.bool ((decide ((DQ s 258 1 (AQ s rx0)).2.e=(0:Int)))&&(!decide ((((DQ s 258 1 (AQ s rx0)).2.kd:Nat):Int)=0))))] ?_ (λk23=>?_)
 ·intro w8 M;refine W ?_;refine AB X (λh30=>?_) (λh30=>?_)
  ·refine W ?_;refine GL M 2 37 X X (AD X X call201) (GX s ((DQ s 258 1 (AQ s rx0)).2) _ _ _ _ (M.blk 2 X)) λw9 M=>W ?_
   refine AB X (λh42=>?_) (λh42=>?_)
   ·have h42p:=(odf (CJ h42));refine sx_seq (EC 12 (λw'=>Mem w AR [As.blk g6 213 (Xn.cells ((DQ s 258 1 (AQ s rx0)).1) A17),As.xn 213 ((DQ s 258 1 (AQ s rx0)).1) A17 F17,As.blk gx 258 (Rx.cells s (((DQ s 258 1 (AQ s rx0)).2).fail 4 ((DQ s 258 1 (AQ s rx0)).2.tat)))] w') CA ?_);have M:=M.drew;refine oa 0 12 X X (M.pk [0,1,2]) (λ_ M=>B7 (parts:=[]) X X (EQ)) (oc 1 12 X X (M.pk [0,1,2]) (oc 2 12 X X (M.pk [0,1,2]) (oc 3 12 X X (M.pk [0,1,2]) (ol 4 12 X X X (M.pk [0,1,2]) (λ_ M=>(M.cell 2 X X)) (oc 5 12 X X (M.pk [0,1,2]) (oc 6 12 X X (M.pk [0,1,2]) (oc 7 12 X X (M.pk [0,1,2]) (ol 8 12 X X X (M.pk [0,1,2]) (λ_ M=>(M.cell 2 X X)) (B5 9 none gkr X kw X X (λρ hρ=>BK 213 _ _ X g2 0 213 _ ([.int .u8 0,.int .u8 0,AA 0,.bool false,str [],str [],.slice none 0 0]) (hρ _ _ X) (hρ _ _ X) (M.blk 3 X) AC (CL X) (BW X)) ?_)))))))));rintro _ w10 ⟨rfl,hbw10,hfw10⟩
    replace M:Mem w AR (List.set _ 3 (As.blk g2 213 [.int .u8 0,.int .u8 0,AA 0,.bool false,str [],str [],.slice none 0 0])) w10:=M.putB 3 rfl hbw10 hfw10
    refine ⟨λ_=>(M.pk [0,1,2]),oc 10 12 X X (M.pk [0,1,2]) (oc 11 12 X X (M.pk [0,1,2]) (fdn (W ?_)))⟩;refine IA X X (M.rdBlk 3 X X) Be X AC X X ?_;rw [aQ h9p h30 h42p];exact ⟨none,[],X,⟨X,X⟩,(λk hk=>absurd hk (by simp)),M.fr⟩
   have h42p:=(odt (BO h42));refine W ?_;refine CH M 0 X X Be AC X (BY M 3 X X AC X λw11 M=>W ?_);refine IA X X (M.rdBlk 3 X X) Be X AC X X ?_;rw [aP h9p h30 h42p];exact ⟨_,_,X,M.ok 1 _ X,M.new0 1 X,M.fr⟩
  have h30p:=bd h30;refine W ?_;refine AB X (λh42=>?_) (λh42=>?_)
  ·have h42p:=(odf (CJ h42));refine sx_seq (EC 12 (λw'=>Mem w AR [As.blk g6 213 (Xn.cells ((DQ s 258 1 (AQ s rx0)).1) A17),As.xn 213 ((DQ s 258 1 (AQ s rx0)).1) A17 F17,As.blk gx 258 (Rx.cells s ((DQ s 258 1 (AQ s rx0)).2))] w') CA ?_);have M:=M.drew;refine oa 0 12 X X (M.pk [0,1,2]) (λ_ M=>B7 (parts:=[]) X X (EQ)) (oc 1 12 X X (M.pk [0,1,2]) (oc 2 12 X X (M.pk [0,1,2]) (oc 3 12 X X (M.pk [0,1,2]) (ol 4 12 X X X (M.pk [0,1,2]) (λ_ M=>(M.cell 2 X X)) (oc 5 12 X X (M.pk [0,1,2]) (oc 6 12 X X (M.pk [0,1,2]) (oc 7 12 X X (M.pk [0,1,2]) (ol 8 12 X X X (M.pk [0,1,2]) (λ_ M=>(M.cell 2 X X)) (B5 9 none gkr X kw X X (λρ hρ=>BK 213 _ _ X g2 0 213 _ ([.int .u8 0,.int .u8 0,AA 0,.bool false,str [],str [],.slice none 0 0]) (hρ _ _ X) (hρ _ _ X) (M.blk 3 X) AC (CL X) (BW X)) ?_)))))))));rintro _ w12 ⟨rfl,hbw12,hfw12⟩
   replace M:Mem w AR (List.set _ 3 (As.blk g2 213 [.int .u8 0,.int .u8 0,AA 0,.bool false,str [],str [],.slice none 0 0])) w12:=M.putB 3 rfl hbw12 hfw12
   refine ⟨λ_=>(M.pk [0,1,2]),oc 10 12 X X (M.pk [0,1,2]) (oc 11 12 X X (M.pk [0,1,2]) (fdn (W ?_)))⟩;refine IA X X (M.rdBlk 3 X X) Be X AC X X ?_;rw [dF h9p h30 h42p];exact ⟨none,[],X,⟨X,X⟩,(λk hk=>absurd hk (by simp)),M.fr⟩
  have h42p:=(odt (BO h42));refine W ?_;refine CH M 0 X X Be AC X (BY M 3 X X AC X λw13 M=>W ?_);refine IA X X (M.rdBlk 3 X X) Be X AC X X ?_;rw [dE h9p h30 h42p];exact ⟨_,_,X,M.ok 1 _ X,M.new0 1 X,M.fr⟩
 refine A1 (d:=23) X (λh23=>?_) (λh23=>?_)
 ·refine T7 ?_;exact k23 M
 refine T7 ?_;exact k23 M
def rkn (n:Xn):Nat:=(if ((decide ((n.op.toNat:Int)=(1:Int))) || (decide ((n.op.toNat:Int)=(2:Int))))=true then 0 else (if ((decide ((n.op.toNat:Int)=(3:Int))) || (decide ((n.op.toNat:Int)=(4:Int))))=true then 1 else 2))
theorem a1j {n:Xn} {m:Nat} (hl:m=n.nk) (h5:((decide ((n.op.toNat:Int)<1)) || (decide (17<(n.op.toNat:Int))))=false):decide ((m:Int)=((rkn n:Nat):Int))=decide ((n.nk:Int)=IC n.op):=by
 subst hl
 have e:IC n.op=((rkn n:Nat):Int):=by
  unfold IC rkn;rw [AM h5];have h1:=odf (G8 h5).1
  have a12:((decide ((n.op.toNat:Int)=1)) || (decide ((n.op.toNat:Int)=2)))=decide ((n.op.toNat:Int)≤2):=by
   by_cases a:(n.op.toNat:Int)=1
   ·rw [decide_eq_true a,decide_eq_true (show (n.op.toNat:Int)≤2 by omega)];rfl
   rw [decide_eq_false a,Fs];exact decide_eq_decide.2 A0
  rw [a12]
  by_cases a:(n.op.toNat:Int)≤2
  ·rw [if_pos (decide_eq_true a),if_pos (decide_eq_true a)];rfl
  have na:¬decide ((n.op.toNat:Int)≤2)=true:=λz=>a (odt z)
  have a34:((decide ((n.op.toNat:Int)=3)) || (decide ((n.op.toNat:Int)=4)))=decide ((n.op.toNat:Int)≤4):=by
   by_cases b:(n.op.toNat:Int)=3
   ·rw [decide_eq_true b,decide_eq_true (show (n.op.toNat:Int)≤4 by omega)];rfl
   rw [decide_eq_false b,Fs];exact decide_eq_decide.2 A0
  rw [if_neg na,if_neg na,a34]
  by_cases b:(n.op.toNat:Int)≤4
  ·rw [if_pos (decide_eq_true b),if_pos (decide_eq_true b)];rfl
  have nb:¬decide ((n.op.toNat:Int)≤4)=true:=λz=>b (odt z)
  rw [if_neg nb,if_neg nb];rfl
 rw [e]
theorem a04 {v:Vl} (h:chk v=0) (hi:v.int<0):(v.kind.toNat:Int)=1:=by
 have h1:vOk v=true:=by
  cases hv:vOk v with
  | true=>rfl
  | false=>rw [JQ hv] at h;cases h
 unfold vOk at h1
 split at h1
 ·rename_i hk;rw [hk];rfl
 split at h1
 ·have:=odt (EE h1).1;omega
 split at h1
 ·have:=odt (EE h1).1;omega
 cases h1
theorem bY (n:Xn) (k:Bool):HX n k=(!(((!decide ((n.nk:Int)=IC n.op)) || ((!decide ((n.op.toNat:Int)=1))&&(!(n.vl.same zeroVl)))) || ((!decide ((n.op.toNat:Int)=2))&&(!decide (n.nm=[]))))&&(!(((decide ((n.op.toNat:Int)=1))&&((!decide ((chk n.vl)=(0:Int))) || (decide (n.vl.int<(0:Int))))))&&(!(((decide ((n.op.toNat:Int)=2))&&((!(B6 n.nm)) || (IE n.nm)))) && !k))):=by
 unfold HX
 generalize decide ((n.nk:Int)=IC n.op)=p
 generalize decide ((n.op.toNat:Int)=1)=q
 generalize n.vl.same zeroVl=V
 generalize decide ((n.op.toNat:Int)=2)=r
 generalize decide (n.nm=[])=E
 generalize decide ((chk n.vl)=(0:Int))=C
 generalize decide (n.vl.int<(0:Int))=G
 generalize B6 n.nm=N
 generalize IE n.nm=K
 clear n
 decide +revert +kernel
section
variable {n:Xn} {m:Nat} {k:Bool} (hl:m=n.nk) (h5:((decide ((n.op.toNat:Int)<(1:Int))) || (decide ((17:Int)<(n.op.toNat:Int))))=false)
include hl h5
theorem RM : HX n k=(!(((!decide ((m:Int)=(((rkn n):Nat):Int))) || ((!decide ((n.op.toNat:Int)=1))&&(!(n.vl.same zeroVl)))) || ((!decide ((n.op.toNat:Int)=2))&&(!decide (n.nm=[]))))&&(!(((decide ((n.op.toNat:Int)=1))&&((!decide ((chk n.vl)=(0:Int))) || ((decide ((n.vl.kind.toNat:Int)=1))&&(decide (n.vl.int<(0:Int)))))))&&(!(((decide ((n.op.toNat:Int)=2))&&((!(B6 n.nm)) || (IE n.nm)))) && !k))):=by
 rw [bY,a1j hl h5]
 have e:((!decide ((chk n.vl)=(0:Int))) || ((decide ((n.vl.kind.toNat:Int)=1))&&(decide (n.vl.int<(0:Int)))))=((!decide ((chk n.vl)=(0:Int))) || (decide (n.vl.int<(0:Int)))):=by
  by_cases a:chk n.vl=0
  ·by_cases b:n.vl.int<0
   ·rw [decide_eq_true (a04 a b),Em]
   rw [decide_eq_false b,Ed]
  rw [decide_eq_false a];rfl
 rw [e]
theorem a2m (h57:(((!decide ((m:Int)=(((rkn n):Nat):Int))) || ((!decide ((n.op.toNat:Int)=1))&&(!(n.vl.same zeroVl)))) || ((!decide ((n.op.toNat:Int)=2))&&(!decide (n.nm=[]))))=true):HX n k=false:=by rw [RM hl h5,h57];rfl
theorem a2l (h57:(((!decide ((m:Int)=(((rkn n):Nat):Int))) || ((!decide ((n.op.toNat:Int)=1))&&(!(n.vl.same zeroVl)))) || ((!decide ((n.op.toNat:Int)=2))&&(!decide (n.nm=[]))))=false) (h78:((decide ((n.op.toNat:Int)=1))&&((!decide ((chk n.vl)=(0:Int))) || ((decide ((n.vl.kind.toNat:Int)=1))&&(decide (n.vl.int<(0:Int))))))=true):HX n k=false:=by rw [RM hl h5,h57,h78];rfl
theorem a2k (h57:(((!decide ((m:Int)=(((rkn n):Nat):Int))) || ((!decide ((n.op.toNat:Int)=1))&&(!(n.vl.same zeroVl)))) || ((!decide ((n.op.toNat:Int)=2))&&(!decide (n.nm=[]))))=false) (h92:((decide ((n.op.toNat:Int)=2))&&((!(B6 n.nm)) || (IE n.nm)))=true):HX n k=false:=by rw [RM hl h5,h57,h92];simp
theorem a1k (h57:(((!decide ((m:Int)=(((rkn n):Nat):Int))) || ((!decide ((n.op.toNat:Int)=1))&&(!(n.vl.same zeroVl)))) || ((!decide ((n.op.toNat:Int)=2))&&(!decide (n.nm=[]))))=false) (h78:((decide ((n.op.toNat:Int)=1))&&((!decide ((chk n.vl)=(0:Int))) || ((decide ((n.vl.kind.toNat:Int)=1))&&(decide (n.vl.int<(0:Int))))))=false) (h92:((decide ((n.op.toNat:Int)=2))&&((!(B6 n.nm)) || (IE n.nm)))=false):HX n false=true:=by rw [RM hl h5,h57,h78,h92];rfl
end
theorem a2j (n:Xn):HX n true=false:=by rw [bY];simp
theorem a2n {n:Xn} {k:Bool} (h5:((decide ((n.op.toNat:Int)<1)) || (decide (17<(n.op.toNat:Int))))=true):HX n k=false:=by
 have e:IC n.op = -1:=by unfold IC;rw [if_pos h5]
 rw [bY,e,decide_eq_false (show ¬(n.nk:Int) = -1 by omega)];rfl
theorem rZ (n:Xn) (A:Ky) (L:List Xq) (f:Xq→Bool) (w:Kw) (hs:n.sm 1048576) (hl:L.length=n.nk) (hl2:L.length≤2) (hR:Rd w A (L.length*7) (AE Xq.cells L)) (hC:∀q∈L,∀W,Fr0 w W→Calls prog 202 #[.agg (Xq.cells q).toArray] W λe W'=>e=.returned (.bool (f q))∧Fr0 W W') :
 Calls prog 202 #[.agg (O0 n A L.length).toArray] w (BS w (.bool (HX n (L.any λq => !f q)))):=by
 refine BR func202 ntmps202 X λM=>srg (DG M (wn_none X) X X 213 X X (O0 n A L.length) X λg1 w1 hg1 M=>CQ X (srg (CQ X (sx_seq (JC ([(1,pg g1),(3,AA (((rkn n):Nat):Int))]) (λw'=>Mem w AR [As.blk g1 213 (O0 n A L.length)] w'∧((decide ((n.op.toNat:Int)<1)) || (decide (17<(n.op.toNat:Int))))=false) ?_ (λkj0=>?_))))))
 ·rintro w2 ⟨M,h5⟩;refine qx_seq (sx_seq (CB X (FV M 0 X X X (UR X X (yb X (tY X X (yb X (fvm M 10 [1] [(47,.bool ((!decide ((L.length:Int)=(((rkn n):Nat):Int))) || ((!decide ((n.op.toNat:Int)=1))&&(!(n.vl.same zeroVl)))))] ?_ (λk37=>?_)))))))))
  ·intro w3 M;refine yb X (fvm M 9 [1] [(57,.bool (((!decide ((L.length:Int)=(((rkn n):Nat):Int))) || ((!decide ((n.op.toNat:Int)=1))&&(!(n.vl.same zeroVl)))) || ((!decide ((n.op.toNat:Int)=2))&&(!decide (n.nm=[])))))] ?_ (λk48=>?_))
   ·intro w4 M;refine nq (AB X (λh57=>?_) (λh57=>?_))
    ·have h57p:=((PM h57).imp (λz=>((PM z).imp (λz=>(odf (CJ z))) (λz=>(And.intro (odf (CJ (EE z).1)) (EE z).2)))) (λz=>(And.intro (odf (CJ (EE z).1)) (odf (CJ (EE z).2)))));exact CB X (gnr (qx_then_ret (gr1 X ⟨by rw [a2m hl h5 h57],M.fr⟩)))
    have h57p:=(And.intro (And.intro (odt (BO (G8 (G8 h57).1).1)) ((KQ (G8 (G8 h57).1).2).imp (λz=>(odt (BO z))) (λz=>z))) ((KQ (G8 h57).2).imp (λz=>(odt (BO z))) (λz=>(odt (BO z)))));refine sx_skip (qx_seq (sx_seq (CB X (FV M 0 X X X (JJ X X (yb X (fvm M 17 [1] [(78,.bool ((decide ((n.op.toNat:Int)=1))&&((!decide ((chk n.vl)=(0:Int))) || ((decide ((n.vl.kind.toNat:Int)=1))&&(decide (n.vl.int<(0:Int)))))))] ?_ (λk61=>?_))))))))
    ·intro w5 M;refine nq (AB X (λh78=>?_) (λh78=>?_))
     ·have h78p:=(And.intro (odt (EE h78).1) ((PM (EE h78).2).imp (λz=>(odf (CJ z))) (λz=>(And.intro (odt (EE z).1) (odt (EE z).2)))));exact CB X (gnr (qx_then_ret (gr1 X ⟨by rw [a2l hl h5 h57 h78],M.fr⟩)))
     have h78p:=((KQ h78).imp (λz=>(odf z)) (λz=>(And.intro (odt (BO (G8 z).1)) ((KQ (G8 z).2).imp (λz=>(odf z)) (λz=>(odf z))))));refine sx_skip (qx_seq (sx_seq (CB X (FV M 0 X X X (JJ X X (yb X (fvm M 10 [1] [(92,.bool ((decide ((n.op.toNat:Int)=2))&&((!(B6 n.nm)) || (IE n.nm))))] ?_ (λk82=>?_))))))))
     ·intro w6 M;refine nq (AB X (λh92=>?_) (λh92=>?_))
      ·have h92p:=(And.intro (odt (EE h92).1) ((PM (EE h92).2).imp (λz=>(CJ z)) (λz=>z)));exact CB X (gnr (qx_then_ret (gr1 X ⟨by rw [a2k hl h5 h57 h92],M.fr⟩)))
      have h92p:=((KQ h92).imp (λz=>(odf z)) (λz=>(And.intro (BO (G8 z).1) (G8 z).2)));refine sx_skip (qx_seq (sx_seq (srg (CQ X (sx_block (EF M [1] (λze zF e wr mz=>∃(i:Nat),e=(4,AA (i:Int))::ze∧zF wr∧(i≤L.length)∧((L.any λq => !f q)=((L.drop i).any λq => !f q))∧mz=L.length-i) ⟨0,X,M,Ae _,X,X⟩ ?_))))));rintro _ w7 _ ⟨i,rfl,M,hi,hE,rfl⟩;refine sx_seq (CB X (yb X (FV M 0 X X X (UR X X (GB X X (nq (AB X (λh97=>?_) (λh97=>?_))))))))
      ·have h97p:=(odt h97);refine sx_skip (qx_seq (sx_seq (sx_block (CB X (FV M 0 X X X (yb X ?_))))));obtain ⟨x,hx⟩:=EP (l:=L) (i:=i) A0;obtain ⟨b_x,o_x,hA_x⟩:=E3 (k:=7) A0 (hR.fr0 M.fr) hx;refine ya X (AK i hA_x X X X (sl X) A0) (ya X (AI X X (BM Xq.len (hR.fr0 M.fr) hA_x hx) Be X AC) (CW M 105 X X call202 (hC x (Ac hx) _ M.fr) λw8 M=>CQ X (AB X (λh106=>?_) (λh106=>?_))))
       ·exact CB X (gnr (qx_block_ret (qx_then_ret (qx_then_ret (qx_block_ret (qx_then_ret (gr1 X ⟨by rw [show (L.any λq => !f q)=true by rw [hE,AG hx,Dr,h106,Bool.true_or],a2j],M.fr⟩)))))))
       have h106p:=(BO h106);refine sx_skip (qx_block_normal (qx_seq (sx_region (yb X (CZ X X (yb X (sxl_nil (fag ⟨i+1,X,M,?_,?_,X⟩))))))))
       ·omega
       rw [hE,AG hx,Dr,h106,Fs]
      have h97p:=(odf h97);exact sx_exit (qx_then_exit (qx_then_exit (qx_block_hit (qx_seq (CB X (gnr (gr1 X ⟨by rw [show (L.any λq => !f q)=false by rw [hE,show i=L.length by omega,Am];rfl,a1k hl h5 h57 h78 h92],M.fr⟩)))))))
     refine A1 (d:=82) X (λh82=>?_) (λh82=>?_)
     ·have h82p:=(odt h82);refine gyq X (QK M 0 X X X (JB (wn_on X X X) X X (AD X X call34) (G7 n.nm _ (by have:=n.sm_nm hs;omega)) (gyq X (gyq X (fvm M 4 [82,1] [(91,.bool ((!(B6 n.nm)) || (IE n.nm)))] ?_ (λk87=>?_))))))
      ·intro w9 M;exact yb X (k82 M ⟨X,(by rw [h82];rfl),trivial⟩)
      refine A1 (d:=87) X (λh87=>?_) (λh87=>?_)
      ·exact yo X (yo X (yo X (gyq X (k87 M ⟨X,X,(by rw [h87];rfl),trivial⟩))))
      refine gyq X (QK M 0 X X X (sxl_call (some 90) (wn_on X X X) X X (AD X X call221) (dN _ _) ?_));rintro _ w10 ⟨rfl,hfw10⟩;refine ⟨_,X,?_⟩;have M:=M.step hfw10;exact gyq X (k87 M ⟨X,X,(by rw [h87];rfl),trivial⟩)
     iterate 5 refine yo X ?_
     exact DZ X X X X X (DZ X X X X X (DZ X X X X X (yo X (yb X (k82 M ⟨X,(by rw [h82];rfl),trivial⟩)))))
    refine A1 (d:=61) X (λh61=>?_) (λh61=>?_)
    ·have h61p:=(odt h61);refine gyq X (yd X (AI (xs:=[.int .u8 (n.vl.kind.toNat:Int),AA n.vl.int,.bool n.vl.bool,str n.vl.text]) X X (DR (M.blk 0 X) 1 4 X X) Br X BQ) (sxl_call (some 64) (wn_on X X X) X X (AD X X call35) (P3 n.vl _ (by have:=n.sm_vl hs;omega)) ?_));rintro _ w11 ⟨rfl,hfw11⟩;refine ⟨_,X,?_⟩;have M:=M.step hfw11;refine yd X (MC X X X) (gyq X (fvm M 11 [61,1] [(77,.bool ((!decide ((chk n.vl)=(0:Int))) || ((decide ((n.vl.kind.toNat:Int)=1))&&(decide (n.vl.int<(0:Int))))))] ?_ (λk66=>?_)))
     ·intro w12 M;exact yb X (k61 M ⟨X,(by rw [h61];rfl),trivial⟩)
     refine A1 (d:=66) X (λh66=>?_) (λh66=>?_)
     ·iterate 5 refine yo X ?_
      iterate 4 refine DZ X X X X X ?_
      exact yo X (gyq X (k66 M ⟨X,X,(by rw [h66];rfl),trivial⟩))
     refine gyq X (gyq X (QK M 0 X X X (yd X (ES X X X) (gyq X (fvm M 5 [66,61,1] [(76,.bool ((decide ((n.vl.kind.toNat:Int)=1))&&(decide (n.vl.int<(0:Int)))))] ?_ (λk71=>?_))))))
     ·intro w13 M;exact gyq X (k66 M ⟨X,X,(by rw [h66];rfl),trivial⟩)
     refine A1 (d:=71) X (λh71=>?_) (λh71=>?_)
     ·exact gyq X (gyq X (QK M 0 X X X (yd X (HF X X X) (gyq X (k71 M ⟨X,X,X,(by rw [h71];rfl),trivial⟩)))))
     iterate 4 refine yo X ?_
     exact gyq X (k71 M ⟨X,X,X,(by rw [h71];rfl),trivial⟩)
    iterate 5 refine yo X ?_
    iterate 10 refine DZ X X X X X ?_
    exact yo X (yb X (k61 M ⟨X,(by rw [h61];rfl),trivial⟩))
   refine A1 (d:=48) X (λh48=>?_) (λh48=>?_)
   ·have h48p:=((PM h48).imp (λz=>(odf (CJ z))) (λz=>(And.intro (odf (CJ (EE z).1)) (EE z).2)));iterate 4 refine yo X ?_
    exact DZ X X X X X (DZ X X X X X (DZ X X X X X (yo X (yb X (k48 M ⟨X,(by rw [h48];rfl),trivial⟩)))))
   have h48p:=(And.intro (odt (BO (G8 h48).1)) ((KQ (G8 h48).2).imp (λz=>(odt (BO z))) (λz=>z)));refine gyq X (QK M 0 X X X (yd X (MC X X X) (gyq X (fvm M 4 [48,1] [(56,.bool ((!decide ((n.op.toNat:Int)=2))&&(!decide (n.nm=[]))))] ?_ (λk52=>?_)))))
   ·intro w14 M;exact yb X (k48 M ⟨X,(by rw [h48];rfl),trivial⟩)
   refine A1 (d:=52) X (λh52=>?_) (λh52=>?_)
   ·exact gyq X (QK M 0 X X X (yd X (I1 X X X) (gyq X (k52 M ⟨X,X,(by rw [h52];rfl),trivial⟩))))
   exact yo X (yo X (yo X (gyq X (k52 M ⟨X,X,(by rw [h52];rfl),trivial⟩))))
  refine A1 (d:=37) X (λh37=>?_) (λh37=>?_)
  ·iterate 4 refine yo X ?_
   iterate 4 refine DZ X X X X X ?_
   exact yo X (yb X (k37 M ⟨X,(by rw [h37];rfl),trivial⟩))
  refine gyq X (QK M 0 X X X (yd X (MC X X X) (gyq X (fvm M 5 [37,1] [(46,.bool ((!decide ((n.op.toNat:Int)=1))&&(!(n.vl.same zeroVl))))] ?_ (λk41=>?_)))))
  ·intro w15 M;exact yb X (k37 M ⟨X,(by rw [h37];rfl),trivial⟩)
  refine A1 (d:=41) X (λh41=>?_) (λh41=>?_)
  ·exact gyq X (yd X (AI (xs:=[.int .u8 (n.vl.kind.toNat:Int),AA n.vl.int,.bool n.vl.bool,str n.vl.text]) X X (DR (M.blk 0 X) 1 4 X X) Br X BQ) (yd X (B7 (parts:=[]) X X (KX)) (yd X (kB (a:=n.vl) (b:=zeroVl) X X X) (gyq X (k41 M ⟨X,X,(by rw [h41];rfl),trivial⟩)))))
  iterate 4 refine yo X ?_
  exact gyq X (k41 M ⟨X,X,(by rw [h41];rfl),trivial⟩)
 refine sx_block (CB X (FV M 0 X X X (GB X X (yb X (fvm M 4 [3,1] [(13,.bool ((decide ((n.op.toNat:Int)<1)) || (decide (17<(n.op.toNat:Int)))))] ?_ (λk9=>?_))))))
 ·intro w16 M;refine CQ X (AB X (λh5=>?_) (λh5=>?_))
  ·have h5p:=((PM h5).imp (λz=>(odt z)) (λz=>(odt z)));exact CB X (gnr (qx_block_ret (qx_then_ret (gr1 X ⟨by rw [a2n h5],M.fr⟩))))
  refine CB X (FV M 0 X X X (JJ X X (yb X (fvm M 4 [3,1] [(22,.bool ((decide ((n.op.toNat:Int)=1)) || (decide ((n.op.toNat:Int)=2))))] ?_ (λk18=>?_)))))
  ·intro w17 M;refine CQ X (AB X (λh14=>?_) (λh14=>?_))
   ·have h14p:=((PM h14).imp (λz=>(odt z)) (λz=>(odt z)));exact sx_region (yb X (sxl_nil (qx_block_normal (kj0 _ _ ⟨M,h5⟩ ⟨X,(by rw [rkn,if_pos h14];rfl),trivial⟩))))
   refine CB X (FV M 0 X X X (JJ X X (yb X (fvm M 4 [3,1] [(31,.bool ((decide ((n.op.toNat:Int)=3)) || (decide ((n.op.toNat:Int)=4))))] ?_ (λk27=>?_)))))
   ·intro w18 M;refine CQ X (AB X (λh23=>?_) (λh23=>?_))
    ·have h23p:=((PM h23).imp (λz=>(odt z)) (λz=>(odt z)));exact sx_region (yb X (sxl_nil (qx_block_normal (kj0 _ _ ⟨M,h5⟩ ⟨X,(by rw [rkn,AM h14,if_pos h23];rfl),trivial⟩))))
    exact sx_skip (qx_block_normal (kj0 _ _ ⟨M,h5⟩ ⟨X,(by rw [rkn,AM h14,AM h23];rfl),trivial⟩))
   refine A1 (d:=27) X (λh27=>?_) (λh27=>?_)
   ·exact yo X (yo X (yo X (yb X (k27 M ⟨X,X,(by rw [h27];rfl),trivial⟩))))
   exact gyq X (QK M 0 X X X (yd X (ES X X X) (yb X (k27 M ⟨X,X,(by rw [h27];rfl),trivial⟩))))
  refine A1 (d:=18) X (λh18=>?_) (λh18=>?_)
  ·exact yo X (yo X (yo X (yb X (k18 M ⟨X,X,(by rw [h18];rfl),trivial⟩))))
  exact gyq X (QK M 0 X X X (yd X (ES X X X) (yb X (k18 M ⟨X,X,(by rw [h18];rfl),trivial⟩))))
 refine A1 (d:=9) X (λh9=>?_) (λh9=>?_)
 ·exact yo X (yo X (yo X (yb X (k9 M ⟨X,X,(by rw [h9];rfl),trivial⟩))))
 exact gyq X (QK M 0 X X X (yd X (JR X X X) (yb X (k9 M ⟨X,X,(by rw [h9];rfl),trivial⟩))))
theorem dR : ∀(n:Xn) (A:Ky) (F:List Nat) (w:Kw),n.AtL 213 w A F→n.sm 1048576→Calls prog 202 #[.agg (n.cells A).toArray] w (BS w (.bool (chkX n))):=by
 refine Xn.ind λn ih A F w hA hs=>?_
 obtain ⟨L,hL,hk,hR,hq⟩:=hA.kids;have h1:n.cells A=O0 n A L.length:=by rw [hk];rfl
 have h2:chkX n=HX n (L.any λq => !chkX q.1):=by rw [S6,←hL,Jb];rfl
 rw [h1,h2];refine rZ n A L (λq=>chkX q.1) w hs hk (by have:=n.nk_le;omega) hR (λq hq' W hW=>?_);obtain ⟨F',hF'⟩:=hq q hq';have hk':q.1∈n.kids:=by rw [←hL];exact En hq'
 exact ih q.1 hk' q.2 F' W (hF'.fr0 hW) (Xn.sm_kid hs hk')
theorem a0K {b:Bd} {n:Xn} (h:(decide (b.name=n.nm))=true):¬(!(decide (b.name=n.nm)))=true:=by rw [h];decide
theorem wI {b:Bd} {n:Xn} (h:(decide (b.name=n.nm))=false):(!(decide (b.name=n.nm)))=true:=by rw [h];rfl
section
variable {op:UInt8} {m:Nat} (hl:((m:Nat):Int)=IC op)
include hl
theorem lN : 1≤(op.toNat:Int)∧(op.toNat:Int)≤17:=by
 unfold IC at hl
 split at hl
 ·omega
 rename_i h
 have h1:=G8 (Cg.2 h)
 have:=odf h1.1;have:=odf h1.2
 omega
theorem tH : (m:Int)=if (op.toNat:Int)≤2 then 0 else if (op.toNat:Int)≤4 then 1 else 2:=by
 obtain ⟨h1,h2⟩:=lN hl;unfold IC at hl
 rw [if_neg (by rw [decide_eq_false A0,decide_eq_false A0];decide)] at hl
 simpa using hl
theorem a2y (h1:¬(op.toNat:Int)=(1:Int)) (h2:¬(op.toNat:Int)=(2:Int)):0<m:=by
 have h:=tH hl;have:=lN hl;rw [if_neg A0] at h
 split at h<;>omega
theorem a2z (h1:¬(op.toNat:Int)=(1:Int)) (h2:¬(op.toNat:Int)=(2:Int)) (h3:¬(op.toNat:Int)=(3:Int)∧¬(op.toNat:Int)=(4:Int)):m=2:=by
 have h:=tH hl;have:=lN hl;rw [if_neg A0,if_neg A0] at h
 omega
theorem a0o (h:((decide ((op.toNat:Int)=3)) || (decide ((op.toNat:Int)=4)))=true):m=1:=by
 have h0:=tH hl;have h1:=(PM h).imp odt odt;rw [if_neg A0,if_pos A0] at h0
 omega
theorem a1E {a:UInt8} (h:(((decide ((op.toNat:Int)=3))&&(decide ((a.toNat:Int)=2))) || ((decide ((op.toNat:Int)=4))&&(decide ((a.toNat:Int)=1))))=true):m=1:=by
 refine a0o hl ?_;rcases PM h with h|h
 ·rw [(EE h).1];rfl
 rw [(EE h).1,Bool.or_true]
end
section
variable {n:Xn} {vars:List Bd} {f:Xq→UInt8 × Int} {L:List Xq} {x0 x1:Xq} (h12:(decide ((n.op.toNat:Int)=(1:Int)))=false) (h18:(decide ((n.op.toNat:Int)=(2:Int)))=false) (hx0:L[0]?=some x0)
include h12 h18 hx0
theorem a19 (he:(!decide ((f x0).2=(0:Int)))=true):tyW n vars f L=(0,(f x0).2):=by
 rw [tyW,AM h12,AM h18]
 cases L with
 | nil=>simp at hx0
 | cons a r=>
  simp only [Ai,Ad] at hx0;subst hx0
  rw [L3,if_pos he]
variable (h49:(!decide ((f x0).2=(0:Int)))=false)
include h49
theorem a0i (hl:L.length=1):tyW n vars f L=KS n.op [(f x0).1] (f x0).1:=by
 rw [tyW,AM h12,AM h18]
 cases L with
 | nil=>simp at hx0
 | cons a r=>
  simp only [Ai,Ad] at hx0;subst hx0
  have:r=[]:=Bj (by simpa using hl)
  subst this;rw [L3,AM h49]
  rfl
variable (hx1:L[1]?=some x1)
include hx1
theorem a18 (he:(!decide ((f x1).2=(0:Int)))=true):tyW n vars f L=(0,(f x1).2):=by
 rw [tyW,AM h12,AM h18]
 cases L with
 | nil=>simp at hx0
 | cons a r=>
  cases r with
  | nil=>simp at hx1
  | cons c r=>
   simp only [Ai,Ad] at hx0;subst hx0
   simp only [Bn,Ai,Ad] at hx1;subst hx1
   rw [L3,AM h49,L3,if_pos he]
theorem U4 (h86:(!decide ((f x1).2=(0:Int)))=false) (hl:L.length=2):tyW n vars f L=KS n.op [(f x0).1,(f x1).1] (f x0).1:=by
 rw [tyW,AM h12,AM h18]
 cases L with
 | nil=>simp at hx0
 | cons a r=>
  cases r with
  | nil=>simp at hx1
  | cons c r=>
   simp only [Ai,Ad] at hx0;subst hx0
   simp only [Bn,Ai,Ad] at hx1;subst hx1
   have:r=[]:=Bj (by simpa using hl)
   subst this;rw [L3,AM h49,L3,AM h86]
   rfl
end
theorem a2h {op a b:UInt8} (h:(!decide ((a.toNat:Int)=(b.toNat:Int)))=true):KS op [a,b] a=(0,90):=by
 rw [KS,if_pos]
 have:¬(b.toNat:Int)=(a.toNat:Int):=λz=>odf (CJ h) z.symm
 rw [Dr,Dr,decide_eq_false this];simp
theorem kK (a:UInt8):([a].any (λt => !decide ((t.toNat:Int)=(a.toNat:Int))))=false:=by simp
theorem wJ {a b:UInt8} (h:(a.toNat:Int)=(b.toNat:Int)):([a,b].any (λt => !decide ((t.toNat:Int)=(a.toNat:Int))))=false:=by
 rw [Dr,Dr,decide_eq_true (show (a.toNat:Int)=a.toNat from rfl),decide_eq_true h.symm];rfl
theorem a0I {op a:UInt8} (h:(((decide ((op.toNat:Int)=3))&&(decide ((a.toNat:Int)=2))) || ((decide ((op.toNat:Int)=4))&&(decide ((a.toNat:Int)=1))))=true):KS op [a] a=(a,0):=by
 rw [KS,if_neg (UN (kK a))];rcases PM h with h|h
 ·have h1:=odt (EE h).1;have h2:=odt (EE h).2
  simp [h1,h2]
 have h1:=odt (EE h).1;have h2:=odt (EE h).2
 simp [h1,h2]
theorem a0J {op a:UInt8} (h:(((decide ((op.toNat:Int)=3))&&(decide ((a.toNat:Int)=2))) || ((decide ((op.toNat:Int)=4))&&(decide ((a.toNat:Int)=1))))=false) (h2:((decide ((op.toNat:Int)=3)) || (decide ((op.toNat:Int)=4)))=true):KS op [a] a=(0,90):=by
 rw [KS,if_neg (UN (kK a))];rcases PM h2 with h1|h1
 ·have h1:=odt h1;simp only [h1,decide_true,Em] at h
  have h3:=odf (G8 h).1
  simp [h1,h3]
 have h1:=odt h1;simp only [h1,decide_true,Em] at h
 have h3:=odf (G8 h).2
 simp [h1,h3]
section
variable {op a b:UInt8}
theorem NB (h90:(a.toNat:Int)=(b.toNat:Int)):KS op [a,b] a=if ((op.toNat:Int)=7∨(op.toNat:Int)=8) then (2,0)
 else if (((op.toNat:Int)=3∨(op.toNat:Int)=5)∨(op.toNat:Int)=6)∧(a.toNat:Int)=2 then (a,0)
 else if ((9:Int)≤(op.toNat:Int)∧(op.toNat:Int)≤12)∧¬(a.toNat:Int)=2 then (2,0)
 else if (((op.toNat:Int)=4∨(13:Int)≤(op.toNat:Int))∧(a.toNat:Int)=1)∨((op.toNat:Int)=13∧(a.toNat:Int)=3) then (a,0)
 else (0,90):=by
 rw [KS,if_neg (UN (wJ h90))];simp only [Bh,Dm,decide_eq_true_eq,Ek,decide_eq_false_iff_not]
theorem gT (h90:(a.toNat:Int)=(b.toNat:Int)) (h91:((decide ((op.toNat:Int)=5)) || (decide ((op.toNat:Int)=6)))=true) (h101:(decide ((a.toNat:Int)=2))=true):KS op [a,b] a=(2,0):=by
 have h4:=(PM h91).imp odt odt;have h5:=odt h101;have h6:a=2:=Fu.1 (by have:(2:UInt8).toNat=2:=rfl;omega);rw [NB h90,if_neg A0,if_pos A0,h6]
theorem gU (h90:(a.toNat:Int)=(b.toNat:Int)) (h91:((decide ((op.toNat:Int)=5)) || (decide ((op.toNat:Int)=6)))=true) (h101:(decide ((a.toNat:Int)=2))=false):KS op [a,b] a=(0,90):=by
 have h4:=(PM h91).imp odt odt;have h5:=odf h101;rw [NB h90,if_neg A0,if_neg A0,if_neg A0,if_neg A0]
theorem gV (h90:(a.toNat:Int)=(b.toNat:Int)) (h102:((decide ((op.toNat:Int)=7)) || (decide ((op.toNat:Int)=8)))=true):KS op [a,b] a=(2,0):=by
 have h4:=(PM h102).imp odt odt;rw [NB h90,if_pos h4]
theorem kJ (h91:((decide ((op.toNat:Int)=5)) || (decide ((op.toNat:Int)=6)))=false) (h102:((decide ((op.toNat:Int)=7)) || (decide ((op.toNat:Int)=8)))=false):¬(op.toNat:Int)=5∧¬(op.toNat:Int)=6∧¬(op.toNat:Int)=7∧¬(op.toNat:Int)=8:=⟨odf (G8 h91).1,odf (G8 h91).2,odf (G8 h102).1,odf (G8 h102).2⟩
theorem Q5 (h90:(a.toNat:Int)=(b.toNat:Int)) (h1:¬(op.toNat:Int)=(1:Int)) (h2:¬(op.toNat:Int)=(2:Int)) (h3:¬(op.toNat:Int)=(3:Int)∧¬(op.toNat:Int)=(4:Int)) (h91:((decide ((op.toNat:Int)=5)) || (decide ((op.toNat:Int)=6)))=false) (h102:((decide ((op.toNat:Int)=7)) || (decide ((op.toNat:Int)=8)))=false) (h111:(decide ((op.toNat:Int)≤12))=true) (h116:(!decide ((a.toNat:Int)=2))=true) (h0:1≤(op.toNat:Int)):KS op [a,b] a=(2,0):=by
 have h4:=kJ h91 h102;have h5:=odt h111;have h6:=odf (CJ h116);rw [NB h90,if_neg A0,if_neg A0,if_pos A0]
theorem Q6 (h90:(a.toNat:Int)=(b.toNat:Int)) (h3:¬(op.toNat:Int)=(3:Int)∧¬(op.toNat:Int)=(4:Int)) (h91:((decide ((op.toNat:Int)=5)) || (decide ((op.toNat:Int)=6)))=false) (h102:((decide ((op.toNat:Int)=7)) || (decide ((op.toNat:Int)=8)))=false) (h116:(!decide ((a.toNat:Int)=2))=false):KS op [a,b] a=(0,90):=by
 have h4:=kJ h91 h102;have h6:=odt (BO h116);rw [NB h90,if_neg A0,if_neg A0,if_neg A0,if_neg A0]
theorem Q7 (h90:(a.toNat:Int)=(b.toNat:Int)) (h111:(decide ((op.toNat:Int)≤12))=false) (h117:((decide ((a.toNat:Int)=1)) || ((decide ((op.toNat:Int)=13))&&(decide ((a.toNat:Int)=3))))=true):KS op [a,b] a=(a,0):=by
 have h5:=odf h111;have h6:=(PM h117).imp odt (λz=>And.intro (odt (EE z).1) (odt (EE z).2));rw [NB h90,if_neg A0,if_neg A0,if_neg A0,if_pos A0]
theorem Q8 (h90:(a.toNat:Int)=(b.toNat:Int)) (h111:(decide ((op.toNat:Int)≤12))=false) (h117:((decide ((a.toNat:Int)=1)) || ((decide ((op.toNat:Int)=13))&&(decide ((a.toNat:Int)=3))))=false):KS op [a,b] a=(0,90):=by
 have h5:=odf h111;have h6:=odf (G8 h117).1;have h7:=(KQ (G8 h117).2).imp odf odf;rw [NB h90,if_neg A0,if_neg A0,if_neg A0,if_neg A0]
end
theorem nF (n:Xn) (A:Ky) (V:Ky) (cv:Nat) (vars:List Bd) (L:List Xq) (f:Xq→UInt8 × Int) (w:Kw) (hvl:vars.length≤4611686018427387904) (hV:Rd w V (vars.length*5) (AE Bd.cells vars)) (hl:(L.length:Int)=IC n.op) (hR:Rd w A (L.length*7) (AE Xq.cells L))
 (hT:∀q∈L,∀W,Fr0 w W→Calls prog 203 #[.agg (Xq.cells q).toArray,.slice V vars.length cv] W λe W'=>e=.returned (.tuple #[.int .u8 ((f q).1.toNat:Int),AA (f q).2])∧Fr0 W W') :
 Calls prog 203 #[.agg (O0 n A L.length).toArray,.slice V vars.length cv] w (BS w (.tuple #[.int .u8 ((tyW n vars f L).1.toNat:Int),AA (tyW n vars f L).2])):=by
 have hL2:=a2z hl;have hL1:=a0o hl;refine BR func203 ntmps203 X λM=>W ?_
 refine DG M kw X X 213 X X (O0 n A L.length) X λg2 w1 hg2 M=>W ?_
 refine AB X (λh12=>?_) (λh12=>?_)
 ·refine W ?_;exact AZ X X X ⟨by rw [tyW,if_pos h12]<;>rfl,M.fr⟩
 have h12p:=odf h12;refine W ?_;refine AB X (λh18=>?_) (λh18=>?_)
 ·have h18p:=odt h18;refine W ?_;refine EF M [2,1] (λze zF e wr mz=>∃(i:Nat),e=(6,AA (i:Int))::ze∧zF wr∧(i≤vars.length)∧(ffN (λ(_:Nat) (b:Bd) => !(decide (b.name=n.nm))) 0 vars=ffN (λ(_:Nat) (b:Bd) => !(decide (b.name=n.nm))) i (vars.drop i))∧mz=vars.length-i) ⟨0,X,M,Ae _,X,X⟩ ?_;rintro _ w2 _ ⟨i,rfl,M,hi,hvn,rfl⟩;refine W ?_;refine AB X (λh22=>?_) (λh22=>?_)
  ·have h22p:=odt h22;obtain ⟨b,_,_,hb,hA_b⟩:=ex5 (i:=i) (hV.fr0 M.fr);refine W ?_;refine CS CA gkr ?_;have M:=M.drew;refine W ?_;refine sa X (AK i hA_b X X X (sl X) A0) (sb X (sd X X (BD Bd.len (hV.fr0 M.fr) hA_b hb 0 X) (W ?_)));refine AB X (λh32=>?_) (λh32=>?_)
   ·have h32p:=odt h32;refine W ?_;refine ya X (AK i hA_b X X X (sl X) A0) (T2 ?_);refine yl X X (BD Bd.len (hV.fr0 M.fr) hA_b hb 1 X) (W ?_);exact AZ X X X ⟨by rw [tyW,AM h12,if_pos h18,hvn,AG hb,ffN,if_neg (a0K h32)]<;>rfl,M.fr⟩
   have h32p:=odf h32;refine W ?_;refine fag ⟨i+1,X,M,?_,?_,X⟩
   ·omega
   rw [hvn,AG hb,ffN,if_pos (wI h32)]
  have h22p:=odf h22;refine W ?_;exact AZ X X X ⟨by rw [tyW,AM h12,if_pos h18,hvn,show i=vars.length by omega,Am,ffN]<;>rfl,M.fr⟩
 have h18p:=odf h18;have hLp:=a2y hl h12p h18p;refine W ?_;obtain ⟨x0,_,_,hx0,hA_x0⟩:=ex5 (i:=0) (hR.fr0 M.fr);refine ya X (AK 0 hA_x0 X X X (sl X) A0) (ya X (AI X X (BM Xq.len (hR.fr0 M.fr) hA_x0 hx0) Be X AC) (yb X (CW M 45 X X call203 (hT x0 (Ac hx0) _ M.fr) λw3 M=>W ?_)));refine AB X (λh49=>?_) (λh49=>?_)
 ·refine W ?_;exact AZ X X X ⟨by rw [a19 h12 h18 hx0 h49]<;>rfl,M.fr⟩
 have h49p:=(odt (BO h49));refine W ?_;refine fvm M 3 [7,2,1] [(57,.bool ((decide ((n.op.toNat:Int)=3))&&(decide (((f x0).1.toNat:Int)=2))))] ?_ (λk54=>?_)
 ·intro w4 M;refine yb X (fvm M 8 [7,2,1] [(66,.bool (((decide ((n.op.toNat:Int)=3))&&(decide (((f x0).1.toNat:Int)=2))) || ((decide ((n.op.toNat:Int)=4))&&(decide (((f x0).1.toNat:Int)=1)))))] ?_ (λk58=>?_))
  ·intro w5 M;refine W ?_;refine AB X (λh66=>?_) (λh66=>?_)
   ·have h66p:=bd h66;refine W ?_;exact AZ X X X ⟨by rw [a0i h12 h18 hx0 h49 (a1E hl h66),a0I h66]<;>rfl,M.fr⟩
   have h66p:=bd h66;refine W ?_;refine fvm M 4 [7,2,1] [(75,.bool ((decide ((n.op.toNat:Int)=3)) || (decide ((n.op.toNat:Int)=4))))] ?_ (λk71=>?_)
   ·intro w6 M;refine W ?_;refine AB X (λh75=>?_) (λh75=>?_)
    ·have h75p:=bd h75;refine W ?_;exact AZ X X X ⟨by rw [a0i h12 h18 hx0 h49 (hL1 h75),a0J h66 h75]<;>rfl,M.fr⟩
    have h75p:=bd h75;have hLq:=hL2 h12p h18p h75p;refine W ?_;obtain ⟨x1,_,_,hx1,hA_x1⟩:=ex5 (i:=1) (hR.fr0 M.fr);refine ya X (AK 1 hA_x1 X X X (sl X) A0) (ya X (AI X X (BM Xq.len (hR.fr0 M.fr) hA_x1 hx1) Be X AC) (yb X (CW M 82 X X call203 (hT x1 (Ac hx1) _ M.fr) λw7 M=>W ?_)));refine AB X (λh86=>?_) (λh86=>?_)
    ·refine W ?_;exact AZ X X X ⟨by rw [a18 h12 h18 hx0 h49 hx1 h86]<;>rfl,M.fr⟩
    refine W ?_;refine AB X (λh90=>?_) (λh90=>?_)
    ·refine W ?_;exact AZ X X X ⟨by rw [U4 h12 h18 hx0 h49 hx1 h86 (hL2 h12p h18p h75p),a2h h90]<;>rfl,M.fr⟩
    have h90p:=(odt (BO h90));refine W ?_;refine fvm M 4 [7,2] [(99,.bool ((decide ((n.op.toNat:Int)=5)) || (decide ((n.op.toNat:Int)=6))))] ?_ (λk95=>?_)
    ·intro w8 M;refine W ?_;refine AB X (λh91=>?_) (λh91=>?_)
     ·have h91p:=bd h91;refine W ?_;refine AB X (λh101=>?_) (λh101=>?_)
      ·refine W ?_;exact AZ X X X ⟨by rw [U4 h12 h18 hx0 h49 hx1 h86 (hL2 h12p h18p h75p),gT h90p h91 h101]<;>rfl,M.fr⟩
      refine W ?_;exact AZ X X X ⟨by rw [U4 h12 h18 hx0 h49 hx1 h86 (hL2 h12p h18p h75p),gU h90p h91 h101]<;>rfl,M.fr⟩
     refine W ?_;refine fvm M 4 [7,2] [(110,.bool ((decide ((n.op.toNat:Int)=7)) || (decide ((n.op.toNat:Int)=8))))] ?_ (λk106=>?_)
     ·intro w9 M;refine W ?_;refine AB X (λh102=>?_) (λh102=>?_)
      ·have h102p:=bd h102;refine W ?_;exact AZ X X X ⟨by rw [U4 h12 h18 hx0 h49 hx1 h86 (hL2 h12p h18p h75p),gV h90p h102]<;>rfl,M.fr⟩
      refine W ?_;refine AB X (λh111=>?_) (λh111=>?_)
      ·refine W ?_;refine AB X (λh116=>?_) (λh116=>?_)
       ·refine W ?_;exact AZ X X X ⟨by rw [U4 h12 h18 hx0 h49 hx1 h86 (hL2 h12p h18p h75p),Q5 h90p h12p h18p h75p h91 h102 h111 h116 (lN hl).1]<;>rfl,M.fr⟩
       refine W ?_;exact AZ X X X ⟨by rw [U4 h12 h18 hx0 h49 hx1 h86 (hL2 h12p h18p h75p),Q6 h90p h75p h91 h102 h116]<;>rfl,M.fr⟩
      refine W ?_;refine fvm M 8 [7] [(128,.bool ((decide (((f x0).1.toNat:Int)=1)) || ((decide ((n.op.toNat:Int)=13))&&(decide (((f x0).1.toNat:Int)=3)))))] ?_ (λk120=>?_)
      ·intro w10 M;refine W ?_;refine AB X (λh117=>?_) (λh117=>?_)
       ·have h117p:=bd h117;refine W ?_;exact AZ X X X ⟨by rw [U4 h12 h18 hx0 h49 hx1 h86 (hL2 h12p h18p h75p),Q7 h90p h111 h117]<;>rfl,M.fr⟩
       have h117p:=bd h117;refine W ?_;exact AZ X X X ⟨by rw [U4 h12 h18 hx0 h49 hx1 h86 (hL2 h12p h18p h75p),Q8 h90p h111 h117]<;>rfl,M.fr⟩
      refine A1 (d:=120) X (λh120=>?_) (λh120=>?_)
      ·refine T8 ?_;exact k120 M
      refine W ?_;refine fvm M 3 [120,7] [(127,.bool ((decide ((n.op.toNat:Int)=13))&&(decide (((f x0).1.toNat:Int)=3))))] ?_ (λk124=>?_)
      ·intro w11 M;exact yb X (k120 M)
      refine A1 (d:=124) X (λh124=>?_) (λh124=>?_)
      ·refine T3 ?_;exact k124 M
      refine T3 ?_;exact k124 M
     refine A1 (d:=106) X (λh106=>?_) (λh106=>?_)
     ·refine T4 ?_;exact k106 M
     refine T4 ?_;exact k106 M
    refine A1 (d:=95) X (λh95=>?_) (λh95=>?_)
    ·refine T4 ?_;exact k95 M
    refine T4 ?_;exact k95 M
   refine A1 (d:=71) X (λh71=>?_) (λh71=>?_)
   ·refine T4 ?_;exact k71 M
   refine T4 ?_;exact k71 M
  refine A1 (d:=58) X (λh58=>?_) (λh58=>?_)
  ·refine T8 ?_;exact k58 M
  refine W ?_;refine fvm M 3 [58,7,2,1] [(65,.bool ((decide ((n.op.toNat:Int)=4))&&(decide (((f x0).1.toNat:Int)=1))))] ?_ (λk62=>?_)
  ·intro w12 M;exact yb X (k58 M)
  refine A1 (d:=62) X (λh62=>?_) (λh62=>?_)
  ·refine T3 ?_;exact k62 M
  refine T3 ?_;exact k62 M
 refine A1 (d:=54) X (λh54=>?_) (λh54=>?_)
 ·refine T3 ?_;exact k54 M
 refine T3 ?_;exact k54 M
theorem iM (vars:List Bd) (hvl:vars.length≤4611686018427387904):∀(n:Xn) (A:Ky) (F:List Nat) (V:Ky) (cv:Nat) (w:Kw),n.AtL 213 w A F→chkX n=true→Rd w V (vars.length*5) (AE Bd.cells vars) →
 Calls prog 203 #[.agg (n.cells A).toArray,.slice V vars.length cv] w (BS w (.tuple #[.int .u8 ((tyX vars n).1.toNat:Int),AA (tyX vars n).2])):=by
 refine Xn.ind λn ih A F V cv w hA hc hV=>?_
 obtain ⟨L,hL,hk,hR,hq⟩:=hA.kids;have h1:n.cells A=O0 n A L.length:=by rw [hk];rfl
 have h2:tyX vars n=tyW n vars (λq=>tyX vars q.1) L:=by
  rw [a0h,pZ,←hL,Gr];rfl
 have h3:(L.length:Int)=IC n.op:=by rw [hk];rw [S6] at hc;exact m1 hc
 rw [h1,h2];refine nF n A V cv vars L (λq=>tyX vars q.1) w hvl hV h3 hR (λq hq' W hW=>?_);obtain ⟨F',hF'⟩:=hq q hq';have hk':q.1∈n.kids:=by rw [←hL];exact En hq'
 exact ih q.1 hk' q.2 F' V cv W (hF'.fr0 hW) (fZ hc hk') (hV.fr0 hW)
theorem rT (vars:List Bd) (hvl:vars.length≤4611686018427387904) (n:Xn) (A:Ky) (F:List Nat) (V:Ky) (cv:Nat) (w:Kw) (hA:n.AtL 213 w A F) (hs:n.sm 1048576) (hV:Rd w V (vars.length*5) (AE Bd.cells vars)) :
 Calls prog 163 #[.agg (n.cells A).toArray,.slice V vars.length cv] w (BS w (.tuple #[.int .u8 ((HZ n vars).1.toNat:Int),AA (HZ n vars).2])):=by
 refine BR func163 ntmps163 X λM=>W ?_
 refine CO M X X λg2 w1 hg2 M=>W ?_
 refine CH M 0 X X Be AC X (CW M 7 X X call202 (dR n A F _ (hA.fr0 M.fr) hs) λw2 M=>W ?_);refine AB X (λh8=>?_) (λh8=>?_)
 ·refine W ?_;exact AZ X X X ⟨by rw [HZ,if_neg (UN (CJ h8))];rfl,M.fr⟩
 refine W ?_;refine CH M 0 X X Be AC X (yb X (CW M 11 X X call203 (iM vars hvl n A F V cv _ (hA.fr0 M.fr) (BO h8) (hV.fr0 M.fr)) λw3 M=>W ?_));exact AZ X X X ⟨by rw [HZ,if_pos (BO h8)]<;>rfl,M.fr⟩
end
theorem sO {m:Md} (hb:MdB m) (h:(NZ m).isNone=true):MdOk m:=by
 unfold NZ at h
 split at h
 ·cases h
 rename_i hc
 simp only [Dm,decide_eq_true_eq,not_or] at hc
 exact ⟨hb.id,hb.nm,hb.vars,by omega,by omega,by omega,hb.els,hb.fls⟩
theorem FY {b:Option Kz} (h:b.isNone=true):b.isSome=false:=by cases b<;>simp_all
theorem cC {b:Option Kz} (h:b.isNone=false):b.isSome=true:=by cases b<;>simp_all
def OT (m:Md) (x:El):Option Kz:=(if (!decide ((x.kind.toNat:Int)=(5:Int)))=true then none else (if (((decide ((((BJ m.fls x.id).length:Nat):Int)=(1:Int)))&&(!decide (x.dflt=[]))) || ((decide ((1:Int)<(((BJ m.fls x.id).length:Nat):Int)))&&(!((BJ m.fls x.id).any (λz=>decide (z=x.dflt))))))=true then (some x.id) else none))
def NT (m:Md) (x:Fl):Option Kz:=(if ((((decide ((((AF m.els x.frm).getD zeroEl).kind.toNat:Int)=(5:Int)))&&(decide ((1:Int)<(((BJ m.fls (((AF m.els x.frm).getD zeroEl).id)).length:Nat):Int))))&&(!decide (((AF m.els x.frm).getD zeroEl).dflt=x.id)))==(decide (x.cond=[])))=true then (some x.id) else (if (!(((decide ((((AF m.els x.frm).getD zeroEl).kind.toNat:Int)=(5:Int)))&&(decide ((1:Int)<(((BJ m.fls (((AF m.els x.frm).getD zeroEl).id)).length:Nat):Int))))&&(!decide (((AF m.els x.frm).getD zeroEl).dflt=x.id))))=true then none else (if (((!decide ((CX x.cond).2.2=(0:Int))) || (!decide ((HZ (CX x.cond).1 m.vars).2=(0:Int)))) || (!decide (((HZ (CX x.cond).1 m.vars).1.toNat:Int)=(2:Int))))=true then (some x.id) else none)))
def RN (m:Md):Option Kz:=match ff (OT m) m.els with
 | some s=>some s
 | none=>ff (NT m) m.fls
theorem rP (m:Md) (a:MdA) (w:Kw) (ho:MdOk m) (hm:MdIn w m a) :
 Calls prog 96 #[.agg (Md.cells m a).toArray] w (BS w (.tuple #[str ((RN m).getD []),.bool (RN m).isNone])):=by
 have hoi:=ho.id;have hon:=ho.nm;have hnv:=ho.nvars;have hne:=ho.nels;have hnf:=ho.nfls;refine BR func96 ntmps96 X λM=>W ?_
 refine CO M X X λg1 w1 hg1 M=>W ?_
 refine EF M [1] (λze zF e wr mz=>∃(i:Nat),e=(4,AA (i:Int))::ze∧zF wr∧(i≤m.els.length)∧(ff (OT m) m.els=ff (OT m) (m.els.drop i))∧mz=m.els.length-i) ⟨0,X,M,Ae _,X,X⟩ ?_;rintro _ w2 _ ⟨i,rfl,M,hi,hE2,rfl⟩;refine W ?_;refine AB X (λh23=>?_) (λh23=>?_)
 ·have h23p:=odt h23;obtain ⟨x,hx⟩:=EP (l:=m.els) (i:=i) A0;obtain ⟨b_x,o_x,hA_x⟩:=E3 (k:=11) A0 (M.rd hm.els) hx;have ox:=ho.els _ (Ac hx);have ox1:=ox.id;have ox2:=ox.nm;have ox3:=ox.ref;have ox4:=ox.key;refine W ?_;refine ya X (AK i hA_x X X X (sl X) A0) (ya X (AI X X (BM El.len (M.rd hm.els) hA_x hx) Bf X AJ) (CI M X AP λg5 w3 hg5 M=>BY M 0 X X AJ X λw4 M=>W ?_));refine AB X (λh33=>?_) (λh33=>?_)
  ·have h33p:=(odf (CJ h33));refine W ?_;refine fag ⟨i+1,X,(M.pk [1]),?_,?_,X⟩
   ·omega
   rw [hE2,AG hx,F9 (by rw [OT,if_pos h33])]
  have h33p:=(odt (BO h33));refine W ?_;refine CH M 1 X X Al AN X (W ?_);refine MF M 37 X (AD X X call101) (OG m a _ _ ho (hm.fr0 M.fr)) λA37 c37 w5 M=>?_
  have hL37:=M.ownLen 0 X;refine W ?_;refine EF M [6,5,4,1] (λze zF e wr mz=>∃(k:Nat) (b:Bool),e=(7,.bool b)::(8,AA (k:Int))::ze∧zF wr∧(k≤(BJ m.fls x.id).length)∧(b=(((BJ m.fls x.id).take k).any (λz=>decide (z=x.dflt))))∧mz=(BJ m.fls x.id).length-k) ⟨0,false,X,M,Ae _,by simp,rfl⟩ ?_;rintro _ w6 _ ⟨k,b,rfl,M,hk,hb,rfl⟩;refine W ?_;refine AB X (λh41=>?_) (λh41=>?_)
  ·have h41p:=odt h41;obtain ⟨z,_,_,hz,hA_z⟩:=ex5 (l:=BJ m.fls x.id) (k:=1) (i:=k) (M.rdOwn 0 X);refine W ?_;refine CS CA gkr ?_;have M:=M.drew;refine W ?_;refine fvs 8 [8,7,6,5,4,1] [(53,.bool (b || (decide (z=x.dflt))))] ?_ (λk45=>?_)
   ·refine W ?_;refine fag ⟨k+1,(b || (decide (z=x.dflt))),X,M,?_,?_,X⟩
    ·omega
    rw [hb,AS hz,SG]
   refine C1 (d:=45) X (λh45=>?_) (λh45=>?_)
   ·refine T8 ?_;exact k45 _ ⟨X,X,X,X,X,X,(by rw [h45];rfl),trivial⟩
   refine W ?_;refine gsg X (AK k hA_z X X X (sl X) A0) (gsg X (B2 X X (sc X) (BD DI (M.rdOwn 0 X) hA_z hz 0 X)) (T4 ?_));exact k45 _ ⟨X,X,X,X,X,X,(by rw [h45];rfl),trivial⟩
  have h41p:=odf h41;refine W ?_;have hkE:k=(BJ m.fls x.id).length:=by omega
  rw [hkE,Ba] at hb
  subst hb;refine W ?_;refine fvm M 4 [7,6,5,4,1] [(61,.bool ((decide (((BJ m.fls x.id).length:Int)=1))&&(!decide (x.dflt=[]))))] ?_ (λk57=>?_)
  ·intro w7 M;refine yb X (fvm M 8 [5,4,1] [(70,.bool (((decide (((BJ m.fls x.id).length:Int)=1))&&(!decide (x.dflt=[]))) || ((decide (1<((BJ m.fls x.id).length:Int)))&&(!((BJ m.fls x.id).any (λz=>decide (z=x.dflt)))))))] ?_ (λk62=>?_))
   ·intro w8 M;refine W ?_;refine AB X (λh70=>?_) (λh70=>?_)
    ·have h70p:=bd h70;refine W ?_;refine AZ X X X ?_;rw [AG hx,HD (v:=x.id) (by rw [OT,AM h33,if_pos h70])] at hE2
     exact ⟨by rw [RN,hE2];rfl,M.fr⟩
    have h70p:=bd h70;refine W ?_;refine fag ⟨i+1,X,(M.pk [2]),?_,?_,X⟩
    ·omega
    rw [hE2,AG hx,F9 (by rw [OT,AM h33,AM h70])]
   refine A1 (d:=62) X (λh62=>?_) (λh62=>?_)
   ·refine T8 ?_;exact k62 M
   have h62p:=bd h62;refine W ?_;refine fvm M 3 [62,5,4,1] [(69,.bool ((decide (1<((BJ m.fls x.id).length:Int)))&&(!((BJ m.fls x.id).any (λz=>decide (z=x.dflt))))))] ?_ (λk66=>?_)
   ·intro w9 M;exact yb X (k62 M)
   refine A1 (d:=66) X (λh66=>?_) (λh66=>?_)
   ·refine T3 ?_;exact k66 M
   refine T3 ?_;exact k66 M
  refine A1 (d:=57) X (λh57=>?_) (λh57=>?_)
  ·refine T4 ?_;exact k57 M
  refine T4 ?_;exact k57 M
 have h23p:=odf h23;refine W ?_;have hiE:i=m.els.length:=by omega
 rw [hiE,Am] at hE2
 have hE2:=hE2.trans (show _=none from rfl);refine W ?_;refine EF M [1] (λze zF e wr mz=>∃(i:Nat),e=(9,AA (i:Int))::ze∧zF wr∧(i≤m.fls.length)∧(ff (NT m) m.fls=ff (NT m) (m.fls.drop i))∧mz=m.fls.length-i) ⟨0,X,M,Ae _,X,X⟩ ?_;rintro _ w10 _ ⟨i,rfl,M,hi,hE15,rfl⟩;refine W ?_;refine AB X (λh77=>?_) (λh77=>?_)
 ·have h77p:=odt h77;obtain ⟨x,_,_,hx,hA_x⟩:=ex5 (i:=i) (M.rd hm.fls);have ox:=ho.fls _ (Ac hx);have ox1:=ox.id;have ox2:=ox.cond;refine W ?_;refine ya X (AK i hA_x X X X (sl X) A0) (ya X (AI X X (BM Fl.len (M.rd hm.fls) hA_x hx) Cf X BU) (CI M X DS λg10 w11 hg10 M=>BY M 0 X X BU X λw12 M=>W ?_));refine CH M 1 X X Al AN X (W ?_);refine CW M 89 X X call52 (E7 m a _ _ ho.b (hm.fr0 M.fr)) λw13 M=>W ?_
  refine CI M X AP λg11 w14 hg11 M=>BY M 0 X X AJ X λw15 M=>W ?_
  refine fvm M 7 [11,10,9,1] [(102,.bool ((decide ((((AF m.els x.frm).getD zeroEl).kind.toNat:Int)=5))&&(decide (1<((BJ m.fls (((AF m.els x.frm).getD zeroEl).id)).length:Int)))))] ?_ (λk95=>?_)
  ·intro w16 M;refine yb X (fvm M 6 [10,9,1] [(109,.bool (((decide ((((AF m.els x.frm).getD zeroEl).kind.toNat:Int)=5))&&(decide (1<((BJ m.fls (((AF m.els x.frm).getD zeroEl).id)).length:Int))))&&(!decide (((AF m.els x.frm).getD zeroEl).dflt=x.id))))] ?_ (λk103=>?_))
   ·intro w17 M;refine W ?_;refine ya X (m8 X X X Ei) (W ?_);refine AB X (λh114=>?_) (λh114=>?_)
    ·refine W ?_;refine AZ X X X ?_;rw [AG hx,HD (v:=x.id) (by rw [NT,if_pos h114])] at hE15
     exact ⟨by rw [RN,hE2,hE15];rfl,M.fr⟩
    refine W ?_;refine AB X (λh118=>?_) (λh118=>?_)
    ·have h118p:=bd h118;refine W ?_;refine fag ⟨i+1,X,(M.pk [2]),?_,?_,X⟩
     ·omega
     rw [hE15,AG hx,F9 (by rw [NT,AM h114,if_pos h118])]
    have h118p:=bd h118;refine W ?_;refine cl 122 X (AD X X call162) (nG x.cond _ A0) ?_;rintro _ w18 ⟨A,F,rfl,hat,hnw,hfw18⟩;refine cq ?_;have M:=M.push hfw18 (As.xn 213 (CX x.cond).1 A F) hat hnw;refine W ?_;refine CI M X BH λg14 w19 hg14 M=>BY M 0 X X AC X λw20 M=>W ?_
    refine CH M 0 X X Be AC X (W ?_);refine CW M 130 X X call163 (rT m.vars A0 (CX x.cond).1 A F a.V a.vc _ (M.ok 1 _ X) (mY _) (M.rd hm.vars)) λw21 M=>W ?_
    refine fvm M 3 [17,10,9,1] [(138,.bool ((!decide ((CX x.cond).2.2=(0:Int))) || (!decide ((HZ (CX x.cond).1 m.vars).2=(0:Int)))))] ?_ (λk135=>?_)
    ·intro w22 M;refine yb X (fvm M 3 [10,9,1] [(142,.bool (((!decide ((CX x.cond).2.2=(0:Int))) || (!decide ((HZ (CX x.cond).1 m.vars).2=(0:Int)))) || (!decide (((HZ (CX x.cond).1 m.vars).1.toNat:Int)=2))))] ?_ (λk139=>?_))
     ·intro w23 M;refine W ?_;refine AB X (λh142=>?_) (λh142=>?_)
      ·have h142p:=bd h142;refine W ?_;refine AZ X X X ?_;rw [AG hx,HD (v:=x.id) (by rw [NT,AM h114,AM h118,if_pos h142])] at hE15
       exact ⟨by rw [RN,hE2,hE15];rfl,M.fr⟩
      have h142p:=bd h142;refine W ?_;refine fag ⟨i+1,X,(M.pk [4]),?_,?_,X⟩
      ·omega
      rw [hE15,AG hx,F9 (by rw [NT,AM h114,AM h118,AM h142])]
     refine A1 (d:=139) X (λh139=>?_) (λh139=>?_)
     ·have h139p:=bd h139;refine T3 ?_;exact k139 M
     refine T3 ?_;exact k139 M
    refine A1 (d:=135) X (λh135=>?_) (λh135=>?_)
    ·refine T3 ?_;exact k135 M
    refine T3 ?_;exact k135 M
   refine A1 (d:=103) X (λh103=>?_) (λh103=>?_)
   ·refine T6 ?_;exact k103 M
   have h103p:=bd h103;refine T6 ?_;exact k103 M
  refine A1 (d:=95) X (λh95=>?_) (λh95=>?_)
  ·refine yd X (AI (xs:=Md.cells m a) X X (M.rdBlk 2 X X) Al X AN) (W ?_);refine sxl_call (some 99) kw X X (AD X X call101) (OG m a _ _ ho (hm.fr0 M.fr)) ?_;rintro _ w24 ⟨A99,c99,rfl,how24,hfw24⟩;refine cq ?_;have M:=M.pushOwn hfw24 (Ab _) how24;have hL99:=M.ownLen 0 X;refine T3 ?_;exact k95 (M.drop 1)
  refine T7 ?_;exact k95 M
 have h77p:=odf h77;refine W ?_;have hiE:i=m.fls.length:=by omega
 rw [hiE,Am] at hE15
 have hE15:=hE15.trans (show _=none from rfl);refine W ?_;exact AZ X X X ⟨by rw [RN,hE2,hE15];rfl,M.fr⟩
def UM (m:Md):List (Option Kz):=[NZ m,Z6 m,P0 m,ME m,OF m,RN m,P1 m,P2 m,SS m]
def PL (m:Md):Nat × Kz × Int:=IG 0 (UM m)
theorem dS (m:Md) (a:MdA) (w:Kw) (hb:MdB m) (hm:MdIn w m a) :
 Calls prog 47 #[.agg (Md.cells m a).toArray] w (BS w (.tuple #[AA (((PL m).1:Nat):Int),str (PL m).2.1,AA (PL m).2.2])):=by
 have hoi:=hb.id;have hon:=hb.nm;have hnv:=hb.nvars;have hne:=hb.nels;have hnf:=hb.nfls;refine BR func47 ntmps47 X λM=>V ?_
 refine CO M X X λg1 w1 hg1 M=>V ?_
 refine CH M 0 X X Al AN X (CW M 10 X X call91 (rQ m a _ hb (hm.fr0 M.fr)) λw2 M=>V ?_);refine AB X (λh13=>?_) (λh13=>?_)
 ·have ho:=sO hb (by assumption);refine V ?_;refine CH M 0 X X Al AN X (CW M 16 X X call92 (rN m a _ ho (hm.fr0 M.fr)) λw3 M=>V ?_);refine AB X (λh19=>?_) (λh19=>?_)
  ·refine V ?_;refine CH M 0 X X Al AN X (CW M 22 X X call93 (iJ m a _ ho (hm.fr0 M.fr)) λw4 M=>V ?_);refine AB X (λh25=>?_) (λh25=>?_)
   ·refine V ?_;refine CH M 0 X X Al AN X (CW M 28 X X call94 (nC m a _ ho (hm.fr0 M.fr)) λw5 M=>V ?_);refine AB X (λh31=>?_) (λh31=>?_)
    ·refine V ?_;refine CH M 0 X X Al AN X (CW M 34 X X call95 (nD m a _ ho (hm.fr0 M.fr)) λw6 M=>V ?_);refine AB X (λh37=>?_) (λh37=>?_)
     ·refine V ?_;refine CH M 0 X X Al AN X (CW M 40 X X call96 (rP m a _ ho (hm.fr0 M.fr)) λw7 M=>V ?_);refine AB X (λh43=>?_) (λh43=>?_)
      ·refine V ?_;refine CH M 0 X X Al AN X (CW M 46 X X call97 (iK m a _ ho (hm.fr0 M.fr)) λw8 M=>V ?_);refine AB X (λh49=>?_) (λh49=>?_)
       ·refine V ?_;refine CH M 0 X X Al AN X (CW M 52 X X call98 (iL m a _ ho (hm.fr0 M.fr)) λw9 M=>V ?_);refine AB X (λh55=>?_) (λh55=>?_)
        ·refine V ?_;refine CH M 0 X X Al AN X (CW M 58 X X call99 (nB m a _ ho (hm.fr0 M.fr)) λw10 M=>V ?_);refine AB X (λh61=>?_) (λh61=>?_)
         ·refine V ?_;exact DH X X X X ⟨by rw [PL,UM,B1 (FY h13),B1 (FY h19),B1 (FY h25),B1 (FY h31),B1 (FY h37),B1 (FY h43),B1 (FY h49),B1 (FY h55),B1 (FY h61)];rfl,M.fr⟩
         rw [h61];refine V ?_;exact DH X X X X ⟨by rw [PL,UM,B1 (FY h13),B1 (FY h19),B1 (FY h25),B1 (FY h31),B1 (FY h37),B1 (FY h43),B1 (FY h49),B1 (FY h55),EG (cC h61)];rfl,M.fr⟩
        rw [h55];refine V ?_;exact DH X X X X ⟨by rw [PL,UM,B1 (FY h13),B1 (FY h19),B1 (FY h25),B1 (FY h31),B1 (FY h37),B1 (FY h43),B1 (FY h49),EG (cC h55)];rfl,M.fr⟩
       rw [h49];refine V ?_;exact DH X X X X ⟨by rw [PL,UM,B1 (FY h13),B1 (FY h19),B1 (FY h25),B1 (FY h31),B1 (FY h37),B1 (FY h43),EG (cC h49)];rfl,M.fr⟩
      rw [h43];refine V ?_;exact DH X X X X ⟨by rw [PL,UM,B1 (FY h13),B1 (FY h19),B1 (FY h25),B1 (FY h31),B1 (FY h37),EG (cC h43)];rfl,M.fr⟩
     rw [h37];refine V ?_;exact DH X X X X ⟨by rw [PL,UM,B1 (FY h13),B1 (FY h19),B1 (FY h25),B1 (FY h31),EG (cC h37)];rfl,M.fr⟩
    rw [h31];refine V ?_;exact DH X X X X ⟨by rw [PL,UM,B1 (FY h13),B1 (FY h19),B1 (FY h25),EG (cC h31)];rfl,M.fr⟩
   rw [h25];refine V ?_;exact DH X X X X ⟨by rw [PL,UM,B1 (FY h13),B1 (FY h19),EG (cC h25)];rfl,M.fr⟩
  rw [h19];refine V ?_;exact DH X X X X ⟨by rw [PL,UM,B1 (FY h13),EG (cC h19)];rfl,M.fr⟩
 rw [h13];refine V ?_;exact DH X X X X ⟨by rw [PL,UM,EG (cC h13)];rfl,M.fr⟩
section
section
variable {l r:List Bd} {x:Bd}
theorem a1S (h:(EK l x.name).isSome=false):G6 l (x::r)=100:=by
 rw [G6]
 cases hq:EK l x.name with
 | none=>rfl
 | some v=>rw [hq] at h;cases h
theorem a1T (h:(EK l x.name).isSome=true) (hk:(((EK l x.name).getD zeroVl).kind.toNat:Int)=(x.v.kind.toNat:Int)):G6 l (x::r)=G6 l r:=by
 rw [G6]
 cases hq:EK l x.name with
 | none=>rw [hq] at h;cases h
 | some v=>
  rw [hq] at hk
  exact if_pos (Fu.1 (by exact Int.ofNat_inj.1 hk))
theorem a1U (h:(EK l x.name).isSome=true) (hk:¬(((EK l x.name).getD zeroVl).kind.toNat:Int)=(x.v.kind.toNat:Int)):G6 l (x::r)=90:=by
 rw [G6]
 cases hq:EK l x.name with
 | none=>rw [hq] at h;cases h
 | some v=>
  rw [hq] at hk
  exact if_neg λe=>hk (by rw [Ct,e])
end
theorem RL (A:Ky) (c:Nat) (l:List Bd) (k:Kz) (w:Kw) (hl:(l.length:Int)<4611686018427387904) (hr:Rd w A (l.length*5) (AE Bd.cells l)) :
 Calls prog 53 #[.slice A l.length c,str k] w (BS w (.tuple #[.agg ((EK l k).getD zeroVl).cells.toArray,.bool (EK l k).isSome])):=by
 refine BR func53 ntmps53 X λM=>W ?_
 refine CI M X GH λg4 w1 hg4 M=>W ?_
 refine EF M [4,1,0] (λze zF e wr mz=>∃(i:Nat),e=(6,AA (i:Int))::ze∧zF wr∧(i≤l.length)∧(EK l k=EK (l.drop i) k)∧mz=l.length-i) ⟨0,X,M,Ae _,X,X⟩ ?_;rintro _ w2 _ ⟨i,rfl,M,hi,hE,rfl⟩;refine W ?_;refine AB X (λh10=>?_) (λh10=>?_)
 ·have h10p:=odt h10;refine W ?_;obtain ⟨x,_,_,hx,hA_x⟩:=ex5 (i:=i) (hr.fr0 M.fr);refine ya X (AK i hA_x X X X (sl X) A0) (yb X (yl X X (BD Bd.len (hr.fr0 M.fr) hA_x hx 0 X) (W ?_)));refine AB X (λh19=>?_) (λh19=>?_)
  ·have h19p:=odt h19;refine W ?_;refine ya X (AK i hA_x X X X (sl X) A0) (yb X (ya X (AI (xs:=Vl.cells x.v) X X (K6 Bd.len (hr.fr0 M.fr) hA_x hx 1 4 X X) Br X BQ) (BY M 0 X X BQ X λw3 M=>W ?_)));exact FQ X X (M.rdBlk 0 X X) Br X BQ X ⟨by rw [hE,AG hx,EK,if_pos h19p];rfl,M.fr⟩
  have h19p:=odf h19;refine W ?_;refine fag ⟨i+1,X,M,?_,?_,X⟩
  ·omega
  rw [hE,AG hx,EK,if_neg h19p]
 have h10p:=odf h10;refine W ?_;obtain rfl:i=l.length:=by omega
 rw [Am] at hE
 refine W ?_;refine ya X (B7 (parts:=[]) X X (KX)) (BY M 0 X X BQ X λw4 M=>W ?_);exact FQ X X (M.rdBlk 0 X X) Br X BQ X ⟨by rw [hE];rfl,M.fr⟩
theorem n8 (id nm:Kz) (A B:Ky) (c cp:Nat) (vE vF:Kv) (l p:List Bd) (w:Kw) (hl:BdOk l) (hp:BdOk p) (hrl:Rd w A (l.length*5) (AE Bd.cells l)) (hrp:Rd w B (p.length*5) (AE Bd.cells p)) :
 Calls prog 24 #[.agg #[str id,str nm,.slice A l.length c,vE,vF],.slice B p.length cp] w (BS w (AA (I5 l p))):=by
 have hpl:=hp.len;refine BR func24 ntmps24 X λM=>W ?_
 refine DG M kw X X 48 X X ([str id,str nm,.slice A l.length c,vE,vF]) X λg2 w1 hg2 M=>W ?_
 refine CW M 10 X X call36 (nI B cp p _ hp (hrp.fr0 M.fr)) λw2 M=>W ?_
 refine AB X (λh12=>?_) (λh12=>?_)
 ·have h12p:=(odf (CJ h12));refine W ?_;exact gr1 X ⟨by rw [I5,if_neg h12p],M.fr⟩
 have h12p:=(odt (BO h12));refine W ?_;refine EF M [2,1] (λze zF e wr mz=>∃(i:Nat),e=(6,AA (i:Int))::ze∧zF wr∧(i≤p.length)∧(G6 l p=G6 l (p.drop i))∧mz=p.length-i) ⟨0,X,M,Ae _,X,X⟩ ?_;rintro _ w3 _ ⟨i,rfl,M,hi,hE,rfl⟩;refine W ?_;refine AB X (λh17=>?_) (λh17=>?_)
 ·have h17p:=odt h17;obtain ⟨x,_,_,hx,hA_x⟩:=ex5 (i:=i) (hrp.fr0 M.fr);refine W ?_;refine MQ (λ(g7:Nat)=>[(1,.slice B p.length cp),(2,pg g2),(6,AA (i:Int)),(7,pg g7),(8,.bool ((EK l x.name).isSome))]) (λ(g7:Nat)=>λw'=>Mem w AR [As.blk g7 61 (Vl.cells ((EK l x.name).getD zeroVl)),As.blk g2 48 [str id,str nm,.slice A l.length c,vE,vF]] w') ?_ (λkr7=>?_)
  ·intro g7 w4 M;refine W ?_;refine AB X (λh32=>?_) (λh32=>?_)
   ·have h32p:=CJ h32;refine W ?_;exact gr1 X ⟨by rw [I5,if_pos h12p,hE,AG hx,a1S h32p],M.fr⟩
   have h32p:=BO h32;refine W ?_;refine CS CA gkr ?_;have M:=M.drew;refine W ?_;refine sa X (AK i hA_x X X X (sl X) A0) (T2 ?_);refine sd X X (BD Bd.len (hrp.fr0 M.fr) hA_x hx 1 X) (W ?_);refine AB X (λh41=>?_) (λh41=>?_)
   ·have h41p:=(odf (CJ h41));refine W ?_;exact gr1 X ⟨by rw [I5,if_pos h12p,hE,AG hx,a1U h32p h41p],M.fr⟩
   have h41p:=(odt (BO h41));refine W ?_;refine fag ⟨i+1,X,(M.pk [1]),?_,?_,X⟩
   ·omega
   rw [hE,AG hx,a1T h32p h41p]
  refine J2 M 14 CA λM=>oc 0 14 X X M (ol 1 14 X X X M (λ_ M=>(M.cell 0 X X)) (oc 2 14 X X M (oc 3 14 X X M (oa 4 14 X X M (λ_ M=>AK i hA_x X X X (sl X) A0) (oc 5 14 X X M (ol 6 14 X X X M (λ_ M=>(BD Bd.len (hrp.fr0 M.fr) hA_x hx 0 X)) (G3 (rs:=[7,11]) gkr (by simp) λiz hiz=>?_)))))))
  simp only [Ak,Ax,or_false] at hiz
  rcases hiz with rfl|rfl
  ·refine HU (some 28) X kw X X (AD X X call53) (RL A c l x.name _ hl.len (hrl.fr0 M.fr)) ?_;rintro _ w5 ⟨rfl,hfw5⟩;refine ⟨_,X,λ_=>M.step hfw5,?_⟩;have M:=M.step hfw5;refine oc 8 14 X X M (oc 9 14 X X M (oc 10 14 X X M (B5 11 (some 7) gkr X kw X X (λρ hρ=>BN 61 X _ [.int .u8 0,AA 0,.bool false,str []] GH X) ?_)));rintro _ w6 ⟨g7,rfl,hg7,hq7,hb7,hfw6⟩;refine ⟨λ_=>M.step hfw6,?_⟩;have M:=M.push hfw6 _ hb7 (CU hg7 hq7)
   replace M:Mem w AR (As.blk g7 61 [.int .u8 0,AA 0,.bool false,str []]::_) w6:=M
   exact fop M 12 0 X X X BQ X (·.drop 1) λw7 M=>oc 13 14 X X (M.drop 1) (fdn (kr7 g7 _ _ M ⟨X,X,X,X,X,trivial⟩))
  refine E0 (some 7) X kw X X (λρ hρ=>BN 61 X _ [.int .u8 0,AA 0,.bool false,str []] GH X) ?_;rintro _ w8 ⟨g7,rfl,hg7,hq7,hb7,hfw8⟩;refine ⟨λ_=>M.step hfw8,?_⟩;have M:=M.push hfw8 _ hb7 (CU hg7 hq7)
  replace M:Mem w AR (As.blk g7 61 [.int .u8 0,AA 0,.bool false,str []]::_) w8:=M
  refine BC 7 (some 28) gkr X kw X X (AD X X call53) (RL A c l x.name _ hl.len (hrl.fr0 M.fr)) ?_;rintro _ w9 ⟨rfl,hfw9⟩;refine ⟨_,X,λ_=>(M.drop 1).step hfw9,?_⟩;have M:=M.step hfw9;exact oc 8 14 X X (M.drop 1) (oc 9 14 X X (M.drop 1) (oc 10 14 X X (M.drop 1) (fop M 12 0 X X X BQ X (·.drop 1) λw10 M=>oc 13 14 X X (M.drop 1) (fdn (kr7 g7 _ _ M ⟨X,X,X,X,X,trivial⟩)))))
 have h17p:=odf h17;refine W ?_;obtain rfl:i=p.length:=by omega
 rw [Am] at hE
 refine W ?_;exact gr1 X ⟨by rw [I5,if_pos h12p,hE];rfl,M.fr⟩
end
end Go.Proofs.YtppmdnmjepkfaaaGreatDoor
