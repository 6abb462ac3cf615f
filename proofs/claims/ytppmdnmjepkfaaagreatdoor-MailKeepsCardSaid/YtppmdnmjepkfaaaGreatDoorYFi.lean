/- Lemmas. -/
import Derived.Test.YtppmdnmjepkfaaaGreatDoorYR10c
import Derived.Test.YtppmdnmjepkfaaaGreatDoorYR14c
set_option maxHeartbeats 16000000
set_option maxRecDepth 100000
namespace Go.Proofs.YtppmdnmjepkfaaaGreatDoor
open Go.RowKit
open Tryz
open Decidable renaming decide→O
open Option renaming some→G,none→zx
open Bool renaming true→zz,false→zy
open True renaming intro→zw
open Go.Proofs.Tryz renaming prog→zv
open Go renaming Calls→zt
section
theorem a18 (s:Kz) (gx:Nat) (hl:s.length≤256):∀f:Nat,RefOK s gx f (DW s f)
 | 0=>⟨WR s 0,λ_ _ _ _ h=>absurd h (Dv _),λ_ _ _ _ h=>absurd h (Dv _),λ_ _ _ _ h=>absurd h (Dv _),λ_ _ _ _ h=>absurd h (Dv _),λ_ _ _ _ h=>absurd h (Dv _),λ_ _ _ _ h=>absurd h (Dv _)⟩
 | f+1=>
  have hF:=a18 s gx hl f
  ⟨WR s (f+1),λy w hb hy hm=>yY hF y w hb hy (Eg hm) hl,λy w hb hy hm=>eD hF y w hb hy (Eg hm) hl,λy w hb hy hm=>dZ hF y w hb hy (Eg hm) hl,λy w hb hy hm=>dY hF y w hb hy (Eg hm) hl,λy w hb hy hm=>ZD hF y w hb hy (Eg hm) hl,λy w hb hy hm=>WO hF y w hb hy (Eg hm) hl⟩
theorem UN {s:Kz} (h:(256:Int)<(s.length:Int)):D0 s=(.zero,0,3):=Ac A0
theorem a17 {s:Kz} (h1:((O ((DW s 258 1 (AS s rx0)).2.e=(0:Int)))&&(!decide ((((DW s 258 1 (AS s rx0)).2.kd:Nat):Int)=0)))=zz):(DW s 258 1 (AS s rx0)).2.e=0∧¬(DW s 258 1 (AS s rx0)).2.kd=0:=⟨odt (DU h1).1,λz=>odf (CJ (DU h1).2) A0⟩
theorem a16 {s:Kz} (h1:((O ((DW s 258 1 (AS s rx0)).2.e=(0:Int)))&&(!decide ((((DW s 258 1 (AS s rx0)).2.kd:Nat):Int)=0)))=zy):¬((DW s 258 1 (AS s rx0)).2.e=0∧¬(DW s 258 1 (AS s rx0)).2.kd=0):=λz=>by
 rcases JQ h1 with h1|h1
 ·exact odf h1 z.1
 exact z.2 (by have:=odt (BL h1);omega)
section
variable {s:Kz} (h:¬(256:Int)<((s.length:Nat):Int))
include h
theorem N9 : D0 s=if (if (DW s 258 1 (AS s rx0)).2.e=0∧¬(DW s 258 1 (AS s rx0)).2.kd=0 then (DW s 258 1 (AS s rx0)).2.fail 4 (DW s 258 1 (AS s rx0)).2.tat else (DW s 258 1 (AS s rx0)).2).e=0 then ((DW s 258 1 (AS s rx0)).1,0,0) else (.zero,(if (DW s 258 1 (AS s rx0)).2.e=0∧¬(DW s 258 1 (AS s rx0)).2.kd=0 then (DW s 258 1 (AS s rx0)).2.fail 4 (DW s 258 1 (AS s rx0)).2.tat else (DW s 258 1 (AS s rx0)).2).wh,(if (DW s 258 1 (AS s rx0)).2.e=0∧¬(DW s 258 1 (AS s rx0)).2.kd=0 then (DW s 258 1 (AS s rx0)).2.fail 4 (DW s 258 1 (AS s rx0)).2.tat else (DW s 258 1 (AS s rx0)).2).e):=by
 unfold D0;rw [Ae (show ¬256<s.length by omega)]
theorem bE (h1:((O ((DW s 258 1 (AS s rx0)).2.e=(0:Int)))&&(!decide ((((DW s 258 1 (AS s rx0)).2.kd:Nat):Int)=0)))=zz) (h2:¬((DW s 258 1 (AS s rx0)).2.fail 4 (DW s 258 1 (AS s rx0)).2.tat).e=0) :
 D0 s=(.zero,((DW s 258 1 (AS s rx0)).2.fail 4 (DW s 258 1 (AS s rx0)).2.tat).wh,((DW s 258 1 (AS s rx0)).2.fail 4 (DW s 258 1 (AS s rx0)).2.tat).e):=by
 rw [N9 h,Ac (a17 h1),Ae h2]
theorem bD (h1:((O ((DW s 258 1 (AS s rx0)).2.e=(0:Int)))&&(!decide ((((DW s 258 1 (AS s rx0)).2.kd:Nat):Int)=0)))=zz) (h2:((DW s 258 1 (AS s rx0)).2.fail 4 (DW s 258 1 (AS s rx0)).2.tat).e=0):D0 s=((DW s 258 1 (AS s rx0)).1,0,0):=by
 rw [N9 h,Ac (a17 h1),Ac h2]
theorem dX (h1:((O ((DW s 258 1 (AS s rx0)).2.e=(0:Int)))&&(!decide ((((DW s 258 1 (AS s rx0)).2.kd:Nat):Int)=0)))=zy) (h2:¬(DW s 258 1 (AS s rx0)).2.e=0):D0 s=(.zero,(DW s 258 1 (AS s rx0)).2.wh,(DW s 258 1 (AS s rx0)).2.e):=by
 rw [N9 h,Ae (a16 h1),Ae h2]
theorem dW (h1:((O ((DW s 258 1 (AS s rx0)).2.e=(0:Int)))&&(!decide ((((DW s 258 1 (AS s rx0)).2.kd:Nat):Int)=0)))=zy) (h2:(DW s 258 1 (AS s rx0)).2.e=0):D0 s=((DW s 258 1 (AS s rx0)).1,0,0):=by
 rw [N9 h,Ae (a16 h1),Ac h2]
end
theorem tJ {Xx:Rx} {n:Xn} (h:¬(if Xx.e=0 then ((n,0,0):Xn × Nat × Int) else (.zero,Xx.wh,Xx.e)).2.2=0):(if Xx.e=0 then ((n,0,0):Xn × Nat × Int) else (.zero,Xx.wh,Xx.e)).1=.zero:=by
 by_cases hx:Xx.e=0
 ·rw [Ac hx] at h;exact absurd rfl h
 rw [Ae hx]
theorem nV (s:Kz):(D0 s).1.sm 1048576:=by
 rcases X2 s with ⟨_,_,h⟩|⟨_,h⟩
 ·rw [←h];exact X3 s
 have:(D0 s).1=.zero:=by
  by_cases h1:(256:Int)<(s.length:Int)
  ·rw [UN h1]
  rw [N9 h1] at h ⊢
  exact tJ h
 rw [this];trivial
theorem MA (a0:Kz):zv.built 258 [(0,str a0)]=G #[str a0,AA 0,AA 0,str [],.int .u8 0,AA 0,.bool zy,str [],AA 0,AA 0,AA 0]:=zr
theorem o9 (s:Kz) (w:Kw) (hs:s.length≤4611686018427387904) :
 zt zv 162 #[str s] w λe w'=>∃A F,e=.returned (.tuple #[.agg ((D0 s).1.cells A).toArray,AA (((D0 s).2.1:Nat):Int),AA (D0 s).2.2])∧(D0 s).1.AtL 213 w' A F∧(∀k∈F,w.heap.size≤k∧k<w'.heap.size)∧Fr0 w w':=by
 refine BO func162 ntmps162 X λM=>W ?_
 refine CE M X BJ λg2 w1 hg2 M=>W ?_
 refine ya X (BT X X Ad) (W ?_);refine AC X (λh9=>?_) (λh9=>?_)
 ·have h9p:=odt h9;refine W ?_;refine ya X (B8 (parts:=[]) X X (EQ)) (BX M 0 X X AD X λw2 M=>W ?_);refine IH X X (M.rdBlk 0 X X) Bj X AD X X ?_;rw [UN h9p];exact ⟨zx,[],X,⟨X,X⟩,(λk hk=>absurd hk (by simp)),M.fr⟩
 have h9p:=odf h9;refine W ?_;refine ya X (B8 (parts:=[(0,_)]) X X (MA _)) (CU M X X λgx w3 hgx M=>W ?_);refine FQ M 0 15 X X (AE X X call199) (PG s rx0 _ _ (M.blk 0 X) (Aj _) A0) λw4 M=>W ?_
 refine cl 17 X (AE X X call200) ((a18 s gx A0 258).c1 (AS s rx0) _ (M.blk 0 X) C8 (Hr (tA _ _) A0)) ?_;rintro _ w5 ⟨A17,F17,rfl,hat17,hnw17,hbw5,hfw5⟩;have M:=M.putPush 0 X hbw5 hfw5 (As.xn 213 (DW s 258 1 (AS s rx0)).1 A17 F17) hat17 hnw17;obtain ⟨hI17,hm17⟩:=(show RxI s (DW s 258 1 (AS s rx0)).2∧True from ⟨(WR s 258).I 1 _ C8 (Hr (tA _ _) A0),zw⟩);refine cq (CE M X BJ λg6 w6 hg6 M=>BX M 0 X X AD X λw7 M=>W ?_);refine fvm M 7 [6,5,2] [(30,.bool ((O ((DW s 258 1 (AS s rx0)).2.e=(0:Int)))&&(!decide ((((DW s 258 1 (AS s rx0)).2.kd:Nat):Int)=0))))] ?_ (λk23=>?_)
 ·intro w8 M;refine W ?_;refine AC X (λh30=>?_) (λh30=>?_)
  ·refine W ?_;refine FQ M 2 37 X X (AE X X call201) (HE s ((DW s 258 1 (AS s rx0)).2) _ _ _ _ (M.blk 2 X)) λw9 M=>W ?_
   refine AC X (λh42=>?_) (λh42=>?_)
   ·have h42p:=(odf (CJ h42));refine sx_seq (EO 12 (λw'=>Mem w AR [As.blk g6 213 (Xn.cells ((DW s 258 1 (AS s rx0)).1) A17),As.xn 213 ((DW s 258 1 (AS s rx0)).1) A17 F17,As.blk gx 258 (Rx.cells s (((DW s 258 1 (AS s rx0)).2).fail 4 ((DW s 258 1 (AS s rx0)).2.tat)))] w') CA ?_);have M:=M.drew;refine oa 0 12 X X (M.pk [0,1,2]) (λ_ M=>B8 (parts:=[]) X X (EQ)) (oc 1 12 X X (M.pk [0,1,2]) (oc 2 12 X X (M.pk [0,1,2]) (oc 3 12 X X (M.pk [0,1,2]) (ol 4 12 X X X (M.pk [0,1,2]) (λ_ M=>(M.cell 2 X X)) (oc 5 12 X X (M.pk [0,1,2]) (oc 6 12 X X (M.pk [0,1,2]) (oc 7 12 X X (M.pk [0,1,2]) (ol 8 12 X X X (M.pk [0,1,2]) (λ_ M=>(M.cell 2 X X)) (B7 9 zx zr X kw X X (λρ hρ=>BZ 213 _ _ X g2 0 213 _ ([.int .u8 0,.int .u8 0,AA 0,.bool zy,str [],str [],.slice zx 0 0]) (hρ _ _ X) (hρ _ _ X) (M.blk 3 X) AD (CM X) (BN X)) ?_)))))))));rintro _ w10 ⟨rfl,hbw10,hfw10⟩
    replace M:Mem w AR (List.set _ 3 (As.blk g2 213 [.int .u8 0,.int .u8 0,AA 0,.bool zy,str [],str [],.slice zx 0 0])) w10:=M.putB 3 rfl hbw10 hfw10
    refine ⟨λ_=>(M.pk [0,1,2]),oc 10 12 X X (M.pk [0,1,2]) (oc 11 12 X X (M.pk [0,1,2]) (fdn (W ?_)))⟩;refine IH X X (M.rdBlk 3 X X) Bj X AD X X ?_;rw [bE h9p h30 h42p];exact ⟨zx,[],X,⟨X,X⟩,(λk hk=>absurd hk (by simp)),M.fr⟩
   have h42p:=(odt (BL h42));refine W ?_;refine CF M 0 X X Bj AD X (BX M 3 X X AD X λw11 M=>W ?_);refine IH X X (M.rdBlk 3 X X) Bj X AD X X ?_;rw [bD h9p h30 h42p];exact ⟨_,_,X,M.ok 1 _ X,M.new0 1 X,M.fr⟩
  have h30p:=bd h30;refine W ?_;refine AC X (λh42=>?_) (λh42=>?_)
  ·have h42p:=(odf (CJ h42));refine sx_seq (EO 12 (λw'=>Mem w AR [As.blk g6 213 (Xn.cells ((DW s 258 1 (AS s rx0)).1) A17),As.xn 213 ((DW s 258 1 (AS s rx0)).1) A17 F17,As.blk gx 258 (Rx.cells s ((DW s 258 1 (AS s rx0)).2))] w') CA ?_);have M:=M.drew;refine oa 0 12 X X (M.pk [0,1,2]) (λ_ M=>B8 (parts:=[]) X X (EQ)) (oc 1 12 X X (M.pk [0,1,2]) (oc 2 12 X X (M.pk [0,1,2]) (oc 3 12 X X (M.pk [0,1,2]) (ol 4 12 X X X (M.pk [0,1,2]) (λ_ M=>(M.cell 2 X X)) (oc 5 12 X X (M.pk [0,1,2]) (oc 6 12 X X (M.pk [0,1,2]) (oc 7 12 X X (M.pk [0,1,2]) (ol 8 12 X X X (M.pk [0,1,2]) (λ_ M=>(M.cell 2 X X)) (B7 9 zx zr X kw X X (λρ hρ=>BZ 213 _ _ X g2 0 213 _ ([.int .u8 0,.int .u8 0,AA 0,.bool zy,str [],str [],.slice zx 0 0]) (hρ _ _ X) (hρ _ _ X) (M.blk 3 X) AD (CM X) (BN X)) ?_)))))))));rintro _ w12 ⟨rfl,hbw12,hfw12⟩
   replace M:Mem w AR (List.set _ 3 (As.blk g2 213 [.int .u8 0,.int .u8 0,AA 0,.bool zy,str [],str [],.slice zx 0 0])) w12:=M.putB 3 rfl hbw12 hfw12
   refine ⟨λ_=>(M.pk [0,1,2]),oc 10 12 X X (M.pk [0,1,2]) (oc 11 12 X X (M.pk [0,1,2]) (fdn (W ?_)))⟩;refine IH X X (M.rdBlk 3 X X) Bj X AD X X ?_;rw [dX h9p h30 h42p];exact ⟨zx,[],X,⟨X,X⟩,(λk hk=>absurd hk (by simp)),M.fr⟩
  have h42p:=(odt (BL h42));refine W ?_;refine CF M 0 X X Bj AD X (BX M 3 X X AD X λw13 M=>W ?_);refine IH X X (M.rdBlk 3 X X) Bj X AD X X ?_;rw [dW h9p h30 h42p];exact ⟨_,_,X,M.ok 1 _ X,M.new0 1 X,M.fr⟩
 refine A1 (d:=23) X (λh23=>?_) (λh23=>?_)
 ·refine T7 ?_;exact k23 M
 refine T7 ?_;exact k23 M
def rkn (n:Xn):Nat:=(if ((O ((n.op.toNat:Int)=(1:Int))) || (O ((n.op.toNat:Int)=(2:Int))))=zz then 0 else (if ((O ((n.op.toNat:Int)=(3:Int))) || (O ((n.op.toNat:Int)=(4:Int))))=zz then 1 else 2))
theorem a27 {n:Xn} {m:Nat} (hl:m=n.nk) (h5:((O ((n.op.toNat:Int)<1)) || (O (17<(n.op.toNat:Int))))=zy):O ((m:Int)=((rkn n:Nat):Int))=O ((n.nk:Int)=IJ n.op):=by
 subst hl
 have e:IJ n.op=((rkn n:Nat):Int):=by
  unfold IJ rkn;rw [AN h5];have h1:=odf (FL h5).1
  have a12:((O ((n.op.toNat:Int)=1)) || (O ((n.op.toNat:Int)=2)))=O ((n.op.toNat:Int)≤2):=by
   by_cases a:(n.op.toNat:Int)=1
   ·rw [Bg a,Bg (show (n.op.toNat:Int)≤2 by omega)];rfl
   rw [Bb a,Gc];exact decide_eq_decide.2 A0
  rw [a12]
  by_cases a:(n.op.toNat:Int)≤2
  ·rw [Ac (Bg a),Ac (Bg a)];rfl
  have na:¬O ((n.op.toNat:Int)≤2)=zz:=λz=>a (odt z)
  have a34:((O ((n.op.toNat:Int)=3)) || (O ((n.op.toNat:Int)=4)))=O ((n.op.toNat:Int)≤4):=by
   by_cases b:(n.op.toNat:Int)=3
   ·rw [Bg b,Bg (show (n.op.toNat:Int)≤4 by omega)];rfl
   rw [Bb b,Gc];exact decide_eq_decide.2 A0
  rw [Ae na,Ae na,a34]
  by_cases b:(n.op.toNat:Int)≤4
  ·rw [Ac (Bg b),Ac (Bg b)];rfl
  have nb:¬O ((n.op.toNat:Int)≤4)=zz:=λz=>b (odt z)
  rw [Ae nb,Ae nb];rfl
 rw [e]
theorem a0L {v:Vl} (h:chk v=0) (hi:v.int<0):(v.kind.toNat:Int)=1:=by
 have h1:vOk v=zz:=by
  cases hv:vOk v with
  | true=>rfl
  | false=>rw [JX hv] at h;cases h
 unfold vOk at h1
 split at h1
 ·rename_i hk;rw [hk];rfl
 split at h1
 ·have:=odt (DU h1).1;omega
 split at h1
 ·have:=odt (DU h1).1;omega
 cases h1
theorem cS (n:Xn) (k:Bool):I5 n k=(!(((!decide ((n.nk:Int)=IJ n.op)) || ((!decide ((n.op.toNat:Int)=1))&&(!(n.vl.same zeroVl)))) || ((!decide ((n.op.toNat:Int)=2))&&(!decide (n.nm=[]))))&&(!(((O ((n.op.toNat:Int)=1))&&((!decide ((chk n.vl)=(0:Int))) || (O (n.vl.int<(0:Int))))))&&(!(((O ((n.op.toNat:Int)=2))&&((!(B5 n.nm)) || (IL n.nm)))) && !k))):=by
 unfold I5
 generalize O ((n.nk:Int)=IJ n.op)=p
 generalize O ((n.op.toNat:Int)=1)=q
 generalize n.vl.same zeroVl=V
 generalize O ((n.op.toNat:Int)=2)=r
 generalize O (n.nm=[])=E
 generalize O ((chk n.vl)=(0:Int))=C
 generalize O (n.vl.int<(0:Int))=G'
 generalize B5 n.nm=N
 generalize IL n.nm=K
 clear n
 decide +revert +kernel
section
variable {n:Xn} {m:Nat} {k:Bool} (hl:m=n.nk) (h5:((O ((n.op.toNat:Int)<(1:Int))) || (O ((17:Int)<(n.op.toNat:Int))))=zy)
include hl h5
theorem S3 : I5 n k=(!(((!decide ((m:Int)=(((rkn n):Nat):Int))) || ((!decide ((n.op.toNat:Int)=1))&&(!(n.vl.same zeroVl)))) || ((!decide ((n.op.toNat:Int)=2))&&(!decide (n.nm=[]))))&&(!(((O ((n.op.toNat:Int)=1))&&((!decide ((chk n.vl)=(0:Int))) || ((O ((n.vl.kind.toNat:Int)=1))&&(O (n.vl.int<(0:Int)))))))&&(!(((O ((n.op.toNat:Int)=2))&&((!(B5 n.nm)) || (IL n.nm)))) && !k))):=by
 rw [cS,a27 hl h5]
 have e:((!decide ((chk n.vl)=(0:Int))) || ((O ((n.vl.kind.toNat:Int)=1))&&(O (n.vl.int<(0:Int)))))=((!decide ((chk n.vl)=(0:Int))) || (O (n.vl.int<(0:Int)))):=by
  by_cases a:chk n.vl=0
  ·by_cases b:n.vl.int<0
   ·rw [Bg (a0L a b),Eu]
   rw [Bb b,En]
  rw [Bb a];rfl
 rw [e]
theorem a38 (h57:(((!decide ((m:Int)=(((rkn n):Nat):Int))) || ((!decide ((n.op.toNat:Int)=1))&&(!(n.vl.same zeroVl)))) || ((!decide ((n.op.toNat:Int)=2))&&(!decide (n.nm=[]))))=zz):I5 n k=zy:=by rw [S3 hl h5,h57];rfl
theorem a36 (h57:(((!decide ((m:Int)=(((rkn n):Nat):Int))) || ((!decide ((n.op.toNat:Int)=1))&&(!(n.vl.same zeroVl)))) || ((!decide ((n.op.toNat:Int)=2))&&(!decide (n.nm=[]))))=zy) (h78:((O ((n.op.toNat:Int)=1))&&((!decide ((chk n.vl)=(0:Int))) || ((O ((n.vl.kind.toNat:Int)=1))&&(O (n.vl.int<(0:Int))))))=zz):I5 n k=zy:=by rw [S3 hl h5,h57,h78];rfl
theorem a35 (h57:(((!decide ((m:Int)=(((rkn n):Nat):Int))) || ((!decide ((n.op.toNat:Int)=1))&&(!(n.vl.same zeroVl)))) || ((!decide ((n.op.toNat:Int)=2))&&(!decide (n.nm=[]))))=zy) (h92:((O ((n.op.toNat:Int)=2))&&((!(B5 n.nm)) || (IL n.nm)))=zz):I5 n k=zy:=by rw [S3 hl h5,h57,h92];simp
theorem a28 (h57:(((!decide ((m:Int)=(((rkn n):Nat):Int))) || ((!decide ((n.op.toNat:Int)=1))&&(!(n.vl.same zeroVl)))) || ((!decide ((n.op.toNat:Int)=2))&&(!decide (n.nm=[]))))=zy) (h78:((O ((n.op.toNat:Int)=1))&&((!decide ((chk n.vl)=(0:Int))) || ((O ((n.vl.kind.toNat:Int)=1))&&(O (n.vl.int<(0:Int))))))=zy) (h92:((O ((n.op.toNat:Int)=2))&&((!(B5 n.nm)) || (IL n.nm)))=zy):I5 n zy=zz:=by rw [S3 hl h5,h57,h78,h92];rfl
end
theorem a33 (n:Xn):I5 n zz=zy:=by rw [cS];simp
theorem a39 {n:Xn} {k:Bool} (h5:((O ((n.op.toNat:Int)<1)) || (O (17<(n.op.toNat:Int))))=zz):I5 n k=zy:=by
 have e:IJ n.op = -1:=by unfold IJ;rw [Ac h5]
 rw [cS,e,Bb (show ¬(n.nk:Int) = -1 by omega)];rfl
theorem tF (n:Xn) (A:Ky) (L:List Xq) (f:Xq→Bool) (w:Kw) (hs:n.sm 1048576) (hl:L.length=n.nk) (hl2:L.length≤2) (hR:Rd w A (L.length*7) (AF Xq.cells L)) (hC:∀q∈L,∀W,Fr0 w W→zt zv 202 #[.agg (Xq.cells q).toArray] W λe W'=>e=.returned (.bool (f q))∧Fr0 W W') :
 zt zv 202 #[.agg (OF n A L.length).toArray] w (BR w (.bool (I5 n (L.any λq => !f q)))):=by
 refine BO func202 ntmps202 X λM=>srg (CZ M (wn_none X) X X 213 X X (OF n A L.length) X λg1 w1 hg1 M=>D1 X (srg (D1 X (sx_seq (JL ([(1,pg g1),(3,AA (((rkn n):Nat):Int))]) (λw'=>Mem w AR [As.blk g1 213 (OF n A L.length)] w'∧((O ((n.op.toNat:Int)<1)) || (O (17<(n.op.toNat:Int))))=zy) ?_ (λkj0=>?_))))))
 ·rintro w2 ⟨M,h5⟩;refine qx_seq (sx_seq (CL X (EZ M 0 X X X (SF X X (yb X (mM X X (yb X (fvm M 10 [1] [(47,.bool ((!decide ((L.length:Int)=(((rkn n):Nat):Int))) || ((!decide ((n.op.toNat:Int)=1))&&(!(n.vl.same zeroVl)))))] ?_ (λk37=>?_)))))))))
  ·intro w3 M;refine yb X (fvm M 9 [1] [(57,.bool (((!decide ((L.length:Int)=(((rkn n):Nat):Int))) || ((!decide ((n.op.toNat:Int)=1))&&(!(n.vl.same zeroVl)))) || ((!decide ((n.op.toNat:Int)=2))&&(!decide (n.nm=[])))))] ?_ (λk48=>?_))
   ·intro w4 M;refine nq (AC X (λh57=>?_) (λh57=>?_))
    ·have h57p:=((M8 h57).imp (λz=>((M8 z).imp (λz=>(odf (CJ z))) (λz=>(And.intro (odf (CJ (DU z).1)) (DU z).2)))) (λz=>(And.intro (odf (CJ (DU z).1)) (odf (CJ (DU z).2)))));exact CL X (gnr (qx_then_ret (gr1 X ⟨by rw [a38 hl h5 h57],M.fr⟩)))
    have h57p:=(And.intro (And.intro (odt (BL (FL (FL h57).1).1)) ((JQ (FL (FL h57).1).2).imp (λz=>(odt (BL z))) (λz=>z))) ((JQ (FL h57).2).imp (λz=>(odt (BL z))) (λz=>(odt (BL z)))));refine sx_skip (qx_seq (sx_seq (CL X (EZ M 0 X X X (HU X X (yb X (fvm M 17 [1] [(78,.bool ((O ((n.op.toNat:Int)=1))&&((!decide ((chk n.vl)=(0:Int))) || ((O ((n.vl.kind.toNat:Int)=1))&&(O (n.vl.int<(0:Int)))))))] ?_ (λk61=>?_))))))))
    ·intro w5 M;refine nq (AC X (λh78=>?_) (λh78=>?_))
     ·have h78p:=(And.intro (odt (DU h78).1) ((M8 (DU h78).2).imp (λz=>(odf (CJ z))) (λz=>(And.intro (odt (DU z).1) (odt (DU z).2)))));exact CL X (gnr (qx_then_ret (gr1 X ⟨by rw [a36 hl h5 h57 h78],M.fr⟩)))
     have h78p:=((JQ h78).imp (λz=>(odf z)) (λz=>(And.intro (odt (BL (FL z).1)) ((JQ (FL z).2).imp (λz=>(odf z)) (λz=>(odf z))))));refine sx_skip (qx_seq (sx_seq (CL X (EZ M 0 X X X (HU X X (yb X (fvm M 10 [1] [(92,.bool ((O ((n.op.toNat:Int)=2))&&((!(B5 n.nm)) || (IL n.nm))))] ?_ (λk82=>?_))))))))
     ·intro w6 M;refine nq (AC X (λh92=>?_) (λh92=>?_))
      ·have h92p:=(And.intro (odt (DU h92).1) ((M8 (DU h92).2).imp (λz=>(CJ z)) (λz=>z)));exact CL X (gnr (qx_then_ret (gr1 X ⟨by rw [a35 hl h5 h57 h92],M.fr⟩)))
      have h92p:=((JQ h92).imp (λz=>(odf z)) (λz=>(And.intro (BL (FL z).1) (FL z).2)));refine sx_skip (qx_seq (sx_seq (srg (D1 X (sx_block (EC M [1] (λze zF e wr mz=>∃(i:Nat),e=(4,AA (i:Int))::ze∧zF wr∧(i≤L.length)∧((L.any λq => !f q)=((L.drop i).any λq => !f q))∧mz=L.length-i) ⟨0,X,M,Aj _,X,X⟩ ?_))))));rintro _ w7 _ ⟨i,rfl,M,hi,hE,rfl⟩;refine sx_seq (CL X (yb X (EZ M 0 X X X (SF X X (G1 X X (nq (AC X (λh97=>?_) (λh97=>?_))))))))
      ·have h97p:=(odt h97);refine sx_skip (qx_seq (sx_seq (sx_block (CL X (EZ M 0 X X X (yb X ?_))))));obtain ⟨x,hx⟩:=EJ (l:=L) (i:=i) A0;obtain ⟨b_x,o_x,hA_x⟩:=DR (k:=7) A0 (hR.fr0 M.fr) hx;refine ya X (AK i hA_x X X X (sl X) A0) (ya X (AJ X X (BF Xq.len (hR.fr0 M.fr) hA_x hx) Bj X AD) (CQ M 105 X X call202 (hC x (Ah hx) _ M.fr) λw8 M=>D1 X (AC X (λh106=>?_) (λh106=>?_))))
       ·exact CL X (gnr (qx_block_ret (qx_then_ret (qx_then_ret (qx_block_ret (qx_then_ret (gr1 X ⟨by rw [show (L.any λq => !f q)=zz by rw [hE,AH hx,Ec,h106,Bool.true_or],a33],M.fr⟩)))))))
       have h106p:=(BL h106);refine sx_skip (qx_block_normal (qx_seq (sx_region (yb X (D3 X X (yb X (sxl_nil (fag ⟨i+1,X,M,?_,?_,X⟩))))))))
       ·omega
       rw [hE,AH hx,Ec,h106,Gc]
      have h97p:=(odf h97);exact sx_exit (qx_then_exit (qx_then_exit (qx_block_hit (qx_seq (CL X (gnr (gr1 X ⟨by rw [show (L.any λq => !f q)=zy by rw [hE,show i=L.length by omega,Aq];rfl,a28 hl h5 h57 h78 h92],M.fr⟩)))))))
     refine A1 (d:=82) X (λh82=>?_) (λh82=>?_)
     ·have h82p:=(odt h82);refine gyq X (KW M 0 X X X (JK (wn_on X X X) X X (AE X X call34) (FW n.nm _ (by have:=n.sm_nm hs;omega)) (gyq X (gyq X (fvm M 4 [82,1] [(91,.bool ((!(B5 n.nm)) || (IL n.nm)))] ?_ (λk87=>?_))))))
      ·intro w9 M;exact yb X (k82 M ⟨X,(by rw [h82];rfl),zw⟩)
      refine A1 (d:=87) X (λh87=>?_) (λh87=>?_)
      ·exact yo X (yo X (yo X (gyq X (k87 M ⟨X,X,(by rw [h87];rfl),zw⟩))))
      refine gyq X (KW M 0 X X X (sxl_call (G 90) (wn_on X X X) X X (AE X X call221) (eN _ _) ?_));rintro _ w10 ⟨rfl,hfw10⟩;refine ⟨_,X,?_⟩;have M:=M.step hfw10;exact gyq X (k87 M ⟨X,X,(by rw [h87];rfl),zw⟩)
     iterate 5 refine yo X ?_
     exact CW X X X X X (CW X X X X X (CW X X X X X (yo X (yb X (k82 M ⟨X,(by rw [h82];rfl),zw⟩)))))
    refine A1 (d:=61) X (λh61=>?_) (λh61=>?_)
    ·have h61p:=(odt h61);refine gyq X (yd X (AJ (xs:=[.int .u8 (n.vl.kind.toNat:Int),AA n.vl.int,.bool n.vl.bool,str n.vl.text]) X X (DO (M.blk 0 X) 1 4 X X) By X BM) (sxl_call (G 64) (wn_on X X X) X X (AE X X call35) (NA n.vl _ (by have:=n.sm_vl hs;omega)) ?_));rintro _ w11 ⟨rfl,hfw11⟩;refine ⟨_,X,?_⟩;have M:=M.step hfw11;refine yd X (KT X X X) (gyq X (fvm M 11 [61,1] [(77,.bool ((!decide ((chk n.vl)=(0:Int))) || ((O ((n.vl.kind.toNat:Int)=1))&&(O (n.vl.int<(0:Int))))))] ?_ (λk66=>?_)))
     ·intro w12 M;exact yb X (k61 M ⟨X,(by rw [h61];rfl),zw⟩)
     refine A1 (d:=66) X (λh66=>?_) (λh66=>?_)
     ·iterate 5 refine yo X ?_
      iterate 4 refine CW X X X X X ?_
      exact yo X (gyq X (k66 M ⟨X,X,(by rw [h66];rfl),zw⟩))
     refine gyq X (gyq X (KW M 0 X X X (yd X (ES X X X) (gyq X (fvm M 5 [66,61,1] [(76,.bool ((O ((n.vl.kind.toNat:Int)=1))&&(O (n.vl.int<(0:Int)))))] ?_ (λk71=>?_))))))
     ·intro w13 M;exact gyq X (k66 M ⟨X,X,(by rw [h66];rfl),zw⟩)
     refine A1 (d:=71) X (λh71=>?_) (λh71=>?_)
     ·exact gyq X (gyq X (KW M 0 X X X (yd X (HL X X X) (gyq X (k71 M ⟨X,X,X,(by rw [h71];rfl),zw⟩)))))
     iterate 4 refine yo X ?_
     exact gyq X (k71 M ⟨X,X,X,(by rw [h71];rfl),zw⟩)
    iterate 5 refine yo X ?_
    iterate 10 refine CW X X X X X ?_
    exact yo X (yb X (k61 M ⟨X,(by rw [h61];rfl),zw⟩))
   refine A1 (d:=48) X (λh48=>?_) (λh48=>?_)
   ·have h48p:=((M8 h48).imp (λz=>(odf (CJ z))) (λz=>(And.intro (odf (CJ (DU z).1)) (DU z).2)));iterate 4 refine yo X ?_
    exact CW X X X X X (CW X X X X X (CW X X X X X (yo X (yb X (k48 M ⟨X,(by rw [h48];rfl),zw⟩)))))
   have h48p:=(And.intro (odt (BL (FL h48).1)) ((JQ (FL h48).2).imp (λz=>(odt (BL z))) (λz=>z)));refine gyq X (KW M 0 X X X (yd X (KT X X X) (gyq X (fvm M 4 [48,1] [(56,.bool ((!decide ((n.op.toNat:Int)=2))&&(!decide (n.nm=[]))))] ?_ (λk52=>?_)))))
   ·intro w14 M;exact yb X (k48 M ⟨X,(by rw [h48];rfl),zw⟩)
   refine A1 (d:=52) X (λh52=>?_) (λh52=>?_)
   ·exact gyq X (KW M 0 X X X (yd X (IU X X X) (gyq X (k52 M ⟨X,X,(by rw [h52];rfl),zw⟩))))
   exact yo X (yo X (yo X (gyq X (k52 M ⟨X,X,(by rw [h52];rfl),zw⟩))))
  refine A1 (d:=37) X (λh37=>?_) (λh37=>?_)
  ·iterate 4 refine yo X ?_
   iterate 4 refine CW X X X X X ?_
   exact yo X (yb X (k37 M ⟨X,(by rw [h37];rfl),zw⟩))
  refine gyq X (KW M 0 X X X (yd X (KT X X X) (gyq X (fvm M 5 [37,1] [(46,.bool ((!decide ((n.op.toNat:Int)=1))&&(!(n.vl.same zeroVl))))] ?_ (λk41=>?_)))))
  ·intro w15 M;exact yb X (k37 M ⟨X,(by rw [h37];rfl),zw⟩)
  refine A1 (d:=41) X (λh41=>?_) (λh41=>?_)
  ·exact gyq X (yd X (AJ (xs:=[.int .u8 (n.vl.kind.toNat:Int),AA n.vl.int,.bool n.vl.bool,str n.vl.text]) X X (DO (M.blk 0 X) 1 4 X X) By X BM) (yd X (B8 (parts:=[]) X X (L8)) (yd X (l7 (a:=n.vl) (b:=zeroVl) X X X) (gyq X (k41 M ⟨X,X,(by rw [h41];rfl),zw⟩)))))
  iterate 4 refine yo X ?_
  exact gyq X (k41 M ⟨X,X,(by rw [h41];rfl),zw⟩)
 refine sx_block (CL X (EZ M 0 X X X (G1 X X (yb X (fvm M 4 [3,1] [(13,.bool ((O ((n.op.toNat:Int)<1)) || (O (17<(n.op.toNat:Int)))))] ?_ (λk9=>?_))))))
 ·intro w16 M;refine D1 X (AC X (λh5=>?_) (λh5=>?_))
  ·have h5p:=((M8 h5).imp (λz=>(odt z)) (λz=>(odt z)));exact CL X (gnr (qx_block_ret (qx_then_ret (gr1 X ⟨by rw [a39 h5],M.fr⟩))))
  refine CL X (EZ M 0 X X X (HU X X (yb X (fvm M 4 [3,1] [(22,.bool ((O ((n.op.toNat:Int)=1)) || (O ((n.op.toNat:Int)=2))))] ?_ (λk18=>?_)))))
  ·intro w17 M;refine D1 X (AC X (λh14=>?_) (λh14=>?_))
   ·have h14p:=((M8 h14).imp (λz=>(odt z)) (λz=>(odt z)));exact sx_region (yb X (sxl_nil (qx_block_normal (kj0 _ _ ⟨M,h5⟩ ⟨X,(by rw [rkn,Ac h14];rfl),zw⟩))))
   refine CL X (EZ M 0 X X X (HU X X (yb X (fvm M 4 [3,1] [(31,.bool ((O ((n.op.toNat:Int)=3)) || (O ((n.op.toNat:Int)=4))))] ?_ (λk27=>?_)))))
   ·intro w18 M;refine D1 X (AC X (λh23=>?_) (λh23=>?_))
    ·have h23p:=((M8 h23).imp (λz=>(odt z)) (λz=>(odt z)));exact sx_region (yb X (sxl_nil (qx_block_normal (kj0 _ _ ⟨M,h5⟩ ⟨X,(by rw [rkn,AN h14,Ac h23];rfl),zw⟩))))
    exact sx_skip (qx_block_normal (kj0 _ _ ⟨M,h5⟩ ⟨X,(by rw [rkn,AN h14,AN h23];rfl),zw⟩))
   refine A1 (d:=27) X (λh27=>?_) (λh27=>?_)
   ·exact yo X (yo X (yo X (yb X (k27 M ⟨X,X,(by rw [h27];rfl),zw⟩))))
   exact gyq X (KW M 0 X X X (yd X (ES X X X) (yb X (k27 M ⟨X,X,(by rw [h27];rfl),zw⟩))))
  refine A1 (d:=18) X (λh18=>?_) (λh18=>?_)
  ·exact yo X (yo X (yo X (yb X (k18 M ⟨X,X,(by rw [h18];rfl),zw⟩))))
  exact gyq X (KW M 0 X X X (yd X (ES X X X) (yb X (k18 M ⟨X,X,(by rw [h18];rfl),zw⟩))))
 refine A1 (d:=9) X (λh9=>?_) (λh9=>?_)
 ·exact yo X (yo X (yo X (yb X (k9 M ⟨X,X,(by rw [h9];rfl),zw⟩))))
 exact gyq X (KW M 0 X X X (yd X (LG X X X) (yb X (k9 M ⟨X,X,(by rw [h9];rfl),zw⟩))))
theorem eS : ∀(n:Xn) (A:Ky) (F:List Nat) (w:Kw),n.AtL 213 w A F→n.sm 1048576→zt zv 202 #[.agg (n.cells A).toArray] w (BR w (.bool (chkX n))):=by
 refine Xn.ind λn ih A F w hA hs=>?_
 obtain ⟨L,hL,hk,hR,hq⟩:=hA.kids;have h1:n.cells A=OF n A L.length:=by rw [hk];rfl
 have h2:chkX n=I5 n (L.any λq => !chkX q.1):=by rw [SK,←hL,Jj];rfl
 rw [h1,h2];refine tF n A L (λq=>chkX q.1) w hs hk (by have:=n.nk_le;omega) hR (λq hq' W hW=>?_);obtain ⟨F',hF'⟩:=hq q hq';have hk':q.1∈n.kids:=by rw [←hL];exact Ei hq'
 exact ih q.1 hk' q.2 F' W (hF'.fr0 hW) (Xn.sm_kid hs hk')
theorem a1y {b:Bd} {n:Xn} (h:(O (b.name=n.nm))=zz):¬(!(O (b.name=n.nm)))=zz:=by rw [h];decide
theorem yA {b:Bd} {n:Xn} (h:(O (b.name=n.nm))=zy):(!(O (b.name=n.nm)))=zz:=by rw [h];rfl
section
variable {op:UInt8} {m:Nat} (hl:((m:Nat):Int)=IJ op)
include hl
theorem mG : 1≤(op.toNat:Int)∧(op.toNat:Int)≤17:=by
 unfold IJ at hl
 split at hl
 ·omega
 rename_i h
 have h1:=FL (Cp.2 h)
 have:=odf h1.1;have:=odf h1.2
 omega
theorem uQ : (m:Int)=if (op.toNat:Int)≤2 then 0 else if (op.toNat:Int)≤4 then 1 else 2:=by
 obtain ⟨h1,h2⟩:=mG hl;unfold IJ at hl
 rw [Ae (by rw [Bb A0,Bb A0];decide)] at hl
 simpa using hl
theorem a3m (h1:¬(op.toNat:Int)=(1:Int)) (h2:¬(op.toNat:Int)=(2:Int)):0<m:=by
 have h:=uQ hl;have:=mG hl;rw [Ae A0] at h
 split at h<;>omega
theorem a3n (h1:¬(op.toNat:Int)=(1:Int)) (h2:¬(op.toNat:Int)=(2:Int)) (h3:¬(op.toNat:Int)=(3:Int)∧¬(op.toNat:Int)=(4:Int)):m=2:=by
 have h:=uQ hl;have:=mG hl;rw [Ae A0,Ae A0] at h
 omega
theorem a1b (h:((O ((op.toNat:Int)=3)) || (O ((op.toNat:Int)=4)))=zz):m=1:=by
 have h0:=uQ hl;have h1:=(M8 h).imp odt odt;rw [Ae A0,Ac A0] at h0
 omega
theorem a2q {a:UInt8} (h:(((O ((op.toNat:Int)=3))&&(O ((a.toNat:Int)=2))) || ((O ((op.toNat:Int)=4))&&(O ((a.toNat:Int)=1))))=zz):m=1:=by
 refine a1b hl ?_;rcases M8 h with h|h
 ·rw [(DU h).1];rfl
 rw [(DU h).1,Bool.or_true]
end
section
variable {n:Xn} {vars:List Bd} {f:Xq→UInt8 × Int} {L:List Xq} {x0 x1:Xq} (h12:(O ((n.op.toNat:Int)=(1:Int)))=zy) (h18:(O ((n.op.toNat:Int)=(2:Int)))=zy) (hx0:L[0]?=G x0)
include h12 h18 hx0
theorem a1T (he:(!decide ((f x0).2=(0:Int)))=zz):tyW n vars f L=(0,(f x0).2):=by
 rw [tyW,AN h12,AN h18]
 cases L with
 | nil=>simp at hx0
 | cons a r=>
  simp only [Ak,Ai] at hx0;subst hx0
  rw [LJ,Ac he]
variable (h49:(!decide ((f x0).2=(0:Int)))=zy)
include h49
theorem a15 (hl:L.length=1):tyW n vars f L=L3 n.op [(f x0).1] (f x0).1:=by
 rw [tyW,AN h12,AN h18]
 cases L with
 | nil=>simp at hx0
 | cons a r=>
  simp only [Ak,Ai] at hx0;subst hx0
  have:r=[]:=Bl (by simpa using hl)
  subst this;rw [LJ,AN h49]
  rfl
variable (hx1:L[1]?=G x1)
include hx1
theorem a1S (he:(!decide ((f x1).2=(0:Int)))=zz):tyW n vars f L=(0,(f x1).2):=by
 rw [tyW,AN h12,AN h18]
 cases L with
 | nil=>simp at hx0
 | cons a r=>
  cases r with
  | nil=>simp at hx1
  | cons c r=>
   simp only [Ak,Ai] at hx0;subst hx0
   simp only [Bq,Ak,Ai] at hx1;subst hx1
   rw [LJ,AN h49,LJ,Ac he]
theorem UM (h86:(!decide ((f x1).2=(0:Int)))=zy) (hl:L.length=2):tyW n vars f L=L3 n.op [(f x0).1,(f x1).1] (f x0).1:=by
 rw [tyW,AN h12,AN h18]
 cases L with
 | nil=>simp at hx0
 | cons a r=>
  cases r with
  | nil=>simp at hx1
  | cons c r=>
   simp only [Ak,Ai] at hx0;subst hx0
   simp only [Bq,Ak,Ai] at hx1;subst hx1
   have:r=[]:=Bl (by simpa using hl)
   subst this;rw [LJ,AN h49,LJ,AN h86]
   rfl
end
theorem a31 {op a b:UInt8} (h:(!decide ((a.toNat:Int)=(b.toNat:Int)))=zz):L3 op [a,b] a=(0,90):=by
 rw [L3,Ac]
 have:¬(b.toNat:Int)=(a.toNat:Int):=λz=>odf (CJ h) z.symm
 rw [Ec,Ec,Bb this];simp
theorem lH (a:UInt8):([a].any (λt => !decide ((t.toNat:Int)=(a.toNat:Int))))=zy:=by simp
theorem yB {a b:UInt8} (h:(a.toNat:Int)=(b.toNat:Int)):([a,b].any (λt => !decide ((t.toNat:Int)=(a.toNat:Int))))=zy:=by
 rw [Ec,Ec,Bg (show (a.toNat:Int)=a.toNat from rfl),Bg h.symm];rfl
theorem a1w {op a:UInt8} (h:(((O ((op.toNat:Int)=3))&&(O ((a.toNat:Int)=2))) || ((O ((op.toNat:Int)=4))&&(O ((a.toNat:Int)=1))))=zz):L3 op [a] a=(a,0):=by
 rw [L3,Ae (V8 (lH a))];rcases M8 h with h|h
 ·have h1:=odt (DU h).1;have h2:=odt (DU h).2
  simp [h1,h2]
 have h1:=odt (DU h).1;have h2:=odt (DU h).2
 simp [h1,h2]
theorem a1x {op a:UInt8} (h:(((O ((op.toNat:Int)=3))&&(O ((a.toNat:Int)=2))) || ((O ((op.toNat:Int)=4))&&(O ((a.toNat:Int)=1))))=zy) (h2:((O ((op.toNat:Int)=3)) || (O ((op.toNat:Int)=4)))=zz):L3 op [a] a=(0,90):=by
 rw [L3,Ae (V8 (lH a))];rcases M8 h2 with h1|h1
 ·have h1:=odt h1;simp only [h1,decide_true,Eu] at h
  have h3:=odf (FL h).1
  simp [h1,h3]
 have h1:=odt h1;simp only [h1,decide_true,Eu] at h
 have h3:=odf (FL h).2
 simp [h1,h3]
section
variable {op a b:UInt8}
theorem NS (h90:(a.toNat:Int)=(b.toNat:Int)):L3 op [a,b] a=if ((op.toNat:Int)=7∨(op.toNat:Int)=8) then (2,0)
 else if (((op.toNat:Int)=3∨(op.toNat:Int)=5)∨(op.toNat:Int)=6)∧(a.toNat:Int)=2 then (a,0)
 else if ((9:Int)≤(op.toNat:Int)∧(op.toNat:Int)≤12)∧¬(a.toNat:Int)=2 then (2,0)
 else if (((op.toNat:Int)=4∨(13:Int)≤(op.toNat:Int))∧(a.toNat:Int)=1)∨((op.toNat:Int)=13∧(a.toNat:Int)=3) then (a,0)
 else (0,90):=by
 rw [L3,Ae (V8 (yB h90))];simp only [Bn,Dw,decide_eq_true_eq,Et,decide_eq_false_iff_not]
theorem iN (h90:(a.toNat:Int)=(b.toNat:Int)) (h91:((O ((op.toNat:Int)=5)) || (O ((op.toNat:Int)=6)))=zz) (h101:(O ((a.toNat:Int)=2))=zz):L3 op [a,b] a=(2,0):=by
 have h4:=(M8 h91).imp odt odt;have h5:=odt h101;have h6:a=2:=Ge.1 (by have:(2:UInt8).toNat=2:=rfl;omega);rw [NS h90,Ae A0,Ac A0,h6]
theorem iO (h90:(a.toNat:Int)=(b.toNat:Int)) (h91:((O ((op.toNat:Int)=5)) || (O ((op.toNat:Int)=6)))=zz) (h101:(O ((a.toNat:Int)=2))=zy):L3 op [a,b] a=(0,90):=by
 have h4:=(M8 h91).imp odt odt;have h5:=odf h101;rw [NS h90,Ae A0,Ae A0,Ae A0,Ae A0]
theorem iP (h90:(a.toNat:Int)=(b.toNat:Int)) (h102:((O ((op.toNat:Int)=7)) || (O ((op.toNat:Int)=8)))=zz):L3 op [a,b] a=(2,0):=by
 have h4:=(M8 h102).imp odt odt;rw [NS h90,Ac h4]
theorem lG (h91:((O ((op.toNat:Int)=5)) || (O ((op.toNat:Int)=6)))=zy) (h102:((O ((op.toNat:Int)=7)) || (O ((op.toNat:Int)=8)))=zy):¬(op.toNat:Int)=5∧¬(op.toNat:Int)=6∧¬(op.toNat:Int)=7∧¬(op.toNat:Int)=8:=⟨odf (FL h91).1,odf (FL h91).2,odf (FL h102).1,odf (FL h102).2⟩
theorem QJ (h90:(a.toNat:Int)=(b.toNat:Int)) (h1:¬(op.toNat:Int)=(1:Int)) (h2:¬(op.toNat:Int)=(2:Int)) (h3:¬(op.toNat:Int)=(3:Int)∧¬(op.toNat:Int)=(4:Int)) (h91:((O ((op.toNat:Int)=5)) || (O ((op.toNat:Int)=6)))=zy) (h102:((O ((op.toNat:Int)=7)) || (O ((op.toNat:Int)=8)))=zy) (h111:(O ((op.toNat:Int)≤12))=zz) (h116:(!decide ((a.toNat:Int)=2))=zz) (h0:1≤(op.toNat:Int)):L3 op [a,b] a=(2,0):=by
 have h4:=lG h91 h102;have h5:=odt h111;have h6:=odf (CJ h116);rw [NS h90,Ae A0,Ae A0,Ac A0]
theorem QK (h90:(a.toNat:Int)=(b.toNat:Int)) (h3:¬(op.toNat:Int)=(3:Int)∧¬(op.toNat:Int)=(4:Int)) (h91:((O ((op.toNat:Int)=5)) || (O ((op.toNat:Int)=6)))=zy) (h102:((O ((op.toNat:Int)=7)) || (O ((op.toNat:Int)=8)))=zy) (h116:(!decide ((a.toNat:Int)=2))=zy):L3 op [a,b] a=(0,90):=by
 have h4:=lG h91 h102;have h6:=odt (BL h116);rw [NS h90,Ae A0,Ae A0,Ae A0,Ae A0]
theorem QL (h90:(a.toNat:Int)=(b.toNat:Int)) (h111:(O ((op.toNat:Int)≤12))=zy) (h117:((O ((a.toNat:Int)=1)) || ((O ((op.toNat:Int)=13))&&(O ((a.toNat:Int)=3))))=zz):L3 op [a,b] a=(a,0):=by
 have h5:=odf h111;have h6:=(M8 h117).imp odt (λz=>And.intro (odt (DU z).1) (odt (DU z).2));rw [NS h90,Ae A0,Ae A0,Ae A0,Ac A0]
theorem QM (h90:(a.toNat:Int)=(b.toNat:Int)) (h111:(O ((op.toNat:Int)≤12))=zy) (h117:((O ((a.toNat:Int)=1)) || ((O ((op.toNat:Int)=13))&&(O ((a.toNat:Int)=3))))=zy):L3 op [a,b] a=(0,90):=by
 have h5:=odf h111;have h6:=odf (FL h117).1;have h7:=(JQ (FL h117).2).imp odf odf;rw [NS h90,Ae A0,Ae A0,Ae A0,Ae A0]
end
theorem o8 (n:Xn) (A:Ky) (V:Ky) (cv:Nat) (vars:List Bd) (L:List Xq) (f:Xq→UInt8 × Int) (w:Kw) (hvl:vars.length≤4611686018427387904) (hV:Rd w V (vars.length*5) (AF Bd.cells vars)) (hl:(L.length:Int)=IJ n.op) (hR:Rd w A (L.length*7) (AF Xq.cells L))
 (hT:∀q∈L,∀W,Fr0 w W→zt zv 203 #[.agg (Xq.cells q).toArray,.slice V vars.length cv] W λe W'=>e=.returned (.tuple #[.int .u8 ((f q).1.toNat:Int),AA (f q).2])∧Fr0 W W') :
 zt zv 203 #[.agg (OF n A L.length).toArray,.slice V vars.length cv] w (BR w (.tuple #[.int .u8 ((tyW n vars f L).1.toNat:Int),AA (tyW n vars f L).2])):=by
 have hL2:=a3n hl;have hL1:=a1b hl;refine BO func203 ntmps203 X λM=>W ?_
 refine CZ M kw X X 213 X X (OF n A L.length) X λg2 w1 hg2 M=>W ?_
 refine AC X (λh12=>?_) (λh12=>?_)
 ·refine W ?_;exact B1 X X X ⟨by rw [tyW,Ac h12]<;>rfl,M.fr⟩
 have h12p:=odf h12;refine W ?_;refine AC X (λh18=>?_) (λh18=>?_)
 ·have h18p:=odt h18;refine W ?_;refine EC M [2,1] (λze zF e wr mz=>∃(i:Nat),e=(6,AA (i:Int))::ze∧zF wr∧(i≤vars.length)∧(ffN (λ(_:Nat) (b:Bd) => !(O (b.name=n.nm))) 0 vars=ffN (λ(_:Nat) (b:Bd) => !(O (b.name=n.nm))) i (vars.drop i))∧mz=vars.length-i) ⟨0,X,M,Aj _,X,X⟩ ?_;rintro _ w2 _ ⟨i,rfl,M,hi,hvn,rfl⟩;refine W ?_;refine AC X (λh22=>?_) (λh22=>?_)
  ·have h22p:=odt h22;obtain ⟨b,_,_,hb,hA_b⟩:=ex5 (i:=i) (hV.fr0 M.fr);refine W ?_;refine CY CA zr ?_;have M:=M.drew;refine W ?_;refine sa X (AK i hA_b X X X (sl X) A0) (sb X (sd X X (BC Bd.len (hV.fr0 M.fr) hA_b hb 0 X) (W ?_)));refine AC X (λh32=>?_) (λh32=>?_)
   ·have h32p:=odt h32;refine W ?_;refine ya X (AK i hA_b X X X (sl X) A0) (T2 ?_);refine yl X X (BC Bd.len (hV.fr0 M.fr) hA_b hb 1 X) (W ?_);exact B1 X X X ⟨by rw [tyW,AN h12,Ac h18,hvn,AH hb,ffN,Ae (a1y h32)]<;>rfl,M.fr⟩
   have h32p:=odf h32;refine W ?_;refine fag ⟨i+1,X,M,?_,?_,X⟩
   ·omega
   rw [hvn,AH hb,ffN,Ac (yA h32)]
  have h22p:=odf h22;refine W ?_;exact B1 X X X ⟨by rw [tyW,AN h12,Ac h18,hvn,show i=vars.length by omega,Aq,ffN]<;>rfl,M.fr⟩
 have h18p:=odf h18;have hLp:=a3m hl h12p h18p;refine W ?_;obtain ⟨x0,_,_,hx0,hA_x0⟩:=ex5 (i:=0) (hR.fr0 M.fr);refine ya X (AK 0 hA_x0 X X X (sl X) A0) (ya X (AJ X X (BF Xq.len (hR.fr0 M.fr) hA_x0 hx0) Bj X AD) (yb X (CQ M 45 X X call203 (hT x0 (Ah hx0) _ M.fr) λw3 M=>W ?_)));refine AC X (λh49=>?_) (λh49=>?_)
 ·refine W ?_;exact B1 X X X ⟨by rw [a1T h12 h18 hx0 h49]<;>rfl,M.fr⟩
 have h49p:=(odt (BL h49));refine W ?_;refine fvm M 3 [7,2,1] [(57,.bool ((O ((n.op.toNat:Int)=3))&&(O (((f x0).1.toNat:Int)=2))))] ?_ (λk54=>?_)
 ·intro w4 M;refine yb X (fvm M 8 [7,2,1] [(66,.bool (((O ((n.op.toNat:Int)=3))&&(O (((f x0).1.toNat:Int)=2))) || ((O ((n.op.toNat:Int)=4))&&(O (((f x0).1.toNat:Int)=1)))))] ?_ (λk58=>?_))
  ·intro w5 M;refine W ?_;refine AC X (λh66=>?_) (λh66=>?_)
   ·have h66p:=bd h66;refine W ?_;exact B1 X X X ⟨by rw [a15 h12 h18 hx0 h49 (a2q hl h66),a1w h66]<;>rfl,M.fr⟩
   have h66p:=bd h66;refine W ?_;refine fvm M 4 [7,2,1] [(75,.bool ((O ((n.op.toNat:Int)=3)) || (O ((n.op.toNat:Int)=4))))] ?_ (λk71=>?_)
   ·intro w6 M;refine W ?_;refine AC X (λh75=>?_) (λh75=>?_)
    ·have h75p:=bd h75;refine W ?_;exact B1 X X X ⟨by rw [a15 h12 h18 hx0 h49 (hL1 h75),a1x h66 h75]<;>rfl,M.fr⟩
    have h75p:=bd h75;have hLq:=hL2 h12p h18p h75p;refine W ?_;obtain ⟨x1,_,_,hx1,hA_x1⟩:=ex5 (i:=1) (hR.fr0 M.fr);refine ya X (AK 1 hA_x1 X X X (sl X) A0) (ya X (AJ X X (BF Xq.len (hR.fr0 M.fr) hA_x1 hx1) Bj X AD) (yb X (CQ M 82 X X call203 (hT x1 (Ah hx1) _ M.fr) λw7 M=>W ?_)));refine AC X (λh86=>?_) (λh86=>?_)
    ·refine W ?_;exact B1 X X X ⟨by rw [a1S h12 h18 hx0 h49 hx1 h86]<;>rfl,M.fr⟩
    refine W ?_;refine AC X (λh90=>?_) (λh90=>?_)
    ·refine W ?_;exact B1 X X X ⟨by rw [UM h12 h18 hx0 h49 hx1 h86 (hL2 h12p h18p h75p),a31 h90]<;>rfl,M.fr⟩
    have h90p:=(odt (BL h90));refine W ?_;refine fvm M 4 [7,2] [(99,.bool ((O ((n.op.toNat:Int)=5)) || (O ((n.op.toNat:Int)=6))))] ?_ (λk95=>?_)
    ·intro w8 M;refine W ?_;refine AC X (λh91=>?_) (λh91=>?_)
     ·have h91p:=bd h91;refine W ?_;refine AC X (λh101=>?_) (λh101=>?_)
      ·refine W ?_;exact B1 X X X ⟨by rw [UM h12 h18 hx0 h49 hx1 h86 (hL2 h12p h18p h75p),iN h90p h91 h101]<;>rfl,M.fr⟩
      refine W ?_;exact B1 X X X ⟨by rw [UM h12 h18 hx0 h49 hx1 h86 (hL2 h12p h18p h75p),iO h90p h91 h101]<;>rfl,M.fr⟩
     refine W ?_;refine fvm M 4 [7,2] [(110,.bool ((O ((n.op.toNat:Int)=7)) || (O ((n.op.toNat:Int)=8))))] ?_ (λk106=>?_)
     ·intro w9 M;refine W ?_;refine AC X (λh102=>?_) (λh102=>?_)
      ·have h102p:=bd h102;refine W ?_;exact B1 X X X ⟨by rw [UM h12 h18 hx0 h49 hx1 h86 (hL2 h12p h18p h75p),iP h90p h102]<;>rfl,M.fr⟩
      refine W ?_;refine AC X (λh111=>?_) (λh111=>?_)
      ·refine W ?_;refine AC X (λh116=>?_) (λh116=>?_)
       ·refine W ?_;exact B1 X X X ⟨by rw [UM h12 h18 hx0 h49 hx1 h86 (hL2 h12p h18p h75p),QJ h90p h12p h18p h75p h91 h102 h111 h116 (mG hl).1]<;>rfl,M.fr⟩
       refine W ?_;exact B1 X X X ⟨by rw [UM h12 h18 hx0 h49 hx1 h86 (hL2 h12p h18p h75p),QK h90p h75p h91 h102 h116]<;>rfl,M.fr⟩
      refine W ?_;refine fvm M 8 [7] [(128,.bool ((O (((f x0).1.toNat:Int)=1)) || ((O ((n.op.toNat:Int)=13))&&(O (((f x0).1.toNat:Int)=3)))))] ?_ (λk120=>?_)
      ·intro w10 M;refine W ?_;refine AC X (λh117=>?_) (λh117=>?_)
       ·have h117p:=bd h117;refine W ?_;exact B1 X X X ⟨by rw [UM h12 h18 hx0 h49 hx1 h86 (hL2 h12p h18p h75p),QL h90p h111 h117]<;>rfl,M.fr⟩
       have h117p:=bd h117;refine W ?_;exact B1 X X X ⟨by rw [UM h12 h18 hx0 h49 hx1 h86 (hL2 h12p h18p h75p),QM h90p h111 h117]<;>rfl,M.fr⟩
      refine A1 (d:=120) X (λh120=>?_) (λh120=>?_)
      ·refine T8 ?_;exact k120 M
      refine W ?_;refine fvm M 3 [120,7] [(127,.bool ((O ((n.op.toNat:Int)=13))&&(O (((f x0).1.toNat:Int)=3))))] ?_ (λk124=>?_)
      ·intro w11 M;exact yb X (k120 M)
      refine A1 (d:=124) X (λh124=>?_) (λh124=>?_)
      ·refine T3 ?_;exact k124 M
      refine T3 ?_;exact k124 M
     refine A1 (d:=106) X (λh106=>?_) (λh106=>?_)
     ·refine T4 ?_;exact k106 M
     refine T4 ?_;exact k106 M
    refine A1 (d:=95) X (λh95=>?_) (λh95=>?_)
    ·refine T4 ?_;exact k95 M
    refine T4 ?_;exact k95 M
   refine A1 (d:=71) X (λh71=>?_) (λh71=>?_)
   ·refine T4 ?_;exact k71 M
   refine T4 ?_;exact k71 M
  refine A1 (d:=58) X (λh58=>?_) (λh58=>?_)
  ·refine T8 ?_;exact k58 M
  refine W ?_;refine fvm M 3 [58,7,2,1] [(65,.bool ((O ((n.op.toNat:Int)=4))&&(O (((f x0).1.toNat:Int)=1))))] ?_ (λk62=>?_)
  ·intro w12 M;exact yb X (k58 M)
  refine A1 (d:=62) X (λh62=>?_) (λh62=>?_)
  ·refine T3 ?_;exact k62 M
  refine T3 ?_;exact k62 M
 refine A1 (d:=54) X (λh54=>?_) (λh54=>?_)
 ·refine T3 ?_;exact k54 M
 refine T3 ?_;exact k54 M
theorem jA (vars:List Bd) (hvl:vars.length≤4611686018427387904):∀(n:Xn) (A:Ky) (F:List Nat) (V:Ky) (cv:Nat) (w:Kw),n.AtL 213 w A F→chkX n=zz→Rd w V (vars.length*5) (AF Bd.cells vars) →
 zt zv 203 #[.agg (n.cells A).toArray,.slice V vars.length cv] w (BR w (.tuple #[.int .u8 ((tyX vars n).1.toNat:Int),AA (tyX vars n).2])):=by
 refine Xn.ind λn ih A F V cv w hA hc hV=>?_
 obtain ⟨L,hL,hk,hR,hq⟩:=hA.kids;have h1:n.cells A=OF n A L.length:=by rw [hk];rfl
 have h2:tyX vars n=tyW n vars (λq=>tyX vars q.1) L:=by
  rw [a0Z,r5,←hL,Gy];rfl
 have h3:(L.length:Int)=IJ n.op:=by rw [hk];rw [SK] at hc;exact mU hc
 rw [h1,h2];refine o8 n A V cv vars L (λq=>tyX vars q.1) w hvl hV h3 hR (λq hq' W hW=>?_);obtain ⟨F',hF'⟩:=hq q hq';have hk':q.1∈n.kids:=by rw [←hL];exact Ei hq'
 exact ih q.1 hk' q.2 F' V cv W (hF'.fr0 hW) (i6 hc hk') (hV.fr0 hW)
theorem t8 (vars:List Bd) (hvl:vars.length≤4611686018427387904) (n:Xn) (A:Ky) (F:List Nat) (V:Ky) (cv:Nat) (w:Kw) (hA:n.AtL 213 w A F) (hs:n.sm 1048576) (hV:Rd w V (vars.length*5) (AF Bd.cells vars)) :
 zt zv 163 #[.agg (n.cells A).toArray,.slice V vars.length cv] w (BR w (.tuple #[.int .u8 ((I9 n vars).1.toNat:Int),AA (I9 n vars).2])):=by
 refine BO func163 ntmps163 X λM=>W ?_
 refine CU M X X λg2 w1 hg2 M=>W ?_
 refine CF M 0 X X Bj AD X (CQ M 7 X X call202 (eS n A F _ (hA.fr0 M.fr) hs) λw2 M=>W ?_);refine AC X (λh8=>?_) (λh8=>?_)
 ·refine W ?_;exact B1 X X X ⟨by rw [I9,Ae (V8 (CJ h8))];rfl,M.fr⟩
 refine W ?_;refine CF M 0 X X Bj AD X (yb X (CQ M 11 X X call203 (jA vars hvl n A F V cv _ (hA.fr0 M.fr) (BL h8) (hV.fr0 M.fr)) λw3 M=>W ?_));exact B1 X X X ⟨by rw [I9,Ac (BL h8)]<;>rfl,M.fr⟩
end
section
theorem tY {m:Md} (hb:MdB m) (h:(OE m).isNone=zz):MdOk m:=by
 unfold OE at h
 split at h
 ·cases h
 rename_i hc
 simp only [Dw,decide_eq_true_eq,not_or] at hc
 exact ⟨hb.id,hb.nm,hb.vars,A0,A0,A0,hb.els,hb.fls⟩
theorem G3 {b:Option Kz} (h:b.isNone=zz):b.isSome=zy:=by cases b<;>simp_all
theorem cX {b:Option Kz} (h:b.isNone=zy):b.isSome=zz:=by cases b<;>simp_all
def PA (m:Md) (x:El):Option Kz:=(if (!decide ((x.kind.toNat:Int)=(5:Int)))=zz then zx else (if (((O ((((BI m.fls x.id).length:Nat):Int)=(1:Int)))&&(!decide (x.dflt=[]))) || ((O ((1:Int)<(((BI m.fls x.id).length:Nat):Int)))&&(!((BI m.fls x.id).any (λz=>O (z=x.dflt))))))=zz then (G x.id) else zx))
def O8 (m:Md) (x:Fl):Option Kz:=(if ((((O ((((AG m.els x.frm).getD zeroEl).kind.toNat:Int)=(5:Int)))&&(O ((1:Int)<(((BI m.fls (((AG m.els x.frm).getD zeroEl).id)).length:Nat):Int))))&&(!decide (((AG m.els x.frm).getD zeroEl).dflt=x.id)))==(O (x.cond=[])))=zz then (G x.id) else (if (!(((O ((((AG m.els x.frm).getD zeroEl).kind.toNat:Int)=(5:Int)))&&(O ((1:Int)<(((BI m.fls (((AG m.els x.frm).getD zeroEl).id)).length:Nat):Int))))&&(!decide (((AG m.els x.frm).getD zeroEl).dflt=x.id))))=zz then zx else (if (((!decide ((D0 x.cond).2.2=(0:Int))) || (!decide ((I9 (D0 x.cond).1 m.vars).2=(0:Int)))) || (!decide (((I9 (D0 x.cond).1 m.vars).1.toNat:Int)=(2:Int))))=zz then (G x.id) else zx)))
def S4 (m:Md):Option Kz:=match ff (PA m) m.els with
 | some s=>G s
 | none=>ff (O8 m) m.fls
theorem sY (m:Md) (a:MdA) (w:Kw) (ho:MdOk m) (hm:MdIn w m a) :
 zt zv 96 #[.agg (Md.cells m a).toArray] w (BR w (.tuple #[str ((S4 m).getD []),.bool (S4 m).isNone])):=by
 have hoi:=ho.id;have hon:=ho.nm;have hnv:=ho.nvars;have hne:=ho.nels;have hnf:=ho.nfls;refine BO func96 ntmps96 X λM=>W ?_
 refine CU M X X λg1 w1 hg1 M=>W ?_
 refine EC M [1] (λze zF e wr mz=>∃(i:Nat),e=(4,AA (i:Int))::ze∧zF wr∧(i≤m.els.length)∧(ff (PA m) m.els=ff (PA m) (m.els.drop i))∧mz=m.els.length-i) ⟨0,X,M,Aj _,X,X⟩ ?_;rintro _ w2 _ ⟨i,rfl,M,hi,hE2,rfl⟩;refine W ?_;refine AC X (λh23=>?_) (λh23=>?_)
 ·have h23p:=odt h23;obtain ⟨x,hx⟩:=EJ (l:=m.els) (i:=i) A0;obtain ⟨b_x,o_x,hA_x⟩:=DR (k:=11) A0 (M.rd hm.els) hx;have ox:=ho.els _ (Ah hx);have ox1:=ox.id;have ox2:=ox.nm;have ox3:=ox.ref;have ox4:=ox.key;refine W ?_;refine ya X (AK i hA_x X X X (sl X) A0) (ya X (AJ X X (BF El.len (M.rd hm.els) hA_x hx) Bk X AM) (CE M X AP λg5 w3 hg5 M=>BX M 0 X X AM X λw4 M=>W ?_));refine AC X (λh33=>?_) (λh33=>?_)
  ·have h33p:=(odf (CJ h33));refine W ?_;refine fag ⟨i+1,X,(M.pk [1]),?_,?_,X⟩
   ·omega
   rw [hE2,AH hx,FA (by rw [PA,Ac h33])]
  have h33p:=(odt (BL h33));refine W ?_;refine CF M 1 X X Ap AO X (W ?_);refine ND M 37 X (AE X X call101) (OW m a _ _ ho (hm.fr0 M.fr)) λA37 c37 w5 M=>?_
  have hL37:=M.ownLen 0 X;refine W ?_;refine EC M [6,5,4,1] (λze zF e wr mz=>∃(k:Nat) (b:Bool),e=(7,.bool b)::(8,AA (k:Int))::ze∧zF wr∧(k≤(BI m.fls x.id).length)∧(b=(((BI m.fls x.id).take k).any (λz=>O (z=x.dflt))))∧mz=(BI m.fls x.id).length-k) ⟨0,zy,X,M,Aj _,by simp,rfl⟩ ?_;rintro _ w6 _ ⟨k,b,rfl,M,hk,hb,rfl⟩;refine W ?_;refine AC X (λh41=>?_) (λh41=>?_)
  ·have h41p:=odt h41;obtain ⟨z,_,_,hz,hA_z⟩:=ex5 (l:=BI m.fls x.id) (k:=1) (i:=k) (M.rdOwn 0 X);refine W ?_;refine CY CA zr ?_;have M:=M.drew;refine W ?_;refine fvs 8 [8,7,6,5,4,1] [(53,.bool (b || (O (z=x.dflt))))] ?_ (λk45=>?_)
   ·refine W ?_;refine fag ⟨k+1,(b || (O (z=x.dflt))),X,M,?_,?_,X⟩
    ·omega
    rw [hb,AT hz,SU]
   refine C3 (d:=45) X (λh45=>?_) (λh45=>?_)
   ·refine T8 ?_;exact k45 _ ⟨X,X,X,X,X,X,(by rw [h45];rfl),zw⟩
   refine W ?_;refine gsg X (AK k hA_z X X X (sl X) A0) (gsg X (B3 X X (sc X) (BC DN (M.rdOwn 0 X) hA_z hz 0 X)) (T4 ?_));exact k45 _ ⟨X,X,X,X,X,X,(by rw [h45];rfl),zw⟩
  have h41p:=odf h41;refine W ?_;have hkE:k=(BI m.fls x.id).length:=A0
  rw [hkE,Bc] at hb
  subst hb;refine W ?_;refine fvm M 4 [7,6,5,4,1] [(61,.bool ((O (((BI m.fls x.id).length:Int)=1))&&(!decide (x.dflt=[]))))] ?_ (λk57=>?_)
  ·intro w7 M;refine yb X (fvm M 8 [5,4,1] [(70,.bool (((O (((BI m.fls x.id).length:Int)=1))&&(!decide (x.dflt=[]))) || ((O (1<((BI m.fls x.id).length:Int)))&&(!((BI m.fls x.id).any (λz=>O (z=x.dflt)))))))] ?_ (λk62=>?_))
   ·intro w8 M;refine W ?_;refine AC X (λh70=>?_) (λh70=>?_)
    ·have h70p:=bd h70;refine W ?_;refine B1 X X X ?_;rw [AH hx,HI (v:=x.id) (by rw [PA,AN h33,Ac h70])] at hE2
     exact ⟨by rw [S4,hE2];rfl,M.fr⟩
    have h70p:=bd h70;refine W ?_;refine fag ⟨i+1,X,(M.pk [2]),?_,?_,X⟩
    ·omega
    rw [hE2,AH hx,FA (by rw [PA,AN h33,AN h70])]
   refine A1 (d:=62) X (λh62=>?_) (λh62=>?_)
   ·refine T8 ?_;exact k62 M
   have h62p:=bd h62;refine W ?_;refine fvm M 3 [62,5,4,1] [(69,.bool ((O (1<((BI m.fls x.id).length:Int)))&&(!((BI m.fls x.id).any (λz=>O (z=x.dflt))))))] ?_ (λk66=>?_)
   ·intro w9 M;exact yb X (k62 M)
   refine A1 (d:=66) X (λh66=>?_) (λh66=>?_)
   ·refine T3 ?_;exact k66 M
   refine T3 ?_;exact k66 M
  refine A1 (d:=57) X (λh57=>?_) (λh57=>?_)
  ·refine T4 ?_;exact k57 M
  refine T4 ?_;exact k57 M
 have h23p:=odf h23;refine W ?_;have hiE:i=m.els.length:=A0
 rw [hiE,Aq] at hE2
 have hE2:=hE2.trans (show _=zx from rfl);refine W ?_;refine EC M [1] (λze zF e wr mz=>∃(i:Nat),e=(9,AA (i:Int))::ze∧zF wr∧(i≤m.fls.length)∧(ff (O8 m) m.fls=ff (O8 m) (m.fls.drop i))∧mz=m.fls.length-i) ⟨0,X,M,Aj _,X,X⟩ ?_;rintro _ w10 _ ⟨i,rfl,M,hi,hE15,rfl⟩;refine W ?_;refine AC X (λh77=>?_) (λh77=>?_)
 ·have h77p:=odt h77;obtain ⟨x,_,_,hx,hA_x⟩:=ex5 (i:=i) (M.rd hm.fls);have ox:=ho.fls _ (Ah hx);have ox1:=ox.id;have ox2:=ox.cond;refine W ?_;refine ya X (AK i hA_x X X X (sl X) A0) (ya X (AJ X X (BF Fl.len (M.rd hm.fls) hA_x hx) Co X BU) (CE M X DX λg10 w11 hg10 M=>BX M 0 X X BU X λw12 M=>W ?_));refine CF M 1 X X Ap AO X (W ?_);refine CQ M 89 X X call52 (E9 m a _ _ ho.b (hm.fr0 M.fr)) λw13 M=>W ?_
  refine CE M X AP λg11 w14 hg11 M=>BX M 0 X X AM X λw15 M=>W ?_
  refine fvm M 7 [11,10,9,1] [(102,.bool ((O ((((AG m.els x.frm).getD zeroEl).kind.toNat:Int)=5))&&(O (1<((BI m.fls (((AG m.els x.frm).getD zeroEl).id)).length:Int)))))] ?_ (λk95=>?_)
  ·intro w16 M;refine yb X (fvm M 6 [10,9,1] [(109,.bool (((O ((((AG m.els x.frm).getD zeroEl).kind.toNat:Int)=5))&&(O (1<((BI m.fls (((AG m.els x.frm).getD zeroEl).id)).length:Int))))&&(!decide (((AG m.els x.frm).getD zeroEl).dflt=x.id))))] ?_ (λk103=>?_))
   ·intro w17 M;refine W ?_;refine ya X (n5 X X X Eq) (W ?_);refine AC X (λh114=>?_) (λh114=>?_)
    ·refine W ?_;refine B1 X X X ?_;rw [AH hx,HI (v:=x.id) (by rw [O8,Ac h114])] at hE15
     exact ⟨by rw [S4,hE2,hE15];rfl,M.fr⟩
    refine W ?_;refine AC X (λh118=>?_) (λh118=>?_)
    ·have h118p:=bd h118;refine W ?_;refine fag ⟨i+1,X,(M.pk [2]),?_,?_,X⟩
     ·omega
     rw [hE15,AH hx,FA (by rw [O8,AN h114,Ac h118])]
    have h118p:=bd h118;refine W ?_;refine cl 122 X (AE X X call162) (o9 x.cond _ A0) ?_;rintro _ w18 ⟨A,F,rfl,hat,hnw,hfw18⟩;refine cq ?_;have M:=M.push hfw18 (As.xn 213 (D0 x.cond).1 A F) hat hnw;refine W ?_;refine CE M X BJ λg14 w19 hg14 M=>BX M 0 X X AD X λw20 M=>W ?_
    refine CF M 0 X X Bj AD X (W ?_);refine CQ M 130 X X call163 (t8 m.vars A0 (D0 x.cond).1 A F a.V a.vc _ (M.ok 1 _ X) (nV _) (M.rd hm.vars)) λw21 M=>W ?_
    refine fvm M 3 [17,10,9,1] [(138,.bool ((!decide ((D0 x.cond).2.2=(0:Int))) || (!decide ((I9 (D0 x.cond).1 m.vars).2=(0:Int)))))] ?_ (λk135=>?_)
    ·intro w22 M;refine yb X (fvm M 3 [10,9,1] [(142,.bool (((!decide ((D0 x.cond).2.2=(0:Int))) || (!decide ((I9 (D0 x.cond).1 m.vars).2=(0:Int)))) || (!decide (((I9 (D0 x.cond).1 m.vars).1.toNat:Int)=2))))] ?_ (λk139=>?_))
     ·intro w23 M;refine W ?_;refine AC X (λh142=>?_) (λh142=>?_)
      ·have h142p:=bd h142;refine W ?_;refine B1 X X X ?_;rw [AH hx,HI (v:=x.id) (by rw [O8,AN h114,AN h118,Ac h142])] at hE15
       exact ⟨by rw [S4,hE2,hE15];rfl,M.fr⟩
      have h142p:=bd h142;refine W ?_;refine fag ⟨i+1,X,(M.pk [4]),?_,?_,X⟩
      ·omega
      rw [hE15,AH hx,FA (by rw [O8,AN h114,AN h118,AN h142])]
     refine A1 (d:=139) X (λh139=>?_) (λh139=>?_)
     ·have h139p:=bd h139;refine T3 ?_;exact k139 M
     refine T3 ?_;exact k139 M
    refine A1 (d:=135) X (λh135=>?_) (λh135=>?_)
    ·refine T3 ?_;exact k135 M
    refine T3 ?_;exact k135 M
   refine A1 (d:=103) X (λh103=>?_) (λh103=>?_)
   ·refine T6 ?_;exact k103 M
   have h103p:=bd h103;refine T6 ?_;exact k103 M
  refine A1 (d:=95) X (λh95=>?_) (λh95=>?_)
  ·refine yd X (AJ (xs:=Md.cells m a) X X (M.rdBlk 2 X X) Ap X AO) (W ?_);refine sxl_call (G 99) kw X X (AE X X call101) (OW m a _ _ ho (hm.fr0 M.fr)) ?_;rintro _ w24 ⟨A99,c99,rfl,how24,hfw24⟩;refine cq ?_;have M:=M.pushOwn hfw24 (Af _) how24;have hL99:=M.ownLen 0 X;refine T3 ?_;exact k95 (M.drop 1)
  refine T7 ?_;exact k95 M
 have h77p:=odf h77;refine W ?_;have hiE:i=m.fls.length:=A0
 rw [hiE,Aq] at hE15
 have hE15:=hE15.trans (show _=zx from rfl);refine W ?_;exact B1 X X X ⟨by rw [S4,hE2,hE15];rfl,M.fr⟩
def V7 (m:Md):List (Option Kz):=[OE m,ZG m,PI m,MU m,OV m,S4 m,PJ m,PK m,TH m]
def Q4 (m:Md):Nat × Kz × Int:=IN 0 (V7 m)
theorem eT (m:Md) (a:MdA) (w:Kw) (hb:MdB m) (hm:MdIn w m a) :
 zt zv 47 #[.agg (Md.cells m a).toArray] w (BR w (.tuple #[AA (((Q4 m).1:Nat):Int),str (Q4 m).2.1,AA (Q4 m).2.2])):=by
 have hoi:=hb.id;have hon:=hb.nm;have hnv:=hb.nvars;have hne:=hb.nels;have hnf:=hb.nfls;refine BO func47 ntmps47 X λM=>V ?_
 refine CU M X X λg1 w1 hg1 M=>V ?_
 refine CF M 0 X X Ap AO X (CQ M 10 X X call91 (sZ m a _ hb (hm.fr0 M.fr)) λw2 M=>V ?_);refine AC X (λh13=>?_) (λh13=>?_)
 ·have ho:=tY hb (by assumption);refine V ?_;refine CF M 0 X X Ap AO X (CQ M 16 X X call92 (sX m a _ ho (hm.fr0 M.fr)) λw3 M=>V ?_);refine AC X (λh19=>?_) (λh19=>?_)
  ·refine V ?_;refine CF M 0 X X Ap AO X (CQ M 22 X X call93 (j7 m a _ ho (hm.fr0 M.fr)) λw4 M=>V ?_);refine AC X (λh25=>?_) (λh25=>?_)
   ·refine V ?_;refine CF M 0 X X Ap AO X (CQ M 28 X X call94 (o5 m a _ ho (hm.fr0 M.fr)) λw5 M=>V ?_);refine AC X (λh31=>?_) (λh31=>?_)
    ·refine V ?_;refine CF M 0 X X Ap AO X (CQ M 34 X X call95 (o6 m a _ ho (hm.fr0 M.fr)) λw6 M=>V ?_);refine AC X (λh37=>?_) (λh37=>?_)
     ·refine V ?_;refine CF M 0 X X Ap AO X (CQ M 40 X X call96 (sY m a _ ho (hm.fr0 M.fr)) λw7 M=>V ?_);refine AC X (λh43=>?_) (λh43=>?_)
      ·refine V ?_;refine CF M 0 X X Ap AO X (CQ M 46 X X call97 (j8 m a _ ho (hm.fr0 M.fr)) λw8 M=>V ?_);refine AC X (λh49=>?_) (λh49=>?_)
       ·refine V ?_;refine CF M 0 X X Ap AO X (CQ M 52 X X call98 (j9 m a _ ho (hm.fr0 M.fr)) λw9 M=>V ?_);refine AC X (λh55=>?_) (λh55=>?_)
        ·refine V ?_;refine CF M 0 X X Ap AO X (CQ M 58 X X call99 (o4 m a _ ho (hm.fr0 M.fr)) λw10 M=>V ?_);refine AC X (λh61=>?_) (λh61=>?_)
         ·refine V ?_;exact DL X X X X ⟨by rw [Q4,V7,B2 (G3 h13),B2 (G3 h19),B2 (G3 h25),B2 (G3 h31),B2 (G3 h37),B2 (G3 h43),B2 (G3 h49),B2 (G3 h55),B2 (G3 h61)];rfl,M.fr⟩
         rw [h61];refine V ?_;exact DL X X X X ⟨by rw [Q4,V7,B2 (G3 h13),B2 (G3 h19),B2 (G3 h25),B2 (G3 h31),B2 (G3 h37),B2 (G3 h43),B2 (G3 h49),B2 (G3 h55),EG (cX h61)];rfl,M.fr⟩
        rw [h55];refine V ?_;exact DL X X X X ⟨by rw [Q4,V7,B2 (G3 h13),B2 (G3 h19),B2 (G3 h25),B2 (G3 h31),B2 (G3 h37),B2 (G3 h43),B2 (G3 h49),EG (cX h55)];rfl,M.fr⟩
       rw [h49];refine V ?_;exact DL X X X X ⟨by rw [Q4,V7,B2 (G3 h13),B2 (G3 h19),B2 (G3 h25),B2 (G3 h31),B2 (G3 h37),B2 (G3 h43),EG (cX h49)];rfl,M.fr⟩
      rw [h43];refine V ?_;exact DL X X X X ⟨by rw [Q4,V7,B2 (G3 h13),B2 (G3 h19),B2 (G3 h25),B2 (G3 h31),B2 (G3 h37),EG (cX h43)];rfl,M.fr⟩
     rw [h37];refine V ?_;exact DL X X X X ⟨by rw [Q4,V7,B2 (G3 h13),B2 (G3 h19),B2 (G3 h25),B2 (G3 h31),EG (cX h37)];rfl,M.fr⟩
    rw [h31];refine V ?_;exact DL X X X X ⟨by rw [Q4,V7,B2 (G3 h13),B2 (G3 h19),B2 (G3 h25),EG (cX h31)];rfl,M.fr⟩
   rw [h25];refine V ?_;exact DL X X X X ⟨by rw [Q4,V7,B2 (G3 h13),B2 (G3 h19),EG (cX h25)];rfl,M.fr⟩
  rw [h19];refine V ?_;exact DL X X X X ⟨by rw [Q4,V7,B2 (G3 h13),EG (cX h19)];rfl,M.fr⟩
 rw [h13];refine V ?_;exact DL X X X X ⟨by rw [Q4,V7,EG (cX h13)];rfl,M.fr⟩
section
section
variable {l r:List Bd} {x:Bd}
theorem a2E (h:(EK l x.name).isSome=zy):GE l (x::r)=100:=by
 rw [GE]
 cases hq:EK l x.name with
 | none=>rfl
 | some v=>rw [hq] at h;cases h
theorem a2F (h:(EK l x.name).isSome=zz) (hk:(((EK l x.name).getD zeroVl).kind.toNat:Int)=(x.v.kind.toNat:Int)):GE l (x::r)=GE l r:=by
 rw [GE]
 cases hq:EK l x.name with
 | none=>rw [hq] at h;cases h
 | some v=>
  rw [hq] at hk
  exact Ac (Ge.1 (by exact Int.ofNat_inj.1 hk))
theorem a2G (h:(EK l x.name).isSome=zz) (hk:¬(((EK l x.name).getD zeroVl).kind.toNat:Int)=(x.v.kind.toNat:Int)):GE l (x::r)=90:=by
 rw [GE]
 cases hq:EK l x.name with
 | none=>rw [hq] at h;cases h
 | some v=>
  rw [hq] at hk
  exact Ae λe=>hk (by rw [Df,e])
end
theorem RY (A:Ky) (c:Nat) (l:List Bd) (k:Kz) (w:Kw) (hl:(l.length:Int)<4611686018427387904) (hr:Rd w A (l.length*5) (AF Bd.cells l)) :
 zt zv 53 #[.slice A l.length c,str k] w (BR w (.tuple #[.agg ((EK l k).getD zeroVl).cells.toArray,.bool (EK l k).isSome])):=by
 refine BO func53 ntmps53 X λM=>W ?_
 refine CE M X G7 λg4 w1 hg4 M=>W ?_
 refine EC M [4,1,0] (λze zF e wr mz=>∃(i:Nat),e=(6,AA (i:Int))::ze∧zF wr∧(i≤l.length)∧(EK l k=EK (l.drop i) k)∧mz=l.length-i) ⟨0,X,M,Aj _,X,X⟩ ?_;rintro _ w2 _ ⟨i,rfl,M,hi,hE,rfl⟩;refine W ?_;refine AC X (λh10=>?_) (λh10=>?_)
 ·have h10p:=odt h10;refine W ?_;obtain ⟨x,_,_,hx,hA_x⟩:=ex5 (i:=i) (hr.fr0 M.fr);refine ya X (AK i hA_x X X X (sl X) A0) (yb X (yl X X (BC Bd.len (hr.fr0 M.fr) hA_x hx 0 X) (W ?_)));refine AC X (λh19=>?_) (λh19=>?_)
  ·have h19p:=odt h19;refine W ?_;refine ya X (AK i hA_x X X X (sl X) A0) (yb X (ya X (AJ (xs:=Vl.cells x.v) X X (MI Bd.len (hr.fr0 M.fr) hA_x hx 1 4 X X) By X BM) (BX M 0 X X BM X λw3 M=>W ?_)));exact FY X X (M.rdBlk 0 X X) By X BM X ⟨by rw [hE,AH hx,EK,Ac h19p];rfl,M.fr⟩
  have h19p:=odf h19;refine W ?_;refine fag ⟨i+1,X,M,?_,?_,X⟩
  ·omega
  rw [hE,AH hx,EK,Ae h19p]
 have h10p:=odf h10;refine W ?_;obtain rfl:i=l.length:=A0
 rw [Aq] at hE
 refine W ?_;refine ya X (B8 (parts:=[]) X X (L8)) (BX M 0 X X BM X λw4 M=>W ?_);exact FY X X (M.rdBlk 0 X X) By X BM X ⟨by rw [hE];rfl,M.fr⟩
theorem o1 (id nm:Kz) (A B:Ky) (c cp:Nat) (vE vF:Kv) (l p:List Bd) (w:Kw) (hl:BdOk l) (hp:BdOk p) (hrl:Rd w A (l.length*5) (AF Bd.cells l)) (hrp:Rd w B (p.length*5) (AF Bd.cells p)) :
 zt zv 24 #[.agg #[str id,str nm,.slice A l.length c,vE,vF],.slice B p.length cp] w (BR w (AA (IZ l p))):=by
 have hpl:=hp.len;refine BO func24 ntmps24 X λM=>W ?_
 refine CZ M kw X X 48 X X ([str id,str nm,.slice A l.length c,vE,vF]) X λg2 w1 hg2 M=>W ?_
 refine CQ M 10 X X call36 (ZI B cp p _ hp (hrp.fr0 M.fr)) λw2 M=>W ?_
 refine AC X (λh12=>?_) (λh12=>?_)
 ·have h12p:=(odf (CJ h12));refine W ?_;exact gr1 X ⟨by rw [IZ,Ae h12p],M.fr⟩
 have h12p:=(odt (BL h12));refine W ?_;refine EC M [2,1] (λze zF e wr mz=>∃(i:Nat),e=(6,AA (i:Int))::ze∧zF wr∧(i≤p.length)∧(GE l p=GE l (p.drop i))∧mz=p.length-i) ⟨0,X,M,Aj _,X,X⟩ ?_;rintro _ w3 _ ⟨i,rfl,M,hi,hE,rfl⟩;refine W ?_;refine AC X (λh17=>?_) (λh17=>?_)
 ·have h17p:=odt h17;obtain ⟨x,_,_,hx,hA_x⟩:=ex5 (i:=i) (hrp.fr0 M.fr);refine W ?_;refine N6 (λ(g7:Nat)=>[(1,.slice B p.length cp),(2,pg g2),(6,AA (i:Int)),(7,pg g7),(8,.bool ((EK l x.name).isSome))]) (λ(g7:Nat)=>λw'=>Mem w AR [As.blk g7 61 (Vl.cells ((EK l x.name).getD zeroVl)),As.blk g2 48 [str id,str nm,.slice A l.length c,vE,vF]] w') ?_ (λkr7=>?_)
  ·intro g7 w4 M;refine W ?_;refine AC X (λh32=>?_) (λh32=>?_)
   ·have h32p:=CJ h32;refine W ?_;exact gr1 X ⟨by rw [IZ,Ac h12p,hE,AH hx,a2E h32p],M.fr⟩
   have h32p:=BL h32;refine W ?_;refine CY CA zr ?_;have M:=M.drew;refine W ?_;refine sa X (AK i hA_x X X X (sl X) A0) (T2 ?_);refine sd X X (BC Bd.len (hrp.fr0 M.fr) hA_x hx 1 X) (W ?_);refine AC X (λh41=>?_) (λh41=>?_)
   ·have h41p:=(odf (CJ h41));refine W ?_;exact gr1 X ⟨by rw [IZ,Ac h12p,hE,AH hx,a2G h32p h41p],M.fr⟩
   have h41p:=(odt (BL h41));refine W ?_;refine fag ⟨i+1,X,(M.pk [1]),?_,?_,X⟩
   ·omega
   rw [hE,AH hx,a2F h32p h41p]
  refine I0 M 14 CA λM=>oc 0 14 X X M (ol 1 14 X X X M (λ_ M=>(M.cell 0 X X)) (oc 2 14 X X M (oc 3 14 X X M (oa 4 14 X X M (λ_ M=>AK i hA_x X X X (sl X) A0) (oc 5 14 X X M (ol 6 14 X X X M (λ_ M=>(BC Bd.len (hrp.fr0 M.fr) hA_x hx 0 X)) (FM (rs:=[7,11]) zr (by simp) λiz hiz=>?_)))))))
  simp only [Ao,Ba,or_false] at hiz
  rcases hiz with rfl|rfl
  ·refine GT (G 28) X kw X X (AE X X call53) (RY A c l x.name _ hl.len (hrl.fr0 M.fr)) ?_;rintro _ w5 ⟨rfl,hfw5⟩;refine ⟨_,X,λ_=>M.step hfw5,?_⟩;have M:=M.step hfw5;refine oc 8 14 X X M (oc 9 14 X X M (oc 10 14 X X M (B7 11 (G 7) zr X kw X X (λρ hρ=>BP 61 X _ [.int .u8 0,AA 0,.bool zy,str []] G7 X) ?_)));rintro _ w6 ⟨g7,rfl,hg7,hq7,hb7,hfw6⟩;refine ⟨λ_=>M.step hfw6,?_⟩;have M:=M.push hfw6 _ hb7 (CR hg7 hq7)
   replace M:Mem w AR (As.blk g7 61 [.int .u8 0,AA 0,.bool zy,str []]::_) w6:=M
   exact fop M 12 0 X X X BM X (·.drop 1) λw7 M=>oc 13 14 X X (M.drop 1) (fdn (kr7 g7 _ _ M ⟨X,X,X,X,X,zw⟩))
  refine DP (G 7) X kw X X (λρ hρ=>BP 61 X _ [.int .u8 0,AA 0,.bool zy,str []] G7 X) ?_;rintro _ w8 ⟨g7,rfl,hg7,hq7,hb7,hfw8⟩;refine ⟨λ_=>M.step hfw8,?_⟩;have M:=M.push hfw8 _ hb7 (CR hg7 hq7)
  replace M:Mem w AR (As.blk g7 61 [.int .u8 0,AA 0,.bool zy,str []]::_) w8:=M
  refine BB 7 (G 28) zr X kw X X (AE X X call53) (RY A c l x.name _ hl.len (hrl.fr0 M.fr)) ?_;rintro _ w9 ⟨rfl,hfw9⟩;refine ⟨_,X,λ_=>(M.drop 1).step hfw9,?_⟩;have M:=M.step hfw9;exact oc 8 14 X X (M.drop 1) (oc 9 14 X X (M.drop 1) (oc 10 14 X X (M.drop 1) (fop M 12 0 X X X BM X (·.drop 1) λw10 M=>oc 13 14 X X (M.drop 1) (fdn (kr7 g7 _ _ M ⟨X,X,X,X,X,zw⟩)))))
 have h17p:=odf h17;refine W ?_;obtain rfl:i=p.length:=A0
 rw [Aq] at hE
 refine W ?_;exact gr1 X ⟨by rw [IZ,Ac h12p,hE];rfl,M.fr⟩
end
end
end Go.Proofs.YtppmdnmjepkfaaaGreatDoor
