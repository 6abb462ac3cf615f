/- Lemmas. -/
import Derived.Test.YtppmdnmjepkfaaaGreatDoorYFi
set_option maxHeartbeats 16000000
set_option maxRecDepth 100000
namespace Go.Proofs.YtppmdnmjepkfaaaGreatDoor
open Go.RowKit
open Tryz
def EV : List Fl→Kz→Option Fl
 | [],_=>none
 | x::r,k=>if x.id=k then some x else EV r k
theorem XX : prog.built 110 []=some zeroFl.cells.toArray:=by kernel_rfl
def TY : List Bd→List Bd→Bool
 | [],_=>true
 | _::_,[]=>true
 | x::r,y::s=>if ((!decide (x.name=y.name)) || (!decide ((x.v.kind.toNat:Int)=(y.v.kind.toNat:Int))))=true then false else if (!decide ((chk x.v)=(0:Int)))=true then false else TY r s
def TX (l v:List Bd):Bool:=if (!decide (((l.length:Nat):Int)=((v.length:Nat):Int)))=true then false else TY l v
def B4 : List El→Kz→List Kz
 | [],_=>[]
 | x::r,k=>if ((decide ((x.kind.toNat:Int)=(9:Int)))&&(decide (x.att=k)))=true then x.id::B4 r k else B4 r k
theorem E5 : ∀(l:List El) (k:Kz),(B4 l k).length≤l.length
 | [],_=>Ab _
 | x::r,k=>by
  have:=E5 r k
  unfold B4
  split<;>simp only [Af]<;>omega
theorem QB : ∀(l:List Fl) (k:Kz),(BJ l k).length≤l.length
 | [],_=>Ab _
 | x::r,k=>by
  have:=QB r k
  unfold BJ
  split<;>simp only [Af]<;>omega
def dV (m:Md) (t:Tk):List Kz:=
 if ((decide ((((AF m.els t.loc).getD zeroEl).kind.toNat:Int)=(3:Int))) || (decide ((((AF m.els t.loc).getD zeroEl).kind.toNat:Int)=(8:Int))))=true then [t.loc]
 else if (decide ((((AF m.els t.loc).getD zeroEl).kind.toNat:Int)=(7:Int)))=true then (BJ m.fls t.loc).map (λk=>((EV m.fls k).getD zeroFl).tg)
 else []
def FM (m:Md) (t:Tk):List Kz:=
 if (decide (t.loc=[]))=true then [] else (dV m t++B4 m.els t.loc)++(C2 m.els t.loc).flatMap (B4 m.els)
theorem oK (els:List El) (l:List Kz):(l.flatMap (B4 els)).length≤l.length*els.length:=by
 induction l with
 | nil=>simp
 | cons a r ih=>
  have:=E5 els a
  rw [Fj,Ah,Af,Iy];omega
theorem mD {m:Md} (ho:MdOk m) (t:Tk):(FM m t).length≤20000:=by
 have h1:(dV m t).length≤400:=by
  have:=QB m.fls t.loc
  have:=ho.nfls
  unfold dV
  repeat' split
  all_goals first
   | (rw [Bp];omega)
   | simp
 have h2:=oK m.els (C2 m.els t.loc);have h3:=OV m.els t.loc;have h4:=E5 m.els t.loc;have h5:=Nat.mul_le_mul h3 ho.nels;have h6:=ho.nels;unfold FM
 split
 ·simp
 rw [Ah,Ah];omega
theorem WM (m:Md) (a:MdA) (id:Kz) (w:Kw) (ho:MdOk m) (hm:MdIn w m a) :
 Calls prog 100 #[.agg (Md.cells m a).toArray,str id] w (BS w (.tuple #[.agg ((EV m.fls id).getD zeroFl).cells.toArray,.bool (EV m.fls id).isSome])):=by
 have hoi:=ho.id;have hon:=ho.nm;have hnv:=ho.nvars;have hne:=ho.nels;have hnf:=ho.nfls;refine BR func100 ntmps100 X λM=>W ?_
 refine CO M X X λg2 w1 hg2 M=>CI M X DS λg4 w2 hg4 M=>W ?_
 refine EF M [4,2,1] (λze zF e wr mz=>∃(i:Nat),e=(6,AA (i:Int))::ze∧zF wr∧(i≤m.fls.length)∧(EV m.fls id=EV (m.fls.drop i) id)∧mz=m.fls.length-i) ⟨0,X,M,Ae _,X,X⟩ ?_;rintro _ w3 _ ⟨i,rfl,M,hi,hr,rfl⟩;refine W ?_;refine AB X (λh11=>?_) (λh11=>?_)
 ·have h11p:=odt h11;refine W ?_;obtain ⟨x,_,_,hx,hA_x⟩:=ex5 (i:=i) (M.rd hm.fls);refine ya X (AK i hA_x X X X (sl X) A0) (yb X (yl X X (BD Fl.len (M.rd hm.fls) hA_x hx 0 X) (W ?_)));refine AB X (λh21=>?_) (λh21=>?_)
  ·have h21p:=odt h21;refine W ?_;refine ya X (AK i hA_x X X X (sl X) A0) (ya X (AI X X (BM Fl.len (M.rd hm.fls) hA_x hx) Cf X BU) (BY M 0 X X BU X λw4 M=>W ?_));exact FQ X X (M.rdBlk 0 X X) Cf X BU X ⟨by rw [hr,AG hx,EV,if_pos h21p];rfl,M.fr⟩
  have h21p:=odf h21;refine W ?_;refine fag ⟨i+1,X,M,?_,?_,X⟩
  ·omega
  rw [hr,AG hx,EV,if_neg h21p]
 have h11p:=odf h11;refine W ?_;refine ya X (B7 (parts:=[]) X X XX) (BY M 0 X X BU X λw5 M=>W ?_);refine FQ X X (M.rdBlk 0 X X) Cf X BU X ?_;obtain rfl:i=m.fls.length:=by omega
 exact ⟨by rw [hr,Am];rfl,M.fr⟩
theorem rS (m:Md) (a:MdA) (l:List Bd) (V:Ky) (vc:Nat) (w:Kw) (ho:MdOk m) (hm:MdIn w m a) (hbd:BdOk l) (hV:Rd w V (l.length*5) (AE Bd.cells l)) :
 Calls prog 48 #[.agg (Md.cells m a).toArray,.slice V l.length vc] w (BS w (.bool (TX l m.vars))):=by
 have hoi:=ho.id;have hon:=ho.nm;have hnv:=ho.nvars;have hne:=ho.nels;have hnf:=ho.nfls;have hbl:=hbd.len;refine BR func48 ntmps48 X λM=>W ?_
 refine CO M X X λg2 w1 hg2 M=>W ?_
 refine AB X (λh11=>?_) (λh11=>?_)
 ·refine W ?_;exact gr1 X ⟨by rw [TX,if_pos h11],M.fr⟩
 have h11p:=(odt (BO h11));refine W ?_;refine EF M [2,1] (λze zF e wr mz=>∃(i:Nat),e=(5,AA (i:Int))::ze∧zF wr∧(i≤l.length)∧(TX l m.vars=TY (l.drop i) (m.vars.drop i))∧mz=l.length-i) ⟨0,X,M,Ae _,by rw [TX,AM h11];rfl,rfl⟩ ?_;rintro _ w2 _ ⟨i,rfl,M,hi,hr,rfl⟩;refine W ?_;refine AB X (λh15=>?_) (λh15=>?_)
 ·have h15p:=odt h15;obtain ⟨x,_,_,hx,hA_x⟩:=ex5 (i:=i) (hV.fr0 M.fr);have ox1:=hbd.name _ (Ac hx);have ox2:=hbd.text _ (Ac hx);obtain ⟨y,_,_,hy,hA_y⟩:=ex5 (i:=i) (M.rd hm.vars);refine W ?_;refine EB 34 CA gkr ?_;have M:=M.drew;refine W ?_;refine sa X (AK i hA_x X X X (sl X) A0) (sb X (sd X X (BD Bd.len (hV.fr0 M.fr) hA_x hx 0 X) (W ?_)));refine sa X (AK i hA_y X X X (sl X) A0) (sb X (sd X X (BD Bd.len (M.rd hm.vars) hA_y hy 0 X) (W ?_)));refine fvs 15 [5,2,1] [(45,.bool ((!decide (x.name=y.name)) || (!decide ((x.v.kind.toNat:Int)=(y.v.kind.toNat:Int)))))] ?_ (λk30=>?_)
  ·refine sb X (C1 (d:=46) X (λh46=>?_) (λh46=>?_))
   ·have h46p:=bd h46;refine W ?_;refine gr1 X ?_;rw [AG hx,AG hy,TY,if_pos h46] at hr
    exact ⟨by rw [hr],M.fr⟩
   have h46p:=bd h46;refine W ?_;refine gsg X (AK i hA_x X X X (sl X) A0) (gsg X (yp X) (gsg X (AI (xs:=Vl.cells x.v) X X (K6 Bd.len (hV.fr0 M.fr) hA_x hx 1 4 X X) Br X BQ) (D6 (sxl_call (some 52) kw X X (AD X X call35) (P3 _ _ A0) ?_))));rintro _ w3 ⟨rfl,hfw3⟩;refine cq ?_;have M:=M.step hfw3;refine W ?_;refine AB X (λh54=>?_) (λh54=>?_)
   ·refine W ?_;refine gr1 X ?_;rw [AG hx,AG hy,TY,AM h46,if_pos h54] at hr
    exact ⟨by rw [hr],M.fr⟩
   have h54p:=(odt (BO h54));refine W ?_;refine fag ⟨i+1,X,M,?_,?_,X⟩
   ·omega
   rw [hr,AG hx,AG hy,TY,AM h46,AM h54]
  refine C1 (d:=30) X (λh30=>?_) (λh30=>?_)
  ·refine T15 ?_;exact k30 _ ⟨X,X,X,(by rw [h30];rfl),trivial⟩
  refine W ?_;refine gsg X (AK i hA_x X X X (sl X) A0) (T2 ?_);refine gsg X (B2 X X (sc X) (BD Bd.len (hV.fr0 M.fr) hA_x hx 1 X)) (W ?_);refine gsg X (AK i hA_y X X X (sl X) A0) (T2 ?_);refine gsg X (B2 X X (sc X) (BD Bd.len (M.rd hm.vars) hA_y hy 1 X)) (T2 ?_);exact k30 _ ⟨X,X,X,(by rw [h30];rfl),trivial⟩
 have h15p:=odf h15;refine W ?_;refine gr1 X ?_;obtain rfl:i=l.length:=by omega
 rw [Am,TY] at hr
 exact ⟨by rw [hr],M.fr⟩
theorem IV (m:Md) (a:MdA) (id:Kz) (w:Kw) (ho:MdOk m) (hm:MdIn w m a) :
 Calls prog 103 #[.agg (Md.cells m a).toArray,str id] w λe w'=>∃A c,e=.returned (.slice A (B4 m.els id).length c)∧w'.ownsRow w.heap.size 9 1 (.slice A (B4 m.els id).length c) (B4 m.els id).length (AE BG (B4 m.els id))∧Fr0 w w':=by
 have hoi:=ho.id;have hon:=ho.nm;have hnv:=ho.nvars;have hne:=ho.nels;have hnf:=ho.nfls;refine BR func103 ntmps103 X λM=>V ?_
 refine CO M X X λg2 w1 hg2 M=>V ?_
 have M:=M.nilOwn 9 1;refine flp [2,1] (λze e wr mz=>∃(i:Nat) (acc:List Kz) (A:Ky) (c:Nat),e=(5,.slice A acc.length c)::(6,AA (i:Int))::ze∧Mem w AR [As.own w.heap.size 9 1 (.slice A acc.length c) acc.length (AE BG acc),As.blk g2 48 (Md.cells m a)] wr∧(i≤m.els.length)∧(B4 m.els id=acc++B4 (m.els.drop i) id)∧(acc.length≤i)∧mz=m.els.length-i) ⟨0,[],none,0,X,M,Ae _,X,Ae _,X⟩ ?_;rintro _ w2 _ ⟨i,acc,A,c,rfl,M,hi,hr,hl,rfl⟩;refine V ?_;refine FV M 1 X X X (UR X X (GB X X (V ?_)));refine AB X (λh11=>?_) (λh11=>?_)
 ·have h11p:=odt h11;refine V ?_;refine FV M 1 X X X (yb X ?_);obtain ⟨x,_,_,hx,hA_x⟩:=ex5 (i:=i) (M.rd hm.els);refine ya X (AK i hA_x X X X (sl X) A0) (yb X (yl X X (BD El.len (M.rd hm.els) hA_x hx 2 X) (JJ X X (yb X (fvm M 9 [6,5,2,1] [(30,.bool ((decide ((x.kind.toNat:Int)=9))&&(decide (x.att=id))))] ?_ (λk21=>?_))))))
  ·intro w3 M;refine V ?_;refine AB X (λh30=>?_) (λh30=>?_)
   ·have h30p:=bd h30;refine V ?_;refine FV M 1 X X X (yb X (ya X (AK i hA_x X X X (sl X) A0) (yb X (yl X X (BD El.len (M.rd hm.els) hA_x hx 0 X) (CV M kw X X [str x.id] ([str x.id]) X X X X Az CG X X (GT X) X λg38 w4 hg38 M=>CN (len':=(acc++[x.id]).length) (xs':=AE BG (acc++[x.id])) M 1 kw X X X X X X (M.rdBlk 0 X X) Az C0 X AV (BW X) (Ab _) (Ab _) DC (by unfold maxLen;first|omega|(simp;omega)) (by first|(simp;done)|(simp;omega)) (by first|exact (B3 _ _ _).symm|rfl|simp [AE,BG]) λA39 c39 w5 M=>V ?_)))));refine CZ X X (V ?_);refine fag ⟨i+1,acc++[x.id],A39,c39,X,(M.pk [1,2]),?_,?_,?_,X⟩
    ·omega
    ·first
      | rw [hr,AG hx,B4,if_pos (by assumption)];simp
      | rw [hr,AG hx,B4,if_neg (UN (by assumption))]
    first|omega|(simp;omega)
   have h30p:=bd h30;refine V ?_;refine CZ X X (V ?_);refine fag ⟨i+1,acc,A,c,X,M,?_,?_,?_,X⟩
   ·omega
   ·first
     | rw [hr,AG hx,B4,if_pos (by assumption)];simp
     | rw [hr,AG hx,B4,if_neg (UN (by assumption))]
   first|omega|(simp;omega)
  refine A1 (d:=21) X (λh21=>?_) (λh21=>?_)
  ·exact gyq X (QK M 1 X X X (gyq X (yd X (AK i hA_x X X X (sl X) A0) (gyq X (ym X X (BD El.len (M.rd hm.els) hA_x hx 5 X) (gyq X (yd X (GI X X X) (yb X (k21 M)))))))))
  iterate 8 refine yo X ?_
  exact yb X (k21 M)
 have h11p:=odf h11;refine V ?_;refine gr1 X ?_;obtain rfl:i=m.els.length:=by omega
 rw [Am,B4,Bv] at hr
 subst hr;exact ⟨_,_,X,M.own 0 X,M.fr⟩
def IP (m:Md) (t:Tk):Bool:=(if (decide (t.loc=[]))=true then (if (((((!(EV m.fls t.on).isSome) || (!decide (t.born=(0:Int)))) || (!decide (t.tries=(0:Int)))) || (!decide (t.worker=[]))) || (!decide (t.until_=(0:Int))))=true then false else (if ((decide ((((AF m.els (((EV m.fls t.on).getD zeroFl).tg)).getD zeroEl).kind.toNat:Int)=(5:Int)))&&(decide ((1:Int)<(((BJ m.fls (((AF m.els (((EV m.fls t.on).getD zeroFl).tg)).getD zeroEl).id)).length:Nat):Int))))=true then ((decide ((t.inc.toNat:Int)=(1:Int)))&&(decide (t.err=(91:Int)))) else (((decide ((((AF m.els (((EV m.fls t.on).getD zeroFl).tg)).getD zeroEl).kind.toNat:Int)=(6:Int)))&&(decide ((t.inc.toNat:Int)=(0:Int))))&&(decide (t.err=(0:Int)))))) else (if (((!(AF m.els t.loc).isSome) || (!decide (t.on=[]))) || (!decide (t.err=(0:Int))))=true then false else (if (decide ((((AF m.els t.loc).getD zeroEl).kind.toNat:Int)=(4:Int)))=true then (if (decide (t.tries=(0:Int)))=true then (((decide ((t.inc.toNat:Int)=(2:Int)))&&(decide (t.worker=[])))&&(decide (t.until_=(0:Int)))) else (((decide ((0:Int)<t.tries))&&(decide (t.tries≤(100:Int))))&&(decide ((t.inc.toNat:Int)=(0:Int))))) else (if ((((!decide (t.tries=(0:Int))) || (!decide (t.worker=[]))) || (!decide (t.until_=(0:Int)))) || (!decide ((t.inc.toNat:Int)=(0:Int))))=true then false else (if (decide ((((AF m.els t.loc).getD zeroEl).kind.toNat:Int)=(8:Int)))=true then (!(U7 m t.loc).isSome) else ((decide ((((AF m.els t.loc).getD zeroEl).kind.toNat:Int)=(3:Int))) || (decide ((((AF m.els t.loc).getD zeroEl).kind.toNat:Int)=(7:Int)))))))))
theorem ST (m:Md) (a:MdA) (t:Tk) (w:Kw) (ho:MdOk m) (hm:MdIn w m a) :
 Calls prog 49 #[.agg (Md.cells m a).toArray,.agg t.cells.toArray] w (BS w (.bool (IP m t))):=by
 have hoi:=ho.id;have hon:=ho.nm;have hnv:=ho.nvars;have hne:=ho.nels;have hnf:=ho.nfls;refine BR func49 ntmps49 X λM=>W ?_
 refine CO M X X λg2 w1 hg2 M=>CO M X X λg3 w2 hg3 M=>W ?_
 refine AB X (λh15=>?_) (λh15=>?_)
 ·refine W ?_;refine CH M 1 X X Al AN X (W ?_);refine CW M 20 X X call100 (WM m a _ _ ho (hm.fr0 M.fr)) λw3 M=>W ?_
  refine CI M X DS λg5 w4 hg5 M=>BY M 0 X X BU X λw5 M=>W ?_
  refine CH M 2 X X Al AN X (W ?_);refine CW M 27 X X call52 (E7 m a _ _ ho.b (hm.fr0 M.fr)) λw6 M=>W ?_
  refine CI M X AP λg7 w7 hg7 M=>BY M 0 X X AJ X λw8 M=>W ?_
  refine fvm M 4 [7,3,2] [(36,.bool ((!(EV m.fls t.on).isSome) || (!decide (t.born=(0:Int)))))] ?_ (λk32=>?_)
  ·intro w9 M;refine yb X (fvm M 4 [7,3,2] [(41,.bool (((!(EV m.fls t.on).isSome) || (!decide (t.born=(0:Int)))) || (!decide (t.tries=(0:Int)))))] ?_ (λk37=>?_))
   ·intro w10 M;refine yb X (fvm M 4 [7,3,2] [(46,.bool ((((!(EV m.fls t.on).isSome) || (!decide (t.born=(0:Int)))) || (!decide (t.tries=(0:Int)))) || (!decide (t.worker=[]))))] ?_ (λk42=>?_))
    ·intro w11 M;refine yb X (fvm M 4 [7,3,2] [(51,.bool (((((!(EV m.fls t.on).isSome) || (!decide (t.born=(0:Int)))) || (!decide (t.tries=(0:Int)))) || (!decide (t.worker=[]))) || (!decide (t.until_=(0:Int)))))] ?_ (λk47=>?_))
     ·intro w12 M;refine W ?_;refine AB X (λh51=>?_) (λh51=>?_)
      ·have h51p:=bd h51;refine W ?_;exact gr1 X ⟨by rw [IP,if_pos h15,if_pos h51],M.fr⟩
      refine W ?_;refine fvm M 7 [7,3] [(62,.bool ((decide ((((AF m.els (((EV m.fls t.on).getD zeroFl).tg)).getD zeroEl).kind.toNat:Int)=5))&&(decide (1<((BJ m.fls (((AF m.els (((EV m.fls t.on).getD zeroFl).tg)).getD zeroEl).id)).length:Int)))))] ?_ (λk55=>?_)
      ·intro w13 M;refine W ?_;refine AB X (λh62=>?_) (λh62=>?_)
       ·refine W ?_;refine fvm M 4 [] [(70,.bool ((decide ((t.inc.toNat:Int)=1))&&(decide (t.err=(91:Int)))))] ?_ (λk66=>?_)
        ·intro w14 M;refine W ?_;exact gr1 X ⟨by rw [IP,if_pos h15,AM h51,if_pos h62],M.fr⟩
        refine A1 (d:=66) X (λh66=>?_) (λh66=>?_)
        ·refine T4 ?_;exact k66 M
        refine T4 ?_;exact k66 M
       have h62p:=bd h62;refine W ?_;refine fvm M 4 [3] [(78,.bool ((decide ((((AF m.els (((EV m.fls t.on).getD zeroFl).tg)).getD zeroEl).kind.toNat:Int)=6))&&(decide ((t.inc.toNat:Int)=0))))] ?_ (λk74=>?_)
       ·intro w15 M;refine yb X (fvm M 4 [] [(83,.bool (((decide ((((AF m.els (((EV m.fls t.on).getD zeroFl).tg)).getD zeroEl).kind.toNat:Int)=6))&&(decide ((t.inc.toNat:Int)=0)))&&(decide (t.err=(0:Int)))))] ?_ (λk79=>?_))
        ·intro w16 M;refine W ?_;exact gr1 X ⟨by rw [IP,if_pos h15,AM h51,AM h62],M.fr⟩
        refine A1 (d:=79) X (λh79=>?_) (λh79=>?_)
        ·refine T4 ?_;exact k79 M
        refine T4 ?_;exact k79 M
       refine A1 (d:=74) X (λh74=>?_) (λh74=>?_)
       ·refine T4 ?_;exact k74 M
       refine T4 ?_;exact k74 M
      refine A1 (d:=55) X (λh55=>?_) (λh55=>?_)
      ·refine yd X (AI (xs:=Md.cells m a) X X (M.rdBlk 3 X X) Al X AN) (W ?_);refine sxl_call (some 59) kw X X (AD X X call101) (OG m a _ _ ho (hm.fr0 M.fr)) ?_;rintro _ w17 ⟨A59,c59,rfl,how17,hfw17⟩;refine cq ?_;have M:=M.pushOwn hfw17 (Ab _) how17;have hL59:=M.ownLen 0 X;refine T3 ?_;exact k55 (M.drop 1)
      refine T7 ?_;exact k55 M
     refine A1 (d:=47) X (λh47=>?_) (λh47=>?_)
     ·refine T4 ?_;exact k47 M
     refine T4 ?_;exact k47 M
    refine A1 (d:=42) X (λh42=>?_) (λh42=>?_)
    ·refine T4 ?_;exact k42 M
    refine T4 ?_;exact k42 M
   refine A1 (d:=37) X (λh37=>?_) (λh37=>?_)
   ·refine T4 ?_;exact k37 M
   refine T4 ?_;exact k37 M
  refine A1 (d:=32) X (λh32=>?_) (λh32=>?_)
  ·refine T4 ?_;exact k32 M
  refine T4 ?_;exact k32 M
 refine W ?_;refine CH M 1 X X Al AN X (W ?_);refine CW M 88 X X call52 (E7 m a _ _ ho.b (hm.fr0 M.fr)) λw18 M=>W ?_
 refine CI M X AP λg9 w19 hg9 M=>BY M 0 X X AJ X λw20 M=>W ?_
 refine fvm M 4 [9,3,2] [(97,.bool ((!(AF m.els t.loc).isSome) || (!decide (t.on=[]))))] ?_ (λk93=>?_)
 ·intro w21 M;refine yb X (fvm M 4 [9,3,2] [(102,.bool (((!(AF m.els t.loc).isSome) || (!decide (t.on=[]))) || (!decide (t.err=(0:Int)))))] ?_ (λk98=>?_))
  ·intro w22 M;refine W ?_;refine AB X (λh102=>?_) (λh102=>?_)
   ·have h102p:=bd h102;refine W ?_;exact gr1 X ⟨by rw [IP,AM h15,if_pos h102],M.fr⟩
   refine W ?_;refine AB X (λh105=>?_) (λh105=>?_)
   ·refine W ?_;refine AB X (λh108=>?_) (λh108=>?_)
    ·refine W ?_;refine fvm M 4 [3] [(116,.bool ((decide ((t.inc.toNat:Int)=2))&&(decide (t.worker=[]))))] ?_ (λk112=>?_)
     ·intro w23 M;refine yb X (fvm M 4 [] [(121,.bool (((decide ((t.inc.toNat:Int)=2))&&(decide (t.worker=[])))&&(decide (t.until_=(0:Int)))))] ?_ (λk117=>?_))
      ·intro w24 M;refine W ?_;exact gr1 X ⟨by rw [IP,AM h15,AM h102,if_pos h105,if_pos h108],M.fr⟩
      refine A1 (d:=117) X (λh117=>?_) (λh117=>?_)
      ·refine T4 ?_;exact k117 M
      refine T4 ?_;exact k117 M
     refine A1 (d:=112) X (λh112=>?_) (λh112=>?_)
     ·refine T4 ?_;exact k112 M
     refine T4 ?_;exact k112 M
    refine W ?_;refine fvm M 4 [3] [(129,.bool ((decide ((0:Int)<t.tries))&&(decide (t.tries≤(100:Int)))))] ?_ (λk125=>?_)
    ·intro w25 M;refine yb X (fvm M 4 [] [(134,.bool (((decide ((0:Int)<t.tries))&&(decide (t.tries≤(100:Int))))&&(decide ((t.inc.toNat:Int)=0))))] ?_ (λk130=>?_))
     ·intro w26 M;refine W ?_;exact gr1 X ⟨by rw [IP,AM h15,AM h102,if_pos h105,AM h108],M.fr⟩
     refine A1 (d:=130) X (λh130=>?_) (λh130=>?_)
     ·refine T4 ?_;exact k130 M
     refine T4 ?_;exact k130 M
    refine A1 (d:=125) X (λh125=>?_) (λh125=>?_)
    ·refine T4 ?_;exact k125 M
    refine T4 ?_;exact k125 M
   refine W ?_;refine fvm M 4 [9,3,2] [(142,.bool ((!decide (t.tries=(0:Int))) || (!decide (t.worker=[]))))] ?_ (λk138=>?_)
   ·intro w27 M;refine yb X (fvm M 4 [9,3,2] [(147,.bool (((!decide (t.tries=(0:Int))) || (!decide (t.worker=[]))) || (!decide (t.until_=(0:Int)))))] ?_ (λk143=>?_))
    ·intro w28 M;refine yb X (fvm M 4 [9,3,2] [(152,.bool ((((!decide (t.tries=(0:Int))) || (!decide (t.worker=[]))) || (!decide (t.until_=(0:Int)))) || (!decide ((t.inc.toNat:Int)=0))))] ?_ (λk148=>?_))
     ·intro w29 M;refine W ?_;refine AB X (λh152=>?_) (λh152=>?_)
      ·have h152p:=bd h152;refine W ?_;exact gr1 X ⟨by rw [IP,AM h15,AM h102,AM h105,if_pos h152],M.fr⟩
      refine W ?_;refine AB X (λh155=>?_) (λh155=>?_)
      ·refine W ?_;refine CH M 2 X X Al AN X (W ?_);refine CW M 160 X X call102 (rY m a _ _ ho (hm.fr0 M.fr)) λw30 M=>W ?_
       exact gr1 X ⟨by rw [IP,AM h15,AM h102,AM h105,AM h152,if_pos h155],M.fr⟩
      refine W ?_;refine fvm M 4 [] [(172,.bool ((decide ((((AF m.els t.loc).getD zeroEl).kind.toNat:Int)=3)) || (decide ((((AF m.els t.loc).getD zeroEl).kind.toNat:Int)=7))))] ?_ (λk168=>?_)
      ·intro w31 M;refine W ?_;exact gr1 X ⟨by rw [IP,AM h15,AM h102,AM h105,AM h152,AM h155],M.fr⟩
      refine A1 (d:=168) X (λh168=>?_) (λh168=>?_)
      ·refine T4 ?_;exact k168 M
      refine T4 ?_;exact k168 M
     refine A1 (d:=148) X (λh148=>?_) (λh148=>?_)
     ·refine T4 ?_;exact k148 M
     refine T4 ?_;exact k148 M
    refine A1 (d:=143) X (λh143=>?_) (λh143=>?_)
    ·refine T4 ?_;exact k143 M
    refine T4 ?_;exact k143 M
   refine A1 (d:=138) X (λh138=>?_) (λh138=>?_)
   ·refine T4 ?_;exact k138 M
   refine T4 ?_;exact k138 M
  refine A1 (d:=98) X (λh98=>?_) (λh98=>?_)
  ·refine T4 ?_;exact k98 M
  refine T4 ?_;exact k98 M
 refine A1 (d:=93) X (λh93=>?_) (λh93=>?_)
 ·refine T4 ?_;exact k93 M
 refine T4 ?_;exact k93 M
theorem rR (m:Md) (a:MdA) (t:Tk) (w:Kw) (ho:MdOk m) (hm:MdIn w m a) :
 Calls prog 51 #[.agg (Md.cells m a).toArray,.agg t.cells.toArray] w λe w'=>∃A c,e=.returned (.slice A (FM m t).length c)∧w'.ownsRow w.heap.size 9 1 (.slice A (FM m t).length c) (FM m t).length (AE BG (FM m t))∧Fr0 w w':=by
 have hoi:=ho.id;have hon:=ho.nm;have hnv:=ho.nvars;have hne:=ho.nels;have hnf:=ho.nfls;have hol:=QB m.fls t.loc;have har:=OV m.els t.loc;refine BR func51 ntmps51 X λM=>W ?_
 refine CO M X X λg2 w1 hg2 M=>CO M X X λg3 w2 hg3 M=>W ?_
 refine AB X (λh16=>?_) (λh16=>?_)
 ·refine W ?_;refine gr1 X ?_;have hv0:FM m t=[]:=if_pos h16;rw [hv0];exact ⟨none,0,X,World.ownsRow_nil _ _ _ _,M.fr⟩
 have h16p:=odf h16;refine W ?_;refine CH M 1 X X Al AN X (W ?_);refine CW M 21 X X call52 (E7 m a _ _ ho.b (hm.fr0 M.fr)) λw3 M=>W ?_
 refine CI M X AP λg6 w4 hg6 M=>BY M 0 X X AJ X λw5 M=>W ?_
 refine K5 [(2,pg g2),(3,pg g3),(5,.slice none 0 0),(25,.int .u8 (((AF m.els t.loc).getD zeroEl).kind.toNat:Int)),(26,.bool ((decide ((((AF m.els t.loc).getD zeroEl).kind.toNat:Int)=3)) || (decide ((((AF m.els t.loc).getD zeroEl).kind.toNat:Int)=8))))] (λw'=>Mem w AR [As.blk g6 106 (El.cells ((AF m.els t.loc).getD zeroEl)),As.blk g3 75 (Tk.cells t),As.blk g2 48 (Md.cells m a)] w') ?_ (λk26=>?_)
 ·intro w6 M;refine qx_seq (AB X (λh26=>?_) (λh26=>?_))
  ·have h26p:=bd h26;refine W ?_;refine CV M kw X X [str t.loc] ([str t.loc]) X X X X Az CG X X (GT X) X λg32 w7 hg32 M=>?_
   have M:=M.nilOwn 9 1;refine CN (len':=[t.loc].length) (xs':=AE BG [t.loc]) M 0 kw X X X X X X (M.rdBlk 1 X X) Az C0 X AV (BW X) (Ab _) (Ab _) DC (by unfold maxLen;first|omega|(simp;omega)) (by first|(simp;done)|(simp;omega)) (by first|exact (B3 _ _ _).symm|rfl|simp [AE,BG]) λA33 c33 w8 M=>W ?_
   refine CH M 4 X X Al AN X (W ?_);refine MF M 64 X (AD X X call103) (IV m a _ _ ho (hm.fr0 M.fr)) λA64 c64 w9 M=>?_
   have hL64:=M.ownLen 0 X;have hbl:=E5 m.els t.loc;refine CN (len':=([t.loc]++(B4 m.els t.loc)).length) (xs':=AE BG ([t.loc]++(B4 m.els t.loc))) M 1 kw X X X X X X (M.rdOwn 0 X) Az C0 X AV (DB FP) (Ab _) (Ab _) DC (by unfold maxLen;first|omega|(simp;omega)) (by first|(simp;done)|(simp;omega)) (by first|exact (B3 _ _ _).symm|rfl|simp [AE,BG]) λA65 c65 w10 M=>W ?_
   refine CH M 5 X X Al AN X (W ?_);refine MF M 69 X (AD X X call104) (NI m a _ _ ho (hm.fr0 M.fr)) λA69 c69 w11 M=>?_
   have hL69:=M.ownLen 0 X;refine W ?_;refine flp [12,2] (λze e wr mz=>∃(q:Nat) (acc2:List Kz) (A6:Ky) (c6:Nat),e=(5,.slice A6 acc2.length c6)::(13,AA (q:Int))::ze∧Mem w AR [As.own w.heap.size 9 1 (.slice A69 (C2 m.els t.loc).length c69) ((C2 m.els t.loc).length) (AE BG (C2 m.els t.loc)),As.own w.heap.size 9 1 (.slice A64 (B4 m.els t.loc).length c64) ((B4 m.els t.loc).length) (AE BG (B4 m.els t.loc)),As.own w.heap.size 9 1 (.slice A6 acc2.length c6) acc2.length (AE BG acc2),As.blk g32 9 [str t.loc],As.blk g6 106 (El.cells ((AF m.els t.loc).getD zeroEl)),As.blk g3 75 (Tk.cells t),As.blk g2 48 (Md.cells m a)] wr∧(q≤(C2 m.els t.loc).length)∧(acc2=([t.loc]++(B4 m.els t.loc))++((C2 m.els t.loc).take q).flatMap (B4 m.els))∧(acc2.length≤700+q*200)∧mz=(C2 m.els t.loc).length-q) ⟨0,[t.loc]++(B4 m.els t.loc),A65,c65,X,M,Ae _,by rw [Et,Eo,Bv],by first|omega|(simp;omega),rfl⟩ ?_;rintro _ w12 _ ⟨q,acc2,A6,c6,rfl,M,hq,hv,hl2,rfl⟩;refine W ?_;refine AB X (λh73=>?_) (λh73=>?_)
   ·have h73p:=odt h73;obtain ⟨z,hz⟩:=EP (l:=C2 m.els t.loc) (i:=q) A0;obtain ⟨b_z,o_z,hA_z⟩:=E3 (k:=1) A0 (M.rdOwn 0 X) hz;refine W ?_;refine EC 9 (λw'=>Mem w AR [As.own w.heap.size 9 1 (.slice A69 (C2 m.els t.loc).length c69) ((C2 m.els t.loc).length) (AE BG (C2 m.els t.loc)),As.own w.heap.size 9 1 (.slice A64 (B4 m.els t.loc).length c64) ((B4 m.els t.loc).length) (AE BG (B4 m.els t.loc)),As.blk g32 9 [str t.loc],As.blk g6 106 (El.cells ((AF m.els t.loc).getD zeroEl)),As.blk g3 75 (Tk.cells t),As.blk g2 48 (Md.cells m a)] w') CA ?_;have M:=M.drew;refine oc 0 9 X X (M.pk [0,1,3,4,5,6]) (oa 1 9 X X (M.pk [0,1,3,4,5,6]) (λ_ M=>AI (xs:=Md.cells m a) X X (M.rdBlk 5 X X) Al X AN) (oc 2 9 X X (M.pk [0,1,3,4,5,6]) (oc 3 9 X X (M.pk [0,1,3,4,5,6]) (oa 4 9 X X (M.pk [0,1,3,4,5,6]) (λ_ M=>AK q hA_z X X X (sl X) A0) (ol 5 9 X X X (M.pk [0,1,3,4,5,6]) (λ_ M=>(BD DI (M.rdOwn 0 X) hA_z hz 0 X)) (BC 6 (some 82) gkr X kw X X (AD X X call103) (IV m a _ _ ho (hm.fr0 M.fr)) ?_))))));rintro _ w13 ⟨A82,c82,rfl,how13,hfw13⟩;refine ⟨_,X,λ_=>(M.pk [0,1,3,4,5,6]).step hfw13,?_⟩;have M:=M.pushOwn hfw13 (Ab _) how13;have hL82:=M.ownLen 0 X;have hbl:=E5 m.els z;refine B5 7 (some 83) gkr X kw X X (λρ hρ=>DL _ _ _ X w.heap.size _ _ _ _ Az C0 X AV _ _ _ (hρ _ _ X) (M.own 3 X) _ _ _ _ (hρ _ _ X) (M.rdOwn 0 X) (DB FP) (by unfold maxLen;first|omega|(simp;omega)) DC M.fr.size) ?_;rintro v83 w14 ⟨ho83,hgr83,hvb83⟩
    replace ho83:World.ownsRow w14 w.heap.size 9 1 v83 ((acc2++(B4 m.els z)).length) (AE BG (acc2++(B4 m.els z))):=by rw [show ((acc2++(B4 m.els z)).length)=acc2.length+(B4 m.els z).length from by first|(simp;done)|(simp;omega),show (AE BG (acc2++(B4 m.els z)))=(AE BG acc2)++(AE BG (B4 m.els z)) from by first|exact B3 _ _ _|simp [AE,BG]];exact ho83
    have M:=M.appOwn 3 X ho83 hgr83 hvb83;obtain ⟨A83,c83,rfl,_⟩:=E8 ho83;refine ⟨λ_=>(M.pk [1,2,4,5,6,7]),oc 8 9 X X (M.pk [1,2,4,5,6,7]) (fdn (W ?_))⟩;refine fag ⟨q+1,acc2++(B4 m.els z),A83,c83,X,(M.pk [1,2,3,4,5,6,7]),?_,?_,?_,X⟩
    ·omega
    ·rw [hv,AS hz,Dy,By];simp
    have hbz:=E5 m.els z;rw [Ah];omega
   have h73p:=odf h73;refine W ?_;have hqE:q=(C2 m.els t.loc).length:=by omega
   rw [hqE,Ba] at hv
   refine W ?_;refine gr1 X ?_;have hvp:FM m t=acc2:=by rw [FM,AM h16,hv,dV,if_pos h26]<;>rfl
   rw [hvp];exact ⟨_,_,X,M.own 2 X,M.fr⟩
  have h26p:=bd h26;refine W ?_;refine AB X (λh34=>?_) (λh34=>?_)
  ·have h34p:=odt h34;refine W ?_;refine CH M 2 X X Al AN X (W ?_);refine MF M 39 X (AD X X call101) (OG m a _ _ ho (hm.fr0 M.fr)) λA39 c39 w15 M=>?_
   have hL39:=M.ownLen 0 X;refine W ?_;have M:=M.nilOwn 9 1;refine flp [8,3,2] (λze e wr mz=>∃(j:Nat) (acc:List Kz) (A5:Ky) (c5:Nat),e=(5,.slice A5 acc.length c5)::(9,AA (j:Int))::ze∧Mem w AR [As.own w.heap.size 9 1 (.slice A5 acc.length c5) acc.length (AE BG acc),As.own w.heap.size 9 1 (.slice A39 (BJ m.fls t.loc).length c39) ((BJ m.fls t.loc).length) (AE BG (BJ m.fls t.loc)),As.blk g6 106 (El.cells ((AF m.els t.loc).getD zeroEl)),As.blk g3 75 (Tk.cells t),As.blk g2 48 (Md.cells m a)] wr∧(j≤(BJ m.fls t.loc).length)∧(acc=((BJ m.fls t.loc).take j).map (λk=>((EV m.fls k).getD zeroFl).tg)∧acc.length=j)∧mz=(BJ m.fls t.loc).length-j) ⟨0,[],none,0,X,M,Ae _,⟨X,X⟩,X⟩ ?_;rintro _ w16 _ ⟨j,acc,A5,c5,rfl,M,hj,hacc,rfl⟩;refine W ?_;refine AB X (λh43=>?_) (λh43=>?_)
   ·have h43p:=odt h43;obtain ⟨k,_,_,hk,hA_k⟩:=ex5 (l:=BJ m.fls t.loc) (k:=1) (i:=j) (M.rdOwn 1 X);refine W ?_;refine MQ (λ(g10:Nat)=>[(2,pg g2),(3,pg g3),(5,.slice A5 acc.length c5),(8,.slice A39 ((BJ m.fls t.loc).length) c39),(9,AA (j:Int)),(10,pg g10)]) (λ(g10:Nat)=>λw'=>Mem w AR [As.blk g10 110 (Fl.cells ((EV m.fls k).getD zeroFl)),As.own w.heap.size 9 1 (.slice A5 acc.length c5) acc.length (AE BG acc),As.own w.heap.size 9 1 (.slice A39 (BJ m.fls t.loc).length c39) ((BJ m.fls t.loc).length) (AE BG (BJ m.fls t.loc)),As.blk g6 106 (El.cells ((AF m.els t.loc).getD zeroEl)),As.blk g3 75 (Tk.cells t),As.blk g2 48 (Md.cells m a)] w') ?_ (λkr14=>?_)
    ·intro g10 w17 M;refine W ?_;refine CV M kw X X [str (((EV m.fls k).getD zeroFl).tg)] ([str (((EV m.fls k).getD zeroFl).tg)]) X X X X Az CG X X (GT X) X λg58 w18 hg58 M=>CN (len':=(acc++[((EV m.fls k).getD zeroFl).tg]).length) (xs':=AE BG (acc++[((EV m.fls k).getD zeroFl).tg])) M 2 kw X X X X X X (M.rdBlk 0 X X) Az C0 X AV (BW X) (Ab _) (Ab _) DC (by unfold maxLen;first|omega|(simp;omega)) (by first|(simp;done)|(simp;omega)) (by first|exact (B3 _ _ _).symm|rfl|simp [AE,BG]) λA59 c59 w19 M=>W ?_
     refine fag ⟨j+1,acc++[((EV m.fls k).getD zeroFl).tg],A59,c59,X,(M.pk [2,3,4,5,6]),?_,?_,X⟩
     ·omega
     exact ⟨by rw [hacc.1,AS hk,Ck];rfl,by rw [Ah,hacc.2];rfl⟩
    refine J2 M 12 CA λM=>oa 0 12 X X M (λ_ M=>AI (xs:=Md.cells m a) X X (M.rdBlk 4 X X) Al X AN) (oc 1 12 X X M (oc 2 12 X X M (oa 3 12 X X M (λ_ M=>AK j hA_k X X X (sl X) A0) (ol 4 12 X X X M (λ_ M=>(BD DI (M.rdOwn 1 X) hA_k hk 0 X)) (G3 (rs:=[5,9]) gkr (by simp) λiz hiz=>?_)))))
    simp only [Ak,Ax,or_false] at hiz
    rcases hiz with rfl|rfl
    ·refine HU (some 52) X kw X X (AD X X call100) (WM m a _ _ ho (hm.fr0 M.fr)) ?_;rintro _ w20 ⟨rfl,hfw20⟩;refine ⟨_,X,λ_=>M.step hfw20,?_⟩;have M:=M.step hfw20;refine oc 6 12 X X M (oc 7 12 X X M (oc 8 12 X X M (B5 9 (some 10) gkr X kw X X (λρ hρ=>BN 110 X _ [str [],str [],str [],str []] DS X) ?_)));rintro _ w21 ⟨g10,rfl,hg10,hq10,hb10,hfw21⟩;refine ⟨λ_=>M.step hfw21,?_⟩;have M:=M.push hfw21 _ hb10 (CU hg10 hq10)
     replace M:Mem w AR (As.blk g10 110 [str [],str [],str [],str []]::_) w21:=M
     exact fop M 10 0 X X X BU X (·.drop 1) λw22 M=>oc 11 12 X X (M.drop 1) (fdn (kr14 g10 _ _ M ⟨X,X,X,X,X,X,trivial⟩))
    refine E0 (some 10) X kw X X (λρ hρ=>BN 110 X _ [str [],str [],str [],str []] DS X) ?_;rintro _ w23 ⟨g10,rfl,hg10,hq10,hb10,hfw23⟩;refine ⟨λ_=>M.step hfw23,?_⟩;have M:=M.push hfw23 _ hb10 (CU hg10 hq10)
    replace M:Mem w AR (As.blk g10 110 [str [],str [],str [],str []]::_) w23:=M
    refine BC 5 (some 52) gkr X kw X X (AD X X call100) (WM m a _ _ ho (hm.fr0 M.fr)) ?_;rintro _ w24 ⟨rfl,hfw24⟩;refine ⟨_,X,λ_=>(M.drop 1).step hfw24,?_⟩;have M:=M.step hfw24;exact oc 6 12 X X (M.drop 1) (oc 7 12 X X (M.drop 1) (oc 8 12 X X (M.drop 1) (fop M 10 0 X X X BU X (·.drop 1) λw25 M=>oc 11 12 X X (M.drop 1) (fdn (kr14 g10 _ _ M ⟨X,X,X,X,X,X,trivial⟩)))))
   have h43p:=odf h43;refine W ?_;have hjE:j=(BJ m.fls t.loc).length:=by omega
   have hal:acc.length≤400:=by rw [hacc.2,hjE];omega
   have hac:=hacc.1;rw [hjE,Ba] at hac
   refine W ?_;refine CH M 4 X X Al AN X (W ?_);refine MF M 64 X (AD X X call103) (IV m a _ _ ho (hm.fr0 M.fr)) λA64 c64 w26 M=>?_
   have hL64:=M.ownLen 0 X;have hbl:=E5 m.els t.loc;refine CN (len':=(acc++(B4 m.els t.loc)).length) (xs':=AE BG (acc++(B4 m.els t.loc))) M 1 kw X X X X X X (M.rdOwn 0 X) Az C0 X AV (DB FP) (Ab _) (Ab _) DC (by unfold maxLen;first|omega|(simp;omega)) (by first|(simp;done)|(simp;omega)) (by first|exact (B3 _ _ _).symm|rfl|simp [AE,BG]) λA65 c65 w27 M=>W ?_
   refine CH M 5 X X Al AN X (W ?_);refine MF M 69 X (AD X X call104) (NI m a _ _ ho (hm.fr0 M.fr)) λA69 c69 w28 M=>?_
   have hL69:=M.ownLen 0 X;refine W ?_;refine flp [12,2] (λze e wr mz=>∃(q:Nat) (acc2:List Kz) (A6:Ky) (c6:Nat),e=(5,.slice A6 acc2.length c6)::(13,AA (q:Int))::ze∧Mem w AR [As.own w.heap.size 9 1 (.slice A69 (C2 m.els t.loc).length c69) ((C2 m.els t.loc).length) (AE BG (C2 m.els t.loc)),As.own w.heap.size 9 1 (.slice A64 (B4 m.els t.loc).length c64) ((B4 m.els t.loc).length) (AE BG (B4 m.els t.loc)),As.own w.heap.size 9 1 (.slice A6 acc2.length c6) acc2.length (AE BG acc2),As.own w.heap.size 9 1 (.slice A39 (BJ m.fls t.loc).length c39) ((BJ m.fls t.loc).length) (AE BG (BJ m.fls t.loc)),As.blk g6 106 (El.cells ((AF m.els t.loc).getD zeroEl)),As.blk g3 75 (Tk.cells t),As.blk g2 48 (Md.cells m a)] wr∧(q≤(C2 m.els t.loc).length)∧(acc2=(acc++(B4 m.els t.loc))++((C2 m.els t.loc).take q).flatMap (B4 m.els))∧(acc2.length≤700+q*200)∧mz=(C2 m.els t.loc).length-q) ⟨0,acc++(B4 m.els t.loc),A65,c65,X,M,Ae _,by rw [Et,Eo,Bv],by first|omega|(simp;omega),rfl⟩ ?_;rintro _ w29 _ ⟨q,acc2,A6,c6,rfl,M,hq,hv,hl2,rfl⟩;refine W ?_;refine AB X (λh73=>?_) (λh73=>?_)
   ·have h73p:=odt h73;obtain ⟨z,hz⟩:=EP (l:=C2 m.els t.loc) (i:=q) A0;obtain ⟨b_z,o_z,hA_z⟩:=E3 (k:=1) A0 (M.rdOwn 0 X) hz;refine W ?_;refine EC 9 (λw'=>Mem w AR [As.own w.heap.size 9 1 (.slice A69 (C2 m.els t.loc).length c69) ((C2 m.els t.loc).length) (AE BG (C2 m.els t.loc)),As.own w.heap.size 9 1 (.slice A64 (B4 m.els t.loc).length c64) ((B4 m.els t.loc).length) (AE BG (B4 m.els t.loc)),As.own w.heap.size 9 1 (.slice A39 (BJ m.fls t.loc).length c39) ((BJ m.fls t.loc).length) (AE BG (BJ m.fls t.loc)),As.blk g6 106 (El.cells ((AF m.els t.loc).getD zeroEl)),As.blk g3 75 (Tk.cells t),As.blk g2 48 (Md.cells m a)] w') CA ?_;have M:=M.drew;refine oc 0 9 X X (M.pk [0,1,3,4,5,6]) (oa 1 9 X X (M.pk [0,1,3,4,5,6]) (λ_ M=>AI (xs:=Md.cells m a) X X (M.rdBlk 5 X X) Al X AN) (oc 2 9 X X (M.pk [0,1,3,4,5,6]) (oc 3 9 X X (M.pk [0,1,3,4,5,6]) (oa 4 9 X X (M.pk [0,1,3,4,5,6]) (λ_ M=>AK q hA_z X X X (sl X) A0) (ol 5 9 X X X (M.pk [0,1,3,4,5,6]) (λ_ M=>(BD DI (M.rdOwn 0 X) hA_z hz 0 X)) (BC 6 (some 82) gkr X kw X X (AD X X call103) (IV m a _ _ ho (hm.fr0 M.fr)) ?_))))));rintro _ w30 ⟨A82,c82,rfl,how30,hfw30⟩;refine ⟨_,X,λ_=>(M.pk [0,1,3,4,5,6]).step hfw30,?_⟩;have M:=M.pushOwn hfw30 (Ab _) how30;have hL82:=M.ownLen 0 X;have hbl:=E5 m.els z;refine B5 7 (some 83) gkr X kw X X (λρ hρ=>DL _ _ _ X w.heap.size _ _ _ _ Az C0 X AV _ _ _ (hρ _ _ X) (M.own 3 X) _ _ _ _ (hρ _ _ X) (M.rdOwn 0 X) (DB FP) (by unfold maxLen;first|omega|(simp;omega)) DC M.fr.size) ?_;rintro v83 w31 ⟨ho83,hgr83,hvb83⟩
    replace ho83:World.ownsRow w31 w.heap.size 9 1 v83 ((acc2++(B4 m.els z)).length) (AE BG (acc2++(B4 m.els z))):=by rw [show ((acc2++(B4 m.els z)).length)=acc2.length+(B4 m.els z).length from by first|(simp;done)|(simp;omega),show (AE BG (acc2++(B4 m.els z)))=(AE BG acc2)++(AE BG (B4 m.els z)) from by first|exact B3 _ _ _|simp [AE,BG]];exact ho83
    have M:=M.appOwn 3 X ho83 hgr83 hvb83;obtain ⟨A83,c83,rfl,_⟩:=E8 ho83;refine ⟨λ_=>(M.pk [1,2,4,5,6,7]),oc 8 9 X X (M.pk [1,2,4,5,6,7]) (fdn (W ?_))⟩;refine fag ⟨q+1,acc2++(B4 m.els z),A83,c83,X,(M.pk [1,2,3,4,5,6,7]),?_,?_,?_,X⟩
    ·omega
    ·rw [hv,AS hz,Dy,By];simp
    have hbz:=E5 m.els z;rw [Ah];omega
   have h73p:=odf h73;refine W ?_;have hqE:q=(C2 m.els t.loc).length:=by omega
   rw [hqE,Ba] at hv
   refine W ?_;refine gr1 X ?_;have hvp:FM m t=acc2:=by rw [FM,AM h16,hv,dV,AM h26,if_pos h34,←hac]<;>rfl
   rw [hvp];exact ⟨_,_,X,M.own 2 X,M.fr⟩
  have h34p:=odf h34;refine W ?_;refine CH M 2 X X Al AN X (W ?_);refine MF M 64 X (AD X X call103) (IV m a _ _ ho (hm.fr0 M.fr)) λA64 c64 w32 M=>?_
  have hL64:=M.ownLen 0 X;have hbl:=E5 m.els t.loc;have M:=M.nilOwn 9 1;refine CN (len':=(B4 m.els t.loc).length) (xs':=AE BG (B4 m.els t.loc)) M 0 kw X X X X X X (M.rdOwn 1 X) Az C0 X AV (DB FP) (Ab _) (Ab _) DC (by unfold maxLen;first|omega|(simp;omega)) (by first|(simp;done)|(simp;omega)) (by first|exact (B3 _ _ _).symm|rfl|simp [AE,BG]) λA65 c65 w33 M=>W ?_
  refine CH M 4 X X Al AN X (W ?_);refine MF M 69 X (AD X X call104) (NI m a _ _ ho (hm.fr0 M.fr)) λA69 c69 w34 M=>?_
  have hL69:=M.ownLen 0 X;refine W ?_;refine flp [12,2] (λze e wr mz=>∃(q:Nat) (acc2:List Kz) (A6:Ky) (c6:Nat),e=(5,.slice A6 acc2.length c6)::(13,AA (q:Int))::ze∧Mem w AR [As.own w.heap.size 9 1 (.slice A69 (C2 m.els t.loc).length c69) ((C2 m.els t.loc).length) (AE BG (C2 m.els t.loc)),As.own w.heap.size 9 1 (.slice A6 acc2.length c6) acc2.length (AE BG acc2),As.own w.heap.size 9 1 (.slice A64 (B4 m.els t.loc).length c64) ((B4 m.els t.loc).length) (AE BG (B4 m.els t.loc)),As.blk g6 106 (El.cells ((AF m.els t.loc).getD zeroEl)),As.blk g3 75 (Tk.cells t),As.blk g2 48 (Md.cells m a)] wr∧(q≤(C2 m.els t.loc).length)∧(acc2=(B4 m.els t.loc)++((C2 m.els t.loc).take q).flatMap (B4 m.els))∧(acc2.length≤700+q*200)∧mz=(C2 m.els t.loc).length-q) ⟨0,B4 m.els t.loc,A65,c65,X,M,Ae _,by rw [Et,Eo,Bv],by first|omega|(simp;omega),rfl⟩ ?_;rintro _ w35 _ ⟨q,acc2,A6,c6,rfl,M,hq,hv,hl2,rfl⟩;refine W ?_;refine AB X (λh73=>?_) (λh73=>?_)
  ·have h73p:=odt h73;obtain ⟨z,_,_,hz,hA_z⟩:=ex5 (l:=C2 m.els t.loc) (k:=1) (i:=q) (M.rdOwn 0 X);refine W ?_;refine EC 9 (λw'=>Mem w AR [As.own w.heap.size 9 1 (.slice A69 (C2 m.els t.loc).length c69) ((C2 m.els t.loc).length) (AE BG (C2 m.els t.loc)),As.own w.heap.size 9 1 (.slice A64 (B4 m.els t.loc).length c64) ((B4 m.els t.loc).length) (AE BG (B4 m.els t.loc)),As.blk g6 106 (El.cells ((AF m.els t.loc).getD zeroEl)),As.blk g3 75 (Tk.cells t),As.blk g2 48 (Md.cells m a)] w') CA ?_;have M:=M.drew;refine oc 0 9 X X (M.pk [0,2,3,4,5]) (oa 1 9 X X (M.pk [0,2,3,4,5]) (λ_ M=>AI (xs:=Md.cells m a) X X (M.rdBlk 4 X X) Al X AN) (oc 2 9 X X (M.pk [0,2,3,4,5]) (oc 3 9 X X (M.pk [0,2,3,4,5]) (oa 4 9 X X (M.pk [0,2,3,4,5]) (λ_ M=>AK q hA_z X X X (sl X) A0) (ol 5 9 X X X (M.pk [0,2,3,4,5]) (λ_ M=>(BD DI (M.rdOwn 0 X) hA_z hz 0 X)) (BC 6 (some 82) gkr X kw X X (AD X X call103) (IV m a _ _ ho (hm.fr0 M.fr)) ?_))))));rintro _ w36 ⟨A82,c82,rfl,how36,hfw36⟩;refine ⟨_,X,λ_=>(M.pk [0,2,3,4,5]).step hfw36,?_⟩;have M:=M.pushOwn hfw36 (Ab _) how36;have hL82:=M.ownLen 0 X;have hbl:=E5 m.els z;refine B5 7 (some 83) gkr X kw X X (λρ hρ=>DL _ _ _ X w.heap.size _ _ _ _ Az C0 X AV _ _ _ (hρ _ _ X) (M.own 2 X) _ _ _ _ (hρ _ _ X) (M.rdOwn 0 X) (DB FP) (by unfold maxLen;first|omega|(simp;omega)) DC M.fr.size) ?_;rintro v83 w37 ⟨ho83,hgr83,hvb83⟩
   replace ho83:World.ownsRow w37 w.heap.size 9 1 v83 ((acc2++(B4 m.els z)).length) (AE BG (acc2++(B4 m.els z))):=by rw [show ((acc2++(B4 m.els z)).length)=acc2.length+(B4 m.els z).length from by first|(simp;done)|(simp;omega),show (AE BG (acc2++(B4 m.els z)))=(AE BG acc2)++(AE BG (B4 m.els z)) from by first|exact B3 _ _ _|simp [AE,BG]];exact ho83
   have M:=M.appOwn 2 X ho83 hgr83 hvb83;obtain ⟨A83,c83,rfl,_⟩:=E8 ho83;refine ⟨λ_=>(M.pk [1,3,4,5,6]),oc 8 9 X X (M.pk [1,3,4,5,6]) (fdn (W ?_))⟩;refine fag ⟨q+1,acc2++(B4 m.els z),A83,c83,X,(M.pk [1,2,3,4,5,6]),?_,?_,?_,X⟩
   ·omega
   ·rw [hv,AS hz,Dy,By];simp
   have hbz:=E5 m.els z;rw [Ah];omega
  have h73p:=odf h73;refine W ?_;have hqE:q=(C2 m.els t.loc).length:=by omega
  rw [hqE,Ba] at hv
  refine W ?_;refine gr1 X ?_;have hvp:FM m t=acc2:=by rw [FM,AM h16,hv,dV,AM h26,AM h34]<;>rfl
  rw [hvp];exact ⟨_,_,X,M.own 1 X,M.fr⟩
 refine AB X (λh26=>?_) (λh26=>?_)
 ·exact sx_skip (k26 _ _ M ⟨X,X,X,X,(by rw [h26];rfl),trivial⟩)
 refine T4 ?_;exact k26 _ _ M ⟨X,X,X,X,(by rw [h26];rfl),trivial⟩
def jJ (born:Int) (x:El):Int:=if (decide ((x.ev.toNat:Int)=(1:Int)))=true then (IntKind.i64).wrap (born+x.ticks) else 0
def HH (vars:List Bd) (born:Int) (x:El):Wt × Int:=
 if (decide ((x.ev.toNat:Int)=(2:Int)))=true then
  (if (!((EK vars x.key).isSome))=true then (⟨[],0,[],[],0⟩,100)
  else if (!decide ((((EK vars x.key).getD zeroVl).kind.toNat:Int)=(3:Int)))=true then (⟨[],0,[],[],0⟩,90)
  else (⟨x.id,x.ev,x.ref,((EK vars x.key).getD zeroVl).text,jJ born x⟩,0))
 else (⟨x.id,x.ev,x.ref,[],jJ born x⟩,0)
def Q2 (m:Md) (t:Tk) (vars:List Bd):List Kz→Option Int
 | []=>none
 | k::r=>if (!decide ((HH vars t.born ((AF m.els k).getD zeroEl)).2=(0:Int)))=true then some (HH vars t.born ((AF m.els k).getD zeroEl)).2 else Q2 m t vars r
def GC (m:Md) (vars:List Bd) (t:Tk):List Wt × Int:=
 if (!(IP m t))=true then ([],1)
 else match Q2 m t vars (FM m t) with
  | some e=>([],e)
  | none=>((FM m t).map (λk=>(HH vars t.born ((AF m.els k).getD zeroEl)).1),0)
theorem nE (m:Md) (a:MdA) (vars:List Bd) (V:Ky) (cv:Nat) (t:Tk) (w:Kw) (ho:MdOk m) (hm:MdIn w m a) (hvl:(vars.length:Int)<4611686018427387904) (hV:Rd w V (vars.length*5) (AE Bd.cells vars)) :
 Calls prog 23 #[.agg (Md.cells m a).toArray,.slice V vars.length cv,.agg t.cells.toArray] w λe w'=>∃A c',e=.returned (.tuple #[.slice A (GC m vars t).1.length c',AA (GC m vars t).2])∧w'.ownsRow w.heap.size 80 5 (.slice A (GC m vars t).1.length c') (GC m vars t).1.length (AE Wt.cells (GC m vars t).1)∧Fr0 w w':=by
 have hoi:=ho.id;have hon:=ho.nm;have hnv:=ho.nvars;have hne:=ho.nels;have hnf:=ho.nfls;have hvL:=mD ho t;refine BR func23 ntmps23 X λM=>W ?_
 refine CO M X X λg3 w1 hg3 M=>CO M X X λg5 w2 hg5 M=>W ?_
 refine CH M 1 X X Al AN X (CH M 0 X X Bm BA X (CW M 18 X X call49 (ST m a t _ ho (hm.fr0 M.fr)) λw3 M=>W ?_));refine AB X (λh19=>?_) (λh19=>?_)
 ·refine W ?_;refine AZ X X X ?_;have hwp:GC m vars t=([],1):=if_pos h19;rw [hwp];exact ⟨none,0,X,World.ownsRow_nil _ _ _ _,M.fr⟩
 have h19p:=BO h19;refine W ?_;refine CH M 1 X X Al AN X (CH M 0 X X Bm BA X (MF M 22 X (AD X X call51) (rR m a t _ ho (hm.fr0 M.fr)) λA22 c22 w4 M=>?_));have hL22:=M.ownLen 0 X;refine W ?_;have M:=M.nilOwn 80 5;refine flp [8,5,3,1] (λze e wr mz=>∃(i:Nat) (acc:List Wt) (A8:Ky) (c8:Nat),e=(9,.slice A8 acc.length c8)::(10,AA (i:Int))::ze∧Mem w AR [As.own w.heap.size 80 5 (.slice A8 acc.length c8) acc.length (AE Wt.cells acc),As.own w.heap.size 9 1 (.slice A22 (FM m t).length c22) ((FM m t).length) (AE BG (FM m t)),As.blk g5 75 (Tk.cells t),As.blk g3 48 (Md.cells m a)] wr∧(i≤(FM m t).length)∧(acc=((FM m t).take i).map (λk=>(HH vars t.born ((AF m.els k).getD zeroEl)).1)∧acc.length=i)∧(Q2 m t vars (FM m t)=Q2 m t vars ((FM m t).drop i))∧mz=(FM m t).length-i) ⟨0,[],none,0,X,M,Ae _,⟨X,X⟩,X,X⟩ ?_;rintro _ w5 _ ⟨i,acc,A8,c8,rfl,M,hi,hacc,hE,rfl⟩;refine W ?_;refine AB X (λh26=>?_) (λh26=>?_)
 ·have h26p:=odt h26;obtain ⟨k,_,_,hk,hA_k⟩:=ex5 (l:=FM m t) (k:=1) (i:=i) (M.rdOwn 1 X);refine W ?_;refine MQ (λ(g11:Nat)=>[(1,.slice V vars.length cv),(3,pg g3),(5,pg g5),(8,.slice A22 ((FM m t).length) c22),(9,.slice A8 acc.length c8),(10,AA (i:Int)),(11,pg g11)]) (λ(g11:Nat)=>λw'=>Mem w AR [As.blk g11 106 (El.cells ((AF m.els k).getD zeroEl)),As.own w.heap.size 80 5 (.slice A8 acc.length c8) acc.length (AE Wt.cells acc),As.own w.heap.size 9 1 (.slice A22 (FM m t).length c22) ((FM m t).length) (AE BG (FM m t)),As.blk g5 75 (Tk.cells t),As.blk g3 48 (Md.cells m a)] w') ?_ (λkr8=>?_)
  ·intro g11 w6 M;refine W ?_;refine ya X (B7 (parts:=[(0,_),(1,_),(2,_)]) X X (MA _ _ _)) (CI M X K9 λg13 w7 hg13 M=>BY M 0 X X C9 X λw8 M=>W ?_);refine AB X (λh47=>?_) (λh47=>?_)
   ·have h47p:=odt h47;refine T5 ?_;refine ya X (aE X X X) (yb X (gp1 M 0 X X X FU λw9 M=>W ?_));refine AB X (λh56=>?_) (λh56=>?_)
    ·have h56p:=odt h56;refine W ?_;refine CW M 61 X X call53 (RL _ _ vars (((AF m.els k).getD zeroEl).key) _ A0 (hV.fr0 M.fr)) λw10 M=>W ?_
     refine CI M X GH λg14 w11 hg14 M=>BY M 0 X X BQ X λw12 M=>W ?_
     refine AB X (λh65=>?_) (λh65=>?_)
     ·refine W ?_;refine AZ X X X ?_;have hwe:(HH vars t.born ((AF m.els k).getD zeroEl)).2=100:=by rw [HH,if_pos h56,if_pos h65]
      have hwp:GC m vars t=([],100):=by rw [GC,AM h19,hE,AG hk,Q2,if_pos (by rw [hwe];decide),hwe]
      rw [hwp];exact ⟨none,0,X,World.ownsRow_nil _ _ _ _,M.fr⟩
     have h65p:=BO h65;refine W ?_;refine AB X (λh68=>?_) (λh68=>?_)
     ·refine W ?_;refine AZ X X X ?_;have hwe:(HH vars t.born ((AF m.els k).getD zeroEl)).2=90:=by rw [HH,if_pos h56,AM h65,if_pos h68]
      have hwp:GC m vars t=([],90):=by rw [GC,AM h19,hE,AG hk,Q2,if_pos (by rw [hwe];decide),hwe]
      rw [hwp];exact ⟨none,0,X,World.ownsRow_nil _ _ _ _,M.fr⟩
     have h68p:=(odt (BO h68));refine W ?_;refine gp1 M 1 X X X GW λw13 M=>W ?_
     refine ya X (AI (xs:=[str (((AF m.els k).getD zeroEl).id),.int .u8 (((AF m.els k).getD zeroEl).ev.toNat:Int),str (((AF m.els k).getD zeroEl).ref),str (((EK vars (((AF m.els k).getD zeroEl).key)).getD zeroVl).text),AA ((IntKind.i64).wrap (t.born+((AF m.els k).getD zeroEl).ticks))]) X X (M.rdBlk 1 X X) Cy X C9) (CV M kw X X [.agg #[str (((AF m.els k).getD zeroEl).id),.int .u8 (((AF m.els k).getD zeroEl).ev.toNat:Int),str (((AF m.els k).getD zeroEl).ref),str (((EK vars (((AF m.els k).getD zeroEl).key)).getD zeroVl).text),AA ((IntKind.i64).wrap (t.born+((AF m.els k).getD zeroEl).ticks))]] ([str (((AF m.els k).getD zeroEl).id),.int .u8 (((AF m.els k).getD zeroEl).ev.toNat:Int),str (((AF m.els k).getD zeroEl).ref),str (((EK vars (((AF m.els k).getD zeroEl).key)).getD zeroVl).text),AA ((IntKind.i64).wrap (t.born+((AF m.els k).getD zeroEl).ticks))]) X X X X Eh JI X X (GT X) X λg74 w14 hg74 M=>CN (len':=(acc++[(⟨(((AF m.els k).getD zeroEl).id),(((AF m.els k).getD zeroEl).ev),(((AF m.els k).getD zeroEl).ref),(((EK vars (((AF m.els k).getD zeroEl).key)).getD zeroVl).text),((IntKind.i64).wrap (t.born+((AF m.els k).getD zeroEl).ticks))⟩:Wt)]).length) (xs':=AE Wt.cells (acc++[(⟨(((AF m.els k).getD zeroEl).id),(((AF m.els k).getD zeroEl).ev),(((AF m.els k).getD zeroEl).ref),(((EK vars (((AF m.els k).getD zeroEl).key)).getD zeroVl).text),((IntKind.i64).wrap (t.born+((AF m.els k).getD zeroEl).ticks))⟩:Wt)])) M 4 kw X X X X X X (M.rdBlk 0 X X) Eh IF X AV (BW X) (Ab _) (Ab _) DC (by unfold maxLen;first|omega|(simp;omega)) (by first|(simp;done)|(simp;omega)) (by first|exact (B3 _ _ _).symm|rfl|simp [AE,Wt.cells]) λA75 c75 w15 M=>W ?_);refine fag ⟨i+1,acc++[(⟨(((AF m.els k).getD zeroEl).id),(((AF m.els k).getD zeroEl).ev),(((AF m.els k).getD zeroEl).ref),(((EK vars (((AF m.els k).getD zeroEl).key)).getD zeroVl).text),((IntKind.i64).wrap (t.born+((AF m.els k).getD zeroEl).ticks))⟩:Wt)],A75,c75,X,(M.pk [4,5,6,7]),?_,?_,?_,X⟩
     ·omega
     ·exact ⟨by rw [hacc.1,AS hk,Ck,Gb,HH,jJ,if_pos h56,AM h65,AM h68,if_pos h47],by rw [Ah,hacc.2];rfl⟩
     rw [hE,AG hk,Q2,if_neg];rw [HH,if_pos h56,AM h65,AM h68];simp
    have h56p:=odf h56;refine W ?_;refine CH M 0 X X Cy C9 X (CV M kw X X [.agg #[str (((AF m.els k).getD zeroEl).id),.int .u8 (((AF m.els k).getD zeroEl).ev.toNat:Int),str (((AF m.els k).getD zeroEl).ref),str [],AA ((IntKind.i64).wrap (t.born+((AF m.els k).getD zeroEl).ticks))]] ([str (((AF m.els k).getD zeroEl).id),.int .u8 (((AF m.els k).getD zeroEl).ev.toNat:Int),str (((AF m.els k).getD zeroEl).ref),str [],AA ((IntKind.i64).wrap (t.born+((AF m.els k).getD zeroEl).ticks))]) X X X X Eh JI X X (GT X) X λg74 w16 hg74 M=>CN (len':=(acc++[(⟨(((AF m.els k).getD zeroEl).id),(((AF m.els k).getD zeroEl).ev),(((AF m.els k).getD zeroEl).ref),[],((IntKind.i64).wrap (t.born+((AF m.els k).getD zeroEl).ticks))⟩:Wt)]).length) (xs':=AE Wt.cells (acc++[(⟨(((AF m.els k).getD zeroEl).id),(((AF m.els k).getD zeroEl).ev),(((AF m.els k).getD zeroEl).ref),[],((IntKind.i64).wrap (t.born+((AF m.els k).getD zeroEl).ticks))⟩:Wt)])) M 3 kw X X X X X X (M.rdBlk 0 X X) Eh IF X AV (BW X) (Ab _) (Ab _) DC (by unfold maxLen;first|omega|(simp;omega)) (by first|(simp;done)|(simp;omega)) (by first|exact (B3 _ _ _).symm|rfl|simp [AE,Wt.cells]) λA75 c75 w17 M=>W ?_);refine fag ⟨i+1,acc++[(⟨(((AF m.els k).getD zeroEl).id),(((AF m.els k).getD zeroEl).ev),(((AF m.els k).getD zeroEl).ref),[],((IntKind.i64).wrap (t.born+((AF m.els k).getD zeroEl).ticks))⟩:Wt)],A75,c75,X,(M.pk [3,4,5,6]),?_,?_,?_,X⟩
    ·omega
    ·exact ⟨by rw [hacc.1,AS hk,Ck,Gb,HH,jJ,AM h56,if_pos h47],by rw [Ah,hacc.2];rfl⟩
    rw [hE,AG hk,Q2,if_neg];rw [HH,AM h56];simp
   have h47p:=odf h47;refine W ?_;refine AB X (λh56=>?_) (λh56=>?_)
   ·have h56p:=odt h56;refine W ?_;refine CW M 61 X X call53 (RL _ _ vars (((AF m.els k).getD zeroEl).key) _ A0 (hV.fr0 M.fr)) λw18 M=>W ?_
    refine CI M X GH λg14 w19 hg14 M=>BY M 0 X X BQ X λw20 M=>W ?_
    refine AB X (λh65=>?_) (λh65=>?_)
    ·refine W ?_;refine AZ X X X ?_;have hwe:(HH vars t.born ((AF m.els k).getD zeroEl)).2=100:=by rw [HH,if_pos h56,if_pos h65]
     have hwp:GC m vars t=([],100):=by rw [GC,AM h19,hE,AG hk,Q2,if_pos (by rw [hwe];decide),hwe]
     rw [hwp];exact ⟨none,0,X,World.ownsRow_nil _ _ _ _,M.fr⟩
    have h65p:=BO h65;refine W ?_;refine AB X (λh68=>?_) (λh68=>?_)
    ·refine W ?_;refine AZ X X X ?_;have hwe:(HH vars t.born ((AF m.els k).getD zeroEl)).2=90:=by rw [HH,if_pos h56,AM h65,if_pos h68]
     have hwp:GC m vars t=([],90):=by rw [GC,AM h19,hE,AG hk,Q2,if_pos (by rw [hwe];decide),hwe]
     rw [hwp];exact ⟨none,0,X,World.ownsRow_nil _ _ _ _,M.fr⟩
    have h68p:=(odt (BO h68));refine W ?_;refine gp1 M 1 X X X GW λw21 M=>W ?_
    refine ya X (AI (xs:=[str (((AF m.els k).getD zeroEl).id),.int .u8 (((AF m.els k).getD zeroEl).ev.toNat:Int),str (((AF m.els k).getD zeroEl).ref),str (((EK vars (((AF m.els k).getD zeroEl).key)).getD zeroVl).text),AA 0]) X X (M.rdBlk 1 X X) Cy X C9) (CV M kw X X [.agg #[str (((AF m.els k).getD zeroEl).id),.int .u8 (((AF m.els k).getD zeroEl).ev.toNat:Int),str (((AF m.els k).getD zeroEl).ref),str (((EK vars (((AF m.els k).getD zeroEl).key)).getD zeroVl).text),AA 0]] ([str (((AF m.els k).getD zeroEl).id),.int .u8 (((AF m.els k).getD zeroEl).ev.toNat:Int),str (((AF m.els k).getD zeroEl).ref),str (((EK vars (((AF m.els k).getD zeroEl).key)).getD zeroVl).text),AA 0]) X X X X Eh JI X X (GT X) X λg74 w22 hg74 M=>CN (len':=(acc++[(⟨(((AF m.els k).getD zeroEl).id),(((AF m.els k).getD zeroEl).ev),(((AF m.els k).getD zeroEl).ref),(((EK vars (((AF m.els k).getD zeroEl).key)).getD zeroVl).text),0⟩:Wt)]).length) (xs':=AE Wt.cells (acc++[(⟨(((AF m.els k).getD zeroEl).id),(((AF m.els k).getD zeroEl).ev),(((AF m.els k).getD zeroEl).ref),(((EK vars (((AF m.els k).getD zeroEl).key)).getD zeroVl).text),0⟩:Wt)])) M 4 kw X X X X X X (M.rdBlk 0 X X) Eh IF X AV (BW X) (Ab _) (Ab _) DC (by unfold maxLen;first|omega|(simp;omega)) (by first|(simp;done)|(simp;omega)) (by first|exact (B3 _ _ _).symm|rfl|simp [AE,Wt.cells]) λA75 c75 w23 M=>W ?_);refine fag ⟨i+1,acc++[(⟨(((AF m.els k).getD zeroEl).id),(((AF m.els k).getD zeroEl).ev),(((AF m.els k).getD zeroEl).ref),(((EK vars (((AF m.els k).getD zeroEl).key)).getD zeroVl).text),0⟩:Wt)],A75,c75,X,(M.pk [4,5,6,7]),?_,?_,?_,X⟩
    ·omega
    ·exact ⟨by rw [hacc.1,AS hk,Ck,Gb,HH,jJ,if_pos h56,AM h65,AM h68,AM h47],by rw [Ah,hacc.2];rfl⟩
    rw [hE,AG hk,Q2,if_neg];rw [HH,if_pos h56,AM h65,AM h68];simp
   have h56p:=odf h56;refine W ?_;refine CH M 0 X X Cy C9 X (CV M kw X X [.agg #[str (((AF m.els k).getD zeroEl).id),.int .u8 (((AF m.els k).getD zeroEl).ev.toNat:Int),str (((AF m.els k).getD zeroEl).ref),str [],AA 0]] ([str (((AF m.els k).getD zeroEl).id),.int .u8 (((AF m.els k).getD zeroEl).ev.toNat:Int),str (((AF m.els k).getD zeroEl).ref),str [],AA 0]) X X X X Eh JI X X (GT X) X λg74 w24 hg74 M=>CN (len':=(acc++[(⟨(((AF m.els k).getD zeroEl).id),(((AF m.els k).getD zeroEl).ev),(((AF m.els k).getD zeroEl).ref),[],0⟩:Wt)]).length) (xs':=AE Wt.cells (acc++[(⟨(((AF m.els k).getD zeroEl).id),(((AF m.els k).getD zeroEl).ev),(((AF m.els k).getD zeroEl).ref),[],0⟩:Wt)])) M 3 kw X X X X X X (M.rdBlk 0 X X) Eh IF X AV (BW X) (Ab _) (Ab _) DC (by unfold maxLen;first|omega|(simp;omega)) (by first|(simp;done)|(simp;omega)) (by first|exact (B3 _ _ _).symm|rfl|simp [AE,Wt.cells]) λA75 c75 w25 M=>W ?_);refine fag ⟨i+1,acc++[(⟨(((AF m.els k).getD zeroEl).id),(((AF m.els k).getD zeroEl).ev),(((AF m.els k).getD zeroEl).ref),[],0⟩:Wt)],A75,c75,X,(M.pk [3,4,5,6]),?_,?_,?_,X⟩
   ·omega
   ·exact ⟨by rw [hacc.1,AS hk,Ck,Gb,HH,jJ,AM h56,AM h47],by rw [Ah,hacc.2];rfl⟩
   rw [hE,AG hk,Q2,if_neg];rw [HH,AM h56];simp
  refine J2 M 12 CA λM=>oa 0 12 X X M (λ_ M=>AI (xs:=Md.cells m a) X X (M.rdBlk 3 X X) Al X AN) (oc 1 12 X X M (oc 2 12 X X M (oa 3 12 X X M (λ_ M=>AK i hA_k X X X (sl X) A0) (ol 4 12 X X X M (λ_ M=>(BD DI (M.rdOwn 1 X) hA_k hk 0 X)) (G3 (rs:=[5,9]) gkr (by simp) λiz hiz=>?_)))))
  simp only [Ak,Ax,or_false] at hiz
  rcases hiz with rfl|rfl
  ·refine HU (some 35) X kw X X (AD X X call52) (E7 m a _ _ ho.b (hm.fr0 M.fr)) ?_;rintro _ w26 ⟨rfl,hfw26⟩;refine ⟨_,X,λ_=>M.step hfw26,?_⟩;have M:=M.step hfw26;refine oc 6 12 X X M (oc 7 12 X X M (oc 8 12 X X M (B5 9 (some 11) gkr X kw X X (λρ hρ=>BN 106 X _ [str [],str [],.int .u8 0,str [],str [],str [],.int .u8 0,str [],str [],AA 0,AA 0] AP X) ?_)));rintro _ w27 ⟨g11,rfl,hg11,hq11,hb11,hfw27⟩;refine ⟨λ_=>M.step hfw27,?_⟩;have M:=M.push hfw27 _ hb11 (CU hg11 hq11)
   replace M:Mem w AR (As.blk g11 106 [str [],str [],.int .u8 0,str [],str [],str [],.int .u8 0,str [],str [],AA 0,AA 0]::_) w27:=M
   exact fop M 10 0 X X X AJ X (·.drop 1) λw28 M=>oc 11 12 X X (M.drop 1) (fdn (kr8 g11 _ _ M ⟨X,X,X,X,X,X,X,trivial⟩))
  refine E0 (some 11) X kw X X (λρ hρ=>BN 106 X _ [str [],str [],.int .u8 0,str [],str [],str [],.int .u8 0,str [],str [],AA 0,AA 0] AP X) ?_;rintro _ w29 ⟨g11,rfl,hg11,hq11,hb11,hfw29⟩;refine ⟨λ_=>M.step hfw29,?_⟩;have M:=M.push hfw29 _ hb11 (CU hg11 hq11)
  replace M:Mem w AR (As.blk g11 106 [str [],str [],.int .u8 0,str [],str [],str [],.int .u8 0,str [],str [],AA 0,AA 0]::_) w29:=M
  refine BC 5 (some 35) gkr X kw X X (AD X X call52) (E7 m a _ _ ho.b (hm.fr0 M.fr)) ?_;rintro _ w30 ⟨rfl,hfw30⟩;refine ⟨_,X,λ_=>(M.drop 1).step hfw30,?_⟩;have M:=M.step hfw30;exact oc 6 12 X X (M.drop 1) (oc 7 12 X X (M.drop 1) (oc 8 12 X X (M.drop 1) (fop M 10 0 X X X AJ X (·.drop 1) λw31 M=>oc 11 12 X X (M.drop 1) (fdn (kr8 g11 _ _ M ⟨X,X,X,X,X,X,X,trivial⟩)))))
 have h26p:=odf h26;refine W ?_;have hiE:i=(FM m t).length:=by omega
 have hac:=hacc.1;rw [hiE,Ba] at hac
 have hLe:Q2 m t vars (FM m t)=none:=by rw [hE,hiE,Am];rfl
 refine W ?_;refine AZ X X X ?_;have hwp:GC m vars t=(acc,0):=by rw [GC,AM h19,hLe,hac]
 rw [hwp];exact ⟨_,_,X,M.own 0 X,M.fr⟩
end Go.Proofs.YtppmdnmjepkfaaaGreatDoor
