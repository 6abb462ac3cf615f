/- Lemmas. -/
import Derived.Test.YtppmdnmjepkfaaaGreatDoorYRu5
set_option maxHeartbeats 16000000
set_option maxRecDepth 100000
namespace Go.Proofs.YtppmdnmjepkfaaaGreatDoor
open Go.RowKit
open Tryz
theorem MdB.b {m:Md} (h:MdB m):MdB m:=h
def D2 : List Fl→Kz→List Kz
 | [],_=>[]
 | x::r,k=>if x.tg=k then x.id::D2 r k else D2 r k
def BJ : List Fl→Kz→List Kz
 | [],_=>[]
 | x::r,k=>if x.frm=k then x.id::BJ r k else BJ r k
def HT (id:Kz):Nat→Nat→List El→Bool
 | s,t,[]=>decide ((s:Int)=1)&&decide ((1:Int)≤(t:Int))
 | s,t,x::r=>HT id (if (decide (x.inn=id)&&decide ((x.kind.toNat:Int)=1))=true then s+1 else s) (if (decide (x.inn=id)&&decide ((x.kind.toNat:Int)=2))=true then t+1 else t) r
def scopeR (l:List El) (id:Kz):Bool:=HT id 0 0 l
def EL (els:List El):Nat→El→List Kz
 | 0,_=>[]
 | f+1,y=>if y.inn=[] then [] else match AF els y.inn with
  | none=>[]
  | some x=>if x.kind.toNat=10 then x.id::EL els f x else []
def C2 (els:List El) (id:Kz):List Kz:=match AF els id with
 | none=>[]
 | some y=>EL els 64 y
theorem gL (els:List El) {y:El} {n:Nat} (h1:¬y.inn=[]) (hn:n<64) (h2:(AF els y.inn).isSome=true) (h3:(((AF els y.inn).getD zeroEl).kind.toNat:Int)=10):EL els (64-n) y=((AF els y.inn).getD zeroEl).id::EL els (64-(n+1)) ((AF els y.inn).getD zeroEl):=by
 rw [show 64-n=(64-(n+1))+1 by omega,EL,if_neg h1]
 cases hx:AF els y.inn with
 | none=>rw [hx] at h2;cases h2
 | some x=>
  rw [hx] at h3
  have h3':x.kind.toNat=10:=by simp only [Ct] at h3;omega
  simp only [if_pos h3',Ct]
theorem gK (els:List El) {y:El} {n:Nat} (h:(AF els y.inn).isSome=false∨¬(((AF els y.inn).getD zeroEl).kind.toNat:Int)=10):EL els n y=[]:=by
 cases n with
 | zero=>rfl
 | succ n=>
  rw [EL]
  split
  ·rfl
  cases hx:AF els y.inn with
  | none=>rfl
  | some x=>
   rw [hx] at h
   simp only [Option.isSome_some,Er,Ct,false_or] at h
   simp only
   rw [if_neg A0]
theorem jV (els:List El) {b:Bool} {y:El} {n:Nat} (h:(b=false∨y.inn=[])∨¬(n:Int)<64):(if b=true then EL els (64-n) y else [])=[]:=by
 rcases h with (h|h)|h
 ·rw [h];rfl
 ·split
  ·cases 64-n with
   | zero=>rfl
   | succ k=>rw [EL,if_pos h]
  rfl
 rw [show 64-n=0 by omega];split<;>rfl
theorem E7 (m:Md) (a:MdA) (id:Kz) (w:Kw) (ho:MdB m) (hm:MdIn w m a) :
 Calls prog 52 #[.agg (Md.cells m a).toArray,str id] w (BS w (.tuple #[.agg ((AF m.els id).getD zeroEl).cells.toArray,.bool (AF m.els id).isSome])):=by
 have hoi:=ho.id;have hon:=ho.nm;have hnv:=ho.nvars;have hne:=ho.nels;have hnf:=ho.nfls;refine BR func52 ntmps52 X λM=>W ?_
 refine CO M X X λg2 w1 hg2 M=>CI M X AP λg4 w2 hg4 M=>W ?_
 refine EF M [4,2,1] (λze zF e wr mz=>∃(i:Nat),e=(6,AA (i:Int))::ze∧zF wr∧(i≤m.els.length)∧(AF m.els id=AF (m.els.drop i) id)∧mz=m.els.length-i) ⟨0,X,M,Ae _,X,X⟩ ?_;rintro _ w3 _ ⟨i,rfl,M,hi,hr,rfl⟩;refine W ?_;refine AB X (λh11=>?_) (λh11=>?_)
 ·have h11p:=odt h11;refine W ?_;obtain ⟨x,_,_,hx,hA_x⟩:=ex5 (i:=i) (M.rd hm.els);refine ya X (AK i hA_x X X X (sl X) A0) (yb X (yl X X (BD El.len (M.rd hm.els) hA_x hx 0 X) (W ?_)));refine AB X (λh21=>?_) (λh21=>?_)
  ·have h21p:=odt h21;refine W ?_;refine ya X (AK i hA_x X X X (sl X) A0) (ya X (AI X X (BM El.len (M.rd hm.els) hA_x hx) Bf X AJ) (BY M 0 X X AJ X λw4 M=>W ?_));exact FQ X X (M.rdBlk 0 X X) Bf X AJ X ⟨by rw [hr,AG hx,AF,if_pos h21p];rfl,M.fr⟩
  have h21p:=odf h21;refine W ?_;refine fag ⟨i+1,X,M,?_,?_,X⟩
  ·omega
  rw [hr,AG hx,AF,if_neg h21p]
 have h11p:=odf h11;refine W ?_;refine ya X (B7 (parts:=[]) X X S8) (BY M 0 X X AJ X λw5 M=>W ?_);refine FQ X X (M.rdBlk 0 X X) Bf X AJ X ?_;obtain rfl:i=m.els.length:=by omega
 exact ⟨by rw [hr,Am];rfl,M.fr⟩
theorem aU (m:Md) (a:MdA) (id:Kz) (w:Kw) (ho:MdOk m) (hm:MdIn w m a) :
 Calls prog 50 #[.agg (Md.cells m a).toArray,str id] w λe w'=>∃A c,e=.returned (.slice A (D2 m.fls id).length c)∧w'.ownsRow w.heap.size 9 1 (.slice A (D2 m.fls id).length c) (D2 m.fls id).length (AE BG (D2 m.fls id))∧Fr0 w w':=by
 have hoi:=ho.id;have hon:=ho.nm;have hnv:=ho.nvars;have hne:=ho.nels;have hnf:=ho.nfls;refine BR func50 ntmps50 X λM=>V ?_
 refine CO M X X λg2 w1 hg2 M=>V ?_
 have M:=M.nilOwn 9 1;refine flp [2,1] (λze e wr mz=>∃(i:Nat) (acc:List Kz) (A:Ky) (c:Nat),e=(5,.slice A acc.length c)::(6,AA (i:Int))::ze∧Mem w AR [As.own w.heap.size 9 1 (.slice A acc.length c) acc.length (AE BG acc),As.blk g2 48 (Md.cells m a)] wr∧(i≤m.fls.length)∧(D2 m.fls id=acc++D2 (m.fls.drop i) id)∧(acc.length≤i)∧mz=m.fls.length-i) ⟨0,[],none,0,X,M,Ae _,X,Ae _,X⟩ ?_;rintro _ w2 _ ⟨i,acc,A,c,rfl,M,hi,hr,hl,rfl⟩;refine V ?_;refine FV M 1 X X X (UR X X (GB X X (V ?_)));refine AB X (λh11=>?_) (λh11=>?_)
 ·have h11p:=odt h11;refine V ?_;refine FV M 1 X X X (yb X ?_);obtain ⟨x,_,_,hx,hA_x⟩:=ex5 (i:=i) (M.rd hm.fls);refine ya X (AK i hA_x X X X (sl X) A0) (yb X (yl X X (BD Fl.len (M.rd hm.fls) hA_x hx 2 X) (yb X (ya X (GI X X X) (V ?_)))));refine AB X (λh21=>?_) (λh21=>?_)
  ·have h21p:=odt h21;refine V ?_;refine FV M 1 X X X (yb X (ya X (AK i hA_x X X X (sl X) A0) (yb X (yl X X (BD Fl.len (M.rd hm.fls) hA_x hx 0 X) (CV M kw X X [str x.id] ([str x.id]) X X X X Az CG X X (GT X) X λg29 w3 hg29 M=>CN (len':=(acc++[x.id]).length) (xs':=AE BG (acc++[x.id])) M 1 kw X X X X X X (M.rdBlk 0 X X) Az C0 X AV (BW X) (Ab _) (Ab _) DC (by unfold maxLen;first|omega|(simp;omega)) (by simp) (by first|exact (B3 _ _ _).symm|simp [AE,BG]) λA30 c30 w4 M=>V ?_)))));refine CZ X X (V ?_);refine fag ⟨i+1,acc++[x.id],A30,c30,X,(M.pk [1,2]),?_,?_,?_,X⟩
   ·omega
   ·first
     | rw [hr,AG hx,D2,if_pos (by assumption)];simp
     | rw [hr,AG hx,D2,if_neg (by assumption)]
   first|omega|(simp;omega)
  have h21p:=odf h21;refine V ?_;refine CZ X X (V ?_);refine fag ⟨i+1,acc,A,c,X,M,?_,?_,?_,X⟩
  ·omega
  ·first
    | rw [hr,AG hx,D2,if_pos (by assumption)];simp
    | rw [hr,AG hx,D2,if_neg (by assumption)]
  first|omega|(simp;omega)
 have h11p:=odf h11;refine V ?_;refine gr1 X ?_;obtain rfl:i=m.fls.length:=by omega
 rw [Am,D2,Bv] at hr
 subst hr;exact ⟨_,_,X,M.own 0 X,M.fr⟩
theorem OG (m:Md) (a:MdA) (id:Kz) (w:Kw) (ho:MdOk m) (hm:MdIn w m a) :
 Calls prog 101 #[.agg (Md.cells m a).toArray,str id] w λe w'=>∃A c,e=.returned (.slice A (BJ m.fls id).length c)∧w'.ownsRow w.heap.size 9 1 (.slice A (BJ m.fls id).length c) (BJ m.fls id).length (AE BG (BJ m.fls id))∧Fr0 w w':=by
 have hoi:=ho.id;have hon:=ho.nm;have hnv:=ho.nvars;have hne:=ho.nels;have hnf:=ho.nfls;refine BR func101 ntmps101 X λM=>V ?_
 refine CO M X X λg2 w1 hg2 M=>V ?_
 have M:=M.nilOwn 9 1;refine flp [2,1] (λze e wr mz=>∃(i:Nat) (acc:List Kz) (A:Ky) (c:Nat),e=(5,.slice A acc.length c)::(6,AA (i:Int))::ze∧Mem w AR [As.own w.heap.size 9 1 (.slice A acc.length c) acc.length (AE BG acc),As.blk g2 48 (Md.cells m a)] wr∧(i≤m.fls.length)∧(BJ m.fls id=acc++BJ (m.fls.drop i) id)∧(acc.length≤i)∧mz=m.fls.length-i) ⟨0,[],none,0,X,M,Ae _,X,Ae _,X⟩ ?_;rintro _ w2 _ ⟨i,acc,A,c,rfl,M,hi,hr,hl,rfl⟩;refine V ?_;refine FV M 1 X X X (UR X X (GB X X (V ?_)));refine AB X (λh11=>?_) (λh11=>?_)
 ·have h11p:=odt h11;refine V ?_;refine FV M 1 X X X (yb X ?_);obtain ⟨x,_,_,hx,hA_x⟩:=ex5 (i:=i) (M.rd hm.fls);refine ya X (AK i hA_x X X X (sl X) A0) (yb X (yl X X (BD Fl.len (M.rd hm.fls) hA_x hx 1 X) (yb X (ya X (GI X X X) (V ?_)))));refine AB X (λh21=>?_) (λh21=>?_)
  ·have h21p:=odt h21;refine V ?_;refine FV M 1 X X X (yb X (ya X (AK i hA_x X X X (sl X) A0) (yb X (yl X X (BD Fl.len (M.rd hm.fls) hA_x hx 0 X) (CV M kw X X [str x.id] ([str x.id]) X X X X Az CG X X (GT X) X λg29 w3 hg29 M=>CN (len':=(acc++[x.id]).length) (xs':=AE BG (acc++[x.id])) M 1 kw X X X X X X (M.rdBlk 0 X X) Az C0 X AV (BW X) (Ab _) (Ab _) DC (by unfold maxLen;first|omega|(simp;omega)) (by simp) (by first|exact (B3 _ _ _).symm|simp [AE,BG]) λA30 c30 w4 M=>V ?_)))));refine CZ X X (V ?_);refine fag ⟨i+1,acc++[x.id],A30,c30,X,(M.pk [1,2]),?_,?_,?_,X⟩
   ·omega
   ·first
     | rw [hr,AG hx,BJ,if_pos (by assumption)];simp
     | rw [hr,AG hx,BJ,if_neg (by assumption)]
   first|omega|(simp;omega)
  have h21p:=odf h21;refine V ?_;refine CZ X X (V ?_);refine fag ⟨i+1,acc,A,c,X,M,?_,?_,?_,X⟩
  ·omega
  ·first
    | rw [hr,AG hx,BJ,if_pos (by assumption)];simp
    | rw [hr,AG hx,BJ,if_neg (by assumption)]
  first|omega|(simp;omega)
 have h11p:=odf h11;refine V ?_;refine gr1 X ?_;obtain rfl:i=m.fls.length:=by omega
 rw [Am,BJ,Bv] at hr
 subst hr;exact ⟨_,_,X,M.own 0 X,M.fr⟩
def MP (l:Kz):Bool:=((decide (((l.length:Nat):Int)≤(1024:Int)))&&(utf l))
theorem dO (l:Kz) (w:Kw) (hl:(l.length:Int)<4611686018427387904) :
 Calls prog 159 #[str l] w (BS w (.bool (MP l))):=by
 refine BR func159 ntmps159 X λM=>W ?_
 refine ya X (BT X X Aa) (W ?_);refine fvm M 3 [2] [(9,.bool ((decide ((l.length:Int)≤1024))&&(utf l)))] ?_ (λk6=>?_)
 ·intro w1 M;refine W ?_;exact gr1 X ⟨by rw [MP],M.fr⟩
 refine A1 (d:=6) X (λh6=>?_) (λh6=>?_)
 ·refine gyq X (sxl_call (some 8) kw X X (AD X X call63) (Q4 _ _ A0) ?_);rintro _ w2 ⟨rfl,hfw2⟩;refine cq ?_;have M:=M.step hfw2;exact yb X (k6 M)
 refine T3 ?_;exact k6 M
def TD (x:El):Bool:=(if ((decide ((x.kind.toNat:Int)<(1:Int))) || (decide ((10:Int)<(x.kind.toNat:Int))))=true then false else (if (((decide ((x.kind.toNat:Int)=(4:Int)))&&((decide (x.tries<(1:Int))) || (decide ((100:Int)<x.tries)))) || ((!decide ((x.kind.toNat:Int)=(4:Int)))&&(!decide (x.tries=(0:Int)))))=true then false else (if (((!decide ((x.kind.toNat:Int)=(5:Int)))&&(!decide (x.dflt=[]))) || ((!decide ((x.kind.toNat:Int)=(9:Int)))&&(!decide (x.att=[]))))=true then false else (if ((!decide ((x.kind.toNat:Int)=(8:Int)))&&(!decide ((x.kind.toNat:Int)=(9:Int))))=true then ((((decide ((x.ev.toNat:Int)=(0:Int)))&&(decide (x.ref=[])))&&(decide (x.key=[])))&&(decide (x.ticks=(0:Int)))) else (if (decide ((x.ev.toNat:Int)=(1:Int)))=true then ((((decide (x.ref=[]))&&(decide (x.key=[])))&&(decide ((1:Int)≤x.ticks)))&&(decide (x.ticks≤(1048576:Int)))) else (if (decide ((x.ev.toNat:Int)=(2:Int)))=true then (((B6 x.ref)&&(B6 x.key))&&(decide (x.ticks=(0:Int)))) else (if (decide ((x.ev.toNat:Int)=(3:Int)))=true then (((B6 x.ref)&&(decide (x.key=[])))&&(decide (x.ticks=(0:Int)))) else false)))))))
theorem xX (x:El) (w:Kw) (ox:ElOk x) :
 Calls prog 160 #[.agg x.cells.toArray] w (BS w (.bool (TD x))):=by
 have ox3:=ox.ref;have ox4:=ox.key;refine BR func160 ntmps160 X λM=>W ?_
 refine CO M X X λg1 w1 hg1 M=>W ?_
 refine fvm M 4 [1] [(10,.bool ((decide ((x.kind.toNat:Int)<1)) || (decide (10<(x.kind.toNat:Int)))))] ?_ (λk6=>?_)
 ·intro w2 M;refine W ?_;refine AB X (λh10=>?_) (λh10=>?_)
  ·have h10p:=bd h10;refine W ?_;exact gr1 X ⟨by rw [TD,if_pos h10],M.fr⟩
  have h10p:=bd h10;refine W ?_;refine fvm M 9 [1] [(23,.bool ((decide ((x.kind.toNat:Int)=4))&&((decide (x.tries<(1:Int))) || (decide ((100:Int)<x.tries)))))] ?_ (λk14=>?_)
  ·intro w3 M;refine yb X (fvm M 9 [1] [(33,.bool (((decide ((x.kind.toNat:Int)=4))&&((decide (x.tries<(1:Int))) || (decide ((100:Int)<x.tries)))) || ((!decide ((x.kind.toNat:Int)=4))&&(!decide (x.tries=(0:Int))))))] ?_ (λk24=>?_))
   ·intro w4 M;refine W ?_;refine AB X (λh33=>?_) (λh33=>?_)
    ·have h33p:=bd h33;refine W ?_;exact gr1 X ⟨by rw [TD,AM h10,if_pos h33],M.fr⟩
    have h33p:=bd h33;refine W ?_;refine fvm M 4 [1] [(41,.bool ((!decide ((x.kind.toNat:Int)=5))&&(!decide (x.dflt=[]))))] ?_ (λk37=>?_)
    ·intro w5 M;refine yb X (fvm M 9 [1] [(51,.bool (((!decide ((x.kind.toNat:Int)=5))&&(!decide (x.dflt=[]))) || ((!decide ((x.kind.toNat:Int)=9))&&(!decide (x.att=[])))))] ?_ (λk42=>?_))
     ·intro w6 M;refine W ?_;refine AB X (λh51=>?_) (λh51=>?_)
      ·have h51p:=bd h51;refine W ?_;exact gr1 X ⟨by rw [TD,AM h10,AM h33,if_pos h51],M.fr⟩
      have h51p:=bd h51;refine W ?_;refine fvm M 4 [1] [(59,.bool ((!decide ((x.kind.toNat:Int)=8))&&(!decide ((x.kind.toNat:Int)=9))))] ?_ (λk55=>?_)
      ·intro w7 M;refine W ?_;refine AB X (λh59=>?_) (λh59=>?_)
       ·refine W ?_;refine fvm M 4 [1] [(67,.bool ((decide ((x.ev.toNat:Int)=0))&&(decide (x.ref=[]))))] ?_ (λk63=>?_)
        ·intro w8 M;refine yb X (fvm M 4 [1] [(72,.bool (((decide ((x.ev.toNat:Int)=0))&&(decide (x.ref=[])))&&(decide (x.key=[]))))] ?_ (λk68=>?_))
         ·intro w9 M;refine yb X (fvm M 4 [] [(77,.bool ((((decide ((x.ev.toNat:Int)=0))&&(decide (x.ref=[])))&&(decide (x.key=[])))&&(decide (x.ticks=(0:Int)))))] ?_ (λk73=>?_))
          ·intro w10 M;refine W ?_;exact gr1 X ⟨by rw [TD,AM h10,AM h33,AM h51,if_pos h59],M.fr⟩
          refine A1 (d:=73) X (λh73=>?_) (λh73=>?_)
          ·refine T4 ?_;exact k73 M
          refine T4 ?_;exact k73 M
         refine A1 (d:=68) X (λh68=>?_) (λh68=>?_)
         ·refine T4 ?_;exact k68 M
         refine T4 ?_;exact k68 M
        refine A1 (d:=63) X (λh63=>?_) (λh63=>?_)
        ·refine T4 ?_;exact k63 M
        refine T4 ?_;exact k63 M
       have h59p:=bd h59;refine W ?_;refine AB X (λh80=>?_) (λh80=>?_)
       ·refine W ?_;refine fvm M 4 [1] [(89,.bool ((decide (x.ref=[]))&&(decide (x.key=[]))))] ?_ (λk85=>?_)
        ·intro w11 M;refine yb X (fvm M 4 [1] [(94,.bool (((decide (x.ref=[]))&&(decide (x.key=[])))&&(decide ((1:Int)≤x.ticks))))] ?_ (λk90=>?_))
         ·intro w12 M;refine yb X (fvm M 4 [] [(99,.bool ((((decide (x.ref=[]))&&(decide (x.key=[])))&&(decide ((1:Int)≤x.ticks)))&&(decide (x.ticks≤(1048576:Int)))))] ?_ (λk95=>?_))
          ·intro w13 M;refine W ?_;exact gr1 X ⟨by rw [TD,AM h10,AM h33,AM h51,AM h59,if_pos h80],M.fr⟩
          refine A1 (d:=95) X (λh95=>?_) (λh95=>?_)
          ·refine T4 ?_;exact k95 M
          refine T4 ?_;exact k95 M
         refine A1 (d:=90) X (λh90=>?_) (λh90=>?_)
         ·refine T4 ?_;exact k90 M
         refine T4 ?_;exact k90 M
        refine A1 (d:=85) X (λh85=>?_) (λh85=>?_)
        ·refine T4 ?_;exact k85 M
        refine T4 ?_;exact k85 M
       have h80p:=odf h80;refine W ?_;refine AB X (λh100=>?_) (λh100=>?_)
       ·have h100p:=odt h100;refine W ?_;refine JB kw X X (AD X X call34) (G7 _ _ A0) (yb X (fvm M 4 [1] [(109,.bool ((B6 x.ref)&&(B6 x.key)))] ?_ (λk105=>?_)))
        ·intro w14 M;refine yb X (fvm M 4 [] [(114,.bool (((B6 x.ref)&&(B6 x.key))&&(decide (x.ticks=(0:Int)))))] ?_ (λk110=>?_))
         ·intro w15 M;refine W ?_;exact gr1 X ⟨by rw [TD,AM h10,AM h33,AM h51,AM h59,AM h80,if_pos h100],M.fr⟩
         refine A1 (d:=110) X (λh110=>?_) (λh110=>?_)
         ·refine T4 ?_;exact k110 M
         refine T4 ?_;exact k110 M
        refine A1 (d:=105) X (λh105=>?_) (λh105=>?_)
        ·refine W ?_;exact JB kw X X (AD X X call34) (G7 _ _ A0) (yb X (k105 M))
        refine T4 ?_;exact k105 M
       have h100p:=odf h100;refine W ?_;refine AB X (λh115=>?_) (λh115=>?_)
       ·have h115p:=odt h115;refine W ?_;refine JB kw X X (AD X X call34) (G7 _ _ A0) (yb X (fvm M 4 [1] [(124,.bool ((B6 x.ref)&&(decide (x.key=[]))))] ?_ (λk120=>?_)))
        ·intro w16 M;refine yb X (fvm M 4 [] [(129,.bool (((B6 x.ref)&&(decide (x.key=[])))&&(decide (x.ticks=(0:Int)))))] ?_ (λk125=>?_))
         ·intro w17 M;refine W ?_;exact gr1 X ⟨by rw [TD,AM h10,AM h33,AM h51,AM h59,AM h80,AM h100,if_pos h115],M.fr⟩
         refine A1 (d:=125) X (λh125=>?_) (λh125=>?_)
         ·refine T4 ?_;exact k125 M
         refine T4 ?_;exact k125 M
        refine A1 (d:=120) X (λh120=>?_) (λh120=>?_)
        ·refine T4 ?_;exact k120 M
        refine T4 ?_;exact k120 M
       refine W ?_;exact gr1 X ⟨by rw [TD,AM h10,AM h33,AM h51,AM h59,AM h80,AM h100,AM h115],M.fr⟩
      refine A1 (d:=55) X (λh55=>?_) (λh55=>?_)
      ·refine T4 ?_;exact k55 M
      refine T4 ?_;exact k55 M
     refine A1 (d:=42) X (λh42=>?_) (λh42=>?_)
     ·refine T9 ?_;exact k42 M
     refine W ?_;refine fvm M 4 [42,1] [(50,.bool ((!decide ((x.kind.toNat:Int)=9))&&(!decide (x.att=[]))))] ?_ (λk46=>?_)
     ·intro w18 M;exact yb X (k42 M)
     refine A1 (d:=46) X (λh46=>?_) (λh46=>?_)
     ·refine T4 ?_;exact k46 M
     refine T4 ?_;exact k46 M
    refine A1 (d:=37) X (λh37=>?_) (λh37=>?_)
    ·refine T4 ?_;exact k37 M
    refine T4 ?_;exact k37 M
   refine A1 (d:=24) X (λh24=>?_) (λh24=>?_)
   ·refine T9 ?_;exact k24 M
   refine W ?_;refine fvm M 4 [24,1] [(32,.bool ((!decide ((x.kind.toNat:Int)=4))&&(!decide (x.tries=(0:Int)))))] ?_ (λk28=>?_)
   ·intro w19 M;exact yb X (k24 M)
   refine A1 (d:=28) X (λh28=>?_) (λh28=>?_)
   ·refine T4 ?_;exact k28 M
   refine T4 ?_;exact k28 M
  refine A1 (d:=14) X (λh14=>?_) (λh14=>?_)
  ·refine W ?_;refine fvm M 4 [14,1] [(22,.bool ((decide (x.tries<(1:Int))) || (decide ((100:Int)<x.tries))))] ?_ (λk18=>?_)
   ·intro w20 M;exact yb X (k14 M)
   refine A1 (d:=18) X (λh18=>?_) (λh18=>?_)
   ·refine T4 ?_;exact k18 M
   refine T4 ?_;exact k18 M
  refine T9 ?_;exact k14 M
 refine A1 (d:=6) X (λh6=>?_) (λh6=>?_)
 ·refine T4 ?_;exact k6 M
 refine T4 ?_;exact k6 M
theorem Z7 (m:Md) (a:MdA) (id:Kz) (w:Kw) (ho:MdOk m) (hm:MdIn w m a) :
 Calls prog 161 #[.agg (Md.cells m a).toArray,str id] w (BS w (.bool (scopeR m.els id))):=by
 have hoi:=ho.id;have hon:=ho.nm;have hnv:=ho.nvars;have hne:=ho.nels;have hnf:=ho.nfls;refine BR func161 ntmps161 X λM=>W ?_
 refine CO M X X λg2 w1 hg2 M=>W ?_
 refine EF M [2,1] (λze zF e wr mz=>∃(i:Nat) (s:Nat) (t:Nat),e=(5,AA (s:Int))::(6,AA (t:Int))::(7,AA (i:Int))::ze∧zF wr∧(i≤m.els.length)∧(s≤i)∧(t≤i)∧(scopeR m.els id=HT id s t (m.els.drop i))∧mz=m.els.length-i) ⟨0,0,0,X,M,Ae _,Ae _,Ae _,X,X⟩ ?_;rintro _ w2 _ ⟨i,s,t,rfl,M,hi,hs,ht,hr,rfl⟩;refine W ?_;refine AB X (λh12=>?_) (λh12=>?_)
 ·have h12p:=odt h12;refine W ?_;obtain ⟨x,_,_,hx,hA_x⟩:=ex5 (i:=i) (M.rd hm.els);refine ya X (AK i hA_x X X X (sl X) A0) (yb X (yl X X (BD El.len (M.rd hm.els) hA_x hx 3 X) (W ?_)));refine fvm M 8 [7,6,5,2,1] [(31,.bool ((decide (x.inn=id))&&(decide ((x.kind.toNat:Int)=1))))] ?_ (λk23=>?_)
  ·intro w3 M;refine W ?_;refine K5 [(1,str id),(2,pg g2),(5,AA ((if ((decide (x.inn=id))&&(decide ((x.kind.toNat:Int)=1))) then s+1 else s:Nat):Int)),(6,AA (t:Int)),(7,AA (i:Int))] (λw'=>Mem w AR [As.blk g2 48 (Md.cells m a)] w') ?_ (λk31=>?_)
   ·intro w4 M;refine W ?_;refine ya X (AK i hA_x X X X (sl X) A0) (yb X (yl X X (BD El.len (M.rd hm.els) hA_x hx 3 X) (W ?_)));refine fvm M 8 [7,6,5,2,1] [(50,.bool ((decide (x.inn=id))&&(decide ((x.kind.toNat:Int)=2))))] ?_ (λk42=>?_)
    ·intro w5 M;refine W ?_;refine AB X (λh50=>?_) (λh50=>?_)
     ·have h50p:=bd h50;refine W ?_;refine fag ⟨i+1,if ((decide (x.inn=id))&&(decide ((x.kind.toNat:Int)=1))) then s+1 else s,t+1,rfl,M,?_,?_,?_,?_,rfl⟩
      ·omega
      ·first|omega|(split<;>omega)
      ·first|omega|(split<;>omega)
      first|rw [hr,AG hx,HT,if_pos h50]|rw [hr,AG hx,HT,AM h50]
     have h50p:=bd h50;refine W ?_;refine fag ⟨i+1,if ((decide (x.inn=id))&&(decide ((x.kind.toNat:Int)=1))) then s+1 else s,t,rfl,M,?_,?_,?_,?_,rfl⟩
     ·omega
     ·first|omega|(split<;>omega)
     ·first|omega|(split<;>omega)
     first|rw [hr,AG hx,HT,if_pos h50]|rw [hr,AG hx,HT,AM h50]
    refine A1 (d:=42) X (λh42=>?_) (λh42=>?_)
    ·refine W ?_;refine yd X (AK i hA_x X X X (sl X) A0) (gyq X (ym X X (BD El.len (M.rd hm.els) hA_x hx 2 X) (T2 ?_)));exact k42 M
    refine T8 ?_;exact k42 M
   refine AB X (λh31=>?_) (λh31=>?_)
   ·refine T5 ?_;exact k31 _ _ M ⟨X,X,(by rw [h31];rfl),X,X,trivial⟩
   exact sx_skip (k31 _ _ M ⟨X,X,(by rw [h31];rfl),X,X,trivial⟩)
  refine A1 (d:=23) X (λh23=>?_) (λh23=>?_)
  ·refine W ?_;refine yd X (AK i hA_x X X X (sl X) A0) (gyq X (ym X X (BD El.len (M.rd hm.els) hA_x hx 2 X) (T2 ?_)));exact k23 M
  refine T8 ?_;exact k23 M
 have h12p:=odf h12;refine W ?_;refine fvm M 3 [] [(58,.bool ((decide ((s:Int)=1))&&(decide (1≤(t:Int)))))] ?_ (λk55=>?_)
 ·intro w6 M;refine W ?_;refine gr1 X ?_;obtain rfl:i=m.els.length:=by omega
  exact ⟨by rw [hr,Am];rfl,M.fr⟩
 refine A1 (d:=55) X (λh55=>?_) (λh55=>?_)
 ·refine T3 ?_;exact k55 M
 refine T3 ?_;exact k55 M
theorem NI (m:Md) (a:MdA) (id:Kz) (w:Kw) (ho:MdOk m) (hm:MdIn w m a) :
 Calls prog 104 #[.agg (Md.cells m a).toArray,str id] w λe w'=>∃A c,e=.returned (.slice A (C2 m.els id).length c)∧w'.ownsRow w.heap.size 9 1 (.slice A (C2 m.els id).length c) (C2 m.els id).length (AE BG (C2 m.els id))∧Fr0 w w':=by
 have hoi:=ho.id;have hon:=ho.nm;have hnv:=ho.nvars;have hne:=ho.nels;have hnf:=ho.nfls;refine BR func104 ntmps104 X λM=>W ?_
 refine CO M X X λg2 w1 hg2 M=>W ?_
 refine CH M 0 X X Al AN X (yb X (CW M 13 X X call52 (E7 m a _ _ ho.b (hm.fr0 M.fr)) λw2 M=>W ?_));refine CI M X AP λg6 w3 hg6 M=>BY M 0 X X AJ X λw4 M=>W ?_
 have M:=M.nilOwn 9 1;refine flp [7,6,2] (λze e wr mz=>∃(y:El) (acc:List Kz) (A:Ky) (c:Nat),e=(5,.slice A acc.length c)::ze∧Mem w AR [As.own w.heap.size 9 1 (.slice A acc.length c) acc.length (AE BG acc),As.blk g6 106 (El.cells y),As.blk g2 48 (Md.cells m a)] wr∧(acc.length≤64)∧(C2 m.els id=acc++(if (AF m.els id).isSome=true then EL m.els (64-acc.length) y else []))∧mz=64-acc.length) ⟨(AF m.els id).getD zeroEl,[],none,0,X,M,Ae _,by unfold C2;cases AF m.els id<;>rfl,rfl⟩ ?_;rintro _ w5 _ ⟨y,acc,A,c,rfl,M,hl,hr,rfl⟩;refine W ?_;refine fvm M 4 [7,6,5,2] [(21,.bool ((AF m.els id).isSome&&(!decide (y.inn=[]))))] ?_ (λk17=>?_)
 ·intro w6 M;refine yb X (fvm M 4 [7,6,5,2] [(26,.bool (((AF m.els id).isSome&&(!decide (y.inn=[])))&&(decide ((acc.length:Int)<64))))] ?_ (λk22=>?_))
  ·intro w7 M;refine W ?_;refine AB X (λh26=>?_) (λh26=>?_)
   ·have h26p:=bd h26;refine W ?_;refine CH M 2 X X Al AN X (W ?_);refine CW M 31 X X call52 (E7 m a _ _ ho.b (hm.fr0 M.fr)) λw8 M=>W ?_
    refine CI M X AP λg8 w9 hg8 M=>BY M 0 X X AJ X λw10 M=>W ?_
    refine fvm M 4 [8,7,6,5,2] [(40,.bool ((!(AF m.els y.inn).isSome) || (!decide ((((AF m.els y.inn).getD zeroEl).kind.toNat:Int)=10))))] ?_ (λk36=>?_)
    ·intro w11 M;refine W ?_;refine AB X (λh40=>?_) (λh40=>?_)
     ·have h40p:=bd h40;refine W ?_;refine gr1 X ?_;rw [if_pos h26p.1.1,gK m.els h40p,Bv] at hr
      subst hr;exact ⟨_,_,X,M.own 1 X,M.fr⟩
     have h40p:=bd h40;refine W ?_;refine CV M kw X X [str (((AF m.els y.inn).getD zeroEl).id)] ([str (((AF m.els y.inn).getD zeroEl).id)]) X X X X Az CG X X (GT X) X λg45 w12 hg45 M=>CN (len':=(acc++[((AF m.els y.inn).getD zeroEl).id]).length) (xs':=AE BG (acc++[((AF m.els y.inn).getD zeroEl).id])) M 2 kw X X X X X X (M.rdBlk 0 X X) Az C0 X AV (BW X) (Ab _) (Ab _) DC (by unfold maxLen;first|omega|(simp;omega)) (by simp) (by first|exact (B3 _ _ _).symm|simp [AE,BG]) λA46 c46 w13 M=>W ?_
     refine CH M 1 X X Bf AJ X (BY M 3 X X AJ X λw14 M=>W ?_);have hlen:=h26p.2;refine fag ⟨((AF m.els y.inn).getD zeroEl),acc++[((AF m.els y.inn).getD zeroEl).id],A46,c46,X,(M.pk [2,3,4]),?_,?_,X⟩
     ·simp only [Ah,Af,Aq];omega
     rw [hr,if_pos h26p.1.1,if_pos h26p.1.1,gL m.els h26p.1.2 A0 h40p.1 h40p.2];simp
    refine A1 (d:=36) X (λh36=>?_) (λh36=>?_)
    ·refine T4 ?_;exact k36 M
    refine T4 ?_;exact k36 M
   have h26p:=bd h26;refine W ?_;refine gr1 X ?_;rw [jV m.els h26p,Bv] at hr
   subst hr;exact ⟨_,_,X,M.own 0 X,M.fr⟩
  refine A1 (d:=22) X (λh22=>?_) (λh22=>?_)
  ·refine T4 ?_;exact k22 M
  refine T4 ?_;exact k22 M
 refine A1 (d:=17) X (λh17=>?_) (λh17=>?_)
 ·refine T4 ?_;exact k17 M
 refine T4 ?_;exact k17 M
end Go.Proofs.YtppmdnmjepkfaaaGreatDoor
