/- Lemmas. -/
import Derived.Test.YtaheakjfkpkefaaGreatDoorVRu6
import Derived.Test.YtaheakjfkpkefaaGreatDoorVRu9
set_option maxHeartbeats 16000000
set_option maxRecDepth 100000
namespace Go.Proofs.YtaheakjfkpkefaaGreatDoor
open Go.RowKit
open Tryz
def FF {α:Type} (f:α→List UInt8) (base:List (List UInt8)) (l:List α) (i:Nat):List (List UInt8):=((l.take i).map f).reverse++base
theorem O6 {α:Type} {f:α→List UInt8} {base:List (List UInt8)} {l:List α} {i:Nat} {x:α} (hx:l[i]?=some x):FF f base l (i+1)=f x::FF f base l i:=by
 unfold FF;rw [AP hx,List.map_append,List.reverse_append];rfl
def pV (m:Md) (i:Nat) (x:Bd):Bool:=G9 x.name (FF (λx=>x.name) [] m.vars i)&&decide (chk x.v=(0:Int))
def pE (m:Md) (i:Nat) (x:El):Bool:=G9 x.id (FF (λx=>x.id) [m.id] m.els i)&&SG x.nm
def pF (m:Md) (i:Nat) (x:Fl):Bool:=G9 x.id (FF (λx=>x.id) (FF (λx=>x.id) [m.id] m.els m.els.length) m.fls i)
def Q6 (m:Md):Bool:=(((((!(CG m.id)) || (!(SG m.nm))) || (decide ((64:Int)<((m.els.length:Nat):Int)))) || (decide ((128:Int)<((m.fls.length:Nat):Int)))) || (decide ((16:Int)<((m.vars.length:Nat):Int))))
def FY (m:Md):Option (List UInt8):=if Q6 m=true then some [] else match ffN (pV m) 0 m.vars with
 | some b=>some b.name
 | none=>match ffN (pE m) 0 m.els with
  | some b=>some b.id
  | none=>(ffN (pF m) 0 m.fls).map (·.id)
section
variable {m:Md} (h:Q6 m=false)
include h
theorem yI (h1:(ffN (pV m) 0 m.vars).isSome=true):Value.tuple #[str ((ffN (pV m) 0 m.vars).elim [] (λx=>x.name)),.bool true]=K4 (FY m):=by
 unfold FY;rw [AM h]
 cases hq:ffN (pV m) 0 m.vars with
 | none=>rw [hq] at h1;cases h1
 | some b=>rfl
theorem yK (h1:(ffN (pV m) 0 m.vars).isSome=false) (h2:(ffN (pE m) 0 m.els).isSome=true):Value.tuple #[str ((ffN (pE m) 0 m.els).elim [] (λx=>x.id)),.bool true]=K4 (FY m):=by
 unfold FY;rw [AM h]
 cases hq:ffN (pV m) 0 m.vars with
 | some b=>rw [hq] at h1;cases h1
 | none=>
  cases hr:ffN (pE m) 0 m.els with
  | none=>rw [hr] at h2;cases h2
  | some b=>rfl
theorem yJ (h1:(ffN (pV m) 0 m.vars).isSome=false) (h2:(ffN (pE m) 0 m.els).isSome=false):Value.tuple #[str ((ffN (pF m) 0 m.fls).elim [] (λx=>x.id)),.bool (ffN (pF m) 0 m.fls).isSome]=K4 (FY m):=by
 unfold FY;rw [AM h]
 cases hq:ffN (pV m) 0 m.vars with
 | some b=>rw [hq] at h1;cases h1
 | none=>
  cases hr:ffN (pE m) 0 m.els with
  | some b=>rw [hr] at h2;cases h2
  | none=>cases ffN (pF m) 0 m.fls<;>rfl
end
theorem dQ {α:Type} {p:Nat→α→Bool}:∀(l:List α) (i:Nat),ffN p i l=none→ixN (λi x => !(p i x)) i l=i+l.length
 | [],_,_=>rfl
 | x::r,i,h=>by
  rw [ffN] at h
  by_cases hp:p i x=true
  ·rw [if_pos hp] at h
   rw [ixN,if_neg (by simp [hp]),dQ r (i+1) h,List.length_cons];omega
  ·rw [if_neg hp] at h;cases h
theorem t8 {α:Type} {p:Nat→α→Bool} {l:List α} (h:(ffN p 0 l).isSome=false):ixN (λi x => !(p i x)) 0 l=l.length:=by
 have:ffN p 0 l=none:=by
  cases hq:ffN p 0 l with
  | none=>rfl
  | some x=>rw [hq] at h;cases h
 rw [dQ l 0 this,Nat.zero_add]
theorem BT {w wc w9:World} {S:Nat→Prop} (hf:Fr0 w wc) (h9:Fr S wc w9) (hS:∀k,S k→w.heap.size≤k):Fr0 w w9:=
 ⟨h9.os.trans hf.os,h9.tape.trans hf.tape,h9.output.trans hf.output,Nat.le_trans hf.size h9.size,λk hk _=>(h9.block k (Nat.lt_of_lt_of_le hk hf.size) (λhh=>by have:=hS k hh;omega)).trans (hf.block k hk (λhh=>hh))⟩
theorem qP {k:Nat} (h:W6 k):k<nGlob:=by
 have hn:=YV;simp only [Bool.and_eq_true] at hn
 obtain ⟨n1,n2,_,_⟩:=hn;obtain ⟨p,hp,rfl⟩:=h;simp only [utfL,List.mem_cons,List.not_mem_nil,or_false] at hp
 rcases hp with rfl|rfl
 ·exact CO n1
 ·exact CO n2
theorem Mem.newF {w0 w:World} {L:List As} (M:Mem w0 AR L w) (i:Nat) {g3 g6:Nat} {seen:List (List UInt8)} (hi:L[i]?=some (As.fresh g3 g6 seen)):∀k,(k=g3∨k=g6)→w0.heap.size≤k:=λk hk=>
 (M.new0 i hi k (by simpa [As.fresh] using hk)).1
theorem Mem.noU {w0 w:World} {L:List As} (M:Mem w0 AR L w) (i:Nat) {g3 g6:Nat} {seen:List (List UInt8)} (hi:L[i]?=some (As.fresh g3 g6 seen)) (hY:Lay0 w0):∀k,(k=g3∨k=g6)→¬W6 k:=λk hk hu=>by
 have h1:=M.newF i hi k hk;have h2:nGlob≤w0.heap.size:=hY.size;have h3:=qP hu;omega
theorem Mem.neFresh {w0 w:World} {S:Nat→Prop} {L:List As} (M:Mem w0 S L w) (i j:Nat) {g t g3 g6:Nat} {cs:List Value} {seen:List (List UInt8)} (hi:L[i]?=some (As.blk g t cs)) (hj:L[j]?=some (As.fresh g3 g6 seen)) (h:i≠j):¬(g=g3∨g=g6):=λhh=>
 M.apart i j _ _ hi hj h g (by simp [As.blk]) (by simpa [As.fresh] using hh)
section
variable {g3 g6 g5:Nat} {base:List (List UInt8)} {w:World}
theorem QF (hF:Fresh w g3 g6 base):∀g,(g=g3∨g=g6)→g<w.heap.size:=λg hg=>by
 obtain ⟨h1,_,L,h2,_⟩:=hF;rcases hg with rfl|rfl
 ·exact h1.lt
 ·exact mK h2
theorem lZ {l:List Bd} (hok:BdOk l) (hT:Laid w utfL) (hF:Fresh w g3 g6 base) (hnu:∀k,(k=g3∨k=g6)→¬W6 k) (hn5:¬(g5=g3∨g5=g6)) (hb5:Blk w g5 97 [.func (.func 158) #[] #[pg g3]]) :
 PredJ prog 109 [pg g5] (λx:Bd=>.agg x.cells.toArray) l (λi x=>G9 x.name (FF (λx=>x.name) base l i)&&decide (chk x.v=(0:Int))) (λk=>k=g3∨k=g6) (λi W=>Fresh W g3 g6 (FF (λx=>x.name) base l i)) w where
 fn:=call109
 call i x w1 hx hf hJ:=by
  have hm:=List.mem_of_getElem? hx;have h:=sB g3 g6 g5 (FF (λx=>x.name) base l i) x w1 (hok.name x hm) (hok.text x hm) (MQ hT hf hnu) hnu hJ hn5 (hb5.fr hf hn5);rw [←O6 (f:=λx:Bd=>x.name) (base:=base) hx] at h
  exact h
 st i w1 w2 hf hJ:=hJ.keep (λg _ hg=>hf.block g hg (λhh=>hh))
 old:=QF hF
theorem lY {l:List El} (hok:∀x∈l,ElOk x) (hT:Laid w utfL) (hF:Fresh w g3 g6 base) (hnu:∀k,(k=g3∨k=g6)→¬W6 k) (hn5:¬(g5=g3∨g5=g6)) (hb5:Blk w g5 97 [.func (.func 158) #[] #[pg g3]]) :
 PredJ prog 112 [pg g5] (λx:El=>.agg x.cells.toArray) l (λi x=>G9 x.id (FF (λx=>x.id) base l i)&&SG x.nm) (λk=>k=g3∨k=g6) (λi W=>Fresh W g3 g6 (FF (λx=>x.id) base l i)) w where
 fn:=call112
 call i x w1 hx hf hJ:=by
  have hm:=List.mem_of_getElem? hx;have h:=sA g3 g6 g5 (FF (λx=>x.id) base l i) x w1 (hok x hm).id (hok x hm).nm (MQ hT hf hnu) hnu hJ hn5 (hb5.fr hf hn5);rw [←O6 (f:=λx:El=>x.id) (base:=base) hx] at h
  exact h
 st i w1 w2 hf hJ:=hJ.keep (λg _ hg=>hf.block g hg (λhh=>hh))
 old:=QF hF
theorem lX {l:List Fl} (hok:∀x∈l,FlOk x) (hT:Laid w utfL) (hF:Fresh w g3 g6 base) (hnu:∀k,(k=g3∨k=g6)→¬W6 k) (hn5:¬(g5=g3∨g5=g6)) (hb5:Blk w g5 97 [.func (.func 158) #[] #[pg g3]]) :
 PredJ prog 115 [pg g5] (λx:Fl=>.agg x.cells.toArray) l (λi x=>G9 x.id (FF (λx=>x.id) base l i)) (λk=>k=g3∨k=g6) (λi W=>Fresh W g3 g6 (FF (λx=>x.id) base l i)) w where
 fn:=call115
 call i x w1 hx hf hJ:=by
  have hm:=List.mem_of_getElem? hx;have h:=s9 g3 g6 g5 (FF (λx=>x.id) base l i) x w1 (hok x hm).id (MQ hT hf hnu) hnu hJ hn5 (hb5.fr hf hn5);rw [←O6 (f:=λx:Fl=>x.id) (base:=base) hx] at h
  exact h
 st i w1 w2 hf hJ:=hJ.keep (λg _ hg=>hf.block g hg (λhh=>hh))
 old:=QF hF
end
theorem GJ : (prog.info? 97).map (·.size)=some 1:=by kernel_rfl
theorem zr_api_Model : (prog.info? 62).map (·.zero)=some (some (.agg #[str [],str [],.slice none 0 0,.slice none 0 0,.slice none 0 0])):=by kernel_rfl
theorem GG : (prog.info? 97).map (·.zero)=some (some (.nilFunc)):=by kernel_rfl
theorem s6 (m:Md) (a:MdA) (ix:IxA) (gx:Nat) (w:World) (ho:MdB m) (hx:IxAt w m a ix gx) (hY:Lay0 w) :
 Calls prog 66 #[pg gx] w (BI w (K4 (FY m))):=by
 refine BH func66 ntmps66 X λM=>AE X (AJ X (AE X (AV X X (ya X (AK (xs:=[str m.id,str m.nm,.slice a.V m.vars.length a.vc,.slice a.E m.els.length a.ec,.slice a.F m.fls.length a.fc]) X X (DZ ((hx.fr0 M.fr).blk) 0 5 X X) underlying62 X BN) (CI M X zr_api_Model λg4 w1 hg4 M=>BD M 0 X X BN X ?_)))))
 intro w2 M;refine nq (sx_seq (AE X (AU M 0 X X X (CD M 17 X X call61 (DU _ _ ho.id) λw3 M=>AV X X (fvm M 5 [4] [(24,.bool ((!(CG m.id)) || (!(SG m.nm))))] ?_ (λk19=>?_))))))
 ·intro w4 M;refine yb X (fvm M 5 [4] [(30,.bool (((!(CG m.id)) || (!(SG m.nm))) || (decide (64<(m.els.length:Int)))))] ?_ (λk25=>?_))
  ·intro w5 M;refine yb X (fvm M 5 [4] [(36,.bool ((((!(CG m.id)) || (!(SG m.nm))) || (decide (64<(m.els.length:Int)))) || (decide (128<(m.fls.length:Int)))))] ?_ (λk31=>?_))
   ·intro w6 M;refine yb X (fvm M 5 [4] [(42,.bool (((((!(CG m.id)) || (!(SG m.nm))) || (decide (64<(m.els.length:Int)))) || (decide (128<(m.fls.length:Int)))) || (decide (16<(m.vars.length:Int)))))] ?_ (λk37=>?_))
    ·intro w7 M;refine nq (AF X (λh42=>?_) (λh42=>?_))
     ·have h42p:=((E1 h42).imp (λz=>((E1 z).imp (λz=>((E1 z).imp (λz=>((E1 z).imp (λz=>(C5 z)) (λz=>(C5 z)))) (λz=>(odt z)))) (λz=>(odt z)))) (λz=>(odt z)));exact AE X (yb X (gnr (qx_then_ret (C4 X X X ⟨by rw [show FY m=some [] from if_pos h42];rfl,M.fr⟩))))
     ·have h42p:=(And.intro (And.intro (And.intro (And.intro (BL (C6 (C6 (C6 (C6 h42).1).1).1).1) (BL (C6 (C6 (C6 (C6 h42).1).1).1).2)) (odf (C6 (C6 (C6 h42).1).1).2)) (odf (C6 (C6 h42).1).2)) (odf (C6 h42).2));refine sx_skip (qx_seq (srg (cl 43 X (AG X X call106) (V7 none 0 [] _ (Nat.zero_le _) Rd.nil) ?_)));rintro _ w8 ⟨ga43,gb43,rfl,hfr,hnw,hfw8⟩;refine ⟨_,X,?_⟩;have M:=M.push hfw8 (As.fresh ga43 gb43 []) hfr hnw;refine EI M (wn_none X) X X 97 X [.nilFunc] GG X λg5 w9 hg5 M=>E7 (cs':=[.func (.func 158) #[] #[pg ga43]]) M 0 (wn_none X) X X X X X X X GJ (CO X) X λw10 M=>nq (sx_seq (AE X (AU M 2 X X X (ya X (CP (us:=[]) (vs:=[pg g5]) X X X) ?_))))
      have hnU48:=M.noU 1 X hY;have hnw48:∀k,(k=ga43∨k=gb43)→w.heap.size≤k:=M.newF 1 X
      refine cl 48 X (AG X X call107) (o3 a.V a.vc m.vars (by have:=ho.nvars;have:=ho.nels;have:=ho.nfls;omega) 109 [pg g5] (pV m) (λk=>k=ga43∨k=gb43) (λi W=>Fresh W ga43 gb43 (FF (λx:Bd=>x.name) [] m.vars i)) _ (lZ ho.vars (G7 hY.utf M.fr) (M.ok 1 _ X) hnU48 (M.neFresh 0 1 X X B3) (M.blk 0 X)) (λw9 hf9=>hx.md.vars.fr0 (BT M.fr hf9 hnw48)) (M.ok 1 _ X)) ?_;rintro _ w11 ⟨rfl,hJw11,hfw11⟩;have M:=M.updFresh 1 X hJw11 hfw11;refine ⟨_,X,?_⟩;iterate 5 refine yb X ?_
      refine EV (AJ X (AF X (λh51=>?_) (λh51=>?_)))
      ·exact AE X (AV X X (gnr (qx_then_ret (C4 X X X ⟨congrArg Ending.returned (yI h42 h51),M.fr⟩))))
      ·refine sx_skip (qx_seq (AE X (AU M 2 X X X (CN M (wn_none X) X X [str m.id] ([str m.id]) X X X X underlying48 CS X X (FP X) X λg55 w12 hg55 M=>cl 56 X (AG X X call106) (V7 (some ⟨g55,0,none⟩) 1 [m.id] _ (HX X) (M.rdBlk 0 X X)) ?_))));rintro _ w13 ⟨ga56,gb56,rfl,hfr,hnw,hfw13⟩;refine ⟨_,X,?_⟩;have M:=M.push hfw13 (As.fresh ga56 gb56 [m.id]) hfr hnw;refine EI M (wn_none X) X X 97 X [.nilFunc] GG X λg8 w14 hg8 M=>E7 (cs':=[.func (.func 158) #[] #[pg ga56]]) M 0 (wn_none X) X X X X X X X GJ (CO X) X λw15 M=>nq (sx_seq (AE X (AU M 5 X X X (ya X (CP (us:=[]) (vs:=[pg g8]) X X X) ?_))))
       have hnU61:=M.noU 1 X hY;have hnw61:∀k,(k=ga56∨k=gb56)→w.heap.size≤k:=M.newF 1 X
       refine cl 61 X (AG X X call110) (ZD a.E a.ec m.els (by have:=ho.nvars;have:=ho.nels;have:=ho.nfls;omega) 112 [pg g8] (pE m) (λk=>k=ga56∨k=gb56) (λi W=>Fresh W ga56 gb56 (FF (λx:El=>x.id) [m.id] m.els i)) _ (lY ho.els (G7 hY.utf M.fr) (M.ok 1 _ X) hnU61 (M.neFresh 0 1 X X B3) (M.blk 0 X)) (λw9 hf9=>hx.md.els.fr0 (BT M.fr hf9 hnw61)) (M.ok 1 _ X)) ?_;rintro _ w16 ⟨rfl,hJw16,hfw16⟩;have M:=M.updFresh 1 X hJw16 hfw16;refine ⟨_,X,?_⟩;iterate 5 refine yb X ?_
       refine EV (AJ X (AF X (λh64=>?_) (λh64=>?_)))
       ·exact AE X (AV X X (gnr (qx_then_ret (C4 X X X ⟨congrArg Ending.returned (yK h42 h51 h64),M.fr⟩))))
       ·rw [t8 h64] at M
        refine sx_skip (qx_seq (AE X (AU M 5 X X X (ya X (CP (us:=[]) (vs:=[pg g8]) X X X) ?_))));have hnU69:=M.noU 1 X hY;have hnw69:∀k,(k=ga56∨k=gb56)→w.heap.size≤k:=M.newF 1 X
        refine cl 69 X (AG X X call113) (ZC a.F a.fc m.fls (by have:=ho.nvars;have:=ho.nels;have:=ho.nfls;omega) 115 [pg g8] (pF m) (λk=>k=ga56∨k=gb56) (λi W=>Fresh W ga56 gb56 (FF (λx:Fl=>x.id) (FF (λx:El=>x.id) [m.id] m.els m.els.length) m.fls i)) _ (lX ho.fls (G7 hY.utf M.fr) (M.ok 1 _ X) hnU69 (M.neFresh 0 1 X X B3) (M.blk 0 X)) (λw9 hf9=>hx.md.fls.fr0 (BT M.fr hf9 hnw69)) (M.ok 1 _ X)) ?_;rintro _ w17 ⟨rfl,hJw17,hfw17⟩;have M:=M.updFresh 1 X hJw17 hfw17;refine ⟨_,X,?_⟩;iterate 4 refine yb X ?_
        exact gnr (C4 X X X ⟨congrArg Ending.returned (yJ h42 h51 h64),M.fr⟩)
    refine AI (d:=37) X (λh37=>?_) (λh37=>?_)
    ·iterate 4 refine yo X ?_
     exact yb X (k37 M ⟨X,(by rw [h37];rfl),trivial⟩)
    ·exact gyq X (CE M 0 X X X (yd X (FM X X (sl X)) (yd X (GU X X X) (yb X (k37 M ⟨X,(by rw [h37];rfl),trivial⟩)))))
   refine AI (d:=31) X (λh31=>?_) (λh31=>?_)
   ·iterate 4 refine yo X ?_
    exact yb X (k31 M ⟨X,(by rw [h31];rfl),trivial⟩)
   ·exact gyq X (CE M 0 X X X (yd X (FM X X (sl X)) (yd X (GU X X X) (yb X (k31 M ⟨X,(by rw [h31];rfl),trivial⟩)))))
  refine AI (d:=25) X (λh25=>?_) (λh25=>?_)
  ·iterate 4 refine yo X ?_
   exact yb X (k25 M ⟨X,(by rw [h25];rfl),trivial⟩)
  ·exact gyq X (CE M 0 X X X (yd X (FM X X (sl X)) (yd X (GU X X X) (yb X (k25 M ⟨X,(by rw [h25];rfl),trivial⟩)))))
 refine AI (d:=19) X (λh19=>?_) (λh19=>?_)
 ·iterate 4 refine yo X ?_
  exact yb X (k19 M ⟨X,(by rw [h19];rfl),trivial⟩)
 ·refine gyq X (CE M 0 X X X (sxl_call (some 22) (wn_on X X X) X X (AG X X call105) (cS _ _ ho.nm (G7 hY.utf M.fr)) ?_));rintro _ w18 ⟨rfl,hfw18⟩;refine ⟨_,X,?_⟩;have M:=M.step hfw18;exact gyq X (yb X (k19 M ⟨X,(by rw [h19];rfl),trivial⟩))
end Go.Proofs.YtaheakjfkpkefaaGreatDoor
