/- Lemmas. -/
import Derived.Test.YtaheakjfkpkefaaGreatDoorVRu8
import Derived.Test.YtaheakjfkpkefaaGreatDoorVMv2
set_option maxHeartbeats 16000000
set_option maxRecDepth 100000
namespace Go.Proofs.YtaheakjfkpkefaaGreatDoor
open Go.RowKit
open Tryz
def zG : List Value:=[.func (.func 66) #[] #[],.func (.func 67) #[] #[],.func (.func 68) #[] #[],.func (.func 69) #[] #[],.func (.func 70) #[] #[],.func (.func 71) #[] #[],.func (.func 72) #[] #[],.func (.func 73) #[] #[],.func (.func 74) #[] #[]]
def QR (m:Md):List (Option (List UInt8)):=[FY m,ffE (W9 m) m.els,ffF (ME m) m.fls,ffE (JB m) m.els,dZ m,Y5 m,ffE (L6 m) m.els,ffE (MZ m) m.els,ffE (gR m) m.els]
theorem xW (m:Md) (a:MdA) (ix:IxA) (gx:Nat) (hb:MdB m):∀i,i<9→(i=0∨MdOk m)→∃fd b,zG[i]?=some (.func (.func fd) #[] #[])∧(QR m)[i]?=some b∧(∀(ar:Array Value) (w:World),(callFunc fd ar).run prog w=.ok (.enter fd ar) w) ∧
 ∀W,IxAt W m a ix gx→Lay0 W→Calls prog fd #[pg gx] W (BI W (.tuple #[str (b.getD []),.bool b.isSome])):=by
 intro i hi hk;have ho:i≠0→MdOk m:=λh=>hk.resolve_left h
 match i,hi with
 | 0,_=>exact ⟨_,_,rfl,rfl,call66,λW hx hY=>s6 m a ix gx W hb hx hY⟩
 | 1,_=>exact ⟨_,_,rfl,rfl,call67,λW hx _=>qS m a ix gx W (ho B3) hx⟩
 | 2,_=>exact ⟨_,_,rfl,rfl,call68,λW hx _=>fH m a ix gx W (ho B3) hx⟩
 | 3,_=>exact ⟨_,_,rfl,rfl,call69,λW hx _=>nV m a ix gx W (ho B3) hx⟩
 | 4,_=>exact ⟨_,_,rfl,rfl,call70,λW hx _=>nZ m a ix gx W (ho B3) hx⟩
 | 5,_=>exact ⟨_,_,rfl,rfl,call71,λW hx hY=>rB m a ix gx W (ho B3) hx hY⟩
 | 6,_=>exact ⟨_,_,rfl,rfl,call72,λW hx _=>fT m a ix gx W (ho B3) hx⟩
 | 7,_=>exact ⟨_,_,rfl,rfl,call73,λW hx _=>iX m a ix gx W (ho B3) hx⟩
 | 8,_=>exact ⟨_,_,rfl,rfl,call74,λW hx _=>mE m a ix gx W (ho B3) hx⟩
 | i+9,hi=>omega
def HO : Nat→List (Option (List UInt8))→Nat × List UInt8 × Int
 | _,[]=>(0,[],0)
 | i,some k::_=>(i+1,k,140)
 | i,none::r=>HO (i+1) r
theorem UQ {i:Nat} {b:Option (List UInt8)} {r:List (Option (List UInt8))} (h:b.isSome=false):HO i (b::r)=HO (i+1) r:=by
 cases b with
 | none=>rfl
 | some k=>cases h
theorem UP {i:Nat} {b:Option (List UInt8)} {r:List (Option (List UInt8))} (h:b.isSome=true):HO i (b::r)=(i+1,b.getD [],140):=by
 cases b with
 | none=>cases h
 | some k=>rfl
theorem uM {m:Md} (hb:MdB m) {i:Nat} {b:Option (List UInt8)} (hk:i=0∨MdOk m) (h:(QR m)[i]?=some b) (hn:b.isSome=false):i+1=0∨MdOk m:=by
 rcases hk with rfl|hk
 ·right
  injection h with h
  subst h
  have hq:Q6 m=false:=by
   cases hq:Q6 m with
   | false=>rfl
   | true=>rw [FY,if_pos hq] at hn;cases hn
  have h1:=(C6 hq).1;have a1:=odf (C6 (C6 h1).1).2;have a2:=odf (C6 h1).2;have a3:=odf (C6 hq).2;exact ⟨hb.id,hb.nm,hb.vars,by omega,by omega,by omega,hb.els,hb.fls⟩
 ·exact .inr hk
def LU (m:Md):Nat × List UInt8 × Int:=HO 0 (QR m)
theorem m9 {m:Md} (hb:MdB m) (h:(LU m).2.2=0):MdOk m:=by
 have h0:(FY m).isSome=false:=by
  cases hq:FY m with
  | none=>rfl
  | some k=>
   have:(LU m).2.2=140:=by unfold LU QR;rw [hq];rfl
   rw [this] at h;cases h
 exact (uM hb (i:=0) (.inl X) X h0).resolve_left B3
theorem QC : (prog.info? 159).map (λi=>(i.zero,i.size))=some (some (.nilFunc),1):=by kernel_rfl
theorem WI (m:Md) (a:MdA) (w:World) (ho:MdB m) (hM:MdIn w m a) (hY:Lay0 w) :
 Calls prog 38 #[.agg (Md.cells m a).toArray] w (BI w (.tuple #[AC (((LU m).1:Nat):Int),str (LU m).2.1,AC (LU m).2.2])):=by
 refine BH func38 ntmps38 X λM=>srg (CC M X X λg1 w1 hg1 M=>AV X X (AJ X (srg (CB M 0 X X underlying62 BN X (cl 11 X (AG X X call65) (TF m a _ ho (hM.fr0 M.fr)) ?_)))))
 rintro _ w2 ⟨ix,gx,FX,rfl,hix,hnx,hfw2⟩;refine ⟨_,X,?_⟩;have M:=M.push hfw2 (As.ixp m a ix gx FX) hix hnx;refine AJ X (sx_seq (srg (CN M (wn_none X) X X [.func (.func 66) #[] #[],.func (.func 67) #[] #[],.func (.func 68) #[] #[],.func (.func 69) #[] #[],.func (.func 70) #[] #[],.func (.func 71) #[] #[],.func (.func 72) #[] #[],.func (.func 73) #[] #[],.func (.func 74) #[] #[]] ([.func (.func 66) #[] #[],.func (.func 67) #[] #[],.func (.func 68) #[] #[],.func (.func 69) #[] #[],.func (.func 70) #[] #[],.func (.func 71) #[] #[],.func (.func 72) #[] #[],.func (.func 73) #[] #[],.func (.func 74) #[] #[]]) X X X X underlying158 QC X X (by intro v hv;simp only [List.mem_cons,List.not_mem_nil,or_false] at hv;rcases hv with rfl|rfl|rfl|rfl|rfl|rfl|rfl|rfl|rfl<;>rfl) X λg12 w3 hg12 M=>DF X X (AJ X (sx_block (JJ M [13,12,5] (λze zF e wr mz=>∃(i:Nat),e=(14,AC (i:Int))::ze∧zF wr∧(i≤9)∧(HO 0 (QR m)=HO i ((QR m).drop i))∧(i=0∨MdOk m)∧mz=9-i) ⟨0,X,M,Nat.zero_le _,X,.inl X,X⟩ ?_))))));rintro _ w4 _ ⟨i,rfl,M,hi,hE,hk,rfl⟩;refine srg (BB X X (nq (sx_seq (AF X (λh15=>?_) (λh15=>?_)))))
 ·have h15p:=(odt h15);have hil:i<9:=by omega
  refine sx_skip (qx_seq (sx_seq (sx_block (AE X ?_))));obtain ⟨fd,b,hfd,hbk,hen,hcl⟩:=xW m a ix gx ho i hil hk;refine ya X (M9 (j:=i) X X X (sl X) AA) (yl X X (Blk.c (M.blk 0 X) (0+i*1) (by rw [Nat.zero_add,Nat.mul_one];exact hfd)) (yb X (AJ X (AE X (yb X (LZ M 22 X (BJ X X X hen) (hcl _ (IxN.at (M.ok 1 _ X) (hM.fr0 M.fr)) (hY.fr0 M.fr)) λw5 M=>?_))))));iterate 5 refine yb X ?_
  refine EV (AJ X (AF X (λh25=>?_) (λh25=>?_)))
  ·refine AE X (BV X X ?_);iterate 4 refine yb X ?_
   exact gnr (qx_block_ret (qx_then_ret (qx_then_ret (qx_block_ret (qx_then_ret (IT X X X X ⟨by rw [LU,hE,AZ hbk,UP h25]<;>rfl,M.fr⟩))))))
  ·refine sx_skip (qx_block_normal (qx_seq (sx_region (BV X X (yb X (sxl_nil (fag ⟨i+1,X,M,?_,?_,?_,X⟩)))))))
   ·omega
   ·rw [hE,AZ hbk,UQ h25]
   ·exact uM ho hk hbk h25
 ·have h15p:=(odf h15);refine sx_exit (qx_then_exit (qx_then_exit ?_));obtain rfl:i=9:=by omega
  exact qx_block_hit (qx_seq (AE X (AV X X (gnr (IT X X X X ⟨by rw [LU,hE];rfl,M.fr⟩)))))
section
def MpS (w:World) (g:Nat) (L:List (List UInt8 × Value)):Option (List UInt8 × Nat)→Prop
 | none=>MpB w g L
 | some (k,b)=>EntAt w g L k b
theorem MpS.keep {w w':World} {g:Nat} {L:List (List UInt8 × Value)} {st:Option (List UInt8 × Nat)} (hk:g<w.heap.size→w'.heap[g]?=w.heap[g]?) (h:MpS w g L st):MpS w' g L st:=by
 cases st with
 | none=>exact MpB.keep hk h
 | some p=>obtain ⟨k,b⟩:=p;exact EntAt.keep hk h
def As.mpS (g:Nat) (L:List (List UInt8 × Value)) (st:Option (List UInt8 × Nat)):As:=⟨[g],λw=>MpS w g L st,λh hb=>hb.keep (h g (by simp))⟩
structure RowS (w:World) (g:Nat) (L:List (List UInt8 × Value)) (st:Option (List UInt8 × Nat)) (rows:List UInt8→List (List UInt8)) (F:List Nat):Prop where
 map:MpS w g L st
 gF:¬g∈F
 row:∀k,∃A C,EU L k=.slice A (rows k).length C∧Rd w A ((rows k).length*1) (AD C0 (rows k))∧∀b off p,A=some ⟨b,off,p⟩→b∈F
theorem RowS.keep {w w':World} {g:Nat} {L:List (List UInt8 × Value)} {st:Option (List UInt8 × Nat)} {rows:List UInt8→List (List UInt8)} {F:List Nat} (hk:∀x∈g::F,x<w.heap.size→w'.heap[x]?=w.heap[x]?) (h:RowS w g L st rows F):RowS w' g L st rows F:=
 ⟨h.map.keep (hk g (by simp)),h.gF,λk=>by
  obtain ⟨A,C,h1,h2,h3⟩:=h.row k;exact ⟨A,C,h1,HL h2 (λx hx=>hk x (List.mem_cons_of_mem _ hx)) h3,h3⟩⟩
def As.rowS (g:Nat) (L:List (List UInt8 × Value)) (st:Option (List UInt8 × Nat)) (rows:List UInt8→List (List UInt8)) (F:List Nat):As:=⟨g::F,λw=>RowS w g L st rows F,λh hb=>hb.keep h⟩
def As.both (a b:As):As:=⟨a.fp++b.fp,λw=>a.ok w∧b.ok w,λh hb=>⟨a.keep (λg hg=>h g (List.mem_append_left _ hg)) hb.1,b.keep (λg hg=>h g (List.mem_append_right _ hg)) hb.2⟩⟩
section
variable {w0 w w':World} {S:Nat→Prop} {Ls:List As} {g b:Nat} {L L':List (List UInt8 × Value)} {k:List UInt8} {rows:List UInt8→List (List UInt8)} {F:List Nat} {st:Option (List UInt8 × Nat)}
theorem sQ (w:World):MpB (w.alloc (.map #[] 0)) w.heap.size []:=⟨#[],0,by show (w.heap.push (.map #[] 0))[w.heap.size]?=_;simp,rfl,by simp,by simp⟩
theorem SL {P:Program} {Q:Exit→Act→World→Prop} {n:Nat} {e:Env} {ops:Array Oper} {o:Oper} {rest:List Oper} (M:Mem w0 S Ls w) {d t:Nat} (hw:Wn ops e o) (hd:o.dst=some d) (hn:Nat.blt d n=true) (ho:o.op=.makeMap t none)
 (k:∀g w',w.heap.size≤g→Mem w0 S (As.mpS g [] none::Ls) w'→SxL P ops Q n rest ((d,.map (some g))::e) w'):SxL P ops Q n (o::rest) e w:=by
 refine sxl_does (some d) hw hd hn (λρ hρ=>TS ho) ?_;rintro _ w1 ⟨rfl,rfl⟩;exact k _ _ (Nat.le_refl _) (M.push (Fr.refl.alloc _) _ (sQ w) (λg' hg'=>by simp only [As.mpS,List.mem_singleton] at hg';subst hg';simp))
theorem Mem.mpS (M:Mem w0 S Ls w) (i:Nat) (hi:Ls[i]?=some (As.mpS g L st)):MpS w g L st:=M.ok i _ hi
theorem Mem.rowS (M:Mem w0 S Ls w) (i:Nat) (hi:Ls[i]?=some (As.rowS g L st rows F)):RowS w g L st rows F:=M.ok i _ hi
theorem Mem.toRow (M:Mem w0 S Ls w) (i:Nat) (hi:Ls[i]?=some (As.mpS g [] none)):Mem w0 S (Ls.set i (As.rowS g [] none (λ_=>[]) [])) w:=
 M.upd i hi Fr.refl _ (show RowS w g [] none (λ_=>[]) [] from ⟨M.ok i _ hi,by simp,λk=>⟨none,0,by simp [EU,CA],Rd.nil,λb off p h=>by cases h⟩⟩) (λ_ hg'=>.inl hg')
theorem Mem.entA (M:Mem w0 S Ls w) (i:Nat) (hi:Ls[i]?=some (As.mpS g L none)) (hf:Fr (λx=>x=g) w w') (hE:EntAt w' g L' k b):Mem w0 S (Ls.set i (As.mpS g L' (some (k,b)))) w':=
 M.upd i hi (hf.mono λk _ e=>by simp only [As.mpS,List.mem_singleton];exact e) (As.mpS g L' (some (k,b))) hE (λ_ hg'=>.inl hg')
theorem Mem.putA (M:Mem w0 S Ls w) (i:Nat) (hi:Ls[i]?=some (As.mpS g L (some (k,b)))) (hf:Fr (λx=>x=g) w w') (hE:MpB w' g L'):Mem w0 S (Ls.set i (As.mpS g L' none)) w':=
 M.upd i hi (hf.mono λk _ e=>by simp only [As.mpS,List.mem_singleton];exact e) (As.mpS g L' none) hE (λ_ hg'=>.inl hg')
theorem Mem.entR (M:Mem w0 S Ls w) (i:Nat) (hi:Ls[i]?=some (As.rowS g L none rows F)) (hf:Fr (λx=>x=g) w w') (hE:EntAt w' g (D2 L k ((CA L k).getD (.slice none 0 0))) k b):Mem w0 S (Ls.set i (As.rowS g (D2 L k ((CA L k).getD (.slice none 0 0))) (some (k,b)) rows F)) w':=by
 have h:RowS w g L none rows F:=M.ok i _ hi;refine M.upd i hi (hf.mono λk _ e=>by rw [e];exact List.mem_cons_self) _ (show RowS w' g _ (some (k,b)) rows F from ⟨hE,h.gF,λk'=>?_⟩) (λ_ hg'=>.inl hg');obtain ⟨A,C,h1,h2,h3⟩:=h.row k';refine ⟨A,C,?_,HL h2 (λx hx hl=>hf.block x hl (λe=>h.gF (e▸hx))) h3,h3⟩;rw [J9]
 by_cases hk:k'=k
 ·subst hk;rw [if_pos rfl];exact h1
 ·rw [if_neg hk];exact h1
theorem Mem.putR {base T n C:Nat} {A:Option Addr} {l:List (List UInt8)} (M:Mem w0 S (As.own base T 1 (.slice A n C) n (AD C0 l)::As.rowS g L (some (k,b)) rows F::Ls) w) (hf:Fr (λx=>x=g) w w') (hE:MpB w' g (D2 L k (.slice A n C))) (hn:n=l.length) :
 ∃F',Mem w0 S (As.rowS g (D2 L k (.slice A n C)) none (λk'=>if k'=k then l else rows k') F'::Ls) w':=by
 have ho:=M.own 0 X;have h:RowS w g L (some (k,b)) rows F:=M.ok 1 _ X;have hap:∀x∈(Value.slice A n C).ownBlock.toList,¬x∈g::F:=λx hx=>M.apart 0 1 _ _ X X B3 x hx
 have M1:=M.joinFam (As.both (As.own base T 1 (.slice A n C) n (AD C0 l)) (As.rowS g L (some (k,b)) rows F)) ⟨ho,h⟩ (λx hx=>List.mem_append.1 hx);have hA:∀b off p,A=some ⟨b,off,p⟩→b∈(Value.slice A n C).ownBlock.toList:=λb off p e=>by subst e;simp [Value.ownBlock]
 refine ⟨(Value.slice A n C).ownBlock.toList++F,M1.upd 0 X (hf.mono λx _ e=>by rw [e];exact List.mem_append_right _ List.mem_cons_self) _ (show RowS w' g _ none _ _ from ⟨hE,?_,λk'=>?_⟩) ?_⟩
 ·intro hh;rcases List.mem_append.1 hh with hh|hh
  ·exact hap g hh List.mem_cons_self
  ·exact h.gF hh
 ·rw [J9]
  by_cases hk:k'=k
  ·subst hk;simp only [if_pos];rw [hn] at ho hA ⊢
   refine ⟨A,C,X,HL (L7 ho) (F:=(Value.slice A l.length C).ownBlock.toList) (λx hx hl=>hf.block x hl (λe=>hap x (hn▸hx) (by rw [e];exact List.mem_cons_self))) hA,λb off p e=>List.mem_append_left _ (hA b off p e)⟩
  ·simp only [if_neg hk];obtain ⟨A',C',h1,h2,h3⟩:=h.row k';exact ⟨A',C',h1,HL h2 (λx hx hl=>hf.block x hl (λe=>h.gF (e▸hx))) h3,λb off p e=>List.mem_append_right _ (h3 b off p e)⟩
 ·intro x hx
  left
  rcases List.mem_cons.1 (show x∈g::((Value.slice A n C).ownBlock.toList++F) from hx) with rfl|hx
  ·exact List.mem_append_right _ List.mem_cons_self
  ·rcases List.mem_append.1 hx with hx|hx
   ·exact List.mem_append_left _ hx
   ·exact List.mem_append_right _ (List.mem_cons_of_mem _ hx)
theorem Mem.mdN {m:Md} {a:MdA} (M:Mem w0 S Ls w) (i:Nat) (hi:Ls[i]?=some (As.mdp m a F)):MdN w m a F:=M.ok i _ hi
end
end
end Go.Proofs.YtaheakjfkpkefaaGreatDoor
