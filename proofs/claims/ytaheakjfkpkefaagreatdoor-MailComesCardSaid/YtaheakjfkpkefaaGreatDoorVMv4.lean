/- Lemmas. -/
import Derived.Test.YtaheakjfkpkefaaGreatDoorVMv3
set_option maxHeartbeats 16000000
set_option maxRecDepth 100000
namespace Go.Proofs.YtaheakjfkpkefaaGreatDoor
open Go.RowKit
open Tryz
theorem xY {L:List (List UInt8 × Value)} {f:List UInt8→El} {is:List UInt8→Bool} {x:El} (h:∀k,(CA L k).getD (.agg zeroEl.cells.toArray)=.agg (f k).cells.toArray∧(CA L k).isSome=is k) :
 ∀k,(CA (D2 L x.id (.agg (El.cells x).toArray)) k).getD (.agg zeroEl.cells.toArray)=.agg ((if k=x.id then x else f k)).cells.toArray∧(CA (D2 L x.id (.agg (El.cells x).toArray)) k).isSome=(if k=x.id then true else is k):=λk=>by
 rw [EL]
 by_cases hk:k=x.id
 ·rw [if_pos hk,if_pos hk,if_pos hk];exact ⟨rfl,rfl⟩
 ·rw [if_neg hk,if_neg hk,if_neg hk];exact h k
theorem sX {m:Md} {r:List UInt8→List (List UInt8)} {x:El} (h:∀k,(r k).length≤m.fls.length):∀k,((λk'=>if k'=x.id then (C3 m.fls x.id).map (λu:Fl=>u.id) else r k') k).length≤m.fls.length:=λk=>by
 simp only
 split
 ·rw [List.length_map];exact E4 _ _
 ·exact h k
theorem nY {L:List (List UInt8 × Value)} {f:List UInt8→Fl} {is:List UInt8→Bool} {x:Fl} (h:∀k,(CA L k).getD (.agg zeroFl.cells.toArray)=.agg (f k).cells.toArray∧(CA L k).isSome=is k) :
 ∀k,(CA (D2 L x.id (.agg (Fl.cells x).toArray)) k).getD (.agg zeroFl.cells.toArray)=.agg ((if k=x.id then x else f k)).cells.toArray∧(CA (D2 L x.id (.agg (Fl.cells x).toArray)) k).isSome=(if k=x.id then true else is k):=λk=>by
 rw [EL]
 by_cases hk:k=x.id
 ·rw [if_pos hk,if_pos hk,if_pos hk];exact ⟨rfl,rfl⟩
 ·rw [if_neg hk,if_neg hk,if_neg hk];exact h k
def JD (f:Fl):Bool:=if (!decide (f.cond=[]))=true then !(!decide ((CQ f.cond).2.2=(0:Int))) else true
theorem VQ {f:Fl} (h:(!decide (f.cond=[]))=false):JD f=true:=AM h
theorem TW {f:Fl} (h:(!decide (f.cond=[]))=true) (h2:(!decide ((CQ f.cond).2.2=(0:Int)))=false):JD f=true:=by rw [JD,if_pos h,h2];rfl
theorem NI {l l':List Fl} {f:Fl} (h:l.all JD=true) (hl:l'=l++[f]) (hf:JD f=true):l'.all JD=true:=by rw [hl,List.all_append,h];simp [hf]
def HM (m:Md):Bool := !(!decide ((LU m).2.2=(0:Int)))&&m.fls.all JD
theorem aZ {m:Md} (h:(!decide ((LU m).2.2=(0:Int)))=true):HM m=false:=by unfold HM;rw [h];rfl
theorem bA {m:Md} {j:Nat} {f:Fl} (hf:m.fls[j]?=some f) (h:(!decide (f.cond=[]))=true) (h2:(!decide ((CQ f.cond).2.2=(0:Int)))=true):HM m=false:=by
 have:m.fls.all JD=false:=by
  rw [List.all_eq_false];exact ⟨f,List.mem_of_getElem? hf,by rw [JD,if_pos h,h2];decide⟩
 unfold HM;rw [this,Bool.and_false]
theorem gT {m:Md} (h:(!decide ((LU m).2.2=(0:Int)))=false) (h2:m.fls.all JD=true):HM m=true:=by unfold HM;rw [h,h2];rfl
def CndS (w:World) (cn:List UInt8→Option (List UInt8)) (aC:List UInt8→Option Addr) (F:List Nat):Prop:=∀k s,cn k=some s→∃F',(CQ s).1.AtL 112 w (aC k) F'∧∀x∈F',x∈F
theorem CndS.keep {w w':World} {cn:List UInt8→Option (List UInt8)} {aC:List UInt8→Option Addr} {F:List Nat} (h:CndS w cn aC F) (hk:∀g∈F,g<w.heap.size→w'.heap[g]?=w.heap[g]?):CndS w' cn aC F:=λk s hc=>by
 obtain ⟨F',h1,h2⟩:=h k s hc;exact ⟨F',h1.keep (λg hg=>hk g (h2 g hg)),h2⟩
def As.cnd (cn:List UInt8→Option (List UInt8)) (aC:List UInt8→Option Addr) (F:List Nat):As:=⟨F,λw=>CndS w cn aC F,λh hb=>hb.keep h⟩
theorem Mem.pushE {w0 w:World} {S:Nat→Prop} {Ls:List As} (M:Mem w0 S Ls w) (a:As) (h:a.ok w) (hf:a.fp=[]):Mem w0 S (a::Ls) w:=M.push Fr.refl a h (λg hg=>by rw [hf] at hg;cases hg)
theorem Mem.foldC {w0 w:World} {S:Nat→Prop} {Ls:List As} {AX:Option Addr} {FX FC:List Nat} {cn:List UInt8→Option (List UInt8)} {aC:List UInt8→Option Addr} (k s:List UInt8) (M:Mem w0 S (As.xn 112 (CQ s).1 AX FX::As.cnd cn aC FC::Ls) w) :
 Mem w0 S (As.cnd (λk'=>if k'=k then some s else cn k') (λk'=>if k'=k then AX else aC k') (FX++FC)::Ls) w:=by
 have h1:(CQ s).1.AtL 112 w AX FX:=M.ok 0 _ X;have h2:CndS w cn aC FC:=M.ok 1 _ X;refine M.joinFam _ (show CndS w _ _ _ from λk' s' hc=>?_) (λx hx=>List.mem_append.1 hx)
 by_cases hk:k'=k
 ·rw [if_pos hk] at hc
  cases hc
  rw [if_pos hk];exact ⟨FX,h1,λx hx=>List.mem_append_left _ hx⟩
 ·rw [if_neg hk] at hc
  rw [if_neg hk];obtain ⟨F',h3,h4⟩:=h2 k' s' hc;exact ⟨F',h3,λx hx=>List.mem_append_right _ (h4 x hx)⟩
theorem oX {LC:List (List UInt8 × Value)} {cn:List UInt8→Option (List UInt8)} {aC:List UInt8→Option Addr} {f:Fl} {AX:Option Addr} (h:∀k,CA LC k=(cn k).map (λs=>.agg ((CQ s).1.cells (aC k)).toArray)) :
 ∀k,CA (D2 LC f.id (.agg (Xn.cells (CQ f.cond).1 AX).toArray)) k=((if k=f.id then some f.cond else cn k).map (λs=>.agg ((CQ s).1.cells (if k=f.id then AX else aC k)).toArray)):=λk=>by
 rw [EL]
 by_cases hk:k=f.id
 ·rw [if_pos hk,if_pos hk,if_pos hk];rfl
 ·rw [if_neg hk,if_neg hk,if_neg hk];exact h k
def atF (l:List El):List UInt8→El:=l.foldl (λf x=>λk=>if k=x.id then x else f k) (λ_=>zeroEl)
def WT (l:List El):List UInt8→Bool:=l.foldl (λf x=>λk=>if k=x.id then true else f k) (λ_=>false)
def WU (m:Md) (l:List El):List UInt8→List (List UInt8):=l.foldl (λf x=>λk=>if k=x.id then (DR m.fls x.id).map (λu:Fl=>u.id) else f k) (λ_=>[])
def L8 (m:Md) (l:List El):List UInt8→List (List UInt8):=l.foldl (λf x=>λk=>if k=x.id then (C3 m.fls x.id).map (λu:Fl=>u.id) else f k) (λ_=>[])
def flF (l:List Fl):List UInt8→Fl:=l.foldl (λf x=>λk=>if k=x.id then x else f k) (λ_=>zeroFl)
def UM (l:List Fl):List UInt8→Bool:=l.foldl (λf x=>λk=>if k=x.id then true else f k) (λ_=>false)
def cnF (l:List Fl):List UInt8→Option (List UInt8):=l.foldl (λf x=>if x.cond=[] then f else λk=>if k=x.id then some x.cond else f k) (λ_=>none)
theorem pX (l:List El) (x:El):atF (l++[x])=λk=>if k=x.id then x else atF l k:=by unfold atF;rw [List.foldl_append];rfl
theorem iG (l:List El) (x:El):WT (l++[x])=λk=>if k=x.id then true else WT l k:=by unfold WT;rw [List.foldl_append];rfl
theorem iH (m:Md) (l:List El) (x:El):WU m (l++[x])=λk=>if k=x.id then (DR m.fls x.id).map (λu:Fl=>u.id) else WU m l k:=by unfold WU;rw [List.foldl_append];rfl
theorem YP (m:Md) (l:List El) (x:El):L8 m (l++[x])=λk=>if k=x.id then (C3 m.fls x.id).map (λu:Fl=>u.id) else L8 m l k:=by unfold L8;rw [List.foldl_append];rfl
theorem ZB (l:List Fl) (x:Fl):flF (l++[x])=λk=>if k=x.id then x else flF l k:=by unfold flF;rw [List.foldl_append];rfl
theorem VG (l:List Fl) (x:Fl):UM (l++[x])=λk=>if k=x.id then true else UM l k:=by unfold UM;rw [List.foldl_append];rfl
theorem oY {l:List Fl} {x:Fl} (h:x.cond=[]):cnF (l++[x])=cnF l:=by unfold cnF;rw [List.foldl_append];exact if_pos h
theorem eK {l:List Fl} {x:Fl} (h:¬x.cond=[]):cnF (l++[x])=λk=>if k=x.id then some x.cond else cnF l k:=by unfold cnF;rw [List.foldl_append];exact if_neg h
structure CrA where
 a:MdA
 gA:Nat
 gF:Nat
 gI:Nat
 gO:Nat
 gC:Nat
 LA:List (List UInt8 × Value)
 LF:List (List UInt8 × Value)
 LO:List (List UInt8 × Value)
 atf:List UInt8→El
 isA:List UInt8→Bool
 flf:List UInt8→Fl
 isF:List UInt8→Bool
 outs:List UInt8→List (List UInt8)
 LI:List (List UInt8 × Value)
 ins:List UInt8→List (List UInt8)
 LC:List (List UInt8 × Value)
 cnd:List UInt8→Option (List UInt8)
 aC:List UInt8→Option Addr
 FC:List Nat
def CrA.cells (m:Md) (c:CrA):List Value:=[str m.id,str m.nm,.slice c.a.V m.vars.length c.a.vc,.slice c.a.E m.els.length c.a.ec,.slice c.a.F m.fls.length c.a.fc,.map (some c.gA),.map (some c.gF),.map (some c.gI),.map (some c.gO),.map (some c.gC)]
structure CourseN (w:World) (m:Md) (gc:Nat) (c:CrA) (F:List Nat):Prop where
 blk:Blk w gc 90 (c.cells m)
 md:MdN w m c.a F
 A:Mp w c.gA c.LA
 L:Mp w c.gF c.LF
 O:Mp w c.gO c.LO
 getA:∀k,(CA c.LA k).getD (.agg zeroEl.cells.toArray)=.agg (c.atf k).cells.toArray
 isA:∀k,(CA c.LA k).isSome=c.isA k
 getL:∀k,(CA c.LF k).getD (.agg zeroFl.cells.toArray)=.agg (c.flf k).cells.toArray
 isL:∀k,(CA c.LF k).isSome=c.isF k
 getO:∀k,(CA c.LO k).getD (.slice none 0 0)=.slice (NN (EU c.LO k)) (c.outs k).length (aO (EU c.LO k))
 rdO:∀k,Rd w (NN (EU c.LO k)) ((c.outs k).length*1) (AD C0 (c.outs k))
 I:Mp w c.gI c.LI
 C:Mp w c.gC c.LC
 getI:∀k,(CA c.LI k).getD (.slice none 0 0)=.slice (NN (EU c.LI k)) (c.ins k).length (aO (EU c.LI k))
 rdI:∀k,Rd w (NN (EU c.LI k)) ((c.ins k).length*1) (AD C0 (c.ins k))
 getC:∀k,CA c.LC k=(c.cnd k).map (λs=>.agg ((CQ s).1.cells (c.aC k)).toArray)
 ndC:CndS w c.cnd c.aC c.FC
 eA:c.atf=atF m.els
 eB:c.isA=WT m.els
 eI:c.ins=WU m m.els
 eO:c.outs=L8 m m.els
 eL:c.flf=flF m.fls
 eM:c.isF=UM m.fls
 eC:c.cnd=cnF m.fls
 inF:gc∈F∧c.gA∈F∧c.gF∈F∧c.gO∈F∧c.gI∈F∧c.gC∈F
 inI:∀k b off p,NN (EU c.LI k)=some ⟨b,off,p⟩→b∈F
 inC:∀x∈c.FC,x∈F
 inO:∀k b off p,NN (EU c.LO k)=some ⟨b,off,p⟩→b∈F
 lenO:∀k,(c.outs k).length≤m.fls.length
theorem MdN.mono {w:World} {m:Md} {a:MdA} {F F':List Nat} (h:MdN w m a F) (hF:∀x∈F,x∈F'):MdN w m a F':=⟨h.md,λb off p e=>hF b (h.V b off p e),λb off p e=>hF b (h.E b off p e),λb off p e=>hF b (h.L b off p e)⟩
theorem CourseN.keep {w w':World} {m:Md} {gc:Nat} {c:CrA} {F:List Nat} (hk:∀g∈F,g<w.heap.size→w'.heap[g]?=w.heap[g]?) (h:CourseN w m gc c F):CourseN w' m gc c F:=
 ⟨(hk gc h.inF.1 h.blk.lt).trans h.blk,h.md.keep hk,JS h.A hk h.inF.2.1,JS h.L hk h.inF.2.2.1,JS h.O hk h.inF.2.2.2.1,h.getA,h.isA,h.getL,h.isL,h.getO,λk=>HL (h.rdO k) hk (h.inO k),JS h.I hk h.inF.2.2.2.2.1,JS h.C hk h.inF.2.2.2.2.2,h.getI,λk=>HL (h.rdI k) hk (h.inI k),h.getC,h.ndC.keep (λg hg=>hk g (h.inC g hg)),h.eA,h.eB,h.eI,h.eO,h.eL,h.eM,h.eC,h.inF,h.inI,h.inC,h.inO,h.lenO⟩
theorem sL {m:Md} {a':MdA} {w w':World} {g31 g25 g26 g27 g28 g29:Nat} {F0 FO FI FC:List Nat} {LA LF LO LI LC:List (List UInt8 × Value)} {atf:List UInt8→El} {isA isF:List UInt8→Bool} {flf:List UInt8→Fl} {rO rI:List UInt8→List (List UInt8)} {cn:List UInt8→Option (List UInt8)} {aC:List UInt8→Option Addr} {Ls:List As}
 (M:Mem w AR (As.blk g31 90 [str m.id,str m.nm,.slice a'.V m.vars.length a'.vc,.slice a'.E m.els.length a'.ec,.slice a'.F m.fls.length a'.fc,.map (some g25),.map (some g26),.map (some g27),.map (some g28),.map (some g29)]::As.mdp m a' F0::As.mpS g25 LA none::As.mp g26 LF::As.rowS g28 LO none rO FO::As.rowS g27 LI none rI FI::As.mp g29 LC::As.cnd cn aC FC::Ls) w')
 (h1:∀k,(CA LA k).getD (.agg zeroEl.cells.toArray)=.agg (atf k).cells.toArray) (h2:∀k,(CA LA k).isSome=isA k) (h3:∀k,(CA LF k).getD (.agg zeroFl.cells.toArray)=.agg (flf k).cells.toArray) (h4:∀k,(CA LF k).isSome=isF k) (h5:∀k,(rO k).length≤m.fls.length)
 (h6:∀k,CA LC k=(cn k).map (λs=>.agg ((CQ s).1.cells (aC k)).toArray)) (e1:atf=atF m.els) (e2:isA=WT m.els) (e3:rI=WU m m.els) (e4:rO=L8 m m.els) (e5:flf=flF m.fls) (e6:isF=UM m.fls) (e7:cn=cnF m.fls) :
 ∃gc c F,Ending.returned (.tuple #[pg g31,AC 0])=.returned (.tuple #[pg gc,AC 0])∧CourseN w' m gc c F∧∀g∈F,w.heap.size≤g∧g<w'.heap.size:=by
 have hR:RowS w' g28 LO none rO FO:=M.ok 4 _ X;have hA:MpB w' g25 LA:=M.ok 2 _ X;have hO:MpB w' g28 LO:=hR.map;have hI:RowS w' g27 LI none rI FI:=M.ok 5 _ X;have hIm:MpB w' g27 LI:=hI.map
 have hv:∀{g:Nat} {L:List (List UInt8 × Value)} {r:List UInt8→List (List UInt8)} {F:List Nat},RowS w' g L none r F→∀k,(CA L k).getD (.slice none 0 0)=.slice (NN (EU L k)) (r k).length (aO (EU L k))∧Rd w' (NN (EU L k)) ((r k).length*1) (AD C0 (r k))∧∀b off p,NN (EU L k)=some ⟨b,off,p⟩→b∈F:=λ{g L r F} hR k=>by
  obtain ⟨A,C,e1,e2,e3⟩:=hR.row k;rw [show (CA L k).getD (.slice none 0 0)=EU L k from rfl,e1];exact ⟨X,e2,e3⟩
 refine ⟨g31,⟨a',g25,g26,g27,g28,g29,LA,LF,LO,atf,isA,flf,isF,rO,LI,rI,LC,cn,aC,FC⟩,g31::g25::g26::g28::g27::g29::(F0++(FO++(FI++FC))),X,⟨M.blk 0 X,(M.mdN 1 X).mono (λx hx=>by simp [hx]),hA.mp,M.mp 3 X,hO.mp,h1,h2,h3,h4,λk=>(hv hR k).1,λk=>(hv hR k).2.1,hIm.mp,M.mp 6 X,λk=>(hv hI k).1,λk=>(hv hI k).2.1,h6,M.ok 7 _ X,e1,e2,e3,e4,e5,e6,e7,⟨by simp,by simp,by simp,by simp,by simp,by simp⟩,λk b off p e=>by simp [(hv hI k).2.2 b off p e],λx hx=>by simp [show x∈FC from hx],λk b off p e=>by simp [(hv hR k).2.2 b off p e],h5⟩,?_⟩;intro g hg;simp only [List.mem_cons,List.mem_append] at hg
 rcases hg with rfl|rfl|rfl|rfl|rfl|rfl|hg|hg|hg|hg
 ·exact M.new0 0 X _ (by simp [As.blk])
 ·exact M.new0 2 X _ (by simp [As.mpS])
 ·exact M.new0 3 X _ (by simp [As.mp])
 ·exact M.new0 4 X _ List.mem_cons_self
 ·exact M.new0 5 X _ List.mem_cons_self
 ·exact M.new0 6 X _ (by simp [As.mp])
 ·exact M.new0 1 X g hg
 ·exact M.new0 4 X g (List.mem_cons_of_mem _ hg)
 ·exact M.new0 5 X g (List.mem_cons_of_mem _ hg)
 ·exact M.new0 7 X g hg
theorem JH (c0_0 c0_1 c0_2 c0_3 c0_4:Value) (a1:Option Nat) (a2:Option Nat) (a3:Option Nat) (a4:Option Nat) (a5:Option Nat):prog.built 90 [(0,.agg #[c0_0,c0_1,c0_2,c0_3,c0_4]),(1,.map a1),(2,.map a2),(3,.map a3),(4,.map a4),(5,.map a5)]=some #[c0_0,c0_1,c0_2,c0_3,c0_4,.map a1,.map a2,.map a3,.map a4,.map a5]:=by kernel_rfl
theorem D4 : (prog.info? 48).map (·.zero)=some (some (.slice none 0 0)):=by kernel_rfl
theorem dJ (m:Md) (a:MdA) (w:World) (hb:MdB m) (hM:MdIn w m a) (hY:Lay0 w) :
 Calls prog 16 #[.agg (Md.cells m a).toArray] w λe w'=>((HM m=true∧∃gc c F,e=.returned (.tuple #[pg gc,AC 0])∧CourseN w' m gc c F∧∀g∈F,w.heap.size≤g∧g<w'.heap.size)∨(HM m=false∧e=.returned (.tuple #[.pointer none,AC 140])))∧Fr0 w w':=by
 refine BH func16 ntmps16 X λM=>srg (CC M X X λg1 w1 hg1 M=>yb X (AJ X (sx_seq (srg (CB M 0 X X underlying62 BN X (CD M 17 X X call38 (WI m a _ hb (hM.fr0 M.fr) (hY.fr0 M.fr)) λw2 M=>?_))))))
 iterate 7 refine yb X ?_
 refine nq (AE X (CT X X (nq (AF X (λh22=>?_) (λh22=>?_)))))
 ·exact AE X (yb X (gnr (qx_then_ret (C4 X X X ⟨.inr ⟨aZ h22,X⟩,M.fr⟩))))
 ·have h22p:=(odt (BL h22));have ho:=m9 hb h22p;have hne:=ho.nels;have hnf:=ho.nfls;refine sx_skip (qx_seq (srg (CB M 0 X X underlying62 BN X (cl 24 X (AG X X call39) (cR m a _ ho (hM.fr0 M.fr)) ?_))));rintro _ w3 ⟨a',F0,rfl,hmd,hnw,hfw3⟩;refine ⟨_,X,?_⟩;have M:=M.push hfw3 (As.mdp m a' F0) hmd hnw;refine SL M (wn_none X) X X X λg25 w4 hg25 M=>I5 M (wn_none X) X X X λg26 w5 hg26 M=>SL M (wn_none X) X X X λg27 w6 hg27 M=>?_
  have M:=M.toRow 0 X;refine SL M (wn_none X) X X X λg28 w7 hg28 M=>?_
  have M:=M.toRow 0 X;refine I5 M (wn_none X) X X X λg29 w8 hg29 M=>ya X (AY (parts:=[(0,_),(1,_),(2,_),(3,_),(4,_),(5,_)]) X X (JH _ _ _ _ _ _ _ _ _ _)) (D6 M (wn_none X) X X 90 X X ([str m.id,str m.nm,.slice a'.V m.vars.length a'.vc,.slice a'.E m.els.length a'.ec,.slice a'.F m.fls.length a'.fc,.map (some g25),.map (some g26),.map (some g27),.map (some g28),.map (some g29)]) X λg31 w9 hg31 M=>AJ X (sx_seq (srg ?_)))
  iterate 4 refine yb X ?_
  refine AU M 0 X X X (DF X X (AJ X (sx_block (flp [37,36,7,1] (λze e wr mz=>∃(i:Nat) (LA:List (List UInt8 × Value)) (atf:List UInt8→El) (isA:List UInt8→Bool) (LI:List (List UInt8 × Value)) (rI:List UInt8→List (List UInt8)) (FI:List Nat) (LO:List (List UInt8 × Value)) (rO:List UInt8→List (List UInt8)) (FO:List Nat),e=(38,AC (i:Int))::ze∧Mem w AR [As.blk g31 90 [str m.id,str m.nm,.slice a'.V m.vars.length a'.vc,.slice a'.E m.els.length a'.ec,.slice a'.F m.fls.length a'.fc,.map (some g25),.map (some g26),.map (some g27),.map (some g28),.map (some g29)],As.mp g29 [],As.rowS g28 LO none rO FO,As.rowS g27 LI none rI FI,As.mp g26 [],As.mpS g25 LA none,As.mdp m a' F0,As.blk g1 62 (Md.cells m a)] wr∧(i≤m.els.length)∧(∀k,(CA LA k).getD (.agg zeroEl.cells.toArray)=.agg (atf k).cells.toArray∧(CA LA k).isSome=isA k)∧(∀k,(rO k).length≤m.fls.length)∧(atf=atF (m.els.take i))∧(isA=WT (m.els.take i))∧(rI=WU m (m.els.take i))∧(rO=L8 m (m.els.take i))∧mz=m.els.length-i) ⟨0,[],(λ_=>zeroEl),(λ_=>false),[],(λ_=>[]),[],[],(λ_=>[]),[],X,M,Nat.zero_le _,λ_=>⟨X,X⟩,λ_=>Nat.zero_le _,X,X,X,X,X⟩ ?_))));rintro _ w10 _ ⟨i,LA,atf,isA,LI,rI,FI,LO,rO,FO,rfl,M,hi,hA,hOl,hAe,hBe,hIe,hOe,rfl⟩;refine srg (BB X X (nq (sx_seq (AF X (λh39=>?_) (λh39=>?_)))))
  ·have h39p:=(odt h39);refine sx_skip (qx_seq (sx_seq (sx_block (srg ?_))));obtain ⟨x,hx⟩:=BM (l:=m.els) (i:=i) AA;obtain ⟨b_x,o_x,hA_x⟩:=B5 (k:=11) AA ((M.mdN 6 X).md.els) hx;refine ya X (AN i hA_x X X X (sl X) AA) (ya X (AK X X (B6 El.len ((M.mdN 6 X).md.els) hA_x hx) underlying95 X AQ) (CI M X AT λg9 w11 hg9 M=>BD M 0 X X AQ X λw12 M=>nq (EH 36 (λw'=>Mem w AR [As.blk g9 95 (El.cells x),As.blk g31 90 [str m.id,str m.nm,.slice a'.V m.vars.length a'.vc,.slice a'.E m.els.length a'.ec,.slice a'.F m.fls.length a'.fc,.map (some g25),.map (some g26),.map (some g27),.map (some g28),.map (some g29)],As.mp g29 [],As.mp g26 [],As.mdp m a' F0,As.blk g1 62 (Md.cells m a)] w') CH ?_)));have M:=M.drew;refine oc 0 36 X X (M.pk [0,1,2,5,7,8]) (oc 1 36 X X (M.pk [0,1,2,5,7,8]) (oc 2 36 X X (M.pk [0,1,2,5,7,8]) (ol 3 36 X X X (M.pk [0,1,2,5,7,8]) (λ_ M=>(M.cell 1 X X)) (oc 4 36 X X (M.pk [0,1,2,5,7,8]) (ol 5 36 X X X (M.pk [0,1,2,5,7,8]) (λ_ M=>(M.cell 0 X X)) (oc 6 36 X X (M.pk [0,1,2,5,7,8]) (oc 7 36 X X (M.pk [0,1,2,5,7,8]) (oc 8 36 X X (M.pk [0,1,2,5,7,8]) (ol 9 36 X X X (M.pk [0,1,2,5,7,8]) (λ_ M=>(M.cell 1 X X)) (oc 10 36 X X (M.pk [0,1,2,5,7,8]) (ol 11 36 X X X (M.pk [0,1,2,5,7,8]) (λ_ M=>(M.cell 0 X X)) (oc 12 36 X X (M.pk [0,1,2,5,7,8]) (oc 13 36 X X (M.pk [0,1,2,5,7,8]) (oc 14 36 X X (M.pk [0,1,2,5,7,8]) (ol 15 36 X X X (M.pk [0,1,2,5,7,8]) (λ_ M=>(M.cell 1 X X)) ?_)))))))))))))));refine oc 16 36 X X (M.pk [0,1,2,5,7,8]) (ol 17 36 X X X (M.pk [0,1,2,5,7,8]) (λ_ M=>(M.cell 0 X X)) (oa 18 36 X X (M.pk [0,1,2,5,7,8]) (λ_ M=>AK (xs:=El.cells x) X X (M.rdBlk 0 X X) underlying95 X AQ) (oa 19 36 X X (M.pk [0,1,2,5,7,8]) (λ_ M=>AK (xs:=Md.cells m a) X X (M.rdBlk 5 X X) underlying62 X BN) (oc 20 36 X X (M.pk [0,1,2,5,7,8]) (ol 21 36 X X X (M.pk [0,1,2,5,7,8]) (λ_ M=>(M.cell 0 X X)) (oa 23 36 X X (M.pk [0,1,2,5,7,8]) (λ_ M=>AK (xs:=Md.cells m a) X X (M.rdBlk 5 X X) underlying62 X BN) (oc 24 36 X X (M.pk [0,1,2,5,7,8]) (ol 25 36 X X X (M.pk [0,1,2,5,7,8]) (λ_ M=>(M.cell 0 X X)) (BQ 22 (some 64) gkr X (wn_none X) X X (AG X X call40) (tC m a x.id _ ho (hM.fr0 M.fr)) ?_)))))))));rintro _ w13 ⟨A64,c64,rfl,how13,hfw13⟩;refine ⟨_,X,λ_=>(M.pk [0,1,2,5,7,8]).step hfw13,?_⟩;have M:=M.pushOwn hfw13 (Nat.le_refl _) how13;have hL64:=M.ownLen 0 X;refine BQ 26 (some 68) gkr X (wn_none X) X X (AG X X call41) (m6 m a x.id _ ho (hM.fr0 M.fr)) ?_;rintro _ w14 ⟨A68,c68,rfl,how14,hfw14⟩;refine ⟨_,X,λ_=>(M.pk [1,2,3,6,8,9]).step hfw14,?_⟩;have M:=M.pushOwn hfw14 (Nat.le_refl _) how14;have hL68:=M.ownLen 0 X;refine B2 27 (some 69) gkr X (wn_none X) X X (λρ hρ=>K8 X (hρ _ _ X) (hρ _ _ X) underlying85 underlying9 AT (M.mpS 8 X)) ?_;rintro _ w15 ⟨b69,rfl,hfw15,hEw15⟩;have M:=M.entA 8 X hfw15 hEw15;refine ⟨λ_=>(M.pk [2,3,4,7,9,10]),oc 28 36 X X (M.pk [2,3,4,7,9,10]) (B2 29 none gkr X (wn_none X) X X (λρ hρ=>II X (hρ _ _ X) (hρ _ _ X) (hρ _ _ X) (M.mpS 8 X)) ?_)⟩;rintro _ w16 ⟨rfl,hfw16,hbw16⟩;rw [KL] at hbw16
   have M:=M.putA 8 X hfw16 hbw16;refine ⟨λ_=>(M.pk [2,3,4,7,9,10]),B2 30 (some 71) gkr X (wn_none X) X X (λρ hρ=>K8 X (hρ _ _ X) (hρ _ _ X) underlying87 underlying9 D4 ((M.rowS 6 X).map)) ?_⟩;rintro _ w17 ⟨b71,rfl,hfw17,hEw17⟩;have M:=M.entR 6 X hfw17 hEw17;refine ⟨λ_=>(M.pk [2,3,4,7,9,10]),oc 31 36 X X (M.pk [2,3,4,7,9,10]) (B2 32 none gkr X (wn_none X) X X (λρ hρ=>II X (hρ _ _ X) (hρ _ _ X) (hρ _ _ X) ((M.rowS 6 X).map)) ?_)⟩;rintro _ w18 ⟨rfl,hfw18,hbw18⟩;obtain ⟨F2I,M⟩:=Mem.putR (M.pk [1,6,0,2,3,4,5,7,8,9,10]) hfw18 hbw18 X;rw [KL] at M
   have M:=M.pk [1,2,3,4,5,0,6,7,8,9];refine ⟨λ_=>(M.pk [1,2,3,6,8,9]),B2 33 (some 73) gkr X (wn_none X) X X (λρ hρ=>K8 X (hρ _ _ X) (hρ _ _ X) underlying87 underlying9 D4 ((M.rowS 4 X).map)) ?_⟩;rintro _ w19 ⟨b73,rfl,hfw19,hEw19⟩;have M:=M.entR 4 X hfw19 hEw19;refine ⟨λ_=>(M.pk [1,2,3,6,8,9]),oc 34 36 X X (M.pk [1,2,3,6,8,9]) (B2 35 none gkr X (wn_none X) X X (λρ hρ=>II X (hρ _ _ X) (hρ _ _ X) (hρ _ _ X) ((M.rowS 4 X).map)) ?_)⟩;rintro _ w20 ⟨rfl,hfw20,hbw20⟩;obtain ⟨F2O,M⟩:=Mem.putR (M.pk [0,4,1,2,3,5,6,7,8,9]) hfw20 hbw20 X;rw [KL] at M
   have M:=M.pk [1,2,3,0,4,5,6,7,8];refine ⟨λ_=>(M.pk [0,1,2,5,7,8]),fdn (qx_block_normal (qx_seq (sx_region (BV X X (yb X (sxl_nil (fag ⟨i+1,(D2 LA x.id (.agg (El.cells x).toArray)),(λk=>if k=x.id then x else atf k),(λk=>if k=x.id then true else isA k),(D2 LI x.id (.slice A64 (((DR m.fls x.id).map (λu:Fl=>u.id)).length) c64)),(λk'=>if k'=x.id then ((DR m.fls x.id).map (λu:Fl=>u.id)) else rI k'),F2I,(D2 LO x.id (.slice A68 (((C3 m.fls x.id).map (λu:Fl=>u.id)).length) c68)),(λk'=>if k'=x.id then ((C3 m.fls x.id).map (λu:Fl=>u.id)) else rO k'),F2O,X,(M.pk [1,2,3,4,5,6,7,8]),?_,?_,?_,?_,?_,?_,?_,X⟩)))))))⟩
   ·omega
   ·exact xY hA
   ·exact sX hOl
   ·rw [AP hx,pX,←hAe]
   ·rw [AP hx,iG,←hBe]
   ·rw [AP hx,iH,←hIe]
   ·rw [AP hx,YP,←hOe]
  ·have h39p:=(odf h39);refine sx_exit (qx_then_exit (qx_then_exit ?_));have hiE:i=m.els.length:=by omega
   rw [hiE,List.take_length] at hAe hBe hIe hOe
   refine qx_block_hit (qx_seq (sx_seq (srg ?_)));iterate 4 refine yb X ?_
   refine AU M 0 X X X (DF X X (AJ X (sx_block ?_)));have M:=M.pushE (As.cnd (λ_=>none) (λ_=>none) []) (λ_ _ h=>by cases h) X;refine flp [81,80,7] (λze e wr mz=>∃(j:Nat) (LF:List (List UInt8 × Value)) (flf:List UInt8→Fl) (isF:List UInt8→Bool) (LC:List (List UInt8 × Value)) (cn:List UInt8→Option (List UInt8)) (aC:List UInt8→Option Addr) (FC:List Nat),e=(82,AC (j:Int))::ze∧Mem w AR [As.cnd cn aC FC,As.blk g31 90 [str m.id,str m.nm,.slice a'.V m.vars.length a'.vc,.slice a'.E m.els.length a'.ec,.slice a'.F m.fls.length a'.fc,.map (some g25),.map (some g26),.map (some g27),.map (some g28),.map (some g29)],As.mp g29 LC,As.rowS g28 LO none rO FO,As.rowS g27 LI none rI FI,As.mp g26 LF,As.mpS g25 LA none,As.mdp m a' F0,As.blk g1 62 (Md.cells m a)] wr∧(j≤m.fls.length)∧(∀k,(CA LF k).getD (.agg zeroFl.cells.toArray)=.agg (flf k).cells.toArray∧(CA LF k).isSome=isF k)∧((m.fls.take j).all JD=true)∧(∀k,CA LC k=(cn k).map (λs=>.agg ((CQ s).1.cells (aC k)).toArray))∧(flf=flF (m.fls.take j))∧(isF=UM (m.fls.take j))∧(cn=cnF (m.fls.take j))∧mz=m.fls.length-j) ⟨0,[],(λ_=>zeroFl),(λ_=>false),[],(λ_=>none),(λ_=>none),[],X,M,Nat.zero_le _,λ_=>⟨X,X⟩,X,λ_=>X,X,X,X,X⟩ ?_;rintro _ w21 _ ⟨j,LF,flf,isF,LC,cn,aC,FC,rfl,M,hj,hFl,hC,hCn,hFe,hGe,hCe,rfl⟩;refine srg (BB X X (nq (sx_seq (AF X (λh83=>?_) (λh83=>?_)))))
   ·have h83p:=(odt h83);refine sx_skip (qx_seq (sx_seq (sx_block (srg ?_))));obtain ⟨f,hf⟩:=BM (l:=m.fls) (i:=j) AA;obtain ⟨b_f,o_f,hA_f⟩:=B5 (k:=4) AA ((M.mdN 7 X).md.fls) hf;refine ya X (AN j hA_f X X X (sl X) AA) (ya X (AK X X (B6 Fl.len ((M.mdN 7 X).md.fls) hA_f hf) underlying109 X CM) (CI M X EN λg11 w22 hg11 M=>BD M 0 X X CM X λw23 M=>nq (sx_seq (CY 7 CH gkr ?_))));have M:=M.drew;refine sb X (sb X (sb X (EB M 2 X X X (sb X (EB M 0 X X X (sa X (AK (xs:=Fl.cells f) X X (M.rdBlk 0 X X) underlying109 X CM) (C8 (FH M 6 (wn_none X) X X X X X underlying86 underlying9 X λw24 M=>nq (AE X (AU M 0 X X X ?_))))))))));refine ya X (GT X X X) (nq (AF X (λh95=>?_) (λh95=>?_)))
    ·have h95p:=(odf (C5 h95));refine AE X (AU M 0 X X X (cl 99 X (AG X X call42) (YI f.cond _ (by have:=(ho.fls f (List.mem_of_getElem? hf)).cond;omega) (hY.fr0 M.fr)) ?_));rintro _ w25 ⟨AX,FX,rfl,hat,hnx,hfw25⟩;refine ⟨_,X,?_⟩;have M:=M.push hfw25 (As.xn 112 (CQ f.cond).1 AX FX) hat hnx;iterate 4 refine yb X ?_
     refine CI M X CW λg12 w26 hg12 M=>BD M 0 X X AO X λw27 M=>yb X (AJ X (sx_seq (AE X (CT X X (nq (AF X (λh104=>?_) (λh104=>?_)))))))
     ·exact AE X (yb X (gnr (qx_then_ret (qx_block_ret (qx_then_ret (qx_then_ret (qx_block_ret (qx_then_ret (C4 X X X ⟨.inr ⟨bA hf h95 h104,X⟩,M.fr⟩)))))))))
     ·have h104p:=(odt (BL h104));refine sx_skip (qx_seq (CY 7 CH gkr ?_));have M:=M.drew;refine sb X (sb X (sb X (EB M 4 X X X (sb X (EB M 2 X X X (sa X (AK (xs:=Xn.cells (CQ f.cond).1 AX) X X (M.rdBlk 0 X X) underlying112 X AO) (C8 (FH M 5 (wn_none X) X X X X X underlying88 underlying9 X λw28 M=>sxl_nil (qx_block_normal (qx_seq (sx_region (BV X X (yb X ?_)))))))))))));refine sxl_nil ?_;have M:=Mem.foldC f.id f.cond (M.pk [1,3,0,2,4,5,6,7,8,9,10,11]);refine fag ⟨j+1,D2 LF f.id (.agg (Fl.cells f).toArray),(λk=>if k=f.id then f else flf k),(λk=>if k=f.id then true else isF k),D2 LC f.id (.agg (Xn.cells (CQ f.cond).1 AX).toArray),(λk'=>if k'=f.id then some f.cond else cn k'),(λk'=>if k'=f.id then AX else aC k'),(FX++FC),X,(M.pk [0,3,4,5,6,7,8,9,10]),?_,?_,?_,?_,?_,?_,?_,X⟩
      ·omega
      ·exact nY hFl
      ·first
        | exact NI hC (AP hf) (VQ h95)
        | exact NI hC (AP hf) (TW h95 h104)
      ·first
        | exact hCn
        | exact oX hCn
      ·rw [AP hf,ZB,←hFe]
      ·rw [AP hf,VG,←hGe]
      ·first
        | rw [AP hf,oY h95p,←hCe]
        | rw [AP hf,eK h95p,←hCe]
    ·have h95p:=(odt (BL h95));refine sx_skip (qx_block_normal (qx_seq (sx_region (BV X X (yb X (sxl_nil (fag ⟨j+1,D2 LF f.id (.agg (Fl.cells f).toArray),(λk=>if k=f.id then f else flf k),(λk=>if k=f.id then true else isF k),LC,cn,aC,FC,X,(M.pk [1,2,3,4,5,6,7,8,9]),?_,?_,?_,?_,?_,?_,?_,X⟩)))))))
     ·omega
     ·exact nY hFl
     ·first
       | exact NI hC (AP hf) (VQ h95)
       | exact NI hC (AP hf) (TW h95 h104)
     ·first
       | exact hCn
       | exact oX hCn
     ·rw [AP hf,ZB,←hFe]
     ·rw [AP hf,VG,←hGe]
     ·first
       | rw [AP hf,oY h95p,←hCe]
       | rw [AP hf,eK h95p,←hCe]
   ·have h83p:=(odf h83);refine sx_exit (qx_then_exit (qx_then_exit ?_));have hjE:j=m.fls.length:=by omega
    rw [hjE,List.take_length] at hC hFe hGe hCe
    exact qx_block_hit (qx_seq (AE X (AV X X (gnr (C4 X X X ⟨.inl ⟨gT h22 hC,sL (M.pk [1,7,6,5,3,4,2,0]) (λk=>(hA k).1) (λk=>(hA k).2) (λk=>(hFl k).1) (λk=>(hFl k).2) hOl hCn hAe hBe hIe hOe hFe hGe hCe⟩,M.fr⟩)))))
theorem wN (m:Md) (a:MdA) (w:World) (ho:MdOk m) (hM:MdIn w m a) (hY:Lay0 w) :
 Calls prog 16 #[.agg (Md.cells m a).toArray] w λe w'=>((HM m=true∧∃gc c F,e=.returned (.tuple #[pg gc,AC 0])∧CourseN w' m gc c F∧∀g∈F,w.heap.size≤g∧g<w'.heap.size)∨(HM m=false∧e=.returned (.tuple #[.pointer none,AC 140])))∧Fr0 w w':=dJ m a w ho.b hM hY
end Go.Proofs.YtaheakjfkpkefaaGreatDoor
