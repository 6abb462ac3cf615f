/- Lemmas. -/
import Derived.Test.YtppmdnmjepkfaaaGreatDoorYMv3
set_option maxHeartbeats 16000000
set_option maxRecDepth 100000
namespace Go.Proofs.YtppmdnmjepkfaaaGreatDoor
open Go.RowKit
open Tryz
open Decidable renaming decide→O
open Option renaming some→G,none→zx
open Bool renaming true→zz,false→zy
open True renaming intro→zw
open Go.Proofs.Tryz renaming prog→zv
open Go renaming Calls→zt
theorem a2P {L:List (Kz × Kv)} {f:Kz→El} {is:Kz→Bool} {x:El} (h:∀k,(CG L k).getD (.agg zeroEl.cells.toArray)=.agg (f k).cells.toArray∧(CG L k).isSome=is k) :
 ∀k,(CG (DG L x.id (.agg (El.cells x).toArray)) k).getD (.agg zeroEl.cells.toArray)=.agg ((if k=x.id then x else f k)).cells.toArray∧(CG (DG L x.id (.agg (El.cells x).toArray)) k).isSome=(if k=x.id then zz else is k):=λk=>by
 rw [G6]
 by_cases hk:k=x.id
 ·rw [Ac hk,Ac hk,Ac hk];exact ⟨rfl,rfl⟩
 rw [Ae hk,Ae hk,Ae hk];exact h k
theorem a0f {m:Md} {r:Kz→List Kz} {x:El} (h:∀k,(r k).length≤m.fls.length):∀k,((λk'=>if k'=x.id then (BV m.fls x.id).map (λu:Fl=>u.id) else r k') k).length≤m.fls.length:=λk=>by
 simp only
 split
 ·rw [Br];exact F4 _ _
 exact h k
theorem vT {L:List (Kz × Kv)} {f:Kz→Fl} {is:Kz→Bool} {x:Fl} (h:∀k,(CG L k).getD (.agg zeroFl.cells.toArray)=.agg (f k).cells.toArray∧(CG L k).isSome=is k) :
 ∀k,(CG (DG L x.id (.agg (Fl.cells x).toArray)) k).getD (.agg zeroFl.cells.toArray)=.agg ((if k=x.id then x else f k)).cells.toArray∧(CG (DG L x.id (.agg (Fl.cells x).toArray)) k).isSome=(if k=x.id then zz else is k):=λk=>by
 rw [G6]
 by_cases hk:k=x.id
 ·rw [Ac hk,Ac hk,Ac hk];exact ⟨rfl,rfl⟩
 rw [Ae hk,Ae hk,Ae hk];exact h k
def K4 (f:Fl):Bool:=if (!decide (f.cond=[]))=zz then !(!decide ((CT f.cond).2.2=(0:Int))) else zz
theorem aF {f:Fl} (h:(!decide (f.cond=[]))=zy):K4 f=zz:=AN h
theorem XW {f:Fl} (h:(!decide (f.cond=[]))=zz) (h2:(!decide ((CT f.cond).2.2=(0:Int)))=zy):K4 f=zz:=by rw [K4,Ac h,h2];rfl
theorem PW {l l':List Fl} {f:Fl} (h:l.all K4=zz) (hl:l'=l++[f]) (hf:K4 f=zz):l'.all K4=zz:=by rw [hl,Gh,h];simp [hf]
def HC (m:Md):Bool := !(!decide ((LR m).2.2=(0:Int)))&&m.fls.all K4
theorem jO {m:Md} (h:(!decide ((LR m).2.2=(0:Int)))=zz):HC m=zy:=by unfold HC;rw [h];rfl
theorem jP {m:Md} {j:Nat} {f:Fl} (hf:m.fls[j]?=G f) (h:(!decide (f.cond=[]))=zz) (h2:(!decide ((CT f.cond).2.2=(0:Int)))=zz):HC m=zy:=by
 have:m.fls.all K4=zy:=by
  rw [List.all_eq_false];exact ⟨f,Ah hf,by rw [K4,Ac h,h2];decide⟩
 unfold HC;rw [this,En]
theorem oO {m:Md} (h:(!decide ((LR m).2.2=(0:Int)))=zy) (h2:m.fls.all K4=zz):HC m=zz:=by unfold HC;rw [h,h2];rfl
def CndS (w:Kw) (cn:Kz→Option Kz) (aC:Kz→Ky) (F:List Nat):Prop:=∀k s,cn k=G s→∃F',(CT s).1.AtL 113 w (aC k) F'∧∀x∈F',x∈F
theorem CndS.keep {w w':Kw} {cn:Kz→Option Kz} {aC:Kz→Ky} {F:List Nat} (h:CndS w cn aC F) (hk:∀g∈F,g<w.heap.size→w'.heap[g]?=w.heap[g]?):CndS w' cn aC F:=λk s hc=>by
 obtain ⟨F',h1,h2⟩:=h k s hc;exact ⟨F',h1.keep (λg hg=>hk g (h2 g hg)),h2⟩
def As.cnd (cn:Kz→Option Kz) (aC:Kz→Ky) (F:List Nat):As:=⟨F,λw=>CndS w cn aC F,λh hb=>hb.keep h⟩
theorem Mem.pushE {w0 w:Kw} {S:Nat→Prop} {Ls:List As} (M:Mem w0 S Ls w) (a:As) (h:a.ok w) (hf:a.fp=[]):Mem w0 S (a::Ls) w:=M.push Fr.refl a h (λg hg=>by rw [hf] at hg;cases hg)
theorem Mem.foldC {w0 w:Kw} {S:Nat→Prop} {Ls:List As} {AX:Ky} {FX FC:List Nat} {cn:Kz→Option Kz} {aC:Kz→Ky} (k s:Kz) (M:Mem w0 S (As.xn 113 (CT s).1 AX FX::As.cnd cn aC FC::Ls) w) :
 Mem w0 S (As.cnd (λk'=>if k'=k then G s else cn k') (λk'=>if k'=k then AX else aC k') (FX++FC)::Ls) w:=by
 have h1:(CT s).1.AtL 113 w AX FX:=M.ok 0 _ X;have h2:CndS w cn aC FC:=M.ok 1 _ X;refine M.joinFam _ (show CndS w _ _ _ from λk' s' hc=>?_) (λx hx=>Bp.1 hx)
 by_cases hk:k'=k
 ·rw [Ac hk] at hc
  cases hc
  rw [Ac hk];exact ⟨FX,h1,λx hx=>Ds _ hx⟩
 rw [Ae hk] at hc
 rw [Ae hk];obtain ⟨F',h3,h4⟩:=h2 k' s' hc;exact ⟨F',h3,λx hx=>Cy _ (h4 x hx)⟩
theorem wT {LC:List (Kz × Kv)} {cn:Kz→Option Kz} {aC:Kz→Ky} {f:Fl} {AX:Ky} (h:∀k,CG LC k=(cn k).map (λs=>.agg ((CT s).1.cells (aC k)).toArray)) :
 ∀k,CG (DG LC f.id (.agg (Xn.cells (CT f.cond).1 AX).toArray)) k=((if k=f.id then G f.cond else cn k).map (λs=>.agg ((CT s).1.cells (if k=f.id then AX else aC k)).toArray)):=λk=>by
 rw [G6]
 by_cases hk:k=f.id
 ·rw [Ac hk,Ac hk,Ac hk];rfl
 rw [Ae hk,Ae hk,Ae hk];exact h k
def atF (l:List El):Kz→El:=l.foldl (λf x=>λk=>if k=x.id then x else f k) (λ_=>zeroEl)
def YQ (l:List El):Kz→Bool:=l.foldl (λf x=>λk=>if k=x.id then zz else f k) (λ_=>zy)
def bY (m:Md) (l:List El):Kz→List Kz:=l.foldl (λf x=>λk=>if k=x.id then (E5 m.fls x.id).map (λu:Fl=>u.id) else f k) (λ_=>[])
def NZ (m:Md) (l:List El):Kz→List Kz:=l.foldl (λf x=>λk=>if k=x.id then (BV m.fls x.id).map (λu:Fl=>u.id) else f k) (λ_=>[])
def flF (l:List Fl):Kz→Fl:=l.foldl (λf x=>λk=>if k=x.id then x else f k) (λ_=>zeroFl)
def bX (l:List Fl):Kz→Bool:=l.foldl (λf x=>λk=>if k=x.id then zz else f k) (λ_=>zy)
def cnF (l:List Fl):Kz→Option Kz:=l.foldl (λf x=>if x.cond=[] then f else λk=>if k=x.id then G x.cond else f k) (λ_=>zx)
theorem xK (l:List El) (x:El):atF (l++[x])=λk=>if k=x.id then x else atF l k:=by unfold atF;rw [Dq];rfl
theorem oY (l:List El) (x:El):YQ (l++[x])=λk=>if k=x.id then zz else YQ l k:=by unfold YQ;rw [Dq];rfl
theorem p4 (m:Md) (l:List El) (x:El):bY m (l++[x])=λk=>if k=x.id then (E5 m.fls x.id).map (λu:Fl=>u.id) else bY m l k:=by unfold bY;rw [Dq];rfl
theorem fF (m:Md) (l:List El) (x:El):NZ m (l++[x])=λk=>if k=x.id then (BV m.fls x.id).map (λu:Fl=>u.id) else NZ m l k:=by unfold NZ;rw [Dq];rfl
theorem gJ (l:List Fl) (x:Fl):flF (l++[x])=λk=>if k=x.id then x else flF l k:=by unfold flF;rw [Dq];rfl
theorem ZS (l:List Fl) (x:Fl):bX (l++[x])=λk=>if k=x.id then zz else bX l k:=by unfold bX;rw [Dq];rfl
theorem wU {l:List Fl} {x:Fl} (h:x.cond=[]):cnF (l++[x])=cnF l:=by unfold cnF;rw [Dq];exact Ac h
theorem mS {l:List Fl} {x:Fl} (h:¬x.cond=[]):cnF (l++[x])=λk=>if k=x.id then G x.cond else cnF l k:=by unfold cnF;rw [Dq];exact Ae h
structure CrA where
 a:MdA
 gA:Nat
 gF:Nat
 gI:Nat
 gO:Nat
 gC:Nat
 LA:List (Kz × Kv)
 LF:List (Kz × Kv)
 LO:List (Kz × Kv)
 atf:Kz→El
 isA:Kz→Bool
 flf:Kz→Fl
 isF:Kz→Bool
 outs:Kz→List Kz
 LI:List (Kz × Kv)
 ins:Kz→List Kz
 LC:List (Kz × Kv)
 cnd:Kz→Option Kz
 aC:Kz→Ky
 FC:List Nat
def CrA.cells (m:Md) (c:CrA):Kx:=[str m.id,str m.nm,.slice c.a.V m.vars.length c.a.vc,.slice c.a.E m.els.length c.a.ec,.slice c.a.F m.fls.length c.a.fc,.map (G c.gA),.map (G c.gF),.map (G c.gI),.map (G c.gO),.map (G c.gC)]
structure CourseN (w:Kw) (m:Md) (gc:Nat) (c:CrA) (F:List Nat):Prop where
 blk:Blk w gc 104 (c.cells m)
 md:MdN w m c.a F
 A:Mp w c.gA c.LA
 L:Mp w c.gF c.LF
 O:Mp w c.gO c.LO
 getA:∀k,(CG c.LA k).getD (.agg zeroEl.cells.toArray)=.agg (c.atf k).cells.toArray
 isA:∀k,(CG c.LA k).isSome=c.isA k
 getL:∀k,(CG c.LF k).getD (.agg zeroFl.cells.toArray)=.agg (c.flf k).cells.toArray
 isL:∀k,(CG c.LF k).isSome=c.isF k
 getO:∀k,(CG c.LO k).getD (.slice zx 0 0)=.slice (Q2 (GH c.LO k)) (c.outs k).length (j3 (GH c.LO k))
 rdO:∀k,Rd w (Q2 (GH c.LO k)) ((c.outs k).length*1) (AF BH (c.outs k))
 I:Mp w c.gI c.LI
 C:Mp w c.gC c.LC
 getI:∀k,(CG c.LI k).getD (.slice zx 0 0)=.slice (Q2 (GH c.LI k)) (c.ins k).length (j3 (GH c.LI k))
 rdI:∀k,Rd w (Q2 (GH c.LI k)) ((c.ins k).length*1) (AF BH (c.ins k))
 getC:∀k,CG c.LC k=(c.cnd k).map (λs=>.agg ((CT s).1.cells (c.aC k)).toArray)
 ndC:CndS w c.cnd c.aC c.FC
 eA:c.atf=atF m.els
 eB:c.isA=YQ m.els
 eI:c.ins=bY m m.els
 eO:c.outs=NZ m m.els
 eL:c.flf=flF m.fls
 eM:c.isF=bX m.fls
 eC:c.cnd=cnF m.fls
 inF:gc∈F∧c.gA∈F∧c.gF∈F∧c.gO∈F∧c.gI∈F∧c.gC∈F
 inI:∀k b off p,Q2 (GH c.LI k)=G ⟨b,off,p⟩→b∈F
 inC:∀x∈c.FC,x∈F
 inO:∀k b off p,Q2 (GH c.LO k)=G ⟨b,off,p⟩→b∈F
 lenO:∀k,(c.outs k).length≤m.fls.length
theorem MdN.mono {w:Kw} {m:Md} {a:MdA} {F F':List Nat} (h:MdN w m a F) (hF:∀x∈F,x∈F'):MdN w m a F':=⟨h.md,λb off p e=>hF b (h.V b off p e),λb off p e=>hF b (h.E b off p e),λb off p e=>hF b (h.L b off p e)⟩
theorem CourseN.keep {w w':Kw} {m:Md} {gc:Nat} {c:CrA} {F:List Nat} (hk:∀g∈F,g<w.heap.size→w'.heap[g]?=w.heap[g]?) (h:CourseN w m gc c F):CourseN w' m gc c F:=
 ⟨(hk gc h.inF.1 h.blk.lt).trans h.blk,h.md.keep hk,MM h.A hk h.inF.2.1,MM h.L hk h.inF.2.2.1,MM h.O hk h.inF.2.2.2.1,h.getA,h.isA,h.getL,h.isL,h.getO,λk=>JO (h.rdO k) hk (h.inO k),MM h.I hk h.inF.2.2.2.2.1,MM h.C hk h.inF.2.2.2.2.2,h.getI,λk=>JO (h.rdI k) hk (h.inI k),h.getC,h.ndC.keep (λg hg=>hk g (h.inC g hg)),h.eA,h.eB,h.eI,h.eO,h.eL,h.eM,h.eC,h.inF,h.inI,h.inC,h.inO,h.lenO⟩
theorem a0a {m:Md} {a':MdA} {w w':Kw} {g31 g25 g26 g27 g28 g29:Nat} {F0 FO FI FC:List Nat} {LA LF LO LI LC:List (Kz × Kv)} {atf:Kz→El} {isA isF:Kz→Bool} {flf:Kz→Fl} {rO rI:Kz→List Kz} {cn:Kz→Option Kz} {aC:Kz→Ky} {Ls:List As}
 (M:Mem w AR (As.blk g31 104 [str m.id,str m.nm,.slice a'.V m.vars.length a'.vc,.slice a'.E m.els.length a'.ec,.slice a'.F m.fls.length a'.fc,.map (G g25),.map (G g26),.map (G g27),.map (G g28),.map (G g29)]::As.mdp m a' F0::As.mpS g25 LA zx::As.mp g26 LF::As.rowS g28 LO zx rO FO::As.rowS g27 LI zx rI FI::As.mp g29 LC::As.cnd cn aC FC::Ls) w')
 (h1:∀k,(CG LA k).getD (.agg zeroEl.cells.toArray)=.agg (atf k).cells.toArray) (h2:∀k,(CG LA k).isSome=isA k) (h3:∀k,(CG LF k).getD (.agg zeroFl.cells.toArray)=.agg (flf k).cells.toArray) (h4:∀k,(CG LF k).isSome=isF k) (h5:∀k,(rO k).length≤m.fls.length)
 (h6:∀k,CG LC k=(cn k).map (λs=>.agg ((CT s).1.cells (aC k)).toArray)) (e1:atf=atF m.els) (e2:isA=YQ m.els) (e3:rI=bY m m.els) (e4:rO=NZ m m.els) (e5:flf=flF m.fls) (e6:isF=bX m.fls) (e7:cn=cnF m.fls) :
 ∃gc c F,Ending.returned (.tuple #[pg g31,AA 0])=.returned (.tuple #[pg gc,AA 0])∧CourseN w' m gc c F∧∀g∈F,w.heap.size≤g∧g<w'.heap.size:=by
 have hR:RowS w' g28 LO zx rO FO:=M.ok 4 _ X;have hA:MpB w' g25 LA:=M.ok 2 _ X;have hO:MpB w' g28 LO:=hR.map;have hI:RowS w' g27 LI zx rI FI:=M.ok 5 _ X;have hIm:MpB w' g27 LI:=hI.map
 have hv:∀{g:Nat} {L:List (Kz × Kv)} {r:Kz→List Kz} {F:List Nat},RowS w' g L zx r F→∀k,(CG L k).getD (.slice zx 0 0)=.slice (Q2 (GH L k)) (r k).length (j3 (GH L k))∧Rd w' (Q2 (GH L k)) ((r k).length*1) (AF BH (r k))∧∀b off p,Q2 (GH L k)=G ⟨b,off,p⟩→b∈F:=λ{g L r F} hR k=>by
  obtain ⟨A,C,e1,e2,e3⟩:=hR.row k;rw [show (CG L k).getD (.slice zx 0 0)=GH L k from rfl,e1];exact ⟨X,e2,e3⟩
 refine ⟨g31,⟨a',g25,g26,g27,g28,g29,LA,LF,LO,atf,isA,flf,isF,rO,LI,rI,LC,cn,aC,FC⟩,g31::g25::g26::g28::g27::g29::(F0++(FO++(FI++FC))),X,⟨M.blk 0 X,(M.mdN 1 X).mono (λx hx=>by simp [hx]),hA.mp,M.mp 3 X,hO.mp,h1,h2,h3,h4,λk=>(hv hR k).1,λk=>(hv hR k).2.1,hIm.mp,M.mp 6 X,λk=>(hv hI k).1,λk=>(hv hI k).2.1,h6,M.ok 7 _ X,e1,e2,e3,e4,e5,e6,e7,⟨by simp,by simp,by simp,by simp,by simp,by simp⟩,λk b off p e=>by simp [(hv hI k).2.2 b off p e],λx hx=>by simp [show x∈FC from hx],λk b off p e=>by simp [(hv hR k).2.2 b off p e],h5⟩,?_⟩;intro g hg;simp only [Ao,Bp] at hg
 rcases hg with rfl|rfl|rfl|rfl|rfl|rfl|hg|hg|hg|hg
 ·exact M.new0 0 X _ (by simp [As.blk])
 ·exact M.new0 2 X _ (by simp [As.mpS])
 ·exact M.new0 3 X _ (by simp [As.mp])
 ·exact M.new0 4 X _ Bi
 ·exact M.new0 5 X _ Bi
 ·exact M.new0 6 X _ (by simp [As.mp])
 ·exact M.new0 1 X g hg
 ·exact M.new0 4 X g (Ax _ hg)
 ·exact M.new0 5 X g (Ax _ hg)
 exact M.new0 7 X g hg
theorem M4 (c0_0 c0_1 c0_2 c0_3 c0_4:Kv) (a1:Option Nat) (a2:Option Nat) (a3:Option Nat) (a4:Option Nat) (a5:Option Nat):zv.built 104 [(0,.agg #[c0_0,c0_1,c0_2,c0_3,c0_4]),(1,.map a1),(2,.map a2),(3,.map a3),(4,.map a4),(5,.map a5)]=G #[c0_0,c0_1,c0_2,c0_3,c0_4,.map a1,.map a2,.map a3,.map a4,.map a5]:=zr
theorem JD : (zv.info? 107).map (·.zero)=G (G (.slice zx 0 0)):=zr
theorem a08 (m:Md) (a:MdA) (w:Kw) (hb:MdB m) (hM:MdIn w m a) (hY:Lay0 w) :
 zt zv 19 #[.agg (Md.cells m a).toArray] w λe w'=>((HC m=zz∧∃gc c F,e=.returned (.tuple #[pg gc,AA 0])∧CourseN w' m gc c F∧∀g∈F,w.heap.size≤g∧g<w'.heap.size)∨(HC m=zy∧e=.returned (.tuple #[.pointer zx,AA 140])))∧Fr0 w w':=by
 refine BO func19 ntmps19 X λM=>W ?_
 refine CU M X X λg1 w1 hg1 M=>W ?_
 refine CF M 0 X X Ap AO X (CQ M 17 X X call42 (bC m a _ hb (hM.fr0 M.fr) (hY.fr0 M.fr)) λw2 M=>W ?_);refine AC X (λh22=>?_) (λh22=>?_)
 ·refine W ?_;exact B1 X X X ⟨.inr ⟨jO h22,X⟩,M.fr⟩
 have h22p:=(odt (BL h22));have ho:=tZ hb h22p;have hne:=ho.nels;have hnf:=ho.nfls;refine W ?_;refine CF M 0 X X Ap AO X (cl 24 X (AE X X call43) (lJ m a _ ho (hM.fr0 M.fr)) ?_);rintro _ w3 ⟨a',F0,rfl,hmd,hnw,hfw3⟩;refine cq ?_;have M:=M.push hfw3 (As.mdp m a' F0) hmd hnw;refine WE M kw X X X λg25 w4 hg25 M=>K9 M kw X X X λg26 w5 hg26 M=>WE M kw X X X λg27 w6 hg27 M=>?_
 have M:=M.toRow 0 X;refine WE M kw X X X λg28 w7 hg28 M=>?_
 have M:=M.toRow 0 X;refine K9 M kw X X X λg29 w8 hg29 M=>ya X (B8 (parts:=[(0,_),(1,_),(2,_),(3,_),(4,_),(5,_)]) X X (M4 _ _ _ _ _ _ _ _ _ _)) (CZ M kw X X 104 X X ([str m.id,str m.nm,.slice a'.V m.vars.length a'.vc,.slice a'.E m.els.length a'.ec,.slice a'.F m.fls.length a'.fc,.map (G g25),.map (G g26),.map (G g27),.map (G g28),.map (G g29)]) X λg31 w9 hg31 M=>W ?_)
 refine flp [37,36,7,1] (λze e wr mz=>∃(i:Nat) (LA:List (Kz × Kv)) (atf:Kz→El) (isA:Kz→Bool) (LI:List (Kz × Kv)) (rI:Kz→List Kz) (FI:List Nat) (LO:List (Kz × Kv)) (rO:Kz→List Kz) (FO:List Nat),e=(38,AA (i:Int))::ze∧Mem w AR [As.blk g31 104 [str m.id,str m.nm,.slice a'.V m.vars.length a'.vc,.slice a'.E m.els.length a'.ec,.slice a'.F m.fls.length a'.fc,.map (G g25),.map (G g26),.map (G g27),.map (G g28),.map (G g29)],As.mp g29 [],As.rowS g28 LO zx rO FO,As.rowS g27 LI zx rI FI,As.mp g26 [],As.mpS g25 LA zx,As.mdp m a' F0,As.blk g1 48 (Md.cells m a)] wr∧(i≤m.els.length)∧(∀k,(CG LA k).getD (.agg zeroEl.cells.toArray)=.agg (atf k).cells.toArray∧(CG LA k).isSome=isA k)∧(∀k,(rO k).length≤m.fls.length)∧(atf=atF (m.els.take i))∧(isA=YQ (m.els.take i))∧(rI=bY m (m.els.take i))∧(rO=NZ m (m.els.take i))∧mz=m.els.length-i) ⟨0,[],(λ_=>zeroEl),(λ_=>zy),[],(λ_=>[]),[],[],(λ_=>[]),[],X,M,Aj _,λ_=>⟨X,X⟩,λ_=>Aj _,X,X,X,X,X⟩ ?_;rintro _ w10 _ ⟨i,LA,atf,isA,LI,rI,FI,LO,rO,FO,rfl,M,hi,hA,hOl,hAe,hBe,hIe,hOe,rfl⟩;refine W ?_;refine AC X (λh39=>?_) (λh39=>?_)
 ·have h39p:=odt h39;refine W ?_;obtain ⟨x,_,_,hx,hA_x⟩:=ex5 (i:=i) ((M.mdN 6 X).md.els);refine ya X (AK i hA_x X X X (sl X) A0) (ya X (AJ X X (BF El.len ((M.mdN 6 X).md.els) hA_x hx) Bk X AM) (CE M X AP λg9 w11 hg9 M=>BX M 0 X X AM X λw12 M=>W ?_));refine EO 36 (λw'=>Mem w AR [As.blk g9 106 (El.cells x),As.blk g31 104 [str m.id,str m.nm,.slice a'.V m.vars.length a'.vc,.slice a'.E m.els.length a'.ec,.slice a'.F m.fls.length a'.fc,.map (G g25),.map (G g26),.map (G g27),.map (G g28),.map (G g29)],As.mp g29 [],As.mp g26 [],As.mdp m a' F0,As.blk g1 48 (Md.cells m a)] w') CA ?_;have M:=M.drew;refine oc 0 36 X X (M.pk [0,1,2,5,7,8]) (oc 1 36 X X (M.pk [0,1,2,5,7,8]) (oc 2 36 X X (M.pk [0,1,2,5,7,8]) (ol 3 36 X X X (M.pk [0,1,2,5,7,8]) (λ_ M=>(M.cell 1 X X)) (oc 4 36 X X (M.pk [0,1,2,5,7,8]) (ol 5 36 X X X (M.pk [0,1,2,5,7,8]) (λ_ M=>(M.cell 0 X X)) (oc 6 36 X X (M.pk [0,1,2,5,7,8]) (oc 7 36 X X (M.pk [0,1,2,5,7,8]) (oc 8 36 X X (M.pk [0,1,2,5,7,8]) (ol 9 36 X X X (M.pk [0,1,2,5,7,8]) (λ_ M=>(M.cell 1 X X)) (oc 10 36 X X (M.pk [0,1,2,5,7,8]) (ol 11 36 X X X (M.pk [0,1,2,5,7,8]) (λ_ M=>(M.cell 0 X X)) (oc 12 36 X X (M.pk [0,1,2,5,7,8]) (oc 13 36 X X (M.pk [0,1,2,5,7,8]) (oc 14 36 X X (M.pk [0,1,2,5,7,8]) (ol 15 36 X X X (M.pk [0,1,2,5,7,8]) (λ_ M=>(M.cell 1 X X)) ?_)))))))))))))));refine oc 16 36 X X (M.pk [0,1,2,5,7,8]) (ol 17 36 X X X (M.pk [0,1,2,5,7,8]) (λ_ M=>(M.cell 0 X X)) (oa 18 36 X X (M.pk [0,1,2,5,7,8]) (λ_ M=>AJ (xs:=El.cells x) X X (M.rdBlk 0 X X) Bk X AM) (oa 19 36 X X (M.pk [0,1,2,5,7,8]) (λ_ M=>AJ (xs:=Md.cells m a) X X (M.rdBlk 5 X X) Ap X AO) (oc 20 36 X X (M.pk [0,1,2,5,7,8]) (ol 21 36 X X X (M.pk [0,1,2,5,7,8]) (λ_ M=>(M.cell 0 X X)) (oa 23 36 X X (M.pk [0,1,2,5,7,8]) (λ_ M=>AJ (xs:=Md.cells m a) X X (M.rdBlk 5 X X) Ap X AO) (oc 24 36 X X (M.pk [0,1,2,5,7,8]) (ol 25 36 X X X (M.pk [0,1,2,5,7,8]) (λ_ M=>(M.cell 0 X X)) (BB 22 (G 64) zr X kw X X (AE X X call44) (a0p m a x.id _ ho (hM.fr0 M.fr)) ?_)))))))));rintro _ w13 ⟨A64,c64,rfl,how13,hfw13⟩;refine ⟨_,X,λ_=>(M.pk [0,1,2,5,7,8]).step hfw13,?_⟩;have M:=M.pushOwn hfw13 (Af _) how13;have hL64:=M.ownLen 0 X;refine BB 26 (G 68) zr X kw X X (AE X X call45) (tU m a x.id _ ho (hM.fr0 M.fr)) ?_;rintro _ w14 ⟨A68,c68,rfl,how14,hfw14⟩;refine ⟨_,X,λ_=>(M.pk [1,2,3,6,8,9]).step hfw14,?_⟩;have M:=M.pushOwn hfw14 (Af _) how14;have hL68:=M.ownLen 0 X;refine B7 27 (G 69) zr X kw X X (λρ hρ=>N0 X (hρ _ _ X) (hρ _ _ X) Di Ad AP (M.mpS 8 X)) ?_;rintro _ w15 ⟨b69,rfl,hfw15,hEw15⟩;have M:=M.entA 8 X hfw15 hEw15;refine ⟨λ_=>(M.pk [2,3,4,7,9,10]),oc 28 36 X X (M.pk [2,3,4,7,9,10]) (B7 29 zx zr X kw X X (λρ hρ=>KX X (hρ _ _ X) (hρ _ _ X) (hρ _ _ X) (M.mpS 8 X)) ?_)⟩;rintro _ w16 ⟨rfl,hfw16,hbw16⟩;rw [NC] at hbw16
  have M:=M.putA 8 X hfw16 hbw16;refine ⟨λ_=>(M.pk [2,3,4,7,9,10]),B7 30 (G 71) zr X kw X X (λρ hρ=>N0 X (hρ _ _ X) (hρ _ _ X) Gp Ad JD ((M.rowS 6 X).map)) ?_⟩;rintro _ w17 ⟨b71,rfl,hfw17,hEw17⟩;have M:=M.entR 6 X hfw17 hEw17;refine ⟨λ_=>(M.pk [2,3,4,7,9,10]),oc 31 36 X X (M.pk [2,3,4,7,9,10]) (B7 32 zx zr X kw X X (λρ hρ=>KX X (hρ _ _ X) (hρ _ _ X) (hρ _ _ X) ((M.rowS 6 X).map)) ?_)⟩;rintro _ w18 ⟨rfl,hfw18,hbw18⟩;obtain ⟨F2I,M⟩:=Mem.putR (M.pk [1,6,0,2,3,4,5,7,8,9,10]) hfw18 hbw18 X;rw [NC] at M
  have M:=M.pk [1,2,3,4,5,0,6,7,8,9];refine ⟨λ_=>(M.pk [1,2,3,6,8,9]),B7 33 (G 73) zr X kw X X (λρ hρ=>N0 X (hρ _ _ X) (hρ _ _ X) Gp Ad JD ((M.rowS 4 X).map)) ?_⟩;rintro _ w19 ⟨b73,rfl,hfw19,hEw19⟩;have M:=M.entR 4 X hfw19 hEw19;refine ⟨λ_=>(M.pk [1,2,3,6,8,9]),oc 34 36 X X (M.pk [1,2,3,6,8,9]) (B7 35 zx zr X kw X X (λρ hρ=>KX X (hρ _ _ X) (hρ _ _ X) (hρ _ _ X) ((M.rowS 4 X).map)) ?_)⟩;rintro _ w20 ⟨rfl,hfw20,hbw20⟩;obtain ⟨F2O,M⟩:=Mem.putR (M.pk [0,4,1,2,3,5,6,7,8,9]) hfw20 hbw20 X;rw [NC] at M
  have M:=M.pk [1,2,3,0,4,5,6,7,8];refine ⟨λ_=>(M.pk [0,1,2,5,7,8]),fdn (W ?_)⟩;refine fag ⟨i+1,(DG LA x.id (.agg (El.cells x).toArray)),(λk=>if k=x.id then x else atf k),(λk=>if k=x.id then zz else isA k),(DG LI x.id (.slice A64 (((E5 m.fls x.id).map (λu:Fl=>u.id)).length) c64)),(λk'=>if k'=x.id then ((E5 m.fls x.id).map (λu:Fl=>u.id)) else rI k'),F2I,(DG LO x.id (.slice A68 (((BV m.fls x.id).map (λu:Fl=>u.id)).length) c68)),(λk'=>if k'=x.id then ((BV m.fls x.id).map (λu:Fl=>u.id)) else rO k'),F2O,X,(M.pk [1,2,3,4,5,6,7,8]),?_,?_,?_,?_,?_,?_,?_,X⟩
  ·omega
  ·exact a2P hA
  ·exact a0f hOl
  ·rw [AT hx,xK,←hAe]
  ·rw [AT hx,oY,←hBe]
  ·rw [AT hx,p4,←hIe]
  rw [AT hx,fF,←hOe]
 have h39p:=odf h39;refine W ?_;have hiE:i=m.els.length:=A0
 rw [hiE,Bc] at hAe hBe hIe hOe
 refine W ?_;have M:=M.pushE (As.cnd (λ_=>zx) (λ_=>zx) []) (λ_ _ h=>by cases h) X;refine flp [81,80,7] (λze e wr mz=>∃(j:Nat) (LF:List (Kz × Kv)) (flf:Kz→Fl) (isF:Kz→Bool) (LC:List (Kz × Kv)) (cn:Kz→Option Kz) (aC:Kz→Ky) (FC:List Nat),e=(82,AA (j:Int))::ze∧Mem w AR [As.cnd cn aC FC,As.blk g31 104 [str m.id,str m.nm,.slice a'.V m.vars.length a'.vc,.slice a'.E m.els.length a'.ec,.slice a'.F m.fls.length a'.fc,.map (G g25),.map (G g26),.map (G g27),.map (G g28),.map (G g29)],As.mp g29 LC,As.rowS g28 LO zx rO FO,As.rowS g27 LI zx rI FI,As.mp g26 LF,As.mpS g25 LA zx,As.mdp m a' F0,As.blk g1 48 (Md.cells m a)] wr∧(j≤m.fls.length)∧(∀k,(CG LF k).getD (.agg zeroFl.cells.toArray)=.agg (flf k).cells.toArray∧(CG LF k).isSome=isF k)∧((m.fls.take j).all K4=zz)∧(∀k,CG LC k=(cn k).map (λs=>.agg ((CT s).1.cells (aC k)).toArray))∧(flf=flF (m.fls.take j))∧(isF=bX (m.fls.take j))∧(cn=cnF (m.fls.take j))∧mz=m.fls.length-j) ⟨0,[],(λ_=>zeroFl),(λ_=>zy),[],(λ_=>zx),(λ_=>zx),[],X,M,Aj _,λ_=>⟨X,X⟩,X,λ_=>X,X,X,X,X⟩ ?_;rintro _ w21 _ ⟨j,LF,flf,isF,LC,cn,aC,FC,rfl,M,hj,hFl,hC,hCn,hFe,hGe,hCe,rfl⟩;refine W ?_;refine AC X (λh83=>?_) (λh83=>?_)
 ·have h83p:=odt h83;refine W ?_;obtain ⟨f,_,_,hf,hA_f⟩:=ex5 (i:=j) ((M.mdN 7 X).md.fls);refine ya X (AK j hA_f X X X (sl X) A0) (ya X (AJ X X (BF Fl.len ((M.mdN 7 X).md.fls) hA_f hf) Co X BU) (CE M X DX λg11 w22 hg11 M=>BX M 0 X X BU X λw23 M=>W ?_));refine DZ 7 CA zr ?_;have M:=M.drew;refine W ?_;refine sa X (AJ (xs:=Fl.cells f) X X (M.rdBlk 0 X X) Co X BU) (DA (GR M 6 kw X X X X X Iv Ad X λw24 M=>W ?_));refine AC X (λh95=>?_) (λh95=>?_)
  ·have h95p:=(odf (CJ h95));refine W ?_;refine cl 99 X (AE X X call46) (f6 f.cond _ (by have:=(ho.fls f (Ah hf)).cond;omega) (hY.fr0 M.fr)) ?_;rintro _ w25 ⟨AX,FX,rfl,hat,hnx,hfw25⟩;refine cq ?_;have M:=M.push hfw25 (As.xn 113 (CT f.cond).1 AX FX) hat hnx;refine W ?_;refine CE M X DQ λg12 w26 hg12 M=>BX M 0 X X AU X λw27 M=>W ?_
   refine AC X (λh104=>?_) (λh104=>?_)
   ·refine W ?_;exact B1 X X X ⟨.inr ⟨jP hf h95 h104,X⟩,M.fr⟩
   have h104p:=(odt (BL h104));refine W ?_;refine DZ 7 CA zr ?_;have M:=M.drew;refine T3 ?_;refine cD M 4 X X X (W ?_);refine sa X (AJ (xs:=Xn.cells (CT f.cond).1 AX) X X (M.rdBlk 0 X X) Bt X AU) (DA (GR M 5 kw X X X X X underlying102 Ad X λw28 M=>W ?_));have M:=Mem.foldC f.id f.cond (M.pk [1,3,0,2,4,5,6,7,8,9,10,11]);refine fag ⟨j+1,DG LF f.id (.agg (Fl.cells f).toArray),(λk=>if k=f.id then f else flf k),(λk=>if k=f.id then zz else isF k),DG LC f.id (.agg (Xn.cells (CT f.cond).1 AX).toArray),(λk'=>if k'=f.id then G f.cond else cn k'),(λk'=>if k'=f.id then AX else aC k'),(FX++FC),X,(M.pk [0,3,4,5,6,7,8,9,10]),?_,?_,?_,?_,?_,?_,?_,X⟩
   ·omega
   ·exact vT hFl
   ·first
     | exact PW hC (AT hf) (aF h95)
     | exact PW hC (AT hf) (XW h95 h104)
   ·first
     | exact hCn
     | exact wT hCn
   ·rw [AT hf,gJ,←hFe]
   ·rw [AT hf,ZS,←hGe]
   first
    | rw [AT hf,wU h95p,←hCe]
    | rw [AT hf,mS h95p,←hCe]
  have h95p:=(odt (BL h95));refine W ?_;refine fag ⟨j+1,DG LF f.id (.agg (Fl.cells f).toArray),(λk=>if k=f.id then f else flf k),(λk=>if k=f.id then zz else isF k),LC,cn,aC,FC,X,(M.pk [1,2,3,4,5,6,7,8,9]),?_,?_,?_,?_,?_,?_,?_,X⟩
  ·omega
  ·exact vT hFl
  ·first
    | exact PW hC (AT hf) (aF h95)
    | exact PW hC (AT hf) (XW h95 h104)
  ·first
    | exact hCn
    | exact wT hCn
  ·rw [AT hf,gJ,←hFe]
  ·rw [AT hf,ZS,←hGe]
  first
   | rw [AT hf,wU h95p,←hCe]
   | rw [AT hf,mS h95p,←hCe]
 have h83p:=odf h83;refine W ?_;have hjE:j=m.fls.length:=A0
 rw [hjE,Bc] at hC hFe hGe hCe
 refine W ?_;exact B1 X X X ⟨.inl ⟨oO h22 hC,a0a (M.pk [1,7,6,5,3,4,2,0]) (λk=>(hA k).1) (λk=>(hA k).2) (λk=>(hFl k).1) (λk=>(hFl k).2) hOl hCn hAe hBe hIe hOe hFe hGe hCe⟩,M.fr⟩
theorem aR {P:Lw} {e:Env} {w:Kw} {o:Oper} {t t':Nat} {a b:Int} {x y:Lz} (ho:o.op=.binOp .add t x y t') (hx:ev e x=G (AA a)) (hy:ev e y=G (AA b)):Y P e o w (AA ((IntKind.i64).wrap (a+b))):=λρ h=>by
 unfold execOp;simp [ho,h _ _ hx,h _ _ hy,eqGuard_at_int,binOp_add,Op.intArith]
theorem CourseN.fr0 {w w':Kw} {m:Md} {gc:Nat} {c:CrA} {F:List Nat} (h:CourseN w m gc c F) (hf:Fr0 w w'):CourseN w' m gc c F:=h.keep (λg _ hg=>hf.block g hg (λhh=>hh))
structure Tk where
 id:Int
 loc:Kz
 on:Kz
 born:Int
 tries:Int
 worker:Kz
 until_:Int
 inc:UInt8
 err:Int
structure Wt where
 via:Kz
 ev:UInt8
 nm:Kz
 key:Kz
 due:Int
def Tk.cells (t:Tk):Kx:=[.int .i64 t.id,str t.loc,str t.on,.int .i64 t.born,.int .i64 t.tries,str t.worker,.int .i64 t.until_,.int .u8 (t.inc.toNat:Int),.int .i64 t.err]
def Wt.cells (t:Wt):Kx:=[str t.via,.int .u8 (t.ev.toNat:Int),str t.nm,str t.key,.int .i64 t.due]
theorem Tk.len (t:Tk):t.cells.length=9:=rfl
theorem Wt.len (t:Wt):t.cells.length=5:=rfl
def YT (vars:List Bd) (name:Kz):Option Vl:=(ffN (λ(_:Nat) (b:Bd) => !(O (b.name=name))) 0 vars).map (·.v)
def HA (c:CrA) (via:Kz) (born:Int) (vars:List Bd):Wt × Int:=
 if (O (((c.atf via).ev.toNat:Int)=(1:Int)))=zz then (⟨via,(c.atf via).ev,(c.atf via).ref,[],(IntKind.i64).wrap (born+(c.atf via).ticks)⟩,0)
 else if (O (((c.atf via).ev.toNat:Int)=(2:Int)))=zz then
  (if (!((YT vars (c.atf via).key).isSome))=zz then (⟨[],0,[],[],0⟩,100)
  else if (!decide ((((YT vars (c.atf via).key).getD zeroVl).kind.toNat:Int)=(3:Int)))=zz then (⟨[],0,[],[],0⟩,90)
  else (⟨via,(c.atf via).ev,(c.atf via).ref,((YT vars (c.atf via).key).getD zeroVl).text,0⟩,0))
 else (⟨via,(c.atf via).ev,(c.atf via).ref,[],0⟩,0)
theorem UW  : zv.built 80 []=G #[str [],.int .u8 0,str [],str [],AA 0]:=zr
theorem MQ (a0:Kz) (a1:Int) (a2:Kz):zv.built 80 [(0,str a0),(1,.int .u8 a1),(2,str a2)]=G #[str a0,.int .u8 a1,str a2,str [],AA 0]:=zr
theorem CB : (zv.info? 80).map (·.size)=G 5:=zr
theorem G7 : (zv.info? 61).map (·.zero)=G (G (.agg #[.int .u8 0,AA 0,.bool zy,str []])):=zr
theorem KF : (zv.info? 80).map (·.zero)=G (G (.agg #[str [],.int .u8 0,str [],str [],AA 0])):=zr
theorem nB (g3:Nat) (name:Kz) (x:Bd) (w:Kw) (hb:Blk w g3 9 [str name]) :
 zt zv 209 #[.agg x.cells.toArray,pg g3] w (BR w (.bool (O (x.name=name)))):=by
 refine BO func209 ntmps209 X λM=>W ?_
 refine CU M X X λg2 w1 hg2 M=>T7 ?_
 refine yl X X (Blk.c (hb.fr0 M.fr) 0 X) (W ?_);exact gr1 X ⟨X,M.fr⟩
theorem qU (A:Ky) (cv:Nat) (vars:List Bd) (name:Kz) (w:Kw) (hvl:vars.length≤4611686018427387904) (hV:Rd w A (vars.length*5) (AF Bd.cells vars)) :
 zt zv 174 #[.slice A vars.length cv,str name] w (BR w (.tuple #[.agg (((YT vars name).getD zeroVl).cells).toArray,.bool (YT vars name).isSome])):=by
 refine BO func174 ntmps174 X λM=>W ?_
 refine CZ M kw X X 9 X X ([str name]) X λg3 w1 hg3 M=>CE M X G7 λg4 w2 hg4 M=>W ?_
 refine ya X (D8 (us:=[]) (vs:=[pg g3]) X X X) (cl 9 X (AE X X call178) (VM Bd.cells Bd.len A cv vars hvl 209 [pg g3] (λ(_:Nat) (b:Bd) => !(!(O (b.name=name)))) AR (λ_ _=>True) _ (J7 call209 (λx _ w9 hf9=>(nB g3 name x w9 ((M.blk 1 X).fr0 hf9)).mono λ_ _ ⟨h1,h2⟩=>⟨by rw [h1,Gk],h2⟩)) (λ_ hf9=>(hV.fr0 M.fr).fr0 hf9) zw) ?_);rintro _ w3 ⟨rfl,_,hfw3⟩;refine cq ?_;have M:=M.step hfw3;refine W ?_;refine AC X (λh11=>?_) (λh11=>?_)
 ·have h11p:=odt h11;have hff:=R3 (p:=(λ(_:Nat) (b:Bd) => !(O (b.name=name)))) h11p;refine W ?_;refine ya X (B8 (parts:=[]) X X (L8)) (BX M 0 X X BM X λw4 M=>W ?_);exact FY X X (M.rdBlk 0 X X) By X BM X ⟨by rw [YT,hff];rfl,M.fr⟩
 have h11p:=odf h11;obtain ⟨j,x,hj,hx,hff⟩:=R4 (p:=(λ(_:Nat) (b:Bd) => !(O (b.name=name)))) h11p;have hjl:j<vars.length:=(An.1 hx).1;rw [hj];obtain ⟨b_x,o_x,hA_x⟩:=DR (k:=5) A0 (hV.fr0 M.fr) hx;refine W ?_;refine ya X (AK j hA_x X X X (sl X) A0) (yb X (ya X (AJ (xs:=Vl.cells x.v) X X (MI Bd.len (hV.fr0 M.fr) hA_x hx 1 4 X X) By X BM) (BX M 0 X X BM X λw5 M=>W ?_)));exact FY X X (M.rdBlk 0 X X) By X BM X ⟨by rw [YT,hff];rfl,M.fr⟩
theorem xQ (m:Md) (gc:Nat) (c:CrA) (F:List Nat) (via:Kz) (born:Int) (A:Ky) (cv:Nat) (vars:List Bd) (w:Kw) (hC:CourseN w m gc c F) (hvl:vars.length≤4611686018427387904) (hV:Rd w A (vars.length*5) (AF Bd.cells vars)) :
 zt zv 111 #[pg gc,str via,AA born,.slice A vars.length cv] w (BR w (.tuple #[.agg ((HA c via born vars).1.cells).toArray,AA (HA c via born vars).2])):=by
 refine BO func111 ntmps111 X λM=>W ?_
 refine CE M X KF λg8 w1 hg8 M=>T8 ?_
 refine yl X X (Blk.c ((hC.fr0 M.fr).blk) 5 X) (yb X (ya X (CH X X X Di Ad AP ((hC.fr0 M.fr).A) (hC.getA _)) (CE M X AP λg10 w2 hg10 M=>BX M 0 X X AM X λw3 M=>W ?_)));refine ya X (B8 (parts:=[(0,_),(1,_),(2,_)]) X X (MQ _ _ _)) (CE M X KF λg11 w4 hg11 M=>BX M 0 X X CB X λw5 M=>W ?_);refine AC X (λh28=>?_) (λh28=>?_)
 ·refine T4 ?_;refine ya X (aR X X X) (yb X (gp1 M 0 X X X GF λw6 M=>W ?_));refine CF M 0 X X Dj CB X (BX M 2 X X CB X λw7 M=>W ?_);exact FY X X (M.rdBlk 2 X X) Dj X CB X ⟨by rw [HA,Ac h28]<;>rfl,M.fr⟩
 refine W ?_;refine AC X (λh35=>?_) (λh35=>?_)
 ·refine W ?_;refine CQ M 41 X X call174 (qU A cv vars ((c.atf via).key) _ hvl (hV.fr0 M.fr)) λw8 M=>W ?_
  refine CE M X G7 λg12 w9 hg12 M=>BX M 0 X X BM X λw10 M=>W ?_
  refine AC X (λh44=>?_) (λh44=>?_)
  ·refine W ?_;refine ya X (B8 (parts:=[]) X X (UW)) (BX M 3 X X CB X λw11 M=>W ?_);exact FY X X (M.rdBlk 3 X X) Dj X CB X ⟨by rw [HA,AN h28,Ac h35,Ac h44]<;>rfl,M.fr⟩
  refine W ?_;refine AC X (λh48=>?_) (λh48=>?_)
  ·refine W ?_;refine ya X (B8 (parts:=[]) X X (UW)) (BX M 3 X X CB X λw12 M=>W ?_);exact FY X X (M.rdBlk 3 X X) Dj X CB X ⟨by rw [HA,AN h28,Ac h35,AN h44,Ac h48]<;>rfl,M.fr⟩
  refine W ?_;refine gp1 M 1 X X X G4 λw13 M=>W ?_
  refine ya X (AJ (xs:=[str via,.int .u8 ((c.atf via).ev.toNat:Int),str ((c.atf via).ref),str (((YT vars ((c.atf via).key)).getD zeroVl).text),AA 0]) X X (M.rdBlk 1 X X) Dj X CB) (BX M 3 X X CB X λw14 M=>W ?_);exact FY X X (M.rdBlk 3 X X) Dj X CB X ⟨by rw [HA,AN h28,Ac h35,AN h44,AN h48]<;>rfl,M.fr⟩
 refine W ?_;refine CF M 0 X X Dj CB X (BX M 2 X X CB X λw15 M=>W ?_);exact FY X X (M.rdBlk 2 X X) Dj X CB X ⟨by rw [HA,AN h28,AN h35]<;>rfl,M.fr⟩
def Tk.same (a b:Tk):Bool:=O (a.id=b.id)&&(O (a.loc=b.loc)&&(O (a.on=b.on)&&(O (a.born=b.born)&&(O (a.tries=b.tries)&&(O (a.worker=b.worker)&&(O (a.until_=b.until_)&&(O ((a.inc.toNat:Int)=(b.inc.toNat:Int))&&(O (a.err=b.err)))))))))
theorem rD : zv.eqGuardType zv.depth 75=zy:=zr
theorem yF : zv.stoodInHeld 75=zy:=zr
theorem nG : zv.underlying 75=G (.struct (zv.fieldsOf 75)):=zr
theorem a1C {w:Kw} (a b:Tk):(Op.equalIn 10000 75 (.agg a.cells.toArray) (.agg b.cells.toArray)).run zv w=.ok (a.same b) w:=by
 have s_:∀(u v:Kz),(Op.equalIn 9999 9 (str u) (str v)).run zv w=.ok (O (u=v)) w:=λu v=>by
  have:=run_equalIn_string (P:=zv) w 9998 9 ⟨u.toArray⟩ ⟨v.toArray⟩ Ad
  unfold str;rw [this,ByteArray.toList_eq,ByteArray.toList_eq]
  by_cases huv:u=v<;>simp [huv]
 have i_:∀(t:Nat) (k:IntKind) (u v:Int),zv.underlying t=G (.int k)→(Op.equalIn 9999 t (.int k u) (.int k v)).run zv w=.ok (O (u=v)) w:=λt k u v ht=>by
  have:=run_equalIn_int (P:=zv) w 9998 t k k u v ht
  rw [this];by_cases huv:u=v<;>simp [huv]
 rw [run_equalIn_struct w 9999 75 _ _ nG yF];have hl:(zv.fieldsOf 75).toList=(match zv.underlying 75 with|some (.struct fs)=>fs.toList|_=>[]):=by unfold Program.fieldsOf;rw [Bw]
 rw [hl,Bw]
 simp only
 have E_:=isAgg54 w;have N_:=isAgg3 w;have S_:=isAgg9 w;have U_:=isAgg5 w;rw [BG (a:=AA a.id) (b:=AA b.id) AV (BD N_ rfl) (BD N_ rfl) (i_ _ _ _ _ Bm)];refine FB ?_;rw [BG (a:=str a.loc) (b:=str b.loc) AV (BD S_ rfl) (BD S_ rfl) (s_ _ _)];refine FB ?_;rw [BG (a:=str a.on) (b:=str b.on) AV (BD S_ rfl) (BD S_ rfl) (s_ _ _)];refine FB ?_;rw [BG (a:=AA a.born) (b:=AA b.born) AV (BD N_ rfl) (BD N_ rfl) (i_ _ _ _ _ Bm)];refine FB ?_;rw [BG (a:=AA a.tries) (b:=AA b.tries) AV (BD N_ rfl) (BD N_ rfl) (i_ _ _ _ _ Bm)];refine FB ?_;rw [BG (a:=str a.worker) (b:=str b.worker) AV (BD S_ rfl) (BD S_ rfl) (s_ _ _)];refine FB ?_;rw [BG (a:=AA a.until_) (b:=AA b.until_) AV (BD N_ rfl) (BD N_ rfl) (i_ _ _ _ _ Bm)];refine FB ?_;rw [BG (a:=.int .u8 (a.inc.toNat:Int)) (b:=.int .u8 (b.inc.toNat:Int)) AV (BD U_ rfl) (BD U_ rfl) (i_ _ _ _ _ Bo)];refine FB ?_;rw [BG (a:=AA a.err) (b:=AA b.err) AV (BD E_ rfl) (BD E_ rfl) (i_ _ _ _ _ underlying54),O5]
 cases (O (a.err=b.err))<;>rfl
theorem SX {e:Env} {w:Kw} {o:Oper} {t':Nat} {x y:Lz} {a b:Tk} (ho:o.op=.binOp .eql 75 x y t') (hx:ev e x=G (.agg a.cells.toArray)) (hy:ev e y=G (.agg b.cells.toArray)):Y zv e o w (.bool (a.same b)):=λρ h=>by
 have h1:ρ x=.agg a.cells.toArray:=h _ _ hx;have h2:ρ y=.agg b.cells.toArray:=h _ _ hy;have hg:=run_eqGuard_agg (P:=zv) w .eql 75 x y a.cells.toArray b.cells.toArray rD;unfold execOp;simp only [ho,h1,h2,Sem.run_bind,hg,Result.andThen_ok,run_eql_struct,a1C a b]
 rfl
theorem R7 (a0:Int) (a1:Kz) (a3:Int):zv.built 75 [(0,AA a0),(1,str a1),(3,AA a3)]=G #[AA a0,str a1,str [],AA a3,AA 0,str [],AA 0,.int .u8 0,AA 0]:=zr
theorem U6 (a0:Int) (a2:Kz):zv.built 75 [(0,AA a0),(2,str a2)]=G #[AA a0,str [],str a2,AA 0,AA 0,str [],AA 0,.int .u8 0,AA 0]:=zr
theorem BE : (zv.info? 75).map (·.size)=G 9:=zr
theorem HX : (zv.info? 75).map (·.zero)=G (G (.agg #[AA 0,str [],str [],AA 0,AA 0,str [],AA 0,.int .u8 0,AA 0])):=zr
def HQ (m:Md) (c:CrA) (t:Tk):Bool:=(if (O (t.loc=[]))=zz then (if ((O (((c.atf ((c.flf t.on).tg)).kind.toNat:Int)=(5:Int)))&&(O ((1:Int)<(((c.outs ((c.atf ((c.flf t.on).tg)).id)).length:Nat):Int))))=zz then (((c.isF t.on)&&(((O (((c.atf ((c.flf t.on).tg)).kind.toNat:Int)=(5:Int)))&&(O ((1:Int)<(((c.outs ((c.atf ((c.flf t.on).tg)).id)).length:Nat):Int)))) || (O (((c.atf ((c.flf t.on).tg)).kind.toNat:Int)=(6:Int)))))&&(Tk.same t (⟨t.id,[],t.on,0,0,[],0,1,91⟩:Tk))) else (((c.isF t.on)&&(((O (((c.atf ((c.flf t.on).tg)).kind.toNat:Int)=(5:Int)))&&(O ((1:Int)<(((c.outs ((c.atf ((c.flf t.on).tg)).id)).length:Nat):Int)))) || (O (((c.atf ((c.flf t.on).tg)).kind.toNat:Int)=(6:Int)))))&&(Tk.same t (⟨t.id,[],t.on,0,0,[],0,0,0⟩:Tk)))) else (if (O (((c.atf t.loc).kind.toNat:Int)=(4:Int)))=zz then (if (O (t.tries=(0:Int)))=zz then ((((c.isA t.loc)&&(Tk.same t (⟨t.id,t.loc,[],t.born,t.tries,[],0,2,0⟩:Tk)))&&(O ((0:Int)≤t.tries)))&&(O (t.tries≤(100:Int)))) else ((((c.isA t.loc)&&(Tk.same t (⟨t.id,t.loc,[],t.born,t.tries,t.worker,t.until_,0,0⟩:Tk)))&&(O ((0:Int)≤t.tries)))&&(O (t.tries≤(100:Int))))) else (if (O (((c.atf t.loc).kind.toNat:Int)=(8:Int)))=zz then (((c.isA t.loc)&&(Tk.same t (⟨t.id,t.loc,[],t.born,0,[],0,0,0⟩:Tk)))&&(!(QC m t.loc).2)) else (((c.isA t.loc)&&(Tk.same t (⟨t.id,t.loc,[],t.born,0,[],0,0,0⟩:Tk)))&&((O (((c.atf t.loc).kind.toNat:Int)=(3:Int))) || (O (((c.atf t.loc).kind.toNat:Int)=(7:Int))))))))
theorem X1 (m:Md) (gc:Nat) (c:CrA) (F:List Nat) (t:Tk) (w:Kw) (ho:MdOk m) (hC:CourseN w m gc c F) :
 zt zv 109 #[pg gc,.agg t.cells.toArray] w (BR w (.bool (HQ m c t))):=by
 refine BO func109 ntmps109 X λM=>W ?_
 refine CU M X X λg3 w1 hg3 M=>W ?_
 refine AC X (λh17=>?_) (λh17=>?_)
 ·refine sx_seq (I0 M 13 CA λM=>oc 0 13 X X M (oc 1 13 X X M (oc 2 13 X X M (ol 3 13 X X X M (λ_ M=>(Blk.c ((hC.fr0 M.fr).blk) 6 X)) (oc 4 13 X X M (ol 5 13 X X X M (λ_ M=>(M.cell 0 X X)) (oa 6 13 X X M (λ_ M=>EM X X X Iv Ad DX ((hC.fr0 M.fr).L) (hC.getL _) (hC.isL _)) (oc 7 13 X X M (oc 8 13 X X M (oc 9 13 X X M (fon M 10 5 X X DX λg5 w2 hg5 M=>fop M 11 0 X X X BU X (·.drop 1) λw3 M=>oc 12 13 X X (M.drop 1) (fdn ?_))))))))))));refine W ?_;refine I0 M 9 CA λM=>oc 0 9 X X M (oc 1 9 X X M (oc 2 9 X X M (ol 3 9 X X X M (λ_ M=>(Blk.c ((hC.fr0 M.fr).blk) 5 X)) (oc 4 9 X X M (ol 5 9 X X X M (λ_ M=>(M.cell 0 X X)) (oa 6 9 X X M (λ_ M=>CH X X X Di Ad AP ((hC.fr0 M.fr).A) (hC.getA _)) (fon M 7 7 X X AP λg7 w4 hg7 M=>fop M 8 0 X X X AM X (·.drop 1) λw5 M=>fdn (W ?_))))))))
  refine CY CA zr ?_;have M:=M.drew;refine W ?_;refine fvs 10 [7,6,3] [(48,.bool ((O (((c.atf ((c.flf t.on).tg)).kind.toNat:Int)=5))&&(O (1<((c.outs ((c.atf ((c.flf t.on).tg)).id)).length:Int)))))] ?_ (λk38=>?_)
  ·refine W ?_;refine ya X (B8 (parts:=[(0,_),(2,_)]) X X (U6 _ _)) (CE M X HX λg9 w6 hg9 M=>BX M 0 X X BE X λw7 M=>W ?_);refine AC X (λh54=>?_) (λh54=>?_)
   ·refine W ?_;refine gp1 M 0 X X X WA λw8 M=>yb X (gp1 M 0 X X X NT λw9 M=>W ?_)
    refine fvm M 7 [9,3] [(65,.bool ((c.isF t.on)&&(((O (((c.atf ((c.flf t.on).tg)).kind.toNat:Int)=5))&&(O (1<((c.outs ((c.atf ((c.flf t.on).tg)).id)).length:Int)))) || (O (((c.atf ((c.flf t.on).tg)).kind.toNat:Int)=6)))))] ?_ (λk58=>?_)
    ·intro w10 M;refine yb X (fvm M 4 [] [(70,.bool (((c.isF t.on)&&(((O (((c.atf ((c.flf t.on).tg)).kind.toNat:Int)=5))&&(O (1<((c.outs ((c.atf ((c.flf t.on).tg)).id)).length:Int)))) || (O (((c.atf ((c.flf t.on).tg)).kind.toNat:Int)=6))))&&(Tk.same t (⟨t.id,[],t.on,0,0,[],0,1,91⟩:Tk))))] ?_ (λk66=>?_))
     ·intro w11 M;refine W ?_;exact gr1 X ⟨by rw [HQ,Ac h17,Ac h54],M.fr⟩
     refine A1 (d:=66) X (λh66=>?_) (λh66=>?_)
     ·exact yd X (AJ (xs:=Tk.cells t) X X (M.rdBlk 3 X X) Bw X BE) (yd X (AJ (xs:=[AA t.id,str [],str t.on,AA 0,AA 0,str [],AA 0,.int .u8 1,AA 91]) X X (M.rdBlk 0 X X) Bw X BE) (yd X (SX (a:=t) (b:=(⟨t.id,[],t.on,0,0,[],0,1,91⟩:Tk)) X X X) (yb X (k66 M))))
     refine T4 ?_;exact k66 M
    refine A1 (d:=58) X (λh58=>?_) (λh58=>?_)
    ·refine W ?_;refine fvm M 4 [58,9,3] [(64,.bool (((O (((c.atf ((c.flf t.on).tg)).kind.toNat:Int)=5))&&(O (1<((c.outs ((c.atf ((c.flf t.on).tg)).id)).length:Int)))) || (O (((c.atf ((c.flf t.on).tg)).kind.toNat:Int)=6))))] ?_ (λk60=>?_)
     ·intro w12 M;exact yb X (k58 M)
     refine A1 (d:=60) X (λh60=>?_) (λh60=>?_)
     ·refine T4 ?_;exact k60 M
     refine T4 ?_;exact k60 M
    refine T7 ?_;exact k58 M
   have h54p:=bd h54;refine W ?_;refine fvm M 7 [9,3] [(65,.bool ((c.isF t.on)&&(((O (((c.atf ((c.flf t.on).tg)).kind.toNat:Int)=5))&&(O (1<((c.outs ((c.atf ((c.flf t.on).tg)).id)).length:Int)))) || (O (((c.atf ((c.flf t.on).tg)).kind.toNat:Int)=6)))))] ?_ (λk58=>?_)
   ·intro w13 M;refine yb X (fvm M 4 [] [(70,.bool (((c.isF t.on)&&(((O (((c.atf ((c.flf t.on).tg)).kind.toNat:Int)=5))&&(O (1<((c.outs ((c.atf ((c.flf t.on).tg)).id)).length:Int)))) || (O (((c.atf ((c.flf t.on).tg)).kind.toNat:Int)=6))))&&(Tk.same t (⟨t.id,[],t.on,0,0,[],0,0,0⟩:Tk))))] ?_ (λk66=>?_))
    ·intro w14 M;refine W ?_;exact gr1 X ⟨by rw [HQ,Ac h17,AN h54],M.fr⟩
    refine A1 (d:=66) X (λh66=>?_) (λh66=>?_)
    ·exact yd X (AJ (xs:=Tk.cells t) X X (M.rdBlk 3 X X) Bw X BE) (yd X (AJ (xs:=[AA t.id,str [],str t.on,AA 0,AA 0,str [],AA 0,.int .u8 0,AA 0]) X X (M.rdBlk 0 X X) Bw X BE) (yd X (SX (a:=t) (b:=(⟨t.id,[],t.on,0,0,[],0,0,0⟩:Tk)) X X X) (yb X (k66 M))))
    refine T4 ?_;exact k66 M
   refine A1 (d:=58) X (λh58=>?_) (λh58=>?_)
   ·refine W ?_;refine fvm M 4 [58,9,3] [(64,.bool (((O (((c.atf ((c.flf t.on).tg)).kind.toNat:Int)=5))&&(O (1<((c.outs ((c.atf ((c.flf t.on).tg)).id)).length:Int)))) || (O (((c.atf ((c.flf t.on).tg)).kind.toNat:Int)=6))))] ?_ (λk60=>?_)
    ·intro w15 M;exact yb X (k58 M)
    refine A1 (d:=60) X (λh60=>?_) (λh60=>?_)
    ·refine T4 ?_;exact k60 M
    refine T4 ?_;exact k60 M
   refine T7 ?_;exact k58 M
  refine C3 (d:=38) X (λh38=>?_) (λh38=>?_)
  ·refine T3 ?_;refine gsg X (B3 X X (sc X) (Blk.c ((hC.fr0 M.fr).blk) 8 X)) (W ?_);refine gsg X (CH X X X Gp Ad JD ((hC.fr0 M.fr).O) (hC.getO _)) (T3 ?_);exact k38 _ ⟨X,X,X,(by rw [h38];rfl),zw⟩
  refine T10 ?_;exact k38 _ ⟨X,X,X,(by rw [h38];rfl),zw⟩
 refine W ?_;refine I0 M 13 CA λM=>oc 0 13 X X M (oc 1 13 X X M (oc 2 13 X X M (ol 3 13 X X X M (λ_ M=>(Blk.c ((hC.fr0 M.fr).blk) 5 X)) (oc 4 13 X X M (ol 5 13 X X X M (λ_ M=>(M.cell 0 X X)) (oa 6 13 X X M (λ_ M=>EM X X X Di Ad AP ((hC.fr0 M.fr).A) (hC.getA _) (hC.isA _)) (oc 7 13 X X M (oc 8 13 X X M (oc 9 13 X X M (fon M 10 10 X X AP λg10 w16 hg10 M=>fop M 11 0 X X X AM X (·.drop 1) λw17 M=>oc 12 13 X X (M.drop 1) (fdn (W ?_))))))))))))
 refine ya X (B8 (parts:=[(0,_),(1,_),(3,_)]) X X (R7 _ _ _)) (CE M X HX λg12 w18 hg12 M=>BX M 0 X X BE X λw19 M=>W ?_);refine AC X (λh90=>?_) (λh90=>?_)
 ·refine sx_seq (EO 12 (λw'=>Mem w AR [As.blk g10 106 (El.cells (c.atf t.loc)),As.blk g3 75 (Tk.cells t)] w') CA ?_);have M:=M.drew;refine oc 0 12 X X (M.pk [1,2]) (ol 1 12 X X X (M.pk [1,2]) (λ_ M=>(M.cell 1 X X)) (oc 2 12 X X (M.pk [1,2]) (ol 3 12 X X X (M.pk [1,2]) (λ_ M=>(M.cell 1 X X)) (oc 4 12 X X (M.pk [1,2]) (ol 5 12 X X X (M.pk [1,2]) (λ_ M=>(M.cell 1 X X)) (oc 6 12 X X (M.pk [1,2]) (B7 7 zx zr X kw X X (λρ hρ=>ED 3 _ _ X g12 4 75 _ (AA t.tries) (hρ _ _ X) (hρ _ _ X) X (M.blk 0 X) GF (D6 X) X) ?_)))))));rintro _ w20 ⟨rfl,hbw20,hfw20⟩
  replace M:Mem w AR (List.set _ 0 (As.blk g12 75 [AA t.id,str t.loc,str [],AA t.born,AA t.tries,str [],AA 0,.int .u8 0,AA 0])) w20:=M.putB 0 rfl hbw20 hfw20
  refine ⟨λ_=>(M.pk [1,2]),oc 8 12 X X (M.pk [1,2]) (B7 9 zx zr X kw X X (λρ hρ=>ED 9 _ _ X g12 5 75 _ (str t.worker) (hρ _ _ X) (hρ _ _ X) X (M.blk 0 X) G4 (D6 X) X) ?_)⟩;rintro _ w21 ⟨rfl,hbw21,hfw21⟩
  replace M:Mem w AR (List.set _ 0 (As.blk g12 75 [AA t.id,str t.loc,str [],AA t.born,AA t.tries,str t.worker,AA 0,.int .u8 0,AA 0])) w21:=M.putB 0 rfl hbw21 hfw21
  refine ⟨λ_=>(M.pk [1,2]),oc 10 12 X X (M.pk [1,2]) (B7 11 zx zr X kw X X (λρ hρ=>ED 3 _ _ X g12 6 75 _ (AA t.until_) (hρ _ _ X) (hρ _ _ X) X (M.blk 0 X) GF (D6 X) X) ?_)⟩;rintro _ w22 ⟨rfl,hbw22,hfw22⟩
  replace M:Mem w AR (List.set _ 0 (As.blk g12 75 [AA t.id,str t.loc,str [],AA t.born,AA t.tries,str t.worker,AA t.until_,.int .u8 0,AA 0])) w22:=M.putB 0 rfl hbw22 hfw22
  refine ⟨λ_=>(M.pk [1,2]),fdn (W ?_)⟩;refine AC X (λh103=>?_) (λh103=>?_)
  ·refine W ?_;refine gp1 M 0 X X X WA λw23 M=>yb X (gp1 M 0 X X X G4 λw24 M=>yb X (gp1 M 0 X X X GF λw25 M=>W ?_))
   refine fvm M 4 [12,11,10,4,3] [(112,.bool ((c.isA t.loc)&&(Tk.same t (⟨t.id,t.loc,[],t.born,t.tries,[],0,2,0⟩:Tk))))] ?_ (λk108=>?_)
   ·intro w26 M;refine yb X (fvm M 4 [12,11,10,4,3] [(117,.bool (((c.isA t.loc)&&(Tk.same t (⟨t.id,t.loc,[],t.born,t.tries,[],0,2,0⟩:Tk)))&&(O ((0:Int)≤t.tries))))] ?_ (λk113=>?_))
    ·intro w27 M;refine yb X (fvm M 4 [12,11,10,4,3] [(122,.bool ((((c.isA t.loc)&&(Tk.same t (⟨t.id,t.loc,[],t.born,t.tries,[],0,2,0⟩:Tk)))&&(O ((0:Int)≤t.tries)))&&(O (t.tries≤(100:Int)))))] ?_ (λk118=>?_))
     ·intro w28 M;refine W ?_;exact gr1 X ⟨by rw [HQ,AN h17,Ac h90,Ac h103],M.fr⟩
     refine A1 (d:=118) X (λh118=>?_) (λh118=>?_)
     ·refine T4 ?_;exact k118 M
     refine T4 ?_;exact k118 M
    refine A1 (d:=113) X (λh113=>?_) (λh113=>?_)
    ·refine T4 ?_;exact k113 M
    refine T4 ?_;exact k113 M
   refine A1 (d:=108) X (λh108=>?_) (λh108=>?_)
   ·exact yd X (AJ (xs:=Tk.cells t) X X (M.rdBlk 2 X X) Bw X BE) (yd X (AJ (xs:=[AA t.id,str t.loc,str [],AA t.born,AA t.tries,str [],AA 0,.int .u8 2,AA 0]) X X (M.rdBlk 0 X X) Bw X BE) (yd X (SX (a:=t) (b:=(⟨t.id,t.loc,[],t.born,t.tries,[],0,2,0⟩:Tk)) X X X) (yb X (k108 M))))
   refine T4 ?_;exact k108 M
  refine W ?_;refine fvm M 4 [12,11,10,4,3] [(112,.bool ((c.isA t.loc)&&(Tk.same t (⟨t.id,t.loc,[],t.born,t.tries,t.worker,t.until_,0,0⟩:Tk))))] ?_ (λk108=>?_)
  ·intro w29 M;refine yb X (fvm M 4 [12,11,10,4,3] [(117,.bool (((c.isA t.loc)&&(Tk.same t (⟨t.id,t.loc,[],t.born,t.tries,t.worker,t.until_,0,0⟩:Tk)))&&(O ((0:Int)≤t.tries))))] ?_ (λk113=>?_))
   ·intro w30 M;refine yb X (fvm M 4 [12,11,10,4,3] [(122,.bool ((((c.isA t.loc)&&(Tk.same t (⟨t.id,t.loc,[],t.born,t.tries,t.worker,t.until_,0,0⟩:Tk)))&&(O ((0:Int)≤t.tries)))&&(O (t.tries≤(100:Int)))))] ?_ (λk118=>?_))
    ·intro w31 M;refine W ?_;exact gr1 X ⟨by rw [HQ,AN h17,Ac h90,AN h103],M.fr⟩
    refine A1 (d:=118) X (λh118=>?_) (λh118=>?_)
    ·refine T4 ?_;exact k118 M
    refine T4 ?_;exact k118 M
   refine A1 (d:=113) X (λh113=>?_) (λh113=>?_)
   ·refine T4 ?_;exact k113 M
   refine T4 ?_;exact k113 M
  refine A1 (d:=108) X (λh108=>?_) (λh108=>?_)
  ·exact yd X (AJ (xs:=Tk.cells t) X X (M.rdBlk 2 X X) Bw X BE) (yd X (AJ (xs:=[AA t.id,str t.loc,str [],AA t.born,AA t.tries,str t.worker,AA t.until_,.int .u8 0,AA 0]) X X (M.rdBlk 0 X X) Bw X BE) (yd X (SX (a:=t) (b:=(⟨t.id,t.loc,[],t.born,t.tries,t.worker,t.until_,0,0⟩:Tk)) X X X) (yb X (k108 M))))
  refine T4 ?_;exact k108 M
 refine W ?_;refine AC X (λh123=>?_) (λh123=>?_)
 ·refine sx_seq (I0 M 12 CA λM=>oc 0 12 X X M (oc 1 12 X X M (oc 2 12 X X M (oa 3 12 X X M (λ_ M=>AJ (xs:=[str m.id,str m.nm,.slice c.a.V m.vars.length c.a.vc,.slice c.a.E m.els.length c.a.ec,.slice c.a.F m.fls.length c.a.fc]) X X (DO ((hC.fr0 M.fr).blk) 0 5 X X) Ap X AO) (oc 4 12 X X M (ol 5 12 X X X M (λ_ M=>(M.cell 2 X X)) (BB 6 (G 132) zr X kw X X (AE X X call171) (vO m c.a t.loc _ ho (hC.fr0 M.fr).md.md) ?_)))))));rintro _ w32 ⟨rfl,hfw32⟩;refine ⟨_,X,λ_=>M.step hfw32,?_⟩;have M:=M.step hfw32;refine oc 7 12 X X M (oc 8 12 X X M (oc 9 12 X X M (oc 10 12 X X M (oc 11 12 X X M (fdn (W ?_))))));refine fvm M 4 [14,12,11,10,4,3] [(140,.bool ((c.isA t.loc)&&(Tk.same t (⟨t.id,t.loc,[],t.born,0,[],0,0,0⟩:Tk))))] ?_ (λk136=>?_)
  ·intro w33 M;refine yb X (fvm M 3 [12,11,10,4,3] [(144,.bool (((c.isA t.loc)&&(Tk.same t (⟨t.id,t.loc,[],t.born,0,[],0,0,0⟩:Tk)))&&(!(QC m t.loc).2)))] ?_ (λk141=>?_))
   ·intro w34 M;refine W ?_;exact gr1 X ⟨by rw [HQ,AN h17,AN h90,Ac h123],M.fr⟩
   refine A1 (d:=141) X (λh141=>?_) (λh141=>?_)
   ·refine T3 ?_;exact k141 M
   refine T3 ?_;exact k141 M
  refine A1 (d:=136) X (λh136=>?_) (λh136=>?_)
  ·exact yd X (AJ (xs:=Tk.cells t) X X (M.rdBlk 2 X X) Bw X BE) (yd X (AJ (xs:=[AA t.id,str t.loc,str [],AA t.born,AA 0,str [],AA 0,.int .u8 0,AA 0]) X X (M.rdBlk 0 X X) Bw X BE) (yd X (SX (a:=t) (b:=(⟨t.id,t.loc,[],t.born,0,[],0,0,0⟩:Tk)) X X X) (yb X (k136 M))))
  refine T4 ?_;exact k136 M
 refine W ?_;refine fvm M 4 [10,4] [(150,.bool ((c.isA t.loc)&&(Tk.same t (⟨t.id,t.loc,[],t.born,0,[],0,0,0⟩:Tk))))] ?_ (λk146=>?_)
 ·intro w35 M;refine yb X (fvm M 9 [4] [(160,.bool (((c.isA t.loc)&&(Tk.same t (⟨t.id,t.loc,[],t.born,0,[],0,0,0⟩:Tk)))&&((O (((c.atf t.loc).kind.toNat:Int)=3)) || (O (((c.atf t.loc).kind.toNat:Int)=7)))))] ?_ (λk151=>?_))
  ·intro w36 M;refine W ?_;exact gr1 X ⟨by rw [HQ,AN h17,AN h90,AN h123],M.fr⟩
  refine A1 (d:=151) X (λh151=>?_) (λh151=>?_)
  ·refine W ?_;refine fvm M 4 [151,4] [(159,.bool ((O (((c.atf t.loc).kind.toNat:Int)=3)) || (O (((c.atf t.loc).kind.toNat:Int)=7))))] ?_ (λk155=>?_)
   ·intro w37 M;exact yb X (k151 M)
   refine A1 (d:=155) X (λh155=>?_) (λh155=>?_)
   ·refine T4 ?_;exact k155 M
   refine T4 ?_;exact k155 M
  refine T9 ?_;exact k151 M
 refine A1 (d:=146) X (λh146=>?_) (λh146=>?_)
 ·exact yd X (AJ (xs:=Tk.cells t) X X (M.rdBlk 2 X X) Bw X BE) (yd X (AJ (xs:=[AA t.id,str t.loc,str [],AA t.born,AA 0,str [],AA 0,.int .u8 0,AA 0]) X X (M.rdBlk 0 X X) Bw X BE) (yd X (SX (a:=t) (b:=(⟨t.id,t.loc,[],t.born,0,[],0,0,0⟩:Tk)) X X X) (yb X (k146 M))))
 refine T4 ?_;exact k146 M
end Go.Proofs.YtppmdnmjepkfaaaGreatDoor
