/- Lemmas. -/
import Derived.Test.YtppmdnmjepkfaaaGreatDoorYRx
import Derived.Test.YtppmdnmjepkfaaaGreatDoorYEx9
set_option maxHeartbeats 16000000
set_option maxRecDepth 100000
namespace Go.Proofs.YtppmdnmjepkfaaaGreatDoor
open Go.RowKit
open Tryz
section
section
section
variable {P:Lw} {e:Env} {w:Kw} {o:Oper}
theorem pB {t:Nat} {x i j:Lz} {l:Kz} {k k':IntKind} {a b:Nat} (ho:o.op=.slice t x (some i) (some j) none) (hx:ev e x=some (str l)) (hi:ev e i=some (.int k (a:Int))) (hj:ev e j=some (.int k' (b:Int))) (ht:P.underlying t=some .string) (hab:a≤b) (hb:b≤l.length):Y P e o w (str ((l.drop a).take (b-a))):=λρ h=>by
 have hs:(ByteArray.mk l.toArray).size=l.length:=by show l.toArray.size=_;simp
 unfold execOp
 simp [ho,h _ _ hx,h _ _ hi,h _ _ hj,str,Instr.sliceAt,Instr.slice,run_underlying ht,Instr.sliceBounds,Instr.sliceBound,asIntOf,hs,hb,hab,Lib.extract_eq]
theorem kA {t:Nat} {x i j:Lz} {l:Kz} {k k':IntKind} {a n:Nat} (ho:o.op=.slice t x (some i) (some j) none) (hx:ev e x=some (str l)) (hi:ev e i=some (.int k (a:Int))) (hj:ev e j=some (.int k' ((a+n:Nat):Int))) (ht:P.underlying t=some .string) (hb:a+n≤l.length):Y P e o w (str ((l.drop a).take n)):=by
 have:=pB (P:=P) (w:=w) ho hx hi hj ht (Cu _ _) hb
 rwa [Iq] at this
theorem a0D {k:IntKind} {t t':Nat} {a b r:Int} {x y:Lz} (ho:o.op=.binOp .add t x y t') (hx:ev e x=some (.int k a)) (hy:ev e y=some (.int k b)) (hr:k.wrap (a+b)=r):Y P e o w (.int k r):=λρ h=>by
 subst hr;unfold execOp;simp [ho,h _ _ hx,h _ _ hy,eqGuard_at_int,binOp_add,Op.intArith]
theorem a0w {k:IntKind} {t t':Nat} {a b r:Int} {x y:Lz} (ho:o.op=.binOp .sub t x y t') (hx:ev e x=some (.int k a)) (hy:ev e y=some (.int k b)) (hr:k.wrap (a-b)=r):Y P e o w (.int k r):=λρ h=>by
 subst hr;unfold execOp;simp [ho,h _ _ hx,h _ _ hy,eqGuard_at_int,binOp_sub,Op.intArith]
theorem a0z {k:IntKind} {t t':Nat} {a b r:Int} {x y:Lz} (ho:o.op=.binOp .mul t x y t') (hx:ev e x=some (.int k a)) (hy:ev e y=some (.int k b)) (hr:k.wrap (a*b)=r):Y P e o w (.int k r):=λρ h=>by
 subst hr;unfold execOp;simp [ho,h _ _ hx,h _ _ hy,eqGuard_at_int,binOp_mul,Op.intArith]
end
theorem DN {l:Kz} {i:Nat} (h:i<l.length):l[i]?=some (l[i]?.getD 0):=by rw [Ao h];rfl
theorem bE (b:UInt8):((decide (97≤(b.toNat:Int))&&decide ((b.toNat:Int)≤122)) || (decide (65≤(b.toNat:Int))&&decide ((b.toNat:Int)≤90)))=D8 b:=by
 rw [ZE];unfold CP;have e:∀p q:Prop,∀ [Decidable p] [Decidable q],(p↔q)→decide p=decide q:=λp q _ _ h=>decide_eq_decide.2 h
 rw [e ((97:Int)≤(b.toNat:Int)) (97≤b.toNat) A0,e ((b.toNat:Int)≤(122:Int)) (b.toNat≤122) A0,e ((65:Int)≤(b.toNat:Int)) (65≤b.toNat) A0,e ((b.toNat:Int)≤(90:Int)) (b.toNat≤90) A0]
def RH (s:Kz) (i:Nat) (y:Rx):Rx:=match qt [] (s.drop (i+1)) with
 | some (b,k)=>if utf b=true then ⟨s.length-k,1,[],⟨3,0,false,b⟩,i,y.e,y.wh⟩ else y.fail 4 i
 | none=>y.fail 4 i
theorem QD {p:Prop} [Decidable p] (h:(!decide p)=false):p:=odt (BO h)
theorem xZ {s b:Kz} {j:Nat} (hj:j<s.length) (h:(!decide (((s[j]?.getD 0).toNat:Int)=39))=true):qt b (s.drop j)=qt (b++(s.drop j).take 1) (s.drop (j+1)):=by
 have hc:=DN hj;rw [iU hc (odf (CJ h)),AG hc]
 rfl
theorem xY {s b:Kz} {j:Nat} (hj:j+1<s.length) (h2:((s[j+1]?.getD 0).toNat:Int)=(39:Int)) (h:((s[j]?.getD 0).toNat:Int)=(39:Int)):qt b (s.drop j)=qt (b++[39]) (s.drop (j+2)):=by
 have hc:=DN (l:=s) (i:=j) A0;have hd:=DN hj;rw [iT hc hd h h2]
 have:(s[j+1]?.getD 0)=39:=Fu.1 (by have:(39:UInt8).toNat=39:=rfl;omega)
 rw [this]
theorem iB {s:Kz} {i:Nat} {y:Rx} {b:Kz} {j:Nat} (hj:¬(j:Int)<(s.length:Int)) (hj2:j≤s.length) (hq:qt [] (s.drop (i+1))=qt b (s.drop j)):RH s i y=y.fail 4 i:=by
 have:j=s.length:=by omega
 rw [this,Am] at hq
 unfold RH;rw [hq]
 cases b<;>rfl
theorem WB {s:Kz} {b:Kz} {j i:Nat} (hj:j<s.length) (h:((s[j]?.getD 0).toNat:Int)=(39:Int)) (h2:((decide (((j+1:Nat):Int)<(s.length:Int)))&&(decide (((s[j+1]?.getD 0).toNat:Int)=39)))=false) (hq:qt [] (s.drop (i+1))=qt b (s.drop j)):qt [] (s.drop (i+1))=some (b,s.length-(j+1)):=by
 have hc:=DN hj;rw [hq]
 by_cases he:j+1=s.length
 ·rw [iV hc h A0]
 have hd:=DN (l:=s) (i:=j+1) A0;have h3:=(KQ h2).resolve_left (by rw [decide_eq_true A0];decide);rw [aW hc hd h (odf h3)]
theorem mX {s:Kz} {i k:Nat} {y:Rx} {b:Kz} (hq:qt [] (s.drop (i+1))=some (b,k)) (hu:utf b=false):RH s i y=y.fail 4 i:=by
 unfold RH;rw [hq];simp [hu]
theorem rG {s:Kz} {i j:Nat} {y:Rx} {b:Kz} (hj:j<s.length) (hq:qt [] (s.drop (i+1))=some (b,s.length-(j+1))) (hu:utf b=true):RH s i y=⟨j+1,1,[],⟨3,0,false,b⟩,i,y.e,y.wh⟩:=by
 unfold RH;rw [hq];simp only [if_pos hu];congr 1;omega
theorem FE (a0:Int) (c2_0 c2_1 c2_2 c2_3:Kv) (a3:Int):prog.built 256 [(0,AA a0),(2,.agg #[c2_0,c2_1,c2_2,c2_3]),(3,AA a3)]=some #[AA a0,str [],c2_0,c2_1,c2_2,c2_3,AA a3]:=by kernel_rfl
theorem CK : (prog.info? 256).map (·.size)=some 7:=by kernel_rfl
theorem GX (s:Kz) (y:Rx) (gx:Nat) (er:Int) (p:Nat) (w:Kw) (hb:Blk w gx 258 (Rx.cells s y)) :
 Calls prog 201 #[pg gx,AA er,AA (p:Int)] w λe w'=>e=.returned (.tuple #[])∧Blk w' gx 258 (Rx.cells s (y.fail er p))∧Fr (λk=>k=gx) w w':=by
 refine sx_enter (vs:=[_,_,_]) func201 X ntmps201 X ?_;have M:Mem w (λk=>k=gx) [As.blk gx 258 (Rx.cells s y)] w:=Mem.one hb;refine W ?_;refine AB X (λh10=>?_) (λh10=>?_)
 ·have h10p:=odt h10;refine W ?_;refine gp1 M 0 X X X ND λw1 M=>W ?_
  exact gp1 M 0 X X X FU λw2 M=>sxl_nil (qx_ret0 (Or.inr X) X ⟨X,by rw [Rx.fail,if_pos h10p];exact M.blk 0 rfl,M.fr⟩)
 have h10p:=odf h10;exact sx_skip (qx_ret0 (Or.inr X) X ⟨X,by rw [Rx.fail,if_neg h10p];exact M.blk 0 rfl,M.fr⟩)
theorem SU (b:UInt8) (w:Kw):Calls prog 219 #[.int .u8 (b.toNat:Int)] w (BS w (.bool (BL b))):=by
 refine BR func219 ntmps219 X λM=>W ?_
 refine fvm M 3 [2] [(8,.bool ((decide (48≤(b.toNat:Int)))&&(decide ((b.toNat:Int)≤57))))] ?_ (λk5=>?_)
 ·intro w1 M;refine W ?_;exact gr1 X ⟨X,M.fr⟩
 refine A1 (d:=5) X (λh5=>?_) (λh5=>?_)
 ·refine T3 ?_;exact k5 M
 refine T3 ?_;exact k5 M
theorem WL (b:UInt8) (w:Kw):Calls prog 220 #[.int .u8 (b.toNat:Int)] w (BS w (.bool (D8 b))):=by
 refine BR func220 ntmps220 X λM=>W ?_
 refine fvm M 3 [2,0] [(8,.bool ((decide (97≤(b.toNat:Int)))&&(decide ((b.toNat:Int)≤122))))] ?_ (λk5=>?_)
 ·intro w1 M;refine yb X (fvm M 7 [2] [(16,.bool (((decide (97≤(b.toNat:Int)))&&(decide ((b.toNat:Int)≤122))) || ((decide (65≤(b.toNat:Int)))&&(decide ((b.toNat:Int)≤90)))))] ?_ (λk9=>?_))
  ·intro w2 M;refine W ?_;exact gr1 X ⟨by rw [bE],M.fr⟩
  refine A1 (d:=9) X (λh9=>?_) (λh9=>?_)
  ·refine T7 ?_;exact k9 M
  refine W ?_;refine fvm M 3 [9,2] [(15,.bool ((decide (65≤(b.toNat:Int)))&&(decide ((b.toNat:Int)≤90))))] ?_ (λk12=>?_)
  ·intro w3 M;exact yb X (k9 M)
  refine A1 (d:=12) X (λh12=>?_) (λh12=>?_)
  ·refine T3 ?_;exact k12 M
  refine T3 ?_;exact k12 M
 refine A1 (d:=5) X (λh5=>?_) (λh5=>?_)
 ·refine T3 ?_;exact k5 M
 refine T3 ?_;exact k5 M
theorem dN (v:Kz) (w:Kw):Calls prog 221 #[str v] w (BS w (.bool (IE v))):=by
 refine BR func221 ntmps221 X λM=>W ?_
 refine fvm M 3 [2,0] [(8,.bool ((decide (v=[97,110,100])) || (decide (v=[111,114]))))] ?_ (λk5=>?_)
 ·intro w1 M;refine yb X (fvm M 3 [2,0] [(12,.bool (((decide (v=[97,110,100])) || (decide (v=[111,114]))) || (decide (v=[110,111,116]))))] ?_ (λk9=>?_))
  ·intro w2 M;refine yb X (fvm M 3 [2,0] [(16,.bool ((((decide (v=[97,110,100])) || (decide (v=[111,114]))) || (decide (v=[110,111,116]))) || (decide (v=[116,114,117,101]))))] ?_ (λk13=>?_))
   ·intro w3 M;refine yb X (fvm M 3 [2] [(20,.bool (((((decide (v=[97,110,100])) || (decide (v=[111,114]))) || (decide (v=[110,111,116]))) || (decide (v=[116,114,117,101]))) || (decide (v=[102,97,108,115,101]))))] ?_ (λk17=>?_))
    ·intro w4 M;refine W ?_;exact gr1 X ⟨X,M.fr⟩
    refine A1 (d:=17) X (λh17=>?_) (λh17=>?_)
    ·refine T3 ?_;exact k17 M
    refine T3 ?_;exact k17 M
   refine A1 (d:=13) X (λh13=>?_) (λh13=>?_)
   ·refine T3 ?_;exact k13 M
   refine T3 ?_;exact k13 M
  refine A1 (d:=9) X (λh9=>?_) (λh9=>?_)
  ·refine T3 ?_;exact k9 M
  refine T3 ?_;exact k9 M
 refine A1 (d:=5) X (λh5=>?_) (λh5=>?_)
 ·refine T3 ?_;exact k5 M
 refine T3 ?_;exact k5 M
theorem mW (s:Kz) (y:Rx) (gx:Nat) (i:Nat) (w:Kw) (hb:Blk w gx 258 (Rx.cells s y)) (hi:i<s.length) (hl:s.length≤256) :
 Calls prog 222 #[pg gx,AA (i:Int)] w λe w'=>e=.returned (.tuple #[])∧Blk w' gx 258 (Rx.cells s (RH s i y))∧Fr (λk=>k=gx) w w':=by
 refine sx_enter (vs:=[_,_]) func222 X ntmps222 X ?_;have M:Mem w (λk=>k=gx) [As.blk gx 258 (Rx.cells s y)] w:=Mem.one hb;refine W ?_;refine EF M [1,0] (λze zF e wr mz=>∃(j:Nat) (b:Kz),e=(4,str b)::(5,AA (j:Int))::ze∧zF wr∧(i+1≤j∧j≤s.length)∧(b.length≤j)∧(qt [] (s.drop (i+1))=qt b (s.drop j))∧mz=s.length-j) ⟨(i+1),[],X,M,⟨Ab _,by omega⟩,Ae _,X,X⟩ ?_;rintro _ w1 _ ⟨j,b,rfl,M,hj,hbl,hq,rfl⟩;refine W ?_;refine ya X (BT X X Aa) (W ?_);refine AB X (λh14=>?_) (λh14=>?_)
 ·have h14p:=odt h14;refine W ?_;refine ya X (B8 X X X Aa (DN (l:=s) (i:=j) A0)) (W ?_);refine AB X (λh21=>?_) (λh21=>?_)
  ·have h21p:=(odf (CJ h21));refine W ?_;refine ya X (kA (a:=j) (n:=1) X X X X Aa A0) (ya X (pC X X X DC) (W ?_));refine fag ⟨j+1,(b++((s.drop j).take 1)),X,M,?_,?_,?_,X⟩
   ·omega
   ·rw [Ah]
    first
     | (rw [Bl];omega)
     | (show b.length+1≤j+2;omega)
   exact hq.trans (xZ A0 h21)
  have h21p:=(odt (BO h21));refine W ?_;refine ya X (BT X X Aa) (W ?_);refine fvm M 9 [5,4,1,0] [(51,.bool ((decide (((j+1:Nat):Int)<(s.length:Int)))&&(decide (((s[j+1]?.getD 0).toNat:Int)=39))))] ?_ (λk42=>?_)
  ·intro w2 M;refine W ?_;refine AB X (λh51=>?_) (λh51=>?_)
   ·have h51p:=bd h51;refine W ?_;refine ya X (pC X X X DC) (W ?_);refine fag ⟨j+2,(b++[39]),X,M,?_,?_,?_,X⟩
    ·omega
    ·rw [Ah]
     first
      | (rw [Bl];omega)
      | (show b.length+1≤j+2;omega)
    exact hq.trans (xY A0 (h51p.2) (QD h21))
   have h51p:=bd h51;refine W ?_;refine CW M 57 X X call63 (Q4 _ _ A0) λw3 M=>W ?_
   refine AB X (λh58=>?_) (λh58=>?_)
   ·have h58p:=CJ h58;refine W ?_;refine IB X (W ?_);exact GL M 0 73 X X (AD X X call201) (GX s y _ _ _ _ (M.blk 0 X)) λw4 M=>sxl_nil (qx_ret0 (Or.inr X) X ⟨X,by rw [mX (WB A0 (QD h21) h51 hq) (CJ h58)];exact M.blk 0 rfl,M.fr⟩)
   have h58p:=BO h58;refine W ?_;refine gp1 M 0 X X X FU λw5 M=>W ?_
   refine ya X (B7 (parts:=[(0,_),(3,_)]) X X (JZ _ _)) (yb X (ya X (B7 (parts:=[(0,_),(2,_),(3,_)]) X X (FE _ _ _ _ _ _)) (W ?_)));refine J9 (cs':=[str s,AA ((j+1:Nat):Int),AA 1,str [],.int .u8 3,AA 0,.bool false,str b,AA (i:Int),AA y.e,AA (y.wh:Int)]) M 0 kw X X X X X CK X (CL X) (BW X) X λw6 M=>W ?_
   exact qx_ret0 (Or.inl X) X ⟨X,by rw [rG A0 (WB A0 (QD h21) h51 hq) (BO h58)];exact M.blk 0 rfl,M.fr⟩
  refine A1 (d:=42) X (λh42=>?_) (λh42=>?_)
  ·have h42p:=odt h42;refine W ?_;refine yd X (B8 X X X Aa (DN (l:=s) (i:=j+1) A0)) (T2 ?_);exact k42 M
  refine T9 ?_;exact k42 M
 have h14p:=odf h14;refine W ?_;exact GL M 0 73 X X (AD X X call201) (GX s y _ _ _ _ (M.blk 0 X)) λw7 M=>sxl_nil (qx_ret0 (Or.inr X) X ⟨X,by rw [iB h14p A0 hq];exact M.blk 0 rfl,M.fr⟩)
end
section
structure RxI (s:Kz) (y:Rx):Prop where
 at_:y.at_≤s.length
 tat:y.tat≤y.at_
 adv:¬y.kd=0→y.tat<y.at_
def rM (s:Kz) (y:Rx):Nat:=if y.e=0 then s.length+1-y.tat else 0
theorem NH (y:Rx) (e:Int) (p:Nat):(y.fail e p).at_=y.at_∧(y.fail e p).tat=y.tat∧(y.fail e p).kd=y.kd:=by unfold Rx.fail;split<;>exact ⟨rfl,rfl,rfl⟩
theorem RxI.fail {s:Kz} {y:Rx} (h:RxI s y) (e:Int) (p:Nat):RxI s (y.fail e p):=by
 obtain ⟨h1,h2,h3⟩:=NH y e p;exact ⟨by rw [h1];exact h.at_,by rw [h1,h2];exact h.tat,by rw [h1,h2,h3];exact h.adv⟩
theorem lB {s:Kz} {y:Rx} {e:Int} {p:Nat} (h:¬e=0):rM s (y.fail e p)=0:=by unfold rM;rw [if_neg (Rx.fail_e h)]
theorem lC : ∀(b l:Kz) {v:Kz} {k:Nat},qt b l=some (v,k)→k<l.length
 | _,[],_,_,h=>by cases h
 | b,[c],v,k,h=>by
  rw [show qt b [c]=if (c.toNat:Int)=39 then some (b,0) else none from rfl] at h
  split at h
  ·simp only [Ad,Av] at h;simp only [Af];omega
  cases h
 | b,c::d::r,v,k,h=>by
  rw [qt] at h
  split at h
  ·split at h
   ·have:=lC _ r h;simp only [Af];omega
   simp only [Ad,Av] at h;simp only [Af];omega
  have:=lC _ (d::r) h;simp only [Af] at this ⊢;omega
theorem Z1 {r k:Kz}:∀{l:List Kz},IS r l=some k→k.length≤r.length∧k∈l
 | [],h=>by cases h
 | a::l,h=>by
  rw [IS] at h
  split at h
  ·rename_i h1
   simp only [Ad] at h
   subst h
   have:=Ay List.length h1
   rw [Bl] at this
   exact ⟨by omega,by simp⟩
  obtain ⟨h2,h3⟩:=Z1 h;exact ⟨h2,by simp [h3]⟩
theorem rE {s r:Kz} {y:Rx} (hr:r.length≤s.length):RxI s (SR s r y)∧(SR s r y).tat=s.length-r.length:=by
 have z0:RxI s (⟨s.length-r.length,0,[],zeroVl,s.length-r.length,y.e,y.wh⟩:Rx):=⟨Nat.sub_le _ _,Ab _,λh=>absurd X h⟩;have z1:∀k,k≤r.length→RxI s (⟨s.length-r.length+k,0,[],zeroVl,s.length-r.length,y.e,y.wh⟩:Rx):=λk hk=>⟨by show _+k≤_;omega,Cu _ _,λh=>absurd rfl h⟩
 unfold SR
 by_cases h0:¬y.e=0∨r=[]
 ·rw [if_pos h0];exact ⟨z0,rfl⟩
 rw [if_neg h0];have hne:r≠[]:=λz=>h0 (.inr z)
 have hp:0<r.length:=Fe.2 hne;obtain ⟨b,q,rfl⟩:=Ev hne;rw [show (b::q).headD 0=b from rfl]
 by_cases h1:BL b=true
 ·rw [if_pos h1];have hl:=YU BL (b::q);have hl2:0<((b::q).takeWhile BL).length:=by rw [Co,if_pos h1];exact Iw _
  split
  ·exact ⟨(z1 _ hl).fail _ _,(NH _ _ _).2.1⟩
  split
  ·exact ⟨(z1 _ hl).fail _ _,(NH _ _ _).2.1⟩
  exact ⟨⟨by simp only;omega,Cu _ _,λ_=>by simp only;omega⟩,X⟩
 rw [if_neg h1]
 by_cases h2:D8 b=true
 ·rw [if_pos h2];have hi:BE b=true:=by unfold BE;rw [h2];rfl
  have hl:=YU BE (b::q);have hl2:0<((b::q).takeWhile BE).length:=by rw [Co,if_pos hi];exact Iw _
  split
  ·exact ⟨⟨by simp only;omega,Cu _ _,λ_=>by simp only;omega⟩,X⟩
  split
  ·exact ⟨⟨by simp only;omega,Cu _ _,λ_=>by simp only;omega⟩,X⟩
  split
  ·exact ⟨(z1 _ hl).fail _ _,(NH _ _ _).2.1⟩
  exact ⟨⟨by simp only;omega,Cu _ _,λ_=>by simp only;omega⟩,X⟩
 rw [if_neg h2]
 by_cases h3:(b.toNat:Int)=39
 ·rw [if_pos h3]
  cases hq:qt [] (b::q).tail with
  | none=>exact ⟨z0.fail _ _,(NH _ _ _).2.1⟩
  | some v=>
   obtain ⟨v,k⟩:=v;have hk:=lC _ _ hq;simp only [List.tail_cons] at hk
   simp only
   split
   ·exact ⟨⟨by simp only [Af] at hr ⊢;omega,Cu _ _,λ_=>by simp only [Af];omega⟩,X⟩
   exact ⟨z0.fail _ _,(NH _ _ _).2.1⟩
 rw [if_neg h3]
 cases hq:IS (b::q) rsigns with
 | none=>exact ⟨z0.fail _ _,(NH _ _ _).2.1⟩
 | some k=>
  obtain ⟨hk,hm⟩:=Z1 hq
  have h0:0<k.length:=by
   have:∀z∈rsigns,0<z.length:=by decide
   exact this k hm
  exact ⟨⟨by simp only;omega,Cu _ _,λ_=>by simp only;omega⟩,X⟩
theorem C6 {s:Kz} {y:Rx}:RxI s (AQ s y):=(rE (HW _ _)).1
theorem nH {s:Kz} {y:Rx} (h:y.at_≤s.length):y.at_≤(AQ s y).tat:=by
 have h1:(AQ s y).tat=_:=(rE (HW s y.at_)).2;have h2:(GP (s.drop y.at_)).length≤s.length-y.at_:=Bb (K8 _ _) (by rw [Bz];exact Ab _);have h3:=HW s y.at_;omega
theorem lA {s:Kz} {y:Rx} (h:RxI s y):rM s (AQ s y)≤s.length+1-y.at_:=by
 have:=nH h.at_
 unfold rM
 split<;>omega
theorem G4 {s:Kz} {y:Rx} (h:RxI s y) (he:y.e=0) (hk:¬y.kd=0):rM s (AQ s y)<rM s y:=by
 have h1:=lA h;have h2:=h.adv hk;have h3:=h.at_;have h4:rM s y=s.length+1-y.tat:=by unfold rM;rw [if_pos he]
 omega
theorem xV {s:Kz} {y:Rx} (h:¬y.e=0):¬(AQ s y).e=0:=by
 unfold AQ SR;rw [if_pos (.inl h)];exact h
theorem rV {s:Kz} {y:Rx} (h:RxI s y):rM s (AQ s y)≤rM s y:=by
 by_cases he:y.e=0
 ·have h1:=lA h;have h2:=h.tat;have h4:rM s y=s.length+1-y.tat:=by unfold rM;rw [if_pos he]
  omega
 unfold rM;rw [if_neg he,if_neg (xV he)];exact Ab _
theorem rU (s:Kz) (y:Rx):rM s y≤s.length+1:=by unfold rM;split<;>omega
theorem EY {y:Rx} {k:Kz} (h:isR y k=true):y.e=0∧¬y.kd=0:=by
 unfold isR at h
 have h1:=odt (EE h).1;have h2:=odt (EE (EE h).2).1;exact ⟨h1,by omega⟩
structure RfI (s:Kz) (f:Nat) (fr:Nat→Rx→Xn × Rx):Prop where
 I:∀(line:Nat) (y:Rx),RxI s y→rM s y<f→RxI s (fr line y).2
 m:∀(line:Nat) (y:Rx),RxI s y→rM s y<f→rM s (fr line y).2≤rM s y
def p9 (sg:Rx→Option UInt8):Prop:=∀y op,sg y=some op→y.e=0∧¬y.kd=0
theorem a0X : p9 sgP:=λy op h=>by
 unfold sgP at h
 split at h
 ·exact EY (by assumption)
 split at h
 ·exact EY (by assumption)
 split at h
 ·exact EY (by assumption)
 cases h
theorem a0W : p9 sgS:=λy op h=>by
 unfold sgS at h
 split at h
 ·exact EY (by assumption)
 split at h
 ·exact EY (by assumption)
 cases h
theorem a16 : p9 sgA:=λy op h=>by
 unfold sgA at h
 split at h
 ·exact EY (by assumption)
 cases h
theorem a0Y : p9 sgO:=λy op h=>by
 unfold sgO at h
 split at h
 ·exact EY (by assumption)
 cases h
theorem a15 : p9 sgC:=λy op h=>by
 have:∀(l:List Kz) (i:Nat),W6 y i l=some op→y.e=0∧¬y.kd=0:=by
  intro l
  induction l with
  | nil=>intro _ h;cases h
  | cons a l ih=>
   intro i h;rw [W6] at h
   split at h
   ·exact EY (by assumption)
   exact ih _ h
 exact this _ _ h
section
variable {s:Kz} {f:Nat} {fr:Nat→Rx→Xn × Rx}
theorem WK (h:RfI s f fr) {y:Rx} (hy:RxI s y) (hm:rM s y≤f):RxI s (EX s fr y).2∧rM s (EX s fr y).2≤rM s y:=by
 unfold EX
 split
 ·rename_i h1
  have hst:=G4 hy (EY h1).1 (EY h1).2;exact ⟨h.I _ _ C6 A0,Bb (h.m _ _ C6 A0) A0⟩
 split
 ·exact ⟨hy,Ab _⟩
 split
 ·exact ⟨C6,rV hy⟩
 split
 ·exact ⟨C6,rV hy⟩
 split
 ·rename_i h1
  have hst:=G4 hy (EY h1).1 (EY h1).2;have h2:=h.I 1 (AQ s y) C6 A0;have h3:=h.m 1 (AQ s y) C6 A0
  simp only
  split
  ·exact ⟨C6,Bb (rV h2) A0⟩
  exact ⟨h2.fail _ _,by rw [lB AV];exact Ae _⟩
 exact ⟨hy.fail _ _,by rw [lB AV];exact Ae _⟩
theorem RO (h:RfI s f fr) {line:Nat} {sg:Rx→Option UInt8} (hg:p9 sg):∀(k:Nat) (n:Xn) (y:Rx),RxI s y→rM s y≤f→RxI s (GS s fr line sg k n y).2∧rM s (GS s fr line sg k n y).2≤rM s y
 | 0,n,y,hy,_=>⟨hy,Ab _⟩
 | k+1,n,y,hy,hm=>by
  rw [GS]
  cases hs:sg y with
  | none=>exact ⟨hy,Ab _⟩
  | some op=>
   obtain ⟨h1,h2⟩:=hg y op hs;have hst:=G4 hy h1 h2;have h3:=h.I (line+1) (AQ s y) C6 A0;have h4:=h.m (line+1) (AQ s y) C6 A0;obtain ⟨h5,h6⟩:=RO h hg k (.bin op n (fr (line+1) (AQ s y)).1) _ h3 A0;exact ⟨h5,Bb h6 A0⟩
variable (k:Nat)
theorem aT (h:RfI s f fr) {y:Rx} (hy:RxI s y) (hm:rM s y≤f):RxI s (KF s fr k y).2∧rM s (KF s fr k y).2≤rM s y:=by
 obtain ⟨h1,h2⟩:=WK h hy hm;obtain ⟨h3,h4⟩:=RO (line:=6) h a0X k (EX s fr y).1 _ h1 A0;exact ⟨h3,Bb h4 h2⟩
theorem iN (h:RfI s f fr) {y:Rx} (hy:RxI s y) (hm:rM s y≤f):RxI s (FH s fr k y).2∧rM s (FH s fr k y).2≤rM s y:=by
 obtain ⟨h1,h2⟩:=aT k h hy hm;obtain ⟨h3,h4⟩:=RO (line:=5) h a0W k (KF s fr k y).1 _ h1 A0;exact ⟨h3,Bb h4 h2⟩
theorem aV (h:RfI s f fr) {y:Rx} (hy:RxI s y) (hm:rM s y≤f):RxI s (KO s fr k y).2∧rM s (KO s fr k y).2≤rM s y:=by
 obtain ⟨h1,h2⟩:=iN k h hy hm;unfold KO
 cases hs:sgC (FH s fr k y).2 with
 | none=>exact ⟨h1,h2⟩
 | some op=>
  obtain ⟨g1,g2⟩:=a15 _ _ hs;have hst:=G4 h1 g1 g2;exact ⟨h.I _ _ C6 A0,Bb (h.m 5 _ C6 A0) A0⟩
theorem iO (h:RfI s f fr) {y:Rx} (hy:RxI s y) (hm:rM s y≤f):RxI s (O4 s fr k y).2∧rM s (O4 s fr k y).2≤rM s y:=by
 unfold O4
 split
 ·rename_i h1
  have hst:=G4 hy (EY h1).1 (EY h1).2;exact ⟨h.I _ _ C6 A0,Bb (h.m 3 _ C6 A0) A0⟩
 exact aV k h hy hm
theorem iS (h:RfI s f fr) {y:Rx} (hy:RxI s y) (hm:rM s y≤f):RxI s (PK s fr k y).2∧rM s (PK s fr k y).2≤rM s y:=by
 obtain ⟨h1,h2⟩:=iO k h hy hm;obtain ⟨h3,h4⟩:=RO (line:=2) h a16 k (O4 s fr k y).1 _ h1 A0;exact ⟨h3,Bb h4 h2⟩
theorem a2o (h:RfI s f fr) {y:Rx} (hy:RxI s y) (hm:rM s y≤f):RxI s (rOr s fr k y).2∧rM s (rOr s fr k y).2≤rM s y:=by
 obtain ⟨h1,h2⟩:=iS k h hy hm;obtain ⟨h3,h4⟩:=RO (line:=1) h a0Y k (PK s fr k y).1 _ h1 A0;exact ⟨h3,Bb h4 h2⟩
theorem rX (h:RfI s f fr) (line:Nat) {y:Rx} (hy:RxI s y) (hm:rM s y≤f):RxI s (iP s fr k line y).2∧rM s (iP s fr k line y).2≤rM s y:=by
 unfold iP
 split
 ·exact a2o k h hy hm
 split
 ·exact iS k h hy hm
 split
 ·exact iO k h hy hm
 split
 ·exact aV k h hy hm
 split
 ·exact iN k h hy hm
 split
 ·exact aT k h hy hm
 exact WK h hy hm
theorem LG {line j:Nat} {sg:Rx→Option UInt8} {n:Xn} {y:Rx} {op:UInt8} (h:sg y=some op):GS s fr line sg (j+1) n y=GS s fr line sg j (.bin op n (fr (line+1) (AQ s y)).1) (fr (line+1) (AQ s y)).2:=by rw [GS,h]
end
theorem WF (s:Kz):∀f:Nat,RfI s f (DQ s f)
 | 0=>⟨λ_ _ _ hm=>absurd hm (Dl _),λ_ _ _ hm=>absurd hm (Dl _)⟩
 | f+1=>⟨λl _ hy hm=>(rX f (WF s f) l hy (Dw hm)).1,λl _ hy hm=>(rX f (WF s f) l hy (Dw hm)).2⟩
theorem a2U {y:Rx} (h:isR y [42]=true):sgP y=some 15:=by unfold sgP;rw [if_pos h]
theorem a2T {y:Rx} (h:isR y [42]=false) (h2:isR y [47]=true):sgP y=some 16:=by unfold sgP;rw [AM h,if_pos h2]
theorem a2S {y:Rx} (h:isR y [42]=false) (h2:isR y [47]=false) (h3:isR y [37]=true):sgP y=some 17:=by unfold sgP;rw [AM h,AM h2,if_pos h3]
theorem a2V {y:Rx} (h:isR y [42]=false) (h2:isR y [47]=false) (h3:isR y [37]=false):sgP y=none:=by unfold sgP;rw [AM h,AM h2,AM h3]
theorem a2Q {y:Rx} (h:isR y [43]=true):sgS y=some 13:=by unfold sgS;rw [if_pos h]
theorem a2P {y:Rx} (h:isR y [43]=false) (h2:isR y [45]=true):sgS y=some 14:=by unfold sgS;rw [AM h,if_pos h2]
theorem a2R {y:Rx} (h:isR y [43]=false) (h2:isR y [45]=false):sgS y=none:=by unfold sgS;rw [AM h,AM h2]
theorem a2Y {y:Rx} (h:isR y [97,110,100]=true):sgA y=some 5:=by unfold sgA;rw [if_pos h]
theorem a2Z {y:Rx} (h:isR y [97,110,100]=false):sgA y=none:=by unfold sgA;rw [AM h]
theorem a2W {y:Rx} (h:isR y [111,114]=true):sgO y=some 6:=by unfold sgO;rw [if_pos h]
theorem a2X {y:Rx} (h:isR y [111,114]=false):sgO y=none:=by unfold sgO;rw [AM h]
end
end
section
theorem Mem.blkOwnS {w0 w:Kw} {S:Nat→Prop} {L:List As} (M:Mem w0 S L w) (i:Nat) {g t size n:Nat} {cs:Kx} (hi:L[i]?=some (As.blk g t cs)) (hS:¬S g) (hn:cs.length=n*size) (hm:n≤maxLen):Mem w0 S (L.set i (As.own w0.heap.size t size (.slice (some ⟨g,0,none⟩) n n) n cs)) w:=by
 have hb:=M.blk i hi;have hg:w0.heap.size≤g:=((M.lt i _ hi g (by simp [As.blk])).2).resolve_right hS;refine M.upd i hi Fr.refl _ ?_ (λg' hg'=>.inl (by simpa [As.own,As.blk,Value.ownBlock,eq_comm] using hg'));exact ⟨hn,.inr ⟨g,n,cs.toArray,X,hg,hb,Ab _,hm,by simpa using hn,by simp [←hn]⟩⟩
theorem jZ {P:Lw} {e:Env} {w:Kw} {o:Oper} {t:Nat} {x i j:Lz} {l r:Kz} {k k':IntKind} {a b:Nat} (ho:o.op=.slice t x (some i) (some j) none) (hx:ev e x=some (str l)) (hi:ev e i=some (.int k (a:Int))) (hj:ev e j=some (.int k' (b:Int))) (ht:P.underlying t=some .string) (hab:a≤b) (hb:b≤l.length) (hr:(l.drop a).take (b-a)=r):Y P e o w (str r):=hr▸pB ho hx hi hj ht hab hb
theorem pK {n:Int} (h:0≤n∧n<256):IntKind.u8.wrap n=n:=by
 simp only [IntKind.wrap,IntKind.bits,IntKind.signed];simp only [Fk,Db,if_false];omega
theorem wU {s:Kz} {i:Nat} (hi:i<s.length) (h:((s[i]?.getD 0).toNat:Int)=(32:Int)):GP (s.drop i)=GP (s.drop (i+1)):=by
 rw [AG (DN hi)];unfold GP;rw [Hg,if_pos]
 have:(s[i]?.getD 0)=32:=Fu.1 (by have:(32:UInt8).toNat=32:=rfl;omega)
 rw [this];rfl
theorem wT {s:Kz} {i:Nat} (h:((decide ((i:Int)<(s.length:Int)))&&(decide (((s[i]?.getD 0).toNat:Int)=32)))=false):GP (s.drop i)=s.drop i:=by
 by_cases hi:i<s.length
 ·have h2:=odf ((KQ h).resolve_left (by rw [decide_eq_true A0];decide));rw [AG (DN hi)];unfold GP;rw [Hg,if_neg];intro z;exact h2 (by rw [eq_of_beq z];rfl)
 rw [Eq A0];rfl
structure Tw (is:UInt8→Bool) (s:Kz) (i j:Nat):Prop where
 le:i≤j∧j≤s.length
 eq:(s.drop i).takeWhile is=(s.drop i).take (j-i)++(s.drop j).takeWhile is
theorem Tw.init {is:UInt8→Bool} {s:Kz} (i:Nat) (h:i≤s.length):Tw is s i i:=⟨⟨Ab _,h⟩,by rw [Fy];rfl⟩
theorem Tw.step {is:UInt8→Bool} {s:Kz} {i j:Nat} (h:Tw is s i j) (hj:j<s.length) (hc:is (s[j]?.getD 0)=true):Tw is s i (j+1):=by
 have hle:=h.le;refine ⟨⟨by omega,hj⟩,?_⟩;rw [h.eq,AG (DN hj),Co,if_pos hc,show j+1-i=(j-i)+1 by omega,Da,Bt,show i+(j-i)=j by omega,DN hj]
 simp
theorem Tw.stop {is:UInt8→Bool} {s:Kz} {i j:Nat} (h:Tw is s i j) (hs:¬j<s.length∨is (s[j]?.getD 0)=false):(s.drop i).takeWhile is=(s.drop i).take (j-i):=by
 have:(s.drop j).takeWhile is=[]:=by
  by_cases hj:j<s.length
  ·rw [AG (DN hj),Co,if_neg (by rw [hs.resolve_left (λz=>z hj)];decide)]
  rw [Eq A0];rfl
 rw [h.eq,this,Bv]
theorem Tw.head {is:UInt8→Bool} {s t:Kz} {i:Nat} (ht:(s.drop i).takeWhile is=t) (hi:i<s.length) (hc:is (s[i]?.getD 0)=true):t[0]?.getD 0=s[i]?.getD 0∧0<t.length:=by
 subst ht;rw [AG (DN hi),Co,if_pos hc];exact ⟨X,Iw _⟩
theorem a1W {t:Kz} (h:t.all BL=true) {i:Nat} (hi:i<t.length):48≤(t[i]?.getD 0).toNat∧(t[i]?.getD 0).toNat≤57:=S5 (Ci.1 h _ (Ac (DN hi)))
theorem oS {t:Kz} {q:Nat} (h:q<t.length):NS 0 (t.take (q+1))=NS 0 (t.take q)*10+((t[q]?.getD 0).toNat-48):=by
 rw [Da,DN h];unfold NS;rw [De];rfl
theorem iD : ∀z∈rsigns,z.length≤2:=by decide
theorem xB {r z:Kz} {l:List Kz} (h:r.take z.length=z):IS r (z::l)=some z:=by rw [IS,if_pos h]
theorem rA {r z:Kz} {l:List Kz} (h:¬r.take z.length=z):IS r (z::l)=IS r l:=by rw [IS,if_neg h]
theorem a0V {s z:Kz} {i:Nat} (h:((decide (((i+z.length:Nat):Int)≤(s.length:Int)))&&(decide ((s.drop i).take z.length=z)))=true):(s.drop i).take z.length=z:=odt (EE h).2
theorem a0U {s z:Kz} {i:Nat} (hi:i≤s.length) (h:((decide (((i+z.length:Nat):Int)≤(s.length:Int)))&&(decide ((s.drop i).take z.length=z)))=false):¬(s.drop i).take z.length=z:=λe=>by
 have hl:=Ay List.length e;rw [Bl,Bz] at hl
 rcases KQ h with h|h
 ·have:=odf h
  omega
 exact odf h e
theorem a2p (b l:Kz) {v:Kz} {k:Nat} (h:qt b l=some (v,k)):k≤l.length:=Gn (lC b l h)
theorem bH {a b:Bool} (h:(if a=true then b else false)=true):a=true∧b=true:=by cases a<;>simp_all
theorem tL {a b:Bool} (h:(if a=true then b else false)=false):a=false∨b=false:=by cases a<;>simp_all
theorem lK (b c d e f:Bool):(if b=true then true else (if c=true then true else (if d=true then true else (if e=true then true else f))))=((((b || c) || d) || e) || f):=by revert b c d e f;decide
theorem l7 {s:Kz} {i:Nat} {y:Rx} (h:((!decide (y.e=(0:Int))) || (decide ((s.length:Int)≤(i:Int))))=false):i<s.length∧¬(¬y.e=0∨s.drop i=[])∧(s.drop i).headD 0=s[i]?.getD 0:=by
 have h2:=odf (G8 h).2;have hlt:i<s.length:=by omega
 refine ⟨hlt,λz=>z.elim (λz=>z (odt (BO (G8 h).1))) (λz=>?_),?_⟩
 ·have:=Ay List.length z
  rw [Bz] at this
  simp only [Aq] at this
  omega
 rw [AG (DN hlt)];rfl
section
variable {s:Kz} {i:Nat} {y:Rx} (hr:GP (s.drop y.at_)=s.drop i) (hi:i≤s.length)
include hr hi
theorem WE : AQ s y=SR s (s.drop i) y∧s.length-(s.drop i).length=i:=by
 unfold AQ;rw [hr,Bz];exact ⟨X,by omega⟩
theorem a1b (h:((!decide (y.e=(0:Int))) || (decide ((s.length:Int)≤(i:Int))))=true):AQ s y=⟨i,0,[],zeroVl,i,y.e,y.wh⟩:=by
 obtain ⟨h1,h2⟩:=WE hr hi;rw [h1,SR,if_pos,h2];rcases PM h with h|h
 ·exact .inl (odf (CJ h))
 exact .inr (Eq (by have:=odt h;omega))
variable (h:((!decide (y.e=(0:Int))) || (decide (((s.length:Nat):Int)≤((i:Nat):Int))))=false)
include h
theorem aR (hd:BL (s[i]?.getD 0)=true):AQ s y=if ((s[i]?.getD 0).toNat:Int)=48∧1<((s.drop i).takeWhile BL).length then (⟨i+((s.drop i).takeWhile BL).length,0,[],zeroVl,i,y.e,y.wh⟩:Rx).fail 4 i
 else if 9223372036854775807<rnumV ((s.drop i).takeWhile BL) then (⟨i+((s.drop i).takeWhile BL).length,0,[],zeroVl,i,y.e,y.wh⟩:Rx).fail 91 i
 else ⟨i+((s.drop i).takeWhile BL).length,1,[],⟨1,(rnumV ((s.drop i).takeWhile BL):Int),false,[]⟩,i,y.e,y.wh⟩:=by
 obtain ⟨h1,h2⟩:=WE hr hi;obtain ⟨h3,h4,h5⟩:=l7 h;rw [h1,SR,if_neg h4,h5,if_pos hd,h2]
theorem V4 (hd:BL (s[i]?.getD 0)=false) (hw:D8 (s[i]?.getD 0)=true):AQ s y=if (s.drop i).takeWhile BE=[116,114,117,101]∨(s.drop i).takeWhile BE=[102,97,108,115,101] then ⟨i+((s.drop i).takeWhile BE).length,1,[],⟨2,0,decide ((s.drop i).takeWhile BE=[116,114,117,101]),[]⟩,i,y.e,y.wh⟩
 else if IE ((s.drop i).takeWhile BE)=true then ⟨i+((s.drop i).takeWhile BE).length,3,(s.drop i).takeWhile BE,zeroVl,i,y.e,y.wh⟩
 else if 32<((s.drop i).takeWhile BE).length then (⟨i+((s.drop i).takeWhile BE).length,0,[],zeroVl,i,y.e,y.wh⟩:Rx).fail 4 i
 else ⟨i+((s.drop i).takeWhile BE).length,2,(s.drop i).takeWhile BE,zeroVl,i,y.e,y.wh⟩:=by
 obtain ⟨h1,h2⟩:=WE hr hi;obtain ⟨h3,h4,h5⟩:=l7 h;rw [h1,SR,if_neg h4,h5,AM hd,if_pos hw,h2]
theorem xH (hd:BL (s[i]?.getD 0)=false) (hw:D8 (s[i]?.getD 0)=false) (hq:((s[i]?.getD 0).toNat:Int)=(39:Int)):AQ s y=RH s i ⟨i,0,[],zeroVl,i,y.e,y.wh⟩:=by
 obtain ⟨h1,h2⟩:=WE hr hi;obtain ⟨h3,h4,h5⟩:=l7 h;rw [h1,SR,if_neg h4,h5,AM hd,AM hw,if_pos hq,h2];have ht:(s.drop i).tail=s.drop (i+1):=by rw [AG (DN h3)];rfl
 rw [ht];unfold RH
 cases hz:qt [] (s.drop (i+1)) with
 | none=>rfl
 | some v=>
  obtain ⟨v,k⟩:=v;have hk:=a2p _ _ hz;rw [Bz] at hk ⊢
  simp only
  rw [show i+(s.length-i-k)=s.length-k by omega]
theorem l6 (hd:BL (s[i]?.getD 0)=false) (hw:D8 (s[i]?.getD 0)=false) (hq:¬((s[i]?.getD 0).toNat:Int)=(39:Int)):AQ s y=match IS (s.drop i) rsigns with
 | some k=>⟨i+k.length,3,k,zeroVl,i,y.e,y.wh⟩
 | none=>(⟨i,0,[],zeroVl,i,y.e,y.wh⟩:Rx).fail 4 i:=by
 obtain ⟨h1,h2⟩:=WE hr hi;obtain ⟨h3,h4,h5⟩:=l7 h;rw [h1,SR,if_neg h4,h5,AM hd,AM hw,if_neg hq,h2]
 cases IS (s.drop i) rsigns<;>rfl
end
theorem a1c {a b:UInt8} {n:Nat} (hd:a=b) (h:((decide ((a.toNat:Int)=48))&&(decide (1<(n:Int))))=false):¬((b.toNat:Int)=48∧1<n):=by
 subst hd;rcases KQ h with h|h
 ·exact λz=>odf h z.1
 exact λz=>odf h A0
theorem xJ {t:Kz} (h:19<t.length):9223372036854775807<rnumV t:=by unfold rnumV;rw [if_pos h];decide
theorem iH {t:Kz} {q v:Nat} (hv:v=NS 0 (t.take q)) (hq:t.length≤q) (h:q≤19):rnumV t=v:=by
 unfold rnumV;rw [if_neg A0,hv,Gp hq];rfl
theorem rJ {t:Kz} {q v:Nat} (hv:v=NS 0 (t.take q)) (hq:t.length≤q) (h:q≤19) (hb:(decide (9223372036854775807<(v:Int)))=true):9223372036854775807<rnumV t:=by
 rw [iH hv hq h];have:=odt hb;omega
theorem xI {t:Kz} {q v:Nat} (hv:v=NS 0 (t.take q)) (hq:t.length≤q) (h:q≤19) (hb:(decide (9223372036854775807<(v:Int)))=false):¬9223372036854775807<rnumV t:=by
 rw [iH hv hq h];have:=odf hb;omega
theorem a2i {t:Kz} (h:((decide (t=[116,114,117,101])) || (decide (t=[102,97,108,115,101])))=true):t=[116,114,117,101]∨t=[102,97,108,115,101]:=(PM h).imp odt odt
theorem iG {t:Kz} (h:((decide (t=[116,114,117,101])) || (decide (t=[102,97,108,115,101])))=false):¬(t=[116,114,117,101]∨t=[102,97,108,115,101]):=λz=>z.elim (odf (G8 h).1) (odf (G8 h).2)
theorem FF (a0:Int) (a1:Kz) (a3:Int):prog.built 256 [(0,AA a0),(1,str a1),(3,AA a3)]=some #[AA a0,str a1,.int .u8 0,AA 0,.bool false,str [],AA a3]:=by kernel_rfl
theorem ML (a3:Int):prog.built 256 [(3,AA a3)]=some #[AA 0,str [],.int .u8 0,AA 0,.bool false,str [],AA a3]:=by kernel_rfl
def WZ (s:Kz) (j:Nat):Bool:=(if (decide (((j:Nat):Int)<((s.length:Nat):Int)))=true then (if (D8 (s[j]?.getD 0))=true then true else (if (BL (s[j]?.getD 0))=true then true else (if (decide (((s[j]?.getD 0).toNat:Int)=(45:Int)))=true then true else (if (decide (((s[j]?.getD 0).toNat:Int)=(95:Int)))=true then true else (decide (((s[j]?.getD 0).toNat:Int)=(46:Int))))))) else false)
def jA (s:Kz) (j:Nat):Bool:=(if (decide (((j:Nat):Int)<((s.length:Nat):Int)))=true then (BL (s[j]?.getD 0)) else false)
theorem a1H {s:Kz} {j:Nat} (h:jA s j=true):j<s.length∧BL (s[j]?.getD 0)=true:=by
 unfold jA at h
 exact ⟨by have:=odt (bH h).1;omega,(bH h).2⟩
theorem a1I {s:Kz} {j:Nat} (h:jA s j=false):¬j<s.length∨BL (s[j]?.getD 0)=false:=by
 unfold jA at h
 exact (tL h).imp (λz=>by have:=odf z;omega) id
theorem a1F {s:Kz} {j:Nat} (h:WZ s j=true):j<s.length∧BE (s[j]?.getD 0)=true:=by
 unfold WZ at h
 rw [lK] at h
 exact ⟨by have:=odt (bH h).1;omega,(bH h).2⟩
theorem a1G {s:Kz} {j:Nat} (h:WZ s j=false):¬j<s.length∨BE (s[j]?.getD 0)=false:=by
 unfold WZ at h
 rw [lK] at h
 exact (tL h).imp (λz=>by have:=odf z;omega) id
theorem OY (s:Kz) (y:Rx) (gx:Nat)  (w:Kw) (hb:Blk w gx 258 (Rx.cells s y)) (hA:y.at_≤s.length) (hl:s.length≤256) :
 Calls prog 199 #[pg gx] w λe w'=>e=.returned (.tuple #[])∧Blk w' gx 258 (Rx.cells s (AQ s y))∧Fr (λk=>k=gx) w w':=by
 have hrl:rsigns.length=13:=X;refine sx_enter (vs:=[_]) func199 X ntmps199 X ?_;have M:Mem w (λk=>k=gx) [As.blk gx 258 (Rx.cells s y)] w:=Mem.one hb;refine W ?_;refine flp [0] (λze e wr mz=>∃(i:Nat),e=ze∧Mem w (λk=>k=gx) [As.blk gx 258 [str s,AA (i:Int),AA (y.kd:Int),str y.say,.int .u8 (y.vl.kind.toNat:Int),AA y.vl.int,.bool y.vl.bool,str y.vl.text,AA (y.tat:Int),AA y.e,AA (y.wh:Int)]] wr∧(y.at_≤i∧i≤s.length)∧(GP (s.drop y.at_)=GP (s.drop i))∧mz=s.length-i) ⟨y.at_,X,M,⟨Ab _,hA⟩,X,X⟩ ?_;rintro _ w1 _ ⟨i,rfl,M,hi,hd,rfl⟩;refine W ?_;refine CS CA gkr ?_;have M:=M.drew;refine W ?_;refine sa X (BT X X Aa) (W ?_);refine fvs 11 [0] [(32,.bool ((decide ((i:Int)<(s.length:Int)))&&(decide (((s[i]?.getD 0).toNat:Int)=32))))] ?_ (λk21=>?_)
 ·refine W ?_;refine AB (b:=((decide ((i:Int)<(s.length:Int)))&&(decide (((s[i]?.getD 0).toNat:Int)=32)))) X (λh32=>?_) (λh32=>?_)
  ·have h32p:=bd h32;refine W ?_;refine gp1 M 0 X X X FU λw2 M=>W ?_
   refine fag ⟨i+1,X,M,?_,?_,X⟩
   ·omega
   exact hd.trans (wU A0 h32p.2)
  have h32p:=bd h32;refine W ?_;have hr:GP (s.drop y.at_)=s.drop i:=hd.trans (wT h32);refine W ?_;refine ya X (B7 (parts:=[(3,_)]) X X (ML _)) (W ?_);refine J9 (cs':=[str s,AA (i:Int),AA 0,str [],.int .u8 0,AA 0,.bool false,str [],AA (i:Int),AA y.e,AA (y.wh:Int)]) M 0 kw X X X X X CK X (CL X) (BW X) X λw3 M=>W ?_
  refine fvm M 8 [2,0] [(62,.bool ((!decide (y.e=(0:Int))) || (decide ((s.length:Int)≤(i:Int)))))] ?_ (λk54=>?_)
  ·intro w4 M;refine W ?_;refine AB (b:=((!decide (y.e=(0:Int))) || (decide ((s.length:Int)≤(i:Int))))) X (λh62=>?_) (λh62=>?_)
   ·have h62p:=bd h62;refine W ?_;exact qx_ret0 (Or.inl X) X ⟨X,by rw [a1b hr A0 h62];exact M.blk 0 rfl,M.fr⟩
   have h62p:=bd h62;refine W ?_;refine ya X (B8 X X X Aa (DN (l:=s) (i:=i) A0)) (W ?_);refine CW M 126 X X call219 (SU _ _) λw5 M=>W ?_
   refine AB (b:=(BL (s[i]?.getD 0))) X (λh124=>?_) (λh124=>?_)
   ·refine W ?_;refine flp [2,0] (λze e wr mz=>∃(j:Nat),e=ze∧Mem w (λk=>k=gx) [As.blk gx 258 [str s,AA (j:Int),AA 0,str [],.int .u8 0,AA 0,.bool false,str [],AA (i:Int),AA y.e,AA (y.wh:Int)]] wr∧(i≤j∧j≤s.length)∧(Tw BL s i j)∧mz=s.length-j) ⟨i,X,M,⟨Ab _,by omega⟩,Tw.init _ A0,X⟩ ?_;rintro _ w6 _ ⟨j,rfl,M,hj,hT,rfl⟩;refine W ?_;refine JC ([(0,pg gx),(2,AA (i:Int)),(148,.bool (jA s j))]) (λw'=>Mem w (λk=>k=gx) [As.blk gx 258 [str s,AA (j:Int),AA 0,str [],.int .u8 0,AA 0,.bool false,str [],AA (i:Int),AA y.e,AA (y.wh:Int)]] w') ?_ (λkj16=>?_)
    ·intro w7 M;refine qx_seq (AB (b:=(jA s j)) X (λh148=>?_) (λh148=>?_))
     ·have hjn:=a1H h148;refine W ?_;refine gp1 M 0 X X X FU λw8 M=>W ?_
      refine fag ⟨j+1,X,M,?_,?_,X⟩
      ·omega
      exact hT.step hjn.1 hjn.2
     refine W ?_;obtain ⟨t,ht,htw⟩:∃t,(s.drop i).take (j-i)=t∧(s.drop i).takeWhile BL=t:=⟨_,X,hT.stop (a1I h148)⟩
     have htl:t.length=j-i:=by rw [←ht];simp only [Bl,Bz];omega
     have htj:i+t.length=j:=by omega
     obtain ⟨hd0,htp⟩:=Tw.head htw A0 h124;have hal:t.all BL=true:=htw▸PG BL _;refine W ?_;refine CS CA gkr ?_;have M:=M.drew;refine W ?_;refine sa X (jZ X X X X Aa A0 A0 ht) (W ?_);refine ya X (B8 X X X Aa (DN (l:=t) (i:=0) A0)) (W ?_);refine fvm M 4 [4,2,0] [(173,.bool ((decide (((t[0]?.getD 0).toNat:Int)=48))&&(decide (1<(t.length:Int)))))] ?_ (λk169=>?_)
     ·intro w9 M;refine W ?_;refine AB (b:=((decide (((t[0]?.getD 0).toNat:Int)=48))&&(decide (1<(t.length:Int))))) X (λh173=>?_) (λh173=>?_)
      ·have h173p:=bd h173;refine W ?_;refine GL M 0 176 X X (AD X X call201) (GX s (⟨j,0,[],zeroVl,i,y.e,y.wh⟩:Rx) _ _ _ _ (M.blk 0 X)) λw10 M=>W ?_
       exact qx_ret0 (Or.inl X) X ⟨X,by rw [aR hr A0 h62 h124,htw,if_pos ⟨hd0▸h173p.1,by omega⟩,htj];exact M.blk 0 rfl,M.fr⟩
      have h173p:=bd h173;refine W ?_;refine flp [4,2,0] (λze e wr mz=>∃(q:Nat) (v:Nat),e=(5,.int .u64 ((v:Nat):Int))::(6,AA (q:Int))::ze∧Mem w (λk=>k=gx) [As.blk gx 258 [str s,AA (j:Int),AA 0,str [],.int .u8 0,AA 0,.bool false,str [],AA (i:Int),AA y.e,AA (y.wh:Int)]] wr∧(q≤t.length∧q≤19)∧(v=NS 0 (t.take q))∧(v+1≤10 ^ q)∧mz=t.length-q) ⟨0,0,X,M,⟨Ae _,Ae _⟩,X,Ab _,X⟩ ?_;rintro _ w11 _ ⟨q,v,rfl,M,hq,hv,hvb,rfl⟩;refine W ?_;refine ya X (BT X X Aa) (W ?_);refine AB (b:=(decide ((q:Int)<(t.length:Int)))) X (λh180=>?_) (λh180=>?_)
      ·have h180p:=odt h180;refine W ?_;refine AB (b:=(decide ((q:Int)=19))) X (λh184=>?_) (λh184=>?_)
       ·have h184p:=odt h184;refine W ?_;refine IB X (W ?_);refine GL M 0 197 X X (AD X X call201) (GX s (⟨j,0,[],zeroVl,i,y.e,y.wh⟩:Rx) _ _ _ _ (M.blk 0 X)) λw12 M=>W ?_
        exact qx_ret0 (Or.inl X) X ⟨X,by rw [aR hr A0 h62 h124,htw,if_neg (a1c hd0 h173),if_pos (xJ A0),htj];exact M.blk 0 rfl,M.fr⟩
       have h184p:=odf h184;have hp18:10 ^ q≤10 ^ 18:=Nat.pow_le_pow_right AV (show q≤18 by omega);have hdg:=a1W hal (i:=q) A0;refine W ?_;refine ya X (a0z (r:=((v*10:Nat):Int)) X X X (by rw [IntKind.wrap_u64];omega)) (W ?_);refine ya X (B8 X X X Aa (DN (l:=t) (i:=q) A0)) (ya X (a0w (r:=(((t[q]?.getD 0).toNat-48:Nat):Int)) X X X (by rw [pK A0];omega)) (ya X (CE (r:=(((t[q]?.getD 0).toNat-48:Nat):Int)) X X Bi Hi (by rw [IntKind.wrap_u64];omega)) (ya X (a0D (r:=((v*10+((t[q]?.getD 0).toNat-48):Nat):Int)) X X X (by rw [IntKind.wrap_u64];omega)) (W ?_))));refine fag ⟨q+1,v*10+((t[q]?.getD 0).toNat-48),X,M,?_,?_,?_,X⟩
       ·omega
       ·rw [oS A0,←hv]
       rw [Nat.pow_succ];omega
      have h180p:=odf h180;refine W ?_;refine AB (b:=(decide (9223372036854775807<((v:Nat):Int)))) X (λh194=>?_) (λh194=>?_)
      ·have h194p:=odt h194;refine W ?_;refine GL M 0 197 X X (AD X X call201) (GX s (⟨j,0,[],zeroVl,i,y.e,y.wh⟩:Rx) _ _ _ _ (M.blk 0 X)) λw13 M=>W ?_
       exact qx_ret0 (Or.inl X) X ⟨X,by rw [aR hr A0 h62 h124,htw,if_neg (a1c hd0 h173),if_pos (rJ hv A0 A0 h194),htj];exact M.blk 0 rfl,M.fr⟩
      have h194p:=odf h194;refine W ?_;refine ya X (CE (r:=((v:Nat):Int)) X X Hi Ha (IntWalk.i64_in _ ⟨by omega,by omega⟩)) (ya X (B7 (parts:=[(0,_),(1,_)]) X X (K0 _ _)) (yb X (ya X (B7 (parts:=[(0,_),(2,_),(3,_)]) X X (FE _ _ _ _ _ _)) (W ?_))));refine J9 (cs':=[str s,AA (j:Int),AA 1,str [],.int .u8 1,AA ((v:Nat):Int),.bool false,str [],AA (i:Int),AA y.e,AA (y.wh:Int)]) M 0 kw X X X X X CK X (CL X) (BW X) X λw14 M=>W ?_
      exact qx_ret0 (Or.inr X) X ⟨X,by rw [aR hr A0 h62 h124,htw,if_neg (a1c hd0 h173),if_neg (xI hv A0 A0 h194),htj,iH hv A0 A0];exact M.blk 0 rfl,M.fr⟩
     refine A1 (d:=169) (b:=(decide (((t[0]?.getD 0).toNat:Int)=48))) X (λh169=>?_) (λh169=>?_)
     ·refine gyq X (yd X (BT X X Aa) (T2 ?_));exact k169 M
     refine T4 ?_;exact k169 M
    refine EB 20 CA gkr ?_;have M:=M.drew;refine W ?_;refine sa X (BT X X Aa) (W ?_);refine C1 (d:=137) (b:=(decide ((j:Int)<(s.length:Int)))) X (λh137=>?_) (λh137=>?_)
    ·have h137p:=odt h137;refine W ?_;refine gsg X (B8 X X X Aa (DN (l:=s) (i:=j) A0)) (D6 (sxl_call (some 147) kw X X (AD X X call219) (SU _ _) ?_));rintro _ w15 ⟨rfl,hfw15⟩;refine cq ?_;have M:=M.step hfw15;refine T2 ?_;exact kj16 _ _ M ⟨X,X,(by rw [jA,if_pos h137];rfl),trivial⟩
    refine T13 ?_;exact kj16 _ _ M ⟨X,X,(by rw [jA,AM h137];rfl),trivial⟩
   refine W ?_;refine CW M 208 X X call220 (WL _ _) λw16 M=>W ?_
   refine AB (b:=(D8 (s[i]?.getD 0))) X (λh206=>?_) (λh206=>?_)
   ·refine W ?_;refine flp [2,0] (λze e wr mz=>∃(j:Nat),e=ze∧Mem w (λk=>k=gx) [As.blk gx 258 [str s,AA (j:Int),AA 0,str [],.int .u8 0,AA 0,.bool false,str [],AA (i:Int),AA y.e,AA (y.wh:Int)]] wr∧(i≤j∧j≤s.length)∧(Tw BE s i j)∧mz=s.length-j) ⟨i,X,M,⟨Ab _,by omega⟩,Tw.init _ A0,X⟩ ?_;rintro _ w17 _ ⟨j,rfl,M,hj,hT,rfl⟩;refine W ?_;refine JC ([(0,pg gx),(2,AA (i:Int)),(278,.bool (WZ s j))]) (λw'=>Mem w (λk=>k=gx) [As.blk gx 258 [str s,AA (j:Int),AA 0,str [],.int .u8 0,AA 0,.bool false,str [],AA (i:Int),AA y.e,AA (y.wh:Int)]] w') ?_ (λkr32=>?_)
    ·intro  w18 M;refine qx_seq (AB (b:=(WZ s j)) X (λh278=>?_) (λh278=>?_))
     ·have hjn:=a1F h278;refine W ?_;refine gp1 M 0 X X X FU λw19 M=>W ?_
      refine fag ⟨j+1,X,M,?_,?_,X⟩
      ·omega
      exact hT.step hjn.1 hjn.2
     refine W ?_;obtain ⟨t,ht,htw⟩:∃t,(s.drop i).take (j-i)=t∧(s.drop i).takeWhile BE=t:=⟨_,X,hT.stop (a1G h278)⟩
     have htl:t.length=j-i:=by rw [←ht];simp only [Bl,Bz];omega
     have htj:i+t.length=j:=by omega
     refine W ?_;refine CS CA gkr ?_;have M:=M.drew;refine W ?_;refine sa X (jZ X X X X Aa A0 A0 ht) (W ?_);refine fvm M 3 [7,2,0] [(308,.bool ((decide (t=[116,114,117,101])) || (decide (t=[102,97,108,115,101]))))] ?_ (λk305=>?_)
     ·intro w20 M;refine W ?_;refine AB (b:=((decide (t=[116,114,117,101])) || (decide (t=[102,97,108,115,101])))) X (λh302=>?_) (λh302=>?_)
      ·have h302p:=bd h302;refine W ?_;refine ya X (B7 (parts:=[(0,_),(2,_)]) X X (N1 _ _)) (yb X (ya X (B7 (parts:=[(0,_),(2,_),(3,_)]) X X (FE _ _ _ _ _ _)) (W ?_)));refine J9 (cs':=[str s,AA (j:Int),AA 1,str [],.int .u8 2,AA 0,.bool (decide (t=[116,114,117,101])),str [],AA (i:Int),AA y.e,AA (y.wh:Int)]) M 0 kw X X X X X CK X (CL X) (BW X) X λw21 M=>W ?_
       exact qx_ret0 (Or.inr X) X ⟨X,by rw [V4 hr A0 h62 h124 h206,htw,if_pos (a2i h302),htj];exact M.blk 0 rfl,M.fr⟩
      have h302p:=bd h302;refine W ?_;refine CW M 319 X X call221 (dN _ _) λw22 M=>W ?_
      refine AB (b:=(IE t)) X (λh317=>?_) (λh317=>?_)
      ·refine W ?_;refine ya X (B7 (parts:=[(0,_),(1,_),(3,_)]) X X (FF _ _ _)) (W ?_);refine J9 (cs':=[str s,AA (j:Int),AA 3,str t,.int .u8 0,AA 0,.bool false,str [],AA (i:Int),AA y.e,AA (y.wh:Int)]) M 0 kw X X X X X CK X (CL X) (BW X) X λw23 M=>W ?_
       exact qx_ret0 (Or.inr X) X ⟨X,by rw [V4 hr A0 h62 h124 h206,htw,if_neg (iG h302),if_pos h317,htj];exact M.blk 0 rfl,M.fr⟩
      refine W ?_;refine ya X (BT X X Aa) (W ?_);refine AB (b:=(decide (32<(t.length:Int)))) X (λh326=>?_) (λh326=>?_)
      ·have h326p:=odt h326;refine W ?_;refine GL M 0 332 X X (AD X X call201) (GX s (⟨j,0,[],zeroVl,i,y.e,y.wh⟩:Rx) _ _ _ _ (M.blk 0 X)) λw24 M=>W ?_
       exact qx_ret0 (Or.inr X) X ⟨X,by rw [V4 hr A0 h62 h124 h206,htw,if_neg (iG h302),AM h317,if_pos A0,htj];exact M.blk 0 rfl,M.fr⟩
      have h326p:=odf h326;refine W ?_;refine ya X (B7 (parts:=[(0,_),(1,_),(3,_)]) X X (FF _ _ _)) (W ?_);refine J9 (cs':=[str s,AA (j:Int),AA 2,str t,.int .u8 0,AA 0,.bool false,str [],AA (i:Int),AA y.e,AA (y.wh:Int)]) M 0 kw X X X X X CK X (CL X) (BW X) X λw25 M=>W ?_
      exact qx_ret0 (Or.inr X) X ⟨X,by rw [V4 hr A0 h62 h124 h206,htw,if_neg (iG h302),AM h317,if_neg A0,htj];exact M.blk 0 rfl,M.fr⟩
     refine A1 (d:=305) (b:=(decide (t=[116,114,117,101]))) X (λh305=>?_) (λh305=>?_)
     ·refine T3 ?_;exact k305 M
     refine T3 ?_;exact k305 M
    refine J2 M 70 CA λM=>oc 0 70 X X M (oc 1 70 X X M (oc 2 70 X X M (ol 3 70 X X X M (λ_ M=>(M.cell 0 X X)) (oc 4 70 X X M (oc 5 70 X X M (oc 6 70 X X M (ol 7 70 X X X M (λ_ M=>(M.cell 0 X X)) (oa 8 70 X X M (λ_ M=>BT X X Aa) (oa 9 70 X X M (λ_ M=>HF X X X) (oc 10 70 X X M (C8 (d:=219) (b:=(decide ((j:Int)<(s.length:Int)))) X (λh219=>?_) (λh219=>?_))))))))))))
    ·have h219p:=odt h219;refine ob 11 70 X kw X X M (λ_ M=>yp X) (ob 12 70 X kw X X M (λ_ M=>yp X) (ob 13 70 X kw X X M (λ_ M=>yp X) (ob 14 70 X kw X X M (λ_ M=>B2 X X (sc X) (M.cell 0 X X)) (ob 15 70 X kw X X M (λ_ M=>yp X) (ob 16 70 X kw X X M (λ_ M=>yp X) (ob 17 70 X kw X X M (λ_ M=>yp X) (ob 18 70 X kw X X M (λ_ M=>B2 X X (sc X) (M.cell 0 X X)) (ob 19 70 X kw X X M (λ_ M=>B8 X X X Aa (DN (l:=s) (i:=j) A0)) (BC 20 (some 229) gkr X kw X X (AD X X call220) (WL _ _) ?_)))))))));rintro _ w26 ⟨rfl,hfw26⟩;refine ⟨_,X,λ_=>M.step hfw26,?_⟩;have M:=M.step hfw26;refine ob 21 70 X kw X X M (λ_ M=>yp X) (C8 (d:=230) (b:=(D8 (s[j]?.getD 0))) X (λh230=>?_) (λh230=>?_))
     ·refine AO 22 70 X M (AO 23 70 X M (AO 24 70 X M (AO 25 70 X M (AO 26 70 X M (AO 27 70 X M (AO 28 70 X M (AO 29 70 X M (AO 30 70 X M (AO 31 70 X M (ob 32 70 X kw X X M (λ_ M=>yp X) (ob 33 70 X kw X X M (λ_ M=>yp X) (AO 34 70 X M (AO 35 70 X M (AO 36 70 X M (AO 37 70 X M ?_)))))))))))))));refine AO 38 70 X M (AO 39 70 X M (AO 40 70 X M (AO 41 70 X M (AO 42 70 X M (AO 43 70 X M (ob 44 70 X kw X X M (λ_ M=>yp X) (ob 45 70 X kw X X M (λ_ M=>yp X) (AO 46 70 X M (AO 47 70 X M (AO 48 70 X M (AO 49 70 X M (AO 50 70 X M (AO 51 70 X M (AO 52 70 X M (AO 53 70 X M ?_)))))))))))))));refine AO 54 70 X M (AO 55 70 X M (ob 56 70 X kw X X M (λ_ M=>yp X) (ob 57 70 X kw X X M (λ_ M=>yp X) (AO 58 70 X M (AO 59 70 X M (AO 60 70 X M (AO 61 70 X M (AO 62 70 X M (AO 63 70 X M (AO 64 70 X M (AO 65 70 X M (AO 66 70 X M (AO 67 70 X M (ob 68 70 X kw X X M (λ_ M=>yp X) (oc 69 70 X X M ?_)))))))))))))));exact fdn (kr32  _ _ M ⟨X,X,(by rw [WZ,if_pos h219,if_pos h230];rfl),trivial⟩)
     refine ob 22 70 X kw X X M (λ_ M=>yp X) (ob 23 70 X kw X X M (λ_ M=>yp X) (ob 24 70 X kw X X M (λ_ M=>yp X) (ob 25 70 X kw X X M (λ_ M=>B2 X X (sc X) (M.cell 0 X X)) (ob 26 70 X kw X X M (λ_ M=>yp X) (ob 27 70 X kw X X M (λ_ M=>yp X) (ob 28 70 X kw X X M (λ_ M=>yp X) (ob 29 70 X kw X X M (λ_ M=>B2 X X (sc X) (M.cell 0 X X)) (ob 30 70 X kw X X M (λ_ M=>B8 X X X Aa (DN (l:=s) (i:=j) A0)) (BC 31 (some 240) gkr X kw X X (AD X X call219) (SU _ _) ?_)))))))));rintro _ w27 ⟨rfl,hfw27⟩;refine ⟨_,X,λ_=>M.step hfw27,?_⟩;have M:=M.step hfw27;refine ob 32 70 X kw X X M (λ_ M=>yp X) (ob 33 70 X kw X X M (λ_ M=>yp X) (C8 (d:=242) (b:=(BL (s[j]?.getD 0))) X (λh242=>?_) (λh242=>?_)))
     ·refine AO 34 70 X M (AO 35 70 X M (AO 36 70 X M (AO 37 70 X M (AO 38 70 X M (AO 39 70 X M (AO 40 70 X M (AO 41 70 X M (AO 42 70 X M (AO 43 70 X M (ob 44 70 X kw X X M (λ_ M=>yp X) (ob 45 70 X kw X X M (λ_ M=>yp X) (AO 46 70 X M (AO 47 70 X M (AO 48 70 X M (AO 49 70 X M ?_)))))))))))))));refine AO 50 70 X M (AO 51 70 X M (AO 52 70 X M (AO 53 70 X M (AO 54 70 X M (AO 55 70 X M (ob 56 70 X kw X X M (λ_ M=>yp X) (ob 57 70 X kw X X M (λ_ M=>yp X) (AO 58 70 X M (AO 59 70 X M (AO 60 70 X M (AO 61 70 X M (AO 62 70 X M (AO 63 70 X M (AO 64 70 X M (AO 65 70 X M ?_)))))))))))))));exact AO 66 70 X M (AO 67 70 X M (ob 68 70 X kw X X M (λ_ M=>yp X) (oc 69 70 X X M (fdn (kr32  _ _ M ⟨X,X,(by rw [WZ,if_pos h219,AM h230,if_pos h242];rfl),trivial⟩)))))
     refine ob 34 70 X kw X X M (λ_ M=>yp X) (ob 35 70 X kw X X M (λ_ M=>yp X) (ob 36 70 X kw X X M (λ_ M=>yp X) (ob 37 70 X kw X X M (λ_ M=>B2 X X (sc X) (M.cell 0 X X)) (ob 38 70 X kw X X M (λ_ M=>yp X) (ob 39 70 X kw X X M (λ_ M=>yp X) (ob 40 70 X kw X X M (λ_ M=>yp X) (ob 41 70 X kw X X M (λ_ M=>B2 X X (sc X) (M.cell 0 X X)) (ob 42 70 X kw X X M (λ_ M=>B8 X X X Aa (DN (l:=s) (i:=j) A0)) (ob 43 70 X kw X X M (λ_ M=>ES X X X) (ob 44 70 X kw X X M (λ_ M=>yp X) (ob 45 70 X kw X X M (λ_ M=>yp X) (C8 (d:=254) (b:=(decide (((s[j]?.getD 0).toNat:Int)=45))) X (λh254=>?_) (λh254=>?_)))))))))))))
     ·refine AO 46 70 X M (AO 47 70 X M (AO 48 70 X M (AO 49 70 X M (AO 50 70 X M (AO 51 70 X M (AO 52 70 X M (AO 53 70 X M (AO 54 70 X M (AO 55 70 X M (ob 56 70 X kw X X M (λ_ M=>yp X) (ob 57 70 X kw X X M (λ_ M=>yp X) (AO 58 70 X M (AO 59 70 X M (AO 60 70 X M (AO 61 70 X M ?_)))))))))))))));exact AO 62 70 X M (AO 63 70 X M (AO 64 70 X M (AO 65 70 X M (AO 66 70 X M (AO 67 70 X M (ob 68 70 X kw X X M (λ_ M=>yp X) (oc 69 70 X X M (fdn (kr32  _ _ M ⟨X,X,(by rw [WZ,if_pos h219,AM h230,AM h242,if_pos h254];rfl),trivial⟩)))))))))
     have h254p:=odf h254;refine ob 46 70 X kw X X M (λ_ M=>yp X) (ob 47 70 X kw X X M (λ_ M=>yp X) (ob 48 70 X kw X X M (λ_ M=>yp X) (ob 49 70 X kw X X M (λ_ M=>B2 X X (sc X) (M.cell 0 X X)) (ob 50 70 X kw X X M (λ_ M=>yp X) (ob 51 70 X kw X X M (λ_ M=>yp X) (ob 52 70 X kw X X M (λ_ M=>yp X) (ob 53 70 X kw X X M (λ_ M=>B2 X X (sc X) (M.cell 0 X X)) (ob 54 70 X kw X X M (λ_ M=>B8 X X X Aa (DN (l:=s) (i:=j) A0)) (ob 55 70 X kw X X M (λ_ M=>ES X X X) (ob 56 70 X kw X X M (λ_ M=>yp X) (ob 57 70 X kw X X M (λ_ M=>yp X) (C8 (d:=266) (b:=(decide (((s[j]?.getD 0).toNat:Int)=95))) X (λh266=>?_) (λh266=>?_)))))))))))))
     ·exact AO 58 70 X M (AO 59 70 X M (AO 60 70 X M (AO 61 70 X M (AO 62 70 X M (AO 63 70 X M (AO 64 70 X M (AO 65 70 X M (AO 66 70 X M (AO 67 70 X M (ob 68 70 X kw X X M (λ_ M=>yp X) (oc 69 70 X X M (fdn (kr32  _ _ M ⟨X,X,(by rw [WZ,if_pos h219,AM h230,AM h242,AM h254,if_pos h266];rfl),trivial⟩)))))))))))))
     have h266p:=odf h266;exact ob 58 70 X kw X X M (λ_ M=>yp X) (ob 59 70 X kw X X M (λ_ M=>yp X) (ob 60 70 X kw X X M (λ_ M=>yp X) (ob 61 70 X kw X X M (λ_ M=>B2 X X (sc X) (M.cell 0 X X)) (ob 62 70 X kw X X M (λ_ M=>yp X) (ob 63 70 X kw X X M (λ_ M=>yp X) (ob 64 70 X kw X X M (λ_ M=>yp X) (ob 65 70 X kw X X M (λ_ M=>B2 X X (sc X) (M.cell 0 X X)) (ob 66 70 X kw X X M (λ_ M=>B8 X X X Aa (DN (l:=s) (i:=j) A0)) (ob 67 70 X kw X X M (λ_ M=>ES X X X) (ob 68 70 X kw X X M (λ_ M=>yp X) (oc 69 70 X X M (fdn (kr32  _ _ M ⟨X,X,(by rw [WZ,if_pos h219,AM h230,AM h242,AM h254,AM h266];rfl),trivial⟩)))))))))))))
    refine AO 11 70 X M (AO 12 70 X M (AO 13 70 X M (AO 14 70 X M (AO 15 70 X M (AO 16 70 X M (AO 17 70 X M (AO 18 70 X M (AO 19 70 X M (AO 20 70 X M (AO 21 70 X M (C7 22 70 X X M (C7 23 70 X X M (C7 24 70 X X M (C7 25 70 X X M (C7 26 70 X X M ?_)))))))))))))));refine C7 27 70 X X M (C7 28 70 X X M (C7 29 70 X X M (C7 30 70 X X M (C7 31 70 X X M (AO 32 70 X M (AO 33 70 X M (C7 34 70 X X M (C7 35 70 X X M (C7 36 70 X X M (C7 37 70 X X M (C7 38 70 X X M (C7 39 70 X X M (C7 40 70 X X M (C7 41 70 X X M (C7 42 70 X X M ?_)))))))))))))));refine C7 43 70 X X M (AO 44 70 X M (AO 45 70 X M (C7 46 70 X X M (C7 47 70 X X M (C7 48 70 X X M (C7 49 70 X X M (C7 50 70 X X M (C7 51 70 X X M (C7 52 70 X X M (C7 53 70 X X M (C7 54 70 X X M (C7 55 70 X X M (AO 56 70 X M (AO 57 70 X M (C7 58 70 X X M ?_)))))))))))))));exact C7 59 70 X X M (C7 60 70 X X M (C7 61 70 X X M (C7 62 70 X X M (C7 63 70 X X M (C7 64 70 X X M (C7 65 70 X X M (C7 66 70 X X M (C7 67 70 X X M (AO 68 70 X M (oc 69 70 X X M (fdn (kr32  _ _ M ⟨X,X,(by rw [WZ,AM h219];rfl),trivial⟩))))))))))))
   refine W ?_;refine AB (b:=(decide (((s[i]?.getD 0).toNat:Int)=39))) X (λh333=>?_) (λh333=>?_)
   ·have h333p:=odt h333;refine W ?_;refine GL M 0 338 X X (AD X X call222) (mW s (⟨i,0,[],zeroVl,i,y.e,y.wh⟩:Rx) _ i _ (M.blk 0 X) A0 hl) λw28 M=>W ?_
    exact qx_ret0 (Or.inr X) X ⟨X,by rw [xH hr A0 h62 h124 h206 h333p];exact M.blk 0 rfl,M.fr⟩
   have h333p:=odf h333;refine W ?_;refine CV M kw X X [str [60,61],str [62,61],str [33,61],str [40],str [41],str [43],str [45],str [42],str [47],str [37],str [61],str [60],str [62]] ([str [60,61],str [62,61],str [33,61],str [40],str [41],str [43],str [45],str [42],str [47],str [37],str [61],str [60],str [62]]) X X X X Az CG X X (by intro v hv;simp only [Ak,Ax,or_false] at hv;rcases hv with rfl|rfl|rfl|rfl|rfl|rfl|rfl|rfl|rfl|rfl|rfl|rfl|rfl<;>rfl) X λg69 w29 hg69 M=>W ?_
   have M:=M.blkOwnS 0 (size:=1) (n:=13) X (M.neBlk 0 1 X X AV) X (by unfold maxLen;omega);refine flp [8,2,0] (λze e wr mz=>∃(k:Nat),e=(9,AA ((k:Nat):Int))::ze∧Mem w (λk=>k=gx) [As.own w.heap.size 9 1 (.slice (some ⟨g69,0,none⟩) 13 13) 13 (AE BG rsigns),As.blk gx 258 [str s,AA (i:Int),AA 0,str [],.int .u8 0,AA 0,.bool false,str [],AA (i:Int),AA y.e,AA (y.wh:Int)]] wr∧(k≤rsigns.length)∧(IS (s.drop i) rsigns=IS (s.drop i) (rsigns.drop k))∧mz=13-k) ⟨0,X,M,Ae _,X,X⟩ ?_;rintro _ w30 _ ⟨k,rfl,M,hk,hs,rfl⟩;refine W ?_;refine AB (b:=(decide (((k:Nat):Int)<13))) X (λh73=>?_) (λh73=>?_)
   ·have h73p:=odt h73;refine W ?_;obtain ⟨z,_,_,hz,hA_z⟩:=ex5 (l:=rsigns) (k:=1) (i:=k) (M.rdOwn 0 X);have oz:=iD _ (Ac hz);refine ya X (AK k hA_z X X X (sl X) A0) (yl X X (BD DI (M.rdOwn 0 X) hA_z hz 0 X) (ya X (BT X X Aa) (W ?_)));refine CS CA gkr ?_;have M:=M.drew;refine T2 ?_;refine sa X (FS X X X A0) (W ?_);refine sa X (BT X X Aa) (W ?_);refine fvs 15 [10,9,8,2,0] [(105,.bool ((decide (((i+z.length:Nat):Int)≤(s.length:Int)))&&(decide (((s.drop i).take z.length)=z))))] ?_ (λk90=>?_)
    ·refine W ?_;refine AB (b:=((decide (((i+z.length:Nat):Int)≤(s.length:Int)))&&(decide (((s.drop i).take z.length)=z)))) X (λh105=>?_) (λh105=>?_)
     ·have h105p:=bd h105;refine W ?_;refine gp1 M 1 X X X FU λw31 M=>W ?_
      refine ya X (AK k hA_z X X X (sl X) A0) (yl X X (BD DI (M.rdOwn 0 X) hA_z hz 0 X) (yb X (ya X (B7 (parts:=[(0,_),(1,_),(3,_)]) X X (FF _ _ _)) (W ?_))));refine J9 (cs':=[str s,AA ((i+z.length:Nat):Int),AA 3,str z,.int .u8 0,AA 0,.bool false,str [],AA (i:Int),AA y.e,AA (y.wh:Int)]) M 1 kw X X X X X CK X (CL X) (BW X) X λw32 M=>W ?_
      exact qx_ret0 (Or.inl X) X ⟨X,by rw [l6 hr A0 h62 h124 h206 h333p,hs,AG hz,xB (a0V h105)];exact M.blk 1 rfl,M.fr⟩
     have h105p:=bd h105;refine W ?_;refine fag ⟨k+1,X,M,?_,?_,X⟩
     ·omega
     rw [hs,AG hz,rA (a0U A0 h105)]
    refine C1 (d:=90) (b:=(decide (((i+z.length:Nat):Int)≤(s.length:Int)))) X (λh90=>?_) (λh90=>?_)
    ·have h90p:=odt h90;refine T7 ?_;refine gsg X (FS X X X A0) (gsg X (kA (a:=i) (n:=z.length) X X X X Aa A0) (W ?_));refine gsg X (AK k hA_z X X X (sl X) A0) (gsg X (B2 X X (sc X) (BD DI (M.rdOwn 0 X) hA_z hz 0 X)) (T2 ?_));exact k90 _ ⟨X,X,X,X,X,(by rw [h90];rfl),trivial⟩
    refine T15 ?_;exact k90 _ ⟨X,X,X,X,X,(by rw [h90];rfl),trivial⟩
   have h73p:=odf h73;refine W ?_;refine GL M 1 123 X X (AD X X call201) (GX s (⟨i,0,[],zeroVl,i,y.e,y.wh⟩:Rx) _ _ _ _ (M.blk 1 X)) λw33 M=>W ?_
   exact qx_ret0 (Or.inr X) X ⟨X,by rw [l6 hr A0 h62 h124 h206 h333p,hs,show k=rsigns.length by omega,Am];exact M.blk 1 rfl,M.fr⟩
  refine A1 (d:=54) (b:=(!decide (y.e=(0:Int)))) X (λh54=>?_) (λh54=>?_)
  ·refine T8 ?_;exact k54 M
  refine W ?_;refine yd X (BT X X Aa) (T2 ?_);exact k54 M
 refine C1 (d:=21) (b:=(decide ((i:Int)<(s.length:Int)))) X (λh21=>?_) (λh21=>?_)
 ·have h21p:=odt h21;refine W ?_;refine gsg X (B8 X X X Aa (DN (l:=s) (i:=i) A0)) (T2 ?_);exact k21 _ ⟨X,(by rw [h21];rfl),trivial⟩
 refine T11 ?_;exact k21 _ ⟨X,(by rw [h21];rfl),trivial⟩
def isN (s:Kz) (y:Rx) (k:Kz):Rx:=if isR y k=true then AQ s y else y
theorem tN {y:Rx} {k:Kz} (h:(((!decide (y.e=(0:Int))) || (!decide ((y.kd:Int)=3))) || (!decide (y.say=k)))=true):isR y k=false:=by
 unfold isR;rcases PM h with h|h
 ·rcases PM h with h|h
  ·rw [CJ h];rfl
  have:¬y.kd=3:=λz=>odf (CJ h) A0
  rw [decide_eq_false this];simp
 rw [CJ h];simp
theorem lQ {y:Rx} {k:Kz} (h:(((!decide (y.e=(0:Int))) || (!decide ((y.kd:Int)=3))) || (!decide (y.say=k)))=false):isR y k=true:=by
 unfold isR;have h1:=BO (G8 (G8 h).1).1;have h2:=odt (BO (G8 (G8 h).1).2);have h3:=BO (G8 h).2;rw [h1,h3,decide_eq_true (show y.kd=3 by omega)];rfl
theorem IJ (s:Kz) (y:Rx) (gx:Nat) (k:Kz) (w:Kw) (hb:Blk w gx 258 (Rx.cells s y)) (hA:y.at_≤s.length) (hl:s.length≤256) :
 Calls prog 224 #[pg gx,str k] w λe w'=>e=.returned (.bool (isR y k))∧Blk w' gx 258 (Rx.cells s (isN s y k))∧Fr (λk=>k=gx) w w':=by
 refine sx_enter (vs:=[_,_]) func224 X ntmps224 X ?_;have M:Mem w (λk=>k=gx) [As.blk gx 258 (Rx.cells s y)] w:=Mem.one hb;refine W ?_;refine fvm M 7 [0,1] [(17,.bool ((!decide (y.e=(0:Int))) || (!decide ((y.kd:Int)=3))))] ?_ (λk10=>?_)
 ·intro w1 M;refine yb X (fvm M 8 [0] [(26,.bool (((!decide (y.e=(0:Int))) || (!decide ((y.kd:Int)=3))) || (!decide (y.say=k))))] ?_ (λk18=>?_))
  ·intro w2 M;refine W ?_;refine AB X (λh26=>?_) (λh26=>?_)
   ·have h26p:=bd h26;refine W ?_;exact gr1 X ⟨by rw [tN h26],by rw [isN,tN h26,if_neg (show ¬false=true by decide)];exact M.blk 0 rfl,M.fr⟩
   refine W ?_;refine GL M 0 28 X X (AD X X call199) (OY s y _ _ (M.blk 0 X) hA hl) λw3 M=>W ?_
   exact gr1 X ⟨by rw [lQ h26],by rw [isN,lQ h26,if_pos rfl];exact M.blk 0 rfl,M.fr⟩
  refine A1 (d:=18) X (λh18=>?_) (λh18=>?_)
  ·refine T8 ?_;exact k18 M
  refine T8 ?_;exact k18 M
 refine A1 (d:=10) X (λh10=>?_) (λh10=>?_)
 ·refine T7 ?_;exact k10 M
 refine T7 ?_;exact k10 M
end
end Go.Proofs.YtppmdnmjepkfaaaGreatDoor
