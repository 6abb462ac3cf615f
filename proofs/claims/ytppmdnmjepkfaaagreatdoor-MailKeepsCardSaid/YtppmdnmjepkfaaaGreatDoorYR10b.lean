/- Lemmas. -/
import Derived.Test.YtppmdnmjepkfaaaGreatDoorYRx
import Derived.Test.YtppmdnmjepkfaaaGreatDoorYEx9
set_option maxHeartbeats 16000000
set_option maxRecDepth 100000
namespace Go.Proofs.YtppmdnmjepkfaaaGreatDoor
open Go.RowKit
open Tryz
open Decidable renaming decide→O
open Option renaming some→G,none→zx
open Bool renaming true→zz,false→zy
open Go.Proofs.Tryz renaming prog→zv
open Go renaming Calls→zt
open True renaming intro→zw
section
section
section
variable {P:Lw} {e:Env} {w:Kw} {o:Oper}
theorem qH {t:Nat} {x i j:Lz} {l:Kz} {k k':IntKind} {a b:Nat} (ho:o.op=.slice t x (G i) (G j) zx) (hx:ev e x=G (str l)) (hi:ev e i=G (.int k (a:Int))) (hj:ev e j=G (.int k' (b:Int))) (ht:P.underlying t=G .string) (hab:a≤b) (hb:b≤l.length):Y P e o w (str ((l.drop a).take (b-a))):=λρ h=>by
 have hs:(ByteArray.mk l.toArray).size=l.length:=by show l.toArray.size=_;simp
 unfold execOp
 simp [ho,h _ _ hx,h _ _ hi,h _ _ hj,str,Instr.sliceAt,Instr.slice,run_underlying ht,Instr.sliceBounds,Instr.sliceBound,asIntOf,hs,hb,hab,Lib.extract_eq]
theorem l6 {t:Nat} {x i j:Lz} {l:Kz} {k k':IntKind} {a n:Nat} (ho:o.op=.slice t x (G i) (G j) zx) (hx:ev e x=G (str l)) (hi:ev e i=G (.int k (a:Int))) (hj:ev e j=G (.int k' ((a+n:Nat):Int))) (ht:P.underlying t=G .string) (hb:a+n≤l.length):Y P e o w (str ((l.drop a).take n)):=by
 have:=qH (P:=P) (w:=w) ho hx hi hj ht (Dg _ _) hb
 rwa [Jb] at this
theorem a1r {k:IntKind} {t t':Nat} {a b r:Int} {x y:Lz} (ho:o.op=.binOp .add t x y t') (hx:ev e x=G (.int k a)) (hy:ev e y=G (.int k b)) (hr:k.wrap (a+b)=r):Y P e o w (.int k r):=λρ h=>by
 subst hr;unfold execOp;simp [ho,h _ _ hx,h _ _ hy,eqGuard_at_int,binOp_add,Op.intArith]
theorem a1j {k:IntKind} {t t':Nat} {a b r:Int} {x y:Lz} (ho:o.op=.binOp .sub t x y t') (hx:ev e x=G (.int k a)) (hy:ev e y=G (.int k b)) (hr:k.wrap (a-b)=r):Y P e o w (.int k r):=λρ h=>by
 subst hr;unfold execOp;simp [ho,h _ _ hx,h _ _ hy,eqGuard_at_int,binOp_sub,Op.intArith]
theorem a1m {k:IntKind} {t t':Nat} {a b r:Int} {x y:Lz} (ho:o.op=.binOp .mul t x y t') (hx:ev e x=G (.int k a)) (hy:ev e y=G (.int k b)) (hr:k.wrap (a*b)=r):Y P e o w (.int k r):=λρ h=>by
 subst hr;unfold execOp;simp [ho,h _ _ hx,h _ _ hy,eqGuard_at_int,binOp_mul,Op.intArith]
end
theorem DT {l:Kz} {i:Nat} (h:i<l.length):l[i]?=G (l[i]?.getD 0):=by rw [Av h];rfl
theorem bS (b:UInt8):((O (97≤(b.toNat:Int))&&O ((b.toNat:Int)≤122)) || (O (65≤(b.toNat:Int))&&O ((b.toNat:Int)≤90)))=DD b:=by
 rw [ZR];unfold CS;have e:∀p q:Prop,∀ [Decidable p] [Decidable q],(p↔q)→O p=O q:=λp q _ _ h=>decide_eq_decide.2 h
 rw [e ((97:Int)≤(b.toNat:Int)) (97≤b.toNat) A0,e ((b.toNat:Int)≤(122:Int)) (b.toNat≤122) A0,e ((65:Int)≤(b.toNat:Int)) (65≤b.toNat) A0,e ((b.toNat:Int)≤(90:Int)) (b.toNat≤90) A0]
def RU (s:Kz) (i:Nat) (y:Rx):Rx:=match qt [] (s.drop (i+1)) with
 | some (b,k)=>if utf b=zz then ⟨s.length-k,1,[],⟨3,0,zy,b⟩,i,y.e,y.wh⟩ else y.fail 4 i
 | none=>y.fail 4 i
theorem QQ {p:Prop} [Decidable p] (h:(!decide p)=zy):p:=odt (BL h)
theorem zQ {s b:Kz} {j:Nat} (hj:j<s.length) (h:(!decide (((s[j]?.getD 0).toNat:Int)=39))=zz):qt b (s.drop j)=qt (b++(s.drop j).take 1) (s.drop (j+1)):=by
 have hc:=DT hj;rw [jI hc (odf (CJ h)),AH hc]
 rfl
theorem zP {s b:Kz} {j:Nat} (hj:j+1<s.length) (h2:((s[j+1]?.getD 0).toNat:Int)=(39:Int)) (h:((s[j]?.getD 0).toNat:Int)=(39:Int)):qt b (s.drop j)=qt (b++[39]) (s.drop (j+2)):=by
 have hc:=DT (l:=s) (i:=j) A0;have hd:=DT hj;rw [jH hc hd h h2]
 have:(s[j+1]?.getD 0)=39:=Ge.1 (by have:(39:UInt8).toNat=39:=rfl;omega)
 rw [this]
theorem iZ {s:Kz} {i:Nat} {y:Rx} {b:Kz} {j:Nat} (hj:¬(j:Int)<(s.length:Int)) (hj2:j≤s.length) (hq:qt [] (s.drop (i+1))=qt b (s.drop j)):RU s i y=y.fail 4 i:=by
 have:j=s.length:=A0
 rw [this,Aq] at hq
 unfold RU;rw [hq]
 cases b<;>rfl
theorem WN {s:Kz} {b:Kz} {j i:Nat} (hj:j<s.length) (h:((s[j]?.getD 0).toNat:Int)=(39:Int)) (h2:((O (((j+1:Nat):Int)<(s.length:Int)))&&(O (((s[j+1]?.getD 0).toNat:Int)=39)))=zy) (hq:qt [] (s.drop (i+1))=qt b (s.drop j)):qt [] (s.drop (i+1))=G (b,s.length-(j+1)):=by
 have hc:=DT hj;rw [hq]
 by_cases he:j+1=s.length
 ·rw [jJ hc h A0]
 have hd:=DT (l:=s) (i:=j+1) A0;have h3:=(JQ h2).resolve_left (by rw [Bg A0];decide);rw [bK hc hd h (odf h3)]
theorem nU {s:Kz} {i k:Nat} {y:Rx} {b:Kz} (hq:qt [] (s.drop (i+1))=G (b,k)) (hu:utf b=zy):RU s i y=y.fail 4 i:=by
 unfold RU;rw [hq];simp [hu]
theorem sQ {s:Kz} {i j:Nat} {y:Rx} {b:Kz} (hj:j<s.length) (hq:qt [] (s.drop (i+1))=G (b,s.length-(j+1))) (hu:utf b=zz):RU s i y=⟨j+1,1,[],⟨3,0,zy,b⟩,i,y.e,y.wh⟩:=by
 unfold RU;rw [hq];simp only [Ac hu];congr 1;omega
theorem FG (a0:Int) (c2_0 c2_1 c2_2 c2_3:Kv) (a3:Int):zv.built 256 [(0,AA a0),(2,.agg #[c2_0,c2_1,c2_2,c2_3]),(3,AA a3)]=G #[AA a0,str [],c2_0,c2_1,c2_2,c2_3,AA a3]:=zr
theorem CN : (zv.info? 256).map (·.size)=G 7:=zr
theorem HE (s:Kz) (y:Rx) (gx:Nat) (er:Int) (p:Nat) (w:Kw) (hb:Blk w gx 258 (Rx.cells s y)) :
 zt zv 201 #[pg gx,AA er,AA (p:Int)] w λe w'=>e=.returned (.tuple #[])∧Blk w' gx 258 (Rx.cells s (y.fail er p))∧Fr (λk=>k=gx) w w':=by
 refine sx_enter (vs:=[_,_,_]) func201 X ntmps201 X ?_;have M:Mem w (λk=>k=gx) [As.blk gx 258 (Rx.cells s y)] w:=Mem.one hb;refine W ?_;refine AC X (λh10=>?_) (λh10=>?_)
 ·have h10p:=odt h10;refine W ?_;refine gp1 M 0 X X X NT λw1 M=>W ?_
  exact gp1 M 0 X X X GF λw2 M=>sxl_nil (qx_ret0 (Or.inr X) X ⟨X,by rw [Rx.fail,Ac h10p];exact M.blk 0 rfl,M.fr⟩)
 have h10p:=odf h10;exact sx_skip (qx_ret0 (Or.inr X) X ⟨X,by rw [Rx.fail,Ae h10p];exact M.blk 0 rfl,M.fr⟩)
theorem TJ (b:UInt8) (w:Kw):zt zv 219 #[.int .u8 (b.toNat:Int)] w (BR w (.bool (BY b))):=by
 refine BO func219 ntmps219 X λM=>W ?_
 refine fvm M 3 [2] [(8,.bool ((O (48≤(b.toNat:Int)))&&(O ((b.toNat:Int)≤57))))] ?_ (λk5=>?_)
 ·intro w1 M;refine W ?_;exact gr1 X ⟨X,M.fr⟩
 refine A1 (d:=5) X (λh5=>?_) (λh5=>?_)
 ·refine T3 ?_;exact k5 M
 refine T3 ?_;exact k5 M
theorem WW (b:UInt8) (w:Kw):zt zv 220 #[.int .u8 (b.toNat:Int)] w (BR w (.bool (DD b))):=by
 refine BO func220 ntmps220 X λM=>W ?_
 refine fvm M 3 [2,0] [(8,.bool ((O (97≤(b.toNat:Int)))&&(O ((b.toNat:Int)≤122))))] ?_ (λk5=>?_)
 ·intro w1 M;refine yb X (fvm M 7 [2] [(16,.bool (((O (97≤(b.toNat:Int)))&&(O ((b.toNat:Int)≤122))) || ((O (65≤(b.toNat:Int)))&&(O ((b.toNat:Int)≤90)))))] ?_ (λk9=>?_))
  ·intro w2 M;refine W ?_;exact gr1 X ⟨by rw [bS],M.fr⟩
  refine A1 (d:=9) X (λh9=>?_) (λh9=>?_)
  ·refine T7 ?_;exact k9 M
  refine W ?_;refine fvm M 3 [9,2] [(15,.bool ((O (65≤(b.toNat:Int)))&&(O ((b.toNat:Int)≤90))))] ?_ (λk12=>?_)
  ·intro w3 M;exact yb X (k9 M)
  refine A1 (d:=12) X (λh12=>?_) (λh12=>?_)
  ·refine T3 ?_;exact k12 M
  refine T3 ?_;exact k12 M
 refine A1 (d:=5) X (λh5=>?_) (λh5=>?_)
 ·refine T3 ?_;exact k5 M
 refine T3 ?_;exact k5 M
theorem eN (v:Kz) (w:Kw):zt zv 221 #[str v] w (BR w (.bool (IL v))):=by
 refine BO func221 ntmps221 X λM=>W ?_
 refine fvm M 3 [2,0] [(8,.bool ((O (v=[97,110,100])) || (O (v=[111,114]))))] ?_ (λk5=>?_)
 ·intro w1 M;refine yb X (fvm M 3 [2,0] [(12,.bool (((O (v=[97,110,100])) || (O (v=[111,114]))) || (O (v=[110,111,116]))))] ?_ (λk9=>?_))
  ·intro w2 M;refine yb X (fvm M 3 [2,0] [(16,.bool ((((O (v=[97,110,100])) || (O (v=[111,114]))) || (O (v=[110,111,116]))) || (O (v=[116,114,117,101]))))] ?_ (λk13=>?_))
   ·intro w3 M;refine yb X (fvm M 3 [2] [(20,.bool (((((O (v=[97,110,100])) || (O (v=[111,114]))) || (O (v=[110,111,116]))) || (O (v=[116,114,117,101]))) || (O (v=[102,97,108,115,101]))))] ?_ (λk17=>?_))
    ·intro w4 M;refine W ?_;exact gr1 X ⟨X,M.fr⟩
    refine A1 (d:=17) X (λh17=>?_) (λh17=>?_)
    ·refine T3 ?_;exact k17 M
    refine T3 ?_;exact k17 M
   refine A1 (d:=13) X (λh13=>?_) (λh13=>?_)
   ·refine T3 ?_;exact k13 M
   refine T3 ?_;exact k13 M
  refine A1 (d:=9) X (λh9=>?_) (λh9=>?_)
  ·refine T3 ?_;exact k9 M
  refine T3 ?_;exact k9 M
 refine A1 (d:=5) X (λh5=>?_) (λh5=>?_)
 ·refine T3 ?_;exact k5 M
 refine T3 ?_;exact k5 M
theorem nT (s:Kz) (y:Rx) (gx:Nat) (i:Nat) (w:Kw) (hb:Blk w gx 258 (Rx.cells s y)) (hi:i<s.length) (hl:s.length≤256) :
 zt zv 222 #[pg gx,AA (i:Int)] w λe w'=>e=.returned (.tuple #[])∧Blk w' gx 258 (Rx.cells s (RU s i y))∧Fr (λk=>k=gx) w w':=by
 refine sx_enter (vs:=[_,_]) func222 X ntmps222 X ?_;have M:Mem w (λk=>k=gx) [As.blk gx 258 (Rx.cells s y)] w:=Mem.one hb;refine W ?_;refine EC M [1,0] (λze zF e wr mz=>∃(j:Nat) (b:Kz),e=(4,str b)::(5,AA (j:Int))::ze∧zF wr∧(i+1≤j∧j≤s.length)∧(b.length≤j)∧(qt [] (s.drop (i+1))=qt b (s.drop j))∧mz=s.length-j) ⟨(i+1),[],X,M,⟨Af _,A0⟩,Aj _,X,X⟩ ?_;rintro _ w1 _ ⟨j,b,rfl,M,hj,hbl,hq,rfl⟩;refine W ?_;refine ya X (BT X X Ad) (W ?_);refine AC X (λh14=>?_) (λh14=>?_)
 ·have h14p:=odt h14;refine W ?_;refine ya X (BA X X X Ad (DT (l:=s) (i:=j) A0)) (W ?_);refine AC X (λh21=>?_) (λh21=>?_)
  ·have h21p:=(odf (CJ h21));refine W ?_;refine ya X (l6 (a:=j) (n:=1) X X X X Ad A0) (ya X (qI X X X D4) (W ?_));refine fag ⟨j+1,(b++((s.drop j).take 1)),X,M,?_,?_,?_,X⟩
   ·omega
   ·rw [Am]
    first
     | (rw [Bs];omega)
     | (show b.length+1≤j+2;omega)
   exact hq.trans (zQ A0 h21)
  have h21p:=(odt (BL h21));refine W ?_;refine ya X (BT X X Ad) (W ?_);refine fvm M 9 [5,4,1,0] [(51,.bool ((O (((j+1:Nat):Int)<(s.length:Int)))&&(O (((s[j+1]?.getD 0).toNat:Int)=39))))] ?_ (λk42=>?_)
  ·intro w2 M;refine W ?_;refine AC X (λh51=>?_) (λh51=>?_)
   ·have h51p:=bd h51;refine W ?_;refine ya X (qI X X X D4) (W ?_);refine fag ⟨j+2,(b++[39]),X,M,?_,?_,?_,X⟩
    ·omega
    ·rw [Am]
     first
      | (rw [Bs];omega)
      | (show b.length+1≤j+2;omega)
    exact hq.trans (zP A0 (h51p.2) (QQ h21))
   have h51p:=bd h51;refine W ?_;refine CQ M 57 X X call63 (QI _ _ A0) λw3 M=>W ?_
   refine AC X (λh58=>?_) (λh58=>?_)
   ·have h58p:=CJ h58;refine W ?_;refine II X (W ?_);exact FQ M 0 73 X X (AE X X call201) (HE s y _ _ _ _ (M.blk 0 X)) λw4 M=>sxl_nil (qx_ret0 (Or.inr X) X ⟨X,by rw [nU (WN A0 (QQ h21) h51 hq) (CJ h58)];exact M.blk 0 rfl,M.fr⟩)
   have h58p:=BL h58;refine W ?_;refine gp1 M 0 X X X GF λw5 M=>W ?_
   refine ya X (B8 (parts:=[(0,_),(3,_)]) X X (I7 _ _)) (yb X (ya X (B8 (parts:=[(0,_),(2,_),(3,_)]) X X (FG _ _ _ _ _ _)) (W ?_)));refine FJ (cs':=[str s,AA ((j+1:Nat):Int),AA 1,str [],.int .u8 3,AA 0,.bool zy,str b,AA (i:Int),AA y.e,AA (y.wh:Int)]) M 0 kw X X X X X CN X (CM X) (BN X) X λw6 M=>W ?_
   exact qx_ret0 (Or.inl X) X ⟨X,by rw [sQ A0 (WN A0 (QQ h21) h51 hq) (BL h58)];exact M.blk 0 rfl,M.fr⟩
  refine A1 (d:=42) X (λh42=>?_) (λh42=>?_)
  ·have h42p:=odt h42;refine W ?_;refine yd X (BA X X X Ad (DT (l:=s) (i:=j+1) A0)) (T2 ?_);exact k42 M
  refine T9 ?_;exact k42 M
 have h14p:=odf h14;refine W ?_;exact FQ M 0 73 X X (AE X X call201) (HE s y _ _ _ _ (M.blk 0 X)) λw7 M=>sxl_nil (qx_ret0 (Or.inr X) X ⟨X,by rw [iZ h14p A0 hq];exact M.blk 0 rfl,M.fr⟩)
end
section
structure RxI (s:Kz) (y:Rx):Prop where
 at_:y.at_≤s.length
 tat:y.tat≤y.at_
 adv:¬y.kd=0→y.tat<y.at_
def rM (s:Kz) (y:Rx):Nat:=if y.e=0 then s.length+1-y.tat else 0
theorem NW (y:Rx) (e:Int) (p:Nat):(y.fail e p).at_=y.at_∧(y.fail e p).tat=y.tat∧(y.fail e p).kd=y.kd:=by unfold Rx.fail;split<;>exact ⟨rfl,rfl,rfl⟩
theorem RxI.fail {s:Kz} {y:Rx} (h:RxI s y) (e:Int) (p:Nat):RxI s (y.fail e p):=by
 obtain ⟨h1,h2,h3⟩:=NW y e p;exact ⟨by rw [h1];exact h.at_,by rw [h1,h2];exact h.tat,by rw [h1,h2,h3];exact h.adv⟩
theorem m4 {s:Kz} {y:Rx} {e:Int} {p:Nat} (h:¬e=0):rM s (y.fail e p)=0:=by unfold rM;rw [Ae (Rx.fail_e h)]
theorem m5 : ∀(b l:Kz) {v:Kz} {k:Nat},qt b l=G (v,k)→k<l.length
 | _,[],_,_,h=>by cases h
 | b,[c],v,k,h=>by
  rw [show qt b [c]=if (c.toNat:Int)=39 then G (b,0) else zx from rfl] at h
  split at h
  ·simp only [Ai,Az] at h;simp only [Al];omega
  cases h
 | b,c::d::r,v,k,h=>by
  rw [qt] at h
  split at h
  ·split at h
   ·have:=m5 _ r h;simp only [Al];omega
   simp only [Ai,Az] at h;simp only [Al];omega
  have:=m5 _ (d::r) h;simp only [Al] at this ⊢;omega
theorem ZA {r k:Kz}:∀{l:List Kz},J3 r l=G k→k.length≤r.length∧k∈l
 | [],h=>by cases h
 | a::l,h=>by
  rw [J3] at h
  split at h
  ·rename_i h1
   simp only [Ai] at h
   subst h
   have:=Bf List.length h1
   rw [Bs] at this
   exact ⟨A0,by simp⟩
  obtain ⟨h2,h3⟩:=ZA h;exact ⟨h2,by simp [h3]⟩
theorem sP {s r:Kz} {y:Rx} (hr:r.length≤s.length):RxI s (TG s r y)∧(TG s r y).tat=s.length-r.length:=by
 have z0:RxI s (⟨s.length-r.length,0,[],zeroVl,s.length-r.length,y.e,y.wh⟩:Rx):=⟨Nat.sub_le _ _,Af _,λh=>absurd X h⟩;have z1:∀k,k≤r.length→RxI s (⟨s.length-r.length+k,0,[],zeroVl,s.length-r.length,y.e,y.wh⟩:Rx):=λk hk=>⟨by show _+k≤_;omega,Dg _ _,λh=>absurd rfl h⟩
 unfold TG
 by_cases h0:¬y.e=0∨r=[]
 ·rw [Ac h0];exact ⟨z0,rfl⟩
 rw [Ae h0];have hne:r≠[]:=λz=>h0 (.inr z)
 have hp:0<r.length:=Fo.2 hne;obtain ⟨b,q,rfl⟩:=Ff hne;rw [show (b::q).headD 0=b from rfl]
 by_cases h1:BY b=zz
 ·rw [Ac h1];have hl:=Z4 BY (b::q);have hl2:0<((b::q).takeWhile BY).length:=by rw [Da,Ac h1];exact Jf _
  split
  ·exact ⟨(z1 _ hl).fail _ _,(NW _ _ _).2.1⟩
  split
  ·exact ⟨(z1 _ hl).fail _ _,(NW _ _ _).2.1⟩
  exact ⟨⟨by simp only;omega,Dg _ _,λ_=>by simp only;omega⟩,X⟩
 rw [Ae h1]
 by_cases h2:DD b=zz
 ·rw [Ac h2];have hi:BS b=zz:=by unfold BS;rw [h2];rfl
  have hl:=Z4 BS (b::q);have hl2:0<((b::q).takeWhile BS).length:=by rw [Da,Ac hi];exact Jf _
  split
  ·exact ⟨⟨by simp only;omega,Dg _ _,λ_=>by simp only;omega⟩,X⟩
  split
  ·exact ⟨⟨by simp only;omega,Dg _ _,λ_=>by simp only;omega⟩,X⟩
  split
  ·exact ⟨(z1 _ hl).fail _ _,(NW _ _ _).2.1⟩
  exact ⟨⟨by simp only;omega,Dg _ _,λ_=>by simp only;omega⟩,X⟩
 rw [Ae h2]
 by_cases h3:(b.toNat:Int)=39
 ·rw [Ac h3]
  cases hq:qt [] (b::q).tail with
  | none=>exact ⟨z0.fail _ _,(NW _ _ _).2.1⟩
  | some v=>
   obtain ⟨v,k⟩:=v;have hk:=m5 _ _ hq;simp only [List.tail_cons] at hk
   simp only
   split
   ·exact ⟨⟨by simp only [Al] at hr ⊢;omega,Dg _ _,λ_=>by simp only [Al];omega⟩,X⟩
   exact ⟨z0.fail _ _,(NW _ _ _).2.1⟩
 rw [Ae h3]
 cases hq:J3 (b::q) rsigns with
 | none=>exact ⟨z0.fail _ _,(NW _ _ _).2.1⟩
 | some k=>
  obtain ⟨hk,hm⟩:=ZA hq
  have h0:0<k.length:=by
   have:∀z∈rsigns,0<z.length:=by decide
   exact this k hm
  exact ⟨⟨by simp only;omega,Dg _ _,λ_=>by simp only;omega⟩,X⟩
theorem C8 {s:Kz} {y:Rx}:RxI s (AS s y):=(sP (I4 _ _)).1
theorem oB {s:Kz} {y:Rx} (h:y.at_≤s.length):y.at_≤(AS s y).tat:=by
 have h1:(AS s y).tat=_:=(sP (I4 s y.at_)).2;have h2:(GX (s.drop y.at_)).length≤s.length-y.at_:=Bh (KD _ _) (by rw [Ch];exact Af _);have h3:=I4 s y.at_;omega
theorem m3 {s:Kz} {y:Rx} (h:RxI s y):rM s (AS s y)≤s.length+1-y.at_:=by
 have:=oB h.at_
 unfold rM
 split<;>omega
theorem GA {s:Kz} {y:Rx} (h:RxI s y) (he:y.e=0) (hk:¬y.kd=0):rM s (AS s y)<rM s y:=by
 have h1:=m3 h;have h2:=h.adv hk;have h3:=h.at_;have h4:rM s y=s.length+1-y.tat:=by unfold rM;rw [Ac he]
 omega
theorem zM {s:Kz} {y:Rx} (h:¬y.e=0):¬(AS s y).e=0:=by
 unfold AS TG;rw [Ac (.inl h)];exact h
theorem tB {s:Kz} {y:Rx} (h:RxI s y):rM s (AS s y)≤rM s y:=by
 by_cases he:y.e=0
 ·have h1:=m3 h;have h2:=h.tat;have h4:rM s y=s.length+1-y.tat:=by unfold rM;rw [Ac he]
  omega
 unfold rM;rw [Ae he,Ae (zM he)];exact Af _
theorem tA (s:Kz) (y:Rx):rM s y≤s.length+1:=by unfold rM;split<;>omega
theorem EY {y:Rx} {k:Kz} (h:isR y k=zz):y.e=0∧¬y.kd=0:=by
 unfold isR at h
 have h1:=odt (DU h).1;have h2:=odt (DU (DU h).2).1;exact ⟨h1,A0⟩
structure RfI (s:Kz) (f:Nat) (fr:Nat→Rx→Xn × Rx):Prop where
 I:∀(line:Nat) (y:Rx),RxI s y→rM s y<f→RxI s (fr line y).2
 m:∀(line:Nat) (y:Rx),RxI s y→rM s y<f→rM s (fr line y).2≤rM s y
def qF (sg:Rx→Option UInt8):Prop:=∀y op,sg y=G op→y.e=0∧¬y.kd=0
theorem a1M : qF sgP:=λy op h=>by
 unfold sgP at h
 split at h
 ·exact EY (by assumption)
 split at h
 ·exact EY (by assumption)
 split at h
 ·exact EY (by assumption)
 cases h
theorem a1L : qF sgS:=λy op h=>by
 unfold sgS at h
 split at h
 ·exact EY (by assumption)
 split at h
 ·exact EY (by assumption)
 cases h
theorem a1Q : qF sgA:=λy op h=>by
 unfold sgA at h
 split at h
 ·exact EY (by assumption)
 cases h
theorem a1N : qF sgO:=λy op h=>by
 unfold sgO at h
 split at h
 ·exact EY (by assumption)
 cases h
theorem a1P : qF sgC:=λy op h=>by
 have:∀(l:List Kz) (i:Nat),WH y i l=G op→y.e=0∧¬y.kd=0:=by
  intro l
  induction l with
  | nil=>intro _ h;cases h
  | cons a l ih=>
   intro i h;rw [WH] at h
   split at h
   ·exact EY (by assumption)
   exact ih _ h
 exact this _ _ h
section
variable {s:Kz} {f:Nat} {fr:Nat→Rx→Xn × Rx}
theorem WV (h:RfI s f fr) {y:Rx} (hy:RxI s y) (hm:rM s y≤f):RxI s (EX s fr y).2∧rM s (EX s fr y).2≤rM s y:=by
 unfold EX
 split
 ·rename_i h1
  have hst:=GA hy (EY h1).1 (EY h1).2;exact ⟨h.I _ _ C8 A0,Bh (h.m _ _ C8 A0) A0⟩
 split
 ·exact ⟨hy,Af _⟩
 split
 ·exact ⟨C8,tB hy⟩
 split
 ·exact ⟨C8,tB hy⟩
 split
 ·rename_i h1
  have hst:=GA hy (EY h1).1 (EY h1).2;have h2:=h.I 1 (AS s y) C8 A0;have h3:=h.m 1 (AS s y) C8 A0
  simp only
  split
  ·exact ⟨C8,Bh (tB h2) A0⟩
  exact ⟨h2.fail _ _,by rw [m4 AV];exact Aj _⟩
 exact ⟨hy.fail _ _,by rw [m4 AV];exact Aj _⟩
theorem S5 (h:RfI s f fr) {line:Nat} {sg:Rx→Option UInt8} (hg:qF sg):∀(k:Nat) (n:Xn) (y:Rx),RxI s y→rM s y≤f→RxI s (HB s fr line sg k n y).2∧rM s (HB s fr line sg k n y).2≤rM s y
 | 0,n,y,hy,_=>⟨hy,Af _⟩
 | k+1,n,y,hy,hm=>by
  rw [HB]
  cases hs:sg y with
  | none=>exact ⟨hy,Af _⟩
  | some op=>
   obtain ⟨h1,h2⟩:=hg y op hs;have hst:=GA hy h1 h2;have h3:=h.I (line+1) (AS s y) C8 A0;have h4:=h.m (line+1) (AS s y) C8 A0;obtain ⟨h5,h6⟩:=S5 h hg k (.bin op n (fr (line+1) (AS s y)).1) _ h3 A0;exact ⟨h5,Bh h6 A0⟩
variable (k:Nat)
theorem bG (h:RfI s f fr) {y:Rx} (hy:RxI s y) (hm:rM s y≤f):RxI s (KN s fr k y).2∧rM s (KN s fr k y).2≤rM s y:=by
 obtain ⟨h1,h2⟩:=WV h hy hm;obtain ⟨h3,h4⟩:=S5 (line:=6) h a1M k (EX s fr y).1 _ h1 A0;exact ⟨h3,Bh h4 h2⟩
theorem jB (h:RfI s f fr) {y:Rx} (hy:RxI s y) (hm:rM s y≤f):RxI s (FP s fr k y).2∧rM s (FP s fr k y).2≤rM s y:=by
 obtain ⟨h1,h2⟩:=bG k h hy hm;obtain ⟨h3,h4⟩:=S5 (line:=5) h a1L k (KN s fr k y).1 _ h1 A0;exact ⟨h3,Bh h4 h2⟩
theorem bI (h:RfI s f fr) {y:Rx} (hy:RxI s y) (hm:rM s y≤f):RxI s (KZ s fr k y).2∧rM s (KZ s fr k y).2≤rM s y:=by
 obtain ⟨h1,h2⟩:=jB k h hy hm;unfold KZ
 cases hs:sgC (FP s fr k y).2 with
 | none=>exact ⟨h1,h2⟩
 | some op=>
  obtain ⟨g1,g2⟩:=a1P _ _ hs;have hst:=GA h1 g1 g2;exact ⟨h.I _ _ C8 A0,Bh (h.m 5 _ C8 A0) A0⟩
theorem jC (h:RfI s f fr) {y:Rx} (hy:RxI s y) (hm:rM s y≤f):RxI s (OJ s fr k y).2∧rM s (OJ s fr k y).2≤rM s y:=by
 unfold OJ
 split
 ·rename_i h1
  have hst:=GA hy (EY h1).1 (EY h1).2;exact ⟨h.I _ _ C8 A0,Bh (h.m 3 _ C8 A0) A0⟩
 exact bI k h hy hm
theorem jG (h:RfI s f fr) {y:Rx} (hy:RxI s y) (hm:rM s y≤f):RxI s (Q3 s fr k y).2∧rM s (Q3 s fr k y).2≤rM s y:=by
 obtain ⟨h1,h2⟩:=jC k h hy hm;obtain ⟨h3,h4⟩:=S5 (line:=2) h a1Q k (OJ s fr k y).1 _ h1 A0;exact ⟨h3,Bh h4 h2⟩
theorem a3a (h:RfI s f fr) {y:Rx} (hy:RxI s y) (hm:rM s y≤f):RxI s (rOr s fr k y).2∧rM s (rOr s fr k y).2≤rM s y:=by
 obtain ⟨h1,h2⟩:=jG k h hy hm;obtain ⟨h3,h4⟩:=S5 (line:=1) h a1N k (Q3 s fr k y).1 _ h1 A0;exact ⟨h3,Bh h4 h2⟩
theorem tD (h:RfI s f fr) (line:Nat) {y:Rx} (hy:RxI s y) (hm:rM s y≤f):RxI s (jD s fr k line y).2∧rM s (jD s fr k line y).2≤rM s y:=by
 unfold jD
 split
 ·exact a3a k h hy hm
 split
 ·exact jG k h hy hm
 split
 ·exact jC k h hy hm
 split
 ·exact bI k h hy hm
 split
 ·exact jB k h hy hm
 split
 ·exact bG k h hy hm
 exact WV h hy hm
theorem LT {line j:Nat} {sg:Rx→Option UInt8} {n:Xn} {y:Rx} {op:UInt8} (h:sg y=G op):HB s fr line sg (j+1) n y=HB s fr line sg j (.bin op n (fr (line+1) (AS s y)).1) (fr (line+1) (AS s y)).2:=by rw [HB,h]
end
theorem WR (s:Kz):∀f:Nat,RfI s f (DW s f)
 | 0=>⟨λ_ _ _ hm=>absurd hm (Dv _),λ_ _ _ hm=>absurd hm (Dv _)⟩
 | f+1=>⟨λl _ hy hm=>(tD f (WR s f) l hy (Eg hm)).1,λl _ hy hm=>(tD f (WR s f) l hy (Eg hm)).2⟩
theorem a3H {y:Rx} (h:isR y [42]=zz):sgP y=G 15:=by unfold sgP;rw [Ac h]
theorem a3G {y:Rx} (h:isR y [42]=zy) (h2:isR y [47]=zz):sgP y=G 16:=by unfold sgP;rw [AN h,Ac h2]
theorem a3F {y:Rx} (h:isR y [42]=zy) (h2:isR y [47]=zy) (h3:isR y [37]=zz):sgP y=G 17:=by unfold sgP;rw [AN h,AN h2,Ac h3]
theorem a3I {y:Rx} (h:isR y [42]=zy) (h2:isR y [47]=zy) (h3:isR y [37]=zy):sgP y=zx:=by unfold sgP;rw [AN h,AN h2,AN h3]
theorem a3D {y:Rx} (h:isR y [43]=zz):sgS y=G 13:=by unfold sgS;rw [Ac h]
theorem a3C {y:Rx} (h:isR y [43]=zy) (h2:isR y [45]=zz):sgS y=G 14:=by unfold sgS;rw [AN h,Ac h2]
theorem a3E {y:Rx} (h:isR y [43]=zy) (h2:isR y [45]=zy):sgS y=zx:=by unfold sgS;rw [AN h,AN h2]
theorem a3L {y:Rx} (h:isR y [97,110,100]=zz):sgA y=G 5:=by unfold sgA;rw [Ac h]
theorem a3M {y:Rx} (h:isR y [97,110,100]=zy):sgA y=zx:=by unfold sgA;rw [AN h]
theorem a3J {y:Rx} (h:isR y [111,114]=zz):sgO y=G 6:=by unfold sgO;rw [Ac h]
theorem a3K {y:Rx} (h:isR y [111,114]=zy):sgO y=zx:=by unfold sgO;rw [AN h]
end
end
section
theorem Mem.blkOwnS {w0 w:Kw} {S:Nat→Prop} {L:List As} (M:Mem w0 S L w) (i:Nat) {g t size n:Nat} {cs:Kx} (hi:L[i]?=G (As.blk g t cs)) (hS:¬S g) (hn:cs.length=n*size) (hm:n≤maxLen):Mem w0 S (L.set i (As.own w0.heap.size t size (.slice (G ⟨g,0,zx⟩) n n) n cs)) w:=by
 have hb:=M.blk i hi;have hg:w0.heap.size≤g:=((M.lt i _ hi g (by simp [As.blk])).2).resolve_right hS;refine M.upd i hi Fr.refl _ ?_ (λg' hg'=>.inl (by simpa [As.own,As.blk,Value.ownBlock,eq_comm] using hg'));exact ⟨hn,.inr ⟨g,n,cs.toArray,X,hg,hb,Af _,hm,by simpa using hn,by simp [←hn]⟩⟩
theorem l5 {P:Lw} {e:Env} {w:Kw} {o:Oper} {t:Nat} {x i j:Lz} {l r:Kz} {k k':IntKind} {a b:Nat} (ho:o.op=.slice t x (G i) (G j) zx) (hx:ev e x=G (str l)) (hi:ev e i=G (.int k (a:Int))) (hj:ev e j=G (.int k' (b:Int))) (ht:P.underlying t=G .string) (hab:a≤b) (hb:b≤l.length) (hr:(l.drop a).take (b-a)=r):Y P e o w (str r):=hr▸qH ho hx hi hj ht hab hb
theorem qO {n:Int} (h:0≤n∧n<256):IntKind.u8.wrap n=n:=by
 simp only [IntKind.wrap,IntKind.bits,IntKind.signed];simp only [Fw,Dm,if_false];omega
theorem yN {s:Kz} {i:Nat} (hi:i<s.length) (h:((s[i]?.getD 0).toNat:Int)=(32:Int)):GX (s.drop i)=GX (s.drop (i+1)):=by
 rw [AH (DT hi)];unfold GX;rw [Hn,Ac]
 have:(s[i]?.getD 0)=32:=Ge.1 (by have:(32:UInt8).toNat=32:=rfl;omega)
 rw [this];rfl
theorem yM {s:Kz} {i:Nat} (h:((O ((i:Int)<(s.length:Int)))&&(O (((s[i]?.getD 0).toNat:Int)=32)))=zy):GX (s.drop i)=s.drop i:=by
 by_cases hi:i<s.length
 ·have h2:=odf ((JQ h).resolve_left (by rw [Bg A0];decide));rw [AH (DT hi)];unfold GX;rw [Hn,Ae];intro z;exact h2 (by rw [eq_of_beq z];rfl)
 rw [Ey A0];rfl
structure Tw (is:UInt8→Bool) (s:Kz) (i j:Nat):Prop where
 le:i≤j∧j≤s.length
 eq:(s.drop i).takeWhile is=(s.drop i).take (j-i)++(s.drop j).takeWhile is
theorem Tw.init {is:UInt8→Bool} {s:Kz} (i:Nat) (h:i≤s.length):Tw is s i i:=⟨⟨Af _,h⟩,by rw [Gi];rfl⟩
theorem Tw.step {is:UInt8→Bool} {s:Kz} {i j:Nat} (h:Tw is s i j) (hj:j<s.length) (hc:is (s[j]?.getD 0)=zz):Tw is s i (j+1):=by
 have hle:=h.le;refine ⟨⟨A0,hj⟩,?_⟩;rw [h.eq,AH (DT hj),Da,Ac hc,show j+1-i=(j-i)+1 by omega,Dl,Ca,show i+(j-i)=j by omega,DT hj]
 simp
theorem Tw.stop {is:UInt8→Bool} {s:Kz} {i j:Nat} (h:Tw is s i j) (hs:¬j<s.length∨is (s[j]?.getD 0)=zy):(s.drop i).takeWhile is=(s.drop i).take (j-i):=by
 have:(s.drop j).takeWhile is=[]:=by
  by_cases hj:j<s.length
  ·rw [AH (DT hj),Da,Ae (by rw [hs.resolve_left (λz=>z hj)];decide)]
  rw [Ey A0];rfl
 rw [h.eq,this,Cd]
theorem Tw.head {is:UInt8→Bool} {s t:Kz} {i:Nat} (ht:(s.drop i).takeWhile is=t) (hi:i<s.length) (hc:is (s[i]?.getD 0)=zz):t[0]?.getD 0=s[i]?.getD 0∧0<t.length:=by
 subst ht;rw [AH (DT hi),Da,Ac hc];exact ⟨X,Jf _⟩
theorem a2I {t:Kz} (h:t.all BY=zz) {i:Nat} (hi:i<t.length):48≤(t[i]?.getD 0).toNat∧(t[i]?.getD 0).toNat≤57:=SJ (Cu.1 h _ (Ah (DT hi)))
theorem pX {t:Kz} {q:Nat} (h:q<t.length):O6 0 (t.take (q+1))=O6 0 (t.take q)*10+((t[q]?.getD 0).toNat-48):=by
 rw [Dl,DT h];unfold O6;rw [Dq];rfl
theorem j0 : ∀z∈rsigns,z.length≤2:=by decide
theorem yU {r z:Kz} {l:List Kz} (h:r.take z.length=z):J3 r (z::l)=G z:=by rw [J3,Ac h]
theorem sL {r z:Kz} {l:List Kz} (h:¬r.take z.length=z):J3 r (z::l)=J3 r l:=by rw [J3,Ae h]
theorem a1K {s z:Kz} {i:Nat} (h:((O (((i+z.length:Nat):Int)≤(s.length:Int)))&&(O ((s.drop i).take z.length=z)))=zz):(s.drop i).take z.length=z:=odt (DU h).2
theorem a1J {s z:Kz} {i:Nat} (hi:i≤s.length) (h:((O (((i+z.length:Nat):Int)≤(s.length:Int)))&&(O ((s.drop i).take z.length=z)))=zy):¬(s.drop i).take z.length=z:=λe=>by
 have hl:=Bf List.length e;rw [Bs,Ch] at hl
 rcases JQ h with h|h
 ·have:=odf h
  omega
 exact odf h e
theorem a3b (b l:Kz) {v:Kz} {k:Nat} (h:qt b l=G (v,k)):k≤l.length:=Gw (m5 b l h)
theorem bV {a b:Bool} (h:(if a=zz then b else zy)=zz):a=zz∧b=zz:=by cases a<;>simp_all
theorem uW {a b:Bool} (h:(if a=zz then b else zy)=zy):a=zy∨b=zy:=by cases a<;>simp_all
theorem mD (b c d e f:Bool):(if b=zz then zz else (if c=zz then zz else (if d=zz then zz else (if e=zz then zz else f))))=((((b || c) || d) || e) || f):=by revert b c d e f;decide
theorem lZ {s:Kz} {i:Nat} {y:Rx} (h:((!decide (y.e=(0:Int))) || (O ((s.length:Int)≤(i:Int))))=zy):i<s.length∧¬(¬y.e=0∨s.drop i=[])∧(s.drop i).headD 0=s[i]?.getD 0:=by
 have h2:=odf (FL h).2;have hlt:i<s.length:=A0
 refine ⟨hlt,λz=>z.elim (λz=>z (odt (BL (FL h).1))) (λz=>?_),?_⟩
 ·have:=Bf List.length z
  rw [Ch] at this
  simp only [Ay] at this
  omega
 rw [AH (DT hlt)];rfl
section
variable {s:Kz} {i:Nat} {y:Rx} (hr:GX (s.drop y.at_)=s.drop i) (hi:i≤s.length)
include hr hi
theorem WQ : AS s y=TG s (s.drop i) y∧s.length-(s.drop i).length=i:=by
 unfold AS;rw [hr,Ch];exact ⟨X,A0⟩
theorem a1W (h:((!decide (y.e=(0:Int))) || (O ((s.length:Int)≤(i:Int))))=zz):AS s y=⟨i,0,[],zeroVl,i,y.e,y.wh⟩:=by
 obtain ⟨h1,h2⟩:=WQ hr hi;rw [h1,TG,Ac,h2];rcases M8 h with h|h
 ·exact .inl (odf (CJ h))
 exact .inr (Ey (by have:=odt h;omega))
variable (h:((!decide (y.e=(0:Int))) || (O (((s.length:Nat):Int)≤((i:Nat):Int))))=zy)
include h
theorem bF (hd:BY (s[i]?.getD 0)=zz):AS s y=if ((s[i]?.getD 0).toNat:Int)=48∧1<((s.drop i).takeWhile BY).length then (⟨i+((s.drop i).takeWhile BY).length,0,[],zeroVl,i,y.e,y.wh⟩:Rx).fail 4 i
 else if 9223372036854775807<rnumV ((s.drop i).takeWhile BY) then (⟨i+((s.drop i).takeWhile BY).length,0,[],zeroVl,i,y.e,y.wh⟩:Rx).fail 91 i
 else ⟨i+((s.drop i).takeWhile BY).length,1,[],⟨1,(rnumV ((s.drop i).takeWhile BY):Int),zy,[]⟩,i,y.e,y.wh⟩:=by
 obtain ⟨h1,h2⟩:=WQ hr hi;obtain ⟨h3,h4,h5⟩:=lZ h;rw [h1,TG,Ae h4,h5,Ac hd,h2]
theorem VL (hd:BY (s[i]?.getD 0)=zy) (hw:DD (s[i]?.getD 0)=zz):AS s y=if (s.drop i).takeWhile BS=[116,114,117,101]∨(s.drop i).takeWhile BS=[102,97,108,115,101] then ⟨i+((s.drop i).takeWhile BS).length,1,[],⟨2,0,O ((s.drop i).takeWhile BS=[116,114,117,101]),[]⟩,i,y.e,y.wh⟩
 else if IL ((s.drop i).takeWhile BS)=zz then ⟨i+((s.drop i).takeWhile BS).length,3,(s.drop i).takeWhile BS,zeroVl,i,y.e,y.wh⟩
 else if 32<((s.drop i).takeWhile BS).length then (⟨i+((s.drop i).takeWhile BS).length,0,[],zeroVl,i,y.e,y.wh⟩:Rx).fail 4 i
 else ⟨i+((s.drop i).takeWhile BS).length,2,(s.drop i).takeWhile BS,zeroVl,i,y.e,y.wh⟩:=by
 obtain ⟨h1,h2⟩:=WQ hr hi;obtain ⟨h3,h4,h5⟩:=lZ h;rw [h1,TG,Ae h4,h5,AN hd,Ac hw,h2]
theorem z6 (hd:BY (s[i]?.getD 0)=zy) (hw:DD (s[i]?.getD 0)=zy) (hq:((s[i]?.getD 0).toNat:Int)=(39:Int)):AS s y=RU s i ⟨i,0,[],zeroVl,i,y.e,y.wh⟩:=by
 obtain ⟨h1,h2⟩:=WQ hr hi;obtain ⟨h3,h4,h5⟩:=lZ h;rw [h1,TG,Ae h4,h5,AN hd,AN hw,Ac hq,h2];have ht:(s.drop i).tail=s.drop (i+1):=by rw [AH (DT h3)];rfl
 rw [ht];unfold RU
 cases hz:qt [] (s.drop (i+1)) with
 | none=>rfl
 | some v=>
  obtain ⟨v,k⟩:=v;have hk:=a3b _ _ hz;rw [Ch] at hk ⊢
  simp only
  rw [show i+(s.length-i-k)=s.length-k by omega]
theorem lY (hd:BY (s[i]?.getD 0)=zy) (hw:DD (s[i]?.getD 0)=zy) (hq:¬((s[i]?.getD 0).toNat:Int)=(39:Int)):AS s y=match J3 (s.drop i) rsigns with
 | some k=>⟨i+k.length,3,k,zeroVl,i,y.e,y.wh⟩
 | none=>(⟨i,0,[],zeroVl,i,y.e,y.wh⟩:Rx).fail 4 i:=by
 obtain ⟨h1,h2⟩:=WQ hr hi;obtain ⟨h3,h4,h5⟩:=lZ h;rw [h1,TG,Ae h4,h5,AN hd,AN hw,Ae hq,h2]
 cases J3 (s.drop i) rsigns<;>rfl
end
theorem a1X {a b:UInt8} {n:Nat} (hd:a=b) (h:((O ((a.toNat:Int)=48))&&(O (1<(n:Int))))=zy):¬((b.toNat:Int)=48∧1<n):=by
 subst hd;rcases JQ h with h|h
 ·exact λz=>odf h z.1
 exact λz=>odf h A0
theorem zB {t:Kz} (h:19<t.length):9223372036854775807<rnumV t:=by unfold rnumV;rw [Ac h];decide
theorem j5 {t:Kz} {q v:Nat} (hv:v=O6 0 (t.take q)) (hq:t.length≤q) (h:q≤19):rnumV t=v:=by
 unfold rnumV;rw [Ae A0,hv,Fu hq];rfl
theorem sS {t:Kz} {q v:Nat} (hv:v=O6 0 (t.take q)) (hq:t.length≤q) (h:q≤19) (hb:(O (9223372036854775807<(v:Int)))=zz):9223372036854775807<rnumV t:=by
 rw [j5 hv hq h];have:=odt hb;omega
theorem zA {t:Kz} {q v:Nat} (hv:v=O6 0 (t.take q)) (hq:t.length≤q) (h:q≤19) (hb:(O (9223372036854775807<(v:Int)))=zy):¬9223372036854775807<rnumV t:=by
 rw [j5 hv hq h];have:=odf hb;omega
theorem a32 {t:Kz} (h:((O (t=[116,114,117,101])) || (O (t=[102,97,108,115,101])))=zz):t=[116,114,117,101]∨t=[102,97,108,115,101]:=(M8 h).imp odt odt
theorem j4 {t:Kz} (h:((O (t=[116,114,117,101])) || (O (t=[102,97,108,115,101])))=zy):¬(t=[116,114,117,101]∨t=[102,97,108,115,101]):=λz=>z.elim (odf (FL h).1) (odf (FL h).2)
theorem FH (a0:Int) (a1:Kz) (a3:Int):zv.built 256 [(0,AA a0),(1,str a1),(3,AA a3)]=G #[AA a0,str a1,.int .u8 0,AA 0,.bool zy,str [],AA a3]:=zr
theorem N2 (a3:Int):zv.built 256 [(3,AA a3)]=G #[AA 0,str [],.int .u8 0,AA 0,.bool zy,str [],AA a3]:=zr
def V9 (s:Kz) (j:Nat):Bool:=(if (O (((j:Nat):Int)<((s.length:Nat):Int)))=zz then (if (DD (s[j]?.getD 0))=zz then zz else (if (BY (s[j]?.getD 0))=zz then zz else (if (O (((s[j]?.getD 0).toNat:Int)=(45:Int)))=zz then zz else (if (O (((s[j]?.getD 0).toNat:Int)=(95:Int)))=zz then zz else (O (((s[j]?.getD 0).toNat:Int)=(46:Int))))))) else zy)
def fQ (s:Kz) (j:Nat):Bool:=(if (O (((j:Nat):Int)<((s.length:Nat):Int)))=zz then (BY (s[j]?.getD 0)) else zy)
theorem a2t {s:Kz} {j:Nat} (h:fQ s j=zz):j<s.length∧BY (s[j]?.getD 0)=zz:=by
 unfold fQ at h
 exact ⟨by have:=odt (bV h).1;omega,(bV h).2⟩
theorem a2u {s:Kz} {j:Nat} (h:fQ s j=zy):¬j<s.length∨BY (s[j]?.getD 0)=zy:=by
 unfold fQ at h
 exact (uW h).imp (λz=>by have:=odf z;omega) id
theorem a2r {s:Kz} {j:Nat} (h:V9 s j=zz):j<s.length∧BS (s[j]?.getD 0)=zz:=by
 unfold V9 at h
 rw [mD] at h
 exact ⟨by have:=odt (bV h).1;omega,(bV h).2⟩
theorem a2s {s:Kz} {j:Nat} (h:V9 s j=zy):¬j<s.length∨BS (s[j]?.getD 0)=zy:=by
 unfold V9 at h
 rw [mD] at h
 exact (uW h).imp (λz=>by have:=odf z;omega) id
theorem PG (s:Kz) (y:Rx) (gx:Nat)  (w:Kw) (hb:Blk w gx 258 (Rx.cells s y)) (hA:y.at_≤s.length) (hl:s.length≤256) :
 zt zv 199 #[pg gx] w λe w'=>e=.returned (.tuple #[])∧Blk w' gx 258 (Rx.cells s (AS s y))∧Fr (λk=>k=gx) w w':=by
 have hrl:rsigns.length=13:=X;refine sx_enter (vs:=[_]) func199 X ntmps199 X ?_;have M:Mem w (λk=>k=gx) [As.blk gx 258 (Rx.cells s y)] w:=Mem.one hb;refine W ?_;refine flp [0] (λze e wr mz=>∃(i:Nat),e=ze∧Mem w (λk=>k=gx) [As.blk gx 258 [str s,AA (i:Int),AA (y.kd:Int),str y.say,.int .u8 (y.vl.kind.toNat:Int),AA y.vl.int,.bool y.vl.bool,str y.vl.text,AA (y.tat:Int),AA y.e,AA (y.wh:Int)]] wr∧(y.at_≤i∧i≤s.length)∧(GX (s.drop y.at_)=GX (s.drop i))∧mz=s.length-i) ⟨y.at_,X,M,⟨Af _,hA⟩,X,X⟩ ?_;rintro _ w1 _ ⟨i,rfl,M,hi,hd,rfl⟩;refine W ?_;refine CY CA zr ?_;have M:=M.drew;refine W ?_;refine sa X (BT X X Ad) (W ?_);refine fvs 11 [0] [(32,.bool ((O ((i:Int)<(s.length:Int)))&&(O (((s[i]?.getD 0).toNat:Int)=32))))] ?_ (λk21=>?_)
 ·refine W ?_;refine AC (b:=((O ((i:Int)<(s.length:Int)))&&(O (((s[i]?.getD 0).toNat:Int)=32)))) X (λh32=>?_) (λh32=>?_)
  ·have h32p:=bd h32;refine W ?_;refine gp1 M 0 X X X GF λw2 M=>W ?_
   refine fag ⟨i+1,X,M,?_,?_,X⟩
   ·omega
   exact hd.trans (yN A0 h32p.2)
  have h32p:=bd h32;refine W ?_;have hr:GX (s.drop y.at_)=s.drop i:=hd.trans (yM h32);refine W ?_;refine ya X (B8 (parts:=[(3,_)]) X X (N2 _)) (W ?_);refine FJ (cs':=[str s,AA (i:Int),AA 0,str [],.int .u8 0,AA 0,.bool zy,str [],AA (i:Int),AA y.e,AA (y.wh:Int)]) M 0 kw X X X X X CN X (CM X) (BN X) X λw3 M=>W ?_
  refine fvm M 8 [2,0] [(62,.bool ((!decide (y.e=(0:Int))) || (O ((s.length:Int)≤(i:Int)))))] ?_ (λk54=>?_)
  ·intro w4 M;refine W ?_;refine AC (b:=((!decide (y.e=(0:Int))) || (O ((s.length:Int)≤(i:Int))))) X (λh62=>?_) (λh62=>?_)
   ·have h62p:=bd h62;refine W ?_;exact qx_ret0 (Or.inl X) X ⟨X,by rw [a1W hr A0 h62];exact M.blk 0 rfl,M.fr⟩
   have h62p:=bd h62;refine W ?_;refine ya X (BA X X X Ad (DT (l:=s) (i:=i) A0)) (W ?_);refine CQ M 126 X X call219 (TJ _ _) λw5 M=>W ?_
   refine AC (b:=(BY (s[i]?.getD 0))) X (λh124=>?_) (λh124=>?_)
   ·refine W ?_;refine flp [2,0] (λze e wr mz=>∃(j:Nat),e=ze∧Mem w (λk=>k=gx) [As.blk gx 258 [str s,AA (j:Int),AA 0,str [],.int .u8 0,AA 0,.bool zy,str [],AA (i:Int),AA y.e,AA (y.wh:Int)]] wr∧(i≤j∧j≤s.length)∧(Tw BY s i j)∧mz=s.length-j) ⟨i,X,M,⟨Af _,A0⟩,Tw.init _ A0,X⟩ ?_;rintro _ w6 _ ⟨j,rfl,M,hj,hT,rfl⟩;refine W ?_;refine JL ([(0,pg gx),(2,AA (i:Int)),(148,.bool (fQ s j))]) (λw'=>Mem w (λk=>k=gx) [As.blk gx 258 [str s,AA (j:Int),AA 0,str [],.int .u8 0,AA 0,.bool zy,str [],AA (i:Int),AA y.e,AA (y.wh:Int)]] w') ?_ (λkj16=>?_)
    ·intro w7 M;refine qx_seq (AC (b:=(fQ s j)) X (λh148=>?_) (λh148=>?_))
     ·have hjn:=a2t h148;refine W ?_;refine gp1 M 0 X X X GF λw8 M=>W ?_
      refine fag ⟨j+1,X,M,?_,?_,X⟩
      ·omega
      exact hT.step hjn.1 hjn.2
     refine W ?_;obtain ⟨t,ht,htw⟩:∃t,(s.drop i).take (j-i)=t∧(s.drop i).takeWhile BY=t:=⟨_,X,hT.stop (a2u h148)⟩
     have htl:t.length=j-i:=by rw [←ht];simp only [Bs,Ch];omega
     have htj:i+t.length=j:=A0
     obtain ⟨hd0,htp⟩:=Tw.head htw A0 h124;have hal:t.all BY=zz:=htw▸PY BY _;refine W ?_;refine CY CA zr ?_;have M:=M.drew;refine W ?_;refine sa X (l5 X X X X Ad A0 A0 ht) (W ?_);refine ya X (BA X X X Ad (DT (l:=t) (i:=0) A0)) (W ?_);refine fvm M 4 [4,2,0] [(173,.bool ((O (((t[0]?.getD 0).toNat:Int)=48))&&(O (1<(t.length:Int)))))] ?_ (λk169=>?_)
     ·intro w9 M;refine W ?_;refine AC (b:=((O (((t[0]?.getD 0).toNat:Int)=48))&&(O (1<(t.length:Int))))) X (λh173=>?_) (λh173=>?_)
      ·have h173p:=bd h173;refine W ?_;refine FQ M 0 176 X X (AE X X call201) (HE s (⟨j,0,[],zeroVl,i,y.e,y.wh⟩:Rx) _ _ _ _ (M.blk 0 X)) λw10 M=>W ?_
       exact qx_ret0 (Or.inl X) X ⟨X,by rw [bF hr A0 h62 h124,htw,Ac ⟨hd0▸h173p.1,A0⟩,htj];exact M.blk 0 rfl,M.fr⟩
      have h173p:=bd h173;refine W ?_;refine flp [4,2,0] (λze e wr mz=>∃(q:Nat) (v:Nat),e=(5,.int .u64 ((v:Nat):Int))::(6,AA (q:Int))::ze∧Mem w (λk=>k=gx) [As.blk gx 258 [str s,AA (j:Int),AA 0,str [],.int .u8 0,AA 0,.bool zy,str [],AA (i:Int),AA y.e,AA (y.wh:Int)]] wr∧(q≤t.length∧q≤19)∧(v=O6 0 (t.take q))∧(v+1≤10 ^ q)∧mz=t.length-q) ⟨0,0,X,M,⟨Aj _,Aj _⟩,X,Af _,X⟩ ?_;rintro _ w11 _ ⟨q,v,rfl,M,hq,hv,hvb,rfl⟩;refine W ?_;refine ya X (BT X X Ad) (W ?_);refine AC (b:=(O ((q:Int)<(t.length:Int)))) X (λh180=>?_) (λh180=>?_)
      ·have h180p:=odt h180;refine W ?_;refine AC (b:=(O ((q:Int)=19))) X (λh184=>?_) (λh184=>?_)
       ·have h184p:=odt h184;refine W ?_;refine II X (W ?_);refine FQ M 0 197 X X (AE X X call201) (HE s (⟨j,0,[],zeroVl,i,y.e,y.wh⟩:Rx) _ _ _ _ (M.blk 0 X)) λw12 M=>W ?_
        exact qx_ret0 (Or.inl X) X ⟨X,by rw [bF hr A0 h62 h124,htw,Ae (a1X hd0 h173),Ac (zB A0),htj];exact M.blk 0 rfl,M.fr⟩
       have h184p:=odf h184;have hp18:10 ^ q≤10 ^ 18:=Nat.pow_le_pow_right AV (show q≤18 by omega);have hdg:=a2I hal (i:=q) A0;refine W ?_;refine ya X (a1m (r:=((v*10:Nat):Int)) X X X (by rw [IntKind.wrap_u64];omega)) (W ?_);refine ya X (BA X X X Ad (DT (l:=t) (i:=q) A0)) (ya X (a1j (r:=(((t[q]?.getD 0).toNat-48:Nat):Int)) X X X (by rw [qO A0];omega)) (ya X (CI (r:=(((t[q]?.getD 0).toNat-48:Nat):Int)) X X Bo Hp (by rw [IntKind.wrap_u64];omega)) (ya X (a1r (r:=((v*10+((t[q]?.getD 0).toNat-48):Nat):Int)) X X X (by rw [IntKind.wrap_u64];omega)) (W ?_))));refine fag ⟨q+1,v*10+((t[q]?.getD 0).toNat-48),X,M,?_,?_,?_,X⟩
       ·omega
       ·rw [pX A0,←hv]
       rw [Nat.pow_succ];omega
      have h180p:=odf h180;refine W ?_;refine AC (b:=(O (9223372036854775807<((v:Nat):Int)))) X (λh194=>?_) (λh194=>?_)
      ·have h194p:=odt h194;refine W ?_;refine FQ M 0 197 X X (AE X X call201) (HE s (⟨j,0,[],zeroVl,i,y.e,y.wh⟩:Rx) _ _ _ _ (M.blk 0 X)) λw13 M=>W ?_
       exact qx_ret0 (Or.inl X) X ⟨X,by rw [bF hr A0 h62 h124,htw,Ae (a1X hd0 h173),Ac (sS hv A0 A0 h194),htj];exact M.blk 0 rfl,M.fr⟩
      have h194p:=odf h194;refine W ?_;refine ya X (CI (r:=((v:Nat):Int)) X X Hp Hg (IntWalk.i64_in _ ⟨A0,A0⟩)) (ya X (B8 (parts:=[(0,_),(1,_)]) X X (K5 _ _)) (yb X (ya X (B8 (parts:=[(0,_),(2,_),(3,_)]) X X (FG _ _ _ _ _ _)) (W ?_))));refine FJ (cs':=[str s,AA (j:Int),AA 1,str [],.int .u8 1,AA ((v:Nat):Int),.bool zy,str [],AA (i:Int),AA y.e,AA (y.wh:Int)]) M 0 kw X X X X X CN X (CM X) (BN X) X λw14 M=>W ?_
      exact qx_ret0 (Or.inr X) X ⟨X,by rw [bF hr A0 h62 h124,htw,Ae (a1X hd0 h173),Ae (zA hv A0 A0 h194),htj,j5 hv A0 A0];exact M.blk 0 rfl,M.fr⟩
     refine A1 (d:=169) (b:=(O (((t[0]?.getD 0).toNat:Int)=48))) X (λh169=>?_) (λh169=>?_)
     ·refine gyq X (yd X (BT X X Ad) (T2 ?_));exact k169 M
     refine T4 ?_;exact k169 M
    refine DZ 20 CA zr ?_;have M:=M.drew;refine W ?_;refine sa X (BT X X Ad) (W ?_);refine C3 (d:=137) (b:=(O ((j:Int)<(s.length:Int)))) X (λh137=>?_) (λh137=>?_)
    ·have h137p:=odt h137;refine W ?_;refine gsg X (BA X X X Ad (DT (l:=s) (i:=j) A0)) (DA (sxl_call (G 147) kw X X (AE X X call219) (TJ _ _) ?_));rintro _ w15 ⟨rfl,hfw15⟩;refine cq ?_;have M:=M.step hfw15;refine T2 ?_;exact kj16 _ _ M ⟨X,X,(by rw [fQ,Ac h137];rfl),zw⟩
    refine T13 ?_;exact kj16 _ _ M ⟨X,X,(by rw [fQ,AN h137];rfl),zw⟩
   refine W ?_;refine CQ M 208 X X call220 (WW _ _) λw16 M=>W ?_
   refine AC (b:=(DD (s[i]?.getD 0))) X (λh206=>?_) (λh206=>?_)
   ·refine W ?_;refine flp [2,0] (λze e wr mz=>∃(j:Nat),e=ze∧Mem w (λk=>k=gx) [As.blk gx 258 [str s,AA (j:Int),AA 0,str [],.int .u8 0,AA 0,.bool zy,str [],AA (i:Int),AA y.e,AA (y.wh:Int)]] wr∧(i≤j∧j≤s.length)∧(Tw BS s i j)∧mz=s.length-j) ⟨i,X,M,⟨Af _,A0⟩,Tw.init _ A0,X⟩ ?_;rintro _ w17 _ ⟨j,rfl,M,hj,hT,rfl⟩;refine W ?_;refine JL ([(0,pg gx),(2,AA (i:Int)),(278,.bool (V9 s j))]) (λw'=>Mem w (λk=>k=gx) [As.blk gx 258 [str s,AA (j:Int),AA 0,str [],.int .u8 0,AA 0,.bool zy,str [],AA (i:Int),AA y.e,AA (y.wh:Int)]] w') ?_ (λkr32=>?_)
    ·intro  w18 M;refine qx_seq (AC (b:=(V9 s j)) X (λh278=>?_) (λh278=>?_))
     ·have hjn:=a2r h278;refine W ?_;refine gp1 M 0 X X X GF λw19 M=>W ?_
      refine fag ⟨j+1,X,M,?_,?_,X⟩
      ·omega
      exact hT.step hjn.1 hjn.2
     refine W ?_;obtain ⟨t,ht,htw⟩:∃t,(s.drop i).take (j-i)=t∧(s.drop i).takeWhile BS=t:=⟨_,X,hT.stop (a2s h278)⟩
     have htl:t.length=j-i:=by rw [←ht];simp only [Bs,Ch];omega
     have htj:i+t.length=j:=A0
     refine W ?_;refine CY CA zr ?_;have M:=M.drew;refine W ?_;refine sa X (l5 X X X X Ad A0 A0 ht) (W ?_);refine fvm M 3 [7,2,0] [(308,.bool ((O (t=[116,114,117,101])) || (O (t=[102,97,108,115,101]))))] ?_ (λk305=>?_)
     ·intro w20 M;refine W ?_;refine AC (b:=((O (t=[116,114,117,101])) || (O (t=[102,97,108,115,101])))) X (λh302=>?_) (λh302=>?_)
      ·have h302p:=bd h302;refine W ?_;refine ya X (B8 (parts:=[(0,_),(2,_)]) X X (NJ _ _)) (yb X (ya X (B8 (parts:=[(0,_),(2,_),(3,_)]) X X (FG _ _ _ _ _ _)) (W ?_)));refine FJ (cs':=[str s,AA (j:Int),AA 1,str [],.int .u8 2,AA 0,.bool (O (t=[116,114,117,101])),str [],AA (i:Int),AA y.e,AA (y.wh:Int)]) M 0 kw X X X X X CN X (CM X) (BN X) X λw21 M=>W ?_
       exact qx_ret0 (Or.inr X) X ⟨X,by rw [VL hr A0 h62 h124 h206,htw,Ac (a32 h302),htj];exact M.blk 0 rfl,M.fr⟩
      have h302p:=bd h302;refine W ?_;refine CQ M 319 X X call221 (eN _ _) λw22 M=>W ?_
      refine AC (b:=(IL t)) X (λh317=>?_) (λh317=>?_)
      ·refine W ?_;refine ya X (B8 (parts:=[(0,_),(1,_),(3,_)]) X X (FH _ _ _)) (W ?_);refine FJ (cs':=[str s,AA (j:Int),AA 3,str t,.int .u8 0,AA 0,.bool zy,str [],AA (i:Int),AA y.e,AA (y.wh:Int)]) M 0 kw X X X X X CN X (CM X) (BN X) X λw23 M=>W ?_
       exact qx_ret0 (Or.inr X) X ⟨X,by rw [VL hr A0 h62 h124 h206,htw,Ae (j4 h302),Ac h317,htj];exact M.blk 0 rfl,M.fr⟩
      refine W ?_;refine ya X (BT X X Ad) (W ?_);refine AC (b:=(O (32<(t.length:Int)))) X (λh326=>?_) (λh326=>?_)
      ·have h326p:=odt h326;refine W ?_;refine FQ M 0 332 X X (AE X X call201) (HE s (⟨j,0,[],zeroVl,i,y.e,y.wh⟩:Rx) _ _ _ _ (M.blk 0 X)) λw24 M=>W ?_
       exact qx_ret0 (Or.inr X) X ⟨X,by rw [VL hr A0 h62 h124 h206,htw,Ae (j4 h302),AN h317,Ac A0,htj];exact M.blk 0 rfl,M.fr⟩
      have h326p:=odf h326;refine W ?_;refine ya X (B8 (parts:=[(0,_),(1,_),(3,_)]) X X (FH _ _ _)) (W ?_);refine FJ (cs':=[str s,AA (j:Int),AA 2,str t,.int .u8 0,AA 0,.bool zy,str [],AA (i:Int),AA y.e,AA (y.wh:Int)]) M 0 kw X X X X X CN X (CM X) (BN X) X λw25 M=>W ?_
      exact qx_ret0 (Or.inr X) X ⟨X,by rw [VL hr A0 h62 h124 h206,htw,Ae (j4 h302),AN h317,Ae A0,htj];exact M.blk 0 rfl,M.fr⟩
     refine A1 (d:=305) (b:=(O (t=[116,114,117,101]))) X (λh305=>?_) (λh305=>?_)
     ·refine T3 ?_;exact k305 M
     refine T3 ?_;exact k305 M
    refine I0 M 70 CA λM=>oc 0 70 X X M (oc 1 70 X X M (oc 2 70 X X M (ol 3 70 X X X M (λ_ M=>(M.cell 0 X X)) (oc 4 70 X X M (oc 5 70 X X M (oc 6 70 X X M (ol 7 70 X X X M (λ_ M=>(M.cell 0 X X)) (oa 8 70 X X M (λ_ M=>BT X X Ad) (oa 9 70 X X M (λ_ M=>HL X X X) (oc 10 70 X X M (CC (d:=219) (b:=(O ((j:Int)<(s.length:Int)))) X (λh219=>?_) (λh219=>?_))))))))))))
    ·have h219p:=odt h219;refine ob 11 70 X kw X X M (λ_ M=>yp X) (ob 12 70 X kw X X M (λ_ M=>yp X) (ob 13 70 X kw X X M (λ_ M=>yp X) (ob 14 70 X kw X X M (λ_ M=>B3 X X (sc X) (M.cell 0 X X)) (ob 15 70 X kw X X M (λ_ M=>yp X) (ob 16 70 X kw X X M (λ_ M=>yp X) (ob 17 70 X kw X X M (λ_ M=>yp X) (ob 18 70 X kw X X M (λ_ M=>B3 X X (sc X) (M.cell 0 X X)) (ob 19 70 X kw X X M (λ_ M=>BA X X X Ad (DT (l:=s) (i:=j) A0)) (BB 20 (G 229) zr X kw X X (AE X X call220) (WW _ _) ?_)))))))));rintro _ w26 ⟨rfl,hfw26⟩;refine ⟨_,X,λ_=>M.step hfw26,?_⟩;have M:=M.step hfw26;refine ob 21 70 X kw X X M (λ_ M=>yp X) (CC (d:=230) (b:=(DD (s[j]?.getD 0))) X (λh230=>?_) (λh230=>?_))
     ·refine AQ 22 70 X M (AQ 23 70 X M (AQ 24 70 X M (AQ 25 70 X M (AQ 26 70 X M (AQ 27 70 X M (AQ 28 70 X M (AQ 29 70 X M (AQ 30 70 X M (AQ 31 70 X M (ob 32 70 X kw X X M (λ_ M=>yp X) (ob 33 70 X kw X X M (λ_ M=>yp X) (AQ 34 70 X M (AQ 35 70 X M (AQ 36 70 X M (AQ 37 70 X M ?_)))))))))))))));refine AQ 38 70 X M (AQ 39 70 X M (AQ 40 70 X M (AQ 41 70 X M (AQ 42 70 X M (AQ 43 70 X M (ob 44 70 X kw X X M (λ_ M=>yp X) (ob 45 70 X kw X X M (λ_ M=>yp X) (AQ 46 70 X M (AQ 47 70 X M (AQ 48 70 X M (AQ 49 70 X M (AQ 50 70 X M (AQ 51 70 X M (AQ 52 70 X M (AQ 53 70 X M ?_)))))))))))))));refine AQ 54 70 X M (AQ 55 70 X M (ob 56 70 X kw X X M (λ_ M=>yp X) (ob 57 70 X kw X X M (λ_ M=>yp X) (AQ 58 70 X M (AQ 59 70 X M (AQ 60 70 X M (AQ 61 70 X M (AQ 62 70 X M (AQ 63 70 X M (AQ 64 70 X M (AQ 65 70 X M (AQ 66 70 X M (AQ 67 70 X M (ob 68 70 X kw X X M (λ_ M=>yp X) (oc 69 70 X X M ?_)))))))))))))));exact fdn (kr32  _ _ M ⟨X,X,(by rw [V9,Ac h219,Ac h230];rfl),zw⟩)
     refine ob 22 70 X kw X X M (λ_ M=>yp X) (ob 23 70 X kw X X M (λ_ M=>yp X) (ob 24 70 X kw X X M (λ_ M=>yp X) (ob 25 70 X kw X X M (λ_ M=>B3 X X (sc X) (M.cell 0 X X)) (ob 26 70 X kw X X M (λ_ M=>yp X) (ob 27 70 X kw X X M (λ_ M=>yp X) (ob 28 70 X kw X X M (λ_ M=>yp X) (ob 29 70 X kw X X M (λ_ M=>B3 X X (sc X) (M.cell 0 X X)) (ob 30 70 X kw X X M (λ_ M=>BA X X X Ad (DT (l:=s) (i:=j) A0)) (BB 31 (G 240) zr X kw X X (AE X X call219) (TJ _ _) ?_)))))))));rintro _ w27 ⟨rfl,hfw27⟩;refine ⟨_,X,λ_=>M.step hfw27,?_⟩;have M:=M.step hfw27;refine ob 32 70 X kw X X M (λ_ M=>yp X) (ob 33 70 X kw X X M (λ_ M=>yp X) (CC (d:=242) (b:=(BY (s[j]?.getD 0))) X (λh242=>?_) (λh242=>?_)))
     ·refine AQ 34 70 X M (AQ 35 70 X M (AQ 36 70 X M (AQ 37 70 X M (AQ 38 70 X M (AQ 39 70 X M (AQ 40 70 X M (AQ 41 70 X M (AQ 42 70 X M (AQ 43 70 X M (ob 44 70 X kw X X M (λ_ M=>yp X) (ob 45 70 X kw X X M (λ_ M=>yp X) (AQ 46 70 X M (AQ 47 70 X M (AQ 48 70 X M (AQ 49 70 X M ?_)))))))))))))));refine AQ 50 70 X M (AQ 51 70 X M (AQ 52 70 X M (AQ 53 70 X M (AQ 54 70 X M (AQ 55 70 X M (ob 56 70 X kw X X M (λ_ M=>yp X) (ob 57 70 X kw X X M (λ_ M=>yp X) (AQ 58 70 X M (AQ 59 70 X M (AQ 60 70 X M (AQ 61 70 X M (AQ 62 70 X M (AQ 63 70 X M (AQ 64 70 X M (AQ 65 70 X M ?_)))))))))))))));exact AQ 66 70 X M (AQ 67 70 X M (ob 68 70 X kw X X M (λ_ M=>yp X) (oc 69 70 X X M (fdn (kr32  _ _ M ⟨X,X,(by rw [V9,Ac h219,AN h230,Ac h242];rfl),zw⟩)))))
     refine ob 34 70 X kw X X M (λ_ M=>yp X) (ob 35 70 X kw X X M (λ_ M=>yp X) (ob 36 70 X kw X X M (λ_ M=>yp X) (ob 37 70 X kw X X M (λ_ M=>B3 X X (sc X) (M.cell 0 X X)) (ob 38 70 X kw X X M (λ_ M=>yp X) (ob 39 70 X kw X X M (λ_ M=>yp X) (ob 40 70 X kw X X M (λ_ M=>yp X) (ob 41 70 X kw X X M (λ_ M=>B3 X X (sc X) (M.cell 0 X X)) (ob 42 70 X kw X X M (λ_ M=>BA X X X Ad (DT (l:=s) (i:=j) A0)) (ob 43 70 X kw X X M (λ_ M=>ES X X X) (ob 44 70 X kw X X M (λ_ M=>yp X) (ob 45 70 X kw X X M (λ_ M=>yp X) (CC (d:=254) (b:=(O (((s[j]?.getD 0).toNat:Int)=45))) X (λh254=>?_) (λh254=>?_)))))))))))))
     ·refine AQ 46 70 X M (AQ 47 70 X M (AQ 48 70 X M (AQ 49 70 X M (AQ 50 70 X M (AQ 51 70 X M (AQ 52 70 X M (AQ 53 70 X M (AQ 54 70 X M (AQ 55 70 X M (ob 56 70 X kw X X M (λ_ M=>yp X) (ob 57 70 X kw X X M (λ_ M=>yp X) (AQ 58 70 X M (AQ 59 70 X M (AQ 60 70 X M (AQ 61 70 X M ?_)))))))))))))));exact AQ 62 70 X M (AQ 63 70 X M (AQ 64 70 X M (AQ 65 70 X M (AQ 66 70 X M (AQ 67 70 X M (ob 68 70 X kw X X M (λ_ M=>yp X) (oc 69 70 X X M (fdn (kr32  _ _ M ⟨X,X,(by rw [V9,Ac h219,AN h230,AN h242,Ac h254];rfl),zw⟩)))))))))
     have h254p:=odf h254;refine ob 46 70 X kw X X M (λ_ M=>yp X) (ob 47 70 X kw X X M (λ_ M=>yp X) (ob 48 70 X kw X X M (λ_ M=>yp X) (ob 49 70 X kw X X M (λ_ M=>B3 X X (sc X) (M.cell 0 X X)) (ob 50 70 X kw X X M (λ_ M=>yp X) (ob 51 70 X kw X X M (λ_ M=>yp X) (ob 52 70 X kw X X M (λ_ M=>yp X) (ob 53 70 X kw X X M (λ_ M=>B3 X X (sc X) (M.cell 0 X X)) (ob 54 70 X kw X X M (λ_ M=>BA X X X Ad (DT (l:=s) (i:=j) A0)) (ob 55 70 X kw X X M (λ_ M=>ES X X X) (ob 56 70 X kw X X M (λ_ M=>yp X) (ob 57 70 X kw X X M (λ_ M=>yp X) (CC (d:=266) (b:=(O (((s[j]?.getD 0).toNat:Int)=95))) X (λh266=>?_) (λh266=>?_)))))))))))))
     ·exact AQ 58 70 X M (AQ 59 70 X M (AQ 60 70 X M (AQ 61 70 X M (AQ 62 70 X M (AQ 63 70 X M (AQ 64 70 X M (AQ 65 70 X M (AQ 66 70 X M (AQ 67 70 X M (ob 68 70 X kw X X M (λ_ M=>yp X) (oc 69 70 X X M (fdn (kr32  _ _ M ⟨X,X,(by rw [V9,Ac h219,AN h230,AN h242,AN h254,Ac h266];rfl),zw⟩)))))))))))))
     have h266p:=odf h266;exact ob 58 70 X kw X X M (λ_ M=>yp X) (ob 59 70 X kw X X M (λ_ M=>yp X) (ob 60 70 X kw X X M (λ_ M=>yp X) (ob 61 70 X kw X X M (λ_ M=>B3 X X (sc X) (M.cell 0 X X)) (ob 62 70 X kw X X M (λ_ M=>yp X) (ob 63 70 X kw X X M (λ_ M=>yp X) (ob 64 70 X kw X X M (λ_ M=>yp X) (ob 65 70 X kw X X M (λ_ M=>B3 X X (sc X) (M.cell 0 X X)) (ob 66 70 X kw X X M (λ_ M=>BA X X X Ad (DT (l:=s) (i:=j) A0)) (ob 67 70 X kw X X M (λ_ M=>ES X X X) (ob 68 70 X kw X X M (λ_ M=>yp X) (oc 69 70 X X M (fdn (kr32  _ _ M ⟨X,X,(by rw [V9,Ac h219,AN h230,AN h242,AN h254,AN h266];rfl),zw⟩)))))))))))))
    refine AQ 11 70 X M (AQ 12 70 X M (AQ 13 70 X M (AQ 14 70 X M (AQ 15 70 X M (AQ 16 70 X M (AQ 17 70 X M (AQ 18 70 X M (AQ 19 70 X M (AQ 20 70 X M (AQ 21 70 X M (C9 22 70 X X M (C9 23 70 X X M (C9 24 70 X X M (C9 25 70 X X M (C9 26 70 X X M ?_)))))))))))))));refine C9 27 70 X X M (C9 28 70 X X M (C9 29 70 X X M (C9 30 70 X X M (C9 31 70 X X M (AQ 32 70 X M (AQ 33 70 X M (C9 34 70 X X M (C9 35 70 X X M (C9 36 70 X X M (C9 37 70 X X M (C9 38 70 X X M (C9 39 70 X X M (C9 40 70 X X M (C9 41 70 X X M (C9 42 70 X X M ?_)))))))))))))));refine C9 43 70 X X M (AQ 44 70 X M (AQ 45 70 X M (C9 46 70 X X M (C9 47 70 X X M (C9 48 70 X X M (C9 49 70 X X M (C9 50 70 X X M (C9 51 70 X X M (C9 52 70 X X M (C9 53 70 X X M (C9 54 70 X X M (C9 55 70 X X M (AQ 56 70 X M (AQ 57 70 X M (C9 58 70 X X M ?_)))))))))))))));exact C9 59 70 X X M (C9 60 70 X X M (C9 61 70 X X M (C9 62 70 X X M (C9 63 70 X X M (C9 64 70 X X M (C9 65 70 X X M (C9 66 70 X X M (C9 67 70 X X M (AQ 68 70 X M (oc 69 70 X X M (fdn (kr32  _ _ M ⟨X,X,(by rw [V9,AN h219];rfl),zw⟩))))))))))))
   refine W ?_;refine AC (b:=(O (((s[i]?.getD 0).toNat:Int)=39))) X (λh333=>?_) (λh333=>?_)
   ·have h333p:=odt h333;refine W ?_;refine FQ M 0 338 X X (AE X X call222) (nT s (⟨i,0,[],zeroVl,i,y.e,y.wh⟩:Rx) _ i _ (M.blk 0 X) A0 hl) λw28 M=>W ?_
    exact qx_ret0 (Or.inr X) X ⟨X,by rw [z6 hr A0 h62 h124 h206 h333p];exact M.blk 0 rfl,M.fr⟩
   have h333p:=odf h333;refine W ?_;refine CP M kw X X [str [60,61],str [62,61],str [33,61],str [40],str [41],str [43],str [45],str [42],str [47],str [37],str [61],str [60],str [62]] ([str [60,61],str [62,61],str [33,61],str [40],str [41],str [43],str [45],str [42],str [47],str [37],str [61],str [60],str [62]]) X X X X Be CK X X (by intro v hv;simp only [Ao,Ba,or_false] at hv;rcases hv with rfl|rfl|rfl|rfl|rfl|rfl|rfl|rfl|rfl|rfl|rfl|rfl|rfl<;>rfl) X λg69 w29 hg69 M=>W ?_
   have M:=M.blkOwnS 0 (size:=1) (n:=13) X (M.neBlk 0 1 X X AV) X (by unfold maxLen;omega);refine flp [8,2,0] (λze e wr mz=>∃(k:Nat),e=(9,AA ((k:Nat):Int))::ze∧Mem w (λk=>k=gx) [As.own w.heap.size 9 1 (.slice (G ⟨g69,0,zx⟩) 13 13) 13 (AF BH rsigns),As.blk gx 258 [str s,AA (i:Int),AA 0,str [],.int .u8 0,AA 0,.bool zy,str [],AA (i:Int),AA y.e,AA (y.wh:Int)]] wr∧(k≤rsigns.length)∧(J3 (s.drop i) rsigns=J3 (s.drop i) (rsigns.drop k))∧mz=13-k) ⟨0,X,M,Aj _,X,X⟩ ?_;rintro _ w30 _ ⟨k,rfl,M,hk,hs,rfl⟩;refine W ?_;refine AC (b:=(O (((k:Nat):Int)<13))) X (λh73=>?_) (λh73=>?_)
   ·have h73p:=odt h73;refine W ?_;obtain ⟨z,_,_,hz,hA_z⟩:=ex5 (l:=rsigns) (k:=1) (i:=k) (M.rdOwn 0 X);have oz:=j0 _ (Ah hz);refine ya X (AK k hA_z X X X (sl X) A0) (yl X X (BC DN (M.rdOwn 0 X) hA_z hz 0 X) (ya X (BT X X Ad) (W ?_)));refine CY CA zr ?_;have M:=M.drew;refine T2 ?_;refine sa X (GZ X X X A0) (W ?_);refine sa X (BT X X Ad) (W ?_);refine fvs 15 [10,9,8,2,0] [(105,.bool ((O (((i+z.length:Nat):Int)≤(s.length:Int)))&&(O (((s.drop i).take z.length)=z))))] ?_ (λk90=>?_)
    ·refine W ?_;refine AC (b:=((O (((i+z.length:Nat):Int)≤(s.length:Int)))&&(O (((s.drop i).take z.length)=z)))) X (λh105=>?_) (λh105=>?_)
     ·have h105p:=bd h105;refine W ?_;refine gp1 M 1 X X X GF λw31 M=>W ?_
      refine ya X (AK k hA_z X X X (sl X) A0) (yl X X (BC DN (M.rdOwn 0 X) hA_z hz 0 X) (yb X (ya X (B8 (parts:=[(0,_),(1,_),(3,_)]) X X (FH _ _ _)) (W ?_))));refine FJ (cs':=[str s,AA ((i+z.length:Nat):Int),AA 3,str z,.int .u8 0,AA 0,.bool zy,str [],AA (i:Int),AA y.e,AA (y.wh:Int)]) M 1 kw X X X X X CN X (CM X) (BN X) X λw32 M=>W ?_
      exact qx_ret0 (Or.inl X) X ⟨X,by rw [lY hr A0 h62 h124 h206 h333p,hs,AH hz,yU (a1K h105)];exact M.blk 1 rfl,M.fr⟩
     have h105p:=bd h105;refine W ?_;refine fag ⟨k+1,X,M,?_,?_,X⟩
     ·omega
     rw [hs,AH hz,sL (a1J A0 h105)]
    refine C3 (d:=90) (b:=(O (((i+z.length:Nat):Int)≤(s.length:Int)))) X (λh90=>?_) (λh90=>?_)
    ·have h90p:=odt h90;refine T7 ?_;refine gsg X (GZ X X X A0) (gsg X (l6 (a:=i) (n:=z.length) X X X X Ad A0) (W ?_));refine gsg X (AK k hA_z X X X (sl X) A0) (gsg X (B3 X X (sc X) (BC DN (M.rdOwn 0 X) hA_z hz 0 X)) (T2 ?_));exact k90 _ ⟨X,X,X,X,X,(by rw [h90];rfl),zw⟩
    refine T15 ?_;exact k90 _ ⟨X,X,X,X,X,(by rw [h90];rfl),zw⟩
   have h73p:=odf h73;refine W ?_;refine FQ M 1 123 X X (AE X X call201) (HE s (⟨i,0,[],zeroVl,i,y.e,y.wh⟩:Rx) _ _ _ _ (M.blk 1 X)) λw33 M=>W ?_
   exact qx_ret0 (Or.inr X) X ⟨X,by rw [lY hr A0 h62 h124 h206 h333p,hs,show k=rsigns.length by omega,Aq];exact M.blk 1 rfl,M.fr⟩
  refine A1 (d:=54) (b:=(!decide (y.e=(0:Int)))) X (λh54=>?_) (λh54=>?_)
  ·refine T8 ?_;exact k54 M
  refine W ?_;refine yd X (BT X X Ad) (T2 ?_);exact k54 M
 refine C3 (d:=21) (b:=(O ((i:Int)<(s.length:Int)))) X (λh21=>?_) (λh21=>?_)
 ·have h21p:=odt h21;refine W ?_;refine gsg X (BA X X X Ad (DT (l:=s) (i:=i) A0)) (T2 ?_);exact k21 _ ⟨X,(by rw [h21];rfl),zw⟩
 refine T11 ?_;exact k21 _ ⟨X,(by rw [h21];rfl),zw⟩
def isN (s:Kz) (y:Rx) (k:Kz):Rx:=if isR y k=zz then AS s y else y
theorem uY {y:Rx} {k:Kz} (h:(((!decide (y.e=(0:Int))) || (!decide ((y.kd:Int)=3))) || (!decide (y.say=k)))=zz):isR y k=zy:=by
 unfold isR;rcases M8 h with h|h
 ·rcases M8 h with h|h
  ·rw [CJ h];rfl
  have:¬y.kd=3:=λz=>odf (CJ h) A0
  rw [Bb this];simp
 rw [CJ h];simp
theorem mJ {y:Rx} {k:Kz} (h:(((!decide (y.e=(0:Int))) || (!decide ((y.kd:Int)=3))) || (!decide (y.say=k)))=zy):isR y k=zz:=by
 unfold isR;have h1:=BL (FL (FL h).1).1;have h2:=odt (BL (FL (FL h).1).2);have h3:=BL (FL h).2;rw [h1,h3,Bg (show y.kd=3 by omega)];rfl
theorem IQ (s:Kz) (y:Rx) (gx:Nat) (k:Kz) (w:Kw) (hb:Blk w gx 258 (Rx.cells s y)) (hA:y.at_≤s.length) (hl:s.length≤256) :
 zt zv 224 #[pg gx,str k] w λe w'=>e=.returned (.bool (isR y k))∧Blk w' gx 258 (Rx.cells s (isN s y k))∧Fr (λk=>k=gx) w w':=by
 refine sx_enter (vs:=[_,_]) func224 X ntmps224 X ?_;have M:Mem w (λk=>k=gx) [As.blk gx 258 (Rx.cells s y)] w:=Mem.one hb;refine W ?_;refine fvm M 7 [0,1] [(17,.bool ((!decide (y.e=(0:Int))) || (!decide ((y.kd:Int)=3))))] ?_ (λk10=>?_)
 ·intro w1 M;refine yb X (fvm M 8 [0] [(26,.bool (((!decide (y.e=(0:Int))) || (!decide ((y.kd:Int)=3))) || (!decide (y.say=k))))] ?_ (λk18=>?_))
  ·intro w2 M;refine W ?_;refine AC X (λh26=>?_) (λh26=>?_)
   ·have h26p:=bd h26;refine W ?_;exact gr1 X ⟨by rw [uY h26],by rw [isN,uY h26,Ae (show ¬zy=zz by decide)];exact M.blk 0 rfl,M.fr⟩
   refine W ?_;refine FQ M 0 28 X X (AE X X call199) (PG s y _ _ (M.blk 0 X) hA hl) λw3 M=>W ?_
   exact gr1 X ⟨by rw [mJ h26],by rw [isN,mJ h26,Ac rfl];exact M.blk 0 rfl,M.fr⟩
  refine A1 (d:=18) X (λh18=>?_) (λh18=>?_)
  ·refine T8 ?_;exact k18 M
  refine T8 ?_;exact k18 M
 refine A1 (d:=10) X (λh10=>?_) (λh10=>?_)
 ·refine T7 ?_;exact k10 M
 refine T7 ?_;exact k10 M
end
end Go.Proofs.YtppmdnmjepkfaaaGreatDoor
