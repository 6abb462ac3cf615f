/- Lemmas. -/
import Derived.Test.YtppmdnmjepkfaaaGreatDoorYb4
set_option maxHeartbeats 16000000
set_option maxRecDepth 100000
namespace Go.Proofs.YtppmdnmjepkfaaaGreatDoor
open Go.RowKit
open Tryz
theorem MZ (l:Kz):∀v∈bvs l,v.cells.size=1:=by
 intro v hv;obtain ⟨b,_,rfl⟩:=Ch.1 hv
 rfl
theorem MY : ∀l:Kz,((bvs l).map λv=>v.cells.toList).flatten=bvs l
 | []=>rfl
 | b::l=>by
  show ((bv b).cells.toList)++((bvs l).map λv=>v.cells.toList).flatten=bv b::bvs l
  rw [MY l];rfl
theorem VB (c:Int) (w:Kw) (hc : -1099511627776≤c∧c≤1099511627776):Calls prog 175 #[AA c] w (BS w (.tuple #[str ((E6 c).getD []),.bool (E6 c).isSome])):=by
 refine sx_enter (vs:=[_]) func175 X ntmps175 X ?_
 by_cases h0:c<0
 ·have e:E6 c=none:=by unfold E6;rw [if_pos A0]
  refine V ?_;refine ya X (D4 X X X A0) (V ?_);exact AZ X X X ⟨by rw [e];rfl,Fr.refl⟩
 by_cases h1:1114111<c
 ·have e:E6 c=none:=by unfold E6;rw [if_pos A0]
  refine V ?_;refine ya X (DD X X X A0) (V ?_);refine yd X (OX X X X A0) (V ?_);exact AZ X X X ⟨by rw [e];rfl,Fr.refl⟩
 obtain ⟨n,rfl⟩:∃n:Nat,c=(n:Int):=⟨c.toNat,by omega⟩
 by_cases h2:55296≤(n:Int)∧(n:Int)≤57343
 ·have e:E6 n=none:=by unfold E6;rw [if_pos A0]
  obtain ⟨h2a,h2b⟩:=h2;refine V ?_;refine ya X (DD X X X A0) (V ?_);refine yd X (II X X X A0) (V ?_);refine yd X (DE X X X A0) (V ?_);refine yd X (J4 X X X A0) (V ?_);exact AZ X X X ⟨by rw [e];rfl,Fr.refl⟩
 by_cases h3:(n:Int)≤127
 ·have e:E6 n=some [UInt8.ofNat n]:=by unfold E6;rw [if_neg A0,if_pos A0];simp
  have h2a:(n:Int)<55296:=by omega
  refine V ?_;refine ya X (DD X X X A0) (V ?_);refine yd X (II X X X A0) (V ?_);refine yd X (C4 X X X A0) (V ?_);refine ya X (J4 X X X A0) (V ?_);refine ya X (CE (r:=((UInt8.ofNat n).toNat:Int)) X X Bg Bi (GD A0)) (sxl_does (some 24) kw X X (λρ hρ=>DA (size:=1) (bvs [UInt8.ofNat n]) (.int .u8 0) hρ X X X X Cv gkr AV AV (MZ _)) ?_);rintro _ w1 ⟨g,rfl,hg1,hg2,hb,hf⟩;rw [MY] at hb
  have hr:=Rd.ofBlk hb X;refine ya X (VI X X Cv Bi Aa hr) (V ?_);exact AZ X X X ⟨by rw [e];rfl,hf⟩
 by_cases h4:(n:Int)≤2047
 ·have e:E6 n=some [UInt8.ofNat (192+n / 64),UInt8.ofNat (128+n%64)]:=by unfold E6;rw [if_neg A0,if_neg A0,if_pos A0];simp
  have h2a:(n:Int)<55296:=by omega
  refine V ?_;refine ya X (DD X X X A0) (V ?_);refine yd X (II X X X A0) (V ?_);refine yd X (C4 X X X A0) (V ?_);refine ya X (DT X X X A0) (V ?_);refine ya X (J4 X X X A0) (V ?_);refine ya X (TU X X X A0 A0) (CZ X X (ya X (CE (r:=((UInt8.ofNat (192+n / 64)).toNat:Int)) X X Bg Bi (GD A0)) (yb X (ya X (TT X X X A0 A0) (CZ X X (ya X (CE (r:=((UInt8.ofNat (128+n%64)).toNat:Int)) X X Bg Bi (GD A0)) (sxl_does (some 37) kw X X (λρ hρ=>DA (size:=1) (bvs [UInt8.ofNat (192+n / 64),UInt8.ofNat (128+n%64)]) (.int .u8 0) hρ X X X X Cv gkr AV AV (MZ _)) ?_)))))));rintro _ w1 ⟨g,rfl,hg1,hg2,hb,hf⟩;rw [MY] at hb
  have hr:=Rd.ofBlk hb X;refine ya X (VI X X Cv Bi Aa hr) (V ?_);exact AZ X X X ⟨by rw [e];rfl,hf⟩
 by_cases h5:(n:Int)≤65535
 ·have e:E6 n=some [UInt8.ofNat (224+n / 4096),UInt8.ofNat (128+n / 64%64),UInt8.ofNat (128+n%64)]:=by unfold E6;rw [if_neg A0,if_neg A0,if_neg A0,if_pos A0];simp
  by_cases h2a:(n:Int)<55296
  ·skip
   refine V ?_;refine ya X (DD X X X A0) (V ?_);refine yd X (II X X X A0) (V ?_);refine yd X (C4 X X X A0) (V ?_);refine ya X (DT X X X A0) (V ?_);refine ya X (DT X X X A0) (V ?_);refine ya X (J4 X X X A0) (V ?_);refine ya X (TU X X X A0 A0) (CZ X X (ya X (CE (r:=((UInt8.ofNat (224+n / 4096)).toNat:Int)) X X Bg Bi (GD A0)) (yb X (ya X (TU X X X A0 A0) (ya X (TT X X X A0 A0) (CZ X X (ya X (CE (r:=((UInt8.ofNat (128+n / 64%64)).toNat:Int)) X X Bg Bi (GD A0)) (yb X (ya X (TT X X X A0 A0) (CZ X X (ya X (CE (r:=((UInt8.ofNat (128+n%64)).toNat:Int)) X X Bg Bi (GD A0)) (sxl_does (some 55) kw X X (λρ hρ=>DA (size:=1) (bvs [UInt8.ofNat (224+n / 4096),UInt8.ofNat (128+n / 64%64),UInt8.ofNat (128+n%64)]) (.int .u8 0) hρ X X X X Cv gkr AV AV (MZ _)) ?_))))))))))));rintro _ w1 ⟨g,rfl,hg1,hg2,hb,hf⟩;rw [MY] at hb
   have hr:=Rd.ofBlk hb X;refine ya X (VI X X Cv Bi Aa hr) (V ?_);exact AZ X X X ⟨by rw [e];rfl,hf⟩
  have h2b:57343<(n:Int):=by omega
  refine V ?_;refine ya X (DD X X X A0) (V ?_);refine yd X (II X X X A0) (V ?_);refine yd X (DE X X X A0) (V ?_);refine yd X (DT X X X A0) (V ?_);refine ya X (DT X X X A0) (V ?_);refine ya X (DT X X X A0) (V ?_);refine ya X (J4 X X X A0) (V ?_);refine ya X (TU X X X A0 A0) (CZ X X (ya X (CE (r:=((UInt8.ofNat (224+n / 4096)).toNat:Int)) X X Bg Bi (GD A0)) (yb X (ya X (TU X X X A0 A0) (ya X (TT X X X A0 A0) (CZ X X (ya X (CE (r:=((UInt8.ofNat (128+n / 64%64)).toNat:Int)) X X Bg Bi (GD A0)) (yb X (ya X (TT X X X A0 A0) (CZ X X (ya X (CE (r:=((UInt8.ofNat (128+n%64)).toNat:Int)) X X Bg Bi (GD A0)) (sxl_does (some 55) kw X X (λρ hρ=>DA (size:=1) (bvs [UInt8.ofNat (224+n / 4096),UInt8.ofNat (128+n / 64%64),UInt8.ofNat (128+n%64)]) (.int .u8 0) hρ X X X X Cv gkr AV AV (MZ _)) ?_))))))))))));rintro _ w1 ⟨g,rfl,hg1,hg2,hb,hf⟩;rw [MY] at hb
  have hr:=Rd.ofBlk hb X;refine ya X (VI X X Cv Bi Aa hr) (V ?_);exact AZ X X X ⟨by rw [e];rfl,hf⟩
 have e:E6 n=some [UInt8.ofNat (240+n / 262144),UInt8.ofNat (128+n / 4096%64),UInt8.ofNat (128+n / 64%64),UInt8.ofNat (128+n%64)]:=by unfold E6;rw [if_neg A0,if_neg A0,if_neg A0,if_neg A0];simp
 have h2b:57343<(n:Int):=by omega
 refine V ?_;refine ya X (DD X X X A0) (V ?_);refine yd X (II X X X A0) (V ?_);refine yd X (DE X X X A0) (V ?_);refine yd X (DT X X X A0) (V ?_);refine ya X (DT X X X A0) (V ?_);refine ya X (DT X X X A0) (V ?_);refine ya X (DT X X X A0) (V ?_);refine ya X (TU X X X A0 A0) (CZ X X (ya X (CE (r:=((UInt8.ofNat (240+n / 262144)).toNat:Int)) X X Bg Bi (GD A0)) (yb X (ya X (TU X X X A0 A0) (ya X (TT X X X A0 A0) (CZ X X (ya X (CE (r:=((UInt8.ofNat (128+n / 4096%64)).toNat:Int)) X X Bg Bi (GD A0)) (yb X (ya X (TU X X X A0 A0) (ya X (TT X X X A0 A0) (CZ X X (ya X (CE (r:=((UInt8.ofNat (128+n / 64%64)).toNat:Int)) X X Bg Bi (GD A0)) (yb X (ya X (TT X X X A0 A0) (CZ X X ?_)))))))))))))));refine ya X (CE (r:=((UInt8.ofNat (128+n%64)).toNat:Int)) X X Bg Bi (GD A0)) (sxl_does (some 75) kw X X (λρ hρ=>DA (size:=1) (bvs [UInt8.ofNat (240+n / 262144),UInt8.ofNat (128+n / 4096%64),UInt8.ofNat (128+n / 64%64),UInt8.ofNat (128+n%64)]) (.int .u8 0) hρ X X X X Cv gkr AV AV (MZ _)) ?_);rintro _ w1 ⟨g,rfl,hg1,hg2,hb,hf⟩;rw [MY] at hb
 have hr:=Rd.ofBlk hb X;refine ya X (VI X X Cv Bi Aa hr) (V ?_);exact AZ X X X ⟨by rw [e];rfl,hf⟩
theorem NN (c:Int) (hc:0≤c∧c≤255):∀l:Kz,l.length≤3 → -1000000000≤more c l∧more c l≤1000000000
 | [],_=>by simp only [more];omega
 | [x],_=>by have:=x.toNat_lt;simp only [more];omega
 | [x,y],_=>by have:=x.toNat_lt;have:=y.toNat_lt;simp only [more];omega
 | [x,y,z],_=>by have:=x.toNat_lt;have:=y.toNat_lt;have:=z.toNat_lt;simp only [more];omega
 | _::_::_::_::_,h=>by simp only [Af] at h;omega
theorem jT (a:UInt8):0≤D0 a∧D0 a≤255:=by
 have:=a.toNat_lt
 unfold D0
 split
 ·omega
 split
 ·omega
 split<;>omega
theorem sX (a:UInt8):1≤nOf a∧nOf a≤4:=by
 unfold nOf
 split
 ·omega
 split
 ·omega
 split<;>omega
theorem a2H (l:Kz) (i:Nat) (a:UInt8) (r:Kz) (hd:l.drop i=a::r) (hm:(l.length:Int)<4611686018427387904) (w:Kw) :
 Calls prog 114 #[str l,AA (i:Int)] w λe w'=>(∃c:Int,e=.returned (.tuple #[AA c,AA (if EO a r then (nOf a:Int) else 0),.bool (EO a r)]))∧Fr0 w w':=by
 have hil:i<l.length:=by
  rcases Fz i l.length with h|h
  ·exact h
  rw [Ja h] at hd;cases hd
 have hrl:r.length+1+i=l.length:=by have:=Ay List.length hd;simp at this;omega
 have hat:∀k,l[i+k]?=(a::r)[k]?:=λk=>by rw [←hd,Bt]
 have hc:l[i]?=some a:=by have:=hat 0;simpa using this
 have ha:=a.toNat_lt;have hbb:=jT a;have hnn:=sX a;refine sx_enter (vs:=[_,_]) func114 X ntmps114 X ?_
 by_cases g4:240≤a.toNat
 ·have hN:nOf a=4:=by unfold nOf;rw [if_pos A0]
  have hB:D0 a=((a.toNat:Int)-240:Int):=by unfold D0;rw [if_pos A0]
  by_cases hlen:l.length<i+4
  ·have hno:EO a r=false:=by unfold EO;rw [hN];simp;omega
   refine CB X (yb X (CQ X (sx_seq (CB X (ya X (DD X X X A0) (yb X (gyq X (gyq X (yd X (BT X X Aa) ?_)))))))));refine yd X (C4 X X X A0) (CQ X (sx_false X (sx_skip (qx_seq (srg (CQ X (CB X (yb X ?_))))))));refine ya X (B8 X X X Aa hc) (ya X (CE (r:=(a.toNat:Int)) X X Bi Bg (J5 ha)) (CQ X (sx_seq (sx_block (CB X (yb X (ya X (B8 X X X Aa hc) (ya X (DE X X X A0) (CQ X ?_)))))))));refine sx_true X (srg (CQ X (sx_region (yb X (ya X (MN X X X A0) (yb X (sxl_nil (qx_block_normal (qx_seq (sx_seq (srg ?_)))))))))));refine DO X X (CZ X X (yb X (ya X (BT X X Aa) (ya X (OX X X X A0) (nq (sx_true X (CB X (yb X (CQ X ?_)))))))));exact sx_ret (qx_then_ret (DH X X X X ⟨⟨_,by rw [hno];rfl⟩,Fr.refl⟩))
  refine CB X (yb X (CQ X (sx_seq (CB X (ya X (DD X X X A0) (yb X (gyq X (gyq X (yd X (BT X X Aa) ?_)))))))));refine yd X (C4 X X X A0) (CQ X (sx_false X (sx_skip (qx_seq (srg (CQ X (CB X (yb X ?_))))))));refine ya X (B8 X X X Aa hc) (ya X (CE (r:=(a.toNat:Int)) X X Bi Bg (J5 ha)) (CQ X (sx_seq (sx_block (CB X (yb X (ya X (B8 X X X Aa hc) (ya X (DE X X X A0) (CQ X ?_)))))))));refine sx_true X (srg (CQ X (sx_region (yb X (ya X (MN X X X A0) (yb X (sxl_nil (qx_block_normal (qx_seq (sx_seq (srg ?_)))))))))));refine DO X X (CZ X X (yb X (ya X (BT X X Aa) (ya X (II X X X A0) (nq (sx_false X (sx_skip (qx_seq (sx_seq (CB X (sxl_nil ?_)))))))))));refine qx_seq (sx_block ?_);have h8:more (D0 a) (r.take (1-1))=(a.toNat:Int)-240:=by rw [show r.take (1-1)=[] from rfl,more];exact hB
  refine sx_loop (e0:=[(9,AA 1),(8,AA ((a.toNat:Int)-240)),(7,AA 4),(0,str l),(1,AA (i:Int))]) (λe wr m=>∃(k:Nat),e=[(9,AA (k:Int)),(8,AA (more (D0 a) (r.take (k-1)))),(7,AA 4),(0,str l),(1,AA (i:Int))]∧w=wr∧1≤k∧k≤4∧m=4-k) ⟨1,by rw [h8];rfl,rfl,Ab _,by omega,rfl⟩ ⟨X,X,X,X,X,trivial⟩ ?_;rintro _ _ _ ⟨k,rfl,rfl,hk1,hk2,rfl⟩;have hbnd:=NN (D0 a) hbb (r.take (k-1)) (by rw [Bl];omega)
  generalize hq:more (D0 a) (r.take (k-1))=q at hbnd
  by_cases hkn:k<4
  ·obtain ⟨b,hb⟩:∃b,r[k-1]?=some b:=⟨_,Ao A0⟩
   have hlk:l[i+k]?=some b:=by
    have:=hat k
    rw [show k=(k-1)+1 by omega,Bn,hb] at this
    rw [show i+k=i+(k-1+1) by omega];exact this
   have hbl:=b.toNat_lt
   have hnext:more (D0 a) (r.take (k+1-1))=q*64+(b.toNat:Int)-128:=by
    have:r.take (k+1-1)=r.take (k-1)++[b]:=by
     rw [show k+1-1=(k-1)+1 by omega,Da,hb];rfl
    rw [this,KI,hq]
   have hik:((i:Int)+(k:Int))=((i+k:Nat):Int):=by omega
   refine sx_seq (CB X (yb X (ya X (D4 X X X A0) (nq (sx_true X (sx_skip (qx_seq (sx_seq (sx_block (sx_region (yb X (ya X (cK X X X A0) ?_))))))))))));refine DO X X (yb X (CZ X X (ya X (B8 (m:=i+k) X X (by rw [←hik];rfl) Aa hlk) (ya X (CE (r:=(b.toNat:Int)) X X Bi Bg (J5 hbl)) (CZ X X (ya X (MN X X X A0) (yb X (sxl_nil (qx_block_normal (qx_seq (sx_region (yb X (CZ X X (yb X ?_))))))))))))));exact sxl_nil (fag ⟨k+1,by rw [hnext],rfl,by omega,by omega,rfl⟩)
  obtain rfl:k=4:=by omega
  have hcode:HP a r=q:=by unfold HP;rw [hN];exact hq
  refine sx_seq (CB X (yb X (ya X (DD X X X A0) (nq (sx_false X (sx_exit (qx_then_exit (qx_then_exit (qx_block_hit (qx_seq (srg ?_)))))))))));refine yb X (sxl_call (some 68) (by first|exact wn_none rfl|exact wn_on rfl rfl rfl) X X (AD X X call175) (VB q _ A0) ?_);rintro _ w1 ⟨rfl,hf1⟩;refine cq ?_;have htk:(l.drop i).take (i+4-i)=(a::r).take 4:=by rw [hd];congr 1;omega
  cases hch:E6 q with
  | none=>
   have hno:EO a r=false:=by unfold EO;rw [hcode,hch];simp
   iterate 5 refine yb X ?_
   refine nq (sx_seq (CB X (DO X X ?_)));iterate 8 refine yo X ?_
   exact CQ X (sx_true X (CB X (DO X X (gnr (qx_then_ret (DH X X X X ⟨⟨_,by rw [hno];rfl⟩,hf1⟩))))))
  | some t=>
   rw [show (some t).getD []=t from rfl]
   by_cases hte:t=(a::r).take 4
   ·have hyes:EO a r=true:=by unfold EO;rw [hcode,hch,hN,hte,decide_eq_true (show 4≤r.length+1 by omega),decide_eq_true rfl];rfl
    have hneq:(!decide (t=(l.drop i).take (i+4-i)))=false:=by rw [htk,decide_eq_true hte];rfl
    iterate 5 refine yb X ?_
    refine nq (sx_seq (CB X (DO X X ?_)));iterate 5 refine gyq X ?_
    refine yd X (FS X X X A0) (yd X (O7 (b:=i+4) X X X X Aa A0 A0) (yd X (I1 X X X) (CQ X ?_)));rw [hneq];refine sx_false X (sx_skip (qx_seq (srg ?_)));iterate 5 refine yb X ?_
    exact gnr (DH X X X X ⟨⟨_,by rw [hyes,hN];rfl⟩,hf1⟩)
   have hno:EO a r=false:=by unfold EO;rw [hcode,hch,hN,decide_eq_false (λe=>hte (Bs e)),Ed]
   have hneq:(!decide (t=(l.drop i).take (i+4-i)))=true:=by rw [htk,decide_eq_false hte];rfl
   iterate 5 refine yb X ?_
   refine nq (sx_seq (CB X (DO X X ?_)));iterate 5 refine gyq X ?_
   refine yd X (FS X X X A0) (yd X (O7 (b:=i+4) X X X X Aa A0 A0) (yd X (I1 X X X) (CQ X ?_)));rw [hneq];exact sx_true X (CB X (DO X X (gnr (qx_then_ret (DH X X X X ⟨⟨_,by rw [hno];rfl⟩,hf1⟩)))))
 by_cases g3:224≤a.toNat
 ·have hN:nOf a=3:=by unfold nOf;rw [if_neg A0,if_pos A0]
  have hB:D0 a=((a.toNat:Int)-224:Int):=by unfold D0;rw [if_neg A0,if_pos A0]
  by_cases hlen:l.length<i+3
  ·have hno:EO a r=false:=by unfold EO;rw [hN];simp;omega
   refine CB X (yb X (CQ X (sx_seq (CB X (ya X (DD X X X A0) (yb X (gyq X (gyq X (yd X (BT X X Aa) ?_)))))))));refine yd X (C4 X X X A0) (CQ X (sx_false X (sx_skip (qx_seq (srg (CQ X (CB X (yb X ?_))))))));refine ya X (B8 X X X Aa hc) (ya X (CE (r:=(a.toNat:Int)) X X Bi Bg (J5 ha)) (CQ X (sx_seq (sx_block (CB X (yb X (ya X (B8 X X X Aa hc) (ya X (C4 X X X A0) (CQ X ?_)))))))));refine sx_false X (CB X (yb X (ya X (B8 X X X Aa hc) (ya X (DE X X X A0) (CQ X (sx_true X (srg (CQ X ?_))))))));refine sx_region (yb X (ya X (MN X X X A0) (yb X (sxl_nil (qx_block_normal (qx_seq (sx_seq (CB X (yb X (CZ X X (yb X (ya X (BT X X Aa) (ya X (OX X X X A0) ?_)))))))))))));exact nq (sx_true X (CB X (DO X X (gnr (qx_then_ret (DH X X X X ⟨⟨_,by rw [hno];rfl⟩,Fr.refl⟩))))))
  refine CB X (yb X (CQ X (sx_seq (CB X (ya X (DD X X X A0) (yb X (gyq X (gyq X (yd X (BT X X Aa) ?_)))))))));refine yd X (C4 X X X A0) (CQ X (sx_false X (sx_skip (qx_seq (srg (CQ X (CB X (yb X ?_))))))));refine ya X (B8 X X X Aa hc) (ya X (CE (r:=(a.toNat:Int)) X X Bi Bg (J5 ha)) (CQ X (sx_seq (sx_block (CB X (yb X (ya X (B8 X X X Aa hc) (ya X (C4 X X X A0) (CQ X ?_)))))))));refine sx_false X (CB X (yb X (ya X (B8 X X X Aa hc) (ya X (DE X X X A0) (CQ X (sx_true X (srg (CQ X ?_))))))));refine sx_region (yb X (ya X (MN X X X A0) (yb X (sxl_nil (qx_block_normal (qx_seq (sx_seq (CB X (yb X (CZ X X (yb X (ya X (BT X X Aa) (ya X (II X X X A0) ?_)))))))))))));refine nq (sx_false X (sx_skip (qx_seq (sx_seq (srg (CQ X (sx_block ?_)))))));have h8:more (D0 a) (r.take (1-1))=(a.toNat:Int)-224:=by rw [show r.take (1-1)=[] from rfl,more];exact hB
  refine sx_loop (e0:=[(9,AA 1),(8,AA ((a.toNat:Int)-224)),(7,AA 3),(0,str l),(1,AA (i:Int))]) (λe wr m=>∃(k:Nat),e=[(9,AA (k:Int)),(8,AA (more (D0 a) (r.take (k-1)))),(7,AA 3),(0,str l),(1,AA (i:Int))]∧w=wr∧1≤k∧k≤3∧m=3-k) ⟨1,by rw [h8];rfl,rfl,Ab _,by omega,rfl⟩ ⟨X,X,X,X,X,trivial⟩ ?_;rintro _ _ _ ⟨k,rfl,rfl,hk1,hk2,rfl⟩;have hbnd:=NN (D0 a) hbb (r.take (k-1)) (by rw [Bl];omega)
  generalize hq:more (D0 a) (r.take (k-1))=q at hbnd
  by_cases hkn:k<3
  ·obtain ⟨b,hb⟩:∃b,r[k-1]?=some b:=⟨_,Ao A0⟩
   have hlk:l[i+k]?=some b:=by
    have:=hat k
    rw [show k=(k-1)+1 by omega,Bn,hb] at this
    rw [show i+k=i+(k-1+1) by omega];exact this
   have hbl:=b.toNat_lt
   have hnext:more (D0 a) (r.take (k+1-1))=q*64+(b.toNat:Int)-128:=by
    have:r.take (k+1-1)=r.take (k-1)++[b]:=by
     rw [show k+1-1=(k-1)+1 by omega,Da,hb];rfl
    rw [this,KI,hq]
   have hik:((i:Int)+(k:Int))=((i+k:Nat):Int):=by omega
   refine sx_seq (CB X (yb X (ya X (D4 X X X A0) (nq (sx_true X (sx_skip (qx_seq (sx_seq (sx_block (sx_region (yb X (ya X (cK X X X A0) ?_))))))))))));refine DO X X (yb X (CZ X X (ya X (B8 (m:=i+k) X X (by rw [←hik];rfl) Aa hlk) (ya X (CE (r:=(b.toNat:Int)) X X Bi Bg (J5 hbl)) (CZ X X (ya X (MN X X X A0) (yb X (sxl_nil (qx_block_normal (qx_seq (sx_region (yb X (CZ X X (yb X ?_))))))))))))));exact sxl_nil (fag ⟨k+1,by rw [hnext],rfl,by omega,by omega,rfl⟩)
  obtain rfl:k=3:=by omega
  have hcode:HP a r=q:=by unfold HP;rw [hN];exact hq
  refine sx_seq (CB X (yb X (ya X (DD X X X A0) (nq (sx_false X (sx_exit (qx_then_exit (qx_then_exit (qx_block_hit (qx_seq (srg ?_)))))))))));refine yb X (sxl_call (some 68) (by first|exact wn_none rfl|exact wn_on rfl rfl rfl) X X (AD X X call175) (VB q _ A0) ?_);rintro _ w1 ⟨rfl,hf1⟩;refine cq ?_;have htk:(l.drop i).take (i+3-i)=(a::r).take 3:=by rw [hd];congr 1;omega
  cases hch:E6 q with
  | none=>
   have hno:EO a r=false:=by unfold EO;rw [hcode,hch];simp
   iterate 5 refine yb X ?_
   refine nq (sx_seq (CB X (DO X X ?_)));iterate 8 refine yo X ?_
   exact CQ X (sx_true X (CB X (DO X X (gnr (qx_then_ret (DH X X X X ⟨⟨_,by rw [hno];rfl⟩,hf1⟩))))))
  | some t=>
   rw [show (some t).getD []=t from rfl]
   by_cases hte:t=(a::r).take 3
   ·have hyes:EO a r=true:=by unfold EO;rw [hcode,hch,hN,hte,decide_eq_true (show 3≤r.length+1 by omega),decide_eq_true rfl];rfl
    have hneq:(!decide (t=(l.drop i).take (i+3-i)))=false:=by rw [htk,decide_eq_true hte];rfl
    iterate 5 refine yb X ?_
    refine nq (sx_seq (CB X (DO X X ?_)));iterate 5 refine gyq X ?_
    refine yd X (FS X X X A0) (yd X (O7 (b:=i+3) X X X X Aa A0 A0) (yd X (I1 X X X) (CQ X ?_)));rw [hneq];refine sx_false X (sx_skip (qx_seq (srg ?_)));iterate 5 refine yb X ?_
    exact gnr (DH X X X X ⟨⟨_,by rw [hyes,hN];rfl⟩,hf1⟩)
   have hno:EO a r=false:=by unfold EO;rw [hcode,hch,hN,decide_eq_false (λe=>hte (Bs e)),Ed]
   have hneq:(!decide (t=(l.drop i).take (i+3-i)))=true:=by rw [htk,decide_eq_false hte];rfl
   iterate 5 refine yb X ?_
   refine nq (sx_seq (CB X (DO X X ?_)));iterate 5 refine gyq X ?_
   refine yd X (FS X X X A0) (yd X (O7 (b:=i+3) X X X X Aa A0 A0) (yd X (I1 X X X) (CQ X ?_)));rw [hneq];exact sx_true X (CB X (DO X X (gnr (qx_then_ret (DH X X X X ⟨⟨_,by rw [hno];rfl⟩,hf1⟩)))))
 by_cases g2:192≤a.toNat
 ·have hN:nOf a=2:=by unfold nOf;rw [if_neg A0,if_neg A0,if_pos A0]
  have hB:D0 a=((a.toNat:Int)-192:Int):=by unfold D0;rw [if_neg A0,if_neg A0,if_pos A0]
  by_cases hlen:l.length<i+2
  ·have hno:EO a r=false:=by unfold EO;rw [hN];simp;omega
   refine CB X (yb X (CQ X (sx_seq (CB X (ya X (DD X X X A0) (yb X (gyq X (gyq X (yd X (BT X X Aa) ?_)))))))));refine yd X (C4 X X X A0) (CQ X (sx_false X (sx_skip (qx_seq (srg (CQ X (CB X (yb X ?_))))))));refine ya X (B8 X X X Aa hc) (ya X (CE (r:=(a.toNat:Int)) X X Bi Bg (J5 ha)) (CQ X (sx_seq (sx_block (CB X (yb X (ya X (B8 X X X Aa hc) (ya X (C4 X X X A0) (CQ X ?_)))))))));refine sx_false X (CB X (yb X (ya X (B8 X X X Aa hc) (ya X (C4 X X X A0) (CQ X (sx_false X (CB X (yb X (ya X (B8 X X X Aa hc) ?_)))))))));refine ya X (DE X X X A0) (CQ X (sx_true X (srg (CQ X (sx_region (yb X (ya X (MN X X X A0) (yb X (sxl_nil (qx_block_normal ?_))))))))));refine qx_seq (sx_seq (CB X (yb X (CZ X X (yb X (ya X (BT X X Aa) (ya X (OX X X X A0) (nq (sx_true X (CB X ?_))))))))));exact DO X X (gnr (qx_then_ret (DH X X X X ⟨⟨_,by rw [hno];rfl⟩,Fr.refl⟩)))
  refine CB X (yb X (CQ X (sx_seq (CB X (ya X (DD X X X A0) (yb X (gyq X (gyq X (yd X (BT X X Aa) ?_)))))))));refine yd X (C4 X X X A0) (CQ X (sx_false X (sx_skip (qx_seq (srg (CQ X (CB X (yb X ?_))))))));refine ya X (B8 X X X Aa hc) (ya X (CE (r:=(a.toNat:Int)) X X Bi Bg (J5 ha)) (CQ X (sx_seq (sx_block (CB X (yb X (ya X (B8 X X X Aa hc) (ya X (C4 X X X A0) (CQ X ?_)))))))));refine sx_false X (CB X (yb X (ya X (B8 X X X Aa hc) (ya X (C4 X X X A0) (CQ X (sx_false X (CB X (yb X (ya X (B8 X X X Aa hc) ?_)))))))));refine ya X (DE X X X A0) (CQ X (sx_true X (srg (CQ X (sx_region (yb X (ya X (MN X X X A0) (yb X (sxl_nil (qx_block_normal ?_))))))))));refine qx_seq (sx_seq (CB X (yb X (CZ X X (yb X (ya X (BT X X Aa) (ya X (II X X X A0) (nq (sx_false X (sx_skip (qx_seq (sx_seq ?_))))))))))));refine srg (CQ X (sx_block ?_));have h8:more (D0 a) (r.take (1-1))=(a.toNat:Int)-192:=by rw [show r.take (1-1)=[] from rfl,more];exact hB
  refine sx_loop (e0:=[(9,AA 1),(8,AA ((a.toNat:Int)-192)),(7,AA 2),(0,str l),(1,AA (i:Int))]) (λe wr m=>∃(k:Nat),e=[(9,AA (k:Int)),(8,AA (more (D0 a) (r.take (k-1)))),(7,AA 2),(0,str l),(1,AA (i:Int))]∧w=wr∧1≤k∧k≤2∧m=2-k) ⟨1,by rw [h8];rfl,rfl,Ab _,by omega,rfl⟩ ⟨X,X,X,X,X,trivial⟩ ?_;rintro _ _ _ ⟨k,rfl,rfl,hk1,hk2,rfl⟩;have hbnd:=NN (D0 a) hbb (r.take (k-1)) (by rw [Bl];omega)
  generalize hq:more (D0 a) (r.take (k-1))=q at hbnd
  by_cases hkn:k<2
  ·obtain ⟨b,hb⟩:∃b,r[k-1]?=some b:=⟨_,Ao A0⟩
   have hlk:l[i+k]?=some b:=by
    have:=hat k
    rw [show k=(k-1)+1 by omega,Bn,hb] at this
    rw [show i+k=i+(k-1+1) by omega];exact this
   have hbl:=b.toNat_lt
   have hnext:more (D0 a) (r.take (k+1-1))=q*64+(b.toNat:Int)-128:=by
    have:r.take (k+1-1)=r.take (k-1)++[b]:=by
     rw [show k+1-1=(k-1)+1 by omega,Da,hb];rfl
    rw [this,KI,hq]
   have hik:((i:Int)+(k:Int))=((i+k:Nat):Int):=by omega
   refine sx_seq (CB X (yb X (ya X (D4 X X X A0) (nq (sx_true X (sx_skip (qx_seq (sx_seq (sx_block (sx_region (yb X (ya X (cK X X X A0) ?_))))))))))));refine DO X X (yb X (CZ X X (ya X (B8 (m:=i+k) X X (by rw [←hik];rfl) Aa hlk) (ya X (CE (r:=(b.toNat:Int)) X X Bi Bg (J5 hbl)) (CZ X X (ya X (MN X X X A0) (yb X (sxl_nil (qx_block_normal (qx_seq (sx_region (yb X (CZ X X (yb X ?_))))))))))))));exact sxl_nil (fag ⟨k+1,by rw [hnext],rfl,by omega,by omega,rfl⟩)
  obtain rfl:k=2:=by omega
  have hcode:HP a r=q:=by unfold HP;rw [hN];exact hq
  refine sx_seq (CB X (yb X (ya X (DD X X X A0) (nq (sx_false X (sx_exit (qx_then_exit (qx_then_exit (qx_block_hit (qx_seq (srg ?_)))))))))));refine yb X (sxl_call (some 68) (by first|exact wn_none rfl|exact wn_on rfl rfl rfl) X X (AD X X call175) (VB q _ A0) ?_);rintro _ w1 ⟨rfl,hf1⟩;refine cq ?_;have htk:(l.drop i).take (i+2-i)=(a::r).take 2:=by rw [hd];congr 1;omega
  cases hch:E6 q with
  | none=>
   have hno:EO a r=false:=by unfold EO;rw [hcode,hch];simp
   iterate 5 refine yb X ?_
   refine nq (sx_seq (CB X (DO X X ?_)));iterate 8 refine yo X ?_
   exact CQ X (sx_true X (CB X (DO X X (gnr (qx_then_ret (DH X X X X ⟨⟨_,by rw [hno];rfl⟩,hf1⟩))))))
  | some t=>
   rw [show (some t).getD []=t from rfl]
   by_cases hte:t=(a::r).take 2
   ·have hyes:EO a r=true:=by unfold EO;rw [hcode,hch,hN,hte,decide_eq_true (show 2≤r.length+1 by omega),decide_eq_true rfl];rfl
    have hneq:(!decide (t=(l.drop i).take (i+2-i)))=false:=by rw [htk,decide_eq_true hte];rfl
    iterate 5 refine yb X ?_
    refine nq (sx_seq (CB X (DO X X ?_)));iterate 5 refine gyq X ?_
    refine yd X (FS X X X A0) (yd X (O7 (b:=i+2) X X X X Aa A0 A0) (yd X (I1 X X X) (CQ X ?_)));rw [hneq];refine sx_false X (sx_skip (qx_seq (srg ?_)));iterate 5 refine yb X ?_
    exact gnr (DH X X X X ⟨⟨_,by rw [hyes,hN];rfl⟩,hf1⟩)
   have hno:EO a r=false:=by unfold EO;rw [hcode,hch,hN,decide_eq_false (λe=>hte (Bs e)),Ed]
   have hneq:(!decide (t=(l.drop i).take (i+2-i)))=true:=by rw [htk,decide_eq_false hte];rfl
   iterate 5 refine yb X ?_
   refine nq (sx_seq (CB X (DO X X ?_)));iterate 5 refine gyq X ?_
   refine yd X (FS X X X A0) (yd X (O7 (b:=i+2) X X X X Aa A0 A0) (yd X (I1 X X X) (CQ X ?_)));rw [hneq];exact sx_true X (CB X (DO X X (gnr (qx_then_ret (DH X X X X ⟨⟨_,by rw [hno];rfl⟩,hf1⟩)))))
 have hN:nOf a=1:=by unfold nOf;rw [if_neg A0,if_neg A0,if_neg A0]
 have hB:D0 a=(a.toNat:Int):=by unfold D0;rw [if_neg A0,if_neg A0,if_neg A0]
 by_cases hlen:l.length<i+1
 ·have hno:EO a r=false:=by unfold EO;rw [hN];simp;omega
  refine CB X (yb X (CQ X (sx_seq (CB X (ya X (D4 X X X A0) (yb X ?_))))));iterate 4 refine yo X ?_
  exact CQ X (sx_true X (CB X (DO X X (gnr (qx_then_ret (DH X X X X ⟨⟨_,by rw [hno];rfl⟩,Fr.refl⟩))))))
 refine CB X (yb X (CQ X (sx_seq (CB X (ya X (DD X X X A0) (yb X (gyq X (gyq X (yd X (BT X X Aa) ?_)))))))));refine yd X (C4 X X X A0) (CQ X (sx_false X (sx_skip (qx_seq (srg (CQ X (CB X (yb X ?_))))))));refine ya X (B8 X X X Aa hc) (ya X (CE (r:=(a.toNat:Int)) X X Bi Bg (J5 ha)) (CQ X (sx_seq (sx_block (CB X (yb X (ya X (B8 X X X Aa hc) (ya X (C4 X X X A0) (CQ X ?_)))))))));refine sx_false X (CB X (yb X (ya X (B8 X X X Aa hc) (ya X (C4 X X X A0) (CQ X (sx_false X (CB X (yb X (ya X (B8 X X X Aa hc) ?_)))))))));refine ya X (C4 X X X A0) (CQ X (sx_false X (sx_skip (qx_block_normal (qx_seq (sx_seq (CB X (yb X (CZ X X (yb X (ya X (BT X X Aa) ?_)))))))))));refine ya X (II X X X A0) (nq (sx_false X (sx_skip (qx_seq (sx_seq (srg (CQ X (sx_block ?_))))))));have h8:more (D0 a) (r.take (1-1))=(a.toNat:Int):=by rw [show r.take (1-1)=[] from rfl,more];exact hB
 refine sx_loop (e0:=[(9,AA 1),(8,AA ((a.toNat:Int))),(7,AA 1),(0,str l),(1,AA (i:Int))]) (λe wr m=>∃(k:Nat),e=[(9,AA (k:Int)),(8,AA (more (D0 a) (r.take (k-1)))),(7,AA 1),(0,str l),(1,AA (i:Int))]∧w=wr∧1≤k∧k≤1∧m=1-k) ⟨1,by rw [h8];rfl,rfl,Ab _,by omega,rfl⟩ ⟨X,X,X,X,X,trivial⟩ ?_;rintro _ _ _ ⟨k,rfl,rfl,hk1,hk2,rfl⟩;have hbnd:=NN (D0 a) hbb (r.take (k-1)) (by rw [Bl];omega)
 generalize hq:more (D0 a) (r.take (k-1))=q at hbnd
 by_cases hkn:k<1
 ·obtain ⟨b,hb⟩:∃b,r[k-1]?=some b:=⟨_,Ao A0⟩
  have hlk:l[i+k]?=some b:=by
   have:=hat k
   rw [show k=(k-1)+1 by omega,Bn,hb] at this
   rw [show i+k=i+(k-1+1) by omega];exact this
  have hbl:=b.toNat_lt
  have hnext:more (D0 a) (r.take (k+1-1))=q*64+(b.toNat:Int)-128:=by
   have:r.take (k+1-1)=r.take (k-1)++[b]:=by
    rw [show k+1-1=(k-1)+1 by omega,Da,hb];rfl
   rw [this,KI,hq]
  have hik:((i:Int)+(k:Int))=((i+k:Nat):Int):=by omega
  refine sx_seq (CB X (yb X (ya X (D4 X X X A0) (nq (sx_true X (sx_skip (qx_seq (sx_seq (sx_block (sx_region (yb X (ya X (cK X X X A0) ?_))))))))))));refine DO X X (yb X (CZ X X (ya X (B8 (m:=i+k) X X (by rw [←hik];rfl) Aa hlk) (ya X (CE (r:=(b.toNat:Int)) X X Bi Bg (J5 hbl)) (CZ X X (ya X (MN X X X A0) (yb X (sxl_nil (qx_block_normal (qx_seq (sx_region (yb X (CZ X X (yb X ?_))))))))))))));exact sxl_nil (fag ⟨k+1,by rw [hnext],rfl,by omega,by omega,rfl⟩)
 obtain rfl:k=1:=by omega
 have hcode:HP a r=q:=by unfold HP;rw [hN];exact hq
 refine sx_seq (CB X (yb X (ya X (DD X X X A0) (nq (sx_false X (sx_exit (qx_then_exit (qx_then_exit (qx_block_hit (qx_seq (srg ?_)))))))))));refine yb X (sxl_call (some 68) (by first|exact wn_none rfl|exact wn_on rfl rfl rfl) X X (AD X X call175) (VB q _ A0) ?_);rintro _ w1 ⟨rfl,hf1⟩;refine cq ?_;have htk:(l.drop i).take (i+1-i)=(a::r).take 1:=by rw [hd];congr 1;omega
 cases hch:E6 q with
 | none=>
  have hno:EO a r=false:=by unfold EO;rw [hcode,hch];simp
  iterate 5 refine yb X ?_
  refine nq (sx_seq (CB X (DO X X ?_)));iterate 8 refine yo X ?_
  exact CQ X (sx_true X (CB X (DO X X (gnr (qx_then_ret (DH X X X X ⟨⟨_,by rw [hno];rfl⟩,hf1⟩))))))
 | some t=>
  rw [show (some t).getD []=t from rfl]
  by_cases hte:t=(a::r).take 1
  ·have hyes:EO a r=true:=by unfold EO;rw [hcode,hch,hN,hte,decide_eq_true (show 1≤r.length+1 by omega),decide_eq_true rfl];rfl
   have hneq:(!decide (t=(l.drop i).take (i+1-i)))=false:=by rw [htk,decide_eq_true hte];rfl
   iterate 5 refine yb X ?_
   refine nq (sx_seq (CB X (DO X X ?_)));iterate 5 refine gyq X ?_
   refine yd X (FS X X X A0) (yd X (O7 (b:=i+1) X X X X Aa A0 A0) (yd X (I1 X X X) (CQ X ?_)));rw [hneq];refine sx_false X (sx_skip (qx_seq (srg ?_)));iterate 5 refine yb X ?_
   exact gnr (DH X X X X ⟨⟨_,by rw [hyes,hN];rfl⟩,hf1⟩)
  have hno:EO a r=false:=by unfold EO;rw [hcode,hch,hN,decide_eq_false (λe=>hte (Bs e)),Ed]
  have hneq:(!decide (t=(l.drop i).take (i+1-i)))=true:=by rw [htk,decide_eq_false hte];rfl
  iterate 5 refine yb X ?_
  refine nq (sx_seq (CB X (DO X X ?_)));iterate 5 refine gyq X ?_
  refine yd X (FS X X X A0) (yd X (O7 (b:=i+1) X X X X Aa A0 A0) (yd X (I1 X X X) (CQ X ?_)));rw [hneq];exact sx_true X (CB X (DO X X (gnr (qx_then_ret (DH X X X X ⟨⟨_,by rw [hno];rfl⟩,hf1⟩)))))
theorem Q4 (l:Kz) (w:Kw) (hm:(l.length:Int)<4611686018427387904):Calls prog 63 #[str l] w (BS w (.bool (utf l))):=by
 refine sx_enter (vs:=[_]) func63 X ntmps63 X (V ?_);refine sx_loop (e0:=[(3,AA 0),(0,str l)]) (λe wr m=>∃(i:Nat),e=[(3,AA (i:Int)),(0,str l)]∧Fr0 w wr∧i≤l.length∧utf l=utf (l.drop i)∧m=l.length-i) ⟨0,X,Fr.refl,Ae _,X,X⟩ ⟨X,X,trivial⟩ ?_;rintro _ wr _ ⟨i,rfl,hf,hi,hu,rfl⟩
 by_cases hlt:i<l.length
 ·obtain ⟨a,r,hd⟩:∃a r,l.drop i=a::r:=⟨_,_,Eg hlt⟩
  have hau:=a0b a r;refine V ?_;refine ya X (BT X X Aa) (ya X (D4 X X X A0) (V ?_));refine sxl_call (some 14) (by first|exact wn_none rfl|exact wn_on rfl rfl rfl) X X (AD X X call114) (a2H l i a r hd hm _) ?_;rintro _ w1 ⟨⟨cc,rfl⟩,hf1⟩;refine cq ?_
  cases hok:EO a r with
  | false=>
   have hres:utf l=false:=by rw [hu,hd,wC (a::r) (by simp) (hau.2 hok)]
   refine V ?_;exact gr1 X ⟨by rw [hres],hf.trans hf1⟩
  | true=>
   have hul:=hau.1 hok;have hnn:=sX a;have hle:=wE (a::r)
   have hsum:i+nOf a≤l.length:=by
    have h1:=Ay List.length hd;rw [Bz] at h1
    rw [hul] at hle
    omega
   have hstep:utf l=utf (l.drop (i+nOf a)):=by rw [hu,hd,pW (a::r) (nOf a) A0 hul,←hd,Gc]
   rw [if_pos rfl];refine V ?_;refine CZ X X (V ?_);exact fag ⟨i+nOf a,X,hf.trans hf1,by omega,hstep,rfl⟩
 obtain rfl:i=l.length:=by omega
 have hres:utf l=true:=by rw [hu,Am];rfl
 refine V ?_;refine ya X (BT X X Aa) (ya X (DD X X X A0) (V ?_));exact gr1 X ⟨by rw [hres],hf⟩
def vOk (v:Vl):Bool:=if v.kind=1 then (!v.bool&&decide (v.text=[])) else if v.kind=2 then (decide (v.int=0)&&decide (v.text=[])) else if v.kind=3 then (decide (v.int=0)&&(!v.bool&&(decide (v.text.length≤1024)&&utf v.text))) else false
def chk (v:Vl):Int:=if vOk v then 0 else 1
theorem UB {v:Vl} (h:vOk v=true):chk v=0:=by unfold chk;rw [h];rfl
theorem JQ {v:Vl} (h:vOk v=false):chk v=1:=by unfold chk;rw [h];rfl
theorem PA {k:UInt8} {n:Nat} (h:k≠UInt8.ofNat n):(k.toNat:Int)≠n:=λe=>h (by
 have:k.toNat=n:=by omega
 rw [←this];simp)
theorem JS (v:Vl) (w:Kw) (hm:(v.text.length:Int)<4611686018427387904) (hT:Laid w utfL):Calls prog 38 #[v.val] w (BS w (AA (chk v))):=by
 refine sx_enter (vs:=[_]) func38 X ntmps38 X (V ?_);refine sxl_does (some 1) kw X X (λρ hρ=>LN 61 (.tmp 0) X v.cells (by rw [hρ _ _ rfl];rfl)) ?_;rintro _ w1 ⟨g,rfl,hg1,hg2,hb,hf⟩;have c0:Cell w1.heap g 0 (.int .u8 (v.kind.toNat:Int)):=hb.c 0 X;have c1:Cell w1.heap g 1 (AA v.int):=hb.c 1 X;have c2:Cell w1.heap g 2 (.bool v.bool):=hb.c 2 X;have c3:Cell w1.heap g 3 (str v.text):=hb.c 3 X;have hrd:Rd w1 (some ⟨g,0,none⟩) 4 v.cells:=Rd.ofBlk hb X;have hk:=v.kind.toNat_lt
 by_cases k1:v.kind=1
 ·have k1':(v.kind.toNat:Int)=1:=by rw [k1];rfl
  refine V ?_;refine yl X X (by assumption) (V ?_);refine ya X (DF X X X A0) (V ?_);refine EC 5 (λw'=>Rd w' (some ⟨g,0,none⟩) 4 v.cells∧Cell w'.heap g 1 (AA v.int)) CA ?_;have HS:Rd w1.drew (some ⟨g,0,none⟩) 4 v.cells∧Cell w1.drew.heap g 1 (AA v.int):=⟨hrd,c1⟩;refine oa 0 3 X X HS (λw' hS'=>AI X X hS'.1 Br X FN) (oa 1 3 X X HS (λw' hS'=>yp X) (oa 2 3 X X HS (λw' hS'=>B2 X X (sc X) (by obtain ⟨s1,s2⟩:=hS';assumption)) (BC 3 (some 11) gkr X kw X X (AD X X call65) (nP v.int _) ?_)));rintro _ w2 ⟨rfl,hf2⟩;have HS:Rd w2 (some ⟨g,0,none⟩) 4 v.cells∧Cell w2.heap g 1 (AA v.int):=⟨hrd.fr0 hf2.ofDrew,c1.fr hf2.ofDrew (λhh=>hh)⟩;refine ⟨_,X,λ_=>HS,?_⟩;refine DP 4 gkr X kw X X (gN X X X) HS (RA 5 gkr X X gkr ?_)
  have hsm:v.same ⟨1,v.int,false,[]⟩=vOk v:=by
   unfold Vl.same vOk;rw [if_pos k1,k1]
   cases v.bool<;>simp
  refine V ?_;rw [hsm]
  cases hv:vOk v with
  | true=>
   refine V ?_;exact gr1 X ⟨by rw [UB hv],hf.trans hf2.ofDrew⟩
  | false=>
   refine V ?_;exact gr1 X ⟨by rw [JQ hv],hf.trans hf2.ofDrew⟩
 by_cases k2:v.kind=2
 ·have k1':(v.kind.toNat:Int)≠1:=by rw [k2];decide
  have k2':(v.kind.toNat:Int)=2:=by rw [k2];rfl
  refine V ?_;refine yl X X (by assumption) (V ?_);refine ya X (BP X X X A0) (V ?_);refine ya X (DF X X X A0) (V ?_);refine EC 5 (λw'=>Rd w' (some ⟨g,0,none⟩) 4 v.cells∧Cell w'.heap g 2 (.bool v.bool)) CA ?_;have HS:Rd w1.drew (some ⟨g,0,none⟩) 4 v.cells∧Cell w1.drew.heap g 2 (.bool v.bool):=⟨hrd,c2⟩;refine oa 0 3 X X HS (λw' hS'=>AI X X hS'.1 Br X FN) (oa 1 3 X X HS (λw' hS'=>yp X) (oa 2 3 X X HS (λw' hS'=>B2 X X (sc X) (by obtain ⟨s1,s2⟩:=hS';assumption)) (BC 3 (some 18) gkr X kw X X (AD X X call66) (q8 v.bool _) ?_)));rintro _ w2 ⟨rfl,hf2⟩;have HS:Rd w2 (some ⟨g,0,none⟩) 4 v.cells∧Cell w2.heap g 2 (.bool v.bool):=⟨hrd.fr0 hf2.ofDrew,c2.fr hf2.ofDrew (λhh=>hh)⟩;refine ⟨_,X,λ_=>HS,?_⟩;refine DP 4 gkr X kw X X (gN X X X) HS (RA 5 gkr X X gkr ?_)
  have hsm:v.same ⟨2,0,v.bool,[]⟩=vOk v:=by
   unfold Vl.same vOk;rw [if_neg k1,if_pos k2,k2]
   simp
  refine V ?_;rw [hsm]
  cases hv:vOk v with
  | true=>
   refine V ?_;exact gr1 X ⟨by rw [UB hv],hf.trans hf2.ofDrew⟩
  | false=>
   refine V ?_;exact gr1 X ⟨by rw [JQ hv],hf.trans hf2.ofDrew⟩
 have k1':(v.kind.toNat:Int)≠1:=PA (n:=1) k1;have k2':(v.kind.toNat:Int)≠2:=PA (n:=2) k2
 by_cases k3:v.kind=3
 ·have k3':(v.kind.toNat:Int)=3:=by rw [k3];rfl
  refine V ?_;refine yl X X (by assumption) (V ?_);refine ya X (BP X X X A0) (V ?_);refine ya X (BP X X X A0) (V ?_);refine ya X (DF X X X A0) (V ?_);refine EC 16 (λw'=>Rd w' (some ⟨g,0,none⟩) 4 v.cells∧Cell w'.heap g 3 (str v.text)) CA ?_;have HS:Rd w1.drew (some ⟨g,0,none⟩) 4 v.cells∧Cell w1.drew.heap g 3 (str v.text):=⟨hrd,c3⟩;refine oa 0 3 X X HS (λw' hS'=>AI X X hS'.1 Br X FN) (oa 1 3 X X HS (λw' hS'=>yp X) (oa 2 3 X X HS (λw' hS'=>B2 X X (sc X) (by obtain ⟨s1,s2⟩:=hS';assumption)) (BC 3 (some 25) gkr X kw X X (AD X X call39) (pL v.text _) ?_)));rintro _ w2 ⟨rfl,hf2⟩;have c3':Cell w2.heap g 3 (str v.text):=c3.fr hf2.ofDrew (λhh=>hh);have HS:Rd w2 (some ⟨g,0,none⟩) 4 v.cells∧Cell w2.heap g 3 (str v.text):=⟨hrd.fr0 hf2.ofDrew,c3'⟩;refine ⟨_,X,λ_=>HS,?_⟩;have hw2:Fr0 w w2:=hf.trans hf2.ofDrew
  have hsm:v.same ⟨3,0,false,v.text⟩=(decide (v.int=0) && !v.bool):=by
   unfold Vl.same;rw [k3]
   cases v.bool<;>simp
  have hvk:vOk v=((decide (v.int=0) && !v.bool)&&(decide (v.text.length≤1024)&&utf v.text)):=by
   unfold vOk;rw [if_neg k1,if_neg k2,if_pos k3,Dv]
  refine DP 4 gkr X kw X X (gN X X X) HS ?_;rw [hsm]
  cases ha:(decide (v.int=0) && !v.bool) with
  | false=>
   have hv:vOk v=false:=by rw [hvk,ha];rfl
   refine DP 5 gkr X kw X X (yp X) HS (I9 6 gkr X X X X X X X HS (I9 7 gkr X X X X X X X HS (I9 8 gkr X X X X X X X HS (I9 9 gkr X X X X X X X HS (DP 10 gkr X kw X X (yp X) HS (DP 11 gkr X kw X X (yp X) HS (I9 12 gkr X X X X X X X HS (I9 13 gkr X X X X X X X HS (I9 14 gkr X X X X X X X HS (DP 15 gkr X kw X X (yp X) HS (RA 16 gkr X X gkr (V ?_))))))))))));exact gr1 X ⟨by rw [JQ hv],hw2⟩
  | true=>
   by_cases hl:v.text.length≤1024
   ·skip
    refine DP 5 gkr X kw X X (yp X) HS (DP 6 gkr X kw X X (yp X) HS (DP 7 gkr X kw X X (B2 X X (sc X) (by assumption)) HS (DP 8 gkr X kw X X (BT X X Aa) HS (DP 9 gkr X kw X X (J4 X X X A0) HS (DP 10 gkr X kw X X (yp X) HS (DP 11 gkr X kw X X (yp X) HS (DP 12 gkr X kw X X (yp X) HS (DP 13 gkr X kw X X (B2 X X (sc X) (by assumption)) HS (BC 14 (some 36) gkr X kw X X (AD X X call67) (N9 v.text _ hm (hT.fr hw2)) ?_)))))))));rintro _ w3 ⟨rfl,hf3⟩;have HS:Rd w3 (some ⟨g,0,none⟩) 4 v.cells∧Cell w3.heap g 3 (str v.text):=⟨(hrd.fr0 hf2.ofDrew).fr0 hf3,c3'.fr hf3 (λhh=>hh)⟩;refine ⟨_,X,λ_=>HS,?_⟩;have hv:vOk v=utf v.text:=by rw [hvk,ha];simp [hl]
    rw [←hv];refine DP 15 gkr X kw X X (yp X) HS (RA 16 gkr X X gkr (V ?_))
    cases hq:vOk v with
    | true=>
     refine V ?_;exact gr1 X ⟨by rw [UB hq],hw2.trans hf3⟩
    | false=>
     refine V ?_;exact gr1 X ⟨by rw [JQ hq],hw2.trans hf3⟩
   have hv:vOk v=false:=by rw [hvk,ha];simp [hl]
   refine DP 5 gkr X kw X X (yp X) HS (DP 6 gkr X kw X X (yp X) HS (DP 7 gkr X kw X X (B2 X X (sc X) (by assumption)) HS (DP 8 gkr X kw X X (BT X X Aa) HS (DP 9 gkr X kw X X (DT X X X A0) HS (DP 10 gkr X kw X X (yp X) HS (DP 11 gkr X kw X X (yp X) HS (I9 12 gkr X X X X X X X HS (I9 13 gkr X X X X X X X HS (I9 14 gkr X X X X X X X HS (DP 15 gkr X kw X X (yp X) HS (RA 16 gkr X X gkr (V ?_))))))))))));exact gr1 X ⟨by rw [JQ hv],hw2⟩
 have k3':(v.kind.toNat:Int)≠3:=PA (n:=3) k3;have hv:vOk v=false:=by unfold vOk;rw [if_neg k1,if_neg k2,if_neg k3]
 refine V ?_;refine yl X X (by assumption) (V ?_);refine ya X (BP X X X A0) (V ?_);refine ya X (BP X X X A0) (V ?_);refine ya X (BP X X X A0) (V ?_);exact gr1 X ⟨by rw [JQ hv],hf⟩
theorem P3 (v:Vl) (w:Kw) (hm:(v.text.length:Int)<4611686018427387904):Calls prog 35 #[v.val] w (BS w (AA (chk v))):=by
 refine sx_enter (vs:=[_]) func35 X ntmps35 X (V ?_);refine sxl_does (some 1) kw X X (λρ hρ=>LN 61 (.tmp 0) X v.cells (by rw [hρ _ _ rfl];rfl)) ?_;rintro _ w1 ⟨g,rfl,hg1,hg2,hb,hf⟩;have c0:Cell w1.heap g 0 (.int .u8 (v.kind.toNat:Int)):=hb.c 0 X;have c1:Cell w1.heap g 1 (AA v.int):=hb.c 1 X;have c2:Cell w1.heap g 2 (.bool v.bool):=hb.c 2 X;have c3:Cell w1.heap g 3 (str v.text):=hb.c 3 X;have hk:=v.kind.toNat_lt
 by_cases k1:v.kind=1
 ·have k1':(v.kind.toNat:Int)=1:=by rw [k1];rfl
  have hvk:vOk v=(!v.bool&&decide (v.text=[])):=by unfold vOk;rw [if_pos k1]
  cases hbq:v.bool with
  | true=>
   rw [hbq] at c2
   have hv:vOk v=false:=by rw [hvk,hbq];rfl
   refine V ?_;refine yl X X (by assumption) (V ?_);refine ya X (DF X X X A0) (V ?_);refine yl X X (by assumption) (V ?_);exact gr1 X ⟨by rw [JQ hv],hf⟩
  | false=>
   rw [hbq] at c2
   have hv:vOk v=decide (v.text=[]):=by rw [hvk,hbq];rfl
   refine V ?_;refine yl X X (by assumption) (V ?_);refine ya X (DF X X X A0) (V ?_);refine yl X X (by assumption) (V ?_);refine ym X X (by assumption) (yd X (GI (b:=[]) X X X) (V ?_));rw [←hv]
   cases hq:vOk v with
   | true=>
    refine V ?_;exact gr1 X ⟨by rw [UB hq],hf⟩
   | false=>
    refine V ?_;exact gr1 X ⟨by rw [JQ hq],hf⟩
 by_cases k2:v.kind=2
 ·have k1':(v.kind.toNat:Int)≠1:=by rw [k2];decide
  have k2':(v.kind.toNat:Int)=2:=by rw [k2];rfl
  have hvk:vOk v=(decide (v.int=0)&&decide (v.text=[])):=by unfold vOk;rw [if_neg k1,if_pos k2]
  by_cases hi:v.int=0
  ·have hv:vOk v=decide (v.text=[]):=by rw [hvk];simp [hi]
   refine V ?_;refine yl X X (by assumption) (V ?_);refine ya X (BP X X X A0) (V ?_);refine ya X (DF X X X A0) (V ?_);refine yl X X (by assumption) (ya X (DF X X X A0) (V ?_));refine ym X X (by assumption) (yd X (GI (b:=[]) X X X) (V ?_));rw [←hv]
   cases hq:vOk v with
   | true=>
    refine V ?_;exact gr1 X ⟨by rw [UB hq],hf⟩
   | false=>
    refine V ?_;exact gr1 X ⟨by rw [JQ hq],hf⟩
  have hv:vOk v=false:=by rw [hvk];simp [hi]
  refine V ?_;refine yl X X (by assumption) (V ?_);refine ya X (BP X X X A0) (V ?_);refine ya X (DF X X X A0) (V ?_);refine yl X X (by assumption) (ya X (BP X X X A0) (V ?_));exact gr1 X ⟨by rw [JQ hv],hf⟩
 have k1':(v.kind.toNat:Int)≠1:=PA (n:=1) k1;have k2':(v.kind.toNat:Int)≠2:=PA (n:=2) k2
 by_cases k3:v.kind=3
 ·have k3':(v.kind.toNat:Int)=3:=by rw [k3];rfl
  have hvk:vOk v=(decide (v.int=0)&&(!v.bool&&(decide (v.text.length≤1024)&&utf v.text))):=by unfold vOk;rw [if_neg k1,if_neg k2,if_pos k3]
  by_cases hi:v.int=0
  ·cases hbq:v.bool with
   | true=>
    rw [hbq] at c2
    have hv:vOk v=false:=by rw [hvk,hbq];simp
    refine V ?_;refine yl X X (by assumption) (V ?_);refine ya X (BP X X X A0) (V ?_);refine ya X (BP X X X A0) (V ?_);refine ya X (DF X X X A0) (V ?_);refine yl X X (by assumption) (ya X (DF X X X A0) (V ?_));refine ym X X (by assumption) (V ?_);exact gr1 X ⟨by rw [JQ hv],hf⟩
   | false=>
    rw [hbq] at c2
    by_cases hl:v.text.length≤1024
    ·have hv:vOk v=utf v.text:=by rw [hvk,hbq];simp [hi,hl]
     refine V ?_;refine yl X X (by assumption) (V ?_);refine ya X (BP X X X A0) (V ?_);refine ya X (BP X X X A0) (V ?_);refine ya X (DF X X X A0) (V ?_);refine yl X X (by assumption) (ya X (DF X X X A0) (V ?_));refine ym X X (by assumption) (V ?_);refine ym X X (by assumption) (yd X (BT X X Aa) (yd X (J4 X X X A0) (V ?_)));refine ym X X (by assumption) (sxl_call (some 44) (by first|exact wn_none rfl|exact wn_on rfl rfl rfl) X X (AD X X call63) (Q4 v.text _ hm) ?_);rintro _ w3 ⟨rfl,hf3⟩;refine cq ?_;rw [←hv];refine V ?_
     cases hq:vOk v with
     | true=>
      refine V ?_;exact gr1 X ⟨by rw [UB hq],hf.trans hf3⟩
     | false=>
      refine V ?_;exact gr1 X ⟨by rw [JQ hq],hf.trans hf3⟩
    have hv:vOk v=false:=by rw [hvk];simp [hl]
    refine V ?_;refine yl X X (by assumption) (V ?_);refine ya X (BP X X X A0) (V ?_);refine ya X (BP X X X A0) (V ?_);refine ya X (DF X X X A0) (V ?_);refine yl X X (by assumption) (ya X (DF X X X A0) (V ?_));refine ym X X (by assumption) (V ?_);refine ym X X (by assumption) (yd X (BT X X Aa) (yd X (DT X X X A0) (V ?_)));exact gr1 X ⟨by rw [JQ hv],hf⟩
  have hv:vOk v=false:=by rw [hvk];simp [hi]
  refine V ?_;refine yl X X (by assumption) (V ?_);refine ya X (BP X X X A0) (V ?_);refine ya X (BP X X X A0) (V ?_);refine ya X (DF X X X A0) (V ?_);refine yl X X (by assumption) (ya X (BP X X X A0) (V ?_));exact gr1 X ⟨by rw [JQ hv],hf⟩
 have k3':(v.kind.toNat:Int)≠3:=PA (n:=3) k3;have hv:vOk v=false:=by unfold vOk;rw [if_neg k1,if_neg k2,if_neg k3]
 refine V ?_;refine yl X X (by assumption) (V ?_);refine ya X (BP X X X A0) (V ?_);refine ya X (BP X X X A0) (V ?_);refine ya X (BP X X X A0) (V ?_);exact gr1 X ⟨by rw [JQ hv],hf⟩
end Go.Proofs.YtppmdnmjepkfaaaGreatDoor
