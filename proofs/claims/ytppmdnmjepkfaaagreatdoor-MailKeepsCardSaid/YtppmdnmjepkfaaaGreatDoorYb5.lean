/- Lemmas. -/
import Derived.Test.YtppmdnmjepkfaaaGreatDoorYb4
set_option maxHeartbeats 16000000
set_option maxRecDepth 100000
namespace Go.Proofs.YtppmdnmjepkfaaaGreatDoor
open Go.RowKit
open Tryz
open Decidable renaming decide→O
open Option renaming some→G,none→zx
open Bool renaming true→zz,false→zy
open True renaming intro→zw
open Go.Proofs.Tryz renaming prog→zv
open Go renaming Calls→zt
theorem NH (l:Kz):∀v∈bvs l,v.cells.size=1:=by
 intro v hv;obtain ⟨b,_,rfl⟩:=Cq.1 hv
 rfl
theorem NG : ∀l:Kz,((bvs l).map λv=>v.cells.toList).flatten=bvs l
 | []=>rfl
 | b::l=>by
  show ((bv b).cells.toList)++((bvs l).map λv=>v.cells.toList).flatten=bv b::bvs l
  rw [NG l];rfl
theorem VR (c:Int) (w:Kw) (hc : -1099511627776≤c∧c≤1099511627776):zt zv 175 #[AA c] w (BR w (.tuple #[str ((E7 c).getD []),.bool (E7 c).isSome])):=by
 refine sx_enter (vs:=[_]) func175 X ntmps175 X ?_
 by_cases h0:c<0
 ·have e:E7 c=zx:=by unfold E7;rw [Ac A0]
  refine V ?_;refine ya X (DC X X X A0) (V ?_);exact B1 X X X ⟨by rw [e];rfl,Fr.refl⟩
 by_cases h1:1114111<c
 ·have e:E7 c=zx:=by unfold E7;rw [Ac A0]
  refine V ?_;refine ya X (DI X X X A0) (V ?_);refine yd X (PF X X X A0) (V ?_);exact B1 X X X ⟨by rw [e];rfl,Fr.refl⟩
 obtain ⟨n,rfl⟩:∃n:Nat,c=(n:Int):=⟨c.toNat,A0⟩
 by_cases h2:55296≤(n:Int)∧(n:Int)≤57343
 ·have e:E7 n=zx:=by unfold E7;rw [Ac A0]
  obtain ⟨h2a,h2b⟩:=h2;refine V ?_;refine ya X (DI X X X A0) (V ?_);refine yd X (IP X X X A0) (V ?_);refine yd X (DJ X X X A0) (V ?_);refine yd X (JE X X X A0) (V ?_);exact B1 X X X ⟨by rw [e];rfl,Fr.refl⟩
 by_cases h3:(n:Int)≤127
 ·have e:E7 n=G [UInt8.ofNat n]:=by unfold E7;rw [Ae A0,Ac A0];simp
  have h2a:(n:Int)<55296:=A0
  refine V ?_;refine ya X (DI X X X A0) (V ?_);refine yd X (IP X X X A0) (V ?_);refine yd X (C6 X X X A0) (V ?_);refine ya X (JE X X X A0) (V ?_);refine ya X (CI (r:=((UInt8.ofNat n).toNat:Int)) X X Bm Bo (GL A0)) (sxl_does (G 24) kw X X (λρ hρ=>CX (size:=1) (bvs [UInt8.ofNat n]) (.int .u8 0) hρ X X X X Dh zr AV AV (NH _)) ?_);rintro _ w1 ⟨g,rfl,hg1,hg2,hb,hf⟩;rw [NG] at hb
  have hr:=Rd.ofBlk hb X;refine ya X (VX X X Dh Bo Ad hr) (V ?_);exact B1 X X X ⟨by rw [e];rfl,hf⟩
 by_cases h4:(n:Int)≤2047
 ·have e:E7 n=G [UInt8.ofNat (192+n / 64),UInt8.ofNat (128+n%64)]:=by unfold E7;rw [Ae A0,Ae A0,Ac A0];simp
  have h2a:(n:Int)<55296:=A0
  refine V ?_;refine ya X (DI X X X A0) (V ?_);refine yd X (IP X X X A0) (V ?_);refine yd X (C6 X X X A0) (V ?_);refine ya X (DY X X X A0) (V ?_);refine ya X (JE X X X A0) (V ?_);refine ya X (UC X X X A0 A0) (D3 X X (ya X (CI (r:=((UInt8.ofNat (192+n / 64)).toNat:Int)) X X Bm Bo (GL A0)) (yb X (ya X (UB X X X A0 A0) (D3 X X (ya X (CI (r:=((UInt8.ofNat (128+n%64)).toNat:Int)) X X Bm Bo (GL A0)) (sxl_does (G 37) kw X X (λρ hρ=>CX (size:=1) (bvs [UInt8.ofNat (192+n / 64),UInt8.ofNat (128+n%64)]) (.int .u8 0) hρ X X X X Dh zr AV AV (NH _)) ?_)))))));rintro _ w1 ⟨g,rfl,hg1,hg2,hb,hf⟩;rw [NG] at hb
  have hr:=Rd.ofBlk hb X;refine ya X (VX X X Dh Bo Ad hr) (V ?_);exact B1 X X X ⟨by rw [e];rfl,hf⟩
 by_cases h5:(n:Int)≤65535
 ·have e:E7 n=G [UInt8.ofNat (224+n / 4096),UInt8.ofNat (128+n / 64%64),UInt8.ofNat (128+n%64)]:=by unfold E7;rw [Ae A0,Ae A0,Ae A0,Ac A0];simp
  by_cases h2a:(n:Int)<55296
  ·skip
   refine V ?_;refine ya X (DI X X X A0) (V ?_);refine yd X (IP X X X A0) (V ?_);refine yd X (C6 X X X A0) (V ?_);refine ya X (DY X X X A0) (V ?_);refine ya X (DY X X X A0) (V ?_);refine ya X (JE X X X A0) (V ?_);refine ya X (UC X X X A0 A0) (D3 X X (ya X (CI (r:=((UInt8.ofNat (224+n / 4096)).toNat:Int)) X X Bm Bo (GL A0)) (yb X (ya X (UC X X X A0 A0) (ya X (UB X X X A0 A0) (D3 X X (ya X (CI (r:=((UInt8.ofNat (128+n / 64%64)).toNat:Int)) X X Bm Bo (GL A0)) (yb X (ya X (UB X X X A0 A0) (D3 X X (ya X (CI (r:=((UInt8.ofNat (128+n%64)).toNat:Int)) X X Bm Bo (GL A0)) (sxl_does (G 55) kw X X (λρ hρ=>CX (size:=1) (bvs [UInt8.ofNat (224+n / 4096),UInt8.ofNat (128+n / 64%64),UInt8.ofNat (128+n%64)]) (.int .u8 0) hρ X X X X Dh zr AV AV (NH _)) ?_))))))))))));rintro _ w1 ⟨g,rfl,hg1,hg2,hb,hf⟩;rw [NG] at hb
   have hr:=Rd.ofBlk hb X;refine ya X (VX X X Dh Bo Ad hr) (V ?_);exact B1 X X X ⟨by rw [e];rfl,hf⟩
  have h2b:57343<(n:Int):=A0
  refine V ?_;refine ya X (DI X X X A0) (V ?_);refine yd X (IP X X X A0) (V ?_);refine yd X (DJ X X X A0) (V ?_);refine yd X (DY X X X A0) (V ?_);refine ya X (DY X X X A0) (V ?_);refine ya X (DY X X X A0) (V ?_);refine ya X (JE X X X A0) (V ?_);refine ya X (UC X X X A0 A0) (D3 X X (ya X (CI (r:=((UInt8.ofNat (224+n / 4096)).toNat:Int)) X X Bm Bo (GL A0)) (yb X (ya X (UC X X X A0 A0) (ya X (UB X X X A0 A0) (D3 X X (ya X (CI (r:=((UInt8.ofNat (128+n / 64%64)).toNat:Int)) X X Bm Bo (GL A0)) (yb X (ya X (UB X X X A0 A0) (D3 X X (ya X (CI (r:=((UInt8.ofNat (128+n%64)).toNat:Int)) X X Bm Bo (GL A0)) (sxl_does (G 55) kw X X (λρ hρ=>CX (size:=1) (bvs [UInt8.ofNat (224+n / 4096),UInt8.ofNat (128+n / 64%64),UInt8.ofNat (128+n%64)]) (.int .u8 0) hρ X X X X Dh zr AV AV (NH _)) ?_))))))))))));rintro _ w1 ⟨g,rfl,hg1,hg2,hb,hf⟩;rw [NG] at hb
  have hr:=Rd.ofBlk hb X;refine ya X (VX X X Dh Bo Ad hr) (V ?_);exact B1 X X X ⟨by rw [e];rfl,hf⟩
 have e:E7 n=G [UInt8.ofNat (240+n / 262144),UInt8.ofNat (128+n / 4096%64),UInt8.ofNat (128+n / 64%64),UInt8.ofNat (128+n%64)]:=by unfold E7;rw [Ae A0,Ae A0,Ae A0,Ae A0];simp
 have h2b:57343<(n:Int):=A0
 refine V ?_;refine ya X (DI X X X A0) (V ?_);refine yd X (IP X X X A0) (V ?_);refine yd X (DJ X X X A0) (V ?_);refine yd X (DY X X X A0) (V ?_);refine ya X (DY X X X A0) (V ?_);refine ya X (DY X X X A0) (V ?_);refine ya X (DY X X X A0) (V ?_);refine ya X (UC X X X A0 A0) (D3 X X (ya X (CI (r:=((UInt8.ofNat (240+n / 262144)).toNat:Int)) X X Bm Bo (GL A0)) (yb X (ya X (UC X X X A0 A0) (ya X (UB X X X A0 A0) (D3 X X (ya X (CI (r:=((UInt8.ofNat (128+n / 4096%64)).toNat:Int)) X X Bm Bo (GL A0)) (yb X (ya X (UC X X X A0 A0) (ya X (UB X X X A0 A0) (D3 X X (ya X (CI (r:=((UInt8.ofNat (128+n / 64%64)).toNat:Int)) X X Bm Bo (GL A0)) (yb X (ya X (UB X X X A0 A0) (D3 X X ?_)))))))))))))));refine ya X (CI (r:=((UInt8.ofNat (128+n%64)).toNat:Int)) X X Bm Bo (GL A0)) (sxl_does (G 75) kw X X (λρ hρ=>CX (size:=1) (bvs [UInt8.ofNat (240+n / 262144),UInt8.ofNat (128+n / 4096%64),UInt8.ofNat (128+n / 64%64),UInt8.ofNat (128+n%64)]) (.int .u8 0) hρ X X X X Dh zr AV AV (NH _)) ?_);rintro _ w1 ⟨g,rfl,hg1,hg2,hb,hf⟩;rw [NG] at hb
 have hr:=Rd.ofBlk hb X;refine ya X (VX X X Dh Bo Ad hr) (V ?_);exact B1 X X X ⟨by rw [e];rfl,hf⟩
theorem O1 (c:Int) (hc:0≤c∧c≤255):∀l:Kz,l.length≤3 → -1000000000≤more c l∧more c l≤1000000000
 | [],_=>by simp only [more];omega
 | [x],_=>by have:=x.toNat_lt;simp only [more];omega
 | [x,y],_=>by have:=x.toNat_lt;have:=y.toNat_lt;simp only [more];omega
 | [x,y,z],_=>by have:=x.toNat_lt;have:=y.toNat_lt;have:=z.toNat_lt;simp only [more];omega
 | _::_::_::_::_,h=>by simp only [Al] at h;omega
theorem kS (a:UInt8):0≤D9 a∧D9 a≤255:=by
 have:=a.toNat_lt
 unfold D9
 split
 ·omega
 split
 ·omega
 split<;>omega
theorem uD (a:UInt8):1≤nOf a∧nOf a≤4:=by
 unfold nOf
 split
 ·omega
 split
 ·omega
 split<;>omega
theorem a3u (l:Kz) (i:Nat) (a:UInt8) (r:Kz) (hd:l.drop i=a::r) (hm:(l.length:Int)<4611686018427387904) (w:Kw) :
 zt zv 114 #[str l,AA (i:Int)] w λe w'=>(∃c:Int,e=.returned (.tuple #[AA c,AA (if EP a r then (nOf a:Int) else 0),.bool (EP a r)]))∧Fr0 w w':=by
 have hil:i<l.length:=by
  rcases Gj i l.length with h|h
  ·exact h
  rw [Ji h] at hd;cases hd
 have hrl:r.length+1+i=l.length:=by have:=Bf List.length hd;simp at this;omega
 have hat:∀k,l[i+k]?=(a::r)[k]?:=λk=>by rw [←hd,Ca]
 have hc:l[i]?=G a:=by have:=hat 0;simpa using this
 have ha:=a.toNat_lt;have hbb:=kS a;have hnn:=uD a;refine sx_enter (vs:=[_,_]) func114 X ntmps114 X ?_
 by_cases g4:240≤a.toNat
 ·have hN:nOf a=4:=by unfold nOf;rw [Ac A0]
  have hB:D9 a=((a.toNat:Int)-240:Int):=by unfold D9;rw [Ac A0]
  by_cases hlen:l.length<i+4
  ·have hno:EP a r=zy:=by unfold EP;rw [hN];simp;omega
   refine CL X (yb X (D1 X (sx_seq (CL X (ya X (DI X X X A0) (yb X (gyq X (gyq X (yd X (BT X X Ad) ?_)))))))));refine yd X (C6 X X X A0) (D1 X (sx_false X (sx_skip (qx_seq (srg (D1 X (CL X (yb X ?_))))))));refine ya X (BA X X X Ad hc) (ya X (CI (r:=(a.toNat:Int)) X X Bo Bm (JG ha)) (D1 X (sx_seq (sx_block (CL X (yb X (ya X (BA X X X Ad hc) (ya X (DJ X X X A0) (D1 X ?_)))))))));refine sx_true X (srg (D1 X (sx_region (yb X (ya X (N3 X X X A0) (yb X (sxl_nil (qx_block_normal (qx_seq (sx_seq (srg ?_)))))))))));refine HK X X (D3 X X (yb X (ya X (BT X X Ad) (ya X (PF X X X A0) (nq (sx_true X (CL X (yb X (D1 X ?_)))))))));exact sx_ret (qx_then_ret (DL X X X X ⟨⟨_,by rw [hno];rfl⟩,Fr.refl⟩))
  refine CL X (yb X (D1 X (sx_seq (CL X (ya X (DI X X X A0) (yb X (gyq X (gyq X (yd X (BT X X Ad) ?_)))))))));refine yd X (C6 X X X A0) (D1 X (sx_false X (sx_skip (qx_seq (srg (D1 X (CL X (yb X ?_))))))));refine ya X (BA X X X Ad hc) (ya X (CI (r:=(a.toNat:Int)) X X Bo Bm (JG ha)) (D1 X (sx_seq (sx_block (CL X (yb X (ya X (BA X X X Ad hc) (ya X (DJ X X X A0) (D1 X ?_)))))))));refine sx_true X (srg (D1 X (sx_region (yb X (ya X (N3 X X X A0) (yb X (sxl_nil (qx_block_normal (qx_seq (sx_seq (srg ?_)))))))))));refine HK X X (D3 X X (yb X (ya X (BT X X Ad) (ya X (IP X X X A0) (nq (sx_false X (sx_skip (qx_seq (sx_seq (CL X (sxl_nil ?_)))))))))));refine qx_seq (sx_block ?_);have h8:more (D9 a) (r.take (1-1))=(a.toNat:Int)-240:=by rw [show r.take (1-1)=[] from rfl,more];exact hB
  refine sx_loop (e0:=[(9,AA 1),(8,AA ((a.toNat:Int)-240)),(7,AA 4),(0,str l),(1,AA (i:Int))]) (λe wr m=>∃(k:Nat),e=[(9,AA (k:Int)),(8,AA (more (D9 a) (r.take (k-1)))),(7,AA 4),(0,str l),(1,AA (i:Int))]∧w=wr∧1≤k∧k≤4∧m=4-k) ⟨1,by rw [h8];rfl,rfl,Af _,A0,rfl⟩ ⟨X,X,X,X,X,zw⟩ ?_;rintro _ _ _ ⟨k,rfl,rfl,hk1,hk2,rfl⟩;have hbnd:=O1 (D9 a) hbb (r.take (k-1)) (by rw [Bs];omega)
  generalize hq:more (D9 a) (r.take (k-1))=q at hbnd
  by_cases hkn:k<4
  ·obtain ⟨b,hb⟩:∃b,r[k-1]?=G b:=⟨_,Av A0⟩
   have hlk:l[i+k]?=G b:=by
    have:=hat k
    rw [show k=(k-1)+1 by omega,Bq,hb] at this
    rw [show i+k=i+(k-1+1) by omega];exact this
   have hbl:=b.toNat_lt
   have hnext:more (D9 a) (r.take (k+1-1))=q*64+(b.toNat:Int)-128:=by
    have:r.take (k+1-1)=r.take (k-1)++[b]:=by
     rw [show k+1-1=(k-1)+1 by omega,Dl,hb];rfl
    rw [this,KQ,hq]
   have hik:((i:Int)+(k:Int))=((i+k:Nat):Int):=A0
   refine sx_seq (CL X (yb X (ya X (DC X X X A0) (nq (sx_true X (sx_skip (qx_seq (sx_seq (sx_block (sx_region (yb X (ya X (dD X X X A0) ?_))))))))))));refine HK X X (yb X (D3 X X (ya X (BA (m:=i+k) X X (by rw [←hik];rfl) Ad hlk) (ya X (CI (r:=(b.toNat:Int)) X X Bo Bm (JG hbl)) (D3 X X (ya X (N3 X X X A0) (yb X (sxl_nil (qx_block_normal (qx_seq (sx_region (yb X (D3 X X (yb X ?_))))))))))))));exact sxl_nil (fag ⟨k+1,by rw [hnext],rfl,A0,A0,rfl⟩)
  obtain rfl:k=4:=A0
  have hcode:HW a r=q:=by unfold HW;rw [hN];exact hq
  refine sx_seq (CL X (yb X (ya X (DI X X X A0) (nq (sx_false X (sx_exit (qx_then_exit (qx_then_exit (qx_block_hit (qx_seq (srg ?_)))))))))));refine yb X (sxl_call (G 68) (by first|exact wn_none rfl|exact wn_on rfl rfl rfl) X X (AE X X call175) (VR q _ A0) ?_);rintro _ w1 ⟨rfl,hf1⟩;refine cq ?_;have htk:(l.drop i).take (i+4-i)=(a::r).take 4:=by rw [hd];congr 1;omega
  cases hch:E7 q with
  | none=>
   have hno:EP a r=zy:=by unfold EP;rw [hcode,hch];simp
   iterate 5 refine yb X ?_
   refine nq (sx_seq (CL X (HK X X ?_)));iterate 8 refine yo X ?_
   exact D1 X (sx_true X (CL X (HK X X (gnr (qx_then_ret (DL X X X X ⟨⟨_,by rw [hno];rfl⟩,hf1⟩))))))
  | some t=>
   rw [show (G t).getD []=t from rfl]
   by_cases hte:t=(a::r).take 4
   ·have hyes:EP a r=zz:=by unfold EP;rw [hcode,hch,hN,hte,Bg (show 4≤r.length+1 by omega),Bg rfl];rfl
    have hneq:(!decide (t=(l.drop i).take (i+4-i)))=zy:=by rw [htk,Bg hte];rfl
    iterate 5 refine yb X ?_
    refine nq (sx_seq (CL X (HK X X ?_)));iterate 5 refine gyq X ?_
    refine yd X (GZ X X X A0) (yd X (ON (b:=i+4) X X X X Ad A0 A0) (yd X (IU X X X) (D1 X ?_)));rw [hneq];refine sx_false X (sx_skip (qx_seq (srg ?_)));iterate 5 refine yb X ?_
    exact gnr (DL X X X X ⟨⟨_,by rw [hyes,hN];rfl⟩,hf1⟩)
   have hno:EP a r=zy:=by unfold EP;rw [hcode,hch,hN,Bb (λe=>hte (Bz e)),En]
   have hneq:(!decide (t=(l.drop i).take (i+4-i)))=zz:=by rw [htk,Bb hte];rfl
   iterate 5 refine yb X ?_
   refine nq (sx_seq (CL X (HK X X ?_)));iterate 5 refine gyq X ?_
   refine yd X (GZ X X X A0) (yd X (ON (b:=i+4) X X X X Ad A0 A0) (yd X (IU X X X) (D1 X ?_)));rw [hneq];exact sx_true X (CL X (HK X X (gnr (qx_then_ret (DL X X X X ⟨⟨_,by rw [hno];rfl⟩,hf1⟩)))))
 by_cases g3:224≤a.toNat
 ·have hN:nOf a=3:=by unfold nOf;rw [Ae A0,Ac A0]
  have hB:D9 a=((a.toNat:Int)-224:Int):=by unfold D9;rw [Ae A0,Ac A0]
  by_cases hlen:l.length<i+3
  ·have hno:EP a r=zy:=by unfold EP;rw [hN];simp;omega
   refine CL X (yb X (D1 X (sx_seq (CL X (ya X (DI X X X A0) (yb X (gyq X (gyq X (yd X (BT X X Ad) ?_)))))))));refine yd X (C6 X X X A0) (D1 X (sx_false X (sx_skip (qx_seq (srg (D1 X (CL X (yb X ?_))))))));refine ya X (BA X X X Ad hc) (ya X (CI (r:=(a.toNat:Int)) X X Bo Bm (JG ha)) (D1 X (sx_seq (sx_block (CL X (yb X (ya X (BA X X X Ad hc) (ya X (C6 X X X A0) (D1 X ?_)))))))));refine sx_false X (CL X (yb X (ya X (BA X X X Ad hc) (ya X (DJ X X X A0) (D1 X (sx_true X (srg (D1 X ?_))))))));refine sx_region (yb X (ya X (N3 X X X A0) (yb X (sxl_nil (qx_block_normal (qx_seq (sx_seq (CL X (yb X (D3 X X (yb X (ya X (BT X X Ad) (ya X (PF X X X A0) ?_)))))))))))));exact nq (sx_true X (CL X (HK X X (gnr (qx_then_ret (DL X X X X ⟨⟨_,by rw [hno];rfl⟩,Fr.refl⟩))))))
  refine CL X (yb X (D1 X (sx_seq (CL X (ya X (DI X X X A0) (yb X (gyq X (gyq X (yd X (BT X X Ad) ?_)))))))));refine yd X (C6 X X X A0) (D1 X (sx_false X (sx_skip (qx_seq (srg (D1 X (CL X (yb X ?_))))))));refine ya X (BA X X X Ad hc) (ya X (CI (r:=(a.toNat:Int)) X X Bo Bm (JG ha)) (D1 X (sx_seq (sx_block (CL X (yb X (ya X (BA X X X Ad hc) (ya X (C6 X X X A0) (D1 X ?_)))))))));refine sx_false X (CL X (yb X (ya X (BA X X X Ad hc) (ya X (DJ X X X A0) (D1 X (sx_true X (srg (D1 X ?_))))))));refine sx_region (yb X (ya X (N3 X X X A0) (yb X (sxl_nil (qx_block_normal (qx_seq (sx_seq (CL X (yb X (D3 X X (yb X (ya X (BT X X Ad) (ya X (IP X X X A0) ?_)))))))))))));refine nq (sx_false X (sx_skip (qx_seq (sx_seq (srg (D1 X (sx_block ?_)))))));have h8:more (D9 a) (r.take (1-1))=(a.toNat:Int)-224:=by rw [show r.take (1-1)=[] from rfl,more];exact hB
  refine sx_loop (e0:=[(9,AA 1),(8,AA ((a.toNat:Int)-224)),(7,AA 3),(0,str l),(1,AA (i:Int))]) (λe wr m=>∃(k:Nat),e=[(9,AA (k:Int)),(8,AA (more (D9 a) (r.take (k-1)))),(7,AA 3),(0,str l),(1,AA (i:Int))]∧w=wr∧1≤k∧k≤3∧m=3-k) ⟨1,by rw [h8];rfl,rfl,Af _,A0,rfl⟩ ⟨X,X,X,X,X,zw⟩ ?_;rintro _ _ _ ⟨k,rfl,rfl,hk1,hk2,rfl⟩;have hbnd:=O1 (D9 a) hbb (r.take (k-1)) (by rw [Bs];omega)
  generalize hq:more (D9 a) (r.take (k-1))=q at hbnd
  by_cases hkn:k<3
  ·obtain ⟨b,hb⟩:∃b,r[k-1]?=G b:=⟨_,Av A0⟩
   have hlk:l[i+k]?=G b:=by
    have:=hat k
    rw [show k=(k-1)+1 by omega,Bq,hb] at this
    rw [show i+k=i+(k-1+1) by omega];exact this
   have hbl:=b.toNat_lt
   have hnext:more (D9 a) (r.take (k+1-1))=q*64+(b.toNat:Int)-128:=by
    have:r.take (k+1-1)=r.take (k-1)++[b]:=by
     rw [show k+1-1=(k-1)+1 by omega,Dl,hb];rfl
    rw [this,KQ,hq]
   have hik:((i:Int)+(k:Int))=((i+k:Nat):Int):=A0
   refine sx_seq (CL X (yb X (ya X (DC X X X A0) (nq (sx_true X (sx_skip (qx_seq (sx_seq (sx_block (sx_region (yb X (ya X (dD X X X A0) ?_))))))))))));refine HK X X (yb X (D3 X X (ya X (BA (m:=i+k) X X (by rw [←hik];rfl) Ad hlk) (ya X (CI (r:=(b.toNat:Int)) X X Bo Bm (JG hbl)) (D3 X X (ya X (N3 X X X A0) (yb X (sxl_nil (qx_block_normal (qx_seq (sx_region (yb X (D3 X X (yb X ?_))))))))))))));exact sxl_nil (fag ⟨k+1,by rw [hnext],rfl,A0,A0,rfl⟩)
  obtain rfl:k=3:=A0
  have hcode:HW a r=q:=by unfold HW;rw [hN];exact hq
  refine sx_seq (CL X (yb X (ya X (DI X X X A0) (nq (sx_false X (sx_exit (qx_then_exit (qx_then_exit (qx_block_hit (qx_seq (srg ?_)))))))))));refine yb X (sxl_call (G 68) (by first|exact wn_none rfl|exact wn_on rfl rfl rfl) X X (AE X X call175) (VR q _ A0) ?_);rintro _ w1 ⟨rfl,hf1⟩;refine cq ?_;have htk:(l.drop i).take (i+3-i)=(a::r).take 3:=by rw [hd];congr 1;omega
  cases hch:E7 q with
  | none=>
   have hno:EP a r=zy:=by unfold EP;rw [hcode,hch];simp
   iterate 5 refine yb X ?_
   refine nq (sx_seq (CL X (HK X X ?_)));iterate 8 refine yo X ?_
   exact D1 X (sx_true X (CL X (HK X X (gnr (qx_then_ret (DL X X X X ⟨⟨_,by rw [hno];rfl⟩,hf1⟩))))))
  | some t=>
   rw [show (G t).getD []=t from rfl]
   by_cases hte:t=(a::r).take 3
   ·have hyes:EP a r=zz:=by unfold EP;rw [hcode,hch,hN,hte,Bg (show 3≤r.length+1 by omega),Bg rfl];rfl
    have hneq:(!decide (t=(l.drop i).take (i+3-i)))=zy:=by rw [htk,Bg hte];rfl
    iterate 5 refine yb X ?_
    refine nq (sx_seq (CL X (HK X X ?_)));iterate 5 refine gyq X ?_
    refine yd X (GZ X X X A0) (yd X (ON (b:=i+3) X X X X Ad A0 A0) (yd X (IU X X X) (D1 X ?_)));rw [hneq];refine sx_false X (sx_skip (qx_seq (srg ?_)));iterate 5 refine yb X ?_
    exact gnr (DL X X X X ⟨⟨_,by rw [hyes,hN];rfl⟩,hf1⟩)
   have hno:EP a r=zy:=by unfold EP;rw [hcode,hch,hN,Bb (λe=>hte (Bz e)),En]
   have hneq:(!decide (t=(l.drop i).take (i+3-i)))=zz:=by rw [htk,Bb hte];rfl
   iterate 5 refine yb X ?_
   refine nq (sx_seq (CL X (HK X X ?_)));iterate 5 refine gyq X ?_
   refine yd X (GZ X X X A0) (yd X (ON (b:=i+3) X X X X Ad A0 A0) (yd X (IU X X X) (D1 X ?_)));rw [hneq];exact sx_true X (CL X (HK X X (gnr (qx_then_ret (DL X X X X ⟨⟨_,by rw [hno];rfl⟩,hf1⟩)))))
 by_cases g2:192≤a.toNat
 ·have hN:nOf a=2:=by unfold nOf;rw [Ae A0,Ae A0,Ac A0]
  have hB:D9 a=((a.toNat:Int)-192:Int):=by unfold D9;rw [Ae A0,Ae A0,Ac A0]
  by_cases hlen:l.length<i+2
  ·have hno:EP a r=zy:=by unfold EP;rw [hN];simp;omega
   refine CL X (yb X (D1 X (sx_seq (CL X (ya X (DI X X X A0) (yb X (gyq X (gyq X (yd X (BT X X Ad) ?_)))))))));refine yd X (C6 X X X A0) (D1 X (sx_false X (sx_skip (qx_seq (srg (D1 X (CL X (yb X ?_))))))));refine ya X (BA X X X Ad hc) (ya X (CI (r:=(a.toNat:Int)) X X Bo Bm (JG ha)) (D1 X (sx_seq (sx_block (CL X (yb X (ya X (BA X X X Ad hc) (ya X (C6 X X X A0) (D1 X ?_)))))))));refine sx_false X (CL X (yb X (ya X (BA X X X Ad hc) (ya X (C6 X X X A0) (D1 X (sx_false X (CL X (yb X (ya X (BA X X X Ad hc) ?_)))))))));refine ya X (DJ X X X A0) (D1 X (sx_true X (srg (D1 X (sx_region (yb X (ya X (N3 X X X A0) (yb X (sxl_nil (qx_block_normal ?_))))))))));refine qx_seq (sx_seq (CL X (yb X (D3 X X (yb X (ya X (BT X X Ad) (ya X (PF X X X A0) (nq (sx_true X (CL X ?_))))))))));exact HK X X (gnr (qx_then_ret (DL X X X X ⟨⟨_,by rw [hno];rfl⟩,Fr.refl⟩)))
  refine CL X (yb X (D1 X (sx_seq (CL X (ya X (DI X X X A0) (yb X (gyq X (gyq X (yd X (BT X X Ad) ?_)))))))));refine yd X (C6 X X X A0) (D1 X (sx_false X (sx_skip (qx_seq (srg (D1 X (CL X (yb X ?_))))))));refine ya X (BA X X X Ad hc) (ya X (CI (r:=(a.toNat:Int)) X X Bo Bm (JG ha)) (D1 X (sx_seq (sx_block (CL X (yb X (ya X (BA X X X Ad hc) (ya X (C6 X X X A0) (D1 X ?_)))))))));refine sx_false X (CL X (yb X (ya X (BA X X X Ad hc) (ya X (C6 X X X A0) (D1 X (sx_false X (CL X (yb X (ya X (BA X X X Ad hc) ?_)))))))));refine ya X (DJ X X X A0) (D1 X (sx_true X (srg (D1 X (sx_region (yb X (ya X (N3 X X X A0) (yb X (sxl_nil (qx_block_normal ?_))))))))));refine qx_seq (sx_seq (CL X (yb X (D3 X X (yb X (ya X (BT X X Ad) (ya X (IP X X X A0) (nq (sx_false X (sx_skip (qx_seq (sx_seq ?_))))))))))));refine srg (D1 X (sx_block ?_));have h8:more (D9 a) (r.take (1-1))=(a.toNat:Int)-192:=by rw [show r.take (1-1)=[] from rfl,more];exact hB
  refine sx_loop (e0:=[(9,AA 1),(8,AA ((a.toNat:Int)-192)),(7,AA 2),(0,str l),(1,AA (i:Int))]) (λe wr m=>∃(k:Nat),e=[(9,AA (k:Int)),(8,AA (more (D9 a) (r.take (k-1)))),(7,AA 2),(0,str l),(1,AA (i:Int))]∧w=wr∧1≤k∧k≤2∧m=2-k) ⟨1,by rw [h8];rfl,rfl,Af _,A0,rfl⟩ ⟨X,X,X,X,X,zw⟩ ?_;rintro _ _ _ ⟨k,rfl,rfl,hk1,hk2,rfl⟩;have hbnd:=O1 (D9 a) hbb (r.take (k-1)) (by rw [Bs];omega)
  generalize hq:more (D9 a) (r.take (k-1))=q at hbnd
  by_cases hkn:k<2
  ·obtain ⟨b,hb⟩:∃b,r[k-1]?=G b:=⟨_,Av A0⟩
   have hlk:l[i+k]?=G b:=by
    have:=hat k
    rw [show k=(k-1)+1 by omega,Bq,hb] at this
    rw [show i+k=i+(k-1+1) by omega];exact this
   have hbl:=b.toNat_lt
   have hnext:more (D9 a) (r.take (k+1-1))=q*64+(b.toNat:Int)-128:=by
    have:r.take (k+1-1)=r.take (k-1)++[b]:=by
     rw [show k+1-1=(k-1)+1 by omega,Dl,hb];rfl
    rw [this,KQ,hq]
   have hik:((i:Int)+(k:Int))=((i+k:Nat):Int):=A0
   refine sx_seq (CL X (yb X (ya X (DC X X X A0) (nq (sx_true X (sx_skip (qx_seq (sx_seq (sx_block (sx_region (yb X (ya X (dD X X X A0) ?_))))))))))));refine HK X X (yb X (D3 X X (ya X (BA (m:=i+k) X X (by rw [←hik];rfl) Ad hlk) (ya X (CI (r:=(b.toNat:Int)) X X Bo Bm (JG hbl)) (D3 X X (ya X (N3 X X X A0) (yb X (sxl_nil (qx_block_normal (qx_seq (sx_region (yb X (D3 X X (yb X ?_))))))))))))));exact sxl_nil (fag ⟨k+1,by rw [hnext],rfl,A0,A0,rfl⟩)
  obtain rfl:k=2:=A0
  have hcode:HW a r=q:=by unfold HW;rw [hN];exact hq
  refine sx_seq (CL X (yb X (ya X (DI X X X A0) (nq (sx_false X (sx_exit (qx_then_exit (qx_then_exit (qx_block_hit (qx_seq (srg ?_)))))))))));refine yb X (sxl_call (G 68) (by first|exact wn_none rfl|exact wn_on rfl rfl rfl) X X (AE X X call175) (VR q _ A0) ?_);rintro _ w1 ⟨rfl,hf1⟩;refine cq ?_;have htk:(l.drop i).take (i+2-i)=(a::r).take 2:=by rw [hd];congr 1;omega
  cases hch:E7 q with
  | none=>
   have hno:EP a r=zy:=by unfold EP;rw [hcode,hch];simp
   iterate 5 refine yb X ?_
   refine nq (sx_seq (CL X (HK X X ?_)));iterate 8 refine yo X ?_
   exact D1 X (sx_true X (CL X (HK X X (gnr (qx_then_ret (DL X X X X ⟨⟨_,by rw [hno];rfl⟩,hf1⟩))))))
  | some t=>
   rw [show (G t).getD []=t from rfl]
   by_cases hte:t=(a::r).take 2
   ·have hyes:EP a r=zz:=by unfold EP;rw [hcode,hch,hN,hte,Bg (show 2≤r.length+1 by omega),Bg rfl];rfl
    have hneq:(!decide (t=(l.drop i).take (i+2-i)))=zy:=by rw [htk,Bg hte];rfl
    iterate 5 refine yb X ?_
    refine nq (sx_seq (CL X (HK X X ?_)));iterate 5 refine gyq X ?_
    refine yd X (GZ X X X A0) (yd X (ON (b:=i+2) X X X X Ad A0 A0) (yd X (IU X X X) (D1 X ?_)));rw [hneq];refine sx_false X (sx_skip (qx_seq (srg ?_)));iterate 5 refine yb X ?_
    exact gnr (DL X X X X ⟨⟨_,by rw [hyes,hN];rfl⟩,hf1⟩)
   have hno:EP a r=zy:=by unfold EP;rw [hcode,hch,hN,Bb (λe=>hte (Bz e)),En]
   have hneq:(!decide (t=(l.drop i).take (i+2-i)))=zz:=by rw [htk,Bb hte];rfl
   iterate 5 refine yb X ?_
   refine nq (sx_seq (CL X (HK X X ?_)));iterate 5 refine gyq X ?_
   refine yd X (GZ X X X A0) (yd X (ON (b:=i+2) X X X X Ad A0 A0) (yd X (IU X X X) (D1 X ?_)));rw [hneq];exact sx_true X (CL X (HK X X (gnr (qx_then_ret (DL X X X X ⟨⟨_,by rw [hno];rfl⟩,hf1⟩)))))
 have hN:nOf a=1:=by unfold nOf;rw [Ae A0,Ae A0,Ae A0]
 have hB:D9 a=(a.toNat:Int):=by unfold D9;rw [Ae A0,Ae A0,Ae A0]
 by_cases hlen:l.length<i+1
 ·have hno:EP a r=zy:=by unfold EP;rw [hN];simp;omega
  refine CL X (yb X (D1 X (sx_seq (CL X (ya X (DC X X X A0) (yb X ?_))))));iterate 4 refine yo X ?_
  exact D1 X (sx_true X (CL X (HK X X (gnr (qx_then_ret (DL X X X X ⟨⟨_,by rw [hno];rfl⟩,Fr.refl⟩))))))
 refine CL X (yb X (D1 X (sx_seq (CL X (ya X (DI X X X A0) (yb X (gyq X (gyq X (yd X (BT X X Ad) ?_)))))))));refine yd X (C6 X X X A0) (D1 X (sx_false X (sx_skip (qx_seq (srg (D1 X (CL X (yb X ?_))))))));refine ya X (BA X X X Ad hc) (ya X (CI (r:=(a.toNat:Int)) X X Bo Bm (JG ha)) (D1 X (sx_seq (sx_block (CL X (yb X (ya X (BA X X X Ad hc) (ya X (C6 X X X A0) (D1 X ?_)))))))));refine sx_false X (CL X (yb X (ya X (BA X X X Ad hc) (ya X (C6 X X X A0) (D1 X (sx_false X (CL X (yb X (ya X (BA X X X Ad hc) ?_)))))))));refine ya X (C6 X X X A0) (D1 X (sx_false X (sx_skip (qx_block_normal (qx_seq (sx_seq (CL X (yb X (D3 X X (yb X (ya X (BT X X Ad) ?_)))))))))));refine ya X (IP X X X A0) (nq (sx_false X (sx_skip (qx_seq (sx_seq (srg (D1 X (sx_block ?_))))))));have h8:more (D9 a) (r.take (1-1))=(a.toNat:Int):=by rw [show r.take (1-1)=[] from rfl,more];exact hB
 refine sx_loop (e0:=[(9,AA 1),(8,AA ((a.toNat:Int))),(7,AA 1),(0,str l),(1,AA (i:Int))]) (λe wr m=>∃(k:Nat),e=[(9,AA (k:Int)),(8,AA (more (D9 a) (r.take (k-1)))),(7,AA 1),(0,str l),(1,AA (i:Int))]∧w=wr∧1≤k∧k≤1∧m=1-k) ⟨1,by rw [h8];rfl,rfl,Af _,A0,rfl⟩ ⟨X,X,X,X,X,zw⟩ ?_;rintro _ _ _ ⟨k,rfl,rfl,hk1,hk2,rfl⟩;have hbnd:=O1 (D9 a) hbb (r.take (k-1)) (by rw [Bs];omega)
 generalize hq:more (D9 a) (r.take (k-1))=q at hbnd
 by_cases hkn:k<1
 ·obtain ⟨b,hb⟩:∃b,r[k-1]?=G b:=⟨_,Av A0⟩
  have hlk:l[i+k]?=G b:=by
   have:=hat k
   rw [show k=(k-1)+1 by omega,Bq,hb] at this
   rw [show i+k=i+(k-1+1) by omega];exact this
  have hbl:=b.toNat_lt
  have hnext:more (D9 a) (r.take (k+1-1))=q*64+(b.toNat:Int)-128:=by
   have:r.take (k+1-1)=r.take (k-1)++[b]:=by
    rw [show k+1-1=(k-1)+1 by omega,Dl,hb];rfl
   rw [this,KQ,hq]
  have hik:((i:Int)+(k:Int))=((i+k:Nat):Int):=A0
  refine sx_seq (CL X (yb X (ya X (DC X X X A0) (nq (sx_true X (sx_skip (qx_seq (sx_seq (sx_block (sx_region (yb X (ya X (dD X X X A0) ?_))))))))))));refine HK X X (yb X (D3 X X (ya X (BA (m:=i+k) X X (by rw [←hik];rfl) Ad hlk) (ya X (CI (r:=(b.toNat:Int)) X X Bo Bm (JG hbl)) (D3 X X (ya X (N3 X X X A0) (yb X (sxl_nil (qx_block_normal (qx_seq (sx_region (yb X (D3 X X (yb X ?_))))))))))))));exact sxl_nil (fag ⟨k+1,by rw [hnext],rfl,A0,A0,rfl⟩)
 obtain rfl:k=1:=A0
 have hcode:HW a r=q:=by unfold HW;rw [hN];exact hq
 refine sx_seq (CL X (yb X (ya X (DI X X X A0) (nq (sx_false X (sx_exit (qx_then_exit (qx_then_exit (qx_block_hit (qx_seq (srg ?_)))))))))));refine yb X (sxl_call (G 68) (by first|exact wn_none rfl|exact wn_on rfl rfl rfl) X X (AE X X call175) (VR q _ A0) ?_);rintro _ w1 ⟨rfl,hf1⟩;refine cq ?_;have htk:(l.drop i).take (i+1-i)=(a::r).take 1:=by rw [hd];congr 1;omega
 cases hch:E7 q with
 | none=>
  have hno:EP a r=zy:=by unfold EP;rw [hcode,hch];simp
  iterate 5 refine yb X ?_
  refine nq (sx_seq (CL X (HK X X ?_)));iterate 8 refine yo X ?_
  exact D1 X (sx_true X (CL X (HK X X (gnr (qx_then_ret (DL X X X X ⟨⟨_,by rw [hno];rfl⟩,hf1⟩))))))
 | some t=>
  rw [show (G t).getD []=t from rfl]
  by_cases hte:t=(a::r).take 1
  ·have hyes:EP a r=zz:=by unfold EP;rw [hcode,hch,hN,hte,Bg (show 1≤r.length+1 by omega),Bg rfl];rfl
   have hneq:(!decide (t=(l.drop i).take (i+1-i)))=zy:=by rw [htk,Bg hte];rfl
   iterate 5 refine yb X ?_
   refine nq (sx_seq (CL X (HK X X ?_)));iterate 5 refine gyq X ?_
   refine yd X (GZ X X X A0) (yd X (ON (b:=i+1) X X X X Ad A0 A0) (yd X (IU X X X) (D1 X ?_)));rw [hneq];refine sx_false X (sx_skip (qx_seq (srg ?_)));iterate 5 refine yb X ?_
   exact gnr (DL X X X X ⟨⟨_,by rw [hyes,hN];rfl⟩,hf1⟩)
  have hno:EP a r=zy:=by unfold EP;rw [hcode,hch,hN,Bb (λe=>hte (Bz e)),En]
  have hneq:(!decide (t=(l.drop i).take (i+1-i)))=zz:=by rw [htk,Bb hte];rfl
  iterate 5 refine yb X ?_
  refine nq (sx_seq (CL X (HK X X ?_)));iterate 5 refine gyq X ?_
  refine yd X (GZ X X X A0) (yd X (ON (b:=i+1) X X X X Ad A0 A0) (yd X (IU X X X) (D1 X ?_)));rw [hneq];exact sx_true X (CL X (HK X X (gnr (qx_then_ret (DL X X X X ⟨⟨_,by rw [hno];rfl⟩,hf1⟩)))))
theorem QI (l:Kz) (w:Kw) (hm:(l.length:Int)<4611686018427387904):zt zv 63 #[str l] w (BR w (.bool (utf l))):=by
 refine sx_enter (vs:=[_]) func63 X ntmps63 X (V ?_);refine sx_loop (e0:=[(3,AA 0),(0,str l)]) (λe wr m=>∃(i:Nat),e=[(3,AA (i:Int)),(0,str l)]∧Fr0 w wr∧i≤l.length∧utf l=utf (l.drop i)∧m=l.length-i) ⟨0,X,Fr.refl,Aj _,X,X⟩ ⟨X,X,zw⟩ ?_;rintro _ wr _ ⟨i,rfl,hf,hi,hu,rfl⟩
 by_cases hlt:i<l.length
 ·obtain ⟨a,r,hd⟩:∃a r,l.drop i=a::r:=⟨_,_,Eo hlt⟩
  have hau:=a0S a r;refine V ?_;refine ya X (BT X X Ad) (ya X (DC X X X A0) (V ?_));refine sxl_call (G 14) (by first|exact wn_none rfl|exact wn_on rfl rfl rfl) X X (AE X X call114) (a3u l i a r hd hm _) ?_;rintro _ w1 ⟨⟨cc,rfl⟩,hf1⟩;refine cq ?_
  cases hok:EP a r with
  | false=>
   have hres:utf l=zy:=by rw [hu,hd,xU (a::r) (by simp) (hau.2 hok)]
   refine V ?_;exact gr1 X ⟨by rw [hres],hf.trans hf1⟩
  | true=>
   have hul:=hau.1 hok;have hnn:=uD a;have hle:=xW (a::r)
   have hsum:i+nOf a≤l.length:=by
    have h1:=Bf List.length hd;rw [Ch] at h1
    rw [hul] at hle
    omega
   have hstep:utf l=utf (l.drop (i+nOf a)):=by rw [hu,hd,qY (a::r) (nOf a) A0 hul,←hd,Gl]
   rw [Ac rfl];refine V ?_;refine D3 X X (V ?_);exact fag ⟨i+nOf a,X,hf.trans hf1,A0,hstep,rfl⟩
 obtain rfl:i=l.length:=A0
 have hres:utf l=zz:=by rw [hu,Aq];rfl
 refine V ?_;refine ya X (BT X X Ad) (ya X (DI X X X A0) (V ?_));exact gr1 X ⟨by rw [hres],hf⟩
def vOk (v:Vl):Bool:=if v.kind=1 then (!v.bool&&O (v.text=[])) else if v.kind=2 then (O (v.int=0)&&O (v.text=[])) else if v.kind=3 then (O (v.int=0)&&(!v.bool&&(O (v.text.length≤1024)&&utf v.text))) else zy
def chk (v:Vl):Int:=if vOk v then 0 else 1
theorem UU {v:Vl} (h:vOk v=zz):chk v=0:=by unfold chk;rw [h];rfl
theorem JX {v:Vl} (h:vOk v=zy):chk v=1:=by unfold chk;rw [h];rfl
theorem PT {k:UInt8} {n:Nat} (h:k≠UInt8.ofNat n):(k.toNat:Int)≠n:=λe=>h (by
 have:k.toNat=n:=A0
 rw [←this];simp)
theorem J1 (v:Vl) (w:Kw) (hm:(v.text.length:Int)<4611686018427387904) (hT:Laid w utfL):zt zv 38 #[v.val] w (BR w (AA (chk v))):=by
 refine sx_enter (vs:=[_]) func38 X ntmps38 X (V ?_);refine sxl_does (G 1) kw X X (λρ hρ=>NF 61 (.tmp 0) X v.cells (by rw [hρ _ _ rfl];rfl)) ?_;rintro _ w1 ⟨g,rfl,hg1,hg2,hb,hf⟩;have c0:Cell w1.heap g 0 (.int .u8 (v.kind.toNat:Int)):=hb.c 0 X;have c1:Cell w1.heap g 1 (AA v.int):=hb.c 1 X;have c2:Cell w1.heap g 2 (.bool v.bool):=hb.c 2 X;have c3:Cell w1.heap g 3 (str v.text):=hb.c 3 X;have hrd:Rd w1 (G ⟨g,0,zx⟩) 4 v.cells:=Rd.ofBlk hb X;have hk:=v.kind.toNat_lt
 by_cases k1:v.kind=1
 ·have k1':(v.kind.toNat:Int)=1:=by rw [k1];rfl
  refine V ?_;refine yl X X (by assumption) (V ?_);refine ya X (DK X X X A0) (V ?_);refine EO 5 (λw'=>Rd w' (G ⟨g,0,zx⟩) 4 v.cells∧Cell w'.heap g 1 (AA v.int)) CA ?_;have HS:Rd w1.drew (G ⟨g,0,zx⟩) 4 v.cells∧Cell w1.drew.heap g 1 (AA v.int):=⟨hrd,c1⟩;refine oa 0 3 X X HS (λw' hS'=>AJ X X hS'.1 By X FU) (oa 1 3 X X HS (λw' hS'=>yp X) (oa 2 3 X X HS (λw' hS'=>B3 X X (sc X) (by obtain ⟨s1,s2⟩:=hS';assumption)) (BB 3 (G 11) zr X kw X X (AE X X call65) (oK v.int _) ?_)));rintro _ w2 ⟨rfl,hf2⟩;have HS:Rd w2 (G ⟨g,0,zx⟩) 4 v.cells∧Cell w2.heap g 1 (AA v.int):=⟨hrd.fr0 hf2.ofDrew,c1.fr hf2.ofDrew (λhh=>hh)⟩;refine ⟨_,X,λ_=>HS,?_⟩;refine DV 4 zr X kw X X (iJ X X X) HS (RN 5 zr X X zr ?_)
  have hsm:v.same ⟨1,v.int,zy,[]⟩=vOk v:=by
   unfold Vl.same vOk;rw [Ac k1,k1]
   cases v.bool<;>simp
  refine V ?_;rw [hsm]
  cases hv:vOk v with
  | true=>
   refine V ?_;exact gr1 X ⟨by rw [UU hv],hf.trans hf2.ofDrew⟩
  | false=>
   refine V ?_;exact gr1 X ⟨by rw [JX hv],hf.trans hf2.ofDrew⟩
 by_cases k2:v.kind=2
 ·have k1':(v.kind.toNat:Int)≠1:=by rw [k2];decide
  have k2':(v.kind.toNat:Int)=2:=by rw [k2];rfl
  refine V ?_;refine yl X X (by assumption) (V ?_);refine ya X (BQ X X X A0) (V ?_);refine ya X (DK X X X A0) (V ?_);refine EO 5 (λw'=>Rd w' (G ⟨g,0,zx⟩) 4 v.cells∧Cell w'.heap g 2 (.bool v.bool)) CA ?_;have HS:Rd w1.drew (G ⟨g,0,zx⟩) 4 v.cells∧Cell w1.drew.heap g 2 (.bool v.bool):=⟨hrd,c2⟩;refine oa 0 3 X X HS (λw' hS'=>AJ X X hS'.1 By X FU) (oa 1 3 X X HS (λw' hS'=>yp X) (oa 2 3 X X HS (λw' hS'=>B3 X X (sc X) (by obtain ⟨s1,s2⟩:=hS';assumption)) (BB 3 (G 18) zr X kw X X (AE X X call66) (r9 v.bool _) ?_)));rintro _ w2 ⟨rfl,hf2⟩;have HS:Rd w2 (G ⟨g,0,zx⟩) 4 v.cells∧Cell w2.heap g 2 (.bool v.bool):=⟨hrd.fr0 hf2.ofDrew,c2.fr hf2.ofDrew (λhh=>hh)⟩;refine ⟨_,X,λ_=>HS,?_⟩;refine DV 4 zr X kw X X (iJ X X X) HS (RN 5 zr X X zr ?_)
  have hsm:v.same ⟨2,0,v.bool,[]⟩=vOk v:=by
   unfold Vl.same vOk;rw [Ae k1,Ac k2,k2]
   simp
  refine V ?_;rw [hsm]
  cases hv:vOk v with
  | true=>
   refine V ?_;exact gr1 X ⟨by rw [UU hv],hf.trans hf2.ofDrew⟩
  | false=>
   refine V ?_;exact gr1 X ⟨by rw [JX hv],hf.trans hf2.ofDrew⟩
 have k1':(v.kind.toNat:Int)≠1:=PT (n:=1) k1;have k2':(v.kind.toNat:Int)≠2:=PT (n:=2) k2
 by_cases k3:v.kind=3
 ·have k3':(v.kind.toNat:Int)=3:=by rw [k3];rfl
  refine V ?_;refine yl X X (by assumption) (V ?_);refine ya X (BQ X X X A0) (V ?_);refine ya X (BQ X X X A0) (V ?_);refine ya X (DK X X X A0) (V ?_);refine EO 16 (λw'=>Rd w' (G ⟨g,0,zx⟩) 4 v.cells∧Cell w'.heap g 3 (str v.text)) CA ?_;have HS:Rd w1.drew (G ⟨g,0,zx⟩) 4 v.cells∧Cell w1.drew.heap g 3 (str v.text):=⟨hrd,c3⟩;refine oa 0 3 X X HS (λw' hS'=>AJ X X hS'.1 By X FU) (oa 1 3 X X HS (λw' hS'=>yp X) (oa 2 3 X X HS (λw' hS'=>B3 X X (sc X) (by obtain ⟨s1,s2⟩:=hS';assumption)) (BB 3 (G 25) zr X kw X X (AE X X call39) (dF v.text _) ?_)));rintro _ w2 ⟨rfl,hf2⟩;have c3':Cell w2.heap g 3 (str v.text):=c3.fr hf2.ofDrew (λhh=>hh);have HS:Rd w2 (G ⟨g,0,zx⟩) 4 v.cells∧Cell w2.heap g 3 (str v.text):=⟨hrd.fr0 hf2.ofDrew,c3'⟩;refine ⟨_,X,λ_=>HS,?_⟩;have hw2:Fr0 w w2:=hf.trans hf2.ofDrew
  have hsm:v.same ⟨3,0,zy,v.text⟩=(O (v.int=0) && !v.bool):=by
   unfold Vl.same;rw [k3]
   cases v.bool<;>simp
  have hvk:vOk v=((O (v.int=0) && !v.bool)&&(O (v.text.length≤1024)&&utf v.text)):=by
   unfold vOk;rw [Ae k1,Ae k2,Ac k3,Ef]
  refine DV 4 zr X kw X X (iJ X X X) HS ?_;rw [hsm]
  cases ha:(O (v.int=0) && !v.bool) with
  | false=>
   have hv:vOk v=zy:=by rw [hvk,ha];rfl
   refine DV 5 zr X kw X X (yp X) HS (IG 6 zr X X X X X X X HS (IG 7 zr X X X X X X X HS (IG 8 zr X X X X X X X HS (IG 9 zr X X X X X X X HS (DV 10 zr X kw X X (yp X) HS (DV 11 zr X kw X X (yp X) HS (IG 12 zr X X X X X X X HS (IG 13 zr X X X X X X X HS (IG 14 zr X X X X X X X HS (DV 15 zr X kw X X (yp X) HS (RN 16 zr X X zr (V ?_))))))))))));exact gr1 X ⟨by rw [JX hv],hw2⟩
  | true=>
   by_cases hl:v.text.length≤1024
   ·skip
    refine DV 5 zr X kw X X (yp X) HS (DV 6 zr X kw X X (yp X) HS (DV 7 zr X kw X X (B3 X X (sc X) (by assumption)) HS (DV 8 zr X kw X X (BT X X Ad) HS (DV 9 zr X kw X X (JE X X X A0) HS (DV 10 zr X kw X X (yp X) HS (DV 11 zr X kw X X (yp X) HS (DV 12 zr X kw X X (yp X) HS (DV 13 zr X kw X X (B3 X X (sc X) (by assumption)) HS (BB 14 (G 36) zr X kw X X (AE X X call67) (NQ v.text _ hm (hT.fr hw2)) ?_)))))))));rintro _ w3 ⟨rfl,hf3⟩;have HS:Rd w3 (G ⟨g,0,zx⟩) 4 v.cells∧Cell w3.heap g 3 (str v.text):=⟨(hrd.fr0 hf2.ofDrew).fr0 hf3,c3'.fr hf3 (λhh=>hh)⟩;refine ⟨_,X,λ_=>HS,?_⟩;have hv:vOk v=utf v.text:=by rw [hvk,ha];simp [hl]
    rw [←hv];refine DV 15 zr X kw X X (yp X) HS (RN 16 zr X X zr (V ?_))
    cases hq:vOk v with
    | true=>
     refine V ?_;exact gr1 X ⟨by rw [UU hq],hw2.trans hf3⟩
    | false=>
     refine V ?_;exact gr1 X ⟨by rw [JX hq],hw2.trans hf3⟩
   have hv:vOk v=zy:=by rw [hvk,ha];simp [hl]
   refine DV 5 zr X kw X X (yp X) HS (DV 6 zr X kw X X (yp X) HS (DV 7 zr X kw X X (B3 X X (sc X) (by assumption)) HS (DV 8 zr X kw X X (BT X X Ad) HS (DV 9 zr X kw X X (DY X X X A0) HS (DV 10 zr X kw X X (yp X) HS (DV 11 zr X kw X X (yp X) HS (IG 12 zr X X X X X X X HS (IG 13 zr X X X X X X X HS (IG 14 zr X X X X X X X HS (DV 15 zr X kw X X (yp X) HS (RN 16 zr X X zr (V ?_))))))))))));exact gr1 X ⟨by rw [JX hv],hw2⟩
 have k3':(v.kind.toNat:Int)≠3:=PT (n:=3) k3;have hv:vOk v=zy:=by unfold vOk;rw [Ae k1,Ae k2,Ae k3]
 refine V ?_;refine yl X X (by assumption) (V ?_);refine ya X (BQ X X X A0) (V ?_);refine ya X (BQ X X X A0) (V ?_);refine ya X (BQ X X X A0) (V ?_);exact gr1 X ⟨by rw [JX hv],hf⟩
theorem NA (v:Vl) (w:Kw) (hm:(v.text.length:Int)<4611686018427387904):zt zv 35 #[v.val] w (BR w (AA (chk v))):=by
 refine sx_enter (vs:=[_]) func35 X ntmps35 X (V ?_);refine sxl_does (G 1) kw X X (λρ hρ=>NF 61 (.tmp 0) X v.cells (by rw [hρ _ _ rfl];rfl)) ?_;rintro _ w1 ⟨g,rfl,hg1,hg2,hb,hf⟩;have c0:Cell w1.heap g 0 (.int .u8 (v.kind.toNat:Int)):=hb.c 0 X;have c1:Cell w1.heap g 1 (AA v.int):=hb.c 1 X;have c2:Cell w1.heap g 2 (.bool v.bool):=hb.c 2 X;have c3:Cell w1.heap g 3 (str v.text):=hb.c 3 X;have hk:=v.kind.toNat_lt
 by_cases k1:v.kind=1
 ·have k1':(v.kind.toNat:Int)=1:=by rw [k1];rfl
  have hvk:vOk v=(!v.bool&&O (v.text=[])):=by unfold vOk;rw [Ac k1]
  cases hbq:v.bool with
  | true=>
   rw [hbq] at c2
   have hv:vOk v=zy:=by rw [hvk,hbq];rfl
   refine V ?_;refine yl X X (by assumption) (V ?_);refine ya X (DK X X X A0) (V ?_);refine yl X X (by assumption) (V ?_);exact gr1 X ⟨by rw [JX hv],hf⟩
  | false=>
   rw [hbq] at c2
   have hv:vOk v=O (v.text=[]):=by rw [hvk,hbq];rfl
   refine V ?_;refine yl X X (by assumption) (V ?_);refine ya X (DK X X X A0) (V ?_);refine yl X X (by assumption) (V ?_);refine ym X X (by assumption) (yd X (IV (b:=[]) X X X) (V ?_));rw [←hv]
   cases hq:vOk v with
   | true=>
    refine V ?_;exact gr1 X ⟨by rw [UU hq],hf⟩
   | false=>
    refine V ?_;exact gr1 X ⟨by rw [JX hq],hf⟩
 by_cases k2:v.kind=2
 ·have k1':(v.kind.toNat:Int)≠1:=by rw [k2];decide
  have k2':(v.kind.toNat:Int)=2:=by rw [k2];rfl
  have hvk:vOk v=(O (v.int=0)&&O (v.text=[])):=by unfold vOk;rw [Ae k1,Ac k2]
  by_cases hi:v.int=0
  ·have hv:vOk v=O (v.text=[]):=by rw [hvk];simp [hi]
   refine V ?_;refine yl X X (by assumption) (V ?_);refine ya X (BQ X X X A0) (V ?_);refine ya X (DK X X X A0) (V ?_);refine yl X X (by assumption) (ya X (DK X X X A0) (V ?_));refine ym X X (by assumption) (yd X (IV (b:=[]) X X X) (V ?_));rw [←hv]
   cases hq:vOk v with
   | true=>
    refine V ?_;exact gr1 X ⟨by rw [UU hq],hf⟩
   | false=>
    refine V ?_;exact gr1 X ⟨by rw [JX hq],hf⟩
  have hv:vOk v=zy:=by rw [hvk];simp [hi]
  refine V ?_;refine yl X X (by assumption) (V ?_);refine ya X (BQ X X X A0) (V ?_);refine ya X (DK X X X A0) (V ?_);refine yl X X (by assumption) (ya X (BQ X X X A0) (V ?_));exact gr1 X ⟨by rw [JX hv],hf⟩
 have k1':(v.kind.toNat:Int)≠1:=PT (n:=1) k1;have k2':(v.kind.toNat:Int)≠2:=PT (n:=2) k2
 by_cases k3:v.kind=3
 ·have k3':(v.kind.toNat:Int)=3:=by rw [k3];rfl
  have hvk:vOk v=(O (v.int=0)&&(!v.bool&&(O (v.text.length≤1024)&&utf v.text))):=by unfold vOk;rw [Ae k1,Ae k2,Ac k3]
  by_cases hi:v.int=0
  ·cases hbq:v.bool with
   | true=>
    rw [hbq] at c2
    have hv:vOk v=zy:=by rw [hvk,hbq];simp
    refine V ?_;refine yl X X (by assumption) (V ?_);refine ya X (BQ X X X A0) (V ?_);refine ya X (BQ X X X A0) (V ?_);refine ya X (DK X X X A0) (V ?_);refine yl X X (by assumption) (ya X (DK X X X A0) (V ?_));refine ym X X (by assumption) (V ?_);exact gr1 X ⟨by rw [JX hv],hf⟩
   | false=>
    rw [hbq] at c2
    by_cases hl:v.text.length≤1024
    ·have hv:vOk v=utf v.text:=by rw [hvk,hbq];simp [hi,hl]
     refine V ?_;refine yl X X (by assumption) (V ?_);refine ya X (BQ X X X A0) (V ?_);refine ya X (BQ X X X A0) (V ?_);refine ya X (DK X X X A0) (V ?_);refine yl X X (by assumption) (ya X (DK X X X A0) (V ?_));refine ym X X (by assumption) (V ?_);refine ym X X (by assumption) (yd X (BT X X Ad) (yd X (JE X X X A0) (V ?_)));refine ym X X (by assumption) (sxl_call (G 44) (by first|exact wn_none rfl|exact wn_on rfl rfl rfl) X X (AE X X call63) (QI v.text _ hm) ?_);rintro _ w3 ⟨rfl,hf3⟩;refine cq ?_;rw [←hv];refine V ?_
     cases hq:vOk v with
     | true=>
      refine V ?_;exact gr1 X ⟨by rw [UU hq],hf.trans hf3⟩
     | false=>
      refine V ?_;exact gr1 X ⟨by rw [JX hq],hf.trans hf3⟩
    have hv:vOk v=zy:=by rw [hvk];simp [hl]
    refine V ?_;refine yl X X (by assumption) (V ?_);refine ya X (BQ X X X A0) (V ?_);refine ya X (BQ X X X A0) (V ?_);refine ya X (DK X X X A0) (V ?_);refine yl X X (by assumption) (ya X (DK X X X A0) (V ?_));refine ym X X (by assumption) (V ?_);refine ym X X (by assumption) (yd X (BT X X Ad) (yd X (DY X X X A0) (V ?_)));exact gr1 X ⟨by rw [JX hv],hf⟩
  have hv:vOk v=zy:=by rw [hvk];simp [hi]
  refine V ?_;refine yl X X (by assumption) (V ?_);refine ya X (BQ X X X A0) (V ?_);refine ya X (BQ X X X A0) (V ?_);refine ya X (DK X X X A0) (V ?_);refine yl X X (by assumption) (ya X (BQ X X X A0) (V ?_));exact gr1 X ⟨by rw [JX hv],hf⟩
 have k3':(v.kind.toNat:Int)≠3:=PT (n:=3) k3;have hv:vOk v=zy:=by unfold vOk;rw [Ae k1,Ae k2,Ae k3]
 refine V ?_;refine yl X X (by assumption) (V ?_);refine ya X (BQ X X X A0) (V ?_);refine ya X (BQ X X X A0) (V ?_);refine ya X (BQ X X X A0) (V ?_);exact gr1 X ⟨by rw [JX hv],hf⟩
end Go.Proofs.YtppmdnmjepkfaaaGreatDoor
