/- Lemmas that the last text rests on. Condition: each says its own. -/
import Derived.Test.YtaheakjfkpkefaaGreatDoorZMlq
set_option maxHeartbeats 16000000
set_option maxRecDepth 100000
namespace Go.Proofs.YtaheakjfkpkefaaGreatDoor
open Go.RowKit
open Tryz
def Z2 (l:List Pq):List Int:=l.flatMap λx=>x.i.toks.map λt=>t.id
theorem eP (l:List Pq) (x:Pq):Z2 (l++[x])=Z2 l++x.i.toks.map (λt=>t.id):=by simp [Z2]
def Unl (l:List Int) (i:Nat):Prop := ∀a b x y,a<b→b<i→l[a]?=some x→l[b]?=some y→x≠y
def Unk (l:List Int) (i k:Nat):Prop := ∀a x y,a<k→l[a]?=some x→l[i]?=some y→x≠y
theorem Unl.step {l:List Int} {i:Nat} (h:Unl l i) {k:Nat} (hk:Unk l i k) (hi:k=i):Unl l (i+1):=λa b x y h1 h2 hx hy=>by
 by_cases hb:b=i
 ·subst hb;exact hk a x y A0 hx hy
 ·exact h a b x y h1 A0 hx hy
theorem Unk.step {l:List Int} {i k:Nat} {u v:Int} (h:Unk l i k) (hu:l[i]?=some u) (hv:l[k]?=some v) (hne : ¬u=v):Unk l i (k+1):=λa x y h1 hx hy=>by
 by_cases ha:a=k
 ·subst ha
  obtain rfl:=Option.some.inj (hv.symm.trans hx)
  obtain rfl:=Option.some.inj (hu.symm.trans hy)
  exact λe=>hne e.symm
 ·exact h a x y A0 hx hy
theorem cF {l:List Int} (h:Unl l l.length):l.Nodup:=by
 rw [List.nodup_iff_pairwise_ne,List.pairwise_iff_getElem]
 exact λa b ha hb hab=>h a b _ _ hab hb (List.getElem?_eq_getElem ha) (List.getElem?_eq_getElem hb)
theorem XH (hs:List Ht):lQ hs=.tuple #[.agg (hs.head?.getD zeroHt).cells.toArray,.bool hs.head?.isSome]:=by cases hs<;>rfl
theorem l9 {H G:List Ht} {r:Ht→Ht} (e:H=G.map r) {h0 h1:Ht} {k0 k1:Bool} (a0:h0=H.head?.getD zeroHt) (b0:k0=H.head?.isSome) (a1:h1=G.head?.getD zeroHt) (b1:k1=G.head?.isSome):k0=k1∧(k0=true→h0=r h1):=by
 subst e a0 b0 a1 b1
 cases G with
 | nil=>exact ⟨rfl,λh=>by cases h⟩
 | cons x t=>exact ⟨rfl,λ_=>rfl⟩
theorem lA {G:List Ht} {h1:Ht} {k1:Bool} (a1:h1=G.head?.getD zeroHt) (b1:k1=G.head?.isSome) (h:k1=true):h1 ∈ G:=by
 subst a1 b1
 cases G with
 | nil=>cases h
 | cons x t=>exact List.mem_cons_self
theorem VU {L:List Pa} {n:Nat}:(L.drop n++L.take n).length=L.length:=by rw [List.length_append,List.length_drop,List.length_take];omega
theorem jD {w:World} {L:List Pa} {n:Nat} (h : ∀x ∈ L,PaOk w x) : ∀x ∈ L.drop n++L.take n,PaOk w x:=λx hx=>(List.mem_append.1 hx).elim (λh1=>h x (List.mem_of_mem_drop h1)) (λh1=>h x (List.mem_of_mem_take h1))
theorem qZ : ∀l:List Ht,l.map (Ht.re id)=l
 | []=>rfl
 | a::r=>by rw [List.map_cons,qZ r];rfl
theorem MT {L:List Pa} {n:Nat} (hl:n≤L.length) (hn:((DB L 0).map MV).Nodup) {ss rr:List St} (hs:SsP L ss) (hr:SsP (L.drop n++L.take n) rr) (ap:Pa→Wt→Bool):BY L ap ss=(BY (L.drop n++L.take n) ap rr).map (Ht.re λp=>(p+(n:Int)) % (L.length:Int)):=by
 have hA:(L.take n).length=n:=by rw [List.length_take];omega
 generalize hB:L.drop n=B at *
 generalize hC:L.take n=C at *
 obtain rfl:L=C++B:=by rw [←hB,←hC,List.take_append_drop]
 have:=cI hn hs hr ap
 rwa [qZ,hA] at this
theorem jX {L:List Pa} {l:List Pq} (hm:L.map (λx=>x.i)=l.map (λx=>x.i)) (h:(Z2 l).Nodup):((DB L 0).map MV).Nodup:=by
 have e1:(L.flatMap λx=>x.i.toks.map λt=>t.id)=(L.map (λx=>x.i)).flatMap λi=>i.toks.map λt=>t.id:=by rw [List.flatMap_map]
 have e2:Z2 l=(l.map (λx=>x.i)).flatMap λi=>i.toks.map λt=>t.id:=by rw [List.flatMap_map];rfl
 have e3:=R5 L 0
 rw [e1,hm,←e2] at e3
 exact h.sublist e3
theorem nJ {h0 h1:Ht} {n k N M:Nat} (h:h0=h1.re λp=>(p+(n:Int)) % (N:Int)) (hk:h1.pl=(k:Int)) (hN:N=M):h0.pl=((((k+n) % M:Nat)):Int):=by
 subst hN
 rw [h]
 show (h1.pl+(n:Int)) % (N:Int)=_
 rw [hk]
 simp
theorem NP {H G:List Ht} {p:Int→Int} (e:H=G.map (Ht.re p)) {i:Nat} {a b:Ht} (ha:H[i]?=some a) (hb:G[i]?=some b):a.tok=b.tok∧a.via=b.via:=by
 rw [e,List.getElem?_map,hb] at ha
 obtain rfl:=Option.some.inj ha
 exact ⟨rfl,rfl⟩
theorem qX {H:List Ht} (h:H.Pairwise (λa b=>a.tok<b.tok)) {i:Nat} {z a:Ht} (hz:H[i - 1]?=some z) (ha:H[i]?=some a) (hi:0<i):z.tok<a.tok:=by
 obtain ⟨h1,rfl⟩:=List.getElem?_eq_some_iff.1 hz
 obtain ⟨h2,rfl⟩:=List.getElem?_eq_some_iff.1 ha
 exact List.pairwise_iff_getElem.1 h _ _ h1 h2 A0
theorem oK {base size n c:Nat} {el:TypeId} {A:Option Addr} {xs:List Value} {w:World} (h:w.ownsRow base el size (.slice A n c) n xs):n≤c:=by
 rcases h.2 with ⟨h0,h1⟩ | ⟨g,cap,cur,h1,_,_,h2,_⟩
 ·omega
 ·injection h1 with _ _ h3;rw [h3];exact h2
theorem dH {base size n c:Nat} {el:TypeId} {A:Option Addr} {xs:List Value} {w:World} (h:w.ownsRow base el size (.slice A n c) n xs) (h0:0<n) : ∃g,A=some ⟨g,0,none⟩:=by
 rcases h.2 with ⟨_,h1⟩ | ⟨g,cap,cur,h1,_⟩
 ·omega
 ·injection h1 with h1;exact ⟨g,h1⟩
theorem rN (a:Int) : ∃U:Nat,IntKind.u64.wrap a=(U:Int)∧U<18446744073709551616:=
 ⟨(IntKind.u64.wrap a).toNat,by simp [IntKind.wrap,IntKind.bits,IntKind.signed];omega,by simp [IntKind.wrap,IntKind.bits,IntKind.signed];omega⟩
theorem j7 {w:World} {g n:Nat} {L:List Pa} (h:Rd w (some ⟨g,0,none⟩) (L.length * 6) (AB Pa.cells L)) (hn:n≤L.length):Rd w (some ⟨g,0+n * 6,none⟩) ((L.length - n) * 6) (AB Pa.cells (L.drop n)):=by
 have e:AB Pa.cells L=AB Pa.cells (L.take n)++AB Pa.cells (L.drop n):=by rw [←AV,List.take_append_drop]
 have hl:(AB Pa.cells (L.take n)).length=n * 6:=by rw [FS Pa.len,List.length_take,Nat.min_eq_left hn]
 refine ⟨by rw [FS Pa.len,List.length_drop],λh0=>?_⟩
 obtain ⟨b,off,e1,hc⟩:=h.2 A0
 obtain ⟨rfl,rfl⟩:g=b∧0=off:=by simpa using e1
 refine ⟨g,0+n * 6,rfl,λj u hu=>?_⟩
 have:=hc (n * 6+j) u (by rw [e,List.getElem?_append_right A0,hl,Nat.add_sub_cancel_left];exact hu)
 rwa [←Nat.add_assoc] at this
theorem j6 {w:World} {A:Option Addr} {n:Nat} {L:List Pa} (h:Rd w A (L.length * 6) (AB Pa.cells L)) (hn:n≤L.length):Rd w A (n * 6) (AB Pa.cells (L.take n)):=by
 have e:AB Pa.cells L=AB Pa.cells (L.take n)++AB Pa.cells (L.drop n):=by rw [←AV,List.take_append_drop]
 have hl:(AB Pa.cells (L.take n)).length=n * 6:=by rw [FS Pa.len,List.length_take,Nat.min_eq_left hn]
 refine ⟨hl,λh0=>?_⟩
 obtain ⟨b,off,e1,hc⟩:=h.2 A0
 refine ⟨b,off,e1,λj u hu=>hc j u ?_⟩
 rw [e,List.getElem?_append_left (List.getElem?_eq_some_iff.1 hu).1];exact hu
section
variable {P:Program} {e:Env} {w:World} {o:Oper}
theorem fR {t len cap sz el g:Nat} (k:Nat) {x i:Operand} (ho:o.op=.slice t x (some i) none none) (hx:ev e x=some (.slice (some ⟨g,0,none⟩) len cap)) (hi:ev e i=some (AA (k:Int))) (ht:CU P t=some (el,sz)) (h:k≤len) (hc : ¬cap=k):Y P e o w (.slice (some ⟨g,0+k * sz,none⟩) (len - k) (cap - k)):=by
 have:=ZM (w:=w) k ho hx hi ht h
 rwa [if_neg hc] at this
theorem fS {t t':Nat} {k:IntKind} {a b c:Nat} {x y:Operand} (ho:o.op=.binOp .rem t x y t') (hx:ev e x=some (.int k (a:Int))) (hy:ev e y=some (.int k (b:Int))) (hb:0<b) (hc:a % b=c):Y P e o w (.int k (c:Int)):=by
 have:=tR (P:=P) (w:=w) ho hx hy A0 A0
 rw [show ((a:Int) % (b:Int))=((a % b:Nat):Int) from by omega,hc] at this
 exact this
end
theorem cE (A:Option Addr) (cp:Nat) (l:List Pq) (w:World) (hP:Pqs w A l) (hbig : ∀x ∈ l,x.i.toks.length≤300∧x.m.els.length≤300) (hl:l.length≤8) :
 Calls prog 11 #[.slice A l.length cp] w λe w' => ∃b,e=.returned (.bool b)∧(b=true→(Z2 l).Nodup)∧Fr0 w w':=by
 refine BK func11 ntmps11 rfl λM=>srg (AG rfl (srg (AG rfl (sx_seq (AC rfl (sxl_nil ?_))))))
 refine qx_seq (sx_block ?_)
 have M:=M.nilOwn 3 1
 refine flp [0] (λze e wr mz => ∃(j:Nat) (acc:List Int) (A3:Option Addr) (c3:Nat),e=(3,.slice A3 acc.length c3)::(4,AA (j:Int))::ze∧Mem w AP [As.own w.heap.size 3 1 (.slice A3 acc.length c3) acc.length (AB kZ acc)] wr∧(j≤l.length)∧(acc=Z2 (l.take j))∧(acc.length≤j * 300)∧mz=l.length - j) ⟨0,[],none,0,rfl,M,Nat.zero_le _,rfl,Nat.le_refl _,rfl⟩ ?_
 rintro _ w1 _ ⟨j,acc,A3,c3,rfl,M,hj,hacc,hal,rfl⟩
 refine sx_seq (AC rfl (yb rfl (DA rfl rfl (BH rfl rfl (nq (AF rfl (λh11=>?_) (λh11=>?_)))))))
 ·have h11p:=(odt h11)
  refine sx_skip (qx_seq (sx_seq (sx_block (srg (AG rfl (sx_block ?_))))))
  obtain ⟨x,hx⟩:=BN (l:=l) (i:=j) A0
  obtain ⟨b_x,o_x,hA_x⟩:=B8 (k:=10) A0 ((hP.fr0 M.fr).rd) hx
  have htl:=(hbig _ (List.mem_of_getElem? hx)).1
  refine flp [4,0] (λze e wr mz => ∃(k:Nat) (acc2:List Int) (A4:Option Addr) (c4:Nat),e=(3,.slice A4 acc2.length c4)::(5,AA (k:Int))::ze∧Mem w AP [As.own w.heap.size 3 1 (.slice A4 acc2.length c4) acc2.length (AB kZ acc2)] wr∧(k≤x.i.toks.length)∧(acc2=acc++(x.i.toks.take k).map (λt=>t.id))∧(acc2.length≤j * 300+k)∧mz=x.i.toks.length - k) ⟨0,acc,A3,c3,rfl,M,Nat.zero_le _,(List.append_nil _).symm,by omega,rfl⟩ ?_
  rintro _ w2 _ ⟨k,acc2,A4,c4,rfl,M,hk,hacc2,hal2,rfl⟩
  refine sx_seq (AC rfl (AT rfl rfl (ya rfl (AN j hA_x rfl rfl rfl (sl rfl) A0) (AT rfl rfl (yl rfl rfl (CI Pq.len ((hP.fr0 M.fr).rd) hA_x hx 9 rfl) (DA rfl rfl (BH rfl rfl (nq (AF rfl (λh22=>?_) (λh22=>?_))))))))))
  ·have h22p:=(odt h22)
   refine sx_skip (qx_seq (sx_seq (sx_block (sx_region (AT rfl rfl (yb rfl (ya rfl (AN j hA_x rfl rfl rfl (sl rfl) A0) (AT rfl rfl (yl rfl rfl (CI Pq.len ((hP.fr0 M.fr).rd) hA_x hx 9 rfl) (yb rfl ?_))))))))))
   obtain ⟨y,hy⟩:=BN (l:=x.i.toks) (i:=k) A0
   obtain ⟨b_y,o_y,hA_y⟩:=B8 (k:=9) A0 ((((hP.ok _ (List.mem_of_getElem? hx))).fr0 M.fr).T) hy
   refine ya rfl (AN k hA_y rfl rfl rfl (sl rfl) A0) (yb rfl (ya rfl (B6 rfl rfl (sc rfl) (CI Tk.len ((((hP.ok _ (List.mem_of_getElem? hx))).fr0 M.fr).T) hA_y hy 0 rfl)) (CT M (wn_none rfl) rfl rfl [AA y.id] ([AA y.id]) rfl rfl rfl rfl underlying76 pQ rfl rfl (FR rfl) rfl λg36 w3 hg36 M=>D9 (len':=(acc2++[y.id]).length) (xs':=AB kZ (acc2++[y.id])) M 1 (wn_none rfl) rfl rfl rfl rfl rfl rfl (M.rdBlk 0 rfl rfl) underlying76 l6 rfl AY (CA rfl) (Nat.le_refl _) (Nat.le_refl _) D4 (by unfold maxLen;first | omega | (simp;omega)) (by simp) (by first | exact (AV _ _ _).symm | simp [AB,kZ]) λA37 c37 w4 M=>yb rfl (sxl_nil (qx_block_normal (qx_seq (sx_region (yb rfl (BT rfl rfl (yb rfl (sxl_nil ?_)))))))))))
   refine fag ⟨k+1,acc2++[y.id],A37,c37,rfl,(M.pk [1]),?_,?_,?_,rfl⟩
   ·omega
   ·rw [AK hy,List.map_append,←List.append_assoc,←hacc2];rfl
   ·first
     | omega
     | (simp;omega)
  ·have h22p:=(odf h22)
   refine sx_exit (qx_then_exit (qx_then_exit ?_))
   obtain rfl:k=x.i.toks.length:=by omega
   rw [List.take_length] at hacc2
   refine qx_block_hit (qx_block_normal (qx_seq (sx_region (yb rfl (BT rfl rfl (yb rfl (sxl_nil (fag ⟨j+1,acc2,A4,c4,rfl,M,?_,?_,?_,rfl⟩))))))))
   ·omega
   ·rw [AK hx,eP,←hacc];exact hacc2
   ·omega
 ·have h11p:=(odf h11)
  refine sx_exit (qx_then_exit (qx_then_exit ?_))
  obtain rfl:j=l.length:=by omega
  rw [List.take_length] at hacc
  refine qx_block_hit (qx_seq (sx_seq (srg (AG rfl (sx_block (KB M [3] (λze zF e wr mz => ∃(i:Nat),e=(6,AA (i:Int))::ze∧zF wr∧(i≤acc.length)∧(Unl acc i)∧mz=acc.length - i) ⟨0,rfl,M,Nat.zero_le _,λa b x y h1 h2=>absurd h2 (Nat.not_lt_zero _),rfl⟩ ?_))))))
  rintro _ w5 _ ⟨i,rfl,M,hi,hB,rfl⟩
  refine sx_seq (AC rfl (yb rfl (DA rfl rfl (BH rfl rfl (nq (AF rfl (λh41=>?_) (λh41=>?_)))))))
  ·have h41p:=(odt h41)
   refine sx_skip (qx_seq (sx_seq (sx_block (srg (AG rfl (sx_block (KB M [6,3] (λze zF e wr mz => ∃(k:Nat),e=(7,AA (k:Int))::ze∧zF wr∧(k≤i)∧(Unk acc i k)∧mz=i - k) ⟨0,rfl,M,Nat.zero_le _,λa x y h1=>absurd h1 (Nat.not_lt_zero _),rfl⟩ ?_)))))))
   rintro _ w6 _ ⟨k,rfl,M,hk,hU,rfl⟩
   refine sx_seq (AC rfl (yb rfl (BH rfl rfl (nq (AF rfl (λh46=>?_) (λh46=>?_))))))
   ·have h46p:=(odt h46)
    refine sx_skip (qx_seq (sx_seq (sx_block (sx_seq (EQ CF gkr ?_)))))
    have M:=M.drew
    refine sb rfl (sb rfl ?_)
    obtain ⟨u,hu⟩:=BN (l:=acc) (i:=i) A0
    obtain ⟨b_u,o_u,hA_u⟩:=B8 (k:=1) A0 (M.rdOwn 0 rfl) hu
    refine sa rfl (AN i hA_u rfl rfl rfl (sl rfl) A0) (sd rfl rfl (CI X1 (M.rdOwn 0 rfl) hA_u hu 0 rfl) (sb rfl (sb rfl ?_)))
    obtain ⟨v,hv⟩:=BN (l:=acc) (i:=k) A0
    obtain ⟨b_v,o_v,hA_v⟩:=B8 (k:=1) A0 (M.rdOwn 0 rfl) hv
    refine sa rfl (AN k hA_v rfl rfl rfl (sl rfl) A0) (sd rfl rfl (CI X1 (M.rdOwn 0 rfl) hA_v hv 0 rfl) (sa rfl (BW rfl rfl rfl) (EL (qx_seq (AF rfl (λh57=>?_) (λh57=>?_))))))
    ·refine AC rfl (gnr (qx_block_ret (qx_then_ret (qx_then_ret (qx_block_ret (qx_block_ret (qx_then_ret (qx_then_ret (qx_block_ret (qx_then_ret (gr1 rfl ?_)))))))))))
     exact ⟨false,rfl,λh=>(by cases h),M.fr⟩
    ·have h57p:=(odf h57)
     refine sx_skip (qx_block_normal (qx_seq (sx_region (yb rfl (BT rfl rfl (yb rfl (sxl_nil (fag ⟨k+1,rfl,M,?_,?_,rfl⟩))))))))
     ·omega
     ·exact hU.step (by assumption) (by assumption) h57p
   ·have h46p:=(odf h46)
    refine sx_exit (qx_then_exit (qx_then_exit ?_))
    have hki:k=i:=by omega
    refine qx_block_hit (qx_block_normal (qx_seq (sx_region (yb rfl (BT rfl rfl (yb rfl (sxl_nil (fag ⟨i+1,rfl,M,?_,?_,rfl⟩))))))))
    ·omega
    ·exact hB.step hU hki
  ·have h41p:=(odf h41)
   refine sx_exit (qx_then_exit (qx_then_exit ?_))
   obtain rfl:i=acc.length:=by omega
   exact qx_block_hit (qx_seq (AC rfl (gnr (gr1 rfl ⟨true,rfl,λ_=>hacc▸cF hB,M.fr⟩))))
theorem Q4 (A:Option Addr) (cp:Nat) (l:List Pq) (by_:Int) (q:Mq) (w:World) (hP:Pqs w A l) (hq:MqOk w q) (hY:Lay0 w) :
 Calls prog 4 #[.slice A l.length cp,AA by_,.agg q.cells.toArray] w (BM w (.bool true)):=by
 refine BK func4 ntmps4 rfl λM=>srg (D3 M (wn_none rfl) rfl rfl 26 rfl rfl (q.cells) rfl λg5 w1 hg5 M=>AG rfl (sx_seq (srg (DH M 17 rfl rfl call6 (LX _ (hY.fr0 M.fr)) λw2 M=>AT rfl rfl (gyq rfl (sxl_call (some 21) (wn_on rfl rfl rfl) rfl rfl (AE rfl rfl call7) (eD A cp l _ (hP.fr0 M.fr)) ?_))))))
 rintro _ w3 ⟨rfl,hfw3⟩
 refine ⟨_,rfl,?_⟩
 have M:=M.step hfw3
 refine AT rfl rfl (AD (d:=23) rfl (λh23=>?_) (λh23=>?_))
 ·refine yo rfl (yo rfl (yo rfl (AT rfl rfl (yo rfl (yo rfl (yo rfl (AG rfl (sx_true rfl (srg (DH M 33 rfl rfl call6 (LX _ (hY.fr0 M.fr)) λw4 M=>yb rfl ?_))))))))))
  exact gnr (qx_then_ret (gr1 rfl ⟨rfl,M.fr⟩))
 ·obtain ⟨h8,hbig⟩:=eE h23
  refine gyq rfl (yd rfl (EX rfl rfl (sl rfl)) (yd rfl (BW rfl rfl rfl) (AT rfl rfl (AD (d:=28) rfl (λh28=>?_) (λh28=>?_)))))
  ·refine yo rfl (yo rfl (yo rfl (AG rfl (sx_true rfl (srg (DH M 33 rfl rfl call6 (LX _ (hY.fr0 M.fr)) λw5 M=>yb rfl (gnr (qx_then_ret (gr1 rfl ?_)))))))))
   exact ⟨rfl,M.fr⟩
  ·have h28p:=(odf h28)
   refine gyq rfl (sxl_call (some 30) (wn_on rfl rfl rfl) rfl rfl (AE rfl rfl call11) (cE A cp l _ (hP.fr0 M.fr) hbig h8) ?_)
   rintro _ w6 ⟨bu,rfl,hun,hfw6⟩
   refine ⟨_,rfl,?_⟩
   have M:=M.step hfw6
   refine gyq rfl (AG rfl (AF rfl (λh32=>?_) (λh32=>?_)))
   ·exact srg (DH M 33 rfl rfl call6 (LX _ (hY.fr0 M.fr)) λw7 M=>yb rfl (gnr (qx_then_ret (gr1 rfl ⟨rfl,M.fr⟩))))
   ·have h32p:=(BC h32)
    have hnd:=hun (by simpa using h32)
    refine sx_skip (qx_seq (AC rfl (cl 35 rfl (AE rfl rfl call8) (YM A cp l _ (hP.fr0 M.fr) hbig h8 (hY.fr0 M.fr)) ?_)))
    rintro _ w8 ⟨L,AL,cL,rfl,hoL,hokL,hmL,hlL,hfw8⟩
    refine ⟨_,rfl,?_⟩
    have M:=M.step hfw8
    have hPt:Pts w8 AL L:=⟨K6 hoL,hokL,by omega⟩
    have hLl:=hPt.len
    have hcL:=oK hoL
    obtain ⟨gL,rfl⟩:=dH hoL A0
    have hnds:=jX hmL hnd
    have hB:Blk _ g5 26 q.cells:=M.blk 0 rfl
    have hfw:=M.fr
    replace hY:=hY.fr0 hfw
    replace hq:=hq.fr0 hfw
    clear M
    rename World=>w
    have M:=kC w
    refine AG rfl (AC rfl ?_)
    obtain ⟨U,hU,_⟩:=rN by_
    refine ya rfl (LS rfl rfl underlying3 underlying44 hU) (yb rfl (DA rfl rfl (ya rfl (NH rfl rfl underlying3 underlying44 A0) ?_)))
    obtain ⟨n,hn⟩ : ∃n,U % l.length=n:=⟨_,rfl⟩
    have hnl:n<l.length:=hn▸Nat.mod_lt _ A0
    refine ya rfl (fS rfl rfl rfl A0 hn) (ya rfl (NI rfl rfl underlying44 underlying3 A0) (AG rfl (sx_seq (HT M 10 CF λM=>oc 1 10 rfl rfl M (oc 2 10 rfl rfl M (oa 3 10 rfl rfl M (λ_ M=>fR n rfl rfl rfl (sl rfl) A0 A0) (oc 5 10 rfl rfl M (oc 6 10 rfl rfl M (oa 7 10 rfl rfl M (λ_ M=>qU n rfl rfl rfl (sl rfl) A0) (AZ 0 (some 43) gkr rfl (wn_none rfl) rfl rfl (λρ hρ=>HU 29 36 6 rfl underlying29 ER) ?_))))))))))
    rintro _ w9 ⟨g43,rfl,hg43,_,_,hfw9,ho43⟩
    refine ⟨λ_=>M.step hfw9,?_⟩
    have M:=M.pushOwn hfw9 (Nat.le_refl _) (ho43 _ (Nat.le_refl _))
    refine AZ 4 (some 47) gkr rfl (wn_none rfl) rfl rfl (λρ hρ=>C7 _ _ _ rfl w.heap.size _ _ _ _ underlying29 HX rfl AY _ _ _ (hρ _ _ rfl) (M.own 0 rfl) _ _ _ _ (hρ _ _ rfl) ((j7 (hPt.fr0 M.fr).rd A0)) (DD Pa.cells_one) (by unfold maxLen;first | omega | (simp;omega)) D4 M.fr.size) ?_
    rintro v47 w10 ⟨ho47,hgr47,hvb47⟩
    replace ho47:World.ownsRow w10 w.heap.size 36 6 v47 ((L.drop n).length) (AB Pa.cells (L.drop n)):=by rw [show ((L.drop n).length)=0+(L.length - n) from by first | (simp;done) | (simp;omega),show (AB Pa.cells (L.drop n))=[]++(AB Pa.cells (L.drop n)) from by first | exact AV _ _ _ | simp [AB]];exact ho47
    have M:=M.appOwn 0 rfl ho47 hgr47 hvb47
    obtain ⟨A47,c47,rfl,_⟩:=CO ho47
    refine ⟨λ_=>(M.drop 1),AZ 8 (some 51) gkr rfl (wn_none rfl) rfl rfl (λρ hρ=>C7 _ _ _ rfl w.heap.size _ _ _ _ underlying29 HX rfl AY _ _ _ (hρ _ _ rfl) (M.own 0 rfl) _ _ _ _ (hρ _ _ rfl) ((j6 (hPt.fr0 M.fr).rd A0)) (DD Pa.cells_one) (by unfold maxLen;first | omega | (simp;omega)) D4 M.fr.size) ?_⟩
    rintro v51 w11 ⟨ho51,hgr51,hvb51⟩
    replace ho51:World.ownsRow w11 w.heap.size 36 6 v51 (((L.drop n)++(L.take n)).length) (AB Pa.cells ((L.drop n)++(L.take n))):=by rw [show (((L.drop n)++(L.take n)).length)=((L.drop n).length)+n from by first | (simp;done) | (simp;omega),show (AB Pa.cells ((L.drop n)++(L.take n)))=(AB Pa.cells (L.drop n))++(AB Pa.cells (L.take n)) from by first | exact AV _ _ _ | simp [AB]];exact ho51
    have M:=M.appOwn 0 rfl ho51 hgr51 hvb51
    obtain ⟨A51,c51,rfl,_⟩:=CO ho51
    refine ⟨λ_=>(M.drop 1),oc 9 10 rfl rfl (M.drop 1) (fdn (qx_seq (srg ?_)))⟩
    have hQt:Pts w11 A51 (L.drop n++L.take n):=⟨M.rdOwn 0 rfl,jD (hPt.fr0 M.fr).ok,by rw [VU];omega⟩
    replace hPt:=hPt.fr0 M.fr
    replace hB:=hB.fr0 M.fr
    replace hY:=hY.fr0 M.fr
    replace hq:=hq.fr0 M.fr
    replace hfw:=hfw.trans M.fr
    clear M
    rename World=>w
    have M:=kC w
    refine yb rfl (ya rfl (AI (xs:=[str q.nm,str q.key,.slice q.V q.vars.length q.vc,AA q.un]) rfl rfl (DT (hB.fr0 M.fr) 0 4 rfl rfl) underlying26 rfl PN) (cl 55 rfl (AE rfl rfl call9) (Sf.mfind_ok (some ⟨gL,0,none⟩) cL L q _ (hPt.fr0 M.fr) (hq.fr0 M.fr) (hY.fr0 M.fr)) ?_))
    rintro _ w12 ⟨ss,hss,rfl,hfw12⟩
    rw [XH]
    obtain ⟨h0,hh0⟩ : ∃h,h=(BY L (G8 q) ss).head?.getD zeroHt:=⟨_,rfl⟩
    obtain ⟨ok0,hk0⟩ : ∃b,b=(BY L (G8 q) ss).head?.isSome:=⟨_,rfl⟩
    rw [←hh0,←hk0]
    refine ⟨_,rfl,?_⟩
    have M:=M.step hfw12
    refine AT rfl rfl (yb rfl (CV M rfl FD λg10 w13 hg10 M=>C1 M 0 rfl rfl D5 rfl λw14 M=>AG rfl (AC rfl (ya rfl (AI (xs:=[str q.nm,str q.key,.slice q.V q.vars.length q.vc,AA q.un]) rfl rfl (DT (hB.fr0 M.fr) 0 4 rfl rfl) underlying26 rfl PN) (cl 61 rfl (AE rfl rfl call9) (Sf.mfind_ok A51 c51 (L.drop n++L.take n) q _ (hQt.fr0 M.fr) (hq.fr0 M.fr) (hY.fr0 M.fr)) ?_)))))
    rintro _ w15 ⟨rr,hrr,rfl,hfw15⟩
    rw [XH]
    obtain ⟨h1,hh1⟩ : ∃h,h=(BY (L.drop n++L.take n) (G8 q) rr).head?.getD zeroHt:=⟨_,rfl⟩
    obtain ⟨ok1,hk1⟩ : ∃b,b=(BY (L.drop n++L.take n) (G8 q) rr).head?.isSome:=⟨_,rfl⟩
    rw [←hh1,←hk1]
    have hrel:=l9 (MT A0 hnds hss hrr (G8 q)) hh0 hk0 hh1 hk1
    rw [←hrel.1]
    have hok01:=hrel.1
    replace hrel:=hrel.2
    have hok1:ok0=true→rD (L.drop n++L.take n) h1:=λh=>t8 hQt.ok hrr (lA hh1 hk1 (hok01.symm.trans h))
    refine ⟨_,rfl,?_⟩
    have M:=M.step hfw15
    refine AT rfl rfl (yb rfl (CV M rfl FD λg12 w16 hg12 M=>C1 M 0 rfl rfl D5 rfl λw17 M=>AG rfl (sx_seq (sx_seq (EQ CF gkr ?_)))))
    have M:=M.drew
    refine sb rfl (sb rfl (sa rfl (bW rfl rfl rfl underlying4) (sb rfl (BZ (d:=67) rfl (λh67=>?_) (λh67=>?_)))))
    ·exact absurd h67 (by cases ok0<;>decide)
    ·refine gsg rfl (yp rfl) (gsg rfl (yp rfl) (BZ (d:=69) rfl (λh69=>?_) (λh69=>?_)))
     ·refine gsg rfl (yp rfl) (gsg rfl (B6 rfl rfl (sc rfl) (M.cell 1 rfl rfl)) (gsg rfl (yp rfl) (gsg rfl (B6 rfl rfl (sc rfl) (M.cell 0 rfl rfl)) (gsg rfl (DM rfl rfl rfl) (gsg rfl (yp rfl) (BZ (d:=75) rfl (λh75=>?_) (λh75=>?_)))))))
      ·have h75p:=(odf (BO h75))
       exact absurd (by rw [hrel h69];rfl) h75p
      ·have h75p:=(odt (BC h75))
       refine gsg rfl (yp rfl) (gsg rfl (B6 rfl rfl (sc rfl) (M.cell 1 rfl rfl)) (gsg rfl (yp rfl) (gsg rfl (B6 rfl rfl (sc rfl) (M.cell 0 rfl rfl)) (gsg rfl (ES rfl rfl rfl) (gsg rfl (yp rfl) (gsg rfl (yp rfl) (BZ (d:=82) rfl (λh82=>?_) (λh82=>?_))))))))
       ·have h82p:=(odf (BO h82))
        exact absurd (by rw [hrel h69];rfl) h82p
       ·have h82p:=(odt (BC h82))
        refine gsg rfl (yp rfl) (gsg rfl (B6 rfl rfl (sc rfl) (M.cell 1 rfl rfl)) (gsg rfl (yp rfl) ?_))
        obtain ⟨k1,x1,y1,hk1,_,hx1,_⟩:=hok1 h69
        have hk1l:=(List.getElem?_eq_some_iff.1 hx1).1
        rw [VU] at hk1l
        refine gsg rfl (B6 rfl rfl (sc rfl) (show Cell _ g12 0 (AA (k1:Int)) from hk1▸M.cell 0 rfl rfl)) (gsg rfl (yp rfl) (gsg rfl (I0 rfl rfl rfl A0) (gsg rfl (yp rfl) (gsg rfl (EX rfl rfl (sl rfl)) (gsg rfl (fS rfl rfl rfl A0 rfl) (gsg rfl (DM rfl rfl rfl) (gsg rfl (yp rfl) (gsg rfl (yp rfl) (sb rfl (EL (qx_seq (AF rfl (λh95=>?_) (λh95=>?_)))))))))))))
        ·have h95p:=(odf (BO h95))
         exact absurd (nJ (hrel h69) hk1 hlL) h95p
        ·have h95p:=(odt (BC h95))
         refine sx_skip (qx_seq (AC rfl (yb rfl (yl rfl rfl (Blk.c (hB.fr0 M.fr) 0 rfl) (cl 99 rfl (AE rfl rfl call12) (K0 (some ⟨gL,0,none⟩) cL L q.nm _ (hPt.fr0 M.fr) (hY.fr0 M.fr)) ?_)))))
         rintro _ w18 ⟨sw,AW0,cW0,hsw,rfl,how18,hnW0,hfw18⟩
         refine ⟨_,rfl,?_⟩
         have M:=M.pushOwn hfw18 (Nat.le_refl _) how18
         obtain ⟨W0,hW0⟩ : ∃W,W=(BY L (λ_=>IQ q.nm) sw):=⟨_,rfl⟩
         rw [←hW0] at M hnW0 ⊢
         have hup:=aZ hsw hnds (λ_=>IQ q.nm)
         rw [←hW0] at hup
         refine AG rfl (AC rfl (yb rfl (yl rfl rfl (Blk.c (hB.fr0 M.fr) 0 rfl) (cl 103 rfl (AE rfl rfl call12) (K0 A51 c51 (L.drop n++L.take n) q.nm _ (hQt.fr0 M.fr) (hY.fr0 M.fr)) ?_))))
         rintro _ w19 ⟨rw_,AW1,cW1,hrw_,rfl,how19,hnW1,hfw19⟩
         refine ⟨_,rfl,?_⟩
         have M:=M.pushOwn hfw19 (Nat.le_refl _) how19
         obtain ⟨W1,hW1⟩ : ∃W,W=(BY (L.drop n++L.take n) (λ_=>IQ q.nm) rw_):=⟨_,rfl⟩
         rw [←hW1] at M hnW1 ⊢
         have hmap:=MT A0 hnds hsw hrw_ (λ_=>IQ q.nm)
         rw [←hW0,←hW1] at hmap
         have hlW:W0.length=W1.length:=by rw [hmap,List.length_map]
         refine AG rfl (sx_seq (AC rfl (DA rfl rfl (yb rfl (DA rfl rfl (FA rfl rfl (nq (AF rfl (λh108=>?_) (λh108=>?_)))))))))
         ·have h108p:=(odf (BO h108))
          exact absurd A0 h108p
         ·have h108p:=(odt (BC h108))
          refine sx_skip (qx_seq (sx_seq (srg (AG rfl (sx_block (KB M [15,14] (λze zF e wr mz => ∃(i:Nat),e=(16,AA (i:Int))::ze∧zF wr∧(i≤W0.length)∧mz=W0.length - i) ⟨0,rfl,M,Nat.zero_le _,rfl⟩ ?_))))))
          rintro _ w20 _ ⟨i,rfl,M,hi,rfl⟩
          refine sx_seq (AC rfl (yb rfl (DA rfl rfl (BH rfl rfl (nq (AF rfl (λh112=>?_) (λh112=>?_)))))))
          ·have h112p:=(odt h112)
           refine sx_skip (qx_seq (sx_seq (sx_block (sx_seq (EQ CF gkr ?_)))))
           have M:=M.drew
           refine sb rfl (sb rfl ?_)
           obtain ⟨a,ha⟩:=BN (l:=W0) (i:=i) A0
           obtain ⟨b_a,o_a,hA_a⟩:=B8 (k:=3) A0 (M.rdOwn 1 rfl) ha
           refine sa rfl (AN i hA_a rfl rfl rfl (sl rfl) A0) (sb rfl (sd rfl rfl (CI Ht.len (M.rdOwn 1 rfl) hA_a ha 1 rfl) (sb rfl (sb rfl ?_))))
           obtain ⟨b,hb⟩:=BN (l:=W1) (i:=i) A0
           obtain ⟨b_b,o_b,hA_b⟩:=B8 (k:=3) A0 (M.rdOwn 0 rfl) hb
           refine sa rfl (AN i hA_b rfl rfl rfl (sl rfl) A0) (sb rfl (sd rfl rfl (CI Ht.len (M.rdOwn 0 rfl) hA_b hb 1 rfl) (sa rfl (DM rfl rfl rfl) (sb rfl (BZ (d:=126) rfl (λh126=>?_) (λh126=>?_))))))
           ·have h126p:=(odf (BO h126))
            exact absurd (NP hmap ha hb).1 h126p
           ·have h126p:=(odt (BC h126))
            refine gsg rfl (yp rfl) (gsg rfl (yp rfl) (gsg rfl (AN i hA_a rfl rfl rfl (sl rfl) A0) (gsg rfl (yp rfl) (gsg rfl (B6 rfl rfl (sc rfl) (CI Ht.len (M.rdOwn 1 rfl) hA_a ha 2 rfl)) (gsg rfl (yp rfl) (gsg rfl (yp rfl) (gsg rfl (AN i hA_b rfl rfl rfl (sl rfl) A0) (gsg rfl (yp rfl) (gsg rfl (B6 rfl rfl (sc rfl) (CI Ht.len (M.rdOwn 0 rfl) hA_b hb 2 rfl)) (gsg rfl (ES rfl rfl rfl) (sb rfl (sb rfl (BZ (d:=139) rfl (λh139=>?_) (λh139=>?_))))))))))))))
            ·have h139p:=(odf (BO h139))
             exact absurd (NP hmap ha hb).2 h139p
            ·have h139p:=(odt (BC h139))
             refine gsg rfl (yp rfl) (gsg rfl (FW rfl rfl rfl) (gsg rfl (yp rfl) (BZ (d:=142) rfl (λh142=>?_) (λh142=>?_))))
             ·have h142p:=(odt h142)
              refine gsg rfl (yp rfl) (gsg rfl (yp rfl) (gsg rfl (DL (a:=i) (b:=1) rfl rfl rfl A0 A0) ?_))
              obtain ⟨z,hz⟩:=BN (l:=W0) (i:=i - 1) A0
              obtain ⟨b_z,o_z,hA_z⟩:=B8 (k:=3) A0 (M.rdOwn 1 rfl) hz
              refine gsg rfl (AN (i - 1) hA_z rfl rfl rfl (sl rfl) A0) (gsg rfl (yp rfl) (gsg rfl (B6 rfl rfl (sc rfl) (CI Ht.len (M.rdOwn 1 rfl) hA_z hz 1 rfl)) (gsg rfl (yp rfl) (gsg rfl (yp rfl) (gsg rfl (AN i hA_a rfl rfl rfl (sl rfl) A0) (gsg rfl (yp rfl) (gsg rfl (B6 rfl rfl (sc rfl) (CI Ht.len (M.rdOwn 1 rfl) hA_a ha 1 rfl)) (gsg rfl (FY rfl rfl rfl) (gsg rfl (yp rfl) (sb rfl (EL (qx_seq (AF rfl (λh156=>?_) (λh156=>?_))))))))))))))
              ·have h156p:=(odt h156)
               exact absurd (qX hup hz ha A0) A0
              ·have h156p:=(odf h156)
               refine sx_skip (qx_block_normal (qx_seq (sx_region (yb rfl (BT rfl rfl (yb rfl (sxl_nil (fag ⟨i+1,rfl,M,?_,rfl⟩))))))))
               ·omega
             ·have h142p:=(odf h142)
              iterate 12 refine CE rfl rfl rfl rfl rfl rfl ?_
              refine gsg rfl (yp rfl) (sb rfl (EL (qx_seq (sx_false rfl (sx_skip (qx_block_normal (qx_seq (sx_region (yb rfl (BT rfl rfl (yb rfl (sxl_nil (fag ⟨i+1,rfl,M,?_,rfl⟩)))))))))))))
              ·omega
          ·exact sx_exit (qx_then_exit (qx_then_exit (qx_block_hit (qx_seq (AC rfl (gnr (gr1 rfl ⟨rfl,hfw.trans M.fr⟩)))))))
     ·iterate 6 refine CE rfl rfl rfl rfl rfl rfl ?_
      iterate 5 refine W2 rfl rfl rfl rfl rfl ?_
      refine CE rfl rfl rfl rfl rfl rfl (CE rfl rfl rfl rfl rfl rfl ?_)
      iterate 10 refine W2 rfl rfl rfl rfl rfl ?_
      refine CE rfl rfl rfl rfl rfl rfl (gsg rfl (yp rfl) (sb rfl (EL (qx_seq (sx_false rfl (sx_skip (qx_seq (AC rfl (yb rfl (yl rfl rfl (Blk.c (hB.fr0 M.fr) 0 rfl) (cl 99 rfl (AE rfl rfl call12) (K0 (some ⟨gL,0,none⟩) cL L q.nm _ (hPt.fr0 M.fr) (hY.fr0 M.fr)) ?_)))))))))))
      rintro _ w21 ⟨sw,AW0,cW0,hsw,rfl,how21,hnW0,hfw21⟩
      refine ⟨_,rfl,?_⟩
      have M:=M.pushOwn hfw21 (Nat.le_refl _) how21
      obtain ⟨W0,hW0⟩ : ∃W,W=(BY L (λ_=>IQ q.nm) sw):=⟨_,rfl⟩
      rw [←hW0] at M hnW0 ⊢
      have hup:=aZ hsw hnds (λ_=>IQ q.nm)
      rw [←hW0] at hup
      refine AG rfl (AC rfl (yb rfl (yl rfl rfl (Blk.c (hB.fr0 M.fr) 0 rfl) (cl 103 rfl (AE rfl rfl call12) (K0 A51 c51 (L.drop n++L.take n) q.nm _ (hQt.fr0 M.fr) (hY.fr0 M.fr)) ?_))))
      rintro _ w22 ⟨rw_,AW1,cW1,hrw_,rfl,how22,hnW1,hfw22⟩
      refine ⟨_,rfl,?_⟩
      have M:=M.pushOwn hfw22 (Nat.le_refl _) how22
      obtain ⟨W1,hW1⟩ : ∃W,W=(BY (L.drop n++L.take n) (λ_=>IQ q.nm) rw_):=⟨_,rfl⟩
      rw [←hW1] at M hnW1 ⊢
      have hmap:=MT A0 hnds hsw hrw_ (λ_=>IQ q.nm)
      rw [←hW0,←hW1] at hmap
      have hlW:W0.length=W1.length:=by rw [hmap,List.length_map]
      refine AG rfl (sx_seq (AC rfl (DA rfl rfl (yb rfl (DA rfl rfl (FA rfl rfl (nq (AF rfl (λh108=>?_) (λh108=>?_)))))))))
      ·have h108p:=(odf (BO h108))
       exact absurd A0 h108p
      ·have h108p:=(odt (BC h108))
       refine sx_skip (qx_seq (sx_seq (srg (AG rfl (sx_block (KB M [15,14] (λze zF e wr mz => ∃(i:Nat),e=(16,AA (i:Int))::ze∧zF wr∧(i≤W0.length)∧mz=W0.length - i) ⟨0,rfl,M,Nat.zero_le _,rfl⟩ ?_))))))
       rintro _ w23 _ ⟨i,rfl,M,hi,rfl⟩
       refine sx_seq (AC rfl (yb rfl (DA rfl rfl (BH rfl rfl (nq (AF rfl (λh112=>?_) (λh112=>?_)))))))
       ·have h112p:=(odt h112)
        refine sx_skip (qx_seq (sx_seq (sx_block (sx_seq (EQ CF gkr ?_)))))
        have M:=M.drew
        refine sb rfl (sb rfl ?_)
        obtain ⟨a,ha⟩:=BN (l:=W0) (i:=i) A0
        obtain ⟨b_a,o_a,hA_a⟩:=B8 (k:=3) A0 (M.rdOwn 1 rfl) ha
        refine sa rfl (AN i hA_a rfl rfl rfl (sl rfl) A0) (sb rfl (sd rfl rfl (CI Ht.len (M.rdOwn 1 rfl) hA_a ha 1 rfl) (sb rfl (sb rfl ?_))))
        obtain ⟨b,hb⟩:=BN (l:=W1) (i:=i) A0
        obtain ⟨b_b,o_b,hA_b⟩:=B8 (k:=3) A0 (M.rdOwn 0 rfl) hb
        refine sa rfl (AN i hA_b rfl rfl rfl (sl rfl) A0) (sb rfl (sd rfl rfl (CI Ht.len (M.rdOwn 0 rfl) hA_b hb 1 rfl) (sa rfl (DM rfl rfl rfl) (sb rfl (BZ (d:=126) rfl (λh126=>?_) (λh126=>?_))))))
        ·have h126p:=(odf (BO h126))
         exact absurd (NP hmap ha hb).1 h126p
        ·have h126p:=(odt (BC h126))
         refine gsg rfl (yp rfl) (gsg rfl (yp rfl) (gsg rfl (AN i hA_a rfl rfl rfl (sl rfl) A0) (gsg rfl (yp rfl) (gsg rfl (B6 rfl rfl (sc rfl) (CI Ht.len (M.rdOwn 1 rfl) hA_a ha 2 rfl)) (gsg rfl (yp rfl) (gsg rfl (yp rfl) (gsg rfl (AN i hA_b rfl rfl rfl (sl rfl) A0) (gsg rfl (yp rfl) (gsg rfl (B6 rfl rfl (sc rfl) (CI Ht.len (M.rdOwn 0 rfl) hA_b hb 2 rfl)) (gsg rfl (ES rfl rfl rfl) (sb rfl (sb rfl (BZ (d:=139) rfl (λh139=>?_) (λh139=>?_))))))))))))))
         ·have h139p:=(odf (BO h139))
          exact absurd (NP hmap ha hb).2 h139p
         ·have h139p:=(odt (BC h139))
          refine gsg rfl (yp rfl) (gsg rfl (FW rfl rfl rfl) (gsg rfl (yp rfl) (BZ (d:=142) rfl (λh142=>?_) (λh142=>?_))))
          ·have h142p:=(odt h142)
           refine gsg rfl (yp rfl) (gsg rfl (yp rfl) (gsg rfl (DL (a:=i) (b:=1) rfl rfl rfl A0 A0) ?_))
           obtain ⟨z,hz⟩:=BN (l:=W0) (i:=i - 1) A0
           obtain ⟨b_z,o_z,hA_z⟩:=B8 (k:=3) A0 (M.rdOwn 1 rfl) hz
           refine gsg rfl (AN (i - 1) hA_z rfl rfl rfl (sl rfl) A0) (gsg rfl (yp rfl) (gsg rfl (B6 rfl rfl (sc rfl) (CI Ht.len (M.rdOwn 1 rfl) hA_z hz 1 rfl)) (gsg rfl (yp rfl) (gsg rfl (yp rfl) (gsg rfl (AN i hA_a rfl rfl rfl (sl rfl) A0) (gsg rfl (yp rfl) (gsg rfl (B6 rfl rfl (sc rfl) (CI Ht.len (M.rdOwn 1 rfl) hA_a ha 1 rfl)) (gsg rfl (FY rfl rfl rfl) (gsg rfl (yp rfl) (sb rfl (EL (qx_seq (AF rfl (λh156=>?_) (λh156=>?_))))))))))))))
           ·have h156p:=(odt h156)
            exact absurd (qX hup hz ha A0) A0
           ·have h156p:=(odf h156)
            refine sx_skip (qx_block_normal (qx_seq (sx_region (yb rfl (BT rfl rfl (yb rfl (sxl_nil (fag ⟨i+1,rfl,M,?_,rfl⟩))))))))
            ·omega
          ·have h142p:=(odf h142)
           iterate 12 refine CE rfl rfl rfl rfl rfl rfl ?_
           refine gsg rfl (yp rfl) (sb rfl (EL (qx_seq (sx_false rfl (sx_skip (qx_block_normal (qx_seq (sx_region (yb rfl (BT rfl rfl (yb rfl (sxl_nil (fag ⟨i+1,rfl,M,?_,rfl⟩)))))))))))))
           ·omega
       ·exact sx_exit (qx_then_exit (qx_then_exit (qx_block_hit (qx_seq (AC rfl (gnr (gr1 rfl ⟨rfl,hfw.trans M.fr⟩)))))))
end Go.Proofs.YtaheakjfkpkefaaGreatDoor
