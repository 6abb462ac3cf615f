/- Lemmas. -/
import Derived.Test.YtppmdnmjepkfaaaGreatDoorProg
import Derived.WalkKit
import Derived.Maps.AppendAt
import Derived.Deep.AppendLies
import Derived.Deep.Draws
import Derived.Deep.MidRow
import Derived.Laws.CopyOwn
import Derived.Lib.Hide
import Derived.KernelRfl
import Derived.Deep.RegionLaw
import Derived.Deep.QuietTactic
import Derived.BigQuiet
import Derived.Laws.StructEq
import Derived.Laws.MakeOwn
import Derived.StillTail
import Derived.IntWalk
import Derived.OrdersHeld
import Derived.Laws.Tables
import Derived.Great.BuildSlice
import Derived.Laws.BytesArg
import Derived.Lib.Strings
set_option maxHeartbeats 16000000
set_option maxRecDepth 100000
namespace Go.Proofs.YtppmdnmjepkfaaaGreatDoor
open Go.RowKit
theorem X.{u} {α:Sort u} {a:α}:a=a:=rfl
abbrev Aa:=@Tryz.underlying9
abbrev Ab:=@Nat.le_refl
abbrev Ac:=@List.mem_of_getElem?
abbrev Ad:=@Option.some.injEq
abbrev Ae:=@Nat.zero_le
abbrev Af:=@List.length_cons
abbrev Ah:=@List.length_append
abbrev Ai:=@List.getElem?_cons_zero
abbrev Aj:=@List.getElem?_eq_some_iff
abbrev Ak:=@List.mem_cons
abbrev Al:=@Tryz.underlying48
abbrev Am:=@List.drop_length
abbrev An:=@Array.getElem?_eq_some_iff
abbrev Ao:=@List.getElem?_eq_getElem
abbrev Ap:=@List.mem_cons_of_mem
abbrev Aq:=@List.length_nil
abbrev Au:=@List.mem_singleton
abbrev Av:=@Prod.mk.injEq
abbrev Ax:=@List.not_mem_nil
abbrev Ay:=@congrArg
abbrev Az:=@Tryz.underlying107
abbrev Ba:=@List.take_length
abbrev Bb:=@Nat.le_trans
abbrev Bc:=@List.mem_cons_self
abbrev Be:=@Tryz.underlying213
abbrev Bf:=@Tryz.underlying106
abbrev Bg:=@Tryz.underlying3
abbrev Bh:=@Bool.and_eq_true
abbrev Bi:=@Tryz.underlying5
abbrev Bj:=@List.eq_nil_of_length_eq_zero
abbrev Bk:=@Tryz.underlying113
abbrev Bl:=@List.length_take
abbrev Bm:=@Tryz.underlying75
abbrev Bn:=@List.getElem?_cons_succ
abbrev Bo:=@List.mem_append
abbrev Bp:=@List.length_map
abbrev Bq:=@Prod.mk.inj
abbrev Br:=@Tryz.underlying61
abbrev Bs:=@Option.some.inj
abbrev Bt:=@List.getElem?_drop
abbrev Bu:=@List.getElem?_map
abbrev Bv:=@List.append_nil
abbrev Bw:=@Nat.lt_of_lt_of_le
abbrev By:=@List.append_assoc
abbrev Bz:=@List.length_drop
abbrev Ca:=@Tryz.underlying166
abbrev Cb:=@List.getElem?_take_of_lt
abbrev Cc:=@List.getElem?_append_right
abbrev Cd:=@List.getElem?_of_mem
abbrev Ce:=@Nat.eq_of_beq_eq_true
abbrev Cf:=@Tryz.underlying110
abbrev Cg:=@Bool.eq_false_iff
abbrev Ch:=@List.mem_map
abbrev Ci:=@List.all_eq_true
abbrev Cj:=@List.map_cons
abbrev Ck:=@List.map_append
abbrev Cl:=@List.getElem?_append_left
abbrev Cm:=@Nat.zero_add
abbrev Cn:=@List.filter_append
abbrev Co:=@List.takeWhile_cons
abbrev Cp:=@Tryz.underlying127
abbrev Cq:=@List.take_append_drop
abbrev Cr:=@List.mem_append_right
abbrev Cs:=@List.cons.injEq
abbrev Ct:=@Option.getD_some
abbrev Cu:=@Nat.le_add_right
abbrev Cv:=@Tryz.underlying249
abbrev Cw:=@List.filter_cons
abbrev Cx:=@Tryz.underlying99
abbrev Cy:=@Tryz.underlying80
abbrev Da:=@List.take_add_one
abbrev Db:=@Bool.false_eq_true
abbrev Dc:=@Option.map_some
abbrev Dd:=@Option.map_eq_some_iff
abbrev De:=@List.foldl_append
abbrev Df:=@List.all_cons
abbrev Dg:=@List.mem_filter
abbrev Dh:=@List.filter_cons_of_pos
abbrev Di:=@List.filter_cons_of_neg
abbrev Dj:=@Tryz.underlying63
abbrev Dk:=@List.getElem?_set_self
abbrev Dl:=@Nat.not_lt_zero
abbrev Dm:=@Bool.or_eq_true
abbrev Dn:=@Array.getElem?_setIfInBounds_ne
abbrev Dp:=@Tryz.underlying228
abbrev Dq:=@Tryz.underlying184
abbrev Dr:=@List.any_cons
abbrev Ds:=@Nat.mul_le_mul_right
abbrev Dt:=@List.mem_append_left
abbrev Du:=@List.getElem?_set_ne
abbrev Dv:=@Bool.and_assoc
abbrev Dw:=@Nat.le_of_lt_succ
abbrev Dx:=@List.ext_getElem?
abbrev Dy:=@List.flatMap_append
abbrev Dz:=@Tryz.underlying46
abbrev Ea:=@Tryz.underlying42
abbrev Eb:=@Tryz.underlying23
abbrev Ec:=@Tryz.underlying143
abbrev Ed:=@Bool.and_false
abbrev Ee:=@Nat.le_of_ble_eq_true
abbrev Ef:=@List.length_filter_le
abbrev Eg:=@List.drop_eq_getElem_cons
abbrev Eh:=@Tryz.underlying76
abbrev Ei:=@Tryz.underlying4
abbrev Ej:=@Ne.symm
abbrev Ek:=@Bool.not_eq_true'
abbrev Em:=@Bool.true_and
abbrev En:=@List.mem_map_of_mem
abbrev Eo:=@List.flatMap_nil
abbrev Ep:=@Nat.eq_zero_or_pos
abbrev Eq:=@List.drop_of_length_le
abbrev Er:=@Bool.true_eq_false
abbrev Es:=@Int.toNat_natCast
abbrev Et:=@List.take_zero
abbrev Eu:=@List.mem_range
abbrev Ev:=@List.exists_cons_of_ne_nil
abbrev Ew:=@List.Perm.refl
abbrev Ex:=@Tryz.underlying32
abbrev Ey:=@Option.bind_some
abbrev Ez:=@List.pairwise_iff_getElem
abbrev Fa:=@Classical.byContradiction
abbrev Fb:=@Array.getElem?_eq_getElem
abbrev Fd:=@List.map_congr_left
abbrev Fe:=@List.length_pos_iff
abbrev Ff:=@Nat.add_assoc
abbrev Fg:=@List.nil_append
abbrev Fh:=@Tryz.underlying45
abbrev Fi:=@Nat.zero_mul
abbrev Fj:=@List.flatMap_cons
abbrev Fk:=@Bool.false_and
abbrev Fm:=@List.getElem?_eq_none
abbrev Fo:=@List.map_toArray
abbrev Fp:=@Tryz.underlying245
abbrev Fq:=@Tryz.underlying197
abbrev Fs:=@Bool.false_or
abbrev Ft:=@Array.toArray_toList
abbrev Fu:=@UInt8.toNat_inj
abbrev Fv:=@List.nodup_cons
abbrev Fw:=@List.all_append
abbrev Fx:=@Tryz.underlying25
abbrev Fy:=@Nat.sub_self
abbrev Fz:=@Nat.lt_or_ge
abbrev Ga:=@Bool.not_not
abbrev Gb:=@List.map_singleton
abbrev Gc:=@List.drop_drop
abbrev Gd:=@Bool.false_ne_true
abbrev Ge:=@Array.foldl_toList
abbrev Gf:=@Tryz.underlying139
abbrev Gg:=@Tryz.underlying101
abbrev Gh:=@List.filterMap_cons_some
abbrev Gi:=@List.filterMap_cons_none
abbrev Gj:=@Bool.not_true
abbrev Gk:=@Nat.le_mul_of_pos_right
abbrev Gl:=@Tryz.underlying40
abbrev Gm:=@Nat.mul_comm
abbrev Gn:=@Nat.le_of_lt
abbrev Gp:=@List.take_of_length_le
abbrev Gq:=@List.map_nil
abbrev Gr:=@List.map_map
abbrev Gs:=@List.filter_eq_nil_iff
abbrev Gt:=@Int.le_of_lt
abbrev Gu:=@Nat.min_eq_left
abbrev Gv:=@List.take_left'
abbrev Gw:=@List.length_set
abbrev Gx:=@List.singleton_append
abbrev Gy:=@List.length_singleton
abbrev Gz:=@List.filterMap_append
abbrev Ha:=@Tryz.underlying2
abbrev Hb:=@Tryz.underlying0
abbrev Hc:=@List.getElem?_modify
abbrev Hd:=@Int.le_refl
abbrev He:=@List.getElem?_range
abbrev Hf:=@List.filterMap_cons
abbrev Hg:=@List.dropWhile_cons
abbrev Hh:=@Array.toList_modify
abbrev Hi:=@Tryz.underlying265
abbrev Hj:=@Tryz.underlying131
abbrev Hk:=@Nat.lt_of_le_of_lt
abbrev Hl:=@List.pairwise_cons
abbrev Hm:=@Tryz.underlying71
abbrev Hn:=@Tryz.underlying50
abbrev Ho:=@Tryz.underlying29
abbrev Hp:=@Tryz.underlying21
abbrev Hq:=@UInt8.ofNat_toNat
abbrev Hr:=@Nat.add_zero
abbrev Hs:=@List.getElem?_set
abbrev Hu:=@List.flatten_cons
abbrev Hv:=@List.any_eq_false
abbrev Hw:=@Array.toList_push
abbrev Hx:=@List.getElem_map
abbrev Hy:=@Array.toList_zip
abbrev Hz:=@Nat.add_mul
abbrev Ia:=@List.foldl_cons
abbrev Ib:=@UInt8.toNat_or
abbrev Ic:=@Array.getElem?_append_left
abbrev Id:=@Option.isNone_iff_eq_none
abbrev Ie:=@Tryz.underlying248
abbrev Ig:=@Tryz.underlying227
abbrev Ih:=@Tryz.underlying226
abbrev Ii:=@Tryz.underlying211
abbrev Ij:=@Tryz.underlying198
abbrev Ik:=@Tryz.underlying100
abbrev Il:=@Option.isSome_iff_exists
abbrev Im:=@Bool.or_false
abbrev Io:=@Bool.and_true
abbrev Ip:=@Array.setIfInBounds_comm
abbrev Iq:=@Nat.add_sub_cancel_left
abbrev Ir:=@Tryz.underlying44
abbrev It:=@Tryz.underlying36
abbrev Iu:=@Tryz.underlying22
abbrev Iv:=@Nat.zero_mod
abbrev Iw:=@Nat.succ_pos
abbrev Iy:=@Nat.succ_mul
abbrev Iz:=@List.length_pos_of_mem
abbrev Ja:=@List.drop_eq_nil_of_le
abbrev Jb:=@List.any_map
abbrev Jc:=@Int.le_trans
abbrev Jd:=@List.takeWhile_prefix
abbrev Je:=@BitVec.eq_of_toNat_eq
abbrev Kz:=List UInt8
abbrev Ky:=Option Addr
abbrev Kx:=List Value
abbrev Kw:=World
abbrev Kv:=Value
abbrev Lz:=Operand
abbrev Ly:=TypeId
abbrev Lw:=Program
section
theorem odt {p:Prop} [Decidable p] (h:decide p=true):p:=of_decide_eq_true h
theorem odf {p:Prop} [Decidable p] (h:decide p=false):¬p:=of_decide_eq_false h
structure Fr (S:Nat→Prop) (w w':Kw):Prop where
 os:w'.os=w.os
 tape:w'.tape=w.tape
 output:w'.output=w.output
 size:w.heap.size≤w'.heap.size
 block:∀k,k<w.heap.size→¬S k→w'.heap[k]?=w.heap[k]?
abbrev AR : Nat→Prop:=λ_=>False
abbrev Fr0 := Fr AR
namespace Fr
variable {S T:Nat→Prop} {w w' w'':Kw}
theorem refl : Fr S w w:=⟨rfl,rfl,rfl,Ab _,λ_ _ _=>rfl⟩
theorem mono (h:Fr S w w') (hs:∀k,k<w.heap.size→S k→T k):Fr T w w':=
 ⟨h.os,h.tape,h.output,h.size,λk hk hn=>h.block k hk (λhh=>hn (hs k hk hh))⟩
theorem of0 (h:Fr0 w w'):Fr S w w':=h.mono (λ_ _ hh=>hh.elim)
theorem trans (h:Fr S w w') (h':Fr S w' w''):Fr S w w'':=
 ⟨h'.os.trans h.os,h'.tape.trans h.tape,h'.output.trans h.output,Bb h.size h'.size,
  λk hk hn=>(h'.block k (Bw hk h.size) hn).trans (h.block k hk hn)⟩
theorem step (h:Fr S w w') (h':Fr T w' w'') (ht:∀k,k<w.heap.size→T k→S k):Fr S w w'':=
 ⟨h'.os.trans h.os,h'.tape.trans h.tape,h'.output.trans h.output,Bb h.size h'.size,
  λk hk hn=>(h'.block k (Bw hk h.size) (λhh=>hn (ht k hk hh))).trans (h.block k hk hn)⟩
theorem then0 (h:Fr S w w') (h':Fr0 w' w''):Fr S w w'':=h.step h' (λ_ _ hh=>hh.elim)
theorem drew (h:Fr S w w'):Fr S w w'.drew:=⟨h.os,h.tape,h.output,h.size,h.block⟩
theorem alloc (h:Fr S w w') (o:Obj):Fr S w (w'.alloc o):=
 h.step (T:=AR) ⟨rfl,rfl,rfl,by simp,λk hk _=>Below.heap_alloc _ _ _ hk⟩ (λ_ _ hh=>hh.elim)
theorem below (h:Fr0 w w'):Below w.heap.size w w':=⟨h.os,h.tape,h.output,h.size,λk hk=>h.block k hk (λhh=>hh)⟩
theorem ofBelow (h:Below w.heap.size w w'):Fr S w w':=⟨h.os,h.tape,h.output,h.size,λk hk _=>h.block k hk⟩
theorem cell (h:Fr S w w') {p:Addr} (hp:p.block<w.heap.size) (hn:¬S p.block):w'.cell? p=w.cell? p:=
 World.cell?_of_block (w:=w) (h.block p.block hp hn)
end Fr
def Blk (w:Kw) (g:Nat) (t:Ly) (cs:Kx):Prop:=w.heap[g]?=some (.cells cs.toArray t (0,0))
namespace Blk
variable {w w':Kw} {g:Nat} {t:Ly} {cs:Kx}
theorem lt (h:Blk w g t cs):g<w.heap.size:=by
 rcases Fz g w.heap.size with hlt|hge
 ·exact hlt
 unfold Blk at h;rw [Array.getElem?_eq_none hge] at h;cases h
theorem cell (h:Blk w g t cs) (i:Nat):w.cell? ⟨g,i,none⟩=cs[i]?:=by
 rw [cell_of_row w g i cs.toArray t (0,0) h];simp
theorem new (w:Kw) (t:Ly) (cs:Kx):Blk (w.alloc (.cells cs.toArray t)) w.heap.size t cs:=heap_alloc_new w _
theorem fr {S:Nat→Prop} (h:Blk w g t cs) (hf:Fr S w w') (hn:¬S g):Blk w' g t cs:=(hf.block g h.lt hn).trans h
theorem fr0 (h:Blk w g t cs) (hf:Fr0 w w'):Blk w' g t cs:=h.fr hf (λhh=>hh)
end Blk
def Rd (w:Kw) (A:Ky) (n:Nat) (xs:Kx):Prop:=
 xs.length=n∧(0<n→∃b off,A=some ⟨b,off,none⟩∧∀j u,xs[j]?=some u→w.cell? ⟨b,off+j,none⟩=some u)
namespace Rd
variable {w w':Kw} {A:Ky} {n:Nat} {xs:Kx}
theorem nil {A:Ky}:Rd w A 0 []:=⟨rfl,λh=>absurd h (by omega)⟩
theorem at_ (h:Rd w A n xs) {k:Nat} (hk:k<n):∃b off,A=some ⟨b,off,none⟩∧∃u,xs[k]?=some u∧w.cell? ⟨b,off+k,none⟩=some u:=by
 obtain ⟨b,off,e,hc⟩:=h.2 (by omega);have hl:k<xs.length:=by have:=h.1;omega
 exact ⟨b,off,e,xs[k],Ao hl,hc k _ (Ao hl)⟩
theorem keep (h:Rd w A n xs) (hk:0<n→∀b off,A=some ⟨b,off,none⟩→∀j,w.cell? ⟨b,j,none⟩≠none→w'.cell? ⟨b,j,none⟩=w.cell? ⟨b,j,none⟩):Rd w' A n xs:=
 ⟨h.1,λhn=>by
  obtain ⟨b,off,e,hc⟩:=h.2 hn;exact ⟨b,off,e,λj u hu=>(hk hn b off e _ (by rw [hc j u hu];simp)).trans (hc j u hu)⟩⟩
theorem fr {S:Nat→Prop} (h:Rd w A n xs) (hf:Fr S w w') (hn:0<n→∀b off,A=some ⟨b,off,none⟩→¬S b):Rd w' A n xs:=
 h.keep λh0 b off e j hj=>hf.cell (p:=⟨b,j,none⟩) (by
  cases hc:w.cell? ⟨b,j,none⟩ with
  | none=>exact absurd hc hj
  | some v=>exact World.block_lt_of_cell? w ⟨b,j,none⟩ hc) (hn h0 b off e)
theorem fr0 (h:Rd w A n xs) (hf:Fr0 w w'):Rd w' A n xs:=h.fr hf (λ_ _ _ _ hh=>hh)
theorem of_own {base:Nat} {e:Ly} {A:Ky} {c:Nat} (h:w.ownsRow base e 1 (.slice A n c) n xs):Rd w A n xs:=by
 refine ⟨by simpa using h.1,λhn=>?_⟩;rcases h.2 with ⟨hv,h0⟩|⟨g,cap,cur,hv,_⟩
 ·omega
 injection hv with hA
 subst hA;refine ⟨g,0,X,λj u hu=>?_⟩
 have:=h.cells (g:=g) X j u hu
 rwa [Addr.add_mid] at this
end Rd
def bv (c:UInt8):Kv:=.int .u8 (c.toNat:Int)
def bvs (l:Kz):Kx:=l.map bv
theorem QQ (l:Kz):(bvs l).length=l.length:=by simp [bvs]
theorem cA (l:Kz) (k:Nat):(bvs l)[k]?=(l[k]?).map bv:=by simp [bvs]
section
variable {P:Lw} (w:Kw)
theorem UL (base:Nat) (t ty e:Ly) (i:TypeInfo) (z:Kv) (bytes:Nat) (ht:P.underlying t=some (.slice e)) (hi:P.info? e=some i) (hz:i.zero=some z)
 (hsize:i.size=1) (hby:i.bytes=bytes) (hzs:z.cells.size=1)
 (v:Kv) (n:Nat) (xs:Kx) (hown:w.ownsRow base e 1 v n xs)
 (A:Ky) (m c:Nat) (news:Kx) (hr:Rd w A m news) (h1:∀u∈news,u.oneCell'=true)
 (h63:n+m≤maxLen) (hbytes:(n+m)*bytes≤140737488355328) (hbase:base≤w.heap.size) :
 ∃v' w',(Builtin.append_ #[t,t] ty #[v,.slice A m c]).run P w=.ok v' w'∧w'.ownsRow base e 1 v' (n+m) (xs++news)∧w.grownBy w' v.ownBlock ∧
  (v'.ownBlock=v.ownBlock∨v'.ownBlock=some w.heap.size):=by
 rcases A with _|ad
 ·have hm:m=0:=by
   rcases Ep m with h0|h0
   ·exact h0
   obtain ⟨b,off,h,_⟩:=hr.2 h0
   cases h
  subst hm;have hn:news=[]:=Bj hr.1;subst hn;refine ⟨v,w,?_,by simpa using hown,⟨rfl,rfl,rfl,Ab _,λ_ _ _=>rfl⟩,.inl rfl⟩;rcases hown.2 with ⟨rfl,rfl⟩|⟨g,cap,cur,rfl,_,_,hnc,_⟩
  ·simp [Builtin.append_,run_underlying ht,sizeOf,typeInfo,hi,Builtin.lenOf,Builtin.firstCells]
  simp [Builtin.append_,run_underlying ht,sizeOf,typeInfo,hi,Builtin.lenOf,Builtin.firstCells,hnc,storeCells]
 have hcells:∀j u,news[j]?=some u→w.cell? (ad.add j)=some u:=by
  intro j u hu;rcases Ep m with h0|h0
  ·subst h0;have hn:news=[]:=Bj hr.1;subst hn
   simp at hu
  obtain ⟨b',off',h,hc⟩:=hr.2 h0
  injection h with h
  subst h;rw [Addr.add_mid];exact hc j u hu
 obtain ⟨v',w',hrun,h2,h3,_,h5⟩:=run_append_own_at (P:=P) w base t ty e i z 1 bytes ht hi hz hsize hby hzs (by omega) v n xs hown ad m c news (by simpa using hr.1) hcells h1 h63 hbytes hbase;exact ⟨v',w',hrun,h2,h3,h5⟩
end
end
section
def K2 (P:Lw) (ρ:Lz→Kv) (o:Oper) (w:Kw) (R:Kv→Kw→Prop):Prop:=
 ∃v w',((execOp ρ o).run P w=.ok (.value v) w'∨((execOp ρ o).run P w=.ok .skip w'∧v=undef))∧R v w'
namespace K2
variable {P:Lw} {o:Oper} {w:Kw} {R:Kv→Kw→Prop} {ops:Array Oper} {rest:List Oper} {a:Act} {Q:Exit→Act→Kw→Prop}
theorem wp {K:Act→Kw→Prop} (h:K2 P a.eval o w R) (k:∀v w',R v w'→K (a.put o.dst v) w'):o.wp P a w K Q:=by
 obtain ⟨v,w',hr|⟨hr,rfl⟩,hR⟩:=h
 ·unfold Oper.wp;rw [hr];exact k _ _ hR
 unfold Oper.wp;rw [hr];exact k _ _ hR
theorem mono {ρ:Lz→Kv} {R':Kv→Kw→Prop} (h:K2 P ρ o w R) (k:∀v w',R v w'→R' v w'):K2 P ρ o w R':=
 let ⟨v,w',hr,hR⟩:=h;⟨v,w',hr,k _ _ hR⟩
end K2
theorem Fr.setRow {S:Nat→Prop} {w w':Kw} (h:Fr S w w') {g:Nat} (hg:g<w.heap.size→S g) (cs:Array Kv):Fr S w (w'.setRow g cs):=
 h.step (T:=λk=>k=g) ⟨rfl,rfl,rfl,by simp,λk _ hn=>setRow_other w' g k cs hn⟩ (λk hk e=>by subst e;exact hg hk)
theorem ZH (w:Kw) (g:Nat) (cs:Array Kv):Fr (λk=>k=g) w (w.setRow g cs):=Fr.setRow (S:=λk=>k=g) Fr.refl (λ_=>rfl) cs
def put (cs:Kx) (off:Nat) (xs:Kx):Kx:=cs.take off++(xs++cs.drop (off+xs.length))
theorem yB (cs:Kx) (off:Nat):put cs off []=cs:=by simp [put]
theorem HA (cs xs:Kx) (h:xs.length=cs.length):put cs 0 xs=xs:=by
 simp [put,h]
section
variable {P:Lw} {ρ:Lz→Kv} {o:Oper} {w:Kw}
theorem BK (ty:Ly) (x y:Lz) (ho:o.op=.store ty x y) (g off:Nat) (t:Ly) (cs new:Kx)
 (hx:ρ x=.pointer (some ⟨g,off,none⟩)) (hy:ρ y=.agg new.toArray) (hb:Blk w g t cs)
 (hi:(P.info? ty).map (·.size)=some new.length) (hl:off+new.length≤cs.length) (h1:∀u∈new,u.oneCell'=true) :
 K2 P ρ o w λv w'=>v=undef∧Blk w' g t (put cs off new)∧Fr (λk=>k=g) w w':=by
 have hs:=run_storeCells_at P g off t new 0 cs.toArray w hb (by simpa using hl) h1;refine ⟨undef,w.setRow g (put cs off new).toArray,.inr ⟨?_,X⟩,X,?_,ZH w g _⟩
 rotate_left
 ·exact setRow_heap w g _ _ t _ hb
 have hrun:(storeVar ty ⟨g,off,none⟩ (.agg new.toArray)).run P w=.ok () (w.setRow g (put cs off new).toArray):=by
  cases hq:P.info? ty with
  | none=>simp [hq] at hi
  | some i=>
   have hsz:new.length=i.size:=by simp [hq] at hi;omega
   simp only [Hr] at hs
   simp [storeVar,sizeOf,typeInfo,hq,Value.cells,hsz,hs,put]
 unfold execOp;simp only [ho,hx,hy,Instr.storeAt,Instr.sureAddr,Sem.run_bind,Sem.run_pure,Result.andThen_ok,hrun]
theorem DW (ty:Ly) (x y:Lz) (ho:o.op=.store ty x y) (g off:Nat) (t:Ly) (cs:Kx) (v:Kv)
 (hx:ρ x=.pointer (some ⟨g,off,none⟩)) (hy:ρ y=v) (hv:v.cells = #[v]) (hb:Blk w g t cs)
 (hi:(P.info? ty).map (·.size)=some 1) (hl:off<cs.length) (h1:v.oneCell'=true) :
 K2 P ρ o w λu w'=>u=undef∧Blk w' g t (cs.set off v)∧Fr (λk=>k=g) w w':=by
 have hs:=run_storeCells_at P g off t [v] 0 cs.toArray w hb (by simp;omega) (by simpa using h1)
 have hput:cs.set off v=put cs off [v]:=by
  rw [List.set_eq_take_append_cons_drop,if_pos hl];simp [put]
 refine ⟨undef,w.setRow g (put cs off [v]).toArray,.inr ⟨?_,X⟩,X,?_,ZH w g _⟩
 rotate_left
 ·rw [hput];exact setRow_heap w g _ _ t _ hb
 have hrun:(storeVar ty ⟨g,off,none⟩ v).run P w=.ok () (w.setRow g (put cs off [v]).toArray):=by
  cases hq:P.info? ty with
  | none=>simp [hq] at hi
  | some i=>
   have hsz:i.size=1:=by simpa [hq] using hi
   simp only [Hr] at hs
   simp [storeVar,sizeOf,typeInfo,hq,hv,hsz,hs,put]
 unfold execOp;simp only [ho,hx,hy,Instr.storeAt,Instr.sureAddr,Sem.run_bind,Sem.run_pure,Result.andThen_ok,hrun]
theorem BN (e:Ly) (ho:o.op=.alloc e) (z:Kv) (zs:Kx) (hz:(P.info? e).map (·.zero)=some (some z)) (hc:z.cells=zs.toArray) :
 K2 P ρ o w λv w'=>∃g,v=.pointer (some ⟨g,0,none⟩)∧w.heap.size≤g∧g<w'.heap.size∧Blk w' g e zs∧Fr0 w w':=by
 refine ⟨_,w.alloc (.cells zs.toArray e),.inl ?_,w.heap.size,X,Ab _,by simp,Blk.new w e zs,Fr.refl.alloc _⟩
 cases hq:P.info? e with
 | none=>simp [hq] at hz
 | some i=>
  have hz':i.zero=some z:=by simpa [hq] using hz
  unfold execOp
  simp [ho,Instr.alloc,zeroValue,typeInfo,hq,hz',newVar,newRow,hc]
theorem LN (e:Ly) (x:Lz) (ho:o.op=.box e x) (cs:Kx) (hx:(ρ x).cells=cs.toArray) :
 K2 P ρ o w λv w'=>∃g,v=.pointer (some ⟨g,0,none⟩)∧w.heap.size≤g∧g<w'.heap.size∧Blk w' g e cs∧Fr0 w w':=by
 refine ⟨_,w.alloc (.cells cs.toArray e),.inl ?_,w.heap.size,X,Ab _,by simp,Blk.new w e cs,Fr.refl.alloc _⟩;unfold execOp
 simp [ho,Instr.box,newVar,newRow,hx]
theorem fS (s x:Lz) (t:Ly) (ho:o.op=.call { callee:=.builtin .append,args := #[s,x],argTypes := #[t,t] })
 (base:Nat) (e:Ly) (z:Kv) (bytes:Nat) (ht:P.underlying t=some (.slice e)) (hi:(P.info? e).map (λi=>(i.zero,i.size,i.bytes))=some (some z,1,bytes)) (hzs:z.cells.size=1)
 (v:Kv) (n:Nat) (xs:Kx) (hs:ρ s=v) (hown:w.ownsRow base e 1 v n xs)
 (A:Ky) (m c:Nat) (news:Kx) (hx:ρ x=.slice A m c) (hr:Rd w A m news) (h1:∀u∈news,u.oneCell'=true)
 (h63:n+m≤maxLen) (hbytes:(n+m)*bytes≤140737488355328) (hbase:base≤w.heap.size) :
 K2 P ρ o w λv' w'=>w'.ownsRow base e 1 v' (n+m) (xs++news)∧w.grownBy w' v.ownBlock∧(v'.ownBlock=v.ownBlock∨v'.ownBlock=some w.heap.size):=by
 cases hq:P.info? e with
 | none=>simp [hq] at hi
 | some i=>
  obtain ⟨hz,hsize,hby⟩:i.zero=some z∧i.size=1∧i.bytes=bytes:=by simpa [hq] using hi
  obtain ⟨v',w',hrun,h2,h3,h4⟩:=UL (P:=P) w base t o.type e i z bytes ht hq hz hsize hby hzs v n xs hown A m c news hr h1 h63 hbytes hbase;refine ⟨v',w',.inl ?_,h2,h3,h4⟩;unfold execOp;simp only [ho,resolve,invoke,builtin,Sem.run_bind,Sem.run_pure,Result.andThen_ok,Fo,Cj,Gq,hs,hx,hrun]
end
theorem eJ {w:Kw} {base:Nat} {e:Ly} {v:Kv} {n:Nat} {xs:Kx} (h:w.ownsRow base e 1 v n xs) :
 ∃A cap,v=.slice A n cap∧n≤cap∧cap≤maxLen∧Rd w A n xs∧(∀b off,A=some ⟨b,off,none⟩→base≤b∧off=0):=by
 rcases h.2 with ⟨rfl,h0⟩|⟨g,cap,cur,rfl,hb,hg,hc,hm,hs,ht⟩
 ·subst h0;have hx:xs=[]:=Bj (by simpa using h.1);subst hx;exact ⟨none,0,X,Ab _,Ae _,Rd.nil,by simp⟩
 refine ⟨some ⟨g,0,none⟩,cap,X,hc,hm,Rd.of_own h,?_⟩;intro b off e;injection e with e;injection e with e1 e2 _;subst e1;exact ⟨hb,e2.symm⟩
theorem iX {w w':Kw} {S:Nat→Prop} {base:Nat} {e:Ly} {v:Kv} {n:Nat} {xs:Kx} (h:w.ownsRow base e 1 v n xs) (hf:Fr S w w') (hn:∀k,v.ownBlock=some k→¬S k) :
 w'.ownsRow base e 1 v n xs:=by
 refine ⟨h.1,?_⟩;rcases h.2 with hh|⟨g,cap,cur,rfl,hb,hg,r⟩
 ·exact .inl hh
 exact .inr ⟨g,cap,cur,X,hb,(hf.block g (An.1 hg).1 (hn g X)).trans hg,r⟩
end
section
section
variable {P:Lw} (w:Kw)
end
theorem fN {P:Lw} {ρ:Lz→Kv} {o:Oper} {w:Kw} (ty:Ly) (x:Lz) (ho:o.op=.load ty x) (b off n:Nat) (xs:Kx) (d:TypeDesc)
 (hx:ρ x=.pointer (some ⟨b,off,none⟩)) (hr:Rd w (some ⟨b,off,none⟩) n xs) (hu:P.underlying ty=some d) (hd:d.isRow=true) (hi:(P.info? ty).map (·.size)=some n) :
 (execOp ρ o).run P w=.ok (.value (.agg xs.toArray)) w:=by
 have hc:w.rangeAt b off xs:=λj v hv=>by
  have hj:0<n:=by have:=(Aj.1 hv).1;have:=hr.1;omega
  obtain ⟨b',off',e,hc⟩:=hr.2 hj
  injection e with e;injection e with e1 e2 _;subst e1;subst e2
  exact hc j v hv
 have hrun:=run_loadVar_mid (P:=P) w b off ty xs d hc hu hd (by rw [hr.1];exact hi);unfold execOp;simp only [ho,hx,Instr.loadAt,Instr.sureAddr,Sem.run_bind,Sem.run_pure,Result.andThen_ok,hrun]
end
section
section
variable {P:Lw} {ρ:Lz→Kv} {o:Oper} {w:Kw}
end
end
section
section
variable {P:Lw} {ρ:Lz→Kv} {o:Oper} {w:Kw}
theorem DL (s x:Lz) (t:Ly) (ho:o.op=.call { callee:=.builtin .append,args := #[s,x],argTypes := #[t,t] })
 (base:Nat) (e:Ly) (z:Kv) (size bytes:Nat) (ht:P.underlying t=some (.slice e)) (hi:(P.info? e).map (λi=>(i.zero,i.size,i.bytes))=some (some z,size,bytes)) (hzs:z.cells.size=size) (hpos:0<size)
 (v:Kv) (n:Nat) (xs:Kx) (hs:ρ s=v) (hown:w.ownsRow base e size v n xs)
 (A:Ky) (m c:Nat) (news:Kx) (hx:ρ x=.slice A m c) (hr:Rd w A (m*size) news) (h1:∀u∈news,u.oneCell'=true)
 (h63:n+m≤maxLen) (hbytes:(n+m)*bytes≤140737488355328) (hbase:base≤w.heap.size) :
 K2 P ρ o w λv' w'=>w'.ownsRow base e size v' (n+m) (xs++news)∧w.grownBy w' v.ownBlock∧(v'.ownBlock=v.ownBlock∨v'.ownBlock=some w.heap.size):=by
 cases hq:P.info? e with
 | none=>simp [hq] at hi
 | some i=>
  obtain ⟨hz,hsize,hby⟩:i.zero=some z∧i.size=size∧i.bytes=bytes:=by simpa [hq] using hi
  have key:∃v' w',(Builtin.append_ #[t,t] o.type #[v,.slice A m c]).run P w=.ok v' w'∧w'.ownsRow base e size v' (n+m) (xs++news)∧w.grownBy w' v.ownBlock∧(v'.ownBlock=v.ownBlock∨v'.ownBlock=some w.heap.size):=by
   rcases A with _|ad
   ·have hm:m=0:=by
     rcases Ep m with h0|h0
     ·exact h0
     obtain ⟨b,off,h,_⟩:=hr.2 (Nat.mul_pos h0 hpos)
     cases h
    subst hm;have hn:news=[]:=Bj (by rw [hr.1,Fi]);subst hn;refine ⟨v,w,?_,by simpa using hown,⟨rfl,rfl,rfl,Ab _,λ_ _ _=>rfl⟩,.inl rfl⟩;rcases hown.2 with ⟨rfl,rfl⟩|⟨g,cap,cur,rfl,_,_,hnc,_⟩
    ·simp [Builtin.append_,run_underlying ht,sizeOf,typeInfo,hq,Builtin.lenOf,Builtin.firstCells]
    simp [Builtin.append_,run_underlying ht,sizeOf,typeInfo,hq,Builtin.lenOf,Builtin.firstCells,hnc,storeCells]
   have hcells:∀j u,news[j]?=some u→w.cell? (ad.add j)=some u:=by
    intro j u hu;have hl:0<m*size:=by have:=(Aj.1 hu).1;rw [hr.1] at this;omega
    obtain ⟨b',off',h,hc⟩:=hr.2 hl
    injection h with h
    subst h;rw [Addr.add_mid];exact hc j u hu
   obtain ⟨v',w',hrun,h2,h3,_,h5⟩:=run_append_own_at (P:=P) w base t o.type e i z size bytes ht hq hz hsize hby hzs hpos v n xs hown ad m c news hr.1 hcells h1 h63 hbytes hbase;exact ⟨v',w',hrun,h2,h3,h5⟩
  obtain ⟨v',w',hrun,h2,h3,h4⟩:=key;refine ⟨v',w',.inl ?_,h2,h3,h4⟩;unfold execOp;simp only [ho,resolve,invoke,builtin,Sem.run_bind,Sem.run_pure,Result.andThen_ok,Fo,Cj,Gq,hs,hx,hrun]
theorem nL (w:Kw) (e:Ly) (size:Nat):(w.alloc (.cells #[] e)).ownsRow w.heap.size e size (.slice (some ⟨w.heap.size,0,none⟩) 0 0) 0 []:=
 World.ownsRow_made w #[] 0 (Ab _) (Ae _) (by simp)
theorem SV {w:Kw} {base base' size:Nat} {e:Ly} {v:Kv} {n:Nat} {xs:Kx} (h:w.ownsRow base e size v n xs) (hb:base'≤base):w.ownsRow base' e size v n xs:=by
 refine ⟨h.1,?_⟩;rcases h.2 with hh|⟨g,cap,cur,hv,hg,r⟩
 ·exact .inl hh
 exact .inr ⟨g,cap,cur,hv,by omega,r⟩
end
end
section
theorem Fr.ofDrew {S:Nat→Prop} {w w':Kw} (h:Fr S w.drew w'):Fr S w w':=⟨h.os,h.tape,h.output,h.size,h.block⟩
theorem CF {a b:Nat} (h:Nat.blt a b=true):a<b:=Ee h
abbrev Env := List (Nat × Kv)
def Env.get : Env→Nat→Option Kv
 | [],_=>none
 | (k,v)::e,n=>match Nat.beq k n with
  | true=>some v
  | false=>Env.get e n
structure Agr (n:Nat) (e:Env) (a:Act):Prop where
 size:a.tmps.size=n
 defers:a.defers=[]
 get:∀k v,e.get k=some v→a.tmps[k]?=some v
def ev (e:Env):Lz→Option Kv
 | .tmp t=>e.get t
 | .const v=>some v
 | .global g=>some (.pointer (some ⟨g,0,none⟩))
 | .func f=>some (.func (.func f) #[] #[])
def evs (e:Env):List Lz→Option Kx
 | []=>some []
 | x::xs=>match ev e x,evs e xs with
  | some v,some vs=>some (v::vs)
  | _,_=>none
def Ag (e:Env) (ρ:Lz→Kv):Prop:=∀x v,ev e x=some v→ρ x=v
theorem Agr.eval {n:Nat} {e:Env} {a:Act} (h:Agr n e a):Ag e a.eval:=by
 intro x v hx
 cases x with
 | tmp t=>have:=h.get t v hx;simp [Act.eval,this]
 | const u=>simpa [ev,Act.eval] using hx
 | global g=>simpa [ev,Act.eval] using hx
 | func f=>simpa [ev,Act.eval] using hx
theorem Ag.all {e:Env} {ρ:Lz→Kv} (h:Ag e ρ):∀{xs:List Lz} {vs:Kx},evs e xs=some vs→xs.map ρ=vs
 | [],vs,hx=>by simp [evs] at hx;simp [hx]
 | x::xs,vs,hx=>by
  unfold evs at hx
  cases h1:ev e x with
  | none=>simp [h1] at hx
  | some v=>
   cases h2:evs e xs with
   | none=>simp [h1,h2] at hx
   | some us=>
    simp only [h1,h2,Ad] at hx
    subst hx;rw [Cj,h x v h1,h.all h2]
theorem Agr.put {n:Nat} {e:Env} {a:Act} (h:Agr n e a) {d:Nat} (hd:d<n) (v:Kv):Agr n ((d,v)::e) (a.put (some d) v) where
 size:=by simp [Act.put,h.size]
 defers:=by simpa [Act.put] using h.defers
 get:=by
  intro k u hk;unfold Env.get at hk
  simp only [Act.put]
  split at hk
  ·rename_i hb
   obtain rfl:d=k:=Ce hb;simp only [Ad] at hk
   subst hk
   have:d<a.tmps.size:=by rw [h.size];exact hd
   simp [this]
  rename_i hb
  have hne:d≠k:=λe=>by subst e;simp at hb
  rw [Dn hne];exact h.get k u hk
def Env.ins (e:Env):Option Tmp→Kv→Env
 | some d,v=>(d,v)::e
 | none,_=>e
def JP (n:Nat):Option Tmp→Bool
 | some d=>Nat.blt d n
 | none=>true
theorem Agr.ins {n:Nat} {e:Env} {a:Act} (h:Agr n e a) {d:Option Tmp} (hd:JP n d=true) (v:Kv):Agr n (e.ins d v) (a.put d v):=by
 cases d with
 | none=>exact h
 | some d=>exact h.put (CF hd) v
def Env.le : Env→Env→Prop
 | [],_=>True
 | (k,v)::r,e=>e.get k=some v∧Env.le r e
theorem Env.le_get {r e:Env} (h:r.le e):∀k v,r.get k=some v→e.get k=some v:=by
 induction r with
 | nil=>intro k v hk;simp [Env.get] at hk
 | cons p r ih=>
  obtain ⟨k0,v0⟩:=p;intro k v hk;unfold Env.get at hk
  split at hk
  ·rename_i hb
   obtain rfl:k0=k:=Ce hb;simp only [Ad] at hk
   subst hk;exact h.1
  exact ih h.2 k v hk
theorem Agr.weak {n:Nat} {e r:Env} {a:Act} (h:Agr n e a) (hl:r.le e):Agr n r a:=⟨h.size,h.defers,λk v hk=>h.get k v (Env.le_get hl k v hk)⟩
structure Sx (P:Lw) (c:Code) (Q:Exit→Act→Kw→Prop) (n:Nat) (e:Env) (w:Kw):Prop where
 run:∀a,Agr n e a→c.wp P Q a w
structure SxL (P:Lw) (ops:Array Oper) (Q:Exit→Act→Kw→Prop) (n:Nat) (l:List Oper) (e:Env) (w:Kw):Prop where
 run:∀a,Agr n e a→wpList P ops Q l a w
structure QX (Q:Exit→Act→Kw→Prop) (x:Exit) (n:Nat) (e:Env) (w:Kw):Prop where
 run:∀a,Agr n e a→Q x a w
structure SxS (P:Lw) (ops:Array Oper) (w:Kw) (q:Act→Prop) (n:Nat) (l:List Oper) (e:Env):Prop where
 run:∀a,Agr n e a→wpStill P ops w q l a
section
variable {P:Lw} {Q:Exit→Act→Kw→Prop} {n:Nat} {e:Env} {w:Kw}
theorem sx_seq {x y:Code} (h:Sx P x (Exit.then (y.wp P Q) Q) n e w):Sx P (Code.seq x y) Q n e w:=⟨λa ha=>wp_seq (h.run a ha)⟩
theorem sx_block {id:Nat} {c:Code} (h:Sx P c (Exit.inBlock id Q) n e w):Sx P (Code.block id c) Q n e w:=⟨λa ha=>wp_block (h.run a ha)⟩
theorem sx_skip (h:QX Q .normal n e w):Sx P Code.skip Q n e w:=⟨λa ha=>wp_skip (h.run a ha)⟩
theorem sx_exit {id:Nat} (h:QX Q (.exit id) n e w):Sx P (Code.exit id) Q n e w:=⟨λa ha=>wp_exit (h.run a ha)⟩
theorem sx_ret (h:QX Q .ret n e w):Sx P Code.ret Q n e w:=⟨λa ha=>wp_ret (h.run a ha)⟩
theorem sx_true {c:Lz} {x y:Code} (hc:ev e c=some (.bool true)) (h:Sx P x Q n e w):Sx P (Code.cond c x y) Q n e w:=⟨λa ha=>wp_cond_true (ha.eval _ _ hc) (h.run a ha)⟩
theorem sx_false {c:Lz} {x y:Code} (hc:ev e c=some (.bool false)) (h:Sx P y Q n e w):Sx P (Code.cond c x y) Q n e w:=⟨λa ha=>wp_cond_false (ha.eval _ _ hc) (h.run a ha)⟩
theorem sx_region {id:Nat} {l:List Oper} (h:SxL P l.toArray Q n l e w):Sx P (Code.region id l.toArray false) Q n e w:=⟨λa ha=>wp_region_lit (h.run a ha)⟩
theorem CS {id:Nat} {l:List Oper} (hm:P.follows .mixedOrders=true) (hB:Region.lexB .any l.toArray=true)
 (h:SxS P l.toArray w.drew (λa'=>Q .normal a' w.drew) n l e):Sx P (Code.region id l.toArray true) Q n e w:=⟨λa ha=>wp_region_still_lit hm hB (h.run a ha)⟩
theorem EB {id:Nat} {l:List Oper} (k:Nat) (hm:P.follows .mixedOrders=true) (hB:Region.lexTailB .any l.toArray k=true)
 (h:SxS P l.toArray w.drew (λa'=>wpList P l.toArray Q (l.drop k) a' w.drew) n (l.take k) e):Sx P (Code.region id l.toArray true) Q n e w:=⟨λa ha=>wp_region_still_tail k hm hB (h.run a ha)⟩
theorem kP {ops:Array Oper} (h:QX Q .normal n e w):SxS P ops w (λa'=>Q .normal a' w) n [] e:=⟨λa ha=>wpStill_nil (h.run a ha)⟩
theorem D6 {ops:Array Oper} {l:List Oper} (h:SxL P ops Q n l e w):SxS P ops w (λa'=>wpList P ops Q l a' w) n [] e:=⟨λa ha=>wpStill_nil (h.run a ha)⟩
theorem sxl_nil {ops:Array Oper} (h:QX Q .normal n e w):SxL P ops Q n [] e w:=⟨λa ha=>wpList_nil (h.run a ha)⟩
theorem qx_seq {y:Code} {Q':Exit→Act→Kw→Prop} (h:Sx P y Q n e w):QX (Exit.then (y.wp P Q) Q') .normal n e w:=⟨λa ha=>h.run a ha⟩
theorem nq {ops:Array Oper} {y:Code} {Q':Exit→Act→Kw→Prop} (h:Sx P y Q n e w):SxL P ops (Exit.then (y.wp P Q) Q') n [] e w:=sxl_nil (qx_seq h)
theorem srg {id:Nat} {l:List Oper} {y:Code} (h:SxL P l.toArray (Exit.then (y.wp P Q) Q) n l e w):Sx P (Code.seq (Code.region id l.toArray false) y) Q n e w:=sx_seq (sx_region h)
theorem qx_then_exit {K:Act→Kw→Prop} {id:Nat} (h:QX Q (.exit id) n e w):QX (Exit.then K Q) (.exit id) n e w:=⟨λa ha=>h.run a ha⟩
theorem qx_then_ret {K:Act→Kw→Prop} (h:QX Q .ret n e w):QX (Exit.then K Q) .ret n e w:=⟨λa ha=>h.run a ha⟩
theorem qx_block_normal {id:Nat} (h:QX Q .normal n e w):QX (Exit.inBlock id Q) .normal n e w:=⟨λa ha=>h.run a ha⟩
theorem qx_block_ret {id:Nat} (h:QX Q .ret n e w):QX (Exit.inBlock id Q) .ret n e w:=⟨λa ha=>h.run a ha⟩
theorem qx_block_hit {id:Nat} (h:QX Q .normal n e w):QX (Exit.inBlock id Q) (.exit id) n e w:=.mk λa ha=>by simp only [Exit.inBlock,if_true];exact h.run a ha
theorem IB {id id':Nat} (hne:Nat.beq id' id=false) (h:QX Q (.exit id') n e w):QX (Exit.inBlock id Q) (.exit id') n e w:=.mk λa ha=>by
 have:id'≠id:=λhe=>by subst he;simp at hne
 simp only [Exit.inBlock,this,if_false];exact h.run a ha
theorem qM {ops:Array Oper} {l:List Oper} {r:Env} (hl:r.le e) (h:SxL P ops Q n l r w):SxL P ops Q n l e w:=⟨λa ha=>h.run a (ha.weak hl)⟩
def Wn (ops:Array Oper) (e:Env) (o:Oper):Prop:=∀n a,Agr n e a→Region.wanted o (yielded ops a.tmps)=true
theorem wn_none {ops:Array Oper} {o:Oper} (h:o.guard=none):Wn ops e o:=λ_ a _=>by simp [Region.wanted,h]
theorem wn_on {ops:Array Oper} {o:Oper} {j d:Nat} {b:Bool} (h:o.guard=some (j,b)) (hj:(ops[j]?).bind (·.dst)=some d) (hb:e.get d=some (.bool b)):Wn ops e o:=λ_ a ha=>by
 simp [Region.wanted,h,yielded,hj,ha.get d _ hb]
theorem sxl_off {ops:Array Oper} {o:Oper} {rest:List Oper} {j d d':Nat} {b c:Bool} (h:o.guard=some (j,b)) (hj:(ops[j]?).bind (·.dst)=some d) (hb:e.get d=some (.bool c)) (hne:(c==b)=false) (hd:o.dst=some d') (hn:Nat.blt d' n=true)
 (k:SxL P ops Q n rest ((d',undef)::e) w):SxL P ops Q n (o::rest) e w:=.mk λa ha=>by
 have hw:Region.wanted o (yielded ops a.tmps)=false:=by
  simp only [Region.wanted,h,yielded,hj,ha.get d _ hb,Ey]
  cases c<;>cases b<;>simp_all
 unfold wpList;rw [if_neg (by simp [hw]),hd];exact k.run _ (ha.put (CF hn) _)
theorem EJ {ops:Array Oper} {q:Act→Prop} {o:Oper} {rest:List Oper} {j d d':Nat} {b c:Bool} (h:o.guard=some (j,b)) (hj:(ops[j]?).bind (·.dst)=some d) (hb:e.get d=some (.bool c)) (hne:(c==b)=false) (hd:o.dst=some d') (hn:Nat.blt d' n=true)
 (k:SxS P ops w q n rest ((d',undef)::e)):SxS P ops w q n (o::rest) e:=.mk λa ha=>by
 have hw:Region.wanted o (yielded ops a.tmps)=false:=by
  simp only [Region.wanted,h,yielded,hj,ha.get d _ hb,Ey]
  cases c<;>cases b<;>simp_all
 unfold wpStill;rw [if_neg (by simp [hw]),hd];exact k.run _ (ha.put (CF hn) _)
theorem DZ {ops:Array Oper} {o:Oper} {rest:List Oper} {j d d':Nat} {b:Bool} (h:o.guard=some (j,b)) (hj:(ops[j]?).bind (·.dst)=some d) (hb:e.get d=some undef) (hd:o.dst=some d') (hn:Nat.blt d' n=true)
 (k:SxL P ops Q n rest ((d',undef)::e) w):SxL P ops Q n (o::rest) e w:=.mk λa ha=>by
 have hw:Region.wanted o (yielded ops a.tmps)=false:=by
  simp [Region.wanted,h,yielded,hj,ha.get d _ hb,undef]
 unfold wpList;rw [if_neg (by simp [hw]),hd];exact k.run _ (ha.put (CF hn) _)
theorem R9 {ops:Array Oper} {q:Act→Prop} {o:Oper} {rest:List Oper} {j d d':Nat} {b:Bool} (h:o.guard=some (j,b)) (hj:(ops[j]?).bind (·.dst)=some d) (hb:e.get d=some undef) (hd:o.dst=some d') (hn:Nat.blt d' n=true)
 (k:SxS P ops w q n rest ((d',undef)::e)):SxS P ops w q n (o::rest) e:=.mk λa ha=>by
 have hw:Region.wanted o (yielded ops a.tmps)=false:=by
  simp [Region.wanted,h,yielded,hj,ha.get d _ hb,undef]
 unfold wpStill;rw [if_neg (by simp [hw]),hd];exact k.run _ (ha.put (CF hn) _)
def Y (P:Lw) (e:Env) (o:Oper) (w:Kw) (v:Kv):Prop:=∀ρ,Ag e ρ→(execOp ρ o).run P w=.ok (.value v) w
theorem sxl_y {ops:Array Oper} {o:Oper} {rest:List Oper} {d:Nat} {v:Kv} (hw:Wn ops e o) (hd:o.dst=some d) (hn:Nat.blt d n=true) (hy:Y P e o w v)
 (k:SxL P ops Q n rest ((d,v)::e) w):SxL P ops Q n (o::rest) e w:=.mk λa ha=>by
 unfold wpList;rw [if_pos (hw n a ha)];refine .inl ?_;unfold Oper.wp;rw [hy _ ha.eval,Oper.upon_value,hd];exact k.run _ (ha.put (CF hn) _)
theorem ya {ops:Array Oper} {o:Oper} {rest:List Oper} {d:Nat} {v:Kv} (h:(o.guard,o.dst,Nat.blt d n)=(none,some d,true)) (hy:Y P e o w v) (k:SxL P ops Q n rest ((d,v)::e) w):SxL P ops Q n (o::rest) e w:=
 sxl_y (wn_none (Bq h).1) (Bq (Bq h).2).1 (Bq (Bq h).2).2 hy k
theorem yd {ops:Array Oper} {o:Oper} {rest:List Oper} {j d' d:Nat} {b:Bool} {v:Kv} (h:(o.guard,(ops[j]?).bind (·.dst),e.get d',o.dst,Nat.blt d n)=(some (j,b),some d',some (.bool b),some d,true)) (hy:Y P e o w v) (k:SxL P ops Q n rest ((d,v)::e) w):SxL P ops Q n (o::rest) e w:=by
 simp only [Av] at h
 exact sxl_y (wn_on h.1 h.2.1 h.2.2.1) h.2.2.2.1 h.2.2.2.2 hy k
theorem yo {ops:Array Oper} {o:Oper} {rest:List Oper} {j d d':Nat} {b c:Bool} (h:(o.guard,(ops[j]?).bind (·.dst),e.get d,(c==b),o.dst,Nat.blt d' n)=(some (j,b),some d,some (.bool c),false,some d',true)) (k:SxL P ops Q n rest ((d',undef)::e) w):SxL P ops Q n (o::rest) e w:=
 sxl_off (Bq h).1 (Bq (Bq h).2).1 (Bq (Bq (Bq h).2).2).1 (Bq (Bq (Bq (Bq h).2).2).2).1 (Bq (Bq (Bq (Bq (Bq h).2).2).2).2).1 (Bq (Bq (Bq (Bq (Bq h).2).2).2).2).2 k
theorem W2 {ops:Array Oper} {q:Act→Prop} {o:Oper} {rest:List Oper} {d:Nat} {v:Kv} (hw:Wn ops e o) (hd:o.dst=some d) (hn:Nat.blt d n=true) (hy:Y P e o w v)
 (k:SxS P ops w q n rest ((d,v)::e)):SxS P ops w q n (o::rest) e:=.mk λa ha=>by
 unfold wpStill;rw [if_pos (hw n a ha)];unfold Oper.still;rw [hy _ ha.eval,Oper.stillUpon_value,hd];exact k.run _ (ha.put (CF hn) _)
theorem sxl_does {ops:Array Oper} {o:Oper} {rest:List Oper} {R:Kv→Kw→Prop} (d:Option Tmp) (hw:Wn ops e o) (hd:o.dst=d) (hn:JP n d=true) (hy:∀ρ,Ag e ρ→K2 P ρ o w R)
 (k:∀v w',R v w'→SxL P ops Q n rest (e.ins d v) w'):SxL P ops Q n (o::rest) e w:=.mk λa ha=>by
 unfold wpList;rw [if_pos (hw n a ha)];refine .inl ((hy _ ha.eval).wp λv w' hR=>?_);rw [hd];exact (k v w' hR).run _ (ha.ins hn v)
def YC (P:Lw) (e:Env) (o:Oper) (w:Kw) (f:FuncId) (args:Array Kv):Prop:=∀ρ,Ag e ρ→(execOp ρ o).run P w=.ok (.enter f args) w
theorem sxl_call {ops:Array Oper} {o:Oper} {rest:List Oper} {f:FuncId} {args:Array Kv} {R:Ending→Kw→Prop} (d:Option Tmp) (hw:Wn ops e o) (hd:o.dst=d) (hn:JP n d=true) (hy:YC P e o w f args) (hc:Calls P f args w R)
 (k:∀x w',R x w'→∃v,x=.returned v∧SxL P ops Q n rest (e.ins d v) w'):SxL P ops Q n (o::rest) e w:=.mk λa ha=>by
 unfold wpList;rw [if_pos (hw n a ha)];refine .inl ?_;unfold Oper.wp;rw [hy _ ha.eval,Oper.upon_enter];refine hc.mono λx w' hR=>?_
 obtain ⟨v,rfl,h⟩:=k x w' hR;simp only [hd];exact h.run _ (ha.ins hn v)
def QU : Nat→Kx→Env
 | _,[]=>[]
 | i,v::vs=>(i,v)::QU (i+1) vs
theorem QT : ∀(vs:Kx) (i k:Nat) (v:Kv),(QU i vs).get k=some v→i≤k∧vs[k-i]?=some v
 | [],_,_,_,h=>by simp [QU,Env.get] at h
 | u::vs,i,k,v,h=>by
  unfold QU Env.get at h
  split at h
  ·rename_i hb
   obtain rfl:i=k:=Ce hb;simp only [Ad] at h
   subst h
   simp
  obtain ⟨h1,h2⟩:=QT vs (i+1) k v h;refine ⟨by omega,?_⟩;rw [show k-i=(k-(i+1))+1 by omega,Bn];exact h2
theorem sx_enter {f:FuncId} {fn:Func} {c:Code} {vs:Kx} {R:Ending→Kw→Prop} (hf:P.funcs[f]?=some fn) (hb:fn.body=some c) (hn:fn.ntmps=n) (hl:Nat.ble vs.length n=true)
 (h:Sx P c (bodyPost P fn R) n (QU 0 vs) w):Calls P f vs.toArray w R:=by
 refine calls_of_wp hf hb (h.run _ ⟨?_,X,?_⟩)
 ·have:vs.length≤n:=Ee hl
  simp [hn];omega
 intro k v hk;obtain ⟨_,h2⟩:=QT vs 0 k v hk;rw [Nat.sub_zero] at h2
 have hlt:k<vs.length:=(Aj.1 h2).1;rw [Ic (by simpa using hlt)]
 simpa using h2
theorem qx_ret0 {fn:Func} {R:Ending→Kw→Prop} {x:Exit} (hx:x=.ret∨x=.normal) (hr:fn.results = #[]) (h:R (.returned (.tuple #[])) w):QX (bodyPost P fn R) x n e w:=.mk λa ha=>by
 have:(results fn a.tmps).run P w=.ok (.tuple #[]) w:=by simp [results,hr]
 rcases hx with rfl|rfl<;>exact ⟨ha.defers,_,this,h⟩
theorem qx_ret1 {fn:Func} {R:Ending→Kw→Prop} {t:Nat} {v:Kv} (hr:fn.results = #[.tmp t]) (hv:e.get t=some v) (h:R (.returned v) w):QX (bodyPost P fn R) .ret n e w:=.mk λa ha=>by
 have:(results fn a.tmps).run P w=.ok v w:=by simp [results,hr,ha.get t v hv]
 exact ⟨ha.defers,_,this,h⟩
theorem AZ {fn:Func} {R:Ending→Kw→Prop} {t u:Nat} {v v':Kv} (hr:fn.results = #[.tmp t,.tmp u]) (hv:e.get t=some v) (hv':e.get u=some v') (h:R (.returned (.tuple #[v,v'])) w):QX (bodyPost P fn R) .ret n e w:=.mk λa ha=>by
 have:(results fn a.tmps).run P w=.ok (.tuple #[v,v']) w:=by simp [results,hr,ha.get t v hv,ha.get u v' hv']
 exact ⟨ha.defers,_,this,h⟩
theorem DH {fn:Func} {R:Ending→Kw→Prop} {t u s:Nat} {v v' v'':Kv} (hr:fn.results = #[.tmp t,.tmp u,.tmp s]) (hv:e.get t=some v) (hv':e.get u=some v') (hv'':e.get s=some v'') (h:R (.returned (.tuple #[v,v',v''])) w):QX (bodyPost P fn R) .ret n e w:=.mk λa ha=>by
 have:(results fn a.tmps).run P w=.ok (.tuple #[v,v',v'']) w:=by simp [results,hr,ha.get t v hv,ha.get u v' hv',ha.get s v'' hv'']
 exact ⟨ha.defers,_,this,h⟩
theorem a2w (p:Nat→Prop) (h:∃m,p m):∃m,p m∧∀k,p k→m≤k:=by
 obtain ⟨m,hm⟩:=h
 induction m using Nat.strongRecOn with
 | _ m ih=>
  by_cases hs:∃k,k<m∧p k
  ·obtain ⟨k,hk,hp⟩:=hs;exact ih k hk hp
  exact ⟨m,hm,λk hp=>Nat.le_of_not_lt λhlt=>hs ⟨k,hlt,hp⟩⟩
def Again (I:Env→Kw→Nat→Prop) (n m:Nat) (a:Act) (w:Kw):Prop:=∃e m',I e w m'∧m'<m∧Agr n e a
theorem sx_loop {c:Code} (I:Env→Kw→Nat→Prop) {m0:Nat} {e0:Env} (h0:I e0 w m0) (hl:e0.le e)
 (round:∀e w m,I e w m→Sx P c (Exit.then (Again I n m) Q) n e w):Sx P (Code.loop c) Q n e w:=by
 refine ⟨λa ha=>?_⟩
 have hp:∀a w,(∃e m,I e w m∧Agr n e a)→∃m,(∃e,I e w m∧Agr n e a)∧∀k,(∃e,I e w k∧Agr n e a)→m≤k:=
  λa w ⟨e,m,h⟩=>a2w _ ⟨m,e,h⟩
 classical
 let μ:Act→Kw→Nat:=λa w=>if h:∃e m,I e w m∧Agr n e a then (hp a w h).choose else 0
 have hμ:∀a w e m,I e w m→Agr n e a→μ a w≤m∧∃e',I e' w (μ a w)∧Agr n e' a:=by
  intro a w e m hI hA;have hex:∃e m,I e w m∧Agr n e a:=⟨e,m,hI,hA⟩
  have hs:=(hp a w hex).choose_spec
  have:μ a w=(hp a w hex).choose:=dif_pos hex
  rw [this];exact ⟨hs.2 m ⟨e,hI,hA⟩,hs.1⟩
 refine wp_loop (λa w=>∃e m,I e w m∧Agr n e a) μ ⟨e0,m0,h0,ha.weak hl⟩ ?_;rintro a w ⟨e,m,hI,hA⟩;obtain ⟨hle,e',hI',hA'⟩:=hμ a w e m hI hA;refine wp_mono ((round e' w (μ a w) hI').run a hA') λx a' w' hx=>?_
 cases x with
 | normal=>
  obtain ⟨e'',m'',h1,h2,h3⟩:=hx;exact ⟨⟨e'',m'',h1,h3⟩,Hk (hμ a' w' e'' m'' h1 h3).1 h2⟩
 | exit id=>exact hx
 | goto l=>exact hx
 | ret=>exact hx
 | panic ch=>exact hx
 | outgrown=>exact hx
theorem qx_again {I:Env→Kw→Nat→Prop} {m:Nat} (r:Env) (m':Nat) (hI:I r w m') (hm:m'<m) (hl:r.le e):QX (Exit.then (Again I n m) Q) .normal n e w:=⟨λ_ ha=>⟨r,m',hI,hm,ha.weak hl⟩⟩
end
end
section
structure Cell (h:Array Obj) (g off:Nat) (v:Kv):Prop where
 get:∀w:Kw,w.heap=h→w.cell? ⟨g,off,none⟩=some v
theorem Cell.of {w:Kw} {g off:Nat} {v:Kv} (h:w.cell? ⟨g,off,none⟩=some v):Cell w.heap g off v:=
 ⟨λw' hw=>by rw [←h];exact World.cell?_of_block (w:=w) (by rw [hw])⟩
theorem Blk.c {w:Kw} {g:Nat} {t:Ly} {cs:Kx} (h:Blk w g t cs) (off:Nat) {v:Kv} (hv:cs[off]?=some v):Cell w.heap g off v:=Cell.of ((h.cell off).trans hv)
theorem Cell.fr {S:Nat→Prop} {w w':Kw} {g off:Nat} {v:Kv} (h:Cell w.heap g off v) (hf:Fr S w w') (hn:¬S g):Cell w'.heap g off v:=
 have hc:=h.get w X
 Cell.of ((hf.cell (p:=⟨g,off,none⟩) (World.block_lt_of_cell? w _ hc) hn).trans hc)
def OO (P:Lw) (s f:Nat):Option Nat:=match P.underlying s with
 | some (.struct fs)=>match fs[f]? with
  | some fd=>match P.info? fd.type with
   | some i=>if i.size=0 then none else some fd.offset
   | none=>none
  | none=>none
 | _=>none
def L9 (P:Lw) (t:Nat):Bool:=match P.underlying t with
 | some (.struct _)|some (.array _ _)|none=>false
 | some _=>true
def EZ (P:Lw) (t:Nat):Option (Nat × Nat):=match P.underlying t with
 | some (.slice e)=>match P.info? e with
  | some i=>some (e,i.size)
  | none=>none
 | _=>none
def PF (P:Lw) (t:Nat):Option (Nat × Nat × Nat):=match P.underlying t with
 | some (.array n e)=>match P.info? e with
  | some i=>some (n,e,i.size)
  | none=>none
 | _=>none
def P4 (P:Lw) (t:Nat):Option Nat:=match P.underlying t with
 | some (.pointer el)=>some el
 | _=>none
theorem WN {P:Lw} {t el:Nat} (h:P4 P t=some el):P.underlying t=some (.pointer el):=by
 unfold P4 at h
 split at h
 ·rename_i hu;simp only [Ad] at h;subst h;exact hu
 cases h
section
variable {P:Lw} {e:Env} {w:Kw} {o:Oper}
theorem a0A {x:Lz} {v:Kv} (ho:o.op=.move x) (hx:ev e x=some v):Y P e o w v:=λρ h=>by
 unfold execOp;simp only [ho];rw [h _ _ hx];rfl
theorem pJ {x:Lz} {v:Kv} (ho:o.op=.assign x) (hx:ev e x=some v):Y P e o w v:=λρ h=>by
 unfold execOp;simp only [ho];rw [h _ _ hx];rfl
theorem pG {c x y:Lz} {v:Kv} (ho:o.op=.pick c x y) (hc:ev e c=some (.bool true)) (hx:ev e x=some v):Y P e o w v:=λρ h=>by
 unfold execOp;simp [ho,h _ _ hc,h _ _ hx,asBool]
theorem pH {c x y:Lz} {v:Kv} (ho:o.op=.pick c x y) (hc:ev e c=some (.bool false)) (hx:ev e y=some v):Y P e o w v:=λρ h=>by
 unfold execOp;simp [ho,h _ _ hc,h _ _ hx,asBool]
theorem a2b {x:Lz} {p:Addr} (ho:o.op=.nilCheck x) (hx:ev e x=some (.pointer (some p))):Y P e o w (.pointer (some p)):=λρ h=>by
 unfold execOp;simp only [ho,h _ _ hx];rfl
theorem vW {s f k g off:Nat} {x:Lz} (ho:o.op=.fieldAddr s x f) (hx:ev e x=some (.pointer (some ⟨g,off,none⟩))) (hf:OO P s f=some k):Y P e o w (.pointer (some ⟨g,off+k,none⟩)):=λρ h=>by
 unfold OO at hf
 split at hf
 ·rename_i fs hu
  split at hf
  ·rename_i fd hfd
   split at hf
   ·rename_i i hi
    split at hf
    ·cases hf
    rename_i hz
    simp only [Ad] at hf
    subst hf;unfold execOp
    simp [ho,h _ _ hx,Instr.fieldAt,run_underlying hu,hfd,Instr.sureAddr,fieldPlace,sizeOf,typeInfo,hi,hz,Addr.add_mid]
   cases hf
  cases hf
 cases hf
theorem B2 {t g off:Nat} {x:Lz} {v:Kv} (ho:o.op=.load t x) (hx:ev e x=some (.pointer (some ⟨g,off,none⟩))) (ht:L9 P t=true) (hc:Cell w.heap g off v):Y P e o w v:=λρ h=>by
 have hcell:=hc.get w X;unfold L9 at ht
 have ha:(isAgg t).run P w=.ok false w:=by
  cases hu:P.underlying t with
  | none=>simp [hu] at ht
  | some d=>
   unfold isAgg;rw [Sem.run_bind,run_underlying hu w]
   cases d<;>simp_all
 unfold execOp;simp only [ho,h _ _ hx,Instr.loadAt,Instr.sureAddr,Sem.run_bind,Sem.run_pure,Result.andThen_ok,loadVar,ha,Db,if_false]
 simp [hcell]
theorem D4 {t t':Nat} {k:IntKind} {a b:Int} {x y:Lz} (ho:o.op=.binOp .lss t x y t') (hx:ev e x=some (.int k a)) (hy:ev e y=some (.int k b)) (hc:a<b):Y P e o w (.bool true):=λρ h=>by
 unfold execOp;simp [ho,h _ _ hx,h _ _ hy,eqGuard_at_int,binOp_lss];omega
theorem DD {t t':Nat} {k:IntKind} {a b:Int} {x y:Lz} (ho:o.op=.binOp .lss t x y t') (hx:ev e x=some (.int k a)) (hy:ev e y=some (.int k b)) (hc:¬(a<b)):Y P e o w (.bool false):=λρ h=>by
 unfold execOp;simp [ho,h _ _ hx,h _ _ hy,eqGuard_at_int,binOp_lss];omega
theorem J4 {t t':Nat} {k:IntKind} {a b:Int} {x y:Lz} (ho:o.op=.binOp .leq t x y t') (hx:ev e x=some (.int k a)) (hy:ev e y=some (.int k b)) (hc:a≤b):Y P e o w (.bool true):=λρ h=>by
 unfold execOp;simp [ho,h _ _ hx,h _ _ hy,eqGuard_at_int,binOp_leq];omega
theorem DT {t t':Nat} {k:IntKind} {a b:Int} {x y:Lz} (ho:o.op=.binOp .leq t x y t') (hx:ev e x=some (.int k a)) (hy:ev e y=some (.int k b)) (hc:¬(a≤b)):Y P e o w (.bool false):=λρ h=>by
 unfold execOp;simp [ho,h _ _ hx,h _ _ hy,eqGuard_at_int,binOp_leq];omega
theorem OX {t t':Nat} {k:IntKind} {a b:Int} {x y:Lz} (ho:o.op=.binOp .gtr t x y t') (hx:ev e x=some (.int k a)) (hy:ev e y=some (.int k b)) (hc:b<a):Y P e o w (.bool true):=λρ h=>by
 unfold execOp;simp [ho,h _ _ hx,h _ _ hy,eqGuard_at_int,binOp_gtr];omega
theorem II {t t':Nat} {k:IntKind} {a b:Int} {x y:Lz} (ho:o.op=.binOp .gtr t x y t') (hx:ev e x=some (.int k a)) (hy:ev e y=some (.int k b)) (hc:¬(b<a)):Y P e o w (.bool false):=λρ h=>by
 unfold execOp;simp [ho,h _ _ hx,h _ _ hy,eqGuard_at_int,binOp_gtr];omega
theorem DE {t t':Nat} {k:IntKind} {a b:Int} {x y:Lz} (ho:o.op=.binOp .geq t x y t') (hx:ev e x=some (.int k a)) (hy:ev e y=some (.int k b)) (hc:b≤a):Y P e o w (.bool true):=λρ h=>by
 unfold execOp;simp [ho,h _ _ hx,h _ _ hy,eqGuard_at_int,binOp_geq];omega
theorem C4 {t t':Nat} {k:IntKind} {a b:Int} {x y:Lz} (ho:o.op=.binOp .geq t x y t') (hx:ev e x=some (.int k a)) (hy:ev e y=some (.int k b)) (hc:¬(b≤a)):Y P e o w (.bool false):=λρ h=>by
 unfold execOp;simp [ho,h _ _ hx,h _ _ hy,eqGuard_at_int,binOp_geq];omega
theorem DF {t t':Nat} {k:IntKind} {a b:Int} {x y:Lz} (ho:o.op=.binOp .eql t x y t') (hx:ev e x=some (.int k a)) (hy:ev e y=some (.int k b)) (hc:a=b):Y P e o w (.bool true):=λρ h=>by
 unfold execOp;simp [ho,h _ _ hx,h _ _ hy,eqGuard_at_int,binOp_eql];omega
theorem BP {t t':Nat} {k:IntKind} {a b:Int} {x y:Lz} (ho:o.op=.binOp .eql t x y t') (hx:ev e x=some (.int k a)) (hy:ev e y=some (.int k b)) (hc:¬(a=b)):Y P e o w (.bool false):=λρ h=>by
 unfold execOp;simp [ho,h _ _ hx,h _ _ hy,eqGuard_at_int,binOp_eql];omega
theorem UU {t t':Nat} {k:IntKind} {a b:Int} {x y:Lz} (ho:o.op=.binOp .neq t x y t') (hx:ev e x=some (.int k a)) (hy:ev e y=some (.int k b)) (hc:a≠b):Y P e o w (.bool true):=λρ h=>by
 unfold execOp;simp [ho,h _ _ hx,h _ _ hy,eqGuard_at_int,binOp_neq];omega
theorem UV {t t':Nat} {k:IntKind} {a b:Int} {x y:Lz} (ho:o.op=.binOp .neq t x y t') (hx:ev e x=some (.int k a)) (hy:ev e y=some (.int k b)) (hc:¬(a≠b)):Y P e o w (.bool false):=λρ h=>by
 unfold execOp;simp [ho,h _ _ hx,h _ _ hy,eqGuard_at_int,binOp_neq];omega
theorem FS {t t':Nat} {a b:Int} {x y:Lz} (ho:o.op=.binOp .add t x y t') (hx:ev e x=some (.int .i64 a)) (hy:ev e y=some (.int .i64 b)) (hc : -9223372036854775808≤a+b∧a+b≤9223372036854775807):Y P e o w (.int .i64 (a+b)):=λρ h=>by
 unfold execOp;simp [ho,h _ _ hx,h _ _ hy,eqGuard_at_int,binOp_add,Op.intArith,IntWalk.i64_in _ hc]
theorem MN {t t':Nat} {a b:Int} {x y:Lz} (ho:o.op=.binOp .sub t x y t') (hx:ev e x=some (.int .i64 a)) (hy:ev e y=some (.int .i64 b)) (hc : -9223372036854775808≤a-b∧a-b≤9223372036854775807):Y P e o w (.int .i64 (a-b)):=λρ h=>by
 unfold execOp;simp [ho,h _ _ hx,h _ _ hy,eqGuard_at_int,binOp_sub,Op.intArith,IntWalk.i64_in _ hc]
theorem cK {t t':Nat} {a b:Int} {x y:Lz} (ho:o.op=.binOp .mul t x y t') (hx:ev e x=some (.int .i64 a)) (hy:ev e y=some (.int .i64 b)) (hc : -9223372036854775808≤a*b∧a*b≤9223372036854775807):Y P e o w (.int .i64 (a*b)):=λρ h=>by
 unfold execOp;simp [ho,h _ _ hx,h _ _ hy,eqGuard_at_int,binOp_mul,Op.intArith,IntWalk.i64_in _ hc]
theorem TU {t t':Nat} {a b:Int} {x y:Lz} (ho:o.op=.binOp .quo t x y t') (hx:ev e x=some (.int .i64 a)) (hy:ev e y=some (.int .i64 b)) (ha:0≤a∧a≤9223372036854775807) (hb:0<b):Y P e o w (.int .i64 (a / b)):=λρ h=>by
 have h1:a.tdiv b=a / b:=Int.tdiv_eq_ediv_of_nonneg ha.1;have h2:a / b≤a:=Int.ediv_le_self _ ha.1;have h3:0≤a / b:=Int.ediv_nonneg ha.1 (by omega);have h4:¬b=0:=by omega
 unfold execOp;simp [ho,h _ _ hx,h _ _ hy,eqGuard_at_int,binOp_quo,Op.intDiv,h4,h1,IntWalk.i64_in (a / b) ⟨by omega,by omega⟩]
theorem TT {t t':Nat} {k:IntKind} {a b:Int} {x y:Lz} (ho:o.op=.binOp .rem t x y t') (hx:ev e x=some (.int k a)) (hy:ev e y=some (.int k b)) (ha:0≤a) (hb:0<b):Y P e o w (.int k (a%b)):=λρ h=>by
 have h1:a.tmod b=a%b:=Int.tmod_eq_emod_of_nonneg ha;have h4:¬b=0:=by omega
 unfold execOp;simp [ho,h _ _ hx,h _ _ hy,eqGuard_at_int,binOp_rem,Op.intDiv,h4,h1]
theorem a2a {t:Nat} {b:Bool} {x:Lz} (ho:o.op=.unOp .not t x) (hx:ev e x=some (.bool b)):Y P e o w (.bool (!b)):=λρ h=>by
 unfold execOp;simp [ho,h _ _ hx,Op.unary]
theorem CY {f:Fn} {xs ys:List Lz} {us vs:Kx} (ho:o.op=.makeFunc f xs.toArray ys.toArray) (hx:evs e xs=some us) (hy:evs e ys=some vs):Y P e o w (.func f us.toArray vs.toArray):=λρ h=>by
 unfold execOp;simp [ho,Instr.makeFunc,h.all hx,h.all hy]
theorem m7 {x:Lz} {ix:Nat} {vs:Array Kv} {v:Kv} (ho:o.op=.extract x ix) (hx:ev e x=some (.tuple vs)) (hv:vs[ix]?=some v):Y P e o w v:=λρ h=>by
 unfold execOp;simp [ho,h _ _ hx,Instr.extract,hv]
theorem vV {t g off len cap sz el:Nat} {m:Int} {k:IntKind} {x i:Lz} (ho:o.op=.indexAddr t x i) (hx:ev e x=some (.slice (some ⟨g,off,none⟩) len cap)) (hi:ev e i=some (.int k m)) (ht:EZ P t=some (el,sz)) (h0:0≤m∧m<len) :
 Y P e o w (.pointer (some ⟨g,off+m.toNat*sz,none⟩)):=λρ h=>by
 unfold EZ at ht
 split at ht
 ·rename_i el' hu
  split at ht
  ·rename_i i' hi'
   simp only [Ad,Av] at ht
   obtain ⟨rfl,rfl⟩:=ht;unfold execOp
   simp [ho,h _ _ hx,h _ _ hi,Instr.indexAt,asIntOf,run_underlying hu,h0.1,h0.2,sizeOf,typeInfo,hi',Addr.add_mid]
  cases ht
 cases ht
theorem HG {t g off len cap sz el j:Nat} {k:IntKind} {x i:Lz} (ho:o.op=.indexAddr t x i) (hx:ev e x=some (.slice (some ⟨g,off,none⟩) len cap)) (hi:ev e i=some (.int k (j:Int))) (ht:EZ P t=some (el,sz)) (h0:j<len) :
 Y P e o w (.pointer (some ⟨g,off+j*sz,none⟩)):=vV ho hx hi ht ⟨by omega,by omega⟩
theorem G1 {t g off len sz el:Nat} {m:Int} {k:IntKind} {x i:Lz} (ho:o.op=.indexAddr t x i) (hx:ev e x=some (.pointer (some ⟨g,off,none⟩))) (hi:ev e i=some (.int k m)) (ht:PF P t=some (len,el,sz)) (h0:0≤m∧m<len) :
 Y P e o w (.pointer (some ⟨g,off+m.toNat*sz,none⟩)):=λρ h=>by
 unfold PF at ht
 split at ht
 ·rename_i el' n' hu
  split at ht
  ·rename_i i' hi'
   simp only [Ad,Av] at ht
   obtain ⟨rfl,rfl,rfl⟩:=ht;unfold execOp
   simp [ho,h _ _ hx,h _ _ hi,Instr.indexAt,asIntOf,run_underlying hu,Instr.sureAddr,h0.1,h0.2,sizeOf,typeInfo,hi',Addr.add_mid]
  cases ht
 cases ht
theorem I7 {t n c el sz:Nat} {x:Lz} {A:Ky} (ho:o.op=.call { callee:=.builtin .len,args := #[x],argTypes := #[t] }) (hx:ev e x=some (.slice A n c)) (ht:EZ P t=some (el,sz)):Y P e o w (.int .i64 (n:Int)):=λρ h=>by
 unfold EZ at ht
 split at ht
 ·rename_i el' hu
  unfold execOp
  simp [ho,h _ _ hx,resolve,invoke,builtin,Builtin.len_,run_underlying hu,goInt]
 cases ht
theorem m5 {t len cap sz el:Nat} {A:Ky} {m:Int} {k:IntKind} {x i:Lz} (ho:o.op=.slice t x none (some i) none) (hx:ev e x=some (.slice A len cap)) (hi:ev e i=some (.int k m)) (ht:EZ P t=some (el,sz)) (h0:0≤m∧m≤cap) :
 Y P e o w (.slice A m.toNat cap):=λρ h=>by
 unfold EZ at ht
 split at ht
 ·rename_i el' hu
  split at ht
  ·rename_i i' hi'
   simp only [Ad,Av] at ht
   obtain ⟨rfl,rfl⟩:=ht;have ha:(A.map λx:Addr=>x.add 0)=A:=by cases A<;>simp [Addr.add_zero']
   unfold execOp
   simp [ho,h _ _ hx,h _ _ hi,Instr.sliceAt,Instr.slice,run_underlying hu,Instr.sliceBounds,Instr.sliceBound,asIntOf,h0.1,h0.2,sizeOf,typeInfo,hi',ha]
  cases ht
 cases ht
def LH (F:Nat→Nat→Option Nat) (e:Env):Op→Option Kv
 | .move x=>ev e x
 | .assign x=>ev e x
 | .pick c x y=>match ev e c with
  | some (.bool true)=>ev e x
  | some (.bool false)=>ev e y
  | _=>none
 | .nilCheck x=>match ev e x with
  | some (.pointer (some p))=>some (.pointer (some p))
  | _=>none
 | .fieldAddr s x f=>match ev e x,F s f with
  | some (.pointer (some ⟨g,off,none⟩)),some k=>some (.pointer (some ⟨g,off+k,none⟩))
  | _,_=>none
 | .extract x i=>match ev e x with
  | some (.tuple vs)=>vs[i]?
  | _=>none
 | .unOp u _ x=>match u,ev e x with
  | .not,some (.bool b)=>some (.bool (!b))
  | _,_=>none
 | _=>none
theorem a0y {F:Nat→Nat→Option Nat} {v:Kv} (hF:∀s f k,F s f=some k→OO P s f=some k) (h:LH F e o.op=some v):Y P e o w v:=by
 cases ho:o.op<;>rw [ho] at h<;>simp only [LH] at h
 all_goals first
  | exact a0A ho h
  | exact pJ ho h
  | cases h
  | skip
 ·split at h
  ·rename_i hc;exact pG ho hc h
  ·rename_i hc;exact pH ho hc h
  cases h
 ·split at h
  ·rename_i hc;simp only [Ad] at h;subst h;exact a2b ho hc
  cases h
 ·split at h
  ·rename_i hc;simp only [Ad] at h;subst h;exact a2a ho hc
  cases h
 ·split at h
  ·rename_i hc hf;simp only [Ad] at h;subst h;exact vW ho hc (hF _ _ _ hf)
  cases h
 split at h
 ·rename_i hc;exact m7 ho hc h
 cases h
theorem AD {f:FuncId} {xs:List Lz} {vs:Kx} {ts:Array Ly} (ho:o.op=.call { callee:=.value (.func f),args:=xs.toArray,argTypes:=ts }) (hx:evs e xs=some vs) (hc:∀(us:Array Kv) (w:Kw),(callFunc f us).run P w=.ok (.enter f us) w):YC P e o w f vs.toArray:=λρ h=>by
 have:=h.all hx
 unfold execOp
 simp [ho,resolve,h (.func f) _ rfl,Deferred.ofValue,invoke,hc,this]
theorem C5 {f:FuncId} {x:Lz} {cs:Kx} {xs:List Lz} {vs:Kx} {ts:Array Ly} (ho:o.op=.call { callee:=.value x,args:=xs.toArray,argTypes:=ts }) (hf:ev e x=some (.func (.func f) #[] cs.toArray)) (hx:evs e xs=some vs) (hc:∀(us:Array Kv) (w:Kw),(callFunc f us).run P w=.ok (.enter f us) w):YC P e o w f (vs++cs).toArray:=λρ h=>by
 have:=h.all hx
 unfold execOp
 simp [ho,resolve,h _ _ hf,Deferred.ofValue,invoke,hc,this]
theorem CE {s d:Nat} {k k':IntKind} {m:Int} {x:Lz} {ds:TypeDesc} (ho:o.op=.convert s d x) (hx:ev e x=some (.int k m)) (hs:P.underlying s=some ds) (hd:P.underlying d=some (.int k')) {r:Int} (hr:k'.wrap m=r):Y P e o w (.int k' r):=λρ h=>by
 subst hr;unfold execOp
 simp [ho,h _ _ hx,convert,run_underlying hs,run_underlying hd,Conv.intToInt]
theorem YF {t el:Nat} (hu:P.underlying t=some (.pointer el)) (a:Ky):(Op.equal t (.pointer a) (.pointer none)).run P w=.ok a.isNone w:=by
 unfold Op.equal Op.maxDepth Op.equalIn
 cases a<;>simp [run_underlying hu]
theorem MO {t t' el:Nat} {a:Ky} {x y:Lz} (ho:o.op=.binOp .eql t x y t') (hx:ev e x=some (.pointer a)) (hy:ev e y=some (.pointer none)) (hu:P4 P t=some el):Y P e o w (.bool a.isNone):=λρ h=>by
 unfold execOp;simp [ho,h _ _ hx,h _ _ hy,eqGuard_at_pointer,binOp,YF (WN hu)]
theorem OE {t:Nat} (hu:P.underlying t=some .bool) (a b:Bool):(Op.equal t (.bool a) (.bool b)).run P w=.ok (a==b) w:=by
 unfold Op.equal Op.maxDepth Op.equalIn
 simp [run_underlying hu]
theorem m8 {t t':Nat} {a b:Bool} {x y:Lz} (ho:o.op=.binOp .eql t x y t') (hx:ev e x=some (.bool a)) (hy:ev e y=some (.bool b)) (hu:P.underlying t=some .bool):Y P e o w (.bool (a==b)):=λρ h=>by
 unfold execOp;simp [ho,h _ _ hx,h _ _ hy,eqGuard_at_bool,binOp,OE hu]
theorem SH {t t':Nat} {a b:Bool} {x y:Lz} (ho:o.op=.binOp .neq t x y t') (hx:ev e x=some (.bool a)) (hy:ev e y=some (.bool b)) (hu:P.underlying t=some .bool):Y P e o w (.bool (!(a==b))):=λρ h=>by
 unfold execOp;simp [ho,h _ _ hx,h _ _ hy,eqGuard_at_bool,binOp,OE hu]
end
end
section
def J6 (ops:Array Oper) (h t:Nat):Bool:=(List.range ops.size).all λj=>decide (j<t) || (List.range h).all λi=>Region.waitsFor .any ops j i
def KK (P:Lw) (ops:Array Oper) (Q:Exit→Act→Kw→Prop) (t:Nat) (S:Kw→Prop):Nat→Array Bool→Act→Kw→Prop
 | 0,listed,a,w=>Region.ready .any ops listed=[]∧Q .normal a w
 | fuel+1,listed,a,w=>
  (Region.ready .any ops listed=[]→Q .normal a w) ∧
  ∀i∈Region.ready .any ops listed,wpOp P ops Q i (λa' w'=>(i<t→S w')∧KK P ops Q t S fuel (listed.setIfInBounds i true) a' w') a w
section
variable {P:Lw} {ops:Array Oper} {Q:Exit→Act→Kw→Prop} {S:Kw→Prop} {h t:Nat}
theorem Q1 : ∀(fuel:Nat) (listed:Array Bool) (a:Act) (w:Kw),KK P ops Q t S fuel listed a w→wpAny P .any ops Q fuel listed a w
 | 0,_,_,_,h=>h
 | fuel+1,_,_,_,h=>⟨h.1,λi hi=>wpOp_mono (λa' w' h'=>Q1 fuel _ a' w' h'.2) (h.2 i hi)⟩
theorem N8 {i:Nat} {oi:Oper} {v:Kv} (hi:ops[i]?=some oi) (hsel:∀(j:Nat) (o:Oper) cs b,ops[j]?=some o→o.op≠.select cs b)
 (hQ:∀c a w,Q (.panic c) (a.put oi.dst v) w→Q (.panic c) a w) (hwait:J6 ops h t=true) (hih:i<h) :
 ∀(fuel:Nat) (listed:Array Bool) (a:Act) (w:Kw),
  (∀j oj,ops[j]?=some oj→j≠i→listed.getD j true=false→(∀e∈oj.after,Region.binds .any e=true→e.on≠i)→oi.apart ops oj=true) →
  i∈Region.ready .any ops listed→YieldsIf P ops S oi v a→S w →
  KK P ops Q t S fuel (listed.setIfInBounds i true) (a.put oi.dst v) w→KK P ops Q t S (fuel+1) listed a w:=by
 intro fuel
 induction fuel with
 | zero=>
  intro listed a w _ hr hy hS H;refine ⟨λh=>(by rw [h] at hr;cases hr),λj hj=>?_⟩
  by_cases hji:j=i
  ·subst hji;exact hy.wpOp hi hS ⟨λ_=>hS,H⟩
  have:=ready_mono hj hji
  rw [H.1] at this
  cases this
 | succ fuel ih=>
  intro listed a w hfree hr hy hS H;refine ⟨λh=>(by rw [h] at hr;cases hr),λj hj=>?_⟩
  by_cases hji:j=i
  ·subst hji;exact hy.wpOp hi hS ⟨λ_=>hS,H⟩
  have h1:=H.2 j (ready_mono hj hji);obtain ⟨hjun,oj,hoj,hall⟩:=mem_ready.1 hj
  have hnot:∀e∈oj.after,Region.binds .any e=true→e.on≠i:=λe he hb heq=>by
   have h1:=hall e he hb;have h0:=(mem_ready.1 hr).1;rw [heq,getD_both h0] at h1
   cases h1
  have hjt:j<t:=by
   have h2:=Ci.1 hwait j (Eu.2 (An.1 hoj).1);simp only [Dm,decide_eq_true_eq] at h2
   rcases h2 with h2|h2
   ·exact h2
   obtain ⟨o',ho',e,he,hb,hon⟩:=Region.waitsFor_spec (Ci.1 h2 i (Eu.2 hih));rw [hoj] at ho'
   injection ho' with ho'
   subst ho';exact absurd hon (hnot e he hb)
  have h2:=wpOp_putIf hoj (hfree j oj hoj hji hjun hnot) (λcs b=>hsel i oi cs b hi) (λcs b=>hsel j oj cs b hoj) hQ hy h1
  have hfree':∀k ok,ops[k]?=some ok→k≠i→(listed.setIfInBounds j true).getD k true=false →
   (∀e∈ok.after,Region.binds .any e=true→e.on≠i)→oi.apart ops ok=true:=λk ok hk hki hun hno=>by
   refine hfree k ok hk hki ?_ hno
   by_cases hjk:j=k
   ·subst hjk;exact hjun
   rw [getD_set_ne true hjk] at hun;exact hun
  refine wpOp_mono (λa' w' h3=>⟨h3.2.1,ih (listed.setIfInBounds j true) a' w' hfree' (ready_mono hr (Ej hji)) h3.1 (h3.2.1 hjt) ?_⟩) h2;rw [Ip _ _ hji];exact h3.2.2
theorem PS : ∀(fuel:Nat) (listed:Array Bool) (a:Act) (w:Kw),(∀i,i<t→listed.getD i true=true)→wpAny P .any ops Q fuel listed a w→KK P ops Q t S fuel listed a w
 | 0,_,_,_,_,h=>h
 | fuel+1,listed,_,_,hd,h=>by
  refine ⟨h.1,λi hi=>wpOp_mono (λa' w' h'=>?_) (h.2 i hi)⟩
  have hno:¬i<t:=λhit=>by
   have h0:=(mem_ready.1 hi).1;rw [hd i hit] at h0;cases h0
  refine ⟨λhit=>absurd hit hno,PS fuel _ a' w' (λk hk=>?_) h'⟩;rw [getD_set_ne true (λe:i=k=>hno (by omega))];exact hd k hk
structure SxO (P:Lw) (ops:Array Oper) (Q:Exit→Act→Kw→Prop) (t:Nat) (S:Kw→Prop) (n f:Nat) (listed:Array Bool) (e:Env) (w:Kw):Prop where
 run:∀a,Agr n e a→KK P ops Q t S f listed a w
variable {n f:Nat} {listed:Array Bool} {e:Env} {w:Kw}
theorem EC {id:Nat} {l:List Oper} (t:Nat) (S:Kw→Prop) (hm:P.follows .mixedOrders=true) (k:SxO P l.toArray Q t S n l.length (Array.replicate l.length false) e w.drew):Sx P (Code.region id l.toArray true) Q n e w:=⟨λa ha=>by
 refine wp_region_any hm (Q1 (t:=t) (S:=S) _ _ _ _ ?_)
 simpa using k.run a ha⟩
theorem kQ {o:Oper} {d:Nat} {v:Kv} (i h:Nat) (hs:Region.noSelect ops=true) (hQ:∀c (a:Act) t v w,Q (.panic c) (a.put t v) w→Q (.panic c) a w) (hwait:J6 ops h t=true) (hih:Nat.blt i h=true)
 (hf:Region.free .any ops listed i=true) (hr:(Region.ready .any ops listed).contains i=true) (ho:ops[i]?=some o) (hw:Wn ops e o) (hd:o.dst=some d) (hn:Nat.blt d n=true) (hS:S w) (hy:∀w',S w'→Y P e o w' v)
 (k:SxO P ops Q t S n f (listed.setIfInBounds i true) ((d,v)::e) w):SxO P ops Q t S n (f+1) listed e w:=⟨λa ha=>
 N8 ho (Region.noSelect_spec hs) (λc a w=>hQ c a _ _ w) hwait (CF hih) f listed a w (Region.free_spec ho hf) (by simpa using hr) (.inl ⟨hw n a ha,λw' hw'=>hy w' hw' _ ha.eval⟩) hS (by
  rw [hd];exact k.run _ (ha.put (CF hn) v))⟩
theorem oa {o:Oper} {d:Nat} {v:Kv} (i h:Nat) (ho:ops[i]?=some o) (hd:(o.guard,o.dst,Nat.blt d n)=(none,some d,true)) (hS:S w) (hy:∀w',S w'→Y P e o w' v) (k:SxO P ops Q t S n f (listed.setIfInBounds i true) ((d,v)::e) w) (hs:Region.noSelect ops=true:=by kernel_rfl) (hQ:∀c (a:Act) t v w,Q (.panic c) (a.put t v) w→Q (.panic c) a w:=by exact λc a t v w h=>by cases t<;>exact h) (hwait:J6 ops h t=true:=by kernel_rfl) (hih:Nat.blt i h=true:=by exact rfl) (hf:Region.free .any ops listed i=true:=by kernel_rfl) (hr:(Region.ready .any ops listed).contains i=true:=by kernel_rfl):SxO P ops Q t S n (f+1) listed e w:=
 kQ i h hs hQ hwait hih hf hr ho (wn_none (Bq hd).1) (Bq (Bq hd).2).1 (Bq (Bq hd).2).2 hS hy k
theorem ob {o:Oper} {d:Nat} {v:Kv} (i h:Nat) (ho:ops[i]?=some o) (hw:Wn ops e o) (hd:o.dst=some d) (hn:Nat.blt d n=true) (hS:S w) (hy:∀w',S w'→Y P e o w' v) (k:SxO P ops Q t S n f (listed.setIfInBounds i true) ((d,v)::e) w) (hs:Region.noSelect ops=true:=by kernel_rfl) (hQ:∀c (a:Act) t v w,Q (.panic c) (a.put t v) w→Q (.panic c) a w:=by exact λc a t v w h=>by cases t<;>exact h) (hwait:J6 ops h t=true:=by kernel_rfl) (hih:Nat.blt i h=true:=by exact rfl) (hf:Region.free .any ops listed i=true:=by kernel_rfl) (hr:(Region.ready .any ops listed).contains i=true:=by kernel_rfl):SxO P ops Q t S n (f+1) listed e w:=
 kQ i h hs hQ hwait hih hf hr ho hw hd hn hS hy k
theorem B5 {o:Oper} {R:Kv→Kw→Prop} (i:Nat) (d:Option Tmp) (hr:Region.ready .any ops listed=[i]) (ho:ops[i]?=some o) (hw:Wn ops e o) (hd:o.dst=d) (hn:JP n d=true) (hy:∀ρ,Ag e ρ→K2 P ρ o w R)
 (k:∀v w',R v w'→(i<t→S w')∧SxO P ops Q t S n f (listed.setIfInBounds i true) (e.ins d v) w'):SxO P ops Q t S n (f+1) listed e w:=⟨λa ha=>by
 refine ⟨λh0=>(by rw [hr] at h0;cases h0),λj hj=>?_⟩;rw [hr] at hj
 obtain rfl:j=i:=by simpa using hj
 unfold wpOp;simp only [ho,hw n a ha,if_true];refine .inl ((hy _ ha.eval).wp λv w' hR=>?_);rw [hd];obtain ⟨h1,h2⟩:=k v w' hR;exact ⟨h1,h2.run _ (ha.ins hn v)⟩⟩
theorem BC {o:Oper} {fn:FuncId} {args:Array Kv} {R:Ending→Kw→Prop} (i:Nat) (d:Option Tmp) (hr:Region.ready .any ops listed=[i]) (ho:ops[i]?=some o) (hw:Wn ops e o) (hd:o.dst=d) (hn:JP n d=true) (hy:YC P e o w fn args) (hc:Calls P fn args w R)
 (k:∀x w',R x w'→∃v,x=.returned v∧(i<t→S w')∧SxO P ops Q t S n f (listed.setIfInBounds i true) (e.ins d v) w'):SxO P ops Q t S n (f+1) listed e w:=⟨λa ha=>by
 refine ⟨λh0=>(by rw [hr] at h0;cases h0),λj hj=>?_⟩;rw [hr] at hj
 obtain rfl:j=i:=by simpa using hj
 unfold wpOp;simp only [ho,hw n a ha,if_true];refine .inl ?_;unfold Oper.wp;rw [hy _ ha.eval,Oper.upon_enter];refine hc.mono λx w' hR=>?_
 obtain ⟨v,rfl,h1,h2⟩:=k x w' hR;simp only [hd];exact ⟨h1,h2.run _ (ha.ins hn v)⟩⟩
theorem G3 {rs:List Nat} (hr:Region.ready .any ops listed=rs) (hne:rs≠[])
 (k:∀i∈rs,∀a,Agr n e a→wpOp P ops Q i (λa' w'=>(i<t→S w')∧KK P ops Q t S f (listed.setIfInBounds i true) a' w') a w):SxO P ops Q t S n (f+1) listed e w:=⟨λa ha=>
 ⟨λh0=>absurd (hr▸h0) hne,λi hi=>k i (hr▸hi) a ha⟩⟩
theorem HU {o:Oper} {fn:FuncId} {args:Array Kv} {R:Ending→Kw→Prop} {i:Nat} (d:Option Tmp) (ho:ops[i]?=some o) (hw:Wn ops e o) (hd:o.dst=d) (hn:JP n d=true) (hy:YC P e o w fn args) (hc:Calls P fn args w R)
 (k:∀x w',R x w'→∃v,x=.returned v∧(i<t→S w')∧SxO P ops Q t S n f (listed.setIfInBounds i true) (e.ins d v) w'):∀a,Agr n e a→wpOp P ops Q i (λa' w'=>(i<t→S w')∧KK P ops Q t S f (listed.setIfInBounds i true) a' w') a w:=λa ha=>by
 unfold wpOp;simp only [ho,hw n a ha,if_true];refine .inl ?_;unfold Oper.wp;rw [hy _ ha.eval,Oper.upon_enter];refine hc.mono λx w' hR=>?_
 obtain ⟨v,rfl,h1,h2⟩:=k x w' hR;simp only [hd];exact ⟨h1,h2.run _ (ha.ins hn v)⟩
theorem E0 {o:Oper} {R:Kv→Kw→Prop} {i:Nat} (d:Option Tmp) (ho:ops[i]?=some o) (hw:Wn ops e o) (hd:o.dst=d) (hn:JP n d=true) (hy:∀ρ,Ag e ρ→K2 P ρ o w R)
 (k:∀v w',R v w'→(i<t→S w')∧SxO P ops Q t S n f (listed.setIfInBounds i true) (e.ins d v) w'):∀a,Agr n e a→wpOp P ops Q i (λa' w'=>(i<t→S w')∧KK P ops Q t S f (listed.setIfInBounds i true) a' w') a w:=λa ha=>by
 unfold wpOp;simp only [ho,hw n a ha,if_true];refine .inl ((hy _ ha.eval).wp λv w' hR=>?_);rw [hd];obtain ⟨h1,h2⟩:=k v w' hR;exact ⟨h1,h2.run _ (ha.ins hn v)⟩
theorem L6 (hr:Region.ready .any ops listed=[]) (k:QX Q .normal n e w):SxO P ops Q t S n f listed e w:=⟨λa ha=>by
 cases f with
 | zero=>exact ⟨hr,k.run a ha⟩
 | succ f=>exact ⟨λ_=>k.run a ha,by rw [hr];simp⟩⟩
def p8 (listed:Array Bool) (t:Nat):Bool:=(List.range t).all λi=>listed.getD i true
theorem RA {l:List Oper} (j:Nat) (hl:p8 listed t=true) (hf:l.length=f) (hj:ops.toList.drop j=l) (hB:Region.seqB .any ops l.length j listed=true) (k:SxL P ops Q n l e w):SxO P ops Q t S n f listed e w:=⟨λa ha=>by
 subst hf;refine PS _ _ _ _ (λi hi=>Ci.1 hl i (Eu.2 hi)) (wpAny_of_seq (md:=.any) l j listed a w (λk=>?_) hB (k.run a ha));rw [←hj,Bt];simp⟩
end
end
section
def evp (e:Env):List (Nat × Lz)→Option (List (Nat × Kv))
 | []=>some []
 | (i,x)::xs=>match ev e x,evp e xs with
  | some v,some vs=>some ((i,v)::vs)
  | _,_=>none
theorem Ag.parts {e:Env} {ρ:Lz→Kv} (h:Ag e ρ):∀{xs:List (Nat × Lz)} {vs:List (Nat × Kv)},evp e xs=some vs→xs.map (λ(i,x)=>(i,ρ x))=vs
 | [],vs,hx=>by simp [evp] at hx;simp [hx]
 | (i,x)::xs,vs,hx=>by
  unfold evp at hx
  cases h1:ev e x with
  | none=>simp [h1] at hx
  | some v=>
   cases h2:evp e xs with
   | none=>simp [h1,h2] at hx
   | some us=>
    simp only [h1,h2,Ad] at hx
    subst hx;rw [Cj,h.parts h2]
    show (i,ρ x)::us=_
    rw [h x v h1]
theorem lD (cs xs:Kx) (off i:Nat) (h:off≤cs.length):(put cs off xs)[i]?=if i<off then cs[i]? else if i<off+xs.length then xs[i-off]? else cs[i]?:=by
 unfold put;have hl:(cs.take off).length=off:=by simp;omega
 by_cases h1:i<off
 ·rw [if_pos h1,Cl (by omega),Cb h1]
 rw [if_neg h1,Cc (by omega),hl]
 by_cases h2:i<off+xs.length
 ·rw [if_pos h2,Cl (by omega)]
 rw [if_neg h2,Cc (by omega),Bt]
 congr 1;omega
theorem s9 (cs vs:Kx) (k:Nat) (v:Kv) (h:k+1+vs.length≤cs.length):put (cs.set k v) (k+1) vs=put cs k (v::vs):=by
 apply Dx
 intro i;rw [lD _ _ _ _ (by rw [Gw];omega),lD _ _ _ _ (by omega),Af]
 by_cases h1:i<k
 ·rw [if_pos (by omega),if_pos h1,Du (by omega)]
 by_cases h2:i=k
 ·subst h2;rw [if_pos (by omega),if_neg h1,if_pos (by omega),Dk (by omega),Fy];rfl
 rw [if_neg (by omega),if_neg h1]
 by_cases h3:i<k+1+vs.length
 ·rw [if_pos h3,if_pos (by omega),show i-k=(i-(k+1))+1 by omega,Bn]
 rw [if_neg h3,if_neg (by omega),Du (by omega)]
theorem ZI (off:Nat):∀(vs:Kx) (j:Nat) (cells:Kx),off+j+vs.length≤cells.length →
 (vs.zipIdx j).foldl (λ(cs:Array Kv) (p:Kv × Nat)=>cs.setIfInBounds (off+p.2) p.1) cells.toArray=(put cells (off+j) vs).toArray
 | [],j,cells,_=>by simp [yB]
 | v::vs,j,cells,h=>by
  simp only [Af] at h
  rw [List.zipIdx_cons,Ia,List.setIfInBounds_toArray,ZI off vs (j+1) _ (by rw [Gw];omega)];rw [show off+(j+1)=off+j+1 by omega,s9 _ _ _ _ (by omega)]
theorem oO (place:Nat→Option (Nat × Nat)) (cells:Kx) (i off:Nat) (v:Kv) (vs:Kx) (rest:List (Nat × Kv)) (hv:v.cells=vs.toArray) (hp:place i=some (off,vs.length)) (hl:off+vs.length≤cells.length) :
 Instr.fill place cells.toArray ((i,v)::rest)=Instr.fill place (put cells off vs).toArray rest:=by
 have hf:=ZI off vs 0 cells (by omega)
 conv=>lhs;unfold Instr.fill
 rw [hp];simp only [hv,List.size_toArray,ne_eq,not_true_eq_false,decide_false,Fs,decide_eq_true_eq];rw [if_neg (by omega)];rw [←Ge,Array.toList_zipIdx];simp only [Hr] at hf
 rw [hf]
theorem XF (size:Nat):∀(vs:Kx) (j:Nat) (pre rest:Kx),pre.length=j*size→rest.length=vs.length*size→(∀v∈vs,v.cells.size=size) →
 Instr.fill (λi=>some (i*size,size)) (pre++rest).toArray ((vs.zipIdx j).map λx=>(x.2,x.1))=some (pre++(vs.map λv=>v.cells.toList).flatten).toArray
 | [],j,pre,rest,_,hr,_=>by
  have:rest=[]:=Bj (by simpa using hr)
  subst this
  simp [Instr.fill]
 | v::vs,j,pre,rest,hp,hr,hv=>by
  have hvs:v.cells.toList.length=size:=by simpa using hv v (by simp)
  simp only [Af,Hz,Nat.one_mul] at hr
  rw [List.zipIdx_cons,Cj];rw [oO _ _ j (j*size) v v.cells.toList _ (by simp) (by rw [hvs]) (by rw [Ah,hvs];omega)]
  have e:put (pre++rest) (j*size) v.cells.toList=(pre++v.cells.toList)++rest.drop size:=by
   unfold put;rw [←hp,List.take_left,hvs,List.drop_append,Eq (by omega),Fg,By]
   congr 3;omega
  rw [e,XF size vs (j+1) _ _ (by rw [Ah,hvs,hp,Hz];omega) (by rw [Bz];omega) (λu hu=>hv u (by simp [hu]))]
  simp
section
variable {P:Lw} {e:Env} {w:Kw} {o:Oper}
theorem B7 {t:Nat} {parts:List (Nat × Lz)} {ps:List (Nat × Kv)} {cells:Array Kv} (ho:o.op=.build t parts.toArray) (hp:evp e parts=some ps) (hb:P.built t ps=some cells):Y P e o w (.agg cells):=λρ h=>by
 have:=h.parts hp
 unfold execOp;simp only [ho,Sem.run_bind];have hm:(parts.toArray.map λ(i,x)=>(i,ρ x))=ps.toArray:=by simp [this]
 rw [hm,run_build w t ps.toArray cells (by simpa using hb)]
 rfl
theorem AI {t b off n:Nat} {x:Lz} {d:TypeDesc} {xs:Kx} (ho:o.op=.load t x) (hx:ev e x=some (.pointer (some ⟨b,off,none⟩))) (hr:Rd w (some ⟨b,off,none⟩) n xs) (hu:P.underlying t=some d) (hd:d.isRow=true) (hi:(P.info? t).map (·.size)=some n):Y P e o w (.agg xs.toArray):=λ_ h=>
 fN t x ho b off n xs d (h _ _ hx) hr hu hd hi
theorem DA {ρ:Lz→Kv} {t el size len:Nat} {parts:List (Nat × Lz)} {ps:List (Nat × Kv)} (vs:Kx) (z:Kv) (hρ:Ag e ρ) (ho:o.op=.buildSlice t len parts.toArray) (hp:evp e parts=some ps) (hps:ps=(vs.zipIdx 0).map λx=>(x.2,x.1)) (hlen:vs.length=len)
 (hu:P.underlying t=some (.slice el)) (hi:(P.info? el).map (λi=>(i.zero,i.size))=some (some z,size)) (hpos:0<len*size) (hsm:len*size≤16777216) (hv:∀v∈vs,v.cells.size=size) :
 K2 P ρ o w λv w'=>∃g,v=.slice (some ⟨g,0,none⟩) len len∧w.heap.size≤g∧g<w'.heap.size∧Blk w' g el ((vs.map λv=>v.cells.toList).flatten)∧Fr0 w w':=by
 cases hq:P.info? el with
 | none=>simp [hq] at hi
 | some i=>
  obtain ⟨hz,hsize⟩:i.zero=some z∧i.size=size:=by simpa [hq] using hi
  subst hsize;have hm:(parts.toArray.map λ(i,x)=>(i,ρ x))=ps.toArray:=by simp [hρ.parts hp]
  have hfill:=XF i.size vs 0 [] ((Array.range (len*i.size)).map (z.cells[·%z.cells.size]!)).toList (by simp) (by simp [hlen]) hv;simp only [Fg] at hfill
  rw [Ft] at hfill
  refine ⟨_,w.alloc (.cells ((vs.map λv=>v.cells.toList).flatten).toArray el),.inl ?_,w.heap.size,X,Ab _,by simp,Blk.new w el _,Fr.refl.alloc _⟩;have hr:=run_buildSlice (P:=P) w t el len ps.toArray _ i z hu hq hz (by simp;omega) (by omega) (by rw [hps];exact hfill);unfold execOp;simp only [ho,Sem.run_bind,hm,hr,Result.andThen_ok]
  rfl
end
end
section
section
variable {P:Lw} {Q:Exit→Act→Kw→Prop} {n:Nat} {e:Env} {w:Kw}
theorem JB {ops:Array Oper} {o:Oper} {rest:List Oper} {f:FuncId} {args:Array Kv} {d:Nat} {v:Kv} (hw:Wn ops e o) (hd:o.dst=some d) (hn:JP n (some d)=true) (hy:YC P e o w f args) (hc:Calls P f args w λx w'=>x=.returned v∧w=w')
 (k:SxL P ops Q n rest (e.ins (some d) v) w):SxL P ops Q n (o::rest) e w:=
 sxl_call (some d) hw hd hn hy hc (by rintro _ _ ⟨rfl,rfl⟩;exact ⟨_,rfl,k⟩)
end
theorem Rd.ofBlk {w:Kw} {g:Nat} {t:Ly} {xs:Kx} (h:Blk w g t xs) {n:Nat} (hn:xs.length=n):Rd w (some ⟨g,0,none⟩) n xs:=
 ⟨hn,λ_=>⟨g,0,rfl,λj u hu=>by rw [Cm];exact (h.cell j).trans hu⟩⟩
end
section
section
variable {P:Lw} {Q:Exit→Act→Kw→Prop} {n:Nat} {e:Env} {w:Kw}
theorem RQ {x:Exit} {r:Env} (hl:r.le e) (h:QX Q x n r w):QX Q x n e w:=⟨λa ha=>h.run a (ha.weak hl)⟩
end
section
variable {P:Lw} {e:Env} {w:Kw} {o:Oper}
theorem cI {t len cap sz el:Nat} {A:Ky} {m:Int} {k:IntKind} {x i:Lz} (ho:o.op=.slice t x (some i) none none) (hx:ev e x=some (.slice A len cap)) (hi:ev e i=some (.int k m)) (ht:EZ P t=some (el,sz)) (h0:0≤m∧m≤len) :
 Y P e o w (.slice (if cap=m.toNat then A else A.map (·.add (m.toNat*sz))) (len-m.toNat) (cap-m.toNat)):=λρ h=>by
 unfold EZ at ht
 split at ht
 ·rename_i el' hu
  split at ht
  ·rename_i i' hi'
   simp only [Ad,Av] at ht
   obtain ⟨rfl,rfl⟩:=ht;unfold execOp
   simp [ho,h _ _ hx,h _ _ hi,Instr.sliceAt,Instr.slice,run_underlying hu,Instr.sliceBounds,Instr.sliceBound,asIntOf,h0.1,h0.2,sizeOf,typeInfo,hi']
  cases ht
 cases ht
end
section
variable {P:Lw} {ρ:Lz→Kv} {w:Kw} {o:Oper}
theorem OP (t e size:Nat) (ho:o.op=.buildSlice t 0 #[]) (hu:P.underlying t=some (.slice e)) (hi:(P.info? e).map (·.size)=some size) :
 K2 P ρ o w λv w'=>∃g,v=.slice (some ⟨g,0,none⟩) 0 0∧w.heap.size≤g∧g<w'.heap.size∧Blk w' g e []∧Fr0 w w'∧∀base,base≤w.heap.size→w'.ownsRow base e size v 0 []:=by
 cases hq:P.info? e with
 | none=>simp [hq] at hi
 | some i=>
  have hr:(Instr.buildSlice t 0 #[]).run P w=.ok (.slice (some ⟨w.heap.size,0,none⟩) 0 0) (w.alloc (.cells #[] e)):=by
   simp [Instr.buildSlice,run_underlying hu,sizeOf,typeInfo,hq,newRow,Instr.fill]
   rw [show Array.range 0 = #[] from by apply Array.eq_empty_of_size_eq_zero;simp,Fo,Gq]
  refine ⟨_,w.alloc (.cells #[] e),.inl ?_,w.heap.size,X,Ab _,by simp,Blk.new w e [],Fr.refl.alloc _,λbase hb=>SV (nL w e size) hb⟩;unfold execOp;simp only [ho,Sem.run_bind];rw [Fo,Gq,hr]
  rfl
end
end
section
def str (l:Kz):Kv:=.string ⟨l.toArray⟩
section
variable {P:Lw} {e:Env} {w:Kw} {o:Oper}
theorem BT {t:Nat} {x:Lz} {l:Kz} (ho:o.op=.call { callee:=.builtin .len,args := #[x],argTypes := #[t] }) (hx:ev e x=some (str l)) (ht:P.underlying t=some .string):Y P e o w (.int .i64 (l.length:Int)):=λρ h=>by
 have hs:(ByteArray.mk l.toArray).size=l.length:=by show l.toArray.size=_;simp
 unfold execOp
 simp [ho,h _ _ hx,str,resolve,invoke,builtin,Builtin.len_,run_underlying ht,goInt,hs]
theorem B8 {t:Nat} {x i:Lz} {l:Kz} {k:IntKind} {m:Nat} {b:UInt8} (ho:o.op=.index t x i) (hx:ev e x=some (str l)) (hi:ev e i=some (.int k (m:Int))) (ht:P.underlying t=some .string) (hb:l[m]?=some b):Y P e o w (.int .u8 (b.toNat:Int)):=λρ h=>by
 have hs:(ByteArray.mk l.toArray)[m]?=some b:=by
  have hl:=(Aj.1 hb).1;have he:=(Aj.1 hb).2;rw [getElem?_pos (ByteArray.mk l.toArray) m (by show m<l.toArray.size;simpa using hl)]
  congr 1
 unfold execOp
 simp [ho,h _ _ hx,h _ _ hi,str,Instr.index,asIntOf,run_underlying ht,hs]
theorem GI {t t':Nat} {a b:Kz} {x y:Lz} (ho:o.op=.binOp .eql t x y t') (hx:ev e x=some (str a)) (hy:ev e y=some (str b)):Y P e o w (.bool (decide (a=b))):=λρ h=>by
 have h1:ρ x=.string ⟨a.toArray⟩:=h _ _ hx;have h2:ρ y=.string ⟨b.toArray⟩:=h _ _ hy;unfold execOp
 simp [ho,h1,h2,eqGuard_at_string,binOp,Op.stringOp]
 by_cases hab:a=b
 ·subst hab;simp
 simp [hab]
end
end
section
def CC : List (Kz × Kv)→Kz→Option Kv
 | [],_=>none
 | (k',v)::r,k=>if k=k' then some v else CC r k
def D9 : List (Kz × Kv)→Kz→Kv→List (Kz × Kv)
 | [],k,v=>[(k,v)]
 | (k',v')::r,k,v=>if k=k' then (k,v)::r else (k',v')::D9 r k v
theorem G0 (k k':Kz) (v:Kv):∀L,CC (D9 L k v) k'=if k'=k then some v else CC L k'
 | []=>by simp [D9,CC]
 | (k1,v1)::r=>by
  unfold D9
  by_cases h:k=k1
  ·subst h;rw [if_pos rfl];unfold CC;by_cases h2:k'=k<;>simp [h2]
  rw [if_neg h];unfold CC
  by_cases h2:k'=k1
  ·subst h2;rw [if_pos rfl,if_pos rfl,if_neg (λe=>h e.symm)]
  rw [if_neg h2,if_neg h2];exact G0 k k' v r
def Mp (w:Kw) (g:Nat) (L:List (Kz × Kv)):Prop:=∃(es:Array MapEntry) (clock:Nat),w.heap[g]?=some (.map es clock)∧es.toList.map (λe=>(e.key,e.val))=L.map λp=>(str p.1,p.2)
theorem Mp.lt {w:Kw} {g:Nat} {L:List (Kz × Kv)} (h:Mp w g L):g<w.heap.size:=by
 obtain ⟨es,cl,h,_⟩:=h;exact (An.1 h).1
theorem Mp.fr {S:Nat→Prop} {w w':Kw} {g:Nat} {L:List (Kz × Kv)} (h:Mp w g L) (hf:Fr S w w') (hn:¬S g):Mp w' g L:=by
 obtain ⟨es,cl,h1,h2⟩:=h;exact ⟨es,cl,(hf.block g (An.1 h1).1 hn).trans h1,h2⟩
theorem aM (a b:Kz):((⟨a.toArray⟩:ByteArray)==⟨b.toArray⟩)=decide (a=b):=by
 have h1:((⟨a.toArray⟩:ByteArray)==⟨b.toArray⟩)=(a.toArray==b.toArray):=X;rw [h1];by_cases h:a=b<;>simp [h]
theorem rC (a b:Kz):Instr.sameNow .string (str a) (str b)=some (decide (a=b)):=by
 unfold str;simp only [Instr.sameNow,aM]
section
variable {P:Lw} {e:Env} {w:Kw} {o:Oper}
theorem S4 (k:Kz):∀(L:List (Kz × Kv)) (es:List MapEntry) (i:Nat),es.map (λe=>(e.key,e.val))=L.map (λp=>(str p.1,p.2)) →
 (CC L k=none∧Instr.findNow .string (str k) es i=some none∧D9 L k=λv=>L++[(k,v)]) ∨
 ∃j v,CC L k=some v∧Instr.findNow .string (str k) es i=some (some (i+j,v))∧j<L.length∧(L[j]?).map (·.1)=some k∧D9 L k=λv=>L.set j (k,v)
 | [],es,i,h=>by
  obtain rfl:es=[]:=by simpa using h
  exact .inl ⟨X,X,by funext v;rfl⟩
 | (k',v')::L,[],i,h=>by simp at h
 | (k',v')::L,en::es,i,h=>by
  simp only [Cj,Cs,Av] at h
  obtain ⟨⟨h1,h2⟩,h3⟩:=h;have hc:Instr.findNow .string (str k) (en::es) i=match Instr.sameNow .string (str k) en.key with|some true=>some (some (i,en.val))|some false=>Instr.findNow .string (str k) es (i+1)|none=>none:=X
  rw [h1,rC] at hc
  by_cases hk:k=k'
  ·subst hk
   right
   refine ⟨0,v',by simp [CC],?_,by simp,by simp,by funext v;simp [D9]⟩;rw [hc];simp [h2]
  rcases S4 k L es (i+1) h3 with ⟨a1,a2,a3⟩|⟨j,v,a1,a2,a3,a4,a5⟩
  ·left
   refine ⟨by simp [CC,hk,a1],?_,by funext v;simp [D9,hk,a3]⟩;rw [hc];simp [hk,a2]
  right
  refine ⟨j+1,v,by simp [CC,hk,a1],?_,by simp;omega,by simpa using a4,by funext v;simp [D9,hk,a5]⟩;rw [hc];simp [hk,a2];omega
theorem IT {kt:Ly} {k:Kz} {es:List MapEntry} {r:Option (Nat × Kv)} (hd:P.underlying kt=some .string) (hf:Instr.findNow .string (str k) es 0=some r) (w:Kw):(Instr.findKey kt (str k) es).run P w=.ok r w:=by
 unfold Instr.findKey
 simp [run_underlying hd,hf]
theorem JE {kt:Ly} (hd:P.underlying kt=some .string) (k:Kz) (b:Bool) (w:Kw):(Instr.checkKey b 10000 kt (str k)).run P w=.ok () w:=by
 show (Instr.checkKey b (9999+1) kt _).run P w=_
 unfold Instr.checkKey
 simp [run_underlying hd]
theorem KY {g clock:Nat} {es:Array MapEntry} (hb:w.heap[g]?=some (.map es clock)):(Go.getObj g).run P w=.ok (.map es clock) w:=by
 unfold Go.getObj;simp only [Sem.run,hb]
theorem fQ {ρ:Lz→Kv} {t:Ly} (ho:o.op=.makeMap t none):K2 P ρ o w λv w'=>v=.map (some w.heap.size)∧w'=w.alloc (.map #[] 0):=by
 refine ⟨_,_,.inl ?_,X,X⟩;unfold execOp
 simp [ho,Instr.makeMap]
theorem a1A (w:Kw):Mp (w.alloc (.map #[] 0)) w.heap.size []:=⟨#[],0,by show (w.heap.push (.map #[] 0))[w.heap.size]?=_;simp,rfl⟩
theorem TJ {ρ:Lz→Kv} {t:Ly} (ho:o.op=.makeMap t none):K2 P ρ o w λv w'=>∃g,v=.map (some g)∧w.heap.size≤g∧g<w'.heap.size∧Mp w' g []∧Fr0 w w':=
 (fQ ho).mono λv w' ⟨h1,h2⟩=>by
  subst h2;exact ⟨w.heap.size,h1,Ab _,by simp,a1A w,Fr.refl.alloc _⟩
theorem QY {t kt el:Ly} {x i:Lz} {ok:Bool} {g:Nat} {k:Kz} {L:List (Kz × Kv)} {z:Kv} (ho:o.op=.lookup t x i ok) (hx:ev e x=some (.map (some g))) (hi:ev e i=some (str k)) (hu:P.underlying t=some (.map kt el)) (hd:P.underlying kt=some .string)
 (hz:(P.info? el).map (·.zero)=some (some z)) (hM:Mp w g L):Y P e o w (if ok then .tuple #[(CC L k).getD z,.bool (CC L k).isSome] else (CC L k).getD z):=λρ h=>by
 obtain ⟨es,clock,hb,hes⟩:=hM;obtain ⟨inf,hinf,hinz⟩:=Dd.1 hz;have h1:ρ x=.map (some g):=h _ _ hx;have h2:ρ i=str k:=h _ _ hi;unfold execOp;simp only [ho,h1,h2];unfold Instr.lookup;simp only [Sem.run_bind,run_underlying hu,Result.andThen_ok,Sem.run_pure,KY hb,JE hd];rcases S4 k L es.toList 0 hes with ⟨a1,a2,_⟩|⟨j,v,a1,a2,_,_,_⟩
 ·simp only [IT hd a2,a1]
  cases ok<;>simp [zeroValue,typeInfo,hinf,hinz]
 simp only [IT hd a2,a1]
 cases ok<;>simp
theorem UA {ρ:Lz→Kv} {t kt el:Ly} {mp i x:Lz} {g:Nat} {k:Kz} {v:Kv} {L:List (Kz × Kv)} (ho:o.op=.mapUpdate t mp i x∨o.op=.insert t mp i x) (hm:ρ mp=.map (some g)) (hi:ρ i=str k) (hx:ρ x=v) (hu:P.underlying t=some (.map kt el)) (hd:P.underlying kt=some .string)
 (hM:Mp w g L):K2 P ρ o w λu w'=>u=undef∧Fr (λb=>b=g) w w'∧Mp w' g (D9 L k v):=by
 obtain ⟨es,clock,hb,hes⟩:=hM;have hlt:g<w.heap.size:=(An.1 hb).1
 have fin:∀(es':Array MapEntry) (clock':Nat),(Instr.mapUpdate t (.map (some g)) (str k) v).run P w=.ok () { w with heap:=w.heap.setIfInBounds g (.map es' clock') }→es'.toList.map (λe=>(e.key,e.val))=(D9 L k v).map (λp=>(str p.1,p.2)) →
  K2 P ρ o w λu w'=>u=undef∧Fr (λb=>b=g) w w'∧Mp w' g (D9 L k v):=λes' clock' hrun hes'=>by
  refine ⟨undef,{ w with heap:=w.heap.setIfInBounds g (.map es' clock') },.inr ⟨?_,X⟩,X,⟨X,X,X,by simp,λr _ hn=>by simp [Array.getElem?_setIfInBounds_ne (Ne.symm hn)]⟩,es',clock',by simp [hlt],hes'⟩;rcases ho with ho|ho<;>(unfold execOp;simp only [ho,hm,hi,hx,Sem.run_bind,hrun,Result.andThen_ok];rfl)
 have hbits:Instr.sameBits 10000 (str k) (str k)=true:=by
  unfold str
  simp [Instr.sameBits,aM]
 rcases S4 k L es.toList 0 hes with ⟨a1,a2,a3⟩|⟨j,v0,a1,a2,a3,a4,a5⟩
 ·refine fin (es.push { key:=str k,val:=v,born:=clock }) (clock+1) ?_ (by rw [a3];simp [hes]);unfold Instr.mapUpdate;simp only [Sem.run_bind,run_underlying hu,Result.andThen_ok,KY hb,JE hd,IT hd a2];unfold setObj;simp only [Sem.run,hb]
 rw [Cm] at a2
 have hlen:es.toList.length=L.length:=by have:=Ay List.length hes;simpa using this
 obtain ⟨en,hen⟩:∃en,es[j]?=some en:=⟨_,Fb (by simp at hlen;omega)⟩
 have hkey:en.key=str k:=by
  have h1:=Ay (·[j]?) hes;simp only [Bu] at h1
  have h2:es.toList[j]?=some en:=by simpa using hen
  rw [h2] at h1
  cases hL:L[j]? with
  | none=>rw [hL] at h1;cases h1
  | some p=>
   rw [hL] at h1 a4
   simp only [Dc,Ad,Av] at h1 a4
   rw [h1.1,a4]
 refine fin (es.modify j λe=>{ e with key:=str k,val:=v }) clock ?_ ?_
 ·have hold:((es[j]?).map (·.key)).getD (str k)=str k:=by rw [hen];exact hkey
  unfold Instr.mapUpdate;simp only [Sem.run_bind,run_underlying hu,Result.andThen_ok,KY hb,JE hd,IT hd a2,hold,Instr.keyThatStays,hbits,if_true,Sem.run_pure];unfold setObj;simp only [Sem.run,hb]
 rw [a5]
 apply Dx
 intro i;have h1:=Ay (·[i]?) hes;simp only [Bu] at h1
 rw [Hh,Bu,Hc,Bu,Hs]
 by_cases hij:j=i
 ·subst hij
  simp [hen,a3]
 simp [hij]
 simpa using h1
theorem GF {ρ:Lz→Kv} {t kt el:Ly} {mp i x:Lz} {g:Nat} {k:Kz} {v:Kv} {L:List (Kz × Kv)} (ho:o.op=.mapUpdate t mp i x) (hm:ρ mp=.map (some g)) (hi:ρ i=str k) (hx:ρ x=v) (hu:P.underlying t=some (.map kt el)) (hd:P.underlying kt=some .string)
 (hM:Mp w g L):K2 P ρ o w λu w'=>u=undef∧Fr (λb=>b=g) w w'∧Mp w' g (D9 L k v):=UA (.inl ho) hm hi hx hu hd hM
theorem fR {ρ:Lz→Kv} {t kt el:Ly} {mp i x:Lz} {g:Nat} {k:Kz} {v:Kv} {L:List (Kz × Kv)} (ho:o.op=.insert t mp i x) (hm:ρ mp=.map (some g)) (hi:ρ i=str k) (hx:ρ x=v) (hu:P.underlying t=some (.map kt el)) (hd:P.underlying kt=some .string)
 (hM:Mp w g L):K2 P ρ o w λu w'=>u=undef∧Fr (λb=>b=g) w w'∧Mp w' g (D9 L k v):=UA (.inr ho) hm hi hx hu hd hM
end
end
section
structure As where
 fp:List Nat
 ok:Kw→Prop
 keep:∀{w w':Kw},(∀g∈fp,g<w.heap.size→w'.heap[g]?=w.heap[g]?)→ok w→ok w'
def As.blk (g:Nat) (t:Ly) (cs:Kx):As:=⟨[g],λw=>Blk w g t cs,λh hb=>(h g (by simp) hb.lt).trans hb⟩
def As.mp (g:Nat) (M:List (Kz × Kv)):As:=⟨[g],λw=>Mp w g M,λh hb=>by
 obtain ⟨es,cl,h1,h2⟩:=hb;exact ⟨es,cl,(h g (by simp) (An.1 h1).1).trans h1,h2⟩⟩
def As.own (base:Nat) (e:Ly) (size:Nat) (v:Kv) (n:Nat) (xs:Kx):As:=⟨v.ownBlock.toList,λw=>w.ownsRow base e size v n xs,λh hb=>by
 refine ⟨hb.1,?_⟩;rcases hb.2 with hh|⟨g,cap,cur,rfl,hb,hg,r⟩
 ·exact .inl hh
 exact .inr ⟨g,cap,cur,X,hb,(h g (by simp [Value.ownBlock]) (An.1 hg).1).trans hg,r⟩⟩
def As.none : As:=⟨[],λ_=>True,λ_ _=>trivial⟩
structure Mem (w0:Kw) (S:Nat→Prop) (L:List As) (w:Kw):Prop where
 fr:Fr S w0 w
 ok:∀(i:Nat) (a:As),L[i]?=some a→a.ok w
 lt:∀(i:Nat) (a:As),L[i]?=some a→∀g∈a.fp,g<w.heap.size∧(w0.heap.size≤g∨S g)
 apart:∀(i j:Nat) (a b:As),L[i]?=some a→L[j]?=some b→i≠j→∀g∈a.fp,g∉b.fp
namespace Mem
variable {w0 w w':Kw} {S:Nat→Prop} {L:List As}
theorem nil (w:Kw):Mem w S [] w:=⟨Fr.refl,by simp,by simp,by simp⟩
theorem ofFr (h:Fr S w0 w):Mem w0 S [] w:=⟨h,by simp,by simp,by simp⟩
theorem step (M:Mem w0 S L w) (hf:Fr0 w w'):Mem w0 S L w' where
 fr:=M.fr.then0 hf
 ok i a hi:=a.keep (λg _ hg=>hf.block g hg (λhh=>hh)) (M.ok i a hi)
 lt i a hi g hg:=by
  obtain ⟨h1,h2⟩:=M.lt i a hi g hg;exact ⟨Bw h1 hf.size,h2⟩
 apart:=M.apart
theorem drew (M:Mem w0 S L w):Mem w0 S L w.drew:=M.step (Fr.drew Fr.refl)
theorem push (M:Mem w0 S L w) (hf:Fr0 w w') (a:As) (hok:a.ok w') (hfp:∀g∈a.fp,w.heap.size≤g∧g<w'.heap.size):Mem w0 S (a::L) w':=by
 have M':=M.step hf;refine ⟨M'.fr,?_,?_,?_⟩
 ·intro i b hi
  cases i with
  | zero=>simp only [Ai,Ad] at hi;subst hi;exact hok
  | succ i=>exact M'.ok i b (by simpa using hi)
 ·intro i b hi g hg
  cases i with
  | zero=>
   simp only [Ai,Ad] at hi;subst hi
   obtain ⟨h1,h2⟩:=hfp g hg;exact ⟨h2,.inl (Bb M.fr.size h1)⟩
  | succ i=>exact M'.lt i b (by simpa using hi) g hg
 intro i j b c hi hj hne g hg hg'
 cases i with
 | zero=>
  cases j with
  | zero=>exact hne rfl
  | succ j=>
   simp only [Ai,Ad] at hi;subst hi
   have h1:=(hfp g hg).1;have h2:=(M.lt j c (by simpa using hj) g hg').1;omega
 | succ i=>
  cases j with
  | zero=>
   simp only [Ai,Ad] at hj;subst hj
   have h1:=(hfp g hg').1;have h2:=(M.lt i b (by simpa using hi) g hg).1;omega
  | succ j=>exact M.apart i j b c (by simpa using hi) (by simpa using hj) (by omega) g hg hg'
theorem upd (M:Mem w0 S L w) (i:Nat) {a:As} (hi:L[i]?=some a) (hf:Fr (λk=>k∈a.fp) w w') (a':As) (hok:a'.ok w') (hfp:∀g∈a'.fp,g∈a.fp∨(w.heap.size≤g∧g<w'.heap.size)):Mem w0 S (L.set i a') w':=by
 have hl:i<L.length:=(Aj.1 hi).1
 have get:∀(j:Nat) (b:As),(L.set i a')[j]?=some b→(j=i∧b=a')∨(j≠i∧L[j]?=some b):=by
  intro j b hj
  by_cases hji:j=i
  ·subst hji;rw [Dk hl] at hj
   exact .inl ⟨X,(Bs hj).symm⟩
  rw [Du (Ej hji)] at hj
  exact .inr ⟨hji,hj⟩
 refine ⟨M.fr.step hf (λk hk hm=>?_),?_,?_,?_⟩
 ·rcases (M.lt i a hi k hm).2 with h|h
  ·omega
  exact h
 ·intro j b hj;rcases get j b hj with ⟨_,rfl⟩|⟨hne,hj'⟩
  ·exact hok
  exact b.keep (λg hg hlt=>hf.block g hlt (λhm=>M.apart i j a b hi hj' (Ej hne) g hm hg)) (M.ok j b hj')
 ·intro j b hj g hg;rcases get j b hj with ⟨_,rfl⟩|⟨hne,hj'⟩
  ·rcases hfp g hg with h|⟨h1,h2⟩
   ·obtain ⟨h1,h2⟩:=M.lt i a hi g h;exact ⟨Bw h1 hf.size,h2⟩
   exact ⟨h2,.inl (Bb M.fr.size h1)⟩
  obtain ⟨h1,h2⟩:=M.lt j b hj' g hg;exact ⟨Bw h1 hf.size,h2⟩
 intro j k b c hj hk hne g hg hg';rcases get j b hj with ⟨rfl,rfl⟩|⟨hji,hj'⟩
 ·rcases get k c hk with ⟨rfl,rfl⟩|⟨hki,hk'⟩
  ·exact hne X
  rcases hfp g hg with h|⟨h1,_⟩
  ·exact M.apart j k a c hi hk' hne g h hg'
  have:=(M.lt k c hk' g hg').1;omega
 rcases get k c hk with ⟨rfl,rfl⟩|⟨hki,hk'⟩
 ·rcases hfp g hg' with h|⟨h1,_⟩
  ·exact M.apart k j a b hi hj' (Ej hne) g h hg
  have:=(M.lt j b hj' g hg).1;omega
 exact M.apart j k b c hj' hk' hne g hg hg'
theorem drop (M:Mem w0 S L w) (n:Nat):Mem w0 S (L.drop n) w:=by
 refine ⟨M.fr,?_,?_,?_⟩
 ·intro i a hi;rw [Bt] at hi;exact M.ok _ a hi
 ·intro i a hi;rw [Bt] at hi;exact M.lt _ a hi
 intro i j a b hi hj hne;rw [Bt] at hi hj;exact M.apart _ _ a b hi hj (by omega)
theorem pick (M:Mem w0 S L w) (f:List Nat) (hf:f.Nodup):Mem w0 S (f.map λi=>(L[i]?).getD As.none) w:=by
 have get:∀(i:Nat) (a:As),(f.map λi=>(L[i]?).getD As.none)[i]?=some a→(∃k:Nat,f[i]?=some k∧L[k]?=some a)∨a=As.none:=by
  intro i a h;rw [Bu] at h
  cases hk:f[i]? with
  | none=>rw [hk] at h;cases h
  | some k=>
   rw [hk] at h
   simp only [Dc,Ad] at h
   cases hl:L[k]? with
   | none=>rw [hl] at h;exact .inr h.symm
   | some b=>rw [hl] at h;simp only [Ct] at h;subst h;exact .inl ⟨k,rfl,hl⟩
 refine ⟨M.fr,?_,?_,?_⟩
 ·intro i a hi;rcases get i a hi with ⟨k,_,h⟩|rfl
  ·exact M.ok k a h
  trivial
 ·intro i a hi g hg;rcases get i a hi with ⟨k,_,h⟩|rfl
  ·exact M.lt k a h g hg
  simp [As.none] at hg
 intro i j a b hi hj hne g hg hg';rcases get i a hi with ⟨k,h1,h⟩|rfl
 ·rcases get j b hj with ⟨k',h1',h'⟩|rfl
  ·have:k≠k':=by
    rintro rfl;obtain ⟨l1,e1⟩:=Aj.1 h1;obtain ⟨l2,e2⟩:=Aj.1 h1';exact hne ((List.getElem_inj hf).1 (e1.trans e2.symm))
   exact M.apart k k' a b h h' this g hg hg'
  simp [As.none] at hg'
 simp [As.none] at hg
theorem cell (M:Mem w0 S L w) (i:Nat) {g t off:Nat} {cs:Kx} {u:Kv} (hi:L[i]?=some (As.blk g t cs)) (hu:cs[off]?=some u):Cell w.heap g off u:=
 Blk.c (M.ok i _ hi:Blk w g t cs) off hu
theorem blk (M:Mem w0 S L w) (i:Nat) {g t:Nat} {cs:Kx} (hi:L[i]?=some (As.blk g t cs)):Blk w g t cs:=M.ok i _ hi
theorem mp (M:Mem w0 S L w) (i:Nat) {g:Nat} {K:List (Kz × Kv)} (hi:L[i]?=some (As.mp g K)):Mp w g K:=M.ok i _ hi
theorem own (M:Mem w0 S L w) (i:Nat) {base e size n:Nat} {v:Kv} {xs:Kx} (hi:L[i]?=some (As.own base e size v n xs)):w.ownsRow base e size v n xs:=M.ok i _ hi
theorem rd (M:Mem w0 AR L w) {A:Ky} {n:Nat} {xs:Kx} (h:Rd w0 A n xs):Rd w A n xs:=h.fr0 M.fr
end Mem
theorem a31 (w:Kw):Mem w AR [] w:=Mem.nil w
abbrev ni (n:Nat):Kv:=.int .i64 (n:Int)
abbrev pg (g:Nat):Kv:=.pointer (some ⟨g,0,none⟩)
abbrev AA (n:Int):Kv:=.int .i64 n
abbrev BS (w:Kw) (v:Kv) (e:Ending) (w':Kw):Prop:=e=.returned v∧Fr0 w w'
theorem Mem.pk {w0 w:Kw} {S:Nat→Prop} {L:List As} (M:Mem w0 S L w) (f:List Nat) (hf:f.Nodup:=by decide):Mem w0 S (f.map λi=>(L[i]?).getD As.none) w:=M.pick f hf
theorem PN {P:Lw} {Q:Exit→Act→Kw→Prop} {n:Nat} {e:Env} {w w0:Kw} {S:Nat→Prop} {L:List As} {ops:Array Oper} {o:Oper} {rest:List Oper} {f:FuncId} {args:Array Kv} {v:Kv} (M:Mem w0 S L w) (d:Nat) (hd:(o.guard,o.dst,JP n (some d))=(none,some d,true)) (hy:YC P e o w f args) (hc:Calls P f args w λx w'=>x=.returned v∧Fr0 w w') (k:∀w',Mem w0 S L w'→SxL P ops Q n rest ((d,v)::e) w'):SxL P ops Q n (o::rest) e w:=by
 simp only [Av] at hd
 refine sxl_call (some d) (wn_none hd.1) hd.2.1 hd.2.2 hy hc ?_;rintro _ w' ⟨rfl,hf⟩;exact ⟨_,X,k w' (M.step hf)⟩
theorem cl {P:Lw} {Q:Exit→Act→Kw→Prop} {n:Nat} {e:Env} {w:Kw} {ops:Array Oper} {o:Oper} {rest:List Oper} {f:FuncId} {args:Array Kv} {R:Ending→Kw→Prop} (d:Nat) (hd:(o.guard,o.dst,JP n (some d))=(none,some d,true)) (hy:YC P e o w f args) (hc:Calls P f args w R) (k:∀x w',R x w'→∃v,x=.returned v∧SxL P ops Q n rest (e.ins (some d) v) w'):SxL P ops Q n (o::rest) e w:=by
 simp only [Av] at hd
 exact sxl_call (some d) (wn_none hd.1) hd.2.1 hd.2.2 hy hc k
theorem GT {x:Kv} {s:Nat} (h:x.cells.size=s):∀v∈[x],v.cells.size=s:=λv hv=>by
 rw [Au.1 hv];exact h
section
variable {P:Lw} {Q:Exit→Act→Kw→Prop} {n:Nat} {e:Env} {w w0:Kw} {S:Nat→Prop} {L:List As} {ops:Array Oper} {o:Oper} {rest:List Oper}
theorem FR (M:Mem w0 S L w) {d:Nat} (hw:Wn ops e o) (hd:o.dst=some d) (hn:Nat.blt d n=true) (t:Ly) (ho:o.op=.alloc t) {z:Kv} (zs:Kx) (hz:(P.info? t).map (·.zero)=some (some z)) (hc:z.cells=zs.toArray)
 (k:∀g w',w.heap.size≤g→Mem w0 S (As.blk g t zs::L) w'→SxL P ops Q n rest ((d,.pointer (some ⟨g,0,none⟩))::e) w'):SxL P ops Q n (o::rest) e w:=by
 refine sxl_does (some d) hw hd hn (λρ hρ=>BN t ho z zs hz hc) ?_;rintro _ w1 ⟨g,rfl,h1,h2,hb,hf⟩;exact k g w1 h1 (M.push hf _ hb (λg' hg'=>by simp only [As.blk,Au] at hg';subst hg';exact ⟨h1,h2⟩))
theorem DG (M:Mem w0 S L w) {d:Nat} (hw:Wn ops e o) (hd:o.dst=some d) (hn:Nat.blt d n=true) (t:Ly) {x:Lz} (ho:o.op=.box t x) {v:Kv} (hx:ev e x=some v) (cs:Kx) (hc:v.cells=cs.toArray)
 (k:∀g w',w.heap.size≤g→Mem w0 S (As.blk g t cs::L) w'→SxL P ops Q n rest ((d,.pointer (some ⟨g,0,none⟩))::e) w'):SxL P ops Q n (o::rest) e w:=by
 refine sxl_does (some d) hw hd hn (λρ hρ=>LN t x ho cs (by rw [hρ _ _ hx];exact hc)) ?_;rintro _ w1 ⟨g,rfl,h1,h2,hb,hf⟩;exact k g w1 h1 (M.push hf _ hb (λg' hg'=>by simp only [As.blk,Au] at hg';subst hg';exact ⟨h1,h2⟩))
theorem jS {g:Nat} {t:Ly} {cs:Kx} {w w':Kw} (h:Fr (λk=>k=g) w w'):Fr (λk=>k∈(As.blk g t cs).fp) w w':=h.mono λk _ e=>by simp only [As.blk,Au];exact e
theorem D1 (M:Mem w0 S L w) (i:Nat) (hw:Wn ops e o) (hd:o.dst=none) {ty g off t:Nat} {x y:Lz} {cs cs':Kx} {v:Kv} (ho:o.op=.store ty x y) (hx:ev e x=some (.pointer (some ⟨g,off,none⟩))) (hy:ev e y=some v) (hi:L[i]?=some (As.blk g t cs))
 (hv:v.cells = #[v]) (h1:v.oneCell'=true) (hsz:(P.info? ty).map (·.size)=some 1) (hl:off<cs.length) (hcs:cs.set off v=cs')
 (k:∀w',Mem w0 S (L.set i (As.blk g t cs')) w'→SxL P ops Q n rest e w'):SxL P ops Q n (o::rest) e w:=by
 refine sxl_does none hw hd X (λρ hρ=>DW ty x y ho g off t cs v (hρ _ _ hx) (hρ _ _ hy) hv (M.blk i hi) hsz hl h1) ?_;rintro _ w1 ⟨rfl,hb,hf⟩;subst hcs;exact k w1 (M.upd i hi (jS hf) (As.blk g t _) hb (λg' hg'=>.inl hg'))
theorem J9 (M:Mem w0 S L w) (i:Nat) (hw:Wn ops e o) (hd:o.dst=none) {ty g off t m:Nat} {x y:Lz} {cs cs' new:Kx} (ho:o.op=.store ty x y) (hx:ev e x=some (.pointer (some ⟨g,off,none⟩))) (hy:ev e y=some (.agg new.toArray)) (hi:L[i]?=some (As.blk g t cs))
 (hsz:(P.info? ty).map (·.size)=some m) (hm:new.length=m) (hl:off+m≤cs.length) (h1:∀u∈new,u.oneCell'=true) (hcs:put cs off new=cs')
 (k:∀w',Mem w0 S (L.set i (As.blk g t cs')) w'→SxL P ops Q n rest e w'):SxL P ops Q n (o::rest) e w:=by
 subst hm;refine sxl_does none hw hd X (λρ hρ=>BK ty x y ho g off t cs new (hρ _ _ hx) (hρ _ _ hy) (M.blk i hi) hsz hl h1) ?_;rintro _ w1 ⟨rfl,hb,hf⟩;subst hcs;exact k w1 (M.upd i hi (jS hf) (As.blk g t _) hb (λg' hg'=>.inl hg'))
theorem K4 (M:Mem w0 S L w) {d t:Nat} (hw:Wn ops e o) (hd:o.dst=some d) (hn:Nat.blt d n=true) (ho:o.op=.makeMap t none)
 (k:∀g w',w.heap.size≤g→Mem w0 S (As.mp g []::L) w'→SxL P ops Q n rest ((d,.map (some g))::e) w'):SxL P ops Q n (o::rest) e w:=by
 refine sxl_does (some d) hw hd hn (λρ hρ=>TJ ho) ?_;rintro _ w1 ⟨g,rfl,h1,h2,hb,hf⟩;exact k g w1 h1 (M.push hf _ hb (λg' hg'=>by simp only [As.mp,Au] at hg';subst hg';exact ⟨h1,h2⟩))
theorem GJ (M:Mem w0 S L w) (i:Nat) (hw:Wn ops e o) (hd:o.dst=none) {t kt el g:Nat} {mp ix x:Lz} {key:Kz} {v:Kv} {K:List (Kz × Kv)} (ho:o.op=.mapUpdate t mp ix x) (hm:ev e mp=some (.map (some g))) (hx:ev e ix=some (str key)) (hv:ev e x=some v) (hu:P.underlying t=some (.map kt el)) (hk:P.underlying kt=some .string)
 (hi:L[i]?=some (As.mp g K)) (k:∀w',Mem w0 S (L.set i (As.mp g (D9 K key v))) w'→SxL P ops Q n rest e w'):SxL P ops Q n (o::rest) e w:=by
 refine sxl_does none hw hd X (λρ hρ=>GF ho (hρ _ _ hm) (hρ _ _ hx) (hρ _ _ hv) hu hk (M.mp i hi)) ?_;rintro _ w1 ⟨rfl,hf,hb⟩;exact k w1 (M.upd i hi (hf.mono λk _ e=>by simp only [As.mp,Au];exact e) (As.mp g _) hb (λg' hg'=>.inl hg'))
theorem ET (M:Mem w0 S L w) (i:Nat) (hw:Wn ops e o) (hd:o.dst=none) {t kt el g:Nat} {mp ix x:Lz} {key:Kz} {v:Kv} {K:List (Kz × Kv)} (ho:o.op=.insert t mp ix x) (hm:ev e mp=some (.map (some g))) (hx:ev e ix=some (str key)) (hv:ev e x=some v) (hu:P.underlying t=some (.map kt el)) (hk:P.underlying kt=some .string)
 (hi:L[i]?=some (As.mp g K)) (k:∀w',Mem w0 S (L.set i (As.mp g (D9 K key v))) w'→SxL P ops Q n rest e w'):SxL P ops Q n (o::rest) e w:=by
 refine sxl_does none hw hd X (λρ hρ=>fR ho (hρ _ _ hm) (hρ _ _ hx) (hρ _ _ hv) hu hk (M.mp i hi)) ?_;rintro _ w1 ⟨rfl,hf,hb⟩;exact k w1 (M.upd i hi (hf.mono λk _ e=>by simp only [As.mp,Au];exact e) (As.mp g _) hb (λg' hg'=>.inl hg'))
theorem AB {c:Lz} {x y:Code} {b:Bool} (hc:ev e c=some (.bool b)) (h1:b=true→Sx P x Q n e w) (h2:b=false→Sx P y Q n e w):Sx P (Code.cond c x y) Q n e w:=by
 cases b
 ·exact sx_false hc (h2 X)
 exact sx_true hc (h1 X)
end
end
section
section
variable {α:Type}
def All (m:Nat) (l:List (List α)):Prop:=∀x∈l,x.length=m
theorem All.nil {m:Nat}:All m ([]:List (List α)):=λ_ h=>by cases h
theorem All.tail {m:Nat} {x:List α} {l:List (List α)} (h:All m (x::l)):All m l:=λy hy=>h y (Ap _ hy)
theorem All.head {m:Nat} {x:List α} {l:List (List α)} (h:All m (x::l)):x.length=m:=h x Bc
theorem ON {m:Nat} {l:List (List α)} (h:All m l):l.flatten.length=l.length*m:=by
 induction l with
 | nil=>simp
 | cons x l ih=>rw [Hu,Ah,ih h.tail,h.head,Af,Hz];omega
theorem bP {m:Nat} {l:List (List α)} (h:All m l) {i:Nat} {x:List α} (hx:l[i]?=some x):(l.flatten.drop (i*m)).take m=x:=by
 induction l generalizing i with
 | nil=>simp at hx
 | cons y l ih=>
  cases i with
  | zero=>
   simp only [Ai,Ad] at hx
   subst hx;rw [Fi,List.drop_zero,Hu];exact Gv h.head
  | succ i=>
   rw [Hu,show (i+1)*m=y.length+i*m from by rw [h.head,Hz];omega,←Gc,List.drop_left];exact ih h.tail (by simpa using hx)
end
end
section
theorem wF (n:Nat):IntKind.u8.wrap (n:Int)=((UInt8.ofNat n).toNat:Int):=by
 show (n:Int).emod _=_
 rw [UInt8.toNat_ofNat'];exact Int.natCast_emod n 256 |>.symm
theorem GD {x:Int} {n:Nat} (h:x=(n:Int)):IntKind.u8.wrap x=((UInt8.ofNat n).toNat:Int):=by subst h;exact wF n
theorem J5 {n:Nat} (h:n<256):IntKind.i64.wrap (n:Int)=(n:Int):=IntWalk.i64_in _ ⟨by omega,by omega⟩
section
variable {P:Lw} {e:Env} {w:Kw} {o:Oper}
theorem rD (w:Kw) (src dst e:Ly) (hs:P.underlying src=some (.slice e)) (he:P.underlying e=some (.int .u8)) (hd:P.underlying dst=some .string)
 (A:Ky) (n c:Nat) (l:Kz) (hr:Rd w A n (bvs l)) :
 (convert src dst (.slice A n c)).run P w=.ok (str l) w:=by
 have hl:l.length=n:=by rw [←QQ,hr.1]
 rcases Ep n with h0|h0
 ·have hx:l=[]:=Bj (by omega);subst hx;subst h0;rcases A with _|a
  ·rw [run_convert_bytes_nil w src e hs he 0 c dst hd];rfl
  rw [run_convert_bytes_string w src dst e _ 0 c hs he hd,run_bytesToString w a 0 c [] (by simp [loadCells,loadCellsFrom])];rfl
 obtain ⟨b,off,rfl,_⟩:=hr.2 h0
 have:=run_convert_bytes_arg (P:=P) w src e hs he b off n c (l.map λx=>(x.toNat:Int)) (by simpa using hl) (λi hi=>by
  obtain ⟨b',off',e',u,hu,hc⟩:=hr.at_ hi
  injection e' with e';injection e' with e1 e2 _;subst e1;subst e2
  rw [hc];have hil:i<l.length:=by omega
  rw [cA,Ao hil] at hu
  simp only [Dc,Ad] at hu
  subst hu
  simp [bv,hil]) dst hd
 rw [this];unfold str strOfNums
 congr 3
 rw [Gr];refine Ay List.toArray (Fd (g:=id) (λx _=>?_) |>.trans (List.map_id _))
 simp
theorem VI {s d el:Nat} {x:Lz} {A:Ky} {n c:Nat} {l:Kz} (ho:o.op=.convert s d x) (hx:ev e x=some (.slice A n c)) (hs:P.underlying s=some (.slice el)) (he:P.underlying el=some (.int .u8)) (hd:P.underlying d=some .string) (hr:Rd w A n (bvs l)):Y P e o w (str l):=λρ h=>by
 unfold execOp
 simp [ho,h _ _ hx,rD w s d el hs he hd A n c l hr]
theorem O7 {t:Nat} {x i j:Lz} {l:Kz} {k k':IntKind} {a b:Nat} (ho:o.op=.slice t x (some i) (some j) none) (hx:ev e x=some (str l)) (hi:ev e i=some (.int k (a:Int))) (hj:ev e j=some (.int k' (b:Int))) (ht:P.underlying t=some .string) (hab:a≤b) (hb:b≤l.length):Y P e o w (str ((l.drop a).take (b-a))):=λρ h=>by
 have hs:(ByteArray.mk l.toArray).size=l.length:=by show l.toArray.size=_;simp
 unfold execOp
 simp [ho,h _ _ hx,h _ _ hi,h _ _ hj,str,Instr.sliceAt,Instr.slice,run_underlying ht,Instr.sliceBounds,Instr.sliceBound,asIntOf,hs,hab,hb,Lib.extract_eq]
theorem vS {t:Nat} {x i:Lz} {l:Kz} {k:IntKind} {a:Nat} (ho:o.op=.slice t x (some i) none none) (hx:ev e x=some (str l)) (hi:ev e i=some (.int k (a:Int))) (ht:P.underlying t=some .string) (ha:a≤l.length):Y P e o w (str (l.drop a)):=λρ h=>by
 have hs:(ByteArray.mk l.toArray).size=l.length:=by show l.toArray.size=_;simp
 have hd:(l.drop a).take (l.length-a)=l.drop a:=Gp (by rw [Bz];omega);unfold execOp
 simp [ho,h _ _ hx,h _ _ hi,str,Instr.sliceAt,Instr.slice,run_underlying ht,Instr.sliceBounds,Instr.sliceBound,asIntOf,hs,ha,Lib.extract_eq,hd]
theorem I1 {t t':Nat} {a b:Kz} {x y:Lz} (ho:o.op=.binOp .neq t x y t') (hx:ev e x=some (str a)) (hy:ev e y=some (str b)):Y P e o w (.bool (!decide (a=b))):=λρ h=>by
 have h1:ρ x=.string ⟨a.toArray⟩:=h _ _ hx;have h2:ρ y=.string ⟨b.toArray⟩:=h _ _ hy;unfold execOp
 simp [ho,h1,h2,eqGuard_at_string,binOp,Op.stringOp]
 by_cases hab:a=b
 ·subst hab;simp
 simp [hab]
end
end
end Go.Proofs.YtppmdnmjepkfaaaGreatDoor
