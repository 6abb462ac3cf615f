/- Lemmas. -/
import Derived.Test.YtppmdnmjepkfaaaGreatDoorProg
import Derived.WalkKit
import Derived.Maps.AppendAt
import Derived.Deep.AppendLies
import Derived.Deep.Draws
import Derived.Deep.MidRow
import Derived.Laws.CopyOwn
import Derived.Lib.Hide
import Derived.KernelRfl
import Derived.Deep.RegionLaw
import Derived.Deep.QuietTactic
import Derived.BigQuiet
import Derived.Laws.StructEq
import Derived.Laws.MakeOwn
import Derived.StillTail
import Derived.IntWalk
import Derived.OrdersHeld
import Derived.Laws.Tables
import Derived.Great.BuildSlice
import Derived.Laws.BytesArg
import Derived.Lib.Strings
set_option maxHeartbeats 16000000
set_option maxRecDepth 100000
namespace Go.Proofs.YtppmdnmjepkfaaaGreatDoor
open Go.RowKit
open Decidable renaming decide→O
open Option renaming some→G,none→zx
open Bool renaming true→zz,false→zy
open Go renaming Calls→zt
theorem X.{u} {α:Sort u} {a:α}:a=a:=rfl
theorem A0 {p:Prop} (h:p:=by omega):p:=h
theorem zr {p:Prop} (h:p:=by kernel_rfl):p:=h
abbrev Ac:=@if_pos
abbrev Ad:=@Tryz.underlying9
abbrev Ae:=@if_neg
abbrev Af:=@Nat.le_refl
abbrev Ah:=@List.mem_of_getElem?
abbrev Ai:=@Option.some.injEq
abbrev Aj:=@Nat.zero_le
abbrev Ak:=@List.getElem?_cons_zero
abbrev Al:=@List.length_cons
abbrev Am:=@List.length_append
abbrev An:=@List.getElem?_eq_some_iff
abbrev Ao:=@List.mem_cons
abbrev Ap:=@Tryz.underlying48
abbrev Aq:=@List.drop_length
abbrev Ar:=@Array.getElem?_eq_some_iff
abbrev Au:=@List.mem_singleton
abbrev Av:=@List.getElem?_eq_getElem
abbrev Ax:=@List.mem_cons_of_mem
abbrev Ay:=@List.length_nil
abbrev Az:=@Prod.mk.injEq
abbrev Ba:=@List.not_mem_nil
abbrev Bb:=@decide_eq_false
abbrev Bc:=@List.take_length
abbrev Be:=@Tryz.underlying107
abbrev Bf:=@congrArg
abbrev Bg:=@decide_eq_true
abbrev Bh:=@Nat.le_trans
abbrev Bi:=@List.mem_cons_self
abbrev Bj:=@Tryz.underlying213
abbrev Bk:=@Tryz.underlying106
abbrev Bl:=@List.eq_nil_of_length_eq_zero
abbrev Bm:=@Tryz.underlying3
abbrev Bn:=@Bool.and_eq_true
abbrev Bo:=@Tryz.underlying5
abbrev Bp:=@List.mem_append
abbrev Bq:=@List.getElem?_cons_succ
abbrev Br:=@List.length_map
abbrev Bs:=@List.length_take
abbrev Bt:=@Tryz.underlying113
abbrev Bu:=@List.map_append
abbrev Bv:=@Prod.mk.inj
abbrev Bw:=@Tryz.underlying75
abbrev By:=@Tryz.underlying61
abbrev Bz:=@Option.some.inj
abbrev Ca:=@List.getElem?_drop
abbrev Cb:=@List.getElem?_map
abbrev Cc:=@List.map_cons
abbrev Cd:=@List.append_nil
abbrev Ce:=@Nat.lt_of_lt_of_le
abbrev Cf:=@List.getElem?_of_mem
abbrev Cg:=@List.append_assoc
abbrev Ch:=@List.length_drop
abbrev Ci:=@Tryz.underlying166
abbrev Cj:=@List.getElem?_take_of_lt
abbrev Ck:=@List.getElem?_append_right
abbrev Cl:=@Tryz.underlying25
abbrev Cm:=@List.filter_append
abbrev Cn:=@Nat.eq_of_beq_eq_true
abbrev Co:=@Tryz.underlying110
abbrev Cp:=@Bool.eq_false_iff
abbrev Cq:=@List.mem_map
abbrev Cr:=@Nat.zero_add
abbrev Cs:=@List.filter_cons_of_pos
abbrev Ct:=@List.filter_cons_of_neg
abbrev Cu:=@List.all_eq_true
abbrev Cv:=@List.getElem?_append_left
abbrev Cw:=@Tryz.underlying52
abbrev Cx:=@List.cons.injEq
abbrev Cy:=@List.mem_append_right
abbrev Da:=@List.takeWhile_cons
abbrev Db:=@List.filter_cons
abbrev Dc:=@Tryz.underlying127
abbrev Dd:=@List.take_append_drop
abbrev De:=@List.mem_filter
abbrev Df:=@Option.getD_some
abbrev Dg:=@Nat.le_add_right
abbrev Dh:=@Tryz.underlying249
abbrev Di:=@Tryz.underlying99
abbrev Dj:=@Tryz.underlying80
abbrev Dk:=@Tryz.underlying23
abbrev Dl:=@List.take_add_one
abbrev Dm:=@Bool.false_eq_true
abbrev Dn:=@Option.map_some
abbrev Dp:=@Option.map_eq_some_iff
abbrev Dq:=@List.foldl_append
abbrev Dr:=@List.all_cons
abbrev Ds:=@List.mem_append_left
abbrev Dt:=@Tryz.underlying63
abbrev Du:=@List.getElem?_set_self
abbrev Dv:=@Nat.not_lt_zero
abbrev Dw:=@Bool.or_eq_true
abbrev Dx:=@Array.getElem?_setIfInBounds_ne
abbrev Dy:=@List.length_filter_le
abbrev Dz:=@List.map_singleton
abbrev Ea:=@Tryz.underlying228
abbrev Eb:=@Tryz.underlying184
abbrev Ec:=@List.any_cons
abbrev Ed:=@Nat.mul_le_mul_right
abbrev Ee:=@List.getElem?_set_ne
abbrev Ef:=@Bool.and_assoc
abbrev Eg:=@Nat.le_of_lt_succ
abbrev Eh:=@List.ext_getElem?
abbrev Ei:=@List.mem_map_of_mem
abbrev Ej:=@List.flatMap_append
abbrev Ek:=@Tryz.underlying46
abbrev Em:=@Tryz.underlying143
abbrev En:=@Bool.and_false
abbrev Eo:=@List.drop_eq_getElem_cons
abbrev Ep:=@Tryz.underlying76
abbrev Eq:=@Tryz.underlying4
abbrev Er:=@Tryz.underlying32
abbrev Es:=@Ne.symm
abbrev Et:=@Bool.not_eq_true'
abbrev Eu:=@Bool.true_and
abbrev Ev:=@List.flatMap_nil
abbrev Ew:=@Tryz.underlying42
abbrev Ex:=@Nat.eq_zero_or_pos
abbrev Ey:=@List.drop_of_length_le
abbrev Ez:=@Bool.true_eq_false
abbrev Fa:=@Nat.le_of_ble_eq_true
abbrev Fb:=@Int.toNat_natCast
abbrev Fd:=@List.take_zero
abbrev Fe:=@List.mem_range
abbrev Ff:=@List.exists_cons_of_ne_nil
abbrev Fg:=@List.Perm.refl
abbrev Fh:=@Option.bind_some
abbrev Fi:=@List.pairwise_iff_getElem
abbrev Fj:=@Classical.byContradiction
abbrev Fk:=@Array.getElem?_eq_getElem
abbrev Fm:=@List.map_congr_left
abbrev Fo:=@List.length_pos_iff
abbrev Fp:=@Nat.add_assoc
abbrev Fq:=@List.nil_append
abbrev Fs:=@Tryz.underlying45
abbrev Ft:=@Nat.zero_mul
abbrev Fu:=@List.take_of_length_le
abbrev Fv:=@List.flatMap_cons
abbrev Fw:=@Bool.false_and
abbrev Fx:=@List.getElem?_eq_none
abbrev Fy:=@List.mem_flatMap
abbrev Fz:=@List.map_toArray
abbrev Ga:=@Tryz.underlying245
abbrev Gb:=@Tryz.underlying197
abbrev Gc:=@Bool.false_or
abbrev Gd:=@Array.toArray_toList
abbrev Ge:=@UInt8.toNat_inj
abbrev Gf:=@Nat.min_eq_left
abbrev Gg:=@List.nodup_cons
abbrev Gh:=@List.all_append
abbrev Gi:=@Nat.sub_self
abbrev Gj:=@Nat.lt_or_ge
abbrev Gk:=@Bool.not_not
abbrev Gl:=@List.drop_drop
abbrev Gm:=@Bool.false_ne_true
abbrev Gn:=@Tryz.underlying139
abbrev Gp:=@Tryz.underlying101
abbrev Gq:=@List.filterMap_cons_some
abbrev Gr:=@List.filterMap_cons_none
abbrev Gs:=@Bool.not_true
abbrev Gt:=@Nat.le_mul_of_pos_right
abbrev Gu:=@Tryz.underlying40
abbrev Gv:=@Nat.mul_comm
abbrev Gw:=@Nat.le_of_lt
abbrev Gx:=@List.map_nil
abbrev Gy:=@List.map_map
abbrev Gz:=@List.filter_eq_nil_iff
abbrev Ha:=@Int.le_of_lt
abbrev Hb:=@List.take_left'
abbrev Hc:=@List.length_set
abbrev Hd:=@List.singleton_append
abbrev He:=@List.length_singleton
abbrev Hf:=@List.filterMap_append
abbrev Hg:=@Tryz.underlying2
abbrev Hh:=@Tryz.underlying0
abbrev Hi:=@List.getElem?_modify
abbrev Hj:=@Int.le_refl
abbrev Hk:=@List.take_succ_cons
abbrev Hl:=@List.getElem?_range
abbrev Hm:=@List.filterMap_cons
abbrev Hn:=@List.dropWhile_cons
abbrev Ho:=@Array.toList_modify
abbrev Hp:=@Tryz.underlying265
abbrev Hq:=@Tryz.underlying131
abbrev Hr:=@Nat.lt_of_le_of_lt
abbrev Hs:=@List.pairwise_cons
abbrev Hu:=@Array.foldl_toList
abbrev Hv:=@Tryz.underlying71
abbrev Hw:=@Tryz.underlying50
abbrev Hx:=@Tryz.underlying29
abbrev Hy:=@Tryz.underlying21
abbrev Hz:=@UInt8.ofNat_toNat
abbrev Ia:=@Nat.add_zero
abbrev Ib:=@List.getElem?_set
abbrev Ic:=@List.flatten_cons
abbrev Id:=@List.any_eq_false
abbrev Ie:=@Bool.not_and
abbrev Ig:=@Array.toList_push
abbrev Ih:=@List.getElem_map
abbrev Ii:=@List.cons_append
abbrev Ij:=@Nat.add_mul
abbrev Ik:=@List.foldl_cons
abbrev Il:=@UInt8.toNat_or
abbrev Im:=@Array.getElem?_append_left
abbrev Io:=@Option.isNone_iff_eq_none
abbrev Ip:=@Tryz.underlying248
abbrev Iq:=@Tryz.underlying227
abbrev Ir:=@Tryz.underlying226
abbrev It:=@Tryz.underlying211
abbrev Iu:=@Tryz.underlying198
abbrev Iv:=@Tryz.underlying100
abbrev Iw:=@Option.isSome_iff_exists
abbrev Iy:=@Bool.or_false
abbrev Iz:=@Bool.and_true
abbrev Ja:=@Array.setIfInBounds_comm
abbrev Jb:=@Nat.add_sub_cancel_left
abbrev Jc:=@Tryz.underlying44
abbrev Jd:=@Tryz.underlying22
abbrev Je:=@Nat.zero_mod
abbrev Jf:=@Nat.succ_pos
abbrev Jg:=@Nat.succ_mul
abbrev Jh:=@List.length_pos_of_mem
abbrev Ji:=@List.drop_eq_nil_of_le
abbrev Jj:=@List.any_map
abbrev Jk:=@Int.le_trans
abbrev Jl:=@List.takeWhile_prefix
abbrev Jm:=@BitVec.eq_of_toNat_eq
abbrev Kz:=List UInt8
abbrev Ky:=Option Addr
abbrev Kx:=List Value
abbrev Kw:=World
abbrev Kv:=Value
abbrev Lz:=Operand
abbrev Ly:=TypeId
abbrev Lw:=Program
section
theorem odt {p:Prop} [Decidable p] (h:O p=zz):p:=of_decide_eq_true h
theorem odf {p:Prop} [Decidable p] (h:O p=zy):¬p:=of_decide_eq_false h
structure Fr (S:Nat→Prop) (w w':Kw):Prop where
 os:w'.os=w.os
 tape:w'.tape=w.tape
 output:w'.output=w.output
 size:w.heap.size≤w'.heap.size
 block:∀k,k<w.heap.size→¬S k→w'.heap[k]?=w.heap[k]?
abbrev AR : Nat→Prop:=λ_=>False
abbrev Fr0 := Fr AR
namespace Fr
variable {S T:Nat→Prop} {w w' w'':Kw}
theorem refl : Fr S w w:=⟨rfl,rfl,rfl,Af _,λ_ _ _=>rfl⟩
theorem mono (h:Fr S w w') (hs:∀k,k<w.heap.size→S k→T k):Fr T w w':=
 ⟨h.os,h.tape,h.output,h.size,λk hk hn=>h.block k hk (λhh=>hn (hs k hk hh))⟩
theorem of0 (h:Fr0 w w'):Fr S w w':=h.mono (λ_ _ hh=>hh.elim)
theorem trans (h:Fr S w w') (h':Fr S w' w''):Fr S w w'':=
 ⟨h'.os.trans h.os,h'.tape.trans h.tape,h'.output.trans h.output,Bh h.size h'.size,
  λk hk hn=>(h'.block k (Ce hk h.size) hn).trans (h.block k hk hn)⟩
theorem step (h:Fr S w w') (h':Fr T w' w'') (ht:∀k,k<w.heap.size→T k→S k):Fr S w w'':=
 ⟨h'.os.trans h.os,h'.tape.trans h.tape,h'.output.trans h.output,Bh h.size h'.size,
  λk hk hn=>(h'.block k (Ce hk h.size) (λhh=>hn (ht k hk hh))).trans (h.block k hk hn)⟩
theorem then0 (h:Fr S w w') (h':Fr0 w' w''):Fr S w w'':=h.step h' (λ_ _ hh=>hh.elim)
theorem drew (h:Fr S w w'):Fr S w w'.drew:=⟨h.os,h.tape,h.output,h.size,h.block⟩
theorem alloc (h:Fr S w w') (o:Obj):Fr S w (w'.alloc o):=
 h.step (T:=AR) ⟨rfl,rfl,rfl,by simp,λk hk _=>Below.heap_alloc _ _ _ hk⟩ (λ_ _ hh=>hh.elim)
theorem below (h:Fr0 w w'):Below w.heap.size w w':=⟨h.os,h.tape,h.output,h.size,λk hk=>h.block k hk (λhh=>hh)⟩
theorem ofBelow (h:Below w.heap.size w w'):Fr S w w':=⟨h.os,h.tape,h.output,h.size,λk hk _=>h.block k hk⟩
theorem cell (h:Fr S w w') {p:Addr} (hp:p.block<w.heap.size) (hn:¬S p.block):w'.cell? p=w.cell? p:=
 World.cell?_of_block (w:=w) (h.block p.block hp hn)
end Fr
def Blk (w:Kw) (g:Nat) (t:Ly) (cs:Kx):Prop:=w.heap[g]?=G (.cells cs.toArray t (0,0))
namespace Blk
variable {w w':Kw} {g:Nat} {t:Ly} {cs:Kx}
theorem lt (h:Blk w g t cs):g<w.heap.size:=by
 rcases Gj g w.heap.size with hlt|hge
 ·exact hlt
 unfold Blk at h;rw [Array.getElem?_eq_none hge] at h;cases h
theorem cell (h:Blk w g t cs) (i:Nat):w.cell? ⟨g,i,zx⟩=cs[i]?:=by
 rw [cell_of_row w g i cs.toArray t (0,0) h];simp
theorem new (w:Kw) (t:Ly) (cs:Kx):Blk (w.alloc (.cells cs.toArray t)) w.heap.size t cs:=heap_alloc_new w _
theorem fr {S:Nat→Prop} (h:Blk w g t cs) (hf:Fr S w w') (hn:¬S g):Blk w' g t cs:=(hf.block g h.lt hn).trans h
theorem fr0 (h:Blk w g t cs) (hf:Fr0 w w'):Blk w' g t cs:=h.fr hf (λhh=>hh)
theorem ne {g':Nat} {t':Ly} {cs':Kx} (h:Blk w g t cs) (h':Blk w g' t' cs') (hne:t≠t'):g≠g':=by
 rintro rfl;unfold Blk at h h'
 rw [h] at h'
 injection h' with h'
 injection h' with _ ht
 exact hne ht
end Blk
def Rd (w:Kw) (A:Ky) (n:Nat) (xs:Kx):Prop:=
 xs.length=n∧(0<n→∃b off,A=G ⟨b,off,zx⟩∧∀j u,xs[j]?=G u→w.cell? ⟨b,off+j,zx⟩=G u)
namespace Rd
variable {w w':Kw} {A:Ky} {n:Nat} {xs:Kx}
theorem nil {A:Ky}:Rd w A 0 []:=⟨rfl,λh=>absurd h A0⟩
theorem at_ (h:Rd w A n xs) {k:Nat} (hk:k<n):∃b off,A=G ⟨b,off,zx⟩∧∃u,xs[k]?=G u∧w.cell? ⟨b,off+k,zx⟩=G u:=by
 obtain ⟨b,off,e,hc⟩:=h.2 A0;have hl:k<xs.length:=by have:=h.1;omega
 exact ⟨b,off,e,xs[k],Av hl,hc k _ (Av hl)⟩
theorem keep (h:Rd w A n xs) (hk:0<n→∀b off,A=G ⟨b,off,zx⟩→∀j,w.cell? ⟨b,j,zx⟩≠zx→w'.cell? ⟨b,j,zx⟩=w.cell? ⟨b,j,zx⟩):Rd w' A n xs:=
 ⟨h.1,λhn=>by
  obtain ⟨b,off,e,hc⟩:=h.2 hn;exact ⟨b,off,e,λj u hu=>(hk hn b off e _ (by rw [hc j u hu];simp)).trans (hc j u hu)⟩⟩
theorem fr {S:Nat→Prop} (h:Rd w A n xs) (hf:Fr S w w') (hn:0<n→∀b off,A=G ⟨b,off,zx⟩→¬S b):Rd w' A n xs:=
 h.keep λh0 b off e j hj=>hf.cell (p:=⟨b,j,zx⟩) (by
  cases hc:w.cell? ⟨b,j,zx⟩ with
  | none=>exact absurd hc hj
  | some v=>exact World.block_lt_of_cell? w ⟨b,j,zx⟩ hc) (hn h0 b off e)
theorem fr0 (h:Rd w A n xs) (hf:Fr0 w w'):Rd w' A n xs:=h.fr hf (λ_ _ _ _ hh=>hh)
theorem of_own {base:Nat} {e:Ly} {A:Ky} {c:Nat} (h:w.ownsRow base e 1 (.slice A n c) n xs):Rd w A n xs:=by
 refine ⟨by simpa using h.1,λhn=>?_⟩;rcases h.2 with ⟨hv,h0⟩|⟨g,cap,cur,hv,_⟩
 ·omega
 injection hv with hA
 subst hA;refine ⟨g,0,X,λj u hu=>?_⟩
 have:=h.cells (g:=g) X j u hu
 rwa [Addr.add_mid] at this
end Rd
def bv (c:UInt8):Kv:=.int .u8 (c.toNat:Int)
def bvs (l:Kz):Kx:=l.map bv
theorem R6 (l:Kz):(bvs l).length=l.length:=by simp [bvs]
theorem cU (l:Kz) (k:Nat):(bvs l)[k]?=(l[k]?).map bv:=by simp [bvs]
section
variable {P:Lw} (w:Kw)
theorem V6 (base:Nat) (t ty e:Ly) (i:TypeInfo) (z:Kv) (bytes:Nat) (ht:P.underlying t=G (.slice e)) (hi:P.info? e=G i) (hz:i.zero=G z)
 (hsize:i.size=1) (hby:i.bytes=bytes) (hzs:z.cells.size=1)
 (v:Kv) (n:Nat) (xs:Kx) (hown:w.ownsRow base e 1 v n xs)
 (A:Ky) (m c:Nat) (news:Kx) (hr:Rd w A m news) (h1:∀u∈news,u.oneCell'=zz)
 (h63:n+m≤maxLen) (hbytes:(n+m)*bytes≤140737488355328) (hbase:base≤w.heap.size) :
 ∃v' w',(Builtin.append_ #[t,t] ty #[v,.slice A m c]).run P w=.ok v' w'∧w'.ownsRow base e 1 v' (n+m) (xs++news)∧w.grownBy w' v.ownBlock ∧
  (v'.ownBlock=v.ownBlock∨v'.ownBlock=G w.heap.size):=by
 rcases A with _|ad
 ·have hm:m=0:=by
   rcases Ex m with h0|h0
   ·exact h0
   obtain ⟨b,off,h,_⟩:=hr.2 h0
   cases h
  subst hm;have hn:news=[]:=Bl hr.1;subst hn;refine ⟨v,w,?_,by simpa using hown,⟨rfl,rfl,rfl,Af _,λ_ _ _=>rfl⟩,.inl rfl⟩;rcases hown.2 with ⟨rfl,rfl⟩|⟨g,cap,cur,rfl,_,_,hnc,_⟩
  ·simp [Builtin.append_,run_underlying ht,sizeOf,typeInfo,hi,Builtin.lenOf,Builtin.firstCells]
  simp [Builtin.append_,run_underlying ht,sizeOf,typeInfo,hi,Builtin.lenOf,Builtin.firstCells,hnc,storeCells]
 have hcells:∀j u,news[j]?=G u→w.cell? (ad.add j)=G u:=by
  intro j u hu;rcases Ex m with h0|h0
  ·subst h0;have hn:news=[]:=Bl hr.1;subst hn
   simp at hu
  obtain ⟨b',off',h,hc⟩:=hr.2 h0
  injection h with h
  subst h;rw [Addr.add_mid];exact hc j u hu
 obtain ⟨v',w',hrun,h2,h3,_,h5⟩:=run_append_own_at (P:=P) w base t ty e i z 1 bytes ht hi hz hsize hby hzs A0 v n xs hown ad m c news (by simpa using hr.1) hcells h1 h63 hbytes hbase;exact ⟨v',w',hrun,h2,h3,h5⟩
end
end
section
def K7 (P:Lw) (ρ:Lz→Kv) (o:Oper) (w:Kw) (R:Kv→Kw→Prop):Prop:=
 ∃v w',((execOp ρ o).run P w=.ok (.value v) w'∨((execOp ρ o).run P w=.ok .skip w'∧v=undef))∧R v w'
namespace K7
variable {P:Lw} {o:Oper} {w:Kw} {R:Kv→Kw→Prop} {ops:Array Oper} {rest:List Oper} {a:Act} {Q:Exit→Act→Kw→Prop}
theorem wp {K:Act→Kw→Prop} (h:K7 P a.eval o w R) (k:∀v w',R v w'→K (a.put o.dst v) w'):o.wp P a w K Q:=by
 obtain ⟨v,w',hr|⟨hr,rfl⟩,hR⟩:=h
 ·unfold Oper.wp;rw [hr];exact k _ _ hR
 unfold Oper.wp;rw [hr];exact k _ _ hR
theorem mono {ρ:Lz→Kv} {R':Kv→Kw→Prop} (h:K7 P ρ o w R) (k:∀v w',R v w'→R' v w'):K7 P ρ o w R':=
 let ⟨v,w',hr,hR⟩:=h;⟨v,w',hr,k _ _ hR⟩
end K7
theorem Fr.setRow {S:Nat→Prop} {w w':Kw} (h:Fr S w w') {g:Nat} (hg:g<w.heap.size→S g) (cs:Array Kv):Fr S w (w'.setRow g cs):=
 h.step (T:=λk=>k=g) ⟨rfl,rfl,rfl,by simp,λk _ hn=>setRow_other w' g k cs hn⟩ (λk hk e=>by subst e;exact hg hk)
theorem ZU (w:Kw) (g:Nat) (cs:Array Kv):Fr (λk=>k=g) w (w.setRow g cs):=Fr.setRow (S:=λk=>k=g) Fr.refl (λ_=>rfl) cs
def put (cs:Kx) (off:Nat) (xs:Kx):Kx:=cs.take off++(xs++cs.drop (off+xs.length))
theorem zS (cs:Kx) (off:Nat):put cs off []=cs:=by simp [put]
theorem HZ (cs xs:Kx) (h:xs.length=cs.length):put cs 0 xs=xs:=by
 simp [put,h]
section
variable {P:Lw} {ρ:Lz→Kv} {o:Oper} {w:Kw}
theorem BZ (ty:Ly) (x y:Lz) (ho:o.op=.store ty x y) (g off:Nat) (t:Ly) (cs new:Kx)
 (hx:ρ x=.pointer (G ⟨g,off,zx⟩)) (hy:ρ y=.agg new.toArray) (hb:Blk w g t cs)
 (hi:(P.info? ty).map (·.size)=G new.length) (hl:off+new.length≤cs.length) (h1:∀u∈new,u.oneCell'=zz) :
 K7 P ρ o w λv w'=>v=undef∧Blk w' g t (put cs off new)∧Fr (λk=>k=g) w w':=by
 have hs:=run_storeCells_at P g off t new 0 cs.toArray w hb (by simpa using hl) h1;refine ⟨undef,w.setRow g (put cs off new).toArray,.inr ⟨?_,X⟩,X,?_,ZU w g _⟩
 rotate_left
 ·exact setRow_heap w g _ _ t _ hb
 have hrun:(storeVar ty ⟨g,off,zx⟩ (.agg new.toArray)).run P w=.ok () (w.setRow g (put cs off new).toArray):=by
  cases hq:P.info? ty with
  | none=>simp [hq] at hi
  | some i=>
   have hsz:new.length=i.size:=by simp [hq] at hi;omega
   simp only [Ia] at hs
   simp [storeVar,sizeOf,typeInfo,hq,Value.cells,hsz,hs,put]
 unfold execOp;simp only [ho,hx,hy,Instr.storeAt,Instr.sureAddr,Sem.run_bind,Sem.run_pure,Result.andThen_ok,hrun]
theorem ED (ty:Ly) (x y:Lz) (ho:o.op=.store ty x y) (g off:Nat) (t:Ly) (cs:Kx) (v:Kv)
 (hx:ρ x=.pointer (G ⟨g,off,zx⟩)) (hy:ρ y=v) (hv:v.cells = #[v]) (hb:Blk w g t cs)
 (hi:(P.info? ty).map (·.size)=G 1) (hl:off<cs.length) (h1:v.oneCell'=zz) :
 K7 P ρ o w λu w'=>u=undef∧Blk w' g t (cs.set off v)∧Fr (λk=>k=g) w w':=by
 have hs:=run_storeCells_at P g off t [v] 0 cs.toArray w hb (by simp;omega) (by simpa using h1)
 have hput:cs.set off v=put cs off [v]:=by
  rw [List.set_eq_take_append_cons_drop,Ac hl];simp [put]
 refine ⟨undef,w.setRow g (put cs off [v]).toArray,.inr ⟨?_,X⟩,X,?_,ZU w g _⟩
 rotate_left
 ·rw [hput];exact setRow_heap w g _ _ t _ hb
 have hrun:(storeVar ty ⟨g,off,zx⟩ v).run P w=.ok () (w.setRow g (put cs off [v]).toArray):=by
  cases hq:P.info? ty with
  | none=>simp [hq] at hi
  | some i=>
   have hsz:i.size=1:=by simpa [hq] using hi
   simp only [Ia] at hs
   simp [storeVar,sizeOf,typeInfo,hq,hv,hsz,hs,put]
 unfold execOp;simp only [ho,hx,hy,Instr.storeAt,Instr.sureAddr,Sem.run_bind,Sem.run_pure,Result.andThen_ok,hrun]
theorem BP (e:Ly) (ho:o.op=.alloc e) (z:Kv) (zs:Kx) (hz:(P.info? e).map (·.zero)=G (G z)) (hc:z.cells=zs.toArray) :
 K7 P ρ o w λv w'=>∃g,v=.pointer (G ⟨g,0,zx⟩)∧w.heap.size≤g∧g<w'.heap.size∧Blk w' g e zs∧Fr0 w w':=by
 refine ⟨_,w.alloc (.cells zs.toArray e),.inl ?_,w.heap.size,X,Af _,by simp,Blk.new w e zs,Fr.refl.alloc _⟩
 cases hq:P.info? e with
 | none=>simp [hq] at hz
 | some i=>
  have hz':i.zero=G z:=by simpa [hq] using hz
  unfold execOp
  simp [ho,Instr.alloc,zeroValue,typeInfo,hq,hz',newVar,newRow,hc]
theorem NF (e:Ly) (x:Lz) (ho:o.op=.box e x) (cs:Kx) (hx:(ρ x).cells=cs.toArray) :
 K7 P ρ o w λv w'=>∃g,v=.pointer (G ⟨g,0,zx⟩)∧w.heap.size≤g∧g<w'.heap.size∧Blk w' g e cs∧Fr0 w w':=by
 refine ⟨_,w.alloc (.cells cs.toArray e),.inl ?_,w.heap.size,X,Af _,by simp,Blk.new w e cs,Fr.refl.alloc _⟩;unfold execOp
 simp [ho,Instr.box,newVar,newRow,hx]
theorem gV (s x:Lz) (t:Ly) (ho:o.op=.call { callee:=.builtin .append,args := #[s,x],argTypes := #[t,t] })
 (base:Nat) (e:Ly) (z:Kv) (bytes:Nat) (ht:P.underlying t=G (.slice e)) (hi:(P.info? e).map (λi=>(i.zero,i.size,i.bytes))=G (G z,1,bytes)) (hzs:z.cells.size=1)
 (v:Kv) (n:Nat) (xs:Kx) (hs:ρ s=v) (hown:w.ownsRow base e 1 v n xs)
 (A:Ky) (m c:Nat) (news:Kx) (hx:ρ x=.slice A m c) (hr:Rd w A m news) (h1:∀u∈news,u.oneCell'=zz)
 (h63:n+m≤maxLen) (hbytes:(n+m)*bytes≤140737488355328) (hbase:base≤w.heap.size) :
 K7 P ρ o w λv' w'=>w'.ownsRow base e 1 v' (n+m) (xs++news)∧w.grownBy w' v.ownBlock∧(v'.ownBlock=v.ownBlock∨v'.ownBlock=G w.heap.size):=by
 cases hq:P.info? e with
 | none=>simp [hq] at hi
 | some i=>
  obtain ⟨hz,hsize,hby⟩:i.zero=G z∧i.size=1∧i.bytes=bytes:=by simpa [hq] using hi
  obtain ⟨v',w',hrun,h2,h3,h4⟩:=V6 (P:=P) w base t o.type e i z bytes ht hq hz hsize hby hzs v n xs hown A m c news hr h1 h63 hbytes hbase;refine ⟨v',w',.inl ?_,h2,h3,h4⟩;unfold execOp;simp only [ho,resolve,invoke,builtin,Sem.run_bind,Sem.run_pure,Result.andThen_ok,Fz,Cc,Gx,hs,hx,hrun]
end
theorem fD {w:Kw} {base:Nat} {e:Ly} {v:Kv} {n:Nat} {xs:Kx} (h:w.ownsRow base e 1 v n xs) :
 ∃A cap,v=.slice A n cap∧n≤cap∧cap≤maxLen∧Rd w A n xs∧(∀b off,A=G ⟨b,off,zx⟩→base≤b∧off=0):=by
 rcases h.2 with ⟨rfl,h0⟩|⟨g,cap,cur,rfl,hb,hg,hc,hm,hs,ht⟩
 ·subst h0;have hx:xs=[]:=Bl (by simpa using h.1);subst hx;exact ⟨zx,0,X,Af _,Aj _,Rd.nil,by simp⟩
 refine ⟨G ⟨g,0,zx⟩,cap,X,hc,hm,Rd.of_own h,?_⟩;intro b off e;injection e with e;injection e with e1 e2 _;subst e1;exact ⟨hb,e2.symm⟩
theorem jL {w w':Kw} {S:Nat→Prop} {base:Nat} {e:Ly} {v:Kv} {n:Nat} {xs:Kx} (h:w.ownsRow base e 1 v n xs) (hf:Fr S w w') (hn:∀k,v.ownBlock=G k→¬S k) :
 w'.ownsRow base e 1 v n xs:=by
 refine ⟨h.1,?_⟩;rcases h.2 with hh|⟨g,cap,cur,rfl,hb,hg,r⟩
 ·exact .inl hh
 exact .inr ⟨g,cap,cur,X,hb,(hf.block g (Ar.1 hg).1 (hn g X)).trans hg,r⟩
end
section
section
variable {P:Lw} (w:Kw)
end
theorem gQ {P:Lw} {ρ:Lz→Kv} {o:Oper} {w:Kw} (ty:Ly) (x:Lz) (ho:o.op=.load ty x) (b off n:Nat) (xs:Kx) (d:TypeDesc)
 (hx:ρ x=.pointer (G ⟨b,off,zx⟩)) (hr:Rd w (G ⟨b,off,zx⟩) n xs) (hu:P.underlying ty=G d) (hd:d.isRow=zz) (hi:(P.info? ty).map (·.size)=G n) :
 (execOp ρ o).run P w=.ok (.value (.agg xs.toArray)) w:=by
 have hc:w.rangeAt b off xs:=λj v hv=>by
  have hj:0<n:=by have:=(An.1 hv).1;have:=hr.1;omega
  obtain ⟨b',off',e,hc⟩:=hr.2 hj
  injection e with e;injection e with e1 e2 _;subst e1;subst e2
  exact hc j v hv
 have hrun:=run_loadVar_mid (P:=P) w b off ty xs d hc hu hd (by rw [hr.1];exact hi);unfold execOp;simp only [ho,hx,Instr.loadAt,Instr.sureAddr,Sem.run_bind,Sem.run_pure,Result.andThen_ok,hrun]
end
section
section
variable {P:Lw} {ρ:Lz→Kv} {o:Oper} {w:Kw}
end
end
section
section
variable {P:Lw} {ρ:Lz→Kv} {o:Oper} {w:Kw}
theorem D2 (s x:Lz) (t:Ly) (ho:o.op=.call { callee:=.builtin .append,args := #[s,x],argTypes := #[t,t] })
 (base:Nat) (e:Ly) (z:Kv) (size bytes:Nat) (ht:P.underlying t=G (.slice e)) (hi:(P.info? e).map (λi=>(i.zero,i.size,i.bytes))=G (G z,size,bytes)) (hzs:z.cells.size=size) (hpos:0<size)
 (v:Kv) (n:Nat) (xs:Kx) (hs:ρ s=v) (hown:w.ownsRow base e size v n xs)
 (A:Ky) (m c:Nat) (news:Kx) (hx:ρ x=.slice A m c) (hr:Rd w A (m*size) news) (h1:∀u∈news,u.oneCell'=zz)
 (h63:n+m≤maxLen) (hbytes:(n+m)*bytes≤140737488355328) (hbase:base≤w.heap.size) :
 K7 P ρ o w λv' w'=>w'.ownsRow base e size v' (n+m) (xs++news)∧w.grownBy w' v.ownBlock∧(v'.ownBlock=v.ownBlock∨v'.ownBlock=G w.heap.size):=by
 cases hq:P.info? e with
 | none=>simp [hq] at hi
 | some i=>
  obtain ⟨hz,hsize,hby⟩:i.zero=G z∧i.size=size∧i.bytes=bytes:=by simpa [hq] using hi
  have key:∃v' w',(Builtin.append_ #[t,t] o.type #[v,.slice A m c]).run P w=.ok v' w'∧w'.ownsRow base e size v' (n+m) (xs++news)∧w.grownBy w' v.ownBlock∧(v'.ownBlock=v.ownBlock∨v'.ownBlock=G w.heap.size):=by
   rcases A with _|ad
   ·have hm:m=0:=by
     rcases Ex m with h0|h0
     ·exact h0
     obtain ⟨b,off,h,_⟩:=hr.2 (Nat.mul_pos h0 hpos)
     cases h
    subst hm;have hn:news=[]:=Bl (by rw [hr.1,Ft]);subst hn;refine ⟨v,w,?_,by simpa using hown,⟨rfl,rfl,rfl,Af _,λ_ _ _=>rfl⟩,.inl rfl⟩;rcases hown.2 with ⟨rfl,rfl⟩|⟨g,cap,cur,rfl,_,_,hnc,_⟩
    ·simp [Builtin.append_,run_underlying ht,sizeOf,typeInfo,hq,Builtin.lenOf,Builtin.firstCells]
    simp [Builtin.append_,run_underlying ht,sizeOf,typeInfo,hq,Builtin.lenOf,Builtin.firstCells,hnc,storeCells]
   have hcells:∀j u,news[j]?=G u→w.cell? (ad.add j)=G u:=by
    intro j u hu;have hl:0<m*size:=by have:=(An.1 hu).1;rw [hr.1] at this;omega
    obtain ⟨b',off',h,hc⟩:=hr.2 hl
    injection h with h
    subst h;rw [Addr.add_mid];exact hc j u hu
   obtain ⟨v',w',hrun,h2,h3,_,h5⟩:=run_append_own_at (P:=P) w base t o.type e i z size bytes ht hq hz hsize hby hzs hpos v n xs hown ad m c news hr.1 hcells h1 h63 hbytes hbase;exact ⟨v',w',hrun,h2,h3,h5⟩
  obtain ⟨v',w',hrun,h2,h3,h4⟩:=key;refine ⟨v',w',.inl ?_,h2,h3,h4⟩;unfold execOp;simp only [ho,resolve,invoke,builtin,Sem.run_bind,Sem.run_pure,Result.andThen_ok,Fz,Cc,Gx,hs,hx,hrun]
theorem oG (w:Kw) (e:Ly) (size:Nat):(w.alloc (.cells #[] e)).ownsRow w.heap.size e size (.slice (G ⟨w.heap.size,0,zx⟩) 0 0) 0 []:=
 World.ownsRow_made w #[] 0 (Af _) (Aj _) (by simp)
theorem PN {w:Kw} {base base' size:Nat} {e:Ly} {v:Kv} {n:Nat} {xs:Kx} (h:w.ownsRow base e size v n xs) (hb:base'≤base):w.ownsRow base' e size v n xs:=by
 refine ⟨h.1,?_⟩;rcases h.2 with hh|⟨g,cap,cur,hv,hg,r⟩
 ·exact .inl hh
 exact .inr ⟨g,cap,cur,hv,A0,r⟩
end
end
section
theorem Fr.ofDrew {S:Nat→Prop} {w w':Kw} (h:Fr S w.drew w'):Fr S w w':=⟨h.os,h.tape,h.output,h.size,h.block⟩
theorem D6 {a b:Nat} (h:Nat.blt a b=zz):a<b:=Fa h
abbrev Env := List (Nat × Kv)
def Env.get : Env→Nat→Option Kv
 | [],_=>zx
 | (k,v)::e,n=>match Nat.beq k n with
  | true=>G v
  | false=>Env.get e n
structure Agr (n:Nat) (e:Env) (a:Act):Prop where
 size:a.tmps.size=n
 defers:a.defers=[]
 get:∀k v,e.get k=G v→a.tmps[k]?=G v
def ev (e:Env):Lz→Option Kv
 | .tmp t=>e.get t
 | .const v=>G v
 | .global g=>G (.pointer (G ⟨g,0,zx⟩))
 | .func f=>G (.func (.func f) #[] #[])
def evs (e:Env):List Lz→Option Kx
 | []=>G []
 | x::xs=>match ev e x,evs e xs with
  | some v,G vs=>G (v::vs)
  | _,_=>zx
def Ag (e:Env) (ρ:Lz→Kv):Prop:=∀x v,ev e x=G v→ρ x=v
theorem Agr.eval {n:Nat} {e:Env} {a:Act} (h:Agr n e a):Ag e a.eval:=by
 intro x v hx
 cases x with
 | tmp t=>have:=h.get t v hx;simp [Act.eval,this]
 | const u=>simpa [ev,Act.eval] using hx
 | global g=>simpa [ev,Act.eval] using hx
 | func f=>simpa [ev,Act.eval] using hx
theorem Ag.all {e:Env} {ρ:Lz→Kv} (h:Ag e ρ):∀{xs:List Lz} {vs:Kx},evs e xs=G vs→xs.map ρ=vs
 | [],vs,hx=>by simp [evs] at hx;simp [hx]
 | x::xs,vs,hx=>by
  unfold evs at hx
  cases h1:ev e x with
  | none=>simp [h1] at hx
  | some v=>
   cases h2:evs e xs with
   | none=>simp [h1,h2] at hx
   | some us=>
    simp only [h1,h2,Ai] at hx
    subst hx;rw [Cc,h x v h1,h.all h2]
theorem Agr.put {n:Nat} {e:Env} {a:Act} (h:Agr n e a) {d:Nat} (hd:d<n) (v:Kv):Agr n ((d,v)::e) (a.put (G d) v) where
 size:=by simp [Act.put,h.size]
 defers:=by simpa [Act.put] using h.defers
 get:=by
  intro k u hk;unfold Env.get at hk
  simp only [Act.put]
  split at hk
  ·rename_i hb
   obtain rfl:d=k:=Cn hb;simp only [Ai] at hk
   subst hk
   have:d<a.tmps.size:=by rw [h.size];exact hd
   simp [this]
  rename_i hb
  have hne:d≠k:=λe=>by subst e;simp at hb
  rw [Dx hne];exact h.get k u hk
def Env.ins (e:Env):Option Tmp→Kv→Env
 | some d,v=>(d,v)::e
 | none,_=>e
def JW (n:Nat):Option Tmp→Bool
 | some d=>Nat.blt d n
 | none=>zz
theorem Agr.ins {n:Nat} {e:Env} {a:Act} (h:Agr n e a) {d:Option Tmp} (hd:JW n d=zz) (v:Kv):Agr n (e.ins d v) (a.put d v):=by
 cases d with
 | none=>exact h
 | some d=>exact h.put (D6 hd) v
def Env.le : Env→Env→Prop
 | [],_=>True
 | (k,v)::r,e=>e.get k=G v∧Env.le r e
theorem Env.le_get {r e:Env} (h:r.le e):∀k v,r.get k=G v→e.get k=G v:=by
 induction r with
 | nil=>intro k v hk;simp [Env.get] at hk
 | cons p r ih=>
  obtain ⟨k0,v0⟩:=p;intro k v hk;unfold Env.get at hk
  split at hk
  ·rename_i hb
   obtain rfl:k0=k:=Cn hb;simp only [Ai] at hk
   subst hk;exact h.1
  exact ih h.2 k v hk
theorem Agr.weak {n:Nat} {e r:Env} {a:Act} (h:Agr n e a) (hl:r.le e):Agr n r a:=⟨h.size,h.defers,λk v hk=>h.get k v (Env.le_get hl k v hk)⟩
structure Sx (P:Lw) (c:Code) (Q:Exit→Act→Kw→Prop) (n:Nat) (e:Env) (w:Kw):Prop where
 run:∀a,Agr n e a→c.wp P Q a w
structure SxL (P:Lw) (ops:Array Oper) (Q:Exit→Act→Kw→Prop) (n:Nat) (l:List Oper) (e:Env) (w:Kw):Prop where
 run:∀a,Agr n e a→wpList P ops Q l a w
structure QX (Q:Exit→Act→Kw→Prop) (x:Exit) (n:Nat) (e:Env) (w:Kw):Prop where
 run:∀a,Agr n e a→Q x a w
structure SxS (P:Lw) (ops:Array Oper) (w:Kw) (q:Act→Prop) (n:Nat) (l:List Oper) (e:Env):Prop where
 run:∀a,Agr n e a→wpStill P ops w q l a
section
variable {P:Lw} {Q:Exit→Act→Kw→Prop} {n:Nat} {e:Env} {w:Kw}
theorem sx_seq {x y:Code} (h:Sx P x (Exit.then (y.wp P Q) Q) n e w):Sx P (Code.seq x y) Q n e w:=⟨λa ha=>wp_seq (h.run a ha)⟩
theorem sx_block {id:Nat} {c:Code} (h:Sx P c (Exit.inBlock id Q) n e w):Sx P (Code.block id c) Q n e w:=⟨λa ha=>wp_block (h.run a ha)⟩
theorem sx_skip (h:QX Q .normal n e w):Sx P Code.skip Q n e w:=⟨λa ha=>wp_skip (h.run a ha)⟩
theorem sx_exit {id:Nat} (h:QX Q (.exit id) n e w):Sx P (Code.exit id) Q n e w:=⟨λa ha=>wp_exit (h.run a ha)⟩
theorem sx_ret (h:QX Q .ret n e w):Sx P Code.ret Q n e w:=⟨λa ha=>wp_ret (h.run a ha)⟩
theorem sx_true {c:Lz} {x y:Code} (hc:ev e c=G (.bool zz)) (h:Sx P x Q n e w):Sx P (Code.cond c x y) Q n e w:=⟨λa ha=>wp_cond_true (ha.eval _ _ hc) (h.run a ha)⟩
theorem sx_false {c:Lz} {x y:Code} (hc:ev e c=G (.bool zy)) (h:Sx P y Q n e w):Sx P (Code.cond c x y) Q n e w:=⟨λa ha=>wp_cond_false (ha.eval _ _ hc) (h.run a ha)⟩
theorem sx_region {id:Nat} {l:List Oper} (h:SxL P l.toArray Q n l e w):Sx P (Code.region id l.toArray zy) Q n e w:=⟨λa ha=>wp_region_lit (h.run a ha)⟩
theorem CY {id:Nat} {l:List Oper} (hm:P.follows .mixedOrders=zz) (hB:Region.lexB .any l.toArray=zz)
 (h:SxS P l.toArray w.drew (λa'=>Q .normal a' w.drew) n l e):Sx P (Code.region id l.toArray zz) Q n e w:=⟨λa ha=>wp_region_still_lit hm hB (h.run a ha)⟩
theorem DZ {id:Nat} {l:List Oper} (k:Nat) (hm:P.follows .mixedOrders=zz) (hB:Region.lexTailB .any l.toArray k=zz)
 (h:SxS P l.toArray w.drew (λa'=>wpList P l.toArray Q (l.drop k) a' w.drew) n (l.take k) e):Sx P (Code.region id l.toArray zz) Q n e w:=⟨λa ha=>wp_region_still_tail k hm hB (h.run a ha)⟩
theorem lM {ops:Array Oper} (h:QX Q .normal n e w):SxS P ops w (λa'=>Q .normal a' w) n [] e:=⟨λa ha=>wpStill_nil (h.run a ha)⟩
theorem DA {ops:Array Oper} {l:List Oper} (h:SxL P ops Q n l e w):SxS P ops w (λa'=>wpList P ops Q l a' w) n [] e:=⟨λa ha=>wpStill_nil (h.run a ha)⟩
theorem sxl_nil {ops:Array Oper} (h:QX Q .normal n e w):SxL P ops Q n [] e w:=⟨λa ha=>wpList_nil (h.run a ha)⟩
theorem qx_seq {y:Code} {Q':Exit→Act→Kw→Prop} (h:Sx P y Q n e w):QX (Exit.then (y.wp P Q) Q') .normal n e w:=⟨λa ha=>h.run a ha⟩
theorem nq {ops:Array Oper} {y:Code} {Q':Exit→Act→Kw→Prop} (h:Sx P y Q n e w):SxL P ops (Exit.then (y.wp P Q) Q') n [] e w:=sxl_nil (qx_seq h)
theorem srg {id:Nat} {l:List Oper} {y:Code} (h:SxL P l.toArray (Exit.then (y.wp P Q) Q) n l e w):Sx P (Code.seq (Code.region id l.toArray zy) y) Q n e w:=sx_seq (sx_region h)
theorem qx_then_exit {K:Act→Kw→Prop} {id:Nat} (h:QX Q (.exit id) n e w):QX (Exit.then K Q) (.exit id) n e w:=⟨λa ha=>h.run a ha⟩
theorem qx_then_ret {K:Act→Kw→Prop} (h:QX Q .ret n e w):QX (Exit.then K Q) .ret n e w:=⟨λa ha=>h.run a ha⟩
theorem qx_block_normal {id:Nat} (h:QX Q .normal n e w):QX (Exit.inBlock id Q) .normal n e w:=⟨λa ha=>h.run a ha⟩
theorem qx_block_ret {id:Nat} (h:QX Q .ret n e w):QX (Exit.inBlock id Q) .ret n e w:=⟨λa ha=>h.run a ha⟩
theorem qx_block_hit {id:Nat} (h:QX Q .normal n e w):QX (Exit.inBlock id Q) (.exit id) n e w:=.mk λa ha=>by simp only [Exit.inBlock,if_true];exact h.run a ha
theorem II {id id':Nat} (hne:Nat.beq id' id=zy) (h:QX Q (.exit id') n e w):QX (Exit.inBlock id Q) (.exit id') n e w:=.mk λa ha=>by
 have:id'≠id:=λhe=>by subst he;simp at hne
 simp only [Exit.inBlock,this,if_false];exact h.run a ha
theorem rS {ops:Array Oper} {l:List Oper} {r:Env} (hl:r.le e) (h:SxL P ops Q n l r w):SxL P ops Q n l e w:=⟨λa ha=>h.run a (ha.weak hl)⟩
def Wn (ops:Array Oper) (e:Env) (o:Oper):Prop:=∀n a,Agr n e a→Region.wanted o (yielded ops a.tmps)=zz
theorem wn_none {ops:Array Oper} {o:Oper} (h:o.guard=zx):Wn ops e o:=λ_ a _=>by simp [Region.wanted,h]
theorem wn_on {ops:Array Oper} {o:Oper} {j d:Nat} {b:Bool} (h:o.guard=G (j,b)) (hj:(ops[j]?).bind (·.dst)=G d) (hb:e.get d=G (.bool b)):Wn ops e o:=λ_ a ha=>by
 simp [Region.wanted,h,yielded,hj,ha.get d _ hb]
theorem sxl_off {ops:Array Oper} {o:Oper} {rest:List Oper} {j d d':Nat} {b c:Bool} (h:o.guard=G (j,b)) (hj:(ops[j]?).bind (·.dst)=G d) (hb:e.get d=G (.bool c)) (hne:(c==b)=zy) (hd:o.dst=G d') (hn:Nat.blt d' n=zz)
 (k:SxL P ops Q n rest ((d',undef)::e) w):SxL P ops Q n (o::rest) e w:=.mk λa ha=>by
 have hw:Region.wanted o (yielded ops a.tmps)=zy:=by
  simp only [Region.wanted,h,yielded,hj,ha.get d _ hb,Fh]
  cases c<;>cases b<;>simp_all
 unfold wpList;rw [Ae (by simp [hw]),hd];exact k.run _ (ha.put (D6 hn) _)
theorem EI {ops:Array Oper} {q:Act→Prop} {o:Oper} {rest:List Oper} {j d d':Nat} {b c:Bool} (h:o.guard=G (j,b)) (hj:(ops[j]?).bind (·.dst)=G d) (hb:e.get d=G (.bool c)) (hne:(c==b)=zy) (hd:o.dst=G d') (hn:Nat.blt d' n=zz)
 (k:SxS P ops w q n rest ((d',undef)::e)):SxS P ops w q n (o::rest) e:=.mk λa ha=>by
 have hw:Region.wanted o (yielded ops a.tmps)=zy:=by
  simp only [Region.wanted,h,yielded,hj,ha.get d _ hb,Fh]
  cases c<;>cases b<;>simp_all
 unfold wpStill;rw [Ae (by simp [hw]),hd];exact k.run _ (ha.put (D6 hn) _)
theorem CW {ops:Array Oper} {o:Oper} {rest:List Oper} {j d d':Nat} {b:Bool} (h:o.guard=G (j,b)) (hj:(ops[j]?).bind (·.dst)=G d) (hb:e.get d=G undef) (hd:o.dst=G d') (hn:Nat.blt d' n=zz)
 (k:SxL P ops Q n rest ((d',undef)::e) w):SxL P ops Q n (o::rest) e w:=.mk λa ha=>by
 have hw:Region.wanted o (yielded ops a.tmps)=zy:=by
  simp [Region.wanted,h,yielded,hj,ha.get d _ hb,undef]
 unfold wpList;rw [Ae (by simp [hw]),hd];exact k.run _ (ha.put (D6 hn) _)
theorem RM {ops:Array Oper} {q:Act→Prop} {o:Oper} {rest:List Oper} {j d d':Nat} {b:Bool} (h:o.guard=G (j,b)) (hj:(ops[j]?).bind (·.dst)=G d) (hb:e.get d=G undef) (hd:o.dst=G d') (hn:Nat.blt d' n=zz)
 (k:SxS P ops w q n rest ((d',undef)::e)):SxS P ops w q n (o::rest) e:=.mk λa ha=>by
 have hw:Region.wanted o (yielded ops a.tmps)=zy:=by
  simp [Region.wanted,h,yielded,hj,ha.get d _ hb,undef]
 unfold wpStill;rw [Ae (by simp [hw]),hd];exact k.run _ (ha.put (D6 hn) _)
def Y (P:Lw) (e:Env) (o:Oper) (w:Kw) (v:Kv):Prop:=∀ρ,Ag e ρ→(execOp ρ o).run P w=.ok (.value v) w
theorem sxl_y {ops:Array Oper} {o:Oper} {rest:List Oper} {d:Nat} {v:Kv} (hw:Wn ops e o) (hd:o.dst=G d) (hn:Nat.blt d n=zz) (hy:Y P e o w v)
 (k:SxL P ops Q n rest ((d,v)::e) w):SxL P ops Q n (o::rest) e w:=.mk λa ha=>by
 unfold wpList;rw [Ac (hw n a ha)];refine .inl ?_;unfold Oper.wp;rw [hy _ ha.eval,Oper.upon_value,hd];exact k.run _ (ha.put (D6 hn) _)
theorem ya {ops:Array Oper} {o:Oper} {rest:List Oper} {d:Nat} {v:Kv} (h:(o.guard,o.dst,Nat.blt d n)=(zx,G d,zz)) (hy:Y P e o w v) (k:SxL P ops Q n rest ((d,v)::e) w):SxL P ops Q n (o::rest) e w:=
 sxl_y (wn_none (Bv h).1) (Bv (Bv h).2).1 (Bv (Bv h).2).2 hy k
theorem yd {ops:Array Oper} {o:Oper} {rest:List Oper} {j d' d:Nat} {b:Bool} {v:Kv} (h:(o.guard,(ops[j]?).bind (·.dst),e.get d',o.dst,Nat.blt d n)=(G (j,b),G d',G (.bool b),G d,zz)) (hy:Y P e o w v) (k:SxL P ops Q n rest ((d,v)::e) w):SxL P ops Q n (o::rest) e w:=by
 simp only [Az] at h
 exact sxl_y (wn_on h.1 h.2.1 h.2.2.1) h.2.2.2.1 h.2.2.2.2 hy k
theorem yo {ops:Array Oper} {o:Oper} {rest:List Oper} {j d d':Nat} {b c:Bool} (h:(o.guard,(ops[j]?).bind (·.dst),e.get d,(c==b),o.dst,Nat.blt d' n)=(G (j,b),G d,G (.bool c),zy,G d',zz)) (k:SxL P ops Q n rest ((d',undef)::e) w):SxL P ops Q n (o::rest) e w:=
 sxl_off (Bv h).1 (Bv (Bv h).2).1 (Bv (Bv (Bv h).2).2).1 (Bv (Bv (Bv (Bv h).2).2).2).1 (Bv (Bv (Bv (Bv (Bv h).2).2).2).2).1 (Bv (Bv (Bv (Bv (Bv h).2).2).2).2).2 k
theorem WD {ops:Array Oper} {q:Act→Prop} {o:Oper} {rest:List Oper} {d:Nat} {v:Kv} (hw:Wn ops e o) (hd:o.dst=G d) (hn:Nat.blt d n=zz) (hy:Y P e o w v)
 (k:SxS P ops w q n rest ((d,v)::e)):SxS P ops w q n (o::rest) e:=.mk λa ha=>by
 unfold wpStill;rw [Ac (hw n a ha)];unfold Oper.still;rw [hy _ ha.eval,Oper.stillUpon_value,hd];exact k.run _ (ha.put (D6 hn) _)
theorem sxl_does {ops:Array Oper} {o:Oper} {rest:List Oper} {R:Kv→Kw→Prop} (d:Option Tmp) (hw:Wn ops e o) (hd:o.dst=d) (hn:JW n d=zz) (hy:∀ρ,Ag e ρ→K7 P ρ o w R)
 (k:∀v w',R v w'→SxL P ops Q n rest (e.ins d v) w'):SxL P ops Q n (o::rest) e w:=.mk λa ha=>by
 unfold wpList;rw [Ac (hw n a ha)];refine .inl ((hy _ ha.eval).wp λv w' hR=>?_);rw [hd];exact (k v w' hR).run _ (ha.ins hn v)
def YC (P:Lw) (e:Env) (o:Oper) (w:Kw) (f:FuncId) (args:Array Kv):Prop:=∀ρ,Ag e ρ→(execOp ρ o).run P w=.ok (.enter f args) w
theorem sxl_call {ops:Array Oper} {o:Oper} {rest:List Oper} {f:FuncId} {args:Array Kv} {R:Ending→Kw→Prop} (d:Option Tmp) (hw:Wn ops e o) (hd:o.dst=d) (hn:JW n d=zz) (hy:YC P e o w f args) (hc:zt P f args w R)
 (k:∀x w',R x w'→∃v,x=.returned v∧SxL P ops Q n rest (e.ins d v) w'):SxL P ops Q n (o::rest) e w:=.mk λa ha=>by
 unfold wpList;rw [Ac (hw n a ha)];refine .inl ?_;unfold Oper.wp;rw [hy _ ha.eval,Oper.upon_enter];refine hc.mono λx w' hR=>?_
 obtain ⟨v,rfl,h⟩:=k x w' hR;simp only [hd];exact h.run _ (ha.ins hn v)
def RA : Nat→Kx→Env
 | _,[]=>[]
 | i,v::vs=>(i,v)::RA (i+1) vs
theorem R9 : ∀(vs:Kx) (i k:Nat) (v:Kv),(RA i vs).get k=G v→i≤k∧vs[k-i]?=G v
 | [],_,_,_,h=>by simp [RA,Env.get] at h
 | u::vs,i,k,v,h=>by
  unfold RA Env.get at h
  split at h
  ·rename_i hb
   obtain rfl:i=k:=Cn hb;simp only [Ai] at h
   subst h
   simp
  obtain ⟨h1,h2⟩:=R9 vs (i+1) k v h;refine ⟨A0,?_⟩;rw [show k-i=(k-(i+1))+1 by omega,Bq];exact h2
theorem sx_enter {f:FuncId} {fn:Func} {c:Code} {vs:Kx} {R:Ending→Kw→Prop} (hf:P.funcs[f]?=G fn) (hb:fn.body=G c) (hn:fn.ntmps=n) (hl:Nat.ble vs.length n=zz)
 (h:Sx P c (bodyPost P fn R) n (RA 0 vs) w):zt P f vs.toArray w R:=by
 refine calls_of_wp hf hb (h.run _ ⟨?_,X,?_⟩)
 ·have:vs.length≤n:=Fa hl
  simp [hn];omega
 intro k v hk;obtain ⟨_,h2⟩:=R9 vs 0 k v hk;rw [Nat.sub_zero] at h2
 have hlt:k<vs.length:=(An.1 h2).1;rw [Im (by simpa using hlt)]
 simpa using h2
theorem qx_ret0 {fn:Func} {R:Ending→Kw→Prop} {x:Exit} (hx:x=.ret∨x=.normal) (hr:fn.results = #[]) (h:R (.returned (.tuple #[])) w):QX (bodyPost P fn R) x n e w:=.mk λa ha=>by
 have:(results fn a.tmps).run P w=.ok (.tuple #[]) w:=by simp [results,hr]
 rcases hx with rfl|rfl<;>exact ⟨ha.defers,_,this,h⟩
theorem qx_ret1 {fn:Func} {R:Ending→Kw→Prop} {t:Nat} {v:Kv} (hr:fn.results = #[.tmp t]) (hv:e.get t=G v) (h:R (.returned v) w):QX (bodyPost P fn R) .ret n e w:=.mk λa ha=>by
 have:(results fn a.tmps).run P w=.ok v w:=by simp [results,hr,ha.get t v hv]
 exact ⟨ha.defers,_,this,h⟩
theorem B1 {fn:Func} {R:Ending→Kw→Prop} {t u:Nat} {v v':Kv} (hr:fn.results = #[.tmp t,.tmp u]) (hv:e.get t=G v) (hv':e.get u=G v') (h:R (.returned (.tuple #[v,v'])) w):QX (bodyPost P fn R) .ret n e w:=.mk λa ha=>by
 have:(results fn a.tmps).run P w=.ok (.tuple #[v,v']) w:=by simp [results,hr,ha.get t v hv,ha.get u v' hv']
 exact ⟨ha.defers,_,this,h⟩
theorem DL {fn:Func} {R:Ending→Kw→Prop} {t u s:Nat} {v v' v'':Kv} (hr:fn.results = #[.tmp t,.tmp u,.tmp s]) (hv:e.get t=G v) (hv':e.get u=G v') (hv'':e.get s=G v'') (h:R (.returned (.tuple #[v,v',v''])) w):QX (bodyPost P fn R) .ret n e w:=.mk λa ha=>by
 have:(results fn a.tmps).run P w=.ok (.tuple #[v,v',v'']) w:=by simp [results,hr,ha.get t v hv,ha.get u v' hv',ha.get s v'' hv'']
 exact ⟨ha.defers,_,this,h⟩
theorem a3k (p:Nat→Prop) (h:∃m,p m):∃m,p m∧∀k,p k→m≤k:=by
 obtain ⟨m,hm⟩:=h
 induction m using Nat.strongRecOn with
 | _ m ih=>
  by_cases hs:∃k,k<m∧p k
  ·obtain ⟨k,hk,hp⟩:=hs;exact ih k hk hp
  exact ⟨m,hm,λk hp=>Nat.le_of_not_lt λhlt=>hs ⟨k,hlt,hp⟩⟩
def Again (I:Env→Kw→Nat→Prop) (n m:Nat) (a:Act) (w:Kw):Prop:=∃e m',I e w m'∧m'<m∧Agr n e a
theorem sx_loop {c:Code} (I:Env→Kw→Nat→Prop) {m0:Nat} {e0:Env} (h0:I e0 w m0) (hl:e0.le e)
 (round:∀e w m,I e w m→Sx P c (Exit.then (Again I n m) Q) n e w):Sx P (Code.loop c) Q n e w:=by
 refine ⟨λa ha=>?_⟩
 have hp:∀a w,(∃e m,I e w m∧Agr n e a)→∃m,(∃e,I e w m∧Agr n e a)∧∀k,(∃e,I e w k∧Agr n e a)→m≤k:=
  λa w ⟨e,m,h⟩=>a3k _ ⟨m,e,h⟩
 classical
 let μ:Act→Kw→Nat:=λa w=>if h:∃e m,I e w m∧Agr n e a then (hp a w h).choose else 0
 have hμ:∀a w e m,I e w m→Agr n e a→μ a w≤m∧∃e',I e' w (μ a w)∧Agr n e' a:=by
  intro a w e m hI hA;have hex:∃e m,I e w m∧Agr n e a:=⟨e,m,hI,hA⟩
  have hs:=(hp a w hex).choose_spec
  have:μ a w=(hp a w hex).choose:=dif_pos hex
  rw [this];exact ⟨hs.2 m ⟨e,hI,hA⟩,hs.1⟩
 refine wp_loop (λa w=>∃e m,I e w m∧Agr n e a) μ ⟨e0,m0,h0,ha.weak hl⟩ ?_;rintro a w ⟨e,m,hI,hA⟩;obtain ⟨hle,e',hI',hA'⟩:=hμ a w e m hI hA;refine wp_mono ((round e' w (μ a w) hI').run a hA') λx a' w' hx=>?_
 cases x with
 | normal=>
  obtain ⟨e'',m'',h1,h2,h3⟩:=hx;exact ⟨⟨e'',m'',h1,h3⟩,Hr (hμ a' w' e'' m'' h1 h3).1 h2⟩
 | exit id=>exact hx
 | goto l=>exact hx
 | ret=>exact hx
 | panic ch=>exact hx
 | outgrown=>exact hx
theorem qx_again {I:Env→Kw→Nat→Prop} {m:Nat} (r:Env) (m':Nat) (hI:I r w m') (hm:m'<m) (hl:r.le e):QX (Exit.then (Again I n m) Q) .normal n e w:=⟨λ_ ha=>⟨r,m',hI,hm,ha.weak hl⟩⟩
end
end
section
structure Cell (h:Array Obj) (g off:Nat) (v:Kv):Prop where
 get:∀w:Kw,w.heap=h→w.cell? ⟨g,off,zx⟩=G v
theorem Cell.of {w:Kw} {g off:Nat} {v:Kv} (h:w.cell? ⟨g,off,zx⟩=G v):Cell w.heap g off v:=
 ⟨λw' hw=>by rw [←h];exact World.cell?_of_block (w:=w) (by rw [hw])⟩
theorem Blk.c {w:Kw} {g:Nat} {t:Ly} {cs:Kx} (h:Blk w g t cs) (off:Nat) {v:Kv} (hv:cs[off]?=G v):Cell w.heap g off v:=Cell.of ((h.cell off).trans hv)
theorem Cell.fr {S:Nat→Prop} {w w':Kw} {g off:Nat} {v:Kv} (h:Cell w.heap g off v) (hf:Fr S w w') (hn:¬S g):Cell w'.heap g off v:=
 have hc:=h.get w X
 Cell.of ((hf.cell (p:=⟨g,off,zx⟩) (World.block_lt_of_cell? w _ hc) hn).trans hc)
def P5 (P:Lw) (s f:Nat):Option Nat:=match P.underlying s with
 | some (.struct fs)=>match fs[f]? with
  | some fd=>match P.info? fd.type with
   | some i=>if i.size=0 then zx else G fd.offset
   | none=>zx
  | none=>zx
 | _=>zx
def LP (P:Lw) (t:Nat):Bool:=match P.underlying t with
 | some (.struct _)|some (.array _ _)|none=>zy
 | some _=>zz
def F3 (P:Lw) (t:Nat):Option (Nat × Nat):=match P.underlying t with
 | some (.slice e)=>match P.info? e with
  | some i=>G (e,i.size)
  | none=>zx
 | _=>zx
def PX (P:Lw) (t:Nat):Option (Nat × Nat × Nat):=match P.underlying t with
 | some (.array n e)=>match P.info? e with
  | some i=>G (n,e,i.size)
  | none=>zx
 | _=>zx
def PM (P:Lw) (t:Nat):Option Nat:=match P.underlying t with
 | some (.pointer el)=>G el
 | _=>zx
theorem WY {P:Lw} {t el:Nat} (h:PM P t=G el):P.underlying t=G (.pointer el):=by
 unfold PM at h
 split at h
 ·rename_i hu;simp only [Ai] at h;subst h;exact hu
 cases h
section
variable {P:Lw} {e:Env} {w:Kw} {o:Oper}
theorem a1n {x:Lz} {v:Kv} (ho:o.op=.move x) (hx:ev e x=G v):Y P e o w v:=λρ h=>by
 unfold execOp;simp only [ho];rw [h _ _ hx];rfl
theorem qN {x:Lz} {v:Kv} (ho:o.op=.assign x) (hx:ev e x=G v):Y P e o w v:=λρ h=>by
 unfold execOp;simp only [ho];rw [h _ _ hx];rfl
theorem qK {c x y:Lz} {v:Kv} (ho:o.op=.pick c x y) (hc:ev e c=G (.bool zz)) (hx:ev e x=G v):Y P e o w v:=λρ h=>by
 unfold execOp;simp [ho,h _ _ hc,h _ _ hx,asBool]
theorem qL {c x y:Lz} {v:Kv} (ho:o.op=.pick c x y) (hc:ev e c=G (.bool zy)) (hx:ev e y=G v):Y P e o w v:=λρ h=>by
 unfold execOp;simp [ho,h _ _ hc,h _ _ hx,asBool]
theorem a2V {x:Lz} {p:Addr} (ho:o.op=.nilCheck x) (hx:ev e x=G (.pointer (G p))):Y P e o w (.pointer (G p)):=λρ h=>by
 unfold execOp;simp only [ho,h _ _ hx];rfl
theorem xO {s f k g off:Nat} {x:Lz} (ho:o.op=.fieldAddr s x f) (hx:ev e x=G (.pointer (G ⟨g,off,zx⟩))) (hf:P5 P s f=G k):Y P e o w (.pointer (G ⟨g,off+k,zx⟩)):=λρ h=>by
 unfold P5 at hf
 split at hf
 ·rename_i fs hu
  split at hf
  ·rename_i fd hfd
   split at hf
   ·rename_i i hi
    split at hf
    ·cases hf
    rename_i hz
    simp only [Ai] at hf
    subst hf;unfold execOp
    simp [ho,h _ _ hx,Instr.fieldAt,run_underlying hu,hfd,Instr.sureAddr,fieldPlace,sizeOf,typeInfo,hi,hz,Addr.add_mid]
   cases hf
  cases hf
 cases hf
theorem B3 {t g off:Nat} {x:Lz} {v:Kv} (ho:o.op=.load t x) (hx:ev e x=G (.pointer (G ⟨g,off,zx⟩))) (ht:LP P t=zz) (hc:Cell w.heap g off v):Y P e o w v:=λρ h=>by
 have hcell:=hc.get w X;unfold LP at ht
 have ha:(isAgg t).run P w=.ok zy w:=by
  cases hu:P.underlying t with
  | none=>simp [hu] at ht
  | some d=>
   unfold isAgg;rw [Sem.run_bind,run_underlying hu w]
   cases d<;>simp_all
 unfold execOp;simp only [ho,h _ _ hx,Instr.loadAt,Instr.sureAddr,Sem.run_bind,Sem.run_pure,Result.andThen_ok,loadVar,ha,Dm,if_false]
 simp [hcell]
theorem DC {t t':Nat} {k:IntKind} {a b:Int} {x y:Lz} (ho:o.op=.binOp .lss t x y t') (hx:ev e x=G (.int k a)) (hy:ev e y=G (.int k b)) (hc:a<b):Y P e o w (.bool zz):=λρ h=>by
 unfold execOp;simp [ho,h _ _ hx,h _ _ hy,eqGuard_at_int,binOp_lss];omega
theorem DI {t t':Nat} {k:IntKind} {a b:Int} {x y:Lz} (ho:o.op=.binOp .lss t x y t') (hx:ev e x=G (.int k a)) (hy:ev e y=G (.int k b)) (hc:¬(a<b)):Y P e o w (.bool zy):=λρ h=>by
 unfold execOp;simp [ho,h _ _ hx,h _ _ hy,eqGuard_at_int,binOp_lss];omega
theorem JE {t t':Nat} {k:IntKind} {a b:Int} {x y:Lz} (ho:o.op=.binOp .leq t x y t') (hx:ev e x=G (.int k a)) (hy:ev e y=G (.int k b)) (hc:a≤b):Y P e o w (.bool zz):=λρ h=>by
 unfold execOp;simp [ho,h _ _ hx,h _ _ hy,eqGuard_at_int,binOp_leq];omega
theorem DY {t t':Nat} {k:IntKind} {a b:Int} {x y:Lz} (ho:o.op=.binOp .leq t x y t') (hx:ev e x=G (.int k a)) (hy:ev e y=G (.int k b)) (hc:¬(a≤b)):Y P e o w (.bool zy):=λρ h=>by
 unfold execOp;simp [ho,h _ _ hx,h _ _ hy,eqGuard_at_int,binOp_leq];omega
theorem PF {t t':Nat} {k:IntKind} {a b:Int} {x y:Lz} (ho:o.op=.binOp .gtr t x y t') (hx:ev e x=G (.int k a)) (hy:ev e y=G (.int k b)) (hc:b<a):Y P e o w (.bool zz):=λρ h=>by
 unfold execOp;simp [ho,h _ _ hx,h _ _ hy,eqGuard_at_int,binOp_gtr];omega
theorem IP {t t':Nat} {k:IntKind} {a b:Int} {x y:Lz} (ho:o.op=.binOp .gtr t x y t') (hx:ev e x=G (.int k a)) (hy:ev e y=G (.int k b)) (hc:¬(b<a)):Y P e o w (.bool zy):=λρ h=>by
 unfold execOp;simp [ho,h _ _ hx,h _ _ hy,eqGuard_at_int,binOp_gtr];omega
theorem DJ {t t':Nat} {k:IntKind} {a b:Int} {x y:Lz} (ho:o.op=.binOp .geq t x y t') (hx:ev e x=G (.int k a)) (hy:ev e y=G (.int k b)) (hc:b≤a):Y P e o w (.bool zz):=λρ h=>by
 unfold execOp;simp [ho,h _ _ hx,h _ _ hy,eqGuard_at_int,binOp_geq];omega
theorem C6 {t t':Nat} {k:IntKind} {a b:Int} {x y:Lz} (ho:o.op=.binOp .geq t x y t') (hx:ev e x=G (.int k a)) (hy:ev e y=G (.int k b)) (hc:¬(b≤a)):Y P e o w (.bool zy):=λρ h=>by
 unfold execOp;simp [ho,h _ _ hx,h _ _ hy,eqGuard_at_int,binOp_geq];omega
theorem DK {t t':Nat} {k:IntKind} {a b:Int} {x y:Lz} (ho:o.op=.binOp .eql t x y t') (hx:ev e x=G (.int k a)) (hy:ev e y=G (.int k b)) (hc:a=b):Y P e o w (.bool zz):=λρ h=>by
 unfold execOp;simp [ho,h _ _ hx,h _ _ hy,eqGuard_at_int,binOp_eql];omega
theorem BQ {t t':Nat} {k:IntKind} {a b:Int} {x y:Lz} (ho:o.op=.binOp .eql t x y t') (hx:ev e x=G (.int k a)) (hy:ev e y=G (.int k b)) (hc:¬(a=b)):Y P e o w (.bool zy):=λρ h=>by
 unfold execOp;simp [ho,h _ _ hx,h _ _ hy,eqGuard_at_int,binOp_eql];omega
theorem VF {t t':Nat} {k:IntKind} {a b:Int} {x y:Lz} (ho:o.op=.binOp .neq t x y t') (hx:ev e x=G (.int k a)) (hy:ev e y=G (.int k b)) (hc:a≠b):Y P e o w (.bool zz):=λρ h=>by
 unfold execOp;simp [ho,h _ _ hx,h _ _ hy,eqGuard_at_int,binOp_neq];omega
theorem VG {t t':Nat} {k:IntKind} {a b:Int} {x y:Lz} (ho:o.op=.binOp .neq t x y t') (hx:ev e x=G (.int k a)) (hy:ev e y=G (.int k b)) (hc:¬(a≠b)):Y P e o w (.bool zy):=λρ h=>by
 unfold execOp;simp [ho,h _ _ hx,h _ _ hy,eqGuard_at_int,binOp_neq];omega
theorem GZ {t t':Nat} {a b:Int} {x y:Lz} (ho:o.op=.binOp .add t x y t') (hx:ev e x=G (.int .i64 a)) (hy:ev e y=G (.int .i64 b)) (hc : -9223372036854775808≤a+b∧a+b≤9223372036854775807):Y P e o w (.int .i64 (a+b)):=λρ h=>by
 unfold execOp;simp [ho,h _ _ hx,h _ _ hy,eqGuard_at_int,binOp_add,Op.intArith,IntWalk.i64_in _ hc]
theorem N3 {t t':Nat} {a b:Int} {x y:Lz} (ho:o.op=.binOp .sub t x y t') (hx:ev e x=G (.int .i64 a)) (hy:ev e y=G (.int .i64 b)) (hc : -9223372036854775808≤a-b∧a-b≤9223372036854775807):Y P e o w (.int .i64 (a-b)):=λρ h=>by
 unfold execOp;simp [ho,h _ _ hx,h _ _ hy,eqGuard_at_int,binOp_sub,Op.intArith,IntWalk.i64_in _ hc]
theorem dD {t t':Nat} {a b:Int} {x y:Lz} (ho:o.op=.binOp .mul t x y t') (hx:ev e x=G (.int .i64 a)) (hy:ev e y=G (.int .i64 b)) (hc : -9223372036854775808≤a*b∧a*b≤9223372036854775807):Y P e o w (.int .i64 (a*b)):=λρ h=>by
 unfold execOp;simp [ho,h _ _ hx,h _ _ hy,eqGuard_at_int,binOp_mul,Op.intArith,IntWalk.i64_in _ hc]
theorem UC {t t':Nat} {a b:Int} {x y:Lz} (ho:o.op=.binOp .quo t x y t') (hx:ev e x=G (.int .i64 a)) (hy:ev e y=G (.int .i64 b)) (ha:0≤a∧a≤9223372036854775807) (hb:0<b):Y P e o w (.int .i64 (a / b)):=λρ h=>by
 have h1:a.tdiv b=a / b:=Int.tdiv_eq_ediv_of_nonneg ha.1;have h2:a / b≤a:=Int.ediv_le_self _ ha.1;have h3:0≤a / b:=Int.ediv_nonneg ha.1 A0;have h4:¬b=0:=A0
 unfold execOp;simp [ho,h _ _ hx,h _ _ hy,eqGuard_at_int,binOp_quo,Op.intDiv,h4,h1,IntWalk.i64_in (a / b) ⟨A0,A0⟩]
theorem UB {t t':Nat} {k:IntKind} {a b:Int} {x y:Lz} (ho:o.op=.binOp .rem t x y t') (hx:ev e x=G (.int k a)) (hy:ev e y=G (.int k b)) (ha:0≤a) (hb:0<b):Y P e o w (.int k (a%b)):=λρ h=>by
 have h1:a.tmod b=a%b:=Int.tmod_eq_emod_of_nonneg ha;have h4:¬b=0:=A0
 unfold execOp;simp [ho,h _ _ hx,h _ _ hy,eqGuard_at_int,binOp_rem,Op.intDiv,h4,h1]
theorem a2U {t:Nat} {b:Bool} {x:Lz} (ho:o.op=.unOp .not t x) (hx:ev e x=G (.bool b)):Y P e o w (.bool (!b)):=λρ h=>by
 unfold execOp;simp [ho,h _ _ hx,Op.unary]
theorem D8 {f:Fn} {xs ys:List Lz} {us vs:Kx} (ho:o.op=.makeFunc f xs.toArray ys.toArray) (hx:evs e xs=G us) (hy:evs e ys=G vs):Y P e o w (.func f us.toArray vs.toArray):=λρ h=>by
 unfold execOp;simp [ho,Instr.makeFunc,h.all hx,h.all hy]
theorem n0 {x:Lz} {ix:Nat} {vs:Array Kv} {v:Kv} (ho:o.op=.extract x ix) (hx:ev e x=G (.tuple vs)) (hv:vs[ix]?=G v):Y P e o w v:=λρ h=>by
 unfold execOp;simp [ho,h _ _ hx,Instr.extract,hv]
theorem xN {t g off len cap sz el:Nat} {m:Int} {k:IntKind} {x i:Lz} (ho:o.op=.indexAddr t x i) (hx:ev e x=G (.slice (G ⟨g,off,zx⟩) len cap)) (hi:ev e i=G (.int k m)) (ht:F3 P t=G (el,sz)) (h0:0≤m∧m<len) :
 Y P e o w (.pointer (G ⟨g,off+m.toNat*sz,zx⟩)):=λρ h=>by
 unfold F3 at ht
 split at ht
 ·rename_i el' hu
  split at ht
  ·rename_i i' hi'
   simp only [Ai,Az] at ht
   obtain ⟨rfl,rfl⟩:=ht;unfold execOp
   simp [ho,h _ _ hx,h _ _ hi,Instr.indexAt,asIntOf,run_underlying hu,h0.1,h0.2,sizeOf,typeInfo,hi',Addr.add_mid]
  cases ht
 cases ht
theorem HM {t g off len cap sz el j:Nat} {k:IntKind} {x i:Lz} (ho:o.op=.indexAddr t x i) (hx:ev e x=G (.slice (G ⟨g,off,zx⟩) len cap)) (hi:ev e i=G (.int k (j:Int))) (ht:F3 P t=G (el,sz)) (h0:j<len) :
 Y P e o w (.pointer (G ⟨g,off+j*sz,zx⟩)):=xN ho hx hi ht ⟨A0,A0⟩
theorem G8 {t g off len sz el:Nat} {m:Int} {k:IntKind} {x i:Lz} (ho:o.op=.indexAddr t x i) (hx:ev e x=G (.pointer (G ⟨g,off,zx⟩))) (hi:ev e i=G (.int k m)) (ht:PX P t=G (len,el,sz)) (h0:0≤m∧m<len) :
 Y P e o w (.pointer (G ⟨g,off+m.toNat*sz,zx⟩)):=λρ h=>by
 unfold PX at ht
 split at ht
 ·rename_i el' n' hu
  split at ht
  ·rename_i i' hi'
   simp only [Ai,Az] at ht
   obtain ⟨rfl,rfl,rfl⟩:=ht;unfold execOp
   simp [ho,h _ _ hx,h _ _ hi,Instr.indexAt,asIntOf,run_underlying hu,Instr.sureAddr,h0.1,h0.2,sizeOf,typeInfo,hi',Addr.add_mid]
  cases ht
 cases ht
theorem I8 {t n c el sz:Nat} {x:Lz} {A:Ky} (ho:o.op=.call { callee:=.builtin .len,args := #[x],argTypes := #[t] }) (hx:ev e x=G (.slice A n c)) (ht:F3 P t=G (el,sz)):Y P e o w (.int .i64 (n:Int)):=λρ h=>by
 unfold F3 at ht
 split at ht
 ·rename_i el' hu
  unfold execOp
  simp [ho,h _ _ hx,resolve,invoke,builtin,Builtin.len_,run_underlying hu,goInt]
 cases ht
theorem mY {t len cap sz el:Nat} {A:Ky} {m:Int} {k:IntKind} {x i:Lz} (ho:o.op=.slice t x zx (G i) zx) (hx:ev e x=G (.slice A len cap)) (hi:ev e i=G (.int k m)) (ht:F3 P t=G (el,sz)) (h0:0≤m∧m≤cap) :
 Y P e o w (.slice A m.toNat cap):=λρ h=>by
 unfold F3 at ht
 split at ht
 ·rename_i el' hu
  split at ht
  ·rename_i i' hi'
   simp only [Ai,Az] at ht
   obtain ⟨rfl,rfl⟩:=ht;have ha:(A.map λx:Addr=>x.add 0)=A:=by cases A<;>simp [Addr.add_zero']
   unfold execOp
   simp [ho,h _ _ hx,h _ _ hi,Instr.sliceAt,Instr.slice,run_underlying hu,Instr.sliceBounds,Instr.sliceBound,asIntOf,h0.1,h0.2,sizeOf,typeInfo,hi',ha]
  cases ht
 cases ht
def LU (F:Nat→Nat→Option Nat) (e:Env):Op→Option Kv
 | .move x=>ev e x
 | .assign x=>ev e x
 | .pick c x y=>match ev e c with
  | some (.bool zz)=>ev e x
  | some (.bool zy)=>ev e y
  | _=>zx
 | .nilCheck x=>match ev e x with
  | some (.pointer (G p))=>G (.pointer (G p))
  | _=>zx
 | .fieldAddr s x f=>match ev e x,F s f with
  | some (.pointer (G ⟨g,off,zx⟩)),G k=>G (.pointer (G ⟨g,off+k,zx⟩))
  | _,_=>zx
 | .extract x i=>match ev e x with
  | some (.tuple vs)=>vs[i]?
  | _=>zx
 | .unOp u _ x=>match u,ev e x with
  | .not,G (.bool b)=>G (.bool (!b))
  | _,_=>zx
 | _=>zx
theorem a1l {F:Nat→Nat→Option Nat} {v:Kv} (hF:∀s f k,F s f=G k→P5 P s f=G k) (h:LU F e o.op=G v):Y P e o w v:=by
 cases ho:o.op<;>rw [ho] at h<;>simp only [LU] at h
 all_goals first
  | exact a1n ho h
  | exact qN ho h
  | cases h
  | skip
 ·split at h
  ·rename_i hc;exact qK ho hc h
  ·rename_i hc;exact qL ho hc h
  cases h
 ·split at h
  ·rename_i hc;simp only [Ai] at h;subst h;exact a2V ho hc
  cases h
 ·split at h
  ·rename_i hc;simp only [Ai] at h;subst h;exact a2U ho hc
  cases h
 ·split at h
  ·rename_i hc hf;simp only [Ai] at h;subst h;exact xO ho hc (hF _ _ _ hf)
  cases h
 split at h
 ·rename_i hc;exact n0 ho hc h
 cases h
theorem AE {f:FuncId} {xs:List Lz} {vs:Kx} {ts:Array Ly} (ho:o.op=.call { callee:=.value (.func f),args:=xs.toArray,argTypes:=ts }) (hx:evs e xs=G vs) (hc:∀(us:Array Kv) (w:Kw),(callFunc f us).run P w=.ok (.enter f us) w):YC P e o w f vs.toArray:=λρ h=>by
 have:=h.all hx
 unfold execOp
 simp [ho,resolve,h (.func f) _ rfl,Deferred.ofValue,invoke,hc,this]
theorem C7 {f:FuncId} {x:Lz} {cs:Kx} {xs:List Lz} {vs:Kx} {ts:Array Ly} (ho:o.op=.call { callee:=.value x,args:=xs.toArray,argTypes:=ts }) (hf:ev e x=G (.func (.func f) #[] cs.toArray)) (hx:evs e xs=G vs) (hc:∀(us:Array Kv) (w:Kw),(callFunc f us).run P w=.ok (.enter f us) w):YC P e o w f (vs++cs).toArray:=λρ h=>by
 have:=h.all hx
 unfold execOp
 simp [ho,resolve,h _ _ hf,Deferred.ofValue,invoke,hc,this]
theorem CI {s d:Nat} {k k':IntKind} {m:Int} {x:Lz} {ds:TypeDesc} (ho:o.op=.convert s d x) (hx:ev e x=G (.int k m)) (hs:P.underlying s=G ds) (hd:P.underlying d=G (.int k')) {r:Int} (hr:k'.wrap m=r):Y P e o w (.int k' r):=λρ h=>by
 subst hr;unfold execOp
 simp [ho,h _ _ hx,convert,run_underlying hs,run_underlying hd,Conv.intToInt]
theorem YO {t el:Nat} (hu:P.underlying t=G (.pointer el)) (a:Ky):(Op.equal t (.pointer a) (.pointer zx)).run P w=.ok a.isNone w:=by
 unfold Op.equal Op.maxDepth Op.equalIn
 cases a<;>simp [run_underlying hu]
theorem N4 {t t' el:Nat} {a:Ky} {x y:Lz} (ho:o.op=.binOp .eql t x y t') (hx:ev e x=G (.pointer a)) (hy:ev e y=G (.pointer zx)) (hu:PM P t=G el):Y P e o w (.bool a.isNone):=λρ h=>by
 unfold execOp;simp [ho,h _ _ hx,h _ _ hy,eqGuard_at_pointer,binOp,YO (WY hu)]
theorem OU {t:Nat} (hu:P.underlying t=G .bool) (a b:Bool):(Op.equal t (.bool a) (.bool b)).run P w=.ok (a==b) w:=by
 unfold Op.equal Op.maxDepth Op.equalIn
 simp [run_underlying hu]
theorem n5 {t t':Nat} {a b:Bool} {x y:Lz} (ho:o.op=.binOp .eql t x y t') (hx:ev e x=G (.bool a)) (hy:ev e y=G (.bool b)) (hu:P.underlying t=G .bool):Y P e o w (.bool (a==b)):=λρ h=>by
 unfold execOp;simp [ho,h _ _ hx,h _ _ hy,eqGuard_at_bool,binOp,OU hu]
theorem SV {t t':Nat} {a b:Bool} {x y:Lz} (ho:o.op=.binOp .neq t x y t') (hx:ev e x=G (.bool a)) (hy:ev e y=G (.bool b)) (hu:P.underlying t=G .bool):Y P e o w (.bool (!(a==b))):=λρ h=>by
 unfold execOp;simp [ho,h _ _ hx,h _ _ hy,eqGuard_at_bool,binOp,OU hu]
end
end
section
def JH (ops:Array Oper) (h t:Nat):Bool:=(List.range ops.size).all λj=>O (j<t) || (List.range h).all λi=>Region.waitsFor .any ops j i
def KU (P:Lw) (ops:Array Oper) (Q:Exit→Act→Kw→Prop) (t:Nat) (S:Kw→Prop):Nat→Array Bool→Act→Kw→Prop
 | 0,listed,a,w=>Region.ready .any ops listed=[]∧Q .normal a w
 | fuel+1,listed,a,w=>
  (Region.ready .any ops listed=[]→Q .normal a w) ∧
  ∀i∈Region.ready .any ops listed,wpOp P ops Q i (λa' w'=>(i<t→S w')∧KU P ops Q t S fuel (listed.setIfInBounds i zz) a' w') a w
section
variable {P:Lw} {ops:Array Oper} {Q:Exit→Act→Kw→Prop} {S:Kw→Prop} {h t:Nat}
theorem QF : ∀(fuel:Nat) (listed:Array Bool) (a:Act) (w:Kw),KU P ops Q t S fuel listed a w→wpAny P .any ops Q fuel listed a w
 | 0,_,_,_,h=>h
 | fuel+1,_,_,_,h=>⟨h.1,λi hi=>wpOp_mono (λa' w' h'=>QF fuel _ a' w' h'.2) (h.2 i hi)⟩
theorem NP {i:Nat} {oi:Oper} {v:Kv} (hi:ops[i]?=G oi) (hsel:∀(j:Nat) (o:Oper) cs b,ops[j]?=G o→o.op≠.select cs b)
 (hQ:∀c a w,Q (.panic c) (a.put oi.dst v) w→Q (.panic c) a w) (hwait:JH ops h t=zz) (hih:i<h) :
 ∀(fuel:Nat) (listed:Array Bool) (a:Act) (w:Kw),
  (∀j oj,ops[j]?=G oj→j≠i→listed.getD j zz=zy→(∀e∈oj.after,Region.binds .any e=zz→e.on≠i)→oi.apart ops oj=zz) →
  i∈Region.ready .any ops listed→YieldsIf P ops S oi v a→S w →
  KU P ops Q t S fuel (listed.setIfInBounds i zz) (a.put oi.dst v) w→KU P ops Q t S (fuel+1) listed a w:=by
 intro fuel
 induction fuel with
 | zero=>
  intro listed a w _ hr hy hS H;refine ⟨λh=>(by rw [h] at hr;cases hr),λj hj=>?_⟩
  by_cases hji:j=i
  ·subst hji;exact hy.wpOp hi hS ⟨λ_=>hS,H⟩
  have:=ready_mono hj hji
  rw [H.1] at this
  cases this
 | succ fuel ih=>
  intro listed a w hfree hr hy hS H;refine ⟨λh=>(by rw [h] at hr;cases hr),λj hj=>?_⟩
  by_cases hji:j=i
  ·subst hji;exact hy.wpOp hi hS ⟨λ_=>hS,H⟩
  have h1:=H.2 j (ready_mono hj hji);obtain ⟨hjun,oj,hoj,hall⟩:=mem_ready.1 hj
  have hnot:∀e∈oj.after,Region.binds .any e=zz→e.on≠i:=λe he hb heq=>by
   have h1:=hall e he hb;have h0:=(mem_ready.1 hr).1;rw [heq,getD_both h0] at h1
   cases h1
  have hjt:j<t:=by
   have h2:=Cu.1 hwait j (Fe.2 (Ar.1 hoj).1);simp only [Dw,decide_eq_true_eq] at h2
   rcases h2 with h2|h2
   ·exact h2
   obtain ⟨o',ho',e,he,hb,hon⟩:=Region.waitsFor_spec (Cu.1 h2 i (Fe.2 hih));rw [hoj] at ho'
   injection ho' with ho'
   subst ho';exact absurd hon (hnot e he hb)
  have h2:=wpOp_putIf hoj (hfree j oj hoj hji hjun hnot) (λcs b=>hsel i oi cs b hi) (λcs b=>hsel j oj cs b hoj) hQ hy h1
  have hfree':∀k ok,ops[k]?=G ok→k≠i→(listed.setIfInBounds j zz).getD k zz=zy →
   (∀e∈ok.after,Region.binds .any e=zz→e.on≠i)→oi.apart ops ok=zz:=λk ok hk hki hun hno=>by
   refine hfree k ok hk hki ?_ hno
   by_cases hjk:j=k
   ·subst hjk;exact hjun
   rw [getD_set_ne zz hjk] at hun;exact hun
  refine wpOp_mono (λa' w' h3=>⟨h3.2.1,ih (listed.setIfInBounds j zz) a' w' hfree' (ready_mono hr (Es hji)) h3.1 (h3.2.1 hjt) ?_⟩) h2;rw [Ja _ _ hji];exact h3.2.2
theorem Q8 : ∀(fuel:Nat) (listed:Array Bool) (a:Act) (w:Kw),(∀i,i<t→listed.getD i zz=zz)→wpAny P .any ops Q fuel listed a w→KU P ops Q t S fuel listed a w
 | 0,_,_,_,_,h=>h
 | fuel+1,listed,_,_,hd,h=>by
  refine ⟨h.1,λi hi=>wpOp_mono (λa' w' h'=>?_) (h.2 i hi)⟩
  have hno:¬i<t:=λhit=>by
   have h0:=(mem_ready.1 hi).1;rw [hd i hit] at h0;cases h0
  refine ⟨λhit=>absurd hit hno,Q8 fuel _ a' w' (λk hk=>?_) h'⟩;rw [getD_set_ne zz (λe:i=k=>hno A0)];exact hd k hk
structure SxO (P:Lw) (ops:Array Oper) (Q:Exit→Act→Kw→Prop) (t:Nat) (S:Kw→Prop) (n f:Nat) (listed:Array Bool) (e:Env) (w:Kw):Prop where
 run:∀a,Agr n e a→KU P ops Q t S f listed a w
variable {n f:Nat} {listed:Array Bool} {e:Env} {w:Kw}
theorem EO {id:Nat} {l:List Oper} (t:Nat) (S:Kw→Prop) (hm:P.follows .mixedOrders=zz) (k:SxO P l.toArray Q t S n l.length (Array.replicate l.length zy) e w.drew):Sx P (Code.region id l.toArray zz) Q n e w:=⟨λa ha=>by
 refine wp_region_any hm (QF (t:=t) (S:=S) _ _ _ _ ?_)
 simpa using k.run a ha⟩
theorem lN {o:Oper} {d:Nat} {v:Kv} (i h:Nat) (hs:Region.noSelect ops=zz) (hQ:∀c (a:Act) t v w,Q (.panic c) (a.put t v) w→Q (.panic c) a w) (hwait:JH ops h t=zz) (hih:Nat.blt i h=zz)
 (hf:Region.free .any ops listed i=zz) (hr:(Region.ready .any ops listed).contains i=zz) (ho:ops[i]?=G o) (hw:Wn ops e o) (hd:o.dst=G d) (hn:Nat.blt d n=zz) (hS:S w) (hy:∀w',S w'→Y P e o w' v)
 (k:SxO P ops Q t S n f (listed.setIfInBounds i zz) ((d,v)::e) w):SxO P ops Q t S n (f+1) listed e w:=⟨λa ha=>
 NP ho (Region.noSelect_spec hs) (λc a w=>hQ c a _ _ w) hwait (D6 hih) f listed a w (Region.free_spec ho hf) (by simpa using hr) (.inl ⟨hw n a ha,λw' hw'=>hy w' hw' _ ha.eval⟩) hS (by
  rw [hd];exact k.run _ (ha.put (D6 hn) v))⟩
theorem oa {o:Oper} {d:Nat} {v:Kv} (i h:Nat) (ho:ops[i]?=G o) (hd:(o.guard,o.dst,Nat.blt d n)=(zx,G d,zz)) (hS:S w) (hy:∀w',S w'→Y P e o w' v) (k:SxO P ops Q t S n f (listed.setIfInBounds i zz) ((d,v)::e) w) (hs:Region.noSelect ops=zz:=by kernel_rfl) (hQ:∀c (a:Act) t v w,Q (.panic c) (a.put t v) w→Q (.panic c) a w:=by exact λc a t v w h=>by cases t<;>exact h) (hwait:JH ops h t=zz:=by kernel_rfl) (hih:Nat.blt i h=zz:=by exact rfl) (hf:Region.free .any ops listed i=zz:=by kernel_rfl) (hr:(Region.ready .any ops listed).contains i=zz:=by kernel_rfl):SxO P ops Q t S n (f+1) listed e w:=
 lN i h hs hQ hwait hih hf hr ho (wn_none (Bv hd).1) (Bv (Bv hd).2).1 (Bv (Bv hd).2).2 hS hy k
theorem ob {o:Oper} {d:Nat} {v:Kv} (i h:Nat) (ho:ops[i]?=G o) (hw:Wn ops e o) (hd:o.dst=G d) (hn:Nat.blt d n=zz) (hS:S w) (hy:∀w',S w'→Y P e o w' v) (k:SxO P ops Q t S n f (listed.setIfInBounds i zz) ((d,v)::e) w) (hs:Region.noSelect ops=zz:=by kernel_rfl) (hQ:∀c (a:Act) t v w,Q (.panic c) (a.put t v) w→Q (.panic c) a w:=by exact λc a t v w h=>by cases t<;>exact h) (hwait:JH ops h t=zz:=by kernel_rfl) (hih:Nat.blt i h=zz:=by exact rfl) (hf:Region.free .any ops listed i=zz:=by kernel_rfl) (hr:(Region.ready .any ops listed).contains i=zz:=by kernel_rfl):SxO P ops Q t S n (f+1) listed e w:=
 lN i h hs hQ hwait hih hf hr ho hw hd hn hS hy k
theorem B7 {o:Oper} {R:Kv→Kw→Prop} (i:Nat) (d:Option Tmp) (hr:Region.ready .any ops listed=[i]) (ho:ops[i]?=G o) (hw:Wn ops e o) (hd:o.dst=d) (hn:JW n d=zz) (hy:∀ρ,Ag e ρ→K7 P ρ o w R)
 (k:∀v w',R v w'→(i<t→S w')∧SxO P ops Q t S n f (listed.setIfInBounds i zz) (e.ins d v) w'):SxO P ops Q t S n (f+1) listed e w:=⟨λa ha=>by
 refine ⟨λh0=>(by rw [hr] at h0;cases h0),λj hj=>?_⟩;rw [hr] at hj
 obtain rfl:j=i:=by simpa using hj
 unfold wpOp;simp only [ho,hw n a ha,if_true];refine .inl ((hy _ ha.eval).wp λv w' hR=>?_);rw [hd];obtain ⟨h1,h2⟩:=k v w' hR;exact ⟨h1,h2.run _ (ha.ins hn v)⟩⟩
theorem BB {o:Oper} {fn:FuncId} {args:Array Kv} {R:Ending→Kw→Prop} (i:Nat) (d:Option Tmp) (hr:Region.ready .any ops listed=[i]) (ho:ops[i]?=G o) (hw:Wn ops e o) (hd:o.dst=d) (hn:JW n d=zz) (hy:YC P e o w fn args) (hc:zt P fn args w R)
 (k:∀x w',R x w'→∃v,x=.returned v∧(i<t→S w')∧SxO P ops Q t S n f (listed.setIfInBounds i zz) (e.ins d v) w'):SxO P ops Q t S n (f+1) listed e w:=⟨λa ha=>by
 refine ⟨λh0=>(by rw [hr] at h0;cases h0),λj hj=>?_⟩;rw [hr] at hj
 obtain rfl:j=i:=by simpa using hj
 unfold wpOp;simp only [ho,hw n a ha,if_true];refine .inl ?_;unfold Oper.wp;rw [hy _ ha.eval,Oper.upon_enter];refine hc.mono λx w' hR=>?_
 obtain ⟨v,rfl,h1,h2⟩:=k x w' hR;simp only [hd];exact ⟨h1,h2.run _ (ha.ins hn v)⟩⟩
theorem FM {rs:List Nat} (hr:Region.ready .any ops listed=rs) (hne:rs≠[])
 (k:∀i∈rs,∀a,Agr n e a→wpOp P ops Q i (λa' w'=>(i<t→S w')∧KU P ops Q t S f (listed.setIfInBounds i zz) a' w') a w):SxO P ops Q t S n (f+1) listed e w:=⟨λa ha=>
 ⟨λh0=>absurd (hr▸h0) hne,λi hi=>k i (hr▸hi) a ha⟩⟩
theorem GT {o:Oper} {fn:FuncId} {args:Array Kv} {R:Ending→Kw→Prop} {i:Nat} (d:Option Tmp) (ho:ops[i]?=G o) (hw:Wn ops e o) (hd:o.dst=d) (hn:JW n d=zz) (hy:YC P e o w fn args) (hc:zt P fn args w R)
 (k:∀x w',R x w'→∃v,x=.returned v∧(i<t→S w')∧SxO P ops Q t S n f (listed.setIfInBounds i zz) (e.ins d v) w'):∀a,Agr n e a→wpOp P ops Q i (λa' w'=>(i<t→S w')∧KU P ops Q t S f (listed.setIfInBounds i zz) a' w') a w:=λa ha=>by
 unfold wpOp;simp only [ho,hw n a ha,if_true];refine .inl ?_;unfold Oper.wp;rw [hy _ ha.eval,Oper.upon_enter];refine hc.mono λx w' hR=>?_
 obtain ⟨v,rfl,h1,h2⟩:=k x w' hR;simp only [hd];exact ⟨h1,h2.run _ (ha.ins hn v)⟩
theorem DP {o:Oper} {R:Kv→Kw→Prop} {i:Nat} (d:Option Tmp) (ho:ops[i]?=G o) (hw:Wn ops e o) (hd:o.dst=d) (hn:JW n d=zz) (hy:∀ρ,Ag e ρ→K7 P ρ o w R)
 (k:∀v w',R v w'→(i<t→S w')∧SxO P ops Q t S n f (listed.setIfInBounds i zz) (e.ins d v) w'):∀a,Agr n e a→wpOp P ops Q i (λa' w'=>(i<t→S w')∧KU P ops Q t S f (listed.setIfInBounds i zz) a' w') a w:=λa ha=>by
 unfold wpOp;simp only [ho,hw n a ha,if_true];refine .inl ((hy _ ha.eval).wp λv w' hR=>?_);rw [hd];obtain ⟨h1,h2⟩:=k v w' hR;exact ⟨h1,h2.run _ (ha.ins hn v)⟩
theorem rR (hr:Region.ready .any ops listed=[]) (k:QX Q .normal n e w):SxO P ops Q t S n f listed e w:=⟨λa ha=>by
 cases f with
 | zero=>exact ⟨hr,k.run a ha⟩
 | succ f=>exact ⟨λ_=>k.run a ha,by rw [hr];simp⟩⟩
def qE (listed:Array Bool) (t:Nat):Bool:=(List.range t).all λi=>listed.getD i zz
theorem RN {l:List Oper} (j:Nat) (hl:qE listed t=zz) (hf:l.length=f) (hj:ops.toList.drop j=l) (hB:Region.seqB .any ops l.length j listed=zz) (k:SxL P ops Q n l e w):SxO P ops Q t S n f listed e w:=⟨λa ha=>by
 subst hf;refine Q8 _ _ _ _ (λi hi=>Cu.1 hl i (Fe.2 hi)) (wpAny_of_seq (md:=.any) l j listed a w (λk=>?_) hB (k.run a ha));rw [←hj,Ca];simp⟩
end
end
section
def evp (e:Env):List (Nat × Lz)→Option (List (Nat × Kv))
 | []=>G []
 | (i,x)::xs=>match ev e x,evp e xs with
  | some v,G vs=>G ((i,v)::vs)
  | _,_=>zx
theorem Ag.parts {e:Env} {ρ:Lz→Kv} (h:Ag e ρ):∀{xs:List (Nat × Lz)} {vs:List (Nat × Kv)},evp e xs=G vs→xs.map (λ(i,x)=>(i,ρ x))=vs
 | [],vs,hx=>by simp [evp] at hx;simp [hx]
 | (i,x)::xs,vs,hx=>by
  unfold evp at hx
  cases h1:ev e x with
  | none=>simp [h1] at hx
  | some v=>
   cases h2:evp e xs with
   | none=>simp [h1,h2] at hx
   | some us=>
    simp only [h1,h2,Ai] at hx
    subst hx;rw [Cc,h.parts h2]
    show (i,ρ x)::us=_
    rw [h x v h1]
theorem m6 (cs xs:Kx) (off i:Nat) (h:off≤cs.length):(put cs off xs)[i]?=if i<off then cs[i]? else if i<off+xs.length then xs[i-off]? else cs[i]?:=by
 unfold put;have hl:(cs.take off).length=off:=by simp;omega
 by_cases h1:i<off
 ·rw [Ac h1,Cv A0,Cj h1]
 rw [Ae h1,Ck A0,hl]
 by_cases h2:i<off+xs.length
 ·rw [Ac h2,Cv A0]
 rw [Ae h2,Ck A0,Ca]
 congr 1;omega
theorem tH (cs vs:Kx) (k:Nat) (v:Kv) (h:k+1+vs.length≤cs.length):put (cs.set k v) (k+1) vs=put cs k (v::vs):=by
 apply Eh
 intro i;rw [m6 _ _ _ _ (by rw [Hc];omega),m6 _ _ _ _ A0,Al]
 by_cases h1:i<k
 ·rw [Ac A0,Ac h1,Ee A0]
 by_cases h2:i=k
 ·subst h2;rw [Ac A0,Ae h1,Ac A0,Du A0,Gi];rfl
 rw [Ae A0,Ae h1]
 by_cases h3:i<k+1+vs.length
 ·rw [Ac h3,Ac A0,show i-k=(i-(k+1))+1 by omega,Bq]
 rw [Ae h3,Ae A0,Ee A0]
theorem ZV (off:Nat):∀(vs:Kx) (j:Nat) (cells:Kx),off+j+vs.length≤cells.length →
 (vs.zipIdx j).foldl (λ(cs:Array Kv) (p:Kv × Nat)=>cs.setIfInBounds (off+p.2) p.1) cells.toArray=(put cells (off+j) vs).toArray
 | [],j,cells,_=>by simp [zS]
 | v::vs,j,cells,h=>by
  simp only [Al] at h
  rw [List.zipIdx_cons,Ik,List.setIfInBounds_toArray,ZV off vs (j+1) _ (by rw [Hc];omega)];rw [show off+(j+1)=off+j+1 by omega,tH _ _ _ _ A0]
theorem pR (place:Nat→Option (Nat × Nat)) (cells:Kx) (i off:Nat) (v:Kv) (vs:Kx) (rest:List (Nat × Kv)) (hv:v.cells=vs.toArray) (hp:place i=G (off,vs.length)) (hl:off+vs.length≤cells.length) :
 Instr.fill place cells.toArray ((i,v)::rest)=Instr.fill place (put cells off vs).toArray rest:=by
 have hf:=ZV off vs 0 cells A0
 conv=>lhs;unfold Instr.fill
 rw [hp];simp only [hv,List.size_toArray,ne_eq,not_true_eq_false,decide_false,Gc,decide_eq_true_eq];rw [Ae A0];rw [←Hu,Array.toList_zipIdx];simp only [Ia] at hf
 rw [hf]
theorem XO (size:Nat):∀(vs:Kx) (j:Nat) (pre rest:Kx),pre.length=j*size→rest.length=vs.length*size→(∀v∈vs,v.cells.size=size) →
 Instr.fill (λi=>G (i*size,size)) (pre++rest).toArray ((vs.zipIdx j).map λx=>(x.2,x.1))=G (pre++(vs.map λv=>v.cells.toList).flatten).toArray
 | [],j,pre,rest,_,hr,_=>by
  have:rest=[]:=Bl (by simpa using hr)
  subst this
  simp [Instr.fill]
 | v::vs,j,pre,rest,hp,hr,hv=>by
  have hvs:v.cells.toList.length=size:=by simpa using hv v (by simp)
  simp only [Al,Ij,Nat.one_mul] at hr
  rw [List.zipIdx_cons,Cc];rw [pR _ _ j (j*size) v v.cells.toList _ (by simp) (by rw [hvs]) (by rw [Am,hvs];omega)]
  have e:put (pre++rest) (j*size) v.cells.toList=(pre++v.cells.toList)++rest.drop size:=by
   unfold put;rw [←hp,List.take_left,hvs,List.drop_append,Ey A0,Fq,Cg]
   congr 3;omega
  rw [e,XO size vs (j+1) _ _ (by rw [Am,hvs,hp,Ij];omega) (by rw [Ch];omega) (λu hu=>hv u (by simp [hu]))]
  simp
section
variable {P:Lw} {e:Env} {w:Kw} {o:Oper}
theorem B8 {t:Nat} {parts:List (Nat × Lz)} {ps:List (Nat × Kv)} {cells:Array Kv} (ho:o.op=.build t parts.toArray) (hp:evp e parts=G ps) (hb:P.built t ps=G cells):Y P e o w (.agg cells):=λρ h=>by
 have:=h.parts hp
 unfold execOp;simp only [ho,Sem.run_bind];have hm:(parts.toArray.map λ(i,x)=>(i,ρ x))=ps.toArray:=by simp [this]
 rw [hm,run_build w t ps.toArray cells (by simpa using hb)]
 rfl
theorem AJ {t b off n:Nat} {x:Lz} {d:TypeDesc} {xs:Kx} (ho:o.op=.load t x) (hx:ev e x=G (.pointer (G ⟨b,off,zx⟩))) (hr:Rd w (G ⟨b,off,zx⟩) n xs) (hu:P.underlying t=G d) (hd:d.isRow=zz) (hi:(P.info? t).map (·.size)=G n):Y P e o w (.agg xs.toArray):=λ_ h=>
 gQ t x ho b off n xs d (h _ _ hx) hr hu hd hi
theorem CX {ρ:Lz→Kv} {t el size len:Nat} {parts:List (Nat × Lz)} {ps:List (Nat × Kv)} (vs:Kx) (z:Kv) (hρ:Ag e ρ) (ho:o.op=.buildSlice t len parts.toArray) (hp:evp e parts=G ps) (hps:ps=(vs.zipIdx 0).map λx=>(x.2,x.1)) (hlen:vs.length=len)
 (hu:P.underlying t=G (.slice el)) (hi:(P.info? el).map (λi=>(i.zero,i.size))=G (G z,size)) (hpos:0<len*size) (hsm:len*size≤16777216) (hv:∀v∈vs,v.cells.size=size) :
 K7 P ρ o w λv w'=>∃g,v=.slice (G ⟨g,0,zx⟩) len len∧w.heap.size≤g∧g<w'.heap.size∧Blk w' g el ((vs.map λv=>v.cells.toList).flatten)∧Fr0 w w':=by
 cases hq:P.info? el with
 | none=>simp [hq] at hi
 | some i=>
  obtain ⟨hz,hsize⟩:i.zero=G z∧i.size=size:=by simpa [hq] using hi
  subst hsize;have hm:(parts.toArray.map λ(i,x)=>(i,ρ x))=ps.toArray:=by simp [hρ.parts hp]
  have hfill:=XO i.size vs 0 [] ((Array.range (len*i.size)).map (z.cells[·%z.cells.size]!)).toList (by simp) (by simp [hlen]) hv;simp only [Fq] at hfill
  rw [Gd] at hfill
  refine ⟨_,w.alloc (.cells ((vs.map λv=>v.cells.toList).flatten).toArray el),.inl ?_,w.heap.size,X,Af _,by simp,Blk.new w el _,Fr.refl.alloc _⟩;have hr:=run_buildSlice (P:=P) w t el len ps.toArray _ i z hu hq hz (by simp;omega) A0 (by rw [hps];exact hfill);unfold execOp;simp only [ho,Sem.run_bind,hm,hr,Result.andThen_ok]
  rfl
end
end
section
section
variable {P:Lw} {Q:Exit→Act→Kw→Prop} {n:Nat} {e:Env} {w:Kw}
theorem JK {ops:Array Oper} {o:Oper} {rest:List Oper} {f:FuncId} {args:Array Kv} {d:Nat} {v:Kv} (hw:Wn ops e o) (hd:o.dst=G d) (hn:JW n (G d)=zz) (hy:YC P e o w f args) (hc:zt P f args w λx w'=>x=.returned v∧w=w')
 (k:SxL P ops Q n rest (e.ins (G d) v) w):SxL P ops Q n (o::rest) e w:=
 sxl_call (G d) hw hd hn hy hc (by rintro _ _ ⟨rfl,rfl⟩;exact ⟨_,rfl,k⟩)
end
theorem Rd.ofBlk {w:Kw} {g:Nat} {t:Ly} {xs:Kx} (h:Blk w g t xs) {n:Nat} (hn:xs.length=n):Rd w (G ⟨g,0,zx⟩) n xs:=
 ⟨hn,λ_=>⟨g,0,rfl,λj u hu=>by rw [Cr];exact (h.cell j).trans hu⟩⟩
end
section
section
variable {P:Lw} {Q:Exit→Act→Kw→Prop} {n:Nat} {e:Env} {w:Kw}
theorem PL {x:Exit} {r:Env} (hl:r.le e) (h:QX Q x n r w):QX Q x n e w:=⟨λa ha=>h.run a (ha.weak hl)⟩
end
section
variable {P:Lw} {e:Env} {w:Kw} {o:Oper}
theorem dB {t len cap sz el:Nat} {A:Ky} {m:Int} {k:IntKind} {x i:Lz} (ho:o.op=.slice t x (G i) zx zx) (hx:ev e x=G (.slice A len cap)) (hi:ev e i=G (.int k m)) (ht:F3 P t=G (el,sz)) (h0:0≤m∧m≤len) :
 Y P e o w (.slice (if cap=m.toNat then A else A.map (·.add (m.toNat*sz))) (len-m.toNat) (cap-m.toNat)):=λρ h=>by
 unfold F3 at ht
 split at ht
 ·rename_i el' hu
  split at ht
  ·rename_i i' hi'
   simp only [Ai,Az] at ht
   obtain ⟨rfl,rfl⟩:=ht;unfold execOp
   simp [ho,h _ _ hx,h _ _ hi,Instr.sliceAt,Instr.slice,run_underlying hu,Instr.sliceBounds,Instr.sliceBound,asIntOf,h0.1,h0.2,sizeOf,typeInfo,hi']
  cases ht
 cases ht
end
section
variable {P:Lw} {ρ:Lz→Kv} {w:Kw} {o:Oper}
theorem KS (t e size:Nat) (ho:o.op=.buildSlice t 0 #[]) (hu:P.underlying t=G (.slice e)) (hi:(P.info? e).map (·.size)=G size) :
 K7 P ρ o w λv w'=>∃g,v=.slice (G ⟨g,0,zx⟩) 0 0∧w.heap.size≤g∧g<w'.heap.size∧Blk w' g e []∧Fr0 w w'∧∀base,base≤w.heap.size→w'.ownsRow base e size v 0 []:=by
 cases hq:P.info? e with
 | none=>simp [hq] at hi
 | some i=>
  have hr:(Instr.buildSlice t 0 #[]).run P w=.ok (.slice (G ⟨w.heap.size,0,zx⟩) 0 0) (w.alloc (.cells #[] e)):=by
   simp [Instr.buildSlice,run_underlying hu,sizeOf,typeInfo,hq,newRow,Instr.fill]
   rw [show Array.range 0 = #[] from by apply Array.eq_empty_of_size_eq_zero;simp,Fz,Gx]
  refine ⟨_,w.alloc (.cells #[] e),.inl ?_,w.heap.size,X,Af _,by simp,Blk.new w e [],Fr.refl.alloc _,λbase hb=>PN (oG w e size) hb⟩;unfold execOp;simp only [ho,Sem.run_bind];rw [Fz,Gx,hr]
  rfl
end
end
section
def str (l:Kz):Kv:=.string ⟨l.toArray⟩
section
variable {P:Lw} {e:Env} {w:Kw} {o:Oper}
theorem BT {t:Nat} {x:Lz} {l:Kz} (ho:o.op=.call { callee:=.builtin .len,args := #[x],argTypes := #[t] }) (hx:ev e x=G (str l)) (ht:P.underlying t=G .string):Y P e o w (.int .i64 (l.length:Int)):=λρ h=>by
 have hs:(ByteArray.mk l.toArray).size=l.length:=by show l.toArray.size=_;simp
 unfold execOp
 simp [ho,h _ _ hx,str,resolve,invoke,builtin,Builtin.len_,run_underlying ht,goInt,hs]
theorem BA {t:Nat} {x i:Lz} {l:Kz} {k:IntKind} {m:Nat} {b:UInt8} (ho:o.op=.index t x i) (hx:ev e x=G (str l)) (hi:ev e i=G (.int k (m:Int))) (ht:P.underlying t=G .string) (hb:l[m]?=G b):Y P e o w (.int .u8 (b.toNat:Int)):=λρ h=>by
 have hs:(ByteArray.mk l.toArray)[m]?=G b:=by
  have hl:=(An.1 hb).1;have he:=(An.1 hb).2;rw [getElem?_pos (ByteArray.mk l.toArray) m (by show m<l.toArray.size;simpa using hl)]
  congr 1
 unfold execOp
 simp [ho,h _ _ hx,h _ _ hi,str,Instr.index,asIntOf,run_underlying ht,hs]
theorem IV {t t':Nat} {a b:Kz} {x y:Lz} (ho:o.op=.binOp .eql t x y t') (hx:ev e x=G (str a)) (hy:ev e y=G (str b)):Y P e o w (.bool (O (a=b))):=λρ h=>by
 have h1:ρ x=.string ⟨a.toArray⟩:=h _ _ hx;have h2:ρ y=.string ⟨b.toArray⟩:=h _ _ hy;unfold execOp
 simp [ho,h1,h2,eqGuard_at_string,binOp,Op.stringOp]
 by_cases hab:a=b
 ·subst hab;simp
 simp [hab]
end
end
section
def CG : List (Kz × Kv)→Kz→Option Kv
 | [],_=>zx
 | (k',v)::r,k=>if k=k' then G v else CG r k
def DG : List (Kz × Kv)→Kz→Kv→List (Kz × Kv)
 | [],k,v=>[(k,v)]
 | (k',v')::r,k,v=>if k=k' then (k,v)::r else (k',v')::DG r k v
theorem G6 (k k':Kz) (v:Kv):∀L,CG (DG L k v) k'=if k'=k then G v else CG L k'
 | []=>by simp [DG,CG]
 | (k1,v1)::r=>by
  unfold DG
  by_cases h:k=k1
  ·subst h;rw [Ac rfl];unfold CG;by_cases h2:k'=k<;>simp [h2]
  rw [Ae h];unfold CG
  by_cases h2:k'=k1
  ·subst h2;rw [Ac rfl,Ac rfl,Ae (λe=>h e.symm)]
  rw [Ae h2,Ae h2];exact G6 k k' v r
def Mp (w:Kw) (g:Nat) (L:List (Kz × Kv)):Prop:=∃(es:Array MapEntry) (clock:Nat),w.heap[g]?=G (.map es clock)∧es.toList.map (λe=>(e.key,e.val))=L.map λp=>(str p.1,p.2)
theorem Mp.lt {w:Kw} {g:Nat} {L:List (Kz × Kv)} (h:Mp w g L):g<w.heap.size:=by
 obtain ⟨es,cl,h,_⟩:=h;exact (Ar.1 h).1
theorem Mp.fr {S:Nat→Prop} {w w':Kw} {g:Nat} {L:List (Kz × Kv)} (h:Mp w g L) (hf:Fr S w w') (hn:¬S g):Mp w' g L:=by
 obtain ⟨es,cl,h1,h2⟩:=h;exact ⟨es,cl,(hf.block g (Ar.1 h1).1 hn).trans h1,h2⟩
theorem bA (a b:Kz):((⟨a.toArray⟩:ByteArray)==⟨b.toArray⟩)=O (a=b):=by
 have h1:((⟨a.toArray⟩:ByteArray)==⟨b.toArray⟩)=(a.toArray==b.toArray):=X;rw [h1];by_cases h:a=b<;>simp [h]
theorem sN (a b:Kz):Instr.sameNow .string (str a) (str b)=G (O (a=b)):=by
 unfold str;simp only [Instr.sameNow,bA]
section
variable {P:Lw} {e:Env} {w:Kw} {o:Oper}
theorem SH (k:Kz):∀(L:List (Kz × Kv)) (es:List MapEntry) (i:Nat),es.map (λe=>(e.key,e.val))=L.map (λp=>(str p.1,p.2)) →
 (CG L k=zx∧Instr.findNow .string (str k) es i=G zx∧DG L k=λv=>L++[(k,v)]) ∨
 ∃j v,CG L k=G v∧Instr.findNow .string (str k) es i=G (G (i+j,v))∧j<L.length∧(L[j]?).map (·.1)=G k∧DG L k=λv=>L.set j (k,v)
 | [],es,i,h=>by
  obtain rfl:es=[]:=by simpa using h
  exact .inl ⟨X,X,by funext v;rfl⟩
 | (k',v')::L,[],i,h=>by simp at h
 | (k',v')::L,en::es,i,h=>by
  simp only [Cc,Cx,Az] at h
  obtain ⟨⟨h1,h2⟩,h3⟩:=h;have hc:Instr.findNow .string (str k) (en::es) i=match Instr.sameNow .string (str k) en.key with|some zz=>G (G (i,en.val))|some zy=>Instr.findNow .string (str k) es (i+1)|none=>zx:=X
  rw [h1,sN] at hc
  by_cases hk:k=k'
  ·subst hk
   right
   refine ⟨0,v',by simp [CG],?_,by simp,by simp,by funext v;simp [DG]⟩;rw [hc];simp [h2]
  rcases SH k L es (i+1) h3 with ⟨a1,a2,a3⟩|⟨j,v,a1,a2,a3,a4,a5⟩
  ·left
   refine ⟨by simp [CG,hk,a1],?_,by funext v;simp [DG,hk,a3]⟩;rw [hc];simp [hk,a2]
  right
  refine ⟨j+1,v,by simp [CG,hk,a1],?_,by simp;omega,by simpa using a4,by funext v;simp [DG,hk,a5]⟩;rw [hc];simp [hk,a2];omega
theorem J4 {kt:Ly} {k:Kz} {es:List MapEntry} {r:Option (Nat × Kv)} (hd:P.underlying kt=G .string) (hf:Instr.findNow .string (str k) es 0=G r) (w:Kw):(Instr.findKey kt (str k) es).run P w=.ok r w:=by
 unfold Instr.findKey
 simp [run_underlying hd,hf]
theorem JN {kt:Ly} (hd:P.underlying kt=G .string) (k:Kz) (b:Bool) (w:Kw):(Instr.checkKey b 10000 kt (str k)).run P w=.ok () w:=by
 show (Instr.checkKey b (9999+1) kt _).run P w=_
 unfold Instr.checkKey
 simp [run_underlying hd]
theorem L9 {g clock:Nat} {es:Array MapEntry} (hb:w.heap[g]?=G (.map es clock)):(Go.getObj g).run P w=.ok (.map es clock) w:=by
 unfold Go.getObj;simp only [Sem.run,hb]
theorem gT {ρ:Lz→Kv} {t:Ly} (ho:o.op=.makeMap t zx):K7 P ρ o w λv w'=>v=.map (G w.heap.size)∧w'=w.alloc (.map #[] 0):=by
 refine ⟨_,_,.inl ?_,X,X⟩;unfold execOp
 simp [ho,Instr.makeMap]
theorem a2m (w:Kw):Mp (w.alloc (.map #[] 0)) w.heap.size []:=⟨#[],0,by show (w.heap.push (.map #[] 0))[w.heap.size]?=_;simp,rfl⟩
theorem U2 {ρ:Lz→Kv} {t:Ly} (ho:o.op=.makeMap t zx):K7 P ρ o w λv w'=>∃g,v=.map (G g)∧w.heap.size≤g∧g<w'.heap.size∧Mp w' g []∧Fr0 w w':=
 (gT ho).mono λv w' ⟨h1,h2⟩=>by
  subst h2;exact ⟨w.heap.size,h1,Af _,by simp,a2m w,Fr.refl.alloc _⟩
theorem RE {t kt el:Ly} {x i:Lz} {ok:Bool} {g:Nat} {k:Kz} {L:List (Kz × Kv)} {z:Kv} (ho:o.op=.lookup t x i ok) (hx:ev e x=G (.map (G g))) (hi:ev e i=G (str k)) (hu:P.underlying t=G (.map kt el)) (hd:P.underlying kt=G .string)
 (hz:(P.info? el).map (·.zero)=G (G z)) (hM:Mp w g L):Y P e o w (if ok then .tuple #[(CG L k).getD z,.bool (CG L k).isSome] else (CG L k).getD z):=λρ h=>by
 obtain ⟨es,clock,hb,hes⟩:=hM;obtain ⟨inf,hinf,hinz⟩:=Dp.1 hz;have h1:ρ x=.map (G g):=h _ _ hx;have h2:ρ i=str k:=h _ _ hi;unfold execOp;simp only [ho,h1,h2];unfold Instr.lookup;simp only [Sem.run_bind,run_underlying hu,Result.andThen_ok,Sem.run_pure,L9 hb,JN hd];rcases SH k L es.toList 0 hes with ⟨a1,a2,_⟩|⟨j,v,a1,a2,_,_,_⟩
 ·simp only [J4 hd a2,a1]
  cases ok<;>simp [zeroValue,typeInfo,hinf,hinz]
 simp only [J4 hd a2,a1]
 cases ok<;>simp
theorem UT {ρ:Lz→Kv} {t kt el:Ly} {mp i x:Lz} {g:Nat} {k:Kz} {v:Kv} {L:List (Kz × Kv)} (ho:o.op=.mapUpdate t mp i x∨o.op=.insert t mp i x) (hm:ρ mp=.map (G g)) (hi:ρ i=str k) (hx:ρ x=v) (hu:P.underlying t=G (.map kt el)) (hd:P.underlying kt=G .string)
 (hM:Mp w g L):K7 P ρ o w λu w'=>u=undef∧Fr (λb=>b=g) w w'∧Mp w' g (DG L k v):=by
 obtain ⟨es,clock,hb,hes⟩:=hM;have hlt:g<w.heap.size:=(Ar.1 hb).1
 have fin:∀(es':Array MapEntry) (clock':Nat),(Instr.mapUpdate t (.map (G g)) (str k) v).run P w=.ok () { w with heap:=w.heap.setIfInBounds g (.map es' clock') }→es'.toList.map (λe=>(e.key,e.val))=(DG L k v).map (λp=>(str p.1,p.2)) →
  K7 P ρ o w λu w'=>u=undef∧Fr (λb=>b=g) w w'∧Mp w' g (DG L k v):=λes' clock' hrun hes'=>by
  refine ⟨undef,{ w with heap:=w.heap.setIfInBounds g (.map es' clock') },.inr ⟨?_,X⟩,X,⟨X,X,X,by simp,λr _ hn=>by simp [Array.getElem?_setIfInBounds_ne (Ne.symm hn)]⟩,es',clock',by simp [hlt],hes'⟩;rcases ho with ho|ho<;>(unfold execOp;simp only [ho,hm,hi,hx,Sem.run_bind,hrun,Result.andThen_ok];rfl)
 have hbits:Instr.sameBits 10000 (str k) (str k)=zz:=by
  unfold str
  simp [Instr.sameBits,bA]
 rcases SH k L es.toList 0 hes with ⟨a1,a2,a3⟩|⟨j,v0,a1,a2,a3,a4,a5⟩
 ·refine fin (es.push { key:=str k,val:=v,born:=clock }) (clock+1) ?_ (by rw [a3];simp [hes]);unfold Instr.mapUpdate;simp only [Sem.run_bind,run_underlying hu,Result.andThen_ok,L9 hb,JN hd,J4 hd a2];unfold setObj;simp only [Sem.run,hb]
 rw [Cr] at a2
 have hlen:es.toList.length=L.length:=by have:=Bf List.length hes;simpa using this
 obtain ⟨en,hen⟩:∃en,es[j]?=G en:=⟨_,Fk (by simp at hlen;omega)⟩
 have hkey:en.key=str k:=by
  have h1:=Bf (·[j]?) hes;simp only [Cb] at h1
  have h2:es.toList[j]?=G en:=by simpa using hen
  rw [h2] at h1
  cases hL:L[j]? with
  | none=>rw [hL] at h1;cases h1
  | some p=>
   rw [hL] at h1 a4
   simp only [Dn,Ai,Az] at h1 a4
   rw [h1.1,a4]
 refine fin (es.modify j λe=>{ e with key:=str k,val:=v }) clock ?_ ?_
 ·have hold:((es[j]?).map (·.key)).getD (str k)=str k:=by rw [hen];exact hkey
  unfold Instr.mapUpdate;simp only [Sem.run_bind,run_underlying hu,Result.andThen_ok,L9 hb,JN hd,J4 hd a2,hold,Instr.keyThatStays,hbits,if_true,Sem.run_pure];unfold setObj;simp only [Sem.run,hb]
 rw [a5]
 apply Eh
 intro i;have h1:=Bf (·[i]?) hes;simp only [Cb] at h1
 rw [Ho,Cb,Hi,Cb,Ib]
 by_cases hij:j=i
 ·subst hij
  simp [hen,a3]
 simp [hij]
 simpa using h1
theorem GP {ρ:Lz→Kv} {t kt el:Ly} {mp i x:Lz} {g:Nat} {k:Kz} {v:Kv} {L:List (Kz × Kv)} (ho:o.op=.mapUpdate t mp i x) (hm:ρ mp=.map (G g)) (hi:ρ i=str k) (hx:ρ x=v) (hu:P.underlying t=G (.map kt el)) (hd:P.underlying kt=G .string)
 (hM:Mp w g L):K7 P ρ o w λu w'=>u=undef∧Fr (λb=>b=g) w w'∧Mp w' g (DG L k v):=UT (.inl ho) hm hi hx hu hd hM
theorem gU {ρ:Lz→Kv} {t kt el:Ly} {mp i x:Lz} {g:Nat} {k:Kz} {v:Kv} {L:List (Kz × Kv)} (ho:o.op=.insert t mp i x) (hm:ρ mp=.map (G g)) (hi:ρ i=str k) (hx:ρ x=v) (hu:P.underlying t=G (.map kt el)) (hd:P.underlying kt=G .string)
 (hM:Mp w g L):K7 P ρ o w λu w'=>u=undef∧Fr (λb=>b=g) w w'∧Mp w' g (DG L k v):=UT (.inr ho) hm hi hx hu hd hM
end
end
section
structure As where
 fp:List Nat
 ok:Kw→Prop
 keep:∀{w w':Kw},(∀g∈fp,g<w.heap.size→w'.heap[g]?=w.heap[g]?)→ok w→ok w'
def As.blk (g:Nat) (t:Ly) (cs:Kx):As:=⟨[g],λw=>Blk w g t cs,λh hb=>(h g (by simp) hb.lt).trans hb⟩
def As.mp (g:Nat) (M:List (Kz × Kv)):As:=⟨[g],λw=>Mp w g M,λh hb=>by
 obtain ⟨es,cl,h1,h2⟩:=hb;exact ⟨es,cl,(h g (by simp) (Ar.1 h1).1).trans h1,h2⟩⟩
def As.own (base:Nat) (e:Ly) (size:Nat) (v:Kv) (n:Nat) (xs:Kx):As:=⟨v.ownBlock.toList,λw=>w.ownsRow base e size v n xs,λh hb=>by
 refine ⟨hb.1,?_⟩;rcases hb.2 with hh|⟨g,cap,cur,rfl,hb,hg,r⟩
 ·exact .inl hh
 exact .inr ⟨g,cap,cur,X,hb,(h g (by simp [Value.ownBlock]) (Ar.1 hg).1).trans hg,r⟩⟩
def As.none : As:=⟨[],λ_=>True,λ_ _=>trivial⟩
structure Mem (w0:Kw) (S:Nat→Prop) (L:List As) (w:Kw):Prop where
 fr:Fr S w0 w
 ok:∀(i:Nat) (a:As),L[i]?=G a→a.ok w
 lt:∀(i:Nat) (a:As),L[i]?=G a→∀g∈a.fp,g<w.heap.size∧(w0.heap.size≤g∨S g)
 apart:∀(i j:Nat) (a b:As),L[i]?=G a→L[j]?=G b→i≠j→∀g∈a.fp,g∉b.fp
namespace Mem
variable {w0 w w':Kw} {S:Nat→Prop} {L:List As}
theorem nil (w:Kw):Mem w S [] w:=⟨Fr.refl,by simp,by simp,by simp⟩
theorem ofFr (h:Fr S w0 w):Mem w0 S [] w:=⟨h,by simp,by simp,by simp⟩
theorem step (M:Mem w0 S L w) (hf:Fr0 w w'):Mem w0 S L w' where
 fr:=M.fr.then0 hf
 ok i a hi:=a.keep (λg _ hg=>hf.block g hg (λhh=>hh)) (M.ok i a hi)
 lt i a hi g hg:=by
  obtain ⟨h1,h2⟩:=M.lt i a hi g hg;exact ⟨Ce h1 hf.size,h2⟩
 apart:=M.apart
theorem drew (M:Mem w0 S L w):Mem w0 S L w.drew:=M.step (Fr.drew Fr.refl)
theorem push (M:Mem w0 S L w) (hf:Fr0 w w') (a:As) (hok:a.ok w') (hfp:∀g∈a.fp,w.heap.size≤g∧g<w'.heap.size):Mem w0 S (a::L) w':=by
 have M':=M.step hf;refine ⟨M'.fr,?_,?_,?_⟩
 ·intro i b hi
  cases i with
  | zero=>simp only [Ak,Ai] at hi;subst hi;exact hok
  | succ i=>exact M'.ok i b (by simpa using hi)
 ·intro i b hi g hg
  cases i with
  | zero=>
   simp only [Ak,Ai] at hi;subst hi
   obtain ⟨h1,h2⟩:=hfp g hg;exact ⟨h2,.inl (Bh M.fr.size h1)⟩
  | succ i=>exact M'.lt i b (by simpa using hi) g hg
 intro i j b c hi hj hne g hg hg'
 cases i with
 | zero=>
  cases j with
  | zero=>exact hne rfl
  | succ j=>
   simp only [Ak,Ai] at hi;subst hi
   have h1:=(hfp g hg).1;have h2:=(M.lt j c (by simpa using hj) g hg').1;omega
 | succ i=>
  cases j with
  | zero=>
   simp only [Ak,Ai] at hj;subst hj
   have h1:=(hfp g hg').1;have h2:=(M.lt i b (by simpa using hi) g hg).1;omega
  | succ j=>exact M.apart i j b c (by simpa using hi) (by simpa using hj) A0 g hg hg'
theorem upd (M:Mem w0 S L w) (i:Nat) {a:As} (hi:L[i]?=G a) (hf:Fr (λk=>k∈a.fp) w w') (a':As) (hok:a'.ok w') (hfp:∀g∈a'.fp,g∈a.fp∨(w.heap.size≤g∧g<w'.heap.size)):Mem w0 S (L.set i a') w':=by
 have hl:i<L.length:=(An.1 hi).1
 have get:∀(j:Nat) (b:As),(L.set i a')[j]?=G b→(j=i∧b=a')∨(j≠i∧L[j]?=G b):=by
  intro j b hj
  by_cases hji:j=i
  ·subst hji;rw [Du hl] at hj
   exact .inl ⟨X,(Bz hj).symm⟩
  rw [Ee (Es hji)] at hj
  exact .inr ⟨hji,hj⟩
 refine ⟨M.fr.step hf (λk hk hm=>?_),?_,?_,?_⟩
 ·rcases (M.lt i a hi k hm).2 with h|h
  ·omega
  exact h
 ·intro j b hj;rcases get j b hj with ⟨_,rfl⟩|⟨hne,hj'⟩
  ·exact hok
  exact b.keep (λg hg hlt=>hf.block g hlt (λhm=>M.apart i j a b hi hj' (Es hne) g hm hg)) (M.ok j b hj')
 ·intro j b hj g hg;rcases get j b hj with ⟨_,rfl⟩|⟨hne,hj'⟩
  ·rcases hfp g hg with h|⟨h1,h2⟩
   ·obtain ⟨h1,h2⟩:=M.lt i a hi g h;exact ⟨Ce h1 hf.size,h2⟩
   exact ⟨h2,.inl (Bh M.fr.size h1)⟩
  obtain ⟨h1,h2⟩:=M.lt j b hj' g hg;exact ⟨Ce h1 hf.size,h2⟩
 intro j k b c hj hk hne g hg hg';rcases get j b hj with ⟨rfl,rfl⟩|⟨hji,hj'⟩
 ·rcases get k c hk with ⟨rfl,rfl⟩|⟨hki,hk'⟩
  ·exact hne X
  rcases hfp g hg with h|⟨h1,_⟩
  ·exact M.apart j k a c hi hk' hne g h hg'
  have:=(M.lt k c hk' g hg').1;omega
 rcases get k c hk with ⟨rfl,rfl⟩|⟨hki,hk'⟩
 ·rcases hfp g hg' with h|⟨h1,_⟩
  ·exact M.apart k j a b hi hj' (Es hne) g h hg
  have:=(M.lt j b hj' g hg).1;omega
 exact M.apart j k b c hj' hk' hne g hg hg'
theorem drop (M:Mem w0 S L w) (n:Nat):Mem w0 S (L.drop n) w:=by
 refine ⟨M.fr,?_,?_,?_⟩
 ·intro i a hi;rw [Ca] at hi;exact M.ok _ a hi
 ·intro i a hi;rw [Ca] at hi;exact M.lt _ a hi
 intro i j a b hi hj hne;rw [Ca] at hi hj;exact M.apart _ _ a b hi hj A0
theorem pick (M:Mem w0 S L w) (f:List Nat) (hf:f.Nodup):Mem w0 S (f.map λi=>(L[i]?).getD As.none) w:=by
 have get:∀(i:Nat) (a:As),(f.map λi=>(L[i]?).getD As.none)[i]?=G a→(∃k:Nat,f[i]?=G k∧L[k]?=G a)∨a=As.none:=by
  intro i a h;rw [Cb] at h
  cases hk:f[i]? with
  | none=>rw [hk] at h;cases h
  | some k=>
   rw [hk] at h
   simp only [Dn,Ai] at h
   cases hl:L[k]? with
   | none=>rw [hl] at h;exact .inr h.symm
   | some b=>rw [hl] at h;simp only [Df] at h;subst h;exact .inl ⟨k,rfl,hl⟩
 refine ⟨M.fr,?_,?_,?_⟩
 ·intro i a hi;rcases get i a hi with ⟨k,_,h⟩|rfl
  ·exact M.ok k a h
  trivial
 ·intro i a hi g hg;rcases get i a hi with ⟨k,_,h⟩|rfl
  ·exact M.lt k a h g hg
  simp [As.none] at hg
 intro i j a b hi hj hne g hg hg';rcases get i a hi with ⟨k,h1,h⟩|rfl
 ·rcases get j b hj with ⟨k',h1',h'⟩|rfl
  ·have:k≠k':=by
    rintro rfl;obtain ⟨l1,e1⟩:=An.1 h1;obtain ⟨l2,e2⟩:=An.1 h1';exact hne ((List.getElem_inj hf).1 (e1.trans e2.symm))
   exact M.apart k k' a b h h' this g hg hg'
  simp [As.none] at hg'
 simp [As.none] at hg
theorem cell (M:Mem w0 S L w) (i:Nat) {g t off:Nat} {cs:Kx} {u:Kv} (hi:L[i]?=G (As.blk g t cs)) (hu:cs[off]?=G u):Cell w.heap g off u:=
 Blk.c (M.ok i _ hi:Blk w g t cs) off hu
theorem blk (M:Mem w0 S L w) (i:Nat) {g t:Nat} {cs:Kx} (hi:L[i]?=G (As.blk g t cs)):Blk w g t cs:=M.ok i _ hi
theorem mp (M:Mem w0 S L w) (i:Nat) {g:Nat} {K:List (Kz × Kv)} (hi:L[i]?=G (As.mp g K)):Mp w g K:=M.ok i _ hi
theorem own (M:Mem w0 S L w) (i:Nat) {base e size n:Nat} {v:Kv} {xs:Kx} (hi:L[i]?=G (As.own base e size v n xs)):w.ownsRow base e size v n xs:=M.ok i _ hi
theorem rd (M:Mem w0 AR L w) {A:Ky} {n:Nat} {xs:Kx} (h:Rd w0 A n xs):Rd w A n xs:=h.fr0 M.fr
end Mem
theorem a3i (w:Kw):Mem w AR [] w:=Mem.nil w
abbrev ni (n:Nat):Kv:=.int .i64 (n:Int)
abbrev pg (g:Nat):Kv:=.pointer (G ⟨g,0,zx⟩)
abbrev AA (n:Int):Kv:=.int .i64 n
abbrev BR (w:Kw) (v:Kv) (e:Ending) (w':Kw):Prop:=e=.returned v∧Fr0 w w'
theorem Mem.pk {w0 w:Kw} {S:Nat→Prop} {L:List As} (M:Mem w0 S L w) (f:List Nat) (hf:f.Nodup:=by decide):Mem w0 S (f.map λi=>(L[i]?).getD As.none) w:=M.pick f hf
theorem YP {P:Lw} {Q:Exit→Act→Kw→Prop} {n:Nat} {e:Env} {w w0:Kw} {S:Nat→Prop} {L:List As} {ops:Array Oper} {o:Oper} {rest:List Oper} {f:FuncId} {args:Array Kv} {v:Kv} (M:Mem w0 S L w) (d:Nat) (hd:(o.guard,o.dst,JW n (G d))=(zx,G d,zz)) (hy:YC P e o w f args) (hc:zt P f args w λx w'=>x=.returned v∧Fr0 w w') (k:∀w',Mem w0 S L w'→SxL P ops Q n rest ((d,v)::e) w'):SxL P ops Q n (o::rest) e w:=by
 simp only [Az] at hd
 refine sxl_call (G d) (wn_none hd.1) hd.2.1 hd.2.2 hy hc ?_;rintro _ w' ⟨rfl,hf⟩;exact ⟨_,X,k w' (M.step hf)⟩
theorem cl {P:Lw} {Q:Exit→Act→Kw→Prop} {n:Nat} {e:Env} {w:Kw} {ops:Array Oper} {o:Oper} {rest:List Oper} {f:FuncId} {args:Array Kv} {R:Ending→Kw→Prop} (d:Nat) (hd:(o.guard,o.dst,JW n (G d))=(zx,G d,zz)) (hy:YC P e o w f args) (hc:zt P f args w R) (k:∀x w',R x w'→∃v,x=.returned v∧SxL P ops Q n rest (e.ins (G d) v) w'):SxL P ops Q n (o::rest) e w:=by
 simp only [Az] at hd
 exact sxl_call (G d) (wn_none hd.1) hd.2.1 hd.2.2 hy hc k
theorem FZ {x:Kv} {s:Nat} (h:x.cells.size=s):∀v∈[x],v.cells.size=s:=λv hv=>by
 rw [Au.1 hv];exact h
section
variable {P:Lw} {Q:Exit→Act→Kw→Prop} {n:Nat} {e:Env} {w w0:Kw} {S:Nat→Prop} {L:List As} {ops:Array Oper} {o:Oper} {rest:List Oper}
theorem G9 (M:Mem w0 S L w) {d:Nat} (hw:Wn ops e o) (hd:o.dst=G d) (hn:Nat.blt d n=zz) (t:Ly) (ho:o.op=.alloc t) {z:Kv} (zs:Kx) (hz:(P.info? t).map (·.zero)=G (G z)) (hc:z.cells=zs.toArray)
 (k:∀g w',w.heap.size≤g→Mem w0 S (As.blk g t zs::L) w'→SxL P ops Q n rest ((d,.pointer (G ⟨g,0,zx⟩))::e) w'):SxL P ops Q n (o::rest) e w:=by
 refine sxl_does (G d) hw hd hn (λρ hρ=>BP t ho z zs hz hc) ?_;rintro _ w1 ⟨g,rfl,h1,h2,hb,hf⟩;exact k g w1 h1 (M.push hf _ hb (λg' hg'=>by simp only [As.blk,Au] at hg';subst hg';exact ⟨h1,h2⟩))
theorem CZ (M:Mem w0 S L w) {d:Nat} (hw:Wn ops e o) (hd:o.dst=G d) (hn:Nat.blt d n=zz) (t:Ly) {x:Lz} (ho:o.op=.box t x) {v:Kv} (hx:ev e x=G v) (cs:Kx) (hc:v.cells=cs.toArray)
 (k:∀g w',w.heap.size≤g→Mem w0 S (As.blk g t cs::L) w'→SxL P ops Q n rest ((d,.pointer (G ⟨g,0,zx⟩))::e) w'):SxL P ops Q n (o::rest) e w:=by
 refine sxl_does (G d) hw hd hn (λρ hρ=>NF t x ho cs (by rw [hρ _ _ hx];exact hc)) ?_;rintro _ w1 ⟨g,rfl,h1,h2,hb,hf⟩;exact k g w1 h1 (M.push hf _ hb (λg' hg'=>by simp only [As.blk,Au] at hg';subst hg';exact ⟨h1,h2⟩))
theorem kR {g:Nat} {t:Ly} {cs:Kx} {w w':Kw} (h:Fr (λk=>k=g) w w'):Fr (λk=>k∈(As.blk g t cs).fp) w w':=h.mono λk _ e=>by simp only [As.blk,Au];exact e
theorem FK (M:Mem w0 S L w) (i:Nat) (hw:Wn ops e o) (hd:o.dst=zx) {ty g off t:Nat} {x y:Lz} {cs cs':Kx} {v:Kv} (ho:o.op=.store ty x y) (hx:ev e x=G (.pointer (G ⟨g,off,zx⟩))) (hy:ev e y=G v) (hi:L[i]?=G (As.blk g t cs))
 (hv:v.cells = #[v]) (h1:v.oneCell'=zz) (hsz:(P.info? ty).map (·.size)=G 1) (hl:off<cs.length) (hcs:cs.set off v=cs')
 (k:∀w',Mem w0 S (L.set i (As.blk g t cs')) w'→SxL P ops Q n rest e w'):SxL P ops Q n (o::rest) e w:=by
 refine sxl_does zx hw hd X (λρ hρ=>ED ty x y ho g off t cs v (hρ _ _ hx) (hρ _ _ hy) hv (M.blk i hi) hsz hl h1) ?_;rintro _ w1 ⟨rfl,hb,hf⟩;subst hcs;exact k w1 (M.upd i hi (kR hf) (As.blk g t _) hb (λg' hg'=>.inl hg'))
theorem FJ (M:Mem w0 S L w) (i:Nat) (hw:Wn ops e o) (hd:o.dst=zx) {ty g off t m:Nat} {x y:Lz} {cs cs' new:Kx} (ho:o.op=.store ty x y) (hx:ev e x=G (.pointer (G ⟨g,off,zx⟩))) (hy:ev e y=G (.agg new.toArray)) (hi:L[i]?=G (As.blk g t cs))
 (hsz:(P.info? ty).map (·.size)=G m) (hm:new.length=m) (hl:off+m≤cs.length) (h1:∀u∈new,u.oneCell'=zz) (hcs:put cs off new=cs')
 (k:∀w',Mem w0 S (L.set i (As.blk g t cs')) w'→SxL P ops Q n rest e w'):SxL P ops Q n (o::rest) e w:=by
 subst hm;refine sxl_does zx hw hd X (λρ hρ=>BZ ty x y ho g off t cs new (hρ _ _ hx) (hρ _ _ hy) (M.blk i hi) hsz hl h1) ?_;rintro _ w1 ⟨rfl,hb,hf⟩;subst hcs;exact k w1 (M.upd i hi (kR hf) (As.blk g t _) hb (λg' hg'=>.inl hg'))
theorem K9 (M:Mem w0 S L w) {d t:Nat} (hw:Wn ops e o) (hd:o.dst=G d) (hn:Nat.blt d n=zz) (ho:o.op=.makeMap t zx)
 (k:∀g w',w.heap.size≤g→Mem w0 S (As.mp g []::L) w'→SxL P ops Q n rest ((d,.map (G g))::e) w'):SxL P ops Q n (o::rest) e w:=by
 refine sxl_does (G d) hw hd hn (λρ hρ=>U2 ho) ?_;rintro _ w1 ⟨g,rfl,h1,h2,hb,hf⟩;exact k g w1 h1 (M.push hf _ hb (λg' hg'=>by simp only [As.mp,Au] at hg';subst hg';exact ⟨h1,h2⟩))
theorem GR (M:Mem w0 S L w) (i:Nat) (hw:Wn ops e o) (hd:o.dst=zx) {t kt el g:Nat} {mp ix x:Lz} {key:Kz} {v:Kv} {K:List (Kz × Kv)} (ho:o.op=.mapUpdate t mp ix x) (hm:ev e mp=G (.map (G g))) (hx:ev e ix=G (str key)) (hv:ev e x=G v) (hu:P.underlying t=G (.map kt el)) (hk:P.underlying kt=G .string)
 (hi:L[i]?=G (As.mp g K)) (k:∀w',Mem w0 S (L.set i (As.mp g (DG K key v))) w'→SxL P ops Q n rest e w'):SxL P ops Q n (o::rest) e w:=by
 refine sxl_does zx hw hd X (λρ hρ=>GP ho (hρ _ _ hm) (hρ _ _ hx) (hρ _ _ hv) hu hk (M.mp i hi)) ?_;rintro _ w1 ⟨rfl,hf,hb⟩;exact k w1 (M.upd i hi (hf.mono λk _ e=>by simp only [As.mp,Au];exact e) (As.mp g _) hb (λg' hg'=>.inl hg'))
theorem ET (M:Mem w0 S L w) (i:Nat) (hw:Wn ops e o) (hd:o.dst=zx) {t kt el g:Nat} {mp ix x:Lz} {key:Kz} {v:Kv} {K:List (Kz × Kv)} (ho:o.op=.insert t mp ix x) (hm:ev e mp=G (.map (G g))) (hx:ev e ix=G (str key)) (hv:ev e x=G v) (hu:P.underlying t=G (.map kt el)) (hk:P.underlying kt=G .string)
 (hi:L[i]?=G (As.mp g K)) (k:∀w',Mem w0 S (L.set i (As.mp g (DG K key v))) w'→SxL P ops Q n rest e w'):SxL P ops Q n (o::rest) e w:=by
 refine sxl_does zx hw hd X (λρ hρ=>gU ho (hρ _ _ hm) (hρ _ _ hx) (hρ _ _ hv) hu hk (M.mp i hi)) ?_;rintro _ w1 ⟨rfl,hf,hb⟩;exact k w1 (M.upd i hi (hf.mono λk _ e=>by simp only [As.mp,Au];exact e) (As.mp g _) hb (λg' hg'=>.inl hg'))
theorem AC {c:Lz} {x y:Code} {b:Bool} (hc:ev e c=G (.bool b)) (h1:b=zz→Sx P x Q n e w) (h2:b=zy→Sx P y Q n e w):Sx P (Code.cond c x y) Q n e w:=by
 cases b
 ·exact sx_false hc (h2 X)
 exact sx_true hc (h1 X)
end
end
section
section
variable {α:Type}
def All (m:Nat) (l:List (List α)):Prop:=∀x∈l,x.length=m
theorem All.nil {m:Nat}:All m ([]:List (List α)):=λ_ h=>by cases h
theorem All.tail {m:Nat} {x:List α} {l:List (List α)} (h:All m (x::l)):All m l:=λy hy=>h y (Ax _ hy)
theorem All.head {m:Nat} {x:List α} {l:List (List α)} (h:All m (x::l)):x.length=m:=h x Bi
theorem P4 {m:Nat} {l:List (List α)} (h:All m l):l.flatten.length=l.length*m:=by
 induction l with
 | nil=>simp
 | cons x l ih=>rw [Ic,Am,ih h.tail,h.head,Al,Ij];omega
theorem cF {m:Nat} {l:List (List α)} (h:All m l) {i:Nat} {x:List α} (hx:l[i]?=G x):(l.flatten.drop (i*m)).take m=x:=by
 induction l generalizing i with
 | nil=>simp at hx
 | cons y l ih=>
  cases i with
  | zero=>
   simp only [Ak,Ai] at hx
   subst hx;rw [Ft,List.drop_zero,Ic];exact Hb h.head
  | succ i=>
   rw [Ic,show (i+1)*m=y.length+i*m from by rw [h.head,Ij];omega,←Gl,List.drop_left];exact ih h.tail (by simpa using hx)
end
end
section
theorem xX (n:Nat):IntKind.u8.wrap (n:Int)=((UInt8.ofNat n).toNat:Int):=by
 show (n:Int).emod _=_
 rw [UInt8.toNat_ofNat'];exact Int.natCast_emod n 256 |>.symm
theorem GL {x:Int} {n:Nat} (h:x=(n:Int)):IntKind.u8.wrap x=((UInt8.ofNat n).toNat:Int):=by subst h;exact xX n
theorem JG {n:Nat} (h:n<256):IntKind.i64.wrap (n:Int)=(n:Int):=IntWalk.i64_in _ ⟨A0,A0⟩
section
variable {P:Lw} {e:Env} {w:Kw} {o:Oper}
theorem sO (w:Kw) (src dst e:Ly) (hs:P.underlying src=G (.slice e)) (he:P.underlying e=G (.int .u8)) (hd:P.underlying dst=G .string)
 (A:Ky) (n c:Nat) (l:Kz) (hr:Rd w A n (bvs l)) :
 (convert src dst (.slice A n c)).run P w=.ok (str l) w:=by
 have hl:l.length=n:=by rw [←R6,hr.1]
 rcases Ex n with h0|h0
 ·have hx:l=[]:=Bl A0;subst hx;subst h0;rcases A with _|a
  ·rw [run_convert_bytes_nil w src e hs he 0 c dst hd];rfl
  rw [run_convert_bytes_string w src dst e _ 0 c hs he hd,run_bytesToString w a 0 c [] (by simp [loadCells,loadCellsFrom])];rfl
 obtain ⟨b,off,rfl,_⟩:=hr.2 h0
 have:=run_convert_bytes_arg (P:=P) w src e hs he b off n c (l.map λx=>(x.toNat:Int)) (by simpa using hl) (λi hi=>by
  obtain ⟨b',off',e',u,hu,hc⟩:=hr.at_ hi
  injection e' with e';injection e' with e1 e2 _;subst e1;subst e2
  rw [hc];have hil:i<l.length:=A0
  rw [cU,Av hil] at hu
  simp only [Dn,Ai] at hu
  subst hu
  simp [bv,hil]) dst hd
 rw [this];unfold str strOfNums
 congr 3
 rw [Gy];refine Bf List.toArray (Fm (g:=id) (λx _=>?_) |>.trans (List.map_id _))
 simp
theorem VX {s d el:Nat} {x:Lz} {A:Ky} {n c:Nat} {l:Kz} (ho:o.op=.convert s d x) (hx:ev e x=G (.slice A n c)) (hs:P.underlying s=G (.slice el)) (he:P.underlying el=G (.int .u8)) (hd:P.underlying d=G .string) (hr:Rd w A n (bvs l)):Y P e o w (str l):=λρ h=>by
 unfold execOp
 simp [ho,h _ _ hx,sO w s d el hs he hd A n c l hr]
theorem ON {t:Nat} {x i j:Lz} {l:Kz} {k k':IntKind} {a b:Nat} (ho:o.op=.slice t x (G i) (G j) zx) (hx:ev e x=G (str l)) (hi:ev e i=G (.int k (a:Int))) (hj:ev e j=G (.int k' (b:Int))) (ht:P.underlying t=G .string) (hab:a≤b) (hb:b≤l.length):Y P e o w (str ((l.drop a).take (b-a))):=λρ h=>by
 have hs:(ByteArray.mk l.toArray).size=l.length:=by show l.toArray.size=_;simp
 unfold execOp
 simp [ho,h _ _ hx,h _ _ hi,h _ _ hj,str,Instr.sliceAt,Instr.slice,run_underlying ht,Instr.sliceBounds,Instr.sliceBound,asIntOf,hs,hab,hb,Lib.extract_eq]
theorem xM {t:Nat} {x i:Lz} {l:Kz} {k:IntKind} {a:Nat} (ho:o.op=.slice t x (G i) zx zx) (hx:ev e x=G (str l)) (hi:ev e i=G (.int k (a:Int))) (ht:P.underlying t=G .string) (ha:a≤l.length):Y P e o w (str (l.drop a)):=λρ h=>by
 have hs:(ByteArray.mk l.toArray).size=l.length:=by show l.toArray.size=_;simp
 have hd:(l.drop a).take (l.length-a)=l.drop a:=Fu (by rw [Ch];omega);unfold execOp
 simp [ho,h _ _ hx,h _ _ hi,str,Instr.sliceAt,Instr.slice,run_underlying ht,Instr.sliceBounds,Instr.sliceBound,asIntOf,hs,ha,Lib.extract_eq,hd]
theorem IU {t t':Nat} {a b:Kz} {x y:Lz} (ho:o.op=.binOp .neq t x y t') (hx:ev e x=G (str a)) (hy:ev e y=G (str b)):Y P e o w (.bool (!decide (a=b))):=λρ h=>by
 have h1:ρ x=.string ⟨a.toArray⟩:=h _ _ hx;have h2:ρ y=.string ⟨b.toArray⟩:=h _ _ hy;unfold execOp
 simp [ho,h1,h2,eqGuard_at_string,binOp,Op.stringOp]
 by_cases hab:a=b
 ·subst hab;simp
 simp [hab]
end
end
end Go.Proofs.YtppmdnmjepkfaaaGreatDoor
