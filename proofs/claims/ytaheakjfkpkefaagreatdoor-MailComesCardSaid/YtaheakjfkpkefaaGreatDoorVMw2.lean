/- Lemmas. -/
import Derived.Test.YtaheakjfkpkefaaGreatDoorVMw1
set_option maxHeartbeats 16000000
set_option maxRecDepth 100000
namespace Go.Proofs.YtaheakjfkpkefaaGreatDoor
open Go.RowKit
section
theorem Mem.fpIn {w:World} {F:List Nat} {L:List As} (M:Mem w (λk=>k∈F) L w) {i:Nat} {a:As} (hi:L[i]?=some a):∀g∈a.fp,g<w.heap.size∧g∈F:=λg hg=>by
 obtain ⟨h1,h2⟩:=M.lt i a hi g hg;refine ⟨h1,?_⟩;rcases h2 with h2|h2
 ·omega
 ·exact h2
theorem Mem.keepAll {w w':World} {F:List Nat} {L:List As} (M:Mem w (λk=>k∈F) L w) (hk:∀g∈F,g<w.heap.size→w'.heap[g]?=w.heap[g]?):Mem w' (λk=>k∈F) L w' where
 fr:=Fr.refl
 ok i a hi:=a.keep (λg hg hl=>hk g (M.fpIn hi g hg).2 hl) (M.ok i a hi)
 lt i a hi g hg:=by
  obtain ⟨h1,h2⟩:=M.fpIn hi g hg;refine ⟨?_,.inr h2⟩;have h3:w.heap[g]?=some w.heap[g]:=Array.getElem?_eq_getElem h1;exact (Array.getElem?_eq_some_iff.1 ((hk g h2 h1).trans h3)).1
 apart:=M.apart
section
variable {P:Program} {Q:Exit→Act→World→Prop} {n:Nat} {e:Env} {w w0:World} {S:Nat→Prop} {L:List As} {ops:Array Oper} {o:Oper} {rest:List Oper}
theorem kX (M:Mem w0 S L w) (i:Nat) {d:Nat} (hw:Wn ops e o) (hd:o.dst=some d) (hn:Nat.blt d n=true) {s x:Operand} {t el size bytes len m c:Nat} {z v:Value} {xs news:List Value} {A:Option Addr}
 (ho:o.op=.call { callee:=.builtin .append,args := #[s,x],argTypes := #[t,t] }) (hs:ev e s=some v) (hx:ev e x=some (.slice A m c)) (hi:L[i]?=some (As.own 0 el size v len xs)) (hr:Rd w A (m*size) news)
 (ht:P.underlying t=some (.slice el)) (hinf:(P.info? el).map (λi=>(i.zero,i.size,i.bytes))=some (some z,size,bytes)) (hzs:z.cells.size=size) (hpos:0<size) (h1:∀u∈news,u.oneCell'=true) (hsm:(len+m)*bytes≤140737488355328) (h63:len+m≤maxLen) {len':Nat} {xs':List Value} (hl':len+m=len') (hx':xs++news=xs')
 (k:∀A' c' w',Mem w0 S (L.set i (As.own 0 el size (.slice A' len' c') len' xs')) w'→SxL P ops Q n rest ((d,.slice A' len' c')::e) w'):SxL P ops Q n (o::rest) e w:=by
 subst hl';subst hx';have hown:=M.own i hi;refine sxl_does (some d) hw hd hn (λρ hρ=>CZ s x t ho 0 el z size bytes ht hinf hzs hpos v len xs (hρ _ _ hs) hown A m c news (hρ _ _ hx) hr h1 h63 hsm (Nat.zero_le _)) ?_;rintro v' w1 ⟨h1,h2,h3⟩;obtain ⟨A',c',rfl,_⟩:=DI h1;exact k A' c' w1 (M.appOwn i hi h1 h2 h3)
end
theorem Mem.splice {w0 w:World} {S:Nat→Prop} {L Ls:List As} {c:As} (M:Mem w0 S (c::Ls) w) (M2:Mem w (λk=>k∈c.fp) L w):Mem w0 S (L++Ls) w:=by
 have get:∀(i:Nat) (a:As),(L++Ls)[i]?=some a→(L[i]?=some a∧i<L.length)∨(L.length≤i∧(c::Ls)[i-L.length+1]?=some a):=λi a h=>by
  rcases Nat.lt_or_ge i L.length with hl|hl
  ·rw [List.getElem?_append_left hl] at h;exact .inl ⟨h,hl⟩
  ·rw [List.getElem?_append_right hl] at h;exact .inr ⟨hl,h⟩
 refine ⟨M.fr,?_,?_,?_⟩
 ·intro i a h;rcases get i a h with ⟨h,_⟩|⟨_,h⟩
  ·exact M2.ok i a h
  ·exact M.ok _ a h
 ·intro i a h g hg;rcases get i a h with ⟨h,_⟩|⟨_,h⟩
  ·exact M.lt 0 c X g (M2.fpIn h g hg).2
  ·exact M.lt _ a h g hg
 ·intro i j a b hi hj hne g hg hg';rcases get i a hi with ⟨hi,li⟩|⟨li,hi⟩
  ·rcases get j b hj with ⟨hj,_⟩|⟨_,hj⟩
   ·exact M2.apart i j a b hi hj hne g hg hg'
   ·exact M.apart 0 _ c b X hj AA g (M2.fpIn hi g hg).2 hg'
  ·rcases get j b hj with ⟨hj,_⟩|⟨lj,hj⟩
   ·exact M.apart _ 0 a c hi X AA g hg (M2.fpIn hj g hg').2
   ·exact M.apart _ _ a b hi hj AA g hg hg'
theorem Mem.joinL {w0 w:World} {S:Nat→Prop} (L:List As) {Ls:List As} (M:Mem w0 S (L++Ls) w) (c:As) (hok:c.ok w) (hfp:∀g∈c.fp,∃(i:Nat) (a:As),L[i]?=some a∧g∈a.fp):Mem w0 S (c::Ls) w:=by
 have up:∀(i:Nat) (a:As),L[i]?=some a→(L++Ls)[i]?=some a:=λi a h=>by rw [List.getElem?_append_left (List.getElem?_eq_some_iff.1 h).1];exact h
 have up2:∀(i:Nat) (a:As),Ls[i]?=some a→(L++Ls)[L.length+i]?=some a:=λi a h=>by rw [List.getElem?_append_right AA,Nat.add_sub_cancel_left];exact h
 refine ⟨M.fr,?_,?_,?_⟩
 ·intro i a h
  cases i with
  | zero=>simp only [List.getElem?_cons_zero,Option.some.injEq] at h;subst h;exact hok
  | succ i=>exact M.ok _ a (up2 i a (by simpa using h))
 ·intro i a h g hg
  cases i with
  | zero=>
   simp only [List.getElem?_cons_zero,Option.some.injEq] at h;subst h
   obtain ⟨j,b,hj,hb⟩:=hfp g hg;exact M.lt j b (up j b hj) g hb
  | succ i=>exact M.lt _ a (up2 i a (by simpa using h)) g hg
 ·intro i j a b hi hj hne g hg hg'
  cases i with
  | zero=>
   simp only [List.getElem?_cons_zero,Option.some.injEq] at hi;subst hi
   obtain ⟨k,d,hk,hd⟩:=hfp g hg
   cases j with
   | zero=>exact hne rfl
   | succ j=>exact M.apart k _ d b (up k d hk) (up2 j b (by simpa using hj)) (by have:=(List.getElem?_eq_some_iff.1 hk).1;omega) g hd hg'
  | succ i=>
   cases j with
   | zero=>
    simp only [List.getElem?_cons_zero,Option.some.injEq] at hj;subst hj
    obtain ⟨k,d,hk,hd⟩:=hfp g hg';exact M.apart _ k a d (up2 i a (by simpa using hi)) (up k d hk) (by have:=(List.getElem?_eq_some_iff.1 hk).1;omega) g hg hd
   | succ j=>exact M.apart _ _ a b (up2 i a (by simpa using hi)) (up2 j b (by simpa using hj)) AA g hg hg'
theorem Mem.self {w0 w:World} {S:Nat→Prop} {F:List Nat} (L:List As) {Ls:List As} (M:Mem w0 S (L++Ls) w) (hF:∀(i:Nat) (a:As),L[i]?=some a→∀g∈a.fp,g∈F):Mem w (λk=>k∈F) L w:=by
 have up:∀(i:Nat) (a:As),L[i]?=some a→(L++Ls)[i]?=some a:=λi a h=>by rw [List.getElem?_append_left (List.getElem?_eq_some_iff.1 h).1];exact h
 exact ⟨Fr.refl,λi a h=>M.ok i a (up i a h),λi a h g hg=>⟨(M.lt i a (up i a h) g hg).1,.inr (hF i a h g hg)⟩,λi j a b hi hj=>M.apart i j a b (up i a hi) (up j b hj)⟩
end
open Tryz
section
structure Mo where
 on:List Ar
 done:List Ar
 fired:List (List UInt8)
 came:Nat
def Mo.put (σ:Mo) (flow:List UInt8):Mo:=⟨σ.on++[(⟨flow,((σ.came+1:Nat):Int),0,[],false⟩:Ar)],σ.done,σ.fired,σ.came+1⟩
def Mo.fire (σ:Mo) (label:List UInt8):Mo:=⟨σ.on,σ.done,σ.fired++[label],σ.came⟩
def Mo.take (σ:Mo) (i:Nat):Mo:=⟨σ.on.eraseIdx i,σ.done,σ.fired,σ.came⟩
structure MvA where
 A:Option Addr
 a:Nat
 B:Option Addr
 b:Nat
 C:Option Addr
 c:Nat
abbrev sS (gc:Nat) (V:Option Addr) (vn vc:Nat) (x:MvA) (n1 n2 n3 cm:Nat):List Value:=[.pointer (some ⟨gc,0,none⟩),.slice V vn vc,.slice x.A n1 x.a,.slice x.B n2 x.b,.slice x.C n3 x.c,.int .i64 ((cm:Nat):Int)]
abbrev PH (gc:Nat) (V:Option Addr) (vn vc gx:Nat) (x:MvA) (on dn:List Ar) (fi:List (List UInt8)) (cm:Nat):List As:=[As.blk gx 137 (sS gc V vn vc x on.length dn.length fi.length cm),As.own 0 139 5 (.slice x.A on.length x.a) on.length (AD Ar.cells on),As.own 0 139 5 (.slice x.B dn.length x.b) dn.length (AD Ar.cells dn),As.own 0 9 1 (.slice x.C fi.length x.c) fi.length (AD C0 fi)]
structure MoN (w:World) (gc:Nat) (V:Option Addr) (vn vc gx:Nat) (σ:Mo) (F:List Nat):Prop where
 hgx:gx∈F
 lt:∀g∈F,g<w.heap.size
 ex:∃x:MvA,Mem w (λk=>k∈F) (PH gc V vn vc gx x σ.on σ.done σ.fired σ.came) w
theorem MoN.keep {w w':World} {gc:Nat} {V:Option Addr} {vn vc gx:Nat} {σ:Mo} {F:List Nat} (hk:∀g∈F,g<w.heap.size→w'.heap[g]?=w.heap[g]?) (h:MoN w gc V vn vc gx σ F):MoN w' gc V vn vc gx σ F:=by
 obtain ⟨hg,hl,x,M⟩:=h;refine ⟨hg,λg hgF=>?_,x,M.keepAll hk⟩;have h3:w.heap[g]?=some (w.heap[g]'(hl g hgF)):=Array.getElem?_eq_getElem (hl g hgF);exact (Array.getElem?_eq_some_iff.1 ((hk g hgF (hl g hgF)).trans h3)).1
def As.mo (gc:Nat) (V:Option Addr) (vn vc gx:Nat) (σ:Mo) (F:List Nat):As:=⟨F,λw=>MoN w gc V vn vc gx σ F,λh hb=>hb.keep h⟩
def QV (gc:Nat) (V:Option Addr) (vn vc gx:Nat) (σ:Mo) (F:List Nat) (w w':World):Prop:=∃F',MoN w' gc V vn vc gx σ F'∧(∀g∈F',g∈F∨(w.heap.size≤g∧g<w'.heap.size))∧Fr (λk=>k∈F) w w'
theorem m4 {b b' s n n' c c':Nat} {e:TypeId} {A:Option Addr} {xs ys:List Value}:∀g∈(As.own b e s (.slice A n c) n xs).fp,g∈(As.own b' e s (.slice A n' c') n' ys).fp:=λg hg=>by
 cases A with
 | none=>exact hg
 | some a=>exact hg
section
variable {w0 w w':World} {S:Nat→Prop} {Ls:List As} {gc vn vc gx:Nat} {V:Option Addr} {σ σ':Mo} {F F':List Nat}
theorem Mem.openMo (M:Mem w0 S (As.mo gc V vn vc gx σ F::Ls) w):∃x:MvA,Mem w0 S (PH gc V vn vc gx x σ.on σ.done σ.fired σ.came++Ls) w:=by
 obtain ⟨_,_,x,M2⟩:=(M.ok 0 _ X:MoN w gc V vn vc gx σ F);exact ⟨x,M.splice M2⟩
theorem Mem.closeMo {b1 b2 b3 cm n1 n2 n3:Nat} {A B C:Option Addr} {a b c:Nat} {on dn:List Ar} {fi:List (List UInt8)} (M:Mem w0 S (As.blk gx 137 [pg gc,.slice V vn vc,.slice A n1 a,.slice B n2 b,.slice C n3 c,AC (cm:Int)]::As.own b1 139 5 (.slice A n1 a) n1 (AD Ar.cells on)::As.own b2 139 5 (.slice B n2 b) n2 (AD Ar.cells dn)::As.own b3 9 1 (.slice C n3 c) n3 (AD C0 fi)::Ls) w) (e1:on.length=n1:=by rfl) (e2:dn.length=n2:=by rfl) (e3:fi.length=n3:=by rfl) :
 ∃F',Mem w0 S (As.mo gc V vn vc gx ⟨on,dn,fi,cm⟩ F'::Ls) w:=by
 subst e1;subst e2;subst e3;have M1:=M.upd 1 X Fr.refl (As.own 0 139 5 (.slice A on.length a) on.length (AD Ar.cells on)) (IX (M.own 1 X) (Nat.zero_le _)) (λ_ h=>.inl h);have M2:=M1.upd 2 X Fr.refl (As.own 0 139 5 (.slice B dn.length b) dn.length (AD Ar.cells dn)) (IX (M.own 2 X) (Nat.zero_le _)) (λ_ h=>.inl h);have M3:Mem w0 S (PH gc V vn vc gx ⟨A,a,B,b,C,c⟩ on dn fi cm++Ls) w:=M2.upd 3 X Fr.refl (As.own 0 9 1 (.slice C fi.length c) fi.length (AD C0 fi)) (IX (M.own 3 X) (Nat.zero_le _)) (λ_ h=>.inl h)
 have hin:∀(i:Nat) (d:As),(PH gc V vn vc gx ⟨A,a,B,b,C,c⟩ on dn fi cm)[i]?=some d→∀g∈d.fp,g∈(gx::((Value.slice A on.length a).ownBlock.toList++((Value.slice B dn.length b).ownBlock.toList++(Value.slice C fi.length c).ownBlock.toList))):=λi d hi g hg=>by
  match i,hi with
  | 0,hi=>simp only [List.getElem?_cons_zero,Option.some.injEq] at hi;subst hi;simp only [As.blk,List.mem_singleton] at hg;simp [hg]
  | 1,hi=>simp only [List.getElem?_cons_succ,List.getElem?_cons_zero,Option.some.injEq] at hi;subst hi;simp only [As.own] at hg;simp [hg]
  | 2,hi=>simp only [List.getElem?_cons_succ,List.getElem?_cons_zero,Option.some.injEq] at hi;subst hi;simp only [As.own] at hg;simp [hg]
  | 3,hi=>simp only [List.getElem?_cons_succ,List.getElem?_cons_zero,Option.some.injEq] at hi;subst hi;simp only [As.own] at hg;simp [hg]
 have hfp:∀g∈(gx::((Value.slice A on.length a).ownBlock.toList++((Value.slice B dn.length b).ownBlock.toList++(Value.slice C fi.length c).ownBlock.toList))),∃(i:Nat) (d:As),(PH gc V vn vc gx ⟨A,a,B,b,C,c⟩ on dn fi cm)[i]?=some d∧g∈d.fp:=λg hg=>by
  rcases List.mem_cons.1 hg with rfl|hg
  ·exact ⟨0,_,X,by simp [As.blk]⟩
  ·rcases List.mem_append.1 hg with hg|hg
   ·exact ⟨1,_,X,hg⟩
   ·rcases List.mem_append.1 hg with hg|hg
    ·exact ⟨2,_,X,hg⟩
    ·exact ⟨3,_,X,hg⟩
 have MS:=M3.self _ hin;refine ⟨_,M3.joinL _ (As.mo gc V vn vc gx ⟨on,dn,fi,cm⟩ _) (show MoN w gc V vn vc gx ⟨on,dn,fi,cm⟩ _ from ⟨List.mem_cons_self,λg hg=>?_,_,MS⟩) hfp⟩;obtain ⟨i,d,hi,hd⟩:=hfp g hg;exact (MS.lt i d hi g hd).1
theorem Mem.updMo (M:Mem w0 S Ls w) (i:Nat) (hi:Ls[i]?=some (As.mo gc V vn vc gx σ F)) (hN:MoN w' gc V vn vc gx σ' F') (hF:∀g∈F',g∈F∨(w.heap.size≤g∧g<w'.heap.size)) (hf:Fr (λk=>k∈F) w w'):Mem w0 S (Ls.set i (As.mo gc V vn vc gx σ' F')) w':=M.upd i hi hf _ hN hF
theorem Mem.oneMo (h:MoN w gc V vn vc gx σ F):Mem w (λk=>k∈F) [As.mo gc V vn vc gx σ F] w where
 fr:=Fr.refl
 ok i b hi:=by
  cases i with
  | zero=>simp only [List.getElem?_cons_zero,Option.some.injEq] at hi;subst hi;exact h
  | succ i=>simp at hi
 lt i b hi g hg:=by
  cases i with
  | zero=>simp only [List.getElem?_cons_zero,Option.some.injEq] at hi;subst hi;exact ⟨h.lt g hg,.inr hg⟩
  | succ i=>simp at hi
 apart i j b c hi hj hij:=by
  cases i with
  | zero=>cases j with
   | zero=>exact absurd rfl hij
   | succ j=>simp at hj
  | succ i=>simp at hi
theorem GX (M:Mem w (λk=>k∈F) (As.mo gc V vn vc gx σ F'::Ls) w'):QV gc V vn vc gx σ F w w':=
 ⟨F',M.ok 0 _ rfl,λg hg=>by
  obtain ⟨h1,h2⟩:=M.lt 0 _ X g hg;rcases h2 with h2|h2
  ·exact .inr ⟨h2,h1⟩
  ·exact .inl h2,M.fr⟩
end
theorem NS (a0:List UInt8) (a1:Int):prog.built 139 [(0,str a0),(1,AC a1)]=some #[str a0,AC a1,AC 0,str [],.bool false]:=by kernel_rfl
theorem HZ : (prog.info? 139).map (λi=>(i.zero,i.size))=some (some (.agg #[str [],AC 0,AC 0,str [],.bool false]),5):=by kernel_rfl
theorem FG : (prog.info? 135).map (·.size)=some 1:=by kernel_rfl
theorem WC : (prog.info? 48).map (·.size)=some 1:=by kernel_rfl
theorem O9 (gc:Nat) (V:Option Addr) (vn vc gx:Nat) (σ:Mo) (F:List Nat) (flow:List UInt8) (w:World) (h1:σ.on.length≤1000000) (h2:σ.came≤1000000000) (hN:MoN w gc V vn vc gx σ F) :
 Calls prog 53 #[pg gx,str flow] w λe w'=>e=.returned (.tuple #[])∧QV gc V vn vc gx (σ.put flow) F w w':=by
 obtain ⟨on,dn,fi,cm⟩:=σ
 dsimp only at h1 h2
 refine sx_enter (vs:=[_,_]) func53 X ntmps53 X ?_;have M:Mem w (λk=>k∈F) [As.mo gc V vn vc gx (⟨on,dn,fi,cm⟩:Mo) F] w:=Mem.oneMo hN;refine AE X (AV X X ?_);obtain ⟨x1,M⟩:=Mem.openMo M
 replace M:Mem w (λk=>k∈F) [As.blk gx 137 [pg gc,.slice V vn vc,.slice x1.A on.length x1.a,.slice x1.B dn.length x1.b,.slice x1.C fi.length x1.c,AC (cm:Int)],As.own 0 139 5 (.slice x1.A on.length x1.a) on.length (AD Ar.cells on),As.own 0 139 5 (.slice x1.B dn.length x1.b) dn.length (AD Ar.cells dn),As.own 0 9 1 (.slice x1.C fi.length x1.c) fi.length (AD C0 fi)] w:=M
 refine AU M 0 X X X (BV X X (AV X X (gp1 M 0 X X X GI λw1 M=>nq (EH 13 (λw'=>Mem w (λk=>k∈F) [As.blk gx 137 [pg gc,.slice V vn vc,.slice x1.A on.length x1.a,.slice x1.B dn.length x1.b,.slice x1.C fi.length x1.c,AC ((cm+1:Nat):Int)],As.own 0 139 5 (.slice x1.B dn.length x1.b) dn.length (AD Ar.cells dn),As.own 0 9 1 (.slice x1.C fi.length x1.c) fi.length (AD C0 fi)] w') CH ?_))));have M:=M.drew;refine oc 0 13 X X (M.pk [0,2,3]) (oc 1 13 X X (M.pk [0,2,3]) (oc 2 13 X X (M.pk [0,2,3]) (oc 3 13 X X (M.pk [0,2,3]) (ol 4 13 X X X (M.pk [0,2,3]) (λ_ M=>(M.cell 0 X X)) (oc 5 13 X X (M.pk [0,2,3]) (oc 6 13 X X (M.pk [0,2,3]) (oc 7 13 X X (M.pk [0,2,3]) (oc 8 13 X X (M.pk [0,2,3]) (ol 9 13 X X X (M.pk [0,2,3]) (λ_ M=>(M.cell 0 X X)) (oa 10 13 X X (M.pk [0,2,3]) (λ_ M=>AY (parts:=[(0,_),(1,_)]) X X (NS _ _)) (B2 11 (some 22) gkr X (wn_none X) X X (λρ hρ=>D3 [.agg #[str flow,AC ((cm+1:Nat):Int),AC 0,str [],.bool false]] _ hρ X X X X underlying135 HZ B3 B3 (FP X)) ?_)))))))))));rintro _ w2 ⟨g22,rfl,hg22,hq22,hb22,hfw2⟩
 replace hb22:Blk w2 g22 139 ([str flow,AC ((cm+1:Nat):Int),AC 0,str [],.bool false]):=hb22
 refine ⟨λ_=>(M.pk [0,2,3]).step hfw2,?_⟩;have M:=M.push hfw2 _ hb22 (DO hg22 hq22)
 replace M:Mem w (λk=>k∈F) (As.blk g22 139 ([str flow,AC ((cm+1:Nat):Int),AC 0,str [],.bool false])::_) w2:=M
 refine B2 12 (some 23) gkr X (wn_none X) X X (λρ hρ=>CZ _ _ _ X 0 _ _ _ _ underlying135 EP X B3 _ _ _ (hρ _ _ X) (M.own 2 X) _ _ _ _ (hρ _ _ X) (M.rdBlk 0 X X) (CL X) (by unfold maxLen;first|omega|(simp only [List.length_append,List.length_cons,List.length_nil];omega)) C2 (Nat.zero_le _)) ?_;rintro v23 w3 ⟨ho23,hgr23,hvb23⟩
 replace ho23:World.ownsRow w3 0 139 5 v23 ((on++[(⟨flow,((cm+1:Nat):Int),0,[],false⟩:Ar)]).length) (AD Ar.cells (on++[(⟨flow,((cm+1:Nat):Int),0,[],false⟩:Ar)])):=by rw [show ((on++[(⟨flow,((cm+1:Nat):Int),0,[],false⟩:Ar)]).length)=on.length+1 from by first|(simp only [List.length_append,List.length_cons,List.length_nil];omega)|simp only [List.length_append,List.length_cons,List.length_nil],show (AD Ar.cells (on++[(⟨flow,((cm+1:Nat):Int),0,[],false⟩:Ar)]))=(AD Ar.cells on)++[str flow,AC ((cm+1:Nat):Int),AC 0,str [],.bool false] from by first|exact B9 _ _ _|simp [AD]];exact ho23
 have M:=M.appOwn 2 X ho23 hgr23 hvb23;obtain ⟨A23,c23,rfl,_⟩:=DI ho23;refine ⟨λ_=>(M.pk [1,3,4]),fo1 13 X X (yp X) (fo1 14 X X (yp X) (B2 15 none gkr X (wn_none X) X X (λρ hρ=>CU 135 _ _ X gx 2 137 _ (.slice A23 ((on++[(⟨flow,((cm+1:Nat):Int),0,[],false⟩:Ar)]).length) c23) (hρ _ _ X) (hρ _ _ X) X (M.blk 1 X) FG (CO X) X) ?_))⟩;rintro _ w4 ⟨rfl,hbw4,hfw4⟩
 replace M:Mem w (λk=>k∈F) (List.set _ 1 (As.blk gx 137 [pg gc,.slice V vn vc,.slice A23 ((on++[(⟨flow,((cm+1:Nat):Int),0,[],false⟩:Ar)]).length) c23,.slice x1.B dn.length x1.b,.slice x1.C fi.length x1.c,AC ((cm+1:Nat):Int)])) w4:=M.putB 1 rfl hbw4 hfw4
 refine ⟨λh=>absurd h B3,fdn (qx_ret0 (Or.inr X) X ?_)⟩;obtain ⟨F3,M⟩:=Mem.closeMo (M.pk [1,2,3,4,0]);exact ⟨X,GX (M.pk [0])⟩
theorem LG (gc:Nat) (V:Option Addr) (vn vc gx:Nat) (σ:Mo) (F:List Nat) (label:List UInt8) (w:World) (h1:σ.fired.length≤1000000) (hN:MoN w gc V vn vc gx σ F) :
 Calls prog 180 #[pg gx,str label] w λe w'=>e=.returned (.tuple #[])∧QV gc V vn vc gx (σ.fire label) F w w':=by
 obtain ⟨on,dn,fi,cm⟩:=σ
 dsimp only at h1
 refine sx_enter (vs:=[_,_]) func180 X ntmps180 X ?_;have M:Mem w (λk=>k∈F) [As.mo gc V vn vc gx (⟨on,dn,fi,cm⟩:Mo) F] w:=Mem.oneMo hN;refine sx_region ?_;iterate 4 refine yb X ?_
 obtain ⟨x1,M⟩:=Mem.openMo M
 replace M:Mem w (λk=>k∈F) [As.blk gx 137 [pg gc,.slice V vn vc,.slice x1.A on.length x1.a,.slice x1.B dn.length x1.b,.slice x1.C fi.length x1.c,AC (cm:Int)],As.own 0 139 5 (.slice x1.A on.length x1.a) on.length (AD Ar.cells on),As.own 0 139 5 (.slice x1.B dn.length x1.b) dn.length (AD Ar.cells dn),As.own 0 9 1 (.slice x1.C fi.length x1.c) fi.length (AD C0 fi)] w:=M
 refine AU M 0 X X X (yb X (CN M (wn_none X) X X [str label] ([str label]) X X X X underlying48 CS X X (FP X) X λg10 w1 hg10 M=>kX (len':=(fi++[label]).length) (xs':=AD C0 (fi++[label])) M 4 (wn_none X) X X X X X X (M.rdBlk 0 X X) underlying48 D0 X B3 (CL X) C2 (by unfold maxLen;first|omega|(simp only [List.length_append,List.length_cons,List.length_nil];omega)) (by simp) (by first|exact (B9 _ _ _).symm|simp [AD,C0]) λA11 c11 w2 M=>AV X X (gp1 M 1 X X X WC λw3 M=>sxl_nil (qx_ret0 (Or.inr X) X ?_))));obtain ⟨F3,M⟩:=Mem.closeMo (M.pk [1,2,3,4,0]);exact ⟨X,GX (M.pk [0])⟩
theorem L3 (gc:Nat) (V:Option Addr) (vn vc gx:Nat) (σ:Mo) (F:List Nat) (i:Nat) (w:World) (h1:σ.on.length≤1000000) (h2:i<σ.on.length) (hN:MoN w gc V vn vc gx σ F) :
 Calls prog 181 #[pg gx,AC (i:Int)] w λe w'=>e=.returned (.tuple #[])∧QV gc V vn vc gx (σ.take i) F w w':=by
 obtain ⟨on,dn,fi,cm⟩:=σ
 dsimp only at h1 h2
 refine sx_enter (vs:=[_,_]) func181 X ntmps181 X ?_;have M:Mem w (λk=>k∈F) [As.mo gc V vn vc gx (⟨on,dn,fi,cm⟩:Mo) F] w:=Mem.oneMo hN;refine sx_region ?_;iterate 4 refine yb X ?_
 obtain ⟨x1,M⟩:=Mem.openMo M
 replace M:Mem w (λk=>k∈F) [As.blk gx 137 [pg gc,.slice V vn vc,.slice x1.A on.length x1.a,.slice x1.B dn.length x1.b,.slice x1.C fi.length x1.c,AC (cm:Int)],As.own 0 139 5 (.slice x1.A on.length x1.a) on.length (AD Ar.cells on),As.own 0 139 5 (.slice x1.B dn.length x1.b) dn.length (AD Ar.cells dn),As.own 0 9 1 (.slice x1.C fi.length x1.c) fi.length (AD C0 fi)] w:=M
 refine AU M 0 X X X (cl 9 X (AG X X call97) (eP x1.A x1.a on _ AA (M.rdOwn 1 X)) ?_);rintro _ w1 ⟨A9,c9,rfl,how1,hfw1⟩;refine ⟨_,X,?_⟩;have M:=M.pushOwn hfw1 (Nat.le_refl _) how1;refine AV X X (BV X X (cl 13 X (AG X X call200) (yX _ A9 c9 i on _ (M.own 0 X) AA) ?_));rintro _ w2 ⟨rfl,how2,hfw2⟩;refine ⟨_,X,?_⟩;have M:=M.upd 0 X hfw2 (As.own _ 139 5 (.slice A9 (on.eraseIdx i).length c9) (on.eraseIdx i).length (AD Ar.cells (on.eraseIdx i))) how2 (λg hg=>.inl (m4 g hg));refine AV X X (gp1 M 1 X X X FG λw3 M=>sxl_nil (qx_ret0 (Or.inr X) X ?_));obtain ⟨F2,M⟩:=Mem.closeMo (M.pk [1,0,3,4]);exact ⟨X,GX (M.pk [0])⟩
end
end Go.Proofs.YtaheakjfkpkefaaGreatDoor
