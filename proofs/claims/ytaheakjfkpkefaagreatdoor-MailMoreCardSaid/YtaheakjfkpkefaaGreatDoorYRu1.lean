/- Lemmas that the last text rests on. Condition: each says its own. -/
import Derived.Test.YtaheakjfkpkefaaGreatDoorYb4
set_option maxHeartbeats 16000000
set_option maxRecDepth 100000
namespace Go.Proofs.YtaheakjfkpkefaaGreatDoor
open Go.RowKit
open Tryz
def B3 : List El → List UInt8 → Option El
 | [], _ => none
 | x :: r, k => if x.id = k then some x else B3 r k
def DG (l : List Fl) (k : List UInt8) : List Fl := l.filter fun f => decide (f.tg = k)
def BI (l : List Fl) (k : List UInt8) : List Fl := l.filter fun f => decide (f.frm = k)
structure IxA where
 gE : Nat
 gI : Nat
 gO : Nat
 LE : List (List UInt8 × Value)
 LI : List (List UInt8 × Value)
 LO : List (List UInt8 × Value)
 iA : List UInt8 → Option Addr
 iC : List UInt8 → Nat
 oA : List UInt8 → Option Addr
 oC : List UInt8 → Nat
def Ix.cells (m : Md) (a : MdA) (x : IxA) : List Value := [str m.id, str m.nm, .slice a.V m.vars.length a.vc, .slice a.E m.els.length a.ec, .slice a.F m.fls.length a.fc, .map (some x.gE), .map (some x.gI), .map (some x.gO)]
def elV (x : El) : Value := .agg x.cells.toArray
structure IxAt (w : World) (m : Md) (a : MdA) (x : IxA) (gx : Nat) : Prop where
 md : MdIn w m a
 blk : Blk w gx 199 (Ix.cells m a x)
 E : Mp w x.gE x.LE
 I : Mp w x.gI x.LI
 O : Mp w x.gO x.LO
 getE : ∀ k, (BP x.LE k).getD (.agg zeroEl.cells.toArray) = .agg ((B3 m.els k).getD zeroEl).cells.toArray
 isE : ∀ k, (BP x.LE k).isSome = (B3 m.els k).isSome
 getI : ∀ k, (BP x.LI k).getD (.slice none 0 0) = .slice (x.iA k) (DG m.fls k).length (x.iC k)
 getO : ∀ k, (BP x.LO k).getD (.slice none 0 0) = .slice (x.oA k) (BI m.fls k).length (x.oC k)
 rdI : ∀ k, Rd w (x.iA k) ((DG m.fls k).length * 4) (AB Fl.cells (DG m.fls k))
 rdO : ∀ k, Rd w (x.oA k) ((BI m.fls k).length * 4) (AB Fl.cells (BI m.fls k))
theorem IxAt.fr0 {w w' : World} {m : Md} {a : MdA} {x : IxA} {gx : Nat} (h : IxAt w m a x gx) (hf : Fr0 w w') : IxAt w' m a x gx :=
 ⟨h.md.fr0 hf, h.blk.fr0 hf, h.E.fr hf (fun hh => hh), h.I.fr hf (fun hh => hh), h.O.fr hf (fun hh => hh), h.getE, h.isE, h.getI, h.getO, fun k => (h.rdI k).fr0 hf, fun k => (h.rdO k).fr0 hf⟩
theorem FH (l : List Fl) (k : List UInt8) : (DG l k).length ≤ l.length := List.length_filter_le _ _
theorem DR (l : List Fl) (k : List UInt8) : (BI l k).length ≤ l.length := List.length_filter_le _ _
theorem G3 {α : Type} {P : Program} {f : FuncId} {cs : List Value} {av : α → Value} {l : List α} {p : α → Bool} {w : World} (fn : ∀ (ar : Array Value) (w : World), (callFunc f ar).run P w = .ok (.enter f ar) w)
 (h : ∀ x ∈ l, ∀ w1, Fr0 w w1 → Calls P f (av x :: cs).toArray w1 fun e w2 => e = .returned (.bool (p x)) ∧ Fr0 w1 w2) : PredJ P f cs av l (fun _ => p) AM (fun _ _ => True) w where
 fn := fn
 call _ x w1 hx hf _ := (h x (List.mem_of_getElem? hx) w1 hf).mono fun _ _ ⟨h1, h2⟩ => ⟨h1, trivial, h2⟩
 st _ _ _ _ h := h
 old _ h := h.elim
theorem QR {e : Env} {w : World} {o : Oper} {x : Operand} {b : El} (ho : o.op = .field 95 x 2) (hx : ev e x = some (.agg b.cells.toArray)) : Y prog e o w (.int .u8 (b.kind.toNat : Int)) := fun ρ h => by
 unfold execOp
 simp [ho, h _ _ hx, Instr.field, run_underlying underlying95, asAgg, part, isAgg5, El.cells]
def El.same (a b : El) : Bool := decide (a.id = b.id) && (decide (a.nm = b.nm) && (decide ((a.kind.toNat : Int) = (b.kind.toNat : Int)) && (decide (a.inn = b.inn) && (decide (a.dflt = b.dflt) && (decide (a.att = b.att) && (decide ((a.ev.toNat : Int) = (b.ev.toNat : Int)) && (decide (a.ref = b.ref) && (decide (a.key = b.key) && (decide (a.ticks = b.ticks) && decide (a.tries = b.tries))))))))))
theorem kU : prog.eqGuardType prog.depth 95 = false := by kernel_rfl
theorem oW : prog.stoodInHeld 95 = false := by kernel_rfl
theorem dW : prog.underlying 95 = some (.struct (prog.fieldsOf 95)) := by kernel_rfl
theorem KG {P : Program} {w : World} {d : Nat} {xs ys : Array Value} : (Op.eqFields d xs ys []).run P w = .ok true w := rfl
theorem DS {P : Program} {w : World} {m : Sem Bool} {r s : Bool} (h : m.run P w = .ok s w) : (if r = true then m.run P w else .ok false w) = .ok (r && s) w := by cases r <;> simp [h]
theorem XO {e : Env} {w : World} {o : Oper} {t' : Nat} {x y : Operand} {a b : El} (ho : o.op = .binOp .eql 95 x y t') (hx : ev e x = some (.agg a.cells.toArray)) (hy : ev e y = some (.agg b.cells.toArray)) : Y prog e o w (.bool (a.same b)) := fun ρ h => by
 have h1 : ρ x = .agg a.cells.toArray := h _ _ hx
 have h2 : ρ y = .agg b.cells.toArray := h _ _ hy
 have hg := run_eqGuard_agg (P := prog) w .eql 95 x y a.cells.toArray b.cells.toArray kU
 have s_ : ∀ (u v : List UInt8), (Op.equalIn 9999 9 (str u) (str v)).run prog w = .ok (decide (u = v)) w := fun u v => by
  have := run_equalIn_string (P := prog) w 9998 9 ⟨u.toArray⟩ ⟨v.toArray⟩ underlying9
  unfold str
  rw [this, ByteArray.toList_eq, ByteArray.toList_eq]
  by_cases huv : u = v <;> simp [huv]
 have i_ : ∀ (t : Nat) (k : IntKind) (u v : Int), prog.underlying t = some (.int k) → (Op.equalIn 9999 t (.int k u) (.int k v)).run prog w = .ok (decide (u = v)) w := fun t k u v ht => by
  have := run_equalIn_int (P := prog) w 9998 t k k u v ht
  rw [this]; by_cases huv : u = v <;> simp [huv]
 have hrun : (Op.equalIn 10000 95 (.agg a.cells.toArray) (.agg b.cells.toArray)).run prog w = .ok (a.same b) w := by
  rw [run_equalIn_struct w 9999 95 _ _ dW oW]
  have hl : (prog.fieldsOf 95).toList = (match prog.underlying 95 with | some (.struct fs) => fs.toList | _ => []) := by unfold Program.fieldsOf; rw [underlying95]
  rw [hl, underlying95]
  simp only
  have S_ := isAgg9 w
  have U_ := isAgg5 w
  have N_ := isAgg3 w
  rw [B4 (a := str a.id) (b := str b.id) AU (AZ S_ rfl) (AZ S_ rfl) (s_ _ _)]
  refine DS ?_
  rw [B4 (a := str a.nm) (b := str b.nm) AU (AZ S_ rfl) (AZ S_ rfl) (s_ _ _)]
  refine DS ?_
  rw [B4 (a := .int .u8 (a.kind.toNat : Int)) (b := .int .u8 (b.kind.toNat : Int)) AU (AZ U_ rfl) (AZ U_ rfl) (i_ _ _ _ _ underlying5)]
  refine DS ?_
  rw [B4 (a := str a.inn) (b := str b.inn) AU (AZ S_ rfl) (AZ S_ rfl) (s_ _ _)]
  refine DS ?_
  rw [B4 (a := str a.dflt) (b := str b.dflt) AU (AZ S_ rfl) (AZ S_ rfl) (s_ _ _)]
  refine DS ?_
  rw [B4 (a := str a.att) (b := str b.att) AU (AZ S_ rfl) (AZ S_ rfl) (s_ _ _)]
  refine DS ?_
  rw [B4 (a := .int .u8 (a.ev.toNat : Int)) (b := .int .u8 (b.ev.toNat : Int)) AU (AZ U_ rfl) (AZ U_ rfl) (i_ _ _ _ _ underlying5)]
  refine DS ?_
  rw [B4 (a := str a.ref) (b := str b.ref) AU (AZ S_ rfl) (AZ S_ rfl) (s_ _ _)]
  refine DS ?_
  rw [B4 (a := str a.key) (b := str b.key) AU (AZ S_ rfl) (AZ S_ rfl) (s_ _ _)]
  refine DS ?_
  rw [B4 (a := AA a.ticks) (b := AA b.ticks) AU (AZ N_ rfl) (AZ N_ rfl) (i_ _ _ _ _ underlying3)]
  refine DS ?_
  rw [B4 (a := AA a.tries) (b := AA b.tries) AU (AZ N_ rfl) (AZ N_ rfl) (i_ _ _ _ _ underlying3)]
  rw [KG]
  cases decide (a.tries = b.tries) <;> rfl
 unfold execOp
 simp only [ho, h1, h2, Sem.run_bind, hg, Result.andThen_ok, run_eql_struct, hrun]
 rfl
theorem MZ {α : Type} {p : Nat → α → Bool} {l : List α} (h : ixJ (fun i x => !(p i x)) 0 l < 0) : ffN p 0 l = none := by
 rcases UT p l 0 with ⟨_, h2⟩ | ⟨j, x, h1, _, _⟩
 ·exact h2
 ·rw [h1] at h; omega
theorem N0 {α : Type} {p : Nat → α → Bool} {l : List α} (h : ¬ ixJ (fun i x => !(p i x)) 0 l < 0) : ∃ j x, ixJ (fun i x => !(p i x)) 0 l = ((j : Nat) : Int) ∧ l[j]? = some x ∧ ffN p 0 l = some x := by
 rcases UT p l 0 with ⟨h1, _⟩ | ⟨j, x, h1, h2, h3⟩
 ·rw [h1] at h; omega
 ·rw [Nat.zero_add] at h1; exact ⟨j, x, h1, h2, h3⟩
theorem t7 (x : El) (w : World) : Calls prog 111 #[.agg x.cells.toArray] w (BN w (str x.id)) := by
 refine BL func111 ntmps111 rfl fun M => srg (DD M rfl rfl fun g1 w1 hg1 M => AG rfl (AC rfl (B2 M 0 rfl rfl rfl (yb rfl (gnr ?_)))))
 exact gr1 rfl ⟨rfl, M.fr⟩
theorem t6 (x : Fl) (w : World) : Calls prog 114 #[.agg x.cells.toArray] w (BN w (str x.id)) := by
 refine BL func114 ntmps114 rfl fun M => srg (DD M rfl rfl fun g1 w1 hg1 M => AG rfl (AC rfl (B2 M 0 rfl rfl rfl (yb rfl (gnr ?_)))))
 exact gr1 rfl ⟨rfl, M.fr⟩
theorem t8 (x : Bd) (w : World) : Calls prog 108 #[.agg x.cells.toArray] w (BN w (str x.name)) := by
 refine BL func108 ntmps108 rfl fun M => srg (DD M rfl rfl fun g1 w1 hg1 M => AG rfl (AC rfl (B2 M 0 rfl rfl rfl (yb rfl (gnr ?_)))))
 exact gr1 rfl ⟨rfl, M.fr⟩
theorem rP (x : List UInt8) (w : World) : Calls prog 123 #[str x] w (BN w (str x)) := by
 exact BL func123 ntmps123 rfl fun M => srg (AG rfl (AC rfl (yb rfl (gnr (gr1 rfl ⟨rfl, M.fr⟩)))))
theorem r7 (g : FuncId) (cs : List Value) (g5 : Nat) (x : El) (b : Bool) (K : World → Prop) (w : World) (hb : Blk w g5 154 [.func (.func g) #[] cs.toArray]) (hfn : ∀ (ar : Array Value) (w : World), (callFunc g ar).run prog w = .ok (.enter g ar) w)
 (hc : ∀ w3, Fr0 w w3 → Calls prog g (.agg x.cells.toArray :: cs).toArray w3 fun e w' => e = .returned (.bool b) ∧ K w') : Calls prog 161 #[.agg x.cells.toArray, pg g5] w fun e w' => e = .returned (.bool (!b)) ∧ K w' := by
 refine BL func161 ntmps161 rfl fun M => srg (DD M rfl rfl fun g2 w1 hg2 M => AG rfl (srg (yl rfl rfl (Blk.c (hb.fr0 M.fr) 0 rfl) (DO M 0 rfl rfl underlying95 AK rfl (cl 6 rfl (BC rfl rfl rfl hfn) (hc _ M.fr) ?_)))))
 rintro _ w9 ⟨rfl, hK⟩
 exact ⟨_, rfl, AV rfl rfl (gnr (gr1 rfl ⟨rfl, hK⟩))⟩
theorem nT {l : List (El)} {g : FuncId} {cs : List Value} {p : Nat → El → Bool} {S : Nat → Prop} {J : Nat → World → Prop} {w w1 : World} {g5 : Nat} (hP : PredJ prog g cs (fun x : El => .agg x.cells.toArray) l p S J w) (hf : Fr0 w w1) (hg : w.heap.size ≤ g5) (hb : Blk w1 g5 154 [.func (.func g) #[] cs.toArray]) :
 PredJ prog 161 [pg g5] (fun x : El => .agg x.cells.toArray) l (fun i x => !(p i x)) S J w1 where
 fn := call161
 call i x w2 hx hf2 hJ := by
  have hn : ¬ S g5 := fun h => by have := hP.old g5 h; omega
  exact r7 g cs g5 x (p i x) (fun w' => J (i + 1) w' ∧ Fr S w2 w') w2 (hb.fr hf2 hn) hP.fn fun w3 hf3 =>
   (hP.call i x w3 hx ((Fr.of0 hf).trans (hf2.then0 hf3)) (hP.st i w2 w3 hf3 hJ)).mono fun _ _ ⟨h1, h2, h3⟩ => ⟨h1, h2, (Fr.of0 hf3).trans h3⟩
 st := hP.st
 old s hs := Nat.lt_of_lt_of_le (hP.old s hs) hf.size
theorem X4 (A : Option Addr) (c : Nat) (l : List (El)) (hl : l.length ≤ 4611686018427387904) (g : FuncId) (cs : List Value) (p : Nat → El → Bool) (S : Nat → Prop) (J : Nat → World → Prop) (w : World) (hP : PredJ prog g cs (fun x : El => .agg x.cells.toArray) l p S J w) (hR : ∀ w1, Fr S w w1 → Rd w1 A (l.length * 11) (AB El.cells l)) (hJ : J 0 w) :
 Calls prog 110 #[.slice A l.length c, .func (.func 111) #[] #[], .func (.func g) #[] cs.toArray] w fun e w' => e = .returned (.tuple #[str ((ffN p 0 l).elim [] (fun x => x.id)), .bool (ffN p 0 l).isSome]) ∧ J (ixN (fun i x => !(p i x)) 0 l) w' ∧ Fr S w w' := by
 refine BL func110 ntmps110 rfl fun M => srg (DB M (wn_none rfl) rfl rfl 154 rfl rfl ([.func (.func g) #[] cs.toArray]) rfl fun g5 w1 hg5 M => yb rfl (AG rfl (AC rfl (ya rfl (CE (us := []) (vs := [pg g5]) rfl rfl rfl) (cl 11 rfl (AE rfl rfl call63) (QG El.cells El.len A c l hl 161 [pg g5] (fun i x => !(p i x)) S J _ (nT hP M.fr hg5 (M.blk 0 rfl)) (fun w9 hf9 => hR w9 ((Fr.of0 M.fr).trans hf9)) (hP.st 0 _ _ M.fr hJ)) ?_)))))
 rintro _ w9 ⟨rfl, hJ9, hf9⟩
 refine ⟨_, rfl, ?_⟩
 have M : Mem w S [] w9 := Mem.ofFr ((Fr.of0 M.fr).trans hf9)
 refine AG rfl (sx_seq (AC rfl (BM rfl rfl (nq (AF rfl (fun h13 => ?_) (fun h13 => ?_))))))
 ·have h13p := (odt h13)
  have hff := MZ h13p
  exact AC rfl (yb rfl (gnr (qx_then_ret (BS rfl rfl rfl ⟨by rw [hff]; rfl, hJ9, M.fr⟩))))
 ·have h13p := (odf h13)
  obtain ⟨j, x, hj, hx, hff⟩ := N0 h13p
  have hjl : j < l.length := (List.getElem?_eq_some_iff.1 hx).1
  rw [hj]
  obtain ⟨b_x, o_x, hA_x⟩ := B7 (k := 11) A0 (hR _ M.fr) hx
  refine sx_skip (qx_seq (AC rfl (AV rfl rfl (ya rfl (AP j hA_x rfl rfl rfl (sl rfl) A0) (ya rfl (AH rfl rfl (BB El.len (hR _ M.fr) hA_x hx) underlying95 rfl AK) (cl 19 rfl (BC rfl rfl rfl call111) (t7 x _) ?_))))))
  rintro _ w10 ⟨rfl, hf10⟩
  exact ⟨_, rfl, AV rfl rfl (gnr (BS rfl rfl rfl ⟨by rw [hff]; rfl, hP.st _ _ _ hf10 hJ9, M.fr.then0 hf10⟩))⟩
theorem r6 (g : FuncId) (cs : List Value) (g5 : Nat) (x : Fl) (b : Bool) (K : World → Prop) (w : World) (hb : Blk w g5 163 [.func (.func g) #[] cs.toArray]) (hfn : ∀ (ar : Array Value) (w : World), (callFunc g ar).run prog w = .ok (.enter g ar) w)
 (hc : ∀ w3, Fr0 w w3 → Calls prog g (.agg x.cells.toArray :: cs).toArray w3 fun e w' => e = .returned (.bool b) ∧ K w') : Calls prog 163 #[.agg x.cells.toArray, pg g5] w fun e w' => e = .returned (.bool (!b)) ∧ K w' := by
 refine BL func163 ntmps163 rfl fun M => srg (DD M rfl rfl fun g2 w1 hg2 M => AG rfl (srg (yl rfl rfl (Blk.c (hb.fr0 M.fr) 0 rfl) (DO M 0 rfl rfl underlying109 C4 rfl (cl 6 rfl (BC rfl rfl rfl hfn) (hc _ M.fr) ?_)))))
 rintro _ w9 ⟨rfl, hK⟩
 exact ⟨_, rfl, AV rfl rfl (gnr (gr1 rfl ⟨rfl, hK⟩))⟩
theorem nS {l : List (Fl)} {g : FuncId} {cs : List Value} {p : Nat → Fl → Bool} {S : Nat → Prop} {J : Nat → World → Prop} {w w1 : World} {g5 : Nat} (hP : PredJ prog g cs (fun x : Fl => .agg x.cells.toArray) l p S J w) (hf : Fr0 w w1) (hg : w.heap.size ≤ g5) (hb : Blk w1 g5 163 [.func (.func g) #[] cs.toArray]) :
 PredJ prog 163 [pg g5] (fun x : Fl => .agg x.cells.toArray) l (fun i x => !(p i x)) S J w1 where
 fn := call163
 call i x w2 hx hf2 hJ := by
  have hn : ¬ S g5 := fun h => by have := hP.old g5 h; omega
  exact r6 g cs g5 x (p i x) (fun w' => J (i + 1) w' ∧ Fr S w2 w') w2 (hb.fr hf2 hn) hP.fn fun w3 hf3 =>
   (hP.call i x w3 hx ((Fr.of0 hf).trans (hf2.then0 hf3)) (hP.st i w2 w3 hf3 hJ)).mono fun _ _ ⟨h1, h2, h3⟩ => ⟨h1, h2, (Fr.of0 hf3).trans h3⟩
 st := hP.st
 old s hs := Nat.lt_of_lt_of_le (hP.old s hs) hf.size
theorem X3 (A : Option Addr) (c : Nat) (l : List (Fl)) (hl : l.length ≤ 4611686018427387904) (g : FuncId) (cs : List Value) (p : Nat → Fl → Bool) (S : Nat → Prop) (J : Nat → World → Prop) (w : World) (hP : PredJ prog g cs (fun x : Fl => .agg x.cells.toArray) l p S J w) (hR : ∀ w1, Fr S w w1 → Rd w1 A (l.length * 4) (AB Fl.cells l)) (hJ : J 0 w) :
 Calls prog 113 #[.slice A l.length c, .func (.func 114) #[] #[], .func (.func g) #[] cs.toArray] w fun e w' => e = .returned (.tuple #[str ((ffN p 0 l).elim [] (fun x => x.id)), .bool (ffN p 0 l).isSome]) ∧ J (ixN (fun i x => !(p i x)) 0 l) w' ∧ Fr S w w' := by
 refine BL func113 ntmps113 rfl fun M => srg (DB M (wn_none rfl) rfl rfl 163 rfl rfl ([.func (.func g) #[] cs.toArray]) rfl fun g5 w1 hg5 M => yb rfl (AG rfl (AC rfl (ya rfl (CE (us := []) (vs := [pg g5]) rfl rfl rfl) (cl 11 rfl (AE rfl rfl call162) (aG Fl.cells Fl.len A c l hl 163 [pg g5] (fun i x => !(p i x)) S J _ (nS hP M.fr hg5 (M.blk 0 rfl)) (fun w9 hf9 => hR w9 ((Fr.of0 M.fr).trans hf9)) (hP.st 0 _ _ M.fr hJ)) ?_)))))
 rintro _ w9 ⟨rfl, hJ9, hf9⟩
 refine ⟨_, rfl, ?_⟩
 have M : Mem w S [] w9 := Mem.ofFr ((Fr.of0 M.fr).trans hf9)
 refine AG rfl (sx_seq (AC rfl (BM rfl rfl (nq (AF rfl (fun h13 => ?_) (fun h13 => ?_))))))
 ·have h13p := (odt h13)
  have hff := MZ h13p
  exact AC rfl (yb rfl (gnr (qx_then_ret (BS rfl rfl rfl ⟨by rw [hff]; rfl, hJ9, M.fr⟩))))
 ·have h13p := (odf h13)
  obtain ⟨j, x, hj, hx, hff⟩ := N0 h13p
  have hjl : j < l.length := (List.getElem?_eq_some_iff.1 hx).1
  rw [hj]
  obtain ⟨b_x, o_x, hA_x⟩ := B7 (k := 4) A0 (hR _ M.fr) hx
  refine sx_skip (qx_seq (AC rfl (AV rfl rfl (ya rfl (AP j hA_x rfl rfl rfl (sl rfl) A0) (ya rfl (AH rfl rfl (BB Fl.len (hR _ M.fr) hA_x hx) underlying109 rfl C4) (cl 19 rfl (BC rfl rfl rfl call114) (t6 x _) ?_))))))
  rintro _ w10 ⟨rfl, hf10⟩
  exact ⟨_, rfl, AV rfl rfl (gnr (BS rfl rfl rfl ⟨by rw [hff]; rfl, hP.st _ _ _ hf10 hJ9, M.fr.then0 hf10⟩))⟩
theorem r8 (g : FuncId) (cs : List Value) (g5 : Nat) (x : Bd) (b : Bool) (K : World → Prop) (w : World) (hb : Blk w g5 203 [.func (.func g) #[] cs.toArray]) (hfn : ∀ (ar : Array Value) (w : World), (callFunc g ar).run prog w = .ok (.enter g ar) w)
 (hc : ∀ w3, Fr0 w w3 → Calls prog g (.agg x.cells.toArray :: cs).toArray w3 fun e w' => e = .returned (.bool b) ∧ K w') : Calls prog 160 #[.agg x.cells.toArray, pg g5] w fun e w' => e = .returned (.bool (!b)) ∧ K w' := by
 refine BL func160 ntmps160 rfl fun M => srg (DD M rfl rfl fun g2 w1 hg2 M => AG rfl (srg (yl rfl rfl (Blk.c (hb.fr0 M.fr) 0 rfl) (DO M 0 rfl rfl underlying103 DZ rfl (cl 6 rfl (BC rfl rfl rfl hfn) (hc _ M.fr) ?_)))))
 rintro _ w9 ⟨rfl, hK⟩
 exact ⟨_, rfl, AV rfl rfl (gnr (gr1 rfl ⟨rfl, hK⟩))⟩
theorem nU {l : List (Bd)} {g : FuncId} {cs : List Value} {p : Nat → Bd → Bool} {S : Nat → Prop} {J : Nat → World → Prop} {w w1 : World} {g5 : Nat} (hP : PredJ prog g cs (fun x : Bd => .agg x.cells.toArray) l p S J w) (hf : Fr0 w w1) (hg : w.heap.size ≤ g5) (hb : Blk w1 g5 203 [.func (.func g) #[] cs.toArray]) :
 PredJ prog 160 [pg g5] (fun x : Bd => .agg x.cells.toArray) l (fun i x => !(p i x)) S J w1 where
 fn := call160
 call i x w2 hx hf2 hJ := by
  have hn : ¬ S g5 := fun h => by have := hP.old g5 h; omega
  exact r8 g cs g5 x (p i x) (fun w' => J (i + 1) w' ∧ Fr S w2 w') w2 (hb.fr hf2 hn) hP.fn fun w3 hf3 =>
   (hP.call i x w3 hx ((Fr.of0 hf).trans (hf2.then0 hf3)) (hP.st i w2 w3 hf3 hJ)).mono fun _ _ ⟨h1, h2, h3⟩ => ⟨h1, h2, (Fr.of0 hf3).trans h3⟩
 st := hP.st
 old s hs := Nat.lt_of_lt_of_le (hP.old s hs) hf.size
theorem kO (A : Option Addr) (c : Nat) (l : List (Bd)) (hl : l.length ≤ 4611686018427387904) (g : FuncId) (cs : List Value) (p : Nat → Bd → Bool) (S : Nat → Prop) (J : Nat → World → Prop) (w : World) (hP : PredJ prog g cs (fun x : Bd => .agg x.cells.toArray) l p S J w) (hR : ∀ w1, Fr S w w1 → Rd w1 A (l.length * 5) (AB Bd.cells l)) (hJ : J 0 w) :
 Calls prog 107 #[.slice A l.length c, .func (.func 108) #[] #[], .func (.func g) #[] cs.toArray] w fun e w' => e = .returned (.tuple #[str ((ffN p 0 l).elim [] (fun x => x.name)), .bool (ffN p 0 l).isSome]) ∧ J (ixN (fun i x => !(p i x)) 0 l) w' ∧ Fr S w w' := by
 refine BL func107 ntmps107 rfl fun M => srg (DB M (wn_none rfl) rfl rfl 203 rfl rfl ([.func (.func g) #[] cs.toArray]) rfl fun g5 w1 hg5 M => yb rfl (AG rfl (AC rfl (ya rfl (CE (us := []) (vs := [pg g5]) rfl rfl rfl) (cl 11 rfl (AE rfl rfl call159) (QH Bd.cells Bd.len A c l hl 160 [pg g5] (fun i x => !(p i x)) S J _ (nU hP M.fr hg5 (M.blk 0 rfl)) (fun w9 hf9 => hR w9 ((Fr.of0 M.fr).trans hf9)) (hP.st 0 _ _ M.fr hJ)) ?_)))))
 rintro _ w9 ⟨rfl, hJ9, hf9⟩
 refine ⟨_, rfl, ?_⟩
 have M : Mem w S [] w9 := Mem.ofFr ((Fr.of0 M.fr).trans hf9)
 refine AG rfl (sx_seq (AC rfl (BM rfl rfl (nq (AF rfl (fun h13 => ?_) (fun h13 => ?_))))))
 ·have h13p := (odt h13)
  have hff := MZ h13p
  exact AC rfl (yb rfl (gnr (qx_then_ret (BS rfl rfl rfl ⟨by rw [hff]; rfl, hJ9, M.fr⟩))))
 ·have h13p := (odf h13)
  obtain ⟨j, x, hj, hx, hff⟩ := N0 h13p
  have hjl : j < l.length := (List.getElem?_eq_some_iff.1 hx).1
  rw [hj]
  obtain ⟨b_x, o_x, hA_x⟩ := B7 (k := 5) A0 (hR _ M.fr) hx
  refine sx_skip (qx_seq (AC rfl (AV rfl rfl (ya rfl (AP j hA_x rfl rfl rfl (sl rfl) A0) (ya rfl (AH rfl rfl (BB Bd.len (hR _ M.fr) hA_x hx) underlying103 rfl DZ) (cl 19 rfl (BC rfl rfl rfl call108) (t8 x _) ?_))))))
  rintro _ w10 ⟨rfl, hf10⟩
  exact ⟨_, rfl, AV rfl rfl (gnr (BS rfl rfl rfl ⟨by rw [hff]; rfl, hP.st _ _ _ hf10 hJ9, M.fr.then0 hf10⟩))⟩
theorem nR (g : FuncId) (cs : List Value) (g5 : Nat) (x : List UInt8) (b : Bool) (K : World → Prop) (w : World) (hb : Blk w g5 97 [.func (.func g) #[] cs.toArray]) (hfn : ∀ (ar : Array Value) (w : World), (callFunc g ar).run prog w = .ok (.enter g ar) w)
 (hc : ∀ w3, Fr0 w w3 → Calls prog g (str x :: cs).toArray w3 fun e w' => e = .returned (.bool b) ∧ K w') : Calls prog 165 #[str x, pg g5] w fun e w' => e = .returned (.bool (!b)) ∧ K w' := by
 refine BL func165 ntmps165 rfl fun M => srg (AG rfl (srg (yl rfl rfl (Blk.c (hb.fr0 M.fr) 0 rfl) (yb rfl (cl 6 rfl (BC rfl rfl rfl hfn) (hc _ M.fr) ?_)))))
 rintro _ w9 ⟨rfl, hK⟩
 exact ⟨_, rfl, AV rfl rfl (gnr (gr1 rfl ⟨rfl, hK⟩))⟩
theorem iU {l : List (List UInt8)} {g : FuncId} {cs : List Value} {p : Nat → List UInt8 → Bool} {S : Nat → Prop} {J : Nat → World → Prop} {w w1 : World} {g5 : Nat} (hP : PredJ prog g cs str l p S J w) (hf : Fr0 w w1) (hg : w.heap.size ≤ g5) (hb : Blk w1 g5 97 [.func (.func g) #[] cs.toArray]) :
 PredJ prog 165 [pg g5] str l (fun i x => !(p i x)) S J w1 where
 fn := call165
 call i x w2 hx hf2 hJ := by
  have hn : ¬ S g5 := fun h => by have := hP.old g5 h; omega
  exact nR g cs g5 x (p i x) (fun w' => J (i + 1) w' ∧ Fr S w2 w') w2 (hb.fr hf2 hn) hP.fn fun w3 hf3 =>
   (hP.call i x w3 hx ((Fr.of0 hf).trans (hf2.then0 hf3)) (hP.st i w2 w3 hf3 hJ)).mono fun _ _ ⟨h1, h2, h3⟩ => ⟨h1, h2, (Fr.of0 hf3).trans h3⟩
 st := hP.st
 old s hs := Nat.lt_of_lt_of_le (hP.old s hs) hf.size
theorem dT (A : Option Addr) (c : Nat) (l : List (List UInt8)) (hl : l.length ≤ 4611686018427387904) (g : FuncId) (cs : List Value) (p : Nat → List UInt8 → Bool) (S : Nat → Prop) (J : Nat → World → Prop) (w : World) (hP : PredJ prog g cs str l p S J w) (hR : ∀ w1, Fr S w w1 → Rd w1 A (l.length * 1) (AB BK l)) (hJ : J 0 w) :
 Calls prog 122 #[.slice A l.length c, .func (.func 123) #[] #[], .func (.func g) #[] cs.toArray] w fun e w' => e = .returned (.tuple #[str ((ffN p 0 l).elim [] (fun x => x)), .bool (ffN p 0 l).isSome]) ∧ J (ixN (fun i x => !(p i x)) 0 l) w' ∧ Fr S w w' := by
 refine BL func122 ntmps122 rfl fun M => srg (DB M (wn_none rfl) rfl rfl 97 rfl rfl ([.func (.func g) #[] cs.toArray]) rfl fun g5 w1 hg5 M => yb rfl (AG rfl (AC rfl (ya rfl (CE (us := []) (vs := [pg g5]) rfl rfl rfl) (cl 11 rfl (AE rfl rfl call62) (WT A c l hl 165 [pg g5] (fun i x => !(p i x)) S J _ (iU hP M.fr hg5 (M.blk 0 rfl)) (fun w9 hf9 => hR w9 ((Fr.of0 M.fr).trans hf9)) (hP.st 0 _ _ M.fr hJ)) ?_)))))
 rintro _ w9 ⟨rfl, hJ9, hf9⟩
 refine ⟨_, rfl, ?_⟩
 have M : Mem w S [] w9 := Mem.ofFr ((Fr.of0 M.fr).trans hf9)
 refine AG rfl (sx_seq (AC rfl (BM rfl rfl (nq (AF rfl (fun h13 => ?_) (fun h13 => ?_))))))
 ·have h13p := (odt h13)
  have hff := MZ h13p
  exact AC rfl (yb rfl (gnr (qx_then_ret (BS rfl rfl rfl ⟨by rw [hff]; rfl, hJ9, M.fr⟩))))
 ·have h13p := (odf h13)
  obtain ⟨j, x, hj, hx, hff⟩ := N0 h13p
  have hjl : j < l.length := (List.getElem?_eq_some_iff.1 hx).1
  rw [hj]
  obtain ⟨b_x, o_x, hA_x⟩ := B7 (k := 1) A0 (hR _ M.fr) hx
  refine sx_skip (qx_seq (AC rfl (AV rfl rfl (ya rfl (AP j hA_x rfl rfl rfl (sl rfl) A0) (yl rfl rfl (E5 FD (hR _ M.fr) hA_x hx 0 rfl) (cl 19 rfl (BC rfl rfl rfl call123) (rP x _) ?_))))))
  rintro _ w10 ⟨rfl, hf10⟩
  exact ⟨_, rfl, AV rfl rfl (gnr (BS rfl rfl rfl ⟨by rw [hff]; rfl, hP.st _ _ _ hf10 hJ9, M.fr.then0 hf10⟩))⟩
end Go.Proofs.YtaheakjfkpkefaaGreatDoor
