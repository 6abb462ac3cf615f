/- Lemmas that the last text rests on. Condition: each says its own. -/
import Derived.Test.YtjaocmocdhckaaaGreatDoorZb6
set_option maxHeartbeats 16000000
set_option maxRecDepth 100000
namespace Go.Proofs.YtjaocmocdhckaaaGreatDoor
open Go.RowKit
open Tryz
def BK : List El → List UInt8 → Option El
 | [], _ => none
 | x :: r, k => if x.id = k then some x else BK r k
def EC (l : List Fl) (k : List UInt8) : List Fl := l.filter fun f => decide (f.tg = k)
def CE (l : List Fl) (k : List UInt8) : List Fl := l.filter fun f => decide (f.frm = k)
structure IxA where
 gE : Nat
 gI : Nat
 gO : Nat
 LE : List (List UInt8 × Value)
 LI : List (List UInt8 × Value)
 LO : List (List UInt8 × Value)
 iA : List UInt8 → Option Addr
 iC : List UInt8 → Nat
 oA : List UInt8 → Option Addr
 oC : List UInt8 → Nat
def Ix.cells (m : Md) (a : MdA) (x : IxA) : List Value := [str m.id, str m.nm, .slice a.V m.vars.length a.vc, .slice a.E m.els.length a.ec, .slice a.F m.fls.length a.fc, .map (some x.gE), .map (some x.gI), .map (some x.gO)]
def elV (x : El) : Value := .agg x.cells.toArray
structure IxAt (w : World) (m : Md) (a : MdA) (x : IxA) (gx : Nat) : Prop where
 md : MdIn w m a
 blk : Blk w gx 142 (Ix.cells m a x)
 E : Mp w x.gE x.LE
 I : Mp w x.gI x.LI
 O : Mp w x.gO x.LO
 getE : ∀ k, (CU x.LE k).getD (.agg zeroEl.cells.toArray) = .agg ((BK m.els k).getD zeroEl).cells.toArray
 isE : ∀ k, (CU x.LE k).isSome = (BK m.els k).isSome
 getI : ∀ k, (CU x.LI k).getD (.slice none 0 0) = .slice (x.iA k) (EC m.fls k).length (x.iC k)
 getO : ∀ k, (CU x.LO k).getD (.slice none 0 0) = .slice (x.oA k) (CE m.fls k).length (x.oC k)
 rdI : ∀ k, Rd w (x.iA k) ((EC m.fls k).length * 4) (AH Fl.cells (EC m.fls k))
 rdO : ∀ k, Rd w (x.oA k) ((CE m.fls k).length * 4) (AH Fl.cells (CE m.fls k))
theorem IxAt.fr0 {w w' : World} {m : Md} {a : MdA} {x : IxA} {gx : Nat} (h : IxAt w m a x gx) (hf : Fr0 w w') : IxAt w' m a x gx :=
 ⟨h.md.fr0 hf, h.blk.fr0 hf, h.E.fr hf (fun hh => hh), h.I.fr hf (fun hh => hh), h.O.fr hf (fun hh => hh), h.getE, h.isE, h.getI, h.getO, fun k => (h.rdI k).fr0 hf, fun k => (h.rdO k).fr0 hf⟩
theorem GH (l : List Fl) (k : List UInt8) : (EC l k).length ≤ l.length := List.length_filter_le _ _
theorem EM (l : List Fl) (k : List UInt8) : (CE l k).length ≤ l.length := List.length_filter_le _ _
theorem GN {α : Type} {P : Program} {f : FuncId} {cs : List Value} {av : α → Value} {l : List α} {p : α → Bool} {w : World} (fn : ∀ (ar : Array Value) (w : World), (callFunc f ar).run P w = .ok (.enter f ar) w)
 (h : ∀ x ∈ l, ∀ w1, Fr0 w w1 → Calls P f (av x :: cs).toArray w1 fun e w2 => e = .returned (.bool (p x)) ∧ Fr0 w1 w2) : PredJ P f cs av l (fun _ => p) B0 (fun _ _ => True) w where
 fn := fn
 call _ x w1 hx hf _ := (h x (List.mem_of_getElem? hx) w1 hf).mono fun _ _ ⟨h1, h2⟩ => ⟨h1, trivial, h2⟩
 st _ _ _ _ h := h
 old _ h := h.elim
theorem O2 {e : Env} {w : World} {o : Oper} {x : Operand} {b : El} (ho : o.op = .field 69 x 2) (hx : ev e x = some (.agg b.cells.toArray)) : Y prog e o w (.int .u8 (b.kind.toNat : Int)) := fun ρ h => by
 unfold execOp
 simp [ho, h _ _ hx, Instr.field, run_underlying underlying69, asAgg, part, isAgg5, El.cells]
def El.same (a b : El) : Bool := decide (a.id = b.id) && (decide (a.nm = b.nm) && (decide ((a.kind.toNat : Int) = (b.kind.toNat : Int)) && (decide (a.inn = b.inn) && (decide (a.dflt = b.dflt) && (decide (a.att = b.att) && (decide ((a.ev.toNat : Int) = (b.ev.toNat : Int)) && (decide (a.ref = b.ref) && (decide (a.key = b.key) && (decide (a.ticks = b.ticks) && decide (a.tries = b.tries))))))))))
theorem jU : prog.eqGuardType prog.depth 69 = false := by kernel_rfl
theorem o2 : prog.stoodInHeld 69 = false := by kernel_rfl
theorem d9 : prog.underlying 69 = some (.struct (prog.fieldsOf 69)) := by kernel_rfl
theorem L3 {P : Program} {w : World} {d : Nat} {xs ys : Array Value} : (Op.eqFields d xs ys []).run P w = .ok true w := rfl
theorem EF {P : Program} {w : World} {m : Sem Bool} {r s : Bool} (h : m.run P w = .ok s w) : (if r = true then m.run P w else .ok false w) = .ok (r && s) w := by cases r <;> simp [h]
theorem XT {e : Env} {w : World} {o : Oper} {t' : Nat} {x y : Operand} {a b : El} (ho : o.op = .binOp .eql 69 x y t') (hx : ev e x = some (.agg a.cells.toArray)) (hy : ev e y = some (.agg b.cells.toArray)) : Y prog e o w (.bool (a.same b)) := fun ρ h => by
 have h1 : ρ x = .agg a.cells.toArray := h _ _ hx
 have h2 : ρ y = .agg b.cells.toArray := h _ _ hy
 have hg := run_eqGuard_agg (P := prog) w .eql 69 x y a.cells.toArray b.cells.toArray jU
 have s_ : ∀ (u v : List UInt8), (Op.equalIn 9999 9 (str u) (str v)).run prog w = .ok (decide (u = v)) w := fun u v => by
  have := run_equalIn_string (P := prog) w 9998 9 ⟨u.toArray⟩ ⟨v.toArray⟩ underlying9
  unfold str
  rw [this, ByteArray.toList_eq, ByteArray.toList_eq]
  by_cases huv : u = v <;> simp [huv]
 have i_ : ∀ (t : Nat) (k : IntKind) (u v : Int), prog.underlying t = some (.int k) → (Op.equalIn 9999 t (.int k u) (.int k v)).run prog w = .ok (decide (u = v)) w := fun t k u v ht => by
  have := run_equalIn_int (P := prog) w 9998 t k k u v ht
  rw [this]; by_cases huv : u = v <;> simp [huv]
 have hrun : (Op.equalIn 10000 69 (.agg a.cells.toArray) (.agg b.cells.toArray)).run prog w = .ok (a.same b) w := by
  rw [run_equalIn_struct w 9999 69 _ _ d9 o2]
  have hl : (prog.fieldsOf 69).toList = (match prog.underlying 69 with | some (.struct fs) => fs.toList | _ => []) := by unfold Program.fieldsOf; rw [underlying69]
  rw [hl, underlying69]
  simp only
  have S_ := isAgg9 w
  have U_ := isAgg5 w
  have N_ := isAgg3 w
  rw [BL (a := str a.id) (b := str b.id) BU (BH S_ rfl) (BH S_ rfl) (s_ _ _)]
  refine EF ?_
  rw [BL (a := str a.nm) (b := str b.nm) BU (BH S_ rfl) (BH S_ rfl) (s_ _ _)]
  refine EF ?_
  rw [BL (a := .int .u8 (a.kind.toNat : Int)) (b := .int .u8 (b.kind.toNat : Int)) BU (BH U_ rfl) (BH U_ rfl) (i_ _ _ _ _ underlying5)]
  refine EF ?_
  rw [BL (a := str a.inn) (b := str b.inn) BU (BH S_ rfl) (BH S_ rfl) (s_ _ _)]
  refine EF ?_
  rw [BL (a := str a.dflt) (b := str b.dflt) BU (BH S_ rfl) (BH S_ rfl) (s_ _ _)]
  refine EF ?_
  rw [BL (a := str a.att) (b := str b.att) BU (BH S_ rfl) (BH S_ rfl) (s_ _ _)]
  refine EF ?_
  rw [BL (a := .int .u8 (a.ev.toNat : Int)) (b := .int .u8 (b.ev.toNat : Int)) BU (BH U_ rfl) (BH U_ rfl) (i_ _ _ _ _ underlying5)]
  refine EF ?_
  rw [BL (a := str a.ref) (b := str b.ref) BU (BH S_ rfl) (BH S_ rfl) (s_ _ _)]
  refine EF ?_
  rw [BL (a := str a.key) (b := str b.key) BU (BH S_ rfl) (BH S_ rfl) (s_ _ _)]
  refine EF ?_
  rw [BL (a := AJ a.ticks) (b := AJ b.ticks) BU (BH N_ rfl) (BH N_ rfl) (i_ _ _ _ _ underlying3)]
  refine EF ?_
  rw [BL (a := AJ a.tries) (b := AJ b.tries) BU (BH N_ rfl) (BH N_ rfl) (i_ _ _ _ _ underlying3)]
  rw [L3]
  cases decide (a.tries = b.tries) <;> rfl
 unfold execOp
 simp only [ho, h1, h2, Sem.run_bind, hg, Result.andThen_ok, run_eql_struct, hrun]
 rfl
theorem NT {α : Type} {p : Nat → α → Bool} {l : List α} (h : ixJ (fun i x => !(p i x)) 0 l < 0) : ffN p 0 l = none := by
 rcases UT p l 0 with ⟨_, h2⟩ | ⟨j, x, h1, _, _⟩
 ·exact h2
 ·rw [h1] at h; omega
theorem NU {α : Type} {p : Nat → α → Bool} {l : List α} (h : ¬ ixJ (fun i x => !(p i x)) 0 l < 0) : ∃ j x, ixJ (fun i x => !(p i x)) 0 l = ((j : Nat) : Int) ∧ l[j]? = some x ∧ ffN p 0 l = some x := by
 rcases UT p l 0 with ⟨h1, _⟩ | ⟨j, x, h1, h2, h3⟩
 ·rw [h1] at h; omega
 ·rw [Nat.zero_add] at h1; exact ⟨j, x, h1, h2, h3⟩
end Go.Proofs.YtjaocmocdhckaaaGreatDoor
