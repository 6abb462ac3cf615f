/- Lemmas that the last text rests on. Condition: each says its own. -/
import Derived.Test.YtadgfojhjnkliaaGreatDoorZb7
set_option maxHeartbeats 16000000
set_option maxRecDepth 100000
namespace Go.Proofs.YtadgfojhjnkliaaGreatDoor
open Go.RowKit
open Tryz
def AS : List El → List UInt8 → Option El
 | [], _ => none
 | x :: r, k => if x.id = k then some x else AS r k
def DD (l : List Fl) (k : List UInt8) : List Fl := l.filter fun f => decide (f.tg = k)
def BK (l : List Fl) (k : List UInt8) : List Fl := l.filter fun f => decide (f.frm = k)
structure IxA where
 gE : Nat
 gI : Nat
 gO : Nat
 LE : List (List UInt8 × Value)
 LI : List (List UInt8 × Value)
 LO : List (List UInt8 × Value)
 iA : List UInt8 → Option Addr
 iC : List UInt8 → Nat
 oA : List UInt8 → Option Addr
 oC : List UInt8 → Nat
def Ix.cells (m : Md) (a : MdA) (x : IxA) : List Value := [str m.id, str m.nm, .slice a.V m.vars.length a.vc, .slice a.E m.els.length a.ec, .slice a.F m.fls.length a.fc, .map (some x.gE), .map (some x.gI), .map (some x.gO)]
def elV (x : El) : Value := .agg x.cells.toArray
structure IxAt (w : World) (m : Md) (a : MdA) (x : IxA) (gx : Nat) : Prop where
 md : MdIn w m a
 blk : Blk w gx 139 (Ix.cells m a x)
 E : Mp w x.gE x.LE
 I : Mp w x.gI x.LI
 O : Mp w x.gO x.LO
 getE : ∀ k, (CE x.LE k).getD (.agg zeroEl.cells.toArray) = .agg ((AS m.els k).getD zeroEl).cells.toArray
 isE : ∀ k, (CE x.LE k).isSome = (AS m.els k).isSome
 getI : ∀ k, (CE x.LI k).getD (.slice none 0 0) = .slice (x.iA k) (DD m.fls k).length (x.iC k)
 getO : ∀ k, (CE x.LO k).getD (.slice none 0 0) = .slice (x.oA k) (BK m.fls k).length (x.oC k)
 rdI : ∀ k, Rd w (x.iA k) ((DD m.fls k).length * 4) (AR Fl.cells (DD m.fls k))
 rdO : ∀ k, Rd w (x.oA k) ((BK m.fls k).length * 4) (AR Fl.cells (BK m.fls k))
theorem IxAt.fr0 {w w' : World} {m : Md} {a : MdA} {x : IxA} {gx : Nat} (h : IxAt w m a x gx) (hf : Fr0 w w') : IxAt w' m a x gx :=
 ⟨h.md.fr0 hf, h.blk.fr0 hf, h.E.fr hf (fun hh => hh), h.I.fr hf (fun hh => hh), h.O.fr hf (fun hh => hh), h.getE, h.isE, h.getI, h.getO, fun k => (h.rdI k).fr0 hf, fun k => (h.rdO k).fr0 hf⟩
theorem EY (l : List Fl) (k : List UInt8) : (DD l k).length ≤ l.length := List.length_filter_le _ _
theorem DM (l : List Fl) (k : List UInt8) : (BK l k).length ≤ l.length := List.length_filter_le _ _
theorem GE {α : Type} {P : Program} {f : FuncId} {cs : List Value} {av : α → Value} {l : List α} {p : α → Bool} {w : World} (fn : ∀ (ar : Array Value) (w : World), (callFunc f ar).run P w = .ok (.enter f ar) w)
 (h : ∀ x ∈ l, ∀ w1, Fr0 w w1 → Calls P f (av x :: cs).toArray w1 fun e w2 => e = .returned (.bool (p x)) ∧ Fr0 w1 w2) : PredJ P f cs av l (fun _ => p) AB (fun _ _ => True) w where
 fn := fn
 call _ x w1 hx hf _ := (h x (List.mem_of_getElem? hx) w1 hf).mono fun _ _ ⟨h1, h2⟩ => ⟨h1, trivial, h2⟩
 st _ _ _ _ h := h
 old _ h := h.elim
theorem PS {e : Env} {w : World} {o : Oper} {x : Operand} {b : El} (ho : o.op = .field 62 x 2) (hx : ev e x = some (.agg b.cells.toArray)) : Y prog e o w (.int .u8 (b.kind.toNat : Int)) := fun ρ h => by
 unfold execOp
 simp [ho, h _ _ hx, Instr.field, run_underlying underlying62, asAgg, part, isAgg5, El.cells]
def El.same (a b : El) : Bool := decide (a.id = b.id) && (decide (a.nm = b.nm) && (decide ((a.kind.toNat : Int) = (b.kind.toNat : Int)) && (decide (a.inn = b.inn) && (decide (a.dflt = b.dflt) && (decide (a.att = b.att) && (decide ((a.ev.toNat : Int) = (b.ev.toNat : Int)) && (decide (a.ref = b.ref) && (decide (a.key = b.key) && (decide (a.ticks = b.ticks) && decide (a.tries = b.tries))))))))))
theorem kJ : prog.eqGuardType prog.depth 62 = false := by kernel_rfl
theorem oI : prog.stoodInHeld 62 = false := by kernel_rfl
theorem eK : prog.underlying 62 = some (.struct (prog.fieldsOf 62)) := by kernel_rfl
theorem JO {P : Program} {w : World} {d : Nat} {xs ys : Array Value} : (Op.eqFields d xs ys []).run P w = .ok true w := rfl
theorem DF {P : Program} {w : World} {m : Sem Bool} {r s : Bool} (h : m.run P w = .ok s w) : (if r = true then m.run P w else .ok false w) = .ok (r && s) w := by cases r <;> simp [h]
theorem XM {e : Env} {w : World} {o : Oper} {t' : Nat} {x y : Operand} {a b : El} (ho : o.op = .binOp .eql 62 x y t') (hx : ev e x = some (.agg a.cells.toArray)) (hy : ev e y = some (.agg b.cells.toArray)) : Y prog e o w (.bool (a.same b)) := fun ρ h => by
 have h1 : ρ x = .agg a.cells.toArray := h _ _ hx
 have h2 : ρ y = .agg b.cells.toArray := h _ _ hy
 have hg := run_eqGuard_agg (P := prog) w .eql 62 x y a.cells.toArray b.cells.toArray kJ
 have s_ : ∀ (u v : List UInt8), (Op.equalIn 9999 9 (str u) (str v)).run prog w = .ok (decide (u = v)) w := fun u v => by
  have := run_equalIn_string (P := prog) w 9998 9 ⟨u.toArray⟩ ⟨v.toArray⟩ underlying9
  unfold str
  rw [this, ByteArray.toList_eq, ByteArray.toList_eq]
  by_cases huv : u = v <;> simp [huv]
 have i_ : ∀ (t : Nat) (k : IntKind) (u v : Int), prog.underlying t = some (.int k) → (Op.equalIn 9999 t (.int k u) (.int k v)).run prog w = .ok (decide (u = v)) w := fun t k u v ht => by
  have := run_equalIn_int (P := prog) w 9998 t k k u v ht
  rw [this]; by_cases huv : u = v <;> simp [huv]
 have hrun : (Op.equalIn 10000 62 (.agg a.cells.toArray) (.agg b.cells.toArray)).run prog w = .ok (a.same b) w := by
  rw [run_equalIn_struct w 9999 62 _ _ eK oI]
  have hl : (prog.fieldsOf 62).toList = (match prog.underlying 62 with | some (.struct fs) => fs.toList | _ => []) := by unfold Program.fieldsOf; rw [underlying62]
  rw [hl, underlying62]
  simp only
  have S_ := isAgg9 w
  have U_ := isAgg5 w
  have N_ := isAgg3 w
  rw [B8 (a := str a.id) (b := str b.id) (by decide) (B4 S_ rfl) (B4 S_ rfl) (s_ _ _)]
  refine DF ?_
  rw [B8 (a := str a.nm) (b := str b.nm) (by decide) (B4 S_ rfl) (B4 S_ rfl) (s_ _ _)]
  refine DF ?_
  rw [B8 (a := .int .u8 (a.kind.toNat : Int)) (b := .int .u8 (b.kind.toNat : Int)) (by decide) (B4 U_ rfl) (B4 U_ rfl) (i_ _ _ _ _ underlying5)]
  refine DF ?_
  rw [B8 (a := str a.inn) (b := str b.inn) (by decide) (B4 S_ rfl) (B4 S_ rfl) (s_ _ _)]
  refine DF ?_
  rw [B8 (a := str a.dflt) (b := str b.dflt) (by decide) (B4 S_ rfl) (B4 S_ rfl) (s_ _ _)]
  refine DF ?_
  rw [B8 (a := str a.att) (b := str b.att) (by decide) (B4 S_ rfl) (B4 S_ rfl) (s_ _ _)]
  refine DF ?_
  rw [B8 (a := .int .u8 (a.ev.toNat : Int)) (b := .int .u8 (b.ev.toNat : Int)) (by decide) (B4 U_ rfl) (B4 U_ rfl) (i_ _ _ _ _ underlying5)]
  refine DF ?_
  rw [B8 (a := str a.ref) (b := str b.ref) (by decide) (B4 S_ rfl) (B4 S_ rfl) (s_ _ _)]
  refine DF ?_
  rw [B8 (a := str a.key) (b := str b.key) (by decide) (B4 S_ rfl) (B4 S_ rfl) (s_ _ _)]
  refine DF ?_
  rw [B8 (a := .int .i64 a.ticks) (b := .int .i64 b.ticks) (by decide) (B4 N_ rfl) (B4 N_ rfl) (i_ _ _ _ _ underlying3)]
  refine DF ?_
  rw [B8 (a := .int .i64 a.tries) (b := .int .i64 b.tries) (by decide) (B4 N_ rfl) (B4 N_ rfl) (i_ _ _ _ _ underlying3)]
  rw [JO]
  cases decide (a.tries = b.tries) <;> rfl
 unfold execOp
 simp only [ho, h1, h2, Sem.run_bind, hg, Result.andThen_ok, run_eql_struct, hrun]
 rfl
theorem LQ {α : Type} {p : Nat → α → Bool} {l : List α} (h : ixJ (fun i x => !(p i x)) 0 l < 0) : ffN p 0 l = none := by
 rcases UI p l 0 with ⟨_, h2⟩ | ⟨j, x, h1, _, _⟩
 ·exact h2
 ·rw [h1] at h; omega
theorem LR {α : Type} {p : Nat → α → Bool} {l : List α} (h : ¬ ixJ (fun i x => !(p i x)) 0 l < 0) : ∃ j x, ixJ (fun i x => !(p i x)) 0 l = ((j : Nat) : Int) ∧ l[j]? = some x ∧ ffN p 0 l = some x := by
 rcases UI p l 0 with ⟨h1, _⟩ | ⟨j, x, h1, h2, h3⟩
 ·rw [h1] at h; omega
 ·rw [Nat.zero_add] at h1; exact ⟨j, x, h1, h2, h3⟩
end Go.Proofs.YtadgfojhjnkliaaGreatDoor
