/- The machine that runs closed code in the kernel: what it does. Over any program. No condition. -/
import Derived.Test.YtklciidffdnglaaDoorKa
import Derived.Test.YtklciidffdnglaaDoorSxOps
namespace Go.Proofs.YtklciidffdnglaaDoor
open Go.RowKit

/-- n cells from off on. -/
noncomputable def ldN (c : Tb Value) (n : Nat) : Nat → Option (List Value) :=
  @Nat.rec (fun _ => Nat → Option (List Value)) (fun _ => some []) (fun _ ih off => oo (c.get off) none (fun v => oo (ih (Nat.succ off)) none (fun l => some (v :: l)))) n
noncomputable def stN (vs : List Value) : Tb Value → Nat → Tb Value :=
  @List.rec Value (fun _ => Tb Value → Nat → Tb Value) (fun c _ => c) (fun v _ ih c off => ih (c.put off v) (Nat.succ off)) vs

noncomputable def stS {β : Type} (vs : List Value) : Tb Value → Nat → (Tb Value → β) → β :=
  @List.rec Value (fun _ => Tb Value → Nat → (Tb Value → β) → β) (fun c _ f => f c) (fun v _ ih c off f => putS c off v (fun c => ih c (Nat.succ off) f)) vs
theorem stS_eq {β : Type} : ∀ (vs : List Value) (c : Tb Value) (off : Nat) (f : Tb Value → β), stS vs c off f = f (stN vs c off)
  | [], _, _, _ => rfl
  | v :: vs, c, off, f => by
    show putS c off v (fun c => stS vs c (Nat.succ off) f) = _
    rw [putS_eq, stS_eq vs]
    rfl

inductive OR where
  | bad
  | ok (v : Value) (h : Hp) (nx : Nat)
inductive Out where
  | bad
  | nrm (e : Tb Value) (h : Hp) (nx : Nat)
  | ext (id : Nat) (e : Tb Value) (h : Hp) (nx : Nat)
  | ret (e : Tb Value) (h : Hp) (nx : Nat)

noncomputable def flat (v : Value) : Bool := flatN 100000 [v]
noncomputable def evR (x : Operand) : Nat → Tb Value → Option Value :=
  @Operand.rec (fun _ => Nat → Tb Value → Option Value) (fun t _ e => e.get t) (fun v _ _ => bo (flat v) (some v) none) (fun g G _ => bo (Nat.blt g G) (some (.pointer (some ⟨g, 0, none⟩))) none) (fun f _ _ => some (.func (.func f) ⟨[]⟩ ⟨[]⟩)) x
noncomputable def evO (G : Nat) (e : Tb Value) (x : Operand) : Option Value := evR x G e
noncomputable def evL (G : Nat) (e : Tb Value) (l : List Operand) : Option (List Value) :=
  @List.rec Operand (fun _ => Option (List Value)) (some []) (fun x _ ih => oo (evO G e x) none (fun v => oo ih none (fun vs => some (v :: vs)))) l
noncomputable def evP (G : Nat) (e : Tb Value) (l : List (Nat × Operand)) : Option (List (Nat × Value)) :=
  @List.rec (Nat × Operand) (fun _ => Option (List (Nat × Value))) (some []) (fun x _ ih => oo (evO G e x.2) none (fun v => oo ih none (fun vs => some ((x.1, v) :: vs)))) l

/-- The cells of a type's value: none for one cell. -/
def rowSz (P : Program) (t : TypeId) : Option (Option Nat) :=
  match P.underlying t with
  | some (.struct _) | some (.array _ _) => (P.info? t).map fun i => some i.size
  | some _ => some none
  | none => none
def sizeTy (P : Program) (t : TypeId) : Option Nat := (P.info? t).map (·.size)
noncomputable def zeroTy (P : Program) (t : TypeId) : Option Value :=
  match P.info? t with
  | some i => match i.zero with
    | some z => bo (flat z) (some z) none
    | none => none
  | none => none

noncomputable def mLoad (P : Program) (h : Hp) (nx : Nat) (t : TypeId) : Option Value → OR
  | some (.pointer (some ⟨id, off, none⟩)) => match h.get id with
    | some (.cells _ _ _ c) => match rowSz P t with
      | some none => match c.get off with
        | some v => .ok v h nx
        | none => .bad
      | some (some n) => match ldN c n off with
        | some l => .ok (.agg ⟨l⟩) h nx
        | none => .bad
      | none => .bad
    | _ => .bad
  | _ => .bad
/-- Cells are written into a block. -/
noncomputable def wrCells (h : Hp) (id off : Nat) (vs : List Value) : Option Hp :=
  match h.get id with
  | some (.cells el n k c) => bo (Nat.ble (off + vs.length) n && (Nat.beq k 0 && vs.all (·.oneCell'))) (stS vs c off (fun c => putS h id (.cells el n k c) some)) none
  | _ => none
noncomputable def mStore (P : Program) (h : Hp) (nx : Nat) (t : TypeId) : Option Value → Option Value → OR
  | some (.pointer (some ⟨id, off, none⟩)), some v => match sizeTy P t with
    | some n => bo (Nat.beq v.cells.toList.length n) (match wrCells h id off v.cells.toList with | some h' => .ok undef h' nx | none => .bad) .bad
    | none => .bad
  | _, _ => .bad
/-- A new block. -/
noncomputable def newB (h : Hp) (nx : Nat) (B : Bl) (v : Value) : OR := blS B (fun B => putS h nx B (fun h' => natS (nx + 1) (fun n' => .ok v h' n')))
noncomputable def mAlloc (P : Program) (h : Hp) (nx : Nat) (el : TypeId) : OR :=
  match zeroTy P el with
  | some z => newB h nx (.cells el z.cells.toList.length 0 (Tb.of z.cells.toList)) (.pointer (some ⟨nx, 0, none⟩))
  | none => .bad
noncomputable def mBox (h : Hp) (nx : Nat) (el : TypeId) : Option Value → OR
  | some v => newB h nx (.cells el v.cells.toList.length 0 (Tb.of v.cells.toList)) (.pointer (some ⟨nx, 0, none⟩))
  | none => .bad

/-- Where the parts of a struct or an array lie. -/
def placesL (P : Program) : List Field → Option (List (Nat × Nat))
  | [] => some []
  | f :: r => match P.info? f.type, placesL P r with
    | some i, some l => some ((f.offset, i.size) :: l)
    | _, _ => none
noncomputable def fillL (place : Nat → Option (Nat × Nat)) : List Value → List (Nat × Value) → Option (List Value)
  | cs, [] => some cs
  | cs, (i, v) :: r => match place i with
    | none => none
    | some (off, size) => bo (Nat.beq v.cells.toList.length size && Nat.ble (off + v.cells.toList.length) cs.length) (fillL place (put cs off v.cells.toList) r) none
noncomputable def mBuild (P : Program) (h : Hp) (nx : Nat) (t : TypeId) : Option (List (Nat × Value)) → OR
  | some ps => match zeroTy P t, P.underlying t with
    | some z, some (.struct fs) => match placesL P fs.toList with
      | some pl => match fillL (fun i => pl[i]?) z.cells.toList ps with
        | some cs => .ok (.agg ⟨cs⟩) h nx
        | none => .bad
      | none => .bad
    | some z, some (.array _ el) => match sizeTy P el with
      | some s => match fillL (fun i => some (i * s, s)) z.cells.toList ps with
        | some cs => .ok (.agg ⟨cs⟩) h nx
        | none => .bad
      | none => .bad
    | _, _ => .bad
  | none => .bad
/-- The cells of n elements at zero. -/
noncomputable def zerosN (z : List Value) (n : Nat) : List Value := Nat.rec (motive := fun _ => List Value) [] (fun _ ih => z ++ ih) n
noncomputable def mBuildSlice (P : Program) (h : Hp) (nx : Nat) (t : TypeId) (len : Nat) : Option (List (Nat × Value)) → OR
  | some ps => match sliceElem P t with
    | some (el, s) => match zeroTy P el with
      | some z => bo (Nat.beq z.cells.toList.length s && (Nat.blt 0 s && Nat.ble (len * s) 16777216)) (match fillL (fun i => some (i * s, s)) (zerosN z.cells.toList len) ps with
        | some cs => newB h nx (.cells el cs.length 0 (Tb.of cs)) (.slice (some ⟨nx, 0, none⟩) len len)
        | none => .bad) .bad
      | none => .bad
    | none => .bad
  | none => .bad
noncomputable def mMakeSlice (P : Program) (h : Hp) (nx : Nat) (t : TypeId) : Option Value → Option Value → OR
  | some (.int .i64 (.ofNat n)), some (.int .i64 (.ofNat c)) => match sliceElem P t with
    | some (el, s) => match zeroTy P el, P.info? el with
      | some z, some i => bo (Nat.beq z.cells.toList.length s && (Nat.blt 0 s && (Nat.ble n c && (Nat.ble c 16777216 && Nat.ble i.bytes 16777216))))
        (newB h nx (.cells el (c * s) 0 (match z.cells.toList with | [v] => Tb.repN v c c | l => Tb.of (zerosN l c))) (.slice (some ⟨nx, 0, none⟩) n c)) .bad
      | _, _ => .bad
    | none => .bad
  | _, _ => .bad

def fieldPl (P : Program) (s f : Nat) : Option (Nat × Option Nat) := match P.underlying s with
  | some (.struct fs) => match fs[f]? with
    | some fd => (rowSz P fd.type).map fun r => (fd.offset, r)
    | none => none
  | _ => none
/-- A part of a value of many cells. -/
def partL (cs : List Value) (off : Nat) : Option Nat → Option Value
  | none => cs[off]?
  | some n => some (.agg ⟨(cs.drop off).take n⟩)
noncomputable def mField (P : Program) (h : Hp) (nx : Nat) (s f : Nat) : Option Value → OR
  | some (.agg ⟨cs⟩) => match fieldPl P s f with
    | some (off, r) => match partL cs off r with
      | some v => .ok v h nx
      | none => .bad
    | none => .bad
  | _ => .bad
noncomputable def mFieldAddr (P : Program) (h : Hp) (nx : Nat) (s f : Nat) : Option Value → OR
  | some (.pointer (some ⟨id, off, none⟩)) => match fieldOff P s f with
    | some k => .ok (.pointer (some ⟨id, off + k, none⟩)) h nx
    | none => .bad
  | _ => .bad
noncomputable def mIndexAddr (P : Program) (h : Hp) (nx : Nat) (t : TypeId) : Option Value → Option Value → OR
  | some (.slice (some ⟨id, off, _⟩) len _), some (.int _ (.ofNat m)) => match sliceElem P t with
    | some (_, s) => bo (Nat.blt m len) (.ok (.pointer (some ⟨id, off + m * s, none⟩)) h nx) .bad
    | none => .bad
  | some (.pointer (some ⟨id, off, none⟩)), some (.int _ (.ofNat m)) => match arrElem P t with
    | some (len, _, s) => bo (Nat.blt m len) (.ok (.pointer (some ⟨id, off + m * s, none⟩)) h nx) .bad
    | none => .bad
  | _, _ => .bad
noncomputable def mIndex (P : Program) (h : Hp) (nx : Nat) (t : TypeId) : Option Value → Option Value → OR
  | some (.agg ⟨cs⟩), some (.int _ (.ofNat m)) => match arrElem P t with
    | some (len, el, s) => match rowSz P el with
      | some r => bo (Nat.blt m len) (match partL cs (m * s) r with | some v => .ok v h nx | none => .bad) .bad
      | none => .bad
    | none => .bad
  | some (.string s), some (.int _ (.ofNat m)) => match P.underlying t with
    | some .string => match s.data.toList[m]? with
      | some b => .ok (.int .u8 (.ofNat b.toNat)) h nx
      | none => .bad
    | _ => .bad
  | _, _ => .bad
/-- A bound of a slice. -/
def bndO (d : Nat) : Option (Option Value) → Option Nat
  | none => some d
  | some (some (.int _ (.ofNat m))) => some m
  | _ => none
/-- A part of an open slice that goes beyond its length, but not beyond what is known. -/
noncomputable def mSlKnown (h : Hp) (nx id off z s l u : Nat) : OR :=
  match h.get id with
  | some (.cells _ m _ _) => bo (Nat.blt l u && (Nat.ble (off + u * z) m && (Nat.blt 0 z && Nat.beq s z))) (.ok (.slice (some ⟨id, off + l * z, some z⟩) (u - l) 0) h nx) .bad
  | _ => .bad
noncomputable def mSlice (P : Program) (h : Hp) (nx : Nat) (t : TypeId) (x : Option Value) (lo hi mx : Option (Option Value)) : OR :=
  match x with
  | some (.string s) => match P.underlying t, mx, bndO 0 lo, bndO s.data.toList.length hi with
    | some .string, none, some l, some u => bo (Nat.ble l u && Nat.ble u s.data.toList.length) (.ok (.string ⟨⟨(s.data.toList.drop l).take (u - l)⟩⟩) h nx) .bad
    | _, _, _, _ => .bad
  | some (.slice (some ⟨id, off, none⟩) len cap) => match sliceElem P t, bndO 0 lo, bndO len hi, bndO cap mx with
    | some (_, s), some l, some u, some m => bo (Nat.ble l u && (Nat.ble u m && (Nat.ble m cap && (hi.isSome || mx.isNone)))) (.ok (.slice (some ⟨id, bo (Nat.beq m l) off (off + l * s), none⟩) (u - l) (m - l)) h nx) .bad
    | _, _, _, _ => .bad
  | some (.slice (some ⟨id, off, some z⟩) len 0) => match sliceElem P t, bndO 0 lo, bndO len hi, mx with
    | some (_, s), some l, some u, none => bo (Nat.ble l u && (Nat.ble u len && Nat.beq s z)) (bo (Nat.beq l 0 || Nat.blt l len) (.ok (.slice (some ⟨id, off + l * z, some z⟩) (u - l) 0) h nx) (.ok (.slice (some ⟨id, off + l * z, some z⟩) 0 1) h nx)) (mSlKnown h nx id off z s l u)
    | some (_, s), some l, some u, some mo => match bndO 0 (some mo) with
      | some m => bo (Nat.ble l u && (Nat.ble u m && (Nat.ble m len && hi.isSome))) (.ok (.slice (some ⟨id, bo (Nat.beq m l) off (off + l * s), none⟩) (u - l) (m - l)) h nx) .bad
      | none => .bad
    | _, _, _, _ => .bad
  | some (.slice (some ⟨id, off, some z⟩) 0 1) => match sliceElem P t, bndO 0 lo, bndO 0 hi, bndO 0 mx with
    | some _, some 0, some 0, some 0 => bo (hi.isSome || mx.isNone) (.ok (.slice (some ⟨id, off, some z⟩) 0 1) h nx) .bad
    | _, _, _, _ => .bad
  | some (.slice none 0 0) => match sliceElem P t, bndO 0 lo, bndO 0 hi, bndO 0 mx with
    | some _, some 0, some 0, some 0 => bo (hi.isSome || mx.isNone) (.ok (.slice none 0 0) h nx) .bad
    | _, _, _, _ => .bad
  | some (.pointer (some ⟨id, off, none⟩)) => match arrElem P t, bndO 0 lo, mx with
    | some (n, _, s), some l, none => match bndO n hi with
      | some u => bo (Nat.ble l u && Nat.ble u n) (.ok (.slice (some ⟨id, bo (Nat.beq n l) off (off + l * s), none⟩) (u - l) (n - l)) h nx) .bad
      | none => .bad
    | _, _, _ => .bad
  | _ => .bad

def ikn : IntKind → Nat
  | .i8 => 0 | .i16 => 1 | .i32 => 2 | .i64 => 3 | .u8 => 4 | .u16 => 5 | .u32 => 6 | .u64 => 7
def ikLim : IntKind → Nat
  | .i8 => 128 | .i16 => 32768 | .i32 => 2147483648 | .i64 => 9223372036854775808 | .u8 => 256 | .u16 => 65536 | .u32 => 4294967296 | .u64 => 18446744073709551616
noncomputable def wr (k : IntKind) : Int → Int
  | .ofNat m => bo (Nat.blt m (ikLim k)) (.ofNat m) (bo k.signed (k.wrap (.ofNat m)) (.ofNat (Nat.mod m (ikLim k))))
  | .negSucc m => bo (k.signed && Nat.blt m (ikLim k)) (.negSucc m) (k.wrap (.negSucc m))
def iLt : Int → Int → Bool
  | .ofNat a, .ofNat b => Nat.blt a b
  | .ofNat _, .negSucc _ => false
  | .negSucc _, .ofNat _ => true
  | .negSucc a, .negSucc b => Nat.blt b a
def iEq : Int → Int → Bool
  | .ofNat a, .ofNat b => Nat.beq a b
  | .negSucc a, .negSucc b => Nat.beq a b
  | _, _ => false
noncomputable def iAdd (k : IntKind) (a b : Int) : Option Value := some (.int k (wr k (Int.add a b)))
noncomputable def iSub (k : IntKind) (a b : Int) : Option Value := some (.int k (wr k (Int.sub a b)))
noncomputable def iMul (k : IntKind) (a b : Int) : Option Value := some (.int k (wr k (Int.mul a b)))
def iEql (_ : IntKind) (a b : Int) : Option Value := some (.bool (iEq a b))
def iNeq (_ : IntKind) (a b : Int) : Option Value := some (.bool (!iEq a b))
def iLss (_ : IntKind) (a b : Int) : Option Value := some (.bool (iLt a b))
def iLeq (_ : IntKind) (a b : Int) : Option Value := some (.bool (!iLt b a))
def iGtr (_ : IntKind) (a b : Int) : Option Value := some (.bool (iLt b a))
def iGeq (_ : IntKind) (a b : Int) : Option Value := some (.bool (!iLt a b))
noncomputable def iAnd (k : IntKind) : Int → Int → Option Value
  | .ofNat a, .ofNat b => bo (Nat.blt a (ikLim k) && Nat.blt b (ikLim k)) (some (.int k (.ofNat (Nat.land a b)))) none
  | _, _ => none
noncomputable def iOr (k : IntKind) : Int → Int → Option Value
  | .ofNat a, .ofNat b => bo (Nat.blt a (ikLim k) && Nat.blt b (ikLim k)) (some (.int k (.ofNat (Nat.lor a b)))) none
  | _, _ => none
noncomputable def iXor (k : IntKind) : Int → Int → Option Value
  | .ofNat a, .ofNat b => bo (Nat.blt a (ikLim k) && Nat.blt b (ikLim k)) (some (.int k (.ofNat (Nat.xor a b)))) none
  | _, _ => none
noncomputable def iQuo (k : IntKind) : Int → Int → Option Value
  | .ofNat a, .ofNat b => bo (Nat.blt a (ikLim k) && Nat.blt 0 b) (some (.int k (.ofNat (Nat.div a b)))) none
  | _, _ => none
noncomputable def iRem (k : IntKind) : Int → Int → Option Value
  | .ofNat a, .ofNat b => bo (Nat.blt 0 b) (some (.int k (.ofNat (Nat.mod a b)))) none
  | _, _ => none
def ikBits : IntKind → Nat
  | .i8 => 8 | .i16 => 16 | .i32 => 32 | .i64 => 64 | .u8 => 8 | .u16 => 16 | .u32 => 32 | .u64 => 64
/-- A shift by less than the bits. -/
noncomputable def shOp (op : BinOp) (k : IntKind) : Int → Int → Option Value :=
  match op with
  | .shl => fun a b => match a, b with
    | .ofNat a, .ofNat b => bo (Nat.ble b (ikBits k)) (some (.int k (wr k (.ofNat (Nat.mul a (Nat.pow 2 b)))))) none
    | _, _ => none
  | .shr => fun a b => match a, b with
    | .ofNat a, .ofNat b => bo (Nat.ble b (ikBits k)) (some (.int k (.ofNat (Nat.div a (Nat.pow 2 b))))) none
    | _, _ => none
  | _ => fun _ _ => none
noncomputable def intOp (op : BinOp) : IntKind → Int → Int → Option Value :=
  match op with
  | .add => iAdd
  | .sub => iSub
  | .mul => iMul
  | .eql => iEql
  | .neq => iNeq
  | .lss => iLss
  | .leq => iLeq
  | .gtr => iGtr
  | .geq => iGeq
  | .and => iAnd
  | .or => iOr
  | .xor => iXor
  | .quo => iQuo
  | .rem => iRem
  | _ => fun _ _ _ => none
noncomputable def byEq : List UInt8 → List UInt8 → Bool
  | [], [] => true
  | a :: x, b :: y => bo (Nat.beq a.toNat b.toNat) (byEq x y) false
  | _, _ => false
noncomputable def byLt : List UInt8 → List UInt8 → Bool
  | _, [] => false
  | [], _ :: _ => true
  | a :: x, b :: y => bo (Nat.blt a.toNat b.toNat) true (bo (Nat.beq a.toNat b.toNat) (byLt x y) false)
noncomputable def strOp (op : BinOp) (a b : List UInt8) : Option Value :=
  match op with
  | .add => bo (Nat.ble (a.length + b.length) 4611686018427387904) (some (.string ⟨⟨a ++ b⟩⟩)) none
  | .eql => some (.bool (byEq a b))
  | .neq => some (.bool (!byEq a b))
  | .lss => some (.bool (byLt a b))
  | .leq => some (.bool (!byLt b a))
  | .gtr => some (.bool (byLt b a))
  | .geq => some (.bool (!byLt a b))
  | _ => none
/-- The equality of two values of which one is a nil, or of two places. -/
noncomputable def eqNil (P : Program) (t : TypeId) : Value → Value → Option Bool
  | .pointer a, .pointer none => (ptrElem P t).map fun _ => a.isNone
  | .pointer none, .pointer a => (ptrElem P t).map fun _ => a.isNone
  | .pointer (some ⟨a, i, none⟩), .pointer (some ⟨b, j, none⟩) => match ptrElem P t with
    | some el => match sizeTy P el with
      | some (_ + 1) => bo (Nat.beq a b) (some (Nat.beq i j)) none
      | _ => none
    | none => none
  | .slice a _ _, .slice none _ _ => (sliceElem P t).map fun _ => a.isNone
  | .map a, .map none => match P.underlying t with
    | some (.map _ _) => some a.isNone
    | _ => none
  | .func _ _ _, .nilFunc => match P.underlying t with
    | some (.func _ _ _) => some false
    | _ => none
  | .nilFunc, .nilFunc => match P.underlying t with
    | some (.func _ _ _) => some true
    | _ => none
  | _, _ => none
/-- What a computation yields that looks at no memory. -/
noncomputable def pureRun {α : Type} (P : Program) (s : Sem α) : Option α :=
  Sem.rec (motive := fun _ => Option α) (fun a => some a) (fun _ _ _ _ => none) (fun _ _ _ _ _ => none) (fun _ _ _ => none) (fun _ _ _ => none) (fun _ _ _ _ => none) (fun _ _ _ => none) (fun _ _ _ => none) (fun _ _ _ _ => none) (fun _ _ _ => none) (fun _ _ _ => none) (fun _ ih => ih P) (fun _ _ ih => ih) (fun _ => none) s
noncomputable def allFlat (G : Nat) (e : Tb Value) (l : List Operand) : Bool :=
  List.rec (motive := fun _ => Bool) true (fun x _ ih => match evO G e x with | some v => bo (flat v) ih false | none => false) l
/-- An operation on values that name no place: the model's own. -/
noncomputable def mFlat (P : Program) (G : Nat) (e : Tb Value) (h : Hp) (nx : Nat) (o : Oper) : OR :=
  bo (allFlat G e o.op.operands.toList) (match pureRun P (execOp (fun x => (evO G e x).getD undef) o) with
    | some (.value v) => bo (flat v) (.ok v h nx) .bad
    | _ => .bad) .bad
abbrev BinF := Value → Program → Nat → Tb Value → Hp → Nat → Oper → BinOp → TypeId → OR
noncomputable def binInt (k : IntKind) (a : Int) : BinF := fun b P G e h nx o op _ =>
  match b with
  | .int k' b => bo (Nat.beq (ikn k) (ikn k')) (oo (intOp op k a b) (oo (shOp op k a b) (mFlat P G e h nx o) (fun v => .ok v h nx)) (fun v => .ok v h nx)) (oo (shOp op k a b) (mFlat P G e h nx o) (fun v => .ok v h nx))
  | _ => mFlat P G e h nx o
noncomputable def binStr (a : ByteArray) : BinF := fun b _ _ _ h nx _ op _ =>
  match b with
  | .string b => oo (strOp op a.data.toList b.data.toList) .bad (fun v => .ok v h nx)
  | _ => .bad
noncomputable def binAny (a : Value) : BinF := fun b P G e h nx o op t =>
  match op with
  | .eql => oo (eqNil P t a b) (mFlat P G e h nx o) (fun r => .ok (.bool r) h nx)
  | .neq => oo (eqNil P t a b) (mFlat P G e h nx o) (fun r => .ok (.bool (!r)) h nx)
  | _ => mFlat P G e h nx o
noncomputable def binV (a : Value) : BinF :=
  match a with
  | .int k n => binInt k n
  | .string s => binStr s
  | a => binAny a
noncomputable def mBin (P : Program) (G : Nat) (e : Tb Value) (h : Hp) (nx : Nat) (o : Oper) (op : BinOp) (t : TypeId) (a b : Option Value) : OR :=
  oo a .bad (fun a => oo b .bad (fun b => binV a b P G e h nx o op t))
/-- Bytes of cells. -/
def byOf : List Value → Option (List UInt8)
  | [] => some []
  | .int .u8 (.ofNat n) :: r => match byOf r with
    | some l => some (UInt8.ofNat n :: l)
    | none => none
  | _ :: _ => none
noncomputable def mConv (P : Program) (G : Nat) (e : Tb Value) (h : Hp) (nx : Nat) (o : Oper) (s d : TypeId) : Option Value → OR
  | some (.int _ n) => match P.underlying d with
    | some (.int k') => match P.underlying s with
      | some _ => .ok (.int k' (wr k' n)) h nx
      | none => .bad
    | _ => mFlat P G e h nx o
  | some (.string b) => match P.underlying s, P.underlying d with
    | some .string, some (.slice el) => match P.underlying el with
      | some (.int .u8) => newB h nx (.cells el b.data.toList.length 0 (Tb.of (b.data.toList.map fun x => .int .u8 (.ofNat x.toNat)))) (.slice (some ⟨nx, 0, some 1⟩) b.data.toList.length 0)
      | _ => .bad
    | _, _ => mFlat P G e h nx o
  | some (.slice none _ _) => match sliceElem P s, P.underlying d with
    | some (el, _), some .string => match P.underlying el with
      | some (.int .u8) => .ok (.string ⟨⟨[]⟩⟩) h nx
      | _ => .bad
    | _, _ => .bad
  | some (.slice (some ⟨id, off, sp⟩) len cap) => match Nat.beq s d with
   | true => match sliceElem P s, h.get id with
    | some (el, _), some (.cells _ _ k _) => match P.underlying el with
      | some (.int .u8) => bo (Nat.beq k 0) (.ok (.slice (some ⟨id, off, sp⟩) len cap) h nx) .bad
      | _ => .bad
    | _, _ => .bad
   | false => match sliceElem P s, P.underlying d, h.get id with
    | some (el, _), some .string, some (.cells _ _ _ c) => match P.underlying el, ldN c len off with
      | some (.int .u8), some l => match byOf l with
        | some bs => .ok (.string ⟨⟨bs⟩⟩) h nx
        | none => .bad
      | _, _ => .bad
    | _, _, _ => .bad
  | _ => mFlat P G e h nx o
noncomputable def mLen (P : Program) (h : Hp) (nx : Nat) (t : TypeId) : Option Value → OR
  | some (.slice _ n _) => match sliceElem P t with
    | some _ => .ok (.int .i64 (.ofNat n)) h nx
    | none => .bad
  | some (.string s) => match P.underlying t with
    | some .string => .ok (.int .i64 (.ofNat s.data.toList.length)) h nx
    | _ => .bad
  | some (.map none) => match P.underlying t with
    | some (.map _ _) => .ok (.int .i64 (.ofNat 0)) h nx
    | _ => .bad
  | some (.map (some id)) => match P.underlying t, h.get id with
    | some (.map _ _), some (.map _ _ l) => .ok (.int .i64 (.ofNat l.length)) h nx
    | _, _ => .bad
  | some _ => match P.underlying t with
    | some (.array n _) => .ok (.int .i64 (.ofNat n)) h nx
    | _ => .bad
  | none => .bad
/-- The cells of n elements of s cells that are appended or copied. -/
noncomputable def srcCells (h : Hp) (s n : Nat) : Value → Option (List Value)
  | .slice none _ _ => bo (Nat.beq n 0) (some []) none
  | .slice (some ⟨id, off, _⟩) l _ => bo (Nat.ble n l) (match h.get id with
    | some (.cells _ _ _ c) => ldN c (n * s) off
    | _ => bo (Nat.beq n 0) (some []) none) none
  | .string b => bo (Nat.beq s 1) (some ((b.data.toList.take n).map fun x => .int .u8 (.ofNat x.toNat))) none
  | _ => none
def lenV : Value → Option Nat
  | .slice _ n _ => some n
  | .string s => some s.data.toList.length
  | _ => none
noncomputable def mCopy (P : Program) (h : Hp) (nx : Nat) (t : TypeId) (d x : Option Value) : OR :=
  match d, x with
  | some (.slice a dl _), some x => match sliceElem P t, lenV x with
    | some (_, s), some n0 => match srcCells h s (bo (Nat.ble n0 dl) n0 dl) x with
      | some vs => match a with
        | some ⟨id, off, _⟩ => bo (vs.isEmpty) (.ok (.int .i64 (.ofNat (bo (Nat.ble n0 dl) n0 dl))) h nx) (match wrCells h id off vs with
            | some h' => .ok (.int .i64 (.ofNat (bo (Nat.ble n0 dl) n0 dl))) h' nx
            | none => .bad)
        | none => bo (vs.isEmpty) (.ok (.int .i64 (.ofNat (bo (Nat.ble n0 dl) n0 dl))) h nx) .bad
      | none => .bad
    | _, _ => .bad
  | _, _ => .bad
noncomputable def mClear (P : Program) (h : Hp) (nx : Nat) (t : TypeId) (x : Option Value) : OR :=
  match x with
  | some (.slice (some ⟨id, off, _⟩) n _) => match sliceElem P t with
    | some (el, _) => match zeroTy P el with
      | some z => bo (Nat.blt 0 n && Nat.blt 0 z.cells.toList.length) (match wrCells h id off (zerosN z.cells.toList n) with
        | some h' => .ok (.tuple ⟨[]⟩) h' nx
        | none => .bad) .bad
      | none => .bad
    | none => .bad
  | _ => .bad
/-- A new row of an append: old and new cells, and room that is left open. -/
noncomputable def mNewRow (P : Program) (h : Hp) (nx : Nat) (el s n : Nat) (cs : List Value) : OR :=
  match zeroTy P el with
  | some z => bo (Nat.beq z.cells.toList.length s) (newB h nx (.cells el cs.length 0 (Tb.of cs)) (.slice (some ⟨nx, 0, some s⟩) n 0)) .bad
  | none => .bad
/-- Elements are appended: to nothing, to a slice whose capacity is known, to an open one. -/
noncomputable def appNil (P : Program) (h : Hp) (nx : Nat) (el s n sl sc : Nat) (news : List Value) : OR :=
  bo (Nat.beq sl 0 && Nat.beq sc 0) (bo (Nat.beq n 0) (.ok (.slice none 0 0) h nx) (mNewRow P h nx el s n news)) .bad
noncomputable def appExact (P : Program) (h : Hp) (nx : Nat) (el s n sl sc id off : Nat) (news : List Value) : OR :=
  bo (Nat.ble (sl + n) sc)
    (match wrCells h id (off + sl * s) news with
    | some h' => .ok (.slice (some ⟨id, off, none⟩) (sl + n) sc) h' nx
    | none => bo (Nat.beq n 0) (.ok (.slice (some ⟨id, off, none⟩) (sl + n) sc) h nx) .bad)
    (match srcCells h s sl (.slice (some ⟨id, off, none⟩) sl sc) with
    | some olds => mNewRow P h nx el s (sl + n) (olds ++ news)
    | none => .bad)
noncomputable def appOpen (P : Program) (h : Hp) (nx : Nat) (el s n sl sc id off z : Nat) (news : List Value) : OR :=
  bo (Nat.beq z s && Nat.beq sc 0) (match h.get id with
    | some (.cells el' m k c) => bo (Nat.ble (off + (sl + n) * s) m)
        (match wrCells h id (off + sl * s) news with
        | some h' => .ok (.slice (some ⟨id, off, some z⟩) (sl + n) 0) h' nx
        | none => .bad)
        (match zeroTy P el with
        | some zv => bo (Nat.beq zv.cells.toList.length s && (Nat.beq (off + sl * s) m && (Nat.beq k 0 && Nat.beq el el'))) (bo (Nat.beq off 0) (stS news c m (fun c => delS h id (fun h => newB h nx (.cells el (m + news.length) 0 c) (.slice (some ⟨nx, 0, some s⟩) (sl + n) 0))))
            (match ldN c (sl * s) off with
            | some olds => listS (olds ++ news) (fun l => delS h id (fun h => newB h nx (.cells el l.length 0 (Tb.of l)) (.slice (some ⟨nx, 0, some s⟩) (sl + n) 0)))
            | none => .bad)) .bad
        | none => .bad)
    | _ => .bad) .bad
noncomputable def mAppend (P : Program) (h : Hp) (nx : Nat) (t : TypeId) (a x : Option Value) : OR :=
  match a, x with
  | some (.slice a sl sc), some x => match sliceElem P t, lenV x with
    | some (el, s), some n => match P.info? el, srcCells h s n x with
      | some i, some news => bo (Nat.blt 0 s && (Nat.ble (sl + n) 16777216 && (Nat.ble i.bytes 1048576 && news.all (·.oneCell')))) (match a with
        | none => appNil P h nx el s n sl sc news
        | some ⟨id, off, none⟩ => appExact P h nx el s n sl sc id off news
        | some ⟨id, off, some z⟩ => appOpen P h nx el s n sl sc id off z news) .bad
      | _, _ => .bad
    | _, _ => .bad
  | _, _ => .bad
noncomputable def mNil (h : Hp) (nx : Nat) : Option Value → OR
  | some (.pointer (some a)) => .ok (.pointer (some a)) h nx
  | some (.func (.func f) a b) => .ok (.func (.func f) a b) h nx
  | _ => .bad
noncomputable def mPick (h : Hp) (nx : Nat) : Option Value → Option Value → Option Value → OR
  | some (.bool c), some a, some b => .ok (bo c a b) h nx
  | _, _, _ => .bad
noncomputable def mMove (h : Hp) (nx : Nat) (v : Option Value) : OR := oo v .bad (fun v => .ok v h nx)
noncomputable def mExtract (h : Hp) (nx : Nat) (i : Nat) : Option Value → OR
  | some (.tuple ⟨vs⟩) => match vs[i]? with
    | some v => .ok v h nx
    | none => .bad
  | _ => .bad
noncomputable def mFunc (h : Hp) (nx : Nat) (f : Fn) : Option (List Value) → Option (List Value) → OR
  | some xs, some ys => match f with
    | .func f => .ok (.func (.func f) ⟨xs⟩ ⟨ys⟩) h nx
    | _ => .bad
  | _, _ => .bad
noncomputable def mIface (P : Program) (h : Hp) (nx : Nat) (t : TypeId) : Option Value → OR
  | some v => match P.underlying t with
    | some (.interface _) => .bad
    | some _ => .ok (.iface t v) h nx
    | none => .bad
  | none => .bad
noncomputable def mArr (P : Program) (h : Hp) (nx : Nat) (t : TypeId) : Option Value → OR
  | some (.slice (some ⟨id, off, _⟩) len _) => match arrElem P t with
    | some (n, _, _) => bo (Nat.ble n len && Nat.blt 0 len) (.ok (.pointer (some ⟨id, off, none⟩)) h nx) .bad
    | none => .bad
  | _ => .bad

/-- Keys that are told apart at once. -/
noncomputable def keyEq : Value → Value → Option Bool
  | .string a, .string b => some (byEq a.data.toList b.data.toList)
  | .int k a, .int k' b => bo (Nat.beq (ikn k) (ikn k')) (some (iEq a b)) none
  | .bool a, .bool b => some (a == b)
  | _, _ => none
/-- A map's key and element types, where the key is of such a kind. -/
def keyTy (P : Program) (t : TypeId) (k : Value) : Option TypeId :=
  match P.underlying t with
  | some (.map kt v) => match P.underlying kt, k with
    | some .string, .string _ => some v
    | some (.int _), .int _ _ => some v
    | some .bool, .bool _ => some v
    | _, _ => none
  | _ => none
noncomputable def findL (k : Value) : List (Value × Value) → Nat → Option (Option (Nat × Value))
  | [], _ => some none
  | p :: r, i => match keyEq k p.1 with
    | some true => some (some (i, p.2))
    | some false => findL k r (i + 1)
    | none => none
noncomputable def mMakeMap (P : Program) (h : Hp) (nx : Nat) (t : TypeId) : Option (Option Value) → OR
  | none => newB h nx (.map 0 [] []) (.map (some nx))
  | some (some (.int _ _)) => match P.underlying t with
    | some (.map _ _) => newB h nx (.map 0 [] []) (.map (some nx))
    | _ => .bad
  | _ => .bad
/-- The entries of a map. -/
noncomputable def mapL (h : Hp) : Option Nat → Option (List (Value × Value))
  | none => some []
  | some id => match h.get id with
    | some (.map _ _ l) => some l
    | _ => none
noncomputable def mLookup (P : Program) (h : Hp) (nx : Nat) (t : TypeId) (ok : Bool) : Option Value → Option Value → OR
  | some (.map r), some k => match keyTy P t k, mapL h r with
    | some el, some l => match findL k l 0 with
      | some (some (_, v)) => .ok (bo ok (.tuple ⟨[v, .bool true]⟩) v) h nx
      | some none => match zeroTy P el with
        | some z => .ok (bo ok (.tuple ⟨[z, .bool false]⟩) z) h nx
        | none => .bad
      | none => .bad
    | _, _ => .bad
  | _, _ => .bad
noncomputable def mUpdate (P : Program) (h : Hp) (nx : Nat) (t : TypeId) : Option Value → Option Value → Option Value → OR
  | some (.map (some id)), some k, some v => match keyTy P t k, h.get id with
    | some _, some (.map cl bs l) => match findL k l 0 with
      | some (some (i, _)) => listS (l.set i (k, v)) (fun l => putS h id (.map cl bs l) (fun h => .ok undef h nx))
      | some none => natS (cl + 1) (fun cl' => listS (bs ++ [cl]) (fun bs => listS (l ++ [(k, v)]) (fun l => putS h id (.map cl' bs l) (fun h => .ok undef h nx))))
      | none => .bad
    | _, _ => .bad
  | _, _, _ => .bad

/-- A range over a text or a map begins. -/
noncomputable def mRange (P : Program) (h : Hp) (nx : Nat) (t : TypeId) : Option Value → OR
  | some (.string s) => match P.underlying t with
    | some .string => newB h nx (.iter s 0) (.pointer (some ⟨nx, 0, none⟩))
    | _ => .bad
  | some (.map none) => match P.underlying t with
    | some (.map _ _) => newB h nx (.miter none 0 [] 0) (.pointer (some ⟨nx, 0, none⟩))
    | _ => .bad
  | some (.map (some id)) => match P.underlying t, h.get id with
    | some (.map _ _), some (.map cl _ _) => newB h nx (.miter (some id) cl [] cl) (.pointer (some ⟨nx, 0, none⟩))
    | _, _ => .bad
  | _ => .bad
/-- The entries that have not come yet. -/
noncomputable def leftL (seen : List Nat) : List Nat → List (Value × Value) → List (Nat × (Value × Value))
  | b :: bs, p :: l => bo (seen.contains b) (leftL seen bs l) ((b, p) :: leftL seen bs l)
  | _, _ => []
noncomputable def mNext (h : Hp) (nx : Nat) (str : Bool) : Option Value → OR
  | some (.pointer (some ⟨id, 0, none⟩)) => match h.get id with
    | some (.iter s pos) => bo str (bo (Nat.blt pos s.data.toList.length)
        (natS (pos + (Utf8.decode s pos).2) (fun p' => putS h id (.iter s p') (fun h => .ok (.tuple ⟨[.bool true, .int .i64 (.ofNat pos), .int .i32 (Utf8.decode s pos).1]⟩) h nx)))
        (.ok (.tuple ⟨[.bool false]⟩) h nx)) .bad
    | some (.miter none _ _ _) => bo str .bad (.ok (.tuple ⟨[.bool false]⟩) h nx)
    | some (.miter (some m) since seen last) => bo str .bad (match h.get m with
      | some (.map cl bs l) => bo (!seen.isEmpty && (!bs.isEmpty && bs.all (fun b => Nat.ble last b))) .bad (match leftL seen bs l with
        | [] => .ok (.tuple ⟨[.bool false]⟩) h nx
        | [(b, (k, v))] => bo (Nat.blt b since) (listS (seen ++ [b]) (fun seen => putS h id (.miter (some m) since seen cl) (fun h => .ok (.tuple ⟨[.bool true, k, v]⟩) h nx))) .bad
        | _ => .bad)
      | _ => .bad)
    | _ => .bad
  | _ => .bad

noncomputable def findB (b : Nat) : List Nat → List (Value × Value) → Option (Value × Value)
  | c :: bs, p :: l => bo (Nat.beq c b) (some p) (findB b bs l)
  | _, _ => none
/-- The entry of the last step. -/
noncomputable def mEntry (h : Hp) (nx : Nat) : Option Value → OR
  | some (.pointer (some ⟨id, 0, none⟩)) => match h.get id with
    | some (.miter (some m) _ seen last) => match h.get m, seen.getLast? with
      | some (.map cl bs l), some b => bo (Nat.beq cl last) (match findB b bs l with
        | some (k, v) => .ok (.tuple ⟨[k, v]⟩) h nx
        | none => .bad) .bad
      | _, _ => .bad
    | _ => .bad
  | _ => .bad
/-- An entry to be written: its value and its number. -/
noncomputable def mMapEntry (P : Program) (h : Hp) (nx : Nat) (t : TypeId) : Option Value → Option Value → OR
  | some (.map (some id)), some k => match keyTy P t k, h.get id with
    | some el, some (.map cl bs l) => match findL k l 0 with
      | some (some (i, v)) => match bs[i]? with
        | some b => putS h id (.map cl bs l) (fun h => .ok (.tuple ⟨[v, .int .i64 (.ofNat b)]⟩) h nx)
        | none => .bad
      | some none => match zeroTy P el with
        | some z => natS (cl + 1) (fun cl' => listS (bs ++ [cl]) (fun bs => listS (l ++ [(k, z)]) (fun l => putS h id (.map cl' bs l) (fun h => .ok (.tuple ⟨[z, .int .i64 (.ofNat cl)]⟩) h nx))))
        | none => .bad
      | none => .bad
    | _, _ => .bad
  | _, _ => .bad
noncomputable def idxB (b : Nat) : List Nat → Nat → Option Nat
  | c :: bs, i => bo (Nat.beq c b) (some i) (idxB b bs (i + 1))
  | [], _ => none
def setV : List (Value × Value) → Nat → Value → List (Value × Value)
  | p :: l, 0, x => (p.1, x) :: l
  | p :: l, i + 1, x => p :: setV l i x
  | [], _, _ => []
noncomputable def mEntryStore (h : Hp) (nx : Nat) : Option Value → Option Value → Option Value → OR
  | some (.map (some id)), some (.int _ (.ofNat b)), some x => match h.get id with
    | some (.map cl bs l) => match idxB b bs 0 with
      | some i => listS (setV l i x) (fun l => putS h id (.map cl bs l) (fun h => .ok undef h nx))
      | none => .bad
    | _ => .bad
  | _, _, _ => .bad

/-- What a call comes to. -/
abbrev CallF := FuncId → List Value → Hp → Nat → OR
/-- Is it a function of the program's own? -/
noncomputable def callB (P : Program) (f : FuncId) : Bool :=
  match P.funcs[f]? with
  | some fn => fn.body.isSome && !(fn.name == "runtime.NumGoroutine")
  | none => false
noncomputable def mCall (P : Program) (call : CallF) (h : Hp) (nx : Nat) : Option Value → Option (List Value) → OR
  | some (.func (.func f) ⟨xs⟩ ⟨cs⟩), some vs => bo (callB P f) (call f (xs ++ (vs ++ cs)) h nx) .bad
  | some (.func (.yield l) ⟨[]⟩ ⟨[]⟩), some vs => natS (Nat.add P.funcs.size l) (fun f => call f vs h nx)
  | _, _ => .bad
noncomputable def mBuiltin (P : Program) (G : Nat) (e : Tb Value) (h : Hp) (nx : Nat) (o : Oper) (b : Builtin) (args : List Operand) (ts : List TypeId) : OR :=
  match b, args, ts with
  | .len, [x], [t] => mLen P h nx t (evO G e x)
  | .append, [s, x], [t, u] => match P.underlying u with
    | some (.slice _) => mAppend P h nx t (evO G e s) (evO G e x)
    | some .string => mAppend P h nx t (evO G e s) (evO G e x)
    | _ => .bad
  | .copy, [d, x], [t, _] => mCopy P h nx t (evO G e d) (evO G e x)
  | .clear, [x], [t] => mClear P h nx t (evO G e x)
  | .min, _, _ => mFlat P G e h nx o
  | .max, _, _ => mFlat P G e h nx o
  | _, _, _ => .bad
/-- One operation, by its kind. -/
abbrev BrF := Program → Nat → CallF → Tb Value → Hp → Nat → Oper → OR
noncomputable def b_move (x : Operand) : BrF := fun _ G _ e h nx _ => mMove h nx (evO G e x)
noncomputable def b_assign (x : Operand) : BrF := fun _ G _ e h nx _ => mMove h nx (evO G e x)
noncomputable def b_pick (c a b : Operand) : BrF := fun _ G _ e h nx _ => mPick h nx (evO G e c) (evO G e a) (evO G e b)
noncomputable def b_alloc (el : TypeId) : BrF := fun P _ _ _ h nx _ => mAlloc P h nx el
noncomputable def b_box (el : TypeId) (x : Operand) : BrF := fun _ G _ e h nx _ => mBox h nx el (evO G e x)
noncomputable def b_build (t : TypeId) (ps : Array (Nat × Operand)) : BrF := fun P G _ e h nx _ => mBuild P h nx t (evP G e ps.toList)
noncomputable def b_buildSlice (t : TypeId) (m : Nat) (ps : Array (Nat × Operand)) : BrF := fun P G _ e h nx _ => mBuildSlice P h nx t m (evP G e ps.toList)
noncomputable def b_insert (t : TypeId) (m k x : Operand) : BrF := fun P G _ e h nx _ => mUpdate P h nx t (evO G e m) (evO G e k) (evO G e x)
noncomputable def b_load (t : TypeId) (a : Operand) : BrF := fun P G _ e h nx _ => mLoad P h nx t (evO G e a)
noncomputable def b_store (t : TypeId) (a x : Operand) : BrF := fun P G _ e h nx _ => mStore P h nx t (evO G e a) (evO G e x)
noncomputable def b_nilCheck (x : Operand) : BrF := fun _ G _ e h nx _ => mNil h nx (evO G e x)
noncomputable def b_binOp (op : BinOp) (t : TypeId) (x y : Operand) (_ : TypeId) : BrF := fun P G _ e h nx o => mBin P G e h nx o op t (evO G e x) (evO G e y)
noncomputable def b_unOp (_ : UnOp) (_ : TypeId) (_ : Operand) : BrF := fun P G _ e h nx o => mFlat P G e h nx o
noncomputable def b_convert (s d : TypeId) (x : Operand) : BrF := fun P G _ e h nx o => mConv P G e h nx o s d (evO G e x)
noncomputable def b_sliceToArrayPointer (t : TypeId) (x : Operand) : BrF := fun P G _ e h nx _ => mArr P h nx t (evO G e x)
noncomputable def b_makeInterface (t : TypeId) (x : Operand) : BrF := fun P G _ e h nx _ => mIface P h nx t (evO G e x)
noncomputable def b_makeFunc (f : Fn) (xs ys : Array Operand) : BrF := fun _ G _ e h nx _ => mFunc h nx f (evL G e xs.toList) (evL G e ys.toList)
noncomputable def b_makeMap (t : TypeId) (r : Option Operand) : BrF := fun P G _ e h nx _ => mMakeMap P h nx t (r.map (evO G e))
noncomputable def b_makeSlice (t : TypeId) (l c : Operand) : BrF := fun P G _ e h nx _ => mMakeSlice P h nx t (evO G e l) (evO G e c)
noncomputable def b_slice (t : TypeId) (x : Operand) (lo hi mx : Option Operand) : BrF := fun P G _ e h nx _ => mSlice P h nx t (evO G e x) (lo.map (evO G e)) (hi.map (evO G e)) (mx.map (evO G e))
noncomputable def b_fieldAddr (s : TypeId) (x : Operand) (f : Nat) : BrF := fun P G _ e h nx _ => mFieldAddr P h nx s f (evO G e x)
noncomputable def b_field (s : TypeId) (x : Operand) (f : Nat) : BrF := fun P G _ e h nx _ => mField P h nx s f (evO G e x)
noncomputable def b_indexAddr (t : TypeId) (x i : Operand) : BrF := fun P G _ e h nx _ => mIndexAddr P h nx t (evO G e x) (evO G e i)
noncomputable def b_index (t : TypeId) (x i : Operand) : BrF := fun P G _ e h nx _ => mIndex P h nx t (evO G e x) (evO G e i)
noncomputable def b_lookup (t : TypeId) (x i : Operand) (ok : Bool) : BrF := fun P G _ e h nx _ => mLookup P h nx t ok (evO G e x) (evO G e i)
noncomputable def b_mapUpdate (t : TypeId) (m k x : Operand) : BrF := fun P G _ e h nx _ => mUpdate P h nx t (evO G e m) (evO G e k) (evO G e x)
noncomputable def b_range (t : TypeId) (x : Operand) : BrF := fun P G _ e h nx _ => mRange P h nx t (evO G e x)
noncomputable def b_next (x : Operand) (b : Bool) : BrF := fun _ G _ e h nx _ => mNext h nx b (evO G e x)
noncomputable def b_mapEntry (t : TypeId) (m k : Operand) : BrF := fun P G _ e h nx _ => mMapEntry P h nx t (evO G e m) (evO G e k)
noncomputable def b_entryStore (_ : TypeId) (m s x : Operand) : BrF := fun _ G _ e h nx _ => mEntryStore h nx (evO G e m) (evO G e s) (evO G e x)
noncomputable def b_entry (x : Operand) : BrF := fun _ G _ e h nx _ => mEntry h nx (evO G e x)
noncomputable def b_extract (x : Operand) (i : Nat) : BrF := fun _ G _ e h nx _ => mExtract h nx i (evO G e x)
noncomputable def b_call (c : Call) : BrF := fun P G call e h nx o => match c.callee with
    | .value f => mCall P call h nx (evO G e f) (evL G e c.args.toList)
    | .builtin b => mBuiltin P G e h nx o b c.args.toList c.argTypes.toList
    | _ => .bad
noncomputable def bBad : BrF := fun _ _ _ _ _ _ _ => .bad
/-- One operation, as the proofs take it. -/
noncomputable def sOp (P : Program) (G : Nat) (call : CallF) (e : Tb Value) (h : Hp) (nx : Nat) (o : Oper) : OR :=
  @Op.rec (fun _ => BrF) b_move b_assign b_pick b_alloc b_box b_build b_buildSlice b_insert b_load b_store (fun _ => bBad) (fun _ => bBad) b_nilCheck b_binOp b_unOp b_convert b_sliceToArrayPointer b_makeInterface b_makeFunc b_makeMap (fun _ _ => bBad) b_makeSlice b_slice b_fieldAddr b_field b_indexAddr b_index b_lookup b_mapUpdate b_mapEntry b_entryStore b_range b_next b_entry (fun _ _ _ _ => bBad) b_extract b_call (fun _ => bBad) (fun _ => bBad) (fun _ => bBad) (fun _ _ => bBad) (fun _ _ _ => bBad) (fun _ _ => bBad) o.op P G call e h nx o
/-- The rest of this text: the same once more, with few steps for the kernel. -/
noncomputable def valR (v : Value) : (Value → Option (Tb Value)) → Option (Tb Value) :=
  @Value.rec (fun _ => (Value → Option (Tb Value)) → Option (Tb Value)) (fun _ => Unit) (fun _ => Unit)
    (fun b f => @Bool.rec (fun _ => Option (Tb Value)) (f (.bool false)) (f (.bool true)) b)
    (fun k n f => @Int.rec (fun _ => Option (Tb Value)) (fun m => natS m (fun m => f (.int k (.ofNat m)))) (fun m => natS m (fun m => f (.int k (.negSucc m)))) n)
    (fun k n f => f (.float k n))
    (fun k r i f => f (.complex k r i))
    (fun s f => f (.string s))
    (fun a f => @Option.rec Addr (fun _ => Option (Tb Value)) (f (.pointer none)) (fun ad => @Addr.rec (fun _ => Option (Tb Value)) (fun b o sp => natS o (fun o => f (.pointer (some ⟨b, o, sp⟩)))) ad) a)
    (fun a n c f => @Option.rec Addr (fun _ => Option (Tb Value)) (f (.slice none n c)) (fun ad => @Addr.rec (fun _ => Option (Tb Value)) (fun b o sp => natS o (fun o => natS n (fun n => natS c (fun c => f (.slice (some ⟨b, o, sp⟩) n c))))) ad) a)
    (fun r f => f (.map r))
    (fun r f => f (.chan r))
    (fun g x y _ _ f => f (.func g x y))
    (fun f => f .nilFunc)
    (fun t v _ f => f (.iface t v))
    (fun f => f .nilIface)
    (fun x _ f => f (.agg x))
    (fun x _ f => f (.tuple x))
    (fun _ _ => ()) () (fun _ _ _ _ => ()) v
theorem valR_eq (v : Value) (f : Value → Option (Tb Value)) : valR v f = f v := by
  cases v with
  | bool b => cases b <;> rfl
  | int k n => cases n with
    | ofNat m => exact natS_eq m fun m => f (.int k (.ofNat m))
    | negSucc m => exact natS_eq m fun m => f (.int k (.negSucc m))
  | pointer a => rcases a with _ | ⟨b, o, sp⟩
                 · rfl
                 · exact natS_eq o fun o => f (.pointer (some ⟨b, o, sp⟩))
  | slice a n c => rcases a with _ | ⟨b, o, sp⟩
                   · rfl
                   · show natS o (fun o => natS n (fun n => natS c (fun c => f (.slice (some ⟨b, o, sp⟩) n c)))) = _
                     rw [natS_eq, natS_eq, natS_eq]
  | _ => rfl
noncomputable def vPtr (v : Value) : OR → (Nat → Nat → OR) → OR :=
  @Value.rec (fun _ => OR → (Nat → Nat → OR) → OR) (fun _ => Unit) (fun _ => Unit)
    (fun _ d _ => d)
    (fun _ _ d _ => d)
    (fun _ _ d _ => d)
    (fun _ _ _ d _ => d)
    (fun _ d _ => d)
    (fun a d s => @Option.rec Addr (fun _ => OR) d (fun ad => @Addr.rec (fun _ => OR) (fun b o sp => @Option.rec Nat (fun _ => OR) (s b o) (fun _ => d) sp) ad) a)
    (fun _ _ _ d _ => d)
    (fun _ d _ => d)
    (fun _ d _ => d)
    (fun _ _ _ _ _ d _ => d)
    (fun d _ => d)
    (fun _ _ _ d _ => d)
    (fun d _ => d)
    (fun _ _ d _ => d)
    (fun _ _ d _ => d)
    (fun _ _ => ()) () (fun _ _ _ _ => ()) v
noncomputable def vNat (v : Value) : OR → (Nat → OR) → OR :=
  @Value.rec (fun _ => OR → (Nat → OR) → OR) (fun _ => Unit) (fun _ => Unit)
    (fun _ d _ => d)
    (fun _ n d s => @Int.rec (fun _ => OR) (fun m => s m) (fun _ => d) n)
    (fun _ _ d _ => d)
    (fun _ _ _ d _ => d)
    (fun _ d _ => d)
    (fun _ d _ => d)
    (fun _ _ _ d _ => d)
    (fun _ d _ => d)
    (fun _ d _ => d)
    (fun _ _ _ _ _ d _ => d)
    (fun d _ => d)
    (fun _ _ _ d _ => d)
    (fun d _ => d)
    (fun _ _ d _ => d)
    (fun _ _ d _ => d)
    (fun _ _ => ()) () (fun _ _ _ _ => ()) v
noncomputable def vIdx (v : Value) : OR → (Nat → Nat → Nat → OR) → (Nat → Nat → OR) → OR :=
  @Value.rec (fun _ => OR → (Nat → Nat → Nat → OR) → (Nat → Nat → OR) → OR) (fun _ => Unit) (fun _ => Unit)
    (fun _ d _ _ => d)
    (fun _ _ d _ _ => d)
    (fun _ _ d _ _ => d)
    (fun _ _ _ d _ _ => d)
    (fun _ d _ _ => d)
    (fun a d _ p => @Option.rec Addr (fun _ => OR) d (fun ad => @Addr.rec (fun _ => OR) (fun b o sp => @Option.rec Nat (fun _ => OR) (p b o) (fun _ => d) sp) ad) a)
    (fun a n _ d s _ => @Option.rec Addr (fun _ => OR) d (fun ad => @Addr.rec (fun _ => OR) (fun b o _ => s b o n) ad) a)
    (fun _ d _ _ => d)
    (fun _ d _ _ => d)
    (fun _ _ _ _ _ d _ _ => d)
    (fun d _ _ => d)
    (fun _ _ _ d _ _ => d)
    (fun d _ _ => d)
    (fun _ _ d _ _ => d)
    (fun _ _ d _ _ => d)
    (fun _ _ => ()) () (fun _ _ _ _ => ()) v
noncomputable def vTup (v : Value) : OR → (List Value → OR) → OR :=
  @Value.rec (fun _ => OR → (List Value → OR) → OR) (fun _ => Unit) (fun _ => Unit)
    (fun _ d _ => d)
    (fun _ _ d _ => d)
    (fun _ _ d _ => d)
    (fun _ _ _ d _ => d)
    (fun _ d _ => d)
    (fun _ d _ => d)
    (fun _ _ _ d _ => d)
    (fun _ d _ => d)
    (fun _ d _ => d)
    (fun _ _ _ _ _ d _ => d)
    (fun d _ => d)
    (fun _ _ _ d _ => d)
    (fun d _ => d)
    (fun _ _ d _ => d)
    (fun x _ _ s => s x.toList)
    (fun _ _ => ()) () (fun _ _ _ _ => ()) v
noncomputable def vAgg (v : Value) : OR → (List Value → OR) → OR :=
  @Value.rec (fun _ => OR → (List Value → OR) → OR) (fun _ => Unit) (fun _ => Unit)
    (fun _ d _ => d)
    (fun _ _ d _ => d)
    (fun _ _ d _ => d)
    (fun _ _ _ d _ => d)
    (fun _ d _ => d)
    (fun _ d _ => d)
    (fun _ _ _ d _ => d)
    (fun _ d _ => d)
    (fun _ d _ => d)
    (fun _ _ _ _ _ d _ => d)
    (fun d _ => d)
    (fun _ _ _ d _ => d)
    (fun d _ => d)
    (fun x _ _ s => s x.toList)
    (fun _ _ d _ => d)
    (fun _ _ => ()) () (fun _ _ _ _ => ()) v
noncomputable def vSlN (v : Value) : OR → (Nat → OR) → OR :=
  @Value.rec (fun _ => OR → (Nat → OR) → OR) (fun _ => Unit) (fun _ => Unit)
    (fun _ d _ => d)
    (fun _ _ d _ => d)
    (fun _ _ d _ => d)
    (fun _ _ _ d _ => d)
    (fun _ d _ => d)
    (fun _ d _ => d)
    (fun _ n _ _ s => s n)
    (fun _ d _ => d)
    (fun _ d _ => d)
    (fun _ _ _ _ _ d _ => d)
    (fun d _ => d)
    (fun _ _ _ d _ => d)
    (fun d _ => d)
    (fun _ _ d _ => d)
    (fun _ _ d _ => d)
    (fun _ _ => ()) () (fun _ _ _ _ => ()) v
noncomputable def vFn (v : Value) : OR → (Nat → List Value → List Value → OR) → OR :=
  @Value.rec (fun _ => OR → (Nat → List Value → List Value → OR) → OR) (fun _ => Unit) (fun _ => Unit)
    (fun _ d _ => d)
    (fun _ _ d _ => d)
    (fun _ _ d _ => d)
    (fun _ _ _ d _ => d)
    (fun _ d _ => d)
    (fun _ d _ => d)
    (fun _ _ _ d _ => d)
    (fun _ d _ => d)
    (fun _ d _ => d)
    (fun g x y _ _ d s => match g with | .func f => s f x.toList y.toList | _ => d)
    (fun d _ => d)
    (fun _ _ _ d _ => d)
    (fun d _ => d)
    (fun _ _ d _ => d)
    (fun _ _ d _ => d)
    (fun _ _ => ()) () (fun _ _ _ _ => ()) v
noncomputable def vSomeP (v : Value) : OR → OR → OR :=
  @Value.rec (fun _ => OR → OR → OR) (fun _ => Unit) (fun _ => Unit)
    (fun _ d _ => d)
    (fun _ _ d _ => d)
    (fun _ _ d _ => d)
    (fun _ _ _ d _ => d)
    (fun _ d _ => d)
    (fun a d s => @Option.rec Addr (fun _ => OR) d (fun _ => s) a)
    (fun _ _ _ d _ => d)
    (fun _ d _ => d)
    (fun _ d _ => d)
    (fun _ _ _ _ _ d _ => d)
    (fun d _ => d)
    (fun _ _ _ d _ => d)
    (fun d _ => d)
    (fun _ _ d _ => d)
    (fun _ _ d _ => d)
    (fun _ _ => ()) () (fun _ _ _ _ => ()) v
noncomputable def cellsL (v : Value) : List Value :=
  @Value.rec (fun _ => List Value) (fun _ => Unit) (fun _ => Unit)
    (fun b => [(.bool b)])
    (fun k n => [(.int k n)])
    (fun k n => [(.float k n)])
    (fun k r i => [(.complex k r i)])
    (fun s => [(.string s)])
    (fun a => [(.pointer a)])
    (fun a n c => [(.slice a n c)])
    (fun r => [(.map r)])
    (fun r => [(.chan r)])
    (fun g x y _ _ => [(.func g x y)])
    ([.nilFunc])
    (fun t v _ => [(.iface t v)])
    ([.nilIface])
    (fun x _ => x.toList)
    (fun x _ => [(.tuple x)])
    (fun _ _ => ()) () (fun _ _ _ _ => ()) v
noncomputable def vGd (v : Value) : Bool → Option Bool :=
  @Value.rec (fun _ => Bool → Option Bool) (fun _ => Unit) (fun _ => Unit)
    (fun b w => some (@Bool.rec (fun _ => Bool) (@Bool.rec (fun _ => Bool) true false w) w b))
    (fun _ _ _ => none)
    (fun _ _ _ => none)
    (fun _ _ _ _ => none)
    (fun _ _ => none)
    (fun _ _ => none)
    (fun _ _ _ _ => none)
    (fun _ _ => none)
    (fun _ _ => none)
    (fun _ _ _ _ _ _ => none)
    (fun _ => none)
    (fun _ _ _ _ => none)
    (fun _ => none)
    (fun _ _ _ => none)
    (fun x _ _ => @List.rec Value (fun _ => Option Bool) (some false) (fun _ _ _ => none) x.toList)
    (fun _ _ => ()) () (fun _ _ _ _ => ()) v
theorem cellsL_eq (v : Value) : cellsL v = v.cells.toList := by cases v <;> rfl
noncomputable def blCells (B : Option Bl) (d : OR) (s : Tb Value → OR) : OR :=
  @Option.rec Bl (fun _ => OR) d (fun B => @Bl.rec (fun _ => OR) (fun _ _ _ c => s c) (fun _ _ _ => d) (fun _ _ => d) (fun _ _ _ _ => d) (fun _ _ _ _ _ _ _ => d) B) B
noncomputable def blCellsW (B : Option Bl) (s : Nat → Nat → Nat → Tb Value → Option Hp) : Option Hp :=
  @Option.rec Bl (fun _ => Option Hp) none (fun B => @Bl.rec (fun _ => Option Hp) s (fun _ _ _ => none) (fun _ _ => none) (fun _ _ _ _ => none) (fun _ _ _ _ _ _ _ => none) B) B
noncomputable def fLoad (P : Program) (h : Hp) (nx : Nat) (t : TypeId) (x : Option Value) : OR :=
  oo x .bad (fun x => vPtr x .bad (fun id off => blCells (h.get id) .bad (fun c => oo (rowSz P t) .bad (fun r => @Option.rec Nat (fun _ => OR) (oo (c.get off) .bad (fun v => .ok v h nx)) (fun n => oo (ldN c n off) .bad (fun l => .ok (.agg ⟨l⟩) h nx)) r))))
theorem fLoad_eq (P : Program) (h : Hp) (nx : Nat) (t : TypeId) (x : Option Value) : fLoad P h nx t x = mLoad P h nx t x := by
  cases x with
  | none => rfl
  | some x =>
    cases x with
    | pointer a =>
      rcases a with _ | ⟨b, o, _ | z⟩
      · rfl
      · show blCells (h.get b) .bad _ = _
        unfold mLoad
        simp only
        generalize h.get b = B
        rcases B with _ | B
        · rfl
        · cases B with
          | cells el n k c =>
            show oo (rowSz P t) _ _ = _
            generalize rowSz P t = r
            rcases r with _ | r
            · rfl
            · rcases r with _ | n
              · show oo (c.get o) _ _ = _
                simp only
                generalize c.get o = q
                cases q <;> rfl
              · show oo (ldN c n o) _ _ = _
                simp only
                generalize ldN c n o = q
                cases q <;> rfl
          | _ => rfl
      · rfl
    | _ => rfl
noncomputable def lenR (l : List Value) : Nat := @List.rec Value (fun _ => Nat) 0 (fun _ _ ih => Nat.succ ih) l
theorem lenR_eq : ∀ l : List Value, lenR l = l.length
  | [] => rfl
  | _ :: l => congrArg Nat.succ (lenR_eq l)
noncomputable def oneR (v : Value) : Bool :=
  @Value.rec (fun _ => Bool) (fun _ => Unit) (fun _ => Unit)
    (fun _ => true)
    (fun _ _ => true)
    (fun _ _ => true)
    (fun _ _ _ => true)
    (fun _ => true)
    (fun _ => true)
    (fun _ _ _ => true)
    (fun _ => true)
    (fun _ => true)
    (fun _ _ _ _ _ => true)
    (true)
    (fun _ _ _ => true)
    (true)
    (fun _ _ => false)
    (fun _ _ => false)
    (fun _ _ => ()) () (fun _ _ _ _ => ()) v
theorem oneR_eq (v : Value) : oneR v = v.oneCell' := by cases v <;> rfl
noncomputable def allOne (l : List Value) : Bool := @List.rec Value (fun _ => Bool) true (fun v _ ih => bo (oneR v) ih false) l
theorem allOne_eq : ∀ l : List Value, allOne l = l.all (·.oneCell')
  | [] => rfl
  | v :: l => by
    show bo (oneR v) (allOne l) false = _
    rw [allOne_eq l, oneR_eq, List.all_cons]
    cases v.oneCell' <;> rfl
noncomputable def fWr (h : Hp) (id off : Nat) (vs : List Value) : Option Hp :=
  blCellsW (h.get id) (fun el n k c => bo (Nat.ble (Nat.add off (lenR vs)) n) (bo (Nat.beq k 0) (bo (allOne vs) (stS vs c off (fun c => putS h id (.cells el n k c) some)) none) none) none)
theorem fWr_eq (h : Hp) (id off : Nat) (vs : List Value) : fWr h id off vs = wrCells h id off vs := by
  unfold fWr wrCells
  generalize h.get id = B
  rcases B with _ | B
  · rfl
  · cases B with
    | cells el n k c =>
      show bo (Nat.ble (off + lenR vs) n) _ none = bo (Nat.ble (off + vs.length) n && (Nat.beq k 0 && vs.all (·.oneCell'))) _ none
      rw [lenR_eq, allOne_eq]
      cases Nat.ble (off + vs.length) n <;> cases Nat.beq k 0 <;> cases vs.all (·.oneCell') <;> rfl
    | _ => rfl
noncomputable def fStore (P : Program) (h : Hp) (nx : Nat) (t : TypeId) (x y : Option Value) : OR :=
  oo x .bad (fun x => oo y .bad (fun v => vPtr x .bad (fun id off => oo (sizeTy P t) .bad (fun n => bo (Nat.beq (lenR (cellsL v)) n) (oo (fWr h id off (cellsL v)) .bad (fun h' => .ok undef h' nx)) .bad))))
theorem fStore_eq (P : Program) (h : Hp) (nx : Nat) (t : TypeId) (x y : Option Value) : fStore P h nx t x y = mStore P h nx t x y := by
  cases x with
  | none => rfl
  | some x =>
    cases y with
    | none =>
      cases x with
      | pointer a => rcases a with _ | ⟨b, o, _ | z⟩ <;> rfl
      | _ => rfl
    | some v =>
      cases x with
      | pointer a =>
        rcases a with _ | ⟨b, o, _ | z⟩
        · rfl
        · show oo (sizeTy P t) OR.bad _ = _
          unfold mStore
          simp only
          generalize sizeTy P t = r
          rcases r with _ | n
          · rfl
          · show bo (Nat.beq (lenR (cellsL v)) n) (oo (fWr h b o (cellsL v)) OR.bad _) OR.bad = _
            rw [cellsL_eq, lenR_eq, fWr_eq]
            simp only
            generalize wrCells h b o v.cells.toList = q
            cases q <;> rfl
        · rfl
      | _ => rfl
noncomputable def fFieldAddr (P : Program) (h : Hp) (nx : Nat) (s f : Nat) (x : Option Value) : OR :=
  oo x .bad (fun x => vPtr x .bad (fun id off => oo (fieldOff P s f) .bad (fun k => .ok (.pointer (some ⟨id, Nat.add off k, none⟩)) h nx)))
theorem fFieldAddr_eq (P : Program) (h : Hp) (nx : Nat) (s f : Nat) (x : Option Value) : fFieldAddr P h nx s f x = mFieldAddr P h nx s f x := by
  cases x with
  | none => rfl
  | some x =>
    cases x with
    | pointer a =>
      rcases a with _ | ⟨b, o, _ | z⟩
      · rfl
      · show oo (fieldOff P s f) OR.bad _ = _
        unfold mFieldAddr
        simp only
        generalize fieldOff P s f = r
        cases r <;> rfl
      · rfl
    | _ => rfl
noncomputable def fIndexAddr (P : Program) (h : Hp) (nx : Nat) (t : TypeId) (x i : Option Value) : OR :=
  oo x .bad (fun x => oo i .bad (fun i => vIdx x .bad
    (fun id off len => vNat i .bad (fun m => oo (sliceElem P t) .bad (fun p => bo (Nat.blt m len) (.ok (.pointer (some ⟨id, Nat.add off (Nat.mul m p.2), none⟩)) h nx) .bad)))
    (fun id off => vNat i .bad (fun m => oo (arrElem P t) .bad (fun p => bo (Nat.blt m p.1) (.ok (.pointer (some ⟨id, Nat.add off (Nat.mul m p.2.2), none⟩)) h nx) .bad)))))
theorem fIndexAddr_eq (P : Program) (h : Hp) (nx : Nat) (t : TypeId) (x i : Option Value) : fIndexAddr P h nx t x i = mIndexAddr P h nx t x i := by
  cases x with
  | none => rfl
  | some x =>
    cases i with
    | none => cases x with
      | pointer a => rcases a with _ | ⟨b, o, _ | z⟩ <;> rfl
      | slice a n c => rcases a with _ | ⟨b, o, _ | z⟩ <;> rfl
      | _ => rfl
    | some i =>
      have hs : ∀ id off len sp cap, oo (some i) OR.bad (fun i => vNat i .bad (fun m => oo (sliceElem P t) .bad (fun p => bo (Nat.blt m len) (.ok (.pointer (some ⟨id, Nat.add off (Nat.mul m p.2), none⟩)) h nx) .bad))) = mIndexAddr P h nx t (some (.slice (some ⟨id, off, sp⟩) len cap)) (some i) := fun id off len sp cap => by
        cases i with
        | int k n => cases n with
          | ofNat m =>
            show oo (sliceElem P t) OR.bad _ = _
            unfold mIndexAddr
            simp only
            generalize sliceElem P t = r
            cases r <;> rfl
          | negSucc m => rfl
        | _ => rfl
      cases x with
      | pointer a =>
        rcases a with _ | ⟨b, o, _ | z⟩
        · cases i <;> rfl
        · cases i with
          | int k n => cases n with
            | ofNat m =>
              show oo (arrElem P t) OR.bad _ = _
              unfold mIndexAddr
              simp only
              generalize arrElem P t = r
              cases r <;> rfl
            | negSucc m => rfl
          | _ => rfl
        · cases i <;> rfl
      | slice a n c =>
        rcases a with _ | ⟨b, o, sp⟩
        · cases i <;> rfl
        · exact hs b o n sp c
      | _ => cases i <;> rfl
noncomputable def nthR (l : List Value) : Nat → Option Value := @List.rec Value (fun _ => Nat → Option Value) (fun _ => none) (fun x _ ih i => @Nat.rec (fun _ => Option Value) (some x) (fun m _ => ih m) i) l
theorem nthR_eq : ∀ (l : List Value) (i : Nat), nthR l i = l[i]?
  | [], i => by simp [nthR]
  | x :: l, 0 => rfl
  | x :: l, i + 1 => by rw [List.getElem?_cons_succ]; exact nthR_eq l i
noncomputable def fExtract (h : Hp) (nx : Nat) (i : Nat) (x : Option Value) : OR := oo x .bad (fun x => vTup x .bad (fun vs => oo (nthR vs i) .bad (fun v => .ok v h nx)))
theorem fExtract_eq (h : Hp) (nx : Nat) (i : Nat) (x : Option Value) : fExtract h nx i x = mExtract h nx i x := by
  cases x with
  | none => rfl
  | some x =>
    cases x with
    | tuple vs =>
      obtain ⟨l⟩ := vs
      show oo (nthR l i) OR.bad _ = _
      unfold mExtract
      rw [nthR_eq]
      simp only
      generalize l[i]? = r
      cases r <;> rfl
    | _ => rfl
noncomputable def fField (P : Program) (h : Hp) (nx : Nat) (s f : Nat) (x : Option Value) : OR :=
  oo x .bad (fun x => vAgg x .bad (fun cs => oo (fieldPl P s f) .bad (fun p => @Option.rec Nat (fun _ => OR) (oo (nthR cs p.1) .bad (fun v => .ok v h nx)) (fun n => .ok (.agg ⟨(cs.drop p.1).take n⟩) h nx) p.2)))
theorem fField_eq (P : Program) (h : Hp) (nx : Nat) (s f : Nat) (x : Option Value) : fField P h nx s f x = mField P h nx s f x := by
  cases x with
  | none => rfl
  | some x =>
    cases x with
    | agg vs =>
      obtain ⟨l⟩ := vs
      show oo (fieldPl P s f) OR.bad _ = _
      unfold mField
      simp only
      generalize fieldPl P s f = r
      rcases r with _ | ⟨off, _ | n⟩
      · rfl
      · show oo (nthR l off) OR.bad _ = _
        rw [nthR_eq]
        show _ = (match partL l off none with | some v => OR.ok v h nx | none => .bad)
        unfold partL
        generalize l[off]? = q
        cases q <;> rfl
      · rfl
    | _ => rfl
noncomputable def fLen (P : Program) (h : Hp) (nx : Nat) (t : TypeId) (x : Option Value) : OR :=
  oo x .bad (fun x => vSlN x (mLen P h nx t (some x)) (fun n => oo (sliceElem P t) .bad (fun _ => .ok (.int .i64 (.ofNat n)) h nx)))
theorem fLen_eq (P : Program) (h : Hp) (nx : Nat) (t : TypeId) (x : Option Value) : fLen P h nx t x = mLen P h nx t x := by
  cases x with
  | none => rfl
  | some x =>
    cases x with
    | slice a n c =>
      show oo (sliceElem P t) OR.bad _ = _
      unfold mLen
      simp only
      generalize sliceElem P t = r
      cases r <;> rfl
    | _ => rfl
noncomputable def fCall (P : Program) (call : CallF) (h : Hp) (nx : Nat) (x : Option Value) (vs : Option (List Value)) : OR :=
  oo x (mCall P call h nx x vs) (fun f => oo vs (mCall P call h nx x vs) (fun l => vFn f (mCall P call h nx x vs) (fun f xs cs => bo (callB P f) (call f (xs ++ (l ++ cs)) h nx) .bad)))
theorem fCall_eq (P : Program) (call : CallF) (h : Hp) (nx : Nat) (x : Option Value) (vs : Option (List Value)) : fCall P call h nx x vs = mCall P call h nx x vs := by
  cases x with
  | none => rfl
  | some x =>
    cases vs with
    | none => rfl
    | some l =>
      cases x with
      | func g a b => cases g <;> rfl
      | _ => rfl
noncomputable def fNil (h : Hp) (nx : Nat) (x : Option Value) : OR := oo x .bad (fun v => vSomeP v (mNil h nx (some v)) (.ok v h nx))
theorem fNil_eq (h : Hp) (nx : Nat) (x : Option Value) : fNil h nx x = mNil h nx x := by
  cases x with
  | none => rfl
  | some x => cases x with
    | pointer a => cases a <;> rfl
    | _ => rfl
noncomputable def lim (k : IntKind) : Nat := @IntKind.rec (fun _ => Nat) 128 32768 2147483648 9223372036854775808 256 65536 4294967296 18446744073709551616 k
noncomputable def knd (k : IntKind) : Nat := @IntKind.rec (fun _ => Nat) 0 1 2 3 4 5 6 7 k
noncomputable def wrI (k : IntKind) (a : Int) : Int := @Int.rec (fun _ => Int) (fun m => bo (Nat.blt m (lim k)) (.ofNat m) (wr k (.ofNat m))) (fun m => wr k (.negSucc m)) a
theorem wrI_eq (k : IntKind) (a : Int) : wrI k a = wr k a := by
  cases a with
  | ofNat m =>
    show bo (Nat.blt m (lim k)) _ _ = _
    have : lim k = ikLim k := by cases k <;> rfl
    cases hb : Nat.blt m (lim k) with
    | false => rfl
    | true => rw [bo_true]; unfold wr; simp only; rw [← this, hb, bo_true]
  | negSucc m => rfl
noncomputable def addI (a b : Int) : Int := @Int.rec (fun _ => Int → Int) (fun m b => @Int.rec (fun _ => Int) (fun n => .ofNat (Nat.add m n)) (fun n => Int.add (.ofNat m) (.negSucc n)) b) (fun m b => Int.add (.negSucc m) b) a b
theorem addI_eq (a b : Int) : addI a b = Int.add a b := by cases a <;> cases b <;> rfl
noncomputable def subI (a b : Int) : Int := @Int.rec (fun _ => Int → Int) (fun m b => @Int.rec (fun _ => Int) (fun n => bo (Nat.ble n m) (.ofNat (Nat.sub m n)) (Int.sub (.ofNat m) (.ofNat n))) (fun n => Int.sub (.ofNat m) (.negSucc n)) b) (fun m b => Int.sub (.negSucc m) b) a b
theorem subI_eq (a b : Int) : subI a b = Int.sub a b := by
  cases a with
  | negSucc m => rfl
  | ofNat m =>
    cases b with
    | negSucc n => rfl
    | ofNat n =>
      show bo (Nat.ble n m) _ _ = _
      cases hb : Nat.ble n m with
      | false => rfl
      | true =>
        have := Nat.le_of_ble_eq_true hb
        show ((m - n : Nat) : Int) = (m : Int) - (n : Int)
        omega
noncomputable def ltI (a b : Int) : Bool := @Int.rec (fun _ => Int → Bool) (fun m b => @Int.rec (fun _ => Bool) (fun n => Nat.blt m n) (fun _ => false) b) (fun m b => @Int.rec (fun _ => Bool) (fun _ => true) (fun n => Nat.blt n m) b) a b
theorem ltI_eq (a b : Int) : ltI a b = iLt a b := by cases a <;> cases b <;> rfl
noncomputable def eqI (a b : Int) : Bool := @Int.rec (fun _ => Int → Bool) (fun m b => @Int.rec (fun _ => Bool) (fun n => Nat.beq m n) (fun _ => false) b) (fun m b => @Int.rec (fun _ => Bool) (fun _ => false) (fun n => Nat.beq m n) b) a b
theorem eqI_eq (a b : Int) : eqI a b = iEq a b := by cases a <;> cases b <;> rfl
noncomputable def notR (b : Bool) : Bool := bo b false true
theorem notR_eq (b : Bool) : notR b = !b := by cases b <;> rfl
abbrev IopF := IntKind → Int → Int → Option Value
noncomputable def opI (op : BinOp) : IopF :=
  @BinOp.rec (fun _ => IopF) (fun k a b => some (.int k (wrI k (addI a b)))) (fun k a b => some (.int k (wrI k (subI a b)))) iMul iQuo iRem iAnd iOr iXor (fun _ _ _ => none) (fun _ _ _ => none) (fun _ _ _ => none)
    (fun _ a b => some (.bool (eqI a b))) (fun _ a b => some (.bool (notR (eqI a b)))) (fun _ a b => some (.bool (ltI a b))) (fun _ a b => some (.bool (notR (ltI b a)))) (fun _ a b => some (.bool (ltI b a))) (fun _ a b => some (.bool (notR (ltI a b)))) op
theorem opI_eq (op : BinOp) (k : IntKind) (a b : Int) : opI op k a b = intOp op k a b := by
  cases op
  case add => show some (Value.int k (wrI k (addI a b))) = _; rw [wrI_eq, addI_eq]; rfl
  case sub => show some (Value.int k (wrI k (subI a b))) = _; rw [wrI_eq, subI_eq]; rfl
  case eql => show some (Value.bool (eqI a b)) = _; rw [eqI_eq]; rfl
  case neq => show some (Value.bool (notR (eqI a b))) = _; rw [notR_eq, eqI_eq]; rfl
  case lss => show some (Value.bool (ltI a b)) = _; rw [ltI_eq]; rfl
  case leq => show some (Value.bool (notR (ltI b a))) = _; rw [notR_eq, ltI_eq]; rfl
  case gtr => show some (Value.bool (ltI b a)) = _; rw [ltI_eq]; rfl
  case geq => show some (Value.bool (notR (ltI a b))) = _; rw [notR_eq, ltI_eq]; rfl
  all_goals rfl
noncomputable def vBinI (v : Value) : IntKind → Int → OR → Hp → Nat → BinOp → OR :=
  @Value.rec (fun _ => IntKind → Int → OR → Hp → Nat → BinOp → OR) (fun _ => Unit) (fun _ => Unit)
    (fun _ _ _ d _ _ _ => d)
    (fun k n k1 a1 d h nx op => bo (Nat.beq (knd k1) (knd k)) (oo (opI op k1 a1 n) d (fun v => .ok v h nx)) d)
    (fun _ _ _ _ d _ _ _ => d)
    (fun _ _ _ _ _ d _ _ _ => d)
    (fun _ _ _ d _ _ _ => d)
    (fun _ _ _ d _ _ _ => d)
    (fun _ _ _ _ _ d _ _ _ => d)
    (fun _ _ _ d _ _ _ => d)
    (fun _ _ _ d _ _ _ => d)
    (fun _ _ _ _ _ _ _ d _ _ _ => d)
    (fun _ _ d _ _ _ => d)
    (fun _ _ _ _ _ d _ _ _ => d)
    (fun _ _ d _ _ _ => d)
    (fun _ _ _ _ d _ _ _ => d)
    (fun _ _ _ _ d _ _ _ => d)
    (fun _ _ => ()) () (fun _ _ _ _ => ()) v
noncomputable def vBin (v : Value) : Value → OR → Hp → Nat → BinOp → OR :=
  @Value.rec (fun _ => Value → OR → Hp → Nat → BinOp → OR) (fun _ => Unit) (fun _ => Unit)
    (fun _ _ d _ _ _ => d)
    (fun k n y d h nx op => vBinI y k n d h nx op)
    (fun _ _ _ d _ _ _ => d)
    (fun _ _ _ _ d _ _ _ => d)
    (fun _ _ d _ _ _ => d)
    (fun _ _ d _ _ _ => d)
    (fun _ _ _ _ d _ _ _ => d)
    (fun _ _ d _ _ _ => d)
    (fun _ _ d _ _ _ => d)
    (fun _ _ _ _ _ _ d _ _ _ => d)
    (fun _ d _ _ _ => d)
    (fun _ _ _ _ d _ _ _ => d)
    (fun _ d _ _ _ => d)
    (fun _ _ _ d _ _ _ => d)
    (fun _ _ _ d _ _ _ => d)
    (fun _ _ => ()) () (fun _ _ _ _ => ()) v
noncomputable def fBin (P : Program) (G : Nat) (e : Tb Value) (h : Hp) (nx : Nat) (o : Oper) (op : BinOp) (t : TypeId) (a b : Option Value) : OR :=
  oo a .bad (fun a => oo b .bad (fun b => vBin a b (binV a b P G e h nx o op t) h nx op))
theorem fBin_eq (P : Program) (G : Nat) (e : Tb Value) (h : Hp) (nx : Nat) (o : Oper) (op : BinOp) (t : TypeId) (a b : Option Value) : fBin P G e h nx o op t a b = mBin P G e h nx o op t a b := by
  cases a with
  | none => rfl
  | some a =>
    cases b with
    | none => rfl
    | some b =>
      cases a with
      | int k n =>
        cases b with
        | int k' n' =>
          show bo (Nat.beq (knd k) (knd k')) (oo (opI op k n n') _ _) _ = binInt k n (.int k' n') P G e h nx o op t
          have e1 : knd k = ikn k := by cases k <;> rfl
          have e2 : knd k' = ikn k' := by cases k' <;> rfl
          rw [e1, e2, opI_eq]
          unfold binV binInt
          simp only
          cases hb : Nat.beq (ikn k) (ikn k') with
          | false => rfl
          | true =>
            rw [bo_true, bo_true]
            cases hq : intOp op k n n' with
            | none => rfl
            | some v => rfl
        | _ => rfl
      | _ => rfl
noncomputable def fBuiltin (P : Program) (G : Nat) (e : Tb Value) (h : Hp) (nx : Nat) (o : Oper) (b : Builtin) (args : List Operand) (ts : List TypeId) : OR :=
  match b, args, ts with
  | .len, [x], [t] => fLen P h nx t (evO G e x)
  | b, args, ts => mBuiltin P G e h nx o b args ts
theorem fBuiltin_eq (P : Program) (G : Nat) (e : Tb Value) (h : Hp) (nx : Nat) (o : Oper) (b : Builtin) (args : List Operand) (ts : List TypeId) : fBuiltin P G e h nx o b args ts = mBuiltin P G e h nx o b args ts := by
  unfold fBuiltin
  split
  · rw [fLen_eq]; rfl
  · rfl
noncomputable def g_load (t : TypeId) (a : Operand) : BrF := fun P G _ e h nx _ => fLoad P h nx t (evO G e a)
noncomputable def g_store (t : TypeId) (a x : Operand) : BrF := fun P G _ e h nx _ => fStore P h nx t (evO G e a) (evO G e x)
noncomputable def g_nilCheck (x : Operand) : BrF := fun _ G _ e h nx _ => fNil h nx (evO G e x)
noncomputable def g_binOp (op : BinOp) (t : TypeId) (x y : Operand) (_ : TypeId) : BrF := fun P G _ e h nx o => fBin P G e h nx o op t (evO G e x) (evO G e y)
noncomputable def g_fieldAddr (s : TypeId) (x : Operand) (f : Nat) : BrF := fun P G _ e h nx _ => fFieldAddr P h nx s f (evO G e x)
noncomputable def g_field (s : TypeId) (x : Operand) (f : Nat) : BrF := fun P G _ e h nx _ => fField P h nx s f (evO G e x)
noncomputable def g_indexAddr (t : TypeId) (x i : Operand) : BrF := fun P G _ e h nx _ => fIndexAddr P h nx t (evO G e x) (evO G e i)
noncomputable def g_extract (x : Operand) (i : Nat) : BrF := fun _ G _ e h nx _ => fExtract h nx i (evO G e x)
noncomputable def g_call (c : Call) : BrF := fun P G call e h nx o => match c.callee with
    | .value f => fCall P call h nx (evO G e f) (evL G e c.args.toList)
    | .builtin b => fBuiltin P G e h nx o b c.args.toList c.argTypes.toList
    | _ => .bad
structure BrB where
  f : BrF
noncomputable def brBox (o : Oper) : BrB :=
  @Op.rec (fun _ => BrB) (fun x0 => ⟨b_move x0⟩) (fun x0 => ⟨b_assign x0⟩) (fun x0 x1 x2 => ⟨b_pick x0 x1 x2⟩) (fun x0 => ⟨b_alloc x0⟩) (fun x0 x1 => ⟨b_box x0 x1⟩) (fun x0 x1 => ⟨b_build x0 x1⟩) (fun x0 x1 x2 => ⟨b_buildSlice x0 x1 x2⟩) (fun x0 x1 x2 x3 => ⟨b_insert x0 x1 x2 x3⟩) (fun x0 x1 => ⟨g_load x0 x1⟩) (fun x0 x1 x2 => ⟨g_store x0 x1 x2⟩) (fun _ => ⟨bBad⟩) (fun _ => ⟨bBad⟩) (fun x0 => ⟨g_nilCheck x0⟩) (fun x0 x1 x2 x3 x4 => ⟨g_binOp x0 x1 x2 x3 x4⟩) (fun x0 x1 x2 => ⟨b_unOp x0 x1 x2⟩) (fun x0 x1 x2 => ⟨b_convert x0 x1 x2⟩) (fun x0 x1 => ⟨b_sliceToArrayPointer x0 x1⟩) (fun x0 x1 => ⟨b_makeInterface x0 x1⟩) (fun x0 x1 x2 => ⟨b_makeFunc x0 x1 x2⟩) (fun x0 x1 => ⟨b_makeMap x0 x1⟩) (fun _ _ => ⟨bBad⟩) (fun x0 x1 x2 => ⟨b_makeSlice x0 x1 x2⟩) (fun x0 x1 x2 x3 x4 => ⟨b_slice x0 x1 x2 x3 x4⟩) (fun x0 x1 x2 => ⟨g_fieldAddr x0 x1 x2⟩) (fun x0 x1 x2 => ⟨g_field x0 x1 x2⟩) (fun x0 x1 x2 => ⟨g_indexAddr x0 x1 x2⟩) (fun x0 x1 x2 => ⟨b_index x0 x1 x2⟩) (fun x0 x1 x2 x3 => ⟨b_lookup x0 x1 x2 x3⟩) (fun x0 x1 x2 x3 => ⟨b_mapUpdate x0 x1 x2 x3⟩) (fun x0 x1 x2 => ⟨b_mapEntry x0 x1 x2⟩) (fun x0 x1 x2 x3 => ⟨b_entryStore x0 x1 x2 x3⟩) (fun x0 x1 => ⟨b_range x0 x1⟩) (fun x0 x1 => ⟨b_next x0 x1⟩) (fun x0 => ⟨b_entry x0⟩) (fun _ _ _ _ => ⟨bBad⟩) (fun x0 x1 => ⟨g_extract x0 x1⟩) (fun x0 => ⟨g_call x0⟩) (fun _ => ⟨bBad⟩) (fun _ => ⟨bBad⟩) (fun _ => ⟨bBad⟩) (fun _ _ => ⟨bBad⟩) (fun _ _ _ => ⟨bBad⟩) (fun _ _ => ⟨bBad⟩) o.op
/-- One operation. -/
noncomputable def mOp (P : Program) (G : Nat) (call : CallF) (e : Tb Value) (h : Hp) (nx : Nat) (o : Oper) : OR :=
  @BrB.rec (fun _ => OR) (fun f => f P G call e h nx o) (brBox o)
theorem mOp_eq (P : Program) (G : Nat) (call : CallF) (e : Tb Value) (h : Hp) (nx : Nat) (o : Oper) : mOp P G call e h nx o = sOp P G call e h nx o := by
  unfold mOp brBox sOp
  cases o.op
  case load t a => exact fLoad_eq P h nx t _
  case store t a x => exact fStore_eq P h nx t _ _
  case nilCheck x => exact fNil_eq h nx _
  case binOp op t x y u => exact fBin_eq P G e h nx o op t _ _
  case fieldAddr s x f => exact fFieldAddr_eq P h nx s f _
  case field s x f => exact fField_eq P h nx s f _
  case indexAddr t x i => exact fIndexAddr_eq P h nx t _ _
  case extract x i => exact fExtract_eq h nx i _
  case call c =>
    show (match c.callee with
      | .value f => fCall P call h nx (evO G e f) (evL G e c.args.toList)
      | .builtin b => fBuiltin P G e h nx o b c.args.toList c.argTypes.toList
      | _ => .bad) = (match c.callee with
      | .value f => mCall P call h nx (evO G e f) (evL G e c.args.toList)
      | .builtin b => mBuiltin P G e h nx o b c.args.toList c.argTypes.toList
      | _ => .bad)
    cases c.callee with
    | value f => exact fCall_eq P call h nx _ _
    | builtin b => exact fBuiltin_eq P G e h nx o b _ _
    | invoke r m => rfl
  all_goals rfl

noncomputable def mPut (n : Nat) (e : Tb Value) (d : Option Tmp) (v : Value) : Option (Tb Value) :=
  oo d (some e) (fun d => bo (Nat.blt d n) (valR v (fun v => putS e d v some)) none)
/-- Is it run? -/
noncomputable def mGuard (ops : Array Oper) (e : Tb Value) (g : Nat × Bool) : Option Bool :=
  match (ops[g.1]?).bind (·.dst) with
  | some d => match e.get d with
    | some (.bool c) => some (c == g.2)
    | some (.tuple ⟨[]⟩) => some false
    | _ => none
  | none => none
abbrev ContF := Tb Value → Hp → Nat → Out
noncomputable def mStep (P : Program) (G n : Nat) (call : CallF) (o : Oper) (e : Tb Value) (h : Hp) (nx : Nat) (k : ContF) : Out :=
  @OR.rec (fun _ => Out) .bad (fun v h' nx' => oo (mPut n e o.dst v) .bad (fun e' => k e' h' nx')) (mOp P G call e h nx o)
noncomputable def mSkip (n : Nat) (o : Oper) (e : Tb Value) (h : Hp) (nx : Nat) (k : ContF) : Out := oo (mPut n e o.dst undef) .bad (fun e' => k e' h nx)
noncomputable def mGrd (P : Program) (G n : Nat) (call : CallF) (ops : Array Oper) (o : Oper) (e : Tb Value) (h : Hp) (nx : Nat) (k : ContF) (g : Nat × Bool) : Out :=
  oo (mGuard ops e g) .bad (fun b => bo b (mStep P G n call o e h nx k) (mSkip n o e h nx k))
noncomputable def mOps (P : Program) (G n : Nat) (call : CallF) (ops : Array Oper) (l : List Oper) : ContF :=
  @List.rec Oper (fun _ => ContF) (fun e h nx => .nrm e h nx) (fun o _ ih e h nx => oo o.guard (mStep P G n call o e h nx ih) (mGrd P G n call ops o e h nx ih)) l
noncomputable def mLoop (f : ContF) (fuel : Nat) : ContF :=
  @Nat.rec (fun _ => ContF) (fun _ _ _ => .bad) (fun _ ih e h nx => @Out.rec (fun _ => Out) .bad ih .ext .ret (f e h nx)) fuel
end Go.Proofs.YtklciidffdnglaaDoor
