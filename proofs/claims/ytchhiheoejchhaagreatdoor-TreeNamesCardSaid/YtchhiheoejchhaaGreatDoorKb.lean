/- The machine that runs closed code in the kernel: what it does. Over any program. No condition. -/
import Derived.Test.YtchhiheoejchhaaGreatDoorKa
import Derived.Test.YtchhiheoejchhaaGreatDoorSxOps
namespace Go.Proofs.YtchhiheoejchhaaGreatDoor
open Go.RowKit

/-- n cells from off on. -/
noncomputable def ldN (c : Tb Value) (n : Nat) : Nat → Option (List Value) :=
  @Nat.rec (fun _ => Nat → Option (List Value)) (fun _ => some []) (fun _ ih off => oo (c.get off) none (fun v => oo (ih (Nat.succ off)) none (fun l => some (v :: l)))) n
noncomputable def stN (vs : List Value) : Tb Value → Nat → Tb Value :=
  @List.rec Value (fun _ => Tb Value → Nat → Tb Value) (fun c _ => c) (fun v _ ih c off => ih (c.put off v) (Nat.succ off)) vs

noncomputable def stS {β : Type} (vs : List Value) : Tb Value → Nat → (Tb Value → β) → β :=
  @List.rec Value (fun _ => Tb Value → Nat → (Tb Value → β) → β) (fun c _ f => f c) (fun v _ ih c off f => putS c off v (fun c => ih c (Nat.succ off) f)) vs
theorem stS_eq {β : Type} : ∀ (vs : List Value) (c : Tb Value) (off : Nat) (f : Tb Value → β), stS vs c off f = f (stN vs c off)
  | [], _, _, _ => rfl
  | v :: vs, c, off, f => by
    show putS c off v (fun c => stS vs c (Nat.succ off) f) = _
    rw [putS_eq, stS_eq vs]
    rfl

inductive OR where
  | bad
  | ok (v : Value) (h : Hp) (nx : Nat)
inductive Out where
  | bad
  | nrm (e : Tb Value) (h : Hp) (nx : Nat)
  | ext (id : Nat) (e : Tb Value) (h : Hp) (nx : Nat)
  | ret (e : Tb Value) (h : Hp) (nx : Nat)

noncomputable def flat (v : Value) : Bool := flatN 100000 [v]
noncomputable def evO (G : Nat) (e : Tb Value) (x : Operand) : Option Value :=
  @Operand.rec (fun _ => Option Value) (fun t => e.get t) (fun v => bo (flat v) (some v) none) (fun g => bo (Nat.blt g G) (some (.pointer (some ⟨g, 0, none⟩))) none) (fun f => some (.func (.func f) ⟨[]⟩ ⟨[]⟩)) x
noncomputable def evL (G : Nat) (e : Tb Value) (l : List Operand) : Option (List Value) :=
  @List.rec Operand (fun _ => Option (List Value)) (some []) (fun x _ ih => oo (evO G e x) none (fun v => oo ih none (fun vs => some (v :: vs)))) l
noncomputable def evP (G : Nat) (e : Tb Value) (l : List (Nat × Operand)) : Option (List (Nat × Value)) :=
  @List.rec (Nat × Operand) (fun _ => Option (List (Nat × Value))) (some []) (fun x _ ih => oo (evO G e x.2) none (fun v => oo ih none (fun vs => some ((x.1, v) :: vs)))) l

/-- The cells of a type's value: none for one cell. -/
def rowSz (P : Program) (t : TypeId) : Option (Option Nat) :=
  match P.underlying t with
  | some (.struct _) | some (.array _ _) => (P.info? t).map fun i => some i.size
  | some _ => some none
  | none => none
def sizeTy (P : Program) (t : TypeId) : Option Nat := (P.info? t).map (·.size)
noncomputable def zeroTy (P : Program) (t : TypeId) : Option Value :=
  match P.info? t with
  | some i => match i.zero with
    | some z => bo (flat z) (some z) none
    | none => none
  | none => none

noncomputable def mLoad (P : Program) (h : Hp) (nx : Nat) (t : TypeId) : Option Value → OR
  | some (.pointer (some ⟨id, off, none⟩)) => match h.get id with
    | some (.cells _ _ _ c) => match rowSz P t with
      | some none => match c.get off with
        | some v => .ok v h nx
        | none => .bad
      | some (some n) => match ldN c n off with
        | some l => .ok (.agg ⟨l⟩) h nx
        | none => .bad
      | none => .bad
    | _ => .bad
  | _ => .bad
/-- Cells are written into a block. -/
noncomputable def wrCells (h : Hp) (id off : Nat) (vs : List Value) : Option Hp :=
  match h.get id with
  | some (.cells el n k c) => bo (Nat.ble (off + vs.length) n && (Nat.beq k 0 && vs.all (·.oneCell'))) (stS vs c off (fun c => putS h id (.cells el n k c) some)) none
  | _ => none
noncomputable def mStore (P : Program) (h : Hp) (nx : Nat) (t : TypeId) : Option Value → Option Value → OR
  | some (.pointer (some ⟨id, off, none⟩)), some v => match sizeTy P t with
    | some n => bo (Nat.beq v.cells.toList.length n) (match wrCells h id off v.cells.toList with | some h' => .ok undef h' nx | none => .bad) .bad
    | none => .bad
  | _, _ => .bad
/-- A new block. -/
noncomputable def newB (h : Hp) (nx : Nat) (B : Bl) (v : Value) : OR := blS B (fun B => putS h nx B (fun h' => natS (nx + 1) (fun n' => .ok v h' n')))
noncomputable def mAlloc (P : Program) (h : Hp) (nx : Nat) (el : TypeId) : OR :=
  match zeroTy P el with
  | some z => newB h nx (.cells el z.cells.toList.length 0 (Tb.of z.cells.toList)) (.pointer (some ⟨nx, 0, none⟩))
  | none => .bad
noncomputable def mBox (h : Hp) (nx : Nat) (el : TypeId) : Option Value → OR
  | some v => newB h nx (.cells el v.cells.toList.length 0 (Tb.of v.cells.toList)) (.pointer (some ⟨nx, 0, none⟩))
  | none => .bad

/-- Where the parts of a struct or an array lie. -/
def placesL (P : Program) : List Field → Option (List (Nat × Nat))
  | [] => some []
  | f :: r => match P.info? f.type, placesL P r with
    | some i, some l => some ((f.offset, i.size) :: l)
    | _, _ => none
noncomputable def fillL (place : Nat → Option (Nat × Nat)) : List Value → List (Nat × Value) → Option (List Value)
  | cs, [] => some cs
  | cs, (i, v) :: r => match place i with
    | none => none
    | some (off, size) => bo (Nat.beq v.cells.toList.length size && Nat.ble (off + v.cells.toList.length) cs.length) (fillL place (put cs off v.cells.toList) r) none
noncomputable def mBuild (P : Program) (h : Hp) (nx : Nat) (t : TypeId) : Option (List (Nat × Value)) → OR
  | some ps => match zeroTy P t, P.underlying t with
    | some z, some (.struct fs) => match placesL P fs.toList with
      | some pl => match fillL (fun i => pl[i]?) z.cells.toList ps with
        | some cs => .ok (.agg ⟨cs⟩) h nx
        | none => .bad
      | none => .bad
    | some z, some (.array _ el) => match sizeTy P el with
      | some s => match fillL (fun i => some (i * s, s)) z.cells.toList ps with
        | some cs => .ok (.agg ⟨cs⟩) h nx
        | none => .bad
      | none => .bad
    | _, _ => .bad
  | none => .bad
/-- The cells of n elements at zero. -/
noncomputable def zerosN (z : List Value) (n : Nat) : List Value := Nat.rec (motive := fun _ => List Value) [] (fun _ ih => z ++ ih) n
noncomputable def mBuildSlice (P : Program) (h : Hp) (nx : Nat) (t : TypeId) (len : Nat) : Option (List (Nat × Value)) → OR
  | some ps => match sliceElem P t with
    | some (el, s) => match zeroTy P el with
      | some z => bo (Nat.beq z.cells.toList.length s && (Nat.blt 0 s && Nat.ble (len * s) 16777216)) (match fillL (fun i => some (i * s, s)) (zerosN z.cells.toList len) ps with
        | some cs => newB h nx (.cells el cs.length 0 (Tb.of cs)) (.slice (some ⟨nx, 0, none⟩) len len)
        | none => .bad) .bad
      | none => .bad
    | none => .bad
  | none => .bad
noncomputable def mMakeSlice (P : Program) (h : Hp) (nx : Nat) (t : TypeId) : Option Value → Option Value → OR
  | some (.int .i64 (.ofNat n)), some (.int .i64 (.ofNat c)) => match sliceElem P t with
    | some (el, s) => match zeroTy P el, P.info? el with
      | some z, some i => bo (Nat.beq z.cells.toList.length s && (Nat.blt 0 s && (Nat.ble n c && (Nat.ble c 16777216 && Nat.ble i.bytes 16777216))))
        (newB h nx (.cells el (c * s) 0 (match z.cells.toList with | [v] => Tb.repN v c c | l => Tb.of (zerosN l c))) (.slice (some ⟨nx, 0, none⟩) n c)) .bad
      | _, _ => .bad
    | none => .bad
  | _, _ => .bad

def fieldPl (P : Program) (s f : Nat) : Option (Nat × Option Nat) := match P.underlying s with
  | some (.struct fs) => match fs[f]? with
    | some fd => (rowSz P fd.type).map fun r => (fd.offset, r)
    | none => none
  | _ => none
/-- A part of a value of many cells. -/
def partL (cs : List Value) (off : Nat) : Option Nat → Option Value
  | none => cs[off]?
  | some n => some (.agg ⟨(cs.drop off).take n⟩)
noncomputable def mField (P : Program) (h : Hp) (nx : Nat) (s f : Nat) : Option Value → OR
  | some (.agg ⟨cs⟩) => match fieldPl P s f with
    | some (off, r) => match partL cs off r with
      | some v => .ok v h nx
      | none => .bad
    | none => .bad
  | _ => .bad
noncomputable def mFieldAddr (P : Program) (h : Hp) (nx : Nat) (s f : Nat) : Option Value → OR
  | some (.pointer (some ⟨id, off, none⟩)) => match fieldOff P s f with
    | some k => .ok (.pointer (some ⟨id, off + k, none⟩)) h nx
    | none => .bad
  | _ => .bad
noncomputable def mIndexAddr (P : Program) (h : Hp) (nx : Nat) (t : TypeId) : Option Value → Option Value → OR
  | some (.slice (some ⟨id, off, _⟩) len _), some (.int _ (.ofNat m)) => match sliceElem P t with
    | some (_, s) => bo (Nat.blt m len) (.ok (.pointer (some ⟨id, off + m * s, none⟩)) h nx) .bad
    | none => .bad
  | some (.pointer (some ⟨id, off, none⟩)), some (.int _ (.ofNat m)) => match arrElem P t with
    | some (len, _, s) => bo (Nat.blt m len) (.ok (.pointer (some ⟨id, off + m * s, none⟩)) h nx) .bad
    | none => .bad
  | _, _ => .bad
noncomputable def mIndex (P : Program) (h : Hp) (nx : Nat) (t : TypeId) : Option Value → Option Value → OR
  | some (.agg ⟨cs⟩), some (.int _ (.ofNat m)) => match arrElem P t with
    | some (len, el, s) => match rowSz P el with
      | some r => bo (Nat.blt m len) (match partL cs (m * s) r with | some v => .ok v h nx | none => .bad) .bad
      | none => .bad
    | none => .bad
  | some (.string s), some (.int _ (.ofNat m)) => match P.underlying t with
    | some .string => match s.data.toList[m]? with
      | some b => .ok (.int .u8 (.ofNat b.toNat)) h nx
      | none => .bad
    | _ => .bad
  | _, _ => .bad
/-- A bound of a slice. -/
def bndO (d : Nat) : Option (Option Value) → Option Nat
  | none => some d
  | some (some (.int _ (.ofNat m))) => some m
  | _ => none
noncomputable def mSlice (P : Program) (h : Hp) (nx : Nat) (t : TypeId) (x : Option Value) (lo hi mx : Option (Option Value)) : OR :=
  match x with
  | some (.string s) => match P.underlying t, mx, bndO 0 lo, bndO s.data.toList.length hi with
    | some .string, none, some l, some u => bo (Nat.ble l u && Nat.ble u s.data.toList.length) (.ok (.string ⟨⟨(s.data.toList.drop l).take (u - l)⟩⟩) h nx) .bad
    | _, _, _, _ => .bad
  | some (.slice (some ⟨id, off, none⟩) len cap) => match sliceElem P t, bndO 0 lo, bndO len hi, bndO cap mx with
    | some (_, s), some l, some u, some m => bo (Nat.ble l u && (Nat.ble u m && (Nat.ble m cap && (hi.isSome || mx.isNone)))) (.ok (.slice (some ⟨id, bo (Nat.beq m l) off (off + l * s), none⟩) (u - l) (m - l)) h nx) .bad
    | _, _, _, _ => .bad
  | some (.slice (some ⟨id, off, some z⟩) len 0) => match sliceElem P t, bndO 0 lo, bndO len hi, mx with
    | some (_, s), some l, some u, none => bo (Nat.ble l u && (Nat.ble u len && Nat.beq s z)) (bo (Nat.beq l 0 || Nat.blt l len) (.ok (.slice (some ⟨id, off + l * z, some z⟩) (u - l) 0) h nx) (.ok (.slice (some ⟨id, off + l * z, some z⟩) 0 1) h nx)) .bad
    | some (_, s), some l, some u, some mo => match bndO 0 (some mo) with
      | some m => bo (Nat.ble l u && (Nat.ble u m && (Nat.ble m len && hi.isSome))) (.ok (.slice (some ⟨id, bo (Nat.beq m l) off (off + l * s), none⟩) (u - l) (m - l)) h nx) .bad
      | none => .bad
    | _, _, _, _ => .bad
  | some (.slice (some ⟨id, off, some z⟩) 0 1) => match sliceElem P t, bndO 0 lo, bndO 0 hi, bndO 0 mx with
    | some _, some 0, some 0, some 0 => bo (hi.isSome || mx.isNone) (.ok (.slice (some ⟨id, off, some z⟩) 0 1) h nx) .bad
    | _, _, _, _ => .bad
  | some (.slice none 0 0) => match sliceElem P t, bndO 0 lo, bndO 0 hi, bndO 0 mx with
    | some _, some 0, some 0, some 0 => bo (hi.isSome || mx.isNone) (.ok (.slice none 0 0) h nx) .bad
    | _, _, _, _ => .bad
  | some (.pointer (some ⟨id, off, none⟩)) => match arrElem P t, bndO 0 lo, mx with
    | some (n, _, s), some l, none => match bndO n hi with
      | some u => bo (Nat.ble l u && Nat.ble u n) (.ok (.slice (some ⟨id, bo (Nat.beq n l) off (off + l * s), none⟩) (u - l) (n - l)) h nx) .bad
      | none => .bad
    | _, _, _ => .bad
  | _ => .bad

def ikn : IntKind → Nat
  | .i8 => 0 | .i16 => 1 | .i32 => 2 | .i64 => 3 | .u8 => 4 | .u16 => 5 | .u32 => 6 | .u64 => 7
def ikLim : IntKind → Nat
  | .i8 => 128 | .i16 => 32768 | .i32 => 2147483648 | .i64 => 9223372036854775808 | .u8 => 256 | .u16 => 65536 | .u32 => 4294967296 | .u64 => 18446744073709551616
noncomputable def wr (k : IntKind) : Int → Int
  | .ofNat m => bo (Nat.blt m (ikLim k)) (.ofNat m) (bo k.signed (k.wrap (.ofNat m)) (.ofNat (Nat.mod m (ikLim k))))
  | .negSucc m => bo (k.signed && Nat.blt m (ikLim k)) (.negSucc m) (k.wrap (.negSucc m))
def iLt : Int → Int → Bool
  | .ofNat a, .ofNat b => Nat.blt a b
  | .ofNat _, .negSucc _ => false
  | .negSucc _, .ofNat _ => true
  | .negSucc a, .negSucc b => Nat.blt b a
def iEq : Int → Int → Bool
  | .ofNat a, .ofNat b => Nat.beq a b
  | .negSucc a, .negSucc b => Nat.beq a b
  | _, _ => false
noncomputable def iAdd (k : IntKind) (a b : Int) : Option Value := some (.int k (wr k (Int.add a b)))
noncomputable def iSub (k : IntKind) (a b : Int) : Option Value := some (.int k (wr k (Int.sub a b)))
noncomputable def iMul (k : IntKind) (a b : Int) : Option Value := some (.int k (wr k (Int.mul a b)))
def iEql (_ : IntKind) (a b : Int) : Option Value := some (.bool (iEq a b))
def iNeq (_ : IntKind) (a b : Int) : Option Value := some (.bool (!iEq a b))
def iLss (_ : IntKind) (a b : Int) : Option Value := some (.bool (iLt a b))
def iLeq (_ : IntKind) (a b : Int) : Option Value := some (.bool (!iLt b a))
def iGtr (_ : IntKind) (a b : Int) : Option Value := some (.bool (iLt b a))
def iGeq (_ : IntKind) (a b : Int) : Option Value := some (.bool (!iLt a b))
noncomputable def iAnd (k : IntKind) : Int → Int → Option Value
  | .ofNat a, .ofNat b => bo (Nat.blt a (ikLim k) && Nat.blt b (ikLim k)) (some (.int k (.ofNat (Nat.land a b)))) none
  | _, _ => none
noncomputable def iOr (k : IntKind) : Int → Int → Option Value
  | .ofNat a, .ofNat b => bo (Nat.blt a (ikLim k) && Nat.blt b (ikLim k)) (some (.int k (.ofNat (Nat.lor a b)))) none
  | _, _ => none
noncomputable def iXor (k : IntKind) : Int → Int → Option Value
  | .ofNat a, .ofNat b => bo (Nat.blt a (ikLim k) && Nat.blt b (ikLim k)) (some (.int k (.ofNat (Nat.xor a b)))) none
  | _, _ => none
noncomputable def iQuo (k : IntKind) : Int → Int → Option Value
  | .ofNat a, .ofNat b => bo (Nat.blt a (ikLim k) && Nat.blt 0 b) (some (.int k (.ofNat (Nat.div a b)))) none
  | _, _ => none
noncomputable def iRem (k : IntKind) : Int → Int → Option Value
  | .ofNat a, .ofNat b => bo (Nat.blt 0 b) (some (.int k (.ofNat (Nat.mod a b)))) none
  | _, _ => none
def ikBits : IntKind → Nat
  | .i8 => 8 | .i16 => 16 | .i32 => 32 | .i64 => 64 | .u8 => 8 | .u16 => 16 | .u32 => 32 | .u64 => 64
/-- A shift by less than the bits. -/
noncomputable def shOp (op : BinOp) (k : IntKind) : Int → Int → Option Value :=
  match op with
  | .shl => fun a b => match a, b with
    | .ofNat a, .ofNat b => bo (Nat.ble b (ikBits k)) (some (.int k (wr k (.ofNat (Nat.mul a (Nat.pow 2 b)))))) none
    | _, _ => none
  | .shr => fun a b => match a, b with
    | .ofNat a, .ofNat b => bo (Nat.ble b (ikBits k)) (some (.int k (.ofNat (Nat.div a (Nat.pow 2 b))))) none
    | _, _ => none
  | _ => fun _ _ => none
noncomputable def intOp (op : BinOp) : IntKind → Int → Int → Option Value :=
  match op with
  | .add => iAdd
  | .sub => iSub
  | .mul => iMul
  | .eql => iEql
  | .neq => iNeq
  | .lss => iLss
  | .leq => iLeq
  | .gtr => iGtr
  | .geq => iGeq
  | .and => iAnd
  | .or => iOr
  | .xor => iXor
  | .quo => iQuo
  | .rem => iRem
  | _ => fun _ _ _ => none
noncomputable def byEq : List UInt8 → List UInt8 → Bool
  | [], [] => true
  | a :: x, b :: y => bo (Nat.beq a.toNat b.toNat) (byEq x y) false
  | _, _ => false
noncomputable def byLt : List UInt8 → List UInt8 → Bool
  | _, [] => false
  | [], _ :: _ => true
  | a :: x, b :: y => bo (Nat.blt a.toNat b.toNat) true (bo (Nat.beq a.toNat b.toNat) (byLt x y) false)
noncomputable def strOp (op : BinOp) (a b : List UInt8) : Option Value :=
  match op with
  | .add => bo (Nat.ble (a.length + b.length) 4611686018427387904) (some (.string ⟨⟨a ++ b⟩⟩)) none
  | .eql => some (.bool (byEq a b))
  | .neq => some (.bool (!byEq a b))
  | .lss => some (.bool (byLt a b))
  | .leq => some (.bool (!byLt b a))
  | .gtr => some (.bool (byLt b a))
  | .geq => some (.bool (!byLt a b))
  | _ => none
/-- The equality of two values of which one is a nil, or of two places. -/
noncomputable def eqNil (P : Program) (t : TypeId) : Value → Value → Option Bool
  | .pointer a, .pointer none => (ptrElem P t).map fun _ => a.isNone
  | .pointer none, .pointer a => (ptrElem P t).map fun _ => a.isNone
  | .pointer (some ⟨a, i, none⟩), .pointer (some ⟨b, j, none⟩) => match ptrElem P t with
    | some el => match sizeTy P el with
      | some (_ + 1) => bo (Nat.beq a b) (some (Nat.beq i j)) none
      | _ => none
    | none => none
  | .slice a _ _, .slice none _ _ => (sliceElem P t).map fun _ => a.isNone
  | .map a, .map none => match P.underlying t with
    | some (.map _ _) => some a.isNone
    | _ => none
  | .func _ _ _, .nilFunc => match P.underlying t with
    | some (.func _ _ _) => some false
    | _ => none
  | .nilFunc, .nilFunc => match P.underlying t with
    | some (.func _ _ _) => some true
    | _ => none
  | _, _ => none
/-- What a computation yields that looks at no memory. -/
noncomputable def pureRun {α : Type} (P : Program) (s : Sem α) : Option α :=
  Sem.rec (motive := fun _ => Option α) (fun a => some a) (fun _ _ _ _ => none) (fun _ _ _ _ _ => none) (fun _ _ _ => none) (fun _ _ _ => none) (fun _ _ _ _ => none) (fun _ _ _ => none) (fun _ _ _ => none) (fun _ _ _ _ => none) (fun _ _ _ => none) (fun _ _ _ => none) (fun _ ih => ih P) (fun _ _ ih => ih) (fun _ => none) s
noncomputable def allFlat (G : Nat) (e : Tb Value) (l : List Operand) : Bool :=
  List.rec (motive := fun _ => Bool) true (fun x _ ih => match evO G e x with | some v => bo (flat v) ih false | none => false) l
/-- An operation on values that name no place: the model's own. -/
noncomputable def mFlat (P : Program) (G : Nat) (e : Tb Value) (h : Hp) (nx : Nat) (o : Oper) : OR :=
  bo (allFlat G e o.op.operands.toList) (match pureRun P (execOp (fun x => (evO G e x).getD undef) o) with
    | some (.value v) => bo (flat v) (.ok v h nx) .bad
    | _ => .bad) .bad
abbrev BinF := Value → Program → Nat → Tb Value → Hp → Nat → Oper → BinOp → TypeId → OR
noncomputable def binInt (k : IntKind) (a : Int) : BinF := fun b P G e h nx o op _ =>
  match b with
  | .int k' b => bo (Nat.beq (ikn k) (ikn k')) (oo (intOp op k a b) (oo (shOp op k a b) (mFlat P G e h nx o) (fun v => .ok v h nx)) (fun v => .ok v h nx)) (oo (shOp op k a b) (mFlat P G e h nx o) (fun v => .ok v h nx))
  | _ => mFlat P G e h nx o
noncomputable def binStr (a : ByteArray) : BinF := fun b _ _ _ h nx _ op _ =>
  match b with
  | .string b => oo (strOp op a.data.toList b.data.toList) .bad (fun v => .ok v h nx)
  | _ => .bad
noncomputable def binAny (a : Value) : BinF := fun b P G e h nx o op t =>
  match op with
  | .eql => oo (eqNil P t a b) (mFlat P G e h nx o) (fun r => .ok (.bool r) h nx)
  | .neq => oo (eqNil P t a b) (mFlat P G e h nx o) (fun r => .ok (.bool (!r)) h nx)
  | _ => mFlat P G e h nx o
noncomputable def binV (a : Value) : BinF :=
  match a with
  | .int k n => binInt k n
  | .string s => binStr s
  | a => binAny a
noncomputable def mBin (P : Program) (G : Nat) (e : Tb Value) (h : Hp) (nx : Nat) (o : Oper) (op : BinOp) (t : TypeId) (a b : Option Value) : OR :=
  oo a .bad (fun a => oo b .bad (fun b => binV a b P G e h nx o op t))
/-- Bytes of cells. -/
def byOf : List Value → Option (List UInt8)
  | [] => some []
  | .int .u8 (.ofNat n) :: r => match byOf r with
    | some l => some (UInt8.ofNat n :: l)
    | none => none
  | _ :: _ => none
noncomputable def mConv (P : Program) (G : Nat) (e : Tb Value) (h : Hp) (nx : Nat) (o : Oper) (s d : TypeId) : Option Value → OR
  | some (.int _ n) => match P.underlying d with
    | some (.int k') => match P.underlying s with
      | some _ => .ok (.int k' (wr k' n)) h nx
      | none => .bad
    | _ => mFlat P G e h nx o
  | some (.string b) => match P.underlying s, P.underlying d with
    | some .string, some (.slice el) => match P.underlying el with
      | some (.int .u8) => newB h nx (.cells el b.data.toList.length 0 (Tb.of (b.data.toList.map fun x => .int .u8 (.ofNat x.toNat)))) (.slice (some ⟨nx, 0, some 1⟩) b.data.toList.length 0)
      | _ => .bad
    | _, _ => mFlat P G e h nx o
  | some (.slice none _ _) => match sliceElem P s, P.underlying d with
    | some (el, _), some .string => match P.underlying el with
      | some (.int .u8) => .ok (.string ⟨⟨[]⟩⟩) h nx
      | _ => .bad
    | _, _ => .bad
  | some (.slice (some ⟨id, off, sp⟩) len cap) => match Nat.beq s d with
   | true => match sliceElem P s, h.get id with
    | some (el, _), some (.cells _ _ k _) => match P.underlying el with
      | some (.int .u8) => bo (Nat.beq k 0) (.ok (.slice (some ⟨id, off, sp⟩) len cap) h nx) .bad
      | _ => .bad
    | _, _ => .bad
   | false => match sliceElem P s, P.underlying d, h.get id with
    | some (el, _), some .string, some (.cells _ _ _ c) => match P.underlying el, ldN c len off with
      | some (.int .u8), some l => match byOf l with
        | some bs => .ok (.string ⟨⟨bs⟩⟩) h nx
        | none => .bad
      | _, _ => .bad
    | _, _, _ => .bad
  | _ => mFlat P G e h nx o
noncomputable def mLen (P : Program) (h : Hp) (nx : Nat) (t : TypeId) : Option Value → OR
  | some (.slice _ n _) => match sliceElem P t with
    | some _ => .ok (.int .i64 (.ofNat n)) h nx
    | none => .bad
  | some (.string s) => match P.underlying t with
    | some .string => .ok (.int .i64 (.ofNat s.data.toList.length)) h nx
    | _ => .bad
  | some (.map none) => match P.underlying t with
    | some (.map _ _) => .ok (.int .i64 (.ofNat 0)) h nx
    | _ => .bad
  | some (.map (some id)) => match P.underlying t, h.get id with
    | some (.map _ _), some (.map _ _ l) => .ok (.int .i64 (.ofNat l.length)) h nx
    | _, _ => .bad
  | some _ => match P.underlying t with
    | some (.array n _) => .ok (.int .i64 (.ofNat n)) h nx
    | _ => .bad
  | none => .bad
/-- The cells of n elements of s cells that are appended or copied. -/
noncomputable def srcCells (h : Hp) (s n : Nat) : Value → Option (List Value)
  | .slice none _ _ => bo (Nat.beq n 0) (some []) none
  | .slice (some ⟨id, off, _⟩) l _ => bo (Nat.ble n l) (match h.get id with
    | some (.cells _ _ _ c) => ldN c (n * s) off
    | _ => bo (Nat.beq n 0) (some []) none) none
  | .string b => bo (Nat.beq s 1) (some ((b.data.toList.take n).map fun x => .int .u8 (.ofNat x.toNat))) none
  | _ => none
def lenV : Value → Option Nat
  | .slice _ n _ => some n
  | .string s => some s.data.toList.length
  | _ => none
noncomputable def mCopy (P : Program) (h : Hp) (nx : Nat) (t : TypeId) (d x : Option Value) : OR :=
  match d, x with
  | some (.slice a dl _), some x => match sliceElem P t, lenV x with
    | some (_, s), some n0 => match srcCells h s (bo (Nat.ble n0 dl) n0 dl) x with
      | some vs => match a with
        | some ⟨id, off, _⟩ => bo (vs.isEmpty) (.ok (.int .i64 (.ofNat (bo (Nat.ble n0 dl) n0 dl))) h nx) (match wrCells h id off vs with
            | some h' => .ok (.int .i64 (.ofNat (bo (Nat.ble n0 dl) n0 dl))) h' nx
            | none => .bad)
        | none => bo (vs.isEmpty) (.ok (.int .i64 (.ofNat (bo (Nat.ble n0 dl) n0 dl))) h nx) .bad
      | none => .bad
    | _, _ => .bad
  | _, _ => .bad
/-- A new row of an append: old and new cells, and room that is left open. -/
noncomputable def mNewRow (P : Program) (h : Hp) (nx : Nat) (el s n : Nat) (cs : List Value) : OR :=
  match zeroTy P el with
  | some z => bo (Nat.beq z.cells.toList.length s) (newB h nx (.cells el cs.length 0 (Tb.of cs)) (.slice (some ⟨nx, 0, some s⟩) n 0)) .bad
  | none => .bad
/-- Elements are appended: to nothing, to a slice whose capacity is known, to an open one. -/
noncomputable def appNil (P : Program) (h : Hp) (nx : Nat) (el s n sl sc : Nat) (news : List Value) : OR :=
  bo (Nat.beq sl 0 && Nat.beq sc 0) (bo (Nat.beq n 0) (.ok (.slice none 0 0) h nx) (mNewRow P h nx el s n news)) .bad
noncomputable def appExact (P : Program) (h : Hp) (nx : Nat) (el s n sl sc id off : Nat) (news : List Value) : OR :=
  bo (Nat.ble (sl + n) sc)
    (match wrCells h id (off + sl * s) news with
    | some h' => .ok (.slice (some ⟨id, off, none⟩) (sl + n) sc) h' nx
    | none => bo (Nat.beq n 0) (.ok (.slice (some ⟨id, off, none⟩) (sl + n) sc) h nx) .bad)
    (match srcCells h s sl (.slice (some ⟨id, off, none⟩) sl sc) with
    | some olds => mNewRow P h nx el s (sl + n) (olds ++ news)
    | none => .bad)
noncomputable def appOpen (P : Program) (h : Hp) (nx : Nat) (el s n sl sc id off z : Nat) (news : List Value) : OR :=
  bo (Nat.beq z s && Nat.beq sc 0) (match h.get id with
    | some (.cells el' m k c) => bo (Nat.ble (off + (sl + n) * s) m)
        (match wrCells h id (off + sl * s) news with
        | some h' => .ok (.slice (some ⟨id, off, some z⟩) (sl + n) 0) h' nx
        | none => .bad)
        (match zeroTy P el with
        | some zv => bo (Nat.beq zv.cells.toList.length s && (Nat.beq (off + sl * s) m && (Nat.beq k 0 && Nat.beq el el'))) (bo (Nat.beq off 0) (stS news c m (fun c => delS h id (fun h => newB h nx (.cells el (m + news.length) 0 c) (.slice (some ⟨nx, 0, some s⟩) (sl + n) 0))))
            (match ldN c (sl * s) off with
            | some olds => listS (olds ++ news) (fun l => delS h id (fun h => newB h nx (.cells el l.length 0 (Tb.of l)) (.slice (some ⟨nx, 0, some s⟩) (sl + n) 0)))
            | none => .bad)) .bad
        | none => .bad)
    | _ => .bad) .bad
noncomputable def mAppend (P : Program) (h : Hp) (nx : Nat) (t : TypeId) (a x : Option Value) : OR :=
  match a, x with
  | some (.slice a sl sc), some x => match sliceElem P t, lenV x with
    | some (el, s), some n => match P.info? el, srcCells h s n x with
      | some i, some news => bo (Nat.blt 0 s && (Nat.ble (sl + n) 16777216 && (Nat.ble i.bytes 1048576 && news.all (·.oneCell')))) (match a with
        | none => appNil P h nx el s n sl sc news
        | some ⟨id, off, none⟩ => appExact P h nx el s n sl sc id off news
        | some ⟨id, off, some z⟩ => appOpen P h nx el s n sl sc id off z news) .bad
      | _, _ => .bad
    | _, _ => .bad
  | _, _ => .bad
noncomputable def mNil (h : Hp) (nx : Nat) : Option Value → OR
  | some (.pointer (some a)) => .ok (.pointer (some a)) h nx
  | some (.func (.func f) a b) => .ok (.func (.func f) a b) h nx
  | _ => .bad
noncomputable def mPick (h : Hp) (nx : Nat) : Option Value → Option Value → Option Value → OR
  | some (.bool c), some a, some b => .ok (bo c a b) h nx
  | _, _, _ => .bad
noncomputable def mMove (h : Hp) (nx : Nat) (v : Option Value) : OR := oo v .bad (fun v => .ok v h nx)
noncomputable def mExtract (h : Hp) (nx : Nat) (i : Nat) : Option Value → OR
  | some (.tuple ⟨vs⟩) => match vs[i]? with
    | some v => .ok v h nx
    | none => .bad
  | _ => .bad
noncomputable def mFunc (h : Hp) (nx : Nat) (f : Fn) : Option (List Value) → Option (List Value) → OR
  | some xs, some ys => match f with
    | .func f => .ok (.func (.func f) ⟨xs⟩ ⟨ys⟩) h nx
    | _ => .bad
  | _, _ => .bad
noncomputable def mIface (P : Program) (h : Hp) (nx : Nat) (t : TypeId) : Option Value → OR
  | some v => match P.underlying t with
    | some (.interface _) => .bad
    | some _ => .ok (.iface t v) h nx
    | none => .bad
  | none => .bad
noncomputable def mArr (P : Program) (h : Hp) (nx : Nat) (t : TypeId) : Option Value → OR
  | some (.slice (some ⟨id, off, _⟩) len _) => match arrElem P t with
    | some (n, _, _) => bo (Nat.ble n len && Nat.blt 0 len) (.ok (.pointer (some ⟨id, off, none⟩)) h nx) .bad
    | none => .bad
  | _ => .bad

/-- Keys that are told apart at once. -/
noncomputable def keyEq : Value → Value → Option Bool
  | .string a, .string b => some (byEq a.data.toList b.data.toList)
  | .int k a, .int k' b => bo (Nat.beq (ikn k) (ikn k')) (some (iEq a b)) none
  | .bool a, .bool b => some (a == b)
  | _, _ => none
/-- A map's key and element types, where the key is of such a kind. -/
def keyTy (P : Program) (t : TypeId) (k : Value) : Option TypeId :=
  match P.underlying t with
  | some (.map kt v) => match P.underlying kt, k with
    | some .string, .string _ => some v
    | some (.int _), .int _ _ => some v
    | some .bool, .bool _ => some v
    | _, _ => none
  | _ => none
noncomputable def findL (k : Value) : List (Value × Value) → Nat → Option (Option (Nat × Value))
  | [], _ => some none
  | p :: r, i => match keyEq k p.1 with
    | some true => some (some (i, p.2))
    | some false => findL k r (i + 1)
    | none => none
noncomputable def mMakeMap (P : Program) (h : Hp) (nx : Nat) (t : TypeId) : Option (Option Value) → OR
  | none => newB h nx (.map 0 [] []) (.map (some nx))
  | some (some (.int _ _)) => match P.underlying t with
    | some (.map _ _) => newB h nx (.map 0 [] []) (.map (some nx))
    | _ => .bad
  | _ => .bad
/-- The entries of a map. -/
noncomputable def mapL (h : Hp) : Option Nat → Option (List (Value × Value))
  | none => some []
  | some id => match h.get id with
    | some (.map _ _ l) => some l
    | _ => none
noncomputable def mLookup (P : Program) (h : Hp) (nx : Nat) (t : TypeId) (ok : Bool) : Option Value → Option Value → OR
  | some (.map r), some k => match keyTy P t k, mapL h r with
    | some el, some l => match findL k l 0 with
      | some (some (_, v)) => .ok (bo ok (.tuple ⟨[v, .bool true]⟩) v) h nx
      | some none => match zeroTy P el with
        | some z => .ok (bo ok (.tuple ⟨[z, .bool false]⟩) z) h nx
        | none => .bad
      | none => .bad
    | _, _ => .bad
  | _, _ => .bad
noncomputable def mUpdate (P : Program) (h : Hp) (nx : Nat) (t : TypeId) : Option Value → Option Value → Option Value → OR
  | some (.map (some id)), some k, some v => match keyTy P t k, h.get id with
    | some _, some (.map cl bs l) => match findL k l 0 with
      | some (some (i, _)) => listS (l.set i (k, v)) (fun l => putS h id (.map cl bs l) (fun h => .ok undef h nx))
      | some none => natS (cl + 1) (fun cl' => listS (bs ++ [cl]) (fun bs => listS (l ++ [(k, v)]) (fun l => putS h id (.map cl' bs l) (fun h => .ok undef h nx))))
      | none => .bad
    | _, _ => .bad
  | _, _, _ => .bad

/-- A range over a text or a map begins. -/
noncomputable def mRange (P : Program) (h : Hp) (nx : Nat) (t : TypeId) : Option Value → OR
  | some (.string s) => match P.underlying t with
    | some .string => newB h nx (.iter s 0) (.pointer (some ⟨nx, 0, none⟩))
    | _ => .bad
  | some (.map none) => match P.underlying t with
    | some (.map _ _) => newB h nx (.miter none 0 [] 0) (.pointer (some ⟨nx, 0, none⟩))
    | _ => .bad
  | some (.map (some id)) => match P.underlying t, h.get id with
    | some (.map _ _), some (.map cl _ _) => newB h nx (.miter (some id) cl [] cl) (.pointer (some ⟨nx, 0, none⟩))
    | _, _ => .bad
  | _ => .bad
/-- The entries that have not come yet. -/
noncomputable def leftL (seen : List Nat) : List Nat → List (Value × Value) → List (Nat × (Value × Value))
  | b :: bs, p :: l => bo (seen.contains b) (leftL seen bs l) ((b, p) :: leftL seen bs l)
  | _, _ => []
noncomputable def mNext (h : Hp) (nx : Nat) (str : Bool) : Option Value → OR
  | some (.pointer (some ⟨id, 0, none⟩)) => match h.get id with
    | some (.iter s pos) => bo str (bo (Nat.blt pos s.data.toList.length)
        (natS (pos + (Utf8.decode s pos).2) (fun p' => putS h id (.iter s p') (fun h => .ok (.tuple ⟨[.bool true, .int .i64 (.ofNat pos), .int .i32 (Utf8.decode s pos).1]⟩) h nx)))
        (.ok (.tuple ⟨[.bool false]⟩) h nx)) .bad
    | some (.miter none _ _ _) => bo str .bad (.ok (.tuple ⟨[.bool false]⟩) h nx)
    | some (.miter (some m) since seen last) => bo str .bad (match h.get m with
      | some (.map cl bs l) => bo (!seen.isEmpty && (!bs.isEmpty && bs.all (fun b => Nat.ble last b))) .bad (match leftL seen bs l with
        | [] => .ok (.tuple ⟨[.bool false]⟩) h nx
        | [(b, (k, v))] => bo (Nat.blt b since) (listS (seen ++ [b]) (fun seen => putS h id (.miter (some m) since seen cl) (fun h => .ok (.tuple ⟨[.bool true, k, v]⟩) h nx))) .bad
        | _ => .bad)
      | _ => .bad)
    | _ => .bad
  | _ => .bad

noncomputable def findB (b : Nat) : List Nat → List (Value × Value) → Option (Value × Value)
  | c :: bs, p :: l => bo (Nat.beq c b) (some p) (findB b bs l)
  | _, _ => none
/-- The entry of the last step. -/
noncomputable def mEntry (h : Hp) (nx : Nat) : Option Value → OR
  | some (.pointer (some ⟨id, 0, none⟩)) => match h.get id with
    | some (.miter (some m) _ seen last) => match h.get m, seen.getLast? with
      | some (.map cl bs l), some b => bo (Nat.beq cl last) (match findB b bs l with
        | some (k, v) => .ok (.tuple ⟨[k, v]⟩) h nx
        | none => .bad) .bad
      | _, _ => .bad
    | _ => .bad
  | _ => .bad
/-- An entry to be written: its value and its number. -/
noncomputable def mMapEntry (P : Program) (h : Hp) (nx : Nat) (t : TypeId) : Option Value → Option Value → OR
  | some (.map (some id)), some k => match keyTy P t k, h.get id with
    | some el, some (.map cl bs l) => match findL k l 0 with
      | some (some (i, v)) => match bs[i]? with
        | some b => putS h id (.map cl bs l) (fun h => .ok (.tuple ⟨[v, .int .i64 (.ofNat b)]⟩) h nx)
        | none => .bad
      | some none => match zeroTy P el with
        | some z => natS (cl + 1) (fun cl' => listS (bs ++ [cl]) (fun bs => listS (l ++ [(k, z)]) (fun l => putS h id (.map cl' bs l) (fun h => .ok (.tuple ⟨[z, .int .i64 (.ofNat cl)]⟩) h nx))))
        | none => .bad
      | none => .bad
    | _, _ => .bad
  | _, _ => .bad
noncomputable def idxB (b : Nat) : List Nat → Nat → Option Nat
  | c :: bs, i => bo (Nat.beq c b) (some i) (idxB b bs (i + 1))
  | [], _ => none
def setV : List (Value × Value) → Nat → Value → List (Value × Value)
  | p :: l, 0, x => (p.1, x) :: l
  | p :: l, i + 1, x => p :: setV l i x
  | [], _, _ => []
noncomputable def mEntryStore (h : Hp) (nx : Nat) : Option Value → Option Value → Option Value → OR
  | some (.map (some id)), some (.int _ (.ofNat b)), some x => match h.get id with
    | some (.map cl bs l) => match idxB b bs 0 with
      | some i => listS (setV l i x) (fun l => putS h id (.map cl bs l) (fun h => .ok undef h nx))
      | none => .bad
    | _ => .bad
  | _, _, _ => .bad

/-- What a call comes to. -/
abbrev CallF := FuncId → List Value → Hp → Nat → OR
/-- Is it a function of the program's own? -/
noncomputable def callB (P : Program) (f : FuncId) : Bool :=
  match P.funcs[f]? with
  | some fn => fn.body.isSome && !(fn.name == "runtime.NumGoroutine")
  | none => false
noncomputable def mCall (P : Program) (call : CallF) (h : Hp) (nx : Nat) : Option Value → Option (List Value) → OR
  | some (.func (.func f) ⟨xs⟩ ⟨cs⟩), some vs => bo (callB P f) (call f (xs ++ (vs ++ cs)) h nx) .bad
  | some (.func (.yield l) ⟨[]⟩ ⟨[]⟩), some vs => natS (Nat.add P.funcs.size l) (fun f => call f vs h nx)
  | _, _ => .bad
noncomputable def mBuiltin (P : Program) (G : Nat) (e : Tb Value) (h : Hp) (nx : Nat) (o : Oper) (b : Builtin) (args : List Operand) (ts : List TypeId) : OR :=
  match b, args, ts with
  | .len, [x], [t] => mLen P h nx t (evO G e x)
  | .append, [s, x], [t, u] => match P.underlying u with
    | some (.slice _) => mAppend P h nx t (evO G e s) (evO G e x)
    | some .string => mAppend P h nx t (evO G e s) (evO G e x)
    | _ => .bad
  | .copy, [d, x], [t, _] => mCopy P h nx t (evO G e d) (evO G e x)
  | .min, _, _ => mFlat P G e h nx o
  | .max, _, _ => mFlat P G e h nx o
  | _, _, _ => .bad
/-- One operation, by its kind. -/
abbrev BrF := Program → Nat → CallF → Tb Value → Hp → Nat → Oper → OR
noncomputable def b_move (x : Operand) : BrF := fun _ G _ e h nx _ => mMove h nx (evO G e x)
noncomputable def b_assign (x : Operand) : BrF := fun _ G _ e h nx _ => mMove h nx (evO G e x)
noncomputable def b_pick (c a b : Operand) : BrF := fun _ G _ e h nx _ => mPick h nx (evO G e c) (evO G e a) (evO G e b)
noncomputable def b_alloc (el : TypeId) : BrF := fun P _ _ _ h nx _ => mAlloc P h nx el
noncomputable def b_box (el : TypeId) (x : Operand) : BrF := fun _ G _ e h nx _ => mBox h nx el (evO G e x)
noncomputable def b_build (t : TypeId) (ps : Array (Nat × Operand)) : BrF := fun P G _ e h nx _ => mBuild P h nx t (evP G e ps.toList)
noncomputable def b_buildSlice (t : TypeId) (m : Nat) (ps : Array (Nat × Operand)) : BrF := fun P G _ e h nx _ => mBuildSlice P h nx t m (evP G e ps.toList)
noncomputable def b_insert (t : TypeId) (m k x : Operand) : BrF := fun P G _ e h nx _ => mUpdate P h nx t (evO G e m) (evO G e k) (evO G e x)
noncomputable def b_load (t : TypeId) (a : Operand) : BrF := fun P G _ e h nx _ => mLoad P h nx t (evO G e a)
noncomputable def b_store (t : TypeId) (a x : Operand) : BrF := fun P G _ e h nx _ => mStore P h nx t (evO G e a) (evO G e x)
noncomputable def b_nilCheck (x : Operand) : BrF := fun _ G _ e h nx _ => mNil h nx (evO G e x)
noncomputable def b_binOp (op : BinOp) (t : TypeId) (x y : Operand) (_ : TypeId) : BrF := fun P G _ e h nx o => mBin P G e h nx o op t (evO G e x) (evO G e y)
noncomputable def b_unOp (_ : UnOp) (_ : TypeId) (_ : Operand) : BrF := fun P G _ e h nx o => mFlat P G e h nx o
noncomputable def b_convert (s d : TypeId) (x : Operand) : BrF := fun P G _ e h nx o => mConv P G e h nx o s d (evO G e x)
noncomputable def b_sliceToArrayPointer (t : TypeId) (x : Operand) : BrF := fun P G _ e h nx _ => mArr P h nx t (evO G e x)
noncomputable def b_makeInterface (t : TypeId) (x : Operand) : BrF := fun P G _ e h nx _ => mIface P h nx t (evO G e x)
noncomputable def b_makeFunc (f : Fn) (xs ys : Array Operand) : BrF := fun _ G _ e h nx _ => mFunc h nx f (evL G e xs.toList) (evL G e ys.toList)
noncomputable def b_makeMap (t : TypeId) (r : Option Operand) : BrF := fun P G _ e h nx _ => mMakeMap P h nx t (r.map (evO G e))
noncomputable def b_makeSlice (t : TypeId) (l c : Operand) : BrF := fun P G _ e h nx _ => mMakeSlice P h nx t (evO G e l) (evO G e c)
noncomputable def b_slice (t : TypeId) (x : Operand) (lo hi mx : Option Operand) : BrF := fun P G _ e h nx _ => mSlice P h nx t (evO G e x) (lo.map (evO G e)) (hi.map (evO G e)) (mx.map (evO G e))
noncomputable def b_fieldAddr (s : TypeId) (x : Operand) (f : Nat) : BrF := fun P G _ e h nx _ => mFieldAddr P h nx s f (evO G e x)
noncomputable def b_field (s : TypeId) (x : Operand) (f : Nat) : BrF := fun P G _ e h nx _ => mField P h nx s f (evO G e x)
noncomputable def b_indexAddr (t : TypeId) (x i : Operand) : BrF := fun P G _ e h nx _ => mIndexAddr P h nx t (evO G e x) (evO G e i)
noncomputable def b_index (t : TypeId) (x i : Operand) : BrF := fun P G _ e h nx _ => mIndex P h nx t (evO G e x) (evO G e i)
noncomputable def b_lookup (t : TypeId) (x i : Operand) (ok : Bool) : BrF := fun P G _ e h nx _ => mLookup P h nx t ok (evO G e x) (evO G e i)
noncomputable def b_mapUpdate (t : TypeId) (m k x : Operand) : BrF := fun P G _ e h nx _ => mUpdate P h nx t (evO G e m) (evO G e k) (evO G e x)
noncomputable def b_range (t : TypeId) (x : Operand) : BrF := fun P G _ e h nx _ => mRange P h nx t (evO G e x)
noncomputable def b_next (x : Operand) (b : Bool) : BrF := fun _ G _ e h nx _ => mNext h nx b (evO G e x)
noncomputable def b_mapEntry (t : TypeId) (m k : Operand) : BrF := fun P G _ e h nx _ => mMapEntry P h nx t (evO G e m) (evO G e k)
noncomputable def b_entryStore (_ : TypeId) (m s x : Operand) : BrF := fun _ G _ e h nx _ => mEntryStore h nx (evO G e m) (evO G e s) (evO G e x)
noncomputable def b_entry (x : Operand) : BrF := fun _ G _ e h nx _ => mEntry h nx (evO G e x)
noncomputable def b_extract (x : Operand) (i : Nat) : BrF := fun _ G _ e h nx _ => mExtract h nx i (evO G e x)
noncomputable def b_call (c : Call) : BrF := fun P G call e h nx o => match c.callee with
    | .value f => mCall P call h nx (evO G e f) (evL G e c.args.toList)
    | .builtin b => mBuiltin P G e h nx o b c.args.toList c.argTypes.toList
    | _ => .bad
noncomputable def bBad : BrF := fun _ _ _ _ _ _ _ => .bad
/-- One operation. -/
noncomputable def mOp (P : Program) (G : Nat) (call : CallF) (e : Tb Value) (h : Hp) (nx : Nat) (o : Oper) : OR :=
  @Op.rec (fun _ => BrF) b_move b_assign b_pick b_alloc b_box b_build b_buildSlice b_insert b_load b_store (fun _ => bBad) (fun _ => bBad) b_nilCheck b_binOp b_unOp b_convert b_sliceToArrayPointer b_makeInterface b_makeFunc b_makeMap (fun _ _ => bBad) b_makeSlice b_slice b_fieldAddr b_field b_indexAddr b_index b_lookup b_mapUpdate b_mapEntry b_entryStore b_range b_next b_entry (fun _ _ _ _ => bBad) b_extract b_call (fun _ => bBad) (fun _ => bBad) (fun _ => bBad) (fun _ _ => bBad) (fun _ _ _ => bBad) (fun _ _ => bBad) o.op P G call e h nx o

noncomputable def mPut (n : Nat) (e : Tb Value) (d : Option Tmp) (v : Value) : Option (Tb Value) :=
  oo d (some e) (fun d => bo (Nat.blt d n) (valS v (fun v => putS e d v some)) none)
/-- Is it run? -/
noncomputable def mGuard (ops : Array Oper) (e : Tb Value) (g : Nat × Bool) : Option Bool :=
  match (ops[g.1]?).bind (·.dst) with
  | some d => match e.get d with
    | some (.bool c) => some (c == g.2)
    | some (.tuple ⟨[]⟩) => some false
    | _ => none
  | none => none
abbrev ContF := Tb Value → Hp → Nat → Out
noncomputable def mStep (P : Program) (G n : Nat) (call : CallF) (o : Oper) (e : Tb Value) (h : Hp) (nx : Nat) (k : ContF) : Out :=
  @OR.rec (fun _ => Out) .bad (fun v h' nx' => oo (mPut n e o.dst v) .bad (fun e' => k e' h' nx')) (mOp P G call e h nx o)
noncomputable def mSkip (n : Nat) (o : Oper) (e : Tb Value) (h : Hp) (nx : Nat) (k : ContF) : Out := oo (mPut n e o.dst undef) .bad (fun e' => k e' h nx)
noncomputable def mOps (P : Program) (G n : Nat) (call : CallF) (ops : Array Oper) (l : List Oper) : ContF :=
  @List.rec Oper (fun _ => ContF) (fun e h nx => .nrm e h nx) (fun o _ ih e h nx =>
    oo o.guard (mStep P G n call o e h nx ih) (fun g => oo (mGuard ops e g) .bad (fun b => bo b (mStep P G n call o e h nx ih) (mSkip n o e h nx ih)))) l
noncomputable def mLoop (f : ContF) (fuel : Nat) : ContF :=
  @Nat.rec (fun _ => ContF) (fun _ _ _ => .bad) (fun _ ih e h nx => @Out.rec (fun _ => Out) .bad ih .ext .ret (f e h nx)) fuel
end Go.Proofs.YtchhiheoejchhaaGreatDoor
