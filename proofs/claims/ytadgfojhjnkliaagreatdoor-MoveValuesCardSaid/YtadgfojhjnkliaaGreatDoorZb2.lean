/- Lemmas that the last text rests on. Condition: each says its own. -/
import Derived.Test.YtadgfojhjnkliaaGreatDoorZb1
import Derived.Lib.Strings
set_option maxHeartbeats 16000000
set_option maxRecDepth 100000
namespace Go.Proofs.YtadgfojhjnkliaaGreatDoor
open Go.RowKit
noncomputable section
def ldN (c : Tb Value) (n : Nat) : Nat → Option (List Value) :=
 @Nat.rec (fun _ => Nat → Option (List Value)) (fun _ => some []) (fun _ ih off => oo (c.get off) none (fun v => oo (ih (Nat.succ off)) none (fun l => some (v :: l)))) n
def stN (vs : List Value) : Tb Value → Nat → Tb Value :=
 @List.rec Value (fun _ => Tb Value → Nat → Tb Value) (fun c _ => c) (fun v _ ih c off => ih (c.put off v) (Nat.succ off)) vs
def stS {β : Type} (vs : List Value) : Tb Value → Nat → (Tb Value → β) → β :=
 @List.rec Value (fun _ => Tb Value → Nat → (Tb Value → β) → β) (fun c _ f => f c) (fun v _ ih c off f => IX c off v (fun c => ih c (Nat.succ off) f)) vs
theorem XU {β : Type} : ∀ (vs : List Value) (c : Tb Value) (off : Nat) (f : Tb Value → β), stS vs c off f = f (stN vs c off)
 | [], _, _, _ => rfl
 | v :: vs, c, off, f => by
  show IX c off v (fun c => stS vs c (Nat.succ off) f) = _
  rw [F2, XU vs]
  rfl
inductive OR where
 | bad
 | ok (v : Value) (h : Hp) (nx : Nat)
inductive Out where
 | bad
 | nrm (e : Tb Value) (h : Hp) (nx : Nat)
 | ext (id : Nat) (e : Tb Value) (h : Hp) (nx : Nat)
 | ret (e : Tb Value) (h : Hp) (nx : Nat)
def O0 (v : Value) : Bool := OS 100000 [v]
def evR (x : Operand) : Nat → Tb Value → Option Value :=
 @Operand.rec (fun _ => Nat → Tb Value → Option Value) (fun t _ e => e.get t) (fun v _ _ => bo (O0 v) (some v) none) (fun g G _ => bo (Nat.blt g G) (some (.pointer (some ⟨g, 0, none⟩))) none) (fun f _ _ => some (.func (.func f) ⟨[]⟩ ⟨[]⟩)) x
def evO (G : Nat) (e : Tb Value) (x : Operand) : Option Value := evR x G e
def evL (G : Nat) (e : Tb Value) (l : List Operand) : Option (List Value) :=
 @List.rec Operand (fun _ => Option (List Value)) (some []) (fun x _ ih => oo (evO G e x) none (fun v => oo ih none (fun vs => some (v :: vs)))) l
def evP (G : Nat) (e : Tb Value) (l : List (Nat × Operand)) : Option (List (Nat × Value)) :=
 @List.rec (Nat × Operand) (fun _ => Option (List (Nat × Value))) (some []) (fun x _ ih => oo (evO G e x.2) none (fun v => oo ih none (fun vs => some ((x.1, v) :: vs)))) l
def MH (P : Program) (t : TypeId) : Option (Option Nat) :=
 match P.underlying t with
 | some (.struct _) | some (.array _ _) => (P.info? t).map fun i => some i.size
 | some _ => some none
 | none => none
def K2 (P : Program) (t : TypeId) : Option Nat := (P.info? t).map (·.size)
def GG (P : Program) (t : TypeId) : Option Value :=
 match P.info? t with
 | some i => match i.zero with
  | some z => bo (O0 z) (some z) none
  | none => none
 | none => none
def J5 (P : Program) (h : Hp) (nx : Nat) (t : TypeId) : Option Value → OR
 | some (.pointer (some ⟨id, off, none⟩)) => match h.get id with
  | some (.cells _ _ _ c) => match MH P t with
   | some none => match c.get off with
    | some v => .ok v h nx
    | none => .bad
   | some (some n) => match ldN c n off with
    | some l => .ok (.agg ⟨l⟩) h nx
    | none => .bad
   | none => .bad
  | _ => .bad
 | _ => .bad
def FS (h : Hp) (id off : Nat) (vs : List Value) : Option Hp :=
 match h.get id with
 | some (.cells el n k c) => bo (Nat.ble (off + vs.length) n && (Nat.beq k 0 && vs.all (·.oneCell'))) (stS vs c off (fun c => IX h id (.cells el n k c) some)) none
 | _ => none
def NK (P : Program) (h : Hp) (nx : Nat) (t : TypeId) : Option Value → Option Value → OR
 | some (.pointer (some ⟨id, off, none⟩)), some v => match K2 P t with
  | some n => bo (Nat.beq v.cells.toList.length n) (match FS h id off v.cells.toList with | some h' => .ok undef h' nx | none => .bad) .bad
  | none => .bad
 | _, _ => .bad
def KS (h : Hp) (nx : Nat) (B : Bl) (v : Value) : OR := blS B (fun B => IX h nx B (fun h' => GZ (nx + 1) (fun n' => .ok v h' n')))
def QS (P : Program) (h : Hp) (nx : Nat) (el : TypeId) : OR :=
 match GG P el with
 | some z => KS h nx (.cells el z.cells.toList.length 0 (Tb.of z.cells.toList)) (.pointer (some ⟨nx, 0, none⟩))
 | none => .bad
def dM (h : Hp) (nx : Nat) (el : TypeId) : Option Value → OR
 | some v => KS h nx (.cells el v.cells.toList.length 0 (Tb.of v.cells.toList)) (.pointer (some ⟨nx, 0, none⟩))
 | none => .bad
def PD (P : Program) : List Field → Option (List (Nat × Nat))
 | [] => some []
 | f :: r => match P.info? f.type, PD P r with
  | some i, some l => some ((f.offset, i.size) :: l)
  | _, _ => none
def R9 (place : Nat → Option (Nat × Nat)) : List Value → List (Nat × Value) → Option (List Value)
 | cs, [] => some cs
 | cs, (i, v) :: r => match place i with
  | none => none
  | some (off, size) => bo (Nat.beq v.cells.toList.length size && Nat.ble (off + v.cells.toList.length) cs.length) (R9 place (put cs off v.cells.toList) r) none
def NS (P : Program) (h : Hp) (nx : Nat) (t : TypeId) : Option (List (Nat × Value)) → OR
 | some ps => match GG P t, P.underlying t with
  | some z, some (.struct fs) => match PD P fs.toList with
   | some pl => match R9 (fun i => pl[i]?) z.cells.toList ps with
    | some cs => .ok (.agg ⟨cs⟩) h nx
    | none => .bad
   | none => .bad
  | some z, some (.array _ el) => match K2 P el with
   | some s => match R9 (fun i => some (i * s, s)) z.cells.toList ps with
    | some cs => .ok (.agg ⟨cs⟩) h nx
    | none => .bad
   | none => .bad
  | _, _ => .bad
 | none => .bad
def DP (z : List Value) (n : Nat) : List Value := Nat.rec (motive := fun _ => List Value) [] (fun _ ih => z ++ ih) n
def FN (P : Program) (h : Hp) (nx : Nat) (t : TypeId) (len : Nat) : Option (List (Nat × Value)) → OR
 | some ps => match BT P t with
  | some (el, s) => match GG P el with
   | some z => bo (Nat.beq z.cells.toList.length s && (Nat.blt 0 s && Nat.ble (len * s) 16777216)) (match R9 (fun i => some (i * s, s)) (DP z.cells.toList len) ps with
    | some cs => KS h nx (.cells el cs.length 0 (Tb.of cs)) (.slice (some ⟨nx, 0, none⟩) len len)
    | none => .bad) .bad
   | none => .bad
  | none => .bad
 | none => .bad
def GK (P : Program) (h : Hp) (nx : Nat) (t : TypeId) : Option Value → Option Value → OR
 | some (.int .i64 (.ofNat n)), some (.int .i64 (.ofNat c)) => match BT P t with
  | some (el, s) => match GG P el, P.info? el with
   | some z, some i => bo (Nat.beq z.cells.toList.length s && (Nat.blt 0 s && (Nat.ble n c && (Nat.ble c 16777216 && Nat.ble i.bytes 16777216))))
    (KS h nx (.cells el (c * s) 0 (match z.cells.toList with | [v] => Tb.repN v c c | l => Tb.of (DP l c))) (.slice (some ⟨nx, 0, none⟩) n c)) .bad
   | _, _ => .bad
  | none => .bad
 | _, _ => .bad
def MW (P : Program) (s f : Nat) : Option (Nat × Option Nat) := match P.underlying s with
 | some (.struct fs) => match fs[f]? with
  | some fd => (MH P fd.type).map fun r => (fd.offset, r)
  | none => none
 | _ => none
def VT (cs : List Value) (off : Nat) : Option Nat → Option Value
 | none => cs[off]?
 | some n => some (.agg ⟨(cs.drop off).take n⟩)
def K9 (P : Program) (h : Hp) (nx : Nat) (s f : Nat) : Option Value → OR
 | some (.agg ⟨cs⟩) => match MW P s f with
  | some (off, r) => match VT cs off r with
   | some v => .ok v h nx
   | none => .bad
  | none => .bad
 | _ => .bad
def EV (P : Program) (h : Hp) (nx : Nat) (s f : Nat) : Option Value → OR
 | some (.pointer (some ⟨id, off, none⟩)) => match FA P s f with
  | some k => .ok (.pointer (some ⟨id, off + k, none⟩)) h nx
  | none => .bad
 | _ => .bad
def E7 (P : Program) (h : Hp) (nx : Nat) (t : TypeId) : Option Value → Option Value → OR
 | some (.slice (some ⟨id, off, _⟩) len _), some (.int _ (.ofNat m)) => match BT P t with
  | some (_, s) => bo (Nat.blt m len) (.ok (.pointer (some ⟨id, off + m * s, none⟩)) h nx) .bad
  | none => .bad
 | some (.pointer (some ⟨id, off, none⟩)), some (.int _ (.ofNat m)) => match EI P t with
  | some (len, _, s) => bo (Nat.blt m len) (.ok (.pointer (some ⟨id, off + m * s, none⟩)) h nx) .bad
  | none => .bad
 | _, _ => .bad
def NO (P : Program) (h : Hp) (nx : Nat) (t : TypeId) : Option Value → Option Value → OR
 | some (.agg ⟨cs⟩), some (.int _ (.ofNat m)) => match EI P t with
  | some (len, el, s) => match MH P el with
   | some r => bo (Nat.blt m len) (match VT cs (m * s) r with | some v => .ok v h nx | none => .bad) .bad
   | none => .bad
  | none => .bad
 | some (.string s), some (.int _ (.ofNat m)) => match P.underlying t with
  | some .string => match s.data.toList[m]? with
   | some b => .ok (.int .u8 (.ofNat b.toNat)) h nx
   | none => .bad
  | _ => .bad
 | _, _ => .bad
def HI (d : Nat) : Option (Option Value) → Option Nat
 | none => some d
 | some (some (.int _ (.ofNat m))) => some m
 | _ => none
def MN (h : Hp) (nx id off z s l u : Nat) : OR :=
 match h.get id with
 | some (.cells _ m _ _) => bo (Nat.blt l u && (Nat.ble (off + u * z) m && (Nat.blt 0 z && Nat.beq s z))) (.ok (.slice (some ⟨id, off + l * z, some z⟩) (u - l) 0) h nx) .bad
 | _ => .bad
def NL (P : Program) (h : Hp) (nx : Nat) (t : TypeId) (x : Option Value) (lo hi mx : Option (Option Value)) : OR :=
 match x with
 | some (.string s) => match P.underlying t, mx, HI 0 lo, HI s.data.toList.length hi with
  | some .string, none, some l, some u => bo (Nat.ble l u && Nat.ble u s.data.toList.length) (.ok (.string ⟨⟨(s.data.toList.drop l).take (u - l)⟩⟩) h nx) .bad
  | _, _, _, _ => .bad
 | some (.slice (some ⟨id, off, none⟩) len cap) => match BT P t, HI 0 lo, HI len hi, HI cap mx with
  | some (_, s), some l, some u, some m => bo (Nat.ble l u && (Nat.ble u m && (Nat.ble m cap && (hi.isSome || mx.isNone)))) (.ok (.slice (some ⟨id, bo (Nat.beq m l) off (off + l * s), none⟩) (u - l) (m - l)) h nx) .bad
  | _, _, _, _ => .bad
 | some (.slice (some ⟨id, off, some z⟩) len 0) => match BT P t, HI 0 lo, HI len hi, mx with
  | some (_, s), some l, some u, none => bo (Nat.ble l u && (Nat.ble u len && Nat.beq s z)) (bo (Nat.beq l 0 || Nat.blt l len) (.ok (.slice (some ⟨id, off + l * z, some z⟩) (u - l) 0) h nx) (.ok (.slice (some ⟨id, off + l * z, some z⟩) 0 1) h nx)) (MN h nx id off z s l u)
  | some (_, s), some l, some u, some mo => match HI 0 (some mo) with
   | some m => bo (Nat.ble l u && (Nat.ble u m && (Nat.ble m len && hi.isSome))) (.ok (.slice (some ⟨id, bo (Nat.beq m l) off (off + l * s), none⟩) (u - l) (m - l)) h nx) .bad
   | none => .bad
  | _, _, _, _ => .bad
 | some (.slice (some ⟨id, off, some z⟩) 0 1) => match BT P t, HI 0 lo, HI 0 hi, HI 0 mx with
  | some _, some 0, some 0, some 0 => bo (hi.isSome || mx.isNone) (.ok (.slice (some ⟨id, off, some z⟩) 0 1) h nx) .bad
  | _, _, _, _ => .bad
 | some (.slice none 0 0) => match BT P t, HI 0 lo, HI 0 hi, HI 0 mx with
  | some _, some 0, some 0, some 0 => bo (hi.isSome || mx.isNone) (.ok (.slice none 0 0) h nx) .bad
  | _, _, _, _ => .bad
 | some (.pointer (some ⟨id, off, none⟩)) => match EI P t, HI 0 lo, mx with
  | some (n, _, s), some l, none => match HI n hi with
   | some u => bo (Nat.ble l u && Nat.ble u n) (.ok (.slice (some ⟨id, bo (Nat.beq n l) off (off + l * s), none⟩) (u - l) (n - l)) h nx) .bad
   | none => .bad
  | _, _, _ => .bad
 | _ => .bad
def ikn : IntKind → Nat
 | .i8 => 0 | .i16 => 1 | .i32 => 2 | .i64 => 3 | .u8 => 4 | .u16 => 5 | .u32 => 6 | .u64 => 7
def DJ : IntKind → Nat
 | .i8 => 128 | .i16 => 32768 | .i32 => 2147483648 | .i64 => 9223372036854775808 | .u8 => 256 | .u16 => 65536 | .u32 => 4294967296 | .u64 => 18446744073709551616
def wr (k : IntKind) : Int → Int
 | .ofNat m => bo (Nat.blt m (DJ k)) (.ofNat m) (bo k.signed (k.wrap (.ofNat m)) (.ofNat (Nat.mod m (DJ k))))
 | .negSucc m => bo (k.signed && Nat.blt m (DJ k)) (.negSucc m) (k.wrap (.negSucc m))
def iLt : Int → Int → Bool
 | .ofNat a, .ofNat b => Nat.blt a b
 | .ofNat _, .negSucc _ => false
 | .negSucc _, .ofNat _ => true
 | .negSucc a, .negSucc b => Nat.blt b a
def iEq : Int → Int → Bool
 | .ofNat a, .ofNat b => Nat.beq a b
 | .negSucc a, .negSucc b => Nat.beq a b
 | _, _ => false
def uA (k : IntKind) (a b : Int) : Option Value := some (.int k (wr k (Int.add a b)))
def tY (k : IntKind) (a b : Int) : Option Value := some (.int k (wr k (Int.sub a b)))
def tG (k : IntKind) (a b : Int) : Option Value := some (.int k (wr k (Int.mul a b)))
def u9 (_ : IntKind) (a b : Int) : Option Value := some (.bool (iEq a b))
def tZ (_ : IntKind) (a b : Int) : Option Value := some (.bool (!iEq a b))
def u1 (_ : IntKind) (a b : Int) : Option Value := some (.bool (iLt a b))
def u5 (_ : IntKind) (a b : Int) : Option Value := some (.bool (!iLt b a))
def u6 (_ : IntKind) (a b : Int) : Option Value := some (.bool (iLt b a))
def u7 (_ : IntKind) (a b : Int) : Option Value := some (.bool (!iLt a b))
def tH (k : IntKind) : Int → Int → Option Value
 | .ofNat a, .ofNat b => bo (Nat.blt a (DJ k) && Nat.blt b (DJ k)) (some (.int k (.ofNat (Nat.land a b)))) none
 | _, _ => none
def iOr (k : IntKind) : Int → Int → Option Value
 | .ofNat a, .ofNat b => bo (Nat.blt a (DJ k) && Nat.blt b (DJ k)) (some (.int k (.ofNat (Nat.lor a b)))) none
 | _, _ => none
def tD (k : IntKind) : Int → Int → Option Value
 | .ofNat a, .ofNat b => bo (Nat.blt a (DJ k) && Nat.blt b (DJ k)) (some (.int k (.ofNat (Nat.xor a b)))) none
 | _, _ => none
def tF (k : IntKind) : Int → Int → Option Value
 | .ofNat a, .ofNat b => bo (Nat.blt a (DJ k) && Nat.blt 0 b) (some (.int k (.ofNat (Nat.div a b)))) none
 | _, _ => none
def tE (k : IntKind) : Int → Int → Option Value
 | .ofNat a, .ofNat b => bo (Nat.blt 0 b) (some (.int k (.ofNat (Nat.mod a b)))) none
 | _, _ => none
def YM : IntKind → Nat
 | .i8 => 8 | .i16 => 16 | .i32 => 32 | .i64 => 64 | .u8 => 8 | .u16 => 16 | .u32 => 32 | .u64 => 64
def P4 (op : BinOp) (k : IntKind) : Int → Int → Option Value :=
 match op with
 | .shl => fun a b => match a, b with
  | .ofNat a, .ofNat b => bo (Nat.ble b (YM k)) (some (.int k (wr k (.ofNat (Nat.mul a (Nat.pow 2 b)))))) none
  | _, _ => none
 | .shr => fun a b => match a, b with
  | .ofNat a, .ofNat b => bo (Nat.ble b (YM k)) (some (.int k (.ofNat (Nat.div a (Nat.pow 2 b))))) none
  | _, _ => none
 | _ => fun _ _ => none
def L4 (op : BinOp) : IntKind → Int → Int → Option Value :=
 match op with
 | .add => uA
 | .sub => tY
 | .mul => tG
 | .eql => u9
 | .neq => tZ
 | .lss => u1
 | .leq => u5
 | .gtr => u6
 | .geq => u7
 | .and => tH
 | .or => iOr
 | .xor => tD
 | .quo => tF
 | .rem => tE
 | _ => fun _ _ _ => none
def byEq : List UInt8 → List UInt8 → Bool
 | [], [] => true
 | a :: x, b :: y => bo (Nat.beq a.toNat b.toNat) (byEq x y) false
 | _, _ => false
def byLt : List UInt8 → List UInt8 → Bool
 | _, [] => false
 | [], _ :: _ => true
 | a :: x, b :: y => bo (Nat.blt a.toNat b.toNat) true (bo (Nat.beq a.toNat b.toNat) (byLt x y) false)
def VK (op : BinOp) (a b : List UInt8) : Option Value :=
 match op with
 | .add => bo (Nat.ble (a.length + b.length) 4611686018427387904) (some (.string ⟨⟨a ++ b⟩⟩)) none
 | .eql => some (.bool (byEq a b))
 | .neq => some (.bool (!byEq a b))
 | .lss => some (.bool (byLt a b))
 | .leq => some (.bool (!byLt b a))
 | .gtr => some (.bool (byLt b a))
 | .geq => some (.bool (!byLt a b))
 | _ => none
def OT (P : Program) (t : TypeId) : Value → Value → Option Bool
 | .pointer a, .pointer none => (HR P t).map fun _ => a.isNone
 | .pointer none, .pointer a => (HR P t).map fun _ => a.isNone
 | .pointer (some ⟨a, i, none⟩), .pointer (some ⟨b, j, none⟩) => match HR P t with
  | some el => match K2 P el with
   | some (_ + 1) => bo (Nat.beq a b) (some (Nat.beq i j)) none
   | _ => none
  | none => none
 | .slice a _ _, .slice none _ _ => (BT P t).map fun _ => a.isNone
 | .map a, .map none => match P.underlying t with
  | some (.map _ _) => some a.isNone
  | _ => none
 | .func _ _ _, .nilFunc => match P.underlying t with
  | some (.func _ _ _) => some false
  | _ => none
 | .nilFunc, .nilFunc => match P.underlying t with
  | some (.func _ _ _) => some true
  | _ => none
 | _, _ => none
def ZY {α : Type} (P : Program) (s : Sem α) : Option α :=
 Sem.rec (motive := fun _ => Option α) (fun a => some a) (fun _ _ _ _ => none) (fun _ _ _ _ _ => none) (fun _ _ _ => none) (fun _ _ _ => none) (fun _ _ _ _ => none) (fun _ _ _ => none) (fun _ _ _ => none) (fun _ _ _ _ => none) (fun _ _ _ => none) (fun _ _ _ => none) (fun _ ih => ih P) (fun _ _ ih => ih) (fun _ => none) s
def JP (G : Nat) (e : Tb Value) (l : List Operand) : Bool :=
 List.rec (motive := fun _ => Bool) true (fun x _ ih => match evO G e x with | some v => bo (O0 v) ih false | none => false) l
def DW (P : Program) (G : Nat) (e : Tb Value) (h : Hp) (nx : Nat) (o : Oper) : OR :=
 bo (JP G e o.op.operands.toList) (match ZY P (execOp (fun x => (evO G e x).getD undef) o) with
  | some (.value v) => bo (O0 v) (.ok v h nx) .bad
  | _ => .bad) .bad
abbrev BinF := Value → Program → Nat → Tb Value → Hp → Nat → Oper → BinOp → TypeId → OR
def RU (k : IntKind) (a : Int) : BinF := fun b P G e h nx o op _ =>
 match b with
 | .int k' b => bo (Nat.beq (ikn k) (ikn k')) (oo (L4 op k a b) (oo (P4 op k a b) (DW P G e h nx o) (fun v => .ok v h nx)) (fun v => .ok v h nx)) (oo (P4 op k a b) (DW P G e h nx o) (fun v => .ok v h nx))
 | _ => DW P G e h nx o
def Z6 (a : ByteArray) : BinF := fun b _ _ _ h nx _ op _ =>
 match b with
 | .string b => oo (VK op a.data.toList b.data.toList) .bad (fun v => .ok v h nx)
 | _ => .bad
def O7 (a : Value) : BinF := fun b P G e h nx o op t =>
 match op with
 | .eql => oo (OT P t a b) (DW P G e h nx o) (fun r => .ok (.bool r) h nx)
 | .neq => oo (OT P t a b) (DW P G e h nx o) (fun r => .ok (.bool (!r)) h nx)
 | _ => DW P G e h nx o
def Z5 (a : Value) : BinF :=
 match a with
 | .int k n => RU k n
 | .string s => Z6 s
 | a => O7 a
def dN (P : Program) (G : Nat) (e : Tb Value) (h : Hp) (nx : Nat) (o : Oper) (op : BinOp) (t : TypeId) (a b : Option Value) : OR :=
 oo a .bad (fun a => oo b .bad (fun b => Z5 a b P G e h nx o op t))
def oS : List Value → Option (List UInt8)
 | [] => some []
 | .int .u8 (.ofNat n) :: r => match oS r with
  | some l => some (UInt8.ofNat n :: l)
  | none => none
 | _ :: _ => none
def KA (P : Program) (G : Nat) (e : Tb Value) (h : Hp) (nx : Nat) (o : Oper) (s d : TypeId) : Option Value → OR
 | some (.int _ n) => match P.underlying d with
  | some (.int k') => match P.underlying s with
   | some _ => .ok (.int k' (wr k' n)) h nx
   | none => .bad
  | _ => DW P G e h nx o
 | some (.string b) => match P.underlying s, P.underlying d with
  | some .string, some (.slice el) => match P.underlying el with
   | some (.int .u8) => KS h nx (.cells el b.data.toList.length 0 (Tb.of (b.data.toList.map fun x => .int .u8 (.ofNat x.toNat)))) (.slice (some ⟨nx, 0, some 1⟩) b.data.toList.length 0)
   | _ => .bad
  | _, _ => DW P G e h nx o
 | some (.slice none _ _) => match BT P s, P.underlying d with
  | some (el, _), some .string => match P.underlying el with
   | some (.int .u8) => .ok (.string ⟨⟨[]⟩⟩) h nx
   | _ => .bad
  | _, _ => .bad
 | some (.slice (some ⟨id, off, sp⟩) len cap) => match Nat.beq s d with
  | true => match BT P s, h.get id with
   | some (el, _), some (.cells _ _ k _) => match P.underlying el with
    | some (.int .u8) => bo (Nat.beq k 0) (.ok (.slice (some ⟨id, off, sp⟩) len cap) h nx) .bad
    | _ => .bad
   | _, _ => .bad
  | false => match BT P s, P.underlying d, h.get id with
   | some (el, _), some .string, some (.cells _ _ _ c) => match P.underlying el, ldN c len off with
    | some (.int .u8), some l => match oS l with
     | some bs => .ok (.string ⟨⟨bs⟩⟩) h nx
     | none => .bad
    | _, _ => .bad
   | _, _, _ => .bad
 | _ => DW P G e h nx o
def YE (P : Program) (h : Hp) (nx : Nat) (t : TypeId) : Option Value → OR
 | some (.slice _ n _) => match BT P t with
  | some _ => .ok (.int .i64 (.ofNat n)) h nx
  | none => .bad
 | some (.string s) => match P.underlying t with
  | some .string => .ok (.int .i64 (.ofNat s.data.toList.length)) h nx
  | _ => .bad
 | some (.map none) => match P.underlying t with
  | some (.map _ _) => .ok (.int .i64 (.ofNat 0)) h nx
  | _ => .bad
 | some (.map (some id)) => match P.underlying t, h.get id with
  | some (.map _ _), some (.map _ _ l) => .ok (.int .i64 (.ofNat l.length)) h nx
  | _, _ => .bad
 | some _ => match P.underlying t with
  | some (.array n _) => .ok (.int .i64 (.ofNat n)) h nx
  | _ => .bad
 | none => .bad
def I5 (h : Hp) (s n : Nat) : Value → Option (List Value)
 | .slice none _ _ => bo (Nat.beq n 0) (some []) none
 | .slice (some ⟨id, off, _⟩) l _ => bo (Nat.ble n l) (match h.get id with
  | some (.cells _ _ _ c) => ldN c (n * s) off
  | _ => bo (Nat.beq n 0) (some []) none) none
 | .string b => bo (Nat.beq s 1) (some ((b.data.toList.take n).map fun x => .int .u8 (.ofNat x.toNat))) none
 | _ => none
def rG : Value → Option Nat
 | .slice _ n _ => some n
 | .string s => some s.data.toList.length
 | _ => none
def iX (P : Program) (h : Hp) (nx : Nat) (t : TypeId) (d x : Option Value) : OR :=
 match d, x with
 | some (.slice a dl _), some x => match BT P t, rG x with
  | some (_, s), some n0 => match I5 h s (bo (Nat.ble n0 dl) n0 dl) x with
   | some vs => match a with
    | some ⟨id, off, _⟩ => bo (vs.isEmpty) (.ok (.int .i64 (.ofNat (bo (Nat.ble n0 dl) n0 dl))) h nx) (match FS h id off vs with
     | some h' => .ok (.int .i64 (.ofNat (bo (Nat.ble n0 dl) n0 dl))) h' nx
     | none => .bad)
    | none => bo (vs.isEmpty) (.ok (.int .i64 (.ofNat (bo (Nat.ble n0 dl) n0 dl))) h nx) .bad
   | none => .bad
  | _, _ => .bad
 | _, _ => .bad
def YF (P : Program) (h : Hp) (nx : Nat) (t : TypeId) (x : Option Value) : OR :=
 match x with
 | some (.slice (some ⟨id, off, _⟩) n _) => match BT P t with
  | some (el, _) => match GG P el with
   | some z => bo (Nat.blt 0 n && Nat.blt 0 z.cells.toList.length) (match FS h id off (DP z.cells.toList n) with
    | some h' => .ok (.tuple ⟨[]⟩) h' nx
    | none => .bad) .bad
   | none => .bad
  | none => .bad
 | _ => .bad
def PF (P : Program) (h : Hp) (nx : Nat) (el s n : Nat) (cs : List Value) : OR :=
 match GG P el with
 | some z => bo (Nat.beq z.cells.toList.length s) (KS h nx (.cells el cs.length 0 (Tb.of cs)) (.slice (some ⟨nx, 0, some s⟩) n 0)) .bad
 | none => .bad
def lM (P : Program) (h : Hp) (nx : Nat) (el s n sl sc : Nat) (news : List Value) : OR :=
 bo (Nat.beq sl 0 && Nat.beq sc 0) (bo (Nat.beq n 0) (.ok (.slice none 0 0) h nx) (PF P h nx el s n news)) .bad
def RZ (P : Program) (h : Hp) (nx : Nat) (el s n sl sc id off : Nat) (news : List Value) : OR :=
 bo (Nat.ble (sl + n) sc)
  (match FS h id (off + sl * s) news with
  | some h' => .ok (.slice (some ⟨id, off, none⟩) (sl + n) sc) h' nx
  | none => bo (Nat.beq n 0) (.ok (.slice (some ⟨id, off, none⟩) (sl + n) sc) h nx) .bad)
  (match I5 h s sl (.slice (some ⟨id, off, none⟩) sl sc) with
  | some olds => PF P h nx el s (sl + n) (olds ++ news)
  | none => .bad)
def bO (P : Program) (h : Hp) (nx : Nat) (el s n sl sc id off z : Nat) (news : List Value) : OR :=
 bo (Nat.beq z s && Nat.beq sc 0) (match h.get id with
  | some (.cells el' m k c) => bo (Nat.ble (off + (sl + n) * s) m)
   (match FS h id (off + sl * s) news with
   | some h' => .ok (.slice (some ⟨id, off, some z⟩) (sl + n) 0) h' nx
   | none => .bad)
   (match GG P el with
   | some zv => bo (Nat.beq zv.cells.toList.length s && (Nat.beq (off + sl * s) m && (Nat.beq k 0 && Nat.beq el el'))) (bo (Nat.beq off 0) (stS news c m (fun c => rZ h id (fun h => KS h nx (.cells el (m + news.length) 0 c) (.slice (some ⟨nx, 0, some s⟩) (sl + n) 0))))
    (match ldN c (sl * s) off with
    | some olds => KX (olds ++ news) (fun l => rZ h id (fun h => KS h nx (.cells el l.length 0 (Tb.of l)) (.slice (some ⟨nx, 0, some s⟩) (sl + n) 0)))
    | none => .bad)) .bad
   | none => .bad)
  | _ => .bad) .bad
def PG (P : Program) (h : Hp) (nx : Nat) (t : TypeId) (a x : Option Value) : OR :=
 match a, x with
 | some (.slice a sl sc), some x => match BT P t, rG x with
  | some (el, s), some n => match P.info? el, I5 h s n x with
   | some i, some news => bo (Nat.blt 0 s && (Nat.ble (sl + n) 16777216 && (Nat.ble i.bytes 1048576 && news.all (·.oneCell')))) (match a with
    | none => lM P h nx el s n sl sc news
    | some ⟨id, off, none⟩ => RZ P h nx el s n sl sc id off news
    | some ⟨id, off, some z⟩ => bO P h nx el s n sl sc id off z news) .bad
   | _, _ => .bad
  | _, _ => .bad
 | _, _ => .bad
def W5 (h : Hp) (nx : Nat) : Option Value → OR
 | some (.pointer (some a)) => .ok (.pointer (some a)) h nx
 | some (.func (.func f) a b) => .ok (.func (.func f) a b) h nx
 | _ => .bad
def SZ (h : Hp) (nx : Nat) : Option Value → Option Value → Option Value → OR
 | some (.bool c), some a, some b => .ok (bo c a b) h nx
 | _, _, _ => .bad
def QQ (h : Hp) (nx : Nat) (v : Option Value) : OR := oo v .bad (fun v => .ok v h nx)
def HA (h : Hp) (nx : Nat) (i : Nat) : Option Value → OR
 | some (.tuple ⟨vs⟩) => match vs[i]? with
  | some v => .ok v h nx
  | none => .bad
 | _ => .bad
def T0 (h : Hp) (nx : Nat) (f : Fn) : Option (List Value) → Option (List Value) → OR
 | some xs, some ys => match f with
  | .func f => .ok (.func (.func f) ⟨xs⟩ ⟨ys⟩) h nx
  | _ => .bad
 | _, _ => .bad
def NP (P : Program) (h : Hp) (nx : Nat) (t : TypeId) : Option Value → OR
 | some v => match P.underlying t with
  | some (.interface _) => .bad
  | some _ => .ok (.iface t v) h nx
  | none => .bad
 | none => .bad
def dO (P : Program) (h : Hp) (nx : Nat) (t : TypeId) : Option Value → OR
 | some (.slice (some ⟨id, off, _⟩) len _) => match EI P t with
  | some (n, _, _) => bo (Nat.ble n len && Nat.blt 0 len) (.ok (.pointer (some ⟨id, off, none⟩)) h nx) .bad
  | none => .bad
 | _ => .bad
def WB : Value → Value → Option Bool
 | .string a, .string b => some (byEq a.data.toList b.data.toList)
 | .int k a, .int k' b => bo (Nat.beq (ikn k) (ikn k')) (some (iEq a b)) none
 | .bool a, .bool b => some (a == b)
 | _, _ => none
def KZ (P : Program) (t : TypeId) (k : Value) : Option TypeId :=
 match P.underlying t with
 | some (.map kt v) => match P.underlying kt, k with
  | some .string, .string _ => some v
  | some (.int _), .int _ _ => some v
  | some .bool, .bool _ => some v
  | _, _ => none
 | _ => none
def T9 (k : Value) : List (Value × Value) → Nat → Option (Option (Nat × Value))
 | [], _ => some none
 | p :: r, i => match WB k p.1 with
  | some true => some (some (i, p.2))
  | some false => T9 k r (i + 1)
  | none => none
def J4 (P : Program) (h : Hp) (nx : Nat) (t : TypeId) : Option (Option Value) → OR
 | none => KS h nx (.map 0 [] []) (.map (some nx))
 | some (some (.int _ _)) => match P.underlying t with
  | some (.map _ _) => KS h nx (.map 0 [] []) (.map (some nx))
  | _ => .bad
 | _ => .bad
def rA (h : Hp) : Option Nat → Option (List (Value × Value))
 | none => some []
 | some id => match h.get id with
  | some (.map _ _ l) => some l
  | _ => none
def KL (P : Program) (h : Hp) (nx : Nat) (t : TypeId) (ok : Bool) : Option Value → Option Value → OR
 | some (.map r), some k => match KZ P t k, rA h r with
  | some el, some l => match T9 k l 0 with
   | some (some (_, v)) => .ok (bo ok (.tuple ⟨[v, .bool true]⟩) v) h nx
   | some none => match GG P el with
    | some z => .ok (bo ok (.tuple ⟨[z, .bool false]⟩) z) h nx
    | none => .bad
   | none => .bad
  | _, _ => .bad
 | _, _ => .bad
def KJ (P : Program) (h : Hp) (nx : Nat) (t : TypeId) : Option Value → Option Value → Option Value → OR
 | some (.map (some id)), some k, some v => match KZ P t k, h.get id with
  | some _, some (.map cl bs l) => match T9 k l 0 with
   | some (some (i, _)) => KX (l.set i (k, v)) (fun l => IX h id (.map cl bs l) (fun h => .ok undef h nx))
   | some none => GZ (cl + 1) (fun cl' => KX (bs ++ [cl]) (fun bs => KX (l ++ [(k, v)]) (fun l => IX h id (.map cl' bs l) (fun h => .ok undef h nx))))
   | none => .bad
  | _, _ => .bad
 | _, _, _ => .bad
def UC (P : Program) (h : Hp) (nx : Nat) (t : TypeId) : Option Value → OR
 | some (.string s) => match P.underlying t with
  | some .string => KS h nx (.iter s 0) (.pointer (some ⟨nx, 0, none⟩))
  | _ => .bad
 | some (.map none) => match P.underlying t with
  | some (.map _ _) => KS h nx (.miter none 0 [] 0) (.pointer (some ⟨nx, 0, none⟩))
  | _ => .bad
 | some (.map (some id)) => match P.underlying t, h.get id with
  | some (.map _ _), some (.map cl _ _) => KS h nx (.miter (some id) cl [] cl) (.pointer (some ⟨nx, 0, none⟩))
  | _, _ => .bad
 | _ => .bad
def QW (seen : List Nat) : List Nat → List (Value × Value) → List (Nat × (Value × Value))
 | b :: bs, p :: l => bo (seen.contains b) (QW seen bs l) ((b, p) :: QW seen bs l)
 | _, _ => []
def aH (h : Hp) (nx : Nat) (str : Bool) : Option Value → OR
 | some (.pointer (some ⟨id, 0, none⟩)) => match h.get id with
  | some (.iter s pos) => bo str (bo (Nat.blt pos s.data.toList.length)
   (GZ (pos + (Utf8.decode s pos).2) (fun p' => IX h id (.iter s p') (fun h => .ok (.tuple ⟨[.bool true, .int .i64 (.ofNat pos), .int .i32 (Utf8.decode s pos).1]⟩) h nx)))
   (.ok (.tuple ⟨[.bool false]⟩) h nx)) .bad
  | some (.miter none _ _ _) => bo str .bad (.ok (.tuple ⟨[.bool false]⟩) h nx)
  | some (.miter (some m) since seen last) => bo str .bad (match h.get m with
   | some (.map cl bs l) => bo (!seen.isEmpty && (!bs.isEmpty && bs.all (fun b => Nat.ble last b))) .bad (match QW seen bs l with
    | [] => .ok (.tuple ⟨[.bool false]⟩) h nx
    | [(b, (k, v))] => bo (Nat.blt b since) (KX (seen ++ [b]) (fun seen => IX h id (.miter (some m) since seen cl) (fun h => .ok (.tuple ⟨[.bool true, k, v]⟩) h nx))) .bad
    | _ => .bad)
   | _ => .bad)
  | _ => .bad
 | _ => .bad
def TA (b : Nat) : List Nat → List (Value × Value) → Option (Value × Value)
 | c :: bs, p :: l => bo (Nat.beq c b) (some p) (TA b bs l)
 | _, _ => none
def NQ (h : Hp) (nx : Nat) : Option Value → OR
 | some (.pointer (some ⟨id, 0, none⟩)) => match h.get id with
  | some (.miter (some m) _ seen last) => match h.get m, seen.getLast? with
   | some (.map cl bs l), some b => bo (Nat.beq cl last) (match TA b bs l with
    | some (k, v) => .ok (.tuple ⟨[k, v]⟩) h nx
    | none => .bad) .bad
   | _, _ => .bad
  | _ => .bad
 | _ => .bad
def KK (P : Program) (h : Hp) (nx : Nat) (t : TypeId) : Option Value → Option Value → OR
 | some (.map (some id)), some k => match KZ P t k, h.get id with
  | some el, some (.map cl bs l) => match T9 k l 0 with
   | some (some (i, v)) => match bs[i]? with
    | some b => IX h id (.map cl bs l) (fun h => .ok (.tuple ⟨[v, .int .i64 (.ofNat b)]⟩) h nx)
    | none => .bad
   | some none => match GG P el with
    | some z => GZ (cl + 1) (fun cl' => KX (bs ++ [cl]) (fun bs => KX (l ++ [(k, z)]) (fun l => IX h id (.map cl' bs l) (fun h => .ok (.tuple ⟨[z, .int .i64 (.ofNat cl)]⟩) h nx))))
    | none => .bad
   | none => .bad
  | _, _ => .bad
 | _, _ => .bad
def o7 (b : Nat) : List Nat → Nat → Option Nat
 | c :: bs, i => bo (Nat.beq c b) (some i) (o7 b bs (i + 1))
 | [], _ => none
def cT : List (Value × Value) → Nat → Value → List (Value × Value)
 | p :: l, 0, x => (p.1, x) :: l
 | p :: l, i + 1, x => p :: cT l i x
 | [], _, _ => []
def IS (h : Hp) (nx : Nat) : Option Value → Option Value → Option Value → OR
 | some (.map (some id)), some (.int _ (.ofNat b)), some x => match h.get id with
  | some (.map cl bs l) => match o7 b bs 0 with
   | some i => KX (cT l i x) (fun l => IX h id (.map cl bs l) (fun h => .ok undef h nx))
   | none => .bad
  | _ => .bad
 | _, _, _ => .bad
abbrev CallF := FuncId → List Value → Hp → Nat → OR
def OX (P : Program) (f : FuncId) : Bool :=
 match P.funcs[f]? with
 | some fn => fn.body.isSome && !(fn.name == "runtime.NumGoroutine")
 | none => false
def KB (P : Program) (call : CallF) (h : Hp) (nx : Nat) : Option Value → Option (List Value) → OR
 | some (.func (.func f) ⟨xs⟩ ⟨cs⟩), some vs => bo (OX P f) (call f (xs ++ (vs ++ cs)) h nx) .bad
 | some (.func (.yield l) ⟨[]⟩ ⟨[]⟩), some vs => GZ (Nat.add P.funcs.size l) (fun f => call f vs h nx)
 | _, _ => .bad
def E5 (P : Program) (G : Nat) (e : Tb Value) (h : Hp) (nx : Nat) (o : Oper) (b : Builtin) (args : List Operand) (ts : List TypeId) : OR :=
 match b, args, ts with
 | .len, [x], [t] => YE P h nx t (evO G e x)
 | .append, [s, x], [t, u] => match P.underlying u with
  | some (.slice _) => PG P h nx t (evO G e s) (evO G e x)
  | some .string => PG P h nx t (evO G e s) (evO G e x)
  | _ => .bad
 | .copy, [d, x], [t, _] => iX P h nx t (evO G e d) (evO G e x)
 | .clear, [x], [t] => YF P h nx t (evO G e x)
 | .min, _, _ => DW P G e h nx o
 | .max, _, _ => DW P G e h nx o
 | _, _, _ => .bad
abbrev BrF := Program → Nat → CallF → Tb Value → Hp → Nat → Oper → OR
def lJ (x : Operand) : BrF := fun _ G _ e h nx _ => QQ h nx (evO G e x)
def XH (x : Operand) : BrF := fun _ G _ e h nx _ => QQ h nx (evO G e x)
def lH (c a b : Operand) : BrF := fun _ G _ e h nx _ => SZ h nx (evO G e c) (evO G e a) (evO G e b)
def bN (el : TypeId) : BrF := fun P _ _ _ h nx _ => QS P h nx el
def pM (el : TypeId) (x : Operand) : BrF := fun _ G _ e h nx _ => dM h nx el (evO G e x)
def bM (t : TypeId) (ps : Array (Nat × Operand)) : BrF := fun P G _ e h nx _ => NS P h nx t (evP G e ps.toList)
def N7 (t : TypeId) (m : Nat) (ps : Array (Nat × Operand)) : BrF := fun P G _ e h nx _ => FN P h nx t m (evP G e ps.toList)
def XE (t : TypeId) (m k x : Operand) : BrF := fun P G _ e h nx _ => KJ P h nx t (evO G e m) (evO G e k) (evO G e x)
def sF (t : TypeId) (a : Operand) : BrF := fun P G _ e h nx _ => J5 P h nx t (evO G e a)
def oV (t : TypeId) (a x : Operand) : BrF := fun P G _ e h nx _ => NK P h nx t (evO G e a) (evO G e x)
def Z7 (x : Operand) : BrF := fun _ G _ e h nx _ => W5 h nx (evO G e x)
def oX (op : BinOp) (t : TypeId) (x y : Operand) (_ : TypeId) : BrF := fun P G _ e h nx o => dN P G e h nx o op t (evO G e x) (evO G e y)
def lG (_ : UnOp) (_ : TypeId) (_ : Operand) : BrF := fun P G _ e h nx o => DW P G e h nx o
def TN (s d : TypeId) (x : Operand) : BrF := fun P G _ e h nx o => KA P G e h nx o s d (evO G e x)
def GF (t : TypeId) (x : Operand) : BrF := fun P G _ e h nx _ => dO P h nx t (evO G e x)
def JU (t : TypeId) (x : Operand) : BrF := fun P G _ e h nx _ => NP P h nx t (evO G e x)
def RW (f : Fn) (xs ys : Array Operand) : BrF := fun _ G _ e h nx _ => T0 h nx f (evL G e xs.toList) (evL G e ys.toList)
def TM (t : TypeId) (r : Option Operand) : BrF := fun P G _ e h nx _ => J4 P h nx t (r.map (evO G e))
def P0 (t : TypeId) (l c : Operand) : BrF := fun P G _ e h nx _ => GK P h nx t (evO G e l) (evO G e c)
def bI (t : TypeId) (x : Operand) (lo hi mx : Option Operand) : BrF := fun P G _ e h nx _ => NL P h nx t (evO G e x) (lo.map (evO G e)) (hi.map (evO G e)) (mx.map (evO G e))
def XG (s : TypeId) (x : Operand) (f : Nat) : BrF := fun P G _ e h nx _ => EV P h nx s f (evO G e x)
def oW (s : TypeId) (x : Operand) (f : Nat) : BrF := fun P G _ e h nx _ => K9 P h nx s f (evO G e x)
def XF (t : TypeId) (x i : Operand) : BrF := fun P G _ e h nx _ => E7 P h nx t (evO G e x) (evO G e i)
def bK (t : TypeId) (x i : Operand) : BrF := fun P G _ e h nx _ => NO P h nx t (evO G e x) (evO G e i)
def XD (t : TypeId) (x i : Operand) (ok : Bool) : BrF := fun P G _ e h nx _ => KL P h nx t ok (evO G e x) (evO G e i)
def OZ (t : TypeId) (m k x : Operand) : BrF := fun P G _ e h nx _ => KJ P h nx t (evO G e m) (evO G e k) (evO G e x)
def bJ (t : TypeId) (x : Operand) : BrF := fun P G _ e h nx _ => UC P h nx t (evO G e x)
def lI (x : Operand) (b : Bool) : BrF := fun _ G _ e h nx _ => aH h nx b (evO G e x)
def RV (t : TypeId) (m k : Operand) : BrF := fun P G _ e h nx _ => KK P h nx t (evO G e m) (evO G e k)
def N6 (_ : TypeId) (m s x : Operand) : BrF := fun _ G _ e h nx _ => IS h nx (evO G e m) (evO G e s) (evO G e x)
def bL (x : Operand) : BrF := fun _ G _ e h nx _ => NQ h nx (evO G e x)
def f7 (x : Operand) (i : Nat) : BrF := fun _ G _ e h nx _ => HA h nx i (evO G e x)
def sG (c : Call) : BrF := fun P G call e h nx o => match c.callee with
 | .value f => KB P call h nx (evO G e f) (evL G e c.args.toList)
 | .builtin b => E5 P G e h nx o b c.args.toList c.argTypes.toList
 | _ => .bad
def JD : BrF := fun _ _ _ _ _ _ _ => .bad
def sOp (P : Program) (G : Nat) (call : CallF) (e : Tb Value) (h : Hp) (nx : Nat) (o : Oper) : OR :=
 @Op.rec (fun _ => BrF) lJ XH lH bN pM bM N7 XE sF oV (fun _ => JD) (fun _ => JD) Z7 oX lG TN GF JU RW TM (fun _ _ => JD) P0 bI XG oW XF bK XD OZ RV N6 bJ lI bL (fun _ _ _ _ => JD) f7 sG (fun _ => JD) (fun _ => JD) (fun _ => JD) (fun _ _ => JD) (fun _ _ _ => JD) (fun _ _ => JD) o.op P G call e h nx o
def q8 (v : Value) : (Value → Option (Tb Value)) → Option (Tb Value) :=
 @Value.rec (fun _ => (Value → Option (Tb Value)) → Option (Tb Value)) (fun _ => Unit) (fun _ => Unit)
  (fun b f => @Bool.rec (fun _ => Option (Tb Value)) (f (.bool false)) (f (.bool true)) b)
  (fun k n f => @Int.rec (fun _ => Option (Tb Value)) (fun m => GZ m (fun m => f (.int k (.ofNat m)))) (fun m => GZ m (fun m => f (.int k (.negSucc m)))) n)
  (fun k n f => f (.float k n))
  (fun k r i f => f (.complex k r i))
  (fun s f => f (.string s))
  (fun a f => @Option.rec Addr (fun _ => Option (Tb Value)) (f (.pointer none)) (fun ad => @Addr.rec (fun _ => Option (Tb Value)) (fun b o sp => GZ o (fun o => f (.pointer (some ⟨b, o, sp⟩)))) ad) a)
  (fun a n c f => @Option.rec Addr (fun _ => Option (Tb Value)) (f (.slice none n c)) (fun ad => @Addr.rec (fun _ => Option (Tb Value)) (fun b o sp => GZ o (fun o => GZ n (fun n => GZ c (fun c => f (.slice (some ⟨b, o, sp⟩) n c))))) ad) a)
  (fun r f => f (.map r))
  (fun r f => f (.chan r))
  (fun g x y _ _ f => f (.func g x y))
  (fun f => f .nilFunc)
  (fun t v _ f => f (.iface t v))
  (fun f => f .nilIface)
  (fun x _ f => f (.agg x))
  (fun x _ f => f (.tuple x))
  (fun _ _ => ()) () (fun _ _ _ _ => ()) v
theorem mA (v : Value) (f : Value → Option (Tb Value)) : q8 v f = f v := by
 cases v with
 | bool b => cases b <;> rfl
 | int k n => cases n with
  | ofNat m => exact DN m fun m => f (.int k (.ofNat m))
  | negSucc m => exact DN m fun m => f (.int k (.negSucc m))
 | pointer a => rcases a with _ | ⟨b, o, sp⟩
                ·rfl
                ·exact DN o fun o => f (.pointer (some ⟨b, o, sp⟩))
 | slice a n c => rcases a with _ | ⟨b, o, sp⟩
                  ·rfl
                  ·show GZ o (fun o => GZ n (fun n => GZ c (fun c => f (.slice (some ⟨b, o, sp⟩) n c)))) = _
                   rw [DN, DN, DN]
 | _ => rfl
def qA (v : Value) : OR → (Nat → Nat → OR) → OR :=
 @Value.rec (fun _ => OR → (Nat → Nat → OR) → OR) (fun _ => Unit) (fun _ => Unit)
  (fun _ d _ => d)
  (fun _ _ d _ => d)
  (fun _ _ d _ => d)
  (fun _ _ _ d _ => d)
  (fun _ d _ => d)
  (fun a d s => @Option.rec Addr (fun _ => OR) d (fun ad => @Addr.rec (fun _ => OR) (fun b o sp => @Option.rec Nat (fun _ => OR) (s b o) (fun _ => d) sp) ad) a)
  (fun _ _ _ d _ => d)
  (fun _ d _ => d)
  (fun _ d _ => d)
  (fun _ _ _ _ _ d _ => d)
  (fun d _ => d)
  (fun _ _ _ d _ => d)
  (fun d _ => d)
  (fun _ _ d _ => d)
  (fun _ _ d _ => d)
  (fun _ _ => ()) () (fun _ _ _ _ => ()) v
def qB (v : Value) : OR → (Nat → OR) → OR :=
 @Value.rec (fun _ => OR → (Nat → OR) → OR) (fun _ => Unit) (fun _ => Unit)
  (fun _ d _ => d)
  (fun _ n d s => @Int.rec (fun _ => OR) (fun m => s m) (fun _ => d) n)
  (fun _ _ d _ => d)
  (fun _ _ _ d _ => d)
  (fun _ d _ => d)
  (fun _ d _ => d)
  (fun _ _ _ d _ => d)
  (fun _ d _ => d)
  (fun _ d _ => d)
  (fun _ _ _ _ _ d _ => d)
  (fun d _ => d)
  (fun _ _ _ d _ => d)
  (fun d _ => d)
  (fun _ _ d _ => d)
  (fun _ _ d _ => d)
  (fun _ _ => ()) () (fun _ _ _ _ => ()) v
def tR (v : Value) : OR → (Nat → Nat → Nat → OR) → (Nat → Nat → OR) → OR :=
 @Value.rec (fun _ => OR → (Nat → Nat → Nat → OR) → (Nat → Nat → OR) → OR) (fun _ => Unit) (fun _ => Unit)
  (fun _ d _ _ => d)
  (fun _ _ d _ _ => d)
  (fun _ _ d _ _ => d)
  (fun _ _ _ d _ _ => d)
  (fun _ d _ _ => d)
  (fun a d _ p => @Option.rec Addr (fun _ => OR) d (fun ad => @Addr.rec (fun _ => OR) (fun b o sp => @Option.rec Nat (fun _ => OR) (p b o) (fun _ => d) sp) ad) a)
  (fun a n _ d s _ => @Option.rec Addr (fun _ => OR) d (fun ad => @Addr.rec (fun _ => OR) (fun b o _ => s b o n) ad) a)
  (fun _ d _ _ => d)
  (fun _ d _ _ => d)
  (fun _ _ _ _ _ d _ _ => d)
  (fun d _ _ => d)
  (fun _ _ _ d _ _ => d)
  (fun d _ _ => d)
  (fun _ _ d _ _ => d)
  (fun _ _ d _ _ => d)
  (fun _ _ => ()) () (fun _ _ _ _ => ()) v
def tP (v : Value) : OR → (List Value → OR) → OR :=
 @Value.rec (fun _ => OR → (List Value → OR) → OR) (fun _ => Unit) (fun _ => Unit)
  (fun _ d _ => d)
  (fun _ _ d _ => d)
  (fun _ _ d _ => d)
  (fun _ _ _ d _ => d)
  (fun _ d _ => d)
  (fun _ d _ => d)
  (fun _ _ _ d _ => d)
  (fun _ d _ => d)
  (fun _ d _ => d)
  (fun _ _ _ _ _ d _ => d)
  (fun d _ => d)
  (fun _ _ _ d _ => d)
  (fun d _ => d)
  (fun _ _ d _ => d)
  (fun x _ _ s => s x.toList)
  (fun _ _ => ()) () (fun _ _ _ _ => ()) v
def tT (v : Value) : OR → (List Value → OR) → OR :=
 @Value.rec (fun _ => OR → (List Value → OR) → OR) (fun _ => Unit) (fun _ => Unit)
  (fun _ d _ => d)
  (fun _ _ d _ => d)
  (fun _ _ d _ => d)
  (fun _ _ _ d _ => d)
  (fun _ d _ => d)
  (fun _ d _ => d)
  (fun _ _ _ d _ => d)
  (fun _ d _ => d)
  (fun _ d _ => d)
  (fun _ _ _ _ _ d _ => d)
  (fun d _ => d)
  (fun _ _ _ d _ => d)
  (fun d _ => d)
  (fun x _ _ s => s x.toList)
  (fun _ _ d _ => d)
  (fun _ _ => ()) () (fun _ _ _ _ => ()) v
def tQ (v : Value) : OR → (Nat → OR) → OR :=
 @Value.rec (fun _ => OR → (Nat → OR) → OR) (fun _ => Unit) (fun _ => Unit)
  (fun _ d _ => d)
  (fun _ _ d _ => d)
  (fun _ _ d _ => d)
  (fun _ _ _ d _ => d)
  (fun _ d _ => d)
  (fun _ d _ => d)
  (fun _ n _ _ s => s n)
  (fun _ d _ => d)
  (fun _ d _ => d)
  (fun _ _ _ _ _ d _ => d)
  (fun d _ => d)
  (fun _ _ _ d _ => d)
  (fun d _ => d)
  (fun _ _ d _ => d)
  (fun _ _ d _ => d)
  (fun _ _ => ()) () (fun _ _ _ _ => ()) v
def vFn (v : Value) : OR → (Nat → List Value → List Value → OR) → OR :=
 @Value.rec (fun _ => OR → (Nat → List Value → List Value → OR) → OR) (fun _ => Unit) (fun _ => Unit)
  (fun _ d _ => d)
  (fun _ _ d _ => d)
  (fun _ _ d _ => d)
  (fun _ _ _ d _ => d)
  (fun _ d _ => d)
  (fun _ d _ => d)
  (fun _ _ _ d _ => d)
  (fun _ d _ => d)
  (fun _ d _ => d)
  (fun g x y _ _ d s => match g with | .func f => s f x.toList y.toList | _ => d)
  (fun d _ => d)
  (fun _ _ _ d _ => d)
  (fun d _ => d)
  (fun _ _ d _ => d)
  (fun _ _ d _ => d)
  (fun _ _ => ()) () (fun _ _ _ _ => ()) v
def q9 (v : Value) : OR → OR → OR :=
 @Value.rec (fun _ => OR → OR → OR) (fun _ => Unit) (fun _ => Unit)
  (fun _ d _ => d)
  (fun _ _ d _ => d)
  (fun _ _ d _ => d)
  (fun _ _ _ d _ => d)
  (fun _ d _ => d)
  (fun a d s => @Option.rec Addr (fun _ => OR) d (fun _ => s) a)
  (fun _ _ _ d _ => d)
  (fun _ d _ => d)
  (fun _ d _ => d)
  (fun _ _ _ _ _ d _ => d)
  (fun d _ => d)
  (fun _ _ _ d _ => d)
  (fun d _ => d)
  (fun _ _ d _ => d)
  (fun _ _ d _ => d)
  (fun _ _ => ()) () (fun _ _ _ _ => ()) v
def RO (v : Value) : List Value :=
 @Value.rec (fun _ => List Value) (fun _ => Unit) (fun _ => Unit)
  (fun b => [(.bool b)])
  (fun k n => [(.int k n)])
  (fun k n => [(.float k n)])
  (fun k r i => [(.complex k r i)])
  (fun s => [(.string s)])
  (fun a => [(.pointer a)])
  (fun a n c => [(.slice a n c)])
  (fun r => [(.map r)])
  (fun r => [(.chan r)])
  (fun g x y _ _ => [(.func g x y)])
  ([.nilFunc])
  (fun t v _ => [(.iface t v)])
  ([.nilIface])
  (fun x _ => x.toList)
  (fun x _ => [(.tuple x)])
  (fun _ _ => ()) () (fun _ _ _ _ => ()) v
theorem eZ (v : Value) : RO v = v.cells.toList := by cases v <;> rfl
def bH (B : Option Bl) (d : OR) (s : Tb Value → OR) : OR :=
 @Option.rec Bl (fun _ => OR) d (fun B => @Bl.rec (fun _ => OR) (fun _ _ _ c => s c) (fun _ _ _ => d) (fun _ _ => d) (fun _ _ _ _ => d) (fun _ _ _ _ _ _ _ => d) B) B
def lD (B : Option Bl) (s : Nat → Nat → Nat → Tb Value → Option Hp) : Option Hp :=
 @Option.rec Bl (fun _ => Option Hp) none (fun B => @Bl.rec (fun _ => Option Hp) s (fun _ _ _ => none) (fun _ _ => none) (fun _ _ _ _ => none) (fun _ _ _ _ _ _ _ => none) B) B
def pI (P : Program) (h : Hp) (nx : Nat) (t : TypeId) (x : Option Value) : OR :=
 oo x .bad (fun x => qA x .bad (fun id off => bH (h.get id) .bad (fun c => oo (MH P t) .bad (fun r => @Option.rec Nat (fun _ => OR) (oo (c.get off) .bad (fun v => .ok v h nx)) (fun n => oo (ldN c n off) .bad (fun l => .ok (.agg ⟨l⟩) h nx)) r))))
theorem kC (P : Program) (h : Hp) (nx : Nat) (t : TypeId) (x : Option Value) : pI P h nx t x = J5 P h nx t x := by
 cases x with
 | none => rfl
 | some x =>
  cases x with
  | pointer a =>
   rcases a with _ | ⟨b, o, _ | z⟩
   ·rfl
   ·show bH (h.get b) .bad _ = _
    unfold J5
    simp only
    generalize h.get b = B
    rcases B with _ | B
    ·rfl
    ·cases B with
     | cells el n k c =>
      show oo (MH P t) _ _ = _
      generalize MH P t = r
      rcases r with _ | r
      ·rfl
      ·rcases r with _ | n
       ·show oo (c.get o) _ _ = _
        simp only
        generalize c.get o = q
        cases q <;> rfl
       ·show oo (ldN c n o) _ _ = _
        simp only
        generalize ldN c n o = q
        cases q <;> rfl
     | _ => rfl
   ·rfl
  | _ => rfl
def j3 (l : List Value) : Nat := @List.rec Value (fun _ => Nat) 0 (fun _ _ ih => Nat.succ ih) l
theorem UG : ∀ l : List Value, j3 l = l.length
 | [] => rfl
 | _ :: l => congrArg Nat.succ (UG l)
def qT (v : Value) : Bool :=
 @Value.rec (fun _ => Bool) (fun _ => Unit) (fun _ => Unit)
  (fun _ => true)
  (fun _ _ => true)
  (fun _ _ => true)
  (fun _ _ _ => true)
  (fun _ => true)
  (fun _ => true)
  (fun _ _ _ => true)
  (fun _ => true)
  (fun _ => true)
  (fun _ _ _ _ _ => true)
  (true)
  (fun _ _ _ => true)
  (true)
  (fun _ _ => false)
  (fun _ _ => false)
  (fun _ _ => ()) () (fun _ _ _ _ => ()) v
theorem nD (v : Value) : qT v = v.oneCell' := by cases v <;> rfl
def ZA (l : List Value) : Bool := @List.rec Value (fun _ => Bool) true (fun v _ ih => bo (qT v) ih false) l
theorem TP : ∀ l : List Value, ZA l = l.all (·.oneCell')
 | [] => rfl
 | v :: l => by
  show bo (qT v) (ZA l) false = _
  rw [TP l, nD, List.all_cons]
  cases v.oneCell' <;> rfl
def fWr (h : Hp) (id off : Nat) (vs : List Value) : Option Hp :=
 lD (h.get id) (fun el n k c => bo (Nat.ble (Nat.add off (j3 vs)) n) (bo (Nat.beq k 0) (bo (ZA vs) (stS vs c off (fun c => IX h id (.cells el n k c) some)) none) none) none)
theorem rX (h : Hp) (id off : Nat) (vs : List Value) : fWr h id off vs = FS h id off vs := by
 unfold fWr FS
 generalize h.get id = B
 rcases B with _ | B
 ·rfl
 ·cases B with
  | cells el n k c =>
   show bo (Nat.ble (off + j3 vs) n) _ none = bo (Nat.ble (off + vs.length) n && (Nat.beq k 0 && vs.all (·.oneCell'))) _ none
   rw [UG, TP]
   cases Nat.ble (off + vs.length) n <;> cases Nat.beq k 0 <;> cases vs.all (·.oneCell') <;> rfl
  | _ => rfl
def kB (P : Program) (h : Hp) (nx : Nat) (t : TypeId) (x y : Option Value) : OR :=
 oo x .bad (fun x => oo y .bad (fun v => qA x .bad (fun id off => oo (K2 P t) .bad (fun n => bo (Nat.beq (j3 (RO v)) n) (oo (fWr h id off (RO v)) .bad (fun h' => .ok undef h' nx)) .bad))))
theorem eI (P : Program) (h : Hp) (nx : Nat) (t : TypeId) (x y : Option Value) : kB P h nx t x y = NK P h nx t x y := by
 cases x with
 | none => rfl
 | some x =>
  cases y with
  | none =>
   cases x with
   | pointer a => rcases a with _ | ⟨b, o, _ | z⟩ <;> rfl
   | _ => rfl
  | some v =>
   cases x with
   | pointer a =>
    rcases a with _ | ⟨b, o, _ | z⟩
    ·rfl
    ·show oo (K2 P t) OR.bad _ = _
     unfold NK
     simp only
     generalize K2 P t = r
     rcases r with _ | n
     ·rfl
     ·show bo (Nat.beq (j3 (RO v)) n) (oo (fWr h b o (RO v)) OR.bad _) OR.bad = _
      rw [eZ, UG, rX]
      simp only
      generalize FS h b o v.cells.toList = q
      cases q <;> rfl
    ·rfl
   | _ => rfl
def RE (P : Program) (h : Hp) (nx : Nat) (s f : Nat) (x : Option Value) : OR :=
 oo x .bad (fun x => qA x .bad (fun id off => oo (FA P s f) .bad (fun k => .ok (.pointer (some ⟨id, Nat.add off k, none⟩)) h nx)))
theorem SD (P : Program) (h : Hp) (nx : Nat) (s f : Nat) (x : Option Value) : RE P h nx s f x = EV P h nx s f x := by
 cases x with
 | none => rfl
 | some x =>
  cases x with
  | pointer a =>
   rcases a with _ | ⟨b, o, _ | z⟩
   ·rfl
   ·show oo (FA P s f) OR.bad _ = _
    unfold EV
    simp only
    generalize FA P s f = r
    cases r <;> rfl
   ·rfl
  | _ => rfl
def RC (P : Program) (h : Hp) (nx : Nat) (t : TypeId) (x i : Option Value) : OR :=
 oo x .bad (fun x => oo i .bad (fun i => tR x .bad
  (fun id off len => qB i .bad (fun m => oo (BT P t) .bad (fun p => bo (Nat.blt m len) (.ok (.pointer (some ⟨id, Nat.add off (Nat.mul m p.2), none⟩)) h nx) .bad)))
  (fun id off => qB i .bad (fun m => oo (EI P t) .bad (fun p => bo (Nat.blt m p.1) (.ok (.pointer (some ⟨id, Nat.add off (Nat.mul m p.2.2), none⟩)) h nx) .bad)))))
theorem SC (P : Program) (h : Hp) (nx : Nat) (t : TypeId) (x i : Option Value) : RC P h nx t x i = E7 P h nx t x i := by
 cases x with
 | none => rfl
 | some x =>
  cases i with
  | none => cases x with
   | pointer a => rcases a with _ | ⟨b, o, _ | z⟩ <;> rfl
   | slice a n c => rcases a with _ | ⟨b, o, _ | z⟩ <;> rfl
   | _ => rfl
  | some i =>
   have hs : ∀ id off len sp cap, oo (some i) OR.bad (fun i => qB i .bad (fun m => oo (BT P t) .bad (fun p => bo (Nat.blt m len) (.ok (.pointer (some ⟨id, Nat.add off (Nat.mul m p.2), none⟩)) h nx) .bad))) = E7 P h nx t (some (.slice (some ⟨id, off, sp⟩) len cap)) (some i) := fun id off len sp cap => by
    cases i with
    | int k n => cases n with
     | ofNat m =>
      show oo (BT P t) OR.bad _ = _
      unfold E7
      simp only
      generalize BT P t = r
      cases r <;> rfl
     | negSucc m => rfl
    | _ => rfl
   cases x with
   | pointer a =>
    rcases a with _ | ⟨b, o, _ | z⟩
    ·cases i <;> rfl
    ·cases i with
     | int k n => cases n with
      | ofNat m =>
       show oo (EI P t) OR.bad _ = _
       unfold E7
       simp only
       generalize EI P t = r
       cases r <;> rfl
      | negSucc m => rfl
     | _ => rfl
    ·cases i <;> rfl
   | slice a n c =>
    rcases a with _ | ⟨b, o, sp⟩
    ·cases i <;> rfl
    ·exact hs b o n sp c
   | _ => cases i <;> rfl
def dF (l : List Value) : Nat → Option Value := @List.rec Value (fun _ => Nat → Option Value) (fun _ => none) (fun x _ ih i => @Nat.rec (fun _ => Option Value) (some x) (fun m _ => ih m) i) l
theorem U7 : ∀ (l : List Value) (i : Nat), dF l i = l[i]?
 | [], i => by simp [dF]
 | x :: l, 0 => rfl
 | x :: l, i + 1 => by rw [List.getElem?_cons_succ]; exact U7 l i
def WR (h : Hp) (nx : Nat) (i : Nat) (x : Option Value) : OR := oo x .bad (fun x => tP x .bad (fun vs => oo (dF vs i) .bad (fun v => .ok v h nx)))
theorem WQ (h : Hp) (nx : Nat) (i : Nat) (x : Option Value) : WR h nx i x = HA h nx i x := by
 cases x with
 | none => rfl
 | some x =>
  cases x with
  | tuple vs =>
   obtain ⟨l⟩ := vs
   show oo (dF l i) OR.bad _ = _
   unfold HA
   rw [U7]
   simp only
   generalize l[i]? = r
   cases r <;> rfl
  | _ => rfl
def kD (P : Program) (h : Hp) (nx : Nat) (s f : Nat) (x : Option Value) : OR :=
 oo x .bad (fun x => tT x .bad (fun cs => oo (MW P s f) .bad (fun p => @Option.rec Nat (fun _ => OR) (oo (dF cs p.1) .bad (fun v => .ok v h nx)) (fun n => .ok (.agg ⟨(cs.drop p.1).take n⟩) h nx) p.2)))
theorem eJ (P : Program) (h : Hp) (nx : Nat) (s f : Nat) (x : Option Value) : kD P h nx s f x = K9 P h nx s f x := by
 cases x with
 | none => rfl
 | some x =>
  cases x with
  | agg vs =>
   obtain ⟨l⟩ := vs
   show oo (MW P s f) OR.bad _ = _
   unfold K9
   simp only
   generalize MW P s f = r
   rcases r with _ | ⟨off, _ | n⟩
   ·rfl
   ·show oo (dF l off) OR.bad _ = _
    rw [U7]
    show _ = (match VT l off none with | some v => OR.ok v h nx | none => .bad)
    unfold VT
    generalize l[off]? = q
    cases q <;> rfl
   ·rfl
  | _ => rfl
def tJ (P : Program) (h : Hp) (nx : Nat) (t : TypeId) (x : Option Value) : OR :=
 oo x .bad (fun x => tQ x (YE P h nx t (some x)) (fun n => oo (BT P t) .bad (fun _ => .ok (.int .i64 (.ofNat n)) h nx)))
theorem oG (P : Program) (h : Hp) (nx : Nat) (t : TypeId) (x : Option Value) : tJ P h nx t x = YE P h nx t x := by
 cases x with
 | none => rfl
 | some x =>
  cases x with
  | slice a n c =>
   show oo (BT P t) OR.bad _ = _
   unfold YE
   simp only
   generalize BT P t = r
   cases r <;> rfl
  | _ => rfl
def kF (P : Program) (call : CallF) (h : Hp) (nx : Nat) (x : Option Value) (vs : Option (List Value)) : OR :=
 oo x (KB P call h nx x vs) (fun f => oo vs (KB P call h nx x vs) (fun l => vFn f (KB P call h nx x vs) (fun f xs cs => bo (OX P f) (call f (xs ++ (l ++ cs)) h nx) .bad)))
theorem kE (P : Program) (call : CallF) (h : Hp) (nx : Nat) (x : Option Value) (vs : Option (List Value)) : kF P call h nx x vs = KB P call h nx x vs := by
 cases x with
 | none => rfl
 | some x =>
  cases vs with
  | none => rfl
  | some l =>
   cases x with
   | func g a b => cases g <;> rfl
   | _ => rfl
def tI (h : Hp) (nx : Nat) (x : Option Value) : OR := oo x .bad (fun v => q9 v (W5 h nx (some v)) (.ok v h nx))
theorem oF (h : Hp) (nx : Nat) (x : Option Value) : tI h nx x = W5 h nx x := by
 cases x with
 | none => rfl
 | some x => cases x with
  | pointer a => cases a <;> rfl
  | _ => rfl
def lim (k : IntKind) : Nat := @IntKind.rec (fun _ => Nat) 128 32768 2147483648 9223372036854775808 256 65536 4294967296 18446744073709551616 k
def knd (k : IntKind) : Nat := @IntKind.rec (fun _ => Nat) 0 1 2 3 4 5 6 7 k
def wrI (k : IntKind) (a : Int) : Int := @Int.rec (fun _ => Int) (fun m => bo (Nat.blt m (lim k)) (.ofNat m) (wr k (.ofNat m))) (fun m => wr k (.negSucc m)) a
theorem fF (k : IntKind) (a : Int) : wrI k a = wr k a := by
 cases a with
 | ofNat m =>
  show bo (Nat.blt m (lim k)) _ _ = _
  have : lim k = DJ k := by cases k <;> rfl
  cases hb : Nat.blt m (lim k) with
  | false => rfl
  | true => rw [CG]; unfold wr; simp only; rw [← this, hb, CG]
 | negSucc m => rfl
def sJ (a b : Int) : Int := @Int.rec (fun _ => Int → Int) (fun m b => @Int.rec (fun _ => Int) (fun n => .ofNat (Nat.add m n)) (fun n => Int.add (.ofNat m) (.negSucc n)) b) (fun m b => Int.add (.negSucc m) b) a b
theorem p8 (a b : Int) : sJ a b = Int.add a b := by cases a <;> cases b <;> rfl
def qK (a b : Int) : Int := @Int.rec (fun _ => Int → Int) (fun m b => @Int.rec (fun _ => Int) (fun n => bo (Nat.ble n m) (.ofNat (Nat.sub m n)) (Int.sub (.ofNat m) (.ofNat n))) (fun n => Int.sub (.ofNat m) (.negSucc n)) b) (fun m b => Int.sub (.negSucc m) b) a b
theorem mP (a b : Int) : qK a b = Int.sub a b := by
 cases a with
 | negSucc m => rfl
 | ofNat m =>
  cases b with
  | negSucc n => rfl
  | ofNat n =>
   show bo (Nat.ble n m) _ _ = _
   cases hb : Nat.ble n m with
   | false => rfl
   | true =>
    have := Nat.le_of_ble_eq_true hb
    show ((m - n : Nat) : Int) = (m : Int) - (n : Int)
    omega
def ltI (a b : Int) : Bool := @Int.rec (fun _ => Int → Bool) (fun m b => @Int.rec (fun _ => Bool) (fun n => Nat.blt m n) (fun _ => false) b) (fun m b => @Int.rec (fun _ => Bool) (fun _ => true) (fun n => Nat.blt n m) b) a b
theorem UF (a b : Int) : ltI a b = iLt a b := by cases a <;> cases b <;> rfl
def eqI (a b : Int) : Bool := @Int.rec (fun _ => Int → Bool) (fun m b => @Int.rec (fun _ => Bool) (fun n => Nat.beq m n) (fun _ => false) b) (fun m b => @Int.rec (fun _ => Bool) (fun _ => false) (fun n => Nat.beq m n) b) a b
theorem kH (a b : Int) : eqI a b = iEq a b := by cases a <;> cases b <;> rfl
def Y8 (b : Bool) : Bool := bo b false true
theorem U8 (b : Bool) : Y8 b = !b := by cases b <;> rfl
abbrev IopF := IntKind → Int → Int → Option Value
def opI (op : BinOp) : IopF :=
 @BinOp.rec (fun _ => IopF) (fun k a b => some (.int k (wrI k (sJ a b)))) (fun k a b => some (.int k (wrI k (qK a b)))) tG tF tE tH iOr tD (fun _ _ _ => none) (fun _ _ _ => none) (fun _ _ _ => none)
  (fun _ a b => some (.bool (eqI a b))) (fun _ a b => some (.bool (Y8 (eqI a b)))) (fun _ a b => some (.bool (ltI a b))) (fun _ a b => some (.bool (Y8 (ltI b a)))) (fun _ a b => some (.bool (ltI b a))) (fun _ a b => some (.bool (Y8 (ltI a b)))) op
theorem qS (op : BinOp) (k : IntKind) (a b : Int) : opI op k a b = L4 op k a b := by
 cases op
 case add => show some (Value.int k (wrI k (sJ a b))) = _; rw [fF, p8]; rfl
 case sub => show some (Value.int k (wrI k (qK a b))) = _; rw [fF, mP]; rfl
 case eql => show some (Value.bool (eqI a b)) = _; rw [kH]; rfl
 case neq => show some (Value.bool (Y8 (eqI a b))) = _; rw [U8, kH]; rfl
 case lss => show some (Value.bool (ltI a b)) = _; rw [UF]; rfl
 case leq => show some (Value.bool (Y8 (ltI b a))) = _; rw [U8, UF]; rfl
 case gtr => show some (Value.bool (ltI b a)) = _; rw [UF]; rfl
 case geq => show some (Value.bool (Y8 (ltI a b))) = _; rw [U8, UF]; rfl
 all_goals rfl
def sP (v : Value) : IntKind → Int → OR → Hp → Nat → BinOp → OR :=
 @Value.rec (fun _ => IntKind → Int → OR → Hp → Nat → BinOp → OR) (fun _ => Unit) (fun _ => Unit)
  (fun _ _ _ d _ _ _ => d)
  (fun k n k1 a1 d h nx op => bo (Nat.beq (knd k1) (knd k)) (oo (opI op k1 a1 n) d (fun v => .ok v h nx)) d)
  (fun _ _ _ _ d _ _ _ => d)
  (fun _ _ _ _ _ d _ _ _ => d)
  (fun _ _ _ d _ _ _ => d)
  (fun _ _ _ d _ _ _ => d)
  (fun _ _ _ _ _ d _ _ _ => d)
  (fun _ _ _ d _ _ _ => d)
  (fun _ _ _ d _ _ _ => d)
  (fun _ _ _ _ _ _ _ d _ _ _ => d)
  (fun _ _ d _ _ _ => d)
  (fun _ _ _ _ _ d _ _ _ => d)
  (fun _ _ d _ _ _ => d)
  (fun _ _ _ _ d _ _ _ => d)
  (fun _ _ _ _ d _ _ _ => d)
  (fun _ _ => ()) () (fun _ _ _ _ => ()) v
def tS (v : Value) : Value → OR → Hp → Nat → BinOp → OR :=
 @Value.rec (fun _ => Value → OR → Hp → Nat → BinOp → OR) (fun _ => Unit) (fun _ => Unit)
  (fun _ _ d _ _ _ => d)
  (fun k n y d h nx op => sP y k n d h nx op)
  (fun _ _ _ d _ _ _ => d)
  (fun _ _ _ _ d _ _ _ => d)
  (fun _ _ d _ _ _ => d)
  (fun _ _ d _ _ _ => d)
  (fun _ _ _ _ d _ _ _ => d)
  (fun _ _ d _ _ _ => d)
  (fun _ _ d _ _ _ => d)
  (fun _ _ _ _ _ _ d _ _ _ => d)
  (fun _ d _ _ _ => d)
  (fun _ _ _ _ d _ _ _ => d)
  (fun _ d _ _ _ => d)
  (fun _ _ _ d _ _ _ => d)
  (fun _ _ _ d _ _ _ => d)
  (fun _ _ => ()) () (fun _ _ _ _ => ()) v
def tK (P : Program) (G : Nat) (e : Tb Value) (h : Hp) (nx : Nat) (o : Oper) (op : BinOp) (t : TypeId) (a b : Option Value) : OR :=
 oo a .bad (fun a => oo b .bad (fun b => tS a b (Z5 a b P G e h nx o op t) h nx op))
theorem oH (P : Program) (G : Nat) (e : Tb Value) (h : Hp) (nx : Nat) (o : Oper) (op : BinOp) (t : TypeId) (a b : Option Value) : tK P G e h nx o op t a b = dN P G e h nx o op t a b := by
 cases a with
 | none => rfl
 | some a =>
  cases b with
  | none => rfl
  | some b =>
   cases a with
   | int k n =>
    cases b with
    | int k' n' =>
     show bo (Nat.beq (knd k) (knd k')) (oo (opI op k n n') _ _) _ = RU k n (.int k' n') P G e h nx o op t
     have e1 : knd k = ikn k := by cases k <;> rfl
     have e2 : knd k' = ikn k' := by cases k' <;> rfl
     rw [e1, e2, qS]
     unfold Z5 RU
     simp only
     cases hb : Nat.beq (ikn k) (ikn k') with
     | false => rfl
     | true =>
      rw [CG, CG]
      cases hq : L4 op k n n' with
      | none => rfl
      | some v => rfl
    | _ => rfl
   | _ => rfl
def MX (P : Program) (G : Nat) (e : Tb Value) (h : Hp) (nx : Nat) (o : Oper) (b : Builtin) (args : List Operand) (ts : List TypeId) : OR :=
 match b, args, ts with
 | .len, [x], [t] => tJ P h nx t (evO G e x)
 | b, args, ts => E5 P G e h nx o b args ts
theorem WS (P : Program) (G : Nat) (e : Tb Value) (h : Hp) (nx : Nat) (o : Oper) (b : Builtin) (args : List Operand) (ts : List TypeId) : MX P G e h nx o b args ts = E5 P G e h nx o b args ts := by
 unfold MX
 split
 ·rw [oG]; rfl
 ·rfl
def rS (t : TypeId) (a : Operand) : BrF := fun P G _ e h nx _ => pI P h nx t (evO G e a)
def o8 (t : TypeId) (a x : Operand) : BrF := fun P G _ e h nx _ => kB P h nx t (evO G e a) (evO G e x)
def YP (x : Operand) : BrF := fun _ G _ e h nx _ => tI h nx (evO G e x)
def oB (op : BinOp) (t : TypeId) (x y : Operand) (_ : TypeId) : BrF := fun P G _ e h nx o => tK P G e h nx o op t (evO G e x) (evO G e y)
def WJ (s : TypeId) (x : Operand) (f : Nat) : BrF := fun P G _ e h nx _ => RE P h nx s f (evO G e x)
def o9 (s : TypeId) (x : Operand) (f : Nat) : BrF := fun P G _ e h nx _ => kD P h nx s f (evO G e x)
def WI (t : TypeId) (x i : Operand) : BrF := fun P G _ e h nx _ => RC P h nx t (evO G e x) (evO G e i)
def eD (x : Operand) (i : Nat) : BrF := fun _ G _ e h nx _ => WR h nx i (evO G e x)
def rT (c : Call) : BrF := fun P G call e h nx o => match c.callee with
 | .value f => kF P call h nx (evO G e f) (evL G e c.args.toList)
 | .builtin b => MX P G e h nx o b c.args.toList c.argTypes.toList
 | _ => .bad
structure BrB where
 f : BrF
def pL (o : Oper) : BrB :=
 @Op.rec (fun _ => BrB) (fun x0 => ⟨lJ x0⟩) (fun x0 => ⟨XH x0⟩) (fun x0 x1 x2 => ⟨lH x0 x1 x2⟩) (fun x0 => ⟨bN x0⟩) (fun x0 x1 => ⟨pM x0 x1⟩) (fun x0 x1 => ⟨bM x0 x1⟩) (fun x0 x1 x2 => ⟨N7 x0 x1 x2⟩) (fun x0 x1 x2 x3 => ⟨XE x0 x1 x2 x3⟩) (fun x0 x1 => ⟨rS x0 x1⟩) (fun x0 x1 x2 => ⟨o8 x0 x1 x2⟩) (fun _ => ⟨JD⟩) (fun _ => ⟨JD⟩) (fun x0 => ⟨YP x0⟩) (fun x0 x1 x2 x3 x4 => ⟨oB x0 x1 x2 x3 x4⟩) (fun x0 x1 x2 => ⟨lG x0 x1 x2⟩) (fun x0 x1 x2 => ⟨TN x0 x1 x2⟩) (fun x0 x1 => ⟨GF x0 x1⟩) (fun x0 x1 => ⟨JU x0 x1⟩) (fun x0 x1 x2 => ⟨RW x0 x1 x2⟩) (fun x0 x1 => ⟨TM x0 x1⟩) (fun _ _ => ⟨JD⟩) (fun x0 x1 x2 => ⟨P0 x0 x1 x2⟩) (fun x0 x1 x2 x3 x4 => ⟨bI x0 x1 x2 x3 x4⟩) (fun x0 x1 x2 => ⟨WJ x0 x1 x2⟩) (fun x0 x1 x2 => ⟨o9 x0 x1 x2⟩) (fun x0 x1 x2 => ⟨WI x0 x1 x2⟩) (fun x0 x1 x2 => ⟨bK x0 x1 x2⟩) (fun x0 x1 x2 x3 => ⟨XD x0 x1 x2 x3⟩) (fun x0 x1 x2 x3 => ⟨OZ x0 x1 x2 x3⟩) (fun x0 x1 x2 => ⟨RV x0 x1 x2⟩) (fun x0 x1 x2 x3 => ⟨N6 x0 x1 x2 x3⟩) (fun x0 x1 => ⟨bJ x0 x1⟩) (fun x0 x1 => ⟨lI x0 x1⟩) (fun x0 => ⟨bL x0⟩) (fun _ _ _ _ => ⟨JD⟩) (fun x0 x1 => ⟨eD x0 x1⟩) (fun x0 => ⟨rT x0⟩) (fun _ => ⟨JD⟩) (fun _ => ⟨JD⟩) (fun _ => ⟨JD⟩) (fun _ _ => ⟨JD⟩) (fun _ _ _ => ⟨JD⟩) (fun _ _ => ⟨JD⟩) o.op
def mOp (P : Program) (G : Nat) (call : CallF) (e : Tb Value) (h : Hp) (nx : Nat) (o : Oper) : OR :=
 @BrB.rec (fun _ => OR) (fun f => f P G call e h nx o) (pL o)
theorem NN (P : Program) (G : Nat) (call : CallF) (e : Tb Value) (h : Hp) (nx : Nat) (o : Oper) : mOp P G call e h nx o = sOp P G call e h nx o := by
 unfold mOp pL sOp
 cases o.op
 case load t a => exact kC P h nx t _
 case store t a x => exact eI P h nx t _ _
 case nilCheck x => exact oF h nx _
 case binOp op t x y u => exact oH P G e h nx o op t _ _
 case fieldAddr s x f => exact SD P h nx s f _
 case field s x f => exact eJ P h nx s f _
 case indexAddr t x i => exact SC P h nx t _ _
 case extract x i => exact WQ h nx i _
 case call c =>
  show (match c.callee with
   | .value f => kF P call h nx (evO G e f) (evL G e c.args.toList)
   | .builtin b => MX P G e h nx o b c.args.toList c.argTypes.toList
   | _ => .bad) = (match c.callee with
   | .value f => KB P call h nx (evO G e f) (evL G e c.args.toList)
   | .builtin b => E5 P G e h nx o b c.args.toList c.argTypes.toList
   | _ => .bad)
  cases c.callee with
  | value f => exact kE P call h nx _ _
  | builtin b => exact WS P G e h nx o b _ _
  | invoke r m => rfl
 all_goals rfl
def QP (n : Nat) (e : Tb Value) (d : Option Tmp) (v : Value) : Option (Tb Value) :=
 oo d (some e) (fun d => bo (Nat.blt d n) (q8 v (fun v => IX e d v some)) none)
def GL (ops : Array Oper) (e : Tb Value) (g : Nat × Bool) : Option Bool :=
 match (ops[g.1]?).bind (·.dst) with
 | some d => match e.get d with
  | some (.bool c) => some (c == g.2)
  | some (.tuple ⟨[]⟩) => some false
  | _ => none
 | none => none
abbrev ContF := Tb Value → Hp → Nat → Out
def QM (P : Program) (G n : Nat) (call : CallF) (o : Oper) (e : Tb Value) (h : Hp) (nx : Nat) (k : ContF) : Out :=
 @OR.rec (fun _ => Out) .bad (fun v h' nx' => oo (QP n e o.dst v) .bad (fun e' => k e' h' nx')) (mOp P G call e h nx o)
def pD (n : Nat) (o : Oper) (e : Tb Value) (h : Hp) (nx : Nat) (k : ContF) : Out := oo (QP n e o.dst undef) .bad (fun e' => k e' h nx)
def tX (P : Program) (G n : Nat) (call : CallF) (ops : Array Oper) (o : Oper) (e : Tb Value) (h : Hp) (nx : Nat) (k : ContF) (g : Nat × Bool) : Out :=
 oo (GL ops e g) .bad (fun b => bo b (QM P G n call o e h nx k) (pD n o e h nx k))
def YB (P : Program) (G n : Nat) (call : CallF) (ops : Array Oper) (l : List Oper) : ContF :=
 @List.rec Oper (fun _ => ContF) (fun e h nx => .nrm e h nx) (fun o _ ih e h nx => oo o.guard (QM P G n call o e h nx ih) (tX P G n call ops o e h nx ih)) l
def iW (f : ContF) (fuel : Nat) : ContF :=
 @Nat.rec (fun _ => ContF) (fun _ _ _ => .bad) (fun _ ih e h nx => @Out.rec (fun _ => Out) .bad ih .ext .ret (f e h nx)) fuel
abbrev RegF := Array Oper → ContF
def tM (a b : ContF) : ContF := fun e h nx => @Out.rec (fun _ => Out) .bad b .ext .ret (a e h nx)
def l7 (G : Nat) (x : Operand) (a b : ContF) : ContF := fun e h nx =>
 match evO G e x with
 | some (.bool t) => bo t (a e h nx) (b e h nx)
 | _ => .bad
def l8 (id : Nat) (a : ContF) : ContF := fun e h nx =>
 @Out.rec (fun _ => Out) .bad .nrm (fun id' e' h' nx' => bo (Nat.beq id' id) (.nrm e' h' nx') (.ext id' e' h' nx')) .ret (a e h nx)
def s9 : ContF := fun _ _ _ => .bad
def UA (P : Program) (G n : Nat) (call : CallF) (g : Operand) (ps : Array Nat) (asg body : Code) : ContF := fun e h nx =>
 match evO G e g with
 | some (.func (.func f) ⟨xs⟩ ⟨cs⟩) => bo (OX P f) (IX h nx (.loop 0 n e ps.toList asg body none) (fun h => GZ (nx + 1) (fun nx' =>
  @OR.rec (fun _ => Out) .bad (fun _ h2 nx2 => match h2.get nx with
   | some (.loop st n' e' ps' asg' body' pend) => bo (Nat.beq st 1) .bad (IX h2 nx (.loop 3 n' e' ps' asg' body' pend) (fun h3 => match pend with
    | none => .nrm e h3 nx2
    | some none => .ret e h3 nx2
    | some (some id) => .ext id e h3 nx2))
   | _ => .bad) (call f (xs ++ ([.func (.yield nx) ⟨[]⟩ ⟨[]⟩] ++ cs)) h nx')))) .bad
 | _ => .bad
def ON (P : Program) (G n fuel : Nat) (call : CallF) (dr : RegF) (rg : Bool) (c : Code) : ContF :=
 @Code.rec (fun _ => ContF) .nrm (fun _ ops draw => bo draw (dr ops) (YB P G n call ops ops.toList)) (fun _ _ a b => tM a b) (fun x _ _ a b => l7 G x a b) (fun id _ a => l8 id a) (fun _ a => iW a fuel)
  (fun g ps asg body _ _ => bo rg (UA P G n call g ps asg body) s9) .ext (fun _ a => a) (fun _ => .nrm) (fun _ => s9) .ret (fun _ => s9) c
def nV (P : Program) (e : Tb Value) (h : Hp) (l : List ResultVar) : Option (List Value) :=
 List.rec (motive := fun _ => Option (List Value)) (some []) (fun r _ ih => match (match r with | .tmp t => e.get t | .cell a t => (match J5 P h 0 t (e.get a) with | .ok v _ _ => some v | .bad => none)), ih with
  | some v, some vs => some (v :: vs)
  | _, _ => none) l
def QO : List Value → Value
 | [v] => v
 | l => .tuple ⟨l⟩
def sZ (P : Program) (fn : Func) (r : Out) : OR :=
 @Out.rec (fun _ => OR) .bad (fun _ h nx => bo fn.results.toList.isEmpty (.ok (QO []) h nx) .bad) (fun _ _ _ _ => .bad) (fun e h nx => oo (nV P e h fn.results.toList) .bad (fun vs => .ok (QO vs) h nx)) r
def aI (P : Program) (G fuel : Nat) (dr : CallF → Nat → RegF) (call : CallF) : CallF := fun f args h nx =>
 oo (P.funcs[f]?) .bad (fun fn => oo fn.body .bad (fun c => bo (Nat.ble args.length fn.ntmps) (sZ P fn (ON P G fn.ntmps fuel call (dr call fn.ntmps) true c (Tb.of args) h nx)) .bad))
def qP (n : Nat) (ps : List Nat) : List Value → Tb Value → Option (Tb Value) :=
 @List.rec Nat (fun _ => List Value → Tb Value → Option (Tb Value)) (fun vs e => match vs with | [] => some e | _ => none) (fun d _ ih vs e => match vs with
  | v :: vs => bo (Nat.blt d n) (m9 v (fun v => IX e d v (fun e => ih vs e))) none
  | [] => none) ps
def QA (l : Nat) (st : Nat) (pend : Option (Option Nat)) (b : Bool) (h : Hp) (nx : Nat) : OR :=
 match h.get l with
 | some (.loop _ n e ps asg body _) => IX h l (.loop st n e ps asg body pend) (fun h => .ok (.bool b) h nx)
 | _ => .bad
def QN (P : Program) (G fuel : Nat) (dr : CallF → Nat → RegF) (call : CallF) (l : Nat) (args : List Value) (h : Hp) (nx : Nat) : OR :=
 match h.get l with
 | some (.loop 0 n e ps asg body _) => oo (qP n ps args e) .bad (fun e1 =>
  @Out.rec (fun _ => OR) .bad (fun e2 h2 nx2 => match h2.get l with
   | some (.loop 0 n' e' ps' asg' body' pend') => IX h2 l (.loop 1 n' e' ps' asg' body' pend') (fun h2 =>
    @Out.rec (fun _ => OR) .bad (fun _ h3 nx3 => QA l 0 none true h3 nx3) (fun id _ h3 nx3 => QA l 2 (some (some id)) false h3 nx3) (fun _ h3 nx3 => QA l 2 (some none) false h3 nx3)
     (ON P G n fuel call (dr call n) false body e2 h2 nx2))
   | _ => .bad) (fun _ _ _ _ => .bad) (fun _ _ _ => .bad) (ON P G n fuel call (dr call n) false asg e1 h nx))
 | _ => .bad
def NR (P : Program) (G fuel : Nat) (dr : CallF → Nat → RegF) (base : CallF) (d : Nat) : CallF :=
 @Nat.rec (fun _ => CallF) (fun f args h nx => bo (Nat.blt f P.funcs.size) (base f args h nx) .bad) (fun _ ih f args h nx =>
  bo (Nat.blt f P.funcs.size) (@OR.rec (fun _ => OR) (aI P G fuel dr ih f args h nx) .ok (base f args h nx)) (GZ (Nat.sub f P.funcs.size) (fun l => QN P G fuel dr ih l args h nx))) d
section
namespace VR
variable {σ : Sg} {u : Value}
theorem scal_inv {v : Value} (hs : cU v = true) (h : VR σ v u) : u = v := by
 cases h with
 | sc _ _ _ => rfl
 | _ => cases hs
theorem ptr_inv {id off : Nat} (h : VR σ (.pointer (some ⟨id, off, none⟩)) u) : ∃ L, σ id = some L ∧ u = .pointer (some ⟨L.blk, L.base + off, none⟩) := by
 cases h with
 | sc _ hs _ => cases hs
 | ptr h _ => exact ⟨_, h, rfl⟩
theorem sl_inv {id off n c : Nat} (h : VR σ (.slice (some ⟨id, off, none⟩) n c) u) : ∃ L, σ id = some L ∧ u = .slice (some ⟨L.blk, L.base + off, none⟩) n c := by
 cases h with
 | sc _ hs _ => cases hs
 | sl h _ => exact ⟨_, h, rfl⟩
theorem slo_inv {id off n z : Nat} (h : VR σ (.slice (some ⟨id, off, some z⟩) n 0) u) : ∃ L c', σ id = some L ∧ n ≤ c' ∧ L.base + off + c' * z = L.size ∧ (0 : Nat) = 0 ∧ u = .slice (some ⟨L.blk, L.base + off, none⟩) n c' := by
 cases h with
 | sc _ hs _ => cases hs
 | slo h h1 h2 _ => exact ⟨_, _, h, h1, h2, rfl, rfl⟩
theorem slice_any {id off n c : Nat} {sp : Option Nat} (h : VR σ (.slice (some ⟨id, off, sp⟩) n c) u) : ∃ L A c', σ id = some L ∧ u = .slice (some ⟨L.blk, A, none⟩) n c' ∧ (A = L.base + off ∨ n = 0) := by
 cases h with
 | sc _ hs _ => cases hs
 | sl h _ => exact ⟨_, _, _, h, rfl, .inl rfl⟩
 | slo h h1 h2 _ => exact ⟨_, _, _, h, rfl, .inl rfl⟩
 | sle h h1 _ => exact ⟨_, _, _, h, rfl, .inr rfl⟩
theorem slice_inv {id off n c : Nat} {sp : Option Nat} (h : VR σ (.slice (some ⟨id, off, sp⟩) n c) u) (hn : 0 < n) : ∃ L c', σ id = some L ∧ u = .slice (some ⟨L.blk, L.base + off, none⟩) n c' := by
 obtain ⟨L, A, c', h1, rfl, rfl | h2⟩ := h.slice_any
 ·exact ⟨L, c', h1, rfl⟩
 ·omega
theorem map_inv {id : Nat} (h : VR σ (.map (some id)) u) : ∃ L, σ id = some L ∧ u = .map (some L.blk) := by
 cases h with
 | sc _ hs _ => cases hs
 | map h _ => exact ⟨_, h, rfl⟩
theorem agg_inv {xs : List Value} (h : VR σ (.agg ⟨xs⟩) u) : ∃ ys, u = .agg ⟨ys⟩ ∧ VRs σ xs ys := by
 cases h with
 | sc _ hs _ => cases hs
 | agg h _ => exact ⟨_, rfl, h⟩
theorem tuple_inv {xs : List Value} (h : VR σ (.tuple ⟨xs⟩) u) : ∃ ys, u = .tuple ⟨ys⟩ ∧ VRs σ xs ys := by
 cases h with
 | sc _ hs _ => cases hs
 | tuple h _ => exact ⟨_, rfl, h⟩
theorem func_inv {f : FuncId} {xs xs' : List Value} (h : VR σ (.func (.func f) ⟨xs⟩ ⟨xs'⟩) u) : ∃ ys ys', u = .func (.func f) ⟨ys⟩ ⟨ys'⟩ ∧ VRs σ xs ys ∧ VRs σ xs' ys' := by
 cases h with
 | sc _ hs _ => cases hs
 | func f h h' _ => exact ⟨_, _, rfl, h, h'⟩
theorem yld_inv {id : Nat} (h : VR σ (.func (.yield id) ⟨[]⟩ ⟨[]⟩) u) : ∃ L, σ id = some L ∧ u = .func (.yield L.blk) ⟨[]⟩ ⟨[]⟩ := by
 cases h with
 | sc _ hs _ => cases hs
 | yld h _ => exact ⟨_, h, rfl⟩
theorem eq_of_flat {v : Value} (hf : O0 v = true) (h : VR σ v u) : u = v := by
 have := VRs.eq_of_flat 100000 hf h
 injection this
theorem of_flat {v : Value} (hf : O0 v = true) : VR σ v v := IC 100000 hf
theorem int {k : IntKind} {n : Int} : VR σ (.int k n) (.int k n) := .sc _ rfl .nil
theorem bool {b : Bool} : VR σ (.bool b) (.bool b) := .sc _ rfl .nil
theorem str {s : ByteArray} : VR σ (.string s) (.string s) := .sc _ rfl .nil
theorem undef : VR σ undef undef := .tuple (xs := []) (ys := []) .nil .nil
end VR
section
variable {P : Program} {G : Nat} {σ : Sg} {nx : Nat} {w : World}
theorem MR.cells {h : Hf} (m : MR G σ h nx w) {id elem n k : Nat} {c : Tb Value} {L : Loc} (hb : h id = some (.cells elem n k c)) (hL : σ id = some L) :
 ∃ (row : Array Value) (fz : Nat × Nat), w.heap[L.blk]? = some (.cells row elem fz) ∧ row.size = L.size ∧ L.base + n ≤ L.size ∧ (∀ i, (c.get i).isSome = true ↔ i < n) ∧
  (∀ i v, c.get i = some v → ∃ u, row[L.base + i]? = some u ∧ VR σ v u) ∧ (k ≠ 2 → ∀ i, i < L.size → w.frozen? ⟨L.blk, i, none⟩ = false) ∧ (k ≠ 2 → fz.1 = fz.2 ∨ L.size ≤ fz.1) := by
 obtain ⟨L', h1, h2⟩ := m.blk id _ hb
 rw [hL] at h1; injection h1 with h1; subst h1
 obtain ⟨row, fz, h3, h4, h5, h6, h7, h8⟩ := h2
 refine ⟨row, fz, h3, h4, h5, h6, h7, fun hk i hi => ?_, h8⟩
 simp only [World.frozen?, h3, Bool.and_eq_false_iff, decide_eq_false_iff_not]
 rcases h8 hk with h9 | h9 <;> omega
theorem MR.cell {h : Hf} (m : MR G σ h nx w) {id elem n k off : Nat} {c : Tb Value} {L : Loc} {v : Value} (hb : h id = some (.cells elem n k c)) (hL : σ id = some L) (hv : c.get off = some v) :
 ∃ u, w.cell? ⟨L.blk, L.base + off, none⟩ = some u ∧ VR σ v u := by
 obtain ⟨row, fz, h1, _, _, _, h5, _, _⟩ := m.cells hb hL
 obtain ⟨u, hu, hr⟩ := h5 off v hv
 exact ⟨u, by rw [cell_of_row w L.blk _ row elem fz h1]; exact hu, hr⟩
theorem QY (c : Tb Value) (n off : Nat) : ldN c (n + 1) off = oo (c.get off) none (fun v => oo (ldN c n (off + 1)) none (fun l => some (v :: l))) := rfl
theorem MR.ldN {h : Hf} (m : MR G σ h nx w) {id elem n k : Nat} {c : Tb Value} {L : Loc} (hb : h id = some (.cells elem n k c)) (hL : σ id = some L) : ∀ (j off : Nat) {l : List Value}, ldN c j off = some l →
 ∃ us, VRs σ l us ∧ us.length = j ∧ w.rangeAt L.blk (L.base + off) us
 | 0, off, l, hl => by
  have : l = [] := by injection hl with hl; exact hl.symm
  subst this
  exact ⟨[], .nil, rfl, fun j v hv => by simp at hv⟩
 | j + 1, off, l, hl => by
  rw [QY] at hl
  obtain ⟨v, hv, hl⟩ := D9 hl (by simp)
  obtain ⟨l', hl', hl⟩ := D9 hl (by simp)
  injection hl with hl; subst hl
  obtain ⟨u, hu, hr⟩ := m.cell hb hL hv
  obtain ⟨us, h1, h2, h3⟩ := m.ldN hb hL j (off + 1) hl'
  refine ⟨u :: us, .cons hr h1, by simp [h2], fun i x hx => ?_⟩
  cases i with
  | zero => simp only [List.getElem?_cons_zero, Option.some.injEq] at hx; subst hx; simpa using hu
  | succ i =>
   have := h3 i x (by simpa using hx)
   rwa [show L.base + off + (i + 1) = L.base + (off + 1) + i by omega]
theorem JM (c : Tb Value) : ∀ (j off : Nat) {l : List Value}, ldN c j off = some l → l.length = j
 | 0, off, l, hl => by injection hl with hl; subst hl; rfl
 | j + 1, off, l, hl => by
  rw [QY] at hl
  obtain ⟨v, hv, hl⟩ := D9 hl (by simp)
  obtain ⟨l', hl', hl⟩ := D9 hl (by simp)
  injection hl with hl; subst hl
  simp [JM c j _ hl']
theorem aQ (c : Tb Value) : ∀ (j off : Nat) {l : List Value}, ldN c j off = some l → ∀ i, i < j → c.get (off + i) = l[i]?
 | 0, off, l, hl => fun i hi => by omega
 | j + 1, off, l, hl => fun i hi => by
  rw [QY] at hl
  obtain ⟨v, hv, hl⟩ := D9 hl (by simp)
  obtain ⟨l', hl', hl⟩ := D9 hl (by simp)
  injection hl with hl; subst hl
  cases i with
  | zero => simpa using hv
  | succ i =>
   have := aQ c j (off + 1) hl' i (by omega)
   rw [show off + (i + 1) = off + 1 + i by omega, this]; simp
theorem gH (v : Value) (vs : List Value) (c : Tb Value) (off : Nat) : stN (v :: vs) c off = stN vs (c.put off v) (off + 1) := rfl
theorem HO : ∀ (vs : List Value) (c : Tb Value) (off i : Nat), (stN vs c off).get i = if off ≤ i ∧ i < off + vs.length then vs[i - off]? else c.get i
 | [], c, off, i => by
  show c.get i = _
  rw [if_neg (by simp)]
 | v :: vs, c, off, i => by
  rw [gH, HO vs (c.put off v) (off + 1) i, Tb.get_put]
  by_cases h1 : i = off
  ·subst h1
   rw [if_neg (by omega), if_pos rfl, if_pos (by simp)]; simp
  ·by_cases h2 : off + 1 ≤ i ∧ i < off + 1 + vs.length
   ·rw [if_pos h2, if_pos (by simp; omega), show i - off = (i - (off + 1)) + 1 by omega]; simp
   ·rw [if_neg h2, if_neg h1, if_neg (by simp; omega)]
def IV (row : Array Value) : Nat → List Value → Array Value
 | _, [] => row
 | o, v :: r => IV (row.setIfInBounds o v) (o + 1) r
theorem IR : ∀ (vs : List Value) (row : Array Value) (o : Nat), (IV row o vs).size = row.size
 | [], _, _ => rfl
 | v :: r, row, o => by rw [IV, IR r]; simp
theorem JJ : ∀ (vs : List Value) (row : Array Value) (o i : Nat), o + vs.length ≤ row.size → (IV row o vs)[i]? = if o ≤ i ∧ i < o + vs.length then vs[i - o]? else row[i]?
 | [], row, o, i, _ => by rw [if_neg (by simp)]; rfl
 | v :: r, row, o, i, hl => by
  simp only [List.length_cons] at hl
  rw [IV, JJ r _ (o + 1) i (by simp; omega)]
  by_cases h1 : i = o
  ·subst h1
   rw [if_neg (by omega), if_pos (by simp), Array.getElem?_setIfInBounds_self_of_lt (by omega)]; simp
  ·rw [Array.getElem?_setIfInBounds_ne (Ne.symm h1)]
   by_cases h2 : o + 1 ≤ i ∧ i < o + 1 + r.length
   ·rw [if_pos h2, if_pos (by simp; omega), show i - o = (i - (o + 1)) + 1 by omega]; simp
   ·rw [if_neg h2, if_neg (by simp; omega)]
theorem HP (b : Nat) : ∀ (vs : List Value) (o : Nat) (w : World) (row : Array Value) (el : TypeId) (fz : Nat × Nat), w.heap[b]? = some (.cells row el fz) → (w.setCells b o vs).heap[b]? = some (.cells (IV row o vs) el fz)
 | [], _, _, _, _, _, h => h
 | v :: r, o, w, row, el, fz, h => by
  rw [World.setCells, IV]
  exact HP b r (o + 1) _ _ el fz (by simp [World.setCell, Array.getElem?_modify, h])
theorem GQ (b : Nat) : ∀ (vs : List Value) (o : Nat) (w : World), (w.setCells b o vs).heap.size = w.heap.size
 | [], _, _ => rfl
 | v :: r, o, w => by rw [World.setCells, GQ b r]; simp [World.setCell]
theorem FZ (b : Nat) : ∀ (vs : List Value) (o : Nat) (w : World) (r : Nat), r ≠ b → (w.setCells b o vs).heap[r]? = w.heap[r]?
 | [], _, _, _, _ => rfl
 | v :: vs, o, w, r, h => by rw [World.setCells, FZ b vs _ _ r h]; exact Below.heap_setCell _ _ _ _ h
theorem GR (b : Nat) : ∀ (vs : List Value) (o : Nat) (w : World), (w.setCells b o vs).os = w.os ∧ (w.setCells b o vs).tape = w.tape ∧ (w.setCells b o vs).output = w.output
 | [], _, _ => ⟨rfl, rfl, rfl⟩
 | v :: vs, o, w => by
  obtain ⟨h1, h2, h3⟩ := GR b vs (o + 1) (w.setCell ⟨b, o, none⟩ v)
  exact ⟨h1, h2, h3⟩
theorem MR.upd {h : Hf} (m : MR G σ h nx w) {id : Nat} {L : Loc} {B B' : Bl} (hb : h id = some B) (hL : σ id = some L) {w' : World} (hbr : BR σ L w' B')
 (hrest : w'.os = w.os ∧ w'.tape = w.tape ∧ w'.output = w.output) (hsize : w'.heap.size = w.heap.size) (hother : ∀ r, r ≠ L.blk → w'.heap[r]? = w.heap[r]?) (hro : ¬ B.ro := by simp [Bl.ro]) :
 Tr G σ h nx w σ (fun i => if i = id then some B' else h i) nx w' where
 le := Nat.le_refl _
 ext := Sg.le.refl σ
 old _ _ := rfl
 mr := by
  have hsome : ∀ i, (if i = id then some B' else h i).isSome = true → (h i).isSome = true := fun i hi => by
   by_cases e : i = id
   ·subst e; simp [hb]
   ·rwa [if_neg e] at hi
  refine ⟨fun i B'' hi => ?_, fun i i' L1 L2 h1 h2 h3 h4 h5 => m.sep i i' L1 L2 (hsome i h1) (hsome i' h2) h3 h4 h5, m.free, m.glob, m.gle⟩
  by_cases e : i = id
  ·subst e
   rw [if_pos rfl] at hi; injection hi with hi; subst hi
   exact ⟨L, hL, hbr⟩
  ·rw [if_neg e] at hi
   obtain ⟨L1, h1, h2⟩ := m.blk i B'' hi
   refine ⟨L1, h1, h2.keep (Sg.le.refl σ) (hother _ fun e2 => e (m.sep i id L1 L (by simp [hi]) (by simp [hb]) h1 hL e2))⟩
 os := hrest.1
 tape := hrest.2.1
 output := hrest.2.2
 size := by rw [hsize]; exact Nat.le_refl _
 fr r _ hn := hother r fun e => hn id L (by simp [hb]) hL e.symm
 src i L' hi hs := .inr ⟨i, L', by
  by_cases e : i = id
  ·subst e; simp [hb]
  ·simpa [if_neg e] using hi, hs, rfl⟩
 dom i _ hn := by
  by_cases e : i = id
  ·subst e; rw [hb] at hn; cases hn
  ·rw [if_neg e]; exact hn
 qt r _ hq := by
  have hne : r ≠ L.blk := fun e => hro (hq id L B hb hL e.symm)
  refine ⟨hother r hne, fun i L1 B1 (h1 : (if i = id then some B' else h i) = some B1) h2 h3 => ?_⟩
  by_cases e : i = id
  ·subst e
   rw [hL] at h2; injection h2 with h2; subst h2
   exact absurd h3.symm hne
  ·rw [if_neg e] at h1; exact hq i L1 B1 h1 h2 h3
theorem Tb.put_fun {α : Type} (t : Tb α) (k : Nat) (v : α) : (t.put k v).get = fun i => if i = k then some v else t.get i := funext fun i => t.get_put k v i
theorem XN {h h' : Hp} {id off : Nat} {vs : List Value} (hw : FS h id off vs = some h') : ∃ el n k c, h.get id = some (.cells el n k c) ∧ off + vs.length ≤ n ∧ k = 0 ∧ vs.all (·.oneCell') = true ∧ h' = h.put id (.cells el n k (stN vs c off)) := by
 unfold FS at hw
 simp only [XU, F2] at hw
 split at hw
 ·rename_i el n k c hb
  obtain ⟨h1, h2⟩ := BE hw (by simp)
  simp only [Bool.and_eq_true] at h1
  injection h2 with h2
  exact ⟨el, n, k, c, hb, Nat.le_of_ble_eq_true h1.1, Nat.eq_of_beq_eq_true h1.2.1, h1.2.2, h2.symm⟩
 ·cases hw
theorem MR.write {h h' : Hp} (m : MR G σ h.get nx w) {id off : Nat} {L : Loc} {vs us : List Value} (hw : FS h id off vs = some h') (hL : σ id = some L) (hv : VRs σ vs us) :
 (storeCells ⟨L.blk, L.base + off, none⟩ us).run P w = .ok () (w.setCells L.blk (L.base + off) us) ∧ Tr G σ h.get nx w σ h'.get nx (w.setCells L.blk (L.base + off) us) := by
 obtain ⟨el, n, k, c, hb, hle, rfl, hone, rfl⟩ := XN hw
 obtain ⟨row, fz, h1, h2, h3, h4, h5, h6, h7⟩ := m.cells hb hL
 have hlen := hv.len
 constructor
 ·refine run_storeCells_cells (P := P) L.blk (L.base + off) us 0 w (fun j hj => ?_) (fun j hj => h6 (by simp) _ (by omega)) (hv.one hone)
  rw [cell_of_row w L.blk _ row el fz h1, Array.getElem?_eq_getElem (by omega)]; rfl
 ·rw [Tb.put_fun]
  refine m.upd hb hL ⟨IV row (L.base + off) us, fz, HP _ _ _ _ _ _ _ h1, by rw [IR, h2], h3, fun i => ?_, fun i v hi => ?_, fun _ => h7 (by simp)⟩ (GR _ _ _ _) (GQ _ _ _ _) (fun r hr => FZ _ _ _ _ r hr)
  ·rw [HO, ← h4 i]
   by_cases hc : off ≤ i ∧ i < off + vs.length
   ·rw [if_pos hc]
    have h9 : (c.get i).isSome = true := (h4 i).2 (by omega)
    have h8 : (vs[i - off]?).isSome = true := by rw [List.getElem?_eq_getElem (by omega)]; rfl
    rw [h9, h8]
   ·rw [if_neg hc]
  ·rw [HO] at hi
   rw [JJ _ _ _ _ (by omega)]
   by_cases hc : off ≤ i ∧ i < off + vs.length
   ·rw [if_pos hc] at hi
    rw [if_pos (by omega), show L.base + i - (L.base + off) = i - off by omega]
    exact hv.get hi
   ·rw [if_neg hc] at hi
    rw [if_neg (by omega)]
    exact h5 i v hi
theorem MR.new {h : Hf} (m : MR G σ h nx w) {w' : World} (L : Loc) (B : Bl) (hL : L.blk = w.heap.size) (hrest : w'.os = w.os ∧ w'.tape = w.tape ∧ w'.output = w.output) (hsize : w'.heap.size = w.heap.size + 1) (hold : ∀ r, r < w.heap.size → w'.heap[r]? = w.heap[r]?)
 (hbr : ∀ σ' : Sg, σ.le σ' → BR σ' L w' B) :
 Tr G σ h nx w (fun i => if i = nx then some L else σ i) (fun i => if i = nx then some B else h i) (nx + 1) w' := by
 have hle : σ.le (fun i => if i = nx then some L else σ i) := fun i L' hi => by
  by_cases e : i = nx
  ·subst e; rw [m.free i (Nat.le_refl _)] at hi; cases hi
  ·simp only [if_neg e]; exact hi
 have hlt : ∀ i B' L', h i = some B' → σ i = some L' → L'.blk < w.heap.size := fun i B' L' h1 h2 => by
  obtain ⟨L1, h3, h4⟩ := m.blk i B' h1
  rw [h2] at h3; injection h3 with h3; subst h3
  exact h4.lt
 refine ⟨by omega, hle, fun i hi => by rw [if_neg (by omega)], ⟨fun i B' hi => ?_, fun i i' L1 L2 h1 h2 h3 h4 h5 => ?_, fun i hi => ?_, fun g hg => ?_, by have := m.gle; omega⟩, hrest.1, hrest.2.1, hrest.2.2, by omega, fun r hr _ => hold r hr, fun i L' hi hs => ?_, fun i hi hn => by rw [if_neg (by omega)]; exact hn, fun r hr hq => ⟨hold r hr, fun i L1 B1 (h1 : (if i = nx then some B else h i) = some B1) (h2 : (if i = nx then some L else σ i) = some L1) h3 => by
  by_cases e : i = nx
  ·rw [if_pos e] at h2; injection h2 with h2; subst h2; omega
  ·rw [if_neg e] at h1 h2; exact hq i L1 B1 h1 h2 h3⟩⟩
 ·by_cases e : i = nx
  ·subst e
   rw [if_pos rfl] at hi; injection hi with hi; subst hi
   exact ⟨L, by rw [if_pos rfl], hbr _ hle⟩
  ·rw [if_neg e] at hi
   obtain ⟨L1, h1, h2⟩ := m.blk i B' hi
   exact ⟨L1, by rw [if_neg e]; exact h1, h2.keep hle (hold _ h2.lt)⟩
 ·by_cases e : i = nx <;> by_cases e' : i' = nx
  ·rw [e, e']
  ·rw [if_pos e] at h3; injection h3 with h3; subst h3
   rw [if_neg e'] at h4 h2
   obtain ⟨B2, hB2⟩ := Option.isSome_iff_exists.1 h2
   have := hlt i' B2 L2 hB2 h4
   omega
  ·rw [if_pos e'] at h4; injection h4 with h4; subst h4
   rw [if_neg e] at h3 h1
   obtain ⟨B1, hB1⟩ := Option.isSome_iff_exists.1 h1
   have := hlt i B1 L1 hB1 h3
   omega
  ·rw [if_neg e] at h3 h1; rw [if_neg e'] at h4 h2
   exact m.sep i i' L1 L2 h1 h2 h3 h4 h5
 ·rw [if_neg (by omega)]; exact m.free i (by omega)
 ·rw [if_neg (by have := m.gle; omega)]; exact m.glob g hg
 ·by_cases e : i = nx
  ·rw [if_pos e] at hs; injection hs with hs; subst hs
   exact .inl (by omega)
  ·rw [if_neg e] at hi hs
   exact .inr ⟨i, L', hi, hs, rfl⟩
theorem MR.adopt {h : Hf} (m : MR G σ h nx w) {w' : World} (L : Loc) (B : Bl) (hL : w.heap.size ≤ L.blk) (hrest : w'.os = w.os ∧ w'.tape = w.tape ∧ w'.output = w.output) (hsize : w.heap.size ≤ w'.heap.size) (hold : ∀ r, r < w.heap.size → w'.heap[r]? = w.heap[r]?)
 (hbr : ∀ σ' : Sg, σ.le σ' → BR σ' L w' B) :
 Tr G σ h nx w (fun i => if i = nx then some L else σ i) (fun i => if i = nx then some B else h i) (nx + 1) w' := by
 have hle : σ.le (fun i => if i = nx then some L else σ i) := fun i L' hi => by
  by_cases e : i = nx
  ·subst e; rw [m.free i (Nat.le_refl _)] at hi; cases hi
  ·simp only [if_neg e]; exact hi
 have hlt : ∀ i B' L', h i = some B' → σ i = some L' → L'.blk < w.heap.size := fun i B' L' h1 h2 => by
  obtain ⟨L1, h3, h4⟩ := m.blk i B' h1
  rw [h2] at h3; injection h3 with h3; subst h3
  exact h4.lt
 refine ⟨by omega, hle, fun i hi => by rw [if_neg (by omega)], ⟨fun i B' hi => ?_, fun i i' L1 L2 h1 h2 h3 h4 h5 => ?_, fun i hi => ?_, fun g hg => ?_, by have := m.gle; omega⟩, hrest.1, hrest.2.1, hrest.2.2, by omega, fun r hr _ => hold r hr, fun i L' hi hs => ?_, fun i hi hn => by rw [if_neg (by omega)]; exact hn, fun r hr hq => ⟨hold r hr, fun i L1 B1 (h1 : (if i = nx then some B else h i) = some B1) (h2 : (if i = nx then some L else σ i) = some L1) h3 => by
  by_cases e : i = nx
  ·rw [if_pos e] at h2; injection h2 with h2; subst h2; omega
  ·rw [if_neg e] at h1 h2; exact hq i L1 B1 h1 h2 h3⟩⟩
 ·by_cases e : i = nx
  ·subst e
   rw [if_pos rfl] at hi; injection hi with hi; subst hi
   exact ⟨L, by rw [if_pos rfl], hbr _ hle⟩
  ·rw [if_neg e] at hi
   obtain ⟨L1, h1, h2⟩ := m.blk i B' hi
   exact ⟨L1, by rw [if_neg e]; exact h1, h2.keep hle (hold _ h2.lt)⟩
 ·by_cases e : i = nx <;> by_cases e' : i' = nx
  ·rw [e, e']
  ·rw [if_pos e] at h3; injection h3 with h3; subst h3
   rw [if_neg e'] at h4 h2
   obtain ⟨B2, hB2⟩ := Option.isSome_iff_exists.1 h2
   have := hlt i' B2 L2 hB2 h4
   omega
  ·rw [if_pos e'] at h4; injection h4 with h4; subst h4
   rw [if_neg e] at h3 h1
   obtain ⟨B1, hB1⟩ := Option.isSome_iff_exists.1 h1
   have := hlt i B1 L1 hB1 h3
   omega
  ·rw [if_neg e] at h3 h1; rw [if_neg e'] at h4 h2
   exact m.sep i i' L1 L2 h1 h2 h3 h4 h5
 ·rw [if_neg (by omega)]; exact m.free i (by omega)
 ·rw [if_neg (by have := m.gle; omega)]; exact m.glob g hg
 ·by_cases e : i = nx
  ·rw [if_pos e] at hs; injection hs with hs; subst hs
   exact .inl (by omega)
  ·rw [if_neg e] at hi hs
   exact .inr ⟨i, L', hi, hs, rfl⟩
theorem MR.newRowIn {h : Hp} (m : MR G σ h.get nx w) {w' : World} (el : TypeId) (c : Tb Value) {cs us : List Value} {row : Array Value} {fz : Nat × Nat} (hv : VRs σ cs us) (hc : ∀ i, c.get i = cs[i]?)
 (hb : w'.heap[w.heap.size]? = some (.cells row el fz)) (hrow : ∀ (i : Nat) u, us[i]? = some u → row[i]? = some u) (hle : us.length ≤ row.size) (hfz : fz.1 = fz.2 ∨ row.size ≤ fz.1)
 (hrest : w'.os = w.os ∧ w'.tape = w.tape ∧ w'.output = w.output) (hsize : w'.heap.size = w.heap.size + 1) (hold : ∀ r, r < w.heap.size → w'.heap[r]? = w.heap[r]?) :
 ∃ σ', σ' nx = some ⟨w.heap.size, 0, row.size⟩ ∧ σ.le σ' ∧ Tr G σ h.get nx w σ' (h.put nx (.cells el cs.length 0 c)).get (nx + 1) w' := by
 have hlen := hv.len
 have := m.new (w' := w') ⟨w.heap.size, 0, row.size⟩ (.cells el cs.length 0 c) rfl hrest hsize hold (fun σ' hs => ⟨row, fz, hb, rfl, by simp [hlen, hle], fun i => by
  rw [hc]; simp, fun i v hi => by
  rw [hc] at hi
  obtain ⟨u, hu, hr⟩ := hv.get hi
  exact ⟨u, by rw [Nat.zero_add]; exact hrow i u hu, hr.mono hs⟩, fun _ => hfz⟩)
 rw [Tb.put_fun]
 exact ⟨_, by simp, this.ext, this⟩
end
end
section
def OE (σ : Sg) (G : Nat) (e : Tb Value) (ρ : Operand → Value) : Prop := ∀ x v, evO G e x = some v → VR σ v (ρ x)
def Good (P : Program) (G : Nat) (o : Oper) (e : Tb Value) (h : Hp) (nx : Nat) (v : Value) (h' : Hp) (nx' : Nat) : Prop :=
 ∀ σ w ρ, OE σ G e ρ → MR G σ h.get nx w → G8 P ρ o w fun u w' => ∃ σ', VR σ' v u ∧ Tr G σ h.get nx w σ' h'.get nx' w'
theorem OE.list {σ : Sg} {G : Nat} {e : Tb Value} {ρ : Operand → Value} (oe : OE σ G e ρ) : ∀ {l : List Operand} {vs : List Value}, evL G e l = some vs → VRs σ vs (l.map ρ)
 | [], vs, h => by injection h with h; subst h; exact .nil
 | x :: l, vs, h => by
  change oo (evO G e x) none (fun v => oo (evL G e l) none (fun vs => some (v :: vs))) = some vs at h
  obtain ⟨v, hv, h⟩ := D9 h (by simp)
  obtain ⟨us, hu, h⟩ := D9 h (by simp)
  injection h with h; subst h
  exact .cons (oe x v hv) (oe.list hu)
theorem OE.parts {σ : Sg} {G : Nat} {e : Tb Value} {ρ : Operand → Value} (oe : OE σ G e ρ) : ∀ {l : List (Nat × Operand)} {vs : List (Nat × Value)}, evP G e l = some vs → vs.map (·.1) = l.map (·.1) ∧ VRs σ (vs.map (·.2)) (l.map fun p => ρ p.2)
 | [], vs, h => by injection h with h; subst h; exact ⟨rfl, .nil⟩
 | x :: l, vs, h => by
  change oo (evO G e x.2) none (fun v => oo (evP G e l) none (fun vs => some ((x.1, v) :: vs))) = some vs at h
  obtain ⟨v, hv, h⟩ := D9 h (by simp)
  obtain ⟨us, hu, h⟩ := D9 h (by simp)
  injection h with h; subst h
  obtain ⟨h1, h2⟩ := oe.parts hu
  exact ⟨by simp [h1], .cons (oe x.2 v hv) h2⟩
theorem BF {v v' : Value} {h h' : Hp} {nx nx' : Nat} (e : OR.ok v h nx = OR.ok v' h' nx') : v = v' ∧ h = h' ∧ nx = nx' := by injection e with a b c; exact ⟨a, b, c⟩
section
variable {P : Program} {G : Nat} {o : Oper} {e : Tb Value} {h h' : Hp} {nx nx' : Nat} {v : Value}
theorem BC (hp : ∀ σ w ρ, OE σ G e ρ → MR G σ h.get nx w → ∃ u, VR σ v u ∧ (execOp ρ o).run P w = .ok (.value u) w) : Good P G o e h nx v h nx := fun σ w ρ oe m =>
 let ⟨u, hu, hr⟩ := hp σ w ρ oe m
 ⟨u, w, .inl hr, σ, hu, Tr.refl m⟩
theorem SX {x : Operand} (ho : o.op = .move x ∨ o.op = .assign x) (hm : QQ h nx (evO G e x) = .ok v h' nx') : Good P G o e h nx v h' nx' := by
 obtain ⟨v', hv, hm⟩ := D9 hm (by simp)
 obtain ⟨rfl, rfl, rfl⟩ := BF hm
 refine BC fun σ w ρ oe m => ⟨ρ x, oe x _ hv, ?_⟩
 rcases ho with ho | ho <;> · unfold execOp; simp only [ho]; rfl
theorem d9 {c x y : Operand} (ho : o.op = .pick c x y) (hm : SZ h nx (evO G e c) (evO G e x) (evO G e y) = .ok v h' nx') : Good P G o e h nx v h' nx' := by
 unfold SZ at hm
 split at hm
 ·rename_i b a a' h1 h2 h3
  obtain ⟨rfl, rfl, rfl⟩ := BF hm
  refine BC fun σ w ρ oe m => ?_
  have hc := (oe c _ h1).scal_inv rfl
  cases b with
  | true => exact ⟨ρ x, oe x _ h2, by unfold execOp; simp [ho, hc, asBool]⟩
  | false => exact ⟨ρ y, oe y _ h3, by unfold execOp; simp [ho, hc, asBool]⟩
 ·cases hm
theorem iR {x : Operand} (ho : o.op = .nilCheck x) (hm : W5 h nx (evO G e x) = .ok v h' nx') : Good P G o e h nx v h' nx' := by
 unfold W5 at hm
 split at hm
 ·rename_i a h1
  obtain ⟨rfl, rfl, rfl⟩ := BF hm
  refine BC fun σ w ρ oe m => ⟨ρ x, oe x _ h1, ?_⟩
  have hx := oe x _ h1
  obtain ⟨id, off, sp⟩ := a
  cases sp with
  | some z =>
   generalize ρ x = u at hx
   cases hx with
   | sc _ hs _ => cases hs
  | none =>
   obtain ⟨L, _, hu⟩ := hx.ptr_inv
   unfold execOp; simp [ho, hu]
 ·rename_i f a b h1
  obtain ⟨rfl, rfl, rfl⟩ := BF hm
  refine BC fun σ w ρ oe m => ⟨ρ x, oe x _ h1, ?_⟩
  obtain ⟨ys, ys', hu, _⟩ := VR.func_inv (xs := a.toList) (xs' := b.toList) (oe x _ h1)
  unfold execOp; simp [ho, hu]
 ·cases hm
theorem US {x : Operand} {i : Nat} (ho : o.op = .extract x i) (hm : HA h nx i (evO G e x) = .ok v h' nx') : Good P G o e h nx v h' nx' := by
 unfold HA at hm
 split at hm
 ·rename_i vs h1
  split at hm
  ·rename_i v' h2
   obtain ⟨rfl, rfl, rfl⟩ := BF hm
   refine BC fun σ w ρ oe m => ?_
   obtain ⟨ys, hu, hr⟩ := (oe x _ h1).tuple_inv
   obtain ⟨y, hy, hvy⟩ := hr.get h2
   exact ⟨y, hvy, by unfold execOp; simp [ho, hu, Instr.extract, hy]⟩
  ·cases hm
 ·cases hm
theorem eE {f : Fn} {xs ys : Array Operand} (ho : o.op = .makeFunc f xs ys) (hm : T0 h nx f (evL G e xs.toList) (evL G e ys.toList) = .ok v h' nx') : Good P G o e h nx v h' nx' := by
 unfold T0 at hm
 split at hm
 ·rename_i us vs h1 h2
  split at hm
  ·rename_i f'
   obtain ⟨rfl, rfl, rfl⟩ := BF hm
   refine BC fun σ w ρ oe m => ⟨.func (.func f') (xs.map ρ) (ys.map ρ), ?_, by unfold execOp; simp [ho, Instr.makeFunc]⟩
   have e1 : xs.map ρ = ⟨xs.toList.map ρ⟩ := by apply Array.ext'; simp
   have e2 : ys.map ρ = ⟨ys.toList.map ρ⟩ := by apply Array.ext'; simp
   rw [e1, e2]
   exact .func _ (oe.list h1) (oe.list h2) .nil
  ·cases hm
 ·cases hm
theorem YN {t : TypeId} {x : Operand} (ho : o.op = .makeInterface t x) (hm : NP P h nx t (evO G e x) = .ok v h' nx') : Good P G o e h nx v h' nx' := by
 unfold NP at hm
 split at hm
 ·rename_i v' h1
  split at hm
  ·cases hm
  ·rename_i d hd hu
   obtain ⟨rfl, rfl, rfl⟩ := BF hm
   refine BC fun σ w ρ oe m => ⟨.iface t (ρ x), .iface t (oe x _ h1) .nil, ?_⟩
   unfold execOp
   simp only [ho, Instr.makeInterface, Sem.run_bind, run_underlying hu, Result.andThen_ok]
   cases d <;> first | rfl | (exfalso; exact hd _ rfl)
  ·cases hm
 ·cases hm
theorem K1 {t n : Nat} (hs : K2 P t = some n) : ∃ i, P.info? t = some i ∧ i.size = n := by
 unfold K2 at hs
 cases hi : P.info? t with
 | none => simp [hi] at hs
 | some i => exact ⟨i, rfl, by simpa [hi] using hs⟩
theorem GI {t : TypeId} {r : Option Nat} (hr : MH P t = some r) (w : World) : (isAgg t).run P w = .ok r.isSome w ∧ ∀ n, r = some n → ∃ i, P.info? t = some i ∧ i.size = n := by
 unfold MH at hr
 unfold isAgg
 rw [Sem.run_bind]
 split at hr
 ·rename_i fs hu
  obtain ⟨i, hi, rfl⟩ := Option.map_eq_some_iff.1 hr
  exact ⟨by rw [run_underlying hu w]; rfl, fun n hn => ⟨i, hi, by injection hn⟩⟩
 ·rename_i n el hu
  obtain ⟨i, hi, rfl⟩ := Option.map_eq_some_iff.1 hr
  exact ⟨by rw [run_underlying hu w]; rfl, fun n hn => ⟨i, hi, by injection hn⟩⟩
 ·rename_i d hd hd' hu
  injection hr with hr; subst hr
  refine ⟨?_, fun n hn => by cases hn⟩
  rw [run_underlying hu w]
  cases d <;> first | rfl | (exfalso; exact hd _ rfl) | (exfalso; exact hd' _ _ rfl)
 ·cases hr
theorem G2 {w : World} {b o : Nat} {us : List Value} (hc : w.rangeAt b o us) : (loadCells ⟨b, o, none⟩ us.length).run P w = .ok us.toArray w :=
 run_loadCells_list (P := P) w ⟨b, o, none⟩ us (fun j v hv => by rw [Addr.add_mid]; exact hc j v hv)
theorem dV {t : TypeId} {a : Operand} (ho : o.op = .load t a) (hm : J5 P h nx t (evO G e a) = .ok v h' nx') : Good P G o e h nx v h' nx' := by
 unfold J5 at hm
 split at hm
 ·rename_i id off h1
  split at hm
  ·rename_i el n k c hb
   split at hm
   ·rename_i hr
    split at hm
    ·rename_i v' hv
     obtain ⟨rfl, rfl, rfl⟩ := BF hm
     refine BC fun σ w ρ oe m => ?_
     obtain ⟨L, hL, hu⟩ := (oe a _ h1).ptr_inv
     obtain ⟨u, hc, hvu⟩ := m.cell hb hL hv
     refine ⟨u, hvu, ?_⟩
     unfold execOp
     simp only [ho, hu, Instr.loadAt, Instr.sureAddr, Sem.run_bind, Sem.run_pure, Result.andThen_ok, loadVar, (GI hr w).1, Option.isSome_none, Bool.false_eq_true, if_false]
     simp [hc]
    ·cases hm
   ·rename_i m hr
    split at hm
    ·rename_i l hl
     obtain ⟨rfl, rfl, rfl⟩ := BF hm
     refine BC fun σ w ρ oe mr => ?_
     obtain ⟨L, hL, hu⟩ := (oe a _ h1).ptr_inv
     obtain ⟨us, h2, h3, h4⟩ := mr.ldN hb hL m off hl
     refine ⟨.agg ⟨us⟩, .agg h2 .nil, ?_⟩
     obtain ⟨i, hi, hs⟩ := (GI hr w).2 m rfl
     have hcells := G2 (P := P) h4
     rw [h3] at hcells
     unfold execOp
     simp [ho, hu, Instr.loadAt, Instr.sureAddr, loadVar, (GI hr w).1, sizeOf, typeInfo, hi, hs, hcells]
    ·cases hm
   ·cases hm
  ·cases hm
 ·cases hm
theorem XT {t : TypeId} {a x : Operand} (ho : o.op = .store t a x) (hm : NK P h nx t (evO G e a) (evO G e x) = .ok v h' nx') : Good P G o e h nx v h' nx' := by
 unfold NK at hm
 split at hm
 ·rename_i id off v' h1 h2
  split at hm
  ·rename_i n hn
   obtain ⟨hlen, hm⟩ := BE hm (by simp)
   split at hm
   ·rename_i h2' hw
    obtain ⟨rfl, rfl, rfl⟩ := BF hm
    intro σ w ρ oe m
    obtain ⟨L, hL, hu⟩ := (oe a _ h1).ptr_inv
    have hc := (oe x _ h2).cells
    obtain ⟨hrun, htr⟩ := m.write (P := P) hw hL hc
    obtain ⟨i, hi, hs⟩ := K1 hn
    have hsz : (ρ x).cells.size = i.size := by
     rw [hs, ← Nat.eq_of_beq_eq_true hlen, hc.len]; simp
    refine ⟨undef, _, .inr ⟨?_, rfl⟩, σ, VR.undef, htr⟩
    unfold execOp
    simp [ho, hu, Instr.storeAt, Instr.sureAddr, storeVar, sizeOf, typeInfo, hi, hsz, hrun]
   ·cases hm
  ·cases hm
 ·cases hm
theorem CP {t : TypeId} {z : Value} (hz : GG P t = some z) : ∃ i, P.info? t = some i ∧ i.zero = some z ∧ O0 z = true := by
 unfold GG at hz
 split at hz
 ·rename_i i hi
  split at hz
  ·rename_i z' hz'
   obtain ⟨h1, h2⟩ := BE hz (by simp)
   injection h2 with h2; subst h2
   exact ⟨i, hi, hz', h1⟩
  ·cases hz
 ·cases hz
theorem E4 {B : Bl} {u : Value} (hm : KS h nx B u = .ok v h' nx') : v = u ∧ h' = h.put nx B ∧ nx' = nx + 1 := by
 unfold KS at hm
 rw [sE, F2, DN] at hm
 obtain ⟨rfl, rfl, rfl⟩ := BF hm
 exact ⟨rfl, rfl, rfl⟩
theorem MR.newRow {σ : Sg} {w : World} (m : MR G σ h.get nx w) (el : TypeId) (c : Tb Value) {cs us : List Value} (hv : VRs σ cs us) (hc : ∀ i, c.get i = cs[i]?) :
 ∃ σ', σ' nx = some ⟨w.heap.size, 0, us.length⟩ ∧ σ.le σ' ∧ Tr G σ h.get nx w σ' (h.put nx (.cells el cs.length 0 c)).get (nx + 1) (w.alloc (.cells us.toArray el)) := by
 have := m.newRowIn (w' := w.alloc (.cells us.toArray el)) el c hv hc (heap_alloc_new w _) (fun i u hu => by simpa using hu) (by simp) (.inl rfl) ⟨rfl, rfl, rfl⟩ (by simp) (fun r hr => Below.heap_alloc w _ r hr)
 simpa using this
theorem Z8 {el : TypeId} (ho : o.op = .alloc el) (hm : QS P h nx el = .ok v h' nx') : Good P G o e h nx v h' nx' := by
 unfold QS at hm
 split at hm
 ·rename_i z hz
  obtain ⟨rfl, rfl, rfl⟩ := E4 hm
  obtain ⟨i, hi, hiz, hf⟩ := CP hz
  intro σ w ρ oe m
  obtain ⟨σ', h1, h2, h3⟩ := m.newRow el (Tb.of z.cells.toList) ((VR.of_flat (σ := σ) hf).cells) (fun i => Tb.get_of _ i)
  refine ⟨.pointer (some ⟨w.heap.size, 0, none⟩), _, .inl ?_, σ', .ptr (L := ⟨w.heap.size, 0, _⟩) h1 .nil, h3⟩
  unfold execOp
  simp [ho, Instr.alloc, zeroValue, typeInfo, hi, hiz, newVar, newRow]
 ·cases hm
theorem l9 {el : TypeId} {x : Operand} (ho : o.op = .box el x) (hm : dM h nx el (evO G e x) = .ok v h' nx') : Good P G o e h nx v h' nx' := by
 unfold dM at hm
 split at hm
 ·rename_i v' h1
  obtain ⟨rfl, rfl, rfl⟩ := E4 hm
  intro σ w ρ oe m
  obtain ⟨σ', h2, h3, h4⟩ := m.newRow el (Tb.of v'.cells.toList) (oe x _ h1).cells (fun i => Tb.get_of _ i)
  refine ⟨.pointer (some ⟨w.heap.size, 0, none⟩), _, .inl ?_, σ', .ptr (L := ⟨w.heap.size, 0, _⟩) h2 .nil, h4⟩
  unfold execOp
  simp [ho, Instr.box, newVar, newRow]
 ·cases hm
theorem Y1 {α : Type} : ∀ (s : Sem α) {a : α}, ZY P s = some a → ∀ w, s.run P w = .ok a w := by
 intro s
 induction s with
 | pure a => intro b hb w; injection hb with hb; subst hb; rfl
 | program k ih => intro b hb w; exact ih P hb w
 | mark m k ih => intro b hb w; exact ih hb w
 | _ => intro b hb; cases hb
theorem S0 {σ : Sg} {ρ : Operand → Value} (oe : OE σ G e ρ) : ∀ {l : List Operand}, JP G e l = true → ∀ x ∈ l, ρ x = (evO G e x).getD undef
 | [], _ => by simp
 | y :: l, hl => by
  change (match evO G e y with | some v => bo (O0 v) (JP G e l) false | none => false) = true at hl
  split at hl
  ·rename_i v hv
   obtain ⟨h1, h2⟩ := BE hl (by simp)
   intro x hx
   rcases List.mem_cons.1 hx with rfl | hx
   ·rw [hv]; exact (oe _ _ hv).eq_of_flat h1
   ·exact S0 oe h2 x hx
  ·cases hl
theorem ED (hsel : ∀ cs b, o.op ≠ .select cs b) (hm : DW P G e h nx o = .ok v h' nx') : Good P G o e h nx v h' nx' := by
 obtain ⟨h1, hm⟩ := BE hm (by simp)
 split at hm
 ·rename_i v' hp
  obtain ⟨h2, hm⟩ := BE hm (by simp)
  obtain ⟨rfl, rfl, rfl⟩ := BF hm
  refine BC fun σ w ρ oe m => ⟨_, VR.of_flat h2, ?_⟩
  rw [execOp_congr o hsel (fun x hx => S0 oe h1 x (by simpa using hx))]
  exact Y1 _ hp w
 ·cases hm
theorem RA {s f : Nat} {x : Operand} (ho : o.op = .fieldAddr s x f) (hm : EV P h nx s f (evO G e x) = .ok v h' nx') : Good P G o e h nx v h' nx' := by
 unfold EV at hm
 split at hm
 ·rename_i id off h1
  split at hm
  ·rename_i k hk
   obtain ⟨rfl, rfl, rfl⟩ := BF hm
   refine BC fun σ w ρ oe m => ?_
   obtain ⟨L, hL, hu⟩ := (oe x _ h1).ptr_inv
   refine ⟨.pointer (some ⟨L.blk, L.base + off + k, none⟩), by rw [Nat.add_assoc]; exact .ptr hL .nil, ?_⟩
   unfold FA at hk
   split at hk
   ·rename_i fs hus
    split at hk
    ·rename_i fd hfd
     split at hk
     ·rename_i i hi
      split at hk
      ·cases hk
      ·rename_i hz
       simp only [Option.some.injEq] at hk
       subst hk
       unfold execOp
       simp [ho, hu, Instr.fieldAt, run_underlying hus, hfd, Instr.sureAddr, fieldPlace, sizeOf, typeInfo, hi, hz, Addr.add_mid]
     ·cases hk
    ·cases hk
   ·cases hk
  ·cases hm
 ·cases hm
end
end
section
section
variable {P : Program} {G : Nat} {o : Oper} {e : Tb Value} {h h' : Hp} {nx nx' : Nat} {v : Value}
theorem SP {σ : Sg} {t off : Nat} {r : Option Nat} {cs us : List Value} (hr : MH P t = some r) (hv : VRs σ cs us) (hp : VT cs off r = some v) (w : World) : ∃ u, VR σ v u ∧ (part t ⟨us⟩ off).run P w = .ok u w := by
 obtain ⟨h1, h2⟩ := GI hr w
 cases r with
 | none =>
  obtain ⟨u, hu, hvu⟩ := hv.get hp
  refine ⟨u, hvu, ?_⟩
  unfold part
  simp only [Sem.run_bind, h1, Result.andThen_ok, Option.isSome_none, Bool.false_eq_true, if_false]
  simp [hu]
 | some n =>
  injection hp with hp; subst hp
  obtain ⟨i, hi, hs⟩ := h2 n rfl
  refine ⟨.agg ⟨(us.drop off).take n⟩, .agg ((hv.drop off).take n) .nil, ?_⟩
  unfold part
  simp [h1, sizeOf, typeInfo, hi, hs]
theorem YS {s f : Nat} {x : Operand} (ho : o.op = .field s x f) (hm : K9 P h nx s f (evO G e x) = .ok v h' nx') : Good P G o e h nx v h' nx' := by
 unfold K9 at hm
 split at hm
 ·rename_i cs h1
  split at hm
  ·rename_i off r hp
   split at hm
   ·rename_i v' hv
    obtain ⟨rfl, rfl, rfl⟩ := BF hm
    unfold MW at hp
    split at hp
    ·rename_i fs hus
     split at hp
     ·rename_i fd hfd
      obtain ⟨r', hr, hp⟩ := Option.map_eq_some_iff.1 hp
      injection hp with e1 e2; subst e1; subst e2
      refine BC fun σ w ρ oe m => ?_
      obtain ⟨ys, hu, hr'⟩ := (oe x _ h1).agg_inv
      obtain ⟨u, hvu, hrun⟩ := SP hr hr' hv w
      exact ⟨u, hvu, by unfold execOp; simp [ho, hu, Instr.field, run_underlying hus, hfd, asAgg, hrun]⟩
     ·cases hp
    ·cases hp
   ·cases hm
  ·cases hm
 ·cases hm
theorem JH {t el s : Nat} (ht : BT P t = some (el, s)) : P.underlying t = some (.slice el) ∧ ∃ i, P.info? el = some i ∧ i.size = s := by
 unfold BT at ht
 split at ht
 ·rename_i el' hu
  split at ht
  ·rename_i i hi
   simp only [Option.some.injEq, Prod.mk.injEq] at ht
   obtain ⟨rfl, rfl⟩ := ht
   exact ⟨hu, i, hi, rfl⟩
  ·cases ht
 ·cases ht
theorem p4 {t n el s : Nat} (ht : EI P t = some (n, el, s)) : P.underlying t = some (.array n el) ∧ ∃ i, P.info? el = some i ∧ i.size = s := by
 unfold EI at ht
 split at ht
 ·rename_i el' n' hu
  split at ht
  ·rename_i i hi
   simp only [Option.some.injEq, Prod.mk.injEq] at ht
   obtain ⟨rfl, rfl, rfl⟩ := ht
   exact ⟨hu, i, hi, rfl⟩
  ·cases ht
 ·cases ht
theorem R3 {t : Nat} {x i : Operand} (ho : o.op = .indexAddr t x i) (hm : E7 P h nx t (evO G e x) (evO G e i) = .ok v h' nx') : Good P G o e h nx v h' nx' := by
 unfold E7 at hm
 split at hm
 ·rename_i id off sp len cap k m h1 h2
  split at hm
  ·rename_i el s ht
   obtain ⟨hlt, hm⟩ := BE hm (by simp)
   obtain ⟨rfl, rfl, rfl⟩ := BF hm
   have hlt := AZ hlt
   obtain ⟨hus, i', hi', hs⟩ := JH ht
   refine BC fun σ w ρ oe m' => ?_
   obtain ⟨L, c', hL, hu⟩ := (oe x _ h1).slice_inv (by omega)
   have hi := (oe i _ h2).scal_inv rfl
   refine ⟨.pointer (some ⟨L.blk, L.base + off + m * s, none⟩), by rw [Nat.add_assoc]; exact .ptr hL .nil, ?_⟩
   have h0 : (0 : Int) ≤ Int.ofNat m ∧ Int.ofNat m < (len : Int) := ⟨by simp, by simpa using hlt⟩
   unfold execOp
   simp [ho, hu, hi, Instr.indexAt, asIntOf, run_underlying hus, hlt, sizeOf, typeInfo, hi', hs, Addr.add_mid]
  ·cases hm
 ·rename_i id off k m h1 h2
  split at hm
  ·rename_i len el s ht
   obtain ⟨hlt, hm⟩ := BE hm (by simp)
   obtain ⟨rfl, rfl, rfl⟩ := BF hm
   have hlt := AZ hlt
   obtain ⟨hus, i', hi', hs⟩ := p4 ht
   refine BC fun σ w ρ oe m' => ?_
   obtain ⟨L, hL, hu⟩ := (oe x _ h1).ptr_inv
   have hi := (oe i _ h2).scal_inv rfl
   refine ⟨.pointer (some ⟨L.blk, L.base + off + m * s, none⟩), by rw [Nat.add_assoc]; exact .ptr hL .nil, ?_⟩
   unfold execOp
   simp [ho, hu, hi, Instr.indexAt, asIntOf, run_underlying hus, Instr.sureAddr, hlt, sizeOf, typeInfo, hi', hs, Addr.add_mid]
  ·cases hm
 ·cases hm
theorem YL {t : Nat} {x i : Operand} (ho : o.op = .index t x i) (hm : NO P h nx t (evO G e x) (evO G e i) = .ok v h' nx') : Good P G o e h nx v h' nx' := by
 unfold NO at hm
 split at hm
 ·rename_i cs k m h1 h2
  split at hm
  ·rename_i len el s ht
   split at hm
   ·rename_i r hr
    obtain ⟨hlt, hm⟩ := BE hm (by simp)
    split at hm
    ·rename_i v' hv
     obtain ⟨rfl, rfl, rfl⟩ := BF hm
     have hlt := AZ hlt
     obtain ⟨hus, i', hi', hs⟩ := p4 ht
     refine BC fun σ w ρ oe m' => ?_
     obtain ⟨ys, hu, hr'⟩ := (oe x _ h1).agg_inv
     have hi := (oe i _ h2).scal_inv rfl
     obtain ⟨u, hvu, hrun⟩ := SP hr hr' hv w
     refine ⟨u, hvu, ?_⟩
     unfold execOp
     simp [ho, hu, hi, Instr.index, asIntOf, run_underlying hus, hlt, sizeOf, typeInfo, hi', hs, hrun]
    ·cases hm
   ·cases hm
  ·cases hm
 ·rename_i s k m h1 h2
  split at hm
  ·rename_i hus
   split at hm
   ·rename_i b hb
    obtain ⟨rfl, rfl, rfl⟩ := BF hm
    refine BC fun σ w ρ oe m' => ?_
    have hu := (oe x _ h1).scal_inv rfl
    have hi := (oe i _ h2).scal_inv rfl
    refine ⟨.int .u8 (.ofNat b.toNat), VR.int, ?_⟩
    have hs : s[m]? = some b := by
     obtain ⟨d⟩ := s
     have hl := (List.getElem?_eq_some_iff.1 hb).1
     have he := (List.getElem?_eq_some_iff.1 hb).2
     rw [getElem?_pos (ByteArray.mk d) m (by show m < d.size; simpa using hl)]
     congr 1
    unfold execOp
    simp [ho, hu, hi, Instr.index, asIntOf, run_underlying hus, hs]
   ·cases hm
  ·cases hm
 ·cases hm
theorem lL {t : Nat} {x : Operand} (ho : o.op = .sliceToArrayPointer t x) (hm : dO P h nx t (evO G e x) = .ok v h' nx') : Good P G o e h nx v h' nx' := by
 unfold dO at hm
 split at hm
 ·rename_i id off sp len cap h1
  split at hm
  ·rename_i n el s ht
   obtain ⟨hle, hm⟩ := BE hm (by simp)
   obtain ⟨rfl, rfl, rfl⟩ := BF hm
   simp only [Bool.and_eq_true] at hle
   have hpos := AZ hle.2
   have hle := Nat.le_of_ble_eq_true hle.1
   obtain ⟨hus, _⟩ := p4 ht
   refine BC fun σ w ρ oe m' => ?_
   obtain ⟨L, c', hL, hu⟩ := (oe x _ h1).slice_inv hpos
   refine ⟨_, .ptr hL .nil, ?_⟩
   unfold execOp
   simp [ho, hu, Instr.arrayAt, run_underlying hus, Nat.not_lt.2 hle]
  ·cases hm
 ·cases hm
theorem bnd {σ : Sg} {ρ : Operand → Value} (oe : OE σ G e ρ) {lo : Option Operand} {d l : Nat} (hb : HI d (lo.map (evO G e)) = some l) : (lo = none ∧ l = d) ∨ ∃ x k, lo = some x ∧ ρ x = .int k (.ofNat l) := by
 unfold HI at hb
 split at hb
 ·rename_i hl
  injection hb with hb
  cases lo with
  | none => exact .inl ⟨rfl, hb.symm⟩
  | some x => cases hl
 ·rename_i k m hl
  injection hb with hb; subst hb
  cases lo with
  | none => cases hl
  | some x => exact .inr ⟨x, k, rfl, by simp only [Option.map_some, Option.some.injEq] at hl; exact (oe x _ hl).scal_inv rfl⟩
 ·cases hb
theorem cV (w : World) (k : IntKind) (m y : Nat) (code : BoundsCode) (hle : m ≤ y) : (Instr.sliceBound (.int k (m : Int)) y code).run P w = .ok m w := by
 simp [Instr.sliceBound, asIntOf, hle]
theorem E6 {σ : Sg} {ρ : Operand → Value} (oe : OE σ G e ρ) (w : World) (isSlice : Bool) {lo hi mx : Option Operand} {len cap l u m : Nat} (hl : HI 0 (lo.map (evO G e)) = some l) (hu : HI len (hi.map (evO G e)) = some u) (hm : HI cap (mx.map (evO G e)) = some m)
 (h1 : l ≤ u) (h2 : hi.isSome = true → u ≤ m) (h3 : m ≤ cap) (h4 : hi.isSome = true ∨ mx = none) : (Instr.sliceBounds isSlice len cap (lo.map ρ) (hi.map ρ) (mx.map ρ)).run P w = .ok (l, u, m) w := by
 unfold Instr.sliceBounds
 rcases bnd oe hl with ⟨rfl, rfl⟩ | ⟨x, k, rfl, hx⟩ <;> rcases bnd oe hu with ⟨rfl, rfl⟩ | ⟨y, k', rfl, hy⟩ <;> rcases bnd oe hm with ⟨rfl, rfl⟩ | ⟨z, k'', rfl, hz⟩ <;>
  simp_all [cV]
theorem map_nil {lo : Option Operand} (hl : lo.map (evO G e) = none) : lo = none := by cases lo <;> simp_all
theorem XV {t : Nat} {x : Operand} {lo hi mx : Option Operand} (ho : o.op = .slice t x lo hi mx) (hm : NL P h nx t (evO G e x) (lo.map (evO G e)) (hi.map (evO G e)) (mx.map (evO G e)) = .ok v h' nx') : Good P G o e h nx v h' nx' := by
 unfold NL at hm
 split at hm
 ·rename_i s h1
  split at hm
  ·rename_i l u hus hmx hl hu
   obtain ⟨hc, hm⟩ := BE hm (by simp)
   simp only [Bool.and_eq_true] at hc
   have hc1 := Nat.le_of_ble_eq_true hc.1
   have hc2 := Nat.le_of_ble_eq_true hc.2
   obtain ⟨rfl, rfl, rfl⟩ := BF hm
   have hmx := map_nil hmx
   subst hmx
   refine BC fun σ w ρ oe m' => ?_
   have hx := (oe x _ h1).scal_inv rfl
   have hsz : s.size = s.data.toList.length := by obtain ⟨d⟩ := s; rfl
   have hb := E6 (P := P) oe w false (mx := none) (cap := s.size) (len := s.size) hl (by rw [hsz]; exact hu) rfl hc1 (fun _ => by rw [hsz]; exact hc2) (Nat.le_refl _) (.inr rfl)
   refine ⟨_, VR.str, ?_⟩
   unfold execOp
   simp only [Option.map_none] at hb
   simp [ho, hx, Instr.sliceAt, Instr.slice, run_underlying hus, hb, Lib.extract_eq]
  ·cases hm
 ·rename_i id off len cap h1
  split at hm
  ·rename_i el s l u m ht hl hu hmm
   obtain ⟨hc, hm⟩ := BE hm (by simp)
   simp only [Bool.and_eq_true, Bool.or_eq_true] at hc
   have hc1 := Nat.le_of_ble_eq_true hc.1
   have hc2 := Nat.le_of_ble_eq_true hc.2.1
   have hc3 := Nat.le_of_ble_eq_true hc.2.2.1
   obtain ⟨rfl, rfl, rfl⟩ := BF hm
   obtain ⟨hus, i', hi', hs⟩ := JH ht
   refine BC fun σ w ρ oe m' => ?_
   obtain ⟨L, hL, hx⟩ := (oe x _ h1).sl_inv
   have hb := E6 (P := P) oe w true hl hu hmm hc1 (fun _ => hc2) hc3 (by
    rcases hc.2.2.2 with h5 | h5
    ·left; cases hi <;> simp_all
    ·right; cases mx <;> simp_all)
   refine ⟨.slice (some ⟨L.blk, L.base + bo (Nat.beq m l) off (off + l * s), none⟩) (u - l) (m - l), .sl hL .nil, ?_⟩
   unfold execOp
   by_cases hml : m = l
   ·subst hml
    have : Nat.beq m m = true := by simp
    simp [ho, hx, Instr.sliceAt, Instr.slice, run_underlying hus, hb, sizeOf, typeInfo, hi', CG]
   ·have : Nat.beq m l = false := by cases hbq : Nat.beq m l with | false => rfl | true => exact absurd (Nat.eq_of_beq_eq_true hbq) hml
    rw [this, BV]
    simp [ho, hx, Instr.sliceAt, Instr.slice, run_underlying hus, hb, sizeOf, typeInfo, hi', hs, hml, Addr.add_mid, Nat.add_assoc]
  ·cases hm
 ·rename_i id off z len h1
  split at hm
  ·rename_i el s l u ht hl hu hmx
   cases hc : (Nat.ble l u && (Nat.ble u len && Nat.beq s z)) with
   | false =>
    rw [hc, BV] at hm
    unfold MN at hm
    split at hm
    ·rename_i el0 m0 k0 c0 hb0
     obtain ⟨hc, hm⟩ := BE hm (by simp)
     simp only [Bool.and_eq_true] at hc
     have hlu := AZ hc.1
     have hum := Nat.le_of_ble_eq_true hc.2.1
     have hz0 := AZ hc.2.2.1
     have hsz := Nat.eq_of_beq_eq_true hc.2.2.2
     obtain ⟨rfl, rfl, rfl⟩ := BF hm
     have hmx := map_nil hmx
     subst hmx
     obtain ⟨hus, i', hi', hs⟩ := JH ht
     subst hsz
     refine BC fun σ w ρ oe m' => ?_
     obtain ⟨L, c', hL, hle, hroom, _, hx⟩ := (oe x _ h1).slo_inv
     obtain ⟨row, fz, hr1, hr2, hr3, _⟩ := m'.cells hb0 hL
     have huc : u ≤ c' := by
      have : u * s ≤ c' * s := by omega
      exact Nat.le_of_mul_le_mul_right this hz0
     have hb := E6 (P := P) oe w true (mx := none) (cap := c') hl hu rfl (by omega) (fun _ => by omega) (Nat.le_refl _) (.inr rfl)
     simp only [Option.map_none] at hb
     refine ⟨.slice (some ⟨L.blk, L.base + (off + l * s), none⟩) (u - l) (c' - l), .slo (c := c' - l) hL (by omega) ?_ .nil, ?_⟩
     ·have : c' * s = l * s + (c' - l) * s := by rw [← Nat.add_mul]; congr 1; omega
      omega
     ·unfold execOp
      have hml : ¬ c' = l := by omega
      simp [ho, hx, Instr.sliceAt, Instr.slice, run_underlying hus, hb, sizeOf, typeInfo, hi', hs, hml, Addr.add_mid, Nat.add_assoc]
    ·cases hm
   | true =>
   rw [hc, CG] at hm
   simp only [Bool.and_eq_true] at hc
   have hc1 := Nat.le_of_ble_eq_true hc.1
   have hc2 := Nat.le_of_ble_eq_true hc.2.1
   have hc3 := Nat.eq_of_beq_eq_true hc.2.2
   have hmx := map_nil hmx
   subst hmx
   obtain ⟨hus, i', hi', hs⟩ := JH ht
   subst hc3
   cases hq : (Nat.beq l 0 || Nat.blt l len) with
   | true =>
    rw [hq, CG] at hm
    obtain ⟨rfl, rfl, rfl⟩ := BF hm
    refine BC fun σ w ρ oe m' => ?_
    obtain ⟨L, c', hL, hle, hroom, _, hx⟩ := (oe x _ h1).slo_inv
    have hb := E6 (P := P) oe w true (mx := none) (cap := c') hl hu rfl hc1 (fun _ => by omega) (Nat.le_refl _) (.inr rfl)
    simp only [Option.map_none] at hb
    have hlc : l = 0 ∨ l < c' := by
     rcases Bool.or_eq_true_iff.1 hq with h5 | h5
     ·exact .inl (Nat.eq_of_beq_eq_true h5)
     ·have := AZ h5; exact .inr (by omega)
    refine ⟨.slice (some ⟨L.blk, L.base + (off + l * s), none⟩) (u - l) (c' - l), .slo (c := c' - l) hL (by omega) ?_ .nil, ?_⟩
    ·have : c' * s = l * s + (c' - l) * s := by rw [← Nat.add_mul]; congr 1; omega
     omega
    ·unfold execOp
     rcases hlc with rfl | hlc
     ·by_cases h0 : c' = 0
      ·subst h0
       simp [ho, hx, Instr.sliceAt, Instr.slice, run_underlying hus, hb, sizeOf, typeInfo, hi']
      ·simp [ho, hx, Instr.sliceAt, Instr.slice, run_underlying hus, hb, sizeOf, typeInfo, hi', h0, Addr.add_mid]
     ·have hml : ¬ c' = l := by omega
      simp [ho, hx, Instr.sliceAt, Instr.slice, run_underlying hus, hb, sizeOf, typeInfo, hi', hs, hml, Addr.add_mid, Nat.add_assoc]
   | false =>
    rw [hq, BV] at hm
    obtain ⟨rfl, rfl, rfl⟩ := BF hm
    have hl0 : l ≠ 0 := fun hh => by subst hh; simp at hq
    have hll : len ≤ l := by
     rcases Nat.lt_or_ge l len with h5 | h5
     ·have := Nat.ble_eq_true_of_le h5
      rw [show Nat.blt l len = true from this, Bool.or_true] at hq; cases hq
     ·exact h5
    refine BC fun σ w ρ oe m' => ?_
    obtain ⟨L, c', hL, hle, hroom, _, hx⟩ := (oe x _ h1).slo_inv
    have hb := E6 (P := P) oe w true (mx := none) (cap := c') hl hu rfl hc1 (fun _ => by omega) (Nat.le_refl _) (.inr rfl)
    simp only [Option.map_none] at hb
    have hul : u - l = 0 := by omega
    by_cases hml : c' = l
    ·refine ⟨.slice (some ⟨L.blk, L.base + off, none⟩) 0 0, .sle hL (.inl rfl) .nil, ?_⟩
     unfold execOp
     subst hml
     simp [ho, hx, Instr.sliceAt, Instr.slice, run_underlying hus, hb, sizeOf, typeInfo, hi', hs, hul]
    ·refine ⟨.slice (some ⟨L.blk, L.base + (off + l * s), none⟩) 0 (c' - l), .sle hL (.inr ⟨rfl, ?_⟩) .nil, ?_⟩
     ·have : c' * s = l * s + (c' - l) * s := by rw [← Nat.add_mul]; congr 1; omega
      omega
     ·unfold execOp
      simp [ho, hx, Instr.sliceAt, Instr.slice, run_underlying hus, hb, sizeOf, typeInfo, hi', hs, hml, Addr.add_mid, Nat.add_assoc, hul]
  ·rename_i el s l u mo ht hl hu hmx
   split at hm
   ·rename_i m hmm0
    obtain ⟨hc, hm⟩ := BE hm (by simp)
    simp only [Bool.and_eq_true] at hc
    have hc1 := Nat.le_of_ble_eq_true hc.1
    have hc2 := Nat.le_of_ble_eq_true hc.2.1
    have hc3 := Nat.le_of_ble_eq_true hc.2.2.1
    obtain ⟨rfl, rfl, rfl⟩ := BF hm
    obtain ⟨hus, i', hi', hs⟩ := JH ht
    refine BC fun σ w ρ oe m' => ?_
    obtain ⟨L, c', hL, hle, hroom, _, hx⟩ := (oe x _ h1).slo_inv
    have hmm : HI c' (mx.map (evO G e)) = some m := by
     rw [hmx]
     unfold HI at hmm0 ⊢
     split at hmm0
     ·rename_i hh; cases hh
     ·exact hmm0
     ·cases hmm0
    have hb := E6 (P := P) oe w true hl hu hmm hc1 (fun _ => hc2) (by omega) (.inl (by
     have := hc.2.2.2
     cases hi <;> simp_all))
    refine ⟨.slice (some ⟨L.blk, L.base + bo (Nat.beq m l) off (off + l * s), none⟩) (u - l) (m - l), .sl hL .nil, ?_⟩
    unfold execOp
    by_cases hml : m = l
    ·subst hml
     have : Nat.beq m m = true := by simp
     simp [ho, hx, Instr.sliceAt, Instr.slice, run_underlying hus, hb, sizeOf, typeInfo, hi', CG]
    ·have : Nat.beq m l = false := by cases hbq : Nat.beq m l with | false => rfl | true => exact absurd (Nat.eq_of_beq_eq_true hbq) hml
     rw [this, BV]
     simp [ho, hx, Instr.sliceAt, Instr.slice, run_underlying hus, hb, sizeOf, typeInfo, hi', hs, hml, Addr.add_mid, Nat.add_assoc]
   ·cases hm
  ·cases hm
 ·rename_i id off z h1
  split at hm
  ·rename_i p ht hl hu hmm
   obtain ⟨el, s⟩ := p
   obtain ⟨hc, hm⟩ := BE hm (by simp)
   obtain ⟨rfl, rfl, rfl⟩ := BF hm
   obtain ⟨hus, i', hi', hs⟩ := JH ht
   refine BC fun σ w ρ oe m' => ?_
   have hv := oe x _ h1
   obtain ⟨L, A, c', hL, hx, _⟩ := hv.slice_any
   have h4 : hi.isSome = true ∨ mx = none := by
    rcases Bool.or_eq_true_iff.1 hc with h5 | h5
    ·left; cases hi <;> simp_all
    ·right; cases mx <;> simp_all
   cases hmx : mx with
   | none =>
    subst hmx
    have hb := E6 (P := P) oe w true (mx := none) (cap := c') hl hu rfl (Nat.le_refl 0) (fun _ => Nat.zero_le _) (Nat.le_refl _) (.inr rfl)
    simp only [Option.map_none] at hb
    refine ⟨.slice (some ⟨L.blk, A, none⟩) 0 c', by rw [← hx]; exact hv, ?_⟩
    unfold execOp
    by_cases h0 : c' = 0
    ·subst h0
     simp [ho, hx, Instr.sliceAt, Instr.slice, run_underlying hus, hb, sizeOf, typeInfo, hi']
    ·simp [ho, hx, Instr.sliceAt, Instr.slice, run_underlying hus, hb, sizeOf, typeInfo, hi', h0, Addr.add_mid]
   | some mo =>
    have hmm' : HI c' (mx.map (evO G e)) = some 0 := by
     rw [hmx] at hmm ⊢
     simp only [Option.map_some] at hmm ⊢
     generalize evO G e mo = q at hmm ⊢
     unfold HI at hmm ⊢
     split at hmm
     ·rename_i hh; cases hh
     ·exact hmm
     ·cases hmm
    have hb := E6 (P := P) oe w true hl hu hmm' (Nat.le_refl 0) (fun _ => Nat.le_refl 0) (Nat.zero_le _) h4
    rw [hmx] at hb
    refine ⟨.slice (some ⟨L.blk, A, none⟩) 0 0, .sle hL (.inl rfl) .nil, ?_⟩
    unfold execOp
    simp only [Option.map_some] at hb
    simp [ho, hx, hmx, Instr.sliceAt, Instr.slice, run_underlying hus, hb, sizeOf, typeInfo, hi']
  ·cases hm
 ·rename_i h1
  split at hm
  ·rename_i p ht hl hu hmm
   obtain ⟨el, s⟩ := p
   obtain ⟨hc, hm⟩ := BE hm (by simp)
   obtain ⟨rfl, rfl, rfl⟩ := BF hm
   obtain ⟨hus, i', hi', hs⟩ := JH ht
   refine BC fun σ w ρ oe m' => ?_
   have hx := (oe x _ h1).scal_inv rfl
   have hb := E6 (P := P) oe w true hl hu hmm (Nat.le_refl _) (fun _ => Nat.le_refl _) (Nat.le_refl _) (by
    rcases Bool.or_eq_true_iff.1 hc with h5 | h5
    ·left; cases hi <;> simp_all
    ·right; cases mx <;> simp_all)
   refine ⟨.slice none 0 0, .sc _ rfl .nil, ?_⟩
   unfold execOp
   simp [ho, hx, Instr.sliceAt, Instr.slice, run_underlying hus, hb, sizeOf, typeInfo, hi']
  ·cases hm
 ·rename_i id off h1
  split at hm
  ·rename_i n el s l ht hl hmx
   split at hm
   ·rename_i u hu
    obtain ⟨hc, hm⟩ := BE hm (by simp)
    simp only [Bool.and_eq_true] at hc
    have hc1 := Nat.le_of_ble_eq_true hc.1
    have hc2 := Nat.le_of_ble_eq_true hc.2
    obtain ⟨rfl, rfl, rfl⟩ := BF hm
    have hmx := map_nil hmx
    subst hmx
    obtain ⟨hus, i', hi', hs⟩ := p4 ht
    refine BC fun σ w ρ oe m' => ?_
    obtain ⟨L, hL, hx⟩ := (oe x _ h1).ptr_inv
    have hb := E6 (P := P) oe w false (mx := none) (cap := n) hl hu rfl hc1 (fun _ => hc2) (Nat.le_refl _) (.inr rfl)
    simp only [Option.map_none] at hb
    refine ⟨.slice (some ⟨L.blk, L.base + bo (Nat.beq n l) off (off + l * s), none⟩) (u - l) (n - l), .sl hL .nil, ?_⟩
    unfold execOp
    by_cases hml : n = l
    ·subst hml
     have : Nat.beq n n = true := by simp
     simp [ho, hx, Instr.sliceAt, run_underlying hus, Instr.sureAddr, hb, sizeOf, typeInfo, hi', CG]
    ·have : Nat.beq n l = false := by cases hbq : Nat.beq n l with | false => rfl | true => exact absurd (Nat.eq_of_beq_eq_true hbq) hml
     rw [this, BV]
     simp [ho, hx, Instr.sliceAt, run_underlying hus, Instr.sureAddr, hb, sizeOf, typeInfo, hi', hs, hml, Addr.add_mid, Nat.add_assoc]
   ·cases hm
  ·cases hm
 ·cases hm
end
end
end
end Go.Proofs.YtadgfojhjnkliaaGreatDoor
