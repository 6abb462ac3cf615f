/- UTF-8 in plain Lean: by the first byte and the ranges behind it; by the bits of as many bytes as the first one tells. No program in sight. No condition. -/
import Derived.Test.YtklciidffdnglaaDoorBase
namespace Go.Proofs.YtklciidffdnglaaDoor

/-- A byte behind the first one. -/
def cont (b : UInt8) : Bool := decide (128 ≤ b.toNat) && decide (b.toNat ≤ 191)
/-- From where and up to where the second byte may be. -/
def lo2 (a : UInt8) : Nat := if a.toNat = 224 then 160 else if a.toNat = 240 then 144 else 128
def hi2 (a : UInt8) : Nat := if a.toNat = 237 then 159 else if a.toNat = 244 then 143 else 191
def mid (a b : UInt8) : Bool := decide (lo2 a ≤ b.toNat) && decide (b.toNat ≤ hi2 a)
def u2 (a : UInt8) : List UInt8 → Nat
  | b :: _ => if mid a b then 2 else 0
  | [] => 0
def u3 (a : UInt8) : List UInt8 → Nat
  | b :: c :: _ => if mid a b && cont c then 3 else 0
  | _ => 0
def u4 (a : UInt8) : List UInt8 → Nat
  | b :: c :: d :: _ => if mid a b && cont c && cont d then 4 else 0
  | _ => 0
def ulenC (a : UInt8) (r : List UInt8) : Nat := if a.toNat < 128 then 1 else if a.toNat < 194 then 0 else if a.toNat < 224 then u2 a r else if a.toNat < 240 then u3 a r else if a.toNat < 245 then u4 a r else 0
/-- How many bytes the character has that begins here; 0: none does. -/
def ulen : List UInt8 → Nat
  | [] => 0
  | a :: r => ulenC a r
theorem ulen_cons (a : UInt8) (r : List UInt8) : ulen (a :: r) = ulenC a r := rfl
theorem u2_le (a : UInt8) : ∀ r, u2 a r ≤ r.length + 1
  | [] => by simp [u2]
  | b :: r => by rw [u2]; split <;> simp
theorem u3_le (a : UInt8) : ∀ r, u3 a r ≤ r.length + 1
  | [] => by simp [u3]
  | [b] => by simp [u3]
  | b :: c :: r => by rw [u3]; split <;> simp
theorem u4_le (a : UInt8) : ∀ r, u4 a r ≤ r.length + 1
  | [] => by simp [u4]
  | [b] => by simp [u4]
  | [b, c] => by simp [u4]
  | b :: c :: d :: r => by rw [u4]; split <;> simp
theorem ulen_le : ∀ l : List UInt8, ulen l ≤ l.length
  | [] => Nat.le_refl _
  | a :: r => by
    rw [ulen_cons, ulenC, List.length_cons]
    have h2 := u2_le a r
    have h3 := u3_le a r
    have h4 := u4_le a r
    split
    · omega
    · split
      · omega
      · split
        · exact h2
        · split
          · exact h3
          · split
            · exact h4
            · omega
def utfN : Nat → List UInt8 → Bool
  | 0, l => l.isEmpty
  | n + 1, l => l.isEmpty || (ulen l != 0 && utfN n (l.drop (ulen l)))
/-- Is it UTF-8? -/
def utf (l : List UInt8) : Bool := utfN l.length l
theorem utfN_more : ∀ (n m : Nat) (l : List UInt8), l.length ≤ n → l.length ≤ m → utfN n l = utfN m l
  | 0, 0, _, _, _ => rfl
  | 0, m + 1, l, h, _ => by
    have : l = [] := List.eq_nil_of_length_eq_zero (by omega)
    subst this; rfl
  | n + 1, 0, l, _, h => by
    have : l = [] := List.eq_nil_of_length_eq_zero (by omega)
    subst this; rfl
  | n + 1, m + 1, l, h1, h2 => by
    unfold utfN
    by_cases h0 : ulen l = 0
    · simp [h0]
    · rw [utfN_more n m (l.drop (ulen l)) (by rw [List.length_drop]; omega) (by rw [List.length_drop]; omega)]
theorem utf_nil : utf [] = true := rfl
theorem utf_step (l : List UInt8) (h : l ≠ []) : utf l = (ulen l != 0 && utf (l.drop (ulen l))) := by
  unfold utf
  obtain ⟨a, r, rfl⟩ := List.exists_cons_of_ne_nil h
  rw [List.length_cons]
  conv => lhs; unfold utfN
  by_cases h0 : ulen (a :: r) = 0
  · simp [h0]
  · rw [utfN_more r.length _ _ (by rw [List.length_drop, List.length_cons]; omega) (Nat.le_refl _)]
    simp
theorem utf_bad (l : List UInt8) (h : l ≠ []) (h0 : ulen l = 0) : utf l = false := by rw [utf_step l h, h0]; rfl
theorem utf_go (l : List UInt8) (n : Nat) (hn : n ≠ 0) (h0 : ulen l = n) : utf l = utf (l.drop n) := by
  have h : l ≠ [] := fun e => by subst e; exact hn h0.symm
  rw [utf_step l h, h0]
  simp [hn]
theorem utf_ascii : ∀ (k : Nat) (l : List UInt8), (∀ (j : Nat) b, j < k → l[j]? = some b → b.toNat < 128) → k ≤ l.length → utf l = utf (l.drop k)
  | 0, _, _, _ => by simp
  | k + 1, l, h, hl => by
    have h1 := utf_ascii k l (fun j b hj hb => h j b (by omega) hb) (by omega)
    have h2 : utf (l.drop k) = utf ((l.drop k).drop 1) := by
      have hk : k < l.length := by omega
      refine utf_go _ 1 (by omega) ?_
      rw [List.drop_eq_getElem_cons hk]
      rw [ulen_cons, ulenC]
      rw [if_pos (h k _ (by omega) (List.getElem?_eq_getElem hk))]
    rw [h1, h2, List.drop_drop]

/-- The document's character: the bytes of a number. -/
def charOf (c : Int) : Option (List UInt8) :=
  if c < 0 ∨ 1114111 < c ∨ (55296 ≤ c ∧ c ≤ 57343) then none
  else if c ≤ 127 then some [UInt8.ofNat c.toNat]
  else if c ≤ 2047 then some [UInt8.ofNat (192 + c.toNat / 64), UInt8.ofNat (128 + c.toNat % 64)]
  else if c ≤ 65535 then some [UInt8.ofNat (224 + c.toNat / 4096), UInt8.ofNat (128 + c.toNat / 64 % 64), UInt8.ofNat (128 + c.toNat % 64)]
  else some [UInt8.ofNat (240 + c.toNat / 262144), UInt8.ofNat (128 + c.toNat / 4096 % 64), UInt8.ofNat (128 + c.toNat / 64 % 64), UInt8.ofNat (128 + c.toNat % 64)]
/-- How many bytes the first one tells, and its bits. -/
def nOf (a : UInt8) : Nat := if 240 ≤ a.toNat then 4 else if 224 ≤ a.toNat then 3 else if 192 ≤ a.toNat then 2 else 1
def bitsOf (a : UInt8) : Int := if 240 ≤ a.toNat then a.toNat - 240 else if 224 ≤ a.toNat then a.toNat - 224 else if 192 ≤ a.toNat then a.toNat - 192 else a.toNat
def more (c : Int) : List UInt8 → Int
  | [] => c
  | b :: r => more (c * 64 + b.toNat - 128) r
theorem more_append (c : Int) : ∀ (l : List UInt8) (b : UInt8), more c (l ++ [b]) = more c l * 64 + b.toNat - 128
  | [], b => rfl
  | x :: l, b => by show more _ (l ++ [b]) = _; rw [more_append]; rfl
/-- The number that as many bytes tell. -/
def codeOf (a : UInt8) (r : List UInt8) : Int := more (bitsOf a) (r.take (nOf a - 1))
/-- A character begins here, as the document says. -/
def atOk (a : UInt8) (r : List UInt8) : Bool := decide (nOf a ≤ r.length + 1) && decide (charOf (codeOf a r) = some ((a :: r).take (nOf a)))
theorem u8_ofNat {n : Nat} (b : UInt8) (h : n < 256) : (UInt8.ofNat n = b) ↔ n = b.toNat := by
  constructor
  · intro e; subst e; simp [Nat.mod_eq_of_lt h]
  · intro e; subst e; simp
theorem at_ulen (a : UInt8) (r : List UInt8) : (atOk a r = true → ulen (a :: r) = nOf a) ∧ (atOk a r = false → ulen (a :: r) = 0) := by
  have ha := a.toNat_lt
  by_cases h1 : a.toNat < 192
  · have hn : nOf a = 1 := by unfold nOf; rw [if_neg (by omega), if_neg (by omega), if_neg (by omega)]
    have hb : bitsOf a = a.toNat := by unfold bitsOf; rw [if_neg (by omega), if_neg (by omega), if_neg (by omega)]
    have hc : codeOf a r = a.toNat := by unfold codeOf; rw [hn, hb]; simp [more]
    have hat : atOk a r = decide (a.toNat < 128) := by
      unfold atOk
      rw [hn, hc]
      by_cases h2 : a.toNat < 128
      · have : charOf (a.toNat : Int) = some [a] := by
          unfold charOf
          rw [if_neg (by omega), if_pos (by omega)]
          simp
        rw [this]; simp [h2]
      · have : charOf (a.toNat : Int) ≠ some [a] := by
          unfold charOf
          rw [if_neg (by omega), if_neg (by omega), if_pos (by omega)]
          simp
        simp [h2, this]
    rw [hat]
    constructor
    · intro h; have h : a.toNat < 128 := by simpa using h
      rw [ulen_cons, ulenC]; rw [if_pos h, hn]
    · intro h; have h : ¬ a.toNat < 128 := by simpa using h
      rw [ulen_cons, ulenC]; rw [if_neg h, if_pos (by omega)]
  by_cases h2 : a.toNat < 224
  · have hn : nOf a = 2 := by unfold nOf; rw [if_neg (by omega), if_neg (by omega), if_pos (by omega)]
    have hb : bitsOf a = a.toNat - 192 := by unfold bitsOf; rw [if_neg (by omega), if_neg (by omega), if_pos (by omega)]
    match r with
    | [] =>
      have hat : atOk a [] = false := by unfold atOk; rw [hn]; simp
      rw [hat]
      refine ⟨fun h => (by cases h), fun _ => ?_⟩
      rw [ulen_cons, ulenC]; rw [if_neg (by omega)]
      split
      · rfl
      · rfl
    | b :: r =>
      have hbl := b.toNat_lt
      have hc : codeOf a (b :: r) = (a.toNat - 192) * 64 + b.toNat - 128 := by unfold codeOf; rw [hn, hb]; simp [more]
      have hul : ulen (a :: b :: r) = if 194 ≤ a.toNat ∧ 128 ≤ b.toNat ∧ b.toNat ≤ 191 then 2 else 0 := by
        rw [ulen_cons, ulenC]
        rw [if_neg (by omega)]
        by_cases h3 : a.toNat < 194
        · rw [if_pos h3, if_neg (by omega)]
        · rw [if_neg h3, if_pos h2]
          have hm : mid a b = decide (128 ≤ b.toNat ∧ b.toNat ≤ 191) := by
            unfold mid lo2 hi2
            rw [if_neg (by omega), if_neg (by omega), if_neg (by omega), if_neg (by omega)]
            simp
          rw [u2, hm]
          by_cases h4 : 128 ≤ b.toNat ∧ b.toNat ≤ 191
          · rw [if_pos (by simpa using h4), if_pos ⟨by omega, h4⟩]
          · rw [if_neg (by simpa using h4), if_neg (fun h => h4 h.2)]
      have hat : atOk a (b :: r) = decide (194 ≤ a.toNat ∧ 128 ≤ b.toNat ∧ b.toNat ≤ 191) := by
        unfold atOk
        rw [hn, hc]
        have htk : (a :: b :: r).take 2 = [a, b] := rfl
        rw [htk]
        have key : (charOf (((a.toNat : Int) - 192) * 64 + b.toNat - 128) = some [a, b]) ↔ (194 ≤ a.toNat ∧ 128 ≤ b.toNat ∧ b.toNat ≤ 191) := by
          unfold charOf
          split
          · constructor
            · intro h; cases h
            · intro h; omega
          · split
            · constructor
              · intro h; simp at h
              · intro h; omega
            · split
              · rename_i g1 g2 g3
                simp only [Option.some.injEq, List.cons.injEq, and_true]
                rw [u8_ofNat a (by omega), u8_ofNat b (by omega)]
                constructor
                · intro h; omega
                · intro h; omega
              · split
                · constructor
                  · intro h; simp at h
                  · intro h; omega
                · constructor
                  · intro h; simp at h
                  · intro h; omega
        simp [key]
      rw [hul, hat]
      by_cases h4 : 194 ≤ a.toNat ∧ 128 ≤ b.toNat ∧ b.toNat ≤ 191
      · rw [if_pos h4, hn]; simp [h4]
      · rw [if_neg h4]; simp only [h4]; simp
  by_cases h3 : a.toNat < 240
  · have hn : nOf a = 3 := by unfold nOf; rw [if_neg (by omega), if_pos (by omega)]
    have hb : bitsOf a = a.toNat - 224 := by unfold bitsOf; rw [if_neg (by omega), if_pos (by omega)]
    match r with
    | [] =>
      have hat : atOk a [] = false := by unfold atOk; rw [hn]; simp
      rw [hat]
      refine ⟨fun h => (by cases h), fun _ => ?_⟩
      rw [ulen_cons, ulenC]; rw [if_neg (by omega), if_neg (by omega), if_neg (by omega), if_pos h3]; rfl
    | [b] =>
      have hat : atOk a [b] = false := by unfold atOk; rw [hn]; simp
      rw [hat]
      refine ⟨fun h => (by cases h), fun _ => ?_⟩
      rw [ulen_cons, ulenC]; rw [if_neg (by omega), if_neg (by omega), if_neg (by omega), if_pos h3]; rfl
    | b :: c :: r =>
      have hbl := b.toNat_lt
      have hcl := c.toNat_lt
      have hc : codeOf a (b :: c :: r) = (((a.toNat : Int) - 224) * 64 + b.toNat - 128) * 64 + c.toNat - 128 := by unfold codeOf; rw [hn, hb]; simp [more]
      have hul : ulen (a :: b :: c :: r) = if lo2 a ≤ b.toNat ∧ b.toNat ≤ hi2 a ∧ 128 ≤ c.toNat ∧ c.toNat ≤ 191 then 3 else 0 := by
        rw [ulen_cons, ulenC]
        rw [if_neg (by omega), if_neg (by omega), if_neg (by omega), if_pos h3, u3]
        by_cases h4 : lo2 a ≤ b.toNat ∧ b.toNat ≤ hi2 a ∧ 128 ≤ c.toNat ∧ c.toNat ≤ 191
        · rw [if_pos h4, if_pos (by simp [mid, cont, h4])]
        · rw [if_neg h4, if_neg (fun h => h4 (by simp [mid, cont] at h; omega))]
      have hat : atOk a (b :: c :: r) = decide (lo2 a ≤ b.toNat ∧ b.toNat ≤ hi2 a ∧ 128 ≤ c.toNat ∧ c.toNat ≤ 191) := by
        unfold atOk
        rw [hn, hc]
        have htk : (a :: b :: c :: r).take 3 = [a, b, c] := rfl
        rw [htk]
        have key : (charOf ((((a.toNat : Int) - 224) * 64 + b.toNat - 128) * 64 + c.toNat - 128) = some [a, b, c]) ↔ (lo2 a ≤ b.toNat ∧ b.toNat ≤ hi2 a ∧ 128 ≤ c.toNat ∧ c.toNat ≤ 191) := by
          have hlo : lo2 a = if a.toNat = 224 then 160 else 128 := by unfold lo2; split; rfl; rw [if_neg (by omega)]
          have hhi : hi2 a = if a.toNat = 237 then 159 else 191 := by unfold hi2; split; rfl; rw [if_neg (by omega)]
          rw [hlo, hhi]
          unfold charOf
          split
          · constructor
            · intro h; cases h
            · intro h; split at h <;> split at h <;> omega
          · split
            · constructor
              · intro h; simp at h
              · intro h; split at h <;> split at h <;> omega
            · split
              · constructor
                · intro h; simp at h
                · intro h; split at h <;> split at h <;> omega
              · split
                · rename_i g1 g2 g3 g4
                  simp only [Option.some.injEq, List.cons.injEq, and_true]
                  rw [u8_ofNat a (by omega), u8_ofNat b (by omega), u8_ofNat c (by omega)]
                  constructor
                  · intro h; split <;> split <;> omega
                  · intro h; split at h <;> split at h <;> omega
                · constructor
                  · intro h; simp at h
                  · intro h; split at h <;> split at h <;> omega
        simp [key]
      rw [hul, hat]
      by_cases h4 : lo2 a ≤ b.toNat ∧ b.toNat ≤ hi2 a ∧ 128 ≤ c.toNat ∧ c.toNat ≤ 191
      · rw [if_pos h4, hn]; simp [h4]
      · rw [if_neg h4]; simp only [h4]; simp
  · have hn : nOf a = 4 := by unfold nOf; rw [if_pos (by omega)]
    have hb : bitsOf a = a.toNat - 240 := by unfold bitsOf; rw [if_pos (by omega)]
    match r with
    | [] =>
      have hat : atOk a [] = false := by unfold atOk; rw [hn]; simp
      rw [hat]
      refine ⟨fun h => (by cases h), fun _ => ?_⟩
      rw [ulen_cons, ulenC]; rw [if_neg (by omega), if_neg (by omega), if_neg (by omega), if_neg (by omega)]; split <;> rfl
    | [b] =>
      have hat : atOk a [b] = false := by unfold atOk; rw [hn]; simp
      rw [hat]
      refine ⟨fun h => (by cases h), fun _ => ?_⟩
      rw [ulen_cons, ulenC]; rw [if_neg (by omega), if_neg (by omega), if_neg (by omega), if_neg (by omega)]; split <;> rfl
    | [b, c] =>
      have hat : atOk a [b, c] = false := by unfold atOk; rw [hn]; simp
      rw [hat]
      refine ⟨fun h => (by cases h), fun _ => ?_⟩
      rw [ulen_cons, ulenC]; rw [if_neg (by omega), if_neg (by omega), if_neg (by omega), if_neg (by omega)]; split <;> rfl
    | b :: c :: d :: r =>
      have hbl := b.toNat_lt
      have hcl := c.toNat_lt
      have hdl := d.toNat_lt
      have hc : codeOf a (b :: c :: d :: r) = ((((a.toNat : Int) - 240) * 64 + b.toNat - 128) * 64 + c.toNat - 128) * 64 + d.toNat - 128 := by unfold codeOf; rw [hn, hb]; simp [more]
      have hul : ulen (a :: b :: c :: d :: r) = if a.toNat < 245 ∧ lo2 a ≤ b.toNat ∧ b.toNat ≤ hi2 a ∧ 128 ≤ c.toNat ∧ c.toNat ≤ 191 ∧ 128 ≤ d.toNat ∧ d.toNat ≤ 191 then 4 else 0 := by
        rw [ulen_cons, ulenC]
        rw [if_neg (by omega), if_neg (by omega), if_neg (by omega), if_neg h3]
        by_cases h5 : a.toNat < 245
        · rw [if_pos h5, u4]
          by_cases h4 : a.toNat < 245 ∧ lo2 a ≤ b.toNat ∧ b.toNat ≤ hi2 a ∧ 128 ≤ c.toNat ∧ c.toNat ≤ 191 ∧ 128 ≤ d.toNat ∧ d.toNat ≤ 191
          · rw [if_pos h4, if_pos (by simp [mid, cont, h4])]
          · rw [if_neg h4, if_neg (fun h => h4 (by simp [mid, cont] at h; omega))]
        · rw [if_neg h5, if_neg (fun h => h5 h.1)]
      have hat : atOk a (b :: c :: d :: r) = decide (a.toNat < 245 ∧ lo2 a ≤ b.toNat ∧ b.toNat ≤ hi2 a ∧ 128 ≤ c.toNat ∧ c.toNat ≤ 191 ∧ 128 ≤ d.toNat ∧ d.toNat ≤ 191) := by
        unfold atOk
        rw [hn, hc]
        have htk : (a :: b :: c :: d :: r).take 4 = [a, b, c, d] := rfl
        rw [htk]
        have key : (charOf (((((a.toNat : Int) - 240) * 64 + b.toNat - 128) * 64 + c.toNat - 128) * 64 + d.toNat - 128) = some [a, b, c, d]) ↔ (a.toNat < 245 ∧ lo2 a ≤ b.toNat ∧ b.toNat ≤ hi2 a ∧ 128 ≤ c.toNat ∧ c.toNat ≤ 191 ∧ 128 ≤ d.toNat ∧ d.toNat ≤ 191) := by
          have hlo : lo2 a = if a.toNat = 240 then 144 else 128 := by unfold lo2; rw [if_neg (by omega)]
          have hhi : hi2 a = if a.toNat = 244 then 143 else 191 := by unfold hi2; rw [if_neg (by omega)]
          rw [hlo, hhi]
          unfold charOf
          split
          · constructor
            · intro h; cases h
            · intro h; split at h <;> split at h <;> omega
          · split
            · constructor
              · intro h; simp at h
              · intro h; split at h <;> split at h <;> omega
            · split
              · constructor
                · intro h; simp at h
                · intro h; split at h <;> split at h <;> omega
              · split
                · constructor
                  · intro h; simp at h
                  · intro h; split at h <;> split at h <;> omega
                · rename_i g1 g2 g3 g4
                  simp only [Option.some.injEq, List.cons.injEq, and_true]
                  rw [u8_ofNat a (by omega), u8_ofNat b (by omega), u8_ofNat c (by omega), u8_ofNat d (by omega)]
                  constructor
                  · intro h; split <;> split <;> omega
                  · intro h; split at h <;> split at h <;> omega
        simp [key]
      rw [hul, hat]
      by_cases h4 : a.toNat < 245 ∧ lo2 a ≤ b.toNat ∧ b.toNat ≤ hi2 a ∧ 128 ≤ c.toNat ∧ c.toNat ≤ 191 ∧ 128 ≤ d.toNat ∧ d.toNat ≤ 191
      · rw [if_pos h4, hn]; simp [h4]
      · rw [if_neg h4]; simp only [h4]; simp
end Go.Proofs.YtklciidffdnglaaDoor
