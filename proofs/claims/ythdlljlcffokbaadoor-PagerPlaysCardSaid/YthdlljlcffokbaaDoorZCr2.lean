/- What is left of a meta that was torn, plainly. No condition. -/
import Derived.Test.YthdlljlcffokbaaDoorZCr1
namespace Go.Proofs.YthdlljlcffokbaaDoor
open Go.RowKit

/-- The first c bytes of one, the others of another. -/
def mixL (c : Nat) (x y : List UInt8) : List UInt8 := x.take c ++ y.drop c
theorem mixL_get {c : Nat} {x y : List UInt8} (h : x.length = y.length) (hc : c ≤ x.length) (i : Nat) : (mixL c x y)[i]? = if i < c then x[i]? else y[i]? := by
  unfold mixL
  by_cases hi : i < c
  · rw [if_pos hi, List.getElem?_append_left (by rw [List.length_take]; omega), List.getElem?_take_of_lt hi]
  · rw [if_neg hi, List.getElem?_append_right (by rw [List.length_take]; omega), List.length_take, List.getElem?_drop]
    congr 1; omega
theorem mixL_len {c : Nat} {x y : List UInt8} (h : x.length = y.length) (hc : c ≤ x.length) : (mixL c x y).length = y.length := by
  unfold mixL; rw [List.length_append, List.length_take, List.length_drop]; omega
theorem sec_get (b : List UInt8) (k i : Nat) : (sec b k)[i]? = if i < 128 then b[k * 128 + i]? else none := by
  unfold sec
  rw [List.getElem?_take]
  split
  · rw [List.getElem?_drop]
  · rfl
/-- The two pages differ in their first sector alone. -/
structure Alike (x y : List UInt8) : Prop where
  lx : x.length = 512
  ly : y.length = 512
  far : ∀ i, 128 ≤ i → x[i]? = y[i]?
theorem Alike.sec0 {x y : List UInt8} (h : Alike x y) {c : Nat} (hc : c ≤ 128) : sec (mixL c x y) 0 = mixL c (sec x 0) (sec y 0) := by
  have l1 : (sec x 0).length = 128 := by unfold sec; rw [List.length_take, List.length_drop, h.lx]; omega
  have l2 : (sec y 0).length = 128 := by unfold sec; rw [List.length_take, List.length_drop, h.ly]; omega
  apply List.ext_getElem?
  intro i
  rw [sec_get, mixL_get (l1.trans l2.symm) (by omega), sec_get, sec_get]
  split
  · rw [mixL_get (h.lx.trans h.ly.symm) (by rw [h.lx]; omega), Nat.zero_mul, Nat.zero_add]
  · split <;> rfl
theorem Alike.secK {x y : List UInt8} (h : Alike x y) {c : Nat} (hc : c ≤ 128) {k : Nat} (hk : 1 ≤ k) : sec (mixL c x y) k = sec y k ∧ sec x k = sec y k := by
  constructor
  · apply List.ext_getElem?
    intro i
    rw [sec_get, sec_get, mixL_get (h.lx.trans h.ly.symm) (by rw [h.lx]; omega), if_neg (show ¬ k * 128 + i < c by omega)]
  · apply List.ext_getElem?
    intro i
    rw [sec_get, sec_get, h.far _ (by omega)]
/-- Whatever a crash leaves of a page that is alike, it is a mix. -/
theorem secs_crash {keep : List Bool} {torn : Int} {cut n : Nat} {x y : List UInt8} (hcut : cut ≤ 128) (h : Alike x y) {l : List (List UInt8)} (hp : PgIs l n y) : ∀ j, j ≤ 4 → ∃ c, c ≤ 128 ∧ PgIs (crashFrom keep torn cut 0 (secs n x j) l) n (mixL c x y)
  | 0, _ => ⟨0, Nat.zero_le _, by unfold mixL; simpa [secs, crashFrom] using hp⟩
  | j + 1, hj => by
    obtain ⟨c, hc, hp'⟩ := secs_crash (keep := keep) (torn := torn) hcut h hp j (by omega)
    rw [secs_succ, crashFrom_snoc, secs_len, Nat.zero_add]
    generalize crashFrom keep torn cut 0 (secs n x j) l = m at hp' ⊢
    have hlt : n * 4 + j < m.length := (List.getElem?_eq_some_iff.1 (hp' j (by omega))).1
    have hget : m.getD (n * 4 + j) [] = sec (mixL c x y) j := by rw [List.getD_eq_getElem?_getD, hp' j (by omega)]; rfl
    by_cases hj0 : j = 0
    · subst hj0
      -- the first sector: what else was there is lost in a new mix
      have l1 : (sec x 0).length = 128 := by unfold sec; rw [List.length_take, List.length_drop, h.lx]; omega
      have l2 : (sec y 0).length = 128 := by unfold sec; rw [List.length_take, List.length_drop, h.ly]; omega
      have hset : ∀ c', c' ≤ 128 → PgIs (m.set (n * 4 + 0) (sec (mixL c' x y) 0)) n (mixL c' x y) := fun c' hc' k hk => by
        by_cases hk0 : k = 0
        · subst hk0; rw [List.getElem?_set_self hlt]
        · rw [List.getElem?_set_ne (by omega), hp' k hk, (h.secK hc (by omega)).1, (h.secK hc' (by omega)).1]
      unfold crashOne
      split
      · refine ⟨max c cut, by omega, ?_⟩
        have e : (sec x 0).take cut ++ (m.getD (n * 4 + 0) []).drop cut = sec (mixL (max c cut) x y) 0 := by
          rw [hget, h.sec0 hc, h.sec0 (show max c cut ≤ 128 by omega)]
          apply List.ext_getElem?
          intro i
          rw [show (sec x 0).take cut ++ (mixL c (sec x 0) (sec y 0)).drop cut = mixL cut (sec x 0) (mixL c (sec x 0) (sec y 0)) from rfl,
            mixL_get (by rw [mixL_len (l1.trans l2.symm) (by omega)]; exact l1.trans l2.symm) (by omega), mixL_get (l1.trans l2.symm) (by omega), mixL_get (l1.trans l2.symm) (by omega)]
          by_cases h1 : i < cut
          · rw [if_pos h1, if_pos (by omega)]
          · rw [if_neg h1]
            by_cases h2 : i < c
            · rw [if_pos h2, if_pos (by omega)]
            · rw [if_neg h2, if_neg (by omega)]
        show PgIs (m.set (n * 4 + 0) ((sec x 0).take cut ++ (m.getD (n * 4 + 0) []).drop cut)) n _
        rw [e]; exact hset _ (by omega)
      · split
        · refine ⟨128, by omega, ?_⟩
          have e : sec x 0 = sec (mixL 128 x y) 0 := by
            rw [h.sec0 (by omega)]; unfold mixL
            rw [List.take_of_length_le (by omega), List.drop_of_length_le (by omega), List.append_nil]
          show PgIs (m.set (n * 4 + 0) (sec x 0)) n _
          rw [e]; exact hset _ (by omega)
        · exact ⟨c, hc, hp'⟩
    · have hs := h.secK hc (k := j) (by omega)
      have hset : m.set (n * 4 + j) (sec x j) = m := by
        have e : m[n * 4 + j]? = some (sec x j) := by rw [hp' j (by omega), hs.1, hs.2]
        apply List.ext_getElem?
        intro i
        by_cases hi : n * 4 + j = i
        · subst hi; rw [List.getElem?_set_self hlt, e]
        · rw [List.getElem?_set_ne hi]
      refine ⟨c, hc, ?_⟩
      unfold crashOne
      split
      · show PgIs (m.set (n * 4 + j) ((sec x j).take cut ++ (m.getD (n * 4 + j) []).drop cut)) n _
        rw [hget, hs.1, ← hs.2, List.take_append_drop, hset]; exact hp'
      · split
        · show PgIs (m.set (n * 4 + j) (sec x j)) n _
          rw [hset]; exact hp'
        · exact hp'
theorem be8_small {n : Nat} (h : n < 256) {i : Nat} (hi : i < 7) : (be8 n)[i]? = some 0 := by
  rw [be8_at n i (by omega), Nat.shiftRight_eq_div_pow]
  have h1 : 256 ≤ 2 ^ (56 - 8 * i) := by
    have : (2 : Nat) ^ 8 ≤ 2 ^ (56 - 8 * i) := Nat.pow_le_pow_right (by decide) (by omega)
    omega
  rw [Nat.div_eq_of_lt (by omega)]
  rfl
/-- What stands where in a meta's page. -/
structure Laying (P : List UInt8) (n : Nat) (a b : Nat) : Prop where
  len : P.length = 512
  l8 : P[8]? = some 0
  l9 : P[9]? = some 32
  mg : ∀ i, i < 8 → P[10 + i]? = magicB[i]?
  fa : ∀ i, i < 8 → P[18 + i]? = (be8 a)[i]?
  fb : ∀ i, i < 8 → P[26 + i]? = (be8 b)[i]?
  fc : ∀ i, i < 8 → P[34 + i]? = (be8 a)[i]?
  zz : ∀ i, 42 ≤ i → i < 512 → P[i]? = some 0
theorem meta_lay (n a b : Nat) : Laying (pageOf n (metaB a b)) n a b := by
  have hl : (metaB a b).length = 32 := metaB_len a b
  have hget : ∀ i, (pageOf n (metaB a b))[8 + i]? = (tailOf (metaB a b))[i]? := fun i => by
    unfold pageOf; rw [List.getElem?_append_right (by rw [be8_length]; omega), be8_length]; congr 1; omega
  have htl : ∀ i, (tailOf (metaB a b))[2 + i]? = (metaB a b ++ List.replicate 470 0)[i]? := fun i => by
    unfold tailOf; rw [hl, show 2 + i = i + 1 + 1 by omega, List.getElem?_cons_succ, List.getElem?_cons_succ]
  have hb : ∀ i, i < 32 → (pageOf n (metaB a b))[10 + i]? = (metaB a b)[i]? := fun i hi => by
    rw [show 10 + i = 8 + (2 + i) by omega, hget, htl, List.getElem?_append_left (by omega)]
  have m1 : ∀ i, i < 8 → (metaB a b)[i]? = magicB[i]? := fun i hi => by
    unfold metaB
    rw [List.getElem?_append_left (by simp [magicB, be8_length]; omega), List.getElem?_append_left (by simp [magicB, be8_length]; omega), List.getElem?_append_left (by simp [magicB]; omega)]
  have m2 : ∀ i, i < 8 → (metaB a b)[8 + i]? = (be8 a)[i]? := fun i hi => by
    unfold metaB
    rw [List.getElem?_append_left (by simp [magicB, be8_length]; omega), List.getElem?_append_left (by simp [magicB, be8_length]; omega), List.getElem?_append_right (by simp [magicB])]
    congr 1; simp [magicB]
  have m3 : ∀ i, i < 8 → (metaB a b)[16 + i]? = (be8 b)[i]? := fun i hi => by
    unfold metaB
    rw [List.getElem?_append_left (by simp [magicB, be8_length]; omega), List.getElem?_append_right (by simp [magicB, be8_length])]
    congr 1; simp [magicB, be8_length]
  have m4 : ∀ i, i < 8 → (metaB a b)[24 + i]? = (be8 a)[i]? := fun i hi => by
    unfold metaB
    rw [List.getElem?_append_right (by simp [magicB, be8_length])]
    congr 1; simp [magicB, be8_length]
  refine ⟨pageOf_length n _ (by omega), ?_, ?_, ?_, ?_, ?_, ?_, ?_⟩
  · rw [show 8 = 8 + 0 from rfl, hget]; unfold tailOf; rw [hl]; rfl
  · rw [show 9 = 8 + 1 from rfl, hget]; unfold tailOf; rw [hl]; rfl
  · intro i hi; rw [hb i (by omega), m1 i hi]
  · intro i hi; rw [show 18 + i = 10 + (8 + i) by omega, hb _ (by omega), m2 i hi]
  · intro i hi; rw [show 26 + i = 10 + (16 + i) by omega, hb _ (by omega), m3 i hi]
  · intro i hi; rw [show 34 + i = 10 + (24 + i) by omega, hb _ (by omega), m4 i hi]
  · intro i h1 h2
    rw [show i = 8 + (2 + (i - 10)) by omega, hget, htl, List.getElem?_append_right (by omega), hl, List.getElem?_replicate, if_pos (by omega)]
theorem meta_alike (n a b a' b' : Nat) : Alike (pageOf n (metaB a b)) (pageOf n (metaB a' b')) where
  lx := (meta_lay n a b).len
  ly := (meta_lay n a' b').len
  far := fun i hi => by
    by_cases h : i < 512
    · rw [(meta_lay n a b).zz i (by omega) h, (meta_lay n a' b').zz i (by omega) h]
    · rw [List.getElem?_eq_none (by rw [(meta_lay n a b).len]; omega), List.getElem?_eq_none (by rw [(meta_lay n a' b').len]; omega)]
/-- A root that may be. -/
def RootOk (pages r : Nat) : Prop := r = 0 ∨ (2 ≤ r ∧ r < pages)
theorem drop_take_get (P : List UInt8) (lo n i : Nat) : ((P.drop lo).take n)[i]? = if i < n then P[lo + i]? else none := by
  rw [List.getElem?_take]
  split
  · rw [List.getElem?_drop]
  · rfl
theorem metaOf_lay {pages n s1 r1 s3 : Nat} {P : List UInt8} (hl8 : P[8]? = some 0) (hl9 : P[9]? = some 32) (hlen : P.length = 512) (hmg : ∀ i, i < 8 → P[10 + i]? = magicB[i]?) (hfa : ∀ i, i < 8 → P[18 + i]? = (be8 s1)[i]?) (hfb : ∀ i, i < 8 → P[26 + i]? = (be8 r1)[i]?) (hfc : ∀ i, i < 8 → P[34 + i]? = (be8 s3)[i]?)
    (h1 : s1 < 256) (h2 : r1 < 256) (h3 : s3 < 256) : metaOf pages (decA n P) = (-1, 0) ∨ (DecOk n P ∧ s1 = s3 ∧ metaOf pages (decA n P) = ((s1 : Int), (r1 : Int))) ∨ (DecOk n P ∧ ¬ RootOk pages r1) := by
  by_cases hd : DecOk n P
  case neg => rw [decA_no hd]; exact .inl rfl
  have hlong : longOf P = 32 := by
    unfold longOf
    rw [List.getD_eq_getElem?_getD, List.getD_eq_getElem?_getD, hl8, hl9]; rfl
  have hlist : ∀ (lo : Nat) (y : List UInt8), y.length = 8 → (∀ i, i < 8 → P[10 + lo + i]? = y[i]?) → lo + 8 ≤ 32 → (((P.drop 10).take 32).drop lo).take 8 = y := fun lo y hy h hlo => by
    apply List.ext_getElem?
    intro i
    rw [drop_take_get, drop_take_get]
    by_cases hi : i < 8
    · rw [if_pos hi, if_pos (by omega), ← h i hi, Nat.add_assoc]
    · rw [if_neg hi, List.getElem?_eq_none (by omega)]
  have e0 : ((P.drop 10).take 32).take 8 = magicB := by
    have := hlist 0 magicB rfl hmg (by decide)
    simpa using this
  have e1 : part8 ((P.drop 10).take 32) 8 = be8 s1 := hlist 8 _ (be8_length _) hfa (by decide)
  have e2 : part8 ((P.drop 10).take 32) 16 = be8 r1 := hlist 16 _ (be8_length _) hfb (by decide)
  have e3 : part8 ((P.drop 10).take 32) 24 = be8 s3 := hlist 24 _ (be8_length _) hfc (by decide)
  have v : ∀ x, x < 256 → val8 (be8 x) = x := fun x hx => val8_be8 x (by unfold M64; omega)
  have hll : ((P.drop 10).take 32).length = 32 := by rw [List.length_take, List.length_drop, hlen]; omega
  rw [decA_ok hd, hlong]
  unfold metaOf
  rw [if_neg (fun h => by
    rcases h with h | h | h
    · exact h rfl
    · exact h hll
    · exact h e0)]
  show (if _ then _ else _) = _ ∨ _
  simp only [e1, e2, e3, v s1 h1, v r1 h2, v s3 h3]
  by_cases h13 : s1 = s3
  case neg => rw [if_pos (.inr (.inl h13))]; exact .inl rfl
  by_cases hr : RootOk pages r1
  case neg => exact .inr (.inr ⟨hd, hr⟩)
  rw [if_neg (by unfold RootOk at hr; omega)]
  exact .inr (.inl ⟨hd, h13, rfl⟩)
theorem metaOf_exact {pages n a b : Nat} (ha : a < 256) (hb : b < 256) (hr : RootOk pages b) : metaOf pages (decA n (pageOf n (metaB a b))) = ((a : Int), (b : Int)) := by
  have L := meta_lay n a b
  have hd : DecOk n (pageOf n (metaB a b)) := page_ok n _ (by rw [metaB_len]; omega)
  rcases metaOf_lay (pages := pages) (n := n) L.l8 L.l9 L.len L.mg L.fa L.fb L.fc ha hb ha with h | ⟨_, _, h⟩ | ⟨_, h⟩
  · exfalso
    rw [decA_ok hd, page_long _ _ (by rw [metaB_len]; omega), page_out] at h
    have v : ∀ x, x < 256 → val8 (be8 x) = x := fun x hx => val8_be8 x (by unfold M64; omega)
    have q1 : part8 (metaB a b) 8 = be8 a := by simp [part8, metaB, magicB, be8_length]
    have q2 : part8 (metaB a b) 16 = be8 b := by simp [part8, metaB, magicB, be8_length]
    have q3 : part8 (metaB a b) 24 = be8 a := by simp [part8, metaB, magicB, List.drop_append, be8_length, List.take_of_length_le, List.drop_of_length_le]
    unfold metaOf at h
    rw [if_neg (fun h => by
      rcases h with h | h | h
      · exact h rfl
      · exact h (metaB_len a b)
      · exact h (by simp [metaB, magicB]))] at h
    simp only [q1, q2, q3, v a ha, v b hb] at h
    rw [if_neg (by unfold RootOk at hr; omega)] at h
    have := congrArg Prod.fst h
    simp at this
  · exact h
  · exact absurd hr h
/-- What is read of a torn meta: nothing, the new one, or the old one. -/
theorem metaOf_mix {pages n a b a' b' c : Nat} (hc : c ≤ 128) (ha : a < 256) (hb : b < 256) (ha' : a' < 256) (hb' : b' < 256) (hr : RootOk pages b) (hr' : RootOk pages b') (hne : a ≠ a') :
    metaOf pages (decA n (mixL c (pageOf n (metaB a b)) (pageOf n (metaB a' b')))) = (-1, 0) ∨ metaOf pages (decA n (mixL c (pageOf n (metaB a b)) (pageOf n (metaB a' b')))) = ((a : Int), (b : Int)) ∨ metaOf pages (decA n (mixL c (pageOf n (metaB a b)) (pageOf n (metaB a' b')))) = ((a' : Int), (b' : Int)) := by
  have L := meta_lay n a b
  have L' := meta_lay n a' b'
  have hget := mixL_get (c := c) (L.len.trans L'.len.symm) (by rw [L.len]; omega)
  have hlen := mixL_len (c := c) (L.len.trans L'.len.symm) (by rw [L.len]; omega)
  by_cases hc8 : c ≤ 8
  · -- only the sum was torn
    have hd8 : (mixL c (pageOf n (metaB a b)) (pageOf n (metaB a' b'))).drop 8 = (pageOf n (metaB a' b')).drop 8 := by
      apply List.ext_getElem?
      intro i
      rw [List.getElem?_drop, List.getElem?_drop, hget, if_neg (by omega)]
    by_cases hd : DecOk n (mixL c (pageOf n (metaB a b)) (pageOf n (metaB a' b')))
    case neg => rw [decA_no hd]; exact .inl rfl
    have hs := decOk_sum hd
    have hs' := decOk_sum (page_ok n (metaB a' b') (by rw [metaB_len]; omega))
    rw [hd8, hs'] at hs
    have e : mixL c (pageOf n (metaB a b)) (pageOf n (metaB a' b')) = pageOf n (metaB a' b') := by
      rw [← List.take_append_drop 8 (mixL c _ _), hd8, ← hs, List.take_append_drop]
    rw [e]
    exact .inr (.inr (metaOf_exact ha' hb' hr'))
  · generalize hP : mixL c (pageOf n (metaB a b)) (pageOf n (metaB a' b')) = P at hget hlen ⊢
    have hpart : ∀ (lo x x' : Nat), x < 256 → x' < 256 → (∀ i, i < 8 → (pageOf n (metaB a b))[lo + i]? = (be8 x)[i]?) → (∀ i, i < 8 → (pageOf n (metaB a' b'))[lo + i]? = (be8 x')[i]?) → ∀ i, i < 8 → P[lo + i]? = (be8 (if c ≤ lo + 7 then x' else x))[i]? := fun lo x x' hx hx' h h' i hi => by
      rw [hget]
      by_cases h7 : i < 7
      · have : (be8 (if c ≤ lo + 7 then x' else x))[i]? = some 0 := be8_small (by split <;> assumption) h7
        rw [this]
        split
        · rw [h i hi, be8_small hx h7]
        · rw [h' i hi, be8_small hx' h7]
      · obtain rfl : i = 7 := by omega
        by_cases hlo : c ≤ lo + 7
        · rw [if_neg (by omega), if_pos hlo, h' 7 hi]
        · rw [if_pos (by omega), if_neg hlo, h 7 hi]
    have hfa := hpart 18 a a' ha ha' L.fa L'.fa
    have hfb := hpart 26 b b' hb hb' L.fb L'.fb
    have hfc := hpart 34 a a' ha ha' L.fc L'.fc
    have hres := metaOf_lay (pages := pages) (n := n) (P := P) (by rw [hget]; split; exact L.l8; exact L'.l8) (by rw [hget]; split; exact L.l9; exact L'.l9) (hlen.trans L'.len) (fun i hi => by rw [hget]; split; exact L.mg i hi; exact L'.mg i hi) hfa hfb hfc (by split <;> assumption) (by split <;> assumption) (by split <;> assumption)
    rcases hres with h | ⟨_, h13, h⟩ | ⟨_, h⟩
    · exact .inl h
    · by_cases h1 : c ≤ 25
      · rw [if_pos (show c ≤ 18 + 7 by omega), if_pos (show c ≤ 26 + 7 by omega)] at h
        exact .inr (.inr h)
      · by_cases h2 : c ≤ 41
        · rw [if_neg (show ¬ c ≤ 18 + 7 by omega), if_pos (show c ≤ 34 + 7 by omega)] at h13
          exact absurd h13 hne
        · rw [if_neg (show ¬ c ≤ 18 + 7 by omega), if_neg (show ¬ c ≤ 26 + 7 by omega)] at h
          exact .inr (.inl h)
    · exfalso
      apply h
      split <;> assumption
end Go.Proofs.YthdlljlcffokbaaDoor
