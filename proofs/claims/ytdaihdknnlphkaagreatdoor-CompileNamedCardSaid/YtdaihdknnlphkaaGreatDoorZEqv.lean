/- Lemmas that the last text rests on. Condition: each says its own. -/
import Derived.Test.YtdaihdknnlphkaaGreatDoorZRu10
import Derived.Test.YtdaihdknnlphkaaGreatDoorZRu11
set_option maxHeartbeats 16000000
set_option maxRecDepth 100000
namespace Go.Proofs.YtdaihdknnlphkaaGreatDoor
open Go.RowKit
def zz (l : List UInt8) : List UInt8 := if l = [] then [] else 90 :: l
theorem KR {l : List UInt8} : zz l = [] ↔ l = [] := by
 unfold zz; split <;> simp_all
theorem MT {a b : List UInt8} : zz a = zz b ↔ a = b := by
 unfold zz; split <;> split <;> simp_all
abbrev El.zz (x : El) : El := ⟨Go.Proofs.YtdaihdknnlphkaaGreatDoor.zz x.id, x.nm, x.kind, Go.Proofs.YtdaihdknnlphkaaGreatDoor.zz x.inn, Go.Proofs.YtdaihdknnlphkaaGreatDoor.zz x.dflt, Go.Proofs.YtdaihdknnlphkaaGreatDoor.zz x.att, x.ev, x.ref, x.key, x.ticks, x.tries⟩
abbrev Fl.zz (x : Fl) : Fl := ⟨Go.Proofs.YtdaihdknnlphkaaGreatDoor.zz x.id, Go.Proofs.YtdaihdknnlphkaaGreatDoor.zz x.frm, Go.Proofs.YtdaihdknnlphkaaGreatDoor.zz x.tg, x.cond⟩
abbrev Md.zz (m : Md) : Md := ⟨Go.Proofs.YtdaihdknnlphkaaGreatDoor.zz m.id, m.nm, m.vars, m.els.map El.zz, m.fls.map Fl.zz⟩
theorem T4 (l : List El) (k : List UInt8) : AO (l.map El.zz) (zz k) = (AO l k).map El.zz := by
 induction l with
 | nil => rfl
 | cons x r ih =>
  show (if zz x.id = zz k then some x.zz else AO (r.map El.zz) (zz k)) = _
  rw [ih]
  by_cases h : x.id = k
  ·rw [if_pos (MT.2 h), AO, if_pos h]; rfl
  ·rw [if_neg (fun hh => h (MT.1 hh)), AO, if_neg h]
theorem EP (l : List El) (k : List UInt8) : (AO (l.map El.zz) (zz k)).getD zeroEl = ((AO l k).getD zeroEl).zz := by
 rw [T4]; cases AO l k <;> rfl
theorem M8 (l : List El) (k : List UInt8) : (AO (l.map El.zz) (zz k)).isSome = (AO l k).isSome := by
 rw [T4]; cases AO l k <;> rfl
theorem HA (a b : List UInt8) : decide (zz a = zz b) = decide (a = b) := by
 by_cases h : a = b
 ·rw [decide_eq_true h, decide_eq_true (MT.2 h)]
 ·rw [decide_eq_false h, decide_eq_false (fun hh => h (MT.1 hh))]
theorem WV (a : List UInt8) : decide (zz a = []) = decide (a = []) := HA a []
theorem eL (l : List Fl) (k : List UInt8) : D3 (l.map Fl.zz) (zz k) = (D3 l k).map Fl.zz := by
 unfold D3
 rw [List.filter_map]
 congr 1
 apply List.filter_congr
 intro x _
 exact HA _ _
theorem JP (l : List Fl) (k : List UInt8) : BJ (l.map Fl.zz) (zz k) = (BJ l k).map Fl.zz := by
 unfold BJ
 rw [List.filter_map]
 congr 1
 apply List.filter_congr
 intro x _
 exact HA _ _
theorem eJ (l : List Fl) (k : List UInt8) : (D3 (l.map Fl.zz) (zz k)).length = (D3 l k).length := by rw [eL, List.length_map]
theorem mH (l : List Fl) (k : List UInt8) : (BJ (l.map Fl.zz) (zz k)).length = (BJ l k).length := by rw [JP, List.length_map]
theorem JC (x : El) : x.zz.id = zz x.id := rfl
theorem JB (x : El) : x.zz.kind = x.kind := rfl
theorem PI (x : El) : x.zz.inn = zz x.inn := rfl
theorem wU (x : El) : x.zz.att = zz x.att := rfl
theorem yF (x : Fl) : x.zz.id = zz x.id := rfl
theorem GV (m : Md) : m.zz.els = m.els.map El.zz := rfl
theorem LF (m : Md) : m.zz.fls = m.fls.map Fl.zz := rfl
theorem u1 {l : List UInt8} (h : BL l = true) (hl : l.length ≤ 31) : BL (zz l) = true := by
 cases l with
 | nil => simp [BL] at h
 | cons c r =>
  have hz : zz (c :: r) = 90 :: c :: r := if_neg (by simp)
  rw [hz]
  unfold BL at h ⊢
  rw [Bool.and_eq_true, Bool.and_eq_true] at h
  have h2 := h.2
  rw [JJ, Bool.and_eq_true] at h2
  have hb : FC (90 :: c :: r) = true := by
   show ((ES 90 || KN 90) && FC (c :: r)) = true
   rw [h2.2]; rfl
  rw [JJ, hb]
  simp only [List.length_cons] at hl ⊢
  rw [decide_eq_true (show 1 ≤ r.length + 1 + 1 by omega), decide_eq_true (show r.length + 1 + 1 ≤ 32 by omega)]
  rfl
theorem dA (l : List El) : ∀ (n : Nat) (s : List UInt8), NM (l.map El.zz) n (zz s) = NM l n s
 | 0, s => WV s
 | n + 1, s => by
  unfold NM
  by_cases h : s = []
  ·rw [if_pos (KR.2 h), if_pos h]
  ·rw [if_neg (fun hh => h (KR.1 hh)), if_neg h, EP, JB, PI, dA l n]
theorem sY (y : El) : SP y.zz = SP y := by
 unfold SP GY El.same
 simp only [WV]
theorem qH (m : Md) (y : El) : R9 m.zz y.zz = R9 m y := by
 unfold R9; rw [GV, PI, dA, sY]
theorem gA (m : Md) (y : Fl) : KV m.zz y.zz = KV m y := by
 unfold KV; simp only [M8, EP, HA]
theorem jB (m : Md) (y : Fl) : N5 m.zz y.zz = N5 m y := by
 unfold N5; simp only [EP, eJ]
theorem pQ {p q : Fl → Bool} (l : List Fl) (h : ∀ y, p y.zz = q y) : (l.map Fl.zz).any p = l.any q := by
 rw [List.any_map]; congr 1; funext y; exact h y
theorem tX {p q : El → Bool} (l : List El) (h : ∀ y, p y.zz = q y) : (l.map El.zz).any p = l.any q := by
 rw [List.any_map]; congr 1; funext y; exact h y
theorem o1 (m : Md) (y : El) : JX m.zz y.zz = JX m y := by
 unfold JX
 simp only [eJ, JP, List.length_map]
 rw [pQ _ (jB m)]
theorem lO (m : Md) (y : El) : HX m.zz y.zz = HX m y := by
 unfold HX
 simp only [JP, List.length_map, WV]
 rw [pQ _ (q := fun z => decide (z.id = y.dflt)) (fun z => HA _ _)]
theorem lN (m : Md) (y : Fl) : KZ m.zz y.zz = KZ m y := by
 unfold KZ
 simp only [EP, mH, HA]
theorem jI (m : Md) (y : El) : N6 m.zz y.zz = N6 m y := rfl
theorem XX (m : Md) (k : List UInt8) : JO m.zz (zz k) = JO m k := by
 unfold JO; simp only [EP]
theorem TN (l : List El) : ∀ (n : Nat) (y : El), DU (l.map El.zz) n y.zz = (DU l n y).map zz
 | 0, _ => rfl
 | n + 1, y => by
  unfold DU
  by_cases h : y.inn = []
  ·rw [if_pos h, PI, if_pos (KR.2 h)]; rfl
  ·rw [if_neg h, PI, if_neg (fun hh => h (KR.1 hh)), T4]
   cases AO l y.inn with
   | none => rfl
   | some x =>
    show (if x.zz.kind.toNat = 10 then x.zz.id :: DU (l.map El.zz) n x.zz else []) = _
    rw [TN l n, JB, JC]
    by_cases h10 : x.kind.toNat = 10
    ·rw [if_pos h10]; show _ = (if x.kind.toNat = 10 then x.id :: DU l n x else []).map zz; rw [if_pos h10]; rfl
    ·rw [if_neg h10]; show _ = (if x.kind.toNat = 10 then x.id :: DU l n x else []).map zz; rw [if_neg h10]; rfl
theorem TM (l : List El) (k : List UInt8) : DL (l.map El.zz) (zz k) = (DL l k).map zz := by
 unfold DL; rw [EP, TN]
theorem fK {p q : List UInt8 → Bool} (l : List (List UInt8)) (h : ∀ y, p (zz y) = q y) : (l.map zz).any p = l.any q := by
 rw [List.any_map]; congr 1; funext y; exact h y
theorem aI (m : Md) (b y : El) : J5 m.zz b.zz y.zz = J5 m b y := by
 unfold J5
 simp only [TM]
 rw [fK _ (q := fun z => decide (b.id = z)) (fun z => HA _ _)]
theorem gN (m : Md) (y : El) : HU m.zz y.zz = HU m y := by
 unfold HU
 simp only [M8, EP, HA]
 rw [tX _ (aI m _)]
theorem aX (k : List UInt8) (s : List (List UInt8)) : decide (zz k ∈ s.map zz) = decide (k ∈ s) := by
 have : zz k ∈ s.map zz ↔ k ∈ s := by
  rw [List.mem_map]
  exact ⟨fun ⟨a, ha, he⟩ => MT.1 he ▸ ha, fun h => ⟨k, h, rfl⟩⟩
 by_cases h : k ∈ s
 ·rw [decide_eq_true h, decide_eq_true (this.2 h)]
 ·rw [decide_eq_false h, decide_eq_false (fun hh => h (this.1 hh))]
theorem ND (m : Md) {rc rz : List UInt8 → List (List UInt8) → List (List UInt8)} (h : ∀ k s, rz (zz k) (s.map zz) = (rc k s).map zz) : ∀ (l : List Fl) (s : List (List UInt8)), GA m.zz rz (l.map Fl.zz) (s.map zz) = (GA m rc l s).map zz
 | [], _ => rfl
 | f :: r, s => by
  show (if (JO m.zz (zz f.tg) && (!(decide (zz f.tg ∈ s.map zz)))) = true then GA m.zz rz (r.map Fl.zz) (rz (zz f.tg) (zz f.tg :: s.map zz)) else GA m.zz rz (r.map Fl.zz) (s.map zz)) = _
  rw [XX, aX, GA]
  have hc : zz f.tg :: s.map zz = (f.tg :: s).map zz := rfl
  by_cases hh : (JO m f.tg && (!(decide (f.tg ∈ s)))) = true
  ·rw [if_pos hh, if_pos hh, hc, h, ND m h r]
  ·rw [if_neg hh, if_neg hh, ND m h r]
theorem XH (m : Md) : ∀ (n : Nat) (k : List UInt8) (s : List (List UInt8)), MG m.zz n (zz k) (s.map zz) = (MG m n k s).map zz
 | 0, k, s => by
  show GA m.zz (fun _ s => s) (BJ m.zz.fls (zz k)) (s.map zz) = _
  rw [LF, JP, ND m (rc := fun _ s => s) (fun _ _ => rfl)]; rfl
 | n + 1, k, s => by
  show GA m.zz (MG m.zz n) (BJ m.zz.fls (zz k)) (s.map zz) = _
  rw [LF, JP, ND m (rc := MG m n) (XH m n)]; rfl
theorem rZ (m : Md) (y : El) : W8 m.zz y.zz = W8 m y := by
 unfold W8
 rw [JC, XX, LF, List.length_map]
 have := XH m m.fls.length y.id []
 rw [show ([] : List (List UInt8)).map zz = [] from rfl] at this
 rw [this, aX]
theorem f8 (t : Nat) (l : List El) (k : List UInt8) : cntK t (l.map El.zz) (zz k) = cntK t l k := by
 unfold cntK
 rw [List.filter_map, List.length_map]
 congr 1
 apply List.filter_congr
 intro x _
 show (decide (zz x.inn = zz k) && decide (x.kind.toNat = t)) = _
 rw [HA]
theorem o5 (m : Md) (k : List UInt8) : SW m.zz (zz k) = SW m k := by
 unfold SW; rw [GV, f8, f8]
theorem aK (l : List El) : ET (l.map El.zz) = (ET l).map zz := by
 unfold ET
 rw [List.filter_map, List.map_map, List.map_map]
 congr 1
theorem JY {α : Type} {p : Nat → α → Bool} : ∀ {l : List α} {i : Nat}, ffN p i l = none ↔ ∀ j x, l[j]? = some x → p (i + j) x = true
 | [], _ => ⟨fun _ _ _ h => by simp at h, fun _ => rfl⟩
 | x :: r, i => by
  unfold ffN
  by_cases h : p i x = true
  ·rw [if_pos h, JY]
   constructor
   ·intro hh j y hj
    cases j with
    | zero => simp at hj; subst hj; exact h
    | succ j => rw [show i + (j + 1) = i + 1 + j by omega]; exact hh j y (by simpa using hj)
   ·intro hh j y hj
    rw [show i + 1 + j = i + (j + 1) by omega]; exact hh (j + 1) y (by simpa using hj)
  ·rw [if_neg h]
   exact ⟨fun hh => by simp at hh, fun hh => absurd (by simpa using hh 0 x rfl) h⟩
theorem O4 {α β : Type} {g : α → β} {p : Nat → α → Bool} {q : Nat → β → Bool} {l : List α} (h : ffN p 0 l = none) (hpq : ∀ j x, l[j]? = some x → p j x = true → q j (g x) = true) : ffN q 0 (l.map g) = none := by
 rw [JY] at h ⊢
 intro j x hj
 rw [List.getElem?_map] at hj
 cases hl : l[j]? with
 | none => rw [hl] at hj; simp at hj
 | some y =>
  rw [hl] at hj
  simp at hj
  subst hj
  rw [Nat.zero_add]
  exact hpq j y hl (by simpa using h j y hl)
theorem JQ {α β : Type} {o : Option α} {f : α → β} : o.map f = none ↔ o = none := by cases o <;> simp
theorem PG {p q : El → Bool} {l : List El} (h : ffE p l = none) (hpq : ∀ y, q y.zz = p y) : ffE q (l.map El.zz) = none := by
 unfold ffE at h ⊢
 rw [JQ] at h ⊢
 exact O4 h fun j x _ hx => by rw [hpq]; exact hx
theorem oD {p q : Fl → Bool} {l : List Fl} (h : ffF p l = none) (hpq : ∀ y, q y.zz = p y) : ffF q (l.map Fl.zz) = none := by
 unfold ffF at h ⊢
 rw [JQ] at h ⊢
 exact O4 h fun j x _ hx => by rw [hpq]; exact hx
structure Short (m : Md) : Prop where
 id : m.id.length ≤ 31
 els : ∀ x ∈ m.els, x.id.length ≤ 31
 fls : ∀ x ∈ m.fls, x.id.length ≤ 31
theorem RM {α : Type} {f : α → List UInt8} {g : α → α} (hg : ∀ x, f (g x) = zz (f x)) (base : List (List UInt8)) (l : List α) (i : Nat) : EX f (base.map zz) (l.map g) i = (EX f base l i).map zz := by
 unfold EX
 rw [← List.map_take, List.map_map, List.map_append, List.map_reverse, List.map_map]
 congr 3
 funext x
 exact hg x
theorem UY {k : List UInt8} {s : List (List UInt8)} (h : EJ k s = true) (hl : k.length ≤ 31) : EJ (zz k) (s.map zz) = true := by
 unfold EJ at h ⊢
 rw [Bool.and_eq_true] at h
 rw [u1 h.1 hl, aX, h.2]; rfl
theorem iG {m : Md} (hs : Short m) (h : N3 m = false) : N3 m.zz = false := by
 unfold N3 at h ⊢
 simp only [Bool.or_eq_false_iff] at h ⊢
 obtain ⟨⟨⟨⟨h1, h2⟩, h3⟩, h4⟩, h5⟩ := h
 refine ⟨⟨⟨⟨?_, h2⟩, ?_⟩, ?_⟩, h5⟩
 ·rw [u1 (by simpa using h1) hs.id]; rfl
 ·simp only [List.length_map]; exact h3
 ·simp only [List.length_map]; exact h4
theorem aL {m : Md} (hs : Short m) (h : EU m = none) : EU m.zz = none := by
 unfold EU at h ⊢
 cases hb : N3 m with
 | true => rw [hb, if_pos rfl] at h; simp at h
 | false =>
  rw [hb, if_neg (by decide)] at h
  rw [iG hs hb, if_neg (by decide)]
  have hv : ffN (pV m) 0 m.vars = none := by
   cases hv : ffN (pV m) 0 m.vars with
   | none => rfl
   | some b => rw [hv] at h; simp at h
  rw [hv] at h
  have he : ffN (pE m) 0 m.els = none := by
   cases he : ffN (pE m) 0 m.els with
   | none => rfl
   | some b => rw [he] at h; simp at h
  rw [he] at h
  rw [JQ] at h
  rw [show ffN (pV m.zz) 0 m.zz.vars = none from hv]
  have b1 : [m.zz.id] = [m.id].map zz := rfl
  rw [show ffN (pE m.zz) 0 m.zz.els = none from O4 he fun j x hj hx => by
   unfold pE at hx ⊢
   rw [Bool.and_eq_true] at hx
   rw [b1, RM (f := fun x : El => x.id) (fun x => rfl), UY hx.1 (hs.els x (List.mem_of_getElem? hj)), hx.2]; rfl]
  show (ffN (pF m.zz) 0 m.zz.fls).map (·.id) = none
  rw [JQ]
  exact O4 h fun j x hj hx => by
   unfold pF at hx ⊢
   rw [GV, LF, b1, List.length_map, RM (f := fun x : El => x.id) (fun x => rfl), RM (f := fun x : Fl => x.id) (fun x => rfl), yF]
   exact UY hx (hs.fls x (List.mem_of_getElem? hj))
theorem KD {m : Md} : (EA m).2.2 = 0 ↔ ∀ b ∈ X4 m, b = none := by
 unfold EA
 have : ∀ (l : List (Option (List UInt8))) (i : Nat), (F8 i l).2.2 = 0 ↔ ∀ b ∈ l, b = none := by
  intro l
  induction l with
  | nil => intro i; simp [F8]
  | cons b r ih =>
   intro i
   cases b with
   | none => rw [F8, ih]; simp
   | some k => simp [F8]
 exact this _ _
theorem r9 {m : Md} (hs : Short m) (h : (EA m).2.2 = 0) : (EA m.zz).2.2 = 0 := by
 rw [KD] at h ⊢
 unfold X4 at h ⊢
 simp only [List.forall_mem_cons, List.not_mem_nil, false_implies, implies_true, and_true] at h ⊢
 obtain ⟨h1, h2, h3, h4, h5, h6, h7, h8, h9⟩ := h
 refine ⟨aL hs h1, PG h2 (qH m), oD h3 (gA m), PG h4 (o1 m), ?_, ?_, PG h7 (gN m), PG h8 (jI m), PG h9 (rZ m)⟩
 ·unfold V3 ffS at h5 ⊢
  rw [GV, aK, show ([] : List UInt8) :: (ET m.els).map zz = ([] :: ET m.els).map zz from rfl]
  exact O4 h5 fun j x _ hx => by rw [o5]; exact hx
 ·unfold aH at h6 ⊢
  cases h61 : ffE (HX m) m.els with
  | some k => rw [h61] at h6; simp at h6
  | none =>
   rw [h61] at h6
   rw [GV, PG h61 (lO m)]
   exact oD h6 (lN m)
end Go.Proofs.YtdaihdknnlphkaaGreatDoor
