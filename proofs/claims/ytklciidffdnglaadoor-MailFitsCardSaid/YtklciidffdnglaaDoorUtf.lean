/- The tables of unicode/utf8, as a row lists them, stand in memory. No condition. -/
import Derived.Test.YtklciidffdnglaaDoorKx
import Derived.Test.YtklciidffdnglaaDoorKv
import Derived.Stop.LaidErr
import Derived.MakeChecks
import Derived.Lib.LaidTab
import GoSem.PinnedTables
namespace Go.Proofs.YtklciidffdnglaaDoor
open Go.RowKit Go.ChangeShapes

def pairsZ : List (Int × Int) := [(128, 191), (160, 191), (128, 159), (144, 191), (128, 143), (0, 0), (0, 0), (0, 0), (0, 0), (0, 0), (0, 0), (0, 0), (0, 0), (0, 0), (0, 0), (0, 0)]
def pairsD : DataW Unit := .agg (pairsZ.map fun z => .agg [.lit (.int .u8 z.1), .lit (.int .u8 z.2)])
def firstZ : List Int := Go.Pinned.utf8FirstZ.map fun n => Int.ofNat n
def utfL : List (Nat × List Value) := [(0, firstZ.map fun z => Value.int .u8 z), (1, pairsZ.flatMap fun z => [Value.int .u8 z.1, Value.int .u8 z.2])]
theorem laid_var {P : Program} {W : World} : ∀ {l : List (String × DataW Unit)} {ps : List MemPlace}, DataW.LaidVars P W l ps → ∀ {n : String} {d : DataW Unit}, (n, d) ∈ l →
    ∃ g t cs fuel p, P.globalNamed n = some g ∧ (P.globals[g]?).map (·.type) = some t ∧ W.var? P n = some cs ∧ DataW.trod (fun _ => ()) P W 0 (fun _ => true) false fuel t cs.toList = some (d, p)
  | [], _, _, _, _, h => by cases h
  | (n', d') :: r, ps, hv, n, d, h => by
    obtain ⟨g, t, cs, fuel, p, q, h1, h2, h3, h4, h5, _⟩ := hv
    rcases List.mem_cons.1 h with he | h
    · injection he with e1 e2; subst e1; subst e2
      exact ⟨g, t, cs, fuel, p, h1, h2, h3, h4⟩
    · exact laid_var h5 h
theorem first_eq : Go.Pinned.utf8First = Go.Lib.tabData .u8 firstZ := by kernel_rfl
theorem first_named : Tryd.prog.globalNamed "unicode/utf8.first" = some 0 := by kernel_rfl
theorem ranges_named : Tryd.prog.globalNamed "unicode/utf8.acceptRanges" = some 1 := by kernel_rfl
theorem utf_laid {l : List (String × DataW Unit)} {W : World} (hL : laidMet Tryd.prog l W) (h1 : ("unicode/utf8.first", Go.Pinned.utf8First) ∈ l) (h2 : ("unicode/utf8.acceptRanges", pairsD) ∈ l) : Laid W utfL := by
  obtain ⟨ps, hv, _, _⟩ := hL
  intro p hp
  rcases List.mem_cons.1 hp with rfl | hp
  · obtain ⟨g, t, cs, fuel, q, e1, e2, e3, e4⟩ := laid_var hv h1
    obtain rfl := Option.some.inj (first_named.symm.trans e1)
    obtain rfl := Option.some.inj ((show (Tryd.prog.globals[0]?).map (·.type) = some 46 by kernel_rfl).symm.trans e2)
    rw [first_eq] at e4
    have e5 := Go.Lib.cells_of_tab Tryd.underlying46 Tryd.underlying5 (by kernel_rfl) (by kernel_rfl) e4
    have := row_of_var first_named e3
    rw [← Array.toArray_toList (xs := cs), e5] at this
    exact this
  · obtain rfl := List.mem_singleton.1 hp
    obtain ⟨g, t, cs, fuel, q, e1, e2, e3, e4⟩ := laid_var hv h2
    obtain rfl := Option.some.inj (ranges_named.symm.trans e1)
    obtain rfl := Option.some.inj ((show (Tryd.prog.globals[1]?).map (·.type) = some 56 by kernel_rfl).symm.trans e2)
    have e5 := cells_of_pairs Tryd.underlying56 Tryd.underlying55 Tryd.underlying5 Tryd.underlying5 ⟨rfl, rfl⟩ (by kernel_rfl) (by kernel_rfl) (by kernel_rfl) (by kernel_rfl) e4
    have := row_of_var ranges_named e3
    rw [← Array.toArray_toList (xs := cs), e5] at this
    exact this
end Go.Proofs.YtklciidffdnglaaDoor
