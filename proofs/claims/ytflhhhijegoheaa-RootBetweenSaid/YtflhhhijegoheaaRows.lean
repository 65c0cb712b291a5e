/-
  No cell of these rows narrows 'for every input' (looked for: loops, veiled, ifaces, maps, wideKeys, modest, calm, conditions, laid).
  DERIVED. THE GIVEN ROWS OF THIS SEAT. 12 by the template 'for every input the law returns true; each argument reads behind the call as it read before'; 0 by the template 'total and deterministic' (their statements: YtflhhhijegoheaaTotals.lean).
  GIVEN WITH THE SEED: the statements are not yours to turn. If you find one false, say at which input.
  Laid BY PROGRAM, IN A SANDBOX (cutbox-rows.mjs): the forced cells as the released guide's own fill.sh prints them over the translation 3b886c29f7750a06… (all of the seat's roots in one cut). By AI agents, Wed Nov 11 2026. No macro, syntax, notation, axiom, sorry.
-/
import Derived.Test.YtflhhhijegoheaaChecked
import GoSem.Claim
import GoSem.ClaimJoined
import GoSem.ClaimMapViews
import Derived.JoinedTies
import Derived.KernelRfl
namespace Go.Proofs.Ytflhhhijegoheaa
/- THE CELL 'sum', in the pinned program and in every row, IS THE sha256 OF THE DUMP (.gsa) THAT YtflhhhijegoheaaProg.lean LOADS. Nothing in Lean hashes anything: it is a label: what it is worth is what the hold of that sum in a sandbox is worth. -/
noncomputable def Try.pinned : Pinned := { name := "ytflhhhijegoheaa", sum := "3b886c29f7750a06d32064d97d8fca4efd62d7e9788001bef69ae1699706ab7a", checked := Try.checked }
namespace Rows
def none {H : Type} : Left H := { results := [], args := [] }

/-- 'dioptralaw08.CompareTruncs': WHATEVER THE INPUT: true; the input reads as it did. -/
def compareTruncsSpec : ChangeSpec := { name := "compareTruncs", fn := fun _ => fun
  | [d] => { results := [.lit (.bool true)], args := [d] }
  | _ => none }
def compareTruncsRow : OpenClaim := { program := "ytflhhhijegoheaa", sum := "3b886c29f7750a06d32064d97d8fca4efd62d7e9788001bef69ae1699706ab7a", func := "dioptra/dioptralaw08.CompareTruncs", spec := "compareTruncs", recurses := true, apart := false }
def CompareTruncsSaid : Prop := compareTruncsRow.holds Try.pinned (OpenSpec.ofChange compareTruncsSpec)

/-- ITS FALSE NEIGHBOUR: 'it returns false'. Refute it at one input. -/
def compareTruncsWrong : ChangeSpec := { name := "compareTruncs", fn := fun _ => fun
  | [d] => { results := [.lit (.bool false)], args := [d] }
  | _ => none }
def CompareTruncsWrongFalsely : Prop := compareTruncsRow.holds Try.pinned (OpenSpec.ofChange compareTruncsWrong)

/-- 'dioptralaw08.CompareInts': WHATEVER THE INPUT: true; the input reads as it did. -/
def compareIntsSpec : ChangeSpec := { name := "compareInts", fn := fun _ => fun
  | [d] => { results := [.lit (.bool true)], args := [d] }
  | _ => none }
def compareIntsRow : OpenClaim := { program := "ytflhhhijegoheaa", sum := "3b886c29f7750a06d32064d97d8fca4efd62d7e9788001bef69ae1699706ab7a", func := "dioptra/dioptralaw08.CompareInts", spec := "compareInts", inPlace := ["math.Float64bits"], recurses := true, apart := false }
def CompareIntsSaid : Prop := compareIntsRow.holds Try.pinned (OpenSpec.ofChange compareIntsSpec)

/-- ITS FALSE NEIGHBOUR: 'it returns false'. Refute it at one input. -/
def compareIntsWrong : ChangeSpec := { name := "compareInts", fn := fun _ => fun
  | [d] => { results := [.lit (.bool false)], args := [d] }
  | _ => none }
def CompareIntsWrongFalsely : Prop := compareIntsRow.holds Try.pinned (OpenSpec.ofChange compareIntsWrong)

/-- 'dioptralaw07.RootWholes': WHATEVER THE INPUT: true; the input reads as it did. -/
def rootWholesSpec : ChangeSpec := { name := "rootWholes", fn := fun _ => fun
  | [d] => { results := [.lit (.bool true)], args := [d] }
  | _ => none }
def rootWholesRow : OpenClaim := { program := "ytflhhhijegoheaa", sum := "3b886c29f7750a06d32064d97d8fca4efd62d7e9788001bef69ae1699706ab7a", func := "dioptra/dioptralaw07.RootWholes", spec := "rootWholes", inPlace := ["math/bits.Sub64"], recurses := true, apart := false }
def RootWholesSaid : Prop := rootWholesRow.holds Try.pinned (OpenSpec.ofChange rootWholesSpec)

/-- ITS FALSE NEIGHBOUR: 'it returns false'. Refute it at one input. -/
def rootWholesWrong : ChangeSpec := { name := "rootWholes", fn := fun _ => fun
  | [d] => { results := [.lit (.bool false)], args := [d] }
  | _ => none }
def RootWholesWrongFalsely : Prop := rootWholesRow.holds Try.pinned (OpenSpec.ofChange rootWholesWrong)

/-- 'dioptralaw07.RootRoots': WHATEVER THE INPUT: true; the input reads as it did. -/
def rootRootsSpec : ChangeSpec := { name := "rootRoots", fn := fun _ => fun
  | [d] => { results := [.lit (.bool true)], args := [d] }
  | _ => none }
def rootRootsRow : OpenClaim := { program := "ytflhhhijegoheaa", sum := "3b886c29f7750a06d32064d97d8fca4efd62d7e9788001bef69ae1699706ab7a", func := "dioptra/dioptralaw07.RootRoots", spec := "rootRoots", inPlace := ["math/bits.Sub64"], recurses := true, apart := false }
def RootRootsSaid : Prop := rootRootsRow.holds Try.pinned (OpenSpec.ofChange rootRootsSpec)

/-- ITS FALSE NEIGHBOUR: 'it returns false'. Refute it at one input. -/
def rootRootsWrong : ChangeSpec := { name := "rootRoots", fn := fun _ => fun
  | [d] => { results := [.lit (.bool false)], args := [d] }
  | _ => none }
def RootRootsWrongFalsely : Prop := rootRootsRow.holds Try.pinned (OpenSpec.ofChange rootRootsWrong)

/-- 'dioptralaw07.RootSquares': WHATEVER THE INPUT: true; the input reads as it did. -/
def rootSquaresSpec : ChangeSpec := { name := "rootSquares", fn := fun _ => fun
  | [d] => { results := [.lit (.bool true)], args := [d] }
  | _ => none }
def rootSquaresRow : OpenClaim := { program := "ytflhhhijegoheaa", sum := "3b886c29f7750a06d32064d97d8fca4efd62d7e9788001bef69ae1699706ab7a", func := "dioptra/dioptralaw07.RootSquares", spec := "rootSquares", inPlace := ["math/bits.Sub64"], recurses := true, apart := false }
def RootSquaresSaid : Prop := rootSquaresRow.holds Try.pinned (OpenSpec.ofChange rootSquaresSpec)

/-- ITS FALSE NEIGHBOUR: 'it returns false'. Refute it at one input. -/
def rootSquaresWrong : ChangeSpec := { name := "rootSquares", fn := fun _ => fun
  | [d] => { results := [.lit (.bool false)], args := [d] }
  | _ => none }
def RootSquaresWrongFalsely : Prop := rootSquaresRow.holds Try.pinned (OpenSpec.ofChange rootSquaresWrong)

/-- 'dioptralaw07.RootBetween': WHATEVER THE INPUT: true; the input reads as it did. -/
def rootBetweenSpec : ChangeSpec := { name := "rootBetween", fn := fun _ => fun
  | [d] => { results := [.lit (.bool true)], args := [d] }
  | _ => none }
def rootBetweenRow : OpenClaim := { program := "ytflhhhijegoheaa", sum := "3b886c29f7750a06d32064d97d8fca4efd62d7e9788001bef69ae1699706ab7a", func := "dioptra/dioptralaw07.RootBetween", spec := "rootBetween", inPlace := ["math/bits.Sub64"], recurses := true, apart := false }
def RootBetweenSaid : Prop := rootBetweenRow.holds Try.pinned (OpenSpec.ofChange rootBetweenSpec)

/-- ITS FALSE NEIGHBOUR: 'it returns false'. Refute it at one input. -/
def rootBetweenWrong : ChangeSpec := { name := "rootBetween", fn := fun _ => fun
  | [d] => { results := [.lit (.bool false)], args := [d] }
  | _ => none }
def RootBetweenWrongFalsely : Prop := rootBetweenRow.holds Try.pinned (OpenSpec.ofChange rootBetweenWrong)

/-- 'dioptralaw07.RootRises': WHATEVER THE INPUT: true; the input reads as it did. -/
def rootRisesSpec : ChangeSpec := { name := "rootRises", fn := fun _ => fun
  | [d1, d2] => { results := [.lit (.bool true)], args := [d1, d2] }
  | _ => none }
def rootRisesRow : OpenClaim := { program := "ytflhhhijegoheaa", sum := "3b886c29f7750a06d32064d97d8fca4efd62d7e9788001bef69ae1699706ab7a", func := "dioptra/dioptralaw07.RootRises", spec := "rootRises", inPlace := ["math/bits.Sub64", "math.Float64frombits"], recurses := true, apart := false }
def RootRisesSaid : Prop := rootRisesRow.holds Try.pinned (OpenSpec.ofChange rootRisesSpec)

/-- ITS FALSE NEIGHBOUR: 'it returns false'. Refute it at one input. -/
def rootRisesWrong : ChangeSpec := { name := "rootRises", fn := fun _ => fun
  | [d1, d2] => { results := [.lit (.bool false)], args := [d1, d2] }
  | _ => none }
def RootRisesWrongFalsely : Prop := rootRisesRow.holds Try.pinned (OpenSpec.ofChange rootRisesWrong)

/-- 'dioptralaw08.CompareOrders': WHATEVER THE INPUT: true; the input reads as it did. -/
def compareOrdersSpec : ChangeSpec := { name := "compareOrders", fn := fun _ => fun
  | [d1, d2] => { results := [.lit (.bool true)], args := [d1, d2] }
  | _ => none }
def compareOrdersRow : OpenClaim := { program := "ytflhhhijegoheaa", sum := "3b886c29f7750a06d32064d97d8fca4efd62d7e9788001bef69ae1699706ab7a", func := "dioptra/dioptralaw08.CompareOrders", spec := "compareOrders", inPlace := ["math.Float64frombits"], recurses := true, apart := false }
def CompareOrdersSaid : Prop := compareOrdersRow.holds Try.pinned (OpenSpec.ofChange compareOrdersSpec)

/-- ITS FALSE NEIGHBOUR: 'it returns false'. Refute it at one input. -/
def compareOrdersWrong : ChangeSpec := { name := "compareOrders", fn := fun _ => fun
  | [d1, d2] => { results := [.lit (.bool false)], args := [d1, d2] }
  | _ => none }
def CompareOrdersWrongFalsely : Prop := compareOrdersRow.holds Try.pinned (OpenSpec.ofChange compareOrdersWrong)

/-- 'dioptralaw08.CompareExps': WHATEVER THE INPUT: true; the input reads as it did. -/
def compareExpsSpec : ChangeSpec := { name := "compareExps", fn := fun _ => fun
  | [d] => { results := [.lit (.bool true)], args := [d] }
  | _ => none }
def compareExpsRow : OpenClaim := { program := "ytflhhhijegoheaa", sum := "3b886c29f7750a06d32064d97d8fca4efd62d7e9788001bef69ae1699706ab7a", func := "dioptra/dioptralaw08.CompareExps", spec := "compareExps", recurses := true, apart := false }
def CompareExpsSaid : Prop := compareExpsRow.holds Try.pinned (OpenSpec.ofChange compareExpsSpec)

/-- ITS FALSE NEIGHBOUR: 'it returns false'. Refute it at one input. -/
def compareExpsWrong : ChangeSpec := { name := "compareExps", fn := fun _ => fun
  | [d] => { results := [.lit (.bool false)], args := [d] }
  | _ => none }
def CompareExpsWrongFalsely : Prop := compareExpsRow.holds Try.pinned (OpenSpec.ofChange compareExpsWrong)

/-- 'dioptralaw08.CompareBack': WHATEVER THE INPUT: true; the input reads as it did. -/
def compareBackSpec : ChangeSpec := { name := "compareBack", fn := fun _ => fun
  | [d1, d2] => { results := [.lit (.bool true)], args := [d1, d2] }
  | _ => none }
def compareBackRow : OpenClaim := { program := "ytflhhhijegoheaa", sum := "3b886c29f7750a06d32064d97d8fca4efd62d7e9788001bef69ae1699706ab7a", func := "dioptra/dioptralaw08.CompareBack", spec := "compareBack", recurses := true, apart := false }
def CompareBackSaid : Prop := compareBackRow.holds Try.pinned (OpenSpec.ofChange compareBackSpec)

/-- ITS FALSE NEIGHBOUR: 'it returns false'. Refute it at one input. -/
def compareBackWrong : ChangeSpec := { name := "compareBack", fn := fun _ => fun
  | [d1, d2] => { results := [.lit (.bool false)], args := [d1, d2] }
  | _ => none }
def CompareBackWrongFalsely : Prop := compareBackRow.holds Try.pinned (OpenSpec.ofChange compareBackWrong)

/-- 'dioptralaw08.CompareScales': WHATEVER THE INPUT: true; the input reads as it did. -/
def compareScalesSpec : ChangeSpec := { name := "compareScales", fn := fun _ => fun
  | [d1, d2] => { results := [.lit (.bool true)], args := [d1, d2] }
  | _ => none }
def compareScalesRow : OpenClaim := { program := "ytflhhhijegoheaa", sum := "3b886c29f7750a06d32064d97d8fca4efd62d7e9788001bef69ae1699706ab7a", func := "dioptra/dioptralaw08.CompareScales", spec := "compareScales", inPlace := ["math.Float64frombits", "math.Float64bits"], recurses := true, apart := false }
def CompareScalesSaid : Prop := compareScalesRow.holds Try.pinned (OpenSpec.ofChange compareScalesSpec)

/-- ITS FALSE NEIGHBOUR: 'it returns false'. Refute it at one input. -/
def compareScalesWrong : ChangeSpec := { name := "compareScales", fn := fun _ => fun
  | [d1, d2] => { results := [.lit (.bool false)], args := [d1, d2] }
  | _ => none }
def CompareScalesWrongFalsely : Prop := compareScalesRow.holds Try.pinned (OpenSpec.ofChange compareScalesWrong)

/-- 'dioptralaw07.RootFloats': WHATEVER THE INPUT: true; the input reads as it did. -/
def rootFloatsSpec : ChangeSpec := { name := "rootFloats", fn := fun _ => fun
  | [d] => { results := [.lit (.bool true)], args := [d] }
  | _ => none }
def rootFloatsRow : OpenClaim := { program := "ytflhhhijegoheaa", sum := "3b886c29f7750a06d32064d97d8fca4efd62d7e9788001bef69ae1699706ab7a", func := "dioptra/dioptralaw07.RootFloats", spec := "rootFloats", inPlace := ["math/bits.Sub64", "math.Float64frombits", "math.sqrt", "math.Float64bits"], recurses := true, apart := false }
def RootFloatsSaid : Prop := rootFloatsRow.holds Try.pinned (OpenSpec.ofChange rootFloatsSpec)

/-- ITS FALSE NEIGHBOUR: 'it returns false'. Refute it at one input. -/
def rootFloatsWrong : ChangeSpec := { name := "rootFloats", fn := fun _ => fun
  | [d] => { results := [.lit (.bool false)], args := [d] }
  | _ => none }
def RootFloatsWrongFalsely : Prop := rootFloatsRow.holds Try.pinned (OpenSpec.ofChange rootFloatsWrong)

/- THE SECOND FORM. 'bulk': how many values and letters a reading holds, each counted each time it is reached (what is shared counts as often as it is met; a slice's spare places count too). A statement '..UptoSaid' is the law's where the arguments, and the package variables that the reading takes, are together of bulk at most 1048576: NARROWER than '..Said'. Prove '..Said' where nothing that the law and all that it calls make is longer than what came in: it says more and counts as full. Else prove '..UptoSaid'. A law counts once. -/
mutual
def uptoBulk {H : Type} : DataW H → Nat
  | .lit (.string bytes) => bytes.length + 1
  | .lit _ => 1
  | .nil => 1
  | .ptr d => uptoBulk d + 1
  | .slice elems spare => uptoBulkAll elems + uptoBulkAll spare + 1
  | .agg parts => uptoBulkAll parts + 1
  | .iface _ d => uptoBulk d + 1
  | .map entries => uptoBulkEntries entries + 1
  | .held _ => 1
def uptoBulkAll {H : Type} : List (DataW H) → Nat
  | [] => 0
  | d :: r => uptoBulk d + uptoBulkAll r
def uptoBulkEntries {H : Type} : List (Lit × DataW H) → Nat
  | [] => 0
  | x :: r => uptoBulkEntry x + uptoBulkEntries r
def uptoBulkEntry {H : Type} : Lit × DataW H → Nat
  | (.string bytes, d) => bytes.length + uptoBulk d + 1
  | (_, d) => uptoBulk d + 1
 end
def uptoSmall : (H : Type) → List (DataW H) → Bool := fun _ ds => decide (uptoBulkAll ds ≤ 1048576)
def OpenSpec.upto (s : _root_.Go.ChangeSpec) : _root_.Go.OpenSpec := { _root_.Go.OpenSpec.ofChange s with cond := some uptoSmall }

/-- 'dioptralaw08.CompareTruncs', WHERE WHAT IT READS IS OF BULK AT MOST 1048576: true; the input reads as it did. -/
def compareTruncsUptoRow : OpenClaim := { program := "ytflhhhijegoheaa", sum := "3b886c29f7750a06d32064d97d8fca4efd62d7e9788001bef69ae1699706ab7a", func := "dioptra/dioptralaw08.CompareTruncs", spec := "compareTruncs", recurses := true, apart := false, narrowed := true }
def CompareTruncsUptoSaid : Prop := compareTruncsUptoRow.holds Try.pinned (OpenSpec.upto compareTruncsSpec)

/-- 'dioptralaw08.CompareInts', WHERE WHAT IT READS IS OF BULK AT MOST 1048576: true; the input reads as it did. -/
def compareIntsUptoRow : OpenClaim := { program := "ytflhhhijegoheaa", sum := "3b886c29f7750a06d32064d97d8fca4efd62d7e9788001bef69ae1699706ab7a", func := "dioptra/dioptralaw08.CompareInts", spec := "compareInts", inPlace := ["math.Float64bits"], recurses := true, apart := false, narrowed := true }
def CompareIntsUptoSaid : Prop := compareIntsUptoRow.holds Try.pinned (OpenSpec.upto compareIntsSpec)

/-- 'dioptralaw07.RootWholes', WHERE WHAT IT READS IS OF BULK AT MOST 1048576: true; the input reads as it did. -/
def rootWholesUptoRow : OpenClaim := { program := "ytflhhhijegoheaa", sum := "3b886c29f7750a06d32064d97d8fca4efd62d7e9788001bef69ae1699706ab7a", func := "dioptra/dioptralaw07.RootWholes", spec := "rootWholes", inPlace := ["math/bits.Sub64"], recurses := true, apart := false, narrowed := true }
def RootWholesUptoSaid : Prop := rootWholesUptoRow.holds Try.pinned (OpenSpec.upto rootWholesSpec)

/-- 'dioptralaw07.RootRoots', WHERE WHAT IT READS IS OF BULK AT MOST 1048576: true; the input reads as it did. -/
def rootRootsUptoRow : OpenClaim := { program := "ytflhhhijegoheaa", sum := "3b886c29f7750a06d32064d97d8fca4efd62d7e9788001bef69ae1699706ab7a", func := "dioptra/dioptralaw07.RootRoots", spec := "rootRoots", inPlace := ["math/bits.Sub64"], recurses := true, apart := false, narrowed := true }
def RootRootsUptoSaid : Prop := rootRootsUptoRow.holds Try.pinned (OpenSpec.upto rootRootsSpec)

/-- 'dioptralaw07.RootSquares', WHERE WHAT IT READS IS OF BULK AT MOST 1048576: true; the input reads as it did. -/
def rootSquaresUptoRow : OpenClaim := { program := "ytflhhhijegoheaa", sum := "3b886c29f7750a06d32064d97d8fca4efd62d7e9788001bef69ae1699706ab7a", func := "dioptra/dioptralaw07.RootSquares", spec := "rootSquares", inPlace := ["math/bits.Sub64"], recurses := true, apart := false, narrowed := true }
def RootSquaresUptoSaid : Prop := rootSquaresUptoRow.holds Try.pinned (OpenSpec.upto rootSquaresSpec)

/-- 'dioptralaw07.RootBetween', WHERE WHAT IT READS IS OF BULK AT MOST 1048576: true; the input reads as it did. -/
def rootBetweenUptoRow : OpenClaim := { program := "ytflhhhijegoheaa", sum := "3b886c29f7750a06d32064d97d8fca4efd62d7e9788001bef69ae1699706ab7a", func := "dioptra/dioptralaw07.RootBetween", spec := "rootBetween", inPlace := ["math/bits.Sub64"], recurses := true, apart := false, narrowed := true }
def RootBetweenUptoSaid : Prop := rootBetweenUptoRow.holds Try.pinned (OpenSpec.upto rootBetweenSpec)

/-- 'dioptralaw07.RootRises', WHERE WHAT IT READS IS OF BULK AT MOST 1048576: true; the input reads as it did. -/
def rootRisesUptoRow : OpenClaim := { program := "ytflhhhijegoheaa", sum := "3b886c29f7750a06d32064d97d8fca4efd62d7e9788001bef69ae1699706ab7a", func := "dioptra/dioptralaw07.RootRises", spec := "rootRises", inPlace := ["math/bits.Sub64", "math.Float64frombits"], recurses := true, apart := false, narrowed := true }
def RootRisesUptoSaid : Prop := rootRisesUptoRow.holds Try.pinned (OpenSpec.upto rootRisesSpec)

/-- 'dioptralaw08.CompareOrders', WHERE WHAT IT READS IS OF BULK AT MOST 1048576: true; the input reads as it did. -/
def compareOrdersUptoRow : OpenClaim := { program := "ytflhhhijegoheaa", sum := "3b886c29f7750a06d32064d97d8fca4efd62d7e9788001bef69ae1699706ab7a", func := "dioptra/dioptralaw08.CompareOrders", spec := "compareOrders", inPlace := ["math.Float64frombits"], recurses := true, apart := false, narrowed := true }
def CompareOrdersUptoSaid : Prop := compareOrdersUptoRow.holds Try.pinned (OpenSpec.upto compareOrdersSpec)

/-- 'dioptralaw08.CompareExps', WHERE WHAT IT READS IS OF BULK AT MOST 1048576: true; the input reads as it did. -/
def compareExpsUptoRow : OpenClaim := { program := "ytflhhhijegoheaa", sum := "3b886c29f7750a06d32064d97d8fca4efd62d7e9788001bef69ae1699706ab7a", func := "dioptra/dioptralaw08.CompareExps", spec := "compareExps", recurses := true, apart := false, narrowed := true }
def CompareExpsUptoSaid : Prop := compareExpsUptoRow.holds Try.pinned (OpenSpec.upto compareExpsSpec)

/-- 'dioptralaw08.CompareBack', WHERE WHAT IT READS IS OF BULK AT MOST 1048576: true; the input reads as it did. -/
def compareBackUptoRow : OpenClaim := { program := "ytflhhhijegoheaa", sum := "3b886c29f7750a06d32064d97d8fca4efd62d7e9788001bef69ae1699706ab7a", func := "dioptra/dioptralaw08.CompareBack", spec := "compareBack", recurses := true, apart := false, narrowed := true }
def CompareBackUptoSaid : Prop := compareBackUptoRow.holds Try.pinned (OpenSpec.upto compareBackSpec)

/-- 'dioptralaw08.CompareScales', WHERE WHAT IT READS IS OF BULK AT MOST 1048576: true; the input reads as it did. -/
def compareScalesUptoRow : OpenClaim := { program := "ytflhhhijegoheaa", sum := "3b886c29f7750a06d32064d97d8fca4efd62d7e9788001bef69ae1699706ab7a", func := "dioptra/dioptralaw08.CompareScales", spec := "compareScales", inPlace := ["math.Float64frombits", "math.Float64bits"], recurses := true, apart := false, narrowed := true }
def CompareScalesUptoSaid : Prop := compareScalesUptoRow.holds Try.pinned (OpenSpec.upto compareScalesSpec)

/-- 'dioptralaw07.RootFloats', WHERE WHAT IT READS IS OF BULK AT MOST 1048576: true; the input reads as it did. -/
def rootFloatsUptoRow : OpenClaim := { program := "ytflhhhijegoheaa", sum := "3b886c29f7750a06d32064d97d8fca4efd62d7e9788001bef69ae1699706ab7a", func := "dioptra/dioptralaw07.RootFloats", spec := "rootFloats", inPlace := ["math/bits.Sub64", "math.Float64frombits", "math.sqrt", "math.Float64bits"], recurses := true, apart := false, narrowed := true }
def RootFloatsUptoSaid : Prop := rootFloatsUptoRow.holds Try.pinned (OpenSpec.upto rootFloatsSpec)

end Rows
end Go.Proofs.Ytflhhhijegoheaa
