/-
  No cell of these rows narrows 'for every input' (looked for: loops, veiled, ifaces, maps, wideKeys, modest, calm, conditions, laid).
  DERIVED. THE GIVEN ROWS OF THIS SEAT. 12 by the template 'for every input the law returns true; each argument reads behind the call as it read before'; 0 by the template 'total and deterministic' (their statements: YtcjhfgjgmkfmnaaTotals.lean).
  GIVEN WITH THE SEED: the statements are not yours to turn. If you find one false, say at which input.
  Laid BY PROGRAM, IN A SANDBOX (cutbox-rows.mjs): the forced cells as the released guide's own fill.sh prints them over the translation 830210a28f6700a7… (all of the seat's roots in one cut). By AI agents, Wed Nov 11 2026. No macro, syntax, notation, axiom, sorry.
-/
import Derived.Test.YtcjhfgjgmkfmnaaChecked
import GoSem.Claim
import GoSem.ClaimJoined
import GoSem.ClaimMapViews
import Derived.JoinedTies
import Derived.KernelRfl
namespace Go.Proofs.Ytcjhfgjgmkfmnaa
/- THE CELL 'sum', in the pinned program and in every row, IS THE sha256 OF THE DUMP (.gsa) THAT YtcjhfgjgmkfmnaaProg.lean LOADS. Nothing in Lean hashes anything: it is a label: what it is worth is what the hold of that sum in a sandbox is worth. -/
noncomputable def Try.pinned : Pinned := { name := "ytcjhfgjgmkfmnaa", sum := "830210a28f6700a709122a509722d7f7e8ab8ddbc2b1f6d16dbece6bbbe22da7", checked := Try.checked }
namespace Rows
def none {H : Type} : Left H := { results := [], args := [] }

/-- 'dioptralaw08.CompareScales': WHATEVER THE INPUT: true; the input reads as it did. -/
def compareScalesSpec : ChangeSpec := { name := "compareScales", fn := fun _ => fun
  | [d1, d2] => { results := [.lit (.bool true)], args := [d1, d2] }
  | _ => none }
def compareScalesRow : OpenClaim := { program := "ytcjhfgjgmkfmnaa", sum := "830210a28f6700a709122a509722d7f7e8ab8ddbc2b1f6d16dbece6bbbe22da7", func := "dioptra/dioptralaw08.CompareScales", spec := "compareScales", inPlace := ["math.Float64frombits", "math.Float64bits"], recurses := true, apart := false }
def CompareScalesSaid : Prop := compareScalesRow.holds Try.pinned (OpenSpec.ofChange compareScalesSpec)

/-- ITS FALSE NEIGHBOUR: 'it returns false'. Refute it at one input. -/
def compareScalesWrong : ChangeSpec := { name := "compareScales", fn := fun _ => fun
  | [d1, d2] => { results := [.lit (.bool false)], args := [d1, d2] }
  | _ => none }
def CompareScalesWrongFalsely : Prop := compareScalesRow.holds Try.pinned (OpenSpec.ofChange compareScalesWrong)

/-- 'dioptralaw09.VectorRight': WHATEVER THE INPUT: true; the input reads as it did. -/
def vectorRightSpec : ChangeSpec := { name := "vectorRight", fn := fun _ => fun
  | [d] => { results := [.lit (.bool true)], args := [d] }
  | _ => none }
def vectorRightRow : OpenClaim := { program := "ytcjhfgjgmkfmnaa", sum := "830210a28f6700a709122a509722d7f7e8ab8ddbc2b1f6d16dbece6bbbe22da7", func := "dioptra/dioptralaw09.VectorRight", spec := "vectorRight", inPlace := ["math/bits.Sub64"], recurses := true, apart := false }
def VectorRightSaid : Prop := vectorRightRow.holds Try.pinned (OpenSpec.ofChange vectorRightSpec)

/-- ITS FALSE NEIGHBOUR: 'it returns false'. Refute it at one input. -/
def vectorRightWrong : ChangeSpec := { name := "vectorRight", fn := fun _ => fun
  | [d] => { results := [.lit (.bool false)], args := [d] }
  | _ => none }
def VectorRightWrongFalsely : Prop := vectorRightRow.holds Try.pinned (OpenSpec.ofChange vectorRightWrong)

/-- 'dioptralaw09.VectorOrder': WHATEVER THE INPUT: true; the input reads as it did. -/
def vectorOrderSpec : ChangeSpec := { name := "vectorOrder", fn := fun _ => fun
  | [d1, d2] => { results := [.lit (.bool true)], args := [d1, d2] }
  | _ => none }
def vectorOrderRow : OpenClaim := { program := "ytcjhfgjgmkfmnaa", sum := "830210a28f6700a709122a509722d7f7e8ab8ddbc2b1f6d16dbece6bbbe22da7", func := "dioptra/dioptralaw09.VectorOrder", spec := "vectorOrder", inPlace := ["math/bits.Sub64"], recurses := true, apart := false }
def VectorOrderSaid : Prop := vectorOrderRow.holds Try.pinned (OpenSpec.ofChange vectorOrderSpec)

/-- ITS FALSE NEIGHBOUR: 'it returns false'. Refute it at one input. -/
def vectorOrderWrong : ChangeSpec := { name := "vectorOrder", fn := fun _ => fun
  | [d1, d2] => { results := [.lit (.bool false)], args := [d1, d2] }
  | _ => none }
def VectorOrderWrongFalsely : Prop := vectorOrderRow.holds Try.pinned (OpenSpec.ofChange vectorOrderWrong)

/-- 'dioptralaw09.VectorDots': WHATEVER THE INPUT: true; the input reads as it did. -/
def vectorDotsSpec : ChangeSpec := { name := "vectorDots", fn := fun _ => fun
  | [d1, d2] => { results := [.lit (.bool true)], args := [d1, d2] }
  | _ => none }
def vectorDotsRow : OpenClaim := { program := "ytcjhfgjgmkfmnaa", sum := "830210a28f6700a709122a509722d7f7e8ab8ddbc2b1f6d16dbece6bbbe22da7", func := "dioptra/dioptralaw09.VectorDots", spec := "vectorDots", inPlace := ["math/bits.Sub64", "math.Float64frombits", "math.Float64bits"], recurses := true, apart := false }
def VectorDotsSaid : Prop := vectorDotsRow.holds Try.pinned (OpenSpec.ofChange vectorDotsSpec)

/-- ITS FALSE NEIGHBOUR: 'it returns false'. Refute it at one input. -/
def vectorDotsWrong : ChangeSpec := { name := "vectorDots", fn := fun _ => fun
  | [d1, d2] => { results := [.lit (.bool false)], args := [d1, d2] }
  | _ => none }
def VectorDotsWrongFalsely : Prop := vectorDotsRow.holds Try.pinned (OpenSpec.ofChange vectorDotsWrong)

/-- 'dioptralaw09.VectorAxpys': WHATEVER THE INPUT: true; the input reads as it did. -/
def vectorAxpysSpec : ChangeSpec := { name := "vectorAxpys", fn := fun _ => fun
  | [d1, d2, d3] => { results := [.lit (.bool true)], args := [d1, d2, d3] }
  | _ => none }
def vectorAxpysRow : OpenClaim := { program := "ytcjhfgjgmkfmnaa", sum := "830210a28f6700a709122a509722d7f7e8ab8ddbc2b1f6d16dbece6bbbe22da7", func := "dioptra/dioptralaw09.VectorAxpys", spec := "vectorAxpys", inPlace := ["math.Float64frombits", "math.Float64bits", "math/bits.Sub64"], unfollowed := true, recurses := true, apart := false }
def VectorAxpysSaid : Prop := vectorAxpysRow.holds Try.pinned (OpenSpec.ofChange vectorAxpysSpec)

/-- ITS FALSE NEIGHBOUR: 'it returns false'. Refute it at one input. -/
def vectorAxpysWrong : ChangeSpec := { name := "vectorAxpys", fn := fun _ => fun
  | [d1, d2, d3] => { results := [.lit (.bool false)], args := [d1, d2, d3] }
  | _ => none }
def VectorAxpysWrongFalsely : Prop := vectorAxpysRow.holds Try.pinned (OpenSpec.ofChange vectorAxpysWrong)

/-- 'dioptralaw12.GivensOne': WHATEVER THE INPUT: true; the input reads as it did. -/
def givensOneSpec : ChangeSpec := { name := "givensOne", fn := fun _ => fun
  | [d1, d2] => { results := [.lit (.bool true)], args := [d1, d2] }
  | _ => none }
def givensOneRow : OpenClaim := { program := "ytcjhfgjgmkfmnaa", sum := "830210a28f6700a709122a509722d7f7e8ab8ddbc2b1f6d16dbece6bbbe22da7", func := "dioptra/dioptralaw12.GivensOne", spec := "givensOne", inPlace := ["math/bits.Sub64"], recurses := true, apart := false }
def GivensOneSaid : Prop := givensOneRow.holds Try.pinned (OpenSpec.ofChange givensOneSpec)

/-- ITS FALSE NEIGHBOUR: 'it returns false'. Refute it at one input. -/
def givensOneWrong : ChangeSpec := { name := "givensOne", fn := fun _ => fun
  | [d1, d2] => { results := [.lit (.bool false)], args := [d1, d2] }
  | _ => none }
def GivensOneWrongFalsely : Prop := givensOneRow.holds Try.pinned (OpenSpec.ofChange givensOneWrong)

/-- 'dioptralaw12.GivensRight': WHATEVER THE INPUT: true; the input reads as it did. -/
def givensRightSpec : ChangeSpec := { name := "givensRight", fn := fun _ => fun
  | [d1, d2] => { results := [.lit (.bool true)], args := [d1, d2] }
  | _ => none }
def givensRightRow : OpenClaim := { program := "ytcjhfgjgmkfmnaa", sum := "830210a28f6700a709122a509722d7f7e8ab8ddbc2b1f6d16dbece6bbbe22da7", func := "dioptra/dioptralaw12.GivensRight", spec := "givensRight", inPlace := ["math/bits.Sub64"], recurses := true, apart := false }
def GivensRightSaid : Prop := givensRightRow.holds Try.pinned (OpenSpec.ofChange givensRightSpec)

/-- ITS FALSE NEIGHBOUR: 'it returns false'. Refute it at one input. -/
def givensRightWrong : ChangeSpec := { name := "givensRight", fn := fun _ => fun
  | [d1, d2] => { results := [.lit (.bool false)], args := [d1, d2] }
  | _ => none }
def GivensRightWrongFalsely : Prop := givensRightRow.holds Try.pinned (OpenSpec.ofChange givensRightWrong)

/-- 'dioptralaw12.GivensKeeps': WHATEVER THE INPUT: true; the input reads as it did. -/
def givensKeepsSpec : ChangeSpec := { name := "givensKeeps", fn := fun _ => fun
  | [d1, d2, d3] => { results := [.lit (.bool true)], args := [d1, d2, d3] }
  | _ => none }
def givensKeepsRow : OpenClaim := { program := "ytcjhfgjgmkfmnaa", sum := "830210a28f6700a709122a509722d7f7e8ab8ddbc2b1f6d16dbece6bbbe22da7", func := "dioptra/dioptralaw12.GivensKeeps", spec := "givensKeeps", inPlace := ["math/bits.Sub64"], recurses := true, apart := false }
def GivensKeepsSaid : Prop := givensKeepsRow.holds Try.pinned (OpenSpec.ofChange givensKeepsSpec)

/-- ITS FALSE NEIGHBOUR: 'it returns false'. Refute it at one input. -/
def givensKeepsWrong : ChangeSpec := { name := "givensKeeps", fn := fun _ => fun
  | [d1, d2, d3] => { results := [.lit (.bool false)], args := [d1, d2, d3] }
  | _ => none }
def GivensKeepsWrongFalsely : Prop := givensKeepsRow.holds Try.pinned (OpenSpec.ofChange givensKeepsWrong)

/-- 'dioptralaw09.VectorSigns': WHATEVER THE INPUT: true; the input reads as it did. -/
def vectorSignsSpec : ChangeSpec := { name := "vectorSigns", fn := fun _ => fun
  | [d1, d2, d3] => { results := [.lit (.bool true)], args := [d1, d2, d3] }
  | _ => none }
def vectorSignsRow : OpenClaim := { program := "ytcjhfgjgmkfmnaa", sum := "830210a28f6700a709122a509722d7f7e8ab8ddbc2b1f6d16dbece6bbbe22da7", func := "dioptra/dioptralaw09.VectorSigns", spec := "vectorSigns", inPlace := ["math/bits.Sub64", "math.Float64frombits", "math.Float64bits"], recurses := true, apart := false }
def VectorSignsSaid : Prop := vectorSignsRow.holds Try.pinned (OpenSpec.ofChange vectorSignsSpec)

/-- ITS FALSE NEIGHBOUR: 'it returns false'. Refute it at one input. -/
def vectorSignsWrong : ChangeSpec := { name := "vectorSigns", fn := fun _ => fun
  | [d1, d2, d3] => { results := [.lit (.bool false)], args := [d1, d2, d3] }
  | _ => none }
def VectorSignsWrongFalsely : Prop := vectorSignsRow.holds Try.pinned (OpenSpec.ofChange vectorSignsWrong)

/-- 'dioptralaw12.GivensRows': WHATEVER THE INPUT: true; the input reads as it did. -/
def givensRowsSpec : ChangeSpec := { name := "givensRows", fn := fun _ => fun
  | [d1, d2, d3] => { results := [.lit (.bool true)], args := [d1, d2, d3] }
  | _ => none }
def givensRowsRow : OpenClaim := { program := "ytcjhfgjgmkfmnaa", sum := "830210a28f6700a709122a509722d7f7e8ab8ddbc2b1f6d16dbece6bbbe22da7", func := "dioptra/dioptralaw12.GivensRows", spec := "givensRows", inPlace := ["math/bits.Sub64", "math.Float64frombits", "math.Float64bits"], unfollowed := true, recurses := true, apart := false }
def GivensRowsSaid : Prop := givensRowsRow.holds Try.pinned (OpenSpec.ofChange givensRowsSpec)

/-- ITS FALSE NEIGHBOUR: 'it returns false'. Refute it at one input. -/
def givensRowsWrong : ChangeSpec := { name := "givensRows", fn := fun _ => fun
  | [d1, d2, d3] => { results := [.lit (.bool false)], args := [d1, d2, d3] }
  | _ => none }
def GivensRowsWrongFalsely : Prop := givensRowsRow.holds Try.pinned (OpenSpec.ofChange givensRowsWrong)

/-- 'dioptralaw09.VectorNorms': WHATEVER THE INPUT: true; the input reads as it did. -/
def vectorNormsSpec : ChangeSpec := { name := "vectorNorms", fn := fun _ => fun
  | [d] => { results := [.lit (.bool true)], args := [d] }
  | _ => none }
def vectorNormsRow : OpenClaim := { program := "ytcjhfgjgmkfmnaa", sum := "830210a28f6700a709122a509722d7f7e8ab8ddbc2b1f6d16dbece6bbbe22da7", func := "dioptra/dioptralaw09.VectorNorms", spec := "vectorNorms", inPlace := ["math/bits.Sub64", "math.Float64frombits", "math.Float64bits", "math.sqrt"], recurses := true, apart := false }
def VectorNormsSaid : Prop := vectorNormsRow.holds Try.pinned (OpenSpec.ofChange vectorNormsSpec)

/-- ITS FALSE NEIGHBOUR: 'it returns false'. Refute it at one input. -/
def vectorNormsWrong : ChangeSpec := { name := "vectorNorms", fn := fun _ => fun
  | [d] => { results := [.lit (.bool false)], args := [d] }
  | _ => none }
def VectorNormsWrongFalsely : Prop := vectorNormsRow.holds Try.pinned (OpenSpec.ofChange vectorNormsWrong)

/-- 'dioptralaw12.GivensTurns': WHATEVER THE INPUT: true; the input reads as it did. -/
def givensTurnsSpec : ChangeSpec := { name := "givensTurns", fn := fun _ => fun
  | [d1, d2] => { results := [.lit (.bool true)], args := [d1, d2] }
  | _ => none }
def givensTurnsRow : OpenClaim := { program := "ytcjhfgjgmkfmnaa", sum := "830210a28f6700a709122a509722d7f7e8ab8ddbc2b1f6d16dbece6bbbe22da7", func := "dioptra/dioptralaw12.GivensTurns", spec := "givensTurns", inPlace := ["math/bits.Sub64", "math.Float64frombits", "math.Float64bits", "math.sqrt"], recurses := true, apart := false }
def GivensTurnsSaid : Prop := givensTurnsRow.holds Try.pinned (OpenSpec.ofChange givensTurnsSpec)

/-- ITS FALSE NEIGHBOUR: 'it returns false'. Refute it at one input. -/
def givensTurnsWrong : ChangeSpec := { name := "givensTurns", fn := fun _ => fun
  | [d1, d2] => { results := [.lit (.bool false)], args := [d1, d2] }
  | _ => none }
def GivensTurnsWrongFalsely : Prop := givensTurnsRow.holds Try.pinned (OpenSpec.ofChange givensTurnsWrong)

/- THE SECOND FORM. 'bulk': how many values and letters a reading holds, each counted each time it is reached (what is shared counts as often as it is met; a slice's spare places count too). A statement '..UptoSaid' is the law's where the arguments, and the package variables that the reading takes, are together of bulk at most 1048576: NARROWER than '..Said'. Prove '..Said' where nothing that the law and all that it calls make is longer than what came in: it says more and counts as full. Else prove '..UptoSaid'. A law counts once. -/
mutual
def uptoBulk {H : Type} : DataW H → Nat
  | .lit (.string bytes) => bytes.length + 1
  | .lit _ => 1
  | .nil => 1
  | .ptr d => uptoBulk d + 1
  | .slice elems spare => uptoBulkAll elems + uptoBulkAll spare + 1
  | .agg parts => uptoBulkAll parts + 1
  | .iface _ d => uptoBulk d + 1
  | .map entries => uptoBulkEntries entries + 1
  | .held _ => 1
def uptoBulkAll {H : Type} : List (DataW H) → Nat
  | [] => 0
  | d :: r => uptoBulk d + uptoBulkAll r
def uptoBulkEntries {H : Type} : List (Lit × DataW H) → Nat
  | [] => 0
  | x :: r => uptoBulkEntry x + uptoBulkEntries r
def uptoBulkEntry {H : Type} : Lit × DataW H → Nat
  | (.string bytes, d) => bytes.length + uptoBulk d + 1
  | (_, d) => uptoBulk d + 1
 end
def uptoSmall : (H : Type) → List (DataW H) → Bool := fun _ ds => decide (uptoBulkAll ds ≤ 1048576)
def OpenSpec.upto (s : _root_.Go.ChangeSpec) : _root_.Go.OpenSpec := { _root_.Go.OpenSpec.ofChange s with cond := some uptoSmall }

/-- 'dioptralaw08.CompareScales', WHERE WHAT IT READS IS OF BULK AT MOST 1048576: true; the input reads as it did. -/
def compareScalesUptoRow : OpenClaim := { program := "ytcjhfgjgmkfmnaa", sum := "830210a28f6700a709122a509722d7f7e8ab8ddbc2b1f6d16dbece6bbbe22da7", func := "dioptra/dioptralaw08.CompareScales", spec := "compareScales", inPlace := ["math.Float64frombits", "math.Float64bits"], recurses := true, apart := false, narrowed := true }
def CompareScalesUptoSaid : Prop := compareScalesUptoRow.holds Try.pinned (OpenSpec.upto compareScalesSpec)

/-- 'dioptralaw09.VectorRight', WHERE WHAT IT READS IS OF BULK AT MOST 1048576: true; the input reads as it did. -/
def vectorRightUptoRow : OpenClaim := { program := "ytcjhfgjgmkfmnaa", sum := "830210a28f6700a709122a509722d7f7e8ab8ddbc2b1f6d16dbece6bbbe22da7", func := "dioptra/dioptralaw09.VectorRight", spec := "vectorRight", inPlace := ["math/bits.Sub64"], recurses := true, apart := false, narrowed := true }
def VectorRightUptoSaid : Prop := vectorRightUptoRow.holds Try.pinned (OpenSpec.upto vectorRightSpec)

/-- 'dioptralaw09.VectorOrder', WHERE WHAT IT READS IS OF BULK AT MOST 1048576: true; the input reads as it did. -/
def vectorOrderUptoRow : OpenClaim := { program := "ytcjhfgjgmkfmnaa", sum := "830210a28f6700a709122a509722d7f7e8ab8ddbc2b1f6d16dbece6bbbe22da7", func := "dioptra/dioptralaw09.VectorOrder", spec := "vectorOrder", inPlace := ["math/bits.Sub64"], recurses := true, apart := false, narrowed := true }
def VectorOrderUptoSaid : Prop := vectorOrderUptoRow.holds Try.pinned (OpenSpec.upto vectorOrderSpec)

/-- 'dioptralaw09.VectorDots', WHERE WHAT IT READS IS OF BULK AT MOST 1048576: true; the input reads as it did. -/
def vectorDotsUptoRow : OpenClaim := { program := "ytcjhfgjgmkfmnaa", sum := "830210a28f6700a709122a509722d7f7e8ab8ddbc2b1f6d16dbece6bbbe22da7", func := "dioptra/dioptralaw09.VectorDots", spec := "vectorDots", inPlace := ["math/bits.Sub64", "math.Float64frombits", "math.Float64bits"], recurses := true, apart := false, narrowed := true }
def VectorDotsUptoSaid : Prop := vectorDotsUptoRow.holds Try.pinned (OpenSpec.upto vectorDotsSpec)

/-- 'dioptralaw09.VectorAxpys', WHERE WHAT IT READS IS OF BULK AT MOST 1048576: true; the input reads as it did. -/
def vectorAxpysUptoRow : OpenClaim := { program := "ytcjhfgjgmkfmnaa", sum := "830210a28f6700a709122a509722d7f7e8ab8ddbc2b1f6d16dbece6bbbe22da7", func := "dioptra/dioptralaw09.VectorAxpys", spec := "vectorAxpys", inPlace := ["math.Float64frombits", "math.Float64bits", "math/bits.Sub64"], unfollowed := true, recurses := true, apart := false, narrowed := true }
def VectorAxpysUptoSaid : Prop := vectorAxpysUptoRow.holds Try.pinned (OpenSpec.upto vectorAxpysSpec)

/-- 'dioptralaw12.GivensOne', WHERE WHAT IT READS IS OF BULK AT MOST 1048576: true; the input reads as it did. -/
def givensOneUptoRow : OpenClaim := { program := "ytcjhfgjgmkfmnaa", sum := "830210a28f6700a709122a509722d7f7e8ab8ddbc2b1f6d16dbece6bbbe22da7", func := "dioptra/dioptralaw12.GivensOne", spec := "givensOne", inPlace := ["math/bits.Sub64"], recurses := true, apart := false, narrowed := true }
def GivensOneUptoSaid : Prop := givensOneUptoRow.holds Try.pinned (OpenSpec.upto givensOneSpec)

/-- 'dioptralaw12.GivensRight', WHERE WHAT IT READS IS OF BULK AT MOST 1048576: true; the input reads as it did. -/
def givensRightUptoRow : OpenClaim := { program := "ytcjhfgjgmkfmnaa", sum := "830210a28f6700a709122a509722d7f7e8ab8ddbc2b1f6d16dbece6bbbe22da7", func := "dioptra/dioptralaw12.GivensRight", spec := "givensRight", inPlace := ["math/bits.Sub64"], recurses := true, apart := false, narrowed := true }
def GivensRightUptoSaid : Prop := givensRightUptoRow.holds Try.pinned (OpenSpec.upto givensRightSpec)

/-- 'dioptralaw12.GivensKeeps', WHERE WHAT IT READS IS OF BULK AT MOST 1048576: true; the input reads as it did. -/
def givensKeepsUptoRow : OpenClaim := { program := "ytcjhfgjgmkfmnaa", sum := "830210a28f6700a709122a509722d7f7e8ab8ddbc2b1f6d16dbece6bbbe22da7", func := "dioptra/dioptralaw12.GivensKeeps", spec := "givensKeeps", inPlace := ["math/bits.Sub64"], recurses := true, apart := false, narrowed := true }
def GivensKeepsUptoSaid : Prop := givensKeepsUptoRow.holds Try.pinned (OpenSpec.upto givensKeepsSpec)

/-- 'dioptralaw09.VectorSigns', WHERE WHAT IT READS IS OF BULK AT MOST 1048576: true; the input reads as it did. -/
def vectorSignsUptoRow : OpenClaim := { program := "ytcjhfgjgmkfmnaa", sum := "830210a28f6700a709122a509722d7f7e8ab8ddbc2b1f6d16dbece6bbbe22da7", func := "dioptra/dioptralaw09.VectorSigns", spec := "vectorSigns", inPlace := ["math/bits.Sub64", "math.Float64frombits", "math.Float64bits"], recurses := true, apart := false, narrowed := true }
def VectorSignsUptoSaid : Prop := vectorSignsUptoRow.holds Try.pinned (OpenSpec.upto vectorSignsSpec)

/-- 'dioptralaw12.GivensRows', WHERE WHAT IT READS IS OF BULK AT MOST 1048576: true; the input reads as it did. -/
def givensRowsUptoRow : OpenClaim := { program := "ytcjhfgjgmkfmnaa", sum := "830210a28f6700a709122a509722d7f7e8ab8ddbc2b1f6d16dbece6bbbe22da7", func := "dioptra/dioptralaw12.GivensRows", spec := "givensRows", inPlace := ["math/bits.Sub64", "math.Float64frombits", "math.Float64bits"], unfollowed := true, recurses := true, apart := false, narrowed := true }
def GivensRowsUptoSaid : Prop := givensRowsUptoRow.holds Try.pinned (OpenSpec.upto givensRowsSpec)

/-- 'dioptralaw09.VectorNorms', WHERE WHAT IT READS IS OF BULK AT MOST 1048576: true; the input reads as it did. -/
def vectorNormsUptoRow : OpenClaim := { program := "ytcjhfgjgmkfmnaa", sum := "830210a28f6700a709122a509722d7f7e8ab8ddbc2b1f6d16dbece6bbbe22da7", func := "dioptra/dioptralaw09.VectorNorms", spec := "vectorNorms", inPlace := ["math/bits.Sub64", "math.Float64frombits", "math.Float64bits", "math.sqrt"], recurses := true, apart := false, narrowed := true }
def VectorNormsUptoSaid : Prop := vectorNormsUptoRow.holds Try.pinned (OpenSpec.upto vectorNormsSpec)

/-- 'dioptralaw12.GivensTurns', WHERE WHAT IT READS IS OF BULK AT MOST 1048576: true; the input reads as it did. -/
def givensTurnsUptoRow : OpenClaim := { program := "ytcjhfgjgmkfmnaa", sum := "830210a28f6700a709122a509722d7f7e8ab8ddbc2b1f6d16dbece6bbbe22da7", func := "dioptra/dioptralaw12.GivensTurns", spec := "givensTurns", inPlace := ["math/bits.Sub64", "math.Float64frombits", "math.Float64bits", "math.sqrt"], recurses := true, apart := false, narrowed := true }
def GivensTurnsUptoSaid : Prop := givensTurnsUptoRow.holds Try.pinned (OpenSpec.upto givensTurnsSpec)

end Rows
end Go.Proofs.Ytcjhfgjgmkfmnaa
