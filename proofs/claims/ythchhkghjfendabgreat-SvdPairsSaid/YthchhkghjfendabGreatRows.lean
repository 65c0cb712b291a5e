/-
  No cell of these rows narrows 'for every input' (looked for: loops, veiled, ifaces, maps, wideKeys, modest, calm, conditions, laid).
  DERIVED. THE GIVEN ROWS OF THIS SEAT. 6 by the template 'for every input the law returns true; each argument reads behind the call as it read before'; 0 by the template 'total and deterministic' (their statements: YthchhkghjfendabGreatTotals.lean).
  GIVEN WITH THE SEED: the statements are not yours to turn. If you find one false, say at which input.
  Laid BY PROGRAM, IN A SANDBOX (cutbox-rows.mjs): the forced cells as the released guide's own fill.sh prints them over the translation 455ac54d8cb1c3a2… (all of the seat's roots in one cut). By AI agents, Wed Nov 11 2026. No macro, syntax, notation, axiom, sorry.
-/
import Derived.Test.YthchhkghjfendabGreatChecked
import GoSem.Claim
import GoSem.ClaimJoined
import GoSem.ClaimMapViews
import Derived.JoinedTies
import Derived.KernelRfl
namespace Go.Proofs.YthchhkghjfendabGreat
/- THE CELL 'sum', in the pinned program and in every row, IS THE sha256 OF THE DUMP (.gsa) THAT YthchhkghjfendabGreatProg.lean LOADS. Nothing in Lean hashes anything: it is a label: what it is worth is what the hold of that sum in a sandbox is worth. -/
noncomputable def Tryz.pinned : Pinned := { name := "ythchhkghjfendabgreat", sum := "455ac54d8cb1c3a2d65b6222c7824c89b69415def39679e5755e07ad13bd7ab6", checked := Tryz.checked }
namespace Rows
def none {H : Type} : Left H := { results := [], args := [] }

/-- 'dioptralaw19.SvdTurns': WHATEVER THE INPUT: true; the input reads as it did. -/
def svdTurnsSpec : ChangeSpec := { name := "svdTurns", fn := fun _ => fun
  | [d] => { results := [.lit (.bool true)], args := [d] }
  | _ => none }
def svdTurnsRow : OpenClaim := { program := "ythchhkghjfendabgreat", sum := "455ac54d8cb1c3a2d65b6222c7824c89b69415def39679e5755e07ad13bd7ab6", func := "dioptra/dioptralaw19.SvdTurns", spec := "svdTurns", inPlace := ["math/bits.Sub64"], unfollowed := true, recurses := true, apart := false }
def SvdTurnsSaid : Prop := svdTurnsRow.holds Tryz.pinned (OpenSpec.ofChange svdTurnsSpec)

/-- ITS FALSE NEIGHBOUR: 'it returns false'. Refute it at one input. -/
def svdTurnsWrong : ChangeSpec := { name := "svdTurns", fn := fun _ => fun
  | [d] => { results := [.lit (.bool false)], args := [d] }
  | _ => none }
def SvdTurnsWrongFalsely : Prop := svdTurnsRow.holds Tryz.pinned (OpenSpec.ofChange svdTurnsWrong)

/-- 'dioptralaw19.SvdPairs': WHATEVER THE INPUT: true; the input reads as it did. -/
def svdPairsSpec : ChangeSpec := { name := "svdPairs", fn := fun _ => fun
  | [d] => { results := [.lit (.bool true)], args := [d] }
  | _ => none }
def svdPairsRow : OpenClaim := { program := "ythchhkghjfendabgreat", sum := "455ac54d8cb1c3a2d65b6222c7824c89b69415def39679e5755e07ad13bd7ab6", func := "dioptra/dioptralaw19.SvdPairs", spec := "svdPairs", inPlace := ["math/bits.Sub64"], unfollowed := true, recurses := true, apart := false }
def SvdPairsSaid : Prop := svdPairsRow.holds Tryz.pinned (OpenSpec.ofChange svdPairsSpec)

/-- ITS FALSE NEIGHBOUR: 'it returns false'. Refute it at one input. -/
def svdPairsWrong : ChangeSpec := { name := "svdPairs", fn := fun _ => fun
  | [d] => { results := [.lit (.bool false)], args := [d] }
  | _ => none }
def SvdPairsWrongFalsely : Prop := svdPairsRow.holds Tryz.pinned (OpenSpec.ofChange svdPairsWrong)

/-- 'dioptralaw16.PivotFactors': WHATEVER THE INPUT: true; the input reads as it did. -/
def pivotFactorsSpec : ChangeSpec := { name := "pivotFactors", fn := fun _ => fun
  | [d] => { results := [.lit (.bool true)], args := [d] }
  | _ => none }
def pivotFactorsRow : OpenClaim := { program := "ythchhkghjfendabgreat", sum := "455ac54d8cb1c3a2d65b6222c7824c89b69415def39679e5755e07ad13bd7ab6", func := "dioptra/dioptralaw16.PivotFactors", spec := "pivotFactors", inPlace := ["math/bits.Sub64", "math.Float64frombits", "math.Float64bits", "math.sqrt"], unfollowed := true, recurses := true, apart := false }
def PivotFactorsSaid : Prop := pivotFactorsRow.holds Tryz.pinned (OpenSpec.ofChange pivotFactorsSpec)

/-- ITS FALSE NEIGHBOUR: 'it returns false'. Refute it at one input. -/
def pivotFactorsWrong : ChangeSpec := { name := "pivotFactors", fn := fun _ => fun
  | [d] => { results := [.lit (.bool false)], args := [d] }
  | _ => none }
def PivotFactorsWrongFalsely : Prop := pivotFactorsRow.holds Tryz.pinned (OpenSpec.ofChange pivotFactorsWrong)

/-- 'dioptralaw19.SvdRanks': WHATEVER THE INPUT: true; the input reads as it did. -/
def svdRanksSpec : ChangeSpec := { name := "svdRanks", fn := fun _ => fun
  | [d] => { results := [.lit (.bool true)], args := [d] }
  | _ => none }
def svdRanksRow : OpenClaim := { program := "ythchhkghjfendabgreat", sum := "455ac54d8cb1c3a2d65b6222c7824c89b69415def39679e5755e07ad13bd7ab6", func := "dioptra/dioptralaw19.SvdRanks", spec := "svdRanks", inPlace := ["math.Float64frombits", "math.Float64bits", "math/bits.Sub64"], unfollowed := true, recurses := true, apart := false }
def SvdRanksSaid : Prop := svdRanksRow.holds Tryz.pinned (OpenSpec.ofChange svdRanksSpec)

/-- ITS FALSE NEIGHBOUR: 'it returns false'. Refute it at one input. -/
def svdRanksWrong : ChangeSpec := { name := "svdRanks", fn := fun _ => fun
  | [d] => { results := [.lit (.bool false)], args := [d] }
  | _ => none }
def SvdRanksWrongFalsely : Prop := svdRanksRow.holds Tryz.pinned (OpenSpec.ofChange svdRanksWrong)

/-- 'dioptralaw18.HessBrings': WHATEVER THE INPUT: true; the input reads as it did. -/
def hessBringsSpec : ChangeSpec := { name := "hessBrings", fn := fun _ => fun
  | [d1, d2] => { results := [.lit (.bool true)], args := [d1, d2] }
  | _ => none }
def hessBringsRow : OpenClaim := { program := "ythchhkghjfendabgreat", sum := "455ac54d8cb1c3a2d65b6222c7824c89b69415def39679e5755e07ad13bd7ab6", func := "dioptra/dioptralaw18.HessBrings", spec := "hessBrings", inPlace := ["math/bits.Sub64", "math.Float64frombits", "math.Float64bits", "math.sqrt"], unfollowed := true, recurses := true, apart := false }
def HessBringsSaid : Prop := hessBringsRow.holds Tryz.pinned (OpenSpec.ofChange hessBringsSpec)

/-- ITS FALSE NEIGHBOUR: 'it returns false'. Refute it at one input. -/
def hessBringsWrong : ChangeSpec := { name := "hessBrings", fn := fun _ => fun
  | [d1, d2] => { results := [.lit (.bool false)], args := [d1, d2] }
  | _ => none }
def HessBringsWrongFalsely : Prop := hessBringsRow.holds Tryz.pinned (OpenSpec.ofChange hessBringsWrong)

/-- 'dioptralaw19.SvdUprights': WHATEVER THE INPUT: true; the input reads as it did. -/
def svdUprightsSpec : ChangeSpec := { name := "svdUprights", fn := fun _ => fun
  | [d] => { results := [.lit (.bool true)], args := [d] }
  | _ => none }
def svdUprightsRow : OpenClaim := { program := "ythchhkghjfendabgreat", sum := "455ac54d8cb1c3a2d65b6222c7824c89b69415def39679e5755e07ad13bd7ab6", func := "dioptra/dioptralaw19.SvdUprights", spec := "svdUprights", inPlace := ["math/bits.Sub64", "math.Float64frombits", "math.Float64bits", "math.sqrt"], unfollowed := true, recurses := true, apart := false }
def SvdUprightsSaid : Prop := svdUprightsRow.holds Tryz.pinned (OpenSpec.ofChange svdUprightsSpec)

/-- ITS FALSE NEIGHBOUR: 'it returns false'. Refute it at one input. -/
def svdUprightsWrong : ChangeSpec := { name := "svdUprights", fn := fun _ => fun
  | [d] => { results := [.lit (.bool false)], args := [d] }
  | _ => none }
def SvdUprightsWrongFalsely : Prop := svdUprightsRow.holds Tryz.pinned (OpenSpec.ofChange svdUprightsWrong)

/- THE SECOND FORM. 'bulk': how many values and letters a reading holds, each counted each time it is reached (what is shared counts as often as it is met; a slice's spare places count too). A statement '..UptoSaid' is the law's where the arguments, and the package variables that the reading takes, are together of bulk at most 1048576: NARROWER than '..Said'. Prove '..Said' where nothing that the law and all that it calls make is longer than what came in: it says more and counts as full. Else prove '..UptoSaid'. A law counts once. -/
mutual
def uptoBulk {H : Type} : DataW H → Nat
  | .lit (.string bytes) => bytes.length + 1
  | .lit _ => 1
  | .nil => 1
  | .ptr d => uptoBulk d + 1
  | .slice elems spare => uptoBulkAll elems + uptoBulkAll spare + 1
  | .agg parts => uptoBulkAll parts + 1
  | .iface _ d => uptoBulk d + 1
  | .map entries => uptoBulkEntries entries + 1
  | .held _ => 1
def uptoBulkAll {H : Type} : List (DataW H) → Nat
  | [] => 0
  | d :: r => uptoBulk d + uptoBulkAll r
def uptoBulkEntries {H : Type} : List (Lit × DataW H) → Nat
  | [] => 0
  | x :: r => uptoBulkEntry x + uptoBulkEntries r
def uptoBulkEntry {H : Type} : Lit × DataW H → Nat
  | (.string bytes, d) => bytes.length + uptoBulk d + 1
  | (_, d) => uptoBulk d + 1
 end
def uptoSmall : (H : Type) → List (DataW H) → Bool := fun _ ds => decide (uptoBulkAll ds ≤ 1048576)
def OpenSpec.upto (s : _root_.Go.ChangeSpec) : _root_.Go.OpenSpec := { _root_.Go.OpenSpec.ofChange s with cond := some uptoSmall }

/-- 'dioptralaw19.SvdTurns', WHERE WHAT IT READS IS OF BULK AT MOST 1048576: true; the input reads as it did. -/
def svdTurnsUptoRow : OpenClaim := { program := "ythchhkghjfendabgreat", sum := "455ac54d8cb1c3a2d65b6222c7824c89b69415def39679e5755e07ad13bd7ab6", func := "dioptra/dioptralaw19.SvdTurns", spec := "svdTurns", inPlace := ["math/bits.Sub64"], unfollowed := true, recurses := true, apart := false, narrowed := true }
def SvdTurnsUptoSaid : Prop := svdTurnsUptoRow.holds Tryz.pinned (OpenSpec.upto svdTurnsSpec)

/-- 'dioptralaw19.SvdPairs', WHERE WHAT IT READS IS OF BULK AT MOST 1048576: true; the input reads as it did. -/
def svdPairsUptoRow : OpenClaim := { program := "ythchhkghjfendabgreat", sum := "455ac54d8cb1c3a2d65b6222c7824c89b69415def39679e5755e07ad13bd7ab6", func := "dioptra/dioptralaw19.SvdPairs", spec := "svdPairs", inPlace := ["math/bits.Sub64"], unfollowed := true, recurses := true, apart := false, narrowed := true }
def SvdPairsUptoSaid : Prop := svdPairsUptoRow.holds Tryz.pinned (OpenSpec.upto svdPairsSpec)

/-- 'dioptralaw16.PivotFactors', WHERE WHAT IT READS IS OF BULK AT MOST 1048576: true; the input reads as it did. -/
def pivotFactorsUptoRow : OpenClaim := { program := "ythchhkghjfendabgreat", sum := "455ac54d8cb1c3a2d65b6222c7824c89b69415def39679e5755e07ad13bd7ab6", func := "dioptra/dioptralaw16.PivotFactors", spec := "pivotFactors", inPlace := ["math/bits.Sub64", "math.Float64frombits", "math.Float64bits", "math.sqrt"], unfollowed := true, recurses := true, apart := false, narrowed := true }
def PivotFactorsUptoSaid : Prop := pivotFactorsUptoRow.holds Tryz.pinned (OpenSpec.upto pivotFactorsSpec)

/-- 'dioptralaw19.SvdRanks', WHERE WHAT IT READS IS OF BULK AT MOST 1048576: true; the input reads as it did. -/
def svdRanksUptoRow : OpenClaim := { program := "ythchhkghjfendabgreat", sum := "455ac54d8cb1c3a2d65b6222c7824c89b69415def39679e5755e07ad13bd7ab6", func := "dioptra/dioptralaw19.SvdRanks", spec := "svdRanks", inPlace := ["math.Float64frombits", "math.Float64bits", "math/bits.Sub64"], unfollowed := true, recurses := true, apart := false, narrowed := true }
def SvdRanksUptoSaid : Prop := svdRanksUptoRow.holds Tryz.pinned (OpenSpec.upto svdRanksSpec)

/-- 'dioptralaw18.HessBrings', WHERE WHAT IT READS IS OF BULK AT MOST 1048576: true; the input reads as it did. -/
def hessBringsUptoRow : OpenClaim := { program := "ythchhkghjfendabgreat", sum := "455ac54d8cb1c3a2d65b6222c7824c89b69415def39679e5755e07ad13bd7ab6", func := "dioptra/dioptralaw18.HessBrings", spec := "hessBrings", inPlace := ["math/bits.Sub64", "math.Float64frombits", "math.Float64bits", "math.sqrt"], unfollowed := true, recurses := true, apart := false, narrowed := true }
def HessBringsUptoSaid : Prop := hessBringsUptoRow.holds Tryz.pinned (OpenSpec.upto hessBringsSpec)

/-- 'dioptralaw19.SvdUprights', WHERE WHAT IT READS IS OF BULK AT MOST 1048576: true; the input reads as it did. -/
def svdUprightsUptoRow : OpenClaim := { program := "ythchhkghjfendabgreat", sum := "455ac54d8cb1c3a2d65b6222c7824c89b69415def39679e5755e07ad13bd7ab6", func := "dioptra/dioptralaw19.SvdUprights", spec := "svdUprights", inPlace := ["math/bits.Sub64", "math.Float64frombits", "math.Float64bits", "math.sqrt"], unfollowed := true, recurses := true, apart := false, narrowed := true }
def SvdUprightsUptoSaid : Prop := svdUprightsUptoRow.holds Tryz.pinned (OpenSpec.upto svdUprightsSpec)

end Rows
end Go.Proofs.YthchhkghjfendabGreat
