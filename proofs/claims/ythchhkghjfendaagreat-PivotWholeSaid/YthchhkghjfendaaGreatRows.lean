/-
  No cell of these rows narrows 'for every input' (looked for: loops, veiled, ifaces, maps, wideKeys, modest, calm, conditions, laid).
  DERIVED. THE GIVEN ROWS OF THIS SEAT. 6 by the template 'for every input the law returns true; each argument reads behind the call as it read before'; 0 by the template 'total and deterministic' (their statements: YthchhkghjfendaaGreatTotals.lean).
  GIVEN WITH THE SEED: the statements are not yours to turn. If you find one false, say at which input.
  Laid BY PROGRAM, IN A SANDBOX (cutbox-rows.mjs): the forced cells as the released guide's own fill.sh prints them over the translation 0ca7486fc6d8c4e5… (all of the seat's roots in one cut). By AI agents, Wed Nov 11 2026. No macro, syntax, notation, axiom, sorry.
-/
import Derived.Test.YthchhkghjfendaaGreatChecked
import GoSem.Claim
import GoSem.ClaimJoined
import GoSem.ClaimMapViews
import Derived.JoinedTies
import Derived.KernelRfl
namespace Go.Proofs.YthchhkghjfendaaGreat
/- THE CELL 'sum', in the pinned program and in every row, IS THE sha256 OF THE DUMP (.gsa) THAT YthchhkghjfendaaGreatProg.lean LOADS. Nothing in Lean hashes anything: it is a label: what it is worth is what the hold of that sum in a sandbox is worth. -/
noncomputable def Tryz.pinned : Pinned := { name := "ythchhkghjfendaagreat", sum := "0ca7486fc6d8c4e5b6f921fa80eb58944a983f43f7610882302049cba1f60175", checked := Tryz.checked }
namespace Rows
def none {H : Type} : Left H := { results := [], args := [] }

/-- 'dioptralaw16.PivotFalls': WHATEVER THE INPUT: true; the input reads as it did. -/
def pivotFallsSpec : ChangeSpec := { name := "pivotFalls", fn := fun _ => fun
  | [d] => { results := [.lit (.bool true)], args := [d] }
  | _ => none }
def pivotFallsRow : OpenClaim := { program := "ythchhkghjfendaagreat", sum := "0ca7486fc6d8c4e5b6f921fa80eb58944a983f43f7610882302049cba1f60175", func := "dioptra/dioptralaw16.PivotFalls", spec := "pivotFalls", inPlace := ["math/bits.Sub64"], unfollowed := true, recurses := true, apart := false }
def PivotFallsSaid : Prop := pivotFallsRow.holds Tryz.pinned (OpenSpec.ofChange pivotFallsSpec)

/-- ITS FALSE NEIGHBOUR: 'it returns false'. Refute it at one input. -/
def pivotFallsWrong : ChangeSpec := { name := "pivotFalls", fn := fun _ => fun
  | [d] => { results := [.lit (.bool false)], args := [d] }
  | _ => none }
def PivotFallsWrongFalsely : Prop := pivotFallsRow.holds Tryz.pinned (OpenSpec.ofChange pivotFallsWrong)

/-- 'dioptralaw16.PivotWhole': WHATEVER THE INPUT: true; the input reads as it did. -/
def pivotWholeSpec : ChangeSpec := { name := "pivotWhole", fn := fun _ => fun
  | [d1, d2, d3] => { results := [.lit (.bool true)], args := [d1, d2, d3] }
  | _ => none }
def pivotWholeRow : OpenClaim := { program := "ythchhkghjfendaagreat", sum := "0ca7486fc6d8c4e5b6f921fa80eb58944a983f43f7610882302049cba1f60175", func := "dioptra/dioptralaw16.PivotWhole", spec := "pivotWhole", inPlace := ["math.Float64bits", "math/bits.Sub64"], unfollowed := true, recurses := true, apart := false }
def PivotWholeSaid : Prop := pivotWholeRow.holds Tryz.pinned (OpenSpec.ofChange pivotWholeSpec)

/-- ITS FALSE NEIGHBOUR: 'it returns false'. Refute it at one input. -/
def pivotWholeWrong : ChangeSpec := { name := "pivotWhole", fn := fun _ => fun
  | [d1, d2, d3] => { results := [.lit (.bool false)], args := [d1, d2, d3] }
  | _ => none }
def PivotWholeWrongFalsely : Prop := pivotWholeRow.holds Tryz.pinned (OpenSpec.ofChange pivotWholeWrong)

/-- 'dioptralaw18.HessRight': WHATEVER THE INPUT: true; the input reads as it did. -/
def hessRightSpec : ChangeSpec := { name := "hessRight", fn := fun _ => fun
  | [d1, d2] => { results := [.lit (.bool true)], args := [d1, d2] }
  | _ => none }
def hessRightRow : OpenClaim := { program := "ythchhkghjfendaagreat", sum := "0ca7486fc6d8c4e5b6f921fa80eb58944a983f43f7610882302049cba1f60175", func := "dioptra/dioptralaw18.HessRight", spec := "hessRight", inPlace := ["math/bits.Sub64"], unfollowed := true, recurses := true, apart := false }
def HessRightSaid : Prop := hessRightRow.holds Tryz.pinned (OpenSpec.ofChange hessRightSpec)

/-- ITS FALSE NEIGHBOUR: 'it returns false'. Refute it at one input. -/
def hessRightWrong : ChangeSpec := { name := "hessRight", fn := fun _ => fun
  | [d1, d2] => { results := [.lit (.bool false)], args := [d1, d2] }
  | _ => none }
def HessRightWrongFalsely : Prop := hessRightRow.holds Tryz.pinned (OpenSpec.ofChange hessRightWrong)

/-- 'dioptralaw18.HessUpright': WHATEVER THE INPUT: true; the input reads as it did. -/
def hessUprightSpec : ChangeSpec := { name := "hessUpright", fn := fun _ => fun
  | [d1, d2] => { results := [.lit (.bool true)], args := [d1, d2] }
  | _ => none }
def hessUprightRow : OpenClaim := { program := "ythchhkghjfendaagreat", sum := "0ca7486fc6d8c4e5b6f921fa80eb58944a983f43f7610882302049cba1f60175", func := "dioptra/dioptralaw18.HessUpright", spec := "hessUpright", inPlace := ["math/bits.Sub64"], unfollowed := true, recurses := true, apart := false }
def HessUprightSaid : Prop := hessUprightRow.holds Tryz.pinned (OpenSpec.ofChange hessUprightSpec)

/-- ITS FALSE NEIGHBOUR: 'it returns false'. Refute it at one input. -/
def hessUprightWrong : ChangeSpec := { name := "hessUpright", fn := fun _ => fun
  | [d1, d2] => { results := [.lit (.bool false)], args := [d1, d2] }
  | _ => none }
def HessUprightWrongFalsely : Prop := hessUprightRow.holds Tryz.pinned (OpenSpec.ofChange hessUprightWrong)

/-- 'dioptralaw16.PivotTolds': WHATEVER THE INPUT: true; the input reads as it did. -/
def pivotToldsSpec : ChangeSpec := { name := "pivotTolds", fn := fun _ => fun
  | [d1, d2] => { results := [.lit (.bool true)], args := [d1, d2] }
  | _ => none }
def pivotToldsRow : OpenClaim := { program := "ythchhkghjfendaagreat", sum := "0ca7486fc6d8c4e5b6f921fa80eb58944a983f43f7610882302049cba1f60175", func := "dioptra/dioptralaw16.PivotTolds", spec := "pivotTolds", inPlace := ["math.Float64frombits", "math.Float64bits", "math/bits.Sub64"], unfollowed := true, recurses := true, apart := false }
def PivotToldsSaid : Prop := pivotToldsRow.holds Tryz.pinned (OpenSpec.ofChange pivotToldsSpec)

/-- ITS FALSE NEIGHBOUR: 'it returns false'. Refute it at one input. -/
def pivotToldsWrong : ChangeSpec := { name := "pivotTolds", fn := fun _ => fun
  | [d1, d2] => { results := [.lit (.bool false)], args := [d1, d2] }
  | _ => none }
def PivotToldsWrongFalsely : Prop := pivotToldsRow.holds Tryz.pinned (OpenSpec.ofChange pivotToldsWrong)

/-- 'dioptralaw19.SvdRight': WHATEVER THE INPUT: true; the input reads as it did. -/
def svdRightSpec : ChangeSpec := { name := "svdRight", fn := fun _ => fun
  | [d] => { results := [.lit (.bool true)], args := [d] }
  | _ => none }
def svdRightRow : OpenClaim := { program := "ythchhkghjfendaagreat", sum := "0ca7486fc6d8c4e5b6f921fa80eb58944a983f43f7610882302049cba1f60175", func := "dioptra/dioptralaw19.SvdRight", spec := "svdRight", inPlace := ["math/bits.Sub64"], unfollowed := true, recurses := true, apart := false }
def SvdRightSaid : Prop := svdRightRow.holds Tryz.pinned (OpenSpec.ofChange svdRightSpec)

/-- ITS FALSE NEIGHBOUR: 'it returns false'. Refute it at one input. -/
def svdRightWrong : ChangeSpec := { name := "svdRight", fn := fun _ => fun
  | [d] => { results := [.lit (.bool false)], args := [d] }
  | _ => none }
def SvdRightWrongFalsely : Prop := svdRightRow.holds Tryz.pinned (OpenSpec.ofChange svdRightWrong)

/- THE SECOND FORM. 'bulk': how many values and letters a reading holds, each counted each time it is reached (what is shared counts as often as it is met; a slice's spare places count too). A statement '..UptoSaid' is the law's where the arguments, and the package variables that the reading takes, are together of bulk at most 1048576: NARROWER than '..Said'. Prove '..Said' where nothing that the law and all that it calls make is longer than what came in: it says more and counts as full. Else prove '..UptoSaid'. A law counts once. -/
mutual
def uptoBulk {H : Type} : DataW H → Nat
  | .lit (.string bytes) => bytes.length + 1
  | .lit _ => 1
  | .nil => 1
  | .ptr d => uptoBulk d + 1
  | .slice elems spare => uptoBulkAll elems + uptoBulkAll spare + 1
  | .agg parts => uptoBulkAll parts + 1
  | .iface _ d => uptoBulk d + 1
  | .map entries => uptoBulkEntries entries + 1
  | .held _ => 1
def uptoBulkAll {H : Type} : List (DataW H) → Nat
  | [] => 0
  | d :: r => uptoBulk d + uptoBulkAll r
def uptoBulkEntries {H : Type} : List (Lit × DataW H) → Nat
  | [] => 0
  | x :: r => uptoBulkEntry x + uptoBulkEntries r
def uptoBulkEntry {H : Type} : Lit × DataW H → Nat
  | (.string bytes, d) => bytes.length + uptoBulk d + 1
  | (_, d) => uptoBulk d + 1
 end
def uptoSmall : (H : Type) → List (DataW H) → Bool := fun _ ds => decide (uptoBulkAll ds ≤ 1048576)
def OpenSpec.upto (s : _root_.Go.ChangeSpec) : _root_.Go.OpenSpec := { _root_.Go.OpenSpec.ofChange s with cond := some uptoSmall }

/-- 'dioptralaw16.PivotFalls', WHERE WHAT IT READS IS OF BULK AT MOST 1048576: true; the input reads as it did. -/
def pivotFallsUptoRow : OpenClaim := { program := "ythchhkghjfendaagreat", sum := "0ca7486fc6d8c4e5b6f921fa80eb58944a983f43f7610882302049cba1f60175", func := "dioptra/dioptralaw16.PivotFalls", spec := "pivotFalls", inPlace := ["math/bits.Sub64"], unfollowed := true, recurses := true, apart := false, narrowed := true }
def PivotFallsUptoSaid : Prop := pivotFallsUptoRow.holds Tryz.pinned (OpenSpec.upto pivotFallsSpec)

/-- 'dioptralaw16.PivotWhole', WHERE WHAT IT READS IS OF BULK AT MOST 1048576: true; the input reads as it did. -/
def pivotWholeUptoRow : OpenClaim := { program := "ythchhkghjfendaagreat", sum := "0ca7486fc6d8c4e5b6f921fa80eb58944a983f43f7610882302049cba1f60175", func := "dioptra/dioptralaw16.PivotWhole", spec := "pivotWhole", inPlace := ["math.Float64bits", "math/bits.Sub64"], unfollowed := true, recurses := true, apart := false, narrowed := true }
def PivotWholeUptoSaid : Prop := pivotWholeUptoRow.holds Tryz.pinned (OpenSpec.upto pivotWholeSpec)

/-- 'dioptralaw18.HessRight', WHERE WHAT IT READS IS OF BULK AT MOST 1048576: true; the input reads as it did. -/
def hessRightUptoRow : OpenClaim := { program := "ythchhkghjfendaagreat", sum := "0ca7486fc6d8c4e5b6f921fa80eb58944a983f43f7610882302049cba1f60175", func := "dioptra/dioptralaw18.HessRight", spec := "hessRight", inPlace := ["math/bits.Sub64"], unfollowed := true, recurses := true, apart := false, narrowed := true }
def HessRightUptoSaid : Prop := hessRightUptoRow.holds Tryz.pinned (OpenSpec.upto hessRightSpec)

/-- 'dioptralaw18.HessUpright', WHERE WHAT IT READS IS OF BULK AT MOST 1048576: true; the input reads as it did. -/
def hessUprightUptoRow : OpenClaim := { program := "ythchhkghjfendaagreat", sum := "0ca7486fc6d8c4e5b6f921fa80eb58944a983f43f7610882302049cba1f60175", func := "dioptra/dioptralaw18.HessUpright", spec := "hessUpright", inPlace := ["math/bits.Sub64"], unfollowed := true, recurses := true, apart := false, narrowed := true }
def HessUprightUptoSaid : Prop := hessUprightUptoRow.holds Tryz.pinned (OpenSpec.upto hessUprightSpec)

/-- 'dioptralaw16.PivotTolds', WHERE WHAT IT READS IS OF BULK AT MOST 1048576: true; the input reads as it did. -/
def pivotToldsUptoRow : OpenClaim := { program := "ythchhkghjfendaagreat", sum := "0ca7486fc6d8c4e5b6f921fa80eb58944a983f43f7610882302049cba1f60175", func := "dioptra/dioptralaw16.PivotTolds", spec := "pivotTolds", inPlace := ["math.Float64frombits", "math.Float64bits", "math/bits.Sub64"], unfollowed := true, recurses := true, apart := false, narrowed := true }
def PivotToldsUptoSaid : Prop := pivotToldsUptoRow.holds Tryz.pinned (OpenSpec.upto pivotToldsSpec)

/-- 'dioptralaw19.SvdRight', WHERE WHAT IT READS IS OF BULK AT MOST 1048576: true; the input reads as it did. -/
def svdRightUptoRow : OpenClaim := { program := "ythchhkghjfendaagreat", sum := "0ca7486fc6d8c4e5b6f921fa80eb58944a983f43f7610882302049cba1f60175", func := "dioptra/dioptralaw19.SvdRight", spec := "svdRight", inPlace := ["math/bits.Sub64"], unfollowed := true, recurses := true, apart := false, narrowed := true }
def SvdRightUptoSaid : Prop := svdRightUptoRow.holds Tryz.pinned (OpenSpec.upto svdRightSpec)

end Rows
end Go.Proofs.YthchhkghjfendaaGreat
