/-
  No cell of these rows narrows 'for every input' (looked for: loops, veiled, ifaces, maps, wideKeys, modest, calm, conditions, laid).
  DERIVED. THE GIVEN ROWS OF THIS SEAT. 5 by the template 'for every input the law returns true; each argument reads behind the call as it read before'; 0 by the template 'total and deterministic' (their statements: YtogcdllpjcnbkaaGreatTotals.lean).
  GIVEN WITH THE SEED: the statements are not yours to turn. If you find one false, say at which input.
  Laid BY PROGRAM, IN A SANDBOX (cutbox-rows.mjs): the forced cells as the released guide's own fill.sh prints them over the translation 3f1141efbe421312… (all of the seat's roots in one cut). By AI agents, Wed Nov 11 2026. No macro, syntax, notation, axiom, sorry.
-/
import Derived.Test.YtogcdllpjcnbkaaGreatChecked
import GoSem.Claim
import GoSem.ClaimJoined
import GoSem.ClaimMapViews
import Derived.JoinedTies
import Derived.KernelRfl
namespace Go.Proofs.YtogcdllpjcnbkaaGreat
/- THE CELL 'sum', in the pinned program and in every row, IS THE sha256 OF THE DUMP (.gsa) THAT YtogcdllpjcnbkaaGreatProg.lean LOADS. Nothing in Lean hashes anything: it is a label: what it is worth is what the hold of that sum in a sandbox is worth. -/
noncomputable def Tryz.pinned : Pinned := { name := "ytogcdllpjcnbkaagreat", sum := "3f1141efbe4213125f24b4c0f310cc760714059d8f805575c2326612eb20ed95", checked := Tryz.checked }
namespace Rows
def none {H : Type} : Left H := { results := [], args := [] }

/-- 'dioptralaw13.HouseMakes': WHATEVER THE INPUT: true; the input reads as it did. -/
def houseMakesSpec : ChangeSpec := { name := "houseMakes", fn := fun _ => fun
  | [d] => { results := [.lit (.bool true)], args := [d] }
  | _ => none }
def houseMakesRow : OpenClaim := { program := "ytogcdllpjcnbkaagreat", sum := "3f1141efbe4213125f24b4c0f310cc760714059d8f805575c2326612eb20ed95", func := "dioptra/dioptralaw13.HouseMakes", spec := "houseMakes", inPlace := ["math/bits.Sub64", "math.Float64frombits", "math.Float64bits", "math.sqrt"], unfollowed := true, recurses := true, apart := false }
def HouseMakesSaid : Prop := houseMakesRow.holds Tryz.pinned (OpenSpec.ofChange houseMakesSpec)

/-- ITS FALSE NEIGHBOUR: 'it returns false'. Refute it at one input. -/
def houseMakesWrong : ChangeSpec := { name := "houseMakes", fn := fun _ => fun
  | [d] => { results := [.lit (.bool false)], args := [d] }
  | _ => none }
def HouseMakesWrongFalsely : Prop := houseMakesRow.holds Tryz.pinned (OpenSpec.ofChange houseMakesWrong)

/-- 'dioptralaw13.HouseRight': WHATEVER THE INPUT: true; the input reads as it did. -/
def houseRightSpec : ChangeSpec := { name := "houseRight", fn := fun _ => fun
  | [d] => { results := [.lit (.bool true)], args := [d] }
  | _ => none }
def houseRightRow : OpenClaim := { program := "ytogcdllpjcnbkaagreat", sum := "3f1141efbe4213125f24b4c0f310cc760714059d8f805575c2326612eb20ed95", func := "dioptra/dioptralaw13.HouseRight", spec := "houseRight", inPlace := ["math/bits.Sub64", "math.Float64frombits", "math.Float64bits", "math.sqrt"], unfollowed := true, recurses := true, apart := false }
def HouseRightSaid : Prop := houseRightRow.holds Tryz.pinned (OpenSpec.ofChange houseRightSpec)

/-- ITS FALSE NEIGHBOUR: 'it returns false'. Refute it at one input. -/
def houseRightWrong : ChangeSpec := { name := "houseRight", fn := fun _ => fun
  | [d] => { results := [.lit (.bool false)], args := [d] }
  | _ => none }
def HouseRightWrongFalsely : Prop := houseRightRow.holds Tryz.pinned (OpenSpec.ofChange houseRightWrong)

/-- 'dioptralaw14.QrFactors': WHATEVER THE INPUT: true; the input reads as it did. -/
def qrFactorsSpec : ChangeSpec := { name := "qrFactors", fn := fun _ => fun
  | [d] => { results := [.lit (.bool true)], args := [d] }
  | _ => none }
def qrFactorsRow : OpenClaim := { program := "ytogcdllpjcnbkaagreat", sum := "3f1141efbe4213125f24b4c0f310cc760714059d8f805575c2326612eb20ed95", func := "dioptra/dioptralaw14.QrFactors", spec := "qrFactors", inPlace := ["math/bits.Sub64", "math.Float64frombits", "math.Float64bits", "math.sqrt"], unfollowed := true, recurses := true, apart := false }
def QrFactorsSaid : Prop := qrFactorsRow.holds Tryz.pinned (OpenSpec.ofChange qrFactorsSpec)

/-- ITS FALSE NEIGHBOUR: 'it returns false'. Refute it at one input. -/
def qrFactorsWrong : ChangeSpec := { name := "qrFactors", fn := fun _ => fun
  | [d] => { results := [.lit (.bool false)], args := [d] }
  | _ => none }
def QrFactorsWrongFalsely : Prop := qrFactorsRow.holds Tryz.pinned (OpenSpec.ofChange qrFactorsWrong)

/-- 'dioptralaw14.QrThins': WHATEVER THE INPUT: true; the input reads as it did. -/
def qrThinsSpec : ChangeSpec := { name := "qrThins", fn := fun _ => fun
  | [d] => { results := [.lit (.bool true)], args := [d] }
  | _ => none }
def qrThinsRow : OpenClaim := { program := "ytogcdllpjcnbkaagreat", sum := "3f1141efbe4213125f24b4c0f310cc760714059d8f805575c2326612eb20ed95", func := "dioptra/dioptralaw14.QrThins", spec := "qrThins", inPlace := ["math/bits.Sub64", "math.Float64frombits", "math.Float64bits", "math.sqrt"], unfollowed := true, recurses := true, apart := false }
def QrThinsSaid : Prop := qrThinsRow.holds Tryz.pinned (OpenSpec.ofChange qrThinsSpec)

/-- ITS FALSE NEIGHBOUR: 'it returns false'. Refute it at one input. -/
def qrThinsWrong : ChangeSpec := { name := "qrThins", fn := fun _ => fun
  | [d] => { results := [.lit (.bool false)], args := [d] }
  | _ => none }
def QrThinsWrongFalsely : Prop := qrThinsRow.holds Tryz.pinned (OpenSpec.ofChange qrThinsWrong)

/-- 'dioptralaw15.RqFactors': WHATEVER THE INPUT: true; the input reads as it did. -/
def rqFactorsSpec : ChangeSpec := { name := "rqFactors", fn := fun _ => fun
  | [d] => { results := [.lit (.bool true)], args := [d] }
  | _ => none }
def rqFactorsRow : OpenClaim := { program := "ytogcdllpjcnbkaagreat", sum := "3f1141efbe4213125f24b4c0f310cc760714059d8f805575c2326612eb20ed95", func := "dioptra/dioptralaw15.RqFactors", spec := "rqFactors", inPlace := ["math/bits.Sub64", "math.Float64frombits", "math.Float64bits", "math.sqrt"], unfollowed := true, recurses := true, apart := false }
def RqFactorsSaid : Prop := rqFactorsRow.holds Tryz.pinned (OpenSpec.ofChange rqFactorsSpec)

/-- ITS FALSE NEIGHBOUR: 'it returns false'. Refute it at one input. -/
def rqFactorsWrong : ChangeSpec := { name := "rqFactors", fn := fun _ => fun
  | [d] => { results := [.lit (.bool false)], args := [d] }
  | _ => none }
def RqFactorsWrongFalsely : Prop := rqFactorsRow.holds Tryz.pinned (OpenSpec.ofChange rqFactorsWrong)

/- THE SECOND FORM. 'bulk': how many values and letters a reading holds, each counted each time it is reached (what is shared counts as often as it is met; a slice's spare places count too). A statement '..UptoSaid' is the law's where the arguments, and the package variables that the reading takes, are together of bulk at most 1048576: NARROWER than '..Said'. Prove '..Said' where nothing that the law and all that it calls make is longer than what came in: it says more and counts as full. Else prove '..UptoSaid'. A law counts once. -/
mutual
def uptoBulk {H : Type} : DataW H → Nat
  | .lit (.string bytes) => bytes.length + 1
  | .lit _ => 1
  | .nil => 1
  | .ptr d => uptoBulk d + 1
  | .slice elems spare => uptoBulkAll elems + uptoBulkAll spare + 1
  | .agg parts => uptoBulkAll parts + 1
  | .iface _ d => uptoBulk d + 1
  | .map entries => uptoBulkEntries entries + 1
  | .held _ => 1
def uptoBulkAll {H : Type} : List (DataW H) → Nat
  | [] => 0
  | d :: r => uptoBulk d + uptoBulkAll r
def uptoBulkEntries {H : Type} : List (Lit × DataW H) → Nat
  | [] => 0
  | x :: r => uptoBulkEntry x + uptoBulkEntries r
def uptoBulkEntry {H : Type} : Lit × DataW H → Nat
  | (.string bytes, d) => bytes.length + uptoBulk d + 1
  | (_, d) => uptoBulk d + 1
 end
def uptoSmall : (H : Type) → List (DataW H) → Bool := fun _ ds => decide (uptoBulkAll ds ≤ 1048576)
def OpenSpec.upto (s : _root_.Go.ChangeSpec) : _root_.Go.OpenSpec := { _root_.Go.OpenSpec.ofChange s with cond := some uptoSmall }

/-- 'dioptralaw13.HouseMakes', WHERE WHAT IT READS IS OF BULK AT MOST 1048576: true; the input reads as it did. -/
def houseMakesUptoRow : OpenClaim := { program := "ytogcdllpjcnbkaagreat", sum := "3f1141efbe4213125f24b4c0f310cc760714059d8f805575c2326612eb20ed95", func := "dioptra/dioptralaw13.HouseMakes", spec := "houseMakes", inPlace := ["math/bits.Sub64", "math.Float64frombits", "math.Float64bits", "math.sqrt"], unfollowed := true, recurses := true, apart := false, narrowed := true }
def HouseMakesUptoSaid : Prop := houseMakesUptoRow.holds Tryz.pinned (OpenSpec.upto houseMakesSpec)

/-- 'dioptralaw13.HouseRight', WHERE WHAT IT READS IS OF BULK AT MOST 1048576: true; the input reads as it did. -/
def houseRightUptoRow : OpenClaim := { program := "ytogcdllpjcnbkaagreat", sum := "3f1141efbe4213125f24b4c0f310cc760714059d8f805575c2326612eb20ed95", func := "dioptra/dioptralaw13.HouseRight", spec := "houseRight", inPlace := ["math/bits.Sub64", "math.Float64frombits", "math.Float64bits", "math.sqrt"], unfollowed := true, recurses := true, apart := false, narrowed := true }
def HouseRightUptoSaid : Prop := houseRightUptoRow.holds Tryz.pinned (OpenSpec.upto houseRightSpec)

/-- 'dioptralaw14.QrFactors', WHERE WHAT IT READS IS OF BULK AT MOST 1048576: true; the input reads as it did. -/
def qrFactorsUptoRow : OpenClaim := { program := "ytogcdllpjcnbkaagreat", sum := "3f1141efbe4213125f24b4c0f310cc760714059d8f805575c2326612eb20ed95", func := "dioptra/dioptralaw14.QrFactors", spec := "qrFactors", inPlace := ["math/bits.Sub64", "math.Float64frombits", "math.Float64bits", "math.sqrt"], unfollowed := true, recurses := true, apart := false, narrowed := true }
def QrFactorsUptoSaid : Prop := qrFactorsUptoRow.holds Tryz.pinned (OpenSpec.upto qrFactorsSpec)

/-- 'dioptralaw14.QrThins', WHERE WHAT IT READS IS OF BULK AT MOST 1048576: true; the input reads as it did. -/
def qrThinsUptoRow : OpenClaim := { program := "ytogcdllpjcnbkaagreat", sum := "3f1141efbe4213125f24b4c0f310cc760714059d8f805575c2326612eb20ed95", func := "dioptra/dioptralaw14.QrThins", spec := "qrThins", inPlace := ["math/bits.Sub64", "math.Float64frombits", "math.Float64bits", "math.sqrt"], unfollowed := true, recurses := true, apart := false, narrowed := true }
def QrThinsUptoSaid : Prop := qrThinsUptoRow.holds Tryz.pinned (OpenSpec.upto qrThinsSpec)

/-- 'dioptralaw15.RqFactors', WHERE WHAT IT READS IS OF BULK AT MOST 1048576: true; the input reads as it did. -/
def rqFactorsUptoRow : OpenClaim := { program := "ytogcdllpjcnbkaagreat", sum := "3f1141efbe4213125f24b4c0f310cc760714059d8f805575c2326612eb20ed95", func := "dioptra/dioptralaw15.RqFactors", spec := "rqFactors", inPlace := ["math/bits.Sub64", "math.Float64frombits", "math.Float64bits", "math.sqrt"], unfollowed := true, recurses := true, apart := false, narrowed := true }
def RqFactorsUptoSaid : Prop := rqFactorsUptoRow.holds Tryz.pinned (OpenSpec.upto rqFactorsSpec)

end Rows
end Go.Proofs.YtogcdllpjcnbkaaGreat
