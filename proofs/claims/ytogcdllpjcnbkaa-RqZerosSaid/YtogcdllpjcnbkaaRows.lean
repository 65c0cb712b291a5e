/-
  No cell of these rows narrows 'for every input' (looked for: loops, veiled, ifaces, maps, wideKeys, modest, calm, conditions, laid).
  DERIVED. THE GIVEN ROWS OF THIS SEAT. 7 by the template 'for every input the law returns true; each argument reads behind the call as it read before'; 0 by the template 'total and deterministic' (their statements: YtogcdllpjcnbkaaTotals.lean).
  GIVEN WITH THE SEED: the statements are not yours to turn. If you find one false, say at which input.
  Laid BY PROGRAM, IN A SANDBOX (cutbox-rows.mjs): the forced cells as the released guide's own fill.sh prints them over the translation 8ea569e77a8add11… (all of the seat's roots in one cut). By AI agents, Wed Nov 11 2026. No macro, syntax, notation, axiom, sorry.
-/
import Derived.Test.YtogcdllpjcnbkaaChecked
import GoSem.Claim
import GoSem.ClaimJoined
import GoSem.ClaimMapViews
import Derived.JoinedTies
import Derived.KernelRfl
namespace Go.Proofs.Ytogcdllpjcnbkaa
/- THE CELL 'sum', in the pinned program and in every row, IS THE sha256 OF THE DUMP (.gsa) THAT YtogcdllpjcnbkaaProg.lean LOADS. Nothing in Lean hashes anything: it is a label: what it is worth is what the hold of that sum in a sandbox is worth. -/
noncomputable def Try.pinned : Pinned := { name := "ytogcdllpjcnbkaa", sum := "8ea569e77a8add11fed9720e4f7b3fe014918b491fdbd43edecb2f272366f1b9", checked := Try.checked }
namespace Rows
def none {H : Type} : Left H := { results := [], args := [] }

/-- 'dioptralaw13.HouseMirrors': WHATEVER THE INPUT: true; the input reads as it did. -/
def houseMirrorsSpec : ChangeSpec := { name := "houseMirrors", fn := fun _ => fun
  | [d] => { results := [.lit (.bool true)], args := [d] }
  | _ => none }
def houseMirrorsRow : OpenClaim := { program := "ytogcdllpjcnbkaa", sum := "8ea569e77a8add11fed9720e4f7b3fe014918b491fdbd43edecb2f272366f1b9", func := "dioptra/dioptralaw13.HouseMirrors", spec := "houseMirrors", inPlace := ["math/bits.Sub64"], unfollowed := true, recurses := true, apart := false }
def HouseMirrorsSaid : Prop := houseMirrorsRow.holds Try.pinned (OpenSpec.ofChange houseMirrorsSpec)

/-- ITS FALSE NEIGHBOUR: 'it returns false'. Refute it at one input. -/
def houseMirrorsWrong : ChangeSpec := { name := "houseMirrors", fn := fun _ => fun
  | [d] => { results := [.lit (.bool false)], args := [d] }
  | _ => none }
def HouseMirrorsWrongFalsely : Prop := houseMirrorsRow.holds Try.pinned (OpenSpec.ofChange houseMirrorsWrong)

/-- 'dioptralaw13.HouseKeeps': WHATEVER THE INPUT: true; the input reads as it did. -/
def houseKeepsSpec : ChangeSpec := { name := "houseKeeps", fn := fun _ => fun
  | [d1, d2] => { results := [.lit (.bool true)], args := [d1, d2] }
  | _ => none }
def houseKeepsRow : OpenClaim := { program := "ytogcdllpjcnbkaa", sum := "8ea569e77a8add11fed9720e4f7b3fe014918b491fdbd43edecb2f272366f1b9", func := "dioptra/dioptralaw13.HouseKeeps", spec := "houseKeeps", inPlace := ["math/bits.Sub64"], unfollowed := true, recurses := true, apart := false }
def HouseKeepsSaid : Prop := houseKeepsRow.holds Try.pinned (OpenSpec.ofChange houseKeepsSpec)

/-- ITS FALSE NEIGHBOUR: 'it returns false'. Refute it at one input. -/
def houseKeepsWrong : ChangeSpec := { name := "houseKeeps", fn := fun _ => fun
  | [d1, d2] => { results := [.lit (.bool false)], args := [d1, d2] }
  | _ => none }
def HouseKeepsWrongFalsely : Prop := houseKeepsRow.holds Try.pinned (OpenSpec.ofChange houseKeepsWrong)

/-- 'dioptralaw13.HouseApplies': WHATEVER THE INPUT: true; the input reads as it did. -/
def houseAppliesSpec : ChangeSpec := { name := "houseApplies", fn := fun _ => fun
  | [d1, d2, d3] => { results := [.lit (.bool true)], args := [d1, d2, d3] }
  | _ => none }
def houseAppliesRow : OpenClaim := { program := "ytogcdllpjcnbkaa", sum := "8ea569e77a8add11fed9720e4f7b3fe014918b491fdbd43edecb2f272366f1b9", func := "dioptra/dioptralaw13.HouseApplies", spec := "houseApplies", inPlace := ["math/bits.Sub64", "math.Float64frombits", "math.Float64bits"], unfollowed := true, recurses := true, apart := false }
def HouseAppliesSaid : Prop := houseAppliesRow.holds Try.pinned (OpenSpec.ofChange houseAppliesSpec)

/-- ITS FALSE NEIGHBOUR: 'it returns false'. Refute it at one input. -/
def houseAppliesWrong : ChangeSpec := { name := "houseApplies", fn := fun _ => fun
  | [d1, d2, d3] => { results := [.lit (.bool false)], args := [d1, d2, d3] }
  | _ => none }
def HouseAppliesWrongFalsely : Prop := houseAppliesRow.holds Try.pinned (OpenSpec.ofChange houseAppliesWrong)

/-- 'dioptralaw14.QrUpper': WHATEVER THE INPUT: true; the input reads as it did. -/
def qrUpperSpec : ChangeSpec := { name := "qrUpper", fn := fun _ => fun
  | [d] => { results := [.lit (.bool true)], args := [d] }
  | _ => none }
def qrUpperRow : OpenClaim := { program := "ytogcdllpjcnbkaa", sum := "8ea569e77a8add11fed9720e4f7b3fe014918b491fdbd43edecb2f272366f1b9", func := "dioptra/dioptralaw14.QrUpper", spec := "qrUpper", inPlace := ["math/bits.Sub64"], unfollowed := true, recurses := true, apart := false }
def QrUpperSaid : Prop := qrUpperRow.holds Try.pinned (OpenSpec.ofChange qrUpperSpec)

/-- ITS FALSE NEIGHBOUR: 'it returns false'. Refute it at one input. -/
def qrUpperWrong : ChangeSpec := { name := "qrUpper", fn := fun _ => fun
  | [d] => { results := [.lit (.bool false)], args := [d] }
  | _ => none }
def QrUpperWrongFalsely : Prop := qrUpperRow.holds Try.pinned (OpenSpec.ofChange qrUpperWrong)

/-- 'dioptralaw14.QrTurned': WHATEVER THE INPUT: true; the input reads as it did. -/
def qrTurnedSpec : ChangeSpec := { name := "qrTurned", fn := fun _ => fun
  | [d1, d2] => { results := [.lit (.bool true)], args := [d1, d2] }
  | _ => none }
def qrTurnedRow : OpenClaim := { program := "ytogcdllpjcnbkaa", sum := "8ea569e77a8add11fed9720e4f7b3fe014918b491fdbd43edecb2f272366f1b9", func := "dioptra/dioptralaw14.QrTurned", spec := "qrTurned", inPlace := ["math/bits.Sub64", "math.Float64frombits", "math.Float64bits"], unfollowed := true, recurses := true, apart := false }
def QrTurnedSaid : Prop := qrTurnedRow.holds Try.pinned (OpenSpec.ofChange qrTurnedSpec)

/-- ITS FALSE NEIGHBOUR: 'it returns false'. Refute it at one input. -/
def qrTurnedWrong : ChangeSpec := { name := "qrTurned", fn := fun _ => fun
  | [d1, d2] => { results := [.lit (.bool false)], args := [d1, d2] }
  | _ => none }
def QrTurnedWrongFalsely : Prop := qrTurnedRow.holds Try.pinned (OpenSpec.ofChange qrTurnedWrong)

/-- 'dioptralaw15.RqFlips': WHATEVER THE INPUT: true; the input reads as it did. -/
def rqFlipsSpec : ChangeSpec := { name := "rqFlips", fn := fun _ => fun
  | [d1, d2, d3] => { results := [.lit (.bool true)], args := [d1, d2, d3] }
  | _ => none }
def rqFlipsRow : OpenClaim := { program := "ytogcdllpjcnbkaa", sum := "8ea569e77a8add11fed9720e4f7b3fe014918b491fdbd43edecb2f272366f1b9", func := "dioptra/dioptralaw15.RqFlips", spec := "rqFlips", inPlace := ["math/bits.Sub64"], unfollowed := true, recurses := true, apart := false }
def RqFlipsSaid : Prop := rqFlipsRow.holds Try.pinned (OpenSpec.ofChange rqFlipsSpec)

/-- ITS FALSE NEIGHBOUR: 'it returns false'. Refute it at one input. -/
def rqFlipsWrong : ChangeSpec := { name := "rqFlips", fn := fun _ => fun
  | [d1, d2, d3] => { results := [.lit (.bool false)], args := [d1, d2, d3] }
  | _ => none }
def RqFlipsWrongFalsely : Prop := rqFlipsRow.holds Try.pinned (OpenSpec.ofChange rqFlipsWrong)

/-- 'dioptralaw15.RqZeros': WHATEVER THE INPUT: true; the input reads as it did. -/
def rqZerosSpec : ChangeSpec := { name := "rqZeros", fn := fun _ => fun
  | [d] => { results := [.lit (.bool true)], args := [d] }
  | _ => none }
def rqZerosRow : OpenClaim := { program := "ytogcdllpjcnbkaa", sum := "8ea569e77a8add11fed9720e4f7b3fe014918b491fdbd43edecb2f272366f1b9", func := "dioptra/dioptralaw15.RqZeros", spec := "rqZeros", inPlace := ["math/bits.Sub64"], unfollowed := true, recurses := true, apart := false }
def RqZerosSaid : Prop := rqZerosRow.holds Try.pinned (OpenSpec.ofChange rqZerosSpec)

/-- ITS FALSE NEIGHBOUR: 'it returns false'. Refute it at one input. -/
def rqZerosWrong : ChangeSpec := { name := "rqZeros", fn := fun _ => fun
  | [d] => { results := [.lit (.bool false)], args := [d] }
  | _ => none }
def RqZerosWrongFalsely : Prop := rqZerosRow.holds Try.pinned (OpenSpec.ofChange rqZerosWrong)

/- THE SECOND FORM. 'bulk': how many values and letters a reading holds, each counted each time it is reached (what is shared counts as often as it is met; a slice's spare places count too). A statement '..UptoSaid' is the law's where the arguments, and the package variables that the reading takes, are together of bulk at most 1048576: NARROWER than '..Said'. Prove '..Said' where nothing that the law and all that it calls make is longer than what came in: it says more and counts as full. Else prove '..UptoSaid'. A law counts once. -/
mutual
def uptoBulk {H : Type} : DataW H → Nat
  | .lit (.string bytes) => bytes.length + 1
  | .lit _ => 1
  | .nil => 1
  | .ptr d => uptoBulk d + 1
  | .slice elems spare => uptoBulkAll elems + uptoBulkAll spare + 1
  | .agg parts => uptoBulkAll parts + 1
  | .iface _ d => uptoBulk d + 1
  | .map entries => uptoBulkEntries entries + 1
  | .held _ => 1
def uptoBulkAll {H : Type} : List (DataW H) → Nat
  | [] => 0
  | d :: r => uptoBulk d + uptoBulkAll r
def uptoBulkEntries {H : Type} : List (Lit × DataW H) → Nat
  | [] => 0
  | x :: r => uptoBulkEntry x + uptoBulkEntries r
def uptoBulkEntry {H : Type} : Lit × DataW H → Nat
  | (.string bytes, d) => bytes.length + uptoBulk d + 1
  | (_, d) => uptoBulk d + 1
 end
def uptoSmall : (H : Type) → List (DataW H) → Bool := fun _ ds => decide (uptoBulkAll ds ≤ 1048576)
def OpenSpec.upto (s : _root_.Go.ChangeSpec) : _root_.Go.OpenSpec := { _root_.Go.OpenSpec.ofChange s with cond := some uptoSmall }

/-- 'dioptralaw13.HouseMirrors', WHERE WHAT IT READS IS OF BULK AT MOST 1048576: true; the input reads as it did. -/
def houseMirrorsUptoRow : OpenClaim := { program := "ytogcdllpjcnbkaa", sum := "8ea569e77a8add11fed9720e4f7b3fe014918b491fdbd43edecb2f272366f1b9", func := "dioptra/dioptralaw13.HouseMirrors", spec := "houseMirrors", inPlace := ["math/bits.Sub64"], unfollowed := true, recurses := true, apart := false, narrowed := true }
def HouseMirrorsUptoSaid : Prop := houseMirrorsUptoRow.holds Try.pinned (OpenSpec.upto houseMirrorsSpec)

/-- 'dioptralaw13.HouseKeeps', WHERE WHAT IT READS IS OF BULK AT MOST 1048576: true; the input reads as it did. -/
def houseKeepsUptoRow : OpenClaim := { program := "ytogcdllpjcnbkaa", sum := "8ea569e77a8add11fed9720e4f7b3fe014918b491fdbd43edecb2f272366f1b9", func := "dioptra/dioptralaw13.HouseKeeps", spec := "houseKeeps", inPlace := ["math/bits.Sub64"], unfollowed := true, recurses := true, apart := false, narrowed := true }
def HouseKeepsUptoSaid : Prop := houseKeepsUptoRow.holds Try.pinned (OpenSpec.upto houseKeepsSpec)

/-- 'dioptralaw13.HouseApplies', WHERE WHAT IT READS IS OF BULK AT MOST 1048576: true; the input reads as it did. -/
def houseAppliesUptoRow : OpenClaim := { program := "ytogcdllpjcnbkaa", sum := "8ea569e77a8add11fed9720e4f7b3fe014918b491fdbd43edecb2f272366f1b9", func := "dioptra/dioptralaw13.HouseApplies", spec := "houseApplies", inPlace := ["math/bits.Sub64", "math.Float64frombits", "math.Float64bits"], unfollowed := true, recurses := true, apart := false, narrowed := true }
def HouseAppliesUptoSaid : Prop := houseAppliesUptoRow.holds Try.pinned (OpenSpec.upto houseAppliesSpec)

/-- 'dioptralaw14.QrUpper', WHERE WHAT IT READS IS OF BULK AT MOST 1048576: true; the input reads as it did. -/
def qrUpperUptoRow : OpenClaim := { program := "ytogcdllpjcnbkaa", sum := "8ea569e77a8add11fed9720e4f7b3fe014918b491fdbd43edecb2f272366f1b9", func := "dioptra/dioptralaw14.QrUpper", spec := "qrUpper", inPlace := ["math/bits.Sub64"], unfollowed := true, recurses := true, apart := false, narrowed := true }
def QrUpperUptoSaid : Prop := qrUpperUptoRow.holds Try.pinned (OpenSpec.upto qrUpperSpec)

/-- 'dioptralaw14.QrTurned', WHERE WHAT IT READS IS OF BULK AT MOST 1048576: true; the input reads as it did. -/
def qrTurnedUptoRow : OpenClaim := { program := "ytogcdllpjcnbkaa", sum := "8ea569e77a8add11fed9720e4f7b3fe014918b491fdbd43edecb2f272366f1b9", func := "dioptra/dioptralaw14.QrTurned", spec := "qrTurned", inPlace := ["math/bits.Sub64", "math.Float64frombits", "math.Float64bits"], unfollowed := true, recurses := true, apart := false, narrowed := true }
def QrTurnedUptoSaid : Prop := qrTurnedUptoRow.holds Try.pinned (OpenSpec.upto qrTurnedSpec)

/-- 'dioptralaw15.RqFlips', WHERE WHAT IT READS IS OF BULK AT MOST 1048576: true; the input reads as it did. -/
def rqFlipsUptoRow : OpenClaim := { program := "ytogcdllpjcnbkaa", sum := "8ea569e77a8add11fed9720e4f7b3fe014918b491fdbd43edecb2f272366f1b9", func := "dioptra/dioptralaw15.RqFlips", spec := "rqFlips", inPlace := ["math/bits.Sub64"], unfollowed := true, recurses := true, apart := false, narrowed := true }
def RqFlipsUptoSaid : Prop := rqFlipsUptoRow.holds Try.pinned (OpenSpec.upto rqFlipsSpec)

/-- 'dioptralaw15.RqZeros', WHERE WHAT IT READS IS OF BULK AT MOST 1048576: true; the input reads as it did. -/
def rqZerosUptoRow : OpenClaim := { program := "ytogcdllpjcnbkaa", sum := "8ea569e77a8add11fed9720e4f7b3fe014918b491fdbd43edecb2f272366f1b9", func := "dioptra/dioptralaw15.RqZeros", spec := "rqZeros", inPlace := ["math/bits.Sub64"], unfollowed := true, recurses := true, apart := false, narrowed := true }
def RqZerosUptoSaid : Prop := rqZerosUptoRow.holds Try.pinned (OpenSpec.upto rqZerosSpec)

end Rows
end Go.Proofs.Ytogcdllpjcnbkaa
