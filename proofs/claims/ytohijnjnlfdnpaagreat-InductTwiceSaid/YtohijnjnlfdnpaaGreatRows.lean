/-
  No cell of these rows narrows 'for every input' (looked for: loops, veiled, ifaces, maps, wideKeys, modest, calm, conditions, laid).
  DERIVED. THE GIVEN ROWS OF THIS SEAT. 2 by the template 'for every input the law returns true; each argument reads behind the call as it read before'; 0 by the template 'total and deterministic' (their statements: YtohijnjnlfdnpaaGreatTotals.lean).
  GIVEN WITH THE SEED: the statements are not yours to turn. If you find one false, say at which input.
  Laid BY PROGRAM, IN A SANDBOX (cutbox-rows.mjs): the forced cells as the released guide's own fill.sh prints them over the translation 0d05293bfc0a9832… (all of the seat's roots in one cut). By AI agents, Wed Nov 11 2026. No macro, syntax, notation, axiom, sorry.
-/
import Derived.Test.YtohijnjnlfdnpaaGreatChecked
import GoSem.Claim
import GoSem.ClaimJoined
import GoSem.ClaimMapViews
import Derived.JoinedTies
import Derived.KernelRfl
namespace Go.Proofs.YtohijnjnlfdnpaaGreat
/- THE CELL 'sum', in the pinned program and in every row, IS THE sha256 OF THE DUMP (.gsa) THAT YtohijnjnlfdnpaaGreatProg.lean LOADS. Nothing in Lean hashes anything: it is a label: what it is worth is what the hold of that sum in a sandbox is worth. -/
noncomputable def Tryz.pinned : Pinned := { name := "ytohijnjnlfdnpaagreat", sum := "0d05293bfc0a9832db71dc349273bf578185be23f433bffaa1113e638838d524", checked := Tryz.checked }
namespace Rows
def none {H : Type} : Left H := { results := [], args := [] }

/-- 'battenlaw22.InductUniverses': WHATEVER THE INPUT: true; the input reads as it did. -/
def inductUniversesSpec : ChangeSpec := { name := "inductUniverses", fn := fun _ => fun
  | [d1, d2, d3, d4] => { results := [.lit (.bool true)], args := [d1, d2, d3, d4] }
  | _ => none }
def inductUniversesRow : OpenClaim := { program := "ytohijnjnlfdnpaagreat", sum := "0d05293bfc0a9832db71dc349273bf578185be23f433bffaa1113e638838d524", func := "batten/battenlaw22.InductUniverses", spec := "inductUniverses", inPlace := ["maps.clone"], unfollowed := true, recurses := true, plainKeys := false, apart := false }
def InductUniversesSaid : Prop := inductUniversesRow.holds Tryz.pinned (OpenSpec.ofChange inductUniversesSpec)

/-- ITS FALSE NEIGHBOUR: 'it returns false'. Refute it at one input. -/
def inductUniversesWrong : ChangeSpec := { name := "inductUniverses", fn := fun _ => fun
  | [d1, d2, d3, d4] => { results := [.lit (.bool false)], args := [d1, d2, d3, d4] }
  | _ => none }
def InductUniversesWrongFalsely : Prop := inductUniversesRow.holds Tryz.pinned (OpenSpec.ofChange inductUniversesWrong)

/-- 'battenlaw22.InductTwice': WHATEVER THE INPUT: true; the input reads as it did. -/
def inductTwiceSpec : ChangeSpec := { name := "inductTwice", fn := fun _ => fun
  | [d1, d2, d3] => { results := [.lit (.bool true)], args := [d1, d2, d3] }
  | _ => none }
def inductTwiceRow : OpenClaim := { program := "ytohijnjnlfdnpaagreat", sum := "0d05293bfc0a9832db71dc349273bf578185be23f433bffaa1113e638838d524", func := "batten/battenlaw22.InductTwice", spec := "inductTwice", inPlace := ["maps.clone"], unfollowed := true, recurses := true, plainKeys := false, apart := false }
def InductTwiceSaid : Prop := inductTwiceRow.holds Tryz.pinned (OpenSpec.ofChange inductTwiceSpec)

/-- ITS FALSE NEIGHBOUR: 'it returns false'. Refute it at one input. -/
def inductTwiceWrong : ChangeSpec := { name := "inductTwice", fn := fun _ => fun
  | [d1, d2, d3] => { results := [.lit (.bool false)], args := [d1, d2, d3] }
  | _ => none }
def InductTwiceWrongFalsely : Prop := inductTwiceRow.holds Tryz.pinned (OpenSpec.ofChange inductTwiceWrong)

/- THE SECOND FORM. 'bulk': how many values and letters a reading holds, each counted each time it is reached (what is shared counts as often as it is met; a slice's spare places count too). A statement '..UptoSaid' is the law's where the arguments, and the package variables that the reading takes, are together of bulk at most 1048576: NARROWER than '..Said'. Prove '..Said' where nothing that the law and all that it calls make is longer than what came in: it says more and counts as full. Else prove '..UptoSaid'. A law counts once. -/
mutual
def uptoBulk {H : Type} : DataW H → Nat
  | .lit (.string bytes) => bytes.length + 1
  | .lit _ => 1
  | .nil => 1
  | .ptr d => uptoBulk d + 1
  | .slice elems spare => uptoBulkAll elems + uptoBulkAll spare + 1
  | .agg parts => uptoBulkAll parts + 1
  | .iface _ d => uptoBulk d + 1
  | .map entries => uptoBulkEntries entries + 1
  | .held _ => 1
def uptoBulkAll {H : Type} : List (DataW H) → Nat
  | [] => 0
  | d :: r => uptoBulk d + uptoBulkAll r
def uptoBulkEntries {H : Type} : List (Lit × DataW H) → Nat
  | [] => 0
  | x :: r => uptoBulkEntry x + uptoBulkEntries r
def uptoBulkEntry {H : Type} : Lit × DataW H → Nat
  | (.string bytes, d) => bytes.length + uptoBulk d + 1
  | (_, d) => uptoBulk d + 1
 end
def uptoSmall : (H : Type) → List (DataW H) → Bool := fun _ ds => decide (uptoBulkAll ds ≤ 1048576)
def OpenSpec.upto (s : _root_.Go.ChangeSpec) : _root_.Go.OpenSpec := { _root_.Go.OpenSpec.ofChange s with cond := some uptoSmall }

/-- 'battenlaw22.InductUniverses', WHERE WHAT IT READS IS OF BULK AT MOST 1048576: true; the input reads as it did. -/
def inductUniversesUptoRow : OpenClaim := { program := "ytohijnjnlfdnpaagreat", sum := "0d05293bfc0a9832db71dc349273bf578185be23f433bffaa1113e638838d524", func := "batten/battenlaw22.InductUniverses", spec := "inductUniverses", inPlace := ["maps.clone"], unfollowed := true, recurses := true, plainKeys := false, apart := false, narrowed := true }
def InductUniversesUptoSaid : Prop := inductUniversesUptoRow.holds Tryz.pinned (OpenSpec.upto inductUniversesSpec)

/-- 'battenlaw22.InductTwice', WHERE WHAT IT READS IS OF BULK AT MOST 1048576: true; the input reads as it did. -/
def inductTwiceUptoRow : OpenClaim := { program := "ytohijnjnlfdnpaagreat", sum := "0d05293bfc0a9832db71dc349273bf578185be23f433bffaa1113e638838d524", func := "batten/battenlaw22.InductTwice", spec := "inductTwice", inPlace := ["maps.clone"], unfollowed := true, recurses := true, plainKeys := false, apart := false, narrowed := true }
def InductTwiceUptoSaid : Prop := inductTwiceUptoRow.holds Tryz.pinned (OpenSpec.upto inductTwiceSpec)

end Rows
end Go.Proofs.YtohijnjnlfdnpaaGreat
