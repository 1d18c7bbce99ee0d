/-
  No cell of these rows narrows 'for every input' (looked for: loops, veiled, ifaces, maps, wideKeys, modest, calm, conditions, laid).
  DERIVED. THE GIVEN ROWS OF THIS SEAT. 4 by the template 'for every input the law returns true; each argument reads behind the call as it read before'; 0 by the template 'total and deterministic' (their statements: YtjkdnmjmnlphkaaGreatTotals.lean).
  GIVEN WITH THE SEED: the statements are not yours to turn. If you find one false, say at which input.
  Laid BY PROGRAM, IN A SANDBOX (cutbox-rows.mjs): the forced cells as the released guide's own fill.sh prints them over the translation b90acb9546f9c806… (all of the seat's roots in one cut). By AI agents, Wed Nov 11 2026. No macro, syntax, notation, axiom, sorry.
-/
import Derived.Test.YtjkdnmjmnlphkaaGreatChecked
import GoSem.Claim
import GoSem.ClaimJoined
import GoSem.ClaimMapViews
import Derived.JoinedTies
import Derived.KernelRfl
namespace Go.Proofs.YtjkdnmjmnlphkaaGreat
/- THE CELL 'sum', in the pinned program and in every row, IS THE sha256 OF THE DUMP (.gsa) THAT YtjkdnmjmnlphkaaGreatProg.lean LOADS. Nothing in Lean hashes anything: it is a label: what it is worth is what the hold of that sum in a sandbox is worth. -/
noncomputable def Tryz.pinned : Pinned := { name := "ytjkdnmjmnlphkaagreat", sum := "b90acb9546f9c8061bb13344d90b2b6bab6e01dc3f4581dfbfce75f15c6cdc75", checked := Tryz.checked }
namespace Rows
def none {H : Type} : Left H := { results := [], args := [] }

/-- 'floodgatelaw15.VaultNames': WHATEVER THE INPUT: true; the input reads as it did. -/
def vaultNamesSpec : ChangeSpec := { name := "vaultNames", fn := fun _ => fun
  | [] => { results := [.lit (.bool true)], args := [] }
  | _ => none }
def vaultNamesRow : OpenClaim := { program := "ytjkdnmjmnlphkaagreat", sum := "b90acb9546f9c8061bb13344d90b2b6bab6e01dc3f4581dfbfce75f15c6cdc75", func := "floodgate/floodgatelaw15.VaultNames", spec := "vaultNames", unfollowed := true, recurses := true, plainKeys := false, apart := false }
def VaultNamesSaid : Prop := vaultNamesRow.holds Tryz.pinned (OpenSpec.ofChange vaultNamesSpec)

/-- ITS FALSE NEIGHBOUR: 'it returns false'. Refute it at one input. -/
def vaultNamesWrong : ChangeSpec := { name := "vaultNames", fn := fun _ => fun
  | [] => { results := [.lit (.bool false)], args := [] }
  | _ => none }
def VaultNamesWrongFalsely : Prop := vaultNamesRow.holds Tryz.pinned (OpenSpec.ofChange vaultNamesWrong)

/-- 'floodgatelaw15.VaultFull': WHATEVER THE INPUT: true; the input reads as it did. -/
def vaultFullSpec : ChangeSpec := { name := "vaultFull", fn := fun _ => fun
  | [d1, d2] => { results := [.lit (.bool true)], args := [d1, d2] }
  | _ => none }
def vaultFullRow : OpenClaim := { program := "ytjkdnmjmnlphkaagreat", sum := "b90acb9546f9c8061bb13344d90b2b6bab6e01dc3f4581dfbfce75f15c6cdc75", func := "floodgate/floodgatelaw15.VaultFull", spec := "vaultFull", unfollowed := true, recurses := true, plainKeys := false, apart := false }
def VaultFullSaid : Prop := vaultFullRow.holds Tryz.pinned (OpenSpec.ofChange vaultFullSpec)

/-- ITS FALSE NEIGHBOUR: 'it returns false'. Refute it at one input. -/
def vaultFullWrong : ChangeSpec := { name := "vaultFull", fn := fun _ => fun
  | [d1, d2] => { results := [.lit (.bool false)], args := [d1, d2] }
  | _ => none }
def VaultFullWrongFalsely : Prop := vaultFullRow.holds Tryz.pinned (OpenSpec.ofChange vaultFullWrong)

/-- 'floodgatelaw15.VaultRuns': WHATEVER THE INPUT: true; the input reads as it did. -/
def vaultRunsSpec : ChangeSpec := { name := "vaultRuns", fn := fun _ => fun
  | [d1, d2] => { results := [.lit (.bool true)], args := [d1, d2] }
  | _ => none }
def vaultRunsRow : OpenClaim := { program := "ytjkdnmjmnlphkaagreat", sum := "b90acb9546f9c8061bb13344d90b2b6bab6e01dc3f4581dfbfce75f15c6cdc75", func := "floodgate/floodgatelaw15.VaultRuns", spec := "vaultRuns", unfollowed := true, recurses := true, plainKeys := false, apart := false }
def VaultRunsSaid : Prop := vaultRunsRow.holds Tryz.pinned (OpenSpec.ofChange vaultRunsSpec)

/-- ITS FALSE NEIGHBOUR: 'it returns false'. Refute it at one input. -/
def vaultRunsWrong : ChangeSpec := { name := "vaultRuns", fn := fun _ => fun
  | [d1, d2] => { results := [.lit (.bool false)], args := [d1, d2] }
  | _ => none }
def VaultRunsWrongFalsely : Prop := vaultRunsRow.holds Tryz.pinned (OpenSpec.ofChange vaultRunsWrong)

/-- 'floodgatelaw15.VaultKeeps': WHATEVER THE INPUT: true; the input reads as it did. -/
def vaultKeepsSpec : ChangeSpec := { name := "vaultKeeps", fn := fun _ => fun
  | [d1, d2] => { results := [.lit (.bool true)], args := [d1, d2] }
  | _ => none }
def vaultKeepsRow : OpenClaim := { program := "ytjkdnmjmnlphkaagreat", sum := "b90acb9546f9c8061bb13344d90b2b6bab6e01dc3f4581dfbfce75f15c6cdc75", func := "floodgate/floodgatelaw15.VaultKeeps", spec := "vaultKeeps", unfollowed := true, recurses := true, plainKeys := false, apart := false }
def VaultKeepsSaid : Prop := vaultKeepsRow.holds Tryz.pinned (OpenSpec.ofChange vaultKeepsSpec)

/-- ITS FALSE NEIGHBOUR: 'it returns false'. Refute it at one input. -/
def vaultKeepsWrong : ChangeSpec := { name := "vaultKeeps", fn := fun _ => fun
  | [d1, d2] => { results := [.lit (.bool false)], args := [d1, d2] }
  | _ => none }
def VaultKeepsWrongFalsely : Prop := vaultKeepsRow.holds Tryz.pinned (OpenSpec.ofChange vaultKeepsWrong)

/- THE SECOND FORM. 'bulk': how many values and letters a reading holds, each counted each time it is reached (what is shared counts as often as it is met; a slice's spare places count too). A statement '..UptoSaid' is the law's where the arguments, and the package variables that the reading takes, are together of bulk at most 1048576: NARROWER than '..Said'. Prove '..Said' where nothing that the law and all that it calls make is longer than what came in: it says more and counts as full. Else prove '..UptoSaid'. A law counts once. -/
mutual
def uptoBulk {H : Type} : DataW H → Nat
  | .lit (.string bytes) => bytes.length + 1
  | .lit _ => 1
  | .nil => 1
  | .ptr d => uptoBulk d + 1
  | .slice elems spare => uptoBulkAll elems + uptoBulkAll spare + 1
  | .agg parts => uptoBulkAll parts + 1
  | .iface _ d => uptoBulk d + 1
  | .map entries => uptoBulkEntries entries + 1
  | .held _ => 1
def uptoBulkAll {H : Type} : List (DataW H) → Nat
  | [] => 0
  | d :: r => uptoBulk d + uptoBulkAll r
def uptoBulkEntries {H : Type} : List (Lit × DataW H) → Nat
  | [] => 0
  | x :: r => uptoBulkEntry x + uptoBulkEntries r
def uptoBulkEntry {H : Type} : Lit × DataW H → Nat
  | (.string bytes, d) => bytes.length + uptoBulk d + 1
  | (_, d) => uptoBulk d + 1
 end
def uptoSmall : (H : Type) → List (DataW H) → Bool := fun _ ds => decide (uptoBulkAll ds ≤ 1048576)
def OpenSpec.upto (s : _root_.Go.ChangeSpec) : _root_.Go.OpenSpec := { _root_.Go.OpenSpec.ofChange s with cond := some uptoSmall }

/-- 'floodgatelaw15.VaultNames', WHERE WHAT IT READS IS OF BULK AT MOST 1048576: true; the input reads as it did. -/
def vaultNamesUptoRow : OpenClaim := { program := "ytjkdnmjmnlphkaagreat", sum := "b90acb9546f9c8061bb13344d90b2b6bab6e01dc3f4581dfbfce75f15c6cdc75", func := "floodgate/floodgatelaw15.VaultNames", spec := "vaultNames", unfollowed := true, recurses := true, plainKeys := false, apart := false, narrowed := true }
def VaultNamesUptoSaid : Prop := vaultNamesUptoRow.holds Tryz.pinned (OpenSpec.upto vaultNamesSpec)

/-- 'floodgatelaw15.VaultFull', WHERE WHAT IT READS IS OF BULK AT MOST 1048576: true; the input reads as it did. -/
def vaultFullUptoRow : OpenClaim := { program := "ytjkdnmjmnlphkaagreat", sum := "b90acb9546f9c8061bb13344d90b2b6bab6e01dc3f4581dfbfce75f15c6cdc75", func := "floodgate/floodgatelaw15.VaultFull", spec := "vaultFull", unfollowed := true, recurses := true, plainKeys := false, apart := false, narrowed := true }
def VaultFullUptoSaid : Prop := vaultFullUptoRow.holds Tryz.pinned (OpenSpec.upto vaultFullSpec)

/-- 'floodgatelaw15.VaultRuns', WHERE WHAT IT READS IS OF BULK AT MOST 1048576: true; the input reads as it did. -/
def vaultRunsUptoRow : OpenClaim := { program := "ytjkdnmjmnlphkaagreat", sum := "b90acb9546f9c8061bb13344d90b2b6bab6e01dc3f4581dfbfce75f15c6cdc75", func := "floodgate/floodgatelaw15.VaultRuns", spec := "vaultRuns", unfollowed := true, recurses := true, plainKeys := false, apart := false, narrowed := true }
def VaultRunsUptoSaid : Prop := vaultRunsUptoRow.holds Tryz.pinned (OpenSpec.upto vaultRunsSpec)

/-- 'floodgatelaw15.VaultKeeps', WHERE WHAT IT READS IS OF BULK AT MOST 1048576: true; the input reads as it did. -/
def vaultKeepsUptoRow : OpenClaim := { program := "ytjkdnmjmnlphkaagreat", sum := "b90acb9546f9c8061bb13344d90b2b6bab6e01dc3f4581dfbfce75f15c6cdc75", func := "floodgate/floodgatelaw15.VaultKeeps", spec := "vaultKeeps", unfollowed := true, recurses := true, plainKeys := false, apart := false, narrowed := true }
def VaultKeepsUptoSaid : Prop := vaultKeepsUptoRow.holds Tryz.pinned (OpenSpec.upto vaultKeepsSpec)

end Rows
end Go.Proofs.YtjkdnmjmnlphkaaGreat
