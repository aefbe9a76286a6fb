/-
  No cell of these rows narrows 'for every input' (looked for: loops, veiled, ifaces, maps, wideKeys, modest, calm, conditions, laid).
  DERIVED. THE GIVEN ROWS OF THIS SEAT. 8 by the template 'for every input the law returns true; each argument reads behind the call as it read before'; 0 by the template 'total and deterministic' (their statements: YthlkghfkcbpacaaGreatTotals.lean).
  GIVEN WITH THE SEED: the statements are not yours to turn. If you find one false, say at which input.
  Laid BY PROGRAM, IN A SANDBOX (cutbox-rows.mjs): the forced cells as the released guide's own fill.sh prints them over the translation 91e207f03a8993ea… (all of the seat's roots in one cut). By AI agents, Wed Nov 11 2026. No macro, syntax, notation, axiom, sorry.
-/
import Derived.Test.YthlkghfkcbpacaaGreatChecked
import GoSem.Claim
import GoSem.ClaimJoined
import GoSem.ClaimMapViews
import Derived.JoinedTies
import Derived.KernelRfl
namespace Go.Proofs.YthlkghfkcbpacaaGreat
/- THE CELL 'sum', in the pinned program and in every row, IS THE sha256 OF THE DUMP (.gsa) THAT YthlkghfkcbpacaaGreatProg.lean LOADS. Nothing in Lean hashes anything: it is a label: what it is worth is what the hold of that sum in a sandbox is worth. -/
noncomputable def Tryz.pinned : Pinned := { name := "ythlkghfkcbpacaagreat", sum := "91e207f03a8993ea1802fb6575e9fce09efb250eb1ad765da325cc838e4e021c", checked := Tryz.checked }
namespace Rows
def none {H : Type} : Left H := { results := [], args := [] }

/-- 'drayagelaw10.AdmitNames': WHATEVER THE INPUT: true; the input reads as it did. -/
def admitNamesSpec : ChangeSpec := { name := "admitNames", fn := fun _ => fun
  | [] => { results := [.lit (.bool true)], args := [] }
  | _ => none }
def admitNamesRow : OpenClaim := { program := "ythlkghfkcbpacaagreat", sum := "91e207f03a8993ea1802fb6575e9fce09efb250eb1ad765da325cc838e4e021c", func := "drayage/drayagelaw10.AdmitNames", spec := "admitNames", inPlace := ["internal/bytealg.abigen_runtime_cmpstring"], unfollowed := true, recurses := true, plainKeys := false, apart := false }
def AdmitNamesSaid : Prop := admitNamesRow.holds Tryz.pinned (OpenSpec.ofChange admitNamesSpec)

/-- ITS FALSE NEIGHBOUR: 'it returns false'. Refute it at one input. -/
def admitNamesWrong : ChangeSpec := { name := "admitNames", fn := fun _ => fun
  | [] => { results := [.lit (.bool false)], args := [] }
  | _ => none }
def AdmitNamesWrongFalsely : Prop := admitNamesRow.holds Tryz.pinned (OpenSpec.ofChange admitNamesWrong)

/-- 'drayagelaw10.AdmitKeeps': WHATEVER THE INPUT: true; the input reads as it did. -/
def admitKeepsSpec : ChangeSpec := { name := "admitKeeps", fn := fun _ => fun
  | [d1, d2, d3] => { results := [.lit (.bool true)], args := [d1, d2, d3] }
  | _ => none }
def admitKeepsRow : OpenClaim := { program := "ythlkghfkcbpacaagreat", sum := "91e207f03a8993ea1802fb6575e9fce09efb250eb1ad765da325cc838e4e021c", func := "drayage/drayagelaw10.AdmitKeeps", spec := "admitKeeps", inPlace := ["internal/bytealg.abigen_runtime_cmpstring"], unfollowed := true, recurses := true, plainKeys := false, apart := false }
def AdmitKeepsSaid : Prop := admitKeepsRow.holds Tryz.pinned (OpenSpec.ofChange admitKeepsSpec)

/-- ITS FALSE NEIGHBOUR: 'it returns false'. Refute it at one input. -/
def admitKeepsWrong : ChangeSpec := { name := "admitKeeps", fn := fun _ => fun
  | [d1, d2, d3] => { results := [.lit (.bool false)], args := [d1, d2, d3] }
  | _ => none }
def AdmitKeepsWrongFalsely : Prop := admitKeepsRow.holds Tryz.pinned (OpenSpec.ofChange admitKeepsWrong)

/-- 'drayagelaw10.AdmitBack': WHATEVER THE INPUT: true; the input reads as it did. -/
def admitBackSpec : ChangeSpec := { name := "admitBack", fn := fun _ => fun
  | [d1, d2] => { results := [.lit (.bool true)], args := [d1, d2] }
  | _ => none }
def admitBackRow : OpenClaim := { program := "ythlkghfkcbpacaagreat", sum := "91e207f03a8993ea1802fb6575e9fce09efb250eb1ad765da325cc838e4e021c", func := "drayage/drayagelaw10.AdmitBack", spec := "admitBack", inPlace := ["internal/bytealg.abigen_runtime_cmpstring"], unfollowed := true, recurses := true, plainKeys := false, apart := false }
def AdmitBackSaid : Prop := admitBackRow.holds Tryz.pinned (OpenSpec.ofChange admitBackSpec)

/-- ITS FALSE NEIGHBOUR: 'it returns false'. Refute it at one input. -/
def admitBackWrong : ChangeSpec := { name := "admitBack", fn := fun _ => fun
  | [d1, d2] => { results := [.lit (.bool false)], args := [d1, d2] }
  | _ => none }
def AdmitBackWrongFalsely : Prop := admitBackRow.holds Tryz.pinned (OpenSpec.ofChange admitBackWrong)

/-- 'drayagelaw14.FitRanks': WHATEVER THE INPUT: true; the input reads as it did. -/
def fitRanksSpec : ChangeSpec := { name := "fitRanks", fn := fun _ => fun
  | [d1, d2, d3] => { results := [.lit (.bool true)], args := [d1, d2, d3] }
  | _ => none }
def fitRanksRow : OpenClaim := { program := "ythlkghfkcbpacaagreat", sum := "91e207f03a8993ea1802fb6575e9fce09efb250eb1ad765da325cc838e4e021c", func := "drayage/drayagelaw14.FitRanks", spec := "fitRanks", inPlace := ["internal/bytealg.abigen_runtime_cmpstring"], unfollowed := true, recurses := true, plainKeys := false, apart := false }
def FitRanksSaid : Prop := fitRanksRow.holds Tryz.pinned (OpenSpec.ofChange fitRanksSpec)

/-- ITS FALSE NEIGHBOUR: 'it returns false'. Refute it at one input. -/
def fitRanksWrong : ChangeSpec := { name := "fitRanks", fn := fun _ => fun
  | [d1, d2, d3] => { results := [.lit (.bool false)], args := [d1, d2, d3] }
  | _ => none }
def FitRanksWrongFalsely : Prop := fitRanksRow.holds Tryz.pinned (OpenSpec.ofChange fitRanksWrong)

/-- 'drayagelaw14.FitPacks': WHATEVER THE INPUT: true; the input reads as it did. -/
def fitPacksSpec : ChangeSpec := { name := "fitPacks", fn := fun _ => fun
  | [d1, d2, d3] => { results := [.lit (.bool true)], args := [d1, d2, d3] }
  | _ => none }
def fitPacksRow : OpenClaim := { program := "ythlkghfkcbpacaagreat", sum := "91e207f03a8993ea1802fb6575e9fce09efb250eb1ad765da325cc838e4e021c", func := "drayage/drayagelaw14.FitPacks", spec := "fitPacks", inPlace := ["internal/bytealg.abigen_runtime_cmpstring"], unfollowed := true, recurses := true, plainKeys := false, apart := false }
def FitPacksSaid : Prop := fitPacksRow.holds Tryz.pinned (OpenSpec.ofChange fitPacksSpec)

/-- ITS FALSE NEIGHBOUR: 'it returns false'. Refute it at one input. -/
def fitPacksWrong : ChangeSpec := { name := "fitPacks", fn := fun _ => fun
  | [d1, d2, d3] => { results := [.lit (.bool false)], args := [d1, d2, d3] }
  | _ => none }
def FitPacksWrongFalsely : Prop := fitPacksRow.holds Tryz.pinned (OpenSpec.ofChange fitPacksWrong)

/-- 'drayagelaw14.FitBest': WHATEVER THE INPUT: true; the input reads as it did. -/
def fitBestSpec : ChangeSpec := { name := "fitBest", fn := fun _ => fun
  | [d1, d2] => { results := [.lit (.bool true)], args := [d1, d2] }
  | _ => none }
def fitBestRow : OpenClaim := { program := "ythlkghfkcbpacaagreat", sum := "91e207f03a8993ea1802fb6575e9fce09efb250eb1ad765da325cc838e4e021c", func := "drayage/drayagelaw14.FitBest", spec := "fitBest", inPlace := ["internal/bytealg.abigen_runtime_cmpstring"], unfollowed := true, recurses := true, plainKeys := false, apart := false }
def FitBestSaid : Prop := fitBestRow.holds Tryz.pinned (OpenSpec.ofChange fitBestSpec)

/-- ITS FALSE NEIGHBOUR: 'it returns false'. Refute it at one input. -/
def fitBestWrong : ChangeSpec := { name := "fitBest", fn := fun _ => fun
  | [d1, d2] => { results := [.lit (.bool false)], args := [d1, d2] }
  | _ => none }
def FitBestWrongFalsely : Prop := fitBestRow.holds Tryz.pinned (OpenSpec.ofChange fitBestWrong)

/-- 'drayagelaw14.FitNames': WHATEVER THE INPUT: true; the input reads as it did. -/
def fitNamesSpec : ChangeSpec := { name := "fitNames", fn := fun _ => fun
  | [] => { results := [.lit (.bool true)], args := [] }
  | _ => none }
def fitNamesRow : OpenClaim := { program := "ythlkghfkcbpacaagreat", sum := "91e207f03a8993ea1802fb6575e9fce09efb250eb1ad765da325cc838e4e021c", func := "drayage/drayagelaw14.FitNames", spec := "fitNames", inPlace := ["internal/bytealg.abigen_runtime_cmpstring"], unfollowed := true, recurses := true, plainKeys := false, apart := false }
def FitNamesSaid : Prop := fitNamesRow.holds Tryz.pinned (OpenSpec.ofChange fitNamesSpec)

/-- ITS FALSE NEIGHBOUR: 'it returns false'. Refute it at one input. -/
def fitNamesWrong : ChangeSpec := { name := "fitNames", fn := fun _ => fun
  | [] => { results := [.lit (.bool false)], args := [] }
  | _ => none }
def FitNamesWrongFalsely : Prop := fitNamesRow.holds Tryz.pinned (OpenSpec.ofChange fitNamesWrong)

/-- 'drayagelaw14.FitKeeps': WHATEVER THE INPUT: true; the input reads as it did. -/
def fitKeepsSpec : ChangeSpec := { name := "fitKeeps", fn := fun _ => fun
  | [d1, d2, d3] => { results := [.lit (.bool true)], args := [d1, d2, d3] }
  | _ => none }
def fitKeepsRow : OpenClaim := { program := "ythlkghfkcbpacaagreat", sum := "91e207f03a8993ea1802fb6575e9fce09efb250eb1ad765da325cc838e4e021c", func := "drayage/drayagelaw14.FitKeeps", spec := "fitKeeps", inPlace := ["internal/bytealg.abigen_runtime_cmpstring"], unfollowed := true, recurses := true, plainKeys := false, apart := false }
def FitKeepsSaid : Prop := fitKeepsRow.holds Tryz.pinned (OpenSpec.ofChange fitKeepsSpec)

/-- ITS FALSE NEIGHBOUR: 'it returns false'. Refute it at one input. -/
def fitKeepsWrong : ChangeSpec := { name := "fitKeeps", fn := fun _ => fun
  | [d1, d2, d3] => { results := [.lit (.bool false)], args := [d1, d2, d3] }
  | _ => none }
def FitKeepsWrongFalsely : Prop := fitKeepsRow.holds Tryz.pinned (OpenSpec.ofChange fitKeepsWrong)

/- THE SECOND FORM. 'bulk': how many values and letters a reading holds, each counted each time it is reached (what is shared counts as often as it is met; a slice's spare places count too). A statement '..UptoSaid' is the law's where the arguments, and the package variables that the reading takes, are together of bulk at most 1048576: NARROWER than '..Said'. Prove '..Said' where nothing that the law and all that it calls make is longer than what came in: it says more and counts as full. Else prove '..UptoSaid'. A law counts once. -/
mutual
def uptoBulk {H : Type} : DataW H → Nat
  | .lit (.string bytes) => bytes.length + 1
  | .lit _ => 1
  | .nil => 1
  | .ptr d => uptoBulk d + 1
  | .slice elems spare => uptoBulkAll elems + uptoBulkAll spare + 1
  | .agg parts => uptoBulkAll parts + 1
  | .iface _ d => uptoBulk d + 1
  | .map entries => uptoBulkEntries entries + 1
  | .held _ => 1
def uptoBulkAll {H : Type} : List (DataW H) → Nat
  | [] => 0
  | d :: r => uptoBulk d + uptoBulkAll r
def uptoBulkEntries {H : Type} : List (Lit × DataW H) → Nat
  | [] => 0
  | x :: r => uptoBulkEntry x + uptoBulkEntries r
def uptoBulkEntry {H : Type} : Lit × DataW H → Nat
  | (.string bytes, d) => bytes.length + uptoBulk d + 1
  | (_, d) => uptoBulk d + 1
 end
def uptoSmall : (H : Type) → List (DataW H) → Bool := fun _ ds => decide (uptoBulkAll ds ≤ 1048576)
def OpenSpec.upto (s : _root_.Go.ChangeSpec) : _root_.Go.OpenSpec := { _root_.Go.OpenSpec.ofChange s with cond := some uptoSmall }

/-- 'drayagelaw10.AdmitNames', WHERE WHAT IT READS IS OF BULK AT MOST 1048576: true; the input reads as it did. -/
def admitNamesUptoRow : OpenClaim := { program := "ythlkghfkcbpacaagreat", sum := "91e207f03a8993ea1802fb6575e9fce09efb250eb1ad765da325cc838e4e021c", func := "drayage/drayagelaw10.AdmitNames", spec := "admitNames", inPlace := ["internal/bytealg.abigen_runtime_cmpstring"], unfollowed := true, recurses := true, plainKeys := false, apart := false, narrowed := true }
def AdmitNamesUptoSaid : Prop := admitNamesUptoRow.holds Tryz.pinned (OpenSpec.upto admitNamesSpec)

/-- 'drayagelaw10.AdmitKeeps', WHERE WHAT IT READS IS OF BULK AT MOST 1048576: true; the input reads as it did. -/
def admitKeepsUptoRow : OpenClaim := { program := "ythlkghfkcbpacaagreat", sum := "91e207f03a8993ea1802fb6575e9fce09efb250eb1ad765da325cc838e4e021c", func := "drayage/drayagelaw10.AdmitKeeps", spec := "admitKeeps", inPlace := ["internal/bytealg.abigen_runtime_cmpstring"], unfollowed := true, recurses := true, plainKeys := false, apart := false, narrowed := true }
def AdmitKeepsUptoSaid : Prop := admitKeepsUptoRow.holds Tryz.pinned (OpenSpec.upto admitKeepsSpec)

/-- 'drayagelaw10.AdmitBack', WHERE WHAT IT READS IS OF BULK AT MOST 1048576: true; the input reads as it did. -/
def admitBackUptoRow : OpenClaim := { program := "ythlkghfkcbpacaagreat", sum := "91e207f03a8993ea1802fb6575e9fce09efb250eb1ad765da325cc838e4e021c", func := "drayage/drayagelaw10.AdmitBack", spec := "admitBack", inPlace := ["internal/bytealg.abigen_runtime_cmpstring"], unfollowed := true, recurses := true, plainKeys := false, apart := false, narrowed := true }
def AdmitBackUptoSaid : Prop := admitBackUptoRow.holds Tryz.pinned (OpenSpec.upto admitBackSpec)

/-- 'drayagelaw14.FitRanks', WHERE WHAT IT READS IS OF BULK AT MOST 1048576: true; the input reads as it did. -/
def fitRanksUptoRow : OpenClaim := { program := "ythlkghfkcbpacaagreat", sum := "91e207f03a8993ea1802fb6575e9fce09efb250eb1ad765da325cc838e4e021c", func := "drayage/drayagelaw14.FitRanks", spec := "fitRanks", inPlace := ["internal/bytealg.abigen_runtime_cmpstring"], unfollowed := true, recurses := true, plainKeys := false, apart := false, narrowed := true }
def FitRanksUptoSaid : Prop := fitRanksUptoRow.holds Tryz.pinned (OpenSpec.upto fitRanksSpec)

/-- 'drayagelaw14.FitPacks', WHERE WHAT IT READS IS OF BULK AT MOST 1048576: true; the input reads as it did. -/
def fitPacksUptoRow : OpenClaim := { program := "ythlkghfkcbpacaagreat", sum := "91e207f03a8993ea1802fb6575e9fce09efb250eb1ad765da325cc838e4e021c", func := "drayage/drayagelaw14.FitPacks", spec := "fitPacks", inPlace := ["internal/bytealg.abigen_runtime_cmpstring"], unfollowed := true, recurses := true, plainKeys := false, apart := false, narrowed := true }
def FitPacksUptoSaid : Prop := fitPacksUptoRow.holds Tryz.pinned (OpenSpec.upto fitPacksSpec)

/-- 'drayagelaw14.FitBest', WHERE WHAT IT READS IS OF BULK AT MOST 1048576: true; the input reads as it did. -/
def fitBestUptoRow : OpenClaim := { program := "ythlkghfkcbpacaagreat", sum := "91e207f03a8993ea1802fb6575e9fce09efb250eb1ad765da325cc838e4e021c", func := "drayage/drayagelaw14.FitBest", spec := "fitBest", inPlace := ["internal/bytealg.abigen_runtime_cmpstring"], unfollowed := true, recurses := true, plainKeys := false, apart := false, narrowed := true }
def FitBestUptoSaid : Prop := fitBestUptoRow.holds Tryz.pinned (OpenSpec.upto fitBestSpec)

/-- 'drayagelaw14.FitNames', WHERE WHAT IT READS IS OF BULK AT MOST 1048576: true; the input reads as it did. -/
def fitNamesUptoRow : OpenClaim := { program := "ythlkghfkcbpacaagreat", sum := "91e207f03a8993ea1802fb6575e9fce09efb250eb1ad765da325cc838e4e021c", func := "drayage/drayagelaw14.FitNames", spec := "fitNames", inPlace := ["internal/bytealg.abigen_runtime_cmpstring"], unfollowed := true, recurses := true, plainKeys := false, apart := false, narrowed := true }
def FitNamesUptoSaid : Prop := fitNamesUptoRow.holds Tryz.pinned (OpenSpec.upto fitNamesSpec)

/-- 'drayagelaw14.FitKeeps', WHERE WHAT IT READS IS OF BULK AT MOST 1048576: true; the input reads as it did. -/
def fitKeepsUptoRow : OpenClaim := { program := "ythlkghfkcbpacaagreat", sum := "91e207f03a8993ea1802fb6575e9fce09efb250eb1ad765da325cc838e4e021c", func := "drayage/drayagelaw14.FitKeeps", spec := "fitKeeps", inPlace := ["internal/bytealg.abigen_runtime_cmpstring"], unfollowed := true, recurses := true, plainKeys := false, apart := false, narrowed := true }
def FitKeepsUptoSaid : Prop := fitKeepsUptoRow.holds Tryz.pinned (OpenSpec.upto fitKeepsSpec)

end Rows
end Go.Proofs.YthlkghfkcbpacaaGreat
