/-
  No cell of these rows narrows 'for every input' (looked for: loops, veiled, ifaces, maps, wideKeys, modest, calm, conditions, laid).
  DERIVED. THE GIVEN ROWS OF THIS SEAT. 10 by the template 'for every input the law returns true; each argument reads behind the call as it read before'; 0 by the template 'total and deterministic' (their statements: YtlckpojpnfidoaaGreatTotals.lean).
  GIVEN WITH THE SEED: the statements are not yours to turn. If you find one false, say at which input.
  Laid BY PROGRAM, IN A SANDBOX (cutbox-rows.mjs): the forced cells as the released guide's own fill.sh prints them over the translation cf5fdcffcc81c63f… (all of the seat's roots in one cut). By AI agents, Wed Nov 11 2026. No macro, syntax, notation, axiom, sorry.
-/
import Derived.Test.YtlckpojpnfidoaaGreatChecked
import GoSem.Claim
import GoSem.ClaimJoined
import GoSem.ClaimMapViews
import Derived.JoinedTies
import Derived.KernelRfl
namespace Go.Proofs.YtlckpojpnfidoaaGreat
/- THE CELL 'sum', in the pinned program and in every row, IS THE sha256 OF THE DUMP (.gsa) THAT YtlckpojpnfidoaaGreatProg.lean LOADS. Nothing in Lean hashes anything: it is a label: what it is worth is what the hold of that sum in a sandbox is worth. -/
noncomputable def Tryz.pinned : Pinned := { name := "ytlckpojpnfidoaagreat", sum := "cf5fdcffcc81c63f2cc426d891ec5eb5407d8c6c691e4bc47cd60fdabb739a58", checked := Tryz.checked }
namespace Rows
def none {H : Type} : Left H := { results := [], args := [] }

/-- 'drayagelaw14.FitKeeps': WHATEVER THE INPUT: true; the input reads as it did. -/
def fitKeepsSpec : ChangeSpec := { name := "fitKeeps", fn := fun _ => fun
  | [d1, d2, d3] => { results := [.lit (.bool true)], args := [d1, d2, d3] }
  | _ => none }
def fitKeepsRow : OpenClaim := { program := "ytlckpojpnfidoaagreat", sum := "cf5fdcffcc81c63f2cc426d891ec5eb5407d8c6c691e4bc47cd60fdabb739a58", func := "drayage/drayagelaw14.FitKeeps", spec := "fitKeeps", inPlace := ["internal/bytealg.abigen_runtime_cmpstring"], unfollowed := true, recurses := true, plainKeys := false, apart := false }
def FitKeepsSaid : Prop := fitKeepsRow.holds Tryz.pinned (OpenSpec.ofChange fitKeepsSpec)

/-- ITS FALSE NEIGHBOUR: 'it returns false'. Refute it at one input. -/
def fitKeepsWrong : ChangeSpec := { name := "fitKeeps", fn := fun _ => fun
  | [d1, d2, d3] => { results := [.lit (.bool false)], args := [d1, d2, d3] }
  | _ => none }
def FitKeepsWrongFalsely : Prop := fitKeepsRow.holds Tryz.pinned (OpenSpec.ofChange fitKeepsWrong)

/-- 'drayagelaw13.DetectTells': WHATEVER THE INPUT: true; the input reads as it did. -/
def detectTellsSpec : ChangeSpec := { name := "detectTells", fn := fun _ => fun
  | [d1, d2, d3] => { results := [.lit (.bool true)], args := [d1, d2, d3] }
  | _ => none }
def detectTellsRow : OpenClaim := { program := "ytlckpojpnfidoaagreat", sum := "cf5fdcffcc81c63f2cc426d891ec5eb5407d8c6c691e4bc47cd60fdabb739a58", func := "drayage/drayagelaw13.DetectTells", spec := "detectTells", inPlace := ["internal/bytealg.abigen_runtime_cmpstring"], unfollowed := true, recurses := true, plainKeys := false, apart := false }
def DetectTellsSaid : Prop := detectTellsRow.holds Tryz.pinned (OpenSpec.ofChange detectTellsSpec)

/-- ITS FALSE NEIGHBOUR: 'it returns false'. Refute it at one input. -/
def detectTellsWrong : ChangeSpec := { name := "detectTells", fn := fun _ => fun
  | [d1, d2, d3] => { results := [.lit (.bool false)], args := [d1, d2, d3] }
  | _ => none }
def DetectTellsWrongFalsely : Prop := detectTellsRow.holds Tryz.pinned (OpenSpec.ofChange detectTellsWrong)

/-- 'drayagelaw13.DetectHeat': WHATEVER THE INPUT: true; the input reads as it did. -/
def detectHeatSpec : ChangeSpec := { name := "detectHeat", fn := fun _ => fun
  | [d1, d2] => { results := [.lit (.bool true)], args := [d1, d2] }
  | _ => none }
def detectHeatRow : OpenClaim := { program := "ytlckpojpnfidoaagreat", sum := "cf5fdcffcc81c63f2cc426d891ec5eb5407d8c6c691e4bc47cd60fdabb739a58", func := "drayage/drayagelaw13.DetectHeat", spec := "detectHeat", inPlace := ["internal/bytealg.abigen_runtime_cmpstring"], unfollowed := true, recurses := true, plainKeys := false, apart := false }
def DetectHeatSaid : Prop := detectHeatRow.holds Tryz.pinned (OpenSpec.ofChange detectHeatSpec)

/-- ITS FALSE NEIGHBOUR: 'it returns false'. Refute it at one input. -/
def detectHeatWrong : ChangeSpec := { name := "detectHeat", fn := fun _ => fun
  | [d1, d2] => { results := [.lit (.bool false)], args := [d1, d2] }
  | _ => none }
def DetectHeatWrongFalsely : Prop := detectHeatRow.holds Tryz.pinned (OpenSpec.ofChange detectHeatWrong)

/-- 'drayagelaw13.DetectOnce': WHATEVER THE INPUT: true; the input reads as it did. -/
def detectOnceSpec : ChangeSpec := { name := "detectOnce", fn := fun _ => fun
  | [d1, d2, d3] => { results := [.lit (.bool true)], args := [d1, d2, d3] }
  | _ => none }
def detectOnceRow : OpenClaim := { program := "ytlckpojpnfidoaagreat", sum := "cf5fdcffcc81c63f2cc426d891ec5eb5407d8c6c691e4bc47cd60fdabb739a58", func := "drayage/drayagelaw13.DetectOnce", spec := "detectOnce", inPlace := ["internal/bytealg.abigen_runtime_cmpstring"], unfollowed := true, recurses := true, plainKeys := false, apart := false }
def DetectOnceSaid : Prop := detectOnceRow.holds Tryz.pinned (OpenSpec.ofChange detectOnceSpec)

/-- ITS FALSE NEIGHBOUR: 'it returns false'. Refute it at one input. -/
def detectOnceWrong : ChangeSpec := { name := "detectOnce", fn := fun _ => fun
  | [d1, d2, d3] => { results := [.lit (.bool false)], args := [d1, d2, d3] }
  | _ => none }
def DetectOnceWrongFalsely : Prop := detectOnceRow.holds Tryz.pinned (OpenSpec.ofChange detectOnceWrong)

/-- 'drayagelaw13.DetectSafe': WHATEVER THE INPUT: true; the input reads as it did. -/
def detectSafeSpec : ChangeSpec := { name := "detectSafe", fn := fun _ => fun
  | [d1, d2] => { results := [.lit (.bool true)], args := [d1, d2] }
  | _ => none }
def detectSafeRow : OpenClaim := { program := "ytlckpojpnfidoaagreat", sum := "cf5fdcffcc81c63f2cc426d891ec5eb5407d8c6c691e4bc47cd60fdabb739a58", func := "drayage/drayagelaw13.DetectSafe", spec := "detectSafe", inPlace := ["internal/bytealg.abigen_runtime_cmpstring"], unfollowed := true, recurses := true, plainKeys := false, apart := false }
def DetectSafeSaid : Prop := detectSafeRow.holds Tryz.pinned (OpenSpec.ofChange detectSafeSpec)

/-- ITS FALSE NEIGHBOUR: 'it returns false'. Refute it at one input. -/
def detectSafeWrong : ChangeSpec := { name := "detectSafe", fn := fun _ => fun
  | [d1, d2] => { results := [.lit (.bool false)], args := [d1, d2] }
  | _ => none }
def DetectSafeWrongFalsely : Prop := detectSafeRow.holds Tryz.pinned (OpenSpec.ofChange detectSafeWrong)

/-- 'drayagelaw17.HopTries': WHATEVER THE INPUT: true; the input reads as it did. -/
def hopTriesSpec : ChangeSpec := { name := "hopTries", fn := fun _ => fun
  | [d1, d2, d3] => { results := [.lit (.bool true)], args := [d1, d2, d3] }
  | _ => none }
def hopTriesRow : OpenClaim := { program := "ytlckpojpnfidoaagreat", sum := "cf5fdcffcc81c63f2cc426d891ec5eb5407d8c6c691e4bc47cd60fdabb739a58", func := "drayage/drayagelaw17.HopTries", spec := "hopTries", inPlace := ["internal/bytealg.abigen_runtime_cmpstring"], unfollowed := true, recurses := true, plainKeys := false, apart := false }
def HopTriesSaid : Prop := hopTriesRow.holds Tryz.pinned (OpenSpec.ofChange hopTriesSpec)

/-- ITS FALSE NEIGHBOUR: 'it returns false'. Refute it at one input. -/
def hopTriesWrong : ChangeSpec := { name := "hopTries", fn := fun _ => fun
  | [d1, d2, d3] => { results := [.lit (.bool false)], args := [d1, d2, d3] }
  | _ => none }
def HopTriesWrongFalsely : Prop := hopTriesRow.holds Tryz.pinned (OpenSpec.ofChange hopTriesWrong)

/-- 'drayagelaw17.HopEnds': WHATEVER THE INPUT: true; the input reads as it did. -/
def hopEndsSpec : ChangeSpec := { name := "hopEnds", fn := fun _ => fun
  | [d1, d2, d3] => { results := [.lit (.bool true)], args := [d1, d2, d3] }
  | _ => none }
def hopEndsRow : OpenClaim := { program := "ytlckpojpnfidoaagreat", sum := "cf5fdcffcc81c63f2cc426d891ec5eb5407d8c6c691e4bc47cd60fdabb739a58", func := "drayage/drayagelaw17.HopEnds", spec := "hopEnds", inPlace := ["internal/bytealg.abigen_runtime_cmpstring"], unfollowed := true, recurses := true, plainKeys := false, apart := false }
def HopEndsSaid : Prop := hopEndsRow.holds Tryz.pinned (OpenSpec.ofChange hopEndsSpec)

/-- ITS FALSE NEIGHBOUR: 'it returns false'. Refute it at one input. -/
def hopEndsWrong : ChangeSpec := { name := "hopEnds", fn := fun _ => fun
  | [d1, d2, d3] => { results := [.lit (.bool false)], args := [d1, d2, d3] }
  | _ => none }
def HopEndsWrongFalsely : Prop := hopEndsRow.holds Tryz.pinned (OpenSpec.ofChange hopEndsWrong)

/-- 'drayagelaw17.HopNames': WHATEVER THE INPUT: true; the input reads as it did. -/
def hopNamesSpec : ChangeSpec := { name := "hopNames", fn := fun _ => fun
  | [] => { results := [.lit (.bool true)], args := [] }
  | _ => none }
def hopNamesRow : OpenClaim := { program := "ytlckpojpnfidoaagreat", sum := "cf5fdcffcc81c63f2cc426d891ec5eb5407d8c6c691e4bc47cd60fdabb739a58", func := "drayage/drayagelaw17.HopNames", spec := "hopNames", inPlace := ["internal/bytealg.abigen_runtime_cmpstring"], unfollowed := true, recurses := true, plainKeys := false, apart := false }
def HopNamesSaid : Prop := hopNamesRow.holds Tryz.pinned (OpenSpec.ofChange hopNamesSpec)

/-- ITS FALSE NEIGHBOUR: 'it returns false'. Refute it at one input. -/
def hopNamesWrong : ChangeSpec := { name := "hopNames", fn := fun _ => fun
  | [] => { results := [.lit (.bool false)], args := [] }
  | _ => none }
def HopNamesWrongFalsely : Prop := hopNamesRow.holds Tryz.pinned (OpenSpec.ofChange hopNamesWrong)

/-- 'drayagelaw17.HopLeads': WHATEVER THE INPUT: true; the input reads as it did. -/
def hopLeadsSpec : ChangeSpec := { name := "hopLeads", fn := fun _ => fun
  | [d1, d2, d3] => { results := [.lit (.bool true)], args := [d1, d2, d3] }
  | _ => none }
def hopLeadsRow : OpenClaim := { program := "ytlckpojpnfidoaagreat", sum := "cf5fdcffcc81c63f2cc426d891ec5eb5407d8c6c691e4bc47cd60fdabb739a58", func := "drayage/drayagelaw17.HopLeads", spec := "hopLeads", inPlace := ["internal/bytealg.abigen_runtime_cmpstring"], unfollowed := true, recurses := true, plainKeys := false, apart := false }
def HopLeadsSaid : Prop := hopLeadsRow.holds Tryz.pinned (OpenSpec.ofChange hopLeadsSpec)

/-- ITS FALSE NEIGHBOUR: 'it returns false'. Refute it at one input. -/
def hopLeadsWrong : ChangeSpec := { name := "hopLeads", fn := fun _ => fun
  | [d1, d2, d3] => { results := [.lit (.bool false)], args := [d1, d2, d3] }
  | _ => none }
def HopLeadsWrongFalsely : Prop := hopLeadsRow.holds Tryz.pinned (OpenSpec.ofChange hopLeadsWrong)

/-- 'drayagelaw17.HopShuns': WHATEVER THE INPUT: true; the input reads as it did. -/
def hopShunsSpec : ChangeSpec := { name := "hopShuns", fn := fun _ => fun
  | [d1, d2, d3] => { results := [.lit (.bool true)], args := [d1, d2, d3] }
  | _ => none }
def hopShunsRow : OpenClaim := { program := "ytlckpojpnfidoaagreat", sum := "cf5fdcffcc81c63f2cc426d891ec5eb5407d8c6c691e4bc47cd60fdabb739a58", func := "drayage/drayagelaw17.HopShuns", spec := "hopShuns", inPlace := ["internal/bytealg.abigen_runtime_cmpstring"], unfollowed := true, recurses := true, plainKeys := false, apart := false }
def HopShunsSaid : Prop := hopShunsRow.holds Tryz.pinned (OpenSpec.ofChange hopShunsSpec)

/-- ITS FALSE NEIGHBOUR: 'it returns false'. Refute it at one input. -/
def hopShunsWrong : ChangeSpec := { name := "hopShuns", fn := fun _ => fun
  | [d1, d2, d3] => { results := [.lit (.bool false)], args := [d1, d2, d3] }
  | _ => none }
def HopShunsWrongFalsely : Prop := hopShunsRow.holds Tryz.pinned (OpenSpec.ofChange hopShunsWrong)

/- THE SECOND FORM. 'bulk': how many values and letters a reading holds, each counted each time it is reached (what is shared counts as often as it is met; a slice's spare places count too). A statement '..UptoSaid' is the law's where the arguments, and the package variables that the reading takes, are together of bulk at most 1048576: NARROWER than '..Said'. Prove '..Said' where nothing that the law and all that it calls make is longer than what came in: it says more and counts as full. Else prove '..UptoSaid'. A law counts once. -/
mutual
def uptoBulk {H : Type} : DataW H → Nat
  | .lit (.string bytes) => bytes.length + 1
  | .lit _ => 1
  | .nil => 1
  | .ptr d => uptoBulk d + 1
  | .slice elems spare => uptoBulkAll elems + uptoBulkAll spare + 1
  | .agg parts => uptoBulkAll parts + 1
  | .iface _ d => uptoBulk d + 1
  | .map entries => uptoBulkEntries entries + 1
  | .held _ => 1
def uptoBulkAll {H : Type} : List (DataW H) → Nat
  | [] => 0
  | d :: r => uptoBulk d + uptoBulkAll r
def uptoBulkEntries {H : Type} : List (Lit × DataW H) → Nat
  | [] => 0
  | x :: r => uptoBulkEntry x + uptoBulkEntries r
def uptoBulkEntry {H : Type} : Lit × DataW H → Nat
  | (.string bytes, d) => bytes.length + uptoBulk d + 1
  | (_, d) => uptoBulk d + 1
 end
def uptoSmall : (H : Type) → List (DataW H) → Bool := fun _ ds => decide (uptoBulkAll ds ≤ 1048576)
def OpenSpec.upto (s : _root_.Go.ChangeSpec) : _root_.Go.OpenSpec := { _root_.Go.OpenSpec.ofChange s with cond := some uptoSmall }

/-- 'drayagelaw14.FitKeeps', WHERE WHAT IT READS IS OF BULK AT MOST 1048576: true; the input reads as it did. -/
def fitKeepsUptoRow : OpenClaim := { program := "ytlckpojpnfidoaagreat", sum := "cf5fdcffcc81c63f2cc426d891ec5eb5407d8c6c691e4bc47cd60fdabb739a58", func := "drayage/drayagelaw14.FitKeeps", spec := "fitKeeps", inPlace := ["internal/bytealg.abigen_runtime_cmpstring"], unfollowed := true, recurses := true, plainKeys := false, apart := false, narrowed := true }
def FitKeepsUptoSaid : Prop := fitKeepsUptoRow.holds Tryz.pinned (OpenSpec.upto fitKeepsSpec)

/-- 'drayagelaw13.DetectTells', WHERE WHAT IT READS IS OF BULK AT MOST 1048576: true; the input reads as it did. -/
def detectTellsUptoRow : OpenClaim := { program := "ytlckpojpnfidoaagreat", sum := "cf5fdcffcc81c63f2cc426d891ec5eb5407d8c6c691e4bc47cd60fdabb739a58", func := "drayage/drayagelaw13.DetectTells", spec := "detectTells", inPlace := ["internal/bytealg.abigen_runtime_cmpstring"], unfollowed := true, recurses := true, plainKeys := false, apart := false, narrowed := true }
def DetectTellsUptoSaid : Prop := detectTellsUptoRow.holds Tryz.pinned (OpenSpec.upto detectTellsSpec)

/-- 'drayagelaw13.DetectHeat', WHERE WHAT IT READS IS OF BULK AT MOST 1048576: true; the input reads as it did. -/
def detectHeatUptoRow : OpenClaim := { program := "ytlckpojpnfidoaagreat", sum := "cf5fdcffcc81c63f2cc426d891ec5eb5407d8c6c691e4bc47cd60fdabb739a58", func := "drayage/drayagelaw13.DetectHeat", spec := "detectHeat", inPlace := ["internal/bytealg.abigen_runtime_cmpstring"], unfollowed := true, recurses := true, plainKeys := false, apart := false, narrowed := true }
def DetectHeatUptoSaid : Prop := detectHeatUptoRow.holds Tryz.pinned (OpenSpec.upto detectHeatSpec)

/-- 'drayagelaw13.DetectOnce', WHERE WHAT IT READS IS OF BULK AT MOST 1048576: true; the input reads as it did. -/
def detectOnceUptoRow : OpenClaim := { program := "ytlckpojpnfidoaagreat", sum := "cf5fdcffcc81c63f2cc426d891ec5eb5407d8c6c691e4bc47cd60fdabb739a58", func := "drayage/drayagelaw13.DetectOnce", spec := "detectOnce", inPlace := ["internal/bytealg.abigen_runtime_cmpstring"], unfollowed := true, recurses := true, plainKeys := false, apart := false, narrowed := true }
def DetectOnceUptoSaid : Prop := detectOnceUptoRow.holds Tryz.pinned (OpenSpec.upto detectOnceSpec)

/-- 'drayagelaw13.DetectSafe', WHERE WHAT IT READS IS OF BULK AT MOST 1048576: true; the input reads as it did. -/
def detectSafeUptoRow : OpenClaim := { program := "ytlckpojpnfidoaagreat", sum := "cf5fdcffcc81c63f2cc426d891ec5eb5407d8c6c691e4bc47cd60fdabb739a58", func := "drayage/drayagelaw13.DetectSafe", spec := "detectSafe", inPlace := ["internal/bytealg.abigen_runtime_cmpstring"], unfollowed := true, recurses := true, plainKeys := false, apart := false, narrowed := true }
def DetectSafeUptoSaid : Prop := detectSafeUptoRow.holds Tryz.pinned (OpenSpec.upto detectSafeSpec)

/-- 'drayagelaw17.HopTries', WHERE WHAT IT READS IS OF BULK AT MOST 1048576: true; the input reads as it did. -/
def hopTriesUptoRow : OpenClaim := { program := "ytlckpojpnfidoaagreat", sum := "cf5fdcffcc81c63f2cc426d891ec5eb5407d8c6c691e4bc47cd60fdabb739a58", func := "drayage/drayagelaw17.HopTries", spec := "hopTries", inPlace := ["internal/bytealg.abigen_runtime_cmpstring"], unfollowed := true, recurses := true, plainKeys := false, apart := false, narrowed := true }
def HopTriesUptoSaid : Prop := hopTriesUptoRow.holds Tryz.pinned (OpenSpec.upto hopTriesSpec)

/-- 'drayagelaw17.HopEnds', WHERE WHAT IT READS IS OF BULK AT MOST 1048576: true; the input reads as it did. -/
def hopEndsUptoRow : OpenClaim := { program := "ytlckpojpnfidoaagreat", sum := "cf5fdcffcc81c63f2cc426d891ec5eb5407d8c6c691e4bc47cd60fdabb739a58", func := "drayage/drayagelaw17.HopEnds", spec := "hopEnds", inPlace := ["internal/bytealg.abigen_runtime_cmpstring"], unfollowed := true, recurses := true, plainKeys := false, apart := false, narrowed := true }
def HopEndsUptoSaid : Prop := hopEndsUptoRow.holds Tryz.pinned (OpenSpec.upto hopEndsSpec)

/-- 'drayagelaw17.HopNames', WHERE WHAT IT READS IS OF BULK AT MOST 1048576: true; the input reads as it did. -/
def hopNamesUptoRow : OpenClaim := { program := "ytlckpojpnfidoaagreat", sum := "cf5fdcffcc81c63f2cc426d891ec5eb5407d8c6c691e4bc47cd60fdabb739a58", func := "drayage/drayagelaw17.HopNames", spec := "hopNames", inPlace := ["internal/bytealg.abigen_runtime_cmpstring"], unfollowed := true, recurses := true, plainKeys := false, apart := false, narrowed := true }
def HopNamesUptoSaid : Prop := hopNamesUptoRow.holds Tryz.pinned (OpenSpec.upto hopNamesSpec)

/-- 'drayagelaw17.HopLeads', WHERE WHAT IT READS IS OF BULK AT MOST 1048576: true; the input reads as it did. -/
def hopLeadsUptoRow : OpenClaim := { program := "ytlckpojpnfidoaagreat", sum := "cf5fdcffcc81c63f2cc426d891ec5eb5407d8c6c691e4bc47cd60fdabb739a58", func := "drayage/drayagelaw17.HopLeads", spec := "hopLeads", inPlace := ["internal/bytealg.abigen_runtime_cmpstring"], unfollowed := true, recurses := true, plainKeys := false, apart := false, narrowed := true }
def HopLeadsUptoSaid : Prop := hopLeadsUptoRow.holds Tryz.pinned (OpenSpec.upto hopLeadsSpec)

/-- 'drayagelaw17.HopShuns', WHERE WHAT IT READS IS OF BULK AT MOST 1048576: true; the input reads as it did. -/
def hopShunsUptoRow : OpenClaim := { program := "ytlckpojpnfidoaagreat", sum := "cf5fdcffcc81c63f2cc426d891ec5eb5407d8c6c691e4bc47cd60fdabb739a58", func := "drayage/drayagelaw17.HopShuns", spec := "hopShuns", inPlace := ["internal/bytealg.abigen_runtime_cmpstring"], unfollowed := true, recurses := true, plainKeys := false, apart := false, narrowed := true }
def HopShunsUptoSaid : Prop := hopShunsUptoRow.holds Tryz.pinned (OpenSpec.upto hopShunsSpec)

end Rows
end Go.Proofs.YtlckpojpnfidoaaGreat
