/-
  No cell of these rows narrows 'for every input' (looked for: loops, veiled, ifaces, maps, wideKeys, modest, calm, conditions, laid).
  DERIVED. THE GIVEN ROWS OF THIS SEAT. 10 by the template 'for every input the law returns true; each argument reads behind the call as it read before'; 0 by the template 'total and deterministic' (their statements: YtmkaphfdgdkaoaaTotals.lean).
  GIVEN WITH THE SEED: the statements are not yours to turn. If you find one false, say at which input.
  Laid BY PROGRAM, IN A SANDBOX (cutbox-rows.mjs): the forced cells as the released guide's own fill.sh prints them over the translation 945c7195c99db338… (all of the seat's roots in one cut). By AI agents, Wed Nov 11 2026. No macro, syntax, notation, axiom, sorry.
-/
import Derived.Test.YtmkaphfdgdkaoaaChecked
import GoSem.Claim
import GoSem.ClaimJoined
import GoSem.ClaimMapViews
import Derived.JoinedTies
import Derived.KernelRfl
namespace Go.Proofs.Ytmkaphfdgdkaoaa
/- THE CELL 'sum', in the pinned program and in every row, IS THE sha256 OF THE DUMP (.gsa) THAT YtmkaphfdgdkaoaaProg.lean LOADS. Nothing in Lean hashes anything: it is a label: what it is worth is what the hold of that sum in a sandbox is worth. -/
noncomputable def Try.pinned : Pinned := { name := "ytmkaphfdgdkaoaa", sum := "945c7195c99db3381a1a8c26d7b0b6f1fa8d9097062840203f2c966e3d9a06b2", checked := Try.checked }
namespace Rows
def none {H : Type} : Left H := { results := [], args := [] }

/-- 'lathelaw19.LiveLeast': WHATEVER THE INPUT: true; the input reads as it did. -/
def liveLeastSpec : ChangeSpec := { name := "liveLeast", fn := fun _ => fun
  | [d] => { results := [.lit (.bool true)], args := [d] }
  | _ => none }
def liveLeastRow : OpenClaim := { program := "ytmkaphfdgdkaoaa", sum := "945c7195c99db3381a1a8c26d7b0b6f1fa8d9097062840203f2c966e3d9a06b2", func := "lathe/lathelaw19.LiveLeast", spec := "liveLeast", unfollowed := true, recurses := true, plainKeys := false, apart := false }
def LiveLeastSaid : Prop := liveLeastRow.holds Try.pinned (OpenSpec.ofChange liveLeastSpec)

/-- ITS FALSE NEIGHBOUR: 'it returns false'. Refute it at one input. -/
def liveLeastWrong : ChangeSpec := { name := "liveLeast", fn := fun _ => fun
  | [d] => { results := [.lit (.bool false)], args := [d] }
  | _ => none }
def LiveLeastWrongFalsely : Prop := liveLeastRow.holds Try.pinned (OpenSpec.ofChange liveLeastWrong)

/-- 'lathelaw19.LiveRules': WHATEVER THE INPUT: true; the input reads as it did. -/
def liveRulesSpec : ChangeSpec := { name := "liveRules", fn := fun _ => fun
  | [d] => { results := [.lit (.bool true)], args := [d] }
  | _ => none }
def liveRulesRow : OpenClaim := { program := "ytmkaphfdgdkaoaa", sum := "945c7195c99db3381a1a8c26d7b0b6f1fa8d9097062840203f2c966e3d9a06b2", func := "lathe/lathelaw19.LiveRules", spec := "liveRules", unfollowed := true, recurses := true, plainKeys := false, apart := false }
def LiveRulesSaid : Prop := liveRulesRow.holds Try.pinned (OpenSpec.ofChange liveRulesSpec)

/-- ITS FALSE NEIGHBOUR: 'it returns false'. Refute it at one input. -/
def liveRulesWrong : ChangeSpec := { name := "liveRules", fn := fun _ => fun
  | [d] => { results := [.lit (.bool false)], args := [d] }
  | _ => none }
def LiveRulesWrongFalsely : Prop := liveRulesRow.holds Try.pinned (OpenSpec.ofChange liveRulesWrong)

/-- 'lathelaw19.LiveTells': WHATEVER THE INPUT: true; the input reads as it did. -/
def liveTellsSpec : ChangeSpec := { name := "liveTells", fn := fun _ => fun
  | [d1, d2, d3] => { results := [.lit (.bool true)], args := [d1, d2, d3] }
  | _ => none }
def liveTellsRow : OpenClaim := { program := "ytmkaphfdgdkaoaa", sum := "945c7195c99db3381a1a8c26d7b0b6f1fa8d9097062840203f2c966e3d9a06b2", func := "lathe/lathelaw19.LiveTells", spec := "liveTells", unfollowed := true, recurses := true, plainKeys := false, apart := false }
def LiveTellsSaid : Prop := liveTellsRow.holds Try.pinned (OpenSpec.ofChange liveTellsSpec)

/-- ITS FALSE NEIGHBOUR: 'it returns false'. Refute it at one input. -/
def liveTellsWrong : ChangeSpec := { name := "liveTells", fn := fun _ => fun
  | [d1, d2, d3] => { results := [.lit (.bool false)], args := [d1, d2, d3] }
  | _ => none }
def LiveTellsWrongFalsely : Prop := liveTellsRow.holds Try.pinned (OpenSpec.ofChange liveTellsWrong)

/-- 'lathelaw20.SpansRun': WHATEVER THE INPUT: true; the input reads as it did. -/
def spansRunSpec : ChangeSpec := { name := "spansRun", fn := fun _ => fun
  | [d] => { results := [.lit (.bool true)], args := [d] }
  | _ => none }
def spansRunRow : OpenClaim := { program := "ytmkaphfdgdkaoaa", sum := "945c7195c99db3381a1a8c26d7b0b6f1fa8d9097062840203f2c966e3d9a06b2", func := "lathe/lathelaw20.SpansRun", spec := "spansRun", unfollowed := true, recurses := true, plainKeys := false, apart := false }
def SpansRunSaid : Prop := spansRunRow.holds Try.pinned (OpenSpec.ofChange spansRunSpec)

/-- ITS FALSE NEIGHBOUR: 'it returns false'. Refute it at one input. -/
def spansRunWrong : ChangeSpec := { name := "spansRun", fn := fun _ => fun
  | [d] => { results := [.lit (.bool false)], args := [d] }
  | _ => none }
def SpansRunWrongFalsely : Prop := spansRunRow.holds Try.pinned (OpenSpec.ofChange spansRunWrong)

/-- 'lathelaw20.SpansLive': WHATEVER THE INPUT: true; the input reads as it did. -/
def spansLiveSpec : ChangeSpec := { name := "spansLive", fn := fun _ => fun
  | [d] => { results := [.lit (.bool true)], args := [d] }
  | _ => none }
def spansLiveRow : OpenClaim := { program := "ytmkaphfdgdkaoaa", sum := "945c7195c99db3381a1a8c26d7b0b6f1fa8d9097062840203f2c966e3d9a06b2", func := "lathe/lathelaw20.SpansLive", spec := "spansLive", unfollowed := true, recurses := true, plainKeys := false, apart := false }
def SpansLiveSaid : Prop := spansLiveRow.holds Try.pinned (OpenSpec.ofChange spansLiveSpec)

/-- ITS FALSE NEIGHBOUR: 'it returns false'. Refute it at one input. -/
def spansLiveWrong : ChangeSpec := { name := "spansLive", fn := fun _ => fun
  | [d] => { results := [.lit (.bool false)], args := [d] }
  | _ => none }
def SpansLiveWrongFalsely : Prop := spansLiveRow.holds Try.pinned (OpenSpec.ofChange spansLiveWrong)

/-- 'lathelaw21.AllocTurned': WHATEVER THE INPUT: true; the input reads as it did. -/
def allocTurnedSpec : ChangeSpec := { name := "allocTurned", fn := fun _ => fun
  | [d] => { results := [.lit (.bool true)], args := [d] }
  | _ => none }
def allocTurnedRow : OpenClaim := { program := "ytmkaphfdgdkaoaa", sum := "945c7195c99db3381a1a8c26d7b0b6f1fa8d9097062840203f2c966e3d9a06b2", func := "lathe/lathelaw21.AllocTurned", spec := "allocTurned", unfollowed := true, recurses := true, plainKeys := false, apart := false }
def AllocTurnedSaid : Prop := allocTurnedRow.holds Try.pinned (OpenSpec.ofChange allocTurnedSpec)

/-- ITS FALSE NEIGHBOUR: 'it returns false'. Refute it at one input. -/
def allocTurnedWrong : ChangeSpec := { name := "allocTurned", fn := fun _ => fun
  | [d] => { results := [.lit (.bool false)], args := [d] }
  | _ => none }
def AllocTurnedWrongFalsely : Prop := allocTurnedRow.holds Try.pinned (OpenSpec.ofChange allocTurnedWrong)

/-- 'lathelaw21.AllocFew': WHATEVER THE INPUT: true; the input reads as it did. -/
def allocFewSpec : ChangeSpec := { name := "allocFew", fn := fun _ => fun
  | [d] => { results := [.lit (.bool true)], args := [d] }
  | _ => none }
def allocFewRow : OpenClaim := { program := "ytmkaphfdgdkaoaa", sum := "945c7195c99db3381a1a8c26d7b0b6f1fa8d9097062840203f2c966e3d9a06b2", func := "lathe/lathelaw21.AllocFew", spec := "allocFew", unfollowed := true, recurses := true, plainKeys := false, apart := false }
def AllocFewSaid : Prop := allocFewRow.holds Try.pinned (OpenSpec.ofChange allocFewSpec)

/-- ITS FALSE NEIGHBOUR: 'it returns false'. Refute it at one input. -/
def allocFewWrong : ChangeSpec := { name := "allocFew", fn := fun _ => fun
  | [d] => { results := [.lit (.bool false)], args := [d] }
  | _ => none }
def AllocFewWrongFalsely : Prop := allocFewRow.holds Try.pinned (OpenSpec.ofChange allocFewWrong)

/-- 'lathelaw21.AllocLets': WHATEVER THE INPUT: true; the input reads as it did. -/
def allocLetsSpec : ChangeSpec := { name := "allocLets", fn := fun _ => fun
  | [d] => { results := [.lit (.bool true)], args := [d] }
  | _ => none }
def allocLetsRow : OpenClaim := { program := "ytmkaphfdgdkaoaa", sum := "945c7195c99db3381a1a8c26d7b0b6f1fa8d9097062840203f2c966e3d9a06b2", func := "lathe/lathelaw21.AllocLets", spec := "allocLets", unfollowed := true, recurses := true, plainKeys := false, apart := false }
def AllocLetsSaid : Prop := allocLetsRow.holds Try.pinned (OpenSpec.ofChange allocLetsSpec)

/-- ITS FALSE NEIGHBOUR: 'it returns false'. Refute it at one input. -/
def allocLetsWrong : ChangeSpec := { name := "allocLets", fn := fun _ => fun
  | [d] => { results := [.lit (.bool false)], args := [d] }
  | _ => none }
def AllocLetsWrongFalsely : Prop := allocLetsRow.holds Try.pinned (OpenSpec.ofChange allocLetsWrong)

/-- 'lathelaw20.SpansCount': WHATEVER THE INPUT: true; the input reads as it did. -/
def spansCountSpec : ChangeSpec := { name := "spansCount", fn := fun _ => fun
  | [d1, d2] => { results := [.lit (.bool true)], args := [d1, d2] }
  | _ => none }
def spansCountRow : OpenClaim := { program := "ytmkaphfdgdkaoaa", sum := "945c7195c99db3381a1a8c26d7b0b6f1fa8d9097062840203f2c966e3d9a06b2", func := "lathe/lathelaw20.SpansCount", spec := "spansCount", unfollowed := true, recurses := true, plainKeys := false, apart := false }
def SpansCountSaid : Prop := spansCountRow.holds Try.pinned (OpenSpec.ofChange spansCountSpec)

/-- ITS FALSE NEIGHBOUR: 'it returns false'. Refute it at one input. -/
def spansCountWrong : ChangeSpec := { name := "spansCount", fn := fun _ => fun
  | [d1, d2] => { results := [.lit (.bool false)], args := [d1, d2] }
  | _ => none }
def SpansCountWrongFalsely : Prop := spansCountRow.holds Try.pinned (OpenSpec.ofChange spansCountWrong)

/-- 'lathelaw20.SpansSay': WHATEVER THE INPUT: true; the input reads as it did. -/
def spansSaySpec : ChangeSpec := { name := "spansSay", fn := fun _ => fun
  | [d1, d2, d3, d4, d5] => { results := [.lit (.bool true)], args := [d1, d2, d3, d4, d5] }
  | _ => none }
def spansSayRow : OpenClaim := { program := "ytmkaphfdgdkaoaa", sum := "945c7195c99db3381a1a8c26d7b0b6f1fa8d9097062840203f2c966e3d9a06b2", func := "lathe/lathelaw20.SpansSay", spec := "spansSay", unfollowed := true, recurses := true, plainKeys := false, apart := false }
def SpansSaySaid : Prop := spansSayRow.holds Try.pinned (OpenSpec.ofChange spansSaySpec)

/-- ITS FALSE NEIGHBOUR: 'it returns false'. Refute it at one input. -/
def spansSayWrong : ChangeSpec := { name := "spansSay", fn := fun _ => fun
  | [d1, d2, d3, d4, d5] => { results := [.lit (.bool false)], args := [d1, d2, d3, d4, d5] }
  | _ => none }
def SpansSayWrongFalsely : Prop := spansSayRow.holds Try.pinned (OpenSpec.ofChange spansSayWrong)

/- THE SECOND FORM. 'bulk': how many values and letters a reading holds, each counted each time it is reached (what is shared counts as often as it is met; a slice's spare places count too). A statement '..UptoSaid' is the law's where the arguments, and the package variables that the reading takes, are together of bulk at most 1048576: NARROWER than '..Said'. Prove '..Said' where nothing that the law and all that it calls make is longer than what came in: it says more and counts as full. Else prove '..UptoSaid'. A law counts once. -/
mutual
def uptoBulk {H : Type} : DataW H → Nat
  | .lit (.string bytes) => bytes.length + 1
  | .lit _ => 1
  | .nil => 1
  | .ptr d => uptoBulk d + 1
  | .slice elems spare => uptoBulkAll elems + uptoBulkAll spare + 1
  | .agg parts => uptoBulkAll parts + 1
  | .iface _ d => uptoBulk d + 1
  | .map entries => uptoBulkEntries entries + 1
  | .held _ => 1
def uptoBulkAll {H : Type} : List (DataW H) → Nat
  | [] => 0
  | d :: r => uptoBulk d + uptoBulkAll r
def uptoBulkEntries {H : Type} : List (Lit × DataW H) → Nat
  | [] => 0
  | x :: r => uptoBulkEntry x + uptoBulkEntries r
def uptoBulkEntry {H : Type} : Lit × DataW H → Nat
  | (.string bytes, d) => bytes.length + uptoBulk d + 1
  | (_, d) => uptoBulk d + 1
 end
def uptoSmall : (H : Type) → List (DataW H) → Bool := fun _ ds => decide (uptoBulkAll ds ≤ 1048576)
def OpenSpec.upto (s : _root_.Go.ChangeSpec) : _root_.Go.OpenSpec := { _root_.Go.OpenSpec.ofChange s with cond := some uptoSmall }

/-- 'lathelaw19.LiveLeast', WHERE WHAT IT READS IS OF BULK AT MOST 1048576: true; the input reads as it did. -/
def liveLeastUptoRow : OpenClaim := { program := "ytmkaphfdgdkaoaa", sum := "945c7195c99db3381a1a8c26d7b0b6f1fa8d9097062840203f2c966e3d9a06b2", func := "lathe/lathelaw19.LiveLeast", spec := "liveLeast", unfollowed := true, recurses := true, plainKeys := false, apart := false, narrowed := true }
def LiveLeastUptoSaid : Prop := liveLeastUptoRow.holds Try.pinned (OpenSpec.upto liveLeastSpec)

/-- 'lathelaw19.LiveRules', WHERE WHAT IT READS IS OF BULK AT MOST 1048576: true; the input reads as it did. -/
def liveRulesUptoRow : OpenClaim := { program := "ytmkaphfdgdkaoaa", sum := "945c7195c99db3381a1a8c26d7b0b6f1fa8d9097062840203f2c966e3d9a06b2", func := "lathe/lathelaw19.LiveRules", spec := "liveRules", unfollowed := true, recurses := true, plainKeys := false, apart := false, narrowed := true }
def LiveRulesUptoSaid : Prop := liveRulesUptoRow.holds Try.pinned (OpenSpec.upto liveRulesSpec)

/-- 'lathelaw19.LiveTells', WHERE WHAT IT READS IS OF BULK AT MOST 1048576: true; the input reads as it did. -/
def liveTellsUptoRow : OpenClaim := { program := "ytmkaphfdgdkaoaa", sum := "945c7195c99db3381a1a8c26d7b0b6f1fa8d9097062840203f2c966e3d9a06b2", func := "lathe/lathelaw19.LiveTells", spec := "liveTells", unfollowed := true, recurses := true, plainKeys := false, apart := false, narrowed := true }
def LiveTellsUptoSaid : Prop := liveTellsUptoRow.holds Try.pinned (OpenSpec.upto liveTellsSpec)

/-- 'lathelaw20.SpansRun', WHERE WHAT IT READS IS OF BULK AT MOST 1048576: true; the input reads as it did. -/
def spansRunUptoRow : OpenClaim := { program := "ytmkaphfdgdkaoaa", sum := "945c7195c99db3381a1a8c26d7b0b6f1fa8d9097062840203f2c966e3d9a06b2", func := "lathe/lathelaw20.SpansRun", spec := "spansRun", unfollowed := true, recurses := true, plainKeys := false, apart := false, narrowed := true }
def SpansRunUptoSaid : Prop := spansRunUptoRow.holds Try.pinned (OpenSpec.upto spansRunSpec)

/-- 'lathelaw20.SpansLive', WHERE WHAT IT READS IS OF BULK AT MOST 1048576: true; the input reads as it did. -/
def spansLiveUptoRow : OpenClaim := { program := "ytmkaphfdgdkaoaa", sum := "945c7195c99db3381a1a8c26d7b0b6f1fa8d9097062840203f2c966e3d9a06b2", func := "lathe/lathelaw20.SpansLive", spec := "spansLive", unfollowed := true, recurses := true, plainKeys := false, apart := false, narrowed := true }
def SpansLiveUptoSaid : Prop := spansLiveUptoRow.holds Try.pinned (OpenSpec.upto spansLiveSpec)

/-- 'lathelaw21.AllocTurned', WHERE WHAT IT READS IS OF BULK AT MOST 1048576: true; the input reads as it did. -/
def allocTurnedUptoRow : OpenClaim := { program := "ytmkaphfdgdkaoaa", sum := "945c7195c99db3381a1a8c26d7b0b6f1fa8d9097062840203f2c966e3d9a06b2", func := "lathe/lathelaw21.AllocTurned", spec := "allocTurned", unfollowed := true, recurses := true, plainKeys := false, apart := false, narrowed := true }
def AllocTurnedUptoSaid : Prop := allocTurnedUptoRow.holds Try.pinned (OpenSpec.upto allocTurnedSpec)

/-- 'lathelaw21.AllocFew', WHERE WHAT IT READS IS OF BULK AT MOST 1048576: true; the input reads as it did. -/
def allocFewUptoRow : OpenClaim := { program := "ytmkaphfdgdkaoaa", sum := "945c7195c99db3381a1a8c26d7b0b6f1fa8d9097062840203f2c966e3d9a06b2", func := "lathe/lathelaw21.AllocFew", spec := "allocFew", unfollowed := true, recurses := true, plainKeys := false, apart := false, narrowed := true }
def AllocFewUptoSaid : Prop := allocFewUptoRow.holds Try.pinned (OpenSpec.upto allocFewSpec)

/-- 'lathelaw21.AllocLets', WHERE WHAT IT READS IS OF BULK AT MOST 1048576: true; the input reads as it did. -/
def allocLetsUptoRow : OpenClaim := { program := "ytmkaphfdgdkaoaa", sum := "945c7195c99db3381a1a8c26d7b0b6f1fa8d9097062840203f2c966e3d9a06b2", func := "lathe/lathelaw21.AllocLets", spec := "allocLets", unfollowed := true, recurses := true, plainKeys := false, apart := false, narrowed := true }
def AllocLetsUptoSaid : Prop := allocLetsUptoRow.holds Try.pinned (OpenSpec.upto allocLetsSpec)

/-- 'lathelaw20.SpansCount', WHERE WHAT IT READS IS OF BULK AT MOST 1048576: true; the input reads as it did. -/
def spansCountUptoRow : OpenClaim := { program := "ytmkaphfdgdkaoaa", sum := "945c7195c99db3381a1a8c26d7b0b6f1fa8d9097062840203f2c966e3d9a06b2", func := "lathe/lathelaw20.SpansCount", spec := "spansCount", unfollowed := true, recurses := true, plainKeys := false, apart := false, narrowed := true }
def SpansCountUptoSaid : Prop := spansCountUptoRow.holds Try.pinned (OpenSpec.upto spansCountSpec)

/-- 'lathelaw20.SpansSay', WHERE WHAT IT READS IS OF BULK AT MOST 1048576: true; the input reads as it did. -/
def spansSayUptoRow : OpenClaim := { program := "ytmkaphfdgdkaoaa", sum := "945c7195c99db3381a1a8c26d7b0b6f1fa8d9097062840203f2c966e3d9a06b2", func := "lathe/lathelaw20.SpansSay", spec := "spansSay", unfollowed := true, recurses := true, plainKeys := false, apart := false, narrowed := true }
def SpansSayUptoSaid : Prop := spansSayUptoRow.holds Try.pinned (OpenSpec.upto spansSaySpec)

end Rows
end Go.Proofs.Ytmkaphfdgdkaoaa
