/-
  No cell of these rows narrows 'for every input' (looked for: loops, veiled, ifaces, maps, wideKeys, modest, calm, conditions, laid).
  DERIVED. THE GIVEN ROWS OF THIS SEAT. 12 by the template 'for every input the law returns true; each argument reads behind the call as it read before'; 0 by the template 'total and deterministic' (their statements: YtjnhghplfdiijaaTotals.lean).
  GIVEN WITH THE SEED: the statements are not yours to turn. If you find one false, say at which input.
  Laid BY PROGRAM, IN A SANDBOX (cutbox-rows.mjs): the forced cells as the released guide's own fill.sh prints them over the translation 21ae8001ed1172d4… (all of the seat's roots in one cut). By AI agents, Wed Nov 11 2026. No macro, syntax, notation, axiom, sorry.
-/
import Derived.Test.YtjnhghplfdiijaaChecked
import GoSem.Claim
import GoSem.ClaimJoined
import GoSem.ClaimMapViews
import Derived.JoinedTies
import Derived.KernelRfl
namespace Go.Proofs.Ytjnhghplfdiijaa
/- THE CELL 'sum', in the pinned program and in every row, IS THE sha256 OF THE DUMP (.gsa) THAT YtjnhghplfdiijaaProg.lean LOADS. Nothing in Lean hashes anything: it is a label: what it is worth is what the hold of that sum in a sandbox is worth. -/
noncomputable def Try.pinned : Pinned := { name := "ytjnhghplfdiijaa", sum := "21ae8001ed1172d4ee6090f9f6fe3a6948b1109543c84eb6abd7b768bc160563", checked := Try.checked }
namespace Rows
def none {H : Type} : Left H := { results := [], args := [] }

/-- 'abutmentlaw36.PlanFits': WHATEVER THE INPUT: true; the input reads as it did. -/
def planFitsSpec : ChangeSpec := { name := "planFits", fn := fun _ => fun
  | [d1, d2, d3] => { results := [.lit (.bool true)], args := [d1, d2, d3] }
  | _ => none }
def planFitsRow : OpenClaim := { program := "ytjnhghplfdiijaa", sum := "21ae8001ed1172d4ee6090f9f6fe3a6948b1109543c84eb6abd7b768bc160563", func := "abutment/abutmentlaw36.PlanFits", spec := "planFits", unfollowed := true, recurses := true, apart := false }
def PlanFitsSaid : Prop := planFitsRow.holds Try.pinned (OpenSpec.ofChange planFitsSpec)

/-- ITS FALSE NEIGHBOUR: 'it returns false'. Refute it at one input. -/
def planFitsWrong : ChangeSpec := { name := "planFits", fn := fun _ => fun
  | [d1, d2, d3] => { results := [.lit (.bool false)], args := [d1, d2, d3] }
  | _ => none }
def PlanFitsWrongFalsely : Prop := planFitsRow.holds Try.pinned (OpenSpec.ofChange planFitsWrong)

/-- 'abutmentlaw33.RefusalTells': WHATEVER THE INPUT: true; the input reads as it did. -/
def refusalTellsSpec : ChangeSpec := { name := "refusalTells", fn := fun _ => fun
  | [d1, d2, d3] => { results := [.lit (.bool true)], args := [d1, d2, d3] }
  | _ => none }
def refusalTellsRow : OpenClaim := { program := "ytjnhghplfdiijaa", sum := "21ae8001ed1172d4ee6090f9f6fe3a6948b1109543c84eb6abd7b768bc160563", func := "abutment/abutmentlaw33.RefusalTells", spec := "refusalTells", inPlace := ["internal/abi.NoEscape", "internal/bytealg.MakeNoZero"], unfollowed := true, recurses := true, apart := false }
def RefusalTellsSaid : Prop := refusalTellsRow.holds Try.pinned (OpenSpec.ofChange refusalTellsSpec)

/-- ITS FALSE NEIGHBOUR: 'it returns false'. Refute it at one input. -/
def refusalTellsWrong : ChangeSpec := { name := "refusalTells", fn := fun _ => fun
  | [d1, d2, d3] => { results := [.lit (.bool false)], args := [d1, d2, d3] }
  | _ => none }
def RefusalTellsWrongFalsely : Prop := refusalTellsRow.holds Try.pinned (OpenSpec.ofChange refusalTellsWrong)

/-- 'abutmentlaw19.CodingChunked': WHATEVER THE INPUT: true; the input reads as it did. -/
def codingChunkedSpec : ChangeSpec := { name := "codingChunked", fn := fun _ => fun
  | [d] => { results := [.lit (.bool true)], args := [d] }
  | _ => none }
def codingChunkedRow : OpenClaim := { program := "ytjnhghplfdiijaa", sum := "21ae8001ed1172d4ee6090f9f6fe3a6948b1109543c84eb6abd7b768bc160563", func := "abutment/abutmentlaw19.CodingChunked", spec := "codingChunked", inPlace := ["internal/abi.NoEscape", "internal/bytealg.MakeNoZero"], unfollowed := true, recurses := true, apart := false }
def CodingChunkedSaid : Prop := codingChunkedRow.holds Try.pinned (OpenSpec.ofChange codingChunkedSpec)

/-- ITS FALSE NEIGHBOUR: 'it returns false'. Refute it at one input. -/
def codingChunkedWrong : ChangeSpec := { name := "codingChunked", fn := fun _ => fun
  | [d] => { results := [.lit (.bool false)], args := [d] }
  | _ => none }
def CodingChunkedWrongFalsely : Prop := codingChunkedRow.holds Try.pinned (OpenSpec.ofChange codingChunkedWrong)

/-- 'abutmentlaw21.CacheAsks': WHATEVER THE INPUT: true; the input reads as it did. -/
def cacheAsksSpec : ChangeSpec := { name := "cacheAsks", fn := fun _ => fun
  | [d1, d2] => { results := [.lit (.bool true)], args := [d1, d2] }
  | _ => none }
def cacheAsksRow : OpenClaim := { program := "ytjnhghplfdiijaa", sum := "21ae8001ed1172d4ee6090f9f6fe3a6948b1109543c84eb6abd7b768bc160563", func := "abutment/abutmentlaw21.CacheAsks", spec := "cacheAsks", inPlace := ["internal/abi.NoEscape", "internal/bytealg.MakeNoZero"], unfollowed := true, recurses := true, apart := false }
def CacheAsksSaid : Prop := cacheAsksRow.holds Try.pinned (OpenSpec.ofChange cacheAsksSpec)

/-- ITS FALSE NEIGHBOUR: 'it returns false'. Refute it at one input. -/
def cacheAsksWrong : ChangeSpec := { name := "cacheAsks", fn := fun _ => fun
  | [d1, d2] => { results := [.lit (.bool false)], args := [d1, d2] }
  | _ => none }
def CacheAsksWrongFalsely : Prop := cacheAsksRow.holds Try.pinned (OpenSpec.ofChange cacheAsksWrong)

/-- 'abutmentlaw19.CodingOnly': WHATEVER THE INPUT: true; the input reads as it did. -/
def codingOnlySpec : ChangeSpec := { name := "codingOnly", fn := fun _ => fun
  | [d1, d2] => { results := [.lit (.bool true)], args := [d1, d2] }
  | _ => none }
def codingOnlyRow : OpenClaim := { program := "ytjnhghplfdiijaa", sum := "21ae8001ed1172d4ee6090f9f6fe3a6948b1109543c84eb6abd7b768bc160563", func := "abutment/abutmentlaw19.CodingOnly", spec := "codingOnly", inPlace := ["internal/abi.NoEscape", "internal/bytealg.MakeNoZero"], unfollowed := true, recurses := true, apart := false }
def CodingOnlySaid : Prop := codingOnlyRow.holds Try.pinned (OpenSpec.ofChange codingOnlySpec)

/-- ITS FALSE NEIGHBOUR: 'it returns false'. Refute it at one input. -/
def codingOnlyWrong : ChangeSpec := { name := "codingOnly", fn := fun _ => fun
  | [d1, d2] => { results := [.lit (.bool false)], args := [d1, d2] }
  | _ => none }
def CodingOnlyWrongFalsely : Prop := codingOnlyRow.holds Try.pinned (OpenSpec.ofChange codingOnlyWrong)

/-- 'abutmentlaw21.CacheParses': WHATEVER THE INPUT: true; the input reads as it did. -/
def cacheParsesSpec : ChangeSpec := { name := "cacheParses", fn := fun _ => fun
  | [d1, d2] => { results := [.lit (.bool true)], args := [d1, d2] }
  | _ => none }
def cacheParsesRow : OpenClaim := { program := "ytjnhghplfdiijaa", sum := "21ae8001ed1172d4ee6090f9f6fe3a6948b1109543c84eb6abd7b768bc160563", func := "abutment/abutmentlaw21.CacheParses", spec := "cacheParses", inPlace := ["internal/abi.NoEscape", "internal/bytealg.MakeNoZero"], unfollowed := true, recurses := true, apart := false }
def CacheParsesSaid : Prop := cacheParsesRow.holds Try.pinned (OpenSpec.ofChange cacheParsesSpec)

/-- ITS FALSE NEIGHBOUR: 'it returns false'. Refute it at one input. -/
def cacheParsesWrong : ChangeSpec := { name := "cacheParses", fn := fun _ => fun
  | [d1, d2] => { results := [.lit (.bool false)], args := [d1, d2] }
  | _ => none }
def CacheParsesWrongFalsely : Prop := cacheParsesRow.holds Try.pinned (OpenSpec.ofChange cacheParsesWrong)

/-- 'abutmentlaw21.CacheBack': WHATEVER THE INPUT: true; the input reads as it did. -/
def cacheBackSpec : ChangeSpec := { name := "cacheBack", fn := fun _ => fun
  | [d] => { results := [.lit (.bool true)], args := [d] }
  | _ => none }
def cacheBackRow : OpenClaim := { program := "ytjnhghplfdiijaa", sum := "21ae8001ed1172d4ee6090f9f6fe3a6948b1109543c84eb6abd7b768bc160563", func := "abutment/abutmentlaw21.CacheBack", spec := "cacheBack", inPlace := ["internal/abi.NoEscape", "internal/bytealg.MakeNoZero"], unfollowed := true, recurses := true, apart := false }
def CacheBackSaid : Prop := cacheBackRow.holds Try.pinned (OpenSpec.ofChange cacheBackSpec)

/-- ITS FALSE NEIGHBOUR: 'it returns false'. Refute it at one input. -/
def cacheBackWrong : ChangeSpec := { name := "cacheBack", fn := fun _ => fun
  | [d] => { results := [.lit (.bool false)], args := [d] }
  | _ => none }
def CacheBackWrongFalsely : Prop := cacheBackRow.holds Try.pinned (OpenSpec.ofChange cacheBackWrong)

/-- 'abutmentlaw06.HttpdateParses': WHATEVER THE INPUT: true; the input reads as it did. -/
def httpdateParsesSpec : ChangeSpec := { name := "httpdateParses", fn := fun _ => fun
  | [d1, d2] => { results := [.lit (.bool true)], args := [d1, d2] }
  | _ => none }
def httpdateParsesRow : OpenClaim := { program := "ytjnhghplfdiijaa", sum := "21ae8001ed1172d4ee6090f9f6fe3a6948b1109543c84eb6abd7b768bc160563", func := "abutment/abutmentlaw06.HttpdateParses", spec := "httpdateParses", inPlace := ["internal/abi.NoEscape", "internal/bytealg.MakeNoZero"], unfollowed := true, recurses := true, apart := false }
def HttpdateParsesSaid : Prop := httpdateParsesRow.holds Try.pinned (OpenSpec.ofChange httpdateParsesSpec)

/-- ITS FALSE NEIGHBOUR: 'it returns false'. Refute it at one input. -/
def httpdateParsesWrong : ChangeSpec := { name := "httpdateParses", fn := fun _ => fun
  | [d1, d2] => { results := [.lit (.bool false)], args := [d1, d2] }
  | _ => none }
def HttpdateParsesWrongFalsely : Prop := httpdateParsesRow.holds Try.pinned (OpenSpec.ofChange httpdateParsesWrong)

/-- 'abutmentlaw06.HttpdatePrints': WHATEVER THE INPUT: true; the input reads as it did. -/
def httpdatePrintsSpec : ChangeSpec := { name := "httpdatePrints", fn := fun _ => fun
  | [d] => { results := [.lit (.bool true)], args := [d] }
  | _ => none }
def httpdatePrintsRow : OpenClaim := { program := "ytjnhghplfdiijaa", sum := "21ae8001ed1172d4ee6090f9f6fe3a6948b1109543c84eb6abd7b768bc160563", func := "abutment/abutmentlaw06.HttpdatePrints", spec := "httpdatePrints", inPlace := ["internal/abi.NoEscape", "internal/bytealg.MakeNoZero"], unfollowed := true, recurses := true, apart := false }
def HttpdatePrintsSaid : Prop := httpdatePrintsRow.holds Try.pinned (OpenSpec.ofChange httpdatePrintsSpec)

/-- ITS FALSE NEIGHBOUR: 'it returns false'. Refute it at one input. -/
def httpdatePrintsWrong : ChangeSpec := { name := "httpdatePrints", fn := fun _ => fun
  | [d] => { results := [.lit (.bool false)], args := [d] }
  | _ => none }
def HttpdatePrintsWrongFalsely : Prop := httpdatePrintsRow.holds Try.pinned (OpenSpec.ofChange httpdatePrintsWrong)

/-- 'abutmentlaw06.HttpdateBack': WHATEVER THE INPUT: true; the input reads as it did. -/
def httpdateBackSpec : ChangeSpec := { name := "httpdateBack", fn := fun _ => fun
  | [d1, d2] => { results := [.lit (.bool true)], args := [d1, d2] }
  | _ => none }
def httpdateBackRow : OpenClaim := { program := "ytjnhghplfdiijaa", sum := "21ae8001ed1172d4ee6090f9f6fe3a6948b1109543c84eb6abd7b768bc160563", func := "abutment/abutmentlaw06.HttpdateBack", spec := "httpdateBack", inPlace := ["internal/abi.NoEscape", "internal/bytealg.MakeNoZero"], unfollowed := true, recurses := true, apart := false }
def HttpdateBackSaid : Prop := httpdateBackRow.holds Try.pinned (OpenSpec.ofChange httpdateBackSpec)

/-- ITS FALSE NEIGHBOUR: 'it returns false'. Refute it at one input. -/
def httpdateBackWrong : ChangeSpec := { name := "httpdateBack", fn := fun _ => fun
  | [d1, d2] => { results := [.lit (.bool false)], args := [d1, d2] }
  | _ => none }
def HttpdateBackWrongFalsely : Prop := httpdateBackRow.holds Try.pinned (OpenSpec.ofChange httpdateBackWrong)

/-- 'abutmentlaw30.DatefixFixes': WHATEVER THE INPUT: true; the input reads as it did. -/
def datefixFixesSpec : ChangeSpec := { name := "datefixFixes", fn := fun _ => fun
  | [d1, d2, d3] => { results := [.lit (.bool true)], args := [d1, d2, d3] }
  | _ => none }
def datefixFixesRow : OpenClaim := { program := "ytjnhghplfdiijaa", sum := "21ae8001ed1172d4ee6090f9f6fe3a6948b1109543c84eb6abd7b768bc160563", func := "abutment/abutmentlaw30.DatefixFixes", spec := "datefixFixes", inPlace := ["internal/abi.NoEscape", "internal/bytealg.MakeNoZero"], unfollowed := true, recurses := true, apart := false }
def DatefixFixesSaid : Prop := datefixFixesRow.holds Try.pinned (OpenSpec.ofChange datefixFixesSpec)

/-- ITS FALSE NEIGHBOUR: 'it returns false'. Refute it at one input. -/
def datefixFixesWrong : ChangeSpec := { name := "datefixFixes", fn := fun _ => fun
  | [d1, d2, d3] => { results := [.lit (.bool false)], args := [d1, d2, d3] }
  | _ => none }
def DatefixFixesWrongFalsely : Prop := datefixFixesRow.holds Try.pinned (OpenSpec.ofChange datefixFixesWrong)

/-- 'abutmentlaw30.DatefixStays': WHATEVER THE INPUT: true; the input reads as it did. -/
def datefixStaysSpec : ChangeSpec := { name := "datefixStays", fn := fun _ => fun
  | [d1, d2, d3] => { results := [.lit (.bool true)], args := [d1, d2, d3] }
  | _ => none }
def datefixStaysRow : OpenClaim := { program := "ytjnhghplfdiijaa", sum := "21ae8001ed1172d4ee6090f9f6fe3a6948b1109543c84eb6abd7b768bc160563", func := "abutment/abutmentlaw30.DatefixStays", spec := "datefixStays", inPlace := ["internal/abi.NoEscape", "internal/bytealg.MakeNoZero"], unfollowed := true, recurses := true, apart := false }
def DatefixStaysSaid : Prop := datefixStaysRow.holds Try.pinned (OpenSpec.ofChange datefixStaysSpec)

/-- ITS FALSE NEIGHBOUR: 'it returns false'. Refute it at one input. -/
def datefixStaysWrong : ChangeSpec := { name := "datefixStays", fn := fun _ => fun
  | [d1, d2, d3] => { results := [.lit (.bool false)], args := [d1, d2, d3] }
  | _ => none }
def DatefixStaysWrongFalsely : Prop := datefixStaysRow.holds Try.pinned (OpenSpec.ofChange datefixStaysWrong)

/- THE SECOND FORM. 'bulk': how many values and letters a reading holds, each counted each time it is reached (what is shared counts as often as it is met; a slice's spare places count too). A statement '..UptoSaid' is the law's where the arguments, and the package variables that the reading takes, are together of bulk at most 1048576: NARROWER than '..Said'. Prove '..Said' where nothing that the law and all that it calls make is longer than what came in: it says more and counts as full. Else prove '..UptoSaid'. A law counts once. -/
mutual
def uptoBulk {H : Type} : DataW H → Nat
  | .lit (.string bytes) => bytes.length + 1
  | .lit _ => 1
  | .nil => 1
  | .ptr d => uptoBulk d + 1
  | .slice elems spare => uptoBulkAll elems + uptoBulkAll spare + 1
  | .agg parts => uptoBulkAll parts + 1
  | .iface _ d => uptoBulk d + 1
  | .map entries => uptoBulkEntries entries + 1
  | .held _ => 1
def uptoBulkAll {H : Type} : List (DataW H) → Nat
  | [] => 0
  | d :: r => uptoBulk d + uptoBulkAll r
def uptoBulkEntries {H : Type} : List (Lit × DataW H) → Nat
  | [] => 0
  | x :: r => uptoBulkEntry x + uptoBulkEntries r
def uptoBulkEntry {H : Type} : Lit × DataW H → Nat
  | (.string bytes, d) => bytes.length + uptoBulk d + 1
  | (_, d) => uptoBulk d + 1
 end
def uptoSmall : (H : Type) → List (DataW H) → Bool := fun _ ds => decide (uptoBulkAll ds ≤ 1048576)
def OpenSpec.upto (s : _root_.Go.ChangeSpec) : _root_.Go.OpenSpec := { _root_.Go.OpenSpec.ofChange s with cond := some uptoSmall }

/-- 'abutmentlaw36.PlanFits', WHERE WHAT IT READS IS OF BULK AT MOST 1048576: true; the input reads as it did. -/
def planFitsUptoRow : OpenClaim := { program := "ytjnhghplfdiijaa", sum := "21ae8001ed1172d4ee6090f9f6fe3a6948b1109543c84eb6abd7b768bc160563", func := "abutment/abutmentlaw36.PlanFits", spec := "planFits", unfollowed := true, recurses := true, apart := false, narrowed := true }
def PlanFitsUptoSaid : Prop := planFitsUptoRow.holds Try.pinned (OpenSpec.upto planFitsSpec)

/-- 'abutmentlaw33.RefusalTells', WHERE WHAT IT READS IS OF BULK AT MOST 1048576: true; the input reads as it did. -/
def refusalTellsUptoRow : OpenClaim := { program := "ytjnhghplfdiijaa", sum := "21ae8001ed1172d4ee6090f9f6fe3a6948b1109543c84eb6abd7b768bc160563", func := "abutment/abutmentlaw33.RefusalTells", spec := "refusalTells", inPlace := ["internal/abi.NoEscape", "internal/bytealg.MakeNoZero"], unfollowed := true, recurses := true, apart := false, narrowed := true }
def RefusalTellsUptoSaid : Prop := refusalTellsUptoRow.holds Try.pinned (OpenSpec.upto refusalTellsSpec)

/-- 'abutmentlaw19.CodingChunked', WHERE WHAT IT READS IS OF BULK AT MOST 1048576: true; the input reads as it did. -/
def codingChunkedUptoRow : OpenClaim := { program := "ytjnhghplfdiijaa", sum := "21ae8001ed1172d4ee6090f9f6fe3a6948b1109543c84eb6abd7b768bc160563", func := "abutment/abutmentlaw19.CodingChunked", spec := "codingChunked", inPlace := ["internal/abi.NoEscape", "internal/bytealg.MakeNoZero"], unfollowed := true, recurses := true, apart := false, narrowed := true }
def CodingChunkedUptoSaid : Prop := codingChunkedUptoRow.holds Try.pinned (OpenSpec.upto codingChunkedSpec)

/-- 'abutmentlaw21.CacheAsks', WHERE WHAT IT READS IS OF BULK AT MOST 1048576: true; the input reads as it did. -/
def cacheAsksUptoRow : OpenClaim := { program := "ytjnhghplfdiijaa", sum := "21ae8001ed1172d4ee6090f9f6fe3a6948b1109543c84eb6abd7b768bc160563", func := "abutment/abutmentlaw21.CacheAsks", spec := "cacheAsks", inPlace := ["internal/abi.NoEscape", "internal/bytealg.MakeNoZero"], unfollowed := true, recurses := true, apart := false, narrowed := true }
def CacheAsksUptoSaid : Prop := cacheAsksUptoRow.holds Try.pinned (OpenSpec.upto cacheAsksSpec)

/-- 'abutmentlaw19.CodingOnly', WHERE WHAT IT READS IS OF BULK AT MOST 1048576: true; the input reads as it did. -/
def codingOnlyUptoRow : OpenClaim := { program := "ytjnhghplfdiijaa", sum := "21ae8001ed1172d4ee6090f9f6fe3a6948b1109543c84eb6abd7b768bc160563", func := "abutment/abutmentlaw19.CodingOnly", spec := "codingOnly", inPlace := ["internal/abi.NoEscape", "internal/bytealg.MakeNoZero"], unfollowed := true, recurses := true, apart := false, narrowed := true }
def CodingOnlyUptoSaid : Prop := codingOnlyUptoRow.holds Try.pinned (OpenSpec.upto codingOnlySpec)

/-- 'abutmentlaw21.CacheParses', WHERE WHAT IT READS IS OF BULK AT MOST 1048576: true; the input reads as it did. -/
def cacheParsesUptoRow : OpenClaim := { program := "ytjnhghplfdiijaa", sum := "21ae8001ed1172d4ee6090f9f6fe3a6948b1109543c84eb6abd7b768bc160563", func := "abutment/abutmentlaw21.CacheParses", spec := "cacheParses", inPlace := ["internal/abi.NoEscape", "internal/bytealg.MakeNoZero"], unfollowed := true, recurses := true, apart := false, narrowed := true }
def CacheParsesUptoSaid : Prop := cacheParsesUptoRow.holds Try.pinned (OpenSpec.upto cacheParsesSpec)

/-- 'abutmentlaw21.CacheBack', WHERE WHAT IT READS IS OF BULK AT MOST 1048576: true; the input reads as it did. -/
def cacheBackUptoRow : OpenClaim := { program := "ytjnhghplfdiijaa", sum := "21ae8001ed1172d4ee6090f9f6fe3a6948b1109543c84eb6abd7b768bc160563", func := "abutment/abutmentlaw21.CacheBack", spec := "cacheBack", inPlace := ["internal/abi.NoEscape", "internal/bytealg.MakeNoZero"], unfollowed := true, recurses := true, apart := false, narrowed := true }
def CacheBackUptoSaid : Prop := cacheBackUptoRow.holds Try.pinned (OpenSpec.upto cacheBackSpec)

/-- 'abutmentlaw06.HttpdateParses', WHERE WHAT IT READS IS OF BULK AT MOST 1048576: true; the input reads as it did. -/
def httpdateParsesUptoRow : OpenClaim := { program := "ytjnhghplfdiijaa", sum := "21ae8001ed1172d4ee6090f9f6fe3a6948b1109543c84eb6abd7b768bc160563", func := "abutment/abutmentlaw06.HttpdateParses", spec := "httpdateParses", inPlace := ["internal/abi.NoEscape", "internal/bytealg.MakeNoZero"], unfollowed := true, recurses := true, apart := false, narrowed := true }
def HttpdateParsesUptoSaid : Prop := httpdateParsesUptoRow.holds Try.pinned (OpenSpec.upto httpdateParsesSpec)

/-- 'abutmentlaw06.HttpdatePrints', WHERE WHAT IT READS IS OF BULK AT MOST 1048576: true; the input reads as it did. -/
def httpdatePrintsUptoRow : OpenClaim := { program := "ytjnhghplfdiijaa", sum := "21ae8001ed1172d4ee6090f9f6fe3a6948b1109543c84eb6abd7b768bc160563", func := "abutment/abutmentlaw06.HttpdatePrints", spec := "httpdatePrints", inPlace := ["internal/abi.NoEscape", "internal/bytealg.MakeNoZero"], unfollowed := true, recurses := true, apart := false, narrowed := true }
def HttpdatePrintsUptoSaid : Prop := httpdatePrintsUptoRow.holds Try.pinned (OpenSpec.upto httpdatePrintsSpec)

/-- 'abutmentlaw06.HttpdateBack', WHERE WHAT IT READS IS OF BULK AT MOST 1048576: true; the input reads as it did. -/
def httpdateBackUptoRow : OpenClaim := { program := "ytjnhghplfdiijaa", sum := "21ae8001ed1172d4ee6090f9f6fe3a6948b1109543c84eb6abd7b768bc160563", func := "abutment/abutmentlaw06.HttpdateBack", spec := "httpdateBack", inPlace := ["internal/abi.NoEscape", "internal/bytealg.MakeNoZero"], unfollowed := true, recurses := true, apart := false, narrowed := true }
def HttpdateBackUptoSaid : Prop := httpdateBackUptoRow.holds Try.pinned (OpenSpec.upto httpdateBackSpec)

/-- 'abutmentlaw30.DatefixFixes', WHERE WHAT IT READS IS OF BULK AT MOST 1048576: true; the input reads as it did. -/
def datefixFixesUptoRow : OpenClaim := { program := "ytjnhghplfdiijaa", sum := "21ae8001ed1172d4ee6090f9f6fe3a6948b1109543c84eb6abd7b768bc160563", func := "abutment/abutmentlaw30.DatefixFixes", spec := "datefixFixes", inPlace := ["internal/abi.NoEscape", "internal/bytealg.MakeNoZero"], unfollowed := true, recurses := true, apart := false, narrowed := true }
def DatefixFixesUptoSaid : Prop := datefixFixesUptoRow.holds Try.pinned (OpenSpec.upto datefixFixesSpec)

/-- 'abutmentlaw30.DatefixStays', WHERE WHAT IT READS IS OF BULK AT MOST 1048576: true; the input reads as it did. -/
def datefixStaysUptoRow : OpenClaim := { program := "ytjnhghplfdiijaa", sum := "21ae8001ed1172d4ee6090f9f6fe3a6948b1109543c84eb6abd7b768bc160563", func := "abutment/abutmentlaw30.DatefixStays", spec := "datefixStays", inPlace := ["internal/abi.NoEscape", "internal/bytealg.MakeNoZero"], unfollowed := true, recurses := true, apart := false, narrowed := true }
def DatefixStaysUptoSaid : Prop := datefixStaysUptoRow.holds Try.pinned (OpenSpec.upto datefixStaysSpec)

end Rows
end Go.Proofs.Ytjnhghplfdiijaa
