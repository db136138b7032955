/-
  NARROWER THAN 'FOR EVERY INPUT', by the rows' own cells (each row's printed sentence says how): UnitPlays: laid · UnitProducts: laid · UnitNames: laid · UnitSelf: laid · UnitDefines: laid.
  DERIVED. THE GIVEN ROWS OF THIS SEAT. 5 by the template 'for every input the law returns true; each argument reads behind the call as it read before'; 0 by the template 'total and deterministic' (their statements: YtpchdjdochkjpaaGreatDoorTotals.lean).
  GIVEN WITH THE SEED: the statements are not yours to turn. If you find one false, say at which input.
  Laid BY PROGRAM, IN A SANDBOX (cutbox-rows.mjs): the forced cells as the released guide's own fill.sh prints them over the translation fdd8ec2f084be784… (all of the seat's roots in one cut). By AI agents, Wed Nov 11 2026. No macro, syntax, notation, axiom, sorry.
-/
import Derived.Test.YtpchdjdochkjpaaGreatDoorChecked
import GoSem.Claim
import GoSem.ClaimJoined
import GoSem.ClaimMapViews
import Derived.JoinedTies
import Derived.KernelRfl
namespace Go.Proofs.YtpchdjdochkjpaaGreatDoor
/- THE CELL 'sum', in the pinned program and in every row, IS THE sha256 OF THE DUMP (.gsa) THAT YtpchdjdochkjpaaGreatDoorProg.lean LOADS. Nothing in Lean hashes anything: it is a label: what it is worth is what the hold of that sum in a sandbox is worth. -/
noncomputable def Tryz.pinned : Pinned := { name := "ytpchdjdochkjpaagreatdoor", sum := "fdd8ec2f084be78439c0fca5dfc063713a484e6d0f2ef5b826d106921fdc6eb5", checked := Tryz.checked }
namespace Rows
def none {H : Type} : Left H := { results := [], args := [] }

/- WHAT THE LISTED PACKAGE-LEVEL VARIABLES READ AS WHEN THE CALL BEGINS. Each datum BY PROGRAM (the guide's laid-datum.mjs) off the statement by which the dump's own 'gosem.cut.vars' lays the variable. In a bare row this is a premise. The card (YtpchdjdochkjpaaGreatDoorCards.lean) ties it to the program's text. -/
def laid_steelyard_unit_rows {H : Type} : DataW H := .agg [.agg [.lit (.string [109]), .lit (.int .i64 1), .agg [.lit (.int .i64 1), .lit (.int .i64 0), .lit (.int .i64 0), .lit (.int .i64 0), .lit (.int .i64 0), .lit (.int .i64 0), .lit (.int .i64 0)], .lit (.bool true)], .agg [.lit (.string [115]), .lit (.int .i64 1), .agg [.lit (.int .i64 0), .lit (.int .i64 0), .lit (.int .i64 1), .lit (.int .i64 0), .lit (.int .i64 0), .lit (.int .i64 0), .lit (.int .i64 0)], .lit (.bool true)], .agg [.lit (.string [65]), .lit (.int .i64 1), .agg [.lit (.int .i64 0), .lit (.int .i64 0), .lit (.int .i64 0), .lit (.int .i64 1), .lit (.int .i64 0), .lit (.int .i64 0), .lit (.int .i64 0)], .lit (.bool true)], .agg [.lit (.string [75]), .lit (.int .i64 1), .agg [.lit (.int .i64 0), .lit (.int .i64 0), .lit (.int .i64 0), .lit (.int .i64 0), .lit (.int .i64 1), .lit (.int .i64 0), .lit (.int .i64 0)], .lit (.bool true)], .agg [.lit (.string [109, 111, 108]), .lit (.int .i64 1), .agg [.lit (.int .i64 0), .lit (.int .i64 0), .lit (.int .i64 0), .lit (.int .i64 0), .lit (.int .i64 0), .lit (.int .i64 1), .lit (.int .i64 0)], .lit (.bool true)], .agg [.lit (.string [99, 100]), .lit (.int .i64 1), .agg [.lit (.int .i64 0), .lit (.int .i64 0), .lit (.int .i64 0), .lit (.int .i64 0), .lit (.int .i64 0), .lit (.int .i64 0), .lit (.int .i64 1)], .lit (.bool true)], .agg [.lit (.string [103]), .lit (.int .i64 (-1000)), .agg [.lit (.int .i64 0), .lit (.int .i64 1), .lit (.int .i64 0), .lit (.int .i64 0), .lit (.int .i64 0), .lit (.int .i64 0), .lit (.int .i64 0)], .lit (.bool true)], .agg [.lit (.string [72, 122]), .lit (.int .i64 1), .agg [.lit (.int .i64 0), .lit (.int .i64 0), .lit (.int .i64 (-1)), .lit (.int .i64 0), .lit (.int .i64 0), .lit (.int .i64 0), .lit (.int .i64 0)], .lit (.bool true)], .agg [.lit (.string [78]), .lit (.int .i64 1), .agg [.lit (.int .i64 1), .lit (.int .i64 1), .lit (.int .i64 (-2)), .lit (.int .i64 0), .lit (.int .i64 0), .lit (.int .i64 0), .lit (.int .i64 0)], .lit (.bool true)], .agg [.lit (.string [80, 97]), .lit (.int .i64 1), .agg [.lit (.int .i64 (-1)), .lit (.int .i64 1), .lit (.int .i64 (-2)), .lit (.int .i64 0), .lit (.int .i64 0), .lit (.int .i64 0), .lit (.int .i64 0)], .lit (.bool true)], .agg [.lit (.string [74]), .lit (.int .i64 1), .agg [.lit (.int .i64 2), .lit (.int .i64 1), .lit (.int .i64 (-2)), .lit (.int .i64 0), .lit (.int .i64 0), .lit (.int .i64 0), .lit (.int .i64 0)], .lit (.bool true)], .agg [.lit (.string [87]), .lit (.int .i64 1), .agg [.lit (.int .i64 2), .lit (.int .i64 1), .lit (.int .i64 (-3)), .lit (.int .i64 0), .lit (.int .i64 0), .lit (.int .i64 0), .lit (.int .i64 0)], .lit (.bool true)], .agg [.lit (.string [67]), .lit (.int .i64 1), .agg [.lit (.int .i64 0), .lit (.int .i64 0), .lit (.int .i64 1), .lit (.int .i64 1), .lit (.int .i64 0), .lit (.int .i64 0), .lit (.int .i64 0)], .lit (.bool true)], .agg [.lit (.string [86]), .lit (.int .i64 1), .agg [.lit (.int .i64 2), .lit (.int .i64 1), .lit (.int .i64 (-3)), .lit (.int .i64 (-1)), .lit (.int .i64 0), .lit (.int .i64 0), .lit (.int .i64 0)], .lit (.bool true)], .agg [.lit (.string [76]), .lit (.int .i64 (-1000)), .agg [.lit (.int .i64 3), .lit (.int .i64 0), .lit (.int .i64 0), .lit (.int .i64 0), .lit (.int .i64 0), .lit (.int .i64 0), .lit (.int .i64 0)], .lit (.bool true)], .agg [.lit (.string [109, 105, 110]), .lit (.int .i64 60), .agg [.lit (.int .i64 0), .lit (.int .i64 0), .lit (.int .i64 1), .lit (.int .i64 0), .lit (.int .i64 0), .lit (.int .i64 0), .lit (.int .i64 0)], .lit (.bool false)], .agg [.lit (.string [104]), .lit (.int .i64 3600), .agg [.lit (.int .i64 0), .lit (.int .i64 0), .lit (.int .i64 1), .lit (.int .i64 0), .lit (.int .i64 0), .lit (.int .i64 0), .lit (.int .i64 0)], .lit (.bool false)]]
def laid_steelyard_unit_prefixes {H : Type} : DataW H := .agg [.agg [.lit (.string [107]), .lit (.int .i64 1000)], .agg [.lit (.string [77]), .lit (.int .i64 1000000)], .agg [.lit (.string [109]), .lit (.int .i64 (-1000))], .agg [.lit (.string [117]), .lit (.int .i64 (-1000000))], .agg [.lit (.string [99]), .lit (.int .i64 (-100))]]

/-- 'steelyardlaw12.UnitPlays': WHATEVER THE INPUT: true; the input reads as it did. -/
def unitPlaysSpec : ChangeSpec := { name := "unitPlays", fn := fun _ => fun
  | [d] => { results := [.lit (.bool true)], args := [d] }
  | _ => none }
def unitPlaysRow : OpenClaim := { program := "ytpchdjdochkjpaagreatdoor", sum := "fdd8ec2f084be78439c0fca5dfc063713a484e6d0f2ef5b826d106921fdc6eb5", func := "steelyard/steelyardlaw12.UnitPlays", spec := "unitPlays", inPlace := ["sync/atomic.LoadUint32", "(*internal/sync.Mutex).Lock", "internal/race.Disable", "sync/atomic.CompareAndSwapInt32", "internal/race.Enable", "internal/race.Acquire", "(*internal/sync.Mutex).lockSlow", "internal/sync.runtime_canSpin", "internal/sync.runtime_doSpin", "internal/sync.throw", "internal/sync.runtime_nanotime", "internal/sync.runtime_SemacquireMutex", "sync/atomic.AddInt32", "(*internal/sync.Mutex).Unlock", "internal/race.ReleaseMerge", "(*internal/sync.Mutex).unlockSlow", "internal/sync.fatal", "internal/sync.runtime_Semrelease", "sync/atomic.StoreUint32", "internal/bytealg.IndexByteString", "internal/bytealg.IndexString"], unfollowed := true, recurses := true, named := ["steelyard/unit.rows", "steelyard/unit.prefixes", "internal/bytealg.MaxLen"], apart := false, laid := [("steelyard/unit.rows", laid_steelyard_unit_rows), ("steelyard/unit.prefixes", laid_steelyard_unit_prefixes)] }
def UnitPlaysSaid : Prop := unitPlaysRow.holds Tryz.pinned (OpenSpec.ofChange unitPlaysSpec)

/-- ITS FALSE NEIGHBOUR: 'it returns false'. Refute it at one input. -/
def unitPlaysWrong : ChangeSpec := { name := "unitPlays", fn := fun _ => fun
  | [d] => { results := [.lit (.bool false)], args := [d] }
  | _ => none }
def UnitPlaysWrongFalsely : Prop := unitPlaysRow.holds Tryz.pinned (OpenSpec.ofChange unitPlaysWrong)

/-- 'steelyardlaw12.UnitProducts': WHATEVER THE INPUT: true; the input reads as it did. -/
def unitProductsSpec : ChangeSpec := { name := "unitProducts", fn := fun _ => fun
  | [d1, d2] => { results := [.lit (.bool true)], args := [d1, d2] }
  | _ => none }
def unitProductsRow : OpenClaim := { program := "ytpchdjdochkjpaagreatdoor", sum := "fdd8ec2f084be78439c0fca5dfc063713a484e6d0f2ef5b826d106921fdc6eb5", func := "steelyard/steelyardlaw12.UnitProducts", spec := "unitProducts", inPlace := ["sync/atomic.LoadUint32", "(*internal/sync.Mutex).Lock", "internal/race.Disable", "sync/atomic.CompareAndSwapInt32", "internal/race.Enable", "internal/race.Acquire", "(*internal/sync.Mutex).lockSlow", "internal/sync.runtime_canSpin", "internal/sync.runtime_doSpin", "internal/sync.throw", "internal/sync.runtime_nanotime", "internal/sync.runtime_SemacquireMutex", "sync/atomic.AddInt32", "(*internal/sync.Mutex).Unlock", "internal/race.ReleaseMerge", "(*internal/sync.Mutex).unlockSlow", "internal/sync.fatal", "internal/sync.runtime_Semrelease", "sync/atomic.StoreUint32", "internal/bytealg.IndexByteString", "internal/bytealg.IndexString"], unfollowed := true, recurses := true, named := ["steelyard/unit.rows", "steelyard/unit.prefixes", "internal/bytealg.MaxLen"], apart := false, laid := [("steelyard/unit.rows", laid_steelyard_unit_rows), ("steelyard/unit.prefixes", laid_steelyard_unit_prefixes)] }
def UnitProductsSaid : Prop := unitProductsRow.holds Tryz.pinned (OpenSpec.ofChange unitProductsSpec)

/-- ITS FALSE NEIGHBOUR: 'it returns false'. Refute it at one input. -/
def unitProductsWrong : ChangeSpec := { name := "unitProducts", fn := fun _ => fun
  | [d1, d2] => { results := [.lit (.bool false)], args := [d1, d2] }
  | _ => none }
def UnitProductsWrongFalsely : Prop := unitProductsRow.holds Tryz.pinned (OpenSpec.ofChange unitProductsWrong)

/-- 'steelyardlaw12.UnitNames': WHATEVER THE INPUT: true; the input reads as it did. -/
def unitNamesSpec : ChangeSpec := { name := "unitNames", fn := fun _ => fun
  | [d1, d2] => { results := [.lit (.bool true)], args := [d1, d2] }
  | _ => none }
def unitNamesRow : OpenClaim := { program := "ytpchdjdochkjpaagreatdoor", sum := "fdd8ec2f084be78439c0fca5dfc063713a484e6d0f2ef5b826d106921fdc6eb5", func := "steelyard/steelyardlaw12.UnitNames", spec := "unitNames", inPlace := ["sync/atomic.LoadUint32", "(*internal/sync.Mutex).Lock", "internal/race.Disable", "sync/atomic.CompareAndSwapInt32", "internal/race.Enable", "internal/race.Acquire", "(*internal/sync.Mutex).lockSlow", "internal/sync.runtime_canSpin", "internal/sync.runtime_doSpin", "internal/sync.throw", "internal/sync.runtime_nanotime", "internal/sync.runtime_SemacquireMutex", "sync/atomic.AddInt32", "(*internal/sync.Mutex).Unlock", "internal/race.ReleaseMerge", "(*internal/sync.Mutex).unlockSlow", "internal/sync.fatal", "internal/sync.runtime_Semrelease", "sync/atomic.StoreUint32", "internal/bytealg.IndexByteString", "internal/bytealg.IndexString"], unfollowed := true, recurses := true, named := ["steelyard/unit.rows", "steelyard/unit.prefixes", "internal/bytealg.MaxLen"], apart := false, laid := [("steelyard/unit.rows", laid_steelyard_unit_rows), ("steelyard/unit.prefixes", laid_steelyard_unit_prefixes)] }
def UnitNamesSaid : Prop := unitNamesRow.holds Tryz.pinned (OpenSpec.ofChange unitNamesSpec)

/-- ITS FALSE NEIGHBOUR: 'it returns false'. Refute it at one input. -/
def unitNamesWrong : ChangeSpec := { name := "unitNames", fn := fun _ => fun
  | [d1, d2] => { results := [.lit (.bool false)], args := [d1, d2] }
  | _ => none }
def UnitNamesWrongFalsely : Prop := unitNamesRow.holds Tryz.pinned (OpenSpec.ofChange unitNamesWrong)

/-- 'steelyardlaw12.UnitSelf': WHATEVER THE INPUT: true; the input reads as it did. -/
def unitSelfSpec : ChangeSpec := { name := "unitSelf", fn := fun _ => fun
  | [d1, d2] => { results := [.lit (.bool true)], args := [d1, d2] }
  | _ => none }
def unitSelfRow : OpenClaim := { program := "ytpchdjdochkjpaagreatdoor", sum := "fdd8ec2f084be78439c0fca5dfc063713a484e6d0f2ef5b826d106921fdc6eb5", func := "steelyard/steelyardlaw12.UnitSelf", spec := "unitSelf", inPlace := ["sync/atomic.LoadUint32", "(*internal/sync.Mutex).Lock", "internal/race.Disable", "sync/atomic.CompareAndSwapInt32", "internal/race.Enable", "internal/race.Acquire", "(*internal/sync.Mutex).lockSlow", "internal/sync.runtime_canSpin", "internal/sync.runtime_doSpin", "internal/sync.throw", "internal/sync.runtime_nanotime", "internal/sync.runtime_SemacquireMutex", "sync/atomic.AddInt32", "(*internal/sync.Mutex).Unlock", "internal/race.ReleaseMerge", "(*internal/sync.Mutex).unlockSlow", "internal/sync.fatal", "internal/sync.runtime_Semrelease", "sync/atomic.StoreUint32", "internal/bytealg.IndexByteString", "internal/bytealg.IndexString"], unfollowed := true, recurses := true, named := ["steelyard/unit.rows", "steelyard/unit.prefixes", "internal/bytealg.MaxLen"], apart := false, laid := [("steelyard/unit.rows", laid_steelyard_unit_rows), ("steelyard/unit.prefixes", laid_steelyard_unit_prefixes)] }
def UnitSelfSaid : Prop := unitSelfRow.holds Tryz.pinned (OpenSpec.ofChange unitSelfSpec)

/-- ITS FALSE NEIGHBOUR: 'it returns false'. Refute it at one input. -/
def unitSelfWrong : ChangeSpec := { name := "unitSelf", fn := fun _ => fun
  | [d1, d2] => { results := [.lit (.bool false)], args := [d1, d2] }
  | _ => none }
def UnitSelfWrongFalsely : Prop := unitSelfRow.holds Tryz.pinned (OpenSpec.ofChange unitSelfWrong)

/-- 'steelyardlaw12.UnitDefines': WHATEVER THE INPUT: true; the input reads as it did. -/
def unitDefinesSpec : ChangeSpec := { name := "unitDefines", fn := fun _ => fun
  | [d1, d2] => { results := [.lit (.bool true)], args := [d1, d2] }
  | _ => none }
def unitDefinesRow : OpenClaim := { program := "ytpchdjdochkjpaagreatdoor", sum := "fdd8ec2f084be78439c0fca5dfc063713a484e6d0f2ef5b826d106921fdc6eb5", func := "steelyard/steelyardlaw12.UnitDefines", spec := "unitDefines", inPlace := ["sync/atomic.LoadUint32", "(*internal/sync.Mutex).Lock", "internal/race.Disable", "sync/atomic.CompareAndSwapInt32", "internal/race.Enable", "internal/race.Acquire", "(*internal/sync.Mutex).lockSlow", "internal/sync.runtime_canSpin", "internal/sync.runtime_doSpin", "internal/sync.throw", "internal/sync.runtime_nanotime", "internal/sync.runtime_SemacquireMutex", "sync/atomic.AddInt32", "(*internal/sync.Mutex).Unlock", "internal/race.ReleaseMerge", "(*internal/sync.Mutex).unlockSlow", "internal/sync.fatal", "internal/sync.runtime_Semrelease", "sync/atomic.StoreUint32", "internal/bytealg.IndexByteString", "internal/bytealg.IndexString"], unfollowed := true, recurses := true, named := ["steelyard/unit.rows", "steelyard/unit.prefixes", "internal/bytealg.MaxLen"], apart := false, laid := [("steelyard/unit.rows", laid_steelyard_unit_rows), ("steelyard/unit.prefixes", laid_steelyard_unit_prefixes)] }
def UnitDefinesSaid : Prop := unitDefinesRow.holds Tryz.pinned (OpenSpec.ofChange unitDefinesSpec)

/-- ITS FALSE NEIGHBOUR: 'it returns false'. Refute it at one input. -/
def unitDefinesWrong : ChangeSpec := { name := "unitDefines", fn := fun _ => fun
  | [d1, d2] => { results := [.lit (.bool false)], args := [d1, d2] }
  | _ => none }
def UnitDefinesWrongFalsely : Prop := unitDefinesRow.holds Tryz.pinned (OpenSpec.ofChange unitDefinesWrong)

/- THE SECOND FORM. 'bulk': how many values and letters a reading holds, each counted each time it is reached (what is shared counts as often as it is met; a slice's spare places count too). A statement '..UptoSaid' is the law's where the arguments, and the package variables that the reading takes, are together of bulk at most 1048576: NARROWER than '..Said'. Prove '..Said' where nothing that the law and all that it calls make is longer than what came in: it says more and counts as full. Else prove '..UptoSaid'. A law counts once. -/
mutual
def uptoBulk {H : Type} : DataW H → Nat
  | .lit (.string bytes) => bytes.length + 1
  | .lit _ => 1
  | .nil => 1
  | .ptr d => uptoBulk d + 1
  | .slice elems spare => uptoBulkAll elems + uptoBulkAll spare + 1
  | .agg parts => uptoBulkAll parts + 1
  | .iface _ d => uptoBulk d + 1
  | .map entries => uptoBulkEntries entries + 1
  | .held _ => 1
def uptoBulkAll {H : Type} : List (DataW H) → Nat
  | [] => 0
  | d :: r => uptoBulk d + uptoBulkAll r
def uptoBulkEntries {H : Type} : List (Lit × DataW H) → Nat
  | [] => 0
  | x :: r => uptoBulkEntry x + uptoBulkEntries r
def uptoBulkEntry {H : Type} : Lit × DataW H → Nat
  | (.string bytes, d) => bytes.length + uptoBulk d + 1
  | (_, d) => uptoBulk d + 1
 end
def uptoSmall : (H : Type) → List (DataW H) → Bool := fun _ ds => decide (uptoBulkAll ds ≤ 1048576)
def OpenSpec.upto (s : _root_.Go.ChangeSpec) : _root_.Go.OpenSpec := { _root_.Go.OpenSpec.ofChange s with cond := some uptoSmall }

/-- 'steelyardlaw12.UnitPlays', WHERE WHAT IT READS IS OF BULK AT MOST 1048576: true; the input reads as it did. -/
def unitPlaysUptoRow : OpenClaim := { program := "ytpchdjdochkjpaagreatdoor", sum := "fdd8ec2f084be78439c0fca5dfc063713a484e6d0f2ef5b826d106921fdc6eb5", func := "steelyard/steelyardlaw12.UnitPlays", spec := "unitPlays", inPlace := ["sync/atomic.LoadUint32", "(*internal/sync.Mutex).Lock", "internal/race.Disable", "sync/atomic.CompareAndSwapInt32", "internal/race.Enable", "internal/race.Acquire", "(*internal/sync.Mutex).lockSlow", "internal/sync.runtime_canSpin", "internal/sync.runtime_doSpin", "internal/sync.throw", "internal/sync.runtime_nanotime", "internal/sync.runtime_SemacquireMutex", "sync/atomic.AddInt32", "(*internal/sync.Mutex).Unlock", "internal/race.ReleaseMerge", "(*internal/sync.Mutex).unlockSlow", "internal/sync.fatal", "internal/sync.runtime_Semrelease", "sync/atomic.StoreUint32", "internal/bytealg.IndexByteString", "internal/bytealg.IndexString"], unfollowed := true, recurses := true, named := ["steelyard/unit.rows", "steelyard/unit.prefixes", "internal/bytealg.MaxLen"], apart := false, laid := [("steelyard/unit.rows", laid_steelyard_unit_rows), ("steelyard/unit.prefixes", laid_steelyard_unit_prefixes)], narrowed := true }
def UnitPlaysUptoSaid : Prop := unitPlaysUptoRow.holds Tryz.pinned (OpenSpec.upto unitPlaysSpec)

/-- 'steelyardlaw12.UnitProducts', WHERE WHAT IT READS IS OF BULK AT MOST 1048576: true; the input reads as it did. -/
def unitProductsUptoRow : OpenClaim := { program := "ytpchdjdochkjpaagreatdoor", sum := "fdd8ec2f084be78439c0fca5dfc063713a484e6d0f2ef5b826d106921fdc6eb5", func := "steelyard/steelyardlaw12.UnitProducts", spec := "unitProducts", inPlace := ["sync/atomic.LoadUint32", "(*internal/sync.Mutex).Lock", "internal/race.Disable", "sync/atomic.CompareAndSwapInt32", "internal/race.Enable", "internal/race.Acquire", "(*internal/sync.Mutex).lockSlow", "internal/sync.runtime_canSpin", "internal/sync.runtime_doSpin", "internal/sync.throw", "internal/sync.runtime_nanotime", "internal/sync.runtime_SemacquireMutex", "sync/atomic.AddInt32", "(*internal/sync.Mutex).Unlock", "internal/race.ReleaseMerge", "(*internal/sync.Mutex).unlockSlow", "internal/sync.fatal", "internal/sync.runtime_Semrelease", "sync/atomic.StoreUint32", "internal/bytealg.IndexByteString", "internal/bytealg.IndexString"], unfollowed := true, recurses := true, named := ["steelyard/unit.rows", "steelyard/unit.prefixes", "internal/bytealg.MaxLen"], apart := false, laid := [("steelyard/unit.rows", laid_steelyard_unit_rows), ("steelyard/unit.prefixes", laid_steelyard_unit_prefixes)], narrowed := true }
def UnitProductsUptoSaid : Prop := unitProductsUptoRow.holds Tryz.pinned (OpenSpec.upto unitProductsSpec)

/-- 'steelyardlaw12.UnitNames', WHERE WHAT IT READS IS OF BULK AT MOST 1048576: true; the input reads as it did. -/
def unitNamesUptoRow : OpenClaim := { program := "ytpchdjdochkjpaagreatdoor", sum := "fdd8ec2f084be78439c0fca5dfc063713a484e6d0f2ef5b826d106921fdc6eb5", func := "steelyard/steelyardlaw12.UnitNames", spec := "unitNames", inPlace := ["sync/atomic.LoadUint32", "(*internal/sync.Mutex).Lock", "internal/race.Disable", "sync/atomic.CompareAndSwapInt32", "internal/race.Enable", "internal/race.Acquire", "(*internal/sync.Mutex).lockSlow", "internal/sync.runtime_canSpin", "internal/sync.runtime_doSpin", "internal/sync.throw", "internal/sync.runtime_nanotime", "internal/sync.runtime_SemacquireMutex", "sync/atomic.AddInt32", "(*internal/sync.Mutex).Unlock", "internal/race.ReleaseMerge", "(*internal/sync.Mutex).unlockSlow", "internal/sync.fatal", "internal/sync.runtime_Semrelease", "sync/atomic.StoreUint32", "internal/bytealg.IndexByteString", "internal/bytealg.IndexString"], unfollowed := true, recurses := true, named := ["steelyard/unit.rows", "steelyard/unit.prefixes", "internal/bytealg.MaxLen"], apart := false, laid := [("steelyard/unit.rows", laid_steelyard_unit_rows), ("steelyard/unit.prefixes", laid_steelyard_unit_prefixes)], narrowed := true }
def UnitNamesUptoSaid : Prop := unitNamesUptoRow.holds Tryz.pinned (OpenSpec.upto unitNamesSpec)

/-- 'steelyardlaw12.UnitSelf', WHERE WHAT IT READS IS OF BULK AT MOST 1048576: true; the input reads as it did. -/
def unitSelfUptoRow : OpenClaim := { program := "ytpchdjdochkjpaagreatdoor", sum := "fdd8ec2f084be78439c0fca5dfc063713a484e6d0f2ef5b826d106921fdc6eb5", func := "steelyard/steelyardlaw12.UnitSelf", spec := "unitSelf", inPlace := ["sync/atomic.LoadUint32", "(*internal/sync.Mutex).Lock", "internal/race.Disable", "sync/atomic.CompareAndSwapInt32", "internal/race.Enable", "internal/race.Acquire", "(*internal/sync.Mutex).lockSlow", "internal/sync.runtime_canSpin", "internal/sync.runtime_doSpin", "internal/sync.throw", "internal/sync.runtime_nanotime", "internal/sync.runtime_SemacquireMutex", "sync/atomic.AddInt32", "(*internal/sync.Mutex).Unlock", "internal/race.ReleaseMerge", "(*internal/sync.Mutex).unlockSlow", "internal/sync.fatal", "internal/sync.runtime_Semrelease", "sync/atomic.StoreUint32", "internal/bytealg.IndexByteString", "internal/bytealg.IndexString"], unfollowed := true, recurses := true, named := ["steelyard/unit.rows", "steelyard/unit.prefixes", "internal/bytealg.MaxLen"], apart := false, laid := [("steelyard/unit.rows", laid_steelyard_unit_rows), ("steelyard/unit.prefixes", laid_steelyard_unit_prefixes)], narrowed := true }
def UnitSelfUptoSaid : Prop := unitSelfUptoRow.holds Tryz.pinned (OpenSpec.upto unitSelfSpec)

/-- 'steelyardlaw12.UnitDefines', WHERE WHAT IT READS IS OF BULK AT MOST 1048576: true; the input reads as it did. -/
def unitDefinesUptoRow : OpenClaim := { program := "ytpchdjdochkjpaagreatdoor", sum := "fdd8ec2f084be78439c0fca5dfc063713a484e6d0f2ef5b826d106921fdc6eb5", func := "steelyard/steelyardlaw12.UnitDefines", spec := "unitDefines", inPlace := ["sync/atomic.LoadUint32", "(*internal/sync.Mutex).Lock", "internal/race.Disable", "sync/atomic.CompareAndSwapInt32", "internal/race.Enable", "internal/race.Acquire", "(*internal/sync.Mutex).lockSlow", "internal/sync.runtime_canSpin", "internal/sync.runtime_doSpin", "internal/sync.throw", "internal/sync.runtime_nanotime", "internal/sync.runtime_SemacquireMutex", "sync/atomic.AddInt32", "(*internal/sync.Mutex).Unlock", "internal/race.ReleaseMerge", "(*internal/sync.Mutex).unlockSlow", "internal/sync.fatal", "internal/sync.runtime_Semrelease", "sync/atomic.StoreUint32", "internal/bytealg.IndexByteString", "internal/bytealg.IndexString"], unfollowed := true, recurses := true, named := ["steelyard/unit.rows", "steelyard/unit.prefixes", "internal/bytealg.MaxLen"], apart := false, laid := [("steelyard/unit.rows", laid_steelyard_unit_rows), ("steelyard/unit.prefixes", laid_steelyard_unit_prefixes)], narrowed := true }
def UnitDefinesUptoSaid : Prop := unitDefinesUptoRow.holds Tryz.pinned (OpenSpec.upto unitDefinesSpec)

end Rows
end Go.Proofs.YtpchdjdochkjpaaGreatDoor
