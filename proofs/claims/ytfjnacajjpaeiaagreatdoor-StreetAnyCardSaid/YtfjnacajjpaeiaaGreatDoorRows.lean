/-
  NARROWER THAN 'FOR EVERY INPUT', by the rows' own cells (each row's printed sentence says how): StreetChecks: laid · StreetDrives: laid · StreetFinds: laid · StreetTables: laid · StreetTexts: laid · StreetKnown: laid · StreetShortest: laid · StreetProof: laid · StreetAny: laid · StreetClosed: laid · StreetBy: laid · StreetBack: laid · StreetParts: laid · StreetRound: laid.
  DERIVED. THE GIVEN ROWS OF THIS SEAT. 14 by the template 'for every input the law returns true; each argument reads behind the call as it read before'; 0 by the template 'total and deterministic' (their statements: YtfjnacajjpaeiaaGreatDoorTotals.lean).
  GIVEN WITH THE SEED: the statements are not yours to turn. If you find one false, say at which input.
  Laid BY PROGRAM, IN A SANDBOX (cutbox-rows.mjs): the forced cells as the released guide's own fill.sh prints them over the translation f3cfa89da054abcc… (all of the seat's roots in one cut). By AI agents, Wed Nov 11 2026. No macro, syntax, notation, axiom, sorry.
-/
import Derived.Test.YtfjnacajjpaeiaaGreatDoorChecked
import GoSem.Claim
import GoSem.ClaimJoined
import GoSem.ClaimMapViews
import Derived.JoinedTies
import Derived.KernelRfl
namespace Go.Proofs.YtfjnacajjpaeiaaGreatDoor
/- THE CELL 'sum', in the pinned program and in every row, IS THE sha256 OF THE DUMP (.gsa) THAT YtfjnacajjpaeiaaGreatDoorProg.lean LOADS. Nothing in Lean hashes anything: it is a label: what it is worth is what the hold of that sum in a sandbox is worth. -/
noncomputable def Tryz.pinned : Pinned := { name := "ytfjnacajjpaeiaagreatdoor", sum := "f3cfa89da054abcc5f5e5118413622f6f90c4e9fa75e3147d426ce05f680a05c", checked := Tryz.checked }
namespace Rows
def none {H : Type} : Left H := { results := [], args := [] }

/- WHAT THE LISTED PACKAGE-LEVEL VARIABLES READ AS WHEN THE CALL BEGINS. Each datum BY PROGRAM (the guide's laid-datum.mjs) off the statement by which the dump's own 'gosem.cut.vars' lays the variable. In a bare row this is a premise. The card (YtfjnacajjpaeiaaGreatDoorCards.lean) ties it to the program's text. -/
def laid_math_bits_deBruijn32tab {H : Type} : DataW H := .agg [.lit (.int .u8 0), .lit (.int .u8 1), .lit (.int .u8 28), .lit (.int .u8 2), .lit (.int .u8 29), .lit (.int .u8 14), .lit (.int .u8 24), .lit (.int .u8 3), .lit (.int .u8 30), .lit (.int .u8 22), .lit (.int .u8 20), .lit (.int .u8 15), .lit (.int .u8 25), .lit (.int .u8 17), .lit (.int .u8 4), .lit (.int .u8 8), .lit (.int .u8 31), .lit (.int .u8 27), .lit (.int .u8 13), .lit (.int .u8 23), .lit (.int .u8 21), .lit (.int .u8 19), .lit (.int .u8 16), .lit (.int .u8 7), .lit (.int .u8 26), .lit (.int .u8 12), .lit (.int .u8 18), .lit (.int .u8 6), .lit (.int .u8 11), .lit (.int .u8 5), .lit (.int .u8 10), .lit (.int .u8 9)]
def laid_math_bits_deBruijn64tab {H : Type} : DataW H := .agg [.lit (.int .u8 0), .lit (.int .u8 1), .lit (.int .u8 56), .lit (.int .u8 2), .lit (.int .u8 57), .lit (.int .u8 49), .lit (.int .u8 28), .lit (.int .u8 3), .lit (.int .u8 61), .lit (.int .u8 58), .lit (.int .u8 42), .lit (.int .u8 50), .lit (.int .u8 38), .lit (.int .u8 29), .lit (.int .u8 17), .lit (.int .u8 4), .lit (.int .u8 62), .lit (.int .u8 47), .lit (.int .u8 59), .lit (.int .u8 36), .lit (.int .u8 45), .lit (.int .u8 43), .lit (.int .u8 51), .lit (.int .u8 22), .lit (.int .u8 53), .lit (.int .u8 39), .lit (.int .u8 33), .lit (.int .u8 30), .lit (.int .u8 24), .lit (.int .u8 18), .lit (.int .u8 12), .lit (.int .u8 5), .lit (.int .u8 63), .lit (.int .u8 55), .lit (.int .u8 48), .lit (.int .u8 27), .lit (.int .u8 60), .lit (.int .u8 41), .lit (.int .u8 37), .lit (.int .u8 16), .lit (.int .u8 46), .lit (.int .u8 35), .lit (.int .u8 44), .lit (.int .u8 21), .lit (.int .u8 52), .lit (.int .u8 32), .lit (.int .u8 23), .lit (.int .u8 11), .lit (.int .u8 54), .lit (.int .u8 26), .lit (.int .u8 40), .lit (.int .u8 15), .lit (.int .u8 34), .lit (.int .u8 20), .lit (.int .u8 31), .lit (.int .u8 10), .lit (.int .u8 25), .lit (.int .u8 14), .lit (.int .u8 19), .lit (.int .u8 9), .lit (.int .u8 13), .lit (.int .u8 8), .lit (.int .u8 7), .lit (.int .u8 6)]
def laid_internal_strconv_uint64pow10 {H : Type} : DataW H := .agg [.lit (.int .u64 1), .lit (.int .u64 10), .lit (.int .u64 100), .lit (.int .u64 1000), .lit (.int .u64 10000), .lit (.int .u64 100000), .lit (.int .u64 1000000), .lit (.int .u64 10000000), .lit (.int .u64 100000000), .lit (.int .u64 1000000000), .lit (.int .u64 10000000000), .lit (.int .u64 100000000000), .lit (.int .u64 1000000000000), .lit (.int .u64 10000000000000), .lit (.int .u64 100000000000000), .lit (.int .u64 1000000000000000), .lit (.int .u64 10000000000000000), .lit (.int .u64 100000000000000000), .lit (.int .u64 1000000000000000000), .lit (.int .u64 10000000000000000000)]
def laid_strconv_ErrRange {H : Type} : DataW H := .iface "*errors.errorString" (.ptr (.agg [.lit (.string [118, 97, 108, 117, 101, 32, 111, 117, 116, 32, 111, 102, 32, 114, 97, 110, 103, 101])]))
def laid_strconv_ErrSyntax {H : Type} : DataW H := .iface "*errors.errorString" (.ptr (.agg [.lit (.string [105, 110, 118, 97, 108, 105, 100, 32, 115, 121, 110, 116, 97, 120])]))

/-- 'bitepointlaw03.StreetChecks': WHATEVER THE INPUT: true; the input reads as it did. -/
def streetChecksSpec : ChangeSpec := { name := "streetChecks", fn := fun _ => fun
  | [d] => { results := [.lit (.bool true)], args := [d] }
  | _ => none }
def streetChecksRow : OpenClaim := { program := "ytfjnacajjpaeiaagreatdoor", sum := "f3cfa89da054abcc5f5e5118413622f6f90c4e9fa75e3147d426ce05f680a05c", func := "bitepoint/bitepointlaw03.StreetChecks", spec := "streetChecks", inPlace := ["internal/abi.NoEscape", "internal/bytealg.IndexByteString", "internal/bytealg.IndexString"], unfollowed := true, recurses := true, named := ["internal/strconv.uint64pow10", "math/bits.deBruijn32tab", "math/bits.deBruijn64tab", "internal/bytealg.MaxLen", "strconv.ErrSyntax", "strconv.ErrRange"], plainKeys := false, apart := false, laid := [("math/bits.deBruijn32tab", laid_math_bits_deBruijn32tab), ("math/bits.deBruijn64tab", laid_math_bits_deBruijn64tab), ("internal/strconv.uint64pow10", laid_internal_strconv_uint64pow10), ("strconv.ErrRange", laid_strconv_ErrRange), ("strconv.ErrSyntax", laid_strconv_ErrSyntax)] }
def StreetChecksSaid : Prop := streetChecksRow.holds Tryz.pinned (OpenSpec.ofChange streetChecksSpec)

/-- ITS FALSE NEIGHBOUR: 'it returns false'. Refute it at one input. -/
def streetChecksWrong : ChangeSpec := { name := "streetChecks", fn := fun _ => fun
  | [d] => { results := [.lit (.bool false)], args := [d] }
  | _ => none }
def StreetChecksWrongFalsely : Prop := streetChecksRow.holds Tryz.pinned (OpenSpec.ofChange streetChecksWrong)

/-- 'bitepointlaw03.StreetDrives': WHATEVER THE INPUT: true; the input reads as it did. -/
def streetDrivesSpec : ChangeSpec := { name := "streetDrives", fn := fun _ => fun
  | [d1, d2, d3] => { results := [.lit (.bool true)], args := [d1, d2, d3] }
  | _ => none }
def streetDrivesRow : OpenClaim := { program := "ytfjnacajjpaeiaagreatdoor", sum := "f3cfa89da054abcc5f5e5118413622f6f90c4e9fa75e3147d426ce05f680a05c", func := "bitepoint/bitepointlaw03.StreetDrives", spec := "streetDrives", inPlace := ["internal/abi.NoEscape", "internal/bytealg.IndexByteString", "internal/bytealg.IndexString"], unfollowed := true, recurses := true, named := ["internal/strconv.uint64pow10", "math/bits.deBruijn32tab", "math/bits.deBruijn64tab", "internal/bytealg.MaxLen", "strconv.ErrSyntax", "strconv.ErrRange"], plainKeys := false, apart := false, laid := [("math/bits.deBruijn32tab", laid_math_bits_deBruijn32tab), ("math/bits.deBruijn64tab", laid_math_bits_deBruijn64tab), ("internal/strconv.uint64pow10", laid_internal_strconv_uint64pow10), ("strconv.ErrRange", laid_strconv_ErrRange), ("strconv.ErrSyntax", laid_strconv_ErrSyntax)] }
def StreetDrivesSaid : Prop := streetDrivesRow.holds Tryz.pinned (OpenSpec.ofChange streetDrivesSpec)

/-- ITS FALSE NEIGHBOUR: 'it returns false'. Refute it at one input. -/
def streetDrivesWrong : ChangeSpec := { name := "streetDrives", fn := fun _ => fun
  | [d1, d2, d3] => { results := [.lit (.bool false)], args := [d1, d2, d3] }
  | _ => none }
def StreetDrivesWrongFalsely : Prop := streetDrivesRow.holds Tryz.pinned (OpenSpec.ofChange streetDrivesWrong)

/-- 'bitepointlaw03.StreetFinds': WHATEVER THE INPUT: true; the input reads as it did. -/
def streetFindsSpec : ChangeSpec := { name := "streetFinds", fn := fun _ => fun
  | [d1, d2] => { results := [.lit (.bool true)], args := [d1, d2] }
  | _ => none }
def streetFindsRow : OpenClaim := { program := "ytfjnacajjpaeiaagreatdoor", sum := "f3cfa89da054abcc5f5e5118413622f6f90c4e9fa75e3147d426ce05f680a05c", func := "bitepoint/bitepointlaw03.StreetFinds", spec := "streetFinds", inPlace := ["internal/abi.NoEscape", "internal/bytealg.IndexByteString", "internal/bytealg.IndexString"], unfollowed := true, recurses := true, named := ["internal/strconv.uint64pow10", "math/bits.deBruijn32tab", "math/bits.deBruijn64tab", "internal/bytealg.MaxLen", "strconv.ErrSyntax", "strconv.ErrRange"], plainKeys := false, apart := false, laid := [("math/bits.deBruijn32tab", laid_math_bits_deBruijn32tab), ("math/bits.deBruijn64tab", laid_math_bits_deBruijn64tab), ("internal/strconv.uint64pow10", laid_internal_strconv_uint64pow10), ("strconv.ErrRange", laid_strconv_ErrRange), ("strconv.ErrSyntax", laid_strconv_ErrSyntax)] }
def StreetFindsSaid : Prop := streetFindsRow.holds Tryz.pinned (OpenSpec.ofChange streetFindsSpec)

/-- ITS FALSE NEIGHBOUR: 'it returns false'. Refute it at one input. -/
def streetFindsWrong : ChangeSpec := { name := "streetFinds", fn := fun _ => fun
  | [d1, d2] => { results := [.lit (.bool false)], args := [d1, d2] }
  | _ => none }
def StreetFindsWrongFalsely : Prop := streetFindsRow.holds Tryz.pinned (OpenSpec.ofChange streetFindsWrong)

/-- 'bitepointlaw03.StreetTables': WHATEVER THE INPUT: true; the input reads as it did. -/
def streetTablesSpec : ChangeSpec := { name := "streetTables", fn := fun _ => fun
  | [d1, d2, d3] => { results := [.lit (.bool true)], args := [d1, d2, d3] }
  | _ => none }
def streetTablesRow : OpenClaim := { program := "ytfjnacajjpaeiaagreatdoor", sum := "f3cfa89da054abcc5f5e5118413622f6f90c4e9fa75e3147d426ce05f680a05c", func := "bitepoint/bitepointlaw03.StreetTables", spec := "streetTables", inPlace := ["internal/abi.NoEscape", "internal/bytealg.IndexByteString", "internal/bytealg.IndexString"], unfollowed := true, recurses := true, named := ["internal/strconv.uint64pow10", "math/bits.deBruijn32tab", "math/bits.deBruijn64tab", "internal/bytealg.MaxLen", "strconv.ErrSyntax", "strconv.ErrRange"], plainKeys := false, apart := false, laid := [("math/bits.deBruijn32tab", laid_math_bits_deBruijn32tab), ("math/bits.deBruijn64tab", laid_math_bits_deBruijn64tab), ("internal/strconv.uint64pow10", laid_internal_strconv_uint64pow10), ("strconv.ErrRange", laid_strconv_ErrRange), ("strconv.ErrSyntax", laid_strconv_ErrSyntax)] }
def StreetTablesSaid : Prop := streetTablesRow.holds Tryz.pinned (OpenSpec.ofChange streetTablesSpec)

/-- ITS FALSE NEIGHBOUR: 'it returns false'. Refute it at one input. -/
def streetTablesWrong : ChangeSpec := { name := "streetTables", fn := fun _ => fun
  | [d1, d2, d3] => { results := [.lit (.bool false)], args := [d1, d2, d3] }
  | _ => none }
def StreetTablesWrongFalsely : Prop := streetTablesRow.holds Tryz.pinned (OpenSpec.ofChange streetTablesWrong)

/-- 'bitepointlaw03.StreetTexts': WHATEVER THE INPUT: true; the input reads as it did. -/
def streetTextsSpec : ChangeSpec := { name := "streetTexts", fn := fun _ => fun
  | [d1, d2, d3] => { results := [.lit (.bool true)], args := [d1, d2, d3] }
  | _ => none }
def streetTextsRow : OpenClaim := { program := "ytfjnacajjpaeiaagreatdoor", sum := "f3cfa89da054abcc5f5e5118413622f6f90c4e9fa75e3147d426ce05f680a05c", func := "bitepoint/bitepointlaw03.StreetTexts", spec := "streetTexts", inPlace := ["internal/abi.NoEscape", "internal/bytealg.IndexByteString", "internal/bytealg.IndexString"], unfollowed := true, recurses := true, named := ["internal/strconv.uint64pow10", "math/bits.deBruijn32tab", "math/bits.deBruijn64tab", "internal/bytealg.MaxLen", "strconv.ErrSyntax", "strconv.ErrRange"], plainKeys := false, apart := false, laid := [("math/bits.deBruijn32tab", laid_math_bits_deBruijn32tab), ("math/bits.deBruijn64tab", laid_math_bits_deBruijn64tab), ("internal/strconv.uint64pow10", laid_internal_strconv_uint64pow10), ("strconv.ErrRange", laid_strconv_ErrRange), ("strconv.ErrSyntax", laid_strconv_ErrSyntax)] }
def StreetTextsSaid : Prop := streetTextsRow.holds Tryz.pinned (OpenSpec.ofChange streetTextsSpec)

/-- ITS FALSE NEIGHBOUR: 'it returns false'. Refute it at one input. -/
def streetTextsWrong : ChangeSpec := { name := "streetTexts", fn := fun _ => fun
  | [d1, d2, d3] => { results := [.lit (.bool false)], args := [d1, d2, d3] }
  | _ => none }
def StreetTextsWrongFalsely : Prop := streetTextsRow.holds Tryz.pinned (OpenSpec.ofChange streetTextsWrong)

/-- 'bitepointlaw03.StreetKnown': WHATEVER THE INPUT: true; the input reads as it did. -/
def streetKnownSpec : ChangeSpec := { name := "streetKnown", fn := fun _ => fun
  | [] => { results := [.lit (.bool true)], args := [] }
  | _ => none }
def streetKnownRow : OpenClaim := { program := "ytfjnacajjpaeiaagreatdoor", sum := "f3cfa89da054abcc5f5e5118413622f6f90c4e9fa75e3147d426ce05f680a05c", func := "bitepoint/bitepointlaw03.StreetKnown", spec := "streetKnown", inPlace := ["internal/abi.NoEscape", "internal/bytealg.IndexByteString", "internal/bytealg.IndexString"], unfollowed := true, recurses := true, named := ["internal/strconv.uint64pow10", "math/bits.deBruijn32tab", "math/bits.deBruijn64tab", "internal/bytealg.MaxLen", "strconv.ErrSyntax", "strconv.ErrRange"], plainKeys := false, apart := false, laid := [("math/bits.deBruijn32tab", laid_math_bits_deBruijn32tab), ("math/bits.deBruijn64tab", laid_math_bits_deBruijn64tab), ("internal/strconv.uint64pow10", laid_internal_strconv_uint64pow10), ("strconv.ErrRange", laid_strconv_ErrRange), ("strconv.ErrSyntax", laid_strconv_ErrSyntax)] }
def StreetKnownSaid : Prop := streetKnownRow.holds Tryz.pinned (OpenSpec.ofChange streetKnownSpec)

/-- ITS FALSE NEIGHBOUR: 'it returns false'. Refute it at one input. -/
def streetKnownWrong : ChangeSpec := { name := "streetKnown", fn := fun _ => fun
  | [] => { results := [.lit (.bool false)], args := [] }
  | _ => none }
def StreetKnownWrongFalsely : Prop := streetKnownRow.holds Tryz.pinned (OpenSpec.ofChange streetKnownWrong)

/-- 'bitepointlaw03.StreetShortest': WHATEVER THE INPUT: true; the input reads as it did. -/
def streetShortestSpec : ChangeSpec := { name := "streetShortest", fn := fun _ => fun
  | [d1, d2, d3] => { results := [.lit (.bool true)], args := [d1, d2, d3] }
  | _ => none }
def streetShortestRow : OpenClaim := { program := "ytfjnacajjpaeiaagreatdoor", sum := "f3cfa89da054abcc5f5e5118413622f6f90c4e9fa75e3147d426ce05f680a05c", func := "bitepoint/bitepointlaw03.StreetShortest", spec := "streetShortest", inPlace := ["internal/abi.NoEscape", "internal/bytealg.IndexByteString", "internal/bytealg.IndexString"], unfollowed := true, recurses := true, named := ["internal/strconv.uint64pow10", "math/bits.deBruijn32tab", "math/bits.deBruijn64tab", "internal/bytealg.MaxLen", "strconv.ErrSyntax", "strconv.ErrRange"], plainKeys := false, apart := false, laid := [("math/bits.deBruijn32tab", laid_math_bits_deBruijn32tab), ("math/bits.deBruijn64tab", laid_math_bits_deBruijn64tab), ("internal/strconv.uint64pow10", laid_internal_strconv_uint64pow10), ("strconv.ErrRange", laid_strconv_ErrRange), ("strconv.ErrSyntax", laid_strconv_ErrSyntax)] }
def StreetShortestSaid : Prop := streetShortestRow.holds Tryz.pinned (OpenSpec.ofChange streetShortestSpec)

/-- ITS FALSE NEIGHBOUR: 'it returns false'. Refute it at one input. -/
def streetShortestWrong : ChangeSpec := { name := "streetShortest", fn := fun _ => fun
  | [d1, d2, d3] => { results := [.lit (.bool false)], args := [d1, d2, d3] }
  | _ => none }
def StreetShortestWrongFalsely : Prop := streetShortestRow.holds Tryz.pinned (OpenSpec.ofChange streetShortestWrong)

/-- 'bitepointlaw03.StreetProof': WHATEVER THE INPUT: true; the input reads as it did. -/
def streetProofSpec : ChangeSpec := { name := "streetProof", fn := fun _ => fun
  | [d1, d2] => { results := [.lit (.bool true)], args := [d1, d2] }
  | _ => none }
def streetProofRow : OpenClaim := { program := "ytfjnacajjpaeiaagreatdoor", sum := "f3cfa89da054abcc5f5e5118413622f6f90c4e9fa75e3147d426ce05f680a05c", func := "bitepoint/bitepointlaw03.StreetProof", spec := "streetProof", inPlace := ["internal/abi.NoEscape", "internal/bytealg.IndexByteString", "internal/bytealg.IndexString"], unfollowed := true, recurses := true, named := ["internal/strconv.uint64pow10", "math/bits.deBruijn32tab", "math/bits.deBruijn64tab", "internal/bytealg.MaxLen", "strconv.ErrSyntax", "strconv.ErrRange"], plainKeys := false, apart := false, laid := [("math/bits.deBruijn32tab", laid_math_bits_deBruijn32tab), ("math/bits.deBruijn64tab", laid_math_bits_deBruijn64tab), ("internal/strconv.uint64pow10", laid_internal_strconv_uint64pow10), ("strconv.ErrRange", laid_strconv_ErrRange), ("strconv.ErrSyntax", laid_strconv_ErrSyntax)] }
def StreetProofSaid : Prop := streetProofRow.holds Tryz.pinned (OpenSpec.ofChange streetProofSpec)

/-- ITS FALSE NEIGHBOUR: 'it returns false'. Refute it at one input. -/
def streetProofWrong : ChangeSpec := { name := "streetProof", fn := fun _ => fun
  | [d1, d2] => { results := [.lit (.bool false)], args := [d1, d2] }
  | _ => none }
def StreetProofWrongFalsely : Prop := streetProofRow.holds Tryz.pinned (OpenSpec.ofChange streetProofWrong)

/-- 'bitepointlaw03.StreetAny': WHATEVER THE INPUT: true; the input reads as it did. -/
def streetAnySpec : ChangeSpec := { name := "streetAny", fn := fun _ => fun
  | [d1, d2, d3] => { results := [.lit (.bool true)], args := [d1, d2, d3] }
  | _ => none }
def streetAnyRow : OpenClaim := { program := "ytfjnacajjpaeiaagreatdoor", sum := "f3cfa89da054abcc5f5e5118413622f6f90c4e9fa75e3147d426ce05f680a05c", func := "bitepoint/bitepointlaw03.StreetAny", spec := "streetAny", inPlace := ["internal/abi.NoEscape", "internal/bytealg.IndexByteString", "internal/bytealg.IndexString"], unfollowed := true, recurses := true, named := ["internal/strconv.uint64pow10", "math/bits.deBruijn32tab", "math/bits.deBruijn64tab", "internal/bytealg.MaxLen", "strconv.ErrSyntax", "strconv.ErrRange"], plainKeys := false, apart := false, laid := [("math/bits.deBruijn32tab", laid_math_bits_deBruijn32tab), ("math/bits.deBruijn64tab", laid_math_bits_deBruijn64tab), ("internal/strconv.uint64pow10", laid_internal_strconv_uint64pow10), ("strconv.ErrRange", laid_strconv_ErrRange), ("strconv.ErrSyntax", laid_strconv_ErrSyntax)] }
def StreetAnySaid : Prop := streetAnyRow.holds Tryz.pinned (OpenSpec.ofChange streetAnySpec)

/-- ITS FALSE NEIGHBOUR: 'it returns false'. Refute it at one input. -/
def streetAnyWrong : ChangeSpec := { name := "streetAny", fn := fun _ => fun
  | [d1, d2, d3] => { results := [.lit (.bool false)], args := [d1, d2, d3] }
  | _ => none }
def StreetAnyWrongFalsely : Prop := streetAnyRow.holds Tryz.pinned (OpenSpec.ofChange streetAnyWrong)

/-- 'bitepointlaw03.StreetClosed': WHATEVER THE INPUT: true; the input reads as it did. -/
def streetClosedSpec : ChangeSpec := { name := "streetClosed", fn := fun _ => fun
  | [d1, d2, d3] => { results := [.lit (.bool true)], args := [d1, d2, d3] }
  | _ => none }
def streetClosedRow : OpenClaim := { program := "ytfjnacajjpaeiaagreatdoor", sum := "f3cfa89da054abcc5f5e5118413622f6f90c4e9fa75e3147d426ce05f680a05c", func := "bitepoint/bitepointlaw03.StreetClosed", spec := "streetClosed", inPlace := ["internal/abi.NoEscape", "internal/bytealg.IndexByteString", "internal/bytealg.IndexString"], unfollowed := true, recurses := true, named := ["internal/strconv.uint64pow10", "math/bits.deBruijn32tab", "math/bits.deBruijn64tab", "internal/bytealg.MaxLen", "strconv.ErrSyntax", "strconv.ErrRange"], plainKeys := false, apart := false, laid := [("math/bits.deBruijn32tab", laid_math_bits_deBruijn32tab), ("math/bits.deBruijn64tab", laid_math_bits_deBruijn64tab), ("internal/strconv.uint64pow10", laid_internal_strconv_uint64pow10), ("strconv.ErrRange", laid_strconv_ErrRange), ("strconv.ErrSyntax", laid_strconv_ErrSyntax)] }
def StreetClosedSaid : Prop := streetClosedRow.holds Tryz.pinned (OpenSpec.ofChange streetClosedSpec)

/-- ITS FALSE NEIGHBOUR: 'it returns false'. Refute it at one input. -/
def streetClosedWrong : ChangeSpec := { name := "streetClosed", fn := fun _ => fun
  | [d1, d2, d3] => { results := [.lit (.bool false)], args := [d1, d2, d3] }
  | _ => none }
def StreetClosedWrongFalsely : Prop := streetClosedRow.holds Tryz.pinned (OpenSpec.ofChange streetClosedWrong)

/-- 'bitepointlaw03.StreetBy': WHATEVER THE INPUT: true; the input reads as it did. -/
def streetBySpec : ChangeSpec := { name := "streetBy", fn := fun _ => fun
  | [d1, d2, d3] => { results := [.lit (.bool true)], args := [d1, d2, d3] }
  | _ => none }
def streetByRow : OpenClaim := { program := "ytfjnacajjpaeiaagreatdoor", sum := "f3cfa89da054abcc5f5e5118413622f6f90c4e9fa75e3147d426ce05f680a05c", func := "bitepoint/bitepointlaw03.StreetBy", spec := "streetBy", inPlace := ["internal/abi.NoEscape", "internal/bytealg.IndexByteString", "internal/bytealg.IndexString"], unfollowed := true, recurses := true, named := ["internal/strconv.uint64pow10", "math/bits.deBruijn32tab", "math/bits.deBruijn64tab", "internal/bytealg.MaxLen", "strconv.ErrSyntax", "strconv.ErrRange"], plainKeys := false, apart := false, laid := [("math/bits.deBruijn32tab", laid_math_bits_deBruijn32tab), ("math/bits.deBruijn64tab", laid_math_bits_deBruijn64tab), ("internal/strconv.uint64pow10", laid_internal_strconv_uint64pow10), ("strconv.ErrRange", laid_strconv_ErrRange), ("strconv.ErrSyntax", laid_strconv_ErrSyntax)] }
def StreetBySaid : Prop := streetByRow.holds Tryz.pinned (OpenSpec.ofChange streetBySpec)

/-- ITS FALSE NEIGHBOUR: 'it returns false'. Refute it at one input. -/
def streetByWrong : ChangeSpec := { name := "streetBy", fn := fun _ => fun
  | [d1, d2, d3] => { results := [.lit (.bool false)], args := [d1, d2, d3] }
  | _ => none }
def StreetByWrongFalsely : Prop := streetByRow.holds Tryz.pinned (OpenSpec.ofChange streetByWrong)

/-- 'bitepointlaw03.StreetBack': WHATEVER THE INPUT: true; the input reads as it did. -/
def streetBackSpec : ChangeSpec := { name := "streetBack", fn := fun _ => fun
  | [d1, d2] => { results := [.lit (.bool true)], args := [d1, d2] }
  | _ => none }
def streetBackRow : OpenClaim := { program := "ytfjnacajjpaeiaagreatdoor", sum := "f3cfa89da054abcc5f5e5118413622f6f90c4e9fa75e3147d426ce05f680a05c", func := "bitepoint/bitepointlaw03.StreetBack", spec := "streetBack", inPlace := ["internal/abi.NoEscape", "internal/bytealg.IndexByteString", "internal/bytealg.IndexString"], unfollowed := true, recurses := true, named := ["internal/strconv.uint64pow10", "math/bits.deBruijn32tab", "math/bits.deBruijn64tab", "internal/bytealg.MaxLen", "strconv.ErrSyntax", "strconv.ErrRange"], plainKeys := false, apart := false, laid := [("math/bits.deBruijn32tab", laid_math_bits_deBruijn32tab), ("math/bits.deBruijn64tab", laid_math_bits_deBruijn64tab), ("internal/strconv.uint64pow10", laid_internal_strconv_uint64pow10), ("strconv.ErrRange", laid_strconv_ErrRange), ("strconv.ErrSyntax", laid_strconv_ErrSyntax)] }
def StreetBackSaid : Prop := streetBackRow.holds Tryz.pinned (OpenSpec.ofChange streetBackSpec)

/-- ITS FALSE NEIGHBOUR: 'it returns false'. Refute it at one input. -/
def streetBackWrong : ChangeSpec := { name := "streetBack", fn := fun _ => fun
  | [d1, d2] => { results := [.lit (.bool false)], args := [d1, d2] }
  | _ => none }
def StreetBackWrongFalsely : Prop := streetBackRow.holds Tryz.pinned (OpenSpec.ofChange streetBackWrong)

/-- 'bitepointlaw03.StreetParts': WHATEVER THE INPUT: true; the input reads as it did. -/
def streetPartsSpec : ChangeSpec := { name := "streetParts", fn := fun _ => fun
  | [d1, d2, d3] => { results := [.lit (.bool true)], args := [d1, d2, d3] }
  | _ => none }
def streetPartsRow : OpenClaim := { program := "ytfjnacajjpaeiaagreatdoor", sum := "f3cfa89da054abcc5f5e5118413622f6f90c4e9fa75e3147d426ce05f680a05c", func := "bitepoint/bitepointlaw03.StreetParts", spec := "streetParts", inPlace := ["internal/abi.NoEscape", "internal/bytealg.IndexByteString", "internal/bytealg.IndexString"], unfollowed := true, recurses := true, named := ["internal/strconv.uint64pow10", "math/bits.deBruijn32tab", "math/bits.deBruijn64tab", "internal/bytealg.MaxLen", "strconv.ErrSyntax", "strconv.ErrRange"], plainKeys := false, apart := false, laid := [("math/bits.deBruijn32tab", laid_math_bits_deBruijn32tab), ("math/bits.deBruijn64tab", laid_math_bits_deBruijn64tab), ("internal/strconv.uint64pow10", laid_internal_strconv_uint64pow10), ("strconv.ErrRange", laid_strconv_ErrRange), ("strconv.ErrSyntax", laid_strconv_ErrSyntax)] }
def StreetPartsSaid : Prop := streetPartsRow.holds Tryz.pinned (OpenSpec.ofChange streetPartsSpec)

/-- ITS FALSE NEIGHBOUR: 'it returns false'. Refute it at one input. -/
def streetPartsWrong : ChangeSpec := { name := "streetParts", fn := fun _ => fun
  | [d1, d2, d3] => { results := [.lit (.bool false)], args := [d1, d2, d3] }
  | _ => none }
def StreetPartsWrongFalsely : Prop := streetPartsRow.holds Tryz.pinned (OpenSpec.ofChange streetPartsWrong)

/-- 'bitepointlaw03.StreetRound': WHATEVER THE INPUT: true; the input reads as it did. -/
def streetRoundSpec : ChangeSpec := { name := "streetRound", fn := fun _ => fun
  | [d1, d2, d3] => { results := [.lit (.bool true)], args := [d1, d2, d3] }
  | _ => none }
def streetRoundRow : OpenClaim := { program := "ytfjnacajjpaeiaagreatdoor", sum := "f3cfa89da054abcc5f5e5118413622f6f90c4e9fa75e3147d426ce05f680a05c", func := "bitepoint/bitepointlaw03.StreetRound", spec := "streetRound", inPlace := ["internal/abi.NoEscape", "internal/bytealg.IndexByteString", "internal/bytealg.IndexString"], unfollowed := true, recurses := true, named := ["internal/strconv.uint64pow10", "math/bits.deBruijn32tab", "math/bits.deBruijn64tab", "internal/bytealg.MaxLen", "strconv.ErrSyntax", "strconv.ErrRange"], plainKeys := false, apart := false, laid := [("math/bits.deBruijn32tab", laid_math_bits_deBruijn32tab), ("math/bits.deBruijn64tab", laid_math_bits_deBruijn64tab), ("internal/strconv.uint64pow10", laid_internal_strconv_uint64pow10), ("strconv.ErrRange", laid_strconv_ErrRange), ("strconv.ErrSyntax", laid_strconv_ErrSyntax)] }
def StreetRoundSaid : Prop := streetRoundRow.holds Tryz.pinned (OpenSpec.ofChange streetRoundSpec)

/-- ITS FALSE NEIGHBOUR: 'it returns false'. Refute it at one input. -/
def streetRoundWrong : ChangeSpec := { name := "streetRound", fn := fun _ => fun
  | [d1, d2, d3] => { results := [.lit (.bool false)], args := [d1, d2, d3] }
  | _ => none }
def StreetRoundWrongFalsely : Prop := streetRoundRow.holds Tryz.pinned (OpenSpec.ofChange streetRoundWrong)

/- THE SECOND FORM. 'bulk': how many values and letters a reading holds, each counted each time it is reached (what is shared counts as often as it is met; a slice's spare places count too). A statement '..UptoSaid' is the law's where the arguments, and the package variables that the reading takes, are together of bulk at most 1048576: NARROWER than '..Said'. Prove '..Said' where nothing that the law and all that it calls make is longer than what came in: it says more and counts as full. Else prove '..UptoSaid'. A law counts once. -/
mutual
def uptoBulk {H : Type} : DataW H → Nat
  | .lit (.string bytes) => bytes.length + 1
  | .lit _ => 1
  | .nil => 1
  | .ptr d => uptoBulk d + 1
  | .slice elems spare => uptoBulkAll elems + uptoBulkAll spare + 1
  | .agg parts => uptoBulkAll parts + 1
  | .iface _ d => uptoBulk d + 1
  | .map entries => uptoBulkEntries entries + 1
  | .held _ => 1
def uptoBulkAll {H : Type} : List (DataW H) → Nat
  | [] => 0
  | d :: r => uptoBulk d + uptoBulkAll r
def uptoBulkEntries {H : Type} : List (Lit × DataW H) → Nat
  | [] => 0
  | x :: r => uptoBulkEntry x + uptoBulkEntries r
def uptoBulkEntry {H : Type} : Lit × DataW H → Nat
  | (.string bytes, d) => bytes.length + uptoBulk d + 1
  | (_, d) => uptoBulk d + 1
 end
def uptoSmall : (H : Type) → List (DataW H) → Bool := fun _ ds => decide (uptoBulkAll ds ≤ 1048576)
def OpenSpec.upto (s : _root_.Go.ChangeSpec) : _root_.Go.OpenSpec := { _root_.Go.OpenSpec.ofChange s with cond := some uptoSmall }

/-- 'bitepointlaw03.StreetChecks', WHERE WHAT IT READS IS OF BULK AT MOST 1048576: true; the input reads as it did. -/
def streetChecksUptoRow : OpenClaim := { program := "ytfjnacajjpaeiaagreatdoor", sum := "f3cfa89da054abcc5f5e5118413622f6f90c4e9fa75e3147d426ce05f680a05c", func := "bitepoint/bitepointlaw03.StreetChecks", spec := "streetChecks", inPlace := ["internal/abi.NoEscape", "internal/bytealg.IndexByteString", "internal/bytealg.IndexString"], unfollowed := true, recurses := true, named := ["internal/strconv.uint64pow10", "math/bits.deBruijn32tab", "math/bits.deBruijn64tab", "internal/bytealg.MaxLen", "strconv.ErrSyntax", "strconv.ErrRange"], plainKeys := false, apart := false, laid := [("math/bits.deBruijn32tab", laid_math_bits_deBruijn32tab), ("math/bits.deBruijn64tab", laid_math_bits_deBruijn64tab), ("internal/strconv.uint64pow10", laid_internal_strconv_uint64pow10), ("strconv.ErrRange", laid_strconv_ErrRange), ("strconv.ErrSyntax", laid_strconv_ErrSyntax)], narrowed := true }
def StreetChecksUptoSaid : Prop := streetChecksUptoRow.holds Tryz.pinned (OpenSpec.upto streetChecksSpec)

/-- 'bitepointlaw03.StreetDrives', WHERE WHAT IT READS IS OF BULK AT MOST 1048576: true; the input reads as it did. -/
def streetDrivesUptoRow : OpenClaim := { program := "ytfjnacajjpaeiaagreatdoor", sum := "f3cfa89da054abcc5f5e5118413622f6f90c4e9fa75e3147d426ce05f680a05c", func := "bitepoint/bitepointlaw03.StreetDrives", spec := "streetDrives", inPlace := ["internal/abi.NoEscape", "internal/bytealg.IndexByteString", "internal/bytealg.IndexString"], unfollowed := true, recurses := true, named := ["internal/strconv.uint64pow10", "math/bits.deBruijn32tab", "math/bits.deBruijn64tab", "internal/bytealg.MaxLen", "strconv.ErrSyntax", "strconv.ErrRange"], plainKeys := false, apart := false, laid := [("math/bits.deBruijn32tab", laid_math_bits_deBruijn32tab), ("math/bits.deBruijn64tab", laid_math_bits_deBruijn64tab), ("internal/strconv.uint64pow10", laid_internal_strconv_uint64pow10), ("strconv.ErrRange", laid_strconv_ErrRange), ("strconv.ErrSyntax", laid_strconv_ErrSyntax)], narrowed := true }
def StreetDrivesUptoSaid : Prop := streetDrivesUptoRow.holds Tryz.pinned (OpenSpec.upto streetDrivesSpec)

/-- 'bitepointlaw03.StreetFinds', WHERE WHAT IT READS IS OF BULK AT MOST 1048576: true; the input reads as it did. -/
def streetFindsUptoRow : OpenClaim := { program := "ytfjnacajjpaeiaagreatdoor", sum := "f3cfa89da054abcc5f5e5118413622f6f90c4e9fa75e3147d426ce05f680a05c", func := "bitepoint/bitepointlaw03.StreetFinds", spec := "streetFinds", inPlace := ["internal/abi.NoEscape", "internal/bytealg.IndexByteString", "internal/bytealg.IndexString"], unfollowed := true, recurses := true, named := ["internal/strconv.uint64pow10", "math/bits.deBruijn32tab", "math/bits.deBruijn64tab", "internal/bytealg.MaxLen", "strconv.ErrSyntax", "strconv.ErrRange"], plainKeys := false, apart := false, laid := [("math/bits.deBruijn32tab", laid_math_bits_deBruijn32tab), ("math/bits.deBruijn64tab", laid_math_bits_deBruijn64tab), ("internal/strconv.uint64pow10", laid_internal_strconv_uint64pow10), ("strconv.ErrRange", laid_strconv_ErrRange), ("strconv.ErrSyntax", laid_strconv_ErrSyntax)], narrowed := true }
def StreetFindsUptoSaid : Prop := streetFindsUptoRow.holds Tryz.pinned (OpenSpec.upto streetFindsSpec)

/-- 'bitepointlaw03.StreetTables', WHERE WHAT IT READS IS OF BULK AT MOST 1048576: true; the input reads as it did. -/
def streetTablesUptoRow : OpenClaim := { program := "ytfjnacajjpaeiaagreatdoor", sum := "f3cfa89da054abcc5f5e5118413622f6f90c4e9fa75e3147d426ce05f680a05c", func := "bitepoint/bitepointlaw03.StreetTables", spec := "streetTables", inPlace := ["internal/abi.NoEscape", "internal/bytealg.IndexByteString", "internal/bytealg.IndexString"], unfollowed := true, recurses := true, named := ["internal/strconv.uint64pow10", "math/bits.deBruijn32tab", "math/bits.deBruijn64tab", "internal/bytealg.MaxLen", "strconv.ErrSyntax", "strconv.ErrRange"], plainKeys := false, apart := false, laid := [("math/bits.deBruijn32tab", laid_math_bits_deBruijn32tab), ("math/bits.deBruijn64tab", laid_math_bits_deBruijn64tab), ("internal/strconv.uint64pow10", laid_internal_strconv_uint64pow10), ("strconv.ErrRange", laid_strconv_ErrRange), ("strconv.ErrSyntax", laid_strconv_ErrSyntax)], narrowed := true }
def StreetTablesUptoSaid : Prop := streetTablesUptoRow.holds Tryz.pinned (OpenSpec.upto streetTablesSpec)

/-- 'bitepointlaw03.StreetTexts', WHERE WHAT IT READS IS OF BULK AT MOST 1048576: true; the input reads as it did. -/
def streetTextsUptoRow : OpenClaim := { program := "ytfjnacajjpaeiaagreatdoor", sum := "f3cfa89da054abcc5f5e5118413622f6f90c4e9fa75e3147d426ce05f680a05c", func := "bitepoint/bitepointlaw03.StreetTexts", spec := "streetTexts", inPlace := ["internal/abi.NoEscape", "internal/bytealg.IndexByteString", "internal/bytealg.IndexString"], unfollowed := true, recurses := true, named := ["internal/strconv.uint64pow10", "math/bits.deBruijn32tab", "math/bits.deBruijn64tab", "internal/bytealg.MaxLen", "strconv.ErrSyntax", "strconv.ErrRange"], plainKeys := false, apart := false, laid := [("math/bits.deBruijn32tab", laid_math_bits_deBruijn32tab), ("math/bits.deBruijn64tab", laid_math_bits_deBruijn64tab), ("internal/strconv.uint64pow10", laid_internal_strconv_uint64pow10), ("strconv.ErrRange", laid_strconv_ErrRange), ("strconv.ErrSyntax", laid_strconv_ErrSyntax)], narrowed := true }
def StreetTextsUptoSaid : Prop := streetTextsUptoRow.holds Tryz.pinned (OpenSpec.upto streetTextsSpec)

/-- 'bitepointlaw03.StreetKnown', WHERE WHAT IT READS IS OF BULK AT MOST 1048576: true; the input reads as it did. -/
def streetKnownUptoRow : OpenClaim := { program := "ytfjnacajjpaeiaagreatdoor", sum := "f3cfa89da054abcc5f5e5118413622f6f90c4e9fa75e3147d426ce05f680a05c", func := "bitepoint/bitepointlaw03.StreetKnown", spec := "streetKnown", inPlace := ["internal/abi.NoEscape", "internal/bytealg.IndexByteString", "internal/bytealg.IndexString"], unfollowed := true, recurses := true, named := ["internal/strconv.uint64pow10", "math/bits.deBruijn32tab", "math/bits.deBruijn64tab", "internal/bytealg.MaxLen", "strconv.ErrSyntax", "strconv.ErrRange"], plainKeys := false, apart := false, laid := [("math/bits.deBruijn32tab", laid_math_bits_deBruijn32tab), ("math/bits.deBruijn64tab", laid_math_bits_deBruijn64tab), ("internal/strconv.uint64pow10", laid_internal_strconv_uint64pow10), ("strconv.ErrRange", laid_strconv_ErrRange), ("strconv.ErrSyntax", laid_strconv_ErrSyntax)], narrowed := true }
def StreetKnownUptoSaid : Prop := streetKnownUptoRow.holds Tryz.pinned (OpenSpec.upto streetKnownSpec)

/-- 'bitepointlaw03.StreetShortest', WHERE WHAT IT READS IS OF BULK AT MOST 1048576: true; the input reads as it did. -/
def streetShortestUptoRow : OpenClaim := { program := "ytfjnacajjpaeiaagreatdoor", sum := "f3cfa89da054abcc5f5e5118413622f6f90c4e9fa75e3147d426ce05f680a05c", func := "bitepoint/bitepointlaw03.StreetShortest", spec := "streetShortest", inPlace := ["internal/abi.NoEscape", "internal/bytealg.IndexByteString", "internal/bytealg.IndexString"], unfollowed := true, recurses := true, named := ["internal/strconv.uint64pow10", "math/bits.deBruijn32tab", "math/bits.deBruijn64tab", "internal/bytealg.MaxLen", "strconv.ErrSyntax", "strconv.ErrRange"], plainKeys := false, apart := false, laid := [("math/bits.deBruijn32tab", laid_math_bits_deBruijn32tab), ("math/bits.deBruijn64tab", laid_math_bits_deBruijn64tab), ("internal/strconv.uint64pow10", laid_internal_strconv_uint64pow10), ("strconv.ErrRange", laid_strconv_ErrRange), ("strconv.ErrSyntax", laid_strconv_ErrSyntax)], narrowed := true }
def StreetShortestUptoSaid : Prop := streetShortestUptoRow.holds Tryz.pinned (OpenSpec.upto streetShortestSpec)

/-- 'bitepointlaw03.StreetProof', WHERE WHAT IT READS IS OF BULK AT MOST 1048576: true; the input reads as it did. -/
def streetProofUptoRow : OpenClaim := { program := "ytfjnacajjpaeiaagreatdoor", sum := "f3cfa89da054abcc5f5e5118413622f6f90c4e9fa75e3147d426ce05f680a05c", func := "bitepoint/bitepointlaw03.StreetProof", spec := "streetProof", inPlace := ["internal/abi.NoEscape", "internal/bytealg.IndexByteString", "internal/bytealg.IndexString"], unfollowed := true, recurses := true, named := ["internal/strconv.uint64pow10", "math/bits.deBruijn32tab", "math/bits.deBruijn64tab", "internal/bytealg.MaxLen", "strconv.ErrSyntax", "strconv.ErrRange"], plainKeys := false, apart := false, laid := [("math/bits.deBruijn32tab", laid_math_bits_deBruijn32tab), ("math/bits.deBruijn64tab", laid_math_bits_deBruijn64tab), ("internal/strconv.uint64pow10", laid_internal_strconv_uint64pow10), ("strconv.ErrRange", laid_strconv_ErrRange), ("strconv.ErrSyntax", laid_strconv_ErrSyntax)], narrowed := true }
def StreetProofUptoSaid : Prop := streetProofUptoRow.holds Tryz.pinned (OpenSpec.upto streetProofSpec)

/-- 'bitepointlaw03.StreetAny', WHERE WHAT IT READS IS OF BULK AT MOST 1048576: true; the input reads as it did. -/
def streetAnyUptoRow : OpenClaim := { program := "ytfjnacajjpaeiaagreatdoor", sum := "f3cfa89da054abcc5f5e5118413622f6f90c4e9fa75e3147d426ce05f680a05c", func := "bitepoint/bitepointlaw03.StreetAny", spec := "streetAny", inPlace := ["internal/abi.NoEscape", "internal/bytealg.IndexByteString", "internal/bytealg.IndexString"], unfollowed := true, recurses := true, named := ["internal/strconv.uint64pow10", "math/bits.deBruijn32tab", "math/bits.deBruijn64tab", "internal/bytealg.MaxLen", "strconv.ErrSyntax", "strconv.ErrRange"], plainKeys := false, apart := false, laid := [("math/bits.deBruijn32tab", laid_math_bits_deBruijn32tab), ("math/bits.deBruijn64tab", laid_math_bits_deBruijn64tab), ("internal/strconv.uint64pow10", laid_internal_strconv_uint64pow10), ("strconv.ErrRange", laid_strconv_ErrRange), ("strconv.ErrSyntax", laid_strconv_ErrSyntax)], narrowed := true }
def StreetAnyUptoSaid : Prop := streetAnyUptoRow.holds Tryz.pinned (OpenSpec.upto streetAnySpec)

/-- 'bitepointlaw03.StreetClosed', WHERE WHAT IT READS IS OF BULK AT MOST 1048576: true; the input reads as it did. -/
def streetClosedUptoRow : OpenClaim := { program := "ytfjnacajjpaeiaagreatdoor", sum := "f3cfa89da054abcc5f5e5118413622f6f90c4e9fa75e3147d426ce05f680a05c", func := "bitepoint/bitepointlaw03.StreetClosed", spec := "streetClosed", inPlace := ["internal/abi.NoEscape", "internal/bytealg.IndexByteString", "internal/bytealg.IndexString"], unfollowed := true, recurses := true, named := ["internal/strconv.uint64pow10", "math/bits.deBruijn32tab", "math/bits.deBruijn64tab", "internal/bytealg.MaxLen", "strconv.ErrSyntax", "strconv.ErrRange"], plainKeys := false, apart := false, laid := [("math/bits.deBruijn32tab", laid_math_bits_deBruijn32tab), ("math/bits.deBruijn64tab", laid_math_bits_deBruijn64tab), ("internal/strconv.uint64pow10", laid_internal_strconv_uint64pow10), ("strconv.ErrRange", laid_strconv_ErrRange), ("strconv.ErrSyntax", laid_strconv_ErrSyntax)], narrowed := true }
def StreetClosedUptoSaid : Prop := streetClosedUptoRow.holds Tryz.pinned (OpenSpec.upto streetClosedSpec)

/-- 'bitepointlaw03.StreetBy', WHERE WHAT IT READS IS OF BULK AT MOST 1048576: true; the input reads as it did. -/
def streetByUptoRow : OpenClaim := { program := "ytfjnacajjpaeiaagreatdoor", sum := "f3cfa89da054abcc5f5e5118413622f6f90c4e9fa75e3147d426ce05f680a05c", func := "bitepoint/bitepointlaw03.StreetBy", spec := "streetBy", inPlace := ["internal/abi.NoEscape", "internal/bytealg.IndexByteString", "internal/bytealg.IndexString"], unfollowed := true, recurses := true, named := ["internal/strconv.uint64pow10", "math/bits.deBruijn32tab", "math/bits.deBruijn64tab", "internal/bytealg.MaxLen", "strconv.ErrSyntax", "strconv.ErrRange"], plainKeys := false, apart := false, laid := [("math/bits.deBruijn32tab", laid_math_bits_deBruijn32tab), ("math/bits.deBruijn64tab", laid_math_bits_deBruijn64tab), ("internal/strconv.uint64pow10", laid_internal_strconv_uint64pow10), ("strconv.ErrRange", laid_strconv_ErrRange), ("strconv.ErrSyntax", laid_strconv_ErrSyntax)], narrowed := true }
def StreetByUptoSaid : Prop := streetByUptoRow.holds Tryz.pinned (OpenSpec.upto streetBySpec)

/-- 'bitepointlaw03.StreetBack', WHERE WHAT IT READS IS OF BULK AT MOST 1048576: true; the input reads as it did. -/
def streetBackUptoRow : OpenClaim := { program := "ytfjnacajjpaeiaagreatdoor", sum := "f3cfa89da054abcc5f5e5118413622f6f90c4e9fa75e3147d426ce05f680a05c", func := "bitepoint/bitepointlaw03.StreetBack", spec := "streetBack", inPlace := ["internal/abi.NoEscape", "internal/bytealg.IndexByteString", "internal/bytealg.IndexString"], unfollowed := true, recurses := true, named := ["internal/strconv.uint64pow10", "math/bits.deBruijn32tab", "math/bits.deBruijn64tab", "internal/bytealg.MaxLen", "strconv.ErrSyntax", "strconv.ErrRange"], plainKeys := false, apart := false, laid := [("math/bits.deBruijn32tab", laid_math_bits_deBruijn32tab), ("math/bits.deBruijn64tab", laid_math_bits_deBruijn64tab), ("internal/strconv.uint64pow10", laid_internal_strconv_uint64pow10), ("strconv.ErrRange", laid_strconv_ErrRange), ("strconv.ErrSyntax", laid_strconv_ErrSyntax)], narrowed := true }
def StreetBackUptoSaid : Prop := streetBackUptoRow.holds Tryz.pinned (OpenSpec.upto streetBackSpec)

/-- 'bitepointlaw03.StreetParts', WHERE WHAT IT READS IS OF BULK AT MOST 1048576: true; the input reads as it did. -/
def streetPartsUptoRow : OpenClaim := { program := "ytfjnacajjpaeiaagreatdoor", sum := "f3cfa89da054abcc5f5e5118413622f6f90c4e9fa75e3147d426ce05f680a05c", func := "bitepoint/bitepointlaw03.StreetParts", spec := "streetParts", inPlace := ["internal/abi.NoEscape", "internal/bytealg.IndexByteString", "internal/bytealg.IndexString"], unfollowed := true, recurses := true, named := ["internal/strconv.uint64pow10", "math/bits.deBruijn32tab", "math/bits.deBruijn64tab", "internal/bytealg.MaxLen", "strconv.ErrSyntax", "strconv.ErrRange"], plainKeys := false, apart := false, laid := [("math/bits.deBruijn32tab", laid_math_bits_deBruijn32tab), ("math/bits.deBruijn64tab", laid_math_bits_deBruijn64tab), ("internal/strconv.uint64pow10", laid_internal_strconv_uint64pow10), ("strconv.ErrRange", laid_strconv_ErrRange), ("strconv.ErrSyntax", laid_strconv_ErrSyntax)], narrowed := true }
def StreetPartsUptoSaid : Prop := streetPartsUptoRow.holds Tryz.pinned (OpenSpec.upto streetPartsSpec)

/-- 'bitepointlaw03.StreetRound', WHERE WHAT IT READS IS OF BULK AT MOST 1048576: true; the input reads as it did. -/
def streetRoundUptoRow : OpenClaim := { program := "ytfjnacajjpaeiaagreatdoor", sum := "f3cfa89da054abcc5f5e5118413622f6f90c4e9fa75e3147d426ce05f680a05c", func := "bitepoint/bitepointlaw03.StreetRound", spec := "streetRound", inPlace := ["internal/abi.NoEscape", "internal/bytealg.IndexByteString", "internal/bytealg.IndexString"], unfollowed := true, recurses := true, named := ["internal/strconv.uint64pow10", "math/bits.deBruijn32tab", "math/bits.deBruijn64tab", "internal/bytealg.MaxLen", "strconv.ErrSyntax", "strconv.ErrRange"], plainKeys := false, apart := false, laid := [("math/bits.deBruijn32tab", laid_math_bits_deBruijn32tab), ("math/bits.deBruijn64tab", laid_math_bits_deBruijn64tab), ("internal/strconv.uint64pow10", laid_internal_strconv_uint64pow10), ("strconv.ErrRange", laid_strconv_ErrRange), ("strconv.ErrSyntax", laid_strconv_ErrSyntax)], narrowed := true }
def StreetRoundUptoSaid : Prop := streetRoundUptoRow.holds Tryz.pinned (OpenSpec.upto streetRoundSpec)

end Rows
end Go.Proofs.YtfjnacajjpaeiaaGreatDoor
