/-
  NARROWER THAN 'FOR EVERY INPUT', by the rows' own cells (each row's printed sentence says how): FnTreMeet: laid · FnTreUp: laid · FnSecParts: laid · FnFraOk: laid · FnMakEpoch: laid · FnMakNext: laid · FnMakSay: laid · FnSecApart: laid · FnSecMade: laid · FnTreOk: laid · FnTreIn: laid · FnTreCover: laid.
  DERIVED. THE GIVEN ROWS OF THIS SEAT. 12 by the template 'for every input the law returns true; each argument reads behind the call as it read before'; 0 by the template 'total and deterministic' (their statements: YtdcaipomjimplaaDoorTotals.lean).
  GIVEN WITH THE SEED: the statements are not yours to turn. If you find one false, say at which input.
  Laid BY PROGRAM, IN A SANDBOX (cutbox-rows.mjs): the forced cells as the released guide's own fill.sh prints them over the translation d9051772a627e232… (all of the seat's roots in one cut). By AI agents, Wed Nov 11 2026. No macro, syntax, notation, axiom, sorry.
-/
import Derived.Test.YtdcaipomjimplaaDoorChecked
import GoSem.Claim
import GoSem.ClaimJoined
import GoSem.ClaimMapViews
import Derived.JoinedTies
import Derived.KernelRfl
namespace Go.Proofs.YtdcaipomjimplaaDoor
/- THE CELL 'sum', in the pinned program and in every row, IS THE sha256 OF THE DUMP (.gsa) THAT YtdcaipomjimplaaDoorProg.lean LOADS. Nothing in Lean hashes anything: it is a label: what it is worth is what the hold of that sum in a sandbox is worth. -/
noncomputable def Tryd.pinned : Pinned := { name := "ytdcaipomjimplaadoor", sum := "d9051772a627e23261cf96750bb58dcec37a907f377ce5e8752bea60de0f8c56", checked := Tryd.checked }
namespace Rows
def none {H : Type} : Left H := { results := [], args := [] }

/- WHAT THE LISTED PACKAGE-LEVEL VARIABLES READ AS WHEN THE CALL BEGINS. Each datum BY PROGRAM (the guide's laid-datum.mjs) off the statement by which the dump's own 'gosem.cut.vars' lays the variable. In a bare row this is a premise. The card (YtdcaipomjimplaaDoorCards.lean) ties it to the program's text. -/
def laid_math_bits_deBruijn32tab {H : Type} : DataW H := .agg [.lit (.int .u8 0), .lit (.int .u8 1), .lit (.int .u8 28), .lit (.int .u8 2), .lit (.int .u8 29), .lit (.int .u8 14), .lit (.int .u8 24), .lit (.int .u8 3), .lit (.int .u8 30), .lit (.int .u8 22), .lit (.int .u8 20), .lit (.int .u8 15), .lit (.int .u8 25), .lit (.int .u8 17), .lit (.int .u8 4), .lit (.int .u8 8), .lit (.int .u8 31), .lit (.int .u8 27), .lit (.int .u8 13), .lit (.int .u8 23), .lit (.int .u8 21), .lit (.int .u8 19), .lit (.int .u8 16), .lit (.int .u8 7), .lit (.int .u8 26), .lit (.int .u8 12), .lit (.int .u8 18), .lit (.int .u8 6), .lit (.int .u8 11), .lit (.int .u8 5), .lit (.int .u8 10), .lit (.int .u8 9)]
def laid_math_bits_deBruijn64tab {H : Type} : DataW H := .agg [.lit (.int .u8 0), .lit (.int .u8 1), .lit (.int .u8 56), .lit (.int .u8 2), .lit (.int .u8 57), .lit (.int .u8 49), .lit (.int .u8 28), .lit (.int .u8 3), .lit (.int .u8 61), .lit (.int .u8 58), .lit (.int .u8 42), .lit (.int .u8 50), .lit (.int .u8 38), .lit (.int .u8 29), .lit (.int .u8 17), .lit (.int .u8 4), .lit (.int .u8 62), .lit (.int .u8 47), .lit (.int .u8 59), .lit (.int .u8 36), .lit (.int .u8 45), .lit (.int .u8 43), .lit (.int .u8 51), .lit (.int .u8 22), .lit (.int .u8 53), .lit (.int .u8 39), .lit (.int .u8 33), .lit (.int .u8 30), .lit (.int .u8 24), .lit (.int .u8 18), .lit (.int .u8 12), .lit (.int .u8 5), .lit (.int .u8 63), .lit (.int .u8 55), .lit (.int .u8 48), .lit (.int .u8 27), .lit (.int .u8 60), .lit (.int .u8 41), .lit (.int .u8 37), .lit (.int .u8 16), .lit (.int .u8 46), .lit (.int .u8 35), .lit (.int .u8 44), .lit (.int .u8 21), .lit (.int .u8 52), .lit (.int .u8 32), .lit (.int .u8 23), .lit (.int .u8 11), .lit (.int .u8 54), .lit (.int .u8 26), .lit (.int .u8 40), .lit (.int .u8 15), .lit (.int .u8 34), .lit (.int .u8 20), .lit (.int .u8 31), .lit (.int .u8 10), .lit (.int .u8 25), .lit (.int .u8 14), .lit (.int .u8 19), .lit (.int .u8 9), .lit (.int .u8 13), .lit (.int .u8 8), .lit (.int .u8 7), .lit (.int .u8 6)]
def laid_internal_strconv_uint64pow10 {H : Type} : DataW H := .agg [.lit (.int .u64 1), .lit (.int .u64 10), .lit (.int .u64 100), .lit (.int .u64 1000), .lit (.int .u64 10000), .lit (.int .u64 100000), .lit (.int .u64 1000000), .lit (.int .u64 10000000), .lit (.int .u64 100000000), .lit (.int .u64 1000000000), .lit (.int .u64 10000000000), .lit (.int .u64 100000000000), .lit (.int .u64 1000000000000), .lit (.int .u64 10000000000000), .lit (.int .u64 100000000000000), .lit (.int .u64 1000000000000000), .lit (.int .u64 10000000000000000), .lit (.int .u64 100000000000000000), .lit (.int .u64 1000000000000000000), .lit (.int .u64 10000000000000000000)]
def laid_strconv_ErrRange {H : Type} : DataW H := .iface "*errors.errorString" (.ptr (.agg [.lit (.string [118, 97, 108, 117, 101, 32, 111, 117, 116, 32, 111, 102, 32, 114, 97, 110, 103, 101])]))
def laid_strconv_ErrSyntax {H : Type} : DataW H := .iface "*errors.errorString" (.ptr (.agg [.lit (.string [105, 110, 118, 97, 108, 105, 100, 32, 115, 121, 110, 116, 97, 120])]))

/-- 'laws.FnTreMeet': WHATEVER THE INPUT: true; the input reads as it did. -/
def fnTreMeetSpec : ChangeSpec := { name := "fnTreMeet", fn := fun _ => fun
  | [d] => { results := [.lit (.bool true)], args := [d] }
  | _ => none }
def fnTreMeetRow : OpenClaim := { program := "ytdcaipomjimplaadoor", sum := "d9051772a627e23261cf96750bb58dcec37a907f377ce5e8752bea60de0f8c56", func := "loop.example/keyward/laws.FnTreMeet", spec := "fnTreMeet", recurses := true, named := ["strconv.ErrSyntax", "strconv.ErrRange", "internal/strconv.uint64pow10", "math/bits.deBruijn32tab", "math/bits.deBruijn64tab"], apart := false, laid := [("math/bits.deBruijn32tab", laid_math_bits_deBruijn32tab), ("math/bits.deBruijn64tab", laid_math_bits_deBruijn64tab), ("internal/strconv.uint64pow10", laid_internal_strconv_uint64pow10), ("strconv.ErrRange", laid_strconv_ErrRange), ("strconv.ErrSyntax", laid_strconv_ErrSyntax)] }
def FnTreMeetSaid : Prop := fnTreMeetRow.holds Tryd.pinned (OpenSpec.ofChange fnTreMeetSpec)

/-- ITS FALSE NEIGHBOUR: 'it returns false'. Refute it at one input. -/
def fnTreMeetWrong : ChangeSpec := { name := "fnTreMeet", fn := fun _ => fun
  | [d] => { results := [.lit (.bool false)], args := [d] }
  | _ => none }
def FnTreMeetWrongFalsely : Prop := fnTreMeetRow.holds Tryd.pinned (OpenSpec.ofChange fnTreMeetWrong)

/-- 'laws.FnTreUp': WHATEVER THE INPUT: true; the input reads as it did. -/
def fnTreUpSpec : ChangeSpec := { name := "fnTreUp", fn := fun _ => fun
  | [d1, d2] => { results := [.lit (.bool true)], args := [d1, d2] }
  | _ => none }
def fnTreUpRow : OpenClaim := { program := "ytdcaipomjimplaadoor", sum := "d9051772a627e23261cf96750bb58dcec37a907f377ce5e8752bea60de0f8c56", func := "loop.example/keyward/laws.FnTreUp", spec := "fnTreUp", recurses := true, named := ["strconv.ErrSyntax", "strconv.ErrRange", "internal/strconv.uint64pow10", "math/bits.deBruijn32tab", "math/bits.deBruijn64tab"], apart := false, laid := [("math/bits.deBruijn32tab", laid_math_bits_deBruijn32tab), ("math/bits.deBruijn64tab", laid_math_bits_deBruijn64tab), ("internal/strconv.uint64pow10", laid_internal_strconv_uint64pow10), ("strconv.ErrRange", laid_strconv_ErrRange), ("strconv.ErrSyntax", laid_strconv_ErrSyntax)] }
def FnTreUpSaid : Prop := fnTreUpRow.holds Tryd.pinned (OpenSpec.ofChange fnTreUpSpec)

/-- ITS FALSE NEIGHBOUR: 'it returns false'. Refute it at one input. -/
def fnTreUpWrong : ChangeSpec := { name := "fnTreUp", fn := fun _ => fun
  | [d1, d2] => { results := [.lit (.bool false)], args := [d1, d2] }
  | _ => none }
def FnTreUpWrongFalsely : Prop := fnTreUpRow.holds Tryd.pinned (OpenSpec.ofChange fnTreUpWrong)

/-- 'laws.FnSecParts': WHATEVER THE INPUT: true; the input reads as it did. -/
def fnSecPartsSpec : ChangeSpec := { name := "fnSecParts", fn := fun _ => fun
  | [d] => { results := [.lit (.bool true)], args := [d] }
  | _ => none }
def fnSecPartsRow : OpenClaim := { program := "ytdcaipomjimplaadoor", sum := "d9051772a627e23261cf96750bb58dcec37a907f377ce5e8752bea60de0f8c56", func := "loop.example/keyward/laws.FnSecParts", spec := "fnSecParts", recurses := true, named := ["strconv.ErrSyntax", "strconv.ErrRange", "internal/strconv.uint64pow10", "math/bits.deBruijn32tab", "math/bits.deBruijn64tab"], apart := false, laid := [("math/bits.deBruijn32tab", laid_math_bits_deBruijn32tab), ("math/bits.deBruijn64tab", laid_math_bits_deBruijn64tab), ("internal/strconv.uint64pow10", laid_internal_strconv_uint64pow10), ("strconv.ErrRange", laid_strconv_ErrRange), ("strconv.ErrSyntax", laid_strconv_ErrSyntax)] }
def FnSecPartsSaid : Prop := fnSecPartsRow.holds Tryd.pinned (OpenSpec.ofChange fnSecPartsSpec)

/-- ITS FALSE NEIGHBOUR: 'it returns false'. Refute it at one input. -/
def fnSecPartsWrong : ChangeSpec := { name := "fnSecParts", fn := fun _ => fun
  | [d] => { results := [.lit (.bool false)], args := [d] }
  | _ => none }
def FnSecPartsWrongFalsely : Prop := fnSecPartsRow.holds Tryd.pinned (OpenSpec.ofChange fnSecPartsWrong)

/-- 'laws.FnFraOk': WHATEVER THE INPUT: true; the input reads as it did. -/
def fnFraOkSpec : ChangeSpec := { name := "fnFraOk", fn := fun _ => fun
  | [d] => { results := [.lit (.bool true)], args := [d] }
  | _ => none }
def fnFraOkRow : OpenClaim := { program := "ytdcaipomjimplaadoor", sum := "d9051772a627e23261cf96750bb58dcec37a907f377ce5e8752bea60de0f8c56", func := "loop.example/keyward/laws.FnFraOk", spec := "fnFraOk", recurses := true, named := ["strconv.ErrSyntax", "strconv.ErrRange", "internal/strconv.uint64pow10", "math/bits.deBruijn32tab", "math/bits.deBruijn64tab"], apart := false, laid := [("math/bits.deBruijn32tab", laid_math_bits_deBruijn32tab), ("math/bits.deBruijn64tab", laid_math_bits_deBruijn64tab), ("internal/strconv.uint64pow10", laid_internal_strconv_uint64pow10), ("strconv.ErrRange", laid_strconv_ErrRange), ("strconv.ErrSyntax", laid_strconv_ErrSyntax)] }
def FnFraOkSaid : Prop := fnFraOkRow.holds Tryd.pinned (OpenSpec.ofChange fnFraOkSpec)

/-- ITS FALSE NEIGHBOUR: 'it returns false'. Refute it at one input. -/
def fnFraOkWrong : ChangeSpec := { name := "fnFraOk", fn := fun _ => fun
  | [d] => { results := [.lit (.bool false)], args := [d] }
  | _ => none }
def FnFraOkWrongFalsely : Prop := fnFraOkRow.holds Tryd.pinned (OpenSpec.ofChange fnFraOkWrong)

/-- 'laws.FnMakEpoch': WHATEVER THE INPUT: true; the input reads as it did. -/
def fnMakEpochSpec : ChangeSpec := { name := "fnMakEpoch", fn := fun _ => fun
  | [d] => { results := [.lit (.bool true)], args := [d] }
  | _ => none }
def fnMakEpochRow : OpenClaim := { program := "ytdcaipomjimplaadoor", sum := "d9051772a627e23261cf96750bb58dcec37a907f377ce5e8752bea60de0f8c56", func := "loop.example/keyward/laws.FnMakEpoch", spec := "fnMakEpoch", inPlace := ["internal/abi.NoEscape", "internal/bytealg.MakeNoZero"], recurses := true, named := ["strconv.ErrSyntax", "strconv.ErrRange", "internal/strconv.uint64pow10", "math/bits.deBruijn32tab", "math/bits.deBruijn64tab"], apart := false, laid := [("math/bits.deBruijn32tab", laid_math_bits_deBruijn32tab), ("math/bits.deBruijn64tab", laid_math_bits_deBruijn64tab), ("internal/strconv.uint64pow10", laid_internal_strconv_uint64pow10), ("strconv.ErrRange", laid_strconv_ErrRange), ("strconv.ErrSyntax", laid_strconv_ErrSyntax)] }
def FnMakEpochSaid : Prop := fnMakEpochRow.holds Tryd.pinned (OpenSpec.ofChange fnMakEpochSpec)

/-- ITS FALSE NEIGHBOUR: 'it returns false'. Refute it at one input. -/
def fnMakEpochWrong : ChangeSpec := { name := "fnMakEpoch", fn := fun _ => fun
  | [d] => { results := [.lit (.bool false)], args := [d] }
  | _ => none }
def FnMakEpochWrongFalsely : Prop := fnMakEpochRow.holds Tryd.pinned (OpenSpec.ofChange fnMakEpochWrong)

/-- 'laws.FnMakNext': WHATEVER THE INPUT: true; the input reads as it did. -/
def fnMakNextSpec : ChangeSpec := { name := "fnMakNext", fn := fun _ => fun
  | [d1, d2] => { results := [.lit (.bool true)], args := [d1, d2] }
  | _ => none }
def fnMakNextRow : OpenClaim := { program := "ytdcaipomjimplaadoor", sum := "d9051772a627e23261cf96750bb58dcec37a907f377ce5e8752bea60de0f8c56", func := "loop.example/keyward/laws.FnMakNext", spec := "fnMakNext", inPlace := ["internal/abi.NoEscape", "internal/bytealg.MakeNoZero"], recurses := true, named := ["strconv.ErrSyntax", "strconv.ErrRange", "internal/strconv.uint64pow10", "math/bits.deBruijn32tab", "math/bits.deBruijn64tab"], apart := false, laid := [("math/bits.deBruijn32tab", laid_math_bits_deBruijn32tab), ("math/bits.deBruijn64tab", laid_math_bits_deBruijn64tab), ("internal/strconv.uint64pow10", laid_internal_strconv_uint64pow10), ("strconv.ErrRange", laid_strconv_ErrRange), ("strconv.ErrSyntax", laid_strconv_ErrSyntax)] }
def FnMakNextSaid : Prop := fnMakNextRow.holds Tryd.pinned (OpenSpec.ofChange fnMakNextSpec)

/-- ITS FALSE NEIGHBOUR: 'it returns false'. Refute it at one input. -/
def fnMakNextWrong : ChangeSpec := { name := "fnMakNext", fn := fun _ => fun
  | [d1, d2] => { results := [.lit (.bool false)], args := [d1, d2] }
  | _ => none }
def FnMakNextWrongFalsely : Prop := fnMakNextRow.holds Tryd.pinned (OpenSpec.ofChange fnMakNextWrong)

/-- 'laws.FnMakSay': WHATEVER THE INPUT: true; the input reads as it did. -/
def fnMakSaySpec : ChangeSpec := { name := "fnMakSay", fn := fun _ => fun
  | [d1, d2] => { results := [.lit (.bool true)], args := [d1, d2] }
  | _ => none }
def fnMakSayRow : OpenClaim := { program := "ytdcaipomjimplaadoor", sum := "d9051772a627e23261cf96750bb58dcec37a907f377ce5e8752bea60de0f8c56", func := "loop.example/keyward/laws.FnMakSay", spec := "fnMakSay", inPlace := ["internal/abi.NoEscape", "internal/bytealg.MakeNoZero"], recurses := true, named := ["strconv.ErrSyntax", "strconv.ErrRange", "internal/strconv.uint64pow10", "math/bits.deBruijn32tab", "math/bits.deBruijn64tab"], apart := false, laid := [("math/bits.deBruijn32tab", laid_math_bits_deBruijn32tab), ("math/bits.deBruijn64tab", laid_math_bits_deBruijn64tab), ("internal/strconv.uint64pow10", laid_internal_strconv_uint64pow10), ("strconv.ErrRange", laid_strconv_ErrRange), ("strconv.ErrSyntax", laid_strconv_ErrSyntax)] }
def FnMakSaySaid : Prop := fnMakSayRow.holds Tryd.pinned (OpenSpec.ofChange fnMakSaySpec)

/-- ITS FALSE NEIGHBOUR: 'it returns false'. Refute it at one input. -/
def fnMakSayWrong : ChangeSpec := { name := "fnMakSay", fn := fun _ => fun
  | [d1, d2] => { results := [.lit (.bool false)], args := [d1, d2] }
  | _ => none }
def FnMakSayWrongFalsely : Prop := fnMakSayRow.holds Tryd.pinned (OpenSpec.ofChange fnMakSayWrong)

/-- 'laws.FnSecApart': WHATEVER THE INPUT: true; the input reads as it did. -/
def fnSecApartSpec : ChangeSpec := { name := "fnSecApart", fn := fun _ => fun
  | [d] => { results := [.lit (.bool true)], args := [d] }
  | _ => none }
def fnSecApartRow : OpenClaim := { program := "ytdcaipomjimplaadoor", sum := "d9051772a627e23261cf96750bb58dcec37a907f377ce5e8752bea60de0f8c56", func := "loop.example/keyward/laws.FnSecApart", spec := "fnSecApart", inPlace := ["internal/abi.NoEscape", "internal/bytealg.MakeNoZero"], recurses := true, named := ["strconv.ErrSyntax", "strconv.ErrRange", "internal/strconv.uint64pow10", "math/bits.deBruijn32tab", "math/bits.deBruijn64tab"], apart := false, laid := [("math/bits.deBruijn32tab", laid_math_bits_deBruijn32tab), ("math/bits.deBruijn64tab", laid_math_bits_deBruijn64tab), ("internal/strconv.uint64pow10", laid_internal_strconv_uint64pow10), ("strconv.ErrRange", laid_strconv_ErrRange), ("strconv.ErrSyntax", laid_strconv_ErrSyntax)] }
def FnSecApartSaid : Prop := fnSecApartRow.holds Tryd.pinned (OpenSpec.ofChange fnSecApartSpec)

/-- ITS FALSE NEIGHBOUR: 'it returns false'. Refute it at one input. -/
def fnSecApartWrong : ChangeSpec := { name := "fnSecApart", fn := fun _ => fun
  | [d] => { results := [.lit (.bool false)], args := [d] }
  | _ => none }
def FnSecApartWrongFalsely : Prop := fnSecApartRow.holds Tryd.pinned (OpenSpec.ofChange fnSecApartWrong)

/-- 'laws.FnSecMade': WHATEVER THE INPUT: true; the input reads as it did. -/
def fnSecMadeSpec : ChangeSpec := { name := "fnSecMade", fn := fun _ => fun
  | [d] => { results := [.lit (.bool true)], args := [d] }
  | _ => none }
def fnSecMadeRow : OpenClaim := { program := "ytdcaipomjimplaadoor", sum := "d9051772a627e23261cf96750bb58dcec37a907f377ce5e8752bea60de0f8c56", func := "loop.example/keyward/laws.FnSecMade", spec := "fnSecMade", inPlace := ["internal/abi.NoEscape", "internal/bytealg.MakeNoZero"], recurses := true, named := ["strconv.ErrSyntax", "strconv.ErrRange", "internal/strconv.uint64pow10", "math/bits.deBruijn32tab", "math/bits.deBruijn64tab"], apart := false, laid := [("math/bits.deBruijn32tab", laid_math_bits_deBruijn32tab), ("math/bits.deBruijn64tab", laid_math_bits_deBruijn64tab), ("internal/strconv.uint64pow10", laid_internal_strconv_uint64pow10), ("strconv.ErrRange", laid_strconv_ErrRange), ("strconv.ErrSyntax", laid_strconv_ErrSyntax)] }
def FnSecMadeSaid : Prop := fnSecMadeRow.holds Tryd.pinned (OpenSpec.ofChange fnSecMadeSpec)

/-- ITS FALSE NEIGHBOUR: 'it returns false'. Refute it at one input. -/
def fnSecMadeWrong : ChangeSpec := { name := "fnSecMade", fn := fun _ => fun
  | [d] => { results := [.lit (.bool false)], args := [d] }
  | _ => none }
def FnSecMadeWrongFalsely : Prop := fnSecMadeRow.holds Tryd.pinned (OpenSpec.ofChange fnSecMadeWrong)

/-- 'laws.FnTreOk': WHATEVER THE INPUT: true; the input reads as it did. -/
def fnTreOkSpec : ChangeSpec := { name := "fnTreOk", fn := fun _ => fun
  | [d] => { results := [.lit (.bool true)], args := [d] }
  | _ => none }
def fnTreOkRow : OpenClaim := { program := "ytdcaipomjimplaadoor", sum := "d9051772a627e23261cf96750bb58dcec37a907f377ce5e8752bea60de0f8c56", func := "loop.example/keyward/laws.FnTreOk", spec := "fnTreOk", unfollowed := true, recurses := true, named := ["strconv.ErrSyntax", "strconv.ErrRange", "internal/strconv.uint64pow10", "math/bits.deBruijn32tab", "math/bits.deBruijn64tab"], apart := false, laid := [("math/bits.deBruijn32tab", laid_math_bits_deBruijn32tab), ("math/bits.deBruijn64tab", laid_math_bits_deBruijn64tab), ("internal/strconv.uint64pow10", laid_internal_strconv_uint64pow10), ("strconv.ErrRange", laid_strconv_ErrRange), ("strconv.ErrSyntax", laid_strconv_ErrSyntax)] }
def FnTreOkSaid : Prop := fnTreOkRow.holds Tryd.pinned (OpenSpec.ofChange fnTreOkSpec)

/-- ITS FALSE NEIGHBOUR: 'it returns false'. Refute it at one input. -/
def fnTreOkWrong : ChangeSpec := { name := "fnTreOk", fn := fun _ => fun
  | [d] => { results := [.lit (.bool false)], args := [d] }
  | _ => none }
def FnTreOkWrongFalsely : Prop := fnTreOkRow.holds Tryd.pinned (OpenSpec.ofChange fnTreOkWrong)

/-- 'laws.FnTreIn': WHATEVER THE INPUT: true; the input reads as it did. -/
def fnTreInSpec : ChangeSpec := { name := "fnTreIn", fn := fun _ => fun
  | [d] => { results := [.lit (.bool true)], args := [d] }
  | _ => none }
def fnTreInRow : OpenClaim := { program := "ytdcaipomjimplaadoor", sum := "d9051772a627e23261cf96750bb58dcec37a907f377ce5e8752bea60de0f8c56", func := "loop.example/keyward/laws.FnTreIn", spec := "fnTreIn", unfollowed := true, recurses := true, named := ["strconv.ErrSyntax", "strconv.ErrRange", "internal/strconv.uint64pow10", "math/bits.deBruijn32tab", "math/bits.deBruijn64tab"], apart := false, laid := [("math/bits.deBruijn32tab", laid_math_bits_deBruijn32tab), ("math/bits.deBruijn64tab", laid_math_bits_deBruijn64tab), ("internal/strconv.uint64pow10", laid_internal_strconv_uint64pow10), ("strconv.ErrRange", laid_strconv_ErrRange), ("strconv.ErrSyntax", laid_strconv_ErrSyntax)] }
def FnTreInSaid : Prop := fnTreInRow.holds Tryd.pinned (OpenSpec.ofChange fnTreInSpec)

/-- ITS FALSE NEIGHBOUR: 'it returns false'. Refute it at one input. -/
def fnTreInWrong : ChangeSpec := { name := "fnTreIn", fn := fun _ => fun
  | [d] => { results := [.lit (.bool false)], args := [d] }
  | _ => none }
def FnTreInWrongFalsely : Prop := fnTreInRow.holds Tryd.pinned (OpenSpec.ofChange fnTreInWrong)

/-- 'laws.FnTreCover': WHATEVER THE INPUT: true; the input reads as it did. -/
def fnTreCoverSpec : ChangeSpec := { name := "fnTreCover", fn := fun _ => fun
  | [d] => { results := [.lit (.bool true)], args := [d] }
  | _ => none }
def fnTreCoverRow : OpenClaim := { program := "ytdcaipomjimplaadoor", sum := "d9051772a627e23261cf96750bb58dcec37a907f377ce5e8752bea60de0f8c56", func := "loop.example/keyward/laws.FnTreCover", spec := "fnTreCover", unfollowed := true, recurses := true, named := ["strconv.ErrSyntax", "strconv.ErrRange", "internal/strconv.uint64pow10", "math/bits.deBruijn32tab", "math/bits.deBruijn64tab"], apart := false, laid := [("math/bits.deBruijn32tab", laid_math_bits_deBruijn32tab), ("math/bits.deBruijn64tab", laid_math_bits_deBruijn64tab), ("internal/strconv.uint64pow10", laid_internal_strconv_uint64pow10), ("strconv.ErrRange", laid_strconv_ErrRange), ("strconv.ErrSyntax", laid_strconv_ErrSyntax)] }
def FnTreCoverSaid : Prop := fnTreCoverRow.holds Tryd.pinned (OpenSpec.ofChange fnTreCoverSpec)

/-- ITS FALSE NEIGHBOUR: 'it returns false'. Refute it at one input. -/
def fnTreCoverWrong : ChangeSpec := { name := "fnTreCover", fn := fun _ => fun
  | [d] => { results := [.lit (.bool false)], args := [d] }
  | _ => none }
def FnTreCoverWrongFalsely : Prop := fnTreCoverRow.holds Tryd.pinned (OpenSpec.ofChange fnTreCoverWrong)

/- THE SECOND FORM. 'bulk': how many values and letters a reading holds, each counted each time it is reached (what is shared counts as often as it is met; a slice's spare places count too). A statement '..UptoSaid' is the law's where the arguments, and the package variables that the reading takes, are together of bulk at most 1048576: NARROWER than '..Said'. Prove '..Said' where nothing that the law and all that it calls make is longer than what came in: it says more and counts as full. Else prove '..UptoSaid'. A law counts once. -/
mutual
def uptoBulk {H : Type} : DataW H → Nat
  | .lit (.string bytes) => bytes.length + 1
  | .lit _ => 1
  | .nil => 1
  | .ptr d => uptoBulk d + 1
  | .slice elems spare => uptoBulkAll elems + uptoBulkAll spare + 1
  | .agg parts => uptoBulkAll parts + 1
  | .iface _ d => uptoBulk d + 1
  | .map entries => uptoBulkEntries entries + 1
  | .held _ => 1
def uptoBulkAll {H : Type} : List (DataW H) → Nat
  | [] => 0
  | d :: r => uptoBulk d + uptoBulkAll r
def uptoBulkEntries {H : Type} : List (Lit × DataW H) → Nat
  | [] => 0
  | x :: r => uptoBulkEntry x + uptoBulkEntries r
def uptoBulkEntry {H : Type} : Lit × DataW H → Nat
  | (.string bytes, d) => bytes.length + uptoBulk d + 1
  | (_, d) => uptoBulk d + 1
 end
def uptoSmall : (H : Type) → List (DataW H) → Bool := fun _ ds => decide (uptoBulkAll ds ≤ 1048576)
def OpenSpec.upto (s : _root_.Go.ChangeSpec) : _root_.Go.OpenSpec := { _root_.Go.OpenSpec.ofChange s with cond := some uptoSmall }

/-- 'laws.FnTreMeet', WHERE WHAT IT READS IS OF BULK AT MOST 1048576: true; the input reads as it did. -/
def fnTreMeetUptoRow : OpenClaim := { program := "ytdcaipomjimplaadoor", sum := "d9051772a627e23261cf96750bb58dcec37a907f377ce5e8752bea60de0f8c56", func := "loop.example/keyward/laws.FnTreMeet", spec := "fnTreMeet", recurses := true, named := ["strconv.ErrSyntax", "strconv.ErrRange", "internal/strconv.uint64pow10", "math/bits.deBruijn32tab", "math/bits.deBruijn64tab"], apart := false, laid := [("math/bits.deBruijn32tab", laid_math_bits_deBruijn32tab), ("math/bits.deBruijn64tab", laid_math_bits_deBruijn64tab), ("internal/strconv.uint64pow10", laid_internal_strconv_uint64pow10), ("strconv.ErrRange", laid_strconv_ErrRange), ("strconv.ErrSyntax", laid_strconv_ErrSyntax)], narrowed := true }
def FnTreMeetUptoSaid : Prop := fnTreMeetUptoRow.holds Tryd.pinned (OpenSpec.upto fnTreMeetSpec)

/-- 'laws.FnTreUp', WHERE WHAT IT READS IS OF BULK AT MOST 1048576: true; the input reads as it did. -/
def fnTreUpUptoRow : OpenClaim := { program := "ytdcaipomjimplaadoor", sum := "d9051772a627e23261cf96750bb58dcec37a907f377ce5e8752bea60de0f8c56", func := "loop.example/keyward/laws.FnTreUp", spec := "fnTreUp", recurses := true, named := ["strconv.ErrSyntax", "strconv.ErrRange", "internal/strconv.uint64pow10", "math/bits.deBruijn32tab", "math/bits.deBruijn64tab"], apart := false, laid := [("math/bits.deBruijn32tab", laid_math_bits_deBruijn32tab), ("math/bits.deBruijn64tab", laid_math_bits_deBruijn64tab), ("internal/strconv.uint64pow10", laid_internal_strconv_uint64pow10), ("strconv.ErrRange", laid_strconv_ErrRange), ("strconv.ErrSyntax", laid_strconv_ErrSyntax)], narrowed := true }
def FnTreUpUptoSaid : Prop := fnTreUpUptoRow.holds Tryd.pinned (OpenSpec.upto fnTreUpSpec)

/-- 'laws.FnSecParts', WHERE WHAT IT READS IS OF BULK AT MOST 1048576: true; the input reads as it did. -/
def fnSecPartsUptoRow : OpenClaim := { program := "ytdcaipomjimplaadoor", sum := "d9051772a627e23261cf96750bb58dcec37a907f377ce5e8752bea60de0f8c56", func := "loop.example/keyward/laws.FnSecParts", spec := "fnSecParts", recurses := true, named := ["strconv.ErrSyntax", "strconv.ErrRange", "internal/strconv.uint64pow10", "math/bits.deBruijn32tab", "math/bits.deBruijn64tab"], apart := false, laid := [("math/bits.deBruijn32tab", laid_math_bits_deBruijn32tab), ("math/bits.deBruijn64tab", laid_math_bits_deBruijn64tab), ("internal/strconv.uint64pow10", laid_internal_strconv_uint64pow10), ("strconv.ErrRange", laid_strconv_ErrRange), ("strconv.ErrSyntax", laid_strconv_ErrSyntax)], narrowed := true }
def FnSecPartsUptoSaid : Prop := fnSecPartsUptoRow.holds Tryd.pinned (OpenSpec.upto fnSecPartsSpec)

/-- 'laws.FnFraOk', WHERE WHAT IT READS IS OF BULK AT MOST 1048576: true; the input reads as it did. -/
def fnFraOkUptoRow : OpenClaim := { program := "ytdcaipomjimplaadoor", sum := "d9051772a627e23261cf96750bb58dcec37a907f377ce5e8752bea60de0f8c56", func := "loop.example/keyward/laws.FnFraOk", spec := "fnFraOk", recurses := true, named := ["strconv.ErrSyntax", "strconv.ErrRange", "internal/strconv.uint64pow10", "math/bits.deBruijn32tab", "math/bits.deBruijn64tab"], apart := false, laid := [("math/bits.deBruijn32tab", laid_math_bits_deBruijn32tab), ("math/bits.deBruijn64tab", laid_math_bits_deBruijn64tab), ("internal/strconv.uint64pow10", laid_internal_strconv_uint64pow10), ("strconv.ErrRange", laid_strconv_ErrRange), ("strconv.ErrSyntax", laid_strconv_ErrSyntax)], narrowed := true }
def FnFraOkUptoSaid : Prop := fnFraOkUptoRow.holds Tryd.pinned (OpenSpec.upto fnFraOkSpec)

/-- 'laws.FnMakEpoch', WHERE WHAT IT READS IS OF BULK AT MOST 1048576: true; the input reads as it did. -/
def fnMakEpochUptoRow : OpenClaim := { program := "ytdcaipomjimplaadoor", sum := "d9051772a627e23261cf96750bb58dcec37a907f377ce5e8752bea60de0f8c56", func := "loop.example/keyward/laws.FnMakEpoch", spec := "fnMakEpoch", inPlace := ["internal/abi.NoEscape", "internal/bytealg.MakeNoZero"], recurses := true, named := ["strconv.ErrSyntax", "strconv.ErrRange", "internal/strconv.uint64pow10", "math/bits.deBruijn32tab", "math/bits.deBruijn64tab"], apart := false, laid := [("math/bits.deBruijn32tab", laid_math_bits_deBruijn32tab), ("math/bits.deBruijn64tab", laid_math_bits_deBruijn64tab), ("internal/strconv.uint64pow10", laid_internal_strconv_uint64pow10), ("strconv.ErrRange", laid_strconv_ErrRange), ("strconv.ErrSyntax", laid_strconv_ErrSyntax)], narrowed := true }
def FnMakEpochUptoSaid : Prop := fnMakEpochUptoRow.holds Tryd.pinned (OpenSpec.upto fnMakEpochSpec)

/-- 'laws.FnMakNext', WHERE WHAT IT READS IS OF BULK AT MOST 1048576: true; the input reads as it did. -/
def fnMakNextUptoRow : OpenClaim := { program := "ytdcaipomjimplaadoor", sum := "d9051772a627e23261cf96750bb58dcec37a907f377ce5e8752bea60de0f8c56", func := "loop.example/keyward/laws.FnMakNext", spec := "fnMakNext", inPlace := ["internal/abi.NoEscape", "internal/bytealg.MakeNoZero"], recurses := true, named := ["strconv.ErrSyntax", "strconv.ErrRange", "internal/strconv.uint64pow10", "math/bits.deBruijn32tab", "math/bits.deBruijn64tab"], apart := false, laid := [("math/bits.deBruijn32tab", laid_math_bits_deBruijn32tab), ("math/bits.deBruijn64tab", laid_math_bits_deBruijn64tab), ("internal/strconv.uint64pow10", laid_internal_strconv_uint64pow10), ("strconv.ErrRange", laid_strconv_ErrRange), ("strconv.ErrSyntax", laid_strconv_ErrSyntax)], narrowed := true }
def FnMakNextUptoSaid : Prop := fnMakNextUptoRow.holds Tryd.pinned (OpenSpec.upto fnMakNextSpec)

/-- 'laws.FnMakSay', WHERE WHAT IT READS IS OF BULK AT MOST 1048576: true; the input reads as it did. -/
def fnMakSayUptoRow : OpenClaim := { program := "ytdcaipomjimplaadoor", sum := "d9051772a627e23261cf96750bb58dcec37a907f377ce5e8752bea60de0f8c56", func := "loop.example/keyward/laws.FnMakSay", spec := "fnMakSay", inPlace := ["internal/abi.NoEscape", "internal/bytealg.MakeNoZero"], recurses := true, named := ["strconv.ErrSyntax", "strconv.ErrRange", "internal/strconv.uint64pow10", "math/bits.deBruijn32tab", "math/bits.deBruijn64tab"], apart := false, laid := [("math/bits.deBruijn32tab", laid_math_bits_deBruijn32tab), ("math/bits.deBruijn64tab", laid_math_bits_deBruijn64tab), ("internal/strconv.uint64pow10", laid_internal_strconv_uint64pow10), ("strconv.ErrRange", laid_strconv_ErrRange), ("strconv.ErrSyntax", laid_strconv_ErrSyntax)], narrowed := true }
def FnMakSayUptoSaid : Prop := fnMakSayUptoRow.holds Tryd.pinned (OpenSpec.upto fnMakSaySpec)

/-- 'laws.FnSecApart', WHERE WHAT IT READS IS OF BULK AT MOST 1048576: true; the input reads as it did. -/
def fnSecApartUptoRow : OpenClaim := { program := "ytdcaipomjimplaadoor", sum := "d9051772a627e23261cf96750bb58dcec37a907f377ce5e8752bea60de0f8c56", func := "loop.example/keyward/laws.FnSecApart", spec := "fnSecApart", inPlace := ["internal/abi.NoEscape", "internal/bytealg.MakeNoZero"], recurses := true, named := ["strconv.ErrSyntax", "strconv.ErrRange", "internal/strconv.uint64pow10", "math/bits.deBruijn32tab", "math/bits.deBruijn64tab"], apart := false, laid := [("math/bits.deBruijn32tab", laid_math_bits_deBruijn32tab), ("math/bits.deBruijn64tab", laid_math_bits_deBruijn64tab), ("internal/strconv.uint64pow10", laid_internal_strconv_uint64pow10), ("strconv.ErrRange", laid_strconv_ErrRange), ("strconv.ErrSyntax", laid_strconv_ErrSyntax)], narrowed := true }
def FnSecApartUptoSaid : Prop := fnSecApartUptoRow.holds Tryd.pinned (OpenSpec.upto fnSecApartSpec)

/-- 'laws.FnSecMade', WHERE WHAT IT READS IS OF BULK AT MOST 1048576: true; the input reads as it did. -/
def fnSecMadeUptoRow : OpenClaim := { program := "ytdcaipomjimplaadoor", sum := "d9051772a627e23261cf96750bb58dcec37a907f377ce5e8752bea60de0f8c56", func := "loop.example/keyward/laws.FnSecMade", spec := "fnSecMade", inPlace := ["internal/abi.NoEscape", "internal/bytealg.MakeNoZero"], recurses := true, named := ["strconv.ErrSyntax", "strconv.ErrRange", "internal/strconv.uint64pow10", "math/bits.deBruijn32tab", "math/bits.deBruijn64tab"], apart := false, laid := [("math/bits.deBruijn32tab", laid_math_bits_deBruijn32tab), ("math/bits.deBruijn64tab", laid_math_bits_deBruijn64tab), ("internal/strconv.uint64pow10", laid_internal_strconv_uint64pow10), ("strconv.ErrRange", laid_strconv_ErrRange), ("strconv.ErrSyntax", laid_strconv_ErrSyntax)], narrowed := true }
def FnSecMadeUptoSaid : Prop := fnSecMadeUptoRow.holds Tryd.pinned (OpenSpec.upto fnSecMadeSpec)

/-- 'laws.FnTreOk', WHERE WHAT IT READS IS OF BULK AT MOST 1048576: true; the input reads as it did. -/
def fnTreOkUptoRow : OpenClaim := { program := "ytdcaipomjimplaadoor", sum := "d9051772a627e23261cf96750bb58dcec37a907f377ce5e8752bea60de0f8c56", func := "loop.example/keyward/laws.FnTreOk", spec := "fnTreOk", unfollowed := true, recurses := true, named := ["strconv.ErrSyntax", "strconv.ErrRange", "internal/strconv.uint64pow10", "math/bits.deBruijn32tab", "math/bits.deBruijn64tab"], apart := false, laid := [("math/bits.deBruijn32tab", laid_math_bits_deBruijn32tab), ("math/bits.deBruijn64tab", laid_math_bits_deBruijn64tab), ("internal/strconv.uint64pow10", laid_internal_strconv_uint64pow10), ("strconv.ErrRange", laid_strconv_ErrRange), ("strconv.ErrSyntax", laid_strconv_ErrSyntax)], narrowed := true }
def FnTreOkUptoSaid : Prop := fnTreOkUptoRow.holds Tryd.pinned (OpenSpec.upto fnTreOkSpec)

/-- 'laws.FnTreIn', WHERE WHAT IT READS IS OF BULK AT MOST 1048576: true; the input reads as it did. -/
def fnTreInUptoRow : OpenClaim := { program := "ytdcaipomjimplaadoor", sum := "d9051772a627e23261cf96750bb58dcec37a907f377ce5e8752bea60de0f8c56", func := "loop.example/keyward/laws.FnTreIn", spec := "fnTreIn", unfollowed := true, recurses := true, named := ["strconv.ErrSyntax", "strconv.ErrRange", "internal/strconv.uint64pow10", "math/bits.deBruijn32tab", "math/bits.deBruijn64tab"], apart := false, laid := [("math/bits.deBruijn32tab", laid_math_bits_deBruijn32tab), ("math/bits.deBruijn64tab", laid_math_bits_deBruijn64tab), ("internal/strconv.uint64pow10", laid_internal_strconv_uint64pow10), ("strconv.ErrRange", laid_strconv_ErrRange), ("strconv.ErrSyntax", laid_strconv_ErrSyntax)], narrowed := true }
def FnTreInUptoSaid : Prop := fnTreInUptoRow.holds Tryd.pinned (OpenSpec.upto fnTreInSpec)

/-- 'laws.FnTreCover', WHERE WHAT IT READS IS OF BULK AT MOST 1048576: true; the input reads as it did. -/
def fnTreCoverUptoRow : OpenClaim := { program := "ytdcaipomjimplaadoor", sum := "d9051772a627e23261cf96750bb58dcec37a907f377ce5e8752bea60de0f8c56", func := "loop.example/keyward/laws.FnTreCover", spec := "fnTreCover", unfollowed := true, recurses := true, named := ["strconv.ErrSyntax", "strconv.ErrRange", "internal/strconv.uint64pow10", "math/bits.deBruijn32tab", "math/bits.deBruijn64tab"], apart := false, laid := [("math/bits.deBruijn32tab", laid_math_bits_deBruijn32tab), ("math/bits.deBruijn64tab", laid_math_bits_deBruijn64tab), ("internal/strconv.uint64pow10", laid_internal_strconv_uint64pow10), ("strconv.ErrRange", laid_strconv_ErrRange), ("strconv.ErrSyntax", laid_strconv_ErrSyntax)], narrowed := true }
def FnTreCoverUptoSaid : Prop := fnTreCoverUptoRow.holds Tryd.pinned (OpenSpec.upto fnTreCoverSpec)

end Rows
end Go.Proofs.YtdcaipomjimplaaDoor
