/- CertifyRoot is proved, part 26. -/
import Derived.Test.YtleifmkjbmhlpaaGreatDoorX25
set_option linter.unusedVariables false
set_option linter.unusedSimpArgs false
set_option linter.unusedSectionVars false
section
set_option maxRecDepth 1000000
namespace Go.Sx
open Go
def opsRow (j : Nat) : List AV := match j with | 0 => [.str [], .nilFn] | 1 => [.str [61], .fn 313 [] []] | 2 => [.str [33, 61], .fn 314 [] []] | 3 => [.str [60], .fn 315 [] []] | _ => [.str [62, 61], .fn 316 [] []]
def aggEs : List (AV × AV) := (.any, .any) :: [(.int .i64 1, .agg [.fn 317 [] []]), (.int .i64 2, .agg [.fn 319 [] []]), (.int .i64 3, .agg [.fn 321 [] []]), (.int .i64 4, .agg [.fn 323 [] []]), (.int .i64 5, .agg [.fn 324 [] []])]
noncomputable def Hs : AH := { n := 14, t := Tr.ofList [(0, .cells [.fslice 5 2 opsRow] .ro), (1, .cells [.str [48], .str [49]] .ro), (2, .cells constAVs .ro), (3, .cells [.map (some 13)] .ro), (13, .map aggEs)] }
noncomputable abbrev ks9 : List (Known PP II) := [kWithin, kHalf, kCompare, kOr, kValid, kByPlace, kSorted, kValids, kNoEscape, kInts, kSum, kLeaf, kDig42, kJoin, kGrow, kRoot41, kRoot16, kOf13]
end Go.Sx
end
