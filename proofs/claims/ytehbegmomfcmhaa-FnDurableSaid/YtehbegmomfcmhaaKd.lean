/- Short names of kinds and types of data. -/
import Derived.Test.YtehbegmomfcmhaaEvC
set_option linter.unusedVariables false
set_option maxRecDepth 100000
namespace Go.Proofs.Ytehbegmomfcmhaa.Ev
abbrev TDisk : Type := List ByteArray × List ByteArray
abbrev TStore : Type := (List ByteArray × List ByteArray) × Int × Int × List (ByteArray × Int × List Int × Bool)
abbrev TServer : Type := ((List ByteArray × List ByteArray) × Int × Int × List (ByteArray × Int × List Int × Bool)) × List (Int × Int × Int)
abbrev TUp : Type := ByteArray × Int × List Int × Bool
abbrev TResp : Type := Int × Int
abbrev THeld : Type := Int × Int × Int
abbrev TRec : Type := Int × Int × Int × ByteArray × Int × List Int
abbrev TByteReader : Type := List Int × Int × Bool
abbrev TL1Cur : Type := List Int × Int × Int
abbrev kDisk : K := (.pair (.sl 9 .str) (.sl 9 .str))
abbrev kStore : K := (.pair (.pair (.sl 9 .str) (.sl 9 .str)) (.pair (.int .i64) (.pair (.int .i64) (.sl 56 (.pair .str (.pair (.int .i64) (.pair (.sl 5 (.int .u8)) .bool)))))))
abbrev kServer : K := (.pair (.pair (.pair (.sl 9 .str) (.sl 9 .str)) (.pair (.int .i64) (.pair (.int .i64) (.sl 56 (.pair .str (.pair (.int .i64) (.pair (.sl 5 (.int .u8)) .bool))))))) (.sl 85 (.pair (.int .i64) (.pair (.int .i64) (.int .i64)))))
abbrev kUp : K := (.pair .str (.pair (.int .i64) (.pair (.sl 5 (.int .u8)) .bool)))
abbrev kResp : K := (.pair (.int .i64) (.int .i64))
abbrev kHeld : K := (.pair (.int .i64) (.pair (.int .i64) (.int .i64)))
abbrev kRec : K := (.pair (.int .i64) (.pair (.int .i64) (.pair (.int .i64) (.pair .str (.pair (.int .i64) (.sl 5 (.int .u8)))))))
abbrev kByteReader : K := (.pair (.sl 5 (.int .u8)) (.pair (.int .i64) .bool))
abbrev kL1Cur : K := (.pair (.sl 5 (.int .u8)) (.pair (.int .i64) (.int .i64)))
abbrev kStorex : K := (.pair (.pair (.sl 9 .str) (.sl 9 .str)) (.pair (.int .i64) (.pair (.int .i64) (.sl 139 (.pair .str (.pair (.int .i64) (.pair (.sl 5 (.int .u8)) .bool)))))))
abbrev kServerx : K := (.pair (.pair (.pair (.sl 9 .str) (.sl 9 .str)) (.pair (.int .i64) (.pair (.int .i64) (.sl 139 (.pair .str (.pair (.int .i64) (.pair (.sl 5 (.int .u8)) .bool))))))) (.sl 135 (.pair (.int .i64) (.pair (.int .i64) (.int .i64)))))
end Go.Proofs.Ytehbegmomfcmhaa.Ev
