/- Short names of kinds and types of data. -/
import Derived.Test.YtehbegmomfcmhaaGreatEvC
set_option linter.unusedVariables false
set_option maxRecDepth 100000
namespace Go.Proofs.YtehbegmomfcmhaaGreat.Ev
abbrev TDisk : Type := List ByteArray × List ByteArray
abbrev TStore : Type := (List ByteArray × List ByteArray) × Int × Int × List (ByteArray × Int × List Int × Bool)
abbrev TServer : Type := ((List ByteArray × List ByteArray) × Int × Int × List (ByteArray × Int × List Int × Bool)) × List (Int × Int × Int)
abbrev TWorld : Type := (((List ByteArray × List ByteArray) × Int × Int × List (ByteArray × Int × List Int × Bool)) × List (Int × Int × Int)) × (List (ByteArray × List Int × Int × Int)) × List Bool × (List (Int × (Int × ByteArray × Int) × List Int)) × (List (Int × Int × Int)) × List Int
abbrev TResp : Type := Int × Int
abbrev THeld : Type := Int × Int × Int
abbrev TUp : Type := ByteArray × Int × List Int × Bool
abbrev TReq : Type := Int × ByteArray × Int
abbrev TWant : Type := Int × (Int × ByteArray × Int) × List Int
abbrev TRec : Type := Int × Int × Int × ByteArray × Int × List Int
abbrev TClient : Type := ByteArray × List Int × Int × Int
abbrev TByteReader : Type := List Int × Int × Bool
abbrev TL1Cur : Type := List Int × Int × Int
abbrev kDisk : K := (.pair (.sl 9 .str) (.sl 9 .str))
abbrev kStore : K := (.pair (.pair (.sl 9 .str) (.sl 9 .str)) (.pair (.int .i64) (.pair (.int .i64) (.sl 89 (.pair .str (.pair (.int .i64) (.pair (.sl 5 (.int .u8)) .bool)))))))
abbrev kServer : K := (.pair (.pair (.pair (.sl 9 .str) (.sl 9 .str)) (.pair (.int .i64) (.pair (.int .i64) (.sl 89 (.pair .str (.pair (.int .i64) (.pair (.sl 5 (.int .u8)) .bool))))))) (.sl 85 (.pair (.int .i64) (.pair (.int .i64) (.int .i64)))))
abbrev kWorld : K := (.pair (.pair (.pair (.pair (.sl 9 .str) (.sl 9 .str)) (.pair (.int .i64) (.pair (.int .i64) (.sl 89 (.pair .str (.pair (.int .i64) (.pair (.sl 5 (.int .u8)) .bool))))))) (.sl 85 (.pair (.int .i64) (.pair (.int .i64) (.int .i64))))) (.pair (.sl 162 (.pair .str (.pair (.sl 5 (.int .u8)) (.pair (.int .i64) (.int .i64))))) (.pair (.sl 4 .bool) (.pair (.sl 110 (.pair (.int .i64) (.pair (.pair (.int .i64) (.pair .str (.int .i64))) (.sl 5 (.int .u8))))) (.pair (.sl 85 (.pair (.int .i64) (.pair (.int .i64) (.int .i64)))) (.sl 3 (.int .i64)))))))
abbrev kResp : K := (.pair (.int .i64) (.int .i64))
abbrev kHeld : K := (.pair (.int .i64) (.pair (.int .i64) (.int .i64)))
abbrev kUp : K := (.pair .str (.pair (.int .i64) (.pair (.sl 5 (.int .u8)) .bool)))
abbrev kReq : K := (.pair (.int .i64) (.pair .str (.int .i64)))
abbrev kWant : K := (.pair (.int .i64) (.pair (.pair (.int .i64) (.pair .str (.int .i64))) (.sl 5 (.int .u8))))
abbrev kRec : K := (.pair (.int .i64) (.pair (.int .i64) (.pair (.int .i64) (.pair .str (.pair (.int .i64) (.sl 5 (.int .u8)))))))
abbrev kClient : K := (.pair .str (.pair (.sl 5 (.int .u8)) (.pair (.int .i64) (.int .i64))))
abbrev kByteReader : K := (.pair (.sl 5 (.int .u8)) (.pair (.int .i64) .bool))
abbrev kL1Cur : K := (.pair (.sl 5 (.int .u8)) (.pair (.int .i64) (.int .i64)))
abbrev kStorex : K := (.pair (.pair (.sl 9 .str) (.sl 9 .str)) (.pair (.int .i64) (.pair (.int .i64) (.sl 188 (.pair .str (.pair (.int .i64) (.pair (.sl 5 (.int .u8)) .bool)))))))
abbrev kServerx : K := (.pair (.pair (.pair (.sl 9 .str) (.sl 9 .str)) (.pair (.int .i64) (.pair (.int .i64) (.sl 188 (.pair .str (.pair (.int .i64) (.pair (.sl 5 (.int .u8)) .bool))))))) (.sl 148 (.pair (.int .i64) (.pair (.int .i64) (.int .i64)))))
abbrev kWorldx : K := (.pair (.pair (.pair (.pair (.sl 9 .str) (.sl 9 .str)) (.pair (.int .i64) (.pair (.int .i64) (.sl 188 (.pair .str (.pair (.int .i64) (.pair (.sl 5 (.int .u8)) .bool))))))) (.sl 148 (.pair (.int .i64) (.pair (.int .i64) (.int .i64))))) (.pair (.sl 156 (.pair .str (.pair (.sl 5 (.int .u8)) (.pair (.int .i64) (.int .i64))))) (.pair (.sl 4 .bool) (.pair (.sl 160 (.pair (.int .i64) (.pair (.pair (.int .i64) (.pair .str (.int .i64))) (.sl 5 (.int .u8))))) (.pair (.sl 148 (.pair (.int .i64) (.pair (.int .i64) (.int .i64)))) (.sl 3 (.int .i64)))))))
end Go.Proofs.YtehbegmomfcmhaaGreat.Ev
