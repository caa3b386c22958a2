/- Short names of kinds and types of data. -/
import Derived.Test.YtiplpehengcinaaEvC
set_option linter.unusedVariables false
set_option maxRecDepth 100000
namespace Go.Proofs.Ytiplpehengcinaa.Ev
abbrev TReq : Type := Int × ByteArray × Int
abbrev TClient : Type := ByteArray × List Int × Int × Int
abbrev TResp : Type := Int × Int
abbrev TGather : Type := Int × Bool × List Int
abbrev TTable : Type := Int × List (ByteArray × ByteArray)
abbrev TConn : Type := Int × List Int × (Int × Bool × List Int) × (Int × List (ByteArray × ByteArray)) × (Int × List (ByteArray × ByteArray)) × (List (Int × Int × (Int × ByteArray × Int) × List Int)) × Int × Int
abbrev TDisk : Type := List ByteArray × List ByteArray
abbrev TStore : Type := (List ByteArray × List ByteArray) × Int × Int × List (ByteArray × Int × List Int × Bool)
abbrev TServer : Type := ((List ByteArray × List ByteArray) × Int × Int × List (ByteArray × Int × List Int × Bool)) × List (Int × Int × Int)
abbrev TWorld : Type := (((List ByteArray × List ByteArray) × Int × Int × List (ByteArray × Int × List Int × Bool)) × List (Int × Int × Int)) × (List (ByteArray × List Int × Int × Int)) × List Bool × (List (Int × (Int × ByteArray × Int) × List Int)) × (List (Int × Int × Int)) × List Int
abbrev TFrame : Type := Int × Int × Int × List Int
abbrev TUp : Type := ByteArray × Int × List Int × Bool
abbrev TStr : Type := Int × Int × (Int × ByteArray × Int) × List Int
abbrev THeld : Type := Int × Int × Int
abbrev TWant : Type := Int × (Int × ByteArray × Int) × List Int
abbrev TField : Type := ByteArray × ByteArray
abbrev TL1Cur : Type := List Int × Int × Int
abbrev kReq : K := (.pair (.int .i64) (.pair .str (.int .i64)))
abbrev kClient : K := (.pair .str (.pair (.sl 5 (.int .u8)) (.pair (.int .i64) (.int .i64))))
abbrev kResp : K := (.pair (.int .i64) (.int .i64))
abbrev kGather : K := (.pair (.int .i64) (.pair .bool (.sl 5 (.int .u8))))
abbrev kTable : K := (.pair (.int .i64) (.sl 215 (.pair .str .str)))
abbrev kConn : K := (.pair (.int .i64) (.pair (.sl 5 (.int .u8)) (.pair (.pair (.int .i64) (.pair .bool (.sl 5 (.int .u8)))) (.pair (.pair (.int .i64) (.sl 215 (.pair .str .str))) (.pair (.pair (.int .i64) (.sl 215 (.pair .str .str))) (.pair (.sl 173 (.pair (.int .i64) (.pair (.int .i64) (.pair (.pair (.int .i64) (.pair .str (.int .i64))) (.sl 5 (.int .u8)))))) (.pair (.int .i64) (.int .i64))))))))
abbrev kDisk : K := (.pair (.sl 9 .str) (.sl 9 .str))
abbrev kStore : K := (.pair (.pair (.sl 9 .str) (.sl 9 .str)) (.pair (.int .i64) (.pair (.int .i64) (.sl 161 (.pair .str (.pair (.int .i64) (.pair (.sl 5 (.int .u8)) .bool)))))))
abbrev kServer : K := (.pair (.pair (.pair (.sl 9 .str) (.sl 9 .str)) (.pair (.int .i64) (.pair (.int .i64) (.sl 161 (.pair .str (.pair (.int .i64) (.pair (.sl 5 (.int .u8)) .bool))))))) (.sl 186 (.pair (.int .i64) (.pair (.int .i64) (.int .i64)))))
abbrev kWorld : K := (.pair (.pair (.pair (.pair (.sl 9 .str) (.sl 9 .str)) (.pair (.int .i64) (.pair (.int .i64) (.sl 161 (.pair .str (.pair (.int .i64) (.pair (.sl 5 (.int .u8)) .bool))))))) (.sl 186 (.pair (.int .i64) (.pair (.int .i64) (.int .i64))))) (.pair (.sl 30 (.pair .str (.pair (.sl 5 (.int .u8)) (.pair (.int .i64) (.int .i64))))) (.pair (.sl 4 .bool) (.pair (.sl 205 (.pair (.int .i64) (.pair (.pair (.int .i64) (.pair .str (.int .i64))) (.sl 5 (.int .u8))))) (.pair (.sl 186 (.pair (.int .i64) (.pair (.int .i64) (.int .i64)))) (.sl 3 (.int .i64)))))))
abbrev kFrame : K := (.pair (.int .i64) (.pair (.int .i64) (.pair (.int .i64) (.sl 5 (.int .u8)))))
abbrev kUp : K := (.pair .str (.pair (.int .i64) (.pair (.sl 5 (.int .u8)) .bool)))
abbrev kStr : K := (.pair (.int .i64) (.pair (.int .i64) (.pair (.pair (.int .i64) (.pair .str (.int .i64))) (.sl 5 (.int .u8)))))
abbrev kHeld : K := (.pair (.int .i64) (.pair (.int .i64) (.int .i64)))
abbrev kWant : K := (.pair (.int .i64) (.pair (.pair (.int .i64) (.pair .str (.int .i64))) (.sl 5 (.int .u8))))
abbrev kField : K := (.pair .str .str)
abbrev kL1Cur : K := (.pair (.sl 5 (.int .u8)) (.pair (.int .i64) (.int .i64)))
abbrev kTablex : K := (.pair (.int .i64) (.sl 224 (.pair .str .str)))
abbrev kConnx : K := (.pair (.int .i64) (.pair (.sl 5 (.int .u8)) (.pair (.pair (.int .i64) (.pair .bool (.sl 5 (.int .u8)))) (.pair (.pair (.int .i64) (.sl 224 (.pair .str .str))) (.pair (.pair (.int .i64) (.sl 224 (.pair .str .str))) (.pair (.sl 193 (.pair (.int .i64) (.pair (.int .i64) (.pair (.pair (.int .i64) (.pair .str (.int .i64))) (.sl 5 (.int .u8)))))) (.pair (.int .i64) (.int .i64))))))))
abbrev kStorex : K := (.pair (.pair (.sl 9 .str) (.sl 9 .str)) (.pair (.int .i64) (.pair (.int .i64) (.sl 234 (.pair .str (.pair (.int .i64) (.pair (.sl 5 (.int .u8)) .bool)))))))
abbrev kServerx : K := (.pair (.pair (.pair (.sl 9 .str) (.sl 9 .str)) (.pair (.int .i64) (.pair (.int .i64) (.sl 234 (.pair .str (.pair (.int .i64) (.pair (.sl 5 (.int .u8)) .bool))))))) (.sl 209 (.pair (.int .i64) (.pair (.int .i64) (.int .i64)))))
abbrev kWorldx : K := (.pair (.pair (.pair (.pair (.sl 9 .str) (.sl 9 .str)) (.pair (.int .i64) (.pair (.int .i64) (.sl 234 (.pair .str (.pair (.int .i64) (.pair (.sl 5 (.int .u8)) .bool))))))) (.sl 209 (.pair (.int .i64) (.pair (.int .i64) (.int .i64))))) (.pair (.sl 24 (.pair .str (.pair (.sl 5 (.int .u8)) (.pair (.int .i64) (.int .i64))))) (.pair (.sl 4 .bool) (.pair (.sl 202 (.pair (.int .i64) (.pair (.pair (.int .i64) (.pair .str (.int .i64))) (.sl 5 (.int .u8))))) (.pair (.sl 209 (.pair (.int .i64) (.pair (.int .i64) (.int .i64)))) (.sl 3 (.int .i64)))))))
end Go.Proofs.Ytiplpehengcinaa.Ev
