/- Short names of kinds and types of data. -/
import Derived.Test.YthnfghmjipikhaaGreatDoorEvC
set_option linter.unusedVariables false
set_option maxRecDepth 100000
namespace Go.Proofs.YthnfghmjipikhaaGreatDoor.Ev
abbrev TTable : Type := Int × List (ByteArray × ByteArray)
abbrev TReq : Type := Int × ByteArray × Int
abbrev TGather : Type := Int × Bool × List Int
abbrev TConn : Type := Int × List Int × (Int × Bool × List Int) × (Int × List (ByteArray × ByteArray)) × (Int × List (ByteArray × ByteArray)) × (List (Int × Int × (Int × ByteArray × Int) × List Int)) × Int × Int
abbrev TResp : Type := Int × Int
abbrev TCall : Type := Int × (Int × ByteArray × Int) × List Int × Int
abbrev TFrame : Type := Int × Int × Int × List Int
abbrev TStr : Type := Int × Int × (Int × ByteArray × Int) × List Int
abbrev THearer : Type := (Int × List Int × (Int × Bool × List Int) × (Int × List (ByteArray × ByteArray)) × (Int × List (ByteArray × ByteArray)) × (List (Int × Int × (Int × ByteArray × Int) × List Int)) × Int × Int) × (List (Int × (Int × ByteArray × Int) × List Int × Int)) × List Int
abbrev TBlockReader : Type := List Int × Int × Int × (Int × List (ByteArray × ByteArray)) × List (ByteArray × ByteArray)
abbrev TField : Type := ByteArray × ByteArray
abbrev TL1Cur : Type := List Int × Int × Int
abbrev TL5Reader : Type := (Int × List (ByteArray × ByteArray)) × Int × List Int × Int × List (ByteArray × ByteArray)
abbrev kTable : K := (.pair (.int .i64) (.sl 150 (.pair .str .str)))
abbrev kReq : K := (.pair (.int .i64) (.pair .str (.int .i64)))
abbrev kGather : K := (.pair (.int .i64) (.pair .bool (.sl 5 (.int .u8))))
abbrev kConn : K := (.pair (.int .i64) (.pair (.sl 5 (.int .u8)) (.pair (.pair (.int .i64) (.pair .bool (.sl 5 (.int .u8)))) (.pair (.pair (.int .i64) (.sl 150 (.pair .str .str))) (.pair (.pair (.int .i64) (.sl 150 (.pair .str .str))) (.pair (.sl 113 (.pair (.int .i64) (.pair (.int .i64) (.pair (.pair (.int .i64) (.pair .str (.int .i64))) (.sl 5 (.int .u8)))))) (.pair (.int .i64) (.int .i64))))))))
abbrev kResp : K := (.pair (.int .i64) (.int .i64))
abbrev kCall : K := (.pair (.int .i64) (.pair (.pair (.int .i64) (.pair .str (.int .i64))) (.pair (.sl 5 (.int .u8)) (.int .i64))))
abbrev kFrame : K := (.pair (.int .i64) (.pair (.int .i64) (.pair (.int .i64) (.sl 5 (.int .u8)))))
abbrev kStr : K := (.pair (.int .i64) (.pair (.int .i64) (.pair (.pair (.int .i64) (.pair .str (.int .i64))) (.sl 5 (.int .u8)))))
abbrev kHearer : K := (.pair (.pair (.int .i64) (.pair (.sl 5 (.int .u8)) (.pair (.pair (.int .i64) (.pair .bool (.sl 5 (.int .u8)))) (.pair (.pair (.int .i64) (.sl 150 (.pair .str .str))) (.pair (.pair (.int .i64) (.sl 150 (.pair .str .str))) (.pair (.sl 113 (.pair (.int .i64) (.pair (.int .i64) (.pair (.pair (.int .i64) (.pair .str (.int .i64))) (.sl 5 (.int .u8)))))) (.pair (.int .i64) (.int .i64)))))))) (.pair (.sl 75 (.pair (.int .i64) (.pair (.pair (.int .i64) (.pair .str (.int .i64))) (.pair (.sl 5 (.int .u8)) (.int .i64))))) (.sl 5 (.int .u8))))
abbrev kBlockReader : K := (.pair (.sl 5 (.int .u8)) (.pair (.int .i64) (.pair (.int .i64) (.pair (.pair (.int .i64) (.sl 150 (.pair .str .str))) (.sl 150 (.pair .str .str))))))
abbrev kField : K := (.pair .str .str)
abbrev kL1Cur : K := (.pair (.sl 5 (.int .u8)) (.pair (.int .i64) (.int .i64)))
abbrev kL5Reader : K := (.pair (.pair (.int .i64) (.sl 150 (.pair .str .str))) (.pair (.int .i64) (.pair (.sl 5 (.int .u8)) (.pair (.int .i64) (.sl 150 (.pair .str .str))))))
abbrev kTablex : K := (.pair (.int .i64) (.sl 161 (.pair .str .str)))
abbrev kConnx : K := (.pair (.int .i64) (.pair (.sl 5 (.int .u8)) (.pair (.pair (.int .i64) (.pair .bool (.sl 5 (.int .u8)))) (.pair (.pair (.int .i64) (.sl 161 (.pair .str .str))) (.pair (.pair (.int .i64) (.sl 161 (.pair .str .str))) (.pair (.sl 180 (.pair (.int .i64) (.pair (.int .i64) (.pair (.pair (.int .i64) (.pair .str (.int .i64))) (.sl 5 (.int .u8)))))) (.pair (.int .i64) (.int .i64))))))))
end Go.Proofs.YthnfghmjipikhaaGreatDoor.Ev
