/- Short names of kinds and types of data. -/
import Derived.Test.YthnfghmjipikhaaGreatDoorEvD
set_option linter.unusedVariables false
set_option maxRecDepth 100000
namespace Go.Proofs.YthnfghmjipikhaaGreatDoor.Ev
abbrev X0:=ByteArray
abbrev E3:Type:=Int×List (ByteArray×ByteArray)
abbrev B5o:Type:=Int×ByteArray×Int
abbrev S1:Type:=Int×Bool×List Int
abbrev A1S:Type:=Int×List Int×(Int×Bool×List Int)×(Int×List (ByteArray×ByteArray))×(Int×List (ByteArray×ByteArray))×(List (Int×Int×(Int×ByteArray×Int)×List Int))×Int×Int
abbrev A62:Type:=Int×Int
abbrev A0m:Type:=Int×(Int×ByteArray×Int)×List Int×Int
abbrev F3:Type:=Int×Int×Int×List Int
abbrev A2n:Type:=Int×Int×(Int×ByteArray×Int)×List Int
abbrev I4:Type:=(Int×List Int×(Int×Bool×List Int)×(Int×List (ByteArray×ByteArray))×(Int×List (ByteArray×ByteArray))×(List (Int×Int×(Int×ByteArray×Int)×List Int))×Int×Int)×(List (Int×(Int×ByteArray×Int)×List Int×Int))×List Int
abbrev I2:Type:=List Int×Int×Int×(Int×List (ByteArray×ByteArray))×List (ByteArray×ByteArray)
abbrev C2:Type:=ByteArray×ByteArray
abbrev K5:Type:=List Int×Int×Int
abbrev E3U:Type:=(Int×List (ByteArray×ByteArray))×Int×List Int×Int×List (ByteArray×ByteArray)
abbrev A6w:K:=(.pair (.int .i64) (.sl 150 (.pair .str .str)))
abbrev C7n:K:=(.pair (.int .i64) (.pair .str (.int .i64)))
abbrev C5C:K:=(.pair (.int .i64) (.pair .bool (.sl 5 (.int .u8))))
abbrev C94:K:=(.pair (.int .i64) (.pair (.sl 5 (.int .u8)) (.pair (.pair (.int .i64) (.pair .bool (.sl 5 (.int .u8)))) (.pair (.pair (.int .i64) (.sl 150 (.pair .str .str))) (.pair (.pair (.int .i64) (.sl 150 (.pair .str .str))) (.pair (.sl 113 (.pair (.int .i64) (.pair (.int .i64) (.pair (.pair (.int .i64) (.pair .str (.int .i64))) (.sl 5 (.int .u8)))))) (.pair (.int .i64) (.int .i64))))))))
abbrev Q0:K:=(.pair (.int .i64) (.int .i64))
abbrev A3P:K:=(.pair (.int .i64) (.pair (.pair (.int .i64) (.pair .str (.int .i64))) (.pair (.sl 5 (.int .u8)) (.int .i64))))
abbrev B0u:K:=(.pair (.int .i64) (.pair (.int .i64) (.pair (.int .i64) (.sl 5 (.int .u8)))))
abbrev N8:K:=(.pair (.int .i64) (.pair (.int .i64) (.pair (.pair (.int .i64) (.pair .str (.int .i64))) (.sl 5 (.int .u8)))))
abbrev A31:K:=(.pair (.pair (.int .i64) (.pair (.sl 5 (.int .u8)) (.pair (.pair (.int .i64) (.pair .bool (.sl 5 (.int .u8)))) (.pair (.pair (.int .i64) (.sl 150 (.pair .str .str))) (.pair (.pair (.int .i64) (.sl 150 (.pair .str .str))) (.pair (.sl 113 (.pair (.int .i64) (.pair (.int .i64) (.pair (.pair (.int .i64) (.pair .str (.int .i64))) (.sl 5 (.int .u8)))))) (.pair (.int .i64) (.int .i64)))))))) (.pair (.sl 75 (.pair (.int .i64) (.pair (.pair (.int .i64) (.pair .str (.int .i64))) (.pair (.sl 5 (.int .u8)) (.int .i64))))) (.sl 5 (.int .u8))))
abbrev C1a:K:=(.pair (.sl 5 (.int .u8)) (.pair (.int .i64) (.pair (.int .i64) (.pair (.pair (.int .i64) (.sl 150 (.pair .str .str))) (.sl 150 (.pair .str .str))))))
abbrev D9:K:=(.pair .str .str)
abbrev D9l:K:=(.pair (.sl 5 (.int .u8)) (.pair (.int .i64) (.int .i64)))
abbrev E3V:K:=(.pair (.pair (.int .i64) (.sl 150 (.pair .str .str))) (.pair (.int .i64) (.pair (.sl 5 (.int .u8)) (.pair (.int .i64) (.sl 150 (.pair .str .str))))))
abbrev E4H:K:=(.pair (.int .i64) (.sl 161 (.pair .str .str)))
abbrev E4L:K:=(.pair (.int .i64) (.pair (.sl 5 (.int .u8)) (.pair (.pair (.int .i64) (.pair .bool (.sl 5 (.int .u8)))) (.pair (.pair (.int .i64) (.sl 161 (.pair .str .str))) (.pair (.pair (.int .i64) (.sl 161 (.pair .str .str))) (.pair (.sl 180 (.pair (.int .i64) (.pair (.int .i64) (.pair (.pair (.int .i64) (.pair .str (.int .i64))) (.sl 5 (.int .u8)))))) (.pair (.int .i64) (.int .i64))))))))
end Go.Proofs.YthnfghmjipikhaaGreatDoor.Ev
