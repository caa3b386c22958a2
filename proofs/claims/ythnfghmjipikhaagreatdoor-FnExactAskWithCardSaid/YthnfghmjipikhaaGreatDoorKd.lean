/- Short names of kinds and types of data. -/
import Derived.Test.YthnfghmjipikhaaGreatDoorEvD
set_option linter.unusedVariables false
set_option maxRecDepth 100000
namespace Go.Proofs.YthnfghmjipikhaaGreatDoor.Ev
abbrev X0:=ByteArray
abbrev E0:Type:=Int×List (ByteArray×ByteArray)
abbrev A3L:Type:=Int×ByteArray×Int
abbrev D1U:Type:=Int×Bool×List Int
abbrev D1t:Type:=Int×List Int×(Int×Bool×List Int)×(Int×List (ByteArray×ByteArray))×(Int×List (ByteArray×ByteArray))×(List (Int×Int×(Int×ByteArray×Int)×List Int))×Int×Int
abbrev A2A:Type:=Int×Int
abbrev D1u:Type:=Int×(Int×ByteArray×Int)×List Int×Int
abbrev H0:Type:=Int×Int×Int×List Int
abbrev D20:Type:=Int×Int×(Int×ByteArray×Int)×List Int
abbrev D1V:Type:=(Int×List Int×(Int×Bool×List Int)×(Int×List (ByteArray×ByteArray))×(Int×List (ByteArray×ByteArray))×(List (Int×Int×(Int×ByteArray×Int)×List Int))×Int×Int)×(List (Int×(Int×ByteArray×Int)×List Int×Int))×List Int
abbrev C9T:Type:=List Int×Int×Int×(Int×List (ByteArray×ByteArray))×List (ByteArray×ByteArray)
abbrev B8:Type:=ByteArray×ByteArray
abbrev D1f:Type:=List Int×Int×Int
abbrev D12:Type:=(Int×List (ByteArray×ByteArray))×Int×List Int×Int×List (ByteArray×ByteArray)
abbrev A3R:K:=(.pair (.int .i64) (.sl 150 (.pair .str .str)))
abbrev A9g:K:=(.pair (.int .i64) (.pair .str (.int .i64)))
abbrev D1W:K:=(.pair (.int .i64) (.pair .bool (.sl 5 (.int .u8))))
abbrev D1v:K:=(.pair (.int .i64) (.pair (.sl 5 (.int .u8)) (.pair (.pair (.int .i64) (.pair .bool (.sl 5 (.int .u8)))) (.pair (.pair (.int .i64) (.sl 150 (.pair .str .str))) (.pair (.pair (.int .i64) (.sl 150 (.pair .str .str))) (.pair (.sl 113 (.pair (.int .i64) (.pair (.int .i64) (.pair (.pair (.int .i64) (.pair .str (.int .i64))) (.sl 5 (.int .u8)))))) (.pair (.int .i64) (.int .i64))))))))
abbrev A16:K:=(.pair (.int .i64) (.int .i64))
abbrev D1w:K:=(.pair (.int .i64) (.pair (.pair (.int .i64) (.pair .str (.int .i64))) (.pair (.sl 5 (.int .u8)) (.int .i64))))
abbrev M8:K:=(.pair (.int .i64) (.pair (.int .i64) (.pair (.int .i64) (.sl 5 (.int .u8)))))
abbrev D21:K:=(.pair (.int .i64) (.pair (.int .i64) (.pair (.pair (.int .i64) (.pair .str (.int .i64))) (.sl 5 (.int .u8)))))
abbrev D1a:K:=(.pair (.pair (.int .i64) (.pair (.sl 5 (.int .u8)) (.pair (.pair (.int .i64) (.pair .bool (.sl 5 (.int .u8)))) (.pair (.pair (.int .i64) (.sl 150 (.pair .str .str))) (.pair (.pair (.int .i64) (.sl 150 (.pair .str .str))) (.pair (.sl 113 (.pair (.int .i64) (.pair (.int .i64) (.pair (.pair (.int .i64) (.pair .str (.int .i64))) (.sl 5 (.int .u8)))))) (.pair (.int .i64) (.int .i64)))))))) (.pair (.sl 75 (.pair (.int .i64) (.pair (.pair (.int .i64) (.pair .str (.int .i64))) (.pair (.sl 5 (.int .u8)) (.int .i64))))) (.sl 5 (.int .u8))))
abbrev C9U:K:=(.pair (.sl 5 (.int .u8)) (.pair (.int .i64) (.pair (.int .i64) (.pair (.pair (.int .i64) (.sl 150 (.pair .str .str))) (.sl 150 (.pair .str .str))))))
abbrev C1:K:=(.pair .str .str)
abbrev D1g:K:=(.pair (.sl 5 (.int .u8)) (.pair (.int .i64) (.int .i64)))
abbrev D13:K:=(.pair (.pair (.int .i64) (.sl 150 (.pair .str .str))) (.pair (.int .i64) (.pair (.sl 5 (.int .u8)) (.pair (.int .i64) (.sl 150 (.pair .str .str))))))
abbrev B2D:K:=(.pair (.int .i64) (.sl 161 (.pair .str .str)))
abbrev D1h:K:=(.pair (.int .i64) (.pair (.sl 5 (.int .u8)) (.pair (.pair (.int .i64) (.pair .bool (.sl 5 (.int .u8)))) (.pair (.pair (.int .i64) (.sl 161 (.pair .str .str))) (.pair (.pair (.int .i64) (.sl 161 (.pair .str .str))) (.pair (.sl 180 (.pair (.int .i64) (.pair (.int .i64) (.pair (.pair (.int .i64) (.pair .str (.int .i64))) (.sl 5 (.int .u8)))))) (.pair (.int .i64) (.int .i64))))))))
end Go.Proofs.YthnfghmjipikhaaGreatDoor.Ev
