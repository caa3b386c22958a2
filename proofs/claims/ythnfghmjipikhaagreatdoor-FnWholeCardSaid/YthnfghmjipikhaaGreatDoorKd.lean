/- Short names of kinds and types of data. -/
import Derived.Test.YthnfghmjipikhaaGreatDoorEvD
set_option linter.unusedVariables false
set_option maxRecDepth 100000
namespace Go.Proofs.YthnfghmjipikhaaGreatDoor.Ev
abbrev X0:=ByteArray
abbrev F5:Type:=Int×List (ByteArray×ByteArray)
abbrev A5D:Type:=Int×ByteArray×Int
abbrev T7:Type:=Int×Bool×List Int
abbrev A1U:Type:=Int×List Int×(Int×Bool×List Int)×(Int×List (ByteArray×ByteArray))×(Int×List (ByteArray×ByteArray))×(List (Int×Int×(Int×ByteArray×Int)×List Int))×Int×Int
abbrev A08:Type:=Int×Int
abbrev A7t:Type:=Int×(Int×ByteArray×Int)×List Int×Int
abbrev E5:Type:=Int×Int×Int×List Int
abbrev A3g:Type:=Int×Int×(Int×ByteArray×Int)×List Int
abbrev I7:Type:=(Int×List Int×(Int×Bool×List Int)×(Int×List (ByteArray×ByteArray))×(Int×List (ByteArray×ByteArray))×(List (Int×Int×(Int×ByteArray×Int)×List Int))×Int×Int)×(List (Int×(Int×ByteArray×Int)×List Int×Int))×List Int
abbrev I6:Type:=List Int×Int×Int×(Int×List (ByteArray×ByteArray))×List (ByteArray×ByteArray)
abbrev B9:Type:=ByteArray×ByteArray
abbrev P4:Type:=List Int×Int×Int
abbrev E3j:Type:=(Int×List (ByteArray×ByteArray))×Int×List Int×Int×List (ByteArray×ByteArray)
abbrev A5H:K:=(.pair (.int .i64) (.sl 150 (.pair .str .str)))
abbrev B0O:K:=(.pair (.int .i64) (.pair .str (.int .i64)))
abbrev C4V:K:=(.pair (.int .i64) (.pair .bool (.sl 5 (.int .u8))))
abbrev C5a:K:=(.pair (.int .i64) (.pair (.sl 5 (.int .u8)) (.pair (.pair (.int .i64) (.pair .bool (.sl 5 (.int .u8)))) (.pair (.pair (.int .i64) (.sl 150 (.pair .str .str))) (.pair (.pair (.int .i64) (.sl 150 (.pair .str .str))) (.pair (.sl 113 (.pair (.int .i64) (.pair (.int .i64) (.pair (.pair (.int .i64) (.pair .str (.int .i64))) (.sl 5 (.int .u8)))))) (.pair (.int .i64) (.int .i64))))))))
abbrev L3:K:=(.pair (.int .i64) (.int .i64))
abbrev B0P:K:=(.pair (.int .i64) (.pair (.pair (.int .i64) (.pair .str (.int .i64))) (.pair (.sl 5 (.int .u8)) (.int .i64))))
abbrev W7:K:=(.pair (.int .i64) (.pair (.int .i64) (.pair (.int .i64) (.sl 5 (.int .u8)))))
abbrev O8:K:=(.pair (.int .i64) (.pair (.int .i64) (.pair (.pair (.int .i64) (.pair .str (.int .i64))) (.sl 5 (.int .u8)))))
abbrev A3j:K:=(.pair (.pair (.int .i64) (.pair (.sl 5 (.int .u8)) (.pair (.pair (.int .i64) (.pair .bool (.sl 5 (.int .u8)))) (.pair (.pair (.int .i64) (.sl 150 (.pair .str .str))) (.pair (.pair (.int .i64) (.sl 150 (.pair .str .str))) (.pair (.sl 113 (.pair (.int .i64) (.pair (.int .i64) (.pair (.pair (.int .i64) (.pair .str (.int .i64))) (.sl 5 (.int .u8)))))) (.pair (.int .i64) (.int .i64)))))))) (.pair (.sl 75 (.pair (.int .i64) (.pair (.pair (.int .i64) (.pair .str (.int .i64))) (.pair (.sl 5 (.int .u8)) (.int .i64))))) (.sl 5 (.int .u8))))
abbrev C1N:K:=(.pair (.sl 5 (.int .u8)) (.pair (.int .i64) (.pair (.int .i64) (.pair (.pair (.int .i64) (.sl 150 (.pair .str .str))) (.sl 150 (.pair .str .str))))))
abbrev C8:K:=(.pair .str .str)
abbrev D9c:K:=(.pair (.sl 5 (.int .u8)) (.pair (.int .i64) (.int .i64)))
abbrev E3k:K:=(.pair (.pair (.int .i64) (.sl 150 (.pair .str .str))) (.pair (.int .i64) (.pair (.sl 5 (.int .u8)) (.pair (.int .i64) (.sl 150 (.pair .str .str))))))
abbrev E4g:K:=(.pair (.int .i64) (.sl 161 (.pair .str .str)))
abbrev E4k:K:=(.pair (.int .i64) (.pair (.sl 5 (.int .u8)) (.pair (.pair (.int .i64) (.pair .bool (.sl 5 (.int .u8)))) (.pair (.pair (.int .i64) (.sl 161 (.pair .str .str))) (.pair (.pair (.int .i64) (.sl 161 (.pair .str .str))) (.pair (.sl 180 (.pair (.int .i64) (.pair (.int .i64) (.pair (.pair (.int .i64) (.pair .str (.int .i64))) (.sl 5 (.int .u8)))))) (.pair (.int .i64) (.int .i64))))))))
end Go.Proofs.YthnfghmjipikhaaGreatDoor.Ev
