/- Short names of kinds and types of data. -/
import Derived.Test.YthnfghmjipikhaaGreatDoorEvD
set_option linter.unusedVariables false
set_option maxRecDepth 100000
namespace Go.Proofs.YthnfghmjipikhaaGreatDoor.Ev
abbrev X0:=ByteArray
abbrev B4:Type:=Int×List (ByteArray×ByteArray)
abbrev A1m:Type:=Int×ByteArray×Int
abbrev I6:Type:=Int×Bool×List Int
abbrev Q4:Type:=Int×List Int×(Int×Bool×List Int)×(Int×List (ByteArray×ByteArray))×(Int×List (ByteArray×ByteArray))×(List (Int×Int×(Int×ByteArray×Int)×List Int))×Int×Int
abbrev L1:Type:=Int×Int
abbrev A4R:Type:=Int×(Int×ByteArray×Int)×List Int×Int
abbrev B0:Type:=Int×Int×Int×List Int
abbrev A0P:Type:=Int×Int×(Int×ByteArray×Int)×List Int
abbrev C8:Type:=(Int×List Int×(Int×Bool×List Int)×(Int×List (ByteArray×ByteArray))×(Int×List (ByteArray×ByteArray))×(List (Int×Int×(Int×ByteArray×Int)×List Int))×Int×Int)×(List (Int×(Int×ByteArray×Int)×List Int×Int))×List Int
abbrev C7:Type:=List Int×Int×Int×(Int×List (ByteArray×ByteArray))×List (ByteArray×ByteArray)
abbrev A5:Type:=ByteArray×ByteArray
abbrev F9:Type:=List Int×Int×Int
abbrev E3h:Type:=(Int×List (ByteArray×ByteArray))×Int×List Int×Int×List (ByteArray×ByteArray)
abbrev A1q:K:=(.pair (.int .i64) (.sl 150 (.pair .str .str)))
abbrev A61:K:=(.pair (.int .i64) (.pair .str (.int .i64)))
abbrev C1l:K:=(.pair (.int .i64) (.pair .bool (.sl 5 (.int .u8))))
abbrev C2n:K:=(.pair (.int .i64) (.pair (.sl 5 (.int .u8)) (.pair (.pair (.int .i64) (.pair .bool (.sl 5 (.int .u8)))) (.pair (.pair (.int .i64) (.sl 150 (.pair .str .str))) (.pair (.pair (.int .i64) (.sl 150 (.pair .str .str))) (.pair (.sl 113 (.pair (.int .i64) (.pair (.int .i64) (.pair (.pair (.int .i64) (.pair .str (.int .i64))) (.sl 5 (.int .u8)))))) (.pair (.int .i64) (.int .i64))))))))
abbrev D9:K:=(.pair (.int .i64) (.int .i64))
abbrev A62:K:=(.pair (.int .i64) (.pair (.pair (.int .i64) (.pair .str (.int .i64))) (.pair (.sl 5 (.int .u8)) (.int .i64))))
abbrev K6:K:=(.pair (.int .i64) (.pair (.int .i64) (.pair (.int .i64) (.sl 5 (.int .u8)))))
abbrev F5:K:=(.pair (.int .i64) (.pair (.int .i64) (.pair (.pair (.int .i64) (.pair .str (.int .i64))) (.sl 5 (.int .u8)))))
abbrev A0S:K:=(.pair (.pair (.int .i64) (.pair (.sl 5 (.int .u8)) (.pair (.pair (.int .i64) (.pair .bool (.sl 5 (.int .u8)))) (.pair (.pair (.int .i64) (.sl 150 (.pair .str .str))) (.pair (.pair (.int .i64) (.sl 150 (.pair .str .str))) (.pair (.sl 113 (.pair (.int .i64) (.pair (.int .i64) (.pair (.pair (.int .i64) (.pair .str (.int .i64))) (.sl 5 (.int .u8)))))) (.pair (.int .i64) (.int .i64)))))))) (.pair (.sl 75 (.pair (.int .i64) (.pair (.pair (.int .i64) (.pair .str (.int .i64))) (.pair (.sl 5 (.int .u8)) (.int .i64))))) (.sl 5 (.int .u8))))
abbrev B7O:K:=(.pair (.sl 5 (.int .u8)) (.pair (.int .i64) (.pair (.int .i64) (.pair (.pair (.int .i64) (.sl 150 (.pair .str .str))) (.sl 150 (.pair .str .str))))))
abbrev A7:K:=(.pair .str .str)
abbrev D9T:K:=(.pair (.sl 5 (.int .u8)) (.pair (.int .i64) (.int .i64)))
abbrev E3i:K:=(.pair (.pair (.int .i64) (.sl 150 (.pair .str .str))) (.pair (.int .i64) (.pair (.sl 5 (.int .u8)) (.pair (.int .i64) (.sl 150 (.pair .str .str))))))
abbrev E4e:K:=(.pair (.int .i64) (.sl 161 (.pair .str .str)))
abbrev E4i:K:=(.pair (.int .i64) (.pair (.sl 5 (.int .u8)) (.pair (.pair (.int .i64) (.pair .bool (.sl 5 (.int .u8)))) (.pair (.pair (.int .i64) (.sl 161 (.pair .str .str))) (.pair (.pair (.int .i64) (.sl 161 (.pair .str .str))) (.pair (.sl 180 (.pair (.int .i64) (.pair (.int .i64) (.pair (.pair (.int .i64) (.pair .str (.int .i64))) (.sl 5 (.int .u8)))))) (.pair (.int .i64) (.int .i64))))))))
end Go.Proofs.YthnfghmjipikhaaGreatDoor.Ev
