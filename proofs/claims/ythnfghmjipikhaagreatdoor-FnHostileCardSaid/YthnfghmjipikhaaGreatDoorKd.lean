/- Short names of kinds and types of data. -/
import Derived.Test.YthnfghmjipikhaaGreatDoorEvD
set_option linter.unusedVariables false
set_option maxRecDepth 100000
namespace Go.Proofs.YthnfghmjipikhaaGreatDoor.Ev
abbrev X0:=ByteArray
abbrev D3:Type:=Int×List (ByteArray×ByteArray)
abbrev B8h:Type:=Int×ByteArray×Int
abbrev L3:Type:=Int×Bool×List Int
abbrev M7:Type:=Int×List Int×(Int×Bool×List Int)×(Int×List (ByteArray×ByteArray))×(Int×List (ByteArray×ByteArray))×(List (Int×Int×(Int×ByteArray×Int)×List Int))×Int×Int
abbrev A8u:Type:=Int×Int
abbrev A0j:Type:=Int×(Int×ByteArray×Int)×List Int×Int
abbrev E2:Type:=Int×Int×Int×List Int
abbrev A16:Type:=Int×Int×(Int×ByteArray×Int)×List Int
abbrev E8:Type:=(Int×List Int×(Int×Bool×List Int)×(Int×List (ByteArray×ByteArray))×(Int×List (ByteArray×ByteArray))×(List (Int×Int×(Int×ByteArray×Int)×List Int))×Int×Int)×(List (Int×(Int×ByteArray×Int)×List Int×Int))×List Int
abbrev J7:Type:=List Int×Int×Int×(Int×List (ByteArray×ByteArray))×List (ByteArray×ByteArray)
abbrev B2:Type:=ByteArray×ByteArray
abbrev I4:Type:=List Int×Int×Int
abbrev B0L:Type:=(Int×List (ByteArray×ByteArray))×Int×List Int×Int×List (ByteArray×ByteArray)
abbrev T0:K:=(.pair (.int .i64) (.sl 150 (.pair .str .str)))
abbrev D3m:K:=(.pair (.int .i64) (.pair .str (.int .i64)))
abbrev A1j:K:=(.pair (.int .i64) (.pair .bool (.sl 5 (.int .u8))))
abbrev D3n:K:=(.pair (.int .i64) (.pair (.sl 5 (.int .u8)) (.pair (.pair (.int .i64) (.pair .bool (.sl 5 (.int .u8)))) (.pair (.pair (.int .i64) (.sl 150 (.pair .str .str))) (.pair (.pair (.int .i64) (.sl 150 (.pair .str .str))) (.pair (.sl 113 (.pair (.int .i64) (.pair (.int .i64) (.pair (.pair (.int .i64) (.pair .str (.int .i64))) (.sl 5 (.int .u8)))))) (.pair (.int .i64) (.int .i64))))))))
abbrev L2:K:=(.pair (.int .i64) (.int .i64))
abbrev A0q:K:=(.pair (.int .i64) (.pair (.pair (.int .i64) (.pair .str (.int .i64))) (.pair (.sl 5 (.int .u8)) (.int .i64))))
abbrev A9u:K:=(.pair (.int .i64) (.pair (.int .i64) (.pair (.int .i64) (.sl 5 (.int .u8)))))
abbrev H2:K:=(.pair (.int .i64) (.pair (.int .i64) (.pair (.pair (.int .i64) (.pair .str (.int .i64))) (.sl 5 (.int .u8)))))
abbrev A3l:K:=(.pair (.pair (.int .i64) (.pair (.sl 5 (.int .u8)) (.pair (.pair (.int .i64) (.pair .bool (.sl 5 (.int .u8)))) (.pair (.pair (.int .i64) (.sl 150 (.pair .str .str))) (.pair (.pair (.int .i64) (.sl 150 (.pair .str .str))) (.pair (.sl 113 (.pair (.int .i64) (.pair (.int .i64) (.pair (.pair (.int .i64) (.pair .str (.int .i64))) (.sl 5 (.int .u8)))))) (.pair (.int .i64) (.int .i64)))))))) (.pair (.sl 75 (.pair (.int .i64) (.pair (.pair (.int .i64) (.pair .str (.int .i64))) (.pair (.sl 5 (.int .u8)) (.int .i64))))) (.sl 5 (.int .u8))))
abbrev C8E:K:=(.pair (.sl 5 (.int .u8)) (.pair (.int .i64) (.pair (.int .i64) (.pair (.pair (.int .i64) (.sl 150 (.pair .str .str))) (.sl 150 (.pair .str .str))))))
abbrev C1:K:=(.pair .str .str)
abbrev E9J:K:=(.pair (.sl 5 (.int .u8)) (.pair (.int .i64) (.int .i64)))
abbrev D7L:K:=(.pair (.pair (.int .i64) (.sl 150 (.pair .str .str))) (.pair (.int .i64) (.pair (.sl 5 (.int .u8)) (.pair (.int .i64) (.sl 150 (.pair .str .str))))))
abbrev F41:K:=(.pair (.int .i64) (.sl 161 (.pair .str .str)))
abbrev F45:K:=(.pair (.int .i64) (.pair (.sl 5 (.int .u8)) (.pair (.pair (.int .i64) (.pair .bool (.sl 5 (.int .u8)))) (.pair (.pair (.int .i64) (.sl 161 (.pair .str .str))) (.pair (.pair (.int .i64) (.sl 161 (.pair .str .str))) (.pair (.sl 180 (.pair (.int .i64) (.pair (.int .i64) (.pair (.pair (.int .i64) (.pair .str (.int .i64))) (.sl 5 (.int .u8)))))) (.pair (.int .i64) (.int .i64))))))))
end Go.Proofs.YthnfghmjipikhaaGreatDoor.Ev
