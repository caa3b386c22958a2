/- Short names of kinds and types of data. -/
import Derived.Test.YtpdcljonclhhpaaGreatEvC
set_option linter.unusedVariables false
set_option maxRecDepth 100000
namespace Go.Proofs.YtpdcljonclhhpaaGreat.Ev
abbrev D6:Type:=List ByteArray×List ByteArray
abbrev A8:Type:=(List ByteArray×List ByteArray)×Int×Int×List (ByteArray×Int×List Int×Bool)
abbrev C0:Type:=((List ByteArray×List ByteArray)×Int×Int×List (ByteArray×Int×List Int×Bool))×List (Int×Int×Int)
abbrev A6:Type:=(((List ByteArray×List ByteArray)×Int×Int×List (ByteArray×Int×List Int×Bool))×List (Int×Int×Int))×(List (ByteArray×List Int×Int×Int))×List Bool×(List (Int×(Int×ByteArray×Int)×List Int))×(List (Int×Int×Int))×List Int
abbrev V6:Type:=Int×ByteArray×Int
abbrev D5:Type:=Int×Int×List Bool
abbrev B1:Type:=ByteArray×List Int×Int×Int
abbrev TUp:Type:=ByteArray×Int×List Int×Bool
abbrev D7:Type:=Int×(Int×ByteArray×Int)×List Int
abbrev N8:Type:=Int×Int
abbrev B7:Type:=Int×Int×Int
abbrev H7:Type:=Int×Int×Int×ByteArray×Int×List Int
abbrev A06:Type:=List Int×Int×Bool
abbrev F2Z:Type:=List Int×Int×Int
abbrev A0U:K:=(.pair (.sl 9 .str) (.sl 9 .str))
abbrev A47:K:=(.pair (.pair (.sl 9 .str) (.sl 9 .str)) (.pair (.int .i64) (.pair (.int .i64) (.sl 109 (.pair .str (.pair (.int .i64) (.pair (.sl 5 (.int .u8)) .bool)))))))
abbrev A1r:K:=(.pair (.pair (.pair (.sl 9 .str) (.sl 9 .str)) (.pair (.int .i64) (.pair (.int .i64) (.sl 109 (.pair .str (.pair (.int .i64) (.pair (.sl 5 (.int .u8)) .bool))))))) (.sl 130 (.pair (.int .i64) (.pair (.int .i64) (.int .i64)))))
abbrev A29:K:=(.pair (.pair (.pair (.pair (.sl 9 .str) (.sl 9 .str)) (.pair (.int .i64) (.pair (.int .i64) (.sl 109 (.pair .str (.pair (.int .i64) (.pair (.sl 5 (.int .u8)) .bool))))))) (.sl 130 (.pair (.int .i64) (.pair (.int .i64) (.int .i64))))) (.pair (.sl 79 (.pair .str (.pair (.sl 5 (.int .u8)) (.pair (.int .i64) (.int .i64))))) (.pair (.sl 4 .bool) (.pair (.sl 113 (.pair (.int .i64) (.pair (.pair (.int .i64) (.pair .str (.int .i64))) (.sl 5 (.int .u8))))) (.pair (.sl 130 (.pair (.int .i64) (.pair (.int .i64) (.int .i64)))) (.sl 3 (.int .i64)))))))
abbrev L5:K:=(.pair (.int .i64) (.pair .str (.int .i64)))
abbrev E9:K:=(.pair (.int .i64) (.pair (.int .i64) (.sl 4 .bool)))
abbrev B2:K:=(.pair .str (.pair (.sl 5 (.int .u8)) (.pair (.int .i64) (.int .i64))))
abbrev kUp:K:=(.pair .str (.pair (.int .i64) (.pair (.sl 5 (.int .u8)) .bool)))
abbrev B9:K:=(.pair (.int .i64) (.pair (.pair (.int .i64) (.pair .str (.int .i64))) (.sl 5 (.int .u8))))
abbrev F0:K:=(.pair (.int .i64) (.int .i64))
abbrev A9:K:=(.pair (.int .i64) (.pair (.int .i64) (.int .i64)))
abbrev A7q:K:=(.pair (.int .i64) (.pair (.int .i64) (.pair (.int .i64) (.pair .str (.pair (.int .i64) (.sl 5 (.int .u8)))))))
abbrev A9q:K:=(.pair (.sl 5 (.int .u8)) (.pair (.int .i64) .bool))
abbrev F2a:K:=(.pair (.sl 5 (.int .u8)) (.pair (.int .i64) (.int .i64)))
abbrev B7f:K:=(.pair (.pair (.sl 9 .str) (.sl 9 .str)) (.pair (.int .i64) (.pair (.int .i64) (.sl 248 (.pair .str (.pair (.int .i64) (.pair (.sl 5 (.int .u8)) .bool)))))))
abbrev B1s:K:=(.pair (.pair (.pair (.sl 9 .str) (.sl 9 .str)) (.pair (.int .i64) (.pair (.int .i64) (.sl 248 (.pair .str (.pair (.int .i64) (.pair (.sl 5 (.int .u8)) .bool))))))) (.sl 203 (.pair (.int .i64) (.pair (.int .i64) (.int .i64)))))
abbrev Z0:K:=(.pair (.pair (.pair (.pair (.sl 9 .str) (.sl 9 .str)) (.pair (.int .i64) (.pair (.int .i64) (.sl 248 (.pair .str (.pair (.int .i64) (.pair (.sl 5 (.int .u8)) .bool))))))) (.sl 203 (.pair (.int .i64) (.pair (.int .i64) (.int .i64))))) (.pair (.sl 218 (.pair .str (.pair (.sl 5 (.int .u8)) (.pair (.int .i64) (.int .i64))))) (.pair (.sl 4 .bool) (.pair (.sl 221 (.pair (.int .i64) (.pair (.pair (.int .i64) (.pair .str (.int .i64))) (.sl 5 (.int .u8))))) (.pair (.sl 203 (.pair (.int .i64) (.pair (.int .i64) (.int .i64)))) (.sl 3 (.int .i64)))))))
end Go.Proofs.YtpdcljonclhhpaaGreat.Ev
