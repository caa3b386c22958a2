/- Short names of kinds and types of data. -/
import Derived.Test.YtpdcljonclhhpaaGreatEvC
set_option linter.unusedVariables false
set_option maxRecDepth 100000
namespace Go.Proofs.YtpdcljonclhhpaaGreat.Ev
abbrev X0:=ByteArray
abbrev G0:Type:=List ByteArray×List ByteArray
abbrev A6:Type:=(List ByteArray×List ByteArray)×Int×Int×List (ByteArray×Int×List Int×Bool)
abbrev B9:Type:=((List ByteArray×List ByteArray)×Int×Int×List (ByteArray×Int×List Int×Bool))×List (Int×Int×Int)
abbrev A5:Type:=(((List ByteArray×List ByteArray)×Int×Int×List (ByteArray×Int×List Int×Bool))×List (Int×Int×Int))×(List (ByteArray×List Int×Int×Int))×List Bool×(List (Int×(Int×ByteArray×Int)×List Int))×(List (Int×Int×Int))×List Int
abbrev A0t:Type:=Int×ByteArray×Int
abbrev V2:Type:=Int×Int×List Bool
abbrev A8:Type:=ByteArray×List Int×Int×Int
abbrev TUp:Type:=ByteArray×Int×List Int×Bool
abbrev M6:Type:=Int×(Int×ByteArray×Int)×List Int
abbrev S9:Type:=Int×Int
abbrev C1:Type:=Int×Int×Int
abbrev I2:Type:=Int×Int×Int×ByteArray×Int×List Int
abbrev A2B:Type:=List Int×Int×Bool
abbrev B6:Type:=List Int×Int×Int
abbrev A0C:K:=(.pair (.sl 9 .str) (.sl 9 .str))
abbrev B1a:K:=(.pair (.pair (.sl 9 .str) (.sl 9 .str)) (.pair (.int .i64) (.pair (.int .i64) (.sl 109 (.pair .str (.pair (.int .i64) (.pair (.sl 5 (.int .u8)) .bool)))))))
abbrev A6s:K:=(.pair (.pair (.pair (.sl 9 .str) (.sl 9 .str)) (.pair (.int .i64) (.pair (.int .i64) (.sl 109 (.pair .str (.pair (.int .i64) (.pair (.sl 5 (.int .u8)) .bool))))))) (.sl 130 (.pair (.int .i64) (.pair (.int .i64) (.int .i64)))))
abbrev A6t:K:=(.pair (.pair (.pair (.pair (.sl 9 .str) (.sl 9 .str)) (.pair (.int .i64) (.pair (.int .i64) (.sl 109 (.pair .str (.pair (.int .i64) (.pair (.sl 5 (.int .u8)) .bool))))))) (.sl 130 (.pair (.int .i64) (.pair (.int .i64) (.int .i64))))) (.pair (.sl 79 (.pair .str (.pair (.sl 5 (.int .u8)) (.pair (.int .i64) (.int .i64))))) (.pair (.sl 4 .bool) (.pair (.sl 113 (.pair (.int .i64) (.pair (.pair (.int .i64) (.pair .str (.int .i64))) (.sl 5 (.int .u8))))) (.pair (.sl 130 (.pair (.int .i64) (.pair (.int .i64) (.int .i64)))) (.sl 3 (.int .i64)))))))
abbrev A06:K:=(.pair (.int .i64) (.pair .str (.int .i64)))
abbrev D0q:K:=(.pair (.int .i64) (.pair (.int .i64) (.sl 4 .bool)))
abbrev B3:K:=(.pair .str (.pair (.sl 5 (.int .u8)) (.pair (.int .i64) (.int .i64))))
abbrev kUp:K:=(.pair .str (.pair (.int .i64) (.pair (.sl 5 (.int .u8)) .bool)))
abbrev E5:K:=(.pair (.int .i64) (.pair (.pair (.int .i64) (.pair .str (.int .i64))) (.sl 5 (.int .u8))))
abbrev D8:K:=(.pair (.int .i64) (.int .i64))
abbrev A9:K:=(.pair (.int .i64) (.pair (.int .i64) (.int .i64)))
abbrev B0q:K:=(.pair (.int .i64) (.pair (.int .i64) (.pair (.int .i64) (.pair .str (.pair (.int .i64) (.sl 5 (.int .u8)))))))
abbrev B2j:K:=(.pair (.sl 5 (.int .u8)) (.pair (.int .i64) .bool))
abbrev E6t:K:=(.pair (.sl 5 (.int .u8)) (.pair (.int .i64) (.int .i64)))
abbrev F17:K:=(.pair (.pair (.sl 9 .str) (.sl 9 .str)) (.pair (.int .i64) (.pair (.int .i64) (.sl 248 (.pair .str (.pair (.int .i64) (.pair (.sl 5 (.int .u8)) .bool)))))))
abbrev F0c:K:=(.pair (.pair (.pair (.sl 9 .str) (.sl 9 .str)) (.pair (.int .i64) (.pair (.int .i64) (.sl 248 (.pair .str (.pair (.int .i64) (.pair (.sl 5 (.int .u8)) .bool))))))) (.sl 203 (.pair (.int .i64) (.pair (.int .i64) (.int .i64)))))
abbrev D67:K:=(.pair (.pair (.pair (.pair (.sl 9 .str) (.sl 9 .str)) (.pair (.int .i64) (.pair (.int .i64) (.sl 248 (.pair .str (.pair (.int .i64) (.pair (.sl 5 (.int .u8)) .bool))))))) (.sl 203 (.pair (.int .i64) (.pair (.int .i64) (.int .i64))))) (.pair (.sl 218 (.pair .str (.pair (.sl 5 (.int .u8)) (.pair (.int .i64) (.int .i64))))) (.pair (.sl 4 .bool) (.pair (.sl 221 (.pair (.int .i64) (.pair (.pair (.int .i64) (.pair .str (.int .i64))) (.sl 5 (.int .u8))))) (.pair (.sl 203 (.pair (.int .i64) (.pair (.int .i64) (.int .i64)))) (.sl 3 (.int .i64)))))))
end Go.Proofs.YtpdcljonclhhpaaGreat.Ev
