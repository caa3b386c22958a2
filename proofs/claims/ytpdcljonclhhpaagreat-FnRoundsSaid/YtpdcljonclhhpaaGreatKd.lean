/- Short names of kinds and types of data. -/
import Derived.Test.YtpdcljonclhhpaaGreatEvC
set_option linter.unusedVariables false
set_option maxRecDepth 100000
namespace Go.Proofs.YtpdcljonclhhpaaGreat.Ev
abbrev F5:Type:=List ByteArray×List ByteArray
abbrev A7:Type:=(List ByteArray×List ByteArray)×Int×Int×List (ByteArray×Int×List Int×Bool)
abbrev D5:Type:=((List ByteArray×List ByteArray)×Int×Int×List (ByteArray×Int×List Int×Bool))×List (Int×Int×Int)
abbrev A5:Type:=(((List ByteArray×List ByteArray)×Int×Int×List (ByteArray×Int×List Int×Bool))×List (Int×Int×Int))×(List (ByteArray×List Int×Int×Int))×List Bool×(List (Int×(Int×ByteArray×Int)×List Int))×(List (Int×Int×Int))×List Int
abbrev A1w:Type:=Int×ByteArray×Int
abbrev B3R:Type:=Int×Int×List Bool
abbrev A8:Type:=ByteArray×List Int×Int×Int
abbrev TUp:Type:=ByteArray×Int×List Int×Bool
abbrev L0:Type:=Int×(Int×ByteArray×Int)×List Int
abbrev Q8:Type:=Int×Int
abbrev C7:Type:=Int×Int×Int
abbrev G8:Type:=Int×Int×Int×ByteArray×Int×List Int
abbrev A0I:Type:=List Int×Int×Bool
abbrev G9:Type:=List Int×Int×Int
abbrev A4p:K:=(.pair (.sl 9 .str) (.sl 9 .str))
abbrev A7Q:K:=(.pair (.pair (.sl 9 .str) (.sl 9 .str)) (.pair (.int .i64) (.pair (.int .i64) (.sl 109 (.pair .str (.pair (.int .i64) (.pair (.sl 5 (.int .u8)) .bool)))))))
abbrev A5U:K:=(.pair (.pair (.pair (.sl 9 .str) (.sl 9 .str)) (.pair (.int .i64) (.pair (.int .i64) (.sl 109 (.pair .str (.pair (.int .i64) (.pair (.sl 5 (.int .u8)) .bool))))))) (.sl 130 (.pair (.int .i64) (.pair (.int .i64) (.int .i64)))))
abbrev S9:K:=(.pair (.pair (.pair (.pair (.sl 9 .str) (.sl 9 .str)) (.pair (.int .i64) (.pair (.int .i64) (.sl 109 (.pair .str (.pair (.int .i64) (.pair (.sl 5 (.int .u8)) .bool))))))) (.sl 130 (.pair (.int .i64) (.pair (.int .i64) (.int .i64))))) (.pair (.sl 79 (.pair .str (.pair (.sl 5 (.int .u8)) (.pair (.int .i64) (.int .i64))))) (.pair (.sl 4 .bool) (.pair (.sl 113 (.pair (.int .i64) (.pair (.pair (.int .i64) (.pair .str (.int .i64))) (.sl 5 (.int .u8))))) (.pair (.sl 130 (.pair (.int .i64) (.pair (.int .i64) (.int .i64)))) (.sl 3 (.int .i64)))))))
abbrev W8:K:=(.pair (.int .i64) (.pair .str (.int .i64)))
abbrev D4c:K:=(.pair (.int .i64) (.pair (.int .i64) (.sl 4 .bool)))
abbrev A9:K:=(.pair .str (.pair (.sl 5 (.int .u8)) (.pair (.int .i64) (.int .i64))))
abbrev kUp:K:=(.pair .str (.pair (.int .i64) (.pair (.sl 5 (.int .u8)) .bool)))
abbrev F8:K:=(.pair (.int .i64) (.pair (.pair (.int .i64) (.pair .str (.int .i64))) (.sl 5 (.int .u8))))
abbrev F6:K:=(.pair (.int .i64) (.int .i64))
abbrev B2:K:=(.pair (.int .i64) (.pair (.int .i64) (.int .i64)))
abbrev A6l:K:=(.pair (.int .i64) (.pair (.int .i64) (.pair (.int .i64) (.pair .str (.pair (.int .i64) (.sl 5 (.int .u8)))))))
abbrev A8U:K:=(.pair (.sl 5 (.int .u8)) (.pair (.int .i64) .bool))
abbrev E03:K:=(.pair (.sl 5 (.int .u8)) (.pair (.int .i64) (.int .i64)))
abbrev E3n:K:=(.pair (.pair (.sl 9 .str) (.sl 9 .str)) (.pair (.int .i64) (.pair (.int .i64) (.sl 248 (.pair .str (.pair (.int .i64) (.pair (.sl 5 (.int .u8)) .bool)))))))
abbrev E3M:K:=(.pair (.pair (.pair (.sl 9 .str) (.sl 9 .str)) (.pair (.int .i64) (.pair (.int .i64) (.sl 248 (.pair .str (.pair (.int .i64) (.pair (.sl 5 (.int .u8)) .bool))))))) (.sl 203 (.pair (.int .i64) (.pair (.int .i64) (.int .i64)))))
abbrev E3o:K:=(.pair (.pair (.pair (.pair (.sl 9 .str) (.sl 9 .str)) (.pair (.int .i64) (.pair (.int .i64) (.sl 248 (.pair .str (.pair (.int .i64) (.pair (.sl 5 (.int .u8)) .bool))))))) (.sl 203 (.pair (.int .i64) (.pair (.int .i64) (.int .i64))))) (.pair (.sl 218 (.pair .str (.pair (.sl 5 (.int .u8)) (.pair (.int .i64) (.int .i64))))) (.pair (.sl 4 .bool) (.pair (.sl 221 (.pair (.int .i64) (.pair (.pair (.int .i64) (.pair .str (.int .i64))) (.sl 5 (.int .u8))))) (.pair (.sl 203 (.pair (.int .i64) (.pair (.int .i64) (.int .i64)))) (.sl 3 (.int .i64)))))))
end Go.Proofs.YtpdcljonclhhpaaGreat.Ev
