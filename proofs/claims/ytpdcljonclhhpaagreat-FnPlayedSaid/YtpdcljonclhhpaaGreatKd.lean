/- Short names of kinds and types of data. -/
import Derived.Test.YtpdcljonclhhpaaGreatEvC
set_option linter.unusedVariables false
set_option maxRecDepth 100000
namespace Go.Proofs.YtpdcljonclhhpaaGreat.Ev
abbrev E9:Type:=List ByteArray×List ByteArray
abbrev A7:Type:=(List ByteArray×List ByteArray)×Int×Int×List (ByteArray×Int×List Int×Bool)
abbrev D0:Type:=((List ByteArray×List ByteArray)×Int×Int×List (ByteArray×Int×List Int×Bool))×List (Int×Int×Int)
abbrev A5:Type:=(((List ByteArray×List ByteArray)×Int×Int×List (ByteArray×Int×List Int×Bool))×List (Int×Int×Int))×(List (ByteArray×List Int×Int×Int))×List Bool×(List (Int×(Int×ByteArray×Int)×List Int))×(List (Int×Int×Int))×List Int
abbrev A2A:Type:=Int×ByteArray×Int
abbrev I1:Type:=Int×Int×List Bool
abbrev A8:Type:=ByteArray×List Int×Int×Int
abbrev TUp:Type:=ByteArray×Int×List Int×Bool
abbrev I2:Type:=Int×(Int×ByteArray×Int)×List Int
abbrev S3:Type:=Int×Int
abbrev B8:Type:=Int×Int×Int
abbrev H3:Type:=Int×Int×Int×ByteArray×Int×List Int
abbrev A0T:Type:=List Int×Int×Bool
abbrev H4:Type:=List Int×Int×Int
abbrev A2X:K:=(.pair (.sl 9 .str) (.sl 9 .str))
abbrev A7k:K:=(.pair (.pair (.sl 9 .str) (.sl 9 .str)) (.pair (.int .i64) (.pair (.int .i64) (.sl 109 (.pair .str (.pair (.int .i64) (.pair (.sl 5 (.int .u8)) .bool)))))))
abbrev A5o:K:=(.pair (.pair (.pair (.sl 9 .str) (.sl 9 .str)) (.pair (.int .i64) (.pair (.int .i64) (.sl 109 (.pair .str (.pair (.int .i64) (.pair (.sl 5 (.int .u8)) .bool))))))) (.sl 130 (.pair (.int .i64) (.pair (.int .i64) (.int .i64)))))
abbrev A0b:K:=(.pair (.pair (.pair (.pair (.sl 9 .str) (.sl 9 .str)) (.pair (.int .i64) (.pair (.int .i64) (.sl 109 (.pair .str (.pair (.int .i64) (.pair (.sl 5 (.int .u8)) .bool))))))) (.sl 130 (.pair (.int .i64) (.pair (.int .i64) (.int .i64))))) (.pair (.sl 79 (.pair .str (.pair (.sl 5 (.int .u8)) (.pair (.int .i64) (.int .i64))))) (.pair (.sl 4 .bool) (.pair (.sl 113 (.pair (.int .i64) (.pair (.pair (.int .i64) (.pair .str (.int .i64))) (.sl 5 (.int .u8))))) (.pair (.sl 130 (.pair (.int .i64) (.pair (.int .i64) (.int .i64)))) (.sl 3 (.int .i64)))))))
abbrev U1:K:=(.pair (.int .i64) (.pair .str (.int .i64)))
abbrev B3q:K:=(.pair (.int .i64) (.pair (.int .i64) (.sl 4 .bool)))
abbrev B2:K:=(.pair .str (.pair (.sl 5 (.int .u8)) (.pair (.int .i64) (.int .i64))))
abbrev kUp:K:=(.pair .str (.pair (.int .i64) (.pair (.sl 5 (.int .u8)) .bool)))
abbrev F0:K:=(.pair (.int .i64) (.pair (.pair (.int .i64) (.pair .str (.int .i64))) (.sl 5 (.int .u8))))
abbrev E5:K:=(.pair (.int .i64) (.int .i64))
abbrev A9:K:=(.pair (.int .i64) (.pair (.int .i64) (.int .i64)))
abbrev A76:K:=(.pair (.int .i64) (.pair (.int .i64) (.pair (.int .i64) (.pair .str (.pair (.int .i64) (.sl 5 (.int .u8)))))))
abbrev A8k:K:=(.pair (.sl 5 (.int .u8)) (.pair (.int .i64) .bool))
abbrev D91:K:=(.pair (.sl 5 (.int .u8)) (.pair (.int .i64) (.int .i64)))
abbrev E2z:K:=(.pair (.pair (.sl 9 .str) (.sl 9 .str)) (.pair (.int .i64) (.pair (.int .i64) (.sl 248 (.pair .str (.pair (.int .i64) (.pair (.sl 5 (.int .u8)) .bool)))))))
abbrev E2V:K:=(.pair (.pair (.pair (.sl 9 .str) (.sl 9 .str)) (.pair (.int .i64) (.pair (.int .i64) (.sl 248 (.pair .str (.pair (.int .i64) (.pair (.sl 5 (.int .u8)) .bool))))))) (.sl 203 (.pair (.int .i64) (.pair (.int .i64) (.int .i64)))))
abbrev E30:K:=(.pair (.pair (.pair (.pair (.sl 9 .str) (.sl 9 .str)) (.pair (.int .i64) (.pair (.int .i64) (.sl 248 (.pair .str (.pair (.int .i64) (.pair (.sl 5 (.int .u8)) .bool))))))) (.sl 203 (.pair (.int .i64) (.pair (.int .i64) (.int .i64))))) (.pair (.sl 218 (.pair .str (.pair (.sl 5 (.int .u8)) (.pair (.int .i64) (.int .i64))))) (.pair (.sl 4 .bool) (.pair (.sl 221 (.pair (.int .i64) (.pair (.pair (.int .i64) (.pair .str (.int .i64))) (.sl 5 (.int .u8))))) (.pair (.sl 203 (.pair (.int .i64) (.pair (.int .i64) (.int .i64)))) (.sl 3 (.int .i64)))))))
end Go.Proofs.YtpdcljonclhhpaaGreat.Ev
