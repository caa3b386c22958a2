/- Short names of kinds and types of data. -/
import Derived.Test.YtpdcljonclhhpaaGreatEvC
set_option linter.unusedVariables false
set_option maxRecDepth 100000
namespace Go.Proofs.YtpdcljonclhhpaaGreat.Ev
abbrev G2:Type:=List ByteArray×List ByteArray
abbrev A5:Type:=(List ByteArray×List ByteArray)×Int×Int×List (ByteArray×Int×List Int×Bool)
abbrev A9:Type:=((List ByteArray×List ByteArray)×Int×Int×List (ByteArray×Int×List Int×Bool))×List (Int×Int×Int)
abbrev D2m:Type:=(((List ByteArray×List ByteArray)×Int×Int×List (ByteArray×Int×List Int×Bool))×List (Int×Int×Int))×(List (ByteArray×List Int×Int×Int))×List Bool×(List (Int×(Int×ByteArray×Int)×List Int))×(List (Int×Int×Int))×List Int
abbrev W4:Type:=Int×ByteArray×Int
abbrev D2n:Type:=Int×Int×List Bool
abbrev D2f:Type:=ByteArray×List Int×Int×Int
abbrev TUp:Type:=ByteArray×Int×List Int×Bool
abbrev D31:Type:=Int×(Int×ByteArray×Int)×List Int
abbrev A1F:Type:=Int×Int
abbrev R1:Type:=Int×Int×Int
abbrev E9:Type:=Int×Int×Int×ByteArray×Int×List Int
abbrev Y7:Type:=List Int×Int×Bool
abbrev B5:Type:=List Int×Int×Int
abbrev U2:K:=(.pair (.sl 9 .str) (.sl 9 .str))
abbrev A6o:K:=(.pair (.pair (.sl 9 .str) (.sl 9 .str)) (.pair (.int .i64) (.pair (.int .i64) (.sl 109 (.pair .str (.pair (.int .i64) (.pair (.sl 5 (.int .u8)) .bool)))))))
abbrev A3h:K:=(.pair (.pair (.pair (.sl 9 .str) (.sl 9 .str)) (.pair (.int .i64) (.pair (.int .i64) (.sl 109 (.pair .str (.pair (.int .i64) (.pair (.sl 5 (.int .u8)) .bool))))))) (.sl 130 (.pair (.int .i64) (.pair (.int .i64) (.int .i64)))))
abbrev D2o:K:=(.pair (.pair (.pair (.pair (.sl 9 .str) (.sl 9 .str)) (.pair (.int .i64) (.pair (.int .i64) (.sl 109 (.pair .str (.pair (.int .i64) (.pair (.sl 5 (.int .u8)) .bool))))))) (.sl 130 (.pair (.int .i64) (.pair (.int .i64) (.int .i64))))) (.pair (.sl 79 (.pair .str (.pair (.sl 5 (.int .u8)) (.pair (.int .i64) (.int .i64))))) (.pair (.sl 4 .bool) (.pair (.sl 113 (.pair (.int .i64) (.pair (.pair (.int .i64) (.pair .str (.int .i64))) (.sl 5 (.int .u8))))) (.pair (.sl 130 (.pair (.int .i64) (.pair (.int .i64) (.int .i64)))) (.sl 3 (.int .i64)))))))
abbrev B1d:K:=(.pair (.int .i64) (.pair .str (.int .i64)))
abbrev D2p:K:=(.pair (.int .i64) (.pair (.int .i64) (.sl 4 .bool)))
abbrev D2g:K:=(.pair .str (.pair (.sl 5 (.int .u8)) (.pair (.int .i64) (.int .i64))))
abbrev kUp:K:=(.pair .str (.pair (.int .i64) (.pair (.sl 5 (.int .u8)) .bool)))
abbrev D32:K:=(.pair (.int .i64) (.pair (.pair (.int .i64) (.pair .str (.int .i64))) (.sl 5 (.int .u8))))
abbrev U3:K:=(.pair (.int .i64) (.int .i64))
abbrev J7:K:=(.pair (.int .i64) (.pair (.int .i64) (.int .i64)))
abbrev A4u:K:=(.pair (.int .i64) (.pair (.int .i64) (.pair (.int .i64) (.pair .str (.pair (.int .i64) (.sl 5 (.int .u8)))))))
abbrev A6G:K:=(.pair (.sl 5 (.int .u8)) (.pair (.int .i64) .bool))
abbrev C9n:K:=(.pair (.sl 5 (.int .u8)) (.pair (.int .i64) (.int .i64)))
abbrev D2h:K:=(.pair (.pair (.sl 9 .str) (.sl 9 .str)) (.pair (.int .i64) (.pair (.int .i64) (.sl 248 (.pair .str (.pair (.int .i64) (.pair (.sl 5 (.int .u8)) .bool)))))))
abbrev D2M:K:=(.pair (.pair (.pair (.sl 9 .str) (.sl 9 .str)) (.pair (.int .i64) (.pair (.int .i64) (.sl 248 (.pair .str (.pair (.int .i64) (.pair (.sl 5 (.int .u8)) .bool))))))) (.sl 203 (.pair (.int .i64) (.pair (.int .i64) (.int .i64)))))
abbrev D2i:K:=(.pair (.pair (.pair (.pair (.sl 9 .str) (.sl 9 .str)) (.pair (.int .i64) (.pair (.int .i64) (.sl 248 (.pair .str (.pair (.int .i64) (.pair (.sl 5 (.int .u8)) .bool))))))) (.sl 203 (.pair (.int .i64) (.pair (.int .i64) (.int .i64))))) (.pair (.sl 218 (.pair .str (.pair (.sl 5 (.int .u8)) (.pair (.int .i64) (.int .i64))))) (.pair (.sl 4 .bool) (.pair (.sl 221 (.pair (.int .i64) (.pair (.pair (.int .i64) (.pair .str (.int .i64))) (.sl 5 (.int .u8))))) (.pair (.sl 203 (.pair (.int .i64) (.pair (.int .i64) (.int .i64)))) (.sl 3 (.int .i64)))))))
end Go.Proofs.YtpdcljonclhhpaaGreat.Ev
