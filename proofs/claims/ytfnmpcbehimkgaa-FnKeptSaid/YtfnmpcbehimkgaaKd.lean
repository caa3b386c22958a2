/- Short names of kinds and types of data. -/
import Derived.Test.YtfnmpcbehimkgaaEvC
set_option linter.unusedVariables false
set_option maxRecDepth 100000
namespace Go.Proofs.Ytfnmpcbehimkgaa.Ev
abbrev E5:Type:=List ByteArray×List ByteArray
abbrev A5:Type:=(List ByteArray×List ByteArray)×Int×Int×List (ByteArray×Int×List Int×Bool)
abbrev TUp:Type:=ByteArray×Int×List Int×Bool
abbrev D8:Type:=Int×Int×Int×ByteArray×Int×List Int
abbrev R5:Type:=List Int×Int×Bool
abbrev C0:Type:=List Int×Int×Int
abbrev Y9:K:=(.pair (.sl 9 .str) (.sl 9 .str))
abbrev A5U:K:=(.pair (.pair (.sl 9 .str) (.sl 9 .str)) (.pair (.int .i64) (.pair (.int .i64) (.sl 36 (.pair .str (.pair (.int .i64) (.pair (.sl 5 (.int .u8)) .bool)))))))
abbrev kUp:K:=(.pair .str (.pair (.int .i64) (.pair (.sl 5 (.int .u8)) .bool)))
abbrev A2b:K:=(.pair (.int .i64) (.pair (.int .i64) (.pair (.int .i64) (.pair .str (.pair (.int .i64) (.sl 5 (.int .u8)))))))
abbrev A3l:K:=(.pair (.sl 5 (.int .u8)) (.pair (.int .i64) .bool))
abbrev C3y:K:=(.pair (.sl 5 (.int .u8)) (.pair (.int .i64) (.int .i64)))
end Go.Proofs.Ytfnmpcbehimkgaa.Ev
