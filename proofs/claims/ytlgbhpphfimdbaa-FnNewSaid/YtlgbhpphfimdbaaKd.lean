/- Short names of kinds and types of data. -/
import Derived.Test.YtlgbhpphfimdbaaEvC
set_option linter.unusedVariables false
set_option maxRecDepth 100000
namespace Go.Proofs.Ytlgbhpphfimdbaa.Ev
abbrev TClient : Type := ByteArray × List Int × Int × Int
abbrev TReq : Type := Int × ByteArray × Int
abbrev TFrame : Type := Int × Int × Int × List Int
abbrev TL1Cur : Type := List Int × Int × Int
abbrev kClient : K := (.pair .str (.pair (.sl 5 (.int .u8)) (.pair (.int .i64) (.int .i64))))
abbrev kReq : K := (.pair (.int .i64) (.pair .str (.int .i64)))
abbrev kFrame : K := (.pair (.int .i64) (.pair (.int .i64) (.pair (.int .i64) (.sl 5 (.int .u8)))))
abbrev kL1Cur : K := (.pair (.sl 5 (.int .u8)) (.pair (.int .i64) (.int .i64)))
end Go.Proofs.Ytlgbhpphfimdbaa.Ev
