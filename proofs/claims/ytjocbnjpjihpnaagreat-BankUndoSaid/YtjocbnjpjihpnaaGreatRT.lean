/- The arguments' types by name. -/
import Derived.Test.YtjocbnjpjihpnaaGreatRG
namespace Go.Proofs.YtjocbnjpjihpnaaGreat.RG
open Go.Proofs.YtjocbnjpjihpnaaGreatW.Gb
set_option linter.unusedVariables false
abbrev fS:Ty:=(.row 75 (.cons (.int .i64) (.cons (.int .i64) (.cons (.int .i64) (.cons (.int .i64) (.cons (.int .i64) (.int .u64)))))))
end Go.Proofs.YtjocbnjpjihpnaaGreat.RG
