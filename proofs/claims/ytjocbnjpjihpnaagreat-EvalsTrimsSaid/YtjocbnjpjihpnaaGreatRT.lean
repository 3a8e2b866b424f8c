/- The arguments' types by name. -/
import Derived.Test.YtjocbnjpjihpnaaGreatRG
namespace Go.Proofs.YtjocbnjpjihpnaaGreat.RG
open Go.Proofs.YtjocbnjpjihpnaaGreatW.Abs
set_option linter.unusedVariables false
abbrev tRats:Ty:=(.row 45 (.cons .bool (.cons (.row 73 (.int .u64)) (.row 73 (.int .u64)))))
abbrev tProg:Ty:=(.row 93 (.cons (.int .i64) (.cons (.int .i64) (.cons (.int .i64) (.cons .bool (.cons (.row 73 (.int .u64)) (.row 73 (.int .u64))))))))
abbrev tInts:Ty:=(.row 3 (.int .i64))
end Go.Proofs.YtjocbnjpjihpnaaGreat.RG
