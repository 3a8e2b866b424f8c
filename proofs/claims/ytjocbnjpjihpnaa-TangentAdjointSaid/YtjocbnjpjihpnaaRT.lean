/- The arguments' types by name. -/
import Derived.Test.YtjocbnjpjihpnaaRG
namespace Go.Proofs.Ytjocbnjpjihpnaa.RG
open Go.Proofs.YtjocbnjpjihpnaaW.Abs
set_option linter.unusedVariables false
abbrev tRats:Ty:=(.row 30 (.cons .bool (.cons (.row 22 (.int .u64)) (.row 22 (.int .u64)))))
abbrev tProg:Ty:=(.row 85 (.cons (.int .i64) (.cons (.int .i64) (.cons (.int .i64) (.cons .bool (.cons (.row 22 (.int .u64)) (.row 22 (.int .u64))))))))
abbrev tInts:Ty:=(.row 3 (.int .i64))
abbrev tCase:Ty:=(.cons (.row 85 (.cons (.int .i64) (.cons (.int .i64) (.cons (.int .i64) (.cons .bool (.cons (.row 22 (.int .u64)) (.row 22 (.int .u64)))))))) (.cons (.row 30 (.cons .bool (.cons (.row 22 (.int .u64)) (.row 22 (.int .u64))))) (.cons (.row 30 (.cons .bool (.cons (.row 22 (.int .u64)) (.row 22 (.int .u64))))) (.row 30 (.cons .bool (.cons (.row 22 (.int .u64)) (.row 22 (.int .u64))))))))
end Go.Proofs.Ytjocbnjpjihpnaa.RG
