/- Functions that come to what their texts say. -/
import Derived.Test.YtjocbnjpjihpnaaGreatAAa
import Derived.Test.YtjocbnjpjihpnaaGreatWWc
import Derived.Test.YtjocbnjpjihpnaaGreatBB
import Derived.Test.YtjocbnjpjihpnaaGreatFgradinelaw18same
import Derived.Test.YtjocbnjpjihpnaaGreatFgradinelaw18does
import Derived.Test.YtjocbnjpjihpnaaGreatFgradinelaw18Runback
import Derived.Test.YtjocbnjpjihpnaaGreatFgradinelaw18Step
import Derived.Test.YtjocbnjpjihpnaaGreatFgradinelaw18long
import Derived.Test.YtjocbnjpjihpnaaGreatFgradinelaw18comes
namespace Go.Proofs.YtjocbnjpjihpnaaGreat.A
open Go.RowKit Go.Proofs.YtjocbnjpjihpnaaGreat.P Go.Proofs.YtjocbnjpjihpnaaGreatW.AD Go.Proofs.YtjocbnjpjihpnaaGreatW.AU Go.Proofs.YtjocbnjpjihpnaaGreatW.Ac Go.Proofs.YtjocbnjpjihpnaaGreatW.HU
set_option linter.unusedVariables false
set_option linter.unusedSimpArgs false
set_option maxRecDepth 100000
set_option maxHeartbeats 4000000
section
attribute [local irreducible] R0.f I4.f A8.f
def Ct:D0:=⟨[.st 135 [.ty (.int .i64), .ty (.int .i64), .row false 93 (.cons (.int .i64) (.cons (.int .i64) (.cons (.int .i64) (.cons .bool (.cons (.row 73 (.int .u64)) (.row 73 (.int .u64))))))), .ty (.row 4 .bool), .row false 4 .bool, .ty (.int .i64), .ty (.int .i64), .ty .bool, .ty (.int .i64)], .ty (.int .i64), .ty (.int .i64)],[(.cons .bool (.cons (.row 73 (.int .u64)) (.row 73 (.int .u64))))],λk x=>(Bg.f k x.1.1 x.1.2.1 x.1.2.2.1 x.1.2.2.2.1 x.1.2.2.2.2.1 x.1.2.2.2.2.2.1 x.1.2.2.2.2.2.2.1 x.1.2.2.2.2.2.2.2.1 x.1.2.2.2.2.2.2.2.2.1 x.2.1 x.2.2.1).map λr=>(((r.1,(r.2.1,r.2.2.1)),()),((r.2.2.2.1,r.2.2.2.2.1,r.2.2.2.2.2.1,r.2.2.2.2.2.2.1,r.2.2.2.2.2.2.2.1,r.2.2.2.2.2.2.2.2.1,r.2.2.2.2.2.2.2.2.2.1,r.2.2.2.2.2.2.2.2.2.2.1,r.2.2.2.2.2.2.2.2.2.2.2,()),()))⟩
def K9 (r:Bool × List Int × List Int × Int × Int × List (Int × Int × Int × Bool × (List Int) × List Int) × List Bool × List Bool × Int × Int × Bool × Int):TT Ct.rs × ET Ct.ps:=(((r.1,(r.2.1,r.2.2.1)),()),((r.2.2.2.1,r.2.2.2.2.1,r.2.2.2.2.2.1,r.2.2.2.2.2.2.1,r.2.2.2.2.2.2.2.1,r.2.2.2.2.2.2.2.2.1,r.2.2.2.2.2.2.2.2.2.1,r.2.2.2.2.2.2.2.2.2.2.1,r.2.2.2.2.2.2.2.2.2.2.2,()),()))
def SD:Bs (TT Ct.rs × ET Ct.ps):=⟨⟨23,28,[23]⟩,AH [],AH [],AH []⟩
theorem LA:UB Tryz.prog 169 Ct :=
 FJ (Bt:=AP [(2,[0,1,0,7,15,31,31,0,191,511])]) (l:= [(62, .pu fX),(140, .pu On),(178, .io CP [(21,26)])]) (C:=SD) (by kernel_rfl) AK ⟨AEQ,Yc,E0,trivial⟩ (fn:=Tryz.f169) (by kernel_rfl) rfl (by kernel_rfl) (by decide) (by kernel_rfl) (m:=28) (by decide) (by decide) (F:=λk x=>Bg.f k x.1.1 x.1.2.1 x.1.2.2.1 x.1.2.2.2.1 x.1.2.2.2.2.1 x.1.2.2.2.2.2.1 x.1.2.2.2.2.2.2.1 x.1.2.2.2.2.2.2.2.1 x.1.2.2.2.2.2.2.2.2.1 x.2.1 x.2.2.1) (q:=K9) (λk x=>rfl)
  (by exact trivial)
  (λk ⟨⟨AX,Al,Am,Ao,BD,BB,BH,BJ,BE,_⟩,(a1:Int),(a2:Int),_⟩=>by show Ae K9 (Bg.f k AX Al Am Ao BD BB BH BJ BE a1 a2) _;unfold Bg.f;exact go)
end
section
attribute [local irreducible] Di.f BV.f Bg.f Br.f
def EY:D0:=⟨[.st 135 [.ty (.int .i64), .ty (.int .i64), .row false 93 (.cons (.int .i64) (.cons (.int .i64) (.cons (.int .i64) (.cons .bool (.cons (.row 73 (.int .u64)) (.row 73 (.int .u64))))))), .ty (.row 4 .bool), .row false 4 .bool, .ty (.int .i64), .ty (.int .i64), .ty .bool, .ty (.int .i64)], .ty (.cons (.int .i64) (.cons (.int .i64) (.int .u64)))],[(.cons (.cons .bool (.cons (.row 73 (.int .u64)) (.row 73 (.int .u64)))) (.cons (.int .u64) (.int .i64)))],λk x=>(CU.f k x.1.1 x.1.2.1 x.1.2.2.1 x.1.2.2.2.1 x.1.2.2.2.2.1 x.1.2.2.2.2.2.1 x.1.2.2.2.2.2.2.1 x.1.2.2.2.2.2.2.2.1 x.1.2.2.2.2.2.2.2.2.1 x.2.1.1 x.2.1.2.1 x.2.1.2.2).map λr=>((((r.1,(r.2.1,r.2.2.1)),(r.2.2.2.1,r.2.2.2.2.1)),()),((r.2.2.2.2.2.1,r.2.2.2.2.2.2.1,r.2.2.2.2.2.2.2.1,r.2.2.2.2.2.2.2.2.1,r.2.2.2.2.2.2.2.2.2.1,r.2.2.2.2.2.2.2.2.2.2.1,r.2.2.2.2.2.2.2.2.2.2.2.1,r.2.2.2.2.2.2.2.2.2.2.2.2.1,r.2.2.2.2.2.2.2.2.2.2.2.2.2,()),()))⟩
def Qp (r:Bool × List Int × List Int × Int × Int × Int × Int × List (Int × Int × Int × Bool × (List Int) × List Int) × List Bool × List Bool × Int × Int × Bool × Int):TT EY.rs × ET EY.ps:=((((r.1,(r.2.1,r.2.2.1)),(r.2.2.2.1,r.2.2.2.2.1)),()),((r.2.2.2.2.2.1,r.2.2.2.2.2.2.1,r.2.2.2.2.2.2.2.1,r.2.2.2.2.2.2.2.2.1,r.2.2.2.2.2.2.2.2.2.1,r.2.2.2.2.2.2.2.2.2.2.1,r.2.2.2.2.2.2.2.2.2.2.2.1,r.2.2.2.2.2.2.2.2.2.2.2.2.1,r.2.2.2.2.2.2.2.2.2.2.2.2.2,()),()))
def aG:Bs (TT EY.rs × ET EY.ps):=⟨⟨48,57,[48]⟩,AH [],AH [],AH []⟩
theorem Qq:UB Tryz.prog 98 EY :=
 FJ (Bt:=AP []) (l:= [(142, .pu Iu),(168, .io Cl [(7,51)]),(169, .io Ct [(20,53)]),(170, .io DF [(34,55)])]) (C:=aG) (by kernel_rfl) AK ⟨N7,HT,LA,Jj,trivial⟩ (fn:=Tryz.f98) (by kernel_rfl) rfl (by kernel_rfl) (by decide) (by kernel_rfl) (m:=57) (by decide) (by decide) (F:=λk x=>CU.f k x.1.1 x.1.2.1 x.1.2.2.1 x.1.2.2.2.1 x.1.2.2.2.2.1 x.1.2.2.2.2.2.1 x.1.2.2.2.2.2.2.1 x.1.2.2.2.2.2.2.2.1 x.1.2.2.2.2.2.2.2.2.1 x.2.1.1 x.2.1.2.1 x.2.1.2.2) (q:=Qp) (λk x=>rfl)
  (by exact trivial)
  (λk ⟨⟨AX,Al,Am,Ao,BD,BB,BH,BJ,BE,_⟩,(a1:Int × Int × Int),_⟩=>by show Ae Qp (CU.f k AX Al Am Ao BD BB BH BJ BE a1.1 a1.2.1 a1.2.2) _;unfold CU.f;exact go)
end
section
attribute [local irreducible] AM.f
def FV:D0:=⟨[.st 135 [.ty (.int .i64), .ty (.int .i64), .row false 93 (.cons (.int .i64) (.cons (.int .i64) (.cons (.int .i64) (.cons .bool (.cons (.row 73 (.int .u64)) (.row 73 (.int .u64))))))), .ty (.row 4 .bool), .row false 4 .bool, .ty (.int .i64), .ty (.int .i64), .ty .bool, .ty (.int .i64)], .ty (.cons (.cons .bool (.cons (.row 73 (.int .u64)) (.row 73 (.int .u64)))) (.cons (.int .u64) (.int .i64)))],[(.cons (.cons .bool (.cons (.row 73 (.int .u64)) (.row 73 (.int .u64)))) (.cons (.int .u64) (.int .i64)))],λk x=>(G4.f k x.1.1 x.1.2.1 x.1.2.2.1 x.1.2.2.2.1 x.1.2.2.2.2.1 x.1.2.2.2.2.2.1 x.1.2.2.2.2.2.2.1 x.1.2.2.2.2.2.2.2.1 x.1.2.2.2.2.2.2.2.2.1 x.2.1.1.1 x.2.1.1.2.1 x.2.1.1.2.2 x.2.1.2.1 x.2.1.2.2).map λr=>((((r.1,(r.2.1,r.2.2.1)),(r.2.2.2.1,r.2.2.2.2.1)),()),((r.2.2.2.2.2.1,r.2.2.2.2.2.2.1,r.2.2.2.2.2.2.2.1,r.2.2.2.2.2.2.2.2.1,r.2.2.2.2.2.2.2.2.2.1,r.2.2.2.2.2.2.2.2.2.2.1,r.2.2.2.2.2.2.2.2.2.2.2.1,r.2.2.2.2.2.2.2.2.2.2.2.2.1,r.2.2.2.2.2.2.2.2.2.2.2.2.2,()),()))⟩
def Qr (r:Bool × List Int × List Int × Int × Int × Int × Int × List (Int × Int × Int × Bool × (List Int) × List Int) × List Bool × List Bool × Int × Int × Bool × Int):TT FV.rs × ET FV.ps:=((((r.1,(r.2.1,r.2.2.1)),(r.2.2.2.1,r.2.2.2.2.1)),()),((r.2.2.2.2.2.1,r.2.2.2.2.2.2.1,r.2.2.2.2.2.2.2.1,r.2.2.2.2.2.2.2.2.1,r.2.2.2.2.2.2.2.2.2.1,r.2.2.2.2.2.2.2.2.2.2.1,r.2.2.2.2.2.2.2.2.2.2.2.1,r.2.2.2.2.2.2.2.2.2.2.2.2.1,r.2.2.2.2.2.2.2.2.2.2.2.2.2,()),()))
def aH:Bs (TT FV.rs × ET FV.ps):=⟨⟨9,14,[9]⟩,AH [],AH [],AH []⟩
theorem aI:UB Tryz.prog 177 FV :=
 FJ (Bt:=AP []) (l:= [(171, .io CQ [(8,12)])]) (C:=aH) (by kernel_rfl) AK ⟨EF,trivial⟩ (fn:=Tryz.f177) (by kernel_rfl) rfl (by kernel_rfl) (by decide) (by kernel_rfl) (m:=14) (by decide) (by decide) (F:=λk x=>G4.f k x.1.1 x.1.2.1 x.1.2.2.1 x.1.2.2.2.1 x.1.2.2.2.2.1 x.1.2.2.2.2.2.1 x.1.2.2.2.2.2.2.1 x.1.2.2.2.2.2.2.2.1 x.1.2.2.2.2.2.2.2.2.1 x.2.1.1.1 x.2.1.1.2.1 x.2.1.1.2.2 x.2.1.2.1 x.2.1.2.2) (q:=Qr) (λk x=>rfl)
  (by exact trivial)
  (λk ⟨⟨AX,Al,Am,Ao,BD,BB,BH,BJ,BE,_⟩,(a1:(Bool × (List Int) × List Int) × Int × Int),_⟩=>by show Ae Qr (G4.f k AX Al Am Ao BD BB BH BJ BE a1.1.1 a1.1.2.1 a1.1.2.2 a1.2.1 a1.2.2) _;unfold G4.f;exact go)
end
section
def FU:D0:=⟨[.st 135 [.ty (.int .i64), .ty (.int .i64), .row false 93 (.cons (.int .i64) (.cons (.int .i64) (.cons (.int .i64) (.cons .bool (.cons (.row 73 (.int .u64)) (.row 73 (.int .u64))))))), .ty (.row 4 .bool), .row false 4 .bool, .ty (.int .i64), .ty (.int .i64), .ty .bool, .ty (.int .i64)]],[(.row 4 .bool)],λk x=>(D4.f k x.1.1 x.1.2.1 x.1.2.2.1 x.1.2.2.2.1 x.1.2.2.2.2.1 x.1.2.2.2.2.2.1 x.1.2.2.2.2.2.2.1 x.1.2.2.2.2.2.2.2.1 x.1.2.2.2.2.2.2.2.2.1).map λr=>((r.1,()),((r.2.1,r.2.2.1,r.2.2.2.1,r.2.2.2.2.1,r.2.2.2.2.2.1,r.2.2.2.2.2.2.1,r.2.2.2.2.2.2.2.1,r.2.2.2.2.2.2.2.2.1,r.2.2.2.2.2.2.2.2.2,()),()))⟩
def Qs (r:List Bool × Int × Int × List (Int × Int × Int × Bool × (List Int) × List Int) × List Bool × List Bool × Int × Int × Bool × Int):TT FU.rs × ET FU.ps:=((r.1,()),((r.2.1,r.2.2.1,r.2.2.2.1,r.2.2.2.2.1,r.2.2.2.2.2.1,r.2.2.2.2.2.2.1,r.2.2.2.2.2.2.2.1,r.2.2.2.2.2.2.2.2.1,r.2.2.2.2.2.2.2.2.2,()),()))
def aJ:Bs (TT FU.rs × ET FU.ps):=⟨⟨11,14,[11]⟩,AH [],AH [],AH []⟩
theorem aE:UB Tryz.prog 47 FU :=
 FJ (Bt:=AP []) (l:= []) (C:=aJ) (by kernel_rfl) AK trivial (fn:=Tryz.f47) (by kernel_rfl) rfl (by kernel_rfl) (by decide) (by kernel_rfl) (m:=14) (by decide) (by decide) (F:=λk x=>D4.f k x.1.1 x.1.2.1 x.1.2.2.1 x.1.2.2.2.1 x.1.2.2.2.2.1 x.1.2.2.2.2.2.1 x.1.2.2.2.2.2.2.1 x.1.2.2.2.2.2.2.2.1 x.1.2.2.2.2.2.2.2.2.1) (q:=Qs) (λk x=>rfl)
  (by exact trivial)
  (λk ⟨⟨AX,Al,Am,Ao,BD,BB,BH,BJ,BE,_⟩,_⟩=>by show Ae Qs (D4.f k AX Al Am Ao BD BB BH BJ BE) _;unfold D4.f;exact go)
end
section
attribute [local irreducible] AM.f
def EZ:D0:=⟨[.st 135 [.ty (.int .i64), .ty (.int .i64), .row false 93 (.cons (.int .i64) (.cons (.int .i64) (.cons (.int .i64) (.cons .bool (.cons (.row 73 (.int .u64)) (.row 73 (.int .u64))))))), .ty (.row 4 .bool), .row false 4 .bool, .ty (.int .i64), .ty (.int .i64), .ty .bool, .ty (.int .i64)], .ty (.cons (.cons .bool (.cons (.row 73 (.int .u64)) (.row 73 (.int .u64)))) (.cons (.int .u64) (.int .i64))), .ty (.cons (.cons .bool (.cons (.row 73 (.int .u64)) (.row 73 (.int .u64)))) (.cons (.int .u64) (.int .i64)))],[(.cons (.cons .bool (.cons (.row 73 (.int .u64)) (.row 73 (.int .u64)))) (.cons (.int .u64) (.int .i64)))],λk x=>(DX.f k x.1.1 x.1.2.1 x.1.2.2.1 x.1.2.2.2.1 x.1.2.2.2.2.1 x.1.2.2.2.2.2.1 x.1.2.2.2.2.2.2.1 x.1.2.2.2.2.2.2.2.1 x.1.2.2.2.2.2.2.2.2.1 x.2.1.1.1 x.2.1.1.2.1 x.2.1.1.2.2 x.2.1.2.1 x.2.1.2.2 x.2.2.1.1.1 x.2.2.1.1.2.1 x.2.2.1.1.2.2 x.2.2.1.2.1 x.2.2.1.2.2).map λr=>((((r.1,(r.2.1,r.2.2.1)),(r.2.2.2.1,r.2.2.2.2.1)),()),((r.2.2.2.2.2.1,r.2.2.2.2.2.2.1,r.2.2.2.2.2.2.2.1,r.2.2.2.2.2.2.2.2.1,r.2.2.2.2.2.2.2.2.2.1,r.2.2.2.2.2.2.2.2.2.2.1,r.2.2.2.2.2.2.2.2.2.2.2.1,r.2.2.2.2.2.2.2.2.2.2.2.2.1,r.2.2.2.2.2.2.2.2.2.2.2.2.2,()),()))⟩
def Qt (r:Bool × List Int × List Int × Int × Int × Int × Int × List (Int × Int × Int × Bool × (List Int) × List Int) × List Bool × List Bool × Int × Int × Bool × Int):TT EZ.rs × ET EZ.ps:=((((r.1,(r.2.1,r.2.2.1)),(r.2.2.2.1,r.2.2.2.2.1)),()),((r.2.2.2.2.2.1,r.2.2.2.2.2.2.1,r.2.2.2.2.2.2.2.1,r.2.2.2.2.2.2.2.2.1,r.2.2.2.2.2.2.2.2.2.1,r.2.2.2.2.2.2.2.2.2.2.1,r.2.2.2.2.2.2.2.2.2.2.2.1,r.2.2.2.2.2.2.2.2.2.2.2.2.1,r.2.2.2.2.2.2.2.2.2.2.2.2.2,()),()))
def aK:Bs (TT EZ.rs × ET EZ.ps):=⟨⟨11,16,[11]⟩,AH [],AH [],AH []⟩
theorem Qu:UB Tryz.prog 99 EZ :=
 FJ (Bt:=AP []) (l:= [(171, .io CQ [(10,14)])]) (C:=aK) (by kernel_rfl) AK ⟨EF,trivial⟩ (fn:=Tryz.f99) (by kernel_rfl) rfl (by kernel_rfl) (by decide) (by kernel_rfl) (m:=16) (by decide) (by decide) (F:=λk x=>DX.f k x.1.1 x.1.2.1 x.1.2.2.1 x.1.2.2.2.1 x.1.2.2.2.2.1 x.1.2.2.2.2.2.1 x.1.2.2.2.2.2.2.1 x.1.2.2.2.2.2.2.2.1 x.1.2.2.2.2.2.2.2.2.1 x.2.1.1.1 x.2.1.1.2.1 x.2.1.1.2.2 x.2.1.2.1 x.2.1.2.2 x.2.2.1.1.1 x.2.2.1.1.2.1 x.2.2.1.1.2.2 x.2.2.1.2.1 x.2.2.1.2.2) (q:=Qt) (λk x=>rfl)
  (by exact trivial)
  (λk ⟨⟨AX,Al,Am,Ao,BD,BB,BH,BJ,BE,_⟩,(a1:(Bool × (List Int) × List Int) × Int × Int),(a2:(Bool × (List Int) × List Int) × Int × Int),_⟩=>by show Ae Qt (DX.f k AX Al Am Ao BD BB BH BJ BE a1.1.1 a1.1.2.1 a1.1.2.2 a1.2.1 a1.2.2 a2.1.1 a2.1.2.1 a2.1.2.2 a2.2.1 a2.2.2) _;unfold DX.f;exact go)
end
section
attribute [local irreducible] AM.f
def FW:D0:=⟨[.st 135 [.ty (.int .i64), .ty (.int .i64), .row false 93 (.cons (.int .i64) (.cons (.int .i64) (.cons (.int .i64) (.cons .bool (.cons (.row 73 (.int .u64)) (.row 73 (.int .u64))))))), .ty (.row 4 .bool), .row false 4 .bool, .ty (.int .i64), .ty (.int .i64), .ty .bool, .ty (.int .i64)], .ty (.cons (.cons .bool (.cons (.row 73 (.int .u64)) (.row 73 (.int .u64)))) (.cons (.int .u64) (.int .i64)))],[(.cons (.cons .bool (.cons (.row 73 (.int .u64)) (.row 73 (.int .u64)))) (.cons (.int .u64) (.int .i64)))],λk x=>(G5.f k x.1.1 x.1.2.1 x.1.2.2.1 x.1.2.2.2.1 x.1.2.2.2.2.1 x.1.2.2.2.2.2.1 x.1.2.2.2.2.2.2.1 x.1.2.2.2.2.2.2.2.1 x.1.2.2.2.2.2.2.2.2.1 x.2.1.1.1 x.2.1.1.2.1 x.2.1.1.2.2 x.2.1.2.1 x.2.1.2.2).map λr=>((((r.1,(r.2.1,r.2.2.1)),(r.2.2.2.1,r.2.2.2.2.1)),()),((r.2.2.2.2.2.1,r.2.2.2.2.2.2.1,r.2.2.2.2.2.2.2.1,r.2.2.2.2.2.2.2.2.1,r.2.2.2.2.2.2.2.2.2.1,r.2.2.2.2.2.2.2.2.2.2.1,r.2.2.2.2.2.2.2.2.2.2.2.1,r.2.2.2.2.2.2.2.2.2.2.2.2.1,r.2.2.2.2.2.2.2.2.2.2.2.2.2,()),()))⟩
def Qv (r:Bool × List Int × List Int × Int × Int × Int × Int × List (Int × Int × Int × Bool × (List Int) × List Int) × List Bool × List Bool × Int × Int × Bool × Int):TT FW.rs × ET FW.ps:=((((r.1,(r.2.1,r.2.2.1)),(r.2.2.2.1,r.2.2.2.2.1)),()),((r.2.2.2.2.2.1,r.2.2.2.2.2.2.1,r.2.2.2.2.2.2.2.1,r.2.2.2.2.2.2.2.2.1,r.2.2.2.2.2.2.2.2.2.1,r.2.2.2.2.2.2.2.2.2.2.1,r.2.2.2.2.2.2.2.2.2.2.2.1,r.2.2.2.2.2.2.2.2.2.2.2.2.1,r.2.2.2.2.2.2.2.2.2.2.2.2.2,()),()))
def aM:Bs (TT FW.rs × ET FW.ps):=⟨⟨9,14,[9]⟩,AH [],AH [],AH []⟩
theorem aN:UB Tryz.prog 172 FW :=
 FJ (Bt:=AP []) (l:= [(171, .io CQ [(8,12)])]) (C:=aM) (by kernel_rfl) AK ⟨EF,trivial⟩ (fn:=Tryz.f172) (by kernel_rfl) rfl (by kernel_rfl) (by decide) (by kernel_rfl) (m:=14) (by decide) (by decide) (F:=λk x=>G5.f k x.1.1 x.1.2.1 x.1.2.2.1 x.1.2.2.2.1 x.1.2.2.2.2.1 x.1.2.2.2.2.2.1 x.1.2.2.2.2.2.2.1 x.1.2.2.2.2.2.2.2.1 x.1.2.2.2.2.2.2.2.2.1 x.2.1.1.1 x.2.1.1.2.1 x.2.1.1.2.2 x.2.1.2.1 x.2.1.2.2) (q:=Qv) (λk x=>rfl)
  (by exact trivial)
  (λk ⟨⟨AX,Al,Am,Ao,BD,BB,BH,BJ,BE,_⟩,(a1:(Bool × (List Int) × List Int) × Int × Int),_⟩=>by show Ae Qv (G5.f k AX Al Am Ao BD BB BH BJ BE a1.1.1 a1.1.2.1 a1.1.2.2 a1.2.1 a1.2.2) _;unfold G5.f;exact go)
end
section
attribute [local irreducible] Ap.f
def Oo:AS:=⟨[(.row 73 (.int .u64)), .int .i64],[(.row 73 (.int .u64))],λk x=>(B0.f k x.1 x.2.1).map λr=>(r,())⟩
def Tc (r:List Int):TT Oo.rs:=(r,())
@[reducible] def VZ:List Slot:= [.tmp 6 [.ty (.int .i64)], .tmp 7 [.own .mine 7 73 (.int .u64)], .tmp 8 [.ty (.int .u64)], .tmp 25 [.ty (.row 73 (.int .u64))], .tmp 26 [.ty (.int .i64)], .tmp 27 [.ty (.int .i64)]]
def fY (k:Nat) (x:TS VZ):Option (List Int):=match x with | ⟨⟨(x6:Int),_⟩,⟨(x7:List Int),_⟩,⟨(x8:Int),_⟩,⟨(zU:List Int),_⟩,⟨(x26:Int),_⟩,⟨(x27:Int),_⟩,_⟩=>if 0<=x6/\x6<64 then B0.l0 k x6 x7 x8 zU x26 x27 else none
def ABH:Bs (TT Oo.rs):=⟨⟨50,50,[]⟩,AH [(0,⟨VZ,λk x=>(fY k x).map Tc⟩)],AH [],AH []⟩
theorem kY:DP Tryz.prog 210 Oo :=
 Aa (Bt:=AP []) (l:= [(187, .pu DC)]) (C:=ABH) (by kernel_rfl) AK ⟨Dc,trivial⟩ (fn:=Tryz.f210) (by kernel_rfl) rfl (by kernel_rfl) (by decide) (by kernel_rfl) (F:=λk x=>B0.f k x.1 x.2.1) (m:=Tc) (λk x=>rfl)
  (by
   refine And.intro ?_ ?_
   ·refine Au (sl:=VZ) (F:=fY) (λ⟨⟨(x6:Int),_⟩,⟨(x7:List Int),_⟩,⟨(x8:Int),_⟩,⟨(zU:List Int),_⟩,⟨(x26:Int),_⟩,⟨(x27:Int),_⟩,_⟩=>by show(if 0<=x6/\x6<64 then B0.l0 0 x6 x7 x8 zU x26 x27 else none)=none;split<;>rfl) λk ⟨⟨(x6:Int),_⟩,⟨(x7:List Int),_⟩,⟨(x8:Int),_⟩,⟨(zU:List Int),_⟩,⟨(x26:Int),_⟩,⟨(x27:Int),_⟩,_⟩=> ?_
    show Ae Tc (if 0<=x6/\x6<64 then B0.l0 (k+1) x6 x7 x8 zU x26 x27 else none) _;rw[B0.l0];exact go
   exact trivial)
  (λk ⟨(a0:List Int),(a1:Int),_⟩=>by show Ae Tc (B0.f k a0 a1) _;unfold B0.f;exact go)
end
section
def Td:AS:=⟨[(.row 73 (.int .u64)), .int .i64],[.bool],λ_ x=>(Lt.f x.1 x.2.1).map λr=>(r,())⟩
def kZ (r:Bool):TT Td.rs:=(r,())
theorem ke:DP Tryz.prog 254 Td :=
 Aa (Bt:=AP []) (l:= []) (C:=Ai) (by kernel_rfl) AK trivial (fn:=Tryz.f254) (by kernel_rfl) rfl (by kernel_rfl) (by decide) (by kernel_rfl) (F:=λk x=>Lt.f x.1 x.2.1) (m:=kZ) (λk x=>rfl)
  (by exact trivial)
  (λk ⟨(a0:List Int),(a1:Int),_⟩=>by show Ae kZ (Lt.f a0 a1) _;unfold Lt.f;exact go)
end
section
attribute [local irreducible] Cd.f Lt.f
def Pr:AS:=⟨[(.row 73 (.int .u64))],[.int .i64],λk x=>(EE.f k x.1).map λr=>(r,())⟩
def Pt (r:Int):TT Pr.rs:=(r,())
@[reducible] def SE:List Slot:= [.tmp 0 [.ty (.row 73 (.int .u64))], .tmp 7 [.ty (.int .i64)], .tmp 8 [.ty (.int .i64)]]
def ZO (k:Nat) (x:TS SE):Option (Int):=EE.l0 k x.1.1 x.2.1.1 x.2.2.1.1
def xe:Bs (TT Pr.rs):=⟨⟨16,16,[]⟩,AH [(0,⟨SE,λk x=>(ZO k x).map Pt⟩)],AH [],AH []⟩
theorem xg:DP Tryz.prog 255 Pr :=
 Aa (Bt:=AP []) (l:= [(134, .pu FG),(254, .pu Td)]) (C:=xe) (by kernel_rfl) AK ⟨Gr,ke,trivial⟩ (fn:=Tryz.f255) (by kernel_rfl) rfl (by kernel_rfl) (by decide) (by kernel_rfl) (F:=λk x=>EE.f k x.1) (m:=Pt) (λk x=>rfl)
  (by
   refine And.intro ?_ ?_
   ·refine Au (sl:=SE) (F:=ZO) (λx=>rfl) λk ⟨⟨(x0:List Int),_⟩,⟨(x7:Int),_⟩,⟨(x8:Int),_⟩,_⟩=> ?_
    show Ae Pt (EE.l0 (k+1) x0 x7 x8) _;rw[EE.l0];exact go
   exact trivial)
  (λk ⟨(a0:List Int),_⟩=>by show Ae Pt (EE.f k a0) _;unfold EE.f;exact go)
end
section
attribute [local irreducible] Ig.f BQ.f Cd.f Iq.f Cg.f CY.f B0.f Aw.f D8.f Eo.f Lt.f EE.f
def NJ:AS:=⟨[.bool,(.row 73 (.int .u64)), .int .i64, .bool],[.int .u64],λk x=>(Dt.f k x.1 x.2.1 x.2.2.1 x.2.2.2.1).map λr=>(r,())⟩
def NK (r:Int):TT NJ.rs:=(r,())
@[reducible] def Pu:List Slot:= [.tmp 0 [.ty .bool], .tmp 1 [.ty (.row 73 (.int .u64))], .tmp 2 [.ty (.int .i64)]]
def XI (k:Nat) (x:TS Pu):Option (Int):=Dt.j0 k x.1.1 x.2.1.1 x.2.2.1.1
def uG:Bs (TT NJ.rs):=⟨⟨72,72,[]⟩,AH [],AH [(5,⟨Pu,λk x=>(XI k x).map NK⟩)],AH []⟩
theorem uH:DP Tryz.prog 211 NJ :=
 Aa (Bt:=AP []) (l:= [(117, .pu MP),(132, .pu MA),(134, .pu FG),(199, .pu Pv),(208, .pu Iv),(209, .pu Er),(210, .pu Oo),(216, .pu D9),(249, .pu Oq),(253, .pu Kj),(254, .pu Td),(255, .pu Pr)]) (C:=uG) (by kernel_rfl) AK ⟨SH,Te,Gr,fZ,N8,Ga,kY,Fw,kf,Ua,ke,xg,trivial⟩ (fn:=Tryz.f211) (by kernel_rfl) rfl (by kernel_rfl) (by decide) (by kernel_rfl) (F:=λk x=>Dt.f k x.1 x.2.1 x.2.2.1 x.2.2.2.1) (m:=NK) (λk x=>rfl)
  (by
   refine And.intro ?_ ?_
   ·refine Be (sl:=Pu) (F:=XI) (λx=>rfl) λk ⟨⟨(x0:Bool),_⟩,⟨(x1:List Int),_⟩,⟨(x2:Int),_⟩,_⟩=> ?_
    show Ae NK (Dt.j0 (k+1) x0 x1 x2) _;rw[Dt.j0];exact go
   exact trivial)
  (λk ⟨(a0:Bool),(a1:List Int),(a2:Int),(a3:Bool),_⟩=>by show Ae NK (Dt.f k a0 a1 a2 a3) _;unfold Dt.f;exact go)
end
section
attribute [local irreducible] Cd.f Gx.f HZ.f Cg.f CY.f B0.f Dt.f
def IP:AS:=⟨[(.cons .bool (.cons (.row 73 (.int .u64)) (.row 73 (.int .u64))))],[.int .u64],λk x=>(Bk.f k x.1.1 x.1.2.1 x.1.2.2).map λr=>(r,())⟩
def Ot (r:Int):TT IP.rs:=(r,())
theorem Ou:DP Tryz.prog 143 IP :=
 Aa (Bt:=AP [(1,[0,1,3,0,8,31,63,127]),(7,[0,1,0,7,0,16,63,127,255,255,255,511,3071,8191])]) (l:= [(134, .pu FG),(138, .pu MQ),(207, .pu Px),(208, .pu Iv),(209, .pu Er),(210, .pu Oo),(211, .pu NJ)]) (C:=Ai) (by kernel_rfl) AK ⟨Gr,Va,fc,N8,Ga,kY,uH,trivial⟩ (fn:=Tryz.f143) (by kernel_rfl) rfl (by kernel_rfl) (by decide) (by kernel_rfl) (F:=λk x=>Bk.f k x.1.1 x.1.2.1 x.1.2.2) (m:=Ot) (λk x=>rfl)
  (by exact trivial)
  (λk ⟨(a0:Bool × List Int × List Int),_⟩=>by show Ae Ot (Bk.f k a0.1 a0.2.1 a0.2.2) _;unfold Bk.f;unfold Bk.j0;exact goq)
end
section
attribute [local irreducible] Bk.f BV.f Bg.f Br.f
def Ec:D0:=⟨[.st 135 [.ty (.int .i64), .ty (.int .i64), .row false 93 (.cons (.int .i64) (.cons (.int .i64) (.cons (.int .i64) (.cons .bool (.cons (.row 73 (.int .u64)) (.row 73 (.int .u64))))))), .ty (.row 4 .bool), .row false 4 .bool, .ty (.int .i64), .ty (.int .i64), .ty .bool, .ty (.int .i64)], .ty (.int .i64), .ty (.int .i64)],[(.cons (.cons .bool (.cons (.row 73 (.int .u64)) (.row 73 (.int .u64)))) (.cons (.int .u64) (.int .i64)))],λk x=>(DW.f k x.1.1 x.1.2.1 x.1.2.2.1 x.1.2.2.2.1 x.1.2.2.2.2.1 x.1.2.2.2.2.2.1 x.1.2.2.2.2.2.2.1 x.1.2.2.2.2.2.2.2.1 x.1.2.2.2.2.2.2.2.2.1 x.2.1 x.2.2.1).map λr=>((((r.1,(r.2.1,r.2.2.1)),(r.2.2.2.1,r.2.2.2.2.1)),()),((r.2.2.2.2.2.1,r.2.2.2.2.2.2.1,r.2.2.2.2.2.2.2.1,r.2.2.2.2.2.2.2.2.1,r.2.2.2.2.2.2.2.2.2.1,r.2.2.2.2.2.2.2.2.2.2.1,r.2.2.2.2.2.2.2.2.2.2.2.1,r.2.2.2.2.2.2.2.2.2.2.2.2.1,r.2.2.2.2.2.2.2.2.2.2.2.2.2,()),()))⟩
def Qw (r:Bool × List Int × List Int × Int × Int × Int × Int × List (Int × Int × Int × Bool × (List Int) × List Int) × List Bool × List Bool × Int × Int × Bool × Int):TT Ec.rs × ET Ec.ps:=((((r.1,(r.2.1,r.2.2.1)),(r.2.2.2.1,r.2.2.2.2.1)),()),((r.2.2.2.2.2.1,r.2.2.2.2.2.2.1,r.2.2.2.2.2.2.2.1,r.2.2.2.2.2.2.2.2.1,r.2.2.2.2.2.2.2.2.2.1,r.2.2.2.2.2.2.2.2.2.2.1,r.2.2.2.2.2.2.2.2.2.2.2.1,r.2.2.2.2.2.2.2.2.2.2.2.2.1,r.2.2.2.2.2.2.2.2.2.2.2.2.2,()),()))
def aQ:Bs (TT Ec.rs × ET Ec.ps):=⟨⟨43,52,[43]⟩,AH [],AH [],AH []⟩
theorem Qx:UB Tryz.prog 96 Ec :=
 FJ (Bt:=AP []) (l:= [(143, .pu IP),(168, .io Cl [(9,46)]),(169, .io Ct [(14,48)]),(170, .io DF [(42,50)])]) (C:=aQ) (by kernel_rfl) AK ⟨Ou,HT,LA,Jj,trivial⟩ (fn:=Tryz.f96) (by kernel_rfl) rfl (by kernel_rfl) (by decide) (by kernel_rfl) (m:=52) (by decide) (by decide) (F:=λk x=>DW.f k x.1.1 x.1.2.1 x.1.2.2.1 x.1.2.2.2.1 x.1.2.2.2.2.1 x.1.2.2.2.2.2.1 x.1.2.2.2.2.2.2.1 x.1.2.2.2.2.2.2.2.1 x.1.2.2.2.2.2.2.2.2.1 x.2.1 x.2.2.1) (q:=Qw) (λk x=>rfl)
  (by exact trivial)
  (λk ⟨⟨AX,Al,Am,Ao,BD,BB,BH,BJ,BE,_⟩,(a1:Int),(a2:Int),_⟩=>by show Ae Qw (DW.f k AX Al Am Ao BD BB BH BJ BE a1 a2) _;unfold DW.f;exact go)
end
section
def EX:D0:=⟨[.st 135 [.ty (.int .i64), .ty (.int .i64), .row false 93 (.cons (.int .i64) (.cons (.int .i64) (.cons (.int .i64) (.cons .bool (.cons (.row 73 (.int .u64)) (.row 73 (.int .u64))))))), .ty (.row 4 .bool), .row false 4 .bool, .ty (.int .i64), .ty (.int .i64), .ty .bool, .ty (.int .i64)]],[.int .i64],λk x=>(D6.f k x.1.1 x.1.2.1 x.1.2.2.1 x.1.2.2.2.1 x.1.2.2.2.2.1 x.1.2.2.2.2.2.1 x.1.2.2.2.2.2.2.1 x.1.2.2.2.2.2.2.2.1 x.1.2.2.2.2.2.2.2.2.1).map λr=>((r.1,()),((r.2.1,r.2.2.1,r.2.2.2.1,r.2.2.2.2.1,r.2.2.2.2.2.1,r.2.2.2.2.2.2.1,r.2.2.2.2.2.2.2.1,r.2.2.2.2.2.2.2.2.1,r.2.2.2.2.2.2.2.2.2,()),()))⟩
def Qy (r:Int × Int × Int × List (Int × Int × Int × Bool × (List Int) × List Int) × List Bool × List Bool × Int × Int × Bool × Int):TT EX.rs × ET EX.ps:=((r.1,()),((r.2.1,r.2.2.1,r.2.2.2.1,r.2.2.2.2.1,r.2.2.2.2.2.1,r.2.2.2.2.2.2.1,r.2.2.2.2.2.2.2.1,r.2.2.2.2.2.2.2.2.1,r.2.2.2.2.2.2.2.2.2,()),()))
def aT:Bs (TT EX.rs × ET EX.ps):=⟨⟨9,12,[9]⟩,AH [],AH [],AH []⟩
theorem Qo:UB Tryz.prog 45 EX :=
 FJ (Bt:=AP []) (l:= []) (C:=aT) (by kernel_rfl) AK trivial (fn:=Tryz.f45) (by kernel_rfl) rfl (by kernel_rfl) (by decide) (by kernel_rfl) (m:=12) (by decide) (by decide) (F:=λk x=>D6.f k x.1.1 x.1.2.1 x.1.2.2.1 x.1.2.2.2.1 x.1.2.2.2.2.1 x.1.2.2.2.2.2.1 x.1.2.2.2.2.2.2.1 x.1.2.2.2.2.2.2.2.1 x.1.2.2.2.2.2.2.2.2.1) (q:=Qy) (λk x=>rfl)
  (by exact trivial)
  (λk ⟨⟨AX,Al,Am,Ao,BD,BB,BH,BJ,BE,_⟩,_⟩=>by show Ae Qy (D6.f k AX Al Am Ao BD BB BH BJ BE) _;unfold D6.f;exact go)
end
section
def N9:AS:=⟨[(.cons .bool (.cons (.row 73 (.int .u64)) (.row 73 (.int .u64))))],[(.cons .bool (.cons (.row 73 (.int .u64)) (.row 73 (.int .u64))))],λk x=>(GY.f k x.1.1 x.1.2.1 x.1.2.2).map λr=>((r.1,r.2.1,r.2.2),())⟩
def Ub (r:Bool × List Int × List Int):TT N9.rs:=((r.1,r.2.1,r.2.2),())
theorem jC:DP Tryz.prog 109 N9 :=
 Aa (Bt:=AP [(1,[0,1,0,0,8,28,0,0,128,508,1023,2047])]) (l:= []) (C:=Ai) (by kernel_rfl) AK trivial (fn:=Tryz.f109) (by kernel_rfl) rfl (by kernel_rfl) (by decide) (by kernel_rfl) (F:=λk x=>GY.f k x.1.1 x.1.2.1 x.1.2.2) (m:=Ub) (λk x=>rfl)
  (by exact trivial)
  (λk ⟨(a0:Bool × (List Int) × List Int),_⟩=>by show Ae Ub (GY.f k a0.1 a0.2.1 a0.2.2) _;unfold GY.f;exact go)
end
section
attribute [local irreducible] GY.f
def DB:D0:=⟨[.st 135 [.ty (.int .i64), .ty (.int .i64), .row false 93 (.cons (.int .i64) (.cons (.int .i64) (.cons (.int .i64) (.cons .bool (.cons (.row 73 (.int .u64)) (.row 73 (.int .u64))))))), .ty (.row 4 .bool), .row false 4 .bool, .ty (.int .i64), .ty (.int .i64), .ty .bool, .ty (.int .i64)]],[(.row 93 (.cons (.int .i64) (.cons (.int .i64) (.cons (.int .i64) (.cons .bool (.cons (.row 73 (.int .u64)) (.row 73 (.int .u64))))))))],λk x=>(Aj.f k x.1.1 x.1.2.1 x.1.2.2.1 x.1.2.2.2.1 x.1.2.2.2.2.1 x.1.2.2.2.2.2.1 x.1.2.2.2.2.2.2.1 x.1.2.2.2.2.2.2.2.1 x.1.2.2.2.2.2.2.2.2.1).map λr=>((r.1,()),((r.2.1,r.2.2.1,r.2.2.2.1,r.2.2.2.2.1,r.2.2.2.2.2.1,r.2.2.2.2.2.2.1,r.2.2.2.2.2.2.2.1,r.2.2.2.2.2.2.2.2.1,r.2.2.2.2.2.2.2.2.2,()),()))⟩
def F9 (r:List (Int × Int × Int × Bool × (List Int) × List Int) × Int × Int × List (Int × Int × Int × Bool × (List Int) × List Int) × List Bool × List Bool × Int × Int × Bool × Int):TT DB.rs × ET DB.ps:=((r.1,()),((r.2.1,r.2.2.1,r.2.2.2.1,r.2.2.2.2.1,r.2.2.2.2.2.1,r.2.2.2.2.2.2.1,r.2.2.2.2.2.2.2.1,r.2.2.2.2.2.2.2.2.1,r.2.2.2.2.2.2.2.2.2,()),()))
@[reducible] def Hq:List Slot:= [.tmp 3 [.own .mine 3 93 (.cons (.int .i64) (.cons (.int .i64) (.cons (.int .i64) (.cons .bool (.cons (.row 73 (.int .u64)) (.row 73 (.int .u64)))))))], .tmp 11 [.own .GF 11 93 (.cons (.int .i64) (.cons (.int .i64) (.cons (.int .i64) (.cons .bool (.cons (.row 73 (.int .u64)) (.row 73 (.int .u64)))))))], .tmp 12 [.ty (.int .i64)], .tmp 13 [.ty (.int .i64)], .DO 27 .kept 135 [.ty (.int .i64), .ty (.int .i64), .al 11, .ty (.row 4 .bool), .own .GF 30 4 .bool, .ty (.int .i64), .ty (.int .i64), .ty .bool, .ty (.int .i64)]]
def LB (k:Nat) (x:TS Hq):Option (List (Int × Int × Int × Bool × (List Int) × List Int) × Int × Int × List (Int × Int × Int × Bool × (List Int) × List Int) × List Bool × List Bool × Int × Int × Bool × Int):=Aj.l0 k x.1.1 x.2.1.1 x.2.2.1.1 x.2.2.2.1.1 x.2.2.2.2.1.1 x.2.2.2.2.1.2.1 x.2.2.2.2.1.2.2.1 x.2.2.2.2.1.2.2.2.1 x.2.2.2.2.1.2.2.2.2.1 x.2.2.2.2.1.2.2.2.2.2.1 x.2.2.2.2.1.2.2.2.2.2.2.1 x.2.2.2.2.1.2.2.2.2.2.2.2.1
def T3:Bs (TT DB.rs × ET DB.ps):=⟨⟨27,32,[27]⟩,AH [(0,⟨Hq,λk x=>(LB k x).map F9⟩)],AH [],AH []⟩
theorem Le:UB Tryz.prog 50 DB :=
 FJ (Bt:=AP []) (l:= [(109, .pu N9)]) (C:=T3) (by kernel_rfl) AK ⟨jC,trivial⟩ (fn:=Tryz.f50) (by kernel_rfl) rfl (by kernel_rfl) (by decide) (by kernel_rfl) (m:=32) (by decide) (by decide) (F:=λk x=>Aj.f k x.1.1 x.1.2.1 x.1.2.2.1 x.1.2.2.2.1 x.1.2.2.2.2.1 x.1.2.2.2.2.2.1 x.1.2.2.2.2.2.2.1 x.1.2.2.2.2.2.2.2.1 x.1.2.2.2.2.2.2.2.2.1) (q:=F9) (λk x=>rfl)
  (by
   refine And.intro ?_ ?_
   ·refine Au (sl:=Hq) (F:=LB) (λx=>rfl) λk ⟨⟨(x3:List (Int × Int × Int × Bool × (List Int) × List Int)),_⟩,⟨(Lr:List (Int × Int × Int × Bool × (List Int) × List Int)),_⟩,⟨(iq:Int),_⟩,⟨(Dm:Int),_⟩,⟨(zj:Int),(zk:Int),(zl:List Bool),(zm:List Bool),(zn:Int),(zo:Int),(zp:Bool),(zq:Int),_⟩,_⟩=> ?_
    show Ae F9 (Aj.l0 (k+1) x3 Lr iq Dm zj zk zl zm zn zo zp zq) _;rw[Aj.l0];exact go
   exact trivial)
  (λk ⟨⟨AX,Al,Am,Ao,BD,BB,BH,BJ,BE,_⟩,_⟩=>by show Ae F9 (Aj.f k AX Al Am Ao BD BB BH BJ BE) _;unfold Aj.f;exact go)
end
section
attribute [local irreducible] AM.f
def E3:D0:=⟨[.st 135 [.ty (.int .i64), .ty (.int .i64), .row false 93 (.cons (.int .i64) (.cons (.int .i64) (.cons (.int .i64) (.cons .bool (.cons (.row 73 (.int .u64)) (.row 73 (.int .u64))))))), .ty (.row 4 .bool), .row false 4 .bool, .ty (.int .i64), .ty (.int .i64), .ty .bool, .ty (.int .i64)], .ty (.cons (.cons .bool (.cons (.row 73 (.int .u64)) (.row 73 (.int .u64)))) (.cons (.int .u64) (.int .i64)))],[(.cons (.cons .bool (.cons (.row 73 (.int .u64)) (.row 73 (.int .u64)))) (.cons (.int .u64) (.int .i64)))],λk x=>(GM.f k x.1.1 x.1.2.1 x.1.2.2.1 x.1.2.2.2.1 x.1.2.2.2.2.1 x.1.2.2.2.2.2.1 x.1.2.2.2.2.2.2.1 x.1.2.2.2.2.2.2.2.1 x.1.2.2.2.2.2.2.2.2.1 x.2.1.1.1 x.2.1.1.2.1 x.2.1.1.2.2 x.2.1.2.1 x.2.1.2.2).map λr=>((((r.1,(r.2.1,r.2.2.1)),(r.2.2.2.1,r.2.2.2.2.1)),()),((r.2.2.2.2.2.1,r.2.2.2.2.2.2.1,r.2.2.2.2.2.2.2.1,r.2.2.2.2.2.2.2.2.1,r.2.2.2.2.2.2.2.2.2.1,r.2.2.2.2.2.2.2.2.2.2.1,r.2.2.2.2.2.2.2.2.2.2.2.1,r.2.2.2.2.2.2.2.2.2.2.2.2.1,r.2.2.2.2.2.2.2.2.2.2.2.2.2,()),()))⟩
def Ov (r:Bool × List Int × List Int × Int × Int × Int × Int × List (Int × Int × Int × Bool × (List Int) × List Int) × List Bool × List Bool × Int × Int × Bool × Int):TT E3.rs × ET E3.ps:=((((r.1,(r.2.1,r.2.2.1)),(r.2.2.2.1,r.2.2.2.2.1)),()),((r.2.2.2.2.2.1,r.2.2.2.2.2.2.1,r.2.2.2.2.2.2.2.1,r.2.2.2.2.2.2.2.2.1,r.2.2.2.2.2.2.2.2.2.1,r.2.2.2.2.2.2.2.2.2.2.1,r.2.2.2.2.2.2.2.2.2.2.2.1,r.2.2.2.2.2.2.2.2.2.2.2.2.1,r.2.2.2.2.2.2.2.2.2.2.2.2.2,()),()))
def Yd:Bs (TT E3.rs × ET E3.ps):=⟨⟨9,14,[9]⟩,AH [],AH [],AH []⟩
theorem Ye:UB Tryz.prog 175 E3 :=
 FJ (Bt:=AP []) (l:= [(171, .io CQ [(8,12)])]) (C:=Yd) (by kernel_rfl) AK ⟨EF,trivial⟩ (fn:=Tryz.f175) (by kernel_rfl) rfl (by kernel_rfl) (by decide) (by kernel_rfl) (m:=14) (by decide) (by decide) (F:=λk x=>GM.f k x.1.1 x.1.2.1 x.1.2.2.1 x.1.2.2.2.1 x.1.2.2.2.2.1 x.1.2.2.2.2.2.1 x.1.2.2.2.2.2.2.1 x.1.2.2.2.2.2.2.2.1 x.1.2.2.2.2.2.2.2.2.1 x.2.1.1.1 x.2.1.1.2.1 x.2.1.1.2.2 x.2.1.2.1 x.2.1.2.2) (q:=Ov) (λk x=>rfl)
  (by exact trivial)
  (λk ⟨⟨AX,Al,Am,Ao,BD,BB,BH,BJ,BE,_⟩,(a1:(Bool × (List Int) × List Int) × Int × Int),_⟩=>by show Ae Ov (GM.f k AX Al Am Ao BD BB BH BJ BE a1.1.1 a1.1.2.1 a1.1.2.2 a1.2.1 a1.2.2) _;unfold GM.f;exact go)
end
section
attribute [local irreducible] AM.f
def FX:D0:=⟨[.st 135 [.ty (.int .i64), .ty (.int .i64), .row false 93 (.cons (.int .i64) (.cons (.int .i64) (.cons (.int .i64) (.cons .bool (.cons (.row 73 (.int .u64)) (.row 73 (.int .u64))))))), .ty (.row 4 .bool), .row false 4 .bool, .ty (.int .i64), .ty (.int .i64), .ty .bool, .ty (.int .i64)], .ty (.cons (.cons .bool (.cons (.row 73 (.int .u64)) (.row 73 (.int .u64)))) (.cons (.int .u64) (.int .i64))), .ty (.cons (.cons .bool (.cons (.row 73 (.int .u64)) (.row 73 (.int .u64)))) (.cons (.int .u64) (.int .i64)))],[(.cons (.cons .bool (.cons (.row 73 (.int .u64)) (.row 73 (.int .u64)))) (.cons (.int .u64) (.int .i64)))],λk x=>(G6.f k x.1.1 x.1.2.1 x.1.2.2.1 x.1.2.2.2.1 x.1.2.2.2.2.1 x.1.2.2.2.2.2.1 x.1.2.2.2.2.2.2.1 x.1.2.2.2.2.2.2.2.1 x.1.2.2.2.2.2.2.2.2.1 x.2.1.1.1 x.2.1.1.2.1 x.2.1.1.2.2 x.2.1.2.1 x.2.1.2.2 x.2.2.1.1.1 x.2.2.1.1.2.1 x.2.2.1.1.2.2 x.2.2.1.2.1 x.2.2.1.2.2).map λr=>((((r.1,(r.2.1,r.2.2.1)),(r.2.2.2.1,r.2.2.2.2.1)),()),((r.2.2.2.2.2.1,r.2.2.2.2.2.2.1,r.2.2.2.2.2.2.2.1,r.2.2.2.2.2.2.2.2.1,r.2.2.2.2.2.2.2.2.2.1,r.2.2.2.2.2.2.2.2.2.2.1,r.2.2.2.2.2.2.2.2.2.2.2.1,r.2.2.2.2.2.2.2.2.2.2.2.2.1,r.2.2.2.2.2.2.2.2.2.2.2.2.2,()),()))⟩
def Qz (r:Bool × List Int × List Int × Int × Int × Int × Int × List (Int × Int × Int × Bool × (List Int) × List Int) × List Bool × List Bool × Int × Int × Bool × Int):TT FX.rs × ET FX.ps:=((((r.1,(r.2.1,r.2.2.1)),(r.2.2.2.1,r.2.2.2.2.1)),()),((r.2.2.2.2.2.1,r.2.2.2.2.2.2.1,r.2.2.2.2.2.2.2.1,r.2.2.2.2.2.2.2.2.1,r.2.2.2.2.2.2.2.2.2.1,r.2.2.2.2.2.2.2.2.2.2.1,r.2.2.2.2.2.2.2.2.2.2.2.1,r.2.2.2.2.2.2.2.2.2.2.2.2.1,r.2.2.2.2.2.2.2.2.2.2.2.2.2,()),()))
def aU:Bs (TT FX.rs × ET FX.ps):=⟨⟨11,16,[11]⟩,AH [],AH [],AH []⟩
theorem aV:UB Tryz.prog 173 FX :=
 FJ (Bt:=AP []) (l:= [(171, .io CQ [(10,14)])]) (C:=aU) (by kernel_rfl) AK ⟨EF,trivial⟩ (fn:=Tryz.f173) (by kernel_rfl) rfl (by kernel_rfl) (by decide) (by kernel_rfl) (m:=16) (by decide) (by decide) (F:=λk x=>G6.f k x.1.1 x.1.2.1 x.1.2.2.1 x.1.2.2.2.1 x.1.2.2.2.2.1 x.1.2.2.2.2.2.1 x.1.2.2.2.2.2.2.1 x.1.2.2.2.2.2.2.2.1 x.1.2.2.2.2.2.2.2.2.1 x.2.1.1.1 x.2.1.1.2.1 x.2.1.1.2.2 x.2.1.2.1 x.2.1.2.2 x.2.2.1.1.1 x.2.2.1.1.2.1 x.2.2.1.1.2.2 x.2.2.1.2.1 x.2.2.1.2.2) (q:=Qz) (λk x=>rfl)
  (by exact trivial)
  (λk ⟨⟨AX,Al,Am,Ao,BD,BB,BH,BJ,BE,_⟩,(a1:(Bool × (List Int) × List Int) × Int × Int),(a2:(Bool × (List Int) × List Int) × Int × Int),_⟩=>by show Ae Qz (G6.f k AX Al Am Ao BD BB BH BJ BE a1.1.1 a1.1.2.1 a1.1.2.2 a1.2.1 a1.2.2 a2.1.1 a2.1.2.1 a2.1.2.2 a2.2.1 a2.2.2) _;unfold G6.f;exact go)
end
section
def Pq:cO:=⟨[.int .i64,(.row 4 .bool)],135,[.ty (.int .i64), .ty (.int .i64), .nil, .ty (.row 4 .bool), .nil, .ty (.int .i64), .ty (.int .i64), .ty .bool, .ty (.int .i64)],λk x=>(Gv.f k x.1 x.2.1).map λr=>(r.1,(r.2.1,r.2.2.1,r.2.2.2.1,r.2.2.2.2.1,r.2.2.2.2.2.1,r.2.2.2.2.2.2.1,r.2.2.2.2.2.2.2,()))⟩
def fj (r:Bool × Int × Int × List Bool × Int × Int × Bool × Int):Bool × NT Pq.fs:=(r.1,(r.2.1,r.2.2.1,r.2.2.2.1,r.2.2.2.2.1,r.2.2.2.2.2.1,r.2.2.2.2.2.2.1,r.2.2.2.2.2.2.2,()))
theorem fW:FPk Tryz.prog 38 Pq :=
 AI0 (Bt:=AP []) (l:= []) (C:=Ai) (by kernel_rfl) AK trivial (fn:=Tryz.f38) (by kernel_rfl) rfl (by kernel_rfl) (by decide) (by kernel_rfl) (F:=λk x=>Gv.f k x.1 x.2.1) (m:=fj) (λk x=>rfl)
  (by exact trivial)
  (λk ⟨(a0:Int),(a1:List Bool),_⟩=>by show Ae fj (Gv.f k a0 a1) _;unfold Gv.f;exact go)
end
section
attribute [local irreducible] Ig.f Dl.f Em.f
def OA:AS:=⟨[(.row 73 (.int .u64)),(.row 73 (.int .u64))],[.bool],λk x=>(GZ.f k x.1 x.2.1).map λr=>(r,())⟩
def Uc (r:Bool):TT OA.rs:=(r,())
theorem jD:DP Tryz.prog 111 OA :=
 Aa (Bt:=AP []) (l:= [(117, .pu MP),(131, .pu KR),(137, .pu Ow)]) (C:=Ai) (by kernel_rfl) AK ⟨SH,Tf,kg,trivial⟩ (fn:=Tryz.f111) (by kernel_rfl) rfl (by kernel_rfl) (by decide) (by kernel_rfl) (F:=λk x=>GZ.f k x.1 x.2.1) (m:=Uc) (λk x=>rfl)
  (by exact trivial)
  (λk ⟨(a0:List Int),(a1:List Int),_⟩=>by show Ae Uc (GZ.f k a0 a1) _;unfold GZ.f;exact go)
end
section
attribute [local irreducible] FP.f GZ.f
def NL:AS:=⟨[(.cons .bool (.cons (.row 73 (.int .u64)) (.row 73 (.int .u64))))],[.bool],λk x=>(GK.f k x.1.1 x.1.2.1 x.1.2.2).map λr=>(r,())⟩
def ZP (r:Bool):TT NL.rs:=(r,())
theorem ZQ:DP Tryz.prog 56 NL :=
 Aa (Bt:=AP []) (l:= [(110, .pu NM),(111, .pu OA)]) (C:=Ai) (by kernel_rfl) AK ⟨ZR,jD,trivial⟩ (fn:=Tryz.f56) (by kernel_rfl) rfl (by kernel_rfl) (by decide) (by kernel_rfl) (F:=λk x=>GK.f k x.1.1 x.1.2.1 x.1.2.2) (m:=ZP) (λk x=>rfl)
  (by exact trivial)
  (λk ⟨(a0:Bool × List Int × List Int),_⟩=>by show Ae ZP (GK.f k a0.1 a0.2.1 a0.2.2) _;unfold GK.f;exact go)
end
section
def Lu:AS:=⟨[.int .i64],[.int .i64],λk x=>(Ch.f k x.1).map λr=>(r,())⟩
def Lv (r:Int):TT Lu.rs:=(r,())
@[reducible] def OB:List Slot:= []
def Ud (k:Nat) (x:TS OB):Option (Int):=Ch.j4 k
def pP:Bs (TT Lu.rs):=⟨⟨17,17,[]⟩,AH [],AH [(4,⟨OB,λk x=>(Ud k x).map Lv⟩)],AH []⟩
theorem pQ:DP Tryz.prog 94 Lu :=
 Aa (Bt:=AP []) (l:= []) (C:=pP) (by kernel_rfl) AK trivial (fn:=Tryz.f94) (by kernel_rfl) rfl (by kernel_rfl) (by decide) (by kernel_rfl) (F:=λk x=>Ch.f k x.1) (m:=Lv) (λk x=>rfl)
  (by
   refine And.intro ?_ ?_
   ·refine Be (sl:=OB) (F:=Ud) (λx=>rfl) λk _=> ?_
    show Ae Lv (Ch.j4 (k+1)) _;rw[Ch.j4];exact go
   exact trivial)
  (λk ⟨(a0:Int),_⟩=>by show Ae Lv (Ch.f k a0) _;unfold Ch.f;exact go)
end
section
def SI:AS:=⟨[(.cons .bool (.cons (.row 73 (.int .u64)) (.row 73 (.int .u64))))],[.bool],λ_ x=>(G0.f x.1.1 x.1.2.1 x.1.2.2).map λr=>(r,())⟩
def ZS (r:Bool):TT SI.rs:=(r,())
theorem uI:DP Tryz.prog 203 SI :=
 Aa (Bt:=AP []) (l:= []) (C:=Ai) (by kernel_rfl) AK trivial (fn:=Tryz.f203) (by kernel_rfl) rfl (by kernel_rfl) (by decide) (by kernel_rfl) (F:=λk x=>G0.f x.1.1 x.1.2.1 x.1.2.2) (m:=ZS) (λk x=>rfl)
  (by exact trivial)
  (λk ⟨(a0:Bool × List Int × List Int),_⟩=>by show Ae ZS (G0.f a0.1 a0.2.1 a0.2.2) _;unfold G0.f;exact go)
end
section
attribute [local irreducible] GK.f Ch.f G0.f
def SJ:AS:=⟨[(.cons (.int .i64) (.cons (.int .i64) (.cons (.int .i64) (.cons .bool (.cons (.row 73 (.int .u64)) (.row 73 (.int .u64))))))), .int .i64],[.bool],λk x=>(IG.f k x.1.1 x.1.2.1 x.1.2.2.1 x.1.2.2.2.1 x.1.2.2.2.2.1 x.1.2.2.2.2.2 x.2.1).map λr=>(r,())⟩
def ZT (r:Bool):TT SJ.rs:=(r,())
theorem uJ:DP Tryz.prog 139 SJ :=
 Aa (Bt:=AP []) (l:= [(56, .pu NL),(94, .pu Lu),(203, .pu SI)]) (C:=Ai) (by kernel_rfl) AK ⟨ZQ,pQ,uI,trivial⟩ (fn:=Tryz.f139) (by kernel_rfl) rfl (by kernel_rfl) (by decide) (by kernel_rfl) (F:=λk x=>IG.f k x.1.1 x.1.2.1 x.1.2.2.1 x.1.2.2.2.1 x.1.2.2.2.2.1 x.1.2.2.2.2.2 x.2.1) (m:=ZT) (λk x=>rfl)
  (by exact trivial)
  (λk ⟨(a0:Int × Int × Int × Bool × (List Int) × List Int),(a1:Int),_⟩=>by show Ae ZT (IG.f k a0.1 a0.2.1 a0.2.2.1 a0.2.2.2.1 a0.2.2.2.2.1 a0.2.2.2.2.2 a1) _;unfold IG.f;exact go)
end
section
attribute [local irreducible] IG.f
def Jk:AS:=⟨[(.row 93 (.cons (.int .i64) (.cons (.int .i64) (.cons (.int .i64) (.cons .bool (.cons (.row 73 (.int .u64)) (.row 73 (.int .u64))))))))],[.bool],λk x=>(Ci.f k x.1).map λr=>(r,())⟩
def Lw (r:Bool):TT Jk.rs:=(r,())
@[reducible] def OC:List Slot:= [.tmp 8 [.ty (.row 93 (.cons (.int .i64) (.cons (.int .i64) (.cons (.int .i64) (.cons .bool (.cons (.row 73 (.int .u64)) (.row 73 (.int .u64))))))))], .tmp 9 [.ty (.int .i64)], .tmp 10 [.ty (.int .i64)]]
def Ue (k:Nat) (x:TS OC):Option (Bool):=Ci.l0 k x.1.1 x.2.1.1 x.2.2.1.1
def pR:Bs (TT Jk.rs):=⟨⟨20,20,[]⟩,AH [(0,⟨OC,λk x=>(Ue k x).map Lw⟩)],AH [],AH []⟩
theorem XJ:DP Tryz.prog 83 Jk :=
 Aa (Bt:=AP []) (l:= [(139, .pu SJ)]) (C:=pR) (by kernel_rfl) AK ⟨uJ,trivial⟩ (fn:=Tryz.f83) (by kernel_rfl) rfl (by kernel_rfl) (by decide) (by kernel_rfl) (F:=λk x=>Ci.f k x.1) (m:=Lw) (λk x=>rfl)
  (by
   refine And.intro ?_ ?_
   ·refine Au (sl:=OC) (F:=Ue) (λx=>rfl) λk ⟨⟨(x8:List (Int × Int × Int × Bool × (List Int) × List Int)),_⟩,⟨(x9:Int),_⟩,⟨(Ik:Int),_⟩,_⟩=> ?_
    show Ae Lw (Ci.l0 (k+1) x8 x9 Ik) _;rw[Ci.l0];exact go
   exact trivial)
  (λk ⟨(a0:List (Int × Int × Int × Bool × (List Int) × List Int)),_⟩=>by show Ae Lw (Ci.f k a0) _;unfold Ci.f;exact go)
end
section
attribute [local irreducible] GK.f
def Kk:AS:=⟨[(.row 45 (.cons .bool (.cons (.row 73 (.int .u64)) (.row 73 (.int .u64)))))],[.bool],λk x=>(CV.f k x.1).map λr=>(r,())⟩
def Kl (r:Bool):TT Kk.rs:=(r,())
@[reducible] def MR:List Slot:= [.tmp 5 [.ty (.row 45 (.cons .bool (.cons (.row 73 (.int .u64)) (.row 73 (.int .u64)))))], .tmp 6 [.ty (.int .i64)], .tmp 7 [.ty (.int .i64)]]
def SK (k:Nat) (x:TS MR):Option (Bool):=CV.l0 k x.1.1 x.2.1.1 x.2.2.1.1
def jE:Bs (TT Kk.rs):=⟨⟨15,15,[]⟩,AH [(0,⟨MR,λk x=>(SK k x).map Kl⟩)],AH [],AH []⟩
theorem jF:DP Tryz.prog 84 Kk :=
 Aa (Bt:=AP []) (l:= [(56, .pu NL)]) (C:=jE) (by kernel_rfl) AK ⟨ZQ,trivial⟩ (fn:=Tryz.f84) (by kernel_rfl) rfl (by kernel_rfl) (by decide) (by kernel_rfl) (F:=λk x=>CV.f k x.1) (m:=Kl) (λk x=>rfl)
  (by
   refine And.intro ?_ ?_
   ·refine Au (sl:=MR) (F:=SK) (λx=>rfl) λk ⟨⟨(x5:List (Bool × (List Int) × List Int)),_⟩,⟨(x6:Int),_⟩,⟨(x7:Int),_⟩,_⟩=> ?_
    show Ae Kl (CV.l0 (k+1) x5 x6 x7) _;rw[CV.l0];exact go
   exact trivial)
  (λk ⟨(a0:List (Bool × (List Int) × List Int)),_⟩=>by show Ae Kl (CV.f k a0) _;unfold CV.f;exact go)
end
section
def Dx:D0:=⟨[.st 124 [.row true 45 (.cons .bool (.cons (.row 73 (.int .u64)) (.row 73 (.int .u64)))), .ty (.row 45 (.cons .bool (.cons (.row 73 (.int .u64)) (.row 73 (.int .u64))))), .ty (.row 45 (.cons .bool (.cons (.row 73 (.int .u64)) (.row 73 (.int .u64))))), .ty (.int .i64)]],[(.cons .bool (.cons (.row 73 (.int .u64)) (.row 73 (.int .u64)))), .int .i64],λk x=>(B7.f k x.1.1 x.1.2.1 x.1.2.2.1 x.1.2.2.2.1).map λr=>(((r.1,(r.2.1,r.2.2.1)),r.2.2.2.1,()),((r.2.2.2.2.1,r.2.2.2.2.2.1,r.2.2.2.2.2.2.1,r.2.2.2.2.2.2.2,()),()))⟩
def MS (r:Bool × List Int × List Int × Int × List (Bool × (List Int) × List Int) × List (Bool × (List Int) × List Int) × List (Bool × (List Int) × List Int) × Int):TT Dx.rs × ET Dx.ps:=(((r.1,(r.2.1,r.2.2.1)),r.2.2.2.1,()),((r.2.2.2.2.1,r.2.2.2.2.2.1,r.2.2.2.2.2.2.1,r.2.2.2.2.2.2.2,()),()))
def Vb:Bs (TT Dx.rs × ET Dx.ps):=⟨⟨33,35,[33,34]⟩,AH [],AH [],AH []⟩
theorem Vc:UB Tryz.prog 141 Dx :=
 FJ (Bt:=AP [(1,[0,1,3,7,0,16,48,112,240,511]),(4,[0,1,3,7,0,16,48,112,240,511,1023,2047,4095])]) (l:= []) (C:=Vb) (by kernel_rfl) AK trivial (fn:=Tryz.f141) (by kernel_rfl) rfl (by kernel_rfl) (by decide) (by kernel_rfl) (m:=35) (by decide) (by decide) (F:=λk x=>B7.f k x.1.1 x.1.2.1 x.1.2.2.1 x.1.2.2.2.1) (q:=MS) (λk x=>rfl)
  (by exact trivial)
  (λk ⟨⟨AX,Al,Am,Ao,_⟩,_⟩=>by show Ae MS (B7.f k AX Al Am Ao) _;unfold B7.f;exact go)
end
section
attribute [local irreducible] IF.f IE.f Iz.f I0.f I4.f B7.f
def Dy:D0:=⟨[.st 124 [.row true 45 (.cons .bool (.cons (.row 73 (.int .u64)) (.row 73 (.int .u64)))), .ty (.row 45 (.cons .bool (.cons (.row 73 (.int .u64)) (.row 73 (.int .u64))))), .ty (.row 45 (.cons .bool (.cons (.row 73 (.int .u64)) (.row 73 (.int .u64))))), .ty (.int .i64)], .ty (.cons (.int .i64) (.cons (.int .i64) (.cons (.int .i64) (.cons .bool (.cons (.row 73 (.int .u64)) (.row 73 (.int .u64)))))))],[(.cons .bool (.cons (.row 73 (.int .u64)) (.row 73 (.int .u64)))), .int .i64],λk x=>(Du.f k x.1.1 x.1.2.1 x.1.2.2.1 x.1.2.2.2.1 x.2.1.1 x.2.1.2.1 x.2.1.2.2.1 x.2.1.2.2.2.1 x.2.1.2.2.2.2.1 x.2.1.2.2.2.2.2).map λr=>(((r.1,(r.2.1,r.2.2.1)),r.2.2.2.1,()),((r.2.2.2.2.1,r.2.2.2.2.2.1,r.2.2.2.2.2.2.1,r.2.2.2.2.2.2.2,()),()))⟩
def MT (r:Bool × List Int × List Int × Int × List (Bool × (List Int) × List Int) × List (Bool × (List Int) × List Int) × List (Bool × (List Int) × List Int) × Int):TT Dy.rs × ET Dy.ps:=(((r.1,(r.2.1,r.2.2.1)),r.2.2.2.1,()),((r.2.2.2.2.1,r.2.2.2.2.2.1,r.2.2.2.2.2.2.1,r.2.2.2.2.2.2.2,()),()))
def Vd:Bs (TT Dy.rs × ET Dy.ps):=⟨⟨124,126,[124,125]⟩,AH [],AH [],AH []⟩
theorem Ve:UB Tryz.prog 85 Dy :=
 FJ (Bt:=AP [(3,[0,1,0,4,12,28,60,127]),(5,[0,1,3,7,0,16,63,127,255,511]),(9,[0,1,3,7,0,16,63,127,255,511,1023]),(11,[0,1,3,7,0,16,63,127,0,256,768,1792,0,4096,16128,32512,65535,131071,262143]),(13,[0,1,3,7,0,16,63,127,0,256,768,1792,0,4096,16128,32512,65535,131071,262143]),(15,[0,1,3,7,0,16,63,127,0,256,768,1792,0,4096,16128,32512,65535,131071,262143]),(17,[0,1,3,7,0,16,63,127,0,256,768,1792,0,4096,16128,32512,65535,131071,131071,524287,1048575])]) (l:= [(26, .pu Ox),(27, .pu Oy),(112, .pu Oz),(113, .pu O0),(140, .pu On),(141, .io Dx [(121,126)])]) (C:=Vd) (by kernel_rfl) AK ⟨Yf,Yg,Yh,Yi,Yc,Vc,trivial⟩ (fn:=Tryz.f85) (by kernel_rfl) rfl (by kernel_rfl) (by decide) (by kernel_rfl) (m:=126) (by decide) (by decide) (F:=λk x=>Du.f k x.1.1 x.1.2.1 x.1.2.2.1 x.1.2.2.2.1 x.2.1.1 x.2.1.2.1 x.2.1.2.2.1 x.2.1.2.2.2.1 x.2.1.2.2.2.2.1 x.2.1.2.2.2.2.2) (q:=MT) (λk x=>rfl)
  (by exact trivial)
  (λk ⟨⟨AX,Al,Am,Ao,_⟩,(a1:Int × Int × Int × Bool × (List Int) × List Int),_⟩=>by show Ae MT (Du.f k AX Al Am Ao a1.1 a1.2.1 a1.2.2.1 a1.2.2.2.1 a1.2.2.2.2.1 a1.2.2.2.2.2) _;unfold Du.f;exact go)
end
section
attribute [local irreducible] Cd.f
def Py:AS:=⟨[(.cons .bool (.cons (.row 73 (.int .u64)) (.row 73 (.int .u64))))],[.int .i64],λk x=>(JF.f k x.1.1 x.1.2.1 x.1.2.2).map λr=>(r,())⟩
def XK (r:Int):TT Py.rs:=(r,())
theorem pS:DP Tryz.prog 86 Py :=
 Aa (Bt:=AP [(1,[0,1,3,0,8,31,63,127])]) (l:= [(134, .pu FG)]) (C:=Ai) (by kernel_rfl) AK ⟨Gr,trivial⟩ (fn:=Tryz.f86) (by kernel_rfl) rfl (by kernel_rfl) (by decide) (by kernel_rfl) (F:=λk x=>JF.f k x.1.1 x.1.2.1 x.1.2.2) (m:=XK) (λk x=>rfl)
  (by exact trivial)
  (λk ⟨(a0:Bool × List Int × List Int),_⟩=>by show Ae XK (JF.f k a0.1 a0.2.1 a0.2.2) _;unfold JF.f;exact go)
end
section
def MU:AS:=⟨[(.cons .bool (.cons (.row 73 (.int .u64)) (.row 73 (.int .u64))))],[(.cons .bool (.cons (.row 73 (.int .u64)) (.row 73 (.int .u64))))],λ_ x=>(Ff.f x.1.1 x.1.2.1 x.1.2.2).map λr=>((r.1,r.2.1,r.2.2),())⟩
def SL (r:Bool × List Int × List Int):TT MU.rs:=((r.1,r.2.1,r.2.2),())
theorem fo:DP Tryz.prog 87 MU :=
 Aa (Bt:=AP [(1,[0,1,0,0,8,28,0,0,128,508,1023,2047])]) (l:= []) (C:=Ai) (by kernel_rfl) AK trivial (fn:=Tryz.f87) (by kernel_rfl) rfl (by kernel_rfl) (by decide) (by kernel_rfl) (F:=λk x=>Ff.f x.1.1 x.1.2.1 x.1.2.2) (m:=SL) (λk x=>rfl)
  (by exact trivial)
  (λk ⟨(a0:Bool × List Int × List Int),_⟩=>by show Ae SL (Ff.f a0.1 a0.2.1 a0.2.2) _;unfold Ff.f;exact go)
end
section
attribute [local irreducible] Ci.f CV.f Du.f JF.f Ff.f
def Km:AS:=⟨[(.row 93 (.cons (.int .i64) (.cons (.int .i64) (.cons (.int .i64) (.cons .bool (.cons (.row 73 (.int .u64)) (.row 73 (.int .u64)))))))),(.row 45 (.cons .bool (.cons (.row 73 (.int .u64)) (.row 73 (.int .u64))))),(.row 45 (.cons .bool (.cons (.row 73 (.int .u64)) (.row 73 (.int .u64)))))],[(.row 45 (.cons .bool (.cons (.row 73 (.int .u64)) (.row 73 (.int .u64))))), .int .i64, .int .i64],λk x=>(Ak.f k x.1 x.2.1 x.2.2.1).map λr=>(r.1,r.2.1,r.2.2,())⟩
def Es (r:List (Bool × List Int × List Int) × Int × Int):TT Km.rs:=(r.1,r.2.1,r.2.2,())
@[reducible] def MV:List Slot:= [.tmp 9 [.ptr 30 0], .tmp 31 [.ty (.row 93 (.cons (.int .i64) (.cons (.int .i64) (.cons (.int .i64) (.cons .bool (.cons (.row 73 (.int .u64)) (.row 73 (.int .u64))))))))], .tmp 32 [.ty (.int .i64)], .tmp 33 [.ty (.int .i64)], .DO 30 .mine 124 [.own .mine 71 45 (.cons .bool (.cons (.row 73 (.int .u64)) (.row 73 (.int .u64)))), .ty (.row 45 (.cons .bool (.cons (.row 73 (.int .u64)) (.row 73 (.int .u64))))), .ty (.row 45 (.cons .bool (.cons (.row 73 (.int .u64)) (.row 73 (.int .u64))))), .ty (.int .i64)]]
def SM (k:Nat) (x:TS MV):Option (List (Bool × List Int × List Int) × Int × Int):=Ak.l0 k x.2.1.1 x.2.2.1.1 x.2.2.2.1.1 x.2.2.2.2.1.1 x.2.2.2.2.1.2.1 x.2.2.2.2.1.2.2.1 x.2.2.2.2.1.2.2.2.1
@[reducible] def MW:List Slot:= []
def SN (k:Nat) (x:TS MW):Option (List (Bool × List Int × List Int) × Int × Int):=Ak.j2 k
@[reducible] def MX:List Slot:= [.tmp 9 [.ptr 30 0], .tmp 10 [.ty (.int .i64)], .tmp 12 [.ptr 12 0], .tmp 13 [.ty (.int .i64)], .tmp 31 [.ty (.row 93 (.cons (.int .i64) (.cons (.int .i64) (.cons (.int .i64) (.cons .bool (.cons (.row 73 (.int .u64)) (.row 73 (.int .u64))))))))], .tmp 32 [.ty (.int .i64)], .tmp 33 [.ty (.int .i64)], .DO 12 .mine 45 [.ty .bool, .ty (.row 73 (.int .u64)), .ty (.row 73 (.int .u64))], .DO 30 .mine 124 [.own .mine 71 45 (.cons .bool (.cons (.row 73 (.int .u64)) (.row 73 (.int .u64)))), .ty (.row 45 (.cons .bool (.cons (.row 73 (.int .u64)) (.row 73 (.int .u64))))), .ty (.row 45 (.cons .bool (.cons (.row 73 (.int .u64)) (.row 73 (.int .u64))))), .ty (.int .i64)]]
def SP (k:Nat) (x:TS MX):Option (List (Bool × List Int × List Int) × Int × Int):=Ak.qG k x.2.1.1 x.2.2.2.1.1 x.2.2.2.2.1.1 x.2.2.2.2.2.1.1 x.2.2.2.2.2.2.1.1 x.2.2.2.2.2.2.2.1.1 x.2.2.2.2.2.2.2.1.2.1 x.2.2.2.2.2.2.2.1.2.2.1 x.2.2.2.2.2.2.2.2.1.1 x.2.2.2.2.2.2.2.2.1.2.1 x.2.2.2.2.2.2.2.2.1.2.2.1 x.2.2.2.2.2.2.2.2.1.2.2.2.1
def jG:Bs (TT Km.rs):=⟨⟨71,72,[]⟩,AH [(0,⟨MV,λk x=>(SM k x).map Es⟩)],AH [(2,⟨MW,λk x=>(SN k x).map Es⟩),(10,⟨MX,λk x=>(SP k x).map Es⟩)],AH []⟩
theorem jH:DP Tryz.prog 30 Km :=
 Aa (Bt:=AP [(12,[0,0,2,6,14,0,32,96,254,511,1023,2047])]) (l:= [(83, .pu Jk),(84, .pu Kk),(85, .io Dy [(41,71)]),(86, .pu Py),(87, .pu MU)]) (C:=jG) (by kernel_rfl) AK ⟨XJ,jF,Ve,pS,fo,trivial⟩ (fn:=Tryz.f30) (by kernel_rfl) rfl (by kernel_rfl) (by decide) (by kernel_rfl) (F:=λk x=>Ak.f k x.1 x.2.1 x.2.2.1) (m:=Es) (λk x=>rfl)
  (by
   refine And.intro ?_ ?_
   ·refine Be (sl:=MW) (F:=SN) (λx=>rfl) λk _=> ?_
    show Ae Es (Ak.j2 (k+1)) _;rw[Ak.j2];exact go
   refine And.intro ?_ ?_
   ·refine Au (sl:=MV) (F:=SM) (λx=>rfl) λk ⟨_,⟨(uy:List (Int × Int × Int × Bool × (List Int) × List Int)),_⟩,⟨(x32:Int),_⟩,⟨(YW:Int),_⟩,⟨(Oi:List (Bool × (List Int) × List Int)),(R4:List (Bool × (List Int) × List Int)),(fA:List (Bool × (List Int) × List Int)),(fD:Int),_⟩,_⟩=> ?_
    show Ae Es (Ak.l0 (k+1) uy x32 YW Oi R4 fA fD) _;rw[Ak.l0];exact go
   refine And.intro ?_ ?_
   ·refine Be (sl:=MX) (F:=SP) (λx=>rfl) λk ⟨_,⟨(Ik:Int),_⟩,_,⟨(Dm:Int),_⟩,⟨(uy:List (Int × Int × Int × Bool × (List Int) × List Int)),_⟩,⟨(x32:Int),_⟩,⟨(YW:Int),_⟩,⟨(ez:Bool),(e8:List Int),(e9:List Int),_⟩,⟨(Oi:List (Bool × (List Int) × List Int)),(R4:List (Bool × (List Int) × List Int)),(fA:List (Bool × (List Int) × List Int)),(fD:Int),_⟩,_⟩=> ?_
    show Ae Es (Ak.qG (k+1) Ik Dm uy x32 YW ez e8 e9 Oi R4 fA fD) _;rw[Ak.qG];exact go
   exact trivial)
  (λk ⟨(a0:List (Int × Int × Int × Bool × (List Int) × List Int)),(a1:List (Bool × (List Int) × List Int)),(a2:List (Bool × (List Int) × List Int)),_⟩=>by show Ae Es (Ak.f k a0 a1 a2) _;unfold Ak.f;exact go)
end
section
attribute [local irreducible] Di.f Bk.f EV.f BL.f Fa.f Ag.f BM.f B4.f BR.f BX.f
def MY:AS:=⟨[(.cons (.int .i64) (.cons (.int .i64) (.cons (.int .i64) (.cons .bool (.cons (.row 73 (.int .u64)) (.row 73 (.int .u64))))))),(.row 73 (.int .u64)),(.row 73 (.int .u64))],[.int .u64],λk x=>(Gm.f k x.1.1 x.1.2.1 x.1.2.2.1 x.1.2.2.2.1 x.1.2.2.2.2.1 x.1.2.2.2.2.2 x.2.1 x.2.2.1).map λr=>(r,())⟩
def SQ (r:Int):TT MY.rs:=(r,())
theorem fu:DP Tryz.prog 88 MY :=
 Aa (Bt:=AP [(9,[0,0,2,7,15,0,0,64,224,480,1023,2047]),(11,[0,0,2,7,15,0,0,64,224,480,1023,2047]),(13,[0,0,2,7,15,0,0,64,224,480,1023,2047]),(15,[0,0,2,7,15,0,0,64,224,480,1023,2047])]) (l:= [(142, .pu Iu),(143, .pu IP),(144, .pu Jl),(145, .pu Hr),(146, .pu KS),(147, .pu Ht),(148, .pu Hu),(149, .pu Jm),(150, .pu Jn),(151, .pu Jo)]) (C:=Ai) (by kernel_rfl) AK ⟨N7,Ou,Pz,MZ,P0,NN,NO,XL,XM,XN,trivial⟩ (fn:=Tryz.f88) (by kernel_rfl) rfl (by kernel_rfl) (by decide) (by kernel_rfl) (F:=λk x=>Gm.f k x.1.1 x.1.2.1 x.1.2.2.1 x.1.2.2.2.1 x.1.2.2.2.2.1 x.1.2.2.2.2.2 x.2.1 x.2.2.1) (m:=SQ) (λk x=>rfl)
  (by exact trivial)
  (λk ⟨(a0:Int × Int × Int × Bool × (List Int) × List Int),(a1:List Int),(a2:List Int),_⟩=>by show Ae SQ (Gm.f k a0.1 a0.2.1 a0.2.2.1 a0.2.2.2.1 a0.2.2.2.2.1 a0.2.2.2.2.2 a1 a2) _;unfold Gm.f;exact go)
end
section
attribute [local irreducible] Ci.f Gm.f
def Kn:AS:=⟨[(.row 93 (.cons (.int .i64) (.cons (.int .i64) (.cons (.int .i64) (.cons .bool (.cons (.row 73 (.int .u64)) (.row 73 (.int .u64)))))))),(.row 73 (.int .u64))],[(.row 73 (.int .u64)), .int .i64, .int .i64],λk x=>(BP.f k x.1 x.2.1).map λr=>(r.1,r.2.1,r.2.2,())⟩
def G8 (r:List Int × Int × Int):TT Kn.rs:=(r.1,r.2.1,r.2.2,())
@[reducible] def Ma:List Slot:= [.tmp 1 [.ty (.row 73 (.int .u64))], .tmp 7 [.own .mine 7 73 (.int .u64)], .tmp 13 [.ty (.row 93 (.cons (.int .i64) (.cons (.int .i64) (.cons (.int .i64) (.cons .bool (.cons (.row 73 (.int .u64)) (.row 73 (.int .u64))))))))], .tmp 14 [.ty (.int .i64)], .tmp 15 [.ty (.int .i64)]]
def SR (k:Nat) (x:TS Ma):Option (List Int × Int × Int):=BP.l0 k x.1.1 x.2.1.1 x.2.2.1.1 x.2.2.2.1.1 x.2.2.2.2.1.1
@[reducible] def Mb:List Slot:= [.tmp 1 [.ty (.row 73 (.int .u64))], .tmp 7 [.own .mine 7 73 (.int .u64)], .tmp 9 [.ptr 9 0], .tmp 13 [.ty (.row 93 (.cons (.int .i64) (.cons (.int .i64) (.cons (.int .i64) (.cons .bool (.cons (.row 73 (.int .u64)) (.row 73 (.int .u64))))))))], .tmp 14 [.ty (.int .i64)], .tmp 15 [.ty (.int .i64)], .DO 9 .mine 93 [.ty (.int .i64), .ty (.int .i64), .ty (.int .i64), .ty .bool, .ty (.row 73 (.int .u64)), .ty (.row 73 (.int .u64))]]
def SS (k:Nat) (x:TS Mb):Option (List Int × Int × Int):=BP.j9 k x.1.1 x.2.1.1 x.2.2.2.1.1 x.2.2.2.2.1.1 x.2.2.2.2.2.1.1 x.2.2.2.2.2.2.1.1 x.2.2.2.2.2.2.1.2.1 x.2.2.2.2.2.2.1.2.2.1 x.2.2.2.2.2.2.1.2.2.2.1 x.2.2.2.2.2.2.1.2.2.2.2.1 x.2.2.2.2.2.2.1.2.2.2.2.2.1
def jI:Bs (TT Kn.rs):=⟨⟨40,41,[]⟩,AH [(0,⟨Ma,λk x=>(SR k x).map G8⟩)],AH [(9,⟨Mb,λk x=>(SS k x).map G8⟩)],AH []⟩
theorem jJ:DP Tryz.prog 32 Kn :=
 Aa (Bt:=AP []) (l:= [(83, .pu Jk),(88, .pu MY)]) (C:=jI) (by kernel_rfl) AK ⟨XJ,fu,trivial⟩ (fn:=Tryz.f32) (by kernel_rfl) rfl (by kernel_rfl) (by decide) (by kernel_rfl) (F:=λk x=>BP.f k x.1 x.2.1) (m:=G8) (λk x=>rfl)
  (by
   refine And.intro ?_ ?_
   ·refine Au (sl:=Ma) (F:=SR) (λx=>rfl) λk ⟨⟨(x1:List Int),_⟩,⟨(x7:List Int),_⟩,⟨(Dm:List (Int × Int × Int × Bool × (List Int) × List Int)),_⟩,⟨(UW:Int),_⟩,⟨(X2:Int),_⟩,_⟩=> ?_
    show Ae G8 (BP.l0 (k+1) x1 x7 Dm UW X2) _;rw[BP.l0];exact go
   refine And.intro ?_ ?_
   ·refine Be (sl:=Mb) (F:=SS) (λx=>rfl) λk ⟨⟨(x1:List Int),_⟩,⟨(x7:List Int),_⟩,_,⟨(Dm:List (Int × Int × Int × Bool × (List Int) × List Int)),_⟩,⟨(UW:Int),_⟩,⟨(X2:Int),_⟩,⟨(AIZ:Int),(AIa:Int),(AIb:Int),(AIc:Bool),(AId:List Int),(AIe:List Int),_⟩,_⟩=> ?_
    show Ae G8 (BP.j9 (k+1) x1 x7 Dm UW X2 AIZ AIa AIb AIc AId AIe) _;rw[BP.j9];exact go
   exact trivial)
  (λk ⟨(a0:List (Int × Int × Int × Bool × (List Int) × List Int)),(a1:List Int),_⟩=>by show Ae G8 (BP.f k a0 a1) _;unfold BP.f;exact go)
end
section
def Tg:AS:=⟨[(.row 73 (.int .u64)), .int .i64],[.int .u64],λ_ x=>(IJ.f x.1 x.2.1).map λr=>(r,())⟩
def kj (r:Int):TT Tg.rs:=(r,())
theorem kn:DP Tryz.prog 130 Tg :=
 Aa (Bt:=AP []) (l:= []) (C:=Ai) (by kernel_rfl) AK trivial (fn:=Tryz.f130) (by kernel_rfl) rfl (by kernel_rfl) (by decide) (by kernel_rfl) (F:=λk x=>IJ.f x.1 x.2.1) (m:=kj) (λk x=>rfl)
  (by exact trivial)
  (λk ⟨(a0:List Int),(a1:Int),_⟩=>by show Ae kj (IJ.f a0 a1) _;unfold IJ.f;exact go)
end
section
attribute [local irreducible] IJ.f
def KT:AS:=⟨[(.row 73 (.int .u64)),(.row 73 (.int .u64))],[.int .i64],λk x=>(Ck.f k x.1 x.2.1).map λr=>(r,())⟩
def P3 (r:Int):TT KT.rs:=(r,())
@[reducible] def SU:List Slot:= [.tmp 0 [.ty (.row 73 (.int .u64))], .tmp 1 [.ty (.row 73 (.int .u64))], .tmp 6 [.ty (.int .i64)]]
def ZU (k:Nat) (x:TS SU):Option (Int):=Ck.l0 k x.1.1 x.2.1.1 x.2.2.1.1
def xh:Bs (TT KT.rs):=⟨⟨32,32,[]⟩,AH [(0,⟨SU,λk x=>(ZU k x).map P3⟩)],AH [],AH []⟩
theorem Vf:DP Tryz.prog 75 KT :=
 Aa (Bt:=AP []) (l:= [(130, .pu Tg)]) (C:=xh) (by kernel_rfl) AK ⟨kn,trivial⟩ (fn:=Tryz.f75) (by kernel_rfl) rfl (by kernel_rfl) (by decide) (by kernel_rfl) (F:=λk x=>Ck.f k x.1 x.2.1) (m:=P3) (λk x=>rfl)
  (by
   refine And.intro ?_ ?_
   ·refine Au (sl:=SU) (F:=ZU) (λx=>rfl) λk ⟨⟨(x0:List Int),_⟩,⟨(x1:List Int),_⟩,⟨(x6:Int),_⟩,_⟩=> ?_
    show Ae P3 (Ck.l0 (k+1) x0 x1 x6) _;rw[Ck.l0];exact go
   exact trivial)
  (λk ⟨(a0:List Int),(a1:List Int),_⟩=>by show Ae P3 (Ck.f k a0 a1) _;unfold Ck.f;exact go)
end
section
def Et:AS:=⟨[(.row 73 (.int .u64))],[.int .i64],λk x=>(BU.f k x.1).map λr=>(r,())⟩
def NP (r:Int):TT Et.rs:=(r,())
@[reducible] def P4:List Slot:= [.tmp 0 [.ty (.row 73 (.int .u64))], .tmp 3 [.ty (.int .i64)]]
def XO (k:Nat) (x:TS P4):Option (Int):=BU.l0 k x.1.1 x.2.1.1
def uK:Bs (TT Et.rs):=⟨⟨19,19,[]⟩,AH [(0,⟨P4,λk x=>(XO k x).map NP⟩)],AH [],AH []⟩
theorem Hv:DP Tryz.prog 126 Et :=
 Aa (Bt:=AP []) (l:= []) (C:=uK) (by kernel_rfl) AK trivial (fn:=Tryz.f126) (by kernel_rfl) rfl (by kernel_rfl) (by decide) (by kernel_rfl) (F:=λk x=>BU.f k x.1) (m:=NP) (λk x=>rfl)
  (by
   refine And.intro ?_ ?_
   ·refine Au (sl:=P4) (F:=XO) (λx=>rfl) λk ⟨⟨(x0:List Int),_⟩,⟨(x3:Int),_⟩,_⟩=> ?_
    show Ae NP (BU.l0 (k+1) x0 x3) _;rw[BU.l0];exact go
   exact trivial)
  (λk ⟨(a0:List Int),_⟩=>by show Ae NP (BU.f k a0) _;unfold BU.f;exact go)
end
section
attribute [local irreducible] BU.f
def Eu:AS:=⟨[(.row 73 (.int .u64))],[(.row 73 (.int .u64))],λk x=>(Az.f k x.1).map λr=>(r,())⟩
def NQ (r:List Int):TT Eu.rs:=(r,())
@[reducible] def P5:List Slot:= [.tmp 0 [.ty (.row 73 (.int .u64))], .tmp 3 [.own .mine 3 73 (.int .u64)], .tmp 6 [.ty (.int .i64)], .tmp 7 [.ty (.int .i64)]]
def XP (k:Nat) (x:TS P5):Option (List Int):=Az.l0 k x.1.1 x.2.1.1 x.2.2.1.1 x.2.2.2.1.1
def uL:Bs (TT Eu.rs):=⟨⟨19,19,[]⟩,AH [(0,⟨P5,λk x=>(XP k x).map NQ⟩)],AH [],AH []⟩
theorem Hw:DP Tryz.prog 188 Eu :=
 Aa (Bt:=AP []) (l:= [(126, .pu Et)]) (C:=uL) (by kernel_rfl) AK ⟨Hv,trivial⟩ (fn:=Tryz.f188) (by kernel_rfl) rfl (by kernel_rfl) (by decide) (by kernel_rfl) (F:=λk x=>Az.f k x.1) (m:=NQ) (λk x=>rfl)
  (by
   refine And.intro ?_ ?_
   ·refine Au (sl:=P5) (F:=XP) (λx=>rfl) λk ⟨⟨(x0:List Int),_⟩,⟨(x3:List Int),_⟩,⟨(x6:Int),_⟩,⟨(x7:Int),_⟩,_⟩=> ?_
    show Ae NQ (Az.l0 (k+1) x0 x3 x6 x7) _;rw[Az.l0];exact go
   exact trivial)
  (λk ⟨(a0:List Int),_⟩=>by show Ae NQ (Az.f k a0) _;unfold Az.f;exact go)
end
section
attribute [local irreducible] Az.f
def Iw:AS:=⟨[(.row 73 (.int .u64))],[(.row 73 (.int .u64))],λk x=>(Bi.f k x.1).map λr=>(r,())⟩
def Ko (r:List Int):TT Iw.rs:=(r,())
@[reducible] def Mc:List Slot:= [.tmp 0 [.ty (.row 73 (.int .u64))], .tmp 3 [.own .mine 3 73 (.int .u64)], .tmp 6 [.ty (.int .i64)], .tmp 7 [.ty (.int .i64)]]
def SV (k:Nat) (x:TS Mc):Option (List Int):=Bi.l0 k x.1.1 x.2.1.1 x.2.2.1.1 x.2.2.2.1.1
def jK:Bs (TT Iw.rs):=⟨⟨29,29,[]⟩,AH [(0,⟨Mc,λk x=>(SV k x).map Ko⟩)],AH [],AH []⟩
theorem Uf:DP Tryz.prog 128 Iw :=
 Aa (Bt:=AP []) (l:= [(188, .pu Eu)]) (C:=jK) (by kernel_rfl) AK ⟨Hw,trivial⟩ (fn:=Tryz.f128) (by kernel_rfl) rfl (by kernel_rfl) (by decide) (by kernel_rfl) (F:=λk x=>Bi.f k x.1) (m:=Ko) (λk x=>rfl)
  (by
   refine And.intro ?_ ?_
   ·refine Au (sl:=Mc) (F:=SV) (λx=>rfl) λk ⟨⟨(x0:List Int),_⟩,⟨(x3:List Int),_⟩,⟨(x6:Int),_⟩,⟨(x7:Int),_⟩,_⟩=> ?_
    show Ae Ko (Bi.l0 (k+1) x0 x3 x6 x7) _;rw[Bi.l0];exact go
   exact trivial)
  (λk ⟨(a0:List Int),_⟩=>by show Ae Ko (Bi.f k a0) _;unfold Bi.f;exact go)
end
section
attribute [local irreducible] Az.f
def Jp:AS:=⟨[(.row 73 (.int .u64))],[(.row 73 (.int .u64))],λk x=>(CD.f k x.1).map λr=>(r,())⟩
def Lx (r:List Int):TT Jp.rs:=(r,())
@[reducible] def OD:List Slot:= [.tmp 0 [.ty (.row 73 (.int .u64))], .tmp 3 [.own .mine 3 73 (.int .u64)], .tmp 4 [.ty (.int .i64)]]
def Ug (k:Nat) (x:TS OD):Option (List Int):=CD.l0 k x.1.1 x.2.1.1 x.2.2.1.1
def pT:Bs (TT Jp.rs):=⟨⟨35,35,[]⟩,AH [(0,⟨OD,λk x=>(Ug k x).map Lx⟩)],AH [],AH []⟩
theorem XQ:DP Tryz.prog 129 Jp :=
 Aa (Bt:=AP []) (l:= [(188, .pu Eu)]) (C:=pT) (by kernel_rfl) AK ⟨Hw,trivial⟩ (fn:=Tryz.f129) (by kernel_rfl) rfl (by kernel_rfl) (by decide) (by kernel_rfl) (F:=λk x=>CD.f k x.1) (m:=Lx) (λk x=>rfl)
  (by
   refine And.intro ?_ ?_
   ·refine Au (sl:=OD) (F:=Ug) (λx=>rfl) λk ⟨⟨(x0:List Int),_⟩,⟨(x3:List Int),_⟩,⟨(x4:Int),_⟩,_⟩=> ?_
    show Ae Lx (CD.l0 (k+1) x0 x3 x4) _;rw[CD.l0];exact go
   exact trivial)
  (λk ⟨(a0:List Int),_⟩=>by show Ae Lx (CD.f k a0) _;unfold CD.f;exact go)
end
section
attribute [local irreducible] Bi.f CD.f IJ.f
def Md:AS:=⟨[(.row 73 (.int .u64)),(.row 73 (.int .u64))],[(.row 73 (.int .u64))],λk x=>(DL.f k x.1 x.2.1).map λr=>(r,())⟩
def P6 (r:List Int):TT Md.rs:=(r,())
@[reducible] def SW:List Slot:= [.tmp 5 [.ty (.row 73 (.int .u64))], .tmp 6 [.ty (.row 73 (.int .u64))], .tmp 7 [.own .mine 7 73 (.int .u64)], .tmp 8 [.ty (.int .u64)], .tmp 16 [.ty (.int .i64)], .tmp 17 [.ty (.int .i64)]]
def ZV (k:Nat) (x:TS SW):Option (List Int):=DL.l0 k x.1.1 x.2.1.1 x.2.2.1.1 x.2.2.2.1.1 x.2.2.2.2.1.1 x.2.2.2.2.2.1.1
def xj:Bs (TT Md.rs):=⟨⟨42,42,[]⟩,AH [(0,⟨SW,λk x=>(ZV k x).map P6⟩)],AH [],AH []⟩
theorem fz:DP Tryz.prog 76 Md :=
 Aa (Bt:=AP [(7,[0,0,3,7,15,0,0,96,255,0,1023,2047])]) (l:= [(128, .pu Iw),(129, .pu Jp),(130, .pu Tg)]) (C:=xj) (by kernel_rfl) AK ⟨Uf,XQ,kn,trivial⟩ (fn:=Tryz.f76) (by kernel_rfl) rfl (by kernel_rfl) (by decide) (by kernel_rfl) (F:=λk x=>DL.f k x.1 x.2.1) (m:=P6) (λk x=>rfl)
  (by
   refine And.intro ?_ ?_
   ·refine Au (sl:=SW) (F:=ZV) (λx=>rfl) λk ⟨⟨(x5:List Int),_⟩,⟨(x6:List Int),_⟩,⟨(x7:List Int),_⟩,⟨(x8:Int),_⟩,⟨(X0:Int),_⟩,⟨(x17:Int),_⟩,_⟩=> ?_
    show Ae P6 (DL.l0 (k+1) x5 x6 x7 x8 X0 x17) _;rw[DL.l0];exact go
   exact trivial)
  (λk ⟨(a0:List Int),(a1:List Int),_⟩=>by show Ae P6 (DL.f k a0 a1) _;unfold DL.f;exact go)
end
section
attribute [local irreducible] Az.f
def Me:AS:=⟨[(.row 73 (.int .u64)), .int .i64],[(.row 73 (.int .u64))],λk x=>(Aq.f k x.1 x.2.1).map λr=>(r,())⟩
def Hx (r:List Int):TT Me.rs:=(r,())
@[reducible] def SX:List Slot:= [.tmp 0 [.ty (.row 73 (.int .u64))], .tmp 1 [.ty (.int .i64)], .tmp 5 [.own .mine 5 73 (.int .u64)], .tmp 13 [.ty (.int .i64)], .tmp 14 [.ty (.int .i64)]]
def ZW (k:Nat) (x:TS SX):Option (List Int):=match x with | ⟨⟨(x0:List Int),_⟩,⟨(x1:Int),_⟩,⟨(x5:List Int),_⟩,⟨(Dm:Int),_⟩,⟨(UW:Int),_⟩,_⟩=>if 0<=x1/\x1<=65536 then Aq.l0 k x0 x1 x5 Dm UW else none
@[reducible] def SY:List Slot:= [.tmp 0 [.ty (.row 73 (.int .u64))], .tmp 1 [.ty (.int .i64)], .tmp 5 [.own .mine 5 73 (.int .u64)], .tmp 21 [.ty (.int .i64)], .tmp 22 [.ty (.int .i64)]]
def ZX (k:Nat) (x:TS SY):Option (List Int):=match x with | ⟨⟨(x0:List Int),_⟩,⟨(x1:Int),_⟩,⟨(x5:List Int),_⟩,⟨(Qn:Int),_⟩,⟨(N3:Int),_⟩,_⟩=>if 0<=x1/\x1<=65536 then Aq.l1 k x0 x1 x5 Qn N3 else none
@[reducible] def SZ:List Slot:= [.tmp 5 [.own .mine 5 73 (.int .u64)], .tmp 7 [.ty (.int .u64)], .tmp 8 [.ty (.int .i64)]]
def ZY (k:Nat) (x:TS SZ):Option (List Int):=match x with | ⟨⟨(x5:List Int),_⟩,⟨(x7:Int),_⟩,⟨(x8:Int),_⟩,_⟩=>if 0<=x7/\x7<64 then Aq.l2 k x5 x7 x8 else none
def xk:Bs (TT Me.rs):=⟨⟨78,78,[]⟩,AH [(0,⟨SX,λk x=>(ZW k x).map Hx⟩),(1,⟨SY,λk x=>(ZX k x).map Hx⟩),(2,⟨SZ,λk x=>(ZY k x).map Hx⟩)],AH [],AH []⟩
theorem gA:DP Tryz.prog 157 Me :=
 Aa (Bt:=AP [(19,[0,0,0,0,12,28,0,124,0,0,512,1792,3840,0,8192,32512,65532,131071,262143])]) (l:= [(188, .pu Eu)]) (C:=xk) (by kernel_rfl) AK ⟨Hw,trivial⟩ (fn:=Tryz.f157) (by kernel_rfl) rfl (by kernel_rfl) (by decide) (by kernel_rfl) (F:=λk x=>Aq.f k x.1 x.2.1) (m:=Hx) (λk x=>rfl)
  (by
   refine And.intro ?_ ?_
   ·refine Au (sl:=SX) (F:=ZW) (λ⟨⟨(x0:List Int),_⟩,⟨(x1:Int),_⟩,⟨(x5:List Int),_⟩,⟨(Dm:Int),_⟩,⟨(UW:Int),_⟩,_⟩=>by show(if 0<=x1/\x1<=65536 then Aq.l0 0 x0 x1 x5 Dm UW else none)=none;split<;>rfl) λk ⟨⟨(x0:List Int),_⟩,⟨(x1:Int),_⟩,⟨(x5:List Int),_⟩,⟨(Dm:Int),_⟩,⟨(UW:Int),_⟩,_⟩=> ?_
    show Ae Hx (if 0<=x1/\x1<=65536 then Aq.l0 (k+1) x0 x1 x5 Dm UW else none) _;rw[Aq.l0];exact go
   refine And.intro ?_ ?_
   ·refine Au (sl:=SY) (F:=ZX) (λ⟨⟨(x0:List Int),_⟩,⟨(x1:Int),_⟩,⟨(x5:List Int),_⟩,⟨(Qn:Int),_⟩,⟨(N3:Int),_⟩,_⟩=>by show(if 0<=x1/\x1<=65536 then Aq.l1 0 x0 x1 x5 Qn N3 else none)=none;split<;>rfl) λk ⟨⟨(x0:List Int),_⟩,⟨(x1:Int),_⟩,⟨(x5:List Int),_⟩,⟨(Qn:Int),_⟩,⟨(N3:Int),_⟩,_⟩=> ?_
    show Ae Hx (if 0<=x1/\x1<=65536 then Aq.l1 (k+1) x0 x1 x5 Qn N3 else none) _;rw[Aq.l1];exact go
   refine And.intro ?_ ?_
   ·refine Au (sl:=SZ) (F:=ZY) (λ⟨⟨(x5:List Int),_⟩,⟨(x7:Int),_⟩,⟨(x8:Int),_⟩,_⟩=>by show(if 0<=x7/\x7<64 then Aq.l2 0 x5 x7 x8 else none)=none;split<;>rfl) λk ⟨⟨(x5:List Int),_⟩,⟨(x7:Int),_⟩,⟨(x8:Int),_⟩,_⟩=> ?_
    show Ae Hx (if 0<=x7/\x7<64 then Aq.l2 (k+1) x5 x7 x8 else none) _;rw[Aq.l2];exact go
   exact trivial)
  (λk ⟨(a0:List Int),(a1:Int),_⟩=>by show Ae Hx (Aq.f k a0 a1) _;unfold Aq.f;exact go)
end
section
def P7:AS:=⟨[(.row 73 (.int .u64)), .int .i64],[.bool],λ_ x=>(Gy.f x.1 x.2.1).map λr=>(r,())⟩
def gB (r:Bool):TT P7.rs:=(r,())
theorem gC:DP Tryz.prog 227 P7 :=
 Aa (Bt:=AP []) (l:= []) (C:=Ai) (by kernel_rfl) AK trivial (fn:=Tryz.f227) (by kernel_rfl) rfl (by kernel_rfl) (by decide) (by kernel_rfl) (F:=λk x=>Gy.f x.1 x.2.1) (m:=gB) (λk x=>rfl)
  (by exact trivial)
  (λk ⟨(a0:List Int),(a1:Int),_⟩=>by show Ae gB (Gy.f a0 a1) _;unfold Gy.f;exact go)
end
section
attribute [local irreducible] BU.f Gy.f
def NR:AS:=⟨[(.row 73 (.int .u64))],[.int .i64],λk x=>(CO.f k x.1).map λr=>(r,())⟩
def NS (r:Int):TT NR.rs:=(r,())
@[reducible] def P8:List Slot:= [.tmp 0 [.ty (.row 73 (.int .u64))], .tmp 3 [.ty (.int .i64)]]
def XR (k:Nat) (x:TS P8):Option (Int):=CO.l0 k x.1.1 x.2.1.1
def uM:Bs (TT NR.rs):=⟨⟨14,14,[]⟩,AH [(0,⟨P8,λk x=>(XR k x).map NS⟩)],AH [],AH []⟩
theorem uN:DP Tryz.prog 189 NR :=
 Aa (Bt:=AP []) (l:= [(126, .pu Et),(227, .pu P7)]) (C:=uM) (by kernel_rfl) AK ⟨Hv,gC,trivial⟩ (fn:=Tryz.f189) (by kernel_rfl) rfl (by kernel_rfl) (by decide) (by kernel_rfl) (F:=λk x=>CO.f k x.1) (m:=NS) (λk x=>rfl)
  (by
   refine And.intro ?_ ?_
   ·refine Au (sl:=P8) (F:=XR) (λx=>rfl) λk ⟨⟨(x0:List Int),_⟩,⟨(x3:Int),_⟩,_⟩=> ?_
    show Ae NS (CO.l0 (k+1) x0 x3) _;rw[CO.l0];exact go
   exact trivial)
  (λk ⟨(a0:List Int),_⟩=>by show Ae NS (CO.f k a0) _;unfold CO.f;exact go)
end
section
attribute [local irreducible] Az.f
def Mf:AS:=⟨[(.row 73 (.int .u64)), .int .i64],[(.row 73 (.int .u64))],λk x=>(BC.f k x.1 x.2.1).map λr=>(r,())⟩
def KU (r:List Int):TT Mf.rs:=(r,())
@[reducible] def Sc:List Slot:= [.tmp 0 [.ty (.row 73 (.int .u64))], .tmp 1 [.ty (.int .i64)], .tmp 5 [.own .mine 5 73 (.int .u64)], .tmp 6 [.ty (.int .i64)]]
def ZZ (k:Nat) (x:TS Sc):Option (List Int):=match x with | ⟨⟨(x0:List Int),_⟩,⟨(x1:Int),_⟩,⟨(x5:List Int),_⟩,⟨(x6:Int),_⟩,_⟩=>if 0<=x1 then BC.l0 k x0 x1 x5 x6 else none
@[reducible] def Sd:List Slot:= [.tmp 5 [.own .mine 5 73 (.int .u64)], .tmp 7 [.ty (.int .u64)], .tmp 35 [.ty (.int .i64)], .tmp 36 [.ty (.int .i64)]]
def Za (k:Nat) (x:TS Sd):Option (List Int):=match x with | ⟨⟨(x5:List Int),_⟩,⟨(x7:Int),_⟩,⟨(TW:Int),_⟩,⟨(qI:Int),_⟩,_⟩=>if 0<=x7/\x7<64 then BC.l1 k x5 x7 TW qI else none
def xl:Bs (TT Mf.rs):=⟨⟨72,72,[]⟩,AH [(0,⟨Sc,λk x=>(ZZ k x).map KU⟩),(1,⟨Sd,λk x=>(Za k x).map KU⟩)],AH [],AH []⟩
theorem gD:DP Tryz.prog 190 Mf :=
 Aa (Bt:=AP [(15,[0,0,0,0,12,28,0,0,128,448,960,0,2048,8128,16380,32767,65535])]) (l:= [(188, .pu Eu)]) (C:=xl) (by kernel_rfl) AK ⟨Hw,trivial⟩ (fn:=Tryz.f190) (by kernel_rfl) rfl (by kernel_rfl) (by decide) (by kernel_rfl) (F:=λk x=>BC.f k x.1 x.2.1) (m:=KU) (λk x=>rfl)
  (by
   refine And.intro ?_ ?_
   ·refine Au (sl:=Sc) (F:=ZZ) (λ⟨⟨(x0:List Int),_⟩,⟨(x1:Int),_⟩,⟨(x5:List Int),_⟩,⟨(x6:Int),_⟩,_⟩=>by show(if 0<=x1 then BC.l0 0 x0 x1 x5 x6 else none)=none;split<;>rfl) λk ⟨⟨(x0:List Int),_⟩,⟨(x1:Int),_⟩,⟨(x5:List Int),_⟩,⟨(x6:Int),_⟩,_⟩=> ?_
    show Ae KU (if 0<=x1 then BC.l0 (k+1) x0 x1 x5 x6 else none) _;rw[BC.l0];exact go
   refine And.intro ?_ ?_
   ·refine Au (sl:=Sd) (F:=Za) (λ⟨⟨(x5:List Int),_⟩,⟨(x7:Int),_⟩,⟨(TW:Int),_⟩,⟨(qI:Int),_⟩,_⟩=>by show(if 0<=x7/\x7<64 then BC.l1 0 x5 x7 TW qI else none)=none;split<;>rfl) λk ⟨⟨(x5:List Int),_⟩,⟨(x7:Int),_⟩,⟨(TW:Int),_⟩,⟨(qI:Int),_⟩,_⟩=> ?_
    show Ae KU (if 0<=x7/\x7<64 then BC.l1 (k+1) x5 x7 TW qI else none) _;rw[BC.l1];exact go
   exact trivial)
  (λk ⟨(a0:List Int),(a1:Int),_⟩=>by show Ae KU (BC.f k a0 a1) _;unfold BC.f;exact go)
end
section
attribute [local irreducible] Ck.f DL.f BU.f Aq.f Az.f CO.f BC.f
def P9:AS:=⟨[(.row 73 (.int .u64)),(.row 73 (.int .u64))],[(.row 73 (.int .u64))],λk x=>(Ba.f k x.1 x.2.1).map λr=>(r,())⟩
def Hy (r:List Int):TT P9.rs:=(r,())
@[reducible] def Se:List Slot:= [.tmp 0 [.ty (.row 73 (.int .u64))], .tmp 1 [.ty (.row 73 (.int .u64))], .tmp 28 [.ty .bool]]
def Zb (k:Nat) (x:TS Se):Option (List Int):=Ba.j0 k x.1.1 x.2.1.1 x.2.2.1.1
@[reducible] def Sf:List Slot:= [.tmp 5 [.ty (.int .u64)], .tmp 6 [.ty (.int .u64)]]
def Zc (k:Nat) (x:TS Sf):Option (List Int):=Ba.l0 k x.1.1 x.2.1.1
@[reducible] def Sg:List Slot:= [.tmp 7 [.ty (.int .i64)], .tmp 8 [.ty (.row 73 (.int .u64))], .tmp 9 [.ty (.row 73 (.int .u64))]]
def Zd (k:Nat) (x:TS Sg):Option (List Int):=Ba.l1 k x.1.1 x.2.1.1 x.2.2.1.1
def xm:Bs (TT P9.rs):=⟨⟨75,75,[]⟩,AH [(0,⟨Sf,λk x=>(Zc k x).map Hy⟩),(1,⟨Sg,λk x=>(Zd k x).map Hy⟩)],AH [],AH [(5,⟨Se,λk x=>(Zb k x).map Hy⟩)]⟩
theorem xp:DP Tryz.prog 120 P9 :=
 Aa (Bt:=AP [(6,[0,1,3,0,8,24,7,127]),(8,[0,0,0,6,3,31])]) (l:= [(75, .pu KT),(76, .pu Md),(126, .pu Et),(157, .pu Me),(188, .pu Eu),(189, .pu NR),(190, .pu Mf)]) (C:=xm) (by kernel_rfl) AK ⟨Vf,fz,Hv,gA,Hw,uN,gD,trivial⟩ (fn:=Tryz.f120) (by kernel_rfl) rfl (by kernel_rfl) (by decide) (by kernel_rfl) (F:=λk x=>Ba.f k x.1 x.2.1) (m:=Hy) (λk x=>rfl)
  (by
   refine And.intro ?_ ?_
   ·refine Be (sl:=Se) (F:=Zb) (λx=>rfl) λk ⟨⟨(x0:List Int),_⟩,⟨(x1:List Int),_⟩,⟨(zW:Bool),_⟩,_⟩=> ?_
    show Ae Hy (Ba.j0 (k+1) x0 x1 zW) _;rw[Ba.j0];exact go
   refine And.intro ?_ ?_
   ·refine Au (sl:=Sf) (F:=Zc) (λx=>rfl) λk ⟨⟨(x5:Int),_⟩,⟨(x6:Int),_⟩,_⟩=> ?_
    show Ae Hy (Ba.l0 (k+1) x5 x6) _;rw[Ba.l0];exact go
   refine And.intro ?_ ?_
   ·refine Au (sl:=Sg) (F:=Zd) (λx=>rfl) λk ⟨⟨(x7:Int),_⟩,⟨(x8:List Int),_⟩,⟨(x9:List Int),_⟩,_⟩=> ?_
    show Ae Hy (Ba.l1 (k+1) x7 x8 x9) _;rw[Ba.l1];exact go
   exact trivial)
  (λk ⟨(a0:List Int),(a1:List Int),_⟩=>by show Ae Hy (Ba.f k a0 a1) _;unfold Ba.f;exact go)
end
section
def QA:AS:=⟨[.int .u64],[.int .i64],λk x=>(Eh.f k x.1).map λr=>(r,())⟩
def QB (r:Int):TT QA.rs:=(r,())
@[reducible] def Sh:List Slot:= [.tmp 0 [.ty (.int .u64)], .tmp 3 [.ty (.int .i64)]]
def Ze (k:Nat) (x:TS Sh):Option (Int):=Eh.l0 k x.1.1 x.2.1.1
def xq:Bs (TT QA.rs):=⟨⟨11,11,[]⟩,AH [(0,⟨Sh,λk x=>(Ze k x).map QB⟩)],AH [],AH []⟩
theorem xu:DP Tryz.prog 191 QA :=
 Aa (Bt:=AP []) (l:= []) (C:=xq) (by kernel_rfl) AK trivial (fn:=Tryz.f191) (by kernel_rfl) rfl (by kernel_rfl) (by decide) (by kernel_rfl) (F:=λk x=>Eh.f k x.1) (m:=QB) (λk x=>rfl)
  (by
   refine And.intro ?_ ?_
   ·refine Au (sl:=Sh) (F:=Ze) (λx=>rfl) λk ⟨⟨(x0:Int),_⟩,⟨(x3:Int),_⟩,_⟩=> ?_
    show Ae QB (Eh.l0 (k+1) x0 x3) _;rw[Eh.l0];exact go
   exact trivial)
  (λk ⟨(a0:Int),_⟩=>by show Ae QB (Eh.f k a0) _;unfold Eh.f;exact go)
end
section
attribute [local irreducible] BU.f Eh.f
def Si:AS:=⟨[(.row 73 (.int .u64))],[.int .i64],λk x=>(G7.f k x.1).map λr=>(r,())⟩
def Zf (r:Int):TT Si.rs:=(r,())
theorem uO:DP Tryz.prog 124 Si :=
 Aa (Bt:=AP []) (l:= [(126, .pu Et),(191, .pu QA)]) (C:=Ai) (by kernel_rfl) AK ⟨Hv,xu,trivial⟩ (fn:=Tryz.f124) (by kernel_rfl) rfl (by kernel_rfl) (by decide) (by kernel_rfl) (F:=λk x=>G7.f k x.1) (m:=Zf) (λk x=>rfl)
  (by exact trivial)
  (λk ⟨(a0:List Int),_⟩=>by show Ae Zf (G7.f k a0) _;unfold G7.f;exact go)
end
section
def QC:AS:=⟨[(.row 73 (.int .u64)), .int .i64],[(.row 73 (.int .u64))],λk x=>(CW.f k x.1 x.2.1).map λr=>(r,())⟩
def QD (r:List Int):TT QC.rs:=(r,())
@[reducible] def Sj:List Slot:= [.tmp 0 [.ty (.row 73 (.int .u64))], .tmp 1 [.ty (.int .i64)], .tmp 5 [.own .mine 5 73 (.int .u64)], .tmp 13 [.ty (.int .i64)], .tmp 14 [.ty (.int .i64)]]
def Zg (k:Nat) (x:TS Sj):Option (List Int):=CW.l0 k x.1.1 x.2.1.1 x.2.2.1.1 x.2.2.2.1.1 x.2.2.2.2.1.1
def xw:Bs (TT QC.rs):=⟨⟨41,41,[]⟩,AH [(0,⟨Sj,λk x=>(Zg k x).map QD⟩)],AH [],AH []⟩
theorem xx:DP Tryz.prog 228 QC :=
 Aa (Bt:=AP []) (l:= []) (C:=xw) (by kernel_rfl) AK trivial (fn:=Tryz.f228) (by kernel_rfl) rfl (by kernel_rfl) (by decide) (by kernel_rfl) (F:=λk x=>CW.f k x.1 x.2.1) (m:=QD) (λk x=>rfl)
  (by
   refine And.intro ?_ ?_
   ·refine Au (sl:=Sj) (F:=Zg) (λx=>rfl) λk ⟨⟨(x0:List Int),_⟩,⟨(x1:Int),_⟩,⟨(x5:List Int),_⟩,⟨(Dm:Int),_⟩,⟨(UW:Int),_⟩,_⟩=> ?_
    show Ae QD (CW.l0 (k+1) x0 x1 x5 Dm UW) _;rw[CW.l0];exact go
   exact trivial)
  (λk ⟨(a0:List Int),(a1:Int),_⟩=>by show Ae QD (CW.f k a0 a1) _;unfold CW.f;exact go)
end
section
attribute [local irreducible] Ck.f DL.f G7.f BU.f Aq.f Az.f BC.f Gy.f CW.f
def QE:AS:=⟨[(.row 73 (.int .u64)),(.row 73 (.int .u64))],[(.row 73 (.int .u64)),(.row 73 (.int .u64))],λk x=>(Bf.f k x.1 x.2.1).map λr=>(r.1,r.2,())⟩
def Hz (r:List Int × List Int):TT QE.rs:=(r.1,r.2,())
@[reducible] def Sk:List Slot:= [.tmp 0 [.ty (.row 73 (.int .u64))], .tmp 1 [.ty (.row 73 (.int .u64))], .tmp 6 [.ty (.row 73 (.int .u64))], .tmp 18 [.ty .bool]]
def Zh (k:Nat) (x:TS Sk):Option (List Int × List Int):=Bf.j0 k x.1.1 x.2.1.1 x.2.2.1.1 x.2.2.2.1.1
@[reducible] def Sl:List Slot:= [.tmp 0 [.ty (.row 73 (.int .u64))], .tmp 1 [.ty (.row 73 (.int .u64))], .tmp 6 [.ty (.row 73 (.int .u64))], .tmp 7 [.ty (.row 73 (.int .u64))], .tmp 10 [.ty (.int .i64)]]
def Zi (k:Nat) (x:TS Sl):Option (List Int × List Int):=Bf.l0 k x.1.1 x.2.1.1 x.2.2.1.1 x.2.2.2.1.1 x.2.2.2.2.1.1
@[reducible] def Sm:List Slot:= [.tmp 0 [.ty (.row 73 (.int .u64))], .tmp 1 [.ty (.row 73 (.int .u64))], .tmp 6 [.ty (.row 73 (.int .u64))], .tmp 7 [.ty (.row 73 (.int .u64))], .tmp 10 [.ty (.int .i64)]]
def Zj (k:Nat) (x:TS Sm):Option (List Int × List Int):=Bf.j2 k x.1.1 x.2.1.1 x.2.2.1.1 x.2.2.2.1.1 x.2.2.2.2.1.1
def xy:Bs (TT QE.rs):=⟨⟨75,75,[]⟩,AH [(0,⟨Sl,λk x=>(Zi k x).map Hz⟩)],AH [(13,⟨Sm,λk x=>(Zj k x).map Hz⟩)],AH [(2,⟨Sk,λk x=>(Zh k x).map Hz⟩)]⟩
theorem xz:DP Tryz.prog 156 QE :=
 Aa (Bt:=AP [(3,[0,1,3,0,8,24,63,127,255,0,512,1536,0,4096,12288,32256,65024,131071,262143,524287])]) (l:= [(75, .pu KT),(76, .pu Md),(124, .pu Si),(126, .pu Et),(157, .pu Me),(188, .pu Eu),(190, .pu Mf),(227, .pu P7),(228, .pu QC)]) (C:=xy) (by kernel_rfl) AK ⟨Vf,fz,uO,Hv,gA,Hw,gD,gC,xx,trivial⟩ (fn:=Tryz.f156) (by kernel_rfl) rfl (by kernel_rfl) (by decide) (by kernel_rfl) (F:=λk x=>Bf.f k x.1 x.2.1) (m:=Hz) (λk x=>rfl)
  (by
   refine And.intro ?_ ?_
   ·refine Be (sl:=Sk) (F:=Zh) (λx=>rfl) λk ⟨⟨(x0:List Int),_⟩,⟨(x1:List Int),_⟩,⟨(x6:List Int),_⟩,⟨(uw:Bool),_⟩,_⟩=> ?_
    show Ae Hz (Bf.j0 (k+1) x0 x1 x6 uw) _;rw[Bf.j0];exact go
   refine And.intro ?_ ?_
   ·refine Au (sl:=Sl) (F:=Zi) (λx=>rfl) λk ⟨⟨(x0:List Int),_⟩,⟨(x1:List Int),_⟩,⟨(x6:List Int),_⟩,⟨(x7:List Int),_⟩,⟨(Ik:Int),_⟩,_⟩=> ?_
    show Ae Hz (Bf.l0 (k+1) x0 x1 x6 x7 Ik) _;rw[Bf.l0];exact go
   refine And.intro ?_ ?_
   ·refine Be (sl:=Sm) (F:=Zj) (λx=>rfl) λk ⟨⟨(x0:List Int),_⟩,⟨(x1:List Int),_⟩,⟨(x6:List Int),_⟩,⟨(x7:List Int),_⟩,⟨(Ik:Int),_⟩,_⟩=> ?_
    show Ae Hz (Bf.j2 (k+1) x0 x1 x6 x7 Ik) _;rw[Bf.j2];exact go
   exact trivial)
  (λk ⟨(a0:List Int),(a1:List Int),_⟩=>by show Ae Hz (Bf.f k a0 a1) _;unfold Bf.f;exact go)
end
section
attribute [local irreducible] Ck.f BU.f Bf.f Az.f
def Sn:AS:=⟨[(.row 73 (.int .u64)),(.row 73 (.int .u64))],[(.row 73 (.int .u64))],λk x=>(JR.f k x.1 x.2.1).map λr=>(r,())⟩
def Zk (r:List Int):TT Sn.rs:=(r,())
theorem uP:DP Tryz.prog 127 Sn :=
 Aa (Bt:=AP []) (l:= [(75, .pu KT),(126, .pu Et),(156, .pu QE),(188, .pu Eu)]) (C:=Ai) (by kernel_rfl) AK ⟨Vf,Hv,xz,Hw,trivial⟩ (fn:=Tryz.f127) (by kernel_rfl) rfl (by kernel_rfl) (by decide) (by kernel_rfl) (F:=λk x=>JR.f k x.1 x.2.1) (m:=Zk) (λk x=>rfl)
  (by exact trivial)
  (λk ⟨(a0:List Int),(a1:List Int),_⟩=>by show Ae Zk (JR.f k a0 a1) _;unfold JR.f;exact go)
end
section
attribute [local irreducible] Ba.f BU.f JR.f
def NU:AS:=⟨[.bool,(.row 73 (.int .u64)),(.row 73 (.int .u64))],[(.cons .bool (.cons (.row 73 (.int .u64)) (.row 73 (.int .u64))))],λk x=>(FQ.f k x.1 x.2.1 x.2.2.1).map λr=>((r.1,r.2.1,r.2.2),())⟩
def Zl (r:Bool × List Int × List Int):TT NU.rs:=((r.1,r.2.1,r.2.2),())
theorem Zm:DP Tryz.prog 72 NU :=
 Aa (Bt:=AP []) (l:= [(120, .pu P9),(126, .pu Et),(127, .pu Sn)]) (C:=Ai) (by kernel_rfl) AK ⟨xp,Hv,uP,trivial⟩ (fn:=Tryz.f72) (by kernel_rfl) rfl (by kernel_rfl) (by decide) (by kernel_rfl) (F:=λk x=>FQ.f k x.1 x.2.1 x.2.2.1) (m:=Zl) (λk x=>rfl)
  (by exact trivial)
  (λk ⟨(a0:Bool),(a1:List Int),(a2:List Int),_⟩=>by show Ae Zl (FQ.f k a0 a1 a2) _;unfold FQ.f;exact go)
end
section
attribute [local irreducible] FQ.f
def Tb:AS:=⟨[.int .i64],[(.cons .bool (.cons (.row 73 (.int .u64)) (.row 73 (.int .u64))))],λk x=>(Kh.f k x.1).map λr=>((r.1,r.2.1,r.2.2),())⟩
def ko (r:Bool × List Int × List Int):TT Tb.rs:=((r.1,r.2.1,r.2.2),())
theorem kX:DP Tryz.prog 22 Tb :=
 Aa (Bt:=AP []) (l:= [(72, .pu NU)]) (C:=Ai) (by kernel_rfl) AK ⟨Zm,trivial⟩ (fn:=Tryz.f22) (by kernel_rfl) rfl (by kernel_rfl) (by decide) (by kernel_rfl) (F:=λk x=>Kh.f k x.1) (m:=ko) (λk x=>rfl)
  (by exact trivial)
  (λk ⟨(a0:Int),_⟩=>by show Ae ko (Kh.f k a0) _;unfold Kh.f;exact go)
end
section
def Ly:AS:=⟨[(.row 73 (.int .u64)),(.row 73 (.int .u64))],[.bool],λk x=>(Cs.f k x.1 x.2.1).map λr=>(r,())⟩
def Lz (r:Bool):TT Ly.rs:=(r,())
@[reducible] def OE:List Slot:= [.tmp 0 [.ty (.row 73 (.int .u64))], .tmp 1 [.ty (.row 73 (.int .u64))], .tmp 12 [.ty (.int .i64)], .tmp 13 [.ty (.int .i64)]]
def Uh (k:Nat) (x:TS OE):Option (Bool):=Cs.l0 k x.1.1 x.2.1.1 x.2.2.1.1 x.2.2.2.1.1
def pU:Bs (TT Ly.rs):=⟨⟨26,26,[]⟩,AH [(0,⟨OE,λk x=>(Uh k x).map Lz⟩)],AH [],AH []⟩
theorem pV:DP Tryz.prog 95 Ly :=
 Aa (Bt:=AP [(6,[0,0,3,7,0,0,48,112,255])]) (l:= []) (C:=pU) (by kernel_rfl) AK trivial (fn:=Tryz.f95) (by kernel_rfl) rfl (by kernel_rfl) (by decide) (by kernel_rfl) (F:=λk x=>Cs.f k x.1 x.2.1) (m:=Lz) (λk x=>rfl)
  (by
   refine And.intro ?_ ?_
   ·refine Au (sl:=OE) (F:=Uh) (λx=>rfl) λk ⟨⟨(x0:List Int),_⟩,⟨(x1:List Int),_⟩,⟨(iq:Int),_⟩,⟨(Dm:Int),_⟩,_⟩=> ?_
    show Ae Lz (Cs.l0 (k+1) x0 x1 iq Dm) _;rw[Cs.l0];exact go
   exact trivial)
  (λk ⟨(a0:List Int),(a1:List Int),_⟩=>by show Ae Lz (Cs.f k a0 a1) _;unfold Cs.f;exact go)
end
section
attribute [local irreducible] Cs.f
def NV:AS:=⟨[(.cons .bool (.cons (.row 73 (.int .u64)) (.row 73 (.int .u64)))),(.cons .bool (.cons (.row 73 (.int .u64)) (.row 73 (.int .u64))))],[.bool],λk x=>(G1.f k x.1.1 x.1.2.1 x.1.2.2 x.2.1.1 x.2.1.2.1 x.2.1.2.2).map λr=>(r,())⟩
def Zn (r:Bool):TT NV.rs:=(r,())
theorem Zo:DP Tryz.prog 37 NV :=
 Aa (Bt:=AP []) (l:= [(95, .pu Ly)]) (C:=Ai) (by kernel_rfl) AK ⟨pV,trivial⟩ (fn:=Tryz.f37) (by kernel_rfl) rfl (by kernel_rfl) (by decide) (by kernel_rfl) (F:=λk x=>G1.f k x.1.1 x.1.2.1 x.1.2.2 x.2.1.1 x.2.1.2.1 x.2.1.2.2) (m:=Zn) (λk x=>rfl)
  (by exact trivial)
  (λk ⟨(a0:Bool × List Int × List Int),(a1:Bool × List Int × List Int),_⟩=>by show Ae Zn (G1.f k a0.1 a0.2.1 a0.2.2 a1.1 a1.2.1 a1.2.2) _;unfold G1.f;exact go)
end
section
attribute [local irreducible] Kh.f G1.f Gv.f D6.f Aj.f DW.f D5.f CU.f DX.f
def Ih:AS:=⟨[],[.bool],λk _=>(AR.f k).map λr=>(r,())⟩
def Lf (r:Bool):TT Ih.rs:=(r,())
theorem Tw:DP Tryz.prog 39 Ih :=
 AB9 (mm:=77) (Bt:=AP [(8,[0,1,0,7,15,31,63,127,255,511,1023,2047,4095,8191,16383,32767,65535,131071,262143,524287,1048575,2097151,4194303,8388607,16777215,33554431,67108863,134217727,268435455,536870911,1073741823,2147483647,4294967295,8589934591,17179869183,34359738367])]) (l:= [(22, .pu Tb),(37, .pu NV),(38, .np Pq),(45, .io EX [(34,75)]),(50, .io DB [(27,73)]),(96, .io Ec [(11,63)]),(97, .io Ed [(15,65)]),(98, .io EY [(18,67),(21,69)]),(99, .io EZ [(25,71)])]) (C:=Ai) (by kernel_rfl) AK ⟨kX,Zo,fW,Qo,Le,Qx,Q0,Qq,Qu,trivial⟩ (fn:=Tryz.f39) (by kernel_rfl) rfl (by kernel_rfl) (by decide) (by kernel_rfl) (F:=λk x=>AR.f k) (m:=Lf) (λk x=>rfl)
  (by exact trivial)
  (λk x=>by show Ae Lf (AR.f k) _;unfold AR.f;exact go)
end
section
attribute [local irreducible] D5.f DX.f G5.f G6.f G2.f GM.f G3.f G4.f
def Dg:D0:=⟨[.st 135 [.ty (.int .i64), .ty (.int .i64), .row false 93 (.cons (.int .i64) (.cons (.int .i64) (.cons (.int .i64) (.cons .bool (.cons (.row 73 (.int .u64)) (.row 73 (.int .u64))))))), .ty (.row 4 .bool), .row false 4 .bool, .ty (.int .i64), .ty (.int .i64), .ty .bool, .ty (.int .i64)], .ty (.int .i64), .ty (.cons (.cons .bool (.cons (.row 73 (.int .u64)) (.row 73 (.int .u64)))) (.cons (.int .u64) (.int .i64))), .ty (.cons (.cons .bool (.cons (.row 73 (.int .u64)) (.row 73 (.int .u64)))) (.cons (.int .u64) (.int .i64)))],[(.cons (.cons .bool (.cons (.row 73 (.int .u64)) (.row 73 (.int .u64)))) (.cons (.int .u64) (.int .i64)))],λk x=>(Da.f k x.1.1 x.1.2.1 x.1.2.2.1 x.1.2.2.2.1 x.1.2.2.2.2.1 x.1.2.2.2.2.2.1 x.1.2.2.2.2.2.2.1 x.1.2.2.2.2.2.2.2.1 x.1.2.2.2.2.2.2.2.2.1 x.2.1 x.2.2.1.1.1 x.2.2.1.1.2.1 x.2.2.1.1.2.2 x.2.2.1.2.1 x.2.2.1.2.2 x.2.2.2.1.1.1 x.2.2.2.1.1.2.1 x.2.2.2.1.1.2.2 x.2.2.2.1.2.1 x.2.2.2.1.2.2).map λr=>((((r.1,(r.2.1,r.2.2.1)),(r.2.2.2.1,r.2.2.2.2.1)),()),((r.2.2.2.2.2.1,r.2.2.2.2.2.2.1,r.2.2.2.2.2.2.2.1,r.2.2.2.2.2.2.2.2.1,r.2.2.2.2.2.2.2.2.2.1,r.2.2.2.2.2.2.2.2.2.2.1,r.2.2.2.2.2.2.2.2.2.2.2.1,r.2.2.2.2.2.2.2.2.2.2.2.2.1,r.2.2.2.2.2.2.2.2.2.2.2.2.2,()),()))⟩
def Lg (r:Bool × List Int × List Int × Int × Int × Int × Int × List (Int × Int × Int × Bool × (List Int) × List Int) × List Bool × List Bool × Int × Int × Bool × Int):TT Dg.rs × ET Dg.ps:=((((r.1,(r.2.1,r.2.2.1)),(r.2.2.2.1,r.2.2.2.2.1)),()),((r.2.2.2.2.2.1,r.2.2.2.2.2.2.1,r.2.2.2.2.2.2.2.1,r.2.2.2.2.2.2.2.2.1,r.2.2.2.2.2.2.2.2.2.1,r.2.2.2.2.2.2.2.2.2.2.1,r.2.2.2.2.2.2.2.2.2.2.2.1,r.2.2.2.2.2.2.2.2.2.2.2.2.1,r.2.2.2.2.2.2.2.2.2.2.2.2.2,()),()))
def T4:Bs (TT Dg.rs × ET Dg.ps):=⟨⟨51,70,[51]⟩,AH [],AH [],AH []⟩
theorem T5:UB Tryz.prog 100 Dg :=
 FJ (Bt:=AP []) (l:= [(97, .io Ed [(19,56)]),(99, .io EZ [(31,60)]),(172, .io FW [(13,54)]),(173, .io FX [(25,58)]),(174, .io FY [(37,62)]),(175, .io E3 [(42,64)]),(176, .io FZ [(47,66)]),(177, .io FV [(50,68)])]) (C:=T4) (by kernel_rfl) AK ⟨Q0,Qu,aN,aV,aW,Ye,aX,aI,trivial⟩ (fn:=Tryz.f100) (by kernel_rfl) rfl (by kernel_rfl) (by decide) (by kernel_rfl) (m:=70) (by decide) (by decide) (F:=λk x=>Da.f k x.1.1 x.1.2.1 x.1.2.2.1 x.1.2.2.2.1 x.1.2.2.2.2.1 x.1.2.2.2.2.2.1 x.1.2.2.2.2.2.2.1 x.1.2.2.2.2.2.2.2.1 x.1.2.2.2.2.2.2.2.2.1 x.2.1 x.2.2.1.1.1 x.2.2.1.1.2.1 x.2.2.1.1.2.2 x.2.2.1.2.1 x.2.2.1.2.2 x.2.2.2.1.1.1 x.2.2.2.1.1.2.1 x.2.2.2.1.1.2.2 x.2.2.2.1.2.1 x.2.2.2.1.2.2) (q:=Lg) (λk x=>rfl)
  (by exact trivial)
  (λk ⟨⟨AX,Al,Am,Ao,BD,BB,BH,BJ,BE,_⟩,(a1:Int),(a2:(Bool × (List Int) × List Int) × Int × Int),(a3:(Bool × (List Int) × List Int) × Int × Int),_⟩=>by show Ae Lg (Da.f k AX Al Am Ao BD BB BH BJ BE a1 a2.1.1 a2.1.2.1 a2.1.2.2 a2.2.1 a2.2.2 a3.1.1 a3.1.2.1 a3.1.2.2 a3.2.1 a3.2.2) _;unfold Da.f;exact go)
end
section
def Co:D0:=⟨[.st 70 [.row true 137 (.cons (.cons .bool (.cons (.row 73 (.int .u64)) (.row 73 (.int .u64)))) (.cons (.int .u64) (.int .i64))), .row true 4 .bool], .ty (.int .i64)],[(.cons (.cons .bool (.cons (.row 73 (.int .u64)) (.row 73 (.int .u64)))) (.cons (.int .u64) (.int .i64)))],λk x=>(Ab.f k x.1.1 x.1.2.1 x.2.1).map λr=>((((r.1,(r.2.1,r.2.2.1)),(r.2.2.2.1,r.2.2.2.2.1)),()),((r.2.2.2.2.2.1,r.2.2.2.2.2.2,()),()))⟩
def EN (r:Bool × List Int × List Int × Int × Int × List ((Bool × (List Int) × List Int) × Int × Int) × List Bool):TT Co.rs × ET Co.ps:=((((r.1,(r.2.1,r.2.2.1)),(r.2.2.2.1,r.2.2.2.2.1)),()),((r.2.2.2.2.2.1,r.2.2.2.2.2.2,()),()))
@[reducible] def Fx:List Slot:= [.tmp 4 [.ptr 4 0], .DO 4 .mine 137 [.ty .bool, .own .mine 33 73 (.int .u64), .own .mine 34 73 (.int .u64), .ty (.int .u64), .ty (.int .i64)], .DO 30 .kept 70 [.own .kept 31 137 (.cons (.cons .bool (.cons (.row 73 (.int .u64)) (.row 73 (.int .u64)))) (.cons (.int .u64) (.int .i64))), .own .kept 32 4 .bool]]
def Ix (k:Nat) (x:TS Fx):Option (Bool × List Int × List Int × Int × Int × List ((Bool × (List Int) × List Int) × Int × Int) × List Bool):=Ab.j2 k x.2.1.1 x.2.1.2.1 x.2.1.2.2.1 x.2.1.2.2.2.1 x.2.1.2.2.2.2.1 x.2.2.1.1 x.2.2.1.2.1
def O1:Bs (TT Co.rs × ET Co.ps):=⟨⟨30,35,[30,31,32]⟩,AH [],AH [(2,⟨Fx,λk x=>(Ix k x).map EN⟩)],AH []⟩
theorem O2:UB Tryz.prog 101 Co :=
 FJ (Bt:=AP [(3,[0,1,3,7,0,16,48,112,240,0,1008,2047,4095,8191])]) (l:= []) (C:=O1) (by kernel_rfl) AK trivial (fn:=Tryz.f101) (by kernel_rfl) rfl (by kernel_rfl) (by decide) (by kernel_rfl) (m:=35) (by decide) (by decide) (F:=λk x=>Ab.f k x.1.1 x.1.2.1 x.2.1) (q:=EN) (λk x=>rfl)
  (by
   refine And.intro ?_ ?_
   ·refine Be (sl:=Fx) (F:=Ix) (λx=>rfl) λk ⟨_,⟨(ALX:Bool),(ALY:List Int),(ALZ:List Int),(ALa:Int),(ALb:Int),_⟩,⟨(Oi:List ((Bool × (List Int) × List Int) × Int × Int)),(R4:List Bool),_⟩,_⟩=> ?_
    show Ae EN (Ab.j2 (k+1) ALX ALY ALZ ALa ALb Oi R4) _;rw[Ab.j2];exact go
   exact trivial)
  (λk ⟨⟨AX,Al,_⟩,(a1:Int),_⟩=>by show Ae EN (Ab.f k AX Al a1) _;unfold Ab.f;exact go)
end
section
attribute [local irreducible] DW.f CU.f Da.f Ab.f Af.f
def Df:D0:=⟨[.st 135 [.ty (.int .i64), .ty (.int .i64), .row false 93 (.cons (.int .i64) (.cons (.int .i64) (.cons (.int .i64) (.cons .bool (.cons (.row 73 (.int .u64)) (.row 73 (.int .u64))))))), .ty (.row 4 .bool), .row false 4 .bool, .ty (.int .i64), .ty (.int .i64), .ty .bool, .ty (.int .i64)], .st 70 [.row false 137 (.cons (.cons .bool (.cons (.row 73 (.int .u64)) (.row 73 (.int .u64)))) (.cons (.int .u64) (.int .i64))), .row false 4 .bool], .ty (.cons (.int .i64) (.cons (.int .i64) (.cons (.int .i64) (.cons (.int .i64) (.cons (.int .i64) (.int .u64))))))],[],λk x=>(AA.f k x.1.1 x.1.2.1 x.1.2.2.1 x.1.2.2.2.1 x.1.2.2.2.2.1 x.1.2.2.2.2.2.1 x.1.2.2.2.2.2.2.1 x.1.2.2.2.2.2.2.2.1 x.1.2.2.2.2.2.2.2.2.1 x.2.1.1 x.2.1.2.1 x.2.2.1.1 x.2.2.1.2.1 x.2.2.1.2.2.1 x.2.2.1.2.2.2.1 x.2.2.1.2.2.2.2.1 x.2.2.1.2.2.2.2.2).map λr=>((()),((r.1,r.2.1,r.2.2.1,r.2.2.2.1,r.2.2.2.2.1,r.2.2.2.2.2.1,r.2.2.2.2.2.2.1,r.2.2.2.2.2.2.2.1,r.2.2.2.2.2.2.2.2.1,()),(r.2.2.2.2.2.2.2.2.2.1,r.2.2.2.2.2.2.2.2.2.2,()),()))⟩
def BW (r:Int × Int × List (Int × Int × Int × Bool × (List Int) × List Int) × List Bool × List Bool × Int × Int × Bool × Int × List ((Bool × (List Int) × List Int) × Int × Int) × List Bool):TT Df.rs × ET Df.ps:=((()),((r.1,r.2.1,r.2.2.1,r.2.2.2.1,r.2.2.2.2.1,r.2.2.2.2.2.1,r.2.2.2.2.2.2.1,r.2.2.2.2.2.2.2.1,r.2.2.2.2.2.2.2.2.1,()),(r.2.2.2.2.2.2.2.2.2.1,r.2.2.2.2.2.2.2.2.2.2,()),()))
@[reducible] def H6:List Slot:= [.tmp 0 [.ptr 146 0], .tmp 1 [.ptr 149 0], .tmp 5 [.ptr 5 0], .tmp 6 [.ty .bool], .DO 5 .mine 75 [.ty (.int .i64), .ty (.int .i64), .ty (.int .i64), .ty (.int .i64), .ty (.int .i64), .ty (.int .u64)], .DO 146 .kept 135 [.ty (.int .i64), .ty (.int .i64), .own .GF 160 93 (.cons (.int .i64) (.cons (.int .i64) (.cons (.int .i64) (.cons .bool (.cons (.row 73 (.int .u64)) (.row 73 (.int .u64))))))), .ty (.row 4 .bool), .own .GF 161 4 .bool, .ty (.int .i64), .ty (.int .i64), .ty .bool, .ty (.int .i64)], .DO 149 .kept 70 [.own .GF 162 137 (.cons (.cons .bool (.cons (.row 73 (.int .u64)) (.row 73 (.int .u64)))) (.cons (.int .u64) (.int .i64))), .own .GF 163 4 .bool]]
def LC (k:Nat) (x:TS H6):Option (Int × Int × List (Int × Int × Int × Bool × (List Int) × List Int) × List Bool × List Bool × Int × Int × Bool × Int × List ((Bool × (List Int) × List Int) × Int × Int) × List Bool):=AA.j2 k x.2.2.2.1.1 x.2.2.2.2.1.1 x.2.2.2.2.1.2.1 x.2.2.2.2.1.2.2.1 x.2.2.2.2.1.2.2.2.1 x.2.2.2.2.1.2.2.2.2.1 x.2.2.2.2.1.2.2.2.2.2.1 x.2.2.2.2.2.1.1 x.2.2.2.2.2.1.2.1 x.2.2.2.2.2.1.2.2.1 x.2.2.2.2.2.1.2.2.2.1 x.2.2.2.2.2.1.2.2.2.2.1 x.2.2.2.2.2.1.2.2.2.2.2.1 x.2.2.2.2.2.1.2.2.2.2.2.2.1 x.2.2.2.2.2.1.2.2.2.2.2.2.2.1 x.2.2.2.2.2.1.2.2.2.2.2.2.2.2.1 x.2.2.2.2.2.2.1.1 x.2.2.2.2.2.2.1.2.1
@[reducible] def H7:List Slot:= [.tmp 0 [.ptr 146 0], .tmp 1 [.ptr 149 0], .tmp 5 [.ptr 5 0], .DO 5 .mine 75 [.ty (.int .i64), .ty (.int .i64), .ty (.int .i64), .ty (.int .i64), .ty (.int .i64), .ty (.int .u64)], .DO 146 .kept 135 [.ty (.int .i64), .ty (.int .i64), .own .GF 160 93 (.cons (.int .i64) (.cons (.int .i64) (.cons (.int .i64) (.cons .bool (.cons (.row 73 (.int .u64)) (.row 73 (.int .u64))))))), .ty (.row 4 .bool), .own .GF 161 4 .bool, .ty (.int .i64), .ty (.int .i64), .ty .bool, .ty (.int .i64)], .DO 149 .kept 70 [.own .GF 162 137 (.cons (.cons .bool (.cons (.row 73 (.int .u64)) (.row 73 (.int .u64)))) (.cons (.int .u64) (.int .i64))), .own .GF 163 4 .bool]]
def LD (k:Nat) (x:TS H7):Option (Int × Int × List (Int × Int × Int × Bool × (List Int) × List Int) × List Bool × List Bool × Int × Int × Bool × Int × List ((Bool × (List Int) × List Int) × Int × Int) × List Bool):=AA.j3 k x.2.2.2.1.1 x.2.2.2.1.2.1 x.2.2.2.1.2.2.1 x.2.2.2.1.2.2.2.1 x.2.2.2.1.2.2.2.2.1 x.2.2.2.1.2.2.2.2.2.1 x.2.2.2.2.1.1 x.2.2.2.2.1.2.1 x.2.2.2.2.1.2.2.1 x.2.2.2.2.1.2.2.2.1 x.2.2.2.2.1.2.2.2.2.1 x.2.2.2.2.1.2.2.2.2.2.1 x.2.2.2.2.1.2.2.2.2.2.2.1 x.2.2.2.2.1.2.2.2.2.2.2.2.1 x.2.2.2.2.1.2.2.2.2.2.2.2.2.1 x.2.2.2.2.2.1.1 x.2.2.2.2.2.1.2.1
@[reducible] def H8:List Slot:= [.tmp 0 [.ptr 146 0], .tmp 1 [.ptr 149 0], .tmp 5 [.ptr 5 0], .DO 5 .mine 75 [.ty (.int .i64), .ty (.int .i64), .ty (.int .i64), .ty (.int .i64), .ty (.int .i64), .ty (.int .u64)], .DO 146 .kept 135 [.ty (.int .i64), .ty (.int .i64), .own .GF 160 93 (.cons (.int .i64) (.cons (.int .i64) (.cons (.int .i64) (.cons .bool (.cons (.row 73 (.int .u64)) (.row 73 (.int .u64))))))), .ty (.row 4 .bool), .own .GF 161 4 .bool, .ty (.int .i64), .ty (.int .i64), .ty .bool, .ty (.int .i64)], .DO 149 .kept 70 [.own .GF 162 137 (.cons (.cons .bool (.cons (.row 73 (.int .u64)) (.row 73 (.int .u64)))) (.cons (.int .u64) (.int .i64))), .own .GF 163 4 .bool]]
def LF (k:Nat) (x:TS H8):Option (Int × Int × List (Int × Int × Int × Bool × (List Int) × List Int) × List Bool × List Bool × Int × Int × Bool × Int × List ((Bool × (List Int) × List Int) × Int × Int) × List Bool):=AA.j5 k x.2.2.2.1.1 x.2.2.2.1.2.1 x.2.2.2.1.2.2.1 x.2.2.2.1.2.2.2.1 x.2.2.2.1.2.2.2.2.1 x.2.2.2.1.2.2.2.2.2.1 x.2.2.2.2.1.1 x.2.2.2.2.1.2.1 x.2.2.2.2.1.2.2.1 x.2.2.2.2.1.2.2.2.1 x.2.2.2.2.1.2.2.2.2.1 x.2.2.2.2.1.2.2.2.2.2.1 x.2.2.2.2.1.2.2.2.2.2.2.1 x.2.2.2.2.1.2.2.2.2.2.2.2.1 x.2.2.2.2.1.2.2.2.2.2.2.2.2.1 x.2.2.2.2.2.1.1 x.2.2.2.2.2.1.2.1
@[reducible] def H9:List Slot:= [.tmp 0 [.ptr 146 0], .tmp 1 [.ptr 149 0], .tmp 5 [.ptr 5 0], .DO 5 .mine 75 [.ty (.int .i64), .ty (.int .i64), .ty (.int .i64), .ty (.int .i64), .ty (.int .i64), .ty (.int .u64)], .DO 146 .kept 135 [.ty (.int .i64), .ty (.int .i64), .own .GF 160 93 (.cons (.int .i64) (.cons (.int .i64) (.cons (.int .i64) (.cons .bool (.cons (.row 73 (.int .u64)) (.row 73 (.int .u64))))))), .ty (.row 4 .bool), .own .GF 161 4 .bool, .ty (.int .i64), .ty (.int .i64), .ty .bool, .ty (.int .i64)], .DO 149 .kept 70 [.own .GF 162 137 (.cons (.cons .bool (.cons (.row 73 (.int .u64)) (.row 73 (.int .u64)))) (.cons (.int .u64) (.int .i64))), .own .GF 163 4 .bool]]
def LG (k:Nat) (x:TS H9):Option (Int × Int × List (Int × Int × Int × Bool × (List Int) × List Int) × List Bool × List Bool × Int × Int × Bool × Int × List ((Bool × (List Int) × List Int) × Int × Int) × List Bool):=AA.j7 k x.2.2.2.1.1 x.2.2.2.1.2.1 x.2.2.2.1.2.2.1 x.2.2.2.1.2.2.2.1 x.2.2.2.1.2.2.2.2.1 x.2.2.2.1.2.2.2.2.2.1 x.2.2.2.2.1.1 x.2.2.2.2.1.2.1 x.2.2.2.2.1.2.2.1 x.2.2.2.2.1.2.2.2.1 x.2.2.2.2.1.2.2.2.2.1 x.2.2.2.2.1.2.2.2.2.2.1 x.2.2.2.2.1.2.2.2.2.2.2.1 x.2.2.2.2.1.2.2.2.2.2.2.2.1 x.2.2.2.2.1.2.2.2.2.2.2.2.2.1 x.2.2.2.2.2.1.1 x.2.2.2.2.2.1.2.1
@[reducible] def IA:List Slot:= [.tmp 0 [.ptr 146 0], .tmp 1 [.ptr 149 0], .tmp 5 [.ptr 5 0], .DO 5 .mine 75 [.ty (.int .i64), .ty (.int .i64), .ty (.int .i64), .ty (.int .i64), .ty (.int .i64), .ty (.int .u64)], .DO 146 .kept 135 [.ty (.int .i64), .ty (.int .i64), .own .GF 160 93 (.cons (.int .i64) (.cons (.int .i64) (.cons (.int .i64) (.cons .bool (.cons (.row 73 (.int .u64)) (.row 73 (.int .u64))))))), .ty (.row 4 .bool), .own .GF 161 4 .bool, .ty (.int .i64), .ty (.int .i64), .ty .bool, .ty (.int .i64)], .DO 149 .kept 70 [.own .GF 162 137 (.cons (.cons .bool (.cons (.row 73 (.int .u64)) (.row 73 (.int .u64)))) (.cons (.int .u64) (.int .i64))), .own .GF 163 4 .bool]]
def LH (k:Nat) (x:TS IA):Option (Int × Int × List (Int × Int × Int × Bool × (List Int) × List Int) × List Bool × List Bool × Int × Int × Bool × Int × List ((Bool × (List Int) × List Int) × Int × Int) × List Bool):=AA.j9 k x.2.2.2.1.1 x.2.2.2.1.2.1 x.2.2.2.1.2.2.1 x.2.2.2.1.2.2.2.1 x.2.2.2.1.2.2.2.2.1 x.2.2.2.1.2.2.2.2.2.1 x.2.2.2.2.1.1 x.2.2.2.2.1.2.1 x.2.2.2.2.1.2.2.1 x.2.2.2.2.1.2.2.2.1 x.2.2.2.2.1.2.2.2.2.1 x.2.2.2.2.1.2.2.2.2.2.1 x.2.2.2.2.1.2.2.2.2.2.2.1 x.2.2.2.2.1.2.2.2.2.2.2.2.1 x.2.2.2.2.1.2.2.2.2.2.2.2.2.1 x.2.2.2.2.2.1.1 x.2.2.2.2.2.1.2.1
def T6:Bs (TT Df.rs × ET Df.ps):=⟨⟨146,164,[146,149]⟩,AH [],AH [(2,⟨H6,λk x=>(LC k x).map BW⟩),(3,⟨H7,λk x=>(LD k x).map BW⟩),(5,⟨H8,λk x=>(LF k x).map BW⟩),(7,⟨H9,λk x=>(LG k x).map BW⟩),(9,⟨IA,λk x=>(LH k x).map BW⟩)],AH []⟩
theorem Tx:UB Tryz.prog 40 Df :=
 FJ (Bt:=AP [(2,[0,1,3,7,15,31,63,127,255,511,255,1279,3327,7423,15615,32767,65535,131071,262143,524287,1048575,2097151,4194303,8388607,16777215,33554431,67108863,33554431,167772159,436207615,973078527,2046820351,4294967295,8589934591,17179869183,34359738367]),(4,[0,0,2,6,14,0,0,64,0,256,0,1024,4032,8160,16352,32766,65535,131071,262143]),(6,[0,0,2,6,14,0,0,64,0,256,992,2016,4094,8191,16383,32767]),(8,[0,0,2,6,14,0,0,64,0,0,512,1792,0,0,8192,32512,65504,131040,262142,524287,1048575,2097151]),(10,[0,0,2,6,14,0,0,0,128,448,0,0,2048,8128,16352,32736,65534,131071,262143,524287])]) (l:= [(96, .io Ec [(90,154)]),(98, .io EY [(72,152)]),(100, .io Dg [(119,156)]),(101, .io Co [(114,156),(118,156),(136,158),(140,158)]),(102, .io E4 [(141,158)])]) (C:=T6) (by kernel_rfl) AK ⟨Qx,Qq,T5,O2,Yj,trivial⟩ (fn:=Tryz.f40) (by kernel_rfl) rfl (by kernel_rfl) (by decide) (by kernel_rfl) (m:=164) (by decide) (by decide) (F:=λk x=>AA.f k x.1.1 x.1.2.1 x.1.2.2.1 x.1.2.2.2.1 x.1.2.2.2.2.1 x.1.2.2.2.2.2.1 x.1.2.2.2.2.2.2.1 x.1.2.2.2.2.2.2.2.1 x.1.2.2.2.2.2.2.2.2.1 x.2.1.1 x.2.1.2.1 x.2.2.1.1 x.2.2.1.2.1 x.2.2.1.2.2.1 x.2.2.1.2.2.2.1 x.2.2.1.2.2.2.2.1 x.2.2.1.2.2.2.2.2) (q:=BW) (λk x=>rfl)
  (by
   refine And.intro ?_ ?_
   ·refine Be (sl:=H6) (F:=LC) (λx=>rfl) λk ⟨_,_,_,⟨(x6:Bool),_⟩,⟨(Is:Int),(Jg:Int),(JI:Int),(KM:Int),(KN:Int),(K7:Int),_⟩,⟨(C1:Int),(C2:Int),(C3:List (Int × Int × Int × Bool × (List Int) × List Int)),(C4:List Bool),(C5:List Bool),(C6:Int),(C7:Int),(C8:Bool),(C9:Int),_⟩,⟨(Ce:List ((Bool × (List Int) × List Int) × Int × Int)),(DA:List Bool),_⟩,_⟩=> ?_
    show Ae BW (AA.j2 (k+1) x6 Is Jg JI KM KN K7 C1 C2 C3 C4 C5 C6 C7 C8 C9 Ce DA) _;rw[AA.j2];exact go
   refine And.intro ?_ ?_
   ·refine Be (sl:=H7) (F:=LD) (λx=>rfl) λk ⟨_,_,_,⟨(Is:Int),(Jg:Int),(JI:Int),(KM:Int),(KN:Int),(K7:Int),_⟩,⟨(C1:Int),(C2:Int),(C3:List (Int × Int × Int × Bool × (List Int) × List Int)),(C4:List Bool),(C5:List Bool),(C6:Int),(C7:Int),(C8:Bool),(C9:Int),_⟩,⟨(Ce:List ((Bool × (List Int) × List Int) × Int × Int)),(DA:List Bool),_⟩,_⟩=> ?_
    show Ae BW (AA.j3 (k+1) Is Jg JI KM KN K7 C1 C2 C3 C4 C5 C6 C7 C8 C9 Ce DA) _;rw[AA.j3];exact go
   refine And.intro ?_ ?_
   ·refine Be (sl:=H8) (F:=LF) (λx=>rfl) λk ⟨_,_,_,⟨(Is:Int),(Jg:Int),(JI:Int),(KM:Int),(KN:Int),(K7:Int),_⟩,⟨(C1:Int),(C2:Int),(C3:List (Int × Int × Int × Bool × (List Int) × List Int)),(C4:List Bool),(C5:List Bool),(C6:Int),(C7:Int),(C8:Bool),(C9:Int),_⟩,⟨(Ce:List ((Bool × (List Int) × List Int) × Int × Int)),(DA:List Bool),_⟩,_⟩=> ?_
    show Ae BW (AA.j5 (k+1) Is Jg JI KM KN K7 C1 C2 C3 C4 C5 C6 C7 C8 C9 Ce DA) _;rw[AA.j5];exact go
   refine And.intro ?_ ?_
   ·refine Be (sl:=H9) (F:=LG) (λx=>rfl) λk ⟨_,_,_,⟨(Is:Int),(Jg:Int),(JI:Int),(KM:Int),(KN:Int),(K7:Int),_⟩,⟨(C1:Int),(C2:Int),(C3:List (Int × Int × Int × Bool × (List Int) × List Int)),(C4:List Bool),(C5:List Bool),(C6:Int),(C7:Int),(C8:Bool),(C9:Int),_⟩,⟨(Ce:List ((Bool × (List Int) × List Int) × Int × Int)),(DA:List Bool),_⟩,_⟩=> ?_
    show Ae BW (AA.j7 (k+1) Is Jg JI KM KN K7 C1 C2 C3 C4 C5 C6 C7 C8 C9 Ce DA) _;rw[AA.j7];exact go
   refine And.intro ?_ ?_
   ·refine Be (sl:=IA) (F:=LH) (λx=>rfl) λk ⟨_,_,_,⟨(Is:Int),(Jg:Int),(JI:Int),(KM:Int),(KN:Int),(K7:Int),_⟩,⟨(C1:Int),(C2:Int),(C3:List (Int × Int × Int × Bool × (List Int) × List Int)),(C4:List Bool),(C5:List Bool),(C6:Int),(C7:Int),(C8:Bool),(C9:Int),_⟩,⟨(Ce:List ((Bool × (List Int) × List Int) × Int × Int)),(DA:List Bool),_⟩,_⟩=> ?_
    show Ae BW (AA.j9 (k+1) Is Jg JI KM KN K7 C1 C2 C3 C4 C5 C6 C7 C8 C9 Ce DA) _;rw[AA.j9];exact go
   exact trivial)
  (λk ⟨⟨AX,Al,Am,Ao,BD,BB,BH,BJ,BE,_⟩,⟨AD3,AD4,_⟩,(a2:Int × Int × Int × Int × Int × Int),_⟩=>by show Ae BW (AA.f k AX Al Am Ao BD BB BH BJ BE AD3 AD4 a2.1 a2.2.1 a2.2.2.1 a2.2.2.2.1 a2.2.2.2.2.1 a2.2.2.2.2.2) _;unfold AA.f;exact go)
end
section
def Fj:AS:=⟨[(.row 4 .bool),(.row 4 .bool)],[.bool],λk x=>(Av.f k x.1 x.2.1).map λr=>(r,())⟩
def Fl (r:Bool):TT Fj.rs:=(r,())
@[reducible] def HF:List Slot:= [.tmp 0 [.ty (.row 4 .bool)], .tmp 1 [.ty (.row 4 .bool)], .tmp 12 [.ty (.int .i64)], .tmp 13 [.ty (.int .i64)]]
def J2 (k:Nat) (x:TS HF):Option (Bool):=Av.l0 k x.1.1 x.2.1.1 x.2.2.1.1 x.2.2.2.1.1
def So:Bs (TT Fj.rs):=⟨⟨26,26,[]⟩,AH [(0,⟨HF,λk x=>(J2 k x).map Fl⟩)],AH [],AH []⟩
theorem SB:DP Tryz.prog 43 Fj :=
 Aa (Bt:=AP [(6,[0,0,3,7,0,0,48,112,255])]) (l:= []) (C:=So) (by kernel_rfl) AK trivial (fn:=Tryz.f43) (by kernel_rfl) rfl (by kernel_rfl) (by decide) (by kernel_rfl) (F:=λk x=>Av.f k x.1 x.2.1) (m:=Fl) (λk x=>rfl)
  (by
   refine And.intro ?_ ?_
   ·refine Au (sl:=HF) (F:=J2) (λx=>rfl) λk ⟨⟨(x0:List Bool),_⟩,⟨(x1:List Bool),_⟩,⟨(iq:Int),_⟩,⟨(Dm:Int),_⟩,_⟩=> ?_
    show Ae Fl (Av.l0 (k+1) x0 x1 iq Dm) _;rw[Av.l0];exact go
   exact trivial)
  (λk ⟨(a0:List Bool),(a1:List Bool),_⟩=>by show Ae Fl (Av.f k a0 a1) _;unfold Av.f;exact go)
end
section
def Ij:AS:=⟨[(.cons .bool (.cons (.row 73 (.int .u64)) (.row 73 (.int .u64)))), .int .i64],[.bool],λ_ x=>(DD.f x.1.1 x.1.2.1 x.1.2.2 x.2.1).map λr=>(r,())⟩
def Lh (r:Bool):TT Ij.rs:=(r,())
theorem T7:DP Tryz.prog 60 Ij :=
 Aa (Bt:=AP []) (l:= []) (C:=Ai) (by kernel_rfl) AK trivial (fn:=Tryz.f60) (by kernel_rfl) rfl (by kernel_rfl) (by decide) (by kernel_rfl) (F:=λk x=>DD.f x.1.1 x.1.2.1 x.1.2.2 x.2.1) (m:=Lh) (λk x=>rfl)
  (by exact trivial)
  (λk ⟨(a0:Bool × List Int × List Int),(a1:Int),_⟩=>by show Ae Lh (DD.f a0.1 a0.2.1 a0.2.2 a1) _;unfold DD.f;exact go)
end
section
attribute [local irreducible] DD.f
def GC:AS:=⟨[(.row 137 (.cons (.cons .bool (.cons (.row 73 (.int .u64)) (.row 73 (.int .u64)))) (.cons (.int .u64) (.int .i64)))), .int .i64],[.bool],λk x=>(BG.f k x.1 x.2.1).map λr=>(r,())⟩
def GD (r:Bool):TT GC.rs:=(r,())
@[reducible] def IB:List Slot:= [.tmp 0 [.ty (.row 137 (.cons (.cons .bool (.cons (.row 73 (.int .u64)) (.row 73 (.int .u64)))) (.cons (.int .u64) (.int .i64))))], .tmp 1 [.ty (.int .i64)], .tmp 7 [.ty (.int .i64)], .tmp 8 [.ty (.int .i64)]]
def LJ (k:Nat) (x:TS IB):Option (Bool):=BG.l0 k x.1.1 x.2.1.1 x.2.2.1.1 x.2.2.2.1.1
def T8:Bs (TT GC.rs):=⟨⟨19,19,[]⟩,AH [(0,⟨IB,λk x=>(LJ k x).map GD⟩)],AH [],AH []⟩
theorem T9:DP Tryz.prog 108 GC :=
 Aa (Bt:=AP []) (l:= [(60, .pu Ij)]) (C:=T8) (by kernel_rfl) AK ⟨T7,trivial⟩ (fn:=Tryz.f108) (by kernel_rfl) rfl (by kernel_rfl) (by decide) (by kernel_rfl) (F:=λk x=>BG.f k x.1 x.2.1) (m:=GD) (λk x=>rfl)
  (by
   refine And.intro ?_ ?_
   ·refine Au (sl:=IB) (F:=LJ) (λx=>rfl) λk ⟨⟨(x0:List ((Bool × (List Int) × List Int) × Int × Int)),_⟩,⟨(x1:Int),_⟩,⟨(x7:Int),_⟩,⟨(x8:Int),_⟩,_⟩=> ?_
    show Ae GD (BG.l0 (k+1) x0 x1 x7 x8) _;rw[BG.l0];exact go
   exact trivial)
  (λk ⟨(a0:List ((Bool × (List Int) × List Int) × Int × Int)),(a1:Int),_⟩=>by show Ae GD (BG.f k a0 a1) _;unfold BG.f;exact go)
end
section
attribute [local irreducible] BG.f
def Ii:AS:=⟨[(.cons (.row 137 (.cons (.cons .bool (.cons (.row 73 (.int .u64)) (.row 73 (.int .u64)))) (.cons (.int .u64) (.int .i64)))) (.row 4 .bool))],[.bool],λk x=>(DE.f k x.1.1 x.1.2).map λr=>(r,())⟩
def Li (r:Bool):TT Ii.rs:=(r,())
theorem Tz:DP Tryz.prog 48 Ii :=
 Aa (Bt:=AP []) (l:= [(108, .pu GC)]) (C:=Ai) (by kernel_rfl) AK ⟨T9,trivial⟩ (fn:=Tryz.f48) (by kernel_rfl) rfl (by kernel_rfl) (by decide) (by kernel_rfl) (F:=λk x=>DE.f k x.1.1 x.1.2) (m:=Li) (λk x=>rfl)
  (by exact trivial)
  (λk ⟨(a0:(List ((Bool × (List Int) × List Int) × Int × Int)) × List Bool),_⟩=>by show Ae Li (DE.f k a0.1 a0.2) _;unfold DE.f;exact go)
end
section
attribute [local irreducible] Bi.f CD.f
def QF:AS:=⟨[(.row 73 (.int .u64)),(.row 73 (.int .u64))],[(.row 73 (.int .u64))],λk x=>(CB.f k x.1 x.2.1).map λr=>(r,())⟩
def KV (r:List Int):TT QF.rs:=(r,())
@[reducible] def Sp:List Slot:= [.tmp 5 [.ty (.row 73 (.int .u64))], .tmp 6 [.ty (.row 73 (.int .u64))], .tmp 7 [.own .mine 7 73 (.int .u64)], .tmp 23 [.ty (.int .i64)], .tmp 24 [.ty (.int .i64)]]
def Zp (k:Nat) (x:TS Sp):Option (List Int):=CB.l0 k x.1.1 x.2.1.1 x.2.2.1.1 x.2.2.2.1.1 x.2.2.2.2.1.1
@[reducible] def Sq:List Slot:= [.tmp 5 [.ty (.row 73 (.int .u64))], .tmp 6 [.ty (.row 73 (.int .u64))], .tmp 7 [.own .mine 7 73 (.int .u64)], .tmp 8 [.ty (.int .i64)], .tmp 9 [.ty (.int .u64)], .tmp 23 [.ty (.int .i64)], .tmp 24 [.ty (.int .i64)], .tmp 28 [.ty (.int .i64)], .tmp 29 [.ty (.int .i64)]]
def Zq (k:Nat) (x:TS Sq):Option (List Int):=CB.l1 k x.1.1 x.2.1.1 x.2.2.1.1 x.2.2.2.1.1 x.2.2.2.2.1.1 x.2.2.2.2.2.1.1 x.2.2.2.2.2.2.1.1 x.2.2.2.2.2.2.2.1.1 x.2.2.2.2.2.2.2.2.1.1
def yA:Bs (TT QF.rs):=⟨⟨70,70,[]⟩,AH [(0,⟨Sp,λk x=>(Zp k x).map KV⟩),(1,⟨Sq,λk x=>(Zq k x).map KV⟩)],AH [],AH []⟩
theorem yB:DP Tryz.prog 73 QF :=
 Aa (Bt:=AP [(10,[0,0,0,6,14,0,0,96,224,510,1023,0,0,0,12288,30720,63488,131071,262143])]) (l:= [(128, .pu Iw),(129, .pu Jp)]) (C:=yA) (by kernel_rfl) AK ⟨Uf,XQ,trivial⟩ (fn:=Tryz.f73) (by kernel_rfl) rfl (by kernel_rfl) (by decide) (by kernel_rfl) (F:=λk x=>CB.f k x.1 x.2.1) (m:=KV) (λk x=>rfl)
  (by
   refine And.intro ?_ ?_
   ·refine Au (sl:=Sp) (F:=Zp) (λx=>rfl) λk ⟨⟨(x5:List Int),_⟩,⟨(x6:List Int),_⟩,⟨(x7:List Int),_⟩,⟨(Ms:Int),_⟩,⟨(x24:Int),_⟩,_⟩=> ?_
    show Ae KV (CB.l0 (k+1) x5 x6 x7 Ms x24) _;rw[CB.l0];exact go
   refine And.intro ?_ ?_
   ·refine Au (sl:=Sq) (F:=Zq) (λx=>rfl) λk ⟨⟨(x5:List Int),_⟩,⟨(x6:List Int),_⟩,⟨(x7:List Int),_⟩,⟨(x8:Int),_⟩,⟨(x9:Int),_⟩,⟨(Ms:Int),_⟩,⟨(x24:Int),_⟩,⟨(zW:Int),_⟩,⟨(gy:Int),_⟩,_⟩=> ?_
    show Ae KV (CB.l1 (k+1) x5 x6 x7 x8 x9 Ms x24 zW gy) _;rw[CB.l1];exact go
   exact trivial)
  (λk ⟨(a0:List Int),(a1:List Int),_⟩=>by show Ae KV (CB.f k a0 a1) _;unfold CB.f;exact go)
end
section
attribute [local irreducible] FQ.f CB.f
def VY:AS:=⟨[(.cons .bool (.cons (.row 73 (.int .u64)) (.row 73 (.int .u64)))),(.cons .bool (.cons (.row 73 (.int .u64)) (.row 73 (.int .u64))))],[(.cons .bool (.cons (.row 73 (.int .u64)) (.row 73 (.int .u64))))],λk x=>(Kw.f k x.1.1 x.1.2.1 x.1.2.2 x.2.1.1 x.2.1.2.1 x.2.1.2.2).map λr=>((r.1,r.2.1,r.2.2),())⟩
def gF (r:Bool × List Int × List Int):TT VY.rs:=((r.1,r.2.1,r.2.2),())
theorem xd:DP Tryz.prog 53 VY :=
 Aa (Bt:=AP [(1,[0,1,0,4,15,0,32,0,128,480,0,1024,0,4096,16352,32767,65535])]) (l:= [(72, .pu NU),(73, .pu QF)]) (C:=Ai) (by kernel_rfl) AK ⟨Zm,yB,trivial⟩ (fn:=Tryz.f53) (by kernel_rfl) rfl (by kernel_rfl) (by decide) (by kernel_rfl) (F:=λk x=>Kw.f k x.1.1 x.1.2.1 x.1.2.2 x.2.1.1 x.2.1.2.1 x.2.1.2.2) (m:=gF) (λk x=>rfl)
  (by exact trivial)
  (λk ⟨(a0:Bool × List Int × List Int),(a1:Bool × List Int × List Int),_⟩=>by show Ae gF (Kw.f k a0.1 a0.2.1 a0.2.2 a1.1 a1.2.1 a1.2.2) _;unfold Kw.f;exact go)
end
section
attribute [local irreducible] Ak.f BP.f G1.f
def Fk:AS:=⟨[.int .i64,(.cons (.row 137 (.cons (.cons .bool (.cons (.row 73 (.int .u64)) (.row 73 (.int .u64)))) (.cons (.int .u64) (.int .i64)))) (.row 4 .bool)),(.cons (.row 137 (.cons (.cons .bool (.cons (.row 73 (.int .u64)) (.row 73 (.int .u64)))) (.cons (.int .u64) (.int .i64)))) (.row 4 .bool)),(.row 93 (.cons (.int .i64) (.cons (.int .i64) (.cons (.int .i64) (.cons .bool (.cons (.row 73 (.int .u64)) (.row 73 (.int .u64)))))))),(.row 45 (.cons .bool (.cons (.row 73 (.int .u64)) (.row 73 (.int .u64))))),(.row 73 (.int .u64))],[.bool],λk x=>(AG.f k x.1 x.2.1.1 x.2.1.2 x.2.2.1.1 x.2.2.1.2 x.2.2.2.1 x.2.2.2.2.1 x.2.2.2.2.2.1).map λr=>(r,())⟩
def Bp (r:Bool):TT Fk.rs:=(r,())
@[reducible] def HG:List Slot:= [.tmp 0 [.ty (.int .i64)], .tmp 3 [.ty (.row 93 (.cons (.int .i64) (.cons (.int .i64) (.cons (.int .i64) (.cons .bool (.cons (.row 73 (.int .u64)) (.row 73 (.int .u64))))))))], .tmp 7 [.ptr 7 0], .tmp 8 [.ptr 8 0], .tmp 13 [.ty (.row 45 (.cons .bool (.cons (.row 73 (.int .u64)) (.row 73 (.int .u64)))))], .tmp 16 [.ty (.row 73 (.int .u64))], .tmp 18 [.ty (.int .i64)], .DO 7 .mine 70 [.ty (.row 137 (.cons (.cons .bool (.cons (.row 73 (.int .u64)) (.row 73 (.int .u64)))) (.cons (.int .u64) (.int .i64)))), .ty (.row 4 .bool)], .DO 8 .mine 70 [.ty (.row 137 (.cons (.cons .bool (.cons (.row 73 (.int .u64)) (.row 73 (.int .u64)))) (.cons (.int .u64) (.int .i64)))), .ty (.row 4 .bool)]]
def J3 (k:Nat) (x:TS HG):Option (Bool):=AG.j7 k x.1.1 x.2.1.1 x.2.2.2.2.1.1 x.2.2.2.2.2.1.1 x.2.2.2.2.2.2.1.1 x.2.2.2.2.2.2.2.1.1 x.2.2.2.2.2.2.2.1.2.1 x.2.2.2.2.2.2.2.2.1.1 x.2.2.2.2.2.2.2.2.1.2.1
@[reducible] def HH:List Slot:= [.tmp 0 [.ty (.int .i64)], .tmp 3 [.ty (.row 93 (.cons (.int .i64) (.cons (.int .i64) (.cons (.int .i64) (.cons .bool (.cons (.row 73 (.int .u64)) (.row 73 (.int .u64))))))))], .tmp 7 [.ptr 7 0], .tmp 8 [.ptr 8 0], .tmp 13 [.ty (.row 45 (.cons .bool (.cons (.row 73 (.int .u64)) (.row 73 (.int .u64)))))], .tmp 16 [.ty (.row 73 (.int .u64))], .DO 7 .mine 70 [.ty (.row 137 (.cons (.cons .bool (.cons (.row 73 (.int .u64)) (.row 73 (.int .u64)))) (.cons (.int .u64) (.int .i64)))), .ty (.row 4 .bool)], .DO 8 .mine 70 [.ty (.row 137 (.cons (.cons .bool (.cons (.row 73 (.int .u64)) (.row 73 (.int .u64)))) (.cons (.int .u64) (.int .i64)))), .ty (.row 4 .bool)]]
def J4 (k:Nat) (x:TS HH):Option (Bool):=AG.j9 k x.1.1 x.2.1.1 x.2.2.2.2.1.1 x.2.2.2.2.2.1.1 x.2.2.2.2.2.2.1.1 x.2.2.2.2.2.2.1.2.1 x.2.2.2.2.2.2.2.1.1 x.2.2.2.2.2.2.2.1.2.1
@[reducible] def HI:List Slot:= []
def J5 (k:Nat) (x:TS HI):Option (Bool):=AG.j8 k
@[reducible] def HJ:List Slot:= [.tmp 0 [.ty (.int .i64)], .tmp 3 [.ty (.row 93 (.cons (.int .i64) (.cons (.int .i64) (.cons (.int .i64) (.cons .bool (.cons (.row 73 (.int .u64)) (.row 73 (.int .u64))))))))], .tmp 7 [.ptr 7 0], .tmp 8 [.ptr 8 0], .tmp 13 [.ty (.row 45 (.cons .bool (.cons (.row 73 (.int .u64)) (.row 73 (.int .u64)))))], .tmp 16 [.ty (.row 73 (.int .u64))], .tmp 76 [.ty (.int .i64)], .tmp 77 [.ty (.int .i64)], .DO 7 .mine 70 [.ty (.row 137 (.cons (.cons .bool (.cons (.row 73 (.int .u64)) (.row 73 (.int .u64)))) (.cons (.int .u64) (.int .i64)))), .ty (.row 4 .bool)], .DO 8 .mine 70 [.ty (.row 137 (.cons (.cons .bool (.cons (.row 73 (.int .u64)) (.row 73 (.int .u64)))) (.cons (.int .u64) (.int .i64)))), .ty (.row 4 .bool)]]
def J6 (k:Nat) (x:TS HJ):Option (Bool):=AG.l0 k x.1.1 x.2.1.1 x.2.2.2.2.1.1 x.2.2.2.2.2.1.1 x.2.2.2.2.2.2.1.1 x.2.2.2.2.2.2.2.1.1 x.2.2.2.2.2.2.2.2.1.1 x.2.2.2.2.2.2.2.2.1.2.1 x.2.2.2.2.2.2.2.2.2.1.1 x.2.2.2.2.2.2.2.2.2.1.2.1
def Sr:Bs (TT Fk.rs):=⟨⟨130,130,[]⟩,AH [(0,⟨HJ,λk x=>(J6 k x).map Bp⟩)],AH [(7,⟨HG,λk x=>(J3 k x).map Bp⟩),(9,⟨HH,λk x=>(J4 k x).map Bp⟩),(8,⟨HI,λk x=>(J5 k x).map Bp⟩)],AH []⟩
theorem SC:DP Tryz.prog 54 Fk :=
 Aa (Bt:=AP [(13,[0,1,3,7,7,23,63,127,255,511,1023,2047,4095,4095,16383,32767,4095,69631,4095,462847,987135,2035711,4194303,8388607,16777215,33554431,67108863,134217727,268435455,536870911,1073741823,1073741823,4294967295,8589934591,1073741823,18253611007,1073741823,121332826111,258771779583,533649686527,1099511627775,2199023255551,4398046511103])]) (l:= [(30, .pu Km),(32, .pu Kn),(37, .pu NV)]) (C:=Sr) (by kernel_rfl) AK ⟨jH,jJ,Zo,trivial⟩ (fn:=Tryz.f54) (by kernel_rfl) rfl (by kernel_rfl) (by decide) (by kernel_rfl) (F:=λk x=>AG.f k x.1 x.2.1.1 x.2.1.2 x.2.2.1.1 x.2.2.1.2 x.2.2.2.1 x.2.2.2.2.1 x.2.2.2.2.2.1) (m:=Bp) (λk x=>rfl)
  (by
   refine And.intro ?_ ?_
   ·refine Be (sl:=HG) (F:=J3) (λx=>rfl) λk ⟨⟨(x0:Int),_⟩,⟨(x3:List (Int × Int × Int × Bool × (List Int) × List Int)),_⟩,_,_,⟨(Dm:List (Bool × (List Int) × List Int)),_⟩,⟨(X0:List Int),_⟩,⟨(uw:Int),_⟩,⟨(Gn:List ((Bool × (List Int) × List Int) × Int × Int)),(JG:List Bool),_⟩,⟨(Ie:List ((Bool × (List Int) × List Int) × Int × Int)),(OZ:List Bool),_⟩,_⟩=> ?_
    show Ae Bp (AG.j7 (k+1) x0 x3 Dm X0 uw Gn JG Ie OZ) _;rw[AG.j7];exact go
   refine And.intro ?_ ?_
   ·refine Be (sl:=HI) (F:=J5) (λx=>rfl) λk _=> ?_
    show Ae Bp (AG.j8 (k+1)) _;rw[AG.j8];exact go
   refine And.intro ?_ ?_
   ·refine Be (sl:=HH) (F:=J4) (λx=>rfl) λk ⟨⟨(x0:Int),_⟩,⟨(x3:List (Int × Int × Int × Bool × (List Int) × List Int)),_⟩,_,_,⟨(Dm:List (Bool × (List Int) × List Int)),_⟩,⟨(X0:List Int),_⟩,⟨(Gn:List ((Bool × (List Int) × List Int) × Int × Int)),(JG:List Bool),_⟩,⟨(Ie:List ((Bool × (List Int) × List Int) × Int × Int)),(OZ:List Bool),_⟩,_⟩=> ?_
    show Ae Bp (AG.j9 (k+1) x0 x3 Dm X0 Gn JG Ie OZ) _;rw[AG.j9];exact go
   refine And.intro ?_ ?_
   ·refine Au (sl:=HJ) (F:=J6) (λx=>rfl) λk ⟨⟨(x0:Int),_⟩,⟨(x3:List (Int × Int × Int × Bool × (List Int) × List Int)),_⟩,_,_,⟨(Dm:List (Bool × (List Int) × List Int)),_⟩,⟨(X0:List Int),_⟩,⟨(x76:Int),_⟩,⟨(X1:Int),_⟩,⟨(Gn:List ((Bool × (List Int) × List Int) × Int × Int)),(JG:List Bool),_⟩,⟨(Ie:List ((Bool × (List Int) × List Int) × Int × Int)),(OZ:List Bool),_⟩,_⟩=> ?_
    show Ae Bp (AG.l0 (k+1) x0 x3 Dm X0 x76 X1 Gn JG Ie OZ) _;rw[AG.l0];exact go
   exact trivial)
  (λk ⟨(a0:Int),(a1:(List ((Bool × (List Int) × List Int) × Int × Int)) × List Bool),(a2:(List ((Bool × (List Int) × List Int) × Int × Int)) × List Bool),(a3:List (Int × Int × Int × Bool × (List Int) × List Int)),(a4:List (Bool × (List Int) × List Int)),(a5:List Int),_⟩=>by show Ae Bp (AG.f k a0 a1.1 a1.2 a2.1 a2.2 a3 a4 a5) _;unfold AG.f;exact go)
end
end Go.Proofs.YtjocbnjpjihpnaaGreat.A
