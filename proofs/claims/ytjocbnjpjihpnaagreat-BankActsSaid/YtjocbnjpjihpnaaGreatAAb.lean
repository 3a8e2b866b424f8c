/- Functions that come to what their texts say. -/
import Derived.Test.YtjocbnjpjihpnaaGreatAAa
import Derived.Test.YtjocbnjpjihpnaaGreatWWc
import Derived.Test.YtjocbnjpjihpnaaGreatBB
import Derived.Test.YtjocbnjpjihpnaaGreatFgradinelaw18same
import Derived.Test.YtjocbnjpjihpnaaGreatFgradinelaw18does
import Derived.Test.YtjocbnjpjihpnaaGreatFgradinelaw18Runback
import Derived.Test.YtjocbnjpjihpnaaGreatFgradinelaw18Step
namespace Go.Proofs.YtjocbnjpjihpnaaGreat.A
open Go.RowKit Go.Proofs.YtjocbnjpjihpnaaGreat.P Go.Proofs.YtjocbnjpjihpnaaGreatW.AH Go.Proofs.YtjocbnjpjihpnaaGreatW.AX Go.Proofs.YtjocbnjpjihpnaaGreatW.Ad Go.Proofs.YtjocbnjpjihpnaaGreatW.Ic
set_option linter.unusedVariables false
set_option linter.unusedSimpArgs false
set_option maxRecDepth 100000
set_option maxHeartbeats 4000000
section
attribute [local irreducible] Tm.f L7.f BU.f
def C4:DU:=⟨[.st 135 [.ty (.int .i64), .ty (.int .i64), .row false 93 (.cons (.int .i64) (.cons (.int .i64) (.cons (.int .i64) (.cons .bool (.cons (.row 73 (.int .u64)) (.row 73 (.int .u64))))))), .ty (.row 4 .bool), .row false 4 .bool, .ty (.int .i64), .ty (.int .i64), .ty .bool, .ty (.int .i64)], .ty (.int .i64), .ty (.int .i64)],[(.cons .bool (.cons (.row 73 (.int .u64)) (.row 73 (.int .u64))))],λk x=>(CU.f k x.1.1 x.1.2.1 x.1.2.2.1 x.1.2.2.2.1 x.1.2.2.2.2.1 x.1.2.2.2.2.2.1 x.1.2.2.2.2.2.2.1 x.1.2.2.2.2.2.2.2.1 x.1.2.2.2.2.2.2.2.2.1 x.2.1 x.2.2.1).map λr=>(((r.1,(r.2.1,r.2.2.1)),()),((r.2.2.2.1,r.2.2.2.2.1,r.2.2.2.2.2.1,r.2.2.2.2.2.2.1,r.2.2.2.2.2.2.2.1,r.2.2.2.2.2.2.2.2.1,r.2.2.2.2.2.2.2.2.2.1,r.2.2.2.2.2.2.2.2.2.2.1,r.2.2.2.2.2.2.2.2.2.2.2,()),()))⟩
def MX (r:Bool × List Int × List Int × Int × Int × List (Int × Int × Int × Bool × (List Int) × List Int) × List Bool × List Bool × Int × Int × Bool × Int):TT C4.rs × ET C4.ps:=(((r.1,(r.2.1,r.2.2.1)),()),((r.2.2.2.1,r.2.2.2.2.1,r.2.2.2.2.2.1,r.2.2.2.2.2.2.1,r.2.2.2.2.2.2.2.1,r.2.2.2.2.2.2.2.2.1,r.2.2.2.2.2.2.2.2.2.1,r.2.2.2.2.2.2.2.2.2.2.1,r.2.2.2.2.2.2.2.2.2.2.2,()),()))
def Ue:Bb (TT C4.rs × ET C4.ps):=⟨⟨23,28,[23]⟩,AE [],AE [],AE []⟩
theorem MY:Qx Tryz.prog 169 C4 :=
 D7 (Bt:=AL [(2,[0,1,0,7,15,31,31,0,191,511])]) (l:= [(62, .pu lQ),(140, .pu Vm),(178, .io Ce [(21,26)])]) (C:=Ue) (by kernel_rfl) AI ⟨AHV,pN,Fg,trivial⟩ (fn:=Tryz.f169) (by kernel_rfl) rfl (by kernel_rfl) (by decide) (by kernel_rfl) (m:=28) (by decide) (by decide) (F:=λk x=>CU.f k x.1.1 x.1.2.1 x.1.2.2.1 x.1.2.2.2.1 x.1.2.2.2.2.1 x.1.2.2.2.2.2.1 x.1.2.2.2.2.2.2.1 x.1.2.2.2.2.2.2.2.1 x.1.2.2.2.2.2.2.2.2.1 x.2.1 x.2.2.1) (q:=MX) (λk x=>rfl)
  (by exact trivial)
  (λk ⟨⟨Ab,Ae,Af,Ah,Ai,BH,BK,BL,BJ,_⟩,(a1:Int),(a2:Int),_⟩=>by show AY MX (CU.f k Ab Ae Af Ah Ai BH BK BL BJ a1 a2) _;unfold CU.f;exact go)
end
section
attribute [local irreducible] FN.f Bh.f CU.f CE.f
def E5:DU:=⟨[.st 135 [.ty (.int .i64), .ty (.int .i64), .row false 93 (.cons (.int .i64) (.cons (.int .i64) (.cons (.int .i64) (.cons .bool (.cons (.row 73 (.int .u64)) (.row 73 (.int .u64))))))), .ty (.row 4 .bool), .row false 4 .bool, .ty (.int .i64), .ty (.int .i64), .ty .bool, .ty (.int .i64)], .ty (.cons (.int .i64) (.cons (.int .i64) (.int .u64)))],[(.cons (.cons .bool (.cons (.row 73 (.int .u64)) (.row 73 (.int .u64)))) (.cons (.int .u64) (.int .i64)))],λk x=>(CR.f k x.1.1 x.1.2.1 x.1.2.2.1 x.1.2.2.2.1 x.1.2.2.2.2.1 x.1.2.2.2.2.2.1 x.1.2.2.2.2.2.2.1 x.1.2.2.2.2.2.2.2.1 x.1.2.2.2.2.2.2.2.2.1 x.2.1.1 x.2.1.2.1 x.2.1.2.2).map λr=>((((r.1,(r.2.1,r.2.2.1)),(r.2.2.2.1,r.2.2.2.2.1)),()),((r.2.2.2.2.2.1,r.2.2.2.2.2.2.1,r.2.2.2.2.2.2.2.1,r.2.2.2.2.2.2.2.2.1,r.2.2.2.2.2.2.2.2.2.1,r.2.2.2.2.2.2.2.2.2.2.1,r.2.2.2.2.2.2.2.2.2.2.2.1,r.2.2.2.2.2.2.2.2.2.2.2.2.1,r.2.2.2.2.2.2.2.2.2.2.2.2.2,()),()))⟩
def Su (r:Bool × List Int × List Int × Int × Int × Int × Int × List (Int × Int × Int × Bool × (List Int) × List Int) × List Bool × List Bool × Int × Int × Bool × Int):TT E5.rs × ET E5.ps:=((((r.1,(r.2.1,r.2.2.1)),(r.2.2.2.1,r.2.2.2.2.1)),()),((r.2.2.2.2.2.1,r.2.2.2.2.2.2.1,r.2.2.2.2.2.2.2.1,r.2.2.2.2.2.2.2.2.1,r.2.2.2.2.2.2.2.2.2.1,r.2.2.2.2.2.2.2.2.2.2.1,r.2.2.2.2.2.2.2.2.2.2.2.1,r.2.2.2.2.2.2.2.2.2.2.2.2.1,r.2.2.2.2.2.2.2.2.2.2.2.2.2,()),()))
def gI:Bb (TT E5.rs × ET E5.ps):=⟨⟨48,57,[48]⟩,AE [],AE [],AE []⟩
theorem Sv:Qx Tryz.prog 98 E5 :=
 D7 (Bt:=AL []) (l:= [(142, .pu MD),(168, .io Cu [(7,51)]),(169, .io C4 [(20,53)]),(170, .io DR [(34,55)])]) (C:=gI) (by kernel_rfl) AI ⟨Wm,Ib,MY,LC,trivial⟩ (fn:=Tryz.f98) (by kernel_rfl) rfl (by kernel_rfl) (by decide) (by kernel_rfl) (m:=57) (by decide) (by decide) (F:=λk x=>CR.f k x.1.1 x.1.2.1 x.1.2.2.1 x.1.2.2.2.1 x.1.2.2.2.2.1 x.1.2.2.2.2.2.1 x.1.2.2.2.2.2.2.1 x.1.2.2.2.2.2.2.2.1 x.1.2.2.2.2.2.2.2.2.1 x.2.1.1 x.2.1.2.1 x.2.1.2.2) (q:=Su) (λk x=>rfl)
  (by exact trivial)
  (λk ⟨⟨Ab,Ae,Af,Ah,Ai,BH,BK,BL,BJ,_⟩,(a1:Int × Int × Int),_⟩=>by show AY Su (CR.f k Ab Ae Af Ah Ai BH BK BL BJ a1.1 a1.2.1 a1.2.2) _;unfold CR.f;exact go)
end
section
attribute [local irreducible] AO.f
def F8:DU:=⟨[.st 135 [.ty (.int .i64), .ty (.int .i64), .row false 93 (.cons (.int .i64) (.cons (.int .i64) (.cons (.int .i64) (.cons .bool (.cons (.row 73 (.int .u64)) (.row 73 (.int .u64))))))), .ty (.row 4 .bool), .row false 4 .bool, .ty (.int .i64), .ty (.int .i64), .ty .bool, .ty (.int .i64)], .ty (.cons (.cons .bool (.cons (.row 73 (.int .u64)) (.row 73 (.int .u64)))) (.cons (.int .u64) (.int .i64)))],[(.cons (.cons .bool (.cons (.row 73 (.int .u64)) (.row 73 (.int .u64)))) (.cons (.int .u64) (.int .i64)))],λk x=>(IG.f k x.1.1 x.1.2.1 x.1.2.2.1 x.1.2.2.2.1 x.1.2.2.2.2.1 x.1.2.2.2.2.2.1 x.1.2.2.2.2.2.2.1 x.1.2.2.2.2.2.2.2.1 x.1.2.2.2.2.2.2.2.2.1 x.2.1.1.1 x.2.1.1.2.1 x.2.1.1.2.2 x.2.1.2.1 x.2.1.2.2).map λr=>((((r.1,(r.2.1,r.2.2.1)),(r.2.2.2.1,r.2.2.2.2.1)),()),((r.2.2.2.2.2.1,r.2.2.2.2.2.2.1,r.2.2.2.2.2.2.2.1,r.2.2.2.2.2.2.2.2.1,r.2.2.2.2.2.2.2.2.2.1,r.2.2.2.2.2.2.2.2.2.2.1,r.2.2.2.2.2.2.2.2.2.2.2.1,r.2.2.2.2.2.2.2.2.2.2.2.2.1,r.2.2.2.2.2.2.2.2.2.2.2.2.2,()),()))⟩
def Sw (r:Bool × List Int × List Int × Int × Int × Int × Int × List (Int × Int × Int × Bool × (List Int) × List Int) × List Bool × List Bool × Int × Int × Bool × Int):TT F8.rs × ET F8.ps:=((((r.1,(r.2.1,r.2.2.1)),(r.2.2.2.1,r.2.2.2.2.1)),()),((r.2.2.2.2.2.1,r.2.2.2.2.2.2.1,r.2.2.2.2.2.2.2.1,r.2.2.2.2.2.2.2.2.1,r.2.2.2.2.2.2.2.2.2.1,r.2.2.2.2.2.2.2.2.2.2.1,r.2.2.2.2.2.2.2.2.2.2.2.1,r.2.2.2.2.2.2.2.2.2.2.2.2.1,r.2.2.2.2.2.2.2.2.2.2.2.2.2,()),()))
def gJ:Bb (TT F8.rs × ET F8.ps):=⟨⟨9,14,[9]⟩,AE [],AE [],AE []⟩
theorem gK:Qx Tryz.prog 177 F8 :=
 D7 (Bt:=AL []) (l:= [(171, .io Cf [(8,12)])]) (C:=gJ) (by kernel_rfl) AI ⟨Ef,trivial⟩ (fn:=Tryz.f177) (by kernel_rfl) rfl (by kernel_rfl) (by decide) (by kernel_rfl) (m:=14) (by decide) (by decide) (F:=λk x=>IG.f k x.1.1 x.1.2.1 x.1.2.2.1 x.1.2.2.2.1 x.1.2.2.2.2.1 x.1.2.2.2.2.2.1 x.1.2.2.2.2.2.2.1 x.1.2.2.2.2.2.2.2.1 x.1.2.2.2.2.2.2.2.2.1 x.2.1.1.1 x.2.1.1.2.1 x.2.1.1.2.2 x.2.1.2.1 x.2.1.2.2) (q:=Sw) (λk x=>rfl)
  (by exact trivial)
  (λk ⟨⟨Ab,Ae,Af,Ah,Ai,BH,BK,BL,BJ,_⟩,(a1:(Bool × (List Int) × List Int) × Int × Int),_⟩=>by show AY Sw (IG.f k Ab Ae Af Ah Ai BH BK BL BJ a1.1.1 a1.1.2.1 a1.1.2.2 a1.2.1 a1.2.2) _;unfold IG.f;exact go)
end
section
def F7:DU:=⟨[.st 135 [.ty (.int .i64), .ty (.int .i64), .row false 93 (.cons (.int .i64) (.cons (.int .i64) (.cons (.int .i64) (.cons .bool (.cons (.row 73 (.int .u64)) (.row 73 (.int .u64))))))), .ty (.row 4 .bool), .row false 4 .bool, .ty (.int .i64), .ty (.int .i64), .ty .bool, .ty (.int .i64)]],[(.row 4 .bool)],λk x=>(Ga.f k x.1.1 x.1.2.1 x.1.2.2.1 x.1.2.2.2.1 x.1.2.2.2.2.1 x.1.2.2.2.2.2.1 x.1.2.2.2.2.2.2.1 x.1.2.2.2.2.2.2.2.1 x.1.2.2.2.2.2.2.2.2.1).map λr=>((r.1,()),((r.2.1,r.2.2.1,r.2.2.2.1,r.2.2.2.2.1,r.2.2.2.2.2.1,r.2.2.2.2.2.2.1,r.2.2.2.2.2.2.2.1,r.2.2.2.2.2.2.2.2.1,r.2.2.2.2.2.2.2.2.2,()),()))⟩
def Sx (r:List Bool × Int × Int × List (Int × Int × Int × Bool × (List Int) × List Int) × List Bool × List Bool × Int × Int × Bool × Int):TT F7.rs × ET F7.ps:=((r.1,()),((r.2.1,r.2.2.1,r.2.2.2.1,r.2.2.2.2.1,r.2.2.2.2.2.1,r.2.2.2.2.2.2.1,r.2.2.2.2.2.2.2.1,r.2.2.2.2.2.2.2.2.1,r.2.2.2.2.2.2.2.2.2,()),()))
def gL:Bb (TT F7.rs × ET F7.ps):=⟨⟨11,14,[11]⟩,AE [],AE [],AE []⟩
theorem gH:Qx Tryz.prog 47 F7 :=
 D7 (Bt:=AL []) (l:= []) (C:=gL) (by kernel_rfl) AI trivial (fn:=Tryz.f47) (by kernel_rfl) rfl (by kernel_rfl) (by decide) (by kernel_rfl) (m:=14) (by decide) (by decide) (F:=λk x=>Ga.f k x.1.1 x.1.2.1 x.1.2.2.1 x.1.2.2.2.1 x.1.2.2.2.2.1 x.1.2.2.2.2.2.1 x.1.2.2.2.2.2.2.1 x.1.2.2.2.2.2.2.2.1 x.1.2.2.2.2.2.2.2.2.1) (q:=Sx) (λk x=>rfl)
  (by exact trivial)
  (λk ⟨⟨Ab,Ae,Af,Ah,Ai,BH,BK,BL,BJ,_⟩,_⟩=>by show AY Sx (Ga.f k Ab Ae Af Ah Ai BH BK BL BJ) _;unfold Ga.f;exact go)
end
section
def Ff:DU:=⟨[.st 135 [.ty (.int .i64), .ty (.int .i64), .row false 93 (.cons (.int .i64) (.cons (.int .i64) (.cons (.int .i64) (.cons .bool (.cons (.row 73 (.int .u64)) (.row 73 (.int .u64))))))), .ty (.row 4 .bool), .row false 4 .bool, .ty (.int .i64), .ty (.int .i64), .ty .bool, .ty (.int .i64)]],[.int .i64],λk x=>(G2.f k x.1.1 x.1.2.1 x.1.2.2.1 x.1.2.2.2.1 x.1.2.2.2.2.1 x.1.2.2.2.2.2.1 x.1.2.2.2.2.2.2.1 x.1.2.2.2.2.2.2.2.1 x.1.2.2.2.2.2.2.2.2.1).map λr=>((r.1,()),((r.2.1,r.2.2.1,r.2.2.2.1,r.2.2.2.2.1,r.2.2.2.2.2.1,r.2.2.2.2.2.2.1,r.2.2.2.2.2.2.2.1,r.2.2.2.2.2.2.2.2.1,r.2.2.2.2.2.2.2.2.2,()),()))⟩
def QY (r:Int × Int × Int × List (Int × Int × Int × Bool × (List Int) × List Int) × List Bool × List Bool × Int × Int × Bool × Int):TT Ff.rs × ET Ff.ps:=((r.1,()),((r.2.1,r.2.2.1,r.2.2.2.1,r.2.2.2.2.1,r.2.2.2.2.2.1,r.2.2.2.2.2.2.1,r.2.2.2.2.2.2.2.1,r.2.2.2.2.2.2.2.2.1,r.2.2.2.2.2.2.2.2.2,()),()))
def bu:Bb (TT Ff.rs × ET Ff.ps):=⟨⟨9,12,[9]⟩,AE [],AE [],AE []⟩
theorem bZ:Qx Tryz.prog 49 Ff :=
 D7 (Bt:=AL []) (l:= []) (C:=bu) (by kernel_rfl) AI trivial (fn:=Tryz.f49) (by kernel_rfl) rfl (by kernel_rfl) (by decide) (by kernel_rfl) (m:=12) (by decide) (by decide) (F:=λk x=>G2.f k x.1.1 x.1.2.1 x.1.2.2.1 x.1.2.2.2.1 x.1.2.2.2.2.1 x.1.2.2.2.2.2.1 x.1.2.2.2.2.2.2.1 x.1.2.2.2.2.2.2.2.1 x.1.2.2.2.2.2.2.2.2.1) (q:=QY) (λk x=>rfl)
  (by exact trivial)
  (λk ⟨⟨Ab,Ae,Af,Ah,Ai,BH,BK,BL,BJ,_⟩,_⟩=>by show AY QY (G2.f k Ab Ae Af Ah Ai BH BK BL BJ) _;unfold G2.f;exact go)
end
section
attribute [local irreducible] AO.f
def E6:DU:=⟨[.st 135 [.ty (.int .i64), .ty (.int .i64), .row false 93 (.cons (.int .i64) (.cons (.int .i64) (.cons (.int .i64) (.cons .bool (.cons (.row 73 (.int .u64)) (.row 73 (.int .u64))))))), .ty (.row 4 .bool), .row false 4 .bool, .ty (.int .i64), .ty (.int .i64), .ty .bool, .ty (.int .i64)], .ty (.cons (.cons .bool (.cons (.row 73 (.int .u64)) (.row 73 (.int .u64)))) (.cons (.int .u64) (.int .i64))), .ty (.cons (.cons .bool (.cons (.row 73 (.int .u64)) (.row 73 (.int .u64)))) (.cons (.int .u64) (.int .i64)))],[(.cons (.cons .bool (.cons (.row 73 (.int .u64)) (.row 73 (.int .u64)))) (.cons (.int .u64) (.int .i64)))],λk x=>(Dm.f k x.1.1 x.1.2.1 x.1.2.2.1 x.1.2.2.2.1 x.1.2.2.2.2.1 x.1.2.2.2.2.2.1 x.1.2.2.2.2.2.2.1 x.1.2.2.2.2.2.2.2.1 x.1.2.2.2.2.2.2.2.2.1 x.2.1.1.1 x.2.1.1.2.1 x.2.1.1.2.2 x.2.1.2.1 x.2.1.2.2 x.2.2.1.1.1 x.2.2.1.1.2.1 x.2.2.1.1.2.2 x.2.2.1.2.1 x.2.2.1.2.2).map λr=>((((r.1,(r.2.1,r.2.2.1)),(r.2.2.2.1,r.2.2.2.2.1)),()),((r.2.2.2.2.2.1,r.2.2.2.2.2.2.1,r.2.2.2.2.2.2.2.1,r.2.2.2.2.2.2.2.2.1,r.2.2.2.2.2.2.2.2.2.1,r.2.2.2.2.2.2.2.2.2.2.1,r.2.2.2.2.2.2.2.2.2.2.2.1,r.2.2.2.2.2.2.2.2.2.2.2.2.1,r.2.2.2.2.2.2.2.2.2.2.2.2.2,()),()))⟩
def Sy (r:Bool × List Int × List Int × Int × Int × Int × Int × List (Int × Int × Int × Bool × (List Int) × List Int) × List Bool × List Bool × Int × Int × Bool × Int):TT E6.rs × ET E6.ps:=((((r.1,(r.2.1,r.2.2.1)),(r.2.2.2.1,r.2.2.2.2.1)),()),((r.2.2.2.2.2.1,r.2.2.2.2.2.2.1,r.2.2.2.2.2.2.2.1,r.2.2.2.2.2.2.2.2.1,r.2.2.2.2.2.2.2.2.2.1,r.2.2.2.2.2.2.2.2.2.2.1,r.2.2.2.2.2.2.2.2.2.2.2.1,r.2.2.2.2.2.2.2.2.2.2.2.2.1,r.2.2.2.2.2.2.2.2.2.2.2.2.2,()),()))
def gM:Bb (TT E6.rs × ET E6.ps):=⟨⟨11,16,[11]⟩,AE [],AE [],AE []⟩
theorem Sz:Qx Tryz.prog 99 E6 :=
 D7 (Bt:=AL []) (l:= [(171, .io Cf [(10,14)])]) (C:=gM) (by kernel_rfl) AI ⟨Ef,trivial⟩ (fn:=Tryz.f99) (by kernel_rfl) rfl (by kernel_rfl) (by decide) (by kernel_rfl) (m:=16) (by decide) (by decide) (F:=λk x=>Dm.f k x.1.1 x.1.2.1 x.1.2.2.1 x.1.2.2.2.1 x.1.2.2.2.2.1 x.1.2.2.2.2.2.1 x.1.2.2.2.2.2.2.1 x.1.2.2.2.2.2.2.2.1 x.1.2.2.2.2.2.2.2.2.1 x.2.1.1.1 x.2.1.1.2.1 x.2.1.1.2.2 x.2.1.2.1 x.2.1.2.2 x.2.2.1.1.1 x.2.2.1.1.2.1 x.2.2.1.1.2.2 x.2.2.1.2.1 x.2.2.1.2.2) (q:=Sy) (λk x=>rfl)
  (by exact trivial)
  (λk ⟨⟨Ab,Ae,Af,Ah,Ai,BH,BK,BL,BJ,_⟩,(a1:(Bool × (List Int) × List Int) × Int × Int),(a2:(Bool × (List Int) × List Int) × Int × Int),_⟩=>by show AY Sy (Dm.f k Ab Ae Af Ah Ai BH BK BL BJ a1.1.1 a1.1.2.1 a1.1.2.2 a1.2.1 a1.2.2 a2.1.1 a2.1.2.1 a2.1.2.2 a2.2.1 a2.2.2) _;unfold Dm.f;exact go)
end
section
attribute [local irreducible] AO.f
def F9:DU:=⟨[.st 135 [.ty (.int .i64), .ty (.int .i64), .row false 93 (.cons (.int .i64) (.cons (.int .i64) (.cons (.int .i64) (.cons .bool (.cons (.row 73 (.int .u64)) (.row 73 (.int .u64))))))), .ty (.row 4 .bool), .row false 4 .bool, .ty (.int .i64), .ty (.int .i64), .ty .bool, .ty (.int .i64)], .ty (.cons (.cons .bool (.cons (.row 73 (.int .u64)) (.row 73 (.int .u64)))) (.cons (.int .u64) (.int .i64)))],[(.cons (.cons .bool (.cons (.row 73 (.int .u64)) (.row 73 (.int .u64)))) (.cons (.int .u64) (.int .i64)))],λk x=>(II.f k x.1.1 x.1.2.1 x.1.2.2.1 x.1.2.2.2.1 x.1.2.2.2.2.1 x.1.2.2.2.2.2.1 x.1.2.2.2.2.2.2.1 x.1.2.2.2.2.2.2.2.1 x.1.2.2.2.2.2.2.2.2.1 x.2.1.1.1 x.2.1.1.2.1 x.2.1.1.2.2 x.2.1.2.1 x.2.1.2.2).map λr=>((((r.1,(r.2.1,r.2.2.1)),(r.2.2.2.1,r.2.2.2.2.1)),()),((r.2.2.2.2.2.1,r.2.2.2.2.2.2.1,r.2.2.2.2.2.2.2.1,r.2.2.2.2.2.2.2.2.1,r.2.2.2.2.2.2.2.2.2.1,r.2.2.2.2.2.2.2.2.2.2.1,r.2.2.2.2.2.2.2.2.2.2.2.1,r.2.2.2.2.2.2.2.2.2.2.2.2.1,r.2.2.2.2.2.2.2.2.2.2.2.2.2,()),()))⟩
def S0 (r:Bool × List Int × List Int × Int × Int × Int × Int × List (Int × Int × Int × Bool × (List Int) × List Int) × List Bool × List Bool × Int × Int × Bool × Int):TT F9.rs × ET F9.ps:=((((r.1,(r.2.1,r.2.2.1)),(r.2.2.2.1,r.2.2.2.2.1)),()),((r.2.2.2.2.2.1,r.2.2.2.2.2.2.1,r.2.2.2.2.2.2.2.1,r.2.2.2.2.2.2.2.2.1,r.2.2.2.2.2.2.2.2.2.1,r.2.2.2.2.2.2.2.2.2.2.1,r.2.2.2.2.2.2.2.2.2.2.2.1,r.2.2.2.2.2.2.2.2.2.2.2.2.1,r.2.2.2.2.2.2.2.2.2.2.2.2.2,()),()))
def gN:Bb (TT F9.rs × ET F9.ps):=⟨⟨9,14,[9]⟩,AE [],AE [],AE []⟩
theorem gO:Qx Tryz.prog 172 F9 :=
 D7 (Bt:=AL []) (l:= [(171, .io Cf [(8,12)])]) (C:=gN) (by kernel_rfl) AI ⟨Ef,trivial⟩ (fn:=Tryz.f172) (by kernel_rfl) rfl (by kernel_rfl) (by decide) (by kernel_rfl) (m:=14) (by decide) (by decide) (F:=λk x=>II.f k x.1.1 x.1.2.1 x.1.2.2.1 x.1.2.2.2.1 x.1.2.2.2.2.1 x.1.2.2.2.2.2.1 x.1.2.2.2.2.2.2.1 x.1.2.2.2.2.2.2.2.1 x.1.2.2.2.2.2.2.2.2.1 x.2.1.1.1 x.2.1.1.2.1 x.2.1.1.2.2 x.2.1.2.1 x.2.1.2.2) (q:=S0) (λk x=>rfl)
  (by exact trivial)
  (λk ⟨⟨Ab,Ae,Af,Ah,Ai,BH,BK,BL,BJ,_⟩,(a1:(Bool × (List Int) × List Int) × Int × Int),_⟩=>by show AY S0 (II.f k Ab Ae Af Ah Ai BH BK BL BJ a1.1.1 a1.1.2.1 a1.1.2.2 a1.2.1 a1.2.2) _;unfold II.f;exact go)
end
section
attribute [local irreducible] Ay.f
def QZ:AQ:=⟨[(.row 73 (.int .u64)), .int .i64],[(.row 73 (.int .u64))],λk x=>(CC.f k x.1 x.2.1).map λr=>(r,())⟩
def Vn (r:List Int):TT QZ.rs:=(r,())
@[reducible] def Xq:List Slot:= [.tmp 6 [.ty (.int .i64)], .tmp 7 [.own .mine 7 73 (.int .u64)], .tmp 8 [.ty (.int .u64)], .tmp 25 [.ty (.row 73 (.int .u64))], .tmp 26 [.ty (.int .i64)], .tmp 27 [.ty (.int .i64)]]
def lS (k:Nat) (x:TS Xq):Option (List Int):=match x with | ⟨⟨(x6:Int),_⟩,⟨(x7:List Int),_⟩,⟨(x8:Int),_⟩,⟨(x25:List Int),_⟩,⟨(x26:Int),_⟩,⟨(x27:Int),_⟩,_⟩=>if 0<=x6/\x6<64 then CC.l0 k x6 x7 x8 x25 x26 x27 else none
def AD4:Bb (TT QZ.rs):=⟨⟨50,50,[]⟩,AE [(0,⟨Xq,λk x=>(lS k x).map Vn⟩)],AE [],AE []⟩
theorem pO:Cl Tryz.prog 210 QZ :=
 AT (Bt:=AL []) (l:= [(187, .pu DN)]) (C:=AD4) (by kernel_rfl) AI ⟨Dv,trivial⟩ (fn:=Tryz.f210) (by kernel_rfl) rfl (by kernel_rfl) (by decide) (by kernel_rfl) (F:=λk x=>CC.f k x.1 x.2.1) (m:=Vn) (λk x=>rfl)
  (by
   refine And.intro ?_ ?_
   ·refine Ap (sl:=Xq) (F:=lS) (λ⟨⟨(x6:Int),_⟩,⟨(x7:List Int),_⟩,⟨(x8:Int),_⟩,⟨(x25:List Int),_⟩,⟨(x26:Int),_⟩,⟨(x27:Int),_⟩,_⟩=>by show(if 0<=x6/\x6<64 then CC.l0 0 x6 x7 x8 x25 x26 x27 else none)=none;split<;>rfl) λk ⟨⟨(x6:Int),_⟩,⟨(x7:List Int),_⟩,⟨(x8:Int),_⟩,⟨(x25:List Int),_⟩,⟨(x26:Int),_⟩,⟨(x27:Int),_⟩,_⟩=> ?_
    show AY Vn (if 0<=x6/\x6<64 then CC.l0 (k+1) x6 x7 x8 x25 x26 x27 else none) _;rw[CC.l0];exact go
   exact trivial)
  (λk ⟨(a0:List Int),(a1:Int),_⟩=>by show AY Vn (CC.f k a0 a1) _;unfold CC.f;exact go)
end
section
def Vo:AQ:=⟨[(.row 73 (.int .u64)), .int .i64],[.bool],λ_ x=>(NS.f x.1 x.2.1).map λr=>(r,())⟩
def pP (r:Bool):TT Vo.rs:=(r,())
theorem pQ:Cl Tryz.prog 254 Vo :=
 AT (Bt:=AL []) (l:= []) (C:=AZ) (by kernel_rfl) AI trivial (fn:=Tryz.f254) (by kernel_rfl) rfl (by kernel_rfl) (by decide) (by kernel_rfl) (F:=λk x=>NS.f x.1 x.2.1) (m:=pP) (λk x=>rfl)
  (by exact trivial)
  (λk ⟨(a0:List Int),(a1:Int),_⟩=>by show AY pP (NS.f a0 a1) _;unfold NS.f;exact go)
end
section
attribute [local irreducible] DB.f NS.f
def Rl:AQ:=⟨[(.row 73 (.int .u64))],[.int .i64],λk x=>(EX.f k x.1).map λr=>(r,())⟩
def Rm (r:Int):TT Rl.rs:=(r,())
@[reducible] def Uf:List Slot:= [.tmp 0 [.ty (.row 73 (.int .u64))], .tmp 7 [.ty (.int .i64)], .tmp 8 [.ty (.int .i64)]]
def dz (k:Nat) (x:TS Uf):Option (Int):=EX.l0 k x.1.1 x.2.1.1 x.2.2.1.1
def ABJ:Bb (TT Rl.rs):=⟨⟨16,16,[]⟩,AE [(0,⟨Uf,λk x=>(dz k x).map Rm⟩)],AE [],AE []⟩
theorem ABK:Cl Tryz.prog 255 Rl :=
 AT (Bt:=AL []) (l:= [(134, .pu Gm),(254, .pu Vo)]) (C:=ABJ) (by kernel_rfl) AI ⟨JF,pQ,trivial⟩ (fn:=Tryz.f255) (by kernel_rfl) rfl (by kernel_rfl) (by decide) (by kernel_rfl) (F:=λk x=>EX.f k x.1) (m:=Rm) (λk x=>rfl)
  (by
   refine And.intro ?_ ?_
   ·refine Ap (sl:=Uf) (F:=dz) (λx=>rfl) λk ⟨⟨(x0:List Int),_⟩,⟨(x7:Int),_⟩,⟨(x8:Int),_⟩,_⟩=> ?_
    show AY Rm (EX.l0 (k+1) x0 x7 x8) _;rw[EX.l0];exact go
   exact trivial)
  (λk ⟨(a0:List Int),_⟩=>by show AY Rm (EX.f k a0) _;unfold EX.f;exact go)
end
section
attribute [local irreducible] Kw.f Bc.f DB.f J2.f Cr.f Ch.f CC.f BE.f EO.f FM.f NS.f EX.f
def O9:AQ:=⟨[.bool,(.row 73 (.int .u64)), .int .i64, .bool],[.int .u64],λk x=>(EF.f k x.1 x.2.1 x.2.2.1 x.2.2.2.1).map λr=>(r,())⟩
def PA (r:Int):TT O9.rs:=(r,())
@[reducible] def Rn:List Slot:= [.tmp 0 [.ty .bool], .tmp 1 [.ty (.row 73 (.int .u64))], .tmp 2 [.ty (.int .i64)]]
def Za (k:Nat) (x:TS Rn):Option (Int):=EF.j0 k x.1.1 x.2.1.1 x.2.2.1.1
def yW:Bb (TT O9.rs):=⟨⟨72,72,[]⟩,AE [],AE [(5,⟨Rn,λk x=>(Za k x).map PA⟩)],AE []⟩
theorem yX:Cl Tryz.prog 211 O9 :=
 AT (Bt:=AL []) (l:= [(117, .pu Qa),(132, .pu Nu),(134, .pu Gm),(199, .pu Ro),(208, .pu KB),(209, .pu FR),(210, .pu QZ),(216, .pu ER),(249, .pu Qb),(253, .pu ME),(254, .pu Vo),(255, .pu Rl)]) (C:=yW) (by kernel_rfl) AI ⟨Zb,Vp,JF,lT,Pr,HN,pO,Gn,pR,Wn,pQ,ABK,trivial⟩ (fn:=Tryz.f211) (by kernel_rfl) rfl (by kernel_rfl) (by decide) (by kernel_rfl) (F:=λk x=>EF.f k x.1 x.2.1 x.2.2.1 x.2.2.2.1) (m:=PA) (λk x=>rfl)
  (by
   refine And.intro ?_ ?_
   ·refine Al (sl:=Rn) (F:=Za) (λx=>rfl) λk ⟨⟨(x0:Bool),_⟩,⟨(x1:List Int),_⟩,⟨(x2:Int),_⟩,_⟩=> ?_
    show AY PA (EF.j0 (k+1) x0 x1 x2) _;rw[EF.j0];exact go
   exact trivial)
  (λk ⟨(a0:Bool),(a1:List Int),(a2:Int),(a3:Bool),_⟩=>by show AY PA (EF.f k a0 a1 a2 a3) _;unfold EF.f;exact go)
end
section
attribute [local irreducible] DB.f H6.f Is.f Cr.f Ch.f CC.f EF.f
def Lp:AQ:=⟨[(.cons .bool (.cons (.row 73 (.int .u64)) (.row 73 (.int .u64))))],[.int .u64],λk x=>(CJ.f k x.1.1 x.1.2.1 x.1.2.2).map λr=>(r,())⟩
def Qc (r:Int):TT Lp.rs:=(r,())
theorem bw:Cl Tryz.prog 143 Lp :=
 AT (Bt:=AL [(1,[0,1,3,0,8,31,63,127]),(7,[0,1,0,7,0,16,63,127,255,255,255,511,3071,8191])]) (l:= [(134, .pu Gm),(138, .pu OH),(207, .pu Rp),(208, .pu KB),(209, .pu FR),(210, .pu QZ),(211, .pu O9)]) (C:=AZ) (by kernel_rfl) AI ⟨JF,Xr,lU,Pr,HN,pO,yX,trivial⟩ (fn:=Tryz.f143) (by kernel_rfl) rfl (by kernel_rfl) (by decide) (by kernel_rfl) (F:=λk x=>CJ.f k x.1.1 x.1.2.1 x.1.2.2) (m:=Qc) (λk x=>rfl)
  (by exact trivial)
  (λk ⟨(a0:Bool × List Int × List Int),_⟩=>by show AY Qc (CJ.f k a0.1 a0.2.1 a0.2.2) _;unfold CJ.f;unfold CJ.j0;exact goq)
end
section
attribute [local irreducible] CJ.f Bh.f CU.f CE.f
def E7:DU:=⟨[.st 135 [.ty (.int .i64), .ty (.int .i64), .row false 93 (.cons (.int .i64) (.cons (.int .i64) (.cons (.int .i64) (.cons .bool (.cons (.row 73 (.int .u64)) (.row 73 (.int .u64))))))), .ty (.row 4 .bool), .row false 4 .bool, .ty (.int .i64), .ty (.int .i64), .ty .bool, .ty (.int .i64)], .ty (.int .i64), .ty (.int .i64)],[(.cons (.cons .bool (.cons (.row 73 (.int .u64)) (.row 73 (.int .u64)))) (.cons (.int .u64) (.int .i64)))],λk x=>(DW.f k x.1.1 x.1.2.1 x.1.2.2.1 x.1.2.2.2.1 x.1.2.2.2.2.1 x.1.2.2.2.2.2.1 x.1.2.2.2.2.2.2.1 x.1.2.2.2.2.2.2.2.1 x.1.2.2.2.2.2.2.2.2.1 x.2.1 x.2.2.1).map λr=>((((r.1,(r.2.1,r.2.2.1)),(r.2.2.2.1,r.2.2.2.2.1)),()),((r.2.2.2.2.2.1,r.2.2.2.2.2.2.1,r.2.2.2.2.2.2.2.1,r.2.2.2.2.2.2.2.2.1,r.2.2.2.2.2.2.2.2.2.1,r.2.2.2.2.2.2.2.2.2.2.1,r.2.2.2.2.2.2.2.2.2.2.2.1,r.2.2.2.2.2.2.2.2.2.2.2.2.1,r.2.2.2.2.2.2.2.2.2.2.2.2.2,()),()))⟩
def S5 (r:Bool × List Int × List Int × Int × Int × Int × Int × List (Int × Int × Int × Bool × (List Int) × List Int) × List Bool × List Bool × Int × Int × Bool × Int):TT E7.rs × ET E7.ps:=((((r.1,(r.2.1,r.2.2.1)),(r.2.2.2.1,r.2.2.2.2.1)),()),((r.2.2.2.2.2.1,r.2.2.2.2.2.2.1,r.2.2.2.2.2.2.2.1,r.2.2.2.2.2.2.2.2.1,r.2.2.2.2.2.2.2.2.2.1,r.2.2.2.2.2.2.2.2.2.2.1,r.2.2.2.2.2.2.2.2.2.2.2.1,r.2.2.2.2.2.2.2.2.2.2.2.2.1,r.2.2.2.2.2.2.2.2.2.2.2.2.2,()),()))
def gP:Bb (TT E7.rs × ET E7.ps):=⟨⟨43,52,[43]⟩,AE [],AE [],AE []⟩
theorem S6:Qx Tryz.prog 96 E7 :=
 D7 (Bt:=AL []) (l:= [(143, .pu Lp),(168, .io Cu [(9,46)]),(169, .io C4 [(14,48)]),(170, .io DR [(42,50)])]) (C:=gP) (by kernel_rfl) AI ⟨bw,Ib,MY,LC,trivial⟩ (fn:=Tryz.f96) (by kernel_rfl) rfl (by kernel_rfl) (by decide) (by kernel_rfl) (m:=52) (by decide) (by decide) (F:=λk x=>DW.f k x.1.1 x.1.2.1 x.1.2.2.1 x.1.2.2.2.1 x.1.2.2.2.2.1 x.1.2.2.2.2.2.1 x.1.2.2.2.2.2.2.1 x.1.2.2.2.2.2.2.2.1 x.1.2.2.2.2.2.2.2.2.1 x.2.1 x.2.2.1) (q:=S5) (λk x=>rfl)
  (by exact trivial)
  (λk ⟨⟨Ab,Ae,Af,Ah,Ai,BH,BK,BL,BJ,_⟩,(a1:Int),(a2:Int),_⟩=>by show AY S5 (DW.f k Ab Ae Af Ah Ai BH BK BL BJ a1 a2) _;unfold DW.f;exact go)
end
section
def Ez:DU:=⟨[.st 135 [.ty (.int .i64), .ty (.int .i64), .row false 93 (.cons (.int .i64) (.cons (.int .i64) (.cons (.int .i64) (.cons .bool (.cons (.row 73 (.int .u64)) (.row 73 (.int .u64))))))), .ty (.row 4 .bool), .row false 4 .bool, .ty (.int .i64), .ty (.int .i64), .ty .bool, .ty (.int .i64)]],[.int .i64],λk x=>(FL.f k x.1.1 x.1.2.1 x.1.2.2.1 x.1.2.2.2.1 x.1.2.2.2.2.1 x.1.2.2.2.2.2.1 x.1.2.2.2.2.2.2.1 x.1.2.2.2.2.2.2.2.1 x.1.2.2.2.2.2.2.2.2.1).map λr=>((r.1,()),((r.2.1,r.2.2.1,r.2.2.2.1,r.2.2.2.2.1,r.2.2.2.2.2.1,r.2.2.2.2.2.2.1,r.2.2.2.2.2.2.2.1,r.2.2.2.2.2.2.2.2.1,r.2.2.2.2.2.2.2.2.2,()),()))⟩
def S7 (r:Int × Int × Int × List (Int × Int × Int × Bool × (List Int) × List Int) × List Bool × List Bool × Int × Int × Bool × Int):TT Ez.rs × ET Ez.ps:=((r.1,()),((r.2.1,r.2.2.1,r.2.2.2.1,r.2.2.2.2.1,r.2.2.2.2.2.1,r.2.2.2.2.2.2.1,r.2.2.2.2.2.2.2.1,r.2.2.2.2.2.2.2.2.1,r.2.2.2.2.2.2.2.2.2,()),()))
def gQ:Bb (TT Ez.rs × ET Ez.ps):=⟨⟨9,12,[9]⟩,AE [],AE [],AE []⟩
theorem Ss:Qx Tryz.prog 45 Ez :=
 D7 (Bt:=AL []) (l:= []) (C:=gQ) (by kernel_rfl) AI trivial (fn:=Tryz.f45) (by kernel_rfl) rfl (by kernel_rfl) (by decide) (by kernel_rfl) (m:=12) (by decide) (by decide) (F:=λk x=>FL.f k x.1.1 x.1.2.1 x.1.2.2.1 x.1.2.2.2.1 x.1.2.2.2.2.1 x.1.2.2.2.2.2.1 x.1.2.2.2.2.2.2.1 x.1.2.2.2.2.2.2.2.1 x.1.2.2.2.2.2.2.2.2.1) (q:=S7) (λk x=>rfl)
  (by exact trivial)
  (λk ⟨⟨Ab,Ae,Af,Ah,Ai,BH,BK,BL,BJ,_⟩,_⟩=>by show AY S7 (FL.f k Ab Ae Af Ah Ai BH BK BL BJ) _;unfold FL.f;exact go)
end
section
def Pt:AQ:=⟨[(.cons .bool (.cons (.row 73 (.int .u64)) (.row 73 (.int .u64))))],[(.cons .bool (.cons (.row 73 (.int .u64)) (.row 73 (.int .u64))))],λk x=>(Ij.f k x.1.1 x.1.2.1 x.1.2.2).map λr=>((r.1,r.2.1,r.2.2),())⟩
def Wo (r:Bool × List Int × List Int):TT Pt.rs:=((r.1,r.2.1,r.2.2),())
theorem nh:Cl Tryz.prog 109 Pt :=
 AT (Bt:=AL [(1,[0,1,0,0,8,28,0,0,128,508,1023,2047])]) (l:= []) (C:=AZ) (by kernel_rfl) AI trivial (fn:=Tryz.f109) (by kernel_rfl) rfl (by kernel_rfl) (by decide) (by kernel_rfl) (F:=λk x=>Ij.f k x.1.1 x.1.2.1 x.1.2.2) (m:=Wo) (λk x=>rfl)
  (by exact trivial)
  (λk ⟨(a0:Bool × (List Int) × List Int),_⟩=>by show AY Wo (Ij.f k a0.1 a0.2.1 a0.2.2) _;unfold Ij.f;exact go)
end
section
attribute [local irreducible] Ij.f
def DM:DU:=⟨[.st 135 [.ty (.int .i64), .ty (.int .i64), .row false 93 (.cons (.int .i64) (.cons (.int .i64) (.cons (.int .i64) (.cons .bool (.cons (.row 73 (.int .u64)) (.row 73 (.int .u64))))))), .ty (.row 4 .bool), .row false 4 .bool, .ty (.int .i64), .ty (.int .i64), .ty .bool, .ty (.int .i64)]],[(.row 93 (.cons (.int .i64) (.cons (.int .i64) (.cons (.int .i64) (.cons .bool (.cons (.row 73 (.int .u64)) (.row 73 (.int .u64))))))))],λk x=>(Ax.f k x.1.1 x.1.2.1 x.1.2.2.1 x.1.2.2.2.1 x.1.2.2.2.2.1 x.1.2.2.2.2.2.1 x.1.2.2.2.2.2.2.1 x.1.2.2.2.2.2.2.2.1 x.1.2.2.2.2.2.2.2.2.1).map λr=>((r.1,()),((r.2.1,r.2.2.1,r.2.2.2.1,r.2.2.2.2.1,r.2.2.2.2.2.1,r.2.2.2.2.2.2.1,r.2.2.2.2.2.2.2.1,r.2.2.2.2.2.2.2.2.1,r.2.2.2.2.2.2.2.2.2,()),()))⟩
def Gz (r:List (Int × Int × Int × Bool × (List Int) × List Int) × Int × Int × List (Int × Int × Int × Bool × (List Int) × List Int) × List Bool × List Bool × Int × Int × Bool × Int):TT DM.rs × ET DM.ps:=((r.1,()),((r.2.1,r.2.2.1,r.2.2.2.1,r.2.2.2.2.1,r.2.2.2.2.2.1,r.2.2.2.2.2.2.1,r.2.2.2.2.2.2.2.1,r.2.2.2.2.2.2.2.2.1,r.2.2.2.2.2.2.2.2.2,()),()))
@[reducible] def JG:List Slot:= [.tmp 3 [.own .mine 3 93 (.cons (.int .i64) (.cons (.int .i64) (.cons (.int .i64) (.cons .bool (.cons (.row 73 (.int .u64)) (.row 73 (.int .u64)))))))], .tmp 11 [.own .Dn 11 93 (.cons (.int .i64) (.cons (.int .i64) (.cons (.int .i64) (.cons .bool (.cons (.row 73 (.int .u64)) (.row 73 (.int .u64)))))))], .tmp 12 [.ty (.int .i64)], .tmp 13 [.ty (.int .i64)], .DO 27 .kept 135 [.ty (.int .i64), .ty (.int .i64), .al 11, .ty (.row 4 .bool), .own .Dn 30 4 .bool, .ty (.int .i64), .ty (.int .i64), .ty .bool, .ty (.int .i64)]]
def MZ (k:Nat) (x:TS JG):Option (List (Int × Int × Int × Bool × (List Int) × List Int) × Int × Int × List (Int × Int × Int × Bool × (List Int) × List Int) × List Bool × List Bool × Int × Int × Bool × Int):=Ax.l0 k x.1.1 x.2.1.1 x.2.2.1.1 x.2.2.2.1.1 x.2.2.2.2.1.1 x.2.2.2.2.1.2.1 x.2.2.2.2.1.2.2.1 x.2.2.2.2.1.2.2.2.1 x.2.2.2.2.1.2.2.2.2.1 x.2.2.2.2.1.2.2.2.2.2.1 x.2.2.2.2.1.2.2.2.2.2.2.1 x.2.2.2.2.1.2.2.2.2.2.2.2.1
def WI:Bb (TT DM.rs × ET DM.ps):=⟨⟨27,32,[27]⟩,AE [(0,⟨JG,λk x=>(MZ k x).map Gz⟩)],AE [],AE []⟩
theorem M9:Qx Tryz.prog 50 DM :=
 D7 (Bt:=AL []) (l:= [(109, .pu Pt)]) (C:=WI) (by kernel_rfl) AI ⟨nh,trivial⟩ (fn:=Tryz.f50) (by kernel_rfl) rfl (by kernel_rfl) (by decide) (by kernel_rfl) (m:=32) (by decide) (by decide) (F:=λk x=>Ax.f k x.1.1 x.1.2.1 x.1.2.2.1 x.1.2.2.2.1 x.1.2.2.2.2.1 x.1.2.2.2.2.2.1 x.1.2.2.2.2.2.2.1 x.1.2.2.2.2.2.2.2.1 x.1.2.2.2.2.2.2.2.2.1) (q:=Gz) (λk x=>rfl)
  (by
   refine And.intro ?_ ?_
   ·refine Ap (sl:=JG) (F:=MZ) (λx=>rfl) λk ⟨⟨(x3:List (Int × Int × Int × Bool × (List Int) × List Int)),_⟩,⟨(Ik:List (Int × Int × Int × Bool × (List Int) × List Int)),_⟩,⟨(aW:Int),_⟩,⟨(Hf:Int),_⟩,⟨(ACO:Int),(ACP:Int),(ACQ:List Bool),(ACR:List Bool),(ACS:Int),(ACT:Int),(ACU:Bool),(ACV:Int),_⟩,_⟩=> ?_
    show AY Gz (Ax.l0 (k+1) x3 Ik aW Hf ACO ACP ACQ ACR ACS ACT ACU ACV) _;rw[Ax.l0];exact go
   exact trivial)
  (λk ⟨⟨Ab,Ae,Af,Ah,Ai,BH,BK,BL,BJ,_⟩,_⟩=>by show AY Gz (Ax.f k Ab Ae Af Ah Ai BH BK BL BJ) _;unfold Ax.f;exact go)
end
section
attribute [local irreducible] AO.f
def Fh:DU:=⟨[.st 135 [.ty (.int .i64), .ty (.int .i64), .row false 93 (.cons (.int .i64) (.cons (.int .i64) (.cons (.int .i64) (.cons .bool (.cons (.row 73 (.int .u64)) (.row 73 (.int .u64))))))), .ty (.row 4 .bool), .row false 4 .bool, .ty (.int .i64), .ty (.int .i64), .ty .bool, .ty (.int .i64)], .ty (.cons (.cons .bool (.cons (.row 73 (.int .u64)) (.row 73 (.int .u64)))) (.cons (.int .u64) (.int .i64)))],[(.cons (.cons .bool (.cons (.row 73 (.int .u64)) (.row 73 (.int .u64)))) (.cons (.int .u64) (.int .i64)))],λk x=>(G3.f k x.1.1 x.1.2.1 x.1.2.2.1 x.1.2.2.2.1 x.1.2.2.2.2.1 x.1.2.2.2.2.2.1 x.1.2.2.2.2.2.2.1 x.1.2.2.2.2.2.2.2.1 x.1.2.2.2.2.2.2.2.2.1 x.2.1.1.1 x.2.1.1.2.1 x.2.1.1.2.2 x.2.1.2.1 x.2.1.2.2).map λr=>((((r.1,(r.2.1,r.2.2.1)),(r.2.2.2.1,r.2.2.2.2.1)),()),((r.2.2.2.2.2.1,r.2.2.2.2.2.2.1,r.2.2.2.2.2.2.2.1,r.2.2.2.2.2.2.2.2.1,r.2.2.2.2.2.2.2.2.2.1,r.2.2.2.2.2.2.2.2.2.2.1,r.2.2.2.2.2.2.2.2.2.2.2.1,r.2.2.2.2.2.2.2.2.2.2.2.2.1,r.2.2.2.2.2.2.2.2.2.2.2.2.2,()),()))⟩
def Qd (r:Bool × List Int × List Int × Int × Int × Int × Int × List (Int × Int × Int × Bool × (List Int) × List Int) × List Bool × List Bool × Int × Int × Bool × Int):TT Fh.rs × ET Fh.ps:=((((r.1,(r.2.1,r.2.2.1)),(r.2.2.2.1,r.2.2.2.2.1)),()),((r.2.2.2.2.2.1,r.2.2.2.2.2.2.1,r.2.2.2.2.2.2.2.1,r.2.2.2.2.2.2.2.2.1,r.2.2.2.2.2.2.2.2.2.1,r.2.2.2.2.2.2.2.2.2.2.1,r.2.2.2.2.2.2.2.2.2.2.2.1,r.2.2.2.2.2.2.2.2.2.2.2.2.1,r.2.2.2.2.2.2.2.2.2.2.2.2.2,()),()))
def b9:Bb (TT Fh.rs × ET Fh.ps):=⟨⟨9,14,[9]⟩,AE [],AE [],AE []⟩
theorem cA:Qx Tryz.prog 175 Fh :=
 D7 (Bt:=AL []) (l:= [(171, .io Cf [(8,12)])]) (C:=b9) (by kernel_rfl) AI ⟨Ef,trivial⟩ (fn:=Tryz.f175) (by kernel_rfl) rfl (by kernel_rfl) (by decide) (by kernel_rfl) (m:=14) (by decide) (by decide) (F:=λk x=>G3.f k x.1.1 x.1.2.1 x.1.2.2.1 x.1.2.2.2.1 x.1.2.2.2.2.1 x.1.2.2.2.2.2.1 x.1.2.2.2.2.2.2.1 x.1.2.2.2.2.2.2.2.1 x.1.2.2.2.2.2.2.2.2.1 x.2.1.1.1 x.2.1.1.2.1 x.2.1.1.2.2 x.2.1.2.1 x.2.1.2.2) (q:=Qd) (λk x=>rfl)
  (by exact trivial)
  (λk ⟨⟨Ab,Ae,Af,Ah,Ai,BH,BK,BL,BJ,_⟩,(a1:(Bool × (List Int) × List Int) × Int × Int),_⟩=>by show AY Qd (G3.f k Ab Ae Af Ah Ai BH BK BL BJ a1.1.1 a1.1.2.1 a1.1.2.2 a1.2.1 a1.2.2) _;unfold G3.f;exact go)
end
section
attribute [local irreducible] AO.f
def GC:DU:=⟨[.st 135 [.ty (.int .i64), .ty (.int .i64), .row false 93 (.cons (.int .i64) (.cons (.int .i64) (.cons (.int .i64) (.cons .bool (.cons (.row 73 (.int .u64)) (.row 73 (.int .u64))))))), .ty (.row 4 .bool), .row false 4 .bool, .ty (.int .i64), .ty (.int .i64), .ty .bool, .ty (.int .i64)], .ty (.cons (.cons .bool (.cons (.row 73 (.int .u64)) (.row 73 (.int .u64)))) (.cons (.int .u64) (.int .i64))), .ty (.cons (.cons .bool (.cons (.row 73 (.int .u64)) (.row 73 (.int .u64)))) (.cons (.int .u64) (.int .i64)))],[(.cons (.cons .bool (.cons (.row 73 (.int .u64)) (.row 73 (.int .u64)))) (.cons (.int .u64) (.int .i64)))],λk x=>(IJ.f k x.1.1 x.1.2.1 x.1.2.2.1 x.1.2.2.2.1 x.1.2.2.2.2.1 x.1.2.2.2.2.2.1 x.1.2.2.2.2.2.2.1 x.1.2.2.2.2.2.2.2.1 x.1.2.2.2.2.2.2.2.2.1 x.2.1.1.1 x.2.1.1.2.1 x.2.1.1.2.2 x.2.1.2.1 x.2.1.2.2 x.2.2.1.1.1 x.2.2.1.1.2.1 x.2.2.1.1.2.2 x.2.2.1.2.1 x.2.2.1.2.2).map λr=>((((r.1,(r.2.1,r.2.2.1)),(r.2.2.2.1,r.2.2.2.2.1)),()),((r.2.2.2.2.2.1,r.2.2.2.2.2.2.1,r.2.2.2.2.2.2.2.1,r.2.2.2.2.2.2.2.2.1,r.2.2.2.2.2.2.2.2.2.1,r.2.2.2.2.2.2.2.2.2.2.1,r.2.2.2.2.2.2.2.2.2.2.2.1,r.2.2.2.2.2.2.2.2.2.2.2.2.1,r.2.2.2.2.2.2.2.2.2.2.2.2.2,()),()))⟩
def S8 (r:Bool × List Int × List Int × Int × Int × Int × Int × List (Int × Int × Int × Bool × (List Int) × List Int) × List Bool × List Bool × Int × Int × Bool × Int):TT GC.rs × ET GC.ps:=((((r.1,(r.2.1,r.2.2.1)),(r.2.2.2.1,r.2.2.2.2.1)),()),((r.2.2.2.2.2.1,r.2.2.2.2.2.2.1,r.2.2.2.2.2.2.2.1,r.2.2.2.2.2.2.2.2.1,r.2.2.2.2.2.2.2.2.2.1,r.2.2.2.2.2.2.2.2.2.2.1,r.2.2.2.2.2.2.2.2.2.2.2.1,r.2.2.2.2.2.2.2.2.2.2.2.2.1,r.2.2.2.2.2.2.2.2.2.2.2.2.2,()),()))
def gR:Bb (TT GC.rs × ET GC.ps):=⟨⟨11,16,[11]⟩,AE [],AE [],AE []⟩
theorem gS:Qx Tryz.prog 173 GC :=
 D7 (Bt:=AL []) (l:= [(171, .io Cf [(10,14)])]) (C:=gR) (by kernel_rfl) AI ⟨Ef,trivial⟩ (fn:=Tryz.f173) (by kernel_rfl) rfl (by kernel_rfl) (by decide) (by kernel_rfl) (m:=16) (by decide) (by decide) (F:=λk x=>IJ.f k x.1.1 x.1.2.1 x.1.2.2.1 x.1.2.2.2.1 x.1.2.2.2.2.1 x.1.2.2.2.2.2.1 x.1.2.2.2.2.2.2.1 x.1.2.2.2.2.2.2.2.1 x.1.2.2.2.2.2.2.2.2.1 x.2.1.1.1 x.2.1.1.2.1 x.2.1.1.2.2 x.2.1.2.1 x.2.1.2.2 x.2.2.1.1.1 x.2.2.1.1.2.1 x.2.2.1.1.2.2 x.2.2.1.2.1 x.2.2.1.2.2) (q:=S8) (λk x=>rfl)
  (by exact trivial)
  (λk ⟨⟨Ab,Ae,Af,Ah,Ai,BH,BK,BL,BJ,_⟩,(a1:(Bool × (List Int) × List Int) × Int × Int),(a2:(Bool × (List Int) × List Int) × Int × Int),_⟩=>by show AY S8 (IJ.f k Ab Ae Af Ah Ai BH BK BL BJ a1.1.1 a1.1.2.1 a1.1.2.2 a1.2.1 a1.2.2 a2.1.1 a2.1.2.1 a2.1.2.2 a2.2.1 a2.2.2) _;unfold IJ.f;exact go)
end
section
def F6:DU:=⟨[.st 135 [.ty (.int .i64), .ty (.int .i64), .row false 93 (.cons (.int .i64) (.cons (.int .i64) (.cons (.int .i64) (.cons .bool (.cons (.row 73 (.int .u64)) (.row 73 (.int .u64))))))), .ty (.row 4 .bool), .row false 4 .bool, .ty (.int .i64), .ty (.int .i64), .ty .bool, .ty (.int .i64)]],[.bool],λk x=>(ID.f k x.1.1 x.1.2.1 x.1.2.2.1 x.1.2.2.2.1 x.1.2.2.2.2.1 x.1.2.2.2.2.2.1 x.1.2.2.2.2.2.2.1 x.1.2.2.2.2.2.2.2.1 x.1.2.2.2.2.2.2.2.2.1).map λr=>((r.1,()),((r.2.1,r.2.2.1,r.2.2.2.1,r.2.2.2.2.1,r.2.2.2.2.2.1,r.2.2.2.2.2.2.1,r.2.2.2.2.2.2.2.1,r.2.2.2.2.2.2.2.2.1,r.2.2.2.2.2.2.2.2.2,()),()))⟩
def S9 (r:Bool × Int × Int × List (Int × Int × Int × Bool × (List Int) × List Int) × List Bool × List Bool × Int × Int × Bool × Int):TT F6.rs × ET F6.ps:=((r.1,()),((r.2.1,r.2.2.1,r.2.2.2.1,r.2.2.2.2.1,r.2.2.2.2.2.1,r.2.2.2.2.2.2.1,r.2.2.2.2.2.2.2.1,r.2.2.2.2.2.2.2.2.1,r.2.2.2.2.2.2.2.2.2,()),()))
def gT:Bb (TT F6.rs × ET F6.ps):=⟨⟨11,14,[11]⟩,AE [],AE [],AE []⟩
theorem gG:Qx Tryz.prog 46 F6 :=
 D7 (Bt:=AL []) (l:= []) (C:=gT) (by kernel_rfl) AI trivial (fn:=Tryz.f46) (by kernel_rfl) rfl (by kernel_rfl) (by decide) (by kernel_rfl) (m:=14) (by decide) (by decide) (F:=λk x=>ID.f k x.1.1 x.1.2.1 x.1.2.2.1 x.1.2.2.2.1 x.1.2.2.2.2.1 x.1.2.2.2.2.2.1 x.1.2.2.2.2.2.2.1 x.1.2.2.2.2.2.2.2.1 x.1.2.2.2.2.2.2.2.2.1) (q:=S9) (λk x=>rfl)
  (by exact trivial)
  (λk ⟨⟨Ab,Ae,Af,Ah,Ai,BH,BK,BL,BJ,_⟩,_⟩=>by show AY S9 (ID.f k Ab Ae Af Ah Ai BH BK BL BJ) _;unfold ID.f;exact go)
end
section
def RL:ia:=⟨[.int .i64,(.row 4 .bool)],135,[.ty (.int .i64), .ty (.int .i64), .nil, .ty (.row 4 .bool), .nil, .ty (.int .i64), .ty (.int .i64), .ty .bool, .ty (.int .i64)],λk x=>(J1.f k x.1 x.2.1).map λr=>(r.1,(r.2.1,r.2.2.1,r.2.2.2.1,r.2.2.2.2.1,r.2.2.2.2.2.1,r.2.2.2.2.2.2.1,r.2.2.2.2.2.2.2,()))⟩
def lV (r:Bool × Int × Int × List Bool × Int × Int × Bool × Int):Bool × NT RL.fs:=(r.1,(r.2.1,r.2.2.1,r.2.2.2.1,r.2.2.2.2.1,r.2.2.2.2.2.1,r.2.2.2.2.2.2.1,r.2.2.2.2.2.2.2,()))
theorem ku:FPk Tryz.prog 38 RL :=
 ALv (Bt:=AL []) (l:= []) (C:=AZ) (by kernel_rfl) AI trivial (fn:=Tryz.f38) (by kernel_rfl) rfl (by kernel_rfl) (by decide) (by kernel_rfl) (F:=λk x=>J1.f k x.1 x.2.1) (m:=lV) (λk x=>rfl)
  (by exact trivial)
  (λk ⟨(a0:Int),(a1:List Bool),_⟩=>by show AY lV (J1.f k a0 a1) _;unfold J1.f;exact go)
end
section
def Qe:AQ:=⟨[(.row 73 (.int .u64)), .int .i64],[.int .u64],λ_ x=>(IY.f x.1 x.2.1).map λr=>(r,())⟩
def pS (r:Int):TT Qe.rs:=(r,())
theorem cB:Cl Tryz.prog 130 Qe :=
 AT (Bt:=AL []) (l:= []) (C:=AZ) (by kernel_rfl) AI trivial (fn:=Tryz.f130) (by kernel_rfl) rfl (by kernel_rfl) (by decide) (by kernel_rfl) (F:=λk x=>IY.f x.1 x.2.1) (m:=pS) (λk x=>rfl)
  (by exact trivial)
  (λk ⟨(a0:List Int),(a1:Int),_⟩=>by show AY pS (IY.f a0 a1) _;unfold IY.f;exact go)
end
section
attribute [local irreducible] IY.f
def E3:AQ:=⟨[(.row 73 (.int .u64)),(.row 73 (.int .u64))],[.int .i64],λk x=>(Bx.f k x.1 x.2.1).map λr=>(r,())⟩
def Rs (r:Int):TT E3.rs:=(r,())
@[reducible] def Ug:List Slot:= [.tmp 0 [.ty (.row 73 (.int .u64))], .tmp 1 [.ty (.row 73 (.int .u64))], .tmp 6 [.ty (.int .i64)]]
def eA (k:Nat) (x:TS Ug):Option (Int):=Bx.l0 k x.1.1 x.2.1.1 x.2.2.1.1
def ABL:Bb (TT E3.rs):=⟨⟨32,32,[]⟩,AE [(0,⟨Ug,λk x=>(eA k x).map Rs⟩)],AE [],AE []⟩
theorem Hv:Cl Tryz.prog 75 E3 :=
 AT (Bt:=AL []) (l:= [(130, .pu Qe)]) (C:=ABL) (by kernel_rfl) AI ⟨cB,trivial⟩ (fn:=Tryz.f75) (by kernel_rfl) rfl (by kernel_rfl) (by decide) (by kernel_rfl) (F:=λk x=>Bx.f k x.1 x.2.1) (m:=Rs) (λk x=>rfl)
  (by
   refine And.intro ?_ ?_
   ·refine Ap (sl:=Ug) (F:=eA) (λx=>rfl) λk ⟨⟨(x0:List Int),_⟩,⟨(x1:List Int),_⟩,⟨(x6:Int),_⟩,_⟩=> ?_
    show AY Rs (Bx.l0 (k+1) x0 x1 x6) _;rw[Bx.l0];exact go
   exact trivial)
  (λk ⟨(a0:List Int),(a1:List Int),_⟩=>by show AY Rs (Bx.f k a0 a1) _;unfold Bx.f;exact go)
end
section
def FU:AQ:=⟨[(.row 73 (.int .u64))],[.int .i64],λk x=>(Be.f k x.1).map λr=>(r,())⟩
def PB (r:Int):TT FU.rs:=(r,())
@[reducible] def Rt:List Slot:= [.tmp 0 [.ty (.row 73 (.int .u64))], .tmp 3 [.ty (.int .i64)]]
def Zc (k:Nat) (x:TS Rt):Option (Int):=Be.l0 k x.1.1 x.2.1.1
def yY:Bb (TT FU.rs):=⟨⟨19,19,[]⟩,AE [(0,⟨Rt,λk x=>(Zc k x).map PB⟩)],AE [],AE []⟩
theorem JH:Cl Tryz.prog 126 FU :=
 AT (Bt:=AL []) (l:= []) (C:=yY) (by kernel_rfl) AI trivial (fn:=Tryz.f126) (by kernel_rfl) rfl (by kernel_rfl) (by decide) (by kernel_rfl) (F:=λk x=>Be.f k x.1) (m:=PB) (λk x=>rfl)
  (by
   refine And.intro ?_ ?_
   ·refine Ap (sl:=Rt) (F:=Zc) (λx=>rfl) λk ⟨⟨(x0:List Int),_⟩,⟨(x3:Int),_⟩,_⟩=> ?_
    show AY PB (Be.l0 (k+1) x0 x3) _;rw[Be.l0];exact go
   exact trivial)
  (λk ⟨(a0:List Int),_⟩=>by show AY PB (Be.f k a0) _;unfold Be.f;exact go)
end
section
attribute [local irreducible] Be.f
def D4:AQ:=⟨[(.row 73 (.int .u64))],[(.row 73 (.int .u64))],λk x=>(A8.f k x.1).map λr=>(r,())⟩
def PC (r:List Int):TT D4.rs:=(r,())
@[reducible] def Ru:List Slot:= [.tmp 0 [.ty (.row 73 (.int .u64))], .tmp 3 [.own .mine 3 73 (.int .u64)], .tmp 6 [.ty (.int .i64)], .tmp 7 [.ty (.int .i64)]]
def Zd (k:Nat) (x:TS Ru):Option (List Int):=A8.l0 k x.1.1 x.2.1.1 x.2.2.1.1 x.2.2.2.1.1
def yZ:Bb (TT D4.rs):=⟨⟨19,19,[]⟩,AE [(0,⟨Ru,λk x=>(Zd k x).map PC⟩)],AE [],AE []⟩
theorem GX:Cl Tryz.prog 188 D4 :=
 AT (Bt:=AL []) (l:= [(126, .pu FU)]) (C:=yZ) (by kernel_rfl) AI ⟨JH,trivial⟩ (fn:=Tryz.f188) (by kernel_rfl) rfl (by kernel_rfl) (by decide) (by kernel_rfl) (F:=λk x=>A8.f k x.1) (m:=PC) (λk x=>rfl)
  (by
   refine And.intro ?_ ?_
   ·refine Ap (sl:=Ru) (F:=Zd) (λx=>rfl) λk ⟨⟨(x0:List Int),_⟩,⟨(x3:List Int),_⟩,⟨(x6:Int),_⟩,⟨(x7:Int),_⟩,_⟩=> ?_
    show AY PC (A8.l0 (k+1) x0 x3 x6 x7) _;rw[A8.l0];exact go
   exact trivial)
  (λk ⟨(a0:List Int),_⟩=>by show AY PC (A8.f k a0) _;unfold A8.f;exact go)
end
section
attribute [local irreducible] A8.f
def IU:AQ:=⟨[(.row 73 (.int .u64))],[(.row 73 (.int .u64))],λk x=>(Bn.f k x.1).map λr=>(r,())⟩
def MF (r:List Int):TT IU.rs:=(r,())
@[reducible] def OI:List Slot:= [.tmp 0 [.ty (.row 73 (.int .u64))], .tmp 3 [.own .mine 3 73 (.int .u64)], .tmp 6 [.ty (.int .i64)], .tmp 7 [.ty (.int .i64)]]
def Uh (k:Nat) (x:TS OI):Option (List Int):=Bn.l0 k x.1.1 x.2.1.1 x.2.2.1.1 x.2.2.2.1.1
def ni:Bb (TT IU.rs):=⟨⟨29,29,[]⟩,AE [(0,⟨OI,λk x=>(Uh k x).map MF⟩)],AE [],AE []⟩
theorem Pu:Cl Tryz.prog 128 IU :=
 AT (Bt:=AL []) (l:= [(188, .pu D4)]) (C:=ni) (by kernel_rfl) AI ⟨GX,trivial⟩ (fn:=Tryz.f128) (by kernel_rfl) rfl (by kernel_rfl) (by decide) (by kernel_rfl) (F:=λk x=>Bn.f k x.1) (m:=MF) (λk x=>rfl)
  (by
   refine And.intro ?_ ?_
   ·refine Ap (sl:=OI) (F:=Uh) (λx=>rfl) λk ⟨⟨(x0:List Int),_⟩,⟨(x3:List Int),_⟩,⟨(x6:Int),_⟩,⟨(x7:Int),_⟩,_⟩=> ?_
    show AY MF (Bn.l0 (k+1) x0 x3 x6 x7) _;rw[Bn.l0];exact go
   exact trivial)
  (λk ⟨(a0:List Int),_⟩=>by show AY MF (Bn.f k a0) _;unfold Bn.f;exact go)
end
section
attribute [local irreducible] A8.f
def Jf:AQ:=⟨[(.row 73 (.int .u64))],[(.row 73 (.int .u64))],λk x=>(CD.f k x.1).map λr=>(r,())⟩
def Na (r:List Int):TT Jf.rs:=(r,())
@[reducible] def Pv:List Slot:= [.tmp 0 [.ty (.row 73 (.int .u64))], .tmp 3 [.own .mine 3 73 (.int .u64)], .tmp 4 [.ty (.int .i64)]]
def Wq (k:Nat) (x:TS Pv):Option (List Int):=CD.l0 k x.1.1 x.2.1.1 x.2.2.1.1
def tj:Bb (TT Jf.rs):=⟨⟨35,35,[]⟩,AE [(0,⟨Pv,λk x=>(Wq k x).map Na⟩)],AE [],AE []⟩
theorem Rv:Cl Tryz.prog 129 Jf :=
 AT (Bt:=AL []) (l:= [(188, .pu D4)]) (C:=tj) (by kernel_rfl) AI ⟨GX,trivial⟩ (fn:=Tryz.f129) (by kernel_rfl) rfl (by kernel_rfl) (by decide) (by kernel_rfl) (F:=λk x=>CD.f k x.1) (m:=Na) (λk x=>rfl)
  (by
   refine And.intro ?_ ?_
   ·refine Ap (sl:=Pv) (F:=Wq) (λx=>rfl) λk ⟨⟨(x0:List Int),_⟩,⟨(x3:List Int),_⟩,⟨(x4:Int),_⟩,_⟩=> ?_
    show AY Na (CD.l0 (k+1) x0 x3 x4) _;rw[CD.l0];exact go
   exact trivial)
  (λk ⟨(a0:List Int),_⟩=>by show AY Na (CD.f k a0) _;unfold CD.f;exact go)
end
section
attribute [local irreducible] Bn.f CD.f IY.f
def Hw:AQ:=⟨[(.row 73 (.int .u64)),(.row 73 (.int .u64))],[(.row 73 (.int .u64))],λk x=>(CB.f k x.1 x.2.1).map λr=>(r,())⟩
def Rw (r:List Int):TT Hw.rs:=(r,())
@[reducible] def Ui:List Slot:= [.tmp 5 [.ty (.row 73 (.int .u64))], .tmp 6 [.ty (.row 73 (.int .u64))], .tmp 7 [.own .mine 7 73 (.int .u64)], .tmp 8 [.ty (.int .u64)], .tmp 16 [.ty (.int .i64)], .tmp 17 [.ty (.int .i64)]]
def eB (k:Nat) (x:TS Ui):Option (List Int):=CB.l0 k x.1.1 x.2.1.1 x.2.2.1.1 x.2.2.2.1.1 x.2.2.2.2.1.1 x.2.2.2.2.2.1.1
def ABM:Bb (TT Hw.rs):=⟨⟨42,42,[]⟩,AE [(0,⟨Ui,λk x=>(eB k x).map Rw⟩)],AE [],AE []⟩
theorem Ln:Cl Tryz.prog 76 Hw :=
 AT (Bt:=AL [(7,[0,0,3,7,15,0,0,96,255,0,1023,2047])]) (l:= [(128, .pu IU),(129, .pu Jf),(130, .pu Qe)]) (C:=ABM) (by kernel_rfl) AI ⟨Pu,Rv,cB,trivial⟩ (fn:=Tryz.f76) (by kernel_rfl) rfl (by kernel_rfl) (by decide) (by kernel_rfl) (F:=λk x=>CB.f k x.1 x.2.1) (m:=Rw) (λk x=>rfl)
  (by
   refine And.intro ?_ ?_
   ·refine Ap (sl:=Ui) (F:=eB) (λx=>rfl) λk ⟨⟨(x5:List Int),_⟩,⟨(x6:List Int),_⟩,⟨(x7:List Int),_⟩,⟨(x8:Int),_⟩,⟨(x16:Int),_⟩,⟨(x17:Int),_⟩,_⟩=> ?_
    show AY Rw (CB.l0 (k+1) x5 x6 x7 x8 x16 x17) _;rw[CB.l0];exact go
   exact trivial)
  (λk ⟨(a0:List Int),(a1:List Int),_⟩=>by show AY Rw (CB.f k a0 a1) _;unfold CB.f;exact go)
end
section
attribute [local irreducible] A8.f
def Fu:AQ:=⟨[(.row 73 (.int .u64)), .int .i64],[(.row 73 (.int .u64))],λk x=>(Ac.f k x.1 x.2.1).map λr=>(r,())⟩
def JI (r:List Int):TT Fu.rs:=(r,())
@[reducible] def Uj:List Slot:= [.tmp 0 [.ty (.row 73 (.int .u64))], .tmp 1 [.ty (.int .i64)], .tmp 5 [.own .mine 5 73 (.int .u64)], .tmp 13 [.ty (.int .i64)], .tmp 14 [.ty (.int .i64)]]
def eC (k:Nat) (x:TS Uj):Option (List Int):=match x with | ⟨⟨(x0:List Int),_⟩,⟨(x1:Int),_⟩,⟨(x5:List Int),_⟩,⟨(Hf:Int),_⟩,⟨(cm:Int),_⟩,_⟩=>if 0<=x1/\x1<=65536 then Ac.l0 k x0 x1 x5 Hf cm else none
@[reducible] def Uk:List Slot:= [.tmp 0 [.ty (.row 73 (.int .u64))], .tmp 1 [.ty (.int .i64)], .tmp 5 [.own .mine 5 73 (.int .u64)], .tmp 21 [.ty (.int .i64)], .tmp 22 [.ty (.int .i64)]]
def eF (k:Nat) (x:TS Uk):Option (List Int):=match x with | ⟨⟨(x0:List Int),_⟩,⟨(x1:Int),_⟩,⟨(x5:List Int),_⟩,⟨(Sm:Int),_⟩,⟨(N2:Int),_⟩,_⟩=>if 0<=x1/\x1<=65536 then Ac.l1 k x0 x1 x5 Sm N2 else none
@[reducible] def Ul:List Slot:= [.tmp 5 [.own .mine 5 73 (.int .u64)], .tmp 7 [.ty (.int .u64)], .tmp 8 [.ty (.int .i64)]]
def eG (k:Nat) (x:TS Ul):Option (List Int):=match x with | ⟨⟨(x5:List Int),_⟩,⟨(x7:Int),_⟩,⟨(x8:Int),_⟩,_⟩=>if 0<=x7/\x7<64 then Ac.l2 k x5 x7 x8 else none
def ABN:Bb (TT Fu.rs):=⟨⟨78,78,[]⟩,AE [(0,⟨Uj,λk x=>(eC k x).map JI⟩),(1,⟨Uk,λk x=>(eF k x).map JI⟩),(2,⟨Ul,λk x=>(eG k x).map JI⟩)],AE [],AE []⟩
theorem JB:Cl Tryz.prog 157 Fu :=
 AT (Bt:=AL [(19,[0,0,0,0,12,28,0,124,0,0,512,1792,3840,0,8192,32512,65532,131071,262143])]) (l:= [(188, .pu D4)]) (C:=ABN) (by kernel_rfl) AI ⟨GX,trivial⟩ (fn:=Tryz.f157) (by kernel_rfl) rfl (by kernel_rfl) (by decide) (by kernel_rfl) (F:=λk x=>Ac.f k x.1 x.2.1) (m:=JI) (λk x=>rfl)
  (by
   refine And.intro ?_ ?_
   ·refine Ap (sl:=Uj) (F:=eC) (λ⟨⟨(x0:List Int),_⟩,⟨(x1:Int),_⟩,⟨(x5:List Int),_⟩,⟨(Hf:Int),_⟩,⟨(cm:Int),_⟩,_⟩=>by show(if 0<=x1/\x1<=65536 then Ac.l0 0 x0 x1 x5 Hf cm else none)=none;split<;>rfl) λk ⟨⟨(x0:List Int),_⟩,⟨(x1:Int),_⟩,⟨(x5:List Int),_⟩,⟨(Hf:Int),_⟩,⟨(cm:Int),_⟩,_⟩=> ?_
    show AY JI (if 0<=x1/\x1<=65536 then Ac.l0 (k+1) x0 x1 x5 Hf cm else none) _;rw[Ac.l0];exact go
   refine And.intro ?_ ?_
   ·refine Ap (sl:=Uk) (F:=eF) (λ⟨⟨(x0:List Int),_⟩,⟨(x1:Int),_⟩,⟨(x5:List Int),_⟩,⟨(Sm:Int),_⟩,⟨(N2:Int),_⟩,_⟩=>by show(if 0<=x1/\x1<=65536 then Ac.l1 0 x0 x1 x5 Sm N2 else none)=none;split<;>rfl) λk ⟨⟨(x0:List Int),_⟩,⟨(x1:Int),_⟩,⟨(x5:List Int),_⟩,⟨(Sm:Int),_⟩,⟨(N2:Int),_⟩,_⟩=> ?_
    show AY JI (if 0<=x1/\x1<=65536 then Ac.l1 (k+1) x0 x1 x5 Sm N2 else none) _;rw[Ac.l1];exact go
   refine And.intro ?_ ?_
   ·refine Ap (sl:=Ul) (F:=eG) (λ⟨⟨(x5:List Int),_⟩,⟨(x7:Int),_⟩,⟨(x8:Int),_⟩,_⟩=>by show(if 0<=x7/\x7<64 then Ac.l2 0 x5 x7 x8 else none)=none;split<;>rfl) λk ⟨⟨(x5:List Int),_⟩,⟨(x7:Int),_⟩,⟨(x8:Int),_⟩,_⟩=> ?_
    show AY JI (if 0<=x7/\x7<64 then Ac.l2 (k+1) x5 x7 x8 else none) _;rw[Ac.l2];exact go
   exact trivial)
  (λk ⟨(a0:List Int),(a1:Int),_⟩=>by show AY JI (Ac.f k a0 a1) _;unfold Ac.f;exact go)
end
section
def OJ:AQ:=⟨[(.row 73 (.int .u64)), .int .i64],[.bool],λ_ x=>(G4.f x.1 x.2.1).map λr=>(r,())⟩
def lW (r:Bool):TT OJ.rs:=(r,())
theorem Xs:Cl Tryz.prog 227 OJ :=
 AT (Bt:=AL []) (l:= []) (C:=AZ) (by kernel_rfl) AI trivial (fn:=Tryz.f227) (by kernel_rfl) rfl (by kernel_rfl) (by decide) (by kernel_rfl) (F:=λk x=>G4.f x.1 x.2.1) (m:=lW) (λk x=>rfl)
  (by exact trivial)
  (λk ⟨(a0:List Int),(a1:Int),_⟩=>by show AY lW (G4.f a0 a1) _;unfold G4.f;exact go)
end
section
attribute [local irreducible] Be.f G4.f
def PD:AQ:=⟨[(.row 73 (.int .u64))],[.int .i64],λk x=>(Cb.f k x.1).map λr=>(r,())⟩
def PE (r:Int):TT PD.rs:=(r,())
@[reducible] def Rx:List Slot:= [.tmp 0 [.ty (.row 73 (.int .u64))], .tmp 3 [.ty (.int .i64)]]
def Ze (k:Nat) (x:TS Rx):Option (Int):=Cb.l0 k x.1.1 x.2.1.1
def ya:Bb (TT PD.rs):=⟨⟨14,14,[]⟩,AE [(0,⟨Rx,λk x=>(Ze k x).map PE⟩)],AE [],AE []⟩
theorem yc:Cl Tryz.prog 189 PD :=
 AT (Bt:=AL []) (l:= [(126, .pu FU),(227, .pu OJ)]) (C:=ya) (by kernel_rfl) AI ⟨JH,Xs,trivial⟩ (fn:=Tryz.f189) (by kernel_rfl) rfl (by kernel_rfl) (by decide) (by kernel_rfl) (F:=λk x=>Cb.f k x.1) (m:=PE) (λk x=>rfl)
  (by
   refine And.intro ?_ ?_
   ·refine Ap (sl:=Rx) (F:=Ze) (λx=>rfl) λk ⟨⟨(x0:List Int),_⟩,⟨(x3:Int),_⟩,_⟩=> ?_
    show AY PE (Cb.l0 (k+1) x0 x3) _;rw[Cb.l0];exact go
   exact trivial)
  (λk ⟨(a0:List Int),_⟩=>by show AY PE (Cb.f k a0) _;unfold Cb.f;exact go)
end
section
attribute [local irreducible] A8.f
def KM:AQ:=⟨[(.row 73 (.int .u64)), .int .i64],[(.row 73 (.int .u64))],λk x=>(BG.f k x.1 x.2.1).map λr=>(r,())⟩
def Lr (r:List Int):TT KM.rs:=(r,())
@[reducible] def Um:List Slot:= [.tmp 0 [.ty (.row 73 (.int .u64))], .tmp 1 [.ty (.int .i64)], .tmp 5 [.own .mine 5 73 (.int .u64)], .tmp 6 [.ty (.int .i64)]]
def eH (k:Nat) (x:TS Um):Option (List Int):=match x with | ⟨⟨(x0:List Int),_⟩,⟨(x1:Int),_⟩,⟨(x5:List Int),_⟩,⟨(x6:Int),_⟩,_⟩=>if 0<=x1 then BG.l0 k x0 x1 x5 x6 else none
@[reducible] def Uo:List Slot:= [.tmp 5 [.own .mine 5 73 (.int .u64)], .tmp 7 [.ty (.int .u64)], .tmp 35 [.ty (.int .i64)], .tmp 36 [.ty (.int .i64)]]
def eI (k:Nat) (x:TS Uo):Option (List Int):=match x with | ⟨⟨(x5:List Int),_⟩,⟨(x7:Int),_⟩,⟨(x35:Int),_⟩,⟨(uS:Int),_⟩,_⟩=>if 0<=x7/\x7<64 then BG.l1 k x5 x7 x35 uS else none
def ABO:Bb (TT KM.rs):=⟨⟨72,72,[]⟩,AE [(0,⟨Um,λk x=>(eH k x).map Lr⟩),(1,⟨Uo,λk x=>(eI k x).map Lr⟩)],AE [],AE []⟩
theorem RX:Cl Tryz.prog 190 KM :=
 AT (Bt:=AL [(15,[0,0,0,0,12,28,0,0,128,448,960,0,2048,8128,16380,32767,65535])]) (l:= [(188, .pu D4)]) (C:=ABO) (by kernel_rfl) AI ⟨GX,trivial⟩ (fn:=Tryz.f190) (by kernel_rfl) rfl (by kernel_rfl) (by decide) (by kernel_rfl) (F:=λk x=>BG.f k x.1 x.2.1) (m:=Lr) (λk x=>rfl)
  (by
   refine And.intro ?_ ?_
   ·refine Ap (sl:=Um) (F:=eH) (λ⟨⟨(x0:List Int),_⟩,⟨(x1:Int),_⟩,⟨(x5:List Int),_⟩,⟨(x6:Int),_⟩,_⟩=>by show(if 0<=x1 then BG.l0 0 x0 x1 x5 x6 else none)=none;split<;>rfl) λk ⟨⟨(x0:List Int),_⟩,⟨(x1:Int),_⟩,⟨(x5:List Int),_⟩,⟨(x6:Int),_⟩,_⟩=> ?_
    show AY Lr (if 0<=x1 then BG.l0 (k+1) x0 x1 x5 x6 else none) _;rw[BG.l0];exact go
   refine And.intro ?_ ?_
   ·refine Ap (sl:=Uo) (F:=eI) (λ⟨⟨(x5:List Int),_⟩,⟨(x7:Int),_⟩,⟨(x35:Int),_⟩,⟨(uS:Int),_⟩,_⟩=>by show(if 0<=x7/\x7<64 then BG.l1 0 x5 x7 x35 uS else none)=none;split<;>rfl) λk ⟨⟨(x5:List Int),_⟩,⟨(x7:Int),_⟩,⟨(x35:Int),_⟩,⟨(uS:Int),_⟩,_⟩=> ?_
    show AY Lr (if 0<=x7/\x7<64 then BG.l1 (k+1) x5 x7 x35 uS else none) _;rw[BG.l1];exact go
   exact trivial)
  (λk ⟨(a0:List Int),(a1:Int),_⟩=>by show AY Lr (BG.f k a0 a1) _;unfold BG.f;exact go)
end
section
attribute [local irreducible] Bx.f CB.f Be.f Ac.f A8.f Cb.f BG.f
def Ry:AQ:=⟨[(.row 73 (.int .u64)),(.row 73 (.int .u64))],[(.row 73 (.int .u64))],λk x=>(Bo.f k x.1 x.2.1).map λr=>(r,())⟩
def JJ (r:List Int):TT Ry.rs:=(r,())
@[reducible] def Up:List Slot:= [.tmp 0 [.ty (.row 73 (.int .u64))], .tmp 1 [.ty (.row 73 (.int .u64))], .tmp 28 [.ty .bool]]
def eJ (k:Nat) (x:TS Up):Option (List Int):=Bo.j0 k x.1.1 x.2.1.1 x.2.2.1.1
@[reducible] def Uq:List Slot:= [.tmp 5 [.ty (.int .u64)], .tmp 6 [.ty (.int .u64)]]
def eK (k:Nat) (x:TS Uq):Option (List Int):=Bo.l0 k x.1.1 x.2.1.1
@[reducible] def Ur:List Slot:= [.tmp 7 [.ty (.int .i64)], .tmp 8 [.ty (.row 73 (.int .u64))], .tmp 9 [.ty (.row 73 (.int .u64))]]
def eL (k:Nat) (x:TS Ur):Option (List Int):=Bo.l1 k x.1.1 x.2.1.1 x.2.2.1.1
def ABP:Bb (TT Ry.rs):=⟨⟨75,75,[]⟩,AE [(0,⟨Uq,λk x=>(eK k x).map JJ⟩),(1,⟨Ur,λk x=>(eL k x).map JJ⟩)],AE [],AE [(5,⟨Up,λk x=>(eJ k x).map JJ⟩)]⟩
theorem ABQ:Cl Tryz.prog 120 Ry :=
 AT (Bt:=AL [(6,[0,1,3,0,8,24,7,127]),(8,[0,0,0,6,3,31])]) (l:= [(75, .pu E3),(76, .pu Hw),(126, .pu FU),(157, .pu Fu),(188, .pu D4),(189, .pu PD),(190, .pu KM)]) (C:=ABP) (by kernel_rfl) AI ⟨Hv,Ln,JH,JB,GX,yc,RX,trivial⟩ (fn:=Tryz.f120) (by kernel_rfl) rfl (by kernel_rfl) (by decide) (by kernel_rfl) (F:=λk x=>Bo.f k x.1 x.2.1) (m:=JJ) (λk x=>rfl)
  (by
   refine And.intro ?_ ?_
   ·refine Al (sl:=Up) (F:=eJ) (λx=>rfl) λk ⟨⟨(x0:List Int),_⟩,⟨(x1:List Int),_⟩,⟨(x28:Bool),_⟩,_⟩=> ?_
    show AY JJ (Bo.j0 (k+1) x0 x1 x28) _;rw[Bo.j0];exact go
   refine And.intro ?_ ?_
   ·refine Ap (sl:=Uq) (F:=eK) (λx=>rfl) λk ⟨⟨(x5:Int),_⟩,⟨(x6:Int),_⟩,_⟩=> ?_
    show AY JJ (Bo.l0 (k+1) x5 x6) _;rw[Bo.l0];exact go
   refine And.intro ?_ ?_
   ·refine Ap (sl:=Ur) (F:=eL) (λx=>rfl) λk ⟨⟨(x7:Int),_⟩,⟨(x8:List Int),_⟩,⟨(x9:List Int),_⟩,_⟩=> ?_
    show AY JJ (Bo.l1 (k+1) x7 x8 x9) _;rw[Bo.l1];exact go
   exact trivial)
  (λk ⟨(a0:List Int),(a1:List Int),_⟩=>by show AY JJ (Bo.f k a0 a1) _;unfold Bo.f;exact go)
end
section
def Rz:AQ:=⟨[.int .u64],[.int .i64],λk x=>(FD.f k x.1).map λr=>(r,())⟩
def R0 (r:Int):TT Rz.rs:=(r,())
@[reducible] def Us:List Slot:= [.tmp 0 [.ty (.int .u64)], .tmp 3 [.ty (.int .i64)]]
def eN (k:Nat) (x:TS Us):Option (Int):=FD.l0 k x.1.1 x.2.1.1
def ABR:Bb (TT Rz.rs):=⟨⟨11,11,[]⟩,AE [(0,⟨Us,λk x=>(eN k x).map R0⟩)],AE [],AE []⟩
theorem ABS:Cl Tryz.prog 191 Rz :=
 AT (Bt:=AL []) (l:= []) (C:=ABR) (by kernel_rfl) AI trivial (fn:=Tryz.f191) (by kernel_rfl) rfl (by kernel_rfl) (by decide) (by kernel_rfl) (F:=λk x=>FD.f k x.1) (m:=R0) (λk x=>rfl)
  (by
   refine And.intro ?_ ?_
   ·refine Ap (sl:=Us) (F:=eN) (λx=>rfl) λk ⟨⟨(x0:Int),_⟩,⟨(x3:Int),_⟩,_⟩=> ?_
    show AY R0 (FD.l0 (k+1) x0 x3) _;rw[FD.l0];exact go
   exact trivial)
  (λk ⟨(a0:Int),_⟩=>by show AY R0 (FD.f k a0) _;unfold FD.f;exact go)
end
section
attribute [local irreducible] Be.f FD.f
def JA:AQ:=⟨[(.row 73 (.int .u64))],[.int .i64],λk x=>(Df.f k x.1).map λr=>(r,())⟩
def eO (r:Int):TT JA.rs:=(r,())
theorem MU:Cl Tryz.prog 124 JA :=
 AT (Bt:=AL []) (l:= [(126, .pu FU),(191, .pu Rz)]) (C:=AZ) (by kernel_rfl) AI ⟨JH,ABS,trivial⟩ (fn:=Tryz.f124) (by kernel_rfl) rfl (by kernel_rfl) (by decide) (by kernel_rfl) (F:=λk x=>Df.f k x.1) (m:=eO) (λk x=>rfl)
  (by exact trivial)
  (λk ⟨(a0:List Int),_⟩=>by show AY eO (Df.f k a0) _;unfold Df.f;exact go)
end
section
def OB:AQ:=⟨[(.row 73 (.int .u64)), .int .i64],[(.row 73 (.int .u64))],λk x=>(Cc.f k x.1 x.2.1).map λr=>(r,())⟩
def R4 (r:List Int):TT OB.rs:=(r,())
@[reducible] def Ut:List Slot:= [.tmp 0 [.ty (.row 73 (.int .u64))], .tmp 1 [.ty (.int .i64)], .tmp 5 [.own .mine 5 73 (.int .u64)], .tmp 13 [.ty (.int .i64)], .tmp 14 [.ty (.int .i64)]]
def eR (k:Nat) (x:TS Ut):Option (List Int):=Cc.l0 k x.1.1 x.2.1.1 x.2.2.1.1 x.2.2.2.1.1 x.2.2.2.2.1.1
def ABT:Bb (TT OB.rs):=⟨⟨41,41,[]⟩,AE [(0,⟨Ut,λk x=>(eR k x).map R4⟩)],AE [],AE []⟩
theorem k9:Cl Tryz.prog 228 OB :=
 AT (Bt:=AL []) (l:= []) (C:=ABT) (by kernel_rfl) AI trivial (fn:=Tryz.f228) (by kernel_rfl) rfl (by kernel_rfl) (by decide) (by kernel_rfl) (F:=λk x=>Cc.f k x.1 x.2.1) (m:=R4) (λk x=>rfl)
  (by
   refine And.intro ?_ ?_
   ·refine Ap (sl:=Ut) (F:=eR) (λx=>rfl) λk ⟨⟨(x0:List Int),_⟩,⟨(x1:Int),_⟩,⟨(x5:List Int),_⟩,⟨(Hf:Int),_⟩,⟨(cm:Int),_⟩,_⟩=> ?_
    show AY R4 (Cc.l0 (k+1) x0 x1 x5 Hf cm) _;rw[Cc.l0];exact go
   exact trivial)
  (λk ⟨(a0:List Int),(a1:Int),_⟩=>by show AY R4 (Cc.f k a0 a1) _;unfold Cc.f;exact go)
end
section
attribute [local irreducible] Bx.f CB.f Df.f Be.f Ac.f A8.f BG.f G4.f Cc.f
def OK:AQ:=⟨[(.row 73 (.int .u64)),(.row 73 (.int .u64))],[(.row 73 (.int .u64)),(.row 73 (.int .u64))],λk x=>(Bg.f k x.1 x.2.1).map λr=>(r.1,r.2,())⟩
def JK (r:List Int × List Int):TT OK.rs:=(r.1,r.2,())
@[reducible] def Uu:List Slot:= [.tmp 0 [.ty (.row 73 (.int .u64))], .tmp 1 [.ty (.row 73 (.int .u64))], .tmp 6 [.ty (.row 73 (.int .u64))], .tmp 18 [.ty .bool]]
def eS (k:Nat) (x:TS Uu):Option (List Int × List Int):=Bg.j0 k x.1.1 x.2.1.1 x.2.2.1.1 x.2.2.2.1.1
@[reducible] def Uv:List Slot:= [.tmp 0 [.ty (.row 73 (.int .u64))], .tmp 1 [.ty (.row 73 (.int .u64))], .tmp 6 [.ty (.row 73 (.int .u64))], .tmp 7 [.ty (.row 73 (.int .u64))], .tmp 10 [.ty (.int .i64)]]
def eT (k:Nat) (x:TS Uv):Option (List Int × List Int):=Bg.l0 k x.1.1 x.2.1.1 x.2.2.1.1 x.2.2.2.1.1 x.2.2.2.2.1.1
@[reducible] def Uw:List Slot:= [.tmp 0 [.ty (.row 73 (.int .u64))], .tmp 1 [.ty (.row 73 (.int .u64))], .tmp 6 [.ty (.row 73 (.int .u64))], .tmp 7 [.ty (.row 73 (.int .u64))], .tmp 10 [.ty (.int .i64)]]
def eV (k:Nat) (x:TS Uw):Option (List Int × List Int):=Bg.j2 k x.1.1 x.2.1.1 x.2.2.1.1 x.2.2.2.1.1 x.2.2.2.2.1.1
def ABU:Bb (TT OK.rs):=⟨⟨75,75,[]⟩,AE [(0,⟨Uv,λk x=>(eT k x).map JK⟩)],AE [(13,⟨Uw,λk x=>(eV k x).map JK⟩)],AE [(2,⟨Uu,λk x=>(eS k x).map JK⟩)]⟩
theorem lf:Cl Tryz.prog 156 OK :=
 AT (Bt:=AL [(3,[0,1,3,0,8,24,63,127,255,0,512,1536,0,4096,12288,32256,65024,131071,262143,524287])]) (l:= [(75, .pu E3),(76, .pu Hw),(124, .pu JA),(126, .pu FU),(157, .pu Fu),(188, .pu D4),(190, .pu KM),(227, .pu OJ),(228, .pu OB)]) (C:=ABU) (by kernel_rfl) AI ⟨Hv,Ln,MU,JH,JB,GX,RX,Xs,k9,trivial⟩ (fn:=Tryz.f156) (by kernel_rfl) rfl (by kernel_rfl) (by decide) (by kernel_rfl) (F:=λk x=>Bg.f k x.1 x.2.1) (m:=JK) (λk x=>rfl)
  (by
   refine And.intro ?_ ?_
   ·refine Al (sl:=Uu) (F:=eS) (λx=>rfl) λk ⟨⟨(x0:List Int),_⟩,⟨(x1:List Int),_⟩,⟨(x6:List Int),_⟩,⟨(x18:Bool),_⟩,_⟩=> ?_
    show AY JK (Bg.j0 (k+1) x0 x1 x6 x18) _;rw[Bg.j0];exact go
   refine And.intro ?_ ?_
   ·refine Ap (sl:=Uv) (F:=eT) (λx=>rfl) λk ⟨⟨(x0:List Int),_⟩,⟨(x1:List Int),_⟩,⟨(x6:List Int),_⟩,⟨(x7:List Int),_⟩,⟨(Jl:Int),_⟩,_⟩=> ?_
    show AY JK (Bg.l0 (k+1) x0 x1 x6 x7 Jl) _;rw[Bg.l0];exact go
   refine And.intro ?_ ?_
   ·refine Al (sl:=Uw) (F:=eV) (λx=>rfl) λk ⟨⟨(x0:List Int),_⟩,⟨(x1:List Int),_⟩,⟨(x6:List Int),_⟩,⟨(x7:List Int),_⟩,⟨(Jl:Int),_⟩,_⟩=> ?_
    show AY JK (Bg.j2 (k+1) x0 x1 x6 x7 Jl) _;rw[Bg.j2];exact go
   exact trivial)
  (λk ⟨(a0:List Int),(a1:List Int),_⟩=>by show AY JK (Bg.f k a0 a1) _;unfold Bg.f;exact go)
end
section
attribute [local irreducible] Bx.f Be.f Bg.f A8.f
def Ux:AQ:=⟨[(.row 73 (.int .u64)),(.row 73 (.int .u64))],[(.row 73 (.int .u64))],λk x=>(KX.f k x.1 x.2.1).map λr=>(r,())⟩
def eW (r:List Int):TT Ux.rs:=(r,())
theorem yd:Cl Tryz.prog 127 Ux :=
 AT (Bt:=AL []) (l:= [(75, .pu E3),(126, .pu FU),(156, .pu OK),(188, .pu D4)]) (C:=AZ) (by kernel_rfl) AI ⟨Hv,JH,lf,GX,trivial⟩ (fn:=Tryz.f127) (by kernel_rfl) rfl (by kernel_rfl) (by decide) (by kernel_rfl) (F:=λk x=>KX.f k x.1 x.2.1) (m:=eW) (λk x=>rfl)
  (by exact trivial)
  (λk ⟨(a0:List Int),(a1:List Int),_⟩=>by show AY eW (KX.f k a0 a1) _;unfold KX.f;exact go)
end
section
attribute [local irreducible] Bo.f Be.f KX.f
def JD:AQ:=⟨[.bool,(.row 73 (.int .u64)),(.row 73 (.int .u64))],[(.cons .bool (.cons (.row 73 (.int .u64)) (.row 73 (.int .u64))))],λk x=>(Cw.f k x.1 x.2.1 x.2.2.1).map λr=>((r.1,r.2.1,r.2.2),())⟩
def eY (r:Bool × List Int × List Int):TT JD.rs:=((r.1,r.2.1,r.2.2),())
theorem MV:Cl Tryz.prog 72 JD :=
 AT (Bt:=AL []) (l:= [(120, .pu Ry),(126, .pu FU),(127, .pu Ux)]) (C:=AZ) (by kernel_rfl) AI ⟨ABQ,JH,yd,trivial⟩ (fn:=Tryz.f72) (by kernel_rfl) rfl (by kernel_rfl) (by decide) (by kernel_rfl) (F:=λk x=>Cw.f k x.1 x.2.1 x.2.2.1) (m:=eY) (λk x=>rfl)
  (by exact trivial)
  (λk ⟨(a0:Bool),(a1:List Int),(a2:List Int),_⟩=>by show AY eY (Cw.f k a0 a1 a2) _;unfold Cw.f;exact go)
end
section
attribute [local irreducible] Cw.f
def QW:AQ:=⟨[.int .i64],[(.cons .bool (.cons (.row 73 (.int .u64)) (.row 73 (.int .u64))))],λk x=>(KE.f k x.1).map λr=>((r.1,r.2.1,r.2.2),())⟩
def pT (r:Bool × List Int × List Int):TT QW.rs:=((r.1,r.2.1,r.2.2),())
theorem bf:Cl Tryz.prog 22 QW :=
 AT (Bt:=AL []) (l:= [(72, .pu JD)]) (C:=AZ) (by kernel_rfl) AI ⟨MV,trivial⟩ (fn:=Tryz.f22) (by kernel_rfl) rfl (by kernel_rfl) (by decide) (by kernel_rfl) (F:=λk x=>KE.f k x.1) (m:=pT) (λk x=>rfl)
  (by exact trivial)
  (λk ⟨(a0:Int),_⟩=>by show AY pT (KE.f k a0) _;unfold KE.f;exact go)
end
section
def Nb:AQ:=⟨[(.row 73 (.int .u64)),(.row 73 (.int .u64))],[.bool],λk x=>(Cy.f k x.1 x.2.1).map λr=>(r,())⟩
def Nc (r:Bool):TT Nb.rs:=(r,())
@[reducible] def Px:List Slot:= [.tmp 0 [.ty (.row 73 (.int .u64))], .tmp 1 [.ty (.row 73 (.int .u64))], .tmp 12 [.ty (.int .i64)], .tmp 13 [.ty (.int .i64)]]
def Wr (k:Nat) (x:TS Px):Option (Bool):=Cy.l0 k x.1.1 x.2.1.1 x.2.2.1.1 x.2.2.2.1.1
def tq:Bb (TT Nb.rs):=⟨⟨26,26,[]⟩,AE [(0,⟨Px,λk x=>(Wr k x).map Nc⟩)],AE [],AE []⟩
theorem tr:Cl Tryz.prog 95 Nb :=
 AT (Bt:=AL [(6,[0,0,3,7,0,0,48,112,255])]) (l:= []) (C:=tq) (by kernel_rfl) AI trivial (fn:=Tryz.f95) (by kernel_rfl) rfl (by kernel_rfl) (by decide) (by kernel_rfl) (F:=λk x=>Cy.f k x.1 x.2.1) (m:=Nc) (λk x=>rfl)
  (by
   refine And.intro ?_ ?_
   ·refine Ap (sl:=Px) (F:=Wr) (λx=>rfl) λk ⟨⟨(x0:List Int),_⟩,⟨(x1:List Int),_⟩,⟨(aW:Int),_⟩,⟨(Hf:Int),_⟩,_⟩=> ?_
    show AY Nc (Cy.l0 (k+1) x0 x1 aW Hf) _;rw[Cy.l0];exact go
   exact trivial)
  (λk ⟨(a0:List Int),(a1:List Int),_⟩=>by show AY Nc (Cy.f k a0 a1) _;unfold Cy.f;exact go)
end
section
attribute [local irreducible] Cy.f
def O8:AQ:=⟨[(.cons .bool (.cons (.row 73 (.int .u64)) (.row 73 (.int .u64)))),(.cons .bool (.cons (.row 73 (.int .u64)) (.row 73 (.int .u64))))],[.bool],λk x=>(JW.f k x.1.1 x.1.2.1 x.1.2.2 x.2.1.1 x.2.1.2.1 x.2.1.2.2).map λr=>(r,())⟩
def eZ (r:Bool):TT O8.rs:=(r,())
theorem dr:Cl Tryz.prog 37 O8 :=
 AT (Bt:=AL []) (l:= [(95, .pu Nb)]) (C:=AZ) (by kernel_rfl) AI ⟨tr,trivial⟩ (fn:=Tryz.f37) (by kernel_rfl) rfl (by kernel_rfl) (by decide) (by kernel_rfl) (F:=λk x=>JW.f k x.1.1 x.1.2.1 x.1.2.2 x.2.1.1 x.2.1.2.1 x.2.1.2.2) (m:=eZ) (λk x=>rfl)
  (by exact trivial)
  (λk ⟨(a0:Bool × List Int × List Int),(a1:Bool × List Int × List Int),_⟩=>by show AY eZ (JW.f k a0.1 a0.2.1 a0.2.2 a1.1 a1.2.1 a1.2.2) _;unfold JW.f;exact go)
end
section
attribute [local irreducible] KE.f JW.f J1.f FL.f Ax.f DW.f EM.f CR.f Dm.f
def Js:AQ:=⟨[],[.bool],λk _=>(At.f k).map λr=>(r,())⟩
def NJ (r:Bool):TT Js.rs:=(r,())
theorem WB:Cl Tryz.prog 39 Js :=
 AEz (mm:=77) (Bt:=AL [(8,[0,1,0,7,15,31,63,127,255,511,1023,2047,4095,8191,16383,32767,65535,131071,262143,524287,1048575,2097151,4194303,8388607,16777215,33554431,67108863,134217727,268435455,536870911,1073741823,2147483647,4294967295,8589934591,17179869183,34359738367])]) (l:= [(22, .pu QW),(37, .pu O8),(38, .np RL),(45, .io Ez [(34,75)]),(50, .io DM [(27,73)]),(96, .io E7 [(11,63)]),(97, .io E8 [(15,65)]),(98, .io E5 [(18,67),(21,69)]),(99, .io E6 [(25,71)])]) (C:=AZ) (by kernel_rfl) AI ⟨bf,dr,ku,Ss,M9,S6,TA,Sv,Sz,trivial⟩ (fn:=Tryz.f39) (by kernel_rfl) rfl (by kernel_rfl) (by decide) (by kernel_rfl) (F:=λk x=>At.f k) (m:=NJ) (λk x=>rfl)
  (by exact trivial)
  (λk x=>by show AY NJ (At.f k) _;unfold At.f;exact go)
end
section
attribute [local irreducible] EM.f Dm.f II.f IJ.f IE.f G3.f IF.f IG.f
def D0:DU:=⟨[.st 135 [.ty (.int .i64), .ty (.int .i64), .row false 93 (.cons (.int .i64) (.cons (.int .i64) (.cons (.int .i64) (.cons .bool (.cons (.row 73 (.int .u64)) (.row 73 (.int .u64))))))), .ty (.row 4 .bool), .row false 4 .bool, .ty (.int .i64), .ty (.int .i64), .ty .bool, .ty (.int .i64)], .ty (.int .i64), .ty (.cons (.cons .bool (.cons (.row 73 (.int .u64)) (.row 73 (.int .u64)))) (.cons (.int .u64) (.int .i64))), .ty (.cons (.cons .bool (.cons (.row 73 (.int .u64)) (.row 73 (.int .u64)))) (.cons (.int .u64) (.int .i64)))],[(.cons (.cons .bool (.cons (.row 73 (.int .u64)) (.row 73 (.int .u64)))) (.cons (.int .u64) (.int .i64)))],λk x=>(DQ.f k x.1.1 x.1.2.1 x.1.2.2.1 x.1.2.2.2.1 x.1.2.2.2.2.1 x.1.2.2.2.2.2.1 x.1.2.2.2.2.2.2.1 x.1.2.2.2.2.2.2.2.1 x.1.2.2.2.2.2.2.2.2.1 x.2.1 x.2.2.1.1.1 x.2.2.1.1.2.1 x.2.2.1.1.2.2 x.2.2.1.2.1 x.2.2.1.2.2 x.2.2.2.1.1.1 x.2.2.2.1.1.2.1 x.2.2.2.1.1.2.2 x.2.2.2.1.2.1 x.2.2.2.1.2.2).map λr=>((((r.1,(r.2.1,r.2.2.1)),(r.2.2.2.1,r.2.2.2.2.1)),()),((r.2.2.2.2.2.1,r.2.2.2.2.2.2.1,r.2.2.2.2.2.2.2.1,r.2.2.2.2.2.2.2.2.1,r.2.2.2.2.2.2.2.2.2.1,r.2.2.2.2.2.2.2.2.2.2.1,r.2.2.2.2.2.2.2.2.2.2.2.1,r.2.2.2.2.2.2.2.2.2.2.2.2.1,r.2.2.2.2.2.2.2.2.2.2.2.2.2,()),()))⟩
def NK (r:Bool × List Int × List Int × Int × Int × Int × Int × List (Int × Int × Int × Bool × (List Int) × List Int) × List Bool × List Bool × Int × Int × Bool × Int):TT D0.rs × ET D0.ps:=((((r.1,(r.2.1,r.2.2.1)),(r.2.2.2.1,r.2.2.2.2.1)),()),((r.2.2.2.2.2.1,r.2.2.2.2.2.2.1,r.2.2.2.2.2.2.2.1,r.2.2.2.2.2.2.2.2.1,r.2.2.2.2.2.2.2.2.2.1,r.2.2.2.2.2.2.2.2.2.2.1,r.2.2.2.2.2.2.2.2.2.2.2.1,r.2.2.2.2.2.2.2.2.2.2.2.2.1,r.2.2.2.2.2.2.2.2.2.2.2.2.2,()),()))
def WJ:Bb (TT D0.rs × ET D0.ps):=⟨⟨51,70,[51]⟩,AE [],AE [],AE []⟩
theorem WL:Qx Tryz.prog 100 D0 :=
 D7 (Bt:=AL []) (l:= [(97, .io E8 [(19,56)]),(99, .io E6 [(31,60)]),(172, .io F9 [(13,54)]),(173, .io GC [(25,58)]),(174, .io GD [(37,62)]),(175, .io Fh [(42,64)]),(176, .io GF [(47,66)]),(177, .io F8 [(50,68)])]) (C:=WJ) (by kernel_rfl) AI ⟨TA,Sz,gO,gS,gU,cA,gV,gK,trivial⟩ (fn:=Tryz.f100) (by kernel_rfl) rfl (by kernel_rfl) (by decide) (by kernel_rfl) (m:=70) (by decide) (by decide) (F:=λk x=>DQ.f k x.1.1 x.1.2.1 x.1.2.2.1 x.1.2.2.2.1 x.1.2.2.2.2.1 x.1.2.2.2.2.2.1 x.1.2.2.2.2.2.2.1 x.1.2.2.2.2.2.2.2.1 x.1.2.2.2.2.2.2.2.2.1 x.2.1 x.2.2.1.1.1 x.2.2.1.1.2.1 x.2.2.1.1.2.2 x.2.2.1.2.1 x.2.2.1.2.2 x.2.2.2.1.1.1 x.2.2.2.1.1.2.1 x.2.2.2.1.1.2.2 x.2.2.2.1.2.1 x.2.2.2.1.2.2) (q:=NK) (λk x=>rfl)
  (by exact trivial)
  (λk ⟨⟨Ab,Ae,Af,Ah,Ai,BH,BK,BL,BJ,_⟩,(a1:Int),(a2:(Bool × (List Int) × List Int) × Int × Int),(a3:(Bool × (List Int) × List Int) × Int × Int),_⟩=>by show AY NK (DQ.f k Ab Ae Af Ah Ai BH BK BL BJ a1 a2.1.1 a2.1.2.1 a2.1.2.2 a2.2.1 a2.2.2 a3.1.1 a3.1.2.1 a3.1.2.2 a3.2.1 a3.2.2) _;unfold DQ.f;exact go)
end
section
def Cd:DU:=⟨[.st 70 [.row true 137 (.cons (.cons .bool (.cons (.row 73 (.int .u64)) (.row 73 (.int .u64)))) (.cons (.int .u64) (.int .i64))), .row true 4 .bool], .ty (.int .i64)],[(.cons (.cons .bool (.cons (.row 73 (.int .u64)) (.row 73 (.int .u64)))) (.cons (.int .u64) (.int .i64)))],λk x=>(AU.f k x.1.1 x.1.2.1 x.2.1).map λr=>((((r.1,(r.2.1,r.2.2.1)),(r.2.2.2.1,r.2.2.2.2.1)),()),((r.2.2.2.2.2.1,r.2.2.2.2.2.2,()),()))⟩
def Ep (r:Bool × List Int × List Int × Int × Int × List ((Bool × (List Int) × List Int) × Int × Int) × List Bool):TT Cd.rs × ET Cd.ps:=((((r.1,(r.2.1,r.2.2.1)),(r.2.2.2.1,r.2.2.2.2.1)),()),((r.2.2.2.2.2.1,r.2.2.2.2.2.2,()),()))
@[reducible] def Gp:List Slot:= [.tmp 4 [.ptr 4 0], .DO 4 .mine 137 [.ty .bool, .own .mine 33 73 (.int .u64), .own .mine 34 73 (.int .u64), .ty (.int .u64), .ty (.int .i64)], .DO 30 .kept 70 [.own .kept 31 137 (.cons (.cons .bool (.cons (.row 73 (.int .u64)) (.row 73 (.int .u64)))) (.cons (.int .u64) (.int .i64))), .own .kept 32 4 .bool]]
def KC (k:Nat) (x:TS Gp):Option (Bool × List Int × List Int × Int × Int × List ((Bool × (List Int) × List Int) × Int × Int) × List Bool):=AU.j2 k x.2.1.1 x.2.1.2.1 x.2.1.2.2.1 x.2.1.2.2.2.1 x.2.1.2.2.2.2.1 x.2.2.1.1 x.2.2.1.2.1
def Qf:Bb (TT Cd.rs × ET Cd.ps):=⟨⟨30,35,[30,31,32]⟩,AE [],AE [(2,⟨Gp,λk x=>(KC k x).map Ep⟩)],AE []⟩
theorem Kk:Qx Tryz.prog 101 Cd :=
 D7 (Bt:=AL [(3,[0,1,3,7,0,16,48,112,240,0,1008,2047,4095,8191])]) (l:= []) (C:=Qf) (by kernel_rfl) AI trivial (fn:=Tryz.f101) (by kernel_rfl) rfl (by kernel_rfl) (by decide) (by kernel_rfl) (m:=35) (by decide) (by decide) (F:=λk x=>AU.f k x.1.1 x.1.2.1 x.2.1) (q:=Ep) (λk x=>rfl)
  (by
   refine And.intro ?_ ?_
   ·refine Al (sl:=Gp) (F:=KC) (λx=>rfl) λk ⟨_,⟨(APb:Bool),(APc:List Int),(APd:List Int),(APe:Int),(APf:Int),_⟩,⟨(AGS:List ((Bool × (List Int) × List Int) × Int × Int)),(AGT:List Bool),_⟩,_⟩=> ?_
    show AY Ep (AU.j2 (k+1) APb APc APd APe APf AGS AGT) _;rw[AU.j2];exact go
   exact trivial)
  (λk ⟨⟨Ab,Ae,_⟩,(a1:Int),_⟩=>by show AY Ep (AU.f k Ab Ae a1) _;unfold AU.f;exact go)
end
section
attribute [local irreducible] DW.f CR.f DQ.f AU.f Am.f
def Dz:DU:=⟨[.st 135 [.ty (.int .i64), .ty (.int .i64), .row false 93 (.cons (.int .i64) (.cons (.int .i64) (.cons (.int .i64) (.cons .bool (.cons (.row 73 (.int .u64)) (.row 73 (.int .u64))))))), .ty (.row 4 .bool), .row false 4 .bool, .ty (.int .i64), .ty (.int .i64), .ty .bool, .ty (.int .i64)], .st 70 [.row false 137 (.cons (.cons .bool (.cons (.row 73 (.int .u64)) (.row 73 (.int .u64)))) (.cons (.int .u64) (.int .i64))), .row false 4 .bool], .ty (.cons (.int .i64) (.cons (.int .i64) (.cons (.int .i64) (.cons (.int .i64) (.cons (.int .i64) (.int .u64))))))],[],λk x=>(AA.f k x.1.1 x.1.2.1 x.1.2.2.1 x.1.2.2.2.1 x.1.2.2.2.2.1 x.1.2.2.2.2.2.1 x.1.2.2.2.2.2.2.1 x.1.2.2.2.2.2.2.2.1 x.1.2.2.2.2.2.2.2.2.1 x.2.1.1 x.2.1.2.1 x.2.2.1.1 x.2.2.1.2.1 x.2.2.1.2.2.1 x.2.2.1.2.2.2.1 x.2.2.1.2.2.2.2.1 x.2.2.1.2.2.2.2.2).map λr=>((()),((r.1,r.2.1,r.2.2.1,r.2.2.2.1,r.2.2.2.2.1,r.2.2.2.2.2.1,r.2.2.2.2.2.2.1,r.2.2.2.2.2.2.2.1,r.2.2.2.2.2.2.2.2.1,()),(r.2.2.2.2.2.2.2.2.2.1,r.2.2.2.2.2.2.2.2.2.2,()),()))⟩
def Bi (r:Int × Int × List (Int × Int × Int × Bool × (List Int) × List Int) × List Bool × List Bool × Int × Int × Bool × Int × List ((Bool × (List Int) × List Int) × Int × Int) × List Bool):TT Dz.rs × ET Dz.ps:=((()),((r.1,r.2.1,r.2.2.1,r.2.2.2.1,r.2.2.2.2.1,r.2.2.2.2.2.1,r.2.2.2.2.2.2.1,r.2.2.2.2.2.2.2.1,r.2.2.2.2.2.2.2.2.1,()),(r.2.2.2.2.2.2.2.2.2.1,r.2.2.2.2.2.2.2.2.2.2,()),()))
@[reducible] def JL:List Slot:= [.tmp 0 [.ptr 146 0], .tmp 1 [.ptr 149 0], .tmp 5 [.ptr 5 0], .tmp 6 [.ty .bool], .DO 5 .mine 75 [.ty (.int .i64), .ty (.int .i64), .ty (.int .i64), .ty (.int .i64), .ty (.int .i64), .ty (.int .u64)], .DO 146 .kept 135 [.ty (.int .i64), .ty (.int .i64), .own .Dn 160 93 (.cons (.int .i64) (.cons (.int .i64) (.cons (.int .i64) (.cons .bool (.cons (.row 73 (.int .u64)) (.row 73 (.int .u64))))))), .ty (.row 4 .bool), .own .Dn 161 4 .bool, .ty (.int .i64), .ty (.int .i64), .ty .bool, .ty (.int .i64)], .DO 149 .kept 70 [.own .Dn 162 137 (.cons (.cons .bool (.cons (.row 73 (.int .u64)) (.row 73 (.int .u64)))) (.cons (.int .u64) (.int .i64))), .own .Dn 163 4 .bool]]
def Ma (k:Nat) (x:TS JL):Option (Int × Int × List (Int × Int × Int × Bool × (List Int) × List Int) × List Bool × List Bool × Int × Int × Bool × Int × List ((Bool × (List Int) × List Int) × Int × Int) × List Bool):=AA.j2 k x.2.2.2.1.1 x.2.2.2.2.1.1 x.2.2.2.2.1.2.1 x.2.2.2.2.1.2.2.1 x.2.2.2.2.1.2.2.2.1 x.2.2.2.2.1.2.2.2.2.1 x.2.2.2.2.1.2.2.2.2.2.1 x.2.2.2.2.2.1.1 x.2.2.2.2.2.1.2.1 x.2.2.2.2.2.1.2.2.1 x.2.2.2.2.2.1.2.2.2.1 x.2.2.2.2.2.1.2.2.2.2.1 x.2.2.2.2.2.1.2.2.2.2.2.1 x.2.2.2.2.2.1.2.2.2.2.2.2.1 x.2.2.2.2.2.1.2.2.2.2.2.2.2.1 x.2.2.2.2.2.1.2.2.2.2.2.2.2.2.1 x.2.2.2.2.2.2.1.1 x.2.2.2.2.2.2.1.2.1
@[reducible] def JM:List Slot:= [.tmp 0 [.ptr 146 0], .tmp 1 [.ptr 149 0], .tmp 5 [.ptr 5 0], .DO 5 .mine 75 [.ty (.int .i64), .ty (.int .i64), .ty (.int .i64), .ty (.int .i64), .ty (.int .i64), .ty (.int .u64)], .DO 146 .kept 135 [.ty (.int .i64), .ty (.int .i64), .own .Dn 160 93 (.cons (.int .i64) (.cons (.int .i64) (.cons (.int .i64) (.cons .bool (.cons (.row 73 (.int .u64)) (.row 73 (.int .u64))))))), .ty (.row 4 .bool), .own .Dn 161 4 .bool, .ty (.int .i64), .ty (.int .i64), .ty .bool, .ty (.int .i64)], .DO 149 .kept 70 [.own .Dn 162 137 (.cons (.cons .bool (.cons (.row 73 (.int .u64)) (.row 73 (.int .u64)))) (.cons (.int .u64) (.int .i64))), .own .Dn 163 4 .bool]]
def Mb (k:Nat) (x:TS JM):Option (Int × Int × List (Int × Int × Int × Bool × (List Int) × List Int) × List Bool × List Bool × Int × Int × Bool × Int × List ((Bool × (List Int) × List Int) × Int × Int) × List Bool):=AA.j3 k x.2.2.2.1.1 x.2.2.2.1.2.1 x.2.2.2.1.2.2.1 x.2.2.2.1.2.2.2.1 x.2.2.2.1.2.2.2.2.1 x.2.2.2.1.2.2.2.2.2.1 x.2.2.2.2.1.1 x.2.2.2.2.1.2.1 x.2.2.2.2.1.2.2.1 x.2.2.2.2.1.2.2.2.1 x.2.2.2.2.1.2.2.2.2.1 x.2.2.2.2.1.2.2.2.2.2.1 x.2.2.2.2.1.2.2.2.2.2.2.1 x.2.2.2.2.1.2.2.2.2.2.2.2.1 x.2.2.2.2.1.2.2.2.2.2.2.2.2.1 x.2.2.2.2.2.1.1 x.2.2.2.2.2.1.2.1
@[reducible] def JN:List Slot:= [.tmp 0 [.ptr 146 0], .tmp 1 [.ptr 149 0], .tmp 5 [.ptr 5 0], .DO 5 .mine 75 [.ty (.int .i64), .ty (.int .i64), .ty (.int .i64), .ty (.int .i64), .ty (.int .i64), .ty (.int .u64)], .DO 146 .kept 135 [.ty (.int .i64), .ty (.int .i64), .own .Dn 160 93 (.cons (.int .i64) (.cons (.int .i64) (.cons (.int .i64) (.cons .bool (.cons (.row 73 (.int .u64)) (.row 73 (.int .u64))))))), .ty (.row 4 .bool), .own .Dn 161 4 .bool, .ty (.int .i64), .ty (.int .i64), .ty .bool, .ty (.int .i64)], .DO 149 .kept 70 [.own .Dn 162 137 (.cons (.cons .bool (.cons (.row 73 (.int .u64)) (.row 73 (.int .u64)))) (.cons (.int .u64) (.int .i64))), .own .Dn 163 4 .bool]]
def Mc (k:Nat) (x:TS JN):Option (Int × Int × List (Int × Int × Int × Bool × (List Int) × List Int) × List Bool × List Bool × Int × Int × Bool × Int × List ((Bool × (List Int) × List Int) × Int × Int) × List Bool):=AA.j5 k x.2.2.2.1.1 x.2.2.2.1.2.1 x.2.2.2.1.2.2.1 x.2.2.2.1.2.2.2.1 x.2.2.2.1.2.2.2.2.1 x.2.2.2.1.2.2.2.2.2.1 x.2.2.2.2.1.1 x.2.2.2.2.1.2.1 x.2.2.2.2.1.2.2.1 x.2.2.2.2.1.2.2.2.1 x.2.2.2.2.1.2.2.2.2.1 x.2.2.2.2.1.2.2.2.2.2.1 x.2.2.2.2.1.2.2.2.2.2.2.1 x.2.2.2.2.1.2.2.2.2.2.2.2.1 x.2.2.2.2.1.2.2.2.2.2.2.2.2.1 x.2.2.2.2.2.1.1 x.2.2.2.2.2.1.2.1
@[reducible] def JO:List Slot:= [.tmp 0 [.ptr 146 0], .tmp 1 [.ptr 149 0], .tmp 5 [.ptr 5 0], .DO 5 .mine 75 [.ty (.int .i64), .ty (.int .i64), .ty (.int .i64), .ty (.int .i64), .ty (.int .i64), .ty (.int .u64)], .DO 146 .kept 135 [.ty (.int .i64), .ty (.int .i64), .own .Dn 160 93 (.cons (.int .i64) (.cons (.int .i64) (.cons (.int .i64) (.cons .bool (.cons (.row 73 (.int .u64)) (.row 73 (.int .u64))))))), .ty (.row 4 .bool), .own .Dn 161 4 .bool, .ty (.int .i64), .ty (.int .i64), .ty .bool, .ty (.int .i64)], .DO 149 .kept 70 [.own .Dn 162 137 (.cons (.cons .bool (.cons (.row 73 (.int .u64)) (.row 73 (.int .u64)))) (.cons (.int .u64) (.int .i64))), .own .Dn 163 4 .bool]]
def Md (k:Nat) (x:TS JO):Option (Int × Int × List (Int × Int × Int × Bool × (List Int) × List Int) × List Bool × List Bool × Int × Int × Bool × Int × List ((Bool × (List Int) × List Int) × Int × Int) × List Bool):=AA.j7 k x.2.2.2.1.1 x.2.2.2.1.2.1 x.2.2.2.1.2.2.1 x.2.2.2.1.2.2.2.1 x.2.2.2.1.2.2.2.2.1 x.2.2.2.1.2.2.2.2.2.1 x.2.2.2.2.1.1 x.2.2.2.2.1.2.1 x.2.2.2.2.1.2.2.1 x.2.2.2.2.1.2.2.2.1 x.2.2.2.2.1.2.2.2.2.1 x.2.2.2.2.1.2.2.2.2.2.1 x.2.2.2.2.1.2.2.2.2.2.2.1 x.2.2.2.2.1.2.2.2.2.2.2.2.1 x.2.2.2.2.1.2.2.2.2.2.2.2.2.1 x.2.2.2.2.2.1.1 x.2.2.2.2.2.1.2.1
@[reducible] def JP:List Slot:= [.tmp 0 [.ptr 146 0], .tmp 1 [.ptr 149 0], .tmp 5 [.ptr 5 0], .DO 5 .mine 75 [.ty (.int .i64), .ty (.int .i64), .ty (.int .i64), .ty (.int .i64), .ty (.int .i64), .ty (.int .u64)], .DO 146 .kept 135 [.ty (.int .i64), .ty (.int .i64), .own .Dn 160 93 (.cons (.int .i64) (.cons (.int .i64) (.cons (.int .i64) (.cons .bool (.cons (.row 73 (.int .u64)) (.row 73 (.int .u64))))))), .ty (.row 4 .bool), .own .Dn 161 4 .bool, .ty (.int .i64), .ty (.int .i64), .ty .bool, .ty (.int .i64)], .DO 149 .kept 70 [.own .Dn 162 137 (.cons (.cons .bool (.cons (.row 73 (.int .u64)) (.row 73 (.int .u64)))) (.cons (.int .u64) (.int .i64))), .own .Dn 163 4 .bool]]
def Me (k:Nat) (x:TS JP):Option (Int × Int × List (Int × Int × Int × Bool × (List Int) × List Int) × List Bool × List Bool × Int × Int × Bool × Int × List ((Bool × (List Int) × List Int) × Int × Int) × List Bool):=AA.j9 k x.2.2.2.1.1 x.2.2.2.1.2.1 x.2.2.2.1.2.2.1 x.2.2.2.1.2.2.2.1 x.2.2.2.1.2.2.2.2.1 x.2.2.2.1.2.2.2.2.2.1 x.2.2.2.2.1.1 x.2.2.2.2.1.2.1 x.2.2.2.2.1.2.2.1 x.2.2.2.2.1.2.2.2.1 x.2.2.2.2.1.2.2.2.2.1 x.2.2.2.2.1.2.2.2.2.2.1 x.2.2.2.2.1.2.2.2.2.2.2.1 x.2.2.2.2.1.2.2.2.2.2.2.2.1 x.2.2.2.2.1.2.2.2.2.2.2.2.2.1 x.2.2.2.2.2.1.1 x.2.2.2.2.2.1.2.1
def WM:Bb (TT Dz.rs × ET Dz.ps):=⟨⟨146,164,[146,149]⟩,AE [],AE [(2,⟨JL,λk x=>(Ma k x).map Bi⟩),(3,⟨JM,λk x=>(Mb k x).map Bi⟩),(5,⟨JN,λk x=>(Mc k x).map Bi⟩),(7,⟨JO,λk x=>(Md k x).map Bi⟩),(9,⟨JP,λk x=>(Me k x).map Bi⟩)],AE []⟩
theorem WC:Qx Tryz.prog 40 Dz :=
 D7 (Bt:=AL [(2,[0,1,3,7,15,31,63,127,255,511,255,1279,3327,7423,15615,32767,65535,131071,262143,524287,1048575,2097151,4194303,8388607,16777215,33554431,67108863,33554431,167772159,436207615,973078527,2046820351,4294967295,8589934591,17179869183,34359738367]),(4,[0,0,2,6,14,0,0,64,0,256,0,1024,4032,8160,16352,32766,65535,131071,262143]),(6,[0,0,2,6,14,0,0,64,0,256,992,2016,4094,8191,16383,32767]),(8,[0,0,2,6,14,0,0,64,0,0,512,1792,0,0,8192,32512,65504,131040,262142,524287,1048575,2097151]),(10,[0,0,2,6,14,0,0,0,128,448,0,0,2048,8128,16352,32736,65534,131071,262143,524287])]) (l:= [(96, .io E7 [(90,154)]),(98, .io E5 [(72,152)]),(100, .io D0 [(119,156)]),(101, .io Cd [(114,156),(118,156),(136,158),(140,158)]),(102, .io Fi [(141,158)])]) (C:=WM) (by kernel_rfl) AI ⟨S6,Sv,WL,Kk,cC,trivial⟩ (fn:=Tryz.f40) (by kernel_rfl) rfl (by kernel_rfl) (by decide) (by kernel_rfl) (m:=164) (by decide) (by decide) (F:=λk x=>AA.f k x.1.1 x.1.2.1 x.1.2.2.1 x.1.2.2.2.1 x.1.2.2.2.2.1 x.1.2.2.2.2.2.1 x.1.2.2.2.2.2.2.1 x.1.2.2.2.2.2.2.2.1 x.1.2.2.2.2.2.2.2.2.1 x.2.1.1 x.2.1.2.1 x.2.2.1.1 x.2.2.1.2.1 x.2.2.1.2.2.1 x.2.2.1.2.2.2.1 x.2.2.1.2.2.2.2.1 x.2.2.1.2.2.2.2.2) (q:=Bi) (λk x=>rfl)
  (by
   refine And.intro ?_ ?_
   ·refine Al (sl:=JL) (F:=Ma) (λx=>rfl) λk ⟨_,_,_,⟨(x6:Bool),_⟩,⟨(DZ:Int),(Ds:Int),(Dd:Int),(EH:Int),(EI:Int),(EY:Int),_⟩,⟨(A9:Int),(BA:Int),(BB:List (Int × Int × Int × Bool × (List Int) × List Int)),(BC:List Bool),(BD:List Bool),(DG:Int),(DH:Int),(DI:Bool),(DJ:Int),_⟩,⟨(Cq:List ((Bool × (List Int) × List Int) × Int × Int)),(DK:List Bool),_⟩,_⟩=> ?_
    show AY Bi (AA.j2 (k+1) x6 DZ Ds Dd EH EI EY A9 BA BB BC BD DG DH DI DJ Cq DK) _;rw[AA.j2];exact go
   refine And.intro ?_ ?_
   ·refine Al (sl:=JM) (F:=Mb) (λx=>rfl) λk ⟨_,_,_,⟨(DZ:Int),(Ds:Int),(Dd:Int),(EH:Int),(EI:Int),(EY:Int),_⟩,⟨(A9:Int),(BA:Int),(BB:List (Int × Int × Int × Bool × (List Int) × List Int)),(BC:List Bool),(BD:List Bool),(DG:Int),(DH:Int),(DI:Bool),(DJ:Int),_⟩,⟨(Cq:List ((Bool × (List Int) × List Int) × Int × Int)),(DK:List Bool),_⟩,_⟩=> ?_
    show AY Bi (AA.j3 (k+1) DZ Ds Dd EH EI EY A9 BA BB BC BD DG DH DI DJ Cq DK) _;rw[AA.j3];exact go
   refine And.intro ?_ ?_
   ·refine Al (sl:=JN) (F:=Mc) (λx=>rfl) λk ⟨_,_,_,⟨(DZ:Int),(Ds:Int),(Dd:Int),(EH:Int),(EI:Int),(EY:Int),_⟩,⟨(A9:Int),(BA:Int),(BB:List (Int × Int × Int × Bool × (List Int) × List Int)),(BC:List Bool),(BD:List Bool),(DG:Int),(DH:Int),(DI:Bool),(DJ:Int),_⟩,⟨(Cq:List ((Bool × (List Int) × List Int) × Int × Int)),(DK:List Bool),_⟩,_⟩=> ?_
    show AY Bi (AA.j5 (k+1) DZ Ds Dd EH EI EY A9 BA BB BC BD DG DH DI DJ Cq DK) _;rw[AA.j5];exact go
   refine And.intro ?_ ?_
   ·refine Al (sl:=JO) (F:=Md) (λx=>rfl) λk ⟨_,_,_,⟨(DZ:Int),(Ds:Int),(Dd:Int),(EH:Int),(EI:Int),(EY:Int),_⟩,⟨(A9:Int),(BA:Int),(BB:List (Int × Int × Int × Bool × (List Int) × List Int)),(BC:List Bool),(BD:List Bool),(DG:Int),(DH:Int),(DI:Bool),(DJ:Int),_⟩,⟨(Cq:List ((Bool × (List Int) × List Int) × Int × Int)),(DK:List Bool),_⟩,_⟩=> ?_
    show AY Bi (AA.j7 (k+1) DZ Ds Dd EH EI EY A9 BA BB BC BD DG DH DI DJ Cq DK) _;rw[AA.j7];exact go
   refine And.intro ?_ ?_
   ·refine Al (sl:=JP) (F:=Me) (λx=>rfl) λk ⟨_,_,_,⟨(DZ:Int),(Ds:Int),(Dd:Int),(EH:Int),(EI:Int),(EY:Int),_⟩,⟨(A9:Int),(BA:Int),(BB:List (Int × Int × Int × Bool × (List Int) × List Int)),(BC:List Bool),(BD:List Bool),(DG:Int),(DH:Int),(DI:Bool),(DJ:Int),_⟩,⟨(Cq:List ((Bool × (List Int) × List Int) × Int × Int)),(DK:List Bool),_⟩,_⟩=> ?_
    show AY Bi (AA.j9 (k+1) DZ Ds Dd EH EI EY A9 BA BB BC BD DG DH DI DJ Cq DK) _;rw[AA.j9];exact go
   exact trivial)
  (λk ⟨⟨Ab,Ae,Af,Ah,Ai,BH,BK,BL,BJ,_⟩,⟨j8,kC,_⟩,(a2:Int × Int × Int × Int × Int × Int),_⟩=>by show AY Bi (AA.f k Ab Ae Af Ah Ai BH BK BL BJ j8 kC a2.1 a2.2.1 a2.2.2.1 a2.2.2.2.1 a2.2.2.2.2.1 a2.2.2.2.2.2) _;unfold AA.f;exact go)
end
section
def LA:AQ:=⟨[.int .u64],[.int .i64],λ_ x=>(EG.f x.1).map λr=>(r,())⟩
def Zf (r:Int):TT LA.rs:=(r,())
theorem RU:Cl Tryz.prog 225 LA :=
 AT (Bt:=AL []) (l:= []) (C:=AZ) (by kernel_rfl) AI trivial (fn:=Tryz.f225) (by kernel_rfl) rfl (by kernel_rfl) (by decide) (by kernel_rfl) (F:=λk x=>EG.f x.1) (m:=Zf) (λk x=>rfl)
  (by exact trivial)
  (λk ⟨(a0:Int),_⟩=>by show AY Zf (EG.f a0) _;unfold EG.f;exact go)
end
section
def PG:AQ:=⟨[.int .u64],[.int .u64],λ_ x=>(F4.f x.1).map λr=>(r,())⟩
def ec (r:Int):TT PG.rs:=(r,())
theorem ef:Cl Tryz.prog 226 PG :=
 AT (Bt:=AL []) (l:= []) (C:=AZ) (by kernel_rfl) AI trivial (fn:=Tryz.f226) (by kernel_rfl) rfl (by kernel_rfl) (by decide) (by kernel_rfl) (F:=λk x=>F4.f x.1) (m:=ec) (λk x=>rfl)
  (by exact trivial)
  (λk ⟨(a0:Int),_⟩=>by show AY ec (F4.f a0) _;unfold F4.f;exact go)
end
section
attribute [local irreducible] EG.f F4.f
def Ee:AQ:=⟨[.int .u64],[.int .i64],λ_ x=>(Bk.f x.1).map λr=>(r,())⟩
def eg (r:Int):TT Ee.rs:=(r,())
theorem GV:Cl Tryz.prog 152 Ee :=
 AT (Bt:=AL []) (l:= [(225, .pu LA),(226, .pu PG)]) (C:=AZ) (by kernel_rfl) AI ⟨RU,ef,trivial⟩ (fn:=Tryz.f152) (by kernel_rfl) rfl (by kernel_rfl) (by decide) (by kernel_rfl) (F:=λk x=>Bk.f x.1) (m:=eg) (λk x=>rfl)
  (by exact trivial)
  (λk ⟨(a0:Int),_⟩=>by show AY eg (Bk.f a0) _;unfold Bk.f;exact go)
end
section
def Gj:AQ:=⟨[],[.int .u64],λ_ _=>(DY.f).map λr=>(r,())⟩
def l5 (r:Int):TT Gj.rs:=(r,())
theorem I8:Cl Tryz.prog 153 Gj :=
 AT (Bt:=AL []) (l:= []) (C:=AZ) (by kernel_rfl) AI trivial (fn:=Tryz.f153) (by kernel_rfl) rfl (by kernel_rfl) (by decide) (by kernel_rfl) (F:=λk x=>DY.f) (m:=l5) (λk x=>rfl)
  (by exact trivial)
  (λk x=>by show AY l5 (DY.f) _;unfold DY.f;exact go)
end
section
attribute [local irreducible] Bk.f DY.f
def NZ:AQ:=⟨[.int .u64],[.int .u64],λ_ x=>(Ge.f x.1).map λr=>(r,())⟩
def Zg (r:Int):TT NZ.rs:=(r,())
theorem ZY:Cl Tryz.prog 89 NZ :=
 AT (Bt:=AL []) (l:= [(152, .pu Ee),(153, .pu Gj)]) (C:=AZ) (by kernel_rfl) AI ⟨GV,I8,trivial⟩ (fn:=Tryz.f89) (by kernel_rfl) rfl (by kernel_rfl) (by decide) (by kernel_rfl) (F:=λk x=>Ge.f x.1) (m:=Zg) (λk x=>rfl)
  (by exact trivial)
  (λk ⟨(a0:Int),_⟩=>by show AY Zg (Ge.f a0) _;unfold Ge.f;exact go)
end
section
attribute [local irreducible] Bn.f CD.f
def Hu:AQ:=⟨[(.row 73 (.int .u64)),(.row 73 (.int .u64))],[(.row 73 (.int .u64))],λk x=>(BP.f k x.1 x.2.1).map λr=>(r,())⟩
def Ls (r:List Int):TT Hu.rs:=(r,())
@[reducible] def Uy:List Slot:= [.tmp 5 [.ty (.row 73 (.int .u64))], .tmp 6 [.ty (.row 73 (.int .u64))], .tmp 7 [.own .mine 7 73 (.int .u64)], .tmp 23 [.ty (.int .i64)], .tmp 24 [.ty (.int .i64)]]
def eo (k:Nat) (x:TS Uy):Option (List Int):=BP.l0 k x.1.1 x.2.1.1 x.2.2.1.1 x.2.2.2.1.1 x.2.2.2.2.1.1
@[reducible] def Uz:List Slot:= [.tmp 5 [.ty (.row 73 (.int .u64))], .tmp 6 [.ty (.row 73 (.int .u64))], .tmp 7 [.own .mine 7 73 (.int .u64)], .tmp 8 [.ty (.int .i64)], .tmp 9 [.ty (.int .u64)], .tmp 23 [.ty (.int .i64)], .tmp 24 [.ty (.int .i64)], .tmp 28 [.ty (.int .i64)], .tmp 29 [.ty (.int .i64)]]
def ep (k:Nat) (x:TS Uz):Option (List Int):=BP.l1 k x.1.1 x.2.1.1 x.2.2.1.1 x.2.2.2.1.1 x.2.2.2.2.1.1 x.2.2.2.2.2.1.1 x.2.2.2.2.2.2.1.1 x.2.2.2.2.2.2.2.1.1 x.2.2.2.2.2.2.2.2.1.1
def ABV:Bb (TT Hu.rs):=⟨⟨70,70,[]⟩,AE [(0,⟨Uy,λk x=>(eo k x).map Ls⟩),(1,⟨Uz,λk x=>(ep k x).map Ls⟩)],AE [],AE []⟩
theorem Lm:Cl Tryz.prog 73 Hu :=
 AT (Bt:=AL [(10,[0,0,0,6,14,0,0,96,224,510,1023,0,0,0,12288,30720,63488,131071,262143])]) (l:= [(128, .pu IU),(129, .pu Jf)]) (C:=ABV) (by kernel_rfl) AI ⟨Pu,Rv,trivial⟩ (fn:=Tryz.f73) (by kernel_rfl) rfl (by kernel_rfl) (by decide) (by kernel_rfl) (F:=λk x=>BP.f k x.1 x.2.1) (m:=Ls) (λk x=>rfl)
  (by
   refine And.intro ?_ ?_
   ·refine Ap (sl:=Uy) (F:=eo) (λx=>rfl) λk ⟨⟨(x5:List Int),_⟩,⟨(x6:List Int),_⟩,⟨(x7:List Int),_⟩,⟨(NP:Int),_⟩,⟨(x24:Int),_⟩,_⟩=> ?_
    show AY Ls (BP.l0 (k+1) x5 x6 x7 NP x24) _;rw[BP.l0];exact go
   refine And.intro ?_ ?_
   ·refine Ap (sl:=Uz) (F:=ep) (λx=>rfl) λk ⟨⟨(x5:List Int),_⟩,⟨(x6:List Int),_⟩,⟨(x7:List Int),_⟩,⟨(x8:Int),_⟩,⟨(x9:Int),_⟩,⟨(NP:Int),_⟩,⟨(x24:Int),_⟩,⟨(x28:Int),_⟩,⟨(cV:Int),_⟩,_⟩=> ?_
    show AY Ls (BP.l1 (k+1) x5 x6 x7 x8 x9 NP x24 x28 cV) _;rw[BP.l1];exact go
   exact trivial)
  (λk ⟨(a0:List Int),(a1:List Int),_⟩=>by show AY Ls (BP.f k a0 a1) _;unfold BP.f;exact go)
end
section
attribute [local irreducible] Cw.f BP.f
def Ri:AQ:=⟨[(.cons .bool (.cons (.row 73 (.int .u64)) (.row 73 (.int .u64)))),(.cons .bool (.cons (.row 73 (.int .u64)) (.row 73 (.int .u64))))],[(.cons .bool (.cons (.row 73 (.int .u64)) (.row 73 (.int .u64))))],λk x=>(J4.f k x.1.1 x.1.2.1 x.1.2.2 x.2.1.1 x.2.1.2.1 x.2.1.2.2).map λr=>((r.1,r.2.1,r.2.2),())⟩
def l6 (r:Bool × List Int × List Int):TT Ri.rs:=((r.1,r.2.1,r.2.2),())
theorem lM:Cl Tryz.prog 53 Ri :=
 AT (Bt:=AL [(1,[0,1,0,4,15,0,32,0,128,480,0,1024,0,4096,16352,32767,65535])]) (l:= [(72, .pu JD),(73, .pu Hu)]) (C:=AZ) (by kernel_rfl) AI ⟨MV,Lm,trivial⟩ (fn:=Tryz.f53) (by kernel_rfl) rfl (by kernel_rfl) (by decide) (by kernel_rfl) (F:=λk x=>J4.f k x.1.1 x.1.2.1 x.1.2.2 x.2.1.1 x.2.1.2.1 x.2.1.2.2) (m:=l6) (λk x=>rfl)
  (by exact trivial)
  (λk ⟨(a0:Bool × List Int × List Int),(a1:Bool × List Int × List Int),_⟩=>by show AY l6 (J4.f k a0.1 a0.2.1 a0.2.2 a1.1 a1.2.1 a1.2.2) _;unfold J4.f;exact go)
end
section
attribute [local irreducible] KE.f J4.f
def JQ:DU:=⟨[.st 67 [.ty (.int .i64), .ty (.int .i64), .ty (.int .i64), .row false 4 .bool, .ty .bool], .ty (.int .i64), .ty (.int .i64)],[(.cons .bool (.cons (.row 73 (.int .u64)) (.row 73 (.int .u64))))],λk x=>(IK.f k x.1.1 x.1.2.1 x.1.2.2.1 x.1.2.2.2.1 x.1.2.2.2.2.1 x.2.1 x.2.2.1).map λr=>(((r.1,(r.2.1,r.2.2.1)),()),((r.2.2.2.1,r.2.2.2.2.1,r.2.2.2.2.2.1,r.2.2.2.2.2.2.1,r.2.2.2.2.2.2.2,()),()))⟩
def eu (r:Bool × List Int × List Int × Int × Int × Int × List Bool × Bool):TT JQ.rs × ET JQ.ps:=(((r.1,(r.2.1,r.2.2.1)),()),((r.2.2.2.1,r.2.2.2.2.1,r.2.2.2.2.2.1,r.2.2.2.2.2.2.1,r.2.2.2.2.2.2.2,()),()))
def yf:Bb (TT JQ.rs × ET JQ.ps):=⟨⟨18,20,[18]⟩,AE [],AE [],AE []⟩
theorem ez:Qx Tryz.prog 183 JQ :=
 D7 (Bt:=AL []) (l:= [(22, .pu QW),(53, .pu Ri)]) (C:=yf) (by kernel_rfl) AI ⟨bf,lM,trivial⟩ (fn:=Tryz.f183) (by kernel_rfl) rfl (by kernel_rfl) (by decide) (by kernel_rfl) (m:=20) (by decide) (by decide) (F:=λk x=>IK.f k x.1.1 x.1.2.1 x.1.2.2.1 x.1.2.2.2.1 x.1.2.2.2.2.1 x.2.1 x.2.2.1) (q:=eu) (λk x=>rfl)
  (by exact trivial)
  (λk ⟨⟨Ab,Ae,Af,Ah,Ai,_⟩,(a1:Int),(a2:Int),_⟩=>by show AY eu (IK.f k Ab Ae Af Ah Ai a1 a2) _;unfold IK.f;exact go)
end
section
attribute [local irreducible] Ge.f IK.f
def Jd:DU:=⟨[.st 67 [.ty (.int .i64), .ty (.int .i64), .ty (.int .i64), .row false 4 .bool, .ty .bool], .ty (.cons (.int .i64) (.cons (.int .i64) (.int .u64)))],[(.cons (.cons .bool (.cons (.row 73 (.int .u64)) (.row 73 (.int .u64)))) (.cons (.int .u64) (.int .i64)))],λk x=>(Iu.f k x.1.1 x.1.2.1 x.1.2.2.1 x.1.2.2.2.1 x.1.2.2.2.2.1 x.2.1.1 x.2.1.2.1 x.2.1.2.2).map λr=>((((r.1,(r.2.1,r.2.2.1)),(r.2.2.2.1,r.2.2.2.2.1)),()),((r.2.2.2.2.2.1,r.2.2.2.2.2.2.1,r.2.2.2.2.2.2.2.1,r.2.2.2.2.2.2.2.2.1,r.2.2.2.2.2.2.2.2.2,()),()))⟩
def Zh (r:Bool × List Int × List Int × Int × Int × Int × Int × Int × List Bool × Bool):TT Jd.rs × ET Jd.ps:=((((r.1,(r.2.1,r.2.2.1)),(r.2.2.2.1,r.2.2.2.2.1)),()),((r.2.2.2.2.2.1,r.2.2.2.2.2.2.1,r.2.2.2.2.2.2.2.1,r.2.2.2.2.2.2.2.2.1,r.2.2.2.2.2.2.2.2.2,()),()))
def tu:Bb (TT Jd.rs × ET Jd.ps):=⟨⟨27,30,[27]⟩,AE [],AE [],AE []⟩
theorem td:Qx Tryz.prog 103 Jd :=
 D7 (Bt:=AL []) (l:= [(89, .pu NZ),(183, .io JQ [(25,29)])]) (C:=tu) (by kernel_rfl) AI ⟨ZY,ez,trivial⟩ (fn:=Tryz.f103) (by kernel_rfl) rfl (by kernel_rfl) (by decide) (by kernel_rfl) (m:=30) (by decide) (by decide) (F:=λk x=>Iu.f k x.1.1 x.1.2.1 x.1.2.2.1 x.1.2.2.2.1 x.1.2.2.2.2.1 x.2.1.1 x.2.1.2.1 x.2.1.2.2) (q:=Zh) (λk x=>rfl)
  (by exact trivial)
  (λk ⟨⟨Ab,Ae,Af,Ah,Ai,_⟩,(a1:Int × Int × Int),_⟩=>by show AY Zh (Iu.f k Ab Ae Af Ah Ai a1.1 a1.2.1 a1.2.2) _;unfold Iu.f;exact go)
end
section
def O6:AQ:=⟨[(.cons .bool (.cons (.row 73 (.int .u64)) (.row 73 (.int .u64))))],[.bool],λ_ x=>(G6.f x.1.1 x.1.2.1 x.1.2.2).map λr=>(r,())⟩
def e8 (r:Bool):TT O6.rs:=(r,())
theorem dc:Cl Tryz.prog 123 O6 :=
 AT (Bt:=AL []) (l:= []) (C:=AZ) (by kernel_rfl) AI trivial (fn:=Tryz.f123) (by kernel_rfl) rfl (by kernel_rfl) (by decide) (by kernel_rfl) (F:=λk x=>G6.f x.1.1 x.1.2.1 x.1.2.2) (m:=e8) (λk x=>rfl)
  (by exact trivial)
  (λk ⟨(a0:Bool × List Int × List Int),_⟩=>by show AY e8 (G6.f a0.1 a0.2.1 a0.2.2) _;unfold G6.f;exact go)
end
section
def Gk:AQ:=⟨[.bool, .int .u64],[.int .u64],λ_ x=>(CL.f x.1 x.2.1).map λr=>(r,())⟩
def Wt (r:Int):TT Gk.rs:=(r,())
theorem KA:Cl Tryz.prog 155 Gk :=
 AT (Bt:=AL []) (l:= []) (C:=AZ) (by kernel_rfl) AI trivial (fn:=Tryz.f155) (by kernel_rfl) rfl (by kernel_rfl) (by decide) (by kernel_rfl) (F:=λk x=>CL.f x.1 x.2.1) (m:=Wt) (λk x=>rfl)
  (by exact trivial)
  (λk ⟨(a0:Bool),(a1:Int),_⟩=>by show AY Wt (CL.f a0 a1) _;unfold CL.f;exact go)
end
section
attribute [local irreducible] CL.f
def I7:AQ:=⟨[.bool],[.int .u64],λ_ x=>(Dg.f x.1).map λr=>(r,())⟩
def l7 (r:Int):TT I7.rs:=(r,())
theorem Ll:Cl Tryz.prog 154 I7 :=
 AT (Bt:=AL []) (l:= [(155, .pu Gk)]) (C:=AZ) (by kernel_rfl) AI ⟨KA,trivial⟩ (fn:=Tryz.f154) (by kernel_rfl) rfl (by kernel_rfl) (by decide) (by kernel_rfl) (F:=λk x=>Dg.f x.1) (m:=l7) (λk x=>rfl)
  (by exact trivial)
  (λk ⟨(a0:Bool),_⟩=>by show AY l7 (Dg.f a0) _;unfold Dg.f;exact go)
end
section
attribute [local irreducible] Bn.f CD.f IY.f
def KO:AQ:=⟨[(.row 73 (.int .u64)),(.row 73 (.int .u64))],[(.row 73 (.int .u64))],λk x=>(Cz.f k x.1 x.2.1).map λr=>(r,())⟩
def R5 (r:List Int):TT KO.rs:=(r,())
@[reducible] def U3:List Slot:= [.tmp 5 [.ty (.row 73 (.int .u64))], .tmp 6 [.ty (.row 73 (.int .u64))], .tmp 7 [.own .mine 7 73 (.int .u64)], .tmp 8 [.ty (.int .u64)], .tmp 19 [.ty (.int .i64)], .tmp 20 [.ty (.int .i64)]]
def e9 (k:Nat) (x:TS U3):Option (List Int):=Cz.l0 k x.1.1 x.2.1.1 x.2.2.1.1 x.2.2.2.1.1 x.2.2.2.2.1.1 x.2.2.2.2.2.1.1
def ABW:Bb (TT KO.rs):=⟨⟨42,42,[]⟩,AE [(0,⟨U3,λk x=>(e9 k x).map R5⟩)],AE [],AE []⟩
theorem Rf:Cl Tryz.prog 74 KO :=
 AT (Bt:=AL []) (l:= [(128, .pu IU),(129, .pu Jf),(130, .pu Qe)]) (C:=ABW) (by kernel_rfl) AI ⟨Pu,Rv,cB,trivial⟩ (fn:=Tryz.f74) (by kernel_rfl) rfl (by kernel_rfl) (by decide) (by kernel_rfl) (F:=λk x=>Cz.f k x.1 x.2.1) (m:=R5) (λk x=>rfl)
  (by
   refine And.intro ?_ ?_
   ·refine Ap (sl:=U3) (F:=e9) (λx=>rfl) λk ⟨⟨(x5:List Int),_⟩,⟨(x6:List Int),_⟩,⟨(x7:List Int),_⟩,⟨(x8:Int),_⟩,⟨(oa:Int),_⟩,⟨(aV:Int),_⟩,_⟩=> ?_
    show AY R5 (Cz.l0 (k+1) x5 x6 x7 x8 oa aV) _;rw[Cz.l0];exact go
   exact trivial)
  (λk ⟨(a0:List Int),(a1:List Int),_⟩=>by show AY R5 (Cz.f k a0 a1) _;unfold Cz.f;exact go)
end
section
attribute [local irreducible] CL.f
def PI:AQ:=⟨[.bool, .int .u64, .int .i64],[.int .u64, .bool],λk x=>(Aj.f k x.1 x.2.1 x.2.2.1).map λr=>(r.1,r.2,())⟩
def D5 (r:Int × Bool):TT PI.rs:=(r.1,r.2,())
@[reducible] def R6:List Slot:= [.tmp 0 [.ty .bool], .tmp 1 [.ty (.int .u64)], .tmp 2 [.ty (.int .i64)], .tmp 17 [.ty .bool]]
def Zi (k:Nat) (x:TS R6):Option (Int × Bool):=Aj.j0 k x.1.1 x.2.1.1 x.2.2.1.1 x.2.2.2.1.1
@[reducible] def R7:List Slot:= [.tmp 0 [.ty .bool], .tmp 1 [.ty (.int .u64)], .tmp 2 [.ty (.int .i64)]]
def Zj (k:Nat) (x:TS R7):Option (Int × Bool):=Aj.l0 k x.1.1 x.2.1.1 x.2.2.1.1
@[reducible] def R8:List Slot:= [.tmp 0 [.ty .bool], .tmp 1 [.ty (.int .u64)], .tmp 2 [.ty (.int .i64)], .tmp 30 [.ty .bool]]
def Zk (k:Nat) (x:TS R8):Option (Int × Bool):=Aj.j2 k x.1.1 x.2.1.1 x.2.2.1.1 x.2.2.2.1.1
@[reducible] def R9:List Slot:= [.tmp 0 [.ty .bool], .tmp 1 [.ty (.int .u64)], .tmp 2 [.ty (.int .i64)]]
def Zl (k:Nat) (x:TS R9):Option (Int × Bool):=Aj.j4 k x.1.1 x.2.1.1 x.2.2.1.1
@[reducible] def SA:List Slot:= [.tmp 0 [.ty .bool], .tmp 1 [.ty (.int .u64)], .tmp 2 [.ty (.int .i64)]]
def Zm (k:Nat) (x:TS SA):Option (Int × Bool):=Aj.l1 k x.1.1 x.2.1.1 x.2.2.1.1
def yg:Bb (TT PI.rs):=⟨⟨57,57,[]⟩,AE [(0,⟨R7,λk x=>(Zj k x).map D5⟩),(1,⟨SA,λk x=>(Zm k x).map D5⟩)],AE [(13,⟨R9,λk x=>(Zl k x).map D5⟩)],AE [(3,⟨R6,λk x=>(Zi k x).map D5⟩),(8,⟨R8,λk x=>(Zk k x).map D5⟩)]⟩
theorem yh:Cl Tryz.prog 258 PI :=
 AT (Bt:=AL []) (l:= [(155, .pu Gk)]) (C:=yg) (by kernel_rfl) AI ⟨KA,trivial⟩ (fn:=Tryz.f258) (by kernel_rfl) rfl (by kernel_rfl) (by decide) (by kernel_rfl) (F:=λk x=>Aj.f k x.1 x.2.1 x.2.2.1) (m:=D5) (λk x=>rfl)
  (by
   refine And.intro ?_ ?_
   ·refine Al (sl:=R6) (F:=Zi) (λx=>rfl) λk ⟨⟨(x0:Bool),_⟩,⟨(x1:Int),_⟩,⟨(x2:Int),_⟩,⟨(x17:Bool),_⟩,_⟩=> ?_
    show AY D5 (Aj.j0 (k+1) x0 x1 x2 x17) _;rw[Aj.j0];exact go
   refine And.intro ?_ ?_
   ·refine Ap (sl:=R7) (F:=Zj) (λx=>rfl) λk ⟨⟨(x0:Bool),_⟩,⟨(x1:Int),_⟩,⟨(x2:Int),_⟩,_⟩=> ?_
    show AY D5 (Aj.l0 (k+1) x0 x1 x2) _;rw[Aj.l0];exact go
   refine And.intro ?_ ?_
   ·refine Al (sl:=R8) (F:=Zk) (λx=>rfl) λk ⟨⟨(x0:Bool),_⟩,⟨(x1:Int),_⟩,⟨(x2:Int),_⟩,⟨(rV:Bool),_⟩,_⟩=> ?_
    show AY D5 (Aj.j2 (k+1) x0 x1 x2 rV) _;rw[Aj.j2];exact go
   refine And.intro ?_ ?_
   ·refine Ap (sl:=SA) (F:=Zm) (λx=>rfl) λk ⟨⟨(x0:Bool),_⟩,⟨(x1:Int),_⟩,⟨(x2:Int),_⟩,_⟩=> ?_
    show AY D5 (Aj.l1 (k+1) x0 x1 x2) _;rw[Aj.l1];exact go
   refine And.intro ?_ ?_
   ·refine Al (sl:=R9) (F:=Zl) (λx=>rfl) λk ⟨⟨(x0:Bool),_⟩,⟨(x1:Int),_⟩,⟨(x2:Int),_⟩,_⟩=> ?_
    show AY D5 (Aj.j4 (k+1) x0 x1 x2) _;rw[Aj.j4];exact go
   exact trivial)
  (λk ⟨(a0:Bool),(a1:Int),(a2:Int),_⟩=>by show AY D5 (Aj.f k a0 a1 a2) _;unfold Aj.f;exact go)
end
section
attribute [local irreducible] Cz.f Bx.f CB.f Df.f Dg.f CL.f Ac.f A8.f BG.f G4.f Aj.f
def Kh:AQ:=⟨[.bool,(.row 73 (.int .u64)), .int .i64],[.int .u64],λk x=>(B6.f k x.1 x.2.1 x.2.2.1).map λr=>(r,())⟩
def Nv (r:Int):TT Kh.rs:=(r,())
@[reducible] def Xt:List Slot:= [.tmp 0 [.ty .bool], .tmp 8 [.ty (.int .i64)], .tmp 9 [.ty (.row 73 (.int .u64))]]
def l8 (k:Nat) (x:TS Xt):Option (Int):=B6.j0 k x.1.1 x.2.1.1 x.2.2.1.1
@[reducible] def Xu:List Slot:= [.tmp 0 [.ty .bool], .tmp 8 [.ty (.int .i64)], .tmp 12 [.ty (.int .u64)]]
def l9 (k:Nat) (x:TS Xu):Option (Int):=B6.j1 k x.1.1 x.2.1.1 x.2.2.1.1
def AD5:Bb (TT Kh.rs):=⟨⟨102,102,[]⟩,AE [],AE [(19,⟨Xt,λk x=>(l8 k x).map Nv⟩),(22,⟨Xu,λk x=>(l9 k x).map Nv⟩)],AE []⟩
theorem QX:Cl Tryz.prog 229 Kh :=
 AT (Bt:=AL []) (l:= [(74, .pu KO),(75, .pu E3),(76, .pu Hw),(124, .pu JA),(154, .pu I7),(155, .pu Gk),(157, .pu Fu),(188, .pu D4),(190, .pu KM),(227, .pu OJ),(258, .pu PI)]) (C:=AD5) (by kernel_rfl) AI ⟨Rf,Hv,Ln,MU,Ll,KA,JB,GX,RX,Xs,yh,trivial⟩ (fn:=Tryz.f229) (by kernel_rfl) rfl (by kernel_rfl) (by decide) (by kernel_rfl) (F:=λk x=>B6.f k x.1 x.2.1 x.2.2.1) (m:=Nv) (λk x=>rfl)
  (by
   refine And.intro ?_ ?_
   ·refine Al (sl:=Xt) (F:=l8) (λx=>rfl) λk ⟨⟨(x0:Bool),_⟩,⟨(x8:Int),_⟩,⟨(x9:List Int),_⟩,_⟩=> ?_
    show AY Nv (B6.j0 (k+1) x0 x8 x9) _;rw[B6.j0];exact go
   refine And.intro ?_ ?_
   ·refine Al (sl:=Xu) (F:=l9) (λx=>rfl) λk ⟨⟨(x0:Bool),_⟩,⟨(x8:Int),_⟩,⟨(aW:Int),_⟩,_⟩=> ?_
    show AY Nv (B6.j1 (k+1) x0 x8 aW) _;rw[B6.j1];exact go
   exact trivial)
  (λk ⟨(a0:Bool),(a1:List Int),(a2:Int),_⟩=>by show AY Nv (B6.f k a0 a1 a2) _;unfold B6.f;exact go)
end
section
attribute [local irreducible] Cz.f Ac.f
def U4:AQ:=⟨[(.row 73 (.int .u64))],[(.row 73 (.int .u64))],λk x=>(Lb.f k x.1).map λr=>(r,())⟩
def fA (r:List Int):TT U4.rs:=(r,())
theorem yj:Cl Tryz.prog 230 U4 :=
 AT (Bt:=AL []) (l:= [(74, .pu KO),(157, .pu Fu)]) (C:=AZ) (by kernel_rfl) AI ⟨Rf,JB,trivial⟩ (fn:=Tryz.f230) (by kernel_rfl) rfl (by kernel_rfl) (by decide) (by kernel_rfl) (F:=λk x=>Lb.f k x.1) (m:=fA) (λk x=>rfl)
  (by exact trivial)
  (λk ⟨(a0:List Int),_⟩=>by show AY fA (Lb.f k a0) _;unfold Lb.f;exact go)
end
section
attribute [local irreducible] B6.f Lb.f
def MT:AQ:=⟨[.bool,(.row 73 (.int .u64)), .int .i64, .bool],[.int .u64],λk x=>(G5.f k x.1 x.2.1 x.2.2.1 x.2.2.2.1).map λr=>(r,())⟩
def fD (r:Int):TT MT.rs:=(r,())
theorem UN:Cl Tryz.prog 158 MT :=
 AT (Bt:=AL []) (l:= [(229, .pu Kh),(230, .pu U4)]) (C:=AZ) (by kernel_rfl) AI ⟨QX,yj,trivial⟩ (fn:=Tryz.f158) (by kernel_rfl) rfl (by kernel_rfl) (by decide) (by kernel_rfl) (F:=λk x=>G5.f k x.1 x.2.1 x.2.2.1 x.2.2.2.1) (m:=fD) (λk x=>rfl)
  (by exact trivial)
  (λk ⟨(a0:Bool),(a1:List Int),(a2:Int),(a3:Bool),_⟩=>by show AY fD (G5.f k a0 a1 a2 a3) _;unfold G5.f;exact go)
end
section
attribute [local irreducible] G6.f Df.f Dg.f CL.f Bg.f Ac.f G5.f
def OL:AQ:=⟨[(.cons .bool (.cons (.row 73 (.int .u64)) (.row 73 (.int .u64))))],[.int .u64],λk x=>(GL.f k x.1.1 x.1.2.1 x.1.2.2).map λr=>(r,())⟩
def U5 (r:Int):TT OL.rs:=(r,())
theorem mA:Cl Tryz.prog 90 OL :=
 AT (Bt:=AL [(3,[0,1,3,0,8,31,63,127]),(9,[0,1,0,7,0,16,63,127,255,255,511,2047])]) (l:= [(123, .pu O6),(124, .pu JA),(154, .pu I7),(155, .pu Gk),(156, .pu OK),(157, .pu Fu),(158, .pu MT)]) (C:=AZ) (by kernel_rfl) AI ⟨dc,MU,Ll,KA,lf,JB,UN,trivial⟩ (fn:=Tryz.f90) (by kernel_rfl) rfl (by kernel_rfl) (by decide) (by kernel_rfl) (F:=λk x=>GL.f k x.1.1 x.1.2.1 x.1.2.2) (m:=U5) (λk x=>rfl)
  (by exact trivial)
  (λk ⟨(a0:Bool × List Int × List Int),_⟩=>by show AY U5 (GL.f k a0.1 a0.2.1 a0.2.2) _;unfold GL.f;exact go)
end
section
attribute [local irreducible] GL.f IK.f
def Je:DU:=⟨[.st 67 [.ty (.int .i64), .ty (.int .i64), .ty (.int .i64), .row false 4 .bool, .ty .bool], .ty (.int .i64), .ty (.int .i64)],[(.cons (.cons .bool (.cons (.row 73 (.int .u64)) (.row 73 (.int .u64)))) (.cons (.int .u64) (.int .i64)))],λk x=>(Iv.f k x.1.1 x.1.2.1 x.1.2.2.1 x.1.2.2.2.1 x.1.2.2.2.2.1 x.2.1 x.2.2.1).map λr=>((((r.1,(r.2.1,r.2.2.1)),(r.2.2.2.1,r.2.2.2.2.1)),()),((r.2.2.2.2.2.1,r.2.2.2.2.2.2.1,r.2.2.2.2.2.2.2.1,r.2.2.2.2.2.2.2.2.1,r.2.2.2.2.2.2.2.2.2,()),()))⟩
def Zn (r:Bool × List Int × List Int × Int × Int × Int × Int × Int × List Bool × Bool):TT Je.rs × ET Je.ps:=((((r.1,(r.2.1,r.2.2.1)),(r.2.2.2.1,r.2.2.2.2.1)),()),((r.2.2.2.2.2.1,r.2.2.2.2.2.2.1,r.2.2.2.2.2.2.2.1,r.2.2.2.2.2.2.2.2.1,r.2.2.2.2.2.2.2.2.2,()),()))
def tv:Bb (TT Je.rs × ET Je.ps):=⟨⟨34,37,[34]⟩,AE [],AE [],AE []⟩
theorem th:Qx Tryz.prog 104 Je :=
 D7 (Bt:=AL []) (l:= [(90, .pu OL),(183, .io JQ [(17,36)])]) (C:=tv) (by kernel_rfl) AI ⟨mA,ez,trivial⟩ (fn:=Tryz.f104) (by kernel_rfl) rfl (by kernel_rfl) (by decide) (by kernel_rfl) (m:=37) (by decide) (by decide) (F:=λk x=>Iv.f k x.1.1 x.1.2.1 x.1.2.2.1 x.1.2.2.2.1 x.1.2.2.2.2.1 x.2.1 x.2.2.1) (q:=Zn) (λk x=>rfl)
  (by exact trivial)
  (λk ⟨⟨Ab,Ae,Af,Ah,Ai,_⟩,(a1:Int),(a2:Int),_⟩=>by show AY Zn (Iv.f k Ab Ae Af Ah Ai a1 a2) _;unfold Iv.f;exact go)
end
section
attribute [local irreducible] Bk.f DY.f
def O5:AQ:=⟨[.int .u64],[.int .u64],λ_ x=>(IL.f x.1).map λr=>(r,())⟩
def fE (r:Int):TT O5.rs:=(r,())
theorem dZ:Cl Tryz.prog 159 O5 :=
 AT (Bt:=AL []) (l:= [(152, .pu Ee),(153, .pu Gj)]) (C:=AZ) (by kernel_rfl) AI ⟨GV,I8,trivial⟩ (fn:=Tryz.f159) (by kernel_rfl) rfl (by kernel_rfl) (by decide) (by kernel_rfl) (F:=λk x=>IL.f x.1) (m:=fE) (λk x=>rfl)
  (by exact trivial)
  (λk ⟨(a0:Int),_⟩=>by show AY fE (IL.f a0) _;unfold IL.f;exact go)
end
section
def Gl:AQ:=⟨[.int .u64],[.bool],λ_ x=>(CX.f x.1).map λr=>(r,())⟩
def mB (r:Bool):TT Gl.rs:=(r,())
theorem I9:Cl Tryz.prog 232 Gl :=
 AT (Bt:=AL []) (l:= []) (C:=AZ) (by kernel_rfl) AI trivial (fn:=Tryz.f232) (by kernel_rfl) rfl (by kernel_rfl) (by decide) (by kernel_rfl) (F:=λk x=>CX.f x.1) (m:=mB) (λk x=>rfl)
  (by exact trivial)
  (λk ⟨(a0:Int),_⟩=>by show AY mB (CX.f a0) _;unfold CX.f;exact go)
end
section
attribute [local irreducible] EG.f F4.f
def GU:AQ:=⟨[.int .u64],[.int .u64, .int .i64],λ_ x=>(CV.f x.1).map λr=>(r.1,r.2,())⟩
def Zo (r:Int × Int):TT GU.rs:=(r.1,r.2,())
theorem Ja:Cl Tryz.prog 233 GU :=
 AT (Bt:=AL []) (l:= [(225, .pu LA),(226, .pu PG)]) (C:=AZ) (by kernel_rfl) AI ⟨RU,ef,trivial⟩ (fn:=Tryz.f233) (by kernel_rfl) rfl (by kernel_rfl) (by decide) (by kernel_rfl) (F:=λk x=>CV.f x.1) (m:=Zo) (λk x=>rfl)
  (by exact trivial)
  (λk ⟨(a0:Int),_⟩=>by show AY Zo (CV.f a0) _;unfold CV.f;exact go)
end
section
attribute [local irreducible] Cz.f Bx.f CB.f Ac.f B6.f CX.f CV.f
def OM:AQ:=⟨[.int .u64, .int .u64],[.int .u64],λk x=>(Hh.f k x.1 x.2.1).map λr=>(r,())⟩
def U6 (r:Int):TT OM.rs:=(r,())
theorem mC:Cl Tryz.prog 231 OM :=
 AT (Bt:=AL []) (l:= [(74, .pu KO),(75, .pu E3),(76, .pu Hw),(157, .pu Fu),(229, .pu Kh),(232, .pu Gl),(233, .pu GU)]) (C:=AZ) (by kernel_rfl) AI ⟨Rf,Hv,Ln,JB,QX,I9,Ja,trivial⟩ (fn:=Tryz.f231) (by kernel_rfl) rfl (by kernel_rfl) (by decide) (by kernel_rfl) (F:=λk x=>Hh.f k x.1 x.2.1) (m:=U6) (λk x=>rfl)
  (by exact trivial)
  (λk ⟨(a0:Int),(a1:Int),_⟩=>by show AY U6 (Hh.f k a0 a1) _;unfold Hh.f;exact go)
end
section
attribute [local irreducible] Bk.f DY.f Hh.f
def KN:AQ:=⟨[.int .u64, .int .u64],[.int .u64],λk x=>(CM.f k x.1 x.2.1).map λr=>(r,())⟩
def SB (r:Int):TT KN.rs:=(r,())
@[reducible] def U7:List Slot:= [.tmp 0 [.ty (.int .u64)], .tmp 1 [.ty (.int .u64)], .tmp 5 [.ty (.int .i64)], .tmp 6 [.ty (.int .i64)], .tmp 29 [.ty .bool]]
def fF (k:Nat) (x:TS U7):Option (Int):=CM.j0 k x.1.1 x.2.1.1 x.2.2.1.1 x.2.2.2.1.1 x.2.2.2.2.1.1
def ABX:Bb (TT KN.rs):=⟨⟨40,40,[]⟩,AE [],AE [],AE [(2,⟨U7,λk x=>(fF k x).map SB⟩)]⟩
theorem Ra:Cl Tryz.prog 160 KN :=
 AT (Bt:=AL []) (l:= [(152, .pu Ee),(153, .pu Gj),(231, .pu OM)]) (C:=ABX) (by kernel_rfl) AI ⟨GV,I8,mC,trivial⟩ (fn:=Tryz.f160) (by kernel_rfl) rfl (by kernel_rfl) (by decide) (by kernel_rfl) (F:=λk x=>CM.f k x.1 x.2.1) (m:=SB) (λk x=>rfl)
  (by
   refine And.intro ?_ ?_
   ·refine Al (sl:=U7) (F:=fF) (λx=>rfl) λk ⟨⟨(x0:Int),_⟩,⟨(x1:Int),_⟩,⟨(x5:Int),_⟩,⟨(x6:Int),_⟩,⟨(cV:Bool),_⟩,_⟩=> ?_
    show AY SB (CM.j0 (k+1) x0 x1 x5 x6 cV) _;rw[CM.j0];exact go
   exact trivial)
  (λk ⟨(a0:Int),(a1:Int),_⟩=>by show AY SB (CM.f k a0 a1) _;unfold CM.f;exact go)
end
section
attribute [local irreducible] IL.f CM.f
def OD:AQ:=⟨[.int .u64, .int .u64],[.int .u64],λk x=>(H9.f k x.1 x.2.1).map λr=>(r,())⟩
def mD (r:Int):TT OD.rs:=(r,())
theorem Xl:Cl Tryz.prog 161 OD :=
 AT (Bt:=AL []) (l:= [(159, .pu O5),(160, .pu KN)]) (C:=AZ) (by kernel_rfl) AI ⟨dZ,Ra,trivial⟩ (fn:=Tryz.f161) (by kernel_rfl) rfl (by kernel_rfl) (by decide) (by kernel_rfl) (F:=λk x=>H9.f k x.1 x.2.1) (m:=mD) (λk x=>rfl)
  (by exact trivial)
  (λk ⟨(a0:Int),(a1:Int),_⟩=>by show AY mD (H9.f k a0 a1) _;unfold H9.f;exact go)
end
section
attribute [local irreducible] BP.f Bk.f DY.f Dg.f B6.f CX.f CV.f
def Lo:AQ:=⟨[.int .u64, .int .u64],[.int .u64],λk x=>(BQ.f k x.1 x.2.1).map λr=>(r,())⟩
def Lt (r:Int):TT Lo.rs:=(r,())
@[reducible] def U8:List Slot:= [.tmp 0 [.ty (.int .u64)], .tmp 1 [.ty (.int .u64)], .tmp 5 [.ty (.int .i64)], .tmp 6 [.ty (.int .i64)], .tmp 7 [.ty .bool], .tmp 42 [.ty .bool]]
def fG (k:Nat) (x:TS U8):Option (Int):=BQ.j0 k x.1.1 x.2.1.1 x.2.2.1.1 x.2.2.2.1.1 x.2.2.2.2.1.1 x.2.2.2.2.2.1.1
@[reducible] def U9:List Slot:= [.tmp 0 [.ty (.int .u64)], .tmp 1 [.ty (.int .u64)], .tmp 7 [.ty .bool], .tmp 49 [.ty .bool]]
def fI (k:Nat) (x:TS U9):Option (Int):=BQ.j1 k x.1.1 x.2.1.1 x.2.2.1.1 x.2.2.2.1.1
def ABY:Bb (TT Lo.rs):=⟨⟨72,72,[]⟩,AE [],AE [],AE [(3,⟨U8,λk x=>(fG k x).map Lt⟩),(5,⟨U9,λk x=>(fI k x).map Lt⟩)]⟩
theorem Xm:Cl Tryz.prog 162 Lo :=
 AT (Bt:=AL []) (l:= [(73, .pu Hu),(152, .pu Ee),(153, .pu Gj),(154, .pu I7),(229, .pu Kh),(232, .pu Gl),(233, .pu GU)]) (C:=ABY) (by kernel_rfl) AI ⟨Lm,GV,I8,Ll,QX,I9,Ja,trivial⟩ (fn:=Tryz.f162) (by kernel_rfl) rfl (by kernel_rfl) (by decide) (by kernel_rfl) (F:=λk x=>BQ.f k x.1 x.2.1) (m:=Lt) (λk x=>rfl)
  (by
   refine And.intro ?_ ?_
   ·refine Al (sl:=U8) (F:=fG) (λx=>rfl) λk ⟨⟨(x0:Int),_⟩,⟨(x1:Int),_⟩,⟨(x5:Int),_⟩,⟨(x6:Int),_⟩,⟨(x7:Bool),_⟩,⟨(x42:Bool),_⟩,_⟩=> ?_
    show AY Lt (BQ.j0 (k+1) x0 x1 x5 x6 x7 x42) _;rw[BQ.j0];exact go
   refine And.intro ?_ ?_
   ·refine Al (sl:=U9) (F:=fI) (λx=>rfl) λk ⟨⟨(x0:Int),_⟩,⟨(x1:Int),_⟩,⟨(x7:Bool),_⟩,⟨(x49:Bool),_⟩,_⟩=> ?_
    show AY Lt (BQ.j1 (k+1) x0 x1 x7 x49) _;rw[BQ.j1];exact go
   exact trivial)
  (λk ⟨(a0:Int),(a1:Int),_⟩=>by show AY Lt (BQ.f k a0 a1) _;unfold BQ.f;exact go)
end
section
def RN:AQ:=⟨[.int .u64, .int .u64, .int .u64],[.int .u64, .int .u64, .bool],λk x=>(EB.f k x.1 x.2.1 x.2.2.1).map λr=>(r.1,r.2.1,r.2.2,())⟩
def SC (r:Int × Int × Bool):TT RN.rs:=(r.1,r.2.1,r.2.2,())
@[reducible] def VA:List Slot:= [.tmp 1 [.ty (.int .u64)], .tmp 2 [.ty (.int .u64)], .tmp 9 [.ty (.int .u64)], .tmp 10 [.ty (.int .u64)], .tmp 11 [.ty (.int .i64)]]
def fJ (k:Nat) (x:TS VA):Option (Int × Int × Bool):=EB.l0 k x.1.1 x.2.1.1 x.2.2.1.1 x.2.2.2.1.1 x.2.2.2.2.1.1
def ABZ:Bb (TT RN.rs):=⟨⟨47,47,[]⟩,AE [(0,⟨VA,λk x=>(fJ k x).map SC⟩)],AE [],AE []⟩
theorem ABB:Cl Tryz.prog 234 RN :=
 AT (Bt:=AL []) (l:= []) (C:=ABZ) (by kernel_rfl) AI trivial (fn:=Tryz.f234) (by kernel_rfl) rfl (by kernel_rfl) (by decide) (by kernel_rfl) (F:=λk x=>EB.f k x.1 x.2.1 x.2.2.1) (m:=SC) (λk x=>rfl)
  (by
   refine And.intro ?_ ?_
   ·refine Ap (sl:=VA) (F:=fJ) (λx=>rfl) λk ⟨⟨(x1:Int),_⟩,⟨(x2:Int),_⟩,⟨(x9:Int),_⟩,⟨(Jl:Int),_⟩,⟨(Ik:Int),_⟩,_⟩=> ?_
    show AY SC (EB.l0 (k+1) x1 x2 x9 Jl Ik) _;rw[EB.l0];exact go
   exact trivial)
  (λk ⟨(a0:Int),(a1:Int),(a2:Int),_⟩=>by show AY SC (EB.f k a0 a1 a2) _;unfold EB.f;exact go)
end
end Go.Proofs.YtjocbnjpjihpnaaGreat.A
