/- Functions that come to what their texts say. -/
import Derived.Test.YtjocbnjpjihpnaaGreatAAa
import Derived.Test.YtjocbnjpjihpnaaGreatWWc
import Derived.Test.YtjocbnjpjihpnaaGreatBB
import Derived.Test.YtjocbnjpjihpnaaGreatFgradinelaw18same
import Derived.Test.YtjocbnjpjihpnaaGreatFgradinelaw18does
import Derived.Test.YtjocbnjpjihpnaaGreatFgradinelaw18Runback
import Derived.Test.YtjocbnjpjihpnaaGreatFgradinelaw18Step
import Derived.Test.YtjocbnjpjihpnaaGreatFgradinelaw18long
namespace Go.Proofs.YtjocbnjpjihpnaaGreat.A
open Go.RowKit Go.Proofs.YtjocbnjpjihpnaaGreat.P Go.Proofs.YtjocbnjpjihpnaaGreatW.AD Go.Proofs.YtjocbnjpjihpnaaGreatW.AR Go.Proofs.YtjocbnjpjihpnaaGreatW.AY Go.Proofs.YtjocbnjpjihpnaaGreatW.Gb
set_option linter.unusedVariables false
set_option linter.unusedSimpArgs false
set_option maxRecDepth 100000
set_option maxHeartbeats 4000000
section
attribute [local irreducible] Qn.f Jt.f A7.f
def Cb:Dj:=⟨[.st 135 [.ty (.int .i64), .ty (.int .i64), .row false 93 (.cons (.int .i64) (.cons (.int .i64) (.cons (.int .i64) (.cons .bool (.cons (.row 73 (.int .u64)) (.row 73 (.int .u64))))))), .ty (.row 4 .bool), .row false 4 .bool, .ty (.int .i64), .ty (.int .i64), .ty .bool, .ty (.int .i64)], .ty (.int .i64), .ty (.int .i64)],[(.cons .bool (.cons (.row 73 (.int .u64)) (.row 73 (.int .u64))))],λk x=>(BX.f k x.1.1 x.1.2.1 x.1.2.2.1 x.1.2.2.2.1 x.1.2.2.2.2.1 x.1.2.2.2.2.2.1 x.1.2.2.2.2.2.2.1 x.1.2.2.2.2.2.2.2.1 x.1.2.2.2.2.2.2.2.2.1 x.2.1 x.2.2.1).map λr=>(((r.1,(r.2.1,r.2.2.1)),()),((r.2.2.2.1,r.2.2.2.2.1,r.2.2.2.2.2.1,r.2.2.2.2.2.2.1,r.2.2.2.2.2.2.2.1,r.2.2.2.2.2.2.2.2.1,r.2.2.2.2.2.2.2.2.2.1,r.2.2.2.2.2.2.2.2.2.2.1,r.2.2.2.2.2.2.2.2.2.2.2,()),()))⟩
def KC (r:Bool × List Int × List Int × Int × Int × List (Int × Int × Int × Bool × (List Int) × List Int) × List Bool × List Bool × Int × Int × Bool × Int):TT Cb.rs × ET Cb.ps:=(((r.1,(r.2.1,r.2.2.1)),()),((r.2.2.2.1,r.2.2.2.2.1,r.2.2.2.2.2.1,r.2.2.2.2.2.2.1,r.2.2.2.2.2.2.2.1,r.2.2.2.2.2.2.2.2.1,r.2.2.2.2.2.2.2.2.2.1,r.2.2.2.2.2.2.2.2.2.2.1,r.2.2.2.2.2.2.2.2.2.2.2,()),()))
def Qv:Bu (TT Cb.rs × ET Cb.ps):=⟨⟨23,28,[23]⟩,AH [],AH [],AH []⟩
theorem KD:Tj Tryz.prog 169 Cb :=
 Ez (Bt:=AO [(2,[0,1,0,7,15,31,31,0,191,511])]) (l:= [(62, .pu cE),(140, .pu R5),(178, .io B9 [(21,26)])]) (C:=Qv) (by kernel_rfl) AI ⟨ABv,gM,EY,trivial⟩ (fn:=Tryz.f169) (by kernel_rfl) rfl (by kernel_rfl) (by decide) (by kernel_rfl) (m:=28) (by decide) (by decide) (F:=λk x=>BX.f k x.1.1 x.1.2.1 x.1.2.2.1 x.1.2.2.2.1 x.1.2.2.2.2.1 x.1.2.2.2.2.2.1 x.1.2.2.2.2.2.2.1 x.1.2.2.2.2.2.2.2.1 x.1.2.2.2.2.2.2.2.2.1 x.2.1 x.2.2.1) (q:=KC) (λk x=>rfl)
  (by exact trivial)
  (λk ⟨⟨Af,Al,Ai,Ar,Ao,Ap,Au,Aw,Av,_⟩,(a1:Int),(a2:Int),_⟩=>by show Ad KC (BX.f k Af Al Ai Ar Ao Ap Au Aw Av a1 a2) _;unfold BX.f;exact go)
end
section
attribute [local irreducible] EK.f BL.f BX.f Bj.f
def D6:Dj:=⟨[.st 135 [.ty (.int .i64), .ty (.int .i64), .row false 93 (.cons (.int .i64) (.cons (.int .i64) (.cons (.int .i64) (.cons .bool (.cons (.row 73 (.int .u64)) (.row 73 (.int .u64))))))), .ty (.row 4 .bool), .row false 4 .bool, .ty (.int .i64), .ty (.int .i64), .ty .bool, .ty (.int .i64)], .ty (.cons (.int .i64) (.cons (.int .i64) (.int .u64)))],[(.cons (.cons .bool (.cons (.row 73 (.int .u64)) (.row 73 (.int .u64)))) (.cons (.int .u64) (.int .i64)))],λk x=>(CC.f k x.1.1 x.1.2.1 x.1.2.2.1 x.1.2.2.2.1 x.1.2.2.2.2.1 x.1.2.2.2.2.2.1 x.1.2.2.2.2.2.2.1 x.1.2.2.2.2.2.2.2.1 x.1.2.2.2.2.2.2.2.2.1 x.2.1.1 x.2.1.2.1 x.2.1.2.2).map λr=>((((r.1,(r.2.1,r.2.2.1)),(r.2.2.2.1,r.2.2.2.2.1)),()),((r.2.2.2.2.2.1,r.2.2.2.2.2.2.1,r.2.2.2.2.2.2.2.1,r.2.2.2.2.2.2.2.2.1,r.2.2.2.2.2.2.2.2.2.1,r.2.2.2.2.2.2.2.2.2.2.1,r.2.2.2.2.2.2.2.2.2.2.2.1,r.2.2.2.2.2.2.2.2.2.2.2.2.1,r.2.2.2.2.2.2.2.2.2.2.2.2.2,()),()))⟩
def PW (r:Bool × List Int × List Int × Int × Int × Int × Int × List (Int × Int × Int × Bool × (List Int) × List Int) × List Bool × List Bool × Int × Int × Bool × Int):TT D6.rs × ET D6.ps:=((((r.1,(r.2.1,r.2.2.1)),(r.2.2.2.1,r.2.2.2.2.1)),()),((r.2.2.2.2.2.1,r.2.2.2.2.2.2.1,r.2.2.2.2.2.2.2.1,r.2.2.2.2.2.2.2.2.1,r.2.2.2.2.2.2.2.2.2.1,r.2.2.2.2.2.2.2.2.2.2.1,r.2.2.2.2.2.2.2.2.2.2.2.1,r.2.2.2.2.2.2.2.2.2.2.2.2.1,r.2.2.2.2.2.2.2.2.2.2.2.2.2,()),()))
def Yl:Bu (TT D6.rs × ET D6.ps):=⟨⟨48,57,[48]⟩,AH [],AH [],AH []⟩
theorem PX:Tj Tryz.prog 98 D6 :=
 Ez (Bt:=AO []) (l:= [(142, .pu Jw),(168, .io CR [(7,51)]),(169, .io Cb [(20,53)]),(170, .io Cv [(34,55)])]) (C:=Yl) (by kernel_rfl) AI ⟨S9,Gg,KD,I7,trivial⟩ (fn:=Tryz.f98) (by kernel_rfl) rfl (by kernel_rfl) (by decide) (by kernel_rfl) (m:=57) (by decide) (by decide) (F:=λk x=>CC.f k x.1.1 x.1.2.1 x.1.2.2.1 x.1.2.2.2.1 x.1.2.2.2.2.1 x.1.2.2.2.2.2.1 x.1.2.2.2.2.2.2.1 x.1.2.2.2.2.2.2.2.1 x.1.2.2.2.2.2.2.2.2.1 x.2.1.1 x.2.1.2.1 x.2.1.2.2) (q:=PW) (λk x=>rfl)
  (by exact trivial)
  (λk ⟨⟨Af,Al,Ai,Ar,Ao,Ap,Au,Aw,Av,_⟩,(a1:Int × Int × Int),_⟩=>by show Ad PW (CC.f k Af Al Ai Ar Ao Ap Au Aw Av a1.1 a1.2.1 a1.2.2) _;unfold CC.f;exact go)
end
section
attribute [local irreducible] AL.f
def Ep:Dj:=⟨[.st 135 [.ty (.int .i64), .ty (.int .i64), .row false 93 (.cons (.int .i64) (.cons (.int .i64) (.cons (.int .i64) (.cons .bool (.cons (.row 73 (.int .u64)) (.row 73 (.int .u64))))))), .ty (.row 4 .bool), .row false 4 .bool, .ty (.int .i64), .ty (.int .i64), .ty .bool, .ty (.int .i64)], .ty (.cons (.cons .bool (.cons (.row 73 (.int .u64)) (.row 73 (.int .u64)))) (.cons (.int .u64) (.int .i64)))],[(.cons (.cons .bool (.cons (.row 73 (.int .u64)) (.row 73 (.int .u64)))) (.cons (.int .u64) (.int .i64)))],λk x=>(GR.f k x.1.1 x.1.2.1 x.1.2.2.1 x.1.2.2.2.1 x.1.2.2.2.2.1 x.1.2.2.2.2.2.1 x.1.2.2.2.2.2.2.1 x.1.2.2.2.2.2.2.2.1 x.1.2.2.2.2.2.2.2.2.1 x.2.1.1.1 x.2.1.1.2.1 x.2.1.1.2.2 x.2.1.2.1 x.2.1.2.2).map λr=>((((r.1,(r.2.1,r.2.2.1)),(r.2.2.2.1,r.2.2.2.2.1)),()),((r.2.2.2.2.2.1,r.2.2.2.2.2.2.1,r.2.2.2.2.2.2.2.1,r.2.2.2.2.2.2.2.2.1,r.2.2.2.2.2.2.2.2.2.1,r.2.2.2.2.2.2.2.2.2.2.1,r.2.2.2.2.2.2.2.2.2.2.2.1,r.2.2.2.2.2.2.2.2.2.2.2.2.1,r.2.2.2.2.2.2.2.2.2.2.2.2.2,()),()))⟩
def PY (r:Bool × List Int × List Int × Int × Int × Int × Int × List (Int × Int × Int × Bool × (List Int) × List Int) × List Bool × List Bool × Int × Int × Bool × Int):TT Ep.rs × ET Ep.ps:=((((r.1,(r.2.1,r.2.2.1)),(r.2.2.2.1,r.2.2.2.2.1)),()),((r.2.2.2.2.2.1,r.2.2.2.2.2.2.1,r.2.2.2.2.2.2.2.1,r.2.2.2.2.2.2.2.2.1,r.2.2.2.2.2.2.2.2.2.1,r.2.2.2.2.2.2.2.2.2.2.1,r.2.2.2.2.2.2.2.2.2.2.2.1,r.2.2.2.2.2.2.2.2.2.2.2.2.1,r.2.2.2.2.2.2.2.2.2.2.2.2.2,()),()))
def Ym:Bu (TT Ep.rs × ET Ep.ps):=⟨⟨9,14,[9]⟩,AH [],AH [],AH []⟩
theorem Yn:Tj Tryz.prog 177 Ep :=
 Ez (Bt:=AO []) (l:= [(171, .io CA [(8,12)])]) (C:=Ym) (by kernel_rfl) AI ⟨Dn,trivial⟩ (fn:=Tryz.f177) (by kernel_rfl) rfl (by kernel_rfl) (by decide) (by kernel_rfl) (m:=14) (by decide) (by decide) (F:=λk x=>GR.f k x.1.1 x.1.2.1 x.1.2.2.1 x.1.2.2.2.1 x.1.2.2.2.2.1 x.1.2.2.2.2.2.1 x.1.2.2.2.2.2.2.1 x.1.2.2.2.2.2.2.2.1 x.1.2.2.2.2.2.2.2.2.1 x.2.1.1.1 x.2.1.1.2.1 x.2.1.1.2.2 x.2.1.2.1 x.2.1.2.2) (q:=PY) (λk x=>rfl)
  (by exact trivial)
  (λk ⟨⟨Af,Al,Ai,Ar,Ao,Ap,Au,Aw,Av,_⟩,(a1:(Bool × (List Int) × List Int) × Int × Int),_⟩=>by show Ad PY (GR.f k Af Al Ai Ar Ao Ap Au Aw Av a1.1.1 a1.1.2.1 a1.1.2.2 a1.2.1 a1.2.2) _;unfold GR.f;exact go)
end
section
def EW:Dj:=⟨[.st 135 [.ty (.int .i64), .ty (.int .i64), .row false 93 (.cons (.int .i64) (.cons (.int .i64) (.cons (.int .i64) (.cons .bool (.cons (.row 73 (.int .u64)) (.row 73 (.int .u64))))))), .ty (.row 4 .bool), .row false 4 .bool, .ty (.int .i64), .ty (.int .i64), .ty .bool, .ty (.int .i64)]],[(.cons (.int .i64) (.cons (.int .i64) (.cons (.int .i64) (.cons (.int .i64) (.cons (.int .i64) (.cons .bool (.int .i64)))))))],λk x=>(CL.f k x.1.1 x.1.2.1 x.1.2.2.1 x.1.2.2.2.1 x.1.2.2.2.2.1 x.1.2.2.2.2.2.1 x.1.2.2.2.2.2.2.1 x.1.2.2.2.2.2.2.2.1 x.1.2.2.2.2.2.2.2.2.1).map λr=>(((r.1,(r.2.1,(r.2.2.1,(r.2.2.2.1,(r.2.2.2.2.1,(r.2.2.2.2.2.1,r.2.2.2.2.2.2.1)))))),()),((r.2.2.2.2.2.2.2.1,r.2.2.2.2.2.2.2.2.1,r.2.2.2.2.2.2.2.2.2.1,r.2.2.2.2.2.2.2.2.2.2.1,r.2.2.2.2.2.2.2.2.2.2.2.1,r.2.2.2.2.2.2.2.2.2.2.2.2.1,r.2.2.2.2.2.2.2.2.2.2.2.2.2.1,r.2.2.2.2.2.2.2.2.2.2.2.2.2.2.1,r.2.2.2.2.2.2.2.2.2.2.2.2.2.2.2,()),()))⟩
def Nf (r:Int × Int × Int × Int × Int × Bool × Int × Int × Int × List (Int × Int × Int × Bool × (List Int) × List Int) × List Bool × List Bool × Int × Int × Bool × Int):TT EW.rs × ET EW.ps:=(((r.1,(r.2.1,(r.2.2.1,(r.2.2.2.1,(r.2.2.2.2.1,(r.2.2.2.2.2.1,r.2.2.2.2.2.2.1)))))),()),((r.2.2.2.2.2.2.2.1,r.2.2.2.2.2.2.2.2.1,r.2.2.2.2.2.2.2.2.2.1,r.2.2.2.2.2.2.2.2.2.2.1,r.2.2.2.2.2.2.2.2.2.2.2.1,r.2.2.2.2.2.2.2.2.2.2.2.2.1,r.2.2.2.2.2.2.2.2.2.2.2.2.2.1,r.2.2.2.2.2.2.2.2.2.2.2.2.2.2.1,r.2.2.2.2.2.2.2.2.2.2.2.2.2.2.2,()),()))
def W8:Bu (TT EW.rs × ET EW.ps):=⟨⟨37,40,[37]⟩,AH [],AH [],AH []⟩
theorem W6:Tj Tryz.prog 51 EW :=
 Ez (Bt:=AO [(3,[0,1,3,7,15,0,32,96,224,0,512,1536,3584,7680,0,16384,49152,114688,0,262144,786432,1835008,0,4194304,12582912,29360128,0,67108864,201326592,469762048,1073741823,2147483647])]) (l:= []) (C:=W8) (by kernel_rfl) AI trivial (fn:=Tryz.f51) (by kernel_rfl) rfl (by kernel_rfl) (by decide) (by kernel_rfl) (m:=40) (by decide) (by decide) (F:=λk x=>CL.f k x.1.1 x.1.2.1 x.1.2.2.1 x.1.2.2.2.1 x.1.2.2.2.2.1 x.1.2.2.2.2.2.1 x.1.2.2.2.2.2.2.1 x.1.2.2.2.2.2.2.2.1 x.1.2.2.2.2.2.2.2.2.1) (q:=Nf) (λk x=>rfl)
  (by exact trivial)
  (λk ⟨⟨Af,Al,Ai,Ar,Ao,Ap,Au,Aw,Av,_⟩,_⟩=>by show Ad Nf (CL.f k Af Al Ai Ar Ao Ap Au Aw Av) _;unfold CL.f;exact go)
end
section
def Eo:Dj:=⟨[.st 135 [.ty (.int .i64), .ty (.int .i64), .row false 93 (.cons (.int .i64) (.cons (.int .i64) (.cons (.int .i64) (.cons .bool (.cons (.row 73 (.int .u64)) (.row 73 (.int .u64))))))), .ty (.row 4 .bool), .row false 4 .bool, .ty (.int .i64), .ty (.int .i64), .ty .bool, .ty (.int .i64)]],[(.row 4 .bool)],λk x=>(EM.f k x.1.1 x.1.2.1 x.1.2.2.1 x.1.2.2.2.1 x.1.2.2.2.2.1 x.1.2.2.2.2.2.1 x.1.2.2.2.2.2.2.1 x.1.2.2.2.2.2.2.2.1 x.1.2.2.2.2.2.2.2.2.1).map λr=>((r.1,()),((r.2.1,r.2.2.1,r.2.2.2.1,r.2.2.2.2.1,r.2.2.2.2.2.1,r.2.2.2.2.2.2.1,r.2.2.2.2.2.2.2.1,r.2.2.2.2.2.2.2.2.1,r.2.2.2.2.2.2.2.2.2,()),()))⟩
def PZ (r:List Bool × Int × Int × List (Int × Int × Int × Bool × (List Int) × List Int) × List Bool × List Bool × Int × Int × Bool × Int):TT Eo.rs × ET Eo.ps:=((r.1,()),((r.2.1,r.2.2.1,r.2.2.2.1,r.2.2.2.2.1,r.2.2.2.2.2.1,r.2.2.2.2.2.2.1,r.2.2.2.2.2.2.2.1,r.2.2.2.2.2.2.2.2.1,r.2.2.2.2.2.2.2.2.2,()),()))
def Yo:Bu (TT Eo.rs × ET Eo.ps):=⟨⟨11,14,[11]⟩,AH [],AH [],AH []⟩
theorem Yk:Tj Tryz.prog 47 Eo :=
 Ez (Bt:=AO []) (l:= []) (C:=Yo) (by kernel_rfl) AI trivial (fn:=Tryz.f47) (by kernel_rfl) rfl (by kernel_rfl) (by decide) (by kernel_rfl) (m:=14) (by decide) (by decide) (F:=λk x=>EM.f k x.1.1 x.1.2.1 x.1.2.2.1 x.1.2.2.2.1 x.1.2.2.2.2.1 x.1.2.2.2.2.2.1 x.1.2.2.2.2.2.2.1 x.1.2.2.2.2.2.2.2.1 x.1.2.2.2.2.2.2.2.2.1) (q:=PZ) (λk x=>rfl)
  (by exact trivial)
  (λk ⟨⟨Af,Al,Ai,Ar,Ao,Ap,Au,Aw,Av,_⟩,_⟩=>by show Ad PZ (EM.f k Af Al Ai Ar Ao Ap Au Aw Av) _;unfold EM.f;exact go)
end
section
attribute [local irreducible] AL.f
def D7:Dj:=⟨[.st 135 [.ty (.int .i64), .ty (.int .i64), .row false 93 (.cons (.int .i64) (.cons (.int .i64) (.cons (.int .i64) (.cons .bool (.cons (.row 73 (.int .u64)) (.row 73 (.int .u64))))))), .ty (.row 4 .bool), .row false 4 .bool, .ty (.int .i64), .ty (.int .i64), .ty .bool, .ty (.int .i64)], .ty (.cons (.cons .bool (.cons (.row 73 (.int .u64)) (.row 73 (.int .u64)))) (.cons (.int .u64) (.int .i64))), .ty (.cons (.cons .bool (.cons (.row 73 (.int .u64)) (.row 73 (.int .u64)))) (.cons (.int .u64) (.int .i64)))],[(.cons (.cons .bool (.cons (.row 73 (.int .u64)) (.row 73 (.int .u64)))) (.cons (.int .u64) (.int .i64)))],λk x=>(DD.f k x.1.1 x.1.2.1 x.1.2.2.1 x.1.2.2.2.1 x.1.2.2.2.2.1 x.1.2.2.2.2.2.1 x.1.2.2.2.2.2.2.1 x.1.2.2.2.2.2.2.2.1 x.1.2.2.2.2.2.2.2.2.1 x.2.1.1.1 x.2.1.1.2.1 x.2.1.1.2.2 x.2.1.2.1 x.2.1.2.2 x.2.2.1.1.1 x.2.2.1.1.2.1 x.2.2.1.1.2.2 x.2.2.1.2.1 x.2.2.1.2.2).map λr=>((((r.1,(r.2.1,r.2.2.1)),(r.2.2.2.1,r.2.2.2.2.1)),()),((r.2.2.2.2.2.1,r.2.2.2.2.2.2.1,r.2.2.2.2.2.2.2.1,r.2.2.2.2.2.2.2.2.1,r.2.2.2.2.2.2.2.2.2.1,r.2.2.2.2.2.2.2.2.2.2.1,r.2.2.2.2.2.2.2.2.2.2.2.1,r.2.2.2.2.2.2.2.2.2.2.2.2.1,r.2.2.2.2.2.2.2.2.2.2.2.2.2,()),()))⟩
def Pa (r:Bool × List Int × List Int × Int × Int × Int × Int × List (Int × Int × Int × Bool × (List Int) × List Int) × List Bool × List Bool × Int × Int × Bool × Int):TT D7.rs × ET D7.ps:=((((r.1,(r.2.1,r.2.2.1)),(r.2.2.2.1,r.2.2.2.2.1)),()),((r.2.2.2.2.2.1,r.2.2.2.2.2.2.1,r.2.2.2.2.2.2.2.1,r.2.2.2.2.2.2.2.2.1,r.2.2.2.2.2.2.2.2.2.1,r.2.2.2.2.2.2.2.2.2.2.1,r.2.2.2.2.2.2.2.2.2.2.2.1,r.2.2.2.2.2.2.2.2.2.2.2.2.1,r.2.2.2.2.2.2.2.2.2.2.2.2.2,()),()))
def Yp:Bu (TT D7.rs × ET D7.ps):=⟨⟨11,16,[11]⟩,AH [],AH [],AH []⟩
theorem Pb:Tj Tryz.prog 99 D7 :=
 Ez (Bt:=AO []) (l:= [(171, .io CA [(10,14)])]) (C:=Yp) (by kernel_rfl) AI ⟨Dn,trivial⟩ (fn:=Tryz.f99) (by kernel_rfl) rfl (by kernel_rfl) (by decide) (by kernel_rfl) (m:=16) (by decide) (by decide) (F:=λk x=>DD.f k x.1.1 x.1.2.1 x.1.2.2.1 x.1.2.2.2.1 x.1.2.2.2.2.1 x.1.2.2.2.2.2.1 x.1.2.2.2.2.2.2.1 x.1.2.2.2.2.2.2.2.1 x.1.2.2.2.2.2.2.2.2.1 x.2.1.1.1 x.2.1.1.2.1 x.2.1.1.2.2 x.2.1.2.1 x.2.1.2.2 x.2.2.1.1.1 x.2.2.1.1.2.1 x.2.2.1.1.2.2 x.2.2.1.2.1 x.2.2.1.2.2) (q:=Pa) (λk x=>rfl)
  (by exact trivial)
  (λk ⟨⟨Af,Al,Ai,Ar,Ao,Ap,Au,Aw,Av,_⟩,(a1:(Bool × (List Int) × List Int) × Int × Int),(a2:(Bool × (List Int) × List Int) × Int × Int),_⟩=>by show Ad Pa (DD.f k Af Al Ai Ar Ao Ap Au Aw Av a1.1.1 a1.1.2.1 a1.1.2.2 a1.2.1 a1.2.2 a2.1.1 a2.1.2.1 a2.1.2.2 a2.2.1 a2.2.2) _;unfold DD.f;exact go)
end
section
attribute [local irreducible] AL.f
def Er:Dj:=⟨[.st 135 [.ty (.int .i64), .ty (.int .i64), .row false 93 (.cons (.int .i64) (.cons (.int .i64) (.cons (.int .i64) (.cons .bool (.cons (.row 73 (.int .u64)) (.row 73 (.int .u64))))))), .ty (.row 4 .bool), .row false 4 .bool, .ty (.int .i64), .ty (.int .i64), .ty .bool, .ty (.int .i64)], .ty (.cons (.cons .bool (.cons (.row 73 (.int .u64)) (.row 73 (.int .u64)))) (.cons (.int .u64) (.int .i64)))],[(.cons (.cons .bool (.cons (.row 73 (.int .u64)) (.row 73 (.int .u64)))) (.cons (.int .u64) (.int .i64)))],λk x=>(GU.f k x.1.1 x.1.2.1 x.1.2.2.1 x.1.2.2.2.1 x.1.2.2.2.2.1 x.1.2.2.2.2.2.1 x.1.2.2.2.2.2.2.1 x.1.2.2.2.2.2.2.2.1 x.1.2.2.2.2.2.2.2.2.1 x.2.1.1.1 x.2.1.1.2.1 x.2.1.1.2.2 x.2.1.2.1 x.2.1.2.2).map λr=>((((r.1,(r.2.1,r.2.2.1)),(r.2.2.2.1,r.2.2.2.2.1)),()),((r.2.2.2.2.2.1,r.2.2.2.2.2.2.1,r.2.2.2.2.2.2.2.1,r.2.2.2.2.2.2.2.2.1,r.2.2.2.2.2.2.2.2.2.1,r.2.2.2.2.2.2.2.2.2.2.1,r.2.2.2.2.2.2.2.2.2.2.2.1,r.2.2.2.2.2.2.2.2.2.2.2.2.1,r.2.2.2.2.2.2.2.2.2.2.2.2.2,()),()))⟩
def Pc (r:Bool × List Int × List Int × Int × Int × Int × Int × List (Int × Int × Int × Bool × (List Int) × List Int) × List Bool × List Bool × Int × Int × Bool × Int):TT Er.rs × ET Er.ps:=((((r.1,(r.2.1,r.2.2.1)),(r.2.2.2.1,r.2.2.2.2.1)),()),((r.2.2.2.2.2.1,r.2.2.2.2.2.2.1,r.2.2.2.2.2.2.2.1,r.2.2.2.2.2.2.2.2.1,r.2.2.2.2.2.2.2.2.2.1,r.2.2.2.2.2.2.2.2.2.2.1,r.2.2.2.2.2.2.2.2.2.2.2.1,r.2.2.2.2.2.2.2.2.2.2.2.2.1,r.2.2.2.2.2.2.2.2.2.2.2.2.2,()),()))
def Yq:Bu (TT Er.rs × ET Er.ps):=⟨⟨9,14,[9]⟩,AH [],AH [],AH []⟩
theorem Yr:Tj Tryz.prog 172 Er :=
 Ez (Bt:=AO []) (l:= [(171, .io CA [(8,12)])]) (C:=Yq) (by kernel_rfl) AI ⟨Dn,trivial⟩ (fn:=Tryz.f172) (by kernel_rfl) rfl (by kernel_rfl) (by decide) (by kernel_rfl) (m:=14) (by decide) (by decide) (F:=λk x=>GU.f k x.1.1 x.1.2.1 x.1.2.2.1 x.1.2.2.2.1 x.1.2.2.2.2.1 x.1.2.2.2.2.2.1 x.1.2.2.2.2.2.2.1 x.1.2.2.2.2.2.2.2.1 x.1.2.2.2.2.2.2.2.2.1 x.2.1.1.1 x.2.1.1.2.1 x.2.1.1.2.2 x.2.1.2.1 x.2.1.2.2) (q:=Pc) (λk x=>rfl)
  (by exact trivial)
  (λk ⟨⟨Af,Al,Ai,Ar,Ao,Ap,Au,Aw,Av,_⟩,(a1:(Bool × (List Int) × List Int) × Int × Int),_⟩=>by show Ad Pc (GU.f k Af Al Ai Ar Ao Ap Au Aw Av a1.1.1 a1.1.2.1 a1.1.2.2 a1.2.1 a1.2.2) _;unfold GU.f;exact go)
end
section
attribute [local irreducible] Ah.f
def Ng:AT:=⟨[(.row 73 (.int .u64)), .int .i64],[(.row 73 (.int .u64))],λk x=>(Bp.f k x.1 x.2.1).map λr=>(r,())⟩
def R6 (r:List Int):TT Ng.rs:=(r,())
@[reducible] def T9:List Slot:= [.tmp 6 [.ty (.int .i64)], .tmp 7 [.own .mine 7 73 (.int .u64)], .tmp 8 [.ty (.int .u64)], .tmp 25 [.ty (.row 73 (.int .u64))], .tmp 26 [.ty (.int .i64)], .tmp 27 [.ty (.int .i64)]]
def cF (k:Nat) (x:TS T9):Option (List Int):=match x with | ⟨⟨(x6:Int),_⟩,⟨(x7:List Int),_⟩,⟨(x8:Int),_⟩,⟨(u9:List Int),_⟩,⟨(x26:Int),_⟩,⟨(yI:Int),_⟩,_⟩=>if 0<=x6/\x6<64 then Bp.l0 k x6 x7 x8 u9 x26 yI else none
def xh:Bu (TT Ng.rs):=⟨⟨50,50,[]⟩,AH [(0,⟨T9,λk x=>(cF k x).map R6⟩)],AH [],AH []⟩
theorem gN:DT Tryz.prog 210 Ng :=
 Ac (Bt:=AO []) (l:= [(187, .pu Ct)]) (C:=xh) (by kernel_rfl) AI ⟨DL,trivial⟩ (fn:=Tryz.f210) (by kernel_rfl) rfl (by kernel_rfl) (by decide) (by kernel_rfl) (F:=λk x=>Bp.f k x.1 x.2.1) (m:=R6) (λk x=>rfl)
  (by
   refine And.intro ?_ ?_
   ·refine A8 (sl:=T9) (F:=cF) (λ⟨⟨(x6:Int),_⟩,⟨(x7:List Int),_⟩,⟨(x8:Int),_⟩,⟨(u9:List Int),_⟩,⟨(x26:Int),_⟩,⟨(yI:Int),_⟩,_⟩=>by show(if 0<=x6/\x6<64 then Bp.l0 0 x6 x7 x8 u9 x26 yI else none)=none;split<;>rfl) λk ⟨⟨(x6:Int),_⟩,⟨(x7:List Int),_⟩,⟨(x8:Int),_⟩,⟨(u9:List Int),_⟩,⟨(x26:Int),_⟩,⟨(yI:Int),_⟩,_⟩=> ?_
    show Ad R6 (if 0<=x6/\x6<64 then Bp.l0 (k+1) x6 x7 x8 u9 x26 yI else none) _;rw[Bp.l0];exact go
   exact trivial)
  (λk ⟨(a0:List Int),(a1:Int),_⟩=>by show Ad R6 (Bp.f k a0 a1) _;unfold Bp.f;exact go)
end
section
def R7:AT:=⟨[(.row 73 (.int .u64)), .int .i64],[.bool],λ_ x=>(Kt.f x.1 x.2.1).map λr=>(r,())⟩
def gO (r:Bool):TT R7.rs:=(r,())
theorem gP:DT Tryz.prog 254 R7 :=
 Ac (Bt:=AO []) (l:= []) (C:=Ag) (by kernel_rfl) AI trivial (fn:=Tryz.f254) (by kernel_rfl) rfl (by kernel_rfl) (by decide) (by kernel_rfl) (F:=λk x=>Kt.f x.1 x.2.1) (m:=gO) (λk x=>rfl)
  (by exact trivial)
  (λk ⟨(a0:List Int),(a1:Int),_⟩=>by show Ad gO (Kt.f a0 a1) _;unfold Kt.f;exact go)
end
section
attribute [local irreducible] Ce.f Kt.f
def OW:AT:=⟨[(.row 73 (.int .u64))],[.int .i64],λk x=>(Dm.f k x.1).map λr=>(r,())⟩
def OX (r:Int):TT OW.rs:=(r,())
@[reducible] def Qw:List Slot:= [.tmp 0 [.ty (.row 73 (.int .u64))], .tmp 7 [.ty (.int .i64)], .tmp 8 [.ty (.int .i64)]]
def X2 (k:Nat) (x:TS Qw):Option (Int):=Dm.l0 k x.1.1 x.2.1.1 x.2.2.1.1
def tI:Bu (TT OW.rs):=⟨⟨16,16,[]⟩,AH [(0,⟨Qw,λk x=>(X2 k x).map OX⟩)],AH [],AH []⟩
theorem tJ:DT Tryz.prog 255 OW :=
 Ac (Bt:=AO []) (l:= [(134, .pu FJ),(254, .pu R7)]) (C:=tI) (by kernel_rfl) AI ⟨Gu,gP,trivial⟩ (fn:=Tryz.f255) (by kernel_rfl) rfl (by kernel_rfl) (by decide) (by kernel_rfl) (F:=λk x=>Dm.f k x.1) (m:=OX) (λk x=>rfl)
  (by
   refine And.intro ?_ ?_
   ·refine A8 (sl:=Qw) (F:=X2) (λx=>rfl) λk ⟨⟨(x0:List Int),_⟩,⟨(x7:Int),_⟩,⟨(x8:Int),_⟩,_⟩=> ?_
    show Ad OX (Dm.l0 (k+1) x0 x7 x8) _;rw[Dm.l0];exact go
   exact trivial)
  (λk ⟨(a0:List Int),_⟩=>by show Ad OX (Dm.f k a0) _;unfold Dm.f;exact go)
end
section
attribute [local irreducible] Iz.f BH.f Ce.f Hw.f CO.f CH.f Bp.f At.f Df.f EL.f Kt.f Dm.f
def MN:AT:=⟨[.bool,(.row 73 (.int .u64)), .int .i64, .bool],[.int .u64],λk x=>(DZ.f k x.1 x.2.1 x.2.2.1 x.2.2.2.1).map λr=>(r,())⟩
def MP (r:Int):TT MN.rs:=(r,())
@[reducible] def OY:List Slot:= [.tmp 0 [.ty .bool], .tmp 1 [.ty (.row 73 (.int .u64))], .tmp 2 [.ty (.int .i64)]]
def Vc (k:Nat) (x:TS OY):Option (Int):=DZ.j0 k x.1.1 x.2.1.1 x.2.2.1.1
def pW:Bu (TT MN.rs):=⟨⟨72,72,[]⟩,AH [],AH [(5,⟨OY,λk x=>(Vc k x).map MP⟩)],AH []⟩
theorem pX:DT Tryz.prog 211 MN :=
 Ac (Bt:=AO []) (l:= [(117, .pu Nh),(132, .pu LD),(134, .pu FJ),(199, .pu OZ),(208, .pu H8),(209, .pu EN),(210, .pu Ng),(216, .pu Dg),(249, .pu Nl),(253, .pu Jx),(254, .pu R7),(255, .pu OW)]) (C:=pW) (by kernel_rfl) AI ⟨Vd,R8,Gu,cG,Mx,Ft,gN,FL,gQ,TA,gP,tJ,trivial⟩ (fn:=Tryz.f211) (by kernel_rfl) rfl (by kernel_rfl) (by decide) (by kernel_rfl) (F:=λk x=>DZ.f k x.1 x.2.1 x.2.2.1 x.2.2.2.1) (m:=MP) (λk x=>rfl)
  (by
   refine And.intro ?_ ?_
   ·refine B4 (sl:=OY) (F:=Vc) (λx=>rfl) λk ⟨⟨(x0:Bool),_⟩,⟨(x1:List Int),_⟩,⟨(x2:Int),_⟩,_⟩=> ?_
    show Ad MP (DZ.j0 (k+1) x0 x1 x2) _;rw[DZ.j0];exact go
   exact trivial)
  (λk ⟨(a0:Bool),(a1:List Int),(a2:Int),(a3:Bool),_⟩=>by show Ad MP (DZ.f k a0 a1 a2 a3) _;unfold DZ.f;exact go)
end
section
attribute [local irreducible] Ce.f GK.f Gk.f CO.f CH.f Bp.f DZ.f
def Jg:AT:=⟨[(.cons .bool (.cons (.row 73 (.int .u64)) (.row 73 (.int .u64))))],[.int .u64],λk x=>(Bx.f k x.1.1 x.1.2.1 x.1.2.2).map λr=>(r,())⟩
def Nm (r:Int):TT Jg.rs:=(r,())
theorem W9:DT Tryz.prog 143 Jg :=
 Ac (Bt:=AO [(1,[0,1,3,0,8,31,63,127]),(7,[0,1,0,7,0,16,63,127,255,255,255,511,3071,8191])]) (l:= [(134, .pu FJ),(138, .pu LS),(207, .pu Oa),(208, .pu H8),(209, .pu EN),(210, .pu Ng),(211, .pu MN)]) (C:=Ag) (by kernel_rfl) AI ⟨Gu,UA,cH,Mx,Ft,gN,pX,trivial⟩ (fn:=Tryz.f143) (by kernel_rfl) rfl (by kernel_rfl) (by decide) (by kernel_rfl) (F:=λk x=>Bx.f k x.1.1 x.1.2.1 x.1.2.2) (m:=Nm) (λk x=>rfl)
  (by exact trivial)
  (λk ⟨(a0:Bool × List Int × List Int),_⟩=>by show Ad Nm (Bx.f k a0.1 a0.2.1 a0.2.2) _;unfold Bx.f;unfold Bx.j0;exact goq)
end
section
attribute [local irreducible] Bx.f BL.f BX.f Bj.f
def D8:Dj:=⟨[.st 135 [.ty (.int .i64), .ty (.int .i64), .row false 93 (.cons (.int .i64) (.cons (.int .i64) (.cons (.int .i64) (.cons .bool (.cons (.row 73 (.int .u64)) (.row 73 (.int .u64))))))), .ty (.row 4 .bool), .row false 4 .bool, .ty (.int .i64), .ty (.int .i64), .ty .bool, .ty (.int .i64)], .ty (.int .i64), .ty (.int .i64)],[(.cons (.cons .bool (.cons (.row 73 (.int .u64)) (.row 73 (.int .u64)))) (.cons (.int .u64) (.int .i64)))],λk x=>(DC.f k x.1.1 x.1.2.1 x.1.2.2.1 x.1.2.2.2.1 x.1.2.2.2.2.1 x.1.2.2.2.2.2.1 x.1.2.2.2.2.2.2.1 x.1.2.2.2.2.2.2.2.1 x.1.2.2.2.2.2.2.2.2.1 x.2.1 x.2.2.1).map λr=>((((r.1,(r.2.1,r.2.2.1)),(r.2.2.2.1,r.2.2.2.2.1)),()),((r.2.2.2.2.2.1,r.2.2.2.2.2.2.1,r.2.2.2.2.2.2.2.1,r.2.2.2.2.2.2.2.2.1,r.2.2.2.2.2.2.2.2.2.1,r.2.2.2.2.2.2.2.2.2.2.1,r.2.2.2.2.2.2.2.2.2.2.2.1,r.2.2.2.2.2.2.2.2.2.2.2.2.1,r.2.2.2.2.2.2.2.2.2.2.2.2.2,()),()))⟩
def Pd (r:Bool × List Int × List Int × Int × Int × Int × Int × List (Int × Int × Int × Bool × (List Int) × List Int) × List Bool × List Bool × Int × Int × Bool × Int):TT D8.rs × ET D8.ps:=((((r.1,(r.2.1,r.2.2.1)),(r.2.2.2.1,r.2.2.2.2.1)),()),((r.2.2.2.2.2.1,r.2.2.2.2.2.2.1,r.2.2.2.2.2.2.2.1,r.2.2.2.2.2.2.2.2.1,r.2.2.2.2.2.2.2.2.2.1,r.2.2.2.2.2.2.2.2.2.2.1,r.2.2.2.2.2.2.2.2.2.2.2.1,r.2.2.2.2.2.2.2.2.2.2.2.2.1,r.2.2.2.2.2.2.2.2.2.2.2.2.2,()),()))
def Ys:Bu (TT D8.rs × ET D8.ps):=⟨⟨43,52,[43]⟩,AH [],AH [],AH []⟩
theorem Pe:Tj Tryz.prog 96 D8 :=
 Ez (Bt:=AO []) (l:= [(143, .pu Jg),(168, .io CR [(9,46)]),(169, .io Cb [(14,48)]),(170, .io Cv [(42,50)])]) (C:=Ys) (by kernel_rfl) AI ⟨W9,Gg,KD,I7,trivial⟩ (fn:=Tryz.f96) (by kernel_rfl) rfl (by kernel_rfl) (by decide) (by kernel_rfl) (m:=52) (by decide) (by decide) (F:=λk x=>DC.f k x.1.1 x.1.2.1 x.1.2.2.1 x.1.2.2.2.1 x.1.2.2.2.2.1 x.1.2.2.2.2.2.1 x.1.2.2.2.2.2.2.1 x.1.2.2.2.2.2.2.2.1 x.1.2.2.2.2.2.2.2.2.1 x.2.1 x.2.2.1) (q:=Pd) (λk x=>rfl)
  (by exact trivial)
  (λk ⟨⟨Af,Al,Ai,Ar,Ao,Ap,Au,Aw,Av,_⟩,(a1:Int),(a2:Int),_⟩=>by show Ad Pd (DC.f k Af Al Ai Ar Ao Ap Au Aw Av a1 a2) _;unfold DC.f;exact go)
end
section
def Es:Dj:=⟨[.st 135 [.ty (.int .i64), .ty (.int .i64), .row false 93 (.cons (.int .i64) (.cons (.int .i64) (.cons (.int .i64) (.cons .bool (.cons (.row 73 (.int .u64)) (.row 73 (.int .u64))))))), .ty (.row 4 .bool), .row false 4 .bool, .ty (.int .i64), .ty (.int .i64), .ty .bool, .ty (.int .i64)]],[.int .i64],λk x=>(GV.f k x.1.1 x.1.2.1 x.1.2.2.1 x.1.2.2.2.1 x.1.2.2.2.2.1 x.1.2.2.2.2.2.1 x.1.2.2.2.2.2.2.1 x.1.2.2.2.2.2.2.2.1 x.1.2.2.2.2.2.2.2.2.1).map λr=>((r.1,()),((r.2.1,r.2.2.1,r.2.2.2.1,r.2.2.2.2.1,r.2.2.2.2.2.1,r.2.2.2.2.2.2.1,r.2.2.2.2.2.2.2.1,r.2.2.2.2.2.2.2.2.1,r.2.2.2.2.2.2.2.2.2,()),()))⟩
def Pg (r:Int × Int × Int × List (Int × Int × Int × Bool × (List Int) × List Int) × List Bool × List Bool × Int × Int × Bool × Int):TT Es.rs × ET Es.ps:=((r.1,()),((r.2.1,r.2.2.1,r.2.2.2.1,r.2.2.2.2.1,r.2.2.2.2.2.1,r.2.2.2.2.2.2.1,r.2.2.2.2.2.2.2.1,r.2.2.2.2.2.2.2.2.1,r.2.2.2.2.2.2.2.2.2,()),()))
def Yt:Bu (TT Es.rs × ET Es.ps):=⟨⟨9,12,[9]⟩,AH [],AH [],AH []⟩
theorem Yu:Tj Tryz.prog 45 Es :=
 Ez (Bt:=AO []) (l:= []) (C:=Yt) (by kernel_rfl) AI trivial (fn:=Tryz.f45) (by kernel_rfl) rfl (by kernel_rfl) (by decide) (by kernel_rfl) (m:=12) (by decide) (by decide) (F:=λk x=>GV.f k x.1.1 x.1.2.1 x.1.2.2.1 x.1.2.2.2.1 x.1.2.2.2.2.1 x.1.2.2.2.2.2.1 x.1.2.2.2.2.2.2.1 x.1.2.2.2.2.2.2.2.1 x.1.2.2.2.2.2.2.2.2.1) (q:=Pg) (λk x=>rfl)
  (by exact trivial)
  (λk ⟨⟨Af,Al,Ai,Ar,Ao,Ap,Au,Aw,Av,_⟩,_⟩=>by show Ad Pg (GV.f k Af Al Ai Ar Ao Ap Au Aw Av) _;unfold GV.f;exact go)
end
section
def My:AT:=⟨[(.cons .bool (.cons (.row 73 (.int .u64)) (.row 73 (.int .u64))))],[(.cons .bool (.cons (.row 73 (.int .u64)) (.row 73 (.int .u64))))],λk x=>(Gp.f k x.1.1 x.1.2.1 x.1.2.2).map λr=>((r.1,r.2.1,r.2.2),())⟩
def TB (r:Bool × List Int × List Int):TT My.rs:=((r.1,r.2.1,r.2.2),())
theorem eI:DT Tryz.prog 109 My :=
 Ac (Bt:=AO [(1,[0,1,0,0,8,28,0,0,128,508,1023,2047])]) (l:= []) (C:=Ag) (by kernel_rfl) AI trivial (fn:=Tryz.f109) (by kernel_rfl) rfl (by kernel_rfl) (by decide) (by kernel_rfl) (F:=λk x=>Gp.f k x.1.1 x.1.2.1 x.1.2.2) (m:=TB) (λk x=>rfl)
  (by exact trivial)
  (λk ⟨(a0:Bool × (List Int) × List Int),_⟩=>by show Ad TB (Gp.f k a0.1 a0.2.1 a0.2.2) _;unfold Gp.f;exact go)
end
section
attribute [local irreducible] Gp.f
def DP:Dj:=⟨[.st 135 [.ty (.int .i64), .ty (.int .i64), .row false 93 (.cons (.int .i64) (.cons (.int .i64) (.cons (.int .i64) (.cons .bool (.cons (.row 73 (.int .u64)) (.row 73 (.int .u64))))))), .ty (.row 4 .bool), .row false 4 .bool, .ty (.int .i64), .ty (.int .i64), .ty .bool, .ty (.int .i64)]],[(.row 93 (.cons (.int .i64) (.cons (.int .i64) (.cons (.int .i64) (.cons .bool (.cons (.row 73 (.int .u64)) (.row 73 (.int .u64))))))))],λk x=>(BE.f k x.1.1 x.1.2.1 x.1.2.2.1 x.1.2.2.2.1 x.1.2.2.2.2.1 x.1.2.2.2.2.2.1 x.1.2.2.2.2.2.2.1 x.1.2.2.2.2.2.2.2.1 x.1.2.2.2.2.2.2.2.2.1).map λr=>((r.1,()),((r.2.1,r.2.2.1,r.2.2.2.1,r.2.2.2.2.1,r.2.2.2.2.2.1,r.2.2.2.2.2.2.1,r.2.2.2.2.2.2.2.1,r.2.2.2.2.2.2.2.2.1,r.2.2.2.2.2.2.2.2.2,()),()))⟩
def FW (r:List (Int × Int × Int × Bool × (List Int) × List Int) × Int × Int × List (Int × Int × Int × Bool × (List Int) × List Int) × List Bool × List Bool × Int × Int × Bool × Int):TT DP.rs × ET DP.ps:=((r.1,()),((r.2.1,r.2.2.1,r.2.2.2.1,r.2.2.2.2.1,r.2.2.2.2.2.1,r.2.2.2.2.2.2.1,r.2.2.2.2.2.2.2.1,r.2.2.2.2.2.2.2.2.1,r.2.2.2.2.2.2.2.2.2,()),()))
@[reducible] def Gv:List Slot:= [.tmp 3 [.own .mine 3 93 (.cons (.int .i64) (.cons (.int .i64) (.cons (.int .i64) (.cons .bool (.cons (.row 73 (.int .u64)) (.row 73 (.int .u64)))))))], .tmp 11 [.own .FZ 11 93 (.cons (.int .i64) (.cons (.int .i64) (.cons (.int .i64) (.cons .bool (.cons (.row 73 (.int .u64)) (.row 73 (.int .u64)))))))], .tmp 12 [.ty (.int .i64)], .tmp 13 [.ty (.int .i64)], .C4 27 .kept 135 [.ty (.int .i64), .ty (.int .i64), .al 11, .ty (.row 4 .bool), .own .FZ 30 4 .bool, .ty (.int .i64), .ty (.int .i64), .ty .bool, .ty (.int .i64)]]
def KE (k:Nat) (x:TS Gv):Option (List (Int × Int × Int × Bool × (List Int) × List Int) × Int × Int × List (Int × Int × Int × Bool × (List Int) × List Int) × List Bool × List Bool × Int × Int × Bool × Int):=BE.l0 k x.1.1 x.2.1.1 x.2.2.1.1 x.2.2.2.1.1 x.2.2.2.2.1.1 x.2.2.2.2.1.2.1 x.2.2.2.2.1.2.2.1 x.2.2.2.2.1.2.2.2.1 x.2.2.2.2.1.2.2.2.2.1 x.2.2.2.2.1.2.2.2.2.2.1 x.2.2.2.2.1.2.2.2.2.2.2.1 x.2.2.2.2.1.2.2.2.2.2.2.2.1
def Sj:Bu (TT DP.rs × ET DP.ps):=⟨⟨27,32,[27]⟩,AH [(0,⟨Gv,λk x=>(KE k x).map FW⟩)],AH [],AH []⟩
theorem Sk:Tj Tryz.prog 50 DP :=
 Ez (Bt:=AO []) (l:= [(109, .pu My)]) (C:=Sj) (by kernel_rfl) AI ⟨eI,trivial⟩ (fn:=Tryz.f50) (by kernel_rfl) rfl (by kernel_rfl) (by decide) (by kernel_rfl) (m:=32) (by decide) (by decide) (F:=λk x=>BE.f k x.1.1 x.1.2.1 x.1.2.2.1 x.1.2.2.2.1 x.1.2.2.2.2.1 x.1.2.2.2.2.2.1 x.1.2.2.2.2.2.2.1 x.1.2.2.2.2.2.2.2.1 x.1.2.2.2.2.2.2.2.2.1) (q:=FW) (λk x=>rfl)
  (by
   refine And.intro ?_ ?_
   ·refine A8 (sl:=Gv) (F:=KE) (λx=>rfl) λk ⟨⟨(x3:List (Int × Int × Int × Bool × (List Int) × List Int)),_⟩,⟨(Kr:List (Int × Int × Int × Bool × (List Int) × List Int)),_⟩,⟨(Xn:Int),_⟩,⟨(F5:Int),_⟩,⟨(vJ:Int),(vK:Int),(vL:List Bool),(vM:List Bool),(vN:Int),(vO:Int),(vP:Bool),(vQ:Int),_⟩,_⟩=> ?_
    show Ad FW (BE.l0 (k+1) x3 Kr Xn F5 vJ vK vL vM vN vO vP vQ) _;rw[BE.l0];exact go
   exact trivial)
  (λk ⟨⟨Af,Al,Ai,Ar,Ao,Ap,Au,Aw,Av,_⟩,_⟩=>by show Ad FW (BE.f k Af Al Ai Ar Ao Ap Au Aw Av) _;unfold BE.f;exact go)
end
section
attribute [local irreducible] AL.f
def EZ:Dj:=⟨[.st 135 [.ty (.int .i64), .ty (.int .i64), .row false 93 (.cons (.int .i64) (.cons (.int .i64) (.cons (.int .i64) (.cons .bool (.cons (.row 73 (.int .u64)) (.row 73 (.int .u64))))))), .ty (.row 4 .bool), .row false 4 .bool, .ty (.int .i64), .ty (.int .i64), .ty .bool, .ty (.int .i64)], .ty (.cons (.cons .bool (.cons (.row 73 (.int .u64)) (.row 73 (.int .u64)))) (.cons (.int .u64) (.int .i64)))],[(.cons (.cons .bool (.cons (.row 73 (.int .u64)) (.row 73 (.int .u64)))) (.cons (.int .u64) (.int .i64)))],λk x=>(Fh.f k x.1.1 x.1.2.1 x.1.2.2.1 x.1.2.2.2.1 x.1.2.2.2.2.1 x.1.2.2.2.2.2.1 x.1.2.2.2.2.2.2.1 x.1.2.2.2.2.2.2.2.1 x.1.2.2.2.2.2.2.2.2.1 x.2.1.1.1 x.2.1.1.2.1 x.2.1.1.2.2 x.2.1.2.1 x.2.1.2.2).map λr=>((((r.1,(r.2.1,r.2.2.1)),(r.2.2.2.1,r.2.2.2.2.1)),()),((r.2.2.2.2.2.1,r.2.2.2.2.2.2.1,r.2.2.2.2.2.2.2.1,r.2.2.2.2.2.2.2.2.1,r.2.2.2.2.2.2.2.2.2.1,r.2.2.2.2.2.2.2.2.2.2.1,r.2.2.2.2.2.2.2.2.2.2.2.1,r.2.2.2.2.2.2.2.2.2.2.2.2.1,r.2.2.2.2.2.2.2.2.2.2.2.2.2,()),()))⟩
def Nn (r:Bool × List Int × List Int × Int × Int × Int × Int × List (Int × Int × Int × Bool × (List Int) × List Int) × List Bool × List Bool × Int × Int × Bool × Int):TT EZ.rs × ET EZ.ps:=((((r.1,(r.2.1,r.2.2.1)),(r.2.2.2.1,r.2.2.2.2.1)),()),((r.2.2.2.2.2.1,r.2.2.2.2.2.2.1,r.2.2.2.2.2.2.2.1,r.2.2.2.2.2.2.2.2.1,r.2.2.2.2.2.2.2.2.2.1,r.2.2.2.2.2.2.2.2.2.2.1,r.2.2.2.2.2.2.2.2.2.2.2.1,r.2.2.2.2.2.2.2.2.2.2.2.2.1,r.2.2.2.2.2.2.2.2.2.2.2.2.2,()),()))
def XA:Bu (TT EZ.rs × ET EZ.ps):=⟨⟨9,14,[9]⟩,AH [],AH [],AH []⟩
theorem XB:Tj Tryz.prog 175 EZ :=
 Ez (Bt:=AO []) (l:= [(171, .io CA [(8,12)])]) (C:=XA) (by kernel_rfl) AI ⟨Dn,trivial⟩ (fn:=Tryz.f175) (by kernel_rfl) rfl (by kernel_rfl) (by decide) (by kernel_rfl) (m:=14) (by decide) (by decide) (F:=λk x=>Fh.f k x.1.1 x.1.2.1 x.1.2.2.1 x.1.2.2.2.1 x.1.2.2.2.2.1 x.1.2.2.2.2.2.1 x.1.2.2.2.2.2.2.1 x.1.2.2.2.2.2.2.2.1 x.1.2.2.2.2.2.2.2.2.1 x.2.1.1.1 x.2.1.1.2.1 x.2.1.1.2.2 x.2.1.2.1 x.2.1.2.2) (q:=Nn) (λk x=>rfl)
  (by exact trivial)
  (λk ⟨⟨Af,Al,Ai,Ar,Ao,Ap,Au,Aw,Av,_⟩,(a1:(Bool × (List Int) × List Int) × Int × Int),_⟩=>by show Ad Nn (Fh.f k Af Al Ai Ar Ao Ap Au Aw Av a1.1.1 a1.1.2.1 a1.1.2.2 a1.2.1 a1.2.2) _;unfold Fh.f;exact go)
end
section
attribute [local irreducible] AL.f
def Et:Dj:=⟨[.st 135 [.ty (.int .i64), .ty (.int .i64), .row false 93 (.cons (.int .i64) (.cons (.int .i64) (.cons (.int .i64) (.cons .bool (.cons (.row 73 (.int .u64)) (.row 73 (.int .u64))))))), .ty (.row 4 .bool), .row false 4 .bool, .ty (.int .i64), .ty (.int .i64), .ty .bool, .ty (.int .i64)], .ty (.cons (.cons .bool (.cons (.row 73 (.int .u64)) (.row 73 (.int .u64)))) (.cons (.int .u64) (.int .i64))), .ty (.cons (.cons .bool (.cons (.row 73 (.int .u64)) (.row 73 (.int .u64)))) (.cons (.int .u64) (.int .i64)))],[(.cons (.cons .bool (.cons (.row 73 (.int .u64)) (.row 73 (.int .u64)))) (.cons (.int .u64) (.int .i64)))],λk x=>(GX.f k x.1.1 x.1.2.1 x.1.2.2.1 x.1.2.2.2.1 x.1.2.2.2.2.1 x.1.2.2.2.2.2.1 x.1.2.2.2.2.2.2.1 x.1.2.2.2.2.2.2.2.1 x.1.2.2.2.2.2.2.2.2.1 x.2.1.1.1 x.2.1.1.2.1 x.2.1.1.2.2 x.2.1.2.1 x.2.1.2.2 x.2.2.1.1.1 x.2.2.1.1.2.1 x.2.2.1.1.2.2 x.2.2.1.2.1 x.2.2.1.2.2).map λr=>((((r.1,(r.2.1,r.2.2.1)),(r.2.2.2.1,r.2.2.2.2.1)),()),((r.2.2.2.2.2.1,r.2.2.2.2.2.2.1,r.2.2.2.2.2.2.2.1,r.2.2.2.2.2.2.2.2.1,r.2.2.2.2.2.2.2.2.2.1,r.2.2.2.2.2.2.2.2.2.2.1,r.2.2.2.2.2.2.2.2.2.2.2.1,r.2.2.2.2.2.2.2.2.2.2.2.2.1,r.2.2.2.2.2.2.2.2.2.2.2.2.2,()),()))⟩
def Ph (r:Bool × List Int × List Int × Int × Int × Int × Int × List (Int × Int × Int × Bool × (List Int) × List Int) × List Bool × List Bool × Int × Int × Bool × Int):TT Et.rs × ET Et.ps:=((((r.1,(r.2.1,r.2.2.1)),(r.2.2.2.1,r.2.2.2.2.1)),()),((r.2.2.2.2.2.1,r.2.2.2.2.2.2.1,r.2.2.2.2.2.2.2.1,r.2.2.2.2.2.2.2.2.1,r.2.2.2.2.2.2.2.2.2.1,r.2.2.2.2.2.2.2.2.2.2.1,r.2.2.2.2.2.2.2.2.2.2.2.1,r.2.2.2.2.2.2.2.2.2.2.2.2.1,r.2.2.2.2.2.2.2.2.2.2.2.2.2,()),()))
def Yv:Bu (TT Et.rs × ET Et.ps):=⟨⟨11,16,[11]⟩,AH [],AH [],AH []⟩
theorem Yw:Tj Tryz.prog 173 Et :=
 Ez (Bt:=AO []) (l:= [(171, .io CA [(10,14)])]) (C:=Yv) (by kernel_rfl) AI ⟨Dn,trivial⟩ (fn:=Tryz.f173) (by kernel_rfl) rfl (by kernel_rfl) (by decide) (by kernel_rfl) (m:=16) (by decide) (by decide) (F:=λk x=>GX.f k x.1.1 x.1.2.1 x.1.2.2.1 x.1.2.2.2.1 x.1.2.2.2.2.1 x.1.2.2.2.2.2.1 x.1.2.2.2.2.2.2.1 x.1.2.2.2.2.2.2.2.1 x.1.2.2.2.2.2.2.2.2.1 x.2.1.1.1 x.2.1.1.2.1 x.2.1.1.2.2 x.2.1.2.1 x.2.1.2.2 x.2.2.1.1.1 x.2.2.1.1.2.1 x.2.2.1.1.2.2 x.2.2.1.2.1 x.2.2.1.2.2) (q:=Ph) (λk x=>rfl)
  (by exact trivial)
  (λk ⟨⟨Af,Al,Ai,Ar,Ao,Ap,Au,Aw,Av,_⟩,(a1:(Bool × (List Int) × List Int) × Int × Int),(a2:(Bool × (List Int) × List Int) × Int × Int),_⟩=>by show Ad Ph (GX.f k Af Al Ai Ar Ao Ap Au Aw Av a1.1.1 a1.1.2.1 a1.1.2.2 a1.2.1 a1.2.2 a2.1.1 a2.1.2.1 a2.1.2.2 a2.2.1 a2.2.2) _;unfold GX.f;exact go)
end
section
def EX:Dj:=⟨[.st 135 [.ty (.int .i64), .ty (.int .i64), .row false 93 (.cons (.int .i64) (.cons (.int .i64) (.cons (.int .i64) (.cons .bool (.cons (.row 73 (.int .u64)) (.row 73 (.int .u64))))))), .ty (.row 4 .bool), .row false 4 .bool, .ty (.int .i64), .ty (.int .i64), .ty .bool, .ty (.int .i64)], .ty (.cons (.int .i64) (.cons (.int .i64) (.cons (.int .i64) (.cons (.int .i64) (.cons (.int .i64) (.cons .bool (.int .i64)))))))],[.bool],λk x=>(DJ.f k x.1.1 x.1.2.1 x.1.2.2.1 x.1.2.2.2.1 x.1.2.2.2.2.1 x.1.2.2.2.2.2.1 x.1.2.2.2.2.2.2.1 x.1.2.2.2.2.2.2.2.1 x.1.2.2.2.2.2.2.2.2.1 x.2.1.1 x.2.1.2.1 x.2.1.2.2.1 x.2.1.2.2.2.1 x.2.1.2.2.2.2.1 x.2.1.2.2.2.2.2.1 x.2.1.2.2.2.2.2.2).map λr=>((r.1,()),((r.2.1,r.2.2.1,r.2.2.2.1,r.2.2.2.2.1,r.2.2.2.2.2.1,r.2.2.2.2.2.2.1,r.2.2.2.2.2.2.2.1,r.2.2.2.2.2.2.2.2.1,r.2.2.2.2.2.2.2.2.2,()),()))⟩
def Np (r:Bool × Int × Int × List (Int × Int × Int × Bool × (List Int) × List Int) × List Bool × List Bool × Int × Int × Bool × Int):TT EX.rs × ET EX.ps:=((r.1,()),((r.2.1,r.2.2.1,r.2.2.2.1,r.2.2.2.2.1,r.2.2.2.2.2.1,r.2.2.2.2.2.2.1,r.2.2.2.2.2.2.2.1,r.2.2.2.2.2.2.2.2.1,r.2.2.2.2.2.2.2.2.2,()),()))
def XC:Bu (TT EX.rs × ET EX.ps):=⟨⟨128,131,[128]⟩,AH [],AH [],AH []⟩
theorem W7:Tj Tryz.prog 52 EX :=
 Ez (Bt:=AO [(1,[0,1,3,7,15,31,63,127,255,511,255,1279,3327,7423,15615,32767,65535,131071,262143,524287,1048575,2097151,4194303,8388607,16777215,8388607,41943039,109051903,243269631,536870911,1073741823,2147483647,4294967295,8589934591,17179869183,34359738367,68719476735,137438953471,274877906943,137438953471,687194767359,1786706395135,3985729650687,8383776161791,17592186044415,35184372088831,70368744177663,140737488355327,281474976710655,562949953421311,1125899906842623,2251799813685247,4503599627370495,9007199254740991,4503599627370495,22517998136852479,58546795155816447,130604389193744383,288230376151711743,576460752303423487,1152921504606846975,2305843009213693951,4611686018427387903,9223372036854775807,18446744073709551615,36893488147419103231,73786976294838206463,147573952589676412927,73786976294838206463,368934881474191032319,959230691832896684031,2139822312550307987455,4722366482869645213695,9444732965739290427391]),(3,[0,0,0,4,12,28,0,64,0,256,1020,0,2048,6144,14336,0,32768,0,131072,522240,32765,1081341,3178493,8388607,16777215,33554431]),(4,[0,0,0,0,0,0,32,0,128,0,512,0,2048,0,8192,97,32865,98401,229859,492003,1016291,2066407,4163559,8357863,16752623,33529839,67084271,134217727,268435455,536870911])]) (l:= []) (C:=XC) (by kernel_rfl) AI trivial (fn:=Tryz.f52) (by kernel_rfl) rfl (by kernel_rfl) (by decide) (by kernel_rfl) (m:=131) (by decide) (by decide) (F:=λk x=>DJ.f k x.1.1 x.1.2.1 x.1.2.2.1 x.1.2.2.2.1 x.1.2.2.2.2.1 x.1.2.2.2.2.2.1 x.1.2.2.2.2.2.2.1 x.1.2.2.2.2.2.2.2.1 x.1.2.2.2.2.2.2.2.2.1 x.2.1.1 x.2.1.2.1 x.2.1.2.2.1 x.2.1.2.2.2.1 x.2.1.2.2.2.2.1 x.2.1.2.2.2.2.2.1 x.2.1.2.2.2.2.2.2) (q:=Np) (λk x=>rfl)
  (by exact trivial)
  (λk ⟨⟨Af,Al,Ai,Ar,Ao,Ap,Au,Aw,Av,_⟩,(a1:Int × Int × Int × Int × Int × Bool × Int),_⟩=>by show Ad Np (DJ.f k Af Al Ai Ar Ao Ap Au Aw Av a1.1 a1.2.1 a1.2.2.1 a1.2.2.2.1 a1.2.2.2.2.1 a1.2.2.2.2.2.1 a1.2.2.2.2.2.2) _;unfold DJ.f;exact go)
end
section
def OU:Zi:=⟨[.int .i64,(.row 4 .bool)],135,[.ty (.int .i64), .ty (.int .i64), .nil, .ty (.row 4 .bool), .nil, .ty (.int .i64), .ty (.int .i64), .ty .bool, .ty (.int .i64)],λk x=>(GH.f k x.1 x.2.1).map λr=>(r.1,(r.2.1,r.2.2.1,r.2.2.2.1,r.2.2.2.2.1,r.2.2.2.2.2.1,r.2.2.2.2.2.2.1,r.2.2.2.2.2.2.2,()))⟩
def cI (r:Bool × Int × Int × List Bool × Int × Int × Bool × Int):Bool × NT OU.fs:=(r.1,(r.2.1,r.2.2.1,r.2.2.2.1,r.2.2.2.2.1,r.2.2.2.2.2.1,r.2.2.2.2.2.2.1,r.2.2.2.2.2.2.2,()))
theorem cD:FPk Tryz.prog 38 OU :=
 AGM (Bt:=AO []) (l:= []) (C:=Ag) (by kernel_rfl) AI trivial (fn:=Tryz.f38) (by kernel_rfl) rfl (by kernel_rfl) (by decide) (by kernel_rfl) (F:=λk x=>GH.f k x.1 x.2.1) (m:=cI) (λk x=>rfl)
  (by exact trivial)
  (λk ⟨(a0:Int),(a1:List Bool),_⟩=>by show Ad cI (GH.f k a0 a1) _;unfold GH.f;exact go)
end
section
def R9:AT:=⟨[(.row 73 (.int .u64)), .int .i64],[.int .u64],λ_ x=>(HI.f x.1 x.2.1).map λr=>(r,())⟩
def gR (r:Int):TT R9.rs:=(r,())
theorem gS:DT Tryz.prog 130 R9 :=
 Ac (Bt:=AO []) (l:= []) (C:=Ag) (by kernel_rfl) AI trivial (fn:=Tryz.f130) (by kernel_rfl) rfl (by kernel_rfl) (by decide) (by kernel_rfl) (F:=λk x=>HI.f x.1 x.2.1) (m:=gR) (λk x=>rfl)
  (by exact trivial)
  (λk ⟨(a0:List Int),(a1:Int),_⟩=>by show Ad gR (HI.f a0 a1) _;unfold HI.f;exact go)
end
section
attribute [local irreducible] HI.f
def Jh:AT:=⟨[(.row 73 (.int .u64)),(.row 73 (.int .u64))],[.int .i64],λk x=>(CQ.f k x.1 x.2.1).map λr=>(r,())⟩
def Ob (r:Int):TT Jh.rs:=(r,())
@[reducible] def Qx:List Slot:= [.tmp 0 [.ty (.row 73 (.int .u64))], .tmp 1 [.ty (.row 73 (.int .u64))], .tmp 6 [.ty (.int .i64)]]
def X3 (k:Nat) (x:TS Qx):Option (Int):=CQ.l0 k x.1.1 x.2.1.1 x.2.2.1.1
def tK:Bu (TT Jh.rs):=⟨⟨32,32,[]⟩,AH [(0,⟨Qx,λk x=>(X3 k x).map Ob⟩)],AH [],AH []⟩
theorem UB:DT Tryz.prog 75 Jh :=
 Ac (Bt:=AO []) (l:= [(130, .pu R9)]) (C:=tK) (by kernel_rfl) AI ⟨gS,trivial⟩ (fn:=Tryz.f75) (by kernel_rfl) rfl (by kernel_rfl) (by decide) (by kernel_rfl) (F:=λk x=>CQ.f k x.1 x.2.1) (m:=Ob) (λk x=>rfl)
  (by
   refine And.intro ?_ ?_
   ·refine A8 (sl:=Qx) (F:=X3) (λx=>rfl) λk ⟨⟨(x0:List Int),_⟩,⟨(x1:List Int),_⟩,⟨(x6:Int),_⟩,_⟩=> ?_
    show Ad Ob (CQ.l0 (k+1) x0 x1 x6) _;rw[CQ.l0];exact go
   exact trivial)
  (λk ⟨(a0:List Int),(a1:List Int),_⟩=>by show Ad Ob (CQ.f k a0 a1) _;unfold CQ.f;exact go)
end
section
def EO:AT:=⟨[(.row 73 (.int .u64))],[.int .i64],λk x=>(BJ.f k x.1).map λr=>(r,())⟩
def MQ (r:Int):TT EO.rs:=(r,())
@[reducible] def Oc:List Slot:= [.tmp 0 [.ty (.row 73 (.int .u64))], .tmp 3 [.ty (.int .i64)]]
def Ve (k:Nat) (x:TS Oc):Option (Int):=BJ.l0 k x.1.1 x.2.1.1
def pY:Bu (TT EO.rs):=⟨⟨19,19,[]⟩,AH [(0,⟨Oc,λk x=>(Ve k x).map MQ⟩)],AH [],AH []⟩
theorem Gw:DT Tryz.prog 126 EO :=
 Ac (Bt:=AO []) (l:= []) (C:=pY) (by kernel_rfl) AI trivial (fn:=Tryz.f126) (by kernel_rfl) rfl (by kernel_rfl) (by decide) (by kernel_rfl) (F:=λk x=>BJ.f k x.1) (m:=MQ) (λk x=>rfl)
  (by
   refine And.intro ?_ ?_
   ·refine A8 (sl:=Oc) (F:=Ve) (λx=>rfl) λk ⟨⟨(x0:List Int),_⟩,⟨(x3:Int),_⟩,_⟩=> ?_
    show Ad MQ (BJ.l0 (k+1) x0 x3) _;rw[BJ.l0];exact go
   exact trivial)
  (λk ⟨(a0:List Int),_⟩=>by show Ad MQ (BJ.f k a0) _;unfold BJ.f;exact go)
end
section
attribute [local irreducible] BJ.f
def EP:AT:=⟨[(.row 73 (.int .u64))],[(.row 73 (.int .u64))],λk x=>(Ay.f k x.1).map λr=>(r,())⟩
def MR (r:List Int):TT EP.rs:=(r,())
@[reducible] def Od:List Slot:= [.tmp 0 [.ty (.row 73 (.int .u64))], .tmp 3 [.own .mine 3 73 (.int .u64)], .tmp 6 [.ty (.int .i64)], .tmp 7 [.ty (.int .i64)]]
def Vf (k:Nat) (x:TS Od):Option (List Int):=Ay.l0 k x.1.1 x.2.1.1 x.2.2.1.1 x.2.2.2.1.1
def pZ:Bu (TT EP.rs):=⟨⟨19,19,[]⟩,AH [(0,⟨Od,λk x=>(Vf k x).map MR⟩)],AH [],AH []⟩
theorem Gx:DT Tryz.prog 188 EP :=
 Ac (Bt:=AO []) (l:= [(126, .pu EO)]) (C:=pZ) (by kernel_rfl) AI ⟨Gw,trivial⟩ (fn:=Tryz.f188) (by kernel_rfl) rfl (by kernel_rfl) (by decide) (by kernel_rfl) (F:=λk x=>Ay.f k x.1) (m:=MR) (λk x=>rfl)
  (by
   refine And.intro ?_ ?_
   ·refine A8 (sl:=Od) (F:=Vf) (λx=>rfl) λk ⟨⟨(x0:List Int),_⟩,⟨(x3:List Int),_⟩,⟨(x6:Int),_⟩,⟨(x7:Int),_⟩,_⟩=> ?_
    show Ad MR (Ay.l0 (k+1) x0 x3 x6 x7) _;rw[Ay.l0];exact go
   exact trivial)
  (λk ⟨(a0:List Int),_⟩=>by show Ad MR (Ay.f k a0) _;unfold Ay.f;exact go)
end
section
attribute [local irreducible] Ay.f
def Jy:AT:=⟨[(.row 73 (.int .u64))],[(.row 73 (.int .u64))],λk x=>(Bh.f k x.1).map λr=>(r,())⟩
def Jz (r:List Int):TT Jy.rs:=(r,())
@[reducible] def LU:List Slot:= [.tmp 0 [.ty (.row 73 (.int .u64))], .tmp 3 [.own .mine 3 73 (.int .u64)], .tmp 6 [.ty (.int .i64)], .tmp 7 [.ty (.int .i64)]]
def Qy (k:Nat) (x:TS LU):Option (List Int):=Bh.l0 k x.1.1 x.2.1.1 x.2.2.1.1 x.2.2.2.1.1
def eJ:Bu (TT Jy.rs):=⟨⟨29,29,[]⟩,AH [(0,⟨LU,λk x=>(Qy k x).map Jz⟩)],AH [],AH []⟩
theorem eK:DT Tryz.prog 128 Jy :=
 Ac (Bt:=AO []) (l:= [(188, .pu EP)]) (C:=eJ) (by kernel_rfl) AI ⟨Gx,trivial⟩ (fn:=Tryz.f128) (by kernel_rfl) rfl (by kernel_rfl) (by decide) (by kernel_rfl) (F:=λk x=>Bh.f k x.1) (m:=Jz) (λk x=>rfl)
  (by
   refine And.intro ?_ ?_
   ·refine A8 (sl:=LU) (F:=Qy) (λx=>rfl) λk ⟨⟨(x0:List Int),_⟩,⟨(x3:List Int),_⟩,⟨(x6:Int),_⟩,⟨(x7:Int),_⟩,_⟩=> ?_
    show Ad Jz (Bh.l0 (k+1) x0 x3 x6 x7) _;rw[Bh.l0];exact go
   exact trivial)
  (λk ⟨(a0:List Int),_⟩=>by show Ad Jz (Bh.f k a0) _;unfold Bh.f;exact go)
end
section
attribute [local irreducible] Ay.f
def Ku:AT:=⟨[(.row 73 (.int .u64))],[(.row 73 (.int .u64))],λk x=>(B7.f k x.1).map λr=>(r,())⟩
def Kv (r:List Int):TT Ku.rs:=(r,())
@[reducible] def Mz:List Slot:= [.tmp 0 [.ty (.row 73 (.int .u64))], .tmp 3 [.own .mine 3 73 (.int .u64)], .tmp 4 [.ty (.int .i64)]]
def TC (k:Nat) (x:TS Mz):Option (List Int):=B7.l0 k x.1.1 x.2.1.1 x.2.2.1.1
def lG:Bu (TT Ku.rs):=⟨⟨35,35,[]⟩,AH [(0,⟨Mz,λk x=>(TC k x).map Kv⟩)],AH [],AH []⟩
theorem lH:DT Tryz.prog 129 Ku :=
 Ac (Bt:=AO []) (l:= [(188, .pu EP)]) (C:=lG) (by kernel_rfl) AI ⟨Gx,trivial⟩ (fn:=Tryz.f129) (by kernel_rfl) rfl (by kernel_rfl) (by decide) (by kernel_rfl) (F:=λk x=>B7.f k x.1) (m:=Kv) (λk x=>rfl)
  (by
   refine And.intro ?_ ?_
   ·refine A8 (sl:=Mz) (F:=TC) (λx=>rfl) λk ⟨⟨(x0:List Int),_⟩,⟨(x3:List Int),_⟩,⟨(x4:Int),_⟩,_⟩=> ?_
    show Ad Kv (B7.l0 (k+1) x0 x3 x4) _;rw[B7.l0];exact go
   exact trivial)
  (λk ⟨(a0:List Int),_⟩=>by show Ad Kv (B7.f k a0) _;unfold B7.f;exact go)
end
section
attribute [local irreducible] Bh.f B7.f HI.f
def LV:AT:=⟨[(.row 73 (.int .u64)),(.row 73 (.int .u64))],[(.row 73 (.int .u64))],λk x=>(Cz.f k x.1 x.2.1).map λr=>(r,())⟩
def Oe (r:List Int):TT LV.rs:=(r,())
@[reducible] def Qz:List Slot:= [.tmp 5 [.ty (.row 73 (.int .u64))], .tmp 6 [.ty (.row 73 (.int .u64))], .tmp 7 [.own .mine 7 73 (.int .u64)], .tmp 8 [.ty (.int .u64)], .tmp 16 [.ty (.int .i64)], .tmp 17 [.ty (.int .i64)]]
def X4 (k:Nat) (x:TS Qz):Option (List Int):=Cz.l0 k x.1.1 x.2.1.1 x.2.2.1.1 x.2.2.2.1.1 x.2.2.2.2.1.1 x.2.2.2.2.2.1.1
def tL:Bu (TT LV.rs):=⟨⟨42,42,[]⟩,AH [(0,⟨Qz,λk x=>(X4 k x).map Oe⟩)],AH [],AH []⟩
theorem cJ:DT Tryz.prog 76 LV :=
 Ac (Bt:=AO [(7,[0,0,3,7,15,0,0,96,255,0,1023,2047])]) (l:= [(128, .pu Jy),(129, .pu Ku),(130, .pu R9)]) (C:=tL) (by kernel_rfl) AI ⟨eK,lH,gS,trivial⟩ (fn:=Tryz.f76) (by kernel_rfl) rfl (by kernel_rfl) (by decide) (by kernel_rfl) (F:=λk x=>Cz.f k x.1 x.2.1) (m:=Oe) (λk x=>rfl)
  (by
   refine And.intro ?_ ?_
   ·refine A8 (sl:=Qz) (F:=X4) (λx=>rfl) λk ⟨⟨(x5:List Int),_⟩,⟨(x6:List Int),_⟩,⟨(x7:List Int),_⟩,⟨(x8:Int),_⟩,⟨(x16:Int),_⟩,⟨(x17:Int),_⟩,_⟩=> ?_
    show Ad Oe (Cz.l0 (k+1) x5 x6 x7 x8 x16 x17) _;rw[Cz.l0];exact go
   exact trivial)
  (λk ⟨(a0:List Int),(a1:List Int),_⟩=>by show Ad Oe (Cz.f k a0 a1) _;unfold Cz.f;exact go)
end
section
attribute [local irreducible] Ay.f
def LW:AT:=⟨[(.row 73 (.int .u64)), .int .i64],[(.row 73 (.int .u64))],λk x=>(Aj.f k x.1 x.2.1).map λr=>(r,())⟩
def Gy (r:List Int):TT LW.rs:=(r,())
@[reducible] def Q0:List Slot:= [.tmp 0 [.ty (.row 73 (.int .u64))], .tmp 1 [.ty (.int .i64)], .tmp 5 [.own .mine 5 73 (.int .u64)], .tmp 13 [.ty (.int .i64)], .tmp 14 [.ty (.int .i64)]]
def X5 (k:Nat) (x:TS Q0):Option (List Int):=match x with | ⟨⟨(x0:List Int),_⟩,⟨(x1:Int),_⟩,⟨(x5:List Int),_⟩,⟨(F5:Int),_⟩,⟨(dJ:Int),_⟩,_⟩=>if 0<=x1/\x1<=65536 then Aj.l0 k x0 x1 x5 F5 dJ else none
@[reducible] def Q1:List Slot:= [.tmp 0 [.ty (.row 73 (.int .u64))], .tmp 1 [.ty (.int .i64)], .tmp 5 [.own .mine 5 73 (.int .u64)], .tmp 21 [.ty (.int .i64)], .tmp 22 [.ty (.int .i64)]]
def X6 (k:Nat) (x:TS Q1):Option (List Int):=match x with | ⟨⟨(x0:List Int),_⟩,⟨(x1:Int),_⟩,⟨(x5:List Int),_⟩,⟨(PV:Int),_⟩,⟨(Mu:Int),_⟩,_⟩=>if 0<=x1/\x1<=65536 then Aj.l1 k x0 x1 x5 PV Mu else none
@[reducible] def Q2:List Slot:= [.tmp 5 [.own .mine 5 73 (.int .u64)], .tmp 7 [.ty (.int .u64)], .tmp 8 [.ty (.int .i64)]]
def X7 (k:Nat) (x:TS Q2):Option (List Int):=match x with | ⟨⟨(x5:List Int),_⟩,⟨(x7:Int),_⟩,⟨(x8:Int),_⟩,_⟩=>if 0<=x7/\x7<64 then Aj.l2 k x5 x7 x8 else none
def tM:Bu (TT LW.rs):=⟨⟨78,78,[]⟩,AH [(0,⟨Q0,λk x=>(X5 k x).map Gy⟩),(1,⟨Q1,λk x=>(X6 k x).map Gy⟩),(2,⟨Q2,λk x=>(X7 k x).map Gy⟩)],AH [],AH []⟩
theorem cK:DT Tryz.prog 157 LW :=
 Ac (Bt:=AO [(19,[0,0,0,0,12,28,0,124,0,0,512,1792,3840,0,8192,32512,65532,131071,262143])]) (l:= [(188, .pu EP)]) (C:=tM) (by kernel_rfl) AI ⟨Gx,trivial⟩ (fn:=Tryz.f157) (by kernel_rfl) rfl (by kernel_rfl) (by decide) (by kernel_rfl) (F:=λk x=>Aj.f k x.1 x.2.1) (m:=Gy) (λk x=>rfl)
  (by
   refine And.intro ?_ ?_
   ·refine A8 (sl:=Q0) (F:=X5) (λ⟨⟨(x0:List Int),_⟩,⟨(x1:Int),_⟩,⟨(x5:List Int),_⟩,⟨(F5:Int),_⟩,⟨(dJ:Int),_⟩,_⟩=>by show(if 0<=x1/\x1<=65536 then Aj.l0 0 x0 x1 x5 F5 dJ else none)=none;split<;>rfl) λk ⟨⟨(x0:List Int),_⟩,⟨(x1:Int),_⟩,⟨(x5:List Int),_⟩,⟨(F5:Int),_⟩,⟨(dJ:Int),_⟩,_⟩=> ?_
    show Ad Gy (if 0<=x1/\x1<=65536 then Aj.l0 (k+1) x0 x1 x5 F5 dJ else none) _;rw[Aj.l0];exact go
   refine And.intro ?_ ?_
   ·refine A8 (sl:=Q1) (F:=X6) (λ⟨⟨(x0:List Int),_⟩,⟨(x1:Int),_⟩,⟨(x5:List Int),_⟩,⟨(PV:Int),_⟩,⟨(Mu:Int),_⟩,_⟩=>by show(if 0<=x1/\x1<=65536 then Aj.l1 0 x0 x1 x5 PV Mu else none)=none;split<;>rfl) λk ⟨⟨(x0:List Int),_⟩,⟨(x1:Int),_⟩,⟨(x5:List Int),_⟩,⟨(PV:Int),_⟩,⟨(Mu:Int),_⟩,_⟩=> ?_
    show Ad Gy (if 0<=x1/\x1<=65536 then Aj.l1 (k+1) x0 x1 x5 PV Mu else none) _;rw[Aj.l1];exact go
   refine And.intro ?_ ?_
   ·refine A8 (sl:=Q2) (F:=X7) (λ⟨⟨(x5:List Int),_⟩,⟨(x7:Int),_⟩,⟨(x8:Int),_⟩,_⟩=>by show(if 0<=x7/\x7<64 then Aj.l2 0 x5 x7 x8 else none)=none;split<;>rfl) λk ⟨⟨(x5:List Int),_⟩,⟨(x7:Int),_⟩,⟨(x8:Int),_⟩,_⟩=> ?_
    show Ad Gy (if 0<=x7/\x7<64 then Aj.l2 (k+1) x5 x7 x8 else none) _;rw[Aj.l2];exact go
   exact trivial)
  (λk ⟨(a0:List Int),(a1:Int),_⟩=>by show Ad Gy (Aj.f k a0 a1) _;unfold Aj.f;exact go)
end
section
def Of:AT:=⟨[(.row 73 (.int .u64)), .int .i64],[.bool],λ_ x=>(GM.f x.1 x.2.1).map λr=>(r,())⟩
def cL (r:Bool):TT Of.rs:=(r,())
theorem cM:DT Tryz.prog 227 Of :=
 Ac (Bt:=AO []) (l:= []) (C:=Ag) (by kernel_rfl) AI trivial (fn:=Tryz.f227) (by kernel_rfl) rfl (by kernel_rfl) (by decide) (by kernel_rfl) (F:=λk x=>GM.f x.1 x.2.1) (m:=cL) (λk x=>rfl)
  (by exact trivial)
  (λk ⟨(a0:List Int),(a1:Int),_⟩=>by show Ad cL (GM.f a0 a1) _;unfold GM.f;exact go)
end
section
attribute [local irreducible] BJ.f GM.f
def MS:AT:=⟨[(.row 73 (.int .u64))],[.int .i64],λk x=>(B8.f k x.1).map λr=>(r,())⟩
def MT (r:Int):TT MS.rs:=(r,())
@[reducible] def Og:List Slot:= [.tmp 0 [.ty (.row 73 (.int .u64))], .tmp 3 [.ty (.int .i64)]]
def Vg (k:Nat) (x:TS Og):Option (Int):=B8.l0 k x.1.1 x.2.1.1
def pg:Bu (TT MS.rs):=⟨⟨14,14,[]⟩,AH [(0,⟨Og,λk x=>(Vg k x).map MT⟩)],AH [],AH []⟩
theorem pq:DT Tryz.prog 189 MS :=
 Ac (Bt:=AO []) (l:= [(126, .pu EO),(227, .pu Of)]) (C:=pg) (by kernel_rfl) AI ⟨Gw,cM,trivial⟩ (fn:=Tryz.f189) (by kernel_rfl) rfl (by kernel_rfl) (by decide) (by kernel_rfl) (F:=λk x=>B8.f k x.1) (m:=MT) (λk x=>rfl)
  (by
   refine And.intro ?_ ?_
   ·refine A8 (sl:=Og) (F:=Vg) (λx=>rfl) λk ⟨⟨(x0:List Int),_⟩,⟨(x3:Int),_⟩,_⟩=> ?_
    show Ad MT (B8.l0 (k+1) x0 x3) _;rw[B8.l0];exact go
   exact trivial)
  (λk ⟨(a0:List Int),_⟩=>by show Ad MT (B8.f k a0) _;unfold B8.f;exact go)
end
section
attribute [local irreducible] Ay.f
def LX:AT:=⟨[(.row 73 (.int .u64)), .int .i64],[(.row 73 (.int .u64))],λk x=>(BB.f k x.1 x.2.1).map λr=>(r,())⟩
def Ji (r:List Int):TT LX.rs:=(r,())
@[reducible] def Q3:List Slot:= [.tmp 0 [.ty (.row 73 (.int .u64))], .tmp 1 [.ty (.int .i64)], .tmp 5 [.own .mine 5 73 (.int .u64)], .tmp 6 [.ty (.int .i64)]]
def X8 (k:Nat) (x:TS Q3):Option (List Int):=match x with | ⟨⟨(x0:List Int),_⟩,⟨(x1:Int),_⟩,⟨(x5:List Int),_⟩,⟨(x6:Int),_⟩,_⟩=>if 0<=x1 then BB.l0 k x0 x1 x5 x6 else none
@[reducible] def Q4:List Slot:= [.tmp 5 [.own .mine 5 73 (.int .u64)], .tmp 7 [.ty (.int .u64)], .tmp 35 [.ty (.int .i64)], .tmp 36 [.ty (.int .i64)]]
def X9 (k:Nat) (x:TS Q4):Option (List Int):=match x with | ⟨⟨(x5:List Int),_⟩,⟨(x7:Int),_⟩,⟨(x35:Int),_⟩,⟨(mB:Int),_⟩,_⟩=>if 0<=x7/\x7<64 then BB.l1 k x5 x7 x35 mB else none
def tN:Bu (TT LX.rs):=⟨⟨72,72,[]⟩,AH [(0,⟨Q3,λk x=>(X8 k x).map Ji⟩),(1,⟨Q4,λk x=>(X9 k x).map Ji⟩)],AH [],AH []⟩
theorem cN:DT Tryz.prog 190 LX :=
 Ac (Bt:=AO [(15,[0,0,0,0,12,28,0,0,128,448,960,0,2048,8128,16380,32767,65535])]) (l:= [(188, .pu EP)]) (C:=tN) (by kernel_rfl) AI ⟨Gx,trivial⟩ (fn:=Tryz.f190) (by kernel_rfl) rfl (by kernel_rfl) (by decide) (by kernel_rfl) (F:=λk x=>BB.f k x.1 x.2.1) (m:=Ji) (λk x=>rfl)
  (by
   refine And.intro ?_ ?_
   ·refine A8 (sl:=Q3) (F:=X8) (λ⟨⟨(x0:List Int),_⟩,⟨(x1:Int),_⟩,⟨(x5:List Int),_⟩,⟨(x6:Int),_⟩,_⟩=>by show(if 0<=x1 then BB.l0 0 x0 x1 x5 x6 else none)=none;split<;>rfl) λk ⟨⟨(x0:List Int),_⟩,⟨(x1:Int),_⟩,⟨(x5:List Int),_⟩,⟨(x6:Int),_⟩,_⟩=> ?_
    show Ad Ji (if 0<=x1 then BB.l0 (k+1) x0 x1 x5 x6 else none) _;rw[BB.l0];exact go
   refine And.intro ?_ ?_
   ·refine A8 (sl:=Q4) (F:=X9) (λ⟨⟨(x5:List Int),_⟩,⟨(x7:Int),_⟩,⟨(x35:Int),_⟩,⟨(mB:Int),_⟩,_⟩=>by show(if 0<=x7/\x7<64 then BB.l1 0 x5 x7 x35 mB else none)=none;split<;>rfl) λk ⟨⟨(x5:List Int),_⟩,⟨(x7:Int),_⟩,⟨(x35:Int),_⟩,⟨(mB:Int),_⟩,_⟩=> ?_
    show Ad Ji (if 0<=x7/\x7<64 then BB.l1 (k+1) x5 x7 x35 mB else none) _;rw[BB.l1];exact go
   exact trivial)
  (λk ⟨(a0:List Int),(a1:Int),_⟩=>by show Ad Ji (BB.f k a0 a1) _;unfold BB.f;exact go)
end
section
attribute [local irreducible] CQ.f Cz.f BJ.f Aj.f Ay.f B8.f BB.f
def Oh:AT:=⟨[(.row 73 (.int .u64)),(.row 73 (.int .u64))],[(.row 73 (.int .u64))],λk x=>(BU.f k x.1 x.2.1).map λr=>(r,())⟩
def Gz (r:List Int):TT Oh.rs:=(r,())
@[reducible] def Q5:List Slot:= [.tmp 0 [.ty (.row 73 (.int .u64))], .tmp 1 [.ty (.row 73 (.int .u64))], .tmp 28 [.ty .bool]]
def YA (k:Nat) (x:TS Q5):Option (List Int):=BU.j0 k x.1.1 x.2.1.1 x.2.2.1.1
@[reducible] def Q6:List Slot:= [.tmp 5 [.ty (.int .u64)], .tmp 6 [.ty (.int .u64)]]
def YB (k:Nat) (x:TS Q6):Option (List Int):=BU.l0 k x.1.1 x.2.1.1
@[reducible] def Q7:List Slot:= [.tmp 7 [.ty (.int .i64)], .tmp 8 [.ty (.row 73 (.int .u64))], .tmp 9 [.ty (.row 73 (.int .u64))]]
def YC (k:Nat) (x:TS Q7):Option (List Int):=BU.l1 k x.1.1 x.2.1.1 x.2.2.1.1
def tO:Bu (TT Oh.rs):=⟨⟨75,75,[]⟩,AH [(0,⟨Q6,λk x=>(YB k x).map Gz⟩),(1,⟨Q7,λk x=>(YC k x).map Gz⟩)],AH [],AH [(5,⟨Q5,λk x=>(YA k x).map Gz⟩)]⟩
theorem tP:DT Tryz.prog 120 Oh :=
 Ac (Bt:=AO [(6,[0,1,3,0,8,24,7,127]),(8,[0,0,0,6,3,31])]) (l:= [(75, .pu Jh),(76, .pu LV),(126, .pu EO),(157, .pu LW),(188, .pu EP),(189, .pu MS),(190, .pu LX)]) (C:=tO) (by kernel_rfl) AI ⟨UB,cJ,Gw,cK,Gx,pq,cN,trivial⟩ (fn:=Tryz.f120) (by kernel_rfl) rfl (by kernel_rfl) (by decide) (by kernel_rfl) (F:=λk x=>BU.f k x.1 x.2.1) (m:=Gz) (λk x=>rfl)
  (by
   refine And.intro ?_ ?_
   ·refine B4 (sl:=Q5) (F:=YA) (λx=>rfl) λk ⟨⟨(x0:List Int),_⟩,⟨(x1:List Int),_⟩,⟨(yJ:Bool),_⟩,_⟩=> ?_
    show Ad Gz (BU.j0 (k+1) x0 x1 yJ) _;rw[BU.j0];exact go
   refine And.intro ?_ ?_
   ·refine A8 (sl:=Q6) (F:=YB) (λx=>rfl) λk ⟨⟨(x5:Int),_⟩,⟨(x6:Int),_⟩,_⟩=> ?_
    show Ad Gz (BU.l0 (k+1) x5 x6) _;rw[BU.l0];exact go
   refine And.intro ?_ ?_
   ·refine A8 (sl:=Q7) (F:=YC) (λx=>rfl) λk ⟨⟨(x7:Int),_⟩,⟨(x8:List Int),_⟩,⟨(x9:List Int),_⟩,_⟩=> ?_
    show Ad Gz (BU.l1 (k+1) x7 x8 x9) _;rw[BU.l1];exact go
   exact trivial)
  (λk ⟨(a0:List Int),(a1:List Int),_⟩=>by show Ad Gz (BU.f k a0 a1) _;unfold BU.f;exact go)
end
section
def Oi:AT:=⟨[.int .u64],[.int .i64],λk x=>(EF.f k x.1).map λr=>(r,())⟩
def Oj (r:Int):TT Oi.rs:=(r,())
@[reducible] def Q8:List Slot:= [.tmp 0 [.ty (.int .u64)], .tmp 3 [.ty (.int .i64)]]
def YD (k:Nat) (x:TS Q8):Option (Int):=EF.l0 k x.1.1 x.2.1.1
def tQ:Bu (TT Oi.rs):=⟨⟨11,11,[]⟩,AH [(0,⟨Q8,λk x=>(YD k x).map Oj⟩)],AH [],AH []⟩
theorem tR:DT Tryz.prog 191 Oi :=
 Ac (Bt:=AO []) (l:= []) (C:=tQ) (by kernel_rfl) AI trivial (fn:=Tryz.f191) (by kernel_rfl) rfl (by kernel_rfl) (by decide) (by kernel_rfl) (F:=λk x=>EF.f k x.1) (m:=Oj) (λk x=>rfl)
  (by
   refine And.intro ?_ ?_
   ·refine A8 (sl:=Q8) (F:=YD) (λx=>rfl) λk ⟨⟨(x0:Int),_⟩,⟨(x3:Int),_⟩,_⟩=> ?_
    show Ad Oj (EF.l0 (k+1) x0 x3) _;rw[EF.l0];exact go
   exact trivial)
  (λk ⟨(a0:Int),_⟩=>by show Ad Oj (EF.f k a0) _;unfold EF.f;exact go)
end
section
attribute [local irreducible] BJ.f EF.f
def Q9:AT:=⟨[(.row 73 (.int .u64))],[.int .i64],λk x=>(GY.f k x.1).map λr=>(r,())⟩
def YE (r:Int):TT Q9.rs:=(r,())
theorem pz:DT Tryz.prog 124 Q9 :=
 Ac (Bt:=AO []) (l:= [(126, .pu EO),(191, .pu Oi)]) (C:=Ag) (by kernel_rfl) AI ⟨Gw,tR,trivial⟩ (fn:=Tryz.f124) (by kernel_rfl) rfl (by kernel_rfl) (by decide) (by kernel_rfl) (F:=λk x=>GY.f k x.1) (m:=YE) (λk x=>rfl)
  (by exact trivial)
  (λk ⟨(a0:List Int),_⟩=>by show Ad YE (GY.f k a0) _;unfold GY.f;exact go)
end
section
def Ok:AT:=⟨[(.row 73 (.int .u64)), .int .i64],[(.row 73 (.int .u64))],λk x=>(CE.f k x.1 x.2.1).map λr=>(r,())⟩
def Ol (r:List Int):TT Ok.rs:=(r,())
@[reducible] def RA:List Slot:= [.tmp 0 [.ty (.row 73 (.int .u64))], .tmp 1 [.ty (.int .i64)], .tmp 5 [.own .mine 5 73 (.int .u64)], .tmp 13 [.ty (.int .i64)], .tmp 14 [.ty (.int .i64)]]
def YF (k:Nat) (x:TS RA):Option (List Int):=CE.l0 k x.1.1 x.2.1.1 x.2.2.1.1 x.2.2.2.1.1 x.2.2.2.2.1.1
def tS:Bu (TT Ok.rs):=⟨⟨41,41,[]⟩,AH [(0,⟨RA,λk x=>(YF k x).map Ol⟩)],AH [],AH []⟩
theorem tT:DT Tryz.prog 228 Ok :=
 Ac (Bt:=AO []) (l:= []) (C:=tS) (by kernel_rfl) AI trivial (fn:=Tryz.f228) (by kernel_rfl) rfl (by kernel_rfl) (by decide) (by kernel_rfl) (F:=λk x=>CE.f k x.1 x.2.1) (m:=Ol) (λk x=>rfl)
  (by
   refine And.intro ?_ ?_
   ·refine A8 (sl:=RA) (F:=YF) (λx=>rfl) λk ⟨⟨(x0:List Int),_⟩,⟨(x1:Int),_⟩,⟨(x5:List Int),_⟩,⟨(F5:Int),_⟩,⟨(dJ:Int),_⟩,_⟩=> ?_
    show Ad Ol (CE.l0 (k+1) x0 x1 x5 F5 dJ) _;rw[CE.l0];exact go
   exact trivial)
  (λk ⟨(a0:List Int),(a1:Int),_⟩=>by show Ad Ol (CE.f k a0 a1) _;unfold CE.f;exact go)
end
section
attribute [local irreducible] CQ.f Cz.f GY.f BJ.f Aj.f Ay.f BB.f GM.f CE.f
def Om:AT:=⟨[(.row 73 (.int .u64)),(.row 73 (.int .u64))],[(.row 73 (.int .u64)),(.row 73 (.int .u64))],λk x=>(BV.f k x.1 x.2.1).map λr=>(r.1,r.2,())⟩
def G0 (r:List Int × List Int):TT Om.rs:=(r.1,r.2,())
@[reducible] def RB:List Slot:= [.tmp 0 [.ty (.row 73 (.int .u64))], .tmp 1 [.ty (.row 73 (.int .u64))], .tmp 6 [.ty (.row 73 (.int .u64))], .tmp 18 [.ty .bool]]
def YG (k:Nat) (x:TS RB):Option (List Int × List Int):=BV.j0 k x.1.1 x.2.1.1 x.2.2.1.1 x.2.2.2.1.1
@[reducible] def RC:List Slot:= [.tmp 0 [.ty (.row 73 (.int .u64))], .tmp 1 [.ty (.row 73 (.int .u64))], .tmp 6 [.ty (.row 73 (.int .u64))], .tmp 7 [.ty (.row 73 (.int .u64))], .tmp 10 [.ty (.int .i64)]]
def YH (k:Nat) (x:TS RC):Option (List Int × List Int):=BV.l0 k x.1.1 x.2.1.1 x.2.2.1.1 x.2.2.2.1.1 x.2.2.2.2.1.1
@[reducible] def RD:List Slot:= [.tmp 0 [.ty (.row 73 (.int .u64))], .tmp 1 [.ty (.row 73 (.int .u64))], .tmp 6 [.ty (.row 73 (.int .u64))], .tmp 7 [.ty (.row 73 (.int .u64))], .tmp 10 [.ty (.int .i64)]]
def YI (k:Nat) (x:TS RD):Option (List Int × List Int):=BV.j2 k x.1.1 x.2.1.1 x.2.2.1.1 x.2.2.2.1.1 x.2.2.2.2.1.1
def tU:Bu (TT Om.rs):=⟨⟨75,75,[]⟩,AH [(0,⟨RC,λk x=>(YH k x).map G0⟩)],AH [(13,⟨RD,λk x=>(YI k x).map G0⟩)],AH [(2,⟨RB,λk x=>(YG k x).map G0⟩)]⟩
theorem tV:DT Tryz.prog 156 Om :=
 Ac (Bt:=AO [(3,[0,1,3,0,8,24,63,127,255,0,512,1536,0,4096,12288,32256,65024,131071,262143,524287])]) (l:= [(75, .pu Jh),(76, .pu LV),(124, .pu Q9),(126, .pu EO),(157, .pu LW),(188, .pu EP),(190, .pu LX),(227, .pu Of),(228, .pu Ok)]) (C:=tU) (by kernel_rfl) AI ⟨UB,cJ,pz,Gw,cK,Gx,cN,cM,tT,trivial⟩ (fn:=Tryz.f156) (by kernel_rfl) rfl (by kernel_rfl) (by decide) (by kernel_rfl) (F:=λk x=>BV.f k x.1 x.2.1) (m:=G0) (λk x=>rfl)
  (by
   refine And.intro ?_ ?_
   ·refine B4 (sl:=RB) (F:=YG) (λx=>rfl) λk ⟨⟨(x0:List Int),_⟩,⟨(x1:List Int),_⟩,⟨(x6:List Int),_⟩,⟨(x18:Bool),_⟩,_⟩=> ?_
    show Ad G0 (BV.j0 (k+1) x0 x1 x6 x18) _;rw[BV.j0];exact go
   refine And.intro ?_ ?_
   ·refine A8 (sl:=RC) (F:=YH) (λx=>rfl) λk ⟨⟨(x0:List Int),_⟩,⟨(x1:List Int),_⟩,⟨(x6:List Int),_⟩,⟨(x7:List Int),_⟩,⟨(LB:Int),_⟩,_⟩=> ?_
    show Ad G0 (BV.l0 (k+1) x0 x1 x6 x7 LB) _;rw[BV.l0];exact go
   refine And.intro ?_ ?_
   ·refine B4 (sl:=RD) (F:=YI) (λx=>rfl) λk ⟨⟨(x0:List Int),_⟩,⟨(x1:List Int),_⟩,⟨(x6:List Int),_⟩,⟨(x7:List Int),_⟩,⟨(LB:Int),_⟩,_⟩=> ?_
    show Ad G0 (BV.j2 (k+1) x0 x1 x6 x7 LB) _;rw[BV.j2];exact go
   exact trivial)
  (λk ⟨(a0:List Int),(a1:List Int),_⟩=>by show Ad G0 (BV.f k a0 a1) _;unfold BV.f;exact go)
end
section
attribute [local irreducible] CQ.f BJ.f BV.f Ay.f
def RE:AT:=⟨[(.row 73 (.int .u64)),(.row 73 (.int .u64))],[(.row 73 (.int .u64))],λk x=>(IX.f k x.1 x.2.1).map λr=>(r,())⟩
def YJ (r:List Int):TT RE.rs:=(r,())
theorem p8:DT Tryz.prog 127 RE :=
 Ac (Bt:=AO []) (l:= [(75, .pu Jh),(126, .pu EO),(156, .pu Om),(188, .pu EP)]) (C:=Ag) (by kernel_rfl) AI ⟨UB,Gw,tV,Gx,trivial⟩ (fn:=Tryz.f127) (by kernel_rfl) rfl (by kernel_rfl) (by decide) (by kernel_rfl) (F:=λk x=>IX.f k x.1 x.2.1) (m:=YJ) (λk x=>rfl)
  (by exact trivial)
  (λk ⟨(a0:List Int),(a1:List Int),_⟩=>by show Ad YJ (IX.f k a0 a1) _;unfold IX.f;exact go)
end
section
attribute [local irreducible] BU.f BJ.f IX.f
def RF:AT:=⟨[.bool,(.row 73 (.int .u64)),(.row 73 (.int .u64))],[(.cons .bool (.cons (.row 73 (.int .u64)) (.row 73 (.int .u64))))],λk x=>(HJ.f k x.1 x.2.1 x.2.2.1).map λr=>((r.1,r.2.1,r.2.2),())⟩
def YK (r:Bool × List Int × List Int):TT RF.rs:=((r.1,r.2.1,r.2.2),())
theorem p9:DT Tryz.prog 72 RF :=
 Ac (Bt:=AO []) (l:= [(120, .pu Oh),(126, .pu EO),(127, .pu RE)]) (C:=Ag) (by kernel_rfl) AI ⟨tP,Gw,p8,trivial⟩ (fn:=Tryz.f72) (by kernel_rfl) rfl (by kernel_rfl) (by decide) (by kernel_rfl) (F:=λk x=>HJ.f k x.1 x.2.1 x.2.2.1) (m:=YK) (λk x=>rfl)
  (by exact trivial)
  (λk ⟨(a0:Bool),(a1:List Int),(a2:List Int),_⟩=>by show Ad YK (HJ.f k a0 a1 a2) _;unfold HJ.f;exact go)
end
section
attribute [local irreducible] HJ.f
def XD:AT:=⟨[.int .i64],[(.cons .bool (.cons (.row 73 (.int .u64)) (.row 73 (.int .u64))))],λk x=>(OQ.f k x.1).map λr=>((r.1,r.2.1,r.2.2),())⟩
def gT (r:Bool × List Int × List Int):TT XD.rs:=((r.1,r.2.1,r.2.2),())
theorem xj:DT Tryz.prog 22 XD :=
 Ac (Bt:=AO []) (l:= [(72, .pu RF)]) (C:=Ag) (by kernel_rfl) AI ⟨p9,trivial⟩ (fn:=Tryz.f22) (by kernel_rfl) rfl (by kernel_rfl) (by decide) (by kernel_rfl) (F:=λk x=>OQ.f k x.1) (m:=gT) (λk x=>rfl)
  (by exact trivial)
  (λk ⟨(a0:Int),_⟩=>by show Ad gT (OQ.f k a0) _;unfold OQ.f;exact go)
end
section
def Kw:AT:=⟨[(.row 73 (.int .u64)),(.row 73 (.int .u64))],[.bool],λk x=>(Ca.f k x.1 x.2.1).map λr=>(r,())⟩
def Ky (r:Bool):TT Kw.rs:=(r,())
@[reducible] def M4:List Slot:= [.tmp 0 [.ty (.row 73 (.int .u64))], .tmp 1 [.ty (.row 73 (.int .u64))], .tmp 12 [.ty (.int .i64)], .tmp 13 [.ty (.int .i64)]]
def TD (k:Nat) (x:TS M4):Option (Bool):=Ca.l0 k x.1.1 x.2.1.1 x.2.2.1.1 x.2.2.2.1.1
def lI:Bu (TT Kw.rs):=⟨⟨26,26,[]⟩,AH [(0,⟨M4,λk x=>(TD k x).map Ky⟩)],AH [],AH []⟩
theorem lJ:DT Tryz.prog 95 Kw :=
 Ac (Bt:=AO [(6,[0,0,3,7,0,0,48,112,255])]) (l:= []) (C:=lI) (by kernel_rfl) AI trivial (fn:=Tryz.f95) (by kernel_rfl) rfl (by kernel_rfl) (by decide) (by kernel_rfl) (F:=λk x=>Ca.f k x.1 x.2.1) (m:=Ky) (λk x=>rfl)
  (by
   refine And.intro ?_ ?_
   ·refine A8 (sl:=M4) (F:=TD) (λx=>rfl) λk ⟨⟨(x0:List Int),_⟩,⟨(x1:List Int),_⟩,⟨(Xn:Int),_⟩,⟨(F5:Int),_⟩,_⟩=> ?_
    show Ad Ky (Ca.l0 (k+1) x0 x1 Xn F5) _;rw[Ca.l0];exact go
   exact trivial)
  (λk ⟨(a0:List Int),(a1:List Int),_⟩=>by show Ad Ky (Ca.f k a0 a1) _;unfold Ca.f;exact go)
end
section
attribute [local irreducible] Ca.f
def MU:AT:=⟨[(.cons .bool (.cons (.row 73 (.int .u64)) (.row 73 (.int .u64)))),(.cons .bool (.cons (.row 73 (.int .u64)) (.row 73 (.int .u64))))],[.bool],λk x=>(HK.f k x.1.1 x.1.2.1 x.1.2.2 x.2.1.1 x.2.1.2.1 x.2.1.2.2).map λr=>(r,())⟩
def YL (r:Bool):TT MU.rs:=(r,())
theorem YM:DT Tryz.prog 37 MU :=
 Ac (Bt:=AO []) (l:= [(95, .pu Kw)]) (C:=Ag) (by kernel_rfl) AI ⟨lJ,trivial⟩ (fn:=Tryz.f37) (by kernel_rfl) rfl (by kernel_rfl) (by decide) (by kernel_rfl) (F:=λk x=>HK.f k x.1.1 x.1.2.1 x.1.2.2 x.2.1.1 x.2.1.2.1 x.2.1.2.2) (m:=YL) (λk x=>rfl)
  (by exact trivial)
  (λk ⟨(a0:Bool × List Int × List Int),(a1:Bool × List Int × List Int),_⟩=>by show Ad YL (HK.f k a0.1 a0.2.1 a0.2.2 a1.1 a1.2.1 a1.2.2) _;unfold HK.f;exact go)
end
section
attribute [local irreducible] OQ.f HK.f GH.f GV.f BE.f DC.f De.f CC.f DD.f
def Hl:AT:=⟨[],[.bool],λk _=>(AM.f k).map λr=>(r,())⟩
def Kf (r:Bool):TT Hl.rs:=(r,())
theorem Sg:DT Tryz.prog 39 Hl :=
 zY (mm:=77) (Bt:=AO [(8,[0,1,0,7,15,31,63,127,255,511,1023,2047,4095,8191,16383,32767,65535,131071,262143,524287,1048575,2097151,4194303,8388607,16777215,33554431,67108863,134217727,268435455,536870911,1073741823,2147483647,4294967295,8589934591,17179869183,34359738367])]) (l:= [(22, .pu XD),(37, .pu MU),(38, .np OU),(45, .io Es [(34,75)]),(50, .io DP [(27,73)]),(96, .io D8 [(11,63)]),(97, .io D9 [(15,65)]),(98, .io D6 [(18,67),(21,69)]),(99, .io D7 [(25,71)])]) (C:=Ag) (by kernel_rfl) AI ⟨xj,YM,cD,Yu,Sk,Pe,Pj,PX,Pb,trivial⟩ (fn:=Tryz.f39) (by kernel_rfl) rfl (by kernel_rfl) (by decide) (by kernel_rfl) (F:=λk x=>AM.f k) (m:=Kf) (λk x=>rfl)
  (by exact trivial)
  (λk x=>by show Ad Kf (AM.f k) _;unfold AM.f;exact go)
end
section
attribute [local irreducible] De.f DD.f GU.f GX.f GO.f Fh.f GQ.f GR.f
def DQ:Dj:=⟨[.st 135 [.ty (.int .i64), .ty (.int .i64), .row false 93 (.cons (.int .i64) (.cons (.int .i64) (.cons (.int .i64) (.cons .bool (.cons (.row 73 (.int .u64)) (.row 73 (.int .u64))))))), .ty (.row 4 .bool), .row false 4 .bool, .ty (.int .i64), .ty (.int .i64), .ty .bool, .ty (.int .i64)], .ty (.int .i64), .ty (.cons (.cons .bool (.cons (.row 73 (.int .u64)) (.row 73 (.int .u64)))) (.cons (.int .u64) (.int .i64))), .ty (.cons (.cons .bool (.cons (.row 73 (.int .u64)) (.row 73 (.int .u64)))) (.cons (.int .u64) (.int .i64)))],[(.cons (.cons .bool (.cons (.row 73 (.int .u64)) (.row 73 (.int .u64)))) (.cons (.int .u64) (.int .i64)))],λk x=>(DI.f k x.1.1 x.1.2.1 x.1.2.2.1 x.1.2.2.2.1 x.1.2.2.2.2.1 x.1.2.2.2.2.2.1 x.1.2.2.2.2.2.2.1 x.1.2.2.2.2.2.2.2.1 x.1.2.2.2.2.2.2.2.2.1 x.2.1 x.2.2.1.1.1 x.2.2.1.1.2.1 x.2.2.1.1.2.2 x.2.2.1.2.1 x.2.2.1.2.2 x.2.2.2.1.1.1 x.2.2.2.1.1.2.1 x.2.2.2.1.1.2.2 x.2.2.2.1.2.1 x.2.2.2.1.2.2).map λr=>((((r.1,(r.2.1,r.2.2.1)),(r.2.2.2.1,r.2.2.2.2.1)),()),((r.2.2.2.2.2.1,r.2.2.2.2.2.2.1,r.2.2.2.2.2.2.2.1,r.2.2.2.2.2.2.2.2.1,r.2.2.2.2.2.2.2.2.2.1,r.2.2.2.2.2.2.2.2.2.2.1,r.2.2.2.2.2.2.2.2.2.2.2.1,r.2.2.2.2.2.2.2.2.2.2.2.2.1,r.2.2.2.2.2.2.2.2.2.2.2.2.2,()),()))⟩
def Kg (r:Bool × List Int × List Int × Int × Int × Int × Int × List (Int × Int × Int × Bool × (List Int) × List Int) × List Bool × List Bool × Int × Int × Bool × Int):TT DQ.rs × ET DQ.ps:=((((r.1,(r.2.1,r.2.2.1)),(r.2.2.2.1,r.2.2.2.2.1)),()),((r.2.2.2.2.2.1,r.2.2.2.2.2.2.1,r.2.2.2.2.2.2.2.1,r.2.2.2.2.2.2.2.2.1,r.2.2.2.2.2.2.2.2.2.1,r.2.2.2.2.2.2.2.2.2.2.1,r.2.2.2.2.2.2.2.2.2.2.2.1,r.2.2.2.2.2.2.2.2.2.2.2.2.1,r.2.2.2.2.2.2.2.2.2.2.2.2.2,()),()))
def Sl:Bu (TT DQ.rs × ET DQ.ps):=⟨⟨51,70,[51]⟩,AH [],AH [],AH []⟩
theorem Sm:Tj Tryz.prog 100 DQ :=
 Ez (Bt:=AO []) (l:= [(97, .io D9 [(19,56)]),(99, .io D7 [(31,60)]),(172, .io Er [(13,54)]),(173, .io Et [(25,58)]),(174, .io Eu [(37,62)]),(175, .io EZ [(42,64)]),(176, .io Ew [(47,66)]),(177, .io Ep [(50,68)])]) (C:=Sl) (by kernel_rfl) AI ⟨Pj,Pb,Yr,Yw,Yx,XB,Yy,Yn,trivial⟩ (fn:=Tryz.f100) (by kernel_rfl) rfl (by kernel_rfl) (by decide) (by kernel_rfl) (m:=70) (by decide) (by decide) (F:=λk x=>DI.f k x.1.1 x.1.2.1 x.1.2.2.1 x.1.2.2.2.1 x.1.2.2.2.2.1 x.1.2.2.2.2.2.1 x.1.2.2.2.2.2.2.1 x.1.2.2.2.2.2.2.2.1 x.1.2.2.2.2.2.2.2.2.1 x.2.1 x.2.2.1.1.1 x.2.2.1.1.2.1 x.2.2.1.1.2.2 x.2.2.1.2.1 x.2.2.1.2.2 x.2.2.2.1.1.1 x.2.2.2.1.1.2.1 x.2.2.2.1.1.2.2 x.2.2.2.1.2.1 x.2.2.2.1.2.2) (q:=Kg) (λk x=>rfl)
  (by exact trivial)
  (λk ⟨⟨Af,Al,Ai,Ar,Ao,Ap,Au,Aw,Av,_⟩,(a1:Int),(a2:(Bool × (List Int) × List Int) × Int × Int),(a3:(Bool × (List Int) × List Int) × Int × Int),_⟩=>by show Ad Kg (DI.f k Af Al Ai Ar Ao Ap Au Aw Av a1 a2.1.1 a2.1.2.1 a2.1.2.2 a2.2.1 a2.2.2 a3.1.1 a3.1.2.1 a3.1.2.2 a3.2.1 a3.2.2) _;unfold DI.f;exact go)
end
section
def CV:Dj:=⟨[.st 70 [.row true 137 (.cons (.cons .bool (.cons (.row 73 (.int .u64)) (.row 73 (.int .u64)))) (.cons (.int .u64) (.int .i64))), .row true 4 .bool], .ty (.int .i64)],[(.cons (.cons .bool (.cons (.row 73 (.int .u64)) (.row 73 (.int .u64)))) (.cons (.int .u64) (.int .i64)))],λk x=>(AU.f k x.1.1 x.1.2.1 x.2.1).map λr=>((((r.1,(r.2.1,r.2.2.1)),(r.2.2.2.1,r.2.2.2.2.1)),()),((r.2.2.2.2.2.1,r.2.2.2.2.2.2,()),()))⟩
def Dx (r:Bool × List Int × List Int × Int × Int × List ((Bool × (List Int) × List Int) × Int × Int) × List Bool):TT CV.rs × ET CV.ps:=((((r.1,(r.2.1,r.2.2.1)),(r.2.2.2.1,r.2.2.2.2.1)),()),((r.2.2.2.2.2.1,r.2.2.2.2.2.2,()),()))
@[reducible] def FM:List Slot:= [.tmp 4 [.ptr 4 0], .C4 4 .mine 137 [.ty .bool, .own .mine 33 73 (.int .u64), .own .mine 34 73 (.int .u64), .ty (.int .u64), .ty (.int .i64)], .C4 30 .kept 70 [.own .kept 31 137 (.cons (.cons .bool (.cons (.row 73 (.int .u64)) (.row 73 (.int .u64)))) (.cons (.int .u64) (.int .i64))), .own .kept 32 4 .bool]]
def H9 (k:Nat) (x:TS FM):Option (Bool × List Int × List Int × Int × Int × List ((Bool × (List Int) × List Int) × Int × Int) × List Bool):=AU.j2 k x.2.1.1 x.2.1.2.1 x.2.1.2.2.1 x.2.1.2.2.2.1 x.2.1.2.2.2.2.1 x.2.2.1.1 x.2.2.1.2.1
def Nq:Bu (TT CV.rs × ET CV.ps):=⟨⟨30,35,[30,31,32]⟩,AH [],AH [(2,⟨FM,λk x=>(H9 k x).map Dx⟩)],AH []⟩
theorem Nr:Tj Tryz.prog 101 CV :=
 Ez (Bt:=AO [(3,[0,1,3,7,0,16,48,112,240,0,1008,2047,4095,8191])]) (l:= []) (C:=Nq) (by kernel_rfl) AI trivial (fn:=Tryz.f101) (by kernel_rfl) rfl (by kernel_rfl) (by decide) (by kernel_rfl) (m:=35) (by decide) (by decide) (F:=λk x=>AU.f k x.1.1 x.1.2.1 x.2.1) (q:=Dx) (λk x=>rfl)
  (by
   refine And.intro ?_ ?_
   ·refine B4 (sl:=FM) (F:=H9) (λx=>rfl) λk ⟨_,⟨(AIy:Bool),(AIz:List Int),(AI0:List Int),(AI1:Int),(AI2:Int),_⟩,⟨(ABY:List ((Bool × (List Int) × List Int) × Int × Int)),(ABZ:List Bool),_⟩,_⟩=> ?_
    show Ad Dx (AU.j2 (k+1) AIy AIz AI0 AI1 AI2 ABY ABZ) _;rw[AU.j2];exact go
   exact trivial)
  (λk ⟨⟨Af,Al,_⟩,(a1:Int),_⟩=>by show Ad Dx (AU.f k Af Al a1) _;unfold AU.f;exact go)
end
section
attribute [local irreducible] DC.f CC.f DI.f AU.f AZ.f
def DO:Dj:=⟨[.st 135 [.ty (.int .i64), .ty (.int .i64), .row false 93 (.cons (.int .i64) (.cons (.int .i64) (.cons (.int .i64) (.cons .bool (.cons (.row 73 (.int .u64)) (.row 73 (.int .u64))))))), .ty (.row 4 .bool), .row false 4 .bool, .ty (.int .i64), .ty (.int .i64), .ty .bool, .ty (.int .i64)], .st 70 [.row false 137 (.cons (.cons .bool (.cons (.row 73 (.int .u64)) (.row 73 (.int .u64)))) (.cons (.int .u64) (.int .i64))), .row false 4 .bool], .ty (.cons (.int .i64) (.cons (.int .i64) (.cons (.int .i64) (.cons (.int .i64) (.cons (.int .i64) (.int .u64))))))],[],λk x=>(AA.f k x.1.1 x.1.2.1 x.1.2.2.1 x.1.2.2.2.1 x.1.2.2.2.2.1 x.1.2.2.2.2.2.1 x.1.2.2.2.2.2.2.1 x.1.2.2.2.2.2.2.2.1 x.1.2.2.2.2.2.2.2.2.1 x.2.1.1 x.2.1.2.1 x.2.2.1.1 x.2.2.1.2.1 x.2.2.1.2.2.1 x.2.2.1.2.2.2.1 x.2.2.1.2.2.2.2.1 x.2.2.1.2.2.2.2.2).map λr=>((()),((r.1,r.2.1,r.2.2.1,r.2.2.2.1,r.2.2.2.2.1,r.2.2.2.2.2.1,r.2.2.2.2.2.2.1,r.2.2.2.2.2.2.2.1,r.2.2.2.2.2.2.2.2.1,()),(r.2.2.2.2.2.2.2.2.2.1,r.2.2.2.2.2.2.2.2.2.2,()),()))⟩
def BM (r:Int × Int × List (Int × Int × Int × Bool × (List Int) × List Int) × List Bool × List Bool × Int × Int × Bool × Int × List ((Bool × (List Int) × List Int) × Int × Int) × List Bool):TT DO.rs × ET DO.ps:=((()),((r.1,r.2.1,r.2.2.1,r.2.2.2.1,r.2.2.2.2.1,r.2.2.2.2.2.1,r.2.2.2.2.2.2.1,r.2.2.2.2.2.2.2.1,r.2.2.2.2.2.2.2.2.1,()),(r.2.2.2.2.2.2.2.2.2.1,r.2.2.2.2.2.2.2.2.2.2,()),()))
@[reducible] def G1:List Slot:= [.tmp 0 [.ptr 146 0], .tmp 1 [.ptr 149 0], .tmp 5 [.ptr 5 0], .tmp 6 [.ty .bool], .C4 5 .mine 75 [.ty (.int .i64), .ty (.int .i64), .ty (.int .i64), .ty (.int .i64), .ty (.int .i64), .ty (.int .u64)], .C4 146 .kept 135 [.ty (.int .i64), .ty (.int .i64), .own .FZ 160 93 (.cons (.int .i64) (.cons (.int .i64) (.cons (.int .i64) (.cons .bool (.cons (.row 73 (.int .u64)) (.row 73 (.int .u64))))))), .ty (.row 4 .bool), .own .FZ 161 4 .bool, .ty (.int .i64), .ty (.int .i64), .ty .bool, .ty (.int .i64)], .C4 149 .kept 70 [.own .FZ 162 137 (.cons (.cons .bool (.cons (.row 73 (.int .u64)) (.row 73 (.int .u64)))) (.cons (.int .u64) (.int .i64))), .own .FZ 163 4 .bool]]
def KF (k:Nat) (x:TS G1):Option (Int × Int × List (Int × Int × Int × Bool × (List Int) × List Int) × List Bool × List Bool × Int × Int × Bool × Int × List ((Bool × (List Int) × List Int) × Int × Int) × List Bool):=AA.j2 k x.2.2.2.1.1 x.2.2.2.2.1.1 x.2.2.2.2.1.2.1 x.2.2.2.2.1.2.2.1 x.2.2.2.2.1.2.2.2.1 x.2.2.2.2.1.2.2.2.2.1 x.2.2.2.2.1.2.2.2.2.2.1 x.2.2.2.2.2.1.1 x.2.2.2.2.2.1.2.1 x.2.2.2.2.2.1.2.2.1 x.2.2.2.2.2.1.2.2.2.1 x.2.2.2.2.2.1.2.2.2.2.1 x.2.2.2.2.2.1.2.2.2.2.2.1 x.2.2.2.2.2.1.2.2.2.2.2.2.1 x.2.2.2.2.2.1.2.2.2.2.2.2.2.1 x.2.2.2.2.2.1.2.2.2.2.2.2.2.2.1 x.2.2.2.2.2.2.1.1 x.2.2.2.2.2.2.1.2.1
@[reducible] def G2:List Slot:= [.tmp 0 [.ptr 146 0], .tmp 1 [.ptr 149 0], .tmp 5 [.ptr 5 0], .C4 5 .mine 75 [.ty (.int .i64), .ty (.int .i64), .ty (.int .i64), .ty (.int .i64), .ty (.int .i64), .ty (.int .u64)], .C4 146 .kept 135 [.ty (.int .i64), .ty (.int .i64), .own .FZ 160 93 (.cons (.int .i64) (.cons (.int .i64) (.cons (.int .i64) (.cons .bool (.cons (.row 73 (.int .u64)) (.row 73 (.int .u64))))))), .ty (.row 4 .bool), .own .FZ 161 4 .bool, .ty (.int .i64), .ty (.int .i64), .ty .bool, .ty (.int .i64)], .C4 149 .kept 70 [.own .FZ 162 137 (.cons (.cons .bool (.cons (.row 73 (.int .u64)) (.row 73 (.int .u64)))) (.cons (.int .u64) (.int .i64))), .own .FZ 163 4 .bool]]
def KG (k:Nat) (x:TS G2):Option (Int × Int × List (Int × Int × Int × Bool × (List Int) × List Int) × List Bool × List Bool × Int × Int × Bool × Int × List ((Bool × (List Int) × List Int) × Int × Int) × List Bool):=AA.j3 k x.2.2.2.1.1 x.2.2.2.1.2.1 x.2.2.2.1.2.2.1 x.2.2.2.1.2.2.2.1 x.2.2.2.1.2.2.2.2.1 x.2.2.2.1.2.2.2.2.2.1 x.2.2.2.2.1.1 x.2.2.2.2.1.2.1 x.2.2.2.2.1.2.2.1 x.2.2.2.2.1.2.2.2.1 x.2.2.2.2.1.2.2.2.2.1 x.2.2.2.2.1.2.2.2.2.2.1 x.2.2.2.2.1.2.2.2.2.2.2.1 x.2.2.2.2.1.2.2.2.2.2.2.2.1 x.2.2.2.2.1.2.2.2.2.2.2.2.2.1 x.2.2.2.2.2.1.1 x.2.2.2.2.2.1.2.1
@[reducible] def G3:List Slot:= [.tmp 0 [.ptr 146 0], .tmp 1 [.ptr 149 0], .tmp 5 [.ptr 5 0], .C4 5 .mine 75 [.ty (.int .i64), .ty (.int .i64), .ty (.int .i64), .ty (.int .i64), .ty (.int .i64), .ty (.int .u64)], .C4 146 .kept 135 [.ty (.int .i64), .ty (.int .i64), .own .FZ 160 93 (.cons (.int .i64) (.cons (.int .i64) (.cons (.int .i64) (.cons .bool (.cons (.row 73 (.int .u64)) (.row 73 (.int .u64))))))), .ty (.row 4 .bool), .own .FZ 161 4 .bool, .ty (.int .i64), .ty (.int .i64), .ty .bool, .ty (.int .i64)], .C4 149 .kept 70 [.own .FZ 162 137 (.cons (.cons .bool (.cons (.row 73 (.int .u64)) (.row 73 (.int .u64)))) (.cons (.int .u64) (.int .i64))), .own .FZ 163 4 .bool]]
def KH (k:Nat) (x:TS G3):Option (Int × Int × List (Int × Int × Int × Bool × (List Int) × List Int) × List Bool × List Bool × Int × Int × Bool × Int × List ((Bool × (List Int) × List Int) × Int × Int) × List Bool):=AA.j5 k x.2.2.2.1.1 x.2.2.2.1.2.1 x.2.2.2.1.2.2.1 x.2.2.2.1.2.2.2.1 x.2.2.2.1.2.2.2.2.1 x.2.2.2.1.2.2.2.2.2.1 x.2.2.2.2.1.1 x.2.2.2.2.1.2.1 x.2.2.2.2.1.2.2.1 x.2.2.2.2.1.2.2.2.1 x.2.2.2.2.1.2.2.2.2.1 x.2.2.2.2.1.2.2.2.2.2.1 x.2.2.2.2.1.2.2.2.2.2.2.1 x.2.2.2.2.1.2.2.2.2.2.2.2.1 x.2.2.2.2.1.2.2.2.2.2.2.2.2.1 x.2.2.2.2.2.1.1 x.2.2.2.2.2.1.2.1
@[reducible] def G4:List Slot:= [.tmp 0 [.ptr 146 0], .tmp 1 [.ptr 149 0], .tmp 5 [.ptr 5 0], .C4 5 .mine 75 [.ty (.int .i64), .ty (.int .i64), .ty (.int .i64), .ty (.int .i64), .ty (.int .i64), .ty (.int .u64)], .C4 146 .kept 135 [.ty (.int .i64), .ty (.int .i64), .own .FZ 160 93 (.cons (.int .i64) (.cons (.int .i64) (.cons (.int .i64) (.cons .bool (.cons (.row 73 (.int .u64)) (.row 73 (.int .u64))))))), .ty (.row 4 .bool), .own .FZ 161 4 .bool, .ty (.int .i64), .ty (.int .i64), .ty .bool, .ty (.int .i64)], .C4 149 .kept 70 [.own .FZ 162 137 (.cons (.cons .bool (.cons (.row 73 (.int .u64)) (.row 73 (.int .u64)))) (.cons (.int .u64) (.int .i64))), .own .FZ 163 4 .bool]]
def KI (k:Nat) (x:TS G4):Option (Int × Int × List (Int × Int × Int × Bool × (List Int) × List Int) × List Bool × List Bool × Int × Int × Bool × Int × List ((Bool × (List Int) × List Int) × Int × Int) × List Bool):=AA.j7 k x.2.2.2.1.1 x.2.2.2.1.2.1 x.2.2.2.1.2.2.1 x.2.2.2.1.2.2.2.1 x.2.2.2.1.2.2.2.2.1 x.2.2.2.1.2.2.2.2.2.1 x.2.2.2.2.1.1 x.2.2.2.2.1.2.1 x.2.2.2.2.1.2.2.1 x.2.2.2.2.1.2.2.2.1 x.2.2.2.2.1.2.2.2.2.1 x.2.2.2.2.1.2.2.2.2.2.1 x.2.2.2.2.1.2.2.2.2.2.2.1 x.2.2.2.2.1.2.2.2.2.2.2.2.1 x.2.2.2.2.1.2.2.2.2.2.2.2.2.1 x.2.2.2.2.2.1.1 x.2.2.2.2.2.1.2.1
@[reducible] def G5:List Slot:= [.tmp 0 [.ptr 146 0], .tmp 1 [.ptr 149 0], .tmp 5 [.ptr 5 0], .C4 5 .mine 75 [.ty (.int .i64), .ty (.int .i64), .ty (.int .i64), .ty (.int .i64), .ty (.int .i64), .ty (.int .u64)], .C4 146 .kept 135 [.ty (.int .i64), .ty (.int .i64), .own .FZ 160 93 (.cons (.int .i64) (.cons (.int .i64) (.cons (.int .i64) (.cons .bool (.cons (.row 73 (.int .u64)) (.row 73 (.int .u64))))))), .ty (.row 4 .bool), .own .FZ 161 4 .bool, .ty (.int .i64), .ty (.int .i64), .ty .bool, .ty (.int .i64)], .C4 149 .kept 70 [.own .FZ 162 137 (.cons (.cons .bool (.cons (.row 73 (.int .u64)) (.row 73 (.int .u64)))) (.cons (.int .u64) (.int .i64))), .own .FZ 163 4 .bool]]
def KJ (k:Nat) (x:TS G5):Option (Int × Int × List (Int × Int × Int × Bool × (List Int) × List Int) × List Bool × List Bool × Int × Int × Bool × Int × List ((Bool × (List Int) × List Int) × Int × Int) × List Bool):=AA.j9 k x.2.2.2.1.1 x.2.2.2.1.2.1 x.2.2.2.1.2.2.1 x.2.2.2.1.2.2.2.1 x.2.2.2.1.2.2.2.2.1 x.2.2.2.1.2.2.2.2.2.1 x.2.2.2.2.1.1 x.2.2.2.2.1.2.1 x.2.2.2.2.1.2.2.1 x.2.2.2.2.1.2.2.2.1 x.2.2.2.2.1.2.2.2.2.1 x.2.2.2.2.1.2.2.2.2.2.1 x.2.2.2.2.1.2.2.2.2.2.2.1 x.2.2.2.2.1.2.2.2.2.2.2.2.1 x.2.2.2.2.1.2.2.2.2.2.2.2.2.1 x.2.2.2.2.2.1.1 x.2.2.2.2.2.1.2.1
def Sn:Bu (TT DO.rs × ET DO.ps):=⟨⟨146,164,[146,149]⟩,AH [],AH [(2,⟨G1,λk x=>(KF k x).map BM⟩),(3,⟨G2,λk x=>(KG k x).map BM⟩),(5,⟨G3,λk x=>(KH k x).map BM⟩),(7,⟨G4,λk x=>(KI k x).map BM⟩),(9,⟨G5,λk x=>(KJ k x).map BM⟩)],AH []⟩
theorem Sh:Tj Tryz.prog 40 DO :=
 Ez (Bt:=AO [(2,[0,1,3,7,15,31,63,127,255,511,255,1279,3327,7423,15615,32767,65535,131071,262143,524287,1048575,2097151,4194303,8388607,16777215,33554431,67108863,33554431,167772159,436207615,973078527,2046820351,4294967295,8589934591,17179869183,34359738367]),(4,[0,0,2,6,14,0,0,64,0,256,0,1024,4032,8160,16352,32766,65535,131071,262143]),(6,[0,0,2,6,14,0,0,64,0,256,992,2016,4094,8191,16383,32767]),(8,[0,0,2,6,14,0,0,64,0,0,512,1792,0,0,8192,32512,65504,131040,262142,524287,1048575,2097151]),(10,[0,0,2,6,14,0,0,0,128,448,0,0,2048,8128,16352,32736,65534,131071,262143,524287])]) (l:= [(96, .io D8 [(90,154)]),(98, .io D6 [(72,152)]),(100, .io DQ [(119,156)]),(101, .io CV [(114,156),(118,156),(136,158),(140,158)]),(102, .io Ec [(141,158)])]) (C:=Sn) (by kernel_rfl) AI ⟨Pe,PX,Sm,Nr,XE,trivial⟩ (fn:=Tryz.f40) (by kernel_rfl) rfl (by kernel_rfl) (by decide) (by kernel_rfl) (m:=164) (by decide) (by decide) (F:=λk x=>AA.f k x.1.1 x.1.2.1 x.1.2.2.1 x.1.2.2.2.1 x.1.2.2.2.2.1 x.1.2.2.2.2.2.1 x.1.2.2.2.2.2.2.1 x.1.2.2.2.2.2.2.2.1 x.1.2.2.2.2.2.2.2.2.1 x.2.1.1 x.2.1.2.1 x.2.2.1.1 x.2.2.1.2.1 x.2.2.1.2.2.1 x.2.2.1.2.2.2.1 x.2.2.1.2.2.2.2.1 x.2.2.1.2.2.2.2.2) (q:=BM) (λk x=>rfl)
  (by
   refine And.intro ?_ ?_
   ·refine B4 (sl:=G1) (F:=KF) (λx=>rfl) λk ⟨_,_,_,⟨(x6:Bool),_⟩,⟨(Hy:Int),(I3:Int),(IK:Int),(Jc:Int),(Jd:Int),(KA:Int),_⟩,⟨(Ci:Int),(Cj:Int),(Ck:List (Int × Int × Int × Bool × (List Int) × List Int)),(Cl:List Bool),(Cm:List Bool),(Co:Int),(Cp:Int),(Cq:Bool),(Cr:Int),_⟩,⟨(CM:List ((Bool × (List Int) × List Int) × Int × Int)),(Cs:List Bool),_⟩,_⟩=> ?_
    show Ad BM (AA.j2 (k+1) x6 Hy I3 IK Jc Jd KA Ci Cj Ck Cl Cm Co Cp Cq Cr CM Cs) _;rw[AA.j2];exact go
   refine And.intro ?_ ?_
   ·refine B4 (sl:=G2) (F:=KG) (λx=>rfl) λk ⟨_,_,_,⟨(Hy:Int),(I3:Int),(IK:Int),(Jc:Int),(Jd:Int),(KA:Int),_⟩,⟨(Ci:Int),(Cj:Int),(Ck:List (Int × Int × Int × Bool × (List Int) × List Int)),(Cl:List Bool),(Cm:List Bool),(Co:Int),(Cp:Int),(Cq:Bool),(Cr:Int),_⟩,⟨(CM:List ((Bool × (List Int) × List Int) × Int × Int)),(Cs:List Bool),_⟩,_⟩=> ?_
    show Ad BM (AA.j3 (k+1) Hy I3 IK Jc Jd KA Ci Cj Ck Cl Cm Co Cp Cq Cr CM Cs) _;rw[AA.j3];exact go
   refine And.intro ?_ ?_
   ·refine B4 (sl:=G3) (F:=KH) (λx=>rfl) λk ⟨_,_,_,⟨(Hy:Int),(I3:Int),(IK:Int),(Jc:Int),(Jd:Int),(KA:Int),_⟩,⟨(Ci:Int),(Cj:Int),(Ck:List (Int × Int × Int × Bool × (List Int) × List Int)),(Cl:List Bool),(Cm:List Bool),(Co:Int),(Cp:Int),(Cq:Bool),(Cr:Int),_⟩,⟨(CM:List ((Bool × (List Int) × List Int) × Int × Int)),(Cs:List Bool),_⟩,_⟩=> ?_
    show Ad BM (AA.j5 (k+1) Hy I3 IK Jc Jd KA Ci Cj Ck Cl Cm Co Cp Cq Cr CM Cs) _;rw[AA.j5];exact go
   refine And.intro ?_ ?_
   ·refine B4 (sl:=G4) (F:=KI) (λx=>rfl) λk ⟨_,_,_,⟨(Hy:Int),(I3:Int),(IK:Int),(Jc:Int),(Jd:Int),(KA:Int),_⟩,⟨(Ci:Int),(Cj:Int),(Ck:List (Int × Int × Int × Bool × (List Int) × List Int)),(Cl:List Bool),(Cm:List Bool),(Co:Int),(Cp:Int),(Cq:Bool),(Cr:Int),_⟩,⟨(CM:List ((Bool × (List Int) × List Int) × Int × Int)),(Cs:List Bool),_⟩,_⟩=> ?_
    show Ad BM (AA.j7 (k+1) Hy I3 IK Jc Jd KA Ci Cj Ck Cl Cm Co Cp Cq Cr CM Cs) _;rw[AA.j7];exact go
   refine And.intro ?_ ?_
   ·refine B4 (sl:=G5) (F:=KJ) (λx=>rfl) λk ⟨_,_,_,⟨(Hy:Int),(I3:Int),(IK:Int),(Jc:Int),(Jd:Int),(KA:Int),_⟩,⟨(Ci:Int),(Cj:Int),(Ck:List (Int × Int × Int × Bool × (List Int) × List Int)),(Cl:List Bool),(Cm:List Bool),(Co:Int),(Cp:Int),(Cq:Bool),(Cr:Int),_⟩,⟨(CM:List ((Bool × (List Int) × List Int) × Int × Int)),(Cs:List Bool),_⟩,_⟩=> ?_
    show Ad BM (AA.j9 (k+1) Hy I3 IK Jc Jd KA Ci Cj Ck Cl Cm Co Cp Cq Cr CM Cs) _;rw[AA.j9];exact go
   exact trivial)
  (λk ⟨⟨Af,Al,Ai,Ar,Ao,Ap,Au,Aw,Av,_⟩,⟨ABW,ABX,_⟩,(a2:Int × Int × Int × Int × Int × Int),_⟩=>by show Ad BM (AA.f k Af Al Ai Ar Ao Ap Au Aw Av ABW ABX a2.1 a2.2.1 a2.2.2.1 a2.2.2.2.1 a2.2.2.2.2.1 a2.2.2.2.2.2) _;unfold AA.f;exact go)
end
section
attribute [local irreducible] HK.f
def RH:AT:=⟨[(.cons (.cons .bool (.cons (.row 73 (.int .u64)) (.row 73 (.int .u64)))) (.cons (.int .u64) (.int .i64))),(.cons (.cons .bool (.cons (.row 73 (.int .u64)) (.row 73 (.int .u64)))) (.cons (.int .u64) (.int .i64)))],[.bool],λk x=>(Ja.f k x.1.1.1 x.1.1.2.1 x.1.1.2.2 x.1.2.1 x.1.2.2 x.2.1.1.1 x.2.1.1.2.1 x.2.1.1.2.2 x.2.1.2.1 x.2.1.2.2).map λr=>(r,())⟩
def YN (r:Bool):TT RH.rs:=(r,())
theorem qA:DT Tryz.prog 107 RH :=
 Ac (Bt:=AO []) (l:= [(37, .pu MU)]) (C:=Ag) (by kernel_rfl) AI ⟨YM,trivial⟩ (fn:=Tryz.f107) (by kernel_rfl) rfl (by kernel_rfl) (by decide) (by kernel_rfl) (F:=λk x=>Ja.f k x.1.1.1 x.1.1.2.1 x.1.1.2.2 x.1.2.1 x.1.2.2 x.2.1.1.1 x.2.1.1.2.1 x.2.1.1.2.2 x.2.1.2.1 x.2.1.2.2) (m:=YN) (λk x=>rfl)
  (by exact trivial)
  (λk ⟨(a0:(Bool × (List Int) × List Int) × Int × Int),(a1:(Bool × (List Int) × List Int) × Int × Int),_⟩=>by show Ad YN (Ja.f k a0.1.1 a0.1.2.1 a0.1.2.2 a0.2.1 a0.2.2 a1.1.1 a1.1.2.1 a1.1.2.2 a1.2.1 a1.2.2) _;unfold Ja.f;exact go)
end
section
attribute [local irreducible] Ja.f
def OV:AT:=⟨[(.row 137 (.cons (.cons .bool (.cons (.row 73 (.int .u64)) (.row 73 (.int .u64)))) (.cons (.int .u64) (.int .i64)))),(.row 137 (.cons (.cons .bool (.cons (.row 73 (.int .u64)) (.row 73 (.int .u64)))) (.cons (.int .u64) (.int .i64))))],[.bool],λk x=>(EC.f k x.1 x.2.1).map λr=>(r,())⟩
def On (r:Bool):TT OV.rs:=(r,())
@[reducible] def RI:List Slot:= [.tmp 0 [.ty (.row 137 (.cons (.cons .bool (.cons (.row 73 (.int .u64)) (.row 73 (.int .u64)))) (.cons (.int .u64) (.int .i64))))], .tmp 1 [.ty (.row 137 (.cons (.cons .bool (.cons (.row 73 (.int .u64)) (.row 73 (.int .u64)))) (.cons (.int .u64) (.int .i64))))], .tmp 12 [.ty (.int .i64)], .tmp 13 [.ty (.int .i64)]]
def YO (k:Nat) (x:TS RI):Option (Bool):=EC.l0 k x.1.1 x.2.1.1 x.2.2.1.1 x.2.2.2.1.1
def tW:Bu (TT OV.rs):=⟨⟨27,27,[]⟩,AH [(0,⟨RI,λk x=>(YO k x).map On⟩)],AH [],AH []⟩
theorem tH:DT Tryz.prog 42 OV :=
 Ac (Bt:=AO [(6,[0,0,3,7,0,0,48,112,255,511])]) (l:= [(107, .pu RH)]) (C:=tW) (by kernel_rfl) AI ⟨qA,trivial⟩ (fn:=Tryz.f42) (by kernel_rfl) rfl (by kernel_rfl) (by decide) (by kernel_rfl) (F:=λk x=>EC.f k x.1 x.2.1) (m:=On) (λk x=>rfl)
  (by
   refine And.intro ?_ ?_
   ·refine A8 (sl:=RI) (F:=YO) (λx=>rfl) λk ⟨⟨(x0:List ((Bool × (List Int) × List Int) × Int × Int)),_⟩,⟨(x1:List ((Bool × (List Int) × List Int) × Int × Int)),_⟩,⟨(Xn:Int),_⟩,⟨(F5:Int),_⟩,_⟩=> ?_
    show Ad On (EC.l0 (k+1) x0 x1 Xn F5) _;rw[EC.l0];exact go
   exact trivial)
  (λk ⟨(a0:List ((Bool × (List Int) × List Int) × Int × Int)),(a1:List ((Bool × (List Int) × List Int) × Int × Int)),_⟩=>by show Ad On (EC.f k a0 a1) _;unfold EC.f;exact go)
end
section
def E8:AT:=⟨[(.row 4 .bool),(.row 4 .bool)],[.bool],λk x=>(Aq.f k x.1 x.2.1).map λr=>(r,())⟩
def E9 (r:Bool):TT E8.rs:=(r,())
@[reducible] def Ga:List Slot:= [.tmp 0 [.ty (.row 4 .bool)], .tmp 1 [.ty (.row 4 .bool)], .tmp 12 [.ty (.int .i64)], .tmp 13 [.ty (.int .i64)]]
def JM (k:Nat) (x:TS Ga):Option (Bool):=Aq.l0 k x.1.1 x.2.1.1 x.2.2.1.1 x.2.2.2.1.1
def RJ:Bu (TT E8.rs):=⟨⟨26,26,[]⟩,AH [(0,⟨Ga,λk x=>(JM k x).map E9⟩)],AH [],AH []⟩
theorem Qu:DT Tryz.prog 43 E8 :=
 Ac (Bt:=AO [(6,[0,0,3,7,0,0,48,112,255])]) (l:= []) (C:=RJ) (by kernel_rfl) AI trivial (fn:=Tryz.f43) (by kernel_rfl) rfl (by kernel_rfl) (by decide) (by kernel_rfl) (F:=λk x=>Aq.f k x.1 x.2.1) (m:=E9) (λk x=>rfl)
  (by
   refine And.intro ?_ ?_
   ·refine A8 (sl:=Ga) (F:=JM) (λx=>rfl) λk ⟨⟨(x0:List Bool),_⟩,⟨(x1:List Bool),_⟩,⟨(Xn:Int),_⟩,⟨(F5:Int),_⟩,_⟩=> ?_
    show Ad E9 (Aq.l0 (k+1) x0 x1 Xn F5) _;rw[Aq.l0];exact go
   exact trivial)
  (λk ⟨(a0:List Bool),(a1:List Bool),_⟩=>by show Ad E9 (Aq.f k a0 a1) _;unfold Aq.f;exact go)
end
section
def Hq:AT:=⟨[(.cons .bool (.cons (.row 73 (.int .u64)) (.row 73 (.int .u64)))), .int .i64],[.bool],λ_ x=>(Cu.f x.1.1 x.1.2.1 x.1.2.2 x.2.1).map λr=>(r,())⟩
def Kh (r:Bool):TT Hq.rs:=(r,())
theorem So:DT Tryz.prog 60 Hq :=
 Ac (Bt:=AO []) (l:= []) (C:=Ag) (by kernel_rfl) AI trivial (fn:=Tryz.f60) (by kernel_rfl) rfl (by kernel_rfl) (by decide) (by kernel_rfl) (F:=λk x=>Cu.f x.1.1 x.1.2.1 x.1.2.2 x.2.1) (m:=Kh) (λk x=>rfl)
  (by exact trivial)
  (λk ⟨(a0:Bool × List Int × List Int),(a1:Int),_⟩=>by show Ad Kh (Cu.f a0.1 a0.2.1 a0.2.2 a1) _;unfold Cu.f;exact go)
end
section
attribute [local irreducible] Cu.f
def FX:AT:=⟨[(.row 137 (.cons (.cons .bool (.cons (.row 73 (.int .u64)) (.row 73 (.int .u64)))) (.cons (.int .u64) (.int .i64)))), .int .i64],[.bool],λk x=>(BD.f k x.1 x.2.1).map λr=>(r,())⟩
def FY (r:Bool):TT FX.rs:=(r,())
@[reducible] def G6:List Slot:= [.tmp 0 [.ty (.row 137 (.cons (.cons .bool (.cons (.row 73 (.int .u64)) (.row 73 (.int .u64)))) (.cons (.int .u64) (.int .i64))))], .tmp 1 [.ty (.int .i64)], .tmp 7 [.ty (.int .i64)], .tmp 8 [.ty (.int .i64)]]
def KK (k:Nat) (x:TS G6):Option (Bool):=BD.l0 k x.1.1 x.2.1.1 x.2.2.1.1 x.2.2.2.1.1
def Sp:Bu (TT FX.rs):=⟨⟨19,19,[]⟩,AH [(0,⟨G6,λk x=>(KK k x).map FY⟩)],AH [],AH []⟩
theorem Sq:DT Tryz.prog 108 FX :=
 Ac (Bt:=AO []) (l:= [(60, .pu Hq)]) (C:=Sp) (by kernel_rfl) AI ⟨So,trivial⟩ (fn:=Tryz.f108) (by kernel_rfl) rfl (by kernel_rfl) (by decide) (by kernel_rfl) (F:=λk x=>BD.f k x.1 x.2.1) (m:=FY) (λk x=>rfl)
  (by
   refine And.intro ?_ ?_
   ·refine A8 (sl:=G6) (F:=KK) (λx=>rfl) λk ⟨⟨(x0:List ((Bool × (List Int) × List Int) × Int × Int)),_⟩,⟨(x1:Int),_⟩,⟨(x7:Int),_⟩,⟨(x8:Int),_⟩,_⟩=> ?_
    show Ad FY (BD.l0 (k+1) x0 x1 x7 x8) _;rw[BD.l0];exact go
   exact trivial)
  (λk ⟨(a0:List ((Bool × (List Int) × List Int) × Int × Int)),(a1:Int),_⟩=>by show Ad FY (BD.f k a0 a1) _;unfold BD.f;exact go)
end
section
attribute [local irreducible] BD.f
def Ho:AT:=⟨[(.cons (.row 137 (.cons (.cons .bool (.cons (.row 73 (.int .u64)) (.row 73 (.int .u64)))) (.cons (.int .u64) (.int .i64)))) (.row 4 .bool))],[.bool],λk x=>(CP.f k x.1.1 x.1.2).map λr=>(r,())⟩
def Ki (r:Bool):TT Ho.rs:=(r,())
theorem Si:DT Tryz.prog 48 Ho :=
 Ac (Bt:=AO []) (l:= [(108, .pu FX)]) (C:=Ag) (by kernel_rfl) AI ⟨Sq,trivial⟩ (fn:=Tryz.f48) (by kernel_rfl) rfl (by kernel_rfl) (by decide) (by kernel_rfl) (F:=λk x=>CP.f k x.1.1 x.1.2) (m:=Ki) (λk x=>rfl)
  (by exact trivial)
  (λk ⟨(a0:(List ((Bool × (List Int) × List Int) × Int × Int)) × List Bool),_⟩=>by show Ad Ki (CP.f k a0.1 a0.2) _;unfold CP.f;exact go)
end
end Go.Proofs.YtjocbnjpjihpnaaGreat.A
