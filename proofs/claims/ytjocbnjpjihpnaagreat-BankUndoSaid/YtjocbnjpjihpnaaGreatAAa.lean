/- Functions that come to what their texts say. -/
import Derived.Test.YtjocbnjpjihpnaaGreatProg
import Derived.Test.YtjocbnjpjihpnaaGreatWWc
import Derived.KernelRfl
import Derived.Test.YtjocbnjpjihpnaaGreatBB
namespace Go.Proofs.YtjocbnjpjihpnaaGreat.A
open Go.RowKit Go.Proofs.YtjocbnjpjihpnaaGreat.P Go.Proofs.YtjocbnjpjihpnaaGreatW.AD Go.Proofs.YtjocbnjpjihpnaaGreatW.AR Go.Proofs.YtjocbnjpjihpnaaGreatW.AY Go.Proofs.YtjocbnjpjihpnaaGreatW.Gb
set_option linter.unusedVariables false
set_option linter.unusedSimpArgs false
set_option maxRecDepth 100000
set_option maxHeartbeats 4000000
end Go.Proofs.YtjocbnjpjihpnaaGreat.A
namespace Go.Proofs.YtjocbnjpjihpnaaGreat.A
open Go.Proofs.YtjocbnjpjihpnaaGreatW.Gb
def tab:JE:= [(2,⟨1,8,[.ro (.int .i64) (0:Int)], .int .i64,some (.int .i64),[]⟩),
 (3,⟨1,8,[.ro (.int .i64) (0:Int)], .int .i64,some (.int .i64),[]⟩),
 (4,⟨1,1,[.ro .bool false], .bool,some .bool,[]⟩),
 (5,⟨1,1,[.ro (.int .u8) (0:Int)], .int .u8,some (.int .u8),[]⟩),
 (9,⟨1,16,[.ro .str (⟨#[]⟩:ByteArray)], .str,some .str,[]⟩),
 (13,⟨2,24,[.ro .str (⟨#[]⟩:ByteArray), .ro (.int .u64) (0:Int)], .struct [(0,1),(1,1)],some (.cons .str (.int .u64)),[]⟩),
 (21,⟨1,4,[.ro (.int .i32) (0:Int)], .int .i32,some (.int .i32),[]⟩),
 (22,⟨1,24,[.Bo], .slice 93,some (.row 93 (.cons (.int .i64) (.cons (.int .i64) (.cons (.int .i64) (.cons .bool (.cons (.row 73 (.int .u64)) (.row 73 (.int .u64)))))))),[]⟩),
 (23,⟨1,24,[.Bo], .slice 45,some (.row 45 (.cons .bool (.cons (.row 73 (.int .u64)) (.row 73 (.int .u64))))),[]⟩),
 (24,⟨4,96,[.Bo, .Bo, .Bo, .Bo], .struct [(0,1),(1,1),(2,1),(3,1)],some (.cons (.row 93 (.cons (.int .i64) (.cons (.int .i64) (.cons (.int .i64) (.cons .bool (.cons (.row 73 (.int .u64)) (.row 73 (.int .u64)))))))) (.cons (.row 45 (.cons .bool (.cons (.row 73 (.int .u64)) (.row 73 (.int .u64))))) (.cons (.row 45 (.cons .bool (.cons (.row 73 (.int .u64)) (.row 73 (.int .u64))))) (.row 45 (.cons .bool (.cons (.row 73 (.int .u64)) (.row 73 (.int .u64)))))))),[]⟩),
 (25,⟨4,96,[.Bo, .Bo, .Bo, .Bo], .struct [(0,1),(1,1),(2,1),(3,1)],some (.cons (.row 93 (.cons (.int .i64) (.cons (.int .i64) (.cons (.int .i64) (.cons .bool (.cons (.row 73 (.int .u64)) (.row 73 (.int .u64)))))))) (.cons (.row 45 (.cons .bool (.cons (.row 73 (.int .u64)) (.row 73 (.int .u64))))) (.cons (.row 45 (.cons .bool (.cons (.row 73 (.int .u64)) (.row 73 (.int .u64))))) (.row 45 (.cons .bool (.cons (.row 73 (.int .u64)) (.row 73 (.int .u64)))))))),[]⟩),
 (28,⟨1,8,[.ro (.int .i64) (0:Int)], .int .i64,some (.int .i64),[]⟩),
 (34,⟨1,24,[.Bo], .slice 3,some (.row 3 (.int .i64)),[]⟩),
 (43,⟨1,24,[.Bo], .slice 73,some (.row 73 (.int .u64)),[]⟩),
 (44,⟨3,56,[.ro .bool false, .Bo, .Bo], .struct [(0,1),(1,1),(2,1)],some (.cons .bool (.cons (.row 73 (.int .u64)) (.row 73 (.int .u64)))),[]⟩),
 (45,⟨3,56,[.ro .bool false, .Bo, .Bo], .struct [(0,1),(1,1),(2,1)],some (.cons .bool (.cons (.row 73 (.int .u64)) (.row 73 (.int .u64)))),[]⟩),
 (62,⟨1,24,[.Bo], .slice 75,some (.row 75 (.cons (.int .i64) (.cons (.int .i64) (.cons (.int .i64) (.cons (.int .i64) (.cons (.int .i64) (.int .u64))))))),[]⟩),
 (63,⟨1,8,[.Li], .ptr,none,[]⟩),
 (65,⟨1,24,[.Bo], .slice 4,some (.row 4 .bool),[]⟩),
 (66,⟨5,56,[.ro (.int .i64) (0:Int), .ro (.int .i64) (0:Int), .ro (.int .i64) (0:Int), .Bo, .ro .bool false], .struct [(0,1),(1,1),(2,1),(3,1),(4,1)],some (.cons (.int .i64) (.cons (.int .i64) (.cons (.int .i64) (.cons (.row 4 .bool) .bool)))),[]⟩),
 (67,⟨5,56,[.ro (.int .i64) (0:Int), .ro (.int .i64) (0:Int), .ro (.int .i64) (0:Int), .Bo, .ro .bool false], .struct [(0,1),(1,1),(2,1),(3,1),(4,1)],some (.cons (.int .i64) (.cons (.int .i64) (.cons (.int .i64) (.cons (.row 4 .bool) .bool)))),[]⟩),
 (68,⟨1,24,[.Bo], .slice 137,some (.row 137 (.cons (.cons .bool (.cons (.row 73 (.int .u64)) (.row 73 (.int .u64)))) (.cons (.int .u64) (.int .i64)))),[]⟩),
 (69,⟨2,48,[.Bo, .Bo], .struct [(0,1),(1,1)],some (.cons (.row 137 (.cons (.cons .bool (.cons (.row 73 (.int .u64)) (.row 73 (.int .u64)))) (.cons (.int .u64) (.int .i64)))) (.row 4 .bool)),[]⟩),
 (70,⟨2,48,[.Bo, .Bo], .struct [(0,1),(1,1)],some (.cons (.row 137 (.cons (.cons .bool (.cons (.row 73 (.int .u64)) (.row 73 (.int .u64)))) (.cons (.int .u64) (.int .i64)))) (.row 4 .bool)),[]⟩),
 (72,⟨1,8,[.Li], .ptr,none,[]⟩),
 (73,⟨1,8,[.ro (.int .u64) (0:Int)], .int .u64,some (.int .u64),[]⟩),
 (74,⟨6,48,[.ro (.int .i64) (0:Int), .ro (.int .i64) (0:Int), .ro (.int .i64) (0:Int), .ro (.int .i64) (0:Int), .ro (.int .i64) (0:Int), .ro (.int .u64) (0:Int)], .struct [(0,1),(1,1),(2,1),(3,1),(4,1),(5,1)],some (.cons (.int .i64) (.cons (.int .i64) (.cons (.int .i64) (.cons (.int .i64) (.cons (.int .i64) (.int .u64)))))),[]⟩),
 (75,⟨6,48,[.ro (.int .i64) (0:Int), .ro (.int .i64) (0:Int), .ro (.int .i64) (0:Int), .ro (.int .i64) (0:Int), .ro (.int .i64) (0:Int), .ro (.int .u64) (0:Int)], .struct [(0,1),(1,1),(2,1),(3,1),(4,1),(5,1)],some (.cons (.int .i64) (.cons (.int .i64) (.cons (.int .i64) (.cons (.int .i64) (.cons (.int .i64) (.int .u64)))))),[]⟩),
 (77,⟨1,8,[.Li], .ptr,none,[]⟩),
 (86,⟨7,56,[.ro (.int .i64) (0:Int), .ro (.int .i64) (0:Int), .ro (.int .i64) (0:Int), .ro (.int .i64) (0:Int), .ro (.int .i64) (0:Int), .ro .bool false, .ro (.int .i64) (0:Int)], .struct [(0,1),(1,1),(2,1),(3,1),(4,1),(5,1),(6,1)],some (.cons (.int .i64) (.cons (.int .i64) (.cons (.int .i64) (.cons (.int .i64) (.cons (.int .i64) (.cons .bool (.int .i64))))))),[]⟩),
 (87,⟨7,56,[.ro (.int .i64) (0:Int), .ro (.int .i64) (0:Int), .ro (.int .i64) (0:Int), .ro (.int .i64) (0:Int), .ro (.int .i64) (0:Int), .ro .bool false, .ro (.int .i64) (0:Int)], .struct [(0,1),(1,1),(2,1),(3,1),(4,1),(5,1),(6,1)],some (.cons (.int .i64) (.cons (.int .i64) (.cons (.int .i64) (.cons (.int .i64) (.cons (.int .i64) (.cons .bool (.int .i64))))))),[.int .i64, .int .i64, .int .i64, .int .i64, .int .i64, .bool, .int .i64]⟩),
 (92,⟨6,80,[.ro (.int .i64) (0:Int), .ro (.int .i64) (0:Int), .ro (.int .i64) (0:Int), .ro .bool false, .Bo, .Bo], .struct [(0,1),(1,1),(2,1),(3,3)],some (.cons (.int .i64) (.cons (.int .i64) (.cons (.int .i64) (.cons .bool (.cons (.row 73 (.int .u64)) (.row 73 (.int .u64))))))),[]⟩),
 (93,⟨6,80,[.ro (.int .i64) (0:Int), .ro (.int .i64) (0:Int), .ro (.int .i64) (0:Int), .ro .bool false, .Bo, .Bo], .struct [(0,1),(1,1),(2,1),(3,3)],some (.cons (.int .i64) (.cons (.int .i64) (.cons (.int .i64) (.cons .bool (.cons (.row 73 (.int .u64)) (.row 73 (.int .u64))))))),[]⟩),
 (100,⟨1,8,[.Li], .ptr,none,[]⟩),
 (102,⟨3,72,[.Bo, .Bo, .Bo], .struct [(0,1),(1,1),(2,1)],some (.cons (.row 45 (.cons .bool (.cons (.row 73 (.int .u64)) (.row 73 (.int .u64))))) (.cons (.row 45 (.cons .bool (.cons (.row 73 (.int .u64)) (.row 73 (.int .u64))))) (.row 45 (.cons .bool (.cons (.row 73 (.int .u64)) (.row 73 (.int .u64))))))),[]⟩),
 (103,⟨3,72,[.Bo, .Bo, .Bo], .struct [(0,1),(1,1),(2,1)],some (.cons (.row 45 (.cons .bool (.cons (.row 73 (.int .u64)) (.row 73 (.int .u64))))) (.cons (.row 45 (.cons .bool (.cons (.row 73 (.int .u64)) (.row 73 (.int .u64))))) (.row 45 (.cons .bool (.cons (.row 73 (.int .u64)) (.row 73 (.int .u64))))))),[]⟩),
 (113,⟨6,112,[.ro .bool false, .Bo, .Bo, .ro .bool false, .Bo, .Bo], .arr 2 45,some (.cons (.cons .bool (.cons (.row 73 (.int .u64)) (.row 73 (.int .u64)))) (.cons .bool (.cons (.row 73 (.int .u64)) (.row 73 (.int .u64))))),[]⟩),
 (122,⟨1,8,[.Li], .ptr,none,[]⟩),
 (123,⟨4,80,[.Bo, .Bo, .Bo, .ro (.int .i64) (0:Int)], .struct [(0,1),(1,1),(2,1),(3,1)],some (.cons (.row 45 (.cons .bool (.cons (.row 73 (.int .u64)) (.row 73 (.int .u64))))) (.cons (.row 45 (.cons .bool (.cons (.row 73 (.int .u64)) (.row 73 (.int .u64))))) (.cons (.row 45 (.cons .bool (.cons (.row 73 (.int .u64)) (.row 73 (.int .u64))))) (.int .i64)))),[]⟩),
 (124,⟨4,80,[.Bo, .Bo, .Bo, .ro (.int .i64) (0:Int)], .struct [(0,1),(1,1),(2,1),(3,1)],some (.cons (.row 45 (.cons .bool (.cons (.row 73 (.int .u64)) (.row 73 (.int .u64))))) (.cons (.row 45 (.cons .bool (.cons (.row 73 (.int .u64)) (.row 73 (.int .u64))))) (.cons (.row 45 (.cons .bool (.cons (.row 73 (.int .u64)) (.row 73 (.int .u64))))) (.int .i64)))),[]⟩),
 (133,⟨1,8,[.FA], .map 3 3,none,[]⟩),
 (134,⟨9,120,[.ro (.int .i64) (0:Int), .ro (.int .i64) (0:Int), .Bo, .Bo, .Bo, .ro (.int .i64) (0:Int), .ro (.int .i64) (0:Int), .ro .bool false, .ro (.int .i64) (0:Int)], .struct [(0,1),(1,1),(2,1),(3,1),(4,1),(5,1),(6,1),(7,1),(8,1)],some (.cons (.int .i64) (.cons (.int .i64) (.cons (.row 93 (.cons (.int .i64) (.cons (.int .i64) (.cons (.int .i64) (.cons .bool (.cons (.row 73 (.int .u64)) (.row 73 (.int .u64)))))))) (.cons (.row 4 .bool) (.cons (.row 4 .bool) (.cons (.int .i64) (.cons (.int .i64) (.cons .bool (.int .i64))))))))),[]⟩),
 (135,⟨9,120,[.ro (.int .i64) (0:Int), .ro (.int .i64) (0:Int), .Bo, .Bo, .Bo, .ro (.int .i64) (0:Int), .ro (.int .i64) (0:Int), .ro .bool false, .ro (.int .i64) (0:Int)], .struct [(0,1),(1,1),(2,1),(3,1),(4,1),(5,1),(6,1),(7,1),(8,1)],some (.cons (.int .i64) (.cons (.int .i64) (.cons (.row 93 (.cons (.int .i64) (.cons (.int .i64) (.cons (.int .i64) (.cons .bool (.cons (.row 73 (.int .u64)) (.row 73 (.int .u64)))))))) (.cons (.row 4 .bool) (.cons (.row 4 .bool) (.cons (.int .i64) (.cons (.int .i64) (.cons .bool (.int .i64))))))))),[]⟩),
 (136,⟨5,72,[.ro .bool false, .Bo, .Bo, .ro (.int .u64) (0:Int), .ro (.int .i64) (0:Int)], .struct [(0,3),(3,1),(4,1)],some (.cons (.cons .bool (.cons (.row 73 (.int .u64)) (.row 73 (.int .u64)))) (.cons (.int .u64) (.int .i64))),[]⟩),
 (137,⟨5,72,[.ro .bool false, .Bo, .Bo, .ro (.int .u64) (0:Int), .ro (.int .i64) (0:Int)], .struct [(0,3),(3,1),(4,1)],some (.cons (.cons .bool (.cons (.row 73 (.int .u64)) (.row 73 (.int .u64)))) (.cons (.int .u64) (.int .i64))),[]⟩),
 (141,⟨3,24,[.ro (.int .i64) (0:Int), .ro (.int .i64) (0:Int), .ro (.int .u64) (0:Int)], .struct [(0,1),(1,1),(2,1)],some (.cons (.int .i64) (.cons (.int .i64) (.int .u64))),[]⟩),
 (142,⟨3,24,[.ro (.int .i64) (0:Int), .ro (.int .i64) (0:Int), .ro (.int .u64) (0:Int)], .struct [(0,1),(1,1),(2,1)],some (.cons (.int .i64) (.cons (.int .i64) (.int .u64))),[]⟩),
 (150,⟨1,8,[.Li], .ptr,none,[]⟩),
 (155,⟨1,8,[.ro (.int .u64) (0:Int)], .int .u64,some (.int .u64),[]⟩),
 (190,⟨3,24,[.ro .bool false, .ro (.int .u64) (0:Int), .ro (.int .i64) (0:Int)], .struct [(0,1),(1,1),(2,1)],some (.cons .bool (.cons (.int .u64) (.int .i64))),[]⟩),
 (191,⟨3,24,[.ro .bool false, .ro (.int .u64) (0:Int), .ro (.int .i64) (0:Int)], .struct [(0,1),(1,1),(2,1)],some (.cons .bool (.cons (.int .u64) (.int .i64))),[]⟩),
 (202,⟨14,112,[.ro (.int .i64) (0:Int), .ro (.int .i64) (0:Int), .ro (.int .i64) (0:Int), .ro (.int .i64) (0:Int), .ro (.int .i64) (0:Int), .ro (.int .i64) (0:Int), .ro (.int .i64) (0:Int), .ro (.int .i64) (0:Int), .ro (.int .i64) (0:Int), .ro (.int .i64) (0:Int), .ro (.int .i64) (0:Int), .ro (.int .i64) (0:Int), .ro (.int .i64) (0:Int), .ro (.int .i64) (0:Int)], .arr 14 3,none,[]⟩),
 (221,⟨1,4,[.ro (.int .u32) (0:Int)], .int .u32,some (.int .u32),[]⟩),
 (225,⟨1,8,[.Li], .ptr,none,[]⟩)]
theorem AI:JE.ok Tryz.prog tab=true:=by kernel_rfl
end Go.Proofs.YtjocbnjpjihpnaaGreat.A
namespace Go.Proofs.YtjocbnjpjihpnaaGreat.A
open Go.RowKit Go.Proofs.YtjocbnjpjihpnaaGreat.P Go.Proofs.YtjocbnjpjihpnaaGreatW.AD Go.Proofs.YtjocbnjpjihpnaaGreatW.AR Go.Proofs.YtjocbnjpjihpnaaGreatW.AY Go.Proofs.YtjocbnjpjihpnaaGreatW.Gb
set_option linter.unusedVariables false
set_option linter.unusedSimpArgs false
set_option maxRecDepth 100000
set_option maxHeartbeats 4000000
section
def CR:Dj:=⟨[.st 135 [.ty (.int .i64), .ty (.int .i64), .row false 93 (.cons (.int .i64) (.cons (.int .i64) (.cons (.int .i64) (.cons .bool (.cons (.row 73 (.int .u64)) (.row 73 (.int .u64))))))), .ty (.row 4 .bool), .row false 4 .bool, .ty (.int .i64), .ty (.int .i64), .ty .bool, .ty (.int .i64)]],[.bool],λk x=>(BL.f k x.1.1 x.1.2.1 x.1.2.2.1 x.1.2.2.2.1 x.1.2.2.2.2.1 x.1.2.2.2.2.2.1 x.1.2.2.2.2.2.2.1 x.1.2.2.2.2.2.2.2.1 x.1.2.2.2.2.2.2.2.2.1).map λr=>((r.1,()),((r.2.1,r.2.2.1,r.2.2.2.1,r.2.2.2.2.1,r.2.2.2.2.2.1,r.2.2.2.2.2.2.1,r.2.2.2.2.2.2.2.1,r.2.2.2.2.2.2.2.2.1,r.2.2.2.2.2.2.2.2.2,()),()))⟩
def MV (r:Bool × Int × Int × List (Int × Int × Int × Bool × (List Int) × List Int) × List Bool × List Bool × Int × Int × Bool × Int):TT CR.rs × ET CR.ps:=((r.1,()),((r.2.1,r.2.2.1,r.2.2.2.1,r.2.2.2.2.1,r.2.2.2.2.2.1,r.2.2.2.2.2.2.1,r.2.2.2.2.2.2.2.1,r.2.2.2.2.2.2.2.2.1,r.2.2.2.2.2.2.2.2.2,()),()))
def Vh:Bu (TT CR.rs × ET CR.ps):=⟨⟨12,15,[12]⟩,AH [],AH [],AH []⟩
theorem Gg:Tj Tryz.prog 168 CR :=
 Ez (Bt:=AO []) (l:= []) (C:=Vh) (by kernel_rfl) AI trivial (fn:=Tryz.f168) (by kernel_rfl) rfl (by kernel_rfl) (by decide) (by kernel_rfl) (m:=15) (by decide) (by decide) (F:=λk x=>BL.f k x.1.1 x.1.2.1 x.1.2.2.1 x.1.2.2.2.1 x.1.2.2.2.2.1 x.1.2.2.2.2.2.1 x.1.2.2.2.2.2.2.1 x.1.2.2.2.2.2.2.2.1 x.1.2.2.2.2.2.2.2.2.1) (q:=MV) (λk x=>rfl)
  (by exact trivial)
  (λk ⟨⟨Af,Al,Ai,Ar,Ao,Ap,Au,Aw,Av,_⟩,_⟩=>by show Ad MV (BL.f k Af Al Ai Ar Ao Ap Au Aw Av) _;unfold BL.f;exact go)
end
section
def B9:Dj:=⟨[.st 135 [.ty (.int .i64), .ty (.int .i64), .row false 93 (.cons (.int .i64) (.cons (.int .i64) (.cons (.int .i64) (.cons .bool (.cons (.row 73 (.int .u64)) (.row 73 (.int .u64))))))), .ty (.row 4 .bool), .row false 4 .bool, .ty (.int .i64), .ty (.int .i64), .ty .bool, .ty (.int .i64)], .ty (.int .i64)],[],λk x=>(A7.f k x.1.1 x.1.2.1 x.1.2.2.1 x.1.2.2.2.1 x.1.2.2.2.2.1 x.1.2.2.2.2.2.1 x.1.2.2.2.2.2.2.1 x.1.2.2.2.2.2.2.2.1 x.1.2.2.2.2.2.2.2.2.1 x.2.1).map λr=>((()),((r.1,r.2.1,r.2.2.1,r.2.2.2.1,r.2.2.2.2.1,r.2.2.2.2.2.1,r.2.2.2.2.2.2.1,r.2.2.2.2.2.2.2.1,r.2.2.2.2.2.2.2.2,()),()))⟩
def Ns (r:Int × Int × List (Int × Int × Int × Bool × (List Int) × List Int) × List Bool × List Bool × Int × Int × Bool × Int):TT B9.rs × ET B9.ps:=((()),((r.1,r.2.1,r.2.2.1,r.2.2.2.1,r.2.2.2.2.1,r.2.2.2.2.2.1,r.2.2.2.2.2.2.1,r.2.2.2.2.2.2.2.1,r.2.2.2.2.2.2.2.2,()),()))
def XF:Bu (TT B9.rs × ET B9.ps):=⟨⟨17,20,[17]⟩,AH [],AH [],AH []⟩
theorem EY:Tj Tryz.prog 178 B9 :=
 Ez (Bt:=AO []) (l:= []) (C:=XF) (by kernel_rfl) AI trivial (fn:=Tryz.f178) (by kernel_rfl) rfl (by kernel_rfl) (by decide) (by kernel_rfl) (m:=20) (by decide) (by decide) (F:=λk x=>A7.f k x.1.1 x.1.2.1 x.1.2.2.1 x.1.2.2.2.1 x.1.2.2.2.2.1 x.1.2.2.2.2.2.1 x.1.2.2.2.2.2.2.1 x.1.2.2.2.2.2.2.2.1 x.1.2.2.2.2.2.2.2.2.1 x.2.1) (q:=Ns) (λk x=>rfl)
  (by exact trivial)
  (λk ⟨⟨Af,Al,Ai,Ar,Ao,Ap,Au,Aw,Av,_⟩,(a1:Int),_⟩=>by show Ad Ns (A7.f k Af Al Ai Ar Ao Ap Au Aw Av a1) _;unfold A7.f;exact go)
end
section
attribute [local irreducible] A7.f
def Cv:Dj:=⟨[.st 135 [.ty (.int .i64), .ty (.int .i64), .row false 93 (.cons (.int .i64) (.cons (.int .i64) (.cons (.int .i64) (.cons .bool (.cons (.row 73 (.int .u64)) (.row 73 (.int .u64))))))), .ty (.row 4 .bool), .row false 4 .bool, .ty (.int .i64), .ty (.int .i64), .ty .bool, .ty (.int .i64)], .ty (.cons (.int .i64) (.cons (.int .i64) (.cons (.int .i64) (.cons .bool (.cons (.row 73 (.int .u64)) (.row 73 (.int .u64)))))))],[(.cons (.cons .bool (.cons (.row 73 (.int .u64)) (.row 73 (.int .u64)))) (.cons (.int .u64) (.int .i64)))],λk x=>(Bj.f k x.1.1 x.1.2.1 x.1.2.2.1 x.1.2.2.2.1 x.1.2.2.2.2.1 x.1.2.2.2.2.2.1 x.1.2.2.2.2.2.2.1 x.1.2.2.2.2.2.2.2.1 x.1.2.2.2.2.2.2.2.2.1 x.2.1.1 x.2.1.2.1 x.2.1.2.2.1 x.2.1.2.2.2.1 x.2.1.2.2.2.2.1 x.2.1.2.2.2.2.2).map λr=>((((r.1,(r.2.1,r.2.2.1)),(r.2.2.2.1,r.2.2.2.2.1)),()),((r.2.2.2.2.2.1,r.2.2.2.2.2.2.1,r.2.2.2.2.2.2.2.1,r.2.2.2.2.2.2.2.2.1,r.2.2.2.2.2.2.2.2.2.1,r.2.2.2.2.2.2.2.2.2.2.1,r.2.2.2.2.2.2.2.2.2.2.2.1,r.2.2.2.2.2.2.2.2.2.2.2.2.1,r.2.2.2.2.2.2.2.2.2.2.2.2.2,()),()))⟩
def MW (r:Bool × List Int × List Int × Int × Int × Int × Int × List (Int × Int × Int × Bool × (List Int) × List Int) × List Bool × List Bool × Int × Int × Bool × Int):TT Cv.rs × ET Cv.ps:=((((r.1,(r.2.1,r.2.2.1)),(r.2.2.2.1,r.2.2.2.2.1)),()),((r.2.2.2.2.2.1,r.2.2.2.2.2.2.1,r.2.2.2.2.2.2.2.1,r.2.2.2.2.2.2.2.2.1,r.2.2.2.2.2.2.2.2.2.1,r.2.2.2.2.2.2.2.2.2.2.1,r.2.2.2.2.2.2.2.2.2.2.2.1,r.2.2.2.2.2.2.2.2.2.2.2.2.1,r.2.2.2.2.2.2.2.2.2.2.2.2.2,()),()))
def Vi:Bu (TT Cv.rs × ET Cv.ps):=⟨⟨31,36,[31]⟩,AH [],AH [],AH []⟩
theorem I7:Tj Tryz.prog 170 Cv :=
 Ez (Bt:=AO [(4,[0,0,2,6,14,0,32,126,255,511,1023])]) (l:= [(178, .io B9 [(12,34)])]) (C:=Vi) (by kernel_rfl) AI ⟨EY,trivial⟩ (fn:=Tryz.f170) (by kernel_rfl) rfl (by kernel_rfl) (by decide) (by kernel_rfl) (m:=36) (by decide) (by decide) (F:=λk x=>Bj.f k x.1.1 x.1.2.1 x.1.2.2.1 x.1.2.2.2.1 x.1.2.2.2.2.1 x.1.2.2.2.2.2.1 x.1.2.2.2.2.2.2.1 x.1.2.2.2.2.2.2.2.1 x.1.2.2.2.2.2.2.2.2.1 x.2.1.1 x.2.1.2.1 x.2.1.2.2.1 x.2.1.2.2.2.1 x.2.1.2.2.2.2.1 x.2.1.2.2.2.2.2) (q:=MW) (λk x=>rfl)
  (by exact trivial)
  (λk ⟨⟨Af,Al,Ai,Ar,Ao,Ap,Au,Aw,Av,_⟩,(a1:Int × Int × Int × Bool × (List Int) × List Int),_⟩=>by show Ad MW (Bj.f k Af Al Ai Ar Ao Ap Au Aw Av a1.1 a1.2.1 a1.2.2.1 a1.2.2.2.1 a1.2.2.2.2.1 a1.2.2.2.2.2) _;unfold Bj.f;exact go)
end
section
attribute [local irreducible] A7.f
def DM:Dj:=⟨[.st 135 [.ty (.int .i64), .ty (.int .i64), .row false 93 (.cons (.int .i64) (.cons (.int .i64) (.cons (.int .i64) (.cons .bool (.cons (.row 73 (.int .u64)) (.row 73 (.int .u64))))))), .ty (.row 4 .bool), .row false 4 .bool, .ty (.int .i64), .ty (.int .i64), .ty .bool, .ty (.int .i64)], .ty (.cons (.cons .bool (.cons (.row 73 (.int .u64)) (.row 73 (.int .u64)))) (.cons (.int .u64) (.int .i64)))],[.bool],λk x=>(Bs.f k x.1.1 x.1.2.1 x.1.2.2.1 x.1.2.2.2.1 x.1.2.2.2.2.1 x.1.2.2.2.2.2.1 x.1.2.2.2.2.2.2.1 x.1.2.2.2.2.2.2.2.1 x.1.2.2.2.2.2.2.2.2.1 x.2.1.1.1 x.2.1.1.2.1 x.2.1.1.2.2 x.2.1.2.1 x.2.1.2.2).map λr=>((r.1,()),((r.2.1,r.2.2.1,r.2.2.2.1,r.2.2.2.2.1,r.2.2.2.2.2.1,r.2.2.2.2.2.2.1,r.2.2.2.2.2.2.2.1,r.2.2.2.2.2.2.2.2.1,r.2.2.2.2.2.2.2.2.2,()),()))⟩
def MX (r:Bool × Int × Int × List (Int × Int × Int × Bool × (List Int) × List Int) × List Bool × List Bool × Int × Int × Bool × Int):TT DM.rs × ET DM.ps:=((r.1,()),((r.2.1,r.2.2.1,r.2.2.2.1,r.2.2.2.2.1,r.2.2.2.2.2.1,r.2.2.2.2.2.2.1,r.2.2.2.2.2.2.2.1,r.2.2.2.2.2.2.2.2.1,r.2.2.2.2.2.2.2.2.2,()),()))
def Vj:Bu (TT DM.rs × ET DM.ps):=⟨⟨20,25,[20]⟩,AH [],AH [],AH []⟩
theorem MY:Tj Tryz.prog 181 DM :=
 Ez (Bt:=AO [(1,[0,1,3,7,15,31,15,79,207,463,975,2047,4095])]) (l:= [(178, .io B9 [(19,23)])]) (C:=Vj) (by kernel_rfl) AI ⟨EY,trivial⟩ (fn:=Tryz.f181) (by kernel_rfl) rfl (by kernel_rfl) (by decide) (by kernel_rfl) (m:=25) (by decide) (by decide) (F:=λk x=>Bs.f k x.1.1 x.1.2.1 x.1.2.2.1 x.1.2.2.2.1 x.1.2.2.2.2.1 x.1.2.2.2.2.2.1 x.1.2.2.2.2.2.2.1 x.1.2.2.2.2.2.2.2.1 x.1.2.2.2.2.2.2.2.2.1 x.2.1.1.1 x.2.1.1.2.1 x.2.1.1.2.2 x.2.1.2.1 x.2.1.2.2) (q:=MX) (λk x=>rfl)
  (by exact trivial)
  (λk ⟨⟨Af,Al,Ai,Ar,Ao,Ap,Au,Aw,Av,_⟩,(a1:(Bool × (List Int) × List Int) × Int × Int),_⟩=>by show Ad MX (Bs.f k Af Al Ai Ar Ao Ap Au Aw Av a1.1.1 a1.1.2.1 a1.1.2.2 a1.2.1 a1.2.2) _;unfold Bs.f;exact go)
end
section
def RK:AT:=⟨[(.row 73 (.int .u64))],[.bool],λ_ x=>(G9.f x.1).map λr=>(r,())⟩
def YP (r:Bool):TT RK.rs:=(r,())
theorem qB:DT Tryz.prog 110 RK :=
 Ac (Bt:=AO []) (l:= []) (C:=Ag) (by kernel_rfl) AI trivial (fn:=Tryz.f110) (by kernel_rfl) rfl (by kernel_rfl) (by decide) (by kernel_rfl) (F:=λk x=>G9.f x.1) (m:=YP) (λk x=>rfl)
  (by exact trivial)
  (λk ⟨(a0:List Int),_⟩=>by show Ad YP (G9.f a0) _;unfold G9.f;exact go)
end
section
def IL:AT:=⟨[(.row 73 (.int .u64))],[.int .i64],λk x=>(BR.f k x.1).map λr=>(r,())⟩
def Oo (r:Int):TT IL.rs:=(r,())
@[reducible] def RL:List Slot:= [.tmp 0 [.ty (.row 73 (.int .u64))], .tmp 3 [.ty (.int .i64)]]
def YQ (k:Nat) (x:TS RL):Option (Int):=BR.l0 k x.1.1 x.2.1.1
def tX:Bu (TT IL.rs):=⟨⟨19,19,[]⟩,AH [(0,⟨RL,λk x=>(YQ k x).map Oo⟩)],AH [],AH []⟩
theorem Oq:DT Tryz.prog 192 IL :=
 Ac (Bt:=AO []) (l:= []) (C:=tX) (by kernel_rfl) AI trivial (fn:=Tryz.f192) (by kernel_rfl) rfl (by kernel_rfl) (by decide) (by kernel_rfl) (F:=λk x=>BR.f k x.1) (m:=Oo) (λk x=>rfl)
  (by
   refine And.intro ?_ ?_
   ·refine A8 (sl:=RL) (F:=YQ) (λx=>rfl) λk ⟨⟨(x0:List Int),_⟩,⟨(x3:Int),_⟩,_⟩=> ?_
    show Ad Oo (BR.l0 (k+1) x0 x3) _;rw[BR.l0];exact go
   exact trivial)
  (λk ⟨(a0:List Int),_⟩=>by show Ad Oo (BR.f k a0) _;unfold BR.f;exact go)
end
section
attribute [local irreducible] BR.f
def LF:AT:=⟨[(.row 73 (.int .u64)),(.row 73 (.int .u64))],[.int .i64],λk x=>(Dv.f k x.1 x.2.1).map λr=>(r,())⟩
def SA (r:Int):TT LF.rs:=(r,())
@[reducible] def UC:List Slot:= [.tmp 0 [.ty (.row 73 (.int .u64))], .tmp 1 [.ty (.row 73 (.int .u64))], .tmp 7 [.ty (.int .i64)]]
def cO (k:Nat) (x:TS UC):Option (Int):=Dv.l0 k x.1.1 x.2.1.1 x.2.2.1.1
def xk:Bu (TT LF.rs):=⟨⟨44,44,[]⟩,AH [(0,⟨UC,λk x=>(cO k x).map SA⟩)],AH [],AH []⟩
theorem XG:DT Tryz.prog 131 LF :=
 Ac (Bt:=AO [(9,[0,0,3,7,0,0,48,112,255,511]),(11,[0,0,3,7,0,0,48,112,255,511])]) (l:= [(192, .pu IL)]) (C:=xk) (by kernel_rfl) AI ⟨Oq,trivial⟩ (fn:=Tryz.f131) (by kernel_rfl) rfl (by kernel_rfl) (by decide) (by kernel_rfl) (F:=λk x=>Dv.f k x.1 x.2.1) (m:=SA) (λk x=>rfl)
  (by
   refine And.intro ?_ ?_
   ·refine A8 (sl:=UC) (F:=cO) (λx=>rfl) λk ⟨⟨(x0:List Int),_⟩,⟨(x1:List Int),_⟩,⟨(x7:Int),_⟩,_⟩=> ?_
    show Ad SA (Dv.l0 (k+1) x0 x1 x7) _;rw[Dv.l0];exact go
   exact trivial)
  (λk ⟨(a0:List Int),(a1:List Int),_⟩=>by show Ad SA (Dv.f k a0 a1) _;unfold Dv.f;exact go)
end
section
attribute [local irreducible] G9.f Dv.f
def UD:AT:=⟨[(.row 73 (.int .u64)),(.row 73 (.int .u64))],[.bool],λk x=>(LP.f k x.1 x.2.1).map λr=>(r,())⟩
def cP (r:Bool):TT UD.rs:=(r,())
theorem tY:DT Tryz.prog 77 UD :=
 Ac (Bt:=AO []) (l:= [(110, .pu RK),(131, .pu LF)]) (C:=Ag) (by kernel_rfl) AI ⟨qB,XG,trivial⟩ (fn:=Tryz.f77) (by kernel_rfl) rfl (by kernel_rfl) (by decide) (by kernel_rfl) (F:=λk x=>LP.f k x.1 x.2.1) (m:=cP) (λk x=>rfl)
  (by exact trivial)
  (λk ⟨(a0:List Int),(a1:List Int),_⟩=>by show Ad cP (LP.f k a0 a1) _;unfold LP.f;exact go)
end
section
attribute [local irreducible] BR.f
def Ct:AT:=⟨[(.row 73 (.int .u64))],[(.row 73 (.int .u64))],λk x=>(Ah.f k x.1).map λr=>(r,())⟩
def cQ (r:List Int):TT Ct.rs:=(r,())
theorem DL:DT Tryz.prog 187 Ct :=
 Ac (Bt:=AO []) (l:= [(192, .pu IL)]) (C:=Ag) (by kernel_rfl) AI ⟨Oq,trivial⟩ (fn:=Tryz.f187) (by kernel_rfl) rfl (by kernel_rfl) (by decide) (by kernel_rfl) (F:=λk x=>Ah.f k x.1) (m:=cQ) (λk x=>rfl)
  (by exact trivial)
  (λk ⟨(a0:List Int),_⟩=>by show Ad cQ (Ah.f k a0) _;unfold Ah.f;exact go)
end
section
def Jj:AT:=⟨[.int .u64, .int .u64, .int .u64],[.int .u64, .int .u64],λ_ x=>(DU.f x.1 x.2.1 x.2.2.1).map λr=>(r.1,r.2,())⟩
def cR (r:Int × Int):TT Jj.rs:=(r.1,r.2,())
theorem Ot:DT Tryz.prog 193 Jj :=
 Ac (Bt:=AO []) (l:= []) (C:=Ag) (by kernel_rfl) AI trivial (fn:=Tryz.f193) (by kernel_rfl) rfl (by kernel_rfl) (by decide) (by kernel_rfl) (F:=λk x=>DU.f x.1 x.2.1 x.2.2.1) (m:=cR) (λk x=>rfl)
  (by exact trivial)
  (λk ⟨(a0:Int),(a1:Int),(a2:Int),_⟩=>by show Ad cR (DU.f a0 a1 a2) _;unfold DU.f;exact go)
end
section
attribute [local irreducible] Ah.f DU.f
def LD:AT:=⟨[(.row 73 (.int .u64)),(.row 73 (.int .u64))],[(.row 73 (.int .u64))],λk x=>(BH.f k x.1 x.2.1).map λr=>(r,())⟩
def SB (r:List Int):TT LD.rs:=(r,())
@[reducible] def UE:List Slot:= [.tmp 1 [.ty (.row 73 (.int .u64))], .tmp 5 [.own .mine 5 73 (.int .u64)], .tmp 6 [.ty (.int .u64)], .tmp 21 [.ty (.row 73 (.int .u64))], .tmp 22 [.ty (.int .i64)], .tmp 23 [.ty (.int .i64)]]
def cS (k:Nat) (x:TS UE):Option (List Int):=BH.l0 k x.1.1 x.2.1.1 x.2.2.1.1 x.2.2.2.1.1 x.2.2.2.2.1.1 x.2.2.2.2.2.1.1
def xl:Bu (TT LD.rs):=⟨⟨53,53,[]⟩,AH [(0,⟨UE,λk x=>(cS k x).map SB⟩)],AH [],AH []⟩
theorem Vk:BH.l1=BH.l0:=by
 funext k
 induction k with
 | zero=>rfl
 | succ k ih=>funext x0 x1 x2 x3 x4 x5;simp only[BH.l1,BH.l0,ih]
theorem R8:DT Tryz.prog 132 LD :=
 Ac (Bt:=AO []) (l:= [(187, .pu Ct),(193, .pu Jj)]) (C:=xl) (by kernel_rfl) AI ⟨DL,Ot,trivial⟩ (fn:=Tryz.f132) (by kernel_rfl) rfl (by kernel_rfl) (by decide) (by kernel_rfl) (F:=λk x=>BH.f k x.1 x.2.1) (m:=SB) (λk x=>rfl)
  (by
   refine And.intro ?_ ?_
   ·refine A8 (sl:=UE) (F:=cS) (λx=>rfl) λk ⟨⟨(x1:List Int),_⟩,⟨(x5:List Int),_⟩,⟨(x6:Int),_⟩,⟨(PV:List Int),_⟩,⟨(Mu:Int),_⟩,⟨(NO:Int),_⟩,_⟩=> ?_
    show Ad SB (BH.l0 (k+1) x1 x5 x6 PV Mu NO) _;rw[BH.l0];(try simp only[Vk]);exact go
   exact trivial)
  (λk ⟨(a0:List Int),(a1:List Int),_⟩=>by show Ad SB (BH.f k a0 a1) _;unfold BH.f;(try simp only[Vk]);exact go)
end
section
def LY:AT:=⟨[.int .u64, .int .u64, .int .u64],[.int .u64, .int .u64],λ_ x=>(EE.f x.1 x.2.1 x.2.2.1).map λr=>(r.1,r.2,())⟩
def cT (r:Int × Int):TT LY.rs:=(r.1,r.2,())
theorem UF:DT Tryz.prog 194 LY :=
 Ac (Bt:=AO []) (l:= []) (C:=Ag) (by kernel_rfl) AI trivial (fn:=Tryz.f194) (by kernel_rfl) rfl (by kernel_rfl) (by decide) (by kernel_rfl) (F:=λk x=>EE.f x.1 x.2.1 x.2.2.1) (m:=cT) (λk x=>rfl)
  (by exact trivial)
  (λk ⟨(a0:Int),(a1:Int),(a2:Int),_⟩=>by show Ad cT (EE.f a0 a1 a2) _;unfold EE.f;exact go)
end
section
attribute [local irreducible] Dv.f Ah.f EE.f
def Nt:AT:=⟨[(.row 73 (.int .u64)),(.row 73 (.int .u64))],[(.row 73 (.int .u64)), .bool],λk x=>(C9.f k x.1 x.2.1).map λr=>(r.1,r.2,())⟩
def SC (r:List Int × Bool):TT Nt.rs:=(r.1,r.2,())
@[reducible] def UG:List Slot:= [.tmp 1 [.ty (.row 73 (.int .u64))], .tmp 6 [.own .mine 6 73 (.int .u64)], .tmp 7 [.ty (.int .u64)], .tmp 18 [.ty (.row 73 (.int .u64))], .tmp 19 [.ty (.int .i64)], .tmp 20 [.ty (.int .i64)]]
def cU (k:Nat) (x:TS UG):Option (List Int × Bool):=C9.l0 k x.1.1 x.2.1.1 x.2.2.1.1 x.2.2.2.1.1 x.2.2.2.2.1.1 x.2.2.2.2.2.1.1
def xm:Bu (TT Nt.rs):=⟨⟨47,47,[]⟩,AH [(0,⟨UG,λk x=>(cU k x).map SC⟩)],AH [],AH []⟩
theorem XH:DT Tryz.prog 133 Nt :=
 Ac (Bt:=AO []) (l:= [(131, .pu LF),(187, .pu Ct),(194, .pu LY)]) (C:=xm) (by kernel_rfl) AI ⟨XG,DL,UF,trivial⟩ (fn:=Tryz.f133) (by kernel_rfl) rfl (by kernel_rfl) (by decide) (by kernel_rfl) (F:=λk x=>C9.f k x.1 x.2.1) (m:=SC) (λk x=>rfl)
  (by
   refine And.intro ?_ ?_
   ·refine A8 (sl:=UG) (F:=cU) (λx=>rfl) λk ⟨⟨(x1:List Int),_⟩,⟨(x6:List Int),_⟩,⟨(x7:Int),_⟩,⟨(x18:List Int),_⟩,⟨(qY:Int),_⟩,⟨(Xm:Int),_⟩,_⟩=> ?_
    show Ad SC (C9.l0 (k+1) x1 x6 x7 x18 qY Xm) _;rw[C9.l0];exact go
   exact trivial)
  (λk ⟨(a0:List Int),(a1:List Int),_⟩=>by show Ad SC (C9.f k a0 a1) _;unfold C9.f;exact go)
end
section
attribute [local irreducible] BH.f C9.f
def XI:AT:=⟨[.bool,(.row 73 (.int .u64)), .bool,(.row 73 (.int .u64))],[.bool,(.row 73 (.int .u64))],λk x=>(MI.f k x.1 x.2.1 x.2.2.1 x.2.2.2.1).map λr=>(r.1,r.2,())⟩
def gU (r:Bool × List Int):TT XI.rs:=(r.1,r.2,())
theorem xp:DT Tryz.prog 78 XI :=
 Ac (Bt:=AO []) (l:= [(132, .pu LD),(133, .pu Nt)]) (C:=Ag) (by kernel_rfl) AI ⟨R8,XH,trivial⟩ (fn:=Tryz.f78) (by kernel_rfl) rfl (by kernel_rfl) (by decide) (by kernel_rfl) (F:=λk x=>MI.f k x.1 x.2.1 x.2.2.1 x.2.2.2.1) (m:=gU) (λk x=>rfl)
  (by exact trivial)
  (λk ⟨(a0:Bool),(a1:List Int),(a2:Bool),(a3:List Int),_⟩=>by show Ad gU (MI.f k a0 a1 a2 a3) _;unfold MI.f;exact go)
end
section
attribute [local irreducible] Ah.f
def Nh:AT:=⟨[.int .u64],[(.row 73 (.int .u64))],λk x=>(Iz.f k x.1).map λr=>(r,())⟩
def qC (r:List Int):TT Nh.rs:=(r,())
theorem Vd:DT Tryz.prog 117 Nh :=
 Ac (Bt:=AO []) (l:= [(187, .pu Ct)]) (C:=Ag) (by kernel_rfl) AI ⟨DL,trivial⟩ (fn:=Tryz.f117) (by kernel_rfl) rfl (by kernel_rfl) (by decide) (by kernel_rfl) (F:=λk x=>Iz.f k x.1) (m:=qC) (λk x=>rfl)
  (by exact trivial)
  (λk ⟨(a0:Int),_⟩=>by show Ad qC (Iz.f k a0) _;unfold Iz.f;exact go)
end
section
def EA:AT:=⟨[.int .u64],[.int .i64],λk x=>(BC.f k x.1).map λr=>(r,())⟩
def Ou (r:Int):TT EA.rs:=(r,())
@[reducible] def RM:List Slot:= [.tmp 0 [.ty (.int .u64)], .tmp 3 [.ty (.int .i64)], .tmp 4 [.ty (.int .i64)]]
def YR (k:Nat) (x:TS RM):Option (Int):=BC.l0 k x.1.1 x.2.1.1 x.2.2.1.1
def tZ:Bu (TT EA.rs):=⟨⟨23,23,[]⟩,AH [(0,⟨RM,λk x=>(YR k x).map Ou⟩)],AH [],AH []⟩
theorem F8:DT Tryz.prog 195 EA :=
 Ac (Bt:=AO []) (l:= []) (C:=tZ) (by kernel_rfl) AI trivial (fn:=Tryz.f195) (by kernel_rfl) rfl (by kernel_rfl) (by decide) (by kernel_rfl) (F:=λk x=>BC.f k x.1) (m:=Ou) (λk x=>rfl)
  (by
   refine And.intro ?_ ?_
   ·refine A8 (sl:=RM) (F:=YR) (λx=>rfl) λk ⟨⟨(x0:Int),_⟩,⟨(x3:Int),_⟩,⟨(x4:Int),_⟩,_⟩=> ?_
    show Ad Ou (BC.l0 (k+1) x0 x3 x4) _;rw[BC.l0];exact go
   exact trivial)
  (λk ⟨(a0:Int),_⟩=>by show Ad Ou (BC.f k a0) _;unfold BC.f;exact go)
end
section
def Kz:AT:=⟨[.int .u64, .int .u64, .int .u64],[.int .u64, .int .u64],λk x=>(BZ.f k x.1 x.2.1 x.2.2.1).map λr=>(r.1,r.2,())⟩
def HU (r:Int × Int):TT Kz.rs:=(r.1,r.2,())
@[reducible] def M5:List Slot:= [.tmp 0 [.ty (.int .u64)], .tmp 1 [.ty (.int .u64)], .tmp 2 [.ty (.int .u64)], .tmp 8 [.ty (.int .u64)], .tmp 9 [.ty (.int .u64)], .tmp 10 [.ty (.int .u64)], .tmp 11 [.ty (.int .u64)]]
def TE (k:Nat) (x:TS M5):Option (Int × Int):=BZ.l0 k x.1.1 x.2.1.1 x.2.2.1.1 x.2.2.2.1.1 x.2.2.2.2.1.1 x.2.2.2.2.2.1.1 x.2.2.2.2.2.2.1.1
@[reducible] def M6:List Slot:= [.tmp 0 [.ty (.int .u64)], .tmp 1 [.ty (.int .u64)], .tmp 2 [.ty (.int .u64)], .tmp 8 [.ty (.int .u64)], .tmp 9 [.ty (.int .u64)], .tmp 10 [.ty (.int .u64)], .tmp 11 [.ty (.int .u64)], .tmp 33 [.ty .bool]]
def TF (k:Nat) (x:TS M6):Option (Int × Int):=BZ.j1 k x.1.1 x.2.1.1 x.2.2.1.1 x.2.2.2.1.1 x.2.2.2.2.1.1 x.2.2.2.2.2.1.1 x.2.2.2.2.2.2.1.1 x.2.2.2.2.2.2.2.1.1
def lK:Bu (TT Kz.rs):=⟨⟨50,50,[]⟩,AH [(0,⟨M5,λk x=>(TE k x).map HU⟩)],AH [],AH [(4,⟨M6,λk x=>(TF k x).map HU⟩)]⟩
theorem lM:DT Tryz.prog 257 Kz :=
 Ac (Bt:=AO []) (l:= []) (C:=lK) (by kernel_rfl) AI trivial (fn:=Tryz.f257) (by kernel_rfl) rfl (by kernel_rfl) (by decide) (by kernel_rfl) (F:=λk x=>BZ.f k x.1 x.2.1 x.2.2.1) (m:=HU) (λk x=>rfl)
  (by
   refine And.intro ?_ ?_
   ·refine A8 (sl:=M5) (F:=TE) (λx=>rfl) λk ⟨⟨(x0:Int),_⟩,⟨(x1:Int),_⟩,⟨(x2:Int),_⟩,⟨(x8:Int),_⟩,⟨(x9:Int),_⟩,⟨(LB:Int),_⟩,⟨(Kr:Int),_⟩,_⟩=> ?_
    show Ad HU (BZ.l0 (k+1) x0 x1 x2 x8 x9 LB Kr) _;rw[BZ.l0];exact go
   refine And.intro ?_ ?_
   ·refine B4 (sl:=M6) (F:=TF) (λx=>rfl) λk ⟨⟨(x0:Int),_⟩,⟨(x1:Int),_⟩,⟨(x2:Int),_⟩,⟨(x8:Int),_⟩,⟨(x9:Int),_⟩,⟨(LB:Int),_⟩,⟨(Kr:Int),_⟩,⟨(x33:Bool),_⟩,_⟩=> ?_
    show Ad HU (BZ.j1 (k+1) x0 x1 x2 x8 x9 LB Kr x33) _;rw[BZ.j1];exact go
   exact trivial)
  (λk ⟨(a0:Int),(a1:Int),(a2:Int),_⟩=>by show Ad HU (BZ.f k a0 a1 a2) _;unfold BZ.f;exact go)
end
section
attribute [local irreducible] BC.f BZ.f
def LZ:AT:=⟨[.int .u64, .int .u64, .int .u64],[.int .u64, .int .u64, .bool],λk x=>(Gq.f k x.1 x.2.1 x.2.2.1).map λr=>(r.1,r.2.1,r.2.2,())⟩
def cV (r:Int × Int × Bool):TT LZ.rs:=(r.1,r.2.1,r.2.2,())
theorem UH:DT Tryz.prog 218 LZ :=
 Ac (Bt:=AO [(5,[0,0,3,0,8,0,32,120,255,511]),(9,[0,1,0,7,0,0,48,15,255,511])]) (l:= [(195, .pu EA),(257, .pu Kz)]) (C:=Ag) (by kernel_rfl) AI ⟨F8,lM,trivial⟩ (fn:=Tryz.f218) (by kernel_rfl) rfl (by kernel_rfl) (by decide) (by kernel_rfl) (F:=λk x=>Gq.f k x.1 x.2.1 x.2.2.1) (m:=cV) (λk x=>rfl)
  (by exact trivial)
  (λk ⟨(a0:Int),(a1:Int),(a2:Int),_⟩=>by show Ad cV (Gq.f k a0 a1 a2) _;unfold Gq.f;exact go)
end
section
attribute [local irreducible] Ah.f Gq.f
def KL:AT:=⟨[(.row 73 (.int .u64)), .int .u64],[(.row 73 (.int .u64)), .int .u64, .bool],λk x=>(Cx.f k x.1 x.2.1).map λr=>(r.1,r.2.1,r.2.2,())⟩
def MZ (r:List Int × Int × Bool):TT KL.rs:=(r.1,r.2.1,r.2.2,())
@[reducible] def Ov:List Slot:= [.tmp 0 [.ty (.row 73 (.int .u64))], .tmp 1 [.ty (.int .u64)], .tmp 7 [.own .mine 7 73 (.int .u64)], .tmp 8 [.ty (.int .u64)], .tmp 9 [.ty (.int .i64)]]
def Vl (k:Nat) (x:TS Ov):Option (List Int × Int × Bool):=Cx.l0 k x.1.1 x.2.1.1 x.2.2.1.1 x.2.2.2.1.1 x.2.2.2.2.1.1
def qD:Bu (TT KL.rs):=⟨⟨44,44,[]⟩,AH [(0,⟨Ov,λk x=>(Vl k x).map MZ⟩)],AH [],AH []⟩
theorem YS:DT Tryz.prog 200 KL :=
 Ac (Bt:=AO []) (l:= [(187, .pu Ct),(218, .pu LZ)]) (C:=qD) (by kernel_rfl) AI ⟨DL,UH,trivial⟩ (fn:=Tryz.f200) (by kernel_rfl) rfl (by kernel_rfl) (by decide) (by kernel_rfl) (F:=λk x=>Cx.f k x.1 x.2.1) (m:=MZ) (λk x=>rfl)
  (by
   refine And.intro ?_ ?_
   ·refine A8 (sl:=Ov) (F:=Vl) (λx=>rfl) λk ⟨⟨(x0:List Int),_⟩,⟨(x1:Int),_⟩,⟨(x7:List Int),_⟩,⟨(x8:Int),_⟩,⟨(x9:Int),_⟩,_⟩=> ?_
    show Ad MZ (Cx.l0 (k+1) x0 x1 x7 x8 x9) _;rw[Cx.l0];exact go
   exact trivial)
  (λk ⟨(a0:List Int),(a1:Int),_⟩=>by show Ad MZ (Cx.f k a0 a1) _;unfold Cx.f;exact go)
end
section
attribute [local irreducible] BR.f BC.f
def FJ:AT:=⟨[(.row 73 (.int .u64))],[.int .i64],λk x=>(Ce.f k x.1).map λr=>(r,())⟩
def cW (r:Int):TT FJ.rs:=(r,())
theorem Gu:DT Tryz.prog 134 FJ :=
 Ac (Bt:=AO []) (l:= [(192, .pu IL),(195, .pu EA)]) (C:=Ag) (by kernel_rfl) AI ⟨Oq,F8,trivial⟩ (fn:=Tryz.f134) (by kernel_rfl) rfl (by kernel_rfl) (by decide) (by kernel_rfl) (F:=λk x=>Ce.f k x.1) (m:=cW) (λk x=>rfl)
  (by exact trivial)
  (λk ⟨(a0:List Int),_⟩=>by show Ad cW (Ce.f k a0) _;unfold Ce.f;exact go)
end
section
def gV:mQ:=⟨[(.row 73 (.int .u64)), .int .i64],73, .int .u64,λk x=>(Bp.f k x.1 x.2.1).map λr=>r⟩
theorem td:FNk Tryz.prog 210 gV:=⟨by kernel_rfl,λk x r h U w vs hU ha0=>by
 have h:Bp.f k x.1 x.2.1=some r:=by
  obtain⟨r0,h0,rfl⟩:=AOC.mp h;exact h0
 obtain⟨cs0,vs0,rfl,q0,ha1⟩:=ha0.cons;obtain⟨A0,c0,rfl,C0,le0⟩:=ACS q0;obtain⟨cs1,vs1,rfl,q1,ha2⟩:=ha1.cons;obtain rfl:=(show _= [Value.int .i64 (x.2.1)] from q1);obtain rfl:vs1= []:=ha2;refine(Bp.calls (k:=k) (A0:=A0) (c0:=c0) (l0:=x.1) (Uu:=C0) (hc0:=le0) (a1:=x.2.1) (r:=r) (w:=w) (h:=h)).mono ?_;rintro e w' ⟨v,rfl,R,hb⟩;obtain⟨inner,h1,h2⟩:=ACT R;exact⟨v,inner,rfl,h1,h2,hb⟩⟩
end
section
def IM:AT:=⟨[.int .u64, .int .u64],[.int .u64, .int .u64],λ_ x=>(DF.f x.1 x.2.1).map λr=>(r.1,r.2,())⟩
def cX (r:Int × Int):TT IM.rs:=(r.1,r.2,())
theorem La:DT Tryz.prog 196 IM :=
 Ac (Bt:=AO []) (l:= []) (C:=Ag) (by kernel_rfl) AI trivial (fn:=Tryz.f196) (by kernel_rfl) rfl (by kernel_rfl) (by decide) (by kernel_rfl) (F:=λk x=>DF.f x.1 x.2.1) (m:=cX) (λk x=>rfl)
  (by exact trivial)
  (λk ⟨(a0:Int),(a1:Int),_⟩=>by show Ad cX (DF.f a0 a1) _;unfold DF.f;exact go)
end
section
attribute [local irreducible] EE.f DF.f
def I8:AT:=⟨[.int .u64, .int .u64, .int .u64, .int .u64, .int .u64, .int .u64],[.int .u64],λk x=>(BF.f k x.1 x.2.1 x.2.2.1 x.2.2.2.1 x.2.2.2.2.1 x.2.2.2.2.2.1).map λr=>(r,())⟩
def I9 (r:Int):TT I8.rs:=(r,())
@[reducible] def KX:List Slot:= [.tmp 0 [.ty (.int .u64)], .tmp 1 [.ty (.int .u64)], .tmp 2 [.ty (.int .u64)], .tmp 3 [.ty (.int .u64)], .tmp 4 [.ty (.int .u64)], .tmp 5 [.ty (.int .u64)]]
def Pk (k:Nat) (x:TS KX):Option (Int):=BF.l0 k x.1.1 x.2.1.1 x.2.2.1.1 x.2.2.2.1.1 x.2.2.2.2.1.1 x.2.2.2.2.2.1.1
def cY:Bu (TT I8.rs):=⟨⟨64,64,[]⟩,AH [(0,⟨KX,λk x=>(Pk k x).map I9⟩)],AH [],AH []⟩
theorem cZ:DT Tryz.prog 260 I8 :=
 Ac (Bt:=AO []) (l:= [(194, .pu LY),(196, .pu IM)]) (C:=cY) (by kernel_rfl) AI ⟨UF,La,trivial⟩ (fn:=Tryz.f260) (by kernel_rfl) rfl (by kernel_rfl) (by decide) (by kernel_rfl) (F:=λk x=>BF.f k x.1 x.2.1 x.2.2.1 x.2.2.2.1 x.2.2.2.2.1 x.2.2.2.2.2.1) (m:=I9) (λk x=>rfl)
  (by
   refine And.intro ?_ ?_
   ·refine A8 (sl:=KX) (F:=Pk) (λx=>rfl) λk ⟨⟨(x0:Int),_⟩,⟨(x1:Int),_⟩,⟨(x2:Int),_⟩,⟨(x3:Int),_⟩,⟨(x4:Int),_⟩,⟨(x5:Int),_⟩,_⟩=> ?_
    show Ad I9 (BF.l0 (k+1) x0 x1 x2 x3 x4 x5) _;rw[BF.l0];exact go
   exact trivial)
  (λk ⟨(a0:Int),(a1:Int),(a2:Int),(a3:Int),(a4:Int),(a5:Int),_⟩=>by show Ad I9 (BF.f k a0 a1 a2 a3 a4 a5) _;unfold BF.f;exact go)
end
section
attribute [local irreducible] Gq.f BF.f
def Ox:AT:=⟨[(.row 73 (.int .u64)), .int .i64, .int .u64, .int .u64],[.int .u64],λk x=>(FD.f k x.1 x.2.1 x.2.2.1 x.2.2.2.1).map λr=>(r,())⟩
def Vm (r:Int):TT Ox.rs:=(r,())
theorem lO:DT Tryz.prog 246 Ox :=
 Ac (Bt:=AO [(1,[0,0,3,7,0,0,32,112,240,0,0,1024,3584,7680,15,16895,65535])]) (l:= [(218, .pu LZ),(260, .pu I8)]) (C:=Ag) (by kernel_rfl) AI ⟨UH,cZ,trivial⟩ (fn:=Tryz.f246) (by kernel_rfl) rfl (by kernel_rfl) (by decide) (by kernel_rfl) (F:=λk x=>FD.f k x.1 x.2.1 x.2.2.1 x.2.2.2.1) (m:=Vm) (λk x=>rfl)
  (by exact trivial)
  (λk ⟨(a0:List Int),(a1:Int),(a2:Int),(a3:Int),_⟩=>by show Ad Vm (FD.f k a0 a1 a2 a3) _;unfold FD.f;exact go)
end
section
attribute [local irreducible] DU.f EE.f DF.f
def IZ:Dj:=⟨[.KR 73 (.int .u64), .ty (.row 73 (.int .u64)), .ty (.int .i64), .ty (.int .u64)],[.bool],λk x=>(CU.f k x.1 x.2.1 x.2.2.1 x.2.2.2.1).map λr=>((r.1,()),(r.2,()))⟩
def Ma (r:Bool × List Int):TT IZ.rs × ET IZ.ps:=((r.1,()),(r.2,()))
@[reducible] def Oy:List Slot:= [.tmp 0 [.own .kept 84 73 (.int .u64)], .tmp 1 [.ty (.row 73 (.int .u64))], .tmp 2 [.ty (.int .i64)], .tmp 3 [.ty (.int .u64)], .tmp 9 [.ty (.int .u64)], .tmp 10 [.ty (.int .u64)], .tmp 20 [.ty (.row 73 (.int .u64))], .tmp 21 [.ty (.int .i64)], .tmp 22 [.ty (.int .i64)]]
def Vn (k:Nat) (x:TS Oy):Option (Bool × List Int):=CU.l0 k x.1.1 x.2.1.1 x.2.2.1.1 x.2.2.2.1.1 x.2.2.2.2.1.1 x.2.2.2.2.2.1.1 x.2.2.2.2.2.2.1.1 x.2.2.2.2.2.2.2.1.1 x.2.2.2.2.2.2.2.2.1.1
def qE:Bu (TT IZ.rs × ET IZ.ps):=⟨⟨84,85,[84]⟩,AH [(0,⟨Oy,λk x=>(Vn k x).map Ma⟩)],AH [],AH []⟩
theorem qF:Tj Tryz.prog 247 IZ :=
 Ez (Bt:=AO []) (l:= [(193, .pu Jj),(194, .pu LY),(196, .pu IM)]) (C:=qE) (by kernel_rfl) AI ⟨Ot,UF,La,trivial⟩ (fn:=Tryz.f247) (by kernel_rfl) rfl (by kernel_rfl) (by decide) (by kernel_rfl) (m:=85) (by decide) (by decide) (F:=λk x=>CU.f k x.1 x.2.1 x.2.2.1 x.2.2.2.1) (q:=Ma) (λk x=>rfl)
  (by
   refine And.intro ?_ ?_
   ·refine A8 (sl:=Oy) (F:=Vn) (λx=>rfl) λk ⟨⟨(x0:List Int),_⟩,⟨(x1:List Int),_⟩,⟨(x2:Int),_⟩,⟨(x3:Int),_⟩,⟨(x9:Int),_⟩,⟨(LB:Int),_⟩,⟨(Xm:List Int),_⟩,⟨(PV:Int),_⟩,⟨(Mu:Int),_⟩,_⟩=> ?_
    show Ad Ma (CU.l0 (k+1) x0 x1 x2 x3 x9 LB Xm PV Mu) _;rw[CU.l0];exact go
   exact trivial)
  (λk ⟨(a0:List Int),(a1:List Int),(a2:Int),(a3:Int),_⟩=>by show Ad Ma (CU.f k a0 a1 a2 a3) _;unfold CU.f;exact go)
end
section
attribute [local irreducible] DU.f
def Ia:Dj:=⟨[.KR 73 (.int .u64), .ty (.row 73 (.int .u64)), .ty (.int .i64)],[],λk x=>(Cd.f k x.1 x.2.1 x.2.2.1).map λr=>((()),(r,()))⟩
def Mb (r:List Int):TT Ia.rs × ET Ia.ps:=((()),(r,()))
@[reducible] def Oz:List Slot:= [.tmp 0 [.own .kept 48 73 (.int .u64)], .tmp 1 [.ty (.row 73 (.int .u64))], .tmp 2 [.ty (.int .i64)], .tmp 6 [.ty (.int .u64)], .tmp 11 [.ty (.row 73 (.int .u64))], .tmp 12 [.ty (.int .i64)], .tmp 13 [.ty (.int .i64)]]
def Vo (k:Nat) (x:TS Oz):Option (List Int):=Cd.l0 k x.1.1 x.2.1.1 x.2.2.1.1 x.2.2.2.1.1 x.2.2.2.2.1.1 x.2.2.2.2.2.1.1 x.2.2.2.2.2.2.1.1
def qG:Bu (TT Ia.rs × ET Ia.ps):=⟨⟨48,49,[48]⟩,AH [(0,⟨Oz,λk x=>(Vo k x).map Mb⟩)],AH [],AH []⟩
theorem qH:Tj Tryz.prog 248 Ia :=
 Ez (Bt:=AO []) (l:= [(193, .pu Jj)]) (C:=qG) (by kernel_rfl) AI ⟨Ot,trivial⟩ (fn:=Tryz.f248) (by kernel_rfl) rfl (by kernel_rfl) (by decide) (by kernel_rfl) (m:=49) (by decide) (by decide) (F:=λk x=>Cd.f k x.1 x.2.1 x.2.2.1) (q:=Mb) (λk x=>rfl)
  (by
   refine And.intro ?_ ?_
   ·refine A8 (sl:=Oz) (F:=Vo) (λx=>rfl) λk ⟨⟨(x0:List Int),_⟩,⟨(x1:List Int),_⟩,⟨(x2:Int),_⟩,⟨(x6:Int),_⟩,⟨(Kr:List Int),_⟩,⟨(Xn:Int),_⟩,⟨(F5:Int),_⟩,_⟩=> ?_
    show Ad Mb (Cd.l0 (k+1) x0 x1 x2 x6 Kr Xn F5) _;rw[Cd.l0];exact go
   exact trivial)
  (λk ⟨(a0:List Int),(a1:List Int),(a2:Int),_⟩=>by show Ad Mb (Cd.f k a0 a1 a2) _;unfold Cd.f;exact go)
end
section
attribute [local irreducible] Ah.f
def Nl:AT:=⟨[(.row 73 (.int .u64)), .int .i64],[(.row 73 (.int .u64))],λk x=>(Df.f k x.1 x.2.1).map λr=>(r,())⟩
def SD (r:List Int):TT Nl.rs:=(r,())
@[reducible] def UI:List Slot:= [.tmp 0 [.ty (.row 73 (.int .u64))], .tmp 6 [.ty (.int .i64)], .tmp 7 [.own .mine 7 73 (.int .u64)], .tmp 8 [.ty (.int .i64)]]
def cg (k:Nat) (x:TS UI):Option (List Int):=match x with | ⟨⟨(x0:List Int),_⟩,⟨(x6:Int),_⟩,⟨(x7:List Int),_⟩,⟨(x8:Int),_⟩,_⟩=>if 0<=x6/\x6<64 then Df.l0 k x0 x6 x7 x8 else none
def xq:Bu (TT Nl.rs):=⟨⟨59,59,[]⟩,AH [(0,⟨UI,λk x=>(cg k x).map SD⟩)],AH [],AH []⟩
theorem gQ:DT Tryz.prog 249 Nl :=
 Ac (Bt:=AO [(12,[0,0,0,6,14,0,62,0,128,0,512,1920,4094,8190,16383,32767])]) (l:= [(187, .pu Ct)]) (C:=xq) (by kernel_rfl) AI ⟨DL,trivial⟩ (fn:=Tryz.f249) (by kernel_rfl) rfl (by kernel_rfl) (by decide) (by kernel_rfl) (F:=λk x=>Df.f k x.1 x.2.1) (m:=SD) (λk x=>rfl)
  (by
   refine And.intro ?_ ?_
   ·refine A8 (sl:=UI) (F:=cg) (λ⟨⟨(x0:List Int),_⟩,⟨(x6:Int),_⟩,⟨(x7:List Int),_⟩,⟨(x8:Int),_⟩,_⟩=>by show(if 0<=x6/\x6<64 then Df.l0 0 x0 x6 x7 x8 else none)=none;split<;>rfl) λk ⟨⟨(x0:List Int),_⟩,⟨(x6:Int),_⟩,⟨(x7:List Int),_⟩,⟨(x8:Int),_⟩,_⟩=> ?_
    show Ad SD (if 0<=x6/\x6<64 then Df.l0 (k+1) x0 x6 x7 x8 else none) _;rw[Df.l0];exact go
   exact trivial)
  (λk ⟨(a0:List Int),(a1:Int),_⟩=>by show Ad SD (Df.f k a0 a1) _;unfold Df.f;exact go)
end
section
attribute [local irreducible] Ce.f Ah.f Bp.f FD.f CU.f Cd.f Df.f
def Mc:AT:=⟨[(.row 73 (.int .u64)),(.row 73 (.int .u64))],[(.row 73 (.int .u64)),(.row 73 (.int .u64))],λk x=>(Bi.f k x.1 x.2.1).map λr=>(r.1,r.2,())⟩
def Ib (r:List Int × List Int):TT Mc.rs:=(r.1,r.2,())
@[reducible] def O1:List Slot:= [.tmp 0 [.ty (.row 73 (.int .u64))], .tmp 6 [.ty (.int .i64)], .tmp 7 [.ty (.row 73 (.int .u64))], .tmp 8 [.own .mine 8 73 (.int .u64)]]
def Vp (k:Nat) (x:TS O1):Option (List Int × List Int):=Bi.l0 k x.1.1 x.2.1.1 x.2.2.1.1 x.2.2.2.1.1
@[reducible] def O2:List Slot:= [.tmp 6 [.ty (.int .i64)], .tmp 7 [.ty (.row 73 (.int .u64))], .tmp 8 [.own .mine 8 73 (.int .u64)], .tmp 9 [.ty (.int .i64)], .tmp 10 [.own .mine 10 73 (.int .u64)], .tmp 11 [.ty (.int .i64)]]
def Vq (k:Nat) (x:TS O2):Option (List Int × List Int):=Bi.l1 k x.1.1 x.2.1.1 x.2.2.1.1 x.2.2.2.1.1 x.2.2.2.2.1.1 x.2.2.2.2.2.1.1
def qI:Bu (TT Mc.rs):=⟨⟨83,83,[]⟩,AH [(0,⟨O1,λk x=>(Vp k x).map Ib⟩),(1,⟨O2,λk x=>(Vq k x).map Ib⟩)],AH [],AH []⟩
theorem qJ:DT Tryz.prog 202 Mc :=
 Ac (Bt:=AO [(11,[0,0,0,6,0,0,32,112,240,0,0,1024,3584,7680,16383,32767])]) (l:= [(134, .pu FJ),(187, .pu Ct),(210, .nw gV),(246, .pu Ox),(247, .io IZ [(67,83)]),(248, .io Ia [(73,83)]),(249, .pu Nl)]) (C:=qI) (by kernel_rfl) AI ⟨Gu,DL,td,lO,qF,qH,gQ,trivial⟩ (fn:=Tryz.f202) (by kernel_rfl) rfl (by kernel_rfl) (by decide) (by kernel_rfl) (F:=λk x=>Bi.f k x.1 x.2.1) (m:=Ib) (λk x=>rfl)
  (by
   refine And.intro ?_ ?_
   ·refine A8 (sl:=O1) (F:=Vp) (λx=>rfl) λk ⟨⟨(x0:List Int),_⟩,⟨(x6:Int),_⟩,⟨(x7:List Int),_⟩,⟨(x8:List Int),_⟩,_⟩=> ?_
    show Ad Ib (Bi.l0 (k+1) x0 x6 x7 x8) _;rw[Bi.l0];exact go
   refine And.intro ?_ ?_
   ·refine A8 (sl:=O2) (F:=Vq) (λx=>rfl) λk ⟨⟨(x6:Int),_⟩,⟨(x7:List Int),_⟩,⟨(x8:List Int),_⟩,⟨(x9:Int),_⟩,⟨(LB:List Int),_⟩,⟨(Kr:Int),_⟩,_⟩=> ?_
    show Ad Ib (Bi.l1 (k+1) x6 x7 x8 x9 LB Kr) _;rw[Bi.l1];exact go
   exact trivial)
  (λk ⟨(a0:List Int),(a1:List Int),_⟩=>by show Ad Ib (Bi.f k a0 a1) _;unfold Bi.f;exact go)
end
section
attribute [local irreducible] Iz.f Dv.f Ah.f Cx.f Bi.f
def LS:AT:=⟨[(.row 73 (.int .u64)),(.row 73 (.int .u64))],[(.row 73 (.int .u64)),(.row 73 (.int .u64)), .bool],λk x=>(GK.f k x.1 x.2.1).map λr=>(r.1,r.2.1,r.2.2,())⟩
def cj (r:List Int × List Int × Bool):TT LS.rs:=(r.1,r.2.1,r.2.2,())
theorem UA:DT Tryz.prog 138 LS :=
 Ac (Bt:=AO []) (l:= [(117, .pu Nh),(131, .pu LF),(187, .pu Ct),(200, .pu KL),(202, .pu Mc)]) (C:=Ag) (by kernel_rfl) AI ⟨Vd,XG,DL,YS,qJ,trivial⟩ (fn:=Tryz.f138) (by kernel_rfl) rfl (by kernel_rfl) (by decide) (by kernel_rfl) (F:=λk x=>GK.f k x.1 x.2.1) (m:=cj) (λk x=>rfl)
  (by exact trivial)
  (λk ⟨(a0:List Int),(a1:List Int),_⟩=>by show Ad cj (GK.f k a0 a1) _;unfold GK.f;exact go)
end
section
attribute [local irreducible] BR.f
def OZ:AT:=⟨[(.row 73 (.int .u64))],[.int .u64, .bool],λk x=>(Hw.f k x.1).map λr=>(r.1,r.2,())⟩
def ck (r:Int × Bool):TT OZ.rs:=(r.1,r.2,())
theorem cG:DT Tryz.prog 199 OZ :=
 Ac (Bt:=AO []) (l:= [(192, .pu IL)]) (C:=Ag) (by kernel_rfl) AI ⟨Oq,trivial⟩ (fn:=Tryz.f199) (by kernel_rfl) rfl (by kernel_rfl) (by decide) (by kernel_rfl) (F:=λk x=>Hw.f k x.1) (m:=ck) (λk x=>rfl)
  (by exact trivial)
  (λk ⟨(a0:List Int),_⟩=>by show Ad ck (Hw.f k a0) _;unfold Hw.f;exact go)
end
section
def Md:AT:=⟨[.int .u64, .int .u64],[.int .u64],λk x=>(Db.f k x.1 x.2.1).map λr=>(r,())⟩
def Me (r:Int):TT Md.rs:=(r,())
@[reducible] def O3:List Slot:= [.tmp 0 [.ty (.int .u64)], .tmp 1 [.ty (.int .u64)]]
def Vr (k:Nat) (x:TS O3):Option (Int):=Db.l0 k x.1.1 x.2.1.1
def qK:Bu (TT Md.rs):=⟨⟨12,12,[]⟩,AH [(0,⟨O3,λk x=>(Vr k x).map Me⟩)],AH [],AH []⟩
theorem qL:DT Tryz.prog 201 Md :=
 Ac (Bt:=AO [(2,[0,0,0,6,3,31])]) (l:= []) (C:=qK) (by kernel_rfl) AI trivial (fn:=Tryz.f201) (by kernel_rfl) rfl (by kernel_rfl) (by decide) (by kernel_rfl) (F:=λk x=>Db.f k x.1 x.2.1) (m:=Me) (λk x=>rfl)
  (by
   refine And.intro ?_ ?_
   ·refine A8 (sl:=O3) (F:=Vr) (λx=>rfl) λk ⟨⟨(x0:Int),_⟩,⟨(x1:Int),_⟩,_⟩=> ?_
    show Ad Me (Db.l0 (k+1) x0 x1) _;rw[Db.l0];exact go
   exact trivial)
  (λk ⟨(a0:Int),(a1:Int),_⟩=>by show Ad Me (Db.f k a0 a1) _;unfold Db.f;exact go)
end
section
attribute [local irreducible] Iz.f GK.f Ah.f Hw.f Cx.f Db.f
def SE:AT:=⟨[(.row 73 (.int .u64)),(.row 73 (.int .u64))],[(.row 73 (.int .u64))],λk x=>(E4.f k x.1 x.2.1).map λr=>(r,())⟩
def SH (r:List Int):TT SE.rs:=(r,())
@[reducible] def UJ:List Slot:= [.tmp 0 [.ty (.row 73 (.int .u64))], .tmp 1 [.ty (.row 73 (.int .u64))]]
def cm (k:Nat) (x:TS UJ):Option (List Int):=E4.l0 k x.1.1 x.2.1.1
def xu:Bu (TT SE.rs):=⟨⟨48,48,[]⟩,AH [(0,⟨UJ,λk x=>(cm k x).map SH⟩)],AH [],AH []⟩
theorem xw:DT Tryz.prog 137 SE :=
 Ac (Bt:=AO []) (l:= [(117, .pu Nh),(138, .pu LS),(187, .pu Ct),(199, .pu OZ),(200, .pu KL),(201, .pu Md)]) (C:=xu) (by kernel_rfl) AI ⟨Vd,UA,DL,cG,YS,qL,trivial⟩ (fn:=Tryz.f137) (by kernel_rfl) rfl (by kernel_rfl) (by decide) (by kernel_rfl) (F:=λk x=>E4.f k x.1 x.2.1) (m:=SH) (λk x=>rfl)
  (by
   refine And.intro ?_ ?_
   ·refine A8 (sl:=UJ) (F:=cm) (λx=>rfl) λk ⟨⟨(x0:List Int),_⟩,⟨(x1:List Int),_⟩,_⟩=> ?_
    show Ad SH (E4.l0 (k+1) x0 x1) _;rw[E4.l0];exact go
   exact trivial)
  (λk ⟨(a0:List Int),(a1:List Int),_⟩=>by show Ad SH (E4.f k a0 a1) _;unfold E4.f;exact go)
end
section
attribute [local irreducible] E4.f GK.f
def K1:AT:=⟨[(.row 73 (.int .u64)),(.row 73 (.int .u64))],[(.row 73 (.int .u64)),(.row 73 (.int .u64))],λk x=>(FF.f k x.1 x.2.1).map λr=>(r.1,r.2,())⟩
def Vs (r:List Int × List Int):TT K1.rs:=(r.1,r.2,())
theorem Vt:DT Tryz.prog 82 K1 :=
 Ac (Bt:=AO []) (l:= [(137, .pu SE),(138, .pu LS)]) (C:=Ag) (by kernel_rfl) AI ⟨xw,UA,trivial⟩ (fn:=Tryz.f82) (by kernel_rfl) rfl (by kernel_rfl) (by decide) (by kernel_rfl) (F:=λk x=>FF.f k x.1 x.2.1) (m:=Vs) (λk x=>rfl)
  (by exact trivial)
  (λk ⟨(a0:List Int),(a1:List Int),_⟩=>by show Ad Vs (FF.f k a0 a1) _;unfold FF.f;exact go)
end
section
attribute [local irreducible] FF.f
def K2:AT:=⟨[.bool,(.row 73 (.int .u64)),(.row 73 (.int .u64))],[(.cons .bool (.cons (.row 73 (.int .u64)) (.row 73 (.int .u64))))],λk x=>(Ei.f k x.1 x.2.1 x.2.2.1).map λr=>((r.1,r.2.1,r.2.2),())⟩
def Vu (r:Bool × List Int × List Int):TT K2.rs:=((r.1,r.2.1,r.2.2),())
theorem Vv:DT Tryz.prog 79 K2 :=
 Ac (Bt:=AO []) (l:= [(82, .pu K1)]) (C:=Ag) (by kernel_rfl) AI ⟨Vt,trivial⟩ (fn:=Tryz.f79) (by kernel_rfl) rfl (by kernel_rfl) (by decide) (by kernel_rfl) (F:=λk x=>Ei.f k x.1 x.2.1 x.2.2.1) (m:=Vu) (λk x=>rfl)
  (by exact trivial)
  (λk ⟨(a0:Bool),(a1:List Int),(a2:List Int),_⟩=>by show Ad Vu (Ei.f k a0 a1 a2) _;unfold Ei.f;exact go)
end
section
def SI:AT:=⟨[],[(.row 73 (.int .u64))],λ_ _=>(Ks.f).map λr=>(r,())⟩
def gW (r:List Int):TT SI.rs:=(r,())
theorem gX:DT Tryz.prog 118 SI :=
 Ac (Bt:=AO []) (l:= []) (C:=Ag) (by kernel_rfl) AI trivial (fn:=Tryz.f118) (by kernel_rfl) rfl (by kernel_rfl) (by decide) (by kernel_rfl) (F:=λk x=>Ks.f) (m:=gW) (λk x=>rfl)
  (by exact trivial)
  (λk x=>by show Ad gW (Ks.f) _;unfold Ks.f;exact go)
end
section
attribute [local irreducible] Ks.f Ce.f
def O4:AT:=⟨[(.row 73 (.int .u64))],[(.row 73 (.int .u64))],λk x=>(Gr.f k x.1).map λr=>(r,())⟩
def cq (r:List Int):TT O4.rs:=(r,())
theorem cr:DT Tryz.prog 80 O4 :=
 Ac (Bt:=AO []) (l:= [(118, .pu SI),(134, .pu FJ)]) (C:=Ag) (by kernel_rfl) AI ⟨gX,Gu,trivial⟩ (fn:=Tryz.f80) (by kernel_rfl) rfl (by kernel_rfl) (by decide) (by kernel_rfl) (F:=λk x=>Gr.f k x.1) (m:=cq) (λk x=>rfl)
  (by exact trivial)
  (λk ⟨(a0:List Int),_⟩=>by show Ad cq (Gr.f k a0) _;unfold Gr.f;exact go)
end
section
attribute [local irreducible] Ah.f
def O5:AT:=⟨[(.row 73 (.int .u64)), .int .i64],[(.row 73 (.int .u64))],λk x=>(D5.f k x.1 x.2.1).map λr=>(r,())⟩
def Vx (r:List Int):TT O5.rs:=(r,())
theorem Vy:DT Tryz.prog 198 O5 :=
 Ac (Bt:=AO []) (l:= [(187, .pu Ct)]) (C:=Ag) (by kernel_rfl) AI ⟨DL,trivial⟩ (fn:=Tryz.f198) (by kernel_rfl) rfl (by kernel_rfl) (by decide) (by kernel_rfl) (F:=λk x=>D5.f k x.1 x.2.1) (m:=Vx) (λk x=>rfl)
  (by exact trivial)
  (λk ⟨(a0:List Int),(a1:Int),_⟩=>by show Ad Vx (D5.f k a0 a1) _;unfold D5.f;exact go)
end
section
attribute [local irreducible] Ah.f
def RN:AT:=⟨[(.row 73 (.int .u64)), .int .i64, .int .i64],[(.row 73 (.int .u64))],λk x=>(EV.f k x.1 x.2.1 x.2.2.1).map λr=>(r,())⟩
def YT (r:List Int):TT RN.rs:=(r,())
theorem YU:DT Tryz.prog 197 RN :=
 Ac (Bt:=AO []) (l:= [(187, .pu Ct)]) (C:=Ag) (by kernel_rfl) AI ⟨DL,trivial⟩ (fn:=Tryz.f197) (by kernel_rfl) rfl (by kernel_rfl) (by decide) (by kernel_rfl) (F:=λk x=>EV.f k x.1 x.2.1 x.2.2.1) (m:=YT) (λk x=>rfl)
  (by exact trivial)
  (λk ⟨(a0:List Int),(a1:Int),(a2:Int),_⟩=>by show Ad YT (EV.f k a0 a1 a2) _;unfold EV.f;exact go)
end
section
attribute [local irreducible] Ah.f DU.f DF.f
def Mf:AT:=⟨[(.row 73 (.int .u64)),(.row 73 (.int .u64))],[(.row 73 (.int .u64))],λk x=>(Bb.f k x.1 x.2.1).map λr=>(r,())⟩
def Ic (r:List Int):TT Mf.rs:=(r,())
@[reducible] def O6:List Slot:= [.tmp 1 [.ty (.row 73 (.int .u64))], .tmp 5 [.own .mine 5 73 (.int .u64)], .tmp 21 [.ty (.row 73 (.int .u64))], .tmp 22 [.ty (.int .i64)], .tmp 23 [.ty (.int .i64)]]
def Vz (k:Nat) (x:TS O6):Option (List Int):=Bb.l0 k x.1.1 x.2.1.1 x.2.2.1.1 x.2.2.2.1.1 x.2.2.2.2.1.1
@[reducible] def O7:List Slot:= [.tmp 1 [.ty (.row 73 (.int .u64))], .tmp 5 [.own .mine 5 73 (.int .u64)], .tmp 6 [.ty (.int .i64)], .tmp 7 [.ty (.int .u64)], .tmp 8 [.ty (.int .u64)], .tmp 21 [.ty (.row 73 (.int .u64))], .tmp 22 [.ty (.int .i64)], .tmp 23 [.ty (.int .i64)], .tmp 28 [.ty (.row 73 (.int .u64))], .tmp 29 [.ty (.int .i64)], .tmp 30 [.ty (.int .i64)]]
def V0 (k:Nat) (x:TS O7):Option (List Int):=Bb.l1 k x.1.1 x.2.1.1 x.2.2.1.1 x.2.2.2.1.1 x.2.2.2.2.1.1 x.2.2.2.2.2.1.1 x.2.2.2.2.2.2.1.1 x.2.2.2.2.2.2.2.1.1 x.2.2.2.2.2.2.2.2.1.1 x.2.2.2.2.2.2.2.2.2.1.1 x.2.2.2.2.2.2.2.2.2.2.1.1
def qM:Bu (TT Mf.rs):=⟨⟨73,73,[]⟩,AH [(0,⟨O6,λk x=>(Vz k x).map Ic⟩),(1,⟨O7,λk x=>(V0 k x).map Ic⟩)],AH [],AH []⟩
theorem YV:DT Tryz.prog 135 Mf :=
 Ac (Bt:=AO []) (l:= [(187, .pu Ct),(193, .pu Jj),(196, .pu IM)]) (C:=qM) (by kernel_rfl) AI ⟨DL,Ot,La,trivial⟩ (fn:=Tryz.f135) (by kernel_rfl) rfl (by kernel_rfl) (by decide) (by kernel_rfl) (F:=λk x=>Bb.f k x.1 x.2.1) (m:=Ic) (λk x=>rfl)
  (by
   refine And.intro ?_ ?_
   ·refine A8 (sl:=O6) (F:=Vz) (λx=>rfl) λk ⟨⟨(x1:List Int),_⟩,⟨(x5:List Int),_⟩,⟨(PV:List Int),_⟩,⟨(Mu:Int),_⟩,⟨(NO:Int),_⟩,_⟩=> ?_
    show Ad Ic (Bb.l0 (k+1) x1 x5 PV Mu NO) _;rw[Bb.l0];exact go
   refine And.intro ?_ ?_
   ·refine A8 (sl:=O7) (F:=V0) (λx=>rfl) λk ⟨⟨(x1:List Int),_⟩,⟨(x5:List Int),_⟩,⟨(x6:Int),_⟩,⟨(x7:Int),_⟩,⟨(x8:Int),_⟩,⟨(PV:List Int),_⟩,⟨(Mu:Int),_⟩,⟨(NO:Int),_⟩,⟨(yJ:List Int),_⟩,⟨(gC:Int),_⟩,⟨(oQ:Int),_⟩,_⟩=> ?_
    show Ad Ic (Bb.l1 (k+1) x1 x5 x6 x7 x8 PV Mu NO yJ gC oQ) _;rw[Bb.l1];exact go
   exact trivial)
  (λk ⟨(a0:List Int),(a1:List Int),_⟩=>by show Ad Ic (Bb.f k a0 a1) _;unfold Bb.f;exact go)
end
section
attribute [local irreducible] BH.f C9.f D5.f EV.f Bb.f
def F9:AT:=⟨[(.row 73 (.int .u64)),(.row 73 (.int .u64))],[(.row 73 (.int .u64))],λk x=>(DV.f k x.1 x.2.1).map λr=>(r,())⟩
def Lb (r:List Int):TT F9.rs:=(r,())
def J0:AT:=⟨[(.row 73 (.int .u64)),(.row 73 (.int .u64))],[(.row 73 (.int .u64))],λk x=>(IW.f (DV.f k) k x.1 x.2.1).map Lb⟩
theorem eL (k:Nat) (ih : ∀j,j<=k->ig Tryz.prog 81 F9 j):ig Tryz.prog 136 J0 k :=
 rM (s:=J0) (Bt:=AO []) (l:= [(81, .pu F9),(132, .pu LD),(133, .pu Nt),(197, .pu RN),(198, .pu O5)]) (C:=Ag) (k:=k) (by kernel_rfl) AI ⟨⟨by kernel_rfl,ih⟩,⟨R8.1,λj _=>R8.2 j⟩,⟨XH.1,λj _=>XH.2 j⟩,⟨YU.1,λj _=>YU.2 j⟩,⟨Vy.1,λj _=>Vy.2 j⟩,trivial⟩ (fn:=Tryz.f136) (by kernel_rfl) rfl (by kernel_rfl) (by decide) (F:=λx=>IW.f (DV.f k) k x.1 x.2.1) (m:=Lb) (λx=>rfl)
  (by exact trivial)
  (λ⟨(a0:List Int),(a1:List Int),_⟩=>by show Ad Lb (IW.f (DV.f k) k a0 a1) _;unfold IW.f;exact go)
theorem th (k:Nat) (ih : ∀j,j<=k->ig Tryz.prog 136 J0 j):ig Tryz.prog 81 F9 (k+1) :=
 rM (s:=F9) (Bt:=AO []) (l:= [(135, .pu Mf),(136, .pu J0)]) (C:=Ag) (k:=k) (by kernel_rfl) AI ⟨⟨YV.1,λj _=>YV.2 j⟩,⟨by kernel_rfl,ih⟩,trivial⟩ (fn:=Tryz.f81) (by kernel_rfl) rfl (by kernel_rfl) (by decide) (F:=λx=>DV.f (k+1) x.1 x.2.1) (m:=Lb) (λx=>rfl)
  (by exact trivial)
  (λ⟨(a0:List Int),(a1:List Int),_⟩=>by show Ad Lb (DV.f (k+1) a0 a1) _;rw[DV.f];exact go)
theorem UK : ∀k j,j<=k->ig Tryz.prog 81 F9 j
 | 0,j,hj=>by
  obtain rfl:j=0:=by omega
  intro x r h;cases h
 | k+1,j,hj=>by
  rcases ANs j (k+1) with h | h
  ·exact UK k j (by omega)
  ·obtain rfl:j=k+1:=by omega
   exact th k λi hi=>eL i λq hq=>UK k q (by omega)
theorem cu:DT Tryz.prog 81 F9:=⟨by kernel_rfl,λk=>UK k k (ANS k)⟩
end
section
attribute [local irreducible] LP.f MI.f Ei.f Gr.f
def SJ:AT:=⟨[(.cons .bool (.cons (.row 73 (.int .u64)) (.row 73 (.int .u64)))),(.cons .bool (.cons (.row 73 (.int .u64)) (.row 73 (.int .u64))))],[(.cons .bool (.cons (.row 73 (.int .u64)) (.row 73 (.int .u64))))],λk x=>(Iw.f k x.1.1 x.1.2.1 x.1.2.2 x.2.1.1 x.2.1.2.1 x.2.1.2.2).map λr=>((r.1,r.2.1,r.2.2),())⟩
def gY (r:Bool × List Int × List Int):TT SJ.rs:=((r.1,r.2.1,r.2.2),())
theorem gZ:DT Tryz.prog 26 SJ :=
 Ac (Bt:=AO [(4,[0,1,0,4,0,16,60,0,128,0,512,0,2048,7804,16383,32767,65535,65535,131071,524287])]) (l:= [(77, .pu UD),(78, .pu XI),(79, .pu K2),(80, .pu O4),(81, .pu F9)]) (C:=Ag) (by kernel_rfl) AI ⟨tY,xp,Vv,cr,cu,trivial⟩ (fn:=Tryz.f26) (by kernel_rfl) rfl (by kernel_rfl) (by decide) (by kernel_rfl) (F:=λk x=>Iw.f k x.1.1 x.1.2.1 x.1.2.2 x.2.1.1 x.2.1.2.1 x.2.1.2.2) (m:=gY) (λk x=>rfl)
  (by exact trivial)
  (λk ⟨(a0:Bool × List Int × List Int),(a1:Bool × List Int × List Int),_⟩=>by show Ad gY (Iw.f k a0.1 a0.2.1 a0.2.2 a1.1 a1.2.1 a1.2.2) _;unfold Iw.f;exact go)
end
section
attribute [local irreducible] Ei.f Gr.f FF.f
def SK:AT:=⟨[(.cons .bool (.cons (.row 73 (.int .u64)) (.row 73 (.int .u64)))),(.cons .bool (.cons (.row 73 (.int .u64)) (.row 73 (.int .u64))))],[(.cons .bool (.cons (.row 73 (.int .u64)) (.row 73 (.int .u64))))],λk x=>(Im.f k x.1.1 x.1.2.1 x.1.2.2 x.2.1.1 x.2.1.2.1 x.2.1.2.2).map λr=>((r.1,r.2.1,r.2.2),())⟩
def gb (r:Bool × List Int × List Int):TT SK.rs:=((r.1,r.2.1,r.2.2),())
theorem gh:DT Tryz.prog 27 SK :=
 Ac (Bt:=AO [(1,[0,1,0,4,12,31,63,127,127,255,1023]),(2,[0,1,0,4,12,31,63,127,127,255,1023]),(4,[0,1,0,4,15,0,0,0,192,511,1023])]) (l:= [(79, .pu K2),(80, .pu O4),(81, .pu F9),(82, .pu K1)]) (C:=Ag) (by kernel_rfl) AI ⟨Vv,cr,cu,Vt,trivial⟩ (fn:=Tryz.f27) (by kernel_rfl) rfl (by kernel_rfl) (by decide) (by kernel_rfl) (F:=λk x=>Im.f k x.1.1 x.1.2.1 x.1.2.2 x.2.1.1 x.2.1.2.1 x.2.1.2.2) (m:=gb) (λk x=>rfl)
  (by exact trivial)
  (λk ⟨(a0:Bool × List Int × List Int),(a1:Bool × List Int × List Int),_⟩=>by show Ad gb (Im.f k a0.1 a0.2.1 a0.2.2 a1.1 a1.2.1 a1.2.2) _;unfold Im.f;exact go)
end
section
attribute [local irreducible] Ce.f Ah.f
def SL:AT:=⟨[(.cons .bool (.cons (.row 73 (.int .u64)) (.row 73 (.int .u64))))],[(.cons .bool (.cons (.row 73 (.int .u64)) (.row 73 (.int .u64))))],λk x=>(Jr.f k x.1.1 x.1.2.1 x.1.2.2).map λr=>((r.1,r.2.1,r.2.2),())⟩
def gi (r:Bool × List Int × List Int):TT SL.rs:=((r.1,r.2.1,r.2.2),())
theorem gj:DT Tryz.prog 112 SL :=
 Ac (Bt:=AO [(1,[0,1,3,7,15,31,63,127,255,0,512,1663,0,4096,15999,32767,65535])]) (l:= [(134, .pu FJ),(187, .pu Ct)]) (C:=Ag) (by kernel_rfl) AI ⟨Gu,DL,trivial⟩ (fn:=Tryz.f112) (by kernel_rfl) rfl (by kernel_rfl) (by decide) (by kernel_rfl) (F:=λk x=>Jr.f k x.1.1 x.1.2.1 x.1.2.2) (m:=gi) (λk x=>rfl)
  (by exact trivial)
  (λk ⟨(a0:Bool × List Int × List Int),_⟩=>by show Ad gi (Jr.f k a0.1 a0.2.1 a0.2.2) _;unfold Jr.f;exact go)
end
section
attribute [local irreducible] Iw.f Jr.f
def SM:AT:=⟨[(.cons .bool (.cons (.row 73 (.int .u64)) (.row 73 (.int .u64)))),(.cons .bool (.cons (.row 73 (.int .u64)) (.row 73 (.int .u64))))],[(.cons .bool (.cons (.row 73 (.int .u64)) (.row 73 (.int .u64))))],λk x=>(Js.f k x.1.1 x.1.2.1 x.1.2.2 x.2.1.1 x.2.1.2.1 x.2.1.2.2).map λr=>((r.1,r.2.1,r.2.2),())⟩
def gl (r:Bool × List Int × List Int):TT SM.rs:=((r.1,r.2.1,r.2.2),())
theorem gm:DT Tryz.prog 113 SM :=
 Ac (Bt:=AO [(1,[0,0,2,7,15])]) (l:= [(26, .pu SJ),(112, .pu SL)]) (C:=Ag) (by kernel_rfl) AI ⟨gZ,gj,trivial⟩ (fn:=Tryz.f113) (by kernel_rfl) rfl (by kernel_rfl) (by decide) (by kernel_rfl) (F:=λk x=>Js.f k x.1.1 x.1.2.1 x.1.2.2 x.2.1.1 x.2.1.2.1 x.2.1.2.2) (m:=gl) (λk x=>rfl)
  (by exact trivial)
  (λk ⟨(a0:Bool × List Int × List Int),(a1:Bool × List Int × List Int),_⟩=>by show Ad gl (Js.f k a0.1 a0.2.1 a0.2.2 a1.1 a1.2.1 a1.2.2) _;unfold Js.f;exact go)
end
section
attribute [local irreducible] Ce.f Ah.f
def XJ:AT:=⟨[(.cons .bool (.cons (.row 73 (.int .u64)) (.row 73 (.int .u64))))],[(.cons .bool (.cons (.row 73 (.int .u64)) (.row 73 (.int .u64)))), .int .i64],λk x=>(OH.f k x.1.1 x.1.2.1 x.1.2.2).map λr=>((r.1,r.2.1,r.2.2.1),r.2.2.2,())⟩
def gp (r:Bool × List Int × List Int × Int):TT XJ.rs:=((r.1,r.2.1,r.2.2.1),r.2.2.2,())
theorem xx:DT Tryz.prog 204 XJ :=
 Ac (Bt:=AO [(3,[0,1,0,4,12,0,32,124,255,511,1023])]) (l:= [(134, .pu FJ),(187, .pu Ct)]) (C:=Ag) (by kernel_rfl) AI ⟨Gu,DL,trivial⟩ (fn:=Tryz.f204) (by kernel_rfl) rfl (by kernel_rfl) (by decide) (by kernel_rfl) (F:=λk x=>OH.f k x.1.1 x.1.2.1 x.1.2.2) (m:=gp) (λk x=>rfl)
  (by exact trivial)
  (λk ⟨(a0:Bool × List Int × List Int),_⟩=>by show Ad gp (OH.f k a0.1 a0.2.1 a0.2.2) _;unfold OH.f;exact go)
end
section
attribute [local irreducible] Im.f OH.f
def R5:AT:=⟨[(.cons .bool (.cons (.row 73 (.int .u64)) (.row 73 (.int .u64)))),(.cons .bool (.cons (.row 73 (.int .u64)) (.row 73 (.int .u64))))],[(.cons .bool (.cons (.row 73 (.int .u64)) (.row 73 (.int .u64)))), .int .i64],λk x=>(Jt.f k x.1.1 x.1.2.1 x.1.2.2 x.2.1.1 x.2.1.2.1 x.2.1.2.2).map λr=>((r.1,r.2.1,r.2.2.1),r.2.2.2,())⟩
def gq (r:Bool × List Int × List Int × Int):TT R5.rs:=((r.1,r.2.1,r.2.2.1),r.2.2.2,())
theorem gM:DT Tryz.prog 140 R5 :=
 Ac (Bt:=AO []) (l:= [(27, .pu SK),(204, .pu XJ)]) (C:=Ag) (by kernel_rfl) AI ⟨gh,xx,trivial⟩ (fn:=Tryz.f140) (by kernel_rfl) rfl (by kernel_rfl) (by decide) (by kernel_rfl) (F:=λk x=>Jt.f k x.1.1 x.1.2.1 x.1.2.2 x.2.1.1 x.2.1.2.1 x.2.1.2.2) (m:=gq) (λk x=>rfl)
  (by exact trivial)
  (λk ⟨(a0:Bool × List Int × List Int),(a1:Bool × List Int × List Int),_⟩=>by show Ad gq (Jt.f k a0.1 a0.2.1 a0.2.2 a1.1 a1.2.1 a1.2.2) _;unfold Jt.f;exact go)
end
section
attribute [local irreducible] Iw.f Im.f Jr.f Js.f Jt.f A7.f
def Dy:Dj:=⟨[.st 135 [.ty (.int .i64), .ty (.int .i64), .row false 93 (.cons (.int .i64) (.cons (.int .i64) (.cons (.int .i64) (.cons .bool (.cons (.row 73 (.int .u64)) (.row 73 (.int .u64))))))), .ty (.row 4 .bool), .row false 4 .bool, .ty (.int .i64), .ty (.int .i64), .ty .bool, .ty (.int .i64)], .ty (.int .i64), .ty (.cons .bool (.cons (.row 73 (.int .u64)) (.row 73 (.int .u64)))), .ty (.cons .bool (.cons (.row 73 (.int .u64)) (.row 73 (.int .u64))))],[(.cons .bool (.cons (.row 73 (.int .u64)) (.row 73 (.int .u64))))],λk x=>(DS.f k x.1.1 x.1.2.1 x.1.2.2.1 x.1.2.2.2.1 x.1.2.2.2.2.1 x.1.2.2.2.2.2.1 x.1.2.2.2.2.2.2.1 x.1.2.2.2.2.2.2.2.1 x.1.2.2.2.2.2.2.2.2.1 x.2.1 x.2.2.1.1 x.2.2.1.2.1 x.2.2.1.2.2 x.2.2.2.1.1 x.2.2.2.1.2.1 x.2.2.2.1.2.2).map λr=>(((r.1,(r.2.1,r.2.2.1)),()),((r.2.2.2.1,r.2.2.2.2.1,r.2.2.2.2.2.1,r.2.2.2.2.2.2.1,r.2.2.2.2.2.2.2.1,r.2.2.2.2.2.2.2.2.1,r.2.2.2.2.2.2.2.2.2.1,r.2.2.2.2.2.2.2.2.2.2.1,r.2.2.2.2.2.2.2.2.2.2.2,()),()))⟩
def Mg (r:Bool × List Int × List Int × Int × Int × List (Int × Int × Int × Bool × (List Int) × List Int) × List Bool × List Bool × Int × Int × Bool × Int):TT Dy.rs × ET Dy.ps:=(((r.1,(r.2.1,r.2.2.1)),()),((r.2.2.2.1,r.2.2.2.2.1,r.2.2.2.2.2.1,r.2.2.2.2.2.2.1,r.2.2.2.2.2.2.2.1,r.2.2.2.2.2.2.2.2.1,r.2.2.2.2.2.2.2.2.2.1,r.2.2.2.2.2.2.2.2.2.2.1,r.2.2.2.2.2.2.2.2.2.2.2,()),()))
def V1:Bu (TT Dy.rs × ET Dy.ps):=⟨⟨46,53,[46]⟩,AH [],AH [],AH []⟩
theorem V2:Tj Tryz.prog 241 Dy :=
 Ez (Bt:=AO []) (l:= [(26, .pu SJ),(27, .pu SK),(112, .pu SL),(113, .pu SM),(140, .pu R5),(178, .io B9 [(41,49),(44,51)])]) (C:=V1) (by kernel_rfl) AI ⟨gZ,gh,gj,gm,gM,EY,trivial⟩ (fn:=Tryz.f241) (by kernel_rfl) rfl (by kernel_rfl) (by decide) (by kernel_rfl) (m:=53) (by decide) (by decide) (F:=λk x=>DS.f k x.1.1 x.1.2.1 x.1.2.2.1 x.1.2.2.2.1 x.1.2.2.2.2.1 x.1.2.2.2.2.2.1 x.1.2.2.2.2.2.2.1 x.1.2.2.2.2.2.2.2.1 x.1.2.2.2.2.2.2.2.2.1 x.2.1 x.2.2.1.1 x.2.2.1.2.1 x.2.2.1.2.2 x.2.2.2.1.1 x.2.2.2.1.2.1 x.2.2.2.1.2.2) (q:=Mg) (λk x=>rfl)
  (by exact trivial)
  (λk ⟨⟨Af,Al,Ai,Ar,Ao,Ap,Au,Aw,Av,_⟩,(a1:Int),(a2:Bool × (List Int) × List Int),(a3:Bool × (List Int) × List Int),_⟩=>by show Ad Mg (DS.f k Af Al Ai Ar Ao Ap Au Aw Av a1 a2.1 a2.2.1 a2.2.2 a3.1 a3.2.1 a3.2.2) _;unfold DS.f;exact go)
end
section
def HW:AT:=⟨[.int .u64],[.int .i64],λ_ x=>(Cy.f x.1).map λr=>(r,())⟩
def Nu (r:Int):TT HW.rs:=(r,())
theorem Nv:DT Tryz.prog 250 HW :=
 Ac (Bt:=AO []) (l:= []) (C:=Ag) (by kernel_rfl) AI trivial (fn:=Tryz.f250) (by kernel_rfl) rfl (by kernel_rfl) (by decide) (by kernel_rfl) (F:=λk x=>Cy.f x.1) (m:=Nu) (λk x=>rfl)
  (by exact trivial)
  (λk ⟨(a0:Int),_⟩=>by show Ad Nu (Cy.f a0) _;unfold Cy.f;exact go)
end
section
attribute [local irreducible] Cy.f
def C2:AT:=⟨[.int .u64],[.int .i64],λ_ x=>(A9.f x.1).map λr=>(r,())⟩
def V3 (r:Int):TT C2.rs:=(r,())
theorem Dh:DT Tryz.prog 205 C2 :=
 Ac (Bt:=AO []) (l:= [(250, .pu HW)]) (C:=Ag) (by kernel_rfl) AI ⟨Nv,trivial⟩ (fn:=Tryz.f205) (by kernel_rfl) rfl (by kernel_rfl) (by decide) (by kernel_rfl) (F:=λk x=>A9.f x.1) (m:=V3) (λk x=>rfl)
  (by exact trivial)
  (λk ⟨(a0:Int),_⟩=>by show Ad V3 (A9.f a0) _;unfold A9.f;exact go)
end
section
def ER:AT:=⟨[],[.int .u64],λ_ _=>(Bq.f).map λr=>(r,())⟩
def YW (r:Int):TT ER.rs:=(r,())
theorem Fu:DT Tryz.prog 206 ER :=
 Ac (Bt:=AO []) (l:= []) (C:=Ag) (by kernel_rfl) AI trivial (fn:=Tryz.f206) (by kernel_rfl) rfl (by kernel_rfl) (by decide) (by kernel_rfl) (F:=λk x=>Bq.f) (m:=YW) (λk x=>rfl)
  (by exact trivial)
  (λk x=>by show Ad YW (Bq.f) _;unfold Bq.f;exact go)
end
section
attribute [local irreducible] A9.f Bq.f
def K3:AT:=⟨[.int .u64],[.int .u64],λ_ x=>(FB.f x.1).map λr=>(r,())⟩
def V4 (r:Int):TT K3.rs:=(r,())
theorem V6:DT Tryz.prog 144 K3 :=
 Ac (Bt:=AO []) (l:= [(205, .pu C2),(206, .pu ER)]) (C:=Ag) (by kernel_rfl) AI ⟨Dh,Fu,trivial⟩ (fn:=Tryz.f144) (by kernel_rfl) rfl (by kernel_rfl) (by decide) (by kernel_rfl) (F:=λk x=>FB.f x.1) (m:=V4) (λk x=>rfl)
  (by exact trivial)
  (λk ⟨(a0:Int),_⟩=>by show Ad V4 (FB.f a0) _;unfold FB.f;exact go)
end
section
def JA:AT:=⟨[.bool, .int .u64],[.int .u64],λ_ x=>(C1.f x.1 x.2.1).map λr=>(r,())⟩
def RO (r:Int):TT JA.rs:=(r,())
theorem RP:DT Tryz.prog 252 JA :=
 Ac (Bt:=AO []) (l:= []) (C:=Ag) (by kernel_rfl) AI trivial (fn:=Tryz.f252) (by kernel_rfl) rfl (by kernel_rfl) (by decide) (by kernel_rfl) (F:=λk x=>C1.f x.1 x.2.1) (m:=RO) (λk x=>rfl)
  (by exact trivial)
  (λk ⟨(a0:Bool),(a1:Int),_⟩=>by show Ad RO (C1.f a0 a1) _;unfold C1.f;exact go)
end
section
attribute [local irreducible] C1.f
def EN:AT:=⟨[.bool],[.int .u64],λ_ x=>(CH.f x.1).map λr=>(r,())⟩
def YX (r:Int):TT EN.rs:=(r,())
theorem Ft:DT Tryz.prog 209 EN :=
 Ac (Bt:=AO []) (l:= [(252, .pu JA)]) (C:=Ag) (by kernel_rfl) AI ⟨RP,trivial⟩ (fn:=Tryz.f209) (by kernel_rfl) rfl (by kernel_rfl) (by decide) (by kernel_rfl) (F:=λk x=>CH.f x.1) (m:=YX) (λk x=>rfl)
  (by exact trivial)
  (λk ⟨(a0:Bool),_⟩=>by show Ad YX (CH.f a0) _;unfold CH.f;exact go)
end
section
attribute [local irreducible] BC.f C1.f
def JB:AT:=⟨[.bool, .int .u64, .int .i64],[.int .u64, .bool],λk x=>(BA.f k x.1 x.2.1 x.2.2.1).map λr=>(r.1,r.2,())⟩
def V7 (r:Int × Bool):TT JB.rs:=(r.1,r.2,())
theorem O8:DT Tryz.prog 251 JB :=
 Ac (Bt:=AO []) (l:= [(195, .pu EA),(252, .pu JA)]) (C:=Ag) (by kernel_rfl) AI ⟨F8,RP,trivial⟩ (fn:=Tryz.f251) (by kernel_rfl) rfl (by kernel_rfl) (by decide) (by kernel_rfl) (F:=λk x=>BA.f k x.1 x.2.1 x.2.2.1) (m:=V7) (λk x=>rfl)
  (by exact trivial)
  (λk ⟨(a0:Bool),(a1:Int),(a2:Int),_⟩=>by show Ad V7 (BA.f k a0 a1 a2) _;unfold BA.f;unfold BA.j0;unfold BA.j1;unfold BA.j2;exact goq)
end
section
attribute [local irreducible] CH.f BA.f
def H8:AT:=⟨[.bool, .int .u64, .int .i64],[.int .u64],λk x=>(CO.f k x.1 x.2.1 x.2.2.1).map λr=>(r,())⟩
def TG (r:Int):TT H8.rs:=(r,())
theorem Mx:DT Tryz.prog 208 H8 :=
 Ac (Bt:=AO []) (l:= [(209, .pu EN),(251, .pu JB)]) (C:=Ag) (by kernel_rfl) AI ⟨Ft,O8,trivial⟩ (fn:=Tryz.f208) (by kernel_rfl) rfl (by kernel_rfl) (by decide) (by kernel_rfl) (F:=λk x=>CO.f k x.1 x.2.1 x.2.2.1) (m:=TG) (λk x=>rfl)
  (by exact trivial)
  (λk ⟨(a0:Bool),(a1:Int),(a2:Int),_⟩=>by show Ad TG (CO.f k a0 a1 a2) _;unfold CO.f;exact go)
end
section
def Jx:AT:=⟨[.int .u64, .bool, .bool],[.int .u64],λ_ x=>(EL.f x.1 x.2.1 x.2.2.1).map λr=>(r,())⟩
def TH (r:Int):TT Jx.rs:=(r,())
theorem TA:DT Tryz.prog 253 Jx :=
 Ac (Bt:=AO []) (l:= []) (C:=Ag) (by kernel_rfl) AI trivial (fn:=Tryz.f253) (by kernel_rfl) rfl (by kernel_rfl) (by decide) (by kernel_rfl) (F:=λk x=>EL.f x.1 x.2.1 x.2.2.1) (m:=TH) (λk x=>rfl)
  (by exact trivial)
  (λk ⟨(a0:Int),(a1:Bool),(a2:Bool),_⟩=>by show Ad TH (EL.f a0 a1 a2) _;unfold EL.f;exact go)
end
section
attribute [local irreducible] BC.f CO.f CH.f EL.f
def Dg:AT:=⟨[.bool, .int .u64, .int .i64],[.int .u64],λk x=>(At.f k x.1 x.2.1 x.2.2.1).map λr=>(r,())⟩
def TJ (r:Int):TT Dg.rs:=(r,())
theorem FL:DT Tryz.prog 216 Dg :=
 Ac (Bt:=AO []) (l:= [(195, .pu EA),(208, .pu H8),(209, .pu EN),(253, .pu Jx)]) (C:=Ag) (by kernel_rfl) AI ⟨F8,Mx,Ft,TA,trivial⟩ (fn:=Tryz.f216) (by kernel_rfl) rfl (by kernel_rfl) (by decide) (by kernel_rfl) (F:=λk x=>At.f k x.1 x.2.1 x.2.2.1) (m:=TJ) (λk x=>rfl)
  (by exact trivial)
  (λk ⟨(a0:Bool),(a1:Int),(a2:Int),_⟩=>by show Ad TJ (At.f k a0 a1 a2) _;unfold At.f;exact go)
end
section
def UL:AT:=⟨[.int .u64, .int .i64],[.int .u64],λ_ x=>(J7.f x.1 x.2.1).map λr=>(r,())⟩
def cv (r:Int):TT UL.rs:=(r,())
theorem tj:DT Tryz.prog 256 UL :=
 Ac (Bt:=AO []) (l:= []) (C:=Ag) (by kernel_rfl) AI trivial (fn:=Tryz.f256) (by kernel_rfl) rfl (by kernel_rfl) (by decide) (by kernel_rfl) (F:=λk x=>J7.f x.1 x.2.1) (m:=cv) (λk x=>rfl)
  (by exact trivial)
  (λk ⟨(a0:Int),(a1:Int),_⟩=>by show Ad cv (J7.f a0 a1) _;unfold J7.f;exact go)
end
section
attribute [local irreducible] At.f J7.f
def M7:AT:=⟨[(.cons .bool (.cons (.int .u64) (.int .i64))),(.cons .bool (.cons (.int .u64) (.int .i64)))],[.int .u64],λk x=>(C6.f k x.1.1 x.1.2.1 x.1.2.2 x.2.1.1 x.2.1.2.1 x.2.1.2.2).map λr=>(r,())⟩
def TL (r:Int):TT M7.rs:=(r,())
theorem eN:DT Tryz.prog 212 M7 :=
 Ac (Bt:=AO []) (l:= [(216, .pu Dg),(256, .pu UL)]) (C:=Ag) (by kernel_rfl) AI ⟨FL,tj,trivial⟩ (fn:=Tryz.f212) (by kernel_rfl) rfl (by kernel_rfl) (by decide) (by kernel_rfl) (F:=λk x=>C6.f k x.1.1 x.1.2.1 x.1.2.2 x.2.1.1 x.2.1.2.1 x.2.1.2.2) (m:=TL) (λk x=>rfl)
  (by exact trivial)
  (λk ⟨(a0:Bool × Int × Int),(a1:Bool × Int × Int),_⟩=>by show Ad TL (C6.f k a0.1 a0.2.1 a0.2.2 a1.1 a1.2.1 a1.2.2) _;unfold C6.f;unfold C6.j0;exact goq)
end
section
def Fv:AT:=⟨[.int .u64],[.bool],λ_ x=>(CG.f x.1).map λr=>(r,())⟩
def YY (r:Bool):TT Fv.rs:=(r,())
theorem Ie:DT Tryz.prog 214 Fv :=
 Ac (Bt:=AO []) (l:= []) (C:=Ag) (by kernel_rfl) AI trivial (fn:=Tryz.f214) (by kernel_rfl) rfl (by kernel_rfl) (by decide) (by kernel_rfl) (F:=λk x=>CG.f x.1) (m:=YY) (λk x=>rfl)
  (by exact trivial)
  (λk ⟨(a0:Int),_⟩=>by show Ad YY (CG.f a0) _;unfold CG.f;exact go)
end
section
attribute [local irreducible] A9.f CG.f Cy.f
def Di:AT:=⟨[.int .u64],[.bool, .int .u64, .int .i64, .bool],λk x=>(Ax.f k x.1).map λr=>(r.1,r.2.1,r.2.2.1,r.2.2.2,())⟩
def TM (r:Bool × Int × Int × Bool):TT Di.rs:=(r.1,r.2.1,r.2.2.1,r.2.2.2,())
theorem FN:DT Tryz.prog 215 Di :=
 Ac (Bt:=AO []) (l:= [(205, .pu C2),(214, .pu Fv),(250, .pu HW)]) (C:=Ag) (by kernel_rfl) AI ⟨Dh,Ie,Nv,trivial⟩ (fn:=Tryz.f215) (by kernel_rfl) rfl (by kernel_rfl) (by decide) (by kernel_rfl) (F:=λk x=>Ax.f k x.1) (m:=TM) (λk x=>rfl)
  (by exact trivial)
  (λk ⟨(a0:Int),_⟩=>by show Ad TM (Ax.f k a0) _;unfold Ax.f;unfold Ax.j0;exact goq)
end
section
attribute [local irreducible] Ax.f
def XK:AT:=⟨[.int .u64],[(.cons .bool (.cons (.int .u64) (.int .i64)))],λk x=>(Lw.f k x.1).map λr=>((r.1,r.2.1,r.2.2),())⟩
def gu (r:Bool × Int × Int):TT XK.rs:=((r.1,r.2.1,r.2.2),())
theorem xy:DT Tryz.prog 213 XK :=
 Ac (Bt:=AO []) (l:= [(215, .pu Di)]) (C:=Ag) (by kernel_rfl) AI ⟨FN,trivial⟩ (fn:=Tryz.f213) (by kernel_rfl) rfl (by kernel_rfl) (by decide) (by kernel_rfl) (F:=λk x=>Lw.f k x.1) (m:=gu) (λk x=>rfl)
  (by exact trivial)
  (λk ⟨(a0:Int),_⟩=>by show Ad gu (Lw.f k a0) _;unfold Lw.f;exact go)
end
section
attribute [local irreducible] A9.f Bq.f C6.f Lw.f
def IN:AT:=⟨[.int .u64, .int .u64],[.int .u64],λk x=>(BK.f k x.1 x.2.1).map λr=>(r,())⟩
def Jk (r:Int):TT IN.rs:=(r,())
@[reducible] def RQ:List Slot:= [.tmp 0 [.ty (.int .u64)], .tmp 1 [.ty (.int .u64)], .tmp 5 [.ty (.int .i64)], .tmp 6 [.ty (.int .i64)], .tmp 11 [.ty .bool]]
def YZ (k:Nat) (x:TS RQ):Option (Int):=BK.j0 k x.1.1 x.2.1.1 x.2.2.1.1 x.2.2.2.1.1 x.2.2.2.2.1.1
@[reducible] def RR:List Slot:= [.tmp 0 [.ty (.int .u64)], .tmp 1 [.ty (.int .u64)], .tmp 5 [.ty (.int .i64)], .tmp 6 [.ty (.int .i64)], .tmp 19 [.ty .bool]]
def Ya (k:Nat) (x:TS RR):Option (Int):=BK.j1 k x.1.1 x.2.1.1 x.2.2.1.1 x.2.2.2.1.1 x.2.2.2.2.1.1
def tq:Bu (TT IN.rs):=⟨⟨45,45,[]⟩,AH [],AH [],AH [(2,⟨RQ,λk x=>(YZ k x).map Jk⟩),(4,⟨RR,λk x=>(Ya k x).map Jk⟩)]⟩
theorem O9:DT Tryz.prog 145 IN :=
 Ac (Bt:=AO []) (l:= [(205, .pu C2),(206, .pu ER),(212, .pu M7),(213, .pu XK)]) (C:=tq) (by kernel_rfl) AI ⟨Dh,Fu,eN,xy,trivial⟩ (fn:=Tryz.f145) (by kernel_rfl) rfl (by kernel_rfl) (by decide) (by kernel_rfl) (F:=λk x=>BK.f k x.1 x.2.1) (m:=Jk) (λk x=>rfl)
  (by
   refine And.intro ?_ ?_
   ·refine B4 (sl:=RQ) (F:=YZ) (λx=>rfl) λk ⟨⟨(x0:Int),_⟩,⟨(x1:Int),_⟩,⟨(x5:Int),_⟩,⟨(x6:Int),_⟩,⟨(Kr:Bool),_⟩,_⟩=> ?_
    show Ad Jk (BK.j0 (k+1) x0 x1 x5 x6 Kr) _;rw[BK.j0];exact go
   refine And.intro ?_ ?_
   ·refine B4 (sl:=RR) (F:=Ya) (λx=>rfl) λk ⟨⟨(x0:Int),_⟩,⟨(x1:Int),_⟩,⟨(x5:Int),_⟩,⟨(x6:Int),_⟩,⟨(qY:Bool),_⟩,_⟩=> ?_
    show Ad Jk (BK.j1 (k+1) x0 x1 x5 x6 qY) _;rw[BK.j1];exact go
   exact trivial)
  (λk ⟨(a0:Int),(a1:Int),_⟩=>by show Ad Jk (BK.f k a0 a1) _;unfold BK.f;exact go)
end
section
attribute [local irreducible] FB.f BK.f
def Lc:AT:=⟨[.int .u64, .int .u64],[.int .u64],λk x=>(GG.f k x.1 x.2.1).map λr=>(r,())⟩
def cw (r:Int):TT Lc.rs:=(r,())
theorem UM:DT Tryz.prog 146 Lc :=
 Ac (Bt:=AO []) (l:= [(144, .pu K3),(145, .pu IN)]) (C:=Ag) (by kernel_rfl) AI ⟨V6,O9,trivial⟩ (fn:=Tryz.f146) (by kernel_rfl) rfl (by kernel_rfl) (by decide) (by kernel_rfl) (F:=λk x=>GG.f k x.1 x.2.1) (m:=cw) (λk x=>rfl)
  (by exact trivial)
  (λk ⟨(a0:Int),(a1:Int),_⟩=>by show Ad cw (GG.f k a0 a1) _;unfold GG.f;exact go)
end
section
attribute [local irreducible] BC.f DF.f A9.f Bq.f CH.f CG.f Ax.f At.f
def Ig:AT:=⟨[.int .u64, .int .u64],[.int .u64],λk x=>(Ae.f k x.1 x.2.1).map λr=>(r,())⟩
def Fw (r:Int):TT Ig.rs:=(r,())
@[reducible] def PA:List Slot:= [.tmp 0 [.ty (.int .u64)], .tmp 1 [.ty (.int .u64)], .tmp 5 [.ty (.int .i64)], .tmp 6 [.ty (.int .i64)], .tmp 7 [.ty .bool], .tmp 29 [.ty .bool]]
def V8 (k:Nat) (x:TS PA):Option (Int):=Ae.j0 k x.1.1 x.2.1.1 x.2.2.1.1 x.2.2.2.1.1 x.2.2.2.2.1.1 x.2.2.2.2.2.1.1
@[reducible] def PB:List Slot:= [.tmp 0 [.ty (.int .u64)], .tmp 1 [.ty (.int .u64)], .tmp 5 [.ty (.int .i64)], .tmp 6 [.ty (.int .i64)], .tmp 7 [.ty .bool], .tmp 37 [.ty .bool]]
def V9 (k:Nat) (x:TS PB):Option (Int):=Ae.j1 k x.1.1 x.2.1.1 x.2.2.1.1 x.2.2.2.1.1 x.2.2.2.2.1.1 x.2.2.2.2.2.1.1
@[reducible] def PC:List Slot:= [.tmp 7 [.ty .bool], .tmp 49 [.ty .bool]]
def WA (k:Nat) (x:TS PC):Option (Int):=Ae.j2 k x.1.1 x.2.1.1
def qN:Bu (TT Ig.rs):=⟨⟨106,106,[]⟩,AH [],AH [],AH [(3,⟨PA,λk x=>(V8 k x).map Fw⟩),(5,⟨PB,λk x=>(V9 k x).map Fw⟩),(6,⟨PC,λk x=>(WA k x).map Fw⟩)]⟩
theorem RS:DT Tryz.prog 147 Ig :=
 Ac (Bt:=AO [(15,[0,0,2,7,0,0,48,127,255])]) (l:= [(195, .pu EA),(196, .pu IM),(205, .pu C2),(206, .pu ER),(209, .pu EN),(214, .pu Fv),(215, .pu Di),(216, .pu Dg)]) (C:=qN) (by kernel_rfl) AI ⟨F8,La,Dh,Fu,Ft,Ie,FN,FL,trivial⟩ (fn:=Tryz.f147) (by kernel_rfl) rfl (by kernel_rfl) (by decide) (by kernel_rfl) (F:=λk x=>Ae.f k x.1 x.2.1) (m:=Fw) (λk x=>rfl)
  (by
   refine And.intro ?_ ?_
   ·refine B4 (sl:=PA) (F:=V8) (λx=>rfl) λk ⟨⟨(x0:Int),_⟩,⟨(x1:Int),_⟩,⟨(x5:Int),_⟩,⟨(x6:Int),_⟩,⟨(x7:Bool),_⟩,⟨(gC:Bool),_⟩,_⟩=> ?_
    show Ad Fw (Ae.j0 (k+1) x0 x1 x5 x6 x7 gC) _;rw[Ae.j0];exact go
   refine And.intro ?_ ?_
   ·refine B4 (sl:=PB) (F:=V9) (λx=>rfl) λk ⟨⟨(x0:Int),_⟩,⟨(x1:Int),_⟩,⟨(x5:Int),_⟩,⟨(x6:Int),_⟩,⟨(x7:Bool),_⟩,⟨(x37:Bool),_⟩,_⟩=> ?_
    show Ad Fw (Ae.j1 (k+1) x0 x1 x5 x6 x7 x37) _;rw[Ae.j1];exact go
   refine And.intro ?_ ?_
   ·refine B4 (sl:=PC) (F:=WA) (λx=>rfl) λk ⟨⟨(x7:Bool),_⟩,⟨(x49:Bool),_⟩,_⟩=> ?_
    show Ad Fw (Ae.j2 (k+1) x7 x49) _;rw[Ae.j2];exact go
   exact trivial)
  (λk ⟨(a0:Int),(a1:Int),_⟩=>by show Ad Fw (Ae.f k a0 a1) _;unfold Ae.f;exact go)
end
section
attribute [local irreducible] BA.f
def Ld:AT:=⟨[.bool],[.int .u64],λk x=>(E0.f k x.1).map λr=>(r,())⟩
def RT (r:Int):TT Ld.rs:=(r,())
theorem cz:DT Tryz.prog 217 Ld :=
 Ac (Bt:=AO []) (l:= [(251, .pu JB)]) (C:=Ag) (by kernel_rfl) AI ⟨O8,trivial⟩ (fn:=Tryz.f217) (by kernel_rfl) rfl (by kernel_rfl) (by decide) (by kernel_rfl) (F:=λk x=>E0.f k x.1) (m:=RT) (λk x=>rfl)
  (by exact trivial)
  (λk ⟨(a0:Bool),_⟩=>by show Ad RT (E0.f k a0) _;unfold E0.f;exact go)
end
section
attribute [local irreducible] BC.f A9.f Bq.f CH.f CG.f Ax.f At.f E0.f Gq.f
def Ih:AT:=⟨[.int .u64, .int .u64],[.int .u64],λk x=>(BP.f k x.1 x.2.1).map λr=>(r,())⟩
def Ii (r:Int):TT Ih.rs:=(r,())
@[reducible] def PD:List Slot:= [.tmp 0 [.ty (.int .u64)], .tmp 1 [.ty (.int .u64)], .tmp 5 [.ty (.int .i64)], .tmp 6 [.ty (.int .i64)], .tmp 7 [.ty .bool], .tmp 30 [.ty .bool]]
def WB (k:Nat) (x:TS PD):Option (Int):=BP.j0 k x.1.1 x.2.1.1 x.2.2.1.1 x.2.2.2.1.1 x.2.2.2.2.1.1 x.2.2.2.2.2.1.1
@[reducible] def PE:List Slot:= [.tmp 0 [.ty (.int .u64)], .tmp 1 [.ty (.int .u64)], .tmp 5 [.ty (.int .i64)], .tmp 6 [.ty (.int .i64)], .tmp 7 [.ty .bool], .tmp 51 [.ty .bool]]
def WC (k:Nat) (x:TS PE):Option (Int):=BP.j1 k x.1.1 x.2.1.1 x.2.2.1.1 x.2.2.2.1.1 x.2.2.2.2.1.1 x.2.2.2.2.2.1.1
def qO:Bu (TT Ih.rs):=⟨⟨115,115,[]⟩,AH [],AH [],AH [(3,⟨PD,λk x=>(WB k x).map Ii⟩),(5,⟨PE,λk x=>(WC k x).map Ii⟩)]⟩
theorem RU:DT Tryz.prog 148 Ih :=
 Ac (Bt:=AO [(12,[0,0,3,0,0,24,63,127,255,255,255,511,3071,8191])]) (l:= [(195, .pu EA),(205, .pu C2),(206, .pu ER),(209, .pu EN),(214, .pu Fv),(215, .pu Di),(216, .pu Dg),(217, .pu Ld),(218, .pu LZ)]) (C:=qO) (by kernel_rfl) AI ⟨F8,Dh,Fu,Ft,Ie,FN,FL,cz,UH,trivial⟩ (fn:=Tryz.f148) (by kernel_rfl) rfl (by kernel_rfl) (by decide) (by kernel_rfl) (F:=λk x=>BP.f k x.1 x.2.1) (m:=Ii) (λk x=>rfl)
  (by
   refine And.intro ?_ ?_
   ·refine B4 (sl:=PD) (F:=WB) (λx=>rfl) λk ⟨⟨(x0:Int),_⟩,⟨(x1:Int),_⟩,⟨(x5:Int),_⟩,⟨(x6:Int),_⟩,⟨(x7:Bool),_⟩,⟨(oQ:Bool),_⟩,_⟩=> ?_
    show Ad Ii (BP.j0 (k+1) x0 x1 x5 x6 x7 oQ) _;rw[BP.j0];exact go
   refine And.intro ?_ ?_
   ·refine B4 (sl:=PE) (F:=WC) (λx=>rfl) λk ⟨⟨(x0:Int),_⟩,⟨(x1:Int),_⟩,⟨(x5:Int),_⟩,⟨(x6:Int),_⟩,⟨(x7:Bool),_⟩,⟨(x51:Bool),_⟩,_⟩=> ?_
    show Ad Ii (BP.j1 (k+1) x0 x1 x5 x6 x7 x51) _;rw[BP.j1];exact go
   exact trivial)
  (λk ⟨(a0:Int),(a1:Int),_⟩=>by show Ad Ii (BP.f k a0 a1) _;unfold BP.f;exact go)
end
section
attribute [local irreducible] DF.f
def K4:AT:=⟨[.int .u64],[.int .u64, .bool],λk x=>(Bz.f k x.1).map λr=>(r.1,r.2,())⟩
def K5 (r:Int × Bool):TT K4.rs:=(r.1,r.2,())
@[reducible] def M8:List Slot:= [.tmp 0 [.ty (.int .u64)], .tmp 4 [.ty (.int .u64)], .tmp 5 [.ty (.int .u64)]]
def TN (k:Nat) (x:TS M8):Option (Int × Bool):=Bz.l0 k x.1.1 x.2.1.1 x.2.2.1.1
def lQ:Bu (TT K4.rs):=⟨⟨53,53,[]⟩,AH [(0,⟨M8,λk x=>(TN k x).map K5⟩)],AH [],AH []⟩
theorem lS:DT Tryz.prog 219 K4 :=
 Ac (Bt:=AO []) (l:= [(196, .pu IM)]) (C:=lQ) (by kernel_rfl) AI ⟨La,trivial⟩ (fn:=Tryz.f219) (by kernel_rfl) rfl (by kernel_rfl) (by decide) (by kernel_rfl) (F:=λk x=>Bz.f k x.1) (m:=K5) (λk x=>rfl)
  (by
   refine And.intro ?_ ?_
   ·refine A8 (sl:=M8) (F:=TN) (λx=>rfl) λk ⟨⟨(x0:Int),_⟩,⟨(x4:Int),_⟩,⟨(x5:Int),_⟩,_⟩=> ?_
    show Ad K5 (Bz.l0 (k+1) x0 x4 x5) _;rw[Bz.l0];exact go
   exact trivial)
  (λk ⟨(a0:Int),_⟩=>by show Ad K5 (Bz.f k a0) _;unfold Bz.f;exact go)
end
section
attribute [local irreducible] BC.f A9.f Bq.f CG.f Ax.f At.f Bz.f
def K6:AT:=⟨[.int .u64],[.int .u64],λk x=>(B6.f k x.1).map λr=>(r,())⟩
def K7 (r:Int):TT K6.rs:=(r,())
@[reducible] def M9:List Slot:= [.tmp 4 [.ty (.int .u64)], .tmp 5 [.ty (.int .i64)], .tmp 7 [.ty (.int .i64)]]
def TO (k:Nat) (x:TS M9):Option (Int):=B6.j0 k x.1.1 x.2.1.1 x.2.2.1.1
def lT:Bu (TT K6.rs):=⟨⟨61,61,[]⟩,AH [],AH [(15,⟨M9,λk x=>(TO k x).map K7⟩)],AH []⟩
theorem lU:DT Tryz.prog 149 K6 :=
 Ac (Bt:=AO []) (l:= [(195, .pu EA),(205, .pu C2),(206, .pu ER),(214, .pu Fv),(215, .pu Di),(216, .pu Dg),(219, .pu K4)]) (C:=lT) (by kernel_rfl) AI ⟨F8,Dh,Fu,Ie,FN,FL,lS,trivial⟩ (fn:=Tryz.f149) (by kernel_rfl) rfl (by kernel_rfl) (by decide) (by kernel_rfl) (F:=λk x=>B6.f k x.1) (m:=K7) (λk x=>rfl)
  (by
   refine And.intro ?_ ?_
   ·refine B4 (sl:=M9) (F:=TO) (λx=>rfl) λk ⟨⟨(x4:Int),_⟩,⟨(x5:Int),_⟩,⟨(x7:Int),_⟩,_⟩=> ?_
    show Ad K7 (B6.j0 (k+1) x4 x5 x7) _;rw[B6.j0];exact go
   exact trivial)
  (λk ⟨(a0:Int),_⟩=>by show Ad K7 (B6.f k a0) _;unfold B6.f;exact go)
end
section
attribute [local irreducible] A9.f
def PG:AT:=⟨[.int .u64, .int .u64],[.bool],λ_ x=>(Gm.f x.1 x.2.1).map λr=>(r,())⟩
def WD (r:Bool):TT PG.rs:=(r,())
theorem lV:DT Tryz.prog 243 PG :=
 Ac (Bt:=AO []) (l:= [(205, .pu C2)]) (C:=Ag) (by kernel_rfl) AI ⟨Dh,trivial⟩ (fn:=Tryz.f243) (by kernel_rfl) rfl (by kernel_rfl) (by decide) (by kernel_rfl) (F:=λk x=>Gm.f x.1 x.2.1) (m:=WD) (λk x=>rfl)
  (by exact trivial)
  (λk ⟨(a0:Int),(a1:Int),_⟩=>by show Ad WD (Gm.f a0 a1) _;unfold Gm.f;exact go)
end
section
attribute [local irreducible] CG.f
def UN:AT:=⟨[.int .u64],[.int .i64],λ_ x=>(Iu.f x.1).map λr=>(r,())⟩
def c8 (r:Int):TT UN.rs:=(r,())
theorem tr:DT Tryz.prog 244 UN :=
 Ac (Bt:=AO []) (l:= [(214, .pu Fv)]) (C:=Ag) (by kernel_rfl) AI ⟨Ie,trivial⟩ (fn:=Tryz.f244) (by kernel_rfl) rfl (by kernel_rfl) (by decide) (by kernel_rfl) (F:=λk x=>Iu.f x.1) (m:=c8) (λk x=>rfl)
  (by exact trivial)
  (λk ⟨(a0:Int),_⟩=>by show Ad c8 (Iu.f a0) _;unfold Iu.f;exact go)
end
section
attribute [local irreducible] Gm.f Iu.f
def KM:AT:=⟨[.int .u64, .int .u64],[.bool],λ_ x=>(Du.f x.1 x.2.1).map λr=>(r,())⟩
def Yb (r:Bool):TT KM.rs:=(r,())
theorem RV:DT Tryz.prog 180 KM :=
 Ac (Bt:=AO []) (l:= [(243, .pu PG),(244, .pu UN)]) (C:=Ag) (by kernel_rfl) AI ⟨lV,tr,trivial⟩ (fn:=Tryz.f180) (by kernel_rfl) rfl (by kernel_rfl) (by decide) (by kernel_rfl) (F:=λk x=>Du.f x.1 x.2.1) (m:=Yb) (λk x=>rfl)
  (by exact trivial)
  (λk ⟨(a0:Int),(a1:Int),_⟩=>by show Ad Yb (Du.f a0 a1) _;unfold Du.f;exact go)
end
section
attribute [local irreducible] BC.f Ax.f
def Mh:AT:=⟨[.int .u64],[.int .i64, .bool],λk x=>(Br.f k x.1).map λr=>(r.1,r.2,())⟩
def Ij (r:Int × Bool):TT Mh.rs:=(r.1,r.2,())
@[reducible] def PI:List Slot:= [.tmp 4 [.ty .bool], .tmp 5 [.ty (.int .u64)], .tmp 6 [.ty (.int .i64)], .tmp 25 [.ty .bool]]
def WE (k:Nat) (x:TS PI):Option (Int × Bool):=Br.j0 k x.1.1 x.2.1.1 x.2.2.1.1 x.2.2.2.1.1
@[reducible] def PJ:List Slot:= [.tmp 4 [.ty .bool], .tmp 8 [.ty (.int .i64)], .tmp 55 [.ty .bool]]
def WG (k:Nat) (x:TS PJ):Option (Int × Bool):=Br.j1 k x.1.1 x.2.1.1 x.2.2.1.1
def qP:Bu (TT Mh.rs):=⟨⟨62,62,[]⟩,AH [],AH [],AH [(2,⟨PI,λk x=>(WE k x).map Ij⟩),(10,⟨PJ,λk x=>(WG k x).map Ij⟩)]⟩
theorem qQ:DT Tryz.prog 220 Mh :=
 Ac (Bt:=AO []) (l:= [(195, .pu EA),(215, .pu Di)]) (C:=qP) (by kernel_rfl) AI ⟨F8,FN,trivial⟩ (fn:=Tryz.f220) (by kernel_rfl) rfl (by kernel_rfl) (by decide) (by kernel_rfl) (F:=λk x=>Br.f k x.1) (m:=Ij) (λk x=>rfl)
  (by
   refine And.intro ?_ ?_
   ·refine B4 (sl:=PI) (F:=WE) (λx=>rfl) λk ⟨⟨(x4:Bool),_⟩,⟨(x5:Int),_⟩,⟨(x6:Int),_⟩,⟨(u9:Bool),_⟩,_⟩=> ?_
    show Ad Ij (Br.j0 (k+1) x4 x5 x6 u9) _;rw[Br.j0];exact go
   refine And.intro ?_ ?_
   ·refine B4 (sl:=PJ) (F:=WG) (λx=>rfl) λk ⟨⟨(x4:Bool),_⟩,⟨(x8:Int),_⟩,⟨(x55:Bool),_⟩,_⟩=> ?_
    show Ad Ij (Br.j1 (k+1) x4 x8 x55) _;rw[Br.j1];exact go
   exact trivial)
  (λk ⟨(a0:Int),_⟩=>by show Ad Ij (Br.f k a0) _;unfold Br.f;exact go)
end
section
attribute [local irreducible] At.f
def Fk:AT:=⟨[.int .i64],[.int .u64],λk x=>(CY.f k x.1).map λr=>(r,())⟩
def Nw (r:Int):TT Fk.rs:=(r,())
theorem Jl:DT Tryz.prog 221 Fk :=
 Ac (Bt:=AO []) (l:= [(216, .pu Dg)]) (C:=Ag) (by kernel_rfl) AI ⟨FL,trivial⟩ (fn:=Tryz.f221) (by kernel_rfl) rfl (by kernel_rfl) (by decide) (by kernel_rfl) (F:=λk x=>CY.f k x.1) (m:=Nw) (λk x=>rfl)
  (by exact trivial)
  (λk ⟨(a0:Int),_⟩=>by show Ad Nw (CY.f k a0) _;unfold CY.f;exact go)
end
section
attribute [local irreducible] BP.f CY.f
def J1:AT:=⟨[.int .i64],[.int .u64],λk x=>(Dl.f k x.1).map λr=>(r,())⟩
def TP (r:Int):TT J1.rs:=(r,())
theorem TQ:DT Tryz.prog 222 J1 :=
 Ac (Bt:=AO []) (l:= [(148, .pu Ih),(221, .pu Fk)]) (C:=Ag) (by kernel_rfl) AI ⟨RU,Jl,trivial⟩ (fn:=Tryz.f222) (by kernel_rfl) rfl (by kernel_rfl) (by decide) (by kernel_rfl) (F:=λk x=>Dl.f k x.1) (m:=TP) (λk x=>rfl)
  (by exact trivial)
  (λk ⟨(a0:Int),_⟩=>by show Ad TP (Dl.f k a0) _;unfold Dl.f;exact go)
end
section
attribute [local irreducible] A9.f Bq.f
def Jw:AT:=⟨[.int .u64],[.int .u64],λ_ x=>(EK.f x.1).map λr=>(r,())⟩
def TR (r:Int):TT Jw.rs:=(r,())
theorem S9:DT Tryz.prog 142 Jw :=
 Ac (Bt:=AO []) (l:= [(205, .pu C2),(206, .pu ER)]) (C:=Ag) (by kernel_rfl) AI ⟨Dh,Fu,trivial⟩ (fn:=Tryz.f142) (by kernel_rfl) rfl (by kernel_rfl) (by decide) (by kernel_rfl) (F:=λk x=>EK.f x.1) (m:=TR) (λk x=>rfl)
  (by exact trivial)
  (λk ⟨(a0:Int),_⟩=>by show Ad TR (EK.f a0) _;unfold EK.f;exact go)
end
section
attribute [local irreducible] EK.f Ax.f At.f
def PL:AT:=⟨[.int .u64, .int .i64],[.int .u64],λk x=>(II.f k x.1 x.2.1).map λr=>(r,())⟩
def WH (r:Int):TT PL.rs:=(r,())
theorem lW:DT Tryz.prog 223 PL :=
 Ac (Bt:=AO []) (l:= [(142, .pu Jw),(215, .pu Di),(216, .pu Dg)]) (C:=Ag) (by kernel_rfl) AI ⟨S9,FN,FL,trivial⟩ (fn:=Tryz.f223) (by kernel_rfl) rfl (by kernel_rfl) (by decide) (by kernel_rfl) (F:=λk x=>II.f k x.1 x.2.1) (m:=WH) (λk x=>rfl)
  (by exact trivial)
  (λk ⟨(a0:Int),(a1:Int),_⟩=>by show Ad WH (II.f k a0 a1) _;unfold II.f;exact go)
end
section
attribute [local irreducible] BK.f GG.f Ae.f Du.f A9.f Bq.f CH.f Br.f CY.f Dl.f II.f
def K8:AT:=⟨[.int .u64],[.int .u64],λk x=>(BW.f k x.1).map λr=>(r,())⟩
def HX (r:Int):TT K8.rs:=(r,())
@[reducible] def NA:List Slot:= [.tmp 3 [.ty (.int .i64)], .tmp 6 [.ty (.int .u64)], .tmp 7 [.Hg 7], .arr 7 202 (.int .i64), .tmp 9 [.ty (.int .u64)], .tmp 10 [.ty (.int .i64)]]
def TU (k:Nat) (x:TS NA):Option (Int):=BW.l1 k x.1.1 x.2.1.1 x.2.2.2.1 x.2.2.2.2.1.1 x.2.2.2.2.2.1.1
@[reducible] def NB:List Slot:= [.tmp 3 [.ty (.int .i64)], .tmp 6 [.ty (.int .u64)], .tmp 7 [.Hg 7], .arr 7 202 (.int .i64), .tmp 39 [.ty (.int .i64)]]
def TV (k:Nat) (x:TS NB):Option (Int):=BW.l0 k x.1.1 x.2.1.1 x.2.2.2.1 x.2.2.2.2.1.1
def lY:Bu (TT K8.rs):=⟨⟨70,70,[]⟩,AH [(1,⟨NA,λk x=>(TU k x).map HX⟩),(0,⟨NB,λk x=>(TV k x).map HX⟩)],AH [],AH []⟩
theorem lZ:DT Tryz.prog 150 K8 :=
 Ac (Bt:=AO [(20,[0,0,3,0,8,24,63,127,255])]) (l:= [(145, .pu IN),(146, .pu Lc),(147, .pu Ig),(180, .pu KM),(205, .pu C2),(206, .pu ER),(209, .pu EN),(220, .pu Mh),(221, .pu Fk),(222, .pu J1),(223, .pu PL)]) (C:=lY) (by kernel_rfl) AI ⟨O9,UM,RS,RV,Dh,Fu,Ft,qQ,Jl,TQ,lW,trivial⟩ (fn:=Tryz.f150) (by kernel_rfl) rfl (by kernel_rfl) (by decide) (by kernel_rfl) (F:=λk x=>BW.f k x.1) (m:=HX) (λk x=>rfl)
  (by
   refine And.intro ?_ ?_
   ·refine A8 (sl:=NB) (F:=TV) (λx=>rfl) λk ⟨⟨(e:Int),_⟩,⟨(r:Int),_⟩,_,(fs:List Int),⟨(i:Int),_⟩,_⟩=> ?_
    show Ad HX (BW.l0 (k+1) e r fs i) _;rw[BW.l0];exact go
   refine And.intro ?_ ?_
   ·refine A8 (sl:=NA) (F:=TU) (λx=>rfl) λk ⟨⟨(e:Int),_⟩,⟨(r:Int),_⟩,_,(fs:List Int),⟨(p:Int),_⟩,⟨(i:Int),_⟩,_⟩=> ?_
    show Ad HX (BW.l1 (k+1) e r fs p i) _;rw[BW.l1];exact go
   exact trivial)
  (λk ⟨(a0:Int),_⟩=>by show Ad HX (BW.f k a0) _;unfold BW.f;exact go)
end
section
attribute [local irreducible] Du.f BC.f Ax.f BA.f
def Le:AT:=⟨[.int .u64],[.int .u64, .int .i64],λk x=>(F4.f k x.1).map λr=>(r.1,r.2,())⟩
def RW (r:Int × Int):TT Le.rs:=(r.1,r.2,())
theorem c9:DT Tryz.prog 224 Le :=
 Ac (Bt:=AO []) (l:= [(180, .pu KM),(195, .pu EA),(215, .pu Di),(251, .pu JB)]) (C:=Ag) (by kernel_rfl) AI ⟨RV,F8,FN,O8,trivial⟩ (fn:=Tryz.f224) (by kernel_rfl) rfl (by kernel_rfl) (by decide) (by kernel_rfl) (F:=λk x=>F4.f k x.1) (m:=RW) (λk x=>rfl)
  (by exact trivial)
  (λk ⟨(a0:Int),_⟩=>by show Ad RW (F4.f k a0) _;unfold F4.f;exact go)
end
section
attribute [local irreducible] BK.f GG.f Ae.f BP.f A9.f Bq.f CH.f CG.f CY.f Dl.f F4.f
def K9:AT:=⟨[.int .u64],[.int .u64],λk x=>(Be.f k x.1).map λr=>(r,())⟩
def HY (r:Int):TT K9.rs:=(r,())
@[reducible] def NC:List Slot:= [.tmp 0 [.ty (.int .u64)], .tmp 3 [.ty (.int .i64)], .tmp 20 [.ty .bool]]
def TW (k:Nat) (x:TS NC):Option (Int):=Be.j0 k x.1.1 x.2.1.1 x.2.2.1.1
@[reducible] def ND:List Slot:= [.tmp 5 [.ty (.int .i64)], .tmp 7 [.ty (.int .u64)], .tmp 8 [.ty (.int .u64)], .tmp 9 [.ty (.int .u64)], .tmp 10 [.ty (.int .i64)]]
def TX (k:Nat) (x:TS ND):Option (Int):=Be.l0 k x.1.1 x.2.1.1 x.2.2.1.1 x.2.2.2.1.1 x.2.2.2.2.1.1
def lf:Bu (TT K9.rs):=⟨⟨81,81,[]⟩,AH [(0,⟨ND,λk x=>(TX k x).map HY⟩)],AH [],AH [(4,⟨NC,λk x=>(TW k x).map HY⟩)]⟩
theorem l5:DT Tryz.prog 151 K9 :=
 Ac (Bt:=AO []) (l:= [(145, .pu IN),(146, .pu Lc),(147, .pu Ig),(148, .pu Ih),(205, .pu C2),(206, .pu ER),(209, .pu EN),(214, .pu Fv),(221, .pu Fk),(222, .pu J1),(224, .pu Le)]) (C:=lf) (by kernel_rfl) AI ⟨O9,UM,RS,RU,Dh,Fu,Ft,Ie,Jl,TQ,c9,trivial⟩ (fn:=Tryz.f151) (by kernel_rfl) rfl (by kernel_rfl) (by decide) (by kernel_rfl) (F:=λk x=>Be.f k x.1) (m:=HY) (λk x=>rfl)
  (by
   refine And.intro ?_ ?_
   ·refine B4 (sl:=NC) (F:=TW) (λx=>rfl) λk ⟨⟨(x0:Int),_⟩,⟨(x3:Int),_⟩,⟨(Xm:Bool),_⟩,_⟩=> ?_
    show Ad HY (Be.j0 (k+1) x0 x3 Xm) _;rw[Be.j0];exact go
   refine And.intro ?_ ?_
   ·refine A8 (sl:=ND) (F:=TX) (λx=>rfl) λk ⟨⟨(x5:Int),_⟩,⟨(x7:Int),_⟩,⟨(x8:Int),_⟩,⟨(x9:Int),_⟩,⟨(LB:Int),_⟩,_⟩=> ?_
    show Ad HY (Be.l0 (k+1) x5 x7 x8 x9 LB) _;rw[Be.l0];exact go
   exact trivial)
  (λk ⟨(a0:Int),_⟩=>by show Ad HY (Be.f k a0) _;unfold Be.f;exact go)
end
section
attribute [local irreducible] FB.f BK.f GG.f Ae.f BP.f B6.f BW.f Be.f
def NG:AT:=⟨[.int .i64, .int .u64, .int .u64],[.int .u64],λk x=>(Gn.f k x.1 x.2.1 x.2.2.1).map λr=>(r,())⟩
def TY (r:Int):TT NG.rs:=(r,())
theorem eO:DT Tryz.prog 242 NG :=
 Ac (Bt:=AO []) (l:= [(144, .pu K3),(145, .pu IN),(146, .pu Lc),(147, .pu Ig),(148, .pu Ih),(149, .pu K6),(150, .pu K8),(151, .pu K9)]) (C:=Ag) (by kernel_rfl) AI ⟨V6,O9,UM,RS,RU,lU,lZ,l5,trivial⟩ (fn:=Tryz.f242) (by kernel_rfl) rfl (by kernel_rfl) (by decide) (by kernel_rfl) (F:=λk x=>Gn.f k x.1 x.2.1 x.2.2.1) (m:=TY) (λk x=>rfl)
  (by exact trivial)
  (λk ⟨(a0:Int),(a1:Int),(a2:Int),_⟩=>by show Ad TY (Gn.f k a0 a1 a2) _;unfold Gn.f;exact go)
end
section
attribute [local irreducible] BL.f Bj.f Bs.f DS.f Gn.f
def CA:Dj:=⟨[.st 135 [.ty (.int .i64), .ty (.int .i64), .row false 93 (.cons (.int .i64) (.cons (.int .i64) (.cons (.int .i64) (.cons .bool (.cons (.row 73 (.int .u64)) (.row 73 (.int .u64))))))), .ty (.row 4 .bool), .row false 4 .bool, .ty (.int .i64), .ty (.int .i64), .ty .bool, .ty (.int .i64)], .ty (.int .i64), .ty (.cons (.cons .bool (.cons (.row 73 (.int .u64)) (.row 73 (.int .u64)))) (.cons (.int .u64) (.int .i64))), .ty (.cons (.cons .bool (.cons (.row 73 (.int .u64)) (.row 73 (.int .u64)))) (.cons (.int .u64) (.int .i64))), .ty .bool],[(.cons (.cons .bool (.cons (.row 73 (.int .u64)) (.row 73 (.int .u64)))) (.cons (.int .u64) (.int .i64)))],λk x=>(AL.f k x.1.1 x.1.2.1 x.1.2.2.1 x.1.2.2.2.1 x.1.2.2.2.2.1 x.1.2.2.2.2.2.1 x.1.2.2.2.2.2.2.1 x.1.2.2.2.2.2.2.2.1 x.1.2.2.2.2.2.2.2.2.1 x.2.1 x.2.2.1.1.1 x.2.2.1.1.2.1 x.2.2.1.1.2.2 x.2.2.1.2.1 x.2.2.1.2.2 x.2.2.2.1.1.1 x.2.2.2.1.1.2.1 x.2.2.2.1.1.2.2 x.2.2.2.1.2.1 x.2.2.2.1.2.2 x.2.2.2.2.1).map λr=>((((r.1,(r.2.1,r.2.2.1)),(r.2.2.2.1,r.2.2.2.2.1)),()),((r.2.2.2.2.2.1,r.2.2.2.2.2.2.1,r.2.2.2.2.2.2.2.1,r.2.2.2.2.2.2.2.2.1,r.2.2.2.2.2.2.2.2.2.1,r.2.2.2.2.2.2.2.2.2.2.1,r.2.2.2.2.2.2.2.2.2.2.2.1,r.2.2.2.2.2.2.2.2.2.2.2.2.1,r.2.2.2.2.2.2.2.2.2.2.2.2.2,()),()))⟩
def Dp (r:Bool × List Int × List Int × Int × Int × Int × Int × List (Int × Int × Int × Bool × (List Int) × List Int) × List Bool × List Bool × Int × Int × Bool × Int):TT CA.rs × ET CA.ps:=((((r.1,(r.2.1,r.2.2.1)),(r.2.2.2.1,r.2.2.2.2.1)),()),((r.2.2.2.2.2.1,r.2.2.2.2.2.2.1,r.2.2.2.2.2.2.2.1,r.2.2.2.2.2.2.2.2.1,r.2.2.2.2.2.2.2.2.2.1,r.2.2.2.2.2.2.2.2.2.2.1,r.2.2.2.2.2.2.2.2.2.2.2.1,r.2.2.2.2.2.2.2.2.2.2.2.2.1,r.2.2.2.2.2.2.2.2.2.2.2.2.2,()),()))
@[reducible] def KY:List Slot:= [.tmp 0 [.ptr 84 0], .tmp 10 [.ptr 10 0], .tmp 11 [.ptr 11 0], .C4 10 .mine 137 [.ty .bool, .own .mine 97 73 (.int .u64), .own .mine 98 73 (.int .u64), .ty (.int .u64), .ty (.int .i64)], .C4 11 .mine 137 [.ty .bool, .ty (.row 73 (.int .u64)), .ty (.row 73 (.int .u64)), .ty (.int .u64), .ty (.int .i64)], .C4 84 .kept 135 [.ty (.int .i64), .ty (.int .i64), .own .FZ 99 93 (.cons (.int .i64) (.cons (.int .i64) (.cons (.int .i64) (.cons .bool (.cons (.row 73 (.int .u64)) (.row 73 (.int .u64))))))), .ty (.row 4 .bool), .own .FZ 100 4 .bool, .ty (.int .i64), .ty (.int .i64), .ty .bool, .ty (.int .i64)]]
def Pm (k:Nat) (x:TS KY):Option (Bool × List Int × List Int × Int × Int × Int × Int × List (Int × Int × Int × Bool × (List Int) × List Int) × List Bool × List Bool × Int × Int × Bool × Int):=AL.uz k x.2.2.2.1.1 x.2.2.2.1.2.1 x.2.2.2.1.2.2.1 x.2.2.2.1.2.2.2.1 x.2.2.2.1.2.2.2.2.1 x.2.2.2.2.1.1 x.2.2.2.2.1.2.1 x.2.2.2.2.1.2.2.1 x.2.2.2.2.1.2.2.2.1 x.2.2.2.2.1.2.2.2.2.1 x.2.2.2.2.2.1.1 x.2.2.2.2.2.1.2.1 x.2.2.2.2.2.1.2.2.1 x.2.2.2.2.2.1.2.2.2.1 x.2.2.2.2.2.1.2.2.2.2.1 x.2.2.2.2.2.1.2.2.2.2.2.1 x.2.2.2.2.2.1.2.2.2.2.2.2.1 x.2.2.2.2.2.1.2.2.2.2.2.2.2.1 x.2.2.2.2.2.1.2.2.2.2.2.2.2.2.1
@[reducible] def KZ:List Slot:= [.tmp 0 [.ptr 84 0], .tmp 1 [.ty (.int .i64)], .tmp 4 [.ty .bool], .tmp 7 [.ptr 7 0], .tmp 8 [.ptr 8 0], .tmp 10 [.ptr 10 0], .tmp 11 [.ptr 11 0], .C4 7 .mine 137 [.ty .bool, .ty (.row 73 (.int .u64)), .ty (.row 73 (.int .u64)), .ty (.int .u64), .ty (.int .i64)], .C4 8 .mine 137 [.ty .bool, .ty (.row 73 (.int .u64)), .ty (.row 73 (.int .u64)), .ty (.int .u64), .ty (.int .i64)], .C4 10 .mine 137 [.ty .bool, .own .mine 97 73 (.int .u64), .own .mine 98 73 (.int .u64), .ty (.int .u64), .ty (.int .i64)], .C4 11 .mine 137 [.ty .bool, .own .mine 99 73 (.int .u64), .own .mine 100 73 (.int .u64), .ty (.int .u64), .ty (.int .i64)], .C4 84 .kept 135 [.ty (.int .i64), .ty (.int .i64), .own .FZ 101 93 (.cons (.int .i64) (.cons (.int .i64) (.cons (.int .i64) (.cons .bool (.cons (.row 73 (.int .u64)) (.row 73 (.int .u64))))))), .ty (.row 4 .bool), .own .FZ 102 4 .bool, .ty (.int .i64), .ty (.int .i64), .ty .bool, .ty (.int .i64)]]
def Pn (k:Nat) (x:TS KZ):Option (Bool × List Int × List Int × Int × Int × Int × Int × List (Int × Int × Int × Bool × (List Int) × List Int) × List Bool × List Bool × Int × Int × Bool × Int):=AL.j7 k x.2.1.1 x.2.2.1.1 x.2.2.2.2.2.2.2.1.1 x.2.2.2.2.2.2.2.1.2.1 x.2.2.2.2.2.2.2.1.2.2.1 x.2.2.2.2.2.2.2.1.2.2.2.1 x.2.2.2.2.2.2.2.1.2.2.2.2.1 x.2.2.2.2.2.2.2.2.1.1 x.2.2.2.2.2.2.2.2.1.2.1 x.2.2.2.2.2.2.2.2.1.2.2.1 x.2.2.2.2.2.2.2.2.1.2.2.2.1 x.2.2.2.2.2.2.2.2.1.2.2.2.2.1 x.2.2.2.2.2.2.2.2.2.1.1 x.2.2.2.2.2.2.2.2.2.1.2.1 x.2.2.2.2.2.2.2.2.2.1.2.2.1 x.2.2.2.2.2.2.2.2.2.1.2.2.2.1 x.2.2.2.2.2.2.2.2.2.1.2.2.2.2.1 x.2.2.2.2.2.2.2.2.2.2.1.1 x.2.2.2.2.2.2.2.2.2.2.1.2.1 x.2.2.2.2.2.2.2.2.2.2.1.2.2.1 x.2.2.2.2.2.2.2.2.2.2.1.2.2.2.1 x.2.2.2.2.2.2.2.2.2.2.1.2.2.2.2.1 x.2.2.2.2.2.2.2.2.2.2.2.1.1 x.2.2.2.2.2.2.2.2.2.2.2.1.2.1 x.2.2.2.2.2.2.2.2.2.2.2.1.2.2.1 x.2.2.2.2.2.2.2.2.2.2.2.1.2.2.2.1 x.2.2.2.2.2.2.2.2.2.2.2.1.2.2.2.2.1 x.2.2.2.2.2.2.2.2.2.2.2.1.2.2.2.2.2.1 x.2.2.2.2.2.2.2.2.2.2.2.1.2.2.2.2.2.2.1 x.2.2.2.2.2.2.2.2.2.2.2.1.2.2.2.2.2.2.2.1 x.2.2.2.2.2.2.2.2.2.2.2.1.2.2.2.2.2.2.2.2.1
@[reducible] def Ka:List Slot:= [.tmp 0 [.ptr 84 0], .tmp 10 [.ptr 10 0], .tmp 11 [.ptr 11 0], .tmp 12 [.ptr 12 0], .C4 10 .mine 137 [.ty .bool, .own .mine 97 73 (.int .u64), .own .mine 98 73 (.int .u64), .ty (.int .u64), .ty (.int .i64)], .C4 11 .mine 137 [.ty .bool, .own .mine 99 73 (.int .u64), .own .mine 100 73 (.int .u64), .ty (.int .u64), .ty (.int .i64)], .C4 12 .mine 93 [.ty (.int .i64), .ty (.int .i64), .ty (.int .i64), .ty .bool, .own .mine 101 73 (.int .u64), .own .mine 102 73 (.int .u64)], .C4 84 .kept 135 [.ty (.int .i64), .ty (.int .i64), .own .FZ 103 93 (.cons (.int .i64) (.cons (.int .i64) (.cons (.int .i64) (.cons .bool (.cons (.row 73 (.int .u64)) (.row 73 (.int .u64))))))), .ty (.row 4 .bool), .own .FZ 104 4 .bool, .ty (.int .i64), .ty (.int .i64), .ty .bool, .ty (.int .i64)]]
def Po (k:Nat) (x:TS Ka):Option (Bool × List Int × List Int × Int × Int × Int × Int × List (Int × Int × Int × Bool × (List Int) × List Int) × List Bool × List Bool × Int × Int × Bool × Int):=AL.j10 k x.2.2.2.2.1.1 x.2.2.2.2.1.2.1 x.2.2.2.2.1.2.2.1 x.2.2.2.2.1.2.2.2.1 x.2.2.2.2.1.2.2.2.2.1 x.2.2.2.2.2.1.1 x.2.2.2.2.2.1.2.1 x.2.2.2.2.2.1.2.2.1 x.2.2.2.2.2.1.2.2.2.1 x.2.2.2.2.2.1.2.2.2.2.1 x.2.2.2.2.2.2.1.1 x.2.2.2.2.2.2.1.2.1 x.2.2.2.2.2.2.1.2.2.1 x.2.2.2.2.2.2.1.2.2.2.1 x.2.2.2.2.2.2.1.2.2.2.2.1 x.2.2.2.2.2.2.1.2.2.2.2.2.1 x.2.2.2.2.2.2.2.1.1 x.2.2.2.2.2.2.2.1.2.1 x.2.2.2.2.2.2.2.1.2.2.1 x.2.2.2.2.2.2.2.1.2.2.2.1 x.2.2.2.2.2.2.2.1.2.2.2.2.1 x.2.2.2.2.2.2.2.1.2.2.2.2.2.1 x.2.2.2.2.2.2.2.1.2.2.2.2.2.2.1 x.2.2.2.2.2.2.2.1.2.2.2.2.2.2.2.1 x.2.2.2.2.2.2.2.1.2.2.2.2.2.2.2.2.1
def dA:Bu (TT CA.rs × ET CA.ps):=⟨⟨84,105,[84]⟩,AH [],AH [(15,⟨KY,λk x=>(Pm k x).map Dp⟩),(7,⟨KZ,λk x=>(Pn k x).map Dp⟩),(10,⟨Ka,λk x=>(Po k x).map Dp⟩)],AH []⟩
theorem Dn:Tj Tryz.prog 171 CA :=
 Ez (Bt:=AO []) (l:= [(168, .io CR [(14,87)]),(170, .io Cv [(50,95)]),(181, .io DM [(29,91),(36,93)]),(241, .io Dy [(59,89)]),(242, .pu NG)]) (C:=dA) (by kernel_rfl) AI ⟨Gg,I7,MY,V2,eO,trivial⟩ (fn:=Tryz.f171) (by kernel_rfl) rfl (by kernel_rfl) (by decide) (by kernel_rfl) (m:=105) (by decide) (by decide) (F:=λk x=>AL.f k x.1.1 x.1.2.1 x.1.2.2.1 x.1.2.2.2.1 x.1.2.2.2.2.1 x.1.2.2.2.2.2.1 x.1.2.2.2.2.2.2.1 x.1.2.2.2.2.2.2.2.1 x.1.2.2.2.2.2.2.2.2.1 x.2.1 x.2.2.1.1.1 x.2.2.1.1.2.1 x.2.2.1.1.2.2 x.2.2.1.2.1 x.2.2.1.2.2 x.2.2.2.1.1.1 x.2.2.2.1.1.2.1 x.2.2.2.1.1.2.2 x.2.2.2.1.2.1 x.2.2.2.1.2.2 x.2.2.2.2.1) (q:=Dp) (λk x=>rfl)
  (by
   refine And.intro ?_ ?_
   ·refine B4 (sl:=KZ) (F:=Pn) (λx=>rfl) λk ⟨_,⟨(x1:Int),_⟩,⟨(x4:Bool),_⟩,_,_,_,_,⟨(AIW:Bool),(AIX:List Int),(AIY:List Int),(AIZ:Int),(ADJ:Int),_⟩,⟨(AIa:Bool),(AIb:List Int),(AIc:List Int),(AId:Int),(AFy:Int),_⟩,⟨(Fq:Bool),(GI:List Int),(Qf:List Int),(Qg:Int),(Qh:Int),_⟩,⟨(Qi:Bool),(Qj:List Int),(Qk:List Int),(Ql:Int),(Qm:Int),_⟩,⟨(NP:Int),(NQ:Int),(NR:List (Int × Int × Int × Bool × (List Int) × List Int)),(NS:List Bool),(NU:List Bool),(NV:Int),(NW:Int),(NY:Bool),(MJ:Int),_⟩,_⟩=> ?_
    show Ad Dp (AL.j7 (k+1) x1 x4 AIW AIX AIY AIZ ADJ AIa AIb AIc AId AFy Fq GI Qf Qg Qh Qi Qj Qk Ql Qm NP NQ NR NS NU NV NW NY MJ) _;rw[AL.j7];exact go
   refine And.intro ?_ ?_
   ·refine B4 (sl:=Ka) (F:=Po) (λx=>rfl) λk ⟨_,_,_,_,⟨(Fq:Bool),(GI:List Int),(Qf:List Int),(Qg:Int),(Qh:Int),_⟩,⟨(Qi:Bool),(Qj:List Int),(Qk:List Int),(Ql:Int),(Qm:Int),_⟩,⟨(Xg:Int),(Xh:Int),(Xi:Int),(Xj:Bool),(Xk:List Int),(Xl:List Int),_⟩,⟨(NP:Int),(NQ:Int),(NR:List (Int × Int × Int × Bool × (List Int) × List Int)),(NS:List Bool),(NU:List Bool),(NV:Int),(NW:Int),(NY:Bool),(MJ:Int),_⟩,_⟩=> ?_
    show Ad Dp (AL.j10 (k+1) Fq GI Qf Qg Qh Qi Qj Qk Ql Qm Xg Xh Xi Xj Xk Xl NP NQ NR NS NU NV NW NY MJ) _;rw[AL.j10];exact go
   refine And.intro ?_ ?_
   ·refine B4 (sl:=KY) (F:=Pm) (λx=>rfl) λk ⟨_,_,_,⟨(Fq:Bool),(GI:List Int),(Qf:List Int),(Qg:Int),(Qh:Int),_⟩,⟨(Qi:Bool),(Qj:List Int),(Qk:List Int),(Ql:Int),(Qm:Int),_⟩,⟨(NP:Int),(NQ:Int),(NR:List (Int × Int × Int × Bool × (List Int) × List Int)),(NS:List Bool),(NU:List Bool),(NV:Int),(NW:Int),(NY:Bool),(MJ:Int),_⟩,_⟩=> ?_
    show Ad Dp (AL.uz (k+1) Fq GI Qf Qg Qh Qi Qj Qk Ql Qm NP NQ NR NS NU NV NW NY MJ) _;rw[AL.uz];exact go
   exact trivial)
  (λk ⟨⟨Af,Al,Ai,Ar,Ao,Ap,Au,Aw,Av,_⟩,(a1:Int),(a2:(Bool × (List Int) × List Int) × Int × Int),(a3:(Bool × (List Int) × List Int) × Int × Int),(a4:Bool),_⟩=>by show Ad Dp (AL.f k Af Al Ai Ar Ao Ap Au Aw Av a1 a2.1.1 a2.1.2.1 a2.1.2.2 a2.2.1 a2.2.2 a3.1.1 a3.1.2.1 a3.1.2.2 a3.2.1 a3.2.2 a4) _;unfold AL.f;exact go)
end
section
attribute [local irreducible] AL.f
def D9:Dj:=⟨[.st 135 [.ty (.int .i64), .ty (.int .i64), .row false 93 (.cons (.int .i64) (.cons (.int .i64) (.cons (.int .i64) (.cons .bool (.cons (.row 73 (.int .u64)) (.row 73 (.int .u64))))))), .ty (.row 4 .bool), .row false 4 .bool, .ty (.int .i64), .ty (.int .i64), .ty .bool, .ty (.int .i64)], .ty (.cons (.cons .bool (.cons (.row 73 (.int .u64)) (.row 73 (.int .u64)))) (.cons (.int .u64) (.int .i64))), .ty (.cons (.cons .bool (.cons (.row 73 (.int .u64)) (.row 73 (.int .u64)))) (.cons (.int .u64) (.int .i64)))],[(.cons (.cons .bool (.cons (.row 73 (.int .u64)) (.row 73 (.int .u64)))) (.cons (.int .u64) (.int .i64)))],λk x=>(De.f k x.1.1 x.1.2.1 x.1.2.2.1 x.1.2.2.2.1 x.1.2.2.2.2.1 x.1.2.2.2.2.2.1 x.1.2.2.2.2.2.2.1 x.1.2.2.2.2.2.2.2.1 x.1.2.2.2.2.2.2.2.2.1 x.2.1.1.1 x.2.1.1.2.1 x.2.1.1.2.2 x.2.1.2.1 x.2.1.2.2 x.2.2.1.1.1 x.2.2.1.1.2.1 x.2.2.1.1.2.2 x.2.2.1.2.1 x.2.2.1.2.2).map λr=>((((r.1,(r.2.1,r.2.2.1)),(r.2.2.2.1,r.2.2.2.2.1)),()),((r.2.2.2.2.2.1,r.2.2.2.2.2.2.1,r.2.2.2.2.2.2.2.1,r.2.2.2.2.2.2.2.2.1,r.2.2.2.2.2.2.2.2.2.1,r.2.2.2.2.2.2.2.2.2.2.1,r.2.2.2.2.2.2.2.2.2.2.2.1,r.2.2.2.2.2.2.2.2.2.2.2.2.1,r.2.2.2.2.2.2.2.2.2.2.2.2.2,()),()))⟩
def Pp (r:Bool × List Int × List Int × Int × Int × Int × Int × List (Int × Int × Int × Bool × (List Int) × List Int) × List Bool × List Bool × Int × Int × Bool × Int):TT D9.rs × ET D9.ps:=((((r.1,(r.2.1,r.2.2.1)),(r.2.2.2.1,r.2.2.2.2.1)),()),((r.2.2.2.2.2.1,r.2.2.2.2.2.2.1,r.2.2.2.2.2.2.2.1,r.2.2.2.2.2.2.2.2.1,r.2.2.2.2.2.2.2.2.2.1,r.2.2.2.2.2.2.2.2.2.2.1,r.2.2.2.2.2.2.2.2.2.2.2.1,r.2.2.2.2.2.2.2.2.2.2.2.2.1,r.2.2.2.2.2.2.2.2.2.2.2.2.2,()),()))
def Yz:Bu (TT D9.rs × ET D9.ps):=⟨⟨11,16,[11]⟩,AH [],AH [],AH []⟩
theorem Pj:Tj Tryz.prog 97 D9 :=
 Ez (Bt:=AO []) (l:= [(171, .io CA [(10,14)])]) (C:=Yz) (by kernel_rfl) AI ⟨Dn,trivial⟩ (fn:=Tryz.f97) (by kernel_rfl) rfl (by kernel_rfl) (by decide) (by kernel_rfl) (m:=16) (by decide) (by decide) (F:=λk x=>De.f k x.1.1 x.1.2.1 x.1.2.2.1 x.1.2.2.2.1 x.1.2.2.2.2.1 x.1.2.2.2.2.2.1 x.1.2.2.2.2.2.2.1 x.1.2.2.2.2.2.2.2.1 x.1.2.2.2.2.2.2.2.2.1 x.2.1.1.1 x.2.1.1.2.1 x.2.1.1.2.2 x.2.1.2.1 x.2.1.2.2 x.2.2.1.1.1 x.2.2.1.1.2.1 x.2.2.1.1.2.2 x.2.2.1.2.1 x.2.2.1.2.2) (q:=Pp) (λk x=>rfl)
  (by exact trivial)
  (λk ⟨⟨Af,Al,Ai,Ar,Ao,Ap,Au,Aw,Av,_⟩,(a1:(Bool × (List Int) × List Int) × Int × Int),(a2:(Bool × (List Int) × List Int) × Int × Int),_⟩=>by show Ad Pp (De.f k Af Al Ai Ar Ao Ap Au Aw Av a1.1.1 a1.1.2.1 a1.1.2.2 a1.2.1 a1.2.2 a2.1.1 a2.1.2.1 a2.1.2.2 a2.2.1 a2.2.2) _;unfold De.f;exact go)
end
section
attribute [local irreducible] AL.f
def Eu:Dj:=⟨[.st 135 [.ty (.int .i64), .ty (.int .i64), .row false 93 (.cons (.int .i64) (.cons (.int .i64) (.cons (.int .i64) (.cons .bool (.cons (.row 73 (.int .u64)) (.row 73 (.int .u64))))))), .ty (.row 4 .bool), .row false 4 .bool, .ty (.int .i64), .ty (.int .i64), .ty .bool, .ty (.int .i64)], .ty (.cons (.cons .bool (.cons (.row 73 (.int .u64)) (.row 73 (.int .u64)))) (.cons (.int .u64) (.int .i64))), .ty (.cons (.cons .bool (.cons (.row 73 (.int .u64)) (.row 73 (.int .u64)))) (.cons (.int .u64) (.int .i64)))],[(.cons (.cons .bool (.cons (.row 73 (.int .u64)) (.row 73 (.int .u64)))) (.cons (.int .u64) (.int .i64)))],λk x=>(GO.f k x.1.1 x.1.2.1 x.1.2.2.1 x.1.2.2.2.1 x.1.2.2.2.2.1 x.1.2.2.2.2.2.1 x.1.2.2.2.2.2.2.1 x.1.2.2.2.2.2.2.2.1 x.1.2.2.2.2.2.2.2.2.1 x.2.1.1.1 x.2.1.1.2.1 x.2.1.1.2.2 x.2.1.2.1 x.2.1.2.2 x.2.2.1.1.1 x.2.2.1.1.2.1 x.2.2.1.1.2.2 x.2.2.1.2.1 x.2.2.1.2.2).map λr=>((((r.1,(r.2.1,r.2.2.1)),(r.2.2.2.1,r.2.2.2.2.1)),()),((r.2.2.2.2.2.1,r.2.2.2.2.2.2.1,r.2.2.2.2.2.2.2.1,r.2.2.2.2.2.2.2.2.1,r.2.2.2.2.2.2.2.2.2.1,r.2.2.2.2.2.2.2.2.2.2.1,r.2.2.2.2.2.2.2.2.2.2.2.1,r.2.2.2.2.2.2.2.2.2.2.2.2.1,r.2.2.2.2.2.2.2.2.2.2.2.2.2,()),()))⟩
def Pq (r:Bool × List Int × List Int × Int × Int × Int × Int × List (Int × Int × Int × Bool × (List Int) × List Int) × List Bool × List Bool × Int × Int × Bool × Int):TT Eu.rs × ET Eu.ps:=((((r.1,(r.2.1,r.2.2.1)),(r.2.2.2.1,r.2.2.2.2.1)),()),((r.2.2.2.2.2.1,r.2.2.2.2.2.2.1,r.2.2.2.2.2.2.2.1,r.2.2.2.2.2.2.2.2.1,r.2.2.2.2.2.2.2.2.2.1,r.2.2.2.2.2.2.2.2.2.2.1,r.2.2.2.2.2.2.2.2.2.2.2.1,r.2.2.2.2.2.2.2.2.2.2.2.2.1,r.2.2.2.2.2.2.2.2.2.2.2.2.2,()),()))
def Y0:Bu (TT Eu.rs × ET Eu.ps):=⟨⟨11,16,[11]⟩,AH [],AH [],AH []⟩
theorem Yx:Tj Tryz.prog 174 Eu :=
 Ez (Bt:=AO []) (l:= [(171, .io CA [(10,14)])]) (C:=Y0) (by kernel_rfl) AI ⟨Dn,trivial⟩ (fn:=Tryz.f174) (by kernel_rfl) rfl (by kernel_rfl) (by decide) (by kernel_rfl) (m:=16) (by decide) (by decide) (F:=λk x=>GO.f k x.1.1 x.1.2.1 x.1.2.2.1 x.1.2.2.2.1 x.1.2.2.2.2.1 x.1.2.2.2.2.2.1 x.1.2.2.2.2.2.2.1 x.1.2.2.2.2.2.2.2.1 x.1.2.2.2.2.2.2.2.2.1 x.2.1.1.1 x.2.1.1.2.1 x.2.1.1.2.2 x.2.1.2.1 x.2.1.2.2 x.2.2.1.1.1 x.2.2.1.1.2.1 x.2.2.1.1.2.2 x.2.2.1.2.1 x.2.2.1.2.2) (q:=Pq) (λk x=>rfl)
  (by exact trivial)
  (λk ⟨⟨Af,Al,Ai,Ar,Ao,Ap,Au,Aw,Av,_⟩,(a1:(Bool × (List Int) × List Int) × Int × Int),(a2:(Bool × (List Int) × List Int) × Int × Int),_⟩=>by show Ad Pq (GO.f k Af Al Ai Ar Ao Ap Au Aw Av a1.1.1 a1.1.2.1 a1.1.2.2 a1.2.1 a1.2.2 a2.1.1 a2.1.2.1 a2.1.2.2 a2.2.1 a2.2.2) _;unfold GO.f;exact go)
end
section
attribute [local irreducible] AL.f
def Ew:Dj:=⟨[.st 135 [.ty (.int .i64), .ty (.int .i64), .row false 93 (.cons (.int .i64) (.cons (.int .i64) (.cons (.int .i64) (.cons .bool (.cons (.row 73 (.int .u64)) (.row 73 (.int .u64))))))), .ty (.row 4 .bool), .row false 4 .bool, .ty (.int .i64), .ty (.int .i64), .ty .bool, .ty (.int .i64)], .ty (.cons (.cons .bool (.cons (.row 73 (.int .u64)) (.row 73 (.int .u64)))) (.cons (.int .u64) (.int .i64)))],[(.cons (.cons .bool (.cons (.row 73 (.int .u64)) (.row 73 (.int .u64)))) (.cons (.int .u64) (.int .i64)))],λk x=>(GQ.f k x.1.1 x.1.2.1 x.1.2.2.1 x.1.2.2.2.1 x.1.2.2.2.2.1 x.1.2.2.2.2.2.1 x.1.2.2.2.2.2.2.1 x.1.2.2.2.2.2.2.2.1 x.1.2.2.2.2.2.2.2.2.1 x.2.1.1.1 x.2.1.1.2.1 x.2.1.1.2.2 x.2.1.2.1 x.2.1.2.2).map λr=>((((r.1,(r.2.1,r.2.2.1)),(r.2.2.2.1,r.2.2.2.2.1)),()),((r.2.2.2.2.2.1,r.2.2.2.2.2.2.1,r.2.2.2.2.2.2.2.1,r.2.2.2.2.2.2.2.2.1,r.2.2.2.2.2.2.2.2.2.1,r.2.2.2.2.2.2.2.2.2.2.1,r.2.2.2.2.2.2.2.2.2.2.2.1,r.2.2.2.2.2.2.2.2.2.2.2.2.1,r.2.2.2.2.2.2.2.2.2.2.2.2.2,()),()))⟩
def Pr (r:Bool × List Int × List Int × Int × Int × Int × Int × List (Int × Int × Int × Bool × (List Int) × List Int) × List Bool × List Bool × Int × Int × Bool × Int):TT Ew.rs × ET Ew.ps:=((((r.1,(r.2.1,r.2.2.1)),(r.2.2.2.1,r.2.2.2.2.1)),()),((r.2.2.2.2.2.1,r.2.2.2.2.2.2.1,r.2.2.2.2.2.2.2.1,r.2.2.2.2.2.2.2.2.1,r.2.2.2.2.2.2.2.2.2.1,r.2.2.2.2.2.2.2.2.2.2.1,r.2.2.2.2.2.2.2.2.2.2.2.1,r.2.2.2.2.2.2.2.2.2.2.2.2.1,r.2.2.2.2.2.2.2.2.2.2.2.2.2,()),()))
def Y1:Bu (TT Ew.rs × ET Ew.ps):=⟨⟨9,14,[9]⟩,AH [],AH [],AH []⟩
theorem Yy:Tj Tryz.prog 176 Ew :=
 Ez (Bt:=AO []) (l:= [(171, .io CA [(8,12)])]) (C:=Y1) (by kernel_rfl) AI ⟨Dn,trivial⟩ (fn:=Tryz.f176) (by kernel_rfl) rfl (by kernel_rfl) (by decide) (by kernel_rfl) (m:=14) (by decide) (by decide) (F:=λk x=>GQ.f k x.1.1 x.1.2.1 x.1.2.2.1 x.1.2.2.2.1 x.1.2.2.2.2.1 x.1.2.2.2.2.2.1 x.1.2.2.2.2.2.2.1 x.1.2.2.2.2.2.2.2.1 x.1.2.2.2.2.2.2.2.2.1 x.2.1.1.1 x.2.1.1.2.1 x.2.1.1.2.2 x.2.1.2.1 x.2.1.2.2) (q:=Pr) (λk x=>rfl)
  (by exact trivial)
  (λk ⟨⟨Af,Al,Ai,Ar,Ao,Ap,Au,Aw,Av,_⟩,(a1:(Bool × (List Int) × List Int) × Int × Int),_⟩=>by show Ad Pr (GQ.f k Af Al Ai Ar Ao Ap Au Aw Av a1.1.1 a1.1.2.1 a1.1.2.2 a1.2.1 a1.2.2) _;unfold GQ.f;exact go)
end
section
attribute [local irreducible] Ce.f
def Oa:AT:=⟨[(.cons .bool (.cons (.row 73 (.int .u64)) (.row 73 (.int .u64))))],[.int .i64],λk x=>(Gk.f k x.1.1 x.1.2.1 x.1.2.2).map λr=>(r,())⟩
def dB (r:Int):TT Oa.rs:=(r,())
theorem cH:DT Tryz.prog 207 Oa :=
 Ac (Bt:=AO []) (l:= [(134, .pu FJ)]) (C:=Ag) (by kernel_rfl) AI ⟨Gu,trivial⟩ (fn:=Tryz.f207) (by kernel_rfl) rfl (by kernel_rfl) (by decide) (by kernel_rfl) (F:=λk x=>Gk.f k x.1.1 x.1.2.1 x.1.2.2) (m:=dB) (λk x=>rfl)
  (by exact trivial)
  (λk ⟨(a0:Bool × List Int × List Int),_⟩=>by show Ad dB (Gk.f k a0.1 a0.2.1 a0.2.2) _;unfold Gk.f;exact go)
end
section
attribute [local irreducible] Js.f Gk.f
def XL:AT:=⟨[(.cons .bool (.cons (.row 73 (.int .u64)) (.row 73 (.int .u64)))),(.cons .bool (.cons (.row 73 (.int .u64)) (.row 73 (.int .u64))))],[.int .i64],λk x=>(OI.f k x.1.1 x.1.2.1 x.1.2.2 x.2.1.1 x.2.1.2.1 x.2.1.2.2).map λr=>(r,())⟩
def gw (r:Int):TT XL.rs:=(r,())
theorem xz:DT Tryz.prog 179 XL :=
 Ac (Bt:=AO []) (l:= [(113, .pu SM),(207, .pu Oa)]) (C:=Ag) (by kernel_rfl) AI ⟨gm,cH,trivial⟩ (fn:=Tryz.f179) (by kernel_rfl) rfl (by kernel_rfl) (by decide) (by kernel_rfl) (F:=λk x=>OI.f k x.1.1 x.1.2.1 x.1.2.2 x.2.1.1 x.2.1.2.1 x.2.1.2.2) (m:=gw) (λk x=>rfl)
  (by exact trivial)
  (λk ⟨(a0:Bool × List Int × List Int),(a1:Bool × List Int × List Int),_⟩=>by show Ad gw (OI.f k a0.1 a0.2.1 a0.2.2 a1.1 a1.2.1 a1.2.2) _;unfold OI.f;exact go)
end
section
attribute [local irreducible] A7.f
def Dc:Dj:=⟨[.st 135 [.ty (.int .i64), .ty (.int .i64), .row false 93 (.cons (.int .i64) (.cons (.int .i64) (.cons (.int .i64) (.cons .bool (.cons (.row 73 (.int .u64)) (.row 73 (.int .u64))))))), .ty (.row 4 .bool), .row false 4 .bool, .ty (.int .i64), .ty (.int .i64), .ty .bool, .ty (.int .i64)]],[.bool],λk x=>(Da.f k x.1.1 x.1.2.1 x.1.2.2.1 x.1.2.2.2.1 x.1.2.2.2.2.1 x.1.2.2.2.2.2.1 x.1.2.2.2.2.2.2.1 x.1.2.2.2.2.2.2.2.1 x.1.2.2.2.2.2.2.2.2.1).map λr=>((r.1,()),((r.2.1,r.2.2.1,r.2.2.2.1,r.2.2.2.2.1,r.2.2.2.2.2.1,r.2.2.2.2.2.2.1,r.2.2.2.2.2.2.2.1,r.2.2.2.2.2.2.2.2.1,r.2.2.2.2.2.2.2.2.2,()),()))⟩
def Lf (r:Bool × Int × Int × List (Int × Int × Int × Bool × (List Int) × List Int) × List Bool × List Bool × Int × Int × Bool × Int):TT Dc.rs × ET Dc.ps:=((r.1,()),((r.2.1,r.2.2.1,r.2.2.2.1,r.2.2.2.2.1,r.2.2.2.2.2.1,r.2.2.2.2.2.2.1,r.2.2.2.2.2.2.2.1,r.2.2.2.2.2.2.2.2.1,r.2.2.2.2.2.2.2.2.2,()),()))
def UO:Bu (TT Dc.rs × ET Dc.ps):=⟨⟨33,38,[33]⟩,AH [],AH [],AH []⟩
theorem UP:Tj Tryz.prog 182 Dc :=
 Ez (Bt:=AO [(1,[0,1,3,7,0,16,48,112,240,511]),(5,[0,1,3,7,0,16,48,112,240,511,1023,2047])]) (l:= [(178, .io B9 [(14,36)])]) (C:=UO) (by kernel_rfl) AI ⟨EY,trivial⟩ (fn:=Tryz.f182) (by kernel_rfl) rfl (by kernel_rfl) (by decide) (by kernel_rfl) (m:=38) (by decide) (by decide) (F:=λk x=>Da.f k x.1.1 x.1.2.1 x.1.2.2.1 x.1.2.2.2.1 x.1.2.2.2.2.1 x.1.2.2.2.2.2.1 x.1.2.2.2.2.2.2.1 x.1.2.2.2.2.2.2.2.1 x.1.2.2.2.2.2.2.2.2.1) (q:=Lf) (λk x=>rfl)
  (by exact trivial)
  (λk ⟨⟨Af,Al,Ai,Ar,Ao,Ap,Au,Aw,Av,_⟩,_⟩=>by show Ad Lf (Da.f k Af Al Ai Ar Ao Ap Au Aw Av) _;unfold Da.f;exact go)
end
section
attribute [local irreducible] BL.f A7.f OI.f Du.f Bs.f Da.f
def Ec:Dj:=⟨[.st 135 [.ty (.int .i64), .ty (.int .i64), .row false 93 (.cons (.int .i64) (.cons (.int .i64) (.cons (.int .i64) (.cons .bool (.cons (.row 73 (.int .u64)) (.row 73 (.int .u64))))))), .ty (.row 4 .bool), .row false 4 .bool, .ty (.int .i64), .ty (.int .i64), .ty .bool, .ty (.int .i64)], .ty (.cons (.cons .bool (.cons (.row 73 (.int .u64)) (.row 73 (.int .u64)))) (.cons (.int .u64) (.int .i64))), .ty (.cons (.cons .bool (.cons (.row 73 (.int .u64)) (.row 73 (.int .u64)))) (.cons (.int .u64) (.int .i64)))],[.bool],λk x=>(AZ.f k x.1.1 x.1.2.1 x.1.2.2.1 x.1.2.2.2.1 x.1.2.2.2.2.1 x.1.2.2.2.2.2.1 x.1.2.2.2.2.2.2.1 x.1.2.2.2.2.2.2.2.1 x.1.2.2.2.2.2.2.2.2.1 x.2.1.1.1 x.2.1.1.2.1 x.2.1.1.2.2 x.2.1.2.1 x.2.1.2.2 x.2.2.1.1.1 x.2.2.1.1.2.1 x.2.2.1.1.2.2 x.2.2.1.2.1 x.2.2.1.2.2).map λr=>((r.1,()),((r.2.1,r.2.2.1,r.2.2.2.1,r.2.2.2.2.1,r.2.2.2.2.2.1,r.2.2.2.2.2.2.1,r.2.2.2.2.2.2.2.1,r.2.2.2.2.2.2.2.2.1,r.2.2.2.2.2.2.2.2.2,()),()))⟩
def Ed (r:Bool × Int × Int × List (Int × Int × Int × Bool × (List Int) × List Int) × List Bool × List Bool × Int × Int × Bool × Int):TT Ec.rs × ET Ec.ps:=((r.1,()),((r.2.1,r.2.2.1,r.2.2.2.1,r.2.2.2.2.1,r.2.2.2.2.2.1,r.2.2.2.2.2.2.1,r.2.2.2.2.2.2.2.1,r.2.2.2.2.2.2.2.2.1,r.2.2.2.2.2.2.2.2.2,()),()))
@[reducible] def JC:List Slot:= [.tmp 0 [.ptr 97 0], .tmp 7 [.ty .bool], .C4 97 .kept 135 [.ty (.int .i64), .ty (.int .i64), .own .FZ 110 93 (.cons (.int .i64) (.cons (.int .i64) (.cons (.int .i64) (.cons .bool (.cons (.row 73 (.int .u64)) (.row 73 (.int .u64))))))), .ty (.row 4 .bool), .own .FZ 111 4 .bool, .ty (.int .i64), .ty (.int .i64), .ty .bool, .ty (.int .i64)]]
def Mi (k:Nat) (x:TS JC):Option (Bool × Int × Int × List (Int × Int × Int × Bool × (List Int) × List Int) × List Bool × List Bool × Int × Int × Bool × Int):=AZ.xF k x.2.1.1 x.2.2.1.1 x.2.2.1.2.1 x.2.2.1.2.2.1 x.2.2.1.2.2.2.1 x.2.2.1.2.2.2.2.1 x.2.2.1.2.2.2.2.2.1 x.2.2.1.2.2.2.2.2.2.1 x.2.2.1.2.2.2.2.2.2.2.1 x.2.2.1.2.2.2.2.2.2.2.2.1
@[reducible] def JD:List Slot:= [.C4 97 .kept 135 [.ty (.int .i64), .ty (.int .i64), .own .FZ 110 93 (.cons (.int .i64) (.cons (.int .i64) (.cons (.int .i64) (.cons .bool (.cons (.row 73 (.int .u64)) (.row 73 (.int .u64))))))), .ty (.row 4 .bool), .own .FZ 111 4 .bool, .ty (.int .i64), .ty (.int .i64), .ty .bool, .ty (.int .i64)]]
def Mj (k:Nat) (x:TS JD):Option (Bool × Int × Int × List (Int × Int × Int × Bool × (List Int) × List Int) × List Bool × List Bool × Int × Int × Bool × Int):=AZ.j9 k x.1.1 x.1.2.1 x.1.2.2.1 x.1.2.2.2.1 x.1.2.2.2.2.1 x.1.2.2.2.2.2.1 x.1.2.2.2.2.2.2.1 x.1.2.2.2.2.2.2.2.1 x.1.2.2.2.2.2.2.2.2.1
def XM:Bu (TT Ec.rs × ET Ec.ps):=⟨⟨97,112,[97]⟩,AH [],AH [(18,⟨JC,λk x=>(Mi k x).map Ed⟩),(9,⟨JD,λk x=>(Mj k x).map Ed⟩)],AH []⟩
theorem XE:Tj Tryz.prog 102 Ec :=
 Ez (Bt:=AO []) (l:= [(168, .io CR [(10,100)]),(178, .io B9 [(18,102)]),(179, .pu XL),(180, .pu KM),(181, .io DM [(25,104),(30,106)]),(182, .io Dc [(34,108)])]) (C:=XM) (by kernel_rfl) AI ⟨Gg,EY,xz,RV,MY,UP,trivial⟩ (fn:=Tryz.f102) (by kernel_rfl) rfl (by kernel_rfl) (by decide) (by kernel_rfl) (m:=112) (by decide) (by decide) (F:=λk x=>AZ.f k x.1.1 x.1.2.1 x.1.2.2.1 x.1.2.2.2.1 x.1.2.2.2.2.1 x.1.2.2.2.2.2.1 x.1.2.2.2.2.2.2.1 x.1.2.2.2.2.2.2.2.1 x.1.2.2.2.2.2.2.2.2.1 x.2.1.1.1 x.2.1.1.2.1 x.2.1.1.2.2 x.2.1.2.1 x.2.1.2.2 x.2.2.1.1.1 x.2.2.1.1.2.1 x.2.2.1.1.2.2 x.2.2.1.2.1 x.2.2.1.2.2) (q:=Ed) (λk x=>rfl)
  (by
   refine And.intro ?_ ?_
   ·refine B4 (sl:=JD) (F:=Mj) (λx=>rfl) λk ⟨⟨(Xo:Int),(Xp:Int),(Xq:List (Int × Int × Int × Bool × (List Int) × List Int)),(Xr:List Bool),(VO:List Bool),(Xs:Int),(Xt:Int),(Xu:Bool),(VP:Int),_⟩,_⟩=> ?_
    show Ad Ed (AZ.j9 (k+1) Xo Xp Xq Xr VO Xs Xt Xu VP) _;rw[AZ.j9];exact go
   refine And.intro ?_ ?_
   ·refine B4 (sl:=JC) (F:=Mi) (λx=>rfl) λk ⟨_,⟨(x7:Bool),_⟩,⟨(Xo:Int),(Xp:Int),(Xq:List (Int × Int × Int × Bool × (List Int) × List Int)),(Xr:List Bool),(VO:List Bool),(Xs:Int),(Xt:Int),(Xu:Bool),(VP:Int),_⟩,_⟩=> ?_
    show Ad Ed (AZ.xF (k+1) x7 Xo Xp Xq Xr VO Xs Xt Xu VP) _;rw[AZ.xF];exact go
   exact trivial)
  (λk ⟨⟨Af,Al,Ai,Ar,Ao,Ap,Au,Aw,Av,_⟩,(a1:(Bool × (List Int) × List Int) × Int × Int),(a2:(Bool × (List Int) × List Int) × Int × Int),_⟩=>by show Ad Ed (AZ.f k Af Al Ai Ar Ao Ap Au Aw Av a1.1.1 a1.1.2.1 a1.1.2.2 a1.2.1 a1.2.2 a2.1.1 a2.1.2.1 a2.1.2.2 a2.2.1 a2.2.2) _;unfold AZ.f;exact go)
end
section
attribute [local irreducible] Iz.f Ks.f
def cE:AT:=⟨[.int .i64],[(.cons .bool (.cons (.row 73 (.int .u64)) (.row 73 (.int .u64))))],λk x=>(Qn.f k x.1).map λr=>((r.1,r.2.1,r.2.2),())⟩
def qR (r:Bool × List Int × List Int):TT cE.rs:=((r.1,r.2.1,r.2.2),())
theorem ABv:DT Tryz.prog 62 cE :=
 Ac (Bt:=AO []) (l:= [(117, .pu Nh),(118, .pu SI)]) (C:=Ag) (by kernel_rfl) AI ⟨Vd,gX,trivial⟩ (fn:=Tryz.f62) (by kernel_rfl) rfl (by kernel_rfl) (by decide) (by kernel_rfl) (F:=λk x=>Qn.f k x.1) (m:=qR) (λk x=>rfl)
  (by exact trivial)
  (λk ⟨(a0:Int),_⟩=>by show Ad qR (Qn.f k a0) _;unfold Qn.f;exact go)
end
end Go.Proofs.YtjocbnjpjihpnaaGreat.A
