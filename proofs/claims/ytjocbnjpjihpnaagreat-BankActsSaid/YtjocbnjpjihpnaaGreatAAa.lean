/- Functions that come to what their texts say. -/
import Derived.Test.YtjocbnjpjihpnaaGreatProg
import Derived.Test.YtjocbnjpjihpnaaGreatWWc
import Derived.KernelRfl
import Derived.Test.YtjocbnjpjihpnaaGreatBB
namespace Go.Proofs.YtjocbnjpjihpnaaGreat.A
open Go.RowKit Go.Proofs.YtjocbnjpjihpnaaGreat.P Go.Proofs.YtjocbnjpjihpnaaGreatW.AH Go.Proofs.YtjocbnjpjihpnaaGreatW.AX Go.Proofs.YtjocbnjpjihpnaaGreatW.Ad Go.Proofs.YtjocbnjpjihpnaaGreatW.Ic
set_option linter.unusedVariables false
set_option linter.unusedSimpArgs false
set_option maxRecDepth 100000
set_option maxHeartbeats 4000000
end Go.Proofs.YtjocbnjpjihpnaaGreat.A
namespace Go.Proofs.YtjocbnjpjihpnaaGreat.A
open Go.Proofs.YtjocbnjpjihpnaaGreatW.Ic
def tab:Lz:= [(2,⟨1,8,[.ro (.int .i64) (0:Int)], .int .i64,some (.int .i64)⟩),
 (3,⟨1,8,[.ro (.int .i64) (0:Int)], .int .i64,some (.int .i64)⟩),
 (4,⟨1,1,[.ro .bool false], .bool,some .bool⟩),
 (5,⟨1,1,[.ro (.int .u8) (0:Int)], .int .u8,some (.int .u8)⟩),
 (9,⟨1,16,[.ro .str (⟨#[]⟩:ByteArray)], .str,some .str⟩),
 (13,⟨2,24,[.ro .str (⟨#[]⟩:ByteArray), .ro (.int .u64) (0:Int)], .struct [(0,1),(1,1)],some (.cons .str (.int .u64))⟩),
 (21,⟨1,4,[.ro (.int .i32) (0:Int)], .int .i32,some (.int .i32)⟩),
 (22,⟨1,24,[.CA], .slice 93,some (.row 93 (.cons (.int .i64) (.cons (.int .i64) (.cons (.int .i64) (.cons .bool (.cons (.row 73 (.int .u64)) (.row 73 (.int .u64))))))))⟩),
 (23,⟨1,24,[.CA], .slice 45,some (.row 45 (.cons .bool (.cons (.row 73 (.int .u64)) (.row 73 (.int .u64)))))⟩),
 (24,⟨4,96,[.CA, .CA, .CA, .CA], .struct [(0,1),(1,1),(2,1),(3,1)],some (.cons (.row 93 (.cons (.int .i64) (.cons (.int .i64) (.cons (.int .i64) (.cons .bool (.cons (.row 73 (.int .u64)) (.row 73 (.int .u64)))))))) (.cons (.row 45 (.cons .bool (.cons (.row 73 (.int .u64)) (.row 73 (.int .u64))))) (.cons (.row 45 (.cons .bool (.cons (.row 73 (.int .u64)) (.row 73 (.int .u64))))) (.row 45 (.cons .bool (.cons (.row 73 (.int .u64)) (.row 73 (.int .u64))))))))⟩),
 (25,⟨4,96,[.CA, .CA, .CA, .CA], .struct [(0,1),(1,1),(2,1),(3,1)],some (.cons (.row 93 (.cons (.int .i64) (.cons (.int .i64) (.cons (.int .i64) (.cons .bool (.cons (.row 73 (.int .u64)) (.row 73 (.int .u64)))))))) (.cons (.row 45 (.cons .bool (.cons (.row 73 (.int .u64)) (.row 73 (.int .u64))))) (.cons (.row 45 (.cons .bool (.cons (.row 73 (.int .u64)) (.row 73 (.int .u64))))) (.row 45 (.cons .bool (.cons (.row 73 (.int .u64)) (.row 73 (.int .u64))))))))⟩),
 (28,⟨1,8,[.ro (.int .i64) (0:Int)], .int .i64,some (.int .i64)⟩),
 (34,⟨1,24,[.CA], .slice 3,some (.row 3 (.int .i64))⟩),
 (43,⟨1,24,[.CA], .slice 73,some (.row 73 (.int .u64))⟩),
 (44,⟨3,56,[.ro .bool false, .CA, .CA], .struct [(0,1),(1,1),(2,1)],some (.cons .bool (.cons (.row 73 (.int .u64)) (.row 73 (.int .u64))))⟩),
 (45,⟨3,56,[.ro .bool false, .CA, .CA], .struct [(0,1),(1,1),(2,1)],some (.cons .bool (.cons (.row 73 (.int .u64)) (.row 73 (.int .u64))))⟩),
 (62,⟨1,24,[.CA], .slice 75,some (.row 75 (.cons (.int .i64) (.cons (.int .i64) (.cons (.int .i64) (.cons (.int .i64) (.cons (.int .i64) (.int .u64)))))))⟩),
 (63,⟨1,8,[.OW], .ptr,none⟩),
 (65,⟨1,24,[.CA], .slice 4,some (.row 4 .bool)⟩),
 (66,⟨5,56,[.ro (.int .i64) (0:Int), .ro (.int .i64) (0:Int), .ro (.int .i64) (0:Int), .CA, .ro .bool false], .struct [(0,1),(1,1),(2,1),(3,1),(4,1)],some (.cons (.int .i64) (.cons (.int .i64) (.cons (.int .i64) (.cons (.row 4 .bool) .bool))))⟩),
 (67,⟨5,56,[.ro (.int .i64) (0:Int), .ro (.int .i64) (0:Int), .ro (.int .i64) (0:Int), .CA, .ro .bool false], .struct [(0,1),(1,1),(2,1),(3,1),(4,1)],some (.cons (.int .i64) (.cons (.int .i64) (.cons (.int .i64) (.cons (.row 4 .bool) .bool))))⟩),
 (68,⟨1,24,[.CA], .slice 137,some (.row 137 (.cons (.cons .bool (.cons (.row 73 (.int .u64)) (.row 73 (.int .u64)))) (.cons (.int .u64) (.int .i64))))⟩),
 (69,⟨2,48,[.CA, .CA], .struct [(0,1),(1,1)],some (.cons (.row 137 (.cons (.cons .bool (.cons (.row 73 (.int .u64)) (.row 73 (.int .u64)))) (.cons (.int .u64) (.int .i64)))) (.row 4 .bool))⟩),
 (70,⟨2,48,[.CA, .CA], .struct [(0,1),(1,1)],some (.cons (.row 137 (.cons (.cons .bool (.cons (.row 73 (.int .u64)) (.row 73 (.int .u64)))) (.cons (.int .u64) (.int .i64)))) (.row 4 .bool))⟩),
 (72,⟨1,8,[.OW], .ptr,none⟩),
 (73,⟨1,8,[.ro (.int .u64) (0:Int)], .int .u64,some (.int .u64)⟩),
 (74,⟨6,48,[.ro (.int .i64) (0:Int), .ro (.int .i64) (0:Int), .ro (.int .i64) (0:Int), .ro (.int .i64) (0:Int), .ro (.int .i64) (0:Int), .ro (.int .u64) (0:Int)], .struct [(0,1),(1,1),(2,1),(3,1),(4,1),(5,1)],some (.cons (.int .i64) (.cons (.int .i64) (.cons (.int .i64) (.cons (.int .i64) (.cons (.int .i64) (.int .u64))))))⟩),
 (75,⟨6,48,[.ro (.int .i64) (0:Int), .ro (.int .i64) (0:Int), .ro (.int .i64) (0:Int), .ro (.int .i64) (0:Int), .ro (.int .i64) (0:Int), .ro (.int .u64) (0:Int)], .struct [(0,1),(1,1),(2,1),(3,1),(4,1),(5,1)],some (.cons (.int .i64) (.cons (.int .i64) (.cons (.int .i64) (.cons (.int .i64) (.cons (.int .i64) (.int .u64))))))⟩),
 (77,⟨1,8,[.OW], .ptr,none⟩),
 (86,⟨7,56,[.ro (.int .i64) (0:Int), .ro (.int .i64) (0:Int), .ro (.int .i64) (0:Int), .ro (.int .i64) (0:Int), .ro (.int .i64) (0:Int), .ro .bool false, .ro (.int .i64) (0:Int)], .struct [(0,1),(1,1),(2,1),(3,1),(4,1),(5,1),(6,1)],some (.cons (.int .i64) (.cons (.int .i64) (.cons (.int .i64) (.cons (.int .i64) (.cons (.int .i64) (.cons .bool (.int .i64)))))))⟩),
 (87,⟨7,56,[.ro (.int .i64) (0:Int), .ro (.int .i64) (0:Int), .ro (.int .i64) (0:Int), .ro (.int .i64) (0:Int), .ro (.int .i64) (0:Int), .ro .bool false, .ro (.int .i64) (0:Int)], .struct [(0,1),(1,1),(2,1),(3,1),(4,1),(5,1),(6,1)],some (.cons (.int .i64) (.cons (.int .i64) (.cons (.int .i64) (.cons (.int .i64) (.cons (.int .i64) (.cons .bool (.int .i64)))))))⟩),
 (92,⟨6,80,[.ro (.int .i64) (0:Int), .ro (.int .i64) (0:Int), .ro (.int .i64) (0:Int), .ro .bool false, .CA, .CA], .struct [(0,1),(1,1),(2,1),(3,3)],some (.cons (.int .i64) (.cons (.int .i64) (.cons (.int .i64) (.cons .bool (.cons (.row 73 (.int .u64)) (.row 73 (.int .u64)))))))⟩),
 (93,⟨6,80,[.ro (.int .i64) (0:Int), .ro (.int .i64) (0:Int), .ro (.int .i64) (0:Int), .ro .bool false, .CA, .CA], .struct [(0,1),(1,1),(2,1),(3,3)],some (.cons (.int .i64) (.cons (.int .i64) (.cons (.int .i64) (.cons .bool (.cons (.row 73 (.int .u64)) (.row 73 (.int .u64)))))))⟩),
 (100,⟨1,8,[.OW], .ptr,none⟩),
 (102,⟨3,72,[.CA, .CA, .CA], .struct [(0,1),(1,1),(2,1)],some (.cons (.row 45 (.cons .bool (.cons (.row 73 (.int .u64)) (.row 73 (.int .u64))))) (.cons (.row 45 (.cons .bool (.cons (.row 73 (.int .u64)) (.row 73 (.int .u64))))) (.row 45 (.cons .bool (.cons (.row 73 (.int .u64)) (.row 73 (.int .u64)))))))⟩),
 (103,⟨3,72,[.CA, .CA, .CA], .struct [(0,1),(1,1),(2,1)],some (.cons (.row 45 (.cons .bool (.cons (.row 73 (.int .u64)) (.row 73 (.int .u64))))) (.cons (.row 45 (.cons .bool (.cons (.row 73 (.int .u64)) (.row 73 (.int .u64))))) (.row 45 (.cons .bool (.cons (.row 73 (.int .u64)) (.row 73 (.int .u64)))))))⟩),
 (113,⟨6,112,[.ro .bool false, .CA, .CA, .ro .bool false, .CA, .CA], .arr 2 45,some (.cons (.cons .bool (.cons (.row 73 (.int .u64)) (.row 73 (.int .u64)))) (.cons .bool (.cons (.row 73 (.int .u64)) (.row 73 (.int .u64)))))⟩),
 (122,⟨1,8,[.OW], .ptr,none⟩),
 (123,⟨4,80,[.CA, .CA, .CA, .ro (.int .i64) (0:Int)], .struct [(0,1),(1,1),(2,1),(3,1)],some (.cons (.row 45 (.cons .bool (.cons (.row 73 (.int .u64)) (.row 73 (.int .u64))))) (.cons (.row 45 (.cons .bool (.cons (.row 73 (.int .u64)) (.row 73 (.int .u64))))) (.cons (.row 45 (.cons .bool (.cons (.row 73 (.int .u64)) (.row 73 (.int .u64))))) (.int .i64))))⟩),
 (124,⟨4,80,[.CA, .CA, .CA, .ro (.int .i64) (0:Int)], .struct [(0,1),(1,1),(2,1),(3,1)],some (.cons (.row 45 (.cons .bool (.cons (.row 73 (.int .u64)) (.row 73 (.int .u64))))) (.cons (.row 45 (.cons .bool (.cons (.row 73 (.int .u64)) (.row 73 (.int .u64))))) (.cons (.row 45 (.cons .bool (.cons (.row 73 (.int .u64)) (.row 73 (.int .u64))))) (.int .i64))))⟩),
 (133,⟨1,8,[.GZ], .map 3 3,none⟩),
 (134,⟨9,120,[.ro (.int .i64) (0:Int), .ro (.int .i64) (0:Int), .CA, .CA, .CA, .ro (.int .i64) (0:Int), .ro (.int .i64) (0:Int), .ro .bool false, .ro (.int .i64) (0:Int)], .struct [(0,1),(1,1),(2,1),(3,1),(4,1),(5,1),(6,1),(7,1),(8,1)],some (.cons (.int .i64) (.cons (.int .i64) (.cons (.row 93 (.cons (.int .i64) (.cons (.int .i64) (.cons (.int .i64) (.cons .bool (.cons (.row 73 (.int .u64)) (.row 73 (.int .u64)))))))) (.cons (.row 4 .bool) (.cons (.row 4 .bool) (.cons (.int .i64) (.cons (.int .i64) (.cons .bool (.int .i64)))))))))⟩),
 (135,⟨9,120,[.ro (.int .i64) (0:Int), .ro (.int .i64) (0:Int), .CA, .CA, .CA, .ro (.int .i64) (0:Int), .ro (.int .i64) (0:Int), .ro .bool false, .ro (.int .i64) (0:Int)], .struct [(0,1),(1,1),(2,1),(3,1),(4,1),(5,1),(6,1),(7,1),(8,1)],some (.cons (.int .i64) (.cons (.int .i64) (.cons (.row 93 (.cons (.int .i64) (.cons (.int .i64) (.cons (.int .i64) (.cons .bool (.cons (.row 73 (.int .u64)) (.row 73 (.int .u64)))))))) (.cons (.row 4 .bool) (.cons (.row 4 .bool) (.cons (.int .i64) (.cons (.int .i64) (.cons .bool (.int .i64)))))))))⟩),
 (136,⟨5,72,[.ro .bool false, .CA, .CA, .ro (.int .u64) (0:Int), .ro (.int .i64) (0:Int)], .struct [(0,3),(3,1),(4,1)],some (.cons (.cons .bool (.cons (.row 73 (.int .u64)) (.row 73 (.int .u64)))) (.cons (.int .u64) (.int .i64)))⟩),
 (137,⟨5,72,[.ro .bool false, .CA, .CA, .ro (.int .u64) (0:Int), .ro (.int .i64) (0:Int)], .struct [(0,3),(3,1),(4,1)],some (.cons (.cons .bool (.cons (.row 73 (.int .u64)) (.row 73 (.int .u64)))) (.cons (.int .u64) (.int .i64)))⟩),
 (141,⟨3,24,[.ro (.int .i64) (0:Int), .ro (.int .i64) (0:Int), .ro (.int .u64) (0:Int)], .struct [(0,1),(1,1),(2,1)],some (.cons (.int .i64) (.cons (.int .i64) (.int .u64)))⟩),
 (142,⟨3,24,[.ro (.int .i64) (0:Int), .ro (.int .i64) (0:Int), .ro (.int .u64) (0:Int)], .struct [(0,1),(1,1),(2,1)],some (.cons (.int .i64) (.cons (.int .i64) (.int .u64)))⟩),
 (150,⟨1,8,[.OW], .ptr,none⟩),
 (155,⟨1,8,[.ro (.int .u64) (0:Int)], .int .u64,some (.int .u64)⟩),
 (190,⟨3,24,[.ro .bool false, .ro (.int .u64) (0:Int), .ro (.int .i64) (0:Int)], .struct [(0,1),(1,1),(2,1)],some (.cons .bool (.cons (.int .u64) (.int .i64)))⟩),
 (191,⟨3,24,[.ro .bool false, .ro (.int .u64) (0:Int), .ro (.int .i64) (0:Int)], .struct [(0,1),(1,1),(2,1)],some (.cons .bool (.cons (.int .u64) (.int .i64)))⟩),
 (202,⟨14,112,[.ro (.int .i64) (0:Int), .ro (.int .i64) (0:Int), .ro (.int .i64) (0:Int), .ro (.int .i64) (0:Int), .ro (.int .i64) (0:Int), .ro (.int .i64) (0:Int), .ro (.int .i64) (0:Int), .ro (.int .i64) (0:Int), .ro (.int .i64) (0:Int), .ro (.int .i64) (0:Int), .ro (.int .i64) (0:Int), .ro (.int .i64) (0:Int), .ro (.int .i64) (0:Int), .ro (.int .i64) (0:Int)], .arr 14 3,none⟩),
 (221,⟨1,4,[.ro (.int .u32) (0:Int)], .int .u32,some (.int .u32)⟩),
 (225,⟨1,8,[.OW], .ptr,none⟩)]
theorem AI:Lz.ok Tryz.prog tab=true:=by kernel_rfl
end Go.Proofs.YtjocbnjpjihpnaaGreat.A
namespace Go.Proofs.YtjocbnjpjihpnaaGreat.A
open Go.RowKit Go.Proofs.YtjocbnjpjihpnaaGreat.P Go.Proofs.YtjocbnjpjihpnaaGreatW.AH Go.Proofs.YtjocbnjpjihpnaaGreatW.AX Go.Proofs.YtjocbnjpjihpnaaGreatW.Ad Go.Proofs.YtjocbnjpjihpnaaGreatW.Ic
set_option linter.unusedVariables false
set_option linter.unusedSimpArgs false
set_option maxRecDepth 100000
set_option maxHeartbeats 4000000
section
def Cu:DU:=⟨[.st 135 [.ty (.int .i64), .ty (.int .i64), .row false 93 (.cons (.int .i64) (.cons (.int .i64) (.cons (.int .i64) (.cons .bool (.cons (.row 73 (.int .u64)) (.row 73 (.int .u64))))))), .ty (.row 4 .bool), .row false 4 .bool, .ty (.int .i64), .ty (.int .i64), .ty .bool, .ty (.int .i64)]],[.bool],λk x=>(Bh.f k x.1.1 x.1.2.1 x.1.2.2.1 x.1.2.2.2.1 x.1.2.2.2.2.1 x.1.2.2.2.2.2.1 x.1.2.2.2.2.2.2.1 x.1.2.2.2.2.2.2.2.1 x.1.2.2.2.2.2.2.2.2.1).map λr=>((r.1,()),((r.2.1,r.2.2.1,r.2.2.2.1,r.2.2.2.2.1,r.2.2.2.2.2.1,r.2.2.2.2.2.2.1,r.2.2.2.2.2.2.2.1,r.2.2.2.2.2.2.2.2.1,r.2.2.2.2.2.2.2.2.2,()),()))⟩
def PJ (r:Bool × Int × Int × List (Int × Int × Int × Bool × (List Int) × List Int) × List Bool × List Bool × Int × Int × Bool × Int):TT Cu.rs × ET Cu.ps:=((r.1,()),((r.2.1,r.2.2.1,r.2.2.2.1,r.2.2.2.2.1,r.2.2.2.2.2.1,r.2.2.2.2.2.2.1,r.2.2.2.2.2.2.2.1,r.2.2.2.2.2.2.2.2.1,r.2.2.2.2.2.2.2.2.2,()),()))
def Zp:Bb (TT Cu.rs × ET Cu.ps):=⟨⟨12,15,[12]⟩,AE [],AE [],AE []⟩
theorem Ib:Qx Tryz.prog 168 Cu :=
 D7 (Bt:=AL []) (l:= []) (C:=Zp) (by kernel_rfl) AI trivial (fn:=Tryz.f168) (by kernel_rfl) rfl (by kernel_rfl) (by decide) (by kernel_rfl) (m:=15) (by decide) (by decide) (F:=λk x=>Bh.f k x.1.1 x.1.2.1 x.1.2.2.1 x.1.2.2.2.1 x.1.2.2.2.2.1 x.1.2.2.2.2.2.1 x.1.2.2.2.2.2.2.1 x.1.2.2.2.2.2.2.2.1 x.1.2.2.2.2.2.2.2.2.1) (q:=PJ) (λk x=>rfl)
  (by exact trivial)
  (λk ⟨⟨Ab,Ae,Af,Ah,Ai,BH,BK,BL,BJ,_⟩,_⟩=>by show AY PJ (Bh.f k Ab Ae Af Ah Ai BH BK BL BJ) _;unfold Bh.f;exact go)
end
section
def Ce:DU:=⟨[.st 135 [.ty (.int .i64), .ty (.int .i64), .row false 93 (.cons (.int .i64) (.cons (.int .i64) (.cons (.int .i64) (.cons .bool (.cons (.row 73 (.int .u64)) (.row 73 (.int .u64))))))), .ty (.row 4 .bool), .row false 4 .bool, .ty (.int .i64), .ty (.int .i64), .ty .bool, .ty (.int .i64)], .ty (.int .i64)],[],λk x=>(BU.f k x.1.1 x.1.2.1 x.1.2.2.1 x.1.2.2.2.1 x.1.2.2.2.2.1 x.1.2.2.2.2.2.1 x.1.2.2.2.2.2.2.1 x.1.2.2.2.2.2.2.2.1 x.1.2.2.2.2.2.2.2.2.1 x.2.1).map λr=>((()),((r.1,r.2.1,r.2.2.1,r.2.2.2.1,r.2.2.2.2.1,r.2.2.2.2.2.1,r.2.2.2.2.2.2.1,r.2.2.2.2.2.2.2.1,r.2.2.2.2.2.2.2.2,()),()))⟩
def Qg (r:Int × Int × List (Int × Int × Int × Bool × (List Int) × List Int) × List Bool × List Bool × Int × Int × Bool × Int):TT Ce.rs × ET Ce.ps:=((()),((r.1,r.2.1,r.2.2.1,r.2.2.2.1,r.2.2.2.2.1,r.2.2.2.2.2.1,r.2.2.2.2.2.2.1,r.2.2.2.2.2.2.2.1,r.2.2.2.2.2.2.2.2,()),()))
def cD:Bb (TT Ce.rs × ET Ce.ps):=⟨⟨17,20,[17]⟩,AE [],AE [],AE []⟩
theorem Fg:Qx Tryz.prog 178 Ce :=
 D7 (Bt:=AL []) (l:= []) (C:=cD) (by kernel_rfl) AI trivial (fn:=Tryz.f178) (by kernel_rfl) rfl (by kernel_rfl) (by decide) (by kernel_rfl) (m:=20) (by decide) (by decide) (F:=λk x=>BU.f k x.1.1 x.1.2.1 x.1.2.2.1 x.1.2.2.2.1 x.1.2.2.2.2.1 x.1.2.2.2.2.2.1 x.1.2.2.2.2.2.2.1 x.1.2.2.2.2.2.2.2.1 x.1.2.2.2.2.2.2.2.2.1 x.2.1) (q:=Qg) (λk x=>rfl)
  (by exact trivial)
  (λk ⟨⟨Ab,Ae,Af,Ah,Ai,BH,BK,BL,BJ,_⟩,(a1:Int),_⟩=>by show AY Qg (BU.f k Ab Ae Af Ah Ai BH BK BL BJ a1) _;unfold BU.f;exact go)
end
section
attribute [local irreducible] BU.f
def DR:DU:=⟨[.st 135 [.ty (.int .i64), .ty (.int .i64), .row false 93 (.cons (.int .i64) (.cons (.int .i64) (.cons (.int .i64) (.cons .bool (.cons (.row 73 (.int .u64)) (.row 73 (.int .u64))))))), .ty (.row 4 .bool), .row false 4 .bool, .ty (.int .i64), .ty (.int .i64), .ty .bool, .ty (.int .i64)], .ty (.cons (.int .i64) (.cons (.int .i64) (.cons (.int .i64) (.cons .bool (.cons (.row 73 (.int .u64)) (.row 73 (.int .u64)))))))],[(.cons (.cons .bool (.cons (.row 73 (.int .u64)) (.row 73 (.int .u64)))) (.cons (.int .u64) (.int .i64)))],λk x=>(CE.f k x.1.1 x.1.2.1 x.1.2.2.1 x.1.2.2.2.1 x.1.2.2.2.2.1 x.1.2.2.2.2.2.1 x.1.2.2.2.2.2.2.1 x.1.2.2.2.2.2.2.2.1 x.1.2.2.2.2.2.2.2.2.1 x.2.1.1 x.2.1.2.1 x.2.1.2.2.1 x.2.1.2.2.2.1 x.2.1.2.2.2.2.1 x.2.1.2.2.2.2.2).map λr=>((((r.1,(r.2.1,r.2.2.1)),(r.2.2.2.1,r.2.2.2.2.1)),()),((r.2.2.2.2.2.1,r.2.2.2.2.2.2.1,r.2.2.2.2.2.2.2.1,r.2.2.2.2.2.2.2.2.1,r.2.2.2.2.2.2.2.2.2.1,r.2.2.2.2.2.2.2.2.2.2.1,r.2.2.2.2.2.2.2.2.2.2.2.1,r.2.2.2.2.2.2.2.2.2.2.2.2.1,r.2.2.2.2.2.2.2.2.2.2.2.2.2,()),()))⟩
def PL (r:Bool × List Int × List Int × Int × Int × Int × Int × List (Int × Int × Int × Bool × (List Int) × List Int) × List Bool × List Bool × Int × Int × Bool × Int):TT DR.rs × ET DR.ps:=((((r.1,(r.2.1,r.2.2.1)),(r.2.2.2.1,r.2.2.2.2.1)),()),((r.2.2.2.2.2.1,r.2.2.2.2.2.2.1,r.2.2.2.2.2.2.2.1,r.2.2.2.2.2.2.2.2.1,r.2.2.2.2.2.2.2.2.2.1,r.2.2.2.2.2.2.2.2.2.2.1,r.2.2.2.2.2.2.2.2.2.2.2.1,r.2.2.2.2.2.2.2.2.2.2.2.2.1,r.2.2.2.2.2.2.2.2.2.2.2.2.2,()),()))
def Zq:Bb (TT DR.rs × ET DR.ps):=⟨⟨31,36,[31]⟩,AE [],AE [],AE []⟩
theorem LC:Qx Tryz.prog 170 DR :=
 D7 (Bt:=AL [(4,[0,0,2,6,14,0,32,126,255,511,1023])]) (l:= [(178, .io Ce [(12,34)])]) (C:=Zq) (by kernel_rfl) AI ⟨Fg,trivial⟩ (fn:=Tryz.f170) (by kernel_rfl) rfl (by kernel_rfl) (by decide) (by kernel_rfl) (m:=36) (by decide) (by decide) (F:=λk x=>CE.f k x.1.1 x.1.2.1 x.1.2.2.1 x.1.2.2.2.1 x.1.2.2.2.2.1 x.1.2.2.2.2.2.1 x.1.2.2.2.2.2.2.1 x.1.2.2.2.2.2.2.2.1 x.1.2.2.2.2.2.2.2.2.1 x.2.1.1 x.2.1.2.1 x.2.1.2.2.1 x.2.1.2.2.2.1 x.2.1.2.2.2.2.1 x.2.1.2.2.2.2.2) (q:=PL) (λk x=>rfl)
  (by exact trivial)
  (λk ⟨⟨Ab,Ae,Af,Ah,Ai,BH,BK,BL,BJ,_⟩,(a1:Int × Int × Int × Bool × (List Int) × List Int),_⟩=>by show AY PL (CE.f k Ab Ae Af Ah Ai BH BK BL BJ a1.1 a1.2.1 a1.2.2.1 a1.2.2.2.1 a1.2.2.2.2.1 a1.2.2.2.2.2) _;unfold CE.f;exact go)
end
section
attribute [local irreducible] BU.f
def Dw:DU:=⟨[.st 135 [.ty (.int .i64), .ty (.int .i64), .row false 93 (.cons (.int .i64) (.cons (.int .i64) (.cons (.int .i64) (.cons .bool (.cons (.row 73 (.int .u64)) (.row 73 (.int .u64))))))), .ty (.row 4 .bool), .row false 4 .bool, .ty (.int .i64), .ty (.int .i64), .ty .bool, .ty (.int .i64)], .ty (.cons (.cons .bool (.cons (.row 73 (.int .u64)) (.row 73 (.int .u64)))) (.cons (.int .u64) (.int .i64)))],[.bool],λk x=>(Co.f k x.1.1 x.1.2.1 x.1.2.2.1 x.1.2.2.2.1 x.1.2.2.2.2.1 x.1.2.2.2.2.2.1 x.1.2.2.2.2.2.2.1 x.1.2.2.2.2.2.2.2.1 x.1.2.2.2.2.2.2.2.2.1 x.2.1.1.1 x.2.1.1.2.1 x.2.1.1.2.2 x.2.1.2.1 x.2.1.2.2).map λr=>((r.1,()),((r.2.1,r.2.2.1,r.2.2.2.1,r.2.2.2.2.1,r.2.2.2.2.2.1,r.2.2.2.2.2.2.1,r.2.2.2.2.2.2.2.1,r.2.2.2.2.2.2.2.2.1,r.2.2.2.2.2.2.2.2.2,()),()))⟩
def PM (r:Bool × Int × Int × List (Int × Int × Int × Bool × (List Int) × List Int) × List Bool × List Bool × Int × Int × Bool × Int):TT Dw.rs × ET Dw.ps:=((r.1,()),((r.2.1,r.2.2.1,r.2.2.2.1,r.2.2.2.2.1,r.2.2.2.2.2.1,r.2.2.2.2.2.2.1,r.2.2.2.2.2.2.2.1,r.2.2.2.2.2.2.2.2.1,r.2.2.2.2.2.2.2.2.2,()),()))
def Zr:Bb (TT Dw.rs × ET Dw.ps):=⟨⟨20,25,[20]⟩,AE [],AE [],AE []⟩
theorem PN:Qx Tryz.prog 181 Dw :=
 D7 (Bt:=AL [(1,[0,1,3,7,15,31,15,79,207,463,975,2047,4095])]) (l:= [(178, .io Ce [(19,23)])]) (C:=Zr) (by kernel_rfl) AI ⟨Fg,trivial⟩ (fn:=Tryz.f181) (by kernel_rfl) rfl (by kernel_rfl) (by decide) (by kernel_rfl) (m:=25) (by decide) (by decide) (F:=λk x=>Co.f k x.1.1 x.1.2.1 x.1.2.2.1 x.1.2.2.2.1 x.1.2.2.2.2.1 x.1.2.2.2.2.2.1 x.1.2.2.2.2.2.2.1 x.1.2.2.2.2.2.2.2.1 x.1.2.2.2.2.2.2.2.2.1 x.2.1.1.1 x.2.1.1.2.1 x.2.1.1.2.2 x.2.1.2.1 x.2.1.2.2) (q:=PM) (λk x=>rfl)
  (by exact trivial)
  (λk ⟨⟨Ab,Ae,Af,Ah,Ai,BH,BK,BL,BJ,_⟩,(a1:(Bool × (List Int) × List Int) × Int × Int),_⟩=>by show AY PM (Co.f k Ab Ae Af Ah Ai BH BK BL BJ a1.1.1 a1.1.2.1 a1.1.2.2 a1.2.1 a1.2.2) _;unfold Co.f;exact go)
end
section
def VB:AQ:=⟨[(.row 73 (.int .u64))],[.bool],λ_ x=>(JU.f x.1).map λr=>(r,())⟩
def fK (r:Bool):TT VB.rs:=(r,())
theorem yl:Cl Tryz.prog 110 VB :=
 AT (Bt:=AL []) (l:= []) (C:=AZ) (by kernel_rfl) AI trivial (fn:=Tryz.f110) (by kernel_rfl) rfl (by kernel_rfl) (by decide) (by kernel_rfl) (F:=λk x=>JU.f x.1) (m:=fK) (λk x=>rfl)
  (by exact trivial)
  (λk ⟨(a0:List Int),_⟩=>by show AY fK (JU.f a0) _;unfold JU.f;exact go)
end
section
def KQ:AQ:=⟨[(.row 73 (.int .u64))],[.int .i64],λk x=>(Bm.f k x.1).map λr=>(r,())⟩
def SD (r:Int):TT KQ.rs:=(r,())
@[reducible] def VC:List Slot:= [.tmp 0 [.ty (.row 73 (.int .u64))], .tmp 3 [.ty (.int .i64)]]
def fM (k:Nat) (x:TS VC):Option (Int):=Bm.l0 k x.1.1 x.2.1.1
def ABa:Bb (TT KQ.rs):=⟨⟨19,19,[]⟩,AE [(0,⟨VC,λk x=>(fM k x).map SD⟩)],AE [],AE []⟩
theorem SE:Cl Tryz.prog 192 KQ :=
 AT (Bt:=AL []) (l:= []) (C:=ABa) (by kernel_rfl) AI trivial (fn:=Tryz.f192) (by kernel_rfl) rfl (by kernel_rfl) (by decide) (by kernel_rfl) (F:=λk x=>Bm.f k x.1) (m:=SD) (λk x=>rfl)
  (by
   refine And.intro ?_ ?_
   ·refine Ap (sl:=VC) (F:=fM) (λx=>rfl) λk ⟨⟨(x0:List Int),_⟩,⟨(x3:Int),_⟩,_⟩=> ?_
    show AY SD (Bm.l0 (k+1) x0 x3) _;rw[Bm.l0];exact go
   exact trivial)
  (λk ⟨(a0:List Int),_⟩=>by show AY SD (Bm.f k a0) _;unfold Bm.f;exact go)
end
section
attribute [local irreducible] Bm.f
def Nw:AQ:=⟨[(.row 73 (.int .u64)),(.row 73 (.int .u64))],[.int .i64],λk x=>(El.f k x.1 x.2.1).map λr=>(r,())⟩
def Vq (r:Int):TT Nw.rs:=(r,())
@[reducible] def Xv:List Slot:= [.tmp 0 [.ty (.row 73 (.int .u64))], .tmp 1 [.ty (.row 73 (.int .u64))], .tmp 7 [.ty (.int .i64)]]
def mE (k:Nat) (x:TS Xv):Option (Int):=El.l0 k x.1.1 x.2.1.1 x.2.2.1.1
def AD6:Bb (TT Nw.rs):=⟨⟨44,44,[]⟩,AE [(0,⟨Xv,λk x=>(mE k x).map Vq⟩)],AE [],AE []⟩
theorem cE:Cl Tryz.prog 131 Nw :=
 AT (Bt:=AL [(9,[0,0,3,7,0,0,48,112,255,511]),(11,[0,0,3,7,0,0,48,112,255,511])]) (l:= [(192, .pu KQ)]) (C:=AD6) (by kernel_rfl) AI ⟨SE,trivial⟩ (fn:=Tryz.f131) (by kernel_rfl) rfl (by kernel_rfl) (by decide) (by kernel_rfl) (F:=λk x=>El.f k x.1 x.2.1) (m:=Vq) (λk x=>rfl)
  (by
   refine And.intro ?_ ?_
   ·refine Ap (sl:=Xv) (F:=mE) (λx=>rfl) λk ⟨⟨(x0:List Int),_⟩,⟨(x1:List Int),_⟩,⟨(x7:Int),_⟩,_⟩=> ?_
    show AY Vq (El.l0 (k+1) x0 x1 x7) _;rw[El.l0];exact go
   exact trivial)
  (λk ⟨(a0:List Int),(a1:List Int),_⟩=>by show AY Vq (El.f k a0 a1) _;unfold El.f;exact go)
end
section
attribute [local irreducible] JU.f El.f
def Xw:AQ:=⟨[(.row 73 (.int .u64)),(.row 73 (.int .u64))],[.bool],λk x=>(N3.f k x.1 x.2.1).map λr=>(r,())⟩
def mF (r:Bool):TT Xw.rs:=(r,())
theorem ABb:Cl Tryz.prog 77 Xw :=
 AT (Bt:=AL []) (l:= [(110, .pu VB),(131, .pu Nw)]) (C:=AZ) (by kernel_rfl) AI ⟨yl,cE,trivial⟩ (fn:=Tryz.f77) (by kernel_rfl) rfl (by kernel_rfl) (by decide) (by kernel_rfl) (F:=λk x=>N3.f k x.1 x.2.1) (m:=mF) (λk x=>rfl)
  (by exact trivial)
  (λk ⟨(a0:List Int),(a1:List Int),_⟩=>by show AY mF (N3.f k a0 a1) _;unfold N3.f;exact go)
end
section
attribute [local irreducible] Bm.f
def DN:AQ:=⟨[(.row 73 (.int .u64))],[(.row 73 (.int .u64))],λk x=>(Ay.f k x.1).map λr=>(r,())⟩
def mG (r:List Int):TT DN.rs:=(r,())
theorem Dv:Cl Tryz.prog 187 DN :=
 AT (Bt:=AL []) (l:= [(192, .pu KQ)]) (C:=AZ) (by kernel_rfl) AI ⟨SE,trivial⟩ (fn:=Tryz.f187) (by kernel_rfl) rfl (by kernel_rfl) (by decide) (by kernel_rfl) (F:=λk x=>Ay.f k x.1) (m:=mG) (λk x=>rfl)
  (by exact trivial)
  (λk ⟨(a0:List Int),_⟩=>by show AY mG (Ay.f k a0) _;unfold Ay.f;exact go)
end
section
def Lu:AQ:=⟨[.int .u64, .int .u64, .int .u64],[.int .u64, .int .u64],λ_ x=>(D8.f x.1 x.2.1 x.2.2.1).map λr=>(r.1,r.2,())⟩
def mH (r:Int × Int):TT Lu.rs:=(r.1,r.2,())
theorem SH:Cl Tryz.prog 193 Lu :=
 AT (Bt:=AL []) (l:= []) (C:=AZ) (by kernel_rfl) AI trivial (fn:=Tryz.f193) (by kernel_rfl) rfl (by kernel_rfl) (by decide) (by kernel_rfl) (F:=λk x=>D8.f x.1 x.2.1 x.2.2.1) (m:=mH) (λk x=>rfl)
  (by exact trivial)
  (λk ⟨(a0:Int),(a1:Int),(a2:Int),_⟩=>by show AY mH (D8.f a0 a1 a2) _;unfold D8.f;exact go)
end
section
attribute [local irreducible] Ay.f D8.f
def Nu:AQ:=⟨[(.row 73 (.int .u64)),(.row 73 (.int .u64))],[(.row 73 (.int .u64))],λk x=>(Bc.f k x.1 x.2.1).map λr=>(r,())⟩
def Vr (r:List Int):TT Nu.rs:=(r,())
@[reducible] def Xx:List Slot:= [.tmp 1 [.ty (.row 73 (.int .u64))], .tmp 5 [.own .mine 5 73 (.int .u64)], .tmp 6 [.ty (.int .u64)], .tmp 21 [.ty (.row 73 (.int .u64))], .tmp 22 [.ty (.int .i64)], .tmp 23 [.ty (.int .i64)]]
def mI (k:Nat) (x:TS Xx):Option (List Int):=Bc.l0 k x.1.1 x.2.1.1 x.2.2.1.1 x.2.2.2.1.1 x.2.2.2.2.1.1 x.2.2.2.2.2.1.1
def AD7:Bb (TT Nu.rs):=⟨⟨53,53,[]⟩,AE [(0,⟨Xx,λk x=>(mI k x).map Vr⟩)],AE [],AE []⟩
theorem Zs:Bc.l1=Bc.l0:=by
 funext k
 induction k with
 | zero=>rfl
 | succ k ih=>funext x0 x1 x2 x3 x4 x5;simp only[Bc.l1,Bc.l0,ih]
theorem Vp:Cl Tryz.prog 132 Nu :=
 AT (Bt:=AL []) (l:= [(187, .pu DN),(193, .pu Lu)]) (C:=AD7) (by kernel_rfl) AI ⟨Dv,SH,trivial⟩ (fn:=Tryz.f132) (by kernel_rfl) rfl (by kernel_rfl) (by decide) (by kernel_rfl) (F:=λk x=>Bc.f k x.1 x.2.1) (m:=Vr) (λk x=>rfl)
  (by
   refine And.intro ?_ ?_
   ·refine Ap (sl:=Xx) (F:=mI) (λx=>rfl) λk ⟨⟨(x1:List Int),_⟩,⟨(x5:List Int),_⟩,⟨(x6:Int),_⟩,⟨(Sm:List Int),_⟩,⟨(N2:Int),_⟩,⟨(NP:Int),_⟩,_⟩=> ?_
    show AY Vr (Bc.l0 (k+1) x1 x5 x6 Sm N2 NP) _;rw[Bc.l0];(try simp only[Zs]);exact go
   exact trivial)
  (λk ⟨(a0:List Int),(a1:List Int),_⟩=>by show AY Vr (Bc.f k a0 a1) _;unfold Bc.f;(try simp only[Zs]);exact go)
end
section
def ON:AQ:=⟨[.int .u64, .int .u64, .int .u64],[.int .u64, .int .u64],λ_ x=>(FC.f x.1 x.2.1 x.2.2.1).map λr=>(r.1,r.2,())⟩
def mJ (r:Int × Int):TT ON.rs:=(r.1,r.2,())
theorem Xy:Cl Tryz.prog 194 ON :=
 AT (Bt:=AL []) (l:= []) (C:=AZ) (by kernel_rfl) AI trivial (fn:=Tryz.f194) (by kernel_rfl) rfl (by kernel_rfl) (by decide) (by kernel_rfl) (F:=λk x=>FC.f x.1 x.2.1 x.2.2.1) (m:=mJ) (λk x=>rfl)
  (by exact trivial)
  (λk ⟨(a0:Int),(a1:Int),(a2:Int),_⟩=>by show AY mJ (FC.f a0 a1 a2) _;unfold FC.f;exact go)
end
section
attribute [local irreducible] El.f Ay.f FC.f
def Qh:AQ:=⟨[(.row 73 (.int .u64)),(.row 73 (.int .u64))],[(.row 73 (.int .u64)), .bool],λk x=>(Dk.f k x.1 x.2.1).map λr=>(r.1,r.2,())⟩
def Vs (r:List Int × Bool):TT Qh.rs:=(r.1,r.2,())
@[reducible] def Xz:List Slot:= [.tmp 1 [.ty (.row 73 (.int .u64))], .tmp 6 [.own .mine 6 73 (.int .u64)], .tmp 7 [.ty (.int .u64)], .tmp 18 [.ty (.row 73 (.int .u64))], .tmp 19 [.ty (.int .i64)], .tmp 20 [.ty (.int .i64)]]
def mK (k:Nat) (x:TS Xz):Option (List Int × Bool):=Dk.l0 k x.1.1 x.2.1.1 x.2.2.1.1 x.2.2.2.1.1 x.2.2.2.2.1.1 x.2.2.2.2.2.1.1
def AD8:Bb (TT Qh.rs):=⟨⟨47,47,[]⟩,AE [(0,⟨Xz,λk x=>(mK k x).map Vs⟩)],AE [],AE []⟩
theorem cF:Cl Tryz.prog 133 Qh :=
 AT (Bt:=AL []) (l:= [(131, .pu Nw),(187, .pu DN),(194, .pu ON)]) (C:=AD8) (by kernel_rfl) AI ⟨cE,Dv,Xy,trivial⟩ (fn:=Tryz.f133) (by kernel_rfl) rfl (by kernel_rfl) (by decide) (by kernel_rfl) (F:=λk x=>Dk.f k x.1 x.2.1) (m:=Vs) (λk x=>rfl)
  (by
   refine And.intro ?_ ?_
   ·refine Ap (sl:=Xz) (F:=mK) (λx=>rfl) λk ⟨⟨(x1:List Int),_⟩,⟨(x6:List Int),_⟩,⟨(x7:Int),_⟩,⟨(x18:List Int),_⟩,⟨(oa:Int),_⟩,⟨(aV:Int),_⟩,_⟩=> ?_
    show AY Vs (Dk.l0 (k+1) x1 x6 x7 x18 oa aV) _;rw[Dk.l0];exact go
   exact trivial)
  (λk ⟨(a0:List Int),(a1:List Int),_⟩=>by show AY Vs (Dk.f k a0 a1) _;unfold Dk.f;exact go)
end
section
attribute [local irreducible] Bc.f Dk.f
def cG:AQ:=⟨[.bool,(.row 73 (.int .u64)), .bool,(.row 73 (.int .u64))],[.bool,(.row 73 (.int .u64))],λk x=>(Ol.f k x.1 x.2.1 x.2.2.1 x.2.2.2.1).map λr=>(r.1,r.2,())⟩
def pU (r:Bool × List Int):TT cG.rs:=(r.1,r.2,())
theorem AD9:Cl Tryz.prog 78 cG :=
 AT (Bt:=AL []) (l:= [(132, .pu Nu),(133, .pu Qh)]) (C:=AZ) (by kernel_rfl) AI ⟨Vp,cF,trivial⟩ (fn:=Tryz.f78) (by kernel_rfl) rfl (by kernel_rfl) (by decide) (by kernel_rfl) (F:=λk x=>Ol.f k x.1 x.2.1 x.2.2.1 x.2.2.2.1) (m:=pU) (λk x=>rfl)
  (by exact trivial)
  (λk ⟨(a0:Bool),(a1:List Int),(a2:Bool),(a3:List Int),_⟩=>by show AY pU (Ol.f k a0 a1 a2 a3) _;unfold Ol.f;exact go)
end
section
attribute [local irreducible] Ay.f
def Qa:AQ:=⟨[.int .u64],[(.row 73 (.int .u64))],λk x=>(Kw.f k x.1).map λr=>(r,())⟩
def ym (r:List Int):TT Qa.rs:=(r,())
theorem Zb:Cl Tryz.prog 117 Qa :=
 AT (Bt:=AL []) (l:= [(187, .pu DN)]) (C:=AZ) (by kernel_rfl) AI ⟨Dv,trivial⟩ (fn:=Tryz.f117) (by kernel_rfl) rfl (by kernel_rfl) (by decide) (by kernel_rfl) (F:=λk x=>Kw.f k x.1) (m:=ym) (λk x=>rfl)
  (by exact trivial)
  (λk ⟨(a0:Int),_⟩=>by show AY ym (Kw.f k a0) _;unfold Kw.f;exact go)
end
section
def E9:AQ:=⟨[.int .u64],[.int .i64],λk x=>(BV.f k x.1).map λr=>(r,())⟩
def SI (r:Int):TT E9.rs:=(r,())
@[reducible] def VD:List Slot:= [.tmp 0 [.ty (.int .u64)], .tmp 3 [.ty (.int .i64)], .tmp 4 [.ty (.int .i64)]]
def fN (k:Nat) (x:TS VD):Option (Int):=BV.l0 k x.1.1 x.2.1.1 x.2.2.1.1
def ABc:Bb (TT E9.rs):=⟨⟨23,23,[]⟩,AE [(0,⟨VD,λk x=>(fN k x).map SI⟩)],AE [],AE []⟩
theorem Hx:Cl Tryz.prog 195 E9 :=
 AT (Bt:=AL []) (l:= []) (C:=ABc) (by kernel_rfl) AI trivial (fn:=Tryz.f195) (by kernel_rfl) rfl (by kernel_rfl) (by decide) (by kernel_rfl) (F:=λk x=>BV.f k x.1) (m:=SI) (λk x=>rfl)
  (by
   refine And.intro ?_ ?_
   ·refine Ap (sl:=VD) (F:=fN) (λx=>rfl) λk ⟨⟨(x0:Int),_⟩,⟨(x3:Int),_⟩,⟨(x4:Int),_⟩,_⟩=> ?_
    show AY SI (BV.l0 (k+1) x0 x3 x4) _;rw[BV.l0];exact go
   exact trivial)
  (λk ⟨(a0:Int),_⟩=>by show AY SI (BV.f k a0) _;unfold BV.f;exact go)
end
section
def Nd:AQ:=⟨[.int .u64, .int .u64, .int .u64],[.int .u64, .int .u64],λk x=>(Bu.f k x.1 x.2.1 x.2.2.1).map λr=>(r.1,r.2,())⟩
def Jg (r:Int × Int):TT Nd.rs:=(r.1,r.2,())
@[reducible] def Py:List Slot:= [.tmp 0 [.ty (.int .u64)], .tmp 1 [.ty (.int .u64)], .tmp 2 [.ty (.int .u64)], .tmp 8 [.ty (.int .u64)], .tmp 9 [.ty (.int .u64)], .tmp 10 [.ty (.int .u64)], .tmp 11 [.ty (.int .u64)]]
def Wu (k:Nat) (x:TS Py):Option (Int × Int):=Bu.l0 k x.1.1 x.2.1.1 x.2.2.1.1 x.2.2.2.1.1 x.2.2.2.2.1.1 x.2.2.2.2.2.1.1 x.2.2.2.2.2.2.1.1
@[reducible] def Pz:List Slot:= [.tmp 0 [.ty (.int .u64)], .tmp 1 [.ty (.int .u64)], .tmp 2 [.ty (.int .u64)], .tmp 8 [.ty (.int .u64)], .tmp 9 [.ty (.int .u64)], .tmp 10 [.ty (.int .u64)], .tmp 11 [.ty (.int .u64)], .tmp 33 [.ty .bool]]
def Wv (k:Nat) (x:TS Pz):Option (Int × Int):=Bu.j1 k x.1.1 x.2.1.1 x.2.2.1.1 x.2.2.2.1.1 x.2.2.2.2.1.1 x.2.2.2.2.2.1.1 x.2.2.2.2.2.2.1.1 x.2.2.2.2.2.2.2.1.1
def uA:Bb (TT Nd.rs):=⟨⟨50,50,[]⟩,AE [(0,⟨Py,λk x=>(Wu k x).map Jg⟩)],AE [],AE [(4,⟨Pz,λk x=>(Wv k x).map Jg⟩)]⟩
theorem uB:Cl Tryz.prog 257 Nd :=
 AT (Bt:=AL []) (l:= []) (C:=uA) (by kernel_rfl) AI trivial (fn:=Tryz.f257) (by kernel_rfl) rfl (by kernel_rfl) (by decide) (by kernel_rfl) (F:=λk x=>Bu.f k x.1 x.2.1 x.2.2.1) (m:=Jg) (λk x=>rfl)
  (by
   refine And.intro ?_ ?_
   ·refine Ap (sl:=Py) (F:=Wu) (λx=>rfl) λk ⟨⟨(x0:Int),_⟩,⟨(x1:Int),_⟩,⟨(x2:Int),_⟩,⟨(x8:Int),_⟩,⟨(x9:Int),_⟩,⟨(Jl:Int),_⟩,⟨(Ik:Int),_⟩,_⟩=> ?_
    show AY Jg (Bu.l0 (k+1) x0 x1 x2 x8 x9 Jl Ik) _;rw[Bu.l0];exact go
   refine And.intro ?_ ?_
   ·refine Al (sl:=Pz) (F:=Wv) (λx=>rfl) λk ⟨⟨(x0:Int),_⟩,⟨(x1:Int),_⟩,⟨(x2:Int),_⟩,⟨(x8:Int),_⟩,⟨(x9:Int),_⟩,⟨(Jl:Int),_⟩,⟨(Ik:Int),_⟩,⟨(x33:Bool),_⟩,_⟩=> ?_
    show AY Jg (Bu.j1 (k+1) x0 x1 x2 x8 x9 Jl Ik x33) _;rw[Bu.j1];exact go
   exact trivial)
  (λk ⟨(a0:Int),(a1:Int),(a2:Int),_⟩=>by show AY Jg (Bu.f k a0 a1 a2) _;unfold Bu.f;exact go)
end
section
attribute [local irreducible] BV.f Bu.f
def OO:AQ:=⟨[.int .u64, .int .u64, .int .u64],[.int .u64, .int .u64, .bool],λk x=>(Il.f k x.1 x.2.1 x.2.2.1).map λr=>(r.1,r.2.1,r.2.2,())⟩
def mL (r:Int × Int × Bool):TT OO.rs:=(r.1,r.2.1,r.2.2,())
theorem X1:Cl Tryz.prog 218 OO :=
 AT (Bt:=AL [(5,[0,0,3,0,8,0,32,120,255,511]),(9,[0,1,0,7,0,0,48,15,255,511])]) (l:= [(195, .pu E9),(257, .pu Nd)]) (C:=AZ) (by kernel_rfl) AI ⟨Hx,uB,trivial⟩ (fn:=Tryz.f218) (by kernel_rfl) rfl (by kernel_rfl) (by decide) (by kernel_rfl) (F:=λk x=>Il.f k x.1 x.2.1 x.2.2.1) (m:=mL) (λk x=>rfl)
  (by exact trivial)
  (λk ⟨(a0:Int),(a1:Int),(a2:Int),_⟩=>by show AY mL (Il.f k a0 a1 a2) _;unfold Il.f;exact go)
end
section
attribute [local irreducible] Ay.f Il.f
def Mf:AQ:=⟨[(.row 73 (.int .u64)), .int .u64],[(.row 73 (.int .u64)), .int .u64, .bool],λk x=>(DS.f k x.1 x.2.1).map λr=>(r.1,r.2.1,r.2.2,())⟩
def PO (r:List Int × Int × Bool):TT Mf.rs:=(r.1,r.2.1,r.2.2,())
@[reducible] def SJ:List Slot:= [.tmp 0 [.ty (.row 73 (.int .u64))], .tmp 1 [.ty (.int .u64)], .tmp 7 [.own .mine 7 73 (.int .u64)], .tmp 8 [.ty (.int .u64)], .tmp 9 [.ty (.int .i64)]]
def Zt (k:Nat) (x:TS SJ):Option (List Int × Int × Bool):=DS.l0 k x.1.1 x.2.1.1 x.2.2.1.1 x.2.2.2.1.1 x.2.2.2.2.1.1
def yp:Bb (TT Mf.rs):=⟨⟨44,44,[]⟩,AE [(0,⟨SJ,λk x=>(Zt k x).map PO⟩)],AE [],AE []⟩
theorem fP:Cl Tryz.prog 200 Mf :=
 AT (Bt:=AL []) (l:= [(187, .pu DN),(218, .pu OO)]) (C:=yp) (by kernel_rfl) AI ⟨Dv,X1,trivial⟩ (fn:=Tryz.f200) (by kernel_rfl) rfl (by kernel_rfl) (by decide) (by kernel_rfl) (F:=λk x=>DS.f k x.1 x.2.1) (m:=PO) (λk x=>rfl)
  (by
   refine And.intro ?_ ?_
   ·refine Ap (sl:=SJ) (F:=Zt) (λx=>rfl) λk ⟨⟨(x0:List Int),_⟩,⟨(x1:Int),_⟩,⟨(x7:List Int),_⟩,⟨(x8:Int),_⟩,⟨(x9:Int),_⟩,_⟩=> ?_
    show AY PO (DS.l0 (k+1) x0 x1 x7 x8 x9) _;rw[DS.l0];exact go
   exact trivial)
  (λk ⟨(a0:List Int),(a1:Int),_⟩=>by show AY PO (DS.f k a0 a1) _;unfold DS.f;exact go)
end
section
attribute [local irreducible] Bm.f BV.f
def Gm:AQ:=⟨[(.row 73 (.int .u64))],[.int .i64],λk x=>(DB.f k x.1).map λr=>(r,())⟩
def mM (r:Int):TT Gm.rs:=(r,())
theorem JF:Cl Tryz.prog 134 Gm :=
 AT (Bt:=AL []) (l:= [(192, .pu KQ),(195, .pu E9)]) (C:=AZ) (by kernel_rfl) AI ⟨SE,Hx,trivial⟩ (fn:=Tryz.f134) (by kernel_rfl) rfl (by kernel_rfl) (by decide) (by kernel_rfl) (F:=λk x=>DB.f k x.1) (m:=mM) (λk x=>rfl)
  (by exact trivial)
  (λk ⟨(a0:List Int),_⟩=>by show AY mM (DB.f k a0) _;unfold DB.f;exact go)
end
section
def pV:uq:=⟨[(.row 73 (.int .u64)), .int .i64],73, .int .u64,λk x=>(CC.f k x.1 x.2.1).map λr=>r⟩
theorem ABd:FNk Tryz.prog 210 pV:=⟨by kernel_rfl,λk x r h U w vs hU ha0=>by
 have h:CC.f k x.1 x.2.1=some r:=by
  obtain⟨r0,h0,rfl⟩:=AVD.mp h;exact h0
 obtain⟨cs0,vs0,rfl,q0,ha1⟩:=ha0.cons;obtain⟨A0,c0,rfl,C0,le0⟩:=AHw q0;obtain⟨cs1,vs1,rfl,q1,ha2⟩:=ha1.cons;obtain rfl:=(show _= [Value.int .i64 (x.2.1)] from q1);obtain rfl:vs1= []:=ha2;refine(CC.calls (k:=k) (A0:=A0) (c0:=c0) (l0:=x.1) (Yc:=C0) (hc0:=le0) (a1:=x.2.1) (r:=r) (w:=w) (h:=h)).mono ?_;rintro e w' ⟨v,rfl,R,hb⟩;obtain⟨inner,h1,h2⟩:=AHx R;exact⟨v,inner,rfl,h1,h2,hb⟩⟩
end
section
def KR:AQ:=⟨[.int .u64, .int .u64],[.int .u64, .int .u64],λ_ x=>(Dr.f x.1 x.2.1).map λr=>(r.1,r.2,())⟩
def mN (r:Int × Int):TT KR.rs:=(r.1,r.2,())
theorem OP:Cl Tryz.prog 196 KR :=
 AT (Bt:=AL []) (l:= []) (C:=AZ) (by kernel_rfl) AI trivial (fn:=Tryz.f196) (by kernel_rfl) rfl (by kernel_rfl) (by decide) (by kernel_rfl) (F:=λk x=>Dr.f x.1 x.2.1) (m:=mN) (λk x=>rfl)
  (by exact trivial)
  (λk ⟨(a0:Int),(a1:Int),_⟩=>by show AY mN (Dr.f a0 a1) _;unfold Dr.f;exact go)
end
section
attribute [local irreducible] FC.f Dr.f
def LD:AQ:=⟨[.int .u64, .int .u64, .int .u64, .int .u64, .int .u64, .int .u64],[.int .u64],λk x=>(BW.f k x.1 x.2.1 x.2.2.1 x.2.2.2.1 x.2.2.2.2.1 x.2.2.2.2.2.1).map λr=>(r,())⟩
def LF (r:Int):TT LD.rs:=(r,())
@[reducible] def Mq:List Slot:= [.tmp 0 [.ty (.int .u64)], .tmp 1 [.ty (.int .u64)], .tmp 2 [.ty (.int .u64)], .tmp 3 [.ty (.int .u64)], .tmp 4 [.ty (.int .u64)], .tmp 5 [.ty (.int .u64)]]
def TB (k:Nat) (x:TS Mq):Option (Int):=BW.l0 k x.1.1 x.2.1.1 x.2.2.1.1 x.2.2.2.1.1 x.2.2.2.2.1.1 x.2.2.2.2.2.1.1
def mO:Bb (TT LD.rs):=⟨⟨64,64,[]⟩,AE [(0,⟨Mq,λk x=>(TB k x).map LF⟩)],AE [],AE []⟩
theorem mP:Cl Tryz.prog 260 LD :=
 AT (Bt:=AL []) (l:= [(194, .pu ON),(196, .pu KR)]) (C:=mO) (by kernel_rfl) AI ⟨Xy,OP,trivial⟩ (fn:=Tryz.f260) (by kernel_rfl) rfl (by kernel_rfl) (by decide) (by kernel_rfl) (F:=λk x=>BW.f k x.1 x.2.1 x.2.2.1 x.2.2.2.1 x.2.2.2.2.1 x.2.2.2.2.2.1) (m:=LF) (λk x=>rfl)
  (by
   refine And.intro ?_ ?_
   ·refine Ap (sl:=Mq) (F:=TB) (λx=>rfl) λk ⟨⟨(x0:Int),_⟩,⟨(x1:Int),_⟩,⟨(x2:Int),_⟩,⟨(x3:Int),_⟩,⟨(x4:Int),_⟩,⟨(x5:Int),_⟩,_⟩=> ?_
    show AY LF (BW.l0 (k+1) x0 x1 x2 x3 x4 x5) _;rw[BW.l0];exact go
   exact trivial)
  (λk ⟨(a0:Int),(a1:Int),(a2:Int),(a3:Int),(a4:Int),(a5:Int),_⟩=>by show AY LF (BW.f k a0 a1 a2 a3 a4 a5) _;unfold BW.f;exact go)
end
section
attribute [local irreducible] Il.f BW.f
def SK:AQ:=⟨[(.row 73 (.int .u64)), .int .i64, .int .u64, .int .u64],[.int .u64],λk x=>(Gb.f k x.1 x.2.1 x.2.2.1 x.2.2.2.1).map λr=>(r,())⟩
def Zu (r:Int):TT SK.rs:=(r,())
theorem uC:Cl Tryz.prog 246 SK :=
 AT (Bt:=AL [(1,[0,0,3,7,0,0,32,112,240,0,0,1024,3584,7680,15,16895,65535])]) (l:= [(218, .pu OO),(260, .pu LD)]) (C:=AZ) (by kernel_rfl) AI ⟨X1,mP,trivial⟩ (fn:=Tryz.f246) (by kernel_rfl) rfl (by kernel_rfl) (by decide) (by kernel_rfl) (F:=λk x=>Gb.f k x.1 x.2.1 x.2.2.1 x.2.2.2.1) (m:=Zu) (λk x=>rfl)
  (by exact trivial)
  (λk ⟨(a0:List Int),(a1:Int),(a2:Int),(a3:Int),_⟩=>by show AY Zu (Gb.f k a0 a1 a2 a3) _;unfold Gb.f;exact go)
end
section
attribute [local irreducible] D8.f FC.f Dr.f
def Kl:DU:=⟨[.Ml 73 (.int .u64), .ty (.row 73 (.int .u64)), .ty (.int .i64), .ty (.int .u64)],[.bool],λk x=>(Cv.f k x.1 x.2.1 x.2.2.1 x.2.2.2.1).map λr=>((r.1,()),(r.2,()))⟩
def PR (r:Bool × List Int):TT Kl.rs × ET Kl.ps:=((r.1,()),(r.2,()))
@[reducible] def SL:List Slot:= [.tmp 0 [.own .kept 84 73 (.int .u64)], .tmp 1 [.ty (.row 73 (.int .u64))], .tmp 2 [.ty (.int .i64)], .tmp 3 [.ty (.int .u64)], .tmp 9 [.ty (.int .u64)], .tmp 10 [.ty (.int .u64)], .tmp 20 [.ty (.row 73 (.int .u64))], .tmp 21 [.ty (.int .i64)], .tmp 22 [.ty (.int .i64)]]
def Zv (k:Nat) (x:TS SL):Option (Bool × List Int):=Cv.l0 k x.1.1 x.2.1.1 x.2.2.1.1 x.2.2.2.1.1 x.2.2.2.2.1.1 x.2.2.2.2.2.1.1 x.2.2.2.2.2.2.1.1 x.2.2.2.2.2.2.2.1.1 x.2.2.2.2.2.2.2.2.1.1
def yq:Bb (TT Kl.rs × ET Kl.ps):=⟨⟨84,85,[84]⟩,AE [(0,⟨SL,λk x=>(Zv k x).map PR⟩)],AE [],AE []⟩
theorem yt:Qx Tryz.prog 247 Kl :=
 D7 (Bt:=AL []) (l:= [(193, .pu Lu),(194, .pu ON),(196, .pu KR)]) (C:=yq) (by kernel_rfl) AI ⟨SH,Xy,OP,trivial⟩ (fn:=Tryz.f247) (by kernel_rfl) rfl (by kernel_rfl) (by decide) (by kernel_rfl) (m:=85) (by decide) (by decide) (F:=λk x=>Cv.f k x.1 x.2.1 x.2.2.1 x.2.2.2.1) (q:=PR) (λk x=>rfl)
  (by
   refine And.intro ?_ ?_
   ·refine Ap (sl:=SL) (F:=Zv) (λx=>rfl) λk ⟨⟨(x0:List Int),_⟩,⟨(x1:List Int),_⟩,⟨(x2:Int),_⟩,⟨(x3:Int),_⟩,⟨(x9:Int),_⟩,⟨(Jl:Int),_⟩,⟨(aV:List Int),_⟩,⟨(Sm:Int),_⟩,⟨(N2:Int),_⟩,_⟩=> ?_
    show AY PR (Cv.l0 (k+1) x0 x1 x2 x3 x9 Jl aV Sm N2) _;rw[Cv.l0];exact go
   exact trivial)
  (λk ⟨(a0:List Int),(a1:List Int),(a2:Int),(a3:Int),_⟩=>by show AY PR (Cv.f k a0 a1 a2 a3) _;unfold Cv.f;exact go)
end
section
attribute [local irreducible] D8.f
def Km:DU:=⟨[.Ml 73 (.int .u64), .ty (.row 73 (.int .u64)), .ty (.int .i64)],[],λk x=>(C7.f k x.1 x.2.1 x.2.2.1).map λr=>((()),(r,()))⟩
def PS (r:List Int):TT Km.rs × ET Km.ps:=((()),(r,()))
@[reducible] def SM:List Slot:= [.tmp 0 [.own .kept 48 73 (.int .u64)], .tmp 1 [.ty (.row 73 (.int .u64))], .tmp 2 [.ty (.int .i64)], .tmp 6 [.ty (.int .u64)], .tmp 11 [.ty (.row 73 (.int .u64))], .tmp 12 [.ty (.int .i64)], .tmp 13 [.ty (.int .i64)]]
def Zw (k:Nat) (x:TS SM):Option (List Int):=C7.l0 k x.1.1 x.2.1.1 x.2.2.1.1 x.2.2.2.1.1 x.2.2.2.2.1.1 x.2.2.2.2.2.1.1 x.2.2.2.2.2.2.1.1
def yu:Bb (TT Km.rs × ET Km.ps):=⟨⟨48,49,[48]⟩,AE [(0,⟨SM,λk x=>(Zw k x).map PS⟩)],AE [],AE []⟩
theorem yw:Qx Tryz.prog 248 Km :=
 D7 (Bt:=AL []) (l:= [(193, .pu Lu)]) (C:=yu) (by kernel_rfl) AI ⟨SH,trivial⟩ (fn:=Tryz.f248) (by kernel_rfl) rfl (by kernel_rfl) (by decide) (by kernel_rfl) (m:=49) (by decide) (by decide) (F:=λk x=>C7.f k x.1 x.2.1 x.2.2.1) (q:=PS) (λk x=>rfl)
  (by
   refine And.intro ?_ ?_
   ·refine Ap (sl:=SM) (F:=Zw) (λx=>rfl) λk ⟨⟨(x0:List Int),_⟩,⟨(x1:List Int),_⟩,⟨(x2:Int),_⟩,⟨(x6:Int),_⟩,⟨(Ik:List Int),_⟩,⟨(aW:Int),_⟩,⟨(Hf:Int),_⟩,_⟩=> ?_
    show AY PS (C7.l0 (k+1) x0 x1 x2 x6 Ik aW Hf) _;rw[C7.l0];exact go
   exact trivial)
  (λk ⟨(a0:List Int),(a1:List Int),(a2:Int),_⟩=>by show AY PS (C7.f k a0 a1 a2) _;unfold C7.f;exact go)
end
section
attribute [local irreducible] Ay.f
def Qb:AQ:=⟨[(.row 73 (.int .u64)), .int .i64],[(.row 73 (.int .u64))],λk x=>(EO.f k x.1 x.2.1).map λr=>(r,())⟩
def Vt (r:List Int):TT Qb.rs:=(r,())
@[reducible] def X2:List Slot:= [.tmp 0 [.ty (.row 73 (.int .u64))], .tmp 6 [.ty (.int .i64)], .tmp 7 [.own .mine 7 73 (.int .u64)], .tmp 8 [.ty (.int .i64)]]
def mQ (k:Nat) (x:TS X2):Option (List Int):=match x with | ⟨⟨(x0:List Int),_⟩,⟨(x6:Int),_⟩,⟨(x7:List Int),_⟩,⟨(x8:Int),_⟩,_⟩=>if 0<=x6/\x6<64 then EO.l0 k x0 x6 x7 x8 else none
def AEA:Bb (TT Qb.rs):=⟨⟨59,59,[]⟩,AE [(0,⟨X2,λk x=>(mQ k x).map Vt⟩)],AE [],AE []⟩
theorem pR:Cl Tryz.prog 249 Qb :=
 AT (Bt:=AL [(12,[0,0,0,6,14,0,62,0,128,0,512,1920,4094,8190,16383,32767])]) (l:= [(187, .pu DN)]) (C:=AEA) (by kernel_rfl) AI ⟨Dv,trivial⟩ (fn:=Tryz.f249) (by kernel_rfl) rfl (by kernel_rfl) (by decide) (by kernel_rfl) (F:=λk x=>EO.f k x.1 x.2.1) (m:=Vt) (λk x=>rfl)
  (by
   refine And.intro ?_ ?_
   ·refine Ap (sl:=X2) (F:=mQ) (λ⟨⟨(x0:List Int),_⟩,⟨(x6:Int),_⟩,⟨(x7:List Int),_⟩,⟨(x8:Int),_⟩,_⟩=>by show(if 0<=x6/\x6<64 then EO.l0 0 x0 x6 x7 x8 else none)=none;split<;>rfl) λk ⟨⟨(x0:List Int),_⟩,⟨(x6:Int),_⟩,⟨(x7:List Int),_⟩,⟨(x8:Int),_⟩,_⟩=> ?_
    show AY Vt (if 0<=x6/\x6<64 then EO.l0 (k+1) x0 x6 x7 x8 else none) _;rw[EO.l0];exact go
   exact trivial)
  (λk ⟨(a0:List Int),(a1:Int),_⟩=>by show AY Vt (EO.f k a0 a1) _;unfold EO.f;exact go)
end
section
attribute [local irreducible] DB.f Ay.f CC.f Gb.f Cv.f C7.f EO.f
def PV:AQ:=⟨[(.row 73 (.int .u64)),(.row 73 (.int .u64))],[(.row 73 (.int .u64)),(.row 73 (.int .u64))],λk x=>(B5.f k x.1 x.2.1).map λr=>(r.1,r.2,())⟩
def Kn (r:List Int × List Int):TT PV.rs:=(r.1,r.2,())
@[reducible] def SN:List Slot:= [.tmp 0 [.ty (.row 73 (.int .u64))], .tmp 6 [.ty (.int .i64)], .tmp 7 [.ty (.row 73 (.int .u64))], .tmp 8 [.own .mine 8 73 (.int .u64)]]
def Zx (k:Nat) (x:TS SN):Option (List Int × List Int):=B5.l0 k x.1.1 x.2.1.1 x.2.2.1.1 x.2.2.2.1.1
@[reducible] def SP:List Slot:= [.tmp 6 [.ty (.int .i64)], .tmp 7 [.ty (.row 73 (.int .u64))], .tmp 8 [.own .mine 8 73 (.int .u64)], .tmp 9 [.ty (.int .i64)], .tmp 10 [.own .mine 10 73 (.int .u64)], .tmp 11 [.ty (.int .i64)]]
def Zy (k:Nat) (x:TS SP):Option (List Int × List Int):=B5.l1 k x.1.1 x.2.1.1 x.2.2.1.1 x.2.2.2.1.1 x.2.2.2.2.1.1 x.2.2.2.2.2.1.1
def yx:Bb (TT PV.rs):=⟨⟨83,83,[]⟩,AE [(0,⟨SN,λk x=>(Zx k x).map Kn⟩),(1,⟨SP,λk x=>(Zy k x).map Kn⟩)],AE [],AE []⟩
theorem yy:Cl Tryz.prog 202 PV :=
 AT (Bt:=AL [(11,[0,0,0,6,0,0,32,112,240,0,0,1024,3584,7680,16383,32767])]) (l:= [(134, .pu Gm),(187, .pu DN),(210, .nw pV),(246, .pu SK),(247, .io Kl [(67,83)]),(248, .io Km [(73,83)]),(249, .pu Qb)]) (C:=yx) (by kernel_rfl) AI ⟨JF,Dv,ABd,uC,yt,yw,pR,trivial⟩ (fn:=Tryz.f202) (by kernel_rfl) rfl (by kernel_rfl) (by decide) (by kernel_rfl) (F:=λk x=>B5.f k x.1 x.2.1) (m:=Kn) (λk x=>rfl)
  (by
   refine And.intro ?_ ?_
   ·refine Ap (sl:=SN) (F:=Zx) (λx=>rfl) λk ⟨⟨(x0:List Int),_⟩,⟨(x6:Int),_⟩,⟨(x7:List Int),_⟩,⟨(x8:List Int),_⟩,_⟩=> ?_
    show AY Kn (B5.l0 (k+1) x0 x6 x7 x8) _;rw[B5.l0];exact go
   refine And.intro ?_ ?_
   ·refine Ap (sl:=SP) (F:=Zy) (λx=>rfl) λk ⟨⟨(x6:Int),_⟩,⟨(x7:List Int),_⟩,⟨(x8:List Int),_⟩,⟨(x9:Int),_⟩,⟨(Jl:List Int),_⟩,⟨(Ik:Int),_⟩,_⟩=> ?_
    show AY Kn (B5.l1 (k+1) x6 x7 x8 x9 Jl Ik) _;rw[B5.l1];exact go
   exact trivial)
  (λk ⟨(a0:List Int),(a1:List Int),_⟩=>by show AY Kn (B5.f k a0 a1) _;unfold B5.f;exact go)
end
section
attribute [local irreducible] Kw.f El.f Ay.f DS.f B5.f
def OH:AQ:=⟨[(.row 73 (.int .u64)),(.row 73 (.int .u64))],[(.row 73 (.int .u64)),(.row 73 (.int .u64)), .bool],λk x=>(H6.f k x.1 x.2.1).map λr=>(r.1,r.2.1,r.2.2,())⟩
def mR (r:List Int × List Int × Bool):TT OH.rs:=(r.1,r.2.1,r.2.2,())
theorem Xr:Cl Tryz.prog 138 OH :=
 AT (Bt:=AL []) (l:= [(117, .pu Qa),(131, .pu Nw),(187, .pu DN),(200, .pu Mf),(202, .pu PV)]) (C:=AZ) (by kernel_rfl) AI ⟨Zb,cE,Dv,fP,yy,trivial⟩ (fn:=Tryz.f138) (by kernel_rfl) rfl (by kernel_rfl) (by decide) (by kernel_rfl) (F:=λk x=>H6.f k x.1 x.2.1) (m:=mR) (λk x=>rfl)
  (by exact trivial)
  (λk ⟨(a0:List Int),(a1:List Int),_⟩=>by show AY mR (H6.f k a0 a1) _;unfold H6.f;exact go)
end
section
attribute [local irreducible] Bm.f
def Ro:AQ:=⟨[(.row 73 (.int .u64))],[.int .u64, .bool],λk x=>(J2.f k x.1).map λr=>(r.1,r.2,())⟩
def mS (r:Int × Bool):TT Ro.rs:=(r.1,r.2,())
theorem lT:Cl Tryz.prog 199 Ro :=
 AT (Bt:=AL []) (l:= [(192, .pu KQ)]) (C:=AZ) (by kernel_rfl) AI ⟨SE,trivial⟩ (fn:=Tryz.f199) (by kernel_rfl) rfl (by kernel_rfl) (by decide) (by kernel_rfl) (F:=λk x=>J2.f k x.1) (m:=mS) (λk x=>rfl)
  (by exact trivial)
  (λk ⟨(a0:List Int),_⟩=>by show AY mS (J2.f k a0) _;unfold J2.f;exact go)
end
section
def PW:AQ:=⟨[.int .u64, .int .u64],[.int .u64],λk x=>(EE.f k x.1 x.2.1).map λr=>(r,())⟩
def PX (r:Int):TT PW.rs:=(r,())
@[reducible] def SQ:List Slot:= [.tmp 0 [.ty (.int .u64)], .tmp 1 [.ty (.int .u64)]]
def Zz (k:Nat) (x:TS SQ):Option (Int):=EE.l0 k x.1.1 x.2.1.1
def yz:Bb (TT PW.rs):=⟨⟨12,12,[]⟩,AE [(0,⟨SQ,λk x=>(Zz k x).map PX⟩)],AE [],AE []⟩
theorem y8:Cl Tryz.prog 201 PW :=
 AT (Bt:=AL [(2,[0,0,0,6,3,31])]) (l:= []) (C:=yz) (by kernel_rfl) AI trivial (fn:=Tryz.f201) (by kernel_rfl) rfl (by kernel_rfl) (by decide) (by kernel_rfl) (F:=λk x=>EE.f k x.1 x.2.1) (m:=PX) (λk x=>rfl)
  (by
   refine And.intro ?_ ?_
   ·refine Ap (sl:=SQ) (F:=Zz) (λx=>rfl) λk ⟨⟨(x0:Int),_⟩,⟨(x1:Int),_⟩,_⟩=> ?_
    show AY PX (EE.l0 (k+1) x0 x1) _;rw[EE.l0];exact go
   exact trivial)
  (λk ⟨(a0:Int),(a1:Int),_⟩=>by show AY PX (EE.f k a0 a1) _;unfold EE.f;exact go)
end
section
attribute [local irreducible] Kw.f H6.f Ay.f J2.f DS.f EE.f
def Vu:AQ:=⟨[(.row 73 (.int .u64)),(.row 73 (.int .u64))],[(.row 73 (.int .u64))],λk x=>(GI.f k x.1 x.2.1).map λr=>(r,())⟩
def Vv (r:List Int):TT Vu.rs:=(r,())
@[reducible] def X3:List Slot:= [.tmp 0 [.ty (.row 73 (.int .u64))], .tmp 1 [.ty (.row 73 (.int .u64))]]
def mT (k:Nat) (x:TS X3):Option (List Int):=GI.l0 k x.1.1 x.2.1.1
def AEB:Bb (TT Vu.rs):=⟨⟨48,48,[]⟩,AE [(0,⟨X3,λk x=>(mT k x).map Vv⟩)],AE [],AE []⟩
theorem AEC:Cl Tryz.prog 137 Vu :=
 AT (Bt:=AL []) (l:= [(117, .pu Qa),(138, .pu OH),(187, .pu DN),(199, .pu Ro),(200, .pu Mf),(201, .pu PW)]) (C:=AEB) (by kernel_rfl) AI ⟨Zb,Xr,Dv,lT,fP,y8,trivial⟩ (fn:=Tryz.f137) (by kernel_rfl) rfl (by kernel_rfl) (by decide) (by kernel_rfl) (F:=λk x=>GI.f k x.1 x.2.1) (m:=Vv) (λk x=>rfl)
  (by
   refine And.intro ?_ ?_
   ·refine Ap (sl:=X3) (F:=mT) (λx=>rfl) λk ⟨⟨(x0:List Int),_⟩,⟨(x1:List Int),_⟩,_⟩=> ?_
    show AY Vv (GI.l0 (k+1) x0 x1) _;rw[GI.l0];exact go
   exact trivial)
  (λk ⟨(a0:List Int),(a1:List Int),_⟩=>by show AY Vv (GI.f k a0 a1) _;unfold GI.f;exact go)
end
section
attribute [local irreducible] GI.f H6.f
def Nf:AQ:=⟨[(.row 73 (.int .u64)),(.row 73 (.int .u64))],[(.row 73 (.int .u64)),(.row 73 (.int .u64))],λk x=>(Gc.f k x.1 x.2.1).map λr=>(r.1,r.2,())⟩
def Z0 (r:List Int × List Int):TT Nf.rs:=(r.1,r.2,())
theorem Z1:Cl Tryz.prog 82 Nf :=
 AT (Bt:=AL []) (l:= [(137, .pu Vu),(138, .pu OH)]) (C:=AZ) (by kernel_rfl) AI ⟨AEC,Xr,trivial⟩ (fn:=Tryz.f82) (by kernel_rfl) rfl (by kernel_rfl) (by decide) (by kernel_rfl) (F:=λk x=>Gc.f k x.1 x.2.1) (m:=Z0) (λk x=>rfl)
  (by exact trivial)
  (λk ⟨(a0:List Int),(a1:List Int),_⟩=>by show AY Z0 (Gc.f k a0 a1) _;unfold Gc.f;exact go)
end
section
attribute [local irreducible] Gc.f
def Ng:AQ:=⟨[.bool,(.row 73 (.int .u64)),(.row 73 (.int .u64))],[(.cons .bool (.cons (.row 73 (.int .u64)) (.row 73 (.int .u64))))],λk x=>(Fm.f k x.1 x.2.1 x.2.2.1).map λr=>((r.1,r.2.1,r.2.2),())⟩
def Z2 (r:Bool × List Int × List Int):TT Ng.rs:=((r.1,r.2.1,r.2.2),())
theorem Z3:Cl Tryz.prog 79 Ng :=
 AT (Bt:=AL []) (l:= [(82, .pu Nf)]) (C:=AZ) (by kernel_rfl) AI ⟨Z1,trivial⟩ (fn:=Tryz.f79) (by kernel_rfl) rfl (by kernel_rfl) (by decide) (by kernel_rfl) (F:=λk x=>Fm.f k x.1 x.2.1 x.2.2.1) (m:=Z2) (λk x=>rfl)
  (by exact trivial)
  (λk ⟨(a0:Bool),(a1:List Int),(a2:List Int),_⟩=>by show AY Z2 (Fm.f k a0 a1 a2) _;unfold Fm.f;exact go)
end
section
def Vx:AQ:=⟨[],[(.row 73 (.int .u64))],λ_ _=>(NQ.f).map λr=>(r,())⟩
def pW (r:List Int):TT Vx.rs:=(r,())
theorem pX:Cl Tryz.prog 118 Vx :=
 AT (Bt:=AL []) (l:= []) (C:=AZ) (by kernel_rfl) AI trivial (fn:=Tryz.f118) (by kernel_rfl) rfl (by kernel_rfl) (by decide) (by kernel_rfl) (F:=λk x=>NQ.f) (m:=pW) (λk x=>rfl)
  (by exact trivial)
  (λk x=>by show AY pW (NQ.f) _;unfold NQ.f;exact go)
end
section
attribute [local irreducible] NQ.f DB.f
def SR:AQ:=⟨[(.row 73 (.int .u64))],[(.row 73 (.int .u64))],λk x=>(Im.f k x.1).map λr=>(r,())⟩
def mU (r:List Int):TT SR.rs:=(r,())
theorem mV:Cl Tryz.prog 80 SR :=
 AT (Bt:=AL []) (l:= [(118, .pu Vx),(134, .pu Gm)]) (C:=AZ) (by kernel_rfl) AI ⟨pX,JF,trivial⟩ (fn:=Tryz.f80) (by kernel_rfl) rfl (by kernel_rfl) (by decide) (by kernel_rfl) (F:=λk x=>Im.f k x.1) (m:=mU) (λk x=>rfl)
  (by exact trivial)
  (λk ⟨(a0:List Int),_⟩=>by show AY mU (Im.f k a0) _;unfold Im.f;exact go)
end
section
attribute [local irreducible] Ay.f
def SS:AQ:=⟨[(.row 73 (.int .u64)), .int .i64],[(.row 73 (.int .u64))],λk x=>(Ew.f k x.1 x.2.1).map λr=>(r,())⟩
def Z4 (r:List Int):TT SS.rs:=(r,())
theorem Z5:Cl Tryz.prog 198 SS :=
 AT (Bt:=AL []) (l:= [(187, .pu DN)]) (C:=AZ) (by kernel_rfl) AI ⟨Dv,trivial⟩ (fn:=Tryz.f198) (by kernel_rfl) rfl (by kernel_rfl) (by decide) (by kernel_rfl) (F:=λk x=>Ew.f k x.1 x.2.1) (m:=Z4) (λk x=>rfl)
  (by exact trivial)
  (λk ⟨(a0:List Int),(a1:Int),_⟩=>by show AY Z4 (Ew.f k a0 a1) _;unfold Ew.f;exact go)
end
section
attribute [local irreducible] Ay.f
def VE:AQ:=⟨[(.row 73 (.int .u64)), .int .i64, .int .i64],[(.row 73 (.int .u64))],λk x=>(FX.f k x.1 x.2.1 x.2.2.1).map λr=>(r,())⟩
def fQ (r:List Int):TT VE.rs:=(r,())
theorem fS:Cl Tryz.prog 197 VE :=
 AT (Bt:=AL []) (l:= [(187, .pu DN)]) (C:=AZ) (by kernel_rfl) AI ⟨Dv,trivial⟩ (fn:=Tryz.f197) (by kernel_rfl) rfl (by kernel_rfl) (by decide) (by kernel_rfl) (F:=λk x=>FX.f k x.1 x.2.1 x.2.2.1) (m:=fQ) (λk x=>rfl)
  (by exact trivial)
  (λk ⟨(a0:List Int),(a1:Int),(a2:Int),_⟩=>by show AY fQ (FX.f k a0 a1 a2) _;unfold FX.f;exact go)
end
section
attribute [local irreducible] Ay.f D8.f Dr.f
def PY:AQ:=⟨[(.row 73 (.int .u64)),(.row 73 (.int .u64))],[(.row 73 (.int .u64))],λk x=>(Bz.f k x.1 x.2.1).map λr=>(r,())⟩
def Ko (r:List Int):TT PY.rs:=(r,())
@[reducible] def SU:List Slot:= [.tmp 1 [.ty (.row 73 (.int .u64))], .tmp 5 [.own .mine 5 73 (.int .u64)], .tmp 21 [.ty (.row 73 (.int .u64))], .tmp 22 [.ty (.int .i64)], .tmp 23 [.ty (.int .i64)]]
def Z6 (k:Nat) (x:TS SU):Option (List Int):=Bz.l0 k x.1.1 x.2.1.1 x.2.2.1.1 x.2.2.2.1.1 x.2.2.2.2.1.1
@[reducible] def SW:List Slot:= [.tmp 1 [.ty (.row 73 (.int .u64))], .tmp 5 [.own .mine 5 73 (.int .u64)], .tmp 6 [.ty (.int .i64)], .tmp 7 [.ty (.int .u64)], .tmp 8 [.ty (.int .u64)], .tmp 21 [.ty (.row 73 (.int .u64))], .tmp 22 [.ty (.int .i64)], .tmp 23 [.ty (.int .i64)], .tmp 28 [.ty (.row 73 (.int .u64))], .tmp 29 [.ty (.int .i64)], .tmp 30 [.ty (.int .i64)]]
def Z7 (k:Nat) (x:TS SW):Option (List Int):=Bz.l1 k x.1.1 x.2.1.1 x.2.2.1.1 x.2.2.2.1.1 x.2.2.2.2.1.1 x.2.2.2.2.2.1.1 x.2.2.2.2.2.2.1.1 x.2.2.2.2.2.2.2.1.1 x.2.2.2.2.2.2.2.2.1.1 x.2.2.2.2.2.2.2.2.2.1.1 x.2.2.2.2.2.2.2.2.2.2.1.1
def y9:Bb (TT PY.rs):=⟨⟨73,73,[]⟩,AE [(0,⟨SU,λk x=>(Z6 k x).map Ko⟩),(1,⟨SW,λk x=>(Z7 k x).map Ko⟩)],AE [],AE []⟩
theorem fT:Cl Tryz.prog 135 PY :=
 AT (Bt:=AL []) (l:= [(187, .pu DN),(193, .pu Lu),(196, .pu KR)]) (C:=y9) (by kernel_rfl) AI ⟨Dv,SH,OP,trivial⟩ (fn:=Tryz.f135) (by kernel_rfl) rfl (by kernel_rfl) (by decide) (by kernel_rfl) (F:=λk x=>Bz.f k x.1 x.2.1) (m:=Ko) (λk x=>rfl)
  (by
   refine And.intro ?_ ?_
   ·refine Ap (sl:=SU) (F:=Z6) (λx=>rfl) λk ⟨⟨(x1:List Int),_⟩,⟨(x5:List Int),_⟩,⟨(Sm:List Int),_⟩,⟨(N2:Int),_⟩,⟨(NP:Int),_⟩,_⟩=> ?_
    show AY Ko (Bz.l0 (k+1) x1 x5 Sm N2 NP) _;rw[Bz.l0];exact go
   refine And.intro ?_ ?_
   ·refine Ap (sl:=SW) (F:=Z7) (λx=>rfl) λk ⟨⟨(x1:List Int),_⟩,⟨(x5:List Int),_⟩,⟨(x6:Int),_⟩,⟨(x7:Int),_⟩,⟨(x8:Int),_⟩,⟨(Sm:List Int),_⟩,⟨(N2:Int),_⟩,⟨(NP:Int),_⟩,⟨(x28:List Int),_⟩,⟨(cV:Int),_⟩,⟨(rV:Int),_⟩,_⟩=> ?_
    show AY Ko (Bz.l1 (k+1) x1 x5 x6 x7 x8 Sm N2 NP x28 cV rV) _;rw[Bz.l1];exact go
   exact trivial)
  (λk ⟨(a0:List Int),(a1:List Int),_⟩=>by show AY Ko (Bz.f k a0 a1) _;unfold Bz.f;exact go)
end
section
attribute [local irreducible] Bc.f Dk.f Ew.f FX.f Bz.f
def Hy:AQ:=⟨[(.row 73 (.int .u64)),(.row 73 (.int .u64))],[(.row 73 (.int .u64))],λk x=>(D9.f k x.1 x.2.1).map λr=>(r,())⟩
def OQ (r:List Int):TT Hy.rs:=(r,())
def MG:AQ:=⟨[(.row 73 (.int .u64)),(.row 73 (.int .u64))],[(.row 73 (.int .u64))],λk x=>(KW.f (D9.f k) k x.1 x.2.1).map OQ⟩
theorem nj (k:Nat) (ih : ∀j,j<=k->qp Tryz.prog 81 Hy j):qp Tryz.prog 136 MG k :=
 zx (s:=MG) (Bt:=AL []) (l:= [(81, .pu Hy),(132, .pu Nu),(133, .pu Qh),(197, .pu VE),(198, .pu SS)]) (C:=AZ) (k:=k) (by kernel_rfl) AI ⟨⟨by kernel_rfl,ih⟩,⟨Vp.1,λj _=>Vp.2 j⟩,⟨cF.1,λj _=>cF.2 j⟩,⟨fS.1,λj _=>fS.2 j⟩,⟨Z5.1,λj _=>Z5.2 j⟩,trivial⟩ (fn:=Tryz.f136) (by kernel_rfl) rfl (by kernel_rfl) (by decide) (F:=λx=>KW.f (D9.f k) k x.1 x.2.1) (m:=OQ) (λx=>rfl)
  (by exact trivial)
  (λ⟨(a0:List Int),(a1:List Int),_⟩=>by show AY OQ (KW.f (D9.f k) k a0 a1) _;unfold KW.f;exact go)
theorem ABe (k:Nat) (ih : ∀j,j<=k->qp Tryz.prog 136 MG j):qp Tryz.prog 81 Hy (k+1) :=
 zx (s:=Hy) (Bt:=AL []) (l:= [(135, .pu PY),(136, .pu MG)]) (C:=AZ) (k:=k) (by kernel_rfl) AI ⟨⟨fT.1,λj _=>fT.2 j⟩,⟨by kernel_rfl,ih⟩,trivial⟩ (fn:=Tryz.f81) (by kernel_rfl) rfl (by kernel_rfl) (by decide) (F:=λx=>D9.f (k+1) x.1 x.2.1) (m:=OQ) (λx=>rfl)
  (by exact trivial)
  (λ⟨(a0:List Int),(a1:List Int),_⟩=>by show AY OQ (D9.f (k+1) a0 a1) _;rw[D9.f];exact go)
theorem X4 : ∀k j,j<=k->qp Tryz.prog 81 Hy j
 | 0,j,hj=>by
  obtain rfl:j=0:=by omega
  intro x r h;cases h
 | k+1,j,hj=>by
  rcases AUq j (k+1) with h | h
  ·exact X4 k j (by omega)
  ·obtain rfl:j=k+1:=by omega
   exact ABe k λi hi=>nj i λq hq=>X4 k q (by omega)
theorem mW:Cl Tryz.prog 81 Hy:=⟨by kernel_rfl,λk=>X4 k k (AUN k)⟩
end
section
attribute [local irreducible] N3.f Ol.f Fm.f Im.f
def Vy:AQ:=⟨[(.cons .bool (.cons (.row 73 (.int .u64)) (.row 73 (.int .u64)))),(.cons .bool (.cons (.row 73 (.int .u64)) (.row 73 (.int .u64))))],[(.cons .bool (.cons (.row 73 (.int .u64)) (.row 73 (.int .u64))))],λk x=>(Ky.f k x.1.1 x.1.2.1 x.1.2.2 x.2.1.1 x.2.1.2.1 x.2.1.2.2).map λr=>((r.1,r.2.1,r.2.2),())⟩
def pY (r:Bool × List Int × List Int):TT Vy.rs:=((r.1,r.2.1,r.2.2),())
theorem pZ:Cl Tryz.prog 26 Vy :=
 AT (Bt:=AL [(4,[0,1,0,4,0,16,60,0,128,0,512,0,2048,7804,16383,32767,65535,65535,131071,524287])]) (l:= [(77, .pu Xw),(78, .pu cG),(79, .pu Ng),(80, .pu SR),(81, .pu Hy)]) (C:=AZ) (by kernel_rfl) AI ⟨ABb,AD9,Z3,mV,mW,trivial⟩ (fn:=Tryz.f26) (by kernel_rfl) rfl (by kernel_rfl) (by decide) (by kernel_rfl) (F:=λk x=>Ky.f k x.1.1 x.1.2.1 x.1.2.2 x.2.1.1 x.2.1.2.1 x.2.1.2.2) (m:=pY) (λk x=>rfl)
  (by exact trivial)
  (λk ⟨(a0:Bool × List Int × List Int),(a1:Bool × List Int × List Int),_⟩=>by show AY pY (Ky.f k a0.1 a0.2.1 a0.2.2 a1.1 a1.2.1 a1.2.2) _;unfold Ky.f;exact go)
end
section
attribute [local irreducible] Fm.f Im.f Gc.f
def Vz:AQ:=⟨[(.cons .bool (.cons (.row 73 (.int .u64)) (.row 73 (.int .u64)))),(.cons .bool (.cons (.row 73 (.int .u64)) (.row 73 (.int .u64))))],[(.cons .bool (.cons (.row 73 (.int .u64)) (.row 73 (.int .u64))))],λk x=>(Kz.f k x.1.1 x.1.2.1 x.1.2.2 x.2.1.1 x.2.1.2.1 x.2.1.2.2).map λr=>((r.1,r.2.1,r.2.2),())⟩
def pg (r:Bool × List Int × List Int):TT Vz.rs:=((r.1,r.2.1,r.2.2),())
theorem pq:Cl Tryz.prog 27 Vz :=
 AT (Bt:=AL [(1,[0,1,0,4,12,31,63,127,127,255,1023]),(2,[0,1,0,4,12,31,63,127,127,255,1023]),(4,[0,1,0,4,15,0,0,0,192,511,1023])]) (l:= [(79, .pu Ng),(80, .pu SR),(81, .pu Hy),(82, .pu Nf)]) (C:=AZ) (by kernel_rfl) AI ⟨Z3,mV,mW,Z1,trivial⟩ (fn:=Tryz.f27) (by kernel_rfl) rfl (by kernel_rfl) (by decide) (by kernel_rfl) (F:=λk x=>Kz.f k x.1.1 x.1.2.1 x.1.2.2 x.2.1.1 x.2.1.2.1 x.2.1.2.2) (m:=pg) (λk x=>rfl)
  (by exact trivial)
  (λk ⟨(a0:Bool × List Int × List Int),(a1:Bool × List Int × List Int),_⟩=>by show AY pg (Kz.f k a0.1 a0.2.1 a0.2.2 a1.1 a1.2.1 a1.2.2) _;unfold Kz.f;exact go)
end
section
attribute [local irreducible] DB.f Ay.f
def V0:AQ:=⟨[(.cons .bool (.cons (.row 73 (.int .u64)) (.row 73 (.int .u64))))],[(.cons .bool (.cons (.row 73 (.int .u64)) (.row 73 (.int .u64))))],λk x=>(L5.f k x.1.1 x.1.2.1 x.1.2.2).map λr=>((r.1,r.2.1,r.2.2),())⟩
def pz (r:Bool × List Int × List Int):TT V0.rs:=((r.1,r.2.1,r.2.2),())
theorem p8:Cl Tryz.prog 112 V0 :=
 AT (Bt:=AL [(1,[0,1,3,7,15,31,63,127,255,0,512,1663,0,4096,15999,32767,65535])]) (l:= [(134, .pu Gm),(187, .pu DN)]) (C:=AZ) (by kernel_rfl) AI ⟨JF,Dv,trivial⟩ (fn:=Tryz.f112) (by kernel_rfl) rfl (by kernel_rfl) (by decide) (by kernel_rfl) (F:=λk x=>L5.f k x.1.1 x.1.2.1 x.1.2.2) (m:=pz) (λk x=>rfl)
  (by exact trivial)
  (λk ⟨(a0:Bool × List Int × List Int),_⟩=>by show AY pz (L5.f k a0.1 a0.2.1 a0.2.2) _;unfold L5.f;exact go)
end
section
attribute [local irreducible] Ky.f L5.f
def V1:AQ:=⟨[(.cons .bool (.cons (.row 73 (.int .u64)) (.row 73 (.int .u64)))),(.cons .bool (.cons (.row 73 (.int .u64)) (.row 73 (.int .u64))))],[(.cons .bool (.cons (.row 73 (.int .u64)) (.row 73 (.int .u64))))],λk x=>(L6.f k x.1.1 x.1.2.1 x.1.2.2 x.2.1.1 x.2.1.2.1 x.2.1.2.2).map λr=>((r.1,r.2.1,r.2.2),())⟩
def p9 (r:Bool × List Int × List Int):TT V1.rs:=((r.1,r.2.1,r.2.2),())
theorem qA:Cl Tryz.prog 113 V1 :=
 AT (Bt:=AL [(1,[0,0,2,7,15])]) (l:= [(26, .pu Vy),(112, .pu V0)]) (C:=AZ) (by kernel_rfl) AI ⟨pZ,p8,trivial⟩ (fn:=Tryz.f113) (by kernel_rfl) rfl (by kernel_rfl) (by decide) (by kernel_rfl) (F:=λk x=>L6.f k x.1.1 x.1.2.1 x.1.2.2 x.2.1.1 x.2.1.2.1 x.2.1.2.2) (m:=p9) (λk x=>rfl)
  (by exact trivial)
  (λk ⟨(a0:Bool × List Int × List Int),(a1:Bool × List Int × List Int),_⟩=>by show AY p9 (L6.f k a0.1 a0.2.1 a0.2.2 a1.1 a1.2.1 a1.2.2) _;unfold L6.f;exact go)
end
section
attribute [local irreducible] DB.f Ay.f
def cH:AQ:=⟨[(.cons .bool (.cons (.row 73 (.int .u64)) (.row 73 (.int .u64))))],[(.cons .bool (.cons (.row 73 (.int .u64)) (.row 73 (.int .u64)))), .int .i64],λk x=>(Q3.f k x.1.1 x.1.2.1 x.1.2.2).map λr=>((r.1,r.2.1,r.2.2.1),r.2.2.2,())⟩
def qB (r:Bool × List Int × List Int × Int):TT cH.rs:=((r.1,r.2.1,r.2.2.1),r.2.2.2,())
theorem AED:Cl Tryz.prog 204 cH :=
 AT (Bt:=AL [(3,[0,1,0,4,12,0,32,124,255,511,1023])]) (l:= [(134, .pu Gm),(187, .pu DN)]) (C:=AZ) (by kernel_rfl) AI ⟨JF,Dv,trivial⟩ (fn:=Tryz.f204) (by kernel_rfl) rfl (by kernel_rfl) (by decide) (by kernel_rfl) (F:=λk x=>Q3.f k x.1.1 x.1.2.1 x.1.2.2) (m:=qB) (λk x=>rfl)
  (by exact trivial)
  (λk ⟨(a0:Bool × List Int × List Int),_⟩=>by show AY qB (Q3.f k a0.1 a0.2.1 a0.2.2) _;unfold Q3.f;exact go)
end
section
attribute [local irreducible] Kz.f Q3.f
def Vm:AQ:=⟨[(.cons .bool (.cons (.row 73 (.int .u64)) (.row 73 (.int .u64)))),(.cons .bool (.cons (.row 73 (.int .u64)) (.row 73 (.int .u64))))],[(.cons .bool (.cons (.row 73 (.int .u64)) (.row 73 (.int .u64)))), .int .i64],λk x=>(L7.f k x.1.1 x.1.2.1 x.1.2.2 x.2.1.1 x.2.1.2.1 x.2.1.2.2).map λr=>((r.1,r.2.1,r.2.2.1),r.2.2.2,())⟩
def qC (r:Bool × List Int × List Int × Int):TT Vm.rs:=((r.1,r.2.1,r.2.2.1),r.2.2.2,())
theorem pN:Cl Tryz.prog 140 Vm :=
 AT (Bt:=AL []) (l:= [(27, .pu Vz),(204, .pu cH)]) (C:=AZ) (by kernel_rfl) AI ⟨pq,AED,trivial⟩ (fn:=Tryz.f140) (by kernel_rfl) rfl (by kernel_rfl) (by decide) (by kernel_rfl) (F:=λk x=>L7.f k x.1.1 x.1.2.1 x.1.2.2 x.2.1.1 x.2.1.2.1 x.2.1.2.2) (m:=qC) (λk x=>rfl)
  (by exact trivial)
  (λk ⟨(a0:Bool × List Int × List Int),(a1:Bool × List Int × List Int),_⟩=>by show AY qC (L7.f k a0.1 a0.2.1 a0.2.2 a1.1 a1.2.1 a1.2.2) _;unfold L7.f;exact go)
end
section
attribute [local irreducible] Ky.f Kz.f L5.f L6.f L7.f BU.f
def Er:DU:=⟨[.st 135 [.ty (.int .i64), .ty (.int .i64), .row false 93 (.cons (.int .i64) (.cons (.int .i64) (.cons (.int .i64) (.cons .bool (.cons (.row 73 (.int .u64)) (.row 73 (.int .u64))))))), .ty (.row 4 .bool), .row false 4 .bool, .ty (.int .i64), .ty (.int .i64), .ty .bool, .ty (.int .i64)], .ty (.int .i64), .ty (.cons .bool (.cons (.row 73 (.int .u64)) (.row 73 (.int .u64)))), .ty (.cons .bool (.cons (.row 73 (.int .u64)) (.row 73 (.int .u64))))],[(.cons .bool (.cons (.row 73 (.int .u64)) (.row 73 (.int .u64))))],λk x=>(Ey.f k x.1.1 x.1.2.1 x.1.2.2.1 x.1.2.2.2.1 x.1.2.2.2.2.1 x.1.2.2.2.2.2.1 x.1.2.2.2.2.2.2.1 x.1.2.2.2.2.2.2.2.1 x.1.2.2.2.2.2.2.2.2.1 x.2.1 x.2.2.1.1 x.2.2.1.2.1 x.2.2.1.2.2 x.2.2.2.1.1 x.2.2.2.1.2.1 x.2.2.2.1.2.2).map λr=>(((r.1,(r.2.1,r.2.2.1)),()),((r.2.2.2.1,r.2.2.2.2.1,r.2.2.2.2.2.1,r.2.2.2.2.2.2.1,r.2.2.2.2.2.2.2.1,r.2.2.2.2.2.2.2.2.1,r.2.2.2.2.2.2.2.2.2.1,r.2.2.2.2.2.2.2.2.2.2.1,r.2.2.2.2.2.2.2.2.2.2.2,()),()))⟩
def PZ (r:Bool × List Int × List Int × Int × Int × List (Int × Int × Int × Bool × (List Int) × List Int) × List Bool × List Bool × Int × Int × Bool × Int):TT Er.rs × ET Er.ps:=(((r.1,(r.2.1,r.2.2.1)),()),((r.2.2.2.1,r.2.2.2.2.1,r.2.2.2.2.2.1,r.2.2.2.2.2.2.1,r.2.2.2.2.2.2.2.1,r.2.2.2.2.2.2.2.2.1,r.2.2.2.2.2.2.2.2.2.1,r.2.2.2.2.2.2.2.2.2.2.1,r.2.2.2.2.2.2.2.2.2.2.2,()),()))
def Z8:Bb (TT Er.rs × ET Er.ps):=⟨⟨46,53,[46]⟩,AE [],AE [],AE []⟩
theorem Z9:Qx Tryz.prog 241 Er :=
 D7 (Bt:=AL []) (l:= [(26, .pu Vy),(27, .pu Vz),(112, .pu V0),(113, .pu V1),(140, .pu Vm),(178, .io Ce [(41,49),(44,51)])]) (C:=Z8) (by kernel_rfl) AI ⟨pZ,pq,p8,qA,pN,Fg,trivial⟩ (fn:=Tryz.f241) (by kernel_rfl) rfl (by kernel_rfl) (by decide) (by kernel_rfl) (m:=53) (by decide) (by decide) (F:=λk x=>Ey.f k x.1.1 x.1.2.1 x.1.2.2.1 x.1.2.2.2.1 x.1.2.2.2.2.1 x.1.2.2.2.2.2.1 x.1.2.2.2.2.2.2.1 x.1.2.2.2.2.2.2.2.1 x.1.2.2.2.2.2.2.2.2.1 x.2.1 x.2.2.1.1 x.2.2.1.2.1 x.2.2.1.2.2 x.2.2.2.1.1 x.2.2.2.1.2.1 x.2.2.2.1.2.2) (q:=PZ) (λk x=>rfl)
  (by exact trivial)
  (λk ⟨⟨Ab,Ae,Af,Ah,Ai,BH,BK,BL,BJ,_⟩,(a1:Int),(a2:Bool × (List Int) × List Int),(a3:Bool × (List Int) × List Int),_⟩=>by show AY PZ (Ey.f k Ab Ae Af Ah Ai BH BK BL BJ a1 a2.1 a2.2.1 a2.2.2 a3.1 a3.2.1 a3.2.2) _;unfold Ey.f;exact go)
end
section
def Jh:AQ:=⟨[.int .u64],[.int .i64],λ_ x=>(DX.f x.1).map λr=>(r,())⟩
def Qi (r:Int):TT Jh.rs:=(r,())
theorem Qj:Cl Tryz.prog 250 Jh :=
 AT (Bt:=AL []) (l:= []) (C:=AZ) (by kernel_rfl) AI trivial (fn:=Tryz.f250) (by kernel_rfl) rfl (by kernel_rfl) (by decide) (by kernel_rfl) (F:=λk x=>DX.f x.1) (m:=Qi) (λk x=>rfl)
  (by exact trivial)
  (λk ⟨(a0:Int),_⟩=>by show AY Qi (DX.f a0) _;unfold DX.f;exact go)
end
section
attribute [local irreducible] DX.f
def Dc:AQ:=⟨[.int .u64],[.int .i64],λ_ x=>(BM.f x.1).map λr=>(r,())⟩
def aA (r:Int):TT Dc.rs:=(r,())
theorem EU:Cl Tryz.prog 205 Dc :=
 AT (Bt:=AL []) (l:= [(250, .pu Jh)]) (C:=AZ) (by kernel_rfl) AI ⟨Qj,trivial⟩ (fn:=Tryz.f205) (by kernel_rfl) rfl (by kernel_rfl) (by decide) (by kernel_rfl) (F:=λk x=>BM.f x.1) (m:=aA) (λk x=>rfl)
  (by exact trivial)
  (λk ⟨(a0:Int),_⟩=>by show AY aA (BM.f a0) _;unfold BM.f;exact go)
end
section
def FV:AQ:=⟨[],[.int .u64],λ_ _=>(CG.f).map λr=>(r,())⟩
def fU (r:Int):TT FV.rs:=(r,())
theorem HQ:Cl Tryz.prog 206 FV :=
 AT (Bt:=AL []) (l:= []) (C:=AZ) (by kernel_rfl) AI trivial (fn:=Tryz.f206) (by kernel_rfl) rfl (by kernel_rfl) (by decide) (by kernel_rfl) (F:=λk x=>CG.f) (m:=fU) (λk x=>rfl)
  (by exact trivial)
  (λk x=>by show AY fU (CG.f) _;unfold CG.f;exact go)
end
section
attribute [local irreducible] BM.f CG.f
def Nh:AQ:=⟨[.int .u64],[.int .u64],λ_ x=>(Gd.f x.1).map λr=>(r,())⟩
def aC (r:Int):TT Nh.rs:=(r,())
theorem aD:Cl Tryz.prog 144 Nh :=
 AT (Bt:=AL []) (l:= [(205, .pu Dc),(206, .pu FV)]) (C:=AZ) (by kernel_rfl) AI ⟨EU,HQ,trivial⟩ (fn:=Tryz.f144) (by kernel_rfl) rfl (by kernel_rfl) (by decide) (by kernel_rfl) (F:=λk x=>Gd.f x.1) (m:=aC) (λk x=>rfl)
  (by exact trivial)
  (λk ⟨(a0:Int),_⟩=>by show AY aC (Gd.f a0) _;unfold Gd.f;exact go)
end
section
def LG:AQ:=⟨[.bool, .int .u64],[.int .u64],λ_ x=>(Db.f x.1 x.2.1).map λr=>(r,())⟩
def VF (r:Int):TT LG.rs:=(r,())
theorem VG:Cl Tryz.prog 252 LG :=
 AT (Bt:=AL []) (l:= []) (C:=AZ) (by kernel_rfl) AI trivial (fn:=Tryz.f252) (by kernel_rfl) rfl (by kernel_rfl) (by decide) (by kernel_rfl) (F:=λk x=>Db.f x.1 x.2.1) (m:=VF) (λk x=>rfl)
  (by exact trivial)
  (λk ⟨(a0:Bool),(a1:Int),_⟩=>by show AY VF (Db.f a0 a1) _;unfold Db.f;exact go)
end
section
attribute [local irreducible] Db.f
def FR:AQ:=⟨[.bool],[.int .u64],λ_ x=>(Ch.f x.1).map λr=>(r,())⟩
def fW (r:Int):TT FR.rs:=(r,())
theorem HN:Cl Tryz.prog 209 FR :=
 AT (Bt:=AL []) (l:= [(252, .pu LG)]) (C:=AZ) (by kernel_rfl) AI ⟨VG,trivial⟩ (fn:=Tryz.f209) (by kernel_rfl) rfl (by kernel_rfl) (by decide) (by kernel_rfl) (F:=λk x=>Ch.f x.1) (m:=fW) (λk x=>rfl)
  (by exact trivial)
  (λk ⟨(a0:Bool),_⟩=>by show AY fW (Ch.f a0) _;unfold Ch.f;exact go)
end
section
attribute [local irreducible] BV.f Db.f
def LH:AQ:=⟨[.bool, .int .u64, .int .i64],[.int .u64, .bool],λk x=>(BO.f k x.1 x.2.1 x.2.2.1).map λr=>(r.1,r.2,())⟩
def aE (r:Int × Bool):TT LH.rs:=(r.1,r.2,())
theorem SX:Cl Tryz.prog 251 LH :=
 AT (Bt:=AL []) (l:= [(195, .pu E9),(252, .pu LG)]) (C:=AZ) (by kernel_rfl) AI ⟨Hx,VG,trivial⟩ (fn:=Tryz.f251) (by kernel_rfl) rfl (by kernel_rfl) (by decide) (by kernel_rfl) (F:=λk x=>BO.f k x.1 x.2.1 x.2.2.1) (m:=aE) (λk x=>rfl)
  (by exact trivial)
  (λk ⟨(a0:Bool),(a1:Int),(a2:Int),_⟩=>by show AY aE (BO.f k a0 a1 a2) _;unfold BO.f;unfold BO.j0;unfold BO.j1;unfold BO.j2;exact goq)
end
section
attribute [local irreducible] Ch.f BO.f
def KB:AQ:=⟨[.bool, .int .u64, .int .i64],[.int .u64],λk x=>(Cr.f k x.1 x.2.1 x.2.2.1).map λr=>(r,())⟩
def Ww (r:Int):TT KB.rs:=(r,())
theorem Pr:Cl Tryz.prog 208 KB :=
 AT (Bt:=AL []) (l:= [(209, .pu FR),(251, .pu LH)]) (C:=AZ) (by kernel_rfl) AI ⟨HN,SX,trivial⟩ (fn:=Tryz.f208) (by kernel_rfl) rfl (by kernel_rfl) (by decide) (by kernel_rfl) (F:=λk x=>Cr.f k x.1 x.2.1 x.2.2.1) (m:=Ww) (λk x=>rfl)
  (by exact trivial)
  (λk ⟨(a0:Bool),(a1:Int),(a2:Int),_⟩=>by show AY Ww (Cr.f k a0 a1 a2) _;unfold Cr.f;exact go)
end
section
def ME:AQ:=⟨[.int .u64, .bool, .bool],[.int .u64],λ_ x=>(FM.f x.1 x.2.1 x.2.2.1).map λr=>(r,())⟩
def Wx (r:Int):TT ME.rs:=(r,())
theorem Wn:Cl Tryz.prog 253 ME :=
 AT (Bt:=AL []) (l:= []) (C:=AZ) (by kernel_rfl) AI trivial (fn:=Tryz.f253) (by kernel_rfl) rfl (by kernel_rfl) (by decide) (by kernel_rfl) (F:=λk x=>FM.f x.1 x.2.1 x.2.2.1) (m:=Wx) (λk x=>rfl)
  (by exact trivial)
  (λk ⟨(a0:Int),(a1:Bool),(a2:Bool),_⟩=>by show AY Wx (FM.f a0 a1 a2) _;unfold FM.f;exact go)
end
section
attribute [local irreducible] BV.f Cr.f Ch.f FM.f
def ER:AQ:=⟨[.bool, .int .u64, .int .i64],[.int .u64],λk x=>(BE.f k x.1 x.2.1 x.2.2.1).map λr=>(r,())⟩
def Wy (r:Int):TT ER.rs:=(r,())
theorem Gn:Cl Tryz.prog 216 ER :=
 AT (Bt:=AL []) (l:= [(195, .pu E9),(208, .pu KB),(209, .pu FR),(253, .pu ME)]) (C:=AZ) (by kernel_rfl) AI ⟨Hx,Pr,HN,Wn,trivial⟩ (fn:=Tryz.f216) (by kernel_rfl) rfl (by kernel_rfl) (by decide) (by kernel_rfl) (F:=λk x=>BE.f k x.1 x.2.1 x.2.2.1) (m:=Wy) (λk x=>rfl)
  (by exact trivial)
  (λk ⟨(a0:Bool),(a1:Int),(a2:Int),_⟩=>by show AY Wy (BE.f k a0 a1 a2) _;unfold BE.f;exact go)
end
section
def X5:AQ:=⟨[.int .u64, .int .i64],[.int .u64],λ_ x=>(MM.f x.1 x.2.1).map λr=>(r,())⟩
def mX (r:Int):TT X5.rs:=(r,())
theorem ABf:Cl Tryz.prog 256 X5 :=
 AT (Bt:=AL []) (l:= []) (C:=AZ) (by kernel_rfl) AI trivial (fn:=Tryz.f256) (by kernel_rfl) rfl (by kernel_rfl) (by decide) (by kernel_rfl) (F:=λk x=>MM.f x.1 x.2.1) (m:=mX) (λk x=>rfl)
  (by exact trivial)
  (λk ⟨(a0:Int),(a1:Int),_⟩=>by show AY mX (MM.f a0 a1) _;unfold MM.f;exact go)
end
section
attribute [local irreducible] BE.f MM.f
def P0:AQ:=⟨[(.cons .bool (.cons (.int .u64) (.int .i64))),(.cons .bool (.cons (.int .u64) (.int .i64)))],[.int .u64],λk x=>(De.f k x.1.1 x.1.2.1 x.1.2.2 x.2.1.1 x.2.1.2.1 x.2.1.2.2).map λr=>(r,())⟩
def Wz (r:Int):TT P0.rs:=(r,())
theorem nk:Cl Tryz.prog 212 P0 :=
 AT (Bt:=AL []) (l:= [(216, .pu ER),(256, .pu X5)]) (C:=AZ) (by kernel_rfl) AI ⟨Gn,ABf,trivial⟩ (fn:=Tryz.f212) (by kernel_rfl) rfl (by kernel_rfl) (by decide) (by kernel_rfl) (F:=λk x=>De.f k x.1.1 x.1.2.1 x.1.2.2 x.2.1.1 x.2.1.2.1 x.2.1.2.2) (m:=Wz) (λk x=>rfl)
  (by exact trivial)
  (λk ⟨(a0:Bool × Int × Int),(a1:Bool × Int × Int),_⟩=>by show AY Wz (De.f k a0.1 a0.2.1 a0.2.2 a1.1 a1.2.1 a1.2.2) _;unfold De.f;unfold De.j0;exact goq)
end
section
def HT:AQ:=⟨[.int .u64],[.bool],λ_ x=>(Ci.f x.1).map λr=>(r,())⟩
def fX (r:Bool):TT HT.rs:=(r,())
theorem Kq:Cl Tryz.prog 214 HT :=
 AT (Bt:=AL []) (l:= []) (C:=AZ) (by kernel_rfl) AI trivial (fn:=Tryz.f214) (by kernel_rfl) rfl (by kernel_rfl) (by decide) (by kernel_rfl) (F:=λk x=>Ci.f x.1) (m:=fX) (λk x=>rfl)
  (by exact trivial)
  (λk ⟨(a0:Int),_⟩=>by show AY fX (Ci.f a0) _;unfold Ci.f;exact go)
end
section
attribute [local irreducible] BM.f Ci.f DX.f
def EV:AQ:=⟨[.int .u64],[.bool, .int .u64, .int .i64, .bool],λk x=>(BI.f k x.1).map λr=>(r.1,r.2.1,r.2.2.1,r.2.2.2,())⟩
def W0 (r:Bool × Int × Int × Bool):TT EV.rs:=(r.1,r.2.1,r.2.2.1,r.2.2.2,())
theorem Gq:Cl Tryz.prog 215 EV :=
 AT (Bt:=AL []) (l:= [(205, .pu Dc),(214, .pu HT),(250, .pu Jh)]) (C:=AZ) (by kernel_rfl) AI ⟨EU,Kq,Qj,trivial⟩ (fn:=Tryz.f215) (by kernel_rfl) rfl (by kernel_rfl) (by decide) (by kernel_rfl) (F:=λk x=>BI.f k x.1) (m:=W0) (λk x=>rfl)
  (by exact trivial)
  (λk ⟨(a0:Int),_⟩=>by show AY W0 (BI.f k a0) _;unfold BI.f;unfold BI.j0;exact goq)
end
section
attribute [local irreducible] BI.f
def cI:AQ:=⟨[.int .u64],[(.cons .bool (.cons (.int .u64) (.int .i64)))],λk x=>(Om.f k x.1).map λr=>((r.1,r.2.1,r.2.2),())⟩
def qD (r:Bool × Int × Int):TT cI.rs:=((r.1,r.2.1,r.2.2),())
theorem AEE:Cl Tryz.prog 213 cI :=
 AT (Bt:=AL []) (l:= [(215, .pu EV)]) (C:=AZ) (by kernel_rfl) AI ⟨Gq,trivial⟩ (fn:=Tryz.f213) (by kernel_rfl) rfl (by kernel_rfl) (by decide) (by kernel_rfl) (F:=λk x=>Om.f k x.1) (m:=qD) (λk x=>rfl)
  (by exact trivial)
  (λk ⟨(a0:Int),_⟩=>by show AY qD (Om.f k a0) _;unfold Om.f;exact go)
end
section
attribute [local irreducible] BM.f CG.f De.f Om.f
def KS:AQ:=⟨[.int .u64, .int .u64],[.int .u64],λk x=>(Bf.f k x.1 x.2.1).map λr=>(r,())⟩
def Lv (r:Int):TT KS.rs:=(r,())
@[reducible] def VH:List Slot:= [.tmp 0 [.ty (.int .u64)], .tmp 1 [.ty (.int .u64)], .tmp 5 [.ty (.int .i64)], .tmp 6 [.ty (.int .i64)], .tmp 11 [.ty .bool]]
def fY (k:Nat) (x:TS VH):Option (Int):=Bf.j0 k x.1.1 x.2.1.1 x.2.2.1.1 x.2.2.2.1.1 x.2.2.2.2.1.1
@[reducible] def VI:List Slot:= [.tmp 0 [.ty (.int .u64)], .tmp 1 [.ty (.int .u64)], .tmp 5 [.ty (.int .i64)], .tmp 6 [.ty (.int .i64)], .tmp 19 [.ty .bool]]
def fZ (k:Nat) (x:TS VI):Option (Int):=Bf.j1 k x.1.1 x.2.1.1 x.2.2.1.1 x.2.2.2.1.1 x.2.2.2.2.1.1
def ABg:Bb (TT KS.rs):=⟨⟨45,45,[]⟩,AE [],AE [],AE [(2,⟨VH,λk x=>(fY k x).map Lv⟩),(4,⟨VI,λk x=>(fZ k x).map Lv⟩)]⟩
theorem SY:Cl Tryz.prog 145 KS :=
 AT (Bt:=AL []) (l:= [(205, .pu Dc),(206, .pu FV),(212, .pu P0),(213, .pu cI)]) (C:=ABg) (by kernel_rfl) AI ⟨EU,HQ,nk,AEE,trivial⟩ (fn:=Tryz.f145) (by kernel_rfl) rfl (by kernel_rfl) (by decide) (by kernel_rfl) (F:=λk x=>Bf.f k x.1 x.2.1) (m:=Lv) (λk x=>rfl)
  (by
   refine And.intro ?_ ?_
   ·refine Al (sl:=VH) (F:=fY) (λx=>rfl) λk ⟨⟨(x0:Int),_⟩,⟨(x1:Int),_⟩,⟨(x5:Int),_⟩,⟨(x6:Int),_⟩,⟨(Ik:Bool),_⟩,_⟩=> ?_
    show AY Lv (Bf.j0 (k+1) x0 x1 x5 x6 Ik) _;rw[Bf.j0];exact go
   refine And.intro ?_ ?_
   ·refine Al (sl:=VI) (F:=fZ) (λx=>rfl) λk ⟨⟨(x0:Int),_⟩,⟨(x1:Int),_⟩,⟨(x5:Int),_⟩,⟨(x6:Int),_⟩,⟨(oa:Bool),_⟩,_⟩=> ?_
    show AY Lv (Bf.j1 (k+1) x0 x1 x5 x6 oa) _;rw[Bf.j1];exact go
   exact trivial)
  (λk ⟨(a0:Int),(a1:Int),_⟩=>by show AY Lv (Bf.f k a0 a1) _;unfold Bf.f;exact go)
end
section
attribute [local irreducible] Gd.f Bf.f
def OR:AQ:=⟨[.int .u64, .int .u64],[.int .u64],λk x=>(H7.f k x.1 x.2.1).map λr=>(r,())⟩
def mY (r:Int):TT OR.rs:=(r,())
theorem X6:Cl Tryz.prog 146 OR :=
 AT (Bt:=AL []) (l:= [(144, .pu Nh),(145, .pu KS)]) (C:=AZ) (by kernel_rfl) AI ⟨aD,SY,trivial⟩ (fn:=Tryz.f146) (by kernel_rfl) rfl (by kernel_rfl) (by decide) (by kernel_rfl) (F:=λk x=>H7.f k x.1 x.2.1) (m:=mY) (λk x=>rfl)
  (by exact trivial)
  (λk ⟨(a0:Int),(a1:Int),_⟩=>by show AY mY (H7.f k a0 a1) _;unfold H7.f;exact go)
end
section
attribute [local irreducible] BV.f Dr.f BM.f CG.f Ch.f Ci.f BI.f BE.f
def Kr:AQ:=⟨[.int .u64, .int .u64],[.int .u64],λk x=>(Aq.f k x.1 x.2.1).map λr=>(r,())⟩
def HU (r:Int):TT Kr.rs:=(r,())
@[reducible] def SZ:List Slot:= [.tmp 0 [.ty (.int .u64)], .tmp 1 [.ty (.int .u64)], .tmp 5 [.ty (.int .i64)], .tmp 6 [.ty (.int .i64)], .tmp 7 [.ty .bool], .tmp 29 [.ty .bool]]
def aG (k:Nat) (x:TS SZ):Option (Int):=Aq.j0 k x.1.1 x.2.1.1 x.2.2.1.1 x.2.2.2.1.1 x.2.2.2.2.1.1 x.2.2.2.2.2.1.1
@[reducible] def Sc:List Slot:= [.tmp 0 [.ty (.int .u64)], .tmp 1 [.ty (.int .u64)], .tmp 5 [.ty (.int .i64)], .tmp 6 [.ty (.int .i64)], .tmp 7 [.ty .bool], .tmp 37 [.ty .bool]]
def aH (k:Nat) (x:TS Sc):Option (Int):=Aq.j1 k x.1.1 x.2.1.1 x.2.2.1.1 x.2.2.2.1.1 x.2.2.2.2.1.1 x.2.2.2.2.2.1.1
@[reducible] def Sd:List Slot:= [.tmp 7 [.ty .bool], .tmp 49 [.ty .bool]]
def aI (k:Nat) (x:TS Sd):Option (Int):=Aq.j2 k x.1.1 x.2.1.1
def zB:Bb (TT Kr.rs):=⟨⟨106,106,[]⟩,AE [],AE [],AE [(3,⟨SZ,λk x=>(aG k x).map HU⟩),(5,⟨Sc,λk x=>(aH k x).map HU⟩),(6,⟨Sd,λk x=>(aI k x).map HU⟩)]⟩
theorem VJ:Cl Tryz.prog 147 Kr :=
 AT (Bt:=AL [(15,[0,0,2,7,0,0,48,127,255])]) (l:= [(195, .pu E9),(196, .pu KR),(205, .pu Dc),(206, .pu FV),(209, .pu FR),(214, .pu HT),(215, .pu EV),(216, .pu ER)]) (C:=zB) (by kernel_rfl) AI ⟨Hx,OP,EU,HQ,HN,Kq,Gq,Gn,trivial⟩ (fn:=Tryz.f147) (by kernel_rfl) rfl (by kernel_rfl) (by decide) (by kernel_rfl) (F:=λk x=>Aq.f k x.1 x.2.1) (m:=HU) (λk x=>rfl)
  (by
   refine And.intro ?_ ?_
   ·refine Al (sl:=SZ) (F:=aG) (λx=>rfl) λk ⟨⟨(x0:Int),_⟩,⟨(x1:Int),_⟩,⟨(x5:Int),_⟩,⟨(x6:Int),_⟩,⟨(x7:Bool),_⟩,⟨(cV:Bool),_⟩,_⟩=> ?_
    show AY HU (Aq.j0 (k+1) x0 x1 x5 x6 x7 cV) _;rw[Aq.j0];exact go
   refine And.intro ?_ ?_
   ·refine Al (sl:=Sc) (F:=aH) (λx=>rfl) λk ⟨⟨(x0:Int),_⟩,⟨(x1:Int),_⟩,⟨(x5:Int),_⟩,⟨(x6:Int),_⟩,⟨(x7:Bool),_⟩,⟨(x37:Bool),_⟩,_⟩=> ?_
    show AY HU (Aq.j1 (k+1) x0 x1 x5 x6 x7 x37) _;rw[Aq.j1];exact go
   refine And.intro ?_ ?_
   ·refine Al (sl:=Sd) (F:=aI) (λx=>rfl) λk ⟨⟨(x7:Bool),_⟩,⟨(x49:Bool),_⟩,_⟩=> ?_
    show AY HU (Aq.j2 (k+1) x7 x49) _;rw[Aq.j2];exact go
   exact trivial)
  (λk ⟨(a0:Int),(a1:Int),_⟩=>by show AY HU (Aq.f k a0 a1) _;unfold Aq.f;exact go)
end
section
attribute [local irreducible] BO.f
def OS:AQ:=⟨[.bool],[.int .u64],λk x=>(GK.f k x.1).map λr=>(r,())⟩
def VK (r:Int):TT OS.rs:=(r,())
theorem mZ:Cl Tryz.prog 217 OS :=
 AT (Bt:=AL []) (l:= [(251, .pu LH)]) (C:=AZ) (by kernel_rfl) AI ⟨SX,trivial⟩ (fn:=Tryz.f217) (by kernel_rfl) rfl (by kernel_rfl) (by decide) (by kernel_rfl) (F:=λk x=>GK.f k x.1) (m:=VK) (λk x=>rfl)
  (by exact trivial)
  (λk ⟨(a0:Bool),_⟩=>by show AY VK (GK.f k a0) _;unfold GK.f;exact go)
end
section
attribute [local irreducible] BV.f BM.f CG.f Ch.f Ci.f BI.f BE.f GK.f Il.f
def Ks:AQ:=⟨[.int .u64, .int .u64],[.int .u64],λk x=>(Bj.f k x.1 x.2.1).map λr=>(r,())⟩
def Kt (r:Int):TT Ks.rs:=(r,())
@[reducible] def Se:List Slot:= [.tmp 0 [.ty (.int .u64)], .tmp 1 [.ty (.int .u64)], .tmp 5 [.ty (.int .i64)], .tmp 6 [.ty (.int .i64)], .tmp 7 [.ty .bool], .tmp 30 [.ty .bool]]
def aJ (k:Nat) (x:TS Se):Option (Int):=Bj.j0 k x.1.1 x.2.1.1 x.2.2.1.1 x.2.2.2.1.1 x.2.2.2.2.1.1 x.2.2.2.2.2.1.1
@[reducible] def Sf:List Slot:= [.tmp 0 [.ty (.int .u64)], .tmp 1 [.ty (.int .u64)], .tmp 5 [.ty (.int .i64)], .tmp 6 [.ty (.int .i64)], .tmp 7 [.ty .bool], .tmp 51 [.ty .bool]]
def aK (k:Nat) (x:TS Sf):Option (Int):=Bj.j1 k x.1.1 x.2.1.1 x.2.2.1.1 x.2.2.2.1.1 x.2.2.2.2.1.1 x.2.2.2.2.2.1.1
def zC:Bb (TT Ks.rs):=⟨⟨115,115,[]⟩,AE [],AE [],AE [(3,⟨Se,λk x=>(aJ k x).map Kt⟩),(5,⟨Sf,λk x=>(aK k x).map Kt⟩)]⟩
theorem VL:Cl Tryz.prog 148 Ks :=
 AT (Bt:=AL [(12,[0,0,3,0,0,24,63,127,255,255,255,511,3071,8191])]) (l:= [(195, .pu E9),(205, .pu Dc),(206, .pu FV),(209, .pu FR),(214, .pu HT),(215, .pu EV),(216, .pu ER),(217, .pu OS),(218, .pu OO)]) (C:=zC) (by kernel_rfl) AI ⟨Hx,EU,HQ,HN,Kq,Gq,Gn,mZ,X1,trivial⟩ (fn:=Tryz.f148) (by kernel_rfl) rfl (by kernel_rfl) (by decide) (by kernel_rfl) (F:=λk x=>Bj.f k x.1 x.2.1) (m:=Kt) (λk x=>rfl)
  (by
   refine And.intro ?_ ?_
   ·refine Al (sl:=Se) (F:=aJ) (λx=>rfl) λk ⟨⟨(x0:Int),_⟩,⟨(x1:Int),_⟩,⟨(x5:Int),_⟩,⟨(x6:Int),_⟩,⟨(x7:Bool),_⟩,⟨(rV:Bool),_⟩,_⟩=> ?_
    show AY Kt (Bj.j0 (k+1) x0 x1 x5 x6 x7 rV) _;rw[Bj.j0];exact go
   refine And.intro ?_ ?_
   ·refine Al (sl:=Sf) (F:=aK) (λx=>rfl) λk ⟨⟨(x0:Int),_⟩,⟨(x1:Int),_⟩,⟨(x5:Int),_⟩,⟨(x6:Int),_⟩,⟨(x7:Bool),_⟩,⟨(x51:Bool),_⟩,_⟩=> ?_
    show AY Kt (Bj.j1 (k+1) x0 x1 x5 x6 x7 x51) _;rw[Bj.j1];exact go
   exact trivial)
  (λk ⟨(a0:Int),(a1:Int),_⟩=>by show AY Kt (Bj.f k a0 a1) _;unfold Bj.f;exact go)
end
section
attribute [local irreducible] Dr.f
def Nl:AQ:=⟨[.int .u64],[.int .u64, .bool],λk x=>(CS.f k x.1).map λr=>(r.1,r.2,())⟩
def Nm (r:Int × Bool):TT Nl.rs:=(r.1,r.2,())
@[reducible] def P3:List Slot:= [.tmp 0 [.ty (.int .u64)], .tmp 4 [.ty (.int .u64)], .tmp 5 [.ty (.int .u64)]]
def W4 (k:Nat) (x:TS P3):Option (Int × Bool):=CS.l0 k x.1.1 x.2.1.1 x.2.2.1.1
def uD:Bb (TT Nl.rs):=⟨⟨53,53,[]⟩,AE [(0,⟨P3,λk x=>(W4 k x).map Nm⟩)],AE [],AE []⟩
theorem uE:Cl Tryz.prog 219 Nl :=
 AT (Bt:=AL []) (l:= [(196, .pu KR)]) (C:=uD) (by kernel_rfl) AI ⟨OP,trivial⟩ (fn:=Tryz.f219) (by kernel_rfl) rfl (by kernel_rfl) (by decide) (by kernel_rfl) (F:=λk x=>CS.f k x.1) (m:=Nm) (λk x=>rfl)
  (by
   refine And.intro ?_ ?_
   ·refine Ap (sl:=P3) (F:=W4) (λx=>rfl) λk ⟨⟨(x0:Int),_⟩,⟨(x4:Int),_⟩,⟨(x5:Int),_⟩,_⟩=> ?_
    show AY Nm (CS.l0 (k+1) x0 x4 x5) _;rw[CS.l0];exact go
   exact trivial)
  (λk ⟨(a0:Int),_⟩=>by show AY Nm (CS.f k a0) _;unfold CS.f;exact go)
end
section
attribute [local irreducible] BV.f BM.f CG.f Ci.f BI.f BE.f CS.f
def Nn:AQ:=⟨[.int .u64],[.int .u64],λk x=>(Ca.f k x.1).map λr=>(r,())⟩
def Np (r:Int):TT Nn.rs:=(r,())
@[reducible] def P4:List Slot:= [.tmp 4 [.ty (.int .u64)], .tmp 5 [.ty (.int .i64)], .tmp 7 [.ty (.int .i64)]]
def W5 (k:Nat) (x:TS P4):Option (Int):=Ca.j0 k x.1.1 x.2.1.1 x.2.2.1.1
def uF:Bb (TT Nn.rs):=⟨⟨61,61,[]⟩,AE [],AE [(15,⟨P4,λk x=>(W5 k x).map Np⟩)],AE []⟩
theorem uG:Cl Tryz.prog 149 Nn :=
 AT (Bt:=AL []) (l:= [(195, .pu E9),(205, .pu Dc),(206, .pu FV),(214, .pu HT),(215, .pu EV),(216, .pu ER),(219, .pu Nl)]) (C:=uF) (by kernel_rfl) AI ⟨Hx,EU,HQ,Kq,Gq,Gn,uE,trivial⟩ (fn:=Tryz.f149) (by kernel_rfl) rfl (by kernel_rfl) (by decide) (by kernel_rfl) (F:=λk x=>Ca.f k x.1) (m:=Np) (λk x=>rfl)
  (by
   refine And.intro ?_ ?_
   ·refine Al (sl:=P4) (F:=W5) (λx=>rfl) λk ⟨⟨(x4:Int),_⟩,⟨(x5:Int),_⟩,⟨(x7:Int),_⟩,_⟩=> ?_
    show AY Np (Ca.j0 (k+1) x4 x5 x7) _;rw[Ca.j0];exact go
   exact trivial)
  (λk ⟨(a0:Int),_⟩=>by show AY Np (Ca.f k a0) _;unfold Ca.f;exact go)
end
section
attribute [local irreducible] BM.f
def Sg:AQ:=⟨[.int .u64, .int .u64],[.bool],λ_ x=>(Iq.f x.1 x.2.1).map λr=>(r,())⟩
def aM (r:Bool):TT Sg.rs:=(r,())
theorem uH:Cl Tryz.prog 243 Sg :=
 AT (Bt:=AL []) (l:= [(205, .pu Dc)]) (C:=AZ) (by kernel_rfl) AI ⟨EU,trivial⟩ (fn:=Tryz.f243) (by kernel_rfl) rfl (by kernel_rfl) (by decide) (by kernel_rfl) (F:=λk x=>Iq.f x.1 x.2.1) (m:=aM) (λk x=>rfl)
  (by exact trivial)
  (λk ⟨(a0:Int),(a1:Int),_⟩=>by show AY aM (Iq.f a0 a1) _;unfold Iq.f;exact go)
end
section
attribute [local irreducible] Ci.f
def X7:AQ:=⟨[.int .u64],[.int .i64],λ_ x=>(K1.f x.1).map λr=>(r,())⟩
def mg (r:Int):TT X7.rs:=(r,())
theorem ABh:Cl Tryz.prog 244 X7 :=
 AT (Bt:=AL []) (l:= [(214, .pu HT)]) (C:=AZ) (by kernel_rfl) AI ⟨Kq,trivial⟩ (fn:=Tryz.f244) (by kernel_rfl) rfl (by kernel_rfl) (by decide) (by kernel_rfl) (F:=λk x=>K1.f x.1) (m:=mg) (λk x=>rfl)
  (by exact trivial)
  (λk ⟨(a0:Int),_⟩=>by show AY mg (K1.f a0) _;unfold K1.f;exact go)
end
section
attribute [local irreducible] Iq.f K1.f
def Mg:AQ:=⟨[.int .u64, .int .u64],[.bool],λ_ x=>(Em.f x.1 x.2.1).map λr=>(r,())⟩
def fc (r:Bool):TT Mg.rs:=(r,())
theorem VM:Cl Tryz.prog 180 Mg :=
 AT (Bt:=AL []) (l:= [(243, .pu Sg),(244, .pu X7)]) (C:=AZ) (by kernel_rfl) AI ⟨uH,ABh,trivial⟩ (fn:=Tryz.f180) (by kernel_rfl) rfl (by kernel_rfl) (by decide) (by kernel_rfl) (F:=λk x=>Em.f x.1 x.2.1) (m:=fc) (λk x=>rfl)
  (by exact trivial)
  (λk ⟨(a0:Int),(a1:Int),_⟩=>by show AY fc (Em.f a0 a1) _;unfold Em.f;exact go)
end
section
attribute [local irreducible] BV.f BI.f
def Pa:AQ:=⟨[.int .u64],[.int .i64, .bool],λk x=>(CH.f k x.1).map λr=>(r.1,r.2,())⟩
def Ku (r:Int × Bool):TT Pa.rs:=(r.1,r.2,())
@[reducible] def Sh:List Slot:= [.tmp 4 [.ty .bool], .tmp 5 [.ty (.int .u64)], .tmp 6 [.ty (.int .i64)], .tmp 25 [.ty .bool]]
def aN (k:Nat) (x:TS Sh):Option (Int × Bool):=CH.j0 k x.1.1 x.2.1.1 x.2.2.1.1 x.2.2.2.1.1
@[reducible] def Si:List Slot:= [.tmp 4 [.ty .bool], .tmp 8 [.ty (.int .i64)], .tmp 55 [.ty .bool]]
def aQ (k:Nat) (x:TS Si):Option (Int × Bool):=CH.j1 k x.1.1 x.2.1.1 x.2.2.1.1
def zD:Bb (TT Pa.rs):=⟨⟨62,62,[]⟩,AE [],AE [],AE [(2,⟨Sh,λk x=>(aN k x).map Ku⟩),(10,⟨Si,λk x=>(aQ k x).map Ku⟩)]⟩
theorem zE:Cl Tryz.prog 220 Pa :=
 AT (Bt:=AL []) (l:= [(195, .pu E9),(215, .pu EV)]) (C:=zD) (by kernel_rfl) AI ⟨Hx,Gq,trivial⟩ (fn:=Tryz.f220) (by kernel_rfl) rfl (by kernel_rfl) (by decide) (by kernel_rfl) (F:=λk x=>CH.f k x.1) (m:=Ku) (λk x=>rfl)
  (by
   refine And.intro ?_ ?_
   ·refine Al (sl:=Sh) (F:=aN) (λx=>rfl) λk ⟨⟨(x4:Bool),_⟩,⟨(x5:Int),_⟩,⟨(x6:Int),_⟩,⟨(x25:Bool),_⟩,_⟩=> ?_
    show AY Ku (CH.j0 (k+1) x4 x5 x6 x25) _;rw[CH.j0];exact go
   refine And.intro ?_ ?_
   ·refine Al (sl:=Si) (F:=aQ) (λx=>rfl) λk ⟨⟨(x4:Bool),_⟩,⟨(x8:Int),_⟩,⟨(x55:Bool),_⟩,_⟩=> ?_
    show AY Ku (CH.j1 (k+1) x4 x8 x55) _;rw[CH.j1];exact go
   exact trivial)
  (λk ⟨(a0:Int),_⟩=>by show AY Ku (CH.f k a0) _;unfold CH.f;exact go)
end
section
attribute [local irreducible] BE.f
def HD:AQ:=⟨[.int .i64],[.int .u64],λk x=>(Cx.f k x.1).map λr=>(r,())⟩
def Qk (r:Int):TT HD.rs:=(r,())
theorem Lw:Cl Tryz.prog 221 HD :=
 AT (Bt:=AL []) (l:= [(216, .pu ER)]) (C:=AZ) (by kernel_rfl) AI ⟨Gn,trivial⟩ (fn:=Tryz.f221) (by kernel_rfl) rfl (by kernel_rfl) (by decide) (by kernel_rfl) (F:=λk x=>Cx.f k x.1) (m:=Qk) (λk x=>rfl)
  (by exact trivial)
  (λk ⟨(a0:Int),_⟩=>by show AY Qk (Cx.f k a0) _;unfold Cx.f;exact go)
end
section
attribute [local irreducible] Bj.f Cx.f
def MH:AQ:=⟨[.int .i64],[.int .u64],λk x=>(EW.f k x.1).map λr=>(r,())⟩
def W6 (r:Int):TT MH.rs:=(r,())
theorem W7:Cl Tryz.prog 222 MH :=
 AT (Bt:=AL []) (l:= [(148, .pu Ks),(221, .pu HD)]) (C:=AZ) (by kernel_rfl) AI ⟨VL,Lw,trivial⟩ (fn:=Tryz.f222) (by kernel_rfl) rfl (by kernel_rfl) (by decide) (by kernel_rfl) (F:=λk x=>EW.f k x.1) (m:=W6) (λk x=>rfl)
  (by exact trivial)
  (λk ⟨(a0:Int),_⟩=>by show AY W6 (EW.f k a0) _;unfold EW.f;exact go)
end
section
attribute [local irreducible] BM.f CG.f
def MD:AQ:=⟨[.int .u64],[.int .u64],λ_ x=>(FN.f x.1).map λr=>(r,())⟩
def W8 (r:Int):TT MD.rs:=(r,())
theorem Wm:Cl Tryz.prog 142 MD :=
 AT (Bt:=AL []) (l:= [(205, .pu Dc),(206, .pu FV)]) (C:=AZ) (by kernel_rfl) AI ⟨EU,HQ,trivial⟩ (fn:=Tryz.f142) (by kernel_rfl) rfl (by kernel_rfl) (by decide) (by kernel_rfl) (F:=λk x=>FN.f x.1) (m:=W8) (λk x=>rfl)
  (by exact trivial)
  (λk ⟨(a0:Int),_⟩=>by show AY W8 (FN.f a0) _;unfold FN.f;exact go)
end
section
attribute [local irreducible] FN.f BI.f BE.f
def Sj:AQ:=⟨[.int .u64, .int .i64],[.int .u64],λk x=>(KJ.f k x.1 x.2.1).map λr=>(r,())⟩
def aT (r:Int):TT Sj.rs:=(r,())
theorem uI:Cl Tryz.prog 223 Sj :=
 AT (Bt:=AL []) (l:= [(142, .pu MD),(215, .pu EV),(216, .pu ER)]) (C:=AZ) (by kernel_rfl) AI ⟨Wm,Gq,Gn,trivial⟩ (fn:=Tryz.f223) (by kernel_rfl) rfl (by kernel_rfl) (by decide) (by kernel_rfl) (F:=λk x=>KJ.f k x.1 x.2.1) (m:=aT) (λk x=>rfl)
  (by exact trivial)
  (λk ⟨(a0:Int),(a1:Int),_⟩=>by show AY aT (KJ.f k a0 a1) _;unfold KJ.f;exact go)
end
section
attribute [local irreducible] Bf.f H7.f Aq.f Em.f BM.f CG.f Ch.f CH.f Cx.f EW.f KJ.f
def Nq:AQ:=⟨[.int .u64],[.int .u64],λk x=>(Bv.f k x.1).map λr=>(r,())⟩
def Ji (r:Int):TT Nq.rs:=(r,())
@[reducible] def P5:List Slot:= [.tmp 3 [.ty (.int .i64)], .tmp 6 [.ty (.int .u64)], .tmp 7 [.Jm 7], .arr 7 202 (.int .i64), .tmp 9 [.ty (.int .u64)], .tmp 10 [.ty (.int .i64)]]
def W9 (k:Nat) (x:TS P5):Option (Int):=Bv.l1 k x.1.1 x.2.1.1 x.2.2.2.1 x.2.2.2.2.1.1 x.2.2.2.2.2.1.1
@[reducible] def P6:List Slot:= [.tmp 3 [.ty (.int .i64)], .tmp 6 [.ty (.int .u64)], .tmp 7 [.Jm 7], .arr 7 202 (.int .i64), .tmp 39 [.ty (.int .i64)]]
def XA (k:Nat) (x:TS P6):Option (Int):=Bv.l0 k x.1.1 x.2.1.1 x.2.2.2.1 x.2.2.2.2.1.1
def uJ:Bb (TT Nq.rs):=⟨⟨70,70,[]⟩,AE [(1,⟨P5,λk x=>(W9 k x).map Ji⟩),(0,⟨P6,λk x=>(XA k x).map Ji⟩)],AE [],AE []⟩
theorem uK:Cl Tryz.prog 150 Nq :=
 AT (Bt:=AL [(20,[0,0,3,0,8,24,63,127,255])]) (l:= [(145, .pu KS),(146, .pu OR),(147, .pu Kr),(180, .pu Mg),(205, .pu Dc),(206, .pu FV),(209, .pu FR),(220, .pu Pa),(221, .pu HD),(222, .pu MH),(223, .pu Sj)]) (C:=uJ) (by kernel_rfl) AI ⟨SY,X6,VJ,VM,EU,HQ,HN,zE,Lw,W7,uI,trivial⟩ (fn:=Tryz.f150) (by kernel_rfl) rfl (by kernel_rfl) (by decide) (by kernel_rfl) (F:=λk x=>Bv.f k x.1) (m:=Ji) (λk x=>rfl)
  (by
   refine And.intro ?_ ?_
   ·refine Ap (sl:=P6) (F:=XA) (λx=>rfl) λk ⟨⟨(e:Int),_⟩,⟨(r:Int),_⟩,_,(fs:List Int),⟨(i:Int),_⟩,_⟩=> ?_
    show AY Ji (Bv.l0 (k+1) e r fs i) _;rw[Bv.l0];exact go
   refine And.intro ?_ ?_
   ·refine Ap (sl:=P5) (F:=W9) (λx=>rfl) λk ⟨⟨(e:Int),_⟩,⟨(r:Int),_⟩,_,(fs:List Int),⟨(p:Int),_⟩,⟨(i:Int),_⟩,_⟩=> ?_
    show AY Ji (Bv.l1 (k+1) e r fs p i) _;rw[Bv.l1];exact go
   exact trivial)
  (λk ⟨(a0:Int),_⟩=>by show AY Ji (Bv.f k a0) _;unfold Bv.f;exact go)
end
section
attribute [local irreducible] Em.f BV.f BI.f BO.f
def OT:AQ:=⟨[.int .u64],[.int .u64, .int .i64],λk x=>(Hg.f k x.1).map λr=>(r.1,r.2,())⟩
def VN (r:Int × Int):TT OT.rs:=(r.1,r.2,())
theorem mh:Cl Tryz.prog 224 OT :=
 AT (Bt:=AL []) (l:= [(180, .pu Mg),(195, .pu E9),(215, .pu EV),(251, .pu LH)]) (C:=AZ) (by kernel_rfl) AI ⟨VM,Hx,Gq,SX,trivial⟩ (fn:=Tryz.f224) (by kernel_rfl) rfl (by kernel_rfl) (by decide) (by kernel_rfl) (F:=λk x=>Hg.f k x.1) (m:=VN) (λk x=>rfl)
  (by exact trivial)
  (λk ⟨(a0:Int),_⟩=>by show AY VN (Hg.f k a0) _;unfold Hg.f;exact go)
end
section
attribute [local irreducible] Bf.f H7.f Aq.f Bj.f BM.f CG.f Ch.f Ci.f Cx.f EW.f Hg.f
def Nr:AQ:=⟨[.int .u64],[.int .u64],λk x=>(B3.f k x.1).map λr=>(r,())⟩
def Jj (r:Int):TT Nr.rs:=(r,())
@[reducible] def P7:List Slot:= [.tmp 0 [.ty (.int .u64)], .tmp 3 [.ty (.int .i64)], .tmp 20 [.ty .bool]]
def XB (k:Nat) (x:TS P7):Option (Int):=B3.j0 k x.1.1 x.2.1.1 x.2.2.1.1
@[reducible] def P8:List Slot:= [.tmp 5 [.ty (.int .i64)], .tmp 7 [.ty (.int .u64)], .tmp 8 [.ty (.int .u64)], .tmp 9 [.ty (.int .u64)], .tmp 10 [.ty (.int .i64)]]
def XC (k:Nat) (x:TS P8):Option (Int):=B3.l0 k x.1.1 x.2.1.1 x.2.2.1.1 x.2.2.2.1.1 x.2.2.2.2.1.1
def uL:Bb (TT Nr.rs):=⟨⟨81,81,[]⟩,AE [(0,⟨P8,λk x=>(XC k x).map Jj⟩)],AE [],AE [(4,⟨P7,λk x=>(XB k x).map Jj⟩)]⟩
theorem uM:Cl Tryz.prog 151 Nr :=
 AT (Bt:=AL []) (l:= [(145, .pu KS),(146, .pu OR),(147, .pu Kr),(148, .pu Ks),(205, .pu Dc),(206, .pu FV),(209, .pu FR),(214, .pu HT),(221, .pu HD),(222, .pu MH),(224, .pu OT)]) (C:=uL) (by kernel_rfl) AI ⟨SY,X6,VJ,VL,EU,HQ,HN,Kq,Lw,W7,mh,trivial⟩ (fn:=Tryz.f151) (by kernel_rfl) rfl (by kernel_rfl) (by decide) (by kernel_rfl) (F:=λk x=>B3.f k x.1) (m:=Jj) (λk x=>rfl)
  (by
   refine And.intro ?_ ?_
   ·refine Al (sl:=P7) (F:=XB) (λx=>rfl) λk ⟨⟨(x0:Int),_⟩,⟨(x3:Int),_⟩,⟨(aV:Bool),_⟩,_⟩=> ?_
    show AY Jj (B3.j0 (k+1) x0 x3 aV) _;rw[B3.j0];exact go
   refine And.intro ?_ ?_
   ·refine Ap (sl:=P8) (F:=XC) (λx=>rfl) λk ⟨⟨(x5:Int),_⟩,⟨(x7:Int),_⟩,⟨(x8:Int),_⟩,⟨(x9:Int),_⟩,⟨(Jl:Int),_⟩,_⟩=> ?_
    show AY Jj (B3.l0 (k+1) x5 x7 x8 x9 Jl) _;rw[B3.l0];exact go
   exact trivial)
  (λk ⟨(a0:Int),_⟩=>by show AY Jj (B3.f k a0) _;unfold B3.f;exact go)
end
section
attribute [local irreducible] Gd.f Bf.f H7.f Aq.f Bj.f Ca.f Bv.f B3.f
def P9:AQ:=⟨[.int .i64, .int .u64, .int .u64],[.int .u64],λk x=>(Ir.f k x.1 x.2.1 x.2.2.1).map λr=>(r,())⟩
def XD (r:Int):TT P9.rs:=(r,())
theorem nu:Cl Tryz.prog 242 P9 :=
 AT (Bt:=AL []) (l:= [(144, .pu Nh),(145, .pu KS),(146, .pu OR),(147, .pu Kr),(148, .pu Ks),(149, .pu Nn),(150, .pu Nq),(151, .pu Nr)]) (C:=AZ) (by kernel_rfl) AI ⟨aD,SY,X6,VJ,VL,uG,uK,uM,trivial⟩ (fn:=Tryz.f242) (by kernel_rfl) rfl (by kernel_rfl) (by decide) (by kernel_rfl) (F:=λk x=>Ir.f k x.1 x.2.1 x.2.2.1) (m:=XD) (λk x=>rfl)
  (by exact trivial)
  (λk ⟨(a0:Int),(a1:Int),(a2:Int),_⟩=>by show AY XD (Ir.f k a0 a1 a2) _;unfold Ir.f;exact go)
end
section
attribute [local irreducible] Bh.f CE.f Co.f Ey.f Ir.f
def Cf:DU:=⟨[.st 135 [.ty (.int .i64), .ty (.int .i64), .row false 93 (.cons (.int .i64) (.cons (.int .i64) (.cons (.int .i64) (.cons .bool (.cons (.row 73 (.int .u64)) (.row 73 (.int .u64))))))), .ty (.row 4 .bool), .row false 4 .bool, .ty (.int .i64), .ty (.int .i64), .ty .bool, .ty (.int .i64)], .ty (.int .i64), .ty (.cons (.cons .bool (.cons (.row 73 (.int .u64)) (.row 73 (.int .u64)))) (.cons (.int .u64) (.int .i64))), .ty (.cons (.cons .bool (.cons (.row 73 (.int .u64)) (.row 73 (.int .u64)))) (.cons (.int .u64) (.int .i64))), .ty .bool],[(.cons (.cons .bool (.cons (.row 73 (.int .u64)) (.row 73 (.int .u64)))) (.cons (.int .u64) (.int .i64)))],λk x=>(AO.f k x.1.1 x.1.2.1 x.1.2.2.1 x.1.2.2.2.1 x.1.2.2.2.2.1 x.1.2.2.2.2.2.1 x.1.2.2.2.2.2.2.1 x.1.2.2.2.2.2.2.2.1 x.1.2.2.2.2.2.2.2.2.1 x.2.1 x.2.2.1.1.1 x.2.2.1.1.2.1 x.2.2.1.1.2.2 x.2.2.1.2.1 x.2.2.1.2.2 x.2.2.2.1.1.1 x.2.2.2.1.1.2.1 x.2.2.2.1.1.2.2 x.2.2.2.1.2.1 x.2.2.2.1.2.2 x.2.2.2.2.1).map λr=>((((r.1,(r.2.1,r.2.2.1)),(r.2.2.2.1,r.2.2.2.2.1)),()),((r.2.2.2.2.2.1,r.2.2.2.2.2.2.1,r.2.2.2.2.2.2.2.1,r.2.2.2.2.2.2.2.2.1,r.2.2.2.2.2.2.2.2.2.1,r.2.2.2.2.2.2.2.2.2.2.1,r.2.2.2.2.2.2.2.2.2.2.2.1,r.2.2.2.2.2.2.2.2.2.2.2.2.1,r.2.2.2.2.2.2.2.2.2.2.2.2.2,()),()))⟩
def Eg (r:Bool × List Int × List Int × Int × Int × Int × Int × List (Int × Int × Int × Bool × (List Int) × List Int) × List Bool × List Bool × Int × Int × Bool × Int):TT Cf.rs × ET Cf.ps:=((((r.1,(r.2.1,r.2.2.1)),(r.2.2.2.1,r.2.2.2.2.1)),()),((r.2.2.2.2.2.1,r.2.2.2.2.2.2.1,r.2.2.2.2.2.2.2.1,r.2.2.2.2.2.2.2.2.1,r.2.2.2.2.2.2.2.2.2.1,r.2.2.2.2.2.2.2.2.2.2.1,r.2.2.2.2.2.2.2.2.2.2.2.1,r.2.2.2.2.2.2.2.2.2.2.2.2.1,r.2.2.2.2.2.2.2.2.2.2.2.2.2,()),()))
@[reducible] def Mr:List Slot:= [.tmp 0 [.ptr 84 0], .tmp 10 [.ptr 10 0], .tmp 11 [.ptr 11 0], .DO 10 .mine 137 [.ty .bool, .own .mine 97 73 (.int .u64), .own .mine 98 73 (.int .u64), .ty (.int .u64), .ty (.int .i64)], .DO 11 .mine 137 [.ty .bool, .ty (.row 73 (.int .u64)), .ty (.row 73 (.int .u64)), .ty (.int .u64), .ty (.int .i64)], .DO 84 .kept 135 [.ty (.int .i64), .ty (.int .i64), .own .Dn 99 93 (.cons (.int .i64) (.cons (.int .i64) (.cons (.int .i64) (.cons .bool (.cons (.row 73 (.int .u64)) (.row 73 (.int .u64))))))), .ty (.row 4 .bool), .own .Dn 100 4 .bool, .ty (.int .i64), .ty (.int .i64), .ty .bool, .ty (.int .i64)]]
def TC (k:Nat) (x:TS Mr):Option (Bool × List Int × List Int × Int × Int × Int × Int × List (Int × Int × Int × Bool × (List Int) × List Int) × List Bool × List Bool × Int × Int × Bool × Int):=AO.j15 k x.2.2.2.1.1 x.2.2.2.1.2.1 x.2.2.2.1.2.2.1 x.2.2.2.1.2.2.2.1 x.2.2.2.1.2.2.2.2.1 x.2.2.2.2.1.1 x.2.2.2.2.1.2.1 x.2.2.2.2.1.2.2.1 x.2.2.2.2.1.2.2.2.1 x.2.2.2.2.1.2.2.2.2.1 x.2.2.2.2.2.1.1 x.2.2.2.2.2.1.2.1 x.2.2.2.2.2.1.2.2.1 x.2.2.2.2.2.1.2.2.2.1 x.2.2.2.2.2.1.2.2.2.2.1 x.2.2.2.2.2.1.2.2.2.2.2.1 x.2.2.2.2.2.1.2.2.2.2.2.2.1 x.2.2.2.2.2.1.2.2.2.2.2.2.2.1 x.2.2.2.2.2.1.2.2.2.2.2.2.2.2.1
@[reducible] def Ms:List Slot:= [.tmp 0 [.ptr 84 0], .tmp 1 [.ty (.int .i64)], .tmp 4 [.ty .bool], .tmp 7 [.ptr 7 0], .tmp 8 [.ptr 8 0], .tmp 10 [.ptr 10 0], .tmp 11 [.ptr 11 0], .DO 7 .mine 137 [.ty .bool, .ty (.row 73 (.int .u64)), .ty (.row 73 (.int .u64)), .ty (.int .u64), .ty (.int .i64)], .DO 8 .mine 137 [.ty .bool, .ty (.row 73 (.int .u64)), .ty (.row 73 (.int .u64)), .ty (.int .u64), .ty (.int .i64)], .DO 10 .mine 137 [.ty .bool, .own .mine 97 73 (.int .u64), .own .mine 98 73 (.int .u64), .ty (.int .u64), .ty (.int .i64)], .DO 11 .mine 137 [.ty .bool, .own .mine 99 73 (.int .u64), .own .mine 100 73 (.int .u64), .ty (.int .u64), .ty (.int .i64)], .DO 84 .kept 135 [.ty (.int .i64), .ty (.int .i64), .own .Dn 101 93 (.cons (.int .i64) (.cons (.int .i64) (.cons (.int .i64) (.cons .bool (.cons (.row 73 (.int .u64)) (.row 73 (.int .u64))))))), .ty (.row 4 .bool), .own .Dn 102 4 .bool, .ty (.int .i64), .ty (.int .i64), .ty .bool, .ty (.int .i64)]]
def TD (k:Nat) (x:TS Ms):Option (Bool × List Int × List Int × Int × Int × Int × Int × List (Int × Int × Int × Bool × (List Int) × List Int) × List Bool × List Bool × Int × Int × Bool × Int):=AO.j7 k x.2.1.1 x.2.2.1.1 x.2.2.2.2.2.2.2.1.1 x.2.2.2.2.2.2.2.1.2.1 x.2.2.2.2.2.2.2.1.2.2.1 x.2.2.2.2.2.2.2.1.2.2.2.1 x.2.2.2.2.2.2.2.1.2.2.2.2.1 x.2.2.2.2.2.2.2.2.1.1 x.2.2.2.2.2.2.2.2.1.2.1 x.2.2.2.2.2.2.2.2.1.2.2.1 x.2.2.2.2.2.2.2.2.1.2.2.2.1 x.2.2.2.2.2.2.2.2.1.2.2.2.2.1 x.2.2.2.2.2.2.2.2.2.1.1 x.2.2.2.2.2.2.2.2.2.1.2.1 x.2.2.2.2.2.2.2.2.2.1.2.2.1 x.2.2.2.2.2.2.2.2.2.1.2.2.2.1 x.2.2.2.2.2.2.2.2.2.1.2.2.2.2.1 x.2.2.2.2.2.2.2.2.2.2.1.1 x.2.2.2.2.2.2.2.2.2.2.1.2.1 x.2.2.2.2.2.2.2.2.2.2.1.2.2.1 x.2.2.2.2.2.2.2.2.2.2.1.2.2.2.1 x.2.2.2.2.2.2.2.2.2.2.1.2.2.2.2.1 x.2.2.2.2.2.2.2.2.2.2.2.1.1 x.2.2.2.2.2.2.2.2.2.2.2.1.2.1 x.2.2.2.2.2.2.2.2.2.2.2.1.2.2.1 x.2.2.2.2.2.2.2.2.2.2.2.1.2.2.2.1 x.2.2.2.2.2.2.2.2.2.2.2.1.2.2.2.2.1 x.2.2.2.2.2.2.2.2.2.2.2.1.2.2.2.2.2.1 x.2.2.2.2.2.2.2.2.2.2.2.1.2.2.2.2.2.2.1 x.2.2.2.2.2.2.2.2.2.2.2.1.2.2.2.2.2.2.2.1 x.2.2.2.2.2.2.2.2.2.2.2.1.2.2.2.2.2.2.2.2.1
@[reducible] def Mt:List Slot:= [.tmp 0 [.ptr 84 0], .tmp 10 [.ptr 10 0], .tmp 11 [.ptr 11 0], .tmp 12 [.ptr 12 0], .DO 10 .mine 137 [.ty .bool, .own .mine 97 73 (.int .u64), .own .mine 98 73 (.int .u64), .ty (.int .u64), .ty (.int .i64)], .DO 11 .mine 137 [.ty .bool, .own .mine 99 73 (.int .u64), .own .mine 100 73 (.int .u64), .ty (.int .u64), .ty (.int .i64)], .DO 12 .mine 93 [.ty (.int .i64), .ty (.int .i64), .ty (.int .i64), .ty .bool, .own .mine 101 73 (.int .u64), .own .mine 102 73 (.int .u64)], .DO 84 .kept 135 [.ty (.int .i64), .ty (.int .i64), .own .Dn 103 93 (.cons (.int .i64) (.cons (.int .i64) (.cons (.int .i64) (.cons .bool (.cons (.row 73 (.int .u64)) (.row 73 (.int .u64))))))), .ty (.row 4 .bool), .own .Dn 104 4 .bool, .ty (.int .i64), .ty (.int .i64), .ty .bool, .ty (.int .i64)]]
def TE (k:Nat) (x:TS Mt):Option (Bool × List Int × List Int × Int × Int × Int × Int × List (Int × Int × Int × Bool × (List Int) × List Int) × List Bool × List Bool × Int × Int × Bool × Int):=AO.j10 k x.2.2.2.2.1.1 x.2.2.2.2.1.2.1 x.2.2.2.2.1.2.2.1 x.2.2.2.2.1.2.2.2.1 x.2.2.2.2.1.2.2.2.2.1 x.2.2.2.2.2.1.1 x.2.2.2.2.2.1.2.1 x.2.2.2.2.2.1.2.2.1 x.2.2.2.2.2.1.2.2.2.1 x.2.2.2.2.2.1.2.2.2.2.1 x.2.2.2.2.2.2.1.1 x.2.2.2.2.2.2.1.2.1 x.2.2.2.2.2.2.1.2.2.1 x.2.2.2.2.2.2.1.2.2.2.1 x.2.2.2.2.2.2.1.2.2.2.2.1 x.2.2.2.2.2.2.1.2.2.2.2.2.1 x.2.2.2.2.2.2.2.1.1 x.2.2.2.2.2.2.2.1.2.1 x.2.2.2.2.2.2.2.1.2.2.1 x.2.2.2.2.2.2.2.1.2.2.2.1 x.2.2.2.2.2.2.2.1.2.2.2.2.1 x.2.2.2.2.2.2.2.1.2.2.2.2.2.1 x.2.2.2.2.2.2.2.1.2.2.2.2.2.2.1 x.2.2.2.2.2.2.2.1.2.2.2.2.2.2.2.1 x.2.2.2.2.2.2.2.1.2.2.2.2.2.2.2.2.1
def mj:Bb (TT Cf.rs × ET Cf.ps):=⟨⟨84,105,[84]⟩,AE [],AE [(15,⟨Mr,λk x=>(TC k x).map Eg⟩),(7,⟨Ms,λk x=>(TD k x).map Eg⟩),(10,⟨Mt,λk x=>(TE k x).map Eg⟩)],AE []⟩
theorem Ef:Qx Tryz.prog 171 Cf :=
 D7 (Bt:=AL []) (l:= [(168, .io Cu [(14,87)]),(170, .io DR [(50,95)]),(181, .io Dw [(29,91),(36,93)]),(241, .io Er [(59,89)]),(242, .pu P9)]) (C:=mj) (by kernel_rfl) AI ⟨Ib,LC,PN,Z9,nu,trivial⟩ (fn:=Tryz.f171) (by kernel_rfl) rfl (by kernel_rfl) (by decide) (by kernel_rfl) (m:=105) (by decide) (by decide) (F:=λk x=>AO.f k x.1.1 x.1.2.1 x.1.2.2.1 x.1.2.2.2.1 x.1.2.2.2.2.1 x.1.2.2.2.2.2.1 x.1.2.2.2.2.2.2.1 x.1.2.2.2.2.2.2.2.1 x.1.2.2.2.2.2.2.2.2.1 x.2.1 x.2.2.1.1.1 x.2.2.1.1.2.1 x.2.2.1.1.2.2 x.2.2.1.2.1 x.2.2.1.2.2 x.2.2.2.1.1.1 x.2.2.2.1.1.2.1 x.2.2.2.1.1.2.2 x.2.2.2.1.2.1 x.2.2.2.1.2.2 x.2.2.2.2.1) (q:=Eg) (λk x=>rfl)
  (by
   refine And.intro ?_ ?_
   ·refine Al (sl:=Ms) (F:=TD) (λx=>rfl) λk ⟨_,⟨(x1:Int),_⟩,⟨(x4:Bool),_⟩,_,_,_,_,⟨(ADT:Bool),(ADU:List Int),(ANe:List Int),(ANf:Int),(AIP:Int),_⟩,⟨(rN:Bool),(rO:List Int),(AFw:List Int),(AFx:Int),(ADX:Int),_⟩,⟨(Th:Bool),(Ti:List Int),(Tj:List Int),(Tk:Int),(Tl:Int),_⟩,⟨(Mx:Bool),(My:List Int),(Mz:List Int),(M4:Int),(M5:Int),_⟩,⟨(QE:Int),(QF:Int),(QG:List (Int × Int × Int × Bool × (List Int) × List Int)),(QH:List Bool),(QI:List Bool),(QJ:Int),(QK:Int),(QL:Bool),(On:Int),_⟩,_⟩=> ?_
    show AY Eg (AO.j7 (k+1) x1 x4 ADT ADU ANe ANf AIP rN rO AFw AFx ADX Th Ti Tj Tk Tl Mx My Mz M4 M5 QE QF QG QH QI QJ QK QL On) _;rw[AO.j7];exact go
   refine And.intro ?_ ?_
   ·refine Al (sl:=Mt) (F:=TE) (λx=>rfl) λk ⟨_,_,_,_,⟨(Th:Bool),(Ti:List Int),(Tj:List Int),(Tk:Int),(Tl:Int),_⟩,⟨(Mx:Bool),(My:List Int),(Mz:List Int),(M4:Int),(M5:Int),_⟩,⟨(AFy:Int),(AFz:Int),(AF0:Int),(AF1:Bool),(AF2:List Int),(AF3:List Int),_⟩,⟨(QE:Int),(QF:Int),(QG:List (Int × Int × Int × Bool × (List Int) × List Int)),(QH:List Bool),(QI:List Bool),(QJ:Int),(QK:Int),(QL:Bool),(On:Int),_⟩,_⟩=> ?_
    show AY Eg (AO.j10 (k+1) Th Ti Tj Tk Tl Mx My Mz M4 M5 AFy AFz AF0 AF1 AF2 AF3 QE QF QG QH QI QJ QK QL On) _;rw[AO.j10];exact go
   refine And.intro ?_ ?_
   ·refine Al (sl:=Mr) (F:=TC) (λx=>rfl) λk ⟨_,_,_,⟨(Th:Bool),(Ti:List Int),(Tj:List Int),(Tk:Int),(Tl:Int),_⟩,⟨(Mx:Bool),(My:List Int),(Mz:List Int),(M4:Int),(M5:Int),_⟩,⟨(QE:Int),(QF:Int),(QG:List (Int × Int × Int × Bool × (List Int) × List Int)),(QH:List Bool),(QI:List Bool),(QJ:Int),(QK:Int),(QL:Bool),(On:Int),_⟩,_⟩=> ?_
    show AY Eg (AO.j15 (k+1) Th Ti Tj Tk Tl Mx My Mz M4 M5 QE QF QG QH QI QJ QK QL On) _;rw[AO.j15];exact go
   exact trivial)
  (λk ⟨⟨Ab,Ae,Af,Ah,Ai,BH,BK,BL,BJ,_⟩,(a1:Int),(a2:(Bool × (List Int) × List Int) × Int × Int),(a3:(Bool × (List Int) × List Int) × Int × Int),(a4:Bool),_⟩=>by show AY Eg (AO.f k Ab Ae Af Ah Ai BH BK BL BJ a1 a2.1.1 a2.1.2.1 a2.1.2.2 a2.2.1 a2.2.2 a3.1.1 a3.1.2.1 a3.1.2.2 a3.2.1 a3.2.2 a4) _;unfold AO.f;exact go)
end
section
attribute [local irreducible] AO.f
def E8:DU:=⟨[.st 135 [.ty (.int .i64), .ty (.int .i64), .row false 93 (.cons (.int .i64) (.cons (.int .i64) (.cons (.int .i64) (.cons .bool (.cons (.row 73 (.int .u64)) (.row 73 (.int .u64))))))), .ty (.row 4 .bool), .row false 4 .bool, .ty (.int .i64), .ty (.int .i64), .ty .bool, .ty (.int .i64)], .ty (.cons (.cons .bool (.cons (.row 73 (.int .u64)) (.row 73 (.int .u64)))) (.cons (.int .u64) (.int .i64))), .ty (.cons (.cons .bool (.cons (.row 73 (.int .u64)) (.row 73 (.int .u64)))) (.cons (.int .u64) (.int .i64)))],[(.cons (.cons .bool (.cons (.row 73 (.int .u64)) (.row 73 (.int .u64)))) (.cons (.int .u64) (.int .i64)))],λk x=>(EM.f k x.1.1 x.1.2.1 x.1.2.2.1 x.1.2.2.2.1 x.1.2.2.2.2.1 x.1.2.2.2.2.2.1 x.1.2.2.2.2.2.2.1 x.1.2.2.2.2.2.2.2.1 x.1.2.2.2.2.2.2.2.2.1 x.2.1.1.1 x.2.1.1.2.1 x.2.1.1.2.2 x.2.1.2.1 x.2.1.2.2 x.2.2.1.1.1 x.2.2.1.1.2.1 x.2.2.1.1.2.2 x.2.2.1.2.1 x.2.2.1.2.2).map λr=>((((r.1,(r.2.1,r.2.2.1)),(r.2.2.2.1,r.2.2.2.2.1)),()),((r.2.2.2.2.2.1,r.2.2.2.2.2.2.1,r.2.2.2.2.2.2.2.1,r.2.2.2.2.2.2.2.2.1,r.2.2.2.2.2.2.2.2.2.1,r.2.2.2.2.2.2.2.2.2.2.1,r.2.2.2.2.2.2.2.2.2.2.2.1,r.2.2.2.2.2.2.2.2.2.2.2.2.1,r.2.2.2.2.2.2.2.2.2.2.2.2.2,()),()))⟩
def TF (r:Bool × List Int × List Int × Int × Int × Int × Int × List (Int × Int × Int × Bool × (List Int) × List Int) × List Bool × List Bool × Int × Int × Bool × Int):TT E8.rs × ET E8.ps:=((((r.1,(r.2.1,r.2.2.1)),(r.2.2.2.1,r.2.2.2.2.1)),()),((r.2.2.2.2.2.1,r.2.2.2.2.2.2.1,r.2.2.2.2.2.2.2.1,r.2.2.2.2.2.2.2.2.1,r.2.2.2.2.2.2.2.2.2.1,r.2.2.2.2.2.2.2.2.2.2.1,r.2.2.2.2.2.2.2.2.2.2.2.1,r.2.2.2.2.2.2.2.2.2.2.2.2.1,r.2.2.2.2.2.2.2.2.2.2.2.2.2,()),()))
def gW:Bb (TT E8.rs × ET E8.ps):=⟨⟨11,16,[11]⟩,AE [],AE [],AE []⟩
theorem TA:Qx Tryz.prog 97 E8 :=
 D7 (Bt:=AL []) (l:= [(171, .io Cf [(10,14)])]) (C:=gW) (by kernel_rfl) AI ⟨Ef,trivial⟩ (fn:=Tryz.f97) (by kernel_rfl) rfl (by kernel_rfl) (by decide) (by kernel_rfl) (m:=16) (by decide) (by decide) (F:=λk x=>EM.f k x.1.1 x.1.2.1 x.1.2.2.1 x.1.2.2.2.1 x.1.2.2.2.2.1 x.1.2.2.2.2.2.1 x.1.2.2.2.2.2.2.1 x.1.2.2.2.2.2.2.2.1 x.1.2.2.2.2.2.2.2.2.1 x.2.1.1.1 x.2.1.1.2.1 x.2.1.1.2.2 x.2.1.2.1 x.2.1.2.2 x.2.2.1.1.1 x.2.2.1.1.2.1 x.2.2.1.1.2.2 x.2.2.1.2.1 x.2.2.1.2.2) (q:=TF) (λk x=>rfl)
  (by exact trivial)
  (λk ⟨⟨Ab,Ae,Af,Ah,Ai,BH,BK,BL,BJ,_⟩,(a1:(Bool × (List Int) × List Int) × Int × Int),(a2:(Bool × (List Int) × List Int) × Int × Int),_⟩=>by show AY TF (EM.f k Ab Ae Af Ah Ai BH BK BL BJ a1.1.1 a1.1.2.1 a1.1.2.2 a1.2.1 a1.2.2 a2.1.1 a2.1.2.1 a2.1.2.2 a2.2.1 a2.2.2) _;unfold EM.f;exact go)
end
section
attribute [local irreducible] AO.f
def GD:DU:=⟨[.st 135 [.ty (.int .i64), .ty (.int .i64), .row false 93 (.cons (.int .i64) (.cons (.int .i64) (.cons (.int .i64) (.cons .bool (.cons (.row 73 (.int .u64)) (.row 73 (.int .u64))))))), .ty (.row 4 .bool), .row false 4 .bool, .ty (.int .i64), .ty (.int .i64), .ty .bool, .ty (.int .i64)], .ty (.cons (.cons .bool (.cons (.row 73 (.int .u64)) (.row 73 (.int .u64)))) (.cons (.int .u64) (.int .i64))), .ty (.cons (.cons .bool (.cons (.row 73 (.int .u64)) (.row 73 (.int .u64)))) (.cons (.int .u64) (.int .i64)))],[(.cons (.cons .bool (.cons (.row 73 (.int .u64)) (.row 73 (.int .u64)))) (.cons (.int .u64) (.int .i64)))],λk x=>(IE.f k x.1.1 x.1.2.1 x.1.2.2.1 x.1.2.2.2.1 x.1.2.2.2.2.1 x.1.2.2.2.2.2.1 x.1.2.2.2.2.2.2.1 x.1.2.2.2.2.2.2.2.1 x.1.2.2.2.2.2.2.2.2.1 x.2.1.1.1 x.2.1.1.2.1 x.2.1.1.2.2 x.2.1.2.1 x.2.1.2.2 x.2.2.1.1.1 x.2.2.1.1.2.1 x.2.2.1.1.2.2 x.2.2.1.2.1 x.2.2.1.2.2).map λr=>((((r.1,(r.2.1,r.2.2.1)),(r.2.2.2.1,r.2.2.2.2.1)),()),((r.2.2.2.2.2.1,r.2.2.2.2.2.2.1,r.2.2.2.2.2.2.2.1,r.2.2.2.2.2.2.2.2.1,r.2.2.2.2.2.2.2.2.2.1,r.2.2.2.2.2.2.2.2.2.2.1,r.2.2.2.2.2.2.2.2.2.2.2.1,r.2.2.2.2.2.2.2.2.2.2.2.2.1,r.2.2.2.2.2.2.2.2.2.2.2.2.2,()),()))⟩
def TG (r:Bool × List Int × List Int × Int × Int × Int × Int × List (Int × Int × Int × Bool × (List Int) × List Int) × List Bool × List Bool × Int × Int × Bool × Int):TT GD.rs × ET GD.ps:=((((r.1,(r.2.1,r.2.2.1)),(r.2.2.2.1,r.2.2.2.2.1)),()),((r.2.2.2.2.2.1,r.2.2.2.2.2.2.1,r.2.2.2.2.2.2.2.1,r.2.2.2.2.2.2.2.2.1,r.2.2.2.2.2.2.2.2.2.1,r.2.2.2.2.2.2.2.2.2.2.1,r.2.2.2.2.2.2.2.2.2.2.2.1,r.2.2.2.2.2.2.2.2.2.2.2.2.1,r.2.2.2.2.2.2.2.2.2.2.2.2.2,()),()))
def gX:Bb (TT GD.rs × ET GD.ps):=⟨⟨11,16,[11]⟩,AE [],AE [],AE []⟩
theorem gU:Qx Tryz.prog 174 GD :=
 D7 (Bt:=AL []) (l:= [(171, .io Cf [(10,14)])]) (C:=gX) (by kernel_rfl) AI ⟨Ef,trivial⟩ (fn:=Tryz.f174) (by kernel_rfl) rfl (by kernel_rfl) (by decide) (by kernel_rfl) (m:=16) (by decide) (by decide) (F:=λk x=>IE.f k x.1.1 x.1.2.1 x.1.2.2.1 x.1.2.2.2.1 x.1.2.2.2.2.1 x.1.2.2.2.2.2.1 x.1.2.2.2.2.2.2.1 x.1.2.2.2.2.2.2.2.1 x.1.2.2.2.2.2.2.2.2.1 x.2.1.1.1 x.2.1.1.2.1 x.2.1.1.2.2 x.2.1.2.1 x.2.1.2.2 x.2.2.1.1.1 x.2.2.1.1.2.1 x.2.2.1.1.2.2 x.2.2.1.2.1 x.2.2.1.2.2) (q:=TG) (λk x=>rfl)
  (by exact trivial)
  (λk ⟨⟨Ab,Ae,Af,Ah,Ai,BH,BK,BL,BJ,_⟩,(a1:(Bool × (List Int) × List Int) × Int × Int),(a2:(Bool × (List Int) × List Int) × Int × Int),_⟩=>by show AY TG (IE.f k Ab Ae Af Ah Ai BH BK BL BJ a1.1.1 a1.1.2.1 a1.1.2.2 a1.2.1 a1.2.2 a2.1.1 a2.1.2.1 a2.1.2.2 a2.2.1 a2.2.2) _;unfold IE.f;exact go)
end
section
def F5:DU:=⟨[.st 135 [.ty (.int .i64), .ty (.int .i64), .row false 93 (.cons (.int .i64) (.cons (.int .i64) (.cons (.int .i64) (.cons .bool (.cons (.row 73 (.int .u64)) (.row 73 (.int .u64))))))), .ty (.row 4 .bool), .row false 4 .bool, .ty (.int .i64), .ty (.int .i64), .ty .bool, .ty (.int .i64)]],[.int .i64],λk x=>(IC.f k x.1.1 x.1.2.1 x.1.2.2.1 x.1.2.2.2.1 x.1.2.2.2.2.1 x.1.2.2.2.2.2.1 x.1.2.2.2.2.2.2.1 x.1.2.2.2.2.2.2.2.1 x.1.2.2.2.2.2.2.2.2.1).map λr=>((r.1,()),((r.2.1,r.2.2.1,r.2.2.2.1,r.2.2.2.2.1,r.2.2.2.2.2.1,r.2.2.2.2.2.2.1,r.2.2.2.2.2.2.2.1,r.2.2.2.2.2.2.2.2.1,r.2.2.2.2.2.2.2.2.2,()),()))⟩
def TH (r:Int × Int × Int × List (Int × Int × Int × Bool × (List Int) × List Int) × List Bool × List Bool × Int × Int × Bool × Int):TT F5.rs × ET F5.ps:=((r.1,()),((r.2.1,r.2.2.1,r.2.2.2.1,r.2.2.2.2.1,r.2.2.2.2.2.1,r.2.2.2.2.2.2.1,r.2.2.2.2.2.2.2.1,r.2.2.2.2.2.2.2.2.1,r.2.2.2.2.2.2.2.2.2,()),()))
def gY:Bb (TT F5.rs × ET F5.ps):=⟨⟨9,12,[9]⟩,AE [],AE [],AE []⟩
theorem gF:Qx Tryz.prog 44 F5 :=
 D7 (Bt:=AL []) (l:= []) (C:=gY) (by kernel_rfl) AI trivial (fn:=Tryz.f44) (by kernel_rfl) rfl (by kernel_rfl) (by decide) (by kernel_rfl) (m:=12) (by decide) (by decide) (F:=λk x=>IC.f k x.1.1 x.1.2.1 x.1.2.2.1 x.1.2.2.2.1 x.1.2.2.2.2.1 x.1.2.2.2.2.2.1 x.1.2.2.2.2.2.2.1 x.1.2.2.2.2.2.2.2.1 x.1.2.2.2.2.2.2.2.2.1) (q:=TH) (λk x=>rfl)
  (by exact trivial)
  (λk ⟨⟨Ab,Ae,Af,Ah,Ai,BH,BK,BL,BJ,_⟩,_⟩=>by show AY TH (IC.f k Ab Ae Af Ah Ai BH BK BL BJ) _;unfold IC.f;exact go)
end
section
attribute [local irreducible] AO.f
def GF:DU:=⟨[.st 135 [.ty (.int .i64), .ty (.int .i64), .row false 93 (.cons (.int .i64) (.cons (.int .i64) (.cons (.int .i64) (.cons .bool (.cons (.row 73 (.int .u64)) (.row 73 (.int .u64))))))), .ty (.row 4 .bool), .row false 4 .bool, .ty (.int .i64), .ty (.int .i64), .ty .bool, .ty (.int .i64)], .ty (.cons (.cons .bool (.cons (.row 73 (.int .u64)) (.row 73 (.int .u64)))) (.cons (.int .u64) (.int .i64)))],[(.cons (.cons .bool (.cons (.row 73 (.int .u64)) (.row 73 (.int .u64)))) (.cons (.int .u64) (.int .i64)))],λk x=>(IF.f k x.1.1 x.1.2.1 x.1.2.2.1 x.1.2.2.2.1 x.1.2.2.2.2.1 x.1.2.2.2.2.2.1 x.1.2.2.2.2.2.2.1 x.1.2.2.2.2.2.2.2.1 x.1.2.2.2.2.2.2.2.2.1 x.2.1.1.1 x.2.1.1.2.1 x.2.1.1.2.2 x.2.1.2.1 x.2.1.2.2).map λr=>((((r.1,(r.2.1,r.2.2.1)),(r.2.2.2.1,r.2.2.2.2.1)),()),((r.2.2.2.2.2.1,r.2.2.2.2.2.2.1,r.2.2.2.2.2.2.2.1,r.2.2.2.2.2.2.2.2.1,r.2.2.2.2.2.2.2.2.2.1,r.2.2.2.2.2.2.2.2.2.2.1,r.2.2.2.2.2.2.2.2.2.2.2.1,r.2.2.2.2.2.2.2.2.2.2.2.2.1,r.2.2.2.2.2.2.2.2.2.2.2.2.2,()),()))⟩
def TJ (r:Bool × List Int × List Int × Int × Int × Int × Int × List (Int × Int × Int × Bool × (List Int) × List Int) × List Bool × List Bool × Int × Int × Bool × Int):TT GF.rs × ET GF.ps:=((((r.1,(r.2.1,r.2.2.1)),(r.2.2.2.1,r.2.2.2.2.1)),()),((r.2.2.2.2.2.1,r.2.2.2.2.2.2.1,r.2.2.2.2.2.2.2.1,r.2.2.2.2.2.2.2.2.1,r.2.2.2.2.2.2.2.2.2.1,r.2.2.2.2.2.2.2.2.2.2.1,r.2.2.2.2.2.2.2.2.2.2.2.1,r.2.2.2.2.2.2.2.2.2.2.2.2.1,r.2.2.2.2.2.2.2.2.2.2.2.2.2,()),()))
def gZ:Bb (TT GF.rs × ET GF.ps):=⟨⟨9,14,[9]⟩,AE [],AE [],AE []⟩
theorem gV:Qx Tryz.prog 176 GF :=
 D7 (Bt:=AL []) (l:= [(171, .io Cf [(8,12)])]) (C:=gZ) (by kernel_rfl) AI ⟨Ef,trivial⟩ (fn:=Tryz.f176) (by kernel_rfl) rfl (by kernel_rfl) (by decide) (by kernel_rfl) (m:=14) (by decide) (by decide) (F:=λk x=>IF.f k x.1.1 x.1.2.1 x.1.2.2.1 x.1.2.2.2.1 x.1.2.2.2.2.1 x.1.2.2.2.2.2.1 x.1.2.2.2.2.2.2.1 x.1.2.2.2.2.2.2.2.1 x.1.2.2.2.2.2.2.2.2.1 x.2.1.1.1 x.2.1.1.2.1 x.2.1.1.2.2 x.2.1.2.1 x.2.1.2.2) (q:=TJ) (λk x=>rfl)
  (by exact trivial)
  (λk ⟨⟨Ab,Ae,Af,Ah,Ai,BH,BK,BL,BJ,_⟩,(a1:(Bool × (List Int) × List Int) × Int × Int),_⟩=>by show AY TJ (IF.f k Ab Ae Af Ah Ai BH BK BL BJ a1.1.1 a1.1.2.1 a1.1.2.2 a1.2.1 a1.2.2) _;unfold IF.f;exact go)
end
section
attribute [local irreducible] DB.f
def Rp:AQ:=⟨[(.cons .bool (.cons (.row 73 (.int .u64)) (.row 73 (.int .u64))))],[.int .i64],λk x=>(Is.f k x.1.1 x.1.2.1 x.1.2.2).map λr=>(r,())⟩
def mo (r:Int):TT Rp.rs:=(r,())
theorem lU:Cl Tryz.prog 207 Rp :=
 AT (Bt:=AL []) (l:= [(134, .pu Gm)]) (C:=AZ) (by kernel_rfl) AI ⟨JF,trivial⟩ (fn:=Tryz.f207) (by kernel_rfl) rfl (by kernel_rfl) (by decide) (by kernel_rfl) (F:=λk x=>Is.f k x.1.1 x.1.2.1 x.1.2.2) (m:=mo) (λk x=>rfl)
  (by exact trivial)
  (λk ⟨(a0:Bool × List Int × List Int),_⟩=>by show AY mo (Is.f k a0.1 a0.2.1 a0.2.2) _;unfold Is.f;exact go)
end
section
attribute [local irreducible] L6.f Is.f
def cJ:AQ:=⟨[(.cons .bool (.cons (.row 73 (.int .u64)) (.row 73 (.int .u64)))),(.cons .bool (.cons (.row 73 (.int .u64)) (.row 73 (.int .u64))))],[.int .i64],λk x=>(Q5.f k x.1.1 x.1.2.1 x.1.2.2 x.2.1.1 x.2.1.2.1 x.2.1.2.2).map λr=>(r,())⟩
def qE (r:Int):TT cJ.rs:=(r,())
theorem AEF:Cl Tryz.prog 179 cJ :=
 AT (Bt:=AL []) (l:= [(113, .pu V1),(207, .pu Rp)]) (C:=AZ) (by kernel_rfl) AI ⟨qA,lU,trivial⟩ (fn:=Tryz.f179) (by kernel_rfl) rfl (by kernel_rfl) (by decide) (by kernel_rfl) (F:=λk x=>Q5.f k x.1.1 x.1.2.1 x.1.2.2 x.2.1.1 x.2.1.2.1 x.2.1.2.2) (m:=qE) (λk x=>rfl)
  (by exact trivial)
  (λk ⟨(a0:Bool × List Int × List Int),(a1:Bool × List Int × List Int),_⟩=>by show AY qE (Q5.f k a0.1 a0.2.1 a0.2.2 a1.1 a1.2.1 a1.2.2) _;unfold Q5.f;exact go)
end
section
attribute [local irreducible] BU.f
def EK:DU:=⟨[.st 135 [.ty (.int .i64), .ty (.int .i64), .row false 93 (.cons (.int .i64) (.cons (.int .i64) (.cons (.int .i64) (.cons .bool (.cons (.row 73 (.int .u64)) (.row 73 (.int .u64))))))), .ty (.row 4 .bool), .row false 4 .bool, .ty (.int .i64), .ty (.int .i64), .ty .bool, .ty (.int .i64)]],[.bool],λk x=>(Fc.f k x.1.1 x.1.2.1 x.1.2.2.1 x.1.2.2.2.1 x.1.2.2.2.2.1 x.1.2.2.2.2.2.1 x.1.2.2.2.2.2.2.1 x.1.2.2.2.2.2.2.2.1 x.1.2.2.2.2.2.2.2.2.1).map λr=>((r.1,()),((r.2.1,r.2.2.1,r.2.2.2.1,r.2.2.2.2.1,r.2.2.2.2.2.1,r.2.2.2.2.2.2.1,r.2.2.2.2.2.2.2.1,r.2.2.2.2.2.2.2.2.1,r.2.2.2.2.2.2.2.2.2,()),()))⟩
def OU (r:Bool × Int × Int × List (Int × Int × Int × Bool × (List Int) × List Int) × List Bool × List Bool × Int × Int × Bool × Int):TT EK.rs × ET EK.ps:=((r.1,()),((r.2.1,r.2.2.1,r.2.2.2.1,r.2.2.2.2.1,r.2.2.2.2.2.1,r.2.2.2.2.2.2.1,r.2.2.2.2.2.2.2.1,r.2.2.2.2.2.2.2.2.1,r.2.2.2.2.2.2.2.2.2,()),()))
def X8:Bb (TT EK.rs × ET EK.ps):=⟨⟨33,38,[33]⟩,AE [],AE [],AE []⟩
theorem X9:Qx Tryz.prog 182 EK :=
 D7 (Bt:=AL [(1,[0,1,3,7,0,16,48,112,240,511]),(5,[0,1,3,7,0,16,48,112,240,511,1023,2047])]) (l:= [(178, .io Ce [(14,36)])]) (C:=X8) (by kernel_rfl) AI ⟨Fg,trivial⟩ (fn:=Tryz.f182) (by kernel_rfl) rfl (by kernel_rfl) (by decide) (by kernel_rfl) (m:=38) (by decide) (by decide) (F:=λk x=>Fc.f k x.1.1 x.1.2.1 x.1.2.2.1 x.1.2.2.2.1 x.1.2.2.2.2.1 x.1.2.2.2.2.2.1 x.1.2.2.2.2.2.2.1 x.1.2.2.2.2.2.2.2.1 x.1.2.2.2.2.2.2.2.2.1) (q:=OU) (λk x=>rfl)
  (by exact trivial)
  (λk ⟨⟨Ab,Ae,Af,Ah,Ai,BH,BK,BL,BJ,_⟩,_⟩=>by show AY OU (Fc.f k Ab Ae Af Ah Ai BH BK BL BJ) _;unfold Fc.f;exact go)
end
section
attribute [local irreducible] Bh.f BU.f Q5.f Em.f Co.f Fc.f
def Fi:DU:=⟨[.st 135 [.ty (.int .i64), .ty (.int .i64), .row false 93 (.cons (.int .i64) (.cons (.int .i64) (.cons (.int .i64) (.cons .bool (.cons (.row 73 (.int .u64)) (.row 73 (.int .u64))))))), .ty (.row 4 .bool), .row false 4 .bool, .ty (.int .i64), .ty (.int .i64), .ty .bool, .ty (.int .i64)], .ty (.cons (.cons .bool (.cons (.row 73 (.int .u64)) (.row 73 (.int .u64)))) (.cons (.int .u64) (.int .i64))), .ty (.cons (.cons .bool (.cons (.row 73 (.int .u64)) (.row 73 (.int .u64)))) (.cons (.int .u64) (.int .i64)))],[.bool],λk x=>(Am.f k x.1.1 x.1.2.1 x.1.2.2.1 x.1.2.2.2.1 x.1.2.2.2.2.1 x.1.2.2.2.2.2.1 x.1.2.2.2.2.2.2.1 x.1.2.2.2.2.2.2.2.1 x.1.2.2.2.2.2.2.2.2.1 x.2.1.1.1 x.2.1.1.2.1 x.2.1.1.2.2 x.2.1.2.1 x.2.1.2.2 x.2.2.1.1.1 x.2.2.1.1.2.1 x.2.2.1.1.2.2 x.2.2.1.2.1 x.2.2.1.2.2).map λr=>((r.1,()),((r.2.1,r.2.2.1,r.2.2.2.1,r.2.2.2.2.1,r.2.2.2.2.2.1,r.2.2.2.2.2.2.1,r.2.2.2.2.2.2.2.1,r.2.2.2.2.2.2.2.2.1,r.2.2.2.2.2.2.2.2.2,()),()))⟩
def Fj (r:Bool × Int × Int × List (Int × Int × Int × Bool × (List Int) × List Int) × List Bool × List Bool × Int × Int × Bool × Int):TT Fi.rs × ET Fi.ps:=((r.1,()),((r.2.1,r.2.2.1,r.2.2.2.1,r.2.2.2.2.1,r.2.2.2.2.2.1,r.2.2.2.2.2.2.1,r.2.2.2.2.2.2.2.1,r.2.2.2.2.2.2.2.2.1,r.2.2.2.2.2.2.2.2.2,()),()))
@[reducible] def LI:List Slot:= [.tmp 0 [.ptr 97 0], .tmp 7 [.ty .bool], .DO 97 .kept 135 [.ty (.int .i64), .ty (.int .i64), .own .Dn 110 93 (.cons (.int .i64) (.cons (.int .i64) (.cons (.int .i64) (.cons .bool (.cons (.row 73 (.int .u64)) (.row 73 (.int .u64))))))), .ty (.row 4 .bool), .own .Dn 111 4 .bool, .ty (.int .i64), .ty (.int .i64), .ty .bool, .ty (.int .i64)]]
def Pb (k:Nat) (x:TS LI):Option (Bool × Int × Int × List (Int × Int × Int × Bool × (List Int) × List Int) × List Bool × List Bool × Int × Int × Bool × Int):=Am.j18 k x.2.1.1 x.2.2.1.1 x.2.2.1.2.1 x.2.2.1.2.2.1 x.2.2.1.2.2.2.1 x.2.2.1.2.2.2.2.1 x.2.2.1.2.2.2.2.2.1 x.2.2.1.2.2.2.2.2.2.1 x.2.2.1.2.2.2.2.2.2.2.1 x.2.2.1.2.2.2.2.2.2.2.2.1
@[reducible] def LJ:List Slot:= [.DO 97 .kept 135 [.ty (.int .i64), .ty (.int .i64), .own .Dn 110 93 (.cons (.int .i64) (.cons (.int .i64) (.cons (.int .i64) (.cons .bool (.cons (.row 73 (.int .u64)) (.row 73 (.int .u64))))))), .ty (.row 4 .bool), .own .Dn 111 4 .bool, .ty (.int .i64), .ty (.int .i64), .ty .bool, .ty (.int .i64)]]
def Pc (k:Nat) (x:TS LJ):Option (Bool × Int × Int × List (Int × Int × Int × Bool × (List Int) × List Int) × List Bool × List Bool × Int × Int × Bool × Int):=Am.j9 k x.1.1 x.1.2.1 x.1.2.2.1 x.1.2.2.2.1 x.1.2.2.2.2.1 x.1.2.2.2.2.2.1 x.1.2.2.2.2.2.2.1 x.1.2.2.2.2.2.2.2.1 x.1.2.2.2.2.2.2.2.2.1
def cK:Bb (TT Fi.rs × ET Fi.ps):=⟨⟨97,112,[97]⟩,AE [],AE [(18,⟨LI,λk x=>(Pb k x).map Fj⟩),(9,⟨LJ,λk x=>(Pc k x).map Fj⟩)],AE []⟩
theorem cC:Qx Tryz.prog 102 Fi :=
 D7 (Bt:=AL []) (l:= [(168, .io Cu [(10,100)]),(178, .io Ce [(18,102)]),(179, .pu cJ),(180, .pu Mg),(181, .io Dw [(25,104),(30,106)]),(182, .io EK [(34,108)])]) (C:=cK) (by kernel_rfl) AI ⟨Ib,Fg,AEF,VM,PN,X9,trivial⟩ (fn:=Tryz.f102) (by kernel_rfl) rfl (by kernel_rfl) (by decide) (by kernel_rfl) (m:=112) (by decide) (by decide) (F:=λk x=>Am.f k x.1.1 x.1.2.1 x.1.2.2.1 x.1.2.2.2.1 x.1.2.2.2.2.1 x.1.2.2.2.2.2.1 x.1.2.2.2.2.2.2.1 x.1.2.2.2.2.2.2.2.1 x.1.2.2.2.2.2.2.2.2.1 x.2.1.1.1 x.2.1.1.2.1 x.2.1.1.2.2 x.2.1.2.1 x.2.1.2.2 x.2.2.1.1.1 x.2.2.1.1.2.1 x.2.2.1.1.2.2 x.2.2.1.2.1 x.2.2.1.2.2) (q:=Fj) (λk x=>rfl)
  (by
   refine And.intro ?_ ?_
   ·refine Al (sl:=LJ) (F:=Pc) (λx=>rfl) λk ⟨⟨(cW:Int),(cX:Int),(cY:List (Int × Int × Int × Bool × (List Int) × List Int)),(cZ:List Bool),(Yq:List Bool),(cg:Int),(cj:Int),(ck:Bool),(Yr:Int),_⟩,_⟩=> ?_
    show AY Fj (Am.j9 (k+1) cW cX cY cZ Yq cg cj ck Yr) _;rw[Am.j9];exact go
   refine And.intro ?_ ?_
   ·refine Al (sl:=LI) (F:=Pb) (λx=>rfl) λk ⟨_,⟨(x7:Bool),_⟩,⟨(cW:Int),(cX:Int),(cY:List (Int × Int × Int × Bool × (List Int) × List Int)),(cZ:List Bool),(Yq:List Bool),(cg:Int),(cj:Int),(ck:Bool),(Yr:Int),_⟩,_⟩=> ?_
    show AY Fj (Am.j18 (k+1) x7 cW cX cY cZ Yq cg cj ck Yr) _;rw[Am.j18];exact go
   exact trivial)
  (λk ⟨⟨Ab,Ae,Af,Ah,Ai,BH,BK,BL,BJ,_⟩,(a1:(Bool × (List Int) × List Int) × Int × Int),(a2:(Bool × (List Int) × List Int) × Int × Int),_⟩=>by show AY Fj (Am.f k Ab Ae Af Ah Ai BH BK BL BJ a1.1.1 a1.1.2.1 a1.1.2.2 a1.2.1 a1.2.2 a2.1.1 a2.1.2.1 a2.1.2.2 a2.2.1 a2.2.2) _;unfold Am.f;exact go)
end
section
attribute [local irreducible] Kw.f NQ.f
def lQ:AQ:=⟨[.int .i64],[(.cons .bool (.cons (.row 73 (.int .u64)) (.row 73 (.int .u64))))],λk x=>(Tm.f k x.1).map λr=>((r.1,r.2.1,r.2.2),())⟩
def zF (r:Bool × List Int × List Int):TT lQ.rs:=((r.1,r.2.1,r.2.2),())
theorem AHV:Cl Tryz.prog 62 lQ :=
 AT (Bt:=AL []) (l:= [(117, .pu Qa),(118, .pu Vx)]) (C:=AZ) (by kernel_rfl) AI ⟨Zb,pX,trivial⟩ (fn:=Tryz.f62) (by kernel_rfl) rfl (by kernel_rfl) (by decide) (by kernel_rfl) (F:=λk x=>Tm.f k x.1) (m:=zF) (λk x=>rfl)
  (by exact trivial)
  (λk ⟨(a0:Int),_⟩=>by show AY zF (Tm.f k a0) _;unfold Tm.f;exact go)
end
end Go.Proofs.YtjocbnjpjihpnaaGreat.A
