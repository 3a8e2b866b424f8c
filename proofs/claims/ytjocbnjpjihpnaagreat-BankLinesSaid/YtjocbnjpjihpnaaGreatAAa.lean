/- Functions that come to what their texts say. -/
import Derived.Test.YtjocbnjpjihpnaaGreatProg
import Derived.Test.YtjocbnjpjihpnaaGreatWWc
import Derived.KernelRfl
import Derived.Test.YtjocbnjpjihpnaaGreatBB
namespace Go.Proofs.YtjocbnjpjihpnaaGreat.A
open Go.RowKit Go.Proofs.YtjocbnjpjihpnaaGreat.P Go.Proofs.YtjocbnjpjihpnaaGreatW.AD Go.Proofs.YtjocbnjpjihpnaaGreatW.AU Go.Proofs.YtjocbnjpjihpnaaGreatW.Ac Go.Proofs.YtjocbnjpjihpnaaGreatW.HU
set_option linter.unusedVariables false
set_option linter.unusedSimpArgs false
set_option maxRecDepth 100000
set_option maxHeartbeats 4000000
end Go.Proofs.YtjocbnjpjihpnaaGreat.A
namespace Go.Proofs.YtjocbnjpjihpnaaGreat.A
open Go.Proofs.YtjocbnjpjihpnaaGreatW.HU
def tab:Kb:= [(2,⟨1,8,[.ro (.int .i64) (0:Int)], .int .i64,some (.int .i64)⟩),
 (3,⟨1,8,[.ro (.int .i64) (0:Int)], .int .i64,some (.int .i64)⟩),
 (4,⟨1,1,[.ro .bool false], .bool,some .bool⟩),
 (5,⟨1,1,[.ro (.int .u8) (0:Int)], .int .u8,some (.int .u8)⟩),
 (9,⟨1,16,[.ro .str (⟨#[]⟩:ByteArray)], .str,some .str⟩),
 (13,⟨2,24,[.ro .str (⟨#[]⟩:ByteArray), .ro (.int .u64) (0:Int)], .struct [(0,1),(1,1)],some (.cons .str (.int .u64))⟩),
 (21,⟨1,4,[.ro (.int .i32) (0:Int)], .int .i32,some (.int .i32)⟩),
 (22,⟨1,24,[.Bx], .slice 93,some (.row 93 (.cons (.int .i64) (.cons (.int .i64) (.cons (.int .i64) (.cons .bool (.cons (.row 73 (.int .u64)) (.row 73 (.int .u64))))))))⟩),
 (23,⟨1,24,[.Bx], .slice 45,some (.row 45 (.cons .bool (.cons (.row 73 (.int .u64)) (.row 73 (.int .u64)))))⟩),
 (24,⟨4,96,[.Bx, .Bx, .Bx, .Bx], .struct [(0,1),(1,1),(2,1),(3,1)],some (.cons (.row 93 (.cons (.int .i64) (.cons (.int .i64) (.cons (.int .i64) (.cons .bool (.cons (.row 73 (.int .u64)) (.row 73 (.int .u64)))))))) (.cons (.row 45 (.cons .bool (.cons (.row 73 (.int .u64)) (.row 73 (.int .u64))))) (.cons (.row 45 (.cons .bool (.cons (.row 73 (.int .u64)) (.row 73 (.int .u64))))) (.row 45 (.cons .bool (.cons (.row 73 (.int .u64)) (.row 73 (.int .u64))))))))⟩),
 (25,⟨4,96,[.Bx, .Bx, .Bx, .Bx], .struct [(0,1),(1,1),(2,1),(3,1)],some (.cons (.row 93 (.cons (.int .i64) (.cons (.int .i64) (.cons (.int .i64) (.cons .bool (.cons (.row 73 (.int .u64)) (.row 73 (.int .u64)))))))) (.cons (.row 45 (.cons .bool (.cons (.row 73 (.int .u64)) (.row 73 (.int .u64))))) (.cons (.row 45 (.cons .bool (.cons (.row 73 (.int .u64)) (.row 73 (.int .u64))))) (.row 45 (.cons .bool (.cons (.row 73 (.int .u64)) (.row 73 (.int .u64))))))))⟩),
 (28,⟨1,8,[.ro (.int .i64) (0:Int)], .int .i64,some (.int .i64)⟩),
 (34,⟨1,24,[.Bx], .slice 3,some (.row 3 (.int .i64))⟩),
 (43,⟨1,24,[.Bx], .slice 73,some (.row 73 (.int .u64))⟩),
 (44,⟨3,56,[.ro .bool false, .Bx, .Bx], .struct [(0,1),(1,1),(2,1)],some (.cons .bool (.cons (.row 73 (.int .u64)) (.row 73 (.int .u64))))⟩),
 (45,⟨3,56,[.ro .bool false, .Bx, .Bx], .struct [(0,1),(1,1),(2,1)],some (.cons .bool (.cons (.row 73 (.int .u64)) (.row 73 (.int .u64))))⟩),
 (62,⟨1,24,[.Bx], .slice 75,some (.row 75 (.cons (.int .i64) (.cons (.int .i64) (.cons (.int .i64) (.cons (.int .i64) (.cons (.int .i64) (.int .u64)))))))⟩),
 (63,⟨1,8,[.Mq], .ptr,none⟩),
 (65,⟨1,24,[.Bx], .slice 4,some (.row 4 .bool)⟩),
 (66,⟨5,56,[.ro (.int .i64) (0:Int), .ro (.int .i64) (0:Int), .ro (.int .i64) (0:Int), .Bx, .ro .bool false], .struct [(0,1),(1,1),(2,1),(3,1),(4,1)],some (.cons (.int .i64) (.cons (.int .i64) (.cons (.int .i64) (.cons (.row 4 .bool) .bool))))⟩),
 (67,⟨5,56,[.ro (.int .i64) (0:Int), .ro (.int .i64) (0:Int), .ro (.int .i64) (0:Int), .Bx, .ro .bool false], .struct [(0,1),(1,1),(2,1),(3,1),(4,1)],some (.cons (.int .i64) (.cons (.int .i64) (.cons (.int .i64) (.cons (.row 4 .bool) .bool))))⟩),
 (68,⟨1,24,[.Bx], .slice 137,some (.row 137 (.cons (.cons .bool (.cons (.row 73 (.int .u64)) (.row 73 (.int .u64)))) (.cons (.int .u64) (.int .i64))))⟩),
 (69,⟨2,48,[.Bx, .Bx], .struct [(0,1),(1,1)],some (.cons (.row 137 (.cons (.cons .bool (.cons (.row 73 (.int .u64)) (.row 73 (.int .u64)))) (.cons (.int .u64) (.int .i64)))) (.row 4 .bool))⟩),
 (70,⟨2,48,[.Bx, .Bx], .struct [(0,1),(1,1)],some (.cons (.row 137 (.cons (.cons .bool (.cons (.row 73 (.int .u64)) (.row 73 (.int .u64)))) (.cons (.int .u64) (.int .i64)))) (.row 4 .bool))⟩),
 (72,⟨1,8,[.Mq], .ptr,none⟩),
 (73,⟨1,8,[.ro (.int .u64) (0:Int)], .int .u64,some (.int .u64)⟩),
 (74,⟨6,48,[.ro (.int .i64) (0:Int), .ro (.int .i64) (0:Int), .ro (.int .i64) (0:Int), .ro (.int .i64) (0:Int), .ro (.int .i64) (0:Int), .ro (.int .u64) (0:Int)], .struct [(0,1),(1,1),(2,1),(3,1),(4,1),(5,1)],some (.cons (.int .i64) (.cons (.int .i64) (.cons (.int .i64) (.cons (.int .i64) (.cons (.int .i64) (.int .u64))))))⟩),
 (75,⟨6,48,[.ro (.int .i64) (0:Int), .ro (.int .i64) (0:Int), .ro (.int .i64) (0:Int), .ro (.int .i64) (0:Int), .ro (.int .i64) (0:Int), .ro (.int .u64) (0:Int)], .struct [(0,1),(1,1),(2,1),(3,1),(4,1),(5,1)],some (.cons (.int .i64) (.cons (.int .i64) (.cons (.int .i64) (.cons (.int .i64) (.cons (.int .i64) (.int .u64))))))⟩),
 (77,⟨1,8,[.Mq], .ptr,none⟩),
 (86,⟨7,56,[.ro (.int .i64) (0:Int), .ro (.int .i64) (0:Int), .ro (.int .i64) (0:Int), .ro (.int .i64) (0:Int), .ro (.int .i64) (0:Int), .ro .bool false, .ro (.int .i64) (0:Int)], .struct [(0,1),(1,1),(2,1),(3,1),(4,1),(5,1),(6,1)],some (.cons (.int .i64) (.cons (.int .i64) (.cons (.int .i64) (.cons (.int .i64) (.cons (.int .i64) (.cons .bool (.int .i64)))))))⟩),
 (87,⟨7,56,[.ro (.int .i64) (0:Int), .ro (.int .i64) (0:Int), .ro (.int .i64) (0:Int), .ro (.int .i64) (0:Int), .ro (.int .i64) (0:Int), .ro .bool false, .ro (.int .i64) (0:Int)], .struct [(0,1),(1,1),(2,1),(3,1),(4,1),(5,1),(6,1)],some (.cons (.int .i64) (.cons (.int .i64) (.cons (.int .i64) (.cons (.int .i64) (.cons (.int .i64) (.cons .bool (.int .i64)))))))⟩),
 (92,⟨6,80,[.ro (.int .i64) (0:Int), .ro (.int .i64) (0:Int), .ro (.int .i64) (0:Int), .ro .bool false, .Bx, .Bx], .struct [(0,1),(1,1),(2,1),(3,3)],some (.cons (.int .i64) (.cons (.int .i64) (.cons (.int .i64) (.cons .bool (.cons (.row 73 (.int .u64)) (.row 73 (.int .u64)))))))⟩),
 (93,⟨6,80,[.ro (.int .i64) (0:Int), .ro (.int .i64) (0:Int), .ro (.int .i64) (0:Int), .ro .bool false, .Bx, .Bx], .struct [(0,1),(1,1),(2,1),(3,3)],some (.cons (.int .i64) (.cons (.int .i64) (.cons (.int .i64) (.cons .bool (.cons (.row 73 (.int .u64)) (.row 73 (.int .u64)))))))⟩),
 (100,⟨1,8,[.Mq], .ptr,none⟩),
 (102,⟨3,72,[.Bx, .Bx, .Bx], .struct [(0,1),(1,1),(2,1)],some (.cons (.row 45 (.cons .bool (.cons (.row 73 (.int .u64)) (.row 73 (.int .u64))))) (.cons (.row 45 (.cons .bool (.cons (.row 73 (.int .u64)) (.row 73 (.int .u64))))) (.row 45 (.cons .bool (.cons (.row 73 (.int .u64)) (.row 73 (.int .u64)))))))⟩),
 (103,⟨3,72,[.Bx, .Bx, .Bx], .struct [(0,1),(1,1),(2,1)],some (.cons (.row 45 (.cons .bool (.cons (.row 73 (.int .u64)) (.row 73 (.int .u64))))) (.cons (.row 45 (.cons .bool (.cons (.row 73 (.int .u64)) (.row 73 (.int .u64))))) (.row 45 (.cons .bool (.cons (.row 73 (.int .u64)) (.row 73 (.int .u64)))))))⟩),
 (113,⟨6,112,[.ro .bool false, .Bx, .Bx, .ro .bool false, .Bx, .Bx], .arr 2 45,some (.cons (.cons .bool (.cons (.row 73 (.int .u64)) (.row 73 (.int .u64)))) (.cons .bool (.cons (.row 73 (.int .u64)) (.row 73 (.int .u64)))))⟩),
 (122,⟨1,8,[.Mq], .ptr,none⟩),
 (123,⟨4,80,[.Bx, .Bx, .Bx, .ro (.int .i64) (0:Int)], .struct [(0,1),(1,1),(2,1),(3,1)],some (.cons (.row 45 (.cons .bool (.cons (.row 73 (.int .u64)) (.row 73 (.int .u64))))) (.cons (.row 45 (.cons .bool (.cons (.row 73 (.int .u64)) (.row 73 (.int .u64))))) (.cons (.row 45 (.cons .bool (.cons (.row 73 (.int .u64)) (.row 73 (.int .u64))))) (.int .i64))))⟩),
 (124,⟨4,80,[.Bx, .Bx, .Bx, .ro (.int .i64) (0:Int)], .struct [(0,1),(1,1),(2,1),(3,1)],some (.cons (.row 45 (.cons .bool (.cons (.row 73 (.int .u64)) (.row 73 (.int .u64))))) (.cons (.row 45 (.cons .bool (.cons (.row 73 (.int .u64)) (.row 73 (.int .u64))))) (.cons (.row 45 (.cons .bool (.cons (.row 73 (.int .u64)) (.row 73 (.int .u64))))) (.int .i64))))⟩),
 (133,⟨1,8,[.Fm], .map 3 3,none⟩),
 (134,⟨9,120,[.ro (.int .i64) (0:Int), .ro (.int .i64) (0:Int), .Bx, .Bx, .Bx, .ro (.int .i64) (0:Int), .ro (.int .i64) (0:Int), .ro .bool false, .ro (.int .i64) (0:Int)], .struct [(0,1),(1,1),(2,1),(3,1),(4,1),(5,1),(6,1),(7,1),(8,1)],some (.cons (.int .i64) (.cons (.int .i64) (.cons (.row 93 (.cons (.int .i64) (.cons (.int .i64) (.cons (.int .i64) (.cons .bool (.cons (.row 73 (.int .u64)) (.row 73 (.int .u64)))))))) (.cons (.row 4 .bool) (.cons (.row 4 .bool) (.cons (.int .i64) (.cons (.int .i64) (.cons .bool (.int .i64)))))))))⟩),
 (135,⟨9,120,[.ro (.int .i64) (0:Int), .ro (.int .i64) (0:Int), .Bx, .Bx, .Bx, .ro (.int .i64) (0:Int), .ro (.int .i64) (0:Int), .ro .bool false, .ro (.int .i64) (0:Int)], .struct [(0,1),(1,1),(2,1),(3,1),(4,1),(5,1),(6,1),(7,1),(8,1)],some (.cons (.int .i64) (.cons (.int .i64) (.cons (.row 93 (.cons (.int .i64) (.cons (.int .i64) (.cons (.int .i64) (.cons .bool (.cons (.row 73 (.int .u64)) (.row 73 (.int .u64)))))))) (.cons (.row 4 .bool) (.cons (.row 4 .bool) (.cons (.int .i64) (.cons (.int .i64) (.cons .bool (.int .i64)))))))))⟩),
 (136,⟨5,72,[.ro .bool false, .Bx, .Bx, .ro (.int .u64) (0:Int), .ro (.int .i64) (0:Int)], .struct [(0,3),(3,1),(4,1)],some (.cons (.cons .bool (.cons (.row 73 (.int .u64)) (.row 73 (.int .u64)))) (.cons (.int .u64) (.int .i64)))⟩),
 (137,⟨5,72,[.ro .bool false, .Bx, .Bx, .ro (.int .u64) (0:Int), .ro (.int .i64) (0:Int)], .struct [(0,3),(3,1),(4,1)],some (.cons (.cons .bool (.cons (.row 73 (.int .u64)) (.row 73 (.int .u64)))) (.cons (.int .u64) (.int .i64)))⟩),
 (141,⟨3,24,[.ro (.int .i64) (0:Int), .ro (.int .i64) (0:Int), .ro (.int .u64) (0:Int)], .struct [(0,1),(1,1),(2,1)],some (.cons (.int .i64) (.cons (.int .i64) (.int .u64)))⟩),
 (142,⟨3,24,[.ro (.int .i64) (0:Int), .ro (.int .i64) (0:Int), .ro (.int .u64) (0:Int)], .struct [(0,1),(1,1),(2,1)],some (.cons (.int .i64) (.cons (.int .i64) (.int .u64)))⟩),
 (150,⟨1,8,[.Mq], .ptr,none⟩),
 (155,⟨1,8,[.ro (.int .u64) (0:Int)], .int .u64,some (.int .u64)⟩),
 (190,⟨3,24,[.ro .bool false, .ro (.int .u64) (0:Int), .ro (.int .i64) (0:Int)], .struct [(0,1),(1,1),(2,1)],some (.cons .bool (.cons (.int .u64) (.int .i64)))⟩),
 (191,⟨3,24,[.ro .bool false, .ro (.int .u64) (0:Int), .ro (.int .i64) (0:Int)], .struct [(0,1),(1,1),(2,1)],some (.cons .bool (.cons (.int .u64) (.int .i64)))⟩),
 (202,⟨14,112,[.ro (.int .i64) (0:Int), .ro (.int .i64) (0:Int), .ro (.int .i64) (0:Int), .ro (.int .i64) (0:Int), .ro (.int .i64) (0:Int), .ro (.int .i64) (0:Int), .ro (.int .i64) (0:Int), .ro (.int .i64) (0:Int), .ro (.int .i64) (0:Int), .ro (.int .i64) (0:Int), .ro (.int .i64) (0:Int), .ro (.int .i64) (0:Int), .ro (.int .i64) (0:Int), .ro (.int .i64) (0:Int)], .arr 14 3,none⟩),
 (221,⟨1,4,[.ro (.int .u32) (0:Int)], .int .u32,some (.int .u32)⟩),
 (225,⟨1,8,[.Mq], .ptr,none⟩)]
theorem AK:Kb.ok Tryz.prog tab=true:=by kernel_rfl
end Go.Proofs.YtjocbnjpjihpnaaGreat.A
namespace Go.Proofs.YtjocbnjpjihpnaaGreat.A
open Go.RowKit Go.Proofs.YtjocbnjpjihpnaaGreat.P Go.Proofs.YtjocbnjpjihpnaaGreatW.AD Go.Proofs.YtjocbnjpjihpnaaGreatW.AU Go.Proofs.YtjocbnjpjihpnaaGreatW.Ac Go.Proofs.YtjocbnjpjihpnaaGreatW.HU
set_option linter.unusedVariables false
set_option linter.unusedSimpArgs false
set_option maxRecDepth 100000
set_option maxHeartbeats 4000000
section
def Cl:D0:=⟨[.st 135 [.ty (.int .i64), .ty (.int .i64), .row false 93 (.cons (.int .i64) (.cons (.int .i64) (.cons (.int .i64) (.cons .bool (.cons (.row 73 (.int .u64)) (.row 73 (.int .u64))))))), .ty (.row 4 .bool), .row false 4 .bool, .ty (.int .i64), .ty (.int .i64), .ty .bool, .ty (.int .i64)]],[.bool],λk x=>(BV.f k x.1.1 x.1.2.1 x.1.2.2.1 x.1.2.2.2.1 x.1.2.2.2.2.1 x.1.2.2.2.2.2.1 x.1.2.2.2.2.2.2.1 x.1.2.2.2.2.2.2.2.1 x.1.2.2.2.2.2.2.2.2.1).map λr=>((r.1,()),((r.2.1,r.2.2.1,r.2.2.2.1,r.2.2.2.2.1,r.2.2.2.2.2.1,r.2.2.2.2.2.2.1,r.2.2.2.2.2.2.2.1,r.2.2.2.2.2.2.2.2.1,r.2.2.2.2.2.2.2.2.2,()),()))⟩
def NW (r:Bool × Int × Int × List (Int × Int × Int × Bool × (List Int) × List Int) × List Bool × List Bool × Int × Int × Bool × Int):TT Cl.rs × ET Cl.ps:=((r.1,()),((r.2.1,r.2.2.1,r.2.2.2.1,r.2.2.2.2.1,r.2.2.2.2.2.1,r.2.2.2.2.2.2.1,r.2.2.2.2.2.2.2.1,r.2.2.2.2.2.2.2.2.1,r.2.2.2.2.2.2.2.2.2,()),()))
def XS:Bs (TT Cl.rs × ET Cl.ps):=⟨⟨12,15,[12]⟩,AH [],AH [],AH []⟩
theorem HT:UB Tryz.prog 168 Cl :=
 FJ (Bt:=AP []) (l:= []) (C:=XS) (by kernel_rfl) AK trivial (fn:=Tryz.f168) (by kernel_rfl) rfl (by kernel_rfl) (by decide) (by kernel_rfl) (m:=15) (by decide) (by decide) (F:=λk x=>BV.f k x.1.1 x.1.2.1 x.1.2.2.1 x.1.2.2.2.1 x.1.2.2.2.2.1 x.1.2.2.2.2.2.1 x.1.2.2.2.2.2.2.1 x.1.2.2.2.2.2.2.2.1 x.1.2.2.2.2.2.2.2.2.1) (q:=NW) (λk x=>rfl)
  (by exact trivial)
  (λk ⟨⟨AX,Al,Am,Ao,BD,BB,BH,BJ,BE,_⟩,_⟩=>by show Ae NW (BV.f k AX Al Am Ao BD BB BH BJ BE) _;unfold BV.f;exact go)
end
section
def CP:D0:=⟨[.st 135 [.ty (.int .i64), .ty (.int .i64), .row false 93 (.cons (.int .i64) (.cons (.int .i64) (.cons (.int .i64) (.cons .bool (.cons (.row 73 (.int .u64)) (.row 73 (.int .u64))))))), .ty (.row 4 .bool), .row false 4 .bool, .ty (.int .i64), .ty (.int .i64), .ty .bool, .ty (.int .i64)], .ty (.int .i64)],[],λk x=>(A8.f k x.1.1 x.1.2.1 x.1.2.2.1 x.1.2.2.2.1 x.1.2.2.2.2.1 x.1.2.2.2.2.2.1 x.1.2.2.2.2.2.2.1 x.1.2.2.2.2.2.2.2.1 x.1.2.2.2.2.2.2.2.2.1 x.2.1).map λr=>((()),((r.1,r.2.1,r.2.2.1,r.2.2.2.1,r.2.2.2.2.1,r.2.2.2.2.2.1,r.2.2.2.2.2.2.1,r.2.2.2.2.2.2.2.1,r.2.2.2.2.2.2.2.2,()),()))⟩
def O3 (r:Int × Int × List (Int × Int × Int × Bool × (List Int) × List Int) × List Bool × List Bool × Int × Int × Bool × Int):TT CP.rs × ET CP.ps:=((()),((r.1,r.2.1,r.2.2.1,r.2.2.2.1,r.2.2.2.2.1,r.2.2.2.2.2.1,r.2.2.2.2.2.2.1,r.2.2.2.2.2.2.2.1,r.2.2.2.2.2.2.2.2,()),()))
def Yk:Bs (TT CP.rs × ET CP.ps):=⟨⟨17,20,[17]⟩,AH [],AH [],AH []⟩
theorem E0:UB Tryz.prog 178 CP :=
 FJ (Bt:=AP []) (l:= []) (C:=Yk) (by kernel_rfl) AK trivial (fn:=Tryz.f178) (by kernel_rfl) rfl (by kernel_rfl) (by decide) (by kernel_rfl) (m:=20) (by decide) (by decide) (F:=λk x=>A8.f k x.1.1 x.1.2.1 x.1.2.2.1 x.1.2.2.2.1 x.1.2.2.2.2.1 x.1.2.2.2.2.2.1 x.1.2.2.2.2.2.2.1 x.1.2.2.2.2.2.2.2.1 x.1.2.2.2.2.2.2.2.2.1 x.2.1) (q:=O3) (λk x=>rfl)
  (by exact trivial)
  (λk ⟨⟨AX,Al,Am,Ao,BD,BB,BH,BJ,BE,_⟩,(a1:Int),_⟩=>by show Ae O3 (A8.f k AX Al Am Ao BD BB BH BJ BE a1) _;unfold A8.f;exact go)
end
section
attribute [local irreducible] A8.f
def DF:D0:=⟨[.st 135 [.ty (.int .i64), .ty (.int .i64), .row false 93 (.cons (.int .i64) (.cons (.int .i64) (.cons (.int .i64) (.cons .bool (.cons (.row 73 (.int .u64)) (.row 73 (.int .u64))))))), .ty (.row 4 .bool), .row false 4 .bool, .ty (.int .i64), .ty (.int .i64), .ty .bool, .ty (.int .i64)], .ty (.cons (.int .i64) (.cons (.int .i64) (.cons (.int .i64) (.cons .bool (.cons (.row 73 (.int .u64)) (.row 73 (.int .u64)))))))],[(.cons (.cons .bool (.cons (.row 73 (.int .u64)) (.row 73 (.int .u64)))) (.cons (.int .u64) (.int .i64)))],λk x=>(Br.f k x.1.1 x.1.2.1 x.1.2.2.1 x.1.2.2.2.1 x.1.2.2.2.2.1 x.1.2.2.2.2.2.1 x.1.2.2.2.2.2.2.1 x.1.2.2.2.2.2.2.2.1 x.1.2.2.2.2.2.2.2.2.1 x.2.1.1 x.2.1.2.1 x.2.1.2.2.1 x.2.1.2.2.2.1 x.2.1.2.2.2.2.1 x.2.1.2.2.2.2.2).map λr=>((((r.1,(r.2.1,r.2.2.1)),(r.2.2.2.1,r.2.2.2.2.1)),()),((r.2.2.2.2.2.1,r.2.2.2.2.2.2.1,r.2.2.2.2.2.2.2.1,r.2.2.2.2.2.2.2.2.1,r.2.2.2.2.2.2.2.2.2.1,r.2.2.2.2.2.2.2.2.2.2.1,r.2.2.2.2.2.2.2.2.2.2.2.1,r.2.2.2.2.2.2.2.2.2.2.2.2.1,r.2.2.2.2.2.2.2.2.2.2.2.2.2,()),()))⟩
def NY (r:Bool × List Int × List Int × Int × Int × Int × Int × List (Int × Int × Int × Bool × (List Int) × List Int) × List Bool × List Bool × Int × Int × Bool × Int):TT DF.rs × ET DF.ps:=((((r.1,(r.2.1,r.2.2.1)),(r.2.2.2.1,r.2.2.2.2.1)),()),((r.2.2.2.2.2.1,r.2.2.2.2.2.2.1,r.2.2.2.2.2.2.2.1,r.2.2.2.2.2.2.2.2.1,r.2.2.2.2.2.2.2.2.2.1,r.2.2.2.2.2.2.2.2.2.2.1,r.2.2.2.2.2.2.2.2.2.2.2.1,r.2.2.2.2.2.2.2.2.2.2.2.2.1,r.2.2.2.2.2.2.2.2.2.2.2.2.2,()),()))
def XT:Bs (TT DF.rs × ET DF.ps):=⟨⟨31,36,[31]⟩,AH [],AH [],AH []⟩
theorem Jj:UB Tryz.prog 170 DF :=
 FJ (Bt:=AP [(4,[0,0,2,6,14,0,32,126,255,511,1023])]) (l:= [(178, .io CP [(12,34)])]) (C:=XT) (by kernel_rfl) AK ⟨E0,trivial⟩ (fn:=Tryz.f170) (by kernel_rfl) rfl (by kernel_rfl) (by decide) (by kernel_rfl) (m:=36) (by decide) (by decide) (F:=λk x=>Br.f k x.1.1 x.1.2.1 x.1.2.2.1 x.1.2.2.2.1 x.1.2.2.2.2.1 x.1.2.2.2.2.2.1 x.1.2.2.2.2.2.2.1 x.1.2.2.2.2.2.2.2.1 x.1.2.2.2.2.2.2.2.2.1 x.2.1.1 x.2.1.2.1 x.2.1.2.2.1 x.2.1.2.2.2.1 x.2.1.2.2.2.2.1 x.2.1.2.2.2.2.2) (q:=NY) (λk x=>rfl)
  (by exact trivial)
  (λk ⟨⟨AX,Al,Am,Ao,BD,BB,BH,BJ,BE,_⟩,(a1:Int × Int × Int × Bool × (List Int) × List Int),_⟩=>by show Ae NY (Br.f k AX Al Am Ao BD BB BH BJ BE a1.1 a1.2.1 a1.2.2.1 a1.2.2.2.1 a1.2.2.2.2.1 a1.2.2.2.2.2) _;unfold Br.f;exact go)
end
section
attribute [local irreducible] A8.f
def Dd:D0:=⟨[.st 135 [.ty (.int .i64), .ty (.int .i64), .row false 93 (.cons (.int .i64) (.cons (.int .i64) (.cons (.int .i64) (.cons .bool (.cons (.row 73 (.int .u64)) (.row 73 (.int .u64))))))), .ty (.row 4 .bool), .row false 4 .bool, .ty (.int .i64), .ty (.int .i64), .ty .bool, .ty (.int .i64)], .ty (.cons (.cons .bool (.cons (.row 73 (.int .u64)) (.row 73 (.int .u64)))) (.cons (.int .u64) (.int .i64)))],[.bool],λk x=>(CL.f k x.1.1 x.1.2.1 x.1.2.2.1 x.1.2.2.2.1 x.1.2.2.2.2.1 x.1.2.2.2.2.2.1 x.1.2.2.2.2.2.2.1 x.1.2.2.2.2.2.2.2.1 x.1.2.2.2.2.2.2.2.2.1 x.2.1.1.1 x.2.1.1.2.1 x.2.1.1.2.2 x.2.1.2.1 x.2.1.2.2).map λr=>((r.1,()),((r.2.1,r.2.2.1,r.2.2.2.1,r.2.2.2.2.1,r.2.2.2.2.2.1,r.2.2.2.2.2.2.1,r.2.2.2.2.2.2.2.1,r.2.2.2.2.2.2.2.2.1,r.2.2.2.2.2.2.2.2.2,()),()))⟩
def NZ (r:Bool × Int × Int × List (Int × Int × Int × Bool × (List Int) × List Int) × List Bool × List Bool × Int × Int × Bool × Int):TT Dd.rs × ET Dd.ps:=((r.1,()),((r.2.1,r.2.2.1,r.2.2.2.1,r.2.2.2.2.1,r.2.2.2.2.2.1,r.2.2.2.2.2.2.1,r.2.2.2.2.2.2.2.1,r.2.2.2.2.2.2.2.2.1,r.2.2.2.2.2.2.2.2.2,()),()))
def XU:Bs (TT Dd.rs × ET Dd.ps):=⟨⟨20,25,[20]⟩,AH [],AH [],AH []⟩
theorem Na:UB Tryz.prog 181 Dd :=
 FJ (Bt:=AP [(1,[0,1,3,7,15,31,15,79,207,463,975,2047,4095])]) (l:= [(178, .io CP [(19,23)])]) (C:=XU) (by kernel_rfl) AK ⟨E0,trivial⟩ (fn:=Tryz.f181) (by kernel_rfl) rfl (by kernel_rfl) (by decide) (by kernel_rfl) (m:=25) (by decide) (by decide) (F:=λk x=>CL.f k x.1.1 x.1.2.1 x.1.2.2.1 x.1.2.2.2.1 x.1.2.2.2.2.1 x.1.2.2.2.2.2.1 x.1.2.2.2.2.2.2.1 x.1.2.2.2.2.2.2.2.1 x.1.2.2.2.2.2.2.2.2.1 x.2.1.1.1 x.2.1.1.2.1 x.2.1.1.2.2 x.2.1.2.1 x.2.1.2.2) (q:=NZ) (λk x=>rfl)
  (by exact trivial)
  (λk ⟨⟨AX,Al,Am,Ao,BD,BB,BH,BJ,BE,_⟩,(a1:(Bool × (List Int) × List Int) × Int × Int),_⟩=>by show Ae NZ (CL.f k AX Al Am Ao BD BB BH BJ BE a1.1.1 a1.1.2.1 a1.1.2.2 a1.2.1 a1.2.2) _;unfold CL.f;exact go)
end
section
def NM:AS:=⟨[(.row 73 (.int .u64))],[.bool],λ_ x=>(FP.f x.1).map λr=>(r,())⟩
def Zr (r:Bool):TT NM.rs:=(r,())
theorem ZR:DP Tryz.prog 110 NM :=
 Aa (Bt:=AP []) (l:= []) (C:=Ai) (by kernel_rfl) AK trivial (fn:=Tryz.f110) (by kernel_rfl) rfl (by kernel_rfl) (by decide) (by kernel_rfl) (F:=λk x=>FP.f x.1) (m:=Zr) (λk x=>rfl)
  (by exact trivial)
  (λk ⟨(a0:List Int),_⟩=>by show Ae Zr (FP.f a0) _;unfold FP.f;exact go)
end
section
def JJ:AS:=⟨[(.row 73 (.int .u64))],[.int .i64],λk x=>(BZ.f k x.1).map λr=>(r,())⟩
def QG (r:Int):TT JJ.rs:=(r,())
@[reducible] def Ss:List Slot:= [.tmp 0 [.ty (.row 73 (.int .u64))], .tmp 3 [.ty (.int .i64)]]
def Zs (k:Nat) (x:TS Ss):Option (Int):=BZ.l0 k x.1.1 x.2.1.1
def yC:Bs (TT JJ.rs):=⟨⟨19,19,[]⟩,AH [(0,⟨Ss,λk x=>(Zs k x).map QG⟩)],AH [],AH []⟩
theorem QH:DP Tryz.prog 192 JJ :=
 Aa (Bt:=AP []) (l:= []) (C:=yC) (by kernel_rfl) AK trivial (fn:=Tryz.f192) (by kernel_rfl) rfl (by kernel_rfl) (by decide) (by kernel_rfl) (F:=λk x=>BZ.f k x.1) (m:=QG) (λk x=>rfl)
  (by
   refine And.intro ?_ ?_
   ·refine Au (sl:=Ss) (F:=Zs) (λx=>rfl) λk ⟨⟨(x0:List Int),_⟩,⟨(x3:Int),_⟩,_⟩=> ?_
    show Ae QG (BZ.l0 (k+1) x0 x3) _;rw[BZ.l0];exact go
   exact trivial)
  (λk ⟨(a0:List Int),_⟩=>by show Ae QG (BZ.f k a0) _;unfold BZ.f;exact go)
end
section
attribute [local irreducible] BZ.f
def KR:AS:=⟨[(.row 73 (.int .u64)),(.row 73 (.int .u64))],[.int .i64],λk x=>(Dl.f k x.1 x.2.1).map λr=>(r,())⟩
def Th (r:Int):TT KR.rs:=(r,())
@[reducible] def Vg:List Slot:= [.tmp 0 [.ty (.row 73 (.int .u64))], .tmp 1 [.ty (.row 73 (.int .u64))], .tmp 7 [.ty (.int .i64)]]
def gG (k:Nat) (x:TS Vg):Option (Int):=Dl.l0 k x.1.1 x.2.1.1 x.2.2.1.1
def ABI:Bs (TT KR.rs):=⟨⟨44,44,[]⟩,AH [(0,⟨Vg,λk x=>(gG k x).map Th⟩)],AH [],AH []⟩
theorem Tf:DP Tryz.prog 131 KR :=
 Aa (Bt:=AP [(9,[0,0,3,7,0,0,48,112,255,511]),(11,[0,0,3,7,0,0,48,112,255,511])]) (l:= [(192, .pu JJ)]) (C:=ABI) (by kernel_rfl) AK ⟨QH,trivial⟩ (fn:=Tryz.f131) (by kernel_rfl) rfl (by kernel_rfl) (by decide) (by kernel_rfl) (F:=λk x=>Dl.f k x.1 x.2.1) (m:=Th) (λk x=>rfl)
  (by
   refine And.intro ?_ ?_
   ·refine Au (sl:=Vg) (F:=gG) (λx=>rfl) λk ⟨⟨(x0:List Int),_⟩,⟨(x1:List Int),_⟩,⟨(x7:Int),_⟩,_⟩=> ?_
    show Ae Th (Dl.l0 (k+1) x0 x1 x7) _;rw[Dl.l0];exact go
   exact trivial)
  (λk ⟨(a0:List Int),(a1:List Int),_⟩=>by show Ae Th (Dl.f k a0 a1) _;unfold Dl.f;exact go)
end
section
attribute [local irreducible] FP.f Dl.f
def Vh:AS:=⟨[(.row 73 (.int .u64)),(.row 73 (.int .u64))],[.bool],λk x=>(ML.f k x.1 x.2.1).map λr=>(r,())⟩
def gH (r:Bool):TT Vh.rs:=(r,())
theorem yD:DP Tryz.prog 77 Vh :=
 Aa (Bt:=AP []) (l:= [(110, .pu NM),(131, .pu KR)]) (C:=Ai) (by kernel_rfl) AK ⟨ZR,Tf,trivial⟩ (fn:=Tryz.f77) (by kernel_rfl) rfl (by kernel_rfl) (by decide) (by kernel_rfl) (F:=λk x=>ML.f k x.1 x.2.1) (m:=gH) (λk x=>rfl)
  (by exact trivial)
  (λk ⟨(a0:List Int),(a1:List Int),_⟩=>by show Ae gH (ML.f k a0 a1) _;unfold ML.f;exact go)
end
section
attribute [local irreducible] BZ.f
def DC:AS:=⟨[(.row 73 (.int .u64))],[(.row 73 (.int .u64))],λk x=>(Ap.f k x.1).map λr=>(r,())⟩
def gI (r:List Int):TT DC.rs:=(r,())
theorem Dc:DP Tryz.prog 187 DC :=
 Aa (Bt:=AP []) (l:= [(192, .pu JJ)]) (C:=Ai) (by kernel_rfl) AK ⟨QH,trivial⟩ (fn:=Tryz.f187) (by kernel_rfl) rfl (by kernel_rfl) (by decide) (by kernel_rfl) (F:=λk x=>Ap.f k x.1) (m:=gI) (λk x=>rfl)
  (by exact trivial)
  (λk ⟨(a0:List Int),_⟩=>by show Ae gI (Ap.f k a0) _;unfold Ap.f;exact go)
end
section
def KW:AS:=⟨[.int .u64, .int .u64, .int .u64],[.int .u64, .int .u64],λ_ x=>(Dn.f x.1 x.2.1 x.2.2.1).map λr=>(r.1,r.2,())⟩
def gJ (r:Int × Int):TT KW.rs:=(r.1,r.2,())
theorem QI:DP Tryz.prog 193 KW :=
 Aa (Bt:=AP []) (l:= []) (C:=Ai) (by kernel_rfl) AK trivial (fn:=Tryz.f193) (by kernel_rfl) rfl (by kernel_rfl) (by decide) (by kernel_rfl) (F:=λk x=>Dn.f x.1 x.2.1 x.2.2.1) (m:=gJ) (λk x=>rfl)
  (by exact trivial)
  (λk ⟨(a0:Int),(a1:Int),(a2:Int),_⟩=>by show Ae gJ (Dn.f a0 a1 a2) _;unfold Dn.f;exact go)
end
section
attribute [local irreducible] Ap.f Dn.f
def MA:AS:=⟨[(.row 73 (.int .u64)),(.row 73 (.int .u64))],[(.row 73 (.int .u64))],λk x=>(BQ.f k x.1 x.2.1).map λr=>(r,())⟩
def Ti (r:List Int):TT MA.rs:=(r,())
@[reducible] def Vi:List Slot:= [.tmp 1 [.ty (.row 73 (.int .u64))], .tmp 5 [.own .mine 5 73 (.int .u64)], .tmp 6 [.ty (.int .u64)], .tmp 21 [.ty (.row 73 (.int .u64))], .tmp 22 [.ty (.int .i64)], .tmp 23 [.ty (.int .i64)]]
def gK (k:Nat) (x:TS Vi):Option (List Int):=BQ.l0 k x.1.1 x.2.1.1 x.2.2.1.1 x.2.2.2.1.1 x.2.2.2.2.1.1 x.2.2.2.2.2.1.1
def ABJ:Bs (TT MA.rs):=⟨⟨53,53,[]⟩,AH [(0,⟨Vi,λk x=>(gK k x).map Ti⟩)],AH [],AH []⟩
theorem XV:BQ.l1=BQ.l0:=by
 funext k
 induction k with
 | zero=>rfl
 | succ k ih=>funext x0 x1 x2 x3 x4 x5;simp only[BQ.l1,BQ.l0,ih]
theorem Te:DP Tryz.prog 132 MA :=
 Aa (Bt:=AP []) (l:= [(187, .pu DC),(193, .pu KW)]) (C:=ABJ) (by kernel_rfl) AK ⟨Dc,QI,trivial⟩ (fn:=Tryz.f132) (by kernel_rfl) rfl (by kernel_rfl) (by decide) (by kernel_rfl) (F:=λk x=>BQ.f k x.1 x.2.1) (m:=Ti) (λk x=>rfl)
  (by
   refine And.intro ?_ ?_
   ·refine Au (sl:=Vi) (F:=gK) (λx=>rfl) λk ⟨⟨(x1:List Int),_⟩,⟨(x5:List Int),_⟩,⟨(x6:Int),_⟩,⟨(Qn:List Int),_⟩,⟨(N3:Int),_⟩,⟨(Ms:Int),_⟩,_⟩=> ?_
    show Ae Ti (BQ.l0 (k+1) x1 x5 x6 Qn N3 Ms) _;rw[BQ.l0];(try simp only[XV]);exact go
   exact trivial)
  (λk ⟨(a0:List Int),(a1:List Int),_⟩=>by show Ae Ti (BQ.f k a0 a1) _;unfold BQ.f;(try simp only[XV]);exact go)
end
section
def Mg:AS:=⟨[.int .u64, .int .u64, .int .u64],[.int .u64, .int .u64],λ_ x=>(Eg.f x.1 x.2.1 x.2.2.1).map λr=>(r.1,r.2,())⟩
def gL (r:Int × Int):TT Mg.rs:=(r.1,r.2,())
theorem Vj:DP Tryz.prog 194 Mg :=
 Aa (Bt:=AP []) (l:= []) (C:=Ai) (by kernel_rfl) AK trivial (fn:=Tryz.f194) (by kernel_rfl) rfl (by kernel_rfl) (by decide) (by kernel_rfl) (F:=λk x=>Eg.f x.1 x.2.1 x.2.2.1) (m:=gL) (λk x=>rfl)
  (by exact trivial)
  (λk ⟨(a0:Int),(a1:Int),(a2:Int),_⟩=>by show Ae gL (Eg.f a0 a1 a2) _;unfold Eg.f;exact go)
end
section
attribute [local irreducible] Dl.f Ap.f Eg.f
def O4:AS:=⟨[(.row 73 (.int .u64)),(.row 73 (.int .u64))],[(.row 73 (.int .u64)), .bool],λk x=>(DU.f k x.1 x.2.1).map λr=>(r.1,r.2,())⟩
def Tj (r:List Int × Bool):TT O4.rs:=(r.1,r.2,())
@[reducible] def Vk:List Slot:= [.tmp 1 [.ty (.row 73 (.int .u64))], .tmp 6 [.own .mine 6 73 (.int .u64)], .tmp 7 [.ty (.int .u64)], .tmp 18 [.ty (.row 73 (.int .u64))], .tmp 19 [.ty (.int .i64)], .tmp 20 [.ty (.int .i64)]]
def gM (k:Nat) (x:TS Vk):Option (List Int × Bool):=DU.l0 k x.1.1 x.2.1.1 x.2.2.1.1 x.2.2.2.1.1 x.2.2.2.2.1.1 x.2.2.2.2.2.1.1
def ABK:Bs (TT O4.rs):=⟨⟨47,47,[]⟩,AH [(0,⟨Vk,λk x=>(gM k x).map Tj⟩)],AH [],AH []⟩
theorem Yl:DP Tryz.prog 133 O4 :=
 Aa (Bt:=AP []) (l:= [(131, .pu KR),(187, .pu DC),(194, .pu Mg)]) (C:=ABK) (by kernel_rfl) AK ⟨Tf,Dc,Vj,trivial⟩ (fn:=Tryz.f133) (by kernel_rfl) rfl (by kernel_rfl) (by decide) (by kernel_rfl) (F:=λk x=>DU.f k x.1 x.2.1) (m:=Tj) (λk x=>rfl)
  (by
   refine And.intro ?_ ?_
   ·refine Au (sl:=Vk) (F:=gM) (λx=>rfl) λk ⟨⟨(x1:List Int),_⟩,⟨(x6:List Int),_⟩,⟨(x7:Int),_⟩,⟨(uw:List Int),_⟩,⟨(ux:Int),_⟩,⟨(ZA:Int),_⟩,_⟩=> ?_
    show Ae Tj (DU.l0 (k+1) x1 x6 x7 uw ux ZA) _;rw[DU.l0];exact go
   exact trivial)
  (λk ⟨(a0:List Int),(a1:List Int),_⟩=>by show Ae Tj (DU.f k a0 a1) _;unfold DU.f;exact go)
end
section
attribute [local irreducible] BQ.f DU.f
def Ym:AS:=⟨[.bool,(.row 73 (.int .u64)), .bool,(.row 73 (.int .u64))],[.bool,(.row 73 (.int .u64))],λk x=>(ND.f k x.1 x.2.1 x.2.2.1 x.2.2.2.1).map λr=>(r.1,r.2,())⟩
def kr (r:Bool × List Int):TT Ym.rs:=(r.1,r.2,())
theorem ABL:DP Tryz.prog 78 Ym :=
 Aa (Bt:=AP []) (l:= [(132, .pu MA),(133, .pu O4)]) (C:=Ai) (by kernel_rfl) AK ⟨Te,Yl,trivial⟩ (fn:=Tryz.f78) (by kernel_rfl) rfl (by kernel_rfl) (by decide) (by kernel_rfl) (F:=λk x=>ND.f k x.1 x.2.1 x.2.2.1 x.2.2.2.1) (m:=kr) (λk x=>rfl)
  (by exact trivial)
  (λk ⟨(a0:Bool),(a1:List Int),(a2:Bool),(a3:List Int),_⟩=>by show Ae kr (ND.f k a0 a1 a2 a3) _;unfold ND.f;exact go)
end
section
attribute [local irreducible] Ap.f
def MP:AS:=⟨[.int .u64],[(.row 73 (.int .u64))],λk x=>(Ig.f k x.1).map λr=>(r,())⟩
def uQ (r:List Int):TT MP.rs:=(r,())
theorem SH:DP Tryz.prog 117 MP :=
 Aa (Bt:=AP []) (l:= [(187, .pu DC)]) (C:=Ai) (by kernel_rfl) AK ⟨Dc,trivial⟩ (fn:=Tryz.f117) (by kernel_rfl) rfl (by kernel_rfl) (by decide) (by kernel_rfl) (F:=λk x=>Ig.f k x.1) (m:=uQ) (λk x=>rfl)
  (by exact trivial)
  (λk ⟨(a0:Int),_⟩=>by show Ae uQ (Ig.f k a0) _;unfold Ig.f;exact go)
end
section
def Ee:AS:=⟨[.int .u64],[.int .i64],λk x=>(BF.f k x.1).map λr=>(r,())⟩
def QJ (r:Int):TT Ee.rs:=(r,())
@[reducible] def Su:List Slot:= [.tmp 0 [.ty (.int .u64)], .tmp 3 [.ty (.int .i64)], .tmp 4 [.ty (.int .i64)]]
def Zt (k:Nat) (x:TS Su):Option (Int):=BF.l0 k x.1.1 x.2.1.1 x.2.2.1.1
def yE:Bs (TT Ee.rs):=⟨⟨23,23,[]⟩,AH [(0,⟨Su,λk x=>(Zt k x).map QJ⟩)],AH [],AH []⟩
theorem Gs:DP Tryz.prog 195 Ee :=
 Aa (Bt:=AP []) (l:= []) (C:=yE) (by kernel_rfl) AK trivial (fn:=Tryz.f195) (by kernel_rfl) rfl (by kernel_rfl) (by decide) (by kernel_rfl) (F:=λk x=>BF.f k x.1) (m:=QJ) (λk x=>rfl)
  (by
   refine And.intro ?_ ?_
   ·refine Au (sl:=Su) (F:=Zt) (λx=>rfl) λk ⟨⟨(x0:Int),_⟩,⟨(x3:Int),_⟩,⟨(x4:Int),_⟩,_⟩=> ?_
    show Ae QJ (BF.l0 (k+1) x0 x3 x4) _;rw[BF.l0];exact go
   exact trivial)
  (λk ⟨(a0:Int),_⟩=>by show Ae QJ (BF.f k a0) _;unfold BF.f;exact go)
end
section
def L0:AS:=⟨[.int .u64, .int .u64, .int .u64],[.int .u64, .int .u64],λk x=>(Bh.f k x.1 x.2.1 x.2.2.1).map λr=>(r.1,r.2,())⟩
def IQ (r:Int × Int):TT L0.rs:=(r.1,r.2,())
@[reducible] def OG:List Slot:= [.tmp 0 [.ty (.int .u64)], .tmp 1 [.ty (.int .u64)], .tmp 2 [.ty (.int .u64)], .tmp 8 [.ty (.int .u64)], .tmp 9 [.ty (.int .u64)], .tmp 10 [.ty (.int .u64)], .tmp 11 [.ty (.int .u64)]]
def Ui (k:Nat) (x:TS OG):Option (Int × Int):=Bh.l0 k x.1.1 x.2.1.1 x.2.2.1.1 x.2.2.2.1.1 x.2.2.2.2.1.1 x.2.2.2.2.2.1.1 x.2.2.2.2.2.2.1.1
@[reducible] def OH:List Slot:= [.tmp 0 [.ty (.int .u64)], .tmp 1 [.ty (.int .u64)], .tmp 2 [.ty (.int .u64)], .tmp 8 [.ty (.int .u64)], .tmp 9 [.ty (.int .u64)], .tmp 10 [.ty (.int .u64)], .tmp 11 [.ty (.int .u64)], .tmp 33 [.ty .bool]]
def Uj (k:Nat) (x:TS OH):Option (Int × Int):=Bh.j1 k x.1.1 x.2.1.1 x.2.2.1.1 x.2.2.2.1.1 x.2.2.2.2.1.1 x.2.2.2.2.2.1.1 x.2.2.2.2.2.2.1.1 x.2.2.2.2.2.2.2.1.1
def pW:Bs (TT L0.rs):=⟨⟨50,50,[]⟩,AH [(0,⟨OG,λk x=>(Ui k x).map IQ⟩)],AH [],AH [(4,⟨OH,λk x=>(Uj k x).map IQ⟩)]⟩
theorem pX:DP Tryz.prog 257 L0 :=
 Aa (Bt:=AP []) (l:= []) (C:=pW) (by kernel_rfl) AK trivial (fn:=Tryz.f257) (by kernel_rfl) rfl (by kernel_rfl) (by decide) (by kernel_rfl) (F:=λk x=>Bh.f k x.1 x.2.1 x.2.2.1) (m:=IQ) (λk x=>rfl)
  (by
   refine And.intro ?_ ?_
   ·refine Au (sl:=OG) (F:=Ui) (λx=>rfl) λk ⟨⟨(x0:Int),_⟩,⟨(x1:Int),_⟩,⟨(x2:Int),_⟩,⟨(x8:Int),_⟩,⟨(x9:Int),_⟩,⟨(Ik:Int),_⟩,⟨(Lr:Int),_⟩,_⟩=> ?_
    show Ae IQ (Bh.l0 (k+1) x0 x1 x2 x8 x9 Ik Lr) _;rw[Bh.l0];exact go
   refine And.intro ?_ ?_
   ·refine Be (sl:=OH) (F:=Uj) (λx=>rfl) λk ⟨⟨(x0:Int),_⟩,⟨(x1:Int),_⟩,⟨(x2:Int),_⟩,⟨(x8:Int),_⟩,⟨(x9:Int),_⟩,⟨(Ik:Int),_⟩,⟨(Lr:Int),_⟩,⟨(YW:Bool),_⟩,_⟩=> ?_
    show Ae IQ (Bh.j1 (k+1) x0 x1 x2 x8 x9 Ik Lr YW) _;rw[Bh.j1];exact go
   exact trivial)
  (λk ⟨(a0:Int),(a1:Int),(a2:Int),_⟩=>by show Ae IQ (Bh.f k a0 a1 a2) _;unfold Bh.f;exact go)
end
section
attribute [local irreducible] BF.f Bh.f
def Mh:AS:=⟨[.int .u64, .int .u64, .int .u64],[.int .u64, .int .u64, .bool],λk x=>(Hh.f k x.1 x.2.1 x.2.2.1).map λr=>(r.1,r.2.1,r.2.2,())⟩
def gN (r:Int × Int × Bool):TT Mh.rs:=(r.1,r.2.1,r.2.2,())
theorem Vl:DP Tryz.prog 218 Mh :=
 Aa (Bt:=AP [(5,[0,0,3,0,8,0,32,120,255,511]),(9,[0,1,0,7,0,0,48,15,255,511])]) (l:= [(195, .pu Ee),(257, .pu L0)]) (C:=Ai) (by kernel_rfl) AK ⟨Gs,pX,trivial⟩ (fn:=Tryz.f218) (by kernel_rfl) rfl (by kernel_rfl) (by decide) (by kernel_rfl) (F:=λk x=>Hh.f k x.1 x.2.1 x.2.2.1) (m:=gN) (λk x=>rfl)
  (by exact trivial)
  (λk ⟨(a0:Int),(a1:Int),(a2:Int),_⟩=>by show Ae gN (Hh.f k a0 a1 a2) _;unfold Hh.f;exact go)
end
section
attribute [local irreducible] Ap.f Hh.f
def LK:AS:=⟨[(.row 73 (.int .u64)), .int .u64],[(.row 73 (.int .u64)), .int .u64, .bool],λk x=>(DI.f k x.1 x.2.1).map λr=>(r.1,r.2.1,r.2.2,())⟩
def Nb (r:List Int × Int × Bool):TT LK.rs:=(r.1,r.2.1,r.2.2,())
@[reducible] def QK:List Slot:= [.tmp 0 [.ty (.row 73 (.int .u64))], .tmp 1 [.ty (.int .u64)], .tmp 7 [.own .mine 7 73 (.int .u64)], .tmp 8 [.ty (.int .u64)], .tmp 9 [.ty (.int .i64)]]
def XW (k:Nat) (x:TS QK):Option (List Int × Int × Bool):=DI.l0 k x.1.1 x.2.1.1 x.2.2.1.1 x.2.2.2.1.1 x.2.2.2.2.1.1
def uR:Bs (TT LK.rs):=⟨⟨44,44,[]⟩,AH [(0,⟨QK,λk x=>(XW k x).map Nb⟩)],AH [],AH []⟩
theorem Zu:DP Tryz.prog 200 LK :=
 Aa (Bt:=AP []) (l:= [(187, .pu DC),(218, .pu Mh)]) (C:=uR) (by kernel_rfl) AK ⟨Dc,Vl,trivial⟩ (fn:=Tryz.f200) (by kernel_rfl) rfl (by kernel_rfl) (by decide) (by kernel_rfl) (F:=λk x=>DI.f k x.1 x.2.1) (m:=Nb) (λk x=>rfl)
  (by
   refine And.intro ?_ ?_
   ·refine Au (sl:=QK) (F:=XW) (λx=>rfl) λk ⟨⟨(x0:List Int),_⟩,⟨(x1:Int),_⟩,⟨(x7:List Int),_⟩,⟨(x8:Int),_⟩,⟨(x9:Int),_⟩,_⟩=> ?_
    show Ae Nb (DI.l0 (k+1) x0 x1 x7 x8 x9) _;rw[DI.l0];exact go
   exact trivial)
  (λk ⟨(a0:List Int),(a1:Int),_⟩=>by show Ae Nb (DI.f k a0 a1) _;unfold DI.f;exact go)
end
section
attribute [local irreducible] BZ.f BF.f
def FG:AS:=⟨[(.row 73 (.int .u64))],[.int .i64],λk x=>(Cd.f k x.1).map λr=>(r,())⟩
def gO (r:Int):TT FG.rs:=(r,())
theorem Gr:DP Tryz.prog 134 FG :=
 Aa (Bt:=AP []) (l:= [(192, .pu JJ),(195, .pu Ee)]) (C:=Ai) (by kernel_rfl) AK ⟨QH,Gs,trivial⟩ (fn:=Tryz.f134) (by kernel_rfl) rfl (by kernel_rfl) (by decide) (by kernel_rfl) (F:=λk x=>Cd.f k x.1) (m:=gO) (λk x=>rfl)
  (by exact trivial)
  (λk ⟨(a0:List Int),_⟩=>by show Ae gO (Cd.f k a0) _;unfold Cd.f;exact go)
end
section
def ku:qZ:=⟨[(.row 73 (.int .u64)), .int .i64],73, .int .u64,λk x=>(B0.f k x.1 x.2.1).map λr=>r⟩
theorem yF:FNk Tryz.prog 210 ku:=⟨by kernel_rfl,λk x r h U w vs hU ha0=>by
 have h:B0.f k x.1 x.2.1=some r:=by
  obtain⟨r0,h0,rfl⟩:=AQl.mp h;exact h0
 obtain⟨cs0,vs0,rfl,q0,ha1⟩:=ha0.cons;obtain⟨A0,c0,rfl,C0,le0⟩:=AEr q0;obtain⟨cs1,vs1,rfl,q1,ha2⟩:=ha1.cons;obtain rfl:=(show _= [Value.int .i64 (x.2.1)] from q1);obtain rfl:vs1= []:=ha2;refine(B0.calls (k:=k) (A0:=A0) (c0:=c0) (l0:=x.1) (WN:=C0) (hc0:=le0) (a1:=x.2.1) (r:=r) (w:=w) (h:=h)).mono ?_;rintro e w' ⟨v,rfl,R,hb⟩;obtain⟨inner,h1,h2⟩:=AEs R;exact⟨v,inner,rfl,h1,h2,hb⟩⟩
end
section
def JK:AS:=⟨[.int .u64, .int .u64],[.int .u64, .int .u64],λ_ x=>(DZ.f x.1 x.2.1).map λr=>(r.1,r.2,())⟩
def gP (r:Int × Int):TT JK.rs:=(r.1,r.2,())
theorem Mi:DP Tryz.prog 196 JK :=
 Aa (Bt:=AP []) (l:= []) (C:=Ai) (by kernel_rfl) AK trivial (fn:=Tryz.f196) (by kernel_rfl) rfl (by kernel_rfl) (by decide) (by kernel_rfl) (F:=λk x=>DZ.f x.1 x.2.1) (m:=gP) (λk x=>rfl)
  (by exact trivial)
  (λk ⟨(a0:Int),(a1:Int),_⟩=>by show Ae gP (DZ.f a0 a1) _;unfold DZ.f;exact go)
end
section
attribute [local irreducible] Eg.f DZ.f
def Jq:AS:=⟨[.int .u64, .int .u64, .int .u64, .int .u64, .int .u64, .int .u64],[.int .u64],λk x=>(BI.f k x.1 x.2.1 x.2.2.1 x.2.2.2.1 x.2.2.2.2.1 x.2.2.2.2.2.1).map λr=>(r,())⟩
def Jr (r:Int):TT Jq.rs:=(r,())
@[reducible] def LX:List Slot:= [.tmp 0 [.ty (.int .u64)], .tmp 1 [.ty (.int .u64)], .tmp 2 [.ty (.int .u64)], .tmp 3 [.ty (.int .u64)], .tmp 4 [.ty (.int .u64)], .tmp 5 [.ty (.int .u64)]]
def Q1 (k:Nat) (x:TS LX):Option (Int):=BI.l0 k x.1.1 x.2.1.1 x.2.2.1.1 x.2.2.2.1.1 x.2.2.2.2.1.1 x.2.2.2.2.2.1.1
def gQ:Bs (TT Jq.rs):=⟨⟨64,64,[]⟩,AH [(0,⟨LX,λk x=>(Q1 k x).map Jr⟩)],AH [],AH []⟩
theorem gR:DP Tryz.prog 260 Jq :=
 Aa (Bt:=AP []) (l:= [(194, .pu Mg),(196, .pu JK)]) (C:=gQ) (by kernel_rfl) AK ⟨Vj,Mi,trivial⟩ (fn:=Tryz.f260) (by kernel_rfl) rfl (by kernel_rfl) (by decide) (by kernel_rfl) (F:=λk x=>BI.f k x.1 x.2.1 x.2.2.1 x.2.2.2.1 x.2.2.2.2.1 x.2.2.2.2.2.1) (m:=Jr) (λk x=>rfl)
  (by
   refine And.intro ?_ ?_
   ·refine Au (sl:=LX) (F:=Q1) (λx=>rfl) λk ⟨⟨(x0:Int),_⟩,⟨(x1:Int),_⟩,⟨(x2:Int),_⟩,⟨(x3:Int),_⟩,⟨(x4:Int),_⟩,⟨(x5:Int),_⟩,_⟩=> ?_
    show Ae Jr (BI.l0 (k+1) x0 x1 x2 x3 x4 x5) _;rw[BI.l0];exact go
   exact trivial)
  (λk ⟨(a0:Int),(a1:Int),(a2:Int),(a3:Int),(a4:Int),(a5:Int),_⟩=>by show Ae Jr (BI.f k a0 a1 a2 a3 a4 a5) _;unfold BI.f;exact go)
end
section
attribute [local irreducible] Hh.f BI.f
def QL:AS:=⟨[(.row 73 (.int .u64)), .int .i64, .int .u64, .int .u64],[.int .u64],λk x=>(Ft.f k x.1 x.2.1 x.2.2.1 x.2.2.2.1).map λr=>(r,())⟩
def XX (r:Int):TT QL.rs:=(r,())
theorem pY:DP Tryz.prog 246 QL :=
 Aa (Bt:=AP [(1,[0,0,3,7,0,0,32,112,240,0,0,1024,3584,7680,15,16895,65535])]) (l:= [(218, .pu Mh),(260, .pu Jq)]) (C:=Ai) (by kernel_rfl) AK ⟨Vl,gR,trivial⟩ (fn:=Tryz.f246) (by kernel_rfl) rfl (by kernel_rfl) (by decide) (by kernel_rfl) (F:=λk x=>Ft.f k x.1 x.2.1 x.2.2.1 x.2.2.2.1) (m:=XX) (λk x=>rfl)
  (by exact trivial)
  (λk ⟨(a0:List Int),(a1:Int),(a2:Int),(a3:Int),_⟩=>by show Ae XX (Ft.f k a0 a1 a2 a3) _;unfold Ft.f;exact go)
end
section
attribute [local irreducible] Dn.f Eg.f DZ.f
def JT:D0:=⟨[.LP 73 (.int .u64), .ty (.row 73 (.int .u64)), .ty (.int .i64), .ty (.int .u64)],[.bool],λk x=>(Cm.f k x.1 x.2.1 x.2.2.1 x.2.2.2.1).map λr=>((r.1,()),(r.2,()))⟩
def Nc (r:Bool × List Int):TT JT.rs × ET JT.ps:=((r.1,()),(r.2,()))
@[reducible] def QM:List Slot:= [.tmp 0 [.own .kept 84 73 (.int .u64)], .tmp 1 [.ty (.row 73 (.int .u64))], .tmp 2 [.ty (.int .i64)], .tmp 3 [.ty (.int .u64)], .tmp 9 [.ty (.int .u64)], .tmp 10 [.ty (.int .u64)], .tmp 20 [.ty (.row 73 (.int .u64))], .tmp 21 [.ty (.int .i64)], .tmp 22 [.ty (.int .i64)]]
def XY (k:Nat) (x:TS QM):Option (Bool × List Int):=Cm.l0 k x.1.1 x.2.1.1 x.2.2.1.1 x.2.2.2.1.1 x.2.2.2.2.1.1 x.2.2.2.2.2.1.1 x.2.2.2.2.2.2.1.1 x.2.2.2.2.2.2.2.1.1 x.2.2.2.2.2.2.2.2.1.1
def uS:Bs (TT JT.rs × ET JT.ps):=⟨⟨84,85,[84]⟩,AH [(0,⟨QM,λk x=>(XY k x).map Nc⟩)],AH [],AH []⟩
theorem uT:UB Tryz.prog 247 JT :=
 FJ (Bt:=AP []) (l:= [(193, .pu KW),(194, .pu Mg),(196, .pu JK)]) (C:=uS) (by kernel_rfl) AK ⟨QI,Vj,Mi,trivial⟩ (fn:=Tryz.f247) (by kernel_rfl) rfl (by kernel_rfl) (by decide) (by kernel_rfl) (m:=85) (by decide) (by decide) (F:=λk x=>Cm.f k x.1 x.2.1 x.2.2.1 x.2.2.2.1) (q:=Nc) (λk x=>rfl)
  (by
   refine And.intro ?_ ?_
   ·refine Au (sl:=QM) (F:=XY) (λx=>rfl) λk ⟨⟨(x0:List Int),_⟩,⟨(x1:List Int),_⟩,⟨(x2:Int),_⟩,⟨(x3:Int),_⟩,⟨(x9:Int),_⟩,⟨(Ik:Int),_⟩,⟨(ZA:List Int),_⟩,⟨(Qn:Int),_⟩,⟨(N3:Int),_⟩,_⟩=> ?_
    show Ae Nc (Cm.l0 (k+1) x0 x1 x2 x3 x9 Ik ZA Qn N3) _;rw[Cm.l0];exact go
   exact trivial)
  (λk ⟨(a0:List Int),(a1:List Int),(a2:Int),(a3:Int),_⟩=>by show Ae Nc (Cm.f k a0 a1 a2 a3) _;unfold Cm.f;exact go)
end
section
attribute [local irreducible] Dn.f
def JU:D0:=⟨[.LP 73 (.int .u64), .ty (.row 73 (.int .u64)), .ty (.int .i64)],[],λk x=>(Cv.f k x.1 x.2.1 x.2.2.1).map λr=>((()),(r,()))⟩
def Nd (r:List Int):TT JU.rs × ET JU.ps:=((()),(r,()))
@[reducible] def QN:List Slot:= [.tmp 0 [.own .kept 48 73 (.int .u64)], .tmp 1 [.ty (.row 73 (.int .u64))], .tmp 2 [.ty (.int .i64)], .tmp 6 [.ty (.int .u64)], .tmp 11 [.ty (.row 73 (.int .u64))], .tmp 12 [.ty (.int .i64)], .tmp 13 [.ty (.int .i64)]]
def XZ (k:Nat) (x:TS QN):Option (List Int):=Cv.l0 k x.1.1 x.2.1.1 x.2.2.1.1 x.2.2.2.1.1 x.2.2.2.2.1.1 x.2.2.2.2.2.1.1 x.2.2.2.2.2.2.1.1
def uU:Bs (TT JU.rs × ET JU.ps):=⟨⟨48,49,[48]⟩,AH [(0,⟨QN,λk x=>(XZ k x).map Nd⟩)],AH [],AH []⟩
theorem uV:UB Tryz.prog 248 JU :=
 FJ (Bt:=AP []) (l:= [(193, .pu KW)]) (C:=uU) (by kernel_rfl) AK ⟨QI,trivial⟩ (fn:=Tryz.f248) (by kernel_rfl) rfl (by kernel_rfl) (by decide) (by kernel_rfl) (m:=49) (by decide) (by decide) (F:=λk x=>Cv.f k x.1 x.2.1 x.2.2.1) (q:=Nd) (λk x=>rfl)
  (by
   refine And.intro ?_ ?_
   ·refine Au (sl:=QN) (F:=XZ) (λx=>rfl) λk ⟨⟨(x0:List Int),_⟩,⟨(x1:List Int),_⟩,⟨(x2:Int),_⟩,⟨(x6:Int),_⟩,⟨(Lr:List Int),_⟩,⟨(iq:Int),_⟩,⟨(Dm:Int),_⟩,_⟩=> ?_
    show Ae Nd (Cv.l0 (k+1) x0 x1 x2 x6 Lr iq Dm) _;rw[Cv.l0];exact go
   exact trivial)
  (λk ⟨(a0:List Int),(a1:List Int),(a2:Int),_⟩=>by show Ae Nd (Cv.f k a0 a1 a2) _;unfold Cv.f;exact go)
end
section
attribute [local irreducible] Ap.f
def Oq:AS:=⟨[(.row 73 (.int .u64)), .int .i64],[(.row 73 (.int .u64))],λk x=>(D8.f k x.1 x.2.1).map λr=>(r,())⟩
def Tk (r:List Int):TT Oq.rs:=(r,())
@[reducible] def Vm:List Slot:= [.tmp 0 [.ty (.row 73 (.int .u64))], .tmp 6 [.ty (.int .i64)], .tmp 7 [.own .mine 7 73 (.int .u64)], .tmp 8 [.ty (.int .i64)]]
def gS (k:Nat) (x:TS Vm):Option (List Int):=match x with | ⟨⟨(x0:List Int),_⟩,⟨(x6:Int),_⟩,⟨(x7:List Int),_⟩,⟨(x8:Int),_⟩,_⟩=>if 0<=x6/\x6<64 then D8.l0 k x0 x6 x7 x8 else none
def ABM:Bs (TT Oq.rs):=⟨⟨59,59,[]⟩,AH [(0,⟨Vm,λk x=>(gS k x).map Tk⟩)],AH [],AH []⟩
theorem kf:DP Tryz.prog 249 Oq :=
 Aa (Bt:=AP [(12,[0,0,0,6,14,0,62,0,128,0,512,1920,4094,8190,16383,32767])]) (l:= [(187, .pu DC)]) (C:=ABM) (by kernel_rfl) AK ⟨Dc,trivial⟩ (fn:=Tryz.f249) (by kernel_rfl) rfl (by kernel_rfl) (by decide) (by kernel_rfl) (F:=λk x=>D8.f k x.1 x.2.1) (m:=Tk) (λk x=>rfl)
  (by
   refine And.intro ?_ ?_
   ·refine Au (sl:=Vm) (F:=gS) (λ⟨⟨(x0:List Int),_⟩,⟨(x6:Int),_⟩,⟨(x7:List Int),_⟩,⟨(x8:Int),_⟩,_⟩=>by show(if 0<=x6/\x6<64 then D8.l0 0 x0 x6 x7 x8 else none)=none;split<;>rfl) λk ⟨⟨(x0:List Int),_⟩,⟨(x6:Int),_⟩,⟨(x7:List Int),_⟩,⟨(x8:Int),_⟩,_⟩=> ?_
    show Ae Tk (if 0<=x6/\x6<64 then D8.l0 (k+1) x0 x6 x7 x8 else none) _;rw[D8.l0];exact go
   exact trivial)
  (λk ⟨(a0:List Int),(a1:Int),_⟩=>by show Ae Tk (D8.f k a0 a1) _;unfold D8.f;exact go)
end
section
attribute [local irreducible] Cd.f Ap.f B0.f Ft.f Cm.f Cv.f D8.f
def Nf:AS:=⟨[(.row 73 (.int .u64)),(.row 73 (.int .u64))],[(.row 73 (.int .u64)),(.row 73 (.int .u64))],λk x=>(Bq.f k x.1 x.2.1).map λr=>(r.1,r.2,())⟩
def JV (r:List Int × List Int):TT Nf.rs:=(r.1,r.2,())
@[reducible] def QO:List Slot:= [.tmp 0 [.ty (.row 73 (.int .u64))], .tmp 6 [.ty (.int .i64)], .tmp 7 [.ty (.row 73 (.int .u64))], .tmp 8 [.own .mine 8 73 (.int .u64)]]
def Xa (k:Nat) (x:TS QO):Option (List Int × List Int):=Bq.l0 k x.1.1 x.2.1.1 x.2.2.1.1 x.2.2.2.1.1
@[reducible] def QS:List Slot:= [.tmp 6 [.ty (.int .i64)], .tmp 7 [.ty (.row 73 (.int .u64))], .tmp 8 [.own .mine 8 73 (.int .u64)], .tmp 9 [.ty (.int .i64)], .tmp 10 [.own .mine 10 73 (.int .u64)], .tmp 11 [.ty (.int .i64)]]
def Xb (k:Nat) (x:TS QS):Option (List Int × List Int):=Bq.l1 k x.1.1 x.2.1.1 x.2.2.1.1 x.2.2.2.1.1 x.2.2.2.2.1.1 x.2.2.2.2.2.1.1
def uW:Bs (TT Nf.rs):=⟨⟨83,83,[]⟩,AH [(0,⟨QO,λk x=>(Xa k x).map JV⟩),(1,⟨QS,λk x=>(Xb k x).map JV⟩)],AH [],AH []⟩
theorem uX:DP Tryz.prog 202 Nf :=
 Aa (Bt:=AP [(11,[0,0,0,6,0,0,32,112,240,0,0,1024,3584,7680,16383,32767])]) (l:= [(134, .pu FG),(187, .pu DC),(210, .nw ku),(246, .pu QL),(247, .io JT [(67,83)]),(248, .io JU [(73,83)]),(249, .pu Oq)]) (C:=uW) (by kernel_rfl) AK ⟨Gr,Dc,yF,pY,uT,uV,kf,trivial⟩ (fn:=Tryz.f202) (by kernel_rfl) rfl (by kernel_rfl) (by decide) (by kernel_rfl) (F:=λk x=>Bq.f k x.1 x.2.1) (m:=JV) (λk x=>rfl)
  (by
   refine And.intro ?_ ?_
   ·refine Au (sl:=QO) (F:=Xa) (λx=>rfl) λk ⟨⟨(x0:List Int),_⟩,⟨(x6:Int),_⟩,⟨(x7:List Int),_⟩,⟨(x8:List Int),_⟩,_⟩=> ?_
    show Ae JV (Bq.l0 (k+1) x0 x6 x7 x8) _;rw[Bq.l0];exact go
   refine And.intro ?_ ?_
   ·refine Au (sl:=QS) (F:=Xb) (λx=>rfl) λk ⟨⟨(x6:Int),_⟩,⟨(x7:List Int),_⟩,⟨(x8:List Int),_⟩,⟨(x9:Int),_⟩,⟨(Ik:List Int),_⟩,⟨(Lr:Int),_⟩,_⟩=> ?_
    show Ae JV (Bq.l1 (k+1) x6 x7 x8 x9 Ik Lr) _;rw[Bq.l1];exact go
   exact trivial)
  (λk ⟨(a0:List Int),(a1:List Int),_⟩=>by show Ae JV (Bq.f k a0 a1) _;unfold Bq.f;exact go)
end
section
attribute [local irreducible] Ig.f Dl.f Ap.f DI.f Bq.f
def MQ:AS:=⟨[(.row 73 (.int .u64)),(.row 73 (.int .u64))],[(.row 73 (.int .u64)),(.row 73 (.int .u64)), .bool],λk x=>(Gx.f k x.1 x.2.1).map λr=>(r.1,r.2.1,r.2.2,())⟩
def gT (r:List Int × List Int × Bool):TT MQ.rs:=(r.1,r.2.1,r.2.2,())
theorem Va:DP Tryz.prog 138 MQ :=
 Aa (Bt:=AP []) (l:= [(117, .pu MP),(131, .pu KR),(187, .pu DC),(200, .pu LK),(202, .pu Nf)]) (C:=Ai) (by kernel_rfl) AK ⟨SH,Tf,Dc,Zu,uX,trivial⟩ (fn:=Tryz.f138) (by kernel_rfl) rfl (by kernel_rfl) (by decide) (by kernel_rfl) (F:=λk x=>Gx.f k x.1 x.2.1) (m:=gT) (λk x=>rfl)
  (by exact trivial)
  (λk ⟨(a0:List Int),(a1:List Int),_⟩=>by show Ae gT (Gx.f k a0 a1) _;unfold Gx.f;exact go)
end
section
attribute [local irreducible] BZ.f
def Pv:AS:=⟨[(.row 73 (.int .u64))],[.int .u64, .bool],λk x=>(Iq.f k x.1).map λr=>(r.1,r.2,())⟩
def gU (r:Int × Bool):TT Pv.rs:=(r.1,r.2,())
theorem fZ:DP Tryz.prog 199 Pv :=
 Aa (Bt:=AP []) (l:= [(192, .pu JJ)]) (C:=Ai) (by kernel_rfl) AK ⟨QH,trivial⟩ (fn:=Tryz.f199) (by kernel_rfl) rfl (by kernel_rfl) (by decide) (by kernel_rfl) (F:=λk x=>Iq.f k x.1) (m:=gU) (λk x=>rfl)
  (by exact trivial)
  (λk ⟨(a0:List Int),_⟩=>by show Ae gU (Iq.f k a0) _;unfold Iq.f;exact go)
end
section
def Ng:AS:=⟨[.int .u64, .int .u64],[.int .u64],λk x=>(Dw.f k x.1 x.2.1).map λr=>(r,())⟩
def Nh (r:Int):TT Ng.rs:=(r,())
@[reducible] def QT:List Slot:= [.tmp 0 [.ty (.int .u64)], .tmp 1 [.ty (.int .u64)]]
def Xc (k:Nat) (x:TS QT):Option (Int):=Dw.l0 k x.1.1 x.2.1.1
def uY:Bs (TT Ng.rs):=⟨⟨12,12,[]⟩,AH [(0,⟨QT,λk x=>(Xc k x).map Nh⟩)],AH [],AH []⟩
theorem uZ:DP Tryz.prog 201 Ng :=
 Aa (Bt:=AP [(2,[0,0,0,6,3,31])]) (l:= []) (C:=uY) (by kernel_rfl) AK trivial (fn:=Tryz.f201) (by kernel_rfl) rfl (by kernel_rfl) (by decide) (by kernel_rfl) (F:=λk x=>Dw.f k x.1 x.2.1) (m:=Nh) (λk x=>rfl)
  (by
   refine And.intro ?_ ?_
   ·refine Au (sl:=QT) (F:=Xc) (λx=>rfl) λk ⟨⟨(x0:Int),_⟩,⟨(x1:Int),_⟩,_⟩=> ?_
    show Ae Nh (Dw.l0 (k+1) x0 x1) _;rw[Dw.l0];exact go
   exact trivial)
  (λk ⟨(a0:Int),(a1:Int),_⟩=>by show Ae Nh (Dw.f k a0 a1) _;unfold Dw.f;exact go)
end
section
attribute [local irreducible] Ig.f Gx.f Ap.f Iq.f DI.f Dw.f
def Ow:AS:=⟨[(.row 73 (.int .u64)),(.row 73 (.int .u64))],[(.row 73 (.int .u64))],λk x=>(Em.f k x.1 x.2.1).map λr=>(r,())⟩
def Tl (r:List Int):TT Ow.rs:=(r,())
@[reducible] def Vn:List Slot:= [.tmp 0 [.ty (.row 73 (.int .u64))], .tmp 1 [.ty (.row 73 (.int .u64))]]
def gV (k:Nat) (x:TS Vn):Option (List Int):=Em.l0 k x.1.1 x.2.1.1
def ABN:Bs (TT Ow.rs):=⟨⟨48,48,[]⟩,AH [(0,⟨Vn,λk x=>(gV k x).map Tl⟩)],AH [],AH []⟩
theorem kg:DP Tryz.prog 137 Ow :=
 Aa (Bt:=AP []) (l:= [(117, .pu MP),(138, .pu MQ),(187, .pu DC),(199, .pu Pv),(200, .pu LK),(201, .pu Ng)]) (C:=ABN) (by kernel_rfl) AK ⟨SH,Va,Dc,fZ,Zu,uZ,trivial⟩ (fn:=Tryz.f137) (by kernel_rfl) rfl (by kernel_rfl) (by decide) (by kernel_rfl) (F:=λk x=>Em.f k x.1 x.2.1) (m:=Tl) (λk x=>rfl)
  (by
   refine And.intro ?_ ?_
   ·refine Au (sl:=Vn) (F:=gV) (λx=>rfl) λk ⟨⟨(x0:List Int),_⟩,⟨(x1:List Int),_⟩,_⟩=> ?_
    show Ae Tl (Em.l0 (k+1) x0 x1) _;rw[Em.l0];exact go
   exact trivial)
  (λk ⟨(a0:List Int),(a1:List Int),_⟩=>by show Ae Tl (Em.f k a0 a1) _;unfold Em.f;exact go)
end
section
attribute [local irreducible] Em.f Gx.f
def L1:AS:=⟨[(.row 73 (.int .u64)),(.row 73 (.int .u64))],[(.row 73 (.int .u64)),(.row 73 (.int .u64))],λk x=>(Fu.f k x.1 x.2.1).map λr=>(r.1,r.2,())⟩
def Xd (r:List Int × List Int):TT L1.rs:=(r.1,r.2,())
theorem Xe:DP Tryz.prog 82 L1 :=
 Aa (Bt:=AP []) (l:= [(137, .pu Ow),(138, .pu MQ)]) (C:=Ai) (by kernel_rfl) AK ⟨kg,Va,trivial⟩ (fn:=Tryz.f82) (by kernel_rfl) rfl (by kernel_rfl) (by decide) (by kernel_rfl) (F:=λk x=>Fu.f k x.1 x.2.1) (m:=Xd) (λk x=>rfl)
  (by exact trivial)
  (λk ⟨(a0:List Int),(a1:List Int),_⟩=>by show Ae Xd (Fu.f k a0 a1) _;unfold Fu.f;exact go)
end
section
attribute [local irreducible] Fu.f
def L3:AS:=⟨[.bool,(.row 73 (.int .u64)),(.row 73 (.int .u64))],[(.cons .bool (.cons (.row 73 (.int .u64)) (.row 73 (.int .u64))))],λk x=>(FC.f k x.1 x.2.1 x.2.2.1).map λr=>((r.1,r.2.1,r.2.2),())⟩
def Xf (r:Bool × List Int × List Int):TT L3.rs:=((r.1,r.2.1,r.2.2),())
theorem Xg:DP Tryz.prog 79 L3 :=
 Aa (Bt:=AP []) (l:= [(82, .pu L1)]) (C:=Ai) (by kernel_rfl) AK ⟨Xe,trivial⟩ (fn:=Tryz.f79) (by kernel_rfl) rfl (by kernel_rfl) (by decide) (by kernel_rfl) (F:=λk x=>FC.f k x.1 x.2.1 x.2.2.1) (m:=Xf) (λk x=>rfl)
  (by exact trivial)
  (λk ⟨(a0:Bool),(a1:List Int),(a2:List Int),_⟩=>by show Ae Xf (FC.f k a0 a1 a2) _;unfold FC.f;exact go)
end
section
def Tm:AS:=⟨[],[(.row 73 (.int .u64))],λ_ _=>(Ls.f).map λr=>(r,())⟩
def k9 (r:List Int):TT Tm.rs:=(r,())
theorem lB:DP Tryz.prog 118 Tm :=
 Aa (Bt:=AP []) (l:= []) (C:=Ai) (by kernel_rfl) AK trivial (fn:=Tryz.f118) (by kernel_rfl) rfl (by kernel_rfl) (by decide) (by kernel_rfl) (F:=λk x=>Ls.f) (m:=k9) (λk x=>rfl)
  (by exact trivial)
  (λk x=>by show Ae k9 (Ls.f) _;unfold Ls.f;exact go)
end
section
attribute [local irreducible] Ls.f Cd.f
def QU:AS:=⟨[(.row 73 (.int .u64))],[(.row 73 (.int .u64))],λk x=>(Hi.f k x.1).map λr=>(r,())⟩
def gW (r:List Int):TT QU.rs:=(r,())
theorem gX:DP Tryz.prog 80 QU :=
 Aa (Bt:=AP []) (l:= [(118, .pu Tm),(134, .pu FG)]) (C:=Ai) (by kernel_rfl) AK ⟨lB,Gr,trivial⟩ (fn:=Tryz.f80) (by kernel_rfl) rfl (by kernel_rfl) (by decide) (by kernel_rfl) (F:=λk x=>Hi.f k x.1) (m:=gW) (λk x=>rfl)
  (by exact trivial)
  (λk ⟨(a0:List Int),_⟩=>by show Ae gW (Hi.f k a0) _;unfold Hi.f;exact go)
end
section
attribute [local irreducible] Ap.f
def QV:AS:=⟨[(.row 73 (.int .u64)), .int .i64],[(.row 73 (.int .u64))],λk x=>(EW.f k x.1 x.2.1).map λr=>(r,())⟩
def Xh (r:List Int):TT QV.rs:=(r,())
theorem Xi:DP Tryz.prog 198 QV :=
 Aa (Bt:=AP []) (l:= [(187, .pu DC)]) (C:=Ai) (by kernel_rfl) AK ⟨Dc,trivial⟩ (fn:=Tryz.f198) (by kernel_rfl) rfl (by kernel_rfl) (by decide) (by kernel_rfl) (F:=λk x=>EW.f k x.1 x.2.1) (m:=Xh) (λk x=>rfl)
  (by exact trivial)
  (λk ⟨(a0:List Int),(a1:Int),_⟩=>by show Ae Xh (EW.f k a0 a1) _;unfold EW.f;exact go)
end
section
attribute [local irreducible] Ap.f
def Sv:AS:=⟨[(.row 73 (.int .u64)), .int .i64, .int .i64],[(.row 73 (.int .u64))],λk x=>(Ez.f k x.1 x.2.1 x.2.2.1).map λr=>(r,())⟩
def Zv (r:List Int):TT Sv.rs:=(r,())
theorem Zw:DP Tryz.prog 197 Sv :=
 Aa (Bt:=AP []) (l:= [(187, .pu DC)]) (C:=Ai) (by kernel_rfl) AK ⟨Dc,trivial⟩ (fn:=Tryz.f197) (by kernel_rfl) rfl (by kernel_rfl) (by decide) (by kernel_rfl) (F:=λk x=>Ez.f k x.1 x.2.1 x.2.2.1) (m:=Zv) (λk x=>rfl)
  (by exact trivial)
  (λk ⟨(a0:List Int),(a1:Int),(a2:Int),_⟩=>by show Ae Zv (Ez.f k a0 a1 a2) _;unfold Ez.f;exact go)
end
section
attribute [local irreducible] Ap.f Dn.f DZ.f
def Nl:AS:=⟨[(.row 73 (.int .u64)),(.row 73 (.int .u64))],[(.row 73 (.int .u64))],λk x=>(Bm.f k x.1 x.2.1).map λr=>(r,())⟩
def JW (r:List Int):TT Nl.rs:=(r,())
@[reducible] def QW:List Slot:= [.tmp 1 [.ty (.row 73 (.int .u64))], .tmp 5 [.own .mine 5 73 (.int .u64)], .tmp 21 [.ty (.row 73 (.int .u64))], .tmp 22 [.ty (.int .i64)], .tmp 23 [.ty (.int .i64)]]
def Xj (k:Nat) (x:TS QW):Option (List Int):=Bm.l0 k x.1.1 x.2.1.1 x.2.2.1.1 x.2.2.2.1.1 x.2.2.2.2.1.1
@[reducible] def QX:List Slot:= [.tmp 1 [.ty (.row 73 (.int .u64))], .tmp 5 [.own .mine 5 73 (.int .u64)], .tmp 6 [.ty (.int .i64)], .tmp 7 [.ty (.int .u64)], .tmp 8 [.ty (.int .u64)], .tmp 21 [.ty (.row 73 (.int .u64))], .tmp 22 [.ty (.int .i64)], .tmp 23 [.ty (.int .i64)], .tmp 28 [.ty (.row 73 (.int .u64))], .tmp 29 [.ty (.int .i64)], .tmp 30 [.ty (.int .i64)]]
def Xk (k:Nat) (x:TS QX):Option (List Int):=Bm.l1 k x.1.1 x.2.1.1 x.2.2.1.1 x.2.2.2.1.1 x.2.2.2.2.1.1 x.2.2.2.2.2.1.1 x.2.2.2.2.2.2.1.1 x.2.2.2.2.2.2.2.1.1 x.2.2.2.2.2.2.2.2.1.1 x.2.2.2.2.2.2.2.2.2.1.1 x.2.2.2.2.2.2.2.2.2.2.1.1
def ud:Bs (TT Nl.rs):=⟨⟨73,73,[]⟩,AH [(0,⟨QW,λk x=>(Xj k x).map JW⟩),(1,⟨QX,λk x=>(Xk k x).map JW⟩)],AH [],AH []⟩
theorem Zx:DP Tryz.prog 135 Nl :=
 Aa (Bt:=AP []) (l:= [(187, .pu DC),(193, .pu KW),(196, .pu JK)]) (C:=ud) (by kernel_rfl) AK ⟨Dc,QI,Mi,trivial⟩ (fn:=Tryz.f135) (by kernel_rfl) rfl (by kernel_rfl) (by decide) (by kernel_rfl) (F:=λk x=>Bm.f k x.1 x.2.1) (m:=JW) (λk x=>rfl)
  (by
   refine And.intro ?_ ?_
   ·refine Au (sl:=QW) (F:=Xj) (λx=>rfl) λk ⟨⟨(x1:List Int),_⟩,⟨(x5:List Int),_⟩,⟨(Qn:List Int),_⟩,⟨(N3:Int),_⟩,⟨(Ms:Int),_⟩,_⟩=> ?_
    show Ae JW (Bm.l0 (k+1) x1 x5 Qn N3 Ms) _;rw[Bm.l0];exact go
   refine And.intro ?_ ?_
   ·refine Au (sl:=QX) (F:=Xk) (λx=>rfl) λk ⟨⟨(x1:List Int),_⟩,⟨(x5:List Int),_⟩,⟨(x6:Int),_⟩,⟨(x7:Int),_⟩,⟨(x8:Int),_⟩,⟨(Qn:List Int),_⟩,⟨(N3:Int),_⟩,⟨(Ms:Int),_⟩,⟨(zW:List Int),_⟩,⟨(gy:Int),_⟩,⟨(s8:Int),_⟩,_⟩=> ?_
    show Ae JW (Bm.l1 (k+1) x1 x5 x6 x7 x8 Qn N3 Ms zW gy s8) _;rw[Bm.l1];exact go
   exact trivial)
  (λk ⟨(a0:List Int),(a1:List Int),_⟩=>by show Ae JW (Bm.f k a0 a1) _;unfold Bm.f;exact go)
end
section
attribute [local irreducible] BQ.f DU.f EW.f Ez.f Bm.f
def Gt:AS:=⟨[(.row 73 (.int .u64)),(.row 73 (.int .u64))],[(.row 73 (.int .u64))],λk x=>(Dp.f k x.1 x.2.1).map λr=>(r,())⟩
def Mj (r:List Int):TT Gt.rs:=(r,())
def Kq:AS:=⟨[(.row 73 (.int .u64)),(.row 73 (.int .u64))],[(.row 73 (.int .u64))],λk x=>(JQ.f (Dp.f k) k x.1 x.2.1).map Mj⟩
theorem jL (k:Nat) (ih : ∀j,j<=k->mN Tryz.prog 81 Gt j):mN Tryz.prog 136 Kq k :=
 vZ (s:=Kq) (Bt:=AP []) (l:= [(81, .pu Gt),(132, .pu MA),(133, .pu O4),(197, .pu Sv),(198, .pu QV)]) (C:=Ai) (k:=k) (by kernel_rfl) AK ⟨⟨by kernel_rfl,ih⟩,⟨Te.1,λj _=>Te.2 j⟩,⟨Yl.1,λj _=>Yl.2 j⟩,⟨Zw.1,λj _=>Zw.2 j⟩,⟨Xi.1,λj _=>Xi.2 j⟩,trivial⟩ (fn:=Tryz.f136) (by kernel_rfl) rfl (by kernel_rfl) (by decide) (F:=λx=>JQ.f (Dp.f k) k x.1 x.2.1) (m:=Mj) (λx=>rfl)
  (by exact trivial)
  (λ⟨(a0:List Int),(a1:List Int),_⟩=>by show Ae Mj (JQ.f (Dp.f k) k a0 a1) _;unfold JQ.f;exact go)
theorem yG (k:Nat) (ih : ∀j,j<=k->mN Tryz.prog 136 Kq j):mN Tryz.prog 81 Gt (k+1) :=
 vZ (s:=Gt) (Bt:=AP []) (l:= [(135, .pu Nl),(136, .pu Kq)]) (C:=Ai) (k:=k) (by kernel_rfl) AK ⟨⟨Zx.1,λj _=>Zx.2 j⟩,⟨by kernel_rfl,ih⟩,trivial⟩ (fn:=Tryz.f81) (by kernel_rfl) rfl (by kernel_rfl) (by decide) (F:=λx=>Dp.f (k+1) x.1 x.2.1) (m:=Mj) (λx=>rfl)
  (by exact trivial)
  (λ⟨(a0:List Int),(a1:List Int),_⟩=>by show Ae Mj (Dp.f (k+1) a0 a1) _;rw[Dp.f];exact go)
theorem Vo : ∀k j,j<=k->mN Tryz.prog 81 Gt j
 | 0,j,hj=>by
  obtain rfl:j=0:=by omega
  intro x r h;cases h
 | k+1,j,hj=>by
  rcases AQS j (k+1) with h | h
  ·exact Vo k j (by omega)
  ·obtain rfl:j=k+1:=by omega
   exact yG k λi hi=>jL i λq hq=>Vo k q (by omega)
theorem gY:DP Tryz.prog 81 Gt:=⟨by kernel_rfl,λk=>Vo k k (AP1 k)⟩
end
section
attribute [local irreducible] ML.f ND.f FC.f Hi.f
def Ox:AS:=⟨[(.cons .bool (.cons (.row 73 (.int .u64)) (.row 73 (.int .u64)))),(.cons .bool (.cons (.row 73 (.int .u64)) (.row 73 (.int .u64))))],[(.cons .bool (.cons (.row 73 (.int .u64)) (.row 73 (.int .u64))))],λk x=>(IF.f k x.1.1 x.1.2.1 x.1.2.2 x.2.1.1 x.2.1.2.1 x.2.1.2.2).map λr=>((r.1,r.2.1,r.2.2),())⟩
def lC (r:Bool × List Int × List Int):TT Ox.rs:=((r.1,r.2.1,r.2.2),())
theorem Yf:DP Tryz.prog 26 Ox :=
 Aa (Bt:=AP [(4,[0,1,0,4,0,16,60,0,128,0,512,0,2048,7804,16383,32767,65535,65535,131071,524287])]) (l:= [(77, .pu Vh),(78, .pu Ym),(79, .pu L3),(80, .pu QU),(81, .pu Gt)]) (C:=Ai) (by kernel_rfl) AK ⟨yD,ABL,Xg,gX,gY,trivial⟩ (fn:=Tryz.f26) (by kernel_rfl) rfl (by kernel_rfl) (by decide) (by kernel_rfl) (F:=λk x=>IF.f k x.1.1 x.1.2.1 x.1.2.2 x.2.1.1 x.2.1.2.1 x.2.1.2.2) (m:=lC) (λk x=>rfl)
  (by exact trivial)
  (λk ⟨(a0:Bool × List Int × List Int),(a1:Bool × List Int × List Int),_⟩=>by show Ae lC (IF.f k a0.1 a0.2.1 a0.2.2 a1.1 a1.2.1 a1.2.2) _;unfold IF.f;exact go)
end
section
attribute [local irreducible] FC.f Hi.f Fu.f
def Oy:AS:=⟨[(.cons .bool (.cons (.row 73 (.int .u64)) (.row 73 (.int .u64)))),(.cons .bool (.cons (.row 73 (.int .u64)) (.row 73 (.int .u64))))],[(.cons .bool (.cons (.row 73 (.int .u64)) (.row 73 (.int .u64))))],λk x=>(IE.f k x.1.1 x.1.2.1 x.1.2.2 x.2.1.1 x.2.1.2.1 x.2.1.2.2).map λr=>((r.1,r.2.1,r.2.2),())⟩
def lD (r:Bool × List Int × List Int):TT Oy.rs:=((r.1,r.2.1,r.2.2),())
theorem Yg:DP Tryz.prog 27 Oy :=
 Aa (Bt:=AP [(1,[0,1,0,4,12,31,63,127,127,255,1023]),(2,[0,1,0,4,12,31,63,127,127,255,1023]),(4,[0,1,0,4,15,0,0,0,192,511,1023])]) (l:= [(79, .pu L3),(80, .pu QU),(81, .pu Gt),(82, .pu L1)]) (C:=Ai) (by kernel_rfl) AK ⟨Xg,gX,gY,Xe,trivial⟩ (fn:=Tryz.f27) (by kernel_rfl) rfl (by kernel_rfl) (by decide) (by kernel_rfl) (F:=λk x=>IE.f k x.1.1 x.1.2.1 x.1.2.2 x.2.1.1 x.2.1.2.1 x.2.1.2.2) (m:=lD) (λk x=>rfl)
  (by exact trivial)
  (λk ⟨(a0:Bool × List Int × List Int),(a1:Bool × List Int × List Int),_⟩=>by show Ae lD (IE.f k a0.1 a0.2.1 a0.2.2 a1.1 a1.2.1 a1.2.2) _;unfold IE.f;exact go)
end
section
attribute [local irreducible] Cd.f Ap.f
def Oz:AS:=⟨[(.cons .bool (.cons (.row 73 (.int .u64)) (.row 73 (.int .u64))))],[(.cons .bool (.cons (.row 73 (.int .u64)) (.row 73 (.int .u64))))],λk x=>(Iz.f k x.1.1 x.1.2.1 x.1.2.2).map λr=>((r.1,r.2.1,r.2.2),())⟩
def lF (r:Bool × List Int × List Int):TT Oz.rs:=((r.1,r.2.1,r.2.2),())
theorem Yh:DP Tryz.prog 112 Oz :=
 Aa (Bt:=AP [(1,[0,1,3,7,15,31,63,127,255,0,512,1663,0,4096,15999,32767,65535])]) (l:= [(134, .pu FG),(187, .pu DC)]) (C:=Ai) (by kernel_rfl) AK ⟨Gr,Dc,trivial⟩ (fn:=Tryz.f112) (by kernel_rfl) rfl (by kernel_rfl) (by decide) (by kernel_rfl) (F:=λk x=>Iz.f k x.1.1 x.1.2.1 x.1.2.2) (m:=lF) (λk x=>rfl)
  (by exact trivial)
  (λk ⟨(a0:Bool × List Int × List Int),_⟩=>by show Ae lF (Iz.f k a0.1 a0.2.1 a0.2.2) _;unfold Iz.f;exact go)
end
section
attribute [local irreducible] IF.f Iz.f
def O0:AS:=⟨[(.cons .bool (.cons (.row 73 (.int .u64)) (.row 73 (.int .u64)))),(.cons .bool (.cons (.row 73 (.int .u64)) (.row 73 (.int .u64))))],[(.cons .bool (.cons (.row 73 (.int .u64)) (.row 73 (.int .u64))))],λk x=>(I0.f k x.1.1 x.1.2.1 x.1.2.2 x.2.1.1 x.2.1.2.1 x.2.1.2.2).map λr=>((r.1,r.2.1,r.2.2),())⟩
def lG (r:Bool × List Int × List Int):TT O0.rs:=((r.1,r.2.1,r.2.2),())
theorem Yi:DP Tryz.prog 113 O0 :=
 Aa (Bt:=AP [(1,[0,0,2,7,15])]) (l:= [(26, .pu Ox),(112, .pu Oz)]) (C:=Ai) (by kernel_rfl) AK ⟨Yf,Yh,trivial⟩ (fn:=Tryz.f113) (by kernel_rfl) rfl (by kernel_rfl) (by decide) (by kernel_rfl) (F:=λk x=>I0.f k x.1.1 x.1.2.1 x.1.2.2 x.2.1.1 x.2.1.2.1 x.2.1.2.2) (m:=lG) (λk x=>rfl)
  (by exact trivial)
  (λk ⟨(a0:Bool × List Int × List Int),(a1:Bool × List Int × List Int),_⟩=>by show Ae lG (I0.f k a0.1 a0.2.1 a0.2.2 a1.1 a1.2.1 a1.2.2) _;unfold I0.f;exact go)
end
section
attribute [local irreducible] Cd.f Ap.f
def Yn:AS:=⟨[(.cons .bool (.cons (.row 73 (.int .u64)) (.row 73 (.int .u64))))],[(.cons .bool (.cons (.row 73 (.int .u64)) (.row 73 (.int .u64)))), .int .i64],λk x=>(PZ.f k x.1.1 x.1.2.1 x.1.2.2).map λr=>((r.1,r.2.1,r.2.2.1),r.2.2.2,())⟩
def lH (r:Bool × List Int × List Int × Int):TT Yn.rs:=((r.1,r.2.1,r.2.2.1),r.2.2.2,())
theorem ABO:DP Tryz.prog 204 Yn :=
 Aa (Bt:=AP [(3,[0,1,0,4,12,0,32,124,255,511,1023])]) (l:= [(134, .pu FG),(187, .pu DC)]) (C:=Ai) (by kernel_rfl) AK ⟨Gr,Dc,trivial⟩ (fn:=Tryz.f204) (by kernel_rfl) rfl (by kernel_rfl) (by decide) (by kernel_rfl) (F:=λk x=>PZ.f k x.1.1 x.1.2.1 x.1.2.2) (m:=lH) (λk x=>rfl)
  (by exact trivial)
  (λk ⟨(a0:Bool × List Int × List Int),_⟩=>by show Ae lH (PZ.f k a0.1 a0.2.1 a0.2.2) _;unfold PZ.f;exact go)
end
section
attribute [local irreducible] IE.f PZ.f
def On:AS:=⟨[(.cons .bool (.cons (.row 73 (.int .u64)) (.row 73 (.int .u64)))),(.cons .bool (.cons (.row 73 (.int .u64)) (.row 73 (.int .u64))))],[(.cons .bool (.cons (.row 73 (.int .u64)) (.row 73 (.int .u64)))), .int .i64],λk x=>(I4.f k x.1.1 x.1.2.1 x.1.2.2 x.2.1.1 x.2.1.2.1 x.2.1.2.2).map λr=>((r.1,r.2.1,r.2.2.1),r.2.2.2,())⟩
def lI (r:Bool × List Int × List Int × Int):TT On.rs:=((r.1,r.2.1,r.2.2.1),r.2.2.2,())
theorem Yc:DP Tryz.prog 140 On :=
 Aa (Bt:=AP []) (l:= [(27, .pu Oy),(204, .pu Yn)]) (C:=Ai) (by kernel_rfl) AK ⟨Yg,ABO,trivial⟩ (fn:=Tryz.f140) (by kernel_rfl) rfl (by kernel_rfl) (by decide) (by kernel_rfl) (F:=λk x=>I4.f k x.1.1 x.1.2.1 x.1.2.2 x.2.1.1 x.2.1.2.1 x.2.1.2.2) (m:=lI) (λk x=>rfl)
  (by exact trivial)
  (λk ⟨(a0:Bool × List Int × List Int),(a1:Bool × List Int × List Int),_⟩=>by show Ae lI (I4.f k a0.1 a0.2.1 a0.2.2 a1.1 a1.2.1 a1.2.2) _;unfold I4.f;exact go)
end
section
attribute [local irreducible] IF.f IE.f Iz.f I0.f I4.f A8.f
def EO:D0:=⟨[.st 135 [.ty (.int .i64), .ty (.int .i64), .row false 93 (.cons (.int .i64) (.cons (.int .i64) (.cons (.int .i64) (.cons .bool (.cons (.row 73 (.int .u64)) (.row 73 (.int .u64))))))), .ty (.row 4 .bool), .row false 4 .bool, .ty (.int .i64), .ty (.int .i64), .ty .bool, .ty (.int .i64)], .ty (.int .i64), .ty (.cons .bool (.cons (.row 73 (.int .u64)) (.row 73 (.int .u64)))), .ty (.cons .bool (.cons (.row 73 (.int .u64)) (.row 73 (.int .u64))))],[(.cons .bool (.cons (.row 73 (.int .u64)) (.row 73 (.int .u64))))],λk x=>(Dk.f k x.1.1 x.1.2.1 x.1.2.2.1 x.1.2.2.2.1 x.1.2.2.2.2.1 x.1.2.2.2.2.2.1 x.1.2.2.2.2.2.2.1 x.1.2.2.2.2.2.2.2.1 x.1.2.2.2.2.2.2.2.2.1 x.2.1 x.2.2.1.1 x.2.2.1.2.1 x.2.2.1.2.2 x.2.2.2.1.1 x.2.2.2.1.2.1 x.2.2.2.1.2.2).map λr=>(((r.1,(r.2.1,r.2.2.1)),()),((r.2.2.2.1,r.2.2.2.2.1,r.2.2.2.2.2.1,r.2.2.2.2.2.2.1,r.2.2.2.2.2.2.2.1,r.2.2.2.2.2.2.2.2.1,r.2.2.2.2.2.2.2.2.2.1,r.2.2.2.2.2.2.2.2.2.2.1,r.2.2.2.2.2.2.2.2.2.2.2,()),()))⟩
def Nm (r:Bool × List Int × List Int × Int × Int × List (Int × Int × Int × Bool × (List Int) × List Int) × List Bool × List Bool × Int × Int × Bool × Int):TT EO.rs × ET EO.ps:=(((r.1,(r.2.1,r.2.2.1)),()),((r.2.2.2.1,r.2.2.2.2.1,r.2.2.2.2.2.1,r.2.2.2.2.2.2.1,r.2.2.2.2.2.2.2.1,r.2.2.2.2.2.2.2.2.1,r.2.2.2.2.2.2.2.2.2.1,r.2.2.2.2.2.2.2.2.2.2.1,r.2.2.2.2.2.2.2.2.2.2.2,()),()))
def Xl:Bs (TT EO.rs × ET EO.ps):=⟨⟨46,53,[46]⟩,AH [],AH [],AH []⟩
theorem Xm:UB Tryz.prog 241 EO :=
 FJ (Bt:=AP []) (l:= [(26, .pu Ox),(27, .pu Oy),(112, .pu Oz),(113, .pu O0),(140, .pu On),(178, .io CP [(41,49),(44,51)])]) (C:=Xl) (by kernel_rfl) AK ⟨Yf,Yg,Yh,Yi,Yc,E0,trivial⟩ (fn:=Tryz.f241) (by kernel_rfl) rfl (by kernel_rfl) (by decide) (by kernel_rfl) (m:=53) (by decide) (by decide) (F:=λk x=>Dk.f k x.1.1 x.1.2.1 x.1.2.2.1 x.1.2.2.2.1 x.1.2.2.2.2.1 x.1.2.2.2.2.2.1 x.1.2.2.2.2.2.2.1 x.1.2.2.2.2.2.2.2.1 x.1.2.2.2.2.2.2.2.2.1 x.2.1 x.2.2.1.1 x.2.2.1.2.1 x.2.2.1.2.2 x.2.2.2.1.1 x.2.2.2.1.2.1 x.2.2.2.1.2.2) (q:=Nm) (λk x=>rfl)
  (by exact trivial)
  (λk ⟨⟨AX,Al,Am,Ao,BD,BB,BH,BJ,BE,_⟩,(a1:Int),(a2:Bool × (List Int) × List Int),(a3:Bool × (List Int) × List Int),_⟩=>by show Ae Nm (Dk.f k AX Al Am Ao BD BB BH BJ BE a1 a2.1 a2.2.1 a2.2.2 a3.1 a3.2.1 a3.2.2) _;unfold Dk.f;exact go)
end
section
def IU:AS:=⟨[.int .u64],[.int .i64],λ_ x=>(DK.f x.1).map λr=>(r,())⟩
def O5 (r:Int):TT IU.rs:=(r,())
theorem O6:DP Tryz.prog 250 IU :=
 Aa (Bt:=AP []) (l:= []) (C:=Ai) (by kernel_rfl) AK trivial (fn:=Tryz.f250) (by kernel_rfl) rfl (by kernel_rfl) (by decide) (by kernel_rfl) (F:=λk x=>DK.f x.1) (m:=O5) (λk x=>rfl)
  (by exact trivial)
  (λk ⟨(a0:Int),_⟩=>by show Ae O5 (DK.f a0) _;unfold DK.f;exact go)
end
section
attribute [local irreducible] DK.f
def DN:AS:=⟨[.int .u64],[.int .i64],λ_ x=>(A9.f x.1).map λr=>(r,())⟩
def Xn (r:Int):TT DN.rs:=(r,())
theorem EA:DP Tryz.prog 205 DN :=
 Aa (Bt:=AP []) (l:= [(250, .pu IU)]) (C:=Ai) (by kernel_rfl) AK ⟨O6,trivial⟩ (fn:=Tryz.f205) (by kernel_rfl) rfl (by kernel_rfl) (by decide) (by kernel_rfl) (F:=λk x=>A9.f x.1) (m:=Xn) (λk x=>rfl)
  (by exact trivial)
  (λk ⟨(a0:Int),_⟩=>by show Ae Xn (A9.f a0) _;unfold A9.f;exact go)
end
section
def Ew:AS:=⟨[],[.int .u64],λ_ _=>(B5.f).map λr=>(r,())⟩
def Zy (r:Int):TT Ew.rs:=(r,())
theorem Gb:DP Tryz.prog 206 Ew :=
 Aa (Bt:=AP []) (l:= []) (C:=Ai) (by kernel_rfl) AK trivial (fn:=Tryz.f206) (by kernel_rfl) rfl (by kernel_rfl) (by decide) (by kernel_rfl) (F:=λk x=>B5.f) (m:=Zy) (λk x=>rfl)
  (by exact trivial)
  (λk x=>by show Ae Zy (B5.f) _;unfold B5.f;exact go)
end
section
attribute [local irreducible] A9.f B5.f
def Jl:AS:=⟨[.int .u64],[.int .u64],λ_ x=>(EV.f x.1).map λr=>(r,())⟩
def Xo (r:Int):TT Jl.rs:=(r,())
theorem Pz:DP Tryz.prog 144 Jl :=
 Aa (Bt:=AP []) (l:= [(205, .pu DN),(206, .pu Ew)]) (C:=Ai) (by kernel_rfl) AK ⟨EA,Gb,trivial⟩ (fn:=Tryz.f144) (by kernel_rfl) rfl (by kernel_rfl) (by decide) (by kernel_rfl) (F:=λk x=>EV.f x.1) (m:=Xo) (λk x=>rfl)
  (by exact trivial)
  (λk ⟨(a0:Int),_⟩=>by show Ae Xo (EV.f a0) _;unfold EV.f;exact go)
end
section
def Js:AS:=⟨[.bool, .int .u64],[.int .u64],λ_ x=>(DM.f x.1 x.2.1).map λr=>(r,())⟩
def Sw (r:Int):TT Js.rs:=(r,())
theorem Sx:DP Tryz.prog 252 Js :=
 Aa (Bt:=AP []) (l:= []) (C:=Ai) (by kernel_rfl) AK trivial (fn:=Tryz.f252) (by kernel_rfl) rfl (by kernel_rfl) (by decide) (by kernel_rfl) (F:=λk x=>DM.f x.1 x.2.1) (m:=Sw) (λk x=>rfl)
  (by exact trivial)
  (λk ⟨(a0:Bool),(a1:Int),_⟩=>by show Ae Sw (DM.f a0 a1) _;unfold DM.f;exact go)
end
section
attribute [local irreducible] DM.f
def Er:AS:=⟨[.bool],[.int .u64],λ_ x=>(CY.f x.1).map λr=>(r,())⟩
def Zz (r:Int):TT Er.rs:=(r,())
theorem Ga:DP Tryz.prog 209 Er :=
 Aa (Bt:=AP []) (l:= [(252, .pu Js)]) (C:=Ai) (by kernel_rfl) AK ⟨Sx,trivial⟩ (fn:=Tryz.f209) (by kernel_rfl) rfl (by kernel_rfl) (by decide) (by kernel_rfl) (F:=λk x=>CY.f x.1) (m:=Zz) (λk x=>rfl)
  (by exact trivial)
  (λk ⟨(a0:Bool),_⟩=>by show Ae Zz (CY.f a0) _;unfold CY.f;exact go)
end
section
attribute [local irreducible] BF.f DM.f
def Jt:AS:=⟨[.bool, .int .u64, .int .i64],[.int .u64, .bool],λk x=>(BA.f k x.1 x.2.1 x.2.2.1).map λr=>(r.1,r.2,())⟩
def Xp (r:Int × Bool):TT Jt.rs:=(r.1,r.2,())
theorem QY:DP Tryz.prog 251 Jt :=
 Aa (Bt:=AP []) (l:= [(195, .pu Ee),(252, .pu Js)]) (C:=Ai) (by kernel_rfl) AK ⟨Gs,Sx,trivial⟩ (fn:=Tryz.f251) (by kernel_rfl) rfl (by kernel_rfl) (by decide) (by kernel_rfl) (F:=λk x=>BA.f k x.1 x.2.1 x.2.2.1) (m:=Xp) (λk x=>rfl)
  (by exact trivial)
  (λk ⟨(a0:Bool),(a1:Int),(a2:Int),_⟩=>by show Ae Xp (BA.f k a0 a1 a2) _;unfold BA.f;unfold BA.j0;unfold BA.j1;unfold BA.j2;exact goq)
end
section
attribute [local irreducible] CY.f BA.f
def Iv:AS:=⟨[.bool, .int .u64, .int .i64],[.int .u64],λk x=>(Cg.f k x.1 x.2.1 x.2.2.1).map λr=>(r,())⟩
def Uk (r:Int):TT Iv.rs:=(r,())
theorem N8:DP Tryz.prog 208 Iv :=
 Aa (Bt:=AP []) (l:= [(209, .pu Er),(251, .pu Jt)]) (C:=Ai) (by kernel_rfl) AK ⟨Ga,QY,trivial⟩ (fn:=Tryz.f208) (by kernel_rfl) rfl (by kernel_rfl) (by decide) (by kernel_rfl) (F:=λk x=>Cg.f k x.1 x.2.1 x.2.2.1) (m:=Uk) (λk x=>rfl)
  (by exact trivial)
  (λk ⟨(a0:Bool),(a1:Int),(a2:Int),_⟩=>by show Ae Uk (Cg.f k a0 a1 a2) _;unfold Cg.f;exact go)
end
section
def Kj:AS:=⟨[.int .u64, .bool, .bool],[.int .u64],λ_ x=>(Eo.f x.1 x.2.1 x.2.2.1).map λr=>(r,())⟩
def Ul (r:Int):TT Kj.rs:=(r,())
theorem Ua:DP Tryz.prog 253 Kj :=
 Aa (Bt:=AP []) (l:= []) (C:=Ai) (by kernel_rfl) AK trivial (fn:=Tryz.f253) (by kernel_rfl) rfl (by kernel_rfl) (by decide) (by kernel_rfl) (F:=λk x=>Eo.f x.1 x.2.1 x.2.2.1) (m:=Ul) (λk x=>rfl)
  (by exact trivial)
  (λk ⟨(a0:Int),(a1:Bool),(a2:Bool),_⟩=>by show Ae Ul (Eo.f a0 a1 a2) _;unfold Eo.f;exact go)
end
section
attribute [local irreducible] BF.f Cg.f CY.f Eo.f
def D9:AS:=⟨[.bool, .int .u64, .int .i64],[.int .u64],λk x=>(Aw.f k x.1 x.2.1 x.2.2.1).map λr=>(r,())⟩
def Um (r:Int):TT D9.rs:=(r,())
theorem Fw:DP Tryz.prog 216 D9 :=
 Aa (Bt:=AP []) (l:= [(195, .pu Ee),(208, .pu Iv),(209, .pu Er),(253, .pu Kj)]) (C:=Ai) (by kernel_rfl) AK ⟨Gs,N8,Ga,Ua,trivial⟩ (fn:=Tryz.f216) (by kernel_rfl) rfl (by kernel_rfl) (by decide) (by kernel_rfl) (F:=λk x=>Aw.f k x.1 x.2.1 x.2.2.1) (m:=Um) (λk x=>rfl)
  (by exact trivial)
  (λk ⟨(a0:Bool),(a1:Int),(a2:Int),_⟩=>by show Ae Um (Aw.f k a0 a1 a2) _;unfold Aw.f;exact go)
end
section
def Vp:AS:=⟨[.int .u64, .int .i64],[.int .u64],λ_ x=>(K3.f x.1 x.2.1).map λr=>(r,())⟩
def gZ (r:Int):TT Vp.rs:=(r,())
theorem yH:DP Tryz.prog 256 Vp :=
 Aa (Bt:=AP []) (l:= []) (C:=Ai) (by kernel_rfl) AK trivial (fn:=Tryz.f256) (by kernel_rfl) rfl (by kernel_rfl) (by decide) (by kernel_rfl) (F:=λk x=>K3.f x.1 x.2.1) (m:=gZ) (λk x=>rfl)
  (by exact trivial)
  (λk ⟨(a0:Int),(a1:Int),_⟩=>by show Ae gZ (K3.f a0 a1) _;unfold K3.f;exact go)
end
section
attribute [local irreducible] Aw.f K3.f
def OI:AS:=⟨[(.cons .bool (.cons (.int .u64) (.int .i64))),(.cons .bool (.cons (.int .u64) (.int .i64)))],[.int .u64],λk x=>(DQ.f k x.1.1 x.1.2.1 x.1.2.2 x.2.1.1 x.2.1.2.1 x.2.1.2.2).map λr=>(r,())⟩
def Uo (r:Int):TT OI.rs:=(r,())
theorem jM:DP Tryz.prog 212 OI :=
 Aa (Bt:=AP []) (l:= [(216, .pu D9),(256, .pu Vp)]) (C:=Ai) (by kernel_rfl) AK ⟨Fw,yH,trivial⟩ (fn:=Tryz.f212) (by kernel_rfl) rfl (by kernel_rfl) (by decide) (by kernel_rfl) (F:=λk x=>DQ.f k x.1.1 x.1.2.1 x.1.2.2 x.2.1.1 x.2.1.2.1 x.2.1.2.2) (m:=Uo) (λk x=>rfl)
  (by exact trivial)
  (λk ⟨(a0:Bool × Int × Int),(a1:Bool × Int × Int),_⟩=>by show Ae Uo (DQ.f k a0.1 a0.2.1 a0.2.2 a1.1 a1.2.1 a1.2.2) _;unfold DQ.f;unfold DQ.j0;exact goq)
end
section
def Gc:AS:=⟨[.int .u64],[.bool],λ_ x=>(CX.f x.1).map λr=>(r,())⟩
def Z0 (r:Bool):TT Gc.rs:=(r,())
theorem JX:DP Tryz.prog 214 Gc :=
 Aa (Bt:=AP []) (l:= []) (C:=Ai) (by kernel_rfl) AK trivial (fn:=Tryz.f214) (by kernel_rfl) rfl (by kernel_rfl) (by decide) (by kernel_rfl) (F:=λk x=>CX.f x.1) (m:=Z0) (λk x=>rfl)
  (by exact trivial)
  (λk ⟨(a0:Int),_⟩=>by show Ae Z0 (CX.f a0) _;unfold CX.f;exact go)
end
section
attribute [local irreducible] A9.f CX.f DK.f
def EB:AS:=⟨[.int .u64],[.bool, .int .u64, .int .i64, .bool],λk x=>(Ax.f k x.1).map λr=>(r.1,r.2.1,r.2.2.1,r.2.2.2,())⟩
def Up (r:Bool × Int × Int × Bool):TT EB.rs:=(r.1,r.2.1,r.2.2.1,r.2.2.2,())
theorem Fy:DP Tryz.prog 215 EB :=
 Aa (Bt:=AP []) (l:= [(205, .pu DN),(214, .pu Gc),(250, .pu IU)]) (C:=Ai) (by kernel_rfl) AK ⟨EA,JX,O6,trivial⟩ (fn:=Tryz.f215) (by kernel_rfl) rfl (by kernel_rfl) (by decide) (by kernel_rfl) (F:=λk x=>Ax.f k x.1) (m:=Up) (λk x=>rfl)
  (by exact trivial)
  (λk ⟨(a0:Int),_⟩=>by show Ae Up (Ax.f k a0) _;unfold Ax.f;unfold Ax.j0;exact goq)
end
section
attribute [local irreducible] Ax.f
def Yo:AS:=⟨[.int .u64],[(.cons .bool (.cons (.int .u64) (.int .i64)))],λk x=>(M9.f k x.1).map λr=>((r.1,r.2.1,r.2.2),())⟩
def lJ (r:Bool × Int × Int):TT Yo.rs:=((r.1,r.2.1,r.2.2),())
theorem ABP:DP Tryz.prog 213 Yo :=
 Aa (Bt:=AP []) (l:= [(215, .pu EB)]) (C:=Ai) (by kernel_rfl) AK ⟨Fy,trivial⟩ (fn:=Tryz.f213) (by kernel_rfl) rfl (by kernel_rfl) (by decide) (by kernel_rfl) (F:=λk x=>M9.f k x.1) (m:=lJ) (λk x=>rfl)
  (by exact trivial)
  (λk ⟨(a0:Int),_⟩=>by show Ae lJ (M9.f k a0) _;unfold M9.f;exact go)
end
section
attribute [local irreducible] A9.f B5.f DQ.f M9.f
def Hr:AS:=⟨[.int .u64, .int .u64],[.int .u64],λk x=>(BL.f k x.1 x.2.1).map λr=>(r,())⟩
def KX (r:Int):TT Hr.rs:=(r,())
@[reducible] def Sy:List Slot:= [.tmp 0 [.ty (.int .u64)], .tmp 1 [.ty (.int .u64)], .tmp 5 [.ty (.int .i64)], .tmp 6 [.ty (.int .i64)], .tmp 11 [.ty .bool]]
def Z1 (k:Nat) (x:TS Sy):Option (Int):=BL.j0 k x.1.1 x.2.1.1 x.2.2.1.1 x.2.2.2.1.1 x.2.2.2.2.1.1
@[reducible] def Sz:List Slot:= [.tmp 0 [.ty (.int .u64)], .tmp 1 [.ty (.int .u64)], .tmp 5 [.ty (.int .i64)], .tmp 6 [.ty (.int .i64)], .tmp 19 [.ty .bool]]
def Z2 (k:Nat) (x:TS Sz):Option (Int):=BL.j1 k x.1.1 x.2.1.1 x.2.2.1.1 x.2.2.2.1.1 x.2.2.2.2.1.1
def yI:Bs (TT Hr.rs):=⟨⟨45,45,[]⟩,AH [],AH [],AH [(2,⟨Sy,λk x=>(Z1 k x).map KX⟩),(4,⟨Sz,λk x=>(Z2 k x).map KX⟩)]⟩
theorem MZ:DP Tryz.prog 145 Hr :=
 Aa (Bt:=AP []) (l:= [(205, .pu DN),(206, .pu Ew),(212, .pu OI),(213, .pu Yo)]) (C:=yI) (by kernel_rfl) AK ⟨EA,Gb,jM,ABP,trivial⟩ (fn:=Tryz.f145) (by kernel_rfl) rfl (by kernel_rfl) (by decide) (by kernel_rfl) (F:=λk x=>BL.f k x.1 x.2.1) (m:=KX) (λk x=>rfl)
  (by
   refine And.intro ?_ ?_
   ·refine Be (sl:=Sy) (F:=Z1) (λx=>rfl) λk ⟨⟨(x0:Int),_⟩,⟨(x1:Int),_⟩,⟨(x5:Int),_⟩,⟨(x6:Int),_⟩,⟨(Lr:Bool),_⟩,_⟩=> ?_
    show Ae KX (BL.j0 (k+1) x0 x1 x5 x6 Lr) _;rw[BL.j0];exact go
   refine And.intro ?_ ?_
   ·refine Be (sl:=Sz) (F:=Z2) (λx=>rfl) λk ⟨⟨(x0:Int),_⟩,⟨(x1:Int),_⟩,⟨(x5:Int),_⟩,⟨(x6:Int),_⟩,⟨(ux:Bool),_⟩,_⟩=> ?_
    show Ae KX (BL.j1 (k+1) x0 x1 x5 x6 ux) _;rw[BL.j1];exact go
   exact trivial)
  (λk ⟨(a0:Int),(a1:Int),_⟩=>by show Ae KX (BL.f k a0 a1) _;unfold BL.f;exact go)
end
section
attribute [local irreducible] EV.f BL.f
def KS:AS:=⟨[.int .u64, .int .u64],[.int .u64],λk x=>(Fa.f k x.1 x.2.1).map λr=>(r,())⟩
def gb (r:Int):TT KS.rs:=(r,())
theorem P0:DP Tryz.prog 146 KS :=
 Aa (Bt:=AP []) (l:= [(144, .pu Jl),(145, .pu Hr)]) (C:=Ai) (by kernel_rfl) AK ⟨Pz,MZ,trivial⟩ (fn:=Tryz.f146) (by kernel_rfl) rfl (by kernel_rfl) (by decide) (by kernel_rfl) (F:=λk x=>Fa.f k x.1 x.2.1) (m:=gb) (λk x=>rfl)
  (by exact trivial)
  (λk ⟨(a0:Int),(a1:Int),_⟩=>by show Ae gb (Fa.f k a0 a1) _;unfold Fa.f;exact go)
end
section
attribute [local irreducible] BF.f DZ.f A9.f B5.f CY.f CX.f Ax.f Aw.f
def Ht:AS:=⟨[.int .u64, .int .u64],[.int .u64],λk x=>(Ag.f k x.1 x.2.1).map λr=>(r,())⟩
def Gd (r:Int):TT Ht.rs:=(r,())
@[reducible] def QZ:List Slot:= [.tmp 0 [.ty (.int .u64)], .tmp 1 [.ty (.int .u64)], .tmp 5 [.ty (.int .i64)], .tmp 6 [.ty (.int .i64)], .tmp 7 [.ty .bool], .tmp 29 [.ty .bool]]
def Xq (k:Nat) (x:TS QZ):Option (Int):=Ag.j0 k x.1.1 x.2.1.1 x.2.2.1.1 x.2.2.2.1.1 x.2.2.2.2.1.1 x.2.2.2.2.2.1.1
@[reducible] def Qa:List Slot:= [.tmp 0 [.ty (.int .u64)], .tmp 1 [.ty (.int .u64)], .tmp 5 [.ty (.int .i64)], .tmp 6 [.ty (.int .i64)], .tmp 7 [.ty .bool], .tmp 37 [.ty .bool]]
def Xr (k:Nat) (x:TS Qa):Option (Int):=Ag.j1 k x.1.1 x.2.1.1 x.2.2.1.1 x.2.2.2.1.1 x.2.2.2.2.1.1 x.2.2.2.2.2.1.1
@[reducible] def Qb:List Slot:= [.tmp 7 [.ty .bool], .tmp 49 [.ty .bool]]
def Xs (k:Nat) (x:TS Qb):Option (Int):=Ag.j2 k x.1.1 x.2.1.1
def ue:Bs (TT Ht.rs):=⟨⟨106,106,[]⟩,AH [],AH [],AH [(3,⟨QZ,λk x=>(Xq k x).map Gd⟩),(5,⟨Qa,λk x=>(Xr k x).map Gd⟩),(6,⟨Qb,λk x=>(Xs k x).map Gd⟩)]⟩
theorem NN:DP Tryz.prog 147 Ht :=
 Aa (Bt:=AP [(15,[0,0,2,7,0,0,48,127,255])]) (l:= [(195, .pu Ee),(196, .pu JK),(205, .pu DN),(206, .pu Ew),(209, .pu Er),(214, .pu Gc),(215, .pu EB),(216, .pu D9)]) (C:=ue) (by kernel_rfl) AK ⟨Gs,Mi,EA,Gb,Ga,JX,Fy,Fw,trivial⟩ (fn:=Tryz.f147) (by kernel_rfl) rfl (by kernel_rfl) (by decide) (by kernel_rfl) (F:=λk x=>Ag.f k x.1 x.2.1) (m:=Gd) (λk x=>rfl)
  (by
   refine And.intro ?_ ?_
   ·refine Be (sl:=QZ) (F:=Xq) (λx=>rfl) λk ⟨⟨(x0:Int),_⟩,⟨(x1:Int),_⟩,⟨(x5:Int),_⟩,⟨(x6:Int),_⟩,⟨(x7:Bool),_⟩,⟨(gy:Bool),_⟩,_⟩=> ?_
    show Ae Gd (Ag.j0 (k+1) x0 x1 x5 x6 x7 gy) _;rw[Ag.j0];exact go
   refine And.intro ?_ ?_
   ·refine Be (sl:=Qa) (F:=Xr) (λx=>rfl) λk ⟨⟨(x0:Int),_⟩,⟨(x1:Int),_⟩,⟨(x5:Int),_⟩,⟨(x6:Int),_⟩,⟨(x7:Bool),_⟩,⟨(x37:Bool),_⟩,_⟩=> ?_
    show Ae Gd (Ag.j1 (k+1) x0 x1 x5 x6 x7 x37) _;rw[Ag.j1];exact go
   refine And.intro ?_ ?_
   ·refine Be (sl:=Qb) (F:=Xs) (λx=>rfl) λk ⟨⟨(x7:Bool),_⟩,⟨(x49:Bool),_⟩,_⟩=> ?_
    show Ae Gd (Ag.j2 (k+1) x7 x49) _;rw[Ag.j2];exact go
   exact trivial)
  (λk ⟨(a0:Int),(a1:Int),_⟩=>by show Ae Gd (Ag.f k a0 a1) _;unfold Ag.f;exact go)
end
section
attribute [local irreducible] BA.f
def Ml:AS:=⟨[.bool],[.int .u64],λk x=>(Fc.f k x.1).map λr=>(r,())⟩
def S0 (r:Int):TT Ml.rs:=(r,())
theorem gh:DP Tryz.prog 217 Ml :=
 Aa (Bt:=AP []) (l:= [(251, .pu Jt)]) (C:=Ai) (by kernel_rfl) AK ⟨QY,trivial⟩ (fn:=Tryz.f217) (by kernel_rfl) rfl (by kernel_rfl) (by decide) (by kernel_rfl) (F:=λk x=>Fc.f k x.1) (m:=S0) (λk x=>rfl)
  (by exact trivial)
  (λk ⟨(a0:Bool),_⟩=>by show Ae S0 (Fc.f k a0) _;unfold Fc.f;exact go)
end
section
attribute [local irreducible] BF.f A9.f B5.f CY.f CX.f Ax.f Aw.f Fc.f Hh.f
def Hu:AS:=⟨[.int .u64, .int .u64],[.int .u64],λk x=>(BM.f k x.1 x.2.1).map λr=>(r,())⟩
def JY (r:Int):TT Hu.rs:=(r,())
@[reducible] def Qc:List Slot:= [.tmp 0 [.ty (.int .u64)], .tmp 1 [.ty (.int .u64)], .tmp 5 [.ty (.int .i64)], .tmp 6 [.ty (.int .i64)], .tmp 7 [.ty .bool], .tmp 30 [.ty .bool]]
def Xt (k:Nat) (x:TS Qc):Option (Int):=BM.j0 k x.1.1 x.2.1.1 x.2.2.1.1 x.2.2.2.1.1 x.2.2.2.2.1.1 x.2.2.2.2.2.1.1
@[reducible] def Qd:List Slot:= [.tmp 0 [.ty (.int .u64)], .tmp 1 [.ty (.int .u64)], .tmp 5 [.ty (.int .i64)], .tmp 6 [.ty (.int .i64)], .tmp 7 [.ty .bool], .tmp 51 [.ty .bool]]
def Xu (k:Nat) (x:TS Qd):Option (Int):=BM.j1 k x.1.1 x.2.1.1 x.2.2.1.1 x.2.2.2.1.1 x.2.2.2.2.1.1 x.2.2.2.2.2.1.1
def uf:Bs (TT Hu.rs):=⟨⟨115,115,[]⟩,AH [],AH [],AH [(3,⟨Qc,λk x=>(Xt k x).map JY⟩),(5,⟨Qd,λk x=>(Xu k x).map JY⟩)]⟩
theorem NO:DP Tryz.prog 148 Hu :=
 Aa (Bt:=AP [(12,[0,0,3,0,0,24,63,127,255,255,255,511,3071,8191])]) (l:= [(195, .pu Ee),(205, .pu DN),(206, .pu Ew),(209, .pu Er),(214, .pu Gc),(215, .pu EB),(216, .pu D9),(217, .pu Ml),(218, .pu Mh)]) (C:=uf) (by kernel_rfl) AK ⟨Gs,EA,Gb,Ga,JX,Fy,Fw,gh,Vl,trivial⟩ (fn:=Tryz.f148) (by kernel_rfl) rfl (by kernel_rfl) (by decide) (by kernel_rfl) (F:=λk x=>BM.f k x.1 x.2.1) (m:=JY) (λk x=>rfl)
  (by
   refine And.intro ?_ ?_
   ·refine Be (sl:=Qc) (F:=Xt) (λx=>rfl) λk ⟨⟨(x0:Int),_⟩,⟨(x1:Int),_⟩,⟨(x5:Int),_⟩,⟨(x6:Int),_⟩,⟨(x7:Bool),_⟩,⟨(s8:Bool),_⟩,_⟩=> ?_
    show Ae JY (BM.j0 (k+1) x0 x1 x5 x6 x7 s8) _;rw[BM.j0];exact go
   refine And.intro ?_ ?_
   ·refine Be (sl:=Qd) (F:=Xu) (λx=>rfl) λk ⟨⟨(x0:Int),_⟩,⟨(x1:Int),_⟩,⟨(x5:Int),_⟩,⟨(x6:Int),_⟩,⟨(x7:Bool),_⟩,⟨(x51:Bool),_⟩,_⟩=> ?_
    show Ae JY (BM.j1 (k+1) x0 x1 x5 x6 x7 x51) _;rw[BM.j1];exact go
   exact trivial)
  (λk ⟨(a0:Int),(a1:Int),_⟩=>by show Ae JY (BM.f k a0 a1) _;unfold BM.f;exact go)
end
section
attribute [local irreducible] DZ.f
def L4:AS:=⟨[.int .u64],[.int .u64, .bool],λk x=>(CC.f k x.1).map λr=>(r.1,r.2,())⟩
def L5 (r:Int × Bool):TT L4.rs:=(r.1,r.2,())
@[reducible] def OJ:List Slot:= [.tmp 0 [.ty (.int .u64)], .tmp 4 [.ty (.int .u64)], .tmp 5 [.ty (.int .u64)]]
def Uq (k:Nat) (x:TS OJ):Option (Int × Bool):=CC.l0 k x.1.1 x.2.1.1 x.2.2.1.1
def pZ:Bs (TT L4.rs):=⟨⟨53,53,[]⟩,AH [(0,⟨OJ,λk x=>(Uq k x).map L5⟩)],AH [],AH []⟩
theorem pg:DP Tryz.prog 219 L4 :=
 Aa (Bt:=AP []) (l:= [(196, .pu JK)]) (C:=pZ) (by kernel_rfl) AK ⟨Mi,trivial⟩ (fn:=Tryz.f219) (by kernel_rfl) rfl (by kernel_rfl) (by decide) (by kernel_rfl) (F:=λk x=>CC.f k x.1) (m:=L5) (λk x=>rfl)
  (by
   refine And.intro ?_ ?_
   ·refine Au (sl:=OJ) (F:=Uq) (λx=>rfl) λk ⟨⟨(x0:Int),_⟩,⟨(x4:Int),_⟩,⟨(x5:Int),_⟩,_⟩=> ?_
    show Ae L5 (CC.l0 (k+1) x0 x4 x5) _;rw[CC.l0];exact go
   exact trivial)
  (λk ⟨(a0:Int),_⟩=>by show Ae L5 (CC.f k a0) _;unfold CC.f;exact go)
end
section
attribute [local irreducible] BF.f A9.f B5.f CX.f Ax.f Aw.f CC.f
def Jm:AS:=⟨[.int .u64],[.int .u64],λk x=>(B4.f k x.1).map λr=>(r,())⟩
def L6 (r:Int):TT Jm.rs:=(r,())
@[reducible] def OK:List Slot:= [.tmp 4 [.ty (.int .u64)], .tmp 5 [.ty (.int .i64)], .tmp 7 [.ty (.int .i64)]]
def Ur (k:Nat) (x:TS OK):Option (Int):=B4.j0 k x.1.1 x.2.1.1 x.2.2.1.1
def pq:Bs (TT Jm.rs):=⟨⟨61,61,[]⟩,AH [],AH [(15,⟨OK,λk x=>(Ur k x).map L6⟩)],AH []⟩
theorem XL:DP Tryz.prog 149 Jm :=
 Aa (Bt:=AP []) (l:= [(195, .pu Ee),(205, .pu DN),(206, .pu Ew),(214, .pu Gc),(215, .pu EB),(216, .pu D9),(219, .pu L4)]) (C:=pq) (by kernel_rfl) AK ⟨Gs,EA,Gb,JX,Fy,Fw,pg,trivial⟩ (fn:=Tryz.f149) (by kernel_rfl) rfl (by kernel_rfl) (by decide) (by kernel_rfl) (F:=λk x=>B4.f k x.1) (m:=L6) (λk x=>rfl)
  (by
   refine And.intro ?_ ?_
   ·refine Be (sl:=OK) (F:=Ur) (λx=>rfl) λk ⟨⟨(x4:Int),_⟩,⟨(x5:Int),_⟩,⟨(x7:Int),_⟩,_⟩=> ?_
    show Ae L6 (B4.j0 (k+1) x4 x5 x7) _;rw[B4.j0];exact go
   exact trivial)
  (λk ⟨(a0:Int),_⟩=>by show Ae L6 (B4.f k a0) _;unfold B4.f;exact go)
end
section
attribute [local irreducible] A9.f
def Qe:AS:=⟨[.int .u64, .int .u64],[.bool],λ_ x=>(Hf.f x.1 x.2.1).map λr=>(r,())⟩
def Xv (r:Bool):TT Qe.rs:=(r,())
theorem pz:DP Tryz.prog 243 Qe :=
 Aa (Bt:=AP []) (l:= [(205, .pu DN)]) (C:=Ai) (by kernel_rfl) AK ⟨EA,trivial⟩ (fn:=Tryz.f243) (by kernel_rfl) rfl (by kernel_rfl) (by decide) (by kernel_rfl) (F:=λk x=>Hf.f x.1 x.2.1) (m:=Xv) (λk x=>rfl)
  (by exact trivial)
  (λk ⟨(a0:Int),(a1:Int),_⟩=>by show Ae Xv (Hf.f a0 a1) _;unfold Hf.f;exact go)
end
section
attribute [local irreducible] CX.f
def Vq:AS:=⟨[.int .u64],[.int .i64],λ_ x=>(Je.f x.1).map λr=>(r,())⟩
def gi (r:Int):TT Vq.rs:=(r,())
theorem yJ:DP Tryz.prog 244 Vq :=
 Aa (Bt:=AP []) (l:= [(214, .pu Gc)]) (C:=Ai) (by kernel_rfl) AK ⟨JX,trivial⟩ (fn:=Tryz.f244) (by kernel_rfl) rfl (by kernel_rfl) (by decide) (by kernel_rfl) (F:=λk x=>Je.f x.1) (m:=gi) (λk x=>rfl)
  (by exact trivial)
  (λk ⟨(a0:Int),_⟩=>by show Ae gi (Je.f a0) _;unfold Je.f;exact go)
end
section
attribute [local irreducible] Hf.f Je.f
def LL:AS:=⟨[.int .u64, .int .u64],[.bool],λ_ x=>(EL.f x.1 x.2.1).map λr=>(r,())⟩
def Z3 (r:Bool):TT LL.rs:=(r,())
theorem S5:DP Tryz.prog 180 LL :=
 Aa (Bt:=AP []) (l:= [(243, .pu Qe),(244, .pu Vq)]) (C:=Ai) (by kernel_rfl) AK ⟨pz,yJ,trivial⟩ (fn:=Tryz.f180) (by kernel_rfl) rfl (by kernel_rfl) (by decide) (by kernel_rfl) (F:=λk x=>EL.f x.1 x.2.1) (m:=Z3) (λk x=>rfl)
  (by exact trivial)
  (λk ⟨(a0:Int),(a1:Int),_⟩=>by show Ae Z3 (EL.f a0 a1) _;unfold EL.f;exact go)
end
section
attribute [local irreducible] BF.f Ax.f
def Nn:AS:=⟨[.int .u64],[.int .i64, .bool],λk x=>(B6.f k x.1).map λr=>(r.1,r.2,())⟩
def JZ (r:Int × Bool):TT Nn.rs:=(r.1,r.2,())
@[reducible] def Qf:List Slot:= [.tmp 4 [.ty .bool], .tmp 5 [.ty (.int .u64)], .tmp 6 [.ty (.int .i64)], .tmp 25 [.ty .bool]]
def Xw (k:Nat) (x:TS Qf):Option (Int × Bool):=B6.j0 k x.1.1 x.2.1.1 x.2.2.1.1 x.2.2.2.1.1
@[reducible] def Qg:List Slot:= [.tmp 4 [.ty .bool], .tmp 8 [.ty (.int .i64)], .tmp 55 [.ty .bool]]
def Xx (k:Nat) (x:TS Qg):Option (Int × Bool):=B6.j1 k x.1.1 x.2.1.1 x.2.2.1.1
def ug:Bs (TT Nn.rs):=⟨⟨62,62,[]⟩,AH [],AH [],AH [(2,⟨Qf,λk x=>(Xw k x).map JZ⟩),(10,⟨Qg,λk x=>(Xx k x).map JZ⟩)]⟩
theorem uh:DP Tryz.prog 220 Nn :=
 Aa (Bt:=AP []) (l:= [(195, .pu Ee),(215, .pu EB)]) (C:=ug) (by kernel_rfl) AK ⟨Gs,Fy,trivial⟩ (fn:=Tryz.f220) (by kernel_rfl) rfl (by kernel_rfl) (by decide) (by kernel_rfl) (F:=λk x=>B6.f k x.1) (m:=JZ) (λk x=>rfl)
  (by
   refine And.intro ?_ ?_
   ·refine Be (sl:=Qf) (F:=Xw) (λx=>rfl) λk ⟨⟨(x4:Bool),_⟩,⟨(x5:Int),_⟩,⟨(x6:Int),_⟩,⟨(zU:Bool),_⟩,_⟩=> ?_
    show Ae JZ (B6.j0 (k+1) x4 x5 x6 zU) _;rw[B6.j0];exact go
   refine And.intro ?_ ?_
   ·refine Be (sl:=Qg) (F:=Xx) (λx=>rfl) λk ⟨⟨(x4:Bool),_⟩,⟨(x8:Int),_⟩,⟨(x55:Bool),_⟩,_⟩=> ?_
    show Ae JZ (B6.j1 (k+1) x4 x8 x55) _;rw[B6.j1];exact go
   exact trivial)
  (λk ⟨(a0:Int),_⟩=>by show Ae JZ (B6.f k a0) _;unfold B6.f;exact go)
end
section
attribute [local irreducible] Aw.f
def GO:AS:=⟨[.int .i64],[.int .u64],λk x=>(Cr.f k x.1).map λr=>(r,())⟩
def O7 (r:Int):TT GO.rs:=(r,())
theorem KY:DP Tryz.prog 221 GO :=
 Aa (Bt:=AP []) (l:= [(216, .pu D9)]) (C:=Ai) (by kernel_rfl) AK ⟨Fw,trivial⟩ (fn:=Tryz.f221) (by kernel_rfl) rfl (by kernel_rfl) (by decide) (by kernel_rfl) (F:=λk x=>Cr.f k x.1) (m:=O7) (λk x=>rfl)
  (by exact trivial)
  (λk ⟨(a0:Int),_⟩=>by show Ae O7 (Cr.f k a0) _;unfold Cr.f;exact go)
end
section
attribute [local irreducible] BM.f Cr.f
def Kr:AS:=⟨[.int .i64],[.int .u64],λk x=>(EC.f k x.1).map λr=>(r,())⟩
def Us (r:Int):TT Kr.rs:=(r,())
theorem Ut:DP Tryz.prog 222 Kr :=
 Aa (Bt:=AP []) (l:= [(148, .pu Hu),(221, .pu GO)]) (C:=Ai) (by kernel_rfl) AK ⟨NO,KY,trivial⟩ (fn:=Tryz.f222) (by kernel_rfl) rfl (by kernel_rfl) (by decide) (by kernel_rfl) (F:=λk x=>EC.f k x.1) (m:=Us) (λk x=>rfl)
  (by exact trivial)
  (λk ⟨(a0:Int),_⟩=>by show Ae Us (EC.f k a0) _;unfold EC.f;exact go)
end
section
attribute [local irreducible] A9.f B5.f
def Iu:AS:=⟨[.int .u64],[.int .u64],λ_ x=>(Di.f x.1).map λr=>(r,())⟩
def Uu (r:Int):TT Iu.rs:=(r,())
theorem N7:DP Tryz.prog 142 Iu :=
 Aa (Bt:=AP []) (l:= [(205, .pu DN),(206, .pu Ew)]) (C:=Ai) (by kernel_rfl) AK ⟨EA,Gb,trivial⟩ (fn:=Tryz.f142) (by kernel_rfl) rfl (by kernel_rfl) (by decide) (by kernel_rfl) (F:=λk x=>Di.f x.1) (m:=Uu) (λk x=>rfl)
  (by exact trivial)
  (λk ⟨(a0:Int),_⟩=>by show Ae Uu (Di.f a0) _;unfold Di.f;exact go)
end
section
attribute [local irreducible] Di.f Ax.f Aw.f
def Qh:AS:=⟨[.int .u64, .int .i64],[.int .u64],λk x=>(JE.f k x.1 x.2.1).map λr=>(r,())⟩
def Xy (r:Int):TT Qh.rs:=(r,())
theorem p8:DP Tryz.prog 223 Qh :=
 Aa (Bt:=AP []) (l:= [(142, .pu Iu),(215, .pu EB),(216, .pu D9)]) (C:=Ai) (by kernel_rfl) AK ⟨N7,Fy,Fw,trivial⟩ (fn:=Tryz.f223) (by kernel_rfl) rfl (by kernel_rfl) (by decide) (by kernel_rfl) (F:=λk x=>JE.f k x.1 x.2.1) (m:=Xy) (λk x=>rfl)
  (by exact trivial)
  (λk ⟨(a0:Int),(a1:Int),_⟩=>by show Ae Xy (JE.f k a0 a1) _;unfold JE.f;exact go)
end
section
attribute [local irreducible] BL.f Fa.f Ag.f EL.f A9.f B5.f CY.f B6.f Cr.f EC.f JE.f
def Jn:AS:=⟨[.int .u64],[.int .u64],λk x=>(BR.f k x.1).map λr=>(r,())⟩
def IV (r:Int):TT Jn.rs:=(r,())
@[reducible] def OL:List Slot:= [.tmp 3 [.ty (.int .i64)], .tmp 6 [.ty (.int .u64)], .tmp 7 [.Ia 7], .arr 7 202 (.int .i64), .tmp 9 [.ty (.int .u64)], .tmp 10 [.ty (.int .i64)]]
def Uv (k:Nat) (x:TS OL):Option (Int):=BR.l1 k x.1.1 x.2.1.1 x.2.2.2.1 x.2.2.2.2.1.1 x.2.2.2.2.2.1.1
@[reducible] def OM:List Slot:= [.tmp 3 [.ty (.int .i64)], .tmp 6 [.ty (.int .u64)], .tmp 7 [.Ia 7], .arr 7 202 (.int .i64), .tmp 39 [.ty (.int .i64)]]
def Uw (k:Nat) (x:TS OM):Option (Int):=BR.l0 k x.1.1 x.2.1.1 x.2.2.2.1 x.2.2.2.2.1.1
def p9:Bs (TT Jn.rs):=⟨⟨70,70,[]⟩,AH [(1,⟨OL,λk x=>(Uv k x).map IV⟩),(0,⟨OM,λk x=>(Uw k x).map IV⟩)],AH [],AH []⟩
theorem XM:DP Tryz.prog 150 Jn :=
 Aa (Bt:=AP [(20,[0,0,3,0,8,24,63,127,255])]) (l:= [(145, .pu Hr),(146, .pu KS),(147, .pu Ht),(180, .pu LL),(205, .pu DN),(206, .pu Ew),(209, .pu Er),(220, .pu Nn),(221, .pu GO),(222, .pu Kr),(223, .pu Qh)]) (C:=p9) (by kernel_rfl) AK ⟨MZ,P0,NN,S5,EA,Gb,Ga,uh,KY,Ut,p8,trivial⟩ (fn:=Tryz.f150) (by kernel_rfl) rfl (by kernel_rfl) (by decide) (by kernel_rfl) (F:=λk x=>BR.f k x.1) (m:=IV) (λk x=>rfl)
  (by
   refine And.intro ?_ ?_
   ·refine Au (sl:=OM) (F:=Uw) (λx=>rfl) λk ⟨⟨(e:Int),_⟩,⟨(r:Int),_⟩,_,(fs:List Int),⟨(i:Int),_⟩,_⟩=> ?_
    show Ae IV (BR.l0 (k+1) e r fs i) _;rw[BR.l0];exact go
   refine And.intro ?_ ?_
   ·refine Au (sl:=OL) (F:=Uv) (λx=>rfl) λk ⟨⟨(e:Int),_⟩,⟨(r:Int),_⟩,_,(fs:List Int),⟨(p:Int),_⟩,⟨(i:Int),_⟩,_⟩=> ?_
    show Ae IV (BR.l1 (k+1) e r fs p i) _;rw[BR.l1];exact go
   exact trivial)
  (λk ⟨(a0:Int),_⟩=>by show Ae IV (BR.f k a0) _;unfold BR.f;exact go)
end
section
attribute [local irreducible] EL.f BF.f Ax.f BA.f
def Mm:AS:=⟨[.int .u64],[.int .u64, .int .i64],λk x=>(Gl.f k x.1).map λr=>(r.1,r.2,())⟩
def S6 (r:Int × Int):TT Mm.rs:=(r.1,r.2,())
theorem gj:DP Tryz.prog 224 Mm :=
 Aa (Bt:=AP []) (l:= [(180, .pu LL),(195, .pu Ee),(215, .pu EB),(251, .pu Jt)]) (C:=Ai) (by kernel_rfl) AK ⟨S5,Gs,Fy,QY,trivial⟩ (fn:=Tryz.f224) (by kernel_rfl) rfl (by kernel_rfl) (by decide) (by kernel_rfl) (F:=λk x=>Gl.f k x.1) (m:=S6) (λk x=>rfl)
  (by exact trivial)
  (λk ⟨(a0:Int),_⟩=>by show Ae S6 (Gl.f k a0) _;unfold Gl.f;exact go)
end
section
attribute [local irreducible] BL.f Fa.f Ag.f BM.f A9.f B5.f CY.f CX.f Cr.f EC.f Gl.f
def Jo:AS:=⟨[.int .u64],[.int .u64],λk x=>(BX.f k x.1).map λr=>(r,())⟩
def IW (r:Int):TT Jo.rs:=(r,())
@[reducible] def ON:List Slot:= [.tmp 0 [.ty (.int .u64)], .tmp 3 [.ty (.int .i64)], .tmp 20 [.ty .bool]]
def Ux (k:Nat) (x:TS ON):Option (Int):=BX.j0 k x.1.1 x.2.1.1 x.2.2.1.1
@[reducible] def OO:List Slot:= [.tmp 5 [.ty (.int .i64)], .tmp 7 [.ty (.int .u64)], .tmp 8 [.ty (.int .u64)], .tmp 9 [.ty (.int .u64)], .tmp 10 [.ty (.int .i64)]]
def Uy (k:Nat) (x:TS OO):Option (Int):=BX.l0 k x.1.1 x.2.1.1 x.2.2.1.1 x.2.2.2.1.1 x.2.2.2.2.1.1
def qA:Bs (TT Jo.rs):=⟨⟨81,81,[]⟩,AH [(0,⟨OO,λk x=>(Uy k x).map IW⟩)],AH [],AH [(4,⟨ON,λk x=>(Ux k x).map IW⟩)]⟩
theorem XN:DP Tryz.prog 151 Jo :=
 Aa (Bt:=AP []) (l:= [(145, .pu Hr),(146, .pu KS),(147, .pu Ht),(148, .pu Hu),(205, .pu DN),(206, .pu Ew),(209, .pu Er),(214, .pu Gc),(221, .pu GO),(222, .pu Kr),(224, .pu Mm)]) (C:=qA) (by kernel_rfl) AK ⟨MZ,P0,NN,NO,EA,Gb,Ga,JX,KY,Ut,gj,trivial⟩ (fn:=Tryz.f151) (by kernel_rfl) rfl (by kernel_rfl) (by decide) (by kernel_rfl) (F:=λk x=>BX.f k x.1) (m:=IW) (λk x=>rfl)
  (by
   refine And.intro ?_ ?_
   ·refine Be (sl:=ON) (F:=Ux) (λx=>rfl) λk ⟨⟨(x0:Int),_⟩,⟨(x3:Int),_⟩,⟨(ZA:Bool),_⟩,_⟩=> ?_
    show Ae IW (BX.j0 (k+1) x0 x3 ZA) _;rw[BX.j0];exact go
   refine And.intro ?_ ?_
   ·refine Au (sl:=OO) (F:=Uy) (λx=>rfl) λk ⟨⟨(x5:Int),_⟩,⟨(x7:Int),_⟩,⟨(x8:Int),_⟩,⟨(x9:Int),_⟩,⟨(Ik:Int),_⟩,_⟩=> ?_
    show Ae IW (BX.l0 (k+1) x5 x7 x8 x9 Ik) _;rw[BX.l0];exact go
   exact trivial)
  (λk ⟨(a0:Int),_⟩=>by show Ae IW (BX.f k a0) _;unfold BX.f;exact go)
end
section
attribute [local irreducible] EV.f BL.f Fa.f Ag.f BM.f B4.f BR.f BX.f
def OP:AS:=⟨[.int .i64, .int .u64, .int .u64],[.int .u64],λk x=>(Hg.f k x.1 x.2.1 x.2.2.1).map λr=>(r,())⟩
def Uz (r:Int):TT OP.rs:=(r,())
theorem jN:DP Tryz.prog 242 OP :=
 Aa (Bt:=AP []) (l:= [(144, .pu Jl),(145, .pu Hr),(146, .pu KS),(147, .pu Ht),(148, .pu Hu),(149, .pu Jm),(150, .pu Jn),(151, .pu Jo)]) (C:=Ai) (by kernel_rfl) AK ⟨Pz,MZ,P0,NN,NO,XL,XM,XN,trivial⟩ (fn:=Tryz.f242) (by kernel_rfl) rfl (by kernel_rfl) (by decide) (by kernel_rfl) (F:=λk x=>Hg.f k x.1 x.2.1 x.2.2.1) (m:=Uz) (λk x=>rfl)
  (by exact trivial)
  (λk ⟨(a0:Int),(a1:Int),(a2:Int),_⟩=>by show Ae Uz (Hg.f k a0 a1 a2) _;unfold Hg.f;exact go)
end
section
attribute [local irreducible] BV.f Br.f CL.f Dk.f Hg.f
def CQ:D0:=⟨[.st 135 [.ty (.int .i64), .ty (.int .i64), .row false 93 (.cons (.int .i64) (.cons (.int .i64) (.cons (.int .i64) (.cons .bool (.cons (.row 73 (.int .u64)) (.row 73 (.int .u64))))))), .ty (.row 4 .bool), .row false 4 .bool, .ty (.int .i64), .ty (.int .i64), .ty .bool, .ty (.int .i64)], .ty (.int .i64), .ty (.cons (.cons .bool (.cons (.row 73 (.int .u64)) (.row 73 (.int .u64)))) (.cons (.int .u64) (.int .i64))), .ty (.cons (.cons .bool (.cons (.row 73 (.int .u64)) (.row 73 (.int .u64)))) (.cons (.int .u64) (.int .i64))), .ty .bool],[(.cons (.cons .bool (.cons (.row 73 (.int .u64)) (.row 73 (.int .u64)))) (.cons (.int .u64) (.int .i64)))],λk x=>(AM.f k x.1.1 x.1.2.1 x.1.2.2.1 x.1.2.2.2.1 x.1.2.2.2.2.1 x.1.2.2.2.2.2.1 x.1.2.2.2.2.2.2.1 x.1.2.2.2.2.2.2.2.1 x.1.2.2.2.2.2.2.2.2.1 x.2.1 x.2.2.1.1.1 x.2.2.1.1.2.1 x.2.2.1.1.2.2 x.2.2.1.2.1 x.2.2.1.2.2 x.2.2.2.1.1.1 x.2.2.2.1.1.2.1 x.2.2.2.1.1.2.2 x.2.2.2.1.2.1 x.2.2.2.1.2.2 x.2.2.2.2.1).map λr=>((((r.1,(r.2.1,r.2.2.1)),(r.2.2.2.1,r.2.2.2.2.1)),()),((r.2.2.2.2.2.1,r.2.2.2.2.2.2.1,r.2.2.2.2.2.2.2.1,r.2.2.2.2.2.2.2.2.1,r.2.2.2.2.2.2.2.2.2.1,r.2.2.2.2.2.2.2.2.2.2.1,r.2.2.2.2.2.2.2.2.2.2.2.1,r.2.2.2.2.2.2.2.2.2.2.2.2.1,r.2.2.2.2.2.2.2.2.2.2.2.2.2,()),()))⟩
def EG (r:Bool × List Int × List Int × Int × Int × Int × Int × List (Int × Int × Int × Bool × (List Int) × List Int) × List Bool × List Bool × Int × Int × Bool × Int):TT CQ.rs × ET CQ.ps:=((((r.1,(r.2.1,r.2.2.1)),(r.2.2.2.1,r.2.2.2.2.1)),()),((r.2.2.2.2.2.1,r.2.2.2.2.2.2.1,r.2.2.2.2.2.2.2.1,r.2.2.2.2.2.2.2.2.1,r.2.2.2.2.2.2.2.2.2.1,r.2.2.2.2.2.2.2.2.2.2.1,r.2.2.2.2.2.2.2.2.2.2.2.1,r.2.2.2.2.2.2.2.2.2.2.2.2.1,r.2.2.2.2.2.2.2.2.2.2.2.2.2,()),()))
@[reducible] def LY:List Slot:= [.tmp 0 [.ptr 84 0], .tmp 10 [.ptr 10 0], .tmp 11 [.ptr 11 0], .DO 10 .mine 137 [.ty .bool, .own .mine 97 73 (.int .u64), .own .mine 98 73 (.int .u64), .ty (.int .u64), .ty (.int .i64)], .DO 11 .mine 137 [.ty .bool, .ty (.row 73 (.int .u64)), .ty (.row 73 (.int .u64)), .ty (.int .u64), .ty (.int .i64)], .DO 84 .kept 135 [.ty (.int .i64), .ty (.int .i64), .own .GF 99 93 (.cons (.int .i64) (.cons (.int .i64) (.cons (.int .i64) (.cons .bool (.cons (.row 73 (.int .u64)) (.row 73 (.int .u64))))))), .ty (.row 4 .bool), .own .GF 100 4 .bool, .ty (.int .i64), .ty (.int .i64), .ty .bool, .ty (.int .i64)]]
def Q2 (k:Nat) (x:TS LY):Option (Bool × List Int × List Int × Int × Int × Int × Int × List (Int × Int × Int × Bool × (List Int) × List Int) × List Bool × List Bool × Int × Int × Bool × Int):=AM.zT k x.2.2.2.1.1 x.2.2.2.1.2.1 x.2.2.2.1.2.2.1 x.2.2.2.1.2.2.2.1 x.2.2.2.1.2.2.2.2.1 x.2.2.2.2.1.1 x.2.2.2.2.1.2.1 x.2.2.2.2.1.2.2.1 x.2.2.2.2.1.2.2.2.1 x.2.2.2.2.1.2.2.2.2.1 x.2.2.2.2.2.1.1 x.2.2.2.2.2.1.2.1 x.2.2.2.2.2.1.2.2.1 x.2.2.2.2.2.1.2.2.2.1 x.2.2.2.2.2.1.2.2.2.2.1 x.2.2.2.2.2.1.2.2.2.2.2.1 x.2.2.2.2.2.1.2.2.2.2.2.2.1 x.2.2.2.2.2.1.2.2.2.2.2.2.2.1 x.2.2.2.2.2.1.2.2.2.2.2.2.2.2.1
@[reducible] def LZ:List Slot:= [.tmp 0 [.ptr 84 0], .tmp 1 [.ty (.int .i64)], .tmp 4 [.ty .bool], .tmp 7 [.ptr 7 0], .tmp 8 [.ptr 8 0], .tmp 10 [.ptr 10 0], .tmp 11 [.ptr 11 0], .DO 7 .mine 137 [.ty .bool, .ty (.row 73 (.int .u64)), .ty (.row 73 (.int .u64)), .ty (.int .u64), .ty (.int .i64)], .DO 8 .mine 137 [.ty .bool, .ty (.row 73 (.int .u64)), .ty (.row 73 (.int .u64)), .ty (.int .u64), .ty (.int .i64)], .DO 10 .mine 137 [.ty .bool, .own .mine 97 73 (.int .u64), .own .mine 98 73 (.int .u64), .ty (.int .u64), .ty (.int .i64)], .DO 11 .mine 137 [.ty .bool, .own .mine 99 73 (.int .u64), .own .mine 100 73 (.int .u64), .ty (.int .u64), .ty (.int .i64)], .DO 84 .kept 135 [.ty (.int .i64), .ty (.int .i64), .own .GF 101 93 (.cons (.int .i64) (.cons (.int .i64) (.cons (.int .i64) (.cons .bool (.cons (.row 73 (.int .u64)) (.row 73 (.int .u64))))))), .ty (.row 4 .bool), .own .GF 102 4 .bool, .ty (.int .i64), .ty (.int .i64), .ty .bool, .ty (.int .i64)]]
def Q3 (k:Nat) (x:TS LZ):Option (Bool × List Int × List Int × Int × Int × Int × Int × List (Int × Int × Int × Bool × (List Int) × List Int) × List Bool × List Bool × Int × Int × Bool × Int):=AM.j7 k x.2.1.1 x.2.2.1.1 x.2.2.2.2.2.2.2.1.1 x.2.2.2.2.2.2.2.1.2.1 x.2.2.2.2.2.2.2.1.2.2.1 x.2.2.2.2.2.2.2.1.2.2.2.1 x.2.2.2.2.2.2.2.1.2.2.2.2.1 x.2.2.2.2.2.2.2.2.1.1 x.2.2.2.2.2.2.2.2.1.2.1 x.2.2.2.2.2.2.2.2.1.2.2.1 x.2.2.2.2.2.2.2.2.1.2.2.2.1 x.2.2.2.2.2.2.2.2.1.2.2.2.2.1 x.2.2.2.2.2.2.2.2.2.1.1 x.2.2.2.2.2.2.2.2.2.1.2.1 x.2.2.2.2.2.2.2.2.2.1.2.2.1 x.2.2.2.2.2.2.2.2.2.1.2.2.2.1 x.2.2.2.2.2.2.2.2.2.1.2.2.2.2.1 x.2.2.2.2.2.2.2.2.2.2.1.1 x.2.2.2.2.2.2.2.2.2.2.1.2.1 x.2.2.2.2.2.2.2.2.2.2.1.2.2.1 x.2.2.2.2.2.2.2.2.2.2.1.2.2.2.1 x.2.2.2.2.2.2.2.2.2.2.1.2.2.2.2.1 x.2.2.2.2.2.2.2.2.2.2.2.1.1 x.2.2.2.2.2.2.2.2.2.2.2.1.2.1 x.2.2.2.2.2.2.2.2.2.2.2.1.2.2.1 x.2.2.2.2.2.2.2.2.2.2.2.1.2.2.2.1 x.2.2.2.2.2.2.2.2.2.2.2.1.2.2.2.2.1 x.2.2.2.2.2.2.2.2.2.2.2.1.2.2.2.2.2.1 x.2.2.2.2.2.2.2.2.2.2.2.1.2.2.2.2.2.2.1 x.2.2.2.2.2.2.2.2.2.2.2.1.2.2.2.2.2.2.2.1 x.2.2.2.2.2.2.2.2.2.2.2.1.2.2.2.2.2.2.2.2.1
@[reducible] def La:List Slot:= [.tmp 0 [.ptr 84 0], .tmp 10 [.ptr 10 0], .tmp 11 [.ptr 11 0], .tmp 12 [.ptr 12 0], .DO 10 .mine 137 [.ty .bool, .own .mine 97 73 (.int .u64), .own .mine 98 73 (.int .u64), .ty (.int .u64), .ty (.int .i64)], .DO 11 .mine 137 [.ty .bool, .own .mine 99 73 (.int .u64), .own .mine 100 73 (.int .u64), .ty (.int .u64), .ty (.int .i64)], .DO 12 .mine 93 [.ty (.int .i64), .ty (.int .i64), .ty (.int .i64), .ty .bool, .own .mine 101 73 (.int .u64), .own .mine 102 73 (.int .u64)], .DO 84 .kept 135 [.ty (.int .i64), .ty (.int .i64), .own .GF 103 93 (.cons (.int .i64) (.cons (.int .i64) (.cons (.int .i64) (.cons .bool (.cons (.row 73 (.int .u64)) (.row 73 (.int .u64))))))), .ty (.row 4 .bool), .own .GF 104 4 .bool, .ty (.int .i64), .ty (.int .i64), .ty .bool, .ty (.int .i64)]]
def Q4 (k:Nat) (x:TS La):Option (Bool × List Int × List Int × Int × Int × Int × Int × List (Int × Int × Int × Bool × (List Int) × List Int) × List Bool × List Bool × Int × Int × Bool × Int):=AM.qG k x.2.2.2.2.1.1 x.2.2.2.2.1.2.1 x.2.2.2.2.1.2.2.1 x.2.2.2.2.1.2.2.2.1 x.2.2.2.2.1.2.2.2.2.1 x.2.2.2.2.2.1.1 x.2.2.2.2.2.1.2.1 x.2.2.2.2.2.1.2.2.1 x.2.2.2.2.2.1.2.2.2.1 x.2.2.2.2.2.1.2.2.2.2.1 x.2.2.2.2.2.2.1.1 x.2.2.2.2.2.2.1.2.1 x.2.2.2.2.2.2.1.2.2.1 x.2.2.2.2.2.2.1.2.2.2.1 x.2.2.2.2.2.2.1.2.2.2.2.1 x.2.2.2.2.2.2.1.2.2.2.2.2.1 x.2.2.2.2.2.2.2.1.1 x.2.2.2.2.2.2.2.1.2.1 x.2.2.2.2.2.2.2.1.2.2.1 x.2.2.2.2.2.2.2.1.2.2.2.1 x.2.2.2.2.2.2.2.1.2.2.2.2.1 x.2.2.2.2.2.2.2.1.2.2.2.2.2.1 x.2.2.2.2.2.2.2.1.2.2.2.2.2.2.1 x.2.2.2.2.2.2.2.1.2.2.2.2.2.2.2.1 x.2.2.2.2.2.2.2.1.2.2.2.2.2.2.2.2.1
def gl:Bs (TT CQ.rs × ET CQ.ps):=⟨⟨84,105,[84]⟩,AH [],AH [(15,⟨LY,λk x=>(Q2 k x).map EG⟩),(7,⟨LZ,λk x=>(Q3 k x).map EG⟩),(10,⟨La,λk x=>(Q4 k x).map EG⟩)],AH []⟩
theorem EF:UB Tryz.prog 171 CQ :=
 FJ (Bt:=AP []) (l:= [(168, .io Cl [(14,87)]),(170, .io DF [(50,95)]),(181, .io Dd [(29,91),(36,93)]),(241, .io EO [(59,89)]),(242, .pu OP)]) (C:=gl) (by kernel_rfl) AK ⟨HT,Jj,Na,Xm,jN,trivial⟩ (fn:=Tryz.f171) (by kernel_rfl) rfl (by kernel_rfl) (by decide) (by kernel_rfl) (m:=105) (by decide) (by decide) (F:=λk x=>AM.f k x.1.1 x.1.2.1 x.1.2.2.1 x.1.2.2.2.1 x.1.2.2.2.2.1 x.1.2.2.2.2.2.1 x.1.2.2.2.2.2.2.1 x.1.2.2.2.2.2.2.2.1 x.1.2.2.2.2.2.2.2.2.1 x.2.1 x.2.2.1.1.1 x.2.2.1.1.2.1 x.2.2.1.1.2.2 x.2.2.1.2.1 x.2.2.1.2.2 x.2.2.2.1.1.1 x.2.2.2.1.1.2.1 x.2.2.2.1.1.2.2 x.2.2.2.1.2.1 x.2.2.2.1.2.2 x.2.2.2.2.1) (q:=EG) (λk x=>rfl)
  (by
   refine And.intro ?_ ?_
   ·refine Be (sl:=LZ) (F:=Q3) (λx=>rfl) λk ⟨_,⟨(x1:Int),_⟩,⟨(x4:Bool),_⟩,_,_,_,_,⟨(Gn:Bool),(JG:List Int),(AK5:List Int),(AK6:Int),(AFp:Int),_⟩,⟨(Ie:Bool),(OZ:List Int),(AK7:List Int),(AK8:Int),(AIW:Int),_⟩,⟨(Ro:Bool),(Rp:List Int),(Rs:List Int),(Rt:Int),(Ru:Int),_⟩,⟨(Rv:Bool),(Rw:List Int),(Rx:List Int),(Ry:Int),(Rz:Int),_⟩,⟨(Oa:Int),(Ob:Int),(Oc:List (Int × Int × Int × Bool × (List Int) × List Int)),(Od:List Bool),(Oe:List Bool),(Of:Int),(Og:Int),(Oh:Bool),(NG:Int),_⟩,_⟩=> ?_
    show Ae EG (AM.j7 (k+1) x1 x4 Gn JG AK5 AK6 AFp Ie OZ AK7 AK8 AIW Ro Rp Rs Rt Ru Rv Rw Rx Ry Rz Oa Ob Oc Od Oe Of Og Oh NG) _;rw[AM.j7];exact go
   refine And.intro ?_ ?_
   ·refine Be (sl:=La) (F:=Q4) (λx=>rfl) λk ⟨_,_,_,_,⟨(Ro:Bool),(Rp:List Int),(Rs:List Int),(Rt:Int),(Ru:Int),_⟩,⟨(Rv:Bool),(Rw:List Int),(Rx:List Int),(Ry:Int),(Rz:Int),_⟩,⟨(ez:Int),(e8:Int),(e9:Int),(ADv:Bool),(ADw:List Int),(ADx:List Int),_⟩,⟨(Oa:Int),(Ob:Int),(Oc:List (Int × Int × Int × Bool × (List Int) × List Int)),(Od:List Bool),(Oe:List Bool),(Of:Int),(Og:Int),(Oh:Bool),(NG:Int),_⟩,_⟩=> ?_
    show Ae EG (AM.qG (k+1) Ro Rp Rs Rt Ru Rv Rw Rx Ry Rz ez e8 e9 ADv ADw ADx Oa Ob Oc Od Oe Of Og Oh NG) _;rw[AM.qG];exact go
   refine And.intro ?_ ?_
   ·refine Be (sl:=LY) (F:=Q2) (λx=>rfl) λk ⟨_,_,_,⟨(Ro:Bool),(Rp:List Int),(Rs:List Int),(Rt:Int),(Ru:Int),_⟩,⟨(Rv:Bool),(Rw:List Int),(Rx:List Int),(Ry:Int),(Rz:Int),_⟩,⟨(Oa:Int),(Ob:Int),(Oc:List (Int × Int × Int × Bool × (List Int) × List Int)),(Od:List Bool),(Oe:List Bool),(Of:Int),(Og:Int),(Oh:Bool),(NG:Int),_⟩,_⟩=> ?_
    show Ae EG (AM.zT (k+1) Ro Rp Rs Rt Ru Rv Rw Rx Ry Rz Oa Ob Oc Od Oe Of Og Oh NG) _;rw[AM.zT];exact go
   exact trivial)
  (λk ⟨⟨AX,Al,Am,Ao,BD,BB,BH,BJ,BE,_⟩,(a1:Int),(a2:(Bool × (List Int) × List Int) × Int × Int),(a3:(Bool × (List Int) × List Int) × Int × Int),(a4:Bool),_⟩=>by show Ae EG (AM.f k AX Al Am Ao BD BB BH BJ BE a1 a2.1.1 a2.1.2.1 a2.1.2.2 a2.2.1 a2.2.2 a3.1.1 a3.1.2.1 a3.1.2.2 a3.2.1 a3.2.2 a4) _;unfold AM.f;exact go)
end
section
attribute [local irreducible] AM.f
def Ed:D0:=⟨[.st 135 [.ty (.int .i64), .ty (.int .i64), .row false 93 (.cons (.int .i64) (.cons (.int .i64) (.cons (.int .i64) (.cons .bool (.cons (.row 73 (.int .u64)) (.row 73 (.int .u64))))))), .ty (.row 4 .bool), .row false 4 .bool, .ty (.int .i64), .ty (.int .i64), .ty .bool, .ty (.int .i64)], .ty (.cons (.cons .bool (.cons (.row 73 (.int .u64)) (.row 73 (.int .u64)))) (.cons (.int .u64) (.int .i64))), .ty (.cons (.cons .bool (.cons (.row 73 (.int .u64)) (.row 73 (.int .u64)))) (.cons (.int .u64) (.int .i64)))],[(.cons (.cons .bool (.cons (.row 73 (.int .u64)) (.row 73 (.int .u64)))) (.cons (.int .u64) (.int .i64)))],λk x=>(D5.f k x.1.1 x.1.2.1 x.1.2.2.1 x.1.2.2.2.1 x.1.2.2.2.2.1 x.1.2.2.2.2.2.1 x.1.2.2.2.2.2.2.1 x.1.2.2.2.2.2.2.2.1 x.1.2.2.2.2.2.2.2.2.1 x.2.1.1.1 x.2.1.1.2.1 x.2.1.1.2.2 x.2.1.2.1 x.2.1.2.2 x.2.2.1.1.1 x.2.2.1.1.2.1 x.2.2.1.1.2.2 x.2.2.1.2.1 x.2.2.1.2.2).map λr=>((((r.1,(r.2.1,r.2.2.1)),(r.2.2.2.1,r.2.2.2.2.1)),()),((r.2.2.2.2.2.1,r.2.2.2.2.2.2.1,r.2.2.2.2.2.2.2.1,r.2.2.2.2.2.2.2.2.1,r.2.2.2.2.2.2.2.2.2.1,r.2.2.2.2.2.2.2.2.2.2.1,r.2.2.2.2.2.2.2.2.2.2.2.1,r.2.2.2.2.2.2.2.2.2.2.2.2.1,r.2.2.2.2.2.2.2.2.2.2.2.2.2,()),()))⟩
def Q5 (r:Bool × List Int × List Int × Int × Int × Int × Int × List (Int × Int × Int × Bool × (List Int) × List Int) × List Bool × List Bool × Int × Int × Bool × Int):TT Ed.rs × ET Ed.ps:=((((r.1,(r.2.1,r.2.2.1)),(r.2.2.2.1,r.2.2.2.2.1)),()),((r.2.2.2.2.2.1,r.2.2.2.2.2.2.1,r.2.2.2.2.2.2.2.1,r.2.2.2.2.2.2.2.2.1,r.2.2.2.2.2.2.2.2.2.1,r.2.2.2.2.2.2.2.2.2.2.1,r.2.2.2.2.2.2.2.2.2.2.2.1,r.2.2.2.2.2.2.2.2.2.2.2.2.1,r.2.2.2.2.2.2.2.2.2.2.2.2.2,()),()))
def aY:Bs (TT Ed.rs × ET Ed.ps):=⟨⟨11,16,[11]⟩,AH [],AH [],AH []⟩
theorem Q0:UB Tryz.prog 97 Ed :=
 FJ (Bt:=AP []) (l:= [(171, .io CQ [(10,14)])]) (C:=aY) (by kernel_rfl) AK ⟨EF,trivial⟩ (fn:=Tryz.f97) (by kernel_rfl) rfl (by kernel_rfl) (by decide) (by kernel_rfl) (m:=16) (by decide) (by decide) (F:=λk x=>D5.f k x.1.1 x.1.2.1 x.1.2.2.1 x.1.2.2.2.1 x.1.2.2.2.2.1 x.1.2.2.2.2.2.1 x.1.2.2.2.2.2.2.1 x.1.2.2.2.2.2.2.2.1 x.1.2.2.2.2.2.2.2.2.1 x.2.1.1.1 x.2.1.1.2.1 x.2.1.1.2.2 x.2.1.2.1 x.2.1.2.2 x.2.2.1.1.1 x.2.2.1.1.2.1 x.2.2.1.1.2.2 x.2.2.1.2.1 x.2.2.1.2.2) (q:=Q5) (λk x=>rfl)
  (by exact trivial)
  (λk ⟨⟨AX,Al,Am,Ao,BD,BB,BH,BJ,BE,_⟩,(a1:(Bool × (List Int) × List Int) × Int × Int),(a2:(Bool × (List Int) × List Int) × Int × Int),_⟩=>by show Ae Q5 (D5.f k AX Al Am Ao BD BB BH BJ BE a1.1.1 a1.1.2.1 a1.1.2.2 a1.2.1 a1.2.2 a2.1.1 a2.1.2.1 a2.1.2.2 a2.2.1 a2.2.2) _;unfold D5.f;exact go)
end
section
attribute [local irreducible] AM.f
def FY:D0:=⟨[.st 135 [.ty (.int .i64), .ty (.int .i64), .row false 93 (.cons (.int .i64) (.cons (.int .i64) (.cons (.int .i64) (.cons .bool (.cons (.row 73 (.int .u64)) (.row 73 (.int .u64))))))), .ty (.row 4 .bool), .row false 4 .bool, .ty (.int .i64), .ty (.int .i64), .ty .bool, .ty (.int .i64)], .ty (.cons (.cons .bool (.cons (.row 73 (.int .u64)) (.row 73 (.int .u64)))) (.cons (.int .u64) (.int .i64))), .ty (.cons (.cons .bool (.cons (.row 73 (.int .u64)) (.row 73 (.int .u64)))) (.cons (.int .u64) (.int .i64)))],[(.cons (.cons .bool (.cons (.row 73 (.int .u64)) (.row 73 (.int .u64)))) (.cons (.int .u64) (.int .i64)))],λk x=>(G2.f k x.1.1 x.1.2.1 x.1.2.2.1 x.1.2.2.2.1 x.1.2.2.2.2.1 x.1.2.2.2.2.2.1 x.1.2.2.2.2.2.2.1 x.1.2.2.2.2.2.2.2.1 x.1.2.2.2.2.2.2.2.2.1 x.2.1.1.1 x.2.1.1.2.1 x.2.1.1.2.2 x.2.1.2.1 x.2.1.2.2 x.2.2.1.1.1 x.2.2.1.1.2.1 x.2.2.1.1.2.2 x.2.2.1.2.1 x.2.2.1.2.2).map λr=>((((r.1,(r.2.1,r.2.2.1)),(r.2.2.2.1,r.2.2.2.2.1)),()),((r.2.2.2.2.2.1,r.2.2.2.2.2.2.1,r.2.2.2.2.2.2.2.1,r.2.2.2.2.2.2.2.2.1,r.2.2.2.2.2.2.2.2.2.1,r.2.2.2.2.2.2.2.2.2.2.1,r.2.2.2.2.2.2.2.2.2.2.2.1,r.2.2.2.2.2.2.2.2.2.2.2.2.1,r.2.2.2.2.2.2.2.2.2.2.2.2.2,()),()))⟩
def Q6 (r:Bool × List Int × List Int × Int × Int × Int × Int × List (Int × Int × Int × Bool × (List Int) × List Int) × List Bool × List Bool × Int × Int × Bool × Int):TT FY.rs × ET FY.ps:=((((r.1,(r.2.1,r.2.2.1)),(r.2.2.2.1,r.2.2.2.2.1)),()),((r.2.2.2.2.2.1,r.2.2.2.2.2.2.1,r.2.2.2.2.2.2.2.1,r.2.2.2.2.2.2.2.2.1,r.2.2.2.2.2.2.2.2.2.1,r.2.2.2.2.2.2.2.2.2.2.1,r.2.2.2.2.2.2.2.2.2.2.2.1,r.2.2.2.2.2.2.2.2.2.2.2.2.1,r.2.2.2.2.2.2.2.2.2.2.2.2.2,()),()))
def aZ:Bs (TT FY.rs × ET FY.ps):=⟨⟨11,16,[11]⟩,AH [],AH [],AH []⟩
theorem aW:UB Tryz.prog 174 FY :=
 FJ (Bt:=AP []) (l:= [(171, .io CQ [(10,14)])]) (C:=aZ) (by kernel_rfl) AK ⟨EF,trivial⟩ (fn:=Tryz.f174) (by kernel_rfl) rfl (by kernel_rfl) (by decide) (by kernel_rfl) (m:=16) (by decide) (by decide) (F:=λk x=>G2.f k x.1.1 x.1.2.1 x.1.2.2.1 x.1.2.2.2.1 x.1.2.2.2.2.1 x.1.2.2.2.2.2.1 x.1.2.2.2.2.2.2.1 x.1.2.2.2.2.2.2.2.1 x.1.2.2.2.2.2.2.2.2.1 x.2.1.1.1 x.2.1.1.2.1 x.2.1.1.2.2 x.2.1.2.1 x.2.1.2.2 x.2.2.1.1.1 x.2.2.1.1.2.1 x.2.2.1.1.2.2 x.2.2.1.2.1 x.2.2.1.2.2) (q:=Q6) (λk x=>rfl)
  (by exact trivial)
  (λk ⟨⟨AX,Al,Am,Ao,BD,BB,BH,BJ,BE,_⟩,(a1:(Bool × (List Int) × List Int) × Int × Int),(a2:(Bool × (List Int) × List Int) × Int × Int),_⟩=>by show Ae Q6 (G2.f k AX Al Am Ao BD BB BH BJ BE a1.1.1 a1.1.2.1 a1.1.2.2 a1.2.1 a1.2.2 a2.1.1 a2.1.2.1 a2.1.2.2 a2.2.1 a2.2.2) _;unfold G2.f;exact go)
end
section
def FR:D0:=⟨[.st 135 [.ty (.int .i64), .ty (.int .i64), .row false 93 (.cons (.int .i64) (.cons (.int .i64) (.cons (.int .i64) (.cons .bool (.cons (.row 73 (.int .u64)) (.row 73 (.int .u64))))))), .ty (.row 4 .bool), .row false 4 .bool, .ty (.int .i64), .ty (.int .i64), .ty .bool, .ty (.int .i64)]],[.int .i64],λk x=>(Ep.f k x.1.1 x.1.2.1 x.1.2.2.1 x.1.2.2.2.1 x.1.2.2.2.2.1 x.1.2.2.2.2.2.1 x.1.2.2.2.2.2.2.1 x.1.2.2.2.2.2.2.2.1 x.1.2.2.2.2.2.2.2.2.1).map λr=>((r.1,()),((r.2.1,r.2.2.1,r.2.2.2.1,r.2.2.2.2.1,r.2.2.2.2.2.1,r.2.2.2.2.2.2.1,r.2.2.2.2.2.2.2.1,r.2.2.2.2.2.2.2.2.1,r.2.2.2.2.2.2.2.2.2,()),()))⟩
def Q7 (r:Int × Int × Int × List (Int × Int × Int × Bool × (List Int) × List Int) × List Bool × List Bool × Int × Int × Bool × Int):TT FR.rs × ET FR.ps:=((r.1,()),((r.2.1,r.2.2.1,r.2.2.2.1,r.2.2.2.2.1,r.2.2.2.2.2.1,r.2.2.2.2.2.2.1,r.2.2.2.2.2.2.2.1,r.2.2.2.2.2.2.2.2.1,r.2.2.2.2.2.2.2.2.2,()),()))
def aa:Bs (TT FR.rs × ET FR.ps):=⟨⟨9,12,[9]⟩,AH [],AH [],AH []⟩
theorem aD:UB Tryz.prog 44 FR :=
 FJ (Bt:=AP []) (l:= []) (C:=aa) (by kernel_rfl) AK trivial (fn:=Tryz.f44) (by kernel_rfl) rfl (by kernel_rfl) (by decide) (by kernel_rfl) (m:=12) (by decide) (by decide) (F:=λk x=>Ep.f k x.1.1 x.1.2.1 x.1.2.2.1 x.1.2.2.2.1 x.1.2.2.2.2.1 x.1.2.2.2.2.2.1 x.1.2.2.2.2.2.2.1 x.1.2.2.2.2.2.2.2.1 x.1.2.2.2.2.2.2.2.2.1) (q:=Q7) (λk x=>rfl)
  (by exact trivial)
  (λk ⟨⟨AX,Al,Am,Ao,BD,BB,BH,BJ,BE,_⟩,_⟩=>by show Ae Q7 (Ep.f k AX Al Am Ao BD BB BH BJ BE) _;unfold Ep.f;exact go)
end
section
attribute [local irreducible] AM.f
def FZ:D0:=⟨[.st 135 [.ty (.int .i64), .ty (.int .i64), .row false 93 (.cons (.int .i64) (.cons (.int .i64) (.cons (.int .i64) (.cons .bool (.cons (.row 73 (.int .u64)) (.row 73 (.int .u64))))))), .ty (.row 4 .bool), .row false 4 .bool, .ty (.int .i64), .ty (.int .i64), .ty .bool, .ty (.int .i64)], .ty (.cons (.cons .bool (.cons (.row 73 (.int .u64)) (.row 73 (.int .u64)))) (.cons (.int .u64) (.int .i64)))],[(.cons (.cons .bool (.cons (.row 73 (.int .u64)) (.row 73 (.int .u64)))) (.cons (.int .u64) (.int .i64)))],λk x=>(G3.f k x.1.1 x.1.2.1 x.1.2.2.1 x.1.2.2.2.1 x.1.2.2.2.2.1 x.1.2.2.2.2.2.1 x.1.2.2.2.2.2.2.1 x.1.2.2.2.2.2.2.2.1 x.1.2.2.2.2.2.2.2.2.1 x.2.1.1.1 x.2.1.1.2.1 x.2.1.1.2.2 x.2.1.2.1 x.2.1.2.2).map λr=>((((r.1,(r.2.1,r.2.2.1)),(r.2.2.2.1,r.2.2.2.2.1)),()),((r.2.2.2.2.2.1,r.2.2.2.2.2.2.1,r.2.2.2.2.2.2.2.1,r.2.2.2.2.2.2.2.2.1,r.2.2.2.2.2.2.2.2.2.1,r.2.2.2.2.2.2.2.2.2.2.1,r.2.2.2.2.2.2.2.2.2.2.2.1,r.2.2.2.2.2.2.2.2.2.2.2.2.1,r.2.2.2.2.2.2.2.2.2.2.2.2.2,()),()))⟩
def Q8 (r:Bool × List Int × List Int × Int × Int × Int × Int × List (Int × Int × Int × Bool × (List Int) × List Int) × List Bool × List Bool × Int × Int × Bool × Int):TT FZ.rs × ET FZ.ps:=((((r.1,(r.2.1,r.2.2.1)),(r.2.2.2.1,r.2.2.2.2.1)),()),((r.2.2.2.2.2.1,r.2.2.2.2.2.2.1,r.2.2.2.2.2.2.2.1,r.2.2.2.2.2.2.2.2.1,r.2.2.2.2.2.2.2.2.2.1,r.2.2.2.2.2.2.2.2.2.2.1,r.2.2.2.2.2.2.2.2.2.2.2.1,r.2.2.2.2.2.2.2.2.2.2.2.2.1,r.2.2.2.2.2.2.2.2.2.2.2.2.2,()),()))
def af:Bs (TT FZ.rs × ET FZ.ps):=⟨⟨9,14,[9]⟩,AH [],AH [],AH []⟩
theorem aX:UB Tryz.prog 176 FZ :=
 FJ (Bt:=AP []) (l:= [(171, .io CQ [(8,12)])]) (C:=af) (by kernel_rfl) AK ⟨EF,trivial⟩ (fn:=Tryz.f176) (by kernel_rfl) rfl (by kernel_rfl) (by decide) (by kernel_rfl) (m:=14) (by decide) (by decide) (F:=λk x=>G3.f k x.1.1 x.1.2.1 x.1.2.2.1 x.1.2.2.2.1 x.1.2.2.2.2.1 x.1.2.2.2.2.2.1 x.1.2.2.2.2.2.2.1 x.1.2.2.2.2.2.2.2.1 x.1.2.2.2.2.2.2.2.2.1 x.2.1.1.1 x.2.1.1.2.1 x.2.1.1.2.2 x.2.1.2.1 x.2.1.2.2) (q:=Q8) (λk x=>rfl)
  (by exact trivial)
  (λk ⟨⟨AX,Al,Am,Ao,BD,BB,BH,BJ,BE,_⟩,(a1:(Bool × (List Int) × List Int) × Int × Int),_⟩=>by show Ae Q8 (G3.f k AX Al Am Ao BD BB BH BJ BE a1.1.1 a1.1.2.1 a1.1.2.2 a1.2.1 a1.2.2) _;unfold G3.f;exact go)
end
section
attribute [local irreducible] Cd.f
def Px:AS:=⟨[(.cons .bool (.cons (.row 73 (.int .u64)) (.row 73 (.int .u64))))],[.int .i64],λk x=>(HZ.f k x.1.1 x.1.2.1 x.1.2.2).map λr=>(r,())⟩
def gm (r:Int):TT Px.rs:=(r,())
theorem fc:DP Tryz.prog 207 Px :=
 Aa (Bt:=AP []) (l:= [(134, .pu FG)]) (C:=Ai) (by kernel_rfl) AK ⟨Gr,trivial⟩ (fn:=Tryz.f207) (by kernel_rfl) rfl (by kernel_rfl) (by decide) (by kernel_rfl) (F:=λk x=>HZ.f k x.1.1 x.1.2.1 x.1.2.2) (m:=gm) (λk x=>rfl)
  (by exact trivial)
  (λk ⟨(a0:Bool × List Int × List Int),_⟩=>by show Ae gm (HZ.f k a0.1 a0.2.1 a0.2.2) _;unfold HZ.f;exact go)
end
section
attribute [local irreducible] I0.f HZ.f
def Yp:AS:=⟨[(.cons .bool (.cons (.row 73 (.int .u64)) (.row 73 (.int .u64)))),(.cons .bool (.cons (.row 73 (.int .u64)) (.row 73 (.int .u64))))],[.int .i64],λk x=>(Pa.f k x.1.1 x.1.2.1 x.1.2.2 x.2.1.1 x.2.1.2.1 x.2.1.2.2).map λr=>(r,())⟩
def lK (r:Int):TT Yp.rs:=(r,())
theorem ABQ:DP Tryz.prog 179 Yp :=
 Aa (Bt:=AP []) (l:= [(113, .pu O0),(207, .pu Px)]) (C:=Ai) (by kernel_rfl) AK ⟨Yi,fc,trivial⟩ (fn:=Tryz.f179) (by kernel_rfl) rfl (by kernel_rfl) (by decide) (by kernel_rfl) (F:=λk x=>Pa.f k x.1.1 x.1.2.1 x.1.2.2 x.2.1.1 x.2.1.2.1 x.2.1.2.2) (m:=lK) (λk x=>rfl)
  (by exact trivial)
  (λk ⟨(a0:Bool × List Int × List Int),(a1:Bool × List Int × List Int),_⟩=>by show Ae lK (Pa.f k a0.1 a0.2.1 a0.2.2 a1.1 a1.2.1 a1.2.2) _;unfold Pa.f;exact go)
end
section
attribute [local irreducible] A8.f
def Dz:D0:=⟨[.st 135 [.ty (.int .i64), .ty (.int .i64), .row false 93 (.cons (.int .i64) (.cons (.int .i64) (.cons (.int .i64) (.cons .bool (.cons (.row 73 (.int .u64)) (.row 73 (.int .u64))))))), .ty (.row 4 .bool), .row false 4 .bool, .ty (.int .i64), .ty (.int .i64), .ty .bool, .ty (.int .i64)]],[.bool],λk x=>(Dv.f k x.1.1 x.1.2.1 x.1.2.2.1 x.1.2.2.2.1 x.1.2.2.2.2.1 x.1.2.2.2.2.2.1 x.1.2.2.2.2.2.2.1 x.1.2.2.2.2.2.2.2.1 x.1.2.2.2.2.2.2.2.2.1).map λr=>((r.1,()),((r.2.1,r.2.2.1,r.2.2.2.1,r.2.2.2.2.1,r.2.2.2.2.2.1,r.2.2.2.2.2.2.1,r.2.2.2.2.2.2.2.1,r.2.2.2.2.2.2.2.2.1,r.2.2.2.2.2.2.2.2.2,()),()))⟩
def Mn (r:Bool × Int × Int × List (Int × Int × Int × Bool × (List Int) × List Int) × List Bool × List Bool × Int × Int × Bool × Int):TT Dz.rs × ET Dz.ps:=((r.1,()),((r.2.1,r.2.2.1,r.2.2.2.1,r.2.2.2.2.1,r.2.2.2.2.2.1,r.2.2.2.2.2.2.1,r.2.2.2.2.2.2.2.1,r.2.2.2.2.2.2.2.2.1,r.2.2.2.2.2.2.2.2.2,()),()))
def Vr:Bs (TT Dz.rs × ET Dz.ps):=⟨⟨33,38,[33]⟩,AH [],AH [],AH []⟩
theorem Vs:UB Tryz.prog 182 Dz :=
 FJ (Bt:=AP [(1,[0,1,3,7,0,16,48,112,240,511]),(5,[0,1,3,7,0,16,48,112,240,511,1023,2047])]) (l:= [(178, .io CP [(14,36)])]) (C:=Vr) (by kernel_rfl) AK ⟨E0,trivial⟩ (fn:=Tryz.f182) (by kernel_rfl) rfl (by kernel_rfl) (by decide) (by kernel_rfl) (m:=38) (by decide) (by decide) (F:=λk x=>Dv.f k x.1.1 x.1.2.1 x.1.2.2.1 x.1.2.2.2.1 x.1.2.2.2.2.1 x.1.2.2.2.2.2.1 x.1.2.2.2.2.2.2.1 x.1.2.2.2.2.2.2.2.1 x.1.2.2.2.2.2.2.2.2.1) (q:=Mn) (λk x=>rfl)
  (by exact trivial)
  (λk ⟨⟨AX,Al,Am,Ao,BD,BB,BH,BJ,BE,_⟩,_⟩=>by show Ae Mn (Dv.f k AX Al Am Ao BD BB BH BJ BE) _;unfold Dv.f;exact go)
end
section
attribute [local irreducible] BV.f A8.f Pa.f EL.f CL.f Dv.f
def E4:D0:=⟨[.st 135 [.ty (.int .i64), .ty (.int .i64), .row false 93 (.cons (.int .i64) (.cons (.int .i64) (.cons (.int .i64) (.cons .bool (.cons (.row 73 (.int .u64)) (.row 73 (.int .u64))))))), .ty (.row 4 .bool), .row false 4 .bool, .ty (.int .i64), .ty (.int .i64), .ty .bool, .ty (.int .i64)], .ty (.cons (.cons .bool (.cons (.row 73 (.int .u64)) (.row 73 (.int .u64)))) (.cons (.int .u64) (.int .i64))), .ty (.cons (.cons .bool (.cons (.row 73 (.int .u64)) (.row 73 (.int .u64)))) (.cons (.int .u64) (.int .i64)))],[.bool],λk x=>(Af.f k x.1.1 x.1.2.1 x.1.2.2.1 x.1.2.2.2.1 x.1.2.2.2.2.1 x.1.2.2.2.2.2.1 x.1.2.2.2.2.2.2.1 x.1.2.2.2.2.2.2.2.1 x.1.2.2.2.2.2.2.2.2.1 x.2.1.1.1 x.2.1.1.2.1 x.2.1.1.2.2 x.2.1.2.1 x.2.1.2.2 x.2.2.1.1.1 x.2.2.1.1.2.1 x.2.2.1.1.2.2 x.2.2.1.2.1 x.2.2.1.2.2).map λr=>((r.1,()),((r.2.1,r.2.2.1,r.2.2.2.1,r.2.2.2.2.1,r.2.2.2.2.2.1,r.2.2.2.2.2.2.1,r.2.2.2.2.2.2.2.1,r.2.2.2.2.2.2.2.2.1,r.2.2.2.2.2.2.2.2.2,()),()))⟩
def E5 (r:Bool × Int × Int × List (Int × Int × Int × Bool × (List Int) × List Int) × List Bool × List Bool × Int × Int × Bool × Int):TT E4.rs × ET E4.ps:=((r.1,()),((r.2.1,r.2.2.1,r.2.2.2.1,r.2.2.2.2.1,r.2.2.2.2.2.1,r.2.2.2.2.2.2.1,r.2.2.2.2.2.2.2.1,r.2.2.2.2.2.2.2.2.1,r.2.2.2.2.2.2.2.2.2,()),()))
@[reducible] def Ju:List Slot:= [.tmp 0 [.ptr 97 0], .tmp 7 [.ty .bool], .DO 97 .kept 135 [.ty (.int .i64), .ty (.int .i64), .own .GF 110 93 (.cons (.int .i64) (.cons (.int .i64) (.cons (.int .i64) (.cons .bool (.cons (.row 73 (.int .u64)) (.row 73 (.int .u64))))))), .ty (.row 4 .bool), .own .GF 111 4 .bool, .ty (.int .i64), .ty (.int .i64), .ty .bool, .ty (.int .i64)]]
def Np (k:Nat) (x:TS Ju):Option (Bool × Int × Int × List (Int × Int × Int × Bool × (List Int) × List Int) × List Bool × List Bool × Int × Int × Bool × Int):=Af.j18 k x.2.1.1 x.2.2.1.1 x.2.2.1.2.1 x.2.2.1.2.2.1 x.2.2.1.2.2.2.1 x.2.2.1.2.2.2.2.1 x.2.2.1.2.2.2.2.2.1 x.2.2.1.2.2.2.2.2.2.1 x.2.2.1.2.2.2.2.2.2.2.1 x.2.2.1.2.2.2.2.2.2.2.2.1
@[reducible] def Jv:List Slot:= [.DO 97 .kept 135 [.ty (.int .i64), .ty (.int .i64), .own .GF 110 93 (.cons (.int .i64) (.cons (.int .i64) (.cons (.int .i64) (.cons .bool (.cons (.row 73 (.int .u64)) (.row 73 (.int .u64))))))), .ty (.row 4 .bool), .own .GF 111 4 .bool, .ty (.int .i64), .ty (.int .i64), .ty .bool, .ty (.int .i64)]]
def Nq (k:Nat) (x:TS Jv):Option (Bool × Int × Int × List (Int × Int × Int × Bool × (List Int) × List Int) × List Bool × List Bool × Int × Int × Bool × Int):=Af.j9 k x.1.1 x.1.2.1 x.1.2.2.1 x.1.2.2.2.1 x.1.2.2.2.2.1 x.1.2.2.2.2.2.1 x.1.2.2.2.2.2.2.1 x.1.2.2.2.2.2.2.2.1 x.1.2.2.2.2.2.2.2.2.1
def Yq:Bs (TT E4.rs × ET E4.ps):=⟨⟨97,112,[97]⟩,AH [],AH [(18,⟨Ju,λk x=>(Np k x).map E5⟩),(9,⟨Jv,λk x=>(Nq k x).map E5⟩)],AH []⟩
theorem Yj:UB Tryz.prog 102 E4 :=
 FJ (Bt:=AP []) (l:= [(168, .io Cl [(10,100)]),(178, .io CP [(18,102)]),(179, .pu Yp),(180, .pu LL),(181, .io Dd [(25,104),(30,106)]),(182, .io Dz [(34,108)])]) (C:=Yq) (by kernel_rfl) AK ⟨HT,E0,ABQ,S5,Na,Vs,trivial⟩ (fn:=Tryz.f102) (by kernel_rfl) rfl (by kernel_rfl) (by decide) (by kernel_rfl) (m:=112) (by decide) (by decide) (F:=λk x=>Af.f k x.1.1 x.1.2.1 x.1.2.2.1 x.1.2.2.2.1 x.1.2.2.2.2.1 x.1.2.2.2.2.2.1 x.1.2.2.2.2.2.2.1 x.1.2.2.2.2.2.2.2.1 x.1.2.2.2.2.2.2.2.2.1 x.2.1.1.1 x.2.1.1.2.1 x.2.1.1.2.2 x.2.1.2.1 x.2.1.2.2 x.2.2.1.1.1 x.2.2.1.1.2.1 x.2.2.1.1.2.2 x.2.2.1.2.1 x.2.2.1.2.2) (q:=E5) (λk x=>rfl)
  (by
   refine And.intro ?_ ?_
   ·refine Be (sl:=Jv) (F:=Nq) (λx=>rfl) λk ⟨⟨(ZB:Int),(ZC:Int),(ZD:List (Int × Int × Int × Bool × (List Int) × List Int)),(ZE:List Bool),(W5:List Bool),(ZF:Int),(ZG:Int),(ZH:Bool),(W6:Int),_⟩,_⟩=> ?_
    show Ae E5 (Af.j9 (k+1) ZB ZC ZD ZE W5 ZF ZG ZH W6) _;rw[Af.j9];exact go
   refine And.intro ?_ ?_
   ·refine Be (sl:=Ju) (F:=Np) (λx=>rfl) λk ⟨_,⟨(x7:Bool),_⟩,⟨(ZB:Int),(ZC:Int),(ZD:List (Int × Int × Int × Bool × (List Int) × List Int)),(ZE:List Bool),(W5:List Bool),(ZF:Int),(ZG:Int),(ZH:Bool),(W6:Int),_⟩,_⟩=> ?_
    show Ae E5 (Af.j18 (k+1) x7 ZB ZC ZD ZE W5 ZF ZG ZH W6) _;rw[Af.j18];exact go
   exact trivial)
  (λk ⟨⟨AX,Al,Am,Ao,BD,BB,BH,BJ,BE,_⟩,(a1:(Bool × (List Int) × List Int) × Int × Int),(a2:(Bool × (List Int) × List Int) × Int × Int),_⟩=>by show Ae E5 (Af.f k AX Al Am Ao BD BB BH BJ BE a1.1.1 a1.1.2.1 a1.1.2.2 a1.2.1 a1.2.2 a2.1.1 a2.1.2.1 a2.1.2.2 a2.2.1 a2.2.2) _;unfold Af.f;exact go)
end
section
attribute [local irreducible] Ig.f Ls.f
def fX:AS:=⟨[.int .i64],[(.cons .bool (.cons (.row 73 (.int .u64)) (.row 73 (.int .u64))))],λk x=>(R0.f k x.1).map λr=>((r.1,r.2.1,r.2.2),())⟩
def uj (r:Bool × List Int × List Int):TT fX.rs:=((r.1,r.2.1,r.2.2),())
theorem AEQ:DP Tryz.prog 62 fX :=
 Aa (Bt:=AP []) (l:= [(117, .pu MP),(118, .pu Tm)]) (C:=Ai) (by kernel_rfl) AK ⟨SH,lB,trivial⟩ (fn:=Tryz.f62) (by kernel_rfl) rfl (by kernel_rfl) (by decide) (by kernel_rfl) (F:=λk x=>R0.f k x.1) (m:=uj) (λk x=>rfl)
  (by exact trivial)
  (λk ⟨(a0:Int),_⟩=>by show Ae uj (R0.f k a0) _;unfold R0.f;exact go)
end
end Go.Proofs.YtjocbnjpjihpnaaGreat.A
