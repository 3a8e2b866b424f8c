/- gradinelaw18_BankActs comes to what its text says. -/
import Derived.Test.YtjocbnjpjihpnaaGreatAAa
import Derived.Test.YtjocbnjpjihpnaaGreatWWc
import Derived.Test.YtjocbnjpjihpnaaGreatFgradinelaw18BankActs
import Derived.Test.YtjocbnjpjihpnaaGreatAAb
import Derived.Test.YtjocbnjpjihpnaaGreatAAc
namespace Go.Proofs.YtjocbnjpjihpnaaGreat.A
open Go.RowKit Go.Proofs.YtjocbnjpjihpnaaGreat.P Go.Proofs.YtjocbnjpjihpnaaGreatW.AH Go.Proofs.YtjocbnjpjihpnaaGreatW.AX Go.Proofs.YtjocbnjpjihpnaaGreatW.Ad Go.Proofs.YtjocbnjpjihpnaaGreatW.Ic
set_option linter.unusedVariables false
set_option linter.unusedSimpArgs false
attribute [local irreducible] J1.f At.f AA.f AD.f FB.f Aw.f IC.f FL.f ID.f Ga.f Dq.f G2.f Ax.f
def G8:AQ:=⟨[.int .i64,(.row 75 (.cons (.int .i64) (.cons (.int .i64) (.cons (.int .i64) (.cons (.int .i64) (.cons (.int .i64) (.int .u64)))))))],[.bool],λk x=>(Ak.f k x.1 x.2.1).map λr=>(r,())⟩
def Eo (r:Bool):TT G8.rs:=(r,())
@[reducible] def Gi:List Slot:= [.tmp 0 [.ty (.int .i64)], .tmp 1 [.ty (.row 75 (.cons (.int .i64) (.cons (.int .i64) (.cons (.int .i64) (.cons (.int .i64) (.cons (.int .i64) (.int .u64)))))))], .tmp 5 [.ptr 11 0], .tmp 6 [.ptr 6 0], .tmp 7 [.ptr 7 0], .tmp 8 [.ptr 8 0], .tmp 42 [.ty (.int .i64)], .tmp 43 [.ty (.int .i64)], .DO 6 .mine 67 [.ty (.int .i64), .ty (.int .i64), .ty (.int .i64), .own .mine 136 4 .bool, .ty .bool], .DO 7 .mine 70 [.own .mine 137 137 (.cons (.cons .bool (.cons (.row 73 (.int .u64)) (.row 73 (.int .u64)))) (.cons (.int .u64) (.int .i64))), .own .mine 138 4 .bool], .DO 8 .mine 70 [.own .mine 139 137 (.cons (.cons .bool (.cons (.row 73 (.int .u64)) (.row 73 (.int .u64)))) (.cons (.int .u64) (.int .i64))), .own .mine 140 4 .bool], .DO 11 .mine 135 [.ty (.int .i64), .ty (.int .i64), .own .mine 141 93 (.cons (.int .i64) (.cons (.int .i64) (.cons (.int .i64) (.cons .bool (.cons (.row 73 (.int .u64)) (.row 73 (.int .u64))))))), .ty (.row 4 .bool), .own .mine 142 4 .bool, .ty (.int .i64), .ty (.int .i64), .ty .bool, .ty (.int .i64)]]
def J9 (k:Nat) (x:TS Gi):Option (Bool):=Ak.l0 k x.1.1 x.2.1.1 x.2.2.2.2.2.2.1.1 x.2.2.2.2.2.2.2.1.1 x.2.2.2.2.2.2.2.2.1.1 x.2.2.2.2.2.2.2.2.1.2.1 x.2.2.2.2.2.2.2.2.1.2.2.1 x.2.2.2.2.2.2.2.2.1.2.2.2.1 x.2.2.2.2.2.2.2.2.1.2.2.2.2.1 x.2.2.2.2.2.2.2.2.2.1.1 x.2.2.2.2.2.2.2.2.2.1.2.1 x.2.2.2.2.2.2.2.2.2.2.1.1 x.2.2.2.2.2.2.2.2.2.2.1.2.1 x.2.2.2.2.2.2.2.2.2.2.2.1.1 x.2.2.2.2.2.2.2.2.2.2.2.1.2.1 x.2.2.2.2.2.2.2.2.2.2.2.1.2.2.1 x.2.2.2.2.2.2.2.2.2.2.2.1.2.2.2.1 x.2.2.2.2.2.2.2.2.2.2.2.1.2.2.2.2.1 x.2.2.2.2.2.2.2.2.2.2.2.1.2.2.2.2.2.1 x.2.2.2.2.2.2.2.2.2.2.2.1.2.2.2.2.2.2.1 x.2.2.2.2.2.2.2.2.2.2.2.1.2.2.2.2.2.2.2.1 x.2.2.2.2.2.2.2.2.2.2.2.1.2.2.2.2.2.2.2.2.1
def QV:Bb (TT G8.rs):=⟨⟨117,143,[]⟩,AE [(0,⟨Gi,λk x=>(J9 k x).map Eo⟩)],AE [],AE []⟩
set_option maxRecDepth 100000 in
set_option maxHeartbeats 4000000 in
theorem QA:Cl Tryz.prog 9 G8 :=
 AEz (mm:=143) (Bt:=AL [(13,[0,1,0,4,15,31,63,127,255,127,639,2047,4095,8191,16383,32767,65535,32767,163839,524287,1048575,2097151,4194303,8388607,4194303,20971519,67108863,134217727,268435455,536870911,1073741823,536870911,2684354559,8589934591,17179869183,34359738367,68719476735,137438953471,68719476735,343597383679,1099511627775,2199023255551,4398046511103])]) (l:= [(38, .np RL),(39, .pu Js),(40, .io Dz [(51,117)]),(41, .io EJ [(56,121)]),(42, .pu RM),(43, .pu GR),(44, .io F5 [(73,124)]),(45, .io Ez [(80,126)]),(46, .io F6 [(87,128)]),(47, .io F7 [(94,130)]),(48, .pu Jt),(49, .io Ff [(105,132)]),(50, .io DM [(110,134)])]) (C:=QV) (by kernel_rfl) AI ⟨ku,WB,WC,Xj,AA9,UH,gF,Ss,gG,gH,WD,bZ,M9,trivial⟩ (fn:=Tryz.f9) (by kernel_rfl) rfl (by kernel_rfl) (by decide) (by kernel_rfl) (F:=λk x=>Ak.f k x.1 x.2.1) (m:=Eo) (λk x=>rfl)
  (by
   refine And.intro ?_ ?_
   ·refine Ap (sl:=Gi) (F:=J9) (λx=>rfl) λk ⟨⟨(x0:Int),_⟩,⟨(x1:List (Int × Int × Int × Int × Int × Int)),_⟩,_,_,_,_,⟨(x42:Int),_⟩,⟨(uR:Int),_⟩,⟨(AKt:Int),(AKu:Int),(AKv:Int),(AKw:List Bool),(AKx:Bool),_⟩,⟨(ADT:List ((Bool × (List Int) × List Int) × Int × Int)),(ADU:List Bool),_⟩,⟨(rN:List ((Bool × (List Int) × List Int) × Int × Int)),(rO:List Bool),_⟩,⟨(Mx:Int),(My:Int),(Mz:List (Int × Int × Int × Bool × (List Int) × List Int)),(M4:List Bool),(M5:List Bool),(ACD:Int),(ACE:Int),(ACF:Bool),(ACG:Int),_⟩,_⟩=> ?_
    show AY Eo (Ak.l0 (k+1) x0 x1 x42 uR AKt AKu AKv AKw AKx ADT ADU rN rO Mx My Mz M4 M5 ACD ACE ACF ACG) _;rw[Ak.l0];exact go
   exact trivial)
  (λk ⟨(a0:Int),(a1:List (Int × Int × Int × Int × Int × Int)),_⟩=>by show AY Eo (Ak.f k a0 a1) _;unfold Ak.f;exact go)
end Go.Proofs.YtjocbnjpjihpnaaGreat.A
