/- Functions that come to what their texts say. -/
import Derived.Test.YtjocbnjpjihpnaaGreatAAa
import Derived.Test.YtjocbnjpjihpnaaGreatWWc
import Derived.Test.YtjocbnjpjihpnaaGreatBB
import Derived.Test.YtjocbnjpjihpnaaGreatAAb
import Derived.Test.YtjocbnjpjihpnaaGreatFgradinelaw18ref
import Derived.Test.YtjocbnjpjihpnaaGreatFgradinelaw18long
namespace Go.Proofs.YtjocbnjpjihpnaaGreat.A
open Go.RowKit Go.Proofs.YtjocbnjpjihpnaaGreat.P Go.Proofs.YtjocbnjpjihpnaaGreatW.AH Go.Proofs.YtjocbnjpjihpnaaGreatW.AX Go.Proofs.YtjocbnjpjihpnaaGreatW.Ad Go.Proofs.YtjocbnjpjihpnaaGreatW.Ic
set_option linter.unusedVariables false
set_option linter.unusedSimpArgs false
set_option maxRecDepth 100000
set_option maxHeartbeats 4000000
section
attribute [local irreducible] Bk.f DY.f Dg.f CL.f G5.f CX.f CV.f EB.f
def Lj:AQ:=⟨[.int .u64, .int .u64],[.int .u64],λk x=>(Ag.f k x.1 x.2.1).map λr=>(r,())⟩
def E0 (r:Int):TT Lj.rs:=(r,())
@[reducible] def UI:List Slot:= [.tmp 0 [.ty (.int .u64)], .tmp 1 [.ty (.int .u64)], .tmp 5 [.ty (.int .i64)], .tmp 6 [.ty (.int .i64)], .tmp 7 [.ty .bool], .tmp 45 [.ty .bool]]
def dN (k:Nat) (x:TS UI):Option (Int):=Ag.j0 k x.1.1 x.2.1.1 x.2.2.1.1 x.2.2.2.1.1 x.2.2.2.2.1.1 x.2.2.2.2.2.1.1
@[reducible] def UJ:List Slot:= [.tmp 0 [.ty (.int .u64)], .tmp 1 [.ty (.int .u64)], .tmp 5 [.ty (.int .i64)], .tmp 6 [.ty (.int .i64)], .tmp 7 [.ty .bool], .tmp 52 [.ty .bool]]
def dO (k:Nat) (x:TS UJ):Option (Int):=Ag.j1 k x.1.1 x.2.1.1 x.2.2.1.1 x.2.2.2.1.1 x.2.2.2.2.1.1 x.2.2.2.2.2.1.1
@[reducible] def UK:List Slot:= [.tmp 0 [.ty (.int .u64)], .tmp 1 [.ty (.int .u64)], .tmp 7 [.ty .bool], .tmp 60 [.ty .bool]]
def dP (k:Nat) (x:TS UK):Option (Int):=Ag.j2 k x.1.1 x.2.1.1 x.2.2.1.1 x.2.2.2.1.1
@[reducible] def UL:List Slot:= [.tmp 7 [.ty .bool], .tmp 8 [.ty (.int .u64)], .tmp 9 [.ty (.int .i64)], .tmp 10 [.ty (.int .u64)], .tmp 11 [.ty (.int .i64)]]
def dQ (k:Nat) (x:TS UL):Option (Int):=Ag.l0 k x.1.1 x.2.1.1 x.2.2.1.1 x.2.2.2.1.1 x.2.2.2.2.1.1
@[reducible] def UM:List Slot:= [.tmp 7 [.ty .bool], .tmp 8 [.ty (.int .u64)], .tmp 9 [.ty (.int .i64)], .tmp 10 [.ty (.int .u64)], .tmp 11 [.ty (.int .i64)]]
def dR (k:Nat) (x:TS UM):Option (Int):=Ag.l1 k x.1.1 x.2.1.1 x.2.2.1.1 x.2.2.2.1.1 x.2.2.2.2.1.1
def ABA:Bb (TT Lj.rs):=⟨⟨104,104,[]⟩,AE [(0,⟨UL,λk x=>(dQ k x).map E0⟩),(1,⟨UM,λk x=>(dR k x).map E0⟩)],AE [],AE [(3,⟨UI,λk x=>(dN k x).map E0⟩),(5,⟨UJ,λk x=>(dO k x).map E0⟩),(7,⟨UK,λk x=>(dP k x).map E0⟩)]⟩
theorem Xk:Cl Tryz.prog 163 Lj :=
 AT (Bt:=AL []) (l:= [(152, .pu Ee),(153, .pu Gj),(154, .pu I7),(155, .pu Gk),(158, .pu MT),(232, .pu Gl),(233, .pu GU),(234, .pu RN)]) (C:=ABA) (by kernel_rfl) AI ⟨GV,I8,Ll,KA,UN,I9,Ja,ABB,trivial⟩ (fn:=Tryz.f163) (by kernel_rfl) rfl (by kernel_rfl) (by decide) (by kernel_rfl) (F:=λk x=>Ag.f k x.1 x.2.1) (m:=E0) (λk x=>rfl)
  (by
   refine And.intro ?_ ?_
   ·refine Al (sl:=UI) (F:=dN) (λx=>rfl) λk ⟨⟨(x0:Int),_⟩,⟨(x1:Int),_⟩,⟨(x5:Int),_⟩,⟨(x6:Int),_⟩,⟨(x7:Bool),_⟩,⟨(x45:Bool),_⟩,_⟩=> ?_
    show AY E0 (Ag.j0 (k+1) x0 x1 x5 x6 x7 x45) _;rw[Ag.j0];exact go
   refine And.intro ?_ ?_
   ·refine Al (sl:=UJ) (F:=dO) (λx=>rfl) λk ⟨⟨(x0:Int),_⟩,⟨(x1:Int),_⟩,⟨(x5:Int),_⟩,⟨(x6:Int),_⟩,⟨(x7:Bool),_⟩,⟨(x52:Bool),_⟩,_⟩=> ?_
    show AY E0 (Ag.j1 (k+1) x0 x1 x5 x6 x7 x52) _;rw[Ag.j1];exact go
   refine And.intro ?_ ?_
   ·refine Al (sl:=UK) (F:=dP) (λx=>rfl) λk ⟨⟨(x0:Int),_⟩,⟨(x1:Int),_⟩,⟨(x7:Bool),_⟩,⟨(x60:Bool),_⟩,_⟩=> ?_
    show AY E0 (Ag.j2 (k+1) x0 x1 x7 x60) _;rw[Ag.j2];exact go
   refine And.intro ?_ ?_
   ·refine Ap (sl:=UL) (F:=dQ) (λx=>rfl) λk ⟨⟨(x7:Bool),_⟩,⟨(x8:Int),_⟩,⟨(x9:Int),_⟩,⟨(Jl:Int),_⟩,⟨(Ik:Int),_⟩,_⟩=> ?_
    show AY E0 (Ag.l0 (k+1) x7 x8 x9 Jl Ik) _;rw[Ag.l0];exact go
   refine And.intro ?_ ?_
   ·refine Ap (sl:=UM) (F:=dR) (λx=>rfl) λk ⟨⟨(x7:Bool),_⟩,⟨(x8:Int),_⟩,⟨(x9:Int),_⟩,⟨(Jl:Int),_⟩,⟨(Ik:Int),_⟩,_⟩=> ?_
    show AY E0 (Ag.l1 (k+1) x7 x8 x9 Jl Ik) _;rw[Ag.l1];exact go
   exact trivial)
  (λk ⟨(a0:Int),(a1:Int),_⟩=>by show AY E0 (Ag.f k a0 a1) _;unfold Ag.f;exact go)
end
section
attribute [local irreducible] BP.f Bx.f Df.f A8.f Cc.f
def O0:AQ:=⟨[(.row 73 (.int .u64))],[(.row 73 (.int .u64))],λk x=>(Dh.f k x.1).map λr=>(r,())⟩
def O1 (r:List Int):TT O0.rs:=(r,())
@[reducible] def RO:List Slot:= [.tmp 0 [.ty (.row 73 (.int .u64))], .tmp 3 [.ty (.row 73 (.int .u64))], .tmp 4 [.ty (.int .i64)]]
def ZP (k:Nat) (x:TS RO):Option (List Int):=Dh.l0 k x.1.1 x.2.1.1 x.2.2.1.1
def yL:Bb (TT O0.rs):=⟨⟨26,26,[]⟩,AE [(0,⟨RO,λk x=>(ZP k x).map O1⟩)],AE [],AE []⟩
theorem yM:Cl Tryz.prog 235 O0 :=
 AT (Bt:=AL []) (l:= [(73, .pu Hu),(75, .pu E3),(124, .pu JA),(188, .pu D4),(228, .pu OB)]) (C:=yL) (by kernel_rfl) AI ⟨Lm,Hv,MU,GX,k9,trivial⟩ (fn:=Tryz.f235) (by kernel_rfl) rfl (by kernel_rfl) (by decide) (by kernel_rfl) (F:=λk x=>Dh.f k x.1) (m:=O1) (λk x=>rfl)
  (by
   refine And.intro ?_ ?_
   ·refine Ap (sl:=RO) (F:=ZP) (λx=>rfl) λk ⟨⟨(x0:List Int),_⟩,⟨(x3:List Int),_⟩,⟨(x4:Int),_⟩,_⟩=> ?_
    show AY O1 (Dh.l0 (k+1) x0 x3 x4) _;rw[Dh.l0];exact go
   exact trivial)
  (λk ⟨(a0:List Int),_⟩=>by show AY O1 (Dh.f k a0) _;unfold Dh.f;exact go)
end
section
attribute [local irreducible] BP.f Bx.f Bk.f DY.f Ac.f G5.f CX.f CV.f Dh.f
def O2:AQ:=⟨[.int .u64],[.int .u64],λk x=>(Bl.f k x.1).map λr=>(r,())⟩
def Ke (r:Int):TT O2.rs:=(r,())
@[reducible] def RP:List Slot:= [.tmp 0 [.ty (.int .u64)], .tmp 3 [.ty (.int .i64)], .tmp 19 [.ty .bool]]
def ZQ (k:Nat) (x:TS RP):Option (Int):=Bl.j0 k x.1.1 x.2.1.1 x.2.2.1.1
@[reducible] def RQ:List Slot:= [.tmp 4 [.ty (.int .u64)], .tmp 5 [.ty (.int .i64)], .tmp 6 [.ty (.int .i64)]]
def ZR (k:Nat) (x:TS RQ):Option (Int):=Bl.j1 k x.1.1 x.2.1.1 x.2.2.1.1
def yN:Bb (TT O2.rs):=⟨⟨54,54,[]⟩,AE [],AE [(12,⟨RQ,λk x=>(ZR k x).map Ke⟩)],AE [(4,⟨RP,λk x=>(ZQ k x).map Ke⟩)]⟩
theorem yO:Cl Tryz.prog 164 O2 :=
 AT (Bt:=AL []) (l:= [(73, .pu Hu),(75, .pu E3),(152, .pu Ee),(153, .pu Gj),(157, .pu Fu),(158, .pu MT),(232, .pu Gl),(233, .pu GU),(235, .pu O0)]) (C:=yN) (by kernel_rfl) AI ⟨Lm,Hv,GV,I8,JB,UN,I9,Ja,yM,trivial⟩ (fn:=Tryz.f164) (by kernel_rfl) rfl (by kernel_rfl) (by decide) (by kernel_rfl) (F:=λk x=>Bl.f k x.1) (m:=Ke) (λk x=>rfl)
  (by
   refine And.intro ?_ ?_
   ·refine Al (sl:=RP) (F:=ZQ) (λx=>rfl) λk ⟨⟨(x0:Int),_⟩,⟨(x3:Int),_⟩,⟨(oa:Bool),_⟩,_⟩=> ?_
    show AY Ke (Bl.j0 (k+1) x0 x3 oa) _;rw[Bl.j0];exact go
   refine And.intro ?_ ?_
   ·refine Al (sl:=RQ) (F:=ZR) (λx=>rfl) λk ⟨⟨(x4:Int),_⟩,⟨(x5:Int),_⟩,⟨(x6:Int),_⟩,_⟩=> ?_
    show AY Ke (Bl.j1 (k+1) x4 x5 x6) _;rw[Bl.j1];exact go
   exact trivial)
  (λk ⟨(a0:Int),_⟩=>by show AY Ke (Bl.f k a0) _;unfold Bl.f;exact go)
end
section
attribute [local irreducible] Bk.f CX.f
def Kf:AQ:=⟨[.int .u64, .int .u64],[.bool],λk x=>(Ba.f k x.1 x.2.1).map λr=>(r,())⟩
def Kg (r:Bool):TT Kf.rs:=(r,())
@[reducible] def RR:List Slot:= [.tmp 0 [.ty (.int .u64)], .tmp 1 [.ty (.int .u64)], .tmp 14 [.ty .bool]]
def ZS (k:Nat) (x:TS RR):Option (Bool):=Ba.j0 k x.1.1 x.2.1.1 x.2.2.1.1
@[reducible] def RT:List Slot:= [.tmp 0 [.ty (.int .u64)], .tmp 1 [.ty (.int .u64)], .tmp 5 [.ty .bool], .tmp 6 [.ty .bool], .tmp 22 [.ty .bool]]
def ZT (k:Nat) (x:TS RT):Option (Bool):=Ba.j1 k x.1.1 x.2.1.1 x.2.2.1.1 x.2.2.2.1.1 x.2.2.2.2.1.1
def yP:Bb (TT Kf.rs):=⟨⟨40,40,[]⟩,AE [],AE [],AE [(1,⟨RR,λk x=>(ZS k x).map Kg⟩),(4,⟨RT,λk x=>(ZT k x).map Kg⟩)]⟩
theorem UO:Cl Tryz.prog 185 Kf :=
 AT (Bt:=AL []) (l:= [(152, .pu Ee),(232, .pu Gl)]) (C:=yP) (by kernel_rfl) AI ⟨GV,I9,trivial⟩ (fn:=Tryz.f185) (by kernel_rfl) rfl (by kernel_rfl) (by decide) (by kernel_rfl) (F:=λk x=>Ba.f k x.1 x.2.1) (m:=Kg) (λk x=>rfl)
  (by
   refine And.intro ?_ ?_
   ·refine Al (sl:=RR) (F:=ZS) (λx=>rfl) λk ⟨⟨(x0:Int),_⟩,⟨(x1:Int),_⟩,⟨(cm:Bool),_⟩,_⟩=> ?_
    show AY Kg (Ba.j0 (k+1) x0 x1 cm) _;rw[Ba.j0];exact go
   refine And.intro ?_ ?_
   ·refine Al (sl:=RT) (F:=ZT) (λx=>rfl) λk ⟨⟨(x0:Int),_⟩,⟨(x1:Int),_⟩,⟨(x5:Bool),_⟩,⟨(x6:Bool),_⟩,⟨(N2:Bool),_⟩,_⟩=> ?_
    show AY Kg (Ba.j1 (k+1) x0 x1 x5 x6 N2) _;rw[Ba.j1];exact go
   exact trivial)
  (λk ⟨(a0:Int),(a1:Int),_⟩=>by show AY Kg (Ba.f k a0 a1) _;unfold Ba.f;exact go)
end
section
attribute [local irreducible] KE.f B6.f
def JC:AQ:=⟨[.int .i64],[.int .u64],λk x=>(C8.f k x.1).map λr=>(r,())⟩
def UP (r:Int):TT JC.rs:=(r,())
theorem OC:Cl Tryz.prog 236 JC :=
 AT (Bt:=AL []) (l:= [(22, .pu QW),(229, .pu Kh)]) (C:=AZ) (by kernel_rfl) AI ⟨bf,QX,trivial⟩ (fn:=Tryz.f236) (by kernel_rfl) rfl (by kernel_rfl) (by decide) (by kernel_rfl) (F:=λk x=>C8.f k x.1) (m:=UP) (λk x=>rfl)
  (by exact trivial)
  (λk ⟨(a0:Int),_⟩=>by show AY UP (C8.f k a0) _;unfold C8.f;exact go)
end
section
attribute [local irreducible] EG.f
def MC:AQ:=⟨[.int .u64],[.bool],λ_ x=>(FO.f x.1).map λr=>(r,())⟩
def Wi (r:Bool):TT MC.rs:=(r,())
theorem Wj:Cl Tryz.prog 259 MC :=
 AT (Bt:=AL []) (l:= [(225, .pu LA)]) (C:=AZ) (by kernel_rfl) AI ⟨RU,trivial⟩ (fn:=Tryz.f259) (by kernel_rfl) rfl (by kernel_rfl) (by decide) (by kernel_rfl) (F:=λk x=>FO.f x.1) (m:=Wi) (λk x=>rfl)
  (by exact trivial)
  (λk ⟨(a0:Int),_⟩=>by show AY Wi (FO.f a0) _;unfold FO.f;exact go)
end
section
attribute [local irreducible] Bx.f CB.f Df.f Ac.f BG.f CX.f CV.f FO.f
def O3:AQ:=⟨[.int .u64],[.int .i64, .bool],λk x=>(CW.f k x.1).map λr=>(r.1,r.2,())⟩
def Ki (r:Int × Bool):TT O3.rs:=(r.1,r.2,())
@[reducible] def RV:List Slot:= [.tmp 0 [.ty (.int .u64)], .tmp 4 [.ty (.int .u64)], .tmp 5 [.ty (.int .i64)], .tmp 6 [.ty (.row 73 (.int .u64))], .tmp 7 [.ty (.int .i64)]]
def ZU (k:Nat) (x:TS RV):Option (Int × Bool):=CW.j0 k x.1.1 x.2.1.1 x.2.2.1.1 x.2.2.2.1.1 x.2.2.2.2.1.1
@[reducible] def RW:List Slot:= [.tmp 0 [.ty (.int .u64)], .tmp 7 [.ty (.int .i64)], .tmp 61 [.ty .bool]]
def ZV (k:Nat) (x:TS RW):Option (Int × Bool):=CW.j1 k x.1.1 x.2.1.1 x.2.2.1.1
def yQ:Bb (TT O3.rs):=⟨⟨69,69,[]⟩,AE [],AE [(10,⟨RV,λk x=>(ZU k x).map Ki⟩)],AE [(13,⟨RW,λk x=>(ZV k x).map Ki⟩)]⟩
theorem yR:Cl Tryz.prog 237 O3 :=
 AT (Bt:=AL []) (l:= [(75, .pu E3),(76, .pu Hw),(124, .pu JA),(157, .pu Fu),(190, .pu KM),(232, .pu Gl),(233, .pu GU),(259, .pu MC)]) (C:=yQ) (by kernel_rfl) AI ⟨Hv,Ln,MU,JB,RX,I9,Ja,Wj,trivial⟩ (fn:=Tryz.f237) (by kernel_rfl) rfl (by kernel_rfl) (by decide) (by kernel_rfl) (F:=λk x=>CW.f k x.1) (m:=Ki) (λk x=>rfl)
  (by
   refine And.intro ?_ ?_
   ·refine Al (sl:=RV) (F:=ZU) (λx=>rfl) λk ⟨⟨(x0:Int),_⟩,⟨(x4:Int),_⟩,⟨(x5:Int),_⟩,⟨(x6:List Int),_⟩,⟨(x7:Int),_⟩,_⟩=> ?_
    show AY Ki (CW.j0 (k+1) x0 x4 x5 x6 x7) _;rw[CW.j0];exact go
   refine And.intro ?_ ?_
   ·refine Al (sl:=RW) (F:=ZV) (λx=>rfl) λk ⟨⟨(x0:Int),_⟩,⟨(x7:Int),_⟩,⟨(x61:Bool),_⟩,_⟩=> ?_
    show AY Ki (CW.j1 (k+1) x0 x7 x61) _;rw[CW.j1];exact go
   exact trivial)
  (λk ⟨(a0:Int),_⟩=>by show AY Ki (CW.f k a0) _;unfold CW.f;exact go)
end
section
attribute [local irreducible] Ag.f C8.f
def Vl:AQ:=⟨[.int .i64],[.int .u64],λk x=>(K2.f k x.1).map λr=>(r,())⟩
def pL (r:Int):TT Vl.rs:=(r,())
theorem pM:Cl Tryz.prog 238 Vl :=
 AT (Bt:=AL []) (l:= [(163, .pu Lj),(236, .pu JC)]) (C:=AZ) (by kernel_rfl) AI ⟨Xk,OC,trivial⟩ (fn:=Tryz.f238) (by kernel_rfl) rfl (by kernel_rfl) (by decide) (by kernel_rfl) (F:=λk x=>K2.f k x.1) (m:=pL) (λk x=>rfl)
  (by exact trivial)
  (λk ⟨(a0:Int),_⟩=>by show AY pL (K2.f k a0) _;unfold K2.f;exact go)
end
section
def Jb:AQ:=⟨[.int .i64],[.int .i64],λk x=>(Bp.f k x.1).map λr=>(r,())⟩
def Jc (r:Int):TT Jb.rs:=(r,())
@[reducible] def LB:List Slot:= [.tmp 3 [.ty (.int .i64)], .tmp 5 [.ty (.int .i64)], .tmp 6 [.ty (.int .i64)]]
def O4 (k:Nat) (x:TS LB):Option (Int):=Bp.l0 k x.1.1 x.2.1.1 x.2.2.1.1
def bh:Bb (TT Jb.rs):=⟨⟨15,15,[]⟩,AE [(0,⟨LB,λk x=>(O4 k x).map Jc⟩)],AE [],AE []⟩
theorem bk:Cl Tryz.prog 239 Jb :=
 AT (Bt:=AL []) (l:= []) (C:=bh) (by kernel_rfl) AI trivial (fn:=Tryz.f239) (by kernel_rfl) rfl (by kernel_rfl) (by decide) (by kernel_rfl) (F:=λk x=>Bp.f k x.1) (m:=Jc) (λk x=>rfl)
  (by
   refine And.intro ?_ ?_
   ·refine Ap (sl:=LB) (F:=O4) (λx=>rfl) λk ⟨⟨(x3:Int),_⟩,⟨(x5:Int),_⟩,⟨(x6:Int),_⟩,_⟩=> ?_
    show AY Jc (Bp.l0 (k+1) x3 x5 x6) _;rw[Bp.l0];exact go
   exact trivial)
  (λk ⟨(a0:Int),_⟩=>by show AY Jc (Bp.f k a0) _;unfold Bp.f;exact go)
end
section
attribute [local irreducible] Ge.f B6.f CX.f CV.f FO.f
def NY:AQ:=⟨[.int .u64, .int .i64],[.int .u64],λk x=>(Fo.f k x.1 x.2.1).map λr=>(r,())⟩
def ZW (r:Int):TT NY.rs:=(r,())
theorem ZX:Cl Tryz.prog 240 NY :=
 AT (Bt:=AL []) (l:= [(89, .pu NZ),(229, .pu Kh),(232, .pu Gl),(233, .pu GU),(259, .pu MC)]) (C:=AZ) (by kernel_rfl) AI ⟨ZY,QX,I9,Ja,Wj,trivial⟩ (fn:=Tryz.f240) (by kernel_rfl) rfl (by kernel_rfl) (by decide) (by kernel_rfl) (F:=λk x=>Fo.f k x.1 x.2.1) (m:=ZW) (λk x=>rfl)
  (by exact trivial)
  (λk ⟨(a0:Int),(a1:Int),_⟩=>by show AY ZW (Fo.f k a0 a1) _;unfold Fo.f;exact go)
end
section
attribute [local irreducible] Bk.f DY.f Dg.f CM.f H9.f BQ.f Ba.f C8.f CW.f K2.f Bp.f Fo.f
def RY:AQ:=⟨[.int .u64],[.int .u64],λk x=>(FF.f k x.1).map λr=>(r,())⟩
def RZ (r:Int):TT RY.rs:=(r,())
@[reducible] def UQ:List Slot:= [.tmp 3 [.ty (.int .i64)], .tmp 6 [.ty (.int .u64)], .tmp 7 [.ty (.int .u64)], .tmp 38 [.ty (.int .i64)]]
def dS (k:Nat) (x:TS UQ):Option (Int):=FF.l0 k x.1.1 x.2.1.1 x.2.2.1.1 x.2.2.2.1.1
def ABC:Bb (TT RY.rs):=⟨⟨53,53,[]⟩,AE [(0,⟨UQ,λk x=>(dS k x).map RZ⟩)],AE [],AE []⟩
theorem ABD:Cl Tryz.prog 165 RY :=
 AT (Bt:=AL []) (l:= [(152, .pu Ee),(153, .pu Gj),(154, .pu I7),(160, .pu KN),(161, .pu OD),(162, .pu Lo),(185, .pu Kf),(236, .pu JC),(237, .pu O3),(238, .pu Vl),(239, .pu Jb),(240, .pu NY)]) (C:=ABC) (by kernel_rfl) AI ⟨GV,I8,Ll,Ra,Xl,Xm,UO,OC,yR,pM,bk,ZX,trivial⟩ (fn:=Tryz.f165) (by kernel_rfl) rfl (by kernel_rfl) (by decide) (by kernel_rfl) (F:=λk x=>FF.f k x.1) (m:=RZ) (λk x=>rfl)
  (by
   refine And.intro ?_ ?_
   ·refine Ap (sl:=UQ) (F:=dS) (λx=>rfl) λk ⟨⟨(x3:Int),_⟩,⟨(x6:Int),_⟩,⟨(x7:Int),_⟩,⟨(x38:Int),_⟩,_⟩=> ?_
    show AY RZ (FF.l0 (k+1) x3 x6 x7 x38) _;rw[FF.l0];exact go
   exact trivial)
  (λk ⟨(a0:Int),_⟩=>by show AY RZ (FF.f k a0) _;unfold FF.f;exact go)
end
section
attribute [local irreducible] Bk.f DY.f Dg.f CM.f H9.f BQ.f Ag.f Ba.f CX.f C8.f K2.f Fo.f
def Rb:AQ:=⟨[.int .u64],[.int .u64],λk x=>(Au.f k x.1).map λr=>(r,())⟩
def E4 (r:Int):TT Rb.rs:=(r,())
@[reducible] def UR:List Slot:= [.tmp 0 [.ty (.int .u64)], .tmp 23 [.ty .bool]]
def dU (k:Nat) (x:TS UR):Option (Int):=Au.j0 k x.1.1 x.2.1.1
@[reducible] def US:List Slot:= [.tmp 3 [.ty (.int .u64)], .tmp 4 [.ty (.int .i64)]]
def dV (k:Nat) (x:TS US):Option (Int):=Au.l0 k x.1.1 x.2.1.1
@[reducible] def UT:List Slot:= [.tmp 3 [.ty (.int .u64)], .tmp 4 [.ty (.int .i64)]]
def dW (k:Nat) (x:TS UT):Option (Int):=Au.l1 k x.1.1 x.2.1.1
@[reducible] def UU:List Slot:= [.tmp 3 [.ty (.int .u64)], .tmp 4 [.ty (.int .i64)]]
def dX (k:Nat) (x:TS UU):Option (Int):=Au.j3 k x.1.1 x.2.1.1
@[reducible] def UW:List Slot:= [.tmp 4 [.ty (.int .i64)], .tmp 6 [.ty (.int .u64)], .tmp 7 [.ty (.int .u64)], .tmp 8 [.ty (.int .u64)], .tmp 59 [.ty (.int .i64)]]
def dY (k:Nat) (x:TS UW):Option (Int):=Au.l2 k x.1.1 x.2.1.1 x.2.2.1.1 x.2.2.2.1.1 x.2.2.2.2.1.1
def ABE:Bb (TT Rb.rs):=⟨⟨93,93,[]⟩,AE [(0,⟨US,λk x=>(dV k x).map E4⟩),(1,⟨UT,λk x=>(dW k x).map E4⟩),(2,⟨UW,λk x=>(dY k x).map E4⟩)],AE [(17,⟨UU,λk x=>(dX k x).map E4⟩)],AE [(3,⟨UR,λk x=>(dU k x).map E4⟩)]⟩
theorem ABF:Cl Tryz.prog 166 Rb :=
 AT (Bt:=AL []) (l:= [(152, .pu Ee),(153, .pu Gj),(154, .pu I7),(160, .pu KN),(161, .pu OD),(162, .pu Lo),(163, .pu Lj),(185, .pu Kf),(232, .pu Gl),(236, .pu JC),(238, .pu Vl),(240, .pu NY)]) (C:=ABE) (by kernel_rfl) AI ⟨GV,I8,Ll,Ra,Xl,Xm,Xk,UO,I9,OC,pM,ZX,trivial⟩ (fn:=Tryz.f166) (by kernel_rfl) rfl (by kernel_rfl) (by decide) (by kernel_rfl) (F:=λk x=>Au.f k x.1) (m:=E4) (λk x=>rfl)
  (by
   refine And.intro ?_ ?_
   ·refine Al (sl:=UR) (F:=dU) (λx=>rfl) λk ⟨⟨(x0:Int),_⟩,⟨(NP:Bool),_⟩,_⟩=> ?_
    show AY E4 (Au.j0 (k+1) x0 NP) _;rw[Au.j0];exact go
   refine And.intro ?_ ?_
   ·refine Ap (sl:=US) (F:=dV) (λx=>rfl) λk ⟨⟨(x3:Int),_⟩,⟨(x4:Int),_⟩,_⟩=> ?_
    show AY E4 (Au.l0 (k+1) x3 x4) _;rw[Au.l0];exact go
   refine And.intro ?_ ?_
   ·refine Ap (sl:=UT) (F:=dW) (λx=>rfl) λk ⟨⟨(x3:Int),_⟩,⟨(x4:Int),_⟩,_⟩=> ?_
    show AY E4 (Au.l1 (k+1) x3 x4) _;rw[Au.l1];exact go
   refine And.intro ?_ ?_
   ·refine Al (sl:=UU) (F:=dX) (λx=>rfl) λk ⟨⟨(x3:Int),_⟩,⟨(x4:Int),_⟩,_⟩=> ?_
    show AY E4 (Au.j3 (k+1) x3 x4) _;rw[Au.j3];exact go
   refine And.intro ?_ ?_
   ·refine Ap (sl:=UW) (F:=dY) (λx=>rfl) λk ⟨⟨(x4:Int),_⟩,⟨(x6:Int),_⟩,⟨(x7:Int),_⟩,⟨(x8:Int),_⟩,⟨(x59:Int),_⟩,_⟩=> ?_
    show AY E4 (Au.l2 (k+1) x4 x6 x7 x8 x59) _;rw[Au.l2];exact go
   exact trivial)
  (λk ⟨(a0:Int),_⟩=>by show AY E4 (Au.f k a0) _;unfold Au.f;exact go)
end
section
attribute [local irreducible] IL.f CM.f H9.f BQ.f Ag.f Bl.f FF.f Au.f
def Pq:AQ:=⟨[.int .i64, .int .u64, .int .u64],[.int .u64],λk x=>(Iw.f k x.1 x.2.1 x.2.2.1).map λr=>(r,())⟩
def Wk (r:Int):TT Pq.rs:=(r,())
theorem nY:Cl Tryz.prog 91 Pq :=
 AT (Bt:=AL []) (l:= [(159, .pu O5),(160, .pu KN),(161, .pu OD),(162, .pu Lo),(163, .pu Lj),(164, .pu O2),(165, .pu RY),(166, .pu Rb)]) (C:=AZ) (by kernel_rfl) AI ⟨dZ,Ra,Xl,Xm,Xk,yO,ABD,ABF,trivial⟩ (fn:=Tryz.f91) (by kernel_rfl) rfl (by kernel_rfl) (by decide) (by kernel_rfl) (F:=λk x=>Iw.f k x.1 x.2.1 x.2.2.1) (m:=Wk) (λk x=>rfl)
  (by exact trivial)
  (λk ⟨(a0:Int),(a1:Int),(a2:Int),_⟩=>by show AY Wk (Iw.f k a0 a1 a2) _;unfold Iw.f;exact go)
end
section
attribute [local irreducible] Cw.f BP.f Cz.f Bx.f CB.f
def Rc:AQ:=⟨[(.cons .bool (.cons (.row 73 (.int .u64)) (.row 73 (.int .u64)))),(.cons .bool (.cons (.row 73 (.int .u64)) (.row 73 (.int .u64))))],[(.cons .bool (.cons (.row 73 (.int .u64)) (.row 73 (.int .u64))))],λk x=>(J5.f k x.1.1 x.1.2.1 x.1.2.2 x.2.1.1 x.2.1.2.1 x.2.1.2.2).map λr=>((r.1,r.2.1,r.2.2),())⟩
def lB (r:Bool × List Int × List Int):TT Rc.rs:=((r.1,r.2.1,r.2.2),())
theorem lC:Cl Tryz.prog 23 Rc :=
 AT (Bt:=AL [(5,[0,1,0,0,12,0,63,127]),(7,[0,1,0,0,12,0,63,127]),(8,[0,1,0,0,12,0,63,127])]) (l:= [(72, .pu JD),(73, .pu Hu),(74, .pu KO),(75, .pu E3),(76, .pu Hw)]) (C:=AZ) (by kernel_rfl) AI ⟨MV,Lm,Rf,Hv,Ln,trivial⟩ (fn:=Tryz.f23) (by kernel_rfl) rfl (by kernel_rfl) (by decide) (by kernel_rfl) (F:=λk x=>J5.f k x.1.1 x.1.2.1 x.1.2.2 x.2.1.1 x.2.1.2.1 x.2.1.2.2) (m:=lB) (λk x=>rfl)
  (by exact trivial)
  (λk ⟨(a0:Bool × List Int × List Int),(a1:Bool × List Int × List Int),_⟩=>by show AY lB (J5.f k a0.1 a0.2.1 a0.2.2 a1.1 a1.2.1 a1.2.2) _;unfold J5.f;exact go)
end
section
attribute [local irreducible] Cw.f BP.f
def Xn:AQ:=⟨[(.cons .bool (.cons (.row 73 (.int .u64)) (.row 73 (.int .u64)))),(.cons .bool (.cons (.row 73 (.int .u64)) (.row 73 (.int .u64))))],[(.cons .bool (.cons (.row 73 (.int .u64)) (.row 73 (.int .u64))))],λk x=>(MN.f k x.1.1 x.1.2.1 x.1.2.2 x.2.1.1 x.2.1.2.1 x.2.1.2.2).map λr=>((r.1,r.2.1,r.2.2),())⟩
def lD (r:Bool × List Int × List Int):TT Xn.rs:=((r.1,r.2.1,r.2.2),())
theorem ABG:Cl Tryz.prog 24 Xn :=
 AT (Bt:=AL [(1,[0,1,0,4,15,0,32,0,128,480,0,1024,0,4096,16352,32767,65535])]) (l:= [(72, .pu JD),(73, .pu Hu)]) (C:=AZ) (by kernel_rfl) AI ⟨MV,Lm,trivial⟩ (fn:=Tryz.f24) (by kernel_rfl) rfl (by kernel_rfl) (by decide) (by kernel_rfl) (F:=λk x=>MN.f k x.1.1 x.1.2.1 x.1.2.2 x.2.1.1 x.2.1.2.1 x.2.1.2.2) (m:=lD) (λk x=>rfl)
  (by exact trivial)
  (λk ⟨(a0:Bool × List Int × List Int),(a1:Bool × List Int × List Int),_⟩=>by show AY lD (MN.f k a0.1 a0.2.1 a0.2.2 a1.1 a1.2.1 a1.2.2) _;unfold MN.f;exact go)
end
section
attribute [local irreducible] Cw.f
def Rg:AQ:=⟨[(.cons .bool (.cons (.row 73 (.int .u64)) (.row 73 (.int .u64))))],[(.cons .bool (.cons (.row 73 (.int .u64)) (.row 73 (.int .u64))))],λk x=>(J6.f k x.1.1 x.1.2.1 x.1.2.2).map λr=>((r.1,r.2.1,r.2.2),())⟩
def lF (r:Bool × List Int × List Int):TT Rg.rs:=((r.1,r.2.1,r.2.2),())
theorem lG:Cl Tryz.prog 121 Rg :=
 AT (Bt:=AL []) (l:= [(72, .pu JD)]) (C:=AZ) (by kernel_rfl) AI ⟨MV,trivial⟩ (fn:=Tryz.f121) (by kernel_rfl) rfl (by kernel_rfl) (by decide) (by kernel_rfl) (F:=λk x=>J6.f k x.1.1 x.1.2.1 x.1.2.2) (m:=lF) (λk x=>rfl)
  (by exact trivial)
  (λk ⟨(a0:Bool × List Int × List Int),_⟩=>by show AY lF (J6.f k a0.1 a0.2.1 a0.2.2) _;unfold J6.f;exact go)
end
section
attribute [local irreducible] J5.f J6.f
def Rh:AQ:=⟨[(.cons .bool (.cons (.row 73 (.int .u64)) (.row 73 (.int .u64)))),(.cons .bool (.cons (.row 73 (.int .u64)) (.row 73 (.int .u64))))],[(.cons .bool (.cons (.row 73 (.int .u64)) (.row 73 (.int .u64))))],λk x=>(J7.f k x.1.1 x.1.2.1 x.1.2.2 x.2.1.1 x.2.1.2.1 x.2.1.2.2).map λr=>((r.1,r.2.1,r.2.2),())⟩
def lH (r:Bool × List Int × List Int):TT Rh.rs:=((r.1,r.2.1,r.2.2),())
theorem lI:Cl Tryz.prog 122 Rh :=
 AT (Bt:=AL [(1,[0,0,2,7,15])]) (l:= [(23, .pu Rc),(121, .pu Rg)]) (C:=AZ) (by kernel_rfl) AI ⟨lC,lG,trivial⟩ (fn:=Tryz.f122) (by kernel_rfl) rfl (by kernel_rfl) (by decide) (by kernel_rfl) (F:=λk x=>J7.f k x.1.1 x.1.2.1 x.1.2.2 x.2.1.1 x.2.1.2.1 x.2.1.2.2) (m:=lH) (λk x=>rfl)
  (by exact trivial)
  (λk ⟨(a0:Bool × List Int × List Int),(a1:Bool × List Int × List Int),_⟩=>by show AY lH (J7.f k a0.1 a0.2.1 a0.2.2 a1.1 a1.2.1 a1.2.2) _;unfold J7.f;exact go)
end
section
attribute [local irreducible] J5.f MN.f J4.f J6.f J7.f G6.f
def G9:DU:=⟨[.st 67 [.ty (.int .i64), .ty (.int .i64), .ty (.int .i64), .row false 4 .bool, .ty .bool], .ty (.int .i64), .ty (.cons .bool (.cons (.row 73 (.int .u64)) (.row 73 (.int .u64)))), .ty (.cons .bool (.cons (.row 73 (.int .u64)) (.row 73 (.int .u64))))],[(.cons .bool (.cons (.row 73 (.int .u64)) (.row 73 (.int .u64))))],λk x=>(Hi.f k x.1.1 x.1.2.1 x.1.2.2.1 x.1.2.2.2.1 x.1.2.2.2.2.1 x.2.1 x.2.2.1.1 x.2.2.1.2.1 x.2.2.1.2.2 x.2.2.2.1.1 x.2.2.2.1.2.1 x.2.2.2.1.2.2).map λr=>(((r.1,(r.2.1,r.2.2.1)),()),((r.2.2.2.1,r.2.2.2.2.1,r.2.2.2.2.2.1,r.2.2.2.2.2.2.1,r.2.2.2.2.2.2.2,()),()))⟩
def UX (r:Bool × List Int × List Int × Int × Int × Int × List Bool × Bool):TT G9.rs × ET G9.ps:=(((r.1,(r.2.1,r.2.2.1)),()),((r.2.2.2.1,r.2.2.2.2.1,r.2.2.2.2.2.1,r.2.2.2.2.2.2.1,r.2.2.2.2.2.2.2,()),()))
def lJ:Bb (TT G9.rs × ET G9.ps):=⟨⟨43,45,[43]⟩,AE [],AE [],AE []⟩
theorem lK:Qx Tryz.prog 184 G9 :=
 D7 (Bt:=AL []) (l:= [(23, .pu Rc),(24, .pu Xn),(53, .pu Ri),(121, .pu Rg),(122, .pu Rh),(123, .pu O6)]) (C:=lJ) (by kernel_rfl) AI ⟨lC,ABG,lM,lG,lI,dc,trivial⟩ (fn:=Tryz.f184) (by kernel_rfl) rfl (by kernel_rfl) (by decide) (by kernel_rfl) (m:=45) (by decide) (by decide) (F:=λk x=>Hi.f k x.1.1 x.1.2.1 x.1.2.2.1 x.1.2.2.2.1 x.1.2.2.2.2.1 x.2.1 x.2.2.1.1 x.2.2.1.2.1 x.2.2.1.2.2 x.2.2.2.1.1 x.2.2.2.1.2.1 x.2.2.2.1.2.2) (q:=UX) (λk x=>rfl)
  (by exact trivial)
  (λk ⟨⟨Ab,Ae,Af,Ah,Ai,_⟩,(a1:Int),(a2:Bool × (List Int) × List Int),(a3:Bool × (List Int) × List Int),_⟩=>by show AY UX (Hi.f k Ab Ae Af Ah Ai a1 a2.1 a2.2.1 a2.2.2 a3.1 a3.2.1 a3.2.2) _;unfold Hi.f;exact go)
end
section
attribute [local irreducible] Iw.f Hi.f
def Kj:DU:=⟨[.st 67 [.ty (.int .i64), .ty (.int .i64), .ty (.int .i64), .row false 4 .bool, .ty .bool], .ty (.int .i64), .ty (.cons (.cons .bool (.cons (.row 73 (.int .u64)) (.row 73 (.int .u64)))) (.cons (.int .u64) (.int .i64))), .ty (.cons (.cons .bool (.cons (.row 73 (.int .u64)) (.row 73 (.int .u64)))) (.cons (.int .u64) (.int .i64)))],[(.cons (.cons .bool (.cons (.row 73 (.int .u64)) (.row 73 (.int .u64)))) (.cons (.int .u64) (.int .i64)))],λk x=>(DT.f k x.1.1 x.1.2.1 x.1.2.2.1 x.1.2.2.2.1 x.1.2.2.2.2.1 x.2.1 x.2.2.1.1.1 x.2.2.1.1.2.1 x.2.2.1.1.2.2 x.2.2.1.2.1 x.2.2.1.2.2 x.2.2.2.1.1.1 x.2.2.2.1.1.2.1 x.2.2.2.1.1.2.2 x.2.2.2.1.2.1 x.2.2.2.1.2.2).map λr=>((((r.1,(r.2.1,r.2.2.1)),(r.2.2.2.1,r.2.2.2.2.1)),()),((r.2.2.2.2.2.1,r.2.2.2.2.2.2.1,r.2.2.2.2.2.2.2.1,r.2.2.2.2.2.2.2.2.1,r.2.2.2.2.2.2.2.2.2,()),()))⟩
def O7 (r:Bool × List Int × List Int × Int × Int × Int × Int × Int × List Bool × Bool):TT Kj.rs × ET Kj.ps:=((((r.1,(r.2.1,r.2.2.1)),(r.2.2.2.1,r.2.2.2.2.1)),()),((r.2.2.2.2.2.1,r.2.2.2.2.2.2.1,r.2.2.2.2.2.2.2.1,r.2.2.2.2.2.2.2.2.1,r.2.2.2.2.2.2.2.2.2,()),()))
@[reducible] def Rj:List Slot:= [.tmp 0 [.ptr 50 0], .tmp 8 [.ptr 8 0], .tmp 9 [.ptr 9 0], .DO 8 .mine 137 [.ty .bool, .own .mine 53 73 (.int .u64), .own .mine 54 73 (.int .u64), .ty (.int .u64), .ty (.int .i64)], .DO 9 .mine 137 [.ty .bool, .ty (.row 73 (.int .u64)), .ty (.row 73 (.int .u64)), .ty (.int .u64), .ty (.int .i64)], .DO 50 .kept 67 [.ty (.int .i64), .ty (.int .i64), .ty (.int .i64), .own .Dn 55 4 .bool, .ty .bool]]
def ZZ (k:Nat) (x:TS Rj):Option (Bool × List Int × List Int × Int × Int × Int × Int × Int × List Bool × Bool):=DT.j7 k x.2.2.2.1.1 x.2.2.2.1.2.1 x.2.2.2.1.2.2.1 x.2.2.2.1.2.2.2.1 x.2.2.2.1.2.2.2.2.1 x.2.2.2.2.1.1 x.2.2.2.2.1.2.1 x.2.2.2.2.1.2.2.1 x.2.2.2.2.1.2.2.2.1 x.2.2.2.2.1.2.2.2.2.1 x.2.2.2.2.2.1.1 x.2.2.2.2.2.1.2.1 x.2.2.2.2.2.1.2.2.1 x.2.2.2.2.2.1.2.2.2.1 x.2.2.2.2.2.1.2.2.2.2.1
def yS:Bb (TT Kj.rs × ET Kj.ps):=⟨⟨50,58,[50]⟩,AE [],AE [(7,⟨Rj,λk x=>(ZZ k x).map O7⟩)],AE []⟩
theorem yT:Qx Tryz.prog 105 Kj :=
 D7 (Bt:=AL []) (l:= [(91, .pu Pq),(184, .io G9 [(35,52)])]) (C:=yS) (by kernel_rfl) AI ⟨nY,lK,trivial⟩ (fn:=Tryz.f105) (by kernel_rfl) rfl (by kernel_rfl) (by decide) (by kernel_rfl) (m:=58) (by decide) (by decide) (F:=λk x=>DT.f k x.1.1 x.1.2.1 x.1.2.2.1 x.1.2.2.2.1 x.1.2.2.2.2.1 x.2.1 x.2.2.1.1.1 x.2.2.1.1.2.1 x.2.2.1.1.2.2 x.2.2.1.2.1 x.2.2.1.2.2 x.2.2.2.1.1.1 x.2.2.2.1.1.2.1 x.2.2.2.1.1.2.2 x.2.2.2.1.2.1 x.2.2.2.1.2.2) (q:=O7) (λk x=>rfl)
  (by
   refine And.intro ?_ ?_
   ·refine Al (sl:=Rj) (F:=ZZ) (λx=>rfl) λk ⟨_,_,_,⟨(rN:Bool),(rO:List Int),(AFw:List Int),(AFx:Int),(ADX:Int),_⟩,⟨(AIU:Bool),(AIV:List Int),(AIW:List Int),(AIX:Int),(AIY:Int),_⟩,⟨(ACb:Int),(wR:Int),(ACc:Int),(ACd:List Bool),(ACe:Bool),_⟩,_⟩=> ?_
    show AY O7 (DT.j7 (k+1) rN rO AFw AFx ADX AIU AIV AIW AIX AIY ACb wR ACc ACd ACe) _;rw[DT.j7];exact go
   exact trivial)
  (λk ⟨⟨Ab,Ae,Af,Ah,Ai,_⟩,(a1:Int),(a2:(Bool × (List Int) × List Int) × Int × Int),(a3:(Bool × (List Int) × List Int) × Int × Int),_⟩=>by show AY O7 (DT.f k Ab Ae Af Ah Ai a1 a2.1.1 a2.1.2.1 a2.1.2.2 a2.2.1 a2.2.2 a3.1.1 a3.1.2.1 a3.1.2.2 a3.2.1 a3.2.2) _;unfold DT.f;exact go)
end
section
def UY:AQ:=⟨[(.cons .bool (.cons (.row 73 (.int .u64)) (.row 73 (.int .u64))))],[.int .i64],λ_ x=>(KY.f x.1.1 x.1.2.1 x.1.2.2).map λr=>(r,())⟩
def dh (r:Int):TT UY.rs:=(r,())
theorem yU:Cl Tryz.prog 245 UY :=
 AT (Bt:=AL []) (l:= []) (C:=AZ) (by kernel_rfl) AI trivial (fn:=Tryz.f245) (by kernel_rfl) rfl (by kernel_rfl) (by decide) (by kernel_rfl) (F:=λk x=>KY.f x.1.1 x.1.2.1 x.1.2.2) (m:=dh) (λk x=>rfl)
  (by exact trivial)
  (λk ⟨(a0:Bool × List Int × List Int),_⟩=>by show AY dh (KY.f a0.1 a0.2.1 a0.2.2) _;unfold KY.f;exact go)
end
section
attribute [local irreducible] J7.f KY.f
def Xo:AQ:=⟨[(.cons .bool (.cons (.row 73 (.int .u64)) (.row 73 (.int .u64)))),(.cons .bool (.cons (.row 73 (.int .u64)) (.row 73 (.int .u64))))],[.int .i64],λk x=>(N4.f k x.1.1 x.1.2.1 x.1.2.2 x.2.1.1 x.2.1.2.1 x.2.1.2.2).map λr=>(r,())⟩
def lO (r:Int):TT Xo.rs:=(r,())
theorem ABH:Cl Tryz.prog 186 Xo :=
 AT (Bt:=AL []) (l:= [(122, .pu Rh),(245, .pu UY)]) (C:=AZ) (by kernel_rfl) AI ⟨lI,yU,trivial⟩ (fn:=Tryz.f186) (by kernel_rfl) rfl (by kernel_rfl) (by decide) (by kernel_rfl) (F:=λk x=>N4.f k x.1.1 x.1.2.1 x.1.2.2 x.2.1.1 x.2.1.2.1 x.2.1.2.2) (m:=lO) (λk x=>rfl)
  (by exact trivial)
  (λk ⟨(a0:Bool × List Int × List Int),(a1:Bool × List Int × List Int),_⟩=>by show AY lO (N4.f k a0.1 a0.2.1 a0.2.2 a1.1 a1.2.1 a1.2.2) _;unfold N4.f;exact go)
end
section
attribute [local irreducible] Ba.f N4.f
def IP:DU:=⟨[.st 67 [.ty (.int .i64), .ty (.int .i64), .ty (.int .i64), .row false 4 .bool, .ty .bool], .ty (.cons (.cons .bool (.cons (.row 73 (.int .u64)) (.row 73 (.int .u64)))) (.cons (.int .u64) (.int .i64))), .ty (.cons (.cons .bool (.cons (.row 73 (.int .u64)) (.row 73 (.int .u64)))) (.cons (.int .u64) (.int .i64)))],[.bool],λk x=>(BZ.f k x.1.1 x.1.2.1 x.1.2.2.1 x.1.2.2.2.1 x.1.2.2.2.2.1 x.2.1.1.1 x.2.1.1.2.1 x.2.1.1.2.2 x.2.1.2.1 x.2.1.2.2 x.2.2.1.1.1 x.2.2.1.1.2.1 x.2.2.1.1.2.2 x.2.2.1.2.1 x.2.2.1.2.2).map λr=>((r.1,()),((r.2.1,r.2.2.1,r.2.2.2.1,r.2.2.2.2.1,r.2.2.2.2.2,()),()))⟩
def IQ (r:Bool × Int × Int × Int × List Bool × Bool):TT IP.rs × ET IP.ps:=((r.1,()),((r.2.1,r.2.2.1,r.2.2.2.1,r.2.2.2.2.1,r.2.2.2.2.2,()),()))
@[reducible] def OE:List Slot:= [.tmp 0 [.ptr 74 0], .tmp 7 [.ty .bool], .tmp 8 [.ty .bool], .DO 74 .kept 67 [.ty (.int .i64), .ty (.int .i64), .ty (.int .i64), .own .Dn 76 4 .bool, .ty .bool]]
def UZ (k:Nat) (x:TS OE):Option (Bool × Int × Int × Int × List Bool × Bool):=BZ.j10 k x.2.1.1 x.2.2.1.1 x.2.2.2.1.1 x.2.2.2.1.2.1 x.2.2.2.1.2.2.1 x.2.2.2.1.2.2.2.1 x.2.2.2.1.2.2.2.2.1
@[reducible] def OG:List Slot:= [.tmp 0 [.ptr 74 0], .tmp 7 [.ty .bool], .DO 74 .kept 67 [.ty (.int .i64), .ty (.int .i64), .ty (.int .i64), .own .Dn 76 4 .bool, .ty .bool]]
def Ua (k:Nat) (x:TS OG):Option (Bool × Int × Int × Int × List Bool × Bool):=BZ.j11 k x.2.1.1 x.2.2.1.1 x.2.2.1.2.1 x.2.2.1.2.2.1 x.2.2.1.2.2.2.1 x.2.2.1.2.2.2.2.1
def nZ:Bb (TT IP.rs × ET IP.ps):=⟨⟨74,77,[74]⟩,AE [],AE [(10,⟨OE,λk x=>(UZ k x).map IQ⟩),(11,⟨OG,λk x=>(Ua k x).map IQ⟩)],AE []⟩
theorem ng:Qx Tryz.prog 106 IP :=
 D7 (Bt:=AL [(6,[0,1,0,4,15,0,32,0,128,511,1023,2047])]) (l:= [(185, .pu Kf),(186, .pu Xo)]) (C:=nZ) (by kernel_rfl) AI ⟨UO,ABH,trivial⟩ (fn:=Tryz.f106) (by kernel_rfl) rfl (by kernel_rfl) (by decide) (by kernel_rfl) (m:=77) (by decide) (by decide) (F:=λk x=>BZ.f k x.1.1 x.1.2.1 x.1.2.2.1 x.1.2.2.2.1 x.1.2.2.2.2.1 x.2.1.1.1 x.2.1.1.2.1 x.2.1.1.2.2 x.2.1.2.1 x.2.1.2.2 x.2.2.1.1.1 x.2.2.1.1.2.1 x.2.2.1.1.2.2 x.2.2.1.2.1 x.2.2.1.2.2) (q:=IQ) (λk x=>rfl)
  (by
   refine And.intro ?_ ?_
   ·refine Al (sl:=OE) (F:=UZ) (λx=>rfl) λk ⟨_,⟨(x7:Bool),_⟩,⟨(x8:Bool),_⟩,⟨(Ys:Int),(Yt:Int),(Yu:Int),(WQ:List Bool),(j6:Bool),_⟩,_⟩=> ?_
    show AY IQ (BZ.j10 (k+1) x7 x8 Ys Yt Yu WQ j6) _;rw[BZ.j10];exact go
   refine And.intro ?_ ?_
   ·refine Al (sl:=OG) (F:=Ua) (λx=>rfl) λk ⟨_,⟨(x7:Bool),_⟩,⟨(Ys:Int),(Yt:Int),(Yu:Int),(WQ:List Bool),(j6:Bool),_⟩,_⟩=> ?_
    show AY IQ (BZ.j11 (k+1) x7 Ys Yt Yu WQ j6) _;rw[BZ.j11];exact go
   exact trivial)
  (λk ⟨⟨Ab,Ae,Af,Ah,Ai,_⟩,(a1:(Bool × (List Int) × List Int) × Int × Int),(a2:(Bool × (List Int) × List Int) × Int × Int),_⟩=>by show AY IQ (BZ.f k Ab Ae Af Ah Ai a1.1.1 a1.1.2.1 a1.1.2.2 a1.2.1 a1.2.2 a2.1.1 a2.1.2.1 a2.1.2.2 a2.2.1 a2.2.2) _;unfold BZ.f;exact go)
end
section
attribute [local irreducible] AU.f Iu.f Iv.f DT.f BZ.f
def EJ:DU:=⟨[.st 67 [.ty (.int .i64), .ty (.int .i64), .ty (.int .i64), .row false 4 .bool, .ty .bool], .st 70 [.row false 137 (.cons (.cons .bool (.cons (.row 73 (.int .u64)) (.row 73 (.int .u64)))) (.cons (.int .u64) (.int .i64))), .row false 4 .bool], .ty (.cons (.int .i64) (.cons (.int .i64) (.cons (.int .i64) (.cons (.int .i64) (.cons (.int .i64) (.int .u64))))))],[],λk x=>(AD.f k x.1.1 x.1.2.1 x.1.2.2.1 x.1.2.2.2.1 x.1.2.2.2.2.1 x.2.1.1 x.2.1.2.1 x.2.2.1.1 x.2.2.1.2.1 x.2.2.1.2.2.1 x.2.2.1.2.2.2.1 x.2.2.1.2.2.2.2.1 x.2.2.1.2.2.2.2.2).map λr=>((()),((r.1,r.2.1,r.2.2.1,r.2.2.2.1,r.2.2.2.2.1,()),(r.2.2.2.2.2.1,r.2.2.2.2.2.2,()),()))⟩
def Bw (r:Int × Int × Int × List Bool × Bool × List ((Bool × (List Int) × List Int) × Int × Int) × List Bool):TT EJ.rs × ET EJ.ps:=((()),((r.1,r.2.1,r.2.2.1,r.2.2.2.1,r.2.2.2.2.1,()),(r.2.2.2.2.2.1,r.2.2.2.2.2.2,()),()))
@[reducible] def Ju:List Slot:= [.tmp 0 [.ptr 146 0], .tmp 1 [.ptr 148 0], .tmp 5 [.ptr 5 0], .tmp 6 [.ty .bool], .DO 5 .mine 75 [.ty (.int .i64), .ty (.int .i64), .ty (.int .i64), .ty (.int .i64), .ty (.int .i64), .ty (.int .u64)], .DO 146 .kept 67 [.ty (.int .i64), .ty (.int .i64), .ty (.int .i64), .own .Dn 155 4 .bool, .ty .bool], .DO 148 .kept 70 [.own .Dn 156 137 (.cons (.cons .bool (.cons (.row 73 (.int .u64)) (.row 73 (.int .u64)))) (.cons (.int .u64) (.int .i64))), .own .Dn 157 4 .bool]]
def NA (k:Nat) (x:TS Ju):Option (Int × Int × Int × List Bool × Bool × List ((Bool × (List Int) × List Int) × Int × Int) × List Bool):=AD.j2 k x.2.2.2.1.1 x.2.2.2.2.1.1 x.2.2.2.2.1.2.1 x.2.2.2.2.1.2.2.1 x.2.2.2.2.1.2.2.2.1 x.2.2.2.2.1.2.2.2.2.1 x.2.2.2.2.1.2.2.2.2.2.1 x.2.2.2.2.2.1.1 x.2.2.2.2.2.1.2.1 x.2.2.2.2.2.1.2.2.1 x.2.2.2.2.2.1.2.2.2.1 x.2.2.2.2.2.1.2.2.2.2.1 x.2.2.2.2.2.2.1.1 x.2.2.2.2.2.2.1.2.1
@[reducible] def Jv:List Slot:= [.tmp 0 [.ptr 146 0], .tmp 1 [.ptr 148 0], .tmp 5 [.ptr 5 0], .DO 5 .mine 75 [.ty (.int .i64), .ty (.int .i64), .ty (.int .i64), .ty (.int .i64), .ty (.int .i64), .ty (.int .u64)], .DO 146 .kept 67 [.ty (.int .i64), .ty (.int .i64), .ty (.int .i64), .own .Dn 155 4 .bool, .ty .bool], .DO 148 .kept 70 [.own .Dn 156 137 (.cons (.cons .bool (.cons (.row 73 (.int .u64)) (.row 73 (.int .u64)))) (.cons (.int .u64) (.int .i64))), .own .Dn 157 4 .bool]]
def NB (k:Nat) (x:TS Jv):Option (Int × Int × Int × List Bool × Bool × List ((Bool × (List Int) × List Int) × Int × Int) × List Bool):=AD.j3 k x.2.2.2.1.1 x.2.2.2.1.2.1 x.2.2.2.1.2.2.1 x.2.2.2.1.2.2.2.1 x.2.2.2.1.2.2.2.2.1 x.2.2.2.1.2.2.2.2.2.1 x.2.2.2.2.1.1 x.2.2.2.2.1.2.1 x.2.2.2.2.1.2.2.1 x.2.2.2.2.1.2.2.2.1 x.2.2.2.2.1.2.2.2.2.1 x.2.2.2.2.2.1.1 x.2.2.2.2.2.1.2.1
@[reducible] def Jw:List Slot:= [.tmp 0 [.ptr 146 0], .tmp 1 [.ptr 148 0], .tmp 5 [.ptr 5 0], .DO 5 .mine 75 [.ty (.int .i64), .ty (.int .i64), .ty (.int .i64), .ty (.int .i64), .ty (.int .i64), .ty (.int .u64)], .DO 146 .kept 67 [.ty (.int .i64), .ty (.int .i64), .ty (.int .i64), .own .Dn 155 4 .bool, .ty .bool], .DO 148 .kept 70 [.own .Dn 156 137 (.cons (.cons .bool (.cons (.row 73 (.int .u64)) (.row 73 (.int .u64)))) (.cons (.int .u64) (.int .i64))), .own .Dn 157 4 .bool]]
def NC (k:Nat) (x:TS Jw):Option (Int × Int × Int × List Bool × Bool × List ((Bool × (List Int) × List Int) × Int × Int) × List Bool):=AD.j5 k x.2.2.2.1.1 x.2.2.2.1.2.1 x.2.2.2.1.2.2.1 x.2.2.2.1.2.2.2.1 x.2.2.2.1.2.2.2.2.1 x.2.2.2.1.2.2.2.2.2.1 x.2.2.2.2.1.1 x.2.2.2.2.1.2.1 x.2.2.2.2.1.2.2.1 x.2.2.2.2.1.2.2.2.1 x.2.2.2.2.1.2.2.2.2.1 x.2.2.2.2.2.1.1 x.2.2.2.2.2.1.2.1
@[reducible] def Jx:List Slot:= [.tmp 0 [.ptr 146 0], .tmp 1 [.ptr 148 0], .tmp 5 [.ptr 5 0], .DO 5 .mine 75 [.ty (.int .i64), .ty (.int .i64), .ty (.int .i64), .ty (.int .i64), .ty (.int .i64), .ty (.int .u64)], .DO 146 .kept 67 [.ty (.int .i64), .ty (.int .i64), .ty (.int .i64), .own .Dn 155 4 .bool, .ty .bool], .DO 148 .kept 70 [.own .Dn 156 137 (.cons (.cons .bool (.cons (.row 73 (.int .u64)) (.row 73 (.int .u64)))) (.cons (.int .u64) (.int .i64))), .own .Dn 157 4 .bool]]
def ND (k:Nat) (x:TS Jx):Option (Int × Int × Int × List Bool × Bool × List ((Bool × (List Int) × List Int) × Int × Int) × List Bool):=AD.j7 k x.2.2.2.1.1 x.2.2.2.1.2.1 x.2.2.2.1.2.2.1 x.2.2.2.1.2.2.2.1 x.2.2.2.1.2.2.2.2.1 x.2.2.2.1.2.2.2.2.2.1 x.2.2.2.2.1.1 x.2.2.2.2.1.2.1 x.2.2.2.2.1.2.2.1 x.2.2.2.2.1.2.2.2.1 x.2.2.2.2.1.2.2.2.2.1 x.2.2.2.2.2.1.1 x.2.2.2.2.2.1.2.1
@[reducible] def Jy:List Slot:= [.tmp 0 [.ptr 146 0], .tmp 1 [.ptr 148 0], .tmp 5 [.ptr 5 0], .DO 5 .mine 75 [.ty (.int .i64), .ty (.int .i64), .ty (.int .i64), .ty (.int .i64), .ty (.int .i64), .ty (.int .u64)], .DO 146 .kept 67 [.ty (.int .i64), .ty (.int .i64), .ty (.int .i64), .own .Dn 155 4 .bool, .ty .bool], .DO 148 .kept 70 [.own .Dn 156 137 (.cons (.cons .bool (.cons (.row 73 (.int .u64)) (.row 73 (.int .u64)))) (.cons (.int .u64) (.int .i64))), .own .Dn 157 4 .bool]]
def NG (k:Nat) (x:TS Jy):Option (Int × Int × Int × List Bool × Bool × List ((Bool × (List Int) × List Int) × Int × Int) × List Bool):=AD.j9 k x.2.2.2.1.1 x.2.2.2.1.2.1 x.2.2.2.1.2.2.1 x.2.2.2.1.2.2.2.1 x.2.2.2.1.2.2.2.2.1 x.2.2.2.1.2.2.2.2.2.1 x.2.2.2.2.1.1 x.2.2.2.2.1.2.1 x.2.2.2.2.1.2.2.1 x.2.2.2.2.1.2.2.2.1 x.2.2.2.2.1.2.2.2.2.1 x.2.2.2.2.2.1.1 x.2.2.2.2.2.1.2.1
def Xp:Bb (TT EJ.rs × ET EJ.ps):=⟨⟨146,158,[146,148]⟩,AE [],AE [(2,⟨Ju,λk x=>(NA k x).map Bw⟩),(3,⟨Jv,λk x=>(NB k x).map Bw⟩),(5,⟨Jw,λk x=>(NC k x).map Bw⟩),(7,⟨Jx,λk x=>(ND k x).map Bw⟩),(9,⟨Jy,λk x=>(NG k x).map Bw⟩)],AE []⟩
theorem Xj:Qx Tryz.prog 41 EJ :=
 D7 (Bt:=AL [(2,[0,1,3,7,15,31,63,127,255,511,255,1279,3327,7423,15615,32767,65535,131071,262143,524287,1048575,2097151,4194303,8388607,16777215,33554431,67108863,33554431,167772159,436207615,973078527,2046820351,4294967295,8589934591,17179869183,34359738367]),(4,[0,0,2,6,14,0,0,64,0,256,0,1024,4032,8160,16352,32766,65535,131071,262143]),(6,[0,0,2,6,14,0,0,64,0,256,992,2016,4094,8191,16383,32767]),(8,[0,0,2,6,14,0,0,64,0,0,512,1792,0,0,8192,32512,65504,131040,262142,524287,1048575,2097151]),(10,[0,0,2,6,14,0,0,0,128,448,0,0,2048,8128,16352,32736,65534,131071,262143,524287])]) (l:= [(101, .io Cd [(114,153),(118,153),(136,154),(140,154)]),(103, .io Jd [(72,151)]),(104, .io Je [(90,152)]),(105, .io Kj [(119,153)]),(106, .io IP [(141,154)])]) (C:=Xp) (by kernel_rfl) AI ⟨Kk,td,th,yT,ng,trivial⟩ (fn:=Tryz.f41) (by kernel_rfl) rfl (by kernel_rfl) (by decide) (by kernel_rfl) (m:=158) (by decide) (by decide) (F:=λk x=>AD.f k x.1.1 x.1.2.1 x.1.2.2.1 x.1.2.2.2.1 x.1.2.2.2.2.1 x.2.1.1 x.2.1.2.1 x.2.2.1.1 x.2.2.1.2.1 x.2.2.1.2.2.1 x.2.2.1.2.2.2.1 x.2.2.1.2.2.2.2.1 x.2.2.1.2.2.2.2.2) (q:=Bw) (λk x=>rfl)
  (by
   refine And.intro ?_ ?_
   ·refine Al (sl:=Ju) (F:=NA) (λx=>rfl) λk ⟨_,_,_,⟨(x6:Bool),_⟩,⟨(DZ:Int),(Ds:Int),(Dd:Int),(EH:Int),(EI:Int),(EY:Int),_⟩,⟨(A9:Int),(BA:Int),(BB:Int),(BC:List Bool),(BD:Bool),_⟩,⟨(Cp:List ((Bool × (List Int) × List Int) × Int × Int)),(DF:List Bool),_⟩,_⟩=> ?_
    show AY Bw (AD.j2 (k+1) x6 DZ Ds Dd EH EI EY A9 BA BB BC BD Cp DF) _;rw[AD.j2];exact go
   refine And.intro ?_ ?_
   ·refine Al (sl:=Jv) (F:=NB) (λx=>rfl) λk ⟨_,_,_,⟨(DZ:Int),(Ds:Int),(Dd:Int),(EH:Int),(EI:Int),(EY:Int),_⟩,⟨(A9:Int),(BA:Int),(BB:Int),(BC:List Bool),(BD:Bool),_⟩,⟨(Cp:List ((Bool × (List Int) × List Int) × Int × Int)),(DF:List Bool),_⟩,_⟩=> ?_
    show AY Bw (AD.j3 (k+1) DZ Ds Dd EH EI EY A9 BA BB BC BD Cp DF) _;rw[AD.j3];exact go
   refine And.intro ?_ ?_
   ·refine Al (sl:=Jw) (F:=NC) (λx=>rfl) λk ⟨_,_,_,⟨(DZ:Int),(Ds:Int),(Dd:Int),(EH:Int),(EI:Int),(EY:Int),_⟩,⟨(A9:Int),(BA:Int),(BB:Int),(BC:List Bool),(BD:Bool),_⟩,⟨(Cp:List ((Bool × (List Int) × List Int) × Int × Int)),(DF:List Bool),_⟩,_⟩=> ?_
    show AY Bw (AD.j5 (k+1) DZ Ds Dd EH EI EY A9 BA BB BC BD Cp DF) _;rw[AD.j5];exact go
   refine And.intro ?_ ?_
   ·refine Al (sl:=Jx) (F:=ND) (λx=>rfl) λk ⟨_,_,_,⟨(DZ:Int),(Ds:Int),(Dd:Int),(EH:Int),(EI:Int),(EY:Int),_⟩,⟨(A9:Int),(BA:Int),(BB:Int),(BC:List Bool),(BD:Bool),_⟩,⟨(Cp:List ((Bool × (List Int) × List Int) × Int × Int)),(DF:List Bool),_⟩,_⟩=> ?_
    show AY Bw (AD.j7 (k+1) DZ Ds Dd EH EI EY A9 BA BB BC BD Cp DF) _;rw[AD.j7];exact go
   refine And.intro ?_ ?_
   ·refine Al (sl:=Jy) (F:=NG) (λx=>rfl) λk ⟨_,_,_,⟨(DZ:Int),(Ds:Int),(Dd:Int),(EH:Int),(EI:Int),(EY:Int),_⟩,⟨(A9:Int),(BA:Int),(BB:Int),(BC:List Bool),(BD:Bool),_⟩,⟨(Cp:List ((Bool × (List Int) × List Int) × Int × Int)),(DF:List Bool),_⟩,_⟩=> ?_
    show AY Bw (AD.j9 (k+1) DZ Ds Dd EH EI EY A9 BA BB BC BD Cp DF) _;rw[AD.j9];exact go
   exact trivial)
  (λk ⟨⟨Ab,Ae,Af,Ah,Ai,_⟩,⟨j8,kC,_⟩,(a2:Int × Int × Int × Int × Int × Int),_⟩=>by show AY Bw (AD.f k Ab Ae Af Ah Ai j8 kC a2.1 a2.2.1 a2.2.2.1 a2.2.2.2.1 a2.2.2.2.2.1 a2.2.2.2.2.2) _;unfold AD.f;exact go)
end
section
attribute [local irreducible] JW.f
def Ub:AQ:=⟨[(.cons (.cons .bool (.cons (.row 73 (.int .u64)) (.row 73 (.int .u64)))) (.cons (.int .u64) (.int .i64))),(.cons (.cons .bool (.cons (.row 73 (.int .u64)) (.row 73 (.int .u64)))) (.cons (.int .u64) (.int .i64)))],[.bool],λk x=>(La.f k x.1.1.1 x.1.1.2.1 x.1.1.2.2 x.1.2.1 x.1.2.2 x.2.1.1.1 x.2.1.1.2.1 x.2.1.1.2.2 x.2.1.2.1 x.2.1.2.2).map λr=>(r,())⟩
def dm (r:Bool):TT Ub.rs:=(r,())
theorem yV:Cl Tryz.prog 107 Ub :=
 AT (Bt:=AL []) (l:= [(37, .pu O8)]) (C:=AZ) (by kernel_rfl) AI ⟨dr,trivial⟩ (fn:=Tryz.f107) (by kernel_rfl) rfl (by kernel_rfl) (by decide) (by kernel_rfl) (F:=λk x=>La.f k x.1.1.1 x.1.1.2.1 x.1.1.2.2 x.1.2.1 x.1.2.2 x.2.1.1.1 x.2.1.1.2.1 x.2.1.1.2.2 x.2.1.2.1 x.2.1.2.2) (m:=dm) (λk x=>rfl)
  (by exact trivial)
  (λk ⟨(a0:(Bool × (List Int) × List Int) × Int × Int),(a1:(Bool × (List Int) × List Int) × Int × Int),_⟩=>by show AY dm (La.f k a0.1.1 a0.1.2.1 a0.1.2.2 a0.2.1 a0.2.2 a1.1.1 a1.1.2.1 a1.1.2.2 a1.2.1 a1.2.2) _;unfold La.f;exact go)
end
section
attribute [local irreducible] La.f
def RM:AQ:=⟨[(.row 137 (.cons (.cons .bool (.cons (.row 73 (.int .u64)) (.row 73 (.int .u64)))) (.cons (.int .u64) (.int .i64)))),(.row 137 (.cons (.cons .bool (.cons (.row 73 (.int .u64)) (.row 73 (.int .u64)))) (.cons (.int .u64) (.int .i64))))],[.bool],λk x=>(FB.f k x.1 x.2.1).map λr=>(r,())⟩
def Rk (r:Bool):TT RM.rs:=(r,())
@[reducible] def Uc:List Slot:= [.tmp 0 [.ty (.row 137 (.cons (.cons .bool (.cons (.row 73 (.int .u64)) (.row 73 (.int .u64)))) (.cons (.int .u64) (.int .i64))))], .tmp 1 [.ty (.row 137 (.cons (.cons .bool (.cons (.row 73 (.int .u64)) (.row 73 (.int .u64)))) (.cons (.int .u64) (.int .i64))))], .tmp 12 [.ty (.int .i64)], .tmp 13 [.ty (.int .i64)]]
def dw (k:Nat) (x:TS Uc):Option (Bool):=FB.l0 k x.1.1 x.2.1.1 x.2.2.1.1 x.2.2.2.1.1
def ABI:Bb (TT RM.rs):=⟨⟨27,27,[]⟩,AE [(0,⟨Uc,λk x=>(dw k x).map Rk⟩)],AE [],AE []⟩
theorem AA9:Cl Tryz.prog 42 RM :=
 AT (Bt:=AL [(6,[0,0,3,7,0,0,48,112,255,511])]) (l:= [(107, .pu Ub)]) (C:=ABI) (by kernel_rfl) AI ⟨yV,trivial⟩ (fn:=Tryz.f42) (by kernel_rfl) rfl (by kernel_rfl) (by decide) (by kernel_rfl) (F:=λk x=>FB.f k x.1 x.2.1) (m:=Rk) (λk x=>rfl)
  (by
   refine And.intro ?_ ?_
   ·refine Ap (sl:=Uc) (F:=dw) (λx=>rfl) λk ⟨⟨(x0:List ((Bool × (List Int) × List Int) × Int × Int)),_⟩,⟨(x1:List ((Bool × (List Int) × List Int) × Int × Int)),_⟩,⟨(aW:Int),_⟩,⟨(Hf:Int),_⟩,_⟩=> ?_
    show AY Rk (FB.l0 (k+1) x0 x1 aW Hf) _;rw[FB.l0];exact go
   exact trivial)
  (λk ⟨(a0:List ((Bool × (List Int) × List Int) × Int × Int)),(a1:List ((Bool × (List Int) × List Int) × Int × Int)),_⟩=>by show AY Rk (FB.f k a0 a1) _;unfold FB.f;exact go)
end
section
def GR:AQ:=⟨[(.row 4 .bool),(.row 4 .bool)],[.bool],λk x=>(Aw.f k x.1 x.2.1).map λr=>(r,())⟩
def GY (r:Bool):TT GR.rs:=(r,())
@[reducible] def IV:List Slot:= [.tmp 0 [.ty (.row 4 .bool)], .tmp 1 [.ty (.row 4 .bool)], .tmp 12 [.ty (.int .i64)], .tmp 13 [.ty (.int .i64)]]
def LQ (k:Nat) (x:TS IV):Option (Bool):=Aw.l0 k x.1.1 x.2.1.1 x.2.2.1.1 x.2.2.2.1.1
def Ud:Bb (TT GR.rs):=⟨⟨26,26,[]⟩,AE [(0,⟨IV,λk x=>(LQ k x).map GY⟩)],AE [],AE []⟩
theorem UH:Cl Tryz.prog 43 GR :=
 AT (Bt:=AL [(6,[0,0,3,7,0,0,48,112,255])]) (l:= []) (C:=Ud) (by kernel_rfl) AI trivial (fn:=Tryz.f43) (by kernel_rfl) rfl (by kernel_rfl) (by decide) (by kernel_rfl) (F:=λk x=>Aw.f k x.1 x.2.1) (m:=GY) (λk x=>rfl)
  (by
   refine And.intro ?_ ?_
   ·refine Ap (sl:=IV) (F:=LQ) (λx=>rfl) λk ⟨⟨(x0:List Bool),_⟩,⟨(x1:List Bool),_⟩,⟨(aW:Int),_⟩,⟨(Hf:Int),_⟩,_⟩=> ?_
    show AY GY (Aw.l0 (k+1) x0 x1 aW Hf) _;rw[Aw.l0];exact go
   exact trivial)
  (λk ⟨(a0:List Bool),(a1:List Bool),_⟩=>by show AY GY (Aw.f k a0 a1) _;unfold Aw.f;exact go)
end
section
def Jz:AQ:=⟨[(.cons .bool (.cons (.row 73 (.int .u64)) (.row 73 (.int .u64)))), .int .i64],[.bool],λ_ x=>(DP.f x.1.1 x.1.2.1 x.1.2.2 x.2.1).map λr=>(r,())⟩
def NH (r:Bool):TT Jz.rs:=(r,())
theorem WE:Cl Tryz.prog 60 Jz :=
 AT (Bt:=AL []) (l:= []) (C:=AZ) (by kernel_rfl) AI trivial (fn:=Tryz.f60) (by kernel_rfl) rfl (by kernel_rfl) (by decide) (by kernel_rfl) (F:=λk x=>DP.f x.1.1 x.1.2.1 x.1.2.2 x.2.1) (m:=NH) (λk x=>rfl)
  (by exact trivial)
  (λk ⟨(a0:Bool × List Int × List Int),(a1:Int),_⟩=>by show AY NH (DP.f a0.1 a0.2.1 a0.2.2 a1) _;unfold DP.f;exact go)
end
section
attribute [local irreducible] DP.f
def Gx:AQ:=⟨[(.row 137 (.cons (.cons .bool (.cons (.row 73 (.int .u64)) (.row 73 (.int .u64)))) (.cons (.int .u64) (.int .i64)))), .int .i64],[.bool],λk x=>(BR.f k x.1 x.2.1).map λr=>(r,())⟩
def Gy (r:Bool):TT Gx.rs:=(r,())
@[reducible] def JE:List Slot:= [.tmp 0 [.ty (.row 137 (.cons (.cons .bool (.cons (.row 73 (.int .u64)) (.row 73 (.int .u64)))) (.cons (.int .u64) (.int .i64))))], .tmp 1 [.ty (.int .i64)], .tmp 7 [.ty (.int .i64)], .tmp 8 [.ty (.int .i64)]]
def MW (k:Nat) (x:TS JE):Option (Bool):=BR.l0 k x.1.1 x.2.1.1 x.2.2.1.1 x.2.2.2.1.1
def WG:Bb (TT Gx.rs):=⟨⟨19,19,[]⟩,AE [(0,⟨JE,λk x=>(MW k x).map Gy⟩)],AE [],AE []⟩
theorem WH:Cl Tryz.prog 108 Gx :=
 AT (Bt:=AL []) (l:= [(60, .pu Jz)]) (C:=WG) (by kernel_rfl) AI ⟨WE,trivial⟩ (fn:=Tryz.f108) (by kernel_rfl) rfl (by kernel_rfl) (by decide) (by kernel_rfl) (F:=λk x=>BR.f k x.1 x.2.1) (m:=Gy) (λk x=>rfl)
  (by
   refine And.intro ?_ ?_
   ·refine Ap (sl:=JE) (F:=MW) (λx=>rfl) λk ⟨⟨(x0:List ((Bool × (List Int) × List Int) × Int × Int)),_⟩,⟨(x1:Int),_⟩,⟨(x7:Int),_⟩,⟨(x8:Int),_⟩,_⟩=> ?_
    show AY Gy (BR.l0 (k+1) x0 x1 x7 x8) _;rw[BR.l0];exact go
   exact trivial)
  (λk ⟨(a0:List ((Bool × (List Int) × List Int) × Int × Int)),(a1:Int),_⟩=>by show AY Gy (BR.f k a0 a1) _;unfold BR.f;exact go)
end
section
attribute [local irreducible] BR.f
def Jt:AQ:=⟨[(.cons (.row 137 (.cons (.cons .bool (.cons (.row 73 (.int .u64)) (.row 73 (.int .u64)))) (.cons (.int .u64) (.int .i64)))) (.row 4 .bool))],[.bool],λk x=>(Dq.f k x.1.1 x.1.2).map λr=>(r,())⟩
def NI (r:Bool):TT Jt.rs:=(r,())
theorem WD:Cl Tryz.prog 48 Jt :=
 AT (Bt:=AL []) (l:= [(108, .pu Gx)]) (C:=AZ) (by kernel_rfl) AI ⟨WH,trivial⟩ (fn:=Tryz.f48) (by kernel_rfl) rfl (by kernel_rfl) (by decide) (by kernel_rfl) (F:=λk x=>Dq.f k x.1.1 x.1.2) (m:=NI) (λk x=>rfl)
  (by exact trivial)
  (λk ⟨(a0:(List ((Bool × (List Int) × List Int) × Int × Int)) × List Bool),_⟩=>by show AY NI (Dq.f k a0.1 a0.2) _;unfold Dq.f;exact go)
end
end Go.Proofs.YtjocbnjpjihpnaaGreat.A
