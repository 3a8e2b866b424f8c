/- Functions that come to what their texts say. -/
import Derived.Test.YtjocbnjpjihpnaaGreatAAa
import Derived.Test.YtjocbnjpjihpnaaGreatWWc
import Derived.Test.YtjocbnjpjihpnaaGreatBB
import Derived.Test.YtjocbnjpjihpnaaGreatFgradinelaw16same
namespace Go.Proofs.YtjocbnjpjihpnaaGreat.A
open Go.RowKit Go.Proofs.YtjocbnjpjihpnaaGreat.P Go.Proofs.YtjocbnjpjihpnaaGreatW.PrintWords Go.Proofs.YtjocbnjpjihpnaaGreatW.PrintLast Go.Proofs.YtjocbnjpjihpnaaGreatW.PrintMore Go.Proofs.YtjocbnjpjihpnaaGreatW.Abs
set_option linter.unusedVariables false
set_option linter.unusedSimpArgs false
set_option maxRecDepth 100000
set_option maxHeartbeats 4000000
section
attribute [local irreducible] gradineref02_Size.f
def s_gradineref02_Trim:FSpec:=⟨[(.row 73 (.int .u64))],[(.row 73 (.int .u64))],fun k x=>(gradineref02_Trim.f k x.1).map fun r=>(r,())⟩
def m_gradineref02_Trim (r:List Int):TT s_gradineref02_Trim.rs:=(r,())
@[reducible] def q0_gradineref02_Trim:List Slot:= [.tmp 0 [.ty (.row 73 (.int .u64))], .tmp 3 [.own .mine 3 73 (.int .u64)], .tmp 6 [.ty (.int .i64)], .tmp 7 [.ty (.int .i64)]]
def g0_gradineref02_Trim (k:Nat) (x:TS q0_gradineref02_Trim):Option (List Int):=gradineref02_Trim.l0 k x.1.1 x.2.1.1 x.2.2.1.1 x.2.2.2.1.1
def c_gradineref02_Trim:Cuts (TT s_gradineref02_Trim.rs):=⟨⟨19,19,[]⟩,lookC [(0,⟨q0_gradineref02_Trim,fun k x=>(g0_gradineref02_Trim k x).map m_gradineref02_Trim⟩)],lookC [],lookC []⟩
theorem o_gradineref02_Trim:FOk Tryz.prog 188 s_gradineref02_Trim :=
 fn_of (Bt:=blook []) (l:= [(126, .pu s_gradineref02_Size)]) (C:=c_gradineref02_Trim) (by kernel_rfl) tab_ok ⟨o_gradineref02_Size,trivial⟩ (fn:=Tryz.f188) (by kernel_rfl) rfl (by kernel_rfl) (by decide) (by kernel_rfl) (F:=fun k x=>gradineref02_Trim.f k x.1) (m:=m_gradineref02_Trim) (fun k x=>rfl)
  (by
   refine And.intro ?_ ?_
   ·refine ob_loop (sl:=q0_gradineref02_Trim) (F:=g0_gradineref02_Trim) (fun x=>rfl) fun k ⟨⟨(x0:List Int),_⟩,⟨(x3:List Int),_⟩,⟨(x6:Int),_⟩,⟨(x7:Int),_⟩,_⟩=> ?_
    show LeT m_gradineref02_Trim (gradineref02_Trim.l0 (k+1) x0 x3 x6 x7) _
    rw [gradineref02_Trim.l0];exact go
   exact trivial)
  (fun k ⟨(a0:List Int),_⟩=>by show LeT m_gradineref02_Trim (gradineref02_Trim.f k a0) _;unfold gradineref02_Trim.f;exact go)
end
section
attribute [local irreducible] gradineref02_Trim.f
def s_gradineref02_Halves:FSpec:=⟨[(.row 73 (.int .u64))],[(.row 73 (.int .u64))],fun k x=>(gradineref02_Halves.f k x.1).map fun r=>(r,())⟩
def m_gradineref02_Halves (r:List Int):TT s_gradineref02_Halves.rs:=(r,())
@[reducible] def q0_gradineref02_Halves:List Slot:= [.tmp 0 [.ty (.row 73 (.int .u64))], .tmp 3 [.own .mine 3 73 (.int .u64)], .tmp 6 [.ty (.int .i64)], .tmp 7 [.ty (.int .i64)]]
def g0_gradineref02_Halves (k:Nat) (x:TS q0_gradineref02_Halves):Option (List Int):=gradineref02_Halves.l0 k x.1.1 x.2.1.1 x.2.2.1.1 x.2.2.2.1.1
def c_gradineref02_Halves:Cuts (TT s_gradineref02_Halves.rs):=⟨⟨29,29,[]⟩,lookC [(0,⟨q0_gradineref02_Halves,fun k x=>(g0_gradineref02_Halves k x).map m_gradineref02_Halves⟩)],lookC [],lookC []⟩
theorem o_gradineref02_Halves:FOk Tryz.prog 128 s_gradineref02_Halves :=
 fn_of (Bt:=blook []) (l:= [(188, .pu s_gradineref02_Trim)]) (C:=c_gradineref02_Halves) (by kernel_rfl) tab_ok ⟨o_gradineref02_Trim,trivial⟩ (fn:=Tryz.f128) (by kernel_rfl) rfl (by kernel_rfl) (by decide) (by kernel_rfl) (F:=fun k x=>gradineref02_Halves.f k x.1) (m:=m_gradineref02_Halves) (fun k x=>rfl)
  (by
   refine And.intro ?_ ?_
   ·refine ob_loop (sl:=q0_gradineref02_Halves) (F:=g0_gradineref02_Halves) (fun x=>rfl) fun k ⟨⟨(x0:List Int),_⟩,⟨(x3:List Int),_⟩,⟨(x6:Int),_⟩,⟨(x7:Int),_⟩,_⟩=> ?_
    show LeT m_gradineref02_Halves (gradineref02_Halves.l0 (k+1) x0 x3 x6 x7) _
    rw [gradineref02_Halves.l0];exact go
   exact trivial)
  (fun k ⟨(a0:List Int),_⟩=>by show LeT m_gradineref02_Halves (gradineref02_Halves.f k a0) _;unfold gradineref02_Halves.f;exact go)
end
section
attribute [local irreducible] gradineref02_Trim.f
def s_gradineref02_Whole:FSpec:=⟨[(.row 73 (.int .u64))],[(.row 73 (.int .u64))],fun k x=>(gradineref02_Whole.f k x.1).map fun r=>(r,())⟩
def m_gradineref02_Whole (r:List Int):TT s_gradineref02_Whole.rs:=(r,())
@[reducible] def q0_gradineref02_Whole:List Slot:= [.tmp 0 [.ty (.row 73 (.int .u64))], .tmp 3 [.own .mine 3 73 (.int .u64)], .tmp 4 [.ty (.int .i64)]]
def g0_gradineref02_Whole (k:Nat) (x:TS q0_gradineref02_Whole):Option (List Int):=gradineref02_Whole.l0 k x.1.1 x.2.1.1 x.2.2.1.1
def c_gradineref02_Whole:Cuts (TT s_gradineref02_Whole.rs):=⟨⟨35,35,[]⟩,lookC [(0,⟨q0_gradineref02_Whole,fun k x=>(g0_gradineref02_Whole k x).map m_gradineref02_Whole⟩)],lookC [],lookC []⟩
theorem o_gradineref02_Whole:FOk Tryz.prog 129 s_gradineref02_Whole :=
 fn_of (Bt:=blook []) (l:= [(188, .pu s_gradineref02_Trim)]) (C:=c_gradineref02_Whole) (by kernel_rfl) tab_ok ⟨o_gradineref02_Trim,trivial⟩ (fn:=Tryz.f129) (by kernel_rfl) rfl (by kernel_rfl) (by decide) (by kernel_rfl) (F:=fun k x=>gradineref02_Whole.f k x.1) (m:=m_gradineref02_Whole) (fun k x=>rfl)
  (by
   refine And.intro ?_ ?_
   ·refine ob_loop (sl:=q0_gradineref02_Whole) (F:=g0_gradineref02_Whole) (fun x=>rfl) fun k ⟨⟨(x0:List Int),_⟩,⟨(x3:List Int),_⟩,⟨(x4:Int),_⟩,_⟩=> ?_
    show LeT m_gradineref02_Whole (gradineref02_Whole.l0 (k+1) x0 x3 x4) _
    rw [gradineref02_Whole.l0];exact go
   exact trivial)
  (fun k ⟨(a0:List Int),_⟩=>by show LeT m_gradineref02_Whole (gradineref02_Whole.f k a0) _;unfold gradineref02_Whole.f;exact go)
end
section
attribute [local irreducible] gradineref02_Halves.f gradineref02_Whole.f gradineref02_at.f
def s_gradineref02_Sub:FSpec:=⟨[(.row 73 (.int .u64)),(.row 73 (.int .u64))],[(.row 73 (.int .u64))],fun k x=>(gradineref02_Sub.f k x.1 x.2.1).map fun r=>(r,())⟩
def m_gradineref02_Sub (r:List Int):TT s_gradineref02_Sub.rs:=(r,())
@[reducible] def q0_gradineref02_Sub:List Slot:= [.tmp 5 [.ty (.row 73 (.int .u64))], .tmp 6 [.ty (.row 73 (.int .u64))], .tmp 7 [.own .mine 7 73 (.int .u64)], .tmp 8 [.ty (.int .u64)], .tmp 16 [.ty (.int .i64)], .tmp 17 [.ty (.int .i64)]]
def g0_gradineref02_Sub (k:Nat) (x:TS q0_gradineref02_Sub):Option (List Int):=gradineref02_Sub.l0 k x.1.1 x.2.1.1 x.2.2.1.1 x.2.2.2.1.1 x.2.2.2.2.1.1 x.2.2.2.2.2.1.1
def c_gradineref02_Sub:Cuts (TT s_gradineref02_Sub.rs):=⟨⟨42,42,[]⟩,lookC [(0,⟨q0_gradineref02_Sub,fun k x=>(g0_gradineref02_Sub k x).map m_gradineref02_Sub⟩)],lookC [],lookC []⟩
theorem o_gradineref02_Sub:FOk Tryz.prog 76 s_gradineref02_Sub :=
 fn_of (Bt:=blook [(7,[0,0,3,7,15,0,0,96,255,0,1023,2047])]) (l:= [(128, .pu s_gradineref02_Halves),(129, .pu s_gradineref02_Whole),(130, .pu s_gradineref02_at)]) (C:=c_gradineref02_Sub) (by kernel_rfl) tab_ok ⟨o_gradineref02_Halves,o_gradineref02_Whole,o_gradineref02_at,trivial⟩ (fn:=Tryz.f76) (by kernel_rfl) rfl (by kernel_rfl) (by decide) (by kernel_rfl) (F:=fun k x=>gradineref02_Sub.f k x.1 x.2.1) (m:=m_gradineref02_Sub) (fun k x=>rfl)
  (by
   refine And.intro ?_ ?_
   ·refine ob_loop (sl:=q0_gradineref02_Sub) (F:=g0_gradineref02_Sub) (fun x=>rfl) fun k ⟨⟨(x5:List Int),_⟩,⟨(x6:List Int),_⟩,⟨(x7:List Int),_⟩,⟨(x8:Int),_⟩,⟨(x16:Int),_⟩,⟨(x17:Int),_⟩,_⟩=> ?_
    show LeT m_gradineref02_Sub (gradineref02_Sub.l0 (k+1) x5 x6 x7 x8 x16 x17) _
    rw [gradineref02_Sub.l0];exact go
   exact trivial)
  (fun k ⟨(a0:List Int),(a1:List Int),_⟩=>by show LeT m_gradineref02_Sub (gradineref02_Sub.f k a0 a1) _;unfold gradineref02_Sub.f;exact go)
end
section
attribute [local irreducible] gradineref02_Trim.f
def s_gradineref02_Shl:FSpec:=⟨[(.row 73 (.int .u64)), .int .i64],[(.row 73 (.int .u64))],fun k x=>(gradineref02_Shl.f k x.1 x.2.1).map fun r=>(r,())⟩
def m_gradineref02_Shl (r:List Int):TT s_gradineref02_Shl.rs:=(r,())
@[reducible] def q0_gradineref02_Shl:List Slot:= [.tmp 0 [.ty (.row 73 (.int .u64))], .tmp 1 [.ty (.int .i64)], .tmp 5 [.own .mine 5 73 (.int .u64)], .tmp 13 [.ty (.int .i64)], .tmp 14 [.ty (.int .i64)]]
def g0_gradineref02_Shl (k:Nat) (x:TS q0_gradineref02_Shl):Option (List Int):=match x with | ⟨⟨(x0:List Int),_⟩,⟨(x1:Int),_⟩,⟨(x5:List Int),_⟩,⟨(x13:Int),_⟩,⟨(x14:Int),_⟩,_⟩=>if 0≤x1∧x1≤65536 then gradineref02_Shl.l0 k x0 x1 x5 x13 x14 else none
@[reducible] def q1_gradineref02_Shl:List Slot:= [.tmp 0 [.ty (.row 73 (.int .u64))], .tmp 1 [.ty (.int .i64)], .tmp 5 [.own .mine 5 73 (.int .u64)], .tmp 21 [.ty (.int .i64)], .tmp 22 [.ty (.int .i64)]]
def g1_gradineref02_Shl (k:Nat) (x:TS q1_gradineref02_Shl):Option (List Int):=match x with | ⟨⟨(x0:List Int),_⟩,⟨(x1:Int),_⟩,⟨(x5:List Int),_⟩,⟨(x21:Int),_⟩,⟨(x22:Int),_⟩,_⟩=>if 0≤x1∧x1≤65536 then gradineref02_Shl.l1 k x0 x1 x5 x21 x22 else none
@[reducible] def q2_gradineref02_Shl:List Slot:= [.tmp 5 [.own .mine 5 73 (.int .u64)], .tmp 7 [.ty (.int .u64)], .tmp 8 [.ty (.int .i64)]]
def g2_gradineref02_Shl (k:Nat) (x:TS q2_gradineref02_Shl):Option (List Int):=match x with | ⟨⟨(x5:List Int),_⟩,⟨(x7:Int),_⟩,⟨(x8:Int),_⟩,_⟩=>if 0≤x7∧x7<64 then gradineref02_Shl.l2 k x5 x7 x8 else none
def c_gradineref02_Shl:Cuts (TT s_gradineref02_Shl.rs):=⟨⟨78,78,[]⟩,lookC [(0,⟨q0_gradineref02_Shl,fun k x=>(g0_gradineref02_Shl k x).map m_gradineref02_Shl⟩),(1,⟨q1_gradineref02_Shl,fun k x=>(g1_gradineref02_Shl k x).map m_gradineref02_Shl⟩),(2,⟨q2_gradineref02_Shl,fun k x=>(g2_gradineref02_Shl k x).map m_gradineref02_Shl⟩)],lookC [],lookC []⟩
theorem o_gradineref02_Shl:FOk Tryz.prog 157 s_gradineref02_Shl :=
 fn_of (Bt:=blook [(19,[0,0,0,0,12,28,0,124,0,0,512,1792,3840,0,8192,32512,65532,131071,262143])]) (l:= [(188, .pu s_gradineref02_Trim)]) (C:=c_gradineref02_Shl) (by kernel_rfl) tab_ok ⟨o_gradineref02_Trim,trivial⟩ (fn:=Tryz.f157) (by kernel_rfl) rfl (by kernel_rfl) (by decide) (by kernel_rfl) (F:=fun k x=>gradineref02_Shl.f k x.1 x.2.1) (m:=m_gradineref02_Shl) (fun k x=>rfl)
  (by
   refine And.intro ?_ ?_
   ·refine ob_loop (sl:=q0_gradineref02_Shl) (F:=g0_gradineref02_Shl) (fun ⟨⟨(x0:List Int),_⟩,⟨(x1:Int),_⟩,⟨(x5:List Int),_⟩,⟨(x13:Int),_⟩,⟨(x14:Int),_⟩,_⟩=>by show (if 0≤x1∧x1≤65536 then gradineref02_Shl.l0 0 x0 x1 x5 x13 x14 else none)=none;split<;>rfl) fun k ⟨⟨(x0:List Int),_⟩,⟨(x1:Int),_⟩,⟨(x5:List Int),_⟩,⟨(x13:Int),_⟩,⟨(x14:Int),_⟩,_⟩=> ?_
    show LeT m_gradineref02_Shl (if 0≤x1∧x1≤65536 then gradineref02_Shl.l0 (k+1) x0 x1 x5 x13 x14 else none) _
    rw [gradineref02_Shl.l0];exact go
   refine And.intro ?_ ?_
   ·refine ob_loop (sl:=q1_gradineref02_Shl) (F:=g1_gradineref02_Shl) (fun ⟨⟨(x0:List Int),_⟩,⟨(x1:Int),_⟩,⟨(x5:List Int),_⟩,⟨(x21:Int),_⟩,⟨(x22:Int),_⟩,_⟩=>by show (if 0≤x1∧x1≤65536 then gradineref02_Shl.l1 0 x0 x1 x5 x21 x22 else none)=none;split<;>rfl) fun k ⟨⟨(x0:List Int),_⟩,⟨(x1:Int),_⟩,⟨(x5:List Int),_⟩,⟨(x21:Int),_⟩,⟨(x22:Int),_⟩,_⟩=> ?_
    show LeT m_gradineref02_Shl (if 0≤x1∧x1≤65536 then gradineref02_Shl.l1 (k+1) x0 x1 x5 x21 x22 else none) _
    rw [gradineref02_Shl.l1];exact go
   refine And.intro ?_ ?_
   ·refine ob_loop (sl:=q2_gradineref02_Shl) (F:=g2_gradineref02_Shl) (fun ⟨⟨(x5:List Int),_⟩,⟨(x7:Int),_⟩,⟨(x8:Int),_⟩,_⟩=>by show (if 0≤x7∧x7<64 then gradineref02_Shl.l2 0 x5 x7 x8 else none)=none;split<;>rfl) fun k ⟨⟨(x5:List Int),_⟩,⟨(x7:Int),_⟩,⟨(x8:Int),_⟩,_⟩=> ?_
    show LeT m_gradineref02_Shl (if 0≤x7∧x7<64 then gradineref02_Shl.l2 (k+1) x5 x7 x8 else none) _
    rw [gradineref02_Shl.l2];exact go
   exact trivial)
  (fun k ⟨(a0:List Int),(a1:Int),_⟩=>by show LeT m_gradineref02_Shl (gradineref02_Shl.f k a0 a1) _;unfold gradineref02_Shl.f;exact go)
end
section
def s_gradineref02_Bit:FSpec:=⟨[(.row 73 (.int .u64)), .int .i64],[.bool],fun _ x=>(gradineref02_Bit.f x.1 x.2.1).map fun r=>(r,())⟩
def m_gradineref02_Bit (r:Bool):TT s_gradineref02_Bit.rs:=(r,())
theorem o_gradineref02_Bit:FOk Tryz.prog 227 s_gradineref02_Bit :=
 fn_of (Bt:=blook []) (l:= []) (C:=noCuts) (by kernel_rfl) tab_ok trivial (fn:=Tryz.f227) (by kernel_rfl) rfl (by kernel_rfl) (by decide) (by kernel_rfl) (F:=fun k x=>gradineref02_Bit.f x.1 x.2.1) (m:=m_gradineref02_Bit) (fun k x=>rfl)
  (by exact trivial)
  (fun k ⟨(a0:List Int),(a1:Int),_⟩=>by show LeT m_gradineref02_Bit (gradineref02_Bit.f a0 a1) _;unfold gradineref02_Bit.f;exact go)
end
section
attribute [local irreducible] gradineref02_Size.f gradineref02_Bit.f
def s_gradineref02_Even:FSpec:=⟨[(.row 73 (.int .u64))],[.int .i64],fun k x=>(gradineref02_Even.f k x.1).map fun r=>(r,())⟩
def m_gradineref02_Even (r:Int):TT s_gradineref02_Even.rs:=(r,())
@[reducible] def q0_gradineref02_Even:List Slot:= [.tmp 0 [.ty (.row 73 (.int .u64))], .tmp 3 [.ty (.int .i64)]]
def g0_gradineref02_Even (k:Nat) (x:TS q0_gradineref02_Even):Option (Int):=gradineref02_Even.l0 k x.1.1 x.2.1.1
def c_gradineref02_Even:Cuts (TT s_gradineref02_Even.rs):=⟨⟨14,14,[]⟩,lookC [(0,⟨q0_gradineref02_Even,fun k x=>(g0_gradineref02_Even k x).map m_gradineref02_Even⟩)],lookC [],lookC []⟩
theorem o_gradineref02_Even:FOk Tryz.prog 189 s_gradineref02_Even :=
 fn_of (Bt:=blook []) (l:= [(126, .pu s_gradineref02_Size),(227, .pu s_gradineref02_Bit)]) (C:=c_gradineref02_Even) (by kernel_rfl) tab_ok ⟨o_gradineref02_Size,o_gradineref02_Bit,trivial⟩ (fn:=Tryz.f189) (by kernel_rfl) rfl (by kernel_rfl) (by decide) (by kernel_rfl) (F:=fun k x=>gradineref02_Even.f k x.1) (m:=m_gradineref02_Even) (fun k x=>rfl)
  (by
   refine And.intro ?_ ?_
   ·refine ob_loop (sl:=q0_gradineref02_Even) (F:=g0_gradineref02_Even) (fun x=>rfl) fun k ⟨⟨(x0:List Int),_⟩,⟨(x3:Int),_⟩,_⟩=> ?_
    show LeT m_gradineref02_Even (gradineref02_Even.l0 (k+1) x0 x3) _
    rw [gradineref02_Even.l0];exact go
   exact trivial)
  (fun k ⟨(a0:List Int),_⟩=>by show LeT m_gradineref02_Even (gradineref02_Even.f k a0) _;unfold gradineref02_Even.f;exact go)
end
section
attribute [local irreducible] gradineref02_Trim.f
def s_gradineref02_Shr:FSpec:=⟨[(.row 73 (.int .u64)), .int .i64],[(.row 73 (.int .u64))],fun k x=>(gradineref02_Shr.f k x.1 x.2.1).map fun r=>(r,())⟩
def m_gradineref02_Shr (r:List Int):TT s_gradineref02_Shr.rs:=(r,())
@[reducible] def q0_gradineref02_Shr:List Slot:= [.tmp 0 [.ty (.row 73 (.int .u64))], .tmp 1 [.ty (.int .i64)], .tmp 5 [.own .mine 5 73 (.int .u64)], .tmp 6 [.ty (.int .i64)]]
def g0_gradineref02_Shr (k:Nat) (x:TS q0_gradineref02_Shr):Option (List Int):=match x with | ⟨⟨(x0:List Int),_⟩,⟨(x1:Int),_⟩,⟨(x5:List Int),_⟩,⟨(x6:Int),_⟩,_⟩=>if 0≤x1 then gradineref02_Shr.l0 k x0 x1 x5 x6 else none
@[reducible] def q1_gradineref02_Shr:List Slot:= [.tmp 5 [.own .mine 5 73 (.int .u64)], .tmp 7 [.ty (.int .u64)], .tmp 35 [.ty (.int .i64)], .tmp 36 [.ty (.int .i64)]]
def g1_gradineref02_Shr (k:Nat) (x:TS q1_gradineref02_Shr):Option (List Int):=match x with | ⟨⟨(x5:List Int),_⟩,⟨(x7:Int),_⟩,⟨(x35:Int),_⟩,⟨(x36:Int),_⟩,_⟩=>if 0≤x7∧x7<64 then gradineref02_Shr.l1 k x5 x7 x35 x36 else none
def c_gradineref02_Shr:Cuts (TT s_gradineref02_Shr.rs):=⟨⟨72,72,[]⟩,lookC [(0,⟨q0_gradineref02_Shr,fun k x=>(g0_gradineref02_Shr k x).map m_gradineref02_Shr⟩),(1,⟨q1_gradineref02_Shr,fun k x=>(g1_gradineref02_Shr k x).map m_gradineref02_Shr⟩)],lookC [],lookC []⟩
theorem o_gradineref02_Shr:FOk Tryz.prog 190 s_gradineref02_Shr :=
 fn_of (Bt:=blook [(15,[0,0,0,0,12,28,0,0,128,448,960,0,2048,8128,16380,32767,65535])]) (l:= [(188, .pu s_gradineref02_Trim)]) (C:=c_gradineref02_Shr) (by kernel_rfl) tab_ok ⟨o_gradineref02_Trim,trivial⟩ (fn:=Tryz.f190) (by kernel_rfl) rfl (by kernel_rfl) (by decide) (by kernel_rfl) (F:=fun k x=>gradineref02_Shr.f k x.1 x.2.1) (m:=m_gradineref02_Shr) (fun k x=>rfl)
  (by
   refine And.intro ?_ ?_
   ·refine ob_loop (sl:=q0_gradineref02_Shr) (F:=g0_gradineref02_Shr) (fun ⟨⟨(x0:List Int),_⟩,⟨(x1:Int),_⟩,⟨(x5:List Int),_⟩,⟨(x6:Int),_⟩,_⟩=>by show (if 0≤x1 then gradineref02_Shr.l0 0 x0 x1 x5 x6 else none)=none;split<;>rfl) fun k ⟨⟨(x0:List Int),_⟩,⟨(x1:Int),_⟩,⟨(x5:List Int),_⟩,⟨(x6:Int),_⟩,_⟩=> ?_
    show LeT m_gradineref02_Shr (if 0≤x1 then gradineref02_Shr.l0 (k+1) x0 x1 x5 x6 else none) _
    rw [gradineref02_Shr.l0];exact go
   refine And.intro ?_ ?_
   ·refine ob_loop (sl:=q1_gradineref02_Shr) (F:=g1_gradineref02_Shr) (fun ⟨⟨(x5:List Int),_⟩,⟨(x7:Int),_⟩,⟨(x35:Int),_⟩,⟨(x36:Int),_⟩,_⟩=>by show (if 0≤x7∧x7<64 then gradineref02_Shr.l1 0 x5 x7 x35 x36 else none)=none;split<;>rfl) fun k ⟨⟨(x5:List Int),_⟩,⟨(x7:Int),_⟩,⟨(x35:Int),_⟩,⟨(x36:Int),_⟩,_⟩=> ?_
    show LeT m_gradineref02_Shr (if 0≤x7∧x7<64 then gradineref02_Shr.l1 (k+1) x5 x7 x35 x36 else none) _
    rw [gradineref02_Shr.l1];exact go
   exact trivial)
  (fun k ⟨(a0:List Int),(a1:Int),_⟩=>by show LeT m_gradineref02_Shr (gradineref02_Shr.f k a0 a1) _;unfold gradineref02_Shr.f;exact go)
end
section
attribute [local irreducible] gradineref02_Cmp.f gradineref02_Sub.f gradineref02_Size.f gradineref02_Shl.f gradineref02_Trim.f gradineref02_Even.f gradineref02_Shr.f
def s_gradineref05_Gcd:FSpec:=⟨[(.row 73 (.int .u64)),(.row 73 (.int .u64))],[(.row 73 (.int .u64))],fun k x=>(gradineref05_Gcd.f k x.1 x.2.1).map fun r=>(r,())⟩
def m_gradineref05_Gcd (r:List Int):TT s_gradineref05_Gcd.rs:=(r,())
@[reducible] def q0_gradineref05_Gcd:List Slot:= [.tmp 0 [.ty (.row 73 (.int .u64))], .tmp 1 [.ty (.row 73 (.int .u64))], .tmp 28 [.ty .bool]]
def g0_gradineref05_Gcd (k:Nat) (x:TS q0_gradineref05_Gcd):Option (List Int):=gradineref05_Gcd.j0 k x.1.1 x.2.1.1 x.2.2.1.1
@[reducible] def q1_gradineref05_Gcd:List Slot:= [.tmp 5 [.ty (.int .u64)], .tmp 6 [.ty (.int .u64)]]
def g1_gradineref05_Gcd (k:Nat) (x:TS q1_gradineref05_Gcd):Option (List Int):=gradineref05_Gcd.l0 k x.1.1 x.2.1.1
@[reducible] def q2_gradineref05_Gcd:List Slot:= [.tmp 7 [.ty (.int .i64)], .tmp 8 [.ty (.row 73 (.int .u64))], .tmp 9 [.ty (.row 73 (.int .u64))]]
def g2_gradineref05_Gcd (k:Nat) (x:TS q2_gradineref05_Gcd):Option (List Int):=gradineref05_Gcd.l1 k x.1.1 x.2.1.1 x.2.2.1.1
def c_gradineref05_Gcd:Cuts (TT s_gradineref05_Gcd.rs):=⟨⟨75,75,[]⟩,lookC [(0,⟨q1_gradineref05_Gcd,fun k x=>(g1_gradineref05_Gcd k x).map m_gradineref05_Gcd⟩),(1,⟨q2_gradineref05_Gcd,fun k x=>(g2_gradineref05_Gcd k x).map m_gradineref05_Gcd⟩)],lookC [],lookC [(5,⟨q0_gradineref05_Gcd,fun k x=>(g0_gradineref05_Gcd k x).map m_gradineref05_Gcd⟩)]⟩
theorem o_gradineref05_Gcd:FOk Tryz.prog 120 s_gradineref05_Gcd :=
 fn_of (Bt:=blook [(6,[0,1,3,0,8,24,7,127]),(8,[0,0,0,6,3,31])]) (l:= [(75, .pu s_gradineref02_Cmp),(76, .pu s_gradineref02_Sub),(126, .pu s_gradineref02_Size),(157, .pu s_gradineref02_Shl),(188, .pu s_gradineref02_Trim),(189, .pu s_gradineref02_Even),(190, .pu s_gradineref02_Shr)]) (C:=c_gradineref05_Gcd) (by kernel_rfl) tab_ok ⟨o_gradineref02_Cmp,o_gradineref02_Sub,o_gradineref02_Size,o_gradineref02_Shl,o_gradineref02_Trim,o_gradineref02_Even,o_gradineref02_Shr,trivial⟩ (fn:=Tryz.f120) (by kernel_rfl) rfl (by kernel_rfl) (by decide) (by kernel_rfl) (F:=fun k x=>gradineref05_Gcd.f k x.1 x.2.1) (m:=m_gradineref05_Gcd) (fun k x=>rfl)
  (by
   refine And.intro ?_ ?_
   ·refine ob_join1 (sl:=q0_gradineref05_Gcd) (F:=g0_gradineref05_Gcd) (fun x=>rfl) fun k ⟨⟨(x0:List Int),_⟩,⟨(x1:List Int),_⟩,⟨(x28:Bool),_⟩,_⟩=> ?_
    show LeT m_gradineref05_Gcd (gradineref05_Gcd.j0 (k+1) x0 x1 x28) _
    rw [gradineref05_Gcd.j0];exact go
   refine And.intro ?_ ?_
   ·refine ob_loop (sl:=q1_gradineref05_Gcd) (F:=g1_gradineref05_Gcd) (fun x=>rfl) fun k ⟨⟨(x5:Int),_⟩,⟨(x6:Int),_⟩,_⟩=> ?_
    show LeT m_gradineref05_Gcd (gradineref05_Gcd.l0 (k+1) x5 x6) _
    rw [gradineref05_Gcd.l0];exact go
   refine And.intro ?_ ?_
   ·refine ob_loop (sl:=q2_gradineref05_Gcd) (F:=g2_gradineref05_Gcd) (fun x=>rfl) fun k ⟨⟨(x7:Int),_⟩,⟨(x8:List Int),_⟩,⟨(x9:List Int),_⟩,_⟩=> ?_
    show LeT m_gradineref05_Gcd (gradineref05_Gcd.l1 (k+1) x7 x8 x9) _
    rw [gradineref05_Gcd.l1];exact go
   exact trivial)
  (fun k ⟨(a0:List Int),(a1:List Int),_⟩=>by show LeT m_gradineref05_Gcd (gradineref05_Gcd.f k a0 a1) _;unfold gradineref05_Gcd.f;exact go)
end
section
attribute [local irreducible] gradineref02_Cmp.f gradineref02_Right.f gradineref05_Gcd.f
def s_gradineref07_Right:FSpec:=⟨[(.cons .bool (.cons (.row 73 (.int .u64)) (.row 73 (.int .u64))))],[.bool],fun k x=>(gradineref07_Right.f k x.1.1 x.1.2.1 x.1.2.2).map fun r=>(r,())⟩
def m_gradineref07_Right (r:Bool):TT s_gradineref07_Right.rs:=(r,())
theorem o_gradineref07_Right:FOk Tryz.prog 65 s_gradineref07_Right :=
 fn_of (Bt:=blook []) (l:= [(75, .pu s_gradineref02_Cmp),(119, .pu s_gradineref02_Right),(120, .pu s_gradineref05_Gcd)]) (C:=noCuts) (by kernel_rfl) tab_ok ⟨o_gradineref02_Cmp,o_gradineref02_Right,o_gradineref05_Gcd,trivial⟩ (fn:=Tryz.f65) (by kernel_rfl) rfl (by kernel_rfl) (by decide) (by kernel_rfl) (F:=fun k x=>gradineref07_Right.f k x.1.1 x.1.2.1 x.1.2.2) (m:=m_gradineref07_Right) (fun k x=>rfl)
  (by exact trivial)
  (fun k ⟨(a0:Bool × List Int × List Int),_⟩=>by show LeT m_gradineref07_Right (gradineref07_Right.f k a0.1 a0.2.1 a0.2.2) _;unfold gradineref07_Right.f;unfold gradineref07_Right.j0;exact goq)
end
section
attribute [local irreducible] gradineref07_Right.f
def s_gradineref16_Rats:FSpec:=⟨[(.row 45 (.cons .bool (.cons (.row 73 (.int .u64)) (.row 73 (.int .u64)))))],[.bool],fun k x=>(gradineref16_Rats.f k x.1).map fun r=>(r,())⟩
def m_gradineref16_Rats (r:Bool):TT s_gradineref16_Rats.rs:=(r,())
@[reducible] def q0_gradineref16_Rats:List Slot:= [.tmp 0 [.ty (.row 45 (.cons .bool (.cons (.row 73 (.int .u64)) (.row 73 (.int .u64)))))], .tmp 5 [.ty (.int .i64)], .tmp 6 [.ty (.int .i64)]]
def g0_gradineref16_Rats (k:Nat) (x:TS q0_gradineref16_Rats):Option (Bool):=gradineref16_Rats.l0 k x.1.1 x.2.1.1 x.2.2.1.1
def c_gradineref16_Rats:Cuts (TT s_gradineref16_Rats.rs):=⟨⟨16,16,[]⟩,lookC [(0,⟨q0_gradineref16_Rats,fun k x=>(g0_gradineref16_Rats k x).map m_gradineref16_Rats⟩)],lookC [],lookC []⟩
theorem o_gradineref16_Rats:FOk Tryz.prog 19 s_gradineref16_Rats :=
 fn_of (Bt:=blook []) (l:= [(65, .pu s_gradineref07_Right)]) (C:=c_gradineref16_Rats) (by kernel_rfl) tab_ok ⟨o_gradineref07_Right,trivial⟩ (fn:=Tryz.f19) (by kernel_rfl) rfl (by kernel_rfl) (by decide) (by kernel_rfl) (F:=fun k x=>gradineref16_Rats.f k x.1) (m:=m_gradineref16_Rats) (fun k x=>rfl)
  (by
   refine And.intro ?_ ?_
   ·refine ob_loop (sl:=q0_gradineref16_Rats) (F:=g0_gradineref16_Rats) (fun x=>rfl) fun k ⟨⟨(x0:List (Bool × (List Int) × List Int)),_⟩,⟨(x5:Int),_⟩,⟨(x6:Int),_⟩,_⟩=> ?_
    show LeT m_gradineref16_Rats (gradineref16_Rats.l0 (k+1) x0 x5 x6) _
    rw [gradineref16_Rats.l0];exact go
   exact trivial)
  (fun k ⟨(a0:List (Bool × (List Int) × List Int)),_⟩=>by show LeT m_gradineref16_Rats (gradineref16_Rats.f k a0) _;unfold gradineref16_Rats.f;exact go)
end
section
def s_gradineref15_Arity:FSpec:=⟨[.int .i64],[.int .i64],fun k x=>(gradineref15_Arity.f k x.1).map fun r=>(r,())⟩
def m_gradineref15_Arity (r:Int):TT s_gradineref15_Arity.rs:=(r,())
@[reducible] def q0_gradineref15_Arity:List Slot:= [.tmp 0 [.ty (.int .i64)], .tmp 8 [.ty .bool]]
def g0_gradineref15_Arity (k:Nat) (x:TS q0_gradineref15_Arity):Option (Int):=gradineref15_Arity.j0 k x.1.1 x.2.1.1
@[reducible] def q1_gradineref15_Arity:List Slot:= [.tmp 0 [.ty (.int .i64)], .tmp 18 [.ty .bool]]
def g1_gradineref15_Arity (k:Nat) (x:TS q1_gradineref15_Arity):Option (Int):=gradineref15_Arity.j1 k x.1.1 x.2.1.1
def c_gradineref15_Arity:Cuts (TT s_gradineref15_Arity.rs):=⟨⟨25,25,[]⟩,lookC [],lookC [],lookC [(1,⟨q0_gradineref15_Arity,fun k x=>(g0_gradineref15_Arity k x).map m_gradineref15_Arity⟩),(3,⟨q1_gradineref15_Arity,fun k x=>(g1_gradineref15_Arity k x).map m_gradineref15_Arity⟩)]⟩
theorem o_gradineref15_Arity:FOk Tryz.prog 70 s_gradineref15_Arity :=
 fn_of (Bt:=blook []) (l:= []) (C:=c_gradineref15_Arity) (by kernel_rfl) tab_ok trivial (fn:=Tryz.f70) (by kernel_rfl) rfl (by kernel_rfl) (by decide) (by kernel_rfl) (F:=fun k x=>gradineref15_Arity.f k x.1) (m:=m_gradineref15_Arity) (fun k x=>rfl)
  (by
   refine And.intro ?_ ?_
   ·refine ob_join1 (sl:=q0_gradineref15_Arity) (F:=g0_gradineref15_Arity) (fun x=>rfl) fun k ⟨⟨(x0:Int),_⟩,⟨(x8:Bool),_⟩,_⟩=> ?_
    show LeT m_gradineref15_Arity (gradineref15_Arity.j0 (k+1) x0 x8) _
    rw [gradineref15_Arity.j0];exact go
   refine And.intro ?_ ?_
   ·refine ob_join1 (sl:=q1_gradineref15_Arity) (F:=g1_gradineref15_Arity) (fun x=>rfl) fun k ⟨⟨(x0:Int),_⟩,⟨(x18:Bool),_⟩,_⟩=> ?_
    show LeT m_gradineref15_Arity (gradineref15_Arity.j1 (k+1) x0 x18) _
    rw [gradineref15_Arity.j1];exact go
   exact trivial)
  (fun k ⟨(a0:Int),_⟩=>by show LeT m_gradineref15_Arity (gradineref15_Arity.f k a0) _;unfold gradineref15_Arity.f;exact go)
end
section
attribute [local irreducible] gradineref07_Same.f
def s_gradineref15_None:FSpec:=⟨[(.cons .bool (.cons (.row 73 (.int .u64)) (.row 73 (.int .u64))))],[.bool],fun k x=>(gradineref15_None.f k x.1.1 x.1.2.1 x.1.2.2).map fun r=>(r,())⟩
def m_gradineref15_None (r:Bool):TT s_gradineref15_None.rs:=(r,())
theorem o_gradineref15_None:FOk Tryz.prog 167 s_gradineref15_None :=
 fn_of (Bt:=blook []) (l:= [(37, .pu s_gradineref07_Same)]) (C:=noCuts) (by kernel_rfl) tab_ok ⟨o_gradineref07_Same,trivial⟩ (fn:=Tryz.f167) (by kernel_rfl) rfl (by kernel_rfl) (by decide) (by kernel_rfl) (F:=fun k x=>gradineref15_None.f k x.1.1 x.1.2.1 x.1.2.2) (m:=m_gradineref15_None) (fun k x=>rfl)
  (by exact trivial)
  (fun k ⟨(a0:Bool × List Int × List Int),_⟩=>by show LeT m_gradineref15_None (gradineref15_None.f k a0.1 a0.2.1 a0.2.2) _;unfold gradineref15_None.f;exact go)
end
section
attribute [local irreducible] gradineref07_Right.f gradineref15_Arity.f gradineref15_None.f
def s_gradineref15_Fits:FSpec:=⟨[(.cons (.int .i64) (.cons (.int .i64) (.cons (.int .i64) (.cons .bool (.cons (.row 73 (.int .u64)) (.row 73 (.int .u64))))))), .int .i64],[.bool],fun k x=>(gradineref15_Fits.f k x.1.1 x.1.2.1 x.1.2.2.1 x.1.2.2.2.1 x.1.2.2.2.2.1 x.1.2.2.2.2.2 x.2.1).map fun r=>(r,())⟩
def m_gradineref15_Fits (r:Bool):TT s_gradineref15_Fits.rs:=(r,())
theorem o_gradineref15_Fits:FOk Tryz.prog 92 s_gradineref15_Fits :=
 fn_of (Bt:=blook []) (l:= [(65, .pu s_gradineref07_Right),(70, .pu s_gradineref15_Arity),(167, .pu s_gradineref15_None)]) (C:=noCuts) (by kernel_rfl) tab_ok ⟨o_gradineref07_Right,o_gradineref15_Arity,o_gradineref15_None,trivial⟩ (fn:=Tryz.f92) (by kernel_rfl) rfl (by kernel_rfl) (by decide) (by kernel_rfl) (F:=fun k x=>gradineref15_Fits.f k x.1.1 x.1.2.1 x.1.2.2.1 x.1.2.2.2.1 x.1.2.2.2.2.1 x.1.2.2.2.2.2 x.2.1) (m:=m_gradineref15_Fits) (fun k x=>rfl)
  (by exact trivial)
  (fun k ⟨(a0:Int × Int × Int × Bool × List Int × List Int),(a1:Int),_⟩=>by show LeT m_gradineref15_Fits (gradineref15_Fits.f k a0.1 a0.2.1 a0.2.2.1 a0.2.2.2.1 a0.2.2.2.2.1 a0.2.2.2.2.2 a1) _;unfold gradineref15_Fits.f;exact go)
end
section
attribute [local irreducible] gradineref15_Fits.f
def s_gradineref15_Right:FSpec:=⟨[(.row 93 (.cons (.int .i64) (.cons (.int .i64) (.cons (.int .i64) (.cons .bool (.cons (.row 73 (.int .u64)) (.row 73 (.int .u64))))))))],[.bool],fun k x=>(gradineref15_Right.f k x.1).map fun r=>(r,())⟩
def m_gradineref15_Right (r:Bool):TT s_gradineref15_Right.rs:=(r,())
@[reducible] def q0_gradineref15_Right:List Slot:= [.tmp 0 [.ty (.row 93 (.cons (.int .i64) (.cons (.int .i64) (.cons (.int .i64) (.cons .bool (.cons (.row 73 (.int .u64)) (.row 73 (.int .u64))))))))], .tmp 5 [.ty (.int .i64)], .tmp 6 [.ty (.int .i64)]]
def g0_gradineref15_Right (k:Nat) (x:TS q0_gradineref15_Right):Option (Bool):=gradineref15_Right.l0 k x.1.1 x.2.1.1 x.2.2.1.1
def c_gradineref15_Right:Cuts (TT s_gradineref15_Right.rs):=⟨⟨20,20,[]⟩,lookC [(0,⟨q0_gradineref15_Right,fun k x=>(g0_gradineref15_Right k x).map m_gradineref15_Right⟩)],lookC [],lookC []⟩
theorem o_gradineref15_Right:FOk Tryz.prog 35 s_gradineref15_Right :=
 fn_of (Bt:=blook []) (l:= [(92, .pu s_gradineref15_Fits)]) (C:=c_gradineref15_Right) (by kernel_rfl) tab_ok ⟨o_gradineref15_Fits,trivial⟩ (fn:=Tryz.f35) (by kernel_rfl) rfl (by kernel_rfl) (by decide) (by kernel_rfl) (F:=fun k x=>gradineref15_Right.f k x.1) (m:=m_gradineref15_Right) (fun k x=>rfl)
  (by
   refine And.intro ?_ ?_
   ·refine ob_loop (sl:=q0_gradineref15_Right) (F:=g0_gradineref15_Right) (fun x=>rfl) fun k ⟨⟨(x0:List (Int × Int × Int × Bool × (List Int) × List Int)),_⟩,⟨(x5:Int),_⟩,⟨(x6:Int),_⟩,_⟩=> ?_
    show LeT m_gradineref15_Right (gradineref15_Right.l0 (k+1) x0 x5 x6) _
    rw [gradineref15_Right.l0];exact go
   exact trivial)
  (fun k ⟨(a0:List (Int × Int × Int × Bool × (List Int) × List Int)),_⟩=>by show LeT m_gradineref15_Right (gradineref15_Right.f k a0) _;unfold gradineref15_Right.f;exact go)
end
section
def s_gradineref15_Form:FSpec:=⟨[.int .i64],[.bool],fun _ x=>(gradineref15_Form.f x.1).map fun r=>(r,())⟩
def m_gradineref15_Form (r:Bool):TT s_gradineref15_Form.rs:=(r,())
theorem o_gradineref15_Form:FOk Tryz.prog 66 s_gradineref15_Form :=
 fn_of (Bt:=blook []) (l:= []) (C:=noCuts) (by kernel_rfl) tab_ok trivial (fn:=Tryz.f66) (by kernel_rfl) rfl (by kernel_rfl) (by decide) (by kernel_rfl) (F:=fun k x=>gradineref15_Form.f x.1) (m:=m_gradineref15_Form) (fun k x=>rfl)
  (by exact trivial)
  (fun k ⟨(a0:Int),_⟩=>by show LeT m_gradineref15_Form (gradineref15_Form.f a0) _;unfold gradineref15_Form.f;exact go)
end
section
def s_gradineref01_Len:FSpec:=⟨[.int .u64],[.int .i64],fun k x=>(gradineref01_Len.f k x.1).map fun r=>(r,())⟩
def m_gradineref01_Len (r:Int):TT s_gradineref01_Len.rs:=(r,())
@[reducible] def q0_gradineref01_Len:List Slot:= [.tmp 0 [.ty (.int .u64)], .tmp 3 [.ty (.int .i64)]]
def g0_gradineref01_Len (k:Nat) (x:TS q0_gradineref01_Len):Option (Int):=gradineref01_Len.l0 k x.1.1 x.2.1.1
def c_gradineref01_Len:Cuts (TT s_gradineref01_Len.rs):=⟨⟨11,11,[]⟩,lookC [(0,⟨q0_gradineref01_Len,fun k x=>(g0_gradineref01_Len k x).map m_gradineref01_Len⟩)],lookC [],lookC []⟩
theorem o_gradineref01_Len:FOk Tryz.prog 191 s_gradineref01_Len :=
 fn_of (Bt:=blook []) (l:= []) (C:=c_gradineref01_Len) (by kernel_rfl) tab_ok trivial (fn:=Tryz.f191) (by kernel_rfl) rfl (by kernel_rfl) (by decide) (by kernel_rfl) (F:=fun k x=>gradineref01_Len.f k x.1) (m:=m_gradineref01_Len) (fun k x=>rfl)
  (by
   refine And.intro ?_ ?_
   ·refine ob_loop (sl:=q0_gradineref01_Len) (F:=g0_gradineref01_Len) (fun x=>rfl) fun k ⟨⟨(x0:Int),_⟩,⟨(x3:Int),_⟩,_⟩=> ?_
    show LeT m_gradineref01_Len (gradineref01_Len.l0 (k+1) x0 x3) _
    rw [gradineref01_Len.l0];exact go
   exact trivial)
  (fun k ⟨(a0:Int),_⟩=>by show LeT m_gradineref01_Len (gradineref01_Len.f k a0) _;unfold gradineref01_Len.f;exact go)
end
section
attribute [local irreducible] gradineref02_Size.f gradineref01_Len.f
def s_gradineref02_Bits:FSpec:=⟨[(.row 73 (.int .u64))],[.int .i64],fun k x=>(gradineref02_Bits.f k x.1).map fun r=>(r,())⟩
def m_gradineref02_Bits (r:Int):TT s_gradineref02_Bits.rs:=(r,())
theorem o_gradineref02_Bits:FOk Tryz.prog 124 s_gradineref02_Bits :=
 fn_of (Bt:=blook []) (l:= [(126, .pu s_gradineref02_Size),(191, .pu s_gradineref01_Len)]) (C:=noCuts) (by kernel_rfl) tab_ok ⟨o_gradineref02_Size,o_gradineref01_Len,trivial⟩ (fn:=Tryz.f124) (by kernel_rfl) rfl (by kernel_rfl) (by decide) (by kernel_rfl) (F:=fun k x=>gradineref02_Bits.f k x.1) (m:=m_gradineref02_Bits) (fun k x=>rfl)
  (by exact trivial)
  (fun k ⟨(a0:List Int),_⟩=>by show LeT m_gradineref02_Bits (gradineref02_Bits.f k a0) _;unfold gradineref02_Bits.f;exact go)
end
section
def s_gradineref04_set:FSpec:=⟨[(.row 73 (.int .u64)), .int .i64],[(.row 73 (.int .u64))],fun k x=>(gradineref04_set.f k x.1 x.2.1).map fun r=>(r,())⟩
def m_gradineref04_set (r:List Int):TT s_gradineref04_set.rs:=(r,())
@[reducible] def q0_gradineref04_set:List Slot:= [.tmp 0 [.ty (.row 73 (.int .u64))], .tmp 1 [.ty (.int .i64)], .tmp 5 [.own .mine 5 73 (.int .u64)], .tmp 13 [.ty (.int .i64)], .tmp 14 [.ty (.int .i64)]]
def g0_gradineref04_set (k:Nat) (x:TS q0_gradineref04_set):Option (List Int):=gradineref04_set.l0 k x.1.1 x.2.1.1 x.2.2.1.1 x.2.2.2.1.1 x.2.2.2.2.1.1
def c_gradineref04_set:Cuts (TT s_gradineref04_set.rs):=⟨⟨41,41,[]⟩,lookC [(0,⟨q0_gradineref04_set,fun k x=>(g0_gradineref04_set k x).map m_gradineref04_set⟩)],lookC [],lookC []⟩
theorem o_gradineref04_set:FOk Tryz.prog 228 s_gradineref04_set :=
 fn_of (Bt:=blook []) (l:= []) (C:=c_gradineref04_set) (by kernel_rfl) tab_ok trivial (fn:=Tryz.f228) (by kernel_rfl) rfl (by kernel_rfl) (by decide) (by kernel_rfl) (F:=fun k x=>gradineref04_set.f k x.1 x.2.1) (m:=m_gradineref04_set) (fun k x=>rfl)
  (by
   refine And.intro ?_ ?_
   ·refine ob_loop (sl:=q0_gradineref04_set) (F:=g0_gradineref04_set) (fun x=>rfl) fun k ⟨⟨(x0:List Int),_⟩,⟨(x1:Int),_⟩,⟨(x5:List Int),_⟩,⟨(x13:Int),_⟩,⟨(x14:Int),_⟩,_⟩=> ?_
    show LeT m_gradineref04_set (gradineref04_set.l0 (k+1) x0 x1 x5 x13 x14) _
    rw [gradineref04_set.l0];exact go
   exact trivial)
  (fun k ⟨(a0:List Int),(a1:Int),_⟩=>by show LeT m_gradineref04_set (gradineref04_set.f k a0 a1) _;unfold gradineref04_set.f;exact go)
end
section
attribute [local irreducible] gradineref02_Cmp.f gradineref02_Sub.f gradineref02_Bits.f gradineref02_Size.f gradineref02_Shl.f gradineref02_Trim.f gradineref02_Shr.f gradineref02_Bit.f gradineref04_set.f
def s_gradineref04_Div:FSpec:=⟨[(.row 73 (.int .u64)),(.row 73 (.int .u64))],[(.row 73 (.int .u64)),(.row 73 (.int .u64))],fun k x=>(gradineref04_Div.f k x.1 x.2.1).map fun r=>(r.1,r.2,())⟩
def m_gradineref04_Div (r:List Int × List Int):TT s_gradineref04_Div.rs:=(r.1,r.2,())
@[reducible] def q0_gradineref04_Div:List Slot:= [.tmp 0 [.ty (.row 73 (.int .u64))], .tmp 1 [.ty (.row 73 (.int .u64))], .tmp 6 [.ty (.row 73 (.int .u64))], .tmp 18 [.ty .bool]]
def g0_gradineref04_Div (k:Nat) (x:TS q0_gradineref04_Div):Option (List Int × List Int):=gradineref04_Div.j0 k x.1.1 x.2.1.1 x.2.2.1.1 x.2.2.2.1.1
@[reducible] def q1_gradineref04_Div:List Slot:= [.tmp 0 [.ty (.row 73 (.int .u64))], .tmp 1 [.ty (.row 73 (.int .u64))], .tmp 6 [.ty (.row 73 (.int .u64))], .tmp 7 [.ty (.row 73 (.int .u64))], .tmp 10 [.ty (.int .i64)]]
def g1_gradineref04_Div (k:Nat) (x:TS q1_gradineref04_Div):Option (List Int × List Int):=gradineref04_Div.l0 k x.1.1 x.2.1.1 x.2.2.1.1 x.2.2.2.1.1 x.2.2.2.2.1.1
@[reducible] def q2_gradineref04_Div:List Slot:= [.tmp 0 [.ty (.row 73 (.int .u64))], .tmp 1 [.ty (.row 73 (.int .u64))], .tmp 6 [.ty (.row 73 (.int .u64))], .tmp 7 [.ty (.row 73 (.int .u64))], .tmp 10 [.ty (.int .i64)]]
def g2_gradineref04_Div (k:Nat) (x:TS q2_gradineref04_Div):Option (List Int × List Int):=gradineref04_Div.j2 k x.1.1 x.2.1.1 x.2.2.1.1 x.2.2.2.1.1 x.2.2.2.2.1.1
def c_gradineref04_Div:Cuts (TT s_gradineref04_Div.rs):=⟨⟨75,75,[]⟩,lookC [(0,⟨q1_gradineref04_Div,fun k x=>(g1_gradineref04_Div k x).map m_gradineref04_Div⟩)],lookC [(13,⟨q2_gradineref04_Div,fun k x=>(g2_gradineref04_Div k x).map m_gradineref04_Div⟩)],lookC [(2,⟨q0_gradineref04_Div,fun k x=>(g0_gradineref04_Div k x).map m_gradineref04_Div⟩)]⟩
theorem o_gradineref04_Div:FOk Tryz.prog 156 s_gradineref04_Div :=
 fn_of (Bt:=blook [(3,[0,1,3,0,8,24,63,127,255,0,512,1536,0,4096,12288,32256,65024,131071,262143,524287])]) (l:= [(75, .pu s_gradineref02_Cmp),(76, .pu s_gradineref02_Sub),(124, .pu s_gradineref02_Bits),(126, .pu s_gradineref02_Size),(157, .pu s_gradineref02_Shl),(188, .pu s_gradineref02_Trim),(190, .pu s_gradineref02_Shr),(227, .pu s_gradineref02_Bit),(228, .pu s_gradineref04_set)]) (C:=c_gradineref04_Div) (by kernel_rfl) tab_ok ⟨o_gradineref02_Cmp,o_gradineref02_Sub,o_gradineref02_Bits,o_gradineref02_Size,o_gradineref02_Shl,o_gradineref02_Trim,o_gradineref02_Shr,o_gradineref02_Bit,o_gradineref04_set,trivial⟩ (fn:=Tryz.f156) (by kernel_rfl) rfl (by kernel_rfl) (by decide) (by kernel_rfl) (F:=fun k x=>gradineref04_Div.f k x.1 x.2.1) (m:=m_gradineref04_Div) (fun k x=>rfl)
  (by
   refine And.intro ?_ ?_
   ·refine ob_join1 (sl:=q0_gradineref04_Div) (F:=g0_gradineref04_Div) (fun x=>rfl) fun k ⟨⟨(x0:List Int),_⟩,⟨(x1:List Int),_⟩,⟨(x6:List Int),_⟩,⟨(x18:Bool),_⟩,_⟩=> ?_
    show LeT m_gradineref04_Div (gradineref04_Div.j0 (k+1) x0 x1 x6 x18) _
    rw [gradineref04_Div.j0];exact go
   refine And.intro ?_ ?_
   ·refine ob_loop (sl:=q1_gradineref04_Div) (F:=g1_gradineref04_Div) (fun x=>rfl) fun k ⟨⟨(x0:List Int),_⟩,⟨(x1:List Int),_⟩,⟨(x6:List Int),_⟩,⟨(x7:List Int),_⟩,⟨(x10:Int),_⟩,_⟩=> ?_
    show LeT m_gradineref04_Div (gradineref04_Div.l0 (k+1) x0 x1 x6 x7 x10) _
    rw [gradineref04_Div.l0];exact go
   refine And.intro ?_ ?_
   ·refine ob_join1 (sl:=q2_gradineref04_Div) (F:=g2_gradineref04_Div) (fun x=>rfl) fun k ⟨⟨(x0:List Int),_⟩,⟨(x1:List Int),_⟩,⟨(x6:List Int),_⟩,⟨(x7:List Int),_⟩,⟨(x10:Int),_⟩,_⟩=> ?_
    show LeT m_gradineref04_Div (gradineref04_Div.j2 (k+1) x0 x1 x6 x7 x10) _
    rw [gradineref04_Div.j2];exact go
   exact trivial)
  (fun k ⟨(a0:List Int),(a1:List Int),_⟩=>by show LeT m_gradineref04_Div (gradineref04_Div.f k a0 a1) _;unfold gradineref04_Div.f;exact go)
end
section
attribute [local irreducible] gradineref02_Cmp.f gradineref02_Size.f gradineref04_Div.f gradineref02_Trim.f
def s_gradineref05_Part:FSpec:=⟨[(.row 73 (.int .u64)),(.row 73 (.int .u64))],[(.row 73 (.int .u64))],fun k x=>(gradineref05_Part.f k x.1 x.2.1).map fun r=>(r,())⟩
def m_gradineref05_Part (r:List Int):TT s_gradineref05_Part.rs:=(r,())
theorem o_gradineref05_Part:FOk Tryz.prog 127 s_gradineref05_Part :=
 fn_of (Bt:=blook []) (l:= [(75, .pu s_gradineref02_Cmp),(126, .pu s_gradineref02_Size),(156, .pu s_gradineref04_Div),(188, .pu s_gradineref02_Trim)]) (C:=noCuts) (by kernel_rfl) tab_ok ⟨o_gradineref02_Cmp,o_gradineref02_Size,o_gradineref04_Div,o_gradineref02_Trim,trivial⟩ (fn:=Tryz.f127) (by kernel_rfl) rfl (by kernel_rfl) (by decide) (by kernel_rfl) (F:=fun k x=>gradineref05_Part.f k x.1 x.2.1) (m:=m_gradineref05_Part) (fun k x=>rfl)
  (by exact trivial)
  (fun k ⟨(a0:List Int),(a1:List Int),_⟩=>by show LeT m_gradineref05_Part (gradineref05_Part.f k a0 a1) _;unfold gradineref05_Part.f;exact go)
end
section
attribute [local irreducible] gradineref05_Gcd.f gradineref02_Size.f gradineref05_Part.f
def s_gradineref07_Make:FSpec:=⟨[.bool,(.row 73 (.int .u64)),(.row 73 (.int .u64))],[(.cons .bool (.cons (.row 73 (.int .u64)) (.row 73 (.int .u64))))],fun k x=>(gradineref07_Make.f k x.1 x.2.1 x.2.2.1).map fun r=>((r.1,r.2.1,r.2.2),())⟩
def m_gradineref07_Make (r:Bool × List Int × List Int):TT s_gradineref07_Make.rs:=((r.1,r.2.1,r.2.2),())
theorem o_gradineref07_Make:FOk Tryz.prog 72 s_gradineref07_Make :=
 fn_of (Bt:=blook []) (l:= [(120, .pu s_gradineref05_Gcd),(126, .pu s_gradineref02_Size),(127, .pu s_gradineref05_Part)]) (C:=noCuts) (by kernel_rfl) tab_ok ⟨o_gradineref05_Gcd,o_gradineref02_Size,o_gradineref05_Part,trivial⟩ (fn:=Tryz.f72) (by kernel_rfl) rfl (by kernel_rfl) (by decide) (by kernel_rfl) (F:=fun k x=>gradineref07_Make.f k x.1 x.2.1 x.2.2.1) (m:=m_gradineref07_Make) (fun k x=>rfl)
  (by exact trivial)
  (fun k ⟨(a0:Bool),(a1:List Int),(a2:List Int),_⟩=>by show LeT m_gradineref07_Make (gradineref07_Make.f k a0 a1 a2) _;unfold gradineref07_Make.f;exact go)
end
section
attribute [local irreducible] gradineref02_Halves.f gradineref02_Whole.f
def s_gradineref03_Mul:FSpec:=⟨[(.row 73 (.int .u64)),(.row 73 (.int .u64))],[(.row 73 (.int .u64))],fun k x=>(gradineref03_Mul.f k x.1 x.2.1).map fun r=>(r,())⟩
def m_gradineref03_Mul (r:List Int):TT s_gradineref03_Mul.rs:=(r,())
@[reducible] def q0_gradineref03_Mul:List Slot:= [.tmp 5 [.ty (.row 73 (.int .u64))], .tmp 6 [.ty (.row 73 (.int .u64))], .tmp 7 [.own .mine 7 73 (.int .u64)], .tmp 23 [.ty (.int .i64)], .tmp 24 [.ty (.int .i64)]]
def g0_gradineref03_Mul (k:Nat) (x:TS q0_gradineref03_Mul):Option (List Int):=gradineref03_Mul.l0 k x.1.1 x.2.1.1 x.2.2.1.1 x.2.2.2.1.1 x.2.2.2.2.1.1
@[reducible] def q1_gradineref03_Mul:List Slot:= [.tmp 5 [.ty (.row 73 (.int .u64))], .tmp 6 [.ty (.row 73 (.int .u64))], .tmp 7 [.own .mine 7 73 (.int .u64)], .tmp 8 [.ty (.int .i64)], .tmp 9 [.ty (.int .u64)], .tmp 23 [.ty (.int .i64)], .tmp 24 [.ty (.int .i64)], .tmp 28 [.ty (.int .i64)], .tmp 29 [.ty (.int .i64)]]
def g1_gradineref03_Mul (k:Nat) (x:TS q1_gradineref03_Mul):Option (List Int):=gradineref03_Mul.l1 k x.1.1 x.2.1.1 x.2.2.1.1 x.2.2.2.1.1 x.2.2.2.2.1.1 x.2.2.2.2.2.1.1 x.2.2.2.2.2.2.1.1 x.2.2.2.2.2.2.2.1.1 x.2.2.2.2.2.2.2.2.1.1
def c_gradineref03_Mul:Cuts (TT s_gradineref03_Mul.rs):=⟨⟨70,70,[]⟩,lookC [(0,⟨q0_gradineref03_Mul,fun k x=>(g0_gradineref03_Mul k x).map m_gradineref03_Mul⟩),(1,⟨q1_gradineref03_Mul,fun k x=>(g1_gradineref03_Mul k x).map m_gradineref03_Mul⟩)],lookC [],lookC []⟩
theorem o_gradineref03_Mul:FOk Tryz.prog 73 s_gradineref03_Mul :=
 fn_of (Bt:=blook [(10,[0,0,0,6,14,0,0,96,224,510,1023,0,0,0,12288,30720,63488,131071,262143])]) (l:= [(128, .pu s_gradineref02_Halves),(129, .pu s_gradineref02_Whole)]) (C:=c_gradineref03_Mul) (by kernel_rfl) tab_ok ⟨o_gradineref02_Halves,o_gradineref02_Whole,trivial⟩ (fn:=Tryz.f73) (by kernel_rfl) rfl (by kernel_rfl) (by decide) (by kernel_rfl) (F:=fun k x=>gradineref03_Mul.f k x.1 x.2.1) (m:=m_gradineref03_Mul) (fun k x=>rfl)
  (by
   refine And.intro ?_ ?_
   ·refine ob_loop (sl:=q0_gradineref03_Mul) (F:=g0_gradineref03_Mul) (fun x=>rfl) fun k ⟨⟨(x5:List Int),_⟩,⟨(x6:List Int),_⟩,⟨(x7:List Int),_⟩,⟨(x23:Int),_⟩,⟨(x24:Int),_⟩,_⟩=> ?_
    show LeT m_gradineref03_Mul (gradineref03_Mul.l0 (k+1) x5 x6 x7 x23 x24) _
    rw [gradineref03_Mul.l0];exact go
   refine And.intro ?_ ?_
   ·refine ob_loop (sl:=q1_gradineref03_Mul) (F:=g1_gradineref03_Mul) (fun x=>rfl) fun k ⟨⟨(x5:List Int),_⟩,⟨(x6:List Int),_⟩,⟨(x7:List Int),_⟩,⟨(x8:Int),_⟩,⟨(x9:Int),_⟩,⟨(x23:Int),_⟩,⟨(x24:Int),_⟩,⟨(x28:Int),_⟩,⟨(x29:Int),_⟩,_⟩=> ?_
    show LeT m_gradineref03_Mul (gradineref03_Mul.l1 (k+1) x5 x6 x7 x8 x9 x23 x24 x28 x29) _
    rw [gradineref03_Mul.l1];exact go
   exact trivial)
  (fun k ⟨(a0:List Int),(a1:List Int),_⟩=>by show LeT m_gradineref03_Mul (gradineref03_Mul.f k a0 a1) _;unfold gradineref03_Mul.f;exact go)
end
section
attribute [local irreducible] gradineref02_Halves.f gradineref02_Whole.f gradineref02_at.f
def s_gradineref02_Add:FSpec:=⟨[(.row 73 (.int .u64)),(.row 73 (.int .u64))],[(.row 73 (.int .u64))],fun k x=>(gradineref02_Add.f k x.1 x.2.1).map fun r=>(r,())⟩
def m_gradineref02_Add (r:List Int):TT s_gradineref02_Add.rs:=(r,())
@[reducible] def q0_gradineref02_Add:List Slot:= [.tmp 5 [.ty (.row 73 (.int .u64))], .tmp 6 [.ty (.row 73 (.int .u64))], .tmp 7 [.own .mine 7 73 (.int .u64)], .tmp 8 [.ty (.int .u64)], .tmp 19 [.ty (.int .i64)], .tmp 20 [.ty (.int .i64)]]
def g0_gradineref02_Add (k:Nat) (x:TS q0_gradineref02_Add):Option (List Int):=gradineref02_Add.l0 k x.1.1 x.2.1.1 x.2.2.1.1 x.2.2.2.1.1 x.2.2.2.2.1.1 x.2.2.2.2.2.1.1
def c_gradineref02_Add:Cuts (TT s_gradineref02_Add.rs):=⟨⟨42,42,[]⟩,lookC [(0,⟨q0_gradineref02_Add,fun k x=>(g0_gradineref02_Add k x).map m_gradineref02_Add⟩)],lookC [],lookC []⟩
theorem o_gradineref02_Add:FOk Tryz.prog 74 s_gradineref02_Add :=
 fn_of (Bt:=blook []) (l:= [(128, .pu s_gradineref02_Halves),(129, .pu s_gradineref02_Whole),(130, .pu s_gradineref02_at)]) (C:=c_gradineref02_Add) (by kernel_rfl) tab_ok ⟨o_gradineref02_Halves,o_gradineref02_Whole,o_gradineref02_at,trivial⟩ (fn:=Tryz.f74) (by kernel_rfl) rfl (by kernel_rfl) (by decide) (by kernel_rfl) (F:=fun k x=>gradineref02_Add.f k x.1 x.2.1) (m:=m_gradineref02_Add) (fun k x=>rfl)
  (by
   refine And.intro ?_ ?_
   ·refine ob_loop (sl:=q0_gradineref02_Add) (F:=g0_gradineref02_Add) (fun x=>rfl) fun k ⟨⟨(x5:List Int),_⟩,⟨(x6:List Int),_⟩,⟨(x7:List Int),_⟩,⟨(x8:Int),_⟩,⟨(x19:Int),_⟩,⟨(x20:Int),_⟩,_⟩=> ?_
    show LeT m_gradineref02_Add (gradineref02_Add.l0 (k+1) x5 x6 x7 x8 x19 x20) _
    rw [gradineref02_Add.l0];exact go
   exact trivial)
  (fun k ⟨(a0:List Int),(a1:List Int),_⟩=>by show LeT m_gradineref02_Add (gradineref02_Add.f k a0 a1) _;unfold gradineref02_Add.f;exact go)
end
section
attribute [local irreducible] gradineref07_Make.f gradineref03_Mul.f gradineref02_Add.f gradineref02_Cmp.f gradineref02_Sub.f
def s_gradineref07_Add:FSpec:=⟨[(.cons .bool (.cons (.row 73 (.int .u64)) (.row 73 (.int .u64)))),(.cons .bool (.cons (.row 73 (.int .u64)) (.row 73 (.int .u64))))],[(.cons .bool (.cons (.row 73 (.int .u64)) (.row 73 (.int .u64))))],fun k x=>(gradineref07_Add.f k x.1.1 x.1.2.1 x.1.2.2 x.2.1.1 x.2.1.2.1 x.2.1.2.2).map fun r=>((r.1,r.2.1,r.2.2),())⟩
def m_gradineref07_Add (r:Bool × List Int × List Int):TT s_gradineref07_Add.rs:=((r.1,r.2.1,r.2.2),())
theorem o_gradineref07_Add:FOk Tryz.prog 23 s_gradineref07_Add :=
 fn_of (Bt:=blook [(5,[0,1,0,0,12,0,63,127]),(7,[0,1,0,0,12,0,63,127]),(8,[0,1,0,0,12,0,63,127])]) (l:= [(72, .pu s_gradineref07_Make),(73, .pu s_gradineref03_Mul),(74, .pu s_gradineref02_Add),(75, .pu s_gradineref02_Cmp),(76, .pu s_gradineref02_Sub)]) (C:=noCuts) (by kernel_rfl) tab_ok ⟨o_gradineref07_Make,o_gradineref03_Mul,o_gradineref02_Add,o_gradineref02_Cmp,o_gradineref02_Sub,trivial⟩ (fn:=Tryz.f23) (by kernel_rfl) rfl (by kernel_rfl) (by decide) (by kernel_rfl) (F:=fun k x=>gradineref07_Add.f k x.1.1 x.1.2.1 x.1.2.2 x.2.1.1 x.2.1.2.1 x.2.1.2.2) (m:=m_gradineref07_Add) (fun k x=>rfl)
  (by exact trivial)
  (fun k ⟨(a0:Bool × List Int × List Int),(a1:Bool × List Int × List Int),_⟩=>by show LeT m_gradineref07_Add (gradineref07_Add.f k a0.1 a0.2.1 a0.2.2 a1.1 a1.2.1 a1.2.2) _;unfold gradineref07_Add.f;exact go)
end
section
attribute [local irreducible] gradineref07_Make.f gradineref03_Mul.f
def s_gradineref07_Mul:FSpec:=⟨[(.cons .bool (.cons (.row 73 (.int .u64)) (.row 73 (.int .u64)))),(.cons .bool (.cons (.row 73 (.int .u64)) (.row 73 (.int .u64))))],[(.cons .bool (.cons (.row 73 (.int .u64)) (.row 73 (.int .u64))))],fun k x=>(gradineref07_Mul.f k x.1.1 x.1.2.1 x.1.2.2 x.2.1.1 x.2.1.2.1 x.2.1.2.2).map fun r=>((r.1,r.2.1,r.2.2),())⟩
def m_gradineref07_Mul (r:Bool × List Int × List Int):TT s_gradineref07_Mul.rs:=((r.1,r.2.1,r.2.2),())
theorem o_gradineref07_Mul:FOk Tryz.prog 24 s_gradineref07_Mul :=
 fn_of (Bt:=blook [(1,[0,1,0,4,15,0,32,0,128,480,0,1024,0,4096,16352,32767,65535])]) (l:= [(72, .pu s_gradineref07_Make),(73, .pu s_gradineref03_Mul)]) (C:=noCuts) (by kernel_rfl) tab_ok ⟨o_gradineref07_Make,o_gradineref03_Mul,trivial⟩ (fn:=Tryz.f24) (by kernel_rfl) rfl (by kernel_rfl) (by decide) (by kernel_rfl) (F:=fun k x=>gradineref07_Mul.f k x.1.1 x.1.2.1 x.1.2.2 x.2.1.1 x.2.1.2.1 x.2.1.2.2) (m:=m_gradineref07_Mul) (fun k x=>rfl)
  (by exact trivial)
  (fun k ⟨(a0:Bool × List Int × List Int),(a1:Bool × List Int × List Int),_⟩=>by show LeT m_gradineref07_Mul (gradineref07_Mul.f k a0.1 a0.2.1 a0.2.2 a1.1 a1.2.1 a1.2.2) _;unfold gradineref07_Mul.f;exact go)
end
section
attribute [local irreducible] gradineref07_Make.f gradineref03_Mul.f
def s_gradineref07_Div:FSpec:=⟨[(.cons .bool (.cons (.row 73 (.int .u64)) (.row 73 (.int .u64)))),(.cons .bool (.cons (.row 73 (.int .u64)) (.row 73 (.int .u64))))],[(.cons .bool (.cons (.row 73 (.int .u64)) (.row 73 (.int .u64))))],fun k x=>(gradineref07_Div.f k x.1.1 x.1.2.1 x.1.2.2 x.2.1.1 x.2.1.2.1 x.2.1.2.2).map fun r=>((r.1,r.2.1,r.2.2),())⟩
def m_gradineref07_Div (r:Bool × List Int × List Int):TT s_gradineref07_Div.rs:=((r.1,r.2.1,r.2.2),())
theorem o_gradineref07_Div:FOk Tryz.prog 53 s_gradineref07_Div :=
 fn_of (Bt:=blook [(1,[0,1,0,4,15,0,32,0,128,480,0,1024,0,4096,16352,32767,65535])]) (l:= [(72, .pu s_gradineref07_Make),(73, .pu s_gradineref03_Mul)]) (C:=noCuts) (by kernel_rfl) tab_ok ⟨o_gradineref07_Make,o_gradineref03_Mul,trivial⟩ (fn:=Tryz.f53) (by kernel_rfl) rfl (by kernel_rfl) (by decide) (by kernel_rfl) (F:=fun k x=>gradineref07_Div.f k x.1.1 x.1.2.1 x.1.2.2 x.2.1.1 x.2.1.2.1 x.2.1.2.2) (m:=m_gradineref07_Div) (fun k x=>rfl)
  (by exact trivial)
  (fun k ⟨(a0:Bool × List Int × List Int),(a1:Bool × List Int × List Int),_⟩=>by show LeT m_gradineref07_Div (gradineref07_Div.f k a0.1 a0.2.1 a0.2.2 a1.1 a1.2.1 a1.2.2) _;unfold gradineref07_Div.f;exact go)
end
section
attribute [local irreducible] gradineref07_Make.f
def s_gradineref07_Neg:FSpec:=⟨[(.cons .bool (.cons (.row 73 (.int .u64)) (.row 73 (.int .u64))))],[(.cons .bool (.cons (.row 73 (.int .u64)) (.row 73 (.int .u64))))],fun k x=>(gradineref07_Neg.f k x.1.1 x.1.2.1 x.1.2.2).map fun r=>((r.1,r.2.1,r.2.2),())⟩
def m_gradineref07_Neg (r:Bool × List Int × List Int):TT s_gradineref07_Neg.rs:=((r.1,r.2.1,r.2.2),())
theorem o_gradineref07_Neg:FOk Tryz.prog 121 s_gradineref07_Neg :=
 fn_of (Bt:=blook []) (l:= [(72, .pu s_gradineref07_Make)]) (C:=noCuts) (by kernel_rfl) tab_ok ⟨o_gradineref07_Make,trivial⟩ (fn:=Tryz.f121) (by kernel_rfl) rfl (by kernel_rfl) (by decide) (by kernel_rfl) (F:=fun k x=>gradineref07_Neg.f k x.1.1 x.1.2.1 x.1.2.2) (m:=m_gradineref07_Neg) (fun k x=>rfl)
  (by exact trivial)
  (fun k ⟨(a0:Bool × List Int × List Int),_⟩=>by show LeT m_gradineref07_Neg (gradineref07_Neg.f k a0.1 a0.2.1 a0.2.2) _;unfold gradineref07_Neg.f;exact go)
end
section
attribute [local irreducible] gradineref07_Add.f gradineref07_Neg.f
def s_gradineref07_Sub:FSpec:=⟨[(.cons .bool (.cons (.row 73 (.int .u64)) (.row 73 (.int .u64)))),(.cons .bool (.cons (.row 73 (.int .u64)) (.row 73 (.int .u64))))],[(.cons .bool (.cons (.row 73 (.int .u64)) (.row 73 (.int .u64))))],fun k x=>(gradineref07_Sub.f k x.1.1 x.1.2.1 x.1.2.2 x.2.1.1 x.2.1.2.1 x.2.1.2.2).map fun r=>((r.1,r.2.1,r.2.2),())⟩
def m_gradineref07_Sub (r:Bool × List Int × List Int):TT s_gradineref07_Sub.rs:=((r.1,r.2.1,r.2.2),())
theorem o_gradineref07_Sub:FOk Tryz.prog 122 s_gradineref07_Sub :=
 fn_of (Bt:=blook [(1,[0,0,2,7,15])]) (l:= [(23, .pu s_gradineref07_Add),(121, .pu s_gradineref07_Neg)]) (C:=noCuts) (by kernel_rfl) tab_ok ⟨o_gradineref07_Add,o_gradineref07_Neg,trivial⟩ (fn:=Tryz.f122) (by kernel_rfl) rfl (by kernel_rfl) (by decide) (by kernel_rfl) (F:=fun k x=>gradineref07_Sub.f k x.1.1 x.1.2.1 x.1.2.2 x.2.1.1 x.2.1.2.1 x.2.1.2.2) (m:=m_gradineref07_Sub) (fun k x=>rfl)
  (by exact trivial)
  (fun k ⟨(a0:Bool × List Int × List Int),(a1:Bool × List Int × List Int),_⟩=>by show LeT m_gradineref07_Sub (gradineref07_Sub.f k a0.1 a0.2.1 a0.2.2 a1.1 a1.2.1 a1.2.2) _;unfold gradineref07_Sub.f;exact go)
end
section
def s_gradineref07_Zero:FSpec:=⟨[(.cons .bool (.cons (.row 73 (.int .u64)) (.row 73 (.int .u64))))],[.bool],fun _ x=>(gradineref07_Zero.f x.1.1 x.1.2.1 x.1.2.2).map fun r=>(r,())⟩
def m_gradineref07_Zero (r:Bool):TT s_gradineref07_Zero.rs:=(r,())
theorem o_gradineref07_Zero:FOk Tryz.prog 123 s_gradineref07_Zero :=
 fn_of (Bt:=blook []) (l:= []) (C:=noCuts) (by kernel_rfl) tab_ok trivial (fn:=Tryz.f123) (by kernel_rfl) rfl (by kernel_rfl) (by decide) (by kernel_rfl) (F:=fun k x=>gradineref07_Zero.f x.1.1 x.1.2.1 x.1.2.2) (m:=m_gradineref07_Zero) (fun k x=>rfl)
  (by exact trivial)
  (fun k ⟨(a0:Bool × List Int × List Int),_⟩=>by show LeT m_gradineref07_Zero (gradineref07_Zero.f a0.1 a0.2.1 a0.2.2) _;unfold gradineref07_Zero.f;exact go)
end
section
attribute [local irreducible] gradineref07_Add.f gradineref07_Mul.f gradineref07_Div.f gradineref07_Neg.f gradineref07_Sub.f gradineref07_Zero.f
def s_gradineref16_step:ISpec:=⟨[.ty (.cons (.int .i64) (.cons (.int .i64) (.cons (.int .i64) (.cons .bool (.cons (.row 73 (.int .u64)) (.row 73 (.int .u64))))))), .bor 45 (.cons .bool (.cons (.row 73 (.int .u64)) (.row 73 (.int .u64))))],[(.cons .bool (.cons (.row 73 (.int .u64)) (.row 73 (.int .u64)))), .int .i64],fun k x=>(gradineref16_step.f k x.1.1 x.1.2.1 x.1.2.2.1 x.1.2.2.2.1 x.1.2.2.2.2.1 x.1.2.2.2.2.2 x.2.1).map fun r=>(((r.1,(r.2.1,r.2.2.1)),r.2.2.2.1,()),(r.2.2.2.2,()))⟩
def m_gradineref16_step (r:Bool × List Int × List Int × Int × List (Bool × (List Int) × List Int)):TT s_gradineref16_step.rs × ET s_gradineref16_step.ps:=(((r.1,(r.2.1,r.2.2.1)),r.2.2.2.1,()),(r.2.2.2.2,()))
def c_gradineref16_step:Cuts (TT s_gradineref16_step.rs × ET s_gradineref16_step.ps):=⟨⟨47,48,[47]⟩,lookC [],lookC [],lookC []⟩
theorem o_gradineref16_step:FIk Tryz.prog 67 s_gradineref16_step :=
 fi_of (Bt:=blook []) (l:= [(23, .pu s_gradineref07_Add),(24, .pu s_gradineref07_Mul),(53, .pu s_gradineref07_Div),(121, .pu s_gradineref07_Neg),(122, .pu s_gradineref07_Sub),(123, .pu s_gradineref07_Zero)]) (C:=c_gradineref16_step) (by kernel_rfl) tab_ok ⟨o_gradineref07_Add,o_gradineref07_Mul,o_gradineref07_Div,o_gradineref07_Neg,o_gradineref07_Sub,o_gradineref07_Zero,trivial⟩ (fn:=Tryz.f67) (by kernel_rfl) rfl (by kernel_rfl) (by decide) (by kernel_rfl) (m:=48) (by decide) (by decide) (F:=fun k x=>gradineref16_step.f k x.1.1 x.1.2.1 x.1.2.2.1 x.1.2.2.2.1 x.1.2.2.2.2.1 x.1.2.2.2.2.2 x.2.1) (q:=m_gradineref16_step) (fun k x=>rfl)
  (by exact trivial)
  (fun k ⟨(a0:Int × Int × Int × Bool × (List Int) × List Int),(a1:List (Bool × (List Int) × List Int)),_⟩=>by show LeT m_gradineref16_step (gradineref16_step.f k a0.1 a0.2.1 a0.2.2.1 a0.2.2.2.1 a0.2.2.2.2.1 a0.2.2.2.2.2 a1) _;unfold gradineref16_step.f;exact go)
end
section
attribute [local irreducible] gradineref02_Bits.f
def s_gradineref08_Bits:FSpec:=⟨[(.cons .bool (.cons (.row 73 (.int .u64)) (.row 73 (.int .u64))))],[.int .i64],fun k x=>(gradineref08_Bits.f k x.1.1 x.1.2.1 x.1.2.2).map fun r=>(r,())⟩
def m_gradineref08_Bits (r:Int):TT s_gradineref08_Bits.rs:=(r,())
theorem o_gradineref08_Bits:FOk Tryz.prog 68 s_gradineref08_Bits :=
 fn_of (Bt:=blook [(1,[0,1,3,0,8,31,63,127])]) (l:= [(124, .pu s_gradineref02_Bits)]) (C:=noCuts) (by kernel_rfl) tab_ok ⟨o_gradineref02_Bits,trivial⟩ (fn:=Tryz.f68) (by kernel_rfl) rfl (by kernel_rfl) (by decide) (by kernel_rfl) (F:=fun k x=>gradineref08_Bits.f k x.1.1 x.1.2.1 x.1.2.2) (m:=m_gradineref08_Bits) (fun k x=>rfl)
  (by exact trivial)
  (fun k ⟨(a0:Bool × List Int × List Int),_⟩=>by show LeT m_gradineref08_Bits (gradineref08_Bits.f k a0.1 a0.2.1 a0.2.2) _;unfold gradineref08_Bits.f;exact go)
end
section
attribute [local irreducible] gradineref16_Rats.f gradineref15_Right.f gradineref15_Form.f gradineref16_step.f gradineref08_Bits.f
def s_gradineref16_Exact:FSpec:=⟨[(.row 93 (.cons (.int .i64) (.cons (.int .i64) (.cons (.int .i64) (.cons .bool (.cons (.row 73 (.int .u64)) (.row 73 (.int .u64)))))))),(.row 45 (.cons .bool (.cons (.row 73 (.int .u64)) (.row 73 (.int .u64))))),(.row 45 (.cons .bool (.cons (.row 73 (.int .u64)) (.row 73 (.int .u64)))))],[(.row 45 (.cons .bool (.cons (.row 73 (.int .u64)) (.row 73 (.int .u64))))), .int .i64, .int .i64],fun k x=>(gradineref16_Exact.f k x.1 x.2.1 x.2.2.1).map fun r=>(r.1,r.2.1,r.2.2,())⟩
def m_gradineref16_Exact (r:List (Bool × List Int × List Int) × Int × Int):TT s_gradineref16_Exact.rs:=(r.1,r.2.1,r.2.2,())
@[reducible] def q0_gradineref16_Exact:List Slot:= [.tmp 0 [.ty (.row 93 (.cons (.int .i64) (.cons (.int .i64) (.cons (.int .i64) (.cons .bool (.cons (.row 73 (.int .u64)) (.row 73 (.int .u64))))))))], .tmp 1 [.ty (.row 45 (.cons .bool (.cons (.row 73 (.int .u64)) (.row 73 (.int .u64)))))], .tmp 2 [.ty (.row 45 (.cons .bool (.cons (.row 73 (.int .u64)) (.row 73 (.int .u64)))))], .tmp 9 [.own .mine 9 45 (.cons .bool (.cons (.row 73 (.int .u64)) (.row 73 (.int .u64))))], .tmp 10 [.ty (.int .i64)], .tmp 29 [.ty (.int .i64)], .tmp 30 [.ty (.int .i64)]]
def g0_gradineref16_Exact (k:Nat) (x:TS q0_gradineref16_Exact):Option (List (Bool × List Int × List Int) × Int × Int):=gradineref16_Exact.l0 k x.1.1 x.2.1.1 x.2.2.1.1 x.2.2.2.1.1 x.2.2.2.2.1.1 x.2.2.2.2.2.1.1 x.2.2.2.2.2.2.1.1
@[reducible] def q1_gradineref16_Exact:List Slot:= []
def g1_gradineref16_Exact (k:Nat) (x:TS q1_gradineref16_Exact):Option (List (Bool × List Int × List Int) × Int × Int):=gradineref16_Exact.j2 k 
@[reducible] def q2_gradineref16_Exact:List Slot:= [.tmp 0 [.ty (.row 93 (.cons (.int .i64) (.cons (.int .i64) (.cons (.int .i64) (.cons .bool (.cons (.row 73 (.int .u64)) (.row 73 (.int .u64))))))))], .tmp 1 [.ty (.row 45 (.cons .bool (.cons (.row 73 (.int .u64)) (.row 73 (.int .u64)))))], .tmp 2 [.ty (.row 45 (.cons .bool (.cons (.row 73 (.int .u64)) (.row 73 (.int .u64)))))], .tmp 9 [.own .mine 9 45 (.cons .bool (.cons (.row 73 (.int .u64)) (.row 73 (.int .u64))))], .tmp 10 [.ty (.int .i64)], .tmp 11 [.ty (.int .i64)], .tmp 13 [.ptr 13 0], .tmp 14 [.ty (.int .i64)], .tmp 29 [.ty (.int .i64)], .tmp 30 [.ty (.int .i64)], .blk 13 .mine 45 [.ty .bool, .ty (.row 73 (.int .u64)), .ty (.row 73 (.int .u64))]]
def g2_gradineref16_Exact (k:Nat) (x:TS q2_gradineref16_Exact):Option (List (Bool × List Int × List Int) × Int × Int):=gradineref16_Exact.j23 k x.1.1 x.2.1.1 x.2.2.1.1 x.2.2.2.1.1 x.2.2.2.2.1.1 x.2.2.2.2.2.1.1 x.2.2.2.2.2.2.2.1.1 x.2.2.2.2.2.2.2.2.1.1 x.2.2.2.2.2.2.2.2.2.1.1 x.2.2.2.2.2.2.2.2.2.2.1.1 x.2.2.2.2.2.2.2.2.2.2.1.2.1 x.2.2.2.2.2.2.2.2.2.2.1.2.2.1
@[reducible] def q3_gradineref16_Exact:List Slot:= [.tmp 0 [.ty (.row 93 (.cons (.int .i64) (.cons (.int .i64) (.cons (.int .i64) (.cons .bool (.cons (.row 73 (.int .u64)) (.row 73 (.int .u64))))))))], .tmp 1 [.ty (.row 45 (.cons .bool (.cons (.row 73 (.int .u64)) (.row 73 (.int .u64)))))], .tmp 2 [.ty (.row 45 (.cons .bool (.cons (.row 73 (.int .u64)) (.row 73 (.int .u64)))))], .tmp 9 [.own .mine 9 45 (.cons .bool (.cons (.row 73 (.int .u64)) (.row 73 (.int .u64))))], .tmp 10 [.ty (.int .i64)], .tmp 11 [.ty (.int .i64)], .tmp 13 [.ptr 13 0], .tmp 14 [.ty (.int .i64)], .tmp 29 [.ty (.int .i64)], .tmp 30 [.ty (.int .i64)], .blk 13 .mine 45 [.ty .bool, .ty (.row 73 (.int .u64)), .ty (.row 73 (.int .u64))]]
def g3_gradineref16_Exact (k:Nat) (x:TS q3_gradineref16_Exact):Option (List (Bool × List Int × List Int) × Int × Int):=gradineref16_Exact.j25 k x.1.1 x.2.1.1 x.2.2.1.1 x.2.2.2.1.1 x.2.2.2.2.1.1 x.2.2.2.2.2.1.1 x.2.2.2.2.2.2.2.1.1 x.2.2.2.2.2.2.2.2.1.1 x.2.2.2.2.2.2.2.2.2.1.1 x.2.2.2.2.2.2.2.2.2.2.1.1 x.2.2.2.2.2.2.2.2.2.2.1.2.1 x.2.2.2.2.2.2.2.2.2.2.1.2.2.1
def c_gradineref16_Exact:Cuts (TT s_gradineref16_Exact.rs):=⟨⟨94,95,[]⟩,lookC [(0,⟨q0_gradineref16_Exact,fun k x=>(g0_gradineref16_Exact k x).map m_gradineref16_Exact⟩)],lookC [(2,⟨q1_gradineref16_Exact,fun k x=>(g1_gradineref16_Exact k x).map m_gradineref16_Exact⟩),(23,⟨q2_gradineref16_Exact,fun k x=>(g2_gradineref16_Exact k x).map m_gradineref16_Exact⟩),(25,⟨q3_gradineref16_Exact,fun k x=>(g3_gradineref16_Exact k x).map m_gradineref16_Exact⟩)],lookC []⟩
theorem o_gradineref16_Exact:FOk Tryz.prog 20 s_gradineref16_Exact :=
 fn_of (Bt:=blook []) (l:= [(19, .pu s_gradineref16_Rats),(35, .pu s_gradineref15_Right),(66, .pu s_gradineref15_Form),(67, .io s_gradineref16_step [(74,94)]),(68, .pu s_gradineref08_Bits)]) (C:=c_gradineref16_Exact) (by kernel_rfl) tab_ok ⟨o_gradineref16_Rats,o_gradineref15_Right,o_gradineref15_Form,o_gradineref16_step,o_gradineref08_Bits,trivial⟩ (fn:=Tryz.f20) (by kernel_rfl) rfl (by kernel_rfl) (by decide) (by kernel_rfl) (F:=fun k x=>gradineref16_Exact.f k x.1 x.2.1 x.2.2.1) (m:=m_gradineref16_Exact) (fun k x=>rfl)
  (by
   refine And.intro ?_ ?_
   ·refine ob_join1 (sl:=q1_gradineref16_Exact) (F:=g1_gradineref16_Exact) (fun x=>rfl) fun k _=> ?_
    show LeT m_gradineref16_Exact (gradineref16_Exact.j2 (k+1)) _
    rw [gradineref16_Exact.j2];exact go
   refine And.intro ?_ ?_
   ·refine ob_loop (sl:=q0_gradineref16_Exact) (F:=g0_gradineref16_Exact) (fun x=>rfl) fun k ⟨⟨(x0:List (Int × Int × Int × Bool × (List Int) × List Int)),_⟩,⟨(x1:List (Bool × (List Int) × List Int)),_⟩,⟨(x2:List (Bool × (List Int) × List Int)),_⟩,⟨(x9:List (Bool × (List Int) × List Int)),_⟩,⟨(x10:Int),_⟩,⟨(x29:Int),_⟩,⟨(x30:Int),_⟩,_⟩=> ?_
    show LeT m_gradineref16_Exact (gradineref16_Exact.l0 (k+1) x0 x1 x2 x9 x10 x29 x30) _
    rw [gradineref16_Exact.l0];exact go
   refine And.intro ?_ ?_
   ·refine ob_join1 (sl:=q2_gradineref16_Exact) (F:=g2_gradineref16_Exact) (fun x=>rfl) fun k ⟨⟨(x0:List (Int × Int × Int × Bool × (List Int) × List Int)),_⟩,⟨(x1:List (Bool × (List Int) × List Int)),_⟩,⟨(x2:List (Bool × (List Int) × List Int)),_⟩,⟨(x9:List (Bool × (List Int) × List Int)),_⟩,⟨(x10:Int),_⟩,⟨(x11:Int),_⟩,_,⟨(x14:Int),_⟩,⟨(x29:Int),_⟩,⟨(x30:Int),_⟩,⟨(v13_0:Bool),(v13_1:List Int),(v13_2:List Int),_⟩,_⟩=> ?_
    show LeT m_gradineref16_Exact (gradineref16_Exact.j23 (k+1) x0 x1 x2 x9 x10 x11 x14 x29 x30 v13_0 v13_1 v13_2) _
    rw [gradineref16_Exact.j23];exact go
   refine And.intro ?_ ?_
   ·refine ob_join1 (sl:=q3_gradineref16_Exact) (F:=g3_gradineref16_Exact) (fun x=>rfl) fun k ⟨⟨(x0:List (Int × Int × Int × Bool × (List Int) × List Int)),_⟩,⟨(x1:List (Bool × (List Int) × List Int)),_⟩,⟨(x2:List (Bool × (List Int) × List Int)),_⟩,⟨(x9:List (Bool × (List Int) × List Int)),_⟩,⟨(x10:Int),_⟩,⟨(x11:Int),_⟩,_,⟨(x14:Int),_⟩,⟨(x29:Int),_⟩,⟨(x30:Int),_⟩,⟨(v13_0:Bool),(v13_1:List Int),(v13_2:List Int),_⟩,_⟩=> ?_
    show LeT m_gradineref16_Exact (gradineref16_Exact.j25 (k+1) x0 x1 x2 x9 x10 x11 x14 x29 x30 v13_0 v13_1 v13_2) _
    rw [gradineref16_Exact.j25];exact go
   exact trivial)
  (fun k ⟨(a0:List (Int × Int × Int × Bool × (List Int) × List Int)),(a1:List (Bool × (List Int) × List Int)),(a2:List (Bool × (List Int) × List Int)),_⟩=>by show LeT m_gradineref16_Exact (gradineref16_Exact.f k a0 a1 a2) _;unfold gradineref16_Exact.f;exact go)
end
section
attribute [local irreducible] gradineplain_Long.f
def s_gradineplain_Longer:FSpec:=⟨[(.row 45 (.cons .bool (.cons (.row 73 (.int .u64)) (.row 73 (.int .u64))))), .int .i64],[.bool],fun k x=>(gradineplain_Longer.f k x.1 x.2.1).map fun r=>(r,())⟩
def m_gradineplain_Longer (r:Bool):TT s_gradineplain_Longer.rs:=(r,())
@[reducible] def q0_gradineplain_Longer:List Slot:= [.tmp 0 [.ty (.row 45 (.cons .bool (.cons (.row 73 (.int .u64)) (.row 73 (.int .u64)))))], .tmp 1 [.ty (.int .i64)], .tmp 7 [.ty (.int .i64)], .tmp 8 [.ty (.int .i64)]]
def g0_gradineplain_Longer (k:Nat) (x:TS q0_gradineplain_Longer):Option (Bool):=gradineplain_Longer.l0 k x.1.1 x.2.1.1 x.2.2.1.1 x.2.2.2.1.1
def c_gradineplain_Longer:Cuts (TT s_gradineplain_Longer.rs):=⟨⟨18,18,[]⟩,lookC [(0,⟨q0_gradineplain_Longer,fun k x=>(g0_gradineplain_Longer k x).map m_gradineplain_Longer⟩)],lookC [],lookC []⟩
theorem o_gradineplain_Longer:FOk Tryz.prog 17 s_gradineplain_Longer :=
 fn_of (Bt:=blook []) (l:= [(60, .pu s_gradineplain_Long)]) (C:=c_gradineplain_Longer) (by kernel_rfl) tab_ok ⟨o_gradineplain_Long,trivial⟩ (fn:=Tryz.f17) (by kernel_rfl) rfl (by kernel_rfl) (by decide) (by kernel_rfl) (F:=fun k x=>gradineplain_Longer.f k x.1 x.2.1) (m:=m_gradineplain_Longer) (fun k x=>rfl)
  (by
   refine And.intro ?_ ?_
   ·refine ob_loop (sl:=q0_gradineplain_Longer) (F:=g0_gradineplain_Longer) (fun x=>rfl) fun k ⟨⟨(x0:List (Bool × (List Int) × List Int)),_⟩,⟨(x1:Int),_⟩,⟨(x7:Int),_⟩,⟨(x8:Int),_⟩,_⟩=> ?_
    show LeT m_gradineplain_Longer (gradineplain_Longer.l0 (k+1) x0 x1 x7 x8) _
    rw [gradineplain_Longer.l0];exact go
   exact trivial)
  (fun k ⟨(a0:List (Bool × (List Int) × List Int)),(a1:Int),_⟩=>by show LeT m_gradineplain_Longer (gradineplain_Longer.f k a0 a1) _;unfold gradineplain_Longer.f;exact go)
end
section
attribute [local irreducible] evals_Exact.f evals_Float.f
def s_gradinelaw16_same:FSpec:=⟨[],[.bool],fun k _=>(gradinelaw16_same.f k).map fun r=>(r,())⟩
def m_gradinelaw16_same (r:Bool):TT s_gradinelaw16_same.rs:=(r,())
theorem o_gradinelaw16_same:FOk Tryz.prog 29 s_gradinelaw16_same :=
 fn_of (Bt:=blook []) (l:= [(30, .pu s_evals_Exact),(32, .pu s_evals_Float)]) (C:=noCuts) (by kernel_rfl) tab_ok ⟨o_evals_Exact,o_evals_Float,trivial⟩ (fn:=Tryz.f29) (by kernel_rfl) rfl (by kernel_rfl) (by decide) (by kernel_rfl) (F:=fun k x=>gradinelaw16_same.f k) (m:=m_gradinelaw16_same) (fun k x=>rfl)
  (by exact trivial)
  (fun k x=>by show LeT m_gradinelaw16_same (gradinelaw16_same.f k) _;unfold gradinelaw16_same.f;exact go)
end
end Go.Proofs.YtjocbnjpjihpnaaGreat.A
