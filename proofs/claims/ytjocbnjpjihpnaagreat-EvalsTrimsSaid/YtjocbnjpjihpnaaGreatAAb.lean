/- Functions that come to what their texts say. -/
import Derived.Test.YtjocbnjpjihpnaaGreatAAa
import Derived.Test.YtjocbnjpjihpnaaGreatWWc
import Derived.Test.YtjocbnjpjihpnaaGreatBB
import Derived.Test.YtjocbnjpjihpnaaGreatFgradinelaw16Few
import Derived.Test.YtjocbnjpjihpnaaGreatFgradinelaw16same
namespace Go.Proofs.YtjocbnjpjihpnaaGreat.A
open Go.RowKit Go.Proofs.YtjocbnjpjihpnaaGreat.P Go.Proofs.YtjocbnjpjihpnaaGreatW.PrintWords Go.Proofs.YtjocbnjpjihpnaaGreatW.PrintLast Go.Proofs.YtjocbnjpjihpnaaGreatW.PrintMore Go.Proofs.YtjocbnjpjihpnaaGreatW.Abs
set_option linter.unusedVariables false
set_option linter.unusedSimpArgs false
set_option maxRecDepth 100000
set_option maxHeartbeats 4000000
section
attribute [local irreducible] gr02_Trim.f
def s_gr02_Whole:FSpec:=⟨[(.row 73 (.int .u64))],[(.row 73 (.int .u64))],fun k x=>(gr02_Whole.f k x.1).map fun r=>(r,())⟩
def m_gr02_Whole (r:List Int):TT s_gr02_Whole.rs:=(r,())
@[reducible] def q0_gr02_Whole:List Slot:= [.tmp 0 [.ty (.row 73 (.int .u64))], .tmp 3 [.own .mine 3 73 (.int .u64)], .tmp 4 [.ty (.int .i64)]]
def g0_gr02_Whole (k:Nat) (x:TS q0_gr02_Whole):Option (List Int):=gr02_Whole.l0 k x.1.1 x.2.1.1 x.2.2.1.1
def c_gr02_Whole:Cuts (TT s_gr02_Whole.rs):=⟨⟨35,35,[]⟩,lookC [(0,⟨q0_gr02_Whole,fun k x=>(g0_gr02_Whole k x).map m_gr02_Whole⟩)],lookC [],lookC []⟩
theorem o_gr02_Whole:FOk Tryz.prog 129 s_gr02_Whole :=
 fn_of (Bt:=blook []) (l:= [(188, .pu s_gr02_Trim)]) (C:=c_gr02_Whole) (by kernel_rfl) tab_ok ⟨o_gr02_Trim,trivial⟩ (fn:=Tryz.f129) (by kernel_rfl) rfl (by kernel_rfl) (by decide) (by kernel_rfl) (F:=fun k x=>gr02_Whole.f k x.1) (m:=m_gr02_Whole) (fun k x=>rfl)
  (by
   refine And.intro ?_ ?_
   ·refine ob_loop (sl:=q0_gr02_Whole) (F:=g0_gr02_Whole) (fun x=>rfl) fun k ⟨⟨(x0:List Int),_⟩,⟨(x3:List Int),_⟩,⟨(x4:Int),_⟩,_⟩=> ?_
    show LeT m_gr02_Whole (gr02_Whole.l0 (k+1) x0 x3 x4) _
    rw [gr02_Whole.l0];exact go
   exact trivial)
  (fun k ⟨(a0:List Int),_⟩=>by show LeT m_gr02_Whole (gr02_Whole.f k a0) _;unfold gr02_Whole.f;exact go)
end
section
attribute [local irreducible] gr02_Halves.f gr02_Whole.f gr02_at.f
def s_gr02_Sub:FSpec:=⟨[(.row 73 (.int .u64)),(.row 73 (.int .u64))],[(.row 73 (.int .u64))],fun k x=>(gr02_Sub.f k x.1 x.2.1).map fun r=>(r,())⟩
def m_gr02_Sub (r:List Int):TT s_gr02_Sub.rs:=(r,())
@[reducible] def q0_gr02_Sub:List Slot:= [.tmp 5 [.ty (.row 73 (.int .u64))], .tmp 6 [.ty (.row 73 (.int .u64))], .tmp 7 [.own .mine 7 73 (.int .u64)], .tmp 8 [.ty (.int .u64)], .tmp 16 [.ty (.int .i64)], .tmp 17 [.ty (.int .i64)]]
def g0_gr02_Sub (k:Nat) (x:TS q0_gr02_Sub):Option (List Int):=gr02_Sub.l0 k x.1.1 x.2.1.1 x.2.2.1.1 x.2.2.2.1.1 x.2.2.2.2.1.1 x.2.2.2.2.2.1.1
def c_gr02_Sub:Cuts (TT s_gr02_Sub.rs):=⟨⟨42,42,[]⟩,lookC [(0,⟨q0_gr02_Sub,fun k x=>(g0_gr02_Sub k x).map m_gr02_Sub⟩)],lookC [],lookC []⟩
theorem o_gr02_Sub:FOk Tryz.prog 76 s_gr02_Sub :=
 fn_of (Bt:=blook [(7,[0,0,3,7,15,0,0,96,255,0,1023,2047])]) (l:= [(128, .pu s_gr02_Halves),(129, .pu s_gr02_Whole),(130, .pu s_gr02_at)]) (C:=c_gr02_Sub) (by kernel_rfl) tab_ok ⟨o_gr02_Halves,o_gr02_Whole,o_gr02_at,trivial⟩ (fn:=Tryz.f76) (by kernel_rfl) rfl (by kernel_rfl) (by decide) (by kernel_rfl) (F:=fun k x=>gr02_Sub.f k x.1 x.2.1) (m:=m_gr02_Sub) (fun k x=>rfl)
  (by
   refine And.intro ?_ ?_
   ·refine ob_loop (sl:=q0_gr02_Sub) (F:=g0_gr02_Sub) (fun x=>rfl) fun k ⟨⟨(x5:List Int),_⟩,⟨(x6:List Int),_⟩,⟨(x7:List Int),_⟩,⟨(x8:Int),_⟩,⟨(x16:Int),_⟩,⟨(x17:Int),_⟩,_⟩=> ?_
    show LeT m_gr02_Sub (gr02_Sub.l0 (k+1) x5 x6 x7 x8 x16 x17) _
    rw [gr02_Sub.l0];exact go
   exact trivial)
  (fun k ⟨(a0:List Int),(a1:List Int),_⟩=>by show LeT m_gr02_Sub (gr02_Sub.f k a0 a1) _;unfold gr02_Sub.f;exact go)
end
section
attribute [local irreducible] gr02_Trim.f
def s_gr02_Shl:FSpec:=⟨[(.row 73 (.int .u64)), .int .i64],[(.row 73 (.int .u64))],fun k x=>(gr02_Shl.f k x.1 x.2.1).map fun r=>(r,())⟩
def m_gr02_Shl (r:List Int):TT s_gr02_Shl.rs:=(r,())
@[reducible] def q0_gr02_Shl:List Slot:= [.tmp 0 [.ty (.row 73 (.int .u64))], .tmp 1 [.ty (.int .i64)], .tmp 5 [.own .mine 5 73 (.int .u64)], .tmp 13 [.ty (.int .i64)], .tmp 14 [.ty (.int .i64)]]
def g0_gr02_Shl (k:Nat) (x:TS q0_gr02_Shl):Option (List Int):=match x with | ⟨⟨(x0:List Int),_⟩,⟨(x1:Int),_⟩,⟨(x5:List Int),_⟩,⟨(x13:Int),_⟩,⟨(x14:Int),_⟩,_⟩=>if 0≤x1∧x1≤65536 then gr02_Shl.l0 k x0 x1 x5 x13 x14 else none
@[reducible] def q1_gr02_Shl:List Slot:= [.tmp 0 [.ty (.row 73 (.int .u64))], .tmp 1 [.ty (.int .i64)], .tmp 5 [.own .mine 5 73 (.int .u64)], .tmp 21 [.ty (.int .i64)], .tmp 22 [.ty (.int .i64)]]
def g1_gr02_Shl (k:Nat) (x:TS q1_gr02_Shl):Option (List Int):=match x with | ⟨⟨(x0:List Int),_⟩,⟨(x1:Int),_⟩,⟨(x5:List Int),_⟩,⟨(x21:Int),_⟩,⟨(x22:Int),_⟩,_⟩=>if 0≤x1∧x1≤65536 then gr02_Shl.l1 k x0 x1 x5 x21 x22 else none
@[reducible] def q2_gr02_Shl:List Slot:= [.tmp 5 [.own .mine 5 73 (.int .u64)], .tmp 7 [.ty (.int .u64)], .tmp 8 [.ty (.int .i64)]]
def g2_gr02_Shl (k:Nat) (x:TS q2_gr02_Shl):Option (List Int):=match x with | ⟨⟨(x5:List Int),_⟩,⟨(x7:Int),_⟩,⟨(x8:Int),_⟩,_⟩=>if 0≤x7∧x7<64 then gr02_Shl.l2 k x5 x7 x8 else none
def c_gr02_Shl:Cuts (TT s_gr02_Shl.rs):=⟨⟨78,78,[]⟩,lookC [(0,⟨q0_gr02_Shl,fun k x=>(g0_gr02_Shl k x).map m_gr02_Shl⟩),(1,⟨q1_gr02_Shl,fun k x=>(g1_gr02_Shl k x).map m_gr02_Shl⟩),(2,⟨q2_gr02_Shl,fun k x=>(g2_gr02_Shl k x).map m_gr02_Shl⟩)],lookC [],lookC []⟩
theorem o_gr02_Shl:FOk Tryz.prog 157 s_gr02_Shl :=
 fn_of (Bt:=blook [(19,[0,0,0,0,12,28,0,124,0,0,512,1792,3840,0,8192,32512,65532,131071,262143])]) (l:= [(188, .pu s_gr02_Trim)]) (C:=c_gr02_Shl) (by kernel_rfl) tab_ok ⟨o_gr02_Trim,trivial⟩ (fn:=Tryz.f157) (by kernel_rfl) rfl (by kernel_rfl) (by decide) (by kernel_rfl) (F:=fun k x=>gr02_Shl.f k x.1 x.2.1) (m:=m_gr02_Shl) (fun k x=>rfl)
  (by
   refine And.intro ?_ ?_
   ·refine ob_loop (sl:=q0_gr02_Shl) (F:=g0_gr02_Shl) (fun ⟨⟨(x0:List Int),_⟩,⟨(x1:Int),_⟩,⟨(x5:List Int),_⟩,⟨(x13:Int),_⟩,⟨(x14:Int),_⟩,_⟩=>by show (if 0≤x1∧x1≤65536 then gr02_Shl.l0 0 x0 x1 x5 x13 x14 else none)=none;split<;>rfl) fun k ⟨⟨(x0:List Int),_⟩,⟨(x1:Int),_⟩,⟨(x5:List Int),_⟩,⟨(x13:Int),_⟩,⟨(x14:Int),_⟩,_⟩=> ?_
    show LeT m_gr02_Shl (if 0≤x1∧x1≤65536 then gr02_Shl.l0 (k+1) x0 x1 x5 x13 x14 else none) _
    rw [gr02_Shl.l0];exact go
   refine And.intro ?_ ?_
   ·refine ob_loop (sl:=q1_gr02_Shl) (F:=g1_gr02_Shl) (fun ⟨⟨(x0:List Int),_⟩,⟨(x1:Int),_⟩,⟨(x5:List Int),_⟩,⟨(x21:Int),_⟩,⟨(x22:Int),_⟩,_⟩=>by show (if 0≤x1∧x1≤65536 then gr02_Shl.l1 0 x0 x1 x5 x21 x22 else none)=none;split<;>rfl) fun k ⟨⟨(x0:List Int),_⟩,⟨(x1:Int),_⟩,⟨(x5:List Int),_⟩,⟨(x21:Int),_⟩,⟨(x22:Int),_⟩,_⟩=> ?_
    show LeT m_gr02_Shl (if 0≤x1∧x1≤65536 then gr02_Shl.l1 (k+1) x0 x1 x5 x21 x22 else none) _
    rw [gr02_Shl.l1];exact go
   refine And.intro ?_ ?_
   ·refine ob_loop (sl:=q2_gr02_Shl) (F:=g2_gr02_Shl) (fun ⟨⟨(x5:List Int),_⟩,⟨(x7:Int),_⟩,⟨(x8:Int),_⟩,_⟩=>by show (if 0≤x7∧x7<64 then gr02_Shl.l2 0 x5 x7 x8 else none)=none;split<;>rfl) fun k ⟨⟨(x5:List Int),_⟩,⟨(x7:Int),_⟩,⟨(x8:Int),_⟩,_⟩=> ?_
    show LeT m_gr02_Shl (if 0≤x7∧x7<64 then gr02_Shl.l2 (k+1) x5 x7 x8 else none) _
    rw [gr02_Shl.l2];exact go
   exact trivial)
  (fun k ⟨(a0:List Int),(a1:Int),_⟩=>by show LeT m_gr02_Shl (gr02_Shl.f k a0 a1) _;unfold gr02_Shl.f;exact go)
end
section
def s_gr02_Bit:FSpec:=⟨[(.row 73 (.int .u64)), .int .i64],[.bool],fun _ x=>(gr02_Bit.f x.1 x.2.1).map fun r=>(r,())⟩
def m_gr02_Bit (r:Bool):TT s_gr02_Bit.rs:=(r,())
theorem o_gr02_Bit:FOk Tryz.prog 227 s_gr02_Bit :=
 fn_of (Bt:=blook []) (l:= []) (C:=noCuts) (by kernel_rfl) tab_ok trivial (fn:=Tryz.f227) (by kernel_rfl) rfl (by kernel_rfl) (by decide) (by kernel_rfl) (F:=fun k x=>gr02_Bit.f x.1 x.2.1) (m:=m_gr02_Bit) (fun k x=>rfl)
  (by exact trivial)
  (fun k ⟨(a0:List Int),(a1:Int),_⟩=>by show LeT m_gr02_Bit (gr02_Bit.f a0 a1) _;unfold gr02_Bit.f;exact go)
end
section
attribute [local irreducible] gr02_Size.f gr02_Bit.f
def s_gr02_Even:FSpec:=⟨[(.row 73 (.int .u64))],[.int .i64],fun k x=>(gr02_Even.f k x.1).map fun r=>(r,())⟩
def m_gr02_Even (r:Int):TT s_gr02_Even.rs:=(r,())
@[reducible] def q0_gr02_Even:List Slot:= [.tmp 0 [.ty (.row 73 (.int .u64))], .tmp 3 [.ty (.int .i64)]]
def g0_gr02_Even (k:Nat) (x:TS q0_gr02_Even):Option (Int):=gr02_Even.l0 k x.1.1 x.2.1.1
def c_gr02_Even:Cuts (TT s_gr02_Even.rs):=⟨⟨14,14,[]⟩,lookC [(0,⟨q0_gr02_Even,fun k x=>(g0_gr02_Even k x).map m_gr02_Even⟩)],lookC [],lookC []⟩
theorem o_gr02_Even:FOk Tryz.prog 189 s_gr02_Even :=
 fn_of (Bt:=blook []) (l:= [(126, .pu s_gr02_Size),(227, .pu s_gr02_Bit)]) (C:=c_gr02_Even) (by kernel_rfl) tab_ok ⟨o_gr02_Size,o_gr02_Bit,trivial⟩ (fn:=Tryz.f189) (by kernel_rfl) rfl (by kernel_rfl) (by decide) (by kernel_rfl) (F:=fun k x=>gr02_Even.f k x.1) (m:=m_gr02_Even) (fun k x=>rfl)
  (by
   refine And.intro ?_ ?_
   ·refine ob_loop (sl:=q0_gr02_Even) (F:=g0_gr02_Even) (fun x=>rfl) fun k ⟨⟨(x0:List Int),_⟩,⟨(x3:Int),_⟩,_⟩=> ?_
    show LeT m_gr02_Even (gr02_Even.l0 (k+1) x0 x3) _
    rw [gr02_Even.l0];exact go
   exact trivial)
  (fun k ⟨(a0:List Int),_⟩=>by show LeT m_gr02_Even (gr02_Even.f k a0) _;unfold gr02_Even.f;exact go)
end
section
attribute [local irreducible] gr02_Trim.f
def s_gr02_Shr:FSpec:=⟨[(.row 73 (.int .u64)), .int .i64],[(.row 73 (.int .u64))],fun k x=>(gr02_Shr.f k x.1 x.2.1).map fun r=>(r,())⟩
def m_gr02_Shr (r:List Int):TT s_gr02_Shr.rs:=(r,())
@[reducible] def q0_gr02_Shr:List Slot:= [.tmp 0 [.ty (.row 73 (.int .u64))], .tmp 1 [.ty (.int .i64)], .tmp 5 [.own .mine 5 73 (.int .u64)], .tmp 6 [.ty (.int .i64)]]
def g0_gr02_Shr (k:Nat) (x:TS q0_gr02_Shr):Option (List Int):=match x with | ⟨⟨(x0:List Int),_⟩,⟨(x1:Int),_⟩,⟨(x5:List Int),_⟩,⟨(x6:Int),_⟩,_⟩=>if 0≤x1 then gr02_Shr.l0 k x0 x1 x5 x6 else none
@[reducible] def q1_gr02_Shr:List Slot:= [.tmp 5 [.own .mine 5 73 (.int .u64)], .tmp 7 [.ty (.int .u64)], .tmp 35 [.ty (.int .i64)], .tmp 36 [.ty (.int .i64)]]
def g1_gr02_Shr (k:Nat) (x:TS q1_gr02_Shr):Option (List Int):=match x with | ⟨⟨(x5:List Int),_⟩,⟨(x7:Int),_⟩,⟨(x35:Int),_⟩,⟨(x36:Int),_⟩,_⟩=>if 0≤x7∧x7<64 then gr02_Shr.l1 k x5 x7 x35 x36 else none
def c_gr02_Shr:Cuts (TT s_gr02_Shr.rs):=⟨⟨72,72,[]⟩,lookC [(0,⟨q0_gr02_Shr,fun k x=>(g0_gr02_Shr k x).map m_gr02_Shr⟩),(1,⟨q1_gr02_Shr,fun k x=>(g1_gr02_Shr k x).map m_gr02_Shr⟩)],lookC [],lookC []⟩
theorem o_gr02_Shr:FOk Tryz.prog 190 s_gr02_Shr :=
 fn_of (Bt:=blook [(15,[0,0,0,0,12,28,0,0,128,448,960,0,2048,8128,16380,32767,65535])]) (l:= [(188, .pu s_gr02_Trim)]) (C:=c_gr02_Shr) (by kernel_rfl) tab_ok ⟨o_gr02_Trim,trivial⟩ (fn:=Tryz.f190) (by kernel_rfl) rfl (by kernel_rfl) (by decide) (by kernel_rfl) (F:=fun k x=>gr02_Shr.f k x.1 x.2.1) (m:=m_gr02_Shr) (fun k x=>rfl)
  (by
   refine And.intro ?_ ?_
   ·refine ob_loop (sl:=q0_gr02_Shr) (F:=g0_gr02_Shr) (fun ⟨⟨(x0:List Int),_⟩,⟨(x1:Int),_⟩,⟨(x5:List Int),_⟩,⟨(x6:Int),_⟩,_⟩=>by show (if 0≤x1 then gr02_Shr.l0 0 x0 x1 x5 x6 else none)=none;split<;>rfl) fun k ⟨⟨(x0:List Int),_⟩,⟨(x1:Int),_⟩,⟨(x5:List Int),_⟩,⟨(x6:Int),_⟩,_⟩=> ?_
    show LeT m_gr02_Shr (if 0≤x1 then gr02_Shr.l0 (k+1) x0 x1 x5 x6 else none) _
    rw [gr02_Shr.l0];exact go
   refine And.intro ?_ ?_
   ·refine ob_loop (sl:=q1_gr02_Shr) (F:=g1_gr02_Shr) (fun ⟨⟨(x5:List Int),_⟩,⟨(x7:Int),_⟩,⟨(x35:Int),_⟩,⟨(x36:Int),_⟩,_⟩=>by show (if 0≤x7∧x7<64 then gr02_Shr.l1 0 x5 x7 x35 x36 else none)=none;split<;>rfl) fun k ⟨⟨(x5:List Int),_⟩,⟨(x7:Int),_⟩,⟨(x35:Int),_⟩,⟨(x36:Int),_⟩,_⟩=> ?_
    show LeT m_gr02_Shr (if 0≤x7∧x7<64 then gr02_Shr.l1 (k+1) x5 x7 x35 x36 else none) _
    rw [gr02_Shr.l1];exact go
   exact trivial)
  (fun k ⟨(a0:List Int),(a1:Int),_⟩=>by show LeT m_gr02_Shr (gr02_Shr.f k a0 a1) _;unfold gr02_Shr.f;exact go)
end
section
attribute [local irreducible] gr02_Cmp.f gr02_Sub.f gr02_Size.f gr02_Shl.f gr02_Trim.f gr02_Even.f gr02_Shr.f
def s_gr05_Gcd:FSpec:=⟨[(.row 73 (.int .u64)),(.row 73 (.int .u64))],[(.row 73 (.int .u64))],fun k x=>(gr05_Gcd.f k x.1 x.2.1).map fun r=>(r,())⟩
def m_gr05_Gcd (r:List Int):TT s_gr05_Gcd.rs:=(r,())
@[reducible] def q0_gr05_Gcd:List Slot:= [.tmp 0 [.ty (.row 73 (.int .u64))], .tmp 1 [.ty (.row 73 (.int .u64))], .tmp 28 [.ty .bool]]
def g0_gr05_Gcd (k:Nat) (x:TS q0_gr05_Gcd):Option (List Int):=gr05_Gcd.j0 k x.1.1 x.2.1.1 x.2.2.1.1
@[reducible] def q1_gr05_Gcd:List Slot:= [.tmp 5 [.ty (.int .u64)], .tmp 6 [.ty (.int .u64)]]
def g1_gr05_Gcd (k:Nat) (x:TS q1_gr05_Gcd):Option (List Int):=gr05_Gcd.l0 k x.1.1 x.2.1.1
@[reducible] def q2_gr05_Gcd:List Slot:= [.tmp 7 [.ty (.int .i64)], .tmp 8 [.ty (.row 73 (.int .u64))], .tmp 9 [.ty (.row 73 (.int .u64))]]
def g2_gr05_Gcd (k:Nat) (x:TS q2_gr05_Gcd):Option (List Int):=gr05_Gcd.l1 k x.1.1 x.2.1.1 x.2.2.1.1
def c_gr05_Gcd:Cuts (TT s_gr05_Gcd.rs):=⟨⟨75,75,[]⟩,lookC [(0,⟨q1_gr05_Gcd,fun k x=>(g1_gr05_Gcd k x).map m_gr05_Gcd⟩),(1,⟨q2_gr05_Gcd,fun k x=>(g2_gr05_Gcd k x).map m_gr05_Gcd⟩)],lookC [],lookC [(5,⟨q0_gr05_Gcd,fun k x=>(g0_gr05_Gcd k x).map m_gr05_Gcd⟩)]⟩
theorem o_gr05_Gcd:FOk Tryz.prog 120 s_gr05_Gcd :=
 fn_of (Bt:=blook [(6,[0,1,3,0,8,24,7,127]),(8,[0,0,0,6,3,31])]) (l:= [(75, .pu s_gr02_Cmp),(76, .pu s_gr02_Sub),(126, .pu s_gr02_Size),(157, .pu s_gr02_Shl),(188, .pu s_gr02_Trim),(189, .pu s_gr02_Even),(190, .pu s_gr02_Shr)]) (C:=c_gr05_Gcd) (by kernel_rfl) tab_ok ⟨o_gr02_Cmp,o_gr02_Sub,o_gr02_Size,o_gr02_Shl,o_gr02_Trim,o_gr02_Even,o_gr02_Shr,trivial⟩ (fn:=Tryz.f120) (by kernel_rfl) rfl (by kernel_rfl) (by decide) (by kernel_rfl) (F:=fun k x=>gr05_Gcd.f k x.1 x.2.1) (m:=m_gr05_Gcd) (fun k x=>rfl)
  (by
   refine And.intro ?_ ?_
   ·refine ob_join1 (sl:=q0_gr05_Gcd) (F:=g0_gr05_Gcd) (fun x=>rfl) fun k ⟨⟨(x0:List Int),_⟩,⟨(x1:List Int),_⟩,⟨(x28:Bool),_⟩,_⟩=> ?_
    show LeT m_gr05_Gcd (gr05_Gcd.j0 (k+1) x0 x1 x28) _
    rw [gr05_Gcd.j0];exact go
   refine And.intro ?_ ?_
   ·refine ob_loop (sl:=q1_gr05_Gcd) (F:=g1_gr05_Gcd) (fun x=>rfl) fun k ⟨⟨(x5:Int),_⟩,⟨(x6:Int),_⟩,_⟩=> ?_
    show LeT m_gr05_Gcd (gr05_Gcd.l0 (k+1) x5 x6) _
    rw [gr05_Gcd.l0];exact go
   refine And.intro ?_ ?_
   ·refine ob_loop (sl:=q2_gr05_Gcd) (F:=g2_gr05_Gcd) (fun x=>rfl) fun k ⟨⟨(x7:Int),_⟩,⟨(x8:List Int),_⟩,⟨(x9:List Int),_⟩,_⟩=> ?_
    show LeT m_gr05_Gcd (gr05_Gcd.l1 (k+1) x7 x8 x9) _
    rw [gr05_Gcd.l1];exact go
   exact trivial)
  (fun k ⟨(a0:List Int),(a1:List Int),_⟩=>by show LeT m_gr05_Gcd (gr05_Gcd.f k a0 a1) _;unfold gr05_Gcd.f;exact go)
end
section
attribute [local irreducible] gr02_Cmp.f gr02_Right.f gr05_Gcd.f
def s_gr07_Right:FSpec:=⟨[(.cons .bool (.cons (.row 73 (.int .u64)) (.row 73 (.int .u64))))],[.bool],fun k x=>(gr07_Right.f k x.1.1 x.1.2.1 x.1.2.2).map fun r=>(r,())⟩
def m_gr07_Right (r:Bool):TT s_gr07_Right.rs:=(r,())
theorem o_gr07_Right:FOk Tryz.prog 65 s_gr07_Right :=
 fn_of (Bt:=blook []) (l:= [(75, .pu s_gr02_Cmp),(119, .pu s_gr02_Right),(120, .pu s_gr05_Gcd)]) (C:=noCuts) (by kernel_rfl) tab_ok ⟨o_gr02_Cmp,o_gr02_Right,o_gr05_Gcd,trivial⟩ (fn:=Tryz.f65) (by kernel_rfl) rfl (by kernel_rfl) (by decide) (by kernel_rfl) (F:=fun k x=>gr07_Right.f k x.1.1 x.1.2.1 x.1.2.2) (m:=m_gr07_Right) (fun k x=>rfl)
  (by exact trivial)
  (fun k ⟨(a0:Bool × List Int × List Int),_⟩=>by show LeT m_gr07_Right (gr07_Right.f k a0.1 a0.2.1 a0.2.2) _;unfold gr07_Right.f;unfold gr07_Right.j0;exact goq)
end
section
attribute [local irreducible] gr07_Right.f
def s_gr16_Rats:FSpec:=⟨[(.row 45 (.cons .bool (.cons (.row 73 (.int .u64)) (.row 73 (.int .u64)))))],[.bool],fun k x=>(gr16_Rats.f k x.1).map fun r=>(r,())⟩
def m_gr16_Rats (r:Bool):TT s_gr16_Rats.rs:=(r,())
@[reducible] def q0_gr16_Rats:List Slot:= [.tmp 0 [.ty (.row 45 (.cons .bool (.cons (.row 73 (.int .u64)) (.row 73 (.int .u64)))))], .tmp 5 [.ty (.int .i64)], .tmp 6 [.ty (.int .i64)]]
def g0_gr16_Rats (k:Nat) (x:TS q0_gr16_Rats):Option (Bool):=gr16_Rats.l0 k x.1.1 x.2.1.1 x.2.2.1.1
def c_gr16_Rats:Cuts (TT s_gr16_Rats.rs):=⟨⟨16,16,[]⟩,lookC [(0,⟨q0_gr16_Rats,fun k x=>(g0_gr16_Rats k x).map m_gr16_Rats⟩)],lookC [],lookC []⟩
theorem o_gr16_Rats:FOk Tryz.prog 19 s_gr16_Rats :=
 fn_of (Bt:=blook []) (l:= [(65, .pu s_gr07_Right)]) (C:=c_gr16_Rats) (by kernel_rfl) tab_ok ⟨o_gr07_Right,trivial⟩ (fn:=Tryz.f19) (by kernel_rfl) rfl (by kernel_rfl) (by decide) (by kernel_rfl) (F:=fun k x=>gr16_Rats.f k x.1) (m:=m_gr16_Rats) (fun k x=>rfl)
  (by
   refine And.intro ?_ ?_
   ·refine ob_loop (sl:=q0_gr16_Rats) (F:=g0_gr16_Rats) (fun x=>rfl) fun k ⟨⟨(x0:List (Bool × (List Int) × List Int)),_⟩,⟨(x5:Int),_⟩,⟨(x6:Int),_⟩,_⟩=> ?_
    show LeT m_gr16_Rats (gr16_Rats.l0 (k+1) x0 x5 x6) _
    rw [gr16_Rats.l0];exact go
   exact trivial)
  (fun k ⟨(a0:List (Bool × (List Int) × List Int)),_⟩=>by show LeT m_gr16_Rats (gr16_Rats.f k a0) _;unfold gr16_Rats.f;exact go)
end
section
attribute [local irreducible] gradineplain_Long.f
def s_gradineplain_Longer:FSpec:=⟨[(.row 45 (.cons .bool (.cons (.row 73 (.int .u64)) (.row 73 (.int .u64))))), .int .i64],[.bool],fun k x=>(gradineplain_Longer.f k x.1 x.2.1).map fun r=>(r,())⟩
def m_gradineplain_Longer (r:Bool):TT s_gradineplain_Longer.rs:=(r,())
@[reducible] def q0_gradineplain_Longer:List Slot:= [.tmp 0 [.ty (.row 45 (.cons .bool (.cons (.row 73 (.int .u64)) (.row 73 (.int .u64)))))], .tmp 1 [.ty (.int .i64)], .tmp 7 [.ty (.int .i64)], .tmp 8 [.ty (.int .i64)]]
def g0_gradineplain_Longer (k:Nat) (x:TS q0_gradineplain_Longer):Option (Bool):=gradineplain_Longer.l0 k x.1.1 x.2.1.1 x.2.2.1.1 x.2.2.2.1.1
def c_gradineplain_Longer:Cuts (TT s_gradineplain_Longer.rs):=⟨⟨18,18,[]⟩,lookC [(0,⟨q0_gradineplain_Longer,fun k x=>(g0_gradineplain_Longer k x).map m_gradineplain_Longer⟩)],lookC [],lookC []⟩
theorem o_gradineplain_Longer:FOk Tryz.prog 17 s_gradineplain_Longer :=
 fn_of (Bt:=blook []) (l:= [(60, .pu s_gradineplain_Long)]) (C:=c_gradineplain_Longer) (by kernel_rfl) tab_ok ⟨o_gradineplain_Long,trivial⟩ (fn:=Tryz.f17) (by kernel_rfl) rfl (by kernel_rfl) (by decide) (by kernel_rfl) (F:=fun k x=>gradineplain_Longer.f k x.1 x.2.1) (m:=m_gradineplain_Longer) (fun k x=>rfl)
  (by
   refine And.intro ?_ ?_
   ·refine ob_loop (sl:=q0_gradineplain_Longer) (F:=g0_gradineplain_Longer) (fun x=>rfl) fun k ⟨⟨(x0:List (Bool × (List Int) × List Int)),_⟩,⟨(x1:Int),_⟩,⟨(x7:Int),_⟩,⟨(x8:Int),_⟩,_⟩=> ?_
    show LeT m_gradineplain_Longer (gradineplain_Longer.l0 (k+1) x0 x1 x7 x8) _
    rw [gradineplain_Longer.l0];exact go
   exact trivial)
  (fun k ⟨(a0:List (Bool × (List Int) × List Int)),(a1:Int),_⟩=>by show LeT m_gradineplain_Longer (gradineplain_Longer.f k a0 a1) _;unfold gradineplain_Longer.f;exact go)
end
section
attribute [local irreducible] gradineplain_Longer.f gradinelaw15_Many.f
def s_gradinelaw16_Few:FSpec:=⟨[(.row 93 (.cons (.int .i64) (.cons (.int .i64) (.cons (.int .i64) (.cons .bool (.cons (.row 73 (.int .u64)) (.row 73 (.int .u64)))))))),(.row 45 (.cons .bool (.cons (.row 73 (.int .u64)) (.row 73 (.int .u64))))),(.row 45 (.cons .bool (.cons (.row 73 (.int .u64)) (.row 73 (.int .u64)))))],[.bool],fun k x=>(gradinelaw16_Few.f k x.1 x.2.1 x.2.2.1).map fun r=>(r,())⟩
def m_gradinelaw16_Few (r:Bool):TT s_gradinelaw16_Few.rs:=(r,())
theorem o_gradinelaw16_Few:FOk Tryz.prog 28 s_gradinelaw16_Few :=
 fn_of (Bt:=blook []) (l:= [(17, .pu s_gradineplain_Longer),(31, .pu s_gradinelaw15_Many)]) (C:=noCuts) (by kernel_rfl) tab_ok ⟨o_gradineplain_Longer,o_gradinelaw15_Many,trivial⟩ (fn:=Tryz.f28) (by kernel_rfl) rfl (by kernel_rfl) (by decide) (by kernel_rfl) (F:=fun k x=>gradinelaw16_Few.f k x.1 x.2.1 x.2.2.1) (m:=m_gradinelaw16_Few) (fun k x=>rfl)
  (by exact trivial)
  (fun k ⟨(a0:List (Int × Int × Int × Bool × (List Int) × List Int)),(a1:List (Bool × (List Int) × List Int)),(a2:List (Bool × (List Int) × List Int)),_⟩=>by show LeT m_gradinelaw16_Few (gradinelaw16_Few.f k a0 a1 a2) _;unfold gradinelaw16_Few.f;exact go)
end
section
attribute [local irreducible] evals_Exact.f evals_Float.f
def s_gradinelaw16_same:FSpec:=⟨[],[.bool],fun k _=>(gradinelaw16_same.f k).map fun r=>(r,())⟩
def m_gradinelaw16_same (r:Bool):TT s_gradinelaw16_same.rs:=(r,())
theorem o_gradinelaw16_same:FOk Tryz.prog 29 s_gradinelaw16_same :=
 fn_of (Bt:=blook []) (l:= [(30, .pu s_evals_Exact),(32, .pu s_evals_Float)]) (C:=noCuts) (by kernel_rfl) tab_ok ⟨o_evals_Exact,o_evals_Float,trivial⟩ (fn:=Tryz.f29) (by kernel_rfl) rfl (by kernel_rfl) (by decide) (by kernel_rfl) (F:=fun k x=>gradinelaw16_same.f k) (m:=m_gradinelaw16_same) (fun k x=>rfl)
  (by exact trivial)
  (fun k x=>by show LeT m_gradinelaw16_same (gradinelaw16_same.f k) _;unfold gradinelaw16_same.f;exact go)
end
section
def s_gr15_Arity:FSpec:=⟨[.int .i64],[.int .i64],fun k x=>(gr15_Arity.f k x.1).map fun r=>(r,())⟩
def m_gr15_Arity (r:Int):TT s_gr15_Arity.rs:=(r,())
@[reducible] def q0_gr15_Arity:List Slot:= [.tmp 0 [.ty (.int .i64)], .tmp 8 [.ty .bool]]
def g0_gr15_Arity (k:Nat) (x:TS q0_gr15_Arity):Option (Int):=gr15_Arity.j0 k x.1.1 x.2.1.1
@[reducible] def q1_gr15_Arity:List Slot:= [.tmp 0 [.ty (.int .i64)], .tmp 18 [.ty .bool]]
def g1_gr15_Arity (k:Nat) (x:TS q1_gr15_Arity):Option (Int):=gr15_Arity.j1 k x.1.1 x.2.1.1
def c_gr15_Arity:Cuts (TT s_gr15_Arity.rs):=⟨⟨25,25,[]⟩,lookC [],lookC [],lookC [(1,⟨q0_gr15_Arity,fun k x=>(g0_gr15_Arity k x).map m_gr15_Arity⟩),(3,⟨q1_gr15_Arity,fun k x=>(g1_gr15_Arity k x).map m_gr15_Arity⟩)]⟩
theorem o_gr15_Arity:FOk Tryz.prog 70 s_gr15_Arity :=
 fn_of (Bt:=blook []) (l:= []) (C:=c_gr15_Arity) (by kernel_rfl) tab_ok trivial (fn:=Tryz.f70) (by kernel_rfl) rfl (by kernel_rfl) (by decide) (by kernel_rfl) (F:=fun k x=>gr15_Arity.f k x.1) (m:=m_gr15_Arity) (fun k x=>rfl)
  (by
   refine And.intro ?_ ?_
   ·refine ob_join1 (sl:=q0_gr15_Arity) (F:=g0_gr15_Arity) (fun x=>rfl) fun k ⟨⟨(x0:Int),_⟩,⟨(x8:Bool),_⟩,_⟩=> ?_
    show LeT m_gr15_Arity (gr15_Arity.j0 (k+1) x0 x8) _
    rw [gr15_Arity.j0];exact go
   refine And.intro ?_ ?_
   ·refine ob_join1 (sl:=q1_gr15_Arity) (F:=g1_gr15_Arity) (fun x=>rfl) fun k ⟨⟨(x0:Int),_⟩,⟨(x18:Bool),_⟩,_⟩=> ?_
    show LeT m_gr15_Arity (gr15_Arity.j1 (k+1) x0 x18) _
    rw [gr15_Arity.j1];exact go
   exact trivial)
  (fun k ⟨(a0:Int),_⟩=>by show LeT m_gr15_Arity (gr15_Arity.f k a0) _;unfold gr15_Arity.f;exact go)
end
section
def s_gr07_Words:FSpec:=⟨[(.row 73 (.int .u64)),(.row 73 (.int .u64))],[.bool],fun k x=>(gr07_Words.f k x.1 x.2.1).map fun r=>(r,())⟩
def m_gr07_Words (r:Bool):TT s_gr07_Words.rs:=(r,())
@[reducible] def q0_gr07_Words:List Slot:= [.tmp 0 [.ty (.row 73 (.int .u64))], .tmp 1 [.ty (.row 73 (.int .u64))], .tmp 12 [.ty (.int .i64)], .tmp 13 [.ty (.int .i64)]]
def g0_gr07_Words (k:Nat) (x:TS q0_gr07_Words):Option (Bool):=gr07_Words.l0 k x.1.1 x.2.1.1 x.2.2.1.1 x.2.2.2.1.1
def c_gr07_Words:Cuts (TT s_gr07_Words.rs):=⟨⟨26,26,[]⟩,lookC [(0,⟨q0_gr07_Words,fun k x=>(g0_gr07_Words k x).map m_gr07_Words⟩)],lookC [],lookC []⟩
theorem o_gr07_Words:FOk Tryz.prog 95 s_gr07_Words :=
 fn_of (Bt:=blook [(6,[0,0,3,7,0,0,48,112,255])]) (l:= []) (C:=c_gr07_Words) (by kernel_rfl) tab_ok trivial (fn:=Tryz.f95) (by kernel_rfl) rfl (by kernel_rfl) (by decide) (by kernel_rfl) (F:=fun k x=>gr07_Words.f k x.1 x.2.1) (m:=m_gr07_Words) (fun k x=>rfl)
  (by
   refine And.intro ?_ ?_
   ·refine ob_loop (sl:=q0_gr07_Words) (F:=g0_gr07_Words) (fun x=>rfl) fun k ⟨⟨(x0:List Int),_⟩,⟨(x1:List Int),_⟩,⟨(x12:Int),_⟩,⟨(x13:Int),_⟩,_⟩=> ?_
    show LeT m_gr07_Words (gr07_Words.l0 (k+1) x0 x1 x12 x13) _
    rw [gr07_Words.l0];exact go
   exact trivial)
  (fun k ⟨(a0:List Int),(a1:List Int),_⟩=>by show LeT m_gr07_Words (gr07_Words.f k a0 a1) _;unfold gr07_Words.f;exact go)
end
section
attribute [local irreducible] gr07_Words.f
def s_gr07_Same:FSpec:=⟨[(.cons .bool (.cons (.row 73 (.int .u64)) (.row 73 (.int .u64)))),(.cons .bool (.cons (.row 73 (.int .u64)) (.row 73 (.int .u64))))],[.bool],fun k x=>(gr07_Same.f k x.1.1 x.1.2.1 x.1.2.2 x.2.1.1 x.2.1.2.1 x.2.1.2.2).map fun r=>(r,())⟩
def m_gr07_Same (r:Bool):TT s_gr07_Same.rs:=(r,())
theorem o_gr07_Same:FOk Tryz.prog 37 s_gr07_Same :=
 fn_of (Bt:=blook []) (l:= [(95, .pu s_gr07_Words)]) (C:=noCuts) (by kernel_rfl) tab_ok ⟨o_gr07_Words,trivial⟩ (fn:=Tryz.f37) (by kernel_rfl) rfl (by kernel_rfl) (by decide) (by kernel_rfl) (F:=fun k x=>gr07_Same.f k x.1.1 x.1.2.1 x.1.2.2 x.2.1.1 x.2.1.2.1 x.2.1.2.2) (m:=m_gr07_Same) (fun k x=>rfl)
  (by exact trivial)
  (fun k ⟨(a0:Bool × List Int × List Int),(a1:Bool × List Int × List Int),_⟩=>by show LeT m_gr07_Same (gr07_Same.f k a0.1 a0.2.1 a0.2.2 a1.1 a1.2.1 a1.2.2) _;unfold gr07_Same.f;exact go)
end
section
attribute [local irreducible] gr07_Same.f
def s_gr15_None:FSpec:=⟨[(.cons .bool (.cons (.row 73 (.int .u64)) (.row 73 (.int .u64))))],[.bool],fun k x=>(gr15_None.f k x.1.1 x.1.2.1 x.1.2.2).map fun r=>(r,())⟩
def m_gr15_None (r:Bool):TT s_gr15_None.rs:=(r,())
theorem o_gr15_None:FOk Tryz.prog 167 s_gr15_None :=
 fn_of (Bt:=blook []) (l:= [(37, .pu s_gr07_Same)]) (C:=noCuts) (by kernel_rfl) tab_ok ⟨o_gr07_Same,trivial⟩ (fn:=Tryz.f167) (by kernel_rfl) rfl (by kernel_rfl) (by decide) (by kernel_rfl) (F:=fun k x=>gr15_None.f k x.1.1 x.1.2.1 x.1.2.2) (m:=m_gr15_None) (fun k x=>rfl)
  (by exact trivial)
  (fun k ⟨(a0:Bool × List Int × List Int),_⟩=>by show LeT m_gr15_None (gr15_None.f k a0.1 a0.2.1 a0.2.2) _;unfold gr15_None.f;exact go)
end
section
attribute [local irreducible] gr07_Right.f gr15_Arity.f gr15_None.f
def s_gr15_Fits:FSpec:=⟨[(.cons (.int .i64) (.cons (.int .i64) (.cons (.int .i64) (.cons .bool (.cons (.row 73 (.int .u64)) (.row 73 (.int .u64))))))), .int .i64],[.bool],fun k x=>(gr15_Fits.f k x.1.1 x.1.2.1 x.1.2.2.1 x.1.2.2.2.1 x.1.2.2.2.2.1 x.1.2.2.2.2.2 x.2.1).map fun r=>(r,())⟩
def m_gr15_Fits (r:Bool):TT s_gr15_Fits.rs:=(r,())
theorem o_gr15_Fits:FOk Tryz.prog 92 s_gr15_Fits :=
 fn_of (Bt:=blook []) (l:= [(65, .pu s_gr07_Right),(70, .pu s_gr15_Arity),(167, .pu s_gr15_None)]) (C:=noCuts) (by kernel_rfl) tab_ok ⟨o_gr07_Right,o_gr15_Arity,o_gr15_None,trivial⟩ (fn:=Tryz.f92) (by kernel_rfl) rfl (by kernel_rfl) (by decide) (by kernel_rfl) (F:=fun k x=>gr15_Fits.f k x.1.1 x.1.2.1 x.1.2.2.1 x.1.2.2.2.1 x.1.2.2.2.2.1 x.1.2.2.2.2.2 x.2.1) (m:=m_gr15_Fits) (fun k x=>rfl)
  (by exact trivial)
  (fun k ⟨(a0:Int × Int × Int × Bool × List Int × List Int),(a1:Int),_⟩=>by show LeT m_gr15_Fits (gr15_Fits.f k a0.1 a0.2.1 a0.2.2.1 a0.2.2.2.1 a0.2.2.2.2.1 a0.2.2.2.2.2 a1) _;unfold gr15_Fits.f;exact go)
end
section
attribute [local irreducible] gr15_Fits.f
def s_gr15_Right:FSpec:=⟨[(.row 93 (.cons (.int .i64) (.cons (.int .i64) (.cons (.int .i64) (.cons .bool (.cons (.row 73 (.int .u64)) (.row 73 (.int .u64))))))))],[.bool],fun k x=>(gr15_Right.f k x.1).map fun r=>(r,())⟩
def m_gr15_Right (r:Bool):TT s_gr15_Right.rs:=(r,())
@[reducible] def q0_gr15_Right:List Slot:= [.tmp 0 [.ty (.row 93 (.cons (.int .i64) (.cons (.int .i64) (.cons (.int .i64) (.cons .bool (.cons (.row 73 (.int .u64)) (.row 73 (.int .u64))))))))], .tmp 5 [.ty (.int .i64)], .tmp 6 [.ty (.int .i64)]]
def g0_gr15_Right (k:Nat) (x:TS q0_gr15_Right):Option (Bool):=gr15_Right.l0 k x.1.1 x.2.1.1 x.2.2.1.1
def c_gr15_Right:Cuts (TT s_gr15_Right.rs):=⟨⟨20,20,[]⟩,lookC [(0,⟨q0_gr15_Right,fun k x=>(g0_gr15_Right k x).map m_gr15_Right⟩)],lookC [],lookC []⟩
theorem o_gr15_Right:FOk Tryz.prog 35 s_gr15_Right :=
 fn_of (Bt:=blook []) (l:= [(92, .pu s_gr15_Fits)]) (C:=c_gr15_Right) (by kernel_rfl) tab_ok ⟨o_gr15_Fits,trivial⟩ (fn:=Tryz.f35) (by kernel_rfl) rfl (by kernel_rfl) (by decide) (by kernel_rfl) (F:=fun k x=>gr15_Right.f k x.1) (m:=m_gr15_Right) (fun k x=>rfl)
  (by
   refine And.intro ?_ ?_
   ·refine ob_loop (sl:=q0_gr15_Right) (F:=g0_gr15_Right) (fun x=>rfl) fun k ⟨⟨(x0:List (Int × Int × Int × Bool × (List Int) × List Int)),_⟩,⟨(x5:Int),_⟩,⟨(x6:Int),_⟩,_⟩=> ?_
    show LeT m_gr15_Right (gr15_Right.l0 (k+1) x0 x5 x6) _
    rw [gr15_Right.l0];exact go
   exact trivial)
  (fun k ⟨(a0:List (Int × Int × Int × Bool × (List Int) × List Int)),_⟩=>by show LeT m_gr15_Right (gr15_Right.f k a0) _;unfold gr15_Right.f;exact go)
end
section
attribute [local irreducible] line_Right.f line_Arity.f
def s_line_Needs:FSpec:=⟨[(.row 93 (.cons (.int .i64) (.cons (.int .i64) (.cons (.int .i64) (.cons .bool (.cons (.row 73 (.int .u64)) (.row 73 (.int .u64)))))))),(.row 3 (.int .i64))],[(.row 4 .bool)],fun k x=>(line_Needs.f k x.1 x.2.1).map fun r=>(r,())⟩
def m_line_Needs (r:List Bool):TT s_line_Needs.rs:=(r,())
@[reducible] def q0_line_Needs:List Slot:= [.tmp 0 [.ty (.row 93 (.cons (.int .i64) (.cons (.int .i64) (.cons (.int .i64) (.cons .bool (.cons (.row 73 (.int .u64)) (.row 73 (.int .u64))))))))], .tmp 5 [.own .mine 5 4 .bool], .tmp 16 [.ty (.row 3 (.int .i64))], .tmp 17 [.ty (.int .i64)], .tmp 18 [.ty (.int .i64)]]
def g0_line_Needs (k:Nat) (x:TS q0_line_Needs):Option (List Bool):=line_Needs.l0 k x.1.1 x.2.1.1 x.2.2.1.1 x.2.2.2.1.1 x.2.2.2.2.1.1
@[reducible] def q1_line_Needs:List Slot:= [.tmp 0 [.ty (.row 93 (.cons (.int .i64) (.cons (.int .i64) (.cons (.int .i64) (.cons .bool (.cons (.row 73 (.int .u64)) (.row 73 (.int .u64))))))))], .tmp 5 [.own .mine 5 4 .bool], .tmp 16 [.ty (.row 3 (.int .i64))], .tmp 17 [.ty (.int .i64)], .tmp 18 [.ty (.int .i64)]]
def g1_line_Needs (k:Nat) (x:TS q1_line_Needs):Option (List Bool):=line_Needs.j9 k x.1.1 x.2.1.1 x.2.2.1.1 x.2.2.2.1.1 x.2.2.2.2.1.1
@[reducible] def q2_line_Needs:List Slot:= [.tmp 0 [.ty (.row 93 (.cons (.int .i64) (.cons (.int .i64) (.cons (.int .i64) (.cons .bool (.cons (.row 73 (.int .u64)) (.row 73 (.int .u64))))))))], .tmp 5 [.own .mine 5 4 .bool], .tmp 8 [.ty (.int .i64)]]
def g2_line_Needs (k:Nat) (x:TS q2_line_Needs):Option (List Bool):=line_Needs.l1 k x.1.1 x.2.1.1 x.2.2.1.1
def c_line_Needs:Cuts (TT s_line_Needs.rs):=⟨⟨82,82,[]⟩,lookC [(0,⟨q0_line_Needs,fun k x=>(g0_line_Needs k x).map m_line_Needs⟩),(1,⟨q2_line_Needs,fun k x=>(g2_line_Needs k x).map m_line_Needs⟩)],lookC [(9,⟨q1_line_Needs,fun k x=>(g1_line_Needs k x).map m_line_Needs⟩)],lookC []⟩
theorem o_line_Needs:FOk Tryz.prog 93 s_line_Needs :=
 fn_of (Bt:=blook [(16,[0,0,0,6,14,30,0,0,0,384,896,1920,4032,8128,16320,32704,65472,131008,262143,524287])]) (l:= [(83, .pu s_line_Right),(94, .pu s_line_Arity)]) (C:=c_line_Needs) (by kernel_rfl) tab_ok ⟨o_line_Right,o_line_Arity,trivial⟩ (fn:=Tryz.f93) (by kernel_rfl) rfl (by kernel_rfl) (by decide) (by kernel_rfl) (F:=fun k x=>line_Needs.f k x.1 x.2.1) (m:=m_line_Needs) (fun k x=>rfl)
  (by
   refine And.intro ?_ ?_
   ·refine ob_loop (sl:=q0_line_Needs) (F:=g0_line_Needs) (fun x=>rfl) fun k ⟨⟨(x0:List (Int × Int × Int × Bool × (List Int) × List Int)),_⟩,⟨(x5:List Bool),_⟩,⟨(x16:List Int),_⟩,⟨(x17:Int),_⟩,⟨(x18:Int),_⟩,_⟩=> ?_
    show LeT m_line_Needs (line_Needs.l0 (k+1) x0 x5 x16 x17 x18) _
    rw [line_Needs.l0];exact go
   refine And.intro ?_ ?_
   ·refine ob_join1 (sl:=q1_line_Needs) (F:=g1_line_Needs) (fun x=>rfl) fun k ⟨⟨(x0:List (Int × Int × Int × Bool × (List Int) × List Int)),_⟩,⟨(x5:List Bool),_⟩,⟨(x16:List Int),_⟩,⟨(x17:Int),_⟩,⟨(x18:Int),_⟩,_⟩=> ?_
    show LeT m_line_Needs (line_Needs.j9 (k+1) x0 x5 x16 x17 x18) _
    rw [line_Needs.j9];exact go
   refine And.intro ?_ ?_
   ·refine ob_loop (sl:=q2_line_Needs) (F:=g2_line_Needs) (fun x=>rfl) fun k ⟨⟨(x0:List (Int × Int × Int × Bool × (List Int) × List Int)),_⟩,⟨(x5:List Bool),_⟩,⟨(x8:Int),_⟩,_⟩=> ?_
    show LeT m_line_Needs (line_Needs.l1 (k+1) x0 x5 x8) _
    rw [line_Needs.l1];exact go
   exact trivial)
  (fun k ⟨(a0:List (Int × Int × Int × Bool × (List Int) × List Int)),(a1:List Int),_⟩=>by show LeT m_line_Needs (line_Needs.f k a0 a1) _;unfold line_Needs.f;exact go)
end
section
attribute [local irreducible] line_Right.f line_Needs.f line_Arity.f
def s_line_Trim:FSpec:=⟨[(.row 93 (.cons (.int .i64) (.cons (.int .i64) (.cons (.int .i64) (.cons .bool (.cons (.row 73 (.int .u64)) (.row 73 (.int .u64)))))))),(.row 3 (.int .i64))],[(.row 93 (.cons (.int .i64) (.cons (.int .i64) (.cons (.int .i64) (.cons .bool (.cons (.row 73 (.int .u64)) (.row 73 (.int .u64)))))))),(.row 3 (.int .i64))],fun k x=>(line_Trim.f k x.1 x.2.1).map fun r=>(r.1,r.2,())⟩
def m_line_Trim (r:List (Int × Int × Int × Bool × List Int × List Int) × List Int):TT s_line_Trim.rs:=(r.1,r.2,())
@[reducible] def q0_line_Trim:List Slot:= [.tmp 0 [.ty (.row 93 (.cons (.int .i64) (.cons (.int .i64) (.cons (.int .i64) (.cons .bool (.cons (.row 73 (.int .u64)) (.row 73 (.int .u64))))))))], .tmp 1 [.ty (.row 3 (.int .i64))], .tmp 6 [.ty (.row 4 .bool)], .tmp 7 [.map 7], .tmp 8 [.own .mine 8 93 (.cons (.int .i64) (.cons (.int .i64) (.cons (.int .i64) (.cons .bool (.cons (.row 73 (.int .u64)) (.row 73 (.int .u64)))))))], .tmp 21 [.ty (.row 93 (.cons (.int .i64) (.cons (.int .i64) (.cons (.int .i64) (.cons .bool (.cons (.row 73 (.int .u64)) (.row 73 (.int .u64))))))))], .tmp 22 [.ty (.int .i64)], .tmp 23 [.ty (.int .i64)]]
def g0_line_Trim (k:Nat) (x:TS q0_line_Trim):Option (List (Int × Int × Int × Bool × List Int × List Int) × List Int):=line_Trim.l0 k x.1.1 x.2.1.1 x.2.2.1.1 x.2.2.2.1.1 x.2.2.2.2.1.1 x.2.2.2.2.2.1.1 x.2.2.2.2.2.2.1.1 x.2.2.2.2.2.2.2.1.1
@[reducible] def q1_line_Trim:List Slot:= [.tmp 0 [.ty (.row 93 (.cons (.int .i64) (.cons (.int .i64) (.cons (.int .i64) (.cons .bool (.cons (.row 73 (.int .u64)) (.row 73 (.int .u64))))))))], .tmp 1 [.ty (.row 3 (.int .i64))], .tmp 6 [.ty (.row 4 .bool)], .tmp 7 [.map 7], .tmp 8 [.own .mine 8 93 (.cons (.int .i64) (.cons (.int .i64) (.cons (.int .i64) (.cons .bool (.cons (.row 73 (.int .u64)) (.row 73 (.int .u64)))))))], .tmp 10 [.ptr 10 0], .tmp 21 [.ty (.row 93 (.cons (.int .i64) (.cons (.int .i64) (.cons (.int .i64) (.cons .bool (.cons (.row 73 (.int .u64)) (.row 73 (.int .u64))))))))], .tmp 22 [.ty (.int .i64)], .tmp 23 [.ty (.int .i64)], .blk 10 .mine 93 [.ty (.int .i64), .ty (.int .i64), .ty (.int .i64), .ty .bool, .ty (.row 73 (.int .u64)), .ty (.row 73 (.int .u64))]]
def g1_line_Trim (k:Nat) (x:TS q1_line_Trim):Option (List (Int × Int × Int × Bool × List Int × List Int) × List Int):=line_Trim.j16 k x.1.1 x.2.1.1 x.2.2.1.1 x.2.2.2.1.1 x.2.2.2.2.1.1 x.2.2.2.2.2.2.1.1 x.2.2.2.2.2.2.2.1.1 x.2.2.2.2.2.2.2.2.1.1 x.2.2.2.2.2.2.2.2.2.1.1 x.2.2.2.2.2.2.2.2.2.1.2.1 x.2.2.2.2.2.2.2.2.2.1.2.2.1 x.2.2.2.2.2.2.2.2.2.1.2.2.2.1 x.2.2.2.2.2.2.2.2.2.1.2.2.2.2.1 x.2.2.2.2.2.2.2.2.2.1.2.2.2.2.2.1
@[reducible] def q2_line_Trim:List Slot:= [.tmp 0 [.ty (.row 93 (.cons (.int .i64) (.cons (.int .i64) (.cons (.int .i64) (.cons .bool (.cons (.row 73 (.int .u64)) (.row 73 (.int .u64))))))))], .tmp 1 [.ty (.row 3 (.int .i64))], .tmp 6 [.ty (.row 4 .bool)], .tmp 7 [.map 7], .tmp 8 [.own .mine 8 93 (.cons (.int .i64) (.cons (.int .i64) (.cons (.int .i64) (.cons .bool (.cons (.row 73 (.int .u64)) (.row 73 (.int .u64)))))))], .tmp 21 [.ty (.row 93 (.cons (.int .i64) (.cons (.int .i64) (.cons (.int .i64) (.cons .bool (.cons (.row 73 (.int .u64)) (.row 73 (.int .u64))))))))], .tmp 22 [.ty (.int .i64)], .tmp 23 [.ty (.int .i64)]]
def g2_line_Trim (k:Nat) (x:TS q2_line_Trim):Option (List (Int × Int × Int × Bool × List Int × List Int) × List Int):=line_Trim.j18 k x.1.1 x.2.1.1 x.2.2.1.1 x.2.2.2.1.1 x.2.2.2.2.1.1 x.2.2.2.2.2.1.1 x.2.2.2.2.2.2.1.1 x.2.2.2.2.2.2.2.1.1
@[reducible] def q3_line_Trim:List Slot:= [.tmp 0 [.ty (.row 93 (.cons (.int .i64) (.cons (.int .i64) (.cons (.int .i64) (.cons .bool (.cons (.row 73 (.int .u64)) (.row 73 (.int .u64))))))))], .tmp 7 [.map 7], .tmp 8 [.own .mine 8 93 (.cons (.int .i64) (.cons (.int .i64) (.cons (.int .i64) (.cons .bool (.cons (.row 73 (.int .u64)) (.row 73 (.int .u64)))))))], .tmp 11 [.own .mine 11 3 (.int .i64)], .tmp 79 [.ty (.row 3 (.int .i64))], .tmp 80 [.ty (.int .i64)], .tmp 81 [.ty (.int .i64)]]
def g3_line_Trim (k:Nat) (x:TS q3_line_Trim):Option (List (Int × Int × Int × Bool × List Int × List Int) × List Int):=line_Trim.l1 k x.1.1 x.2.1.1 x.2.2.1.1 x.2.2.2.1.1 x.2.2.2.2.1.1 x.2.2.2.2.2.1.1 x.2.2.2.2.2.2.1.1
@[reducible] def q4_line_Trim:List Slot:= [.tmp 0 [.ty (.row 93 (.cons (.int .i64) (.cons (.int .i64) (.cons (.int .i64) (.cons .bool (.cons (.row 73 (.int .u64)) (.row 73 (.int .u64))))))))], .tmp 7 [.map 7], .tmp 8 [.own .mine 8 93 (.cons (.int .i64) (.cons (.int .i64) (.cons (.int .i64) (.cons .bool (.cons (.row 73 (.int .u64)) (.row 73 (.int .u64)))))))], .tmp 11 [.own .mine 11 3 (.int .i64)], .tmp 79 [.ty (.row 3 (.int .i64))], .tmp 80 [.ty (.int .i64)], .tmp 81 [.ty (.int .i64)]]
def g4_line_Trim (k:Nat) (x:TS q4_line_Trim):Option (List (Int × Int × Int × Bool × List Int × List Int) × List Int):=line_Trim.j24 k x.1.1 x.2.1.1 x.2.2.1.1 x.2.2.2.1.1 x.2.2.2.2.1.1 x.2.2.2.2.2.1.1 x.2.2.2.2.2.2.1.1
def c_line_Trim:Cuts (TT s_line_Trim.rs):=⟨⟨105,106,[]⟩,lookC [(0,⟨q0_line_Trim,fun k x=>(g0_line_Trim k x).map m_line_Trim⟩),(1,⟨q3_line_Trim,fun k x=>(g3_line_Trim k x).map m_line_Trim⟩)],lookC [(16,⟨q1_line_Trim,fun k x=>(g1_line_Trim k x).map m_line_Trim⟩),(18,⟨q2_line_Trim,fun k x=>(g2_line_Trim k x).map m_line_Trim⟩),(24,⟨q4_line_Trim,fun k x=>(g4_line_Trim k x).map m_line_Trim⟩)],lookC []⟩
theorem o_line_Trim:FOk Tryz.prog 36 s_line_Trim :=
 fn_of (Bt:=blook [(13,[0,0,2,7,0,0,32,112,111,367,1023,2047]),(16,[0,1,3,0,0,16,48,120,0,0,512,1536,4088,8191,16383,32767])]) (l:= [(83, .pu s_line_Right),(93, .pu s_line_Needs),(94, .pu s_line_Arity)]) (C:=c_line_Trim) (by kernel_rfl) tab_ok ⟨o_line_Right,o_line_Needs,o_line_Arity,trivial⟩ (fn:=Tryz.f36) (by kernel_rfl) rfl (by kernel_rfl) (by decide) (by kernel_rfl) (F:=fun k x=>line_Trim.f k x.1 x.2.1) (m:=m_line_Trim) (fun k x=>rfl)
  (by
   refine And.intro ?_ ?_
   ·refine ob_loop (sl:=q0_line_Trim) (F:=g0_line_Trim) (fun x=>rfl) fun k ⟨⟨(x0:List (Int × Int × Int × Bool × (List Int) × List Int)),_⟩,⟨(x1:List Int),_⟩,⟨(x6:List Bool),_⟩,⟨(x7:List (Int × Int)),_⟩,⟨(x8:List (Int × Int × Int × Bool × (List Int) × List Int)),_⟩,⟨(x21:List (Int × Int × Int × Bool × (List Int) × List Int)),_⟩,⟨(x22:Int),_⟩,⟨(x23:Int),_⟩,_⟩=> ?_
    show LeT m_line_Trim (line_Trim.l0 (k+1) x0 x1 x6 x7 x8 x21 x22 x23) _
    rw [line_Trim.l0];exact go
   refine And.intro ?_ ?_
   ·refine ob_join1 (sl:=q1_line_Trim) (F:=g1_line_Trim) (fun x=>rfl) fun k ⟨⟨(x0:List (Int × Int × Int × Bool × (List Int) × List Int)),_⟩,⟨(x1:List Int),_⟩,⟨(x6:List Bool),_⟩,⟨(x7:List (Int × Int)),_⟩,⟨(x8:List (Int × Int × Int × Bool × (List Int) × List Int)),_⟩,_,⟨(x21:List (Int × Int × Int × Bool × (List Int) × List Int)),_⟩,⟨(x22:Int),_⟩,⟨(x23:Int),_⟩,⟨(v10_0:Int),(v10_1:Int),(v10_2:Int),(v10_3:Bool),(v10_4:List Int),(v10_5:List Int),_⟩,_⟩=> ?_
    show LeT m_line_Trim (line_Trim.j16 (k+1) x0 x1 x6 x7 x8 x21 x22 x23 v10_0 v10_1 v10_2 v10_3 v10_4 v10_5) _
    rw [line_Trim.j16];exact go
   refine And.intro ?_ ?_
   ·refine ob_join1 (sl:=q2_line_Trim) (F:=g2_line_Trim) (fun x=>rfl) fun k ⟨⟨(x0:List (Int × Int × Int × Bool × (List Int) × List Int)),_⟩,⟨(x1:List Int),_⟩,⟨(x6:List Bool),_⟩,⟨(x7:List (Int × Int)),_⟩,⟨(x8:List (Int × Int × Int × Bool × (List Int) × List Int)),_⟩,⟨(x21:List (Int × Int × Int × Bool × (List Int) × List Int)),_⟩,⟨(x22:Int),_⟩,⟨(x23:Int),_⟩,_⟩=> ?_
    show LeT m_line_Trim (line_Trim.j18 (k+1) x0 x1 x6 x7 x8 x21 x22 x23) _
    rw [line_Trim.j18];exact go
   refine And.intro ?_ ?_
   ·refine ob_loop (sl:=q3_line_Trim) (F:=g3_line_Trim) (fun x=>rfl) fun k ⟨⟨(x0:List (Int × Int × Int × Bool × (List Int) × List Int)),_⟩,⟨(x7:List (Int × Int)),_⟩,⟨(x8:List (Int × Int × Int × Bool × (List Int) × List Int)),_⟩,⟨(x11:List Int),_⟩,⟨(x79:List Int),_⟩,⟨(x80:Int),_⟩,⟨(x81:Int),_⟩,_⟩=> ?_
    show LeT m_line_Trim (line_Trim.l1 (k+1) x0 x7 x8 x11 x79 x80 x81) _
    rw [line_Trim.l1];exact go
   refine And.intro ?_ ?_
   ·refine ob_join1 (sl:=q4_line_Trim) (F:=g4_line_Trim) (fun x=>rfl) fun k ⟨⟨(x0:List (Int × Int × Int × Bool × (List Int) × List Int)),_⟩,⟨(x7:List (Int × Int)),_⟩,⟨(x8:List (Int × Int × Int × Bool × (List Int) × List Int)),_⟩,⟨(x11:List Int),_⟩,⟨(x79:List Int),_⟩,⟨(x80:Int),_⟩,⟨(x81:Int),_⟩,_⟩=> ?_
    show LeT m_line_Trim (line_Trim.j24 (k+1) x0 x7 x8 x11 x79 x80 x81) _
    rw [line_Trim.j24];exact go
   exact trivial)
  (fun k ⟨(a0:List (Int × Int × Int × Bool × (List Int) × List Int)),(a1:List Int),_⟩=>by show LeT m_line_Trim (line_Trim.f k a0 a1) _;unfold line_Trim.f;exact go)
end
end Go.Proofs.YtjocbnjpjihpnaaGreat.A
