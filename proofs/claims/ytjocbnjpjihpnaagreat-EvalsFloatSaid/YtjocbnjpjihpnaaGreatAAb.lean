/- Functions that come to what their texts say. -/
import Derived.Test.YtjocbnjpjihpnaaGreatAAa
import Derived.Test.YtjocbnjpjihpnaaGreatWWc
import Derived.Test.YtjocbnjpjihpnaaGreatBB
namespace Go.Proofs.YtjocbnjpjihpnaaGreat.A
open Go.RowKit Go.Proofs.YtjocbnjpjihpnaaGreat.P Go.Proofs.YtjocbnjpjihpnaaGreatW.PrintWords Go.Proofs.YtjocbnjpjihpnaaGreatW.PrintLast Go.Proofs.YtjocbnjpjihpnaaGreatW.PrintMore Go.Proofs.YtjocbnjpjihpnaaGreatW.Abs
set_option linter.unusedVariables false
set_option linter.unusedSimpArgs false
set_option maxRecDepth 100000
set_option maxHeartbeats 4000000
section
attribute [local irreducible] gr02_Trim.f
def s_gr02_Whole:FSpec:=⟨[(.row 73 (.int .u64))],[(.row 73 (.int .u64))],fun k x=>(gr02_Whole.f k x.1).map fun r=>(r,())⟩
def m_gr02_Whole (r:List Int):TT s_gr02_Whole.rs:=(r,())
@[reducible] def q0_gr02_Whole:List Slot:= [.tmp 0 [.ty (.row 73 (.int .u64))], .tmp 3 [.own .mine 3 73 (.int .u64)], .tmp 4 [.ty (.int .i64)]]
def g0_gr02_Whole (k:Nat) (x:TS q0_gr02_Whole):Option (List Int):=gr02_Whole.l0 k x.1.1 x.2.1.1 x.2.2.1.1
def c_gr02_Whole:Cuts (TT s_gr02_Whole.rs):=⟨⟨35,35,[]⟩,lookC [(0,⟨q0_gr02_Whole,fun k x=>(g0_gr02_Whole k x).map m_gr02_Whole⟩)],lookC [],lookC []⟩
theorem o_gr02_Whole:FOk Tryz.prog 129 s_gr02_Whole :=
 fn_of (Bt:=blook []) (l:= [(188, .pu s_gr02_Trim)]) (C:=c_gr02_Whole) (by kernel_rfl) tab_ok ⟨o_gr02_Trim,trivial⟩ (fn:=Tryz.f129) (by kernel_rfl) rfl (by kernel_rfl) (by decide) (by kernel_rfl) (F:=fun k x=>gr02_Whole.f k x.1) (m:=m_gr02_Whole) (fun k x=>rfl)
  (by
   refine And.intro ?_ ?_
   ·refine ob_loop (sl:=q0_gr02_Whole) (F:=g0_gr02_Whole) (fun x=>rfl) fun k ⟨⟨(x0:List Int),_⟩,⟨(x3:List Int),_⟩,⟨(x4:Int),_⟩,_⟩=> ?_
    show LeT m_gr02_Whole (gr02_Whole.l0 (k+1) x0 x3 x4) _
    rw [gr02_Whole.l0];exact go
   exact trivial)
  (fun k ⟨(a0:List Int),_⟩=>by show LeT m_gr02_Whole (gr02_Whole.f k a0) _;unfold gr02_Whole.f;exact go)
end
section
attribute [local irreducible] gr02_Halves.f gr02_Whole.f gr02_at.f
def s_gr02_Sub:FSpec:=⟨[(.row 73 (.int .u64)),(.row 73 (.int .u64))],[(.row 73 (.int .u64))],fun k x=>(gr02_Sub.f k x.1 x.2.1).map fun r=>(r,())⟩
def m_gr02_Sub (r:List Int):TT s_gr02_Sub.rs:=(r,())
@[reducible] def q0_gr02_Sub:List Slot:= [.tmp 5 [.ty (.row 73 (.int .u64))], .tmp 6 [.ty (.row 73 (.int .u64))], .tmp 7 [.own .mine 7 73 (.int .u64)], .tmp 8 [.ty (.int .u64)], .tmp 16 [.ty (.int .i64)], .tmp 17 [.ty (.int .i64)]]
def g0_gr02_Sub (k:Nat) (x:TS q0_gr02_Sub):Option (List Int):=gr02_Sub.l0 k x.1.1 x.2.1.1 x.2.2.1.1 x.2.2.2.1.1 x.2.2.2.2.1.1 x.2.2.2.2.2.1.1
def c_gr02_Sub:Cuts (TT s_gr02_Sub.rs):=⟨⟨42,42,[]⟩,lookC [(0,⟨q0_gr02_Sub,fun k x=>(g0_gr02_Sub k x).map m_gr02_Sub⟩)],lookC [],lookC []⟩
theorem o_gr02_Sub:FOk Tryz.prog 76 s_gr02_Sub :=
 fn_of (Bt:=blook [(7,[0,0,3,7,15,0,0,96,255,0,1023,2047])]) (l:= [(128, .pu s_gr02_Halves),(129, .pu s_gr02_Whole),(130, .pu s_gr02_at)]) (C:=c_gr02_Sub) (by kernel_rfl) tab_ok ⟨o_gr02_Halves,o_gr02_Whole,o_gr02_at,trivial⟩ (fn:=Tryz.f76) (by kernel_rfl) rfl (by kernel_rfl) (by decide) (by kernel_rfl) (F:=fun k x=>gr02_Sub.f k x.1 x.2.1) (m:=m_gr02_Sub) (fun k x=>rfl)
  (by
   refine And.intro ?_ ?_
   ·refine ob_loop (sl:=q0_gr02_Sub) (F:=g0_gr02_Sub) (fun x=>rfl) fun k ⟨⟨(x5:List Int),_⟩,⟨(x6:List Int),_⟩,⟨(x7:List Int),_⟩,⟨(x8:Int),_⟩,⟨(x16:Int),_⟩,⟨(x17:Int),_⟩,_⟩=> ?_
    show LeT m_gr02_Sub (gr02_Sub.l0 (k+1) x5 x6 x7 x8 x16 x17) _
    rw [gr02_Sub.l0];exact go
   exact trivial)
  (fun k ⟨(a0:List Int),(a1:List Int),_⟩=>by show LeT m_gr02_Sub (gr02_Sub.f k a0 a1) _;unfold gr02_Sub.f;exact go)
end
section
attribute [local irreducible] gr02_Trim.f
def s_gr02_Shl:FSpec:=⟨[(.row 73 (.int .u64)), .int .i64],[(.row 73 (.int .u64))],fun k x=>(gr02_Shl.f k x.1 x.2.1).map fun r=>(r,())⟩
def m_gr02_Shl (r:List Int):TT s_gr02_Shl.rs:=(r,())
@[reducible] def q0_gr02_Shl:List Slot:= [.tmp 0 [.ty (.row 73 (.int .u64))], .tmp 1 [.ty (.int .i64)], .tmp 5 [.own .mine 5 73 (.int .u64)], .tmp 13 [.ty (.int .i64)], .tmp 14 [.ty (.int .i64)]]
def g0_gr02_Shl (k:Nat) (x:TS q0_gr02_Shl):Option (List Int):=match x with | ⟨⟨(x0:List Int),_⟩,⟨(x1:Int),_⟩,⟨(x5:List Int),_⟩,⟨(x13:Int),_⟩,⟨(x14:Int),_⟩,_⟩=>if 0≤x1∧x1≤65536 then gr02_Shl.l0 k x0 x1 x5 x13 x14 else none
@[reducible] def q1_gr02_Shl:List Slot:= [.tmp 0 [.ty (.row 73 (.int .u64))], .tmp 1 [.ty (.int .i64)], .tmp 5 [.own .mine 5 73 (.int .u64)], .tmp 21 [.ty (.int .i64)], .tmp 22 [.ty (.int .i64)]]
def g1_gr02_Shl (k:Nat) (x:TS q1_gr02_Shl):Option (List Int):=match x with | ⟨⟨(x0:List Int),_⟩,⟨(x1:Int),_⟩,⟨(x5:List Int),_⟩,⟨(x21:Int),_⟩,⟨(x22:Int),_⟩,_⟩=>if 0≤x1∧x1≤65536 then gr02_Shl.l1 k x0 x1 x5 x21 x22 else none
@[reducible] def q2_gr02_Shl:List Slot:= [.tmp 5 [.own .mine 5 73 (.int .u64)], .tmp 7 [.ty (.int .u64)], .tmp 8 [.ty (.int .i64)]]
def g2_gr02_Shl (k:Nat) (x:TS q2_gr02_Shl):Option (List Int):=match x with | ⟨⟨(x5:List Int),_⟩,⟨(x7:Int),_⟩,⟨(x8:Int),_⟩,_⟩=>if 0≤x7∧x7<64 then gr02_Shl.l2 k x5 x7 x8 else none
def c_gr02_Shl:Cuts (TT s_gr02_Shl.rs):=⟨⟨78,78,[]⟩,lookC [(0,⟨q0_gr02_Shl,fun k x=>(g0_gr02_Shl k x).map m_gr02_Shl⟩),(1,⟨q1_gr02_Shl,fun k x=>(g1_gr02_Shl k x).map m_gr02_Shl⟩),(2,⟨q2_gr02_Shl,fun k x=>(g2_gr02_Shl k x).map m_gr02_Shl⟩)],lookC [],lookC []⟩
theorem o_gr02_Shl:FOk Tryz.prog 157 s_gr02_Shl :=
 fn_of (Bt:=blook [(19,[0,0,0,0,12,28,0,124,0,0,512,1792,3840,0,8192,32512,65532,131071,262143])]) (l:= [(188, .pu s_gr02_Trim)]) (C:=c_gr02_Shl) (by kernel_rfl) tab_ok ⟨o_gr02_Trim,trivial⟩ (fn:=Tryz.f157) (by kernel_rfl) rfl (by kernel_rfl) (by decide) (by kernel_rfl) (F:=fun k x=>gr02_Shl.f k x.1 x.2.1) (m:=m_gr02_Shl) (fun k x=>rfl)
  (by
   refine And.intro ?_ ?_
   ·refine ob_loop (sl:=q0_gr02_Shl) (F:=g0_gr02_Shl) (fun ⟨⟨(x0:List Int),_⟩,⟨(x1:Int),_⟩,⟨(x5:List Int),_⟩,⟨(x13:Int),_⟩,⟨(x14:Int),_⟩,_⟩=>by show (if 0≤x1∧x1≤65536 then gr02_Shl.l0 0 x0 x1 x5 x13 x14 else none)=none;split<;>rfl) fun k ⟨⟨(x0:List Int),_⟩,⟨(x1:Int),_⟩,⟨(x5:List Int),_⟩,⟨(x13:Int),_⟩,⟨(x14:Int),_⟩,_⟩=> ?_
    show LeT m_gr02_Shl (if 0≤x1∧x1≤65536 then gr02_Shl.l0 (k+1) x0 x1 x5 x13 x14 else none) _
    rw [gr02_Shl.l0];exact go
   refine And.intro ?_ ?_
   ·refine ob_loop (sl:=q1_gr02_Shl) (F:=g1_gr02_Shl) (fun ⟨⟨(x0:List Int),_⟩,⟨(x1:Int),_⟩,⟨(x5:List Int),_⟩,⟨(x21:Int),_⟩,⟨(x22:Int),_⟩,_⟩=>by show (if 0≤x1∧x1≤65536 then gr02_Shl.l1 0 x0 x1 x5 x21 x22 else none)=none;split<;>rfl) fun k ⟨⟨(x0:List Int),_⟩,⟨(x1:Int),_⟩,⟨(x5:List Int),_⟩,⟨(x21:Int),_⟩,⟨(x22:Int),_⟩,_⟩=> ?_
    show LeT m_gr02_Shl (if 0≤x1∧x1≤65536 then gr02_Shl.l1 (k+1) x0 x1 x5 x21 x22 else none) _
    rw [gr02_Shl.l1];exact go
   refine And.intro ?_ ?_
   ·refine ob_loop (sl:=q2_gr02_Shl) (F:=g2_gr02_Shl) (fun ⟨⟨(x5:List Int),_⟩,⟨(x7:Int),_⟩,⟨(x8:Int),_⟩,_⟩=>by show (if 0≤x7∧x7<64 then gr02_Shl.l2 0 x5 x7 x8 else none)=none;split<;>rfl) fun k ⟨⟨(x5:List Int),_⟩,⟨(x7:Int),_⟩,⟨(x8:Int),_⟩,_⟩=> ?_
    show LeT m_gr02_Shl (if 0≤x7∧x7<64 then gr02_Shl.l2 (k+1) x5 x7 x8 else none) _
    rw [gr02_Shl.l2];exact go
   exact trivial)
  (fun k ⟨(a0:List Int),(a1:Int),_⟩=>by show LeT m_gr02_Shl (gr02_Shl.f k a0 a1) _;unfold gr02_Shl.f;exact go)
end
section
def s_gr02_Bit:FSpec:=⟨[(.row 73 (.int .u64)), .int .i64],[.bool],fun _ x=>(gr02_Bit.f x.1 x.2.1).map fun r=>(r,())⟩
def m_gr02_Bit (r:Bool):TT s_gr02_Bit.rs:=(r,())
theorem o_gr02_Bit:FOk Tryz.prog 227 s_gr02_Bit :=
 fn_of (Bt:=blook []) (l:= []) (C:=noCuts) (by kernel_rfl) tab_ok trivial (fn:=Tryz.f227) (by kernel_rfl) rfl (by kernel_rfl) (by decide) (by kernel_rfl) (F:=fun k x=>gr02_Bit.f x.1 x.2.1) (m:=m_gr02_Bit) (fun k x=>rfl)
  (by exact trivial)
  (fun k ⟨(a0:List Int),(a1:Int),_⟩=>by show LeT m_gr02_Bit (gr02_Bit.f a0 a1) _;unfold gr02_Bit.f;exact go)
end
section
attribute [local irreducible] gr02_Size.f gr02_Bit.f
def s_gr02_Even:FSpec:=⟨[(.row 73 (.int .u64))],[.int .i64],fun k x=>(gr02_Even.f k x.1).map fun r=>(r,())⟩
def m_gr02_Even (r:Int):TT s_gr02_Even.rs:=(r,())
@[reducible] def q0_gr02_Even:List Slot:= [.tmp 0 [.ty (.row 73 (.int .u64))], .tmp 3 [.ty (.int .i64)]]
def g0_gr02_Even (k:Nat) (x:TS q0_gr02_Even):Option (Int):=gr02_Even.l0 k x.1.1 x.2.1.1
def c_gr02_Even:Cuts (TT s_gr02_Even.rs):=⟨⟨14,14,[]⟩,lookC [(0,⟨q0_gr02_Even,fun k x=>(g0_gr02_Even k x).map m_gr02_Even⟩)],lookC [],lookC []⟩
theorem o_gr02_Even:FOk Tryz.prog 189 s_gr02_Even :=
 fn_of (Bt:=blook []) (l:= [(126, .pu s_gr02_Size),(227, .pu s_gr02_Bit)]) (C:=c_gr02_Even) (by kernel_rfl) tab_ok ⟨o_gr02_Size,o_gr02_Bit,trivial⟩ (fn:=Tryz.f189) (by kernel_rfl) rfl (by kernel_rfl) (by decide) (by kernel_rfl) (F:=fun k x=>gr02_Even.f k x.1) (m:=m_gr02_Even) (fun k x=>rfl)
  (by
   refine And.intro ?_ ?_
   ·refine ob_loop (sl:=q0_gr02_Even) (F:=g0_gr02_Even) (fun x=>rfl) fun k ⟨⟨(x0:List Int),_⟩,⟨(x3:Int),_⟩,_⟩=> ?_
    show LeT m_gr02_Even (gr02_Even.l0 (k+1) x0 x3) _
    rw [gr02_Even.l0];exact go
   exact trivial)
  (fun k ⟨(a0:List Int),_⟩=>by show LeT m_gr02_Even (gr02_Even.f k a0) _;unfold gr02_Even.f;exact go)
end
section
attribute [local irreducible] gr02_Trim.f
def s_gr02_Shr:FSpec:=⟨[(.row 73 (.int .u64)), .int .i64],[(.row 73 (.int .u64))],fun k x=>(gr02_Shr.f k x.1 x.2.1).map fun r=>(r,())⟩
def m_gr02_Shr (r:List Int):TT s_gr02_Shr.rs:=(r,())
@[reducible] def q0_gr02_Shr:List Slot:= [.tmp 0 [.ty (.row 73 (.int .u64))], .tmp 1 [.ty (.int .i64)], .tmp 5 [.own .mine 5 73 (.int .u64)], .tmp 6 [.ty (.int .i64)]]
def g0_gr02_Shr (k:Nat) (x:TS q0_gr02_Shr):Option (List Int):=match x with | ⟨⟨(x0:List Int),_⟩,⟨(x1:Int),_⟩,⟨(x5:List Int),_⟩,⟨(x6:Int),_⟩,_⟩=>if 0≤x1 then gr02_Shr.l0 k x0 x1 x5 x6 else none
@[reducible] def q1_gr02_Shr:List Slot:= [.tmp 5 [.own .mine 5 73 (.int .u64)], .tmp 7 [.ty (.int .u64)], .tmp 35 [.ty (.int .i64)], .tmp 36 [.ty (.int .i64)]]
def g1_gr02_Shr (k:Nat) (x:TS q1_gr02_Shr):Option (List Int):=match x with | ⟨⟨(x5:List Int),_⟩,⟨(x7:Int),_⟩,⟨(x35:Int),_⟩,⟨(x36:Int),_⟩,_⟩=>if 0≤x7∧x7<64 then gr02_Shr.l1 k x5 x7 x35 x36 else none
def c_gr02_Shr:Cuts (TT s_gr02_Shr.rs):=⟨⟨72,72,[]⟩,lookC [(0,⟨q0_gr02_Shr,fun k x=>(g0_gr02_Shr k x).map m_gr02_Shr⟩),(1,⟨q1_gr02_Shr,fun k x=>(g1_gr02_Shr k x).map m_gr02_Shr⟩)],lookC [],lookC []⟩
theorem o_gr02_Shr:FOk Tryz.prog 190 s_gr02_Shr :=
 fn_of (Bt:=blook [(15,[0,0,0,0,12,28,0,0,128,448,960,0,2048,8128,16380,32767,65535])]) (l:= [(188, .pu s_gr02_Trim)]) (C:=c_gr02_Shr) (by kernel_rfl) tab_ok ⟨o_gr02_Trim,trivial⟩ (fn:=Tryz.f190) (by kernel_rfl) rfl (by kernel_rfl) (by decide) (by kernel_rfl) (F:=fun k x=>gr02_Shr.f k x.1 x.2.1) (m:=m_gr02_Shr) (fun k x=>rfl)
  (by
   refine And.intro ?_ ?_
   ·refine ob_loop (sl:=q0_gr02_Shr) (F:=g0_gr02_Shr) (fun ⟨⟨(x0:List Int),_⟩,⟨(x1:Int),_⟩,⟨(x5:List Int),_⟩,⟨(x6:Int),_⟩,_⟩=>by show (if 0≤x1 then gr02_Shr.l0 0 x0 x1 x5 x6 else none)=none;split<;>rfl) fun k ⟨⟨(x0:List Int),_⟩,⟨(x1:Int),_⟩,⟨(x5:List Int),_⟩,⟨(x6:Int),_⟩,_⟩=> ?_
    show LeT m_gr02_Shr (if 0≤x1 then gr02_Shr.l0 (k+1) x0 x1 x5 x6 else none) _
    rw [gr02_Shr.l0];exact go
   refine And.intro ?_ ?_
   ·refine ob_loop (sl:=q1_gr02_Shr) (F:=g1_gr02_Shr) (fun ⟨⟨(x5:List Int),_⟩,⟨(x7:Int),_⟩,⟨(x35:Int),_⟩,⟨(x36:Int),_⟩,_⟩=>by show (if 0≤x7∧x7<64 then gr02_Shr.l1 0 x5 x7 x35 x36 else none)=none;split<;>rfl) fun k ⟨⟨(x5:List Int),_⟩,⟨(x7:Int),_⟩,⟨(x35:Int),_⟩,⟨(x36:Int),_⟩,_⟩=> ?_
    show LeT m_gr02_Shr (if 0≤x7∧x7<64 then gr02_Shr.l1 (k+1) x5 x7 x35 x36 else none) _
    rw [gr02_Shr.l1];exact go
   exact trivial)
  (fun k ⟨(a0:List Int),(a1:Int),_⟩=>by show LeT m_gr02_Shr (gr02_Shr.f k a0 a1) _;unfold gr02_Shr.f;exact go)
end
section
attribute [local irreducible] gr02_Cmp.f gr02_Sub.f gr02_Size.f gr02_Shl.f gr02_Trim.f gr02_Even.f gr02_Shr.f
def s_gr05_Gcd:FSpec:=⟨[(.row 73 (.int .u64)),(.row 73 (.int .u64))],[(.row 73 (.int .u64))],fun k x=>(gr05_Gcd.f k x.1 x.2.1).map fun r=>(r,())⟩
def m_gr05_Gcd (r:List Int):TT s_gr05_Gcd.rs:=(r,())
@[reducible] def q0_gr05_Gcd:List Slot:= [.tmp 0 [.ty (.row 73 (.int .u64))], .tmp 1 [.ty (.row 73 (.int .u64))], .tmp 28 [.ty .bool]]
def g0_gr05_Gcd (k:Nat) (x:TS q0_gr05_Gcd):Option (List Int):=gr05_Gcd.j0 k x.1.1 x.2.1.1 x.2.2.1.1
@[reducible] def q1_gr05_Gcd:List Slot:= [.tmp 5 [.ty (.int .u64)], .tmp 6 [.ty (.int .u64)]]
def g1_gr05_Gcd (k:Nat) (x:TS q1_gr05_Gcd):Option (List Int):=gr05_Gcd.l0 k x.1.1 x.2.1.1
@[reducible] def q2_gr05_Gcd:List Slot:= [.tmp 7 [.ty (.int .i64)], .tmp 8 [.ty (.row 73 (.int .u64))], .tmp 9 [.ty (.row 73 (.int .u64))]]
def g2_gr05_Gcd (k:Nat) (x:TS q2_gr05_Gcd):Option (List Int):=gr05_Gcd.l1 k x.1.1 x.2.1.1 x.2.2.1.1
def c_gr05_Gcd:Cuts (TT s_gr05_Gcd.rs):=⟨⟨75,75,[]⟩,lookC [(0,⟨q1_gr05_Gcd,fun k x=>(g1_gr05_Gcd k x).map m_gr05_Gcd⟩),(1,⟨q2_gr05_Gcd,fun k x=>(g2_gr05_Gcd k x).map m_gr05_Gcd⟩)],lookC [],lookC [(5,⟨q0_gr05_Gcd,fun k x=>(g0_gr05_Gcd k x).map m_gr05_Gcd⟩)]⟩
theorem o_gr05_Gcd:FOk Tryz.prog 120 s_gr05_Gcd :=
 fn_of (Bt:=blook [(6,[0,1,3,0,8,24,7,127]),(8,[0,0,0,6,3,31])]) (l:= [(75, .pu s_gr02_Cmp),(76, .pu s_gr02_Sub),(126, .pu s_gr02_Size),(157, .pu s_gr02_Shl),(188, .pu s_gr02_Trim),(189, .pu s_gr02_Even),(190, .pu s_gr02_Shr)]) (C:=c_gr05_Gcd) (by kernel_rfl) tab_ok ⟨o_gr02_Cmp,o_gr02_Sub,o_gr02_Size,o_gr02_Shl,o_gr02_Trim,o_gr02_Even,o_gr02_Shr,trivial⟩ (fn:=Tryz.f120) (by kernel_rfl) rfl (by kernel_rfl) (by decide) (by kernel_rfl) (F:=fun k x=>gr05_Gcd.f k x.1 x.2.1) (m:=m_gr05_Gcd) (fun k x=>rfl)
  (by
   refine And.intro ?_ ?_
   ·refine ob_join1 (sl:=q0_gr05_Gcd) (F:=g0_gr05_Gcd) (fun x=>rfl) fun k ⟨⟨(x0:List Int),_⟩,⟨(x1:List Int),_⟩,⟨(x28:Bool),_⟩,_⟩=> ?_
    show LeT m_gr05_Gcd (gr05_Gcd.j0 (k+1) x0 x1 x28) _
    rw [gr05_Gcd.j0];exact go
   refine And.intro ?_ ?_
   ·refine ob_loop (sl:=q1_gr05_Gcd) (F:=g1_gr05_Gcd) (fun x=>rfl) fun k ⟨⟨(x5:Int),_⟩,⟨(x6:Int),_⟩,_⟩=> ?_
    show LeT m_gr05_Gcd (gr05_Gcd.l0 (k+1) x5 x6) _
    rw [gr05_Gcd.l0];exact go
   refine And.intro ?_ ?_
   ·refine ob_loop (sl:=q2_gr05_Gcd) (F:=g2_gr05_Gcd) (fun x=>rfl) fun k ⟨⟨(x7:Int),_⟩,⟨(x8:List Int),_⟩,⟨(x9:List Int),_⟩,_⟩=> ?_
    show LeT m_gr05_Gcd (gr05_Gcd.l1 (k+1) x7 x8 x9) _
    rw [gr05_Gcd.l1];exact go
   exact trivial)
  (fun k ⟨(a0:List Int),(a1:List Int),_⟩=>by show LeT m_gr05_Gcd (gr05_Gcd.f k a0 a1) _;unfold gr05_Gcd.f;exact go)
end
section
attribute [local irreducible] gr02_Cmp.f gr02_Right.f gr05_Gcd.f
def s_gr07_Right:FSpec:=⟨[(.cons .bool (.cons (.row 73 (.int .u64)) (.row 73 (.int .u64))))],[.bool],fun k x=>(gr07_Right.f k x.1.1 x.1.2.1 x.1.2.2).map fun r=>(r,())⟩
def m_gr07_Right (r:Bool):TT s_gr07_Right.rs:=(r,())
theorem o_gr07_Right:FOk Tryz.prog 65 s_gr07_Right :=
 fn_of (Bt:=blook []) (l:= [(75, .pu s_gr02_Cmp),(119, .pu s_gr02_Right),(120, .pu s_gr05_Gcd)]) (C:=noCuts) (by kernel_rfl) tab_ok ⟨o_gr02_Cmp,o_gr02_Right,o_gr05_Gcd,trivial⟩ (fn:=Tryz.f65) (by kernel_rfl) rfl (by kernel_rfl) (by decide) (by kernel_rfl) (F:=fun k x=>gr07_Right.f k x.1.1 x.1.2.1 x.1.2.2) (m:=m_gr07_Right) (fun k x=>rfl)
  (by exact trivial)
  (fun k ⟨(a0:Bool × List Int × List Int),_⟩=>by show LeT m_gr07_Right (gr07_Right.f k a0.1 a0.2.1 a0.2.2) _;unfold gr07_Right.f;unfold gr07_Right.j0;exact goq)
end
section
def s_gr15_Arity:FSpec:=⟨[.int .i64],[.int .i64],fun k x=>(gr15_Arity.f k x.1).map fun r=>(r,())⟩
def m_gr15_Arity (r:Int):TT s_gr15_Arity.rs:=(r,())
@[reducible] def q0_gr15_Arity:List Slot:= [.tmp 0 [.ty (.int .i64)], .tmp 8 [.ty .bool]]
def g0_gr15_Arity (k:Nat) (x:TS q0_gr15_Arity):Option (Int):=gr15_Arity.j0 k x.1.1 x.2.1.1
@[reducible] def q1_gr15_Arity:List Slot:= [.tmp 0 [.ty (.int .i64)], .tmp 18 [.ty .bool]]
def g1_gr15_Arity (k:Nat) (x:TS q1_gr15_Arity):Option (Int):=gr15_Arity.j1 k x.1.1 x.2.1.1
def c_gr15_Arity:Cuts (TT s_gr15_Arity.rs):=⟨⟨25,25,[]⟩,lookC [],lookC [],lookC [(1,⟨q0_gr15_Arity,fun k x=>(g0_gr15_Arity k x).map m_gr15_Arity⟩),(3,⟨q1_gr15_Arity,fun k x=>(g1_gr15_Arity k x).map m_gr15_Arity⟩)]⟩
theorem o_gr15_Arity:FOk Tryz.prog 70 s_gr15_Arity :=
 fn_of (Bt:=blook []) (l:= []) (C:=c_gr15_Arity) (by kernel_rfl) tab_ok trivial (fn:=Tryz.f70) (by kernel_rfl) rfl (by kernel_rfl) (by decide) (by kernel_rfl) (F:=fun k x=>gr15_Arity.f k x.1) (m:=m_gr15_Arity) (fun k x=>rfl)
  (by
   refine And.intro ?_ ?_
   ·refine ob_join1 (sl:=q0_gr15_Arity) (F:=g0_gr15_Arity) (fun x=>rfl) fun k ⟨⟨(x0:Int),_⟩,⟨(x8:Bool),_⟩,_⟩=> ?_
    show LeT m_gr15_Arity (gr15_Arity.j0 (k+1) x0 x8) _
    rw [gr15_Arity.j0];exact go
   refine And.intro ?_ ?_
   ·refine ob_join1 (sl:=q1_gr15_Arity) (F:=g1_gr15_Arity) (fun x=>rfl) fun k ⟨⟨(x0:Int),_⟩,⟨(x18:Bool),_⟩,_⟩=> ?_
    show LeT m_gr15_Arity (gr15_Arity.j1 (k+1) x0 x18) _
    rw [gr15_Arity.j1];exact go
   exact trivial)
  (fun k ⟨(a0:Int),_⟩=>by show LeT m_gr15_Arity (gr15_Arity.f k a0) _;unfold gr15_Arity.f;exact go)
end
section
def s_gr07_Words:FSpec:=⟨[(.row 73 (.int .u64)),(.row 73 (.int .u64))],[.bool],fun k x=>(gr07_Words.f k x.1 x.2.1).map fun r=>(r,())⟩
def m_gr07_Words (r:Bool):TT s_gr07_Words.rs:=(r,())
@[reducible] def q0_gr07_Words:List Slot:= [.tmp 0 [.ty (.row 73 (.int .u64))], .tmp 1 [.ty (.row 73 (.int .u64))], .tmp 12 [.ty (.int .i64)], .tmp 13 [.ty (.int .i64)]]
def g0_gr07_Words (k:Nat) (x:TS q0_gr07_Words):Option (Bool):=gr07_Words.l0 k x.1.1 x.2.1.1 x.2.2.1.1 x.2.2.2.1.1
def c_gr07_Words:Cuts (TT s_gr07_Words.rs):=⟨⟨26,26,[]⟩,lookC [(0,⟨q0_gr07_Words,fun k x=>(g0_gr07_Words k x).map m_gr07_Words⟩)],lookC [],lookC []⟩
theorem o_gr07_Words:FOk Tryz.prog 95 s_gr07_Words :=
 fn_of (Bt:=blook [(6,[0,0,3,7,0,0,48,112,255])]) (l:= []) (C:=c_gr07_Words) (by kernel_rfl) tab_ok trivial (fn:=Tryz.f95) (by kernel_rfl) rfl (by kernel_rfl) (by decide) (by kernel_rfl) (F:=fun k x=>gr07_Words.f k x.1 x.2.1) (m:=m_gr07_Words) (fun k x=>rfl)
  (by
   refine And.intro ?_ ?_
   ·refine ob_loop (sl:=q0_gr07_Words) (F:=g0_gr07_Words) (fun x=>rfl) fun k ⟨⟨(x0:List Int),_⟩,⟨(x1:List Int),_⟩,⟨(x12:Int),_⟩,⟨(x13:Int),_⟩,_⟩=> ?_
    show LeT m_gr07_Words (gr07_Words.l0 (k+1) x0 x1 x12 x13) _
    rw [gr07_Words.l0];exact go
   exact trivial)
  (fun k ⟨(a0:List Int),(a1:List Int),_⟩=>by show LeT m_gr07_Words (gr07_Words.f k a0 a1) _;unfold gr07_Words.f;exact go)
end
section
attribute [local irreducible] gr07_Words.f
def s_gr07_Same:FSpec:=⟨[(.cons .bool (.cons (.row 73 (.int .u64)) (.row 73 (.int .u64)))),(.cons .bool (.cons (.row 73 (.int .u64)) (.row 73 (.int .u64))))],[.bool],fun k x=>(gr07_Same.f k x.1.1 x.1.2.1 x.1.2.2 x.2.1.1 x.2.1.2.1 x.2.1.2.2).map fun r=>(r,())⟩
def m_gr07_Same (r:Bool):TT s_gr07_Same.rs:=(r,())
theorem o_gr07_Same:FOk Tryz.prog 37 s_gr07_Same :=
 fn_of (Bt:=blook []) (l:= [(95, .pu s_gr07_Words)]) (C:=noCuts) (by kernel_rfl) tab_ok ⟨o_gr07_Words,trivial⟩ (fn:=Tryz.f37) (by kernel_rfl) rfl (by kernel_rfl) (by decide) (by kernel_rfl) (F:=fun k x=>gr07_Same.f k x.1.1 x.1.2.1 x.1.2.2 x.2.1.1 x.2.1.2.1 x.2.1.2.2) (m:=m_gr07_Same) (fun k x=>rfl)
  (by exact trivial)
  (fun k ⟨(a0:Bool × List Int × List Int),(a1:Bool × List Int × List Int),_⟩=>by show LeT m_gr07_Same (gr07_Same.f k a0.1 a0.2.1 a0.2.2 a1.1 a1.2.1 a1.2.2) _;unfold gr07_Same.f;exact go)
end
section
attribute [local irreducible] gr07_Same.f
def s_gr15_None:FSpec:=⟨[(.cons .bool (.cons (.row 73 (.int .u64)) (.row 73 (.int .u64))))],[.bool],fun k x=>(gr15_None.f k x.1.1 x.1.2.1 x.1.2.2).map fun r=>(r,())⟩
def m_gr15_None (r:Bool):TT s_gr15_None.rs:=(r,())
theorem o_gr15_None:FOk Tryz.prog 167 s_gr15_None :=
 fn_of (Bt:=blook []) (l:= [(37, .pu s_gr07_Same)]) (C:=noCuts) (by kernel_rfl) tab_ok ⟨o_gr07_Same,trivial⟩ (fn:=Tryz.f167) (by kernel_rfl) rfl (by kernel_rfl) (by decide) (by kernel_rfl) (F:=fun k x=>gr15_None.f k x.1.1 x.1.2.1 x.1.2.2) (m:=m_gr15_None) (fun k x=>rfl)
  (by exact trivial)
  (fun k ⟨(a0:Bool × List Int × List Int),_⟩=>by show LeT m_gr15_None (gr15_None.f k a0.1 a0.2.1 a0.2.2) _;unfold gr15_None.f;exact go)
end
section
attribute [local irreducible] gr07_Right.f gr15_Arity.f gr15_None.f
def s_gr15_Fits:FSpec:=⟨[(.cons (.int .i64) (.cons (.int .i64) (.cons (.int .i64) (.cons .bool (.cons (.row 73 (.int .u64)) (.row 73 (.int .u64))))))), .int .i64],[.bool],fun k x=>(gr15_Fits.f k x.1.1 x.1.2.1 x.1.2.2.1 x.1.2.2.2.1 x.1.2.2.2.2.1 x.1.2.2.2.2.2 x.2.1).map fun r=>(r,())⟩
def m_gr15_Fits (r:Bool):TT s_gr15_Fits.rs:=(r,())
theorem o_gr15_Fits:FOk Tryz.prog 92 s_gr15_Fits :=
 fn_of (Bt:=blook []) (l:= [(65, .pu s_gr07_Right),(70, .pu s_gr15_Arity),(167, .pu s_gr15_None)]) (C:=noCuts) (by kernel_rfl) tab_ok ⟨o_gr07_Right,o_gr15_Arity,o_gr15_None,trivial⟩ (fn:=Tryz.f92) (by kernel_rfl) rfl (by kernel_rfl) (by decide) (by kernel_rfl) (F:=fun k x=>gr15_Fits.f k x.1.1 x.1.2.1 x.1.2.2.1 x.1.2.2.2.1 x.1.2.2.2.2.1 x.1.2.2.2.2.2 x.2.1) (m:=m_gr15_Fits) (fun k x=>rfl)
  (by exact trivial)
  (fun k ⟨(a0:Int × Int × Int × Bool × List Int × List Int),(a1:Int),_⟩=>by show LeT m_gr15_Fits (gr15_Fits.f k a0.1 a0.2.1 a0.2.2.1 a0.2.2.2.1 a0.2.2.2.2.1 a0.2.2.2.2.2 a1) _;unfold gr15_Fits.f;exact go)
end
section
attribute [local irreducible] gr15_Fits.f
def s_gr15_Right:FSpec:=⟨[(.row 93 (.cons (.int .i64) (.cons (.int .i64) (.cons (.int .i64) (.cons .bool (.cons (.row 73 (.int .u64)) (.row 73 (.int .u64))))))))],[.bool],fun k x=>(gr15_Right.f k x.1).map fun r=>(r,())⟩
def m_gr15_Right (r:Bool):TT s_gr15_Right.rs:=(r,())
@[reducible] def q0_gr15_Right:List Slot:= [.tmp 0 [.ty (.row 93 (.cons (.int .i64) (.cons (.int .i64) (.cons (.int .i64) (.cons .bool (.cons (.row 73 (.int .u64)) (.row 73 (.int .u64))))))))], .tmp 5 [.ty (.int .i64)], .tmp 6 [.ty (.int .i64)]]
def g0_gr15_Right (k:Nat) (x:TS q0_gr15_Right):Option (Bool):=gr15_Right.l0 k x.1.1 x.2.1.1 x.2.2.1.1
def c_gr15_Right:Cuts (TT s_gr15_Right.rs):=⟨⟨20,20,[]⟩,lookC [(0,⟨q0_gr15_Right,fun k x=>(g0_gr15_Right k x).map m_gr15_Right⟩)],lookC [],lookC []⟩
theorem o_gr15_Right:FOk Tryz.prog 35 s_gr15_Right :=
 fn_of (Bt:=blook []) (l:= [(92, .pu s_gr15_Fits)]) (C:=c_gr15_Right) (by kernel_rfl) tab_ok ⟨o_gr15_Fits,trivial⟩ (fn:=Tryz.f35) (by kernel_rfl) rfl (by kernel_rfl) (by decide) (by kernel_rfl) (F:=fun k x=>gr15_Right.f k x.1) (m:=m_gr15_Right) (fun k x=>rfl)
  (by
   refine And.intro ?_ ?_
   ·refine ob_loop (sl:=q0_gr15_Right) (F:=g0_gr15_Right) (fun x=>rfl) fun k ⟨⟨(x0:List (Int × Int × Int × Bool × (List Int) × List Int)),_⟩,⟨(x5:Int),_⟩,⟨(x6:Int),_⟩,_⟩=> ?_
    show LeT m_gr15_Right (gr15_Right.l0 (k+1) x0 x5 x6) _
    rw [gr15_Right.l0];exact go
   exact trivial)
  (fun k ⟨(a0:List (Int × Int × Int × Bool × (List Int) × List Int)),_⟩=>by show LeT m_gr15_Right (gr15_Right.f k a0) _;unfold gr15_Right.f;exact go)
end
section
def s_gr09_Field:FSpec:=⟨[.int .u64],[.int .i64],fun _ x=>(gr09_Field.f x.1).map fun r=>(r,())⟩
def m_gr09_Field (r:Int):TT s_gr09_Field.rs:=(r,())
theorem o_gr09_Field:FOk Tryz.prog 225 s_gr09_Field :=
 fn_of (Bt:=blook []) (l:= []) (C:=noCuts) (by kernel_rfl) tab_ok trivial (fn:=Tryz.f225) (by kernel_rfl) rfl (by kernel_rfl) (by decide) (by kernel_rfl) (F:=fun k x=>gr09_Field.f x.1) (m:=m_gr09_Field) (fun k x=>rfl)
  (by exact trivial)
  (fun k ⟨(a0:Int),_⟩=>by show LeT m_gr09_Field (gr09_Field.f a0) _;unfold gr09_Field.f;exact go)
end
section
def s_gr09_Rest:FSpec:=⟨[.int .u64],[.int .u64],fun _ x=>(gr09_Rest.f x.1).map fun r=>(r,())⟩
def m_gr09_Rest (r:Int):TT s_gr09_Rest.rs:=(r,())
theorem o_gr09_Rest:FOk Tryz.prog 226 s_gr09_Rest :=
 fn_of (Bt:=blook []) (l:= []) (C:=noCuts) (by kernel_rfl) tab_ok trivial (fn:=Tryz.f226) (by kernel_rfl) rfl (by kernel_rfl) (by decide) (by kernel_rfl) (F:=fun k x=>gr09_Rest.f x.1) (m:=m_gr09_Rest) (fun k x=>rfl)
  (by exact trivial)
  (fun k ⟨(a0:Int),_⟩=>by show LeT m_gr09_Rest (gr09_Rest.f a0) _;unfold gr09_Rest.f;exact go)
end
section
attribute [local irreducible] gr09_Field.f gr09_Rest.f
def s_gr09_Kind:FSpec:=⟨[.int .u64],[.int .i64],fun _ x=>(gr09_Kind.f x.1).map fun r=>(r,())⟩
def m_gr09_Kind (r:Int):TT s_gr09_Kind.rs:=(r,())
theorem o_gr09_Kind:FOk Tryz.prog 152 s_gr09_Kind :=
 fn_of (Bt:=blook []) (l:= [(225, .pu s_gr09_Field),(226, .pu s_gr09_Rest)]) (C:=noCuts) (by kernel_rfl) tab_ok ⟨o_gr09_Field,o_gr09_Rest,trivial⟩ (fn:=Tryz.f152) (by kernel_rfl) rfl (by kernel_rfl) (by decide) (by kernel_rfl) (F:=fun k x=>gr09_Kind.f x.1) (m:=m_gr09_Kind) (fun k x=>rfl)
  (by exact trivial)
  (fun k ⟨(a0:Int),_⟩=>by show LeT m_gr09_Kind (gr09_Kind.f a0) _;unfold gr09_Kind.f;exact go)
end
section
def s_gr09_Nan:FSpec:=⟨[],[.int .u64],fun _ _=>(gr09_Nan.f).map fun r=>(r,())⟩
def m_gr09_Nan (r:Int):TT s_gr09_Nan.rs:=(r,())
theorem o_gr09_Nan:FOk Tryz.prog 153 s_gr09_Nan :=
 fn_of (Bt:=blook []) (l:= []) (C:=noCuts) (by kernel_rfl) tab_ok trivial (fn:=Tryz.f153) (by kernel_rfl) rfl (by kernel_rfl) (by decide) (by kernel_rfl) (F:=fun k x=>gr09_Nan.f) (m:=m_gr09_Nan) (fun k x=>rfl)
  (by exact trivial)
  (fun k x=>by show LeT m_gr09_Nan (gr09_Nan.f) _;unfold gr09_Nan.f;exact go)
end
section
attribute [local irreducible] gr09_Kind.f gr09_Nan.f
def s_gr09_Clean:FSpec:=⟨[.int .u64],[.int .u64],fun _ x=>(gr09_Clean.f x.1).map fun r=>(r,())⟩
def m_gr09_Clean (r:Int):TT s_gr09_Clean.rs:=(r,())
theorem o_gr09_Clean:FOk Tryz.prog 89 s_gr09_Clean :=
 fn_of (Bt:=blook []) (l:= [(152, .pu s_gr09_Kind),(153, .pu s_gr09_Nan)]) (C:=noCuts) (by kernel_rfl) tab_ok ⟨o_gr09_Kind,o_gr09_Nan,trivial⟩ (fn:=Tryz.f89) (by kernel_rfl) rfl (by kernel_rfl) (by decide) (by kernel_rfl) (F:=fun k x=>gr09_Clean.f x.1) (m:=m_gr09_Clean) (fun k x=>rfl)
  (by exact trivial)
  (fun k ⟨(a0:Int),_⟩=>by show LeT m_gr09_Clean (gr09_Clean.f a0) _;unfold gr09_Clean.f;exact go)
end
section
def s_gr07_Zero:FSpec:=⟨[(.cons .bool (.cons (.row 73 (.int .u64)) (.row 73 (.int .u64))))],[.bool],fun _ x=>(gr07_Zero.f x.1.1 x.1.2.1 x.1.2.2).map fun r=>(r,())⟩
def m_gr07_Zero (r:Bool):TT s_gr07_Zero.rs:=(r,())
theorem o_gr07_Zero:FOk Tryz.prog 123 s_gr07_Zero :=
 fn_of (Bt:=blook []) (l:= []) (C:=noCuts) (by kernel_rfl) tab_ok trivial (fn:=Tryz.f123) (by kernel_rfl) rfl (by kernel_rfl) (by decide) (by kernel_rfl) (F:=fun k x=>gr07_Zero.f x.1.1 x.1.2.1 x.1.2.2) (m:=m_gr07_Zero) (fun k x=>rfl)
  (by exact trivial)
  (fun k ⟨(a0:Bool × List Int × List Int),_⟩=>by show LeT m_gr07_Zero (gr07_Zero.f a0.1 a0.2.1 a0.2.2) _;unfold gr07_Zero.f;exact go)
end
section
def s_gr01_Len:FSpec:=⟨[.int .u64],[.int .i64],fun k x=>(gr01_Len.f k x.1).map fun r=>(r,())⟩
def m_gr01_Len (r:Int):TT s_gr01_Len.rs:=(r,())
@[reducible] def q0_gr01_Len:List Slot:= [.tmp 0 [.ty (.int .u64)], .tmp 3 [.ty (.int .i64)]]
def g0_gr01_Len (k:Nat) (x:TS q0_gr01_Len):Option (Int):=gr01_Len.l0 k x.1.1 x.2.1.1
def c_gr01_Len:Cuts (TT s_gr01_Len.rs):=⟨⟨11,11,[]⟩,lookC [(0,⟨q0_gr01_Len,fun k x=>(g0_gr01_Len k x).map m_gr01_Len⟩)],lookC [],lookC []⟩
theorem o_gr01_Len:FOk Tryz.prog 191 s_gr01_Len :=
 fn_of (Bt:=blook []) (l:= []) (C:=c_gr01_Len) (by kernel_rfl) tab_ok trivial (fn:=Tryz.f191) (by kernel_rfl) rfl (by kernel_rfl) (by decide) (by kernel_rfl) (F:=fun k x=>gr01_Len.f k x.1) (m:=m_gr01_Len) (fun k x=>rfl)
  (by
   refine And.intro ?_ ?_
   ·refine ob_loop (sl:=q0_gr01_Len) (F:=g0_gr01_Len) (fun x=>rfl) fun k ⟨⟨(x0:Int),_⟩,⟨(x3:Int),_⟩,_⟩=> ?_
    show LeT m_gr01_Len (gr01_Len.l0 (k+1) x0 x3) _
    rw [gr01_Len.l0];exact go
   exact trivial)
  (fun k ⟨(a0:Int),_⟩=>by show LeT m_gr01_Len (gr01_Len.f k a0) _;unfold gr01_Len.f;exact go)
end
section
attribute [local irreducible] gr02_Size.f gr01_Len.f
def s_gr02_Bits:FSpec:=⟨[(.row 73 (.int .u64))],[.int .i64],fun k x=>(gr02_Bits.f k x.1).map fun r=>(r,())⟩
def m_gr02_Bits (r:Int):TT s_gr02_Bits.rs:=(r,())
theorem o_gr02_Bits:FOk Tryz.prog 124 s_gr02_Bits :=
 fn_of (Bt:=blook []) (l:= [(126, .pu s_gr02_Size),(191, .pu s_gr01_Len)]) (C:=noCuts) (by kernel_rfl) tab_ok ⟨o_gr02_Size,o_gr01_Len,trivial⟩ (fn:=Tryz.f124) (by kernel_rfl) rfl (by kernel_rfl) (by decide) (by kernel_rfl) (F:=fun k x=>gr02_Bits.f k x.1) (m:=m_gr02_Bits) (fun k x=>rfl)
  (by exact trivial)
  (fun k ⟨(a0:List Int),_⟩=>by show LeT m_gr02_Bits (gr02_Bits.f k a0) _;unfold gr02_Bits.f;exact go)
end
section
def s_gr09_Signed:FSpec:=⟨[.bool, .int .u64],[.int .u64],fun _ x=>(gr09_Signed.f x.1 x.2.1).map fun r=>(r,())⟩
def m_gr09_Signed (r:Int):TT s_gr09_Signed.rs:=(r,())
theorem o_gr09_Signed:FOk Tryz.prog 155 s_gr09_Signed :=
 fn_of (Bt:=blook []) (l:= []) (C:=noCuts) (by kernel_rfl) tab_ok trivial (fn:=Tryz.f155) (by kernel_rfl) rfl (by kernel_rfl) (by decide) (by kernel_rfl) (F:=fun k x=>gr09_Signed.f x.1 x.2.1) (m:=m_gr09_Signed) (fun k x=>rfl)
  (by exact trivial)
  (fun k ⟨(a0:Bool),(a1:Int),_⟩=>by show LeT m_gr09_Signed (gr09_Signed.f a0 a1) _;unfold gr09_Signed.f;exact go)
end
section
attribute [local irreducible] gr09_Signed.f
def s_gr09_Inf:FSpec:=⟨[.bool],[.int .u64],fun _ x=>(gr09_Inf.f x.1).map fun r=>(r,())⟩
def m_gr09_Inf (r:Int):TT s_gr09_Inf.rs:=(r,())
theorem o_gr09_Inf:FOk Tryz.prog 154 s_gr09_Inf :=
 fn_of (Bt:=blook []) (l:= [(155, .pu s_gr09_Signed)]) (C:=noCuts) (by kernel_rfl) tab_ok ⟨o_gr09_Signed,trivial⟩ (fn:=Tryz.f154) (by kernel_rfl) rfl (by kernel_rfl) (by decide) (by kernel_rfl) (F:=fun k x=>gr09_Inf.f x.1) (m:=m_gr09_Inf) (fun k x=>rfl)
  (by exact trivial)
  (fun k ⟨(a0:Bool),_⟩=>by show LeT m_gr09_Inf (gr09_Inf.f a0) _;unfold gr09_Inf.f;exact go)
end
section
def s_gr04_set:FSpec:=⟨[(.row 73 (.int .u64)), .int .i64],[(.row 73 (.int .u64))],fun k x=>(gr04_set.f k x.1 x.2.1).map fun r=>(r,())⟩
def m_gr04_set (r:List Int):TT s_gr04_set.rs:=(r,())
@[reducible] def q0_gr04_set:List Slot:= [.tmp 0 [.ty (.row 73 (.int .u64))], .tmp 1 [.ty (.int .i64)], .tmp 5 [.own .mine 5 73 (.int .u64)], .tmp 13 [.ty (.int .i64)], .tmp 14 [.ty (.int .i64)]]
def g0_gr04_set (k:Nat) (x:TS q0_gr04_set):Option (List Int):=gr04_set.l0 k x.1.1 x.2.1.1 x.2.2.1.1 x.2.2.2.1.1 x.2.2.2.2.1.1
def c_gr04_set:Cuts (TT s_gr04_set.rs):=⟨⟨41,41,[]⟩,lookC [(0,⟨q0_gr04_set,fun k x=>(g0_gr04_set k x).map m_gr04_set⟩)],lookC [],lookC []⟩
theorem o_gr04_set:FOk Tryz.prog 228 s_gr04_set :=
 fn_of (Bt:=blook []) (l:= []) (C:=c_gr04_set) (by kernel_rfl) tab_ok trivial (fn:=Tryz.f228) (by kernel_rfl) rfl (by kernel_rfl) (by decide) (by kernel_rfl) (F:=fun k x=>gr04_set.f k x.1 x.2.1) (m:=m_gr04_set) (fun k x=>rfl)
  (by
   refine And.intro ?_ ?_
   ·refine ob_loop (sl:=q0_gr04_set) (F:=g0_gr04_set) (fun x=>rfl) fun k ⟨⟨(x0:List Int),_⟩,⟨(x1:Int),_⟩,⟨(x5:List Int),_⟩,⟨(x13:Int),_⟩,⟨(x14:Int),_⟩,_⟩=> ?_
    show LeT m_gr04_set (gr04_set.l0 (k+1) x0 x1 x5 x13 x14) _
    rw [gr04_set.l0];exact go
   exact trivial)
  (fun k ⟨(a0:List Int),(a1:Int),_⟩=>by show LeT m_gr04_set (gr04_set.f k a0 a1) _;unfold gr04_set.f;exact go)
end
section
attribute [local irreducible] gr02_Cmp.f gr02_Sub.f gr02_Bits.f gr02_Size.f gr02_Shl.f gr02_Trim.f gr02_Shr.f gr02_Bit.f gr04_set.f
def s_gr04_Div:FSpec:=⟨[(.row 73 (.int .u64)),(.row 73 (.int .u64))],[(.row 73 (.int .u64)),(.row 73 (.int .u64))],fun k x=>(gr04_Div.f k x.1 x.2.1).map fun r=>(r.1,r.2,())⟩
def m_gr04_Div (r:List Int × List Int):TT s_gr04_Div.rs:=(r.1,r.2,())
@[reducible] def q0_gr04_Div:List Slot:= [.tmp 0 [.ty (.row 73 (.int .u64))], .tmp 1 [.ty (.row 73 (.int .u64))], .tmp 6 [.ty (.row 73 (.int .u64))], .tmp 18 [.ty .bool]]
def g0_gr04_Div (k:Nat) (x:TS q0_gr04_Div):Option (List Int × List Int):=gr04_Div.j0 k x.1.1 x.2.1.1 x.2.2.1.1 x.2.2.2.1.1
@[reducible] def q1_gr04_Div:List Slot:= [.tmp 0 [.ty (.row 73 (.int .u64))], .tmp 1 [.ty (.row 73 (.int .u64))], .tmp 6 [.ty (.row 73 (.int .u64))], .tmp 7 [.ty (.row 73 (.int .u64))], .tmp 10 [.ty (.int .i64)]]
def g1_gr04_Div (k:Nat) (x:TS q1_gr04_Div):Option (List Int × List Int):=gr04_Div.l0 k x.1.1 x.2.1.1 x.2.2.1.1 x.2.2.2.1.1 x.2.2.2.2.1.1
@[reducible] def q2_gr04_Div:List Slot:= [.tmp 0 [.ty (.row 73 (.int .u64))], .tmp 1 [.ty (.row 73 (.int .u64))], .tmp 6 [.ty (.row 73 (.int .u64))], .tmp 7 [.ty (.row 73 (.int .u64))], .tmp 10 [.ty (.int .i64)]]
def g2_gr04_Div (k:Nat) (x:TS q2_gr04_Div):Option (List Int × List Int):=gr04_Div.j2 k x.1.1 x.2.1.1 x.2.2.1.1 x.2.2.2.1.1 x.2.2.2.2.1.1
def c_gr04_Div:Cuts (TT s_gr04_Div.rs):=⟨⟨75,75,[]⟩,lookC [(0,⟨q1_gr04_Div,fun k x=>(g1_gr04_Div k x).map m_gr04_Div⟩)],lookC [(13,⟨q2_gr04_Div,fun k x=>(g2_gr04_Div k x).map m_gr04_Div⟩)],lookC [(2,⟨q0_gr04_Div,fun k x=>(g0_gr04_Div k x).map m_gr04_Div⟩)]⟩
theorem o_gr04_Div:FOk Tryz.prog 156 s_gr04_Div :=
 fn_of (Bt:=blook [(3,[0,1,3,0,8,24,63,127,255,0,512,1536,0,4096,12288,32256,65024,131071,262143,524287])]) (l:= [(75, .pu s_gr02_Cmp),(76, .pu s_gr02_Sub),(124, .pu s_gr02_Bits),(126, .pu s_gr02_Size),(157, .pu s_gr02_Shl),(188, .pu s_gr02_Trim),(190, .pu s_gr02_Shr),(227, .pu s_gr02_Bit),(228, .pu s_gr04_set)]) (C:=c_gr04_Div) (by kernel_rfl) tab_ok ⟨o_gr02_Cmp,o_gr02_Sub,o_gr02_Bits,o_gr02_Size,o_gr02_Shl,o_gr02_Trim,o_gr02_Shr,o_gr02_Bit,o_gr04_set,trivial⟩ (fn:=Tryz.f156) (by kernel_rfl) rfl (by kernel_rfl) (by decide) (by kernel_rfl) (F:=fun k x=>gr04_Div.f k x.1 x.2.1) (m:=m_gr04_Div) (fun k x=>rfl)
  (by
   refine And.intro ?_ ?_
   ·refine ob_join1 (sl:=q0_gr04_Div) (F:=g0_gr04_Div) (fun x=>rfl) fun k ⟨⟨(x0:List Int),_⟩,⟨(x1:List Int),_⟩,⟨(x6:List Int),_⟩,⟨(x18:Bool),_⟩,_⟩=> ?_
    show LeT m_gr04_Div (gr04_Div.j0 (k+1) x0 x1 x6 x18) _
    rw [gr04_Div.j0];exact go
   refine And.intro ?_ ?_
   ·refine ob_loop (sl:=q1_gr04_Div) (F:=g1_gr04_Div) (fun x=>rfl) fun k ⟨⟨(x0:List Int),_⟩,⟨(x1:List Int),_⟩,⟨(x6:List Int),_⟩,⟨(x7:List Int),_⟩,⟨(x10:Int),_⟩,_⟩=> ?_
    show LeT m_gr04_Div (gr04_Div.l0 (k+1) x0 x1 x6 x7 x10) _
    rw [gr04_Div.l0];exact go
   refine And.intro ?_ ?_
   ·refine ob_join1 (sl:=q2_gr04_Div) (F:=g2_gr04_Div) (fun x=>rfl) fun k ⟨⟨(x0:List Int),_⟩,⟨(x1:List Int),_⟩,⟨(x6:List Int),_⟩,⟨(x7:List Int),_⟩,⟨(x10:Int),_⟩,_⟩=> ?_
    show LeT m_gr04_Div (gr04_Div.j2 (k+1) x0 x1 x6 x7 x10) _
    rw [gr04_Div.j2];exact go
   exact trivial)
  (fun k ⟨(a0:List Int),(a1:List Int),_⟩=>by show LeT m_gr04_Div (gr04_Div.f k a0 a1) _;unfold gr04_Div.f;exact go)
end
section
attribute [local irreducible] gr02_Halves.f gr02_Whole.f gr02_at.f
def s_gr02_Add:FSpec:=⟨[(.row 73 (.int .u64)),(.row 73 (.int .u64))],[(.row 73 (.int .u64))],fun k x=>(gr02_Add.f k x.1 x.2.1).map fun r=>(r,())⟩
def m_gr02_Add (r:List Int):TT s_gr02_Add.rs:=(r,())
@[reducible] def q0_gr02_Add:List Slot:= [.tmp 5 [.ty (.row 73 (.int .u64))], .tmp 6 [.ty (.row 73 (.int .u64))], .tmp 7 [.own .mine 7 73 (.int .u64)], .tmp 8 [.ty (.int .u64)], .tmp 19 [.ty (.int .i64)], .tmp 20 [.ty (.int .i64)]]
def g0_gr02_Add (k:Nat) (x:TS q0_gr02_Add):Option (List Int):=gr02_Add.l0 k x.1.1 x.2.1.1 x.2.2.1.1 x.2.2.2.1.1 x.2.2.2.2.1.1 x.2.2.2.2.2.1.1
def c_gr02_Add:Cuts (TT s_gr02_Add.rs):=⟨⟨42,42,[]⟩,lookC [(0,⟨q0_gr02_Add,fun k x=>(g0_gr02_Add k x).map m_gr02_Add⟩)],lookC [],lookC []⟩
theorem o_gr02_Add:FOk Tryz.prog 74 s_gr02_Add :=
 fn_of (Bt:=blook []) (l:= [(128, .pu s_gr02_Halves),(129, .pu s_gr02_Whole),(130, .pu s_gr02_at)]) (C:=c_gr02_Add) (by kernel_rfl) tab_ok ⟨o_gr02_Halves,o_gr02_Whole,o_gr02_at,trivial⟩ (fn:=Tryz.f74) (by kernel_rfl) rfl (by kernel_rfl) (by decide) (by kernel_rfl) (F:=fun k x=>gr02_Add.f k x.1 x.2.1) (m:=m_gr02_Add) (fun k x=>rfl)
  (by
   refine And.intro ?_ ?_
   ·refine ob_loop (sl:=q0_gr02_Add) (F:=g0_gr02_Add) (fun x=>rfl) fun k ⟨⟨(x5:List Int),_⟩,⟨(x6:List Int),_⟩,⟨(x7:List Int),_⟩,⟨(x8:Int),_⟩,⟨(x19:Int),_⟩,⟨(x20:Int),_⟩,_⟩=> ?_
    show LeT m_gr02_Add (gr02_Add.l0 (k+1) x5 x6 x7 x8 x19 x20) _
    rw [gr02_Add.l0];exact go
   exact trivial)
  (fun k ⟨(a0:List Int),(a1:List Int),_⟩=>by show LeT m_gr02_Add (gr02_Add.f k a0 a1) _;unfold gr02_Add.f;exact go)
end
section
attribute [local irreducible] gr09_Signed.f
def s_gr09_Make:FSpec:=⟨[.bool, .int .u64, .int .i64],[.int .u64, .bool],fun k x=>(gr09_Make.f k x.1 x.2.1 x.2.2.1).map fun r=>(r.1,r.2,())⟩
def m_gr09_Make (r:Int × Bool):TT s_gr09_Make.rs:=(r.1,r.2,())
@[reducible] def q0_gr09_Make:List Slot:= [.tmp 0 [.ty .bool], .tmp 1 [.ty (.int .u64)], .tmp 2 [.ty (.int .i64)], .tmp 17 [.ty .bool]]
def g0_gr09_Make (k:Nat) (x:TS q0_gr09_Make):Option (Int × Bool):=gr09_Make.j0 k x.1.1 x.2.1.1 x.2.2.1.1 x.2.2.2.1.1
@[reducible] def q1_gr09_Make:List Slot:= [.tmp 0 [.ty .bool], .tmp 1 [.ty (.int .u64)], .tmp 2 [.ty (.int .i64)]]
def g1_gr09_Make (k:Nat) (x:TS q1_gr09_Make):Option (Int × Bool):=gr09_Make.l0 k x.1.1 x.2.1.1 x.2.2.1.1
@[reducible] def q2_gr09_Make:List Slot:= [.tmp 0 [.ty .bool], .tmp 1 [.ty (.int .u64)], .tmp 2 [.ty (.int .i64)], .tmp 30 [.ty .bool]]
def g2_gr09_Make (k:Nat) (x:TS q2_gr09_Make):Option (Int × Bool):=gr09_Make.j2 k x.1.1 x.2.1.1 x.2.2.1.1 x.2.2.2.1.1
@[reducible] def q3_gr09_Make:List Slot:= [.tmp 0 [.ty .bool], .tmp 1 [.ty (.int .u64)], .tmp 2 [.ty (.int .i64)]]
def g3_gr09_Make (k:Nat) (x:TS q3_gr09_Make):Option (Int × Bool):=gr09_Make.j4 k x.1.1 x.2.1.1 x.2.2.1.1
@[reducible] def q4_gr09_Make:List Slot:= [.tmp 0 [.ty .bool], .tmp 1 [.ty (.int .u64)], .tmp 2 [.ty (.int .i64)]]
def g4_gr09_Make (k:Nat) (x:TS q4_gr09_Make):Option (Int × Bool):=gr09_Make.l1 k x.1.1 x.2.1.1 x.2.2.1.1
def c_gr09_Make:Cuts (TT s_gr09_Make.rs):=⟨⟨57,57,[]⟩,lookC [(0,⟨q1_gr09_Make,fun k x=>(g1_gr09_Make k x).map m_gr09_Make⟩),(1,⟨q4_gr09_Make,fun k x=>(g4_gr09_Make k x).map m_gr09_Make⟩)],lookC [(13,⟨q3_gr09_Make,fun k x=>(g3_gr09_Make k x).map m_gr09_Make⟩)],lookC [(3,⟨q0_gr09_Make,fun k x=>(g0_gr09_Make k x).map m_gr09_Make⟩),(8,⟨q2_gr09_Make,fun k x=>(g2_gr09_Make k x).map m_gr09_Make⟩)]⟩
theorem o_gr09_Make:FOk Tryz.prog 258 s_gr09_Make :=
 fn_of (Bt:=blook []) (l:= [(155, .pu s_gr09_Signed)]) (C:=c_gr09_Make) (by kernel_rfl) tab_ok ⟨o_gr09_Signed,trivial⟩ (fn:=Tryz.f258) (by kernel_rfl) rfl (by kernel_rfl) (by decide) (by kernel_rfl) (F:=fun k x=>gr09_Make.f k x.1 x.2.1 x.2.2.1) (m:=m_gr09_Make) (fun k x=>rfl)
  (by
   refine And.intro ?_ ?_
   ·refine ob_join1 (sl:=q0_gr09_Make) (F:=g0_gr09_Make) (fun x=>rfl) fun k ⟨⟨(x0:Bool),_⟩,⟨(x1:Int),_⟩,⟨(x2:Int),_⟩,⟨(x17:Bool),_⟩,_⟩=> ?_
    show LeT m_gr09_Make (gr09_Make.j0 (k+1) x0 x1 x2 x17) _
    rw [gr09_Make.j0];exact go
   refine And.intro ?_ ?_
   ·refine ob_loop (sl:=q1_gr09_Make) (F:=g1_gr09_Make) (fun x=>rfl) fun k ⟨⟨(x0:Bool),_⟩,⟨(x1:Int),_⟩,⟨(x2:Int),_⟩,_⟩=> ?_
    show LeT m_gr09_Make (gr09_Make.l0 (k+1) x0 x1 x2) _
    rw [gr09_Make.l0];exact go
   refine And.intro ?_ ?_
   ·refine ob_join1 (sl:=q2_gr09_Make) (F:=g2_gr09_Make) (fun x=>rfl) fun k ⟨⟨(x0:Bool),_⟩,⟨(x1:Int),_⟩,⟨(x2:Int),_⟩,⟨(x30:Bool),_⟩,_⟩=> ?_
    show LeT m_gr09_Make (gr09_Make.j2 (k+1) x0 x1 x2 x30) _
    rw [gr09_Make.j2];exact go
   refine And.intro ?_ ?_
   ·refine ob_loop (sl:=q4_gr09_Make) (F:=g4_gr09_Make) (fun x=>rfl) fun k ⟨⟨(x0:Bool),_⟩,⟨(x1:Int),_⟩,⟨(x2:Int),_⟩,_⟩=> ?_
    show LeT m_gr09_Make (gr09_Make.l1 (k+1) x0 x1 x2) _
    rw [gr09_Make.l1];exact go
   refine And.intro ?_ ?_
   ·refine ob_join1 (sl:=q3_gr09_Make) (F:=g3_gr09_Make) (fun x=>rfl) fun k ⟨⟨(x0:Bool),_⟩,⟨(x1:Int),_⟩,⟨(x2:Int),_⟩,_⟩=> ?_
    show LeT m_gr09_Make (gr09_Make.j4 (k+1) x0 x1 x2) _
    rw [gr09_Make.j4];exact go
   exact trivial)
  (fun k ⟨(a0:Bool),(a1:Int),(a2:Int),_⟩=>by show LeT m_gr09_Make (gr09_Make.f k a0 a1 a2) _;unfold gr09_Make.f;exact go)
end
section
attribute [local irreducible] gr02_Add.f gr02_Cmp.f gr02_Sub.f gr02_Bits.f gr09_Inf.f gr09_Signed.f gr02_Shl.f gr02_Trim.f gr02_Shr.f gr02_Bit.f gr09_Make.f
def s_gr10_Of:FSpec:=⟨[.bool,(.row 73 (.int .u64)), .int .i64],[.int .u64],fun k x=>(gr10_Of.f k x.1 x.2.1 x.2.2.1).map fun r=>(r,())⟩
def m_gr10_Of (r:Int):TT s_gr10_Of.rs:=(r,())
@[reducible] def q0_gr10_Of:List Slot:= [.tmp 0 [.ty .bool], .tmp 8 [.ty (.int .i64)], .tmp 9 [.ty (.row 73 (.int .u64))]]
def g0_gr10_Of (k:Nat) (x:TS q0_gr10_Of):Option (Int):=gr10_Of.j0 k x.1.1 x.2.1.1 x.2.2.1.1
@[reducible] def q1_gr10_Of:List Slot:= [.tmp 0 [.ty .bool], .tmp 8 [.ty (.int .i64)], .tmp 12 [.ty (.int .u64)]]
def g1_gr10_Of (k:Nat) (x:TS q1_gr10_Of):Option (Int):=gr10_Of.j1 k x.1.1 x.2.1.1 x.2.2.1.1
def c_gr10_Of:Cuts (TT s_gr10_Of.rs):=⟨⟨102,102,[]⟩,lookC [],lookC [(19,⟨q0_gr10_Of,fun k x=>(g0_gr10_Of k x).map m_gr10_Of⟩),(22,⟨q1_gr10_Of,fun k x=>(g1_gr10_Of k x).map m_gr10_Of⟩)],lookC []⟩
theorem o_gr10_Of:FOk Tryz.prog 229 s_gr10_Of :=
 fn_of (Bt:=blook []) (l:= [(74, .pu s_gr02_Add),(75, .pu s_gr02_Cmp),(76, .pu s_gr02_Sub),(124, .pu s_gr02_Bits),(154, .pu s_gr09_Inf),(155, .pu s_gr09_Signed),(157, .pu s_gr02_Shl),(188, .pu s_gr02_Trim),(190, .pu s_gr02_Shr),(227, .pu s_gr02_Bit),(258, .pu s_gr09_Make)]) (C:=c_gr10_Of) (by kernel_rfl) tab_ok ⟨o_gr02_Add,o_gr02_Cmp,o_gr02_Sub,o_gr02_Bits,o_gr09_Inf,o_gr09_Signed,o_gr02_Shl,o_gr02_Trim,o_gr02_Shr,o_gr02_Bit,o_gr09_Make,trivial⟩ (fn:=Tryz.f229) (by kernel_rfl) rfl (by kernel_rfl) (by decide) (by kernel_rfl) (F:=fun k x=>gr10_Of.f k x.1 x.2.1 x.2.2.1) (m:=m_gr10_Of) (fun k x=>rfl)
  (by
   refine And.intro ?_ ?_
   ·refine ob_join1 (sl:=q0_gr10_Of) (F:=g0_gr10_Of) (fun x=>rfl) fun k ⟨⟨(x0:Bool),_⟩,⟨(x8:Int),_⟩,⟨(x9:List Int),_⟩,_⟩=> ?_
    show LeT m_gr10_Of (gr10_Of.j0 (k+1) x0 x8 x9) _
    rw [gr10_Of.j0];exact go
   refine And.intro ?_ ?_
   ·refine ob_join1 (sl:=q1_gr10_Of) (F:=g1_gr10_Of) (fun x=>rfl) fun k ⟨⟨(x0:Bool),_⟩,⟨(x8:Int),_⟩,⟨(x12:Int),_⟩,_⟩=> ?_
    show LeT m_gr10_Of (gr10_Of.j1 (k+1) x0 x8 x12) _
    rw [gr10_Of.j1];exact go
   exact trivial)
  (fun k ⟨(a0:Bool),(a1:List Int),(a2:Int),_⟩=>by show LeT m_gr10_Of (gr10_Of.f k a0 a1 a2) _;unfold gr10_Of.f;exact go)
end
section
attribute [local irreducible] gr02_Add.f gr02_Shl.f
def s_gr10_Half:FSpec:=⟨[(.row 73 (.int .u64))],[(.row 73 (.int .u64))],fun k x=>(gr10_Half.f k x.1).map fun r=>(r,())⟩
def m_gr10_Half (r:List Int):TT s_gr10_Half.rs:=(r,())
theorem o_gr10_Half:FOk Tryz.prog 230 s_gr10_Half :=
 fn_of (Bt:=blook []) (l:= [(74, .pu s_gr02_Add),(157, .pu s_gr02_Shl)]) (C:=noCuts) (by kernel_rfl) tab_ok ⟨o_gr02_Add,o_gr02_Shl,trivial⟩ (fn:=Tryz.f230) (by kernel_rfl) rfl (by kernel_rfl) (by decide) (by kernel_rfl) (F:=fun k x=>gr10_Half.f k x.1) (m:=m_gr10_Half) (fun k x=>rfl)
  (by exact trivial)
  (fun k ⟨(a0:List Int),_⟩=>by show LeT m_gr10_Half (gr10_Half.f k a0) _;unfold gr10_Half.f;exact go)
end
section
attribute [local irreducible] gr10_Of.f gr10_Half.f
def s_gr10_More:FSpec:=⟨[.bool,(.row 73 (.int .u64)), .int .i64, .bool],[.int .u64],fun k x=>(gr10_More.f k x.1 x.2.1 x.2.2.1 x.2.2.2.1).map fun r=>(r,())⟩
def m_gr10_More (r:Int):TT s_gr10_More.rs:=(r,())
theorem o_gr10_More:FOk Tryz.prog 158 s_gr10_More :=
 fn_of (Bt:=blook []) (l:= [(229, .pu s_gr10_Of),(230, .pu s_gr10_Half)]) (C:=noCuts) (by kernel_rfl) tab_ok ⟨o_gr10_Of,o_gr10_Half,trivial⟩ (fn:=Tryz.f158) (by kernel_rfl) rfl (by kernel_rfl) (by decide) (by kernel_rfl) (F:=fun k x=>gr10_More.f k x.1 x.2.1 x.2.2.1 x.2.2.2.1) (m:=m_gr10_More) (fun k x=>rfl)
  (by exact trivial)
  (fun k ⟨(a0:Bool),(a1:List Int),(a2:Int),(a3:Bool),_⟩=>by show LeT m_gr10_More (gr10_More.f k a0 a1 a2 a3) _;unfold gr10_More.f;exact go)
end
section
attribute [local irreducible] gr07_Zero.f gr02_Bits.f gr09_Inf.f gr09_Signed.f gr04_Div.f gr02_Shl.f gr10_More.f
def s_gr10_FromRat:FSpec:=⟨[(.cons .bool (.cons (.row 73 (.int .u64)) (.row 73 (.int .u64))))],[.int .u64],fun k x=>(gr10_FromRat.f k x.1.1 x.1.2.1 x.1.2.2).map fun r=>(r,())⟩
def m_gr10_FromRat (r:Int):TT s_gr10_FromRat.rs:=(r,())
theorem o_gr10_FromRat:FOk Tryz.prog 90 s_gr10_FromRat :=
 fn_of (Bt:=blook [(3,[0,1,3,0,8,31,63,127]),(9,[0,1,0,7,0,16,63,127,255,255,511,2047])]) (l:= [(123, .pu s_gr07_Zero),(124, .pu s_gr02_Bits),(154, .pu s_gr09_Inf),(155, .pu s_gr09_Signed),(156, .pu s_gr04_Div),(157, .pu s_gr02_Shl),(158, .pu s_gr10_More)]) (C:=noCuts) (by kernel_rfl) tab_ok ⟨o_gr07_Zero,o_gr02_Bits,o_gr09_Inf,o_gr09_Signed,o_gr04_Div,o_gr02_Shl,o_gr10_More,trivial⟩ (fn:=Tryz.f90) (by kernel_rfl) rfl (by kernel_rfl) (by decide) (by kernel_rfl) (F:=fun k x=>gr10_FromRat.f k x.1.1 x.1.2.1 x.1.2.2) (m:=m_gr10_FromRat) (fun k x=>rfl)
  (by exact trivial)
  (fun k ⟨(a0:Bool × List Int × List Int),_⟩=>by show LeT m_gr10_FromRat (gr10_FromRat.f k a0.1 a0.2.1 a0.2.2) _;unfold gr10_FromRat.f;exact go)
end
section
attribute [local irreducible] gr09_Kind.f gr09_Nan.f
def s_gr09_Flip:FSpec:=⟨[.int .u64],[.int .u64],fun _ x=>(gr09_Flip.f x.1).map fun r=>(r,())⟩
def m_gr09_Flip (r:Int):TT s_gr09_Flip.rs:=(r,())
theorem o_gr09_Flip:FOk Tryz.prog 159 s_gr09_Flip :=
 fn_of (Bt:=blook []) (l:= [(152, .pu s_gr09_Kind),(153, .pu s_gr09_Nan)]) (C:=noCuts) (by kernel_rfl) tab_ok ⟨o_gr09_Kind,o_gr09_Nan,trivial⟩ (fn:=Tryz.f159) (by kernel_rfl) rfl (by kernel_rfl) (by decide) (by kernel_rfl) (F:=fun k x=>gr09_Flip.f x.1) (m:=m_gr09_Flip) (fun k x=>rfl)
  (by exact trivial)
  (fun k ⟨(a0:Int),_⟩=>by show LeT m_gr09_Flip (gr09_Flip.f a0) _;unfold gr09_Flip.f;exact go)
end
section
def s_gr09_Neg:FSpec:=⟨[.int .u64],[.bool],fun _ x=>(gr09_Neg.f x.1).map fun r=>(r,())⟩
def m_gr09_Neg (r:Bool):TT s_gr09_Neg.rs:=(r,())
theorem o_gr09_Neg:FOk Tryz.prog 232 s_gr09_Neg :=
 fn_of (Bt:=blook []) (l:= []) (C:=noCuts) (by kernel_rfl) tab_ok trivial (fn:=Tryz.f232) (by kernel_rfl) rfl (by kernel_rfl) (by decide) (by kernel_rfl) (F:=fun k x=>gr09_Neg.f x.1) (m:=m_gr09_Neg) (fun k x=>rfl)
  (by exact trivial)
  (fun k ⟨(a0:Int),_⟩=>by show LeT m_gr09_Neg (gr09_Neg.f a0) _;unfold gr09_Neg.f;exact go)
end
section
attribute [local irreducible] gr09_Field.f gr09_Rest.f
def s_gr09_Parts:FSpec:=⟨[.int .u64],[.int .u64, .int .i64],fun _ x=>(gr09_Parts.f x.1).map fun r=>(r.1,r.2,())⟩
def m_gr09_Parts (r:Int × Int):TT s_gr09_Parts.rs:=(r.1,r.2,())
theorem o_gr09_Parts:FOk Tryz.prog 233 s_gr09_Parts :=
 fn_of (Bt:=blook []) (l:= [(225, .pu s_gr09_Field),(226, .pu s_gr09_Rest)]) (C:=noCuts) (by kernel_rfl) tab_ok ⟨o_gr09_Field,o_gr09_Rest,trivial⟩ (fn:=Tryz.f233) (by kernel_rfl) rfl (by kernel_rfl) (by decide) (by kernel_rfl) (F:=fun k x=>gr09_Parts.f x.1) (m:=m_gr09_Parts) (fun k x=>rfl)
  (by exact trivial)
  (fun k ⟨(a0:Int),_⟩=>by show LeT m_gr09_Parts (gr09_Parts.f a0) _;unfold gr09_Parts.f;exact go)
end
section
attribute [local irreducible] gr02_Add.f gr02_Cmp.f gr02_Sub.f gr02_Shl.f gr10_Of.f gr09_Neg.f gr09_Parts.f
def s_gr11_numbers:FSpec:=⟨[.int .u64, .int .u64],[.int .u64],fun k x=>(gr11_numbers.f k x.1 x.2.1).map fun r=>(r,())⟩
def m_gr11_numbers (r:Int):TT s_gr11_numbers.rs:=(r,())
theorem o_gr11_numbers:FOk Tryz.prog 231 s_gr11_numbers :=
 fn_of (Bt:=blook []) (l:= [(74, .pu s_gr02_Add),(75, .pu s_gr02_Cmp),(76, .pu s_gr02_Sub),(157, .pu s_gr02_Shl),(229, .pu s_gr10_Of),(232, .pu s_gr09_Neg),(233, .pu s_gr09_Parts)]) (C:=noCuts) (by kernel_rfl) tab_ok ⟨o_gr02_Add,o_gr02_Cmp,o_gr02_Sub,o_gr02_Shl,o_gr10_Of,o_gr09_Neg,o_gr09_Parts,trivial⟩ (fn:=Tryz.f231) (by kernel_rfl) rfl (by kernel_rfl) (by decide) (by kernel_rfl) (F:=fun k x=>gr11_numbers.f k x.1 x.2.1) (m:=m_gr11_numbers) (fun k x=>rfl)
  (by exact trivial)
  (fun k ⟨(a0:Int),(a1:Int),_⟩=>by show LeT m_gr11_numbers (gr11_numbers.f k a0 a1) _;unfold gr11_numbers.f;exact go)
end
section
attribute [local irreducible] gr09_Kind.f gr09_Nan.f gr11_numbers.f
def s_gr11_Add:FSpec:=⟨[.int .u64, .int .u64],[.int .u64],fun k x=>(gr11_Add.f k x.1 x.2.1).map fun r=>(r,())⟩
def m_gr11_Add (r:Int):TT s_gr11_Add.rs:=(r,())
@[reducible] def q0_gr11_Add:List Slot:= [.tmp 0 [.ty (.int .u64)], .tmp 1 [.ty (.int .u64)], .tmp 5 [.ty (.int .i64)], .tmp 6 [.ty (.int .i64)], .tmp 29 [.ty .bool]]
def g0_gr11_Add (k:Nat) (x:TS q0_gr11_Add):Option (Int):=gr11_Add.j0 k x.1.1 x.2.1.1 x.2.2.1.1 x.2.2.2.1.1 x.2.2.2.2.1.1
def c_gr11_Add:Cuts (TT s_gr11_Add.rs):=⟨⟨40,40,[]⟩,lookC [],lookC [],lookC [(2,⟨q0_gr11_Add,fun k x=>(g0_gr11_Add k x).map m_gr11_Add⟩)]⟩
theorem o_gr11_Add:FOk Tryz.prog 160 s_gr11_Add :=
 fn_of (Bt:=blook []) (l:= [(152, .pu s_gr09_Kind),(153, .pu s_gr09_Nan),(231, .pu s_gr11_numbers)]) (C:=c_gr11_Add) (by kernel_rfl) tab_ok ⟨o_gr09_Kind,o_gr09_Nan,o_gr11_numbers,trivial⟩ (fn:=Tryz.f160) (by kernel_rfl) rfl (by kernel_rfl) (by decide) (by kernel_rfl) (F:=fun k x=>gr11_Add.f k x.1 x.2.1) (m:=m_gr11_Add) (fun k x=>rfl)
  (by
   refine And.intro ?_ ?_
   ·refine ob_join1 (sl:=q0_gr11_Add) (F:=g0_gr11_Add) (fun x=>rfl) fun k ⟨⟨(x0:Int),_⟩,⟨(x1:Int),_⟩,⟨(x5:Int),_⟩,⟨(x6:Int),_⟩,⟨(x29:Bool),_⟩,_⟩=> ?_
    show LeT m_gr11_Add (gr11_Add.j0 (k+1) x0 x1 x5 x6 x29) _
    rw [gr11_Add.j0];exact go
   exact trivial)
  (fun k ⟨(a0:Int),(a1:Int),_⟩=>by show LeT m_gr11_Add (gr11_Add.f k a0 a1) _;unfold gr11_Add.f;exact go)
end
section
attribute [local irreducible] gr09_Flip.f gr11_Add.f
def s_gr11_Sub:FSpec:=⟨[.int .u64, .int .u64],[.int .u64],fun k x=>(gr11_Sub.f k x.1 x.2.1).map fun r=>(r,())⟩
def m_gr11_Sub (r:Int):TT s_gr11_Sub.rs:=(r,())
theorem o_gr11_Sub:FOk Tryz.prog 161 s_gr11_Sub :=
 fn_of (Bt:=blook []) (l:= [(159, .pu s_gr09_Flip),(160, .pu s_gr11_Add)]) (C:=noCuts) (by kernel_rfl) tab_ok ⟨o_gr09_Flip,o_gr11_Add,trivial⟩ (fn:=Tryz.f161) (by kernel_rfl) rfl (by kernel_rfl) (by decide) (by kernel_rfl) (F:=fun k x=>gr11_Sub.f k x.1 x.2.1) (m:=m_gr11_Sub) (fun k x=>rfl)
  (by exact trivial)
  (fun k ⟨(a0:Int),(a1:Int),_⟩=>by show LeT m_gr11_Sub (gr11_Sub.f k a0 a1) _;unfold gr11_Sub.f;exact go)
end
section
attribute [local irreducible] gr02_Halves.f gr02_Whole.f
def s_gr03_Mul:FSpec:=⟨[(.row 73 (.int .u64)),(.row 73 (.int .u64))],[(.row 73 (.int .u64))],fun k x=>(gr03_Mul.f k x.1 x.2.1).map fun r=>(r,())⟩
def m_gr03_Mul (r:List Int):TT s_gr03_Mul.rs:=(r,())
@[reducible] def q0_gr03_Mul:List Slot:= [.tmp 5 [.ty (.row 73 (.int .u64))], .tmp 6 [.ty (.row 73 (.int .u64))], .tmp 7 [.own .mine 7 73 (.int .u64)], .tmp 23 [.ty (.int .i64)], .tmp 24 [.ty (.int .i64)]]
def g0_gr03_Mul (k:Nat) (x:TS q0_gr03_Mul):Option (List Int):=gr03_Mul.l0 k x.1.1 x.2.1.1 x.2.2.1.1 x.2.2.2.1.1 x.2.2.2.2.1.1
@[reducible] def q1_gr03_Mul:List Slot:= [.tmp 5 [.ty (.row 73 (.int .u64))], .tmp 6 [.ty (.row 73 (.int .u64))], .tmp 7 [.own .mine 7 73 (.int .u64)], .tmp 8 [.ty (.int .i64)], .tmp 9 [.ty (.int .u64)], .tmp 23 [.ty (.int .i64)], .tmp 24 [.ty (.int .i64)], .tmp 28 [.ty (.int .i64)], .tmp 29 [.ty (.int .i64)]]
def g1_gr03_Mul (k:Nat) (x:TS q1_gr03_Mul):Option (List Int):=gr03_Mul.l1 k x.1.1 x.2.1.1 x.2.2.1.1 x.2.2.2.1.1 x.2.2.2.2.1.1 x.2.2.2.2.2.1.1 x.2.2.2.2.2.2.1.1 x.2.2.2.2.2.2.2.1.1 x.2.2.2.2.2.2.2.2.1.1
def c_gr03_Mul:Cuts (TT s_gr03_Mul.rs):=⟨⟨70,70,[]⟩,lookC [(0,⟨q0_gr03_Mul,fun k x=>(g0_gr03_Mul k x).map m_gr03_Mul⟩),(1,⟨q1_gr03_Mul,fun k x=>(g1_gr03_Mul k x).map m_gr03_Mul⟩)],lookC [],lookC []⟩
theorem o_gr03_Mul:FOk Tryz.prog 73 s_gr03_Mul :=
 fn_of (Bt:=blook [(10,[0,0,0,6,14,0,0,96,224,510,1023,0,0,0,12288,30720,63488,131071,262143])]) (l:= [(128, .pu s_gr02_Halves),(129, .pu s_gr02_Whole)]) (C:=c_gr03_Mul) (by kernel_rfl) tab_ok ⟨o_gr02_Halves,o_gr02_Whole,trivial⟩ (fn:=Tryz.f73) (by kernel_rfl) rfl (by kernel_rfl) (by decide) (by kernel_rfl) (F:=fun k x=>gr03_Mul.f k x.1 x.2.1) (m:=m_gr03_Mul) (fun k x=>rfl)
  (by
   refine And.intro ?_ ?_
   ·refine ob_loop (sl:=q0_gr03_Mul) (F:=g0_gr03_Mul) (fun x=>rfl) fun k ⟨⟨(x5:List Int),_⟩,⟨(x6:List Int),_⟩,⟨(x7:List Int),_⟩,⟨(x23:Int),_⟩,⟨(x24:Int),_⟩,_⟩=> ?_
    show LeT m_gr03_Mul (gr03_Mul.l0 (k+1) x5 x6 x7 x23 x24) _
    rw [gr03_Mul.l0];exact go
   refine And.intro ?_ ?_
   ·refine ob_loop (sl:=q1_gr03_Mul) (F:=g1_gr03_Mul) (fun x=>rfl) fun k ⟨⟨(x5:List Int),_⟩,⟨(x6:List Int),_⟩,⟨(x7:List Int),_⟩,⟨(x8:Int),_⟩,⟨(x9:Int),_⟩,⟨(x23:Int),_⟩,⟨(x24:Int),_⟩,⟨(x28:Int),_⟩,⟨(x29:Int),_⟩,_⟩=> ?_
    show LeT m_gr03_Mul (gr03_Mul.l1 (k+1) x5 x6 x7 x8 x9 x23 x24 x28 x29) _
    rw [gr03_Mul.l1];exact go
   exact trivial)
  (fun k ⟨(a0:List Int),(a1:List Int),_⟩=>by show LeT m_gr03_Mul (gr03_Mul.f k a0 a1) _;unfold gr03_Mul.f;exact go)
end
section
attribute [local irreducible] gr03_Mul.f gr09_Kind.f gr09_Nan.f gr09_Inf.f gr10_Of.f gr09_Neg.f gr09_Parts.f
def s_gr12_Mul:FSpec:=⟨[.int .u64, .int .u64],[.int .u64],fun k x=>(gr12_Mul.f k x.1 x.2.1).map fun r=>(r,())⟩
def m_gr12_Mul (r:Int):TT s_gr12_Mul.rs:=(r,())
@[reducible] def q0_gr12_Mul:List Slot:= [.tmp 0 [.ty (.int .u64)], .tmp 1 [.ty (.int .u64)], .tmp 5 [.ty (.int .i64)], .tmp 6 [.ty (.int .i64)], .tmp 7 [.ty .bool], .tmp 42 [.ty .bool]]
def g0_gr12_Mul (k:Nat) (x:TS q0_gr12_Mul):Option (Int):=gr12_Mul.j0 k x.1.1 x.2.1.1 x.2.2.1.1 x.2.2.2.1.1 x.2.2.2.2.1.1 x.2.2.2.2.2.1.1
@[reducible] def q1_gr12_Mul:List Slot:= [.tmp 0 [.ty (.int .u64)], .tmp 1 [.ty (.int .u64)], .tmp 7 [.ty .bool], .tmp 49 [.ty .bool]]
def g1_gr12_Mul (k:Nat) (x:TS q1_gr12_Mul):Option (Int):=gr12_Mul.j1 k x.1.1 x.2.1.1 x.2.2.1.1 x.2.2.2.1.1
def c_gr12_Mul:Cuts (TT s_gr12_Mul.rs):=⟨⟨72,72,[]⟩,lookC [],lookC [],lookC [(3,⟨q0_gr12_Mul,fun k x=>(g0_gr12_Mul k x).map m_gr12_Mul⟩),(5,⟨q1_gr12_Mul,fun k x=>(g1_gr12_Mul k x).map m_gr12_Mul⟩)]⟩
theorem o_gr12_Mul:FOk Tryz.prog 162 s_gr12_Mul :=
 fn_of (Bt:=blook []) (l:= [(73, .pu s_gr03_Mul),(152, .pu s_gr09_Kind),(153, .pu s_gr09_Nan),(154, .pu s_gr09_Inf),(229, .pu s_gr10_Of),(232, .pu s_gr09_Neg),(233, .pu s_gr09_Parts)]) (C:=c_gr12_Mul) (by kernel_rfl) tab_ok ⟨o_gr03_Mul,o_gr09_Kind,o_gr09_Nan,o_gr09_Inf,o_gr10_Of,o_gr09_Neg,o_gr09_Parts,trivial⟩ (fn:=Tryz.f162) (by kernel_rfl) rfl (by kernel_rfl) (by decide) (by kernel_rfl) (F:=fun k x=>gr12_Mul.f k x.1 x.2.1) (m:=m_gr12_Mul) (fun k x=>rfl)
  (by
   refine And.intro ?_ ?_
   ·refine ob_join1 (sl:=q0_gr12_Mul) (F:=g0_gr12_Mul) (fun x=>rfl) fun k ⟨⟨(x0:Int),_⟩,⟨(x1:Int),_⟩,⟨(x5:Int),_⟩,⟨(x6:Int),_⟩,⟨(x7:Bool),_⟩,⟨(x42:Bool),_⟩,_⟩=> ?_
    show LeT m_gr12_Mul (gr12_Mul.j0 (k+1) x0 x1 x5 x6 x7 x42) _
    rw [gr12_Mul.j0];exact go
   refine And.intro ?_ ?_
   ·refine ob_join1 (sl:=q1_gr12_Mul) (F:=g1_gr12_Mul) (fun x=>rfl) fun k ⟨⟨(x0:Int),_⟩,⟨(x1:Int),_⟩,⟨(x7:Bool),_⟩,⟨(x49:Bool),_⟩,_⟩=> ?_
    show LeT m_gr12_Mul (gr12_Mul.j1 (k+1) x0 x1 x7 x49) _
    rw [gr12_Mul.j1];exact go
   exact trivial)
  (fun k ⟨(a0:Int),(a1:Int),_⟩=>by show LeT m_gr12_Mul (gr12_Mul.f k a0 a1) _;unfold gr12_Mul.f;exact go)
end
section
def s_gr01_Div:FSpec:=⟨[.int .u64, .int .u64, .int .u64],[.int .u64, .int .u64, .bool],fun k x=>(gr01_Div.f k x.1 x.2.1 x.2.2.1).map fun r=>(r.1,r.2.1,r.2.2,())⟩
def m_gr01_Div (r:Int × Int × Bool):TT s_gr01_Div.rs:=(r.1,r.2.1,r.2.2,())
@[reducible] def q0_gr01_Div:List Slot:= [.tmp 1 [.ty (.int .u64)], .tmp 2 [.ty (.int .u64)], .tmp 9 [.ty (.int .u64)], .tmp 10 [.ty (.int .u64)], .tmp 11 [.ty (.int .i64)]]
def g0_gr01_Div (k:Nat) (x:TS q0_gr01_Div):Option (Int × Int × Bool):=gr01_Div.l0 k x.1.1 x.2.1.1 x.2.2.1.1 x.2.2.2.1.1 x.2.2.2.2.1.1
def c_gr01_Div:Cuts (TT s_gr01_Div.rs):=⟨⟨47,47,[]⟩,lookC [(0,⟨q0_gr01_Div,fun k x=>(g0_gr01_Div k x).map m_gr01_Div⟩)],lookC [],lookC []⟩
theorem o_gr01_Div:FOk Tryz.prog 234 s_gr01_Div :=
 fn_of (Bt:=blook []) (l:= []) (C:=c_gr01_Div) (by kernel_rfl) tab_ok trivial (fn:=Tryz.f234) (by kernel_rfl) rfl (by kernel_rfl) (by decide) (by kernel_rfl) (F:=fun k x=>gr01_Div.f k x.1 x.2.1 x.2.2.1) (m:=m_gr01_Div) (fun k x=>rfl)
  (by
   refine And.intro ?_ ?_
   ·refine ob_loop (sl:=q0_gr01_Div) (F:=g0_gr01_Div) (fun x=>rfl) fun k ⟨⟨(x1:Int),_⟩,⟨(x2:Int),_⟩,⟨(x9:Int),_⟩,⟨(x10:Int),_⟩,⟨(x11:Int),_⟩,_⟩=> ?_
    show LeT m_gr01_Div (gr01_Div.l0 (k+1) x1 x2 x9 x10 x11) _
    rw [gr01_Div.l0];exact go
   exact trivial)
  (fun k ⟨(a0:Int),(a1:Int),(a2:Int),_⟩=>by show LeT m_gr01_Div (gr01_Div.f k a0 a1 a2) _;unfold gr01_Div.f;exact go)
end
section
attribute [local irreducible] gr09_Kind.f gr09_Nan.f gr09_Inf.f gr09_Signed.f gr10_More.f gr09_Neg.f gr09_Parts.f gr01_Div.f
def s_gr12_Div:FSpec:=⟨[.int .u64, .int .u64],[.int .u64],fun k x=>(gr12_Div.f k x.1 x.2.1).map fun r=>(r,())⟩
def m_gr12_Div (r:Int):TT s_gr12_Div.rs:=(r,())
@[reducible] def q0_gr12_Div:List Slot:= [.tmp 0 [.ty (.int .u64)], .tmp 1 [.ty (.int .u64)], .tmp 5 [.ty (.int .i64)], .tmp 6 [.ty (.int .i64)], .tmp 7 [.ty .bool], .tmp 45 [.ty .bool]]
def g0_gr12_Div (k:Nat) (x:TS q0_gr12_Div):Option (Int):=gr12_Div.j0 k x.1.1 x.2.1.1 x.2.2.1.1 x.2.2.2.1.1 x.2.2.2.2.1.1 x.2.2.2.2.2.1.1
@[reducible] def q1_gr12_Div:List Slot:= [.tmp 0 [.ty (.int .u64)], .tmp 1 [.ty (.int .u64)], .tmp 5 [.ty (.int .i64)], .tmp 6 [.ty (.int .i64)], .tmp 7 [.ty .bool], .tmp 52 [.ty .bool]]
def g1_gr12_Div (k:Nat) (x:TS q1_gr12_Div):Option (Int):=gr12_Div.j1 k x.1.1 x.2.1.1 x.2.2.1.1 x.2.2.2.1.1 x.2.2.2.2.1.1 x.2.2.2.2.2.1.1
@[reducible] def q2_gr12_Div:List Slot:= [.tmp 0 [.ty (.int .u64)], .tmp 1 [.ty (.int .u64)], .tmp 7 [.ty .bool], .tmp 60 [.ty .bool]]
def g2_gr12_Div (k:Nat) (x:TS q2_gr12_Div):Option (Int):=gr12_Div.j2 k x.1.1 x.2.1.1 x.2.2.1.1 x.2.2.2.1.1
@[reducible] def q3_gr12_Div:List Slot:= [.tmp 7 [.ty .bool], .tmp 8 [.ty (.int .u64)], .tmp 9 [.ty (.int .i64)], .tmp 10 [.ty (.int .u64)], .tmp 11 [.ty (.int .i64)]]
def g3_gr12_Div (k:Nat) (x:TS q3_gr12_Div):Option (Int):=gr12_Div.l0 k x.1.1 x.2.1.1 x.2.2.1.1 x.2.2.2.1.1 x.2.2.2.2.1.1
@[reducible] def q4_gr12_Div:List Slot:= [.tmp 7 [.ty .bool], .tmp 8 [.ty (.int .u64)], .tmp 9 [.ty (.int .i64)], .tmp 10 [.ty (.int .u64)], .tmp 11 [.ty (.int .i64)]]
def g4_gr12_Div (k:Nat) (x:TS q4_gr12_Div):Option (Int):=gr12_Div.l1 k x.1.1 x.2.1.1 x.2.2.1.1 x.2.2.2.1.1 x.2.2.2.2.1.1
def c_gr12_Div:Cuts (TT s_gr12_Div.rs):=⟨⟨104,104,[]⟩,lookC [(0,⟨q3_gr12_Div,fun k x=>(g3_gr12_Div k x).map m_gr12_Div⟩),(1,⟨q4_gr12_Div,fun k x=>(g4_gr12_Div k x).map m_gr12_Div⟩)],lookC [],lookC [(3,⟨q0_gr12_Div,fun k x=>(g0_gr12_Div k x).map m_gr12_Div⟩),(5,⟨q1_gr12_Div,fun k x=>(g1_gr12_Div k x).map m_gr12_Div⟩),(7,⟨q2_gr12_Div,fun k x=>(g2_gr12_Div k x).map m_gr12_Div⟩)]⟩
theorem o_gr12_Div:FOk Tryz.prog 163 s_gr12_Div :=
 fn_of (Bt:=blook []) (l:= [(152, .pu s_gr09_Kind),(153, .pu s_gr09_Nan),(154, .pu s_gr09_Inf),(155, .pu s_gr09_Signed),(158, .pu s_gr10_More),(232, .pu s_gr09_Neg),(233, .pu s_gr09_Parts),(234, .pu s_gr01_Div)]) (C:=c_gr12_Div) (by kernel_rfl) tab_ok ⟨o_gr09_Kind,o_gr09_Nan,o_gr09_Inf,o_gr09_Signed,o_gr10_More,o_gr09_Neg,o_gr09_Parts,o_gr01_Div,trivial⟩ (fn:=Tryz.f163) (by kernel_rfl) rfl (by kernel_rfl) (by decide) (by kernel_rfl) (F:=fun k x=>gr12_Div.f k x.1 x.2.1) (m:=m_gr12_Div) (fun k x=>rfl)
  (by
   refine And.intro ?_ ?_
   ·refine ob_join1 (sl:=q0_gr12_Div) (F:=g0_gr12_Div) (fun x=>rfl) fun k ⟨⟨(x0:Int),_⟩,⟨(x1:Int),_⟩,⟨(x5:Int),_⟩,⟨(x6:Int),_⟩,⟨(x7:Bool),_⟩,⟨(x45:Bool),_⟩,_⟩=> ?_
    show LeT m_gr12_Div (gr12_Div.j0 (k+1) x0 x1 x5 x6 x7 x45) _
    rw [gr12_Div.j0];exact go
   refine And.intro ?_ ?_
   ·refine ob_join1 (sl:=q1_gr12_Div) (F:=g1_gr12_Div) (fun x=>rfl) fun k ⟨⟨(x0:Int),_⟩,⟨(x1:Int),_⟩,⟨(x5:Int),_⟩,⟨(x6:Int),_⟩,⟨(x7:Bool),_⟩,⟨(x52:Bool),_⟩,_⟩=> ?_
    show LeT m_gr12_Div (gr12_Div.j1 (k+1) x0 x1 x5 x6 x7 x52) _
    rw [gr12_Div.j1];exact go
   refine And.intro ?_ ?_
   ·refine ob_join1 (sl:=q2_gr12_Div) (F:=g2_gr12_Div) (fun x=>rfl) fun k ⟨⟨(x0:Int),_⟩,⟨(x1:Int),_⟩,⟨(x7:Bool),_⟩,⟨(x60:Bool),_⟩,_⟩=> ?_
    show LeT m_gr12_Div (gr12_Div.j2 (k+1) x0 x1 x7 x60) _
    rw [gr12_Div.j2];exact go
   refine And.intro ?_ ?_
   ·refine ob_loop (sl:=q3_gr12_Div) (F:=g3_gr12_Div) (fun x=>rfl) fun k ⟨⟨(x7:Bool),_⟩,⟨(x8:Int),_⟩,⟨(x9:Int),_⟩,⟨(x10:Int),_⟩,⟨(x11:Int),_⟩,_⟩=> ?_
    show LeT m_gr12_Div (gr12_Div.l0 (k+1) x7 x8 x9 x10 x11) _
    rw [gr12_Div.l0];exact go
   refine And.intro ?_ ?_
   ·refine ob_loop (sl:=q4_gr12_Div) (F:=g4_gr12_Div) (fun x=>rfl) fun k ⟨⟨(x7:Bool),_⟩,⟨(x8:Int),_⟩,⟨(x9:Int),_⟩,⟨(x10:Int),_⟩,⟨(x11:Int),_⟩,_⟩=> ?_
    show LeT m_gr12_Div (gr12_Div.l1 (k+1) x7 x8 x9 x10 x11) _
    rw [gr12_Div.l1];exact go
   exact trivial)
  (fun k ⟨(a0:Int),(a1:Int),_⟩=>by show LeT m_gr12_Div (gr12_Div.f k a0 a1) _;unfold gr12_Div.f;exact go)
end
section
attribute [local irreducible] gr03_Mul.f gr02_Cmp.f gr02_Bits.f gr02_Trim.f gr04_set.f
def s_gr04_Root:FSpec:=⟨[(.row 73 (.int .u64))],[(.row 73 (.int .u64))],fun k x=>(gr04_Root.f k x.1).map fun r=>(r,())⟩
def m_gr04_Root (r:List Int):TT s_gr04_Root.rs:=(r,())
@[reducible] def q0_gr04_Root:List Slot:= [.tmp 0 [.ty (.row 73 (.int .u64))], .tmp 3 [.ty (.row 73 (.int .u64))], .tmp 4 [.ty (.int .i64)]]
def g0_gr04_Root (k:Nat) (x:TS q0_gr04_Root):Option (List Int):=gr04_Root.l0 k x.1.1 x.2.1.1 x.2.2.1.1
def c_gr04_Root:Cuts (TT s_gr04_Root.rs):=⟨⟨26,26,[]⟩,lookC [(0,⟨q0_gr04_Root,fun k x=>(g0_gr04_Root k x).map m_gr04_Root⟩)],lookC [],lookC []⟩
theorem o_gr04_Root:FOk Tryz.prog 235 s_gr04_Root :=
 fn_of (Bt:=blook []) (l:= [(73, .pu s_gr03_Mul),(75, .pu s_gr02_Cmp),(124, .pu s_gr02_Bits),(188, .pu s_gr02_Trim),(228, .pu s_gr04_set)]) (C:=c_gr04_Root) (by kernel_rfl) tab_ok ⟨o_gr03_Mul,o_gr02_Cmp,o_gr02_Bits,o_gr02_Trim,o_gr04_set,trivial⟩ (fn:=Tryz.f235) (by kernel_rfl) rfl (by kernel_rfl) (by decide) (by kernel_rfl) (F:=fun k x=>gr04_Root.f k x.1) (m:=m_gr04_Root) (fun k x=>rfl)
  (by
   refine And.intro ?_ ?_
   ·refine ob_loop (sl:=q0_gr04_Root) (F:=g0_gr04_Root) (fun x=>rfl) fun k ⟨⟨(x0:List Int),_⟩,⟨(x3:List Int),_⟩,⟨(x4:Int),_⟩,_⟩=> ?_
    show LeT m_gr04_Root (gr04_Root.l0 (k+1) x0 x3 x4) _
    rw [gr04_Root.l0];exact go
   exact trivial)
  (fun k ⟨(a0:List Int),_⟩=>by show LeT m_gr04_Root (gr04_Root.f k a0) _;unfold gr04_Root.f;exact go)
end
section
attribute [local irreducible] gr03_Mul.f gr02_Cmp.f gr09_Kind.f gr09_Nan.f gr02_Shl.f gr10_More.f gr09_Neg.f gr09_Parts.f gr04_Root.f
def s_gr12_Sqrt:FSpec:=⟨[.int .u64],[.int .u64],fun k x=>(gr12_Sqrt.f k x.1).map fun r=>(r,())⟩
def m_gr12_Sqrt (r:Int):TT s_gr12_Sqrt.rs:=(r,())
@[reducible] def q0_gr12_Sqrt:List Slot:= [.tmp 0 [.ty (.int .u64)], .tmp 3 [.ty (.int .i64)], .tmp 19 [.ty .bool]]
def g0_gr12_Sqrt (k:Nat) (x:TS q0_gr12_Sqrt):Option (Int):=gr12_Sqrt.j0 k x.1.1 x.2.1.1 x.2.2.1.1
@[reducible] def q1_gr12_Sqrt:List Slot:= [.tmp 4 [.ty (.int .u64)], .tmp 5 [.ty (.int .i64)], .tmp 6 [.ty (.int .i64)]]
def g1_gr12_Sqrt (k:Nat) (x:TS q1_gr12_Sqrt):Option (Int):=gr12_Sqrt.j1 k x.1.1 x.2.1.1 x.2.2.1.1
def c_gr12_Sqrt:Cuts (TT s_gr12_Sqrt.rs):=⟨⟨54,54,[]⟩,lookC [],lookC [(12,⟨q1_gr12_Sqrt,fun k x=>(g1_gr12_Sqrt k x).map m_gr12_Sqrt⟩)],lookC [(4,⟨q0_gr12_Sqrt,fun k x=>(g0_gr12_Sqrt k x).map m_gr12_Sqrt⟩)]⟩
theorem o_gr12_Sqrt:FOk Tryz.prog 164 s_gr12_Sqrt :=
 fn_of (Bt:=blook []) (l:= [(73, .pu s_gr03_Mul),(75, .pu s_gr02_Cmp),(152, .pu s_gr09_Kind),(153, .pu s_gr09_Nan),(157, .pu s_gr02_Shl),(158, .pu s_gr10_More),(232, .pu s_gr09_Neg),(233, .pu s_gr09_Parts),(235, .pu s_gr04_Root)]) (C:=c_gr12_Sqrt) (by kernel_rfl) tab_ok ⟨o_gr03_Mul,o_gr02_Cmp,o_gr09_Kind,o_gr09_Nan,o_gr02_Shl,o_gr10_More,o_gr09_Neg,o_gr09_Parts,o_gr04_Root,trivial⟩ (fn:=Tryz.f164) (by kernel_rfl) rfl (by kernel_rfl) (by decide) (by kernel_rfl) (F:=fun k x=>gr12_Sqrt.f k x.1) (m:=m_gr12_Sqrt) (fun k x=>rfl)
  (by
   refine And.intro ?_ ?_
   ·refine ob_join1 (sl:=q0_gr12_Sqrt) (F:=g0_gr12_Sqrt) (fun x=>rfl) fun k ⟨⟨(x0:Int),_⟩,⟨(x3:Int),_⟩,⟨(x19:Bool),_⟩,_⟩=> ?_
    show LeT m_gr12_Sqrt (gr12_Sqrt.j0 (k+1) x0 x3 x19) _
    rw [gr12_Sqrt.j0];exact go
   refine And.intro ?_ ?_
   ·refine ob_join1 (sl:=q1_gr12_Sqrt) (F:=g1_gr12_Sqrt) (fun x=>rfl) fun k ⟨⟨(x4:Int),_⟩,⟨(x5:Int),_⟩,⟨(x6:Int),_⟩,_⟩=> ?_
    show LeT m_gr12_Sqrt (gr12_Sqrt.j1 (k+1) x4 x5 x6) _
    rw [gr12_Sqrt.j1];exact go
   exact trivial)
  (fun k ⟨(a0:Int),_⟩=>by show LeT m_gr12_Sqrt (gr12_Sqrt.f k a0) _;unfold gr12_Sqrt.f;exact go)
end
section
attribute [local irreducible] gr09_Kind.f gr09_Neg.f
def s_gr13_Less:FSpec:=⟨[.int .u64, .int .u64],[.bool],fun k x=>(gr13_Less.f k x.1 x.2.1).map fun r=>(r,())⟩
def m_gr13_Less (r:Bool):TT s_gr13_Less.rs:=(r,())
@[reducible] def q0_gr13_Less:List Slot:= [.tmp 0 [.ty (.int .u64)], .tmp 1 [.ty (.int .u64)], .tmp 14 [.ty .bool]]
def g0_gr13_Less (k:Nat) (x:TS q0_gr13_Less):Option (Bool):=gr13_Less.j0 k x.1.1 x.2.1.1 x.2.2.1.1
@[reducible] def q1_gr13_Less:List Slot:= [.tmp 0 [.ty (.int .u64)], .tmp 1 [.ty (.int .u64)], .tmp 5 [.ty .bool], .tmp 6 [.ty .bool], .tmp 22 [.ty .bool]]
def g1_gr13_Less (k:Nat) (x:TS q1_gr13_Less):Option (Bool):=gr13_Less.j1 k x.1.1 x.2.1.1 x.2.2.1.1 x.2.2.2.1.1 x.2.2.2.2.1.1
def c_gr13_Less:Cuts (TT s_gr13_Less.rs):=⟨⟨40,40,[]⟩,lookC [],lookC [],lookC [(1,⟨q0_gr13_Less,fun k x=>(g0_gr13_Less k x).map m_gr13_Less⟩),(4,⟨q1_gr13_Less,fun k x=>(g1_gr13_Less k x).map m_gr13_Less⟩)]⟩
theorem o_gr13_Less:FOk Tryz.prog 185 s_gr13_Less :=
 fn_of (Bt:=blook []) (l:= [(152, .pu s_gr09_Kind),(232, .pu s_gr09_Neg)]) (C:=c_gr13_Less) (by kernel_rfl) tab_ok ⟨o_gr09_Kind,o_gr09_Neg,trivial⟩ (fn:=Tryz.f185) (by kernel_rfl) rfl (by kernel_rfl) (by decide) (by kernel_rfl) (F:=fun k x=>gr13_Less.f k x.1 x.2.1) (m:=m_gr13_Less) (fun k x=>rfl)
  (by
   refine And.intro ?_ ?_
   ·refine ob_join1 (sl:=q0_gr13_Less) (F:=g0_gr13_Less) (fun x=>rfl) fun k ⟨⟨(x0:Int),_⟩,⟨(x1:Int),_⟩,⟨(x14:Bool),_⟩,_⟩=> ?_
    show LeT m_gr13_Less (gr13_Less.j0 (k+1) x0 x1 x14) _
    rw [gr13_Less.j0];exact go
   refine And.intro ?_ ?_
   ·refine ob_join1 (sl:=q1_gr13_Less) (F:=g1_gr13_Less) (fun x=>rfl) fun k ⟨⟨(x0:Int),_⟩,⟨(x1:Int),_⟩,⟨(x5:Bool),_⟩,⟨(x6:Bool),_⟩,⟨(x22:Bool),_⟩,_⟩=> ?_
    show LeT m_gr13_Less (gr13_Less.j1 (k+1) x0 x1 x5 x6 x22) _
    rw [gr13_Less.j1];exact go
   exact trivial)
  (fun k ⟨(a0:Int),(a1:Int),_⟩=>by show LeT m_gr13_Less (gr13_Less.f k a0 a1) _;unfold gr13_Less.f;exact go)
end
section
attribute [local irreducible] gr02_Cmp.f gr02_Size.f gr04_Div.f gr02_Trim.f
def s_gr05_Part:FSpec:=⟨[(.row 73 (.int .u64)),(.row 73 (.int .u64))],[(.row 73 (.int .u64))],fun k x=>(gr05_Part.f k x.1 x.2.1).map fun r=>(r,())⟩
def m_gr05_Part (r:List Int):TT s_gr05_Part.rs:=(r,())
theorem o_gr05_Part:FOk Tryz.prog 127 s_gr05_Part :=
 fn_of (Bt:=blook []) (l:= [(75, .pu s_gr02_Cmp),(126, .pu s_gr02_Size),(156, .pu s_gr04_Div),(188, .pu s_gr02_Trim)]) (C:=noCuts) (by kernel_rfl) tab_ok ⟨o_gr02_Cmp,o_gr02_Size,o_gr04_Div,o_gr02_Trim,trivial⟩ (fn:=Tryz.f127) (by kernel_rfl) rfl (by kernel_rfl) (by decide) (by kernel_rfl) (F:=fun k x=>gr05_Part.f k x.1 x.2.1) (m:=m_gr05_Part) (fun k x=>rfl)
  (by exact trivial)
  (fun k ⟨(a0:List Int),(a1:List Int),_⟩=>by show LeT m_gr05_Part (gr05_Part.f k a0 a1) _;unfold gr05_Part.f;exact go)
end
section
attribute [local irreducible] gr05_Gcd.f gr02_Size.f gr05_Part.f
def s_gr07_Make:FSpec:=⟨[.bool,(.row 73 (.int .u64)),(.row 73 (.int .u64))],[(.cons .bool (.cons (.row 73 (.int .u64)) (.row 73 (.int .u64))))],fun k x=>(gr07_Make.f k x.1 x.2.1 x.2.2.1).map fun r=>((r.1,r.2.1,r.2.2),())⟩
def m_gr07_Make (r:Bool × List Int × List Int):TT s_gr07_Make.rs:=((r.1,r.2.1,r.2.2),())
theorem o_gr07_Make:FOk Tryz.prog 72 s_gr07_Make :=
 fn_of (Bt:=blook []) (l:= [(120, .pu s_gr05_Gcd),(126, .pu s_gr02_Size),(127, .pu s_gr05_Part)]) (C:=noCuts) (by kernel_rfl) tab_ok ⟨o_gr05_Gcd,o_gr02_Size,o_gr05_Part,trivial⟩ (fn:=Tryz.f72) (by kernel_rfl) rfl (by kernel_rfl) (by decide) (by kernel_rfl) (F:=fun k x=>gr07_Make.f k x.1 x.2.1 x.2.2.1) (m:=m_gr07_Make) (fun k x=>rfl)
  (by exact trivial)
  (fun k ⟨(a0:Bool),(a1:List Int),(a2:List Int),_⟩=>by show LeT m_gr07_Make (gr07_Make.f k a0 a1 a2) _;unfold gr07_Make.f;exact go)
end
section
attribute [local irreducible] gr07_Make.f
def s_gr07_Of:FSpec:=⟨[.int .i64],[(.cons .bool (.cons (.row 73 (.int .u64)) (.row 73 (.int .u64))))],fun k x=>(gr07_Of.f k x.1).map fun r=>((r.1,r.2.1,r.2.2),())⟩
def m_gr07_Of (r:Bool × List Int × List Int):TT s_gr07_Of.rs:=((r.1,r.2.1,r.2.2),())
theorem o_gr07_Of:FOk Tryz.prog 22 s_gr07_Of :=
 fn_of (Bt:=blook []) (l:= [(72, .pu s_gr07_Make)]) (C:=noCuts) (by kernel_rfl) tab_ok ⟨o_gr07_Make,trivial⟩ (fn:=Tryz.f22) (by kernel_rfl) rfl (by kernel_rfl) (by decide) (by kernel_rfl) (F:=fun k x=>gr07_Of.f k x.1) (m:=m_gr07_Of) (fun k x=>rfl)
  (by exact trivial)
  (fun k ⟨(a0:Int),_⟩=>by show LeT m_gr07_Of (gr07_Of.f k a0) _;unfold gr07_Of.f;exact go)
end
section
attribute [local irreducible] gr07_Of.f gr10_Of.f
def s_gr10_FromInt:FSpec:=⟨[.int .i64],[.int .u64],fun k x=>(gr10_FromInt.f k x.1).map fun r=>(r,())⟩
def m_gr10_FromInt (r:Int):TT s_gr10_FromInt.rs:=(r,())
theorem o_gr10_FromInt:FOk Tryz.prog 236 s_gr10_FromInt :=
 fn_of (Bt:=blook []) (l:= [(22, .pu s_gr07_Of),(229, .pu s_gr10_Of)]) (C:=noCuts) (by kernel_rfl) tab_ok ⟨o_gr07_Of,o_gr10_Of,trivial⟩ (fn:=Tryz.f236) (by kernel_rfl) rfl (by kernel_rfl) (by decide) (by kernel_rfl) (F:=fun k x=>gr10_FromInt.f k x.1) (m:=m_gr10_FromInt) (fun k x=>rfl)
  (by exact trivial)
  (fun k ⟨(a0:Int),_⟩=>by show LeT m_gr10_FromInt (gr10_FromInt.f k a0) _;unfold gr10_FromInt.f;exact go)
end
section
attribute [local irreducible] gr09_Field.f
def s_gr09_Finite:FSpec:=⟨[.int .u64],[.bool],fun _ x=>(gr09_Finite.f x.1).map fun r=>(r,())⟩
def m_gr09_Finite (r:Bool):TT s_gr09_Finite.rs:=(r,())
theorem o_gr09_Finite:FOk Tryz.prog 259 s_gr09_Finite :=
 fn_of (Bt:=blook []) (l:= [(225, .pu s_gr09_Field)]) (C:=noCuts) (by kernel_rfl) tab_ok ⟨o_gr09_Field,trivial⟩ (fn:=Tryz.f259) (by kernel_rfl) rfl (by kernel_rfl) (by decide) (by kernel_rfl) (F:=fun k x=>gr09_Finite.f x.1) (m:=m_gr09_Finite) (fun k x=>rfl)
  (by exact trivial)
  (fun k ⟨(a0:Int),_⟩=>by show LeT m_gr09_Finite (gr09_Finite.f a0) _;unfold gr09_Finite.f;exact go)
end
section
attribute [local irreducible] gr02_Cmp.f gr02_Sub.f gr02_Bits.f gr02_Shl.f gr02_Shr.f gr09_Neg.f gr09_Parts.f gr09_Finite.f
def s_gr13_Near:FSpec:=⟨[.int .u64],[.int .i64, .bool],fun k x=>(gr13_Near.f k x.1).map fun r=>(r.1,r.2,())⟩
def m_gr13_Near (r:Int × Bool):TT s_gr13_Near.rs:=(r.1,r.2,())
@[reducible] def q0_gr13_Near:List Slot:= [.tmp 0 [.ty (.int .u64)], .tmp 4 [.ty (.int .u64)], .tmp 5 [.ty (.int .i64)], .tmp 6 [.ty (.row 73 (.int .u64))], .tmp 7 [.ty (.int .i64)]]
def g0_gr13_Near (k:Nat) (x:TS q0_gr13_Near):Option (Int × Bool):=gr13_Near.j0 k x.1.1 x.2.1.1 x.2.2.1.1 x.2.2.2.1.1 x.2.2.2.2.1.1
@[reducible] def q1_gr13_Near:List Slot:= [.tmp 0 [.ty (.int .u64)], .tmp 7 [.ty (.int .i64)], .tmp 61 [.ty .bool]]
def g1_gr13_Near (k:Nat) (x:TS q1_gr13_Near):Option (Int × Bool):=gr13_Near.j1 k x.1.1 x.2.1.1 x.2.2.1.1
def c_gr13_Near:Cuts (TT s_gr13_Near.rs):=⟨⟨69,69,[]⟩,lookC [],lookC [(10,⟨q0_gr13_Near,fun k x=>(g0_gr13_Near k x).map m_gr13_Near⟩)],lookC [(13,⟨q1_gr13_Near,fun k x=>(g1_gr13_Near k x).map m_gr13_Near⟩)]⟩
theorem o_gr13_Near:FOk Tryz.prog 237 s_gr13_Near :=
 fn_of (Bt:=blook []) (l:= [(75, .pu s_gr02_Cmp),(76, .pu s_gr02_Sub),(124, .pu s_gr02_Bits),(157, .pu s_gr02_Shl),(190, .pu s_gr02_Shr),(232, .pu s_gr09_Neg),(233, .pu s_gr09_Parts),(259, .pu s_gr09_Finite)]) (C:=c_gr13_Near) (by kernel_rfl) tab_ok ⟨o_gr02_Cmp,o_gr02_Sub,o_gr02_Bits,o_gr02_Shl,o_gr02_Shr,o_gr09_Neg,o_gr09_Parts,o_gr09_Finite,trivial⟩ (fn:=Tryz.f237) (by kernel_rfl) rfl (by kernel_rfl) (by decide) (by kernel_rfl) (F:=fun k x=>gr13_Near.f k x.1) (m:=m_gr13_Near) (fun k x=>rfl)
  (by
   refine And.intro ?_ ?_
   ·refine ob_join1 (sl:=q0_gr13_Near) (F:=g0_gr13_Near) (fun x=>rfl) fun k ⟨⟨(x0:Int),_⟩,⟨(x4:Int),_⟩,⟨(x5:Int),_⟩,⟨(x6:List Int),_⟩,⟨(x7:Int),_⟩,_⟩=> ?_
    show LeT m_gr13_Near (gr13_Near.j0 (k+1) x0 x4 x5 x6 x7) _
    rw [gr13_Near.j0];exact go
   refine And.intro ?_ ?_
   ·refine ob_join1 (sl:=q1_gr13_Near) (F:=g1_gr13_Near) (fun x=>rfl) fun k ⟨⟨(x0:Int),_⟩,⟨(x7:Int),_⟩,⟨(x61:Bool),_⟩,_⟩=> ?_
    show LeT m_gr13_Near (gr13_Near.j1 (k+1) x0 x7 x61) _
    rw [gr13_Near.j1];exact go
   exact trivial)
  (fun k ⟨(a0:Int),_⟩=>by show LeT m_gr13_Near (gr13_Near.f k a0) _;unfold gr13_Near.f;exact go)
end
section
attribute [local irreducible] gr12_Div.f gr10_FromInt.f
def s_gr14_by:FSpec:=⟨[.int .i64],[.int .u64],fun k x=>(gr14_by.f k x.1).map fun r=>(r,())⟩
def m_gr14_by (r:Int):TT s_gr14_by.rs:=(r,())
theorem o_gr14_by:FOk Tryz.prog 238 s_gr14_by :=
 fn_of (Bt:=blook []) (l:= [(163, .pu s_gr12_Div),(236, .pu s_gr10_FromInt)]) (C:=noCuts) (by kernel_rfl) tab_ok ⟨o_gr12_Div,o_gr10_FromInt,trivial⟩ (fn:=Tryz.f238) (by kernel_rfl) rfl (by kernel_rfl) (by decide) (by kernel_rfl) (F:=fun k x=>gr14_by.f k x.1) (m:=m_gr14_by) (fun k x=>rfl)
  (by exact trivial)
  (fun k ⟨(a0:Int),_⟩=>by show LeT m_gr14_by (gr14_by.f k a0) _;unfold gr14_by.f;exact go)
end
section
def s_gr14_factorial:FSpec:=⟨[.int .i64],[.int .i64],fun k x=>(gr14_factorial.f k x.1).map fun r=>(r,())⟩
def m_gr14_factorial (r:Int):TT s_gr14_factorial.rs:=(r,())
@[reducible] def q0_gr14_factorial:List Slot:= [.tmp 3 [.ty (.int .i64)], .tmp 5 [.ty (.int .i64)], .tmp 6 [.ty (.int .i64)]]
def g0_gr14_factorial (k:Nat) (x:TS q0_gr14_factorial):Option (Int):=gr14_factorial.l0 k x.1.1 x.2.1.1 x.2.2.1.1
def c_gr14_factorial:Cuts (TT s_gr14_factorial.rs):=⟨⟨15,15,[]⟩,lookC [(0,⟨q0_gr14_factorial,fun k x=>(g0_gr14_factorial k x).map m_gr14_factorial⟩)],lookC [],lookC []⟩
theorem o_gr14_factorial:FOk Tryz.prog 239 s_gr14_factorial :=
 fn_of (Bt:=blook []) (l:= []) (C:=c_gr14_factorial) (by kernel_rfl) tab_ok trivial (fn:=Tryz.f239) (by kernel_rfl) rfl (by kernel_rfl) (by decide) (by kernel_rfl) (F:=fun k x=>gr14_factorial.f k x.1) (m:=m_gr14_factorial) (fun k x=>rfl)
  (by
   refine And.intro ?_ ?_
   ·refine ob_loop (sl:=q0_gr14_factorial) (F:=g0_gr14_factorial) (fun x=>rfl) fun k ⟨⟨(x3:Int),_⟩,⟨(x5:Int),_⟩,⟨(x6:Int),_⟩,_⟩=> ?_
    show LeT m_gr14_factorial (gr14_factorial.l0 (k+1) x3 x5 x6) _
    rw [gr14_factorial.l0];exact go
   exact trivial)
  (fun k ⟨(a0:Int),_⟩=>by show LeT m_gr14_factorial (gr14_factorial.f k a0) _;unfold gr14_factorial.f;exact go)
end
section
attribute [local irreducible] gr09_Clean.f gr10_Of.f gr09_Neg.f gr09_Parts.f gr09_Finite.f
def s_gr13_Scale:FSpec:=⟨[.int .u64, .int .i64],[.int .u64],fun k x=>(gr13_Scale.f k x.1 x.2.1).map fun r=>(r,())⟩
def m_gr13_Scale (r:Int):TT s_gr13_Scale.rs:=(r,())
theorem o_gr13_Scale:FOk Tryz.prog 240 s_gr13_Scale :=
 fn_of (Bt:=blook []) (l:= [(89, .pu s_gr09_Clean),(229, .pu s_gr10_Of),(232, .pu s_gr09_Neg),(233, .pu s_gr09_Parts),(259, .pu s_gr09_Finite)]) (C:=noCuts) (by kernel_rfl) tab_ok ⟨o_gr09_Clean,o_gr10_Of,o_gr09_Neg,o_gr09_Parts,o_gr09_Finite,trivial⟩ (fn:=Tryz.f240) (by kernel_rfl) rfl (by kernel_rfl) (by decide) (by kernel_rfl) (F:=fun k x=>gr13_Scale.f k x.1 x.2.1) (m:=m_gr13_Scale) (fun k x=>rfl)
  (by exact trivial)
  (fun k ⟨(a0:Int),(a1:Int),_⟩=>by show LeT m_gr13_Scale (gr13_Scale.f k a0 a1) _;unfold gr13_Scale.f;exact go)
end
section
attribute [local irreducible] gr09_Kind.f gr09_Nan.f gr09_Inf.f gr11_Add.f gr11_Sub.f gr12_Mul.f gr13_Less.f gr10_FromInt.f gr13_Near.f gr14_by.f gr14_factorial.f gr13_Scale.f
def s_gr14_Exp:FSpec:=⟨[.int .u64],[.int .u64],fun k x=>(gr14_Exp.f k x.1).map fun r=>(r,())⟩
def m_gr14_Exp (r:Int):TT s_gr14_Exp.rs:=(r,())
@[reducible] def q0_gr14_Exp:List Slot:= [.tmp 3 [.ty (.int .i64)], .tmp 6 [.ty (.int .u64)], .tmp 7 [.ty (.int .u64)], .tmp 38 [.ty (.int .i64)]]
def g0_gr14_Exp (k:Nat) (x:TS q0_gr14_Exp):Option (Int):=gr14_Exp.l0 k x.1.1 x.2.1.1 x.2.2.1.1 x.2.2.2.1.1
def c_gr14_Exp:Cuts (TT s_gr14_Exp.rs):=⟨⟨53,53,[]⟩,lookC [(0,⟨q0_gr14_Exp,fun k x=>(g0_gr14_Exp k x).map m_gr14_Exp⟩)],lookC [],lookC []⟩
theorem o_gr14_Exp:FOk Tryz.prog 165 s_gr14_Exp :=
 fn_of (Bt:=blook []) (l:= [(152, .pu s_gr09_Kind),(153, .pu s_gr09_Nan),(154, .pu s_gr09_Inf),(160, .pu s_gr11_Add),(161, .pu s_gr11_Sub),(162, .pu s_gr12_Mul),(185, .pu s_gr13_Less),(236, .pu s_gr10_FromInt),(237, .pu s_gr13_Near),(238, .pu s_gr14_by),(239, .pu s_gr14_factorial),(240, .pu s_gr13_Scale)]) (C:=c_gr14_Exp) (by kernel_rfl) tab_ok ⟨o_gr09_Kind,o_gr09_Nan,o_gr09_Inf,o_gr11_Add,o_gr11_Sub,o_gr12_Mul,o_gr13_Less,o_gr10_FromInt,o_gr13_Near,o_gr14_by,o_gr14_factorial,o_gr13_Scale,trivial⟩ (fn:=Tryz.f165) (by kernel_rfl) rfl (by kernel_rfl) (by decide) (by kernel_rfl) (F:=fun k x=>gr14_Exp.f k x.1) (m:=m_gr14_Exp) (fun k x=>rfl)
  (by
   refine And.intro ?_ ?_
   ·refine ob_loop (sl:=q0_gr14_Exp) (F:=g0_gr14_Exp) (fun x=>rfl) fun k ⟨⟨(x3:Int),_⟩,⟨(x6:Int),_⟩,⟨(x7:Int),_⟩,⟨(x38:Int),_⟩,_⟩=> ?_
    show LeT m_gr14_Exp (gr14_Exp.l0 (k+1) x3 x6 x7 x38) _
    rw [gr14_Exp.l0];exact go
   exact trivial)
  (fun k ⟨(a0:Int),_⟩=>by show LeT m_gr14_Exp (gr14_Exp.f k a0) _;unfold gr14_Exp.f;exact go)
end
section
attribute [local irreducible] gr09_Kind.f gr09_Nan.f gr09_Inf.f gr11_Add.f gr11_Sub.f gr12_Mul.f gr12_Div.f gr13_Less.f gr09_Neg.f gr10_FromInt.f gr14_by.f gr13_Scale.f
def s_gr14_Log:FSpec:=⟨[.int .u64],[.int .u64],fun k x=>(gr14_Log.f k x.1).map fun r=>(r,())⟩
def m_gr14_Log (r:Int):TT s_gr14_Log.rs:=(r,())
@[reducible] def q0_gr14_Log:List Slot:= [.tmp 0 [.ty (.int .u64)], .tmp 23 [.ty .bool]]
def g0_gr14_Log (k:Nat) (x:TS q0_gr14_Log):Option (Int):=gr14_Log.j0 k x.1.1 x.2.1.1
@[reducible] def q1_gr14_Log:List Slot:= [.tmp 3 [.ty (.int .u64)], .tmp 4 [.ty (.int .i64)]]
def g1_gr14_Log (k:Nat) (x:TS q1_gr14_Log):Option (Int):=gr14_Log.l0 k x.1.1 x.2.1.1
@[reducible] def q2_gr14_Log:List Slot:= [.tmp 3 [.ty (.int .u64)], .tmp 4 [.ty (.int .i64)]]
def g2_gr14_Log (k:Nat) (x:TS q2_gr14_Log):Option (Int):=gr14_Log.l1 k x.1.1 x.2.1.1
@[reducible] def q3_gr14_Log:List Slot:= [.tmp 3 [.ty (.int .u64)], .tmp 4 [.ty (.int .i64)]]
def g3_gr14_Log (k:Nat) (x:TS q3_gr14_Log):Option (Int):=gr14_Log.j3 k x.1.1 x.2.1.1
@[reducible] def q4_gr14_Log:List Slot:= [.tmp 4 [.ty (.int .i64)], .tmp 6 [.ty (.int .u64)], .tmp 7 [.ty (.int .u64)], .tmp 8 [.ty (.int .u64)], .tmp 59 [.ty (.int .i64)]]
def g4_gr14_Log (k:Nat) (x:TS q4_gr14_Log):Option (Int):=gr14_Log.l2 k x.1.1 x.2.1.1 x.2.2.1.1 x.2.2.2.1.1 x.2.2.2.2.1.1
def c_gr14_Log:Cuts (TT s_gr14_Log.rs):=⟨⟨93,93,[]⟩,lookC [(0,⟨q1_gr14_Log,fun k x=>(g1_gr14_Log k x).map m_gr14_Log⟩),(1,⟨q2_gr14_Log,fun k x=>(g2_gr14_Log k x).map m_gr14_Log⟩),(2,⟨q4_gr14_Log,fun k x=>(g4_gr14_Log k x).map m_gr14_Log⟩)],lookC [(17,⟨q3_gr14_Log,fun k x=>(g3_gr14_Log k x).map m_gr14_Log⟩)],lookC [(3,⟨q0_gr14_Log,fun k x=>(g0_gr14_Log k x).map m_gr14_Log⟩)]⟩
theorem o_gr14_Log:FOk Tryz.prog 166 s_gr14_Log :=
 fn_of (Bt:=blook []) (l:= [(152, .pu s_gr09_Kind),(153, .pu s_gr09_Nan),(154, .pu s_gr09_Inf),(160, .pu s_gr11_Add),(161, .pu s_gr11_Sub),(162, .pu s_gr12_Mul),(163, .pu s_gr12_Div),(185, .pu s_gr13_Less),(232, .pu s_gr09_Neg),(236, .pu s_gr10_FromInt),(238, .pu s_gr14_by),(240, .pu s_gr13_Scale)]) (C:=c_gr14_Log) (by kernel_rfl) tab_ok ⟨o_gr09_Kind,o_gr09_Nan,o_gr09_Inf,o_gr11_Add,o_gr11_Sub,o_gr12_Mul,o_gr12_Div,o_gr13_Less,o_gr09_Neg,o_gr10_FromInt,o_gr14_by,o_gr13_Scale,trivial⟩ (fn:=Tryz.f166) (by kernel_rfl) rfl (by kernel_rfl) (by decide) (by kernel_rfl) (F:=fun k x=>gr14_Log.f k x.1) (m:=m_gr14_Log) (fun k x=>rfl)
  (by
   refine And.intro ?_ ?_
   ·refine ob_join1 (sl:=q0_gr14_Log) (F:=g0_gr14_Log) (fun x=>rfl) fun k ⟨⟨(x0:Int),_⟩,⟨(x23:Bool),_⟩,_⟩=> ?_
    show LeT m_gr14_Log (gr14_Log.j0 (k+1) x0 x23) _
    rw [gr14_Log.j0];exact go
   refine And.intro ?_ ?_
   ·refine ob_loop (sl:=q1_gr14_Log) (F:=g1_gr14_Log) (fun x=>rfl) fun k ⟨⟨(x3:Int),_⟩,⟨(x4:Int),_⟩,_⟩=> ?_
    show LeT m_gr14_Log (gr14_Log.l0 (k+1) x3 x4) _
    rw [gr14_Log.l0];exact go
   refine And.intro ?_ ?_
   ·refine ob_loop (sl:=q2_gr14_Log) (F:=g2_gr14_Log) (fun x=>rfl) fun k ⟨⟨(x3:Int),_⟩,⟨(x4:Int),_⟩,_⟩=> ?_
    show LeT m_gr14_Log (gr14_Log.l1 (k+1) x3 x4) _
    rw [gr14_Log.l1];exact go
   refine And.intro ?_ ?_
   ·refine ob_join1 (sl:=q3_gr14_Log) (F:=g3_gr14_Log) (fun x=>rfl) fun k ⟨⟨(x3:Int),_⟩,⟨(x4:Int),_⟩,_⟩=> ?_
    show LeT m_gr14_Log (gr14_Log.j3 (k+1) x3 x4) _
    rw [gr14_Log.j3];exact go
   refine And.intro ?_ ?_
   ·refine ob_loop (sl:=q4_gr14_Log) (F:=g4_gr14_Log) (fun x=>rfl) fun k ⟨⟨(x4:Int),_⟩,⟨(x6:Int),_⟩,⟨(x7:Int),_⟩,⟨(x8:Int),_⟩,⟨(x59:Int),_⟩,_⟩=> ?_
    show LeT m_gr14_Log (gr14_Log.l2 (k+1) x4 x6 x7 x8 x59) _
    rw [gr14_Log.l2];exact go
   exact trivial)
  (fun k ⟨(a0:Int),_⟩=>by show LeT m_gr14_Log (gr14_Log.f k a0) _;unfold gr14_Log.f;exact go)
end
section
attribute [local irreducible] gr09_Flip.f gr11_Add.f gr11_Sub.f gr12_Mul.f gr12_Div.f gr12_Sqrt.f gr14_Exp.f gr14_Log.f
def s_gr16_Double:FSpec:=⟨[.int .i64, .int .u64, .int .u64],[.int .u64],fun k x=>(gr16_Double.f k x.1 x.2.1 x.2.2.1).map fun r=>(r,())⟩
def m_gr16_Double (r:Int):TT s_gr16_Double.rs:=(r,())
theorem o_gr16_Double:FOk Tryz.prog 91 s_gr16_Double :=
 fn_of (Bt:=blook []) (l:= [(159, .pu s_gr09_Flip),(160, .pu s_gr11_Add),(161, .pu s_gr11_Sub),(162, .pu s_gr12_Mul),(163, .pu s_gr12_Div),(164, .pu s_gr12_Sqrt),(165, .pu s_gr14_Exp),(166, .pu s_gr14_Log)]) (C:=noCuts) (by kernel_rfl) tab_ok ⟨o_gr09_Flip,o_gr11_Add,o_gr11_Sub,o_gr12_Mul,o_gr12_Div,o_gr12_Sqrt,o_gr14_Exp,o_gr14_Log,trivial⟩ (fn:=Tryz.f91) (by kernel_rfl) rfl (by kernel_rfl) (by decide) (by kernel_rfl) (F:=fun k x=>gr16_Double.f k x.1 x.2.1 x.2.2.1) (m:=m_gr16_Double) (fun k x=>rfl)
  (by exact trivial)
  (fun k ⟨(a0:Int),(a1:Int),(a2:Int),_⟩=>by show LeT m_gr16_Double (gr16_Double.f k a0 a1 a2) _;unfold gr16_Double.f;exact go)
end
section
attribute [local irreducible] gr15_Right.f gr09_Clean.f gr10_FromRat.f gr16_Double.f
def s_gr16_Float:FSpec:=⟨[(.row 93 (.cons (.int .i64) (.cons (.int .i64) (.cons (.int .i64) (.cons .bool (.cons (.row 73 (.int .u64)) (.row 73 (.int .u64)))))))),(.row 73 (.int .u64))],[(.row 73 (.int .u64)), .int .i64, .int .i64],fun k x=>(gr16_Float.f k x.1 x.2.1).map fun r=>(r.1,r.2.1,r.2.2,())⟩
def m_gr16_Float (r:List Int × Int × Int):TT s_gr16_Float.rs:=(r.1,r.2.1,r.2.2,())
@[reducible] def q0_gr16_Float:List Slot:= [.tmp 0 [.ty (.row 93 (.cons (.int .i64) (.cons (.int .i64) (.cons (.int .i64) (.cons .bool (.cons (.row 73 (.int .u64)) (.row 73 (.int .u64))))))))], .tmp 1 [.ty (.row 73 (.int .u64))], .tmp 7 [.own .mine 7 73 (.int .u64)], .tmp 15 [.ty (.int .i64)], .tmp 16 [.ty (.int .i64)]]
def g0_gr16_Float (k:Nat) (x:TS q0_gr16_Float):Option (List Int × Int × Int):=gr16_Float.l0 k x.1.1 x.2.1.1 x.2.2.1.1 x.2.2.2.1.1 x.2.2.2.2.1.1
@[reducible] def q1_gr16_Float:List Slot:= [.tmp 0 [.ty (.row 93 (.cons (.int .i64) (.cons (.int .i64) (.cons (.int .i64) (.cons .bool (.cons (.row 73 (.int .u64)) (.row 73 (.int .u64))))))))], .tmp 1 [.ty (.row 73 (.int .u64))], .tmp 7 [.own .mine 7 73 (.int .u64)], .tmp 9 [.ptr 9 0], .tmp 15 [.ty (.int .i64)], .tmp 16 [.ty (.int .i64)], .blk 9 .mine 93 [.ty (.int .i64), .ty (.int .i64), .ty (.int .i64), .ty .bool, .ty (.row 73 (.int .u64)), .ty (.row 73 (.int .u64))]]
def g1_gr16_Float (k:Nat) (x:TS q1_gr16_Float):Option (List Int × Int × Int):=gr16_Float.j10 k x.1.1 x.2.1.1 x.2.2.1.1 x.2.2.2.2.1.1 x.2.2.2.2.2.1.1 x.2.2.2.2.2.2.1.1 x.2.2.2.2.2.2.1.2.1 x.2.2.2.2.2.2.1.2.2.1 x.2.2.2.2.2.2.1.2.2.2.1 x.2.2.2.2.2.2.1.2.2.2.2.1 x.2.2.2.2.2.2.1.2.2.2.2.2.1
def c_gr16_Float:Cuts (TT s_gr16_Float.rs):=⟨⟨74,75,[]⟩,lookC [(0,⟨q0_gr16_Float,fun k x=>(g0_gr16_Float k x).map m_gr16_Float⟩)],lookC [(10,⟨q1_gr16_Float,fun k x=>(g1_gr16_Float k x).map m_gr16_Float⟩)],lookC []⟩
theorem o_gr16_Float:FOk Tryz.prog 33 s_gr16_Float :=
 fn_of (Bt:=blook [(14,[0,1,0,0,8,28,60,0,0,256,896,1920,4095,8191])]) (l:= [(35, .pu s_gr15_Right),(89, .pu s_gr09_Clean),(90, .pu s_gr10_FromRat),(91, .pu s_gr16_Double)]) (C:=c_gr16_Float) (by kernel_rfl) tab_ok ⟨o_gr15_Right,o_gr09_Clean,o_gr10_FromRat,o_gr16_Double,trivial⟩ (fn:=Tryz.f33) (by kernel_rfl) rfl (by kernel_rfl) (by decide) (by kernel_rfl) (F:=fun k x=>gr16_Float.f k x.1 x.2.1) (m:=m_gr16_Float) (fun k x=>rfl)
  (by
   refine And.intro ?_ ?_
   ·refine ob_loop (sl:=q0_gr16_Float) (F:=g0_gr16_Float) (fun x=>rfl) fun k ⟨⟨(x0:List (Int × Int × Int × Bool × (List Int) × List Int)),_⟩,⟨(x1:List Int),_⟩,⟨(x7:List Int),_⟩,⟨(x15:Int),_⟩,⟨(x16:Int),_⟩,_⟩=> ?_
    show LeT m_gr16_Float (gr16_Float.l0 (k+1) x0 x1 x7 x15 x16) _
    rw [gr16_Float.l0];exact go
   refine And.intro ?_ ?_
   ·refine ob_join1 (sl:=q1_gr16_Float) (F:=g1_gr16_Float) (fun x=>rfl) fun k ⟨⟨(x0:List (Int × Int × Int × Bool × (List Int) × List Int)),_⟩,⟨(x1:List Int),_⟩,⟨(x7:List Int),_⟩,_,⟨(x15:Int),_⟩,⟨(x16:Int),_⟩,⟨(v9_0:Int),(v9_1:Int),(v9_2:Int),(v9_3:Bool),(v9_4:List Int),(v9_5:List Int),_⟩,_⟩=> ?_
    show LeT m_gr16_Float (gr16_Float.j10 (k+1) x0 x1 x7 x15 x16 v9_0 v9_1 v9_2 v9_3 v9_4 v9_5) _
    rw [gr16_Float.j10];exact go
   exact trivial)
  (fun k ⟨(a0:List (Int × Int × Int × Bool × (List Int) × List Int)),(a1:List Int),_⟩=>by show LeT m_gr16_Float (gr16_Float.f k a0 a1) _;unfold gr16_Float.f;exact go)
end
section
def s_gradineplain_Words:FSpec:=⟨[(.row 73 (.int .u64)),(.row 73 (.int .u64))],[.bool],fun k x=>(gradineplain_Words.f k x.1 x.2.1).map fun r=>(r,())⟩
def m_gradineplain_Words (r:Bool):TT s_gradineplain_Words.rs:=(r,())
@[reducible] def q0_gradineplain_Words:List Slot:= [.tmp 0 [.ty (.row 73 (.int .u64))], .tmp 1 [.ty (.row 73 (.int .u64))], .tmp 12 [.ty (.int .i64)], .tmp 13 [.ty (.int .i64)]]
def g0_gradineplain_Words (k:Nat) (x:TS q0_gradineplain_Words):Option (Bool):=gradineplain_Words.l0 k x.1.1 x.2.1.1 x.2.2.1.1 x.2.2.2.1.1
def c_gradineplain_Words:Cuts (TT s_gradineplain_Words.rs):=⟨⟨26,26,[]⟩,lookC [(0,⟨q0_gradineplain_Words,fun k x=>(g0_gradineplain_Words k x).map m_gradineplain_Words⟩)],lookC [],lookC []⟩
theorem o_gradineplain_Words:FOk Tryz.prog 34 s_gradineplain_Words :=
 fn_of (Bt:=blook [(6,[0,0,3,7,0,0,48,112,255])]) (l:= []) (C:=c_gradineplain_Words) (by kernel_rfl) tab_ok trivial (fn:=Tryz.f34) (by kernel_rfl) rfl (by kernel_rfl) (by decide) (by kernel_rfl) (F:=fun k x=>gradineplain_Words.f k x.1 x.2.1) (m:=m_gradineplain_Words) (fun k x=>rfl)
  (by
   refine And.intro ?_ ?_
   ·refine ob_loop (sl:=q0_gradineplain_Words) (F:=g0_gradineplain_Words) (fun x=>rfl) fun k ⟨⟨(x0:List Int),_⟩,⟨(x1:List Int),_⟩,⟨(x12:Int),_⟩,⟨(x13:Int),_⟩,_⟩=> ?_
    show LeT m_gradineplain_Words (gradineplain_Words.l0 (k+1) x0 x1 x12 x13) _
    rw [gradineplain_Words.l0];exact go
   exact trivial)
  (fun k ⟨(a0:List Int),(a1:List Int),_⟩=>by show LeT m_gradineplain_Words (gradineplain_Words.f k a0 a1) _;unfold gradineplain_Words.f;exact go)
end
end Go.Proofs.YtjocbnjpjihpnaaGreat.A
