/- Functions of one package as Lean functions, and walks: written by a program for this claim. -/
import Derived.Test.YtjocbnjpjihpnaaFbase
namespace Go.Proofs.Ytjocbnjpjihpnaa.P
open Go.RowKit Go.Proofs.YtjocbnjpjihpnaaW.PrintWords Go.Proofs.YtjocbnjpjihpnaaW.PrintLast Go.Proofs.YtjocbnjpjihpnaaW.PrintMore
attribute [local go_sem] max2_int min2_int max_two min_two max_three min_three max_four min_four
set_option linter.unusedVariables false
set_option linter.unusedSimpArgs false

/-! ### fbits_exponent: function 85 -/
def fbits_exponent.f (a0:Int):Option (Int):=some (wrap64 (Go.bits .and .u64 (a0/4503599627370496) 2047))

/-! ### fbits_Kind: function 39 -/
def fbits_Kind.f (a0:Int):Option (Int):=(fbits_exponent.f a0).bind fun t945=>(if t945=2047 then (if (Go.bits .and .u64 a0 4503599627370495)=0 then (some 3) else (some 4)) else (if t945=0 then (if (Go.bits .and .u64 a0 4503599627370495)=0 then (some 0) else (some 1)) else (some 2)))

/-! ### fbits_Nan: function 32 -/
def fbits_Nan.f  :Option (Int):=some 9221120237041090560

/-! ### fbits_Clean: function 43 -/
def fbits_Clean.f (a0:Int):Option (Int):=(fbits_Kind.f a0).bind fun t1073=>(if t1073=4 then ((fbits_Nan.f).bind fun t1074=>(some t1074)) else (some a0))

/-! ### fbits_Flip: function 45 -/
def fbits_Flip.f (a0:Int):Option (Int):=(fbits_Kind.f a0).bind fun t1103=>(if t1103=4 then ((fbits_Nan.f).bind fun t1104=>(some t1104)) else (some (Go.bits .xor .u64 a0 9223372036854775808)))

/-! ### fbits_signed: function 86 -/
def fbits_signed.f (a0:Bool) (a1:Int):Option (Int):=if a0=true then (some (Go.bits .or .u64 a1 9223372036854775808)) else (some a1)

/-! ### fbits_Inf: function 34 -/
def fbits_Inf.f (a0:Bool):Option (Int):=(fbits_signed.f a0 9218868437227405312).bind fun t265=>(some t265)

/-! ### limb_Len: function 107 -/
def limb_Len.l0:Nat→Int→Int→Int→Option (Int)
 | 0,_,_,_=>none
 | k+1,x0,x3,x4=>if x4>0 then (if 0≤x4 then (if (shr .u64 x0 x4)>0 then (limb_Len.l0 k (shr .u64 x0 x4) (wrap64 (x3+x4)) (x4/2)) else (limb_Len.l0 k x0 x3 (x4/2))) else (none)) else (some (wrap64 (x3+(wrap64 (x0)))))
def limb_Len.f (k:Nat) (a0:Int):Option (Int):=limb_Len.l0 k a0 0 32

/-! ### fbits_Make: function 25 -/
mutual
def fbits_Make.j0 (k:Nat) (x0:Bool) (x1:Int) (x2:Int) (x19:Bool):Option (Int × Bool):=if x19=true then (some (0,false)) else ((limb_Len.f k x1).bind fun t267=>(if (mx (wrap64 ((wrap64 (x2+t267))-53)) (-1074))>971 then (fbits_Make.j1 k x0 x1 (mx (wrap64 ((wrap64 (x2+t267))-53)) (-1074)) (wrap64 ((mx (wrap64 ((wrap64 (x2+t267))-53)) (-1074))-x2)) true) else (fbits_Make.j1 k x0 x1 (mx (wrap64 ((wrap64 (x2+t267))-53)) (-1074)) (wrap64 ((mx (wrap64 ((wrap64 (x2+t267))-53)) (-1074))-x2)) (decide ((wrap64 ((mx (wrap64 ((wrap64 (x2+t267))-53)) (-1074))-x2))≥64)))))
def fbits_Make.j2 (k:Nat) (x0:Bool) (x1:Int) (x8:Int):Option (Int × Bool):=if x1<4503599627370496 then ((fbits_signed.f x0 x1).bind fun t268=>(some (t268,true))) else ((fbits_signed.f x0 (Go.bits .or .u64 (IntKind.u64.wrap ((IntKind.u64.wrap (wrap64 (x8+1075)))*4503599627370496)) (Go.bits .and .u64 x1 4503599627370495))).bind fun t269=>(some (t269,true)))
def fbits_Make.j1 (k:Nat) (x0:Bool) (x1:Int) (x8:Int) (x9:Int) (x33:Bool):Option (Int × Bool):=if x33=true then (some (0,false)) else (if x9>0 then (if 0≤x9 then (if (shl .u64 (shr .u64 x1 x9) x9)=x1 then (fbits_Make.j2 k x0 (shr .u64 x1 x9) x8) else (some (0,false))) else (none)) else (if 0≤(wrap64 (-x9)) then (fbits_Make.j2 k x0 (shl .u64 x1 (wrap64 (-x9))) x8) else (none)))
end
def fbits_Make.f (k:Nat) (a0:Bool) (a1:Int) (a2:Int):Option (Int × Bool):=if a1=0 then ((fbits_signed.f a0 0).bind fun t266=>(some (t266,true))) else (if a2>2000 then (fbits_Make.j0 k a0 a1 a2 true) else (fbits_Make.j0 k a0 a1 a2 (decide (a2<(-2000)))))

/-! ### fbits_Neg: function 41 -/
def fbits_Neg.f (a0:Int):Option (Bool):=some ((Go.bits .and .u64 a0 9223372036854775808) !=0)

/-! ### fbits_Parts: function 24 -/
def fbits_Parts.j0 (k:Nat) (x0:Int) (x6:Int) (x10:Int) (x11:Bool):Option (Bool × Int × Int × Bool):=if x11=true then (some (false,0,0,false)) else (if x10=2 then ((fbits_Neg.f x0).bind fun t947=>((fbits_exponent.f x0).bind fun t948=>(some (t947,Go.bits .or .u64 x6 4503599627370496,wrap64 (t948-1075),true)))) else ((fbits_Neg.f x0).bind fun t949=>(some (t949,x6,(-1074),true))))
def fbits_Parts.f (k:Nat) (a0:Int):Option (Bool × Int × Int × Bool):=(fbits_Kind.f a0).bind fun t946=>(if t946=3 then (fbits_Parts.j0 k a0 (Go.bits .and .u64 a0 4503599627370495) t946 (t946==3)) else (fbits_Parts.j0 k a0 (Go.bits .and .u64 a0 4503599627370495) t946 (t946==4)))

/-! ### fcmp_known: function 98 -/
def fcmp_known.f (a0:Int) (a1:Int):Option (Bool):=(fbits_Kind.f a0).bind fun t1062=>(if t1062=4 then (some false) else ((fbits_Kind.f a1).bind fun t1063=>(some (t1063 !=4))))

/-! ### fcmp_key: function 99 -/
def fcmp_key.f (a0:Int):Option (Int):=(fbits_Neg.f a0).bind fun t1064=>(if t1064=true then (some (wrap64 (-(wrap64 ((IntKind.u64.wrap (a0*2))/2))))) else (some (wrap64 ((IntKind.u64.wrap (a0*2))/2))))

/-! ### fcmp_Less: function 48 -/
def fcmp_Less.f (a0:Int) (a1:Int):Option (Bool):=(fcmp_known.f a0 a1).bind fun t1065=>(if t1065=true then ((fcmp_key.f a0).bind fun t1066=>((fcmp_key.f a1).bind fun t1067=>(some (decide (t1066<t1067))))) else (some false))

/-! ### fcmp_Near: function 51 -/
mutual
def fcmp_Near.j0:Nat→Bool→Int→Int→Bool→Option (Int × Bool)
 | 0,_,_,_,_=>none
 | k+1,x4,x5,x6,x25=>if x25=true then (some (0,false)) else (if x6≥0 then (if 0≤x6 then (if x4=true then (some (wrap64 (-(wrap64 (shl .u64 x5 x6))),true)) else (some (wrap64 (shl .u64 x5 x6),true))) else (none)) else (if x6>(-64) then (if 0≤(wrap64 (-x6)) then (if 0≤(wrap64 (64+x6)) then (if (shl .u64 x5 (wrap64 (64+x6)))>9223372036854775808 then (fcmp_Near.j1 k x4 (wrap64 (shr .u64 x5 (wrap64 (-x6)))) true) else (if (shl .u64 x5 (wrap64 (64+x6)))=9223372036854775808 then (fcmp_Near.j1 k x4 (wrap64 (shr .u64 x5 (wrap64 (-x6)))) ((Go.bits .and .i64 (wrap64 (shr .u64 x5 (wrap64 (-x6)))) 1)==1)) else (fcmp_Near.j1 k x4 (wrap64 (shr .u64 x5 (wrap64 (-x6)))) false))) else (none)) else (none)) else (if x4=true then (some (-0,true)) else (some (0,true)))))
def fcmp_Near.j1:Nat→Bool→Int→Bool→Option (Int × Bool)
 | 0,_,_,_=>none
 | k+1,x4,x8,x55=>if x55=true then (if x4=true then (some (wrap64 (-(wrap64 (x8+1))),true)) else (some (wrap64 (x8+1),true))) else (if x4=true then (some (wrap64 (-x8),true)) else (some (x8,true)))
end
def fcmp_Near.f (k:Nat) (a0:Int):Option (Int × Bool):=(fbits_Parts.f k a0).bind fun bt1068=>(if bt1068.2.2.2=true then ((limb_Len.f k bt1068.2.1).bind fun t1072=>(fcmp_Near.j0 k bt1068.1 bt1068.2.1 bt1068.2.2.1 (decide ((wrap64 (t1072+bt1068.2.2.1))>62)))) else (fcmp_Near.j0 k bt1068.1 bt1068.2.1 bt1068.2.2.1 true))

/-! ### fround_made: function 92 -/
def fround_made.f (k:Nat) (a0:Bool) (a1:Int) (a2:Int):Option (Int):=(fbits_Make.f k a0 a1 a2).bind fun bt270=>(if bt270.2=true then (some bt270.1) else ((fbits_Inf.f a0).bind fun t272=>(some t272)))

/-! ### fround_even: function 93 -/
def fround_even.f (a0:Int) (a1:Bool) (a2:Bool):Option (Int):=if a1=true then (if a2=true then (some (IntKind.u64.wrap (a0+1))) else (if (Go.bits .and .u64 a0 1)=1 then (some (IntKind.u64.wrap (a0+1))) else (some a0))) else (some a0)

/-! ### fround_Word: function 36 -/
def fround_Word.f (k:Nat) (a0:Bool) (a1:Int) (a2:Int):Option (Int):=if a1=0 then ((fround_made.f k a0 0 0).bind fun t273=>(some t273)) else ((limb_Len.f k a1).bind fun t274=>(if (mx (wrap64 ((wrap64 (t274+(mn (mx a2 (-1099511627776)) 1099511627776)))-53)) (-1074))>971 then ((fbits_Inf.f a0).bind fun t275=>(some t275)) else (if (wrap64 ((mx (wrap64 ((wrap64 (t274+(mn (mx a2 (-1099511627776)) 1099511627776)))-53)) (-1074))-(mn (mx a2 (-1099511627776)) 1099511627776)))≤0 then (if 0≤(wrap64 (-(wrap64 ((mx (wrap64 ((wrap64 (t274+(mn (mx a2 (-1099511627776)) 1099511627776)))-53)) (-1074))-(mn (mx a2 (-1099511627776)) 1099511627776))))) then ((fround_made.f k a0 (shl .u64 a1 (wrap64 (-(wrap64 ((mx (wrap64 ((wrap64 (t274+(mn (mx a2 (-1099511627776)) 1099511627776)))-53)) (-1074))-(mn (mx a2 (-1099511627776)) 1099511627776)))))) (mx (wrap64 ((wrap64 (t274+(mn (mx a2 (-1099511627776)) 1099511627776)))-53)) (-1074))).bind fun t276=>(some t276)) else (none)) else (if (wrap64 ((mx (wrap64 ((wrap64 (t274+(mn (mx a2 (-1099511627776)) 1099511627776)))-53)) (-1074))-(mn (mx a2 (-1099511627776)) 1099511627776)))>64 then ((fround_made.f k a0 0 0).bind fun t277=>(some t277)) else (if 0≤(wrap64 (64-(wrap64 ((mx (wrap64 ((wrap64 (t274+(mn (mx a2 (-1099511627776)) 1099511627776)))-53)) (-1074))-(mn (mx a2 (-1099511627776)) 1099511627776))))) then (if 0≤(wrap64 ((wrap64 ((mx (wrap64 ((wrap64 (t274+(mn (mx a2 (-1099511627776)) 1099511627776)))-53)) (-1074))-(mn (mx a2 (-1099511627776)) 1099511627776)))-1)) then ((fround_even.f (shr .u64 (a1/2) (wrap64 ((wrap64 ((mx (wrap64 ((wrap64 (t274+(mn (mx a2 (-1099511627776)) 1099511627776)))-53)) (-1074))-(mn (mx a2 (-1099511627776)) 1099511627776)))-1))) (((shl .u64 a1 (wrap64 (64-(wrap64 ((mx (wrap64 ((wrap64 (t274+(mn (mx a2 (-1099511627776)) 1099511627776)))-53)) (-1074))-(mn (mx a2 (-1099511627776)) 1099511627776))))))/9223372036854775808)==1) ((IntKind.u64.wrap ((shl .u64 a1 (wrap64 (64-(wrap64 ((mx (wrap64 ((wrap64 (t274+(mn (mx a2 (-1099511627776)) 1099511627776)))-53)) (-1074))-(mn (mx a2 (-1099511627776)) 1099511627776))))))*2)) !=0)).bind fun t278=>((fround_made.f k a0 t278 (mx (wrap64 ((wrap64 (t274+(mn (mx a2 (-1099511627776)) 1099511627776)))-53)) (-1074))).bind fun t279=>(some t279))) else (none)) else (none))))))

/-! ### fcmp_Scale: function 53 -/
def fcmp_Scale.f (k:Nat) (a0:Int) (a1:Int):Option (Int):=(fbits_Parts.f k a0).bind fun bt1075=>(if bt1075.2.2.2=true then ((fround_Word.f k bt1075.1 bt1075.2.1 (wrap64 (bt1075.2.2.1+(mn (mx a1 (-5000)) 5000)))).bind fun t1079=>(some t1079)) else ((fbits_Clean.f a0).bind fun t1080=>(some t1080)))

/-! ### limb_digit: function 165 -/
mutual
def limb_digit.l0:Nat→Int→Int→Int→Int→Int→Int→Int→Option (Int × Int)
 | 0,_,_,_,_,_,_,_=>none
 | k+1,x0,x1,x2,x8,x9,x10,x11=>if x10>4294967295 then (limb_digit.j1 k x0 x1 x2 x8 x9 x10 x11 true) else (limb_digit.j1 k x0 x1 x2 x8 x9 x10 x11 (decide ((IntKind.u64.wrap (x10*x8))>(Go.bits .or .u64 (IntKind.u64.wrap (x11*4294967296)) x1))))
def limb_digit.j1:Nat→Int→Int→Int→Int→Int→Int→Int→Bool→Option (Int × Int)
 | 0,_,_,_,_,_,_,_,_=>none
 | k+1,x0,x1,x2,x8,x9,x10,x11,x33=>if x33=true then (if (IntKind.u64.wrap (x11+x9))>4294967295 then (some (IntKind.u64.wrap (x10-1),IntKind.u64.wrap ((IntKind.u64.wrap ((IntKind.u64.wrap (x0*4294967296))+x1))-(IntKind.u64.wrap ((IntKind.u64.wrap (x10-1))*x2))))) else (limb_digit.l0 k x0 x1 x2 x8 x9 (IntKind.u64.wrap (x10-1)) (IntKind.u64.wrap (x11+x9)))) else (some (x10,IntKind.u64.wrap ((IntKind.u64.wrap ((IntKind.u64.wrap (x0*4294967296))+x1))-(IntKind.u64.wrap (x10*x2)))))
end
def limb_digit.f (k:Nat) (a0:Int) (a1:Int) (a2:Int):Option (Int × Int):=if (a2/4294967296)=0 then (none) else (limb_digit.l0 k a0 a1 a2 (Go.bits .and .u64 a2 4294967295) (a2/4294967296) (IntKind.u64.wrap (Int.tdiv a0 (a2/4294967296))) (Int.tmod a0 (a2/4294967296)))

/-! ### limb_Div: function 122 -/
def limb_Div.f (k:Nat) (a0:Int) (a1:Int) (a2:Int):Option (Int × Int × Bool):=if a0≥a2 then (some (0,0,false)) else ((limb_Len.f k a2).bind fun t293=>(if 0≤(wrap64 (64-t293)) then (if 0≤(wrap64 (63-(wrap64 (64-t293)))) then ((limb_digit.f k (Go.bits .or .u64 (shl .u64 a0 (wrap64 (64-t293))) (shr .u64 (a1/2) (wrap64 (63-(wrap64 (64-t293)))))) ((shl .u64 a1 (wrap64 (64-t293)))/4294967296) (shl .u64 a2 (wrap64 (64-t293)))).bind fun bt294=>((limb_digit.f k bt294.2 (Go.bits .and .u64 (shl .u64 a1 (wrap64 (64-t293))) 4294967295) (shl .u64 a2 (wrap64 (64-t293)))).bind fun bt296=>(some (Go.bits .or .u64 (IntKind.u64.wrap (bt294.1*4294967296)) bt296.1,shr .u64 bt296.2 (wrap64 (64-t293)),true)))) else (none)) else (none)))

/-! ### fprod_signed: function 121 -/
def fprod_signed.f (k:Nat) (a0:Bool):Option (Int):=(fbits_Make.f k a0 0 0).bind fun bt1128=>(some bt1128.1)

/-! ### fprod_Div: function 68 -/
mutual
def fprod_Div.j0:Nat→Int→Int→Int→Int→Bool→Bool→Option (Int)
 | 0,_,_,_,_,_,_=>none
 | k+1,x0,x1,x5,x6,x7,x30=>if x30=true then ((fbits_Nan.f).bind fun t1134=>(some t1134)) else (if x5=3 then (fprod_Div.j1 k x0 x1 x5 x6 x7 true) else (fprod_Div.j1 k x0 x1 x5 x6 x7 (x6==0)))
def fprod_Div.j1:Nat→Int→Int→Int→Int→Bool→Bool→Option (Int)
 | 0,_,_,_,_,_,_=>none
 | k+1,x0,x1,x5,x6,x7,x51=>if x51=true then ((fbits_Inf.f x7).bind fun t1135=>(some t1135)) else (if x5=0 then ((fprod_signed.f k x7).bind fun t1136=>(some t1136)) else (if x6=3 then ((fprod_signed.f k x7).bind fun t1137=>(some t1137)) else ((fbits_Parts.f k x0).bind fun bt1138=>((fbits_Parts.f k x1).bind fun bt1142=>((limb_Len.f k bt1138.2.1).bind fun t1146=>((limb_Len.f k bt1142.2.1).bind fun t1147=>(if 0≤(wrap64 (63-t1146)) then (if 0≤(wrap64 (64-t1147)) then ((limb_Div.f k (shl .u64 bt1138.2.1 (wrap64 (63-t1146))) 0 (shl .u64 bt1142.2.1 (wrap64 (64-t1147)))).bind fun bt1148=>(if bt1148.2.1=0 then ((fround_Word.f k x7 bt1148.1 (wrap64 ((wrap64 ((wrap64 ((wrap64 (bt1138.2.2.1-(wrap64 (63-t1146))))-bt1142.2.2.1))+(wrap64 (64-t1147))))-64))).bind fun t1151=>(some t1151)) else ((fround_Word.f k x7 (Go.bits .or .u64 bt1148.1 1) (wrap64 ((wrap64 ((wrap64 ((wrap64 (bt1138.2.2.1-(wrap64 (63-t1146))))-bt1142.2.2.1))+(wrap64 (64-t1147))))-64))).bind fun t1152=>(some t1152)))) else (none)) else (none))))))))
end
def fprod_Div.f (k:Nat) (a0:Int) (a1:Int):Option (Int):=(fbits_Kind.f a0).bind fun t1130=>((fbits_Kind.f a1).bind fun t1131=>((fbits_Neg.f a0).bind fun t1132=>((fbits_Neg.f a1).bind fun t1133=>(if t1130=4 then (fprod_Div.j0 k a0 a1 t1130 t1131 (!(t1132==t1133)) true) else (if t1131=4 then (fprod_Div.j0 k a0 a1 t1130 t1131 (!(t1132==t1133)) true) else (if t1130=t1131 then (if t1130=3 then (fprod_Div.j0 k a0 a1 t1130 t1131 (!(t1132==t1133)) true) else (fprod_Div.j0 k a0 a1 t1130 t1131 (!(t1132==t1133)) (t1130==0))) else (fprod_Div.j0 k a0 a1 t1130 t1131 (!(t1132==t1133)) false)))))))

/-! ### limb_Mul: function 108 -/
def limb_Mul.f (a0:Int) (a1:Int):Option (Int × Int):=some (IntKind.u64.wrap ((IntKind.u64.wrap ((IntKind.u64.wrap ((a0/4294967296)*(a1/4294967296)))+((IntKind.u64.wrap ((IntKind.u64.wrap ((Go.bits .and .u64 a0 4294967295)*(a1/4294967296)))+((IntKind.u64.wrap ((Go.bits .and .u64 a0 4294967295)*(Go.bits .and .u64 a1 4294967295)))/4294967296)))/4294967296)))+((IntKind.u64.wrap ((IntKind.u64.wrap ((a0/4294967296)*(Go.bits .and .u64 a1 4294967295)))+(Go.bits .and .u64 (IntKind.u64.wrap ((IntKind.u64.wrap ((Go.bits .and .u64 a0 4294967295)*(a1/4294967296)))+((IntKind.u64.wrap ((Go.bits .and .u64 a0 4294967295)*(Go.bits .and .u64 a1 4294967295)))/4294967296))) 4294967295)))/4294967296)),Go.bits .or .u64 (IntKind.u64.wrap ((IntKind.u64.wrap ((IntKind.u64.wrap ((a0/4294967296)*(Go.bits .and .u64 a1 4294967295)))+(Go.bits .and .u64 (IntKind.u64.wrap ((IntKind.u64.wrap ((Go.bits .and .u64 a0 4294967295)*(a1/4294967296)))+((IntKind.u64.wrap ((Go.bits .and .u64 a0 4294967295)*(Go.bits .and .u64 a1 4294967295)))/4294967296))) 4294967295)))*4294967296)) (Go.bits .and .u64 (IntKind.u64.wrap ((Go.bits .and .u64 a0 4294967295)*(Go.bits .and .u64 a1 4294967295))) 4294967295))

/-! ### fprod_Mul: function 66 -/
mutual
def fprod_Mul.j0:Nat→Int→Int→Int→Int→Bool→Bool→Option (Int)
 | 0,_,_,_,_,_,_=>none
 | k+1,x0,x1,x5,x6,x7,x29=>if x29=true then ((fbits_Nan.f).bind fun t1111=>(some t1111)) else (if x5=3 then (fprod_Mul.j1 k x0 x1 x5 x6 x7 true) else (fprod_Mul.j1 k x0 x1 x5 x6 x7 (x6==3)))
def fprod_Mul.j1:Nat→Int→Int→Int→Int→Bool→Bool→Option (Int)
 | 0,_,_,_,_,_,_=>none
 | k+1,x0,x1,x5,x6,x7,x37=>if x37=true then (if x5=0 then (fprod_Mul.j2 k x7 true) else (fprod_Mul.j2 k x7 (x6==0))) else ((fbits_Parts.f k x0).bind fun bt1114=>((fbits_Parts.f k x1).bind fun bt1118=>((limb_Mul.f bt1114.2.1 bt1118.2.1).bind fun bt1122=>((limb_Len.f k bt1122.1).bind fun t1124=>(if t1124=0 then ((fround_Word.f k x7 bt1122.2 (wrap64 (bt1114.2.2.1+bt1118.2.2.1))).bind fun t1125=>(some t1125)) else (if 0≤(wrap64 (64-t1124)) then (if 0≤t1124 then (if (shl .u64 bt1122.2 (wrap64 (64-t1124)))=0 then ((fround_Word.f k x7 (Go.bits .or .u64 (shl .u64 bt1122.1 (wrap64 (64-t1124))) (shr .u64 bt1122.2 t1124)) (wrap64 ((wrap64 (bt1114.2.2.1+bt1118.2.2.1))+t1124))).bind fun t1126=>(some t1126)) else ((fround_Word.f k x7 (Go.bits .or .u64 (Go.bits .or .u64 (shl .u64 bt1122.1 (wrap64 (64-t1124))) (shr .u64 bt1122.2 t1124)) 1) (wrap64 ((wrap64 (bt1114.2.2.1+bt1118.2.2.1))+t1124))).bind fun t1127=>(some t1127))) else (none)) else (none)))))))
def fprod_Mul.j2:Nat→Bool→Bool→Option (Int)
 | 0,_,_=>none
 | k+1,x7,x49=>if x49=true then ((fbits_Nan.f).bind fun t1112=>(some t1112)) else ((fbits_Inf.f x7).bind fun t1113=>(some t1113))
end
def fprod_Mul.f (k:Nat) (a0:Int) (a1:Int):Option (Int):=(fbits_Kind.f a0).bind fun t1107=>((fbits_Kind.f a1).bind fun t1108=>((fbits_Neg.f a0).bind fun t1109=>((fbits_Neg.f a1).bind fun t1110=>(if t1107=4 then (fprod_Mul.j0 k a0 a1 t1107 t1108 (!(t1109==t1110)) true) else (fprod_Mul.j0 k a0 a1 t1107 t1108 (!(t1109==t1110)) (t1108==4))))))

/-! ### fround_FromInt: function 64 -/
def fround_FromInt.f (k:Nat) (a0:Int):Option (Int):=if a0<0 then ((fround_Word.f k true (IntKind.u64.wrap (-(IntKind.u64.wrap (a0)))) 0).bind fun t280=>(some t280)) else ((fround_Word.f k false (IntKind.u64.wrap (a0)) 0).bind fun t281=>(some t281))

/-! ### fsum_odd: function 146 -/
def fsum_odd.f (a0:Int) (a1:Int):Option (Int):=if a1>63 then (some (mn a0 1)) else (if 0≤a1 then (if (shl .u64 (shr .u64 a0 a1) a1)=a0 then (some (shr .u64 a0 a1)) else (some (Go.bits .or .u64 (shr .u64 a0 a1) 1))) else (none))

/-! ### fsum_finite: function 104 -/
def fsum_finite.j0 (k:Nat) (x1082000:Bool) (x1082001:Int) (x1082002:Int) (x1083000:Bool) (x1083001:Int) (x1083002:Int):Option (Int):=if 0≤(mn (wrap64 (x1082002-x1083002)) 10) then ((fsum_odd.f x1083001 (wrap64 ((wrap64 (x1082002-(mn (wrap64 (x1082002-x1083002)) 10)))-x1083002))).bind fun t1083=>(if (x1082000==x1083000)=true then ((fround_Word.f k x1082000 (IntKind.u64.wrap ((IntKind.u64.wrap (x1082001*2^(mn (wrap64 (x1082002-x1083002)) 10).toNat))+t1083)) (wrap64 (x1082002-(mn (wrap64 (x1082002-x1083002)) 10)))).bind fun t1084=>(some t1084)) else (if (IntKind.u64.wrap (x1082001*2^(mn (wrap64 (x1082002-x1083002)) 10).toNat))>t1083 then ((fround_Word.f k x1082000 (IntKind.u64.wrap ((IntKind.u64.wrap (x1082001*2^(mn (wrap64 (x1082002-x1083002)) 10).toNat))-t1083)) (wrap64 (x1082002-(mn (wrap64 (x1082002-x1083002)) 10)))).bind fun t1085=>(some t1085)) else (if (IntKind.u64.wrap (x1082001*2^(mn (wrap64 (x1082002-x1083002)) 10).toNat))<t1083 then ((fround_Word.f k x1083000 (IntKind.u64.wrap (t1083-(IntKind.u64.wrap (x1082001*2^(mn (wrap64 (x1082002-x1083002)) 10).toNat)))) (wrap64 (x1082002-(mn (wrap64 (x1082002-x1083002)) 10)))).bind fun t1086=>(some t1086)) else (some 0))))) else (none)
def fsum_finite.f (k:Nat) (a0_0:Bool) (a0_1:Int) (a0_2:Int) (a1_0:Bool) (a1_1:Int) (a1_2:Int):Option (Int):=if a0_2<a1_2 then (fsum_finite.j0 k a1_0 a1_1 a1_2 a0_0 a0_1 a0_2) else (fsum_finite.j0 k a0_0 a0_1 a0_2 a1_0 a1_1 a1_2)

/-! ### fsum_of: function 105 -/
def fsum_of.f (k:Nat) (a0:Int):Option (Bool × Int × Int):=(fbits_Parts.f k a0).bind fun bt1088=>(some (bt1088.1,bt1088.2.1,bt1088.2.2.1))

/-! ### fsum_Add: function 55 -/
mutual
def fsum_Add.j0:Nat→Int→Int→Int→Int→Bool→Option (Int)
 | 0,_,_,_,_,_=>none
 | k+1,x0,x1,x5,x6,x11=>if x11=true then ((fbits_Nan.f).bind fun t1094=>(some t1094)) else (if x5=3 then (if x6=3 then (fsum_Add.j1 k x0 x1 x5 x6 (x0 !=x1)) else (fsum_Add.j1 k x0 x1 x5 x6 false)) else (fsum_Add.j1 k x0 x1 x5 x6 false))
def fsum_Add.j1:Nat→Int→Int→Int→Int→Bool→Option (Int)
 | 0,_,_,_,_,_=>none
 | k+1,x0,x1,x5,x6,x19=>if x19=true then ((fbits_Nan.f).bind fun t1095=>(some t1095)) else (if x5=3 then (some x0) else (if x6=3 then (some x1) else ((fsum_of.f k x0).bind fun bt1096=>((fsum_of.f k x1).bind fun bt1099=>((fsum_finite.f k bt1096.1 bt1096.2.1 bt1096.2.2 bt1099.1 bt1099.2.1 bt1099.2.2).bind fun t1102=>(some t1102))))))
end
def fsum_Add.f (k:Nat) (a0:Int) (a1:Int):Option (Int):=(fbits_Kind.f a0).bind fun t1092=>((fbits_Kind.f a1).bind fun t1093=>(if t1092=4 then (fsum_Add.j0 k a0 a1 t1092 t1093 true) else (fsum_Add.j0 k a0 a1 t1092 t1093 (t1093==4))))

/-! ### fsum_Sub: function 57 -/
def fsum_Sub.f (k:Nat) (a0:Int) (a1:Int):Option (Int):=(fbits_Flip.f a1).bind fun t1105=>((fsum_Add.f k a0 t1105).bind fun t1106=>(some t1106))

/-! ### kernel_part: function 126 -/
def kernel_part.f (k:Nat) (a0:Int):Option (Int):=(fround_FromInt.f k a0).bind fun t1153=>((fprod_Div.f k 4607182418800017408 t1153).bind fun t1154=>(some t1154))

/-! ### kernel_Exp: function by hand -/
def kernel_Exp.l1:Nat→Int→Int→List Int→Int→Int→Option (Int)
 | 0,_,_,_,_,_=>none
 | k+1,e,r,fs,p,i=>if i≥0 then ((fprod_Mul.f k p r).bind fun t=>(if 0≤i then (if i<14 then (if i<(fs.length:Int) then ((kernel_part.f k (rd fs i)).bind fun u=>((fsum_Add.f k t u).bind fun v=>(kernel_Exp.l1 k e r fs v (wrap64 (i-1))))) else none) else none) else none)) else ((fcmp_Scale.f k p e).bind fun s=>(some s))
def kernel_Exp.l0:Nat→Int→Int→List Int→Int→Option (Int)
 | 0,_,_,_,_=>none
 | k+1,e,r,fs,i=>if i<13 then (if 0≤(wrap64 (i+1)) then (if (wrap64 (i+1))<14 then (if (wrap64 (i+1))<(fs.length:Int) then (if 0≤i then (if i<14 then (if i<(fs.length:Int) then (kernel_Exp.l0 k e r (fs.set ((wrap64 (i+1)):Int).toNat (wrap64 ((rd fs i)*(wrap64 (i+1))))) (wrap64 (i+1))) else none) else none) else none) else none) else none) else none) else (if (13:Int)<(fs.length:Int) then ((kernel_part.f k (rd fs 13)).bind fun p=>(kernel_Exp.l1 k e r fs p 12)) else none)
def kernel_Exp.f (k:Nat) (a0:Int):Option (Int):=(fbits_Kind.f a0).bind fun t0=>(if t0=4 then ((fbits_Nan.f).bind fun t=>(some t)) else ((fcmp_Less.f 4649456441864749056 a0).bind fun t1=>(if t1=true then ((fbits_Inf.f false).bind fun t=>(some t)) else ((fcmp_Less.f a0 13873145138068324352).bind fun t2=>(if t2=true then (some 0) else ((fprod_Mul.f k a0 4609176140021203710).bind fun t3=>((fcmp_Near.f k t3).bind fun bt4=>((fround_FromInt.f k bt4.1).bind fun t5=>((fprod_Mul.f k t5 4604418534311723008).bind fun t6=>((fsum_Sub.f k a0 t6).bind fun t7=>((fprod_Mul.f k t5 4461442080421002358).bind fun t8=>((fsum_Sub.f k t7 t8).bind fun t9=>(kernel_Exp.l0 k bt4.1 t9 [1,0,0,0,0,0,0,0,0,0,0,0,0,0] 0)))))))))))))

/-! ### kernel_split: function 129 -/
def kernel_split.f (k:Nat) (a0:Int):Option (Int × Int):=(fbits_Parts.f k a0).bind fun bt1321=>((limb_Len.f k bt1321.2.1).bind fun t1325=>((fbits_Make.f k false bt1321.2.1 (wrap64 (1-t1325))).bind fun bt1326=>((fcmp_Less.f 4609047870845172685 bt1326.1).bind fun t1328=>(if t1328=true then ((fbits_Make.f k false bt1321.2.1 (wrap64 (-t1325))).bind fun bt1329=>(some (bt1329.1,wrap64 (bt1321.2.2.1+t1325)))) else (some (bt1326.1,wrap64 ((wrap64 (bt1321.2.2.1+t1325))-1)))))))

/-! ### kernel_Log: function 75 -/
mutual
def kernel_Log.j0:Nat→Int→Int→Bool→Option (Int)
 | 0,_,_,_=>none
 | k+1,x0,x3,x20=>if x20=true then ((fbits_Nan.f).bind fun t1334=>(some t1334)) else (if x3=3 then (some x0) else ((kernel_split.f k x0).bind fun bt1335=>((fsum_Sub.f k bt1335.1 4607182418800017408).bind fun t1337=>((fsum_Add.f k 4611686018427387904 t1337).bind fun t1338=>((fprod_Div.f k t1337 t1338).bind fun t1339=>((fprod_Mul.f k t1339 t1339).bind fun t1340=>((kernel_part.f k 21).bind fun t1341=>(kernel_Log.l0 k bt1335.2 t1339 t1340 t1341 9))))))))
def kernel_Log.l0:Nat→Int→Int→Int→Int→Int→Option (Int)
 | 0,_,_,_,_,_=>none
 | k+1,x5,x7,x8,x9,x10=>if x10>0 then ((fprod_Mul.f k x9 x8).bind fun t1342=>((kernel_part.f k (wrap64 ((wrap64 (2*x10))+1))).bind fun t1343=>((fsum_Add.f k t1342 t1343).bind fun t1344=>(kernel_Log.l0 k x5 x7 x8 t1344 (wrap64 (x10-1)))))) else ((fsum_Add.f k x7 x7).bind fun t1345=>((fprod_Mul.f k x9 x8).bind fun t1346=>((fprod_Mul.f k t1345 t1346).bind fun t1347=>((fsum_Add.f k t1345 t1347).bind fun t1348=>(if x5=0 then (some t1348) else ((fround_FromInt.f k x5).bind fun t1349=>((fprod_Mul.f k t1349 4604418534311723008).bind fun t1350=>((fprod_Mul.f k t1349 4461442080421002358).bind fun t1351=>((fsum_Add.f k t1348 t1351).bind fun t1352=>((fsum_Add.f k t1350 t1352).bind fun t1353=>(some t1353)))))))))))
end
def kernel_Log.f (k:Nat) (a0:Int):Option (Int):=(fbits_Kind.f a0).bind fun t1331=>(if t1331=0 then ((fbits_Inf.f true).bind fun t1332=>(some t1332)) else (if t1331=4 then (kernel_Log.j0 k a0 t1331 true) else ((fbits_Neg.f a0).bind fun t1333=>(kernel_Log.j0 k a0 t1331 t1333))))

/-! ### gr09_Field: function 88 -/
def gr09_Field.f (a0:Int):Option (Int):=some (wrap64 (Go.bits .and .u64 (a0/4503599627370496) 2047))

/-! ### gr09_Rest: function 96 -/
def gr09_Rest.f (a0:Int):Option (Int):=some (Go.bits .and .u64 a0 4503599627370495)

/-! ### gr09_Kind: function 40 -/
def gr09_Kind.f (a0:Int):Option (Int):=(gr09_Field.f a0).bind fun t698=>(if t698=2047 then ((gr09_Rest.f a0).bind fun t699=>(if t699=0 then (some 3) else (some 4))) else ((gr09_Field.f a0).bind fun t700=>(if t700>0 then (some 2) else ((gr09_Rest.f a0).bind fun t701=>(if t701>0 then (some 1) else (some 0))))))

/-! ### gr09_Neg: function 27 -/
def gr09_Neg.f (a0:Int):Option (Bool):=some ((a0/9223372036854775808)==1)

/-! ### gr13_Less: function 78 -/
mutual
def gr13_Less.j0:Nat→Int→Int→Bool→Option (Bool)
 | 0,_,_,_=>none
 | k+1,x0,x1,x14=>if x14=true then (some false) else ((gr09_Neg.f x0).bind fun t1277=>((gr09_Neg.f x1).bind fun t1278=>(if t1277=true then (gr13_Less.j1 k x0 x1 t1277 t1278 t1278) else (gr13_Less.j1 k x0 x1 t1277 t1278 false))))
def gr13_Less.j1:Nat→Int→Int→Bool→Bool→Bool→Option (Bool)
 | 0,_,_,_,_,_=>none
 | k+1,x0,x1,x5,x6,x22=>if x22=true then (some (decide (x1<x0))) else (if x5=true then (if x0=9223372036854775808 then (some (x1 !=0)) else (some true)) else (if x6=true then (some false) else (some (decide (x0<x1)))))
end
def gr13_Less.f (k:Nat) (a0:Int) (a1:Int):Option (Bool):=(gr09_Kind.f a0).bind fun t1275=>(if t1275=4 then (gr13_Less.j0 k a0 a1 true) else ((gr09_Kind.f a1).bind fun t1276=>(gr13_Less.j0 k a0 a1 (t1276==4))))

end Go.Proofs.Ytjocbnjpjihpnaa.P
