/- What the functions answer, over plain numbers. -/
import Derived.Test.YtjocbnjpjihpnaaGreatCCa
import Derived.Test.YtjocbnjpjihpnaaGreatBB
import Derived.Test.YtjocbnjpjihpnaaGreatFgradinelaw15Many
import Derived.Test.YtjocbnjpjihpnaaGreatFgradinelaw16Few
import Derived.Test.YtjocbnjpjihpnaaGreatFgradinelaw16same
import Derived.Test.YtjocbnjpjihpnaaGreatRT
namespace Go.Proofs.YtjocbnjpjihpnaaGreat.M
open Go.RowKit Go.Proofs.YtjocbnjpjihpnaaGreat.P Go.Proofs.YtjocbnjpjihpnaaGreatW.PrintWords Go.Proofs.YtjocbnjpjihpnaaGreatW.PrintLast Go.Proofs.YtjocbnjpjihpnaaGreatW.PrintMore Go.Proofs.YtjocbnjpjihpnaaGreatW.Abs
set_option linter.unusedVariables false

theorem cell_neg {a b G:Int} (hG:0<G) (hq:a/G=b/G) (hz:a%G=0↔b%G=0):(-a)/G=(-b)/G∧((-a)%G=0↔(-b)%G=0):=by
 have key : ∀ x:Int,(x%G=0→(-x)/G= -(x/G)∧(-x)%G=0)∧(x%G≠0→(-x)/G= -(x/G)-1∧(-x)%G=G-x%G):=by
  intro x
  have h1:=Int.mul_ediv_add_emod x G
  have h2:=Int.emod_nonneg x (show G≠0 by omega)
  have h3:=Int.emod_lt_of_pos x hG
  constructor
  · intro h
    exact (Int.ediv_emod_unique hG).2 ⟨by rw [Int.mul_neg];omega,by omega,by omega⟩
  · intro h
    exact (Int.ediv_emod_unique hG).2 ⟨by rw [Int.mul_sub,Int.mul_neg,Int.mul_one];omega,by omega,by omega⟩
 have ka:=key a
 have kb:=key b
 have b3:=Int.emod_lt_of_pos b hG
 have a3:=Int.emod_lt_of_pos a hG
 by_cases h:a%G=0
 · have h':=hz.1 h
   exact ⟨by rw [(ka.1 h).1,(kb.1 h').1,hq],by simp [(ka.1 h).2,(kb.1 h').2]⟩
 · have h':=fun k=>h (hz.2 k)
   refine ⟨by rw [(ka.2 h).1,(kb.2 h').1,hq], ?_⟩
   rw [(ka.2 h).2,(kb.2 h').2]
   omega
theorem cell_add {a b G:Int} (K:Int) (hq:a/G=b/G) (hz:a%G=0↔b%G=0) (hG:0<G):(G*K+a)/G=(G*K+b)/G∧((G*K+a)%G=0↔(G*K+b)%G=0):=by
 rw [Int.add_comm (G*K),Int.add_comm (G*K),Int.add_mul_ediv_left _ _ (by omega),Int.add_mul_ediv_left _ _ (by omega),Int.add_mul_emod_self_left,Int.add_mul_emod_self_left]
 exact ⟨by rw [hq],hz⟩
theorem st_le {n:Int} (h0:0≤n) (s:Nat):st n s≤n/2^s+1:=by
 unfold st
 split<;>omega
theorem sum_st {m e n f:Int} (hm0:0≤m) (hm:m<9007199254740992) (hn0:0≤n) (hn:n<9007199254740992) (hef:f≤e) (hf : -1074≤f) (hw:e= -1074∨4503599627370496≤m) {up s:Nat} (hup:(up:Int)=min (e-f) 10) (hs:e-up-f=s) :
 Rd (m*2^up+st n s) (e-up)=Rd (m*2^(e-f).toNat+n) f ∧
 (m*2^up>st n s↔m*2^(e-f).toNat>n)∧(m*2^up<st n s↔m*2^(e-f).toNat<n) ∧
 (m*2^up>st n s→Rd (m*2^up-st n s) (e-up)=Rd (m*2^(e-f).toNat-n) f) ∧
 (m*2^up<st n s→Rd (st n s-m*2^up) (e-up)=Rd (n-m*2^(e-f).toNat) f):=by
 rcases (show s=0∨0<s by omega) with rfl | hs0
 · rw [st_zero,show (e-f).toNat=up by omega,show e-(up:Int)=f by omega]
   exact ⟨rfl,Iff.rfl,Iff.rfl,fun _=>rfl,fun _=>rfl⟩
 · obtain rfl:up=10:=by omega
   have hm2:4503599627370496≤m:=by omega
   have hG:(0:Int)<2^s:=pow_pos s
   have hG2:(0:Int)<2^(s+1):=pow_pos _
   have hge:(2:Int)≤2^s:=by
    have:=pow_le_pow (a:=1) (b:=s) (by omega)
    omega
   have eX:m*2^(e-f).toNat=2^(s+1)*(m*512):=by
    rw [show (e-f).toNat=s+1+9 by omega,Int.pow_add]
    generalize (2:Int)^(s+1)=G
    rw [show (2:Int)^9=512 from rfl]
    grind
   have hY:=st_le hn0 s
   have hY0:=st_nonneg hn0 s
   have hYn:n/2^s≤n:=Int.ediv_le_self _ hn0
   have hc:=st_cell n s
   have hcn:=cell_neg hG2 hc.1 hc.2
   have ca:=cell_add (m*512) hc.1 hc.2 hG2
   have cn:=cell_add (m*512) hcn.1 hcn.2 hG2
   have hX:4503599627370496*512*2^(s+1)≤2^(s+1)*(m*512):=by
    rw [Int.mul_comm]
    exact Int.mul_le_mul_of_nonneg_left (by omega) (by omega)
   have ee:e-((10:Nat):Int)=f+s:=by omega
   have e10:m*2^10=m*1024:=rfl
   rw [ee,eX,e10]
   have p1:(2:Int)^(s+1)=2^s*2:=Int.pow_succ ..
   have s1:(m*1024+st n s)*2^s=2^(s+1)*(m*512)+st n s*2^s:=by rw [p1];grind
   have s2:(m*1024-st n s)*2^s=2^(s+1)*(m*512)+ -(st n s*2^s):=by rw [p1];grind
   have u1 : ∀ M:Int,4503599627370496*511*2^(s+1)≤M→f+((s+1:Nat):Int)+1≤un M f:=by
    intro M h
    have:(2:Int)^(60+(s+1))≤M:=by
     rw [Int.pow_add]
     have:(2:Int)^60*2^(s+1)≤4503599627370496*511*2^(s+1):=Int.mul_le_mul_of_nonneg_right (by decide) (by omega)
     omega
    have:=bl_ge' this
    unfold un
    omega
   have hbig:(4503599627370496:Int)*2≤4503599627370496*2^(s+1):=by omega
   have gt1:m*1024>st n s:=by omega
   have gt2:2^(s+1)*(m*512)>n:=by omega
   refine ⟨?_,by omega,by omega,fun _=> ?_,fun h=>by omega⟩
   · rw [← Rd_scale (show 0<m*1024+st n s by omega) (f+s) s,show f+(s:Int)-s=f by omega,s1]
     exact (Rd_cell (g:=s+1) (by omega) (by have:=Int.mul_nonneg hY0 (Int.le_of_lt hG);omega) ca.1.symm ca.2.symm (u1 _ (by omega))).symm
   · rw [← Rd_scale (show 0<m*1024-st n s by omega) (f+s) s,show f+(s:Int)-s=f by omega,s2,show 2^(s+1)*(m*512)-n=2^(s+1)*(m*512)+ -n by omega]
     have pos:0<2^(s+1)*(m*512)+ -(st n s*2^s):=by rw [← s2];exact Int.mul_pos (by omega) hG
     exact (Rd_cell (g:=s+1) (by omega) pos cn.1.symm cn.2.symm (u1 _ (by omega))).symm
def fsF (a b:Int):Int :=
 if fs a=fs b then sgn (fs a) (Rd (pm a*2^(pe a-min (pe a) (pe b)).toNat+pm b*2^(pe b-min (pe a) (pe b)).toNat) (min (pe a) (pe b)))
 else if pm a*2^(pe a-min (pe a) (pe b)).toNat=pm b*2^(pe b-min (pe a) (pe b)).toNat then 0
 else if pm a*2^(pe a-min (pe a) (pe b)).toNat>pm b*2^(pe b-min (pe a) (pe b)).toNat then sgn (fs a) (Rd (pm a*2^(pe a-min (pe a) (pe b)).toNat-pm b*2^(pe b-min (pe a) (pe b)).toNat) (min (pe a) (pe b)))
 else sgn (fs b) (Rd (pm b*2^(pe b-min (pe a) (pe b)).toNat-pm a*2^(pe a-min (pe a) (pe b)).toNat) (min (pe a) (pe b)))
theorem fsF_comm (a b:Int):fsF a b=fsF b a:=by
 unfold fsF
 rw [show min (pe b) (pe a)=min (pe a) (pe b) by omega]
 generalize pm a*2^(pe a-min (pe a) (pe b)).toNat=X
 generalize pm b*2^(pe b-min (pe a) (pe b)).toNat=Y
 by_cases h:fs a=fs b
 · rw [if_pos h,if_pos h.symm,h,Int.add_comm]
 · have h' : ¬ fs b=fs a:=fun k=>h k.symm
   rw [if_neg h,if_neg h']
   rcases Int.lt_trichotomy X Y with h1 | h1 | h1
   · rw [if_neg (show ¬ X=Y by omega),if_neg (show ¬ X>Y by omega),if_neg (show ¬ Y=X by omega),if_pos (show Y>X from h1)]
   · rw [if_pos h1,if_pos h1.symm]
   · rw [if_neg (show ¬ X=Y by omega),if_pos (show X>Y from h1),if_neg (show ¬ Y=X by omega),if_neg (show ¬ Y>X by omega)]
def fadd (a b:Int):Int:=if fk a=4∨fk b=4 then NAN else if fk a=3∧fk b=3∧a≠b then NAN else if fk a=3 then a else if fk b=3 then b else fsF a b
def fl (b:Int):Int:=if fk b=4 then NAN else (b+9223372036854775808)%18446744073709551616
def cl (b:Int):Int:=if fk b=4 then NAN else b
theorem fl_U (b:Int):U (fl b):=by unfold fl NAN U;split<;>omega
theorem sgn_parts {x:Int} (h0:0≤x) (h1:x<9223372036854775808) (neg:Bool):U (sgn neg x)∧fs (sgn neg x)=neg∧fx (sgn neg x)=x/4503599627370496∧fr (sgn neg x)=x%4503599627370496:=by
 unfold sgn U fs fx fr
 cases neg
 · simp only [Bool.false_eq_true,if_false]
   exact ⟨by omega,decide_eq_false (by omega),by omega,by first | trivial | omega⟩
 · simp only [if_true]
   exact ⟨by omega,decide_eq_true (by omega),by omega,by omega⟩
theorem fsF_U (a b:Int):U (fsF a b):=by
 have key : ∀ (n:Bool) (m e:Int),U (sgn n (Rd m e)):=fun n m e=>(sgn_parts (Rd_range m e).1 (by have:=(Rd_range m e).2;unfold INF at this;omega) n).1
 unfold fsF
 split
 · exact key ..
 · split
   · unfold U;omega
   · split
     · exact key ..
     · exact key ..
theorem fadd_U {a b:Int} (ha:U a) (hb:U b):U (fadd a b):=by
 have:U NAN:=by unfold U NAN;omega
 unfold fadd
 split
 · exact this
 · split
   · exact this
   · split
     · exact ha
     · split
       · exact hb
       · exact fsF_U a b
def fsub (a b:Int):Int:=fadd a (fl b)

def fmul (a b:Int):Int:=if fk a=4∨fk b=4∨(fk a=3∧fk b=0)∨(fk a=0∧fk b=3) then NAN else if fk a=3∨fk b=3 then sgn (fs a !=fs b) INF else sgn (fs a !=fs b) (Rd (pm a*pm b) (pe a+pe b))
theorem sgnRd_U (n:Bool) (m e:Int):U (sgn n (Rd m e)):=(sgn_parts (Rd_range m e).1 (by have:=(Rd_range m e).2;unfold INF at this;omega) n).1
theorem sgnINF_U (n:Bool):U (sgn n INF):=(sgn_parts (x:=INF) (by decide) (by decide) n).1
theorem NAN_U:U NAN:=by unfold U NAN;omega
theorem fmul_U (a b:Int):U (fmul a b):=by
 unfold fmul
 split
 · exact NAN_U
 · split
   · exact sgnINF_U _
   · exact sgnRd_U ..
def qd (m e n f:Int):Int :=
 if m*2^(63-bl m).toNat*18446744073709551616%(n*2^(64-bl n).toNat)=0 then Rd (m*2^(63-bl m).toNat*18446744073709551616/(n*2^(64-bl n).toNat)) (e-f+bl m-bl n-63)
 else Rd (2*(m*2^(63-bl m).toNat*18446744073709551616/(n*2^(64-bl n).toNat))+1) (e-f+bl m-bl n-64)
theorem qd_range (m e n f:Int):0≤qd m e n f∧qd m e n f≤INF:=by unfold qd;split<;>exact Rd_range ..
def fdiv (a b:Int):Int:=if fk a=4∨fk b=4∨(fk a=3∧fk b=3)∨(fk a=0∧fk b=0) then NAN else if fk a=3∨fk b=0 then sgn (fs a !=fs b) INF else if fk a=0∨fk b=3 then sgn (fs a !=fs b) 0 else sgn (fs a !=fs b) (qd (pm a) (pe a) (pm b) (pe b))
theorem fdiv_U (a b:Int):U (fdiv a b):=by
 unfold fdiv
 split
 · exact NAN_U
 · split
   · exact sgnINF_U _
   · split
     · exact (sgn_parts (x:=0) (by decide) (by decide) _).1
     · exact (sgn_parts (qd_range ..).1 (by have:=(qd_range (pm a) (pe a) (pm b) (pe b)).2;unfold INF at this;omega) _).1
theorem qd_code {q E:Int} (h:4611686018427387904≤q):Rd (q/2*2+1) E=Rd (2*q+1) (E-1):=by
 rw [← Rd_scale (show 0<q/2*2+1 by omega) E 1,Int.pow_one,show E-((1:Nat):Int)=E-1 from rfl]
 refine Rd_cell (g:=2) (by omega) (by omega) (by omega) (by omega) ?_
 have:=bl_ge' (x:=(q/2*2+1)*2) (n:=55) (by omega)
 unfold un
 omega
theorem and_top {x:Int} (h:U x):Go.bits .and .u64 x 9223372036854775808=x/9223372036854775808*9223372036854775808:=by
 obtain ⟨h0,h1⟩:=h
 obtain ⟨a,rfl⟩:=Int.eq_ofNat_of_zero_le h0
 have e:=and_nat a (2^63) (by omega) (by decide)
 rw [show (9223372036854775808:Int)=((2^63:Nat):Int) from rfl,e]
 rcases Nat.lt_or_ge a (2^63) with h2 | h2
 · have:a &&& 2^63=0:=by
    refine Nat.eq_of_testBit_eq fun i=> ?_
    rw [Nat.testBit_and,Nat.testBit_two_pow,Nat.zero_testBit]
    by_cases hi:63=i
    · subst hi
      rw [Nat.testBit_lt_two_pow h2]
      simp
    · simp [hi]
   rw [this]
   omega
 · obtain ⟨b,rfl⟩ : ∃ b,a=b+2^63:=⟨a-2^63,by omega⟩
   have e2:=Nat.two_pow_add_eq_or_of_lt (show b<2^63 by omega) 1
   rw [Nat.mul_one] at e2
   have:(b+2^63) &&& 2^63=2^63:=by
    rw [Nat.add_comm,e2]
    refine Nat.eq_of_testBit_eq fun i=> ?_
    rw [Nat.testBit_and,Nat.testBit_or,Nat.testBit_two_pow]
    by_cases hi:63=i<;>simp [hi]
   rw [this]
   omega
theorem or_top {x:Int} (h0:0≤x) (h1:x<9223372036854775808):Go.bits .or .u64 x 9223372036854775808=x+9223372036854775808:=by
 rw [or_comm _ _ h0 (by omega) (by omega) (by omega),or_join 63 _ _ (by omega) (by omega) (by omega) h0 (by omega) (by omega)]
 omega
theorem xor_low (a:Nat) (h:a<2^63):a ^^^ 2^63=a+2^63:=by
 have e:=Nat.two_pow_add_eq_or_of_lt h 1
 rw [Nat.mul_one] at e
 rw [Nat.add_comm,e]
 refine Nat.eq_of_testBit_eq fun i=> ?_
 rw [Nat.testBit_xor,Nat.testBit_or,Nat.testBit_two_pow]
 by_cases hi:63=i
 · subst hi
   rw [Nat.testBit_lt_two_pow h]
   simp
 · simp [hi]
theorem xor_top {x:Int} (h:U x):Go.bits .xor .u64 x 9223372036854775808=(x+9223372036854775808)%18446744073709551616:=by
 obtain ⟨h0,h1⟩:=h
 obtain ⟨a,rfl⟩:=Int.eq_ofNat_of_zero_le h0
 have ha:a<2^64:=by omega
 have e1:Go.bits .xor .u64 (a:Int) 9223372036854775808=IntKind.u64.wrap ((a ^^^ 2^63:Nat):Int):=by
  rw [show (9223372036854775808:Int)=((2^63:Nat):Int) from rfl]
  simp only [Go.bits,BitVec.ofInt_natCast,BitVec.toNat_xor,BitVec.toNat_ofNat]
  rw [show IntKind.bits .u64=64 from rfl,Nat.mod_eq_of_lt ha,Nat.mod_eq_of_lt (show 2^63<2^64 by decide)]
 rw [e1,wu]
 rcases Nat.lt_or_ge a (2^63) with h2 | h2
 · rw [xor_low a h2]
   omega
 · obtain ⟨b,rfl⟩ : ∃ b,a=b+2^63:=⟨a-2^63,by omega⟩
   rw [← xor_low b (by omega),Nat.xor_assoc,Nat.xor_self,Nat.xor_zero,xor_low b (by omega)]
   omega
theorem fbits_exponent_c {b:Int} (h:U b):fbits_exponent.f b=some (fx b):=by
 unfold U at h
 unfold fbits_exponent.f fx
 rw [and11 _ (by omega) (by omega),w64_id (by omega) (by omega)]
theorem fbits_Kind_c {b:Int} (h:U b):fbits_Kind.f b=some (fk b):=by
 unfold fbits_Kind.f
 rw [fbits_exponent_c h,and52 b h.1 h.2]
 show (if fx b=2047 then (if fr b=0 then some 3 else some 4) else if fx b=0 then (if fr b=0 then some 0 else some 1) else some 2)=some (fk b)
 unfold fk
 split
 · split<;>rfl
 · split
   · split<;>rfl
   · rfl
theorem fbits_Neg_c {b:Int} (h:U b):fbits_Neg.f b=some (fs b):=by
 unfold fbits_Neg.f
 rw [and_top h]
 unfold U at h
 unfold fs
 congr 1
 by_cases hb:b≥9223372036854775808
 · rw [decide_eq_true hb,bne_iff_ne];omega
 · rw [decide_eq_false hb,bne_eq_false_iff_eq];omega
theorem fbits_Parts_c {b:Int} (h:U b):Ev (fun k=>fbits_Parts.f k b) (if fx b=2047 then (false,0,0,false) else (fs b,pm b,pe b,true)):=by
 have hx:= @fx_range b
 have hr:= @fr_range b
 have hk:=fk_eq b
 have e52:Go.bits .and .u64 b 4503599627370495=fr b:=and52 b h.1 h.2
 refine Ev.bindc (fbits_Kind_c h) ?_
 rw [e52]
 have key : ∀ t:Bool,(t=true↔fx b=2047)→Ev (fun k=>fbits_Parts.j0 k b (fr b) (fk b) t) (if fx b=2047 then (false,0,0,false) else (fs b,pm b,pe b,true)):=by
  intro t ht
  refine Ev.eqv (fun k=>fbits_Parts.j0.eq_1 ..) ?_
  by_cases hc:fx b=2047
  · rw [if_pos hc]
    exact Ev.ifp (ht.2 hc) (Ev.same rfl)
  · rw [if_neg hc]
    refine Ev.ifn (fun k=>hc (ht.1 k)) ?_
    have hk2:fk b=2↔fx b≠0:=by
     unfold fk
     rw [if_neg hc]
     by_cases h0:fx b=0
     · rw [if_pos h0]
       split<;>omega
     · rw [if_neg h0];omega
    unfold pm pe
    by_cases h0:fx b=0
    · rw [if_pos h0,if_pos h0]
      exact Ev.ifn (by omega) (Ev.bindc (fbits_Neg_c h) (Ev.same rfl))
    · rw [if_neg h0,if_neg h0]
      refine Ev.ifp (by omega) (Ev.bindc (fbits_Neg_c h) (Ev.bindc (fbits_exponent_c h) (Ev.same ?_)))
      rw [w64_id (by omega) (by omega),or_comm _ _ (by omega) (by omega) (by omega) (by omega),or_join 52 _ _ (by omega) (by omega) (by omega) (by omega) (by omega) (by omega),Int.add_comm]
 by_cases h3:fk b=3
 · exact Ev.ifp h3 (key _ (by rw [h3];simp;omega))
 · refine Ev.ifn h3 (key _ ?_)
   rw [beq_iff_eq]
   omega
theorem fbits_signed_c {x:Int} (neg:Bool) (h0:0≤x) (h1:x<9223372036854775808):fbits_signed.f neg x=some (sgn neg x):=by
 unfold fbits_signed.f sgn
 rw [or_top h0 h1]
 cases neg<;>rfl
theorem fbits_Inf_c (neg:Bool):fbits_Inf.f neg=some (sgn neg INF):=by
 unfold fbits_Inf.f
 rw [fbits_signed_c neg (by decide) (by decide)]
 rfl
theorem fbits_Nan_c:fbits_Nan.f=some NAN:=rfl
theorem fbits_Clean_c {b:Int} (h:U b):fbits_Clean.f b=some (cl b):=by
 unfold fbits_Clean.f cl
 rw [fbits_Kind_c h]
 show (if fk b=4 then _ else _)=_
 split<;>rfl
theorem fbits_Flip_c {b:Int} (h:U b):fbits_Flip.f b=some (fl b):=by
 unfold fbits_Flip.f fl
 rw [fbits_Kind_c h,xor_top h]
 show (if fk b=4 then _ else _)=_
 split<;>rfl

theorem far_no {m u e:Int} (h0:0<m) (h1:m<18446744073709551616) (h:64≤u-e):m*2^(e-u).toNat%2^(u-e).toNat≠0:=by
 have:=pow_le_pow (a:=64) (b:=(u-e).toNat) (by omega)
 rw [show (e-u).toNat=0 by omega,Int.pow_zero,Int.mul_one,Int.emod_eq_of_lt (by omega) (by omega)]
 omega
theorem un_text {m e:Int} (hm:U m) (he : -5000≤e) (he':e≤5000):mx (wrap64 ((wrap64 (e+bl m))-53)) (-1074)=un m e:=by
 have h1:=bl_64 hm.2
 have h2:=bl_nonneg m
 rw [w64_id (n:=e+bl m) (by omega) (by omega),w64_id (by omega) (by omega)]
 unfold mx un
 generalize bl m=n at *
 split<;>omega
theorem fbits_Make_j2 {w u:Int} (neg:Bool) (h0:0≤w) (h1:w<9007199254740992) (hu0 : -1074≤u) (hu1:u≤971) (hw:u= -1074∨4503599627370496≤w) :
 Ev (fun k=>fbits_Make.j2 k neg w u) (sgn neg ((u+1074)*4503599627370496+w),true):=by
 refine Ev.eqv (fun k=>fbits_Make.j2.eq_1 ..) ?_
 by_cases h:w<4503599627370496
 · refine Ev.ifp h (Ev.bindc (fbits_signed_c neg h0 (by omega)) (Ev.same ?_))
   rw [show (u+1074)*4503599627370496+w=w by omega]
 · refine Ev.ifn h ?_
   rw [and52 w h0 (by omega),w64_id (by omega) (by omega),wu_id (n:=u+1075) (by omega) (by omega),wu_id (by omega) (by omega),or_join 52 _ _ (by omega) (by omega) (by omega) (by omega) (by omega) (by omega)]
   rw [show (u+1075)*4503599627370496+w%4503599627370496=(u+1074)*4503599627370496+w by omega]
   exact Ev.bindc (fbits_signed_c neg (by omega) (by omega)) (Ev.same rfl)
theorem fbits_Make_c {m e:Int} (neg:Bool) (hm:U m) (he0 : -9223372036854775808≤e) (he1:e≤9223372036854775807):Ev (fun k=>fbits_Make.f k neg m e) (Mk neg m e):=by
 obtain ⟨hm0,hm1⟩:=id hm
 have hu:un m e=max (bl m+e-53) (-1074):=rfl
 by_cases hz:m=0
 · refine Ev.ifp hz (Ev.bindc (fbits_signed_c neg (by omega) (by omega)) (Ev.same ?_))
   rw [hz,Mk_zero]
 · have hp:0<m:=by omega
   have b1:=bl_pos hp
   have b2:=bl_64 hm1
   refine Ev.ifn hz ?_
   by_cases h1:e>2000
   · refine Ev.ifp h1 (Ev.eqv (fun k=>fbits_Make.j0.eq_1 ..) (Ev.ifp rfl (Ev.same ?_)))
     rw [Mk_no neg hz (.inl (by omega))]
   · refine Ev.ifn h1 (Ev.eqv (fun k=>fbits_Make.j0.eq_1 ..) ?_)
     by_cases h2:e < -2000
     · refine Ev.ifp (decide_eq_true h2) (Ev.same ?_)
       rw [Mk_no neg hz (.inr (far_no hp hm1 (by omega)))]
     · refine Ev.ifn (by rw [decide_eq_false h2];decide) (Ev.bind (limb_Len_c hm) ?_)
       have hq:=un_q (e:=e) hp
       rw [un_text hm (by omega) (by omega),w64_id (by omega) (by omega)]
       by_cases h3:un m e>971
       · refine Ev.ifp h3 (Ev.eqv (fun k=>fbits_Make.j1.eq_1 ..) (Ev.ifp rfl (Ev.same ?_)))
         rw [Mk_no neg hz (.inl h3)]
       · refine Ev.ifn h3 (Ev.eqv (fun k=>fbits_Make.j1.eq_1 ..) ?_)
         by_cases h4:un m e-e≥64
         · refine Ev.ifp (decide_eq_true h4) (Ev.same ?_)
           rw [Mk_no neg hz (.inr (far_no hp hm1 (by omega)))]
         · refine Ev.ifn (by rw [decide_eq_false h4];decide) ?_
           by_cases h5:un m e-e>0
           · refine Ev.ifp h5 (Ev.ifp (by omega) ?_)
             obtain ⟨s,hs⟩ : ∃ s:Nat,un m e-e=s:=⟨(un m e-e).toNat,by omega⟩
             have hps:=pow_pos s
             have hd:=Int.mul_ediv_add_emod m (2^s)
             have hr:=Int.emod_nonneg m (show (2:Int)^s≠0 by omega)
             have hd0:0≤m/2^s:=Int.ediv_nonneg hm0 (by omega)
             have hd1:0≤m/2^s*2^s:=Int.mul_nonneg hd0 (by omega)
             have e0:m*2^(e-un m e).toNat=m:=by rw [show (e-un m e).toNat=0 by omega,Int.pow_zero,Int.mul_one]
             rw [Int.mul_comm] at hd
             rw [e0] at hq
             rw [hs] at hq ⊢
             rw [shr_u _ _ (by omega),shl_u _ _ (by omega)]
             rw [Int.toNat_natCast] at hq ⊢
             rw [Int.emod_eq_of_lt hd1 (by omega)]
             by_cases h6:m/2^s*2^s=m
             · refine Ev.ifp h6 ((fbits_Make_j2 neg hq.1 hq.2.1 (by omega) (by omega) hq.2.2).eqr ?_)
               have h7:m%2^s=0:=by omega
               rw [Mk_yes neg hz (by omega) (by rw [e0,hs,Int.toNat_natCast];exact h7),Rd_exact hp (by omega) (by rw [e0,hs,Int.toNat_natCast];exact h7),e0,hs,Int.toNat_natCast]
             · refine Ev.ifn h6 (Ev.same ?_)
               rw [Mk_no neg hz (.inr (by rw [e0,hs,Int.toNat_natCast];omega))]
           · refine Ev.ifn h5 ?_
             rw [w64_id (by omega) (by omega)]
             refine Ev.ifp (by omega) ?_
             obtain ⟨t,ht⟩ : ∃ t:Nat,-(un m e-e)=t:=⟨(-(un m e-e)).toNat,by omega⟩
             have e1:(e-un m e).toNat=t:=by omega
             have e2:(un m e-e).toNat=0:=by omega
             rw [e1,e2,Int.pow_zero,Int.ediv_one] at hq
             rw [ht,shl_u _ _ (by omega),Int.toNat_natCast,Int.emod_eq_of_lt hq.1 (by omega)]
             refine (fbits_Make_j2 neg hq.1 hq.2.1 (by omega) (by omega) hq.2.2).eqr ?_
             rw [Mk_yes neg hz (by omega) (by rw [e2,Int.pow_zero,Int.emod_one]),Rd_exact hp (by omega) (by rw [e2,Int.pow_zero,Int.emod_one]),e1,e2,Int.pow_zero,Int.ediv_one]

theorem ref09_Field_c {b:Int} (h:U b):gr09_Field.f b=some (fx b):=fbits_exponent_c h
theorem ref09_Rest_c {b:Int} (h:U b):gr09_Rest.f b=some (fr b):=by
 unfold gr09_Rest.f
 rw [and52 b h.1 h.2]
 rfl
theorem ref09_Kind_c {b:Int} (h:U b):gr09_Kind.f b=some (fk b):=by
 have hx:= @fx_range b
 have hr:= @fr_range b
 unfold gr09_Kind.f
 rw [ref09_Field_c h,ref09_Rest_c h]
 show (if fx b=2047 then (if fr b=0 then some 3 else some 4) else if fx b>0 then some 2 else if fr b>0 then some 1 else some 0)=some (fk b)
 unfold fk
 by_cases h1:fx b=2047
 · rw [if_pos h1,if_pos h1]
   split<;>rfl
 · rw [if_neg h1,if_neg h1]
   by_cases h2:fx b=0
   · rw [if_neg (show ¬ fx b>0 by omega),if_pos h2]
     by_cases h3:fr b=0
     · rw [if_neg (show ¬ fr b>0 by omega),if_pos h3]
     · rw [if_pos (show fr b>0 by omega),if_neg h3]
   · rw [if_pos (show fx b>0 by omega),if_neg h2]
theorem ref09_Neg_c {b:Int} (h:U b):gr09_Neg.f b=some (fs b):=by
 unfold U at h
 unfold gr09_Neg.f fs
 congr 1
 by_cases hb:b≥9223372036854775808
 · rw [decide_eq_true hb,beq_iff_eq];omega
 · rw [decide_eq_false hb,beq_eq_false_iff_ne];omega
theorem ref09_Parts_c {b:Int} (h:U b):gr09_Parts.f b=some (pm b,pe b):=by
 have hx:= @fx_range b
 have hr:= @fr_range b
 unfold gr09_Parts.f
 rw [ref09_Field_c h,ref09_Rest_c h]
 show (if fx b=0 then some (fr b,-1074) else some (IntKind.u64.wrap (fr b+4503599627370496),wrap64 (fx b-1075)))=_
 unfold pm pe
 split
 · rfl
 · rw [wu_id (by omega) (by omega),w64_id (by omega) (by omega)]
theorem ref09_Signed_c {x:Int} (neg:Bool) (h0:0≤x) (h1:x<9223372036854775808):gr09_Signed.f neg x=some (sgn neg x):=by
 unfold gr09_Signed.f sgn
 rw [wu_id (by omega) (by omega)]
 cases neg<;>rfl
theorem ref09_Inf_c (neg:Bool):gr09_Inf.f neg=some (sgn neg INF):=by
 unfold gr09_Inf.f
 rw [ref09_Signed_c neg (by decide) (by decide)]
 rfl
theorem ref09_Nan_c:gr09_Nan.f=some NAN:=rfl
theorem ref09_Make_l1 (neg:Bool) (n:Nat) : ∀ m e:Int,(e+1074).toNat≤n→0<m→m<9007199254740992→ -1074≤e→e≤3000→Ev (fun k=>gr09_Make.l1 k neg m e) (Mk neg m e):=by
 have fin : ∀ m e:Int,0<m→m<9007199254740992→ -1074≤e→e≤3000→(e= -1074∨4503599627370496≤m)→Ev (fun k=>gr09_Make.j4 k neg m e) (Mk neg m e):=by
  intro m e h0 h1 h2 h3 hw
  have hu:un m e=e:=by
   rcases Int.lt_or_le m 4503599627370496 with h | h
   · have:=bl_le_of (x:=m) (n:=52) h
     unfold un
     omega
   · rw [un_bl (n:=52) h h1]
     omega
  refine Ev.step (fun k=>gr09_Make.j4.eq_2 ..) ?_
  have e0:m*2^(e-un m e).toNat%2^(un m e-e).toNat=0:=by rw [hu,show (e-e).toNat=0 by omega,Int.pow_zero,Int.emod_one]
  by_cases h:m<4503599627370496
  · refine Ev.ifp h (Ev.bindc (ref09_Signed_c neg (by omega) (by omega)) (Ev.same ?_))
    rw [Mk_yes neg (by omega) (by omega) e0,(Rd_made h0 (by omega) h2 (by omega) hw).2.2.2]
    rw [show (e+1074)*4503599627370496+m=m by omega]
  · refine Ev.ifn h ?_
    by_cases h4:e>971
    · refine Ev.ifp h4 (Ev.same ?_)
      rw [Mk_no neg (by omega) (.inl (by omega))]
    · refine Ev.ifn h4 ?_
      rw [w64_id (by omega) (by omega),wu_id (n:=e+1075) (by omega) (by omega),wu_id (n:=(e+1075)*4503599627370496) (by omega) (by omega),wu_id (n:=(e+1075)*4503599627370496+m) (by omega) (by omega),wu_id (by omega) (by omega)]
      refine Ev.bindc (ref09_Signed_c neg (by omega) (by omega)) (Ev.same ?_)
      rw [Mk_yes neg (by omega) (by omega) e0,(Rd_made h0 (by omega) h2 (by omega) hw).2.2.2]
      rw [show (e+1075)*4503599627370496+m-4503599627370496=(e+1074)*4503599627370496+m by omega]
 induction n with
 | zero =>
   intro m e hn h0 h1 h2 h3
   refine Ev.step (fun k=>gr09_Make.l1.eq_2 ..) ?_
   by_cases h:m<4503599627370496
   · exact Ev.ifp h (Ev.ifn (by omega) (fin m e h0 h1 h2 h3 (.inl (by omega))))
   · exact Ev.ifn h (fin m e h0 h1 h2 h3 (.inr (by omega)))
 | succ n ih =>
   intro m e hn h0 h1 h2 h3
   refine Ev.step (fun k=>gr09_Make.l1.eq_2 ..) ?_
   by_cases h:m<4503599627370496
   · refine Ev.ifp h ?_
     by_cases h4:e> -1074
     · refine Ev.ifp h4 ?_
       rw [wu_id (by omega) (by omega),w64_id (by omega) (by omega),← Mk_scale neg h0 e]
       exact ih (m*2) (e-1) (by omega) (by omega) (by omega) (by omega) (by omega)
     · exact Ev.ifn h4 (fin m e h0 h1 h2 h3 (.inl (by omega)))
   · exact Ev.ifn h (fin m e h0 h1 h2 h3 (.inr (by omega)))
theorem ref09_Make_l0 (neg:Bool) (n:Nat) : ∀ m e:Int,m.toNat≤n→0<m→m<18446744073709551616→ -1200≤e→e+bl m≤2000→Ev (fun k=>gr09_Make.l0 k neg m e) (Mk neg m e):=by
 induction n with
 | zero=>intro m e hn h0;omega
 | succ n ih =>
   intro m e hn h0 h1 h2 h3
   have hb:=bl_pos h0
   refine Ev.step (fun k=>gr09_Make.l0.eq_2 ..) ?_
   rw [Int.tmod_eq_emod_of_nonneg (by omega),Int.tdiv_eq_ediv_of_nonneg (by omega)]
   by_cases ho:m%2=0
   · refine Ev.ifp ho ?_
     have hb2:=bl_shr (x:=m) (s:=1) (by omega)
     rw [Int.pow_one] at hb2
     rw [wu_id (by omega) (by omega),w64_id (by omega) (by omega)]
     have hs:=Mk_scale neg (show 0<m/2 by omega) (e+1)
     rw [show m/2*2=m by omega,show e+1-1=e by omega] at hs
     rw [hs]
     exact ih (m/2) (e+1) (by omega) (by omega) (by omega) (by omega) (by omega)
   · refine Ev.ifn ho ?_
     have hu:un m e=max (bl m+e-53) (-1074):=rfl
     have odd:un m e>e→Mk neg m e=(0,false):=by
      intro h
      refine Mk_no neg (by omega) (.inr ?_)
      obtain ⟨j,hj⟩ : ∃ j:Nat,(un m e-e).toNat=j+1:=⟨(un m e-e).toNat-1,by omega⟩
      rw [show (e-un m e).toNat=0 by omega,hj,Int.pow_zero,Int.mul_one,Int.pow_succ,Int.mul_comm,mod_split _ (by omega)]
      have:=Int.emod_nonneg (m/2) (show (2:Int)^j≠0 by have:=pow_pos j;omega)
      omega
     by_cases h4:m≥9007199254740992
     · refine Ev.ifp h4 (Ev.step (fun k=>gr09_Make.j2.eq_2 ..) (Ev.ifp rfl (Ev.same ?_)))
       have:=bl_ge' (x:=m) (n:=53) (by omega)
       rw [odd (by omega)]
     · refine Ev.ifn h4 (Ev.step (fun k=>gr09_Make.j2.eq_2 ..) ?_)
       by_cases h5:e < -1074
       · refine Ev.ifp (decide_eq_true h5) (Ev.same ?_)
         rw [odd (by omega)]
       · refine Ev.ifn (by rw [decide_eq_false h5];decide) ?_
         exact ref09_Make_l1 neg (e+1074).toNat m e (Nat.le_refl _) h0 (by omega) (by omega) (by omega)
theorem ref09_Make_c {m e:Int} (neg:Bool) (hm:U m):Ev (fun k=>gr09_Make.f k neg m e) (Mk neg m e):=by
 obtain ⟨hm0,hm1⟩:=id hm
 have hu:un m e=max (bl m+e-53) (-1074):=rfl
 by_cases hz:m=0
 · refine Ev.ifp hz (Ev.bindc (ref09_Signed_c neg (by omega) (by omega)) (Ev.same ?_))
   rw [hz,Mk_zero]
 · have hp:0<m:=by omega
   have b1:=bl_pos hp
   have b2:=bl_64 hm1
   refine Ev.ifn hz ?_
   by_cases h1:e < -1200
   · refine Ev.ifp h1 (Ev.step (fun k=>gr09_Make.j0.eq_2 ..) (Ev.ifp rfl (Ev.same ?_)))
     rw [Mk_no neg hz (.inr (far_no hp hm1 (by omega)))]
   · refine Ev.ifn h1 (Ev.step (fun k=>gr09_Make.j0.eq_2 ..) ?_)
     by_cases h2:e>1200
     · refine Ev.ifp (decide_eq_true h2) (Ev.same ?_)
       rw [Mk_no neg hz (.inl (by omega))]
     · refine Ev.ifn (by rw [decide_eq_false h2];decide) ?_
       exact ref09_Make_l0 neg m.toNat m e (Nat.le_refl _) hp hm1 (by omega) (by omega)
theorem fround_made_c {w u:Int} (neg:Bool) (h0:0≤w) (h1:w≤9007199254740992) (hu0 : -1074≤u) (hu1:u≤971) (hw:u= -1074∨4503599627370496≤w) :
 Ev (fun k=>fround_made.f k neg w u) (sgn neg ((u+1074)*4503599627370496+w)):=by
 refine Ev.bind (fbits_Make_c neg (m:=w) (e:=u) (by unfold U;omega) (by omega) (by omega)) ?_
 have hk:=Mk_made (neg:=neg) h0 h1 hu0 hu1 hw
 by_cases h:(Mk neg w u).2=true
 · rw [if_pos h] at hk
   exact Ev.ifp h (Ev.same (congrArg some hk))
 · rw [if_neg h] at hk
   exact Ev.ifn h (Ev.bindc (fbits_Inf_c neg) (Ev.same (congrArg some hk)))
theorem fround_made_zero (neg:Bool):Ev (fun k=>fround_made.f k neg 0 0) (sgn neg 0):=by
 refine Ev.bind (fbits_Make_c neg (m:=0) (e:=0) (by unfold U;omega) (by omega) (by omega)) ?_
 rw [Mk_zero]
 exact Ev.ifp rfl (Ev.same rfl)
theorem fround_even_c {x:Int} (h0:0≤x) (h1:x<9223372036854775808) (half more:Bool):fround_even.f x half more=some (if half=true∧(more=true∨x%2=1) then x+1 else x):=by
 unfold fround_even.f
 rw [and1 x h0 (by omega),wu_id (by omega) (by omega)]
 cases half
 · simp
 · cases more
   · simp only [Bool.false_eq_true,if_true,if_false,false_or,true_and]
     split<;>rfl
   · simp
def ce (e:Int):Int:=mn (mx e (-1099511627776)) 1099511627776
theorem ce_range (e:Int) : -1099511627776≤ce e∧ce e≤1099511627776:=by
 unfold ce mn mx
 split<;>split<;>omega
theorem ce_id {e:Int} (h0 : -1099511627776≤e) (h1:e≤1099511627776):ce e=e:=by
 unfold ce mn mx
 split<;>split<;>omega
theorem un_text2 {m e:Int} (hm:bl m≤1000000) (he : -1099511627776≤e) (he':e≤1099511627776):mx (wrap64 ((wrap64 (bl m+e))-53)) (-1074)=un m e:=by
 have h2:=bl_nonneg m
 rw [w64_id (n:=bl m+e) (by omega) (by omega),w64_id (by omega) (by omega)]
 unfold mx un
 generalize bl m=n at *
 split<;>omega
theorem half_word {G H r:Int} (hG:0<G) (hGH:G*H=9223372036854775808) (h0:0≤r) (h1:r<2*H) :
 (G*r/9223372036854775808==1)=decide (r≥H)∧(r>H→(G*r*2%18446744073709551616 !=0)=true)∧(r=H→(G*r*2%18446744073709551616 !=0)=false):=by
 have e1:G*(2*H)=18446744073709551616:=by rw [Int.mul_left_comm,hGH];rfl
 have b0:0≤G*r:=Int.mul_nonneg (by omega) h0
 have b1:G*r<18446744073709551616:=by rw [← e1];exact Int.mul_lt_mul_of_pos_left h1 hG
 rcases Int.lt_trichotomy r H with h | h | h
 · have:G*r<9223372036854775808:=by rw [← hGH];exact Int.mul_lt_mul_of_pos_left h hG
   refine ⟨?_,fun k=>by omega,fun k=>by omega⟩
   rw [decide_eq_false (by omega),beq_eq_false_iff_ne]
   omega
 · subst h
   refine ⟨?_,fun k=>by omega,fun _=> ?_⟩
   · rw [decide_eq_true (by omega),beq_iff_eq]
     omega
   · rw [bne_eq_false_iff_eq]
     omega
 · have:9223372036854775808<G*r:=by rw [← hGH];exact Int.mul_lt_mul_of_pos_left h hG
   refine ⟨?_,fun _=> ?_,fun k=>by omega⟩
   · rw [decide_eq_true (by omega),beq_iff_eq]
     omega
   · rw [bne_iff_ne]
     omega
theorem Rd_pos {m e:Int} (h:0<m) (hu:un m e≤971):Rd m e=(un m e+1074)*4503599627370496+ru m e (un m e):=by
 unfold Rd
 rw [if_neg (by omega),if_neg (by omega)]
theorem Rd_over {m e:Int} (h:0<m) (hu:un m e>971):Rd m e=INF:=by
 unfold Rd
 rw [if_neg (by omega),if_pos hu]
theorem fround_Word_c {m e:Int} (neg:Bool) (hm:U m):Ev (fun k=>fround_Word.f k neg m e) (sgn neg (Rd m (ce e))):=by
 obtain ⟨hm0,hm1⟩:=id hm
 have hE:=ce_range e
 by_cases hz:m=0
 · refine Ev.ifp hz (Ev.bind (fround_made_zero neg) (Ev.same ?_))
   rw [hz,Rd_zero]
 · have hp:0<m:=by omega
   have b1:=bl_pos hp
   have b2:=bl_64 hm1
   refine Ev.ifn hz (Ev.bind (limb_Len_c hm) ?_)
   have eE:mn (mx e (-1099511627776)) 1099511627776=ce e:=rfl
   rw [eE]
   generalize ce e=E at *
   rw [un_text2 (by omega) (by omega) (by omega)]
   have hu:un m E=max (bl m+E-53) (-1074):=rfl
   have hq:=un_q (e:=E) hp
   have hr:=ru_units (e:=E) hp
   by_cases h1:un m E>971
   · refine Ev.ifp h1 (Ev.bindc (fbits_Inf_c neg) (Ev.same ?_))
     rw [Rd_over hp h1]
   · refine Ev.ifn h1 ?_
     rw [w64_id (n:=un m E-E) (by omega) (by omega),Rd_pos hp (by omega)]
     by_cases h2:un m E-E≤0
     · refine Ev.ifp h2 ?_
       rw [w64_id (by omega) (by omega)]
       refine Ev.ifp (by omega) ?_
       by_cases ht : -(un m E-E)≤64
       · have e0:ru m E (un m E)=m*2^(E-un m E).toNat:=by
          unfold ru
          rw [show (un m E-E).toNat=0 by omega,rnd_zero]
         rw [show (un m E-E).toNat=0 by omega,Int.pow_zero,Int.ediv_one] at hq
         rw [e0] at hr ⊢
         rw [shl_u _ _ (by omega),show (-(un m E-E)).toNat=(E-un m E).toNat by omega,Int.emod_eq_of_lt hq.1 (by omega)]
         exact Ev.bind (fround_made_c neg hr.1 hr.2.1 (by omega) (by omega) hr.2.2) (Ev.same rfl)
       · exfalso
         omega
     · refine Ev.ifn h2 ?_
       by_cases h3:un m E-E>64
       · refine Ev.ifp h3 (Ev.bind (fround_made_zero neg) (Ev.same ?_))
         have hu2:un m E= -1074:=by omega
         have e0:ru m E (un m E)=0:=by
          unfold ru
          rw [show (E-un m E).toNat=0 by omega,Int.pow_zero,Int.mul_one]
          have:=pow_le_pow (a:=65) (b:=(un m E-E).toNat) (by omega)
          exact rnd_small hm0 (by omega)
         rw [e0,hu2]
         rfl
       · refine Ev.ifn h3 ?_
         obtain ⟨d,hd⟩ : ∃ d:Nat,un m E-E=((d+1:Nat):Int):=⟨(un m E-E).toNat-1,by omega⟩
         have hd63:d+1≤64:=by omega
         have e0:ru m E (un m E)=rnd m (d+1):=by
          unfold ru
          rw [show (E-un m E).toNat=0 by omega,Int.pow_zero,Int.mul_one,hd,Int.toNat_natCast]
         rw [show (E-un m E).toNat=0 by omega,Int.pow_zero,Int.mul_one,hd,Int.toNat_natCast] at hq
         rw [e0] at hr ⊢
         rw [hd,w64_id (by omega) (by omega),w64_id (n:=((d+1:Nat):Int)-1) (by omega) (by omega)]
         refine Ev.ifp (by omega) (Ev.ifp (by omega) ?_)
         have hH:(2:Int)^(d+1)=2*2^d:=by rw [Int.pow_succ,Int.mul_comm]
         have hGH:(2:Int)^(64-(d+1))*2^d=9223372036854775808:=by rw [← Int.pow_add,show 64-(d+1)+d=63 by omega];rfl
         rw [shr_u _ _ (by omega),shl_u _ _ (by omega),show (((d+1:Nat):Int)-1).toNat=d by omega,show (64-((d+1:Nat):Int)).toNat=64-(d+1) by omega,mod_up m hd63,wu]
         have e1:m/2/2^d=m/2^(d+1):=by rw [Int.ediv_ediv_of_nonneg (by omega),← hH]
         rw [e1]
         have r0:=Int.emod_nonneg m (show (2:Int)^(d+1)≠0 by have:=pow_pos (d+1);omega)
         have r1:=Int.emod_lt_of_pos m (pow_pos (d+1))
         have hw:=half_word (G:=2^(64-(d+1))) (H:=2^d) (r:=m%2^(d+1)) (pow_pos _) hGH r0 (by omega)
         rw [hw.1]
         have he:=fround_even_c (x:=m/2^(d+1)) hq.1 (by omega) (decide (m%2^(d+1)≥2^d)) (2^(64-(d+1))*(m%2^(d+1))*2%18446744073709551616 !=0)
         have hv:(if decide (m%2^(d+1)≥2^d)=true∧((2^(64-(d+1))*(m%2^(d+1))*2%18446744073709551616 !=0)=true∨m/2^(d+1)%2=1) then m/2^(d+1)+1 else m/2^(d+1))=rnd m (d+1):=by
          unfold rnd
          rcases Int.lt_trichotomy (m%2^(d+1)) (2^d) with h | h | h
          · rw [if_neg (by simp;omega),if_neg (by omega)]
          · rw [hw.2.2 h]
            by_cases ho:m/2^(d+1)%2=1
            · rw [if_pos ⟨decide_eq_true (by omega), .inr ho⟩,if_pos (.inr ⟨by omega,ho⟩)]
            · rw [if_neg (by simp [ho]),if_neg (by omega)]
          · rw [hw.2.1 h,if_pos ⟨decide_eq_true (by omega), .inl rfl⟩,if_pos (.inl (by omega))]
         rw [hv] at he
         refine Ev.bindc he ?_
         exact Ev.bind (fround_made_c neg hr.1 hr.2.1 (by omega) (by omega) hr.2.2) (Ev.same rfl)
theorem fround_FromInt_c {n:Int} (h0 : -9223372036854775808≤n) (h1:n≤9223372036854775807):Ev (fun k=>fround_FromInt.f k n) (sgn (decide (n<0)) (Rd (if n<0 then -n else n) 0)):=by
 by_cases h:n<0
 · rw [decide_eq_true h,if_pos h]
   refine Ev.ifp h ?_
   have e:IntKind.u64.wrap (-(IntKind.u64.wrap n))= -n:=by rw [wu,wu];omega
   rw [e]
   refine Ev.bind (fround_Word_c (e:=0) true (by unfold U;omega)) (Ev.same ?_)
   rw [ce_id (by omega) (by omega)]
 · rw [decide_eq_false h,if_neg h]
   refine Ev.ifn h ?_
   rw [wu_id (by omega) (by omega)]
   refine Ev.bind (fround_Word_c (e:=0) false (by unfold U;omega)) (Ev.same ?_)
   rw [ce_id (by omega) (by omega)]
def qv (N D:Int):Int:=if N%D=0 then 2*(N/D) else 2*(N/D)+1
theorem qv_ge (N D:Int):2*(N/D)≤qv N D∧qv N D≤2*(N/D)+1:=by unfold qv;split<;>omega
theorem qv_step {N D c:Int} (hD:0<D) (hq:9007199254740992≤N/D):Rd (qv N D) c=Rd (qv (N*2) D) (c-1):=by
 have hs:0<qv N D:=by have:=qv_ge N D;omega
 rw [← Rd_scale hs c 1,Int.pow_one,show c-((1:Nat):Int)=c-1 from rfl]
 have d1:=Int.mul_ediv_add_emod N D
 have d2:=Int.emod_nonneg N (show D≠0 by omega)
 have d3:=Int.emod_lt_of_pos N hD
 have key:N*2/D=2*(N/D)+(N%D*2)/D∧(N*2)%D=(N%D*2)%D:=by
  have e:N*2=N%D*2+D*(2*(N/D)):=by
   have:D*(2*(N/D))=2*(D*(N/D)):=by rw [← Int.mul_assoc,Int.mul_comm D 2,Int.mul_assoc]
   omega
  constructor
  · rw [e,Int.add_mul_ediv_left _ _ (by omega)];omega
  · rw [e,Int.add_mul_emod_self_left]
 have r1:(N%D*2)/D=0∧(N%D*2)%D=N%D*2∨(N%D*2)/D=1∧(N%D*2)%D=N%D*2-D∧N%D≠0:=by
  rcases Int.lt_or_le (N%D*2) D with h | h
  · exact .inl ⟨Int.ediv_eq_zero_of_lt (by omega) h,Int.emod_eq_of_lt (by omega) h⟩
  · have e2:N%D*2=(N%D*2-D)+D*1:=by omega
    refine .inr ⟨?_, ?_,by omega⟩
    · rw [e2,Int.add_mul_ediv_left _ _ (by omega),Int.ediv_eq_zero_of_lt (by omega) (by omega)];rfl
    · rw [e2,Int.add_mul_emod_self_left,Int.emod_eq_of_lt (by omega) (by omega)];omega
 have hX:18014398509481984≤qv N D:=by have:=qv_ge N D;omega
 have hY:0<qv (N*2) D:=by have:=qv_ge (N*2) D;rw [key.1] at this;rcases r1 with h | h<;>omega
 have c1:qv N D*2/2^2=qv (N*2) D/2^2∧(qv N D*2%2^2=0↔qv (N*2) D%2^2=0):=by
  unfold qv
  rw [key.1,key.2]
  rw [show ((2:Int)^2)=4 from rfl]
  generalize N/D=q at *
  generalize N%D=r at *
  by_cases hr:r=0
  · subst hr
    rcases r1 with ⟨k1,k2⟩ | ⟨k1,k2,k3⟩
    · rw [k1,k2,if_pos rfl,if_pos (by omega)];omega
    · exact absurd rfl k3
  · rw [if_neg hr]
    rcases r1 with ⟨k1,k2⟩ | ⟨k1,k2,k3⟩
    · rw [k1,k2,if_neg (by omega)];omega
    · rw [k1,k2];split<;>omega
 refine Rd_cell (g:=2) (by omega) hY c1.1 c1.2 ?_
 have:=bl_ge' (x:=qv N D*2) (n:=55) (by omega)
 unfold un
 omega
theorem qv_steps (j:Nat) : ∀ {N D c:Int},0<D→9007199254740992≤N/D→Rd (qv N D) c=Rd (qv (N*2^j) D) (c-j):=by
 induction j with
 | zero=>intro N D c hD hq;rw [Int.pow_zero,Int.mul_one,show c-((0:Nat):Int)=c by omega]
 | succ j ih =>
   intro N D c hD hq
   have e:N*2^(j+1)=N*2*2^j:=by rw [Int.pow_succ,Int.mul_comm (2^j),Int.mul_assoc]
   have d1:=Int.mul_ediv_add_emod N D
   have d2:=Int.emod_nonneg N (show D≠0 by omega)
   have h2:9007199254740992≤N*2/D:=by
    have h3:N/D*D≤N:=by rw [Int.mul_comm];omega
    have h4:N/D≤N*2/D:=(Int.le_ediv_iff_mul_le hD).2 (by
     have:0≤N/D*D:=Int.mul_nonneg (by omega) (by omega)
     omega)
    omega
   rw [e,qv_step hD hq,ih hD h2]
   congr 1
   omega
def fq (N D:Int):Int :=
 if bl N-bl D < -1200 then 0 else if bl N-bl D>1100 then INF
 else Rd (qv (N*2^(max 0 (64-(bl N-bl D))).toNat) D) (-(max 0 (64-(bl N-bl D)))-1)
theorem pow_bl {N:Int} (h:0<N) : ∃ n:Nat,bl N=n+1∧2^n≤N∧N<2^(n+1):=by
 have h1:=bl_pos h
 refine ⟨(bl N-1).toNat,by omega, ?_, ?_⟩
 · exact bl_le h
 · have:=bl_lt N
   have e:((bl N-1).toNat+1)=(bl N).toNat:=by omega
   rw [e];exact this
theorem quot_big {N D:Int} {up g:Nat} (hN:0<N) (hD:0<D) (h:bl D+g+1≤bl N+up):2^g≤N*2^up/D:=by
 obtain ⟨n,n1,n2,n3⟩:=pow_bl hN
 obtain ⟨d,d1,d2,d3⟩:=pow_bl hD
 refine (Int.le_ediv_iff_mul_le hD).2 ?_
 have k1:(2:Int)^g*D≤2^g*2^(d+1):=Int.mul_le_mul_of_nonneg_left (by omega) (by have:=pow_pos g;omega)
 have k2:(2:Int)^n*2^up≤N*2^up:=Int.mul_le_mul_of_nonneg_right n2 (by have:=pow_pos up;omega)
 rw [← Int.pow_add] at k1 k2
 have k3:=pow_le_pow (a:=g+(d+1)) (b:=n+up) (by omega)
 omega
theorem fq_far {N D:Int} (hN:0<N) (hD:0<D) (h0 : -1200≤bl N-bl D) (h1:bl N-bl D≤1200) :
 fq N D=Rd (qv (N*2^(max (70-(bl N-bl D)) 0).toNat) D) (-(max (70-(bl N-bl D)) 0)-1):=by
 unfold fq
 rw [if_neg (by omega)]
 by_cases h:bl N-bl D>1100
 · rw [if_pos h,show max (70-(bl N-bl D)) 0=0 by omega,show (0:Int).toNat=0 from rfl,Int.pow_zero,Int.mul_one]
   have q:=quot_big (up:=0) (g:=1099) hN hD (by omega)
   rw [Int.pow_zero,Int.mul_one] at q
   have k:=(qv_ge N D).1
   have k2:(2:Int)^1099≤qv N D:=by have:=pow_pos 1099;omega
   have hb:=bl_ge' k2
   have hp:0<qv N D:=by have:=pow_pos 1099;omega
   unfold Rd
   rw [if_neg (by omega),if_pos (by unfold un;omega)]
 · rw [if_neg h]
   have q:=quot_big (up:=(max 0 (64-(bl N-bl D))).toNat) (g:=53) hN hD (by omega)
   generalize hu:(max 0 (64-(bl N-bl D))).toNat=up at *
   rw [qv_steps ((max (70-(bl N-bl D)) 0).toNat-up) hD q,Int.mul_assoc,← Int.pow_add,show up+((max (70-(bl N-bl D)) 0).toNat-up)=(max (70-(bl N-bl D)) 0).toNat by omega]
   congr 1
   omega
theorem tz_mod {x:Int} (h:0<x) (i:Nat):x%2^i=0↔(i:Int)≤tz x:=by
 obtain ⟨n,h1,h2,h3⟩:=tz_spec h
 have key : ∀ j:Nat,j≤n→x%2^j=0:=by
  intro j
  induction j with
  | zero=>intro _;rw [Int.pow_zero,Int.emod_one]
  | succ j ih =>
    intro hj
    rw [Int.pow_succ,mod_split x (pow_pos j),h3 j (by omega),ih (by omega)]
    simp
 rw [h1]
 constructor
 · intro k
   rcases Nat.lt_or_ge n i with hlt | hge
   · exfalso
     have e:(2:Int)^i=2^n*(2*2^(i-n-1)):=by
      rw [← Int.pow_succ',← Int.pow_add];congr 1;omega
     rw [e] at k
     have h5:=mod_split x (D:=2*2^(i-n-1)) (pow_pos n)
     rw [k,key n (Nat.le_refl _)] at h5
     have h6:x/2^n%(2*2^(i-n-1))=0:=by
      have hp:=pow_pos n
      have:(2:Int)^n*(x/2^n%(2*2^(i-n-1)))=0:=by omega
      rcases Int.mul_eq_zero.1 this with h7 | h7<;>omega
     have h7:=Int.emod_emod_of_dvd (x/2^n) (show (2:Int)∣2*2^(i-n-1) from ⟨_,rfl⟩)
     rw [h6] at h7
     omega
   · omega
 · intro k
   exact key i (by omega)
theorem Rd_ce {N e:Int} (hN:0≤N) (hb:bl N≤10000) (h0 : -1099511627777≤e) (h1:e≤1099511627776):Rd N (ce e)=Rd N e:=by
 have hE:=ce_range e
 rcases (show -1099511627776≤e∨e= -1099511627777 by omega) with h | h
 · rw [ce_id h h1]
 · have:ce e= -1099511627776:=by rw [h];decide
   rw [Rd_none hN (by omega),Rd_none hN (by omega)]
theorem fround_Of_j {l:List Int} (neg:Bool) (hl:Wl l) (hn:l.length≤150) {e:Int} (he0 : -1099511627777≤e) (he1:e≤1099511627776):Ev (fun k=>fround_Of.j0 k neg l e) (sgn neg (Rd (nv l) e)):=by
 have h0:=nv_nonneg hl.1
 have hb:=bl_nv hl.1
 refine Ev.step (fun k=>fround_Of.j0.eq_2 ..) (Ev.bind (nat_Bits_c hl) ?_)
 have hbN:bl (nv l)≤10000:=by omega
 have hb0:=bl_nonneg (nv l)
 by_cases h1:bl (nv l)≤64
 · refine Ev.ifp h1 (Ev.bind (nat_Word_c hl) ?_)
   have hw:nv l<18446744073709551616:=by
    have h2:=bl_lt (nv l)
    have h3:=pow_le_pow (a:=(bl (nv l)).toNat) (b:=64) (by omega)
    have h4:(2:Int)^64=18446744073709551616:=rfl
    omega
   rw [if_pos hw]
   refine Ev.bind (fround_Word_c neg (m:=nv l) (e:=e) ⟨h0,hw⟩) (Ev.same ?_)
   rw [Rd_ce h0 hbN he0 he1]
 · refine Ev.ifn h1 ?_
   have S:=nat_Shr_c hl (n:=un (nv l) e-e) (by unfold un;omega)
   have B:=nat_Bit_c hl (i:=un (nv l) e-e-1) (by unfold un;omega)
   have T:=nat_Even_c hl
   generalize nv l=N at *
   have hp:0<N:=by
    rcases (show N=0∨0<N by omega) with h | h
    · rw [h,bl_zero] at h1;omega
    · exact h
   have hu:un N e=max (bl N+e-53) (-1074):=rfl
   have eU:mx (wrap64 ((wrap64 (bl N+e))-53)) (-1074)=un N e:=by
    rw [w64_id (n:=bl N+e) (by omega) (by omega),w64_id (n:=bl N+e-53) (by omega) (by omega),hu]
    unfold mx;split<;>omega
   rw [eU]
   by_cases h2:un N e>971
   · refine Ev.ifp h2 (Ev.bindc (fbits_Inf_c neg) (Ev.same ?_))
     rw [Rd_over hp h2]
   · refine Ev.ifn h2 ?_
     rw [w64_id (n:=un N e-e) (by omega) (by omega),w64_id (n:=un N e-e-1) (by omega) (by omega)]
     have hq:=un_q (e:=e) hp
     have hr:=ru_units (e:=e) hp
     obtain ⟨d,hd⟩ : ∃ d:Nat,un N e-e=d+1:=⟨(un N e-e-1).toNat,by omega⟩
     unfold ru at hr
     rw [Rd_pos hp (by omega)]
     unfold ru
     rw [show (e-un N e).toNat=0 by omega,Int.pow_zero,Int.mul_one,show (un N e-e).toNat=d+1 by omega] at hq hr ⊢
     have d1:un N e-e-1=(d:Int):=by omega
     have d2:un N e-e=((d+1:Nat):Int):=by omega
     rw [d1] at B ⊢
     rw [d2] at S ⊢
     rw [Int.toNat_natCast] at S
     refine Ev.bind S ?_
     have bq:bl (N/2^(d+1))≤53:=bl_le_of (n:=53) (Int.lt_of_lt_of_le hq.2.1 (by decide))
     have W:=nat_Word_c (l:=dg (N/2^(d+1))) (Wl_dg (by omega))
     rw [nv_dg hq.1,if_pos (by omega)] at W
     refine Ev.bind W (Ev.bindc B (Ev.bind T ?_))
     refine Ev.bindc (fround_even_c hq.1 (by omega) _ _) ?_
     have hpd:=pow_pos d
     have hm:=mod_split N (G:=2^d) (D:=2) hpd
     have e2:(2:Int)^(d+1)=2^d*2:=Int.pow_succ ..
     have hz:N%2^d=0↔(d:Int)≤tz N:=tz_mod hp d
     have hlt:=Int.emod_lt_of_pos N hpd
     have hge:=Int.emod_nonneg N (show (2:Int)^d≠0 by omega)
     have key:rnd N (d+1)=if bitI N (d:Int)=true∧(decide (tz N<(d:Int))=true∨N/2^(d+1)%2=1) then N/2^(d+1)+1 else N/2^(d+1):=by
      unfold rnd bitI
      rw [Int.toNat_natCast]
      rw [e2] at *
      rw [hm]
      have hbit:N/2^d%2=0∨N/2^d%2=1:=by omega
      generalize N/(2^d*2)=q at *
      generalize N%2^d=r at *
      generalize tz N=t at *
      generalize (2:Int)^d=G at *
      rcases hbit with hbit | hbit
      · rw [hbit,if_neg (by omega),if_neg (by simp)]
      · rw [hbit]
        by_cases hr0:r=0
        · have:=hz.1 hr0
          by_cases ho:q%2=1
          · rw [if_pos (by right;omega),if_pos (by simp [ho])]
          · rw [if_neg (by omega),if_neg (by simp [ho];omega)]
        · have : ¬ (d:Int)≤t:=fun k=>hr0 (hz.2 k)
          rw [if_pos (by left;omega),if_pos (by simp;omega)]
     rw [← key]
     exact Ev.bind (fround_made_c neg hr.1 hr.2.1 (un_ge N e) (by omega) hr.2.2) (Ev.same rfl)
theorem fround_Of_c {l:List Int} (neg:Bool) (hl:Wl l) (hn:l.length≤100) (e:Int) (more:Bool):Ev (fun k=>fround_Of.f k neg l e more) (sgn neg (if more then Rd (2*nv l+1) (ce e-1) else Rd (nv l) (ce e))):=by
 have hE:=ce_range e
 have eE:mn (mx e (-1099511627776)) 1099511627776=ce e:=rfl
 cases more
 · refine Ev.ifn (by decide) ?_
   rw [eE]
   exact Ev.eqr (fround_Of_j neg hl (by omega) (by omega) (by omega)) rfl
 · refine Ev.ifp rfl ?_
   rw [eE]
   have h0:=nv_nonneg hl.1
   have hb:=bl_nv hl.1
   have S:=nat_Shl_c hl (by omega) 1
   rw [shn_of (by omega) (by omega),show (1:Int).toNat=1 from rfl,Int.pow_one] at S
   refine Ev.bind S ?_
   generalize nv l=N at *
   have b1:bl (N*2)≤6402:=by
    have:=bl_mul (x:=N) (y:=2) h0 (by omega)
    have:bl 2=2:=rfl
    omega
   have lN:=dg_len_bl (N*2)
   refine Ev.bind (nat_Of_c (x:=1) (by unfold U;omega)) ?_
   have A:=nat_Add_c (a:=dg (N*2)) (b:=dg 1) (Wl_dg (by omega)) (Wl_dg (by decide)) (by omega) (by decide)
   rw [nv_dg (by omega),nv_dg (by omega),show N*2+1=2*N+1 by omega] at A
   refine Ev.bind A ?_
   have b2:bl (2*N+1)≤6500:=by
    have a1:=bl_lt (N*2)
    have a2:=bl_nonneg (N*2)
    have:bl (2*N+1)≤((bl (N*2)).toNat+1:Nat):=bl_le_of (by rw [Int.pow_succ];omega)
    omega
   have l2:=dg_len_bl (2*N+1)
   have J:=fround_Of_j neg (l:=dg (2*N+1)) (Wl_dg (by omega)) (by omega) (e:=ce e-1) (by omega) (by omega)
   rw [nv_dg (by omega)] at J
   exact Ev.eqr J rfl
theorem shn_nat {n:Int} (h:n≤65536):shn n=n.toNat:=by
 rcases Int.lt_or_le n 0 with h0 | h0
 · unfold shn mn mx
   split<;>split<;>omega
 · exact shn_of h0 h
theorem ref10_Of_j1 {w u:Int} (neg:Bool) (h0:0≤w) (h1:w≤9007199254740992) (hu0 : -1074≤u) (hu1:u≤971) (hw:u= -1074∨4503599627370496≤w) :
 Ev (fun k=>gr10_Of.j1 k neg u w) (sgn neg ((u+1074)*4503599627370496+w)):=by
 refine Ev.step (fun k=>gr10_Of.j1.eq_2 ..) ?_
 refine Ev.bind (ref09_Make_c neg (m:=w) (e:=u) (by unfold U;omega)) ?_
 have hk:=Mk_made (neg:=neg) h0 h1 hu0 hu1 hw
 by_cases h:(Mk neg w u).2=true
 · rw [if_pos h] at hk
   exact Ev.ifp h (Ev.same (congrArg some hk))
 · rw [if_neg h] at hk
   exact Ev.ifn h (Ev.bindc (ref09_Inf_c neg) (Ev.same (congrArg some hk)))
theorem rd_dg_zero {w:Int} (h0:0<w) (h1:w<18446744073709551616):dg w= [w]:=by
 rw [dg_pos h0,dg_nil (by omega),Int.emod_eq_of_lt (by omega) h1]
theorem ref10_Of_j0 {w u:Int} (neg:Bool) (h0:0≤w) (h1:w≤9007199254740992) (hu0 : -1074≤u) (hu1:u≤971) (hw:u= -1074∨4503599627370496≤w) :
 Ev (fun k=>gr10_Of.j0 k neg u (dg w)) (sgn neg ((u+1074)*4503599627370496+w)):=by
 refine Ev.step (fun k=>gr10_Of.j0.eq_2 ..) ?_
 rcases (show w=0∨0<w by omega) with rfl | h
 · rw [dg_zero]
   exact Ev.ifn (by decide) (ref10_Of_j1 neg h0 h1 hu0 hu1 hw)
 · rw [rd_dg_zero h (by omega)]
   exact Ev.ifp (by simp) (Ev.ifp (by simp) (ref10_Of_j1 neg h0 h1 hu0 hu1 hw))
theorem cmpI_more {x y:Int} :cmpI x y>0↔y<x:=by unfold cmpI;split<;>(try split)<;>omega
theorem cmpI_same {x y:Int} :cmpI x y=0↔x=y:=by unfold cmpI;split<;>(try split)<;>omega
theorem ref10_Of_c {l:List Int} (neg:Bool) (hl:Wl l) (hn:l.length≤900) {e:Int} (he0 : -2000000000000≤e) (he1:e≤2000000000000):Ev (fun k=>gr10_Of.f k neg l e) (sgn neg (Rd (nv l) e)):=by
 have h0:=nv_nonneg hl.1
 have hb:=bl_nv hl.1
 refine Ev.bind (ref02_Trim_c hl) ?_
 generalize nv l=N at *
 have hb0:=bl_nonneg N
 have hbN:bl N≤57600:=by omega
 clear hb
 have wN:Wl (dg N):=Wl_dg (by omega)
 have lN:=dg_len_bl N
 by_cases hz:N=0
 · rw [hz]
   refine Ev.ifp rfl (Ev.bindc (ref09_Signed_c neg (by omega) (by omega)) (Ev.same ?_))
   rw [Rd_zero]
 · have hp:0<N:=by omega
   have b1:=bl_pos hp
   refine Ev.ifn (fun k=>hz ((dg_len_zero h0).1 (by omega))) ?_
   have BN:=ref02_Bits_c wN
   rw [nv_dg h0] at BN
   refine Ev.bind BN ?_
   have hu:un N e=max (bl N+e-53) (-1074):=rfl
   by_cases h1:e>2000
   · refine Ev.ifp h1 (Ev.bindc (ref09_Inf_c neg) (Ev.same ?_))
     rw [Rd_inf hp (by omega)]
   · refine Ev.ifn h1 ?_
     rw [w64_id (n:= -1200-bl N) (by omega) (by omega)]
     by_cases h2:e < -1200-bl N
     · refine Ev.ifp h2 (Ev.bindc (ref09_Signed_c neg (by omega) (by omega)) (Ev.same ?_))
       rw [Rd_none h0 (by omega)]
     · refine Ev.ifn h2 ?_
       rw [un_text2 (by omega) (by omega) (by omega)]
       by_cases h3:un N e>971
       · refine Ev.ifp h3 (Ev.bindc (ref09_Inf_c neg) (Ev.same ?_))
         rw [Rd_over hp h3]
       · refine Ev.ifn h3 ?_
         have hr:=ru_units (e:=e) hp
         have hq:=un_q (e:=e) hp
         have hu1:=un_ge N e
         rw [Rd_pos hp (by omega)]
         have S1:=ref02_Shl_c wN (by omega) (e-un N e)
         rw [nv_dg h0,shn_nat (by omega)] at S1
         rw [w64_id (n:=e-un N e) (by omega) (by omega)]
         refine Ev.bind S1 ?_
         by_cases h4:e<un N e
         · refine Ev.ifp h4 ?_
           rw [w64_id (n:=un N e-e) (by omega) (by omega)]
           obtain ⟨d,hd⟩ : ∃ d:Nat,un N e-e=d:=⟨(un N e-e).toNat,by omega⟩
           have hdd:d≤58000:=by omega
           have e0:ru N e (un N e)=rnd N d:=by
            unfold ru
            rw [show (e-un N e).toNat=0 by omega,Int.pow_zero,Int.mul_one,hd,Int.toNat_natCast]
           rw [show (e-un N e).toNat=0 by omega,Int.pow_zero,Int.mul_one,hd,Int.toNat_natCast] at hq
           rw [e0] at hr ⊢
           rw [hd]
           have R1:=ref02_Shr_c wN (n:=(d:Int)) (by omega)
           rw [nv_dg h0,Int.toNat_natCast] at R1
           refine Ev.bind R1 ?_
           have hdm:=Int.mul_ediv_add_emod N (2^d)
           have hm0:=Int.emod_nonneg N (show (2:Int)^d≠0 by have:=pow_pos d;omega)
           have hm1:=Int.emod_lt_of_pos N (pow_pos d)
           have hle:N/2^d≤N:=Int.ediv_le_self _ h0
           have bq:=bl_mono hle
           have wq:Wl (dg (N/2^d)):=Wl_dg (by omega)
           have lq:=dg_len_bl (N/2^d)
           have S2:=ref02_Shl_c wq (by omega) (d:Int)
           rw [nv_dg hq.1,shn_nat (by omega),Int.toNat_natCast] at S2
           refine Ev.bind S2 ?_
           rw [Int.mul_comm] at hdm
           have hp0:0≤N/2^d*2^d:=Int.mul_nonneg hq.1 (by have:=pow_pos d;omega)
           have bp:=bl_mono (show N/2^d*2^d≤N by omega)
           have lp:=dg_len_bl (N/2^d*2^d)
           have D:=ref02_Sub_c wN (b:=dg (N/2^d*2^d)) (Wl_dg (by omega)) (by omega) (by omega) (by rw [nv_dg h0,nv_dg hp0];omega)
           rw [nv_dg h0,nv_dg hp0,show N-N/2^d*2^d=N%2^d by omega] at D
           refine Ev.bind D ?_
           have br:=bl_mono (show N%2^d≤N by omega)
           have wr:Wl (dg (N%2^d)):=Wl_dg (by omega)
           have lr:=dg_len_bl (N%2^d)
           have S3:=ref02_Shl_c wr (by omega) 1
           rw [nv_dg hm0,shn_nat (by omega),show (1:Int).toNat=1 from rfl,Int.pow_one] at S3
           refine Ev.bind S3 ?_
           have w1:Wl [1]:=⟨Ws_one (by unfold U;omega),by decide⟩
           have S4:=ref02_Shl_c w1 (by decide) (d:Int)
           rw [nv_one,shn_nat (by omega),Int.toNat_natCast,Int.one_mul] at S4
           refine Ev.bind S4 ?_
           have bd:bl ((2:Int)^d)≤d+1:=bl_le_of (n:=d+1) (by rw [Int.pow_succ];have:=pow_pos d;omega)
           have br2:=bl_mono (show N%2^d*2≤2^(d+1) by rw [Int.pow_succ];omega)
           have bd2:bl ((2:Int)^(d+1))≤d+2:=bl_le_of (n:=d+2) (by rw [Int.pow_succ,Int.pow_succ];have:=pow_pos d;omega)
           have C:=ref02_Cmp_c (a:=dg (N%2^d*2)) (b:=dg (2^d)) (Wl_dg (by omega)) (Wl_dg (by omega))
           rw [nv_dg (by omega),nv_dg (by have:=pow_pos d;omega)] at C
           refine Ev.bind C ?_
           have A:=ref02_Add_c wq w1 (by omega) (by decide)
           rw [nv_dg hq.1,nv_one] at A
           clear S1 R1 S2 S3 S4 D C BN
           by_cases h5:cmpI (N%2^d*2) (2^d)>0
           · refine Ev.ifp h5 (Ev.bind A ?_)
             have e1:rnd N d=N/2^d+1:=by
              unfold rnd
              rw [if_pos (.inl (by have:=cmpI_more.1 h5;omega))]
             rw [e1] at hr ⊢
             exact ref10_Of_j0 neg (by omega) hr.2.1 hu1 (by omega) hr.2.2
           · refine Ev.ifn h5 ?_
             by_cases h6:cmpI (N%2^d*2) (2^d)=0
             · refine Ev.ifp h6 (Ev.bindc (ref02_Bit_c wq (by omega)) ?_)
               rw [nv_dg hq.1]
               have h7:=cmpI_same.1 h6
               by_cases h8:N/2^d%2=1
               · refine Ev.ifp (by unfold bitI;simp [h8]) (Ev.bind A ?_)
                 have e1:rnd N d=N/2^d+1:=by
                  unfold rnd
                  rw [if_pos (.inr ⟨by omega,h8⟩)]
                 rw [e1] at hr ⊢
                 exact ref10_Of_j0 neg (by omega) hr.2.1 hu1 (by omega) hr.2.2
               · refine Ev.ifn (by unfold bitI;simp [h8]) ?_
                 have e1:rnd N d=N/2^d:=by
                  unfold rnd
                  rw [if_neg (by omega)]
                 rw [e1] at hr ⊢
                 exact ref10_Of_j0 neg (by omega) hr.2.1 hu1 (by omega) hr.2.2
             · refine Ev.ifn h6 ?_
               have e1:rnd N d=N/2^d:=by
                unfold rnd
                rw [if_neg ?_]
                intro k
                rcases k with k | k
                · exact h5 (cmpI_more.2 (by omega))
                · exact h6 (cmpI_same.2 (by omega))
               rw [e1] at hr ⊢
               exact ref10_Of_j0 neg (by omega) hr.2.1 hu1 (by omega) hr.2.2
         · refine Ev.ifn h4 ?_
           have e0:ru N e (un N e)=N*2^(e-un N e).toNat:=by
            unfold ru
            rw [show (un N e-e).toNat=0 by omega,rnd_zero]
           rw [e0] at hr ⊢
           exact ref10_Of_j0 neg hr.1 hr.2.1 hu1 (by omega) hr.2.2
theorem ref10_Half_c {l:List Int} (hl:Wl l) (hn:l.length≤900):Ev (fun k=>gr10_Half.f k l) (dg (2*nv l+1)):=by
 have h0:=nv_nonneg hl.1
 have hb:=bl_nv hl.1
 have S:=ref02_Shl_c hl (by omega) 1
 rw [shn_nat (by omega),show (1:Int).toNat=1 from rfl,Int.pow_one] at S
 refine Ev.bind S ?_
 generalize nv l=N at *
 have b1:bl (N*2)≤58000:=by
  have:=bl_mul (x:=N) (y:=2) h0 (by omega)
  have:bl 2=2:=rfl
  omega
 have lN:=dg_len_bl (N*2)
 have A:=ref02_Add_c (a:=dg (N*2)) (b:= [1]) (Wl_dg (by omega)) ⟨Ws_one (by unfold U;omega),by decide⟩ (by omega) (by decide)
 rw [nv_dg (by omega),nv_one,show N*2+1=2*N+1 by omega] at A
 exact Ev.bind A (Ev.same rfl)
theorem ref10_More_c {l:List Int} (neg:Bool) (hl:Wl l) (hn:l.length≤100) (e:Int) (more:Bool):Ev (fun k=>gr10_More.f k neg l e more) (sgn neg (if more then Rd (2*nv l+1) (ce e-1) else Rd (nv l) (ce e))):=by
 have hE:=ce_range e
 have eE:mn (mx e (-1099511627776)) 1099511627776=ce e:=rfl
 cases more
 · refine Ev.ifn (by decide) ?_
   rw [eE]
   exact Ev.bind (ref10_Of_c neg hl (by omega) (by omega) (by omega)) (Ev.same rfl)
 · refine Ev.ifp rfl (Ev.bind (ref10_Half_c hl (by omega)) ?_)
   rw [eE]
   have h0:=nv_nonneg hl.1
   have hb:=bl_nv hl.1
   have b1:bl (2*nv l+1)≤6500:=by
    have a1:=bl_lt (nv l)
    have b0:=bl_nonneg (nv l)
    have:=bl_le_of (x:=2*nv l+1) (n:=(bl (nv l)).toNat+1) (by rw [Int.pow_succ];omega)
    omega
   have lN:=dg_len_bl (2*nv l+1)
   have:=ref10_Of_c neg (l:=dg (2*nv l+1)) (Wl_dg (by omega)) (by omega) (e:=ce e-1) (by omega) (by omega)
   rw [nv_dg (by omega)] at this
   exact Ev.bind this (Ev.same rfl)
def sv (X r:Int):Int:=if r*r=X then 2*r else 2*r+1
theorem sq_step {X r r' c:Int} (h:IsRoot X r) (h':IsRoot (X*4) r') (hr:9007199254740992≤r):Rd (sv X r) c=Rd (sv (X*4) r') (c-1):=by
 have hs:0<sv X r:=by unfold sv;split<;>omega
 rw [← Rd_scale hs c 1,Int.pow_one,show c-((1:Nat):Int)=c-1 from rfl]
 obtain ⟨h0,h1,h2⟩:=h
 obtain ⟨g0,g1,g2⟩:=h'
 have e1:(2*r)*(2*r)=r*r*4:=by grind
 have e2:(2*(r+1))*(2*(r+1))=(r+1)*(r+1)*4:=by grind
 have k1:2*r≤r':=by
  have:=lt_of_sq (a:=2*r) (b:=r'+1) (by omega) (by omega)
  omega
 have k2:r'<2*(r+1):=lt_of_sq (by omega) (by omega)
 by_cases hx:r*r=X
 · have:r'=2*r:=by
    have:=le_of_sq (a:=r') (b:=2*r) (by omega) (by omega)
    omega
   unfold sv
   rw [if_pos hx,if_pos (by rw [this];omega),this]
   congr 1
   omega
 · have hx':r'*r'≠X*4:=by
    intro he
    rcases (show r'=2*r∨r'=2*r+1 by omega) with rfl | rfl
    · omega
    · have:(2*r+1)*(2*r+1)=r*r*4+4*r+1:=by grind
      omega
   unfold sv
   rw [if_neg hx,if_neg hx']
   refine Rd_cell (g:=2) (by omega) (by omega) (by omega) (by omega) ?_
   have:=bl_ge' (x:=(2*r+1)*2) (n:=55) (by omega)
   unfold un
   omega
theorem sq_steps (j:Nat) : ∀ {X r r' c:Int},IsRoot X r→IsRoot (X*4^j) r'→9007199254740992≤r→Rd (sv X r) c=Rd (sv (X*4^j) r') (c-j):=by
 induction j with
 | zero =>
   intro X r r' c h h' hr
   rw [Int.pow_zero,Int.mul_one] at h' ⊢
   rw [root_unique h h',show c-((0:Nat):Int)=c by omega]
 | succ j ih =>
   intro X r r' c h h' hr
   have e:X*4^(j+1)=X*4*4^j:=by rw [Int.pow_succ,Int.mul_comm (4^j),Int.mul_assoc]
   rw [e] at h' ⊢
   obtain ⟨h0,h1,h2⟩:=h
   have hX:0≤X:=by
    have:=Int.mul_nonneg h0 h0
    omega
   obtain ⟨s,hs⟩:=root_ex (A:=X*4) (by omega)
   have e1:(2*r)*(2*r)=r*r*4:=by grind
   have hs2:=hs.2.2
   have:2*r<s+1:=lt_of_sq (by have:=hs.1;omega) (by omega)
   rw [sq_step ⟨h0,h1,h2⟩ hs hr,ih hs h' (by omega)]
   congr 1
   omega
def IsSq (m e w:Int):Prop:= ∃ (up:Nat) (c r:Int),e-up=2*(c+1)∧IsRoot (m*2^up) r∧9007199254740992≤r∧w=Rd (sv (m*2^up) r) c
theorem four_pow (j:Nat):(4:Int)^j=2^(2*j):=by rw [Int.pow_mul];rfl
theorem IsSq_le {m e:Int} {up up':Nat} {c c' r r':Int} (hle:up≤up') (h1:e-up=2*(c+1)) (h2:IsRoot (m*2^up) r) (h3:9007199254740992≤r) (k1:e-up'=2*(c'+1)) (k2:IsRoot (m*2^up') r') :
 Rd (sv (m*2^up) r) c=Rd (sv (m*2^up') r') c':=by
 obtain ⟨j,hj⟩ : ∃ j,up'=up+2*j:=⟨(up'-up)/2,by omega⟩
 subst hj
 have e1:m*2^(up+2*j)=m*2^up*4^j:=by rw [Int.pow_add,four_pow,Int.mul_assoc]
 rw [e1] at k2 ⊢
 rw [sq_steps j h2 k2 h3]
 congr 1
 omega
theorem IsSq_unique {m e w w':Int} (h:IsSq m e w) (h':IsSq m e w'):w=w':=by
 obtain ⟨up,c,r,h1,h2,h3,rfl⟩:=h
 obtain ⟨up',c',r',k1,k2,k3,rfl⟩:=h'
 rcases Nat.le_total up up' with hle | hle
 · exact IsSq_le hle h1 h2 h3 k1 k2
 · exact (IsSq_le hle k1 k2 k3 h1 h2).symm
theorem IsSq_ex {m:Int} (h:0<m) (e:Int) : ∃ w,IsSq m e w:=by
 obtain ⟨up,hup,hp⟩ : ∃ up:Nat,(e-up)%2=0∧106≤up:=by
  rcases (show e%2=0∨e%2=1 by omega) with h1 | h1
  · exact ⟨106,by omega,by omega⟩
  · exact ⟨107,by omega,by omega⟩
 have h2:(2:Int)^106≤m*2^up:=by
  have a1:=pow_le_pow hp
  have:=Int.mul_le_mul_of_nonneg_right (show 1≤m by omega) (Int.le_of_lt (pow_pos up))
  omega
 obtain ⟨r,hr⟩:=root_ex (A:=m*2^up) (by have:=pow_pos 106;omega)
 have h3:=hr.2.2
 have:(9007199254740992:Int)<r+1:=lt_of_sq (by have:=hr.1;omega) (by omega)
 exact ⟨_,up,(e-up)/2-1,r,by omega,hr,by omega,rfl⟩
theorem sq_code {X r c:Int} (h:IsRoot X r) (hr:18014398509481984≤r):Rd (if r*r=X then r else r/2*2+1) c=Rd (sv X r) (c-1):=by
 have hs:0<(if r*r=X then r else r/2*2+1):=by split<;>omega
 rw [← Rd_scale hs c 1,Int.pow_one,show c-((1:Nat):Int)=c-1 from rfl]
 unfold sv
 by_cases hx:r*r=X
 · rw [if_pos hx,if_pos hx,Int.mul_comm]
 · rw [if_neg hx,if_neg hx]
   refine Rd_cell (g:=2) (by omega) (by omega) (by omega) (by omega) ?_
   have:=bl_ge' (x:=(r/2*2+1)*2) (n:=55) (by omega)
   unfold un
   omega

def near (b:Int):Int × Bool:=if fx b=2047∨bl (pm b)+pe b>62 then (0,false) else (if fs b then -(ru (pm b) (pe b) 0) else ru (pm b) (pe b) 0,true)
def fscale (b k:Int):Int:=if fx b=2047 then cl b else sgn (fs b) (Rd (pm b) (pe b+min (max k (-5000)) 5000))
theorem fscale_U {b:Int} (h:U b) (k:Int):U (fscale b k):=by
 unfold fscale cl
 split
 · split
   · exact NAN_U
   · exact h
 · exact sgnRd_U ..
def fkey (b:Int):Int:=if fs b then -(b-9223372036854775808) else b
def less (a b:Int):Bool:=decide (fk a≠4∧fk b≠4∧fkey a<fkey b)
def fint (n:Int):Int:=sgn (decide (n<0)) (Rd (if n<0 then -n else n) 0)
theorem fint_U (n:Int):U (fint n):=sgnRd_U ..
def V (b:Int):Int:=pm b*2^(pe b+1074).toNat
theorem V_low {b:Int} (h:fx b=0):V b=fr b:=by
 unfold V pm pe
 rw [if_pos h,if_pos h]
 show fr b*2^0=_
 rw [Int.pow_zero,Int.mul_one]
theorem V_high {b:Int} {n:Nat} (h:fx b=n+1):V b=(fr b+4503599627370496)*2^n:=by
 unfold V pm pe
 rw [if_neg (by omega),if_neg (by omega),show (fx b-1075+1074).toNat=n by omega]
theorem V_exact {M l:Int} (h0:0<M) (h1:M<9007199254740992) (hl0 : -1074≤l) (hl1:l≤971):fx (Rd M l)≠2047∧fs (Rd M l)=false∧V (Rd M l)=M*2^(l+1074).toNat∧U (Rd M l):=by
 have b0:=bl_pos h0
 have b1:bl M≤53:=bl_le_of (n:=53) h1
 have hu:un M l=max (bl M+l-53) (-1074):=rfl
 have q:=un_q (e:=l) h0
 have hz:(un M l-l).toNat=0:=by omega
 have hR:Rd M l=(un M l+1074)*4503599627370496+M*2^(l-un M l).toNat:=by
  rw [Rd_exact h0 (by omega) (by rw [hz,Int.pow_zero,Int.emod_one]),hz,Int.pow_zero,Int.ediv_one]
 rw [hz,Int.pow_zero,Int.ediv_one] at q
 rw [hR]
 have hV:M*2^(l+1074).toNat=M*2^(l-un M l).toNat*2^(un M l+1074).toNat:=by
  rw [Int.mul_assoc,← Int.pow_add]
  congr 2
  omega
 rw [hV]
 have hu1 : -1074≤un M l:=un_ge M l
 have hu2:un M l≤971:=by omega
 generalize M*2^(l-un M l).toNat=w at *
 generalize un M l=u at *
 clear hR hV hz hu
 obtain ⟨w0,w1,w2⟩:=q
 have hsp:=sgn_parts (x:=(u+1074)*4503599627370496+w) (by omega) (by omega) false
 have es:sgn false ((u+1074)*4503599627370496+w)=(u+1074)*4503599627370496+w:=rfl
 rw [es] at hsp
 obtain ⟨s1,s2,s3,s4⟩:=hsp
 generalize hb:(u+1074)*4503599627370496+w=b at *
 refine ⟨by omega,s2, ?_,s1⟩
 rcases Int.lt_or_le w 4503599627370496 with h | h
 · obtain rfl:u= -1074:=by omega
   rw [V_low (by omega)]
   show fr b=w*2^0
   rw [Int.pow_zero,Int.mul_one]
   omega
 · rw [V_high (n:=(u+1074).toNat) (by omega)]
   congr 1
   omega
theorem qv_more {N D e:Int} (hq:0<N/D):(if decide (((dg (N%D)).length:Int)>0)=true then Rd (2*(N/D)+1) (e-1) else Rd (N/D) e)=Rd (qv N D) (e-1)∨N%D<0:=by
 rcases Int.lt_or_le (N%D) 0 with h | h
 · exact .inr h
 · left
   unfold qv
   by_cases hz:N%D=0
   · rw [hz,dg_zero,if_neg (by decide),if_pos rfl,← Rd_scale hq e 1,Int.pow_one,Int.mul_comm]
     rfl
   · have:(dg (N%D)).length≠0:=fun k=>hz ((dg_len_zero h).1 (by omega))
     rw [if_pos (decide_eq_true (by omega)),if_neg hz]
def fR (neg:Bool) (N D:Int):Int:=if N=0 then 0 else sgn neg (fq N D)
theorem div_small {N D:Int} {up:Nat} (hN:0<N) (hD:0<D) {m:Int} (hm:bl N+up≤m):0≤N*2^up/D∧bl (N*2^up/D)≤m∧0≤N*2^up%D∧bl (N*2^up%D)≤m:=by
 have hp:=pow_pos up
 have h0:0<N*2^up:=Int.mul_pos hN hp
 have hb:bl (N*2^up)=bl N+up:=bl_shl hN up
 have h1:N*2^up/D≤N*2^up:=Int.ediv_le_self _ (by omega)
 have h3:=Int.mul_ediv_add_emod (N*2^up) D
 have h4:=Int.mul_nonneg (show 0≤D by omega) (Int.ediv_nonneg (show 0≤N*2^up by omega) (show 0≤D by omega))
 have h2:N*2^up%D≤N*2^up:=by omega
 exact ⟨Int.ediv_nonneg (by omega) (by omega),by have:=bl_mono h1;omega,Int.emod_nonneg _ (by omega),by have:=bl_mono h2;omega⟩
theorem fround_FromRat_c {a b:List Int} (neg:Bool) (ha:Wl a) (hb:Wl b) (hla:a.length≤30) (hlb:b.length≤30) (hB:0<nv b):Ev (fun k=>fround_FromRat.f k neg a b) (fR neg (nv a) (nv b)):=by
 have na:=nv_nonneg ha.1
 have ba:=bl_nv ha.1
 have bb:=bl_nv hb.1
 have pb:=bl_pos hB
 have b0:=bl_nonneg (nv a)
 refine Ev.bind (nat_Bits_c ha) (Ev.bind (nat_Bits_c hb) (Ev.bind (rat_Sign_c neg ha) ?_))
 have SG:=rat_Sign_c (b:=b) neg ha
 rw [w64_id (n:=bl (nv a)-bl (nv b)) (by omega) (by omega)]
 unfold fR
 by_cases hz:nv a=0
 · rw [if_pos hz]
   rw [if_pos hz] at SG ⊢
   refine Ev.ifp rfl (Ev.eqv (fun k=>fround_FromRat.j0.eq_1 ..) (Ev.ifp rfl ?_))
   cases neg
   · exact Ev.ifn (by decide) (Ev.bind (fround_made_zero false) (Ev.same rfl))
   · exact Ev.ifp rfl (Ev.bind SG (Ev.bind (fround_made_zero _) (Ev.same rfl)))
 · have hN:0<nv a:=by omega
   rw [if_neg hz] at SG ⊢
   have hs:(if neg=true then (-1:Int) else 1)≠0:=by cases neg<;>decide
   rw [if_neg hz]
   refine Ev.ifn hs (Ev.eqv (fun k=>fround_FromRat.j0.eq_1 ..) ?_)
   by_cases h1:bl (nv a)-bl (nv b) < -1200
   · refine Ev.ifp (decide_eq_true h1) ?_
     have e:fq (nv a) (nv b)=0:=by unfold fq;rw [if_pos h1]
     rw [e]
     cases neg
     · exact Ev.ifn (by decide) (Ev.bind (fround_made_zero false) (Ev.same rfl))
     · exact Ev.ifp rfl (Ev.bind SG (Ev.bind (fround_made_zero _) (Ev.same rfl)))
   · refine Ev.ifn (by simp;omega) ?_
     by_cases h2:bl (nv a)-bl (nv b)>1200
     · refine Ev.ifp h2 (Ev.bindc (fbits_Inf_c neg) (Ev.same ?_))
       unfold fq
       rw [if_neg (by omega),if_pos (by omega)]
     · refine Ev.ifn h2 ?_
       rw [fq_far hN hB (by omega) (by omega)]
       have eM:mx (wrap64 (70-(bl (nv a)-bl (nv b)))) 0=max (70-(bl (nv a)-bl (nv b))) 0:=by
        rw [w64_id (by omega) (by omega)];unfold mx;split<;>omega
       rw [eM]
       have S:=nat_Shl_c ha (by omega) (max (70-(bl (nv a)-bl (nv b))) 0)
       rw [shn_of (by omega) (by omega)] at S
       refine Ev.bind S ?_
       obtain ⟨up,hup⟩ : ∃ up:Nat,max (70-(bl (nv a)-bl (nv b))) 0=(up:Int):=⟨(max (70-(bl (nv a)-bl (nv b))) 0).toNat,by omega⟩
       have q:=quot_big (up:=up) (g:=1) hN hB (by omega)
       rw [hup,Int.toNat_natCast]
       have ds:=div_small (up:=up) hN hB (m:=4000) (by omega)
       have hp0:0<nv a*2^up:=Int.mul_pos hN (pow_pos up)
       have bs:bl (nv a*2^up)=bl (nv a)+up:=bl_shl hN up
       have ls:=dg_len_bl (nv a*2^up)
       have D:=quot_Div_c (a:=dg (nv a*2^up)) (b:=b) (Wl_dg (by omega)) hb (by omega)
       rw [if_neg (by omega),nv_dg (by omega)] at D
       refine Ev.bind D ?_
       dsimp only
       have lq:=dg_len_bl (nv a*2^up/nv b)
       have F:=fround_Of_c neg (l:=dg (nv a*2^up/nv b)) (Wl_dg (by omega)) (by omega) (wrap64 (-(up:Int))) (decide (((dg (nv a*2^up%nv b)).length:Int)>0))
       rw [nv_dg ds.1,w64_id (by omega) (by omega),ce_id (by omega) (by omega)] at F
       have k:=qv_more (N:=nv a*2^up) (D:=nv b) (e:= -(up:Int)) (by omega)
       rw [k.resolve_right (by omega)] at F
       rw [w64_id (by omega) (by omega)]
       exact Ev.bind F (Ev.same rfl)
theorem or_one {x:Int} (h:U x):Go.bits .or .u64 x 1=x/2*2+1:=by
 obtain ⟨h0,h1⟩:=h
 have hj:Go.bits .or .u64 (x/2*2) 1=x/2*2+1:=or_join 1 _ _ (by omega) (by omega) (by omega) (by omega) (by omega) (by omega)
 rcases (show x%2=0∨x%2=1 by omega) with h | h
 · rw [show x/2*2=x by omega] at hj ⊢
   exact hj
 · obtain ⟨a,ha⟩:=Int.eq_ofNat_of_zero_le (show 0≤x/2*2 by omega)
   rw [ha] at hj ⊢
   have e1:=or_nat a 1 (by omega) (by decide)
   have e2:=or_nat (a ||| 1) 1 (by have:=Nat.or_lt_two_pow (n:=64) (x:=a) (y:=1) (by omega) (by decide);exact this) (by decide)
   rw [Nat.or_assoc,Nat.or_self] at e2
   rw [show ((1:Nat):Int)=1 from rfl] at e1 e2
   rw [hj] at e1
   rw [← e1] at e2
   rw [show x=(a:Int)+1 by omega]
   exact e2
theorem fsum_odd_c {m:Int} (h0:0≤m) (h1:m<9007199254740992) (s:Nat):fsum_odd.f m s=some (st m s):=by
 unfold fsum_odd.f
 by_cases hs:(s:Int)>63
 · rw [if_pos hs]
   have:=pow_le_pow (a:=64) (b:=s) (by omega)
   unfold st mn
   rw [Int.emod_eq_of_lt h0 (by omega),Int.ediv_eq_zero_of_lt h0 (by omega)]
   rcases (show m=0∨1≤m by omega) with h | h
   · rw [h];rfl
   · rw [if_neg (show ¬ m=0 by omega)]
     congr 1
     split<;>omega
 · rw [if_neg hs,if_pos (by omega),shr_u _ _ (by omega),shl_u _ _ (by omega),Int.toNat_natCast]
   have hp:=pow_pos s
   have hd:=Int.mul_ediv_add_emod m (2^s)
   have hr:=Int.emod_nonneg m (show (2:Int)^s≠0 by omega)
   have hq:0≤m/2^s:=Int.ediv_nonneg h0 (by omega)
   have hqm:m/2^s≤m:=Int.ediv_le_self _ h0
   have hpq:0≤m/2^s*2^s:=Int.mul_nonneg hq (by omega)
   rw [Int.mul_comm] at hd
   rw [Int.emod_eq_of_lt hpq (by omega),or_one (by unfold U;omega)]
   unfold st
   by_cases h:m%2^s=0
   · rw [if_pos h,if_pos (by omega)]
   · rw [if_neg h,if_neg (by omega)]
theorem fsum_finite_j0 {m e n f:Int} (a b:Bool) (hm0:0≤m) (hm:m<9007199254740992) (hn0:0≤n) (hn:n<9007199254740992) (hef:f≤e) (hf : -1074≤f) (he:e≤1000) (hw:e= -1074∨4503599627370496≤m) :
 Ev (fun k=>fsum_finite.j0 k a m e b n f) (if a=b then sgn a (Rd (m*2^(e-f).toNat+n) f) else if m*2^(e-f).toNat=n then 0 else if m*2^(e-f).toNat>n then sgn a (Rd (m*2^(e-f).toNat-n) f) else sgn b (Rd (n-m*2^(e-f).toNat) f)):=by
 refine Ev.eqv (fun k=>fsum_finite.j0.eq_1 ..) ?_
 have e1:mn (wrap64 (e-f)) 10=min (e-f) 10:=by
  rw [w64_id (by omega) (by omega)]
  unfold mn
  split<;>omega
 obtain ⟨up,hup⟩ : ∃ up:Nat,(up:Int)=min (e-f) 10:=⟨(min (e-f) 10).toNat,by omega⟩
 obtain ⟨s,hs⟩ : ∃ s:Nat,e-up-f=s:=⟨(e-up-f).toNat,by omega⟩
 rw [e1,← hup]
 have e2:wrap64 (e-(up:Int))=e-up:=w64_id (by omega) (by omega)
 have e3:wrap64 (e-(up:Int)-f)=s:=by rw [w64_id (by omega) (by omega)];exact hs
 rw [e2,e3]
 refine Ev.ifp (by omega) (Ev.bindc (fsum_odd_c hn0 hn s) ?_)
 have hS:=sum_st hm0 hm hn0 hn hef hf hw hup hs
 have hX0:0≤m*2^up:=Int.mul_nonneg hm0 (by have:=pow_pos up;omega)
 have hX1:m*2^up≤9007199254740991*1024:=Int.mul_le_mul (by omega) (pow_le_pow (show up≤10 by omega)) (by have:=pow_pos up;omega) (by omega)
 have hY0:=st_nonneg hn0 s
 have hY1:st n s≤n+1:=by
  have:=st_le hn0 s
  have:n/2^s≤n:=Int.ediv_le_self _ hn0
  omega
 rw [Int.toNat_natCast,wu_id hX0 (by omega),wu_id (n:=m*2^up+st n s) (by omega) (by omega)]
 obtain ⟨s1,s2,s3,s4,s5⟩:=hS
 generalize m*2^up=X at *
 generalize st n s=Y at *
 generalize m*2^(e-f).toNat=M at *
 have hce:ce (e-(up:Int))=e-up:=ce_id (by omega) (by omega)
 by_cases hab:a=b
 · rw [if_pos hab]
   refine Ev.ifp (by rw [hab];simp) ?_
   refine Ev.bind (fround_Word_c (e:=e-(up:Int)) a (m:=X+Y) (by unfold U;omega)) (Ev.same ?_)
   rw [hce,s1]
 · rw [if_neg hab]
   refine Ev.ifn (by simp [hab]) ?_
   by_cases h1:X>Y
   · rw [if_neg (show ¬ M=n by omega),if_pos (s2.1 h1)]
     refine Ev.ifp h1 ?_
     rw [wu_id (by omega) (by omega)]
     refine Ev.bind (fround_Word_c (e:=e-(up:Int)) a (m:=X-Y) (by unfold U;omega)) (Ev.same ?_)
     rw [hce,s4 h1]
   · refine Ev.ifn h1 ?_
     by_cases h2:X<Y
     · rw [if_neg (show ¬ M=n by omega),if_neg (show ¬ M>n by omega)]
       refine Ev.ifp h2 ?_
       rw [wu_id (by omega) (by omega)]
       refine Ev.bind (fround_Word_c (e:=e-(up:Int)) b (m:=Y-X) (by unfold U;omega)) (Ev.same ?_)
       rw [hce,s5 h2]
     · rw [if_pos (show M=n by omega)]
       exact Ev.ifn h2 (Ev.same rfl)
theorem fsum_finite_c {a b:Int} (ha:fx a≠2047) (hb:fx b≠2047):Ev (fun k=>fsum_finite.f k (fs a) (pm a) (pe a) (fs b) (pm b) (pe b)) (fsF a b):=by
 have a1:=pm_range a
 have a2:=pe_range a
 have b1:=pm_range b
 have b2:=pe_range b
 by_cases h:pe a<pe b
 · refine Ev.ifp h ((fsum_finite_j0 (fs b) (fs a) b1.1 b1.2 a1.1 a1.2 (by omega) (by omega) (by omega) b2.2.2.2).eqr ?_)
   rw [fsF_comm]
   unfold fsF
   rw [show min (pe b) (pe a)=pe a by omega,show (pe a-pe a).toNat=0 by omega,Int.pow_zero,Int.mul_one]
 · refine Ev.ifn h ((fsum_finite_j0 (fs a) (fs b) a1.1 a1.2 b1.1 b1.2 (by omega) (by omega) (by omega) a2.2.2.2).eqr ?_)
   unfold fsF
   rw [show min (pe a) (pe b)=pe b by omega,show (pe b-pe b).toNat=0 by omega,Int.pow_zero,Int.mul_one]
theorem fsum_of_c {b:Int} (h:U b) (hx:fx b≠2047):Ev (fun k=>fsum_of.f k b) (fs b,pm b,pe b):=by
 have:=fbits_Parts_c h
 rw [if_neg hx] at this
 exact Ev.bind this (Ev.same rfl)
theorem fsum_Add_c {a b:Int} (ha:U a) (hb:U b):Ev (fun k=>fsum_Add.f k a b) (fadd a b):=by
 refine Ev.bindc (fbits_Kind_c ha) (Ev.bindc (fbits_Kind_c hb) ?_)
 have nan : ∀ t:Bool,t=true→(fk a=4∨fk b=4)→Ev (fun k=>fsum_Add.j0 k a b (fk a) (fk b) t) (fadd a b):=by
  intro t ht h
  refine Ev.step (fun k=>fsum_Add.j0.eq_2 ..) (Ev.ifp ht (Ev.bindc fbits_Nan_c (Ev.same ?_)))
  unfold fadd
  rw [if_pos h]
 by_cases h1:fk a=4
 · exact Ev.ifp h1 (nan _ rfl (.inl h1))
 · refine Ev.ifn h1 ?_
   by_cases h2:fk b=4
   · exact nan _ (by rw [h2];rfl) (.inr h2)
   · refine Ev.step (fun k=>fsum_Add.j0.eq_2 ..) (Ev.ifn (by simp [h2]) ?_)
     have j1 : ∀ t:Bool,(t=true↔(fk a=3∧fk b=3∧a≠b))→Ev (fun k=>fsum_Add.j1 k a b (fk a) (fk b) t) (fadd a b):=by
      intro t ht
      refine Ev.step (fun k=>fsum_Add.j1.eq_2 ..) ?_
      unfold fadd
      rw [if_neg (show ¬ (fk a=4∨fk b=4) by omega)]
      by_cases h3:fk a=3∧fk b=3∧a≠b
      · rw [if_pos h3]
        exact Ev.ifp (ht.2 h3) (Ev.bindc fbits_Nan_c (Ev.same rfl))
      · rw [if_neg h3]
        refine Ev.ifn (fun k=>h3 (ht.1 k)) ?_
        by_cases h4:fk a=3
        · rw [if_pos h4]
          exact Ev.ifp h4 (Ev.same rfl)
        · rw [if_neg h4]
          refine Ev.ifn h4 ?_
          by_cases h5:fk b=3
          · rw [if_pos h5]
            exact Ev.ifp h5 (Ev.same rfl)
          · rw [if_neg h5]
            refine Ev.ifn h5 (Ev.bind (fsum_of_c ha (fk_fin (fun k=>h1 k) h4)) (Ev.bind (fsum_of_c hb (fk_fin h2 h5)) ?_))
            exact Ev.bind (fsum_finite_c (fk_fin h1 h4) (fk_fin h2 h5)) (Ev.same rfl)
     by_cases h3:fk a=3
     · refine Ev.ifp h3 ?_
       by_cases h4:fk b=3
       · exact Ev.ifp h4 (j1 _ (by simp [h3,h4]))
       · exact Ev.ifn h4 (j1 _ (by simp [h4]))
     · exact Ev.ifn h3 (j1 _ (by simp [h3]))
theorem fsum_Sub_c {a b:Int} (ha:U a) (hb:U b):Ev (fun k=>fsum_Sub.f k a b) (fsub a b):=Ev.bindc (fbits_Flip_c hb) (Ev.bind (fsum_Add_c ha (fl_U b)) (Ev.same rfl))

theorem and_one_i64 (x:Int):Go.bits .and .i64 x 1=x%2:=by
 have e:Go.bits .and .i64 x 1=IntKind.i64.wrap (((x%18446744073709551616).toNat &&& 1:Nat):Int):=by
  simp only [Go.bits,BitVec.toNat_and,BitVec.toNat_ofInt]
  rfl
 rw [e,Nat.and_one_is_mod,IntKind.wrap_i64]
 omega
theorem parts_fin {b:Int} (h:U b) (hx:fx b≠2047):Ev (fun k=>fbits_Parts.f k b) (fs b,pm b,pe b,true):=by
 have:=fbits_Parts_c h
 rwa [if_neg hx] at this
theorem mul_word {m n E:Int} (neg:Bool) (hm0:0≤m) (hm:m<9007199254740992) (hn0:0≤n) (hn:n<9007199254740992) (hE0 : -3000≤E) (hE1:E≤3000) :
 Ev (fun k=>(limb_Mul.f m n).bind fun bt898=>((limb_Len.f k bt898.1).bind fun t900=>(if t900=0 then ((fround_Word.f k neg bt898.2 E).bind fun t901=>(some t901)) else (if 0≤(wrap64 (64-t900)) then (if 0≤t900 then (if (shl .u64 bt898.2 (wrap64 (64-t900)))=0 then ((fround_Word.f k neg (Go.bits .or .u64 (shl .u64 bt898.1 (wrap64 (64-t900))) (shr .u64 bt898.2 t900)) (wrap64 (E+t900))).bind fun t902=>(some t902)) else ((fround_Word.f k neg (Go.bits .or .u64 (Go.bits .or .u64 (shl .u64 bt898.1 (wrap64 (64-t900))) (shr .u64 bt898.2 t900)) 1) (wrap64 (E+t900))).bind fun t903=>(some t903))) else (none)) else (none))))) (sgn neg (Rd (m*n) E)):=by
 have hP0:0≤m*n:=Int.mul_nonneg hm0 hn0
 have hP1:m*n≤9007199254740991*9007199254740991:=Int.mul_le_mul (by omega) (by omega) hn0 (by omega)
 refine Ev.bindc (limb_Mul_c (a:=m) (b:=n) (by unfold U;omega) (by unfold U;omega)) ?_
 dsimp only
 generalize m*n=P at *
 have hhi:U (P/18446744073709551616):=by unfold U;omega
 refine Ev.bind (limb_Len_c hhi) ?_
 have b1:=bl_nonneg (P/18446744073709551616)
 have b2:bl (P/18446744073709551616)≤42:=bl_le_of (n:=42) (by omega)
 by_cases hz:bl (P/18446744073709551616)=0
 · have h0:P/18446744073709551616=0:=by
    rcases (show P/18446744073709551616=0∨0<P/18446744073709551616 by omega) with h | h
    · exact h
    · have:=bl_pos h
      omega
   refine Ev.ifp hz (Ev.bind (fround_Word_c (e:=E) neg (m:=P%18446744073709551616) (by unfold U;omega)) (Ev.same ?_))
   rw [ce_id (by omega) (by omega),show P%18446744073709551616=P by omega]
 · refine Ev.ifn hz ?_
   have hbP:bl P=bl (P/18446744073709551616)+64:=by
    have hge:18446744073709551616≤P:=by
     rcases Int.lt_or_le P 18446744073709551616 with h | h
     · rw [Int.ediv_eq_zero_of_lt hP0 h] at hz
       exact absurd bl_zero hz
     · exact h
    exact bl_shr (x:=P) (s:=64) hge
   have hlt:=bl_lt (P/18446744073709551616)
   obtain ⟨s,hs⟩ : ∃ s:Nat,bl (P/18446744073709551616)=s:=⟨(bl (P/18446744073709551616)).toNat,by omega⟩
   rw [hs] at hlt hz b2 hbP ⊢
   rw [Int.toNat_natCast] at hlt
   rw [w64_id (n:=64-(s:Int)) (by omega) (by omega)]
   refine Ev.ifp (by omega) (Ev.ifp (by omega) ?_)
   rw [shl_u _ _ (by omega),shl_u _ _ (by omega),shr_u _ _ (by omega),show (64-(s:Int)).toNat=64-s by omega,Int.toNat_natCast,mod_up _ (show s≤64 by omega)]
   have hp:=pow_pos s
   have hp2:=pow_pos (64-s)
   have hpp:(2:Int)^(64-s)*2^s=18446744073709551616:=by rw [← Int.pow_add,show 64-s+s=64 by omega];rfl
   have hhi0:0≤P/18446744073709551616*2^(64-s):=Int.mul_nonneg (by omega) (by omega)
   have hhi1:P/18446744073709551616*2^(64-s)+2^(64-s)≤18446744073709551616:=by
    have:=Int.mul_le_mul_of_nonneg_right (show P/18446744073709551616+1≤2^s by omega) (Int.le_of_lt hp2)
    rw [Int.add_mul,Int.one_mul,Int.mul_comm (2^s),hpp] at this
    exact this
   have hlo0:0≤P%18446744073709551616/2^s:=Int.ediv_nonneg (by omega) (by omega)
   have hlo1:P%18446744073709551616/2^s<2^(64-s):=by rw [Int.ediv_lt_iff_lt_mul hp,hpp];omega
   have eP:P=P/18446744073709551616*2^(64-s)*2^s+P%18446744073709551616:=by rw [Int.mul_assoc,hpp];omega
   have eq1:P/18446744073709551616*2^(64-s)+P%18446744073709551616/2^s=P/2^s:=by
    conv=>rhs;rw [eP]
    rw [Int.add_comm (P/18446744073709551616*2^(64-s)*2^s),Int.add_mul_ediv_right _ _ (by omega),Int.add_comm]
   have eq2:P%18446744073709551616%2^s=P%2^s:=by
    conv=>rhs;rw [eP]
    rw [Int.add_comm,Int.add_mul_emod_self_right]
   have hor:Go.bits .or .u64 (P/18446744073709551616*2^(64-s)%18446744073709551616) (P%18446744073709551616/2^s)=P/2^s:=by
    rw [Int.emod_eq_of_lt hhi0 (by omega),or_join (64-s) _ _ hhi0 (Int.mul_emod_left ..) (by omega) hlo0 hlo1 (by omega)]
    exact eq1
   rw [hor,eq2,w64_id (by omega) (by omega)]
   have hU:U (P/2^s):=by unfold U;omega
   have hPpos:0<P:=by
    rcases (show P=0∨0<P by omega) with h | h
    · rw [h,bl_zero] at hbP;omega
    · exact h
   have hst:=Rd_st (M:=P) (e:=E) (s:=s) hPpos (by unfold un;omega)
   have r0:=Int.emod_nonneg P (show (2:Int)^s≠0 by omega)
   by_cases h1:P%2^s=0
   · refine Ev.ifp (by rw [h1,Int.mul_zero]) ?_
     unfold st at hst
     rw [if_pos h1] at hst
     refine Ev.bind (fround_Word_c (e:=E+s) neg hU) (Ev.same ?_)
     rw [ce_id (by omega) (by omega),hst]
   · refine Ev.ifn ?_ ?_
     · have:=Int.mul_pos hp2 (show 0<P%2^s by omega)
       omega
     · unfold st at hst
       rw [if_neg h1] at hst
       rw [or_one hU]
       refine Ev.bind (fround_Word_c (e:=E+s) neg (m:=P/2^s/2*2+1) (by unfold U at *;omega)) (Ev.same ?_)
       rw [ce_id (by omega) (by omega),hst]
theorem fprod_Mul_c {a b:Int} (ha:U a) (hb:U b):Ev (fun k=>fprod_Mul.f k a b) (fmul a b):=by
 refine Ev.bindc (fbits_Kind_c ha) (Ev.bindc (fbits_Kind_c hb) (Ev.bindc (fbits_Neg_c ha) (Ev.bindc (fbits_Neg_c hb) ?_)))
 have eb:(!(fs a==fs b))=(fs a !=fs b):=rfl
 rw [eb]
 generalize hneg:(fs a !=fs b)=neg
 have hF:fmul a b=if fk a=4∨fk b=4∨(fk a=3∧fk b=0)∨(fk a=0∧fk b=3) then NAN else if fk a=3∨fk b=3 then sgn neg INF else sgn neg (Rd (pm a*pm b) (pe a+pe b)):=by
  unfold fmul
  rw [hneg]
 have j2 : ∀ t:Bool,(fk a≠4∧fk b≠4)→(fk a=3∨fk b=3)→(t=true↔(fk a=0∨fk b=0))→Ev (fun k=>fprod_Mul.j2 k neg t) (fmul a b):=by
  intro t h4 h3 ht
  refine Ev.step (fun k=>fprod_Mul.j2.eq_2 ..) ?_
  rw [hF]
  by_cases h:fk a=0∨fk b=0
  · have hc:fk a=4∨fk b=4∨(fk a=3∧fk b=0)∨(fk a=0∧fk b=3):=by omega
    rw [if_pos hc]
    exact Ev.ifp (ht.2 h) (Ev.bindc fbits_Nan_c (Ev.same rfl))
  · rw [if_neg (show ¬ (fk a=4∨fk b=4∨(fk a=3∧fk b=0)∨(fk a=0∧fk b=3)) by omega),if_pos h3]
    exact Ev.ifn (fun k=>h (ht.1 k)) (Ev.bindc (fbits_Inf_c neg) (Ev.same rfl))
 have j1 : ∀ t:Bool,(fk a≠4∧fk b≠4)→(t=true↔(fk a=3∨fk b=3))→Ev (fun k=>fprod_Mul.j1 k a b (fk a) (fk b) neg t) (fmul a b):=by
  intro t h4 ht
  refine Ev.step (fun k=>fprod_Mul.j1.eq_2 ..) ?_
  by_cases h:fk a=3∨fk b=3
  · refine Ev.ifp (ht.2 h) ?_
    by_cases h0:fk a=0
    · exact Ev.ifp h0 (j2 _ h4 h (by simp [h0]))
    · exact Ev.ifn h0 (j2 _ h4 h (by simp [h0]))
  · refine Ev.ifn (fun k=>h (ht.1 k)) ?_
    have fa:fx a≠2047:=fk_fin h4.1 (fun k=>h (.inl k))
    have fb:fx b≠2047:=fk_fin h4.2 (fun k=>h (.inr k))
    refine Ev.bind (parts_fin ha fa) (Ev.bind (parts_fin hb fb) ?_)
    have a1:=pm_range a
    have a2:=pe_range a
    have b1:=pm_range b
    have b2:=pe_range b
    dsimp only
    rw [w64_id (n:=pe a+pe b) (by omega) (by omega)]
    rw [hF,if_neg (show ¬ (fk a=4∨fk b=4∨(fk a=3∧fk b=0)∨(fk a=0∧fk b=3)) by omega),if_neg h]
    exact mul_word neg a1.1 a1.2 b1.1 b1.2 (by omega) (by omega)
 have j0 : ∀ t:Bool,(t=true↔(fk a=4∨fk b=4))→Ev (fun k=>fprod_Mul.j0 k a b (fk a) (fk b) neg t) (fmul a b):=by
  intro t ht
  refine Ev.step (fun k=>fprod_Mul.j0.eq_2 ..) ?_
  by_cases h:fk a=4∨fk b=4
  · refine Ev.ifp (ht.2 h) (Ev.bindc fbits_Nan_c (Ev.same ?_))
    have hc:fk a=4∨fk b=4∨(fk a=3∧fk b=0)∨(fk a=0∧fk b=3):=by omega
    rw [hF,if_pos hc]
  · refine Ev.ifn (fun k=>h (ht.1 k)) ?_
    by_cases h3:fk a=3
    · exact Ev.ifp h3 (j1 _ (by omega) (by simp [h3]))
    · exact Ev.ifn h3 (j1 _ (by omega) (by simp [h3]))
 by_cases h:fk a=4
 · exact Ev.ifp h (j0 _ (by simp [h]))
 · exact Ev.ifn h (j0 _ (by simp [h]))

theorem fprod_signed_c (neg:Bool):Ev (fun k=>fprod_signed.f k neg) (sgn neg 0):=by
 refine Ev.bind (fbits_Make_c neg (m:=0) (e:=0) (by unfold U;omega) (by omega) (by omega)) (Ev.same ?_)
 rw [Mk_zero]
theorem top_word {m:Int} (h0:0<m) (h1:m<9007199254740992):4611686018427387904≤m*2^(63-bl m).toNat∧m*2^(63-bl m).toNat<9223372036854775808∧9223372036854775808≤m*2^(64-bl m).toNat∧m*2^(64-bl m).toNat<18446744073709551616:=by
 have b2:bl m≤53:=bl_le_of (n:=53) (by omega)
 have t:=bl_top h0 (by omega)
 have e:m*2^(64-bl m).toNat=m*2^(63-bl m).toNat*2:=by
  rw [show (64-bl m).toNat=(63-bl m).toNat+1 by omega,Int.pow_succ,Int.mul_assoc]
 rw [e] at t ⊢
 omega
theorem fprod_Div_c {a b:Int} (ha:U a) (hb:U b):Ev (fun k=>fprod_Div.f k a b) (fdiv a b):=by
 refine Ev.bindc (fbits_Kind_c ha) (Ev.bindc (fbits_Kind_c hb) (Ev.bindc (fbits_Neg_c ha) (Ev.bindc (fbits_Neg_c hb) ?_)))
 have eb:(!(fs a==fs b))=(fs a !=fs b):=rfl
 rw [eb]
 generalize hneg:(fs a !=fs b)=neg
 have hF:fdiv a b=if fk a=4∨fk b=4∨(fk a=3∧fk b=3)∨(fk a=0∧fk b=0) then NAN else if fk a=3∨fk b=0 then sgn neg INF else if fk a=0∨fk b=3 then sgn neg 0 else sgn neg (qd (pm a) (pe a) (pm b) (pe b)):=by
  unfold fdiv
  rw [hneg]
 have j1 : ∀ t:Bool,¬ (fk a=4∨fk b=4∨(fk a=3∧fk b=3)∨(fk a=0∧fk b=0))→(t=true↔(fk a=3∨fk b=0))→Ev (fun k=>fprod_Div.j1 k a b (fk a) (fk b) neg t) (fdiv a b):=by
  intro t h4 ht
  refine Ev.step (fun k=>fprod_Div.j1.eq_2 ..) ?_
  rw [hF,if_neg h4]
  by_cases h:fk a=3∨fk b=0
  · rw [if_pos h]
    exact Ev.ifp (ht.2 h) (Ev.bindc (fbits_Inf_c neg) (Ev.same rfl))
  · rw [if_neg h]
    refine Ev.ifn (fun k=>h (ht.1 k)) ?_
    by_cases h1:fk a=0
    · rw [if_pos (.inl h1)]
      exact Ev.ifp h1 (Ev.bind (fprod_signed_c neg) (Ev.same rfl))
    · refine Ev.ifn h1 ?_
      by_cases h2:fk b=3
      · rw [if_pos (.inr h2)]
        exact Ev.ifp h2 (Ev.bind (fprod_signed_c neg) (Ev.same rfl))
      · rw [if_neg (by omega)]
        have fa:fx a≠2047:=fk_fin (by omega) (by omega)
        have fb:fx b≠2047:=fk_fin (by omega) (by omega)
        have za:pm a≠0:=fun k=>h1 ((fk_eq a).2.2.2.1.2 ⟨fa,k⟩)
        have zb:pm b≠0:=fun k=>h (.inr ((fk_eq b).2.2.2.1.2 ⟨fb,k⟩))
        refine Ev.ifn h2 (Ev.bind (parts_fin ha fa) (Ev.bind (parts_fin hb fb) ?_))
        have a1:=pm_range a
        have a2:=pe_range a
        have b1:=pm_range b
        have b2:=pe_range b
        have na:=bl_nonneg (pm a)
        have nb:=bl_nonneg (pm b)
        have ba:bl (pm a)≤53:=bl_le_of (n:=53) (by omega)
        have bb:bl (pm b)≤53:=bl_le_of (n:=53) (by omega)
        have ta:=top_word (m:=pm a) (by omega) a1.2
        have tb:=top_word (m:=pm b) (by omega) b1.2
        have a3 : -1074≤pe a∧pe a≤972:=⟨a2.1,a2.2.1⟩
        have b3 : -1074≤pe b∧pe b≤972:=⟨b2.1,b2.2.1⟩
        dsimp only
        refine Ev.bind (limb_Len_c (x:=pm a) (by unfold U;omega)) (Ev.bind (limb_Len_c (x:=pm b) (by unfold U;omega)) ?_)
        clear a2 b2 hF h4 ht h h1 h2 fa fb
        unfold qd
        generalize pm a=m at *
        generalize pm b=n at *
        generalize pe a=e at *
        generalize pe b=f at *
        rw [w64_id (n:=63-bl m) (by omega) (by omega),w64_id (n:=64-bl n) (by omega) (by omega)]
        refine Ev.ifp (by omega) (Ev.ifp (by omega) ?_)
        rw [shl_u _ _ (by omega),shl_u _ _ (by omega),Int.emod_eq_of_lt (by omega) (by omega),Int.emod_eq_of_lt (by omega) (by omega)]
        rw [w64_id (n:=e-(63-bl m)) (by omega) (by omega),w64_id (n:=e-(63-bl m)-f) (by omega) (by omega),w64_id (n:=e-(63-bl m)-f+(64-bl n)) (by omega) (by omega),w64_id (n:=e-(63-bl m)-f+(64-bl n)-64) (by omega) (by omega)]
        have eE:e-(63-bl m)-f+(64-bl n)-64=e-f+bl m-bl n-63:=by omega
        have eE2:e-f+bl m-bl n-64=e-f+bl m-bl n-63-1:=by omega
        have hE : -5000≤e-f+bl m-bl n-63∧e-f+bl m-bl n-63≤5000:=by omega
        rw [eE,eE2]
        generalize e-f+bl m-bl n-63=E at *
        generalize m*2^(63-bl m).toNat=M at *
        generalize n*2^(64-bl n).toNat=N at *
        have D:=limb_Div_c (hi:=M) (lo:=0) (d:=N) (by omega) (by omega) (by omega) (by unfold U;omega)
        rw [Int.add_zero] at D
        have q0:4611686018427387904≤M*18446744073709551616/N:=by rw [Int.le_ediv_iff_mul_le (by omega)];omega
        have q1:M*18446744073709551616/N<18446744073709551616:=by rw [Int.ediv_lt_iff_lt_mul (by omega)];omega
        refine Ev.bind D ?_
        dsimp only
        generalize M*18446744073709551616/N=q at *
        generalize M*18446744073709551616%N=r at *
        by_cases hr:r=0
        · rw [if_pos hr]
          refine Ev.ifp hr (Ev.bind (fround_Word_c (e:=E) neg (m:=q) (by unfold U;omega)) (Ev.same ?_))
          rw [ce_id (by omega) (by omega)]
        · rw [if_neg hr]
          refine Ev.ifn hr ?_
          rw [or_one (by unfold U;omega)]
          refine Ev.bind (fround_Word_c (e:=E) neg (m:=q/2*2+1) (by unfold U;omega)) (Ev.same ?_)
          rw [ce_id (by omega) (by omega),qd_code q0]
 have j0 : ∀ t:Bool,(t=true↔(fk a=4∨fk b=4∨(fk a=3∧fk b=3)∨(fk a=0∧fk b=0)))→Ev (fun k=>fprod_Div.j0 k a b (fk a) (fk b) neg t) (fdiv a b):=by
  intro t ht
  refine Ev.step (fun k=>fprod_Div.j0.eq_2 ..) ?_
  by_cases h:fk a=4∨fk b=4∨(fk a=3∧fk b=3)∨(fk a=0∧fk b=0)
  · refine Ev.ifp (ht.2 h) (Ev.bindc fbits_Nan_c (Ev.same ?_))
    rw [hF,if_pos h]
  · refine Ev.ifn (fun k=>h (ht.1 k)) ?_
    by_cases h3:fk a=3
    · exact Ev.ifp h3 (j1 _ h (by simp [h3]))
    · exact Ev.ifn h3 (j1 _ h (by simp [h3]))
 by_cases h:fk a=4
 · exact Ev.ifp h (j0 _ (by simp [h]))
 · refine Ev.ifn h ?_
   by_cases h2:fk b=4
   · exact Ev.ifp h2 (j0 _ (by simp [h2]))
   · refine Ev.ifn h2 ?_
     by_cases h3:fk a=fk b
     · refine Ev.ifp h3 ?_
       by_cases h5:fk a=3
       · exact Ev.ifp h5 (j0 _ (by simp;omega))
       · exact Ev.ifn h5 (j0 _ (by simp;omega))
     · exact Ev.ifn h3 (j0 _ (by simp;omega))

theorem sq_test {t hi:Int} (h0:0≤t) (h1:t<18446744073709551616) (hhi:U hi):(t*t/18446744073709551616<hi∨(t*t/18446744073709551616=hi∧t*t%18446744073709551616=0))↔t*t≤hi*18446744073709551616:=by
 have:=Int.mul_nonneg h0 h0
 generalize t*t=q at *
 omega
theorem fprod_root_l {hi R:Int} (hhi:U hi) (hR:IsRoot (hi*18446744073709551616) R) (hR1:R<18446744073709551616) (j:Nat) (hj:j≤64) : ∀ r:Int,0≤r→r%2^j=0→r≤R→R<r+2^j→Ev (fun k=>fprod_root.l0 k hi r (2^j/2)) (R,decide (R*R=hi*18446744073709551616)):=by
 induction j with
 | zero =>
   intro r h0 hm h1 h2
   rw [Int.pow_zero] at h2
   obtain rfl:r=R:=by omega
   refine Ev.step (fun k=>fprod_root.l0.eq_2 ..) (Ev.ifn (by decide) ?_)
   refine Ev.bindc (limb_Mul_c (a:=r) (b:=r) (by unfold U;omega) (by unfold U;omega)) ?_
   dsimp only
   have:=Int.mul_nonneg h0 h0
   have hle:=hR.2.1
   generalize r*r=q at *
   by_cases h:q/18446744073709551616=hi
   · refine Ev.ifp h (Ev.same ?_)
     congr 2
     by_cases h3:q%18446744073709551616=0
     · rw [h3,decide_eq_true (by omega)];rfl
     · rw [decide_eq_false (by omega),beq_eq_false_iff_ne]
       exact h3
   · refine Ev.ifn h (Ev.same ?_)
     rw [decide_eq_false (by omega)]
 | succ j ih =>
   intro r h0 hm h1 h2
   have hp:=pow_pos j
   have e2:(2:Int)^(j+1)/2=2^j:=by rw [Int.pow_succ];omega
   have hle63:(2:Int)^j≤2^63:=pow_le_pow (by omega)
   rw [e2]
   refine Ev.step (fun k=>fprod_root.l0.eq_2 ..) (Ev.ifp hp ?_)
   rw [Int.pow_succ] at h2
   have hdvd:r+2^j<18446744073709551616:=by
    have hm':=Int.mul_ediv_add_emod r (2^(j+1))
    rw [hm,Int.add_zero] at hm'
    have hp1:=pow_pos (j+1)
    have hpp:(2:Int)^(j+1)*2^(63-j)=18446744073709551616:=by rw [← Int.pow_add,show j+1+(63-j)=64 by omega];rfl
    have hq:r/2^(j+1)<2^(63-j):=by rw [Int.ediv_lt_iff_lt_mul hp1,Int.mul_comm,hpp];omega
    have:=Int.mul_le_mul_of_nonneg_left (show r/2^(j+1)+1≤2^(63-j) by omega) (Int.le_of_lt hp1)
    rw [hpp,Int.mul_add,Int.mul_one,hm',Int.pow_succ] at this
    omega
   rw [or_join (j+1) _ _ h0 hm (by omega) (by omega) (by rw [Int.pow_succ];omega) (by omega)]
   refine Ev.bindc (limb_Mul_c (a:=r+2^j) (b:=r+2^j) (by unfold U;omega) (by unfold U;omega)) ?_
   dsimp only
   have ht:=sq_test (t:=r+2^j) (by omega) hdvd hhi
   have hm2:(r+2^j)%2^j=0:=by
    have hm':=Int.mul_ediv_add_emod r (2^(j+1))
    rw [hm,Int.add_zero,Int.pow_succ,Int.mul_assoc] at hm'
    rw [← hm',Int.add_emod_right]
    exact Int.mul_emod_right ..
   have hm3:r%2^j=0:=by
    have hm':=Int.mul_ediv_add_emod r (2^(j+1))
    rw [hm,Int.add_zero,Int.pow_succ,Int.mul_assoc] at hm'
    rw [← hm']
    exact Int.mul_emod_right ..
   have yes:(r+2^j)*(r+2^j)≤hi*18446744073709551616→Ev (fun k=>fprod_root.l0 k hi (r+2^j) (2^j/2)) (R,decide (R*R=hi*18446744073709551616)):=by
    intro h
    have hlt:r+2^j<R+1:=lt_of_sq (by have:=hR.1;omega) (by have:=hR.2.2;omega)
    exact ih (by omega) (r+2^j) (by omega) hm2 (by omega) (by omega)
   have no : ¬ (r+2^j)*(r+2^j)≤hi*18446744073709551616→Ev (fun k=>fprod_root.l0 k hi r (2^j/2)) (R,decide (R*R=hi*18446744073709551616)):=by
    intro h
    have hlt:R<r+2^j:=lt_of_sq (by omega) (by have:=hR.2.1;omega)
    exact ih (by omega) r h0 hm3 h1 hlt
   by_cases c1:(r+2^j)*(r+2^j)/18446744073709551616<hi
   · exact Ev.ifp c1 (yes (ht.1 (.inl c1)))
   · refine Ev.ifn c1 ?_
     by_cases c2:(r+2^j)*(r+2^j)/18446744073709551616=hi
     · refine Ev.ifp c2 ?_
       by_cases c3:(r+2^j)*(r+2^j)%18446744073709551616=0
       · exact Ev.ifp c3 (yes (ht.1 (.inr ⟨c2,c3⟩)))
       · exact Ev.ifn c3 (no (fun k=>(ht.2 k).elim c1 (fun x=>c3 x.2)))
     · exact Ev.ifn c2 (no (fun k=>(ht.2 k).elim c1 (fun x=>c2 x.1)))
theorem fprod_root_c {hi R:Int} (hhi:U hi) (hR:IsRoot (hi*18446744073709551616) R):Ev (fun k=>fprod_root.f k hi) (R,decide (R*R=hi*18446744073709551616)):=by
 have hR1:R<18446744073709551616:=lt_of_sq (by omega) (by have:=hR.2.1;unfold U at hhi;omega)
 exact fprod_root_l hhi hR hR1 64 (by omega) 0 (by omega) (by decide) hR.1 (by omega)
theorem fprod_Sqrt_no {b:Int} (h:U b) (hk:fk b=4∨(fk b≠0∧fs b=true)):Ev (fun k=>fprod_Sqrt.f k b) NAN:=by
 refine Ev.bindc (fbits_Kind_c h) ?_
 by_cases h4:fk b=4
 · exact Ev.ifp h4 (Ev.bindc fbits_Nan_c (Ev.same rfl))
 · have hs:=(hk.resolve_left h4)
   refine Ev.ifn h4 ?_
   by_cases h3:fk b=3
   · exact Ev.ifp h3 (Ev.bindc (fbits_Neg_c h) (Ev.ifp hs.2 (Ev.bindc fbits_Nan_c (Ev.same rfl))))
   · refine Ev.ifn h3 (Ev.ifn hs.1 ?_)
     exact Ev.bindc (fbits_Neg_c h) (Ev.ifp hs.2 (Ev.bindc fbits_Nan_c (Ev.same rfl)))
theorem fprod_Sqrt_same {b:Int} (h:U b) (hk:fk b=0∨(fk b=3∧fs b=false)):Ev (fun k=>fprod_Sqrt.f k b) b:=by
 refine Ev.bindc (fbits_Kind_c h) (Ev.ifn (by omega) ?_)
 by_cases h3:fk b=3
 · have hs:=hk.resolve_left (by omega)
   exact Ev.ifp h3 (Ev.bindc (fbits_Neg_c h) (Ev.ifn (by rw [hs.2];decide) (Ev.same rfl)))
 · exact Ev.ifn h3 (Ev.ifp (by omega) (Ev.same rfl))
theorem sqrt_j0 {m e w:Int} {up:Nat} (h0:0<m) (hm:m<9007199254740992) (he0 : -1074≤e) (he1:e≤971) (hup:(up:Int)=126-bl m∨(up:Int)=125-bl m) (hpar:(e-up)%2=0) (hw:IsSq m e w):Ev (fun k=>fprod_Sqrt.j0 k m e (up:Int)) w:=by
 have b1:=bl_pos h0
 have b2:bl m≤53:=bl_le_of (n:=53) hm
 have l1:=bl_lt m
 have l2:=bl_le h0
 refine Ev.step (fun k=>fprod_Sqrt.j0.eq_2 ..) ?_
 obtain ⟨t,ht⟩ : ∃ t:Nat,up=t+64:=⟨up-64,by omega⟩
 subst ht
 have hp:=pow_pos t
 have et:wrap64 (((t+64:Nat):Int)-64)=t:=by rw [w64_id (by omega) (by omega)];omega
 rw [et]
 refine Ev.ifp (by omega) ?_
 have hlt:m*2^t<2^62:=by
  have:=Int.mul_lt_mul_of_pos_right l1 hp
  rw [← Int.pow_add] at this
  have:=pow_le_pow (a:=(bl m).toNat+t) (b:=62) (by omega)
  omega
 have hge:2^60≤m*2^t:=by
  have:=Int.mul_le_mul_of_nonneg_right l2 (Int.le_of_lt hp)
  rw [← Int.pow_add] at this
  have:=pow_le_pow (a:=60) (b:=(bl m-1).toNat+t) (by omega)
  omega
 rw [shl_u _ _ (by omega),Int.toNat_natCast,Int.emod_eq_of_lt (by omega) (by omega)]
 have eX:m*2^t*18446744073709551616=m*2^(t+64):=by rw [Int.pow_add,← Int.mul_assoc];rfl
 obtain ⟨R,hR⟩:=root_ex (A:=m*2^(t+64)) (by rw [← eX];omega)
 have hroot:=fprod_root_c (hi:=m*2^t) (R:=R) (by unfold U;omega) (by rw [eX];exact hR)
 rw [eX] at hroot
 refine Ev.bind hroot ?_
 dsimp only
 have hR0:=hR.1
 have hR2:=hR.2.2
 have hR1:=hR.2.1
 have hRge:(1073741824*1073741824:Int)*4294967296≤m*2^(t+64):=by rw [← eX];omega
 have hRbig:(18014398509481984:Int)≤R:=by
  have:(18014398509481984:Int)<R+1:=lt_of_sq (by omega) (by omega)
  omega
 have hRlt:R<18446744073709551616:=lt_of_sq (by omega) (by rw [← eX] at hR1;omega)
 obtain ⟨c,hc⟩ : ∃ c:Int,e-((t+64:Nat):Int)=2*c:=⟨(e-((t+64:Nat):Int))/2,by omega⟩
 have eE:wrap64 (Int.tdiv (wrap64 (e-((t+64:Nat):Int))) 2)=c:=by
  rw [w64_id (n:=e-((t+64:Nat):Int)) (by omega) (by omega),hc,Int.mul_tdiv_cancel_left _ (by decide),w64_id (by omega) (by omega)]
 rw [eE]
 have hwR:w=Rd (sv (m*2^(t+64)) R) (c-1):=IsSq_unique hw ⟨t+64,c-1,R,by omega,hR,by omega,rfl⟩
 have hcode:=sq_code (c:=c) hR hRbig
 rw [← hwR] at hcode
 by_cases hx:R*R=m*2^(t+64)
 · rw [if_pos hx] at hcode
   refine Ev.ifp (decide_eq_true hx) (Ev.bind (fround_Word_c (e:=c) false (m:=R) (by unfold U;omega)) (Ev.same ?_))
   rw [ce_id (by omega) (by omega),hcode]
   rfl
 · rw [if_neg hx] at hcode
   refine Ev.ifn (by rw [decide_eq_false hx];decide) ?_
   rw [or_one (by unfold U;omega)]
   refine Ev.bind (fround_Word_c (e:=c) false (m:=R/2*2+1) (by unfold U;omega)) (Ev.same ?_)
   rw [ce_id (by omega) (by omega),hcode]
   rfl
theorem fprod_Sqrt_c {b w:Int} (h:U b) (h4:fk b≠4) (h3:fk b≠3) (h0:fk b≠0) (hs:fs b=false) (hw:IsSq (pm b) (pe b) w):Ev (fun k=>fprod_Sqrt.f k b) w:=by
 refine Ev.bindc (fbits_Kind_c h) (Ev.ifn h4 (Ev.ifn h3 (Ev.ifn h0 ?_)))
 refine Ev.bindc (fbits_Neg_c h) (Ev.ifn (by rw [hs];decide) ?_)
 have hf:=fk_fin h4 h3
 refine Ev.bind (parts_fin h hf) ?_
 have a1:=pm_range b
 have a2:=pe_range b
 have hz:pm b≠0:=fun k=>h0 ((fk_eq b).2.2.2.1.2 ⟨hf,k⟩)
 have a3:=a2.2.2.1 hf
 dsimp only
 refine Ev.bind (limb_Len_c (x:=pm b) (by unfold U;omega)) ?_
 have b1:=bl_pos (x:=pm b) (by omega)
 have b2:bl (pm b)≤53:=bl_le_of (n:=53) (by omega)
 obtain ⟨up,hup⟩ : ∃ up:Nat,(up:Int)=126-bl (pm b):=⟨(126-bl (pm b)).toNat,by omega⟩
 rw [w64_id (n:=126-bl (pm b)) (by omega) (by omega),← hup,and_one_i64,w64_id (n:=pe b-(up:Int)) (by omega) (by omega)]
 by_cases hp:(pe b-(up:Int))%2=0
 · exact Ev.ifp hp (sqrt_j0 (by omega) a1.2 a2.1 a3 (.inl hup) hp hw)
 · refine Ev.ifn hp ?_
   have e1:wrap64 ((up:Int)-1)=((up-1:Nat):Int):=by rw [w64_id (by omega) (by omega)];omega
   rw [e1]
   exact sqrt_j0 (by omega) a1.2 a2.1 a3 (.inr (by omega)) (by omega) hw
theorem tmod_two (x:Int):Int.tmod x 2=0↔x%2=0:=⟨fun h=>Int.emod_eq_zero_of_dvd (Int.dvd_of_tmod_eq_zero h),fun h=>Int.tmod_eq_zero_of_dvd (Int.dvd_of_emod_eq_zero h)⟩
theorem ref12_sqrt_j1 {m e w:Int} {up:Nat} (h0:0<m) (hm:m<9007199254740992) (he0 : -1074≤e) (he1:e≤971) (hup:160≤up) (hup2:up≤161) (hpar:(e-up)%2=0) (hw:IsSq m e w):Ev (fun k=>gr12_Sqrt.j1 k m e (up:Int)) w:=by
 refine Ev.step (fun k=>gr12_Sqrt.j1.eq_2 ..) ?_
 have S:=ref02_Shl_c (a:= [m]) ⟨Ws_one (by unfold U;omega),by simp⟩ (by simp) (up:Int)
 rw [nv_one,shn_nat (by omega),Int.toNat_natCast] at S
 refine Ev.bind S ?_
 have hp:=pow_pos up
 have hX0:0≤m*2^up:=Int.mul_nonneg (by omega) (by omega)
 have hbig:(1329227995784915872903807060280344576:Int)≤m*2^up:=by
  have a1:=pow_le_pow (a:=120) (b:=up) (by omega)
  have:=Int.mul_le_mul_of_nonneg_right (show 1≤m by omega) (Int.le_of_lt hp)
  have e1:(2:Int)^120=1329227995784915872903807060280344576:=by decide
  omega
 have bX:bl (m*2^up)≤53+161:=by
  have b1:bl m≤53:=bl_le_of (n:=53) (by omega)
  have:=bl_shl h0 up
  omega
 obtain ⟨R,hR⟩:=root_ex hX0
 have lX:=dg_len_bl (m*2^up)
 have T:=ref04_Root_c (a:=dg (m*2^up)) (Wl_dg (by omega)) (by omega) (R:=R) (by rw [nv_dg hX0];exact hR)
 refine Ev.bind T ?_
 have hR0:=hR.1
 have hRle:R*R≤m*2^up:=hR.2.1
 have hRR:R≤R*R:=by
  rcases (show R=0∨1≤R by omega) with h | h
  · rw [h];decide
  · have:=Int.mul_le_mul_of_nonneg_right h hR0
    omega
 have bR:=bl_mono (show R≤m*2^up by omega)
 have bRR:=bl_mono hRle
 have lR:=dg_len_bl R
 have M:=ref03_Mul_c (a:=dg R) (b:=dg R) (Wl_dg (by omega)) (Wl_dg (by omega)) (by omega) (by omega)
 rw [nv_dg hR0] at M
 refine Ev.bind M ?_
 have C:=ref02_Cmp_c (a:=dg (R*R)) (b:=dg (m*2^up)) (Wl_dg (by omega)) (Wl_dg (by omega))
 rw [nv_dg (by omega),nv_dg hX0] at C
 refine Ev.bind C ?_
 obtain ⟨c,hc⟩ : ∃ c:Int,e-(up:Int)=2*c:=⟨(e-(up:Int))/2,by omega⟩
 have eE:wrap64 (Int.tdiv (wrap64 (e-(up:Int))) 2)=c:=by
  rw [w64_id (n:=e-(up:Int)) (by omega) (by omega),hc,Int.mul_tdiv_cancel_left _ (by decide),w64_id (by omega) (by omega)]
 rw [eE]
 have hRge:(18014398509481984:Int)≤R:=by
  have:(18014398509481984:Int)<R+1:=lt_of_sq (by omega) (by have:=hR.2.2;omega)
  omega
 have MO:=ref10_More_c false (l:=dg R) (Wl_dg (by omega)) (by omega) c (cmpI (R*R) (m*2^up) !=0)
 rw [nv_dg hR0,ce_id (by omega) (by omega)] at MO
 refine Ev.bind MO (Ev.same ?_)
 have hwR:w=Rd (sv (m*2^up) R) (c-1):=IsSq_unique hw ⟨up,c-1,R,by omega,hR,by omega,rfl⟩
 rw [hwR]
 unfold sv
 by_cases hx:R*R=m*2^up
 · rw [if_pos hx]
   have:(cmpI (R*R) (m*2^up) !=0)=false:=by rw [bne_eq_false_iff_eq];exact cmpI_same.2 hx
   rw [this]
   have:=Rd_scale (show 0<R by omega) c 1
   rw [Int.pow_one,Int.mul_comm] at this
   show some (sgn false (Rd R c))=some (Rd (2*R) (c-1))
   rw [← this]
   rfl
 · rw [if_neg hx]
   have:(cmpI (R*R) (m*2^up) !=0)=true:=by rw [bne_iff_ne];exact fun k=>hx (cmpI_same.1 k)
   rw [this]
   rfl
theorem ref12_Sqrt_no {b:Int} (h:U b) (hk:fk b=4∨(fk b≠0∧fs b=true)):Ev (fun k=>gr12_Sqrt.f k b) NAN:=by
 refine Ev.bindc (ref09_Kind_c h) (Ev.ifn (by omega) ?_)
 by_cases h4:fk b=4
 · exact Ev.ifp h4 (Ev.step (fun k=>gr12_Sqrt.j0.eq_2 ..) (Ev.ifp rfl (Ev.bindc ref09_Nan_c (Ev.same rfl))))
 · have hs:=(hk.resolve_left h4)
   exact Ev.ifn h4 (Ev.bindc (ref09_Neg_c h) (Ev.step (fun k=>gr12_Sqrt.j0.eq_2 ..) (Ev.ifp hs.2 (Ev.bindc ref09_Nan_c (Ev.same rfl)))))
theorem ref12_Sqrt_same {b:Int} (h:U b) (hk:fk b=0∨(fk b=3∧fs b=false)):Ev (fun k=>gr12_Sqrt.f k b) b:=by
 refine Ev.bindc (ref09_Kind_c h) ?_
 by_cases h0:fk b=0
 · exact Ev.ifp h0 (Ev.same rfl)
 · have hs:=hk.resolve_left h0
   refine Ev.ifn h0 (Ev.ifn (by omega) (Ev.bindc (ref09_Neg_c h) (Ev.step (fun k=>gr12_Sqrt.j0.eq_2 ..) ?_)))
   exact Ev.ifn (by rw [hs.2];decide) (Ev.ifp hs.1 (Ev.same rfl))
theorem ref12_Sqrt_c {b w:Int} (h:U b) (h4:fk b≠4) (h3:fk b≠3) (h0:fk b≠0) (hs:fs b=false) (hw:IsSq (pm b) (pe b) w):Ev (fun k=>gr12_Sqrt.f k b) w:=by
 refine Ev.bindc (ref09_Kind_c h) (Ev.ifn h0 (Ev.ifn h4 (Ev.bindc (ref09_Neg_c h) ?_)))
 refine Ev.step (fun k=>gr12_Sqrt.j0.eq_2 ..) (Ev.ifn (by rw [hs];decide) (Ev.ifn h3 (Ev.bindc (ref09_Parts_c h) ?_)))
 have hf:=fk_fin h4 h3
 have a1:=pm_range b
 have a2:=pe_range b
 have hz:pm b≠0:=fun k=>h0 ((fk_eq b).2.2.2.1.2 ⟨hf,k⟩)
 have a3:=a2.2.2.1 hf
 dsimp only
 rw [w64_id (n:=pe b-160) (by omega) (by omega)]
 by_cases hp:(pe b-160)%2=0
 · exact Ev.ifp ((tmod_two _).2 hp) (ref12_sqrt_j1 (up:=160) (by omega) a1.2 a2.1 a3 (by omega) (by omega) hp hw)
 · exact Ev.ifn (fun k=>hp ((tmod_two _).1 k)) (ref12_sqrt_j1 (up:=161) (by omega) a1.2 a2.1 a3 (by omega) (by omega) (by omega) hw)
theorem fcmp_key_c {b:Int} (h:U b):fcmp_key.f b=some (fkey b):=by
 unfold fcmp_key.f
 rw [fbits_Neg_c h,wu]
 unfold U at h
 show (if fs b=true then some (wrap64 (-(wrap64 (b*2%18446744073709551616/2)))) else some (wrap64 (b*2%18446744073709551616/2)))=some (fkey b)
 unfold fkey fs
 by_cases hb:b≥9223372036854775808
 · rw [decide_eq_true hb,if_pos rfl,if_pos rfl,w64_id (n:=b*2%18446744073709551616/2) (by omega) (by omega),w64_id (by omega) (by omega)]
   congr 1
   omega
 · rw [decide_eq_false hb,if_neg (by decide),if_neg (by decide),w64_id (by omega) (by omega)]
   congr 1
   omega
theorem fcmp_known_c {a b:Int} (ha:U a) (hb:U b):fcmp_known.f a b=some (decide (fk a≠4∧fk b≠4)):=by
 unfold fcmp_known.f
 rw [fbits_Kind_c ha,fbits_Kind_c hb]
 show (if fk a=4 then some false else some (fk b !=4))=_
 by_cases h:fk a=4
 · rw [if_pos h,decide_eq_false (fun k=>k.1 h)]
 · rw [if_neg h]
   congr 1
   by_cases h2:fk b=4
   · rw [decide_eq_false (fun k=>k.2 h2),bne_eq_false_iff_eq];exact h2
   · rw [decide_eq_true ⟨h,h2⟩,bne_iff_ne];exact h2
theorem fcmp_Less_c {a b:Int} (ha:U a) (hb:U b):fcmp_Less.f a b=some (less a b):=by
 unfold fcmp_Less.f less
 rw [fcmp_known_c ha hb,fcmp_key_c ha,fcmp_key_c hb]
 show (if decide (fk a≠4∧fk b≠4)=true then some (decide (fkey a<fkey b)) else some false)=_
 by_cases h:fk a≠4∧fk b≠4
 · rw [decide_eq_true h,if_pos rfl]
   congr 1
   simp [h.1,h.2]
 · rw [decide_eq_false h,if_neg (by decide),decide_eq_false (fun k=>h ⟨k.1,k.2.1⟩)]
theorem near_no {b:Int} (h:fx b=2047∨bl (pm b)+pe b>62):near b=(0,false):=by unfold near;rw [if_pos h]
theorem near_yes {b:Int} (h:fx b≠2047) (h2:bl (pm b)+pe b≤62):near b=(if fs b then -(ru (pm b) (pe b) 0) else ru (pm b) (pe b) 0,true):=by
 unfold near
 rw [if_neg (by omega)]
theorem fcmp_Near_j1 {n:Int} (neg t:Bool) (h0:0≤n) (h1:n≤4611686018427387904):Ev (fun k=>fcmp_Near.j1 k neg n t) (if neg then -(if t then n+1 else n) else (if t then n+1 else n),true):=by
 refine Ev.step (fun k=>fcmp_Near.j1.eq_2 ..) ?_
 cases t
 · refine Ev.ifn (by decide) ?_
   cases neg
   · exact Ev.ifn (by decide) (Ev.same rfl)
   · refine Ev.ifp rfl (Ev.same ?_)
     rw [w64_id (by omega) (by omega)]
     rfl
 · refine Ev.ifp rfl ?_
   cases neg
   · refine Ev.ifn (by decide) (Ev.same ?_)
     rw [w64_id (by omega) (by omega)]
     rfl
   · refine Ev.ifp rfl (Ev.same ?_)
     rw [w64_id (n:=n+1) (by omega) (by omega),w64_id (by omega) (by omega)]
     rfl
theorem fcmp_Near_c {b:Int} (h:U b):Ev (fun k=>fcmp_Near.f k b) (near b):=by
 have hP:=fbits_Parts_c h
 have a1:=pm_range b
 have a2:=pe_range b
 by_cases hx:fx b=2047
 · rw [if_pos hx] at hP
   refine Ev.bind hP (Ev.ifn (by decide) (Ev.step (fun k=>fcmp_Near.j0.eq_2 ..) (Ev.ifp rfl (Ev.same ?_))))
   rw [near_no (.inl hx)]
 · rw [if_neg hx] at hP
   refine Ev.bind hP (Ev.ifp rfl (Ev.bind (limb_Len_c (x:=pm b) (by unfold U;omega)) ?_))
   dsimp only
   have b0:=bl_nonneg (pm b)
   have b1:bl (pm b)≤53:=bl_le_of (n:=53) (by omega)
   have a3 : -1074≤pe b∧pe b≤972:=⟨a2.1,a2.2.1⟩
   have a4:=a2.2.2.2
   rw [w64_id (n:=bl (pm b)+pe b) (by omega) (by omega)]
   clear a2 hP
   by_cases h1:bl (pm b)+pe b>62
   · refine Ev.step (fun k=>fcmp_Near.j0.eq_2 ..) (Ev.ifp (decide_eq_true h1) (Ev.same ?_))
     rw [near_no (.inr h1)]
   · rw [near_yes hx (by omega)]
     refine Ev.step (fun k=>fcmp_Near.j0.eq_2 ..) (Ev.ifn (by rw [decide_eq_false h1];decide) ?_)
     have l1:=bl_lt (pm b)
     generalize pm b=m at *
     generalize pe b=e at *
     generalize fs b=neg
     by_cases h2:e≥0
     · refine Ev.ifp h2 (Ev.ifp h2 ?_)
       have hlt:m*2^e.toNat<2^62:=by
        have hp:=pow_pos e.toNat
        have:=Int.mul_lt_mul_of_pos_right l1 hp
        rw [← Int.pow_add] at this
        have:=pow_le_pow (a:=(bl m).toNat+e.toNat) (b:=62) (by omega)
        omega
       have hge:0≤m*2^e.toNat:=Int.mul_nonneg a1.1 (by have:=pow_pos e.toNat;omega)
       have er:ru m e 0=m*2^e.toNat:=by
        unfold ru
        rw [show (0-e).toNat=0 by omega,rnd_zero,show e-0=e by omega]
       rw [er,shl_u _ _ (by omega),Int.emod_eq_of_lt hge (by omega),w64_id (n:=m*2^e.toNat) (by omega) (by omega),w64_id (by omega) (by omega)]
       cases neg
       · exact Ev.ifn (by decide) (Ev.same rfl)
       · exact Ev.ifp rfl (Ev.same rfl)
     · refine Ev.ifn h2 ?_
       by_cases h3:e> -64
       · refine Ev.ifp h3 ?_
         obtain ⟨d,hd⟩ : ∃ d:Nat,-e=((d+1:Nat):Int):=⟨(-e).toNat-1,by omega⟩
         have hd63:d+1≤63:=by omega
         have er:ru m e 0=rnd m (d+1):=by
          unfold ru
          rw [show (0-e).toNat=d+1 by omega,show (e-0).toNat=0 by omega,Int.pow_zero,Int.mul_one]
         rw [w64_id (n:= -e) (by omega) (by omega),w64_id (n:=64+e) (by omega) (by omega)]
         refine Ev.ifp (by omega) (Ev.ifp (by omega) ?_)
         have hp:=pow_pos (d+1)
         have q0:0≤m/2^(d+1):=Int.ediv_nonneg a1.1 (by omega)
         have q1:m/2^(d+1)≤m:=Int.ediv_le_self _ a1.1
         have r0:=Int.emod_nonneg m (show (2:Int)^(d+1)≠0 by omega)
         have r1:=Int.emod_lt_of_pos m hp
         have hH:(2:Int)^(d+1)=2*2^d:=by rw [Int.pow_succ,Int.mul_comm]
         have hGH:(2:Int)^(64-(d+1))*2^d=9223372036854775808:=by rw [← Int.pow_add,show 64-(d+1)+d=63 by omega];rfl
         rw [shr_u _ _ (by omega),shl_u _ _ (by omega),hd,Int.toNat_natCast,show (64+e).toNat=64-(d+1) by omega,mod_up' m (show 64-(d+1)≤64 by omega),show 64-(64-(d+1))=d+1 by omega,w64_id (n:=m/2^(d+1)) (by omega) (by omega),and_one_i64,er]
         have hG:=pow_pos (64-(d+1))
         have J:=fun t=>fcmp_Near_j1 (n:=m/2^(d+1)) neg t q0 (by omega)
         rcases Int.lt_trichotomy (m%2^(d+1)) (2^d) with hc | hc | hc
         · have:2^(64-(d+1))*(m%2^(d+1))<9223372036854775808:=by rw [← hGH];exact Int.mul_lt_mul_of_pos_left hc hG
           refine Ev.ifn (by omega) (Ev.ifn (by omega) ((J false).eqr ?_))
           have e1:rnd m (d+1)=m/2^(d+1):=by
            unfold rnd
            rw [if_neg (by omega)]
           rw [e1]
           rfl
         · refine Ev.ifn (by rw [hc,hGH];omega) (Ev.ifp (by rw [hc,hGH]) ((J _).eqr ?_))
           have e1:rnd m (d+1)=if (m/2^(d+1)%2==1)=true then m/2^(d+1)+1 else m/2^(d+1):=by
            unfold rnd
            by_cases ho:m/2^(d+1)%2=1
            · rw [if_pos (.inr ⟨by omega,ho⟩),if_pos (by rw [ho];rfl)]
            · rw [if_neg (by omega),if_neg (by rw [beq_iff_eq];exact ho)]
           rw [e1]
         · have:9223372036854775808<2^(64-(d+1))*(m%2^(d+1)):=by rw [← hGH];exact Int.mul_lt_mul_of_pos_left hc hG
           refine Ev.ifp (by omega) ((J true).eqr ?_)
           have e1:rnd m (d+1)=m/2^(d+1)+1:=by
            unfold rnd
            rw [if_pos (.inl (by omega))]
           rw [e1]
           rfl
       · refine Ev.ifn h3 ?_
         have er:ru m e 0=0:=by
          unfold ru
          rw [show (e-0).toNat=0 by omega,Int.pow_zero,Int.mul_one]
          have:=pow_le_pow (a:=64) (b:=(0-e).toNat) (by omega)
          exact rnd_small a1.1 (by omega)
         rw [er]
         cases neg
         · exact Ev.ifn (by decide) (Ev.same rfl)
         · exact Ev.ifp rfl (Ev.same rfl)
theorem clamp_eq (k c:Int) (hc:0≤c):mn (mx k (-c)) c=min (max k (-c)) c:=by
 unfold mn mx
 split<;>split<;>omega
theorem fcmp_Scale_c {b k:Int} (h:U b):Ev (fun r=>fcmp_Scale.f r b k) (fscale b k):=by
 have hP:=fbits_Parts_c h
 have a1:=pm_range b
 have a2:=pe_range b
 unfold fscale
 by_cases hx:fx b=2047
 · rw [if_pos hx] at hP ⊢
   exact Ev.bind hP (Ev.ifn (by decide) (Ev.bindc (fbits_Clean_c h) (Ev.same rfl)))
 · rw [if_neg hx] at hP ⊢
   refine Ev.bind hP (Ev.ifp rfl ?_)
   dsimp only
   have a3 : -1074≤pe b∧pe b≤972:=⟨a2.1,a2.2.1⟩
   clear a2
   rw [clamp_eq k 5000 (by omega),w64_id (by omega) (by omega)]
   refine Ev.bind (fround_Word_c (e:=pe b+min (max k (-5000)) 5000) (fs b) (m:=pm b) (by unfold U;omega)) (Ev.same ?_)
   rw [ce_id (by omega) (by omega)]
def fpart (n:Int):Int:=fdiv 4607182418800017408 (fint n)
theorem fpart_U (n:Int):U (fpart n):=fdiv_U _ _
def facI:Nat→Int
 | 0=>1
 | n+1=>facI n*(n+1)
def hexp (r:Int):Nat→Int→Int
 | 0,p=>p
 | i+1,p=>hexp r i (fadd (fmul p r) (fpart (facI i)))
theorem hexp_U (r:Int) : ∀ (i:Nat) {p:Int},U p→U (hexp r i p)
 | 0,_,h=>h
 | i+1,_,h=>hexp_U r i (fadd_U (fmul_U _ _) (fpart_U _))
def ek (x:Int):Int:=(near (fmul x 4609176140021203710)).1
def er (x:Int):Int:=fsub (fsub x (fmul (fint (ek x)) 4604418534311723008)) (fmul (fint (ek x)) 4461442080421002358)
def fexp (x:Int):Int:=if fk x=4 then NAN else if less (fint 710) x=true then INF else if less x (fint (-746))=true then 0 else fscale (hexp (er x) 13 (fpart (facI 13))) (ek x)
def hlog (z:Int):Nat→Int→Int
 | 0,p=>p
 | i+1,p=>hlog z i (fadd (fmul p z) (fpart (2*((i:Int)+1)+1)))
def ls (f:Int):Int:=fdiv (fsub f 4607182418800017408) (fadd 4611686018427387904 (fsub f 4607182418800017408))
def lz (f:Int):Int:=fmul (ls f) (ls f)
def lp (f:Int):Int:=hlog (lz f) 9 (fpart 21)
def ly (f:Int):Int:=fadd (fadd (ls f) (ls f)) (fmul (fadd (ls f) (ls f)) (fmul (lp f) (lz f)))
def flogS (f k:Int):Int:=if k=0 then ly f else fadd (fmul (fint k) 4604418534311723008) (fadd (ly f) (fmul (fint k) 4461442080421002358))
def splitF (x:Int):Int × Int:=if less 4609047870845172685 (Rd (pm x) (1-bl (pm x)))=true then (Rd (pm x) (-bl (pm x)),pe x+bl (pm x)) else (Rd (pm x) (1-bl (pm x)),pe x+bl (pm x)-1)
def flog (x:Int):Int:=if fk x=0 then sgn true INF else if fk x=4∨fs x=true then NAN else if fk x=3 then x else flogS (splitF x).1 (splitF x).2
theorem U_lit:U 4607182418800017408∧U 4611686018427387904∧U 4609047870845172685∧U 4604418534311723008∧U 4461442080421002358∧U 4609176140021203710:=by unfold U;omega
theorem kernel_part_c {n:Int} (h0 : -9223372036854775808≤n) (h1:n≤9223372036854775807):Ev (fun k=>kernel_part.f k n) (fpart n) :=
 Ev.bind (fround_FromInt_c h0 h1) (Ev.bind (fprod_Div_c U_lit.1 (fint_U n)) (Ev.same rfl))
theorem facI_le:facI 0=1∧facI 1=1∧facI 2=2∧facI 3=6∧facI 4=24∧facI 5=120∧facI 6=720∧facI 7=5040∧facI 8=40320∧facI 9=362880∧facI 10=3628800∧facI 11=39916800∧facI 12=479001600∧facI 13=6227020800:=by decide
theorem facI_range {n:Nat} (h:n≤13):1≤facI n∧facI n≤6227020800:=by
 have:=facI_le
 rcases (show n=0∨n=1∨n=2∨n=3∨n=4∨n=5∨n=6∨n=7∨n=8∨n=9∨n=10∨n=11∨n=12∨n=13 by omega) with h | h | h | h | h | h | h | h | h | h | h | h | h | h<;>subst h<;>omega
theorem word_make {m d:Int} (h0:0<m) (h1:m<9007199254740992) (hd:d=0∨d=1):Mk false m (d-bl m)=(Rd m (d-bl m),true):=by
 have b1:bl m≤53:=bl_le_of (n:=53) (by have:(2:Int)^53=9007199254740992:=rfl
                                       omega)
 have b2:=bl_pos h0
 have hu:un m (d-bl m)=d-53:=by unfold un;omega
 have:=Mk_yes false (m:=m) (e:=d-bl m) (by omega) (by omega) (by
  rw [hu,show (d-53-(d-bl m)).toNat=0 by omega,Int.pow_zero,Int.emod_one])
 rw [this]
 rfl
theorem kernel_split_c {x:Int} (h:U x) (hx:fx x≠2047) (h0:0<pm x):Ev (fun k=>kernel_split.f k x) (splitF x):=by
 have P:=fbits_Parts_c h
 rw [if_neg hx] at P
 have pr:=pm_range x
 have pe_:=pe_range x
 have b1:bl (pm x)≤53:=bl_le_of (n:=53) (by have:(2:Int)^53=9007199254740992:=rfl
                                            omega)
 have b2:=bl_pos h0
 have hU:U (pm x):=by unfold U;omega
 have hp:=pe_.2.2.1 hx
 refine Ev.bind P (Ev.bind (limb_Len_c hU) ?_)
 simp only [w64_id (show -9223372036854775808≤1-bl (pm x) by omega) (by omega),w64_id (show -9223372036854775808≤ -bl (pm x) by omega) (by omega),w64_id (show -9223372036854775808≤pe x+bl (pm x) by omega) (by omega),w64_id (show -9223372036854775808≤pe x+bl (pm x)-1 by omega) (by omega)]
 have M1:=fbits_Make_c false hU (e:=1-bl (pm x)) (by omega) (by omega)
 have M2:=fbits_Make_c false hU (e:= -bl (pm x)) (by omega) (by omega)
 rw [word_make h0 pr.2 (.inr rfl)] at M1
 rw [show -bl (pm x)=0-bl (pm x) by omega,word_make h0 pr.2 (.inl rfl)] at M2
 have v1:=V_exact h0 pr.2 (l:=1-bl (pm x)) (by omega) (by omega)
 refine Ev.bind M1 (Ev.bindc (fcmp_Less_c U_lit.2.2.1 v1.2.2.2) ?_)
 unfold splitF
 by_cases hl:less 4609047870845172685 (Rd (pm x) (1-bl (pm x)))=true
 · rw [if_pos hl]
   refine Ev.ifp hl ?_
   rw [show -bl (pm x)=0-bl (pm x) by omega]
   exact Ev.bind M2 (Ev.same rfl)
 · rw [if_neg hl]
   exact Ev.ifn hl (Ev.same rfl)
theorem ls_U (f:Int):U (ls f):=fdiv_U _ _
theorem lz_U (f:Int):U (lz f):=fmul_U _ _
theorem ly_U (f:Int):U (ly f):=fadd_U (fadd_U (ls_U f) (ls_U f)) (fmul_U _ _)
theorem fsub_U {a b:Int} (ha:U a):U (fsub a b):=fadd_U ha (fl_U b)
theorem kernel_Log_l {f e p:Int} (he0 : -5000≤e) (he1:e≤5000) (hp:U p) (i:Nat) (hi:i≤9) (hq:hlog (lz f) i p=lp f):Ev (fun k=>kernel_Log.l0 k e (ls f) (lz f) p i) (flogS f e):=by
 induction i generalizing p with
 | zero =>
   have hq:p=lp f:=hq
   rw [hq]
   rw [hq] at hp
   refine Ev.step (fun k=>kernel_Log.l0.eq_2 ..) (Ev.ifn (by omega) (Ev.bind (fsum_Add_c (ls_U f) (ls_U f)) (Ev.bind (fprod_Mul_c hp (lz_U f)) (Ev.bind (fprod_Mul_c (fadd_U (ls_U f) (ls_U f)) (fmul_U _ _)) (Ev.bind (fsum_Add_c (fadd_U (ls_U f) (ls_U f)) (fmul_U _ _)) ?_)))))
   unfold flogS
   by_cases h0:e=0
   · rw [if_pos h0]
     exact Ev.ifp h0 (Ev.same rfl)
   · rw [if_neg h0]
     exact Ev.ifn h0 (Ev.bind (fround_FromInt_c (by omega) (by omega)) (Ev.bind (fprod_Mul_c (fint_U e) U_lit.2.2.2.1) (Ev.bind (fprod_Mul_c (fint_U e) U_lit.2.2.2.2.1) (Ev.bind (fsum_Add_c (ly_U f) (fmul_U _ _)) (Ev.bind (fsum_Add_c (fmul_U _ _) (fadd_U (ly_U f) (fmul_U _ _))) (Ev.same rfl))))))
 | succ i ih =>
   have e1:wrap64 (wrap64 (2*((i+1:Nat):Int))+1)=2*((i:Int)+1)+1:=by rw [w64_id (n:=2*((i+1:Nat):Int)) (by omega) (by omega),w64_id (by omega) (by omega)];omega
   have e2:wrap64 (((i+1:Nat):Int)-1)=(i:Int):=by rw [w64_id (by omega) (by omega)];omega
   refine Ev.step (fun k=>kernel_Log.l0.eq_2 ..) (Ev.ifp (by omega) ?_)
   simp only [e1,e2]
   exact Ev.bind (fprod_Mul_c hp (lz_U f)) (Ev.bind (kernel_part_c (by omega) (by omega)) (Ev.bind (fsum_Add_c (fmul_U _ _) (fpart_U _)) (ih (fadd_U (fmul_U _ _) (fpart_U _)) (by omega) hq)))
theorem kernel_Log_c {x:Int} (h:U x):Ev (fun k=>kernel_Log.f k x) (flog x):=by
 refine Ev.bindc (fbits_Kind_c h) ?_
 unfold flog
 by_cases h0:fk x=0
 · rw [if_pos h0]
   exact Ev.ifp h0 (Ev.bindc (fbits_Inf_c true) (Ev.same rfl))
 rw [if_neg h0]
 refine Ev.ifn h0 ?_
 have j0 : ∀ b:Bool,b=decide (fk x=4∨fs x=true)→Ev (fun k=>kernel_Log.j0 k x (fk x) b) (if fk x=4∨fs x=true then NAN else if fk x=3 then x else flogS (splitF x).1 (splitF x).2):=fun b hb=>by
  refine Ev.step (fun k=>kernel_Log.j0.eq_2 ..) ?_
  by_cases h4:fk x=4∨fs x=true
  · rw [if_pos h4]
    exact Ev.ifp (by rw [hb];exact decide_eq_true h4) (Ev.bindc fbits_Nan_c (Ev.same rfl))
  · rw [if_neg h4]
    refine Ev.ifn (by rw [hb,decide_eq_false h4];decide) ?_
    by_cases h3:fk x=3
    · rw [if_pos h3]
      exact Ev.ifp h3 (Ev.same rfl)
    · rw [if_neg h3]
      have hx:=fk_fin (fun k=>h4 (.inl k)) h3
      have hp:0<pm x:=by
       have:=(fk_eq x).2.2.2.1
       have:=pm_range x
       rcases (show pm x=0∨0<pm x by omega) with k | k
       · exact absurd ((fk_eq x).2.2.2.1.2 ⟨hx,k⟩) h0
       · exact k
      have pr:=pm_range x
      have pe_:=pe_range x
      have hpe:=pe_.2.2.1 hx
      have b1:bl (pm x)≤53:=bl_le_of (n:=53) (by have:(2:Int)^53=9007199254740992:=rfl
                                                 omega)
      have b2:=bl_pos hp
      have v1:=V_exact hp pr.2 (l:=1-bl (pm x)) (by omega) (by omega)
      have v2:=V_exact hp pr.2 (l:= -bl (pm x)) (by omega) (by omega)
      have hU:U (splitF x).1∧ -5000≤(splitF x).2∧(splitF x).2≤5000:=by
       unfold splitF
       split
       · exact ⟨v2.2.2.2,by dsimp only;omega,by dsimp only;omega⟩
       · exact ⟨v1.2.2.2,by dsimp only;omega,by dsimp only;omega⟩
      refine Ev.ifn h3 (Ev.bind (kernel_split_c h hx hp) (Ev.bind (fsum_Sub_c hU.1 U_lit.1) (Ev.bind (fsum_Add_c U_lit.2.1 (fsub_U hU.1)) (Ev.bind (fprod_Div_c (fsub_U hU.1) (fadd_U U_lit.2.1 (fsub_U hU.1))) (Ev.bind (fprod_Mul_c (fdiv_U _ _) (fdiv_U _ _)) (Ev.bind (kernel_part_c (by omega) (by omega)) ?_))))))
      exact kernel_Log_l hU.2.1 hU.2.2 (fpart_U _) 9 (by omega) rfl
 by_cases h4:fk x=4
 · exact Ev.ifp h4 (j0 true (by rw [decide_eq_true (.inl h4)]))
 · refine Ev.ifn h4 (Ev.bindc (fbits_Neg_c h) (j0 _ ?_))
   cases hs:fs x
   · rw [decide_eq_false (by rintro (k | k);exact h4 k;cases k)]
   · rw [decide_eq_true (.inr rfl)]
theorem near_range {b:Int} (h:U b) : -9223372036854775808≤(near b).1∧(near b).1≤9223372036854775807:=by
 unfold near
 split
 · exact ⟨by decide,by decide⟩
 · rename_i hh
   have p:=pm_range b
   have key:0≤ru (pm b) (pe b) 0∧ru (pm b) (pe b) 0≤9223372036854775807:=by
    have l1:=bl_lt (pm b)
    have hb:bl (pm b)+pe b≤62:=by
     rcases Int.lt_or_le 62 (bl (pm b)+pe b) with k | k
     · exact absurd (.inr k) hh
     · exact k
    have b0:=bl_nonneg (pm b)
    by_cases h2:0≤pe b
    · have hp:=pow_pos (pe b).toNat
      have h3:=Int.mul_lt_mul_of_pos_right l1 hp
      rw [← Int.pow_add] at h3
      have h4:=pow_le_pow (a:=(bl (pm b)).toNat+(pe b).toNat) (b:=62) (by omega)
      have e62:(2:Int)^62=4611686018427387904:=rfl
      have hge:0≤pm b*2^(pe b).toNat:=Int.mul_nonneg p.1 (Int.le_of_lt hp)
      unfold ru
      rw [show (0-pe b).toNat=0 by omega,rnd_zero,show pe b-0=pe b by omega]
      omega
    · unfold ru
      rw [show (pe b-0).toNat=0 by omega,Int.pow_zero,Int.mul_one]
      have r:=rnd_le (pm b) (0-pe b).toNat
      have q:=Int.ediv_le_self (2^(0-pe b).toNat) p.1
      have q2:=Int.ediv_nonneg p.1 (Int.le_of_lt (pow_pos (0-pe b).toNat))
      omega
   split
   · exact ⟨by dsimp only;omega,by dsimp only;omega⟩
   · exact ⟨by dsimp only;omega,by dsimp only;omega⟩
theorem er_U {x:Int} (h:U x):U (er x):=fsub_U (fsub_U h)
def facL (i:Nat):List Int:=(List.range 14).map fun j=>if j≤i then facI j else 0
theorem facL_len (i:Nat):(facL i).length=14:=by simp [facL]
theorem facL_set : ∀ i:Fin 13,(facL i.1).set (i.1+1) (facI (i.1+1))=facL (i.1+1):=by decide
theorem facL_get : ∀ i:Fin 14,∀ j:Fin 14,j.1≤i.1→(facL i.1).getD j.1 0=facI j.1:=by decide
theorem facL_rd {i j:Nat} (hi:i<14) (hj:j≤i):rd (facL i) (j:Int)=facI j:=facL_get ⟨i,hi⟩ ⟨j,by omega⟩ hj
theorem kernel_Exp_l1 {r p e:Int} (hr:U r) (hp:U p) (i:Nat) (hi:i≤13):Ev (fun k=>kernel_Exp.l1 k e r (facL 13) p ((i:Int)-1)) (fscale (hexp r i p) e):=by
 induction i generalizing p with
 | zero=>exact Ev.step (fun k=>kernel_Exp.l1.eq_2 ..) (Ev.ifn (by omega) (Ev.bind (fcmp_Scale_c hp) (Ev.same rfl)))
 | succ i ih =>
   have e0:((i+1:Nat):Int)-1=(i:Int):=by omega
   have e2:wrap64 ((i:Int)-1)=(i:Int)-1:=w64_id (by omega) (by omega)
   have f1:=facI_range (n:=i) (by omega)
   rw [e0]
   refine Ev.step (fun k=>kernel_Exp.l1.eq_2 ..) (Ev.ifp (by omega) (Ev.bind (fprod_Mul_c hp hr) (Ev.ifp (by omega) (Ev.ifp (by omega) (Ev.ifp (by rw [facL_len];omega) ?_)))))
   rw [facL_rd (by omega) (by omega),e2]
   exact Ev.bind (kernel_part_c (by omega) (by omega)) (Ev.bind (fsum_Add_c (fmul_U _ _) (fpart_U _)) (ih (fadd_U (fmul_U _ _) (fpart_U _)) (by omega)))
theorem kernel_Exp_l0 {r e:Int} (hr:U r) (d:Nat) : ∀ i:Nat,i+d=13→Ev (fun k=>kernel_Exp.l0 k e r (facL i) i) (fscale (hexp r 13 (fpart (facI 13))) e):=by
 induction d with
 | zero =>
   intro i hi
   obtain rfl:i=13:=by omega
   have f1:=facI_range (n:=13) (by omega)
   refine Ev.step (fun k=>kernel_Exp.l0.eq_2 ..) (Ev.ifn (by omega) (Ev.ifp (by rw [facL_len];omega) ?_))
   rw [show (13:Int)=((13:Nat):Int) from rfl,facL_rd (by omega) (by omega)]
   exact Ev.bind (kernel_part_c (by omega) (by omega)) (kernel_Exp_l1 hr (fpart_U _) 13 (by omega))
 | succ d ih =>
   intro i hi
   have f1:=facI_range (n:=i) (by omega)
   have f2:=facI_range (n:=i+1) (by omega)
   have e1:wrap64 ((i:Int)+1)=((i+1:Nat):Int):=by rw [w64_id (by omega) (by omega)];rfl
   have e2:wrap64 (facI i*((i+1:Nat):Int))=facI (i+1):=by
    have:facI i*((i+1:Nat):Int)=facI (i+1):=rfl
    rw [this,w64_id (by omega) (by omega)]
   refine Ev.step (fun k=>kernel_Exp.l0.eq_2 ..) (Ev.ifp (by omega) ?_)
   rw [facL_rd (by omega) (by omega)]
   simp only [e1,e2]
   refine Ev.ifp (by omega) (Ev.ifp (by omega) (Ev.ifp (by rw [facL_len];omega) (Ev.ifp (by omega) (Ev.ifp (by omega) (Ev.ifp (by rw [facL_len];omega) ?_)))))
   rw [show (((i+1:Nat):Int)).toNat=i+1 by omega,facL_set ⟨i,by omega⟩]
   exact ih (i+1) (by omega)
theorem fint_710:fint 710=4649456441864749056:=by decide
theorem fint_746:fint (-746)=13873145138068324352:=by decide
theorem kernel_Exp_c {x:Int} (h:U x):Ev (fun k=>kernel_Exp.f k x) (fexp x):=by
 refine Ev.bindc (fbits_Kind_c h) ?_
 unfold fexp
 by_cases h4:fk x=4
 · rw [if_pos h4]
   exact Ev.ifp h4 (Ev.bindc fbits_Nan_c (Ev.same rfl))
 rw [if_neg h4]
 have u1:U 4649456441864749056:=by unfold U;omega
 have u2:U 13873145138068324352:=by unfold U;omega
 rw [fint_710,fint_746]
 refine Ev.ifn h4 (Ev.bindc (fcmp_Less_c u1 h) ?_)
 by_cases h1:less 4649456441864749056 x=true
 · rw [if_pos h1]
   exact Ev.ifp h1 (Ev.bindc (fbits_Inf_c false) (Ev.same rfl))
 rw [if_neg h1]
 refine Ev.ifn h1 (Ev.bindc (fcmp_Less_c h u2) ?_)
 by_cases h2:less x 13873145138068324352=true
 · rw [if_pos h2]
   exact Ev.ifp h2 (Ev.same rfl)
 rw [if_neg h2]
 have nr:=near_range (fmul_U x 4609176140021203710)
 refine Ev.ifn h2 (Ev.bind (fprod_Mul_c h U_lit.2.2.2.2.2) (Ev.bind (fcmp_Near_c (fmul_U _ _)) (Ev.bind (fround_FromInt_c nr.1 nr.2) (Ev.bind (fprod_Mul_c (fint_U _) U_lit.2.2.2.1) (Ev.bind (fsum_Sub_c h (fmul_U _ _)) (Ev.bind (fprod_Mul_c (fint_U _) U_lit.2.2.2.2.1) (Ev.bind (fsum_Sub_c (fsub_U h) (fmul_U _ _)) ?_)))))))
 exact kernel_Exp_l0 (er_U h) 13 0 (by omega)
section
abbrev R3:=Bool × List Int × List Int
def en (x:Rat):R3:=Rq x.num x.den
theorem den_pos (x:Rat):(0:Int)<x.den:=by have:=x.den_nz;omega
theorem num_den_cross (S:Int) {D:Int} (hD:0<D):(Rat.divInt S D).num*D=S*(Rat.divInt S D).den:=by
 have e:=Rat.num_divInt_den (Rat.divInt S D)
 exact (Rat.divInt_eq_divInt_iff (by have:=den_pos (Rat.divInt S D);omega) (by omega)).1 e
theorem en_divInt (S:Int) {D:Int} (hD:0<D):en (Rat.divInt S D)=Rq S D:=Rq_eq (den_pos _) hD (num_den_cross S hD)
theorem divInt_self (x:Rat):Rat.divInt x.num x.den=x:=Rat.num_divInt_den x
def Bd (n:Int) (x:Rat):Prop:=Fb n x.num x.den
theorem Bd.mono {n m:Int} {x:Rat} (h:Bd n x) (hm:n≤m):Bd m x:=⟨h.1,Int.le_trans h.2.1 hm,Int.le_trans h.2.2 hm⟩
theorem Bd_fit {n:Int} {x:Rat} (h:Bd n x) (hn:n≤14000):Fit x.num x.den:=Fb_fit h hn
theorem gc_num_den (x:Rat):gc (ab x.num) x.den=1:=by
 have h:=x.reduced
 unfold gc
 have e:(ab x.num).toNat=x.num.natAbs:=by unfold ab;split<;>omega
 rw [e,Int.toNat_natCast]
 exact_mod_cast h
theorem Bd_divInt {n S D:Int} (h:Fb n S D):Bd n (Rat.divInt S D):=by
 have c:=num_den_cross S h.1
 obtain ⟨N,E,h1,h2,h3,h4,h5,h6,h7,h8⟩:=Rq_spec S h.1
 have hx:=den_pos (Rat.divInt S D)
 generalize Rat.divInt S D=x at *
 have g:=gc_num_den x
 have e:Rq x.num x.den=Rq S D:=Rq_eq hx h.1 c
 obtain ⟨N',E',k1,k2,k3,k4,k5,k6,k7,k8⟩:=Rq_spec x.num hx
 rw [e,h1] at k1
 simp only [Prod.mk.injEq] at k1
 obtain ⟨_,e2,e3⟩:=k1
 have e2:=dg_inj h2 k2 e2
 have e3:=dg_inj (Int.le_of_lt h3) (Int.le_of_lt k3) e3
 obtain ⟨a1,a2⟩:ab x.num=N'∧(x.den:Int)=E':=by
  by_cases hz:x.num=0
  · have:(x.den:Int)=1:=by
     rw [hz,show ab 0=0 from rfl,gc_comm,gc_zero (by omega)] at g
     exact g
    have n0:N'=0:=k7.2 hz
    refine ⟨by rw [hz,n0];rfl,by omega⟩
  · have u1:Rq x.num x.den=(decide (x.num<0),dg (ab x.num/gc (ab x.num) x.den),dg ((x.den:Int)/gc (ab x.num) x.den)):=by unfold Rq;rw [if_neg hz]
    rw [g,Int.ediv_one,Int.ediv_one,e,h1] at u1
    simp only [Prod.mk.injEq] at u1
    exact ⟨by rw [← e2];exact (dg_inj h2 (ab_nonneg _) u1.2.1).symm,by rw [← e3];exact (dg_inj (Int.le_of_lt h3) (Int.le_of_lt hx) u1.2.2).symm⟩
 have b1:=bl_mono h4
 have b2:=bl_mono h5
 have hh:=h.2
 exact ⟨hx,by rw [a1,← e2];omega,by rw [a2,← e3];omega⟩
theorem add_divInt (x y:Rat):x+y=Rat.divInt (x.num*y.den+y.num*x.den) (x.den*y.den):=by
 conv=>lhs;rw [← divInt_self x,← divInt_self y]
 exact Rat.divInt_add_divInt _ _ (by have:=den_pos x;omega) (by have:=den_pos y;omega)
theorem sub_divInt (x y:Rat):x-y=Rat.divInt (x.num*y.den-y.num*x.den) (x.den*y.den):=by
 conv=>lhs;rw [← divInt_self x,← divInt_self y]
 exact Rat.divInt_sub_divInt _ _ (by have:=den_pos x;omega) (by have:=den_pos y;omega)
theorem mul_divInt (x y:Rat):x*y=Rat.divInt (x.num*y.num) (x.den*y.den):=by
 conv=>lhs;rw [← divInt_self x,← divInt_self y]
 exact Rat.divInt_mul_divInt ..
theorem mul_den_pos (x y:Rat):(0:Int)<(x.den:Int)*y.den:=Int.mul_pos (den_pos x) (den_pos y)
theorem num_zero {x:Rat} :x.num=0↔x=0:=Rat.num_eq_zero
theorem ab_pos {x:Int} (h:x≠0):0<ab x:=by have:=ab_nonneg x;have:= @ab_zero x;omega
theorem inv_divInt (y:Rat) (hy:y≠0):y⁻¹ =Rat.divInt (IS y.num y.den) (ab y.num):=by
 conv=>lhs;rw [← divInt_self y]
 rw [Rat.inv_divInt]
 have hz:y.num≠0:=fun k=>hy (num_zero.1 k)
 unfold IS sgI ab
 by_cases hs:y.num<0
 · rw [decide_eq_true hs,if_pos rfl,if_pos hs,Rat.neg_divInt_neg]
 · rw [decide_eq_false hs,if_neg (by decide),if_neg hs]
theorem div_divInt (x y:Rat) (hy:y≠0):x/y=Rat.divInt (x.num*IS y.num y.den) (x.den*ab y.num):=by
 rw [Rat.div_def,inv_divInt y hy]
 conv=>lhs;rw [← divInt_self x]
 exact Rat.divInt_mul_divInt ..
theorem Bd_neg {n:Int} {x:Rat} (h:Bd n x):Bd n (-x):=Fb_neg h
theorem Bd_add {n m:Int} {x y:Rat} (h:Bd n x) (h':Bd m y):Bd (n+m+1) (x+y):=by
 rw [add_divInt]
 exact Bd_divInt (Fb_add h h')
theorem Bd_sub {n m:Int} {x y:Rat} (h:Bd n x) (h':Bd m y):Bd (n+m+1) (x-y):=by
 rw [Rat.sub_eq_add_neg]
 exact Bd_add h (Bd_neg h')
theorem Bd_mul {n m:Int} {x y:Rat} (h:Bd n x) (h':Bd m y):Bd (n+m) (x*y):=by
 rw [mul_divInt]
 exact Bd_divInt (Fb_mul h h')
theorem Bd_div {n m:Int} {x y:Rat} (h:Bd n x) (h':Bd m y) (hy:y≠0):Bd (n+m) (x/y):=by
 rw [div_divInt x y hy]
 exact Bd_divInt (Fb_mul h (Fb_inv h' (fun k=>hy (num_zero.1 k))))
variable {x y:Rat} {n m:Int}
theorem rat_Neg_e (hx:Bd n x) (hn:n≤14000):Ev (fun k=>rat_Neg.f k (en x).1 (en x).2.1 (en x).2.2) (en (-x)):=rat_Neg_c (Bd_fit hx hn)
theorem en_add (x y:Rat):Rq (x.num*y.den+y.num*x.den) (x.den*y.den)=en (x+y):=by rw [add_divInt,en_divInt _ (mul_den_pos x y)]
theorem en_sub (x y:Rat):Rq (x.num*y.den-y.num*x.den) (x.den*y.den)=en (x-y):=by rw [sub_divInt,en_divInt _ (mul_den_pos x y)]
theorem en_mul (x y:Rat):Rq (x.num*y.num) (x.den*y.den)=en (x*y):=by rw [mul_divInt,en_divInt _ (mul_den_pos x y)]
theorem en_div (x y:Rat) (hy:y≠0):Rq (x.num*IS y.num y.den) (x.den*ab y.num)=en (x/y):=by
 rw [div_divInt x y hy,en_divInt]
 exact Int.mul_pos (den_pos x) (ab_pos fun k=>hy (num_zero.1 k))
theorem rat_Add_e (hx:Bd n x) (hy:Bd m y) (hn:n≤14000) (hm:m≤14000):Ev (fun k=>rat_Add.f k (en x).1 (en x).2.1 (en x).2.2 (en y).1 (en y).2.1 (en y).2.2) (en (x+y)):=Ev.eqr (rat_Add_c (Bd_fit hx hn) (Bd_fit hy hm)) (en_add x y)
theorem rat_Sub_e (hx:Bd n x) (hy:Bd m y) (hn:n≤14000) (hm:m≤14000):Ev (fun k=>rat_Sub.f k (en x).1 (en x).2.1 (en x).2.2 (en y).1 (en y).2.1 (en y).2.2) (en (x-y)):=Ev.eqr (rat_Sub_c (Bd_fit hx hn) (Bd_fit hy hm)) (en_sub x y)
theorem rat_Mul_e (hx:Bd n x) (hy:Bd m y) (hn:n≤14000) (hm:m≤14000):Ev (fun k=>rat_Mul.f k (en x).1 (en x).2.1 (en x).2.2 (en y).1 (en y).2.1 (en y).2.2) (en (x*y)):=Ev.eqr (rat_Mul_c (Bd_fit hx hn) (Bd_fit hy hm)) (en_mul x y)
def qo (x y:Rat):Bool × List Int × List Int × Int:=if y=0 then (false,[],[],4) else ((en (x/y)).1,(en (x/y)).2.1,(en (x/y)).2.2,0)
theorem rat_Div_e (hx:Bd n x) (hy:Bd m y) (hn:n≤14000) (hm:m≤14000):Ev (fun k=>rat_Div.f k (en x).1 (en x).2.1 (en x).2.2 (en y).1 (en y).2.1 (en y).2.2) (qo x y):=by
 refine Ev.eqr (rat_Div_c (Bd_fit hx hn) (Bd_fit hy hm)) ?_
 unfold qo
 by_cases hz:y=0
 · rw [if_pos (num_zero.2 hz),if_pos hz]
 · rw [if_neg (fun k=>hz (num_zero.1 k)),if_neg hz,en_div x y hz]
def rb (x:Rat):Int:=mx (bl (ab x.num)) (bl x.den)
theorem en_parts (x:Rat):en x=(decide (x.num<0),dg (ab x.num),dg x.den):=by
 unfold en Rq
 by_cases hz:x.num=0
 · have g:=gc_num_den x
   rw [hz,show ab 0=0 from rfl,gc_comm,gc_zero (by have:=den_pos x;omega)] at g
   rw [if_pos hz,hz,g,show ab 0=0 from rfl,dg_zero,dg_one]
   rfl
 · rw [if_neg hz,gc_num_den,Int.ediv_one,Int.ediv_one]
theorem rb_Bd {n:Int} (h:rb x≤n):Bd n x:=by
 unfold rb mx at h
 exact ⟨den_pos x,by split at h<;>omega,by split at h<;>omega⟩
theorem power_Bits_e (hx:Bd n x) (hn:n≤60000000):Ev (fun k=>power_Bits.f k (en x).1 (en x).2.1 (en x).2.2) (rb x):=by
 have hh:=hx.2
 have hd:=den_pos x
 have h0:=ab_nonneg x.num
 have A:=nat_Bits_c (l:=dg (ab x.num)) (Wl_dg (by omega))
 have B:=nat_Bits_c (l:=dg x.den) (Wl_dg (by omega))
 rw [nv_dg h0] at A
 rw [nv_dg (Int.le_of_lt hd)] at B
 rw [en_parts]
 exact Ev.bind A (Ev.bind B (Ev.same rfl))
def de (q:R3):Rat:=Rat.divInt (sgI q.1 (nv q.2.1)) (nv q.2.2)
def RV (q:R3):Prop:=RR q.1 q.2.1 q.2.2
theorem en_de {q:R3} (ha:Ws q.2.1) (hb:Ws q.2.2) (h:RV q):en (de q)=q:=by
 unfold de
 rw [en_divInt _ (RR_pos hb h)]
 exact RR_Rq ha hb h
theorem de_Bd {q:R3} (ha:Ws q.2.1) (hb:Ws q.2.2) (h:RV q) {n:Nat} (la:q.2.1.length≤n) (lb:q.2.2.length≤n):Bd (64*n) (de q):=by
 refine Bd_divInt ⟨RR_pos hb h, ?_, ?_⟩
 · have:=bl_nv ha
   have n0:=nv_nonneg ha
   have e:ab (sgI q.1 (nv q.2.1))=nv q.2.1:=by unfold ab sgI;split<;>split<;>omega
   rw [e]
   omega
 · have:=bl_nv hb
   omega
end
abbrev I6:=Int × Int × Int × Bool × List Int × List Int
def ari (op:Int):Int:=if op=1∨op=2 then 0 else if op=3∨(8≤op∧op≤10) then 1 else if 4≤op∧op≤7 then 2 else -1
theorem ari_cases (op:Int):(op=1∧ari op=0)∨(op=2∧ari op=0)∨(op=3∧ari op=1)∨(op=4∧ari op=2)∨(op=5∧ari op=2)∨(op=6∧ari op=2)∨(op=7∧ari op=2)∨(op=8∧ari op=1)∨(op=9∧ari op=1)∨(op=10∧ari op=1)∨((op<1∨10<op)∧ari op= -1):=by
 by_cases h1:op=1
 · subst h1;exact .inl ⟨rfl,by decide⟩
 by_cases h2:op=2
 · subst h2;exact .inr (.inl ⟨rfl,by decide⟩)
 by_cases h3:op=3
 · subst h3;exact .inr (.inr (.inl ⟨rfl,by decide⟩))
 by_cases h4:op=4
 · subst h4;exact .inr (.inr (.inr (.inl ⟨rfl,by decide⟩)))
 by_cases h5:op=5
 · subst h5;exact .inr (.inr (.inr (.inr (.inl ⟨rfl,by decide⟩))))
 by_cases h6:op=6
 · subst h6;exact .inr (.inr (.inr (.inr (.inr (.inl ⟨rfl,by decide⟩)))))
 by_cases h7:op=7
 · subst h7;exact .inr (.inr (.inr (.inr (.inr (.inr (.inl ⟨rfl,by decide⟩))))))
 by_cases h8:op=8
 · subst h8;exact .inr (.inr (.inr (.inr (.inr (.inr (.inr (.inl ⟨rfl,by decide⟩)))))))
 by_cases h9:op=9
 · subst h9;exact .inr (.inr (.inr (.inr (.inr (.inr (.inr (.inr (.inl ⟨rfl,by decide⟩))))))))
 by_cases h10:op=10
 · subst h10;exact .inr (.inr (.inr (.inr (.inr (.inr (.inr (.inr (.inr (.inl ⟨rfl,by decide⟩)))))))))
 have e:ari op= -1:=by
  unfold ari
  rw [if_neg (by omega),if_neg (by omega),if_neg (by omega)]
 exact .inr (.inr (.inr (.inr (.inr (.inr (.inr (.inr (.inr (.inr (⟨by omega,e⟩))))))))))
theorem line_Arity_c (op:Int):Ev (fun k=>line_Arity.f k op) (ari op):=by
 refine ⟨1,fun n hn=> ?_⟩
 obtain ⟨m,rfl⟩ : ∃ m,n=m+1:=⟨n-1,by omega⟩
 rcases ari_cases op with ⟨rfl,h⟩ | ⟨rfl,h⟩ | ⟨rfl,h⟩ | ⟨rfl,h⟩ | ⟨rfl,h⟩ | ⟨rfl,h⟩ | ⟨rfl,h⟩ | ⟨rfl,h⟩ | ⟨rfl,h⟩ | ⟨rfl,h⟩ | ⟨h1,h⟩
 case inr.inr.inr.inr.inr.inr.inr.inr.inr.inr =>
  show line_Arity.f (m+1) op=some (ari op)
  rw [h]
  unfold line_Arity.f
  rw [if_neg (by omega),if_neg (by omega),if_neg (by omega),if_neg (by omega),if_neg (by omega),if_neg (by omega),if_neg (by omega),if_neg (by omega),if_neg (by omega),if_neg (by omega)]
 all_goals simp [h,line_Arity.f,line_Arity.j4]
theorem ref15_Arity_c (op:Int):Ev (fun k=>gr15_Arity.f k op) (ari op):=by
 refine ⟨2,fun n hn=> ?_⟩
 obtain ⟨m,rfl⟩ : ∃ m,n=m+1+1:=⟨n-2,by omega⟩
 rcases ari_cases op with ⟨rfl,h⟩ | ⟨rfl,h⟩ | ⟨rfl,h⟩ | ⟨rfl,h⟩ | ⟨rfl,h⟩ | ⟨rfl,h⟩ | ⟨rfl,h⟩ | ⟨rfl,h⟩ | ⟨rfl,h⟩ | ⟨rfl,h⟩ | ⟨h1,h⟩
 case inr.inr.inr.inr.inr.inr.inr.inr.inr.inr =>
  show gr15_Arity.f (m+1+1) op=some (ari op)
  rw [h]
  unfold gr15_Arity.f
  have e2:(op==2)=false:=by rw [beq_eq_false_iff_ne];omega
  rw [if_neg (by omega),gr15_Arity.j0.eq_2,e2,if_neg (by decide),if_neg (by omega)]
  by_cases h8:op≥8
  · rw [if_pos h8,gr15_Arity.j1.eq_2,decide_eq_false (by omega),if_neg (by decide),if_pos (by omega),if_neg (by omega)]
  · rw [if_neg h8,gr15_Arity.j1.eq_2,if_neg (by decide),if_neg (by omega)]
 all_goals simp [h,gr15_Arity.f,gr15_Arity.j0,gr15_Arity.j1]
def NoNum (x:I6):Prop:=x.2.2.2.1=false∧x.2.2.2.2.1= []∧x.2.2.2.2.2= []
def FitsP (x:I6) (n:Int):Prop:=(x.1=2∧x.2.1=0∧x.2.2.1=0∧RV x.2.2.2)∨(x.1=1∧NoNum x∧0≤x.2.1∧x.2.1<65536∧x.2.2.1=0)∨(ari x.1=1∧NoNum x∧0≤x.2.1∧x.2.1<n∧x.2.2.1=0)∨(ari x.1=2∧NoNum x∧0≤x.2.1∧x.2.1<n∧0≤x.2.2.1∧x.2.2.1<n)
def SmI (x:I6):Prop:=Wl x.2.2.2.2.1∧Wl x.2.2.2.2.2∧x.2.2.2.2.1.length≤1000∧x.2.2.2.2.2.length≤1000
theorem line_none_c (x:I6) : ∃ r,line_none.f x.2.2.2.1 x.2.2.2.2.1 x.2.2.2.2.2=some r∧(r=true↔NoNum x):=by
 obtain ⟨op,a,b,s,p,q⟩:=x
 unfold line_none.f NoNum
 cases s
 · cases p
   · cases q
     · exact ⟨_,rfl,by simp⟩
     · refine ⟨_,rfl, ?_⟩
       simp
       omega
   · refine ⟨false, ?_,by simp⟩
     rw [if_neg Bool.false_ne_true,if_neg (by simp only [List.length_cons];omega)]
 · exact ⟨_,rfl,by simp⟩
theorem ref15_None_c (x:I6) (h:SmI x) : ∃ r,Ev (fun k=>gr15_None.f k x.2.2.2.1 x.2.2.2.2.1 x.2.2.2.2.2) r∧(r=true↔NoNum x):=by
 obtain ⟨op,a,b,s,p,q⟩:=x
 obtain ⟨h1,h2,h3,h4⟩:=h
 dsimp only at h3 h4
 refine ⟨_,Ev.bind (ref07_Same_c (s:=s) (s':=false) (a:=p) (b:=q) (a':= []) (b':= []) (by omega) (by omega)) (Ev.same rfl), ?_⟩
 rw [decide_eq_true_iff]
 simp only [Prod.mk.injEq]
 exact Iff.rfl
theorem line_fits_c {x:I6} (hx:SmI x) (n:Int) : ∃ r,Ev (fun k=>line_fits.f k x.1 x.2.1 x.2.2.1 x.2.2.2.1 x.2.2.2.2.1 x.2.2.2.2.2 n) r∧(r=true↔FitsP x n):=by
 obtain ⟨r1,h1,g1⟩:=line_none_c x
 obtain ⟨r2,h2,g2⟩:=rat_Right_c x.2.2.2.1 hx.1 hx.2.1 hx.2.2.1 hx.2.2.2
 have g2:r2=true↔RV x.2.2.2:=g2
 have A:=line_Arity_c x.1
 unfold FitsP
 rw [← g1,← g2]
 clear g1 g2 hx
 obtain ⟨op,a,b,s,p,q⟩:=x
 dsimp only at *
 have ac:=ari_cases op
 generalize ari op=y at *
 obtain ⟨K1,A⟩:=A
 obtain ⟨K2,h2⟩:=h2
 have A : ∀ k,K1≤k→line_Arity.f k op=some y:=A
 have h2 : ∀ k,K2≤k→rat_Right.f k s p q=some r2:=h2
 have E : ∀ k,K1+K2≤k→line_fits.f k op a b s p q n=some (decide ((op=2∧a=0∧b=0∧r2=true)∨(op=1∧r1=true∧0≤a∧a<65536∧b=0)∨(y=1∧r1=true∧0≤a∧a<n∧b=0)∨(y=2∧r1=true∧0≤a∧a<n∧0≤b∧b<n))):=by
  intro k hk
  unfold line_fits.f
  rw [A k (by omega),h1]
  dsimp only [Option.bind]
  rw [h2 k (by omega)]
  dsimp only
  cases r1<;>cases r2<;>simp only [Bool.false_eq_true,and_false,false_and,or_false,false_or,and_true,true_and]<;>(repeat' split)<;>first | rfl | (apply congrArg some;symm;first | (rw [decide_eq_true_iff];omega) | (rw [decide_eq_false_iff_not];omega))
 exact ⟨_,⟨K1+K2,E⟩,decide_eq_true_iff⟩
theorem ref15_Fits_c {x:I6} (hx:SmI x) (n:Int) : ∃ r,Ev (fun k=>gr15_Fits.f k x.1 x.2.1 x.2.2.1 x.2.2.2.1 x.2.2.2.2.1 x.2.2.2.2.2 n) r∧(r=true↔FitsP x n):=by
 obtain ⟨r1,h1,g1⟩:=ref15_None_c x hx
 obtain ⟨r2,h2,g2⟩:=ref07_Right_c x.2.2.2.1 hx.1 hx.2.1 hx.2.2.1 hx.2.2.2
 have g2:r2=true↔RV x.2.2.2:=g2
 have A:=ref15_Arity_c x.1
 unfold FitsP
 rw [← g1,← g2]
 clear g1 g2 hx
 obtain ⟨op,a,b,s,p,q⟩:=x
 dsimp only at *
 have ac:=ari_cases op
 generalize ari op=y at *
 obtain ⟨K1,A⟩:=A
 obtain ⟨K2,h2⟩:=h2
 obtain ⟨K3,h1⟩:=h1
 have A : ∀ k,K1≤k→gr15_Arity.f k op=some y:=A
 have h2 : ∀ k,K2≤k→gr07_Right.f k s p q=some r2:=h2
 have h1 : ∀ k,K3≤k→gr15_None.f k s p q=some r1:=h1
 have E : ∀ k,K1+K2+K3≤k→gr15_Fits.f k op a b s p q n=some (decide ((op=2∧a=0∧b=0∧r2=true)∨(op=1∧r1=true∧0≤a∧a<65536∧b=0)∨(y=1∧r1=true∧0≤a∧a<n∧b=0)∨(y=2∧r1=true∧0≤a∧a<n∧0≤b∧b<n))):=by
  intro k hk
  unfold gr15_Fits.f
  rw [A k (by omega),h1 k (by omega),h2 k (by omega)]
  dsimp only [Option.bind]
  have eb:(b==0)=decide (b=0):=rfl
  rw [eb]
  cases r1<;>cases r2<;>simp only [Bool.false_eq_true,and_false,false_and,or_false,false_or,and_true,true_and,if_true,if_false]<;>(repeat' split)<;>first | rfl | (apply congrArg some;symm;first | (rw [decide_eq_decide];omega) | (rw [decide_eq_true_iff];omega) | (rw [decide_eq_false_iff_not];omega))
 exact ⟨_,⟨K1+K2+K3,E⟩,decide_eq_true_iff⟩

def zI:I6:=(0,0,0,false,[],[])
theorem rd_I6 (l:List I6) (i:Nat):rd_iiibLL l (i:Int)=l.getD i zI:=by
 show l.getD ((i:Int)).toNat zI=_
 rw [Int.toNat_natCast]
theorem getD_of {α:Type} {l:List α} {d:α} {i:Nat} (h:i<l.length):l.getD i d=l[i]:=by
 rw [List.getD_eq_getElem?_getD,List.getElem?_eq_getElem h]
 rfl
def FitL (l:List I6):Prop:= ∀ i:Nat,i<l.length→FitsP (l.getD i zI) i
theorem all_from {P:Nat→Prop} {n i:Nat} (h:i<n):(∀ j,i≤j→j<n→P j)↔P i∧ ∀ j,i+1≤j→j<n→P j :=
 ⟨fun k=>⟨k i (by omega) h,fun j h1 h2=>k j (by omega) h2⟩,fun k j h1 h2=>by
   rcases (show j=i∨i+1≤j by omega) with rfl | h3
   · exact k.1
   · exact k.2 j h3 h2⟩
theorem line_Right_l {l:List I6} (hl:l.length≤65536) (hs : ∀ x∈l,SmI x) (d:Nat) : ∀ i:Nat,i+d=l.length→ ∃ r,Ev (fun k=>line_Right.l0 k l (l.length:Int) i) r∧(r=true↔ ∀ j:Nat,i≤j→j<l.length→FitsP (l.getD j zI) j):=by
 induction d with
 | zero =>
   intro i h
   refine ⟨true,Ev.step (fun k=>line_Right.l0.eq_2 ..) (Ev.ifn (by omega) (Ev.same rfl)), ?_⟩
   simp only [true_iff]
   intro j h1 h2
   omega
 | succ d ih =>
   intro i h
   obtain ⟨r1,h1,g1⟩:=line_fits_c (x:=l.getD i zI) (by rw [getD_of (by omega)];exact hs _ (List.getElem_mem _)) i
   obtain ⟨r2,h2,g2⟩:=ih (i+1) (by omega)
   have ew:wrap64 ((i:Int)+1)=((i+1:Nat):Int):=by rw [w64_id (by omega) (by omega)];omega
   refine ⟨r1&&r2,Ev.step (fun k=>line_Right.l0.eq_2 ..) (Ev.ifp (by omega) (Ev.ifp (by omega) (Ev.ifp (by omega) ?_))), ?_⟩
   · rw [rd_I6]
     refine Ev.bind h1 ?_
     cases r1
     · exact Ev.ifn (by decide) (Ev.same rfl)
     · refine Ev.ifp rfl ?_
       rw [ew]
       exact h2
   · rw [Bool.and_eq_true,g1,g2,all_from (show i<l.length by omega)]
theorem line_Right_c {l:List I6} (hl:l.length≤65536) (hs : ∀ x∈l,SmI x) : ∃ r,Ev (fun k=>line_Right.f k l) r∧(r=true↔FitL l):=by
 obtain ⟨r,h,g⟩:=line_Right_l hl hs l.length 0 (by omega)
 refine ⟨r,Ev.ifn (by omega) h, ?_⟩
 rw [g]
 exact ⟨fun k i hi=>k i (by omega) hi,fun k i _ hi=>k i hi⟩
theorem ref15_Right_l {l:List I6} (hl:l.length≤65536) (hs : ∀ x∈l,SmI x) (d:Nat) : ∀ i:Nat,i+d=l.length→ ∃ r,Ev (fun k=>gr15_Right.l0 k l (l.length:Int) i) r∧(r=true↔ ∀ j:Nat,i≤j→j<l.length→FitsP (l.getD j zI) j):=by
 induction d with
 | zero =>
   intro i h
   refine ⟨true,Ev.step (fun k=>gr15_Right.l0.eq_2 ..) (Ev.ifn (by omega) (Ev.same (by rw [decide_eq_true (by omega)]))), ?_⟩
   simp only [true_iff]
   intro j h1 h2
   omega
 | succ d ih =>
   intro i h
   obtain ⟨r1,h1,g1⟩:=ref15_Fits_c (x:=l.getD i zI) (by rw [getD_of (by omega)];exact hs _ (List.getElem_mem _)) i
   obtain ⟨r2,h2,g2⟩:=ih (i+1) (by omega)
   have ew:wrap64 ((i:Int)+1)=((i+1:Nat):Int):=by rw [w64_id (by omega) (by omega)];omega
   refine ⟨r1&&r2,Ev.step (fun k=>gr15_Right.l0.eq_2 ..) (Ev.ifp (by omega) (Ev.ifp (by omega) (Ev.ifp (by omega) ?_))), ?_⟩
   · rw [rd_I6]
     refine Ev.bind h1 ?_
     cases r1
     · exact Ev.ifn (by decide) (Ev.same rfl)
     · refine Ev.ifp rfl ?_
       rw [ew]
       exact h2
   · rw [Bool.and_eq_true,g1,g2,all_from (show i<l.length by omega)]
theorem ref15_Right_c {l:List I6} (hl:l.length≤65536) (hs : ∀ x∈l,SmI x) : ∃ r,Ev (fun k=>gr15_Right.f k l) r∧(r=true↔FitL l):=by
 obtain ⟨r,h,g⟩:=ref15_Right_l hl hs l.length 0 (by omega)
 refine ⟨r,h, ?_⟩
 rw [g]
 exact ⟨fun k i hi=>k i (by omega) hi,fun k i _ hi=>k i hi⟩

def zR:R3:=(false,[],[])
theorem rd_R3 (l:List R3) (i:Nat):rd_bLL l (i:Int)=l.getD i zR:=by
 show l.getD ((i:Int)).toNat zR=_
 rw [Int.toNat_natCast]
def SmR (q:R3):Prop:=Ws q.2.1∧Ws q.2.2∧q.2.1.length≤1000∧q.2.2.length≤1000
theorem evals_right_l {l:List R3} (hl:l.length≤1000000) (hs : ∀ x∈l,SmR x) (d:Nat) : ∀ i:Nat,i+d=l.length→ ∃ r,Ev (fun k=>evals_right.l0 k l (l.length:Int) i) r∧(r=true↔ ∀ j:Nat,i≤j→j<l.length→RV (l.getD j zR)):=by
 induction d with
 | zero =>
   intro i h
   refine ⟨true,Ev.step (fun k=>evals_right.l0.eq_2 ..) (Ev.ifn (by omega) (Ev.same rfl)), ?_⟩
   simp only [true_iff]
   intro j h1 h2
   omega
 | succ d ih =>
   intro i h
   have sm:SmR (l.getD i zR):=by rw [getD_of (by omega)];exact hs _ (List.getElem_mem _)
   obtain ⟨r1,h1,g1⟩:=rat_Right_c (l.getD i zR).1 ⟨sm.1,by have:=sm.2.2.1;omega⟩ ⟨sm.2.1,by have:=sm.2.2.2;omega⟩ sm.2.2.1 sm.2.2.2
   obtain ⟨r2,h2,g2⟩:=ih (i+1) (by omega)
   have ew:wrap64 ((i:Int)+1)=((i+1:Nat):Int):=by rw [w64_id (by omega) (by omega)];omega
   refine ⟨r1&&r2,Ev.step (fun k=>evals_right.l0.eq_2 ..) (Ev.ifp (by omega) (Ev.ifp (by omega) (Ev.ifp (by omega) ?_))), ?_⟩
   · rw [rd_R3]
     refine Ev.bind h1 ?_
     cases r1
     · exact Ev.ifn (by decide) (Ev.same rfl)
     · refine Ev.ifp rfl ?_
       rw [ew]
       exact h2
   · rw [Bool.and_eq_true,g1,g2,all_from (show i<l.length by omega)]
     exact Iff.rfl
theorem RVs_all {l:List R3} :(∀ j:Nat,0≤j→j<l.length→RV (l.getD j zR))↔ ∀ x∈l,RV x:=by
 constructor
 · intro k x hx
   obtain ⟨j,hj,rfl⟩:=List.getElem_of_mem hx
   rw [← getD_of (d:=zR) hj]
   exact k j (by omega) hj
 · intro k j _ hj
   rw [getD_of hj]
   exact k _ (List.getElem_mem _)
theorem evals_right_c {l:List R3} (hl:l.length≤1000000) (hs : ∀ x∈l,SmR x) : ∃ r,Ev (fun k=>evals_right.f k l) r∧(r=true↔ ∀ x∈l,RV x):=by
 obtain ⟨r,h,g⟩:=evals_right_l hl hs l.length 0 (by omega)
 exact ⟨r,h,g.trans RVs_all⟩
theorem ref16_Rats_l {l:List R3} (hl:l.length≤1000000) (hs : ∀ x∈l,SmR x) (d:Nat) : ∀ i:Nat,i+d=l.length→ ∃ r,Ev (fun k=>gr16_Rats.l0 k l (l.length:Int) i) r∧(r=true↔ ∀ j:Nat,i≤j→j<l.length→RV (l.getD j zR)):=by
 induction d with
 | zero =>
   intro i h
   refine ⟨true,Ev.step (fun k=>gr16_Rats.l0.eq_2 ..) (Ev.ifn (by omega) (Ev.same rfl)), ?_⟩
   simp only [true_iff]
   intro j h1 h2
   omega
 | succ d ih =>
   intro i h
   have sm:SmR (l.getD i zR):=by rw [getD_of (by omega)];exact hs _ (List.getElem_mem _)
   obtain ⟨r1,h1,g1⟩:=ref07_Right_c (l.getD i zR).1 ⟨sm.1,by have:=sm.2.2.1;omega⟩ ⟨sm.2.1,by have:=sm.2.2.2;omega⟩ sm.2.2.1 sm.2.2.2
   obtain ⟨r2,h2,g2⟩:=ih (i+1) (by omega)
   have ew:wrap64 ((i:Int)+1)=((i+1:Nat):Int):=by rw [w64_id (by omega) (by omega)];omega
   refine ⟨r1&&r2,Ev.step (fun k=>gr16_Rats.l0.eq_2 ..) (Ev.ifp (by omega) (Ev.ifp (by omega) (Ev.ifp (by omega) ?_))), ?_⟩
   · rw [rd_R3]
     refine Ev.bind h1 ?_
     cases r1
     · exact Ev.ifn (by decide) (Ev.same rfl)
     · refine Ev.ifp rfl ?_
       rw [ew]
       exact h2
   · rw [Bool.and_eq_true,g1,g2,all_from (show i<l.length by omega)]
     exact Iff.rfl
theorem ref16_Rats_c {l:List R3} (hl:l.length≤1000000) (hs : ∀ x∈l,SmR x) : ∃ r,Ev (fun k=>gr16_Rats.f k l) r∧(r=true↔ ∀ x∈l,RV x):=by
 obtain ⟨r,h,g⟩:=ref16_Rats_l hl hs l.length 0 (by omega)
 exact ⟨r,h,g.trans RVs_all⟩
def gq (l:List Rat) (i:Int):Rat:=l.getD i.toNat 0
theorem rd_en {l:List Rat} {a:Int} (h0:0≤a) (h1:a<l.length):rd_bLL (l.map en) a=en (gq l a):=by
 show (l.map en).getD a.toNat zR=en (l.getD a.toNat 0)
 rw [getD_of (by rw [List.length_map];omega),getD_of (by omega),List.getElem_map]
def BdL (n:Int) (l:List Rat):Prop:= ∀ x∈l,Bd n x
theorem gq_Bd {n:Int} {l:List Rat} {a:Int} (h:BdL n l) (h0:0≤a) (h1:a<l.length):Bd n (gq l a):=by
 unfold gq
 rw [getD_of (by omega)]
 exact h _ (List.getElem_mem _)
theorem BdL_snoc {n:Int} {l:List Rat} {x:Rat} (h:BdL n l) (hx:Bd n x):BdL n (l++ [x]):=by
 intro y hy
 rcases List.mem_append.1 hy with k | k
 · exact h y k
 · rw [List.mem_singleton.1 k];exact hx
theorem BdL.mono {n m:Int} {l:List Rat} (h:BdL n l) (hm:n≤m):BdL m l:=fun x hx=>(h x hx).mono hm
theorem BdL_nil (n:Int):BdL n []:=fun x hx=>absurd hx (by simp)
def ShI (x:I6):Prop:=Ws x.2.2.2.2.1∧Ws x.2.2.2.2.2∧x.2.2.2.2.1.length≤8∧x.2.2.2.2.2.length≤8
theorem ShI.sm {x:I6} (h:ShI x):SmI x:=⟨⟨h.1,by have:=h.2.2.1;omega⟩,⟨h.2.1,by have:=h.2.2.2;omega⟩,by have:=h.2.2.1;omega,by have:=h.2.2.2;omega⟩

def stp (x:I6) (out inn forms:List Rat) (used:Nat):Int × Rat × Nat :=
 if x.1=1 then (if x.2.1<inn.length then (0,gq inn x.2.1,used) else (11,0,used))
 else if x.1=2 then (0,de x.2.2.2,used)
 else if x.1=3 then (0,-(gq out x.2.1),used)
 else if x.1=4 then (0,gq out x.2.1+gq out x.2.2.1,used)
 else if x.1=5 then (0,gq out x.2.1-gq out x.2.2.1,used)
 else if x.1=6 then (0,gq out x.2.1*gq out x.2.2.1,used)
 else if x.1=7 then (if gq out x.2.2.1=0 then (4,0,used) else (0,gq out x.2.1/gq out x.2.2.1,used))
 else if used<forms.length then (0,gq forms used,used+1) else (6,0,used)
def exl (inn forms:List Rat):List I6→Nat→List Rat→Nat→List Rat × Int × Int
 | [],_,out,_=>(out,0,0)
 | x::l,i,out,used =>
   if (stp x out inn forms used).1=0 then (if rb (stp x out inn forms used).2.1>4096 then ([],i,5) else exl inn forms l (i+1) (out++ [(stp x out inn forms used).2.1]) (stp x out inn forms used).2.2)
   else ([],i,(stp x out inn forms used).1)
theorem op_of {x:I6} {n:Int} (h:FitsP x n):(x.1=1∧0≤x.2.1∧x.2.1<65536)∨(x.1=2∧RV x.2.2.2∧x.2.1=0∧x.2.2.1=0)∨((x.1=3∨x.1=8∨x.1=9∨x.1=10)∧0≤x.2.1∧x.2.1<n∧x.2.2.1=0)∨((x.1=4∨x.1=5∨x.1=6∨x.1=7)∧0≤x.2.1∧x.2.1<n∧0≤x.2.2.1∧x.2.2.1<n):=by
 have ac:=ari_cases x.1
 rcases h with ⟨h1,h2,h3,h4⟩ | ⟨h1,_,h3,h4,h5⟩ | ⟨h1,_,h3,h4,h5⟩ | ⟨h1,_,h3,h4,h5,h6⟩
 · exact .inr (.inl ⟨h1,h4,h2,h3⟩)
 · exact .inl ⟨h1,h3,h4⟩
 · exact .inr (.inr (.inl ⟨by omega,h3,h4,h5⟩))
 · exact .inr (.inr (.inr ⟨by omega,h3,h4,h5,h6⟩))
theorem stp_Bd {x:I6} {out inn forms:List Rat} {used:Nat} (hf:FitsP x out.length) (hx:ShI x) (ho:BdL 4096 out) (hi:BdL 4096 inn) (hF:BdL 4096 forms) (h:(stp x out inn forms used).1=0):Bd 8193 (stp x out inn forms used).2.1:=by
 have c:=op_of hf
 unfold stp at h ⊢
 split at h
 · split at h
   · rw [if_pos ‹_›,if_pos ‹_›]
     exact (gq_Bd hi (by omega) (by omega)).mono (by omega)
   · exact absurd h (show ¬ (11:Int)=0 by decide)
 rw [if_neg ‹_›]
 split at h
 · rw [if_pos ‹_›]
   have hv:RV x.2.2.2:=by
    rcases c with c | c | c | c
    · omega
    · exact c.2.1
    · omega
    · omega
   exact (de_Bd hx.1 hx.2.1 hv hx.2.2.1 hx.2.2.2).mono (by omega)
 rw [if_neg ‹_›]
 split at h
 · rw [if_pos ‹_›];exact (Bd_neg (gq_Bd ho (by omega) (by omega))).mono (by omega)
 rw [if_neg ‹_›]
 split at h
 · rw [if_pos ‹_›];exact (Bd_add (gq_Bd ho (by omega) (by omega)) (gq_Bd ho (by omega) (by omega))).mono (by omega)
 rw [if_neg ‹_›]
 split at h
 · rw [if_pos ‹_›];exact (Bd_sub (gq_Bd ho (by omega) (by omega)) (gq_Bd ho (by omega) (by omega))).mono (by omega)
 rw [if_neg ‹_›]
 split at h
 · rw [if_pos ‹_›];exact (Bd_mul (gq_Bd ho (by omega) (by omega)) (gq_Bd ho (by omega) (by omega))).mono (by omega)
 rw [if_neg ‹_›]
 split at h
 · rw [if_pos ‹_›]
   split at h
   · exact absurd h (show ¬ (4:Int)=0 by decide)
   · rw [if_neg ‹_›];exact (Bd_div (gq_Bd ho (by omega) (by omega)) (gq_Bd ho (by omega) (by omega)) ‹_›).mono (by omega)
 rw [if_neg ‹_›]
 split at h
 · rw [if_pos ‹_›];exact (gq_Bd hF (by omega) (by omega)).mono (by omega)
 · exact absurd h (show ¬ (6:Int)=0 by decide)

def sval (r:Int × Rat × Nat):R3:=if r.1=0 then en r.2.1 else zR
def stO (r:Int × Rat × Nat) (out inn forms:List Rat):Bool × List Int × List Int × Int × List R3 × List R3 × List R3 × Int:=((sval r).1,(sval r).2.1,(sval r).2.2,r.1,out.map en,inn.map en,forms.map en,(r.2.2:Int))
theorem len_en (l:List Rat):((l.map en).length:Int)=l.length:=by rw [List.length_map]
theorem exact_step_c {x:I6} {out inn forms:List Rat} {used:Nat} (hf:FitsP x out.length) (hx:ShI x) (ho:BdL 4096 out) (hi:BdL 4096 inn) (hF:BdL 4096 forms) (hl:forms.length≤1000000) :
 Ev (fun k=>evals_exact_step.f k (out.map en) (inn.map en) (forms.map en) used x.1 x.2.1 x.2.2.1 x.2.2.2.1 x.2.2.2.2.1 x.2.2.2.2.2) (stO (stp x out inn forms used) out inn forms):=by
 have c:=op_of hf
 have lo:=len_en out
 have li:=len_en inn
 have lf:=len_en forms
 obtain ⟨op,a,b,q⟩:=x
 dsimp only at c ⊢
 rcases c with ⟨rfl,h0,h1⟩ | ⟨rfl,hv,h0,h1⟩ | ⟨ho3,h0,h1,hb⟩ | ⟨ho2,h0,h1,hb0,hb1⟩
 · refine Ev.ifp rfl ?_
   by_cases hi2:a<inn.length
   · refine Ev.ifn (by omega) (Ev.ifp h0 (Ev.ifp (by omega) (Ev.same ?_)))
     rw [rd_en h0 hi2]
     have:stp (1,a,b,q) out inn forms used=(0,gq inn a,used):=by unfold stp;rw [if_pos rfl,if_pos hi2]
     rw [this]
     rfl
   · refine Ev.ifp (by omega) (Ev.same ?_)
     have:stp (1,a,b,q) out inn forms used=(11,0,used):=by unfold stp;rw [if_pos rfl,if_neg hi2]
     rw [this]
     rfl
 · refine Ev.ifn (by decide) (Ev.ifp rfl (Ev.same ?_))
   have e:en (de q)=q:=en_de hx.1 hx.2.1 hv
   show _=some ((en (de q)).1,(en (de q)).2.1,(en (de q)).2.2,_,_,_,_,_)
   rw [e]
   rfl
 · rcases ho3 with rfl | ho3
   · refine Ev.ifn (by decide) (Ev.ifn (by decide) (Ev.ifp rfl (Ev.ifp h0 (Ev.ifp (by omega) ?_))))
     rw [rd_en h0 h1]
     exact Ev.bind (rat_Neg_e (gq_Bd ho h0 h1) (by omega)) (Ev.same rfl)
   · refine Ev.ifn (by omega) (Ev.ifn (by omega) (Ev.ifn (by omega) (Ev.ifn (by omega) (Ev.ifn (by omega) (Ev.ifn (by omega) (Ev.ifn (by omega) ?_))))))
     have e:stp (op,a,b,q) out inn forms used=if used<forms.length then (0,gq forms used,used+1) else (6,0,used):=by
      unfold stp
      dsimp only
      rw [if_neg (by omega),if_neg (by omega),if_neg (by omega),if_neg (by omega),if_neg (by omega),if_neg (by omega),if_neg (by omega)]
     rw [e]
     by_cases hu:used<forms.length
     · rw [if_pos hu]
       have ew:wrap64 ((used:Int)+1)=((used+1:Nat):Int):=by rw [w64_id (by omega) (by omega)];omega
       have ew2:wrap64 (((used+1:Nat):Int)-1)=(used:Int):=by rw [w64_id (by omega) (by omega)];omega
       have F:evals_exact_form.f 0 (out.map en) (inn.map en) (forms.map en) used=some ((en (gq forms used)).1,(en (gq forms used)).2.1,(en (gq forms used)).2.2,0,out.map en,inn.map en,forms.map en,((used+1:Nat):Int)):=by
        unfold evals_exact_form.f
        rw [ew,ew2]
        clear ew ew2
        rw [if_neg (by omega),if_pos (by omega),if_pos (by omega),rd_en (l:=forms) (a:=(used:Int)) (by omega) (by omega)]
       exact Ev.bindc (x:=evals_exact_form.f 0 (out.map en) (inn.map en) (forms.map en) used) F (Ev.same rfl)
     · rw [if_neg hu]
       have F:evals_exact_form.f 0 (out.map en) (inn.map en) (forms.map en) used=some (false,[],[],6,out.map en,inn.map en,forms.map en,(used:Int)):=by
        unfold evals_exact_form.f
        rw [if_pos (by omega)]
       exact Ev.bindc (x:=evals_exact_form.f 0 (out.map en) (inn.map en) (forms.map en) used) F (Ev.same rfl)
 · have ba:=gq_Bd ho h0 h1
   have bb:=gq_Bd ho hb0 hb1
   rcases ho2 with rfl | rfl | rfl | rfl
   · refine Ev.ifn (by decide) (Ev.ifn (by decide) (Ev.ifn (by decide) (Ev.ifp rfl (Ev.ifp h0 (Ev.ifp (by omega) (Ev.ifp hb0 (Ev.ifp (by omega) ?_)))))))
     rw [rd_en h0 h1,rd_en hb0 hb1]
     exact Ev.bind (rat_Add_e ba bb (by omega) (by omega)) (Ev.same rfl)
   · refine Ev.ifn (by decide) (Ev.ifn (by decide) (Ev.ifn (by decide) (Ev.ifn (by decide) (Ev.ifp rfl (Ev.ifp h0 (Ev.ifp (by omega) (Ev.ifp hb0 (Ev.ifp (by omega) ?_))))))))
     rw [rd_en h0 h1,rd_en hb0 hb1]
     exact Ev.bind (rat_Sub_e ba bb (by omega) (by omega)) (Ev.same rfl)
   · refine Ev.ifn (by decide) (Ev.ifn (by decide) (Ev.ifn (by decide) (Ev.ifn (by decide) (Ev.ifn (by decide) (Ev.ifp rfl (Ev.ifp h0 (Ev.ifp (by omega) (Ev.ifp hb0 (Ev.ifp (by omega) ?_)))))))))
     rw [rd_en h0 h1,rd_en hb0 hb1]
     exact Ev.bind (rat_Mul_e ba bb (by omega) (by omega)) (Ev.same rfl)
   · refine Ev.ifn (by decide) (Ev.ifn (by decide) (Ev.ifn (by decide) (Ev.ifn (by decide) (Ev.ifn (by decide) (Ev.ifn (by decide) (Ev.ifp rfl (Ev.ifp h0 (Ev.ifp (by omega) (Ev.ifp hb0 (Ev.ifp (by omega) ?_))))))))))
     rw [rd_en h0 h1,rd_en hb0 hb1]
     refine Ev.bind (rat_Div_e ba bb (by omega) (by omega)) (Ev.same ?_)
     have e:stp (7,a,b,q) out inn forms used=if gq out b=0 then (4,0,used) else (0,gq out a/gq out b,used):=rfl
     rw [e]
     unfold qo
     by_cases hz:gq out b=0
     · rw [if_pos hz,if_pos hz];rfl
     · rw [if_neg hz,if_neg hz];rfl

def exO (r:List Rat × Int × Int):List R3 × Int × Int:=(r.1.map en,r.2.1,r.2.2)
theorem drop_I6 {l:List I6} {i:Nat} (h:i<l.length):l.drop i=l.getD i zI::l.drop (i+1):=by
 rw [getD_of h]
 exact List.drop_eq_getElem_cons h
theorem map_snoc (l:List Rat) (x:Rat):l.map en++ [en x]=(l++ [x]).map en:=by rw [List.map_append];rfl
theorem en_len {n:Int} {x:Rat} (h:Bd n x) (hn:n≤60000):(en x).2.1.length≤1000∧(en x).2.2.length≤1000:=by
 rw [en_parts]
 have a:=dg_len_bl (ab x.num)
 have b:=dg_len_bl (x.den:Int)
 have:=h.2
 dsimp only
 omega
theorem copied_c {n:Int} {x:Rat} (h:Bd n x) (hn:n≤60000):evals_copied.f (en x).1 (en x).2.1 (en x).2.2=some (en x):=by
 have:=en_len h hn
 unfold evals_copied.f
 show (if ([]:List Int).length+(en x).2.1.length<17592186044416 then (if ([]:List Int).length+(en x).2.2.length<17592186044416 then some ((en x).1,[]++(en x).2.1,[]++(en x).2.2) else none) else none)=_
 rw [if_pos (by simp only [List.length_nil];omega),if_pos (by simp only [List.length_nil];omega)]
 rfl
theorem exact_l0 {l:List I6} {inn forms:List Rat} (hf:FitL l) (hs : ∀ x∈l,ShI x) (hl:l.length≤1000000) (hi:BdL 4096 inn) (hF:BdL 4096 forms) (hlf:forms.length≤1000000) (d:Nat) : ∀ (i:Nat) (out:List Rat) (used:Nat),i+d=l.length→out.length=i→BdL 4096 out →
 Ev (fun k=>evals_Exact.l0 k l (l.length:Int) i (out.map en) (inn.map en) (forms.map en) used) (exO (exl inn forms (l.drop i) i out used)):=by
 induction d with
 | zero =>
   intro i out used h1 h2 h3
   rw [List.drop_of_length_le (by omega)]
   exact Ev.step (fun k=>evals_Exact.l0.eq_2 ..) (Ev.ifn (by omega) (Ev.same rfl))
 | succ d ih =>
   intro i out used h1 h2 h3
   rw [drop_I6 (by omega)]
   have ew:wrap64 ((i:Int)+1)=((i+1:Nat):Int):=by rw [w64_id (by omega) (by omega)];omega
   have fx:FitsP (l.getD i zI) out.length:=by rw [h2];exact hf i (by omega)
   have sx:ShI (l.getD i zI):=by rw [getD_of (by omega)];exact hs _ (List.getElem_mem _)
   refine Ev.step (fun k=>evals_Exact.l0.eq_2 ..) (Ev.ifp (by omega) (Ev.ifp (by omega) (Ev.ifp (by omega) ?_)))
   rw [rd_I6]
   have S:=exact_step_c (used:=used) fx sx h3 hi hF hlf
   have B:=stp_Bd (used:=used) fx sx h3 hi hF
   refine Ev.bind S ?_
   show Ev _ (exO (if _ then _ else _))
   generalize stp (l.getD i zI) out inn forms used=r at *
   obtain ⟨e,v,u⟩:=r
   dsimp only [stO] at *
   by_cases he:e=0
   · have B8:=B he
     subst he
     rw [if_pos rfl]
     have esv:sval (0,v,u)=en v:=rfl
     rw [esv]
     refine Ev.ifp rfl (Ev.bind (power_Bits_e B8 (by omega)) ?_)
     by_cases hb:rb v>4096
     · rw [if_pos hb]
       refine Ev.ifp hb (Ev.step (fun k=>evals_Exact.j10.eq_2 ..) (Ev.ifn (by decide) (Ev.same rfl)))
     · rw [if_neg hb]
       refine Ev.ifn hb (Ev.step (fun k=>evals_Exact.j10.eq_2 ..) (Ev.ifp rfl ?_))
       refine Ev.bindc (copied_c B8 (by omega)) (Ev.ifp (by rw [List.length_map];omega) ?_)
       have:=ih (i+1) (out++ [v]) u (by omega) (by simp;omega) (BdL_snoc h3 (rb_Bd (by omega)))
       rw [ew]
       rw [← map_snoc] at this
       exact this
   · rw [if_neg he]
     have esv:sval (e,v,u)=zR:=if_neg he
     rw [esv]
     refine Ev.ifn he (Ev.step (fun k=>evals_Exact.j10.eq_2 ..) (Ev.ifn he (Ev.same rfl)))

def exS (l:List I6) (inn forms:List Rat):List Rat × Int × Int:=exl inn forms l 0 [] 0
theorem list_en {l:List R3} (hs : ∀ x∈l,Ws x.2.1∧Ws x.2.2) (hr : ∀ x∈l,RV x):(l.map de).map en=l:=by
 induction l with
 | nil=>rfl
 | cons x l ih =>
   have h1:=hs x (List.mem_cons_self ..)
   rw [List.map_cons,List.map_cons,en_de h1.1 h1.2 (hr x (List.mem_cons_self ..)),ih (fun y hy=>hs y (List.mem_cons_of_mem _ hy)) (fun y hy=>hr y (List.mem_cons_of_mem _ hy))]
theorem list_Bd {l:List R3} {n:Nat} (hs : ∀ x∈l,Ws x.2.1∧Ws x.2.2∧x.2.1.length≤n∧x.2.2.length≤n) (hr : ∀ x∈l,RV x):BdL (64*n) (l.map de):=by
 intro y hy
 obtain ⟨x,hx,rfl⟩:=List.mem_map.1 hy
 have h:=hs x hx
 exact de_Bd h.1 h.2.1 (hr x hx) h.2.2.1 h.2.2.2
def Sh3 (q:R3):Prop:=Ws q.2.1∧Ws q.2.2∧q.2.1.length≤3∧q.2.2.length≤3
theorem Sh3.sm {q:R3} (h:Sh3 q):SmR q:=⟨h.1,h.2.1,by have:=h.2.2.1;omega,by have:=h.2.2.2;omega⟩
theorem exl_Bd {inn forms:List Rat} : ∀ (l:List I6) (i:Nat) (out:List Rat) (used:Nat),BdL 4096 out→BdL 4096 (exl inn forms l i out used).1
 | [],i,out,used,h=>h
 | x::l,i,out,used,h=>by
   show BdL 4096 (if _ then _ else _:List Rat × Int × Int).1
   split
   · split
     · exact BdL_nil _
     · exact exl_Bd l (i+1) _ _ (BdL_snoc h (rb_Bd (by omega)))
   · exact BdL_nil _
theorem exl_len {inn forms:List Rat} : ∀ (l:List I6) (i:Nat) (out:List Rat) (used:Nat),((exl inn forms l i out used).2.2=0→(exl inn forms l i out used).1.length=out.length+l.length∧(exl inn forms l i out used).2.1=0)∧(exl inn forms l i out used).1.length≤out.length+l.length
 | [],i,out,used=>⟨fun _=>⟨rfl,rfl⟩,by show out.length≤_;omega⟩
 | x::l,i,out,used=>by
   show (((if _ then _ else _:List Rat × Int × Int).2.2=0)→(if _ then _ else _:List Rat × Int × Int).1.length=_∧(if _ then _ else _:List Rat × Int × Int).2.1=0)∧(if _ then _ else _:List Rat × Int × Int).1.length≤_
   split
   · split
     · exact ⟨fun h=>absurd h (show ¬ (5:Int)=0 by decide),by simp⟩
     · have ih:=exl_len (inn:=inn) (forms:=forms) l (i+1) (out++ [(stp x out inn forms used).2.1]) (stp x out inn forms used).2.2
       simp only [List.length_append,List.length_cons,List.length_nil] at ih ⊢
       refine ⟨fun h=>⟨by have:=(ih.1 h).1;omega,(ih.1 h).2⟩,by have:=ih.2;omega⟩
   · rename_i h
     exact ⟨fun k=>absurd k h,by simp⟩
theorem sqrt_both {b:Int} (hb:U b) : ∃ w,U w∧Ev (fun k=>fprod_Sqrt.f k b) w∧Ev (fun k=>gr12_Sqrt.f k b) w:=by
 by_cases h4:fk b=4
 · exact ⟨NAN,NAN_U,fprod_Sqrt_no hb (.inl h4),ref12_Sqrt_no hb (.inl h4)⟩
 · by_cases h0:fk b=0
   · exact ⟨b,hb,fprod_Sqrt_same hb (.inl h0),ref12_Sqrt_same hb (.inl h0)⟩
   · cases hs:fs b
     · by_cases h3:fk b=3
       · exact ⟨b,hb,fprod_Sqrt_same hb (.inr ⟨h3,hs⟩),ref12_Sqrt_same hb (.inr ⟨h3,hs⟩)⟩
       · have hz:pm b≠0:=fun k=>h0 ((fk_eq b).2.2.2.1.2 ⟨fk_fin h4 h3,k⟩)
         have hp:=pm_range b
         obtain ⟨w,hw⟩:=IsSq_ex (show 0<pm b by omega) (pe b)
         have hU:U w:=by
          obtain ⟨up,c,r,_,_,_,e⟩:=hw
          rw [e]
          have:=Rd_range (sv (pm b*2^up) r) c
          unfold INF at this
          unfold U
          omega
         exact ⟨w,hU,fprod_Sqrt_c hb h4 h3 h0 hs hw,ref12_Sqrt_c hb h4 h3 h0 hs hw⟩
     · exact ⟨NAN,NAN_U,fprod_Sqrt_no hb (.inr ⟨h0,hs⟩),ref12_Sqrt_no hb (.inr ⟨h0,hs⟩)⟩
theorem flogS_U (f k:Int):U (flogS f k):=by
 unfold flogS
 split
 · exact ly_U f
 · exact fadd_U (fmul_U _ _) (fadd_U (ly_U f) (fmul_U _ _))
theorem flog_U {x:Int} (h:U x):U (flog x):=by
 unfold flog
 split
 · exact sgnINF_U true
 · split
   · exact NAN_U
   · split
     · exact h
     · exact flogS_U _ _
theorem fexp_U (x:Int):U (fexp x):=by
 unfold fexp
 split
 · exact NAN_U
 · split
   · unfold U INF;omega
   · split
     · unfold U;omega
     · exact fscale_U (hexp_U _ _ (fpart_U _)) _
theorem fR_U (neg:Bool) (N D:Int):U (fR neg N D):=by
 unfold fR
 split
 · unfold U;omega
 · have h:0≤fq N D∧fq N D≤INF:=by
    unfold fq
    split
    · unfold INF;omega
    · split
      · unfold INF;omega
      · exact Rd_range _ _
   exact (sgn_parts h.1 (by have:=h.2;unfold INF at this;omega) neg).1
theorem cl_U {b:Int} (h:U b):U (cl b):=by
 unfold cl
 split
 · exact NAN_U
 · exact h
def SqOk (sq:Int→Int):Prop:= ∀ b,U b→U (sq b)∧Ev (fun k=>fprod_Sqrt.f k b) (sq b)∧Ev (fun k=>gr12_Sqrt.f k b) (sq b)
theorem SqOk_ex : ∃ sq,SqOk sq:=by
 have : ∀ b:Int,∃ w,U b→U w∧Ev (fun k=>fprod_Sqrt.f k b) w∧Ev (fun k=>gr12_Sqrt.f k b) w:=fun b=>by
  by_cases h:U b
  · obtain ⟨w,hw⟩:=sqrt_both h
    exact ⟨w,fun _=>hw⟩
  · exact ⟨0,fun k=>absurd k h⟩
 exact ⟨fun b=>Classical.choose (this b),fun b=>Classical.choose_spec (this b)⟩
def fdo (sq:Int→Int) (op a b:Int):Int:=if op=3 then fl a else if op=4 then fadd a b else if op=5 then fsub a b else if op=6 then fmul a b else if op=7 then fdiv a b else if op=8 then sq a else if op=9 then fexp a else flog a
theorem fdo_U {sq:Int→Int} (hq:SqOk sq) {op a b:Int} (ha:U a) (hb:U b):U (fdo sq op a b):=by
 unfold fdo
 repeat' split
 · exact fl_U a
 · exact fadd_U ha hb
 · exact fsub_U ha
 · exact fmul_U a b
 · exact fdiv_U a b
 · exact (hq a ha).1
 · exact fexp_U a
 · exact flog_U ha
def fval (sq:Int→Int) (x:I6) (out inn:List Int):Int:=if x.1=1 then cl (rd inn x.2.1) else if x.1=2 then fR x.2.2.2.1 (nv x.2.2.2.2.1) (nv x.2.2.2.2.2) else fdo sq x.1 (rd out x.2.1) (rd out x.2.2.1)
def fll (sq:Int→Int) (inn:List Int):List I6→Nat→List Int→List Int × Int × Int
 | [],_,out=>(out,0,0)
 | x::l,i,out=>if x.1=1∧ ¬ x.2.1<inn.length then ([],i,11) else fll sq inn l (i+1) (out++ [fval sq x out inn])
theorem rd_Ws {l:List Int} {a:Int} (h:Ws l) (h0:0≤a) (h1:a<l.length):U (rd l a):=by
 unfold rd
 rw [getD_of (by omega)]
 exact h _ (List.getElem_mem _)
theorem fval_U {sq:Int→Int} (hq:SqOk sq) {x:I6} {out inn:List Int} (hf:FitsP x out.length) (ho:Ws out) (hi:Ws inn) (h1 : ¬ (x.1=1∧ ¬ x.2.1<inn.length)):U (fval sq x out inn):=by
 have c:=op_of hf
 unfold fval
 split
 · exact cl_U (rd_Ws hi (by omega) (by omega))
 · split
   · exact fR_U _ _ _
   · exact fdo_U hq (rd_Ws ho (by omega) (by omega)) (rd_Ws ho (by omega) (by omega))
theorem double_c {sq:Int→Int} (hq:SqOk sq) {x:I6} {out inn:List Int} (hf:FitsP x out.length) (hx:ShI x) (ho:Ws out) (hi:Ws inn) (h1 : ¬ (x.1=1∧ ¬ x.2.1<inn.length)) :
 Ev (fun k=>evals_double.f k x.1 x.2.1 x.2.2.1 x.2.2.2.1 x.2.2.2.2.1 x.2.2.2.2.2 out inn) (fval sq x out inn):=by
 have c:=op_of hf
 obtain ⟨op,a,b,q⟩:=x
 dsimp only at c h1 ⊢
 rcases c with ⟨rfl,h0,_⟩ | ⟨rfl,hv,h0,h2⟩ | ⟨ho3,h0,h2,hb⟩ | ⟨ho2,h0,h2,hb0,hb1⟩
 · exact Ev.ifp rfl (Ev.ifp h0 (Ev.ifp (by omega) (Ev.bindc (fbits_Clean_c (rd_Ws hi h0 (by omega))) (Ev.same rfl))))
 · have R:=fround_FromRat_c q.1 (a:=q.2.1) (b:=q.2.2) ⟨hx.1,by have:=hx.2.2.1;dsimp only at this;omega⟩ ⟨hx.2.1,by have:=hx.2.2.2;dsimp only at this;omega⟩ (by have:=hx.2.2.1;dsimp only at this;omega) (by have:=hx.2.2.2;dsimp only at this;omega) (RR_pos hx.2.1 hv)
   exact Ev.ifn (by decide) (Ev.ifp rfl (Ev.bind R (Ev.same rfl)))
 · have ua:=rd_Ws ho h0 h2
   refine Ev.ifn (by omega) (Ev.ifn (by omega) ?_)
   rcases ho3 with rfl | rfl | rfl | rfl
   · exact Ev.ifp rfl (Ev.ifp h0 (Ev.ifp h2 (Ev.bindc (fbits_Flip_c ua) (Ev.same rfl))))
   · exact Ev.ifn (by decide) (Ev.ifn (by decide) (Ev.ifn (by decide) (Ev.ifn (by decide) (Ev.ifn (by decide) (Ev.ifp rfl (Ev.ifp h0 (Ev.ifp h2 (Ev.bind (hq _ ua).2.1 (Ev.same rfl)))))))))
   · exact Ev.ifn (by decide) (Ev.ifn (by decide) (Ev.ifn (by decide) (Ev.ifn (by decide) (Ev.ifn (by decide) (Ev.ifn (by decide) (Ev.ifp rfl (Ev.ifp h0 (Ev.ifp h2 (Ev.bind (kernel_Exp_c ua) (Ev.same rfl))))))))))
   · exact Ev.ifn (by decide) (Ev.ifn (by decide) (Ev.ifn (by decide) (Ev.ifn (by decide) (Ev.ifn (by decide) (Ev.ifn (by decide) (Ev.ifn (by decide) (Ev.ifp h0 (Ev.ifp h2 (Ev.bind (kernel_Log_c ua) (Ev.same rfl))))))))))
 · have ua:=rd_Ws ho h0 h2
   have ub:=rd_Ws ho hb0 hb1
   refine Ev.ifn (by omega) (Ev.ifn (by omega) (Ev.ifn (by omega) ?_))
   rcases ho2 with rfl | rfl | rfl | rfl
   · exact Ev.ifp rfl (Ev.ifp h0 (Ev.ifp h2 (Ev.ifp hb0 (Ev.ifp hb1 (Ev.bind (fsum_Add_c ua ub) (Ev.same rfl))))))
   · exact Ev.ifn (by decide) (Ev.ifp rfl (Ev.ifp h0 (Ev.ifp h2 (Ev.ifp hb0 (Ev.ifp hb1 (Ev.bind (fsum_Sub_c ua ub) (Ev.same rfl)))))))
   · exact Ev.ifn (by decide) (Ev.ifn (by decide) (Ev.ifp rfl (Ev.ifp h0 (Ev.ifp h2 (Ev.ifp hb0 (Ev.ifp hb1 (Ev.bind (fprod_Mul_c ua ub) (Ev.same rfl))))))))
   · exact Ev.ifn (by decide) (Ev.ifn (by decide) (Ev.ifn (by decide) (Ev.ifp rfl (Ev.ifp h0 (Ev.ifp h2 (Ev.ifp hb0 (Ev.ifp hb1 (Ev.bind (fprod_Div_c ua ub) (Ev.same rfl)))))))))
theorem float_l0 {sq:Int→Int} (hq:SqOk sq) {l:List I6} {inn:List Int} (hf:FitL l) (hs : ∀ x∈l,ShI x) (hl:l.length≤1000000) (hi:Ws inn) (d:Nat) : ∀ (i:Nat) (out:List Int),i+d=l.length→out.length=i→Ws out →
 Ev (fun k=>evals_Float.l0 k inn out l (l.length:Int) i) (fll sq inn (l.drop i) i out):=by
 induction d with
 | zero =>
   intro i out h1 h2 h3
   rw [List.drop_of_length_le (by omega)]
   exact Ev.step (fun k=>evals_Float.l0.eq_2 ..) (Ev.ifn (by omega) (Ev.same rfl))
 | succ d ih =>
   intro i out h1 h2 h3
   rw [drop_I6 (by omega)]
   have ew:wrap64 ((i:Int)+1)=((i+1:Nat):Int):=by rw [w64_id (by omega) (by omega)];omega
   have fx:FitsP (l.getD i zI) out.length:=by rw [h2];exact hf i (by omega)
   have sx:ShI (l.getD i zI):=by rw [getD_of (by omega)];exact hs _ (List.getElem_mem _)
   refine Ev.step (fun k=>evals_Float.l0.eq_2 ..) (Ev.ifp (by omega) (Ev.ifp (by omega) (Ev.ifp (by omega) ?_)))
   rw [rd_I6]
   show Ev _ (if _ then _ else _)
   have D:=double_c hq fx sx h3 hi
   have V:=fval_U hq fx h3 hi
   generalize l.getD i zI=x at *
   have J : ¬ (x.1=1∧ ¬ x.2.1<inn.length)→Ev (fun k=>evals_Float.j9 k inn out l (l.length:Int) i x.1 x.2.1 x.2.2.1 x.2.2.2.1 x.2.2.2.2.1 x.2.2.2.2.2) (fll sq inn (l.drop (i+1)) (i+1) (out++ [fval sq x out inn])):=by
    intro hn
    refine Ev.step (fun k=>evals_Float.j9.eq_2 ..) (Ev.bind (D hn) (Ev.ifp (by omega) ?_))
    rw [ew]
    exact ih (i+1) _ (by omega) (by simp;omega) (Ws_app.2 ⟨h3,Ws_one (V hn)⟩)
   by_cases h1:x.1=1
   · by_cases h2:x.2.1<inn.length
     · rw [if_neg (fun k=>k.2 h2)]
       exact Ev.ifp h1 (Ev.ifn (by omega) (J fun k=>k.2 h2))
     · rw [if_pos ⟨h1,h2⟩]
       exact Ev.ifp h1 (Ev.ifp (by omega) (Ev.same rfl))
   · rw [if_neg (fun k=>h1 k.1)]
     exact Ev.ifn h1 (J fun k=>h1 k.1)
theorem rd_bool (l:List Bool) (i:Nat):rd_b l (i:Int)=l.getD i false:=by
 show l.getD ((i:Int)).toNat false=_
 rw [Int.toNat_natCast]
theorem rd_int (l:List Int) (i:Nat):rd l (i:Int)=l.getD i 0:=by
 show l.getD ((i:Int)).toNat 0=_
 rw [Int.toNat_natCast]
theorem getD_setb {n:List Bool} {a j:Nat} {v:Bool} (h:a<n.length):(n.set a v).getD j false=if j=a then v else n.getD j false:=by
 rw [List.getD_eq_getElem?_getD,List.getD_eq_getElem?_getD,List.getElem?_set]
 by_cases e:a=j
 · subst e;simp [h]
 · rw [if_neg e,if_neg (fun q=>e q.symm)]
def Cl (l:List I6) (n:List Bool) (i:Nat):Prop:= ∀ j,i≤j→j<l.length→n.getD j false=true →
 (1≤ari (l.getD j zI).1→n.getD (l.getD j zI).2.1.toNat false=true)∧(ari (l.getD j zI).1=2→n.getD (l.getD j zI).2.2.1.toNat false=true)
theorem ari_of {x:I6} {n:Int} (h:FitsP x n):(ari x.1=0∨ari x.1=1∨ari x.1=2)∧(1≤ari x.1→0≤x.2.1∧x.2.1<n)∧(ari x.1=1→x.2.2.1=0)∧(ari x.1=2→0≤x.2.2.1∧x.2.2.1<n):=by
 have ac:=ari_cases x.1
 rcases h with ⟨h1,h2,h3,h4⟩ | ⟨h1,_,h3,h4,h5⟩ | ⟨h1,_,h3,h4,h5⟩ | ⟨h1,_,h3,h4,h5,h6⟩
 · rw [h1];exact ⟨.inl rfl,fun q=>absurd q (by decide),fun q=>absurd q (by decide),fun q=>absurd q (by decide)⟩
 · rw [h1];exact ⟨.inl rfl,fun q=>absurd q (by decide),fun q=>absurd q (by decide),fun q=>absurd q (by decide)⟩
 · rw [h1]
   refine ⟨.inr (.inl rfl),fun _=>⟨h3,h4⟩,fun _=>h5,fun q=>absurd q (by decide)⟩
 · rw [h1]
   refine ⟨.inr (.inr rfl),fun _=>⟨h3,h4⟩,fun q=>absurd q (by decide),fun _=>⟨h5,h6⟩⟩
theorem needs_l1 {l:List I6} (hf:FitL l) (hl:l.length≤65536) : ∀ (i:Nat) (n:List Bool),i≤l.length→n.length=l.length→Cl l n i →
 ∃ n',Ev (fun k=>line_Needs.l1 k l n ((i:Int)-1)) n'∧n'.length=l.length∧Cl l n' 0∧ ∀ j,n.getD j false=true→n'.getD j false=true:=by
 intro i
 induction i with
 | zero =>
   intro n h1 h2 h3
   exact ⟨n,Ev.step (fun k=>line_Needs.l1.eq_2 ..) (Ev.ifn (by omega) (Ev.same rfl)),h2,h3,fun _ h=>h⟩
 | succ i ih =>
   intro n h1 h2 h3
   have e1:(((i+1:Nat):Int)-1)=(i:Int):=by omega
   have ew:wrap64 ((i:Int)-1)=(i:Int)-1:=by rw [w64_id (by omega) (by omega)]
   have fx:=hf i (by omega)
   obtain ⟨a1,a2,a3,a4⟩:=ari_of fx
   have A:=line_Arity_c (l.getD i zI).1
   rw [e1]
   by_cases hn:n.getD i false=true
   · by_cases ha:1≤ari (l.getD i zI).1
     · have hA:=a2 ha
       have hB:0≤(l.getD i zI).2.2.1∧(l.getD i zI).2.2.1<l.length∧((l.getD i zI).2.2.1.toNat<i∨ari (l.getD i zI).1=1∧(l.getD i zI).2.2.1=0):=by
        rcases a1 with q | q | q
        · omega
        · have:=a3 q;omega
        · have:=a4 q;omega
       generalize hAt:(l.getD i zI).2.1=a at *
       generalize hBt:(l.getD i zI).2.2.1=b at *
       have la:a.toNat<n.length:=by omega
       have lb:b.toNat<(n.set a.toNat true).length:=by rw [List.length_set];omega
       have key : ∃ v:Bool,(v=true↔(n.set a.toNat true).getD b.toNat false=true∨ari (l.getD i zI).1=2)∧ ∀ {n'},Ev (fun k=>line_Needs.l1 k l ((n.set a.toNat true).set b.toNat v) ((i:Int)-1)) n'→Ev (fun k=>line_Needs.l1 k l n (i:Int)) n':=by
        by_cases ht:(n.set a.toNat true).getD b.toNat false=true
        · refine ⟨true,⟨fun _=> .inl ht,fun _=>rfl⟩,fun {n'} E=> ?_⟩
          refine Ev.step (fun k=>line_Needs.l1.eq_2 ..) (Ev.ifp (by omega) (Ev.ifp (by omega) (Ev.ifp (by omega) ?_)))
          rw [rd_I6]
          refine Ev.bind A (Ev.ifp (by omega) (Ev.ifp (by rw [rd_bool];exact hn) (Ev.ifp (by omega) (Ev.ifp (by rw [hAt];omega) (Ev.ifp (by rw [hAt];omega) (Ev.ifp (by rw [hBt];omega) (Ev.ifp (by rw [hBt,List.length_set];omega) (Ev.ifp ?_ ?_))))))))
          · rw [hAt,hBt];exact ht
          · rw [hAt,hBt,ew];exact E
        · refine ⟨ari (l.getD i zI).1==2,⟨fun q=> .inr (beq_iff_eq.1 q),fun q=>q.elim (fun z=>absurd z ht) (fun z=>beq_iff_eq.2 z)⟩,fun {n'} E=> ?_⟩
          refine Ev.step (fun k=>line_Needs.l1.eq_2 ..) (Ev.ifp (by omega) (Ev.ifp (by omega) (Ev.ifp (by omega) ?_)))
          rw [rd_I6]
          refine Ev.bind A (Ev.ifp (by omega) (Ev.ifp (by rw [rd_bool];exact hn) (Ev.ifp (by omega) (Ev.ifp (by rw [hAt];omega) (Ev.ifp (by rw [hAt];omega) (Ev.ifp (by rw [hBt];omega) (Ev.ifp (by rw [hBt,List.length_set];omega) (Ev.ifn ?_ ?_))))))))
          · rw [hAt,hBt];exact ht
          · rw [hAt,hBt,ew];exact E
       obtain ⟨v,hv,E⟩:=key
       have g2 : ∀ j,((n.set a.toNat true).set b.toNat v).getD j false=if j=b.toNat then v else if j=a.toNat then true else n.getD j false:=fun j=>by
        rw [getD_setb lb,getD_setb la]
       have mono : ∀ j,n.getD j false=true→((n.set a.toNat true).set b.toNat v).getD j false=true:=fun j hj=>by
        rw [g2]
        split
        · rename_i e
          refine hv.2 (.inl ?_)
          rw [getD_setb la,← e]
          split
          · rfl
          · exact hj
        · split
          · rfl
          · exact hj
       obtain ⟨n',q1,q2,q3,q4⟩:=ih ((n.set a.toNat true).set b.toNat v) (by omega) (by rw [List.length_set,List.length_set];exact h2) (fun j k1 k2 k3=>by
        rcases Nat.lt_or_ge i j with c | c
        · have hj:n.getD j false=true:=by
           rw [g2,if_neg (by omega),if_neg (by omega)] at k3
           exact k3
          obtain ⟨z1,z2⟩:=h3 j (by omega) k2 hj
          exact ⟨fun q=>mono _ (z1 q),fun q=>mono _ (z2 q)⟩
        · obtain rfl:j=i:=by omega
          rw [hAt,hBt]
          refine ⟨fun _=> ?_,fun q=> ?_⟩
          · rw [g2]
            split
            · rename_i e
              refine hv.2 (.inl ?_)
              rw [getD_setb la,if_pos e.symm]
            · rw [if_pos rfl]
          · rw [g2,if_pos rfl]
            exact hv.2 (.inr q))
       exact ⟨n',E q1,q2,q3,fun j hj=>q4 j (mono j hj)⟩
     · obtain ⟨n',q1,q2,q3,q4⟩:=ih n (by omega) h2 (fun j k1 k2 k3=>by
        rcases Nat.lt_or_ge i j with c | c
        · exact h3 j (by omega) k2 k3
        · obtain rfl:j=i:=by omega
          exact ⟨fun q=>absurd q ha,fun q=>by omega⟩)
       refine ⟨n',Ev.step (fun k=>line_Needs.l1.eq_2 ..) (Ev.ifp (by omega) (Ev.ifp (by omega) (Ev.ifp (by omega) ?_))),q2,q3,q4⟩
       rw [rd_I6]
       refine Ev.bind A (Ev.ifp (by omega) (Ev.ifp (by rw [rd_bool];exact hn) (Ev.ifn (by omega) ?_)))
       rw [ew]
       exact q1
   · obtain ⟨n',q1,q2,q3,q4⟩:=ih n (by omega) h2 (fun j k1 k2 k3=>by
      rcases Nat.lt_or_ge i j with c | c
      · exact h3 j (by omega) k2 k3
      · obtain rfl:j=i:=by omega
        exact absurd k3 hn)
     refine ⟨n',Ev.step (fun k=>line_Needs.l1.eq_2 ..) (Ev.ifp (by omega) (Ev.ifp (by omega) (Ev.ifp (by omega) ?_))),q2,q3,q4⟩
     rw [rd_I6]
     refine Ev.bind A (Ev.ifp (by omega) (Ev.ifn (by rw [rd_bool];exact hn) ?_))
     rw [ew]
     exact q1
theorem needs_l0 {l:List I6} {outs:List Int} (hf:FitL l) (hl:l.length≤65536) (ho:outs.length≤1000000) (d:Nat) : ∀ (i:Nat) (n:List Bool),i+d=outs.length→n.length=l.length →
 ∃ n',Ev (fun k=>line_Needs.l0 k l n outs (outs.length:Int) i) n'∧n'.length=l.length∧Cl l n' 0∧(∀ j,n.getD j false=true→n'.getD j false=true)∧ ∀ q,i≤q→q<outs.length→0≤outs.getD q 0→outs.getD q 0<l.length→n'.getD (outs.getD q 0).toNat false=true:=by
 induction d with
 | zero =>
   intro i n h1 h2
   obtain ⟨n',q1,q2,q3,q4⟩:=needs_l1 hf hl l.length n (Nat.le_refl _) h2 (fun j k1 k2=>by omega)
   refine ⟨n',Ev.step (fun k=>line_Needs.l0.eq_2 ..) (Ev.ifn (by omega) ?_),q2,q3,q4,fun q k1 k2=>by omega⟩
   rw [w64_id (by omega) (by omega)]
   exact q1
 | succ d ih =>
   intro i n h1 h2
   have ew:wrap64 ((i:Int)+1)=((i+1:Nat):Int):=by rw [w64_id (by omega) (by omega)];omega
   by_cases hr:0≤outs.getD i 0∧outs.getD i 0<l.length
   · obtain ⟨n',q1,q2,q3,q4,q5⟩:=ih (i+1) (n.set (outs.getD i 0).toNat true) (by omega) (by rw [List.length_set];exact h2)
     have lo:(outs.getD i 0).toNat<n.length:=by omega
     refine ⟨n',Ev.step (fun k=>line_Needs.l0.eq_2 ..) (Ev.ifp (by omega) (Ev.ifp (by omega) (Ev.ifp (by omega) ?_))),q2,q3,fun j hj=>q4 j ?_,fun q k1 k2 k3 k4=> ?_⟩
     · rw [rd_int]
       refine Ev.ifp (by omega) (Ev.ifp (by omega) (Ev.ifp (by omega) (Ev.ifp (by omega) (Ev.step (fun k=>line_Needs.j9.eq_2 ..) ?_))))
       rw [ew]
       exact q1
     · rw [getD_setb lo]
       split
       · rfl
       · exact hj
     · rcases (show q=i∨i+1≤q by omega) with rfl | h3
       · exact q4 _ (by rw [getD_setb lo,if_pos rfl])
       · exact q5 q h3 k2 k3 k4
   · obtain ⟨n',q1,q2,q3,q4,q5⟩:=ih (i+1) n (by omega) h2
     refine ⟨n',Ev.step (fun k=>line_Needs.l0.eq_2 ..) (Ev.ifp (by omega) (Ev.ifp (by omega) (Ev.ifp (by omega) ?_))),q2,q3,q4,fun q k1 k2 k3 k4=> ?_⟩
     · rw [rd_int]
       have J:Ev (fun k=>line_Needs.j9 k l n outs (outs.length:Int) i) n':=Ev.step (fun k=>line_Needs.j9.eq_2 ..) (by rw [ew];exact q1)
       by_cases h0:outs.getD i 0≥0
       · exact Ev.ifp h0 (Ev.ifn (fun q=>hr ⟨h0,q⟩) J)
       · exact Ev.ifn h0 J
     · rcases (show q=i∨i+1≤q by omega) with rfl | h3
       · exact absurd ⟨k3,k4⟩ hr
       · exact q5 q h3 k2 k3 k4
theorem line_Needs_c {l:List I6} {outs:List Int} (hf:FitL l) (hs : ∀ x∈l,SmI x) (hl:l.length≤65536) (ho:outs.length≤1000000) :
 ∃ n,Ev (fun k=>line_Needs.f k l outs) n∧n.length=l.length∧Cl l n 0∧ ∀ q,q<outs.length→0≤outs.getD q 0→outs.getD q 0<l.length→n.getD (outs.getD q 0).toNat false=true:=by
 obtain ⟨a1,A1,c1⟩:=line_Right_c hl hs
 obtain ⟨n,q1,q2,q3,_,q5⟩:=needs_l0 hf hl ho outs.length 0 (List.replicate l.length false) (by omega) (by simp)
 refine ⟨n,Ev.bind A1 (Ev.ifp (c1.2 hf) (Ev.ifp (by omega) (Ev.ifp (by rw [Int.toNat_natCast];omega) ?_))),q2,q3,fun q k1=>q5 q (Nat.zero_le _) k1⟩
 rw [Int.toNat_natCast]
 exact q1
theorem mget_mput {v:Int} {n m:Int} : ∀ xs:List (Int × Int),mget (mput xs n v) m=if m=n then v else mget xs m
 | []=>by
   simp only [mput,mget]
   by_cases h:m=n
   · rw [if_pos h.symm,if_pos h]
   · rw [if_neg (fun q=>h q.symm),if_neg h]
 | p::xs=>by
   simp only [mput]
   by_cases hp:p.1=n
   · rw [if_pos hp]
     simp only [mget]
     by_cases h:m=n
     · rw [if_pos h.symm,if_pos h]
     · rw [if_neg (fun q=>h q.symm),if_neg h,if_neg (fun q=>h (q.symm.trans hp))]
   · rw [if_neg hp]
     simp only [mget]
     rw [mget_mput xs]
     by_cases h:p.1=m
     · rw [if_pos h,if_pos h,if_neg (fun q=>hp (h.trans q))]
     · rw [if_neg h,if_neg h]

theorem stp_used {x:I6} {out inn:List Rat} {used:Nat} (h:(stp x out inn [] used).1=0):(stp x out inn [] used).2.2=used:=by
 unfold stp at h ⊢
 split
 · split<;>rfl
 split
 · rfl
 split
 · rfl
 split
 · rfl
 split
 · rfl
 split
 · rfl
 split
 · split<;>rfl
 · rw [if_neg (show ¬ used<List.length ([]:List Rat) by simp)]
theorem exl_at {inn:List Rat} : ∀ (l:List I6) (i:Nat) (out:List Rat) (used:Nat) (w:List Rat) (a:Int),exl inn [] l i out used=(w,a,0) →
 ∃ v,w=out++v∧v.length=l.length∧ ∀ j,j<l.length→stp (l.getD j zI) (out++v.take j) inn [] used=(0,v.getD j 0,used)∧ ¬ rb (v.getD j 0)>4096
 | [],i,out,used,w,a,h=>by
   simp only [exl] at h
   exact ⟨[],by rw [List.append_nil];exact (congrArg Prod.fst h).symm,rfl,fun j hj=>absurd hj (Nat.not_lt_zero _)⟩
 | x::l,i,out,used,w,a,h=>by
   simp only [exl] at h
   split at h
   · rename_i h1
     split at h
     · exact absurd (congrArg (fun r=>r.2.2) h) (show ¬ (5:Int)=0 by decide)
     · rename_i h2
       have hu:=stp_used h1
       obtain ⟨v,q1,q2,q3⟩:=exl_at l (i+1) _ _ w a h
       refine ⟨(stp x out inn [] used).2.1::v,by rw [q1,List.append_assoc];rfl,by simp [q2],fun j hj=> ?_⟩
       cases j with
       | zero =>
         refine ⟨?_,h2⟩
         rw [List.take_zero,List.append_nil]
         show stp x out inn [] used=_
         exact Prod.ext h1 (Prod.ext rfl hu)
       | succ j =>
         obtain ⟨z1,z2⟩:=q3 j (by simpa using hj)
         rw [hu] at z1
         refine ⟨?_,z2⟩
         rw [List.take_succ_cons,show out++((stp x out inn [] used).2.1::v.take j)=(out++ [(stp x out inn [] used).2.1])++v.take j by rw [List.append_assoc];rfl]
         exact z1
   · rename_i h1
     exact absurd (congrArg (fun r=>r.2.2) h) h1
theorem exl_snoc {inn:List Rat} {x:I6} {y:Rat} {used:Nat} (hb : ¬ rb y>4096) : ∀ (p:List I6) (i:Nat) (out w:List Rat),exl inn [] p i out used=(w,0,0)→stp x w inn [] used=(0,y,used)→exl inn [] (p++ [x]) i out used=(w++ [y],0,0)
 | [],i,out,w,h,hx=>by
   simp only [exl] at h
   obtain rfl:out=w:=congrArg Prod.fst h
   show exl inn [] [x] i out used=_
   simp only [exl]
   rw [hx,if_pos rfl,if_neg hb]
 | z::p,i,out,w,h,hx=>by
   simp only [exl] at h
   rw [List.cons_append]
   simp only [exl]
   split at h
   · rename_i h1
     rw [if_pos h1]
     split at h
     · exact absurd (congrArg (fun r=>r.2.2) h) (show ¬ (5:Int)=0 by decide)
     · rename_i h2
       have hu:=stp_used h1
       rw [if_neg h2]
       rw [hu] at h ⊢
       exact exl_snoc hb p (i+1) _ w h hx
   · rename_i h1
     exact absurd (congrArg (fun r=>r.2.2) h) h1
theorem exl_err {inn forms:List Rat} : ∀ (l:List I6) (i:Nat) (out:List Rat) (used:Nat),(exl inn forms l i out used).2.2≠0→(exl inn forms l i out used).1= []
 | [],i,out,used,h=>absurd rfl h
 | x::l,i,out,used,h=>by
   simp only [exl] at h ⊢
   split
   · rename_i h1
     rw [if_pos h1] at h
     split
     · rfl
     · rename_i h2
       rw [if_neg h2] at h
       exact exl_err l _ _ _ h
   · rfl
theorem gq_take {v:List Rat} {i:Nat} {a:Int} (h0:0≤a) (h1:a<i):gq (v.take i) a=gq v a:=by
 unfold gq
 rw [List.getD_eq_getElem?_getD,List.getD_eq_getElem?_getD,List.getElem?_take_of_lt (by omega)]
theorem stp_tr {x:I6} {i:Nat} {v w inn:List Rat} {a b:Int} (hf:FitsP x i) (ha0:ari x.1=0→a=x.2.1) (ha:1≤ari x.1→gq w a=gq v x.2.1) (hb:ari x.1=2→gq w b=gq v x.2.2.1):stp (x.1,a,b,x.2.2.2) w inn [] 0=stp x (v.take i) inn [] 0:=by
 have c:=op_of hf
 have ac:=ari_cases x.1
 unfold stp
 dsimp only
 rcases c with ⟨h1,h2,h3⟩ | ⟨h1,h2,h3⟩ | ⟨h1,h2,h3,h4⟩ | ⟨h1,h2,h3,h4,h5⟩
 · rw [if_pos h1,if_pos h1,ha0 (by omega)]
 · have n1 : ¬ x.1=1:=by omega
   rw [if_neg n1,if_pos h1,if_neg n1,if_pos h1]
 · have e:=ha (by omega)
   rw [← gq_take (v:=v) h2 h3] at e
   rw [e]
   rcases h1 with h1 | h1 | h1 | h1<;>rw [h1]<;>rfl
 · have e:=ha (by omega)
   have e2:=hb (by omega)
   rw [← gq_take (v:=v) h2 h3] at e
   rw [← gq_take (v:=v) h4 h5] at e2
   have n1 : ¬ x.1=1:=by omega
   rw [e,e2,if_neg n1,if_neg n1]
theorem fits_tr {x:I6} {n c:Int} {a b:Int} (hf:FitsP x n) (h0:ari x.1=0→a=x.2.1∧b=x.2.2.1) (h1:1≤ari x.1→0≤a∧a<c) (h2:ari x.1=1→b=x.2.2.1) (h3:ari x.1=2→0≤b∧b<c):FitsP (x.1,a,b,x.2.2.2) c:=by
 rcases hf with ⟨q1,q2,q3,q4⟩ | ⟨q1,q2,q3,q4,q5⟩ | ⟨q1,q2,q3,q4,q5⟩ | ⟨q1,q2,q3,q4,q5,q6⟩
 · obtain ⟨z1,z2⟩:=h0 (by rw [q1];rfl)
   exact .inl ⟨q1,z1.trans q2,z2.trans q3,q4⟩
 · obtain ⟨z1,z2⟩:=h0 (by rw [q1];rfl)
   exact .inr (.inl ⟨q1,q2,by show 0≤a;omega,by show a<65536;omega,z2.trans q5⟩)
 · have z:=h1 (by omega)
   exact .inr (.inr (.inl ⟨q1,q2,z.1,z.2,(h2 q1).trans q5⟩))
 · have z:=h1 (by omega)
   have y:=h3 q1
   exact .inr (.inr (.inr ⟨q1,q2,z.1,z.2,y.1,y.2⟩))

structure Tri (l:List I6) (inn v:List Rat) (need:List Bool) (i:Nat) (xs:List (Int × Int)) (p:List I6):Prop where
 fit:FitL p
 sh : ∀ x∈p,ShI x
 len:p.length≤i
 val : ∃ w:List Rat,exl inn [] p 0 [] 0=(w,0,0)∧w.length=p.length∧ ∀ j,j<i→need.getD j false=true→0≤mget xs (j:Int)∧mget xs (j:Int)<w.length∧gq w (mget xs (j:Int))=v.getD j 0
theorem gq_snoc {w:List Rat} {y:Rat} {a:Int} (h0:0≤a) (h1:a<w.length):gq (w++ [y]) a=gq w a:=by
 unfold gq
 rw [List.getD_eq_getElem?_getD,List.getD_eq_getElem?_getD,List.getElem?_append_left (by omega)]
theorem Tri.skip {l:List I6} {inn v:List Rat} {need:List Bool} {i:Nat} {xs:List (Int × Int)} {p:List I6} {c:Int} (T:Tri l inn v need i xs p) (h : ¬ need.getD i false=true):Tri l inn v need (i+1) (mput xs (i:Int) c) p:=by
 obtain ⟨w,q1,q2,q3⟩:=T.val
 refine ⟨T.fit,T.sh,by have:=T.len;omega,w,q1,q2,fun j hj hn=> ?_⟩
 have hne:j≠i:=fun e=>h (e▸hn)
 rw [mget_mput,if_neg (by omega)]
 exact q3 j (by omega) hn
theorem Tri.more {l:List I6} {inn v:List Rat} {need:List Bool} {i:Nat} {xs:List (Int × Int)} {p:List I6} {a b:Int} (T:Tri l inn v need i xs p) (hn:need.getD i false=true) (hi:i<l.length) (hf:FitL l) (hs : ∀ x∈l,ShI x) (hc:Cl l need 0)
 (hv:v.length=l.length) (he:stp (l.getD i zI) (v.take i) inn [] 0=(0,v.getD i 0,0)) (hr : ¬ rb (v.getD i 0)>4096)
 (ha:a=if 1≤ari (l.getD i zI).1 then mget (mput xs (i:Int) p.length) (l.getD i zI).2.1 else (l.getD i zI).2.1) (hb:b=if ari (l.getD i zI).1=2 then mget (mput xs (i:Int) p.length) (l.getD i zI).2.2.1 else (l.getD i zI).2.2.1) :
 Tri l inn v need (i+1) (mput xs (i:Int) p.length) (p++ [((l.getD i zI).1,a,b,(l.getD i zI).2.2.2)]):=by
 obtain ⟨w,q1,q2,q3⟩:=T.val
 have fx:=hf i hi
 have sx:ShI (l.getD i zI):=by rw [getD_of hi];exact hs _ (List.getElem_mem _)
 obtain ⟨c1,c2⟩:=hc i (Nat.zero_le _) hi hn
 obtain ⟨a1,a2,a3,a4⟩:=ari_of fx
 generalize hx:l.getD i zI=x at *
 have old : ∀ t:Int,0≤t→t<i→need.getD t.toNat false=true→0≤mget (mput xs (i:Int) p.length) t∧mget (mput xs (i:Int) p.length) t<w.length∧gq w (mget (mput xs (i:Int) p.length) t)=gq v t:=fun t t0 t1 t2=>by
  have:=q3 t.toNat (by omega) t2
  rw [Int.toNat_of_nonneg t0] at this
  rw [mget_mput,if_neg (by omega)]
  exact this
 have hA:1≤ari x.1→0≤a∧a<w.length∧gq w a=gq v x.2.1:=fun h=>by
  rw [ha,if_pos h]
  exact old _ (a2 h).1 (a2 h).2 (c1 h)
 have hB:ari x.1=2→0≤b∧b<w.length∧gq w b=gq v x.2.2.1:=fun h=>by
  rw [hb,if_pos h]
  exact old _ (a4 h).1 (a4 h).2 (c2 h)
 have hA0:ari x.1=0→a=x.2.1:=fun h=>by rw [ha,if_neg (by omega)]
 have hB0:ari x.1≠2→b=x.2.2.1:=fun h=>by rw [hb,if_neg h]
 have es:stp (x.1,a,b,x.2.2.2) w inn [] 0=(0,v.getD i 0,0):=by
  rw [stp_tr (v:=v) (i:=i) fx hA0 (fun h=>(hA h).2.2) (fun h=>(hB h).2.2)]
  exact he
 refine ⟨fun j hj=> ?_,fun y hy=> ?_,by have:=T.len;simp;omega,w++ [v.getD i 0],exl_snoc hr p 0 [] w q1 es,by simp [q2],fun j hj hnj=> ?_⟩
 · rw [List.getD_eq_getElem?_getD]
   rcases Nat.lt_or_ge j p.length with h | h
   · rw [List.getElem?_append_left h,← List.getD_eq_getElem?_getD]
     exact T.fit j h
   · have:j=p.length:=by simp at hj;omega
     subst this
     rw [List.getElem?_append_right (Nat.le_refl _),Nat.sub_self]
     exact fits_tr fx (fun h=>⟨hA0 h,hB0 (by omega)⟩) (fun h=>by have:=hA h;omega) (fun h=>hB0 (by omega)) (fun h=>by have:=hB h;omega)
 · rcases List.mem_append.1 hy with h | h
   · exact T.sh y h
   · rw [List.mem_singleton.1 h];exact sx
 · by_cases e:j=i
   · subst e
     rw [mget_mput,if_pos rfl]
     refine ⟨by omega,by simp [q2];omega, ?_⟩
     unfold gq
     rw [Int.toNat_natCast,← q2,List.getD_eq_getElem?_getD,List.getElem?_append_right (Nat.le_refl _),Nat.sub_self]
     rfl
   · have z:=q3 j (by omega) hnj
     rw [mget_mput,if_neg (by omega)]
     refine ⟨z.1,by simp;omega, ?_⟩
     rw [gq_snoc z.1 z.2.1]
     exact z.2.2

theorem trim_l1 {l p:List I6} {outs:List Int} {xs:List (Int × Int)} (hl:l.length≤65536) (ho:outs.length≤1000000) (d:Nat) : ∀ (i:Nat) (acc:List Int),i+d=outs.length→acc.length=i→(∀ q,q<i→0≤outs.getD q 0→outs.getD q 0<l.length→acc.getD q 0=mget xs (outs.getD q 0)) →
 ∃ at',Ev (fun k=>line_Trim.l1 k l xs p acc outs (outs.length:Int) i) (p,at')∧at'.length=outs.length∧ ∀ q,q<outs.length→0≤outs.getD q 0→outs.getD q 0<l.length→at'.getD q 0=mget xs (outs.getD q 0):=by
 induction d with
 | zero =>
   intro i acc h1 h2 h3
   exact ⟨acc,Ev.step (fun k=>line_Trim.l1.eq_2 ..) (Ev.ifn (by omega) (Ev.same rfl)),by omega,fun q hq=>h3 q (by omega)⟩
 | succ d ih =>
   intro i acc h1 h2 h3
   have ew:wrap64 ((i:Int)+1)=((i+1:Nat):Int):=by rw [w64_id (by omega) (by omega)];omega
   have snoc : ∀ (y:Int),(0≤outs.getD i 0→outs.getD i 0<l.length→y=mget xs (outs.getD i 0))→ ∀ q,q<i+1→0≤outs.getD q 0→outs.getD q 0<l.length→(acc++ [y]).getD q 0=mget xs (outs.getD q 0):=fun y hy q hq k1 k2=>by
    rw [List.getD_eq_getElem?_getD]
    rcases Nat.lt_or_ge q i with h | h
    · rw [List.getElem?_append_left (by omega),← List.getD_eq_getElem?_getD]
      exact h3 q h k1 k2
    · obtain rfl:q=i:=by omega
      rw [List.getElem?_append_right (by omega),h2,Nat.sub_self]
      exact hy k1 k2
   by_cases hr:0≤outs.getD i 0∧outs.getD i 0<l.length
   · obtain ⟨at',q1,q2⟩:=ih (i+1) (acc++ [mget xs (outs.getD i 0)]) (by omega) (by simp [h2]) (snoc _ fun _ _=>rfl)
     refine ⟨at',Ev.step (fun k=>line_Trim.l1.eq_2 ..) (Ev.ifp (by omega) (Ev.ifp (by omega) (Ev.ifp (by omega) ?_))),q2⟩
     rw [rd_int]
     refine Ev.ifn (by omega) (Ev.ifn (by omega) (Ev.ifp (by omega) ?_))
     rw [ew]
     exact q1
   · obtain ⟨at',q1,q2⟩:=ih (i+1) (acc++ [-1]) (by omega) (by simp [h2]) (snoc _ fun k1 k2=>absurd ⟨k1,k2⟩ hr)
     have J:Ev (fun k=>line_Trim.j24 k l xs p acc outs (outs.length:Int) i) (p,at'):=by
      refine Ev.step (fun k=>line_Trim.j24.eq_2 ..) (Ev.ifp (by omega) ?_)
      rw [ew]
      exact q1
     refine ⟨at',Ev.step (fun k=>line_Trim.l1.eq_2 ..) (Ev.ifp (by omega) (Ev.ifp (by omega) (Ev.ifp (by omega) ?_))),q2⟩
     rw [rd_int]
     by_cases h0:outs.getD i 0<0
     · exact Ev.ifp h0 J
     · exact Ev.ifn h0 (Ev.ifp (by omega) J)
theorem trim_l0 {l:List I6} {outs:List Int} {inn v:List Rat} {need:List Bool} (hf:FitL l) (hs : ∀ x∈l,ShI x) (hl:l.length≤65536) (ho:outs.length≤1000000) (hc:Cl l need 0) (hn:need.length=l.length)
 (hv:v.length=l.length) (he : ∀ i,i<l.length→stp (l.getD i zI) (v.take i) inn [] 0=(0,v.getD i 0,0)∧ ¬ rb (v.getD i 0)>4096) (d:Nat) : ∀ (i:Nat) (xs:List (Int × Int)) (p:List I6),i+d=l.length→Tri l inn v need i xs p →
 ∃ p' xs' at',Ev (fun k=>line_Trim.l0 k l outs need xs p l (l.length:Int) i) (p',at')∧at'.length=outs.length∧Tri l inn v need l.length xs' p'∧ ∀ q,q<outs.length→0≤outs.getD q 0→outs.getD q 0<l.length→at'.getD q 0=mget xs' (outs.getD q 0):=by
 induction d with
 | zero =>
   intro i xs p h1 T
   obtain rfl:i=l.length:=by omega
   obtain ⟨at',q1,q2,q3⟩:=trim_l1 (p:=p) (xs:=xs) hl ho outs.length 0 [] (by omega) rfl (fun q hq=>absurd hq (Nat.not_lt_zero _))
   exact ⟨p,xs,at',Ev.step (fun k=>line_Trim.l0.eq_2 ..) (Ev.ifn (by omega) q1),q2,T,q3⟩
 | succ d ih =>
   intro i xs p h1 T
   have hi:i<l.length:=by omega
   have ew:wrap64 ((i:Int)+1)=((i+1:Nat):Int):=by rw [w64_id (by omega) (by omega)];omega
   have j18 : ∀ {xs' p' r},Ev (fun k=>line_Trim.l0 k l outs need xs' p' l (l.length:Int) ((i+1:Nat):Int)) r→Ev (fun k=>line_Trim.j18 k l outs need xs' p' l (l.length:Int) i) r:=fun {xs' p' r} E =>
    Ev.step (fun k=>line_Trim.j18.eq_2 ..) (by rw [ew];exact E)
   have lp:=T.len
   by_cases hni:need.getD i false=true
   · have A:=line_Arity_c (l.getD i zI).1
     obtain ⟨a1,_,_,_⟩:=ari_of (hf i hi)
     have sx:ShI (l.getD i zI):=by rw [getD_of hi];exact hs _ (List.getElem_mem _)
     obtain ⟨s1,s2,s3,s4⟩:=sx
     have fin : ∀ a b:Int,(a=if 1≤ari (l.getD i zI).1 then mget (mput xs (i:Int) p.length) (l.getD i zI).2.1 else (l.getD i zI).2.1)→(b=if ari (l.getD i zI).1=2 then mget (mput xs (i:Int) p.length) (l.getD i zI).2.2.1 else (l.getD i zI).2.2.1) →
      ∃ p' xs' at',Ev (fun k=>line_Trim.j16 k l outs need (mput xs (i:Int) p.length) p l (l.length:Int) i (l.getD i zI).1 a b (l.getD i zI).2.2.2.1 (l.getD i zI).2.2.2.2.1 (l.getD i zI).2.2.2.2.2) (p',at')∧at'.length=outs.length∧Tri l inn v need l.length xs' p'∧ ∀ q,q<outs.length→0≤outs.getD q 0→outs.getD q 0<l.length→at'.getD q 0=mget xs' (outs.getD q 0):=fun a b ha hb=>by
      obtain ⟨p',xs',at',q1,q2⟩:=ih (i+1) _ _ (by omega) (T.more hni hi hf hs hc hv (he i hi).1 (he i hi).2 ha hb)
      refine ⟨p',xs',at',Ev.step (fun k=>line_Trim.j16.eq_2 ..) (Ev.ifp ?_ (Ev.ifp ?_ (Ev.ifp (by omega) (j18 q1)))),q2⟩
      · simp only [List.length_nil];omega
      · simp only [List.length_nil];omega
     have pre : ∀ {r},Ev (fun k=>(line_Arity.f k (l.getD i zI).1).bind fun t3=>(if t3=2 then (line_Trim.j16 k l outs need (mput xs (i:Int) p.length) p l (l.length:Int) i (l.getD i zI).1 (mget (mput xs (i:Int) p.length) (l.getD i zI).2.1) (mget (mput xs (i:Int) p.length) (l.getD i zI).2.2.1) (l.getD i zI).2.2.2.1 (l.getD i zI).2.2.2.2.1 (l.getD i zI).2.2.2.2.2) else (if t3=1 then (line_Trim.j16 k l outs need (mput xs (i:Int) p.length) p l (l.length:Int) i (l.getD i zI).1 (mget (mput xs (i:Int) p.length) (l.getD i zI).2.1) (l.getD i zI).2.2.1 (l.getD i zI).2.2.2.1 (l.getD i zI).2.2.2.2.1 (l.getD i zI).2.2.2.2.2) else (line_Trim.j16 k l outs need (mput xs (i:Int) p.length) p l (l.length:Int) i (l.getD i zI).1 (l.getD i zI).2.1 (l.getD i zI).2.2.1 (l.getD i zI).2.2.2.1 (l.getD i zI).2.2.2.2.1 (l.getD i zI).2.2.2.2.2)))) r →
      Ev (fun k=>line_Trim.l0 k l outs need xs p l (l.length:Int) i) r:=fun {r} E=>by
      refine Ev.step (fun k=>line_Trim.l0.eq_2 ..) (Ev.ifp (by omega) (Ev.ifp (by omega) (Ev.ifp (by omega) (Ev.ifp (by omega) (Ev.ifp (by rw [rd_bool];exact hni) ?_)))))
      rw [rd_I6]
      exact E
     rcases a1 with h | h | h
     · obtain ⟨p',xs',at',q1,q2⟩:=fin (l.getD i zI).2.1 (l.getD i zI).2.2.1 (by rw [if_neg (by omega)]) (by rw [if_neg (by omega)])
       exact ⟨p',xs',at',pre (Ev.bind A (Ev.ifn (by omega) (Ev.ifn (by omega) q1))),q2⟩
     · obtain ⟨p',xs',at',q1,q2⟩:=fin (mget (mput xs (i:Int) p.length) (l.getD i zI).2.1) (l.getD i zI).2.2.1 (by rw [if_pos (by omega)]) (by rw [if_neg (by omega)])
       exact ⟨p',xs',at',pre (Ev.bind A (Ev.ifn (by omega) (Ev.ifp h q1))),q2⟩
     · obtain ⟨p',xs',at',q1,q2⟩:=fin (mget (mput xs (i:Int) p.length) (l.getD i zI).2.1) (mget (mput xs (i:Int) p.length) (l.getD i zI).2.2.1) (by rw [if_pos (by omega)]) (by rw [if_pos h])
       exact ⟨p',xs',at',pre (Ev.bind A (Ev.ifp h q1)),q2⟩
   · obtain ⟨p',xs',at',q1,q2⟩:=ih (i+1) (mput xs (i:Int) p.length) p (by omega) (T.skip hni)
     refine ⟨p',xs',at',Ev.step (fun k=>line_Trim.l0.eq_2 ..) (Ev.ifp (by omega) (Ev.ifp (by omega) (Ev.ifp (by omega) (Ev.ifp (by omega) (Ev.ifn (by rw [rd_bool];exact hni) (j18 q1)))))),q2⟩
theorem line_Trim_c {l:List I6} {outs:List Int} {inn v:List Rat} (hf:FitL l) (hs : ∀ x∈l,ShI x) (hl:l.length≤60) (ho:outs.length≤1000000) (hv:exS l inn []=(v,0,0)) :
 v.length=l.length∧ ∃ p at' w,Ev (fun k=>line_Trim.f k l outs) (p,at')∧at'.length=outs.length∧FitL p∧(∀ x∈p,ShI x)∧p.length≤60∧exS p inn []=(w,0,0)∧w.length=p.length ∧
  ∀ q,q<outs.length→0≤outs.getD q 0→outs.getD q 0<l.length→0≤at'.getD q 0∧at'.getD q 0<w.length∧gq w (at'.getD q 0)=gq v (outs.getD q 0):=by
 obtain ⟨v',e1,e2,e3⟩:=exl_at l 0 [] 0 v 0 hv
 rw [List.nil_append] at e1
 subst e1
 obtain ⟨a1,A1,c1⟩:=line_Right_c (l:=l) (by omega) (fun x hx=>(hs x hx).sm)
 obtain ⟨need,n1,n2,n3,n4⟩:=line_Needs_c (outs:=outs) hf (fun x hx=>(hs x hx).sm) (by omega) ho
 obtain ⟨p,xs,at',q1,q2,T,q3⟩:=trim_l0 (outs:=outs) (inn:=inn) (v:=v) (need:=need) hf hs (by omega) ho n3 n2 e2 (fun i hi=>by simpa using e3 i hi) l.length 0 [] [] (by omega)
  ⟨fun j hj=>absurd hj (Nat.not_lt_zero _),fun x hx=>absurd hx (by simp),Nat.le_refl _,[],rfl,rfl,fun j hj=>absurd hj (Nat.not_lt_zero _)⟩
 obtain ⟨w,z1,z2,z3⟩:=T.val
 refine ⟨e2,p,at',w,Ev.bind n1 (Ev.bind A1 (Ev.ifp (c1.2 hf) q1)),q2,T.fit,T.sh,by have:=T.len;omega,z1,z2,fun q k1 k2 k3=> ?_⟩
 have:=z3 (outs.getD q 0).toNat (by omega) (n4 q k1 k2 k3)
 rw [Int.toNat_of_nonneg k2] at this
 rw [q3 q k1 k2 k3]
 exact this
theorem plain_Long_c (s:Bool) (a b:List Int) (m:Int) : ∃ r,gradineplain_Long.f s a b m=some r∧(r=false↔(a.length:Int)≤m∧(b.length:Int)≤m):=by
 unfold gradineplain_Long.f
 by_cases h:(a.length:Int)>m
 · rw [if_pos h];exact ⟨true,rfl,by simp;omega⟩
 · rw [if_neg h]
   refine ⟨_,rfl, ?_⟩
   rw [decide_eq_false_iff_not]
   omega
theorem Longer_l {l:List R3} (hl:l.length≤9223372036854775807) (m:Int) (d:Nat) : ∀ i:Nat,i+d=l.length→ ∃ r,Ev (fun k=>gradineplain_Longer.l0 k l m (l.length:Int) i) r∧(r=false↔ ∀ j:Nat,i≤j→j<l.length→((l.getD j zR).2.1.length:Int)≤m∧((l.getD j zR).2.2.length:Int)≤m):=by
 induction d with
 | zero =>
   intro i h
   refine ⟨false,Ev.step (fun k=>gradineplain_Longer.l0.eq_2 ..) (Ev.ifn (by omega) (Ev.same rfl)), ?_⟩
   simp only [true_iff]
   intro j h1 h2
   omega
 | succ d ih =>
   intro i h
   obtain ⟨r1,h1,g1⟩:=plain_Long_c (l.getD i zR).1 (l.getD i zR).2.1 (l.getD i zR).2.2 m
   obtain ⟨r2,h2,g2⟩:=ih (i+1) (by omega)
   have ew:wrap64 ((i:Int)+1)=((i+1:Nat):Int):=by rw [w64_id (by omega) (by omega)];omega
   refine ⟨r1 || r2,Ev.step (fun k=>gradineplain_Longer.l0.eq_2 ..) (Ev.ifp (by omega) (Ev.ifp (by omega) (Ev.ifp (by omega) ?_))), ?_⟩
   · rw [rd_R3]
     refine Ev.bindc h1 ?_
     cases r1
     · refine Ev.ifn (by decide) ?_
       rw [ew]
       exact h2
     · exact Ev.ifp rfl (Ev.same rfl)
   · rw [Bool.or_eq_false_iff,g1,g2,all_from (show i<l.length by omega)]
theorem Longer_c {l:List R3} (hl:l.length≤9223372036854775807) (m:Int) : ∃ r,Ev (fun k=>gradineplain_Longer.f k l m) r∧(r=false↔ ∀ x∈l,(x.2.1.length:Int)≤m∧(x.2.2.length:Int)≤m):=by
 obtain ⟨r,h,g⟩:=Longer_l hl m l.length 0 (by omega)
 refine ⟨r,h,g.trans ⟨fun k x hx=> ?_,fun k j _ hj=> ?_⟩⟩
 · obtain ⟨j,hj,rfl⟩:=List.getElem_of_mem hx
   have:=k j (by omega) hj
   rw [getD_of hj] at this
   exact this
 · rw [getD_of hj]
   exact k _ (List.getElem_mem _)
theorem Many_l {l:List I6} (hl:l.length≤9223372036854775807) (d:Nat) : ∀ i:Nat,i+d=l.length→ ∃ r,Ev (fun k=>gradinelaw15_Many.l0 k l (l.length:Int) i) r∧(r=false→ ∀ j:Nat,i≤j→j<l.length→(l.getD j zI).2.2.2.2.1.length≤8∧(l.getD j zI).2.2.2.2.2.length≤8):=by
 induction d with
 | zero =>
   intro i h
   exact ⟨_,Ev.step (fun k=>gradinelaw15_Many.l0.eq_2 ..) (Ev.ifn (by omega) (Ev.same rfl)),fun _ j h1 h2=>by omega⟩
 | succ d ih =>
   intro i h
   obtain ⟨r1,h1,g1⟩:=plain_Long_c (l.getD i zI).2.2.2.1 (l.getD i zI).2.2.2.2.1 (l.getD i zI).2.2.2.2.2 8
   obtain ⟨r2,h2,g2⟩:=ih (i+1) (by omega)
   have ew:wrap64 ((i:Int)+1)=((i+1:Nat):Int):=by rw [w64_id (by omega) (by omega)];omega
   refine ⟨r1 || r2,Ev.step (fun k=>gradinelaw15_Many.l0.eq_2 ..) (Ev.ifp (by omega) (Ev.ifp (by omega) (Ev.ifp (by omega) ?_))), ?_⟩
   · rw [rd_I6]
     refine Ev.bindc h1 ?_
     cases r1
     · refine Ev.ifn (by decide) ?_
       rw [ew]
       exact h2
     · exact Ev.ifp rfl (Ev.same rfl)
   · intro hr
     rw [Bool.or_eq_false_iff] at hr
     rw [all_from (P:=fun j=>(l.getD j zI).2.2.2.2.1.length≤8∧(l.getD j zI).2.2.2.2.2.length≤8) (show i<l.length by omega)]
     exact ⟨by have:=g1.1 hr.1;omega,g2 hr.2⟩
theorem Many_c {l:List I6} (hl:l.length≤9223372036854775807) (hw : ∀ x∈l,Ws x.2.2.2.2.1∧Ws x.2.2.2.2.2) : ∃ r,Ev (fun k=>gradinelaw15_Many.f k l) r∧(r=false→ ∀ x∈l,ShI x):=by
 obtain ⟨r,h,g⟩:=Many_l hl l.length 0 (by omega)
 refine ⟨r,h,fun k x hx=> ?_⟩
 have w:=hw x hx
 obtain ⟨j,hj,rfl⟩:=List.getElem_of_mem hx
 have:=g k j (by omega) hj
 rw [getD_of hj] at this
 exact ⟨w.1,w.2,this.1,this.2⟩
def WsR (l:List R3):Prop:= ∀ x∈l,Ws x.2.1∧Ws x.2.2
def WsI (l:List I6):Prop:= ∀ x∈l,Ws x.2.2.2.2.1∧Ws x.2.2.2.2.2
theorem Sh3_of {l:List R3} (hw:WsR l) (h : ∀ x∈l,(x.2.1.length:Int)≤3∧(x.2.2.length:Int)≤3) : ∀ x∈l,Sh3 x:=fun x hx=>⟨(hw x hx).1,(hw x hx).2,by have:=(h x hx).1;omega,by have:=(h x hx).2;omega⟩
theorem Few_c {l:List I6} {inn forms:List R3} (hl:l.length≤9223372036854775807) (hw:WsI l) (hi:WsR inn) (hF:WsR forms) : ∃ r,Ev (fun k=>gradinelaw16_Few.f k l inn forms) r∧(r=true→l.length≤60∧inn.length≤30∧forms.length≤60∧(∀ x∈l,ShI x)∧(∀ x∈inn,Sh3 x)∧ ∀ x∈forms,Sh3 x):=by
 obtain ⟨r,h,g⟩:=Many_c hl hw
 cases r
 case true=>exact ⟨false,Ev.bind h (Ev.ifp rfl (Ev.same rfl)),fun k=>absurd k (by decide)⟩
 by_cases h1:l.length≤60
 case neg=>exact ⟨false,Ev.bind h (Ev.ifn (by decide) (Ev.ifn (by omega) (Ev.same rfl))),fun k=>absurd k (by decide)⟩
 by_cases h2:inn.length≤30
 case neg=>exact ⟨false,Ev.bind h (Ev.ifn (by decide) (Ev.ifp (by omega) (Ev.ifn (by omega) (Ev.same rfl)))),fun k=>absurd k (by decide)⟩
 by_cases h3:forms.length≤60
 case neg=>exact ⟨false,Ev.bind h (Ev.ifn (by decide) (Ev.ifp (by omega) (Ev.ifp (by omega) (Ev.ifn (by omega) (Ev.same rfl))))),fun k=>absurd k (by decide)⟩
 obtain ⟨r2,q2,g2⟩:=Longer_c (l:=inn) (by omega) 3
 cases r2
 case true=>exact ⟨false,Ev.bind h (Ev.ifn (by decide) (Ev.ifp (by omega) (Ev.ifp (by omega) (Ev.ifp (by omega) (Ev.bind q2 (Ev.ifp rfl (Ev.same rfl))))))),fun k=>absurd k (by decide)⟩
 obtain ⟨r3,q3,g3⟩:=Longer_c (l:=forms) (by omega) 3
 refine ⟨!r3,Ev.bind h (Ev.ifn (by decide) (Ev.ifp (by omega) (Ev.ifp (by omega) (Ev.ifp (by omega) (Ev.bind q2 (Ev.ifn (by decide) (Ev.bind q3 (Ev.same rfl)))))))),fun k=> ?_⟩
 have e3:r3=false:=by cases r3;rfl;exact absurd k (by decide)
 exact ⟨h1,h2,h3,g rfl,Sh3_of hi (g2.1 rfl),Sh3_of hF (g3.1 e3)⟩

theorem evals_ok {l:List I6} {inn forms:List R3} (hl:l.length≤60) (hs : ∀ x∈l,ShI x) (li:inn.length≤1000) (lf:forms.length≤1000) (hi : ∀ x∈inn,Sh3 x) (hF : ∀ x∈forms,Sh3 x) (f1:FitL l) (f2 : ∀ x∈inn,RV x) (f3 : ∀ x∈forms,RV x):Ev (fun k=>evals_Exact.f k l inn forms) (exO (exS l (inn.map de) (forms.map de))):=by
 obtain ⟨a1,A1,c1⟩:=line_Right_c (l:=l) (by omega) (fun x hx=>(hs x hx).sm)
 obtain ⟨a2,A2,c2⟩:=evals_right_c (l:=inn) (by omega) (fun x hx=>(hi x hx).sm)
 obtain ⟨a3,A3,c3⟩:=evals_right_c (l:=forms) (by omega) (fun x hx=>(hF x hx).sm)
 refine Ev.bind A1 (Ev.ifp (c1.2 f1) (Ev.bind A2 (Ev.ifp (c2.2 f2) (Ev.bind A3 (Ev.ifp (c3.2 f3) ?_)))))
 have:=exact_l0 (inn:=inn.map de) (forms:=forms.map de) f1 hs (by omega) ((list_Bd hi f2).mono (by omega)) ((list_Bd hF f3).mono (by omega)) (by rw [List.length_map];omega) l.length 0 [] 0 (by omega) rfl (BdL_nil _)
 rw [list_en (fun x hx=>⟨(hi x hx).1,(hi x hx).2.1⟩) f2,list_en (fun x hx=>⟨(hF x hx).1,(hF x hx).2.1⟩) f3] at this
 exact this
theorem float_ok {sq:Int→Int} (hq:SqOk sq) {l:List I6} {inn:List Int} (hl:l.length≤60) (hs : ∀ x∈l,ShI x) (hi:Ws inn) (f1:FitL l):Ev (fun k=>evals_Float.f k l inn) (fll sq inn l 0 []):=by
 obtain ⟨a1,A1,c1⟩:=line_Right_c (l:=l) (by omega) (fun x hx=>(hs x hx).sm)
 exact Ev.bind A1 (Ev.ifp (c1.2 f1) (float_l0 hq f1 hs (by omega) hi l.length 0 [] (by omega) rfl Ws_nil))
def kL3:List I6:= [(1,0,0,false,[],[]),(6,0,0,false,[],[]),(7,0,0,false,[],[])]
theorem kL3_fit:FitL kL3:=by
 intro i hi
 have:i=0∨i=1∨i=2:=by have:kL3.length=3:=rfl;omega
 rcases this with rfl | rfl | rfl
 · exact .inr (.inl ⟨rfl,⟨rfl,rfl,rfl⟩,by decide,by decide,rfl⟩)
 · exact .inr (.inr (.inr ⟨rfl,⟨rfl,rfl,rfl⟩,by decide,by decide,by decide,by decide⟩))
 · exact .inr (.inr (.inr ⟨rfl,⟨rfl,rfl,rfl⟩,by decide,by decide,by decide,by decide⟩))
theorem kL3_sh : ∀ x∈kL3,ShI x:=by
 intro x hx
 unfold kL3 at hx
 simp only [List.mem_cons,List.not_mem_nil,or_false] at hx
 rcases hx with rfl | rfl | rfl<;>exact ⟨Ws_nil,Ws_nil,by decide,by decide⟩
def kL2:List I6:= [(1,0,0,false,[],[]),(6,0,0,false,[],[])]
theorem kL2_fit:FitL kL2:=by
 intro i hi
 have:i=0∨i=1:=by have:kL2.length=2:=rfl;omega
 rcases this with rfl | rfl
 · exact .inr (.inl ⟨rfl,⟨rfl,rfl,rfl⟩,by decide,by decide,rfl⟩)
 · exact .inr (.inr (.inr ⟨rfl,⟨rfl,rfl,rfl⟩,by decide,by decide,by decide,by decide⟩))
theorem kL2_sh : ∀ x∈kL2,ShI x:=by
 intro x hx
 unfold kL2 at hx
 simp only [List.mem_cons,List.not_mem_nil,or_false] at hx
 rcases hx with rfl | rfl<;>exact ⟨Ws_nil,Ws_nil,by decide,by decide⟩
theorem Ws_lit2:Ws [2]∧Ws [3]∧Ws [1]∧Ws [0]∧Ws [6]:=by
 refine ⟨?_, ?_, ?_, ?_, ?_⟩<;>(intro x hx;rw [List.mem_singleton.1 hx];unfold U;omega)
theorem RV_32:RV (false,[3],[2]):=by unfold RV RR;decide
theorem RV_01:RV (false,[],[1]):=by unfold RV RR;decide
theorem k_exact2:exO (exS kL2 [de (false,[3],[2])] [])=([(false,[3],[2]),(false,[9],[4])],0,0):=by decide +kernel
theorem k_exact3:exO (exS kL3 [de (false,[],[1])] [])=([],2,4):=by decide +kernel
theorem k_float (sq:Int→Int):fll sq [0] kL3 0 []=([0,0,9221120237041090560],0,0):=by
 have e : ∀ out,fval sq (1,0,0,false,[],[]) out [0]=0:=fun out=>by show cl 0=0;decide
 show (if _ then _ else _)=_
 rw [if_neg (by decide),e]
 show (if _ then _ else _)=_
 rw [if_neg (by decide)]
 have e2:fval sq (6,0,0,false,[],[]) ([]++ [0]) [0]=0:=by show fmul 0 0=0;decide
 rw [e2]
 show (if _ then _ else _)=_
 rw [if_neg (by decide)]
 have e3:fval sq (7,0,0,false,[],[]) ([]++ [0]++ [0]) [0]=9221120237041090560:=by show fdiv 0 0=_;decide
 rw [e3]
 rfl
theorem law16_same_c:Ev (fun k=>gradinelaw16_same.f k) true:=by
 obtain ⟨sq,hq⟩:=SqOk_ex
 have sh32 : ∀ x∈ [((false,[3],[2]):R3)],Sh3 x:=by
  intro x hx
  rw [List.mem_singleton.1 hx]
  exact ⟨Ws_lit2.2.1,Ws_lit2.1,by decide,by decide⟩
 have sh01 : ∀ x∈ [((false,[],[1]):R3)],Sh3 x:=by
  intro x hx
  rw [List.mem_singleton.1 hx]
  exact ⟨Ws_nil,Ws_lit2.2.2.1,by decide,by decide⟩
 have no : ∀ {P:R3→Prop},∀ x∈([]:List R3),P x:=fun x hx=>absurd hx (by simp)
 have E1:=evals_ok (l:=kL2) (inn:= [(false,[3],[2])]) (forms:= []) (by decide) kL2_sh (by decide) (by decide) sh32 no kL2_fit (by intro x hx;rw [List.mem_singleton.1 hx];exact RV_32) no
 have E2:=evals_ok (l:=kL3) (inn:= [(false,[],[1])]) (forms:= []) (by decide) kL3_sh (by decide) (by decide) sh01 no kL3_fit (by intro x hx;rw [List.mem_singleton.1 hx];exact RV_01) no
 have E3:=float_ok hq (l:=kL3) (inn:= [0]) (by decide) kL3_sh Ws_lit2.2.2.2.1 kL3_fit
 rw [show [((false,[3],[2]):R3)].map de= [de (false,[3],[2])] from rfl,show ([]:List R3).map de= [] from rfl,k_exact2] at E1
 rw [show [((false,[],[1]):R3)].map de= [de (false,[],[1])] from rfl,show ([]:List R3).map de= [] from rfl,k_exact3] at E2
 rw [k_float] at E3
 refine Ev.ifp (by decide) (Ev.bind E1 (Ev.bind E2 (Ev.bind E3 ?_)))
 exact Ev.ifp rfl (Ev.ifp (by decide) (Ev.ifp (by decide) (Ev.ifp (by decide) (Ev.ifp rfl (Ev.ifp (by decide) (Ev.ifp rfl (Ev.ifp rfl (Ev.ifp rfl (Ev.ifp rfl (Ev.ifp (by decide) (Ev.ifp (by decide) (Ev.same rfl))))))))))))
theorem wf_rats {l:T RG.tRats} (h:RG.Wf RG.tRats l):List.length l≤maxLen∧WsR l:=⟨h.1,fun x hx=>⟨fun y hy=>wf_u64 ((h.2 x hx).2.1.2 y hy),fun y hy=>wf_u64 ((h.2 x hx).2.2.2 y hy)⟩⟩
theorem wf_prog {l:T RG.tProg} (h:RG.Wf RG.tProg l):List.length l≤maxLen∧WsI l:=⟨h.1,fun x hx=>⟨fun y hy=>wf_u64 ((h.2 x hx).2.2.2.2.1.2 y hy),fun y hy=>wf_u64 ((h.2 x hx).2.2.2.2.2.2 y hy)⟩⟩
end Go.Proofs.YtjocbnjpjihpnaaGreat.M
