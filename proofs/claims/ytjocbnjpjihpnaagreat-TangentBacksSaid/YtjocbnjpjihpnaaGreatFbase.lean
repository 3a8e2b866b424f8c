/- Functions of the seat as Lean functions, and walks: written by a program for this claim. -/
import Derived.Test.YtjocbnjpjihpnaaGreatProg
import Derived.Below
import Derived.Deep.Draws
import Derived.Deep.AppendLies
import Derived.Maps.AppendAt
import Derived.OwnWalk
import Derived.Laws.BytesArg
import Derived.Laws.MakeOwn
import Derived.Laws.OwnMore
import Derived.Deep.OwnRows
import Derived.Tactics
import Derived.Lib.ConvBytes
import Derived.Laws.Slices
import Derived.WalkKit
import Derived.KernelRfl
import Derived.RowKit3
import Derived.Deep.LoopGhost
import Derived.Deep.QuietTactic
import Derived.BigQuiet
import Derived.WideLaws
import Derived.Deep.DeepCutAuto
import Derived.Deep.CutBlock
import Derived.Deep.RegionHeld3
import Derived.Laws.Rows
import Derived.Lib.AppendStr
import Derived.ArgAppend
import Derived.Laws.IdiomCopy
import Derived.OrdersHeld
import Derived.Laws.BitsLemmas
import Derived.RowKit
import Derived.Test.YtjocbnjpjihpnaaGreatWWa
namespace Go.Proofs.YtjocbnjpjihpnaaGreat.P
open Go.RowKit Go.Proofs.YtjocbnjpjihpnaaGreatW.PrintWords Go.Proofs.YtjocbnjpjihpnaaGreatW.PrintLast Go.Proofs.YtjocbnjpjihpnaaGreatW.PrintMore
attribute [local go_sem] max2_int min2_int max_two min_two max_three min_three max_four min_four
set_option linter.unusedVariables false
set_option linter.unusedSimpArgs false



def errW:Option Int→Value
 | none=> .nilIface
 | some c=> .iface 0 (.int .i64 c)
theorem errW_none:errW none= .nilIface:=rfl
theorem errW_some (c:Int):errW (some c)= .iface 0 (.int .i64 c):=rfl

theorem info4:(Tryz.prog.info? 4).map (fun i=>(i.zero,i.size,i.bytes))=some (some (.bool false),1,1):=by kernel_rfl
theorem info73:(Tryz.prog.info? 73).map (fun i=>(i.zero,i.size,i.bytes))=some (some (.int .u64 0),1,8):=by kernel_rfl
def rd_L2 (xs:List (List Int)) (i:Int):(List Int):=xs.getD i.toNat ([]:List Int)
theorem at_L2 {w:World} {A:Option Addr} {n:Nat} {xs:List (List Int)} (h:Kd.C (Kd.slice 73 (Kd.int .u64)) w A n xs) (i:Int) (h0:0≤i) (h1:i<n) : ∃ ad A0 c0,A=some ad∧w.cell? (ad.add i.toNat)=some (.slice A0 (rd_L2 xs i).length c0)∧(rd_L2 xs i).length≤c0∧(Kd.int .u64).C w A0 (rd_L2 xs i).length (rd_L2 xs i):=by
 obtain ⟨ad,c,e,_,hK,hc0⟩:=Kd.C_get h ([]:List Int) i h0 h1
 have hc : ∀ j u,c[j]? =some u→w.cell? (ad.add (i.toNat*1+j))=some u:=hc0
 obtain ⟨A0,c0,rfl,l0,g0⟩:=hK
 exact ⟨ad,A0,c0,e,by have hq:=hc 0 _ rfl;rwa [Nat.mul_one,Nat.add_zero] at hq,l0,g0⟩

structure S45 where
 f0:Bool
 f1:(List Int)
 f2:(List Int)
def z45:S45:=⟨false,([]:List Int),([]:List Int)⟩
def k45:Kd S45:=Kd.iso (Kd.pair Kd.bool (Kd.pair (Kd.slice 73 (Kd.int .u64)) (Kd.slice 73 (Kd.int .u64)))) (fun x:S45=>(x.f0,x.f1,x.f2))
theorem k45_heap:Kd.Heap k45:=Kd.heap_iso _ (Kd.heap_pair Kd.heap_bool (Kd.heap_pair (Kd.heap_slice 73 (Kd.heap_int .u64)) (Kd.heap_slice 73 (Kd.heap_int .u64))))
theorem k45_open {w:World} {x:S45} {cs:List Value} (h:k45.K w x cs) : ∃ A1 c1 A2 c2,cs= [.bool x.f0, .slice A1 x.f1.length c1, .slice A2 x.f2.length c2]∧x.f1.length≤c1∧(Kd.int .u64).C w A1 x.f1.length x.f1∧x.f2.length≤c2∧(Kd.int .u64).C w A2 x.f2.length x.f2:=by
 obtain ⟨_,_,rfl,rfl,⟨_,_,rfl,⟨A1,c1,rfl,l1,g1⟩,⟨A2,c2,rfl,l2,g2⟩⟩⟩:=h
 exact ⟨A1,c1,A2,c2,rfl,l1,g1,l2,g2⟩
theorem k45_openM {w:World} {base:Nat} {ok:Nat→Prop} {x:S45} {cs:List Value} (h:k45.M w base ok x cs) : ∃ v1 v2,cs= [.bool x.f0,v1,v2]∧(Kd.int .u64).R 73 w base ok v1 x.f1∧(Kd.int .u64).R 73 w base ok v2 x.f2:=by
 obtain ⟨_,_,rfl,rfl,⟨_,_,rfl,⟨v1,rfl,g1⟩,⟨v2,rfl,g2⟩⟩⟩:=h
 exact ⟨v1,v2,rfl,g1,g2⟩
theorem k45_mk (w:World) (x:S45) {A1:Option Addr} {c1:Nat} (l1:x.f1.length≤c1) (g1:(Kd.int .u64).C w A1 x.f1.length x.f1) {A2:Option Addr} {c2:Nat} (l2:x.f2.length≤c2) (g2:(Kd.int .u64).C w A2 x.f2.length x.f2):k45.K w x [.bool x.f0, .slice A1 x.f1.length c1, .slice A2 x.f2.length c2]:=⟨[.bool x.f0],[.slice A1 x.f1.length c1, .slice A2 x.f2.length c2],rfl,rfl,⟨[.slice A1 x.f1.length c1],[.slice A2 x.f2.length c2],rfl,⟨A1,c1,rfl,l1,g1⟩,⟨A2,c2,rfl,l2,g2⟩⟩⟩
theorem k45_mkM (w:World) (base:Nat) (ok:Nat→Prop) (x:S45) {v1:Value} (g1:(Kd.int .u64).R 73 w base ok v1 x.f1) {v2:Value} (g2:(Kd.int .u64).R 73 w base ok v2 x.f2):k45.M w base ok x [.bool x.f0,v1,v2]:=⟨[.bool x.f0],[v1,v2],rfl,rfl,⟨[v1],[v2],rfl,⟨v1,rfl,g1⟩,⟨v2,rfl,g2⟩⟩⟩
theorem k45_openF {W:World} {ok:Nat→Prop} {x:S45} {cs:List Value} (h:Kd.FK k45 W ok x cs) : ∃ A1 c1 A2 c2,cs= [.bool x.f0, .slice A1 x.f1.length c1, .slice A2 x.f2.length c2]∧x.f1.length≤c1∧Kd.F (Kd.int .u64) W ok A1 x.f1.length x.f1∧x.f2.length≤c2∧Kd.F (Kd.int .u64) W ok A2 x.f2.length x.f2:=by
 obtain ⟨A1,c1,A2,c2,rfl,l1,_,l2,_⟩:=k45_open (Kd.FK_now h)
 exact ⟨A1,c1,A2,c2,rfl,l1,(fun W' hW=>by obtain ⟨A1_,c1_,A2_,c2_,he,l1_,g1_,l2_,g2_⟩:=k45_open (h W' hW);injection (Option.some.inj (show some (Value.slice A1 x.f1.length c1)=some (Value.slice A1_ x.f1.length c1_) from congrArg (fun l=>l[1]?) he)) with ha_ _ _;rw [ha_];exact g1_),l2,(fun W' hW=>by obtain ⟨A1_,c1_,A2_,c2_,he,l1_,g1_,l2_,g2_⟩:=k45_open (h W' hW);injection (Option.some.inj (show some (Value.slice A2 x.f2.length c2)=some (Value.slice A2_ x.f2.length c2_) from congrArg (fun l=>l[2]?) he)) with ha_ _ _;rw [ha_];exact g2_)⟩
theorem k45_mkF (W:World) (ok:Nat→Prop) (x:S45) {A1:Option Addr} {c1:Nat} (l1:x.f1.length≤c1) (g1:Kd.F (Kd.int .u64) W ok A1 x.f1.length x.f1) {A2:Option Addr} {c2:Nat} (l2:x.f2.length≤c2) (g2:Kd.F (Kd.int .u64) W ok A2 x.f2.length x.f2):Kd.FK k45 W ok x [.bool x.f0, .slice A1 x.f1.length c1, .slice A2 x.f2.length c2]:=fun W2 hW=>k45_mk W2 x l1 (g1 W2 hW) l2 (g2 W2 hW)
def rd_T45 (xs:List S45) (i:Int):S45:=xs.getD i.toNat z45
theorem at_T45 {w:World} {A:Option Addr} {n:Nat} {xs:List S45} (h:Kd.C k45 w A n xs) (i:Int) (h0:0≤i) (h1:i<n) : ∃ ad A1 c1 A2 c2,A=some ad∧w.cell? (ad.add (i.toNat*3))=some (.bool (rd_T45 xs i).f0)∧w.cell? ⟨(ad.add (i.toNat*3)).block,(ad.add (i.toNat*3)).off+1,none⟩=some (.slice A1 (rd_T45 xs i).f1.length c1)∧w.cell? ⟨(ad.add (i.toNat*3)).block,(ad.add (i.toNat*3)).off+2,none⟩=some (.slice A2 (rd_T45 xs i).f2.length c2)∧(rd_T45 xs i).f1.length≤c1∧(Kd.int .u64).C w A1 (rd_T45 xs i).f1.length (rd_T45 xs i).f1∧(rd_T45 xs i).f2.length≤c2∧(Kd.int .u64).C w A2 (rd_T45 xs i).f2.length (rd_T45 xs i).f2:=by
 obtain ⟨ad,c,e,_,hK,hc0⟩:=Kd.C_get h z45 i h0 h1
 have hc : ∀ j u,c[j]? =some u→w.cell? (ad.add (i.toNat*3+j))=some u:=hc0
 obtain ⟨A1,c1,A2,c2,rfl,l1,g1,l2,g2⟩:=k45_open hK
 exact ⟨ad,A1,c1,A2,c2,e,hc 0 _ rfl,by rw [← add_field _ _ 1 (by omega)];exact hc 1 _ rfl,by rw [← add_field _ _ 2 (by omega)];exact hc 2 _ rfl,l1,g1,l2,g2⟩

structure S93 where
 f0:Int
 f1:Int
 f2:Int
 f3:S45
def z93:S93:=⟨(0:Int),(0:Int),(0:Int),z45⟩
def k93:Kd S93:=Kd.iso (Kd.pair (Kd.int .i64) (Kd.pair (Kd.int .i64) (Kd.pair (Kd.int .i64) k45))) (fun x:S93=>(x.f0,x.f1,x.f2,x.f3))
theorem k93_heap:Kd.Heap k93:=Kd.heap_iso _ (Kd.heap_pair (Kd.heap_int .i64) (Kd.heap_pair (Kd.heap_int .i64) (Kd.heap_pair (Kd.heap_int .i64) k45_heap)))
theorem k93_open {w:World} {x:S93} {cs:List Value} (h:k93.K w x cs) : ∃ A4 c4 A5 c5,cs= [.int .i64 x.f0, .int .i64 x.f1, .int .i64 x.f2, .bool x.f3.f0, .slice A4 x.f3.f1.length c4, .slice A5 x.f3.f2.length c5]∧x.f3.f1.length≤c4∧(Kd.int .u64).C w A4 x.f3.f1.length x.f3.f1∧x.f3.f2.length≤c5∧(Kd.int .u64).C w A5 x.f3.f2.length x.f3.f2:=by
 obtain ⟨_,_,rfl,rfl,⟨_,_,rfl,rfl,⟨_,_,rfl,rfl,s3⟩⟩⟩:=h
 obtain ⟨A4,c4,A5,c5,rfl,l4,g4,l5,g5⟩:=k45_open s3
 exact ⟨A4,c4,A5,c5,rfl,l4,g4,l5,g5⟩
theorem k93_openM {w:World} {base:Nat} {ok:Nat→Prop} {x:S93} {cs:List Value} (h:k93.M w base ok x cs) : ∃ v4 v5,cs= [.int .i64 x.f0, .int .i64 x.f1, .int .i64 x.f2, .bool x.f3.f0,v4,v5]∧(Kd.int .u64).R 73 w base ok v4 x.f3.f1∧(Kd.int .u64).R 73 w base ok v5 x.f3.f2:=by
 obtain ⟨_,_,rfl,rfl,⟨_,_,rfl,rfl,⟨_,_,rfl,rfl,s3⟩⟩⟩:=h
 obtain ⟨v4,v5,rfl,g4,g5⟩:=k45_openM s3
 exact ⟨v4,v5,rfl,g4,g5⟩
theorem k93_mk (w:World) (x:S93) {A4:Option Addr} {c4:Nat} (l4:x.f3.f1.length≤c4) (g4:(Kd.int .u64).C w A4 x.f3.f1.length x.f3.f1) {A5:Option Addr} {c5:Nat} (l5:x.f3.f2.length≤c5) (g5:(Kd.int .u64).C w A5 x.f3.f2.length x.f3.f2):k93.K w x [.int .i64 x.f0, .int .i64 x.f1, .int .i64 x.f2, .bool x.f3.f0, .slice A4 x.f3.f1.length c4, .slice A5 x.f3.f2.length c5]:=⟨[.int .i64 x.f0],[.int .i64 x.f1, .int .i64 x.f2, .bool x.f3.f0, .slice A4 x.f3.f1.length c4, .slice A5 x.f3.f2.length c5],rfl,rfl,⟨[.int .i64 x.f1],[.int .i64 x.f2, .bool x.f3.f0, .slice A4 x.f3.f1.length c4, .slice A5 x.f3.f2.length c5],rfl,rfl,⟨[.int .i64 x.f2],[.bool x.f3.f0, .slice A4 x.f3.f1.length c4, .slice A5 x.f3.f2.length c5],rfl,rfl,(k45_mk w x.f3 l4 g4 l5 g5)⟩⟩⟩
theorem k93_mkM (w:World) (base:Nat) (ok:Nat→Prop) (x:S93) {v4:Value} (g4:(Kd.int .u64).R 73 w base ok v4 x.f3.f1) {v5:Value} (g5:(Kd.int .u64).R 73 w base ok v5 x.f3.f2):k93.M w base ok x [.int .i64 x.f0, .int .i64 x.f1, .int .i64 x.f2, .bool x.f3.f0,v4,v5]:=⟨[.int .i64 x.f0],[.int .i64 x.f1, .int .i64 x.f2, .bool x.f3.f0,v4,v5],rfl,rfl,⟨[.int .i64 x.f1],[.int .i64 x.f2, .bool x.f3.f0,v4,v5],rfl,rfl,⟨[.int .i64 x.f2],[.bool x.f3.f0,v4,v5],rfl,rfl,(k45_mkM w base ok x.f3 g4 g5)⟩⟩⟩
theorem k93_openF {W:World} {ok:Nat→Prop} {x:S93} {cs:List Value} (h:Kd.FK k93 W ok x cs) : ∃ A4 c4 A5 c5,cs= [.int .i64 x.f0, .int .i64 x.f1, .int .i64 x.f2, .bool x.f3.f0, .slice A4 x.f3.f1.length c4, .slice A5 x.f3.f2.length c5]∧x.f3.f1.length≤c4∧Kd.F (Kd.int .u64) W ok A4 x.f3.f1.length x.f3.f1∧x.f3.f2.length≤c5∧Kd.F (Kd.int .u64) W ok A5 x.f3.f2.length x.f3.f2:=by
 obtain ⟨A4,c4,A5,c5,rfl,l4,_,l5,_⟩:=k93_open (Kd.FK_now h)
 exact ⟨A4,c4,A5,c5,rfl,l4,(fun W' hW=>by obtain ⟨A4_,c4_,A5_,c5_,he,l4_,g4_,l5_,g5_⟩:=k93_open (h W' hW);injection (Option.some.inj (show some (Value.slice A4 x.f3.f1.length c4)=some (Value.slice A4_ x.f3.f1.length c4_) from congrArg (fun l=>l[4]?) he)) with ha_ _ _;rw [ha_];exact g4_),l5,(fun W' hW=>by obtain ⟨A4_,c4_,A5_,c5_,he,l4_,g4_,l5_,g5_⟩:=k93_open (h W' hW);injection (Option.some.inj (show some (Value.slice A5 x.f3.f2.length c5)=some (Value.slice A5_ x.f3.f2.length c5_) from congrArg (fun l=>l[5]?) he)) with ha_ _ _;rw [ha_];exact g5_)⟩
theorem k93_mkF (W:World) (ok:Nat→Prop) (x:S93) {A4:Option Addr} {c4:Nat} (l4:x.f3.f1.length≤c4) (g4:Kd.F (Kd.int .u64) W ok A4 x.f3.f1.length x.f3.f1) {A5:Option Addr} {c5:Nat} (l5:x.f3.f2.length≤c5) (g5:Kd.F (Kd.int .u64) W ok A5 x.f3.f2.length x.f3.f2):Kd.FK k93 W ok x [.int .i64 x.f0, .int .i64 x.f1, .int .i64 x.f2, .bool x.f3.f0, .slice A4 x.f3.f1.length c4, .slice A5 x.f3.f2.length c5]:=fun W2 hW=>k93_mk W2 x l4 (g4 W2 hW) l5 (g5 W2 hW)
def rd_T93 (xs:List S93) (i:Int):S93:=xs.getD i.toNat z93
theorem at_T93 {w:World} {A:Option Addr} {n:Nat} {xs:List S93} (h:Kd.C k93 w A n xs) (i:Int) (h0:0≤i) (h1:i<n) : ∃ ad A4 c4 A5 c5,A=some ad∧w.cell? (ad.add (i.toNat*6))=some (.int .i64 (rd_T93 xs i).f0)∧w.cell? ⟨(ad.add (i.toNat*6)).block,(ad.add (i.toNat*6)).off+1,none⟩=some (.int .i64 (rd_T93 xs i).f1)∧w.cell? ⟨(ad.add (i.toNat*6)).block,(ad.add (i.toNat*6)).off+2,none⟩=some (.int .i64 (rd_T93 xs i).f2)∧w.cell? ⟨(ad.add (i.toNat*6)).block,(ad.add (i.toNat*6)).off+3,none⟩=some (.bool (rd_T93 xs i).f3.f0)∧w.cell? ⟨(ad.add (i.toNat*6)).block,(ad.add (i.toNat*6)).off+4,none⟩=some (.slice A4 (rd_T93 xs i).f3.f1.length c4)∧w.cell? ⟨(ad.add (i.toNat*6)).block,(ad.add (i.toNat*6)).off+5,none⟩=some (.slice A5 (rd_T93 xs i).f3.f2.length c5)∧(rd_T93 xs i).f3.f1.length≤c4∧(Kd.int .u64).C w A4 (rd_T93 xs i).f3.f1.length (rd_T93 xs i).f3.f1∧(rd_T93 xs i).f3.f2.length≤c5∧(Kd.int .u64).C w A5 (rd_T93 xs i).f3.f2.length (rd_T93 xs i).f3.f2:=by
 obtain ⟨ad,c,e,_,hK,hc0⟩:=Kd.C_get h z93 i h0 h1
 have hc : ∀ j u,c[j]? =some u→w.cell? (ad.add (i.toNat*6+j))=some u:=hc0
 obtain ⟨A4,c4,A5,c5,rfl,l4,g4,l5,g5⟩:=k93_open hK
 exact ⟨ad,A4,c4,A5,c5,e,hc 0 _ rfl,by rw [← add_field _ _ 1 (by omega)];exact hc 1 _ rfl,by rw [← add_field _ _ 2 (by omega)];exact hc 2 _ rfl,by rw [← add_field _ _ 3 (by omega)];exact hc 3 _ rfl,by rw [← add_field _ _ 4 (by omega)];exact hc 4 _ rfl,by rw [← add_field _ _ 5 (by omega)];exact hc 5 _ rfl,l4,g4,l5,g5⟩

structure S137 where
 f0:S45
 f1:Int
 f2:Int
def z137:S137:=⟨z45,(0:Int),(0:Int)⟩
def k137:Kd S137:=Kd.iso (Kd.pair k45 (Kd.pair (Kd.int .u64) (Kd.int .i64))) (fun x:S137=>(x.f0,x.f1,x.f2))
theorem k137_heap:Kd.Heap k137:=Kd.heap_iso _ (Kd.heap_pair k45_heap (Kd.heap_pair (Kd.heap_int .u64) (Kd.heap_int .i64)))
theorem k137_open {w:World} {x:S137} {cs:List Value} (h:k137.K w x cs) : ∃ A1 c1 A2 c2,cs= [.bool x.f0.f0, .slice A1 x.f0.f1.length c1, .slice A2 x.f0.f2.length c2, .int .u64 x.f1, .int .i64 x.f2]∧x.f0.f1.length≤c1∧(Kd.int .u64).C w A1 x.f0.f1.length x.f0.f1∧x.f0.f2.length≤c2∧(Kd.int .u64).C w A2 x.f0.f2.length x.f0.f2:=by
 obtain ⟨_,_,rfl,s0,⟨_,_,rfl,rfl,rfl⟩⟩:=h
 obtain ⟨A1,c1,A2,c2,rfl,l1,g1,l2,g2⟩:=k45_open s0
 exact ⟨A1,c1,A2,c2,rfl,l1,g1,l2,g2⟩
theorem k137_openM {w:World} {base:Nat} {ok:Nat→Prop} {x:S137} {cs:List Value} (h:k137.M w base ok x cs) : ∃ v1 v2,cs= [.bool x.f0.f0,v1,v2, .int .u64 x.f1, .int .i64 x.f2]∧(Kd.int .u64).R 73 w base ok v1 x.f0.f1∧(Kd.int .u64).R 73 w base ok v2 x.f0.f2:=by
 obtain ⟨_,_,rfl,s0,⟨_,_,rfl,rfl,rfl⟩⟩:=h
 obtain ⟨v1,v2,rfl,g1,g2⟩:=k45_openM s0
 exact ⟨v1,v2,rfl,g1,g2⟩
theorem k137_mk (w:World) (x:S137) {A1:Option Addr} {c1:Nat} (l1:x.f0.f1.length≤c1) (g1:(Kd.int .u64).C w A1 x.f0.f1.length x.f0.f1) {A2:Option Addr} {c2:Nat} (l2:x.f0.f2.length≤c2) (g2:(Kd.int .u64).C w A2 x.f0.f2.length x.f0.f2):k137.K w x [.bool x.f0.f0, .slice A1 x.f0.f1.length c1, .slice A2 x.f0.f2.length c2, .int .u64 x.f1, .int .i64 x.f2]:=⟨[.bool x.f0.f0, .slice A1 x.f0.f1.length c1, .slice A2 x.f0.f2.length c2],[.int .u64 x.f1, .int .i64 x.f2],rfl,(k45_mk w x.f0 l1 g1 l2 g2),⟨[.int .u64 x.f1],[.int .i64 x.f2],rfl,rfl,rfl⟩⟩
theorem k137_mkM (w:World) (base:Nat) (ok:Nat→Prop) (x:S137) {v1:Value} (g1:(Kd.int .u64).R 73 w base ok v1 x.f0.f1) {v2:Value} (g2:(Kd.int .u64).R 73 w base ok v2 x.f0.f2):k137.M w base ok x [.bool x.f0.f0,v1,v2, .int .u64 x.f1, .int .i64 x.f2]:=⟨[.bool x.f0.f0,v1,v2],[.int .u64 x.f1, .int .i64 x.f2],rfl,(k45_mkM w base ok x.f0 g1 g2),⟨[.int .u64 x.f1],[.int .i64 x.f2],rfl,rfl,rfl⟩⟩
theorem k137_openF {W:World} {ok:Nat→Prop} {x:S137} {cs:List Value} (h:Kd.FK k137 W ok x cs) : ∃ A1 c1 A2 c2,cs= [.bool x.f0.f0, .slice A1 x.f0.f1.length c1, .slice A2 x.f0.f2.length c2, .int .u64 x.f1, .int .i64 x.f2]∧x.f0.f1.length≤c1∧Kd.F (Kd.int .u64) W ok A1 x.f0.f1.length x.f0.f1∧x.f0.f2.length≤c2∧Kd.F (Kd.int .u64) W ok A2 x.f0.f2.length x.f0.f2:=by
 obtain ⟨A1,c1,A2,c2,rfl,l1,_,l2,_⟩:=k137_open (Kd.FK_now h)
 exact ⟨A1,c1,A2,c2,rfl,l1,(fun W' hW=>by obtain ⟨A1_,c1_,A2_,c2_,he,l1_,g1_,l2_,g2_⟩:=k137_open (h W' hW);injection (Option.some.inj (show some (Value.slice A1 x.f0.f1.length c1)=some (Value.slice A1_ x.f0.f1.length c1_) from congrArg (fun l=>l[1]?) he)) with ha_ _ _;rw [ha_];exact g1_),l2,(fun W' hW=>by obtain ⟨A1_,c1_,A2_,c2_,he,l1_,g1_,l2_,g2_⟩:=k137_open (h W' hW);injection (Option.some.inj (show some (Value.slice A2 x.f0.f2.length c2)=some (Value.slice A2_ x.f0.f2.length c2_) from congrArg (fun l=>l[2]?) he)) with ha_ _ _;rw [ha_];exact g2_)⟩
theorem k137_mkF (W:World) (ok:Nat→Prop) (x:S137) {A1:Option Addr} {c1:Nat} (l1:x.f0.f1.length≤c1) (g1:Kd.F (Kd.int .u64) W ok A1 x.f0.f1.length x.f0.f1) {A2:Option Addr} {c2:Nat} (l2:x.f0.f2.length≤c2) (g2:Kd.F (Kd.int .u64) W ok A2 x.f0.f2.length x.f0.f2):Kd.FK k137 W ok x [.bool x.f0.f0, .slice A1 x.f0.f1.length c1, .slice A2 x.f0.f2.length c2, .int .u64 x.f1, .int .i64 x.f2]:=fun W2 hW=>k137_mk W2 x l1 (g1 W2 hW) l2 (g2 W2 hW)
def rd_T137 (xs:List S137) (i:Int):S137:=xs.getD i.toNat z137
theorem at_T137 {w:World} {A:Option Addr} {n:Nat} {xs:List S137} (h:Kd.C k137 w A n xs) (i:Int) (h0:0≤i) (h1:i<n) : ∃ ad A1 c1 A2 c2,A=some ad∧w.cell? (ad.add (i.toNat*5))=some (.bool (rd_T137 xs i).f0.f0)∧w.cell? ⟨(ad.add (i.toNat*5)).block,(ad.add (i.toNat*5)).off+1,none⟩=some (.slice A1 (rd_T137 xs i).f0.f1.length c1)∧w.cell? ⟨(ad.add (i.toNat*5)).block,(ad.add (i.toNat*5)).off+2,none⟩=some (.slice A2 (rd_T137 xs i).f0.f2.length c2)∧w.cell? ⟨(ad.add (i.toNat*5)).block,(ad.add (i.toNat*5)).off+3,none⟩=some (.int .u64 (rd_T137 xs i).f1)∧w.cell? ⟨(ad.add (i.toNat*5)).block,(ad.add (i.toNat*5)).off+4,none⟩=some (.int .i64 (rd_T137 xs i).f2)∧(rd_T137 xs i).f0.f1.length≤c1∧(Kd.int .u64).C w A1 (rd_T137 xs i).f0.f1.length (rd_T137 xs i).f0.f1∧(rd_T137 xs i).f0.f2.length≤c2∧(Kd.int .u64).C w A2 (rd_T137 xs i).f0.f2.length (rd_T137 xs i).f0.f2:=by
 obtain ⟨ad,c,e,_,hK,hc0⟩:=Kd.C_get h z137 i h0 h1
 have hc : ∀ j u,c[j]? =some u→w.cell? (ad.add (i.toNat*5+j))=some u:=hc0
 obtain ⟨A1,c1,A2,c2,rfl,l1,g1,l2,g2⟩:=k137_open hK
 exact ⟨ad,A1,c1,A2,c2,e,hc 0 _ rfl,by rw [← add_field _ _ 1 (by omega)];exact hc 1 _ rfl,by rw [← add_field _ _ 2 (by omega)];exact hc 2 _ rfl,by rw [← add_field _ _ 3 (by omega)];exact hc 3 _ rfl,by rw [← add_field _ _ 4 (by omega)];exact hc 4 _ rfl,l1,g1,l2,g2⟩

end Go.Proofs.YtjocbnjpjihpnaaGreat.P
