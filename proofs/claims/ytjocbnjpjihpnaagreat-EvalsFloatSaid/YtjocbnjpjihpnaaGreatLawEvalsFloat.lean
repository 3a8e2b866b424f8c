/- The row of a law: written by a program of this session. -/
import Derived.Test.YtjocbnjpjihpnaaGreatFbase
import Derived.Test.YtjocbnjpjihpnaaGreatBB
import Derived.Test.YtjocbnjpjihpnaaGreatRows
import Derived.Test.YtjocbnjpjihpnaaGreatAgradinelaw16EvalsFloat
import Derived.Test.YtjocbnjpjihpnaaGreatPureEvalsFloat
import Derived.Test.YtjocbnjpjihpnaaGreatIo
import Derived.Test.YtjocbnjpjihpnaaGreatRG
import Derived.Test.YtjocbnjpjihpnaaGreatWWc
import Derived.Test.YtjocbnjpjihpnaaGreatWWa
import Derived.WalkKit
import Derived.ProofKit
import Derived.OpenShut
import Derived.ShutString
import Derived.ChangeOld
import Derived.Below
import Derived.SizedLaws
namespace Go.Proofs.YtjocbnjpjihpnaaGreat.evalsFloat
open Go.ChangeShapes Go.WideShapes Go.ChangeAt Go.RowKit Go.Proofs.YtjocbnjpjihpnaaGreatW.PrintWords Go.Proofs.YtjocbnjpjihpnaaGreatW.PrintLast Go.Proofs.YtjocbnjpjihpnaaGreatW.PrintMore Go.Proofs.YtjocbnjpjihpnaaGreatW.Abs
set_option linter.unusedVariables false
theorem own:ownKnob Tryz.prog.godebug=none:=by kernel_rfl
theorem laidOut:laidOutB Tryz.prog=true:=by kernel_rfl
theorem walk (PU:Pure.EvalsFloatS) (x0:T ((.row 93 (.cons (.int .i64) (.cons (.int .i64) (.cons (.int .i64) (.cons .bool (.cons (.row 73 (.int .u64)) (.row 73 (.int .u64)))))))))) (v0:Value) (x1:T ((.row 73 (.int .u64)))) (v1:Value) (w:World) (h0 : ∃ cs,v0=mkV cs∧Rd (fun _=>False) w ((.row 93 (.cons (.int .i64) (.cons (.int .i64) (.cons (.int .i64) (.cons .bool (.cons (.row 73 (.int .u64)) (.row 73 (.int .u64))))))))) x0 cs) (f0:RG.Wf ((.row 93 (.cons (.int .i64) (.cons (.int .i64) (.cons (.int .i64) (.cons .bool (.cons (.row 73 (.int .u64)) (.row 73 (.int .u64))))))))) x0) (h1 : ∃ cs,v1=mkV cs∧Rd (fun _=>False) w ((.row 73 (.int .u64))) x1 cs) (f1:RG.Wf ((.row 73 (.int .u64))) x1) :
 Calls Tryz.prog 7 #[v0,v1] w fun e w'=>e= .returned (.bool true)∧Below w.heap.size w w':=by
 obtain ⟨k,h⟩:=PU x0 x1 f0 f1
 refine ((A.o_gradinelaw16_EvalsFloat).2 k (x0,x1,()) (true,()) (by show Option.map _ _=_;rw [h];rfl) (fun _=>False) w [v0,v1] (fun _ q=>q.elim) ⟨h0,h1,rfl⟩).mono ?_
 rintro e w' ⟨v,he,hr,hb⟩
 exact ⟨by rw [he,res_bool hr],hb⟩
set_option maxRecDepth 100000 in
theorem lifted (os:Os) (started:os.Started) (H:Type) (enc:TypeId × Value→H) :
 ReturnsInHanded {} Tryz.checked os 7 .any (Rows.evalsFloatSpec.pre6 enc Tryz.prog Tryz.f7 Rows.evalsFloatRow.domain false) (Rows.evalsFloatSpec.post enc Tryz.prog Tryz.f7 false true false false):=by
 refine returnsInHanded_of_change_sized (C:=Tryz.checked) own started (by kernel_rfl) Tryz.func7
  (ChangeSpec.witness6 (enc:=enc) (C:=Tryz.checked) false ⟨#[],#[.slice none 0 0, .slice none 0 0],[]⟩ 8 (by kernel_rfl) (by kernel_rfl) (by kernel_rfl) (by kernel_rfl)) ?_
 intro W base args ds gs before hval0 hW hcnd hsz0 _
 have hval : ∀ (j:Nat) t v,Tryz.f7.params[j]? =some t→args[j]? =some v→Value.okWide Tryz.prog W .any base t v:=hval0
 have hW':=hW
 obtain ⟨p,q,hA0,hV,rfl,hfz,hnd⟩:=hW
 have hA:DataW.TrodAll enc Tryz.prog W 0 (fun _=>true) true Tryz.f7.params.toList args.toList ds p:=hA0
 rw [Tryz.params7] at hA hval
 obtain ⟨v0,vs0,d0,ds0,p0,q0,hargs,rfl,rfl,h0,r0⟩:=trodAll_cons hA
 obtain ⟨v1,vs1,d1,ds1,p1,q1,rfl,rfl,rfl,h1,r1⟩:=trodAll_cons r0
 obtain ⟨rfl,rfl,rfl⟩:=trodAll_nil r1
 obtain rfl:args= #[v0,v1]:=by cases args;simp_all
 obtain ⟨rfl,rfl⟩:=trodVars_none hV
 have k0:=h0
 have lt0 : ∀ x∈p0,x.block<W.heap.size:=by obtain ⟨m,hm⟩:=k0;exact DataW.trod_lt m _ _ _ hm
 obtain ⟨x0,a0,f0⟩:=RG.open_arg (n:=12) (t:=(.row 93 (.cons (.int .i64) (.cons (.int .i64) (.cons (.int .i64) (.cons .bool (.cons (.row 73 (.int .u64)) (.row 73 (.int .u64))))))))) (by kernel_rfl) (by kernel_rfl) (hval 0 22 v0 rfl rfl) h0
 have k1:=h1
 have lt1 : ∀ x∈p1,x.block<W.heap.size:=by obtain ⟨m,hm⟩:=k1;exact DataW.trod_lt m _ _ _ hm
 obtain ⟨x1,a1,f1⟩:=RG.open_arg (n:=12) (t:=(.row 73 (.int .u64))) (by kernel_rfl) (by kernel_rfl) (hval 1 43 v1 rfl rfl) h1
 clear hA0 hval0 hsz0
 refine (walk Pure.EvalsFloat x0 v0 x1 v1 W a0 f0 a1 f1).mono fun e W' ⟨he,bel⟩=> ?_
 subst he
 exact ⟨_,rfl,_,_,_,[],_,[],hW',trodAll_mk1 (shut_bool Tryz.underlying4 _),(trodAll_cons_mk (Below.trod laidOut (by kernel_rfl) (of_decide_eq_true (by kernel_rfl)) k0 bel lt0) (trodAll_cons_mk (Below.trod laidOut (by kernel_rfl) (of_decide_eq_true (by kernel_rfl)) k1 bel lt1) trodAll_mk0)),rfl,bel.frame _,fun h=>by cases h⟩
theorem closed:joinedFacts Tryz.prog 7 Tryz.f7 Rows.evalsFloatSpec Rows.evalsFloatRow=true :=
 Io.joined_of Io.mayEnter_t Io.liftsFinal_t (by kernel_rfl) Io.make_t (by kernel_rfl) (by kernel_rfl) (by kernel_rfl) (by kernel_rfl) (by kernel_rfl) (by kernel_rfl) (by kernel_rfl) (by kernel_rfl) (by kernel_rfl) (by kernel_rfl) (by kernel_rfl) (by kernel_rfl) (by kernel_rfl) (by kernel_rfl) (by kernel_rfl) (by kernel_rfl) (by kernel_rfl) (by kernel_rfl) (by kernel_rfl) (by kernel_rfl) (by kernel_rfl) (by kernel_rfl) (by kernel_rfl) (by kernel_rfl) (by kernel_rfl) (by kernel_rfl) (by kernel_rfl) (by kernel_rfl) (by kernel_rfl) (by kernel_rfl)
theorem over:Rows.evalsFloatRow.holds Tryz.pinned (OpenSpec.ofChange Rows.evalsFloatSpec) :=
 OpenClaim.holds_of_wide 7 Tryz.f7 rfl rfl rfl rfl rfl rfl rfl ⟨rfl,rfl,rfl,rfl,rfl⟩ rfl rfl rfl rfl rfl (by kernel_rfl) Tryz.func7 closed
  (of_decide_eq_true (by kernel_rfl)) (by unfold Func.isWrapper;first | (rw [if_pos (by decide +kernel)];kernel_rfl) | (rw [if_neg (by decide +kernel)];exact ⟨rfl,rfl⟩))
  (fun os started H enc _=>lifted os started H enc)
theorem proved:Rows.EvalsFloatSaid:=over
#print axioms proved
end Go.Proofs.YtjocbnjpjihpnaaGreat.evalsFloat
namespace Go.Proofs.YtjocbnjpjihpnaaGreat
/-- The row,under a short name,for the claim. -/
theorem evalsFloat_holds:Rows.EvalsFloatSaid:=evalsFloat.proved
end Go.Proofs.YtjocbnjpjihpnaaGreat
