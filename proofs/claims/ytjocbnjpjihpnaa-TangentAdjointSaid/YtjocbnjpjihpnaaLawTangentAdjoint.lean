/- The row of a law: written by a program of this session. -/
import Derived.Test.YtjocbnjpjihpnaaFbase
import Derived.Test.YtjocbnjpjihpnaaRows
import Derived.Test.YtjocbnjpjihpnaaAgradinelaw17TangentAdjoint
import Derived.Test.YtjocbnjpjihpnaaPureTangentAdjoint
import Derived.Test.YtjocbnjpjihpnaaIo
import Derived.Test.YtjocbnjpjihpnaaRG
import Derived.Test.YtjocbnjpjihpnaaWWc
import Derived.Test.YtjocbnjpjihpnaaWWa
import Derived.WalkKit
import Derived.ProofKit
import Derived.OpenShut
import Derived.ShutString
import Derived.ChangeOld
import Derived.Below
import Derived.SizedLaws
namespace Go.Proofs.Ytjocbnjpjihpnaa.tangentAdjoint
open Go.ChangeShapes Go.WideShapes Go.ChangeAt Go.RowKit Go.Proofs.YtjocbnjpjihpnaaW.PrintWords Go.Proofs.YtjocbnjpjihpnaaW.PrintLast Go.Proofs.YtjocbnjpjihpnaaW.PrintMore Go.Proofs.YtjocbnjpjihpnaaW.Abs
set_option linter.unusedVariables false
theorem own:ownKnob Try.prog.godebug=none:=by kernel_rfl
theorem laidOut:laidOutB Try.prog=true:=by kernel_rfl
theorem walk (PU:Pure.TangentAdjointS) (x0:T ((.cons (.row 85 (.cons (.int .i64) (.cons (.int .i64) (.cons (.int .i64) (.cons .bool (.cons (.row 22 (.int .u64)) (.row 22 (.int .u64)))))))) (.cons (.row 30 (.cons .bool (.cons (.row 22 (.int .u64)) (.row 22 (.int .u64))))) (.cons (.row 30 (.cons .bool (.cons (.row 22 (.int .u64)) (.row 22 (.int .u64))))) (.row 30 (.cons .bool (.cons (.row 22 (.int .u64)) (.row 22 (.int .u64)))))))))) (v0:Value) (x1:T ((.row 3 (.int .i64)))) (v1:Value) (x2:T ((.row 30 (.cons .bool (.cons (.row 22 (.int .u64)) (.row 22 (.int .u64))))))) (v2:Value) (w:World) (h0 : ∃ cs,v0=mkV cs∧Rd (fun _=>False) w ((.cons (.row 85 (.cons (.int .i64) (.cons (.int .i64) (.cons (.int .i64) (.cons .bool (.cons (.row 22 (.int .u64)) (.row 22 (.int .u64)))))))) (.cons (.row 30 (.cons .bool (.cons (.row 22 (.int .u64)) (.row 22 (.int .u64))))) (.cons (.row 30 (.cons .bool (.cons (.row 22 (.int .u64)) (.row 22 (.int .u64))))) (.row 30 (.cons .bool (.cons (.row 22 (.int .u64)) (.row 22 (.int .u64))))))))) x0 cs) (f0:RG.Wf ((.cons (.row 85 (.cons (.int .i64) (.cons (.int .i64) (.cons (.int .i64) (.cons .bool (.cons (.row 22 (.int .u64)) (.row 22 (.int .u64)))))))) (.cons (.row 30 (.cons .bool (.cons (.row 22 (.int .u64)) (.row 22 (.int .u64))))) (.cons (.row 30 (.cons .bool (.cons (.row 22 (.int .u64)) (.row 22 (.int .u64))))) (.row 30 (.cons .bool (.cons (.row 22 (.int .u64)) (.row 22 (.int .u64))))))))) x0) (h1 : ∃ cs,v1=mkV cs∧Rd (fun _=>False) w ((.row 3 (.int .i64))) x1 cs) (f1:RG.Wf ((.row 3 (.int .i64))) x1) (h2 : ∃ cs,v2=mkV cs∧Rd (fun _=>False) w ((.row 30 (.cons .bool (.cons (.row 22 (.int .u64)) (.row 22 (.int .u64)))))) x2 cs) (f2:RG.Wf ((.row 30 (.cons .bool (.cons (.row 22 (.int .u64)) (.row 22 (.int .u64)))))) x2) :
 Calls Try.prog 7 #[v0,v1,v2] w fun e w'=>e= .returned (.bool true)∧Below w.heap.size w w':=by
 obtain ⟨k,h⟩:=PU x0 x1 x2 f0 f1 f2
 refine ((A.o_gradinelaw17_TangentAdjoint).2 k (x0,x1,x2,()) (true,()) (by show Option.map _ _=_;rw [h];rfl) (fun _=>False) w [v0,v1,v2] (fun _ q=>q.elim) ⟨h0,h1,h2,rfl⟩).mono ?_
 rintro e w' ⟨v,he,hr,hb⟩
 exact ⟨by rw [he,res_bool hr],hb⟩
set_option maxRecDepth 100000 in
theorem lifted (os:Os) (started:os.Started) (H:Type) (enc:TypeId × Value→H) :
 ReturnsInHanded {} Try.checked os 7 .any (Rows.tangentAdjointSpec.pre6 enc Try.prog Try.f7 Rows.tangentAdjointRow.domain false) (Rows.tangentAdjointSpec.post enc Try.prog Try.f7 false true false false):=by
 refine returnsInHanded_of_change_sized (C:=Try.checked) own started (by kernel_rfl) Try.func7
  (ChangeSpec.witness6 (enc:=enc) (C:=Try.checked) false ⟨#[],#[.agg #[.slice none 0 0, .slice none 0 0, .slice none 0 0, .slice none 0 0], .slice none 0 0, .slice none 0 0],[]⟩ 8 (by kernel_rfl) (by kernel_rfl) (by kernel_rfl) (by kernel_rfl)) ?_
 intro W base args ds gs before hval0 hW hcnd hsz0 _
 have hval : ∀ (j:Nat) t v,Try.f7.params[j]? =some t→args[j]? =some v→Value.okWide Try.prog W .any base t v:=hval0
 have hW':=hW
 obtain ⟨p,q,hA0,hV,rfl,hfz,hnd⟩:=hW
 have hA:DataW.TrodAll enc Try.prog W 0 (fun _=>true) true Try.f7.params.toList args.toList ds p:=hA0
 rw [Try.params7] at hA hval
 obtain ⟨v0,vs0,d0,ds0,p0,q0,hargs,rfl,rfl,h0,r0⟩:=trodAll_cons hA
 obtain ⟨v1,vs1,d1,ds1,p1,q1,rfl,rfl,rfl,h1,r1⟩:=trodAll_cons r0
 obtain ⟨v2,vs2,d2,ds2,p2,q2,rfl,rfl,rfl,h2,r2⟩:=trodAll_cons r1
 obtain ⟨rfl,rfl,rfl⟩:=trodAll_nil r2
 obtain rfl:args= #[v0,v1,v2]:=by cases args;simp_all
 obtain ⟨rfl,rfl⟩:=trodVars_none hV
 have k0:=h0
 have lt0 : ∀ x∈p0,x.block<W.heap.size:=by obtain ⟨m,hm⟩:=k0;exact DataW.trod_lt m _ _ _ hm
 obtain ⟨x0,a0,f0⟩:=RG.open_arg (n:=12) (t:=(.cons (.row 85 (.cons (.int .i64) (.cons (.int .i64) (.cons (.int .i64) (.cons .bool (.cons (.row 22 (.int .u64)) (.row 22 (.int .u64)))))))) (.cons (.row 30 (.cons .bool (.cons (.row 22 (.int .u64)) (.row 22 (.int .u64))))) (.cons (.row 30 (.cons .bool (.cons (.row 22 (.int .u64)) (.row 22 (.int .u64))))) (.row 30 (.cons .bool (.cons (.row 22 (.int .u64)) (.row 22 (.int .u64))))))))) (by kernel_rfl) (by kernel_rfl) (hval 0 46 v0 rfl rfl) h0
 have k1:=h1
 have lt1 : ∀ x∈p1,x.block<W.heap.size:=by obtain ⟨m,hm⟩:=k1;exact DataW.trod_lt m _ _ _ hm
 obtain ⟨x1,a1,f1⟩:=RG.open_arg (n:=12) (t:=(.row 3 (.int .i64))) (by kernel_rfl) (by kernel_rfl) (hval 1 47 v1 rfl rfl) h1
 have k2:=h2
 have lt2 : ∀ x∈p2,x.block<W.heap.size:=by obtain ⟨m,hm⟩:=k2;exact DataW.trod_lt m _ _ _ hm
 obtain ⟨x2,a2,f2⟩:=RG.open_arg (n:=12) (t:=(.row 30 (.cons .bool (.cons (.row 22 (.int .u64)) (.row 22 (.int .u64)))))) (by kernel_rfl) (by kernel_rfl) (hval 2 44 v2 rfl rfl) h2
 clear hA0 hval0 hsz0
 refine (walk Pure.TangentAdjoint x0 v0 x1 v1 x2 v2 W a0 f0 a1 f1 a2 f2).mono fun e W' ⟨he,bel⟩=> ?_
 subst he
 exact ⟨_,rfl,_,_,_,[],_,[],hW',trodAll_mk1 (shut_bool Try.underlying4 _),(trodAll_cons_mk (Below.trod laidOut (by kernel_rfl) (of_decide_eq_true (by kernel_rfl)) k0 bel lt0) (trodAll_cons_mk (Below.trod laidOut (by kernel_rfl) (of_decide_eq_true (by kernel_rfl)) k1 bel lt1) (trodAll_cons_mk (Below.trod laidOut (by kernel_rfl) (of_decide_eq_true (by kernel_rfl)) k2 bel lt2) trodAll_mk0))),rfl,bel.frame _,fun h=>by cases h⟩
theorem closed:joinedFacts Try.prog 7 Try.f7 Rows.tangentAdjointSpec Rows.tangentAdjointRow=true :=
 Io.joined_of Io.mayEnter_t Io.liftsFinal_t (by kernel_rfl) Io.make_t (by kernel_rfl) (by kernel_rfl) (by kernel_rfl) (by kernel_rfl) (by kernel_rfl) (by kernel_rfl) (by kernel_rfl) (by kernel_rfl) (by kernel_rfl) (by kernel_rfl) (by kernel_rfl) (by kernel_rfl) (by kernel_rfl) (by kernel_rfl) (by kernel_rfl) (by kernel_rfl) (by kernel_rfl) (by kernel_rfl) (by kernel_rfl) (by kernel_rfl) (by kernel_rfl) (by kernel_rfl) (by kernel_rfl) (by kernel_rfl) (by kernel_rfl) (by kernel_rfl) (by kernel_rfl) (by kernel_rfl) (by kernel_rfl) (by kernel_rfl)
theorem over:Rows.tangentAdjointRow.holds Try.pinned (OpenSpec.ofChange Rows.tangentAdjointSpec) :=
 OpenClaim.holds_of_wide 7 Try.f7 rfl rfl rfl rfl rfl rfl rfl ⟨rfl,rfl,rfl,rfl,rfl⟩ rfl rfl rfl rfl rfl (by kernel_rfl) Try.func7 closed
  (of_decide_eq_true (by kernel_rfl)) (by unfold Func.isWrapper;first | (rw [if_pos (by decide +kernel)];kernel_rfl) | (rw [if_neg (by decide +kernel)];exact ⟨rfl,rfl⟩))
  (fun os started H enc _=>lifted os started H enc)
theorem proved:Rows.TangentAdjointSaid:=over
#print axioms proved
end Go.Proofs.Ytjocbnjpjihpnaa.tangentAdjoint
namespace Go.Proofs.Ytjocbnjpjihpnaa
/-- The row,under a short name,for the claim. -/
theorem tangentAdjoint_holds:Rows.TangentAdjointSaid:=tangentAdjoint.proved
end Go.Proofs.Ytjocbnjpjihpnaa
