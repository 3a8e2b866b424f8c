/- The row of a law: written by a program of this session. -/
import Derived.Test.YtjocbnjpjihpnaaFbase
import Derived.Test.YtjocbnjpjihpnaaRows
import Derived.Test.YtjocbnjpjihpnaaAgradinelaw14KernelSigns
import Derived.Test.YtjocbnjpjihpnaaPureKernelSigns
import Derived.Test.YtjocbnjpjihpnaaIo
import Derived.Test.YtjocbnjpjihpnaaRG
import Derived.Test.YtjocbnjpjihpnaaWWc
import Derived.Test.YtjocbnjpjihpnaaWWa
import Derived.WalkKit
import Derived.ProofKit
import Derived.OpenShut
import Derived.ShutString
import Derived.ChangeOld
import Derived.Below
import Derived.SizedLaws
namespace Go.Proofs.Ytjocbnjpjihpnaa.kernelSigns
open Go.ChangeShapes Go.WideShapes Go.ChangeAt Go.RowKit Go.Proofs.YtjocbnjpjihpnaaW.PrintWords Go.Proofs.YtjocbnjpjihpnaaW.PrintLast Go.Proofs.YtjocbnjpjihpnaaW.PrintMore Go.Proofs.YtjocbnjpjihpnaaW.Abs
set_option linter.unusedVariables false
theorem own:ownKnob Try.prog.godebug=none:=by kernel_rfl
theorem laidOut:laidOutB Try.prog=true:=by kernel_rfl
theorem walk (PU:Pure.KernelSignsS) (x0:T (.int .u64)) (v0:Value) (w:World) (h0 : ∃ cs,v0=mkV cs∧Rd (fun _=>False) w (.int .u64) x0 cs) (f0:RG.Wf (.int .u64) x0) :
 Calls Try.prog 4 #[v0] w fun e w'=>e= .returned (.bool true)∧Below w.heap.size w w':=by
 obtain ⟨k,h⟩:=PU x0 f0
 refine ((A.o_gradinelaw14_KernelSigns).2 k (x0,()) (true,()) (by show Option.map _ _=_;rw [h];rfl) (fun _=>False) w [v0] (fun _ q=>q.elim) ⟨h0,rfl⟩).mono ?_
 rintro e w' ⟨v,he,hr,hb⟩
 exact ⟨by rw [he,res_bool hr],hb⟩
set_option maxRecDepth 100000 in
theorem lifted (os:Os) (started:os.Started) (H:Type) (enc:TypeId × Value→H) :
 ReturnsInHanded {} Try.checked os 4 .any (Rows.kernelSignsSpec.pre6 enc Try.prog Try.f4 Rows.kernelSignsRow.domain false) (Rows.kernelSignsSpec.post enc Try.prog Try.f4 false true false false):=by
 refine returnsInHanded_of_change_sized (C:=Try.checked) own started (by kernel_rfl) Try.func4
  (ChangeSpec.witness6 (enc:=enc) (C:=Try.checked) false ⟨#[],#[.int .u64 0],[]⟩ 8 (by kernel_rfl) (by kernel_rfl) (by kernel_rfl) (by kernel_rfl)) ?_
 intro W base args ds gs before hval0 hW hcnd hsz0 _
 have hval : ∀ (j:Nat) t v,Try.f4.params[j]? =some t→args[j]? =some v→Value.okWide Try.prog W .any base t v:=hval0
 have hW':=hW
 obtain ⟨p,q,hA0,hV,rfl,hfz,hnd⟩:=hW
 have hA:DataW.TrodAll enc Try.prog W 0 (fun _=>true) true Try.f4.params.toList args.toList ds p:=hA0
 rw [Try.params4] at hA hval
 obtain ⟨v0,vs0,d0,ds0,p0,q0,hargs,rfl,rfl,h0,r0⟩:=trodAll_cons hA
 obtain ⟨rfl,rfl,rfl⟩:=trodAll_nil r0
 obtain rfl:args= #[v0]:=by cases args;simp_all
 obtain ⟨rfl,rfl⟩:=trodVars_none hV
 have k0:=h0
 have lt0 : ∀ x∈p0,x.block<W.heap.size:=by obtain ⟨m,hm⟩:=k0;exact DataW.trod_lt m _ _ _ hm
 obtain ⟨x0,a0,f0⟩:=RG.open_arg (n:=12) (t:= .int .u64) (by kernel_rfl) (by kernel_rfl) (hval 0 22 v0 rfl rfl) h0
 clear hA0 hval0 hsz0
 refine (walk Pure.KernelSigns x0 v0 W a0 f0).mono fun e W' ⟨he,bel⟩=> ?_
 subst he
 exact ⟨_,rfl,_,_,_,[],_,[],hW',trodAll_mk1 (shut_bool Try.underlying4 _),(trodAll_cons_mk (Below.trod laidOut (by kernel_rfl) (of_decide_eq_true (by kernel_rfl)) k0 bel lt0) trodAll_mk0),rfl,bel.frame _,fun h=>by cases h⟩
theorem closed:joinedFacts Try.prog 4 Try.f4 Rows.kernelSignsSpec Rows.kernelSignsRow=true :=
 Io.joined_of Io.mayEnter_t Io.liftsFinal_t (by kernel_rfl) Io.make_t (by kernel_rfl) (by kernel_rfl) (by kernel_rfl) (by kernel_rfl) (by kernel_rfl) (by kernel_rfl) (by kernel_rfl) (by kernel_rfl) (by kernel_rfl) (by kernel_rfl) (by kernel_rfl) (by kernel_rfl) (by kernel_rfl) (by kernel_rfl) (by kernel_rfl) (by kernel_rfl) (by kernel_rfl) (by kernel_rfl) (by kernel_rfl) (by kernel_rfl) (by kernel_rfl) (by kernel_rfl) (by kernel_rfl) (by kernel_rfl) (by kernel_rfl) (by kernel_rfl) (by kernel_rfl) (by kernel_rfl) (by kernel_rfl) (by kernel_rfl)
theorem over:Rows.kernelSignsRow.holds Try.pinned (OpenSpec.ofChange Rows.kernelSignsSpec) :=
 OpenClaim.holds_of_wide 4 Try.f4 rfl rfl rfl rfl rfl rfl rfl ⟨rfl,rfl,rfl,rfl,rfl⟩ rfl rfl rfl rfl rfl (by kernel_rfl) Try.func4 closed
  (of_decide_eq_true (by kernel_rfl)) (by unfold Func.isWrapper;first | (rw [if_pos (by decide +kernel)];kernel_rfl) | (rw [if_neg (by decide +kernel)];exact ⟨rfl,rfl⟩))
  (fun os started H enc _=>lifted os started H enc)
theorem proved:Rows.KernelSignsSaid:=over
#print axioms proved
end Go.Proofs.Ytjocbnjpjihpnaa.kernelSigns
namespace Go.Proofs.Ytjocbnjpjihpnaa
/-- The row,under a short name,for the claim. -/
theorem kernelSigns_holds:Rows.KernelSignsSaid:=kernelSigns.proved
end Go.Proofs.Ytjocbnjpjihpnaa
