/- The row of a law: written by a program of this session. -/
import Derived.Test.YtjocbnjpjihpnaaGreatFbase
import Derived.Test.YtjocbnjpjihpnaaGreatRows
import Derived.Test.YtjocbnjpjihpnaaGreatAgradinelaw18BankLines
import Derived.Test.YtjocbnjpjihpnaaGreatPureBankLines
import Derived.Test.YtjocbnjpjihpnaaGreatIo
import Derived.Test.YtjocbnjpjihpnaaGreatRG
import Derived.Test.YtjocbnjpjihpnaaGreatWWc
import Derived.Test.YtjocbnjpjihpnaaGreatWWa
import Derived.WalkKit
import Derived.ProofKit
import Derived.OpenShut
import Derived.ShutString
import Derived.ChangeOld
import Derived.Below
import Derived.SizedLaws
namespace Go.Proofs.YtjocbnjpjihpnaaGreat.jO
open Go.ChangeShapes Go.WideShapes Go.ChangeAt Go.RowKit Go.Proofs.YtjocbnjpjihpnaaGreatW.AD Go.Proofs.YtjocbnjpjihpnaaGreatW.AU Go.Proofs.YtjocbnjpjihpnaaGreatW.Ac Go.Proofs.YtjocbnjpjihpnaaGreatW.HU
set_option linter.unusedVariables false
theorem own:ownKnob Tryz.prog.godebug=none:=by kernel_rfl
theorem laidOut:laidOutB Tryz.prog=true:=by kernel_rfl
theorem walk (PU:Pure.bk) (x0:T (.int .i64)) (v0:Value) (x1:T ((.row 75 (.cons (.int .i64) (.cons (.int .i64) (.cons (.int .i64) (.cons (.int .i64) (.cons (.int .i64) (.int .u64))))))))) (v1:Value) (w:World) (h0 : ∃cs,v0=O9 cs/\Rd (λ_=>False) w (.int .i64) x0 cs) (f0:RG.Wf (.int .i64) x0) (h1 : ∃cs,v1=O9 cs/\Rd (λ_=>False) w ((.row 75 (.cons (.int .i64) (.cons (.int .i64) (.cons (.int .i64) (.cons (.int .i64) (.cons (.int .i64) (.int .u64)))))))) x1 cs) (f1:RG.Wf ((.row 75 (.cons (.int .i64) (.cons (.int .i64) (.cons (.int .i64) (.cons (.int .i64) (.cons (.int .i64) (.int .u64)))))))) x1) :
 Calls Tryz.prog 11 #[v0,v1] w λe w'=>e= .returned (.bool true)/\Below w.heap.size w w':=by
 obtain⟨k,h⟩:=PU x0 x1 f0 f1;refine((A.Nr).2 k (x0,x1,()) (true,()) (by show Option.map _ _=_;rw[h];rfl) (λ_=>False) w [v0,v1] (λ_ q=>q.elim) ⟨h0,h1,rfl⟩).mono ?_;rintro e w' ⟨v,he,hr,hb⟩;exact⟨by rw[he,ABR hr],hb⟩
set_option maxRecDepth 100000 in
theorem lifted (os:Os) (started:os.Started) (H:Type) (enc:TypeId × Value->H) :
 ReturnsInHanded {} Tryz.checked os 11 .any (Rows.bankLinesSpec.pre6 enc Tryz.prog Tryz.f11 Rows.bankLinesRow.domain false) (Rows.bankLinesSpec.post enc Tryz.prog Tryz.f11 false true false false):=by
 refine returnsInHanded_of_change_sized (C:=Tryz.checked) own started (by kernel_rfl) Tryz.func11
  (ChangeSpec.witness6 (enc:=enc) (C:=Tryz.checked) false ⟨#[],#[.int .i64 0, .slice none 0 0],[]⟩ 8 (by kernel_rfl) (by kernel_rfl) (by kernel_rfl) (by kernel_rfl)) ?_
 intro W base args ds gs before AF5 hW hcnd ALm _;have hval : ∀(j:Nat) t v,Tryz.f11.params[j]? =some t->args[j]? =some v->Value.okWide Tryz.prog W .any base t v:=AF5;have hW':=hW;obtain⟨p,q,ah,hV,rfl,hfz,hnd⟩:=hW;have hA:DataW.TrodAll enc Tryz.prog W 0 (λ_=>true) true Tryz.f11.params.toList args.toList ds p:=ah;rw[Tryz.params11] at hA hval;obtain⟨v0,vs0,d0,ds0,p0,q0,hargs,rfl,rfl,h0,r0⟩:=trodAll_cons hA;obtain⟨v1,vs1,d1,ds1,p1,q1,rfl,rfl,rfl,h1,r1⟩:=trodAll_cons r0;obtain⟨rfl,rfl,rfl⟩:=trodAll_nil r1;obtain rfl:args= #[v0,v1]:=by cases args;simp_all
 obtain⟨rfl,rfl⟩:=trodVars_none hV;have k0:=h0;have lt0 : ∀x∈p0,x.block<W.heap.size:=by obtain⟨m,hm⟩:=k0;exact DataW.trod_lt m _ _ _ hm
 obtain⟨x0,a0,f0⟩:=RG.qJ (n:=12) (t:= .int .i64) (by kernel_rfl) (by kernel_rfl) (hval 0 3 v0 rfl rfl) h0;have k1:=h1;have lt1 : ∀x∈p1,x.block<W.heap.size:=by obtain⟨m,hm⟩:=k1;exact DataW.trod_lt m _ _ _ hm
 obtain⟨x1,a1,f1⟩:=RG.qJ (n:=12) (t:=(.row 75 (.cons (.int .i64) (.cons (.int .i64) (.cons (.int .i64) (.cons (.int .i64) (.cons (.int .i64) (.int .u64)))))))) (by kernel_rfl) (by kernel_rfl) (hval 1 62 v1 rfl rfl) h1;clear ah AF5 ALm;refine(walk Pure.AAD x0 v0 x1 v1 W a0 f0 a1 f1).mono λe W' ⟨he,bel⟩=> ?_
 subst he;exact⟨_,rfl,_,_,_,[],_,[],hW',trodAll_mk1 (shut_bool Tryz.underlying4 _),(trodAll_cons_mk (Below.trod laidOut (by kernel_rfl) (of_decide_eq_true (by kernel_rfl)) k0 bel lt0) (trodAll_cons_mk (Below.trod laidOut (by kernel_rfl) (of_decide_eq_true (by kernel_rfl)) k1 bel lt1) trodAll_mk0)),rfl,bel.frame _,λh=>by cases h⟩
theorem closed:joinedFacts Tryz.prog 11 Tryz.f11 Rows.bankLinesSpec Rows.bankLinesRow=true :=
 Io.AAE Io.uz Io.lM (by kernel_rfl) Io.AG2 (by kernel_rfl) (by kernel_rfl) (by kernel_rfl) (by kernel_rfl) (by kernel_rfl) (by kernel_rfl) (by kernel_rfl) (by kernel_rfl) (by kernel_rfl) (by kernel_rfl) (by kernel_rfl) (by kernel_rfl) (by kernel_rfl) (by kernel_rfl) (by kernel_rfl) (by kernel_rfl) (by kernel_rfl) (by kernel_rfl) (by kernel_rfl) (by kernel_rfl) (by kernel_rfl) (by kernel_rfl) (by kernel_rfl) (by kernel_rfl) (by kernel_rfl) (by kernel_rfl) (by kernel_rfl) (by kernel_rfl) (by kernel_rfl) (by kernel_rfl)
theorem over:Rows.bankLinesRow.holds Tryz.pinned (OpenSpec.ofChange Rows.bankLinesSpec) :=
 OpenClaim.holds_of_wide 11 Tryz.f11 rfl rfl rfl rfl rfl rfl rfl ⟨rfl,rfl,rfl,rfl,rfl⟩ rfl rfl rfl rfl rfl (by kernel_rfl) Tryz.func11 closed
  (of_decide_eq_true (by kernel_rfl)) (by unfold Func.isWrapper;first | (rw[if_pos (by decide +kernel)];kernel_rfl) | (rw[if_neg (by decide +kernel)];exact⟨rfl,rfl⟩))
  (λos started H enc _=>lifted os started H enc)
theorem proved:Rows.BankLinesSaid:=over
#print axioms proved
end Go.Proofs.YtjocbnjpjihpnaaGreat.jO
namespace Go.Proofs.YtjocbnjpjihpnaaGreat
/-- The row,under a short name,for the claim. -/
theorem bankLines_holds:Rows.BankLinesSaid:=jO.proved
end Go.Proofs.YtjocbnjpjihpnaaGreat
