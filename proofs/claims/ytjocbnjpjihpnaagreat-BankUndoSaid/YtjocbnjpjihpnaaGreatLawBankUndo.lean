/- The row of a law: written by a program of this session. -/
import Derived.Test.YtjocbnjpjihpnaaGreatFbase
import Derived.Test.YtjocbnjpjihpnaaGreatRows
import Derived.Test.YtjocbnjpjihpnaaGreatAgradinelaw18BankUndo
import Derived.Test.YtjocbnjpjihpnaaGreatPureBankUndo
import Derived.Test.YtjocbnjpjihpnaaGreatIo
import Derived.Test.YtjocbnjpjihpnaaGreatRG
import Derived.Test.YtjocbnjpjihpnaaGreatWWc
import Derived.Test.YtjocbnjpjihpnaaGreatWWa
import Derived.WalkKit
import Derived.ProofKit
import Derived.OpenShut
import Derived.ShutString
import Derived.ChangeOld
import Derived.Below
import Derived.SizedLaws
namespace Go.Proofs.YtjocbnjpjihpnaaGreat.mC
open Go.ChangeShapes Go.WideShapes Go.ChangeAt Go.RowKit Go.Proofs.YtjocbnjpjihpnaaGreatW.AD Go.Proofs.YtjocbnjpjihpnaaGreatW.AR Go.Proofs.YtjocbnjpjihpnaaGreatW.AY Go.Proofs.YtjocbnjpjihpnaaGreatW.Gb
set_option linter.unusedVariables false
theorem own:ownKnob Tryz.prog.godebug=none:=by kernel_rfl
theorem laidOut:laidOutB Tryz.prog=true:=by kernel_rfl
theorem walk (PU:Pure.eR) (x0:T (.int .i64)) (v0:Value) (x1:T ((.row 75 (.cons (.int .i64) (.cons (.int .i64) (.cons (.int .i64) (.cons (.int .i64) (.cons (.int .i64) (.int .u64))))))))) (v1:Value) (x2:T ((.row 75 (.cons (.int .i64) (.cons (.int .i64) (.cons (.int .i64) (.cons (.int .i64) (.cons (.int .i64) (.int .u64))))))))) (v2:Value) (w:World) (h0 : ∃cs,v0=Ny cs/\Rd (λ_=>False) w (.int .i64) x0 cs) (f0:RG.Wf (.int .i64) x0) (h1 : ∃cs,v1=Ny cs/\Rd (λ_=>False) w ((.row 75 (.cons (.int .i64) (.cons (.int .i64) (.cons (.int .i64) (.cons (.int .i64) (.cons (.int .i64) (.int .u64)))))))) x1 cs) (f1:RG.Wf ((.row 75 (.cons (.int .i64) (.cons (.int .i64) (.cons (.int .i64) (.cons (.int .i64) (.cons (.int .i64) (.int .u64)))))))) x1) (h2 : ∃cs,v2=Ny cs/\Rd (λ_=>False) w ((.row 75 (.cons (.int .i64) (.cons (.int .i64) (.cons (.int .i64) (.cons (.int .i64) (.cons (.int .i64) (.int .u64)))))))) x2 cs) (f2:RG.Wf ((.row 75 (.cons (.int .i64) (.cons (.int .i64) (.cons (.int .i64) (.cons (.int .i64) (.cons (.int .i64) (.int .u64)))))))) x2) :
 Calls Tryz.prog 10 #[v0,v1,v2] w λe w'=>e= .returned (.bool true)/\Below w.heap.size w w':=by
 obtain⟨k,h⟩:=PU x0 x1 x2 f0 f1 f2;refine((A.NH).2 k (x0,x1,x2,()) (true,()) (by show Option.map _ _=_;rw[h];rfl) (λ_=>False) w [v0,v1,v2] (λ_ q=>q.elim) ⟨h0,h1,h2,rfl⟩).mono ?_;rintro e w' ⟨v,he,hr,hb⟩;exact⟨by rw[he,yL hr],hb⟩
set_option maxRecDepth 100000 in
theorem lifted (os:Os) (started:os.Started) (H:Type) (enc:TypeId × Value->H) :
 ReturnsInHanded {} Tryz.checked os 10 .any (Rows.bankUndoSpec.pre6 enc Tryz.prog Tryz.f10 Rows.bankUndoRow.domain false) (Rows.bankUndoSpec.post enc Tryz.prog Tryz.f10 false true false false):=by
 refine returnsInHanded_of_change_sized (C:=Tryz.checked) own started (by kernel_rfl) Tryz.func10
  (ChangeSpec.witness6 (enc:=enc) (C:=Tryz.checked) false ⟨#[],#[.int .i64 0, .slice none 0 0, .slice none 0 0],[]⟩ 8 (by kernel_rfl) (by kernel_rfl) (by kernel_rfl) (by kernel_rfl)) ?_
 intro W base args ds gs before ADZ hW hcnd AJE _;have hval : ∀(j:Nat) t v,Tryz.f10.params[j]? =some t->args[j]? =some v->Value.okWide Tryz.prog W .any base t v:=ADZ;have hW':=hW;obtain⟨p,q,Y2,hV,rfl,hfz,hnd⟩:=hW;have hA:DataW.TrodAll enc Tryz.prog W 0 (λ_=>true) true Tryz.f10.params.toList args.toList ds p:=Y2;rw[Tryz.params10] at hA hval;obtain⟨v0,vs0,d0,ds0,p0,q0,hargs,rfl,rfl,h0,r0⟩:=trodAll_cons hA;obtain⟨v1,vs1,d1,ds1,p1,q1,rfl,rfl,rfl,h1,r1⟩:=trodAll_cons r0;obtain⟨v2,vs2,d2,ds2,p2,q2,rfl,rfl,rfl,h2,r2⟩:=trodAll_cons r1;obtain⟨rfl,rfl,rfl⟩:=trodAll_nil r2;obtain rfl:args= #[v0,v1,v2]:=by cases args;simp_all
 obtain⟨rfl,rfl⟩:=trodVars_none hV;have k0:=h0;have lt0 : ∀x∈p0,x.block<W.heap.size:=by obtain⟨m,hm⟩:=k0;exact DataW.trod_lt m _ _ _ hm
 obtain⟨x0,a0,f0⟩:=RG.ZR (n:=12) (t:= .int .i64) (by kernel_rfl) (by kernel_rfl) (hval 0 3 v0 rfl rfl) h0;have k1:=h1;have lt1 : ∀x∈p1,x.block<W.heap.size:=by obtain⟨m,hm⟩:=k1;exact DataW.trod_lt m _ _ _ hm
 obtain⟨x1,a1,f1⟩:=RG.ZR (n:=12) (t:=(.row 75 (.cons (.int .i64) (.cons (.int .i64) (.cons (.int .i64) (.cons (.int .i64) (.cons (.int .i64) (.int .u64)))))))) (by kernel_rfl) (by kernel_rfl) (hval 1 62 v1 rfl rfl) h1;have k2:=h2;have lt2 : ∀x∈p2,x.block<W.heap.size:=by obtain⟨m,hm⟩:=k2;exact DataW.trod_lt m _ _ _ hm
 obtain⟨x2,a2,f2⟩:=RG.ZR (n:=12) (t:=(.row 75 (.cons (.int .i64) (.cons (.int .i64) (.cons (.int .i64) (.cons (.int .i64) (.cons (.int .i64) (.int .u64)))))))) (by kernel_rfl) (by kernel_rfl) (hval 2 62 v2 rfl rfl) h2;clear Y2 ADZ AJE;refine(walk Pure.yM x0 v0 x1 v1 x2 v2 W a0 f0 a1 f1 a2 f2).mono λe W' ⟨he,bel⟩=> ?_
 subst he;exact⟨_,rfl,_,_,_,[],_,[],hW',trodAll_mk1 (shut_bool Tryz.underlying4 _),(trodAll_cons_mk (Below.trod laidOut (by kernel_rfl) (of_decide_eq_true (by kernel_rfl)) k0 bel lt0) (trodAll_cons_mk (Below.trod laidOut (by kernel_rfl) (of_decide_eq_true (by kernel_rfl)) k1 bel lt1) (trodAll_cons_mk (Below.trod laidOut (by kernel_rfl) (of_decide_eq_true (by kernel_rfl)) k2 bel lt2) trodAll_mk0))),rfl,bel.frame _,λh=>by cases h⟩
theorem closed:joinedFacts Tryz.prog 10 Tryz.f10 Rows.bankUndoSpec Rows.bankUndoRow=true :=
 Io.vY Io.qZ Io.gx (by kernel_rfl) Io.AEV (by kernel_rfl) (by kernel_rfl) (by kernel_rfl) (by kernel_rfl) (by kernel_rfl) (by kernel_rfl) (by kernel_rfl) (by kernel_rfl) (by kernel_rfl) (by kernel_rfl) (by kernel_rfl) (by kernel_rfl) (by kernel_rfl) (by kernel_rfl) (by kernel_rfl) (by kernel_rfl) (by kernel_rfl) (by kernel_rfl) (by kernel_rfl) (by kernel_rfl) (by kernel_rfl) (by kernel_rfl) (by kernel_rfl) (by kernel_rfl) (by kernel_rfl) (by kernel_rfl) (by kernel_rfl) (by kernel_rfl) (by kernel_rfl) (by kernel_rfl)
theorem over:Rows.bankUndoRow.holds Tryz.pinned (OpenSpec.ofChange Rows.bankUndoSpec) :=
 OpenClaim.holds_of_wide 10 Tryz.f10 rfl rfl rfl rfl rfl rfl rfl ⟨rfl,rfl,rfl,rfl,rfl⟩ rfl rfl rfl rfl rfl (by kernel_rfl) Tryz.func10 closed
  (of_decide_eq_true (by kernel_rfl)) (by unfold Func.isWrapper;first | (rw[if_pos (by decide +kernel)];kernel_rfl) | (rw[if_neg (by decide +kernel)];exact⟨rfl,rfl⟩))
  (λos started H enc _=>lifted os started H enc)
theorem proved:Rows.BankUndoSaid:=over
#print axioms proved
end Go.Proofs.YtjocbnjpjihpnaaGreat.mC
namespace Go.Proofs.YtjocbnjpjihpnaaGreat
/-- The row,under a short name,for the claim. -/
theorem bankUndo_holds:Rows.BankUndoSaid:=mC.proved
end Go.Proofs.YtjocbnjpjihpnaaGreat
