/- How the translation says that it was made: its words by numbers, and three facts of it. -/
import Derived.Test.YtjocbnjpjihpnaaGreatProg
import Derived.KernelRfl
import Derived.JoinedOf
namespace Go.Proofs.YtjocbnjpjihpnaaGreat.Io
/-- Words with one blank between. -/
def joined:List (List Char)->List Char
 | []=> []
 | [w]=>w
 | w::v::r=>w++Char.ofNat 32::joined (v::r)
theorem rZ (w:List Char) (hw : ∀c∈w,c≠Char.ofNat 32):wordsSigns w= [w]:=by
 induction w with
 | nil=>rfl
 | cons c w ih =>
   have hc:=hw c (by simp);have h:=ih (λd hd=>hw d (by simp[hd]));unfold wordsSigns;split
   · rename_i h1;cases h1
   · rename_i h1;injection h1 with h1 _;exact absurd h1 hc
   · rename_i h1 h2
     injection h2 with h2 h3;subst h2 h3;rw[h]
theorem rj (w r:List Char) (hw : ∀c∈w,c≠Char.ofNat 32):wordsSigns (w++Char.ofNat 32::r)=w::wordsSigns r:=by
 induction w with
 | nil=>rfl
 | cons c w ih =>
   have hc:=hw c (by simp);have h:=ih (λd hd=>hw d (by simp[hd]));rw[List.cons_append]
   conv=>lhs;unfold wordsSigns
   split
   · rename_i h1;cases h1
   · rename_i h1;injection h1 with h1 _;exact absurd h1 hc
   · rename_i h1 h2
     injection h2 with h2 h3;subst h2 h3;rw[h]
theorem U3 : ∀(l:List (List Char)),l≠ []->(∀w∈l,∀c∈w,c≠Char.ofNat 32)->wordsSigns (joined l)=l
 | [],h,_=>absurd rfl h
 | [w],_,h=>rZ w (h w (by simp))
 | w::v::r,_,h=>by
   unfold joined;rw[rj w _ (h w (by simp)),U3 (v::r) (by simp) (λx hx=>h x (by simp[hx]))]
def Lt:List (List Nat):= [[104,97,114,110,101,115,115],
 [50,51,98,97,53,52,49,53,49,99,102,53,51,102,52,51,51,57,50,102,101,102,55,52,56,52,102,97,52,100,51,102,55,97,49,101,100,52,56,51,56,97,48,97,49,52,56,56,55,57,54,55,53,97,100,51,50,51,48,53,48,97,102,98],
 [99,117,116],
 [97,116],
 [103,114,97,100,105,110,101,47,103,114,97,100,105,110,101,108,97,119,49,55,46,84,97,110,103,101,110,116,84,101,108,108,115],
 [103,114,97,100,105,110,101,47,103,114,97,100,105,110,101,108,97,119,49,55,46,84,97,110,103,101,110,116,66,97,99,107,115],
 [103,114,97,100,105,110,101,47,103,114,97,100,105,110,101,108,97,119,49,55,46,84,97,110,103,101,110,116,76,105,110,101,97,114],
 [103,114,97,100,105,110,101,47,103,114,97,100,105,110,101,108,97,119,49,54,46,69,118,97,108,115,69,120,97,99,116],
 [103,114,97,100,105,110,101,47,103,114,97,100,105,110,101,108,97,119,49,54,46,69,118,97,108,115,70,108,111,97,116],
 [103,114,97,100,105,110,101,47,103,114,97,100,105,110,101,108,97,119,49,54,46,69,118,97,108,115,84,114,105,109,115],
 [103,114,97,100,105,110,101,47,103,114,97,100,105,110,101,108,97,119,49,56,46,66,97,110,107,65,99,116,115],
 [103,114,97,100,105,110,101,47,103,114,97,100,105,110,101,108,97,119,49,56,46,66,97,110,107,85,110,100,111],
 [103,114,97,100,105,110,101,47,103,114,97,100,105,110,101,108,97,119,49,56,46,66,97,110,107,76,105,110,101,115]]
theorem order_eq:Tryz.prog.initOrder=String.ofList (joined (Lt.map λw=>w.map Char.ofNat)):=by kernel_rfl
theorem nU:wordsSigns Tryz.prog.initOrder.toList=Lt.map λw=>w.map Char.ofNat:=by
 rw[order_eq,String.toList_ofList];refine U3 _ (by unfold Lt;simp) ?_;have h:(Lt.all λw=>w.all λn=>(Char.ofNat n !=Char.ofNat 32))=true:=by kernel_rfl
 intro w hw c hc;obtain⟨v,hv,rfl⟩:=List.mem_map.1 hw;obtain⟨n,hn,rfl⟩:=List.mem_map.1 hc;have h1:=List.all_eq_true.1 (List.all_eq_true.1 h v hv) n hn;exact bne_iff_ne.1 h1
theorem AGU:isSumSigns ((Lt.getD 1 []).map Char.ofNat)=true:=by decide +kernel
theorem x1 : (((Lt.getD 0 []).map Char.ofNat) == "harness".toList) = true := by decide +kernel
theorem AAB:behindMainWord (wordsSigns Tryz.prog.initOrder.toList)=(Lt.drop 2).map λw=>w.map Char.ofNat:=by
 rw[nU];have e:(Lt.map λw=>w.map Char.ofNat)=(Lt.getD 0 []).map Char.ofNat::(Lt.getD 1 []).map Char.ofNat::(Lt.drop 2).map λw=>w.map Char.ofNat:=rfl
 rw[e];unfold behindMainWord;dsimp only;rw[x1,AGU];rfl
theorem AAC : (Lt.drop 2).map (λw => w.map Char.ofNat) = "cut".toList :: (Lt.drop 3).map λw => w.map Char.ofNat := by
 have h : ([99, 117, 116] : List Nat).map Char.ofNat = "cut".toList := by decide +kernel
 rw[<-h];rfl
theorem t1 : ("cut".toList == "gc".toList) = false := by decide +kernel
theorem t2 : ("cut".toList == "spec".toList) = false := by decide +kernel
theorem t3 : ("cut".toList == "carried".toList) = false := by decide +kernel
theorem t4 : ("cut".toList == "cut".toList) = true := beq_self_eq_true _
theorem aM : ∀(os:List String) (w:List Char) (ws:List (List Char)),(os.all λo=> !(w==o.toList))=true->stripLifts os (w::ws)=([],w::ws)
 | [],_,_,_=>rfl
 | o::os,w,ws,h=>by
   rw[List.all_cons,Bool.and_eq_true] at h;have h1:(w==o.toList)=false:=by simpa using h.1
   unfold stripLifts;rw[h1,if_neg (by decide)];exact aM os w ws h.2
theorem ACa : (liftWords.all λo => !("cut".toList == o.toList)) = true := by decide +kernel
theorem uf (r : List (List Char)) : stripLifts liftWords ("cut".toList :: r) = ([], "cut".toList :: r) := aM _ _ _ ACa
theorem AAD (r : List (List Char)) : (("cut".toList :: r).head? == some "cut".toList) = true := by
 rw[List.head?_cons];exact beq_self_eq_true _
theorem AE6 (r : List (List Char)) : (("cut".toList :: r).head? == some "carried".toList) = false := by
 rw[List.head?_cons];exact t3
section
variable (P : Program) (r : List (List Char)) (h : behindMainWord (wordsSigns P.initOrder.toList) = "cut".toList :: r)
include h
theorem ACb:P.make=some .cut:=by
 unfold Program.make;rw[h];dsimp only;rw[t1,t2,t4,if_neg (by decide),Bool.true_or,if_pos rfl]
theorem jK:P.headLifts= []:=by
 unfold Program.headLifts;rw[h,uf];dsimp only;rw[AAD,if_pos rfl]
theorem dW:P.liftsFinal=false:=by
 unfold Program.liftsFinal;rw[h,jK P r h];dsimp only;rw[AE6];rfl
theorem nV (h1:P.laysLater=false) (h2:P.bearsReflect=false) (h3:P.doorFits []=true):P.mayEnter=true:=by
 unfold Program.mayEnter;rw[h];dsimp only;rw[uf,AAD,h1,h2,h3];simp
end
theorem aN : behindMainWord (wordsSigns Tryz.prog.initOrder.toList) = "cut".toList :: (Lt.drop 3).map λw => w.map Char.ofNat := AAB.trans AAC
theorem AEV:Tryz.prog.make=some .cut:=ACb _ _ aN
theorem gx:Tryz.prog.liftsFinal=false:=dW _ _ aN
theorem ACc:Tryz.prog.laysLater=false:=by kernel_rfl
theorem wX:Tryz.prog.bearsReflect=false:=by kernel_rfl
theorem AE7:Tryz.prog.doorFits []=true:=by kernel_rfl
theorem qZ:Tryz.prog.mayEnter=true:=nV _ _ aN ACc wX AE7
theorem vY {P:Program} {f:FuncId} {fn:Func} {s:ChangeSpec} {c:OpenClaim} (e:P.mayEnter=true) (l:P.liftsFinal=false) (lc:c.lifted=false) (m:P.make=some .cut) (mc:c.make= .cut)
 (h0:(c.wf (OpenSpec.ofChange s))=true) (h1:(laidOutB P)=true) (h2:(mapsRowed P)=true) (h3:(fn.params.all (P.readableRec ·))=true) (h4:(namedTie P c.named s.vars)=true) (h5:((c.stops== []))=true) (h6:((P.stops== []))=true) (h7:((c.knobs== []))=true) (h8:((P.stopKnobs== []))=true) (h9:((c.inPlace==P.inPlace f))=true) (h10:((c.unfollowed==P.unfollowed f))=true) (h11:((c.recurses==P.recurses f))=true) (h12:((c.named==P.varsNamed f))=true) (h13:((c.maps==(fn.params.toList++s.plain.varTypes P).any (P.mapsRec ·)))=true) (h14:((c.ifaces==(fn.params.toList++s.plain.varTypes P).any (P.ifacesRec ·)))=true) (h15:((c.mapsOut==P.mapsAmong fn.resultTypes.toList))=true) (h16:((c.loops==(fn.params.toList++s.plain.varTypes P).any (P.loopsFrom ·)))=true) (h17:((c.wideKeys==(fn.params.toList++s.plain.varTypes P++fn.resultTypes.toList).any (P.wideKeysFrom ·)))=true) (h18:(s.vars.all (P.varReadable ·))=true) (h19:(fn.resultTypes.all (λt=>P.readableRec t&&decide (t<P.types.size)))=true) (h20:((c.ifacesOut==fn.resultTypes.toList.any (P.ifacesRec ·)))=true) (h21:((c.loopsOut==fn.resultTypes.toList.any (P.loopsFrom ·)))=true) (h22:((c.plainKeys==P.plainKeys))=true) (h23:(c.shortTexts.isNone)=true) (h24:(P.stopsHeard)=true) (h25:((c.kinds==(if c.domain.isEmpty then[] else fn.params.toList.map λt=>match P.underlying t with | some (.int k)=>some k | _=>none)))=true) (h26:((c.pinned==c.pinnedBy))=true) (h27:((c.veiled==(fn.params.toList++s.plain.varTypes P++fn.resultTypes.toList).any (P.veiledRec ·)))=true) (h28:(c.veiledFits P fn.params.toList (fn.params.toList++s.plain.varTypes P++fn.resultTypes.toList))=true) :
 joinedFacts P f fn s c=true:=by
 have hl:(c.lifted==P.liftsFinal)=true:=by rw[l,lc];rfl
 have hm:(P.make==some c.make)=true:=by rw[m,mc];rfl
 simp only[joinedFacts,Bool.and_eq_true]
 repeat' apply And.intro
 all_goals assumption
end Go.Proofs.YtjocbnjpjihpnaaGreat.Io
