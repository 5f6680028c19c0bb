/- For every Reg, every tree and every name FnExactPrune answers true and leaves its arguments as they were; no condition. -/
import Derived.Test.YtkgkafjachjafaaGreatRows
import Derived.ProofKit
import Derived.OpenShut
import Derived.Test.YtkgkafjachjafaaGreatZ51
import Derived.Test.YtkgkafjachjafaaGreatZ52
set_option linter.unusedVariables false
set_option maxRecDepth 100000
open Go Go.ChangeShapes Go.WideShapes Go.ChangeAt Go.RowKit
open Go.ChangeMaps (open_string)
namespace Go.Proofs.YtkgkafjachjafaaGreat
open Go.Proofs.Tryz
theorem Qih:ownKnob prog.godebug=none:=by kernel_rfl
theorem Q9d:laidOutB prog=true:=by kernel_rfl
theorem lifted (os:Os) (started:os.Started) (H:Type) (enc:TypeId×Value→H) :
  ReturnsInHanded {} checked os 3 .any (Rows.fnExactPruneSpec.pre6 enc prog f3 Rows.fnExactPruneRow.domain false) (Rows.fnExactPruneSpec.post enc prog f3 false true false false):=by
 refine returnsInHanded_of_change_sized (C:=checked) Qih started (by kernel_rfl) func3
  (ChangeSpec.witness6 (enc:=enc) (C:=checked) false ⟨#[],#[.agg #[.slice none 0 0,.slice none 0 0,.slice none 0 0],.agg #[.slice none 0 0,.slice none 0 0],.string ⟨#[]⟩],[]⟩ 8 (by kernel_rfl) (by kernel_rfl) (by kernel_rfl) (by kernel_rfl)) ?_
 intro W base args ds gs before Qtw hW Qyt Qor Qwf;have Qsg:∀(j:Nat) t v,f3.params[j]?=some t→args[j]?=some v→Value.okWide prog W .any base t v:=Qtw;have hW':=hW;have hsz:(DataW.weightsEach prog (f3.params.toList++Rows.fnExactPruneSpec.plain.varTypes prog) (ds++gs)).all (·≤reachBytes)=true:=Qor
 obtain⟨p,q,hA0,hV,rfl,hfz,hnd⟩:=hW;have hA:DataW.TrodAll enc prog W 0 (fun _=>true) true f3.params.toList args.toList ds p:=hA0;rw[params3] at hA Qsg hsz;obtain⟨v0,vs0,d0,ds0,p0,q0,Qyu,rfl,rfl,h0,r0⟩:=trodAll_cons hA;obtain⟨v1,vs1,d1,ds1,p1,q1,rfl,rfl,rfl,h1,r1⟩:=trodAll_cons r0;obtain⟨v2,vs2,d2,ds2,p2,q2,rfl,rfl,rfl,h2,r2⟩:=trodAll_cons r1;obtain⟨rfl,rfl,rfl⟩:=trodAll_nil r2;obtain rfl:args=#[v0,v1,v2]:=by cases args;simp_all
 obtain⟨rfl,rfl⟩:=trodVars_none hV;have hz0:Fit 24 d0:=fun n hn=>by simpa using List.all_eq_true.1 hsz n (DataW.weights_mem_each (j:=0) rfl rfl n hn)
 have hz1:Fit 28 d1:=fun n hn=>by simpa using List.all_eq_true.1 hsz n (DataW.weights_mem_each (j:=1) rfl rfl n hn)
 obtain⟨r,hr,hN⟩:=Qin (Qsg 0 _ v0 rfl rfl) h0 hz0;obtain⟨t,ht,hX⟩:=Qi0 (Qsg 1 _ v1 rfl rfl) h1 hz1;have h2':=h2;obtain⟨s,rfl,hd2,hp2,hs⟩:=open_string underlying9 (Qsg 2 _ v2 rfl rfl) h2
 refine (Qlu r t s v0 v1 W hr ht hN hX).mono fun e W' ⟨he,hk⟩=>?_
 subst he;have hlt:=hW'.lt
 exact⟨_,rfl,_,_,_,_,_,[],hW',trodAll_cons_mk (shut_bool underlying4 _) trodAll_mk0,
  trodAll_cons_mk (Below.trod Q9d (by kernel_rfl) (of_decide_eq_true (by kernel_rfl)) h0 hk.below (fun x hx=>hlt x (by simp[hx])))
   (trodAll_cons_mk (Below.trod Q9d (by kernel_rfl) (of_decide_eq_true (by kernel_rfl)) h1 hk.below (fun x hx=>hlt x (by simp[hx])))
    (trodAll_cons_mk (Below.trod Q9d (by kernel_rfl) (of_decide_eq_true (by kernel_rfl)) h2' hk.below (fun x hx=>hlt x (by simp[hx]))) trodAll_mk0)),
  rfl,hk.below.frame _,fun h=>by cases h⟩
theorem x_holds:Rows.FnExactPruneSaid :=
 OpenClaim.holds_of_wide 3 f3 rfl rfl rfl rfl rfl rfl rfl ⟨rfl,rfl,rfl,rfl,rfl⟩ rfl rfl rfl rfl rfl (by kernel_rfl) func3 (by kernel_rfl)
  (of_decide_eq_true (by kernel_rfl)) (by unfold Func.isWrapper;rw[Ng (of_decide_eq_false (by kernel_rfl))];exact⟨rfl,rfl⟩)
  (fun os started H enc _=>lifted os started H enc)
end Go.Proofs.YtkgkafjachjafaaGreat
