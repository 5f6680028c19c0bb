/- For every Reg, every tree and every name FnExactEffects answers true and leaves its arguments as they were; no condition. -/
import Derived.Test.YtkgkafjachjafaaGreatRows
import Derived.ProofKit
import Derived.OpenShut
import Derived.Test.YtkgkafjachjafaaGreatY51
import Derived.Test.YtkgkafjachjafaaGreatY52
set_option linter.unusedVariables false
set_option maxRecDepth 100000
open Go Go.ChangeShapes Go.WideShapes Go.ChangeAt Go.RowKit
open Go.ChangeMaps (open_string)
namespace Go.Proofs.YtkgkafjachjafaaGreat
open Go.Proofs.Tryz
theorem Qj6:ownKnob prog.godebug=none:=Kf
theorem Q8j:laidOutB prog=true:=Kf
theorem lifted (os:Os) (started:os.Started) (H:Type) (enc:TypeId×Value→H) :
  ReturnsInHanded {} checked os 5 .any (Rows.fnExactEffectsSpec.pre6 enc prog f5 Rows.fnExactEffectsRow.domain false) (Rows.fnExactEffectsSpec.post enc prog f5 false true false false):=by
 refine returnsInHanded_of_change_sized (C:=checked) Qj6 started Kf func5
  (ChangeSpec.witness6 (enc:=enc) (C:=checked) false ⟨#[],#[.agg #[.slice none 0 0,.slice none 0 0,.slice none 0 0],.agg #[.slice none 0 0,.slice none 0 0],.string ⟨#[]⟩],[]⟩ 8 Kf Kf Kf Kf) ?_
 intro W base args ds gs before Qur hW Qz8 Qpu Qx2;have Qte:∀(j:Nat) t v,f5.params[j]?=some t→args[j]?=some v→Value.okWide prog W .any base t v:=Qur;have hW':=hW;have hsz:(DataW.weightsEach prog (f5.params.toList++Rows.fnExactEffectsSpec.plain.varTypes prog) (ds++gs)).all (·≤reachBytes)=true:=Qpu
 obtain⟨p,q,hA0,hV,rfl,hfz,hnd⟩:=hW;have hA:DataW.TrodAll enc prog W 0 (fun _=>true) true f5.params.toList args.toList ds p:=hA0;rw[params5] at hA Qte hsz;obtain⟨v0,vs0,d0,ds0,p0,q0,Qz9,rfl,rfl,h0,r0⟩:=trodAll_cons hA;obtain⟨v1,vs1,d1,ds1,p1,q1,rfl,rfl,rfl,h1,r1⟩:=trodAll_cons r0;obtain⟨v2,vs2,d2,ds2,p2,q2,rfl,rfl,rfl,h2,r2⟩:=trodAll_cons r1;obtain⟨rfl,rfl,rfl⟩:=trodAll_nil r2;obtain rfl:args=#[v0,v1,v2]:=by cases args;simp_all
 obtain⟨rfl,rfl⟩:=trodVars_none hV;have hz0:Fit 24 d0:=fun n hn=>by simpa using List.all_eq_true.1 hsz n (DataW.weights_mem_each (j:=0) rfl rfl n hn)
 have hz1:Fit 28 d1:=fun n hn=>by simpa using List.all_eq_true.1 hsz n (DataW.weights_mem_each (j:=1) rfl rfl n hn)
 obtain⟨r,hr,hN⟩:=Qki (Qte 0 _ v0 rfl rfl) h0 hz0;obtain⟨t,ht,hX⟩:=Qi5 (Qte 1 _ v1 rfl rfl) h1 hz1;have h2':=h2;obtain⟨s,rfl,hd2,hp2,hs⟩:=open_string underlying9 (Qte 2 _ v2 rfl rfl) h2
 refine (Qmx r t s v0 v1 W hr ht hN hX).mono fun e W' ⟨he,hk⟩=>?_
 subst he;have hlt:=hW'.lt
 exact⟨_,rfl,_,_,_,_,_,[],hW',trodAll_cons_mk (shut_bool underlying4 _) trodAll_mk0,
  trodAll_cons_mk (Below.trod Q8j Kf (of_decide_eq_true Kf) h0 hk.below (fun x hx=>hlt x (by simp[hx])))
   (trodAll_cons_mk (Below.trod Q8j Kf (of_decide_eq_true Kf) h1 hk.below (fun x hx=>hlt x (by simp[hx])))
    (trodAll_cons_mk (Below.trod Q8j Kf (of_decide_eq_true Kf) h2' hk.below (fun x hx=>hlt x (by simp[hx]))) trodAll_mk0)),
  rfl,hk.below.frame _,fun h=>by cases h⟩
theorem y_holds:Rows.FnExactEffectsSaid :=
 OpenClaim.holds_of_wide 5 f5 rfl rfl rfl rfl rfl rfl rfl ⟨rfl,rfl,rfl,rfl,rfl⟩ rfl rfl rfl rfl rfl Kf func5 Kf
  (of_decide_eq_true Kf) (by unfold Func.isWrapper;rw[Ng (of_decide_eq_false Kf)];exact⟨rfl,rfl⟩)
  (fun os started H enc _=>lifted os started H enc)
end Go.Proofs.YtkgkafjachjafaaGreat
