/- Part 4 of: FnExactEffects answers true; no condition. -/
import Derived.Test.YtkgkafjachjafaaGreatY03
set_option linter.unusedVariables false
set_option maxHeartbeats 1000000
open Go Go.RowKit
namespace Go.Proofs.YtkgkafjachjafaaGreat
open Tryz
theorem K07 {p:Prop} (h:p:=by rw[hK];clear hK;go_enter func217,ntmps217;go_wp2_with (first|(first|(go_at_call 229;refine (J1 _ _).mono ?_;rintro e w1 ⟨i,hi,rfl,rfl⟩;clear hi)|(go_at_call 228;refine (Je _ _).mono ?_;rintro e w1 ⟨rfl,rfl⟩))|(go_at_call 223;refine (Jd _ _ _).mono ?_;rw[ho];rintro e w1 ⟨rfl,rfl⟩));go_returns;exact⟨_,_,_,rfl,by first|exact ((((Kr _ _).alloc _).alloc _).alloc _)|exact (((((Kr _ _).alloc _).alloc _).alloc _).alloc _)⟩):p:=h
namespace Go
@[go_sem] theorem run_unary_neg_float (P:Program) (w:World) (k:FloatKind) (b:Nat):(Op.unary .neg (.float k b)).run P w=.ok (.float k (Op.negFloat k b)) w:=rfl
end Go
def J6 (op k i:Int):Int×Int :=
 if okZ k i then (
  if op=1∧k=1 then (1,0) else if op=1∧k=2 then (2,0) else if op=1∧k=3 then (3,0) else if op=2∧k=4 then (4,0)
  else if op=3∧k=3 then (2,0) else if op=4∧k=3 then (2,0) else if op=5∧k=1 then (2,0) else if op=6∧k=3 then (2,0) else (0,1)) else (0,1)
theorem Qel (op k i:Int) (w:World):Calls prog 217 #[.int .i64 op,.agg #[.int .i64 k,.int .i64 i,.float .f64 0,.float .f64 0]] w (Q5d (J6 op k i) w):=by
 have ha:=Qap;have hm:=Qbj;cases ho:okZ k i with
 |false =>
  have hK:J6 op k i=(0,1):=by simp[J6,ho]
  exact K07
 |true =>
 by_cases o1:op=1
 ·subst o1
  by_cases k1:k=1
  ·subst k1
   have hK:J6 1 1 i=(1,0):=by simp[J6,ho]
   exact K07
  by_cases k2:k=2
  ·subst k2
   have hK:J6 1 2 i=(2,0):=by simp[J6,ho]
   exact K07
  by_cases k3:k=3
  ·subst k3
   have hK:J6 1 3 i=(3,0):=by simp[J6,ho]
   exact K07
  have hK:J6 1 k i=(0,1):=by simp[J6,ho,k1,k2,k3]
  exact K07
 by_cases o2:op=2
 ·subst o2
  by_cases k4:k=4
  ·subst k4
   have hK:J6 2 4 i=(4,0):=by simp[J6,ho]
   exact K07
  have hK:J6 2 k i=(0,1):=by simp[J6,ho,k4]
  exact K07
 by_cases o3:op=3
 ·subst o3
  by_cases k3:k=3
  ·subst k3
   have hK:J6 3 3 i=(2,0):=by simp[J6,ho]
   exact K07
  have hK:J6 3 k i=(0,1):=by simp[J6,ho,k3]
  exact K07
 by_cases o4:op=4
 ·subst o4
  by_cases k3:k=3
  ·subst k3
   have hK:J6 4 3 i=(2,0):=by simp[J6,ho]
   exact K07
  have hK:J6 4 k i=(0,1):=by simp[J6,ho,k3]
  exact K07
 by_cases o5:op=5
 ·subst o5
  by_cases k1:k=1
  ·subst k1
   have hK:J6 5 1 i=(2,0):=by simp[J6,ho]
   exact K07
  have hK:J6 5 k i=(0,1):=by simp[J6,ho,k1]
  exact K07
 by_cases o6:op=6
 ·subst o6
  by_cases k3:k=3
  ·subst k3
   have hK:J6 6 3 i=(2,0):=by simp[J6,ho]
   exact K07
  have hK:J6 6 k i=(0,1):=by simp[J6,ho,k3]
  exact K07
 have hK:J6 op k i=(0,1):=by simp[J6,ho,o1,o2,o3,o4,o5,o6]
 exact K07
end Go.Proofs.YtkgkafjachjafaaGreat
