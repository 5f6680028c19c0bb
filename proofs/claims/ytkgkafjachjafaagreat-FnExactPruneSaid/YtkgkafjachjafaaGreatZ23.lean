/- Part 23 of: FnExactPrune answers true; no condition. -/
import Derived.Test.YtkgkafjachjafaaGreatZ19
set_option linter.unusedVariables false
set_option maxHeartbeats 1000000
open Go Go.RowKit
namespace Go.Proofs.YtkgkafjachjafaaGreat
open Tryz
theorem Qf1 (op ka ia kb ib:Int) (w:World):Calls prog 110 #[.int .i64 op,.agg #[.int .i64 ka,.int .i64 ia,.float .f64 0,.float .f64 0],.agg #[.int .i64 kb,.int .i64 ib,.float .f64 0,.float .f64 0]] w (Q4n (opK op ka ia kb ib) w):=by
 cases ho:okZ ka ia with
 |false =>
  have hK:opK op ka ia kb ib=(0,1):=by simp[opK,ho]
  rw[hK];go_enter func110,ntmps110;go_wp2_with (go_at_call 138;refine (Qn _ _ _).mono ?_;(first|rw[ho]|rw[ho2]);rintro e w1 ⟨rfl,rfl⟩);go_returns;exact⟨_,_,_,rfl,by first|exact ((((((Kr _ _).alloc _).alloc _).alloc _).alloc _).alloc _)|exact (((((Kr _ _).alloc _).alloc _).alloc _).alloc _)|skip⟩
 |true =>
 cases ho2:okZ kb ib with
 |false =>
  have hK:opK op ka ia kb ib=(0,1):=by simp[opK,ho2]
  rw[hK];go_enter func110,ntmps110;go_wp2_with (first|(go_at_call 138;refine (Qn _ _ _).mono ?_;(first|rw[ho]|rw[ho2]);rintro e w1 ⟨rfl,rfl⟩)|(go_at_call 138;refine (Qn _ _ _).mono ?_;(first|rw[ho2]|rw[ho]);rintro e w1 ⟨rfl,rfl⟩));go_returns;exact⟨_,_,_,rfl,by first|exact ((((((Kr _ _).alloc _).alloc _).alloc _).alloc _).alloc _)|exact (((((Kr _ _).alloc _).alloc _).alloc _).alloc _)|skip⟩
 |true =>
 cases hk:(ka==kb) with
 |false =>
  have hK:opK op ka ia kb ib=(0,1):=by simp[opK,hk]
  rw[hK];have hk0:¬ ka=kb:=by simpa using hk
  go_enter func110,ntmps110;go_wp2_with (first|(go_at_call 138;refine (Qn _ _ _).mono ?_;(first|rw[ho]|rw[ho2]);rintro e w1 ⟨rfl,rfl⟩)|(go_at_call 138;refine (Qn _ _ _).mono ?_;(first|rw[ho2]|rw[ho]);rintro e w1 ⟨rfl,rfl⟩));go_returns;exact⟨_,_,_,rfl,by first|exact ((((((Kr _ _).alloc _).alloc _).alloc _).alloc _).alloc _)|exact (((((Kr _ _).alloc _).alloc _).alloc _).alloc _)|skip⟩
 |true =>
 obtain rfl:ka=kb:=by simpa using hk
 have hK:opK op ka ia ka ib=(if ka=1 then Q82 op (ib==0) else if ka=2 then Q4f op else if ka=3 then Q4g op else Q59 op):=by simp[opK,ho,ho2]
 by_cases h1:ka=1
 ·subst h1
  have hI:=Qeu op ia ib;rw[Ps rfl] at hK;rw[hK];generalize Q82 op (ib==0)=P at hI;obtain⟨p1,p2⟩:=P;clear hK;go_enter func110,ntmps110;go_wp2_with (first|(go_at_call 138;refine (Qn _ _ _).mono ?_;(first|rw[ho]|rw[ho2]);rintro e w1 ⟨rfl,rfl⟩)|(go_at_call 140;refine (hI _).mono ?_;rintro e w1 ⟨i,x,y,he,hk1⟩;dsimp only at he;subst he;have bR:Blk w1 (w.heap.size+1+1) [.int .i64 0,.int .i64 0,.float .f64 0,.float .f64 0] 106:=Blk.kept (((Blk.new_of _ _ _ (by simp)).alloc _).alloc _) hk1 id;have r0:=bR.cell 0 _ rfl;have r1:=bR.cell 1 _ rfl;have r2:=bR.cell 2 _ rfl;have r3:=bR.cell 3 _ rfl;have q0:=bR.free 0;have q1:=bR.free 1;have q2:=bR.free 2;have q3:=bR.free 3));have b1:=bR.set 0 (.int .i64 p1);have b2:=b1.set 1 (.int .i64 i);have b3:=b2.set 2 (.float .f64 x);have b4:=b3.set 3 (.float .f64 y);have e0:=b1.cell 0 _ rfl;have e1:=b2.cell 1 _ rfl;have e2:=b3.cell 2 _ rfl;have e3:=b4.cell 3 _ rfl;refine bodyPost_ret (v:=.tuple #[.agg #[.int .i64 p1,.int .i64 i,.float .f64 x,.float .f64 y],.int .i64 p2]) (by simp[results,results110,go_sem,e0,e1,e2,e3]) rfl ⟨i,x,y,rfl,?_⟩;have hKK:=Kt ((((((Kr nob w).alloc _).alloc _).alloc _).alloc _).alloc _) hk1;exact Q0.setCell (Q0.setCell (Q0.setCell (Q0.setCell hKK (Or.inr (by simp;omega)) _) (Or.inr (by simp;omega)) _) (Or.inr (by simp;omega)) _) (Or.inr (by simp;omega)) _
 rw[Ng h1] at hK
 by_cases h2:ka=2
 ·subst h2
  have hI:=Qcj op;rw[Ps rfl] at hK;rw[hK];generalize Q4f op=P at hI;obtain⟨p1,p2⟩:=P;clear hK;go_enter func110,ntmps110;go_wp2_with (first|(go_at_call 138;refine (Qn _ _ _).mono ?_;(first|rw[ho]|rw[ho2]);rintro e w1 ⟨rfl,rfl⟩)|(go_at_call 141;refine (hI _).mono ?_;rintro e w1 ⟨i,x,y,he,hk1⟩;dsimp only at he;subst he;have bR:Blk w1 (w.heap.size+1+1) [.int .i64 0,.int .i64 0,.float .f64 0,.float .f64 0] 106:=Blk.kept (((Blk.new_of _ _ _ (by simp)).alloc _).alloc _) hk1 id;have r0:=bR.cell 0 _ rfl;have r1:=bR.cell 1 _ rfl;have r2:=bR.cell 2 _ rfl;have r3:=bR.cell 3 _ rfl;have q0:=bR.free 0;have q1:=bR.free 1;have q2:=bR.free 2;have q3:=bR.free 3));have b1:=bR.set 0 (.int .i64 p1);have b2:=b1.set 1 (.int .i64 i);have b3:=b2.set 2 (.float .f64 x);have b4:=b3.set 3 (.float .f64 y);have e0:=b1.cell 0 _ rfl;have e1:=b2.cell 1 _ rfl;have e2:=b3.cell 2 _ rfl;have e3:=b4.cell 3 _ rfl;refine bodyPost_ret (v:=.tuple #[.agg #[.int .i64 p1,.int .i64 i,.float .f64 x,.float .f64 y],.int .i64 p2]) (by simp[results,results110,go_sem,e0,e1,e2,e3]) rfl ⟨i,x,y,rfl,?_⟩;have hKK:=Kt ((((((Kr nob w).alloc _).alloc _).alloc _).alloc _).alloc _) hk1;exact Q0.setCell (Q0.setCell (Q0.setCell (Q0.setCell hKK (Or.inr (by simp;omega)) _) (Or.inr (by simp;omega)) _) (Or.inr (by simp;omega)) _) (Or.inr (by simp;omega)) _
 rw[Ng h2] at hK
 by_cases h3:ka=3
 ·subst h3
  have hI:=Qdd op 3 ia 3 ib;rw[Ps rfl] at hK;rw[hK];generalize Q4g op=P at hI;obtain⟨p1,p2⟩:=P;clear hK;go_enter func110,ntmps110;go_wp2_with (first|(go_at_call 138;refine (Qn _ _ _).mono ?_;(first|rw[ho]|rw[ho2]);rintro e w1 ⟨rfl,rfl⟩)|(go_at_call 142;refine (hI _).mono ?_;rintro e w1 ⟨i,x,y,he,hk1⟩;dsimp only at he;subst he;have bR:Blk w1 (w.heap.size+1+1) [.int .i64 0,.int .i64 0,.float .f64 0,.float .f64 0] 106:=Blk.kept (((Blk.new_of _ _ _ (by simp)).alloc _).alloc _) hk1 id;have r0:=bR.cell 0 _ rfl;have r1:=bR.cell 1 _ rfl;have r2:=bR.cell 2 _ rfl;have r3:=bR.cell 3 _ rfl;have q0:=bR.free 0;have q1:=bR.free 1;have q2:=bR.free 2;have q3:=bR.free 3));have b1:=bR.set 0 (.int .i64 p1);have b2:=b1.set 1 (.int .i64 i);have b3:=b2.set 2 (.float .f64 x);have b4:=b3.set 3 (.float .f64 y);have e0:=b1.cell 0 _ rfl;have e1:=b2.cell 1 _ rfl;have e2:=b3.cell 2 _ rfl;have e3:=b4.cell 3 _ rfl;refine bodyPost_ret (v:=.tuple #[.agg #[.int .i64 p1,.int .i64 i,.float .f64 x,.float .f64 y],.int .i64 p2]) (by simp[results,results110,go_sem,e0,e1,e2,e3]) rfl ⟨i,x,y,rfl,?_⟩;have hKK:=Kt ((((((Kr nob w).alloc _).alloc _).alloc _).alloc _).alloc _) hk1;exact Q0.setCell (Q0.setCell (Q0.setCell (Q0.setCell hKK (Or.inr (by simp;omega)) _) (Or.inr (by simp;omega)) _) (Or.inr (by simp;omega)) _) (Or.inr (by simp;omega)) _
 rw[Ng h3] at hK;rw[hK];have h1':(ka==1)=false:=by simpa using h1
 have h2':(ka==2)=false:=by simpa using h2
 have h3':(ka==3)=false:=by simpa using h3
 by_cases h7:op=7
 ·subst h7
  go_enter func110,ntmps110;go_wp2_with (first|(go_at_call 138;refine (Qn _ _ _).mono ?_;(first|rw[ho]|rw[ho2]);rintro e w1 ⟨rfl,rfl⟩)|(go_at_call 139;refine (Ql _ _).mono ?_;rintro e w1 ⟨i,rfl,rfl⟩));go_returns;exact⟨_,_,_,rfl,(by apply_rules[Ka,Kd,Kn,Kr])⟩
 by_cases h8:op=8
 ·subst h8
  cases hx:(ia==1) with
  |true =>
   go_enter func110,ntmps110;go_wp2_with (first|(go_at_call 138;refine (Qn _ _ _).mono ?_;(first|rw[ho]|rw[ho2]);rintro e w1 ⟨rfl,rfl⟩)|(go_at_call 139;refine (Ql _ _).mono ?_;rintro e w1 ⟨i,rfl,rfl⟩));go_returns;exact⟨_,_,_,rfl,(by apply_rules[Ka,Kd,Kn,Kr])⟩
  |false =>
   go_enter func110,ntmps110;go_wp2_with (first|(go_at_call 138;refine (Qn _ _ _).mono ?_;(first|rw[ho]|rw[ho2]);rintro e w1 ⟨rfl,rfl⟩)|(go_at_call 139;refine (Ql _ _).mono ?_;rintro e w1 ⟨i,rfl,rfl⟩));go_returns;exact⟨_,_,_,rfl,(by apply_rules[Ka,Kd,Kn,Kr])⟩
 by_cases h9:op=9
 ·subst h9
  cases hx:(ia==1) with
  |true =>
   go_enter func110,ntmps110;go_wp2_with (first|(go_at_call 138;refine (Qn _ _ _).mono ?_;(first|rw[ho]|rw[ho2]);rintro e w1 ⟨rfl,rfl⟩)|(go_at_call 139;refine (Ql _ _).mono ?_;rintro e w1 ⟨i,rfl,rfl⟩));go_returns;exact⟨_,_,_,rfl,(by apply_rules[Ka,Kd,Kn,Kr])⟩
  |false =>
   go_enter func110,ntmps110;go_wp2_with (first|(go_at_call 138;refine (Qn _ _ _).mono ?_;(first|rw[ho]|rw[ho2]);rintro e w1 ⟨rfl,rfl⟩)|(go_at_call 139;refine (Ql _ _).mono ?_;rintro e w1 ⟨i,rfl,rfl⟩));go_returns;exact⟨_,_,_,rfl,(by apply_rules[Ka,Kd,Kn,Kr])⟩
 have hK2:Q59 op=(0,1):=by simp[Q59,h7,h8,h9]
 rw[hK2];go_enter func110,ntmps110;go_wp2_with (first|(go_at_call 138;refine (Qn _ _ _).mono ?_;(first|rw[ho]|rw[ho2]);rintro e w1 ⟨rfl,rfl⟩)|(go_at_call 139;refine (Ql _ _).mono ?_;rintro e w1 ⟨i,rfl,rfl⟩));go_returns;exact⟨_,_,_,rfl,(by apply_rules[Ka,Kd,Kn,Kr])⟩
end Go.Proofs.YtkgkafjachjafaaGreat
