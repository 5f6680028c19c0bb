/- Part 19 of: FnExactPrune answers true; no condition. -/
import Derived.Test.YtkgkafjachjafaaGreatZ04
import Derived.Test.YtkgkafjachjafaaGreatZ11
set_option linter.unusedVariables false
set_option maxHeartbeats 1000000
set_option maxRecDepth 100000
open Go Go.RowKit
namespace Go.Proofs.YtkgkafjachjafaaGreat
open Tryz
theorem Qn (k i:Int) (w:World):Calls prog 138 #[.agg #[.int .i64 k,.int .i64 i,.float .f64 0,.float .f64 0]] w fun e w'=>e=.returned (.bool (okZ k i))∧w.alloc (.cells #[.int .i64 k,.int .i64 i,.float .f64 0,.float .f64 0] 106 (0,0))=w':=by
 have hk0:Q0 nob w (w.alloc (.cells #[.int .i64 k,.int .i64 i,.float .f64 0,.float .f64 0] 106)):=(Kr _ _).alloc _;have hbl:=Blk.new w [.int .i64 k,.int .i64 i,.float .f64 0,.float .f64 0] 106;generalize hW0:w.alloc (.cells #[.int .i64 k,.int .i64 i,.float .f64 0,.float .f64 0] 106)=W0 at hk0;have c0:W0.cell? ⟨w.heap.size,0,none⟩=some (.int .i64 k):=hW0▸hbl.cell 0 _ rfl;have c1:W0.cell? ⟨w.heap.size,1,none⟩=some (.int .i64 i):=hW0▸hbl.cell 1 _ rfl;have c2:W0.cell? ⟨w.heap.size,2,none⟩=some (.float .f64 0):=hW0▸hbl.cell 2 _ rfl;have c3:W0.cell? ⟨w.heap.size,3,none⟩=some (.float .f64 0):=hW0▸hbl.cell 3 _ rfl;clear hbl
 by_cases h1:k=1
 ·subst h1
  go_enter func138,ntmps138;go_wp2_with (go_at_call 182;refine (Q02 _).mono ?_;rintro e w1 ⟨rfl,rfl⟩);go_ret;exact⟨Q6 (by simp[okZ]),by first|exact hW0|rfl|rw[← hW0,hi0]⟩
 by_cases h2:k=2
 ·subst h2
  cases hi:(i==0) with
  |true =>
   have hi0:i=0:=by simpa using hi
   go_enter func138,ntmps138;go_wp2_with (go_at_call 182;refine (Q02 _).mono ?_;rintro e w1 ⟨rfl,rfl⟩);go_ret;exact⟨Q6 (by simp[okZ,hi]),by first|exact hW0|rfl|rw[← hW0,hi0]⟩
  |false =>
   have hi0:¬ i=0:=by simpa using hi
   go_enter func138,ntmps138;go_wp2_with (go_at_call 182;refine (Q02 _).mono ?_;rintro e w1 ⟨rfl,rfl⟩);go_ret;exact⟨Q6 (by simp[okZ,hi]),by first|exact hW0|rfl|rw[← hW0,hi0]⟩
 by_cases h3:k=3
 ·subst h3
  cases hi:(i==0) with
  |true =>
   have hi0:i=0:=by simpa using hi
   go_enter func138,ntmps138;go_wp2_with (go_at_call 182;refine (Q02 _).mono ?_;rintro e w1 ⟨rfl,rfl⟩);go_ret;exact⟨Q6 (by simp[okZ,hi]),by first|exact hW0|rfl|rw[← hW0,hi0]⟩
  |false =>
   have hi0:¬ i=0:=by simpa using hi
   go_enter func138,ntmps138;go_wp2_with (go_at_call 182;refine (Q02 _).mono ?_;rintro e w1 ⟨rfl,rfl⟩);go_ret;exact⟨Q6 (by simp[okZ,hi]),by first|exact hW0|rfl|rw[← hW0,hi0]⟩
 by_cases h4:k=4
 ·subst h4
  by_cases h00:i=0
  ·subst h00
   go_enter func138,ntmps138;go_wp2_with (go_at_call 182;refine (Q02 _).mono ?_;rintro e w1 ⟨rfl,rfl⟩);go_ret;exact⟨Q6 (by decide),by first|exact hW0|rfl⟩
  have h00':(i==0)=false:=by simpa using h00
  by_cases h01:i=1
  ·subst h01
   go_enter func138,ntmps138;go_wp2_with (go_at_call 182;refine (Q02 _).mono ?_;rintro e w1 ⟨rfl,rfl⟩);go_ret;exact⟨Q6 (by decide),by first|exact hW0|rfl⟩
  have h01':(i==1)=false:=by simpa using h01
  have hf:okZ 4 i=false:=by simp[okZ,Q9];omega
  rw[hf];go_enter func138,ntmps138;go_wp2_with (go_at_call 182;refine (Q02 _).mono ?_;rintro e w1 ⟨rfl,rfl⟩);go_ret;exact⟨rfl,by first|exact hW0|rfl⟩
 have hf:okZ k i=false:=by simp[okZ,h1,h2,h3,h4]
 rw[hf];go_enter func138,ntmps138;go_wp2_with (go_at_call 182;refine (Q02 _).mono ?_;rintro e w1 ⟨rfl,rfl⟩);go_ret;exact⟨rfl,by first|exact hW0|rfl⟩
theorem Q4d (k:Int) (w:World):Calls prog 233 #[.int .i64 k] w fun e w'=>e=.returned (Q30 k).v∧Q0 nob w w':=by
 cases hk:Q9 k 1 4 with
 |true =>
  go_enter func233,ntmps233;go_wp2_with (go_at_call 105;refine (Zh _ _ _ _).mono ?_;rw[hk];rintro e w1 ⟨rfl,rfl⟩);go_returns;refine⟨?_,(by apply_rules[Ka,Kd,Kn,Kr])⟩;simp[Q30,hk,Val.v]
 |false =>
  go_enter func233,ntmps233;go_wp2_with (go_at_call 105;refine (Zh _ _ _ _).mono ?_;rw[hk];rintro e w1 ⟨rfl,rfl⟩);go_returns;refine⟨?_,(by apply_rules[Ka,Kd,Kn,Kr])⟩;simp[Q30,hk,Val.v,Qjs]
theorem Qc2 (op k i:Int) (w:World):Calls prog 109 #[.int .i64 op,.agg #[.int .i64 k,.int .i64 i,.float .f64 0,.float .f64 0]] w (Q4n (J6 op k i) w):=by
 have ha:=Qa3;have hm:=Qar;cases ho:okZ k i with
 |false =>
  have hK:J6 op k i=(0,1):=by simp[J6,ho]
  rw[hK];clear hK;go_enter func109,ntmps109;go_wp2_with (first|(go_at_call 139;refine (Ql _ _).mono ?_;rintro e w1 ⟨i,rfl,rfl⟩)|(go_at_call 138;refine (Qn _ _ _).mono ?_;rw[ho];rintro e w1 ⟨rfl,rfl⟩));go_returns;exact⟨_,_,_,rfl,(by apply_rules[Ka,Kd,Kn,Kr])⟩
 |true =>
 by_cases o1:op=1
 ·subst o1
  by_cases k1:k=1
  ·subst k1
   have hK:J6 1 1 i=(1,0):=by simp[J6,ho]
   rw[hK];clear hK;go_enter func109,ntmps109;go_wp2_with (first|(go_at_call 139;refine (Ql _ _).mono ?_;rintro e w1 ⟨i,rfl,rfl⟩)|(go_at_call 138;refine (Qn _ _ _).mono ?_;rw[ho];rintro e w1 ⟨rfl,rfl⟩));go_returns;exact⟨_,_,_,rfl,(by apply_rules[Ka,Kd,Kn,Kr])⟩
  by_cases k2:k=2
  ·subst k2
   have hK:J6 1 2 i=(2,0):=by simp[J6,ho]
   rw[hK];clear hK;go_enter func109,ntmps109;go_wp2_with (first|(go_at_call 139;refine (Ql _ _).mono ?_;rintro e w1 ⟨i,rfl,rfl⟩)|(go_at_call 138;refine (Qn _ _ _).mono ?_;rw[ho];rintro e w1 ⟨rfl,rfl⟩));go_returns;exact⟨_,_,_,rfl,(by apply_rules[Ka,Kd,Kn,Kr])⟩
  by_cases k3:k=3
  ·subst k3
   have hK:J6 1 3 i=(3,0):=by simp[J6,ho]
   rw[hK];clear hK;go_enter func109,ntmps109;go_wp2_with (first|(go_at_call 139;refine (Ql _ _).mono ?_;rintro e w1 ⟨i,rfl,rfl⟩)|(go_at_call 138;refine (Qn _ _ _).mono ?_;rw[ho];rintro e w1 ⟨rfl,rfl⟩));go_returns;exact⟨_,_,_,rfl,(by apply_rules[Ka,Kd,Kn,Kr])⟩
  have hK:J6 1 k i=(0,1):=by simp[J6,ho,k1,k2,k3]
  rw[hK];clear hK;go_enter func109,ntmps109;go_wp2_with (first|(go_at_call 139;refine (Ql _ _).mono ?_;rintro e w1 ⟨i,rfl,rfl⟩)|(go_at_call 138;refine (Qn _ _ _).mono ?_;rw[ho];rintro e w1 ⟨rfl,rfl⟩));go_returns;exact⟨_,_,_,rfl,(by apply_rules[Ka,Kd,Kn,Kr])⟩
 by_cases o2:op=2
 ·subst o2
  by_cases k4:k=4
  ·subst k4
   have hK:J6 2 4 i=(4,0):=by simp[J6,ho]
   rw[hK];clear hK;go_enter func109,ntmps109;go_wp2_with (first|(go_at_call 139;refine (Ql _ _).mono ?_;rintro e w1 ⟨i,rfl,rfl⟩)|(go_at_call 138;refine (Qn _ _ _).mono ?_;rw[ho];rintro e w1 ⟨rfl,rfl⟩));go_returns;exact⟨_,_,_,rfl,(by apply_rules[Ka,Kd,Kn,Kr])⟩
  have hK:J6 2 k i=(0,1):=by simp[J6,ho,k4]
  rw[hK];clear hK;go_enter func109,ntmps109;go_wp2_with (first|(go_at_call 139;refine (Ql _ _).mono ?_;rintro e w1 ⟨i,rfl,rfl⟩)|(go_at_call 138;refine (Qn _ _ _).mono ?_;rw[ho];rintro e w1 ⟨rfl,rfl⟩));go_returns;exact⟨_,_,_,rfl,(by apply_rules[Ka,Kd,Kn,Kr])⟩
 by_cases o3:op=3
 ·subst o3
  by_cases k3:k=3
  ·subst k3
   have hK:J6 3 3 i=(2,0):=by simp[J6,ho]
   rw[hK];clear hK;go_enter func109,ntmps109;go_wp2_with (first|(go_at_call 139;refine (Ql _ _).mono ?_;rintro e w1 ⟨i,rfl,rfl⟩)|(go_at_call 138;refine (Qn _ _ _).mono ?_;rw[ho];rintro e w1 ⟨rfl,rfl⟩));go_returns;exact⟨_,_,_,rfl,(by apply_rules[Ka,Kd,Kn,Kr])⟩
  have hK:J6 3 k i=(0,1):=by simp[J6,ho,k3]
  rw[hK];clear hK;go_enter func109,ntmps109;go_wp2_with (first|(go_at_call 139;refine (Ql _ _).mono ?_;rintro e w1 ⟨i,rfl,rfl⟩)|(go_at_call 138;refine (Qn _ _ _).mono ?_;rw[ho];rintro e w1 ⟨rfl,rfl⟩));go_returns;exact⟨_,_,_,rfl,(by apply_rules[Ka,Kd,Kn,Kr])⟩
 by_cases o4:op=4
 ·subst o4
  by_cases k3:k=3
  ·subst k3
   have hK:J6 4 3 i=(2,0):=by simp[J6,ho]
   rw[hK];clear hK;go_enter func109,ntmps109;go_wp2_with (first|(go_at_call 139;refine (Ql _ _).mono ?_;rintro e w1 ⟨i,rfl,rfl⟩)|(go_at_call 138;refine (Qn _ _ _).mono ?_;rw[ho];rintro e w1 ⟨rfl,rfl⟩));go_returns;exact⟨_,_,_,rfl,(by apply_rules[Ka,Kd,Kn,Kr])⟩
  have hK:J6 4 k i=(0,1):=by simp[J6,ho,k3]
  rw[hK];clear hK;go_enter func109,ntmps109;go_wp2_with (first|(go_at_call 139;refine (Ql _ _).mono ?_;rintro e w1 ⟨i,rfl,rfl⟩)|(go_at_call 138;refine (Qn _ _ _).mono ?_;rw[ho];rintro e w1 ⟨rfl,rfl⟩));go_returns;exact⟨_,_,_,rfl,(by apply_rules[Ka,Kd,Kn,Kr])⟩
 by_cases o5:op=5
 ·subst o5
  by_cases k1:k=1
  ·subst k1
   have hK:J6 5 1 i=(2,0):=by simp[J6,ho]
   rw[hK];clear hK;go_enter func109,ntmps109;go_wp2_with (first|(go_at_call 139;refine (Ql _ _).mono ?_;rintro e w1 ⟨i,rfl,rfl⟩)|(go_at_call 138;refine (Qn _ _ _).mono ?_;rw[ho];rintro e w1 ⟨rfl,rfl⟩));go_returns;exact⟨_,_,_,rfl,(by apply_rules[Ka,Kd,Kn,Kr])⟩
  have hK:J6 5 k i=(0,1):=by simp[J6,ho,k1]
  rw[hK];clear hK;go_enter func109,ntmps109;go_wp2_with (first|(go_at_call 139;refine (Ql _ _).mono ?_;rintro e w1 ⟨i,rfl,rfl⟩)|(go_at_call 138;refine (Qn _ _ _).mono ?_;rw[ho];rintro e w1 ⟨rfl,rfl⟩));go_returns;exact⟨_,_,_,rfl,(by apply_rules[Ka,Kd,Kn,Kr])⟩
 by_cases o6:op=6
 ·subst o6
  by_cases k3:k=3
  ·subst k3
   have hK:J6 6 3 i=(2,0):=by simp[J6,ho]
   rw[hK];clear hK;go_enter func109,ntmps109;go_wp2_with (first|(go_at_call 139;refine (Ql _ _).mono ?_;rintro e w1 ⟨i,rfl,rfl⟩)|(go_at_call 138;refine (Qn _ _ _).mono ?_;rw[ho];rintro e w1 ⟨rfl,rfl⟩));go_returns;exact⟨_,_,_,rfl,(by apply_rules[Ka,Kd,Kn,Kr])⟩
  have hK:J6 6 k i=(0,1):=by simp[J6,ho,k3]
  rw[hK];clear hK;go_enter func109,ntmps109;go_wp2_with (first|(go_at_call 139;refine (Ql _ _).mono ?_;rintro e w1 ⟨i,rfl,rfl⟩)|(go_at_call 138;refine (Qn _ _ _).mono ?_;rw[ho];rintro e w1 ⟨rfl,rfl⟩));go_returns;exact⟨_,_,_,rfl,(by apply_rules[Ka,Kd,Kn,Kr])⟩
 have hK:J6 op k i=(0,1):=by simp[J6,ho,o1,o2,o3,o4,o5,o6]
 rw[hK];clear hK;go_enter func109,ntmps109;go_wp2_with (first|(go_at_call 139;refine (Ql _ _).mono ?_;rintro e w1 ⟨i,rfl,rfl⟩)|(go_at_call 138;refine (Qn _ _ _).mono ?_;rw[ho];rintro e w1 ⟨rfl,rfl⟩));go_returns;exact⟨_,_,_,rfl,(by apply_rules[Ka,Kd,Kn,Kr])⟩
theorem Qb0 (ka ia kb ib:Int) (w:World):Calls prog 234 #[.agg #[.int .i64 ka,.int .i64 ia,.float .f64 0,.float .f64 0],.agg #[.int .i64 kb,.int .i64 ib,.float .f64 0,.float .f64 0]] w (Qfg (Z8 ka ia kb ib) w):=by
 cases ho:okZ ka ia with
 |false =>
  have hK:Z8 ka ia kb ib=false:=by simp[Z8,ho]
  rw[hK];clear hK;go_enter func234,ntmps234;go_wp2_with (first|(go_at_call 138;refine (Qn _ _ _).mono ?_;rw[ho];rintro e w1 ⟨rfl,rfl⟩)|(go_at_call 138;refine (Qn _ _ _).mono ?_;rw[ho2];rintro e w1 ⟨rfl,rfl⟩));go_returns;exact⟨_,_,_,rfl,(by apply_rules[Ka,Kd,Kn,Kr])⟩
 |true =>
 cases ho2:okZ kb ib with
 |false =>
  have hK:Z8 ka ia kb ib=false:=by simp[Z8,ho2]
  rw[hK];clear hK;go_enter func234,ntmps234;go_wp2_with (first|(go_at_call 138;refine (Qn _ _ _).mono ?_;rw[ho];rintro e w1 ⟨rfl,rfl⟩)|(go_at_call 138;refine (Qn _ _ _).mono ?_;rw[ho2];rintro e w1 ⟨rfl,rfl⟩));go_returns;exact⟨_,_,_,rfl,(by apply_rules[Ka,Kd,Kn,Kr])⟩
 |true =>
 by_cases k1:ka=2
 ·subst k1
  by_cases k2:kb=2
  ·subst k2
   have hK:Z8 2 ia 2 ib=true:=by simp[Z8,ho,ho2]
   rw[hK];clear hK;go_enter func234,ntmps234;go_wp2_with (first|(go_at_call 138;refine (Qn _ _ _).mono ?_;rw[ho];rintro e w1 ⟨rfl,rfl⟩)|(go_at_call 138;refine (Qn _ _ _).mono ?_;rw[ho2];rintro e w1 ⟨rfl,rfl⟩));go_returns;exact⟨_,_,_,rfl,(by apply_rules[Ka,Kd,Kn,Kr])⟩
  have hK:Z8 2 ia kb ib=false:=by simp[Z8,k2]
  have k2':(kb==2)=false:=by simpa using k2
  rw[hK];clear hK;go_enter func234,ntmps234;go_wp2_with (first|(go_at_call 138;refine (Qn _ _ _).mono ?_;rw[ho];rintro e w1 ⟨rfl,rfl⟩)|(go_at_call 138;refine (Qn _ _ _).mono ?_;rw[ho2];rintro e w1 ⟨rfl,rfl⟩));go_returns;exact⟨_,_,_,rfl,(by apply_rules[Ka,Kd,Kn,Kr])⟩
 have hK:Z8 ka ia kb ib=false:=by simp[Z8,k1]
 have k1':(ka==2)=false:=by simpa using k1
 rw[hK];clear hK;go_enter func234,ntmps234;go_wp2_with (first|(go_at_call 138;refine (Qn _ _ _).mono ?_;rw[ho];rintro e w1 ⟨rfl,rfl⟩)|(go_at_call 138;refine (Qn _ _ _).mono ?_;rw[ho2];rintro e w1 ⟨rfl,rfl⟩));go_returns;exact⟨_,_,_,rfl,(by apply_rules[Ka,Kd,Kn,Kr])⟩
end Go.Proofs.YtkgkafjachjafaaGreat
