/- Part 17 of: FnExactEffects answers true; no condition. -/
import Derived.Test.YtkgkafjachjafaaGreatY04
import Derived.Test.YtkgkafjachjafaaGreatY05
import Derived.Test.YtkgkafjachjafaaGreatY09
set_option linter.unusedVariables false
set_option maxHeartbeats 1000000
set_option maxRecDepth 100000
open Go Go.RowKit
namespace Go.Proofs.YtkgkafjachjafaaGreat
open Tryz
theorem K0h {p:Prop} (h:p:=by rw[hK];clear hK;go_enter func109,ntmps109;go_wp2_with (first|(go_at_call 139;refine (Ql _ _).mono ?_;rintro e w1 ⟨i,rfl,rfl⟩)|(go_at_call 138;refine (Qm _ _ _).mono ?_;rw[ho];rintro e w1 ⟨rfl,rfl⟩));go_returns;exact⟨_,_,_,rfl,Kz⟩):p:=h
theorem K0i {p:Prop} (h:p:=by rw[hK];clear hK;go_enter func234,ntmps234;go_wp2_with (first|(go_at_call 138;refine (Qm _ _ _).mono ?_;rw[ho];rintro e w1 ⟨rfl,rfl⟩)|(go_at_call 138;refine (Qm _ _ _).mono ?_;rw[ho2];rintro e w1 ⟨rfl,rfl⟩));go_returns;exact⟨_,_,_,rfl,Kz⟩):p:=h
theorem K0j {p:Prop} (h:p:=by go_enter func110,ntmps110;go_wp2_with (first|(go_at_call 138;refine (Qm _ _ _).mono ?_;(first|rw[ho]|rw[ho2]);rintro e w1 ⟨rfl,rfl⟩)|(go_at_call 139;refine (Ql _ _).mono ?_;rintro e w1 ⟨i,rfl,rfl⟩));go_returns;exact⟨_,_,_,rfl,Kz⟩):p:=h
theorem K0k {p:Prop} (h:p:=by go_enter func138,ntmps138;go_wp2_with (go_at_call 182;refine (Q01 _).mono ?_;rintro e w1 ⟨rfl,rfl⟩);go_ret;exact⟨Q7 (by simp[okZ,hi]),by first|exact hW0|rfl|rw[← hW0,hi0]⟩):p:=h
theorem K0l {p:Prop} (h:p:=by rw[hf];go_enter func138,ntmps138;go_wp2_with (go_at_call 182;refine (Q01 _).mono ?_;rintro e w1 ⟨rfl,rfl⟩);go_ret;exact⟨rfl,by first|exact hW0|rfl⟩):p:=h
theorem K0m {p:Prop} (h:p:=by go_enter func138,ntmps138;go_wp2_with (go_at_call 182;refine (Q01 _).mono ?_;rintro e w1 ⟨rfl,rfl⟩);go_ret;exact⟨Q7 Dc,by first|exact hW0|rfl⟩):p:=h
theorem Qm (k i:Int) (w:World):Calls prog 138 #[.agg #[.int .i64 k,.int .i64 i,.float .f64 0,.float .f64 0]] w fun e w'=>e=.returned (.bool (okZ k i))∧w.alloc (.cells #[.int .i64 k,.int .i64 i,.float .f64 0,.float .f64 0] 106 (0,0))=w':=by
 have hk0:Q0 nob w (w.alloc (.cells #[.int .i64 k,.int .i64 i,.float .f64 0,.float .f64 0] 106)):=(Kr _ _).alloc _;have hbl:=Blk.new w [.int .i64 k,.int .i64 i,.float .f64 0,.float .f64 0] 106;generalize hW0:w.alloc (.cells #[.int .i64 k,.int .i64 i,.float .f64 0,.float .f64 0] 106)=W0 at hk0;have c0:W0.cell? ⟨w.heap.size,0,none⟩=some (.int .i64 k):=hW0▸hbl.cell 0 _ rfl;have c1:W0.cell? ⟨w.heap.size,1,none⟩=some (.int .i64 i):=hW0▸hbl.cell 1 _ rfl;have c2:W0.cell? ⟨w.heap.size,2,none⟩=some (.float .f64 0):=hW0▸hbl.cell 2 _ rfl;have c3:W0.cell? ⟨w.heap.size,3,none⟩=some (.float .f64 0):=hW0▸hbl.cell 3 _ rfl;clear hbl
 by_cases h1:k=1
 ·subst h1
  go_enter func138,ntmps138;go_wp2_with (go_at_call 182;refine (Q01 _).mono ?_;rintro e w1 ⟨rfl,rfl⟩);go_ret;exact⟨Q7 (by simp[okZ]),by first|exact hW0|rfl|rw[← hW0,hi0]⟩
 by_cases h2:k=2
 ·subst h2
  cases hi:(i==0) with
  |true =>
   have hi0:i=0:=by simpa using hi
   exact K0k
  |false =>
   have hi0:¬ i=0:=by simpa using hi
   exact K0k
 by_cases h3:k=3
 ·subst h3
  cases hi:(i==0) with
  |true =>
   have hi0:i=0:=by simpa using hi
   exact K0k
  |false =>
   have hi0:¬ i=0:=by simpa using hi
   exact K0k
 by_cases h4:k=4
 ·subst h4
  by_cases h00:i=0
  ·subst h00
   exact K0m
  have h00':(i==0)=false:=by simpa using h00
  by_cases h01:i=1
  ·subst h01
   exact K0m
  have h01':(i==1)=false:=by simpa using h01
  have hf:okZ 4 i=false:=by simp[okZ,Q9];omega
  exact K0l
 have hf:okZ k i=false:=by simp[okZ,h1,h2,h3,h4]
 exact K0l
theorem Q4g (k:Int) (w:World):Calls prog 233 #[.int .i64 k] w fun e w'=>e=.returned (Q3c k).v∧Q0 nob w w':=by
 cases hk:Q9 k 1 4 with
 |true =>
  go_enter func233,ntmps233;go_wp2_with (go_at_call 105;refine (Zl _ _ _ _).mono ?_;rw[hk];rintro e w1 ⟨rfl,rfl⟩);go_returns;refine⟨?_,Kz⟩;simp[Q3c,hk,Val.v]
 |false =>
  go_enter func233,ntmps233;go_wp2_with (go_at_call 105;refine (Zl _ _ _ _).mono ?_;rw[hk];rintro e w1 ⟨rfl,rfl⟩);go_returns;refine⟨?_,Kz⟩;simp[Q3c,hk,Val.v,Qla]
theorem Qcm (op k i:Int) (w:World):Calls prog 109 #[.int .i64 op,.agg #[.int .i64 k,.int .i64 i,.float .f64 0,.float .f64 0]] w (Q5d (J6 op k i) w):=by
 have ha:=Qap;have hm:=Qbj;cases ho:okZ k i with
 |false =>
  have hK:J6 op k i=(0,1):=by simp[J6,ho]
  exact K0h
 |true =>
 by_cases o1:op=1
 ·subst o1
  by_cases k1:k=1
  ·subst k1
   have hK:J6 1 1 i=(1,0):=by simp[J6,ho]
   exact K0h
  by_cases k2:k=2
  ·subst k2
   have hK:J6 1 2 i=(2,0):=by simp[J6,ho]
   exact K0h
  by_cases k3:k=3
  ·subst k3
   have hK:J6 1 3 i=(3,0):=by simp[J6,ho]
   exact K0h
  have hK:J6 1 k i=(0,1):=by simp[J6,ho,k1,k2,k3]
  exact K0h
 by_cases o2:op=2
 ·subst o2
  by_cases k4:k=4
  ·subst k4
   have hK:J6 2 4 i=(4,0):=by simp[J6,ho]
   exact K0h
  have hK:J6 2 k i=(0,1):=by simp[J6,ho,k4]
  exact K0h
 by_cases o3:op=3
 ·subst o3
  by_cases k3:k=3
  ·subst k3
   have hK:J6 3 3 i=(2,0):=by simp[J6,ho]
   exact K0h
  have hK:J6 3 k i=(0,1):=by simp[J6,ho,k3]
  exact K0h
 by_cases o4:op=4
 ·subst o4
  by_cases k3:k=3
  ·subst k3
   have hK:J6 4 3 i=(2,0):=by simp[J6,ho]
   exact K0h
  have hK:J6 4 k i=(0,1):=by simp[J6,ho,k3]
  exact K0h
 by_cases o5:op=5
 ·subst o5
  by_cases k1:k=1
  ·subst k1
   have hK:J6 5 1 i=(2,0):=by simp[J6,ho]
   exact K0h
  have hK:J6 5 k i=(0,1):=by simp[J6,ho,k1]
  exact K0h
 by_cases o6:op=6
 ·subst o6
  by_cases k3:k=3
  ·subst k3
   have hK:J6 6 3 i=(2,0):=by simp[J6,ho]
   exact K0h
  have hK:J6 6 k i=(0,1):=by simp[J6,ho,k3]
  exact K0h
 have hK:J6 op k i=(0,1):=by simp[J6,ho,o1,o2,o3,o4,o5,o6]
 exact K0h
theorem Qbt (ka ia kb ib:Int) (w:World):Calls prog 234 #[.agg #[.int .i64 ka,.int .i64 ia,.float .f64 0,.float .f64 0],.agg #[.int .i64 kb,.int .i64 ib,.float .f64 0,.float .f64 0]] w (Qgp (Z5 ka ia kb ib) w):=by
 cases ho:okZ ka ia with
 |false =>
  have hK:Z5 ka ia kb ib=false:=by simp[Z5,ho]
  exact K0i
 |true =>
 cases ho2:okZ kb ib with
 |false =>
  have hK:Z5 ka ia kb ib=false:=by simp[Z5,ho2]
  exact K0i
 |true =>
 by_cases k1:ka=2
 ·subst k1
  by_cases k2:kb=2
  ·subst k2
   have hK:Z5 2 ia 2 ib=true:=by simp[Z5,ho,ho2]
   exact K0i
  have hK:Z5 2 ia kb ib=false:=by simp[Z5,k2]
  have k2':(kb==2)=false:=by simpa using k2
  exact K0i
 have hK:Z5 ka ia kb ib=false:=by simp[Z5,k1]
 have k1':(ka==2)=false:=by simpa using k1
 exact K0i
theorem Qg2 (op ka ia kb ib:Int) (w:World):Calls prog 110 #[.int .i64 op,.agg #[.int .i64 ka,.int .i64 ia,.float .f64 0,.float .f64 0],.agg #[.int .i64 kb,.int .i64 ib,.float .f64 0,.float .f64 0]] w (Q5d (opK op ka ia kb ib) w):=by
 cases ho:okZ ka ia with
 |false =>
  have hK:opK op ka ia kb ib=(0,1):=by simp[opK,ho]
  rw[hK];go_enter func110,ntmps110;go_wp2_with (go_at_call 138;refine (Qm _ _ _).mono ?_;(first|rw[ho]|rw[ho2]);rintro e w1 ⟨rfl,rfl⟩);go_returns;exact⟨_,_,_,rfl,by first|exact ((((((Kr _ _).alloc _).alloc _).alloc _).alloc _).alloc _)|exact (((((Kr _ _).alloc _).alloc _).alloc _).alloc _)|skip⟩
 |true =>
 cases ho2:okZ kb ib with
 |false =>
  have hK:opK op ka ia kb ib=(0,1):=by simp[opK,ho2]
  rw[hK];go_enter func110,ntmps110;go_wp2_with (first|(go_at_call 138;refine (Qm _ _ _).mono ?_;(first|rw[ho]|rw[ho2]);rintro e w1 ⟨rfl,rfl⟩)|(go_at_call 138;refine (Qm _ _ _).mono ?_;(first|rw[ho2]|rw[ho]);rintro e w1 ⟨rfl,rfl⟩));go_returns;exact⟨_,_,_,rfl,by first|exact ((((((Kr _ _).alloc _).alloc _).alloc _).alloc _).alloc _)|exact (((((Kr _ _).alloc _).alloc _).alloc _).alloc _)|skip⟩
 |true =>
 cases hk:(ka==kb) with
 |false =>
  have hK:opK op ka ia kb ib=(0,1):=by simp[opK,hk]
  rw[hK];have hk0:¬ ka=kb:=by simpa using hk
  go_enter func110,ntmps110;go_wp2_with (first|(go_at_call 138;refine (Qm _ _ _).mono ?_;(first|rw[ho]|rw[ho2]);rintro e w1 ⟨rfl,rfl⟩)|(go_at_call 138;refine (Qm _ _ _).mono ?_;(first|rw[ho2]|rw[ho]);rintro e w1 ⟨rfl,rfl⟩));go_returns;exact⟨_,_,_,rfl,by first|exact ((((((Kr _ _).alloc _).alloc _).alloc _).alloc _).alloc _)|exact (((((Kr _ _).alloc _).alloc _).alloc _).alloc _)|skip⟩
 |true =>
 obtain rfl:ka=kb:=by simpa using hk
 have hK:opK op ka ia ka ib=(if ka=1 then Q8g op (ib==0) else if ka=2 then Q4t op else if ka=3 then Q4u op else Q5x op):=by simp[opK,ho,ho2]
 by_cases h1:ka=1
 ·subst h1
  have hI:=Qeu op ia ib;rw[Ps rfl] at hK;rw[hK];generalize Q8g op (ib==0)=P at hI;obtain⟨p1,p2⟩:=P;clear hK;go_enter func110,ntmps110;go_wp2_with (first|(go_at_call 138;refine (Qm _ _ _).mono ?_;(first|rw[ho]|rw[ho2]);rintro e w1 ⟨rfl,rfl⟩)|(go_at_call 140;refine (hI _).mono ?_;rintro e w1 ⟨i,x,y,he,hk1⟩;dsimp only at he;subst he;have bR:Blk w1 (w.heap.size+1+1) [.int .i64 0,.int .i64 0,.float .f64 0,.float .f64 0] 106:=Blk.kept (((Blk.new_of _ _ _ Sm).alloc _).alloc _) hk1 id;have r0:=bR.cell 0 _ rfl;have r1:=bR.cell 1 _ rfl;have r2:=bR.cell 2 _ rfl;have r3:=bR.cell 3 _ rfl;have q0:=bR.free 0;have q1:=bR.free 1;have q2:=bR.free 2;have q3:=bR.free 3));have b1:=bR.set 0 (.int .i64 p1);have b2:=b1.set 1 (.int .i64 i);have b3:=b2.set 2 (.float .f64 x);have b4:=b3.set 3 (.float .f64 y);have e0:=b1.cell 0 _ rfl;have e1:=b2.cell 1 _ rfl;have e2:=b3.cell 2 _ rfl;have e3:=b4.cell 3 _ rfl;refine bodyPost_ret (v:=.tuple #[.agg #[.int .i64 p1,.int .i64 i,.float .f64 x,.float .f64 y],.int .i64 p2]) (by simp[results,results110,go_sem,e0,e1,e2,e3]) rfl ⟨i,x,y,rfl,?_⟩;have hKK:=Kt ((((((Kr nob w).alloc _).alloc _).alloc _).alloc _).alloc _) hk1;exact Q0.setCell (Q0.setCell (Q0.setCell (Q0.setCell hKK (Or.inr So) _) (Or.inr So) _) (Or.inr So) _) (Or.inr So) _
 rw[Ng h1] at hK
 by_cases h2:ka=2
 ·subst h2
  have hI:=Qcx op;rw[Ps rfl] at hK;rw[hK];generalize Q4t op=P at hI;obtain⟨p1,p2⟩:=P;clear hK;go_enter func110,ntmps110;go_wp2_with (first|(go_at_call 138;refine (Qm _ _ _).mono ?_;(first|rw[ho]|rw[ho2]);rintro e w1 ⟨rfl,rfl⟩)|(go_at_call 141;refine (hI _).mono ?_;rintro e w1 ⟨i,x,y,he,hk1⟩;dsimp only at he;subst he;have bR:Blk w1 (w.heap.size+1+1) [.int .i64 0,.int .i64 0,.float .f64 0,.float .f64 0] 106:=Blk.kept (((Blk.new_of _ _ _ Sm).alloc _).alloc _) hk1 id;have r0:=bR.cell 0 _ rfl;have r1:=bR.cell 1 _ rfl;have r2:=bR.cell 2 _ rfl;have r3:=bR.cell 3 _ rfl;have q0:=bR.free 0;have q1:=bR.free 1;have q2:=bR.free 2;have q3:=bR.free 3));have b1:=bR.set 0 (.int .i64 p1);have b2:=b1.set 1 (.int .i64 i);have b3:=b2.set 2 (.float .f64 x);have b4:=b3.set 3 (.float .f64 y);have e0:=b1.cell 0 _ rfl;have e1:=b2.cell 1 _ rfl;have e2:=b3.cell 2 _ rfl;have e3:=b4.cell 3 _ rfl;refine bodyPost_ret (v:=.tuple #[.agg #[.int .i64 p1,.int .i64 i,.float .f64 x,.float .f64 y],.int .i64 p2]) (by simp[results,results110,go_sem,e0,e1,e2,e3]) rfl ⟨i,x,y,rfl,?_⟩;have hKK:=Kt ((((((Kr nob w).alloc _).alloc _).alloc _).alloc _).alloc _) hk1;exact Q0.setCell (Q0.setCell (Q0.setCell (Q0.setCell hKK (Or.inr So) _) (Or.inr So) _) (Or.inr So) _) (Or.inr So) _
 rw[Ng h2] at hK
 by_cases h3:ka=3
 ·subst h3
  have hI:=Qdv op 3 ia 3 ib;rw[Ps rfl] at hK;rw[hK];generalize Q4u op=P at hI;obtain⟨p1,p2⟩:=P;clear hK;go_enter func110,ntmps110;go_wp2_with (first|(go_at_call 138;refine (Qm _ _ _).mono ?_;(first|rw[ho]|rw[ho2]);rintro e w1 ⟨rfl,rfl⟩)|(go_at_call 142;refine (hI _).mono ?_;rintro e w1 ⟨i,x,y,he,hk1⟩;dsimp only at he;subst he;have bR:Blk w1 (w.heap.size+1+1) [.int .i64 0,.int .i64 0,.float .f64 0,.float .f64 0] 106:=Blk.kept (((Blk.new_of _ _ _ Sm).alloc _).alloc _) hk1 id;have r0:=bR.cell 0 _ rfl;have r1:=bR.cell 1 _ rfl;have r2:=bR.cell 2 _ rfl;have r3:=bR.cell 3 _ rfl;have q0:=bR.free 0;have q1:=bR.free 1;have q2:=bR.free 2;have q3:=bR.free 3));have b1:=bR.set 0 (.int .i64 p1);have b2:=b1.set 1 (.int .i64 i);have b3:=b2.set 2 (.float .f64 x);have b4:=b3.set 3 (.float .f64 y);have e0:=b1.cell 0 _ rfl;have e1:=b2.cell 1 _ rfl;have e2:=b3.cell 2 _ rfl;have e3:=b4.cell 3 _ rfl;refine bodyPost_ret (v:=.tuple #[.agg #[.int .i64 p1,.int .i64 i,.float .f64 x,.float .f64 y],.int .i64 p2]) (by simp[results,results110,go_sem,e0,e1,e2,e3]) rfl ⟨i,x,y,rfl,?_⟩;have hKK:=Kt ((((((Kr nob w).alloc _).alloc _).alloc _).alloc _).alloc _) hk1;exact Q0.setCell (Q0.setCell (Q0.setCell (Q0.setCell hKK (Or.inr So) _) (Or.inr So) _) (Or.inr So) _) (Or.inr So) _
 rw[Ng h3] at hK;rw[hK];have h1':(ka==1)=false:=by simpa using h1
 have h2':(ka==2)=false:=by simpa using h2
 have h3':(ka==3)=false:=by simpa using h3
 by_cases h7:op=7
 ·subst h7
  exact K0j
 by_cases h8:op=8
 ·subst h8
  cases hx:(ia==1) with
  |true =>
   exact K0j
  |false =>
   exact K0j
 by_cases h9:op=9
 ·subst h9
  cases hx:(ia==1) with
  |true =>
   exact K0j
  |false =>
   exact K0j
 have hK2:Q5x op=(0,1):=by simp[Q5x,h7,h8,h9]
 rw[hK2];go_enter func110,ntmps110;go_wp2_with (first|(go_at_call 138;refine (Qm _ _ _).mono ?_;(first|rw[ho]|rw[ho2]);rintro e w1 ⟨rfl,rfl⟩)|(go_at_call 139;refine (Ql _ _).mono ?_;rintro e w1 ⟨i,rfl,rfl⟩));go_returns;exact⟨_,_,_,rfl,Kz⟩
end Go.Proofs.YtkgkafjachjafaaGreat
