/- Part 5 of: FnExactEffects answers true; no condition. -/
import Derived.Test.YtkgkafjachjafaaGreatY03
set_option linter.unusedVariables false
set_option maxHeartbeats 1000000
open Go Go.RowKit
namespace Go.Proofs.YtkgkafjachjafaaGreat
open Tryz
theorem K08 {p:Prop} (h:p:=by go_enter func226,ntmps226;go_wp2_with (first|(go_at_call 229;refine (J1 _ _).mono ?_;rintro e w1 ⟨i,hi,rfl,rfl⟩;clear hi)|(go_at_call 228;refine (Je _ _).mono ?_;rintro e w1 ⟨rfl,rfl⟩));go_returns;exact⟨_,_,_,rfl,by first|exact (Kr _ _).alloc _|exact ((Kr _ _).alloc _).alloc _|exact (((Kr _ _).alloc _).alloc _).alloc _|exact (((Kr _ _).alloc _).drew).alloc _|exact ((((Kr _ _).alloc _).alloc _).alloc _).alloc _⟩):p:=h
theorem Qgx (op ka ia kb ib:Int) (w:World):Calls prog 226 #[.int .i64 op,.agg #[.int .i64 ka,.int .i64 ia,.float .f64 0,.float .f64 0],.agg #[.int .i64 kb,.int .i64 ib,.float .f64 0,.float .f64 0]] w (Q5d (Q4u op) w):=by
 have ha:=Qap;have hs:=Qgk;have hm:=Qbj
 by_cases h1:op=1
 ·subst h1
  exact K08
 by_cases h2:op=2
 ·subst h2
  exact K08
 by_cases h3:op=3
 ·subst h3
  exact K08
 by_cases h7:op=7
 ·subst h7
  exact K08
 have hK:Q4u op=(0,1):=by simp[Q4u,h1,h2,h3,h7]
 rw[hK];go_enter func226,ntmps226;go_wp2_with (first|(go_at_call 229;refine (J1 _ _).mono ?_;rintro e w1 ⟨i,hi,rfl,rfl⟩;clear hi)|(go_at_call 228;refine (Je _ _).mono ?_;rintro e w1 ⟨rfl,rfl⟩));go_returns;exact⟨_,_,_,rfl,by first|exact (Kr _ _).alloc _|exact ((Kr _ _).alloc _).alloc _|exact (((Kr _ _).alloc _).alloc _).alloc _|exact (((Kr _ _).alloc _).drew).alloc _|exact ((((Kr _ _).alloc _).alloc _).alloc _).alloc _⟩
def opK (op ka ia kb ib:Int):Int×Int :=
 if (okZ ka ia&&okZ kb ib&&(ka==kb)) then (if ka=1 then Q8g op (ib==0) else if ka=2 then Q4t op else if ka=3 then Q4u op else Q5x op) else (0,1)
theorem Qjh (op ka ia kb ib:Int) (w:World):Calls prog 216 #[.int .i64 op,.agg #[.int .i64 ka,.int .i64 ia,.float .f64 0,.float .f64 0],.agg #[.int .i64 kb,.int .i64 ib,.float .f64 0,.float .f64 0]] w (Q5d (opK op ka ia kb ib) w):=by
 cases ho:okZ ka ia with
 |false =>
  have hK:opK op ka ia kb ib=(0,1):=by simp[opK,ho]
  rw[hK];go_enter func216,ntmps216;go_wp2_with (go_at_call 223;refine (Jd _ _ _).mono ?_;(first|rw[ho]|rw[ho2]);rintro e w1 ⟨rfl,rfl⟩);go_returns;exact⟨_,_,_,rfl,by first|exact ((((((Kr _ _).alloc _).alloc _).alloc _).alloc _).alloc _)|exact (((((Kr _ _).alloc _).alloc _).alloc _).alloc _)|skip⟩
 |true =>
 cases ho2:okZ kb ib with
 |false =>
  have hK:opK op ka ia kb ib=(0,1):=by simp[opK,ho2]
  rw[hK];go_enter func216,ntmps216;go_wp2_with (first|(go_at_call 223;refine (Jd _ _ _).mono ?_;(first|rw[ho]|rw[ho2]);rintro e w1 ⟨rfl,rfl⟩)|(go_at_call 223;refine (Jd _ _ _).mono ?_;(first|rw[ho2]|rw[ho]);rintro e w1 ⟨rfl,rfl⟩));go_returns;exact⟨_,_,_,rfl,by first|exact ((((((Kr _ _).alloc _).alloc _).alloc _).alloc _).alloc _)|exact (((((Kr _ _).alloc _).alloc _).alloc _).alloc _)|skip⟩
 |true =>
 cases hk:(ka==kb) with
 |false =>
  have hK:opK op ka ia kb ib=(0,1):=by simp[opK,hk]
  rw[hK];have hk0:¬ ka=kb:=by simpa using hk
  go_enter func216,ntmps216;go_wp2_with (first|(go_at_call 223;refine (Jd _ _ _).mono ?_;(first|rw[ho]|rw[ho2]);rintro e w1 ⟨rfl,rfl⟩)|(go_at_call 223;refine (Jd _ _ _).mono ?_;(first|rw[ho2]|rw[ho]);rintro e w1 ⟨rfl,rfl⟩));go_returns;exact⟨_,_,_,rfl,by first|exact ((((((Kr _ _).alloc _).alloc _).alloc _).alloc _).alloc _)|exact (((((Kr _ _).alloc _).alloc _).alloc _).alloc _)|skip⟩
 |true =>
 obtain rfl:ka=kb:=by simpa using hk
 have hK:opK op ka ia ka ib=(if ka=1 then Q8g op (ib==0) else if ka=2 then Q4t op else if ka=3 then Q4u op else Q5x op):=by simp[opK,ho,ho2]
 by_cases h1:ka=1
 ·subst h1
  have hI:=Qj7 op ia ib;rw[Ps rfl] at hK;rw[hK];generalize Q8g op (ib==0)=P at hI;obtain⟨p1,p2⟩:=P;clear hK;go_enter func216,ntmps216;go_wp2_with (first|(go_at_call 223;refine (Jd _ _ _).mono ?_;(first|rw[ho]|rw[ho2]);rintro e w1 ⟨rfl,rfl⟩)|(go_at_call 224;refine (hI _).mono ?_;rintro e w1 ⟨i,x,y,he,hk1⟩;dsimp only at he;subst he;have bR:Blk w1 (w.heap.size+1+1) [.int .i64 0,.int .i64 0,.float .f64 0,.float .f64 0] 106:=Blk.kept (((Blk.new_of _ _ _ Sm).alloc _).alloc _) hk1 id;have r0:=bR.cell 0 _ rfl;have r1:=bR.cell 1 _ rfl;have r2:=bR.cell 2 _ rfl;have r3:=bR.cell 3 _ rfl;have q0:=bR.free 0;have q1:=bR.free 1;have q2:=bR.free 2;have q3:=bR.free 3));have b1:=bR.set 0 (.int .i64 p1);have b2:=b1.set 1 (.int .i64 i);have b3:=b2.set 2 (.float .f64 x);have b4:=b3.set 3 (.float .f64 y);have e0:=b1.cell 0 _ rfl;have e1:=b2.cell 1 _ rfl;have e2:=b3.cell 2 _ rfl;have e3:=b4.cell 3 _ rfl;refine bodyPost_ret (v:=.tuple #[.agg #[.int .i64 p1,.int .i64 i,.float .f64 x,.float .f64 y],.int .i64 p2]) (by simp[results,results216,go_sem,e0,e1,e2,e3]) rfl ⟨i,x,y,rfl,?_⟩;have hKK:=Kt ((((((Kr nob w).alloc _).alloc _).alloc _).alloc _).alloc _) hk1;exact Q0.setCell (Q0.setCell (Q0.setCell (Q0.setCell hKK (Or.inr So) _) (Or.inr So) _) (Or.inr So) _) (Or.inr So) _
 rw[Ng h1] at hK
 by_cases h2:ka=2
 ·subst h2
  have hI:=Qhj op;rw[Ps rfl] at hK;rw[hK];generalize Q4t op=P at hI;obtain⟨p1,p2⟩:=P;clear hK;go_enter func216,ntmps216;go_wp2_with (first|(go_at_call 223;refine (Jd _ _ _).mono ?_;(first|rw[ho]|rw[ho2]);rintro e w1 ⟨rfl,rfl⟩)|(go_at_call 225;refine (hI _).mono ?_;rintro e w1 ⟨i,x,y,he,hk1⟩;dsimp only at he;subst he;have bR:Blk w1 (w.heap.size+1+1) [.int .i64 0,.int .i64 0,.float .f64 0,.float .f64 0] 106:=Blk.kept (((Blk.new_of _ _ _ Sm).alloc _).alloc _) hk1 id;have r0:=bR.cell 0 _ rfl;have r1:=bR.cell 1 _ rfl;have r2:=bR.cell 2 _ rfl;have r3:=bR.cell 3 _ rfl;have q0:=bR.free 0;have q1:=bR.free 1;have q2:=bR.free 2;have q3:=bR.free 3));have b1:=bR.set 0 (.int .i64 p1);have b2:=b1.set 1 (.int .i64 i);have b3:=b2.set 2 (.float .f64 x);have b4:=b3.set 3 (.float .f64 y);have e0:=b1.cell 0 _ rfl;have e1:=b2.cell 1 _ rfl;have e2:=b3.cell 2 _ rfl;have e3:=b4.cell 3 _ rfl;refine bodyPost_ret (v:=.tuple #[.agg #[.int .i64 p1,.int .i64 i,.float .f64 x,.float .f64 y],.int .i64 p2]) (by simp[results,results216,go_sem,e0,e1,e2,e3]) rfl ⟨i,x,y,rfl,?_⟩;have hKK:=Kt ((((((Kr nob w).alloc _).alloc _).alloc _).alloc _).alloc _) hk1;exact Q0.setCell (Q0.setCell (Q0.setCell (Q0.setCell hKK (Or.inr So) _) (Or.inr So) _) (Or.inr So) _) (Or.inr So) _
 rw[Ng h2] at hK
 by_cases h3:ka=3
 ·subst h3
  have hI:=Qgx op 3 ia 3 ib;rw[Ps rfl] at hK;rw[hK];generalize Q4u op=P at hI;obtain⟨p1,p2⟩:=P;clear hK;go_enter func216,ntmps216;go_wp2_with (first|(go_at_call 223;refine (Jd _ _ _).mono ?_;(first|rw[ho]|rw[ho2]);rintro e w1 ⟨rfl,rfl⟩)|(go_at_call 226;refine (hI _).mono ?_;rintro e w1 ⟨i,x,y,he,hk1⟩;dsimp only at he;subst he;have bR:Blk w1 (w.heap.size+1+1) [.int .i64 0,.int .i64 0,.float .f64 0,.float .f64 0] 106:=Blk.kept (((Blk.new_of _ _ _ Sm).alloc _).alloc _) hk1 id;have r0:=bR.cell 0 _ rfl;have r1:=bR.cell 1 _ rfl;have r2:=bR.cell 2 _ rfl;have r3:=bR.cell 3 _ rfl;have q0:=bR.free 0;have q1:=bR.free 1;have q2:=bR.free 2;have q3:=bR.free 3));have b1:=bR.set 0 (.int .i64 p1);have b2:=b1.set 1 (.int .i64 i);have b3:=b2.set 2 (.float .f64 x);have b4:=b3.set 3 (.float .f64 y);have e0:=b1.cell 0 _ rfl;have e1:=b2.cell 1 _ rfl;have e2:=b3.cell 2 _ rfl;have e3:=b4.cell 3 _ rfl;refine bodyPost_ret (v:=.tuple #[.agg #[.int .i64 p1,.int .i64 i,.float .f64 x,.float .f64 y],.int .i64 p2]) (by simp[results,results216,go_sem,e0,e1,e2,e3]) rfl ⟨i,x,y,rfl,?_⟩;have hKK:=Kt ((((((Kr nob w).alloc _).alloc _).alloc _).alloc _).alloc _) hk1;exact Q0.setCell (Q0.setCell (Q0.setCell (Q0.setCell hKK (Or.inr So) _) (Or.inr So) _) (Or.inr So) _) (Or.inr So) _
 rw[Ng h3] at hK;have hI:=Qhw op ia ib;rw[hK];generalize Q5x op=P at hI;obtain⟨p1,p2⟩:=P;clear hK;go_enter func216,ntmps216;go_wp2_with (first|(go_at_call 223;refine (Jd _ _ _).mono ?_;(first|rw[ho]|rw[ho2]);rintro e w1 ⟨rfl,rfl⟩)|(go_at_call 227;refine (hI _).mono ?_;rintro e w1 ⟨i,x,y,he,hk1⟩;dsimp only at he;subst he;have bR:Blk w1 (w.heap.size+1+1) [.int .i64 0,.int .i64 0,.float .f64 0,.float .f64 0] 106:=Blk.kept (((Blk.new_of _ _ _ Sm).alloc _).alloc _) hk1 id;have r0:=bR.cell 0 _ rfl;have r1:=bR.cell 1 _ rfl;have r2:=bR.cell 2 _ rfl;have r3:=bR.cell 3 _ rfl;have q0:=bR.free 0;have q1:=bR.free 1;have q2:=bR.free 2;have q3:=bR.free 3));have b1:=bR.set 0 (.int .i64 p1);have b2:=b1.set 1 (.int .i64 i);have b3:=b2.set 2 (.float .f64 x);have b4:=b3.set 3 (.float .f64 y);have e0:=b1.cell 0 _ rfl;have e1:=b2.cell 1 _ rfl;have e2:=b3.cell 2 _ rfl;have e3:=b4.cell 3 _ rfl;refine bodyPost_ret (v:=.tuple #[.agg #[.int .i64 p1,.int .i64 i,.float .f64 x,.float .f64 y],.int .i64 p2]) (by simp[results,results216,go_sem,e0,e1,e2,e3]) rfl ⟨i,x,y,rfl,?_⟩;have hKK:=Kt ((((((Kr nob w).alloc _).alloc _).alloc _).alloc _).alloc _) hk1;exact Q0.setCell (Q0.setCell (Q0.setCell (Q0.setCell hKK (Or.inr So) _) (Or.inr So) _) (Or.inr So) _) (Or.inr So) _
end Go.Proofs.YtkgkafjachjafaaGreat
