/- Part 4 of: FnExactPrune answers true; no condition. -/
import Derived.Test.YtkgkafjachjafaaGreatZ03
set_option linter.unusedVariables false
set_option maxHeartbeats 1000000
open Go Go.RowKit
namespace Go.Proofs.YtkgkafjachjafaaGreat
open Tryz
def okZ (k i:Int):Bool:=if k=1 then true else if k=2∨k=3 then i==0 else if k=4 then Q9 i 0 1 else false
theorem Jb (k i:Int) (w:World):Calls prog 223 #[.agg #[.int .i64 k,.int .i64 i,.float .f64 0,.float .f64 0]] w fun e w'=>e=.returned (.bool (okZ k i))∧w.alloc (.cells #[.int .i64 k,.int .i64 i,.float .f64 0,.float .f64 0] 106 (0,0))=w':=by
 have hk0:Q0 nob w (w.alloc (.cells #[.int .i64 k,.int .i64 i,.float .f64 0,.float .f64 0] 106)):=(Kr _ _).alloc _;have hbl:=Blk.new w [.int .i64 k,.int .i64 i,.float .f64 0,.float .f64 0] 106;generalize hW0:w.alloc (.cells #[.int .i64 k,.int .i64 i,.float .f64 0,.float .f64 0] 106)=W0 at hk0;have c0:W0.cell? ⟨w.heap.size,0,none⟩=some (.int .i64 k):=hW0▸hbl.cell 0 _ rfl;have c1:W0.cell? ⟨w.heap.size,1,none⟩=some (.int .i64 i):=hW0▸hbl.cell 1 _ rfl;have c2:W0.cell? ⟨w.heap.size,2,none⟩=some (.float .f64 0):=hW0▸hbl.cell 2 _ rfl;have c3:W0.cell? ⟨w.heap.size,3,none⟩=some (.float .f64 0):=hW0▸hbl.cell 3 _ rfl;clear hbl
 by_cases h1:k=1
 ·subst h1
  go_enter func223,ntmps223;go_wp2_with (first|(go_at_call 235;refine (Q0p _ _).mono ?_;rintro e w1 ⟨rfl,rfl⟩)|(go_at_call 89;refine (Jj _ _ _ _).mono ?_;rintro e w1 ⟨rfl,rfl⟩));go_returns;exact⟨Q6 (by simp[okZ]),by first|exact hW0|rfl|rw[← hW0,hi0]⟩
 by_cases h2:k=2
 ·subst h2
  cases hi:(i==0) with
  |true =>
   have hi0:i=0:=by simpa using hi
   go_enter func223,ntmps223;go_wp2_with (first|(go_at_call 235;refine (Q0p _ _).mono ?_;rintro e w1 ⟨rfl,rfl⟩)|(go_at_call 89;refine (Jj _ _ _ _).mono ?_;rintro e w1 ⟨rfl,rfl⟩));go_returns;exact⟨Q6 (by simp[okZ,hi]),by first|exact hW0|rfl|rw[← hW0,hi0]⟩
  |false =>
   have hi0:¬ i=0:=by simpa using hi
   go_enter func223,ntmps223;go_wp2_with (first|(go_at_call 235;refine (Q0p _ _).mono ?_;rintro e w1 ⟨rfl,rfl⟩)|(go_at_call 89;refine (Jj _ _ _ _).mono ?_;rintro e w1 ⟨rfl,rfl⟩));go_returns;exact⟨Q6 (by simp[okZ,hi]),by first|exact hW0|rfl|rw[← hW0,hi0]⟩
 by_cases h3:k=3
 ·subst h3
  cases hi:(i==0) with
  |true =>
   have hi0:i=0:=by simpa using hi
   go_enter func223,ntmps223;go_wp2_with (first|(go_at_call 235;refine (Q0p _ _).mono ?_;rintro e w1 ⟨rfl,rfl⟩)|(go_at_call 89;refine (Jj _ _ _ _).mono ?_;rintro e w1 ⟨rfl,rfl⟩));go_returns;exact⟨Q6 (by simp[okZ,hi]),by first|exact hW0|rfl|rw[← hW0,hi0]⟩
  |false =>
   have hi0:¬ i=0:=by simpa using hi
   go_enter func223,ntmps223;go_wp2_with (first|(go_at_call 235;refine (Q0p _ _).mono ?_;rintro e w1 ⟨rfl,rfl⟩)|(go_at_call 89;refine (Jj _ _ _ _).mono ?_;rintro e w1 ⟨rfl,rfl⟩));go_returns;exact⟨Q6 (by simp[okZ,hi]),by first|exact hW0|rfl|rw[← hW0,hi0]⟩
 by_cases h4:k=4
 ·subst h4
  cases hi:Q9 i 0 1 with
  |true =>
   go_enter func223,ntmps223;go_wp2_with (first|(go_at_call 235;refine (Q0p _ _).mono ?_;rintro e w1 ⟨rfl,rfl⟩)|(go_at_call 89;refine (Jj _ _ _ _).mono ?_;rintro e w1 ⟨rfl,rfl⟩));go_returns;exact⟨Q6 (by simp[okZ,hi]),by first|exact hW0|rfl|rw[← hW0,hi0]⟩
  |false =>
   go_enter func223,ntmps223;go_wp2_with (first|(go_at_call 235;refine (Q0p _ _).mono ?_;rintro e w1 ⟨rfl,rfl⟩)|(go_at_call 89;refine (Jj _ _ _ _).mono ?_;rintro e w1 ⟨rfl,rfl⟩));go_returns;exact⟨Q6 (by simp[okZ,hi]),by first|exact hW0|rfl|rw[← hW0,hi0]⟩
 ·go_enter func223,ntmps223
  go_wp2_with (first|(go_at_call 235;refine (Q0p _ _).mono ?_;rintro e w1 ⟨rfl,rfl⟩)|(go_at_call 89;refine (Jj _ _ _ _).mono ?_;rintro e w1 ⟨rfl,rfl⟩));go_returns;exact⟨Q6 (by simp[okZ,h1,h2,h3,h4]),by first|exact hW0|rfl|rw[← hW0,hi0]⟩
def opK (op ka ia kb ib:Int):Int×Int :=
 if (okZ ka ia&&okZ kb ib&&(ka==kb)) then (if ka=1 then Q82 op (ib==0) else if ka=2 then Q4f op else if ka=3 then Q4g op else Q59 op) else (0,1)
theorem Qkh (op ka ia kb ib:Int) (w:World):Calls prog 216 #[.int .i64 op,.agg #[.int .i64 ka,.int .i64 ia,.float .f64 0,.float .f64 0],.agg #[.int .i64 kb,.int .i64 ib,.float .f64 0,.float .f64 0]] w (Q4n (opK op ka ia kb ib) w):=by
 cases ho:okZ ka ia with
 |false =>
  have hK:opK op ka ia kb ib=(0,1):=by simp[opK,ho]
  rw[hK];go_enter func216,ntmps216;go_wp2_with (go_at_call 223;refine (Jb _ _ _).mono ?_;(first|rw[ho]|rw[ho2]);rintro e w1 ⟨rfl,rfl⟩);go_returns;exact⟨_,_,_,rfl,by first|exact ((((((Kr _ _).alloc _).alloc _).alloc _).alloc _).alloc _)|exact (((((Kr _ _).alloc _).alloc _).alloc _).alloc _)|skip⟩
 |true =>
 cases ho2:okZ kb ib with
 |false =>
  have hK:opK op ka ia kb ib=(0,1):=by simp[opK,ho2]
  rw[hK];go_enter func216,ntmps216;go_wp2_with (first|(go_at_call 223;refine (Jb _ _ _).mono ?_;(first|rw[ho]|rw[ho2]);rintro e w1 ⟨rfl,rfl⟩)|(go_at_call 223;refine (Jb _ _ _).mono ?_;(first|rw[ho2]|rw[ho]);rintro e w1 ⟨rfl,rfl⟩));go_returns;exact⟨_,_,_,rfl,by first|exact ((((((Kr _ _).alloc _).alloc _).alloc _).alloc _).alloc _)|exact (((((Kr _ _).alloc _).alloc _).alloc _).alloc _)|skip⟩
 |true =>
 cases hk:(ka==kb) with
 |false =>
  have hK:opK op ka ia kb ib=(0,1):=by simp[opK,hk]
  rw[hK];have hk0:¬ ka=kb:=by simpa using hk
  go_enter func216,ntmps216;go_wp2_with (first|(go_at_call 223;refine (Jb _ _ _).mono ?_;(first|rw[ho]|rw[ho2]);rintro e w1 ⟨rfl,rfl⟩)|(go_at_call 223;refine (Jb _ _ _).mono ?_;(first|rw[ho2]|rw[ho]);rintro e w1 ⟨rfl,rfl⟩));go_returns;exact⟨_,_,_,rfl,by first|exact ((((((Kr _ _).alloc _).alloc _).alloc _).alloc _).alloc _)|exact (((((Kr _ _).alloc _).alloc _).alloc _).alloc _)|skip⟩
 |true =>
 obtain rfl:ka=kb:=by simpa using hk
 have hK:opK op ka ia ka ib=(if ka=1 then Q82 op (ib==0) else if ka=2 then Q4f op else if ka=3 then Q4g op else Q59 op):=by simp[opK,ho,ho2]
 by_cases h1:ka=1
 ·subst h1
  have hI:=Qib op ia ib;rw[Ps rfl] at hK;rw[hK];generalize Q82 op (ib==0)=P at hI;obtain⟨p1,p2⟩:=P;clear hK;go_enter func216,ntmps216;go_wp2_with (first|(go_at_call 223;refine (Jb _ _ _).mono ?_;(first|rw[ho]|rw[ho2]);rintro e w1 ⟨rfl,rfl⟩)|(go_at_call 224;refine (hI _).mono ?_;rintro e w1 ⟨i,x,y,he,hk1⟩;dsimp only at he;subst he;have bR:Blk w1 (w.heap.size+1+1) [.int .i64 0,.int .i64 0,.float .f64 0,.float .f64 0] 106:=Blk.kept (((Blk.new_of _ _ _ (by simp)).alloc _).alloc _) hk1 id;have r0:=bR.cell 0 _ rfl;have r1:=bR.cell 1 _ rfl;have r2:=bR.cell 2 _ rfl;have r3:=bR.cell 3 _ rfl;have q0:=bR.free 0;have q1:=bR.free 1;have q2:=bR.free 2;have q3:=bR.free 3));have b1:=bR.set 0 (.int .i64 p1);have b2:=b1.set 1 (.int .i64 i);have b3:=b2.set 2 (.float .f64 x);have b4:=b3.set 3 (.float .f64 y);have e0:=b1.cell 0 _ rfl;have e1:=b2.cell 1 _ rfl;have e2:=b3.cell 2 _ rfl;have e3:=b4.cell 3 _ rfl;refine bodyPost_ret (v:=.tuple #[.agg #[.int .i64 p1,.int .i64 i,.float .f64 x,.float .f64 y],.int .i64 p2]) (by simp[results,results216,go_sem,e0,e1,e2,e3]) rfl ⟨i,x,y,rfl,?_⟩;have hKK:=Kt ((((((Kr nob w).alloc _).alloc _).alloc _).alloc _).alloc _) hk1;exact Q0.setCell (Q0.setCell (Q0.setCell (Q0.setCell hKK (Or.inr (by simp;omega)) _) (Or.inr (by simp;omega)) _) (Or.inr (by simp;omega)) _) (Or.inr (by simp;omega)) _
 rw[Ng h1] at hK
 by_cases h2:ka=2
 ·subst h2
  have hI:=Qgx op;rw[Ps rfl] at hK;rw[hK];generalize Q4f op=P at hI;obtain⟨p1,p2⟩:=P;clear hK;go_enter func216,ntmps216;go_wp2_with (first|(go_at_call 223;refine (Jb _ _ _).mono ?_;(first|rw[ho]|rw[ho2]);rintro e w1 ⟨rfl,rfl⟩)|(go_at_call 225;refine (hI _).mono ?_;rintro e w1 ⟨i,x,y,he,hk1⟩;dsimp only at he;subst he;have bR:Blk w1 (w.heap.size+1+1) [.int .i64 0,.int .i64 0,.float .f64 0,.float .f64 0] 106:=Blk.kept (((Blk.new_of _ _ _ (by simp)).alloc _).alloc _) hk1 id;have r0:=bR.cell 0 _ rfl;have r1:=bR.cell 1 _ rfl;have r2:=bR.cell 2 _ rfl;have r3:=bR.cell 3 _ rfl;have q0:=bR.free 0;have q1:=bR.free 1;have q2:=bR.free 2;have q3:=bR.free 3));have b1:=bR.set 0 (.int .i64 p1);have b2:=b1.set 1 (.int .i64 i);have b3:=b2.set 2 (.float .f64 x);have b4:=b3.set 3 (.float .f64 y);have e0:=b1.cell 0 _ rfl;have e1:=b2.cell 1 _ rfl;have e2:=b3.cell 2 _ rfl;have e3:=b4.cell 3 _ rfl;refine bodyPost_ret (v:=.tuple #[.agg #[.int .i64 p1,.int .i64 i,.float .f64 x,.float .f64 y],.int .i64 p2]) (by simp[results,results216,go_sem,e0,e1,e2,e3]) rfl ⟨i,x,y,rfl,?_⟩;have hKK:=Kt ((((((Kr nob w).alloc _).alloc _).alloc _).alloc _).alloc _) hk1;exact Q0.setCell (Q0.setCell (Q0.setCell (Q0.setCell hKK (Or.inr (by simp;omega)) _) (Or.inr (by simp;omega)) _) (Or.inr (by simp;omega)) _) (Or.inr (by simp;omega)) _
 rw[Ng h2] at hK
 by_cases h3:ka=3
 ·subst h3
  have hI:=Qg3 op 3 ia 3 ib;rw[Ps rfl] at hK;rw[hK];generalize Q4g op=P at hI;obtain⟨p1,p2⟩:=P;clear hK;go_enter func216,ntmps216;go_wp2_with (first|(go_at_call 223;refine (Jb _ _ _).mono ?_;(first|rw[ho]|rw[ho2]);rintro e w1 ⟨rfl,rfl⟩)|(go_at_call 226;refine (hI _).mono ?_;rintro e w1 ⟨i,x,y,he,hk1⟩;dsimp only at he;subst he;have bR:Blk w1 (w.heap.size+1+1) [.int .i64 0,.int .i64 0,.float .f64 0,.float .f64 0] 106:=Blk.kept (((Blk.new_of _ _ _ (by simp)).alloc _).alloc _) hk1 id;have r0:=bR.cell 0 _ rfl;have r1:=bR.cell 1 _ rfl;have r2:=bR.cell 2 _ rfl;have r3:=bR.cell 3 _ rfl;have q0:=bR.free 0;have q1:=bR.free 1;have q2:=bR.free 2;have q3:=bR.free 3));have b1:=bR.set 0 (.int .i64 p1);have b2:=b1.set 1 (.int .i64 i);have b3:=b2.set 2 (.float .f64 x);have b4:=b3.set 3 (.float .f64 y);have e0:=b1.cell 0 _ rfl;have e1:=b2.cell 1 _ rfl;have e2:=b3.cell 2 _ rfl;have e3:=b4.cell 3 _ rfl;refine bodyPost_ret (v:=.tuple #[.agg #[.int .i64 p1,.int .i64 i,.float .f64 x,.float .f64 y],.int .i64 p2]) (by simp[results,results216,go_sem,e0,e1,e2,e3]) rfl ⟨i,x,y,rfl,?_⟩;have hKK:=Kt ((((((Kr nob w).alloc _).alloc _).alloc _).alloc _).alloc _) hk1;exact Q0.setCell (Q0.setCell (Q0.setCell (Q0.setCell hKK (Or.inr (by simp;omega)) _) (Or.inr (by simp;omega)) _) (Or.inr (by simp;omega)) _) (Or.inr (by simp;omega)) _
 rw[Ng h3] at hK;have hI:=Qgi op ia ib;rw[hK];generalize Q59 op=P at hI;obtain⟨p1,p2⟩:=P;clear hK;go_enter func216,ntmps216;go_wp2_with (first|(go_at_call 223;refine (Jb _ _ _).mono ?_;(first|rw[ho]|rw[ho2]);rintro e w1 ⟨rfl,rfl⟩)|(go_at_call 227;refine (hI _).mono ?_;rintro e w1 ⟨i,x,y,he,hk1⟩;dsimp only at he;subst he;have bR:Blk w1 (w.heap.size+1+1) [.int .i64 0,.int .i64 0,.float .f64 0,.float .f64 0] 106:=Blk.kept (((Blk.new_of _ _ _ (by simp)).alloc _).alloc _) hk1 id;have r0:=bR.cell 0 _ rfl;have r1:=bR.cell 1 _ rfl;have r2:=bR.cell 2 _ rfl;have r3:=bR.cell 3 _ rfl;have q0:=bR.free 0;have q1:=bR.free 1;have q2:=bR.free 2;have q3:=bR.free 3));have b1:=bR.set 0 (.int .i64 p1);have b2:=b1.set 1 (.int .i64 i);have b3:=b2.set 2 (.float .f64 x);have b4:=b3.set 3 (.float .f64 y);have e0:=b1.cell 0 _ rfl;have e1:=b2.cell 1 _ rfl;have e2:=b3.cell 2 _ rfl;have e3:=b4.cell 3 _ rfl;refine bodyPost_ret (v:=.tuple #[.agg #[.int .i64 p1,.int .i64 i,.float .f64 x,.float .f64 y],.int .i64 p2]) (by simp[results,results216,go_sem,e0,e1,e2,e3]) rfl ⟨i,x,y,rfl,?_⟩;have hKK:=Kt ((((((Kr nob w).alloc _).alloc _).alloc _).alloc _).alloc _) hk1;exact Q0.setCell (Q0.setCell (Q0.setCell (Q0.setCell hKK (Or.inr (by simp;omega)) _) (Or.inr (by simp;omega)) _) (Or.inr (by simp;omega)) _) (Or.inr (by simp;omega)) _
namespace Go
@[go_sem] theorem run_unary_neg_float (P:Program) (w:World) (k:FloatKind) (b:Nat):(Op.unary .neg (.float k b)).run P w=.ok (.float k (Op.negFloat k b)) w:=rfl
end Go
def J6 (op k i:Int):Int×Int :=
 if okZ k i then (
  if op=1∧k=1 then (1,0) else if op=1∧k=2 then (2,0) else if op=1∧k=3 then (3,0) else if op=2∧k=4 then (4,0)
  else if op=3∧k=3 then (2,0) else if op=4∧k=3 then (2,0) else if op=5∧k=1 then (2,0) else if op=6∧k=3 then (2,0) else (0,1)) else (0,1)
theorem Qe0 (op k i:Int) (w:World):Calls prog 217 #[.int .i64 op,.agg #[.int .i64 k,.int .i64 i,.float .f64 0,.float .f64 0]] w (Q4n (J6 op k i) w):=by
 have ha:=Qa3;have hm:=Qar;cases ho:okZ k i with
 |false =>
  have hK:J6 op k i=(0,1):=by simp[J6,ho]
  rw[hK];clear hK;go_enter func217,ntmps217;go_wp2_with (first|(first|(go_at_call 229;refine (J2 _ _).mono ?_;rintro e w1 ⟨i,hi,rfl,rfl⟩;clear hi)|(go_at_call 228;refine (Jd _ _).mono ?_;rintro e w1 ⟨rfl,rfl⟩))|(go_at_call 223;refine (Jb _ _ _).mono ?_;rw[ho];rintro e w1 ⟨rfl,rfl⟩));go_returns;exact⟨_,_,_,rfl,by first|exact ((((Kr _ _).alloc _).alloc _).alloc _)|exact (((((Kr _ _).alloc _).alloc _).alloc _).alloc _)⟩
 |true =>
 by_cases o1:op=1
 ·subst o1
  by_cases k1:k=1
  ·subst k1
   have hK:J6 1 1 i=(1,0):=by simp[J6,ho]
   rw[hK];clear hK;go_enter func217,ntmps217;go_wp2_with (first|(first|(go_at_call 229;refine (J2 _ _).mono ?_;rintro e w1 ⟨i,hi,rfl,rfl⟩;clear hi)|(go_at_call 228;refine (Jd _ _).mono ?_;rintro e w1 ⟨rfl,rfl⟩))|(go_at_call 223;refine (Jb _ _ _).mono ?_;rw[ho];rintro e w1 ⟨rfl,rfl⟩));go_returns;exact⟨_,_,_,rfl,by first|exact ((((Kr _ _).alloc _).alloc _).alloc _)|exact (((((Kr _ _).alloc _).alloc _).alloc _).alloc _)⟩
  by_cases k2:k=2
  ·subst k2
   have hK:J6 1 2 i=(2,0):=by simp[J6,ho]
   rw[hK];clear hK;go_enter func217,ntmps217;go_wp2_with (first|(first|(go_at_call 229;refine (J2 _ _).mono ?_;rintro e w1 ⟨i,hi,rfl,rfl⟩;clear hi)|(go_at_call 228;refine (Jd _ _).mono ?_;rintro e w1 ⟨rfl,rfl⟩))|(go_at_call 223;refine (Jb _ _ _).mono ?_;rw[ho];rintro e w1 ⟨rfl,rfl⟩));go_returns;exact⟨_,_,_,rfl,by first|exact ((((Kr _ _).alloc _).alloc _).alloc _)|exact (((((Kr _ _).alloc _).alloc _).alloc _).alloc _)⟩
  by_cases k3:k=3
  ·subst k3
   have hK:J6 1 3 i=(3,0):=by simp[J6,ho]
   rw[hK];clear hK;go_enter func217,ntmps217;go_wp2_with (first|(first|(go_at_call 229;refine (J2 _ _).mono ?_;rintro e w1 ⟨i,hi,rfl,rfl⟩;clear hi)|(go_at_call 228;refine (Jd _ _).mono ?_;rintro e w1 ⟨rfl,rfl⟩))|(go_at_call 223;refine (Jb _ _ _).mono ?_;rw[ho];rintro e w1 ⟨rfl,rfl⟩));go_returns;exact⟨_,_,_,rfl,by first|exact ((((Kr _ _).alloc _).alloc _).alloc _)|exact (((((Kr _ _).alloc _).alloc _).alloc _).alloc _)⟩
  have hK:J6 1 k i=(0,1):=by simp[J6,ho,k1,k2,k3]
  rw[hK];clear hK;go_enter func217,ntmps217;go_wp2_with (first|(first|(go_at_call 229;refine (J2 _ _).mono ?_;rintro e w1 ⟨i,hi,rfl,rfl⟩;clear hi)|(go_at_call 228;refine (Jd _ _).mono ?_;rintro e w1 ⟨rfl,rfl⟩))|(go_at_call 223;refine (Jb _ _ _).mono ?_;rw[ho];rintro e w1 ⟨rfl,rfl⟩));go_returns;exact⟨_,_,_,rfl,by first|exact ((((Kr _ _).alloc _).alloc _).alloc _)|exact (((((Kr _ _).alloc _).alloc _).alloc _).alloc _)⟩
 by_cases o2:op=2
 ·subst o2
  by_cases k4:k=4
  ·subst k4
   have hK:J6 2 4 i=(4,0):=by simp[J6,ho]
   rw[hK];clear hK;go_enter func217,ntmps217;go_wp2_with (first|(first|(go_at_call 229;refine (J2 _ _).mono ?_;rintro e w1 ⟨i,hi,rfl,rfl⟩;clear hi)|(go_at_call 228;refine (Jd _ _).mono ?_;rintro e w1 ⟨rfl,rfl⟩))|(go_at_call 223;refine (Jb _ _ _).mono ?_;rw[ho];rintro e w1 ⟨rfl,rfl⟩));go_returns;exact⟨_,_,_,rfl,by first|exact ((((Kr _ _).alloc _).alloc _).alloc _)|exact (((((Kr _ _).alloc _).alloc _).alloc _).alloc _)⟩
  have hK:J6 2 k i=(0,1):=by simp[J6,ho,k4]
  rw[hK];clear hK;go_enter func217,ntmps217;go_wp2_with (first|(first|(go_at_call 229;refine (J2 _ _).mono ?_;rintro e w1 ⟨i,hi,rfl,rfl⟩;clear hi)|(go_at_call 228;refine (Jd _ _).mono ?_;rintro e w1 ⟨rfl,rfl⟩))|(go_at_call 223;refine (Jb _ _ _).mono ?_;rw[ho];rintro e w1 ⟨rfl,rfl⟩));go_returns;exact⟨_,_,_,rfl,by first|exact ((((Kr _ _).alloc _).alloc _).alloc _)|exact (((((Kr _ _).alloc _).alloc _).alloc _).alloc _)⟩
 by_cases o3:op=3
 ·subst o3
  by_cases k3:k=3
  ·subst k3
   have hK:J6 3 3 i=(2,0):=by simp[J6,ho]
   rw[hK];clear hK;go_enter func217,ntmps217;go_wp2_with (first|(first|(go_at_call 229;refine (J2 _ _).mono ?_;rintro e w1 ⟨i,hi,rfl,rfl⟩;clear hi)|(go_at_call 228;refine (Jd _ _).mono ?_;rintro e w1 ⟨rfl,rfl⟩))|(go_at_call 223;refine (Jb _ _ _).mono ?_;rw[ho];rintro e w1 ⟨rfl,rfl⟩));go_returns;exact⟨_,_,_,rfl,by first|exact ((((Kr _ _).alloc _).alloc _).alloc _)|exact (((((Kr _ _).alloc _).alloc _).alloc _).alloc _)⟩
  have hK:J6 3 k i=(0,1):=by simp[J6,ho,k3]
  rw[hK];clear hK;go_enter func217,ntmps217;go_wp2_with (first|(first|(go_at_call 229;refine (J2 _ _).mono ?_;rintro e w1 ⟨i,hi,rfl,rfl⟩;clear hi)|(go_at_call 228;refine (Jd _ _).mono ?_;rintro e w1 ⟨rfl,rfl⟩))|(go_at_call 223;refine (Jb _ _ _).mono ?_;rw[ho];rintro e w1 ⟨rfl,rfl⟩));go_returns;exact⟨_,_,_,rfl,by first|exact ((((Kr _ _).alloc _).alloc _).alloc _)|exact (((((Kr _ _).alloc _).alloc _).alloc _).alloc _)⟩
 by_cases o4:op=4
 ·subst o4
  by_cases k3:k=3
  ·subst k3
   have hK:J6 4 3 i=(2,0):=by simp[J6,ho]
   rw[hK];clear hK;go_enter func217,ntmps217;go_wp2_with (first|(first|(go_at_call 229;refine (J2 _ _).mono ?_;rintro e w1 ⟨i,hi,rfl,rfl⟩;clear hi)|(go_at_call 228;refine (Jd _ _).mono ?_;rintro e w1 ⟨rfl,rfl⟩))|(go_at_call 223;refine (Jb _ _ _).mono ?_;rw[ho];rintro e w1 ⟨rfl,rfl⟩));go_returns;exact⟨_,_,_,rfl,by first|exact ((((Kr _ _).alloc _).alloc _).alloc _)|exact (((((Kr _ _).alloc _).alloc _).alloc _).alloc _)⟩
  have hK:J6 4 k i=(0,1):=by simp[J6,ho,k3]
  rw[hK];clear hK;go_enter func217,ntmps217;go_wp2_with (first|(first|(go_at_call 229;refine (J2 _ _).mono ?_;rintro e w1 ⟨i,hi,rfl,rfl⟩;clear hi)|(go_at_call 228;refine (Jd _ _).mono ?_;rintro e w1 ⟨rfl,rfl⟩))|(go_at_call 223;refine (Jb _ _ _).mono ?_;rw[ho];rintro e w1 ⟨rfl,rfl⟩));go_returns;exact⟨_,_,_,rfl,by first|exact ((((Kr _ _).alloc _).alloc _).alloc _)|exact (((((Kr _ _).alloc _).alloc _).alloc _).alloc _)⟩
 by_cases o5:op=5
 ·subst o5
  by_cases k1:k=1
  ·subst k1
   have hK:J6 5 1 i=(2,0):=by simp[J6,ho]
   rw[hK];clear hK;go_enter func217,ntmps217;go_wp2_with (first|(first|(go_at_call 229;refine (J2 _ _).mono ?_;rintro e w1 ⟨i,hi,rfl,rfl⟩;clear hi)|(go_at_call 228;refine (Jd _ _).mono ?_;rintro e w1 ⟨rfl,rfl⟩))|(go_at_call 223;refine (Jb _ _ _).mono ?_;rw[ho];rintro e w1 ⟨rfl,rfl⟩));go_returns;exact⟨_,_,_,rfl,by first|exact ((((Kr _ _).alloc _).alloc _).alloc _)|exact (((((Kr _ _).alloc _).alloc _).alloc _).alloc _)⟩
  have hK:J6 5 k i=(0,1):=by simp[J6,ho,k1]
  rw[hK];clear hK;go_enter func217,ntmps217;go_wp2_with (first|(first|(go_at_call 229;refine (J2 _ _).mono ?_;rintro e w1 ⟨i,hi,rfl,rfl⟩;clear hi)|(go_at_call 228;refine (Jd _ _).mono ?_;rintro e w1 ⟨rfl,rfl⟩))|(go_at_call 223;refine (Jb _ _ _).mono ?_;rw[ho];rintro e w1 ⟨rfl,rfl⟩));go_returns;exact⟨_,_,_,rfl,by first|exact ((((Kr _ _).alloc _).alloc _).alloc _)|exact (((((Kr _ _).alloc _).alloc _).alloc _).alloc _)⟩
 by_cases o6:op=6
 ·subst o6
  by_cases k3:k=3
  ·subst k3
   have hK:J6 6 3 i=(2,0):=by simp[J6,ho]
   rw[hK];clear hK;go_enter func217,ntmps217;go_wp2_with (first|(first|(go_at_call 229;refine (J2 _ _).mono ?_;rintro e w1 ⟨i,hi,rfl,rfl⟩;clear hi)|(go_at_call 228;refine (Jd _ _).mono ?_;rintro e w1 ⟨rfl,rfl⟩))|(go_at_call 223;refine (Jb _ _ _).mono ?_;rw[ho];rintro e w1 ⟨rfl,rfl⟩));go_returns;exact⟨_,_,_,rfl,by first|exact ((((Kr _ _).alloc _).alloc _).alloc _)|exact (((((Kr _ _).alloc _).alloc _).alloc _).alloc _)⟩
  have hK:J6 6 k i=(0,1):=by simp[J6,ho,k3]
  rw[hK];clear hK;go_enter func217,ntmps217;go_wp2_with (first|(first|(go_at_call 229;refine (J2 _ _).mono ?_;rintro e w1 ⟨i,hi,rfl,rfl⟩;clear hi)|(go_at_call 228;refine (Jd _ _).mono ?_;rintro e w1 ⟨rfl,rfl⟩))|(go_at_call 223;refine (Jb _ _ _).mono ?_;rw[ho];rintro e w1 ⟨rfl,rfl⟩));go_returns;exact⟨_,_,_,rfl,by first|exact ((((Kr _ _).alloc _).alloc _).alloc _)|exact (((((Kr _ _).alloc _).alloc _).alloc _).alloc _)⟩
 have hK:J6 op k i=(0,1):=by simp[J6,ho,o1,o2,o3,o4,o5,o6]
 rw[hK];clear hK;go_enter func217,ntmps217;go_wp2_with (first|(first|(go_at_call 229;refine (J2 _ _).mono ?_;rintro e w1 ⟨i,hi,rfl,rfl⟩;clear hi)|(go_at_call 228;refine (Jd _ _).mono ?_;rintro e w1 ⟨rfl,rfl⟩))|(go_at_call 223;refine (Jb _ _ _).mono ?_;rw[ho];rintro e w1 ⟨rfl,rfl⟩));go_returns;exact⟨_,_,_,rfl,by first|exact ((((Kr _ _).alloc _).alloc _).alloc _)|exact (((((Kr _ _).alloc _).alloc _).alloc _).alloc _)⟩
def Qmj (ka ia kb ib:Int):Bool:=okZ ka ia&&okZ kb ib&&(ka==2)&&(kb==2)
def Z8 (ka ia kb ib:Int):Bool:=okZ ka ia&&okZ kb ib&&(ka==2)&&(kb==2)
def Qfg (p:Bool) (w:World) (e:Ending) (w':World):Prop:=∃(i:Int) (x y:Nat),e=.returned (.tuple #[.agg #[.int .i64 (if p then 3 else 0),.int .i64 i,.float .f64 x,.float .f64 y],.bool p])∧Q0 nob w w'
theorem Qeg (ka ia kb ib:Int) (w:World):Calls prog 218 #[.agg #[.int .i64 ka,.int .i64 ia,.float .f64 0,.float .f64 0],.agg #[.int .i64 kb,.int .i64 ib,.float .f64 0,.float .f64 0]] w (Qfg (Z8 ka ia kb ib) w):=by
 cases ho:okZ ka ia with
 |false =>
  have hK:Z8 ka ia kb ib=false:=by simp[Z8,ho]
  rw[hK];clear hK;go_enter func218,ntmps218;go_wp2_with (first|(go_at_call 223;refine (Jb _ _ _).mono ?_;rw[ho];rintro e w1 ⟨rfl,rfl⟩)|(go_at_call 223;refine (Jb _ _ _).mono ?_;rw[ho2];rintro e w1 ⟨rfl,rfl⟩));go_returns;exact⟨_,_,_,rfl,by first|exact ((((Kr _ _).alloc _).alloc _).alloc _).alloc _|exact (((((Kr _ _).alloc _).alloc _).alloc _).alloc _).alloc _⟩
 |true =>
 cases ho2:okZ kb ib with
 |false =>
  have hK:Z8 ka ia kb ib=false:=by simp[Z8,ho2]
  rw[hK];clear hK;go_enter func218,ntmps218;go_wp2_with (first|(go_at_call 223;refine (Jb _ _ _).mono ?_;rw[ho];rintro e w1 ⟨rfl,rfl⟩)|(go_at_call 223;refine (Jb _ _ _).mono ?_;rw[ho2];rintro e w1 ⟨rfl,rfl⟩));go_returns;exact⟨_,_,_,rfl,by first|exact ((((Kr _ _).alloc _).alloc _).alloc _).alloc _|exact (((((Kr _ _).alloc _).alloc _).alloc _).alloc _).alloc _⟩
 |true =>
 by_cases k1:ka=2
 ·subst k1
  by_cases k2:kb=2
  ·subst k2
   have hK:Z8 2 ia 2 ib=true:=by simp[Z8,ho,ho2]
   rw[hK];clear hK;go_enter func218,ntmps218;go_wp2_with (first|(go_at_call 223;refine (Jb _ _ _).mono ?_;rw[ho];rintro e w1 ⟨rfl,rfl⟩)|(go_at_call 223;refine (Jb _ _ _).mono ?_;rw[ho2];rintro e w1 ⟨rfl,rfl⟩));go_returns;exact⟨_,_,_,rfl,by first|exact ((((Kr _ _).alloc _).alloc _).alloc _).alloc _|exact (((((Kr _ _).alloc _).alloc _).alloc _).alloc _).alloc _⟩
  have hK:Z8 2 ia kb ib=false:=by simp[Z8,k2]
  rw[hK];clear hK;go_enter func218,ntmps218;go_wp2_with (first|(go_at_call 223;refine (Jb _ _ _).mono ?_;rw[ho];rintro e w1 ⟨rfl,rfl⟩)|(go_at_call 223;refine (Jb _ _ _).mono ?_;rw[ho2];rintro e w1 ⟨rfl,rfl⟩));go_returns;exact⟨_,_,_,rfl,by first|exact ((((Kr _ _).alloc _).alloc _).alloc _).alloc _|exact (((((Kr _ _).alloc _).alloc _).alloc _).alloc _).alloc _⟩
 have hK:Z8 ka ia kb ib=false:=by simp[Z8,k1]
 rw[hK];clear hK;go_enter func218,ntmps218;go_wp2_with (first|(go_at_call 223;refine (Jb _ _ _).mono ?_;rw[ho];rintro e w1 ⟨rfl,rfl⟩)|(go_at_call 223;refine (Jb _ _ _).mono ?_;rw[ho2];rintro e w1 ⟨rfl,rfl⟩));go_returns;exact⟨_,_,_,rfl,by first|exact ((((Kr _ _).alloc _).alloc _).alloc _).alloc _|exact (((((Kr _ _).alloc _).alloc _).alloc _).alloc _).alloc _⟩
end Go.Proofs.YtkgkafjachjafaaGreat
