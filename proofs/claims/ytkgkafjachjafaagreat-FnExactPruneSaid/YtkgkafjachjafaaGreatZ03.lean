/- Part 3 of: FnExactPrune answers true; no condition. -/
import Derived.Laws.FloatArith
import Derived.Laws.Externs
import Derived.Handy
import Derived.Test.YtkgkafjachjafaaGreatZ01
set_option linter.unusedVariables false
set_option maxHeartbeats 1000000
open Go Go.RowKit
namespace Go.Proofs.YtkgkafjachjafaaGreat
open Tryz
namespace Go
section
variable (P:Program) (w:World) (a:Addr) (m:Mode)
@[go_sem] theorem run_store_float (k:FloatKind) (b:Nat):(store a (.float k b) m).run P w=stored P w a (.float k b) m:=run_store P w a _ m rfl
end
end Go
structure Val where
 kind:Int
 i:Int
 x:Nat
 y:Nat
def Val.v (a:Val):Value:=.agg #[.int .i64 a.kind,.int .i64 a.i,.float .f64 a.x,.float .f64 a.y]
def Qjs:Val:=⟨0,0,0,0⟩
def Val.okB (a:Val):Bool :=
 if a.kind=1 then (a.x==0)&&(a.y==0)
 else if a.kind=2 then (a.i==0)&&(a.y==0)
 else if a.kind=3 then a.i==0
 else if a.kind=4 then (Q9 a.i 0 1&&(a.x==0))&&(a.y==0)
 else false
def Q30 (k:Int):Val:=if Q9 k 1 4 then ⟨k,0,0,0⟩ else Qjs
theorem Q84 (x:Nat) (w:World):(callFunc 237 #[.float .f64 x]).run prog w=.ok (.value (.int .u64 x)) w:=by
 rw[run_callFunc_extern (fn:=f237) (e:=Extern.MathFloatBits.float64bits) (by kernel_rfl) (by kernel_rfl) (by kernel_rfl) (by kernel_rfl) (by kernel_rfl)];rfl
theorem Q0p (x:Nat) (w:World):Calls prog 235 #[.float .f64 x] w fun e w'=>e=.returned (.bool (x==0))∧w=w':=by
 have hb:=Q84 x;go_enter func235,ntmps235;go_wp2;go_returns;refine⟨Q6 ?_,rfl⟩;rw[Bool.eq_iff_iff];simp
theorem Q5u (k:Int) (w:World):Calls prog 215 #[.int .i64 k] w fun e w'=>e=.returned (Q30 k).v∧Q0 nob w w':=by
 cases hk:Q9 k 1 4 with
 |true =>
  go_enter func215,ntmps215;go_wp2_with (go_at_call 87;refine (Q1g _ _).mono ?_;rintro e w1 ⟨rfl,rfl⟩);go_returns;refine⟨?_,(Kr _ _).alloc _⟩;simp[Q30,hk,Val.v]
 |false =>
  go_enter func215,ntmps215;go_wp2_with (go_at_call 87;refine (Q1g _ _).mono ?_;rintro e w1 ⟨rfl,rfl⟩);go_returns;refine⟨?_,(Kr _ _).alloc _⟩;simp[Q30,hk,Val.v,Qjs]
theorem J2 (b:Bool) (w:World):Calls prog 229 #[.bool b] w fun e w'=>∃i:Int,i=(if b then 1 else 0)∧e=.returned (.tuple #[.agg #[.int .i64 4,.int .i64 i,.float .f64 0,.float .f64 0],.int .i64 0])∧w.alloc (.cells #[.int .i64 4,.int .i64 i,.float .f64 0,.float .f64 0] 106 (0,0))=w':=by
 cases b with
 |true =>
  go_enter func229,ntmps229;go_wp2;go_returns;exact⟨rfl,rfl⟩
 |false =>
  go_enter func229,ntmps229;go_wp2;go_returns;exact⟨rfl,rfl⟩
theorem Jd (x:Nat) (w:World):Calls prog 228 #[.float .f64 x] w fun e w'=>e=.returned (.tuple #[.agg #[.int .i64 2,.int .i64 0,.float .f64 x,.float .f64 0],.int .i64 0])∧w.alloc (.cells #[.int .i64 2,.int .i64 0,.float .f64 x,.float .f64 0] 106 (0,0))=w':=by
 go_enter func228,ntmps228;go_wp2;go_returns;exact⟨rfl,rfl⟩
def Q4n (kc:Int×Int) (w:World) (e:Ending) (w':World):Prop:=∃(i:Int) (x y:Nat),e=.returned (.tuple #[.agg #[.int .i64 kc.1,.int .i64 i,.float .f64 x,.float .f64 y],.int .i64 kc.2])∧Q0 nob w w'
def Q82 (op:Int) (z:Bool):Int×Int :=
 if op=1∨op=2∨op=3 then (1,0) else if op=4∨op=5 then (if z then (0,2) else (1,0)) else if op=6∨op=7 then (4,0) else (0,1)
theorem Qib (op a b:Int) (w:World):Calls prog 224 #[.int .i64 op,.int .i64 a,.int .i64 b] w (Q4n (Q82 op (b==0)) w):=by
 by_cases h1:op=1
 ·subst h1
  go_enter func224,ntmps224;go_wp2_with (first|(go_at_call 229;refine (J2 _ _).mono ?_;rintro e w1 ⟨i,hi,rfl,rfl⟩;clear hi)|(go_at_call 228;refine (Jd _ _).mono ?_;rintro e w1 ⟨rfl,rfl⟩));go_returns;exact⟨_,_,_,rfl,by first|exact (Kr _ _).alloc _|exact ((Kr _ _).alloc _).alloc _|exact (((Kr _ _).alloc _).alloc _).alloc _|exact (((Kr _ _).alloc _).drew).alloc _⟩
 by_cases h2:op=2
 ·subst h2
  go_enter func224,ntmps224;go_wp2_with (first|(go_at_call 229;refine (J2 _ _).mono ?_;rintro e w1 ⟨i,hi,rfl,rfl⟩;clear hi)|(go_at_call 228;refine (Jd _ _).mono ?_;rintro e w1 ⟨rfl,rfl⟩));go_returns;exact⟨_,_,_,rfl,by first|exact (Kr _ _).alloc _|exact ((Kr _ _).alloc _).alloc _|exact (((Kr _ _).alloc _).alloc _).alloc _|exact (((Kr _ _).alloc _).drew).alloc _⟩
 by_cases h3:op=3
 ·subst h3
  go_enter func224,ntmps224;go_wp2_with (first|(go_at_call 229;refine (J2 _ _).mono ?_;rintro e w1 ⟨i,hi,rfl,rfl⟩;clear hi)|(go_at_call 228;refine (Jd _ _).mono ?_;rintro e w1 ⟨rfl,rfl⟩));go_returns;exact⟨_,_,_,rfl,by first|exact (Kr _ _).alloc _|exact ((Kr _ _).alloc _).alloc _|exact (((Kr _ _).alloc _).alloc _).alloc _|exact (((Kr _ _).alloc _).drew).alloc _⟩
 by_cases h4:op=4
 ·subst h4
  cases hb:(b==0) with
  |true =>
   go_enter func224,ntmps224;go_wp2_with (first|(go_at_call 229;refine (J2 _ _).mono ?_;rintro e w1 ⟨i,hi,rfl,rfl⟩;clear hi)|(go_at_call 228;refine (Jd _ _).mono ?_;rintro e w1 ⟨rfl,rfl⟩));go_returns;exact⟨_,_,_,rfl,by first|exact (Kr _ _).alloc _|exact ((Kr _ _).alloc _).alloc _|exact (((Kr _ _).alloc _).alloc _).alloc _|exact (((Kr _ _).alloc _).drew).alloc _⟩
  |false =>
   have hb0:¬ b=0:=by simpa using hb
   go_enter func224,ntmps224;go_wp2_with (first|(go_at_call 229;refine (J2 _ _).mono ?_;rintro e w1 ⟨i,hi,rfl,rfl⟩;clear hi)|(go_at_call 228;refine (Jd _ _).mono ?_;rintro e w1 ⟨rfl,rfl⟩));go_returns;exact⟨_,_,_,rfl,by first|exact (Kr _ _).alloc _|exact ((Kr _ _).alloc _).alloc _|exact (((Kr _ _).alloc _).alloc _).alloc _|exact (((Kr _ _).alloc _).drew).alloc _⟩
 by_cases h5:op=5
 ·subst h5
  cases hb:(b==0) with
  |true =>
   go_enter func224,ntmps224;go_wp2_with (first|(go_at_call 229;refine (J2 _ _).mono ?_;rintro e w1 ⟨i,hi,rfl,rfl⟩;clear hi)|(go_at_call 228;refine (Jd _ _).mono ?_;rintro e w1 ⟨rfl,rfl⟩));go_returns;exact⟨_,_,_,rfl,by first|exact (Kr _ _).alloc _|exact ((Kr _ _).alloc _).alloc _|exact (((Kr _ _).alloc _).alloc _).alloc _|exact (((Kr _ _).alloc _).drew).alloc _⟩
  |false =>
   have hb0:¬ b=0:=by simpa using hb
   go_enter func224,ntmps224;go_wp2_with (first|(go_at_call 229;refine (J2 _ _).mono ?_;rintro e w1 ⟨i,hi,rfl,rfl⟩;clear hi)|(go_at_call 228;refine (Jd _ _).mono ?_;rintro e w1 ⟨rfl,rfl⟩));go_returns;exact⟨_,_,_,rfl,by first|exact (Kr _ _).alloc _|exact ((Kr _ _).alloc _).alloc _|exact (((Kr _ _).alloc _).alloc _).alloc _|exact (((Kr _ _).alloc _).drew).alloc _⟩
 by_cases h6:op=6
 ·subst h6
  go_enter func224,ntmps224;go_wp2_with (first|(go_at_call 229;refine (J2 _ _).mono ?_;rintro e w1 ⟨i,hi,rfl,rfl⟩;clear hi)|(go_at_call 228;refine (Jd _ _).mono ?_;rintro e w1 ⟨rfl,rfl⟩));go_returns;exact⟨_,_,_,rfl,by first|exact (Kr _ _).alloc _|exact ((Kr _ _).alloc _).alloc _|exact (((Kr _ _).alloc _).alloc _).alloc _|exact (((Kr _ _).alloc _).drew).alloc _⟩
 by_cases h7:op=7
 ·subst h7
  go_enter func224,ntmps224;go_wp2_with (first|(go_at_call 229;refine (J2 _ _).mono ?_;rintro e w1 ⟨i,hi,rfl,rfl⟩;clear hi)|(go_at_call 228;refine (Jd _ _).mono ?_;rintro e w1 ⟨rfl,rfl⟩));go_returns;exact⟨_,_,_,rfl,by first|exact (Kr _ _).alloc _|exact ((Kr _ _).alloc _).alloc _|exact (((Kr _ _).alloc _).alloc _).alloc _|exact (((Kr _ _).alloc _).drew).alloc _⟩
 have hK:Q82 op (b==0)=(0,1):=by simp[Q82,h1,h2,h3,h4,h5,h6,h7]
 rw[hK];go_enter func224,ntmps224;go_wp2_with (first|(go_at_call 229;refine (J2 _ _).mono ?_;rintro e w1 ⟨i,hi,rfl,rfl⟩;clear hi)|(go_at_call 228;refine (Jd _ _).mono ?_;rintro e w1 ⟨rfl,rfl⟩));go_returns;exact⟨_,_,_,rfl,by first|exact (Kr _ _).alloc _|exact ((Kr _ _).alloc _).alloc _|exact (((Kr _ _).alloc _).alloc _).alloc _|exact (((Kr _ _).alloc _).drew).alloc _⟩
def Q59 (op:Int):Int×Int:=if op=7∨op=8∨op=9 then (4,0) else (0,1)
def Q4f (op:Int):Int×Int:=if op=1∨op=2∨op=3∨op=4 then (2,0) else if op=6∨op=7 then (4,0) else (0,1)
def Q4g (op:Int):Int×Int:=if op=1∨op=2∨op=3 then (3,0) else if op=7 then (4,0) else (0,1)
theorem Qa3 (w:World):(binOp .add 104 (.float .f64 0) (.float .f64 0)).run prog w=.ok (.float .f64 0) w:=run_float_arith w .add _ .f64 0 0 0 (by decide +kernel)
theorem Qfh (w:World):(binOp .sub 104 (.float .f64 0) (.float .f64 0)).run prog w=.ok (.float .f64 0) w:=run_float_arith w .sub _ .f64 0 0 0 (by decide +kernel)
theorem Qar (w:World):(binOp .mul 104 (.float .f64 0) (.float .f64 0)).run prog w=.ok (.float .f64 0) w:=run_float_arith w .mul _ .f64 0 0 0 (by decide +kernel)
theorem Qlq:∃f:World→Nat,∀w:World,(binOp .quo 104 (.float .f64 0) (.float .f64 0)).run prog w=.ok (.float .f64 (f w)) w.drew:=by
 have h:FloatKind.f64.format.div 0 0=none:=by decide +kernel
 refine⟨fun w=>Question.cut (.nanBits .f64 0 0) (w.tape w.drawn (.nanBits .f64 0 0)),fun w=>?_⟩
 simp[binOp,Op.floatArith,h,Question.forced]
theorem Qgi (op a b:Int) (w:World):Calls prog 227 #[.int .i64 op,.int .i64 a,.int .i64 b] w (Q4n (Q59 op) w):=by
 by_cases h7:op=7
 ·subst h7
  go_enter func227,ntmps227;go_wp2_with (first|(go_at_call 229;refine (J2 _ _).mono ?_;rintro e w1 ⟨i,hi,rfl,rfl⟩;clear hi)|(go_at_call 228;refine (Jd _ _).mono ?_;rintro e w1 ⟨rfl,rfl⟩));go_returns;exact⟨_,_,_,rfl,by first|exact (Kr _ _).alloc _|exact ((Kr _ _).alloc _).alloc _|exact (((Kr _ _).alloc _).alloc _).alloc _|exact (((Kr _ _).alloc _).drew).alloc _⟩
 by_cases h8:op=8
 ·subst h8
  go_enter func227,ntmps227;go_wp2_with (first|(go_at_call 229;refine (J2 _ _).mono ?_;rintro e w1 ⟨i,hi,rfl,rfl⟩;clear hi)|(go_at_call 228;refine (Jd _ _).mono ?_;rintro e w1 ⟨rfl,rfl⟩));go_returns;exact⟨_,_,_,rfl,by first|exact (Kr _ _).alloc _|exact ((Kr _ _).alloc _).alloc _|exact (((Kr _ _).alloc _).alloc _).alloc _|exact (((Kr _ _).alloc _).drew).alloc _⟩
 by_cases h9:op=9
 ·subst h9
  go_enter func227,ntmps227;go_wp2_with (first|(go_at_call 229;refine (J2 _ _).mono ?_;rintro e w1 ⟨i,hi,rfl,rfl⟩;clear hi)|(go_at_call 228;refine (Jd _ _).mono ?_;rintro e w1 ⟨rfl,rfl⟩));go_returns;exact⟨_,_,_,rfl,by first|exact (Kr _ _).alloc _|exact ((Kr _ _).alloc _).alloc _|exact (((Kr _ _).alloc _).alloc _).alloc _|exact (((Kr _ _).alloc _).drew).alloc _⟩
 have hK:Q59 op=(0,1):=by simp[Q59,h7,h8,h9]
 rw[hK];go_enter func227,ntmps227;go_wp2_with (first|(go_at_call 229;refine (J2 _ _).mono ?_;rintro e w1 ⟨i,hi,rfl,rfl⟩;clear hi)|(go_at_call 228;refine (Jd _ _).mono ?_;rintro e w1 ⟨rfl,rfl⟩));go_returns;exact⟨_,_,_,rfl,by first|exact (Kr _ _).alloc _|exact ((Kr _ _).alloc _).alloc _|exact (((Kr _ _).alloc _).alloc _).alloc _|exact (((Kr _ _).alloc _).drew).alloc _⟩
theorem Qgx (op:Int) (w:World):Calls prog 225 #[.int .i64 op,.float .f64 0,.float .f64 0] w (Q4n (Q4f op) w):=by
 have ha:=Qa3;have hs:=Qfh;have hm:=Qar;obtain⟨fq,hq⟩:=Qlq
 by_cases h1:op=1
 ·subst h1
  go_enter func225,ntmps225;go_wp2_with (first|(go_at_call 229;refine (J2 _ _).mono ?_;rintro e w1 ⟨i,hi,rfl,rfl⟩;clear hi)|(go_at_call 228;refine (Jd _ _).mono ?_;rintro e w1 ⟨rfl,rfl⟩));go_returns;exact⟨_,_,_,rfl,by first|exact (Kr _ _).alloc _|exact ((Kr _ _).alloc _).alloc _|exact (((Kr _ _).alloc _).alloc _).alloc _|exact (((Kr _ _).alloc _).drew).alloc _⟩
 by_cases h2:op=2
 ·subst h2
  go_enter func225,ntmps225;go_wp2_with (first|(go_at_call 229;refine (J2 _ _).mono ?_;rintro e w1 ⟨i,hi,rfl,rfl⟩;clear hi)|(go_at_call 228;refine (Jd _ _).mono ?_;rintro e w1 ⟨rfl,rfl⟩));go_returns;exact⟨_,_,_,rfl,by first|exact (Kr _ _).alloc _|exact ((Kr _ _).alloc _).alloc _|exact (((Kr _ _).alloc _).alloc _).alloc _|exact (((Kr _ _).alloc _).drew).alloc _⟩
 by_cases h3:op=3
 ·subst h3
  go_enter func225,ntmps225;go_wp2_with (first|(go_at_call 229;refine (J2 _ _).mono ?_;rintro e w1 ⟨i,hi,rfl,rfl⟩;clear hi)|(go_at_call 228;refine (Jd _ _).mono ?_;rintro e w1 ⟨rfl,rfl⟩));go_returns;exact⟨_,_,_,rfl,by first|exact (Kr _ _).alloc _|exact ((Kr _ _).alloc _).alloc _|exact (((Kr _ _).alloc _).alloc _).alloc _|exact (((Kr _ _).alloc _).drew).alloc _⟩
 by_cases h4:op=4
 ·subst h4
  go_enter func225,ntmps225;go_wp2_with (first|(go_at_call 229;refine (J2 _ _).mono ?_;rintro e w1 ⟨i,hi,rfl,rfl⟩;clear hi)|(go_at_call 228;refine (Jd _ _).mono ?_;rintro e w1 ⟨rfl,rfl⟩));go_returns;exact⟨_,_,_,rfl,by first|exact (Kr _ _).alloc _|exact ((Kr _ _).alloc _).alloc _|exact (((Kr _ _).alloc _).alloc _).alloc _|exact (((Kr _ _).alloc _).drew).alloc _⟩
 by_cases h6:op=6
 ·subst h6
  go_enter func225,ntmps225;go_wp2_with (first|(go_at_call 229;refine (J2 _ _).mono ?_;rintro e w1 ⟨i,hi,rfl,rfl⟩;clear hi)|(go_at_call 228;refine (Jd _ _).mono ?_;rintro e w1 ⟨rfl,rfl⟩));go_returns;exact⟨_,_,_,rfl,by first|exact (Kr _ _).alloc _|exact ((Kr _ _).alloc _).alloc _|exact (((Kr _ _).alloc _).alloc _).alloc _|exact (((Kr _ _).alloc _).drew).alloc _⟩
 by_cases h7:op=7
 ·subst h7
  go_enter func225,ntmps225;go_wp2_with (first|(go_at_call 229;refine (J2 _ _).mono ?_;rintro e w1 ⟨i,hi,rfl,rfl⟩;clear hi)|(go_at_call 228;refine (Jd _ _).mono ?_;rintro e w1 ⟨rfl,rfl⟩));go_returns;exact⟨_,_,_,rfl,by first|exact (Kr _ _).alloc _|exact ((Kr _ _).alloc _).alloc _|exact (((Kr _ _).alloc _).alloc _).alloc _|exact (((Kr _ _).alloc _).drew).alloc _⟩
 have hK:Q4f op=(0,1):=by simp[Q4f,h1,h2,h3,h4,h6,h7]
 rw[hK];go_enter func225,ntmps225;go_wp2_with (first|(go_at_call 229;refine (J2 _ _).mono ?_;rintro e w1 ⟨i,hi,rfl,rfl⟩;clear hi)|(go_at_call 228;refine (Jd _ _).mono ?_;rintro e w1 ⟨rfl,rfl⟩));go_returns;exact⟨_,_,_,rfl,by first|exact (Kr _ _).alloc _|exact ((Kr _ _).alloc _).alloc _|exact (((Kr _ _).alloc _).alloc _).alloc _|exact (((Kr _ _).alloc _).drew).alloc _⟩
theorem Qg3 (op ka ia kb ib:Int) (w:World):Calls prog 226 #[.int .i64 op,.agg #[.int .i64 ka,.int .i64 ia,.float .f64 0,.float .f64 0],.agg #[.int .i64 kb,.int .i64 ib,.float .f64 0,.float .f64 0]] w (Q4n (Q4g op) w):=by
 have ha:=Qa3;have hs:=Qfh;have hm:=Qar
 by_cases h1:op=1
 ·subst h1
  go_enter func226,ntmps226;go_wp2_with (first|(go_at_call 229;refine (J2 _ _).mono ?_;rintro e w1 ⟨i,hi,rfl,rfl⟩;clear hi)|(go_at_call 228;refine (Jd _ _).mono ?_;rintro e w1 ⟨rfl,rfl⟩));go_returns;exact⟨_,_,_,rfl,by first|exact (Kr _ _).alloc _|exact ((Kr _ _).alloc _).alloc _|exact (((Kr _ _).alloc _).alloc _).alloc _|exact (((Kr _ _).alloc _).drew).alloc _|exact ((((Kr _ _).alloc _).alloc _).alloc _).alloc _⟩
 by_cases h2:op=2
 ·subst h2
  go_enter func226,ntmps226;go_wp2_with (first|(go_at_call 229;refine (J2 _ _).mono ?_;rintro e w1 ⟨i,hi,rfl,rfl⟩;clear hi)|(go_at_call 228;refine (Jd _ _).mono ?_;rintro e w1 ⟨rfl,rfl⟩));go_returns;exact⟨_,_,_,rfl,by first|exact (Kr _ _).alloc _|exact ((Kr _ _).alloc _).alloc _|exact (((Kr _ _).alloc _).alloc _).alloc _|exact (((Kr _ _).alloc _).drew).alloc _|exact ((((Kr _ _).alloc _).alloc _).alloc _).alloc _⟩
 by_cases h3:op=3
 ·subst h3
  go_enter func226,ntmps226;go_wp2_with (first|(go_at_call 229;refine (J2 _ _).mono ?_;rintro e w1 ⟨i,hi,rfl,rfl⟩;clear hi)|(go_at_call 228;refine (Jd _ _).mono ?_;rintro e w1 ⟨rfl,rfl⟩));go_returns;exact⟨_,_,_,rfl,by first|exact (Kr _ _).alloc _|exact ((Kr _ _).alloc _).alloc _|exact (((Kr _ _).alloc _).alloc _).alloc _|exact (((Kr _ _).alloc _).drew).alloc _|exact ((((Kr _ _).alloc _).alloc _).alloc _).alloc _⟩
 by_cases h7:op=7
 ·subst h7
  go_enter func226,ntmps226;go_wp2_with (first|(go_at_call 229;refine (J2 _ _).mono ?_;rintro e w1 ⟨i,hi,rfl,rfl⟩;clear hi)|(go_at_call 228;refine (Jd _ _).mono ?_;rintro e w1 ⟨rfl,rfl⟩));go_returns;exact⟨_,_,_,rfl,by first|exact (Kr _ _).alloc _|exact ((Kr _ _).alloc _).alloc _|exact (((Kr _ _).alloc _).alloc _).alloc _|exact (((Kr _ _).alloc _).drew).alloc _|exact ((((Kr _ _).alloc _).alloc _).alloc _).alloc _⟩
 have hK:Q4g op=(0,1):=by simp[Q4g,h1,h2,h3,h7]
 rw[hK];go_enter func226,ntmps226;go_wp2_with (first|(go_at_call 229;refine (J2 _ _).mono ?_;rintro e w1 ⟨i,hi,rfl,rfl⟩;clear hi)|(go_at_call 228;refine (Jd _ _).mono ?_;rintro e w1 ⟨rfl,rfl⟩));go_returns;exact⟨_,_,_,rfl,by first|exact (Kr _ _).alloc _|exact ((Kr _ _).alloc _).alloc _|exact (((Kr _ _).alloc _).alloc _).alloc _|exact (((Kr _ _).alloc _).drew).alloc _|exact ((((Kr _ _).alloc _).alloc _).alloc _).alloc _⟩
end Go.Proofs.YtkgkafjachjafaaGreat
