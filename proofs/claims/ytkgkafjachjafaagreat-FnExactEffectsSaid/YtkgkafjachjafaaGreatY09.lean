/- Part 9 of: FnExactEffects answers true; no condition. -/
import Derived.Test.YtkgkafjachjafaaGreatY03
import Derived.Test.YtkgkafjachjafaaGreatY06
set_option linter.unusedVariables false
set_option maxHeartbeats 1000000
set_option maxRecDepth 100000
open Go Go.RowKit
namespace Go.Proofs.YtkgkafjachjafaaGreat
open Tryz
theorem K0d {p:Prop} (h:p:=by go_enter func140,ntmps140;go_wp2_with ((go_at_call 139;refine (Ql _ _).mono ?_;rintro e w1 ⟨i,rfl,rfl⟩));go_returns;exact⟨_,_,_,rfl,Kz⟩):p:=h
theorem K0e {p:Prop} (h:p:=by go_enter func141,ntmps141;go_wp2_with ((go_at_call 139;refine (Ql _ _).mono ?_;rintro e w1 ⟨i,rfl,rfl⟩));go_returns;exact⟨_,_,_,rfl,Kz⟩):p:=h
theorem K0f {p:Prop} (h:p:=by go_enter func142,ntmps142;go_wp2_with ((go_at_call 139;refine (Ql _ _).mono ?_;rintro e w1 ⟨i,rfl,rfl⟩));go_returns;exact⟨_,_,_,rfl,Kz⟩):p:=h
theorem Zl (x lo hi:Int) (w:World):Calls prog 105 #[.int .i64 x,.int .i64 lo,.int .i64 hi] w fun e w'=>e=.returned (.bool (Q9 x lo hi))∧w=w':=by
 cases h1:decide (lo≤x)<;>cases h2:decide (x≤hi)
 all_goals
  go_enter func105,ntmps105;go_wp2_with fail;go_ret;exact⟨Q7 (by simp only[Q9,h1,h2];rfl),rfl⟩
theorem Q83 (b:Int) (w:World):Calls prog 131 #[.int .u8 b] w fun e w'=>e=.returned (.bool (Yy b))∧w=w':=by
 cases h1:decide (97≤b)<;>cases h2:decide (b≤122)<;>cases h3:decide (65≤b)<;>cases h4:decide (b≤90)
 all_goals
  go_enter func131,ntmps131;go_wp2_with fail;go_ret;exact⟨Q7 (by simp only[Yy,h1,h2,h3,h4];rfl),rfl⟩
def Q7k:List ByteArray:=Qf5.map fun u=>⟨u.toArray⟩
theorem Qfa (w:World):Calls prog 179 #[] w fun e w'=>∃b,e=.returned (.slice (some ⟨b,0,none⟩) 32 32)∧Blk w' b (strs Q7k) 9∧Q0 nob w w':=by
 go_enter func179,ntmps179;go_wp2_with fail;go_ret;exact⟨_,rfl,Blk.new_of w (strs Q7k) 9 rfl,(Kr _ _).alloc _⟩
theorem Q9k (s:ByteArray):Q7k.any (fun u=>u.toList==s.toList)=Q7w s:=by
 unfold Q7k Q7w;rw[List.any_map];apply Bool.eq_iff_iff.2;rw[List.any_eq_true,List.any_eq_true]
 have key:∀u:List UInt8,((⟨u.toArray⟩: ByteArray).toList==s.toList)=true↔(s.toList==u)=true:=by
  intro u;rw[ByteArray.toList_eq]
  show (u==s.toList)=true↔_
  rw[beq_iff_eq,beq_iff_eq];exact⟨fun h=>h.symm,fun h=>h.symm⟩
 exact⟨fun⟨x,h1,h2⟩=>⟨x,h1,(key x).1 h2⟩,fun⟨x,h1,h2⟩=>⟨x,h1,(key x).2 h2⟩⟩
theorem Qcv (s:ByteArray) (w:World):Calls prog 132 #[.string s] w fun e w'=>e=.returned (.bool (Q7w s))∧Q0 nob w w':=by
 go_enter func132,ntmps132;go_wp2_with (go_at_call 179;refine (Qfa _).mono ?_;rintro e w1 ⟨bb,rfl,hb,hk1⟩;have HB:=Hh hb;have HK:=Hh hk1;clear hb hk1);go_loop [4] (fun ci=>∃j:Nat,j≤32∧ci=.int .i64 j∧Hi (∀k x,k<j→Q7k[k]?=some x→(x.toList==s.toList)=false)) (fun ci=>32-(intOf ci).toNat)
 case atStart=>exact⟨0,Om,rfl,Hh fun k x h=>absurd h Om⟩
 case round =>
  obtain⟨j,hj,rfl,HNO⟩:=hrel
  by_cases hlt:j<32
  ·obtain⟨x,hx⟩:=Q4 (xs:=Q7k) (j:=j) hlt
   have q:=HB.o.cell j (.string x) (by simp[strs,hx]);have hd:decide ((j:Int)<32)=true:=Dt Om;have HX:=Hh hx;clear hx;cases hy:(x.toList==s.toList) with
   |true =>
    have HW:Hi (Q7w s=true):=Hh (by rw[← Q9k,List.any_eq_true];exact⟨x,Mg HX.o,hy⟩);go_wp2_with fail;go_ret;exact⟨Q7 HW.o.symm,HK.o⟩
   |false =>
    go_wp2_with fail;go_round
    case rel =>
     refine⟨j+1,Om,Gm,Hh fun k y hk hky=>?_⟩
     by_cases e:k=j
     ·subst e;rw[HX.o] at hky;cases hky;exact hy
     ·exact HNO.o k y Om hky
    case measure=>exact Me
  ·obtain rfl:j=32:=Om
   have HW:Hi (Q7w s=false):=Hh (by
    rw[← Q9k,List.any_eq_false];intro x hx;obtain⟨k,hk⟩:=List.getElem?_of_mem hx;have:=HNO.o k x (by have:=(Gs hk).1;exact this) hk;rw[this];simp)
   go_wp2_with fail;go_ret;exact⟨Q7 HW.o.symm,HK.o⟩
theorem Q3a (s:ByteArray) (w:World) (hs:s.size≤140737488355328):Calls prog 104 #[.string s] w fun e w'=>e=.returned (.bool (Q15 s))∧Q0 nob w w':=by
 cases hwi:Q9 (s.size:Int) 1 12 with
 |false =>
  go_enter func104,ntmps104;go_wp2_with (go_at_call 105;refine (Zl _ _ _ _).mono ?_;rw[hwi];rintro e w1 ⟨rfl,rfl⟩);go_ret;have:(decide (1≤s.size)&&decide (s.size≤12))=false:=by simp[Q9] at hwi;simp;omega
  exact⟨Q7 (by simp[Q15,this]),Kr _ _⟩
 |true =>
  have HW:Hi ((decide (1≤s.size)&&decide (s.size≤12))=true):=Hh (by simp[Q9] at hwi;simp;omega);go_enter func104,ntmps104;go_wp2_with (go_at_call 105;refine (Zl _ _ _ _).mono ?_;rw[hwi];rintro e w1 ⟨rfl,rfl⟩);go_loop [3] (fun i=>∃j:Nat,j≤s.size∧i=.int .i64 j∧Hi (∀k (hk:k<s.size),k<j→Yy ((s[k]'hk).toNat:Int)=true)) (fun i=>s.size-(intOf i).toNat)
  case atStart=>exact⟨0,Nat.zero_le _,rfl,Hh fun k _ h=>absurd h Om⟩
  case round =>
   obtain⟨j,hj,rfl,HNO⟩:=hrel
   by_cases hlt:j<s.size
   ·cases hb:Yy ((s[j]'hlt).toNat:Int) with
    |false =>
     go_wp2_with (go_at_call 131;refine (Q83 _ _).mono ?_;rw[hb];rintro e w1 ⟨rfl,rfl⟩);go_ret;exact⟨Q7 (by simp[Q15,Q8a hlt hb]),Kr _ _⟩
    |true =>
     go_wp2_with (go_at_call 131;refine (Q83 _ _).mono ?_;rw[hb];rintro e w1 ⟨rfl,rfl⟩);go_round
     case rel=>exact⟨j+1,Om,Gm,Hh fun k hk hkj=>if e:k=j then by subst e;exact hb else HNO.o k hk Om⟩
     case measure=>exact Me
   ·have HL:Hi (Q2y s=true):=Hh (Q6o fun i hi=>HNO.o i hi Om)
    go_wp2_with (go_at_call 132;refine (Qcv _ _).mono ?_;rintro e w1 ⟨rfl,hk1⟩);go_ret;exact⟨Q7 (by rw[Q15,HW.o,HL.o];rfl),hk1⟩
theorem Qna (w:World):(binOp .quo 104 (.float .f64 4607182418800017408) (.float .f64 0)).run prog w=.ok (.float .f64 9218868437227405312) w:=run_float_arith w .quo _ .f64 4607182418800017408 0 9218868437227405312 (by decide +kernel)
theorem Q01 (w:World):Calls prog 182 #[.float .f64 0] w fun e w'=>e=.returned (.bool true)∧w=w':=by
 have hq:=Qna;go_enter func182,ntmps182;go_wp2_with fail;go_ret;exact⟨rfl,rfl⟩
theorem Ql (b:Bool) (w:World):Calls prog 139 #[.bool b] w fun e w'=>∃i:Int,e=.returned (.agg #[.int .i64 4,.int .i64 i,.float .f64 0,.float .f64 0])∧w.alloc (.cells #[.int .i64 4,.int .i64 i,.float .f64 0,.float .f64 0] 106 (0,0))=w':=by
 cases b with
 |true =>
  go_enter func139,ntmps139;go_wp2_with fail;go_returns;exact⟨_,rfl,rfl⟩
 |false =>
  go_enter func139,ntmps139;go_wp2_with fail;go_returns;exact⟨_,rfl,rfl⟩
theorem Qeu (op a b:Int) (w:World):Calls prog 140 #[.int .i64 op,.int .i64 a,.int .i64 b] w (Q5d (Q8g op (b==0)) w):=by
 by_cases h1:op=1
 ·subst h1
  exact K0d
 by_cases h2:op=2
 ·subst h2
  exact K0d
 by_cases h3:op=3
 ·subst h3
  exact K0d
 by_cases h4:op=4
 ·subst h4
  cases hb:(b==0) with
  |true=>go_enter func140,ntmps140;go_wp2_with ((go_at_call 139;refine (Ql _ _).mono ?_;rintro e w1 ⟨i,rfl,rfl⟩));go_returns;exact⟨_,_,_,rfl,Kz⟩
  |false =>
   have hb0:¬ b=0:=by simpa using hb
   cases hm:(b == -1) with
   |true=>go_enter func140,ntmps140;go_wp2_with ((go_at_call 139;refine (Ql _ _).mono ?_;rintro e w1 ⟨i,rfl,rfl⟩));go_returns;exact⟨_,_,_,rfl,Kz⟩
   |false =>
    have hm0:¬ b = -1:=by simpa using hm
    exact K0d
 by_cases h5:op=5
 ·subst h5
  cases hb:(b==0) with
  |true=>go_enter func140,ntmps140;go_wp2_with ((go_at_call 139;refine (Ql _ _).mono ?_;rintro e w1 ⟨i,rfl,rfl⟩));go_returns;exact⟨_,_,_,rfl,Kz⟩
  |false =>
   have hb0:¬ b=0:=by simpa using hb
   cases hm:(b == -1) with
   |true=>go_enter func140,ntmps140;go_wp2_with ((go_at_call 139;refine (Ql _ _).mono ?_;rintro e w1 ⟨i,rfl,rfl⟩));go_returns;exact⟨_,_,_,rfl,Kz⟩
   |false =>
    have hm0:¬ b = -1:=by simpa using hm
    exact K0d
 by_cases h6:op=6
 ·subst h6
  exact K0d
 by_cases h7:op=7
 ·subst h7
  exact K0d
 have hK:Q8g op (b==0)=(0,1):=by simp[Q8g,h1,h2,h3,h4,h5,h6,h7]
 rw[hK];go_enter func140,ntmps140;go_wp2_with ((go_at_call 139;refine (Ql _ _).mono ?_;rintro e w1 ⟨i,rfl,rfl⟩));go_returns;exact⟨_,_,_,rfl,Kz⟩
theorem Qcx (op:Int) (w:World):Calls prog 141 #[.int .i64 op,.float .f64 0,.float .f64 0] w (Q5d (Q4t op) w):=by
 have ha:=Qap;have hs:=Qgk;have hm:=Qbj;obtain⟨fq,hq⟩:=Qms
 by_cases h1:op=1
 ·subst h1
  exact K0e
 by_cases h2:op=2
 ·subst h2
  exact K0e
 by_cases h3:op=3
 ·subst h3
  exact K0e
 by_cases h4:op=4
 ·subst h4
  exact K0e
 by_cases h6:op=6
 ·subst h6
  exact K0e
 by_cases h7:op=7
 ·subst h7
  exact K0e
 have hK:Q4t op=(0,1):=by simp[Q4t,h1,h2,h3,h4,h6,h7]
 rw[hK];go_enter func141,ntmps141;go_wp2_with ((go_at_call 139;refine (Ql _ _).mono ?_;rintro e w1 ⟨i,rfl,rfl⟩));go_returns;exact⟨_,_,_,rfl,Kz⟩
theorem Qdv (op ka ia kb ib:Int) (w:World):Calls prog 142 #[.int .i64 op,.agg #[.int .i64 ka,.int .i64 ia,.float .f64 0,.float .f64 0],.agg #[.int .i64 kb,.int .i64 ib,.float .f64 0,.float .f64 0]] w (Q5d (Q4u op) w):=by
 have ha:=Qap;have hs:=Qgk;have hm:=Qbj
 by_cases h1:op=1
 ·subst h1
  exact K0f
 by_cases h2:op=2
 ·subst h2
  exact K0f
 by_cases h3:op=3
 ·subst h3
  exact K0f
 by_cases h7:op=7
 ·subst h7
  exact K0f
 have hK:Q4u op=(0,1):=by simp[Q4u,h1,h2,h3,h7]
 rw[hK];go_enter func142,ntmps142;go_wp2_with ((go_at_call 139;refine (Ql _ _).mono ?_;rintro e w1 ⟨i,rfl,rfl⟩));go_returns;exact⟨_,_,_,rfl,Kz⟩
end Go.Proofs.YtkgkafjachjafaaGreat
