/- Part 2 of: FnExactEffects answers true; no condition. -/
import Derived.Test.YtkgkafjachjafaaGreatY01
set_option linter.unusedVariables false
set_option maxHeartbeats 1000000
open Go Go.RowKit
namespace Go.Proofs.YtkgkafjachjafaaGreat
open Tryz
theorem K00 {p:Prop} (h:p:=by have HB:Hi (Q26 s=false):=Hh (by simp[Q26,hp]);have HV:Hi (Q06 s=0):=Hh (by simp[Q06,hp]);clear hp;go_enter func160,ntmps160;go_wp2_with (go_at_call 191;refine (Q03 _ _ hs).mono ?_;rintro e w1 ⟨rfl,hk1⟩);go_ret2;exact⟨Q7g HV.o.symm HB.o.symm,hk1⟩):p:=h
theorem K01 {p:Prop} (h:p:=by go_wp2;go_ret;exact⟨Q7 HE.o.symm,hk0.trans ‹_›⟩):p:=h
theorem Qdh (b:Int) (w:World):Calls prog 116 #[.int .u8 b] w fun e w'=>e=.returned (.bool (Yy b))∧w=w':=by
 by_cases h1:97≤b<;>by_cases h2:b≤122<;>by_cases h3:65≤b<;>by_cases h4:b≤90
 all_goals first
  |(exfalso;omega)
  |(go_enter func116,ntmps116
    go_wp2;go_ret;exact⟨Q7 (by simp[Yy,h1,h2,h3,h4]),rfl⟩)
theorem Qf2 (b:Int) (w:World):Calls prog 192 #[.int .u8 b] w fun e w'=>e=.returned (.bool (Qg b))∧w=w':=by
 by_cases h1:48≤b<;>by_cases h2:b≤57
 all_goals first
  |(exfalso;omega)
  |(go_enter func192,ntmps192
    go_wp2;go_ret;exact⟨Q7 (by simp[Qg,h1,h2]),rfl⟩)
theorem Qaq (s:ByteArray) (w:World):Calls prog 117 #[.string s] w fun e w'=>e=.returned (.bool (Q7w s))∧w=w':=by
 go_enter func117,ntmps117;go_wp2
 all_goals first
  |(exfalso;rename_i hx hy;rw[hx] at hy;cases hy;done)
  |(go_ret
    refine⟨Q7 ?_,rfl⟩;unfold Q7w Qf5;simp only[List.any_cons,List.any_nil,Bool.or_false];simp[*])
theorem Q3q (s:ByteArray) (w:World) (hs:s.size≤140737488355328):Calls prog 85 #[.string s] w fun e w'=>e=.returned (.bool (Q15 s))∧w=w':=by
 go_enter func85,ntmps85;go_wp2;go_loop [3] (fun i=>∃j:Nat,j≤s.size∧i=.int .i64 j∧∀k (hk:k<s.size),k<j→Yy ((s[k]'hk).toNat:Int)=true) (fun i=>s.size-(intOf i).toNat)
 case atStart=>exact⟨0,Nat.zero_le _,rfl,fun k _ h=>absurd h Om⟩
 case round =>
  obtain⟨j,hj,rfl,hno⟩:=hrel;have HNO:=Hh hno;clear hno
  by_cases hlt:j<s.size
  ·go_wp2_with (go_at_call 116;refine (Qdh _ _).mono ?_;rintro e w1 ⟨rfl,rfl⟩)
   ·have hb:Yy ((s[j]'hlt).toNat:Int)=false:=by simpa using ‹(!Yy _)=true›
    go_ret;exact⟨Q7 (by simp[Q15,Q8a hlt hb]),rfl⟩
   ·have hb:Yy ((s[j]'hlt).toNat:Int)=true:=by simpa using ‹(!Yy _)=false›
    go_round
    case rel=>exact⟨j+1,Om,Gm,fun k hk hkj=>if e:k=j then by subst e;exact hb else HNO.o k hk Om⟩
    case measure=>exact Me
  ·have hl:Q2y s=true:=Q6o fun i hi=>HNO.o i hi Om
   have HL:=Hh hl;clear hl;cases hwi:Q9 (s.size:Int) 1 12 with
   |true =>
    go_wp2_with (first|(go_at_call 89;refine (Jk _ _ _ _).mono ?_;rintro e w1 ⟨rfl,rfl⟩)|(go_at_call 117;refine (Qaq _ _).mono ?_;rintro e w1 ⟨rfl,rfl⟩));go_ret;have:(decide (1≤s.size)&&decide (s.size≤12))=true:=by simp[Q9] at hwi;simp;omega
    exact⟨Q7 (by simp[Q15,HL.o,this]),rfl⟩
   |false =>
    go_wp2_with (first|(go_at_call 89;refine (Jk _ _ _ _).mono ?_;rintro e w1 ⟨rfl,rfl⟩)|(go_at_call 117;refine (Qaq _ _).mono ?_;rintro e w1 ⟨rfl,rfl⟩));go_ret;have:(decide (1≤s.size)&&decide (s.size≤12))=false:=by simp[Q9] at hwi;simp;omega
    exact⟨Q7 (by simp[Q15,this]),rfl⟩
theorem Qmw (s:ByteArray) (a:Nat) (fv:Value) (p:Int→Bool) (w:World) (hs:s.size≤140737488355328) (ha:a≤s.size) (hf:Q5u .u8 fv p w) :
  Calls prog 191 #[.string s,.int .i64 a,fv] w fun e w'=>e=.returned (.int .i64 (Jt p s a))∧Q0 nob w w':=by
 obtain⟨f,cap,rfl,he,hc⟩:=hf;have HC:=Hh hc;clear hc;go_enter func191,ntmps191;go_wp2;go_loopw [1] (fun i wr=>∃j:Nat,j≤s.size∧i=.int .i64 j∧Jt p s a=Jt p s j∧Q0 nob w wr) (fun i _=>s.size-(intOf i).toNat)
 case atStart=>exact⟨a,ha,rfl,rfl,Kr _ _⟩
 case round =>
  obtain⟨j,hj,rfl,hr,hk⟩:=hrel;have HR:=Hh hr;clear hr
  by_cases hlt:j<s.size
  ·go_wp2_with (refine (HC.o _ _ hk).mono ?_;rintro e w1 ⟨rfl,rfl⟩)
   ·have hb:p ((s[j]'hlt).toNat:Int)=true:=by assumption
    go_roundw
    case rel=>exact⟨j+1,Om,Gm,HR.o.trans (Qas hlt hb),hk⟩
    case measure=>exact Me
   ·have hb:p ((s[j]'hlt).toNat:Int)=false:=by assumption
    go_ret;exact⟨Jo (by rw[HR.o,Qbc hlt hb]),hk⟩
  ·go_wp2
   go_ret;exact⟨Jo (by rw[HR.o,Qd0 Om]),hk⟩
theorem Qfs (w:World):Q5u .u8 (.func (.func 192) #[] #[]) Qg w :=
 ⟨_,_,rfl,fun args w'=>by go_simp,fun x w' _=>(Qf2 x w').mono (by rintro e w1 ⟨rfl,rfl⟩;exact⟨rfl,rfl⟩)⟩
theorem Q03 (s:ByteArray) (w:World) (hs:s.size≤140737488355328) :
  Calls prog 191 #[.string s,.int .i64 0,.func (.func 192) #[] #[]] w fun e w'=>e=.returned (.int .i64 (Jt Qg s 0))∧Q0 nob w w' :=
 Qmw s 0 _ _ w hs (Nat.zero_le _) (Qfs w)
theorem Qhs (s:ByteArray) (w:World) (hd:∀b∈J5 s,Qg b=true) (hs:s.size≤15) :
  Calls prog 194 #[.string s] w fun e w'=>e=.returned (.int .i64 (Q10 (J5 s)))∧w=w':=by
 have HD:=Hh hd;clear hd;go_enter func194,ntmps194;go_wp2;go_loop [3,4] (fun n i=>∃j:Nat,j≤s.size∧i=.int .i64 j∧n=.int .i64 (Q10 ((J5 s).take j))) (fun _ i=>s.size-(intOf i).toNat)
 case atStart=>exact⟨0,Nat.zero_le _,rfl,rfl⟩
 case round =>
  obtain⟨j,hj,rfl,rfl⟩:=hrel
  by_cases hlt:j<s.size
  ·have hg:=Q1q s j hlt
   have hb:=HD.o _ (Mg hg);simp[Qg] at hb;obtain⟨hb1,hb2⟩:=hb;obtain⟨hn1,hn2⟩:=Q79 ((J5 s).take j) (fun b hb=>HD.o b (List.mem_of_mem_take hb)) (by rw[List.length_take];omega);have HS:Hi (Q10 ((J5 s).take (j+1))=10*Q10 ((J5 s).take j)+(((s[j]'hlt).toNat:Int)-48)):=Hh (by rw[Js hg,Qal]);generalize Q10 ((J5 s).take j)=n at *;clear hg;go_wp2;go_round
   case rel=>exact⟨j+1,Om,Gm,by rw[HS.o]⟩
   case measure=>exact Me
  ·go_wp2
   go_ret;obtain rfl:j=s.size:=Om
   exact⟨Jo (by rw[List.take_of_length_le (by rw[Z2];exact Nat.le_refl _)]),rfl⟩
theorem Q70 (s:ByteArray) (most:Int) (w:World) (hs:s.size≤140737488355328) :
  Calls prog 193 #[.string s,.int .i64 most] w fun e w'=>e=.returned (.bool (Y8 s most))∧Q0 nob w w':=by
 cases h1:Q9 (s.size:Int) 1 most with
 |false =>
  have HE:Hi (Y8 s most=false):=Hh (by simp[Y8,Y8.withinBs];simp[Q9] at h1;omega);go_enter func193,ntmps193;go_wp2_with (go_at_call 89;refine (Jk _ _ _ _).mono ?_;rintro e w1 ⟨rfl,rfl⟩);go_ret;exact⟨Q7 HE.o.symm,Kr _ _⟩
 |true =>
  have hw:Y8.withinBs s.size 1 most=true:=by simp[Y8.withinBs];simpa[Q9] using h1
  have h0:0<s.size:=by simp[Q9] at h1;omega
  have hle:=Q5p Qg s 0 (Nat.zero_le _)
  have h48:Q8s s=((s[0]'h0).toNat:Int):=by
   unfold Q8s;have:=Q1q s 0 h0;cases e:J5 s with
   |nil=>rw[e] at this;cases this
   |cons b bs=>rw[e] at this;simpa using this
  have HB:=Hh h48;have HW:=Hh hw;clear h48 hw;cases h2:(((Jt Qg s 0:Nat):Int)==(s.size:Int))<;>cases h3:((s.size:Int)==1)<;>cases h4:(((s[0]'h0).toNat:Int) != 48)
  all_goals
   have HE:Hi (Y8 s most=((((Jt Qg s 0:Nat):Int)==(s.size:Int))&&(((s.size:Int)==1) ||(((s[0]'h0).toNat:Int) != 48)))):=Hh (by
    rw[Y8,HW.o,HB.o,Bool.true_and];congr 1
    ·rw[Bool.eq_iff_iff];simp;omega
    ·congr 1
     ·rw[Bool.eq_iff_iff];simp;omega
     ·rw[Bool.eq_iff_iff];simp)
   rw[h2,h3,h4] at HE;go_enter func193,ntmps193;go_wp2_with (first|(go_at_call 89;refine (Jk _ _ _ _).mono ?_;rintro e w1 ⟨rfl,rfl⟩)|(go_at_call 191;refine (Q03 _ _ hs).mono ?_;rintro e w1 ⟨rfl,hk1⟩));go_ret;exact⟨Q7 HE.o.symm,hk1⟩
theorem Qa8 (a b:ByteArray):J5 (a++b)=J5 a++J5 b:=by
 unfold J5;rw[← List.map_append];congr 1
theorem Q7g {x y:Nat} {a b:Bool} (h1:x=y) (h2:a=b):Ending.returned (.tuple #[.float .f64 x,.bool a])=.returned (.tuple #[.float .f64 y,.bool b]):=by rw[h1,h2]
def Q6q (s:ByteArray) (w:World) (e:Ending) (w':World):Prop:=e=.returned (.tuple #[.float .f64 (Q06 s),.bool (Q26 s)])∧Q0 nob w w'
theorem Qgw (s:ByteArray) (w:World) (hs:s.size≤140737488355328) (h:s.size≤Jt Qg s 0) :
  Calls prog 160 #[.string s] w (Q6q s w):=by
 have hp:Q02 s=none:=by unfold Q02;rw[dif_neg Om]
 exact K00
theorem Qbo (s:ByteArray) (w:World) (hs:s.size≤140737488355328) (h:Jt Qg s 0<s.size) (hb:(((s[Jt Qg s 0]'h).toNat:Int) != 46)=true) :
  Calls prog 160 #[.string s] w (Q6q s w):=by
 have hp:Q02 s=none:=by unfold Q02;rw[dif_pos h,Ng];simp at hb;simp[hb]
 exact K00
theorem Qge (s:ByteArray) (w:World) (hs:s.size≤140737488355328) (h:Jt Qg s 0<s.size) (hb:(((s[Jt Qg s 0]'h).toNat:Int) != 46)=false) :
  Calls prog 160 #[.string s] w (Q6q s w):=by
 have hb':((s[Jt Qg s 0]'h).toNat:Int)=46:=by simpa using hb
 have hp:∀wh pt,s.extract 0 (Jt Qg s 0)=wh→s.extract (Jt Qg s 0+1) s.size=pt →
   Q02 s=if Y8 wh 9=true∧1≤pt.size∧pt.size≤6∧Jt Qg pt 0=pt.size then some (wh,pt) else none:=by
  intro wh pt h1 h2;unfold Q02;rw[dif_pos h,h1,h2];simp only[hb',true_and]
 have HP:=Hh hp;clear hp hb';generalize ha:Jt Qg s 0=a at *;have HA:=Hh ha;clear ha;have e1:(s.extract 0 a).size≤140737488355328:=So
 have e2:(s.extract (a+1) s.size).size≤140737488355328:=So
 go_enter func160,ntmps160;go_wp2_with (go_at_call 191;refine (Q03 _ _ hs).mono ?_;rw[HA.o];rintro e w1 ⟨rfl,hk1⟩);go_quiet (fail);generalize hwh:s.extract 0 a=wh at *;generalize hpt:s.extract (a+1) s.size=pt at *;have HWH:=Hh hwh;have HPT:=Hh hpt;clear hwh hpt;have hk2:=hk1.drewN nq;generalize w1.drewN nq=w2 at *;clear hk1;have hd:=Q5p Qg pt 0 (Nat.zero_le _);cases h1:Y8 wh 9 with
 |false =>
  have hr:=HP.o wh pt rfl rfl;rw[Ng (by simp[h1])] at hr;have HB:Hi (Q26 s=false):=Hh (by simp[Q26,hr]);have HV:Hi (Q06 s=0):=Hh (by simp[Q06,hr]);clear hr;go_wp2_with (go_at_call 193;refine (Q70 _ _ _ e1).mono ?_;rintro e w3 ⟨rfl,hk3⟩);go_ret2;exact⟨Q7g HV.o.symm HB.o.symm,hk2.thenNob hk3⟩
 |true =>
 cases h2:Q9 (pt.size:Int) 1 6 with
 |false =>
  have hr:=HP.o wh pt rfl rfl;rw[Ng (by simp[Q9] at h2;omega)] at hr;have HB:Hi (Q26 s=false):=Hh (by simp[Q26,hr]);have HV:Hi (Q06 s=0):=Hh (by simp[Q06,hr]);clear hr;go_wp2_with (first|(go_at_call 193;refine (Q70 _ _ _ e1).mono ?_;rintro e w3 ⟨rfl,hk3⟩)|(go_at_call 89;refine (Jk _ _ _ _).mono ?_;rintro e w4 ⟨rfl,rfl⟩));go_ret2;exact⟨Q7g HV.o.symm HB.o.symm,hk2.thenNob hk3⟩
 |true =>
 cases h3:(((Jt Qg pt 0:Nat):Int) != (pt.size:Int)) with
 |true =>
  have hr:=HP.o wh pt rfl rfl;rw[Ng (by simp at h3;omega)] at hr;have HB:Hi (Q26 s=false):=Hh (by simp[Q26,hr]);have HV:Hi (Q06 s=0):=Hh (by simp[Q06,hr]);clear hr;go_wp2_with (first|(go_at_call 193;refine (Q70 _ _ _ e1).mono ?_;rintro e w3 ⟨rfl,hk3⟩)|(go_at_call 89;refine (Jk _ _ _ _).mono ?_;rintro e w4 ⟨rfl,rfl⟩)|(go_at_call 191;refine (Q03 _ _ e2).mono ?_;rintro e w5 ⟨rfl,hk5⟩));go_ret2;exact⟨Q7g HV.o.symm HB.o.symm,(hk2.thenNob hk3).thenNob hk5⟩
 |false =>
  have g1:1≤pt.size∧pt.size≤6:=by simp[Q9] at h2;omega
  have g2:Jt Qg pt 0=pt.size:=by simp at h3;omega
  have hr:=HP.o wh pt rfl rfl;rw[Ps ⟨h1,g1.1,g1.2,g2⟩] at hr;have HB:Hi (Q26 s=true):=Hh (by simp[Q26,hr]);have HV:Hi (Q06 s=(Ieee.double.div (floatOfInt .f64 (Q10 (J5 (wh++pt)))) (Q18 pt.size)).getD 0):=Hh (by simp[Q06,hr])
  have Qoz:∀b∈J5 (wh++pt),Qg b=true:=by
   rw[Qa8];intro b hb;rcases List.mem_append.1 hb with hb|hb
   ·refine Qdw ?_ b hb
    simp[Y8,Y8.withinBs] at h1;exact h1.1.2
   ·exact Qdw g2 b hb
  have hsz:wh.size≤9:=by simp[Y8,Y8.withinBs] at h1;omega
  have Qoa:(wh++pt).size≤15:=by rw[ByteArray.size_append];omega
  have hnn:0≤Q10 (J5 (wh++pt)):=(Q79 _ Qoz (by rw[Z2];exact Qoa)).1;have Qx4:=Hh (Qlk _ pt.size g1.2 hnn);have Qpt:=Hh Qoz;obtain⟨g11,g12⟩:=g1;clear hr g2 Qoz hnn;go_wp2_with (first|(go_at_call 193;refine (Q70 _ _ _ e1).mono ?_;rintro e w3 ⟨rfl,hk3⟩)|(go_at_call 89;refine (Jk _ _ _ _).mono ?_;rintro e w4 ⟨rfl,rfl⟩)|(go_at_call 191;refine (Q03 _ _ e2).mono ?_;rintro e w5 ⟨rfl,hk5⟩));go_loop [7,45] (fun t i=>∃j:Nat,j≤pt.size∧i=.int .i64 j∧t=.float .f64 (Q18 j)) (fun _ i=>pt.size-(intOf i).toNat)
  case atStart=>exact⟨0,Nat.zero_le _,rfl,rfl⟩
  case round =>
   obtain⟨j,hj,rfl,rfl⟩:=hrel
   by_cases hlt:j<pt.size
   ·have ht:=run_float_arith (P:=prog) (op:=.mul) (t:=104) (k:=.f64) (h:=Qdi j Om)
    have HT:=Hh (Qdi j Om);go_wp2;go_round
    case rel=>exact⟨j+1,Om,Gm,rfl⟩
    case measure=>exact Me
   ·obtain rfl:j=pt.size:=Om
    have hq:=run_float_arith (P:=prog) (op:=.quo) (t:=104) (k:=.f64) (h:=Qx4.o);go_wp2_with (go_at_call 194;refine (Qhs _ _ Qpt.o Qoa).mono ?_;rintro e w6 ⟨rfl,rfl⟩);go_ret2;exact⟨Q7g HV.o.symm HB.o.symm,(hk2.thenNob hk3).thenNob hk5⟩
theorem Qhx (s:ByteArray) (w:World) (hs:s.size≤140737488355328):Calls prog 160 #[.string s] w (Q6q s w):=by
 rcases Nat.lt_or_ge (Jt Qg s 0) s.size with h|h
 ·cases hb:(((s[Jt Qg s 0]'h).toNat:Int) != 46) with
  |true=>exact Qbo s w hs h hb
  |false=>exact Qge s w hs h hb
 ·exact Qgw s w hs h
theorem Q0q (x:Int) (w:World):Calls prog 94 #[.int .i64 x] w fun e w'=>e=.returned (.bool (Qu x))∧w=w':=by
 go_enter func94,ntmps94;go_wp2_with (go_at_call 89;refine (Jk _ _ _ _).mono ?_;rintro e w' ⟨rfl,rfl⟩);go_ret;exact⟨rfl,rfl⟩
theorem Q2o (x:Int) (w:World):Calls prog 96 #[.int .i64 x] w fun e w'=>e=.returned (.bool (Zs x))∧w=w':=by
 go_enter func96,ntmps96;go_wp2_with (go_at_call 89;refine (Jk _ _ _ _).mono ?_;rintro e w' ⟨rfl,rfl⟩);go_ret;exact⟨rfl,rfl⟩
theorem Q5t (w:World):Q5u .i64 (.func (.func 94) #[] #[]) Qu w :=
 ⟨_,_,rfl,fun args w'=>by go_simp,fun x w' _=>(Q0q x w').mono (by rintro e w1 ⟨rfl,rfl⟩;exact⟨rfl,rfl⟩)⟩
theorem Qiu (w:World):Q5u .i64 (.func (.func 96) #[] #[]) Zs w :=
 ⟨_,_,rfl,fun args w'=>by go_simp,fun x w' _=>(Q2o x w').mono (by rintro e w1 ⟨rfl,rfl⟩;exact⟨rfl,rfl⟩)⟩
theorem Qjf (x a:Int) (b:Nat) (w:World) (hb:w.cell? ⟨b,0,none⟩=some (.int .i64 a)) :
  Calls prog 195 #[.int .i64 x,.pointer (some ⟨b,0,none⟩)] w fun e w'=>e=.returned (.bool (isK a x))∧w=w':=by
 go_enter func195,ntmps195;go_wp2;go_ret;exact⟨Q7 (by simp[isK]),rfl⟩
theorem Zv (a:Int) (w:World):Calls prog 163 #[.int .i64 a] w fun e w'=>∃v,e=.returned v∧Q5u .i64 v (isK a) w'∧Q0 nob w w':=by
 have Qt1:(w.alloc (.cells #[.int .i64 a] 3)).cell? ⟨w.heap.size,0,none⟩=some (.int .i64 a):=(Blk.new w [.int .i64 a] 3).cell 0 _ rfl;have HN:=Hh Qt1;clear Qt1;go_enter func163,ntmps163;go_wp2;go_ret
 refine⟨_,rfl,⟨_,_,rfl,fun args w'=>by go_simp,fun x w' hk=>?_⟩,(Kr _ _).alloc _⟩
 exact (Qjf x a _ w' (hk.cell (fun h=>h) HN.o)).mono (by rintro e w1 ⟨rfl,rfl⟩;exact⟨rfl,rfl⟩)
theorem Q4e (b o:Nat) (t:Q1) (v fv:Value) (ks:List Int) (p:Int→Bool) (w:World) (ht:J8 w b o t) (hk:Qf w v ks) (hf:Q5u .i64 fv p w)
  (hb:∀k∈ks,0≤k∧k<t.nodes.length) :
  Calls prog 161 #[.pointer (some ⟨b,o,none⟩),v,fv] w fun e w'=>e=.returned (.bool (Q25 t ks p))∧Q0 nob w w':=by
 obtain⟨nv,tv,h0,h1,⟨nA,nb,no,nc,rfl,hnl,Qpf,hnA,hnc⟩,h3⟩:=ht;obtain⟨kA,kb,ko,kc,rfl,hkl,Qo6,hkA,hkc⟩:=hk;obtain⟨f,cap,rfl,he,hfc⟩:=hf;have HNC:=Hh hnc;have HKC:=Hh hkc;have HFC:=Hh hfc;have HB:=Hh hb;clear hnc hkc hfc hb h3 h1;go_enter func161,ntmps161;go_wp2;go_loopw [8,11] (fun u i wr=>∃j:Nat,j≤ks.length∧i=.int .i64 j∧Q25 t ks p=Q25 t (ks.drop j) p∧Q0 nob w wr) (fun _ i _=>ks.length-(intOf i).toNat)
 case atStart=>exact⟨0,Nat.zero_le _,rfl,rfl,Kr _ _⟩
 case round =>
  obtain⟨j,hj,rfl,hr,hk⟩:=hrel
  by_cases hlt:j<ks.length
  ·obtain⟨k,hkj⟩:=Q4 hlt
   obtain⟨g1,g2⟩:=HB.o k (Mg hkj);obtain⟨m,rfl⟩:=En g1;obtain⟨n,hn⟩:=Q4 (xs:=t.nodes) (j:=m) Om;have HE:Hi (Q25 t ks p=(p n.kind&&Q25 t (ks.drop (j+1)) p)):=Hh (by rw[hr,Qh hkj,Q25,List.all_cons,Q1.at_of hn];rfl);obtain⟨kv,q0,q1,q2,q3,q4⟩:=HNC.o m n hn;have c0:=hk.cell (fun h=>h) (HKC.o j _ hkj);have c1:=hk.cell (fun h=>h) q0;have c2:=hk.cell (fun h=>h) h0;obtain rfl:=hkA Om;obtain rfl:=hnA Om;clear hr hkj hn q0 q1 q2 q3 q4 hkA hnA h0;go_wp2_with (refine (HFC.o _ _ hk).mono ?_;rintro e w1 ⟨rfl,rfl⟩)
   ·have hp:p n.kind=false:=by simpa using ‹(!p n.kind)=true›
    go_ret;exact⟨Q7 (by rw[HE.o,hp];rfl),hk⟩
   ·have hp:p n.kind=true:=by simpa using ‹(!p n.kind)=false›
    go_roundw
    case rel=>exact⟨j+1,Om,Gm,by rw[HE.o,hp];rfl,hk⟩
    case measure=>exact Me
  ·go_wp2
   go_ret;exact⟨Q7 (by rw[hr,Dn Om];rfl),hk⟩
def Qm9 (w:World) (v:Value) (ps:List (Int→Bool)):Prop :=
 ∃A b o c,v=.slice A ps.length c∧ps.length≤140737488355328∧(0<ps.length→A=some ⟨b,o,none⟩) ∧
  ∀j p,ps[j]?=some p→∃fv,w.cell? ⟨b,o+j,none⟩=some fv∧Q5u .i64 fv p w
theorem Qga {t:Q1}:∀{ks:List Int} {ps:List (Int→Bool)},ks.length≠ps.length→Qo t ks ps=false:=by
 intro ks
 induction ks with
 |nil=>intro ps h;cases ps with
  |nil=>exact absurd rfl h
  |cons p ps=>rfl
 |cons k ks ih=>intro ps h;cases ps with
  |nil=>rfl
  |cons p ps=>simp only[Qo];rw[ih (by simpa using h)];simp
theorem Zz (b o:Nat) (t:Q1) (x0 x1 x2 kv iv:Value) (ks:List Int) (ps:List (Int→Bool)) (w:World) (ht:J8 w b o t) (hk:Qf w kv ks) (hf:Qm9 w iv ps)
  (hb:∀k∈ks,0≤k∧k<t.nodes.length) :
  Calls prog 162 #[.pointer (some ⟨b,o,none⟩),.agg #[x0,x1,x2,kv],iv] w
   fun e w'=>e=.returned (.bool (Qo t ks ps))∧Q0 nob w w':=by
 obtain⟨nv,tv,h0,h1,⟨nA,nb,no,nc,rfl,hnl,Qpf,hnA,hnc⟩,h3⟩:=ht;obtain⟨kA,kb,ko,kc,rfl,hkl,Qo6,hkA,hkc⟩:=hk;obtain⟨fA,fb,fo,fc,rfl,hfl,hfA,hfc⟩:=hf;have HNC:=Hh hnc;have HKC:=Hh hkc;have HFC:=Hh hfc;have HB:=Hh hb;clear hnc hkc hfc hb h3 h1;have Qtf:=World.block_lt_of_cell? w _ h0
 by_cases hne:ks.length=ps.length
 ·have t1:(((ks.length:Nat):Int) != (ps.length:Int))=false:=by simp[hne]
  have HNE:=Hh hne;clear hne;go_enter func162,ntmps162;go_wp2
  go_loopw [7,8,17] (fun u f i wr=>∃j:Nat,j≤ps.length∧i=.int .i64 j∧Qo t ks ps=Qo t (ks.drop j) (ps.drop j)∧Q0 nob w wr ∧
   Blk wr w.heap.size [x0,x1,x2,.slice kA ks.length kc] 70) (fun _ _ i _=>ps.length-(intOf i).toNat)
  case atStart=>exact⟨0,Nat.zero_le _,rfl,rfl,(Kr _ _).alloc _,Blk.new _ _ _⟩
  case round =>
   obtain⟨j,hj,rfl,hr,hk,hbl⟩:=hrel
   by_cases hlt:j<ps.length
   ·obtain⟨k,hkj⟩:=Q4 (xs:=ks) (j:=j) (by rw[HNE.o];exact hlt)
    obtain⟨p,hpj⟩:=Q4 (xs:=ps) (j:=j) hlt;obtain⟨g1,g2⟩:=HB.o k (Mg hkj);obtain⟨m,rfl⟩:=En g1;obtain⟨n,hn⟩:=Q4 (xs:=t.nodes) (j:=m) Om;have HE:Hi (Qo t ks ps=(p n.kind&&Qo t (ks.drop (j+1)) (ps.drop (j+1)))):=Hh (by rw[hr,Qh hkj,Qh hpj,Qo,Q1.at_of hn]);obtain⟨kv,q0,q1,q2,q3,q4⟩:=HNC.o m n hn;obtain⟨fv,f0,Qnu⟩:=HFC.o j p hpj;have c0:=hk.cell (fun h=>h) (HKC.o j _ hkj);have c1:=hk.cell (fun h=>h) q0;have c2:=hk.cell (fun h=>h) h0;have c3:=hbl.cell 3 _ rfl;have c4:=hk.cell (fun h=>h) f0;obtain⟨f,cap,rfl,he,hfc⟩:=Qnu;have HFF:=Hh hfc;have HBL:=Hh hbl;have hjk:(j:Int)<(ks.length:Int):=by rw[HNE.o];omega
    have hj0:(0:Int)≤(j:Int):=Om
    have hm0:(0:Int)≤(m:Int):=Om
    obtain rfl:=hkA (by rw[HNE.o];omega);obtain rfl:=hnA Om;obtain rfl:=hfA Om;clear hr hkj hn q0 q1 q2 q3 q4 hkA hnA h0 f0 hfc hbl hpj;go_wp2;go_quiet ((exact Yh (HFF.o _ _ (hk.drewN _))));go_wp2
    ·have hp:p n.kind=false:=by simpa using ‹(!p n.kind)=true›
     go_ret;exact⟨Q7 (by rw[HE.o,hp];rfl),hk.drewN _⟩
    ·have hp:p n.kind=true:=by simpa using ‹(!p n.kind)=false›
     go_roundw
     case rel=>exact⟨j+1,Om,Gm,by rw[HE.o,hp];rfl,hk.drewN _,HBL.o.drewN _⟩
     case measure=>exact Me
   ·go_wp2
    go_ret;exact⟨Q7 (by rw[hr,Dn (by rw[HNE.o];omega),Dn Om];rfl),hk⟩
 ·have t1:(((ks.length:Nat):Int) != (ps.length:Int))=true:=So
  have HE:=Hh (Qga (t:=t) hne);clear hne;go_enter func162,ntmps162;go_wp2;go_ret;exact⟨Q7 HE.o.symm,(Kr _ _).alloc _⟩
theorem Q39 (n:Qn) (kv:Value) (w:World) :
  Calls prog 120 #[.agg #[.int .i64 n.kind,.string n.text,.int .i64 n.i,kv]] w fun e w'=>e=.returned (.bool (Xk n))∧Q0 nob w w':=by
 go_enter func120,ntmps120;go_wp2_with (first|(go_at_call 89;refine (Jk _ _ _ _).mono ?_;rintro e w4 ⟨rfl,rfl⟩)|(go_at_call 87;refine (Q1n _ _).mono ?_;rintro e w4 ⟨rfl,rfl⟩))
 all_goals first
  |(exfalso;rename_i hx hy;rw[hx] at hy;cases hy;done)
  |(go_ret
    refine⟨Q7 ?_,(Kr _ _).alloc _⟩
    simp_all[Xk];done)
theorem Q3x (n:Qn) (kv:Value) (w:World) (hs:n.text.size≤140737488355328) :
  Calls prog 119 #[.agg #[.int .i64 n.kind,.string n.text,.int .i64 n.i,kv]] w fun e w'=>e=.returned (.bool (Q1c n))∧Q0 nob w w':=by
 go_enter func119,ntmps119;go_wp2_with (first|(go_at_call 160;refine (Qhx _ _ hs).mono ?_;rintro e w4 ⟨rfl,hk4⟩)|(go_at_call 85;refine (Q3q _ _ hs).mono ?_;rintro e w4 ⟨rfl,rfl⟩))
 all_goals first
  |(exfalso;rename_i hx hy;rw[hx] at hy;cases hy;done)
  |(go_ret
    refine⟨Q7 ?_,(by first|exact (Kr _ _).alloc _|exact ((Kr _ _).alloc _).thenNob ‹_›)⟩
    simp_all[Q1c];done)
theorem Qj0 (w:World) (b T:Nat) (f1:Value) (p1:Int→Bool) (c:Nat) (h:Blk w b [f1] T) (h1:Q5u .i64 f1 p1 w):Qm9 w (.slice (some ⟨b,0,none⟩) 1 c) [p1] :=
 ⟨_,b,0,c,rfl,Sm,fun _=>rfl,fun j p hj=>by
  match j,hj with
  |0,hj=>cases hj;exact⟨f1,h.cell 0 _ rfl,h1⟩⟩
theorem Qj9 (w:World) (b T:Nat) (f1 f2:Value) (p1 p2:Int→Bool) (c:Nat) (h:Blk w b [f1,f2] T) (h1:Q5u .i64 f1 p1 w) (h2:Q5u .i64 f2 p2 w):Qm9 w (.slice (some ⟨b,0,none⟩) 2 c) [p1,p2] :=
 ⟨_,b,0,c,rfl,Sm,fun _=>rfl,fun j p hj=>by
  match j,hj with
  |0,hj=>cases hj;exact⟨f1,h.cell 0 _ rfl,h1⟩
  |1,hj=>cases hj;exact⟨f2,h.cell 1 _ rfl,h2⟩⟩
theorem fns3 (w:World) (b T:Nat) (f1 f2 f3:Value) (p1 p2 p3:Int→Bool) (c:Nat) (h:Blk w b [f1,f2,f3] T) (h1:Q5u .i64 f1 p1 w) (h2:Q5u .i64 f2 p2 w) (h3:Q5u .i64 f3 p3 w) :
  Qm9 w (.slice (some ⟨b,0,none⟩) 3 c) [p1,p2,p3] :=
 ⟨_,b,0,c,rfl,Sm,fun _=>rfl,fun j p hj=>by
  match j,hj with
  |0,hj=>cases hj;exact⟨f1,h.cell 0 _ rfl,h1⟩
  |1,hj=>cases hj;exact⟨f2,h.cell 1 _ rfl,h2⟩
  |2,hj=>cases hj;exact⟨f3,h.cell 2 _ rfl,h3⟩⟩
section
variable {b o:Nat} {t:Q1} {n:Qn} {kv:Value} {w:World}
theorem Ql5 (hk:Qf w kv n.kids) (he:1≤n.kind) (he2:n.kind≤6) :
  Calls prog 121 #[.pointer (some ⟨b,o,none⟩),.agg #[.int .i64 n.kind,.string n.text,.int .i64 n.i,kv]] w fun e w'=>e=.returned (.bool (X9 t n))∧Q0 nob w w':=by
 obtain⟨kA,kb,ko,kc,rfl,hkl,Qo6,hkA,hkc⟩:=hk;clear hkc hkA
 have HE:Hi (X9 t n=((n.kids.length:Int)==0)):=Hh (by
  rw[X9,Ps Om];cases n.kids<;>simp;omega)
 have Qrq:n.kind=1∨n.kind=2∨n.kind=3∨n.kind=4∨n.kind=5∨n.kind=6:=Om
 generalize n.kind=K at *;clear he he2;rcases Qrq with h|h|h|h|h|h<;>subst h
 all_goals
  go_enter func121,ntmps121;go_wp2;go_ret;exact⟨Q7 HE.o.symm,(Kr _ _).alloc _⟩
theorem Qjo (ht:J8 w b o t) (hk:Qf w kv n.kids) (hb:∀k∈n.kids,0≤k∧k<t.nodes.length) (he:n.kind=7) :
  Calls prog 121 #[.pointer (some ⟨b,o,none⟩),.agg #[.int .i64 n.kind,.string n.text,.int .i64 n.i,kv]] w fun e w'=>e=.returned (.bool (X9 t n))∧Q0 nob w w':=by
 have HT:=Hh ht;have HK:=Hh hk;have HB:=Hh hb;have HE:Hi (X9 t n=Q25 t n.kids Qu):=Hh (by rw[X9,Ng Om,Ps he]);clear hk ht hb;generalize n.kind=K at *;subst he;go_enter func121,ntmps121;go_wp2_with (go_at_call 161;refine (Q4e b o t _ _ n.kids Qu _ (HT.o.old ((Kr nob w).alloc _).old) (HK.o.old ((Kr nob w).alloc _).old) (Q5t _) HB.o).mono ?_;rintro e w1 ⟨rfl,hk1⟩);go_ret;exact⟨Q7 HE.o.symm,((Kr _ _).alloc _).thenNob hk1⟩
theorem Qkm (ht:J8 w b o t) (hk:Qf w kv n.kids) (hb:∀k∈n.kids,0≤k∧k<t.nodes.length) (he:n.kind=8∨n.kind=10) :
  Calls prog 121 #[.pointer (some ⟨b,o,none⟩),.agg #[.int .i64 n.kind,.string n.text,.int .i64 n.i,kv]] w fun e w'=>e=.returned (.bool (X9 t n))∧Q0 nob w w':=by
 have HT:=Hh ht;have HK:=Hh hk;have HB:=Hh hb;have HE:Hi (X9 t n=Qo t n.kids [Qu,Qu]):=Hh (by rw[X9,Ng Om,Ng Om,Ps he]);obtain⟨kA,kb,ko,kc,rfl,hkl,Qo6,hkA,hkc⟩:=hk;clear hkc hkA ht hb;generalize n.kind=K at *;rcases he with he|he<;>subst he
 all_goals
  go_enter func121,ntmps121;go_wp2_with (go_at_call 162;refine (Zz b o t _ _ _ _ _ n.kids [Qu,Qu] _ (HT.o.old (((Kr nob w).alloc _).alloc _).old) (HK.o.old (((Kr nob w).alloc _).alloc _).old) (Qj9 _ _ _ _ _ _ _ _ (Blk.new_of _ _ _ Sm) (Q5t _) (Q5t _)) HB.o).mono ?_;rintro e w1 ⟨rfl,hk1⟩);go_ret;exact⟨Q7 HE.o.symm,(((Kr _ _).alloc _).alloc _).thenNob hk1⟩
theorem Qkj (ht:J8 w b o t) (hk:Qf w kv n.kids) (hb:∀k∈n.kids,0≤k∧k<t.nodes.length) (he:n.kind=9) :
  Calls prog 121 #[.pointer (some ⟨b,o,none⟩),.agg #[.int .i64 n.kind,.string n.text,.int .i64 n.i,kv]] w fun e w'=>e=.returned (.bool (X9 t n))∧Q0 nob w w':=by
 have HT:=Hh ht;have HK:=Hh hk;have HB:=Hh hb;have HE:Hi (X9 t n=Qo t n.kids [Qu]):=Hh (by rw[X9,Ng Om,Ng Om,Ng Om,Ps he]);obtain⟨kA,kb,ko,kc,rfl,hkl,Qo6,hkA,hkc⟩:=hk;clear hkc hkA ht hb;generalize n.kind=K at *;subst he;go_enter func121,ntmps121;go_wp2_with (go_at_call 162;refine (Zz b o t _ _ _ _ _ n.kids [Qu] _ (HT.o.old (((Kr nob w).alloc _).alloc _).old) (HK.o.old (((Kr nob w).alloc _).alloc _).old) (Qj0 _ _ _ _ _ _ (Blk.new_of _ _ _ Sm) (Q5t _)) HB.o).mono ?_;rintro e w1 ⟨rfl,hk1⟩);go_ret;exact⟨Q7 HE.o.symm,(((Kr _ _).alloc _).alloc _).thenNob hk1⟩
end
section
variable {b o:Nat} {t:Q1} {n:Qn} {kv:Value} {w:World}
theorem Qgz (ht:J8 w b o t) (k k2:Int) (ks:List Int) (hks:n.kids=k::k2::ks) (hk:Qf w kv n.kids) (hb:∀k∈n.kids,0≤k∧k<t.nodes.length) (he:n.kind=11) (hx:Qu (t.at k).kind=true) :
  Calls prog 121 #[.pointer (some ⟨b,o,none⟩),.agg #[.int .i64 n.kind,.string n.text,.int .i64 n.i,kv]] w fun e w'=>e=.returned (.bool (X9 t n))∧Q0 nob w w':=by
 have HE:Hi (X9 t n=Q25 t (k2::ks) (isK 31)):=Hh (by rw[X9,Ng Om,Ng Om,Ng Om,Ng Om,hks];simp[hx]);obtain⟨g1,g2⟩:=hb k (by rw[hks];simp);obtain⟨m,rfl⟩:=En g1;obtain⟨n0,hn⟩:=Q4 (xs:=t.nodes) (j:=m) Om;rw[Q1.at_of hn] at hx;have HB:Hi (∀k∈(k2::ks),0≤k∧k<t.nodes.length):=Hh (fun k hk=>hb k (by rw[hks];exact List.mem_cons_of_mem _ hk));have HT:=Hh ht;obtain⟨nv,tv,h0,h1,⟨nA,nb,no,nc,rfl,hnl,Qpf,hnA,hnc⟩,h3⟩:=ht;obtain⟨kA,kb,ko,kc,rfl,hkl,Qo6,hkA,hkc⟩:=hk;obtain rfl:=hnA Om;obtain rfl:=hkA (by rw[hks];simp);obtain⟨nkv,q0,-⟩:=hnc m n0 hn;have c0:=hkc 0 m (by rw[hks];rfl)
 have HR:Hi (Qf w (.slice (some ⟨kb,ko+1,none⟩) (n.kids.length-1) (kc-1)) (k2::ks)):=Hh
  ⟨_,kb,ko+1,kc-1,by rw[hks];rfl,by rw[hks] at hkl;simp at hkl ⊢;omega,by rw[hks] at Qo6;simp at Qo6 ⊢;omega,fun _=>rfl,fun j x hj=>by
   have:=hkc (j+1) x (by rw[hks];exact hj)
   rwa [show ko+1+j=ko+(j+1) from by omega]⟩
 have Qnm:1<n.kids.length:=by rw[hks];simp
 generalize n.kids.length=L at *;generalize n.kind=K at *;subst he;clear hkc hnc h3 h1 hn hb hks hkA hnA;generalize hW0:w.alloc (.cells #[.int .i64 11,.string n.text,.int .i64 n.i,.slice (some ⟨kb,ko,none⟩) L kc] 70)=W0;have hk0:Q0 nob w W0:=hW0▸(Kr _ _).alloc _;have hbl:Blk W0 w.heap.size [.int .i64 11,.string n.text,.int .i64 n.i,.slice (some ⟨kb,ko,none⟩) L kc] 70:=hW0▸Blk.new _ _ _;have r0:∀W,Q0 nob W0 W→W.cell? ⟨w.heap.size,0,none⟩=some (.int .i64 11):=fun W h=>h.cell (fun h=>h) (hbl.cell 0 _ rfl)
 have s0:∀W,Q0 nob W0 W→W.cell? ⟨w.heap.size,3,none⟩=some (.slice (some ⟨kb,ko,none⟩) L kc):=fun W h=>h.cell (fun h=>h) (hbl.cell 3 _ rfl)
 have s1:∀W,Q0 nob W0 W→W.cell? ⟨b,o,none⟩=some (.slice (some ⟨nb,no,none⟩) t.nodes.length nc):=fun W h=>h.cell (fun h=>h) (hk0.cell (fun h=>h) h0)
 have s2:∀W,Q0 nob W0 W→W.cell? ⟨kb,ko,none⟩=some (.int .i64 (m:Int)):=fun W h=>h.cell (fun h=>h) (hk0.cell (fun h=>h) c0)
 have s3:∀W,Q0 nob W0 W→W.cell? ⟨nb,no+m*4,none⟩=some (.int .i64 n0.kind):=fun W h=>h.cell (fun h=>h) (hk0.cell (fun h=>h) q0)
 have hr0:=Kr nob W0;have hm0:(0:Int)≤(m:Int):=Om
 have hL1:(1:Int)≤(L:Int):=Om
 have hL0:0<L:=Om
 have hc1:¬ kc=1:=Om
 have hd:decide ((1:Int)<(L:Int))=true:=So
 have HBL:=Hh hbl;clear h0 q0 c0 hbl;go_enter func121,ntmps121;go_wp2
 go_region_held3 (fun W=>Q0 nob W0 W) (first|exact hr0.drew|assumption|exact Q0.thenNob ‹_› ‹_›) (first
  |(go_at_call 94;refine (Q0q _ _).mono ?_;rintro e w1 ⟨rfl,rfl⟩;dsimp only)
  |(go_at_call 163;refine (Zv _ _).mono ?_;rintro e w1 ⟨fv,rfl,Qnu,hk1⟩;dsimp only)
  |(go_at_call 161;refine (Q4e b o t _ _ (k2::ks) (isK 31) _ (HT.o.old (hk0.trans ‹_›).old) (HR.o.old (hk0.trans ‹_›).old) ‹_› HB.o).mono ?_;rintro e w1 ⟨rfl,hk2⟩;dsimp only))
 all_goals
  exact K01
theorem Qiw (ht:J8 w b o t) (k k2:Int) (ks:List Int) (hks:n.kids=k::k2::ks) (hk:Qf w kv n.kids) (hb:∀k∈n.kids,0≤k∧k<t.nodes.length) (he:n.kind=11) (hx:Qu (t.at k).kind=false) :
  Calls prog 121 #[.pointer (some ⟨b,o,none⟩),.agg #[.int .i64 n.kind,.string n.text,.int .i64 n.i,kv]] w fun e w'=>e=.returned (.bool (X9 t n))∧Q0 nob w w':=by
 have HE:Hi (X9 t n=false):=Hh (by rw[X9,Ng Om,Ng Om,Ng Om,Ng Om,hks];simp[hx]);obtain⟨g1,g2⟩:=hb k (by rw[hks];simp);obtain⟨m,rfl⟩:=En g1;obtain⟨n0,hn⟩:=Q4 (xs:=t.nodes) (j:=m) Om;rw[Q1.at_of hn] at hx;obtain⟨nv,tv,h0,h1,⟨nA,nb,no,nc,rfl,hnl,Qpf,hnA,hnc⟩,h3⟩:=ht;obtain⟨kA,kb,ko,kc,rfl,hkl,Qo6,hkA,hkc⟩:=hk;obtain rfl:=hnA Om;obtain rfl:=hkA (by rw[hks];simp);obtain⟨nkv,q0,-⟩:=hnc m n0 hn;have c0:w.cell? ⟨kb,ko,none⟩=some (.int .i64 (m:Int)):=hkc 0 m (by rw[hks];rfl);have Qnm:1<n.kids.length:=by rw[hks];simp
 have b0:=World.block_lt_of_cell? w _ h0;have b1:=World.block_lt_of_cell? w _ q0;have b2:=World.block_lt_of_cell? w _ c0;generalize n.kids.length=L at *;generalize n.kind=K at *;subst he;clear hkc hnc h3 h1 hn hb hks hkA hnA;have hm0:(0:Int)≤(m:Int):=Om
 have hL1:(1:Int)≤(L:Int):=Om
 have hL0:0<L:=Om
 have hd:decide ((1:Int)<(L:Int))=true:=So
 go_enter func121,ntmps121;go_wp2;go_quiet ((go_at_call 94;exact Yh (Q0q _ _)));go_wp2;go_ret;exact⟨Q7 HE.o.symm,((Kr _ _).alloc _).drewN _⟩
theorem Qbf (ht:J8 w b o t) (hk:Qf w kv n.kids) (Qnm:¬ 1<n.kids.length) (he:n.kind=11) :
  Calls prog 121 #[.pointer (some ⟨b,o,none⟩),.agg #[.int .i64 n.kind,.string n.text,.int .i64 n.i,kv]] w fun e w'=>e=.returned (.bool (X9 t n))∧Q0 nob w w':=by
 have HE:Hi (X9 t n=false):=Hh (by
  rw[X9,Ng Om,Ng Om,Ng Om,Ng Om]
  match h:n.kids with
  |[]=>rfl
  |[_]=>rfl
  |_::_::_=>rw[h] at Qnm;simp at Qnm)
 obtain⟨kA,kb,ko,kc,rfl,hkl,Qo6,hkA,hkc⟩:=hk;generalize n.kids.length=L at *;generalize n.kind=K at *;subst he;clear hkc hkA ht;have hd:decide ((1:Int)<(L:Int))=false:=So
 go_enter func121,ntmps121;go_wp2;go_quiet (fail);go_wp2;go_ret;exact⟨Q7 HE.o.symm,((Kr _ _).alloc _).drewN _⟩
theorem Qh8 (ht:J8 w b o t) (hk:Qf w kv n.kids) (hb:∀k∈n.kids,0≤k∧k<t.nodes.length) (he:Qu n.kind=true) :
  Calls prog 121 #[.pointer (some ⟨b,o,none⟩),.agg #[.int .i64 n.kind,.string n.text,.int .i64 n.i,kv]] w fun e w'=>e=.returned (.bool (X9 t n))∧Q0 nob w w':=by
 simp[Qu,Q9] at he;obtain⟨he1,he2⟩:=he
 by_cases h6:n.kind≤6
 ·exact Ql5 hk he1 h6
 by_cases h7:n.kind=7
 ·exact Qjo ht hk hb h7
 by_cases h8:n.kind=8∨n.kind=10
 ·exact Qkm ht hk hb h8
 by_cases h9:n.kind=9
 ·exact Qkj ht hk hb h9
 have h11:n.kind=11:=Om
 match h:n.kids with
 |k::k2::ks =>
  cases hx:Qu (t.at k).kind with
  |true=>exact Qgz ht k k2 ks h hk hb h11 hx
  |false=>exact Qiw ht k k2 ks h hk hb h11 hx
 |[]=>exact Qbf ht hk (by rw[h];simp) h11
 |[_]=>exact Qbf ht hk (by rw[h];simp) h11
end
section
variable {b o:Nat} {t:Q1} {n:Qn} {kv:Value} {w:World}
theorem Q27 (ht:J8 w b o t) (hk:Qf w kv n.kids) (hb:∀k∈n.kids,0≤k∧k<t.nodes.length):∃kA kc W0,kv=.slice kA n.kids.length kc∧w.alloc (.cells #[.int .i64 n.kind,.string n.text,.int .i64 n.i,.slice kA n.kids.length kc] 70 (0,0))=W0∧Q0 nob w W0∧Hi (J8 W0 b o t)∧Hi (Qf W0 (.slice kA n.kids.length kc) n.kids)∧Hi (∀k∈n.kids,0≤k∧k<t.nodes.length)∧Q0 nob W0 W0∧n.kids.length≤140737488355328∧n.kids.length≤kc ∧
  (∀W,Q0 nob W0 W→W.cell? ⟨w.heap.size,0,none⟩=some (.int .i64 n.kind))∧(∀W,Q0 nob W0 W→W.cell? ⟨w.heap.size,1,none⟩=some (.string n.text))∧(∀W,Q0 nob W0 W→W.cell? ⟨w.heap.size,2,none⟩=some (.int .i64 n.i))∧(∀W,Q0 nob W0 W→W.cell? ⟨w.heap.size,3,none⟩=some (.slice kA n.kids.length kc)):=by
 obtain⟨kA,kb,ko,kc,rfl,hkl,Qo6,hkA,hkc⟩:=id hk;obtain⟨W0,hW0⟩:∃W0,W0=w.alloc (.cells #[.int .i64 n.kind,.string n.text,.int .i64 n.i,.slice kA n.kids.length kc] 70 (0,0)):=⟨_,rfl⟩;have hk0:Q0 nob w W0:=hW0▸(Kr _ _).alloc _;have hbl:Blk W0 w.heap.size [.int .i64 n.kind,.string n.text,.int .i64 n.i,.slice kA n.kids.length kc] 70:=hW0▸Blk.new _ _ _;exact⟨kA,kc,W0,rfl,hW0.symm,hk0,Hh (ht.old hk0.old),Hh (hk.old hk0.old),Hh hb,Kr nob W0,hkl,Qo6,fun W h=>h.cell (fun h=>h) (hbl.cell 0 _ rfl),fun W h=>h.cell (fun h=>h) (hbl.cell 1 _ rfl),fun W h=>h.cell (fun h=>h) (hbl.cell 2 _ rfl),fun W h=>h.cell (fun h=>h) (hbl.cell 3 _ rfl)⟩
theorem Qkz (ht:J8 w b o t) (hk:Qf w kv n.kids) (hb:∀k∈n.kids,0≤k∧k<t.nodes.length) (h:n.kind=12∨n.kind=13∨n.kind=14∨n.kind=15∨n.kind=19∨n.kind=23∨n.kind=26) :
  Calls prog 122 #[.pointer (some ⟨b,o,none⟩),.agg #[.int .i64 n.kind,.string n.text,.int .i64 n.i,kv]] w fun e w'=>e=.returned (.bool (Z3 t n))∧Q0 nob w w':=by
 have HE:Hi (Z3 t n=Qo t n.kids [Qu]):=Hh (by rw[Z3,Ps h]);obtain⟨kA,kc,W0,rfl,hW0,hk0,HT,HK,HB,hr0,hkl,Qo6,s0,s1,s2,s3⟩:=Q27 ht hk hb;clear ht hk hb;generalize n.kind=K at *;rcases h with h|h|h|h|h|h|h<;>subst h
 all_goals
  go_enter func122,ntmps122;go_wp2_with (first|(go_at_call 163;refine (Zv _ _).mono ?_;rintro e w1 ⟨fv,rfl,Qnu,hk1⟩;obtain⟨ff,fcap,rfl,fhe,fhc⟩:=id Qnu;clear fhe fhc;dsimp only)|(go_at_call 162;refine (Zz b o t _ _ _ _ _ n.kids [_] _ (HT.o.old (Q0.old Ke)) (HK.o.old (Q0.old Ke)) (Qj0 _ _ _ _ _ _ (Blk.new_of _ _ _ (by first|rfl|simp)) Kg) HB.o).mono ?_;rintro e w1 ⟨rfl,hk1⟩;dsimp only));go_ret;exact⟨Q7 HE.o.symm,hk0.trans (Kt ‹_› (Kt ((Kr _ _).alloc _) ‹_›))⟩
theorem Qjz (ht:J8 w b o t) (hk:Qf w kv n.kids) (hb:∀k∈n.kids,0≤k∧k<t.nodes.length) (h:n.kind=17) :
  Calls prog 122 #[.pointer (some ⟨b,o,none⟩),.agg #[.int .i64 n.kind,.string n.text,.int .i64 n.i,kv]] w fun e w'=>e=.returned (.bool (Z3 t n))∧Q0 nob w w':=by
 have HE:Hi (Z3 t n=Qo t n.kids [Qu,isK 27]):=Hh (by rw[Z3,Ng Om,Ng Om,Ps h]);obtain⟨kA,kc,W0,rfl,hW0,hk0,HT,HK,HB,hr0,hkl,Qo6,s0,s1,s2,s3⟩:=Q27 ht hk hb;clear ht hk hb;generalize n.kind=K at *;subst h;go_enter func122,ntmps122;go_wp2_with (first|(go_at_call 163;refine (Zv _ _).mono ?_;rintro e w1 ⟨fv,rfl,Qnu,hk1⟩;obtain⟨ff,fcap,rfl,fhe,fhc⟩:=id Qnu;clear fhe fhc;dsimp only)|(go_at_call 162;refine (Zz b o t _ _ _ _ _ n.kids [_,_] _ (HT.o.old (Q0.old Ke)) (HK.o.old (Q0.old Ke)) (Qj9 _ _ _ _ _ _ _ _ (Blk.new_of _ _ _ (by first|rfl|simp)) Kg Kg) HB.o).mono ?_;rintro e w1 ⟨rfl,hk1⟩;dsimp only));go_ret;exact⟨Q7 HE.o.symm,hk0.trans (Kt ‹_› (Kt ((Kr _ _).alloc _) ‹_›))⟩
theorem Qks (ht:J8 w b o t) (hk:Qf w kv n.kids) (hb:∀k∈n.kids,0≤k∧k<t.nodes.length) (h:n.kind=18) :
  Calls prog 122 #[.pointer (some ⟨b,o,none⟩),.agg #[.int .i64 n.kind,.string n.text,.int .i64 n.i,kv]] w fun e w'=>e=.returned (.bool (Z3 t n))∧Q0 nob w w':=by
 have HE:Hi (Z3 t n=Qo t n.kids [isK 29,isK 30,isK 27]):=Hh (by rw[Z3,Ng Om,Ng Om,Ng Om,Ps h]);obtain⟨kA,kc,W0,rfl,hW0,hk0,HT,HK,HB,hr0,hkl,Qo6,s0,s1,s2,s3⟩:=Q27 ht hk hb;clear ht hk hb;generalize n.kind=K at *;subst h;go_enter func122,ntmps122;go_wp2_with (go_at_call 163;refine (Zv _ _).mono ?_;rintro e w1 ⟨fv,rfl,Qnu,hk1⟩;obtain⟨ff,fcap,rfl,fhe,fhc⟩:=id Qnu;clear fhe fhc;dsimp only);go_region_held3 (fun W=>Q0 nob W0 W) (first|assumption|exact hr0.drew|exact Kd ‹_›|exact Kt ‹_› ‹_›|exact Ka ‹_› _|exact Kt (Ka ‹_› _) ‹_›) (first|(go_at_call 163;refine (Zv _ _).mono ?_;rintro e w1 ⟨fv,rfl,Qnu,hk1⟩;obtain⟨ff,fcap,rfl,fhe,fhc⟩:=id Qnu;clear fhe fhc;dsimp only)|(go_at_call 162;refine (Zz b o t _ _ _ _ _ n.kids [_,_,_] _ (HT.o.old (Q0.old Ke)) (HK.o.old (Q0.old Ke)) (fns3 _ _ _ _ _ _ _ _ _ _ (Blk.new_of _ _ _ (by first|rfl|simp)) Kg Kg Kg) HB.o).mono ?_;rintro e w1 ⟨rfl,hk1⟩;dsimp only))
 all_goals
  exact K01
theorem Qk1 (ht:J8 w b o t) (hk:Qf w kv n.kids) (hb:∀k∈n.kids,0≤k∧k<t.nodes.length) (h:n.kind=20) :
  Calls prog 122 #[.pointer (some ⟨b,o,none⟩),.agg #[.int .i64 n.kind,.string n.text,.int .i64 n.i,kv]] w fun e w'=>e=.returned (.bool (Z3 t n))∧Q0 nob w w':=by
 have HE:Hi (Z3 t n=Qo t n.kids [isK 31,isK 27]):=Hh (by rw[Z3,Ng Om,Ng Om,Ng Om,Ng Om,Ps h]);obtain⟨kA,kc,W0,rfl,hW0,hk0,HT,HK,HB,hr0,hkl,Qo6,s0,s1,s2,s3⟩:=Q27 ht hk hb;clear ht hk hb;generalize n.kind=K at *;subst h;go_enter func122,ntmps122;go_wp2_with (go_at_call 163;refine (Zv _ _).mono ?_;rintro e w1 ⟨fv,rfl,Qnu,hk1⟩;obtain⟨ff,fcap,rfl,fhe,fhc⟩:=id Qnu;clear fhe fhc;dsimp only);go_region_held3 (fun W=>Q0 nob W0 W) (first|assumption|exact hr0.drew|exact Kd ‹_›|exact Kt ‹_› ‹_›|exact Ka ‹_› _|exact Kt (Ka ‹_› _) ‹_›) (first|(go_at_call 163;refine (Zv _ _).mono ?_;rintro e w1 ⟨fv,rfl,Qnu,hk1⟩;obtain⟨ff,fcap,rfl,fhe,fhc⟩:=id Qnu;clear fhe fhc;dsimp only)|(go_at_call 162;refine (Zz b o t _ _ _ _ _ n.kids [_,_] _ (HT.o.old (Q0.old Ke)) (HK.o.old (Q0.old Ke)) (Qj9 _ _ _ _ _ _ _ _ (Blk.new_of _ _ _ (by first|rfl|simp)) Kg Kg) HB.o).mono ?_;rintro e w1 ⟨rfl,hk1⟩;dsimp only))
 all_goals
  exact K01
theorem Qjg (ht:J8 w b o t) (hk:Qf w kv n.kids) (hb:∀k∈n.kids,0≤k∧k<t.nodes.length) (h:n.kind=21) :
  Calls prog 122 #[.pointer (some ⟨b,o,none⟩),.agg #[.int .i64 n.kind,.string n.text,.int .i64 n.i,kv]] w fun e w'=>e=.returned (.bool (Z3 t n))∧Q0 nob w w':=by
 have HE:Hi (Z3 t n=Q25 t n.kids (isK 28)):=Hh (by rw[Z3,Ng Om,Ng Om,Ng Om,Ng Om,Ng Om,Ps h]);obtain⟨kA,kc,W0,rfl,hW0,hk0,HT,HK,HB,hr0,hkl,Qo6,s0,s1,s2,s3⟩:=Q27 ht hk hb;clear ht hk hb;generalize n.kind=K at *;subst h;go_enter func122,ntmps122;go_wp2_with (go_at_call 163;refine (Zv _ _).mono ?_;rintro e w1 ⟨fv,rfl,Qnu,hk1⟩;obtain⟨ff,fcap,rfl,fhe,fhc⟩:=id Qnu;clear fhe fhc;dsimp only);go_region_held3 (fun W=>Q0 nob W0 W) (first|assumption|exact hr0.drew|exact Kd ‹_›|exact Kt ‹_› ‹_›|exact Ka ‹_› _|exact Kt (Ka ‹_› _) ‹_›) (first|(go_at_call 163;refine (Zv _ _).mono ?_;rintro e w1 ⟨fv,rfl,Qnu,hk1⟩;obtain⟨ff,fcap,rfl,fhe,fhc⟩:=id Qnu;clear fhe fhc;dsimp only)|(go_at_call 161;refine (Q4e b o t _ _ n.kids _ _ (HT.o.old (Q0.old ‹_›)) (HK.o.old (Q0.old ‹_›)) ‹_› HB.o).mono ?_;rintro e w1 ⟨rfl,hk1⟩;dsimp only))
 all_goals
  exact K01
theorem Qkh (ht:J8 w b o t) (hk:Qf w kv n.kids) (hb:∀k∈n.kids,0≤k∧k<t.nodes.length) (h:n.kind=25) :
  Calls prog 122 #[.pointer (some ⟨b,o,none⟩),.agg #[.int .i64 n.kind,.string n.text,.int .i64 n.i,kv]] w fun e w'=>e=.returned (.bool (Z3 t n))∧Q0 nob w w':=by
 have HE:Hi (Z3 t n=Qo t n.kids [isK 7]):=Hh (by rw[Z3,Ng Om,Ng Om,Ng Om,Ng Om,Ng Om,Ng Om,Ps h]);obtain⟨kA,kc,W0,rfl,hW0,hk0,HT,HK,HB,hr0,hkl,Qo6,s0,s1,s2,s3⟩:=Q27 ht hk hb;clear ht hk hb;generalize n.kind=K at *;subst h;go_enter func122,ntmps122;go_wp2_with (go_at_call 163;refine (Zv _ _).mono ?_;rintro e w1 ⟨fv,rfl,Qnu,hk1⟩;obtain⟨ff,fcap,rfl,fhe,fhc⟩:=id Qnu;clear fhe fhc;dsimp only);go_region_held3 (fun W=>Q0 nob W0 W) (first|assumption|exact hr0.drew|exact Kd ‹_›|exact Kt ‹_› ‹_›|exact Ka ‹_› _|exact Kt (Ka ‹_› _) ‹_›) (first|(go_at_call 163;refine (Zv _ _).mono ?_;rintro e w1 ⟨fv,rfl,Qnu,hk1⟩;obtain⟨ff,fcap,rfl,fhe,fhc⟩:=id Qnu;clear fhe fhc;dsimp only)|(go_at_call 162;refine (Zz b o t _ _ _ _ _ n.kids [_] _ (HT.o.old (Q0.old Ke)) (HK.o.old (Q0.old Ke)) (Qj0 _ _ _ _ _ _ (Blk.new_of _ _ _ (by first|rfl|simp)) Kg) HB.o).mono ?_;rintro e w1 ⟨rfl,hk1⟩;dsimp only))
 all_goals
  exact K01
theorem Ql3 (hk:Qf w kv n.kids) (h:n.kind=22∨n.kind=24) :
  Calls prog 122 #[.pointer (some ⟨b,o,none⟩),.agg #[.int .i64 n.kind,.string n.text,.int .i64 n.i,kv]] w fun e w'=>e=.returned (.bool (Z3 t n))∧Q0 nob w w':=by
 have HE:Hi (Z3 t n=((n.kids.length:Int)==0)):=Hh (by
  rw[Z3,Ng Om,Ng Om,Ng Om,Ng Om,Ng Om,Ng Om,Ng Om];cases n.kids<;>simp;omega)
 obtain⟨kA,kb,ko,kc,rfl,hkl,Qo6,hkA,hkc⟩:=id hk;clear hkc hkA;generalize hW0:w.alloc (.cells #[.int .i64 n.kind,.string n.text,.int .i64 n.i,.slice kA n.kids.length kc] 70)=W0;have hk0:Q0 nob w W0:=hW0▸(Kr _ _).alloc _;have hbl:Blk W0 w.heap.size [.int .i64 n.kind,.string n.text,.int .i64 n.i,.slice kA n.kids.length kc] 70:=hW0▸Blk.new _ _ _;have hr0:=Kr nob W0;have s0:∀W,Q0 nob W0 W→W.cell? ⟨w.heap.size,0,none⟩=some (.int .i64 n.kind):=fun W h=>h.cell (fun h=>h) (hbl.cell 0 _ rfl)
 have s3:∀W,Q0 nob W0 W→W.cell? ⟨w.heap.size,3,none⟩=some (.slice kA n.kids.length kc):=fun W h=>h.cell (fun h=>h) (hbl.cell 3 _ rfl)
 clear hk hbl;generalize n.kind=K at *;rcases h with h|h<;>subst h
 all_goals
  go_enter func122,ntmps122;go_wp2_with (go_at_call 163;refine (Zv _ _).mono ?_;rintro e w1 ⟨fv,rfl,Qnu,hk1⟩;obtain⟨ff,fcap,rfl,fhe,fhc⟩:=id Qnu;clear fhe fhc;dsimp only);go_ret;exact⟨Q7 HE.o.symm,hk0.trans ‹_›⟩
theorem Qk7 (ht:J8 w b o t) (hk:Qf w kv n.kids) (hb:∀k∈n.kids,0≤k∧k<t.nodes.length) (h:n.kind=16) :
  Calls prog 122 #[.pointer (some ⟨b,o,none⟩),.agg #[.int .i64 n.kind,.string n.text,.int .i64 n.i,kv]] w fun e w'=>e=.returned (.bool (Z3 t n))∧Q0 nob w w':=by
 have HE:Hi (Z3 t n=(Qo t n.kids [Qu,isK 27] ||Qo t n.kids [Qu,isK 27,isK 27])):=Hh (by rw[Z3,Ng Om,Ps h]);obtain⟨kA,kc,W0,rfl,hW0,hk0,HT,HK,HB,hr0,hkl,Qo6,s0,s1,s2,s3⟩:=Q27 ht hk hb;clear ht hk hb;generalize n.kind=K at *;subst h;cases h2:Qo t n.kids [Qu,isK 27] with
 |true =>
  rw[h2,Bool.true_or] at HE;go_enter func122,ntmps122;go_wp2_with (go_at_call 163;refine (Zv _ _).mono ?_;rintro e w1 ⟨fv,rfl,Qnu,hk1⟩;obtain⟨ff,fcap,rfl,fhe,fhc⟩:=id Qnu;clear fhe fhc;dsimp only);refine (Zz b o t _ _ _ _ _ n.kids [_,_] _ (HT.o.old (Q0.old Ke)) (HK.o.old (Q0.old Ke)) (Qj9 _ _ _ _ _ _ _ _ (Blk.new_of _ _ _ (by first|rfl|simp)) Kg Kg) HB.o).mono ?_;rintro e w1 ⟨rfl,hk1⟩;go_wp2;go_ret;exact⟨Q7 HE.o.symm,hk0.trans (Kt ‹_› (Kt ((Kr _ _).alloc _) ‹_›))⟩
 |false =>
  rw[h2,Bool.false_or] at HE;go_enter func122,ntmps122;go_wp2_with (go_at_call 163;refine (Zv _ _).mono ?_;rintro e w1 ⟨fv,rfl,Qnu,hk1⟩;obtain⟨ff,fcap,rfl,fhe,fhc⟩:=id Qnu;clear fhe fhc;dsimp only);refine (Zz b o t _ _ _ _ _ n.kids [_,_] _ (HT.o.old (Q0.old Ke)) (HK.o.old (Q0.old Ke)) (Qj9 _ _ _ _ _ _ _ _ (Blk.new_of _ _ _ (by first|rfl|simp)) Kg Kg) HB.o).mono ?_;rintro e w2 ⟨rfl,hk2⟩;have hk3:Q0 nob w1 w2:=Kt ((Kr _ _).alloc _) hk2;have hk4:=hk1.trans hk3;go_wp2_with fail;refine (Zz b o t _ _ _ _ _ n.kids [_,_,_] _ (HT.o.old (Q0.old Ke)) (HK.o.old (Q0.old Ke)) (fns3 _ _ _ _ _ _ _ _ _ _ (Blk.new_of _ _ _ (by first|rfl|simp)) Kg Kg Kg) HB.o).mono ?_;rintro e w5 ⟨rfl,hk5⟩;go_wp2;go_ret;exact⟨Q7 HE.o.symm,hk0.trans (hk4.trans (Kt ((Kr _ _).alloc _) hk5))⟩
theorem Qh5 (ht:J8 w b o t) (hk:Qf w kv n.kids) (hb:∀k∈n.kids,0≤k∧k<t.nodes.length) (he:Zs n.kind=true) :
  Calls prog 122 #[.pointer (some ⟨b,o,none⟩),.agg #[.int .i64 n.kind,.string n.text,.int .i64 n.i,kv]] w fun e w'=>e=.returned (.bool (Z3 t n))∧Q0 nob w w':=by
 simp[Zs,Q9] at he;obtain⟨he1,he2⟩:=he
 by_cases h1:n.kind=12∨n.kind=13∨n.kind=14∨n.kind=15∨n.kind=19∨n.kind=23∨n.kind=26
 ·exact Qkz ht hk hb h1
 by_cases h2:n.kind=16
 ·exact Qk7 ht hk hb h2
 by_cases h2:n.kind=17
 ·exact Qjz ht hk hb h2
 by_cases h2:n.kind=18
 ·exact Qks ht hk hb h2
 by_cases h2:n.kind=20
 ·exact Qk1 ht hk hb h2
 by_cases h2:n.kind=21
 ·exact Qjg ht hk hb h2
 by_cases h2:n.kind=25
 ·exact Qkh ht hk hb h2
 exact Ql3 hk Om
end
theorem Qd2 {α:Type} (l:List α):l.isEmpty=((l.length:Int)==0):=by
 cases l with
 |nil=>rfl
 |cons a l=>rw[List.isEmpty_cons];symm;rw[beq_eq_false_iff_ne];simp only[List.length_cons];omega
section
variable {b o:Nat} {t:Q1} {n:Qn} {kv:Value} {w:World}
theorem Qi3 (ht:J8 w b o t) (hk:Qf w kv n.kids) (hb:∀k∈n.kids,0≤k∧k<t.nodes.length) (h:n.kind=27):Calls prog 123 #[.pointer (some ⟨b,o,none⟩),.agg #[.int .i64 n.kind,.string n.text,.int .i64 n.i,kv]] w fun e w'=>e=.returned (.bool (Jf t n))∧Q0 nob w w':=by
 have HE:Hi (Jf t n=Q25 t n.kids Zs):=Hh (by rw[Jf,Ps h]);obtain⟨kA,kc,W0,rfl,hW0,hk0,HT,HK,HB,hr0,hkl,Qo6,s0,s1,s2,s3⟩:=Q27 ht hk hb;clear ht hk hb;generalize n.kind=K at *;subst h;go_enter func123,ntmps123;go_wp2_with (go_at_call 161;refine (Q4e b o t _ _ n.kids Zs _ HT.o HK.o (Qiu _) HB.o).mono ?_;rintro e w1 ⟨rfl,hk1⟩);go_ret;exact⟨Q7 HE.o.symm,hk0.trans hk1⟩
theorem Qhr (ht:J8 w b o t) (hk:Qf w kv n.kids) (hb:∀k∈n.kids,0≤k∧k<t.nodes.length) (h:n.kind=28):Calls prog 123 #[.pointer (some ⟨b,o,none⟩),.agg #[.int .i64 n.kind,.string n.text,.int .i64 n.i,kv]] w fun e w'=>e=.returned (.bool (Jf t n))∧Q0 nob w w':=by
 have HE:Hi (Jf t n=Qo t n.kids [Qu]):=Hh (by rw[Jf,Ng Om,Ps h]);obtain⟨kA,kc,W0,rfl,hW0,hk0,HT,HK,HB,hr0,hkl,Qo6,s0,s1,s2,s3⟩:=Q27 ht hk hb;clear ht hk hb;generalize n.kind=K at *;subst h;go_enter func123,ntmps123;go_wp2_with (first|(go_at_call 163;refine (Zv _ _).mono ?_;rintro e w1 ⟨fv,rfl,Qnu,hk1⟩;obtain⟨ff,fcap,rfl,fhe,fhc⟩:=id Qnu;clear fhe fhc;dsimp only)|(go_at_call 162;refine (Zz b o t _ _ _ _ _ n.kids [_] _ (HT.o.old (Q0.old Ke)) (HK.o.old (Q0.old Ke)) (Qj0 _ _ _ _ _ _ (Blk.new_of _ _ _ (by first|rfl|simp)) Kg) HB.o).mono ?_;rintro e w1 ⟨rfl,hk1⟩;dsimp only));go_ret;exact⟨Q7 HE.o.symm,hk0.trans (Kt ((Kr _ _).alloc _) ‹_›)⟩
theorem Qh6 (ht:J8 w b o t) (hk:Qf w kv n.kids) (hb:∀k∈n.kids,0≤k∧k<t.nodes.length) (h:n.kind=29) (hne:0<n.kids.length):Calls prog 123 #[.pointer (some ⟨b,o,none⟩),.agg #[.int .i64 n.kind,.string n.text,.int .i64 n.i,kv]] w fun e w'=>e=.returned (.bool (Jf t n))∧Q0 nob w w':=by
 have HE:Hi (Jf t n=Q25 t n.kids (isK 31)):=Hh (by rw[Jf,Ng Om,Ng Om,Ps h];cases hh:n.kids<;>simp_all);have hd:decide ((0:Int)<(n.kids.length:Int))=true:=So
 obtain⟨kA,kc,W0,rfl,hW0,hk0,HT,HK,HB,hr0,hkl,Qo6,s0,s1,s2,s3⟩:=Q27 ht hk hb;clear ht hk hb;generalize n.kind=K at *;subst h;go_enter func123,ntmps123;go_wp2;go_region_held3 (fun W=>Q0 nob W0 W) (first|assumption|exact hr0.drew|exact Kd ‹_›|exact Kt ‹_› ‹_›|exact Ka ‹_› _|exact Kt (Ka ‹_› _) ‹_›) (first|(go_at_call 163;refine (Zv _ _).mono ?_;rintro e w1 ⟨fv,rfl,Qnu,hk1⟩;obtain⟨ff,fcap,rfl,fhe,fhc⟩:=id Qnu;clear fhe fhc;dsimp only)|(go_at_call 161;refine (Q4e b o t _ _ n.kids _ _ (HT.o.old (Q0.old ‹_›)) (HK.o.old (Q0.old ‹_›)) ‹_› HB.o).mono ?_;rintro e w1 ⟨rfl,hk1⟩;dsimp only))
 all_goals
  exact K01
theorem Qfe (ht:J8 w b o t) (hk:Qf w kv n.kids) (hb:∀k∈n.kids,0≤k∧k<t.nodes.length) (h:n.kind=29) (hne:¬ 0<n.kids.length):Calls prog 123 #[.pointer (some ⟨b,o,none⟩),.agg #[.int .i64 n.kind,.string n.text,.int .i64 n.i,kv]] w fun e w'=>e=.returned (.bool (Jf t n))∧Q0 nob w w':=by
 have HE:Hi (Jf t n=false):=Hh (by rw[Jf,Ng Om,Ng Om,Ps h];cases hh:n.kids<;>simp_all);have hd:decide ((0:Int)<(n.kids.length:Int))=false:=Df Om;obtain⟨kA,kc,W0,rfl,hW0,hk0,HT,HK,HB,hr0,hkl,Qo6,s0,s1,s2,s3⟩:=Q27 ht hk hb;clear ht hk hb;generalize n.kind=K at *;subst h;go_enter func123,ntmps123;go_wp2;go_quiet (fail);go_wp2;go_ret;exact⟨Q7 HE.o.symm,hk0.drewN _⟩
theorem Qh3 (ht:J8 w b o t) (hk:Qf w kv n.kids) (hb:∀k∈n.kids,0≤k∧k<t.nodes.length) (h:n.kind=30):Calls prog 123 #[.pointer (some ⟨b,o,none⟩),.agg #[.int .i64 n.kind,.string n.text,.int .i64 n.i,kv]] w fun e w'=>e=.returned (.bool (Jf t n))∧Q0 nob w w':=by
 have HE:Hi (Jf t n=Q25 t n.kids (isK 31)):=Hh (by rw[Jf,Ng Om,Ng Om,Ng Om,Ps h]);obtain⟨kA,kc,W0,rfl,hW0,hk0,HT,HK,HB,hr0,hkl,Qo6,s0,s1,s2,s3⟩:=Q27 ht hk hb;clear ht hk hb;generalize n.kind=K at *;subst h;go_enter func123,ntmps123;go_wp2;go_region_held3 (fun W=>Q0 nob W0 W) (first|assumption|exact hr0.drew|exact Kd ‹_›|exact Kt ‹_› ‹_›|exact Ka ‹_› _|exact Kt (Ka ‹_› _) ‹_›) (first|(go_at_call 163;refine (Zv _ _).mono ?_;rintro e w1 ⟨fv,rfl,Qnu,hk1⟩;obtain⟨ff,fcap,rfl,fhe,fhc⟩:=id Qnu;clear fhe fhc;dsimp only)|(go_at_call 161;refine (Q4e b o t _ _ n.kids _ _ (HT.o.old (Q0.old ‹_›)) (HK.o.old (Q0.old ‹_›)) ‹_› HB.o).mono ?_;rintro e w1 ⟨rfl,hk1⟩;dsimp only))
 all_goals
  exact K01
theorem Qax (ht:J8 w b o t) (hk:Qf w kv n.kids) (hb:∀k∈n.kids,0≤k∧k<t.nodes.length) (h:n.kind=31∨n.kind=32):Calls prog 123 #[.pointer (some ⟨b,o,none⟩),.agg #[.int .i64 n.kind,.string n.text,.int .i64 n.i,kv]] w fun e w'=>e=.returned (.bool (Jf t n))∧Q0 nob w w':=by
 have HE:Hi (Jf t n=((n.kids.length:Int)==0)):=Hh (by rw[Jf,Ng Om,Ng Om,Ng Om,Ng Om,Ps h];exact Qd2 _);obtain⟨kA,kc,W0,rfl,hW0,hk0,HT,HK,HB,hr0,hkl,Qo6,s0,s1,s2,s3⟩:=Q27 ht hk hb;clear ht hk hb;generalize n.kind=K at *;rcases h with h|h<;>subst h
 all_goals
  go_enter func123,ntmps123;go_wp2;go_ret;exact⟨Q7 HE.o.symm,hk0⟩
theorem Qi9 (ht:J8 w b o t) (hk:Qf w kv n.kids) (hb:∀k∈n.kids,0≤k∧k<t.nodes.length) (h:n.kind=34):Calls prog 123 #[.pointer (some ⟨b,o,none⟩),.agg #[.int .i64 n.kind,.string n.text,.int .i64 n.i,kv]] w fun e w'=>e=.returned (.bool (Jf t n))∧Q0 nob w w':=by
 have HE:Hi (Jf t n=Qo t n.kids [isK 27]):=Hh (by rw[Jf,Ng Om,Ng Om,Ng Om,Ng Om,Ng Om,Ng Om,Ps h]);obtain⟨kA,kc,W0,rfl,hW0,hk0,HT,HK,HB,hr0,hkl,Qo6,s0,s1,s2,s3⟩:=Q27 ht hk hb;clear ht hk hb;generalize n.kind=K at *;subst h;go_enter func123,ntmps123;go_wp2;go_region_held3 (fun W=>Q0 nob W0 W) (first|assumption|exact hr0.drew|exact Kd ‹_›|exact Kt ‹_› ‹_›|exact Ka ‹_› _|exact Kt (Ka ‹_› _) ‹_›) (first|(go_at_call 163;refine (Zv _ _).mono ?_;rintro e w1 ⟨fv,rfl,Qnu,hk1⟩;obtain⟨ff,fcap,rfl,fhe,fhc⟩:=id Qnu;clear fhe fhc;dsimp only)|(go_at_call 162;refine (Zz b o t _ _ _ _ _ n.kids [_] _ (HT.o.old (Q0.old Ke)) (HK.o.old (Q0.old Ke)) (Qj0 _ _ _ _ _ _ (Blk.new_of _ _ _ (by first|rfl|simp)) Kg) HB.o).mono ?_;rintro e w1 ⟨rfl,hk1⟩;dsimp only))
 all_goals
  exact K01
theorem Qhm (ht:J8 w b o t) (hk:Qf w kv n.kids) (hb:∀k∈n.kids,0≤k∧k<t.nodes.length) (h1:n.kind≠27) (h2:n.kind≠28) (h3:n.kind≠29) (h4:n.kind≠30) (h5:n.kind≠31) (h6:n.kind≠32) (h7:n.kind≠33) (h8:n.kind≠34):Calls prog 123 #[.pointer (some ⟨b,o,none⟩),.agg #[.int .i64 n.kind,.string n.text,.int .i64 n.i,kv]] w fun e w'=>e=.returned (.bool (Jf t n))∧Q0 nob w w':=by
 have HE:Hi (Jf t n=false):=Hh (by rw[Jf,Ng Om,Ng Om,Ng Om,Ng Om,Ng Om,Ng Om,Ng Om]);have g1:(n.kind==27)=false:=by simpa using h1
 have g2:(n.kind==28)=false:=by simpa using h2
 have g3:(n.kind==29)=false:=by simpa using h3
 have g4:(n.kind==30)=false:=by simpa using h4
 have g5:(n.kind==31)=false:=by simpa using h5
 have g6:(n.kind==32)=false:=by simpa using h6
 have g7:(n.kind==33)=false:=by simpa using h7
 have g8:(n.kind==34)=false:=by simpa using h8
 obtain⟨kA,kc,W0,rfl,hW0,hk0,HT,HK,HB,hr0,hkl,Qo6,s0,s1,s2,s3⟩:=Q27 ht hk hb;clear ht hk hb;generalize n.kind=K at *;go_enter func123,ntmps123;go_wp2;go_ret;exact⟨Q7 HE.o.symm,hk0⟩
theorem Qfl (ht:J8 w b o t) (hk:Qf w kv n.kids) (hb:∀k∈n.kids,0≤k∧k<t.nodes.length) (h:n.kind=33) (hne:n.kids=[]):Calls prog 123 #[.pointer (some ⟨b,o,none⟩),.agg #[.int .i64 n.kind,.string n.text,.int .i64 n.i,kv]] w fun e w'=>e=.returned (.bool (Jf t n))∧Q0 nob w w':=by
 have HE:Hi (Jf t n=false):=Hh (by rw[Jf,Ng Om,Ng Om,Ng Om,Ng Om,Ng Om,Ps h,hne];rfl);have hl:n.kids.length=0:=by rw[hne];rfl
 have HL:=Hh hl;have hd:decide ((0:Int)≤(n.kids.length:Int)-1)=false:=by rw[hl];rfl
 have hd2:decide ((1:Int)≤(n.kids.length:Int))=false:=by rw[hl];rfl
 clear hl hne;obtain⟨kA,kc,W0,rfl,hW0,hk0,HT,HK,HB,hr0,hkl,Qo6,s0,s1,s2,s3⟩:=Q27 ht hk hb;clear ht hk hb;generalize n.kind=K at *;subst h;go_enter func123,ntmps123;go_wp2;go_quiet (fail);go_wp2;go_ret;exact⟨Q7 HE.o.symm,hk0.drewN _⟩
theorem Qhh (ht:J8 w b o t) (l:Int) (ks:List Int) (hks:n.kids=ks++[l]) (hk:Qf w kv n.kids) (hb:∀k∈n.kids,0≤k∧k<t.nodes.length) (h:n.kind=33) (pa:Bool) (hpa:Q25 t ks (isK 32)=pa) :
  Calls prog 123 #[.pointer (some ⟨b,o,none⟩),.agg #[.int .i64 n.kind,.string n.text,.int .i64 n.i,kv]] w fun e w'=>e=.returned (.bool (Jf t n))∧Q0 nob w w':=by
 obtain⟨g1,g2⟩:=hb l (by rw[hks];simp);obtain⟨m,rfl⟩:=En g1;obtain⟨n0,hn⟩:=Q4 (xs:=t.nodes) (j:=m) Om
 have HE:Hi (Jf t n=(pa&&(n0.kind==27))):=Hh (by
  rw[Jf,Ng Om,Ng Om,Ng Om,Ng Om,Ng Om,Ps h,hks];simp[hpa,Q1.at_of hn,isK])
 have HPA:=Hh hpa;have Qnm:n.kids.length=ks.length+1:=by rw[hks];simp
 have HB2:Hi (∀k∈ks,0≤k∧k<t.nodes.length):=Hh (fun k hk=>hb k (by rw[hks];exact List.mem_append_left _ hk));clear hpa;obtain⟨nv,tv,h0,h1,⟨nA,nb,no,nc,rfl,hnl,Qpf,hnA,hnc⟩,h3⟩:=id ht;obtain⟨kA,kb,ko,kc,rfl,hkl,Qo6,hkA,hkc⟩:=id hk;obtain rfl:=hnA Om;obtain rfl:=hkA Om;obtain⟨nkv,q0,-⟩:=hnc m n0 hn;have c0:=hkc ks.length m (by rw[hks];simp)
 have HR:Hi (Qf w (.slice (some ⟨kb,ko,none⟩) ks.length kc) ks):=Hh
  ⟨_,kb,ko,kc,rfl,Om,Om,fun _=>rfl,fun j x hj=>hkc j x (by
   rw[hks,List.getElem?_append_left (Gs hj).1];exact hj)⟩
 have HL:=Hh Qnm;generalize n.kids.length=L at *;generalize ks.length=L1 at *;obtain rfl:=Qnm;generalize hW0:w.alloc (.cells #[.int .i64 n.kind,.string n.text,.int .i64 n.i,.slice (some ⟨kb,ko,none⟩) (L1+1) kc] 70)=W0;have hk0:Q0 nob w W0:=hW0▸(Kr _ _).alloc _;have hbl:Blk W0 w.heap.size [.int .i64 n.kind,.string n.text,.int .i64 n.i,.slice (some ⟨kb,ko,none⟩) (L1+1) kc] 70:=hW0▸Blk.new _ _ _;have HT:=Hh (ht.old hk0.old);have HK:=Hh (Qf.old HR.o hk0.old);have hr0:=Kr nob W0;have s0:∀W,Q0 nob W0 W→W.cell? ⟨w.heap.size,0,none⟩=some (.int .i64 n.kind):=fun W h=>h.cell (fun h=>h) (hbl.cell 0 _ rfl)
 have s3:∀W,Q0 nob W0 W→W.cell? ⟨w.heap.size,3,none⟩=some (.slice (some ⟨kb,ko,none⟩) (L1+1) kc):=fun W h=>h.cell (fun h=>h) (hbl.cell 3 _ rfl)
 have s4:∀W,Q0 nob W0 W→W.cell? ⟨b,o,none⟩=some (.slice (some ⟨nb,no,none⟩) t.nodes.length nc):=fun W h=>h.cell (fun h=>h) (hk0.cell (fun h=>h) h0)
 have s5:∀W,Q0 nob W0 W→W.cell? ⟨kb,ko+L1,none⟩=some (.int .i64 (m:Int)):=fun W h=>h.cell (fun h=>h) (hk0.cell (fun h=>h) c0)
 have s6:∀W,Q0 nob W0 W→W.cell? ⟨nb,no+m*4,none⟩=some (.int .i64 n0.kind):=fun W h=>h.cell (fun h=>h) (hk0.cell (fun h=>h) q0)
 have hd:decide ((0:Int)≤(L1:Int))=true:=Sm
 have hm0:(0:Int)≤(m:Int):=Om
 have hl0:(0:Int)≤(L1:Int):=Om
 have hl1:(L1:Int)<(L1:Int)+1:=Om
 have hl2:(L1:Int)≤(kc:Int):=Om
 have HQ:Hi (W0.cell? ⟨b,o,none⟩=some (.slice (some ⟨nb,no,none⟩) t.nodes.length nc)):=Hh (s4 _ hr0);clear ht hk hb hbl hkc hnc h3 h1 hn hks hkA hnA h0 q0 c0;generalize n.kind=K at *;subst h;cases pa with
 |true =>
  go_enter func123,ntmps123;go_wp2;go_region_held3 (fun W=>Q0 nob W0 W) (first|assumption|exact hr0.drew|exact Kd ‹_›|exact Kt ‹_› ‹_›|exact Ka ‹_› _|exact Kt (Ka ‹_› _) ‹_›) (first|(go_at_call 163;refine (Zv _ _).mono ?_;rintro e w1 ⟨fv,rfl,Qnu,hk1⟩;obtain⟨ff,fcap,rfl,fhe,fhc⟩:=id Qnu;clear fhe fhc;dsimp only)|(go_at_call 161;refine (Q4e b o t _ _ ks _ _ (HT.o.old (Q0.old ‹_›)) (HK.o.old (Q0.old ‹_›)) ‹_› HB2.o).mono ?_;rw[HPA.o];rintro e w1 ⟨rfl,hk1⟩;dsimp only))
  all_goals
   exact K01
 |false =>
  go_enter func123,ntmps123;go_wp2
  refine wp_region_held_drew (S:=(fun W=>Q0 nob W0 W)) Kf ?_ (fun hHeld=>?_)
  ·(try dsimp only);((first|assumption|exact hr0.drew|exact Kd ‹_›|exact Kt ‹_› ‹_›|exact Ka ‹_› _|exact Kt (Ka ‹_› _) ‹_›))
  refine rtk 0 ?_;refine rtk 1 ?_;refine rtk 2 ?_
  first|refine rtg 3 ?_|refine rtk 3 ?_
  first|refine rtg 4 ?_|refine rtk 4 ?_
  first|refine rtg 5 ?_|refine rtk 5 ?_
  first|refine rtg 6 ?_|refine rtk 6 ?_
  first|refine rtg 7 ?_|refine rtk 7 ?_
  refine rr1 8 fun K hK=>?_
  go_simp
  (first|(go_at_call 163;refine (Zv _ _).mono ?_;rintro e w1 ⟨fv,rfl,Qnu,hk1⟩;obtain⟨ff,fcap,rfl,fhe,fhc⟩:=id Qnu;clear fhe fhc;dsimp only)|(go_at_call 161;refine (Q4e b o t _ _ ks _ _ (HT.o.old (Q0.old ‹_›)) (HK.o.old (Q0.old ‹_›)) ‹_› HB2.o).mono ?_;rw[HPA.o];rintro e w1 ⟨rfl,hk1⟩;dsimp only))
  refine rko hK ?_ fun hHeld=>?_
  ·(try dsimp only);((first|assumption|exact hr0.drew|exact Kd ‹_›|exact Kt ‹_› ‹_›|exact Ka ‹_› _|exact Kt (Ka ‹_› _) ‹_›))
  clear hK
  refine rr1 9 fun K hK=>?_
  go_simp
  (first|(go_at_call 163;refine (Zv _ _).mono ?_;rintro e w1 ⟨fv,rfl,Qnu,hk1⟩;obtain⟨ff,fcap,rfl,fhe,fhc⟩:=id Qnu;clear fhe fhc;dsimp only)|(go_at_call 161;refine (Q4e b o t _ _ ks _ _ (HT.o.old (Q0.old ‹_›)) (HK.o.old (Q0.old ‹_›)) ‹_› HB2.o).mono ?_;rw[HPA.o];rintro e w1 ⟨rfl,hk1⟩;dsimp only))
  refine rko hK ?_ fun hHeld=>?_
  ·(try dsimp only);((first|assumption|exact hr0.drew|exact Kd ‹_›|exact Kt ‹_› ‹_›|exact Ka ‹_› _|exact Kt (Ka ‹_› _) ‹_›))
  clear hK;refine rtk 10 ?_;refine rtk 11 ?_
  first|refine rtg 12 ?_|refine rtk 12 ?_
  first|refine rtg 13 ?_|refine rtk 13 ?_
  first|refine rtg 14 ?_|refine rtk 14 ?_
  first|refine rtg 15 ?_|refine rtk 15 ?_
  first|refine rtg 16 ?_|refine rtk 16 ?_
  first|refine rtg 17 ?_|refine rtk 17 ?_
  first|refine rtg 18 ?_|refine rtk 18 ?_
  first|refine rtg 19 ?_|refine rtk 19 ?_
  first|refine rtg 20 ?_|refine rtk 20 ?_
  first|refine rtg 21 ?_|refine rtk 21 ?_
  first|refine rtg 22 ?_|refine rtk 22 ?_
  first|refine rtg 23 ?_|refine rtk 23 ?_
  first|refine rtg 24 ?_|refine rtk 24 ?_
  refine rtk 25 ?_;refine rtk 26 ?_;refine wpAnyH_done Kf ?_ _;go_wp2;go_ret;exact⟨Q7 HE.o.symm,hk0.trans ‹_›⟩
end
end Go.Proofs.YtkgkafjachjafaaGreat
