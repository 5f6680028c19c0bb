/- Part 2 of: FnExactPrune answers true; no condition. -/
import Derived.Test.YtkgkafjachjafaaGreatZ01
set_option linter.unusedVariables false
set_option maxHeartbeats 1000000
open Go Go.RowKit
namespace Go.Proofs.YtkgkafjachjafaaGreat
open Tryz
theorem Qdb (b:Int) (w:World):Calls prog 116 #[.int .u8 b] w fun e w'=>e=.returned (.bool (Yr b))∧w=w':=by
 by_cases h1:97≤b<;>by_cases h2:b≤122<;>by_cases h3:65≤b<;>by_cases h4:b≤90
 all_goals first
  |(exfalso;omega)
  |(go_enter func116,ntmps116
    go_wp2;go_ret;exact⟨Q6 (by simp[Yr,h1,h2,h3,h4]),rfl⟩)
theorem Qdl (b:Int) (w:World):Calls prog 192 #[.int .u8 b] w fun e w'=>e=.returned (.bool (Qg b))∧w=w':=by
 by_cases h1:48≤b<;>by_cases h2:b≤57
 all_goals first
  |(exfalso;omega)
  |(go_enter func192,ntmps192
    go_wp2;go_ret;exact⟨Q6 (by simp[Qg,h1,h2]),rfl⟩)
theorem Qai (s:ByteArray) (w:World):Calls prog 117 #[.string s] w fun e w'=>e=.returned (.bool (Q7n s))∧w=w':=by
 go_enter func117,ntmps117;go_wp2
 all_goals first
  |(exfalso;rename_i hx hy;rw[hx] at hy;cases hy;done)
  |(go_ret
    refine⟨Q6 ?_,rfl⟩;unfold Q7n Qe5;simp only[List.any_cons,List.any_nil,Bool.or_false];simp[*])
theorem Q3w (s:ByteArray) (w:World) (hs:s.size≤140737488355328):Calls prog 85 #[.string s] w fun e w'=>e=.returned (.bool (Q0k s))∧w=w':=by
 go_enter func85,ntmps85;go_wp2;go_loop [3] (fun i=>∃j:Nat,j≤s.size∧i=.int .i64 j∧∀k (hk:k<s.size),k<j→Yr ((s[k]'hk).toNat:Int)=true) (fun i=>s.size-(intOf i).toNat)
 case atStart=>exact⟨0,Nat.zero_le _,rfl,fun k _ h=>absurd h (by omega)⟩
 case round =>
  obtain⟨j,hj,rfl,hno⟩:=hrel;have HNO:=Hh hno;clear hno
  by_cases hlt:j<s.size
  ·go_wp2_with (go_at_call 116;refine (Qdb _ _).mono ?_;rintro e w1 ⟨rfl,rfl⟩)
   ·have hb:Yr ((s[j]'hlt).toNat:Int)=false:=by simpa using ‹(!Yr _)=true›
    go_ret;exact⟨Q6 (by simp[Q0k,Q7v hlt hb]),rfl⟩
   ·have hb:Yr ((s[j]'hlt).toNat:Int)=true:=by simpa using ‹(!Yr _)=false›
    go_round
    case rel=>exact⟨j+1,by omega,by go_num,fun k hk hkj=>if e:k=j then by subst e;exact hb else HNO.o k hk (by omega)⟩
    case measure=>simp[intOf];omega
  ·have hl:Q2p s=true:=Q6j fun i hi=>HNO.o i hi (by omega)
   have HL:=Hh hl;clear hl;cases hwi:Q9 (s.size:Int) 1 12 with
   |true =>
    go_wp2_with (first|(go_at_call 89;refine (Jj _ _ _ _).mono ?_;rintro e w1 ⟨rfl,rfl⟩)|(go_at_call 117;refine (Qai _ _).mono ?_;rintro e w1 ⟨rfl,rfl⟩));go_ret;have:(decide (1≤s.size)&&decide (s.size≤12))=true:=by simp[Q9] at hwi;simp;omega
    exact⟨Q6 (by simp[Q0k,HL.o,this]),rfl⟩
   |false =>
    go_wp2_with (first|(go_at_call 89;refine (Jj _ _ _ _).mono ?_;rintro e w1 ⟨rfl,rfl⟩)|(go_at_call 117;refine (Qai _ _).mono ?_;rintro e w1 ⟨rfl,rfl⟩));go_ret;have:(decide (1≤s.size)&&decide (s.size≤12))=false:=by simp[Q9] at hwi;simp;omega
    exact⟨Q6 (by simp[Q0k,this]),rfl⟩
theorem Qi6 (s:ByteArray) (a:Nat) (fv:Value) (p:Int→Bool) (w:World) (hs:s.size≤140737488355328) (ha:a≤s.size) (hf:Q01 .u8 fv p w) :
  Calls prog 191 #[.string s,.int .i64 a,fv] w fun e w'=>e=.returned (.int .i64 (Jq p s a))∧Q0 nob w w':=by
 obtain⟨f,cap,rfl,he,hc⟩:=hf;have HC:=Hh hc;clear hc;go_enter func191,ntmps191;go_wp2;go_loopw [1] (fun i wr=>∃j:Nat,j≤s.size∧i=.int .i64 j∧Jq p s a=Jq p s j∧Q0 nob w wr) (fun i _=>s.size-(intOf i).toNat)
 case atStart=>exact⟨a,ha,rfl,rfl,Kr _ _⟩
 case round =>
  obtain⟨j,hj,rfl,hr,hk⟩:=hrel;have HR:=Hh hr;clear hr
  by_cases hlt:j<s.size
  ·go_wp2_with (refine (HC.o _ _ hk).mono ?_;rintro e w1 ⟨rfl,rfl⟩)
   ·have hb:p ((s[j]'hlt).toNat:Int)=true:=by assumption
    go_roundw
    case rel=>exact⟨j+1,by omega,by go_num,HR.o.trans (Qa5 hlt hb),hk⟩
    case measure=>simp[intOf];omega
   ·have hb:p ((s[j]'hlt).toNat:Int)=false:=by assumption
    go_ret;exact⟨Jn (by rw[HR.o,Qag hlt hb]),hk⟩
  ·go_wp2
   go_ret;exact⟨Jn (by rw[HR.o,Qcn (by omega)]),hk⟩
theorem Q96 (w:World):Q01 .u8 (.func (.func 192) #[] #[]) Qg w :=
 ⟨_,_,rfl,fun args w'=>by go_simp,fun x w' _=>(Qdl x w').mono (by rintro e w1 ⟨rfl,rfl⟩;exact⟨rfl,rfl⟩)⟩
theorem Qlm (s:ByteArray) (a:Nat) (w:World) (hs:s.size≤140737488355328) (ha:a≤s.size) :
  Calls prog 191 #[.string s,.int .i64 a,.func (.func 192) #[] #[]] w fun e w'=>e=.returned (.int .i64 (Jq Qg s a))∧Q0 nob w w' :=
 Qi6 s a _ _ w hs ha (Q96 w)
theorem Q05 (s:ByteArray) (w:World) (hs:s.size≤140737488355328) :
  Calls prog 191 #[.string s,.int .i64 0,.func (.func 192) #[] #[]] w fun e w'=>e=.returned (.int .i64 (Jq Qg s 0))∧Q0 nob w w' :=
 Qi6 s 0 _ _ w hs (Nat.zero_le _) (Q96 w)
theorem Qhf (s:ByteArray) (w:World) (hd:∀b∈J5 s,Qg b=true) (hs:s.size≤15) :
  Calls prog 194 #[.string s] w fun e w'=>e=.returned (.int .i64 (Q0s (J5 s)))∧w=w':=by
 have HD:=Hh hd;clear hd;go_enter func194,ntmps194;go_wp2;go_loop [3,4] (fun n i=>∃j:Nat,j≤s.size∧i=.int .i64 j∧n=.int .i64 (Q0s ((J5 s).take j))) (fun _ i=>s.size-(intOf i).toNat)
 case atStart=>exact⟨0,Nat.zero_le _,rfl,rfl⟩
 case round =>
  obtain⟨j,hj,rfl,rfl⟩:=hrel
  by_cases hlt:j<s.size
  ·have hg:=Q1c s j hlt
   have hb:=HD.o _ (Mg hg);simp[Qg] at hb;obtain⟨hb1,hb2⟩:=hb;obtain⟨hn1,hn2⟩:=Q6c ((J5 s).take j) (fun b hb=>HD.o b (List.mem_of_mem_take hb)) (by rw[List.length_take];omega);have HS:Hi (Q0s ((J5 s).take (j+1))=10*Q0s ((J5 s).take j)+(((s[j]'hlt).toNat:Int)-48)):=Hh (by rw[Jy hg,Qa4]);generalize Q0s ((J5 s).take j)=n at *;clear hg;go_wp2;go_round
   case rel=>exact⟨j+1,by omega,by go_num,by rw[HS.o]⟩
   case measure=>simp[intOf];omega
  ·go_wp2
   go_ret;obtain rfl:j=s.size:=by omega
   exact⟨Jn (by rw[List.take_of_length_le (by rw[Z2];exact Nat.le_refl _)]),rfl⟩
theorem Q6e (s:ByteArray) (most:Int) (w:World) (hs:s.size≤140737488355328) :
  Calls prog 193 #[.string s,.int .i64 most] w fun e w'=>e=.returned (.bool (Ya s most))∧Q0 nob w w':=by
 cases h1:Q9 (s.size:Int) 1 most with
 |false =>
  have HE:Hi (Ya s most=false):=Hh (by simp[Ya,Ya.withinBs];simp[Q9] at h1;omega);go_enter func193,ntmps193;go_wp2_with (go_at_call 89;refine (Jj _ _ _ _).mono ?_;rintro e w1 ⟨rfl,rfl⟩);go_ret;exact⟨Q6 HE.o.symm,Kr _ _⟩
 |true =>
  have hw:Ya.withinBs s.size 1 most=true:=by simp[Ya.withinBs];simpa[Q9] using h1
  have h0:0<s.size:=by simp[Q9] at h1;omega
  have hle:=Q57 Qg s 0 (Nat.zero_le _)
  have h48:Q9c s=((s[0]'h0).toNat:Int):=by
   unfold Q9c;have:=Q1c s 0 h0;cases e:J5 s with
   |nil=>rw[e] at this;cases this
   |cons b bs=>rw[e] at this;simpa using this
  have HB:=Hh h48;have HW:=Hh hw;clear h48 hw;cases h2:(((Jq Qg s 0:Nat):Int)==(s.size:Int))<;>cases h3:((s.size:Int)==1)<;>cases h4:(((s[0]'h0).toNat:Int) != 48)
  all_goals
   have HE:Hi (Ya s most=((((Jq Qg s 0:Nat):Int)==(s.size:Int))&&(((s.size:Int)==1) ||(((s[0]'h0).toNat:Int) != 48)))):=Hh (by
    rw[Ya,HW.o,HB.o,Bool.true_and];congr 1
    ·rw[Bool.eq_iff_iff];simp;omega
    ·congr 1
     ·rw[Bool.eq_iff_iff];simp;omega
     ·rw[Bool.eq_iff_iff];simp)
   rw[h2,h3,h4] at HE;go_enter func193,ntmps193;go_wp2_with (first|(go_at_call 89;refine (Jj _ _ _ _).mono ?_;rintro e w1 ⟨rfl,rfl⟩)|(go_at_call 191;refine (Q05 _ _ hs).mono ?_;rintro e w1 ⟨rfl,hk1⟩));go_ret;exact⟨Q6 HE.o.symm,hk1⟩
theorem Q9y (a b:ByteArray):J5 (a++b)=J5 a++J5 b:=by
 unfold J5;rw[← List.map_append];congr 1
theorem Q72 {x y:Nat} {a b:Bool} (h1:x=y) (h2:a=b):Ending.returned (.tuple #[.float .f64 x,.bool a])=.returned (.tuple #[.float .f64 y,.bool b]):=by rw[h1,h2]
def Q6a (s:ByteArray) (w:World) (e:Ending) (w':World):Prop:=e=.returned (.tuple #[.float .f64 (Yz s),.bool (Q1n s)])∧Q0 nob w w'
theorem Qfu (s:ByteArray) (w:World) (hs:s.size≤140737488355328) (h:s.size≤Jq Qg s 0) :
  Calls prog 160 #[.string s] w (Q6a s w):=by
 have hp:Yy s=none:=by unfold Yy;rw[dif_neg (by omega)]
 have HB:Hi (Q1n s=false):=Hh (by simp[Q1n,hp]);have HV:Hi (Yz s=0):=Hh (by simp[Yz,hp]);clear hp;go_enter func160,ntmps160;go_wp2_with (go_at_call 191;refine (Q05 _ _ hs).mono ?_;rintro e w1 ⟨rfl,hk1⟩);go_ret2;exact⟨Q72 HV.o.symm HB.o.symm,hk1⟩
theorem Qaz (s:ByteArray) (w:World) (hs:s.size≤140737488355328) (h:Jq Qg s 0<s.size) (hb:(((s[Jq Qg s 0]'h).toNat:Int) != 46)=true) :
  Calls prog 160 #[.string s] w (Q6a s w):=by
 have hp:Yy s=none:=by unfold Yy;rw[dif_pos h,Ng];simp at hb;simp[hb]
 have HB:Hi (Q1n s=false):=Hh (by simp[Q1n,hp]);have HV:Hi (Yz s=0):=Hh (by simp[Yz,hp]);clear hp;go_enter func160,ntmps160;go_wp2_with (go_at_call 191;refine (Q05 _ _ hs).mono ?_;rintro e w1 ⟨rfl,hk1⟩);go_ret2;exact⟨Q72 HV.o.symm HB.o.symm,hk1⟩
theorem Qei (s:ByteArray) (w:World) (hs:s.size≤140737488355328) (h:Jq Qg s 0<s.size) (hb:(((s[Jq Qg s 0]'h).toNat:Int) != 46)=false) :
  Calls prog 160 #[.string s] w (Q6a s w):=by
 have hb':((s[Jq Qg s 0]'h).toNat:Int)=46:=by simpa using hb
 have hp:∀wh pt,s.extract 0 (Jq Qg s 0)=wh→s.extract (Jq Qg s 0+1) s.size=pt →
   Yy s=if Ya wh 9=true∧1≤pt.size∧pt.size≤6∧Jq Qg pt 0=pt.size then some (wh,pt) else none:=by
  intro wh pt h1 h2;unfold Yy;rw[dif_pos h,h1,h2];simp only[hb',true_and]
 have HP:=Hh hp;clear hp hb';generalize ha:Jq Qg s 0=a at *;have HA:=Hh ha;clear ha;have e1:(s.extract 0 a).size≤140737488355328:=by simp;omega
 have e2:(s.extract (a+1) s.size).size≤140737488355328:=by simp;omega
 go_enter func160,ntmps160;go_wp2_with (go_at_call 191;refine (Q05 _ _ hs).mono ?_;rw[HA.o];rintro e w1 ⟨rfl,hk1⟩);go_quiet (fail);generalize hwh:s.extract 0 a=wh at *;generalize hpt:s.extract (a+1) s.size=pt at *;have HWH:=Hh hwh;have HPT:=Hh hpt;clear hwh hpt;have hk2:=hk1.drewN nq;generalize w1.drewN nq=w2 at *;clear hk1;have hd:=Q57 Qg pt 0 (Nat.zero_le _);cases h1:Ya wh 9 with
 |false =>
  have hr:=HP.o wh pt rfl rfl;rw[Ng (by simp[h1])] at hr;have HB:Hi (Q1n s=false):=Hh (by simp[Q1n,hr]);have HV:Hi (Yz s=0):=Hh (by simp[Yz,hr]);clear hr;go_wp2_with (go_at_call 193;refine (Q6e _ _ _ e1).mono ?_;rintro e w3 ⟨rfl,hk3⟩);go_ret2;exact⟨Q72 HV.o.symm HB.o.symm,hk2.thenNob hk3⟩
 |true =>
 cases h2:Q9 (pt.size:Int) 1 6 with
 |false =>
  have hr:=HP.o wh pt rfl rfl;rw[Ng (by simp[Q9] at h2;omega)] at hr;have HB:Hi (Q1n s=false):=Hh (by simp[Q1n,hr]);have HV:Hi (Yz s=0):=Hh (by simp[Yz,hr]);clear hr;go_wp2_with (first|(go_at_call 193;refine (Q6e _ _ _ e1).mono ?_;rintro e w3 ⟨rfl,hk3⟩)|(go_at_call 89;refine (Jj _ _ _ _).mono ?_;rintro e w4 ⟨rfl,rfl⟩));go_ret2;exact⟨Q72 HV.o.symm HB.o.symm,hk2.thenNob hk3⟩
 |true =>
 cases h3:(((Jq Qg pt 0:Nat):Int) != (pt.size:Int)) with
 |true =>
  have hr:=HP.o wh pt rfl rfl;rw[Ng (by simp at h3;omega)] at hr;have HB:Hi (Q1n s=false):=Hh (by simp[Q1n,hr]);have HV:Hi (Yz s=0):=Hh (by simp[Yz,hr]);clear hr;go_wp2_with (first|(go_at_call 193;refine (Q6e _ _ _ e1).mono ?_;rintro e w3 ⟨rfl,hk3⟩)|(go_at_call 89;refine (Jj _ _ _ _).mono ?_;rintro e w4 ⟨rfl,rfl⟩)|(go_at_call 191;refine (Q05 _ _ e2).mono ?_;rintro e w5 ⟨rfl,hk5⟩));go_ret2;exact⟨Q72 HV.o.symm HB.o.symm,(hk2.thenNob hk3).thenNob hk5⟩
 |false =>
  have g1:1≤pt.size∧pt.size≤6:=by simp[Q9] at h2;omega
  have g2:Jq Qg pt 0=pt.size:=by simp at h3;omega
  have hr:=HP.o wh pt rfl rfl;rw[Ps ⟨h1,g1.1,g1.2,g2⟩] at hr;have HB:Hi (Q1n s=true):=Hh (by simp[Q1n,hr]);have HV:Hi (Yz s=(Ieee.double.div (floatOfInt .f64 (Q0s (J5 (wh++pt)))) (Q0y pt.size)).getD 0):=Hh (by simp[Yz,hr])
  have Qo1:∀b∈J5 (wh++pt),Qg b=true:=by
   rw[Q9y];intro b hb;rcases List.mem_append.1 hb with hb|hb
   ·refine Qcy ?_ b hb
    simp[Ya,Ya.withinBs] at h1;exact h1.1.2
   ·exact Qcy g2 b hb
  have hsz:wh.size≤9:=by simp[Ya,Ya.withinBs] at h1;omega
  have Qng:(wh++pt).size≤15:=by rw[ByteArray.size_append];omega
  have hnn:0≤Q0s (J5 (wh++pt)):=(Q6c _ Qo1 (by rw[Z2];exact Qng)).1;have Qwh:=Hh (Qlj _ pt.size g1.2 hnn);have Qp1:=Hh Qo1;obtain⟨g11,g12⟩:=g1;clear hr g2 Qo1 hnn;go_wp2_with (first|(go_at_call 193;refine (Q6e _ _ _ e1).mono ?_;rintro e w3 ⟨rfl,hk3⟩)|(go_at_call 89;refine (Jj _ _ _ _).mono ?_;rintro e w4 ⟨rfl,rfl⟩)|(go_at_call 191;refine (Q05 _ _ e2).mono ?_;rintro e w5 ⟨rfl,hk5⟩));go_loop [7,45] (fun t i=>∃j:Nat,j≤pt.size∧i=.int .i64 j∧t=.float .f64 (Q0y j)) (fun _ i=>pt.size-(intOf i).toNat)
  case atStart=>exact⟨0,Nat.zero_le _,rfl,rfl⟩
  case round =>
   obtain⟨j,hj,rfl,rfl⟩:=hrel
   by_cases hlt:j<pt.size
   ·have ht:=run_float_arith (P:=prog) (op:=.mul) (t:=104) (k:=.f64) (h:=Qcz j (by omega))
    have HT:=Hh (Qcz j (by omega));go_wp2;go_round
    case rel=>exact⟨j+1,by omega,by go_num,rfl⟩
    case measure=>simp[intOf];omega
   ·obtain rfl:j=pt.size:=by omega
    have hq:=run_float_arith (P:=prog) (op:=.quo) (t:=104) (k:=.f64) (h:=Qwh.o);go_wp2_with (go_at_call 194;refine (Qhf _ _ Qp1.o Qng).mono ?_;rintro e w6 ⟨rfl,rfl⟩);go_ret2;exact⟨Q72 HV.o.symm HB.o.symm,(hk2.thenNob hk3).thenNob hk5⟩
theorem Qhr (s:ByteArray) (w:World) (hs:s.size≤140737488355328):Calls prog 160 #[.string s] w (Q6a s w):=by
 rcases Nat.lt_or_ge (Jq Qg s 0) s.size with h|h
 ·cases hb:(((s[Jq Qg s 0]'h).toNat:Int) != 46) with
  |true=>exact Qaz s w hs h hb
  |false=>exact Qei s w hs h hb
 ·exact Qfu s w hs h
theorem Q0i (x:Int) (w:World):Calls prog 94 #[.int .i64 x] w fun e w'=>e=.returned (.bool (Qs x))∧w=w':=by
 go_enter func94,ntmps94;go_wp2_with (go_at_call 89;refine (Jj _ _ _ _).mono ?_;rintro e w' ⟨rfl,rfl⟩);go_ret;exact⟨rfl,rfl⟩
theorem Q2b (x:Int) (w:World):Calls prog 96 #[.int .i64 x] w fun e w'=>e=.returned (.bool (Zp x))∧w=w':=by
 go_enter func96,ntmps96;go_wp2_with (go_at_call 89;refine (Jj _ _ _ _).mono ?_;rintro e w' ⟨rfl,rfl⟩);go_ret;exact⟨rfl,rfl⟩
theorem Jx (w:World):Q01 .i64 (.func (.func 94) #[] #[]) Qs w :=
 ⟨_,_,rfl,fun args w'=>by go_simp,fun x w' _=>(Q0i x w').mono (by rintro e w1 ⟨rfl,rfl⟩;exact⟨rfl,rfl⟩)⟩
theorem Qhi (w:World):Q01 .i64 (.func (.func 96) #[] #[]) Zp w :=
 ⟨_,_,rfl,fun args w'=>by go_simp,fun x w' _=>(Q2b x w').mono (by rintro e w1 ⟨rfl,rfl⟩;exact⟨rfl,rfl⟩)⟩
theorem Qk6 (x a:Int) (b:Nat) (w:World) (hb:w.cell? ⟨b,0,none⟩=some (.int .i64 a)) :
  Calls prog 195 #[.int .i64 x,.pointer (some ⟨b,0,none⟩)] w fun e w'=>e=.returned (.bool (isK a x))∧w=w':=by
 go_enter func195,ntmps195;go_wp2;go_ret;exact⟨Q6 (by simp[isK]),rfl⟩
theorem Zv (a:Int) (w:World):Calls prog 163 #[.int .i64 a] w fun e w'=>∃v,e=.returned v∧Q01 .i64 v (isK a) w'∧Q0 nob w w':=by
 have Qpw:(w.alloc (.cells #[.int .i64 a] 3)).cell? ⟨w.heap.size,0,none⟩=some (.int .i64 a):=(Blk.new w [.int .i64 a] 3).cell 0 _ rfl;have HN:=Hh Qpw;clear Qpw;go_enter func163,ntmps163;go_wp2;go_ret
 refine⟨_,rfl,⟨_,_,rfl,fun args w'=>by go_simp,fun x w' hk=>?_⟩,(Kr _ _).alloc _⟩
 exact (Qk6 x a _ w' (hk.cell (fun h=>h) HN.o)).mono (by rintro e w1 ⟨rfl,rfl⟩;exact⟨rfl,rfl⟩)
theorem Q41 (b o:Nat) (t:Q1) (v fv:Value) (ks:List Int) (p:Int→Bool) (w:World) (ht:J7 w b o t) (hk:Qi w v ks) (hf:Q01 .i64 fv p w)
  (hb:∀k∈ks,0≤k∧k<t.nodes.length) :
  Calls prog 161 #[.pointer (some ⟨b,o,none⟩),v,fv] w fun e w'=>e=.returned (.bool (Q1t t ks p))∧Q0 nob w w':=by
 obtain⟨nv,tv,h0,h1,⟨nA,nb,no,nc,rfl,hnl,Qom,hnA,hnc⟩,h3⟩:=ht;obtain⟨kA,kb,ko,kc,rfl,hkl,Qnd,hkA,hkc⟩:=hk;obtain⟨f,cap,rfl,he,hfc⟩:=hf;have HNC:=Hh hnc;have HKC:=Hh hkc;have HFC:=Hh hfc;have HB:=Hh hb;clear hnc hkc hfc hb h3 h1;go_enter func161,ntmps161;go_wp2;go_loopw [8,11] (fun u i wr=>∃j:Nat,j≤ks.length∧i=.int .i64 j∧Q1t t ks p=Q1t t (ks.drop j) p∧Q0 nob w wr) (fun _ i _=>ks.length-(intOf i).toNat)
 case atStart=>exact⟨0,Nat.zero_le _,rfl,rfl,Kr _ _⟩
 case round =>
  obtain⟨j,hj,rfl,hr,hk⟩:=hrel
  by_cases hlt:j<ks.length
  ·obtain⟨k,hkj⟩:=Q3 hlt
   obtain⟨g1,g2⟩:=HB.o k (Mg hkj);obtain⟨m,rfl⟩:=En g1;obtain⟨n,hn⟩:=Q3 (xs:=t.nodes) (j:=m) (by omega);have HE:Hi (Q1t t ks p=(p n.kind&&Q1t t (ks.drop (j+1)) p)):=Hh (by rw[hr,Qd hkj,Q1t,List.all_cons,Q1.at_of hn];rfl);obtain⟨kv,q0,q1,q2,q3,q4⟩:=HNC.o m n hn;have c0:=hk.cell (fun h=>h) (HKC.o j _ hkj);have c1:=hk.cell (fun h=>h) q0;have c2:=hk.cell (fun h=>h) h0;obtain rfl:=hkA (by omega);obtain rfl:=hnA (by omega);clear hr hkj hn q0 q1 q2 q3 q4 hkA hnA h0;go_wp2_with (refine (HFC.o _ _ hk).mono ?_;rintro e w1 ⟨rfl,rfl⟩)
   ·have hp:p n.kind=false:=by simpa using ‹(!p n.kind)=true›
    go_ret;exact⟨Q6 (by rw[HE.o,hp];rfl),hk⟩
   ·have hp:p n.kind=true:=by simpa using ‹(!p n.kind)=false›
    go_roundw
    case rel=>exact⟨j+1,by omega,by go_num,by rw[HE.o,hp];rfl,hk⟩
    case measure=>simp[intOf];omega
  ·go_wp2
   go_ret;exact⟨Q6 (by rw[hr,Dn (by omega)];rfl),hk⟩
def Ql4 (w:World) (v:Value) (ps:List (Int→Bool)):Prop :=
 ∃A b o c,v=.slice A ps.length c∧ps.length≤140737488355328∧(0<ps.length→A=some ⟨b,o,none⟩) ∧
  ∀j p,ps[j]?=some p→∃fv,w.cell? ⟨b,o+j,none⟩=some fv∧Q01 .i64 fv p w
theorem Qfd {t:Q1}:∀{ks:List Int} {ps:List (Int→Bool)},ks.length≠ps.length→Qo t ks ps=false:=by
 intro ks
 induction ks with
 |nil=>intro ps h;cases ps with
  |nil=>exact absurd rfl h
  |cons p ps=>rfl
 |cons k ks ih=>intro ps h;cases ps with
  |nil=>rfl
  |cons p ps=>simp only[Qo];rw[ih (by simpa using h)];simp
theorem X3 (b o:Nat) (t:Q1) (x0 x1 x2 kv iv:Value) (ks:List Int) (ps:List (Int→Bool)) (w:World) (ht:J7 w b o t) (hk:Qi w kv ks) (hf:Ql4 w iv ps)
  (hb:∀k∈ks,0≤k∧k<t.nodes.length) :
  Calls prog 162 #[.pointer (some ⟨b,o,none⟩),.agg #[x0,x1,x2,kv],iv] w
   fun e w'=>e=.returned (.bool (Qo t ks ps))∧Q0 nob w w':=by
 obtain⟨nv,tv,h0,h1,⟨nA,nb,no,nc,rfl,hnl,Qom,hnA,hnc⟩,h3⟩:=ht;obtain⟨kA,kb,ko,kc,rfl,hkl,Qnd,hkA,hkc⟩:=hk;obtain⟨fA,fb,fo,fc,rfl,hfl,hfA,hfc⟩:=hf;have HNC:=Hh hnc;have HKC:=Hh hkc;have HFC:=Hh hfc;have HB:=Hh hb;clear hnc hkc hfc hb h3 h1;have Qsh:=World.block_lt_of_cell? w _ h0
 by_cases hne:ks.length=ps.length
 ·have t1:(((ks.length:Nat):Int) != (ps.length:Int))=false:=by simp[hne]
  have HNE:=Hh hne;clear hne;go_enter func162,ntmps162;go_wp2
  go_loopw [7,8,17] (fun u f i wr=>∃j:Nat,j≤ps.length∧i=.int .i64 j∧Qo t ks ps=Qo t (ks.drop j) (ps.drop j)∧Q0 nob w wr ∧
   Blk wr w.heap.size [x0,x1,x2,.slice kA ks.length kc] 70) (fun _ _ i _=>ps.length-(intOf i).toNat)
  case atStart=>exact⟨0,Nat.zero_le _,rfl,rfl,(Kr _ _).alloc _,Blk.new _ _ _⟩
  case round =>
   obtain⟨j,hj,rfl,hr,hk,hbl⟩:=hrel
   by_cases hlt:j<ps.length
   ·obtain⟨k,hkj⟩:=Q3 (xs:=ks) (j:=j) (by rw[HNE.o];exact hlt)
    obtain⟨p,hpj⟩:=Q3 (xs:=ps) (j:=j) hlt;obtain⟨g1,g2⟩:=HB.o k (Mg hkj);obtain⟨m,rfl⟩:=En g1;obtain⟨n,hn⟩:=Q3 (xs:=t.nodes) (j:=m) (by omega);have HE:Hi (Qo t ks ps=(p n.kind&&Qo t (ks.drop (j+1)) (ps.drop (j+1)))):=Hh (by rw[hr,Qd hkj,Qd hpj,Qo,Q1.at_of hn]);obtain⟨kv,q0,q1,q2,q3,q4⟩:=HNC.o m n hn;obtain⟨fv,f0,Qn1⟩:=HFC.o j p hpj;have c0:=hk.cell (fun h=>h) (HKC.o j _ hkj);have c1:=hk.cell (fun h=>h) q0;have c2:=hk.cell (fun h=>h) h0;have c3:=hbl.cell 3 _ rfl;have c4:=hk.cell (fun h=>h) f0;obtain⟨f,cap,rfl,he,hfc⟩:=Qn1;have HFF:=Hh hfc;have HBL:=Hh hbl;have hjk:(j:Int)<(ks.length:Int):=by rw[HNE.o];omega
    have hj0:(0:Int)≤(j:Int):=by omega
    have hm0:(0:Int)≤(m:Int):=by omega
    obtain rfl:=hkA (by rw[HNE.o];omega);obtain rfl:=hnA (by omega);obtain rfl:=hfA (by omega);clear hr hkj hn q0 q1 q2 q3 q4 hkA hnA h0 f0 hfc hbl hpj;go_wp2;go_quiet ((exact Xi (HFF.o _ _ (hk.drewN _))));go_wp2
    ·have hp:p n.kind=false:=by simpa using ‹(!p n.kind)=true›
     go_ret;exact⟨Q6 (by rw[HE.o,hp];rfl),hk.drewN _⟩
    ·have hp:p n.kind=true:=by simpa using ‹(!p n.kind)=false›
     go_roundw
     case rel=>exact⟨j+1,by omega,by go_num,by rw[HE.o,hp];rfl,hk.drewN _,HBL.o.drewN _⟩
     case measure=>simp[intOf];omega
   ·go_wp2
    go_ret;exact⟨Q6 (by rw[hr,Dn (by rw[HNE.o];omega),Dn (by omega)];rfl),hk⟩
 ·have t1:(((ks.length:Nat):Int) != (ps.length:Int))=true:=by simp;omega
  have HE:=Hh (Qfd (t:=t) hne);clear hne;go_enter func162,ntmps162;go_wp2;go_ret;exact⟨Q6 HE.o.symm,(Kr _ _).alloc _⟩
theorem Q2v (n:Qc) (kv:Value) (w:World) :
  Calls prog 120 #[.agg #[.int .i64 n.kind,.string n.text,.int .i64 n.i,kv]] w fun e w'=>e=.returned (.bool (Xn n))∧Q0 nob w w':=by
 go_enter func120,ntmps120;go_wp2_with (first|(go_at_call 89;refine (Jj _ _ _ _).mono ?_;rintro e w4 ⟨rfl,rfl⟩)|(go_at_call 87;refine (Q1g _ _).mono ?_;rintro e w4 ⟨rfl,rfl⟩))
 all_goals first
  |(exfalso;rename_i hx hy;rw[hx] at hy;cases hy;done)
  |(go_ret
    refine⟨Q6 ?_,(Kr _ _).alloc _⟩
    simp_all[Xn];done)
theorem Q3u (n:Qc) (kv:Value) (w:World) (hs:n.text.size≤140737488355328) :
  Calls prog 119 #[.agg #[.int .i64 n.kind,.string n.text,.int .i64 n.i,kv]] w fun e w'=>e=.returned (.bool (Yq n))∧Q0 nob w w':=by
 go_enter func119,ntmps119;go_wp2_with (first|(go_at_call 160;refine (Qhr _ _ hs).mono ?_;rintro e w4 ⟨rfl,hk4⟩)|(go_at_call 85;refine (Q3w _ _ hs).mono ?_;rintro e w4 ⟨rfl,rfl⟩))
 all_goals first
  |(exfalso;rename_i hx hy;rw[hx] at hy;cases hy;done)
  |(go_ret
    refine⟨Q6 ?_,(by first|exact (Kr _ _).alloc _|exact ((Kr _ _).alloc _).thenNob ‹_›)⟩
    simp_all[Yq];done)
theorem Qjg (w:World) (b T:Nat) (f1:Value) (p1:Int→Bool) (c:Nat) (h:Blk w b [f1] T) (h1:Q01 .i64 f1 p1 w):Ql4 w (.slice (some ⟨b,0,none⟩) 1 c) [p1] :=
 ⟨_,b,0,c,rfl,by simp,fun _=>rfl,fun j p hj=>by
  match j,hj with
  |0,hj=>cases hj;exact⟨f1,h.cell 0 _ rfl,h1⟩⟩
theorem Qkf (w:World) (b T:Nat) (f1 f2:Value) (p1 p2:Int→Bool) (c:Nat) (h:Blk w b [f1,f2] T) (h1:Q01 .i64 f1 p1 w) (h2:Q01 .i64 f2 p2 w):Ql4 w (.slice (some ⟨b,0,none⟩) 2 c) [p1,p2] :=
 ⟨_,b,0,c,rfl,by simp,fun _=>rfl,fun j p hj=>by
  match j,hj with
  |0,hj=>cases hj;exact⟨f1,h.cell 0 _ rfl,h1⟩
  |1,hj=>cases hj;exact⟨f2,h.cell 1 _ rfl,h2⟩⟩
theorem fns3 (w:World) (b T:Nat) (f1 f2 f3:Value) (p1 p2 p3:Int→Bool) (c:Nat) (h:Blk w b [f1,f2,f3] T) (h1:Q01 .i64 f1 p1 w) (h2:Q01 .i64 f2 p2 w) (h3:Q01 .i64 f3 p3 w) :
  Ql4 w (.slice (some ⟨b,0,none⟩) 3 c) [p1,p2,p3] :=
 ⟨_,b,0,c,rfl,by simp,fun _=>rfl,fun j p hj=>by
  match j,hj with
  |0,hj=>cases hj;exact⟨f1,h.cell 0 _ rfl,h1⟩
  |1,hj=>cases hj;exact⟨f2,h.cell 1 _ rfl,h2⟩
  |2,hj=>cases hj;exact⟨f3,h.cell 2 _ rfl,h3⟩⟩
def NArgs (b o:Nat) (n:Qc) (kv:Value):Array Value:=#[.pointer (some ⟨b,o,none⟩),.agg #[.int .i64 n.kind,.string n.text,.int .i64 n.i,kv]]
section
variable {b o:Nat} {t:Q1} {n:Qc} {kv:Value} {w:World}
theorem Qj3 (hk:Qi w kv n.kids) (he:1≤n.kind) (he2:n.kind≤6) :
  Calls prog 121 #[.pointer (some ⟨b,o,none⟩),.agg #[.int .i64 n.kind,.string n.text,.int .i64 n.i,kv]] w fun e w'=>e=.returned (.bool (Xb t n))∧Q0 nob w w':=by
 obtain⟨kA,kb,ko,kc,rfl,hkl,Qnd,hkA,hkc⟩:=hk;clear hkc hkA
 have HE:Hi (Xb t n=((n.kids.length:Int)==0)):=Hh (by
  rw[Xb,Ps (by omega)];cases n.kids<;>simp;omega)
 have Qqv:n.kind=1∨n.kind=2∨n.kind=3∨n.kind=4∨n.kind=5∨n.kind=6:=by omega
 generalize n.kind=K at *;clear he he2;rcases Qqv with h|h|h|h|h|h<;>subst h
 all_goals
  go_enter func121,ntmps121;go_wp2;go_ret;exact⟨Q6 HE.o.symm,(Kr _ _).alloc _⟩
theorem Qi2 (ht:J7 w b o t) (hk:Qi w kv n.kids) (hb:∀k∈n.kids,0≤k∧k<t.nodes.length) (he:n.kind=7) :
  Calls prog 121 #[.pointer (some ⟨b,o,none⟩),.agg #[.int .i64 n.kind,.string n.text,.int .i64 n.i,kv]] w fun e w'=>e=.returned (.bool (Xb t n))∧Q0 nob w w':=by
 have HT:=Hh ht;have HK:=Hh hk;have HB:=Hh hb;have HE:Hi (Xb t n=Q1t t n.kids Qs):=Hh (by rw[Xb,Ng (by omega),Ps he]);clear hk ht hb;generalize n.kind=K at *;subst he;go_enter func121,ntmps121;go_wp2_with (go_at_call 161;refine (Q41 b o t _ _ n.kids Qs _ (HT.o.old ((Kr nob w).alloc _).old) (HK.o.old ((Kr nob w).alloc _).old) (Jx _) HB.o).mono ?_;rintro e w1 ⟨rfl,hk1⟩);go_ret;exact⟨Q6 HE.o.symm,((Kr _ _).alloc _).thenNob hk1⟩
theorem Qie (ht:J7 w b o t) (hk:Qi w kv n.kids) (hb:∀k∈n.kids,0≤k∧k<t.nodes.length) (he:n.kind=8∨n.kind=10) :
  Calls prog 121 #[.pointer (some ⟨b,o,none⟩),.agg #[.int .i64 n.kind,.string n.text,.int .i64 n.i,kv]] w fun e w'=>e=.returned (.bool (Xb t n))∧Q0 nob w w':=by
 have HT:=Hh ht;have HK:=Hh hk;have HB:=Hh hb;have HE:Hi (Xb t n=Qo t n.kids [Qs,Qs]):=Hh (by rw[Xb,Ng (by omega),Ng (by omega),Ps he]);obtain⟨kA,kb,ko,kc,rfl,hkl,Qnd,hkA,hkc⟩:=hk;clear hkc hkA ht hb;generalize n.kind=K at *;rcases he with he|he<;>subst he
 all_goals
  go_enter func121,ntmps121;go_wp2_with (go_at_call 162;refine (X3 b o t _ _ _ _ _ n.kids [Qs,Qs] _ (HT.o.old (((Kr nob w).alloc _).alloc _).old) (HK.o.old (((Kr nob w).alloc _).alloc _).old) (Qkf _ _ _ _ _ _ _ _ (Blk.new_of _ _ _ (by simp)) (Jx _) (Jx _)) HB.o).mono ?_;rintro e w1 ⟨rfl,hk1⟩);go_ret;exact⟨Q6 HE.o.symm,(((Kr _ _).alloc _).alloc _).thenNob hk1⟩
theorem Qij (ht:J7 w b o t) (hk:Qi w kv n.kids) (hb:∀k∈n.kids,0≤k∧k<t.nodes.length) (he:n.kind=9) :
  Calls prog 121 #[.pointer (some ⟨b,o,none⟩),.agg #[.int .i64 n.kind,.string n.text,.int .i64 n.i,kv]] w fun e w'=>e=.returned (.bool (Xb t n))∧Q0 nob w w':=by
 have HT:=Hh ht;have HK:=Hh hk;have HB:=Hh hb;have HE:Hi (Xb t n=Qo t n.kids [Qs]):=Hh (by rw[Xb,Ng (by omega),Ng (by omega),Ng (by omega),Ps he]);obtain⟨kA,kb,ko,kc,rfl,hkl,Qnd,hkA,hkc⟩:=hk;clear hkc hkA ht hb;generalize n.kind=K at *;subst he;go_enter func121,ntmps121;go_wp2_with (go_at_call 162;refine (X3 b o t _ _ _ _ _ n.kids [Qs] _ (HT.o.old (((Kr nob w).alloc _).alloc _).old) (HK.o.old (((Kr nob w).alloc _).alloc _).old) (Qjg _ _ _ _ _ _ (Blk.new_of _ _ _ (by simp)) (Jx _)) HB.o).mono ?_;rintro e w1 ⟨rfl,hk1⟩);go_ret;exact⟨Q6 HE.o.symm,(((Kr _ _).alloc _).alloc _).thenNob hk1⟩
end
section
variable {b o:Nat} {t:Q1} {n:Qc} {kv:Value} {w:World}
theorem Qgv (ht:J7 w b o t) (k k2:Int) (ks:List Int) (hks:n.kids=k::k2::ks) (hk:Qi w kv n.kids) (hb:∀k∈n.kids,0≤k∧k<t.nodes.length) (he:n.kind=11) (hx:Qs (t.at k).kind=true) :
  Calls prog 121 #[.pointer (some ⟨b,o,none⟩),.agg #[.int .i64 n.kind,.string n.text,.int .i64 n.i,kv]] w fun e w'=>e=.returned (.bool (Xb t n))∧Q0 nob w w':=by
 have HE:Hi (Xb t n=Q1t t (k2::ks) (isK 31)):=Hh (by rw[Xb,Ng (by omega),Ng (by omega),Ng (by omega),Ng (by omega),hks];simp[hx]);obtain⟨g1,g2⟩:=hb k (by rw[hks];simp);obtain⟨m,rfl⟩:=En g1;obtain⟨n0,hn⟩:=Q3 (xs:=t.nodes) (j:=m) (by omega);rw[Q1.at_of hn] at hx;have HB:Hi (∀k∈(k2::ks),0≤k∧k<t.nodes.length):=Hh (fun k hk=>hb k (by rw[hks];exact List.mem_cons_of_mem _ hk));have HT:=Hh ht;obtain⟨nv,tv,h0,h1,⟨nA,nb,no,nc,rfl,hnl,Qom,hnA,hnc⟩,h3⟩:=ht;obtain⟨kA,kb,ko,kc,rfl,hkl,Qnd,hkA,hkc⟩:=hk;obtain rfl:=hnA (by omega);obtain rfl:=hkA (by rw[hks];simp);obtain⟨nkv,q0,-⟩:=hnc m n0 hn;have c0:=hkc 0 m (by rw[hks];rfl)
 have HR:Hi (Qi w (.slice (some ⟨kb,ko+1,none⟩) (n.kids.length-1) (kc-1)) (k2::ks)):=Hh
  ⟨_,kb,ko+1,kc-1,by rw[hks];rfl,by rw[hks] at hkl;simp at hkl ⊢;omega,by rw[hks] at Qnd;simp at Qnd ⊢;omega,fun _=>rfl,fun j x hj=>by
   have:=hkc (j+1) x (by rw[hks];exact hj)
   rwa [show ko+1+j=ko+(j+1) from by omega]⟩
 have Qmr:1<n.kids.length:=by rw[hks];simp
 generalize n.kids.length=L at *;generalize n.kind=K at *;subst he;clear hkc hnc h3 h1 hn hb hks hkA hnA;generalize hW0:w.alloc (.cells #[.int .i64 11,.string n.text,.int .i64 n.i,.slice (some ⟨kb,ko,none⟩) L kc] 70)=W0;have hk0:Q0 nob w W0:=hW0▸(Kr _ _).alloc _;have hbl:Blk W0 w.heap.size [.int .i64 11,.string n.text,.int .i64 n.i,.slice (some ⟨kb,ko,none⟩) L kc] 70:=hW0▸Blk.new _ _ _;have r0:∀W,Q0 nob W0 W→W.cell? ⟨w.heap.size,0,none⟩=some (.int .i64 11):=fun W h=>h.cell (fun h=>h) (hbl.cell 0 _ rfl)
 have s0:∀W,Q0 nob W0 W→W.cell? ⟨w.heap.size,3,none⟩=some (.slice (some ⟨kb,ko,none⟩) L kc):=fun W h=>h.cell (fun h=>h) (hbl.cell 3 _ rfl)
 have s1:∀W,Q0 nob W0 W→W.cell? ⟨b,o,none⟩=some (.slice (some ⟨nb,no,none⟩) t.nodes.length nc):=fun W h=>h.cell (fun h=>h) (hk0.cell (fun h=>h) h0)
 have s2:∀W,Q0 nob W0 W→W.cell? ⟨kb,ko,none⟩=some (.int .i64 (m:Int)):=fun W h=>h.cell (fun h=>h) (hk0.cell (fun h=>h) c0)
 have s3:∀W,Q0 nob W0 W→W.cell? ⟨nb,no+m*4,none⟩=some (.int .i64 n0.kind):=fun W h=>h.cell (fun h=>h) (hk0.cell (fun h=>h) q0)
 have hr0:=Kr nob W0;have hm0:(0:Int)≤(m:Int):=by omega
 have hL1:(1:Int)≤(L:Int):=by omega
 have hL0:0<L:=by omega
 have hc1:¬ kc=1:=by omega
 have hd:decide ((1:Int)<(L:Int))=true:=by simp;omega
 have HBL:=Hh hbl;clear h0 q0 c0 hbl;go_enter func121,ntmps121;go_wp2
 go_region_held3 (fun W=>Q0 nob W0 W) (first|exact hr0.drew|assumption|exact Q0.thenNob ‹_› ‹_›) (first
  |(go_at_call 94;refine (Q0i _ _).mono ?_;rintro e w1 ⟨rfl,rfl⟩;dsimp only)
  |(go_at_call 163;refine (Zv _ _).mono ?_;rintro e w1 ⟨fv,rfl,Qn1,hk1⟩;dsimp only)
  |(go_at_call 161;refine (Q41 b o t _ _ (k2::ks) (isK 31) _ (HT.o.old (hk0.trans ‹_›).old) (HR.o.old (hk0.trans ‹_›).old) ‹_› HB.o).mono ?_;rintro e w1 ⟨rfl,hk2⟩;dsimp only))
 all_goals
  go_wp2;go_ret;exact⟨Q6 HE.o.symm,hk0.trans ‹_›⟩
theorem Qfs (ht:J7 w b o t) (k k2:Int) (ks:List Int) (hks:n.kids=k::k2::ks) (hk:Qi w kv n.kids) (hb:∀k∈n.kids,0≤k∧k<t.nodes.length) (he:n.kind=11) (hx:Qs (t.at k).kind=false) :
  Calls prog 121 #[.pointer (some ⟨b,o,none⟩),.agg #[.int .i64 n.kind,.string n.text,.int .i64 n.i,kv]] w fun e w'=>e=.returned (.bool (Xb t n))∧Q0 nob w w':=by
 have HE:Hi (Xb t n=false):=Hh (by rw[Xb,Ng (by omega),Ng (by omega),Ng (by omega),Ng (by omega),hks];simp[hx]);obtain⟨g1,g2⟩:=hb k (by rw[hks];simp);obtain⟨m,rfl⟩:=En g1;obtain⟨n0,hn⟩:=Q3 (xs:=t.nodes) (j:=m) (by omega);rw[Q1.at_of hn] at hx;obtain⟨nv,tv,h0,h1,⟨nA,nb,no,nc,rfl,hnl,Qom,hnA,hnc⟩,h3⟩:=ht;obtain⟨kA,kb,ko,kc,rfl,hkl,Qnd,hkA,hkc⟩:=hk;obtain rfl:=hnA (by omega);obtain rfl:=hkA (by rw[hks];simp);obtain⟨nkv,q0,-⟩:=hnc m n0 hn;have c0:w.cell? ⟨kb,ko,none⟩=some (.int .i64 (m:Int)):=hkc 0 m (by rw[hks];rfl);have Qmr:1<n.kids.length:=by rw[hks];simp
 have b0:=World.block_lt_of_cell? w _ h0;have b1:=World.block_lt_of_cell? w _ q0;have b2:=World.block_lt_of_cell? w _ c0;generalize n.kids.length=L at *;generalize n.kind=K at *;subst he;clear hkc hnc h3 h1 hn hb hks hkA hnA;have hm0:(0:Int)≤(m:Int):=by omega
 have hL1:(1:Int)≤(L:Int):=by omega
 have hL0:0<L:=by omega
 have hd:decide ((1:Int)<(L:Int))=true:=by simp;omega
 go_enter func121,ntmps121;go_wp2;go_quiet ((go_at_call 94;exact Xi (Q0i _ _)));go_wp2;go_ret;exact⟨Q6 HE.o.symm,((Kr _ _).alloc _).drewN _⟩
theorem Qaa (ht:J7 w b o t) (hk:Qi w kv n.kids) (Qmr:¬ 1<n.kids.length) (he:n.kind=11) :
  Calls prog 121 #[.pointer (some ⟨b,o,none⟩),.agg #[.int .i64 n.kind,.string n.text,.int .i64 n.i,kv]] w fun e w'=>e=.returned (.bool (Xb t n))∧Q0 nob w w':=by
 have HE:Hi (Xb t n=false):=Hh (by
  rw[Xb,Ng (by omega),Ng (by omega),Ng (by omega),Ng (by omega)]
  match h:n.kids with
  |[]=>rfl
  |[_]=>rfl
  |_::_::_=>rw[h] at Qmr;simp at Qmr)
 obtain⟨kA,kb,ko,kc,rfl,hkl,Qnd,hkA,hkc⟩:=hk;generalize n.kids.length=L at *;generalize n.kind=K at *;subst he;clear hkc hkA ht;have hd:decide ((1:Int)<(L:Int))=false:=by simp;omega
 go_enter func121,ntmps121;go_wp2;go_quiet (fail);go_wp2;go_ret;exact⟨Q6 HE.o.symm,((Kr _ _).alloc _).drewN _⟩
theorem Qft (ht:J7 w b o t) (hk:Qi w kv n.kids) (hb:∀k∈n.kids,0≤k∧k<t.nodes.length) (he:Qs n.kind=true) :
  Calls prog 121 #[.pointer (some ⟨b,o,none⟩),.agg #[.int .i64 n.kind,.string n.text,.int .i64 n.i,kv]] w fun e w'=>e=.returned (.bool (Xb t n))∧Q0 nob w w':=by
 simp[Qs,Q9] at he;obtain⟨he1,he2⟩:=he
 by_cases h6:n.kind≤6
 ·exact Qj3 hk he1 h6
 by_cases h7:n.kind=7
 ·exact Qi2 ht hk hb h7
 by_cases h8:n.kind=8∨n.kind=10
 ·exact Qie ht hk hb h8
 by_cases h9:n.kind=9
 ·exact Qij ht hk hb h9
 have h11:n.kind=11:=by omega
 match h:n.kids with
 |k::k2::ks =>
  cases hx:Qs (t.at k).kind with
  |true=>exact Qgv ht k k2 ks h hk hb h11 hx
  |false=>exact Qfs ht k k2 ks h hk hb h11 hx
 |[]=>exact Qaa ht hk (by rw[h];simp) h11
 |[_]=>exact Qaa ht hk (by rw[h];simp) h11
end
section
variable {b o:Nat} {t:Q1} {n:Qc} {kv:Value} {w:World}
theorem Q1w (ht:J7 w b o t) (hk:Qi w kv n.kids) (hb:∀k∈n.kids,0≤k∧k<t.nodes.length):∃kA kc W0,kv=.slice kA n.kids.length kc∧w.alloc (.cells #[.int .i64 n.kind,.string n.text,.int .i64 n.i,.slice kA n.kids.length kc] 70 (0,0))=W0∧Q0 nob w W0∧Hi (J7 W0 b o t)∧Hi (Qi W0 (.slice kA n.kids.length kc) n.kids)∧Hi (∀k∈n.kids,0≤k∧k<t.nodes.length)∧Q0 nob W0 W0∧n.kids.length≤140737488355328∧n.kids.length≤kc ∧
  (∀W,Q0 nob W0 W→W.cell? ⟨w.heap.size,0,none⟩=some (.int .i64 n.kind))∧(∀W,Q0 nob W0 W→W.cell? ⟨w.heap.size,1,none⟩=some (.string n.text))∧(∀W,Q0 nob W0 W→W.cell? ⟨w.heap.size,2,none⟩=some (.int .i64 n.i))∧(∀W,Q0 nob W0 W→W.cell? ⟨w.heap.size,3,none⟩=some (.slice kA n.kids.length kc)):=by
 obtain⟨kA,kb,ko,kc,rfl,hkl,Qnd,hkA,hkc⟩:=id hk;obtain⟨W0,hW0⟩:∃W0,W0=w.alloc (.cells #[.int .i64 n.kind,.string n.text,.int .i64 n.i,.slice kA n.kids.length kc] 70 (0,0)):=⟨_,rfl⟩;have hk0:Q0 nob w W0:=hW0▸(Kr _ _).alloc _;have hbl:Blk W0 w.heap.size [.int .i64 n.kind,.string n.text,.int .i64 n.i,.slice kA n.kids.length kc] 70:=hW0▸Blk.new _ _ _;exact⟨kA,kc,W0,rfl,hW0.symm,hk0,Hh (ht.old hk0.old),Hh (hk.old hk0.old),Hh hb,Kr nob W0,hkl,Qnd,fun W h=>h.cell (fun h=>h) (hbl.cell 0 _ rfl),fun W h=>h.cell (fun h=>h) (hbl.cell 1 _ rfl),fun W h=>h.cell (fun h=>h) (hbl.cell 2 _ rfl),fun W h=>h.cell (fun h=>h) (hbl.cell 3 _ rfl)⟩
theorem Qjq (ht:J7 w b o t) (hk:Qi w kv n.kids) (hb:∀k∈n.kids,0≤k∧k<t.nodes.length) (h:n.kind=12∨n.kind=13∨n.kind=14∨n.kind=15∨n.kind=19∨n.kind=23∨n.kind=26) :
  Calls prog 122 #[.pointer (some ⟨b,o,none⟩),.agg #[.int .i64 n.kind,.string n.text,.int .i64 n.i,kv]] w fun e w'=>e=.returned (.bool (Z5 t n))∧Q0 nob w w':=by
 have HE:Hi (Z5 t n=Qo t n.kids [Qs]):=Hh (by rw[Z5,Ps h]);obtain⟨kA,kc,W0,rfl,hW0,hk0,HT,HK,HB,hr0,hkl,Qnd,s0,s1,s2,s3⟩:=Q1w ht hk hb;clear ht hk hb;generalize n.kind=K at *;rcases h with h|h|h|h|h|h|h<;>subst h
 all_goals
  go_enter func122,ntmps122;go_wp2_with (first|(go_at_call 163;refine (Zv _ _).mono ?_;rintro e w1 ⟨fv,rfl,Qn1,hk1⟩;obtain⟨ff,fcap,rfl,fhe,fhc⟩:=id Qn1;clear fhe fhc;dsimp only)|(go_at_call 162;refine (X3 b o t _ _ _ _ _ n.kids [_] _ (HT.o.old (Q0.old (by first|assumption|exact (Kr _ _).alloc _|exact Ka ‹_› _|exact Ka (Ku ‹_›) _|exact Ka (Kt ‹_› ‹_›) _|exact Ka (Kt (Ku ‹_›) ‹_›) _))) (HK.o.old (Q0.old (by first|assumption|exact (Kr _ _).alloc _|exact Ka ‹_› _|exact Ka (Ku ‹_›) _|exact Ka (Kt ‹_› ‹_›) _|exact Ka (Kt (Ku ‹_›) ‹_›) _))) (Qjg _ _ _ _ _ _ (Blk.new_of _ _ _ (by first|rfl|simp)) (by first|exact Jx _|exact Q01.old ‹_› (by first|assumption|exact (Kr _ _).alloc _|exact Ka ‹_› _|exact Ka (Ku ‹_›) _|exact Ka (Kt ‹_› ‹_›) _|exact Ka (Kt (Ku ‹_›) ‹_›) _))) HB.o).mono ?_;rintro e w1 ⟨rfl,hk1⟩;dsimp only));go_ret;exact⟨Q6 HE.o.symm,hk0.trans (Kt ‹_› (Kt ((Kr _ _).alloc _) ‹_›))⟩
theorem Qj4 (ht:J7 w b o t) (hk:Qi w kv n.kids) (hb:∀k∈n.kids,0≤k∧k<t.nodes.length) (h:n.kind=17) :
  Calls prog 122 #[.pointer (some ⟨b,o,none⟩),.agg #[.int .i64 n.kind,.string n.text,.int .i64 n.i,kv]] w fun e w'=>e=.returned (.bool (Z5 t n))∧Q0 nob w w':=by
 have HE:Hi (Z5 t n=Qo t n.kids [Qs,isK 27]):=Hh (by rw[Z5,Ng (by omega),Ng (by omega),Ps h]);obtain⟨kA,kc,W0,rfl,hW0,hk0,HT,HK,HB,hr0,hkl,Qnd,s0,s1,s2,s3⟩:=Q1w ht hk hb;clear ht hk hb;generalize n.kind=K at *;subst h;go_enter func122,ntmps122;go_wp2_with (first|(go_at_call 163;refine (Zv _ _).mono ?_;rintro e w1 ⟨fv,rfl,Qn1,hk1⟩;obtain⟨ff,fcap,rfl,fhe,fhc⟩:=id Qn1;clear fhe fhc;dsimp only)|(go_at_call 162;refine (X3 b o t _ _ _ _ _ n.kids [_,_] _ (HT.o.old (Q0.old (by first|assumption|exact (Kr _ _).alloc _|exact Ka ‹_› _|exact Ka (Ku ‹_›) _|exact Ka (Kt ‹_› ‹_›) _|exact Ka (Kt (Ku ‹_›) ‹_›) _))) (HK.o.old (Q0.old (by first|assumption|exact (Kr _ _).alloc _|exact Ka ‹_› _|exact Ka (Ku ‹_›) _|exact Ka (Kt ‹_› ‹_›) _|exact Ka (Kt (Ku ‹_›) ‹_›) _))) (Qkf _ _ _ _ _ _ _ _ (Blk.new_of _ _ _ (by first|rfl|simp)) (by first|exact Jx _|exact Q01.old ‹_› (by first|assumption|exact (Kr _ _).alloc _|exact Ka ‹_› _|exact Ka (Ku ‹_›) _|exact Ka (Kt ‹_› ‹_›) _|exact Ka (Kt (Ku ‹_›) ‹_›) _)) (by first|exact Jx _|exact Q01.old ‹_› (by first|assumption|exact (Kr _ _).alloc _|exact Ka ‹_› _|exact Ka (Ku ‹_›) _|exact Ka (Kt ‹_› ‹_›) _|exact Ka (Kt (Ku ‹_›) ‹_›) _))) HB.o).mono ?_;rintro e w1 ⟨rfl,hk1⟩;dsimp only));go_ret;exact⟨Q6 HE.o.symm,hk0.trans (Kt ‹_› (Kt ((Kr _ _).alloc _) ‹_›))⟩
theorem Qi5 (ht:J7 w b o t) (hk:Qi w kv n.kids) (hb:∀k∈n.kids,0≤k∧k<t.nodes.length) (h:n.kind=18) :
  Calls prog 122 #[.pointer (some ⟨b,o,none⟩),.agg #[.int .i64 n.kind,.string n.text,.int .i64 n.i,kv]] w fun e w'=>e=.returned (.bool (Z5 t n))∧Q0 nob w w':=by
 have HE:Hi (Z5 t n=Qo t n.kids [isK 29,isK 30,isK 27]):=Hh (by rw[Z5,Ng (by omega),Ng (by omega),Ng (by omega),Ps h]);obtain⟨kA,kc,W0,rfl,hW0,hk0,HT,HK,HB,hr0,hkl,Qnd,s0,s1,s2,s3⟩:=Q1w ht hk hb;clear ht hk hb;generalize n.kind=K at *;subst h;go_enter func122,ntmps122;go_wp2_with (go_at_call 163;refine (Zv _ _).mono ?_;rintro e w1 ⟨fv,rfl,Qn1,hk1⟩;obtain⟨ff,fcap,rfl,fhe,fhc⟩:=id Qn1;clear fhe fhc;dsimp only);go_region_held3 (fun W=>Q0 nob W0 W) (first|assumption|exact hr0.drew|exact Kd ‹_›|exact Kt ‹_› ‹_›|exact Ka ‹_› _|exact Kt (Ka ‹_› _) ‹_›) (first|(go_at_call 163;refine (Zv _ _).mono ?_;rintro e w1 ⟨fv,rfl,Qn1,hk1⟩;obtain⟨ff,fcap,rfl,fhe,fhc⟩:=id Qn1;clear fhe fhc;dsimp only)|(go_at_call 162;refine (X3 b o t _ _ _ _ _ n.kids [_,_,_] _ (HT.o.old (Q0.old (by first|assumption|exact (Kr _ _).alloc _|exact Ka ‹_› _|exact Ka (Ku ‹_›) _|exact Ka (Kt ‹_› ‹_›) _|exact Ka (Kt (Ku ‹_›) ‹_›) _))) (HK.o.old (Q0.old (by first|assumption|exact (Kr _ _).alloc _|exact Ka ‹_› _|exact Ka (Ku ‹_›) _|exact Ka (Kt ‹_› ‹_›) _|exact Ka (Kt (Ku ‹_›) ‹_›) _))) (fns3 _ _ _ _ _ _ _ _ _ _ (Blk.new_of _ _ _ (by first|rfl|simp)) (by first|exact Jx _|exact Q01.old ‹_› (by first|assumption|exact (Kr _ _).alloc _|exact Ka ‹_› _|exact Ka (Ku ‹_›) _|exact Ka (Kt ‹_› ‹_›) _|exact Ka (Kt (Ku ‹_›) ‹_›) _)) (by first|exact Jx _|exact Q01.old ‹_› (by first|assumption|exact (Kr _ _).alloc _|exact Ka ‹_› _|exact Ka (Ku ‹_›) _|exact Ka (Kt ‹_› ‹_›) _|exact Ka (Kt (Ku ‹_›) ‹_›) _)) (by first|exact Jx _|exact Q01.old ‹_› (by first|assumption|exact (Kr _ _).alloc _|exact Ka ‹_› _|exact Ka (Ku ‹_›) _|exact Ka (Kt ‹_› ‹_›) _|exact Ka (Kt (Ku ‹_›) ‹_›) _))) HB.o).mono ?_;rintro e w1 ⟨rfl,hk1⟩;dsimp only))
 all_goals
  go_wp2;go_ret;exact⟨Q6 HE.o.symm,hk0.trans ‹_›⟩
theorem Qiv (ht:J7 w b o t) (hk:Qi w kv n.kids) (hb:∀k∈n.kids,0≤k∧k<t.nodes.length) (h:n.kind=20) :
  Calls prog 122 #[.pointer (some ⟨b,o,none⟩),.agg #[.int .i64 n.kind,.string n.text,.int .i64 n.i,kv]] w fun e w'=>e=.returned (.bool (Z5 t n))∧Q0 nob w w':=by
 have HE:Hi (Z5 t n=Qo t n.kids [isK 31,isK 27]):=Hh (by rw[Z5,Ng (by omega),Ng (by omega),Ng (by omega),Ng (by omega),Ps h]);obtain⟨kA,kc,W0,rfl,hW0,hk0,HT,HK,HB,hr0,hkl,Qnd,s0,s1,s2,s3⟩:=Q1w ht hk hb;clear ht hk hb;generalize n.kind=K at *;subst h;go_enter func122,ntmps122;go_wp2_with (go_at_call 163;refine (Zv _ _).mono ?_;rintro e w1 ⟨fv,rfl,Qn1,hk1⟩;obtain⟨ff,fcap,rfl,fhe,fhc⟩:=id Qn1;clear fhe fhc;dsimp only);go_region_held3 (fun W=>Q0 nob W0 W) (first|assumption|exact hr0.drew|exact Kd ‹_›|exact Kt ‹_› ‹_›|exact Ka ‹_› _|exact Kt (Ka ‹_› _) ‹_›) (first|(go_at_call 163;refine (Zv _ _).mono ?_;rintro e w1 ⟨fv,rfl,Qn1,hk1⟩;obtain⟨ff,fcap,rfl,fhe,fhc⟩:=id Qn1;clear fhe fhc;dsimp only)|(go_at_call 162;refine (X3 b o t _ _ _ _ _ n.kids [_,_] _ (HT.o.old (Q0.old (by first|assumption|exact (Kr _ _).alloc _|exact Ka ‹_› _|exact Ka (Ku ‹_›) _|exact Ka (Kt ‹_› ‹_›) _|exact Ka (Kt (Ku ‹_›) ‹_›) _))) (HK.o.old (Q0.old (by first|assumption|exact (Kr _ _).alloc _|exact Ka ‹_› _|exact Ka (Ku ‹_›) _|exact Ka (Kt ‹_› ‹_›) _|exact Ka (Kt (Ku ‹_›) ‹_›) _))) (Qkf _ _ _ _ _ _ _ _ (Blk.new_of _ _ _ (by first|rfl|simp)) (by first|exact Jx _|exact Q01.old ‹_› (by first|assumption|exact (Kr _ _).alloc _|exact Ka ‹_› _|exact Ka (Ku ‹_›) _|exact Ka (Kt ‹_› ‹_›) _|exact Ka (Kt (Ku ‹_›) ‹_›) _)) (by first|exact Jx _|exact Q01.old ‹_› (by first|assumption|exact (Kr _ _).alloc _|exact Ka ‹_› _|exact Ka (Ku ‹_›) _|exact Ka (Kt ‹_› ‹_›) _|exact Ka (Kt (Ku ‹_›) ‹_›) _))) HB.o).mono ?_;rintro e w1 ⟨rfl,hk1⟩;dsimp only))
 all_goals
  go_wp2;go_ret;exact⟨Q6 HE.o.symm,hk0.trans ‹_›⟩
theorem Qjn (ht:J7 w b o t) (hk:Qi w kv n.kids) (hb:∀k∈n.kids,0≤k∧k<t.nodes.length) (h:n.kind=21) :
  Calls prog 122 #[.pointer (some ⟨b,o,none⟩),.agg #[.int .i64 n.kind,.string n.text,.int .i64 n.i,kv]] w fun e w'=>e=.returned (.bool (Z5 t n))∧Q0 nob w w':=by
 have HE:Hi (Z5 t n=Q1t t n.kids (isK 28)):=Hh (by rw[Z5,Ng (by omega),Ng (by omega),Ng (by omega),Ng (by omega),Ng (by omega),Ps h]);obtain⟨kA,kc,W0,rfl,hW0,hk0,HT,HK,HB,hr0,hkl,Qnd,s0,s1,s2,s3⟩:=Q1w ht hk hb;clear ht hk hb;generalize n.kind=K at *;subst h;go_enter func122,ntmps122;go_wp2_with (go_at_call 163;refine (Zv _ _).mono ?_;rintro e w1 ⟨fv,rfl,Qn1,hk1⟩;obtain⟨ff,fcap,rfl,fhe,fhc⟩:=id Qn1;clear fhe fhc;dsimp only);go_region_held3 (fun W=>Q0 nob W0 W) (first|assumption|exact hr0.drew|exact Kd ‹_›|exact Kt ‹_› ‹_›|exact Ka ‹_› _|exact Kt (Ka ‹_› _) ‹_›) (first|(go_at_call 163;refine (Zv _ _).mono ?_;rintro e w1 ⟨fv,rfl,Qn1,hk1⟩;obtain⟨ff,fcap,rfl,fhe,fhc⟩:=id Qn1;clear fhe fhc;dsimp only)|(go_at_call 161;refine (Q41 b o t _ _ n.kids _ _ (HT.o.old (Q0.old ‹_›)) (HK.o.old (Q0.old ‹_›)) ‹_› HB.o).mono ?_;rintro e w1 ⟨rfl,hk1⟩;dsimp only))
 all_goals
  go_wp2;go_ret;exact⟨Q6 HE.o.symm,hk0.trans ‹_›⟩
theorem Qik (ht:J7 w b o t) (hk:Qi w kv n.kids) (hb:∀k∈n.kids,0≤k∧k<t.nodes.length) (h:n.kind=25) :
  Calls prog 122 #[.pointer (some ⟨b,o,none⟩),.agg #[.int .i64 n.kind,.string n.text,.int .i64 n.i,kv]] w fun e w'=>e=.returned (.bool (Z5 t n))∧Q0 nob w w':=by
 have HE:Hi (Z5 t n=Qo t n.kids [isK 7]):=Hh (by rw[Z5,Ng (by omega),Ng (by omega),Ng (by omega),Ng (by omega),Ng (by omega),Ng (by omega),Ps h]);obtain⟨kA,kc,W0,rfl,hW0,hk0,HT,HK,HB,hr0,hkl,Qnd,s0,s1,s2,s3⟩:=Q1w ht hk hb;clear ht hk hb;generalize n.kind=K at *;subst h;go_enter func122,ntmps122;go_wp2_with (go_at_call 163;refine (Zv _ _).mono ?_;rintro e w1 ⟨fv,rfl,Qn1,hk1⟩;obtain⟨ff,fcap,rfl,fhe,fhc⟩:=id Qn1;clear fhe fhc;dsimp only);go_region_held3 (fun W=>Q0 nob W0 W) (first|assumption|exact hr0.drew|exact Kd ‹_›|exact Kt ‹_› ‹_›|exact Ka ‹_› _|exact Kt (Ka ‹_› _) ‹_›) (first|(go_at_call 163;refine (Zv _ _).mono ?_;rintro e w1 ⟨fv,rfl,Qn1,hk1⟩;obtain⟨ff,fcap,rfl,fhe,fhc⟩:=id Qn1;clear fhe fhc;dsimp only)|(go_at_call 162;refine (X3 b o t _ _ _ _ _ n.kids [_] _ (HT.o.old (Q0.old (by first|assumption|exact (Kr _ _).alloc _|exact Ka ‹_› _|exact Ka (Ku ‹_›) _|exact Ka (Kt ‹_› ‹_›) _|exact Ka (Kt (Ku ‹_›) ‹_›) _))) (HK.o.old (Q0.old (by first|assumption|exact (Kr _ _).alloc _|exact Ka ‹_› _|exact Ka (Ku ‹_›) _|exact Ka (Kt ‹_› ‹_›) _|exact Ka (Kt (Ku ‹_›) ‹_›) _))) (Qjg _ _ _ _ _ _ (Blk.new_of _ _ _ (by first|rfl|simp)) (by first|exact Jx _|exact Q01.old ‹_› (by first|assumption|exact (Kr _ _).alloc _|exact Ka ‹_› _|exact Ka (Ku ‹_›) _|exact Ka (Kt ‹_› ‹_›) _|exact Ka (Kt (Ku ‹_›) ‹_›) _))) HB.o).mono ?_;rintro e w1 ⟨rfl,hk1⟩;dsimp only))
 all_goals
  go_wp2;go_ret;exact⟨Q6 HE.o.symm,hk0.trans ‹_›⟩
theorem Qjw (hk:Qi w kv n.kids) (h:n.kind=22∨n.kind=24) :
  Calls prog 122 #[.pointer (some ⟨b,o,none⟩),.agg #[.int .i64 n.kind,.string n.text,.int .i64 n.i,kv]] w fun e w'=>e=.returned (.bool (Z5 t n))∧Q0 nob w w':=by
 have HE:Hi (Z5 t n=((n.kids.length:Int)==0)):=Hh (by
  rw[Z5,Ng (by omega),Ng (by omega),Ng (by omega),Ng (by omega),Ng (by omega),Ng (by omega),Ng (by omega)];cases n.kids<;>simp;omega)
 obtain⟨kA,kb,ko,kc,rfl,hkl,Qnd,hkA,hkc⟩:=id hk;clear hkc hkA;generalize hW0:w.alloc (.cells #[.int .i64 n.kind,.string n.text,.int .i64 n.i,.slice kA n.kids.length kc] 70)=W0;have hk0:Q0 nob w W0:=hW0▸(Kr _ _).alloc _;have hbl:Blk W0 w.heap.size [.int .i64 n.kind,.string n.text,.int .i64 n.i,.slice kA n.kids.length kc] 70:=hW0▸Blk.new _ _ _;have hr0:=Kr nob W0;have s0:∀W,Q0 nob W0 W→W.cell? ⟨w.heap.size,0,none⟩=some (.int .i64 n.kind):=fun W h=>h.cell (fun h=>h) (hbl.cell 0 _ rfl)
 have s3:∀W,Q0 nob W0 W→W.cell? ⟨w.heap.size,3,none⟩=some (.slice kA n.kids.length kc):=fun W h=>h.cell (fun h=>h) (hbl.cell 3 _ rfl)
 clear hk hbl;generalize n.kind=K at *;rcases h with h|h<;>subst h
 all_goals
  go_enter func122,ntmps122;go_wp2_with (go_at_call 163;refine (Zv _ _).mono ?_;rintro e w1 ⟨fv,rfl,Qn1,hk1⟩;obtain⟨ff,fcap,rfl,fhe,fhc⟩:=id Qn1;clear fhe fhc;dsimp only);go_ret;exact⟨Q6 HE.o.symm,hk0.trans ‹_›⟩
theorem Qk1 (ht:J7 w b o t) (hk:Qi w kv n.kids) (hb:∀k∈n.kids,0≤k∧k<t.nodes.length) (h:n.kind=16) :
  Calls prog 122 #[.pointer (some ⟨b,o,none⟩),.agg #[.int .i64 n.kind,.string n.text,.int .i64 n.i,kv]] w fun e w'=>e=.returned (.bool (Z5 t n))∧Q0 nob w w':=by
 have HE:Hi (Z5 t n=(Qo t n.kids [Qs,isK 27] ||Qo t n.kids [Qs,isK 27,isK 27])):=Hh (by rw[Z5,Ng (by omega),Ps h]);obtain⟨kA,kc,W0,rfl,hW0,hk0,HT,HK,HB,hr0,hkl,Qnd,s0,s1,s2,s3⟩:=Q1w ht hk hb;clear ht hk hb;generalize n.kind=K at *;subst h;cases h2:Qo t n.kids [Qs,isK 27] with
 |true =>
  rw[h2,Bool.true_or] at HE;go_enter func122,ntmps122;go_wp2_with (go_at_call 163;refine (Zv _ _).mono ?_;rintro e w1 ⟨fv,rfl,Qn1,hk1⟩;obtain⟨ff,fcap,rfl,fhe,fhc⟩:=id Qn1;clear fhe fhc;dsimp only);refine (X3 b o t _ _ _ _ _ n.kids [_,_] _ (HT.o.old (Q0.old (by first|assumption|exact (Kr _ _).alloc _|exact Ka ‹_› _|exact Ka (Ku ‹_›) _|exact Ka (Kt ‹_› ‹_›) _|exact Ka (Kt (Ku ‹_›) ‹_›) _))) (HK.o.old (Q0.old (by first|assumption|exact (Kr _ _).alloc _|exact Ka ‹_› _|exact Ka (Ku ‹_›) _|exact Ka (Kt ‹_› ‹_›) _|exact Ka (Kt (Ku ‹_›) ‹_›) _))) (Qkf _ _ _ _ _ _ _ _ (Blk.new_of _ _ _ (by first|rfl|simp)) (by first|exact Jx _|exact Q01.old ‹_› (by first|assumption|exact (Kr _ _).alloc _|exact Ka ‹_› _|exact Ka (Ku ‹_›) _|exact Ka (Kt ‹_› ‹_›) _|exact Ka (Kt (Ku ‹_›) ‹_›) _)) (by first|exact Jx _|exact Q01.old ‹_› (by first|assumption|exact (Kr _ _).alloc _|exact Ka ‹_› _|exact Ka (Ku ‹_›) _|exact Ka (Kt ‹_› ‹_›) _|exact Ka (Kt (Ku ‹_›) ‹_›) _))) HB.o).mono ?_;rintro e w1 ⟨rfl,hk1⟩;go_wp2;go_ret;exact⟨Q6 HE.o.symm,hk0.trans (Kt ‹_› (Kt ((Kr _ _).alloc _) ‹_›))⟩
 |false =>
  rw[h2,Bool.false_or] at HE;go_enter func122,ntmps122;go_wp2_with (go_at_call 163;refine (Zv _ _).mono ?_;rintro e w1 ⟨fv,rfl,Qn1,hk1⟩;obtain⟨ff,fcap,rfl,fhe,fhc⟩:=id Qn1;clear fhe fhc;dsimp only);refine (X3 b o t _ _ _ _ _ n.kids [_,_] _ (HT.o.old (Q0.old (by first|assumption|exact (Kr _ _).alloc _|exact Ka ‹_› _|exact Ka (Ku ‹_›) _|exact Ka (Kt ‹_› ‹_›) _|exact Ka (Kt (Ku ‹_›) ‹_›) _))) (HK.o.old (Q0.old (by first|assumption|exact (Kr _ _).alloc _|exact Ka ‹_› _|exact Ka (Ku ‹_›) _|exact Ka (Kt ‹_› ‹_›) _|exact Ka (Kt (Ku ‹_›) ‹_›) _))) (Qkf _ _ _ _ _ _ _ _ (Blk.new_of _ _ _ (by first|rfl|simp)) (by first|exact Jx _|exact Q01.old ‹_› (by first|assumption|exact (Kr _ _).alloc _|exact Ka ‹_› _|exact Ka (Ku ‹_›) _|exact Ka (Kt ‹_› ‹_›) _|exact Ka (Kt (Ku ‹_›) ‹_›) _)) (by first|exact Jx _|exact Q01.old ‹_› (by first|assumption|exact (Kr _ _).alloc _|exact Ka ‹_› _|exact Ka (Ku ‹_›) _|exact Ka (Kt ‹_› ‹_›) _|exact Ka (Kt (Ku ‹_›) ‹_›) _))) HB.o).mono ?_;rintro e w2 ⟨rfl,hk2⟩;have hk3:Q0 nob w1 w2:=Kt ((Kr _ _).alloc _) hk2;have hk4:=hk1.trans hk3;go_wp2_with fail;refine (X3 b o t _ _ _ _ _ n.kids [_,_,_] _ (HT.o.old (Q0.old (by first|assumption|exact (Kr _ _).alloc _|exact Ka ‹_› _|exact Ka (Ku ‹_›) _|exact Ka (Kt ‹_› ‹_›) _|exact Ka (Kt (Ku ‹_›) ‹_›) _))) (HK.o.old (Q0.old (by first|assumption|exact (Kr _ _).alloc _|exact Ka ‹_› _|exact Ka (Ku ‹_›) _|exact Ka (Kt ‹_› ‹_›) _|exact Ka (Kt (Ku ‹_›) ‹_›) _))) (fns3 _ _ _ _ _ _ _ _ _ _ (Blk.new_of _ _ _ (by first|rfl|simp)) (by first|exact Jx _|exact Q01.old ‹_› (by first|assumption|exact (Kr _ _).alloc _|exact Ka ‹_› _|exact Ka (Ku ‹_›) _|exact Ka (Kt ‹_› ‹_›) _|exact Ka (Kt (Ku ‹_›) ‹_›) _)) (by first|exact Jx _|exact Q01.old ‹_› (by first|assumption|exact (Kr _ _).alloc _|exact Ka ‹_› _|exact Ka (Ku ‹_›) _|exact Ka (Kt ‹_› ‹_›) _|exact Ka (Kt (Ku ‹_›) ‹_›) _)) (by first|exact Jx _|exact Q01.old ‹_› (by first|assumption|exact (Kr _ _).alloc _|exact Ka ‹_› _|exact Ka (Ku ‹_›) _|exact Ka (Kt ‹_› ‹_›) _|exact Ka (Kt (Ku ‹_›) ‹_›) _))) HB.o).mono ?_;rintro e w5 ⟨rfl,hk5⟩;go_wp2;go_ret;exact⟨Q6 HE.o.symm,hk0.trans (hk4.trans (Kt ((Kr _ _).alloc _) hk5))⟩
theorem Qh6 (ht:J7 w b o t) (hk:Qi w kv n.kids) (hb:∀k∈n.kids,0≤k∧k<t.nodes.length) (he:Zp n.kind=true) :
  Calls prog 122 #[.pointer (some ⟨b,o,none⟩),.agg #[.int .i64 n.kind,.string n.text,.int .i64 n.i,kv]] w fun e w'=>e=.returned (.bool (Z5 t n))∧Q0 nob w w':=by
 simp[Zp,Q9] at he;obtain⟨he1,he2⟩:=he
 by_cases h1:n.kind=12∨n.kind=13∨n.kind=14∨n.kind=15∨n.kind=19∨n.kind=23∨n.kind=26
 ·exact Qjq ht hk hb h1
 by_cases h2:n.kind=16
 ·exact Qk1 ht hk hb h2
 by_cases h2:n.kind=17
 ·exact Qj4 ht hk hb h2
 by_cases h2:n.kind=18
 ·exact Qi5 ht hk hb h2
 by_cases h2:n.kind=20
 ·exact Qiv ht hk hb h2
 by_cases h2:n.kind=21
 ·exact Qjn ht hk hb h2
 by_cases h2:n.kind=25
 ·exact Qik ht hk hb h2
 exact Qjw hk (by omega)
end
end Go.Proofs.YtkgkafjachjafaaGreat
