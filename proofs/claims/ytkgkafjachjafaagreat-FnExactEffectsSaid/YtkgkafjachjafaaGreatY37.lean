/- Part 37 of: FnExactEffects answers true; no condition. -/
import Derived.Test.YtkgkafjachjafaaGreatY25
import Derived.Test.YtkgkafjachjafaaGreatY26
import Derived.Test.YtkgkafjachjafaaGreatY30
set_option linter.unusedVariables false
set_option maxHeartbeats 2000000
set_option maxRecDepth 100000
open Go Go.RowKit
namespace Go.Proofs.YtkgkafjachjafaaGreat
open Tryz
def Yu (k:Int) (m:Nat):List Int :=
 if k=7 then List.replicate m 1
 else if k=8∨k=10 then [1,1]
 else if k=9∨k=12∨k=13∨k=14∨k=15∨k=19∨k=23∨k=26∨k=28 then [1]
 else if k=11 then [1,6]++List.replicate (m-2) 6
 else if k=16 then (if m=3 then [1,3,3] else [1,3])
 else if k=17 then [1,3]
 else if k=18 then [4,5,3]
 else if k=20 then [6,3]
 else if k=21 then List.replicate m 8
 else if k=25 then [10]
 else if k=27 then List.replicate m 2
 else if k=29 then [6]++List.replicate (m-1) 6
 else if k=30 then List.replicate m 6
 else if k=33 then List.replicate (m-1) 7++[3]
 else if k=34 then [3]
 else []
def Xq (w:World) (L:List Int) (m:Nat) (e:Ending) (w':World):Prop:=∃v,e=.returned (.tuple #[v,.bool ((L.length:Int)==(m:Int))])∧(∀S:Nat→Prop,(∀k,S k→k<w.heap.size)→Qj S w' fun W=>Qf W v L)∧Q0 nob w w'
theorem Q2j (j:Nat) (x:Int):List.replicate j x++[x]=List.replicate (j+1) x:=(List.replicate_succ' (n:=j) (a:=x)).symm
theorem Q0p (xs:List Int) (x:Int):Q5 xs++[Value.int .i64 x]=Q5 (xs++[x]):=by simp[Q5]
theorem Qca {w W:World} {b:Nat} {xs:List Int} (h:W.heap[b]?=some (.cells (Q5 xs).toArray 3 (0,0))) (hb:w.heap.size≤b) (hl:xs.length≤140737488355328) :
  ∀S:Nat→Prop,(∀k,S k→k<w.heap.size)→Qj S W fun W=>Qf W (.slice (some ⟨b,0,none⟩) xs.length xs.length) xs :=
 fun S hS=>Qgo (b:=b) (n:=xs.length) (c:=xs.length) h (fun hq=>by have:=hS _ hq;omega) rfl (Nat.le_refl _) hl
theorem Q60 {w W0 W:World} {v:Value} {xs:List Int} (h:Qc (Q6 W0.heap.size) 3 W v (Q5 xs)) (hb:w.heap.size≤W0.heap.size) (hl:xs.length≤140737488355328) :
  ∀S:Nat→Prop,(∀k,S k→k<w.heap.size)→Qj S W fun W=>Qf W v xs :=
 fun S hS=>Q0u h (fun k hk hq=>by have:=hS _ hq;have:W0.heap.size≤k:=hk;omega) hl
theorem Qbw (S:Nat→Prop) {W:World} {b:Nat} {xs:List Int} (hS:S b) (h:W.heap[b]?=some (.cells (Q5 xs).toArray 3 (0,0))) (hl:xs.length≤140737488355328):Qc S 3 W (.slice (some ⟨b,0,none⟩) xs.length xs.length) (Q5 xs):=by
 refine⟨⟨by simp[Q5],.inr ⟨b,xs.length,(Q5 xs).toArray,by simp[Q5],Nat.zero_le _,h,by simp[Q5],by simp only[maxLen];omega,by simp[Q5],by simp[Q5,List.take_of_length_le]⟩⟩,fun k hk=>?_⟩
 have:b=k:=by simpa[Value.ownBlock] using hk
 subst this;exact hS
def Q7d:Value→Nat
 |.slice _ n _=>n
 |_=>0
section
variable {s:ByteArray} {i:Int} {A:Option Addr} {m c:Nat} {w:World}
theorem Qme {xs:List Int} {W0 W:World} {b:Nat} (h:W.heap[b]?=some (.cells (Q5 xs).toArray 3 (0,0))) (hb:w.heap.size≤b) (hl:xs.length≤140737488355328) (h0:Q0 nob w W0) (hk:Q0 nob W0 W):Xq w xs m (.returned (.tuple #[.slice (some ⟨b,0,none⟩) xs.length xs.length,.bool ((xs.length:Int)==(m:Int))])) W :=
 ⟨_,rfl,Qca (w:=w) h hb hl,h0.trans hk⟩
theorem Qit {k:Int} {L:List Int} (hm:m≤1048576) (hk:(k=1∨k=2∨k=3∨k=4∨k=5∨k=6∨k=22∨k=24∨k=31∨k=32)∧L=[]∨(k=8∨k=10)∧L=[1,1]∨(k=9∨k=12∨k=13∨k=14∨k=15∨k=19∨k=23∨k=26∨k=28)∧L=[1]∨(k=17)∧L=[1,3]∨(k=18)∧L=[4,5,3]∨(k=20)∧L=[6,3]∨(k=25)∧L=[10]∨(k=34)∧L=[3]):Calls prog 134 #[.agg #[.int .i64 k,.string s,.int .i64 i,.slice A m c]] w (Xq w L m):=by
 have hb:=Blk.new w [.int .i64 k,.string s,.int .i64 i,.slice A m c] 70;have hk0:Q0 nob w (w.alloc (.cells #[.int .i64 k,.string s,.int .i64 i,.slice A m c] 70)):=(Kr _ _).alloc _;generalize hW0:w.alloc (.cells #[.int .i64 k,.string s,.int .i64 i,.slice A m c] 70)=W0 at hk0;replace hb:Blk W0 w.heap.size [.int .i64 k,.string s,.int .i64 i,.slice A m c] 70:=hW0▸hb;have g0:=hb.cell 0 _ rfl;have g3:=hb.cell 3 _ rfl;have HK0:=Hh hk0;have hka:Q0 nob W0 (W0.alloc (.cells #[] 3 (0,0))):=(Kr _ _).alloc _;have g0':=hka.cell id g0;have g3':=hka.cell id g3;clear hka;rcases hk with ⟨rfl|rfl|rfl|rfl|rfl|rfl|rfl|rfl|rfl|rfl,rfl⟩|⟨rfl|rfl,rfl⟩|⟨rfl|rfl|rfl|rfl|rfl|rfl|rfl|rfl|rfl,rfl⟩|⟨rfl,rfl⟩|⟨rfl,rfl⟩|⟨rfl,rfl⟩|⟨rfl,rfl⟩|⟨rfl,rfl⟩
 all_goals
  go_enter func134,ntmps134;go_wp2_with fail;go_returns;exact Qme (Jv rfl (by first|rfl|simp)) (by first|exact HK0.o.size|(have:=HK0.o.size;simp;omega)) Sm HK0.o Kz
theorem Qep (hm:m≤1048576):Calls prog 134 #[.agg #[.int .i64 16,.string s,.int .i64 i,.slice A m c]] w (Xq w (if m=3 then [1,3,3] else [1,3]) m):=by
 have hb:=Blk.new w [.int .i64 16,.string s,.int .i64 i,.slice A m c] 70;have hk0:Q0 nob w (w.alloc (.cells #[.int .i64 16,.string s,.int .i64 i,.slice A m c] 70)):=(Kr _ _).alloc _;generalize hW0:w.alloc (.cells #[.int .i64 16,.string s,.int .i64 i,.slice A m c] 70)=W0 at hk0;replace hb:Blk W0 w.heap.size [.int .i64 16,.string s,.int .i64 i,.slice A m c] 70:=hW0▸hb;have g0:=hb.cell 0 _ rfl;have g3:=hb.cell 3 _ rfl;have HK0:=Hh hk0;have hka:Q0 nob W0 (W0.alloc (.cells #[] 3 (0,0))):=(Kr _ _).alloc _;have g0':=hka.cell id g0;have g3':=hka.cell id g3;clear hka
 by_cases h3:m=3
 ·have t:((m:Int)==3)=true:=by simp[h3]
  rw[Ps h3];clear h3;go_enter func134,ntmps134;go_wp2_with fail;go_returns;exact⟨_,rfl,Qca (w:=w) (xs:=[1,3,3]) (Jv rfl (by first|rfl|simp)) (by first|exact HK0.o.size|(have:=HK0.o.size;simp;omega)) Sm,HK0.o.trans Kz⟩
 ·have t:((m:Int)==3)=false:=So
  rw[Ng h3];clear h3;go_enter func134,ntmps134;go_wp2_with fail;go_returns;exact⟨_,rfl,Qca (w:=w) (xs:=[1,3]) (Jv rfl (by first|rfl|simp)) (by first|exact HK0.o.size|(have:=HK0.o.size;simp;omega)) Sm,HK0.o.trans Kz⟩
theorem Qhy (hm:m≤1048576):Calls prog 134 #[.agg #[.int .i64 7,.string s,.int .i64 i,.slice A m c]] w (Xq w (List.replicate m 1) m):=by
 have hb:=Blk.new w [.int .i64 7,.string s,.int .i64 i,.slice A m c] 70;have hk0:Q0 nob w (w.alloc (.cells #[.int .i64 7,.string s,.int .i64 i,.slice A m c] 70)):=(Kr _ _).alloc _;generalize hW0:w.alloc (.cells #[.int .i64 7,.string s,.int .i64 i,.slice A m c] 70)=W0 at hk0;replace hb:Blk W0 w.heap.size [.int .i64 7,.string s,.int .i64 i,.slice A m c] 70:=hW0▸hb;have g0:=hb.cell 0 _ rfl;have g3:=hb.cell 3 _ rfl;have HK0:=Hh hk0;have hka:Q0 nob W0 (W0.alloc (.cells #[] 3 (0,0))):=(Kr _ _).alloc _;have g0':=hka.cell id g0;have g3':=hka.cell id g3;clear hka;go_enter func134,ntmps134;go_wp2_with fail;go_loopw [5,7] (fun u5 ci wr=>∃j:Nat,j≤m∧ci=.int .i64 j∧Hi (Qc (Q6 W0.heap.size) 3 wr u5 (Q5 (List.replicate j 1))∧Q0 nob W0 wr)) (fun _ ci _=>m-(intOf ci).toNat)
 case atStart=>exact⟨0,Nat.zero_le _,rfl,Hh ⟨Yp W0,Kz⟩⟩
 case round =>
  obtain⟨j,hj,rfl,HRW⟩:=hrel;obtain⟨wo,rfl⟩:∃wo:World,wo=wr:=⟨_,rfl⟩;obtain⟨uA,uc,hu⟩:=HRW.o.1.len;rw[Q2,List.length_replicate] at hu;subst hu
  by_cases hlt:j<m
  ·have hjm:(j:Int)<(m:Int):=Om
   go_wp2_with (at_builtin;refine Qt (Q6 W0.heap.size) rfl _ _ 26 3 (.int .i64 0) 8 rfl underlying26 Kf rfl (.slice uA j uc) (Q5 (List.replicate j 1)) (.int .i64 1) rfl rfl Sm rfl HRW.o.1 (fun q hq=>Nat.le_trans HRW.o.2.size hq) (by rw[Q2,List.length_replicate];omega) (by rw[Q2,List.length_replicate];omega) ?_;intro v5 w5 ho5 hk5 Qnp;have HO5:=Hh ho5;have HK5:=Hh (HRW.o.2.then_ hk5 (fun q hq=>.inr (HRW.o.1.2 q hq)));clear ho5 hk5 Qnp);go_round
   case rel=>exact⟨j+1,Om,Gm,Hh ⟨by have:=HO5.o;rwa [Q0p,Q2j] at this,HK5.o⟩⟩
   case measure=>exact Me
  ·have hjm:¬ (j:Int)<(m:Int):=Om
   have hje:j=m:=Om
   have HJ:=Hh hje;clear hje;go_wp2_with fail;go_returns;refine⟨.slice uA j uc,by rw[List.length_replicate,HJ.o];rfl,?_,HK0.o.trans HRW.o.2⟩;have:=Q60 (w:=w) (xs:=List.replicate j 1) HRW.o.1 HK0.o.size (by rw[List.length_replicate];omega);rw[← HJ.o];exact this
theorem Qgf (hm:m≤1048576):Calls prog 134 #[.agg #[.int .i64 21,.string s,.int .i64 i,.slice A m c]] w (Xq w (List.replicate m 8) m):=by
 have hb:=Blk.new w [.int .i64 21,.string s,.int .i64 i,.slice A m c] 70;have hk0:Q0 nob w (w.alloc (.cells #[.int .i64 21,.string s,.int .i64 i,.slice A m c] 70)):=(Kr _ _).alloc _;generalize hW0:w.alloc (.cells #[.int .i64 21,.string s,.int .i64 i,.slice A m c] 70)=W0 at hk0;replace hb:Blk W0 w.heap.size [.int .i64 21,.string s,.int .i64 i,.slice A m c] 70:=hW0▸hb;have g0:=hb.cell 0 _ rfl;have g3:=hb.cell 3 _ rfl;have HK0:=Hh hk0;have hka:Q0 nob W0 (W0.alloc (.cells #[] 3 (0,0))):=(Kr _ _).alloc _;have g0':=hka.cell id g0;have g3':=hka.cell id g3;clear hka;go_enter func134,ntmps134;go_wp2_with fail;go_loopw [5,7] (fun u5 ci wr=>∃j:Nat,j≤m∧ci=.int .i64 j∧Hi (Qc (Q6 W0.heap.size) 3 wr u5 (Q5 (List.replicate j 8))∧Q0 nob W0 wr)) (fun _ ci _=>m-(intOf ci).toNat)
 case atStart=>exact⟨0,Nat.zero_le _,rfl,Hh ⟨Yp W0,Kz⟩⟩
 case round =>
  obtain⟨j,hj,rfl,HRW⟩:=hrel;obtain⟨wo,rfl⟩:∃wo:World,wo=wr:=⟨_,rfl⟩;obtain⟨uA,uc,hu⟩:=HRW.o.1.len;rw[Q2,List.length_replicate] at hu;subst hu
  by_cases hlt:j<m
  ·have hjm:(j:Int)<(m:Int):=Om
   go_wp2_with (at_builtin;refine Qt (Q6 W0.heap.size) rfl _ _ 26 3 (.int .i64 0) 8 rfl underlying26 Kf rfl (.slice uA j uc) (Q5 (List.replicate j 8)) (.int .i64 8) rfl rfl Sm rfl HRW.o.1 (fun q hq=>Nat.le_trans HRW.o.2.size hq) (by rw[Q2,List.length_replicate];omega) (by rw[Q2,List.length_replicate];omega) ?_;intro v5 w5 ho5 hk5 Qnp;have HO5:=Hh ho5;have HK5:=Hh (HRW.o.2.then_ hk5 (fun q hq=>.inr (HRW.o.1.2 q hq)));clear ho5 hk5 Qnp);go_round
   case rel=>exact⟨j+1,Om,Gm,Hh ⟨by have:=HO5.o;rwa [Q0p,Q2j] at this,HK5.o⟩⟩
   case measure=>exact Me
  ·have hjm:¬ (j:Int)<(m:Int):=Om
   have hje:j=m:=Om
   have HJ:=Hh hje;clear hje;go_wp2_with fail;go_returns;refine⟨.slice uA j uc,by rw[List.length_replicate,HJ.o];rfl,?_,HK0.o.trans HRW.o.2⟩;have:=Q60 (w:=w) (xs:=List.replicate j 8) HRW.o.1 HK0.o.size (by rw[List.length_replicate];omega);rw[← HJ.o];exact this
theorem Qf4 (hm:m≤1048576):Calls prog 134 #[.agg #[.int .i64 27,.string s,.int .i64 i,.slice A m c]] w (Xq w (List.replicate m 2) m):=by
 have hb:=Blk.new w [.int .i64 27,.string s,.int .i64 i,.slice A m c] 70;have hk0:Q0 nob w (w.alloc (.cells #[.int .i64 27,.string s,.int .i64 i,.slice A m c] 70)):=(Kr _ _).alloc _;generalize hW0:w.alloc (.cells #[.int .i64 27,.string s,.int .i64 i,.slice A m c] 70)=W0 at hk0;replace hb:Blk W0 w.heap.size [.int .i64 27,.string s,.int .i64 i,.slice A m c] 70:=hW0▸hb;have g0:=hb.cell 0 _ rfl;have g3:=hb.cell 3 _ rfl;have HK0:=Hh hk0;have hka:Q0 nob W0 (W0.alloc (.cells #[] 3 (0,0))):=(Kr _ _).alloc _;have g0':=hka.cell id g0;have g3':=hka.cell id g3;clear hka;go_enter func134,ntmps134;go_wp2_with fail;go_loopw [5,7] (fun u5 ci wr=>∃j:Nat,j≤m∧ci=.int .i64 j∧Hi (Qc (Q6 W0.heap.size) 3 wr u5 (Q5 (List.replicate j 2))∧Q0 nob W0 wr)) (fun _ ci _=>m-(intOf ci).toNat)
 case atStart=>exact⟨0,Nat.zero_le _,rfl,Hh ⟨Yp W0,Kz⟩⟩
 case round =>
  obtain⟨j,hj,rfl,HRW⟩:=hrel;obtain⟨wo,rfl⟩:∃wo:World,wo=wr:=⟨_,rfl⟩;obtain⟨uA,uc,hu⟩:=HRW.o.1.len;rw[Q2,List.length_replicate] at hu;subst hu
  by_cases hlt:j<m
  ·have hjm:(j:Int)<(m:Int):=Om
   go_wp2_with (at_builtin;refine Qt (Q6 W0.heap.size) rfl _ _ 26 3 (.int .i64 0) 8 rfl underlying26 Kf rfl (.slice uA j uc) (Q5 (List.replicate j 2)) (.int .i64 2) rfl rfl Sm rfl HRW.o.1 (fun q hq=>Nat.le_trans HRW.o.2.size hq) (by rw[Q2,List.length_replicate];omega) (by rw[Q2,List.length_replicate];omega) ?_;intro v5 w5 ho5 hk5 Qnp;have HO5:=Hh ho5;have HK5:=Hh (HRW.o.2.then_ hk5 (fun q hq=>.inr (HRW.o.1.2 q hq)));clear ho5 hk5 Qnp);go_round
   case rel=>exact⟨j+1,Om,Gm,Hh ⟨by have:=HO5.o;rwa [Q0p,Q2j] at this,HK5.o⟩⟩
   case measure=>exact Me
  ·have hjm:¬ (j:Int)<(m:Int):=Om
   have hje:j=m:=Om
   have HJ:=Hh hje;clear hje;go_wp2_with fail;go_returns;refine⟨.slice uA j uc,by rw[List.length_replicate,HJ.o];rfl,?_,HK0.o.trans HRW.o.2⟩;have:=Q60 (w:=w) (xs:=List.replicate j 2) HRW.o.1 HK0.o.size (by rw[List.length_replicate];omega);rw[← HJ.o];exact this
theorem Qf1 (hm:m≤1048576):Calls prog 134 #[.agg #[.int .i64 30,.string s,.int .i64 i,.slice A m c]] w (Xq w (List.replicate m 6) m):=by
 have hb:=Blk.new w [.int .i64 30,.string s,.int .i64 i,.slice A m c] 70;have hk0:Q0 nob w (w.alloc (.cells #[.int .i64 30,.string s,.int .i64 i,.slice A m c] 70)):=(Kr _ _).alloc _;generalize hW0:w.alloc (.cells #[.int .i64 30,.string s,.int .i64 i,.slice A m c] 70)=W0 at hk0;replace hb:Blk W0 w.heap.size [.int .i64 30,.string s,.int .i64 i,.slice A m c] 70:=hW0▸hb;have g0:=hb.cell 0 _ rfl;have g3:=hb.cell 3 _ rfl;have HK0:=Hh hk0;have hka:Q0 nob W0 (W0.alloc (.cells #[] 3 (0,0))):=(Kr _ _).alloc _;have g0':=hka.cell id g0;have g3':=hka.cell id g3;clear hka;go_enter func134,ntmps134;go_wp2_with fail;go_loopw [5,7] (fun u5 ci wr=>∃j:Nat,j≤m∧ci=.int .i64 j∧Hi (Qc (Q6 W0.heap.size) 3 wr u5 (Q5 (List.replicate j 6))∧Q0 nob W0 wr)) (fun _ ci _=>m-(intOf ci).toNat)
 case atStart=>exact⟨0,Nat.zero_le _,rfl,Hh ⟨Yp W0,Kz⟩⟩
 case round =>
  obtain⟨j,hj,rfl,HRW⟩:=hrel;obtain⟨wo,rfl⟩:∃wo:World,wo=wr:=⟨_,rfl⟩;obtain⟨uA,uc,hu⟩:=HRW.o.1.len;rw[Q2,List.length_replicate] at hu;subst hu
  by_cases hlt:j<m
  ·have hjm:(j:Int)<(m:Int):=Om
   go_wp2_with (at_builtin;refine Qt (Q6 W0.heap.size) rfl _ _ 26 3 (.int .i64 0) 8 rfl underlying26 Kf rfl (.slice uA j uc) (Q5 (List.replicate j 6)) (.int .i64 6) rfl rfl Sm rfl HRW.o.1 (fun q hq=>Nat.le_trans HRW.o.2.size hq) (by rw[Q2,List.length_replicate];omega) (by rw[Q2,List.length_replicate];omega) ?_;intro v5 w5 ho5 hk5 Qnp;have HO5:=Hh ho5;have HK5:=Hh (HRW.o.2.then_ hk5 (fun q hq=>.inr (HRW.o.1.2 q hq)));clear ho5 hk5 Qnp);go_round
   case rel=>exact⟨j+1,Om,Gm,Hh ⟨by have:=HO5.o;rwa [Q0p,Q2j] at this,HK5.o⟩⟩
   case measure=>exact Me
  ·have hjm:¬ (j:Int)<(m:Int):=Om
   have hje:j=m:=Om
   have HJ:=Hh hje;clear hje;go_wp2_with fail;go_returns;refine⟨.slice uA j uc,by rw[List.length_replicate,HJ.o];rfl,?_,HK0.o.trans HRW.o.2⟩;have:=Q60 (w:=w) (xs:=List.replicate j 6) HRW.o.1 HK0.o.size (by rw[List.length_replicate];omega);rw[← HJ.o];exact this
theorem Qev (hm:m≤1048576):Calls prog 134 #[.agg #[.int .i64 11,.string s,.int .i64 i,.slice A m c]] w (Xq w ([1,6]++List.replicate (m-2) 6) m):=by
 have hb:=Blk.new w [.int .i64 11,.string s,.int .i64 i,.slice A m c] 70;have hk0:Q0 nob w (w.alloc (.cells #[.int .i64 11,.string s,.int .i64 i,.slice A m c] 70)):=(Kr _ _).alloc _;generalize hW0:w.alloc (.cells #[.int .i64 11,.string s,.int .i64 i,.slice A m c] 70)=W0 at hk0;replace hb:Blk W0 w.heap.size [.int .i64 11,.string s,.int .i64 i,.slice A m c] 70:=hW0▸hb;have g0:=hb.cell 0 _ rfl;have g3:=hb.cell 3 _ rfl;have HK0:=Hh hk0;have hka:Q0 nob W0 (W0.alloc (.cells #[] 3 (0,0))):=(Kr _ _).alloc _;have g0':=hka.cell id g0;have g3':=hka.cell id g3;clear hka;generalize hL:[1,6]++List.replicate (m-2) (6:Int)=L;have HL:=Hh hL;clear hL;go_enter func134,ntmps134;go_wp2_with fail;go_loopw [5] (fun u5 wr=>∃j:Nat,(j=0∨2+j≤m)∧Hi (Qc (Q6 W0.heap.size) 3 wr u5 (Q5 ([1,6]++List.replicate j 6))∧Q0 nob W0 wr)∧∃uA uc,u5=.slice uA (2+j) uc) (fun u5 _=>m-Q7d u5)
 case atStart=>exact⟨0,.inl rfl,Hh ⟨Qbw (Q6 W0.heap.size) (by simp[Q6]) (xs:=[1,6]) (Jv rfl (by first|rfl|simp)) Sm,Kz⟩,_,_,rfl⟩
 case round =>
  obtain⟨j,hj,HRW,uA,uc,rfl⟩:=hrel;obtain⟨wo,rfl⟩:∃wo:World,wo=wr:=⟨_,rfl⟩;have hll:([1,6]++List.replicate j (6:Int)).length=2+j:=So
  have HLL:=Hh hll;clear hll;obtain⟨q,hq⟩:∃q,q=2+j:=⟨_,rfl⟩;rw[← hq];have HQ:=Hh hq
  by_cases hlt:q<m
  ·have hjm:(q:Int)<(m:Int):=Om
   clear hq;go_wp2_with (at_builtin;refine Qt (Q6 W0.heap.size) rfl _ _ 26 3 (.int .i64 0) 8 rfl underlying26 Kf rfl (.slice uA q uc) (Q5 ([1,6]++List.replicate j 6)) (.int .i64 6) rfl rfl Sm rfl (by have:=HRW.o.1;rwa [← HQ.o] at this) (fun q hq=>Nat.le_trans HRW.o.2.size hq) (by rw[Q2,HLL.o,← HQ.o];omega) (by rw[Q2,HLL.o,← HQ.o];omega) ?_;intro v5 w5 ho5 hk5 Qnp;obtain⟨vA,vc,hv⟩:=ho5.len;rw[show (Q5 ([1,6]++List.replicate j 6)++[Value.int .i64 6]).length=q+1 from by rw[List.length_append,Q2,HLL.o,← HQ.o];rfl] at hv;subst hv;have HO5:=Hh ho5;have HK5:=Hh (HRW.o.2.then_ hk5 (fun q hq9=>.inr (HRW.o.1.2 q (by first|exact hq9|(rw[← HQ.o];exact hq9)))));clear ho5 hk5 Qnp);go_round
   case rel=>exact⟨j+1,.inr (by have:=HQ.o;omega),Hh ⟨by have:=HO5.o;rwa [Q0p,List.append_assoc,Q2j] at this,HK5.o⟩,vA,vc,by rw[HQ.o];rfl⟩
   case measure=>simp[Q7d];omega
  ·have hjm:¬ (q:Int)<(m:Int):=Om
   have hje:j=m-2:=Om
   have HJ:=Hh hje;clear hje hq;go_wp2_with fail;go_returns;have hlq:L.length=q:=by rw[← HL.o,← HJ.o,HLL.o,← HQ.o]
   refine⟨.slice uA q uc,by rw[hlq];rfl,?_,HK0.o.trans HRW.o.2⟩;have:=Q60 (w:=w) (xs:=[1,6]++List.replicate j 6) HRW.o.1 HK0.o.size (by rw[HLL.o];have:=HQ.o;omega);rw[← HL.o,← HJ.o,HQ.o];exact this
theorem Qfx (hm:m≤1048576):Calls prog 134 #[.agg #[.int .i64 29,.string s,.int .i64 i,.slice A m c]] w (Xq w ([6]++List.replicate (m-1) 6) m):=by
 have hb:=Blk.new w [.int .i64 29,.string s,.int .i64 i,.slice A m c] 70;have hk0:Q0 nob w (w.alloc (.cells #[.int .i64 29,.string s,.int .i64 i,.slice A m c] 70)):=(Kr _ _).alloc _;generalize hW0:w.alloc (.cells #[.int .i64 29,.string s,.int .i64 i,.slice A m c] 70)=W0 at hk0;replace hb:Blk W0 w.heap.size [.int .i64 29,.string s,.int .i64 i,.slice A m c] 70:=hW0▸hb;have g0:=hb.cell 0 _ rfl;have g3:=hb.cell 3 _ rfl;have HK0:=Hh hk0;have hka:Q0 nob W0 (W0.alloc (.cells #[] 3 (0,0))):=(Kr _ _).alloc _;have g0':=hka.cell id g0;have g3':=hka.cell id g3;clear hka;generalize hL:[6]++List.replicate (m-1) (6:Int)=L;have HL:=Hh hL;clear hL;go_enter func134,ntmps134;go_wp2_with fail;go_loopw [5] (fun u5 wr=>∃j:Nat,(j=0∨1+j≤m)∧Hi (Qc (Q6 W0.heap.size) 3 wr u5 (Q5 ([6]++List.replicate j 6))∧Q0 nob W0 wr)∧∃uA uc,u5=.slice uA (1+j) uc) (fun u5 _=>m-Q7d u5)
 case atStart=>exact⟨0,.inl rfl,Hh ⟨Qbw (Q6 W0.heap.size) (by simp[Q6]) (xs:=[6]) (Jv rfl (by first|rfl|simp)) Sm,Kz⟩,_,_,rfl⟩
 case round =>
  obtain⟨j,hj,HRW,uA,uc,rfl⟩:=hrel;obtain⟨wo,rfl⟩:∃wo:World,wo=wr:=⟨_,rfl⟩;have hll:([6]++List.replicate j (6:Int)).length=1+j:=So
  have HLL:=Hh hll;clear hll;obtain⟨q,hq⟩:∃q,q=1+j:=⟨_,rfl⟩;rw[← hq];have HQ:=Hh hq
  by_cases hlt:q<m
  ·have hjm:(q:Int)<(m:Int):=Om
   clear hq;go_wp2_with (at_builtin;refine Qt (Q6 W0.heap.size) rfl _ _ 26 3 (.int .i64 0) 8 rfl underlying26 Kf rfl (.slice uA q uc) (Q5 ([6]++List.replicate j 6)) (.int .i64 6) rfl rfl Sm rfl (by have:=HRW.o.1;rwa [← HQ.o] at this) (fun q hq=>Nat.le_trans HRW.o.2.size hq) (by rw[Q2,HLL.o,← HQ.o];omega) (by rw[Q2,HLL.o,← HQ.o];omega) ?_;intro v5 w5 ho5 hk5 Qnp;obtain⟨vA,vc,hv⟩:=ho5.len;rw[show (Q5 ([6]++List.replicate j 6)++[Value.int .i64 6]).length=q+1 from by rw[List.length_append,Q2,HLL.o,← HQ.o];rfl] at hv;subst hv;have HO5:=Hh ho5;have HK5:=Hh (HRW.o.2.then_ hk5 (fun q hq9=>.inr (HRW.o.1.2 q (by first|exact hq9|(rw[← HQ.o];exact hq9)))));clear ho5 hk5 Qnp);go_round
   case rel=>exact⟨j+1,.inr (by have:=HQ.o;omega),Hh ⟨by have:=HO5.o;rwa [Q0p,List.append_assoc,Q2j] at this,HK5.o⟩,vA,vc,by rw[HQ.o];rfl⟩
   case measure=>simp[Q7d];omega
  ·have hjm:¬ (q:Int)<(m:Int):=Om
   have hje:j=m-1:=Om
   have HJ:=Hh hje;clear hje hq;go_wp2_with fail;go_returns;have hlq:L.length=q:=by rw[← HL.o,← HJ.o,HLL.o,← HQ.o]
   refine⟨.slice uA q uc,by rw[hlq];rfl,?_,HK0.o.trans HRW.o.2⟩;have:=Q60 (w:=w) (xs:=[6]++List.replicate j 6) HRW.o.1 HK0.o.size (by rw[HLL.o];have:=HQ.o;omega);rw[← HL.o,← HJ.o,HQ.o];exact this
theorem Qg5 (hm:m≤1048576):Calls prog 134 #[.agg #[.int .i64 33,.string s,.int .i64 i,.slice A m c]] w (Xq w (List.replicate (m-1) 7++[3]) m):=by
 have hb:=Blk.new w [.int .i64 33,.string s,.int .i64 i,.slice A m c] 70;have hk0:Q0 nob w (w.alloc (.cells #[.int .i64 33,.string s,.int .i64 i,.slice A m c] 70)):=(Kr _ _).alloc _;generalize hW0:w.alloc (.cells #[.int .i64 33,.string s,.int .i64 i,.slice A m c] 70)=W0 at hk0;replace hb:Blk W0 w.heap.size [.int .i64 33,.string s,.int .i64 i,.slice A m c] 70:=hW0▸hb;have g0:=hb.cell 0 _ rfl;have g3:=hb.cell 3 _ rfl;have HK0:=Hh hk0;have hka:Q0 nob W0 (W0.alloc (.cells #[] 3 (0,0))):=(Kr _ _).alloc _;have g0':=hka.cell id g0;have g3':=hka.cell id g3;clear hka;go_enter func134,ntmps134;go_wp2_with fail;go_loopw [5] (fun u5 wr=>∃j:Nat,(j=0∨j+1≤m)∧Hi (Qc (Q6 W0.heap.size) 3 wr u5 (Q5 (List.replicate j 7))∧Q0 nob W0 wr)∧∃uA uc,u5=.slice uA j uc) (fun u5 _=>m-Q7d u5)
 case atStart=>exact⟨0,.inl rfl,Hh ⟨Yp W0,Kz⟩,_,_,rfl⟩
 case round =>
  obtain⟨j,hj,HRW,uA,uc,rfl⟩:=hrel;obtain⟨wo,rfl⟩:∃wo:World,wo=wr:=⟨_,rfl⟩;have hj9:j≤1048576:=Om
  by_cases hlt:j+1<m
  ·have hjm:(j:Int)+1<(m:Int):=Om
   go_wp2_with (at_builtin;refine Qt (Q6 W0.heap.size) rfl _ _ 26 3 (.int .i64 0) 8 rfl underlying26 Kf rfl (.slice uA j uc) (Q5 (List.replicate j 7)) _ rfl rfl Sm rfl (by have:=HRW.o.1;exact this) (fun q hq=>Nat.le_trans HRW.o.2.size hq) (by rw[Q2,List.length_replicate];omega) (by rw[Q2,List.length_replicate];omega) ?_;intro v5 w5 ho5 hk5 Qnp;obtain⟨vA,vc,hv⟩:=ho5.len;rw[List.length_append,Q2,List.length_replicate] at hv;subst hv;have HO5:=Hh ho5;have HK5:=Hh (HRW.o.2.then_ hk5 (fun q hq9=>.inr (HRW.o.1.2 q hq9)));clear ho5 hk5 Qnp);go_round
   case rel=>exact⟨j+1,.inr Om,Hh ⟨by have:=HO5.o;rwa [Q0p,Q2j] at this,HK5.o⟩,vA,vc,rfl⟩
   case measure=>simp[Q7d];omega
  ·have hjm:¬ (j:Int)+1<(m:Int):=Om
   have hje:j=m-1:=Om
   have HJ:=Hh hje;clear hje;go_wp2_with (at_builtin;refine Qt (Q6 W0.heap.size) rfl _ _ 26 3 (.int .i64 0) 8 rfl underlying26 Kf rfl (.slice uA j uc) (Q5 (List.replicate j 7)) _ rfl rfl Sm rfl (by have:=HRW.o.1;exact this) (fun q hq=>Nat.le_trans HRW.o.2.size hq) (by rw[Q2,List.length_replicate];omega) (by rw[Q2,List.length_replicate];omega) ?_;intro v5 w5 ho5 hk5 Qnp;obtain⟨vA,vc,hv⟩:=ho5.len;rw[List.length_append,Q2,List.length_replicate] at hv;subst hv;have HO5:=Hh ho5;have HK5:=Hh (HRW.o.2.then_ hk5 (fun q hq9=>.inr (HRW.o.1.2 q hq9)));clear ho5 hk5 Qnp);go_returns;refine⟨.slice vA (j+1) vc,by rw[← HJ.o,List.length_append,List.length_replicate];rfl,?_,HK0.o.trans HK5.o⟩;have:=Q60 (w:=w) (W0:=W0) (xs:=List.replicate j 7++[3]) (by have:=HO5.o;rwa [Q0p] at this) HK0.o.size (by rw[List.length_append,List.length_replicate];simp;omega);rw[← HJ.o];exact this
theorem Qcf (hm:m≤1048576) {kk:Int} (hkk:kk<1∨34<kk):Calls prog 134 #[.agg #[.int .i64 kk,.string s,.int .i64 i,.slice A m c]] w (Xq w ([]) m):=by
 have hb:=Blk.new w [.int .i64 kk,.string s,.int .i64 i,.slice A m c] 70;have hk0:Q0 nob w (w.alloc (.cells #[.int .i64 kk,.string s,.int .i64 i,.slice A m c] 70)):=(Kr _ _).alloc _;generalize hW0:w.alloc (.cells #[.int .i64 kk,.string s,.int .i64 i,.slice A m c] 70)=W0 at hk0;replace hb:Blk W0 w.heap.size [.int .i64 kk,.string s,.int .i64 i,.slice A m c] 70:=hW0▸hb;have g0:=hb.cell 0 _ rfl;have g3:=hb.cell 3 _ rfl;have HK0:=Hh hk0;have hka:Q0 nob W0 (W0.alloc (.cells #[] 3 (0,0))):=(Kr _ _).alloc _;have g0':=hka.cell id g0;have g3':=hka.cell id g3;clear hka;have t1:(kk==1)=false:=So
 have t2:(kk==2)=false:=So
 have t3:(kk==3)=false:=So
 have t4:(kk==4)=false:=So
 have t5:(kk==5)=false:=So
 have t6:(kk==6)=false:=So
 have t7:(kk==7)=false:=So
 have t8:(kk==8)=false:=So
 have t9:(kk==9)=false:=So
 have t10:(kk==10)=false:=So
 have t11:(kk==11)=false:=So
 have t12:(kk==12)=false:=So
 have t13:(kk==13)=false:=So
 have t14:(kk==14)=false:=So
 have t15:(kk==15)=false:=So
 have t16:(kk==16)=false:=So
 have t17:(kk==17)=false:=So
 have t18:(kk==18)=false:=So
 have t19:(kk==19)=false:=So
 have t20:(kk==20)=false:=So
 have t21:(kk==21)=false:=So
 have t22:(kk==22)=false:=So
 have t23:(kk==23)=false:=So
 have t24:(kk==24)=false:=So
 have t25:(kk==25)=false:=So
 have t26:(kk==26)=false:=So
 have t27:(kk==27)=false:=So
 have t28:(kk==28)=false:=So
 have t29:(kk==29)=false:=So
 have t30:(kk==30)=false:=So
 have t31:(kk==31)=false:=So
 have t32:(kk==32)=false:=So
 have t33:(kk==33)=false:=So
 have t34:(kk==34)=false:=So
 clear hkk;go_enter func134,ntmps134;go_wp2_with fail;go_returns;exact⟨_,rfl,Qca (w:=w) (xs:=[]) (Jv rfl (by first|rfl|simp)) (by first|exact HK0.o.size|(have:=HK0.o.size;simp;omega)) Sm,HK0.o.trans Kz⟩
theorem Q4m (k:Int) (hm:m≤1048576):Calls prog 134 #[.agg #[.int .i64 k,.string s,.int .i64 i,.slice A m c]] w (Xq w (Yu k m) m):=by
 rcases (by omega:(k=1∨k=2∨k=3∨k=4∨k=5∨k=6∨k=22∨k=24∨k=31∨k=32∨k=8∨k=10∨k=9∨k=12∨k=13∨k=14∨k=15∨k=19∨k=23∨k=26∨k=28∨k=17∨k=18∨k=20∨k=25∨k=34)∨(k<1∨34<k)∨k=7∨k=21∨k=27∨k=30∨k=11∨k=29∨k=33∨k=16) with h|h|h
 ·refine Qit hm ?_
  rcases h with rfl|rfl|rfl|rfl|rfl|rfl|rfl|rfl|rfl|rfl|rfl|rfl|rfl|rfl|rfl|rfl|rfl|rfl|rfl|rfl|rfl|rfl|rfl|rfl|rfl|rfl
  all_goals simp[Yu]
 ·have e:Yu k m=[]:=by unfold Yu;repeat rw[Ng Om]
  rw[e];exact Qcf hm h
 ·rcases h with rfl|rfl|rfl|rfl|rfl|rfl|rfl|rfl
  all_goals first|exact Qhy hm|exact Qgf hm|exact Qf4 hm|exact Qf1 hm|exact Qev hm|exact Qfx hm|exact Qg5 hm|exact Qep hm
end
end Go.Proofs.YtkgkafjachjafaaGreat
