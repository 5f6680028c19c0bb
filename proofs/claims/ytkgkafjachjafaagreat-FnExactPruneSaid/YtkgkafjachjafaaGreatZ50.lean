/- Part 50 of x_holds; no condition. -/
import Derived.Deep.RegionHeld3
import Derived.Deep.DeepCutAuto
import Derived.Laws.IdiomStrings
import Derived.Test.YtkgkafjachjafaaGreatZ49
set_option linter.unusedVariables false
set_option maxHeartbeats 2000000
set_option maxRecDepth 100000
open Go Go.RowKit
namespace Go.Proofs.YtkgkafjachjafaaGreat
open Tryz
def Q2e {α:Type} (f:α→Int→Int):List α→Int→Int
 |[],l=>l
 |x::xs,l=>if f x l<0 then -1 else Q2e f xs (f x l)
def J8 {α:Type} (f:α→Int→Int) (xs:List α) (l:Int):Int:=if szL xs.length l<0 then -1 else Q2e f xs (szL xs.length l)
def szD (d:Zw) (l:Int):Int:=szL d.name.size l
def szN (n:Qc) (l:Int):Int:=if szL n.text.size l<0 then -1 else szL n.kids.length (szL n.text.size l)
def szR (r:Reg) (l:Int):Int :=
 if J8 szD r.comps l<0 then -1 else
 if J8 szD r.ress (J8 szD r.comps l)<0 then -1 else
 J8 szD r.evts (J8 szD r.ress (J8 szD r.comps l))
def szT (t:Q1) (l:Int):Int:=if J8 szN t.nodes l<0 then -1 else szL t.tops.length (J8 szN t.nodes l)
theorem Q19 (n l:Int) (hn:0≤n) (hl:0≤l):-1≤szL n l∧szL n l≤l∧(0≤szL n l→n≤l∧szL n l=l-n):=by unfold szL;split<;>omega
def Sz {α:Type} (f:α→Int→Int):Prop:=∀x l,0≤l→-1≤f x l∧f x l≤l
theorem Q4l:Sz szD:=fun d l hl=>by have:=Q19 d.name.size l (by omega) hl;unfold szD;omega
theorem Qbl:Sz szN:=fun n l hl=>by
 have h1:=Q19 n.text.size l (by omega) hl;unfold szN;split
 ·omega
 ·have h2:=Q19 n.kids.length (szL n.text.size l) (by omega) (by omega)
  omega
theorem Qj5 {α:Type} {f:α→Int→Int} (hf:Sz f):Sz (Q2e f):=by
 intro xs
 induction xs with
 |nil=>intro l hl;simp[Q2e];omega
 |cons x xs ih =>
  intro l hl;have h:=hf x l hl;simp only[Q2e];split
  ·omega
  ·have:=ih (f x l) (by omega);omega
theorem Q1p {α:Type} {f:α→Int→Int} (hf:Sz f):Sz (J8 f):=by
 intro xs l hl;have h:=Q19 xs.length l (by omega) hl;unfold J8;split
 ·omega
 ·have:=Qj5 hf xs (szL xs.length l) (by omega);omega
theorem Qf5 {α:Type} {f:α→Int→Int} (hf:Sz f) {xs:List α} {l:Int} (hl:0≤l) (h:0≤Q2e f xs l):∀x∈xs,∃l',0≤l'∧l'≤l∧0≤f x l':=by
 induction xs generalizing l with
 |nil=>simp
 |cons x xs ih =>
  simp only[Q2e] at h;split at h
  ·omega
  ·have h0:=hf x l hl
   intro y hy;rcases List.mem_cons.1 hy with rfl|hy
   ·exact⟨l,hl,Int.le_refl _,by omega⟩
   ·obtain⟨l',h1,h2,h3⟩:=ih (by omega) h y hy
    exact⟨l',h1,by omega,h3⟩
theorem Q8t {α:Type} {f:α→Int→Int} (hf:Sz f) {xs:List α} {l:Int} (hl:0≤l) (h:0≤J8 f xs l):(xs.length:Int)≤l∧∀x∈xs,∃l',0≤l'∧l'≤l∧0≤f x l':=by
 have h0:=Q19 xs.length l (by omega) hl;unfold J8 at h;split at h
 ·omega
 ·refine⟨(h0.2.2 (by omega)).1,fun x hx=>?_⟩
  obtain⟨l',h1,h2,h3⟩:=Qf5 hf (by omega) h x hx;exact⟨l',h1,by omega,h3⟩
theorem Q9i {ds:List Zw} {l:Int} (hl:0≤l∧l≤1048576) (h:0≤J8 szD ds l):ds.length≤1048576∧∀d∈ds,d.name.size≤1048576:=by
 obtain⟨h1,h2⟩:=Q8t Q4l hl.1 h
 refine⟨by omega,fun d hd=>?_⟩
 obtain⟨l',h3,h4,h5⟩:=h2 d hd;have:=(Q19 d.name.size l' (by omega) h3).2.2 h5;omega
theorem Qix {ns:List Qc} {l:Int} (hl:0≤l∧l≤1048576) (h:0≤J8 szN ns l):ns.length≤1048576∧∀n∈ns,n.text.size≤1048576∧n.kids.length≤1048576:=by
 obtain⟨h1,h2⟩:=Q8t Qbl hl.1 h
 refine⟨by omega,fun n hn=>?_⟩
 obtain⟨l',h3,h4,h5⟩:=h2 n hn;unfold szN at h5;split at h5
 ·omega
 ·have h6:=Q19 n.text.size l' (by omega) h3
  have h7:=Q19 n.kids.length (szL n.text.size l') (by omega) (by omega);have:=h6.2.2 (by omega);have:=h7.2.2 h5;omega
theorem Qab (d:Zw) (left:Int) (w:World) (hn:d.name.size≤140737488355328) (hl:0≤left∧left≤1048576) :
  Calls prog 67 #[.agg #[.string d.name,.int .i64 d.kind],.int .i64 left] w fun e w'=>e=.returned (.int .i64 (szD d left))∧Q0 nob w w':=by
 obtain⟨nm,kd⟩:=d;dsimp only at *;have hw1:IntKind.i64.wrap (left-(nm.size:Int))=left-(nm.size:Int):=by rw[IntKind.wrap_i64];omega
 have hw2:wrap64 (left-(nm.size:Int))=left-(nm.size:Int):=by unfold wrap64;omega
 by_cases h:(nm.size:Int)≤left
 ·have t1:decide (left-(nm.size:Int)<0)=false:=Df (by omega)
  go_enter func67,ntmps67;go_wp2_with fail;go_ret;exact⟨Jn (by show _=szL nm.size left;unfold szL;rw[Ps h]),(Kr _ _).alloc _⟩
 ·have t1:decide (left-(nm.size:Int)<0)=true:=Dt (by omega)
  go_enter func67,ntmps67;go_wp2_with fail;go_ret;exact⟨Jn (by show _=szL nm.size left;unfold szL;rw[Ng (by omega)]),(Kr _ _).alloc _⟩
theorem Q5i (v:Value) (xs:List Zw) (left:Int) (w:World) (hv:Z1 w v xs) (hn:∀d∈xs,d.name.size≤140737488355328) (hl:0≤left∧left≤1048576) :
  Calls prog 27 #[v,.int .i64 left] w fun e w'=>e=.returned (.int .i64 (J8 szD xs left))∧Q0 nob w w':=by
 obtain⟨A,b,o,c,rfl,hln,_,hA,hc⟩:=hv;have HC:=Hh hc;have HN:=Hh hn;have hw1:IntKind.i64.wrap (left-(xs.length:Int))=left-(xs.length:Int):=by rw[IntKind.wrap_i64];omega
 have hw2:wrap64 (left-(xs.length:Int))=left-(xs.length:Int):=by unfold wrap64;omega
 have h0:=Q19 xs.length left (by omega) hl.1;clear hc hn
 by_cases h:(xs.length:Int)≤left
 ·have e0:left-(xs.length:Int)=szL xs.length left:=by unfold szL;rw[Ps h]
  have t1:decide (left-(xs.length:Int)<0)=false:=Df (by omega);obtain⟨X,hX⟩:∃X,X=J8 szD xs left:=⟨_,rfl⟩;have HX:Hi (X=Q2e szD xs (left-(xs.length:Int))):=Hh (by rw[hX,J8,Ng (by omega),e0]);have HB:Hi (0≤left-(xs.length:Int)∧left-(xs.length:Int)≤1048576):=Hh (by omega);rw[← hX];clear hX h0 e0;go_enter func27,ntmps27;go_upto_region 5 with fail
  generalize hr:left-(xs.length:Int)=rest at *;clear hr hw1 hw2 t1 h;go_loopw [1,5] (fun m i wr=>∃(j:Nat) (rest:Int),j≤xs.length∧i=.int .i64 j∧m=.int .i64 rest∧Hi (X=Q2e szD (xs.drop j) rest∧(0≤rest∧rest≤1048576)∧Q0 nob w wr)) (fun _ i _=>xs.length-(intOf i).toNat)
  case atStart=>exact⟨0,rest,Nat.zero_le _,rfl,rfl,Hh ⟨HX.o,HB.o,Kr _ _⟩⟩
  case round =>
   obtain⟨j,rest,hj,rfl,rfl,HR⟩:=hrel;obtain⟨wo,rfl⟩:∃wo:World,wo=wr:=⟨_,rfl⟩
   by_cases hlt:j<xs.length
   ·obtain⟨x,hx⟩:=Q3 hlt
    have c0:=HR.o.2.2.cell id (HC.o j x hx).1;have c1:=HR.o.2.2.cell id (HC.o j x hx).2;obtain rfl:=hA (by omega);have hjn:(j:Int)<(xs.length:Int):=by omega
    have HMX:=Hh (Mg hx);have hsz:=Q4l x rest HR.o.2.1.1;have HXS:Hi (X=if szD x rest<0 then -1 else Q2e szD (xs.drop (j+1)) (szD x rest)):=Hh (by rw[HR.o.1,Qd hx];rfl);clear hx
    by_cases hz:szD x rest<0
    ·have t2:decide (szD x rest<0)=true:=Dt hz
     have HXE:Hi (X = -1):=Hh (by rw[HXS.o,Ps hz]);generalize hq:szD x rest=q at *;clear hsz HXS;go_wp2_with (go_at_call 67;refine (Qab x rest _ (HN.o x HMX.o) HR.o.2.1).mono ?_;rw[hq];rintro e w3 ⟨rfl,hk3⟩;have HK3:=Hh hk3;clear hk3);go_returns;exact⟨by rw[HXE.o];rfl,HR.o.2.2.trans HK3.o⟩
    ·have t2:decide (szD x rest<0)=false:=Df hz
     have HXE:Hi (X=Q2e szD (xs.drop (j+1)) (szD x rest)):=Hh (by rw[HXS.o,Ng hz]);have HBE:Hi (0≤szD x rest∧szD x rest≤1048576):=Hh (by have:=HR.o.2.1;omega);clear hsz HXS;generalize hq:szD x rest=q at *;go_wp2_with (go_at_call 67;refine (Qab x rest _ (HN.o x HMX.o) HR.o.2.1).mono ?_;rw[hq];rintro e w3 ⟨rfl,hk3⟩;have HK3:=Hh hk3;clear hk3);go_roundw
     case rel=>exact⟨j+1,q,by omega,by go_num,rfl,Hh ⟨HXE.o,HBE.o,HR.o.2.2.trans HK3.o⟩⟩
     case measure=>simp[intOf];omega
   ·have hjn:¬ (j:Int)<(xs.length:Int):=by omega
    have HXE:Hi (X=rest):=Hh (by rw[HR.o.1,Dn (by omega)];rfl);go_wp2_with fail;go_returns;exact⟨by rw[HXE.o];rfl,HR.o.2.2⟩
 ·have t1:decide (left-(xs.length:Int)<0)=true:=Dt (by omega)
  have HXE:Hi (J8 szD xs left = -1):=Hh (by unfold J8 szL;rw[Ng h];rfl);rw[HXE.o];go_enter func27,ntmps27;go_wp2_with fail;go_ret;exact⟨rfl,Kr _ _⟩
theorem Qaq (n:Qc) (kv:Value) (left:Int) (w:World) (hv:Qi w kv n.kids) (hn:n.text.size≤140737488355328) (hl:0≤left∧left≤1048576) :
  Calls prog 68 #[.agg #[.int .i64 n.kind,.string n.text,.int .i64 n.i,kv],.int .i64 left] w fun e w'=>e=.returned (.int .i64 (szN n left))∧Q0 nob w w':=by
 obtain⟨kd,tx,i,ks⟩:=n;dsimp only at *;have hv':=hv;obtain⟨A0,b0,o0,c0,rfl,_⟩:=hv;have hw1:IntKind.i64.wrap (left-(tx.size:Int))=left-(tx.size:Int):=by rw[IntKind.wrap_i64];omega
 have hw2:wrap64 (left-(tx.size:Int))=left-(tx.size:Int):=by unfold wrap64;omega
 by_cases h:(tx.size:Int)≤left
 ·have t1:decide (left-(tx.size:Int)<0)=false:=Df (by omega)
  have hb:=Blk.new w [.int .i64 kd,.string tx,.int .i64 i,.slice A0 ks.length c0] 120;have hk0:Q0 nob w (w.alloc (.cells #[.int .i64 kd,.string tx,.int .i64 i,.slice A0 ks.length c0] 120 (0,0))):=(Kr _ _).alloc _
  have hX:szN ⟨kd,tx,i,ks⟩ left=szL ks.length (left-(tx.size:Int)):=by
   show (if szL tx.size left<0 then -1 else szL ks.length (szL tx.size left))=_
   rw[show szL tx.size left=left-(tx.size:Int) by unfold szL;rw[Ps h],Ng (by omega)]
  have Qmw:∀W,Q0 nob w W→Calls prog 29 #[.slice A0 ks.length c0,.int .i64 (left-(tx.size:Int))] W fun e w'=>e=.returned (.int .i64 (szL ks.length (left-(tx.size:Int))))∧W=w':=fun W hW=>Qal _ ks _ _ (hv'.old hW.old) (by omega)
  have HC:=Hh Qmw;have HK0:=Hh hk0;rw[hX];clear Qmw hX hk0 hv';generalize hq:szL ks.length (left-(tx.size:Int))=q at *
  by_cases hz:q<0
  ·have t2:decide (q<0)=true:=Dt hz
   have HQ:Hi (q = -1):=Hh (by have:=Q19 ks.length (left-(tx.size:Int)) (by omega) (by omega);omega);clear hb hq;go_enter func68,ntmps68;go_wp2_with (go_at_call 29;refine (HC.o _ HK0.o).mono ?_;rintro e w3 ⟨rfl,rfl⟩);go_ret;exact⟨by rw[HQ.o];rfl,HK0.o⟩
  ·have t2:decide (q<0)=false:=Df hz
   clear hb hq;go_enter func68,ntmps68;go_wp2_with (go_at_call 29;refine (HC.o _ HK0.o).mono ?_;rintro e w3 ⟨rfl,rfl⟩);go_ret;exact⟨rfl,HK0.o⟩
 ·have t1:decide (left-(tx.size:Int)<0)=true:=Dt (by omega)
  have HX:Hi (szN ⟨kd,tx,i,ks⟩ left = -1):=Hh (by show (if szL tx.size left<0 then -1 else szL ks.length (szL tx.size left))=_;rw[show szL tx.size left = -1 by unfold szL;rw[Ng h]];rfl);rw[HX.o];go_enter func68,ntmps68;go_wp2_with fail;go_ret;exact⟨rfl,(Kr _ _).alloc _⟩
theorem Qfa (v:Value) (xs:List Qc) (left:Int) (w:World) (hv:X4 w v xs) (hn:∀d∈xs,d.text.size≤140737488355328) (hl:0≤left∧left≤1048576) :
  Calls prog 28 #[v,.int .i64 left] w fun e w'=>e=.returned (.int .i64 (J8 szN xs left))∧Q0 nob w w':=by
 obtain⟨A,b,o,c,rfl,hln,_,hA,hc⟩:=hv;have HC:=Hh hc;have HN:=Hh hn;have hw1:IntKind.i64.wrap (left-(xs.length:Int))=left-(xs.length:Int):=by rw[IntKind.wrap_i64];omega
 have hw2:wrap64 (left-(xs.length:Int))=left-(xs.length:Int):=by unfold wrap64;omega
 have h0:=Q19 xs.length left (by omega) hl.1;clear hc hn
 by_cases h:(xs.length:Int)≤left
 ·have e0:left-(xs.length:Int)=szL xs.length left:=by unfold szL;rw[Ps h]
  have t1:decide (left-(xs.length:Int)<0)=false:=Df (by omega);obtain⟨X,hX⟩:∃X,X=J8 szN xs left:=⟨_,rfl⟩;have HX:Hi (X=Q2e szN xs (left-(xs.length:Int))):=Hh (by rw[hX,J8,Ng (by omega),e0]);have HB:Hi (0≤left-(xs.length:Int)∧left-(xs.length:Int)≤1048576):=Hh (by omega);rw[← hX];clear hX h0 e0;go_enter func28,ntmps28;go_upto_region 5 with fail
  generalize hr:left-(xs.length:Int)=rest at *;clear hr hw1 hw2 t1 h;go_loopw [1,5] (fun m i wr=>∃(j:Nat) (rest:Int),j≤xs.length∧i=.int .i64 j∧m=.int .i64 rest∧Hi (X=Q2e szN (xs.drop j) rest∧(0≤rest∧rest≤1048576)∧Q0 nob w wr)) (fun _ i _=>xs.length-(intOf i).toNat)
  case atStart=>exact⟨0,rest,Nat.zero_le _,rfl,rfl,Hh ⟨HX.o,HB.o,Kr _ _⟩⟩
  case round =>
   obtain⟨j,rest,hj,rfl,rfl,HR⟩:=hrel;obtain⟨wo,rfl⟩:∃wo:World,wo=wr:=⟨_,rfl⟩
   by_cases hlt:j<xs.length
   ·obtain⟨x,hx⟩:=Q3 hlt
    obtain⟨kv,c0,c1,c2,c3,hkv⟩:=HC.o j x hx;have HKV:=Hh (hkv.old HR.o.2.2.old);replace c0:=HR.o.2.2.cell id c0;replace c1:=HR.o.2.2.cell id c1;replace c2:=HR.o.2.2.cell id c2;replace c3:=HR.o.2.2.cell id c3;clear hkv;obtain rfl:=hA (by omega);have hjn:(j:Int)<(xs.length:Int):=by omega
    have HMX:=Hh (Mg hx);have hsz:=Qbl x rest HR.o.2.1.1;have HXS:Hi (X=if szN x rest<0 then -1 else Q2e szN (xs.drop (j+1)) (szN x rest)):=Hh (by rw[HR.o.1,Qd hx];rfl);clear hx
    by_cases hz:szN x rest<0
    ·have t2:decide (szN x rest<0)=true:=Dt hz
     have HXE:Hi (X = -1):=Hh (by rw[HXS.o,Ps hz]);generalize hq:szN x rest=q at *;clear hsz HXS;go_wp2_with (go_at_call 68;refine (Qaq x _ rest _ HKV.o (HN.o x HMX.o) HR.o.2.1).mono ?_;rw[hq];rintro e w3 ⟨rfl,hk3⟩;have HK3:=Hh hk3;clear hk3);go_returns;exact⟨by rw[HXE.o];rfl,HR.o.2.2.trans HK3.o⟩
    ·have t2:decide (szN x rest<0)=false:=Df hz
     have HXE:Hi (X=Q2e szN (xs.drop (j+1)) (szN x rest)):=Hh (by rw[HXS.o,Ng hz]);have HBE:Hi (0≤szN x rest∧szN x rest≤1048576):=Hh (by have:=HR.o.2.1;omega);clear hsz HXS;generalize hq:szN x rest=q at *;go_wp2_with (go_at_call 68;refine (Qaq x _ rest _ HKV.o (HN.o x HMX.o) HR.o.2.1).mono ?_;rw[hq];rintro e w3 ⟨rfl,hk3⟩;have HK3:=Hh hk3;clear hk3);go_roundw
     case rel=>exact⟨j+1,q,by omega,by go_num,rfl,Hh ⟨HXE.o,HBE.o,HR.o.2.2.trans HK3.o⟩⟩
     case measure=>simp[intOf];omega
   ·have hjn:¬ (j:Int)<(xs.length:Int):=by omega
    have HXE:Hi (X=rest):=Hh (by rw[HR.o.1,Dn (by omega)];rfl);go_wp2_with fail;go_returns;exact⟨by rw[HXE.o];rfl,HR.o.2.2⟩
 ·have t1:decide (left-(xs.length:Int)<0)=true:=Dt (by omega)
  have HXE:Hi (J8 szN xs left = -1):=Hh (by unfold J8 szL;rw[Ng h];rfl);rw[HXE.o];go_enter func28,ntmps28;go_wp2_with fail;go_ret;exact⟨rfl,Kr _ _⟩
theorem Qkc (v:Value) (r:Reg) (left:Int) (w:World) (hv:Q1d w v r) (hn:Q1k r) (hl:0≤left∧left≤1048576) :
  Calls prog 6 #[v,.int .i64 left] w fun e w'=>e=.returned (.int .i64 (szR r left))∧Q0 nob w w':=by
 have hv':=hv;obtain⟨v0,v1,v2,rfl,⟨A0,b0,o0,c0,rfl,_⟩,⟨A1,b1,o1,c1,rfl,_⟩,⟨A2,b2,o2,c2,rfl,_⟩⟩:=hv;have hb:Blk (w.alloc (.cells #[.slice A0 r.comps.length c0,.slice A1 r.ress.length c1,.slice A2 r.evts.length c2] 24 (0,0))) w.heap.size [.slice A0 r.comps.length c0,.slice A1 r.ress.length c1,.slice A2 r.evts.length c2] 24:=Blk.new _ _ _;have hk0:Q0 nob w (w.alloc (.cells #[.slice A0 r.comps.length c0,.slice A1 r.ress.length c1,.slice A2 r.evts.length c2] 24 (0,0))):=(Kr _ _).alloc _;generalize hW0:(w.alloc (.cells #[.slice A0 r.comps.length c0,.slice A1 r.ress.length c1,.slice A2 r.evts.length c2] 24 (0,0)))=W0 at hb hk0
 have hrd:∀W,Q0 nob W0 W→Z1 W (.slice A0 r.comps.length c0) r.comps∧Z1 W (.slice A1 r.ress.length c1) r.ress∧Z1 W (.slice A2 r.evts.length c2) r.evts:=fun W hW=>by
  obtain⟨x0,x1,x2,e,h0,h1,h2⟩:=hv'.old (hk0.trans hW).old;cases e;exact⟨h0,h1,h2⟩
 have HG:Hi (∀W,Q0 nob W0 W→W.cell? ⟨w.heap.size,1,none⟩=some (.slice A1 r.ress.length c1)∧W.cell? ⟨w.heap.size,2,none⟩=some (.slice A2 r.evts.length c2)):=Hh fun W hW=>⟨(hb.kept hW id).cell 1 _ rfl,(hb.kept hW id).cell 2 _ rfl⟩
 have g0:=hb.cell 0 _ rfl;have hs0:=Q1p Q4l r.comps left hl.1;have C0:Hi (∀W,Q0 nob W0 W→Calls prog 27 #[.slice A0 r.comps.length c0,.int .i64 left] W fun e w'=>e=.returned (.int .i64 (J8 szD r.comps left))∧Q0 nob W w'):=Hh fun W hW=>Q5i _ _ _ _ (hrd W hW).1 (fun d hd=>hn d (.inl hd)) hl
 have C1:Hi (0≤J8 szD r.comps left→∀W,Q0 nob W0 W→Calls prog 27 #[.slice A1 r.ress.length c1,.int .i64 (J8 szD r.comps left)] W fun e w'=>e=.returned (.int .i64 (J8 szD r.ress (J8 szD r.comps left)))∧Q0 nob W w'):=Hh fun h0 W hW=>Q5i _ _ _ _ (hrd W hW).2.1 (fun d hd=>hn d (.inr (.inl hd))) (by omega)
 have HS1:Hi (0≤J8 szD r.comps left→-1≤J8 szD r.ress (J8 szD r.comps left)∧J8 szD r.ress (J8 szD r.comps left)≤1048576):=Hh fun h0=>by have:=Q1p Q4l r.ress _ h0;omega
 have HX:Hi (szR r left=if J8 szD r.comps left<0 then -1 else if J8 szD r.ress (J8 szD r.comps left)<0 then -1 else J8 szD r.evts (J8 szD r.ress (J8 szD r.comps left))):=Hh rfl;generalize szR r left=X at *;generalize J8 szD r.comps left=a0 at *;have C2:Hi (0≤J8 szD r.ress a0→J8 szD r.ress a0≤1048576→∀W,Q0 nob W0 W→Calls prog 27 #[.slice A2 r.evts.length c2,.int .i64 (J8 szD r.ress a0)] W fun e w'=>e=.returned (.int .i64 (J8 szD r.evts (J8 szD r.ress a0)))∧Q0 nob W w'):=Hh fun h0 h1 W hW=>Q5i _ _ _ _ (hrd W hW).2.2 (fun d hd=>hn d (.inr (.inr hd))) ⟨h0,h1⟩
 have HS2:Hi (0≤J8 szD r.ress a0→-1≤J8 szD r.evts (J8 szD r.ress a0)):=Hh fun h0=>(Q1p Q4l r.evts _ h0).1
 generalize J8 szD r.ress a0=a1 at *;generalize J8 szD r.evts a1=a2 at *;have HK0:=Hh hk0;clear hb hk0 hrd hv' hs0 hn hl;go_enter func6,ntmps6;go_upto_region 2 with (go_at_call 27;refine (C0.o _ (Kr _ _)).mono ?_;rintro e w1 ⟨rfl,hk⟩;have HK1:=Hh hk;obtain⟨g1,_⟩:=HG.o _ hk;clear hk)
 clear g0
 by_cases z0:a0<0
 ·have t0:decide (a0<0)=true:=Dt z0
  have HE:Hi (X = -1):=Hh (by rw[HX.o,Ps z0]);go_wp2_with fail;go_ret;exact⟨by rw[HE.o];rfl,HK0.o.trans HK1.o⟩
 have t0:decide (a0<0)=false:=Df z0;go_upto_region 5 with (go_at_call 27;refine (C1.o (by omega) _ HK1.o).mono ?_;rintro e w2 ⟨rfl,hk⟩;have HK2:=Hh (HK1.o.trans hk);obtain⟨_,g2⟩:=HG.o _ HK2.o;clear hk)
 clear g1
 by_cases z1:a1<0
 ·have t1:decide (a1<0)=true:=Dt z1
  have HE:Hi (X = -1):=Hh (by rw[HX.o,Ng (by omega),Ps z1]);go_wp2_with fail;go_ret;exact⟨by rw[HE.o];rfl,HK0.o.trans HK2.o⟩
 have t1:decide (a1<0)=false:=Df z1;have HE:Hi (X=a2):=Hh (by rw[HX.o,Ng (by omega),Ng (by omega)]);go_upto_region 8 with (go_at_call 27;refine (C2.o (by omega) (HS1.o (by omega)).2 _ HK2.o).mono ?_;rintro e w3 ⟨rfl,hk⟩;have HK3:=Hh (HK2.o.trans hk);clear hk)
 clear g2
 by_cases z2:a2<0
 ·have t2:decide (a2<0)=true:=Dt z2
  have HF:Hi (a2 = -1):=Hh (by have:=HS2.o (by omega);omega);go_wp2_with fail;go_ret;exact⟨by rw[HE.o,HF.o];rfl,HK0.o.trans HK3.o⟩
 ·have t2:decide (a2<0)=false:=Df z2
  go_wp2_with fail;go_ret;exact⟨by rw[HE.o];rfl,HK0.o.trans HK3.o⟩
theorem Qhs (v:Value) (t:Q1) (left:Int) (w:World) (hv:Z3 w v t) (hn:Q04 t) (hl:0≤left∧left≤1048576) :
  Calls prog 7 #[v,.int .i64 left] w fun e w'=>e=.returned (.int .i64 (szT t left))∧Q0 nob w w':=by
 have hv':=hv;obtain⟨v0,v1,rfl,⟨A0,b0,o0,c0,rfl,_⟩,⟨A1,b1,o1,c1,rfl,_⟩⟩:=hv;have hb:Blk (w.alloc (.cells #[.slice A0 t.nodes.length c0,.slice A1 t.tops.length c1] 28 (0,0))) w.heap.size [.slice A0 t.nodes.length c0,.slice A1 t.tops.length c1] 28:=Blk.new _ _ _;have hk0:Q0 nob w (w.alloc (.cells #[.slice A0 t.nodes.length c0,.slice A1 t.tops.length c1] 28 (0,0))):=(Kr _ _).alloc _;generalize hW0:(w.alloc (.cells #[.slice A0 t.nodes.length c0,.slice A1 t.tops.length c1] 28 (0,0)))=W0 at hb hk0
 have hrd:∀W,Q0 nob W0 W→X4 W (.slice A0 t.nodes.length c0) t.nodes∧Qi W (.slice A1 t.tops.length c1) t.tops:=fun W hW=>by
  obtain⟨x0,x1,e,h0,h1⟩:=hv'.old (hk0.trans hW).old;cases e;exact⟨h0,h1⟩
 have HG:Hi (∀W,Q0 nob W0 W→W.cell? ⟨w.heap.size,1,none⟩=some (.slice A1 t.tops.length c1)):=Hh fun W hW=>(hb.kept hW id).cell 1 _ rfl
 have g0:=hb.cell 0 _ rfl;have hs0:=Q1p Qbl t.nodes left hl.1;have C0:Hi (∀W,Q0 nob W0 W→Calls prog 28 #[.slice A0 t.nodes.length c0,.int .i64 left] W fun e w'=>e=.returned (.int .i64 (J8 szN t.nodes left))∧Q0 nob W w'):=Hh fun W hW=>Qfa _ _ _ _ (hrd W hW).1 hn hl
 have C1:Hi (0≤J8 szN t.nodes left→∀W,Q0 nob W0 W→Calls prog 29 #[.slice A1 t.tops.length c1,.int .i64 (J8 szN t.nodes left)] W fun e w'=>e=.returned (.int .i64 (szL t.tops.length (J8 szN t.nodes left)))∧W=w'):=Hh fun h0 W hW=>Qal _ _ _ _ (hrd W hW).2 (by omega)
 have HS1:Hi (0≤J8 szN t.nodes left→-1≤szL t.tops.length (J8 szN t.nodes left)):=Hh fun h0=>(Q19 _ _ (by omega) h0).1
 have HX:Hi (szT t left=if J8 szN t.nodes left<0 then -1 else szL t.tops.length (J8 szN t.nodes left)):=Hh rfl;generalize szT t left=X at *;generalize J8 szN t.nodes left=a0 at *;generalize szL t.tops.length a0=a1 at *;have HK0:=Hh hk0;clear hb hk0 hrd hv' hs0 hn hl;go_enter func7,ntmps7;go_upto_region 2 with (go_at_call 28;refine (C0.o _ (Kr _ _)).mono ?_;rintro e w1 ⟨rfl,hk⟩;have HK1:=Hh hk;have g1:=HG.o _ hk;clear hk)
 clear g0
 by_cases z0:a0<0
 ·have t0:decide (a0<0)=true:=Dt z0
  have HE:Hi (X = -1):=Hh (by rw[HX.o,Ps z0]);go_wp2_with fail;go_ret;exact⟨by rw[HE.o];rfl,HK0.o.trans HK1.o⟩
 have t0:decide (a0<0)=false:=Df z0;have HE:Hi (X=a1):=Hh (by rw[HX.o,Ng (by omega)]);go_upto_region 5 with (go_at_call 29;refine (C1.o (by omega) _ HK1.o).mono ?_;rintro e w2 ⟨rfl,rfl⟩)
 clear g1
 by_cases z1:a1<0
 ·have t1:decide (a1<0)=true:=Dt z1
  have HF:Hi (a1 = -1):=Hh (by have:=HS1.o (by omega);omega);go_wp2_with fail;go_ret;exact⟨by rw[HE.o,HF.o];rfl,HK0.o.trans HK1.o⟩
 ·have t1:decide (a1<0)=false:=Df z1
  go_wp2_with fail;go_ret;exact⟨by rw[HE.o];rfl,HK0.o.trans HK1.o⟩
theorem Qho (d:Zw) (w:World) :
  Calls prog 80 #[.agg #[.string d.name,.int .i64 d.kind],.agg #[.string d.name,.int .i64 d.kind]] w fun e w'=>e=.returned (.bool true)∧Q0 nob w w':=by
 obtain⟨nm,kd⟩:=d;go_enter func80,ntmps80;go_wp2_with fail;go_ret;exact⟨rfl,((Kr _ _).alloc _).alloc _⟩
theorem Q5y (v u:Value) (ds:List Zw) (w:World) (hv:Z1 w v ds) (hu:Z1 w u ds) :
  Calls prog 45 #[v,u] w fun e w'=>e=.returned (.bool true)∧Q0 nob w w':=by
 obtain⟨A,b,o,c,rfl,hn,_,hA,hc⟩:=hv;obtain⟨B,b',o',c',rfl,_,_,hB,hd⟩:=hu;have HC:=Hh hc;have HD:=Hh hd;clear hc hd;go_enter func45,ntmps45;go_wp2_with fail;go_loopw [5] (fun k wr=>∃j:Nat,j≤ds.length∧k=.int .i64 j∧Hi (Q0 nob w wr)) (fun k _=>ds.length-(intOf k).toNat)
 case atStart=>exact⟨0,Nat.zero_le _,rfl,Hh (Kr _ _)⟩
 case round =>
  obtain⟨j,hj,rfl,HR⟩:=hrel;obtain⟨wo,rfl⟩:∃wo:World,wo=wr:=⟨_,rfl⟩
  by_cases hlt:j<ds.length
  ·obtain⟨x,hx⟩:=Q3 hlt
   have q0:∀W,Q0 nob wo W→W.cell? ⟨b,o+j*2,none⟩=some (.string x.name):=fun W hW=>(HR.o.trans hW).cell id (HC.o j x hx).1
   have q1:∀W,Q0 nob wo W→W.cell? ⟨b,o+j*2+1,none⟩=some (.int .i64 x.kind):=fun W hW=>(HR.o.trans hW).cell id (HC.o j x hx).2
   have q2:∀W,Q0 nob wo W→W.cell? ⟨b',o'+j*2,none⟩=some (.string x.name):=fun W hW=>(HR.o.trans hW).cell id (HD.o j x hx).1
   have q3:∀W,Q0 nob wo W→W.cell? ⟨b',o'+j*2+1,none⟩=some (.int .i64 x.kind):=fun W hW=>(HR.o.trans hW).cell id (HD.o j x hx).2
   have hr0:Q0 nob wo wo:=Kr _ _;obtain rfl:=hA (by omega);obtain rfl:=hB (by omega);have hjn:(j:Int)<(ds.length:Int):=by omega
   clear hx;go_upto_region 6 with fail
   go_region_held3 (fun W=>Q0 nob wo W) (first|assumption|exact hr0.drew|exact Kd ‹_›|exact Ka (Ku ‹_›) _|exact Ka ‹_› _) ((go_at_call 80;refine (Qho x _).mono ?_;rintro e w3 ⟨rfl,hk3⟩;have hk4:=Kt ‹_› hk3;dsimp only))
   all_goals go_wp2_with fail
   all_goals go_roundw
   all_goals first
    |exact⟨j+1,by omega,by go_num,Hh (HR.o.trans hk4)⟩
    |(simp[intOf];omega)
  ·have hjn:¬ (j:Int)<(ds.length:Int):=by omega
   go_wp2_with fail;go_returns;exact⟨rfl,HR.o⟩
theorem Qh2 (n:Qc) (kv ku:Value) (w:World) (hv:Qi w kv n.kids) (hu:Qi w ku n.kids) :
  Calls prog 79 #[.agg #[.int .i64 n.kind,.string n.text,.int .i64 n.i,kv],.agg #[.int .i64 n.kind,.string n.text,.int .i64 n.i,ku]] w fun e w'=>e=.returned (.bool true)∧Q0 nob w w':=by
 obtain⟨kd,tx,i,ks⟩:=n;dsimp only at *;have hc:∀W,Q0 nob w W→Calls prog 44 #[kv,ku] W fun e w'=>e=.returned (.bool true)∧Q0 nob W w':=fun W hW=>Qae _ _ ks _ (hv.old hW.old) (hu.old hW.old)
 obtain⟨A0,b0,o0,c0,rfl,_⟩:=hv;obtain⟨A1,b1,o1,c1,rfl,_⟩:=hu;have HC:=Hh hc;clear hc;go_enter func79,ntmps79;go_wp2_with (go_at_call 44;refine (HC.o _ (((Kr _ _).alloc _).alloc _)).mono ?_;rintro e w3 ⟨rfl,hk3⟩;have HK3:=Hh ((((Kr _ w).alloc _).alloc _).trans hk3);clear hk3);go_ret;exact⟨rfl,HK3.o⟩
theorem Qdp (v u:Value) (ns:List Qc) (w:World) (hv:X4 w v ns) (hu:X4 w u ns) :
  Calls prog 43 #[v,u] w fun e w'=>e=.returned (.bool true)∧Q0 nob w w':=by
 obtain⟨A,b,o,c,rfl,hn,_,hA,hc⟩:=hv;obtain⟨B,b',o',c',rfl,_,_,hB,hd⟩:=hu;have HC:=Hh hc;have HD:=Hh hd;clear hc hd;go_enter func43,ntmps43;go_wp2_with fail;go_loopw [5] (fun k wr=>∃j:Nat,j≤ns.length∧k=.int .i64 j∧Hi (Q0 nob w wr)) (fun k _=>ns.length-(intOf k).toNat)
 case atStart=>exact⟨0,Nat.zero_le _,rfl,Hh (Kr _ _)⟩
 case round =>
  obtain⟨j,hj,rfl,HR⟩:=hrel;obtain⟨wo,rfl⟩:∃wo:World,wo=wr:=⟨_,rfl⟩
  by_cases hlt:j<ns.length
  ·obtain⟨x,hx⟩:=Q3 hlt
   obtain⟨kv,a0,a1,a2,a3,hkv⟩:=HC.o j x hx;obtain⟨ku,d0,d1,d2,d3,hku⟩:=HD.o j x hx;have HEQ:Hi (∀W,Q0 nob wo W→Calls prog 79 #[.agg #[.int .i64 x.kind,.string x.text,.int .i64 x.i,kv],.agg #[.int .i64 x.kind,.string x.text,.int .i64 x.i,ku]] W fun e w'=>e=.returned (.bool true)∧Q0 nob W w'):=Hh fun W hW=>Qh2 x kv ku W (hkv.old (HR.o.trans hW).old) (hku.old (HR.o.trans hW).old)
   have q0:∀W,Q0 nob wo W→W.cell? ⟨b,o+j*4,none⟩=some (.int .i64 x.kind):=fun W hW=>(HR.o.trans hW).cell id a0
   have q1:∀W,Q0 nob wo W→W.cell? ⟨b,o+j*4+1,none⟩=some (.string x.text):=fun W hW=>(HR.o.trans hW).cell id a1
   have q2:∀W,Q0 nob wo W→W.cell? ⟨b,o+j*4+2,none⟩=some (.int .i64 x.i):=fun W hW=>(HR.o.trans hW).cell id a2
   have q3:∀W,Q0 nob wo W→W.cell? ⟨b,o+j*4+3,none⟩=some kv:=fun W hW=>(HR.o.trans hW).cell id a3
   have p0:∀W,Q0 nob wo W→W.cell? ⟨b',o'+j*4,none⟩=some (.int .i64 x.kind):=fun W hW=>(HR.o.trans hW).cell id d0
   have p1:∀W,Q0 nob wo W→W.cell? ⟨b',o'+j*4+1,none⟩=some (.string x.text):=fun W hW=>(HR.o.trans hW).cell id d1
   have p2:∀W,Q0 nob wo W→W.cell? ⟨b',o'+j*4+2,none⟩=some (.int .i64 x.i):=fun W hW=>(HR.o.trans hW).cell id d2
   have p3:∀W,Q0 nob wo W→W.cell? ⟨b',o'+j*4+3,none⟩=some ku:=fun W hW=>(HR.o.trans hW).cell id d3
   obtain⟨KA,_,_,kc,rfl,_⟩:=hkv;obtain⟨KB,_,_,kd,rfl,_⟩:=hku;have hr0:Q0 nob wo wo:=Kr _ _;obtain rfl:=hA (by omega);obtain rfl:=hB (by omega);have hjn:(j:Int)<(ns.length:Int):=by omega
   clear hx a0 a1 a2 a3 d0 d1 d2 d3;go_upto_region 6 with fail
   go_region_held3 (fun W=>Q0 nob wo W) (first|assumption|exact hr0.drew|exact Kd ‹_›|exact Ka (Ku ‹_›) _|exact Ka ‹_› _) ((go_at_call 79;refine (HEQ.o _ (by first|assumption|exact hr0.drew|exact Kd ‹_›)).mono ?_;rintro e w3 ⟨rfl,hk3⟩;have hk4:=Kt ‹_› hk3;dsimp only))
   all_goals go_wp2_with fail
   all_goals go_roundw
   all_goals first
    |exact⟨j+1,by omega,by go_num,Hh (HR.o.trans hk4)⟩
    |(simp[intOf];omega)
  ·have hjn:¬ (j:Int)<(ns.length:Int):=by omega
   go_wp2_with fail;go_returns;exact⟨rfl,HR.o⟩
theorem Qir (v u:Value) (r:Reg) (w:World) (hv:Q1d w v r) (hu:Q1d w u r) :
  Calls prog 13 #[v,u] w fun e w'=>e=.returned (.bool true)∧Q0 nob w w':=by
 obtain⟨v0,v1,v2,rfl,h0,h1,h2⟩:=hv;obtain⟨u0,u1,u2,rfl,k0,k1,k2⟩:=hu;have C0:Hi (∀W,Q0 nob w W→Calls prog 45 #[v0,u0] W fun e w'=>e=.returned (.bool true)∧Q0 nob W w'):=Hh fun W hW=>Q5y _ _ _ _ (h0.old hW.old) (k0.old hW.old)
 have C1:Hi (∀W,Q0 nob w W→Calls prog 45 #[v1,u1] W fun e w'=>e=.returned (.bool true)∧Q0 nob W w'):=Hh fun W hW=>Q5y _ _ _ _ (h1.old hW.old) (k1.old hW.old)
 have C2:Hi (∀W,Q0 nob w W→Calls prog 45 #[v2,u2] W fun e w'=>e=.returned (.bool true)∧Q0 nob W w'):=Hh fun W hW=>Q5y _ _ _ _ (h2.old hW.old) (k2.old hW.old)
 obtain⟨A0,b0,o0,c0,rfl,_⟩:=h0;obtain⟨A1,b1,o1,c1,rfl,_⟩:=h1;obtain⟨A2,b2,o2,c2,rfl,_⟩:=h2;obtain⟨B0,e0,p0,d0,rfl,_⟩:=k0;obtain⟨B1,e1,p1,d1,rfl,_⟩:=k1;obtain⟨B2,e2,p2,d2,rfl,_⟩:=k2;have hb:Blk ((w.alloc (.cells #[.slice A0 r.comps.length c0,.slice A1 r.ress.length c1,.slice A2 r.evts.length c2] 38 (0,0))).alloc (.cells #[.slice B0 r.comps.length d0,.slice B1 r.ress.length d1,.slice B2 r.evts.length d2] 38 (0,0))) w.heap.size [.slice A0 r.comps.length c0,.slice A1 r.ress.length c1,.slice A2 r.evts.length c2] 38:=(Blk.new_of _ _ _ rfl).alloc _;have hd:Blk ((w.alloc (.cells #[.slice A0 r.comps.length c0,.slice A1 r.ress.length c1,.slice A2 r.evts.length c2] 38 (0,0))).alloc (.cells #[.slice B0 r.comps.length d0,.slice B1 r.ress.length d1,.slice B2 r.evts.length d2] 38 (0,0))) (w.heap.size+1) [.slice B0 r.comps.length d0,.slice B1 r.ress.length d1,.slice B2 r.evts.length d2] 38:=Blk.new_of _ _ _ (by simp);have hk0:Q0 nob w ((w.alloc (.cells #[.slice A0 r.comps.length c0,.slice A1 r.ress.length c1,.slice A2 r.evts.length c2] 38 (0,0))).alloc (.cells #[.slice B0 r.comps.length d0,.slice B1 r.ress.length d1,.slice B2 r.evts.length d2] 38 (0,0))):=((Kr _ _).alloc _).alloc _;generalize hW0:((w.alloc (.cells #[.slice A0 r.comps.length c0,.slice A1 r.ress.length c1,.slice A2 r.evts.length c2] 38 (0,0))).alloc (.cells #[.slice B0 r.comps.length d0,.slice B1 r.ress.length d1,.slice B2 r.evts.length d2] 38 (0,0)))=W0 at hb hd hk0
 have HG:Hi (∀W,Q0 nob W0 W→(W.cell? ⟨w.heap.size,1,none⟩=some (.slice A1 r.ress.length c1)∧W.cell? ⟨w.heap.size,2,none⟩=some (.slice A2 r.evts.length c2))∧W.cell? ⟨w.heap.size+1,1,none⟩=some (.slice B1 r.ress.length d1)∧W.cell? ⟨w.heap.size+1,2,none⟩=some (.slice B2 r.evts.length d2)):=Hh fun W hW =>
  ⟨⟨(hb.kept hW id).cell 1 _ rfl,(hb.kept hW id).cell 2 _ rfl⟩,(hd.kept hW id).cell 1 _ rfl,(hd.kept hW id).cell 2 _ rfl⟩
 have g0:=hb.cell 0 _ rfl;have g1:=hd.cell 0 _ rfl;have HK0:=Hh hk0;clear hb hd hk0;go_enter func13,ntmps13;go_upto_region 3 with (go_at_call 45;refine (C0.o _ HK0.o).mono ?_;rintro e w1 ⟨rfl,hk⟩;have HK1:=Hh hk;obtain⟨⟨x1,x2⟩,y1,y2⟩:=HG.o _ hk;clear hk)
 go_upto_region 5 with (go_at_call 45;refine (C1.o _ (HK0.o.trans HK1.o)).mono ?_;rintro e w2 ⟨rfl,hk⟩;have HK2:=Hh (HK1.o.trans hk);clear hk x1 x2 y1 y2;obtain⟨⟨x1,x2⟩,y1,y2⟩:=HG.o _ HK2.o)
 go_wp2_with (go_at_call 45;refine (C2.o _ (HK0.o.trans HK2.o)).mono ?_;rintro e w3 ⟨rfl,hk⟩;have HK3:=Hh (HK2.o.trans hk);clear hk x1 x2 y1 y2);go_ret;exact⟨rfl,HK0.o.trans HK3.o⟩
theorem Q51 (v u:Value) (t:Q1) (w:World) (hv:Z3 w v t) (hu:Z3 w u t) :
  Calls prog 12 #[v,u] w fun e w'=>e=.returned (.bool true)∧Q0 nob w w':=by
 obtain⟨v0,v1,rfl,h0,h1⟩:=hv;obtain⟨u0,u1,rfl,k0,k1⟩:=hu;have C0:Hi (∀W,Q0 nob w W→Calls prog 43 #[v0,u0] W fun e w'=>e=.returned (.bool true)∧Q0 nob W w'):=Hh fun W hW=>Qdp _ _ _ _ (h0.old hW.old) (k0.old hW.old)
 have C1:Hi (∀W,Q0 nob w W→Calls prog 44 #[v1,u1] W fun e w'=>e=.returned (.bool true)∧Q0 nob W w'):=Hh fun W hW=>Qae _ _ _ _ (h1.old hW.old) (k1.old hW.old)
 obtain⟨A0,b0,o0,c0,rfl,_⟩:=h0;obtain⟨A1,b1,o1,c1,rfl,_⟩:=h1;obtain⟨B0,e0,p0,d0,rfl,_⟩:=k0;obtain⟨B1,e1,p1,d1,rfl,_⟩:=k1;have hb:Blk ((w.alloc (.cells #[.slice A0 t.nodes.length c0,.slice A1 t.tops.length c1] 33 (0,0))).alloc (.cells #[.slice B0 t.nodes.length d0,.slice B1 t.tops.length d1] 33 (0,0))) w.heap.size [.slice A0 t.nodes.length c0,.slice A1 t.tops.length c1] 33:=(Blk.new_of _ _ _ rfl).alloc _;have hd:Blk ((w.alloc (.cells #[.slice A0 t.nodes.length c0,.slice A1 t.tops.length c1] 33 (0,0))).alloc (.cells #[.slice B0 t.nodes.length d0,.slice B1 t.tops.length d1] 33 (0,0))) (w.heap.size+1) [.slice B0 t.nodes.length d0,.slice B1 t.tops.length d1] 33:=Blk.new_of _ _ _ (by simp);have hk0:Q0 nob w ((w.alloc (.cells #[.slice A0 t.nodes.length c0,.slice A1 t.tops.length c1] 33 (0,0))).alloc (.cells #[.slice B0 t.nodes.length d0,.slice B1 t.tops.length d1] 33 (0,0))):=((Kr _ _).alloc _).alloc _;generalize hW0:((w.alloc (.cells #[.slice A0 t.nodes.length c0,.slice A1 t.tops.length c1] 33 (0,0))).alloc (.cells #[.slice B0 t.nodes.length d0,.slice B1 t.tops.length d1] 33 (0,0)))=W0 at hb hd hk0
 have HG:Hi (∀W,Q0 nob W0 W→W.cell? ⟨w.heap.size,1,none⟩=some (.slice A1 t.tops.length c1)∧W.cell? ⟨w.heap.size+1,1,none⟩=some (.slice B1 t.tops.length d1)):=Hh fun W hW =>
  ⟨(hb.kept hW id).cell 1 _ rfl,(hd.kept hW id).cell 1 _ rfl⟩
 have g0:=hb.cell 0 _ rfl;have g1:=hd.cell 0 _ rfl;have HK0:=Hh hk0;clear hb hd hk0;go_enter func12,ntmps12;go_upto_region 3 with (go_at_call 43;refine (C0.o _ HK0.o).mono ?_;rintro e w1 ⟨rfl,hk⟩;have HK1:=Hh hk;obtain⟨x1,y1⟩:=HG.o _ hk;clear hk)
 go_wp2_with (go_at_call 44;refine (C1.o _ (HK0.o.trans HK1.o)).mono ?_;rintro e w2 ⟨rfl,hk⟩;have HK2:=Hh (HK1.o.trans hk);clear hk x1 y1);go_ret;exact⟨rfl,HK0.o.trans HK2.o⟩
def Q4i:Nat→Nat→ByteArray→ByteArray
 |0,_,out=>out
 |f+1,k,out=>if k=0 then out else Q4i f (k / 10) (⟨#[48+UInt8.ofNat (k % 10)]⟩++out)
def Q2y (k:Nat):ByteArray:=if k=0 then ⟨#[109,48]⟩ else ⟨#[109]⟩++Q4i 19 k ⟨#[]⟩
theorem Qil (w:World) (q:Nat) (hq:q<256):(convert 163 9 (.slice (some ⟨w.heap.size,0,none⟩) 1 1)).run prog (w.alloc (.cells #[.int .u8 (q:Int)] 5 (0,0)))=.ok (.string ⟨#[UInt8.ofNat q]⟩) (w.alloc (.cells #[.int .u8 (q:Int)] 5 (0,0))):=by
 have h:=run_convert_bytes_back (P:=prog) (w.alloc (.cells #[.int .u8 (q:Int)] 5 (0,0))) 163 9 5 ⟨w.heap.size,0,none⟩ 1 [UInt8.ofNat q] (by kernel_rfl) (by kernel_rfl) (by kernel_rfl) (fun j hj=>by
  have hj0:j=0:=by simp at hj;exact hj
  subst hj0;have:=(Blk.new w [.int .u8 (q:Int)] 5).cell 0 _ rfl;have e:(UInt8.ofNat q).toNat=q:=by simp;omega
  simp only[List.getElem_cons_zero];rw[e];exact this)
 exact h
theorem Q4m (k:Nat) (w:World) (hk:k≤1000000000000000000) :
  Calls prog 81 #[.int .i64 (k:Int)] w fun e w'=>e=.returned (.string (Q2y k))∧Q0 nob w w':=by
 by_cases h0:k=0
 ·subst h0
  go_enter func81,ntmps81;go_wp2_with fail;go_ret;exact⟨rfl,Kr _ _⟩
 ·have t1:decide ((k:Int)≤0)=false:=Df (by omega)
  have HX:Hi (Q2y k =⟨#[109]⟩++Q4i 19 k ⟨#[]⟩):=Hh (by unfold Q2y;rw[Ng h0]);obtain⟨D,hD⟩:∃D,D=Q4i 19 k ⟨#[]⟩:=⟨_,rfl⟩;have HD:Hi (D=Q4i 19 k ⟨#[]⟩):=Hh hD;rw[HX.o,← hD];clear hD HX;go_enter func81,ntmps81;go_wp2_with fail;go_loopw [0,3] (fun a s wr=>∃(f q:Nat) (out:ByteArray),a=.int .i64 (q:Int)∧s=.string out∧Hi (D=Q4i f q out∧q<10 ^ f∧f≤19∧out.size≤19-f∧Q0 nob w wr)) (fun a _ _=>(intOf a).toNat)
  case atStart=>exact⟨19,k,⟨#[]⟩,rfl,rfl,Hh ⟨HD.o,by omega,Nat.le_refl _,Nat.zero_le _,Kr _ _⟩⟩
  case round =>
   obtain⟨f,q,out,rfl,rfl,HR⟩:=hrel;obtain⟨wo,rfl⟩:∃wo:World,wo=wr:=⟨_,rfl⟩
   by_cases hq:q=0
   ·subst hq
    have HE:Hi (D=out∧out.size≤20):=Hh ⟨by rw[HR.o.1];cases f<;>rfl,by have:=HR.o.2.2.2.1;omega⟩;go_wp2_with fail
    case isTrue hs=>exfalso;have:=HE.o.2;have e:(⟨#[109]⟩: ByteArray).size=1:=rfl;omega
    go_returns;exact⟨by rw[HE.o.1];rfl,HR.o.2.2.2.2⟩
   ·have t2:decide (0<q)=true:=Dt (by omega)
    have hc:=Qil wo (48+q % 10) (by omega);rw[show ((48+q % 10:Nat):Int)=48+(q:Int) % 10 by omega] at hc
    obtain⟨f',hf⟩:∃f',f=f'+1:=by
     cases f with
     |zero=>have:=HR.o.2.1;omega
     |succ f'=>exact⟨f',rfl⟩
    subst hf;have h19:q / 10<10 ^ f':=by have:=HR.o.2.1;rw[Nat.pow_succ] at this;omega
    have hw2:wrap64 ((q:Int) / 10)=((q / 10:Nat):Int):=by
     have:q<10 ^ 19:=Nat.lt_of_lt_of_le HR.o.2.1 (Nat.pow_le_pow_right (by omega) HR.o.2.2.1);unfold wrap64;omega
    have HD2:Hi (D=Q4i f' (q / 10) (⟨#[48+UInt8.ofNat (q % 10)]⟩++out)):=Hh (by rw[HR.o.1];simp only[Q4i];rw[Ng hq]);go_wp2_with fail
    case isTrue hs=>exfalso;have:=HR.o.2.2.2.1;have e:(⟨#[48+UInt8.ofNat (q % 10)]⟩: ByteArray).size=1:=rfl;omega
    go_roundw
    case rel=>exact⟨f',q / 10,_,by rw[hw2],rfl,Hh ⟨HD2.o,h19,by have:=HR.o.2.2.1;omega,by have:=HR.o.2.2.2.1;have:=HR.o.2.2.1;have e:(⟨#[48+UInt8.ofNat (q % 10)]⟩: ByteArray).size=1:=rfl;rw[ByteArray.size_append];omega,HR.o.2.2.2.2.alloc _⟩⟩
    case measure=>rw[hw2];simp[intOf];omega
theorem X5.blk {S:Nat→Prop} {e:TypeId} {m n:Nat} {w:World} {v:Value} {xs:List Value} (h:X5 S e m w v n xs) (hn:0<n) :
  ∃g cap,v=.slice (some ⟨g,0,none⟩) n cap∧S g∧g<w.heap.size∧(∀i x,xs[i]?=some x→w.cell? ⟨g,i,none⟩=some x∧w.frozen? ⟨g,i,none⟩=false):=by
 obtain⟨⟨hl,h1⟩,h2⟩:=h;rcases h1 with ⟨_,h0⟩|⟨g,cap,cur,rfl,hb,hh,hnc,hcm,hcs,ht⟩
 ·omega
 ·refine⟨g,cap,rfl,h2 g rfl,(Array.getElem?_eq_some_iff.1 hh).1,fun i x hx=>?_⟩
  have Qqy:cur[i]?=some x:=by
   rw[← ht,List.getElem?_take] at hx;simp at hx;exact hx.2
  exact⟨by simp[World.cell?,hh,Qqy],by simp[World.frozen?,hh]⟩
theorem X5.put {S:Nat→Prop} {e:TypeId} {m n c g:Nat} {w:World} {xs:List Value} (h:X5 S e m w (.slice (some ⟨g,0,none⟩) n c) n xs) {i:Nat} (hi:i<n*m) (u:Value) :
  X5 S e m (w.setCell ⟨g,i,none⟩ u) (.slice (some ⟨g,0,none⟩) n c) n (xs.set i u):=by
 obtain⟨⟨hl,h1⟩,h2⟩:=h;refine⟨⟨by rw[List.length_set];exact hl,?_⟩,h2⟩;rcases h1 with ⟨h0,_⟩|⟨g',cap,cur,e0,hb,hh,hnc,hcm,hcs,ht⟩
 ·cases h0
 ·injection e0 with e1 _ e3
  injection e1 with e1
  injection e1 with e1 _ _
  subst e1;subst e3;have hB:Blk w g cur.toList e:=by simpa[Blk] using hh
  have hB2:=hB.set i u;have e5:(cur.toList.set i u).toArray=cur.setIfInBounds i u:=by rw[← Array.toList_setIfInBounds]
  refine .inr ⟨g,c,cur.setIfInBounds i u,rfl,hb,by rw[← e5];exact hB2,hnc,hcm,by simpa using hcs,?_⟩;rw[Array.toList_setIfInBounds,← ht,List.take_set]
theorem Q45 {S:Nat→Prop} (v:Value) (ds:List Zw) (k:Nat) (w:World) (h:X5 S 128 2 w v ds.length (decls ds)) (hl:ds.length≤1048576) (hk:k≤100000000000000000) :
  Calls prog 46 #[v,.int .i64 (k:Int)] w fun e w'=>e=.returned (.int .i64 ((k+2*ds.length:Nat):Int))∧Q0 (own v) w w':=by
 obtain⟨A,cap,rfl⟩:=h.len;have HO:=Hh h;have hdl:=Q52 ds;have HDL:=Hh hdl;generalize decls ds=cs0 at *;clear h hdl;generalize hn:ds.length=n at *;obtain⟨R,hR⟩:∃R:Int,R=((k+2*n:Nat):Int):=⟨_,rfl⟩;have HRR:=Hh hR;rw[← hR];clear hn hR;go_enter func46,ntmps46;go_wp2_with fail;go_loopw [1,5] (fun m i wr=>∃(j q:Nat),j≤n∧i=.int .i64 j∧m=.int .i64 (q:Int)∧Hi (q=k+2*j∧Q0 (own (.slice A n cap)) w wr∧∃cs,X5 S 128 2 wr (.slice A n cap) n cs)) (fun _ i _=>n-(intOf i).toNat)
 case atStart=>exact⟨0,k,Nat.zero_le _,rfl,rfl,Hh ⟨by omega,Kr _ _,_,HO.o⟩⟩
 case round =>
  obtain⟨j,q,hj,rfl,rfl,HR⟩:=hrel;obtain⟨wo,rfl⟩:∃wo:World,wo=wr:=⟨_,rfl⟩
  by_cases hlt:j<n
  ·obtain⟨hq,hkw,cs,hcs⟩:=HR.o
   obtain⟨g,cap',eA,_⟩:=hcs.blk (by omega);obtain rfl:A=some ⟨g,0,none⟩:=by injection eA
   clear eA;have hjn:(j:Int)<(n:Int):=by omega
   have hqb:q≤200000000000000000:=by omega
   have hw1:IntKind.i64.wrap ((q:Int)+1)=(q:Int)+1:=by rw[IntKind.wrap_i64];omega
   have hw2:wrap64 ((q:Int)+1)=(q:Int)+1:=by unfold wrap64;omega
   have hw3:wrap64 ((q:Int)+1+1)=(q:Int)+1+1:=by unfold wrap64;omega
   have hcl:=hcs.1.1
   have HP:Hi (∀W,Q0 nob wo W→(∀i x,cs[i]?=some x→W.cell? ⟨g,i,none⟩=some x∧W.frozen? ⟨g,i,none⟩=false)∧X5 S 128 2 W (.slice (some ⟨g,0,none⟩) n cap) n cs):=Hh fun W hW=>by
    have h1:=hcs.nobk hW;obtain⟨g',cap',e,_,_,h2⟩:=h1.blk (by omega);cases e;exact⟨h2,h1⟩
   obtain⟨y0,hy0⟩:=Q3 (xs:=cs) (j:=j*2) (by omega);obtain⟨y1,hy1⟩:=Q3 (xs:=cs) (j:=j*2+1) (by omega);have HY0:=Hh hy0;have HY1:=Hh hy1;have HQ:=Hh hq;have HKW:=Hh hkw;clear hcs hcl hy0 hy1 HR hkw hq;go_wp2_with (go_at_call 81;refine (Q4m q _ (by omega)).mono ?_;rintro e w3 ⟨rfl,hk3⟩;obtain⟨s0,f0⟩:=(HP.o _ hk3).1 _ _ HY0.o;obtain⟨s1,f1⟩:=(HP.o _ hk3).1 _ _ HY1.o;have HK3:=Hh hk3;clear hk3);go_roundw
   case rel=>exact⟨j+1,q+2,by omega,by go_num,by go_num,Hh ⟨by have:=HQ.o;omega,((HKW.o.trans (HK3.o.ofNob _)).setCell (p:=⟨g,j*2,none⟩) (.inl rfl) _).setCell (p:=⟨g,j*2+1,none⟩) (.inl rfl) _,_,((HP.o _ HK3.o).2.put (by omega) _).put (by omega) _⟩⟩
   case measure=>simp[intOf];omega
  ·have hjn:¬ (j:Int)<(n:Int):=by omega
   have HE:Hi ((q:Int)=R):=Hh (by have:=HR.o.1;rw[HRR.o];omega);go_wp2_with fail;go_returns;exact⟨by rw[← HE.o];rfl,HR.o.2.1⟩
theorem Q5x {x:Int} (h:0≤x∧x≤1000000000000000000):wrap64 x=x:=by unfold wrap64;omega
theorem Qlo {q:Nat} (h:q≤2000000000000000):q+1≤1000000000000000000∧IntKind.i64.wrap ((q:Int)+1)=(q:Int)+1∧wrap64 ((q:Int)+1)=(q:Int)+1∧wrap64 ((q:Int)+1+1)=(q:Int)+1+1∧wrap64 ((q:Int)+1+1+1)=(q:Int)+1+1+1∧(0≤(q:Int)+1+1+1∧(q:Int)+1+1+1≤1000000000000000000) :=
 ⟨by omega,by rw[IntKind.wrap_i64];omega,Q5x (by omega),Q5x (by omega),Q5x (by omega),by omega⟩
def mk1 (n:Qc) (k:Nat):Qc:=⟨(k:Int),Q2y (k+1),((k+2:Nat):Int),Q06 n.kids.length ((k+3:Nat):Int)⟩
def Zm:List (Qc×Value)→Nat→List (Qc×Value)
 |[],_=>[]
 |p::l,k=>(mk1 p.1 k,p.2)::Zm l (k+3+p.1.kids.length)
def cnt:List (Qc×Value)→Nat
 |[]=>0
 |p::l=>3+p.1.kids.length+cnt l
theorem Q1f (l:List (Qc×Value)) (k:Nat):(Zm l k).length=l.length:=by
 induction l generalizing k with
 |nil=>rfl
 |cons p l ih=>simp[Zm,ih]
theorem Qfk (a b:List (Qc×Value)):cnt (a++b)=cnt a+cnt b:=by
 induction a with
 |nil=>simp[cnt]
 |cons p a ih=>simp only[List.cons_append,cnt,ih];omega
theorem Q99 (a b:List (Qc×Value)) (k:Nat):Zm (a++b) k=Zm a k++Zm b (k+cnt a):=by
 induction a generalizing k with
 |nil=>simp[Zm,cnt]
 |cons p a ih=>simp only[List.cons_append,Zm,cnt,ih];congr 3;omega
theorem Qc0 {l:List (Qc×Value)} (h:∀p∈l,p.1.kids.length≤1048576):cnt l≤l.length*1048579:=by
 induction l with
 |nil=>simp[cnt]
 |cons p l ih =>
  have h1:=ih (fun q hq=>h q (List.mem_cons_of_mem _ hq));have h2:=h p (List.mem_cons_self ..);simp only[cnt,List.length_cons];omega
theorem Qgt {a b:List (Qc×Value)} {p:Qc×Value} {k q:Nat} (hq:q=k+cnt a):((Zm (a++p::b) k).map Prod.fst)[a.length]?=some (mk1 p.1 q):=by
 rw[Q99,List.getElem?_map,List.getElem?_append_right (by rw[Q1f];exact Nat.le_refl _),Q1f,Nat.sub_self,hq];rfl
theorem Qce {a b:List (Qc×Value)} {p:Qc×Value} {k q:Nat} (hq:q=k+cnt a):Zm (a++[p]) k++b=Zm a k++(mk1 p.1 q,p.2)::b:=by
 rw[Q99,hq];simp[Zm]
namespace Jc
variable {S:Nat→Prop} {w w':World} {v kv:Value} {a b:List (Qc×Value)} {nd nd':Qc} {g n c:Nat}
theorem mid {p:Qc×Value} (hp:p∈a++(nd',kv)::b):p=(nd',kv)∨p∈a++(nd,kv)::b:=by
 rcases List.mem_append.1 hp with h|h
 ·exact .inr (List.mem_append_left _ h)
 ·rcases List.mem_cons.1 h with h|h
  ·exact .inl h
  ·exact .inr (List.mem_append_right _ (List.mem_cons_of_mem _ h))
theorem sepN (h:Jc S w v (a++(nd,kv)::b)):(a++(nd',kv)::b).Pairwise fun p q=>sep p.2.ownBlock q.2.ownBlock:=by
 have h1:=h.sep1;rw[List.pairwise_append,List.pairwise_cons] at h1 ⊢;obtain⟨h2,⟨h3,h4⟩,h5⟩:=h1
 refine⟨h2,⟨h3,h4⟩,fun x hx y hy=>?_⟩
 rcases List.mem_cons.1 hy with e|hy
 ·subst e;exact h5 x hx (nd,kv) (List.mem_cons_self ..)
 ·exact h5 x hx y (List.mem_cons_of_mem _ hy)
theorem here (nd:Qc):(nd,kv)∈a++(nd,kv)::b:=List.mem_append_right _ (List.mem_cons_self ..)
theorem put (h:Jc S w (.slice (some ⟨g,0,none⟩) n c) (a++(nd,kv)::b)) (hk:nd'.kids=nd.kids) {q:Nat} (hq:q<4) {u:Value} (hc:(Ys nd kv).set q u=Ys nd' kv) {i:Nat} (hi:i=a.length*4+q) :
  Jc S (w.setCell ⟨g,i,none⟩ u) (.slice (some ⟨g,0,none⟩) n c) (a++(nd',kv)::b):=by
 subst hi;have hK:Q0 (own (.slice (some ⟨g,0,none⟩) n c)) w (w.setCell ⟨g,a.length*4+q,none⟩ u):=(Kr (own (.slice (some ⟨g,0,none⟩) n c)) w).setCell (p:=⟨g,a.length*4+q,none⟩) (.inl rfl) u;have Qw6:∀p∈a++(nd,kv)::b,Qf S 3 (w.setCell ⟨g,a.length*4+q,none⟩ u) p.2 (Q4 p.1.kids):=fun p hp=>(h.kid p hp).kept hK (fun x hx hx2=>h.sep0 p hp x hx2 hx)
 refine⟨?_,fun p hp=>?_,fun p hp=>?_,h.sepN⟩
 ·obtain⟨A,c',e⟩:=h.row.len
  injection e with _ e2 _
  subst e2;have h1:=h.row.put (i:=a.length*4+q) (by simp;omega) u
  have e3:(Xo (a++(nd,kv)::b)).set (a.length*4+q) u=Xo (a++(nd',kv)::b):=by
   rw[← Q26,← Q26,List.set_append_right _ _ (by rw[Qa1];omega),Qa1,Nat.add_sub_cancel_left]
   show Xo a++(Ys nd kv++Xo b).set q u=Xo a++(Ys nd' kv++Xo b)
   rw[List.set_append_left _ _ (by show q<4;exact hq),hc]
  rw[e3] at h1;have e4:(a++(nd',kv)::b).length=(a++(nd,kv)::b).length:=by simp
  rw[e4];exact h1
 ·rcases mid (nd:=nd) hp with rfl|hp
  ·have:=Qw6 _ (here nd)
   dsimp only at this ⊢;rw[hk];exact this
  ·exact Qw6 p hp
 ·rcases mid (nd:=nd) hp with rfl|hp
  ·exact h.sep0 (nd,kv) (here nd)
  ·exact h.sep0 p hp
theorem putKids (h:Jc S w v (a++(nd,kv)::b)) (hc:Ys nd' kv=Ys nd kv) (ho:Qf S 3 w' kv (Q4 nd'.kids)) (hk:Q0 (own kv) w w'):Jc S w' v (a++(nd',kv)::b):=by
 have h1:=h.sep1;rw[List.pairwise_append,List.pairwise_cons] at h1;obtain⟨h2,⟨h3,h4⟩,h5⟩:=h1
 refine⟨?_,fun p hp=>?_,fun p hp=>?_,h.sepN⟩
 ·have h6:=h.row.kept hk (fun x hx hx2=>h.sep0 _ (here nd) x hx hx2)
  have e3:Xo (a++(nd',kv)::b)=Xo (a++(nd,kv)::b):=by
   rw[← Q26,← Q26]
   show Xo a++(Ys nd' kv++Xo b)=Xo a++(Ys nd kv++Xo b)
   rw[hc]
  have e4:(a++(nd',kv)::b).length=(a++(nd,kv)::b).length:=by simp
  rw[e3,e4];exact h6
 ·rcases List.mem_append.1 hp with hp|hp
  ·exact (h.kid p (List.mem_append_left _ hp)).kept hk (fun x hx hx2=>h5 p hp _ (List.mem_cons_self ..) x hx hx2)
  ·rcases List.mem_cons.1 hp with rfl|hp
   ·exact ho
   ·exact (h.kid p (List.mem_append_right _ (List.mem_cons_of_mem _ hp))).kept hk (fun x hx hx2=>h3 p hp x hx2 hx)
 ·rcases mid (nd:=nd) hp with rfl|hp
  ·exact h.sep0 (nd,kv) (here nd)
  ·exact h.sep0 p hp
theorem cells (h:Jc S w (.slice (some ⟨g,0,none⟩) n c) (a++(nd,kv)::b)) {j:Nat} (hj:a.length=j) :
  (w.cell? ⟨g,j*4,none⟩=some (.int .i64 nd.kind)∧w.frozen? ⟨g,j*4,none⟩=false)∧(w.cell? ⟨g,j*4+1,none⟩=some (.string nd.text)∧w.frozen? ⟨g,j*4+1,none⟩=false) ∧
  (w.cell? ⟨g,j*4+2,none⟩=some (.int .i64 nd.i)∧w.frozen? ⟨g,j*4+2,none⟩=false)∧w.cell? ⟨g,j*4+3,none⟩=some kv:=by
 subst hj;obtain⟨g',c',e,_,_,h1⟩:=h.row.blk (by simp;omega);cases e;have hg:=fun k (hk:k<4)=>Q3k (f:=fun p:Qc×Value=>Ys p.1 p.2) (m:=4) (fun _=>rfl) (l:=a++(nd,kv)::b) (i:=a.length) (x:=(nd,kv)) (by simp) hk
 exact⟨h1 _ _ (hg 0 (by omega)),h1 _ _ (hg 1 (by omega)),h1 _ _ (hg 2 (by omega)),(h1 _ _ (hg 3 (by omega))).1⟩
end Jc
theorem Qbg {S:Nat→Prop} (v:Value) (l:List (Qc×Value)) (k:Nat) (w:World) (h:Jc S w v l) (hl:l.length≤100000000) (hkl:∀p∈l,p.1.kids.length≤1048576) (hk:k≤1000000000000000) :
  Calls prog 47 #[v,.int .i64 (k:Int)] w fun e w'=>e=.returned (.int .i64 ((k+cnt l:Nat):Int))∧Jc S w' v (Zm l k)∧Q0 S w w':=by
 obtain⟨A,cap,rfl⟩:=h.row.len;have HO:=Hh h;have HKL:=Hh hkl;clear h hkl;obtain⟨n,hn⟩:∃n,n=l.length:=⟨_,rfl⟩;rw[← hn] at hl ⊢;rw[← hn] at HO;have HNL:=Hh hn;clear hn;obtain⟨R,hR⟩:∃R:Int,R=((k+cnt l:Nat):Int):=⟨_,rfl⟩;have HRR:=Hh hR;rw[← hR];clear hR;go_enter func47,ntmps47;go_wp2_with fail;go_loopw [1,5] (fun m i wr=>∃(j q:Nat),j≤n∧i=.int .i64 j∧m=.int .i64 (q:Int)∧Hi (∃a b,l=a++b∧a.length=j∧q=k+cnt a∧Q0 S w wr∧Jc S wr (.slice A n cap) (Zm a k++b))) (fun _ i _=>n-(intOf i).toNat)
 case atStart=>exact⟨0,k,Nat.zero_le _,rfl,rfl,Hh ⟨[],l,rfl,rfl,rfl,Kr _ _,HO.o⟩⟩
 case round =>
  obtain⟨j,q,hj,rfl,rfl,HR⟩:=hrel;obtain⟨wo,rfl⟩:∃wo:World,wo=wr:=⟨_,rfl⟩
  by_cases hlt:j<n
  ·obtain⟨a,b,hab,haj,hq,hkw,hon⟩:=HR.o
   match b,hab,hon with
   |[],hab,_=>exfalso;have:=HNL.o;rw[hab] at this;simp at this;omega
   |(nd,kv)::b,hab,hon =>
   obtain⟨g,cap',eA,hSg,_⟩:=hon.row.blk (by simp;omega);obtain rfl:A=some ⟨g,0,none⟩:=by injection eA
   clear eA;have hjn:(j:Int)<(n:Int):=by omega
   have hal:∀p∈a,p.1.kids.length≤1048576:=fun p hp=>HKL.o p (by rw[hab];exact List.mem_append_left _ hp)
   have hkd:nd.kids.length≤1048576:=HKL.o (nd,kv) (by rw[hab];exact Jc.here nd);have hqb:q≤2000000000000000:=by have:=Qc0 hal;omega
   have Qse:(Zm a k).length=j:=by rw[Q1f];exact haj
   obtain⟨hq1,hw1,hw2,hw3,hw4,hq3⟩:=Qlo hqb;obtain⟨⟨s0,f0⟩,_⟩:=hon.cells Qse;have HQ3:=Hh hq3;have HAB:=Hh hab;have HAJ:=Hh haj;have Qrw:=Hh Qse;have HQ:=Hh hq;have HKD:=Hh hkd;have HN1:Hi (Jc S (wo.setCell ⟨g,j*4,none⟩ (.int .i64 (q:Int))) (.slice (some ⟨g,0,none⟩) n cap) (Zm a k++(⟨(q:Int),nd.text,nd.i,nd.kids⟩,kv)::b)):=Hh (hon.put (a:=Zm a k) (nd':=⟨(q:Int),nd.text,nd.i,nd.kids⟩) (q:=0) (i:=j*4) rfl (by omega) rfl (by rw[Qse];rfl));have HK1:Hi (Q0 S w (wo.setCell ⟨g,j*4,none⟩ (.int .i64 (q:Int)))):=Hh (hkw.setCell (p:=⟨g,j*4,none⟩) (.inl hSg) _)
   have HMT:Hi (∀W,Calls prog 81 #[.int .i64 ((q:Int)+1)] W fun e w'=>e=.returned (.string (Q2y (q+1)))∧Q0 nob W w'):=Hh fun W=>by
    have:=Q4m (q+1) W hq1;push_cast at this;exact this
   have HSG:=Hh hSg;clear hab haj Qse hq hal hkd hon hkw HR hSg hq1 hq3;go_upto_region 5 with fail
   generalize wo.setCell ⟨g,j*4,none⟩ (.int .i64 (q:Int))=W1 at *;clear s0 f0;go_upto_region 7 with (go_at_call 81;refine (HMT.o _).mono ?_;rintro e w2 ⟨rfl,hk2⟩;obtain⟨_,⟨s1,f1⟩,_⟩:=(HN1.o.nobk hk2).cells Qrw.o;have HK2:=Hh hk2;clear hk2)
   have HN2:Hi (Jc S (w2.setCell ⟨g,j*4+1,none⟩ (.string (Q2y (q+1)))) (.slice (some ⟨g,0,none⟩) n cap) (Zm a k++(⟨(q:Int),Q2y (q+1),nd.i,nd.kids⟩,kv)::b)):=Hh ((HN1.o.nobk HK2.o).put (a:=Zm a k) (nd':=⟨(q:Int),Q2y (q+1),nd.i,nd.kids⟩) (q:=1) (i:=j*4+1) rfl (by omega) rfl (by rw[Qrw.o]));have HK3:Hi (Q0 S w (w2.setCell ⟨g,j*4+1,none⟩ (.string (Q2y (q+1))))):=Hh ((HK1.o.trans (HK2.o.ofNob _)).setCell (p:=⟨g,j*4+1,none⟩) (.inl HSG.o) _);generalize w2.setCell ⟨g,j*4+1,none⟩ (.string (Q2y (q+1)))=W2 at *;clear s1 f1 HK2 HN1 HK1;obtain⟨_,_,⟨s2,f2⟩,_⟩:=HN2.o.cells Qrw.o;go_upto_region 9 with fail
   have HN3:Hi (Jc S (W2.setCell ⟨g,j*4+2,none⟩ (.int .i64 ((q:Int)+1+1))) (.slice (some ⟨g,0,none⟩) n cap) (Zm a k++(⟨(q:Int),Q2y (q+1),(q:Int)+1+1,nd.kids⟩,kv)::b)):=Hh (HN2.o.put (a:=Zm a k) (nd':=⟨(q:Int),Q2y (q+1),(q:Int)+1+1,nd.kids⟩) (q:=2) (i:=j*4+2) rfl (by omega) rfl (by rw[Qrw.o]));have HK4:Hi (Q0 S w (W2.setCell ⟨g,j*4+2,none⟩ (.int .i64 ((q:Int)+1+1)))):=Hh (HK3.o.setCell (p:=⟨g,j*4+2,none⟩) (.inl HSG.o) _);generalize W2.setCell ⟨g,j*4+2,none⟩ (.int .i64 ((q:Int)+1+1))=W3 at *;clear s2 f2 HN2 HK3;obtain⟨_,_,_,s3⟩:=HN3.o.cells Qrw.o;go_wp2_with (go_at_call 48;refine (Q7m (HN3.o.kid _ (Jc.here _)) (Nat.le_trans HKD.o (by decide)) HQ3.o).mono ?_;rintro e w4 ⟨rfl,ho4,hk4⟩;dsimp only at ho4 hk4 ⊢;have HO4:=Hh ho4;have HK5:=Hh hk4;clear ho4 hk4);go_roundw
   case rel=>exact⟨j+1,q+3+nd.kids.length,by omega,by go_num,by first|(congr 1;done)|(congr 1;push_cast;omega),Hh ⟨a++[(nd,kv)],b,by rw[HAB.o];simp,by rw[List.length_append,HAJ.o];rfl,by rw[HQ.o,Qfk];simp[cnt];omega,HK4.o.then_ HK5.o (fun x hx=>.inl ((HN3.o.kid _ (Jc.here _)).2 x hx)),by
    rw[Qce HQ.o];exact HN3.o.putKids (nd':=mk1 nd q) (by simp[mk1,Ys];omega) (by show Qf S 3 w4 kv (Q4 (Q06 nd.kids.length ((q+3:Nat):Int)));rw[show ((q+3:Nat):Int)=(q:Int)+1+1+1 by omega];exact HO4.o) HK5.o⟩⟩
   case measure=>simp[intOf];omega
  ·have hjn:¬ (j:Int)<(n:Int):=by omega
   obtain⟨a,b,hab,haj,hq,hkw,hon⟩:=HR.o
   have hb:b=[]:=by
    have:=HNL.o;rw[hab,List.length_append] at this;exact List.eq_nil_of_length_eq_zero (by omega)
   subst hb;rw[List.append_nil] at hab hon;subst hab;have HE:Hi ((q:Int)=R):=Hh (by rw[HRR.o,hq]);have HON:=Hh hon;have HKW:=Hh hkw;clear hon hkw HR hq;go_wp2_with fail;go_returns;exact⟨by rw[← HE.o];rfl,HON.o,HKW.o⟩
theorem Qi3 {r:Reg} {l:Int} (hl:0≤l∧l≤1048576) (h:0≤szR r l):(r.comps.length≤1048576∧r.ress.length≤1048576∧r.evts.length≤1048576)∧(∀d,d∈r.comps∨d∈r.ress∨d∈r.evts→d.name.size≤1048576)∧szR r l≤l:=by
 unfold szR at h ⊢;have h1:=Q1p Q4l r.comps l hl.1
 by_cases c1:J8 szD r.comps l<0
 ·rw[Ps c1] at h;omega
 ·rw[Ng c1] at h ⊢
  have h2:=Q1p Q4l r.ress (J8 szD r.comps l) (by omega)
  by_cases c2:J8 szD r.ress (J8 szD r.comps l)<0
  ·rw[Ps c2] at h;omega
  ·rw[Ng c2] at h ⊢
   have h3:=Q1p Q4l r.evts (J8 szD r.ress (J8 szD r.comps l)) (by omega);have r1:=Q9i hl (by omega:0≤J8 szD r.comps l);have r2:=Q9i (l:=J8 szD r.comps l) (by omega) (by omega:0≤J8 szD r.ress (J8 szD r.comps l));have r3:=Q9i (l:=J8 szD r.ress (J8 szD r.comps l)) (by omega) h
   refine⟨⟨r1.1,r2.1,r3.1⟩,fun d hd=>?_,by omega⟩
   rcases hd with hd|hd|hd
   ·exact r1.2 d hd
   ·exact r2.2 d hd
   ·exact r3.2 d hd
theorem Qit {t:Q1} {l:Int} (hl:0≤l∧l≤1048576) (h:0≤szT t l):(t.nodes.length≤1048576∧t.tops.length≤1048576)∧∀n∈t.nodes,n.text.size≤1048576∧n.kids.length≤1048576:=by
 unfold szT at h;have h1:=Q1p Qbl t.nodes l hl.1
 by_cases c1:J8 szN t.nodes l<0
 ·rw[Ps c1] at h;omega
 ·rw[Ng c1] at h
  have r1:=Qix hl (by omega:0≤J8 szN t.nodes l);have r2:=(Q19 t.tops.length (J8 szN t.nodes l) (by omega) (by omega)).2.2 h;exact⟨⟨r1.1,by omega⟩,r1.2⟩
theorem Qjb {t:Q1} (h:∀n∈t.nodes,n.text.size≤1048576∧n.kids.length≤1048576):Jz t:=by
 intro i
 by_cases hi:i.toNat<t.nodes.length
 ·obtain⟨n,hn⟩:=Q3 hi
  have e:t.at i=n:=by simp[Q1.at,hn]
  rw[e];exact (h n (Mg hn)).2
 ·have e:t.at i=Qex:=by simp[Q1.at,List.getElem?_eq_none (Nat.le_of_not_lt hi)]
  rw[e];show (0:Nat)≤_;omega
end Go.Proofs.YtkgkafjachjafaaGreat
