/- Part 23 of: FnExactEffects answers true; no condition. -/
import Derived.Laws.AppendOwnNone
import Derived.Test.YtkgkafjachjafaaGreatY06
import Derived.Test.YtkgkafjachjafaaGreatY18
set_option linter.unusedVariables false
set_option maxHeartbeats 1000000
set_option maxRecDepth 100000
open Go Go.RowKit
namespace Go.Proofs.YtkgkafjachjafaaGreat
open Tryz
theorem K0r {p:Prop} (h:p:=by obtain⟨rfl,HKR⟩:=hrel;obtain⟨wo,rfl⟩:∃wo:World,wo=wr:=⟨_,rfl⟩;obtain⟨x0,x1,x2,x3⟩:=HBX.o wo (HKR.o.ofNob _);have HR:=Hh (H0.o.nobk HKR.o);have HFR:=Hh (HF0.o.kept (HKR.o.ofNob _));have HKK:=Hh (HK0.o.trans (HKR.o.ofNob _));clear HKR;go_wp2_with fail;go_returns;rw[HX.o];exact⟨rfl,HR.o,HKK.o⟩):p:=h
section
variable {w:World} {wb gb:Nat} {r0 r1 r2 t0 t1 ov:Value} {s:SS} {nv kv wv:Value} {r:Reg} {t:Q1}
theorem Qjn (h:SpR w wb gb r0 r1 r2 t0 t1 ov s nv kv wv) (F:Xl (at2 wb gb) w r t r0 r1 r2 t0 t1) (hok:Qz t s)
  {i:Int} (hi:InT t i) (Qnf:(t.at i).kids=[]) (hkd:(t.at i).kind=1) :
  Calls prog 222 #[.pointer (some ⟨wb,0,none⟩),.int .i64 i] w fun e w'=>e=.returned (.int .i64 (Jw r t s i (t.at i) []).1)∧AtW w wb gb r0 r1 r2 t0 t1 ov (Jw r t s i (t.at i) []).2 nv kv wv w':=by
 obtain⟨mi,rfl,hnd,nb,no,nc,A,kb,ko,kc,rfl,hl,hml,⟨c0,c1,c2,c3⟩,kl,klc,hA,W0,hW0,h0,F0,hk0,hbx,hkc,cw3,H0,HF0,HK0,HBX,HKC⟩:=h.nodeH F hi;have HOK:=Hh hok;have HI:=Hh hi;have hnl:(t.at (mi:Int)).kids.length=0:=by rw[Qnf];rfl
 have hx:Jw r t s (mi:Int) (t.at (mi:Int)) []=(1,s):=by
  unfold Jw;rw[Ps hkd]
 have HX:=Hh hx;clear hx;generalize Jw r t s (mi:Int) (t.at (mi:Int)) []=X at HX ⊢;have hl0:decide ((0:Int)<((t.at (mi:Int)).kids.length:Int))=false:=Df Om;have hl0':decide (0<(t.at (mi:Int)).kids.length)=false:=Df Om;have hl0'':¬ (0<(t.at (mi:Int)).kids.length):=Om
 have tk11:((t.at (mi:Int)).kind==11)=false:=by rw[hkd];rfl
 have tk5:((t.at (mi:Int)).kind==5)=false:=by rw[hkd];rfl
 have tk1:((t.at (mi:Int)).kind==1)=true:=by rw[hkd];rfl
 have tk2:((t.at (mi:Int)).kind==2)=false:=by rw[hkd];rfl
 have tk3:((t.at (mi:Int)).kind==3)=false:=by rw[hkd];rfl
 have tk4:((t.at (mi:Int)).kind==4)=false:=by rw[hkd];rfl
 have tk6:((t.at (mi:Int)).kind==6)=false:=by rw[hkd];rfl
 generalize hN:t.at (mi:Int)=n at *;obtain⟨z0,z1,z2,z3⟩:=hbx W0 (Kr _ _);clear hnl Qnf hkd hbx hkc hk0 F0 h0 F h hok hi hnd;go_enter func222,ntmps222;go_wp2_with fail;go_loopw [6,7] (fun u6 i wr=>i=.int .i64 0∧Hi (Q0 nob W0 wr)) (fun _ _ _=>0)
 case atStart=>exact⟨rfl,Hh Kz⟩
 case round =>
  exact K0r
theorem Qjv (h:SpR w wb gb r0 r1 r2 t0 t1 ov s nv kv wv) (F:Xl (at2 wb gb) w r t r0 r1 r2 t0 t1) (hok:Qz t s)
  {i:Int} (hi:InT t i) (Qnf:(t.at i).kids=[]) (hkd:(t.at i).kind=2) :
  Calls prog 222 #[.pointer (some ⟨wb,0,none⟩),.int .i64 i] w fun e w'=>e=.returned (.int .i64 (Jw r t s i (t.at i) []).1)∧AtW w wb gb r0 r1 r2 t0 t1 ov (Jw r t s i (t.at i) []).2 nv kv wv w':=by
 obtain⟨mi,rfl,hnd,nb,no,nc,A,kb,ko,kc,rfl,hl,hml,⟨c0,c1,c2,c3⟩,kl,klc,hA,W0,hW0,h0,F0,hk0,hbx,hkc,cw3,H0,HF0,HK0,HBX,HKC⟩:=h.nodeH F hi;have HOK:=Hh hok;have HI:=Hh hi;have hnl:(t.at (mi:Int)).kids.length=0:=by rw[Qnf];rfl
 have hx:Jw r t s (mi:Int) (t.at (mi:Int)) []=(2,s):=by
  unfold Jw;rw[Ng (by rw[hkd];decide)];rw[Ps hkd]
 have HX:=Hh hx;clear hx;generalize Jw r t s (mi:Int) (t.at (mi:Int)) []=X at HX ⊢;have hl0:decide ((0:Int)<((t.at (mi:Int)).kids.length:Int))=false:=Df Om;have hl0':decide (0<(t.at (mi:Int)).kids.length)=false:=Df Om;have hl0'':¬ (0<(t.at (mi:Int)).kids.length):=Om
 have tk11:((t.at (mi:Int)).kind==11)=false:=by rw[hkd];rfl
 have tk5:((t.at (mi:Int)).kind==5)=false:=by rw[hkd];rfl
 have tk1:((t.at (mi:Int)).kind==1)=false:=by rw[hkd];rfl
 have tk2:((t.at (mi:Int)).kind==2)=true:=by rw[hkd];rfl
 have tk3:((t.at (mi:Int)).kind==3)=false:=by rw[hkd];rfl
 have tk4:((t.at (mi:Int)).kind==4)=false:=by rw[hkd];rfl
 have tk6:((t.at (mi:Int)).kind==6)=false:=by rw[hkd];rfl
 generalize hN:t.at (mi:Int)=n at *;obtain⟨z0,z1,z2,z3⟩:=hbx W0 (Kr _ _);clear hnl Qnf hkd hbx hkc hk0 F0 h0 F h hok hi hnd;go_enter func222,ntmps222;go_wp2_with fail;go_loopw [6,7] (fun u6 i wr=>i=.int .i64 0∧Hi (Q0 nob W0 wr)) (fun _ _ _=>0)
 case atStart=>exact⟨rfl,Hh Kz⟩
 case round =>
  exact K0r
theorem Qjp (h:SpR w wb gb r0 r1 r2 t0 t1 ov s nv kv wv) (F:Xl (at2 wb gb) w r t r0 r1 r2 t0 t1) (hok:Qz t s)
  {i:Int} (hi:InT t i) (Qnf:(t.at i).kids=[]) (hkd:(t.at i).kind=3) :
  Calls prog 222 #[.pointer (some ⟨wb,0,none⟩),.int .i64 i] w fun e w'=>e=.returned (.int .i64 (Jw r t s i (t.at i) []).1)∧AtW w wb gb r0 r1 r2 t0 t1 ov (Jw r t s i (t.at i) []).2 nv kv wv w':=by
 obtain⟨mi,rfl,hnd,nb,no,nc,A,kb,ko,kc,rfl,hl,hml,⟨c0,c1,c2,c3⟩,kl,klc,hA,W0,hW0,h0,F0,hk0,hbx,hkc,cw3,H0,HF0,HK0,HBX,HKC⟩:=h.nodeH F hi;have HOK:=Hh hok;have HI:=Hh hi;have hnl:(t.at (mi:Int)).kids.length=0:=by rw[Qnf];rfl
 have hx:Jw r t s (mi:Int) (t.at (mi:Int)) []=(4,s):=by
  unfold Jw;rw[Ng (by rw[hkd];decide)];rw[Ng (by rw[hkd];decide)];rw[Ps hkd]
 have HX:=Hh hx;clear hx;generalize Jw r t s (mi:Int) (t.at (mi:Int)) []=X at HX ⊢;have hl0:decide ((0:Int)<((t.at (mi:Int)).kids.length:Int))=false:=Df Om;have hl0':decide (0<(t.at (mi:Int)).kids.length)=false:=Df Om;have hl0'':¬ (0<(t.at (mi:Int)).kids.length):=Om
 have tk11:((t.at (mi:Int)).kind==11)=false:=by rw[hkd];rfl
 have tk5:((t.at (mi:Int)).kind==5)=false:=by rw[hkd];rfl
 have tk1:((t.at (mi:Int)).kind==1)=false:=by rw[hkd];rfl
 have tk2:((t.at (mi:Int)).kind==2)=false:=by rw[hkd];rfl
 have tk3:((t.at (mi:Int)).kind==3)=true:=by rw[hkd];rfl
 have tk4:((t.at (mi:Int)).kind==4)=false:=by rw[hkd];rfl
 have tk6:((t.at (mi:Int)).kind==6)=false:=by rw[hkd];rfl
 generalize hN:t.at (mi:Int)=n at *;obtain⟨z0,z1,z2,z3⟩:=hbx W0 (Kr _ _);clear hnl Qnf hkd hbx hkc hk0 F0 h0 F h hok hi hnd;go_enter func222,ntmps222;go_wp2_with fail;go_loopw [6,7] (fun u6 i wr=>i=.int .i64 0∧Hi (Q0 nob W0 wr)) (fun _ _ _=>0)
 case atStart=>exact⟨rfl,Hh Kz⟩
 case round =>
  exact K0r
theorem Qky (h:SpR w wb gb r0 r1 r2 t0 t1 ov s nv kv wv) (F:Xl (at2 wb gb) w r t r0 r1 r2 t0 t1) (hok:Qz t s)
  {i:Int} (hi:InT t i) (Qnf:(t.at i).kids=[]) (hkd:(t.at i).kind=4) :
  Calls prog 222 #[.pointer (some ⟨wb,0,none⟩),.int .i64 i] w fun e w'=>e=.returned (.int .i64 (Jw r t s i (t.at i) []).1)∧AtW w wb gb r0 r1 r2 t0 t1 ov (Jw r t s i (t.at i) []).2 nv kv wv w':=by
 obtain⟨mi,rfl,hnd,nb,no,nc,A,kb,ko,kc,rfl,hl,hml,⟨c0,c1,c2,c3⟩,kl,klc,hA,W0,hW0,h0,F0,hk0,hbx,hkc,cw3,H0,HF0,HK0,HBX,HKC⟩:=h.nodeH F hi;have HOK:=Hh hok;have HI:=Hh hi;have hnl:(t.at (mi:Int)).kids.length=0:=by rw[Qnf];rfl
 have hx:Jw r t s (mi:Int) (t.at (mi:Int)) []=(if J3 (t.at (mi:Int)).text s.names<0 then (0,s.fail 3 mi) else (Z7 s.kinds (J3 (t.at (mi:Int)).text s.names).toNat,s)):=by
  unfold Jw;rw[Ng (by rw[hkd];decide)];rw[Ng (by rw[hkd];decide)];rw[Ng (by rw[hkd];decide)];rw[Ps hkd]
 have HX:=Hh hx;clear hx;generalize Jw r t s (mi:Int) (t.at (mi:Int)) []=X at HX ⊢;have hl0:decide ((0:Int)<((t.at (mi:Int)).kids.length:Int))=false:=Df Om;have hl0':decide (0<(t.at (mi:Int)).kids.length)=false:=Df Om;have hl0'':¬ (0<(t.at (mi:Int)).kids.length):=Om
 have tk11:((t.at (mi:Int)).kind==11)=false:=by rw[hkd];rfl
 have tk5:((t.at (mi:Int)).kind==5)=false:=by rw[hkd];rfl
 have tk1:((t.at (mi:Int)).kind==1)=false:=by rw[hkd];rfl
 have tk2:((t.at (mi:Int)).kind==2)=false:=by rw[hkd];rfl
 have tk3:((t.at (mi:Int)).kind==3)=false:=by rw[hkd];rfl
 have tk4:((t.at (mi:Int)).kind==4)=true:=by rw[hkd];rfl
 have tk6:((t.at (mi:Int)).kind==6)=false:=by rw[hkd];rfl
 generalize hN:t.at (mi:Int)=n at *;obtain⟨z0,z1,z2,z3⟩:=hbx W0 (Kr _ _);have hge:=Qg8 n.text s.names;have hlt:=Q8o n.text s.names;have hnk:=HOK.o.nk;clear hnl Qnf hkd hbx hkc hk0 F0 h0 F h hok hi hnd;go_enter func222,ntmps222;go_wp2_with fail;go_loopw [6,7] (fun u6 i wr=>i=.int .i64 0∧Hi (Q0 nob W0 wr)) (fun _ _ _=>0)
 case atStart=>exact⟨rfl,Hh Kz⟩
 case round =>
  obtain⟨rfl,HKR⟩:=hrel;obtain⟨wo,rfl⟩:∃wo:World,wo=wr:=⟨_,rfl⟩;obtain⟨x0,x1,x2,x3⟩:=HBX.o wo (HKR.o.ofNob _);have HR:=Hh (H0.o.nobk HKR.o);have HFR:=Hh (HF0.o.kept (HKR.o.ofNob _));have HKK:=Hh (HK0.o.trans (HKR.o.ofNob _));clear HKR;have Qr0:=Q0t HR.o n.text;have p7:wo.cell? ⟨wb,7,none⟩=some kv:=HR.o.blk.cell 7 _ rfl;generalize J3 n.text s.names=q at hge hlt HX Qr0
  by_cases hq:q<0
  ·have tq:decide (q<0)=true:=Dt hq
   have HQ:=Hh hq;clear hq hge hlt hnk;go_wp2_with (first|(go_at_call 220;refine Qr0.mono ?_;rintro e w2 ⟨rfl,rfl⟩)|(go_at_call 136;refine (Qw HR.o _ _).mono ?_;rintro e w2 ⟨rfl,hat⟩));go_returns;rw[HX.o,Ps HQ.o];exact⟨rfl,hat.1,HKK.o.trans hat.2⟩
  ·obtain⟨m,rfl⟩:=En (show 0≤q by omega)
   have tq:decide ((m:Int)<0)=false:=Df hq;obtain⟨x,hx⟩:=Q4 (xs:=s.kinds) (j:=m) Om;obtain⟨B,b,o,c,rfl,el,elc,hB,hce⟩:=HR.o.k.now;obtain rfl:=hB Om;have e0:=hce m x hx;have Qut:(m:Int)<s.kinds.length:=Om
   have HGX:Hi (Z7 s.kinds m=x):=Hh (by unfold Z7;rw[hx];rfl);have HQ:=Hh hq;clear hq hge hlt hx hce hnk hB;go_wp2_with (first|(go_at_call 220;refine Qr0.mono ?_;rintro e w2 ⟨rfl,rfl⟩)|(go_at_call 136;refine (Qw HR.o _ _).mono ?_;rintro e w2 ⟨rfl,hat⟩));go_returns;rw[HX.o,Ng Om,Int.toNat_natCast,HGX.o];exact⟨rfl,HR.o,HKK.o⟩
theorem Ql1 (h:SpR w wb gb r0 r1 r2 t0 t1 ov s nv kv wv) (F:Xl (at2 wb gb) w r t r0 r1 r2 t0 t1) (hok:Qz t s)
  {i:Int} (hi:InT t i) (Qnf:(t.at i).kids=[]) (hkd:(t.at i).kind=5) (hea:s.each=true) :
  Calls prog 222 #[.pointer (some ⟨wb,0,none⟩),.int .i64 i] w fun e w'=>e=.returned (.int .i64 (Jw r t s i (t.at i) []).1)∧AtW w wb gb r0 r1 r2 t0 t1 ov (Jw r t s i (t.at i) []).2 nv kv wv w':=by
 obtain⟨mi,rfl,hnd,nb,no,nc,A,kb,ko,kc,rfl,hl,hml,⟨c0,c1,c2,c3⟩,kl,klc,hA,W0,hW0,h0,F0,hk0,hbx,hkc,cw3,H0,HF0,HK0,HBX,HKC⟩:=h.nodeH F hi;have HOK:=Hh hok;have HI:=Hh hi;have hnl:(t.at (mi:Int)).kids.length=0:=by rw[Qnf];rfl
 have hx:Jw r t s (mi:Int) (t.at (mi:Int)) []=Ys r s (t.at (mi:Int)).text mi:=by
  unfold Jw;rw[Ng (by rw[hkd];decide)];rw[Ng (by rw[hkd];decide)];rw[Ng (by rw[hkd];decide)];rw[Ng (by rw[hkd];decide)];rw[Ps hkd]
 have HX:=Hh hx;clear hx;generalize Jw r t s (mi:Int) (t.at (mi:Int)) []=X at HX ⊢;have hl0:decide ((0:Int)<((t.at (mi:Int)).kids.length:Int))=false:=Df Om;have hl0':decide (0<(t.at (mi:Int)).kids.length)=false:=Df Om;have hl0'':¬ (0<(t.at (mi:Int)).kids.length):=Om
 have tk11:((t.at (mi:Int)).kind==11)=false:=by rw[hkd];rfl
 have tk5:((t.at (mi:Int)).kind==5)=true:=by rw[hkd];rfl
 have tk1:((t.at (mi:Int)).kind==1)=false:=by rw[hkd];rfl
 have tk2:((t.at (mi:Int)).kind==2)=false:=by rw[hkd];rfl
 have tk3:((t.at (mi:Int)).kind==3)=false:=by rw[hkd];rfl
 have tk4:((t.at (mi:Int)).kind==4)=false:=by rw[hkd];rfl
 have tk6:((t.at (mi:Int)).kind==6)=false:=by rw[hkd];rfl
 generalize hN:t.at (mi:Int)=n at *;obtain⟨z0,z1,z2,z3⟩:=hbx W0 (Kr _ _);have p8:W0.cell? ⟨wb,8,none⟩=some (.bool true):=hea▸h0.blk.cell 8 _ rfl;clear hea;clear hnl Qnf hkd hbx hkc hk0 F0 h0 F h hok hi hnd;go_enter func222,ntmps222;go_wp2_with fail;go_loopw [6,7] (fun u6 i wr=>i=.int .i64 0∧Hi (Q0 nob W0 wr)) (fun _ _ _=>0)
 case atStart=>exact⟨rfl,Hh Kz⟩
 case round =>
  obtain⟨rfl,HKR⟩:=hrel;obtain⟨wo,rfl⟩:∃wo:World,wo=wr:=⟨_,rfl⟩;obtain⟨x0,x1,x2,x3⟩:=HBX.o wo (HKR.o.ofNob _);have HR:=Hh (H0.o.nobk HKR.o);have HFR:=Hh (HF0.o.kept (HKR.o.ofNob _));have HKK:=Hh (HK0.o.trans (HKR.o.ofNob _));clear HKR;have Qs2:=Q85 HR.o HFR.o n.text mi;generalize Ys r s n.text mi=q at HX Qs2;go_wp2_with (go_at_call 231;refine Qs2.mono ?_;rintro e w2 ⟨rfl,hat⟩);go_returns;rw[HX.o];exact⟨rfl,hat.1,HKK.o.trans hat.2⟩
theorem Qja (h:SpR w wb gb r0 r1 r2 t0 t1 ov s nv kv wv) (F:Xl (at2 wb gb) w r t r0 r1 r2 t0 t1) (hok:Qz t s)
  {i:Int} (hi:InT t i) (Qnf:(t.at i).kids=[]) (hkd:(t.at i).kind=6) :
  Calls prog 222 #[.pointer (some ⟨wb,0,none⟩),.int .i64 i] w fun e w'=>e=.returned (.int .i64 (Jw r t s i (t.at i) []).1)∧AtW w wb gb r0 r1 r2 t0 t1 ov (Jw r t s i (t.at i) []).2 nv kv wv w':=by
 obtain⟨mi,rfl,hnd,nb,no,nc,A,kb,ko,kc,rfl,hl,hml,⟨c0,c1,c2,c3⟩,kl,klc,hA,W0,hW0,h0,F0,hk0,hbx,hkc,cw3,H0,HF0,HK0,HBX,HKC⟩:=h.nodeH F hi;have HOK:=Hh hok;have HI:=Hh hi;have hnl:(t.at (mi:Int)).kids.length=0:=by rw[Qnf];rfl
 have hx:Jw r t s (mi:Int) (t.at (mi:Int)) []=(if J2 r 2 (t.at (mi:Int)).text=0 then (0,s.fail 3 mi) else (J2 r 2 (t.at (mi:Int)).text,s)):=by
  unfold Jw;rw[Ng (by rw[hkd];decide)];rw[Ng (by rw[hkd];decide)];rw[Ng (by rw[hkd];decide)];rw[Ng (by rw[hkd];decide)];rw[Ng (by rw[hkd];decide)];rw[Ps hkd]
 have HX:=Hh hx;clear hx;generalize Jw r t s (mi:Int) (t.at (mi:Int)) []=X at HX ⊢;have hl0:decide ((0:Int)<((t.at (mi:Int)).kids.length:Int))=false:=Df Om;have hl0':decide (0<(t.at (mi:Int)).kids.length)=false:=Df Om;have hl0'':¬ (0<(t.at (mi:Int)).kids.length):=Om
 have tk11:((t.at (mi:Int)).kind==11)=false:=by rw[hkd];rfl
 have tk5:((t.at (mi:Int)).kind==5)=false:=by rw[hkd];rfl
 have tk1:((t.at (mi:Int)).kind==1)=false:=by rw[hkd];rfl
 have tk2:((t.at (mi:Int)).kind==2)=false:=by rw[hkd];rfl
 have tk3:((t.at (mi:Int)).kind==3)=false:=by rw[hkd];rfl
 have tk4:((t.at (mi:Int)).kind==4)=false:=by rw[hkd];rfl
 have tk6:((t.at (mi:Int)).kind==6)=true:=by rw[hkd];rfl
 generalize hN:t.at (mi:Int)=n at *;obtain⟨z0,z1,z2,z3⟩:=hbx W0 (Kr _ _);clear hnl Qnf hkd hbx hkc hk0 F0 h0 F h hok hi hnd;go_enter func222,ntmps222;go_wp2_with fail;go_loopw [6,7] (fun u6 i wr=>i=.int .i64 0∧Hi (Q0 nob W0 wr)) (fun _ _ _=>0)
 case atStart=>exact⟨rfl,Hh Kz⟩
 case round =>
  obtain⟨rfl,HKR⟩:=hrel;obtain⟨wo,rfl⟩:∃wo:World,wo=wr:=⟨_,rfl⟩;obtain⟨x0,x1,x2,x3⟩:=HBX.o wo (HKR.o.ofNob _);have HR:=Hh (H0.o.nobk HKR.o);have HFR:=Hh (HF0.o.kept (HKR.o.ofNob _));have HKK:=Hh (HK0.o.trans (HKR.o.ofNob _));clear HKR;have Qu6:=Zd HR.o HFR.o 2 n.text;generalize J2 r 2 n.text=q at HX Qu6;cases hq:(q==0) with
  |true =>
   have HQ:=Hh hq;go_wp2_with (first|(go_at_call 211;refine Qu6.mono ?_;rintro e w2 ⟨rfl,hk2⟩;have H2:=Hh (HR.o.nobk hk2))|(go_at_call 136;refine (Qw H2.o _ _).mono ?_;rintro e w3 ⟨rfl,hat⟩));go_returns;rw[HX.o,Ps (by simpa using HQ.o)];exact⟨rfl,hat.1,(HKK.o.trans (hk2.ofNob _)).trans hat.2⟩
  |false =>
   have HQ:=Hh hq;go_wp2_with (go_at_call 211;refine Qu6.mono ?_;rintro e w2 ⟨rfl,hk2⟩;have H2:=Hh (HR.o.nobk hk2));go_returns;rw[HX.o,Ng (by simpa using HQ.o)];exact⟨rfl,H2.o,HKK.o.trans (hk2.ofNob _)⟩
end
theorem Q3p {P:Program} {w:World} (base:Nat) (t ty e:TypeId) (i:TypeInfo) (size:Nat) (ht:P.underlying t=some (.slice e)) (hi:P.info? e=some i)
  (v:Value) (n:Nat) (xs:List Value) (Qnt:w.ownsRow base e size v n xs) (c:Nat) :
  (Builtin.append_ #[t,t] ty #[v,.slice none 0 c]).run P w=.ok v w:=by
 rcases Qnt.2 with ⟨rfl,rfl⟩|⟨g,cap,cur,rfl,_,_,hnc,_⟩
 ·simp[Builtin.append_,run_underlying ht,sizeOf,typeInfo,hi,Builtin.lenOf,Builtin.firstCells]
 ·simp[Builtin.append_,run_underlying ht,sizeOf,typeInfo,hi,Builtin.lenOf,Builtin.firstCells,hnc,storeCells]
section
variable {P:Program} {ops:Array Oper} {rest:List Oper} {o:Oper} {a:Act} {Q:Exit→Act→World→Prop} {K:Act→World→Prop} {E:Prop}
theorem Xf {w:World} (S:Nat→Prop) (s x:Operand) (t e:TypeId) (z:Value) (bytes:Nat)
  (ho:o.op=.call {callee:=.builtin .append,args:=#[s,x],argTypes:=#[t,t]})
  (ht:P.underlying t=some (.slice e)) (Qod:(P.info? e).map (fun i=>(i.zero,i.size,i.bytes))=some (some z,1,bytes)) (hz:z.cells.size=1)
  (v:Value) (xs ys:List Value) (hs:a.eval s=v) (A:Option Addr) (b q n c:Nat) (hx:a.eval x=.slice A n c) (hn:n=ys.length) (hA:0<ys.length→A=some ⟨b,q,none⟩)
  (hc:∀j u,ys[j]?=some u→w.cell? ⟨b,q+j,none⟩=some u) (h1:∀u∈ys,u.oneCell'=true)
  (HO:Qc S e w v xs) (HF:Jh S w) (hl:(xs.length+ys.length)*bytes≤140737488355328) (hl2:xs.length+ys.length≤140737488355328)
  (h:∀v1 w1,Qc S e w1 v1 (xs++ys)→Q0 (fun k=>v.ownBlock=some k) w w1→K (a.put o.dst v1) w1) :
  o.wp P a w K Q:=by
 subst hn;obtain⟨i0,hi,hzz⟩:=Option.map_eq_some_iff.1 Qod;simp only[Prod.mk.injEq] at hzz;obtain⟨hz0,hz1,hz2⟩:=hzz;cases A with
 |none =>
  have hy:ys=[]:=by
   cases ys with
   |nil=>rfl
   |cons y ys=>have:=hA Sm;cases this
  subst hy;have Qrg:=Q3p (P:=P) (w:=w) 0 t o.type e i0 1 ht hi v xs.length xs HO.1 c;unfold Oper.wp;simp only[List.length_nil] at hx;simp[execOp,ho,resolve,invoke,builtin,hs,hx,Qrg,Result.andThen];exact h v w (by simpa using HO) (Kr _ _)
 |some ad =>
  have Qob:∀j u,ys[j]?=some u→w.cell? (ad.add j)=some u:=by
   intro j u hj;have h0:0<ys.length:=by have:=(Gs hj).1;omega
   have e0:=hA h0;cases e0;have Qsl:(⟨b,q,none⟩: Addr).add j =⟨b,q+j,none⟩:=by unfold Addr.add;split<;>simp_all
   rw[Qsl];exact hc j u hj
  obtain⟨v1,w1,hr,Qnt,hg,_,hat⟩:=run_append_own_at (P:=P) w 0 t o.type e i0 z 1 bytes ht hi hz0 hz1 hz2 hz Om v xs.length xs HO.1 ad ys.length c ys Sm Qob h1 (by simp only[maxLen];omega) hl (Nat.zero_le _);unfold Oper.wp execOp;simp only[ho,resolve,invoke,builtin,Sem.run_bind,Sem.run_pure,Result.andThen_ok,List.map_toArray,List.map_cons,List.map_nil,hs,hx,hr]
  refine h v1 w1 ⟨by simpa using Qnt,fun k hk=>?_⟩ ((Kr _ w).grown hg (fun k hk=>.inl hk))
  rcases hat with e1|e1
  ·exact HO.2 k (e1▸hk)
  ·rw[e1] at hk;cases hk;exact HF _ (Nat.le_refl _)
def Q3k (b:Nat) (w:World):Nat→Prop:=fun k=>k=b∨w.heap.size≤k
theorem Y3 {w:World} (W0:World) (hW:Q0 nob W0 w) (s x:Operand) (t e:TypeId) (z:Value) (bytes:Nat)
  (ho:o.op=.call {callee:=.builtin .append,args:=#[s,x],argTypes:=#[t,t]})
  (ht:P.underlying t=some (.slice e)) (Qod:(P.info? e).map (fun i=>(i.zero,i.size,i.bytes))=some (some z,1,bytes)) (hz:z.cells.size=1)
  (bl:Nat) (ys:List Value) (hs:a.eval s=.slice (some ⟨bl,0,none⟩) 0 0) (Qsm:w.heap[bl]?=some (.cells #[] e (0,0))) (hb:W0.heap.size≤bl) (A:Option Addr) (b q n c:Nat) (hx:a.eval x=.slice A n c) (hn:n=ys.length) (hA:0<ys.length→A=some ⟨b,q,none⟩)
  (hc:∀j u,ys[j]?=some u→w.cell? ⟨b,q+j,none⟩=some u) (h1:∀u∈ys,u.oneCell'=true) (hl:ys.length*bytes≤140737488355328) (hl2:ys.length≤140737488355328)
  (h:∀v1 w1,Qc (Q3k bl w) e w1 v1 ys→Q0 (fun k=>k=bl) w w1→Q0 nob W0 w1→K (a.put o.dst v1) w1) :
  o.wp P a w K Q:=by
 have HO:Qc (Q3k bl w) e w (.slice (some ⟨bl,0,none⟩) 0 0) [] :=
  ⟨⟨Sm,.inr ⟨bl,0,#[],rfl,Nat.zero_le _,Qsm,Nat.le_refl _,by simp[maxLen],Sm,Sm⟩⟩,fun k hk=>by simp[Value.ownBlock] at hk;exact .inl hk.symm⟩
 refine Xf (Q3k bl w) s x t e z bytes ho ht Qod hz _ [] ys hs A b q n c hx hn hA hc h1 HO (fun k hk=>.inr hk) (by simpa using hl) (by simpa using hl2) fun v1 w1 ho1 hk1=>?_
 have hk2:Q0 (fun k=>k=bl) w w1:=hk1.mono fun k _ e=>by simp[Value.ownBlock] at e;exact e.symm
 exact h v1 w1 (by simpa using ho1) hk2 (hW.then_ hk2 fun k e=>.inr (by rw[e];exact hb))
theorem Q2f {w:World} (hgd:o.guard=none) (h:o.wp P a w K Q):if Region.wanted o (yielded ops a.tmps)=true then Oper.wp P o a w K Q else E:=by
 have hw:Region.wanted o (yielded ops a.tmps)=true:=by simp[Region.wanted,hgd]
 rw[Ps hw];exact h
theorem Yw {w:World} (hgd:o.guard=none) (h:∀K:Act→World→Prop,(∀b w,wpList P ops Q rest b w→K b w)→o.wp P a w K Q):wpList P ops Q (o::rest) a w :=
 wpList_plain hgd h
end
theorem Q65 {w:World} {b q:Nat} {xs:List ByteArray} (h:∀j x,xs[j]?=some x→w.cell? ⟨b,q+j,none⟩=some (.string x)):∀j u,(strs xs)[j]?=some u→w.cell? ⟨b,q+j,none⟩=some u:=by
 intro j u hj;simp only[strs,List.getElem?_map,Option.map_eq_some_iff] at hj;obtain⟨x,hx,rfl⟩:=hj;exact h j x hx
theorem Q2q {w:World} {b q:Nat} {xs:List Int} (h:∀j x,xs[j]?=some x→w.cell? ⟨b,q+j,none⟩=some (.int .i64 x)):∀j u,(Q5 xs)[j]?=some u→w.cell? ⟨b,q+j,none⟩=some u:=by
 intro j u hj;simp only[Q5,List.getElem?_map,Option.map_eq_some_iff] at hj;obtain⟨x,hx,rfl⟩:=hj;exact h j x hx
theorem Qbb {w:World} {b:Nat} {cs:List Value} {T:TypeId} (h:w.heap[b]?=some (.cells cs.toArray T (0,0))):∀j u,cs[j]?=some u→w.cell? ⟨b,0+j,none⟩=some u:=by
 intro j u hj;rw[Nat.zero_add];simp[World.cell?,h,hj]
theorem Q3z (xs:List ByteArray):∀u∈strs xs,u.oneCell'=true:=by intro u hu;simp[strs] at hu;obtain⟨x,_,rfl⟩:=hu;rfl
theorem Q44 (xs:List Int):∀u∈Q5 xs,u.oneCell'=true:=by intro u hu;simp[Q5] at hu;obtain⟨x,_,rfl⟩:=hu;rfl
theorem Jv {w W:World} {o:Obj} {b:Nat} (hW:W.heap=(w.alloc o).heap) (hb:b=w.heap.size):W.heap[b]?=some o:=by rw[hW,hb];exact heap_alloc_new _ _
theorem Q0k {w W:World} {o o2:Obj} {b:Nat} (hW:W.heap=((w.alloc o).alloc o2).heap) (hb:b=w.heap.size):W.heap[b]?=some o:=by rw[hW,hb];exact (Below.heap_alloc _ _ _ Sm).trans (heap_alloc_new _ _)
theorem Q3s {S:Nat→Prop} {w w1:World} (hk:Q0 S w w1) {b:Nat} {o:Obj} (h:w.heap[b]?=some o) (hn:¬ S b):w1.heap[b]?=some o:=(hk.block b (Array.getElem?_eq_some_iff.1 h).1 hn).trans h
theorem Q0z {S T:Nat→Prop} {w:World} {v:Value} {xs:List ByteArray} (h:Qc S 9 w v (strs xs)) (hS:∀k,S k→¬ T k) (hl:xs.length≤140737488355328):Qj T w fun w=>Q0g w v xs :=
 fun W hk=>(h.kept hk (fun k hk=>hS k (h.2 k hk))).strs hl
theorem Q0u {S T:Nat→Prop} {w:World} {v:Value} {xs:List Int} (h:Qc S 3 w v (Q5 xs)) (hS:∀k,S k→¬ T k) (hl:xs.length≤140737488355328):Qj T w fun w=>Qf w v xs :=
 fun W hk=>(h.kept hk (fun k hk=>hS k (h.2 k hk))).ints hl
def LF (s s':SS):Prop:=s'.last=s.last∧s'.fn=s.fn
theorem LF.refl (s:SS):LF s s:=⟨rfl,rfl⟩
theorem LF.trans {a b c:SS} (h:LF a b) (k:LF b c):LF a c:=⟨k.1.trans h.1,k.2.trans h.2⟩
theorem EqX.lf {s s':SS} (h:EqX s s'):LF s s':=⟨h.last,h.fn⟩
section
variable {t:Q1} {E:SS→Int→Int×SS} {W:SS→Int→SS} (hE:∀s i,EqX s (E s i).2) (hW:∀s i,LF s (W s i))
include hW
theorem LF.stmts (l:List Int) (s:SS):LF s (Zm W l s):=by
 unfold Zm
 induction l generalizing s with
 |nil=>exact LF.refl s
 |cons k ks ih =>
  rw[List.foldl_cons];refine LF.trans ?_ (ih _);split
  ·exact hW _ _
  ·exact LF.refl _
theorem LF.block (s:SS) (i:Int) (more:List ByteArray) (kinds:List Int):LF s (Jg t W s i more kinds):=by
 unfold Jg;split;· exact LF.refl _
 have h2:=LF.stmts hW (t.at i).kids {s with names:=s.names++more,kinds:=s.kinds++kinds};exact h2
theorem LF.blocks (l:List Int) (s:SS):LF s (Xx t W l s):=by
 unfold Xx
 induction l generalizing s with
 |nil=>exact LF.refl s
 |cons k ks ih=>rw[List.foldl_cons];exact LF.trans (LF.block hW _ _ _ _) (ih _)
theorem LF.each (r:Reg) (s:SS) (n:Qn):LF s (Q42 r t W s n):=by
 unfold Q42;dsimp only;have ha:=(EqX.eachGo r t ((t.at (kidAt n 0)).kids++(t.at (kidAt n 1)).kids) [] s).lf;split;· exact ha
 exact ha.trans (LF.block (t:=t) hW {(eachGo r t ((t.at (kidAt n 0)).kids++(t.at (kidAt n 1)).kids) [] s).2 with each:=true,inner:=true,withs:=(eachGo r t ((t.at (kidAt n 0)).kids++(t.at (kidAt n 1)).kids) [] s).1.take (t.at (kidAt n 0)).kids.length} (kidAt n 2) [] [])
theorem LF.hear (r:Reg) (s:SS) (i:Int) (n:Qn):LF s (Q41 r t W s i n):=by
 unfold Q41;dsimp only;split;· exact (EqX.fail _ _ _).lf
 split;· exact (EqX.fail _ _ _).lf
 exact LF.block (t:=t) hW {s with inner:=true} (kidAt n 1) [(t.at (kidAt n 0)).text] [J2 r 3 n.text]
include hE
theorem LF.branch (s:SS) (i:Int) (n:Qn) (want:Int):LF s (Y6 t E W s i n want):=by
 unfold Y6;dsimp only;have he:=(hE s (kidAt n 0)).lf;split;· exact he
 split;· exact he.trans (EqX.fail _ _ _).lf
 exact he.trans (LF.blocks hW _ _)
omit hW in
theorem LF.local_ (s:SS) (i:Int) (n:Qn):LF s (Q0d E s i n):=by
 unfold Q0d;dsimp only;have he:=(hE s (kidAt n 0)).lf;split;· exact he
 split
 ·split
  ·exact he.trans (EqX.fail _ _ _).lf
  ·exact he
 ·split;· exact he.trans (EqX.fail _ _ _).lf
  split;· exact he.trans (EqX.fail _ _ _).lf
  exact he
end
theorem LF.stmt (r:Reg) (t:Q1) (f:Nat):∀s i,LF s (Qq r t f s i):=by
 induction f with
 |zero=>exact fun s i=>LF.refl s
 |succ f ih =>
  intro s i;have hE:=EqX.expr r t f;unfold Qq;refine Qbp (P:=LF s) ?_ ((EqX.fail _ _ _).lf);refine X7 (P:=LF s) (LF.local_ hE s _ _) ?_;refine X7 (P:=LF s) ((EqX.plain hE _ _ _ _ _).lf) ?_;refine X7 (P:=LF s) ((EqX.plain hE _ _ _ _ _).lf) ?_;refine X7 (P:=LF s) ((EqX.plain hE _ _ _ _ _).lf) ?_;refine X7 (P:=LF s) (LF.branch hE ih _ _ _ _) ?_;refine X7 (P:=LF s) (LF.branch hE ih _ _ _ _) ?_;refine X7 (P:=LF s) (LF.each ih r s _) ?_;refine X7 (P:=LF s) (LF.hear ih r s _ _) ?_;refine X7 (P:=LF s) ((EqX.spawn hE _ _ _ _).lf) ?_;refine X7 (P:=LF s) (X7 (P:=LF s) ((EqX.fail _ _ _).lf) (LF.refl s)) ?_;exact X7 (P:=LF s) ((hE _ _).lf) (LF.refl s)
def topEnd (t:Q1) (i:Int) (n:Qn) (last:Int) (s3:SS):SS :=
 if s3.fn=false∨s3.code≠0 then s3
 else if last<0∨(t.at last).kind≠26 then s3.fail 5 i
 else if Z7 s3.kindOf (kidAt (t.at last) 0).toNat≠n.i then s3.fail 4 i else s3
def Q1r (r:Reg) (t:Q1) (i:Int) (n:Qn) (b:Int) (p:List ByteArray×List Int×SS):SS :=
 if p.2.2.code≠0 then p.2.2 else
 topEnd t i n ((t.at b).kids.getLast?.getD (-1)) (Jg t (Qq r t t.nodes.length) {p.2.2 with last:=(t.at b).kids.getLast?.getD (-1)} b p.1 p.2.1)
theorem Q8t (r:Reg) (t:Q1) (s:SS) (k:Nat) (i:Int) (hi:Z7 t.tops k=i):topS r t s k =
  (if (t.tops.take k).any (fun j=>decide ((t.at j).text=(t.at i).text)) then ({s with top:=(k:Int),names:=[],kinds:=[]}:SS).fail 2 i else
   Q1r r t i (t.at i) ((t.at i).kids.getLast?.getD 0) (Z4 t (t.at i).kids.dropLast [] [] {s with top:=(k:Int),names:=[],kinds:=[],fn:=(t.at i).kind==33})):=by
 unfold topS Q1r topEnd;rw[hi]
theorem Qz.topEnd {t:Q1} {s:SS} (h:Qz t s) (i:Int) (n:Qn) (last:Int):Qz t (topEnd t i n last s):=by
 unfold YtkgkafjachjafaaGreat.topEnd;split;· exact h
 split;· exact h.of (EqX.fail _ _ _)
 split;· exact h.of (EqX.fail _ _ _)
 exact h
theorem Qz.topS {t:Q1} (hK:Qk t) (Qoc:∀k∈t.tops,InT t k) (r:Reg) {s:SS} (h:Qz t s) {k:Nat} (hk:k<t.tops.length):Qz t (topS r t s k):=by
 obtain⟨i,hi⟩:=Q4 hk;have hii:=Qoc i (Mg hi);rw[Q8t r t s k i (by simp[Z7,hi])];have h1:Qz t {s with top:=(k:Int),names:=[],kinds:=[]}:=⟨h.ko,rfl,Sm,Sm,by show (0:Int)≤(k:Int)∧(k:Int)≤_;omega⟩;refine Qbp (P:=Qz t) (h1.of (EqX.fail _ _ _)) ?_;have h2:Qz t {s with top:=(k:Int),names:=[],kinds:=[],fn:=(t.at i).kind==33}:=⟨h1.ko,h1.nk,h1.nd,h1.sub,h1.top⟩;have hpl:∀x∈(t.at i).kids.dropLast,InT t x:=fun x hx=>hii.kid hK (List.dropLast_subset _ hx)
 have hp:=Qh2 t (t.at i).kids.dropLast [] [] {s with top:=(k:Int),names:=[],kinds:=[],fn:=(t.at i).kind==33} hpl rfl Sm Sm;have hpe:=EqX.params t (t.at i).kids.dropLast [] [] {s with top:=(k:Int),names:=[],kinds:=[],fn:=(t.at i).kind==33};generalize Z4 t (t.at i).kids.dropLast [] [] {s with top:=(k:Int),names:=[],kinds:=[],fn:=(t.at i).kind==33}=p at hp hpe;have h3:=h2.of hpe;unfold Q1r;split;· exact h3
 refine Qz.topEnd ?_ _ _ _;have h4:Qz t {p.2.2 with last:=(t.at ((t.at i).kids.getLast?.getD 0)).kids.getLast?.getD (-1)}:=⟨h3.ko,h3.nk,h3.nd,h3.sub,h3.top⟩;have hn4:p.2.2.names=[]:=hpe.names;refine Qz.block hK (Qz.stmt hK r t.nodes.length) h4 (hii.last hK) hp.1 ?_ hp.2.2
 show (p.2.2.names++p.1).Nodup
 rw[hn4,List.nil_append];exact hp.2.1
def Y5 (S:Nat→Prop) (e:TypeId) (m:Nat) (w:World) (v:Value) (n:Nat) (xs:List Value):Prop:=w.ownsRow 0 e m v n xs∧∀k,v.ownBlock=some k→S k
namespace Y5
variable {S S':Nat→Prop} {e:TypeId} {m n:Nat} {w w':World} {v:Value} {xs:List Value}
theorem nil (S:Nat→Prop) (e:TypeId) (m:Nat) (w:World):Y5 S e m w (.slice none 0 0) 0 []:=⟨⟨Sm,.inl ⟨rfl,rfl⟩⟩,fun k h=>by simp[Value.ownBlock] at h⟩
theorem mono (h:Y5 S e m w v n xs) (hs:∀k,S k→S' k):Y5 S' e m w v n xs:=⟨h.1,fun k hk=>hs k (h.2 k hk)⟩
theorem lt (h:Y5 S e m w v n xs) (k:Nat) (hk:v.ownBlock=some k):k<w.heap.size:=by
 rcases h.1.2 with ⟨rfl,_⟩|⟨g,cap,cur,rfl,hb,hh,_⟩
 ·simp[Value.ownBlock] at hk
 ·have:g=k:=by simpa[Value.ownBlock] using hk
  subst this;exact (Array.getElem?_eq_some_iff.1 hh).1
theorem same (h:Y5 S e m w v n xs) (hb:∀k,v.ownBlock=some k→w'.heap[k]?=w.heap[k]?):Y5 S e m w' v n xs:=by
 refine⟨⟨h.1.1,?_⟩,h.2⟩;rcases h.1.2 with h1|⟨g,cap,cur,rfl,h0,hh,r⟩
 ·exact .inl h1
 ·exact .inr ⟨g,cap,cur,rfl,h0,(hb g rfl).trans hh,r⟩
theorem kept (h:Y5 S e m w v n xs) (k:Q0 S' w w') (hn:∀k,v.ownBlock=some k→¬ S' k):Y5 S e m w' v n xs:=h.same fun b hb=>k.block b (h.lt b hb) (hn b hb)
theorem nobk (h:Y5 S e m w v n xs) (k:Q0 nob w w'):Y5 S e m w' v n xs:=h.kept k (fun _ _ h=>h)
theorem alloc (h:Y5 S e m w v n xs) (o:Obj):Y5 S e m (w.alloc o) v n xs:=h.same fun b hb=>Below.heap_alloc _ _ _ (h.lt b hb)
theorem lit0 (S:Nat→Prop) (e:TypeId) (m:Nat) {w:World} {b:Nat} (hS:S b) (Qsm:w.heap[b]?=some (.cells #[] e (0,0))):Y5 S e m w (.slice (some ⟨b,0,none⟩) 0 0) 0 [] :=
 ⟨⟨Sm,.inr ⟨b,0,#[],rfl,Nat.zero_le _,Qsm,Nat.le_refl _,by simp[maxLen],Sm,Sm⟩⟩,fun k hk=>by
  simp[Value.ownBlock] at hk;subst hk;exact hS⟩
theorem len (h:Y5 S e m w v n xs):∃A c,v=.slice A n c:=by
 rcases h.1.2 with ⟨rfl,h0⟩|⟨g,cap,cur,rfl,_⟩
 ·exact⟨none,0,by rw[h0]⟩
 ·exact⟨_,_,rfl⟩
theorem opened (h:Y5 S e m w v n xs):∃A b c,v=.slice A n c∧n≤9223372036854775807∧n≤c∧(0<n→A=some ⟨b,0,none⟩∧S b∧v.ownBlock=some b∧b<w.heap.size) ∧
  ∀j x,xs[j]?=some x→w.cell? ⟨b,j,none⟩=some x:=by
 rcases h.1.2 with ⟨rfl,h0⟩|⟨g,cap,cur,rfl,hb,hh,hnc,hcm,hcs,ht⟩
 ·have:xs=[]:=List.eq_nil_of_length_eq_zero (by rw[h.1.1,h0];simp)
  subst this;subst h0;exact⟨none,0,0,rfl,Sm,Sm,fun h=>absurd h Sm,fun j x hx=>by simp at hx⟩
 ·refine⟨_,g,cap,rfl,by simp only[maxLen] at hcm;omega,hnc,fun _=>⟨rfl,h.2 g rfl,rfl,(Array.getElem?_eq_some_iff.1 hh).1⟩,fun j x hx=>?_⟩
  have hj:j<xs.length:=(Gs hx).1
  have Qrs:cur[j]?=some x:=by
   rw[← ht,List.getElem?_take] at hx;simp at hx;exact hx.2
  simp[World.cell?,hh,Qrs]
end Y5
section
variable {P:Program} {ops:Array Oper} {rest:List Oper} {o:Oper} {a:Act} {Q:Exit→Act→World→Prop} {K:Act→World→Prop} {E:Prop}
theorem Q6e {w:World} (S:Nat→Prop) (s x:Operand) (t e:TypeId) (m:Nat) (z:Value) (bytes:Nat)
  (ho:o.op=.call {callee:=.builtin .append,args:=#[s,x],argTypes:=#[t,t]})
  (ht:P.underlying t=some (.slice e)) (Qod:(P.info? e).map (fun i=>(i.zero,i.size,i.bytes))=some (some z,m,bytes)) (hz:z.cells.size=m) (hm:0<m)
  (v:Value) (n cnt:Nat) (xs ys:List Value) (hs:a.eval s=v) (A:Option Addr) (b q c:Nat) (hx:a.eval x=.slice A cnt c) (hn:ys.length=cnt*m) (hA:0<cnt→A=some ⟨b,q,none⟩)
  (hc:∀j u,ys[j]?=some u→w.cell? ⟨b,q+j,none⟩=some u) (h1:∀u∈ys,u.oneCell'=true)
  (HO:Y5 S e m w v n xs) (HF:Jh S w) (hl:(n+cnt)*bytes≤140737488355328) (hl2:n+cnt≤140737488355328)
  (h:∀v1 w1,Y5 S e m w1 v1 (n+cnt) (xs++ys)→Q0 (fun k=>v.ownBlock=some k) w w1→(v1.ownBlock=v.ownBlock∨∃b,v1.ownBlock=some b∧w.heap.size≤b)→K (a.put o.dst v1) w1) :
  o.wp P a w K Q:=by
 obtain⟨i0,hi,hzz⟩:=Option.map_eq_some_iff.1 Qod;simp only[Prod.mk.injEq] at hzz;obtain⟨hz0,hz1,hz2⟩:=hzz;cases A with
 |none =>
  have hc0:cnt=0:=by
   cases cnt with
   |zero=>rfl
   |succ c=>have:=hA Om;cases this
  subst hc0;have hy:ys=[]:=List.eq_nil_of_length_eq_zero Om;subst hy;have Qrg:=Q3p (P:=P) (w:=w) 0 t o.type e i0 m ht hi v n xs HO.1 c;unfold Oper.wp;simp[execOp,ho,resolve,invoke,builtin,hs,hx,Qrg,Result.andThen];exact h v w (by simpa using HO) (Kr _ _) (.inl rfl)
 |some ad =>
  have Qob:∀j u,ys[j]?=some u→w.cell? (ad.add j)=some u:=by
   intro j u hj
   have h0:0<cnt:=by
    have:=(Gs hj).1;rcases Nat.eq_zero_or_pos cnt with h|h
    ·rw[h] at hn;omega
    ·exact h
   have e0:=hA h0;cases e0;have Qsl:(⟨b,q,none⟩: Addr).add j =⟨b,q+j,none⟩:=by unfold Addr.add;split<;>simp_all
   rw[Qsl];exact hc j u hj
  obtain⟨v1,w1,hr,Qnt,hg,_,hat⟩:=run_append_own_at (P:=P) w 0 t o.type e i0 z m bytes ht hi hz0 hz1 hz2 hz hm v n xs HO.1 ad cnt c ys hn Qob h1 (by simp only[maxLen];omega) hl (Nat.zero_le _);unfold Oper.wp execOp;simp only[ho,resolve,invoke,builtin,Sem.run_bind,Sem.run_pure,Result.andThen_ok,List.map_toArray,List.map_cons,List.map_nil,hs,hx,hr];have hat':v1.ownBlock=v.ownBlock∨∃b,v1.ownBlock=some b∧w.heap.size≤b:=hat.imp id (fun e=>⟨_,e,Nat.le_refl _⟩)
  refine h v1 w1 ⟨Qnt,fun k hk=>?_⟩ ((Kr _ w).grown hg (fun k hk=>.inl hk)) hat'
  rcases hat with e1|e1
  ·exact HO.2 k (e1▸hk)
  ·rw[e1] at hk;cases hk;exact HF _ (Nat.le_refl _)
end
section
variable {α:Type} {f:α→List Value} {m:Nat}
theorem Q9y (hf:∀x,(f x).length=m) (l:List α):(l.flatMap f).length=l.length*m:=by
 induction l with
 |nil=>simp
 |cons x xs ih=>rw[List.flatMap_cons,List.length_append,ih,hf,List.length_cons,Nat.add_mul];omega
theorem Q4x (hf:∀x,(f x).length=m) {l:List α} {i:Nat} {x:α} (hx:l[i]?=some x) {k:Nat} (hk:k<m):(l.flatMap f)[i*m+k]?=(f x)[k]?:=by
 induction l generalizing i with
 |nil=>simp at hx
 |cons y ys ih =>
  rw[List.flatMap_cons];cases i with
  |zero =>
   simp at hx;subst hx;rw[Nat.zero_mul,Nat.zero_add,List.getElem?_append_left (by rw[hf];exact hk)]
  |succ i =>
   rw[List.getElem?_append_right (by rw[hf,Nat.add_mul];omega),hf,show (i+1)*m+k-m=i*m+k by rw[Nat.add_mul];omega];exact ih (by simpa using hx)
theorem Qf3 (hf:∀x,(f x).length=m) (hm:0<m) {w:World} {b q:Nat} {l:List α} (h:∀i x k u,l[i]?=some x→(f x)[k]?=some u→w.cell? ⟨b,q+(i*m+k),none⟩=some u) :
  ∀j u,(l.flatMap f)[j]?=some u→w.cell? ⟨b,q+j,none⟩=some u:=by
 intro j u hj;have hlt:=(Gs hj).1;rw[Q9y hf] at hlt;have hi:j / m<l.length:=(Nat.div_lt_iff_lt_mul hm).2 hlt;obtain⟨x,hx⟩:=Q4 hi;have hk:j % m<m:=Nat.mod_lt _ hm;have e:j / m*m+j % m=j:=Nat.div_add_mod' j m;have h2:=Q4x hf hx hk;rw[e,hj] at h2;have:=h _ _ _ _ hx h2.symm
 rwa [e] at this
end
def Q7s (d:Zt):List Value:=[.string d.name,.int .i64 d.kind]
theorem Q4b (d:Zt):(Q7s d).length=2:=rfl
def decls (ds:List Zt):List Value:=ds.flatMap Q7s
theorem Q7p (ds:List Zt):∀u∈decls ds,u.oneCell'=true:=by
 intro u hu;simp only[decls,List.mem_flatMap] at hu;obtain⟨d,_,hd⟩:=hu;simp[Q7s] at hd;rcases hd with rfl|rfl<;>rfl
theorem Q7j (a b:List Zt):decls a++decls b=decls (a++b):=by simp[decls]
theorem Q5s (ds:List Zt):(decls ds).length=ds.length*2:=Q9y Q4b ds
theorem Q4w {w:World} {b q:Nat} {ds:List Zt} (h:∀j x,ds[j]?=some x→w.cell? ⟨b,q+j*2,none⟩=some (.string x.name)∧w.cell? ⟨b,q+j*2+1,none⟩=some (.int .i64 x.kind)) :
  ∀j u,(decls ds)[j]?=some u→w.cell? ⟨b,q+j,none⟩=some u :=
 Qf3 Q4b Om fun i x k u hx hk=>by
  match k,hk with
  |0,hk=>simp[Q7s] at hk;subst hk;exact (h i x hx).1
  |1,hk=>simp[Q7s] at hk;subst hk;rw[← Nat.add_assoc];exact (h i x hx).2
  |k+2,hk=>simp[Q7s] at hk
theorem Q6a {w:World} {b:Nat} {ds:List Zt} (h:∀j u,(decls ds)[j]?=some u→w.cell? ⟨b,j,none⟩=some u) {j:Nat} {x:Zt} (hx:ds[j]?=some x) :
  w.cell? ⟨b,j*2,none⟩=some (.string x.name)∧w.cell? ⟨b,j*2+1,none⟩=some (.int .i64 x.kind) :=
 ⟨h _ _ ((Q4x Q4b hx (k:=0) Om).trans rfl),h _ _ ((Q4x Q4b hx (k:=1) Om).trans rfl)⟩
end Go.Proofs.YtkgkafjachjafaaGreat
