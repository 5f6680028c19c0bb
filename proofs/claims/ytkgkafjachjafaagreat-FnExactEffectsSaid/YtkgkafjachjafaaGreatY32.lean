/- Part 32 of y_holds; no condition. -/
import Derived.Test.YtkgkafjachjafaaGreatY26
set_option linter.unusedVariables false
set_option maxHeartbeats 8000000
set_option maxRecDepth 100000
open Go Go.RowKit
namespace Go.Proofs.YtkgkafjachjafaaGreat
open Tryz
section
variable {w:World} {wb gb:Nat} {r0 r1 r2 t0 t1 ov:Value} {s:SS} {nv kv wv:Value} {r:Reg} {t:Q1} {E:SS→Int→Int×SS} {f:Nat}
theorem Qjt (hE:Q3d r t f E) (hQ:∀s i,EqX s (E s i).2) (h:SpR w wb gb r0 r1 r2 t0 t1 ov s nv kv wv) (F:Xl (at2 wb gb) w r t r0 r1 r2 t0 t1) (hok:Qz t s) (hK:Qk t)
  {i:Int} (hi:InT t i) (hif:i≤f) (hkd:(t.at i).kind=9) (hex:∀k∈(t.at i).kids,Qu (t.at k).kind=true) (Qnm:1≤(t.at i).kids.length) (hsm:(t.at i).kids.length≤1048576) (h00:s.code=0) :
  Calls prog 222 #[.pointer (some ⟨wb,0,none⟩),.int .i64 i] w fun e w'=>e=.returned (.int .i64 (Jp r t E i (t.at i) [] (t.at i).kids s).1)∧AtW w wb gb r0 r1 r2 t0 t1 ov (Jp r t E i (t.at i) [] (t.at i).kids s).2 nv kv wv w':=by
 obtain⟨mi,rfl,hnd,nb,no,nc,A,kb,ko,kc,rfl,hl,hml,⟨c0,c1,c2,c3⟩,kl,klc,hA,W0,hW0,h0,F0,hk0,hbx,hkc,cw3,H0,HF0,HK0,HBX,HKC⟩:=h.nodeH F hi;have HOK:=Hh hok;have HI:=Hh hi;obtain⟨X,hx⟩:∃X,X=Jp r t E (mi:Int) (t.at (mi:Int)) [] (t.at (mi:Int)).kids s:=⟨_,rfl⟩;have HX:=Hh hx;rw[← hx];clear hx;have tk11:((t.at (mi:Int)).kind==11)=false:=by rw[hkd];rfl
 have tk5:((t.at (mi:Int)).kind==5)=false:=by rw[hkd];rfl
 have tk1:((t.at (mi:Int)).kind==1)=false:=by rw[hkd];rfl
 have tk2:((t.at (mi:Int)).kind==2)=false:=by rw[hkd];rfl
 have tk3:((t.at (mi:Int)).kind==3)=false:=by rw[hkd];rfl
 have tk4:((t.at (mi:Int)).kind==4)=false:=by rw[hkd];rfl
 have tk6:((t.at (mi:Int)).kind==6)=false:=by rw[hkd];rfl
 have tk7:((t.at (mi:Int)).kind==7)=false:=by rw[hkd];rfl
 have tk8:((t.at (mi:Int)).kind==8)=false:=by rw[hkd];rfl
 have tk9:((t.at (mi:Int)).kind==9)=true:=by rw[hkd];rfl
 obtain⟨z0,z1,z2,z3⟩:=hbx W0 (Kr _ _);have HKD:=Hh hkd;have HLO:=Hh Qnm;have HSM:=Hh hsm;have HIF:=Hh hif;have HEX:Hi (∀k∈(t.at (mi:Int)).kids,InT t k∧k<f∧Qu (t.at k).kind=true):=Hh fun k hk=>⟨hi.kid hK hk,by have:=(hK.mem hi hk).2;omega,hex k hk⟩
 have HKO:=Hh hK;have HE:=Hh hE;have HQ:=Hh hQ;have HA:=Hh hA;have hwl:=h0.wl;have hgl:=h0.gl;clear hkd hbx hkc hk0 F0 h0 F h hok hi hnd hex Qnm hsm hif hK hA hE hQ;generalize hN:t.at (mi:Int)=n at *;have HNN:=Hh hN;clear hN;go_enter func222,ntmps222;go_wp2_with fail;go_loopw [6,7] (fun u6 ci wr=>∃(j:Nat) (z:SS) (ks:List Int),j≤n.kids.length∧ci=.int .i64 j∧Hi (ks.length=j∧z.code=0∧EqX s z∧Qc (Q6 W0.heap.size) 3 wr u6 (Q5 ks)∧AtW W0 wb gb r0 r1 r2 (.slice (some ⟨nb,no,none⟩) t.nodes.length nc) t1 ov z nv kv wv wr∧X=Jp r t E mi n ks (n.kids.drop j) z)) (fun _ ci _=>n.kids.length-(intOf ci).toNat)
 case atStart=>exact⟨0,s,[],Nat.zero_le _,rfl,Hh ⟨rfl,h00,EqX.refl s,Yp _,⟨H0.o.nobk Kz,Kz⟩,HX.o⟩⟩
 case round =>
  obtain⟨j,z,ks,hj,rfl,HR⟩:=hrel;obtain⟨wo,rfl⟩:∃wo:World,wo=wr:=⟨_,rfl⟩;obtain⟨x0,x1,x2,x3⟩:=HBX.o wo HR.o.2.2.2.2.1.2;obtain⟨uA,uc,rfl⟩:=HR.o.2.2.2.1.lenI
  by_cases hlt:j<n.kids.length
  ·obtain⟨k,hk⟩:=Q4 hlt
   obtain⟨hki,hkf,hke⟩:=HEX.o k (Mg hk);obtain rfl:=HA.o Om;have e0:=HKC.o j k hk wo HR.o.2.2.2.2.1.2;have hjn:(j:Int)<(n.kids.length:Int):=Om
   have Qnh:=Hh (HE.o wo wb gb _ _ _ _ _ _ z nv kv wv k HR.o.2.2.2.2.1.1 (HF0.o.kept HR.o.2.2.2.2.1.2) (HOK.o.of HR.o.2.2.1) hki hkf hke);have HXJ:Hi (X=(if (E z k).2.code≠0 then (0,(E z k).2) else Jp r t E mi n (ks++[(E z k).1]) (n.kids.drop (j+1)) (E z k).2)):=Hh (by rw[HR.o.2.2.2.2.2,Qh hk,Q1s]);have Qnx:=Hh (HR.o.2.2.1.trans (HQ.o z k));have Qo2:=Hh HR.o.2.2.2.1;have HKR:=Hh HR.o.2.2.2.2.1.2;have Qt8:W0.heap.size≤wo.heap.size:=HKR.o.size;have Qpm:Hi (ks.length=j):=Hh HR.o.1;have hns:∀q,Q6 W0.heap.size q→¬ at2 wb gb q:=fun q hq e=>by have:W0.heap.size≤q:=hq;rcases e with e|e<;>omega
   have HNS:=Hh hns;have Qos:Hi (ks.length≤1048576):=Hh (by have:=HSM.o;have:=Qpm.o;omega);clear hk hki hkf hke hns HR;generalize E z k=q at Qnh HXJ Qnx;obtain⟨k1,z1⟩:=q;dsimp only at Qnh HXJ Qnx;cases hc:(z1.code != 0) with
   |true =>
    have HC:=Hh hc;go_wp2_with (first|(go_at_call 212;refine Qnh.o.mono ?_;rintro e w2 ⟨rfl,Qnl⟩;have H2:=Hh Qnl.1;have HK2:=Hh (HKR.o.trans Qnl.2);have Qno:=Hh (Qo2.o.kept Qnl.2 (fun q hq=>HNS.o q (Qo2.o.2 q hq)));have Qoa:wo.heap.size≤w2.heap.size:=Qnl.2.size;clear Qnl)|(at_builtin;refine Qt (Q6 W0.heap.size) rfl _ _ 26 3 (.int .i64 0) 8 rfl underlying26 Kf rfl (.slice uA ks.length uc) (Q5 ks) (.int .i64 k1) rfl rfl Sm rfl Qno.o (fun q hq=>by show W0.heap.size≤q;omega) (by have:=Qos.o;simp[Q5];omega) (by have:=Qos.o;simp[Q5];omega) ?_;intro nv1 w5 Qnk hk5 Qnp;have HK5:=Hh (Q16 HK2.o hk5 (fun q hq=>Qno.o.2 q hq));have H5:=Hh (H2.o.row hk5 (fun q hq=>HNS.o q (Qno.o.2 q hq)) H0.o HK5.o Qnx.o);have HO5:=Hh Qnk;have pc5:w5.cell? ⟨wb,13,none⟩=some (.int .i64 z1.code):=H5.o.blk.cell 13 _ rfl;clear Qnk hk5 Qnp));go_returns;rw[HXJ.o,Ps (by simpa using HC.o)];exact⟨rfl,H5.o,HK0.o.trans HK5.o⟩
   |false =>
    have HC:=Hh hc;go_wp2_with (first|(go_at_call 212;refine Qnh.o.mono ?_;rintro e w2 ⟨rfl,Qnl⟩;have H2:=Hh Qnl.1;have HK2:=Hh (HKR.o.trans Qnl.2);have Qno:=Hh (Qo2.o.kept Qnl.2 (fun q hq=>HNS.o q (Qo2.o.2 q hq)));have Qoa:wo.heap.size≤w2.heap.size:=Qnl.2.size;clear Qnl)|(at_builtin;refine Qt (Q6 W0.heap.size) rfl _ _ 26 3 (.int .i64 0) 8 rfl underlying26 Kf rfl (.slice uA ks.length uc) (Q5 ks) (.int .i64 k1) rfl rfl Sm rfl Qno.o (fun q hq=>by show W0.heap.size≤q;omega) (by have:=Qos.o;simp[Q5];omega) (by have:=Qos.o;simp[Q5];omega) ?_;intro nv1 w5 Qnk hk5 Qnp;have HK5:=Hh (Q16 HK2.o hk5 (fun q hq=>Qno.o.2 q hq));have H5:=Hh (H2.o.row hk5 (fun q hq=>HNS.o q (Qno.o.2 q hq)) H0.o HK5.o Qnx.o);have HO5:=Hh Qnk;have pc5:w5.cell? ⟨wb,13,none⟩=some (.int .i64 z1.code):=H5.o.blk.cell 13 _ rfl;clear Qnk hk5 Qnp));go_round
    case rel=>exact⟨j+1,z1,ks++[k1],Om,Gm,Hh ⟨by have:=Qpm.o;simp;omega,by simpa using HC.o,Qnx.o,by have:=HO5.o;simpa[Q5] using this,⟨H5.o,HK5.o⟩,by rw[HXJ.o,Ng (by simpa using HC.o)]⟩⟩
    case measure=>exact Me
  ·have hje:j=n.kids.length:=Om
   have Qpe:decide (j<n.kids.length)=false:=Df hlt;have Qqk:n.kids.length≤j:=Om
   have HXE:Hi (X=Jw r t z mi n ks):=Hh (by rw[HR.o.2.2.2.2.2,Dn Om];exact Q19 HR.o.2.1);have HKE:Hi (ks.length=n.kids.length):=Hh (by rw[HR.o.1,hje]);have Qnx:=Hh (HOK.o.of HR.o.2.2.1);have Qo2:=Hh HR.o.2.2.2.1;have HAT:=Hh HR.o.2.2.2.2.1;clear HR hje hlt;obtain⟨k0,hk0⟩:=Q4 (xs:=ks) (j:=0) (by have:=HKE.o;have:=HLO.o;omega);have hA2:=Qo2.o.openI;obtain⟨A3,g,c3',e3,_,_,hA3,hc3⟩:=hA2;injection e3 with e31 _ e33
   obtain⟨e41,hgS,_⟩:=hA3 (by have:=HKE.o;have:=HLO.o;omega);rw[e41] at e31;subst e31;have r0':=(hc3 0 k0 hk0).1;have hp0:0<ks.length:=by have:=HKE.o;have:=HLO.o;omega
   have Qvw:(0:Int)<(ks.length:Int):=Om
   have HXC:Hi (X=(if (J6 n.i (Ja k0) 0).2=0 then ((J6 n.i (Ja k0) 0).1,z) else (0,z.fail 4 mi))):=Hh (by
    have g0:Z7 ks 0=k0:=by simp[Z7,hk0]
    rw[HXE.o];unfold Jw;rw[Ng (by rw[HKD.o];decide)];rw[Ng (by rw[HKD.o];decide)];rw[Ng (by rw[HKD.o];decide)];rw[Ng (by rw[HKD.o];decide)];rw[Ng (by rw[HKD.o];decide)];rw[Ng (by rw[HKD.o];decide)];rw[Ng (by rw[HKD.o];decide)];rw[Ng (by rw[HKD.o];decide)];rw[Ps HKD.o,g0])
   have HOP:=Hh (fun w=>Qcm n.i (Ja k0) 0 w);generalize J6 n.i (Ja k0) 0=P at HXC HOP;obtain⟨p1,p2⟩:=P;dsimp only at HXC;clear hc3 e33 hA3 e41 hgS hk0;have Qri:=Hh HAT.o.1;have HKT:=Hh (HK0.o.trans HAT.o.2);clear Qo2;have q2':∀W,Q0 nob wo W→W.cell? ⟨w.heap.size,2,none⟩=some (.int .i64 n.i):=fun W hk=>hk.cell (fun h=>h) x2
   have q0':∀W,Q0 nob wo W→W.cell? ⟨g,0,none⟩=some (.int .i64 k0):=fun W hk=>hk.cell (fun h=>h) r0'
   have hr0:Q0 nob wo wo:=Kr _ _;go_upto_region 46 with fail
   go_cut [14,15] (fun u14 u15 wx=>∃(p:Nat) (i2:Int) (a2 b2:Nat),u14=.pointer (some ⟨p,0,none⟩)∧u15=.int .i64 p2∧Blk wx p [.int .i64 p1,.int .i64 i2,.float .f64 a2,.float .f64 b2] 106∧Q0 nob wo wx)
   case first =>
    go_region_held3 (fun W=>Q0 nob wo W) (first|assumption|exact hr0.drew|exact Kd ‹_›|exact Ka (Ku ‹_›) _|exact Ka ‹_› _|exact Kt ‹_› ‹_›|(refine Q0.setCell (Q0.setCell (Q0.setCell (Q0.setCell ?_ (Or.inr (by first|exact Nat.le_refl _|exact Qpn.size|exact Qq5.size|exact Qql.size)) _) (Or.inr (by first|exact Nat.le_refl _|exact Qpn.size|exact Qq5.size|exact Qql.size)) _) (Or.inr (by first|exact Nat.le_refl _|exact Qpn.size|exact Qq5.size|exact Qql.size)) _) (Or.inr (by first|exact Nat.le_refl _|exact Qpn.size|exact Qq5.size|exact Qql.size)) _;first|assumption|exact Kt ((Kr nob _).alloc _) (Ku ‹_›)|exact Kt ‹_› ‹_›)) ((first|(go_at_call 233;refine (Q4g _ _).mono ?_;rintro e w1 ⟨he,hk1⟩;rw[Q2h] at he;subst he;(try have Qpn:Q0 nob wo w1:=Kt ‹_› hk1);dsimp only;(try (first|(have bw1:Blk w1 _ [.int .i64 0,.int .i64 0,.float .f64 0,.float .f64 0] 106:=Blk.kept (Blk.new_of _ _ _ rfl) (Ku hk1) id;have zw10:=bw1.cell 0 _ rfl;have zw11:=bw1.cell 1 _ rfl;have zw12:=bw1.cell 2 _ rfl;have zw13:=bw1.cell 3 _ rfl;have zw14:=bw1.free 0;have zw15:=bw1.free 1;have zw16:=bw1.free 2;have zw17:=bw1.free 3)|(have bw1:Blk w1 _ [.int .i64 0,.int .i64 0,.float .f64 0,.float .f64 0] 106:=Blk.kept (Blk.new_of _ _ _ rfl) hk1 id;have zw10:=bw1.cell 0 _ rfl;have zw11:=bw1.cell 1 _ rfl;have zw12:=bw1.cell 2 _ rfl;have zw13:=bw1.cell 3 _ rfl;have zw14:=bw1.free 0;have zw15:=bw1.free 1;have zw16:=bw1.free 2;have zw17:=bw1.free 3))))|(go_at_call 109;refine (HOP.o _).mono ?_;rintro e w2 ⟨i2,a2,b2,he,hk2⟩;dsimp only at he;subst he;(try have Qq5:Q0 nob wo w2:=Kt ‹_› hk2);dsimp only;(try (first|(have bw2:Blk w2 _ [.int .i64 0,.int .i64 0,.float .f64 0,.float .f64 0] 106:=Blk.kept (Blk.new_of _ _ _ rfl) (Ku hk2) id;have zw20:=bw2.cell 0 _ rfl;have zw21:=bw2.cell 1 _ rfl;have zw22:=bw2.cell 2 _ rfl;have zw23:=bw2.cell 3 _ rfl;have zw24:=bw2.free 0;have zw25:=bw2.free 1;have zw26:=bw2.free 2;have zw27:=bw2.free 3)|(have bw2:Blk w2 _ [.int .i64 0,.int .i64 0,.float .f64 0,.float .f64 0] 106:=Blk.kept (Blk.new_of _ _ _ rfl) hk2 id;have zw20:=bw2.cell 0 _ rfl;have zw21:=bw2.cell 1 _ rfl;have zw22:=bw2.cell 2 _ rfl;have zw23:=bw2.cell 3 _ rfl;have zw24:=bw2.free 0;have zw25:=bw2.free 1;have zw26:=bw2.free 2;have zw27:=bw2.free 3)|(have bw2:Blk w2 _ [.int .i64 0,.int .i64 0,.float .f64 0,.float .f64 0] 106:=Blk.kept bw1 (Ku hk2) id;clear bw1;have zw20:=bw2.cell 0 _ rfl;have zw21:=bw2.cell 1 _ rfl;have zw22:=bw2.cell 2 _ rfl;have zw23:=bw2.cell 3 _ rfl;have zw24:=bw2.free 0;have zw25:=bw2.free 1;have zw26:=bw2.free 2;have zw27:=bw2.free 3)|(have bw2:Blk w2 _ [.int .i64 0,.int .i64 0,.float .f64 0,.float .f64 0] 106:=Blk.kept bw1 hk2 id;clear bw1;have zw20:=bw2.cell 0 _ rfl;have zw21:=bw2.cell 1 _ rfl;have zw22:=bw2.cell 2 _ rfl;have zw23:=bw2.cell 3 _ rfl;have zw24:=bw2.free 0;have zw25:=bw2.free 1;have zw26:=bw2.free 2;have zw27:=bw2.free 3))))))
    all_goals go_wp2_with fail
    all_goals go_meet
    all_goals first|exact⟨_,_,_,_,rfl,rfl,(((bw2.set 0 _).set 1 _).set 2 _).set 3 _,by assumption⟩|exact⟨_,_,_,_,rfl,rfl,Blk.new_of _ _ _ rfl,by assumption⟩
   case rest =>
    obtain⟨p,i2,a2,b2,rfl,rfl,hb,hkx⟩:=hcut;have e0:=hb.cell 0 _ rfl;have HB:=Hh hb;have HKX:=Hh hkx;have H2:=Hh (Qri.o.nobk hkx);clear hb hkx q0' q2' hr0;cases hp2:(p2 != 0) with
    |true =>
     have HP2:=Hh hp2;have HXX:Hi (X=(0,z.fail 4 mi)):=Hh (by rw[HXC.o,Ng (by simpa using HP2.o)]);go_wp2_with (go_at_call 136;refine (Qw H2.o _ _).mono ?_;rintro e w3 ⟨rfl,hat⟩);go_returns;rw[HXX.o];exact⟨rfl,hat.1,(HKT.o.trans (HKX.o.ofNob _)).trans hat.2⟩
    |false =>
     have HP2:=Hh hp2;have HXX:Hi (X=(p1,z)):=Hh (by rw[HXC.o,Ps (by simpa using HP2.o)]);go_wp2_with fail;go_returns;rw[HXX.o];exact⟨rfl,H2.o,HKT.o.trans (HKX.o.ofNob _)⟩
end
end Go.Proofs.YtkgkafjachjafaaGreat
