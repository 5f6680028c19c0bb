/- Part 26 of y_holds; no condition. -/
import Derived.Test.YtkgkafjachjafaaGreatY17
import Derived.Test.YtkgkafjachjafaaGreatY18
import Derived.Test.YtkgkafjachjafaaGreatY20
set_option linter.unusedVariables false
set_option maxHeartbeats 8000000
set_option maxRecDepth 100000
open Go Go.RowKit
namespace Go.Proofs.YtkgkafjachjafaaGreat
open Tryz
def Jp (r:Reg) (t:Q1) (E:SS→Int→Int×SS) (i:Int) (n:Qn) (ks l:List Int) (z:SS):Int×SS :=
 if (Q1f E l z).2.code≠0 then (0,(Q1f E l z).2) else Jw r t (Q1f E l z).2 i n (ks++(Q1f E l z).1)
theorem Q1s {r:Reg} {t:Q1} {E:SS→Int→Int×SS} {i:Int} {n:Qn} {ks l:List Int} {z:SS} {k:Int} :
  Jp r t E i n ks (k::l) z=(if (E z k).2.code≠0 then (0,(E z k).2) else Jp r t E i n (ks++[(E z k).1]) l (E z k).2):=by
 unfold Jp;simp only[Q1f]
 by_cases h:(E z k).2.code≠0
 ·simp only[Ps h]
 ·simp only[Ng h,List.append_assoc,List.singleton_append]
theorem Q19 {r:Reg} {t:Q1} {E:SS→Int→Int×SS} {i:Int} {n:Qn} {ks:List Int} {z:SS} (h:z.code=0):Jp r t E i n ks [] z=Jw r t z i n ks:=by
 unfold Jp;simp[Q1f,h]
theorem Yp (w:World):Qc (Q6 w.heap.size) 3 (w.alloc (.cells #[] 3 (0,0))) (.slice (some ⟨w.heap.size,0,none⟩) 0 0) (Q5 []):=by
 have:=Qc.lit (Q6 w.heap.size) 3 w [] (Nat.le_refl _) Sm rfl (n:=0) (c:=0) rfl rfl;simpa[Q5] using this
theorem Q16 {wb gb:Nat} {w0 w w1:World} {S:Nat→Prop} (h:Q0 (at2 wb gb) w0 w) (k:Q0 S w w1) (hs:∀q,S q→Q6 w0.heap.size q):Q0 (at2 wb gb) w0 w1 :=
 h.then_ k (fun q hq=>Or.inr (hs q hq))
theorem SpR.row {w0 w w1:World} {wb gb:Nat} {r0 r1 r2 t0 t1 ov:Value} {s s0:SS} {nv kv wv:Value} {S:Nat→Prop} (h:SpR w wb gb r0 r1 r2 t0 t1 ov s nv kv wv) (k:Q0 S w w1) (hs:∀q,S q→¬ at2 wb gb q)
  (h0:SpR w0 wb gb r0 r1 r2 t0 t1 ov s0 nv kv wv) (k0:Q0 (at2 wb gb) w0 w1) (e:EqX s0 s):SpR w1 wb gb r0 r1 r2 t0 t1 ov s nv kv wv :=
 ⟨h.blk.kept k (fun hq=>hs _ hq (Or.inl rfl)),h.ne,Nat.lt_of_lt_of_le h.gl k.size,h.o.kept k (fun q hq hS=>hs q hS (Or.inr (h.o.2 q hq))),
  by rw[e.names];exact h0.n.kept k0,by rw[e.kinds];exact h0.k.kept k0,by rw[e.withs];exact h0.h.kept k0⟩
theorem Q9q (k:Int):∃c,Q23 k=c∧((k==2)=true∧c=0∨(k==2)=false∧(k==3)=true∧c=0∨(k==2)=false∧(k==3)=false∧c=1):=by
 unfold Q23
 by_cases h2:k=2
 ·exact⟨0,by rw[Ps (.inl h2)],.inl ⟨by simpa using h2,rfl⟩⟩
 by_cases h3:k=3
 ·exact⟨0,by rw[Ps (.inr h3)],.inr (.inl ⟨by simpa using h2,by simpa using h3,rfl⟩)⟩
 exact⟨1,by rw[Ng Om],.inr (.inr ⟨by simpa using h2,by simpa using h3,rfl⟩)⟩
section
variable {w:World} {wb gb:Nat} {r0 r1 r2 t0 t1 ov:Value} {s:SS} {nv kv wv:Value} {r:Reg} {t:Q1} {E:SS→Int→Int×SS} {f:Nat}
theorem Qkg (hE:Q3d r t f E) (hQ:∀s i,EqX s (E s i).2) (h:SpR w wb gb r0 r1 r2 t0 t1 ov s nv kv wv) (F:Xl (at2 wb gb) w r t r0 r1 r2 t0 t1) (hok:Qz t s) (hK:Qk t) (Qoc:∀k∈t.tops,InT t k)
  {i:Int} (hi:InT t i) (hif:i≤f) (hkd:(t.at i).kind=7) (hex:∀k∈(t.at i).kids,Qu (t.at k).kind=true) (Qnm:0≤(t.at i).kids.length) (hsm:(t.at i).kids.length≤1048576) (h00:s.code=0) :
  Calls prog 222 #[.pointer (some ⟨wb,0,none⟩),.int .i64 i] w fun e w'=>e=.returned (.int .i64 (Jp r t E i (t.at i) [] (t.at i).kids s).1)∧AtW w wb gb r0 r1 r2 t0 t1 ov (Jp r t E i (t.at i) [] (t.at i).kids s).2 nv kv wv w':=by
 obtain⟨mi,rfl,hnd,nb,no,nc,A,kb,ko,kc,rfl,hl,hml,⟨c0,c1,c2,c3⟩,kl,klc,hA,W0,hW0,h0,F0,hk0,hbx,hkc,cw3,H0,HF0,HK0,HBX,HKC⟩:=h.nodeH F hi;have HOK:=Hh hok;have HI:=Hh hi;obtain⟨X,hx⟩:∃X,X=Jp r t E (mi:Int) (t.at (mi:Int)) [] (t.at (mi:Int)).kids s:=⟨_,rfl⟩;have HX:=Hh hx;rw[← hx];clear hx;have tk11:((t.at (mi:Int)).kind==11)=false:=by rw[hkd];rfl
 have tk5:((t.at (mi:Int)).kind==5)=false:=by rw[hkd];rfl
 have tk1:((t.at (mi:Int)).kind==1)=false:=by rw[hkd];rfl
 have tk2:((t.at (mi:Int)).kind==2)=false:=by rw[hkd];rfl
 have tk3:((t.at (mi:Int)).kind==3)=false:=by rw[hkd];rfl
 have tk4:((t.at (mi:Int)).kind==4)=false:=by rw[hkd];rfl
 have tk6:((t.at (mi:Int)).kind==6)=false:=by rw[hkd];rfl
 have tk7:((t.at (mi:Int)).kind==7)=true:=by rw[hkd];rfl
 obtain⟨z0,z1,z2,z3⟩:=hbx W0 (Kr _ _);have HKD:=Hh hkd;have HLO:=Hh Qnm;have HSM:=Hh hsm;have HIF:=Hh hif;have HEX:Hi (∀k∈(t.at (mi:Int)).kids,InT t k∧k<f∧Qu (t.at k).kind=true):=Hh fun k hk=>⟨hi.kid hK hk,by have:=(hK.mem hi hk).2;omega,hex k hk⟩
 have HKO:=Hh hK;have HE:=Hh hE;have HQ:=Hh hQ;have HA:=Hh hA;have hwl:=h0.wl;have hgl:=h0.gl;have Qr1:=Hh Qoc;clear Qoc;clear hkd hbx hkc hk0 F0 h0 F h hok hi hnd hex Qnm hsm hif hK hA hE hQ;generalize hN:t.at (mi:Int)=n at *;have HNN:=Hh hN;clear hN;go_enter func222,ntmps222;go_wp2_with fail;go_loopw [6,7] (fun u6 ci wr=>∃(j:Nat) (z:SS) (ks:List Int),j≤n.kids.length∧ci=.int .i64 j∧Hi (ks.length=j∧z.code=0∧EqX s z∧Qc (Q6 W0.heap.size) 3 wr u6 (Q5 ks)∧AtW W0 wb gb r0 r1 r2 (.slice (some ⟨nb,no,none⟩) t.nodes.length nc) t1 ov z nv kv wv wr∧X=Jp r t E mi n ks (n.kids.drop j) z)) (fun _ ci _=>n.kids.length-(intOf ci).toNat)
 case atStart=>exact⟨0,s,[],Nat.zero_le _,rfl,Hh ⟨rfl,h00,EqX.refl s,Yp _,⟨H0.o.nobk Kz,Kz⟩,HX.o⟩⟩
 case round =>
  obtain⟨j,z,ks,hj,rfl,HR⟩:=hrel;obtain⟨wo,rfl⟩:∃wo:World,wo=wr:=⟨_,rfl⟩;obtain⟨x0,x1,x2,x3⟩:=HBX.o wo HR.o.2.2.2.2.1.2;obtain⟨uA,uc,rfl⟩:=HR.o.2.2.2.1.lenI
  by_cases hlt:j<n.kids.length
  ·obtain⟨k,hk⟩:=Q4 hlt
   obtain⟨hki,hkf,hke⟩:=HEX.o k (Mg hk);obtain rfl:=HA.o Om;have e0:=HKC.o j k hk wo HR.o.2.2.2.2.1.2;have hjn:(j:Int)<(n.kids.length:Int):=Om
   have Qnh:=Hh (HE.o wo wb gb _ _ _ _ _ _ z nv kv wv k HR.o.2.2.2.2.1.1 (HF0.o.kept HR.o.2.2.2.2.1.2) (HOK.o.of HR.o.2.2.1) hki hkf hke);have HXJ:Hi (X=(if (E z k).2.code≠0 then (0,(E z k).2) else Jp r t E mi n (ks++[(E z k).1]) (n.kids.drop (j+1)) (E z k).2)):=Hh (by rw[HR.o.2.2.2.2.2,Qh hk,Q1s]);have Qnx:=Hh (HR.o.2.2.1.trans (HQ.o z k));have Qo2:=Hh HR.o.2.2.2.1;have HKR:=Hh HR.o.2.2.2.2.1.2;have Qt8:W0.heap.size≤wo.heap.size:=HKR.o.size;have Qpm:Hi (ks.length=j):=Hh HR.o.1;have hns:∀q,Q6 W0.heap.size q→¬ at2 wb gb q:=fun q hq e=>by have:W0.heap.size≤q:=hq;rcases e with e|e<;>omega
   have HNS:=Hh hns;have Qos:Hi (ks.length≤1048576):=Hh (by have:=HSM.o;have:=Qpm.o;omega);clear hk hki hkf hke hns HR;generalize E z k=q at Qnh HXJ Qnx;obtain⟨k1,z1⟩:=q;dsimp only at Qnh HXJ Qnx;cases hc:(z1.code != 0) with
   |true =>
    have HC:=Hh hc;go_wp2_with (first|(go_at_call 212;refine Qnh.o.mono ?_;rintro e w2 ⟨rfl,Qnl⟩;have H2:=Hh Qnl.1;have HK2:=Hh (HKR.o.trans Qnl.2);have Qno:=Hh (Qo2.o.kept Qnl.2 (fun q hq=>HNS.o q (Qo2.o.2 q hq)));have Qoa:wo.heap.size≤w2.heap.size:=Qnl.2.size;clear Qnl)|(at_builtin;refine Qt (Q6 W0.heap.size) rfl _ _ 26 3 (.int .i64 0) 8 rfl underlying26 Kf rfl (.slice uA ks.length uc) (Q5 ks) (.int .i64 k1) rfl rfl Sm rfl Qno.o (fun q hq=>by show W0.heap.size≤q;omega) (by have:=Qos.o;simp[Q5];omega) (by have:=Qos.o;simp[Q5];omega) ?_;intro nv1 w5 Qnk hk5 Qnp;have HK5:=Hh (Q16 HK2.o hk5 (fun q hq=>Qno.o.2 q hq));have H5:=Hh (H2.o.row hk5 (fun q hq=>HNS.o q (Qno.o.2 q hq)) H0.o HK5.o Qnx.o);have HO5:=Hh Qnk;have pc5:w5.cell? ⟨wb,13,none⟩=some (.int .i64 z1.code):=H5.o.blk.cell 13 _ rfl;clear Qnk hk5 Qnp));go_returns;rw[HXJ.o,Ps (by simpa using HC.o)];exact⟨rfl,H5.o,HK0.o.trans HK5.o⟩
   |false =>
    have HC:=Hh hc;go_wp2_with (first|(go_at_call 212;refine Qnh.o.mono ?_;rintro e w2 ⟨rfl,Qnl⟩;have H2:=Hh Qnl.1;have HK2:=Hh (HKR.o.trans Qnl.2);have Qno:=Hh (Qo2.o.kept Qnl.2 (fun q hq=>HNS.o q (Qo2.o.2 q hq)));have Qoa:wo.heap.size≤w2.heap.size:=Qnl.2.size;clear Qnl)|(at_builtin;refine Qt (Q6 W0.heap.size) rfl _ _ 26 3 (.int .i64 0) 8 rfl underlying26 Kf rfl (.slice uA ks.length uc) (Q5 ks) (.int .i64 k1) rfl rfl Sm rfl Qno.o (fun q hq=>by show W0.heap.size≤q;omega) (by have:=Qos.o;simp[Q5];omega) (by have:=Qos.o;simp[Q5];omega) ?_;intro nv1 w5 Qnk hk5 Qnp;have HK5:=Hh (Q16 HK2.o hk5 (fun q hq=>Qno.o.2 q hq));have H5:=Hh (H2.o.row hk5 (fun q hq=>HNS.o q (Qno.o.2 q hq)) H0.o HK5.o Qnx.o);have HO5:=Hh Qnk;have pc5:w5.cell? ⟨wb,13,none⟩=some (.int .i64 z1.code):=H5.o.blk.cell 13 _ rfl;clear Qnk hk5 Qnp));go_round
    case rel=>exact⟨j+1,z1,ks++[k1],Om,Gm,Hh ⟨by have:=Qpm.o;simp;omega,by simpa using HC.o,Qnx.o,by have:=HO5.o;simpa[Q5] using this,⟨H5.o,HK5.o⟩,by rw[HXJ.o,Ng (by simpa using HC.o)]⟩⟩
    case measure=>exact Me
  ·have hje:j=n.kids.length:=Om
   have Qpe:decide (j<n.kids.length)=false:=Df hlt;have Qqk:n.kids.length≤j:=Om
   have HXE:Hi (X=Jw r t z mi n ks):=Hh (by rw[HR.o.2.2.2.2.2,Dn Om];exact Q19 HR.o.2.1);have HKE:Hi (ks.length=n.kids.length):=Hh (by rw[HR.o.1,hje]);have Qnx:=Hh (HOK.o.of HR.o.2.2.1);have Qo2:=Hh HR.o.2.2.2.1;have HAT:=Hh HR.o.2.2.2.2.1;clear HR hje hlt;have HXC:Hi (X=Q55 t z mi n ks):=Hh (by rw[HXE.o];unfold Jw;rw[Ng (by rw[HKD.o];decide)];rw[Ng (by rw[HKD.o];decide)];rw[Ng (by rw[HKD.o];decide)];rw[Ng (by rw[HKD.o];decide)];rw[Ng (by rw[HKD.o];decide)];rw[Ng (by rw[HKD.o];decide)];rw[Ps HKD.o]);have Qnr:=Qic HAT.o.1 (HF0.o.kept HAT.o.2) Qnx.o HKO.o Qr1.o HI.o ks _ (Qc.ints Qo2.o (by have:=HKE.o;omega)) (by rw[HNN.o];exact HKE.o);rw[HNN.o] at Qnr;generalize Q55 t z mi n ks=q at HXC Qnr;go_wp2_with (go_at_call 232;refine Qnr.mono ?_;rintro e w2 ⟨rfl,Qnl⟩);go_returns;rw[HXC.o];exact⟨rfl,Qnl.1,(HK0.o.trans HAT.o.2).trans Qnl.2⟩
end
end Go.Proofs.YtkgkafjachjafaaGreat
