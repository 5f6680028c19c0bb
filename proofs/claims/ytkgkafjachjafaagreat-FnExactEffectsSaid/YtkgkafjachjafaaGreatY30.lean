/- Part 30 of y_holds; no condition. -/
import Derived.Test.YtkgkafjachjafaaGreatY08
import Derived.Test.YtkgkafjachjafaaGreatY18
import Derived.Test.YtkgkafjachjafaaGreatY25
import Derived.Test.YtkgkafjachjafaaGreatY26
import Derived.Test.YtkgkafjachjafaaGreatY28
set_option linter.unusedVariables false
set_option maxHeartbeats 4000000
set_option maxRecDepth 100000
open Go Go.RowKit
namespace Go.Proofs.YtkgkafjachjafaaGreat
open Tryz
theorem Q9a (w:World):Qc (Q6 w.heap.size) 9 (w.alloc (.cells #[] 9 (0,0))) (.slice (some ⟨w.heap.size,0,none⟩) 0 0) (strs []):=by
 have:=Qc.lit (Q6 w.heap.size) 9 w [] (Nat.le_refl _) Sm rfl (n:=0) (c:=0) rfl rfl;simpa[strs] using this
section
variable {w:World} {wb gb:Nat} {r0 r1 r2 t0 t1 ov:Value} {s:SS} {nv kv wv:Value} {r:Reg} {t:Q1} {E:SS→Int→Int×SS} {f:Nat}
theorem Qg6 (hE:Q3d r t f E) (hQ:∀s i,EqX s (E s i).2) (h:SpR w wb gb r0 r1 r2 t0 t1 ov s nv kv wv) (F:Xl (at2 wb gb) w r t r0 r1 r2 t0 t1) (hok:Qz t s) (hK:Qk t)
  {i:Int} (hi:InT t i) (hif:i≤f) (hkk:∀k∈(t.at i).kids,∃e es,(t.at k).kids=e::es∧Qu (t.at e).kind=true) (hsm:(t.at i).kids.length≤1048576) (h00:s.code=0) :
  Calls prog 210 #[.pointer (some ⟨wb,0,none⟩),.int .i64 i] w fun e w'=>e=.returned (.tuple #[])∧AtW w wb gb r0 r1 r2 t0 t1 ov (Q1j r t E (t.at i).kids [] s) nv kv wv w':=by
 obtain⟨mi,rfl,hnd,nb,no,nc,A,kb,ko,kc,rfl,hl,hml,⟨c0,c1,c2,c3⟩,kl,klc,hA,W0,hW0,h0,F0,hk0,hbx,hkc,cw3,H0,HF0,HK0,HBX,HKC⟩:=h.nodeH F hi;have HOK:=Hh hok;have HI:=Hh hi;obtain⟨X,hx⟩:∃X,X=Q1j r t E (t.at (mi:Int)).kids [] s:=⟨_,rfl⟩;have HX:=Hh hx;rw[← hx];clear hx;obtain⟨z0,z1,z2,z3⟩:=hbx W0 (Kr _ _)
 have HEX:Hi (∀k∈(t.at (mi:Int)).kids,InT t k∧∃e es,(t.at k).kids=e::es∧InT t e∧e<f∧Qu (t.at e).kind=true):=Hh fun k hk=>by
  obtain⟨e,es,he,hek⟩:=hkk k hk;have hki:=hi.kid hK hk;have h1:=(hK.mem hi hk).2;have h2:=(hK.mem hki (k:=e) (by rw[he];simp)).2;exact⟨hki,e,es,he,hki.kid hK (by rw[he];simp),Om,hek⟩
 have HSM:=Hh hsm;have HE:=Hh hE;have HQ:=Hh hQ;have HA:=Hh hA;have hwl:=h0.wl;have hgl:=h0.gl;clear hbx hkc hk0 F0 h0 F h hok hi hnd hkk hsm hif hK hA hE hQ;generalize hN:t.at (mi:Int)=n at *;clear hN;go_enter func210,ntmps210;go_wp2_with fail;go_loopw [5,6,7,8,9] (fun u5 ci _ _ _ wr=>∃(j:Nat) (z:SS) (had:List ByteArray),j≤n.kids.length∧ci=.int .i64 j∧Hi (had.length=j∧z.code=0∧EqX s z∧Qc (Q6 W0.heap.size) 9 wr u5 (strs had)∧AtW W0 wb gb r0 r1 r2 (.slice (some ⟨nb,no,none⟩) t.nodes.length nc) t1 ov z nv kv wv wr∧X=Q1j r t E (n.kids.drop j) had z)) (fun _ ci _ _ _ _=>n.kids.length-(intOf ci).toNat)
 case atStart=>exact⟨0,s,[],Nat.zero_le _,rfl,Hh ⟨rfl,h00,EqX.refl s,Q9a _,⟨H0.o.nobk Kz,Kz⟩,HX.o⟩⟩
 case round =>
  obtain⟨j,z,had,hj,rfl,HR⟩:=hrel;obtain⟨wo,rfl⟩:∃wo:World,wo=wr:=⟨_,rfl⟩;obtain⟨x0,x1,x2,x3⟩:=HBX.o wo HR.o.2.2.2.2.1.2;obtain⟨uA,uc,hu5⟩:=HR.o.2.2.2.1.len;rw[Qr] at hu5;subst hu5
  by_cases hlt:j<n.kids.length
  ·obtain⟨k,hk⟩:=Q4 hlt
   obtain⟨hki,e1,es,hke,hei,hef,hee⟩:=HEX.o k (Mg hk);obtain rfl:=HA.o Om;have e0:=HKC.o j k hk wo HR.o.2.2.2.2.1.2;have HE0:Hi (∀W,Q0 (at2 wb gb) W0 W→W.cell? ⟨kb,ko+j,none⟩=some (.int .i64 k)):=Hh fun W hW=>HKC.o j k hk W hW
   have hjn:(j:Int)<(n.kids.length:Int):=Om
   have HKR:=Hh HR.o.2.2.2.2.1.2;have HS0:=Hh HR.o.2.2.2.2.1.1;have Qo2:=Hh HR.o.2.2.2.1;have Qt8:W0.heap.size≤wo.heap.size:=HKR.o.size;have hns:∀q,Q6 W0.heap.size q→¬ at2 wb gb q:=fun q hq e=>by have:W0.heap.size≤q:=hq;rcases e with e|e<;>omega
   have HNS:=Hh hns;have Qnx:=Hh (HR.o.2.2.1)
   have HXJ:Hi (X=(if (E z e1).2.code≠0 then (E z e1).2 else if J2 r 1 (t.at k).text=0 then (E z e1).2.fail 3 k else if Zr (t.at k).text had then (E z e1).2.fail 2 k else if J2 r 1 (t.at k).text≠(E z e1).1 then (E z e1).2.fail 4 k else
     Q1j r t E (n.kids.drop (j+1)) (had++[(t.at k).text]) (E z e1).2)):=Hh (by rw[HR.o.2.2.2.2.2,Qh hk];simp only[Q1j];rw[show kidAt (t.at k) 0=e1 from by simp[kidAt,hke]])
   have HHL:Hi (had.length=j):=Hh HR.o.1;have hhl:had.length≤1048576:=by have:=HSM.o;have:=HHL.o;omega
   obtain⟨mk,rfl,hnk⟩:=Q1.at_lt hki;have hmk:(mk:Int)<t.nodes.length:=hki.2;obtain⟨B,pb,po,pc,hd,dl,dlc,hB,hdc⟩:=HF0.o.cells hnk;have hep:0<(t.at (mk:Int)).kids.length:=by rw[hke];simp
   obtain rfl:=hB hep;have HEE:Hi (∀W,Q0 (at2 wb gb) W0 W→W.cell? ⟨pb,po,none⟩=some (.int .i64 e1)):=Hh fun W hW=>by have:=hdc 0 e1 (by rw[hke];rfl) W hW;rwa [Nat.add_zero] at this
   obtain⟨d0,d1,d2,d3⟩:=hd wo HKR.o;generalize hat:t.at (mk:Int)=nd at *;have p3:wo.cell? ⟨wb,3,none⟩=some (.slice (some ⟨nb,no,none⟩) t.nodes.length nc):=HS0.o.blk.cell 3 _ rfl;have hka:Q0 nob wo (wo.alloc (.cells #[.int .i64 0,.string ⟨#[]⟩,.int .i64 0,.slice none 0 0] 70)):=(Kr _ _).alloc _;have p3':=hka.cell id p3;have x3':=hka.cell id x3;have e0':=hka.cell id e0;have d0':=hka.cell id d0;have d1':=hka.cell id d1;have d2':=hka.cell id d2;have d3':=hka.cell id d3;have HEI:=Hh (And.intro hei (And.intro hef hee));clear hka hk hki hke hei hef hee hnk hd hdc hB hns HR;go_upto_region 5 with fail
   go_cut [7] (fun s7 wx=>∃p:Nat,s7=.pointer (some ⟨p,0,none⟩)∧Blk wx p [.int .i64 nd.kind,.string nd.text,.int .i64 nd.i,.slice (some ⟨pb,po,none⟩) nd.kids.length pc] 70∧Q0 nob wo wx∧wo.heap.size≤p)
   case first =>
    go_region
    all_goals go_wp2_with fail
    all_goals go_meet
    all_goals exact⟨_,rfl,(Blk.new _ [_,_,_,_] _).drew,((Kr _ _).alloc _).drew,Sm⟩
   case rest =>
    obtain⟨p,rfl,hb,hkx,hpl⟩:=hcut;have hpn:¬ at2 wb gb p:=fun e=>by rcases e with e|e<;>omega
    have y3:=hb.cell 3 _ rfl;have HB:=Hh hb;have HPN:=Hh hpn;have HKX:=Hh (HKR.o.trans (hkx.ofNob _));have ee:=HEE.o wc HKX.o;have Qnh:=Hh (HE.o wc wb gb _ _ _ _ _ _ z nv kv wv e1 (HS0.o.nobk hkx) (HF0.o.kept HKX.o) (HOK.o.of Qnx.o) HEI.o.1 HEI.o.2.1 HEI.o.2.2);have Qpv:=Hh (Qnx.o.trans (HQ.o z e1));have Qom:=Hh (Qo2.o.nobk hkx);have Qvz:W0.heap.size≤wc.heap.size:=HKX.o.size;clear hb hpn hkx p3 x3 e0 d0 d1 d2 d3 p3' x3' e0' d0' d1' d2' d3' x0 x1 x2;generalize E z e1=q at Qnh HXJ Qpv;obtain⟨k1,z1⟩:=q;dsimp only at Qnh HXJ Qpv;generalize hdk:J2 r 1 nd.text=d at HXJ;have HD:=Hh hdk;clear hdk;cases hc:(z1.code != 0) with
    |true =>
     have HC:=Hh hc;go_wp2_with (go_at_call 212;refine Qnh.o.mono ?_;rintro e w2 ⟨rfl,Qnl⟩;have H2:=Hh Qnl.1;have HK2:=Hh (HKX.o.trans Qnl.2);have Qno:=Hh (Qom.o.kept Qnl.2 (fun q hq=>HNS.o q (Qom.o.2 q hq)));have HB2:=Hh (HB.o.kept Qnl.2 HPN.o);have y1:=HB2.o.cell 1 _ rfl;have q13:w2.cell? ⟨wb,13,none⟩=some (.int .i64 z1.code):=Qnl.1.blk.cell 13 _ rfl;have Qoa:wc.heap.size≤w2.heap.size:=Qnl.2.size;clear Qnl);go_returns;rw[HXJ.o,Ps (by simpa using HC.o)];exact⟨rfl,H2.o,HK0.o.trans HK2.o⟩
    |false =>
    have HC:=Hh hc;rw[Ng (by simpa using hc)] at HXJ;cases hd0:(d==0) with
    |true =>
     have HD0:=Hh hd0;go_wp2_with (first|(go_at_call 212;refine Qnh.o.mono ?_;rintro e w2 ⟨rfl,Qnl⟩;have H2:=Hh Qnl.1;have HK2:=Hh (HKX.o.trans Qnl.2);have Qno:=Hh (Qom.o.kept Qnl.2 (fun q hq=>HNS.o q (Qom.o.2 q hq)));have HB2:=Hh (HB.o.kept Qnl.2 HPN.o);have y1:=HB2.o.cell 1 _ rfl;have q13:w2.cell? ⟨wb,13,none⟩=some (.int .i64 z1.code):=Qnl.1.blk.cell 13 _ rfl;have Qoa:wc.heap.size≤w2.heap.size:=Qnl.2.size;clear Qnl)|(go_at_call 211;refine (Zd H2.o (HF0.o.kept HK2.o) 1 nd.text).mono ?_;rw[HD.o];rintro e w3 ⟨rfl,hk3⟩;have H3:=Hh (H2.o.nobk hk3);have HK3:=Hh (HK2.o.trans (hk3.ofNob _));have Qo5:=Hh (Qno.o.nobk hk3);have y13:=(HB2.o.kept hk3 id).cell 1 _ rfl;have x33:=(HBX.o w3 HK3.o).2.2.2;have e03:=HE0.o w3 HK3.o;have Qrk:=hk3.size;clear hk3)|(go_at_call 136;refine (Qw H3.o _ _).mono ?_;rintro e w4 ⟨rfl,hat⟩));go_returns;rw[HXJ.o,Ps (by simpa using HD0.o)];exact⟨rfl,hat.1,(HK0.o.trans HK3.o).trans hat.2⟩
    |false =>
    rw[Ng (by simpa using hd0)] at HXJ;cases hw:Zr nd.text had with
    |true =>
     have HW:=Hh hw;rw[Ps hw] at HXJ;clear hw;go_wp2_with (first|(go_at_call 212;refine Qnh.o.mono ?_;rintro e w2 ⟨rfl,Qnl⟩;have H2:=Hh Qnl.1;have HK2:=Hh (HKX.o.trans Qnl.2);have Qno:=Hh (Qom.o.kept Qnl.2 (fun q hq=>HNS.o q (Qom.o.2 q hq)));have HB2:=Hh (HB.o.kept Qnl.2 HPN.o);have y1:=HB2.o.cell 1 _ rfl;have q13:w2.cell? ⟨wb,13,none⟩=some (.int .i64 z1.code):=Qnl.1.blk.cell 13 _ rfl;have Qoa:wc.heap.size≤w2.heap.size:=Qnl.2.size;clear Qnl)|(go_at_call 211;refine (Zd H2.o (HF0.o.kept HK2.o) 1 nd.text).mono ?_;rw[HD.o];rintro e w3 ⟨rfl,hk3⟩;have H3:=Hh (H2.o.nobk hk3);have HK3:=Hh (HK2.o.trans (hk3.ofNob _));have Qo5:=Hh (Qno.o.nobk hk3);have y13:=(HB2.o.kept hk3 id).cell 1 _ rfl;have x33:=(HBX.o w3 HK3.o).2.2.2;have e03:=HE0.o w3 HK3.o;have Qrk:=hk3.size;clear hk3)|(go_at_call 33;refine (Jy _ _ had nd.text (Qc.strs Qo5.o Om)).mono ?_;rw[HW.o];rintro e w4 ⟨rfl,rfl⟩)|(go_at_call 136;refine (Qw H3.o _ _).mono ?_;rintro e w4 ⟨rfl,hat⟩));go_returns;rw[HXJ.o];exact⟨rfl,hat.1,(HK0.o.trans HK3.o).trans hat.2⟩
    |false =>
    have HW:=Hh hw;rw[Ng (by rw[hw];simp)] at HXJ;clear hw;cases hq:(d != k1) with
    |true =>
     have HQQ:=Hh hq;go_wp2_with (first|(go_at_call 212;refine Qnh.o.mono ?_;rintro e w2 ⟨rfl,Qnl⟩;have H2:=Hh Qnl.1;have HK2:=Hh (HKX.o.trans Qnl.2);have Qno:=Hh (Qom.o.kept Qnl.2 (fun q hq=>HNS.o q (Qom.o.2 q hq)));have HB2:=Hh (HB.o.kept Qnl.2 HPN.o);have y1:=HB2.o.cell 1 _ rfl;have q13:w2.cell? ⟨wb,13,none⟩=some (.int .i64 z1.code):=Qnl.1.blk.cell 13 _ rfl;have Qoa:wc.heap.size≤w2.heap.size:=Qnl.2.size;clear Qnl)|(go_at_call 211;refine (Zd H2.o (HF0.o.kept HK2.o) 1 nd.text).mono ?_;rw[HD.o];rintro e w3 ⟨rfl,hk3⟩;have H3:=Hh (H2.o.nobk hk3);have HK3:=Hh (HK2.o.trans (hk3.ofNob _));have Qo5:=Hh (Qno.o.nobk hk3);have y13:=(HB2.o.kept hk3 id).cell 1 _ rfl;have x33:=(HBX.o w3 HK3.o).2.2.2;have e03:=HE0.o w3 HK3.o;have Qrk:=hk3.size;clear hk3)|(go_at_call 33;refine (Jy _ _ had nd.text (Qc.strs Qo5.o Om)).mono ?_;rw[HW.o];rintro e w4 ⟨rfl,rfl⟩)|(go_at_call 136;refine (Qw H3.o _ _).mono ?_;rintro e w4 ⟨rfl,hat⟩));go_returns;rw[HXJ.o,Ps (by simpa using HQQ.o)];exact⟨rfl,hat.1,(HK0.o.trans HK3.o).trans hat.2⟩
    |false =>
     have HQQ:=Hh hq;rw[Ng (by simpa using hq)] at HXJ;go_wp2_with (first|(go_at_call 212;refine Qnh.o.mono ?_;rintro e w2 ⟨rfl,Qnl⟩;have H2:=Hh Qnl.1;have HK2:=Hh (HKX.o.trans Qnl.2);have Qno:=Hh (Qom.o.kept Qnl.2 (fun q hq=>HNS.o q (Qom.o.2 q hq)));have HB2:=Hh (HB.o.kept Qnl.2 HPN.o);have y1:=HB2.o.cell 1 _ rfl;have q13:w2.cell? ⟨wb,13,none⟩=some (.int .i64 z1.code):=Qnl.1.blk.cell 13 _ rfl;have Qoa:wc.heap.size≤w2.heap.size:=Qnl.2.size;clear Qnl)|(go_at_call 211;refine (Zd H2.o (HF0.o.kept HK2.o) 1 nd.text).mono ?_;rw[HD.o];rintro e w3 ⟨rfl,hk3⟩;have H3:=Hh (H2.o.nobk hk3);have HK3:=Hh (HK2.o.trans (hk3.ofNob _));have Qo5:=Hh (Qno.o.nobk hk3);have y13:=(HB2.o.kept hk3 id).cell 1 _ rfl;have x33:=(HBX.o w3 HK3.o).2.2.2;have e03:=HE0.o w3 HK3.o;have Qrk:=hk3.size;clear hk3)|(go_at_call 33;refine (Jy _ _ had nd.text (Qc.strs Qo5.o Om)).mono ?_;rw[HW.o];rintro e w4 ⟨rfl,rfl⟩)|(at_builtin;refine Qt (Q6 W0.heap.size) rfl _ _ 66 9 (.string ByteArray.empty) 16 rfl underlying66 Kf rfl (.slice uA had.length uc) (strs had) (.string nd.text) rfl rfl Sm rfl Qo5.o (fun q hq=>by show W0.heap.size≤q;omega) (by rw[Qr];omega) (by rw[Qr];omega) ?_;intro nv1 w5 Qnk hk5 Qnp;have HK5:=Hh (Q16 HK3.o hk5 (fun q hq=>Qo5.o.2 q hq));have H5:=Hh (H3.o.row hk5 (fun q hq=>HNS.o q (Qo5.o.2 q hq)) H0.o HK5.o Qpv.o);have HO5:=Hh Qnk;clear Qnk hk5 Qnp));go_round
     case rel=>exact⟨j+1,z1,had++[nd.text],Om,Gm,Hh ⟨by have:=HHL.o;simp;omega,by simpa using HC.o,Qpv.o,by have:=HO5.o;simpa[strs] using this,⟨H5.o,HK5.o⟩,HXJ.o⟩⟩
     case measure=>exact Me
  ·have hje:j=n.kids.length:=Om
   have Qpe:decide (j<n.kids.length)=false:=Df hlt;have Qqk:n.kids.length≤j:=Om
   have HXE:Hi (X=z):=Hh (by rw[HR.o.2.2.2.2.2,Dn Om];rfl);clear hje hlt;go_wp2_with fail;go_returns;rw[HXE.o];exact⟨rfl,HR.o.2.2.2.2.1.1,HK0.o.trans HR.o.2.2.2.2.1.2⟩
end
def Q2w (t:Q1) (W:SS→Int→SS) (lw:Nat) (c:Int) (a:List ByteArray×SS):SS :=
 if a.2.code≠0 then a.2 else {Jg t W {a.2 with each:=true,inner:=true,withs:=a.1.take lw} c [] [] with each:=false,inner:=false,withs:=[]}
theorem fail_code {s:SS} (h:s.code=0) {c n:Int} (hc:c≠0):(s.fail c n).code≠0:=by unfold SS.fail;rw[Ps h];exact hc
theorem Qd6 (w:World):Qc (fun k=>k=w.heap.size) 9 (w.alloc (.cells #[] 9 (0,0))) (.slice (some ⟨w.heap.size,0,none⟩) 0 0) (strs []):=by
 have:=Qc.lit (fun k=>k=w.heap.size) 9 w [] rfl Sm rfl (n:=0) (c:=0) rfl rfl;simpa[strs] using this
section
variable {w:World} {wb gb:Nat} {r0 r1 r2 t0 t1 ov:Value} {s:SS} {nv kv wv:Value} {r:Reg} {t:Q1} {E:SS→Int→Int×SS} {W:SS→Int→SS} {f:Nat}
theorem Qho (hW:Q7y r t f W) (hO:∀s i,InT t i→Qz t s→Qz t (W s i)) (h:SpR w wb gb r0 r1 r2 t0 t1 ov s nv kv wv) (F:Xl (at2 wb gb) w r t r0 r1 r2 t0 t1) (hok:Qz t s) (hK:Qk t) (hsz:t.nodes.length≤4000) (hsm:Z1 t)
  {i:Int} (hi:InT t i) (hif:i≤f) {a b c:Int} (Qnf:(t.at i).kids=[a,b,c]) (hbl:Q4q t c) (h00:s.code=0) :
  Calls prog 208 #[.pointer (some ⟨wb,0,none⟩),.int .i64 i] w fun e w'=>e=.returned (.tuple #[])∧AtX w wb gb r0 r1 r2 t0 t1 ov (Q42 r t W s (t.at i)) w':=by
 obtain⟨mi,rfl,hnd,nb,no,nc,A,kb,ko,kc,rfl,hl,hml,⟨c0,c1,c2,c3⟩,kl,klc,hA,W0,hW0,h0,F0,hk0,hbx,hkc,cw3,H0,HF0,HK0,HBX,HKC⟩:=h.nodeH F hi;have HOK:=Hh hok;have HI:=Hh hi;have hka:kidAt (t.at (mi:Int)) 0=a:=by simp[kidAt,Qnf]
 have hkb:kidAt (t.at (mi:Int)) 1=b:=by simp[kidAt,Qnf]
 have hkc':kidAt (t.at (mi:Int)) 2=c:=by simp[kidAt,Qnf]
 have hai:InT t a:=hi.kid hK (by rw[Qnf];simp);have hbi:InT t b:=hi.kid hK (by rw[Qnf];simp);have hci:InT t c:=hi.kid hK (by rw[Qnf];simp);have hcf:c≤f:=by have:=(hK.mem hi (k:=c) (by rw[Qnf];simp)).2;omega
 have hx:Q42 r t W s (t.at (mi:Int))=Q2w t W (t.at a).kids.length c (eachGo r t ((t.at a).kids++(t.at b).kids) [] s):=by
  unfold Q42 Q2w;rw[hka,hkb,hkc']
 have HX:=Hh hx;clear hx hka hkb hkc';generalize Q42 r t W s (t.at (mi:Int))=X at HX ⊢;obtain⟨z0,z1,z2,z3⟩:=hbx W0 (Kr _ _);have Qo7:2<(t.at (mi:Int)).kids.length:=by rw[Qnf];simp
 have hea:∀W,Q0 (at2 wb gb) W0 W→W.cell? ⟨kb,ko,none⟩=some (.int .i64 a):=fun W hW=>by have:=hkc 0 a (by rw[Qnf];rfl) W hW;rwa [Nat.add_zero] at this
 have heb:∀W,Q0 (at2 wb gb) W0 W→W.cell? ⟨kb,ko+1,none⟩=some (.int .i64 b):=fun W hW=>hkc 1 b (by rw[Qnf];rfl) W hW
 have hec:∀W,Q0 (at2 wb gb) W0 W→W.cell? ⟨kb,ko+2,none⟩=some (.int .i64 c):=fun W hW=>hkc 2 c (by rw[Qnf];rfl) W hW
 obtain rfl:=hA Om
 have Qqj:Hi (∀k∈(t.at a).kids++(t.at b).kids,InT t k):=Hh fun k hk=>by
  rcases List.mem_append.1 hk with hk|hk
  ·exact hai.kid hK hk
  ·exact hbi.kid hK hk
 obtain⟨ma,rfl,hna⟩:=Q1.at_lt hai;obtain⟨mb,rfl,hnb⟩:=Q1.at_lt hbi;have Qxz:(ma:Int)<t.nodes.length:=hai.2;have Qvi:(mb:Int)<t.nodes.length:=hbi.2;obtain⟨PA,pab,pao,pac,hda,pal,palc,hPA,Qw4⟩:=F0.cells hna;obtain⟨PB,pbb,pbo,pbc,hdb,pbl,pblc,hPB,Qw5⟩:=F0.cells hnb;have hla:=hsm (ma:Int);have hlb:=hsm (mb:Int);generalize hLA:(t.at (ma:Int)).kids=la at *;generalize hLB:(t.at (mb:Int)).kids=lb at *;have HEA:=Hh hea;have HEB:=Hh heb;have HEC:=Hh hec;have HDA:=Hh (fun W hW=>(hda W hW).2.2.2);have HDB:=Hh (fun W hW=>(hdb W hW).2.2.2);have HPA:=Hh hPA;have HPB:=Hh hPB;have HCA:=Hh Qw4;have HCB:=Hh Qw5;have hwl:=h0.wl;have hgl:=h0.gl;have HKO:=Hh hK;have HW:=Hh hW;have HO:=Hh hO;have HCI:=Hh hci;have HCF:=Hh hcf;have HBL:=Hh hbl;have H00:=Hh h00;clear hkc hbx hk0 F0 h0 hok hi hK Qnf F h hai hea heb hec hif hA hnd hbl hW hO hbi hci hcf hda hdb hPA hPB Qw4 Qw5 hna hnb hLA hLB hsm h00;generalize hN:t.at (mi:Int)=n at *;clear hN;have hl1:(1:Int)<(n.kids.length:Int):=Om
 have hl2:(2:Int)<(n.kids.length:Int):=Om
 go_enter func208,ntmps208;go_upto_region 2 with fail
 have Qrl:Q0 nob W0 (W0.alloc (.cells #[] 9 (0,0))):=(Kr _ _).alloc _;have hal:=Qd6 W0;have Qpn:(W0.alloc (.cells #[] 9 (0,0))).heap.size=W0.heap.size+1:=Sm
 generalize hW1:W0.alloc (.cells #[] 9 (0,0))=W1 at Qrl hal Qpn;have Qr3:=Hh (Qrl.ofNob (at2 wb gb));have HAL:=Hh hal;have p3:W1.cell? ⟨wb,3,none⟩=some (.slice (some ⟨nb,no,none⟩) t.nodes.length nc):=(H0.o.nobk Qrl).blk.cell 3 _ rfl;have x3:=(HBX.o W1 Qr3.o).2.2.2;have ya:=HEA.o W1 Qr3.o;have yk:=HDA.o W1 Qr3.o;clear hal hW1;go_cut [6] (fun s6 wx=>s6=.slice PA la.length pac∧Q0 nob W1 wx)
 case first =>
  go_quiet (fail);go_wp2_with fail;go_meet;exact⟨rfl,Kz⟩
 case rest =>
 obtain⟨rfl,hk2⟩:=hcut;obtain⟨w2,rfl⟩:∃w2:World,w2=wc:=⟨_,rfl⟩;have HK2:=Hh (Qr3.o.trans (hk2.ofNob _));have hs2:W0.heap.size+1≤w2.heap.size:=by have:=hk2.size;omega
 have hr0:Q0 nob w2 w2:=Kr _ _;have Qy1:=Hh (HAL.o.nobk hk2);have HN2:=Hh (Qrl.trans hk2);have s3:∀W,Q0 nob w2 W→W.cell? ⟨wb,3,none⟩=some (.slice (some ⟨nb,no,none⟩) t.nodes.length nc):=fun W hW=>hW.cell (fun h=>h) ((H0.o.nobk (Qrl.trans hk2)).blk.cell 3 _ rfl)
 have sx:∀W,Q0 nob w2 W→W.cell? ⟨w.heap.size,3,none⟩=some (.slice (some ⟨kb,ko,none⟩) n.kids.length kc):=fun W hW=>(HBX.o W (HK2.o.trans (hW.ofNob _))).2.2.2
 have sb:∀W,Q0 nob w2 W→W.cell? ⟨kb,ko+1,none⟩=some (.int .i64 (mb:Int)):=fun W hW=>HEB.o W (HK2.o.trans (hW.ofNob _))
 have sd:∀W,Q0 nob w2 W→W.cell? ⟨nb,no+mb*4+3,none⟩=some (.slice PB lb.length pbc):=fun W hW=>HDB.o W (HK2.o.trans (hW.ofNob _))
 clear p3 x3 ya yk Qrl hk2;go_upto_region 3 with fail
 go_cut [7] (fun s7 wx=>Qc (Q6 w2.heap.size) 3 wx s7 (Q5 (la++lb))∧Q0 nob w2 wx)
 case first =>
  go_region_held3 (fun W=>Q0 nob w2 W) (first|assumption|exact hr0.drew|exact Kd ‹_›|exact Ka (Ku ‹_›) _|exact Ka ‹_› _) ((first|(refine Q2f rfl (Y3 w2 ‹_› _ _ 26 3 (.int .i64 0) 8 rfl underlying26 Kf rfl _ (Q5 la) rfl (Jv rfl Sm) (by first|exact Nat.le_refl _|simp|omega) PA pab pao _ pac rfl (Q2 _).symm (fun h0=>HPA.o (by rw[Q2] at h0;exact h0)) (Q2q fun j x hx=>HCA.o j x hx _ (HK2.o.trans (Q0.ofNob ‹_› _))) (Q44 _) (by rw[Q2];omega) (by rw[Q2];omega) ?_);intro v3 w3 ho3 hk3 Qpo;dsimp only)|(refine Q2f rfl (Xf (Q6 w2.heap.size) _ _ 26 3 (.int .i64 0) 8 rfl underlying26 Kf rfl v3 (Q5 la) (Q5 lb) rfl PB pbb pbo _ pbc rfl (Q2 _).symm (fun h0=>HPB.o (by rw[Q2] at h0;exact h0)) (Q2q fun j x hx=>HCB.o j x hx _ (HK2.o.trans (Q0.ofNob ‹_› _))) (Q44 _) (ho3.mono (fun k hk=>by simp[Q3k,Q6] at hk ⊢;omega)) (fun k hk=>Nat.le_trans Qpo.size hk) (by rw[Q2,Q2];omega) (by rw[Q2,Q2];omega) ?_);intro v4 w4 ho4 hk4;have Qzo:Q0 nob w2 w4:=Qpo.then_ hk4 (fun q hq=>.inr (by have:=ho3.2 q hq;simp[Q3k] at this;omega));dsimp only)))
  all_goals go_wp2_with fail
  all_goals go_meet
  all_goals exact⟨by rw[← Qa4];exact ho4,by assumption⟩
 case rest =>
 obtain⟨hbo,hkq⟩:=hcut;obtain⟨wq,rfl⟩:∃wq:World,wq=wc:=⟨_,rfl⟩;have hbo':=hbo.opened;obtain⟨QA,qb,qc,hq7,_,Qw6,hQA,Qw7⟩:=hbo';rw[Q2] at hq7 Qw6;subst hq7;rw[show (la++lb).length=la.length+lb.length from List.length_append] at Qw6 ⊢;have Qu9:(la++lb).length≤2097152:=by rw[List.length_append];omega
 have hq3:w2.heap.size≤wq.heap.size:=hkq.size
 have HQB:Hi (∀j x,(la++lb)[j]?=some x→QA=some ⟨qb,0,none⟩∧w2.heap.size≤qb∧qb<wq.heap.size∧wq.cell? ⟨qb,j,none⟩=some (.int .i64 x)):=Hh fun j x hx=>by
  have hp:0<(Q5 (la++lb)).length:=by have:=(Gs hx).1;rw[Q2];omega
  obtain⟨q1,q2,q3⟩:=hQA hp;exact⟨q1,q2,hbo.lt _ q3,(Qw7 j (.int .i64 x) (by unfold Q5;rw[List.getElem?_map,hx];rfl)).1⟩
 have HKQ:=Hh (HK2.o.trans (hkq.ofNob (at2 wb gb)));have Qy2:=Hh ((Qy1.o.nobk hkq).mono (S':=fun k=>k=W0.heap.size∨wq.heap.size≤k) (fun k hk=>.inl hk));have HQ0:=Hh ((H0.o.nobk HN2.o).nobk hkq);clear hbo Qw7 hQA hkq s3 sx sb sd;go_wp2_with fail;go_loopw [5,8,9] (fun u5 ci _ wr=>∃(j:Nat) (all:List ByteArray),j≤la.length+lb.length∧ci=.int .i64 j∧Hi (all.length=j∧Qc (fun k=>k=W0.heap.size∨wq.heap.size≤k) 9 wr u5 (strs all)∧SpR wr wb gb r0 r1 r2 (.slice (some ⟨nb,no,none⟩) t.nodes.length nc) t1 ov s nv kv wv∧Q0 (fun k=>at2 wb gb k∨k=W0.heap.size) wq wr∧X=Q2w t W la.length c (eachGo r t ((la++lb).drop j) all s))) (fun _ ci _ _=>la.length+lb.length-(intOf ci).toNat)
 case atStart=>exact⟨0,[],Nat.zero_le _,rfl,Hh ⟨rfl,Qy2.o,HQ0.o,Kr _ _,HX.o⟩⟩
 case round =>
  obtain⟨j,all,hj,rfl,HR⟩:=hrel;obtain⟨wo,rfl⟩:∃wo:World,wo=wr:=⟨_,rfl⟩;have HS:=Hh HR.o.2.2.1;have HKT:=Hh HR.o.2.2.2.1;have Qo2:=Hh HR.o.2.1;have HKW:=Hh (HKQ.o.then_ HKT.o (fun k hk=>hk.imp id (fun e=>by omega)));obtain⟨uA,uc,hu5⟩:=Qo2.o.len;rw[Qr] at hu5;subst hu5;have Qw8:Hi (all.length=j):=Hh HR.o.1;have Qoz:all.length≤2097152:=by have:=Qw8.o;omega
  have Qzp:wq.heap.size≤wo.heap.size:=HKT.o.size
  by_cases hlt:j<la.length+lb.length
  ·obtain⟨k,hk⟩:=Q4 (xs:=la++lb) (j:=j) (by rw[List.length_append];exact hlt)
   obtain⟨rfl,q2,q3,q4⟩:=HQB.o j k hk;have hqt:¬ (at2 wb gb qb∨qb=W0.heap.size):=fun e=>by rcases e with (e|e)|e<;>omega
   have e0:=HKT.o.cell hqt q4;have hki:=Qqj.o k (Mg hk);obtain⟨mk,rfl,hnk⟩:=Q1.at_lt hki;have hmk:(mk:Int)<t.nodes.length:=hki.2;obtain⟨B,pb,po,pc,hd,_,_,_,_⟩:=HF0.o.cells hnk;have d1:=(hd wo HKW.o).2.1;have p3:wo.cell? ⟨wb,3,none⟩=some (.slice (some ⟨nb,no,none⟩) t.nodes.length nc):=HS.o.blk.cell 3 _ rfl;have HXJ:Hi (X=Q2w t W la.length c (if J2 r 1 (t.at (mk:Int)).text=0 then (all,s.fail 3 (mk:Int)) else if Zr (t.at (mk:Int)).text all then (all,s.fail 2 (mk:Int)) else eachGo r t ((la++lb).drop (j+1)) (all++[(t.at (mk:Int)).text]) s)):=Hh (by rw[HR.o.2.2.2.2,Qh hk];rfl);have Qw9:(j:Int)<(la.length:Int)+(lb.length:Int):=Om
   have Qpe:(j:Int)<((la.length+lb.length:Nat):Int):=Om
   generalize hat:t.at (mk:Int)=nd at *;clear hk hki hnk hd q2 q4 HR;go_upto_region 7 with fail
   go_cut [9] (fun s9 wx=>s9=.string nd.text∧Q0 nob wo wx)
   case first =>
    go_quiet (fail);go_wp2_with fail;go_meet;exact⟨rfl,Kz⟩
   case rest =>
    obtain⟨rfl,hkx⟩:=hcut;have HSX:=Hh (HS.o.nobk hkx);have HKX:=Hh (HKW.o.trans (hkx.ofNob _));have Qua:=Hh (HKT.o.trans (hkx.ofNob _));have Qr4:=Hh (Qo2.o.nobk hkx);have HE0:=Hh (fun W (hW:Q0 nob wo W)=>hW.cell (fun h=>h) e0);have Qub:=Hh hkx;have hsx:wo.heap.size≤wc.heap.size:=hkx.size;clear hkx p3 e0 d1;generalize hdk:J2 r 1 nd.text=d at HXJ;have HD:=Hh hdk;clear hdk;cases hd0:(d==0) with
    |true =>
     have HXX:Hi (X=s.fail 3 (mk:Int)):=Hh (by rw[HXJ.o,Ps (by simpa using hd0)];unfold Q2w;rw[Ps (fail_code H00.o Dc)]);go_wp2_with (first|(go_at_call 211;refine (Zd HSX.o (HF0.o.kept HKX.o) 1 nd.text).mono ?_;rw[HD.o];rintro e w3 ⟨rfl,hk3⟩;have H3:=Hh (HSX.o.nobk hk3);have HK3:=Hh (HKX.o.trans (hk3.ofNob _));have Quc:=Hh (Qua.o.trans (hk3.ofNob _));have Qo5:=Hh (Qr4.o.nobk hk3);have e03:=HE0.o w3 (Qub.o.trans hk3);have Qrk:=hk3.size;clear hk3)|(go_at_call 136;refine (Qw H3.o _ _).mono ?_;rintro e w4 ⟨rfl,hat⟩));go_returns;rw[HXX.o];exact⟨rfl,_,_,_,hat.1,(HK0.o.trans HK3.o).trans hat.2⟩
    |false =>
    rw[Ng (by simpa using hd0)] at HXJ;cases hw:Zr nd.text all with
    |true =>
     have HWI:=Hh hw;have HXX:Hi (X=s.fail 2 (mk:Int)):=Hh (by rw[HXJ.o,Ps hw];unfold Q2w;rw[Ps (fail_code H00.o Dc)]);clear hw;go_wp2_with (first|(go_at_call 211;refine (Zd HSX.o (HF0.o.kept HKX.o) 1 nd.text).mono ?_;rw[HD.o];rintro e w3 ⟨rfl,hk3⟩;have H3:=Hh (HSX.o.nobk hk3);have HK3:=Hh (HKX.o.trans (hk3.ofNob _));have Quc:=Hh (Qua.o.trans (hk3.ofNob _));have Qo5:=Hh (Qr4.o.nobk hk3);have e03:=HE0.o w3 (Qub.o.trans hk3);have Qrk:=hk3.size;clear hk3)|(go_at_call 33;refine (Jy _ _ all nd.text (Qc.strs Qo5.o Om)).mono ?_;rw[HWI.o];rintro e w4 ⟨rfl,rfl⟩)|(go_at_call 136;refine (Qw H3.o _ _).mono ?_;rintro e w4 ⟨rfl,hat⟩));go_returns;rw[HXX.o];exact⟨rfl,_,_,_,hat.1,(HK0.o.trans HK3.o).trans hat.2⟩
    |false =>
     have HWI:=Hh hw;rw[Ng (by rw[hw];simp)] at HXJ;clear hw;go_wp2_with (first|(go_at_call 211;refine (Zd HSX.o (HF0.o.kept HKX.o) 1 nd.text).mono ?_;rw[HD.o];rintro e w3 ⟨rfl,hk3⟩;have H3:=Hh (HSX.o.nobk hk3);have HK3:=Hh (HKX.o.trans (hk3.ofNob _));have Quc:=Hh (Qua.o.trans (hk3.ofNob _));have Qo5:=Hh (Qr4.o.nobk hk3);have e03:=HE0.o w3 (Qub.o.trans hk3);have Qrk:=hk3.size;clear hk3)|(go_at_call 33;refine (Jy _ _ all nd.text (Qc.strs Qo5.o Om)).mono ?_;rw[HWI.o];rintro e w4 ⟨rfl,rfl⟩)|(at_builtin;refine Qt (fun k=>k=W0.heap.size∨wq.heap.size≤k) rfl _ _ 66 9 (.string ByteArray.empty) 16 rfl underlying66 Kf rfl (.slice uA all.length uc) (strs all) (.string nd.text) rfl rfl Sm rfl Qo5.o (fun q hq=>.inr Om) (by rw[Qr];omega) (by rw[Qr];omega) ?_;intro nv1 w5 Qnk hk5 Qnp;have Qwa:=Hh (Quc.o.then_ hk5 (fun q hq=>(Qo5.o.2 q hq).imp .inr id));have HK5:=Hh (HKQ.o.then_ Qwa.o (fun k hk=>hk.imp id (fun e=>by omega)));have H5:=Hh (H3.o.row hk5 (fun q hq e=>by have:=Qo5.o.2 q hq;rcases this with h|h<;>rcases e with e|e<;>omega) H0.o HK5.o (EqX.refl s));have HO5:=Hh Qnk;clear Qnk hk5 Qnp));go_round
     case rel=>exact⟨j+1,all++[nd.text],Om,Gm,Hh ⟨by have:=Qw8.o;simp;omega,by have:=HO5.o;simpa[strs] using this,H5.o,Qwa.o,HXJ.o⟩⟩
     case measure=>exact Me
  ·have hje:j=la.length+lb.length:=Om
   have HAJ:Hi (all.length=la.length+lb.length):=Hh (by rw[HR.o.1,hje]);have Qw9:¬ ((j:Int)<(la.length:Int)+(lb.length:Int)):=Om
   have Qpe:decide ((j:Int)<((la.length+lb.length:Nat):Int))=false:=Df Om;have Qqk:decide (j<la.length+lb.length)=false:=Df hlt;have Qzq:la.length+lb.length≤j:=Om
   have HXE:Hi (X={Jg t W {s with each:=true,inner:=true,withs:=all.take la.length} c [] [] with each:=false,inner:=false,withs:=[]}):=Hh (by
    rw[HR.o.2.2.2.2,Dn (by rw[List.length_append];omega)];unfold Q2w eachGo;rw[Ng (by simp[H00.o])])
   clear hje hlt HR;have Qr5:=Qo2.o.opened;obtain⟨VA,vb,vc2,hv,_,hvl,hVA,hvc⟩:=Qr5;rw[Qr] at hv hvl;injection hv with e1 _ e3
   subst e1 e3;have Qy3:(all.take la.length).length=la.length:=by rw[List.length_take];have:=HAJ.o;omega
   have hlc:la.length≤uc:=by have:=HAJ.o;omega
   have Qo3:0<la.length→0<(strs all).length:=fun h=>by rw[Qr];have:=HAJ.o;omega
   have Qwb:∀q,(q=W0.heap.size∨wq.heap.size≤q)→¬ at2 wb gb q:=fun q hq e=>by rcases e with e|e<;>rcases hq with h|h<;>omega
   have HVA:Hi (0<la.length→uA=some ⟨vb,0,none⟩):=Hh fun h=>(hVA (Qo3 h)).1
   have HVC:Hi (∀j u,(strs (all.take la.length))[j]?=some u→∀W,Q0 (at2 wb gb) wo W→W.cell? ⟨vb,0+j,none⟩=some u):=Hh fun j u hu W hW=>by
    have hu':(strs all)[j]?=some u:=by
     unfold strs at hu ⊢;rw[List.map_take,List.getElem?_take] at hu;split at hu
     ·exact hu
     ·cases hu
    have hp:0<(strs all).length:=by have:=(Gs hu').1;omega
    rw[Nat.zero_add];exact hW.cell (Qwb _ (hVA hp).2.1) (hvc j u hu').1
   have s8:=HS.o.setEach true;have s9:=s8.setInner true;have c8:=HS.o.blk.cell 8 _ rfl;have f8:=HS.o.blk.free 8;have c9:=s8.blk.cell 9 _ rfl;have f9:=s8.blk.free 9;have HS9:=Hh s9;have HKE:Hi (Q0 (at2 wb gb) wo ((wo.setCell ⟨wb,8,none⟩ (.bool true)).setCell ⟨wb,9,none⟩ (.bool true))):=Hh (((Kr _ _).wb 8 _).wb 9 _);have hse:((wo.setCell ⟨wb,8,none⟩ (.bool true)).setCell ⟨wb,9,none⟩ (.bool true)).heap.size=wo.heap.size:=by simp[World.setCell]
   have HT9:=Hh Qy3;clear s8 s9 hvc hVA Qo3 Qwb;go_wp2_with (first|(at_builtin;refine Yw rfl (fun K hK=>?_);refine Y3 ((wo.setCell ⟨wb,8,none⟩ (.bool true)).setCell ⟨wb,9,none⟩ (.bool true)) Kz _ _ 66 9 (.string ByteArray.empty) 16 rfl underlying66 Kf rfl _ (strs (all.take la.length)) rfl (Jv rfl (by first|rfl|simp)) (by first|exact Nat.le_refl _|simp|omega) uA vb 0 _ uc rfl (by rw[Qr,HT9.o]) (fun h0=>HVA.o (by rw[Qr,HT9.o] at h0;exact h0)) (fun j u hu=>HVC.o j u hu _ (HKE.o.trans (Q0.ofNob Kz _))) (Q3z _) (by rw[Qr,HT9.o];omega) (by rw[Qr,HT9.o];omega) ?_;intro v5 w5 ho5 hk5 Qpp;refine hK _ _ ?_;clear hK;obtain⟨vA5,vc5,hv5⟩:=ho5.len;rw[Qr,HT9.o] at hv5;subst hv5;have HS5:=Hh ((HS9.o.nobk Qpp).setWith (u:=.slice vA5 la.length vc5) (l:=all.take la.length) (Q0z ho5 (fun q hq e=>by simp[Q3k,World.setCell] at hq;rcases e with e|e<;>omega) (by rw[HT9.o];omega)));have c10:=(HS9.o.nobk Qpp).blk.cell 10 _ rfl;have f10:=(HS9.o.nobk Qpp).blk.free 10;have HK5:=Hh (HKW.o.trans ((HKE.o.trans (Qpp.ofNob _)).wb 10 (.slice vA5 la.length vc5)));have x39:=(HBX.o _ HK5.o).2.2.2;have yc9:=HEC.o _ HK5.o;clear ho5 hk5 Qpp)|(go_at_call 137;refine (Q84 HW.o HO.o HS5.o (HF0.o.kept HK5.o) ⟨HOK.o.ko,HOK.o.nk,HOK.o.nd,HOK.o.sub,HOK.o.top⟩ HKO.o hsz HCI.o HCF.o HBL.o).mono ?_;rintro e w6 ⟨rfl,hat⟩;obtain⟨nv6,kv6,wv6,h6,k6⟩:=hat;have s81:=h6.setEach false;have s91:=s81.setInner false;have c86:=h6.blk.cell 8 _ rfl;have f86:=h6.blk.free 8;have c96:=s81.blk.cell 9 _ rfl;have f96:=s81.blk.free 9;have c106:=s91.blk.cell 10 _ rfl;have f106:=s91.blk.free 10;have Qy4:=Hh s91;have HK6:=Hh (((HK5.o.trans k6).wb 8 (.bool false)).wb 9 (.bool false));clear s81 s91 h6 k6));go_returns;rw[HXE.o];exact⟨rfl,_,_,_,Qy4.o.setWith (Q6n _ _),(HK0.o.trans HK6.o).wb 10 _⟩
end
def Ya (k:Int):Int :=
 if 1≤k∧k≤11 then 1 else if 12≤k∧k≤26 then 2 else if k=27 then 3 else if k=29 then 4 else if k=30 then 5 else if k=31 then 6 else if k=32 then 7 else if k=28 then 8 else if k=33∨k=34 then 9 else 0
theorem Q9v (k:Int) (w:World):Calls prog 133 #[.int .i64 k] w fun e w'=>e=.returned (.int .i64 (Ya k))∧w=w':=by
 by_cases a1:1≤k∧k≤11
 ·have e:Ya k=1:=by unfold Ya;rw[Ps a1]
  rw[e];have t1:decide (1≤k)=true:=Dt a1.1;have t2:decide (k≥1)=true:=Dt a1.1;have t3:decide (k≤11)=true:=Dt a1.2;clear a1 e;go_enter func133,ntmps133;go_wp2_with fail;go_ret;exact⟨rfl,rfl⟩
 by_cases a2:12≤k∧k≤26
 ·have e:Ya k=2:=by unfold Ya;rw[Ng a1,Ps a2]
  rw[e];have t1:decide (1≤k)=true:=Dt Om;have t2:decide (k≥1)=true:=Dt Om;have t3:decide (k≤11)=false:=Df Om;have t4:decide (12≤k)=true:=Dt a2.1;have t5:decide (k≥12)=true:=Dt a2.1;have t6:decide (k≤26)=true:=Dt a2.2;clear a1 a2 e;go_enter func133,ntmps133;go_wp2_with fail;go_ret;exact⟨rfl,rfl⟩
 by_cases h27:k=27
 ·subst h27;go_enter func133,ntmps133;go_wp2_with fail;go_ret;exact⟨rfl,rfl⟩
 by_cases h28:k=28
 ·subst h28;go_enter func133,ntmps133;go_wp2_with fail;go_ret;exact⟨rfl,rfl⟩
 by_cases h29:k=29
 ·subst h29;go_enter func133,ntmps133;go_wp2_with fail;go_ret;exact⟨rfl,rfl⟩
 by_cases h30:k=30
 ·subst h30;go_enter func133,ntmps133;go_wp2_with fail;go_ret;exact⟨rfl,rfl⟩
 by_cases h31:k=31
 ·subst h31;go_enter func133,ntmps133;go_wp2_with fail;go_ret;exact⟨rfl,rfl⟩
 by_cases h32:k=32
 ·subst h32;go_enter func133,ntmps133;go_wp2_with fail;go_ret;exact⟨rfl,rfl⟩
 by_cases h33:k=33
 ·subst h33;go_enter func133,ntmps133;go_wp2_with fail;go_ret;exact⟨rfl,rfl⟩
 by_cases h34:k=34
 ·subst h34;go_enter func133,ntmps133;go_wp2_with fail;go_ret;exact⟨rfl,rfl⟩
 have e:Ya k=0:=by unfold Ya;rw[Ng a1,Ng a2,Ng h27,Ng h29,Ng h30,Ng h31,Ng h32,Ng h28,Ng Om]
 rw[e];have e27:(k==27)=false:=by simpa using h27
 have e28:(k==28)=false:=by simpa using h28
 have e29:(k==29)=false:=by simpa using h29
 have e30:(k==30)=false:=by simpa using h30
 have e31:(k==31)=false:=by simpa using h31
 have e32:(k==32)=false:=by simpa using h32
 have e33:(k==33)=false:=by simpa using h33
 have e34:(k==34)=false:=by simpa using h34
 by_cases h1:1≤k
 ·have t1:decide (1≤k)=true:=Dt h1
  have t2:decide (k≥1)=true:=Dt h1;have t3:decide (k≤11)=false:=Df Om;have t4:decide (12≤k)=true:=Dt Om;have t5:decide (k≥12)=true:=Dt Om;have t6:decide (k≤26)=false:=Df Om;clear a1 a2 e h1 h27 h28 h29 h30 h31 h32 h33 h34;go_enter func133,ntmps133;go_wp2_with fail;go_ret;exact⟨rfl,rfl⟩
 ·have t1:decide (1≤k)=false:=Df h1
  have t2:decide (k≥1)=false:=Df h1;have t4:decide (12≤k)=false:=Df Om;have t5:decide (k≥12)=false:=Df Om;clear a1 a2 e h1 h27 h28 h29 h30 h31 h32 h33 h34;go_enter func133,ntmps133;go_wp2_with fail;go_ret;exact⟨rfl,rfl⟩
end Go.Proofs.YtkgkafjachjafaaGreat
