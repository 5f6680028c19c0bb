/- Part 29 of: FnExactEffects answers true; no condition. -/
import Derived.Deep.RegionLaw
import Derived.Test.YtkgkafjachjafaaGreatY25
set_option linter.unusedVariables false
set_option maxHeartbeats 4000000
set_option maxRecDepth 100000
open Go Go.RowKit
namespace Go.Proofs.YtkgkafjachjafaaGreat
open Tryz
section
variable {w:World} {wb gb:Nat} {r0 r1 r2 t0 t1 ov:Value} {s:SS} {nv kv wv:Value} {r:Reg} {t:Q1} {E:SS→Int→Int×SS} {W:SS→Int→SS} {f:Nat}
theorem Q9z (hE:Q3d r t f E) (hQ:∀s i,EqX s (E s i).2) (h:SpR w wb gb r0 r1 r2 t0 t1 ov s nv kv wv) (F:Xl (at2 wb gb) w r t r0 r1 r2 t0 t1) (hok:Qz t s) (hK:Qk t) (hsz:t.nodes.length≤4000)
  {i:Int} (hi:InT t i) (hif:i≤f) {a:Int} {ks:List Int} (Qnf:(t.at i).kids=a::ks) (hea:Qu (t.at a).kind=true) :
  Calls prog 205 #[.pointer (some ⟨wb,0,none⟩),.int .i64 i] w fun e w'=>e=.returned (.tuple #[])∧AtX w wb gb r0 r1 r2 t0 t1 ov (Q0d E s i (t.at i)) w':=by
 obtain⟨mi,rfl,hnd,nb,no,nc,A,kb,ko,kc,rfl,hl,hml,⟨c0,c1,c2,c3⟩,kl,klc,hA,W0,hW0,h0,F0,hk0,hbx,hkc,cw3,H0,HF0,HK0,HBX,HKC⟩:=h.nodeH F hi;have HOK:=Hh hok;have HI:=Hh hi;have hka:kidAt (t.at (mi:Int)) 0=a:=by simp[kidAt,Qnf]
 have hai:InT t a:=hi.kid hK (by rw[Qnf];simp);have haf:a<f:=by have:=(hK.mem hi (k:=a) (by rw[Qnf];simp)).2;omega
 have hx:Q0d E s (mi:Int) (t.at (mi:Int))=(if (E s a).2.code≠0 then (E s a).2
   else if (t.at (mi:Int)).kind=12 then
    (if 0≤J3 (t.at (mi:Int)).text (E s a).2.names then (E s a).2.fail 2 mi else {(E s a).2 with names:=(E s a).2.names++[(t.at (mi:Int)).text],kinds:=(E s a).2.kinds++[(E s a).1]})
   else if J3 (t.at (mi:Int)).text (E s a).2.names<0 then (E s a).2.fail 3 mi
   else if Z7 (E s a).2.kinds (J3 (t.at (mi:Int)).text (E s a).2.names).toNat≠(E s a).1 then (E s a).2.fail 4 mi else (E s a).2):=by
  unfold Q0d;rw[hka]
 have HX:=Hh hx;clear hx;generalize Q0d E s (mi:Int) (t.at (mi:Int))=X at HX ⊢;obtain⟨z0,z1,z2,z3⟩:=hbx W0 (Kr _ _);have ze:=hkc 0 a (by rw[Qnf];rfl) W0 (Kr _ _);rw[Nat.add_zero] at ze;have Qo7:0<(t.at (mi:Int)).kids.length:=by rw[Qnf];simp
 obtain rfl:=hA Qo7;have Qnr:=hE W0 wb gb _ _ _ _ _ _ s nv kv wv a h0 F0 hok hai haf hea;have Qnh:=Hh Qnr;have hq9:=hQ s a;obtain⟨nA,nbk,nq,ncap,rfl,nl,nlc,hnA,hnc⟩:=h0.n.strs;obtain⟨kA,kbk,kq,kcap,rfl,kl9,klc9,hkA,Qw1⟩:=h0.k.ints;have Qp7:=hok.few;have hnk:=hok.nk;have hbn:s.names.length≤4000:=Om
 have hbk:s.kinds.length≤4000:=Om
 have HNA:=Hh fun h0=>(hnA h0).1
 have HNC:=Hh hnc;have HKA:=Hh hkA;have Qw2:=Hh Qw1;have HQ9:=Hh hq9;have HNK:=Hh hnk;have hwl:=h0.wl;have hgl:=h0.gl;clear hkc hbx hk0 F0 h0 hok hi hK Qnf hE hQ F h hai haf hea hka hif hA hnd Qnr hnA hnc hkA Qw1 hq9 hnk;generalize hN:t.at (mi:Int)=n at *;clear hN;generalize E s a=q at Qnh HX HQ9;obtain⟨k1,s1⟩:=q;dsimp only at Qnh HX HQ9;have hns:=HQ9.o.names;have hks:=HQ9.o.kinds;rw[hns,hks] at HX;have HNS:=Hh hns;have HKS:=Hh hks;clear hns hks;generalize hli:J3 n.text s.names=li at HX;have HLI:=Hh hli;clear hli;cases hc:(s1.code != 0) with
 |true =>
  have HC:=Hh hc;go_enter func205,ntmps205;go_wp2_with (go_at_call 212;refine Qnh.o.mono ?_;rintro e w1 ⟨rfl,Qng⟩;have H1:=Hh Qng.1;have HK1:=Hh Qng.2;have pc:w1.cell? ⟨wb,13,none⟩=some (.int .i64 s1.code):=Qng.1.blk.cell 13 _ rfl;have y1:=fun W (hk:Q0 (fun k=>k=wb) w1 W)=>(HBX.o W (Qng.2.trans (hk.mono fun k _ e=>.inl e))).2.1;obtain⟨y0,y10,y2,y3⟩:=HBX.o w1 Qng.2;have p7:=Qng.1.blk.cell 7 _ rfl;have p6:=Qng.1.blk.cell 6 _ rfl;have g6:=Qng.1.blk.free 6;have hw1:wb<w1.heap.size:=Qng.1.wl;clear Qng);go_returns;rw[HX.o,Ps (by simpa using HC.o)];exact⟨rfl,_,_,_,H1.o,HK0.o.trans HK1.o⟩
 |false =>
 have HC:=Hh hc;rw[Ng (by simpa using hc)] at HX;cases h12:(n.kind==12) with
 |false =>
  rw[Ng (by simpa using h12)] at HX
  by_cases hl0:li<0
  ·have tl:decide (li<0)=true:=Dt hl0
   rw[Ps hl0] at HX;go_enter func205,ntmps205;go_wp2_with (first|(go_at_call 212;refine Qnh.o.mono ?_;rintro e w1 ⟨rfl,Qng⟩;have H1:=Hh Qng.1;have HK1:=Hh Qng.2;have pc:w1.cell? ⟨wb,13,none⟩=some (.int .i64 s1.code):=Qng.1.blk.cell 13 _ rfl;have y1:=fun W (hk:Q0 (fun k=>k=wb) w1 W)=>(HBX.o W (Qng.2.trans (hk.mono fun k _ e=>.inl e))).2.1;obtain⟨y0,y10,y2,y3⟩:=HBX.o w1 Qng.2;have p7:=Qng.1.blk.cell 7 _ rfl;have p6:=Qng.1.blk.cell 6 _ rfl;have g6:=Qng.1.blk.free 6;have hw1:wb<w1.heap.size:=Qng.1.wl;clear Qng)|(go_at_call 220;refine (Q0t H1.o n.text).mono ?_;rw[HNS.o,HLI.o];rintro e w2 ⟨rfl,rfl⟩)|(go_at_call 136;refine (Qw H1.o _ _).mono ?_;rintro e w4 ⟨rfl,hat⟩));go_returns;rw[HX.o];exact⟨rfl,_,_,_,hat.1,(HK0.o.trans HK1.o).trans hat.2⟩
  ·have tl:decide (li<0)=false:=Df hl0
   rw[Ng hl0] at HX;obtain⟨m,rfl⟩:∃m:Nat,li=m:=En Om;have Qy0:m<s.kinds.length:=by have:=Q8o n.text s.names;rw[HLI.o,HNK.o] at this;omega
   obtain⟨x,hx⟩:=Q4 Qy0;have hgx:Z7 s.kinds (m:Int).toNat=x:=by simp[Z7,hx]
   rw[hgx] at HX;obtain rfl:=(HKA.o Om).1;have HKX:Hi (∀W,Q0 (at2 wb gb) W0 W→W.cell? ⟨kbk,kq+m,none⟩=some (.int .i64 x)):=Hh fun W hW=>Qw2.o m x hx W hW
   have hmi:(m:Int)<(s.kinds.length:Int):=Om
   clear hx hgx hl0;cases hq:(x != k1) with
   |true =>
    have HQQ:=Hh hq;go_enter func205,ntmps205;go_wp2_with (first|((go_at_call 212;refine Qnh.o.mono ?_;rintro e w1 ⟨rfl,Qng⟩;have H1:=Hh Qng.1;have HK1:=Hh Qng.2;have pc:w1.cell? ⟨wb,13,none⟩=some (.int .i64 s1.code):=Qng.1.blk.cell 13 _ rfl;have y1:=fun W (hk:Q0 (fun k=>k=wb) w1 W)=>(HBX.o W (Qng.2.trans (hk.mono fun k _ e=>.inl e))).2.1;obtain⟨y0,y10,y2,y3⟩:=HBX.o w1 Qng.2;have p7:=Qng.1.blk.cell 7 _ rfl;have p6:=Qng.1.blk.cell 6 _ rfl;have g6:=Qng.1.blk.free 6;have hw1:wb<w1.heap.size:=Qng.1.wl;clear Qng);have ex:=HKX.o w1 HK1.o)|(go_at_call 220;refine (Q0t H1.o n.text).mono ?_;rw[HNS.o,HLI.o];rintro e w2 ⟨rfl,rfl⟩)|(go_at_call 136;refine (Qw H1.o _ _).mono ?_;rintro e w4 ⟨rfl,hat⟩));go_returns;rw[HX.o,Ps (by simpa using HQQ.o)];exact⟨rfl,_,_,_,hat.1,(HK0.o.trans HK1.o).trans hat.2⟩
   |false =>
    have HQQ:=Hh hq;go_enter func205,ntmps205;go_wp2_with (first|((go_at_call 212;refine Qnh.o.mono ?_;rintro e w1 ⟨rfl,Qng⟩;have H1:=Hh Qng.1;have HK1:=Hh Qng.2;have pc:w1.cell? ⟨wb,13,none⟩=some (.int .i64 s1.code):=Qng.1.blk.cell 13 _ rfl;have y1:=fun W (hk:Q0 (fun k=>k=wb) w1 W)=>(HBX.o W (Qng.2.trans (hk.mono fun k _ e=>.inl e))).2.1;obtain⟨y0,y10,y2,y3⟩:=HBX.o w1 Qng.2;have p7:=Qng.1.blk.cell 7 _ rfl;have p6:=Qng.1.blk.cell 6 _ rfl;have g6:=Qng.1.blk.free 6;have hw1:wb<w1.heap.size:=Qng.1.wl;clear Qng);have ex:=HKX.o w1 HK1.o)|(go_at_call 220;refine (Q0t H1.o n.text).mono ?_;rw[HNS.o,HLI.o];rintro e w2 ⟨rfl,rfl⟩)|(go_at_call 136;refine (Qw H1.o _ _).mono ?_;rintro e w4 ⟨rfl,hat⟩));go_returns;rw[HX.o,Ng (by simpa using HQQ.o)];exact⟨rfl,_,_,_,H1.o,HK0.o.trans HK1.o⟩
 |true =>
 rw[Ps (by simpa using h12)] at HX
 by_cases hl0:0≤li
 ·have tl:decide (li≥0)=true:=Dt hl0
  have tl':decide (0≤li)=true:=Dt hl0;rw[Ps hl0] at HX;go_enter func205,ntmps205;go_wp2_with (first|(go_at_call 212;refine Qnh.o.mono ?_;rintro e w1 ⟨rfl,Qng⟩;have H1:=Hh Qng.1;have HK1:=Hh Qng.2;have pc:w1.cell? ⟨wb,13,none⟩=some (.int .i64 s1.code):=Qng.1.blk.cell 13 _ rfl;have y1:=fun W (hk:Q0 (fun k=>k=wb) w1 W)=>(HBX.o W (Qng.2.trans (hk.mono fun k _ e=>.inl e))).2.1;obtain⟨y0,y10,y2,y3⟩:=HBX.o w1 Qng.2;have p7:=Qng.1.blk.cell 7 _ rfl;have p6:=Qng.1.blk.cell 6 _ rfl;have g6:=Qng.1.blk.free 6;have hw1:wb<w1.heap.size:=Qng.1.wl;clear Qng)|(go_at_call 220;refine (Q0t H1.o n.text).mono ?_;rw[HNS.o,HLI.o];rintro e w2 ⟨rfl,rfl⟩)|(go_at_call 136;refine (Qw H1.o _ _).mono ?_;rintro e w4 ⟨rfl,hat⟩));go_returns;rw[HX.o];exact⟨rfl,_,_,_,hat.1,(HK0.o.trans HK1.o).trans hat.2⟩
 ·have tl:decide (li≥0)=false:=Df hl0
  have tl':decide (0≤li)=false:=Df hl0;rw[Ng hl0] at HX;clear hl0;go_enter func205,ntmps205;go_upto_region 7 with (first|(go_at_call 212;refine Qnh.o.mono ?_;rintro e w1 ⟨rfl,Qng⟩;have H1:=Hh Qng.1;have HK1:=Hh Qng.2;have pc:w1.cell? ⟨wb,13,none⟩=some (.int .i64 s1.code):=Qng.1.blk.cell 13 _ rfl;have y1:=fun W (hk:Q0 (fun k=>k=wb) w1 W)=>(HBX.o W (Qng.2.trans (hk.mono fun k _ e=>.inl e))).2.1;obtain⟨y0,y10,y2,y3⟩:=HBX.o w1 Qng.2;have p7:=Qng.1.blk.cell 7 _ rfl;have p6:=Qng.1.blk.cell 6 _ rfl;have g6:=Qng.1.blk.free 6;have hw1:wb<w1.heap.size:=Qng.1.wl;clear Qng)|(go_at_call 220;refine (Q0t H1.o n.text).mono ?_;rw[HNS.o,HLI.o];rintro e w2 ⟨rfl,rfl⟩))
  go_cut [] (fun wx=>∃(vA:Option Addr) (vc:Nat),SpR wx wb gb r0 r1 r2 (.slice (some ⟨nb,no,none⟩) t.nodes.length nc) t1 ov {s1 with names:=s.names++[n.text]} (.slice vA (s.names.length+1) vc) (.slice kA s.kinds.length kcap) wv∧Q0 (at2 wb gb) w1 wx)
  case first =>
   have hr0:Q0 (fun k=>k=wb) w1 w1:=Kr _ _;have ya:=fun o=>y1 _ (hr0.alloc o)
   have yb:=fun o o'=>y1 _ ((hr0.alloc o).alloc o')
   have pa:=fun o=>(H1.o.nobk ((Kr nob w1).alloc o)).blk.cell 6 _ rfl
   have pb:=fun o o'=>(H1.o.nobk (((Kr nob w1).alloc o).alloc o')).blk.cell 6 _ rfl
   go_region_law (first|(refine Q2f rfl (Y3 w1 Kz _ _ 66 9 (.string ByteArray.empty) 16 rfl underlying66 Kf rfl _ (strs s.names) rfl (by first|exact Jv rfl (by simp)|exact Q0k rfl Sm) (by first|exact Nat.le_refl _|simp|omega) nA nbk nq _ ncap rfl (Qr _).symm (fun h0=>HNA.o (by rw[Qr] at h0;exact h0)) (Q65 fun j x hx=>HNC.o j x hx _ (HK1.o.trans (Q0.ofNob Kz _))) (Q3z _) (by rw[Qr];omega) (by rw[Qr];omega) ?_);intro v2 w2 ho2 hk2 Qq7;have Qw3:Q0 (fun k=>k=wb) w1 w2:=Qq7.ofNob _;have Qoa:=Qq7.size;have y12:=y1 _ Qw3;have y13:=fun o=>y1 _ (Qw3.alloc o);dsimp only)|(refine Q2f rfl (Xf (Q6 w1.heap.size) _ _ 66 9 (.string ByteArray.empty) 16 rfl underlying66 Kf rfl v2 (strs s.names) (strs [n.text]) rfl (some ⟨_,0,none⟩) _ 0 1 1 rfl rfl (fun _=>rfl) (Qbb (by first|exact Jv rfl (by simp)|exact Q3s hk2 (Jv rfl Sm) (by simp)|exact Q3s hk2 (Q0k rfl Sm) Sm)) (Q3z _) (Qc.mono (by first|exact ho2|exact ho2.alloc _) (fun k hk=>by simp[Q3k,Q6] at hk ⊢;omega)) (fun k hk=>by simp[Q6] at hk ⊢;omega) (by rw[Qr,Qr];simp;omega) (by rw[Qr,Qr];simp;omega) ?_);intro v3 w3 ho3 hk3;obtain⟨vA3,vc3,hv3⟩:=ho3.len;rw[show (strs s.names++strs [n.text]).length=s.names.length+1 from by rw[List.length_append,Qr,Qr];rfl] at hv3;subst hv3;have Qpo:Q0 nob w1 w3:=Q0.then_ (by first|exact Qq7|exact Qq7.alloc _) hk3 (fun q hq=>.inr (by have:=ho2.2 q hq;simp[Q3k] at this;omega));have Qzn:Q0 (fun k=>k=wb) w1 w3:=Qpo.ofNob _;have c63:=(H1.o.nobk Qpo).blk.cell 6 _ rfl;have f63:=(H1.o.nobk Qpo).blk.free 6;dsimp only))
   all_goals go_wp2_with fail
   all_goals go_meet
   all_goals
    refine⟨vA3,vc3,(H1.o.nobk Qpo).setNames (l:=s.names++[n.text]) (Q0z (by rw[← Qe7];exact ho3) (fun k hk e=>?_) So),(Qpo.ofNob _).wb 6 _⟩
    have h1:w1.heap.size≤k:=hk;have h2:=H1.o.gl;rcases e with e|e<;>omega
  case rest =>
   obtain⟨vA,vc,hS,hKc⟩:=hcut;obtain⟨wo,rfl⟩:∃wo:World,wo=wc:=⟨_,rfl⟩;have HS:=Hh hS;have HKc:=Hh hKc;have q7:wo.cell? ⟨wb,7,none⟩=some (.slice kA s.kinds.length kcap):=hS.blk.cell 7 _ rfl;have hwo:wb<wo.heap.size:=hS.wl;clear hS hKc y0 y1 y2 y3 y10 p6 p7 g6 pc;go_wp2_with (first|(at_builtin;refine Yw rfl (fun K hK=>?_);refine Y3 wo Kz _ _ 26 3 (.int .i64 0) 8 rfl underlying26 Kf rfl _ (Q5 s.kinds) rfl (Jv rfl (by first|rfl|simp)) (by first|exact Nat.le_refl _|simp|omega) kA kbk kq _ kcap rfl (Q2 _).symm (fun h0=>(HKA.o (by rw[Q2] at h0;exact h0)).1) (Q2q fun j x hx=>Qw2.o j x hx _ ((HK1.o.trans HKc.o).trans (Q0.ofNob Kz _))) (Q44 _) (by rw[Q2];omega) (by rw[Q2];omega) ?_;intro v5 w5 ho5 hk5 Qpp;refine hK _ _ ?_;clear hK;have HO5:=Hh (ho5.mono (fun k hk=>by simp[Q3k,Q6] at hk ⊢;omega):Qc (Q6 wo.heap.size) _ _ _ _);have Qrj:=Hh Qpp;clear ho5 hk5 Qpp)|(at_builtin;refine Qt (Q6 wo.heap.size) rfl _ _ 26 3 (.int .i64 0) 8 rfl underlying26 Kf rfl v5 (Q5 s.kinds) (.int .i64 k1) rfl rfl Sm rfl HO5.o (fun k hk=>Nat.le_trans Qrj.o.size hk) (by rw[Q2];omega) (by rw[Q2];omega) ?_;intro v6 w6 ho6 hk6 Qo1;obtain⟨vA6,vc6,hv6⟩:=ho6.len;rw[show (Q5 s.kinds++[Value.int .i64 k1]).length=s.kinds.length+1 from by rw[List.length_append,Q2];rfl] at hv6;subst hv6;have Qq8:=Hh (Qrj.o.then_ hk6 (fun q hq=>.inr (HO5.o.2 q hq)));have HO6:=Hh ho6;have y7:=(HS.o.nobk Qq8.o).blk.cell 7 _ rfl;have f7:=(HS.o.nobk Qq8.o).blk.free 7;clear ho6 hk6 Qo1));go_returns;rw[HX.o]
   have hst:∀k,Q6 wo.heap.size k→¬ at2 wb gb k:=by
    intro k hk e;have h1:wo.heap.size≤k:=hk;have h2:=HS.o.gl;rcases e with e|e<;>omega
   have h9:=(HS.o.nobk Qq8.o).setKinds (u:=.slice vA6 (s.kinds.length+1) vc6) (l:=s.kinds++[k1]) (Q0u (by rw[← Qa4];exact HO6.o) hst So);exact⟨rfl,_,_,_,h9,(((HK0.o.trans HK1.o).trans HKc.o).trans (Qq8.o.ofNob _)).wb 7 _⟩
end
end Go.Proofs.YtkgkafjachjafaaGreat
