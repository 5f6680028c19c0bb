/- Part 21 of: FnExactEffects answers true; no condition. -/
import Derived.BigQuiet
import Derived.Test.YtkgkafjachjafaaGreatY18
set_option linter.unusedVariables false
set_option maxHeartbeats 1000000
set_option maxRecDepth 100000
open Go Go.RowKit
namespace Go.Proofs.YtkgkafjachjafaaGreat
open Tryz
theorem K0p {p:Prop} (h:p:=by go_enter func204,ntmps204;go_wp2_with fail;go_ret;exact⟨Q7 (by simp[Q12]),rfl⟩):p:=h
theorem K0q {p:Prop} (h:p:=by go_enter func204,ntmps204;go_wp2_with fail;go_ret;exact⟨Q7 (by simp[Q12,hf,hn]),rfl⟩):p:=h
def Q12 (k:Int) (s:SS) (i:Int):Bool :=
 if k=18∨k=20 then !s.fn&&!s.inner else if k=14∨k=22∨k=23∨k=24 then s.each else if k=26 then s.fn&&decide (i=s.last) else true
section
variable {w:World} {wb gb:Nat} {r0 r1 r2 t0 t1 ov:Value} {s:SS} {nv kv wv:Value} {r:Reg} {t:Q1} {E:SS→Int→Int×SS} {f:Nat}
theorem Q1y (h:SpR w wb gb r0 r1 r2 t0 t1 ov s nv kv wv) (F:Xl (at2 wb gb) w r t r0 r1 r2 t0 t1) {i:Int} (hi:InT t i) :
  Calls prog 204 #[.pointer (some ⟨wb,0,none⟩),.int .i64 i] w fun e w'=>e=.returned (.bool (Zx t s i))∧w=w':=by
 have hst:Zx t s i=Q12 (t.at i).kind s i:=rfl;rw[hst];clear hst;obtain⟨mi,rfl,hnd⟩:=Q1.at_lt hi;obtain⟨A,nb,no,nc,rfl,hl,hlc,hA,hc⟩:=F.t0.nodes;have hml:(mi:Int)<t.nodes.length:=hi.2;obtain rfl:=hA Om;obtain⟨kv',Qni,_⟩:=hc mi _ hnd;have k0:=(Qni w (Kr _ _)).1;have c3:w.cell? ⟨wb,3,none⟩=some (.slice (some ⟨nb,no,none⟩) t.nodes.length nc):=h.blk.cell 3 _ rfl;have c8:w.cell? ⟨wb,8,none⟩=some (.bool s.each):=h.blk.cell 8 _ rfl;have c9:w.cell? ⟨wb,9,none⟩=some (.bool s.inner):=h.blk.cell 9 _ rfl;have c11:w.cell? ⟨wb,11,none⟩=some (.bool s.fn):=h.blk.cell 11 _ rfl;have c12:w.cell? ⟨wb,12,none⟩=some (.int .i64 s.last):=h.blk.cell 12 _ rfl;clear h F hA hc Qni hnd hi hlc;generalize (t.at (mi:Int)).kind=k at k0 ⊢
 by_cases h18:k=18
 ·subst h18
  cases hf:s.fn<;>cases hn:s.inner<;>rw[hf] at c11<;>rw[hn] at c9
  all_goals
   exact K0q
 by_cases h20:k=20
 ·subst h20
  cases hf:s.fn<;>cases hn:s.inner<;>rw[hf] at c11<;>rw[hn] at c9
  all_goals
   exact K0q
 by_cases h14:k=14
 ·subst h14
  exact K0p
 by_cases h22:k=22
 ·subst h22
  exact K0p
 by_cases h23:k=23
 ·subst h23
  exact K0p
 by_cases h24:k=24
 ·subst h24
  exact K0p
 by_cases h26:k=26
 ·subst h26
  cases hf:s.fn with
  |false =>
   rw[hf] at c11;go_enter func204,ntmps204;go_wp2_with fail;go_ret;exact⟨Q7 (by simp[Q12,hf]),rfl⟩
  |true =>
   rw[hf] at c11;cases hq:((mi:Int)==s.last) with
   |false =>
    go_enter func204,ntmps204;go_wp2_with fail;go_ret;exact⟨Q7 (by have:¬ (mi:Int)=s.last:=(by simpa using hq);simp[Q12,hf,this]),rfl⟩
   |true =>
    go_enter func204,ntmps204;go_wp2_with fail;go_ret;exact⟨Q7 (by have:(mi:Int)=s.last:=(by simpa using hq);simp[Q12,hf,this]),rfl⟩
 have e18:(k==18)=false:=by simpa using h18
 have e20:(k==20)=false:=by simpa using h20
 have e14:(k==14)=false:=by simpa using h14
 have e22:(k==22)=false:=by simpa using h22
 have e23:(k==23)=false:=by simpa using h23
 have e24:(k==24)=false:=by simpa using h24
 have e26:(k==26)=false:=by simpa using h26
 go_enter func204,ntmps204;go_wp2_with fail;go_ret;exact⟨Q7 (by simp[Q12,h18,h20,h14,h22,h23,h24,h26]),rfl⟩
theorem Q4i (hE:Q3d r t f E) (hQ:∀s i,EqX s (E s i).2) (h:SpR w wb gb r0 r1 r2 t0 t1 ov s nv kv wv) (F:Xl (at2 wb gb) w r t r0 r1 r2 t0 t1) (hok:Qz t s) (hK:Qk t)
  {i:Int} (hi:InT t i) (hif:i≤f) (sort:Int) {a:Int} {ks:List Int} (Qnf:(t.at i).kids=a::ks) (hea:Qu (t.at a).kind=true) :
  Calls prog 206 #[.pointer (some ⟨wb,0,none⟩),.int .i64 i,.int .i64 sort] w fun e w'=>e=.returned (.tuple #[])∧AtW w wb gb r0 r1 r2 t0 t1 ov (Xo r t E s i (t.at i) sort) nv kv wv w':=by
 obtain⟨mi,rfl,hnd,nb,no,nc,A,kb,ko,kc,rfl,hl,hml,⟨c0,c1,c2,c3⟩,kl,klc,hA,W0,hW0,h0,F0,hk0,hbx,hkc,cw3,H0,HF0,HK0,HBX,HKC⟩:=h.nodeH F hi;have HOK:=Hh hok;have HI:=Hh hi;have hka:kidAt (t.at (mi:Int)) 0=a:=by simp[kidAt,Qnf]
 have hai:InT t a:=hi.kid hK (by rw[Qnf];simp);have haf:a<f:=by have:=(hK.mem hi (k:=a) (by rw[Qnf];simp)).2;omega
 have hx:Xo r t E s (mi:Int) (t.at (mi:Int)) sort=(if (E s a).2.code≠0 then (E s a).2 else if J2 r sort (t.at (mi:Int)).text=0 then (E s a).2.fail 3 mi
   else if (t.at (mi:Int)).kind=14∧Zr (t.at (mi:Int)).text (E s a).2.withs=false then (E s a).2.fail 5 mi else if J2 r sort (t.at (mi:Int)).text≠(E s a).1 then (E s a).2.fail 4 mi else (E s a).2):=by
  unfold Xo;rw[hka]
 have HX:=Hh hx;clear hx;generalize Xo r t E s (mi:Int) (t.at (mi:Int)) sort=X at HX ⊢;obtain⟨z0,z1,z2,z3⟩:=hbx W0 (Kr _ _);have ze:=hkc 0 a (by rw[Qnf];rfl) W0 (Kr _ _);rw[Nat.add_zero] at ze;have Qo7:0<(t.at (mi:Int)).kids.length:=by rw[Qnf];simp
 obtain rfl:=hA Qo7;have Qnr:=hE W0 wb gb _ _ _ _ _ _ s nv kv wv a h0 F0 hok hai haf hea;have Qnh:=Hh Qnr;clear hkc hbx hk0 F0 h0 hok hi hK Qnf hE hQ F h hai haf hea hka hif hA hnd Qnr;generalize hN:t.at (mi:Int)=n at *;have HNN:=Hh hN;clear hN;generalize E s a=q at Qnh HX;obtain⟨k1,s1⟩:=q;dsimp only at Qnh HX;generalize hd:J2 r sort n.text=d at HX;have HD:=Hh hd;clear hd;cases hc:(s1.code != 0) with
 |true =>
  have HC:=Hh hc;go_enter func206,ntmps206;go_wp2_with (go_at_call 212;refine Qnh.o.mono ?_;rintro e w1 ⟨rfl,Qng⟩;have H1:=Hh Qng.1;have HK1:=Hh Qng.2;have pc:w1.cell? ⟨wb,13,none⟩=some (.int .i64 s1.code):=Qng.1.blk.cell 13 _ rfl;obtain⟨y0,y1,y2,y3⟩:=HBX.o w1 Qng.2;clear Qng);go_returns;rw[HX.o,Ps (by simpa using HC.o)];exact⟨rfl,H1.o,HK0.o.trans HK1.o⟩
 |false =>
 have HC:=Hh hc;rw[Ng (by simpa using hc)] at HX;cases hd0:(d==0) with
 |true =>
  have HD0:=Hh hd0;go_enter func206,ntmps206;go_wp2_with (first|(go_at_call 212;refine Qnh.o.mono ?_;rintro e w1 ⟨rfl,Qng⟩;have H1:=Hh Qng.1;have HK1:=Hh Qng.2;have pc:w1.cell? ⟨wb,13,none⟩=some (.int .i64 s1.code):=Qng.1.blk.cell 13 _ rfl;obtain⟨y0,y1,y2,y3⟩:=HBX.o w1 Qng.2;clear Qng)|(go_at_call 211;refine (Zd H1.o (HF0.o.kept HK1.o) sort n.text).mono ?_;rw[HD.o];rintro e w2 ⟨rfl,hk2⟩;have H2:=Hh (H1.o.nobk hk2);have HK2:=Hh (HK1.o.trans (hk2.ofNob _));obtain⟨x0,x1,x2,x3⟩:=HBX.o w2 (HK1.o.trans (hk2.ofNob _));have p10:w2.cell? ⟨wb,10,none⟩=some wv:=H2.o.blk.cell 10 _ rfl;have HWN:=(fun W (hk:Q0 nob w2 W)=>Jy W wv s1.withs n.text (H2.o.h.nob hk).now);(try simp only[HW.o] at HWN);replace HWN:=Hh HWN;clear hk2)|(go_at_call 136;refine (Qw (H2.o.nobk Kz) _ _).mono ?_;rintro e w4 ⟨rfl,hat⟩));go_returns;rw[HX.o,Ps (by simpa using HD0.o)];exact⟨rfl,hat.1,(HK0.o.trans HK2.o).trans hat.2⟩
 |false =>
 rw[Ng (by simpa using hd0)] at HX;cases h14:(n.kind==14) with
 |true =>
  cases hw:Zr n.text s1.withs with
  |false =>
   have HW:=Hh hw;rw[Ps ⟨by simpa using h14,hw⟩] at HX;clear hw;go_enter func206,ntmps206;go_upto_region 6 with (first|(go_at_call 212;refine Qnh.o.mono ?_;rintro e w1 ⟨rfl,Qng⟩;have H1:=Hh Qng.1;have HK1:=Hh Qng.2;have pc:w1.cell? ⟨wb,13,none⟩=some (.int .i64 s1.code):=Qng.1.blk.cell 13 _ rfl;obtain⟨y0,y1,y2,y3⟩:=HBX.o w1 Qng.2;clear Qng)|(go_at_call 211;refine (Zd H1.o (HF0.o.kept HK1.o) sort n.text).mono ?_;rw[HD.o];rintro e w2 ⟨rfl,hk2⟩;have H2:=Hh (H1.o.nobk hk2);have HK2:=Hh (HK1.o.trans (hk2.ofNob _));obtain⟨x0,x1,x2,x3⟩:=HBX.o w2 (HK1.o.trans (hk2.ofNob _));have p10:w2.cell? ⟨wb,10,none⟩=some wv:=H2.o.blk.cell 10 _ rfl;have HWN:=(fun W (hk:Q0 nob w2 W)=>Jy W wv s1.withs n.text (H2.o.h.nob hk).now);(try simp only[HW.o] at HWN);replace HWN:=Hh HWN;clear hk2))
   go_quiet ((exact Yh (HWN.o _ ((Kr _ _).drewN _))));go_wp2_with (go_at_call 136;refine (Qw (H2.o.nobk Kz) _ _).mono ?_;rintro e w4 ⟨rfl,hat⟩);go_returns;rw[HX.o];exact⟨rfl,hat.1,(HK0.o.trans (HK2.o.trans Kz)).trans hat.2⟩
  |true =>
   have HW:=Hh hw;rw[Ng (by rw[hw];simp)] at HX;clear hw;cases hq:(d != k1) with
   |true =>
    have HQ:=Hh hq;go_enter func206,ntmps206;go_upto_region 6 with (first|(go_at_call 212;refine Qnh.o.mono ?_;rintro e w1 ⟨rfl,Qng⟩;have H1:=Hh Qng.1;have HK1:=Hh Qng.2;have pc:w1.cell? ⟨wb,13,none⟩=some (.int .i64 s1.code):=Qng.1.blk.cell 13 _ rfl;obtain⟨y0,y1,y2,y3⟩:=HBX.o w1 Qng.2;clear Qng)|(go_at_call 211;refine (Zd H1.o (HF0.o.kept HK1.o) sort n.text).mono ?_;rw[HD.o];rintro e w2 ⟨rfl,hk2⟩;have H2:=Hh (H1.o.nobk hk2);have HK2:=Hh (HK1.o.trans (hk2.ofNob _));obtain⟨x0,x1,x2,x3⟩:=HBX.o w2 (HK1.o.trans (hk2.ofNob _));have p10:w2.cell? ⟨wb,10,none⟩=some wv:=H2.o.blk.cell 10 _ rfl;have HWN:=(fun W (hk:Q0 nob w2 W)=>Jy W wv s1.withs n.text (H2.o.h.nob hk).now);(try simp only[HW.o] at HWN);replace HWN:=Hh HWN;clear hk2))
    go_quiet ((exact Yh (HWN.o _ ((Kr _ _).drewN _))));go_wp2_with (go_at_call 136;refine (Qw (H2.o.nobk Kz) _ _).mono ?_;rintro e w4 ⟨rfl,hat⟩);go_returns;rw[HX.o,Ps (by simpa using HQ.o)];exact⟨rfl,hat.1,(HK0.o.trans (HK2.o.trans Kz)).trans hat.2⟩
   |false =>
    have HQ:=Hh hq;go_enter func206,ntmps206;go_upto_region 6 with (first|(go_at_call 212;refine Qnh.o.mono ?_;rintro e w1 ⟨rfl,Qng⟩;have H1:=Hh Qng.1;have HK1:=Hh Qng.2;have pc:w1.cell? ⟨wb,13,none⟩=some (.int .i64 s1.code):=Qng.1.blk.cell 13 _ rfl;obtain⟨y0,y1,y2,y3⟩:=HBX.o w1 Qng.2;clear Qng)|(go_at_call 211;refine (Zd H1.o (HF0.o.kept HK1.o) sort n.text).mono ?_;rw[HD.o];rintro e w2 ⟨rfl,hk2⟩;have H2:=Hh (H1.o.nobk hk2);have HK2:=Hh (HK1.o.trans (hk2.ofNob _));obtain⟨x0,x1,x2,x3⟩:=HBX.o w2 (HK1.o.trans (hk2.ofNob _));have p10:w2.cell? ⟨wb,10,none⟩=some wv:=H2.o.blk.cell 10 _ rfl;have HWN:=(fun W (hk:Q0 nob w2 W)=>Jy W wv s1.withs n.text (H2.o.h.nob hk).now);(try simp only[HW.o] at HWN);replace HWN:=Hh HWN;clear hk2))
    go_quiet ((exact Yh (HWN.o _ ((Kr _ _).drewN _))));go_wp2_with fail;go_returns;rw[HX.o,Ng (by simpa using HQ.o)];exact⟨rfl,H2.o.nobk Kz,HK0.o.trans (HK2.o.trans Kz)⟩
 |false =>
  have hne:¬ n.kind=14:=by simpa using h14
  rw[Ng (fun e=>hne e.1)] at HX;clear hne;cases hq:(d != k1) with
  |true =>
   have HQ:=Hh hq;go_enter func206,ntmps206;go_upto_region 6 with (first|(go_at_call 212;refine Qnh.o.mono ?_;rintro e w1 ⟨rfl,Qng⟩;have H1:=Hh Qng.1;have HK1:=Hh Qng.2;have pc:w1.cell? ⟨wb,13,none⟩=some (.int .i64 s1.code):=Qng.1.blk.cell 13 _ rfl;obtain⟨y0,y1,y2,y3⟩:=HBX.o w1 Qng.2;clear Qng)|(go_at_call 211;refine (Zd H1.o (HF0.o.kept HK1.o) sort n.text).mono ?_;rw[HD.o];rintro e w2 ⟨rfl,hk2⟩;have H2:=Hh (H1.o.nobk hk2);have HK2:=Hh (HK1.o.trans (hk2.ofNob _));obtain⟨x0,x1,x2,x3⟩:=HBX.o w2 (HK1.o.trans (hk2.ofNob _));have p10:w2.cell? ⟨wb,10,none⟩=some wv:=H2.o.blk.cell 10 _ rfl;have HWN:=(fun W (hk:Q0 nob w2 W)=>Jy W wv s1.withs n.text (H2.o.h.nob hk).now);(try simp only[HW.o] at HWN);replace HWN:=Hh HWN;clear hk2))
   go_quiet (fail);go_wp2_with (go_at_call 136;refine (Qw (H2.o.nobk Kz) _ _).mono ?_;rintro e w4 ⟨rfl,hat⟩);go_returns;rw[HX.o,Ps (by simpa using HQ.o)];exact⟨rfl,hat.1,(HK0.o.trans (HK2.o.trans Kz)).trans hat.2⟩
  |false =>
   have HQ:=Hh hq;go_enter func206,ntmps206;go_upto_region 6 with (first|(go_at_call 212;refine Qnh.o.mono ?_;rintro e w1 ⟨rfl,Qng⟩;have H1:=Hh Qng.1;have HK1:=Hh Qng.2;have pc:w1.cell? ⟨wb,13,none⟩=some (.int .i64 s1.code):=Qng.1.blk.cell 13 _ rfl;obtain⟨y0,y1,y2,y3⟩:=HBX.o w1 Qng.2;clear Qng)|(go_at_call 211;refine (Zd H1.o (HF0.o.kept HK1.o) sort n.text).mono ?_;rw[HD.o];rintro e w2 ⟨rfl,hk2⟩;have H2:=Hh (H1.o.nobk hk2);have HK2:=Hh (HK1.o.trans (hk2.ofNob _));obtain⟨x0,x1,x2,x3⟩:=HBX.o w2 (HK1.o.trans (hk2.ofNob _));have p10:w2.cell? ⟨wb,10,none⟩=some wv:=H2.o.blk.cell 10 _ rfl;have HWN:=(fun W (hk:Q0 nob w2 W)=>Jy W wv s1.withs n.text (H2.o.h.nob hk).now);(try simp only[HW.o] at HWN);replace HWN:=Hh HWN;clear hk2))
   go_quiet (fail);go_wp2_with fail;go_returns;rw[HX.o,Ng (by simpa using HQ.o)];exact⟨rfl,H2.o.nobk Kz,HK0.o.trans (HK2.o.trans Kz)⟩
end
end Go.Proofs.YtkgkafjachjafaaGreat
