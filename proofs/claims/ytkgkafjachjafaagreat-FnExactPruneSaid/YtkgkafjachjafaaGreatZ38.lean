/- Part 38 of x_holds; no condition. -/
import Derived.Test.YtkgkafjachjafaaGreatZ10
import Derived.Test.YtkgkafjachjafaaGreatZ25
import Derived.Test.YtkgkafjachjafaaGreatZ28
import Derived.Test.YtkgkafjachjafaaGreatZ34
import Derived.Test.YtkgkafjachjafaaGreatZ35
import Derived.Test.YtkgkafjachjafaaGreatZ36
set_option linter.unusedVariables false
set_option maxHeartbeats 8000000
set_option maxRecDepth 100000
open Go Go.RowKit
namespace Go.Proofs.YtkgkafjachjafaaGreat
open Tryz
section
variable {w:World} {wb gb:Nat} {r0 r1 r2 t0 t1 ov:Value} {s:SS} {nv kv wv:Value} {r:Reg} {t:Q1} {E:SS→Int→Int×SS} {f:Nat}
theorem Qc6 (hE:Q35 r t f E) (hQ:∀s i,EqX s (E s i).2) (h:SpR w wb gb r0 r1 r2 t0 t1 ov s nv kv wv) (F:Zb (at2 wb gb) w r t r0 r1 r2 t0 t1) (hok:Qx t s) (hK:Qj t)
  {i:Int} (hi:InT t i) (hif:i≤f) (hkd:(t.at i).kind=11) {a:Int} {ks:List Int} (Qmk:(t.at i).kids=a::ks) (hea:Qs (t.at a).kind=true) (h00:s.code=0) :
  Calls prog 222 #[.pointer (some ⟨wb,0,none⟩),.int .i64 i] w fun e w'=>e=.returned (.int .i64 (Q1y r t E s i (t.at i)).1)∧AtW w wb gb r0 r1 r2 t0 t1 ov (Q1y r t E s i (t.at i)).2 nv kv wv w':=by
 obtain⟨mi,rfl,hnd⟩:=Q1.at_lt hi;obtain⟨nb,no,nc,A,kb,ko,kc,rfl,hl,hml,⟨c0,c1,c2,c3⟩,kl,klc,hA,W0,hW0,h0,F0,hk0,hbx,hkc⟩:=h.node F hnd;have cw3:w.cell? ⟨wb,3,none⟩=some (.slice (some ⟨nb,no,none⟩) t.nodes.length nc):=h.blk.cell 3 _ rfl;have H0:=Hh h0;have HF0:=Hh F0;have HK0:=Hh hk0;have HBX:=Hh hbx;have HKC:=Hh hkc;have HOK:=Hh hok;have HI:=Hh hi;have hp:=Qhw hE hQ h0 F0 hok hK hi hif Qmk hea h00;generalize Q1y r t E s (mi:Int) (t.at (mi:Int))=X at hp ⊢;have tk11:((t.at (mi:Int)).kind==11)=true:=by rw[hkd];rfl
 obtain⟨z0,z1,z2,z3⟩:=hbx W0 (Kr _ _);have HP:=Hh hp;clear Qmk hkd hbx hkc hk0 F0 h0 F h hok hi hnd hE hQ hK hif hea h00 hp;generalize hN:t.at (mi:Int)=n at *;go_enter func222,ntmps222;go_wp2_with (go_at_call 230;refine HP.o.mono ?_;rintro e w2 ⟨rfl,hat⟩);go_returns;exact⟨rfl,hat.1,HK0.o.trans hat.2⟩
theorem Qay (h:SpR w wb gb r0 r1 r2 t0 t1 ov s nv kv wv) (F:Zb (at2 wb gb) w r t r0 r1 r2 t0 t1) (hok:Qx t s)
  {i:Int} (hi:InT t i) (hkd:(t.at i).kind=5) (hea:s.each=false) :
  Calls prog 222 #[.pointer (some ⟨wb,0,none⟩),.int .i64 i] w fun e w'=>e=.returned (.int .i64 0)∧AtW w wb gb r0 r1 r2 t0 t1 ov (s.fail 5 i) nv kv wv w':=by
 obtain⟨mi,rfl,hnd⟩:=Q1.at_lt hi;obtain⟨nb,no,nc,A,kb,ko,kc,rfl,hl,hml,⟨c0,c1,c2,c3⟩,kl,klc,hA,W0,hW0,h0,F0,hk0,hbx,hkc⟩:=h.node F hnd;have cw3:w.cell? ⟨wb,3,none⟩=some (.slice (some ⟨nb,no,none⟩) t.nodes.length nc):=h.blk.cell 3 _ rfl;have H0:=Hh h0;have HF0:=Hh F0;have HK0:=Hh hk0;have HBX:=Hh hbx;have HKC:=Hh hkc;have HOK:=Hh hok;have HI:=Hh hi;have tk11:((t.at (mi:Int)).kind==11)=false:=by rw[hkd];rfl
 have tk5:((t.at (mi:Int)).kind==5)=true:=by rw[hkd];rfl
 obtain⟨z0,z1,z2,z3⟩:=hbx W0 (Kr _ _);have p8:W0.cell? ⟨wb,8,none⟩=some (.bool false):=hea▸h0.blk.cell 8 _ rfl;clear hkd hbx hkc hk0 F0 h0 F h hok hi hnd hea;generalize hN:t.at (mi:Int)=n at *;go_enter func222,ntmps222;go_wp2_with (go_at_call 136;refine (Qu H0.o _ _).mono ?_;rintro e w2 ⟨rfl,hat⟩);go_returns;exact⟨rfl,hat.1,HK0.o.trans hat.2⟩
theorem Qm4 (hn:Qt t=true) (hE:Q35 r t f E) (hQ:∀s i,EqX s (E s i).2) (h:SpR w wb gb r0 r1 r2 t0 t1 ov s nv kv wv) (F:Zb (at2 wb gb) w r t r0 r1 r2 t0 t1) (hok:Qx t s) (hK:Qj t) (hsm:Jz t) (Qnj:∀k∈t.tops,InT t k)
  {i:Int} (hi:InT t i) (hif:i≤f) (hke:Qs (t.at i).kind=true) (h00:s.code=0) :
  Calls prog 222 #[.pointer (some ⟨wb,0,none⟩),.int .i64 i] w fun e w'=>e=.returned (.int .i64 (Q2w r t E s i).1)∧AtW w wb gb r0 r1 r2 t0 t1 ov (Q2w r t E s i).2 nv kv wv w':=by
 have hr:=hke;simp only[Qs,Q9,Bool.and_eq_true,decide_eq_true_eq] at hr
 by_cases h11:(t.at i).kind=11
 ·obtain⟨a,b,ks,Qmk,hea⟩:=Q67 hn hi h11
  rw[Q9h h11];exact Qc6 hE hQ h F hok hK hi hif h11 Qmk hea h00
 by_cases h5:(t.at i).kind=5∧s.each=false
 ·rw[Q7e h5.1 h5.2]
  exact Qay h F hok hi h5.1 h5.2
 have hb:Q2w r t E s i=Jp r t E i (t.at i) [] (t.at i).kids s:=by rw[Q9j h11 h5];unfold Jp;rw[List.nil_append]
 obtain⟨hek,Qmr⟩:=Q8e hn hi hke h11;rw[hb]
 by_cases h7:7≤(t.at i).kind
 ·by_cases e7:(t.at i).kind=7
  ·exact Qjl hE hQ h F hok hK Qnj hi hif e7 hek (Nat.zero_le _) (hsm i) h00
  by_cases e8:(t.at i).kind=8
  ·exact Qio hE hQ h F hok hK hi hif e8 hek ((Qmr (Or.inl e8)).2 (by omega)) (hsm i) h00
  by_cases e9:(t.at i).kind=9
  ·exact Qj7 hE hQ h F hok hK hi hif e9 hek (Qmr (Or.inr (Or.inl e9))).1 (hsm i) h00
  have e10:(t.at i).kind=10:=by omega
  exact Qgl hE hQ h F hok hK hi hif e10 hek ((Qmr (Or.inr (Or.inr e10))).2 (by omega)) (hsm i) h00
 have hk0:(t.at i).kids=[]:=by
  have hs:=Qbq hn hi hke;unfold Xb at hs;rw[Ps (by omega)] at hs;simpa using hs
 have hl:Jp r t E i (t.at i) [] (t.at i).kids s=Js r t s i (t.at i) []:=by rw[hk0];exact Q12 h00
 rw[hl]
 by_cases e1:(t.at i).kind=1
 ·exact Qjm h F hok hi hk0 e1
 by_cases e2:(t.at i).kind=2
 ·exact Qkg h F hok hi hk0 e2
 by_cases e3:(t.at i).kind=3
 ·exact Qk0 h F hok hi hk0 e3
 by_cases e4:(t.at i).kind=4
 ·exact Qjz h F hok hi hk0 e4
 by_cases e5:(t.at i).kind=5
 ·exact Qjc h F hok hi hk0 e5 (by simpa[e5] using h5)
 have e6:(t.at i).kind=6:=by omega
 exact Qiw h F hok hi hk0 e6
theorem Qc5 (hn:Qt t=true) (hK:Qj t) (hsm:Jz t) (Qnj:∀k∈t.tops,InT t k) (hE:Q35 r t f (Jr r t f)):Q35 r t (f+1) (Jr r t (f+1)):=by
 intro w wb gb r0 r1 r2 t0 t1 ov s nv kv wv i h F hok hi hif hke;have pc:w.cell? ⟨wb,13,none⟩=some (.int .i64 s.code):=h.blk.cell 13 _ rfl
 by_cases h00:s.code=0
 ·have hb:=Qm4 hn hE (EqX.expr r t f) h F hok hK hsm Qnj hi (by omega) hke h00
  rw[Qc9 h00];have hq:=EqX.bare (E:=Jr r t f) (EqX.expr r t f) r t s i;obtain⟨oc,rfl,hg⟩:=h.kindRow (by rw[hok.ko];have:=hi.2;have:=hi.1;omega);obtain⟨mi,rfl,hnd⟩:=Q1.at_lt hi;have hml:(mi:Int)<s.kindOf.length:=by rw[hok.ko];exact hi.2
  have hmn:mi<s.kindOf.length:=by omega
  have hko:s.kindOf.length≤140737488355328:=by obtain⟨A,nb,no,nc,_,hl,_⟩:=F.t0.nodes;rw[hok.ko];exact hl
  generalize Q2w r t (Jr r t f) s (mi:Int)=q at hb hq ⊢;obtain⟨k,z⟩:=q;have HB:=Hh hb;have HQ:=Hh hq;have HG:=Hh hg;rw[h00] at pc;clear hb hq hE hn hK hsm Qnj F hok hi hke hnd hif h hg;dsimp only at HB HQ ⊢;cases hc:(z.code != 0) with
  |true =>
   have HC:=Hh hc;go_enter func212,ntmps212;go_wp2_with (go_at_call 222;refine HB.o.mono ?_;rintro e w2 ⟨rfl,hat⟩;have pc2:w2.cell? ⟨wb,13,none⟩=some (.int .i64 z.code):=hat.1.blk.cell 13 _ rfl;have p15:w2.cell? ⟨wb,15,none⟩=some (.slice (some ⟨gb,0,none⟩) s.kindOf.length oc):=hat.1.blk.cell 15 _ rfl;obtain⟨x,hx⟩:=Q3 (xs:=z.kindOf) (j:=mi) (by rw[HQ.o.ko];exact hmn);obtain⟨k0,k1⟩:=hat.1.kindCell hx;have HAT:=Hh hat;clear hat hx);go_returns;rw[Q27 (by simpa using HC.o)];exact⟨rfl,HAT.o⟩
  |false =>
   have HC:=Hh hc;go_enter func212,ntmps212;go_wp2_with (go_at_call 222;refine HB.o.mono ?_;rintro e w2 ⟨rfl,hat⟩;have pc2:w2.cell? ⟨wb,13,none⟩=some (.int .i64 z.code):=hat.1.blk.cell 13 _ rfl;have p15:w2.cell? ⟨wb,15,none⟩=some (.slice (some ⟨gb,0,none⟩) s.kindOf.length oc):=hat.1.blk.cell 15 _ rfl;obtain⟨x,hx⟩:=Q3 (xs:=z.kindOf) (j:=mi) (by rw[HQ.o.ko];exact hmn);obtain⟨k0,k1⟩:=hat.1.kindCell hx;have HAT:=Hh hat;clear hat hx);go_returns;rw[Qbo (by simpa using HC.o)];exact⟨rfl,HAT.o.1.setO HG.o mi k,HAT.o.2.gb mi _⟩
 ·have tc:(s.code != 0)=true:=by simpa using h00
  have hx:Jr r t (f+1) s i=(0,s):=by unfold Jr;rw[Ps h00]
  rw[hx];have HH:=Hh h;clear h F hok hi hif hke hE hn hK hsm Qnj hx h00;go_enter func212,ntmps212;go_wp2_with fail;go_returns;exact⟨rfl,HH.o.nobk (by repeat' first|exact Kr _ _|apply Ka|apply Kd|apply Kn),by repeat' first|exact Kr _ _|apply Ka|apply Kd|apply Kn⟩
theorem Qls (hn:Qt t=true) (hK:Qj t) (hsm:Jz t) (Qnj:∀k∈t.tops,InT t k):∀f,Q35 r t f (Jr r t f):=by
 intro f
 induction f with
 |zero=>intro w wb gb r0 r1 r2 t0 t1 ov s nv kv wv i h F hok hi hif hke;have:=hi.1;omega
 |succ f ih=>exact Qc5 hn hK hsm Qnj ih
end
theorem Q17 {t:Q1} (hn:Qt t=true) {k:Int} (hk:InT t k) (h27:(t.at k).kind=27):Q47 t k:=by
 have hs:=Q0t hn hk (by omega);unfold Je at hs;rw[Ps h27] at hs
 exact fun x hx=>Yf hs hx
theorem Yp {a k:Int} (h:isK a k=true):k=a:=by simpa[isK] using h
section
variable {r:Reg} {t:Q1} {f:Nat}
theorem Qd9 (hn:Qt t=true) (hK:Qj t) (hsm:Jz t) (Qnj:∀k∈t.tops,InT t k) (hsz:t.nodes.length≤4000) (hW:Q7k r t f (Qp r t f)):Q7k r t (f+1) (Qp r t (f+1)):=by
 intro w wb gb r0 r1 r2 t0 t1 ov s nv kv wv i h F hok hi hif hks h00;have hE:=Qls (r:=r) hn hK hsm Qnj f;have hO:∀s i,InT t i→Qx t s→Qx t (Qp r t f s i):=Qx.stmt hK r f;have hQ:=EqX.expr r t f;have hif':i≤f:=by omega
 cases hs:Jt t s i with
 |false =>
  rw[show Qp r t (f+1) s i=s.fail 5 i from by unfold Qp;dsimp only;rw[hs];rfl];exact Qh3 h F hi hs
 |true =>
  have hr:=hks;simp only[Zp,Q9,Bool.and_eq_true,decide_eq_true_eq] at hr;have hS:=Yo hn hi hks;unfold Z5 at hS;have key:∀X,Qp r t (f+1) s i=X→∀{P:SS→Prop},P X→P (Qp r t (f+1) s i):=fun X e P hp=>by rw[e];exact hp
  by_cases h1:(t.at i).kind=12∨(t.at i).kind=13∨(t.at i).kind=14∨(t.at i).kind=15∨(t.at i).kind=19∨(t.at i).kind=23∨(t.at i).kind=26
  ·rw[Ps h1] at hS
   obtain⟨a,Qmk,hea⟩:=Xh hS;have hai:InT t a:=hi.kid hK (by rw[Qmk];simp);have haf:a<f:=by have:=(hK.mem hi (k:=a) (by rw[Qmk];simp)).2;omega
   have hka:kidAt (t.at i) 0=a:=by simp[kidAt,Qmk]
   rcases h1 with e|e|e|e|e|e|e
   ·rw[show Qp r t (f+1) s i=Q09 (Jr r t f) s i (t.at i) from by unfold Qp;dsimp only;rw[hs,Ps rfl,Ps (by omega)]]
    exact Qhb h F hi hs e fun W0 t0' h0 F0=>Q8b hE hQ h0 F0 hok hK hsz hi hif' Qmk hea
   ·rw[show Qp r t (f+1) s i=Q09 (Jr r t f) s i (t.at i) from by unfold Qp;dsimp only;rw[hs,Ps rfl,Ps (by omega)]]
    exact Qht h F hi hs e fun W0 t0' h0 F0=>Q8b hE hQ h0 F0 hok hK hsz hi hif' Qmk hea
   ·rw[show Qp r t (f+1) s i=Xp r t (Jr r t f) s i (t.at i) 1 from by unfold Qp;dsimp only;rw[hs,Ps rfl,Ng (by omega),Ps (by omega)]]
    exact Qgb h F hi hs e fun W0 t0' h0 F0=>(Q4a hE hQ h0 F0 hok hK hi hif' 1 Qmk hea).mono fun e w' ⟨he,hat⟩=>⟨he,_,_,_,hat⟩
   ·rw[show Qp r t (f+1) s i=Xp r t (Jr r t f) s i (t.at i) 2 from by unfold Qp;dsimp only;rw[hs,Ps rfl,Ng (by omega),Ng (by omega),Ps (by omega)]]
    exact Qh1 h F hi hs e fun W0 t0' h0 F0=>(Q4a hE hQ h0 F0 hok hK hi hif' 2 Qmk hea).mono fun e w' ⟨he,hat⟩=>⟨he,_,_,_,hat⟩
   ·rw[show Qp r t (f+1) s i=Xp r t (Jr r t f) s i (t.at i) 3 from by unfold Qp;dsimp only;rw[hs,Ps rfl,Ng (by omega),Ng (by omega),Ng (by omega),Ps (by omega)]]
    exact Qgh h F hi hs e fun W0 t0' h0 F0=>(Q4a hE hQ h0 F0 hok hK hi hif' 3 Qmk hea).mono fun e w' ⟨he,hat⟩=>⟨he,_,_,_,hat⟩
   ·rw[show Qp r t (f+1) s i=Xp r t (Jr r t f) s i (t.at i) 1 from by unfold Qp;dsimp only;rw[hs,Ps rfl,Ng (by omega),Ps (by omega)]]
    exact Qgm h F hi hs e fun W0 t0' h0 F0=>(Q4a hE hQ h0 F0 hok hK hi hif' 1 Qmk hea).mono fun e w' ⟨he,hat⟩=>⟨he,_,_,_,hat⟩
   ·rw[show Qp r t (f+1) s i=(Jr r t f s a).2 from by unfold Qp;dsimp only;rw[hs,hka,Ps rfl,Ng (by omega),Ng (by omega),Ng (by omega),Ng (by omega),Ng (by omega),Ng (by omega),Ng (by omega),Ng (by omega),Ng (by omega),Ng (by omega),Ps (by omega)]]
    exact Qgy h F hi hs e Qmk fun W0 t0' h0 F0=>hE W0 wb gb _ _ _ _ _ _ s nv kv wv a h0 F0 hok hai haf hea
  rw[Ng h1] at hS
  by_cases h16:(t.at i).kind=16
  ·rw[Ps h16,Bool.or_eq_true] at hS
   obtain⟨a,ks,Qmk,hea,hbl⟩:∃a ks,(t.at i).kids=a::ks∧Qs (t.at a).kind=true∧∀k∈ks,Q47 t k:=by
    rcases hS with hS|hS
    ·obtain⟨a,b,hk,h1,h2⟩:=Y9 hS
     exact⟨a,[b],hk,h1,fun k hk'=>by simp at hk';subst hk';exact Q17 hn (hi.kid hK (by rw[hk];simp)) (Yp h2)⟩
    ·obtain⟨a,b,c,hk,h1,h2,h3⟩:=Q1r hS
     refine⟨a,[b,c],hk,h1,fun k hk'=>?_⟩
     simp at hk';rcases hk' with rfl|rfl
     ·exact Q17 hn (hi.kid hK (by rw[hk];simp)) (Yp h2)
     ·exact Q17 hn (hi.kid hK (by rw[hk];simp)) (Yp h3)
   rw[show Qp r t (f+1) s i=Xz t (Jr r t f) (Qp r t f) s i (t.at i) 4 from by unfold Qp;dsimp only;rw[hs,Ps rfl,Ng (by omega),Ng (by omega),Ng (by omega),Ng (by omega),Ps (by omega)]];exact Qhc h F hi hs h16 fun W0 t0' h0 F0=>Q7s hE hQ hW hO h0 F0 hok hK hsz hi hif' 4 Qmk hea hbl
  rw[Ng h16] at hS
  by_cases h17:(t.at i).kind=17
  ·rw[Ps h17] at hS
   obtain⟨a,b,Qmk,hea,h2⟩:=Y9 hS;have hbl:∀k∈[b],Q47 t k:=fun k hk'=>by simp at hk';subst hk';exact Q17 hn (hi.kid hK (by rw[Qmk];simp)) (Yp h2)
   rw[show Qp r t (f+1) s i=Xz t (Jr r t f) (Qp r t f) s i (t.at i) 1 from by unfold Qp;dsimp only;rw[hs,Ps rfl,Ng (by omega),Ng (by omega),Ng (by omega),Ng (by omega),Ng (by omega),Ps (by omega)]];exact Qhh h F hi hs h17 fun W0 t0' h0 F0=>Q7s hE hQ hW hO h0 F0 hok hK hsz hi hif' 1 Qmk hea hbl
  rw[Ng h17] at hS
  by_cases h18:(t.at i).kind=18
  ·rw[Ps h18] at hS
   obtain⟨a,b,c,Qmk,_,_,h3⟩:=Q1r hS;rw[show Qp r t (f+1) s i=Q3s r t (Qp r t f) s (t.at i) from by unfold Qp;dsimp only;rw[hs,Ps rfl,Ng (by omega),Ng (by omega),Ng (by omega),Ng (by omega),Ng (by omega),Ng (by omega),Ps (by omega)]];exact Qhk h F hi hs h18 fun W0 t0' h0 F0=>Qhn hW hO h0 F0 hok hK hsz hsm hi hif' Qmk (Q17 hn (hi.kid hK (by rw[Qmk];simp)) (Yp h3)) h00
  rw[Ng h18] at hS
  by_cases h20:(t.at i).kind=20
  ·rw[Ps h20] at hS
   obtain⟨a,b,Qmk,_,h2⟩:=Y9 hS;rw[show Qp r t (f+1) s i=Q3x r t (Qp r t f) s i (t.at i) from by unfold Qp;dsimp only;rw[hs,Ps rfl,Ng (by omega),Ng (by omega),Ng (by omega),Ng (by omega),Ng (by omega),Ng (by omega),Ng (by omega),Ps (by omega)]];exact Qgw h F hi hs h20 fun W0 t0' h0 F0=>Qg1 hW hO h0 F0 hok hK hsz hi hif' Qmk (Q17 hn (hi.kid hK (by rw[Qmk];simp)) (Yp h2))
  rw[Ng h20] at hS
  by_cases h21:(t.at i).kind=21
  ·rw[Ps h21] at hS
   have hkk:∀k∈(t.at i).kids,∃e es,(t.at k).kids=e::es∧Qs (t.at e).kind=true:=fun k hk=>by
    have h28:=Yp (Yf hS hk);have hs2:=Q0t hn (hi.kid hK hk) (by omega);unfold Je at hs2;rw[Ng (by omega),Ps h28] at hs2;obtain⟨e,he,h2⟩:=Xh hs2;exact⟨e,[],he,h2⟩
   rw[show Qp r t (f+1) s i=Q16 r t (Jr r t f) (t.at i).kids [] s from by unfold Qp;dsimp only;rw[hs,Ps rfl,Ng (by omega),Ng (by omega),Ng (by omega),Ng (by omega),Ng (by omega),Ng (by omega),Ng (by omega),Ng (by omega),Ps (by omega)]];exact Qhz h F hi hs h21 fun W0 t0' h0 F0=>(Qeh hE hQ h0 F0 hok hK hi hif' hkk (hsm i) h00).mono fun e w' ⟨he,hat⟩=>⟨he,_,_,_,hat⟩
  rw[Ng h21] at hS
  by_cases h25:(t.at i).kind=25
  ·rw[Ps h25] at hS
   obtain⟨a,Qmk,h7⟩:=Xh hS;have hai:InT t a:=hi.kid hK (by rw[Qmk];simp);have haf:a<f:=by have:=(hK.mem hi (k:=a) (by rw[Qmk];simp)).2;omega
   have hka:kidAt (t.at i) 0=a:=by simp[kidAt,Qmk]
   rw[show Qp r t (f+1) s i=(Jr r t f s a).2 from by unfold Qp;dsimp only;rw[hs,hka,Ps rfl,Ng (by omega),Ng (by omega),Ng (by omega),Ng (by omega),Ng (by omega),Ng (by omega),Ng (by omega),Ng (by omega),Ng (by omega),Ng (by omega),Ps (by omega)]];exact Qhg h F hi hs h25 Qmk fun W0 t0' h0 F0=>hE W0 wb gb _ _ _ _ _ _ s nv kv wv a h0 F0 hok hai haf (by rw[Yp h7];rfl)
  by_cases h24:(t.at i).kind=24
  ·cases hd:(J3 r 1 (t.at i).text==0) with
   |true =>
    rw[show Qp r t (f+1) s i=s.fail 3 i from by unfold Qp;dsimp only;rw[hs,Ps rfl,Ng (by omega),Ng (by omega),Ng (by omega),Ng (by omega),Ng (by omega),Ng (by omega),Ng (by omega),Ng (by omega),Ng (by omega),Ps (by omega),Ps (by simpa using hd)]];exact Q92 h F hi hs h24 hd
   |false =>
    rw[show Qp r t (f+1) s i=s from by unfold Qp;dsimp only;rw[hs,Ps rfl,Ng (by omega),Ng (by omega),Ng (by omega),Ng (by omega),Ng (by omega),Ng (by omega),Ng (by omega),Ng (by omega),Ng (by omega),Ps (by omega),Ng (by simpa using hd)]];exact Q83 h F hi hs h24 hd
  have h22:(t.at i).kind=22:=by omega
  rw[show Qp r t (f+1) s i=s from by unfold Qp;dsimp only;rw[hs,Ps rfl,Ng (by omega),Ng (by omega),Ng (by omega),Ng (by omega),Ng (by omega),Ng (by omega),Ng (by omega),Ng (by omega),Ng (by omega),Ng (by omega),Ng (by omega)]];exact Qhu h F hi hs h22
theorem Qm7 (hn:Qt t=true) (hK:Qj t) (hsm:Jz t) (Qnj:∀k∈t.tops,InT t k) (hsz:t.nodes.length≤4000):∀f,Q7k r t f (Qp r t f):=by
 intro f
 induction f with
 |zero=>intro w wb gb r0 r1 r2 t0 t1 ov s nv kv wv i h F hok hi hif hks h00;have:=hi.1;omega
 |succ f ih=>exact Qd9 hn hK hsm Qnj hsz ih
end
theorem Qjk {a a' b:Value} {m:Nat} (hd:∀q,a.ownBlock=some q→b.ownBlock≠some q) (hat:a'.ownBlock=a.ownBlock∨∃x,a'.ownBlock=some x∧m≤x) (hlt:∀q,b.ownBlock=some q→q<m):∀q,a'.ownBlock=some q→b.ownBlock≠some q:=by
 intro q hq e;rcases hat with h|⟨x,h,hx⟩
 ·rw[h] at hq;exact hd q hq e
 ·rw[h] at hq;cases hq;have:=hlt _ e;omega
theorem Qgf {a b b':Value} {m:Nat} (hd:∀q,a.ownBlock=some q→b.ownBlock≠some q) (hat:b'.ownBlock=b.ownBlock∨∃x,b'.ownBlock=some x∧m≤x) (hlt:∀q,a.ownBlock=some q→q<m):∀q,a.ownBlock=some q→b'.ownBlock≠some q:=by
 intro q hq e;rcases hat with h|⟨x,h,hx⟩
 ·rw[h] at e;exact hd q hq e
 ·rw[h] at e;cases e;have:=hlt _ hq;omega
structure Qfl (t:Q1) (i:Int) (ps:List Int) (b:Int):Prop where
 kids:(t.at i).kids=ps++[b]
 blk:Q47 t b
 ends:∀l,(t.at b).kids.getLast?=some l→(t.at l).kind=26→∃e es,(t.at l).kids=e::es
section
variable {w:World} {wb gb:Nat} {r0 r1 r2 t0 t1 ov:Value} {s:SS} {nv kv wv:Value} {r:Reg} {t:Q1}
theorem Qia (hn:Qt t=true) (hK:Qj t) (hsm:Jz t) (Qnj:∀k∈t.tops,InT t k) (hsz:t.nodes.length≤4000) (h:SpR w wb gb r0 r1 r2 t0 t1 ov s nv kv wv) (F:Zb (at2 wb gb) w r t r0 r1 r2 t0 t1) (hok:Qx t s) (h00:s.code=0)
  {k:Nat} {i:Int} (hti:t.tops[k]?=some i) {ps:List Int} {b:Int} (Qo0:Qfl t i ps b) :
  Calls prog 107 #[.pointer (some ⟨wb,0,none⟩),.int .i64 (k:Int)] w fun e w'=>e=.returned (.tuple #[])∧AtX w wb gb r0 r1 r2 t0 t1 ov (topS r t s k) w':=by
 have hi:=Qnj i (Mg hti);have hkt:k<t.tops.length:=(Gs hti).1;rw[Q8p r t s k i (by simp[Z4,hti])];obtain⟨oc,rfl,hog⟩:=h.kindRow (by rw[hok.ko];have:=hi.1;have:=hi.2;omega);obtain⟨B,tb,tq,tc,rfl,tl,tlc,hB,htd⟩:=F.t1.ints;obtain⟨rfl,_⟩:=hB (by omega);have ct:=htd k i hti w (Kr _ _);have c4:w.cell? ⟨wb,4,none⟩=some (.slice (some ⟨tb,tq,none⟩) t.tops.length tc):=h.blk.cell 4 _ rfl;have Qzc:(k:Int)<(t.tops.length:Int):=by omega
 obtain⟨mi,rfl,hnd⟩:=Q1.at_lt hi;obtain⟨nb,no,nc,A,kb,ko,kc,rfl,hl,hml,⟨c0,c1,c2,c3⟩,kl,klc,hA,W0,hW0,h0,F0,hk0,hbx,hkc⟩:=h.node F hnd;have cw3:w.cell? ⟨wb,3,none⟩=some (.slice (some ⟨nb,no,none⟩) t.nodes.length nc):=h.blk.cell 3 _ rfl;have H0:=Hh h0;have HF0:=Hh F0;have HK0:=Hh hk0;have HBX:=Hh hbx;have HKC:=Hh hkc;have HOK:=Hh hok;have HI:=Hh hi;have Qmk:=Qo0.kids;have hdl:(t.at (mi:Int)).kids.dropLast=ps:=by rw[Qmk,List.dropLast_concat]
 have hgl:(t.at (mi:Int)).kids.getLast?.getD 0=b:=by rw[Qmk,List.getLast?_concat];rfl
 rw[hdl,hgl]
 obtain⟨X,hx⟩:∃X,X=(if (t.tops.take k).any (fun j=>decide ((t.at j).text=(t.at (mi:Int)).text)) then ({s with top:=(k:Int),names:=[],kinds:=[]}:SS).fail 2 (mi:Int) else
   Q1i r t (mi:Int) (t.at (mi:Int)) b (Z6 t ps [] [] {s with top:=(k:Int),names:=[],kinds:=[],fn:=(t.at (mi:Int)).kind==33})):=⟨_,rfl⟩
 have HX:=Hh hx;rw[← hx];clear hx hdl hgl;have hbi:InT t b:=hi.kid hK (by rw[Qmk];simp);have HBI:=Hh hbi;have HPS:Hi (∀x∈ps,InT t x):=Hh fun x hx=>hi.kid hK (by rw[Qmk];simp[hx])
 have Qnf:Hi ((t.at (mi:Int)).kids.length=ps.length+1):=Hh (by rw[Qmk];simp);have hpl:ps.length≤1048576:=by have:=hsm (mi:Int);rw[Qmk] at this;simp at this;omega
 obtain rfl:=hA (by rw[Qmk];simp);have HEB:Hi (∀W,Q0 (at2 wb gb) W0 W→W.cell? ⟨kb,ko+ps.length,none⟩=some (.int .i64 b)):=Hh fun W hW=>hkc ps.length b (by rw[Qmk];simp) W hW
 have HEP:Hi (∀(j:Nat) x,ps[j]?=some x→∀W,Q0 (at2 wb gb) W0 W→W.cell? ⟨kb,ko+j,none⟩=some (.int .i64 x)):=Hh fun j x hx W hW=>hkc j x (by rw[Qmk,List.getElem?_append_left (Gs hx).1];exact hx) W hW
 have HTD:Hi (∀(j:Nat) x,t.tops[j]?=some x→∀W,Q0 (at2 wb gb) W0 W→W.cell? ⟨tb,tq+j,none⟩=some (.int .i64 x)):=Hh fun j x hx W hW=>htd j x hx W (hk0.trans hW)
 have Qq8:=Hh Qnj;have HN:=Hh hn;have HKO:=Hh hK;have HSM:=Hh hsm;have Qrs:=Hh Qo0;have H00:=Hh h00;have hwl:=h0.wl;have hgl:=h0.gl;have HOG:=Hh hog;have hc5:=h0.blk.cell 5 _ rfl;have hf5:=h0.blk.free 5;have s5:=h0.setTop (k:Int);have hc6:=s5.blk.cell 6 _ rfl;have hf6:=s5.blk.free 6;have s6:=s5.setNames (u:=.slice none 0 0) (l:=[]) (Q6m _ _);have hc7:=s6.blk.cell 7 _ rfl;have hf7:=s6.blk.free 7;have s7:=s6.setKinds (u:=.slice none 0 0) (l:=[]) (Qbw _ _);have hk7:Q0 (at2 wb gb) W0 (((W0.setCell ⟨wb,5,none⟩ (.int .i64 (k:Int))).setCell ⟨wb,6,none⟩ (.slice none 0 0)).setCell ⟨wb,7,none⟩ (.slice none 0 0)):=(((Kr _ _).wb 5 _).wb 6 _).wb 7 _;clear hkc hbx hk0 F0 h0 F h hok hi hnd Qmk hbi htd Qo0 h00 hK hn hsm Qnj hti hB hog s5 s6;generalize hN:t.at (mi:Int)=n at *;have HNN:=Hh hN;clear hN;go_enter func107,ntmps107;go_wp2_with fail;generalize hW1:((W0.setCell ⟨wb,5,none⟩ (.int .i64 (k:Int))).setCell ⟨wb,6,none⟩ (.slice none 0 0)).setCell ⟨wb,7,none⟩ (.slice none 0 0)=W1 at s7 hk7;have HS7:=Hh s7;have HK7:=Hh hk7;have hs7:W0.heap.size≤W1.heap.size:=hk7.size;clear hW1 s7 hk7 hc5 hf5 hc6 hf6 hc7 hf7;go_loopw [6] (fun m wr=>∃j:Nat,j≤k∧m=.int .i64 j∧Hi ((∀(q:Nat) x,q<j→t.tops[q]?=some x→(t.at x).text≠n.text)∧Q0 nob W1 wr)) (fun m _=>k-(intOf m).toNat)
 case atStart=>exact⟨0,Nat.zero_le _,rfl,Hh ⟨fun q x hq=>absurd hq (by omega),Kr _ _⟩⟩
 case round =>
  obtain⟨j,hj,rfl,HR⟩:=hrel;obtain⟨wo,rfl⟩:∃wo:World,wo=wr:=⟨_,rfl⟩;have HKR:=Hh (HK7.o.trans (HR.o.2.ofNob _));have HSR:=Hh (HS7.o.nobk HR.o.2)
  by_cases hlt:j<k
  ·obtain⟨x,hx⟩:=Q3 (xs:=t.tops) (j:=j) (by omega)
   have hxi:=Qq8.o x (Mg hx);obtain⟨mx,rfl,hnx⟩:=Q1.at_lt hxi;have hmx:(mx:Int)<t.nodes.length:=hxi.2;have e0:=HTD.o j _ hx wo HKR.o;obtain⟨_,_,_,_,hd,_,_,_,_⟩:=HF0.o.cells hnx;have d1:=(hd wo HKR.o).2.1;have p3:wo.cell? ⟨wb,3,none⟩=some (.slice (some ⟨nb,no,none⟩) t.nodes.length nc):=HSR.o.blk.cell 3 _ rfl;have p4:wo.cell? ⟨wb,4,none⟩=some (.slice (some ⟨tb,tq,none⟩) t.tops.length tc):=HSR.o.blk.cell 4 _ rfl;have x1:=(HBX.o wo HKR.o).2.1;have hjt:(j:Int)<(t.tops.length:Int):=by omega
   have hjk:(j:Int)<(k:Int):=by omega
   have HXT:=Hh hx;generalize hat:(t.at (mx:Int)).text=tx at *;have HTX:=Hh hat;clear hx hxi hnx hd hat;cases ty:(tx.toList==n.text.toList) with
   |true =>
    have HTY:=Hh ty
    have HXX:Hi (X=({s with top:=(k:Int),names:=[],kinds:=[]}:SS).fail 2 (mi:Int)):=Hh (by
     rw[HX.o,Ps];rw[List.any_eq_true];exact⟨_,Mg (i:=j) (by rw[List.getElem?_take_of_lt hlt];exact HXT.o),by rw[HTX.o];exact Dt (Q0c ty)⟩)
    go_upto_region 8 with fail
    go_quiet (fail);go_wp2_with (go_at_call 136;refine (Qu (HSR.o.nobk (by repeat' first|exact Kr _ _|apply Ka|apply Kd|apply Kn)) _ _).mono ?_;rintro e w4 ⟨rfl,hat⟩);go_returns;rw[HXX.o];exact⟨rfl,_,_,_,hat.1,(HK0.o.trans (HKR.o.trans (Q0.ofNob (by repeat' first|exact Kr _ _|apply Ka|apply Kd|apply Kn) _))).trans hat.2⟩
   |false =>
    have HTY:=Hh ty;go_upto_region 8 with fail
    go_quiet (fail);go_wp2_with fail;go_round
    case rel=>exact⟨j+1,by omega,by go_num,Hh ⟨fun q y hq hy=>by
     by_cases e:q=j
     ·subst e;rw[HXT.o] at hy;cases hy;rw[HTX.o];exact Q1s HTY.o
     ·exact HR.o.1 q y (by omega) hy,HR.o.2.trans (by repeat' first|exact Kr _ _|apply Ka|apply Kd|apply Kn)⟩⟩
    case measure=>simp[intOf];omega
  ·have hjk:j=k:=by omega
   have HXX:Hi (X=Q1i r t (mi:Int) n b (Z6 t ps [] [] {s with top:=(k:Int),names:=[],kinds:=[],fn:=n.kind==33})):=Hh (by
    rw[HX.o,Ng];intro e;rw[List.any_eq_true] at e;obtain⟨x,hx,hd⟩:=e;obtain⟨q,hq⟩:=List.mem_iff_getElem?.1 hx;have hqk:q<k:=by have:=(Gs hq).1;rw[List.length_take] at this;omega
    rw[List.getElem?_take_of_lt hqk] at hq;exact HR.o.1 q x (by omega) hq (by simpa using hd))
   have Qzd:¬ ((j:Int)<(k:Int)):=by omega
   have x0:=(HBX.o wo HKR.o).1;have p11:=HSR.o.blk.cell 11 _ rfl;have g11:=HSR.o.blk.free 11;have hso:W0.heap.size≤wo.heap.size:=HKR.o.size;clear HR HX hjk;have s11:=HSR.o.setFn (n.kind==33);have k11:Q0 (at2 wb gb) W0 (wo.setCell ⟨wb,11,none⟩ (.bool (n.kind==33))):=HKR.o.wb 11 _;obtain⟨s2,hs2⟩:∃s2,s2=({s with top:=(k:Int),names:=[],kinds:=[],fn:=n.kind==33}:SS):=⟨_,rfl⟩;have Qxi:Hi (X=Q1i r t (mi:Int) n b (Z6 t ps [] [] s2)):=Hh (by rw[hs2];exact HXX.o);have s11':SpR (wo.setCell ⟨wb,11,none⟩ (.bool (n.kind==33))) wb gb r0 r1 r2 (.slice (some ⟨nb,no,none⟩) t.nodes.length nc) (.slice (some ⟨tb,tq,none⟩) t.tops.length tc) (.slice (some ⟨gb,0,none⟩) s.kindOf.length oc) s2 (.slice none 0 0) (.slice none 0 0) wv:=by rw[hs2];exact s11
   have HS2:=Hh hs2;have Qvg:Hi (s2.code=0):=Hh (by rw[hs2];exact H00.o);clear s11 hs2 HXX HSR;go_wp2_with fail;generalize hWF:wo.setCell ⟨wb,11,none⟩ (.bool (n.kind==33))=wF at s11' k11;have hsF:wF.heap.size=wo.heap.size:=by rw[← hWF];simp[World.setCell]
   have hFs:(wF.alloc (.cells #[] 9 (0,0))).heap.size=wF.heap.size+1:=by simp
   have hn0:Qf (Q7 wF.heap.size) 9 ((wF.alloc (.cells #[] 9 (0,0))).alloc (.cells #[] 3 (0,0))) (.slice (some ⟨wF.heap.size,0,none⟩) 0 0) (strs []):=(Q9g wF).alloc _;have hq0:Qf (Q7 wF.heap.size) 3 ((wF.alloc (.cells #[] 9 (0,0))).alloc (.cells #[] 3 (0,0))) (.slice (some ⟨(wF.alloc (.cells #[] 9 (0,0))).heap.size,0,none⟩) 0 0) (Q4 []):=(Yk (wF.alloc (.cells #[] 9 (0,0)))).mono (fun k hk=>by have:(wF.alloc (.cells #[] 9 (0,0))).heap.size≤k:=hk;show wF.heap.size≤k;omega);rw[hFs] at hq0;have hkF:Q0 nob wF ((wF.alloc (.cells #[] 9 (0,0))).alloc (.cells #[] 3 (0,0))):=(by repeat' first|exact Kr _ _|apply Ka|apply Kd|apply Kn);rw[← hsF];generalize hW2:(wF.alloc (.cells #[] 9 (0,0))).alloc (.cells #[] 3 (0,0))=W2 at hn0 hq0 hkF;have HSF:=Hh s11';have Qxj:=Hh (s11'.nobk hkF);have Qxk:=Hh k11;have Qxl:=Hh (hkF.ofNob (at2 wb gb));have HN0:=Hh hn0;have HQ0:=Hh hq0;have HNS:Hi (∀q,Q7 wF.heap.size q→¬ at2 wb gb q):=Hh fun q hq e=>by have:wF.heap.size≤q:=hq;rcases e with e|e<;>omega
   have Qze:W0.heap.size≤wF.heap.size:=by omega
   clear hsF hWF hW2 s11' k11 hkF hn0 hq0 hFs p11 g11 x0;go_loopw [7,8,9,10] (fun un uk m _ wr=>∃(j:Nat) (names:List ByteArray) (kinds:List Int),j≤ps.length∧m=.int .i64 j∧Hi (names.length=j∧kinds.length=j∧Qf (Q7 wF.heap.size) 9 wr un (strs names)∧Qf (Q7 wF.heap.size) 3 wr uk (Q4 kinds)∧(∀q,un.ownBlock=some q→uk.ownBlock≠some q)∧SpR wr wb gb r0 r1 r2 (.slice (some ⟨nb,no,none⟩) t.nodes.length nc) (.slice (some ⟨tb,tq,none⟩) t.tops.length tc) (.slice (some ⟨gb,0,none⟩) s.kindOf.length oc) s2 (.slice none 0 0) (.slice none 0 0) wv∧Q0 (at2 wb gb) wF wr∧(X=Q1i r t (mi:Int) n b (Z6 t (ps.drop j) names kinds s2)∧names.Nodup∧∀x∈names,∃i,InT t i∧(t.at i).text=x))) (fun _ _ m _ _=>ps.length-(intOf m).toNat)
   case atStart=>exact⟨0,[],[],Nat.zero_le _,rfl,Hh ⟨rfl,rfl,HN0.o,HQ0.o,fun q hq e=>by simp[Value.ownBlock] at hq e;omega,Qxj.o,Qxl.o,Qxi.o,by simp,by simp⟩⟩
   case round =>
    obtain⟨j,names,kinds,hj,rfl,HR⟩:=hrel;obtain⟨wp,rfl⟩:∃wp:World,wp=wr:=⟨_,rfl⟩;have HKW:=Hh (Qxk.o.trans HR.o.2.2.2.2.2.2.1);have Qth:=Hh HR.o.2.2.2.2.2.2.1;have HSW:=Hh HR.o.2.2.2.2.2.1;have HRN:=Hh HR.o.2.2.1;have HRK:=Hh HR.o.2.2.2.1;have Qvh:=Hh HR.o.2.2.2.2.1;have HNL:Hi (names.length=j∧kinds.length=j):=Hh ⟨HR.o.1,HR.o.2.1⟩;have hnl:names.length≤1048576:=by have:=HNL.o.1;omega
    have hkl:kinds.length≤1048576:=by have:=HNL.o.2;omega
    obtain⟨nA,nc2,hun⟩:=HRN.o.len;rw[Qk] at hun;subst hun;obtain⟨kA,kc2,huk⟩:=HRK.o.len;rw[Q5] at huk;subst huk;have x3:=(HBX.o wp HKW.o).2.2.2;have Qzf:wF.heap.size≤wp.heap.size:=Qth.o.size
    by_cases hlt:j<ps.length
    ·obtain⟨x,hx⟩:=Q3 hlt
     have hxi:=HPS.o x (Mg hx);obtain⟨mx,rfl,hnx⟩:=Q1.at_lt hxi;have hmx:(mx:Int)<t.nodes.length:=hxi.2;have e0:=HEP.o j _ hx wp HKW.o;have HE0:Hi (∀W,Q0 (at2 wb gb) W0 W→W.cell? ⟨kb,ko+j,none⟩=some (.int .i64 (mx:Int))):=Hh fun W hW=>HEP.o j _ hx W hW
     obtain⟨PA,pb,po,pc,hd,_,_,_,_⟩:=HF0.o.cells hnx;obtain⟨d0,d1,d2,d3⟩:=hd wp HKW.o;have p3:wp.cell? ⟨wb,3,none⟩=some (.slice (some ⟨nb,no,none⟩) t.nodes.length nc):=HSW.o.blk.cell 3 _ rfl;have hjn:(j:Int)+1<(n.kids.length:Int):=by have:=Qnf.o;omega
     have Qvd:(j:Int)<(n.kids.length:Int):=by omega
     have HXJ:Hi (X=Q1i r t (mi:Int) n b (if Z9 (t.at (mx:Int)).text names then (names,kinds,s2.fail 2 (mx:Int)) else Z6 t (ps.drop (j+1)) (names++[(t.at (mx:Int)).text]) (kinds++[(t.at (mx:Int)).i]) s2)):=Hh (by rw[HR.o.2.2.2.2.2.2.2.1,Qd hx];rfl);have Qqe:=Hh HR.o.2.2.2.2.2.2.2.2;have HXI:=Hh hxi;generalize hat:t.at (mx:Int)=nd at *;have Qxm:=Hh hat;have hka:Q0 nob wp (wp.alloc (.cells #[.int .i64 0,.string ⟨#[]⟩,.int .i64 0,.slice none 0 0] 70)):=(Kr _ _).alloc _;have p3':=hka.cell id p3;have x3':=hka.cell id x3;have e0':=hka.cell id e0;have d0':=hka.cell id d0;have d1':=hka.cell id d1;have d2':=hka.cell id d2;have d3':=hka.cell id d3;clear hka hx hxi hnx hd HR;go_upto_region 16 with fail
     go_cut [10] from 73 to 113 (fun s10 wx=>∃p:Nat,s10=.pointer (some ⟨p,0,none⟩)∧Blk wx p [.int .i64 nd.kind,.string nd.text,.int .i64 nd.i,.slice PA nd.kids.length pc] 70∧Q0 nob wp wx∧wp.heap.size≤p)
     case first =>
      go_region
      all_goals go_wp2_with fail
      all_goals go_meet
      all_goals exact⟨_,rfl,(Blk.new _ [_,_,_,_] _).drew,((Kr _ _).alloc _).drew,by simp⟩
     case rest =>
      obtain⟨p,rfl,hb,hkx,hpl⟩:=hcut;have y1:=hb.cell 1 _ rfl;have y2:=hb.cell 2 _ rfl;have HB:=Hh hb;have HKX:=Hh (HKW.o.trans (hkx.ofNob _));have Qvi:=Hh (Qth.o.trans (hkx.ofNob _));have HSX:=Hh (HSW.o.nobk hkx);have Qqt:=Hh (HRN.o.nobk hkx);have Qvj:=Hh (HRK.o.nobk hkx);have x3x:=(HBX.o wc HKX.o).2.2.2;have e0x:=HE0.o wc HKX.o;have Qv3:wp.heap.size≤wc.heap.size:=hkx.size;clear hkx p3 x3 e0 d0 d1 d2 d3 p3' x3' e0' d0' d1' d2' d3';cases hw:Z9 nd.text names with
      |true =>
       have HWI:=Hh hw;have HXF:Hi (X=s2.fail 2 (mx:Int)):=Hh (by rw[HXJ.o,Ps hw];unfold Q1i;rw[Ps (fail_code Qvg.o (by decide))]);clear hw;go_wp2_with (first|(go_at_call 33;refine (Ji _ _ names nd.text (Qf.strs Qqt.o (by omega))).mono ?_;rw[HWI.o];rintro e w4 ⟨rfl,rfl⟩)|(go_at_call 136;refine (Qu HSX.o _ _).mono ?_;rintro e w4 ⟨rfl,hat⟩));go_returns;rw[HXF.o];exact⟨rfl,_,_,_,hat.1,(HK0.o.trans HKX.o).trans hat.2⟩
      |false =>
       have HWI:=Hh hw;rw[Ng (by rw[hw];simp)] at HXJ;clear hw;go_wp2_with (first|(go_at_call 33;refine (Ji _ _ names nd.text (Qf.strs Qqt.o (by omega))).mono ?_;rw[HWI.o];rintro e w4 ⟨rfl,rfl⟩)|(at_builtin;refine J1 (Q7 wF.heap.size) rfl _ _ 66 9 (.string ByteArray.empty) 16 rfl underlying66 (by kernel_rfl) rfl (.slice nA names.length nc2) (strs names) (.string nd.text) rfl rfl (by simp) rfl Qqt.o (fun q hq=>by show wF.heap.size≤q;omega) (by rw[Qk];omega) (by rw[Qk];omega) ?_;intro nv5 w5 Qmn hk5 Qmt;have Qvk:=Hh (Q10 Qvi.o hk5 (fun q hq=>Qqt.o.2 q hq));have HS5:=Hh (HSX.o.row hk5 (fun q hq=>HNS.o q (Qqt.o.2 q hq)) HSF.o Qvk.o (EqX.refl s2));have HO5:=Hh Qmn;have Qti:=Hh (Qvj.o.kept hk5 (fun q hq e=>Qvh.o q e hq));have HD5:Hi (∀q,nv5.ownBlock=some q→(Value.slice kA kinds.length kc2).ownBlock≠some q):=Hh (Qjk Qvh.o Qmt (fun q e=>Qvj.o.lt q e));have hs5:wc.heap.size≤w5.heap.size:=hk5.size;have z2:=(HB.o.kept hk5 (fun e=>by have:=Qqt.o.lt _ e;have:=HRN.o.lt _ e;omega)).cell 2 _ rfl;clear Qmn hk5 Qmt)|(at_builtin;refine J1 (Q7 wF.heap.size) rfl _ _ 26 3 (.int .i64 0) 8 rfl underlying26 (by kernel_rfl) rfl (.slice kA kinds.length kc2) (Q4 kinds) (.int .i64 nd.i) rfl rfl (by simp) rfl Qti.o (fun q hq=>by show wF.heap.size≤q;omega) (by rw[Q5];omega) (by rw[Q5];omega) ?_;intro nv6 w6 Qnl hk6 Qmz;have Qvl:=Hh (Q10 Qvk.o hk6 (fun q hq=>Qti.o.2 q hq));have HS6:=Hh (HS5.o.row hk6 (fun q hq=>HNS.o q (Qti.o.2 q hq)) HSF.o Qvl.o (EqX.refl s2));have HO6:=Hh Qnl;have Qxn:=Hh (HO5.o.kept hk6 (fun q hq e=>HD5.o q hq e));have HD6:Hi (∀q,nv5.ownBlock=some q→nv6.ownBlock≠some q):=Hh (Qgf HD5.o Qmz (fun q e=>HO5.o.lt q e));clear Qnl hk6 Qmz));go_round
       case rel=>exact⟨j+1,names++[nd.text],kinds++[nd.i],by omega,by go_num,Hh ⟨by have:=HNL.o.1;simp;omega,by have:=HNL.o.2;simp;omega,by have:=Qxn.o;simpa[strs] using this,by have:=HO6.o;simpa[Q4] using this,HD6.o,HS6.o,Qvl.o,HXJ.o,by
        rw[List.nodup_append]
        exact⟨Qqe.o.1,by simp,fun a ha b hb=>by
         simp at hb;subst hb;intro e;have:=(X6 nd.text names).2 (e▸ha);rw[HWI.o] at this;cases this⟩,fun y hy=>by
        rcases List.mem_append.1 hy with hy|hy
        ·exact Qqe.o.2 y hy
        ·simp at hy;subst hy;exact⟨_,HXI.o,by rw[Qxm.o]⟩⟩⟩
       case measure=>simp[intOf];omega
    ·have hje:j=ps.length:=by omega
     have hjn:¬ ((j:Int)+1<(n.kids.length:Int)):=by have:=Qnf.o;omega
     obtain⟨lv,hlv⟩:∃lv,lv=(t.at b).kids.getLast?.getD (-1):=⟨_,rfl⟩
     have HXE:Hi (X=topEnd t (mi:Int) n lv (Jf t (Qp r t t.nodes.length) {s2 with last:=lv} b names kinds)):=Hh (by
      rw[HR.o.2.2.2.2.2.2.2.1,Dn (by omega)];unfold Z6 Q1i;rw[Ng (by simp[Qvg.o]),← hlv])
     have Qqe:=Hh HR.o.2.2.2.2.2.2.2.2;have hO:∀s i,InT t i→Qx t s→Qx t (Qp r t t.nodes.length s i):=Qx.stmt HKO.o r t.nodes.length;have HO:=Hh hO;have HWW:=Hh (Qm7 (r:=r) HN.o HKO.o HSM.o Qq8.o hsz t.nodes.length);have hlf:=LF.block (t:=t) (LF.stmt r t t.nodes.length) {s2 with last:=lv} b names kinds
     have Qo2:Qx t {s2 with last:=lv}:=by
      rw[HS2.o];exact⟨HOK.o.ko,rfl,by simp,by simp,by show (0:Int)≤(k:Int)∧(k:Int)≤_;omega⟩
     have hn2:s2.names=[]:=by rw[HS2.o]
     have Qvm:Qx t (Jf t (Qp r t t.nodes.length) {s2 with last:=lv} b names kinds):=Qx.block HKO.o hO Qo2 HBI.o (by rw[HNL.o.1,HNL.o.2]) (by show (s2.names++names).Nodup;rw[hn2,List.nil_append];exact Qqe.o.1) Qqe.o.2;have Qxo:=Hh Qo2;have HN2:=Hh hn2;have HFN:Hi ((Jf t (Qp r t t.nodes.length) {s2 with last:=lv} b names kinds).fn=(n.kind==33)):=Hh (by rw[hlf.2];rw[HS2.o]);have HLS:Hi ((Jf t (Qp r t t.nodes.length) {s2 with last:=lv} b names kinds).last=lv):=Hh (by rw[hlf.1]);have Qvn:=Hh Qvm.ko;obtain⟨mb,rfl,Qtd⟩:=Q1.at_lt HBI.o;have hmb:(mb:Int)<t.nodes.length:=HBI.o.2;obtain⟨PA,pb,po,pc,hd,dl,dlc,hPA,hdc⟩:=HF0.o.cells Qtd;obtain⟨d0,d1,d2,d3⟩:=hd wp HKW.o;have eb:=HEB.o wp HKW.o;have p3:wp.cell? ⟨wb,3,none⟩=some (.slice (some ⟨nb,no,none⟩) t.nodes.length nc):=HSW.o.blk.cell 3 _ rfl;have Qno:Hi (∀x∈(t.at (mb:Int)).kids,InT t x):=Hh fun x hx=>HBI.o.kid HKO.o hx
     have Qot:=Hh Qrs.o.ends;have HBK:=Hh Qrs.o.blk;have HBC:=Hh hdc;have HPA:=Hh hPA;have Qxp:=HSM.o (mb:Int);generalize hat:t.at (mb:Int)=nd at d0 d1 d2 d3 dl dlc Qxp HBC HPA Qno Qot hlv;have HND:=Hh hat;have hka:Q0 nob wp (wp.alloc (.cells #[.int .i64 0,.string ⟨#[]⟩,.int .i64 0,.slice none 0 0] 70)):=(Kr _ _).alloc _;have p3':=hka.cell id p3;have x3':=hka.cell id x3;have eb':=hka.cell id eb;have d0':=hka.cell id d0;have d1':=hka.cell id d1;have d2':=hka.cell id d2;have d3':=hka.cell id d3;have hw1:IntKind.i64.wrap ((n.kids.length:Int)-1)=(ps.length:Int):=by rw[IntKind.wrap_i64];have:=Qnf.o;omega
     have hw2:wrap64 ((n.kids.length:Int)-1)=(ps.length:Int):=by unfold wrap64;have:=Qnf.o;omega
     have hw3:(ps.length:Int)<(n.kids.length:Int):=by have:=Qnf.o;omega
     clear hka Qtd hd hdc hPA hje HR hat hO hlf Qo2 Qvm hn2;go_upto_region 21 with fail
     go_cut [11] (fun s11 wx=>∃p:Nat,s11=.pointer (some ⟨p,0,none⟩)∧Blk wx p [.int .i64 nd.kind,.string nd.text,.int .i64 nd.i,.slice PA nd.kids.length pc] 70∧Q0 nob wp wx∧wp.heap.size≤p)
     case first =>
      go_region
      all_goals go_wp2_with fail
      all_goals go_meet
      all_goals exact⟨_,rfl,(Blk.new _ [_,_,_,_] _).drew,((Kr _ _).alloc _).drew,by simp⟩
     case rest =>
      obtain⟨p,rfl,hb,hkx,Qzg⟩:=hcut;have hpn:¬ at2 wb gb p:=fun e=>by rcases e with e|e<;>omega
      have HB:=Hh hb;have HPN:=Hh hpn;have HSX:=Hh (HSW.o.nobk hkx);have HKX:=Hh (HKW.o.trans (hkx.ofNob _));have Qvi:=Hh (Qth.o.trans (hkx.ofNob _));have Qzh:=HSX.o.blk.cell 12 _ rfl;have Qzi:=HSX.o.blk.free 12;have s12:=HSX.o.setLast (-1);have k12:Q0 (at2 wb gb) wc (wc.setCell ⟨wb,12,none⟩ (.int .i64 (-1))):=(Kr _ _).wb 12 _;have q3:=(hb.kept k12 hpn).cell 3 _ rfl;have x39:=(HBX.o _ (HKX.o.trans k12)).2.2.2;have eb9:=HEB.o _ (HKX.o.trans k12);have Qpg:=Hh s12;have Qtj:=Hh k12;have Qps:=Hh (hkx.ofNob (at2 wb gb))
      have hcb:∀wL,SpR wL wb gb r0 r1 r2 (.slice (some ⟨nb,no,none⟩) t.nodes.length nc) (.slice (some ⟨tb,tq,none⟩) t.tops.length tc) (.slice (some ⟨gb,0,none⟩) s.kindOf.length oc) {s2 with last:=lv} (.slice none 0 0) (.slice none 0 0) wv→Q0 (at2 wb gb) wp wL→Calls prog 137 #[.pointer (some ⟨wb,0,none⟩),.int .i64 (mb:Int),.slice nA names.length nc2,.slice kA kinds.length kc2] wL fun e w'=>e=.returned (.tuple #[])∧AtX wL wb gb r0 r1 r2 (.slice (some ⟨nb,no,none⟩) t.nodes.length nc) (.slice (some ⟨tb,tq,none⟩) t.tops.length tc) (.slice (some ⟨gb,0,none⟩) s.kindOf.length oc) (Jf t (Qp r t t.nodes.length) {s2 with last:=lv} (mb:Int) names kinds) w':=fun wL hL hk =>
       Q5t HWW.o HO.o hL (HF0.o.kept (HKW.o.trans hk)) Qxo.o HKO.o HBI.o (by omega) HBK.o _ _ names kinds (Q0j (HRN.o.kept hk (fun q hq=>HNS.o q (HRN.o.2 q hq))) HNS.o (by omega)) (Q0l (HRK.o.kept hk (fun q hq=>HNS.o q (HRK.o.2 q hq))) HNS.o (by omega)) (by rw[HNL.o.1,HNL.o.2]) (by show (s2.names++names).Nodup;rw[HN2.o,List.nil_append];exact Qqe.o.1) Qqe.o.2 (by show s2.names.length+_≤_;rw[HN2.o];simp;omega)
      have HCB:=Hh hcb;clear hcb;generalize Jf t (Qp r t t.nodes.length) {s2 with last:=lv} (mb:Int) names kinds=S3 at HXE HFN HLS Qvn HCB;clear hb hpn hkx s12 k12 p3 x3 eb d0 d1 d2 d3 p3' x3' eb' d0' d1' d2' d3';have hS3:∀(h:S3.fn=false∨S3.code≠0),X=S3:=fun h=>by rw[HXE.o];unfold topEnd;rw[Ps h]
      have HS3:=Hh hS3;clear hS3
      by_cases hb0:nd.kids.length=0
      ·have t1:decide ((nd.kids.length:Int)>0)=false:=Df (by omega)
       have t2:decide ((0:Int)<(nd.kids.length:Int))=false:=Df (by omega);have t3:decide (0<nd.kids.length)=false:=Df (by omega);have hl1:lv = -1:=by rw[hlv,List.eq_nil_of_length_eq_zero hb0];rfl
       subst hl1;have HSL:=Qpg;have HKL:=Qtj;clear hb0 hlv;cases hf:(n.kind==33) with
       |false =>
        go_wp2_with (go_at_call 137;refine (HCB.o _ HSL.o (Qps.o.trans HKL.o)).mono ?_;rintro e w6 ⟨rfl,Qmz⟩;obtain⟨nv6,kv6,wv6,h6,k6⟩:=Qmz;have H6:=Hh h6;have HK6:=Hh ((HKX.o.trans HKL.o).trans k6);have p11:=h6.blk.cell 11 _ rfl;have p13:=h6.blk.cell 13 _ rfl;have p12:=h6.blk.cell 12 _ rfl;have p36:=h6.blk.cell 3 _ rfl;have p15:=h6.blk.cell 15 _ rfl;have x26:=(HBX.o w6 HK6.o).2.2.1;rw[HFN.o,hf] at p11;rw[HLS.o] at p12;clear h6 k6);go_returns;rw[HS3.o (.inl (by rw[HFN.o,hf]))];exact⟨rfl,_,_,_,H6.o,HK0.o.trans HK6.o⟩
       |true =>
       cases hc:(S3.code != 0) with
       |true =>
        have HC:=Hh hc;go_wp2_with (go_at_call 137;refine (HCB.o _ HSL.o (Qps.o.trans HKL.o)).mono ?_;rintro e w6 ⟨rfl,Qmz⟩;obtain⟨nv6,kv6,wv6,h6,k6⟩:=Qmz;have H6:=Hh h6;have HK6:=Hh ((HKX.o.trans HKL.o).trans k6);have p11:=h6.blk.cell 11 _ rfl;have p13:=h6.blk.cell 13 _ rfl;have p12:=h6.blk.cell 12 _ rfl;have p36:=h6.blk.cell 3 _ rfl;have p15:=h6.blk.cell 15 _ rfl;have x26:=(HBX.o w6 HK6.o).2.2.1;rw[HFN.o,hf] at p11;rw[HLS.o] at p12;clear h6 k6);go_returns;rw[HS3.o (.inr (by simpa using HC.o))];exact⟨rfl,_,_,_,H6.o,HK0.o.trans HK6.o⟩
       |false =>
        have HC:=Hh hc
        have HX5:Hi (X=S3.fail 5 (mi:Int)):=Hh (by
         rw[HXE.o];unfold topEnd;rw[Ng (by rw[HFN.o,hf];simpa using hc),Ps (.inl (by decide))])
        go_upto_region 27 with (go_at_call 137;refine (HCB.o _ HSL.o (Qps.o.trans HKL.o)).mono ?_;rintro e w6 ⟨rfl,Qmz⟩;obtain⟨nv6,kv6,wv6,h6,k6⟩:=Qmz;have H6:=Hh h6;have HK6:=Hh ((HKX.o.trans HKL.o).trans k6);have p11:=h6.blk.cell 11 _ rfl;have p13:=h6.blk.cell 13 _ rfl;have p12:=h6.blk.cell 12 _ rfl;have p36:=h6.blk.cell 3 _ rfl;have p15:=h6.blk.cell 15 _ rfl;have x26:=(HBX.o w6 HK6.o).2.2.1;rw[HFN.o,hf] at p11;rw[HLS.o] at p12;clear h6 k6)
        go_quiet (fail);go_wp2_with (go_at_call 136;refine (Qu (H6.o.nobk (by repeat' first|exact Kr _ _|apply Ka|apply Kd|apply Kn)) _ _).mono ?_;rintro e w9 ⟨rfl,hat⟩);go_returns;rw[HX5.o];exact⟨rfl,_,_,_,hat.1,(HK0.o.trans (HK6.o.trans (Q0.ofNob (by repeat' first|exact Kr _ _|apply Ka|apply Kd|apply Kn) _))).trans hat.2⟩
      ·obtain⟨l,hl9⟩:∃l,nd.kids.getLast?=some l:=by
        cases hg:nd.kids.getLast? with
        |none=>rw[List.getLast?_eq_none_iff] at hg;rw[hg] at hb0;simp at hb0
        |some l=>exact⟨l,rfl⟩
       obtain⟨ml,Quh⟩:∃ml:Nat,nd.kids.length=ml+1:=⟨nd.kids.length-1,by omega⟩;have hlm:nd.kids[ml]?=some l:=by rw[List.getLast?_eq_getElem?] at hl9;rw[show ml=nd.kids.length-1 by omega];exact hl9
       have hli:=Qno.o l (Mg hlm);have Qny:=Qot.o l hl9;rw[hl9] at hlv;have hl1:lv=l:=hlv;subst hl1;obtain⟨lm,rfl,hln⟩:=Q1.at_lt hli;have hll:(lm:Int)<t.nodes.length:=hli.2;have t1:decide ((nd.kids.length:Int)>0)=true:=Dt (by omega);have t2:decide ((0:Int)<(nd.kids.length:Int))=true:=Dt (by omega);have t3:decide (0<nd.kids.length)=true:=Dt (by omega);have hv1:IntKind.i64.wrap ((nd.kids.length:Int)-1)=(ml:Int):=by rw[IntKind.wrap_i64];omega
       have hv2:wrap64 ((nd.kids.length:Int)-1)=(ml:Int):=by unfold wrap64;omega
       have hv3:(ml:Int)<(nd.kids.length:Int):=by omega
       have Qzj:decide ((lm:Int)<0)=false:=Df (by omega);obtain rfl:=HPA.o (by omega);have ql:=HBC.o ml _ hlm _ (HKX.o.trans Qtj.o);obtain⟨QA,lb9,lo9,lc9,hld,_,_,hQA,Qvo⟩:=HF0.o.cells hln;have HLD:=Hh hld;have Qzk:=Qpg.o.blk.cell 12 _ rfl;have Qzl:=Qpg.o.blk.free 12;have HSL:=Hh (Qpg.o.setLast (lm:Int));have HKL:=Hh (Qtj.o.wb 12 (.int .i64 (lm:Int)));have x38:=(HBX.o _ (HKX.o.trans HKL.o)).2.2.2;have eb8:=HEB.o _ (HKX.o.trans HKL.o);have HQA:=Hh hQA;have Qxq:=Hh Qvo;have HEN:=Hh Qny;have HLI:=Hh hli;clear hb0 Quh hl9 hlm hli Qny hln hld hQA Qvo hlv;cases hf:(n.kind==33) with
       |false =>
        go_wp2_with (go_at_call 137;refine (HCB.o _ HSL.o (Qps.o.trans HKL.o)).mono ?_;rintro e w6 ⟨rfl,Qmz⟩;obtain⟨nv6,kv6,wv6,h6,k6⟩:=Qmz;have H6:=Hh h6;have HK6:=Hh ((HKX.o.trans HKL.o).trans k6);have p11:=h6.blk.cell 11 _ rfl;have p13:=h6.blk.cell 13 _ rfl;have p12:=h6.blk.cell 12 _ rfl;have p36:=h6.blk.cell 3 _ rfl;have p15:=h6.blk.cell 15 _ rfl;have x26:=(HBX.o w6 HK6.o).2.2.1;rw[HFN.o,hf] at p11;rw[HLS.o] at p12;clear h6 k6);go_returns;rw[HS3.o (.inl (by rw[HFN.o,hf]))];exact⟨rfl,_,_,_,H6.o,HK0.o.trans HK6.o⟩
       |true =>
       cases hc:(S3.code != 0) with
       |true =>
        have HC:=Hh hc;go_wp2_with (go_at_call 137;refine (HCB.o _ HSL.o (Qps.o.trans HKL.o)).mono ?_;rintro e w6 ⟨rfl,Qmz⟩;obtain⟨nv6,kv6,wv6,h6,k6⟩:=Qmz;have H6:=Hh h6;have HK6:=Hh ((HKX.o.trans HKL.o).trans k6);have p11:=h6.blk.cell 11 _ rfl;have p13:=h6.blk.cell 13 _ rfl;have p12:=h6.blk.cell 12 _ rfl;have p36:=h6.blk.cell 3 _ rfl;have p15:=h6.blk.cell 15 _ rfl;have x26:=(HBX.o w6 HK6.o).2.2.1;rw[HFN.o,hf] at p11;rw[HLS.o] at p12;clear h6 k6);go_returns;rw[HS3.o (.inr (by simpa using HC.o))];exact⟨rfl,_,_,_,H6.o,HK0.o.trans HK6.o⟩
       |false =>
       have HC:=Hh hc
       have HX5:Hi (X=(if (t.at (lm:Int)).kind≠26 then S3.fail 5 (mi:Int) else if Z4 S3.kindOf (kidAt (t.at (lm:Int)) 0).toNat≠n.i then S3.fail 4 (mi:Int) else S3)):=Hh (by
        rw[HXE.o];unfold topEnd;rw[Ng (by rw[HFN.o,hf];simpa using hc)]
        by_cases e:(t.at (lm:Int)).kind≠26
        ·rw[Ps (.inr e),Ps e]
        ·rw[Ng (fun h=>h.elim (fun h=>by omega) e),Ng e])
       cases h26:((t.at (lm:Int)).kind==26) with
       |false =>
        have t26:((t.at (lm:Int)).kind != 26)=true:=by simpa using h26
        have HX6:Hi (X=S3.fail 5 (mi:Int)):=Hh (by rw[HX5.o,Ps (by simpa using h26)]);go_upto_region 27 with ((go_at_call 137;refine (HCB.o _ HSL.o (Qps.o.trans HKL.o)).mono ?_;rintro e w6 ⟨rfl,Qmz⟩;obtain⟨nv6,kv6,wv6,h6,k6⟩:=Qmz;have H6:=Hh h6;have HK6:=Hh ((HKX.o.trans HKL.o).trans k6);have p11:=h6.blk.cell 11 _ rfl;have p13:=h6.blk.cell 13 _ rfl;have p12:=h6.blk.cell 12 _ rfl;have p36:=h6.blk.cell 3 _ rfl;have p15:=h6.blk.cell 15 _ rfl;have x26:=(HBX.o w6 HK6.o).2.2.1;rw[HFN.o,hf] at p11;rw[HLS.o] at p12;clear h6 k6);have l0:=(HLD.o w6 HK6.o).1)
        go_quiet (fail);go_wp2_with (go_at_call 136;refine (Qu (H6.o.nobk (by repeat' first|exact Kr _ _|apply Ka|apply Kd|apply Kn)) _ _).mono ?_;rintro e w9 ⟨rfl,hat⟩);go_returns;rw[HX6.o];exact⟨rfl,_,_,_,hat.1,(HK0.o.trans (HK6.o.trans (Q0.ofNob (by repeat' first|exact Kr _ _|apply Ka|apply Kd|apply Kn) _))).trans hat.2⟩
       |true =>
        have t26:((t.at (lm:Int)).kind != 26)=false:=by simpa using h26
        have h26':(t.at (lm:Int)).kind=26:=by simpa using h26
        obtain⟨e0,es,hek⟩:=HEN.o h26';have hei:=HLI.o.kid HKO.o (k:=e0) (by rw[hek];simp);have hk0:kidAt (t.at (lm:Int)) 0=e0:=by simp[kidAt,hek]
        rw[hk0,Ng (by rw[h26'];decide)] at HX5;obtain⟨me,rfl,_⟩:=Q1.at_lt hei;have hme:me<S3.kindOf.length:=by rw[Qvn.o];have:=hei.2;omega
        obtain⟨x,hx⟩:=Q3 hme;rw[show Z4 S3.kindOf ((me:Nat):Int).toNat=x from by simp[Z4,hx]] at HX5;have hmo:(me:Int)<(s.kindOf.length:Int):=by rw[HOK.o.ko];exact hei.2
        have hlk:0<(t.at (lm:Int)).kids.length:=by rw[hek];simp
        have HZE:Hi (∀W,Q0 (at2 wb gb) W0 W→W.cell? ⟨lb9,lo9,none⟩=some (.int .i64 (me:Int))):=Hh fun W hW=>by
         have:=Qxq.o 0 _ (by rw[hek];rfl) W hW;rwa [Nat.add_zero] at this
        obtain rfl:=HQA.o hlk;have HXK:=Hh hx;generalize Qzm:t.at (lm:Int)=ln at *;clear hx hek hei hk0 h26';cases hq:(x != n.i) with
        |true =>
         have HQQ:=Hh hq;go_upto_region 27 with (go_at_call 137;refine (HCB.o _ HSL.o (Qps.o.trans HKL.o)).mono ?_;rintro e w6 ⟨rfl,Qmz⟩;obtain⟨nv6,kv6,wv6,h6,k6⟩:=Qmz;have H6:=Hh h6;have HK6:=Hh ((HKX.o.trans HKL.o).trans k6);have p11:=h6.blk.cell 11 _ rfl;have p13:=h6.blk.cell 13 _ rfl;have p12:=h6.blk.cell 12 _ rfl;have p36:=h6.blk.cell 3 _ rfl;have p15:=h6.blk.cell 15 _ rfl;have x26:=(HBX.o w6 HK6.o).2.2.1;rw[HFN.o,hf] at p11;rw[HLS.o] at p12;clear h6 k6;obtain⟨l0,l1,l2,l3⟩:=HLD.o w6 HK6.o;have ze:=HZE.o w6 HK6.o;have xk:=(H6.o.kindCell HXK.o).1)
         go_quiet (fail);go_upto_region 29 with fail
         go_quiet (fail);go_wp2_with (go_at_call 136;refine (Qu (H6.o.nobk (by repeat' first|exact Kr _ _|apply Ka|apply Kd|apply Kn)) _ _).mono ?_;rintro e w9 ⟨rfl,hat⟩);go_returns;rw[HX5.o,Ps (by simpa using HQQ.o)];exact⟨rfl,_,_,_,hat.1,(HK0.o.trans (HK6.o.trans (Q0.ofNob (by repeat' first|exact Kr _ _|apply Ka|apply Kd|apply Kn) _))).trans hat.2⟩
        |false =>
         have HQQ:=Hh hq;go_upto_region 27 with (go_at_call 137;refine (HCB.o _ HSL.o (Qps.o.trans HKL.o)).mono ?_;rintro e w6 ⟨rfl,Qmz⟩;obtain⟨nv6,kv6,wv6,h6,k6⟩:=Qmz;have H6:=Hh h6;have HK6:=Hh ((HKX.o.trans HKL.o).trans k6);have p11:=h6.blk.cell 11 _ rfl;have p13:=h6.blk.cell 13 _ rfl;have p12:=h6.blk.cell 12 _ rfl;have p36:=h6.blk.cell 3 _ rfl;have p15:=h6.blk.cell 15 _ rfl;have x26:=(HBX.o w6 HK6.o).2.2.1;rw[HFN.o,hf] at p11;rw[HLS.o] at p12;clear h6 k6;obtain⟨l0,l1,l2,l3⟩:=HLD.o w6 HK6.o;have ze:=HZE.o w6 HK6.o;have xk:=(H6.o.kindCell HXK.o).1)
         go_quiet (fail);go_upto_region 29 with fail
         go_quiet (fail);go_wp2_with fail;go_returns;rw[HX5.o,Ng (by simpa using HQQ.o)];exact⟨rfl,_,_,_,H6.o.nobk (by repeat' first|exact Kr _ _|apply Ka|apply Kd|apply Kn),HK0.o.trans (HK6.o.trans (Q0.ofNob (by repeat' first|exact Kr _ _|apply Ka|apply Kd|apply Kn) _))⟩
end
end Go.Proofs.YtkgkafjachjafaaGreat
