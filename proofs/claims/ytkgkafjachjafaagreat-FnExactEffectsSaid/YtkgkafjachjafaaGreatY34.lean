/- Part 34 of y_holds; no condition. -/
import Derived.Test.YtkgkafjachjafaaGreatY08
import Derived.Test.YtkgkafjachjafaaGreatY23
import Derived.Test.YtkgkafjachjafaaGreatY26
import Derived.Test.YtkgkafjachjafaaGreatY27
import Derived.Test.YtkgkafjachjafaaGreatY31
import Derived.Test.YtkgkafjachjafaaGreatY32
import Derived.Test.YtkgkafjachjafaaGreatY33
set_option linter.unusedVariables false
set_option maxHeartbeats 1000000
set_option maxRecDepth 100000
open Go Go.RowKit
namespace Go.Proofs.YtkgkafjachjafaaGreat
open Tryz
theorem K0v {p:Prop} (h:p:=by exact Xd h F hi hs e Sm fun W0 t0' h0 F0=>(Q4i hE hQ h0 F0 hok hK hi hif' 1 Qnf hea).mono fun e w' ⟨he,hat⟩=>⟨he,_,_,_,hat⟩):p:=h
theorem K0w {p:Prop} (h:p:=by exact Xd h F hi hs e Sm fun W0 t0' h0 F0=>Q9z hE hQ h0 F0 hok hK hsz hi hif' Qnf hea):p:=h
section
variable {w:World} {wb gb:Nat} {r0 r1 r2 t0 t1 ov:Value} {s:SS} {nv kv wv:Value} {r:Reg} {t:Q1} {E:SS→Int→Int×SS} {f:Nat}
theorem Qd8 (hE:Q3d r t f E) (hQ:∀s i,EqX s (E s i).2) (h:SpR w wb gb r0 r1 r2 t0 t1 ov s nv kv wv) (F:Xl (at2 wb gb) w r t r0 r1 r2 t0 t1) (hok:Qz t s) (hK:Qk t)
  {i:Int} (hi:InT t i) (hif:i≤f) (hkd:(t.at i).kind=11) {a:Int} {ks:List Int} (Qnf:(t.at i).kids=a::ks) (hea:Qu (t.at a).kind=true) (h00:s.code=0) :
  Calls prog 222 #[.pointer (some ⟨wb,0,none⟩),.int .i64 i] w fun e w'=>e=.returned (.int .i64 (Q2a r t E s i (t.at i)).1)∧AtW w wb gb r0 r1 r2 t0 t1 ov (Q2a r t E s i (t.at i)).2 nv kv wv w':=by
 obtain⟨mi,rfl,hnd,nb,no,nc,A,kb,ko,kc,rfl,hl,hml,⟨c0,c1,c2,c3⟩,kl,klc,hA,W0,hW0,h0,F0,hk0,hbx,hkc,cw3,H0,HF0,HK0,HBX,HKC⟩:=h.nodeH F hi;have HOK:=Hh hok;have HI:=Hh hi;have hp:=Qgv hE hQ h0 F0 hok hK hi hif Qnf hea h00;generalize Q2a r t E s (mi:Int) (t.at (mi:Int))=X at hp ⊢;have tk11:((t.at (mi:Int)).kind==11)=true:=by rw[hkd];rfl
 obtain⟨z0,z1,z2,z3⟩:=hbx W0 (Kr _ _);have HP:=Hh hp;clear Qnf hkd hbx hkc hk0 F0 h0 F h hok hi hnd hE hQ hK hif hea h00 hp;generalize hN:t.at (mi:Int)=n at *;go_enter func222,ntmps222;go_wp2_with (go_at_call 230;refine HP.o.mono ?_;rintro e w2 ⟨rfl,hat⟩);go_returns;exact⟨rfl,hat.1,HK0.o.trans hat.2⟩
theorem Qbm (h:SpR w wb gb r0 r1 r2 t0 t1 ov s nv kv wv) (F:Xl (at2 wb gb) w r t r0 r1 r2 t0 t1) (hok:Qz t s)
  {i:Int} (hi:InT t i) (hkd:(t.at i).kind=5) (hea:s.each=false) :
  Calls prog 222 #[.pointer (some ⟨wb,0,none⟩),.int .i64 i] w fun e w'=>e=.returned (.int .i64 0)∧AtW w wb gb r0 r1 r2 t0 t1 ov (s.fail 5 i) nv kv wv w':=by
 obtain⟨mi,rfl,hnd,nb,no,nc,A,kb,ko,kc,rfl,hl,hml,⟨c0,c1,c2,c3⟩,kl,klc,hA,W0,hW0,h0,F0,hk0,hbx,hkc,cw3,H0,HF0,HK0,HBX,HKC⟩:=h.nodeH F hi;have HOK:=Hh hok;have HI:=Hh hi;have tk11:((t.at (mi:Int)).kind==11)=false:=by rw[hkd];rfl
 have tk5:((t.at (mi:Int)).kind==5)=true:=by rw[hkd];rfl
 obtain⟨z0,z1,z2,z3⟩:=hbx W0 (Kr _ _);have p8:W0.cell? ⟨wb,8,none⟩=some (.bool false):=hea▸h0.blk.cell 8 _ rfl;clear hkd hbx hkc hk0 F0 h0 F h hok hi hnd hea;generalize hN:t.at (mi:Int)=n at *;go_enter func222,ntmps222;go_wp2_with (go_at_call 136;refine (Qw H0.o _ _).mono ?_;rintro e w2 ⟨rfl,hat⟩);go_returns;exact⟨rfl,hat.1,HK0.o.trans hat.2⟩
theorem Qn7 (hn:Qs t=true) (hE:Q3d r t f E) (hQ:∀s i,EqX s (E s i).2) (h:SpR w wb gb r0 r1 r2 t0 t1 ov s nv kv wv) (F:Xl (at2 wb gb) w r t r0 r1 r2 t0 t1) (hok:Qz t s) (hK:Qk t) (hsm:Z1 t) (Qoc:∀k∈t.tops,InT t k)
  {i:Int} (hi:InT t i) (hif:i≤f) (hke:Qu (t.at i).kind=true) (h00:s.code=0) :
  Calls prog 222 #[.pointer (some ⟨wb,0,none⟩),.int .i64 i] w fun e w'=>e=.returned (.int .i64 (Q37 r t E s i).1)∧AtW w wb gb r0 r1 r2 t0 t1 ov (Q37 r t E s i).2 nv kv wv w':=by
 have hr:=hke;simp only[Qu,Q9,Bool.and_eq_true,decide_eq_true_eq] at hr
 by_cases h11:(t.at i).kind=11
 ·obtain⟨a,b,ks,Qnf,hea⟩:=Q51 hn hi h11
  rw[Q9x h11];exact Qd8 hE hQ h F hok hK hi hif h11 Qnf hea h00
 by_cases h5:(t.at i).kind=5∧s.each=false
 ·rw[Q89 h5.1 h5.2]
  exact Qbm h F hok hi h5.1 h5.2
 have hb:Q37 r t E s i=Jp r t E i (t.at i) [] (t.at i).kids s:=by rw[Q8k h11 h5];unfold Jp;rw[List.nil_append]
 obtain⟨hek,Qnm⟩:=Qa0 hn hi hke h11;rw[hb]
 by_cases h7:7≤(t.at i).kind
 ·by_cases e7:(t.at i).kind=7
  ·exact Qkg hE hQ h F hok hK Qoc hi hif e7 hek (Nat.zero_le _) (hsm i) h00
  by_cases e8:(t.at i).kind=8
  ·exact Qj3 hE hQ h F hok hK hi hif e8 hek ((Qnm (Or.inl e8)).2 Om) (hsm i) h00
  by_cases e9:(t.at i).kind=9
  ·exact Qjt hE hQ h F hok hK hi hif e9 hek (Qnm (Or.inr (Or.inl e9))).1 (hsm i) h00
  have e10:(t.at i).kind=10:=Om
  exact Qig hE hQ h F hok hK hi hif e10 hek ((Qnm (Or.inr (Or.inr e10))).2 Om) (hsm i) h00
 have hk0:(t.at i).kids=[]:=by
  have hs:=Qc5 hn hi hke;unfold X9 at hs;rw[Ps Om] at hs;simpa using hs
 have hl:Jp r t E i (t.at i) [] (t.at i).kids s=Jw r t s i (t.at i) []:=by rw[hk0];exact Q19 h00
 rw[hl]
 by_cases e1:(t.at i).kind=1
 ·exact Qjn h F hok hi hk0 e1
 by_cases e2:(t.at i).kind=2
 ·exact Qjv h F hok hi hk0 e2
 by_cases e3:(t.at i).kind=3
 ·exact Qjp h F hok hi hk0 e3
 by_cases e4:(t.at i).kind=4
 ·exact Qky h F hok hi hk0 e4
 by_cases e5:(t.at i).kind=5
 ·exact Ql1 h F hok hi hk0 e5 (by simpa[e5] using h5)
 have e6:(t.at i).kind=6:=Om
 exact Qja h F hok hi hk0 e6
theorem Qd9 (hn:Qs t=true) (hK:Qk t) (hsm:Z1 t) (Qoc:∀k∈t.tops,InT t k) (hE:Q3d r t f (Jx r t f)):Q3d r t (f+1) (Jx r t (f+1)):=by
 intro w wb gb r0 r1 r2 t0 t1 ov s nv kv wv i h F hok hi hif hke;have pc:w.cell? ⟨wb,13,none⟩=some (.int .i64 s.code):=h.blk.cell 13 _ rfl
 by_cases h00:s.code=0
 ·have hb:=Qn7 hn hE (EqX.expr r t f) h F hok hK hsm Qoc hi Om hke h00
  rw[Qdj h00];have hq:=EqX.bare (E:=Jx r t f) (EqX.expr r t f) r t s i;obtain⟨oc,rfl,hg⟩:=h.kindRow (by rw[hok.ko];have:=hi.2;have:=hi.1;omega);obtain⟨mi,rfl,hnd⟩:=Q1.at_lt hi;have hml:(mi:Int)<s.kindOf.length:=by rw[hok.ko];exact hi.2
  have hmn:mi<s.kindOf.length:=Om
  have hko:s.kindOf.length≤140737488355328:=by obtain⟨A,nb,no,nc,_,hl,_⟩:=F.t0.nodes;rw[hok.ko];exact hl
  generalize Q37 r t (Jx r t f) s (mi:Int)=q at hb hq ⊢;obtain⟨k,z⟩:=q;have HB:=Hh hb;have HQ:=Hh hq;have HG:=Hh hg;rw[h00] at pc;clear hb hq hE hn hK hsm Qoc F hok hi hke hnd hif h hg;dsimp only at HB HQ ⊢;cases hc:(z.code != 0) with
  |true =>
   have HC:=Hh hc;go_enter func212,ntmps212;go_wp2_with (go_at_call 222;refine HB.o.mono ?_;rintro e w2 ⟨rfl,hat⟩;have pc2:w2.cell? ⟨wb,13,none⟩=some (.int .i64 z.code):=hat.1.blk.cell 13 _ rfl;have p15:w2.cell? ⟨wb,15,none⟩=some (.slice (some ⟨gb,0,none⟩) s.kindOf.length oc):=hat.1.blk.cell 15 _ rfl;obtain⟨x,hx⟩:=Q4 (xs:=z.kindOf) (j:=mi) (by rw[HQ.o.ko];exact hmn);obtain⟨k0,k1⟩:=hat.1.kindCell hx;have HAT:=Hh hat;clear hat hx);go_returns;rw[Q2i (by simpa using HC.o)];exact⟨rfl,HAT.o⟩
  |false =>
   have HC:=Hh hc;go_enter func212,ntmps212;go_wp2_with (go_at_call 222;refine HB.o.mono ?_;rintro e w2 ⟨rfl,hat⟩;have pc2:w2.cell? ⟨wb,13,none⟩=some (.int .i64 z.code):=hat.1.blk.cell 13 _ rfl;have p15:w2.cell? ⟨wb,15,none⟩=some (.slice (some ⟨gb,0,none⟩) s.kindOf.length oc):=hat.1.blk.cell 15 _ rfl;obtain⟨x,hx⟩:=Q4 (xs:=z.kindOf) (j:=mi) (by rw[HQ.o.ko];exact hmn);obtain⟨k0,k1⟩:=hat.1.kindCell hx;have HAT:=Hh hat;clear hat hx);go_returns;rw[Qc3 (by simpa using HC.o)];exact⟨rfl,HAT.o.1.setO HG.o mi k,HAT.o.2.gb mi _⟩
 ·have tc:(s.code != 0)=true:=by simpa using h00
  have hx:Jx r t (f+1) s i=(0,s):=by unfold Jx;rw[Ps h00]
  rw[hx];have HH:=Hh h;clear h F hok hi hif hke hE hn hK hsm Qoc hx h00;go_enter func212,ntmps212;go_wp2_with fail;go_returns;exact⟨rfl,HH.o.nobk Kz,Kz⟩
theorem Qmt (hn:Qs t=true) (hK:Qk t) (hsm:Z1 t) (Qoc:∀k∈t.tops,InT t k):∀f,Q3d r t f (Jx r t f):=by
 intro f
 induction f with
 |zero=>intro w wb gb r0 r1 r2 t0 t1 ov s nv kv wv i h F hok hi hif hke;have:=hi.1;omega
 |succ f ih=>exact Qd9 hn hK hsm Qoc ih
end
theorem Q1h {t:Q1} (hn:Qs t=true) {k:Int} (hk:InT t k) (h27:(t.at k).kind=27):Q4q t k:=by
 have hs:=Q13 hn hk Om;unfold Jf at hs;rw[Ps h27] at hs
 exact fun x hx=>Ym hs hx
theorem Yq {a k:Int} (h:isK a k=true):k=a:=by simpa[isK] using h
section
variable {r:Reg} {t:Q1} {f:Nat}
theorem Qd5 (hn:Qs t=true) (hK:Qk t) (hsm:Z1 t) (Qoc:∀k∈t.tops,InT t k) (hsz:t.nodes.length≤4000) (hW:Q7y r t f (Qq r t f)):Q7y r t (f+1) (Qq r t (f+1)):=by
 intro w wb gb r0 r1 r2 t0 t1 ov s nv kv wv i h F hok hi hif hks h00;have hE:=Qmt (r:=r) hn hK hsm Qoc f;have hO:∀s i,InT t i→Qz t s→Qz t (Qq r t f s i):=Qz.stmt hK r f;have hQ:=EqX.expr r t f;have hif':i≤f:=Om
 cases hs:Zx t s i with
 |false =>
  rw[show Qq r t (f+1) s i=s.fail 5 i from by unfold Qq;dsimp only;rw[hs];rfl];exact Qhz h F hi hs
 |true =>
  have hr:=hks;simp only[Zs,Q9,Bool.and_eq_true,decide_eq_true_eq] at hr;have hS:=Yr hn hi hks;unfold Z3 at hS;have key:∀X,Qq r t (f+1) s i=X→∀{P:SS→Prop},P X→P (Qq r t (f+1) s i):=fun X e P hp=>by rw[e];exact hp
  by_cases h1:(t.at i).kind=12∨(t.at i).kind=13∨(t.at i).kind=14∨(t.at i).kind=15∨(t.at i).kind=19∨(t.at i).kind=23∨(t.at i).kind=26
  ·rw[Ps h1] at hS
   obtain⟨a,Qnf,hea⟩:=Xc hS;have hai:InT t a:=hi.kid hK (by rw[Qnf];simp);have haf:a<f:=by have:=(hK.mem hi (k:=a) (by rw[Qnf];simp)).2;omega
   have hka:kidAt (t.at i) 0=a:=by simp[kidAt,Qnf]
   rcases h1 with e|e|e|e|e|e|e
   ·rw[show Qq r t (f+1) s i=Q0d (Jx r t f) s i (t.at i) from by simp[Qq,hs,e]]
    exact K0w
   ·rw[show Qq r t (f+1) s i=Q0d (Jx r t f) s i (t.at i) from by simp[Qq,hs,e]]
    exact K0w
   ·rw[show Qq r t (f+1) s i=Xo r t (Jx r t f) s i (t.at i) 1 from by simp[Qq,hs,e]]
    exact K0v
   ·rw[show Qq r t (f+1) s i=Xo r t (Jx r t f) s i (t.at i) 2 from by simp[Qq,hs,e]]
    exact Xd h F hi hs e Sm fun W0 t0' h0 F0=>(Q4i hE hQ h0 F0 hok hK hi hif' 2 Qnf hea).mono fun e w' ⟨he,hat⟩=>⟨he,_,_,_,hat⟩
   ·rw[show Qq r t (f+1) s i=Xo r t (Jx r t f) s i (t.at i) 3 from by simp[Qq,hs,e]]
    exact Xd h F hi hs e Sm fun W0 t0' h0 F0=>(Q4i hE hQ h0 F0 hok hK hi hif' 3 Qnf hea).mono fun e w' ⟨he,hat⟩=>⟨he,_,_,_,hat⟩
   ·rw[show Qq r t (f+1) s i=Xo r t (Jx r t f) s i (t.at i) 1 from by simp[Qq,hs,e]]
    exact K0v
   ·rw[show Qq r t (f+1) s i=(Jx r t f s a).2 from by simp[Qq,hs,hka,e]]
    exact Qao h F hi hs (.inr e) Qnf fun W0 t0' h0 F0=>hE W0 wb gb _ _ _ _ _ _ s nv kv wv a h0 F0 hok hai haf hea
  rw[Ng h1] at hS
  by_cases h16:(t.at i).kind=16
  ·rw[Ps h16,Bool.or_eq_true] at hS
   obtain⟨a,ks,Qnf,hea,hbl⟩:∃a ks,(t.at i).kids=a::ks∧Qu (t.at a).kind=true∧∀k∈ks,Q4q t k:=by
    rcases hS with hS|hS
    ·obtain⟨a,b,hk,h1,h2⟩:=Y9 hS
     exact⟨a,[b],hk,h1,fun k hk'=>by simp at hk';subst hk';exact Q1h hn (hi.kid hK (by rw[hk];simp)) (Yq h2)⟩
    ·obtain⟨a,b,c,hk,h1,h2,h3⟩:=Q22 hS
     refine⟨a,[b,c],hk,h1,fun k hk'=>?_⟩
     simp at hk';rcases hk' with rfl|rfl
     ·exact Q1h hn (hi.kid hK (by rw[hk];simp)) (Yq h2)
     ·exact Q1h hn (hi.kid hK (by rw[hk];simp)) (Yq h3)
   rw[show Qq r t (f+1) s i=Y6 t (Jx r t f) (Qq r t f) s i (t.at i) 4 from by simp[Qq,hs,h16]];exact Xd h F hi hs h16 Sm fun W0 t0' h0 F0=>Q7x hE hQ hW hO h0 F0 hok hK hsz hi hif' 4 Qnf hea hbl
  rw[Ng h16] at hS
  by_cases h17:(t.at i).kind=17
  ·rw[Ps h17] at hS
   obtain⟨a,b,Qnf,hea,h2⟩:=Y9 hS;have hbl:∀k∈[b],Q4q t k:=fun k hk'=>by simp at hk';subst hk';exact Q1h hn (hi.kid hK (by rw[Qnf];simp)) (Yq h2)
   rw[show Qq r t (f+1) s i=Y6 t (Jx r t f) (Qq r t f) s i (t.at i) 1 from by simp[Qq,hs,h17]];exact Xd h F hi hs h17 Sm fun W0 t0' h0 F0=>Q7x hE hQ hW hO h0 F0 hok hK hsz hi hif' 1 Qnf hea hbl
  rw[Ng h17] at hS
  by_cases h18:(t.at i).kind=18
  ·rw[Ps h18] at hS
   obtain⟨a,b,c,Qnf,_,_,h3⟩:=Q22 hS;rw[show Qq r t (f+1) s i=Q42 r t (Qq r t f) s (t.at i) from by simp[Qq,hs,h18]];exact Xd h F hi hs h18 Sm fun W0 t0' h0 F0=>Qho hW hO h0 F0 hok hK hsz hsm hi hif' Qnf (Q1h hn (hi.kid hK (by rw[Qnf];simp)) (Yq h3)) h00
  rw[Ng h18] at hS
  by_cases h20:(t.at i).kind=20
  ·rw[Ps h20] at hS
   obtain⟨a,b,Qnf,_,h2⟩:=Y9 hS;rw[show Qq r t (f+1) s i=Q41 r t (Qq r t f) s i (t.at i) from by simp[Qq,hs,h20]];exact Xd h F hi hs h20 Sm fun W0 t0' h0 F0=>Qhv hW hO h0 F0 hok hK hsz hi hif' Qnf (Q1h hn (hi.kid hK (by rw[Qnf];simp)) (Yq h2))
  rw[Ng h20] at hS
  by_cases h21:(t.at i).kind=21
  ·rw[Ps h21] at hS
   have hkk:∀k∈(t.at i).kids,∃e es,(t.at k).kids=e::es∧Qu (t.at e).kind=true:=fun k hk=>by
    have h28:=Yq (Ym hS hk);have hs2:=Q13 hn (hi.kid hK hk) Om;unfold Jf at hs2;rw[Ng Om,Ps h28] at hs2;obtain⟨e,he,h2⟩:=Xc hs2;exact⟨e,[],he,h2⟩
   rw[show Qq r t (f+1) s i=Q1j r t (Jx r t f) (t.at i).kids [] s from by simp[Qq,hs,h21]];exact Xd h F hi hs h21 Sm fun W0 t0' h0 F0=>(Qg6 hE hQ h0 F0 hok hK hi hif' hkk (hsm i) h00).mono fun e w' ⟨he,hat⟩=>⟨he,_,_,_,hat⟩
  rw[Ng h21] at hS
  by_cases h25:(t.at i).kind=25
  ·rw[Ps h25] at hS
   obtain⟨a,Qnf,h7⟩:=Xc hS;have hai:InT t a:=hi.kid hK (by rw[Qnf];simp);have haf:a<f:=by have:=(hK.mem hi (k:=a) (by rw[Qnf];simp)).2;omega
   have hka:kidAt (t.at i) 0=a:=by simp[kidAt,Qnf]
   rw[show Qq r t (f+1) s i=(Jx r t f s a).2 from by simp[Qq,hs,hka,h25]];exact Qao h F hi hs (.inl h25) Qnf fun W0 t0' h0 F0=>hE W0 wb gb _ _ _ _ _ _ s nv kv wv a h0 F0 hok hai haf (by rw[Yq h7];rfl)
  by_cases h24:(t.at i).kind=24
  ·cases hd:(J2 r 1 (t.at i).text==0) with
   |true =>
    rw[show Qq r t (f+1) s i=s.fail 3 i from by simp[Qq,hs,h24,eq_of_beq hd]];exact Qbe h F hi hs h24 hd
   |false =>
    rw[show Qq r t (f+1) s i=s from by simp[Qq,hs,h24,ne_of_beq_false hd]];exact Qbe h F hi hs h24 hd
  have h22:(t.at i).kind=22:=Om
  rw[show Qq r t (f+1) s i=s from by simp[Qq,hs,h22]];exact Qim h F hi hs h22
theorem Qn0 (hn:Qs t=true) (hK:Qk t) (hsm:Z1 t) (Qoc:∀k∈t.tops,InT t k) (hsz:t.nodes.length≤4000):∀f,Q7y r t f (Qq r t f):=by
 intro f
 induction f with
 |zero=>intro w wb gb r0 r1 r2 t0 t1 ov s nv kv wv i h F hok hi hif hks h00;have:=hi.1;omega
 |succ f ih=>exact Qd5 hn hK hsm Qoc hsz ih
end
end Go.Proofs.YtkgkafjachjafaaGreat
