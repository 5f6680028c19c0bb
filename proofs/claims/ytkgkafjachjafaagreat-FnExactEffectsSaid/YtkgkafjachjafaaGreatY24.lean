/- Part 24 of: FnExactEffects answers true; no condition. -/
import Derived.Test.YtkgkafjachjafaaGreatY08
import Derived.Test.YtkgkafjachjafaaGreatY19
import Derived.Test.YtkgkafjachjafaaGreatY20
import Derived.Test.YtkgkafjachjafaaGreatY22
set_option linter.unusedVariables false
set_option maxHeartbeats 2000000
set_option maxRecDepth 100000
open Go Go.RowKit
namespace Go.Proofs.YtkgkafjachjafaaGreat
open Tryz
theorem K0s {p:Prop} (h:p:=by clear h hr ht hok Qo4 hi pst hnd hml hF h00 hlk Qnj hN hb0;go_enter func124,ntmps124;go_wp2_with (first|(go_at_call 164;refine (Zj H0.o t HT.o.now Qnw.o.1 Qnw.o.2 _).mono ?_;rw[HM.o];rintro e w1 ⟨rfl,hk1⟩;have v0:=hk1.cell (fun h=>h) u0;have v1:=hk1.cell (fun h=>h) u1;have v2:=hk1.cell (fun h=>h) u2;have v3:=hk1.cell (fun h=>h) u3;have HC1:=Hh (H0.o.nobk hk1);have HS1:=Hh (hkS.trans (hk1.ofNob S)))|(go_at_call 167;refine (Qan hW hO HC1.o (HRS.o.kept HS1.o) (HTS.o.kept HS1.o) HOK.o H00.o (HF.o.kept HS1.o) _ n _ (Qoo.o.kept HS1.o) HLK.o a ks Qns.o.1 Qns.o.2).mono ?_;rintro e w2 ⟨rfl,hat⟩));go_returns;exact⟨rfl,hat.after HS1.o⟩):p:=h
section
variable {r:Reg} {t:Q1}
theorem Qji (hn:Qs t=true) {i:Int} (hi:InT t i) (hk:(t.at i).kind=16∨(t.at i).kind=17):∃a ks,(t.at i).kids=a::ks∧2≤(t.at i).kids.length:=by
 have hs:=Yr hn hi (by rcases hk with h|h<;>rw[h]<;>rfl);unfold Z3 at hs;rw[Ng Om] at hs
 by_cases h:(t.at i).kind=16
 ·rw[Ps h,Bool.or_eq_true] at hs
  rcases hs with hs|hs
  ·obtain⟨a,b,e,_⟩:=Y9 hs;exact⟨a,[b],e,by rw[e];simp⟩
  ·obtain⟨a,b,c,e,_⟩:=Q22 hs;exact⟨a,[b,c],e,by rw[e];simp⟩
 ·rw[Ng h,Ps Om] at hs
  obtain⟨a,b,e,_⟩:=Y9 hs;exact⟨a,[b],e,by rw[e];simp⟩
theorem Qhk (hn:Qs t=true) {i:Int} (hi:InT t i):Qjl (t.at i):=by
 intro hk;have hs:=Yr hn hi (by rcases hk with h|h|h|h|h|h<;>rw[h]<;>rfl);unfold Z3 at hs;rw[Ps Om] at hs;obtain⟨a,e,_⟩:=Xc hs;exact⟨a,[],e⟩
variable {S:Nat→Prop} {w:World} {cb rb ro tb tq:Nat} {s:CS} {kv bv lv tv wv:Value}
theorem Q7u (ht:Qj S w fun w=>J8 w tb tq t) {i:Int} (hi:InT t i):∃(m:Nat) (nb no nc:Nat) (A:Option Addr) (p o c:Nat),i=m∧t.nodes[m]?=some (t.at i)∧(m:Int)<t.nodes.length ∧
  w.cell? ⟨tb,tq,none⟩=some (.slice (some ⟨nb,no,none⟩) t.nodes.length nc)∧w.cell? ⟨nb,no+m*4,none⟩=some (.int .i64 (t.at i).kind)∧w.cell? ⟨nb,no+m*4+1,none⟩=some (.string (t.at i).text) ∧
  w.cell? ⟨nb,no+m*4+2,none⟩=some (.int .i64 (t.at i).i)∧w.cell? ⟨nb,no+m*4+3,none⟩=some (.slice A (t.at i).kids.length c)∧(Qj S w fun w=>Qf w (.slice A (t.at i).kids.length c) (t.at i).kids):=by
 obtain⟨m,rfl,hm⟩:=Q1.at_lt hi;obtain⟨tA,nb,no,nc,tc,tl,tlc,tS,tA',_,tn⟩:=ht.tree;have Qo3:0<t.nodes.length:=by have:=hi.2;omega
 obtain⟨rfl,nS⟩:=tA' Qo3;obtain⟨pv,pc,pst⟩:=tn m _ hm;obtain⟨A,p,o,c,rfl,_,_,_,_⟩:=pst.ints;obtain⟨c0,c1,c2,c3⟩:=pc w (Kr _ _);exact⟨m,nb,no,nc,A,p,o,c,rfl,hm,hi.2,tc w (Kr _ _),c0,c1,c2,c3,pst⟩
theorem Yz (ht:Qj S w fun w=>J8 w tb tq t) (h:J0 S w cb ⟨rb,ro,none⟩ ⟨tb,tq,none⟩ s kv bv lv tv wv) {i:Int} (hi:InT t i):∃(m:Nat) (nb no nc:Nat) (A:Option Addr) (p o c:Nat) (n:Qn) (W0:World),i=m∧t.nodes[m]?=some n∧(m:Int)<t.nodes.length ∧
  w.cell? ⟨tb,tq,none⟩=some (.slice (some ⟨nb,no,none⟩) t.nodes.length nc)∧w.cell? ⟨cb,1,none⟩=some (.pointer (some ⟨tb,tq,none⟩))∧w.cell? ⟨nb,no+m*4,none⟩=some (.int .i64 n.kind)∧w.cell? ⟨nb,no+m*4+1,none⟩=some (.string n.text) ∧
  w.cell? ⟨nb,no+m*4+2,none⟩=some (.int .i64 n.i)∧w.cell? ⟨nb,no+m*4+3,none⟩=some (.slice A n.kids.length c)∧(Qj S w fun w=>Qf w (.slice A n.kids.length c) n.kids)∧t.at (m:Int)=n ∧
  w.alloc (.cells #[.int .i64 n.kind,.string n.text,.int .i64 n.i,.slice A n.kids.length c] 70 (0,0))=W0∧Q0 nob w W0∧Blk W0 w.heap.size [.int .i64 n.kind,.string n.text,.int .i64 n.i,.slice A n.kids.length c] 70 ∧
  W0.cell? ⟨w.heap.size,0,none⟩=some (.int .i64 n.kind)∧W0.cell? ⟨w.heap.size,1,none⟩=some (.string n.text)∧W0.cell? ⟨w.heap.size,2,none⟩=some (.int .i64 n.i)∧W0.cell? ⟨w.heap.size,3,none⟩=some (.slice A n.kids.length c)∧Q0 S w W0 ∧
  Hi (J0 S W0 cb ⟨rb,ro,none⟩ ⟨tb,tq,none⟩ s kv bv lv tv wv)∧Hi (Qj S W0 fun w=>J8 w tb tq t):=by
 obtain⟨m,nb,no,nc,A,p,o,c,rfl,hnd,hmt,q2,c0,c1,c2,c3,pst⟩:=Q7u ht hi;have hb0:=Blk.new w [.int .i64 (t.at (m:Int)).kind,.string (t.at (m:Int)).text,.int .i64 (t.at (m:Int)).i,.slice A (t.at (m:Int)).kids.length c] 70;have hk0:Q0 nob w (w.alloc (.cells #[.int .i64 (t.at (m:Int)).kind,.string (t.at (m:Int)).text,.int .i64 (t.at (m:Int)).i,.slice A (t.at (m:Int)).kids.length c] 70 (0,0))):=(Kr _ _).alloc _;exact⟨m,nb,no,nc,A,p,o,c,_,_,rfl,hnd,hmt,q2,h.blk.cell 1 _ rfl,c0,c1,c2,c3,pst,rfl,rfl,hk0,hb0,hb0.cell 0 _ rfl,hb0.cell 1 _ rfl,hb0.cell 2 _ rfl,hb0.cell 3 _ rfl,hk0.ofNob S,Hh (h.nobk hk0),Hh (ht.kept (hk0.ofNob S))⟩
theorem Qk5 (h:J0 S w cb ⟨rb,ro,none⟩ ⟨tb,tq,none⟩ s kv bv lv tv wv) (ht:Qj S w fun w=>J8 w tb tq t) (hok:Qe t s) {i:Int} (hi:InT t i) (Qnj:Yt t s (t.at i).kind=false) :
  Calls prog 124 #[.pointer (some ⟨cb,0,none⟩),.int .i64 i] w fun e w'=>e=.returned (.tuple #[])∧AtS S w cb ⟨rb,ro,none⟩ ⟨tb,tq,none⟩ (s.fail 5 i) kv bv tv w':=by
 have hml:=hi.2;obtain⟨m,nb,no,nc,A,p,o,c,rfl,hnd,hmt,q2,c0,c1,c2,c3,pst⟩:=Q7u ht hi;have q1:w.cell? ⟨cb,1,none⟩=some (.pointer (some ⟨tb,tq,none⟩)):=h.blk.cell 1 _ rfl;have hk0:Q0 nob w (w.alloc (.cells #[.int .i64 (t.at (m:Int)).kind,.string (t.at (m:Int)).text,.int .i64 (t.at (m:Int)).i,.slice A (t.at (m:Int)).kids.length c] 70)):=(Kr _ _).alloc _;have hb0:=Blk.new w [.int .i64 (t.at (m:Int)).kind,.string (t.at (m:Int)).text,.int .i64 (t.at (m:Int)).i,.slice A (t.at (m:Int)).kids.length c] 70;generalize hN:t.at (m:Int)=n at c0 c1 c2 c3 pst hk0 hb0 Qnj hnd;generalize hW0:w.alloc (.cells #[.int .i64 n.kind,.string n.text,.int .i64 n.i,.slice A n.kids.length c] 70)=W0 at hk0 hb0;have u0:=hb0.cell 0 _ rfl;have u1:=hb0.cell 1 _ rfl;have u2:=hb0.cell 2 _ rfl;have u3:=hb0.cell 3 _ rfl;have hkS:Q0 S w W0:=hk0.ofNob S;have H0:=Hh (h.nobk hk0);have HT:=Hh (ht.kept hkS);have Qnw:=Hh hok.top;have HM:=Hh Qnj;clear h ht hok Qnj hi pst hnd hml hN hb0;go_enter func124,ntmps124;go_wp2_with (first|(go_at_call 164;refine (Zj H0.o t HT.o.now Qnw.o.1 Qnw.o.2 _).mono ?_;rw[HM.o];rintro e w1 ⟨rfl,hk1⟩)|(go_at_call 92;refine (Ze (H0.o.nobk hk1) _ _).mono ?_;rintro e w2 ⟨rfl,hat⟩));go_returns;exact⟨rfl,(hat.s.after (hk1.ofNob _)).after hkS⟩
theorem Qln (hn:Qs t=true) (hK:Qk t) (hSm:Z1 t) (hsz:t.nodes.length≤4000) {f:Nat} (hW:Q0r r t f (Q8 r t f)) (h:J0 S w cb ⟨rb,ro,none⟩ ⟨tb,tq,none⟩ s kv bv lv tv wv) (hr:Qj S w fun w=>Xa w rb ro r) (ht:Qj S w fun w=>J8 w tb tq t) (hok:Qe t s) (h00:s.code=0) (hF:Jh S w)
  {i:Int} (hi:InT t i) (hif:i<(f:Int)+1) (Qo4:Yt t s (t.at i).kind=true) (Qnj:(t.at i).kind=33) :
  Calls prog 124 #[.pointer (some ⟨cb,0,none⟩),.int .i64 i] w fun e w'=>e=.returned (.tuple #[])∧AtS S w cb ⟨rb,ro,none⟩ ⟨tb,tq,none⟩ (fnF t (Q8 r t f) s i (t.at i)) kv bv tv w':=by
 have hO:Yc t (Q8 r t f):=fun s k h hk=>Qe.walk hK hSm r f s k h hk
 have hlk:∀k∈(t.at i).kids,InT t k∧k<(f:Int):=fun k hk=>⟨hi.kid hK hk,by have:=(hK.mem hi hk).2;omega⟩
 have hs:=Q13 hn hi Om;unfold Jf at hs;rw[Ng Om,Ng Om,Ng Om,Ng Om,Ng Om,Ps Qnj] at hs
 obtain⟨ps,b0,Qnf,hbk⟩:∃ps b0,(t.at i).kids=ps++[b0]∧(t.at b0).kind=27:=by
  cases hg:(t.at i).kids.getLast? with
  |none=>rw[hg] at hs;cases hs
  |some b =>
   rw[hg] at hs;simp only[Bool.and_eq_true] at hs;have hne:(t.at i).kids≠[]:=by intro h9;rw[h9] at hg;cases hg
   rw[List.getLast?_eq_some_getLast hne] at hg;cases hg;exact⟨_,_,(List.dropLast_concat_getLast hne).symm,by simpa[isK] using hs.2⟩
 have hb9:InT t b0:=hi.kid hK (by rw[Qnf];simp);have hbi:b0<i:=(hK.mem hi (by rw[Qnf];simp)).2;have Qo8:∀k∈(t.at b0).kids,InT t k∧k<(f:Int):=fun k hk=>⟨hb9.kid hK hk,by have:=(hK.mem hb9 hk).2;omega⟩
 have Qow:∀l,(t.at b0).kids.getLast?=some l→(t.at l).kind=26→∃e es,(t.at l).kids=e::es∧InT t e∧e<(f:Int):=by
  intro l hl h26;have hlm:=List.mem_of_getLast? hl;have hli:=(Qo8 l hlm).1;have hs9:=Yr hn hli (by rw[h26];rfl);unfold Z3 at hs9;rw[h26,Ps Dc] at hs9;obtain⟨e,he,_⟩:=Xc hs9;refine⟨e,[],he,hli.kid hK (by rw[he];simp),?_⟩;have:=(hK.mem hli (by rw[he];simp:e∈(t.at l).kids)).2;have:=(Qo8 l hlm).2;omega
 have hsm:=hSm i;have Qns:=Hh (And.intro Qnf (And.intro hsm (And.intro Qo8 Qow)));clear Qnf hsm Qo8 Qow hs hbk hb9 hbi;have HTS:=Hh ht;have HRS:=Hh hr;have hml:=hi.2;obtain⟨m,nb,no,nc,A,p,o,c,rfl,hnd,hmt,q2,c0,c1,c2,c3,pst⟩:=Q7u ht hi;have q1:w.cell? ⟨cb,1,none⟩=some (.pointer (some ⟨tb,tq,none⟩)):=h.blk.cell 1 _ rfl;have hk0:Q0 nob w (w.alloc (.cells #[.int .i64 (t.at (m:Int)).kind,.string (t.at (m:Int)).text,.int .i64 (t.at (m:Int)).i,.slice A (t.at (m:Int)).kids.length c] 70)):=(Kr _ _).alloc _;have hb0:=Blk.new w [.int .i64 (t.at (m:Int)).kind,.string (t.at (m:Int)).text,.int .i64 (t.at (m:Int)).i,.slice A (t.at (m:Int)).kids.length c] 70;generalize hN:t.at (m:Int)=n at c0 c1 c2 c3 pst hk0 hb0 Qnj hnd;generalize hW0:w.alloc (.cells #[.int .i64 n.kind,.string n.text,.int .i64 n.i,.slice A n.kids.length c] 70)=W0 at hk0 hb0;have u0:=hb0.cell 0 _ rfl;have u1:=hb0.cell 1 _ rfl;have u2:=hb0.cell 2 _ rfl;have u3:=hb0.cell 3 _ rfl;have hkS:Q0 S w W0:=hk0.ofNob S;have H0:=Hh (h.nobk hk0);have HT:=Hh (ht.kept hkS);have Qnw:=Hh hok.top;have HOK:=Hh hok;have HM:=Hh Qo4;have Qoo:=Hh pst;have HF:=Hh hF;have H00:=Hh h00;have HKD:=Hh Qnj;have HI:=Hh hi;have Qzj:=Hh hN;have HLK:=Hh hlk;rw[hN] at Qns HLK HM;have t33:(n.kind==33)=true:=by simpa using HKD.o
 clear h hr ht hok Qo4 hi pst hnd hml hF h00 hlk Qnj hN hb0;go_enter func124,ntmps124;go_wp2_with (first|(go_at_call 164;refine (Zj H0.o t HT.o.now Qnw.o.1 Qnw.o.2 _).mono ?_;rw[HM.o];rintro e w1 ⟨rfl,hk1⟩;have v0:=hk1.cell (fun h=>h) u0;have v1:=hk1.cell (fun h=>h) u1;have v2:=hk1.cell (fun h=>h) u2;have v3:=hk1.cell (fun h=>h) u3;have HC1:=Hh (H0.o.nobk hk1);have HS1:=Hh (hkS.trans (hk1.ofNob S)))|(go_at_call 165;refine (Qnc (r:=r) hW hO hsz HC1.o (HRS.o.kept HS1.o) (HTS.o.kept HS1.o) HOK.o H00.o (HF.o.kept HS1.o) _ n Qns.o.2.1 _ (Qoo.o.kept HS1.o) ps b0 Qns.o.1 (fun k hk=>(HLK.o k hk).1) Qns.o.2.2.1 Qns.o.2.2.2).mono ?_;rintro e w2 ⟨rfl,hat⟩));go_returns;exact⟨rfl,hat.after HS1.o⟩
end
section
variable {r:Reg} {t:Q1} {S:Nat→Prop} {w:World} {cb rb ro tb tq:Nat} {s:CS} {kv bv lv tv wv:Value}
theorem Qkl (hn:Qs t=true) (hK:Qk t) (hSm:Z1 t) (hsz:t.nodes.length≤4000) {f:Nat} (hW:Q0r r t f (Q8 r t f)) (h:J0 S w cb ⟨rb,ro,none⟩ ⟨tb,tq,none⟩ s kv bv lv tv wv) (hr:Qj S w fun w=>Xa w rb ro r) (ht:Qj S w fun w=>J8 w tb tq t) (hok:Qe t s) (h00:s.code=0) (hF:Jh S w)
  {i:Int} (hi:InT t i) (hif:i<(f:Int)+1) (Qo4:Yt t s (t.at i).kind=true) (Qnj:(t.at i).kind=34) :
  Calls prog 124 #[.pointer (some ⟨cb,0,none⟩),.int .i64 i] w fun e w'=>e=.returned (.tuple #[])∧AtS S w cb ⟨rb,ro,none⟩ ⟨tb,tq,none⟩ (Qb (Q8 r t f) s (t.at i).kids) kv bv tv w':=by
 have hO:Yc t (Q8 r t f):=fun s k h hk=>Qe.walk hK hSm r f s k h hk
 have hlk:∀k∈(t.at i).kids,InT t k∧k<(f:Int):=fun k hk=>⟨hi.kid hK hk,by have:=(hK.mem hi hk).2;omega⟩
 have HTS:=Hh ht;have HRS:=Hh hr;have hml:=hi.2;obtain⟨m,nb,no,nc,A,p,o,c,n,W0,rfl,hnd,hmt,q2,q1,c0,c1,c2,c3,pst,hN,hW0,hk0,hb0,u0,u1,u2,u3,hkS,H0,HT⟩:=Yz ht h hi;rw[hN] at Qnj ⊢;have Qnw:=Hh hok.top;have HOK:=Hh hok;have HM:=Hh Qo4;have Qoo:=Hh pst;have HF:=Hh hF;have H00:=Hh h00;have HKD:=Hh Qnj;have HI:=Hh hi;have HLK:=Hh hlk;rw[hN] at HLK HM;have t33:(n.kind==33)=false:=by have:=HKD.o;simp;omega
 have t34:(n.kind==34)=true:=by simpa using HKD.o
 clear h hr ht hok Qo4 hi pst hnd hml hF h00 hlk Qnj hN hb0;go_enter func124,ntmps124;go_wp2_with (first|(go_at_call 164;refine (Zj H0.o t HT.o.now Qnw.o.1 Qnw.o.2 _).mono ?_;rw[HM.o];rintro e w1 ⟨rfl,hk1⟩;have v0:=hk1.cell (fun h=>h) u0;have v1:=hk1.cell (fun h=>h) u1;have v2:=hk1.cell (fun h=>h) u2;have v3:=hk1.cell (fun h=>h) u3;have HC1:=Hh (H0.o.nobk hk1);have HS1:=Hh (hkS.trans (hk1.ofNob S)))|(go_at_call 93;refine (Xw hW hO HC1.o (HRS.o.kept HS1.o) (HTS.o.kept HS1.o) HOK.o (HF.o.kept HS1.o) _ n.kids (Qoo.o.kept HS1.o) HLK.o).mono ?_;rintro e w2 ⟨rfl,hat⟩));go_returns;exact⟨rfl,hat.after HS1.o⟩
theorem Qhi (hn:Qs t=true) (hK:Qk t) (hSm:Z1 t) (hsz:t.nodes.length≤4000) {f:Nat} (hW:Q0r r t f (Q8 r t f)) (h:J0 S w cb ⟨rb,ro,none⟩ ⟨tb,tq,none⟩ s kv bv lv tv wv) (hr:Qj S w fun w=>Xa w rb ro r) (ht:Qj S w fun w=>J8 w tb tq t) (hok:Qe t s) (h00:s.code=0) (hF:Jh S w)
  {i:Int} (hi:InT t i) (hif:i<(f:Int)+1) (Qo4:Yt t s (t.at i).kind=true) (Qnj:(t.at i).kind=11) :
  Calls prog 124 #[.pointer (some ⟨cb,0,none⟩),.int .i64 i] w fun e w'=>e=.returned (.tuple #[])∧AtS S w cb ⟨rb,ro,none⟩ ⟨tb,tq,none⟩ (Q4y r t (Q8 r t f) s i (t.at i)) kv bv tv w':=by
 have hO:Yc t (Q8 r t f):=fun s k h hk=>Qe.walk hK hSm r f s k h hk
 have hlk:∀k∈(t.at i).kids,InT t k∧k<(f:Int):=fun k hk=>⟨hi.kid hK hk,by have:=(hK.mem hi hk).2;omega⟩
 obtain⟨a,k1,ks,Qnf,_⟩:=Q51 hn hi Qnj;have Qns:=Hh Qnf;clear Qnf;have HTS:=Hh ht;have HRS:=Hh hr;have hml:=hi.2;obtain⟨m,nb,no,nc,A,p,o,c,n,W0,rfl,hnd,hmt,q2,q1,c0,c1,c2,c3,pst,hN,hW0,hk0,hb0,u0,u1,u2,u3,hkS,H0,HT⟩:=Yz ht h hi;rw[hN] at Qnj ⊢;have Qnw:=Hh hok.top;have HOK:=Hh hok;have HM:=Hh Qo4;have Qoo:=Hh pst;have HF:=Hh hF;have H00:=Hh h00;have HKD:=Hh Qnj;have HI:=Hh hi;have HLK:=Hh hlk;rw[hN] at HLK HM Qns;have t33:(n.kind==33)=false:=by have:=HKD.o;simp;omega
 have t34:(n.kind==34)=false:=by have:=HKD.o;simp;omega
 have t11:(n.kind==11)=true:=by simpa using HKD.o
 clear h hr ht hok Qo4 hi pst hnd hml hF h00 hlk Qnj hN hb0;go_enter func124,ntmps124;go_wp2_with (first|(go_at_call 164;refine (Zj H0.o t HT.o.now Qnw.o.1 Qnw.o.2 _).mono ?_;rw[HM.o];rintro e w1 ⟨rfl,hk1⟩;have v0:=hk1.cell (fun h=>h) u0;have v1:=hk1.cell (fun h=>h) u1;have v2:=hk1.cell (fun h=>h) u2;have v3:=hk1.cell (fun h=>h) u3;have HC1:=Hh (H0.o.nobk hk1);have HS1:=Hh (hkS.trans (hk1.ofNob S)))|(go_at_call 166;refine (Qmp hW hO HC1.o (HRS.o.kept HS1.o) (HTS.o.kept HS1.o) HOK.o H00.o (HF.o.kept HS1.o) _ HI.o n _ (Qoo.o.kept HS1.o) HLK.o a k1 ks Qns.o).mono ?_;rintro e w2 ⟨rfl,hat⟩));go_returns;exact⟨rfl,hat.after HS1.o⟩
theorem Qai (hn:Qs t=true) (hK:Qk t) (hSm:Z1 t) (hsz:t.nodes.length≤4000) {f:Nat} (hW:Q0r r t f (Q8 r t f)) (h:J0 S w cb ⟨rb,ro,none⟩ ⟨tb,tq,none⟩ s kv bv lv tv wv) (hr:Qj S w fun w=>Xa w rb ro r) (ht:Qj S w fun w=>J8 w tb tq t) (hok:Qe t s) (h00:s.code=0) (hF:Jh S w)
  {i:Int} (hi:InT t i) (hif:i<(f:Int)+1) (Qo4:Yt t s (t.at i).kind=true) (Qnj:(t.at i).kind=16) :
  Calls prog 124 #[.pointer (some ⟨cb,0,none⟩),.int .i64 i] w fun e w'=>e=.returned (.tuple #[])∧AtS S w cb ⟨rb,ro,none⟩ ⟨tb,tq,none⟩ (Q05 (Q8 r t f) s i (t.at i)) kv bv tv w':=by
 have hO:Yc t (Q8 r t f):=fun s k h hk=>Qe.walk hK hSm r f s k h hk
 have hlk:∀k∈(t.at i).kids,InT t k∧k<(f:Int):=fun k hk=>⟨hi.kid hK hk,by have:=(hK.mem hi hk).2;omega⟩
 obtain⟨a,ks,Qnf,h2⟩:=Qji hn hi Om;have Qns:=Hh (And.intro Qnf h2);clear Qnf h2;have HTS:=Hh ht;have HRS:=Hh hr;have hml:=hi.2;obtain⟨m,nb,no,nc,A,p,o,c,n,W0,rfl,hnd,hmt,q2,q1,c0,c1,c2,c3,pst,hN,hW0,hk0,hb0,u0,u1,u2,u3,hkS,H0,HT⟩:=Yz ht h hi;rw[hN] at Qnj ⊢;have Qnw:=Hh hok.top;have HOK:=Hh hok;have HM:=Hh Qo4;have Qoo:=Hh pst;have HF:=Hh hF;have H00:=Hh h00;have HKD:=Hh Qnj;have HI:=Hh hi;have HLK:=Hh hlk;rw[hN] at HLK HM Qns;have t33:(n.kind==33)=false:=by have:=HKD.o;simp;omega
 have t34:(n.kind==34)=false:=by have:=HKD.o;simp;omega
 have t11:(n.kind==11)=false:=by have:=HKD.o;simp;omega
 have t16:(n.kind==16)=true:=by simpa using HKD.o
 exact K0s
theorem Qaj (hn:Qs t=true) (hK:Qk t) (hSm:Z1 t) (hsz:t.nodes.length≤4000) {f:Nat} (hW:Q0r r t f (Q8 r t f)) (h:J0 S w cb ⟨rb,ro,none⟩ ⟨tb,tq,none⟩ s kv bv lv tv wv) (hr:Qj S w fun w=>Xa w rb ro r) (ht:Qj S w fun w=>J8 w tb tq t) (hok:Qe t s) (h00:s.code=0) (hF:Jh S w)
  {i:Int} (hi:InT t i) (hif:i<(f:Int)+1) (Qo4:Yt t s (t.at i).kind=true) (Qnj:(t.at i).kind=17) :
  Calls prog 124 #[.pointer (some ⟨cb,0,none⟩),.int .i64 i] w fun e w'=>e=.returned (.tuple #[])∧AtS S w cb ⟨rb,ro,none⟩ ⟨tb,tq,none⟩ (Q05 (Q8 r t f) s i (t.at i)) kv bv tv w':=by
 have hO:Yc t (Q8 r t f):=fun s k h hk=>Qe.walk hK hSm r f s k h hk
 have hlk:∀k∈(t.at i).kids,InT t k∧k<(f:Int):=fun k hk=>⟨hi.kid hK hk,by have:=(hK.mem hi hk).2;omega⟩
 obtain⟨a,ks,Qnf,h2⟩:=Qji hn hi Om;have Qns:=Hh (And.intro Qnf h2);clear Qnf h2;have HTS:=Hh ht;have HRS:=Hh hr;have hml:=hi.2;obtain⟨m,nb,no,nc,A,p,o,c,n,W0,rfl,hnd,hmt,q2,q1,c0,c1,c2,c3,pst,hN,hW0,hk0,hb0,u0,u1,u2,u3,hkS,H0,HT⟩:=Yz ht h hi;rw[hN] at Qnj ⊢;have Qnw:=Hh hok.top;have HOK:=Hh hok;have HM:=Hh Qo4;have Qoo:=Hh pst;have HF:=Hh hF;have H00:=Hh h00;have HKD:=Hh Qnj;have HI:=Hh hi;have HLK:=Hh hlk;rw[hN] at HLK HM Qns;have t33:(n.kind==33)=false:=by have:=HKD.o;simp;omega
 have t34:(n.kind==34)=false:=by have:=HKD.o;simp;omega
 have t11:(n.kind==11)=false:=by have:=HKD.o;simp;omega
 have t16:(n.kind==16)=false:=by have:=HKD.o;simp;omega
 have t17:(n.kind==17)=true:=by simpa using HKD.o
 exact K0s
theorem Qie (hn:Qs t=true) (hK:Qk t) (hSm:Z1 t) (hsz:t.nodes.length≤4000) {f:Nat} (hW:Q0r r t f (Q8 r t f)) (h:J0 S w cb ⟨rb,ro,none⟩ ⟨tb,tq,none⟩ s kv bv lv tv wv) (hr:Qj S w fun w=>Xa w rb ro r) (ht:Qj S w fun w=>J8 w tb tq t) (hok:Qe t s) (h00:s.code=0) (hF:Jh S w)
  {i:Int} (hi:InT t i) (hif:i<(f:Int)+1) (Qo4:Yt t s (t.at i).kind=true) (Qnj:(t.at i).kind=18) :
  Calls prog 124 #[.pointer (some ⟨cb,0,none⟩),.int .i64 i] w fun e w'=>e=.returned (.tuple #[])∧AtS S w cb ⟨rb,ro,none⟩ ⟨tb,tq,none⟩ (Q40 r t (Q8 r t f) s (t.at i)) kv bv tv w':=by
 have hO:Yc t (Q8 r t f):=fun s k h hk=>Qe.walk hK hSm r f s k h hk
 have hlk:∀k∈(t.at i).kids,InT t k∧k<(f:Int):=fun k hk=>⟨hi.kid hK hk,by have:=(hK.mem hi hk).2;omega⟩
 have hs:=Yr hn hi (by rw[Qnj];rfl);unfold Z3 at hs;rw[Qnj,Ng Dc,Ng Dc,Ng Dc,Ps rfl] at hs;obtain⟨k0,k1,k2,Qnf,_⟩:=Q22 hs;have hin:∀k∈(t.at i).kids,∀x∈(t.at k).kids,InT t x:=fun k hk x hx=>(hi.kid hK hk).kid hK hx
 have Qns:=Hh (And.intro Qnf hin);clear Qnf hin hs;have HTS:=Hh ht;have HRS:=Hh hr;have hml:=hi.2;obtain⟨m,nb,no,nc,A,p,o,c,n,W0,rfl,hnd,hmt,q2,q1,c0,c1,c2,c3,pst,hN,hW0,hk0,hb0,u0,u1,u2,u3,hkS,H0,HT⟩:=Yz ht h hi;rw[hN] at Qnj ⊢;have Qnw:=Hh hok.top;have HOK:=Hh hok;have HM:=Hh Qo4;have Qoo:=Hh pst;have HF:=Hh hF;have H00:=Hh h00;have HKD:=Hh Qnj;have HI:=Hh hi;have HLK:=Hh hlk;rw[hN] at HLK HM Qns;have t33:(n.kind==33)=false:=by have:=HKD.o;simp;omega
 have t34:(n.kind==34)=false:=by have:=HKD.o;simp;omega
 have t11:(n.kind==11)=false:=by have:=HKD.o;simp;omega
 have t16:(n.kind==16)=false:=by have:=HKD.o;simp;omega
 have t17:(n.kind==17)=false:=by have:=HKD.o;simp;omega
 have t18:(n.kind==18)=true:=by simpa using HKD.o
 clear h hr ht hok Qo4 hi pst hnd hml hF h00 hlk Qnj hN hb0;go_enter func124,ntmps124;go_wp2_with (first|(go_at_call 164;refine (Zj H0.o t HT.o.now Qnw.o.1 Qnw.o.2 _).mono ?_;rw[HM.o];rintro e w1 ⟨rfl,hk1⟩;have v0:=hk1.cell (fun h=>h) u0;have v1:=hk1.cell (fun h=>h) u1;have v2:=hk1.cell (fun h=>h) u2;have v3:=hk1.cell (fun h=>h) u3;have HC1:=Hh (H0.o.nobk hk1);have HS1:=Hh (hkS.trans (hk1.ofNob S)))|(go_at_call 168;refine (Qmh hW hO hSm HC1.o (HRS.o.kept HS1.o) (HTS.o.kept HS1.o) HOK.o (HF.o.kept HS1.o) n _ (Qoo.o.kept HS1.o) k0 k1 k2 Qns.o.1 HLK.o Qns.o.2).mono ?_;rintro e w2 ⟨rfl,hat⟩));go_returns;exact⟨rfl,hat.after HS1.o⟩
theorem Qin (hn:Qs t=true) (hK:Qk t) (hSm:Z1 t) (hsz:t.nodes.length≤4000) {f:Nat} (hW:Q0r r t f (Q8 r t f)) (h:J0 S w cb ⟨rb,ro,none⟩ ⟨tb,tq,none⟩ s kv bv lv tv wv) (hr:Qj S w fun w=>Xa w rb ro r) (ht:Qj S w fun w=>J8 w tb tq t) (hok:Qe t s) (h00:s.code=0) (hF:Jh S w)
  {i:Int} (hi:InT t i) (hif:i<(f:Int)+1) (Qo4:Yt t s (t.at i).kind=true) (Qnj:(t.at i).kind=20) :
  Calls prog 124 #[.pointer (some ⟨cb,0,none⟩),.int .i64 i] w fun e w'=>e=.returned (.tuple #[])∧AtS S w cb ⟨rb,ro,none⟩ ⟨tb,tq,none⟩ (Q3y r t (Q8 r t f) s i (t.at i)) kv bv tv w':=by
 have hO:Yc t (Q8 r t f):=fun s k h hk=>Qe.walk hK hSm r f s k h hk
 have hlk:∀k∈(t.at i).kids,InT t k∧k<(f:Int):=fun k hk=>⟨hi.kid hK hk,by have:=(hK.mem hi hk).2;omega⟩
 have hs:=Yr hn hi (by rw[Qnj];rfl);unfold Z3 at hs;rw[Qnj,Ng Dc,Ng Dc,Ng Dc,Ng Dc,Ps rfl] at hs;obtain⟨a,k1,Qnf,_⟩:=Y9 hs;have Qns:=Hh Qnf;clear Qnf hs;have HTS:=Hh ht;have HRS:=Hh hr;have hml:=hi.2;obtain⟨m,nb,no,nc,A,p,o,c,n,W0,rfl,hnd,hmt,q2,q1,c0,c1,c2,c3,pst,hN,hW0,hk0,hb0,u0,u1,u2,u3,hkS,H0,HT⟩:=Yz ht h hi;rw[hN] at Qnj ⊢;have Qnw:=Hh hok.top;have HOK:=Hh hok;have HM:=Hh Qo4;have Qoo:=Hh pst;have HF:=Hh hF;have H00:=Hh h00;have HKD:=Hh Qnj;have HI:=Hh hi;have HLK:=Hh hlk;rw[hN] at HLK HM Qns;have t33:(n.kind==33)=false:=by have:=HKD.o;simp;omega
 have t34:(n.kind==34)=false:=by have:=HKD.o;simp;omega
 have t11:(n.kind==11)=false:=by have:=HKD.o;simp;omega
 have t16:(n.kind==16)=false:=by have:=HKD.o;simp;omega
 have t17:(n.kind==17)=false:=by have:=HKD.o;simp;omega
 have t18:(n.kind==18)=false:=by have:=HKD.o;simp;omega
 have t20:(n.kind==20)=true:=by simpa using HKD.o
 clear h hr ht hok Qo4 hi pst hnd hml hF h00 hlk Qnj hN hb0;go_enter func124,ntmps124;go_wp2_with (first|(go_at_call 164;refine (Zj H0.o t HT.o.now Qnw.o.1 Qnw.o.2 _).mono ?_;rw[HM.o];rintro e w1 ⟨rfl,hk1⟩;have v0:=hk1.cell (fun h=>h) u0;have v1:=hk1.cell (fun h=>h) u1;have v2:=hk1.cell (fun h=>h) u2;have v3:=hk1.cell (fun h=>h) u3;have HC1:=Hh (H0.o.nobk hk1);have HS1:=Hh (hkS.trans (hk1.ofNob S)))|(go_at_call 169;refine (Qlq hW hO (Q94 r t f) hsz HC1.o (HRS.o.kept HS1.o) (HTS.o.kept HS1.o) HOK.o H00.o (HF.o.kept HS1.o) _ n _ (Qoo.o.kept HS1.o) HLK.o a k1 [] Qns.o).mono ?_;rintro e w2 ⟨rfl,hat⟩));go_returns;exact⟨rfl,hat.after HS1.o⟩
theorem Qek (hn:Qs t=true) (hK:Qk t) (hSm:Z1 t) (hsz:t.nodes.length≤4000) {f:Nat} (hW:Q0r r t f (Q8 r t f)) (h:J0 S w cb ⟨rb,ro,none⟩ ⟨tb,tq,none⟩ s kv bv lv tv wv) (hr:Qj S w fun w=>Xa w rb ro r) (ht:Qj S w fun w=>J8 w tb tq t) (hok:Qe t s) (h00:s.code=0) (hF:Jh S w)
  {i:Int} (hi:InT t i) (hif:i<(f:Int)+1) (Qo4:Yt t s (t.at i).kind=true) (Qnj:(t.at i).kind=21) :
  Calls prog 124 #[.pointer (some ⟨cb,0,none⟩),.int .i64 i] w fun e w'=>e=.returned (.tuple #[])∧AtS S w cb ⟨rb,ro,none⟩ ⟨tb,tq,none⟩ (Xe r t (Q8 r t f) (t.at i).kids [] s) kv bv tv w':=by
 have hO:Yc t (Q8 r t f):=fun s k h hk=>Qe.walk hK hSm r f s k h hk
 have hlk:∀k∈(t.at i).kids,InT t k∧k<(f:Int):=fun k hk=>⟨hi.kid hK hk,by have:=(hK.mem hi hk).2;omega⟩
 have hs:=Yr hn hi (by rw[Qnj];rfl);unfold Z3 at hs;rw[Qnj,Ng Dc,Ng Dc,Ng Dc,Ng Dc,Ng Dc,Ps rfl] at hs
 have Qob:∀k∈(t.at i).kids,InT t k∧(∃e es,(t.at k).kids=e::es)∧∀x∈(t.at k).kids,InT t x∧x<(f:Int):=by
  intro k hk;have hki:=hi.kid hK hk;have h28:(t.at k).kind=28:=by simpa[isK] using Ym hs hk
  have hs9:=Q13 hn hki Om;unfold Jf at hs9;rw[h28,Ng Dc,Ps rfl] at hs9;obtain⟨e,he,_⟩:=Xc hs9;exact⟨hki,⟨e,[],he⟩,fun x hx=>⟨hki.kid hK hx,by have:=(hK.mem hki hx).2;have:=(hlk k hk).2;omega⟩⟩
 have hsm:=hSm i;have Qns:=Hh (And.intro Qob hsm);clear Qob hsm hs;have HTS:=Hh ht;have HRS:=Hh hr;have hml:=hi.2;obtain⟨m,nb,no,nc,A,p,o,c,n,W0,rfl,hnd,hmt,q2,q1,c0,c1,c2,c3,pst,hN,hW0,hk0,hb0,u0,u1,u2,u3,hkS,H0,HT⟩:=Yz ht h hi;rw[hN] at Qnj ⊢;have Qnw:=Hh hok.top;have HOK:=Hh hok;have HM:=Hh Qo4;have Qoo:=Hh pst;have HF:=Hh hF;have H00:=Hh h00;have HKD:=Hh Qnj;have HI:=Hh hi;have HLK:=Hh hlk;rw[hN] at HLK HM Qns;have t33:(n.kind==33)=false:=by have:=HKD.o;simp;omega
 have t34:(n.kind==34)=false:=by have:=HKD.o;simp;omega
 have t11:(n.kind==11)=false:=by have:=HKD.o;simp;omega
 have t16:(n.kind==16)=false:=by have:=HKD.o;simp;omega
 have t17:(n.kind==17)=false:=by have:=HKD.o;simp;omega
 have t18:(n.kind==18)=false:=by have:=HKD.o;simp;omega
 have t20:(n.kind==20)=false:=by have:=HKD.o;simp;omega
 have t21:(n.kind==21)=true:=by simpa using HKD.o
 clear h hr ht hok Qo4 hi pst hnd hml hF h00 hlk Qnj hN hb0;go_enter func124,ntmps124;go_wp2_with (first|(go_at_call 164;refine (Zj H0.o t HT.o.now Qnw.o.1 Qnw.o.2 _).mono ?_;rw[HM.o];rintro e w1 ⟨rfl,hk1⟩;have v0:=hk1.cell (fun h=>h) u0;have v1:=hk1.cell (fun h=>h) u1;have v2:=hk1.cell (fun h=>h) u2;have v3:=hk1.cell (fun h=>h) u3;have HC1:=Hh (H0.o.nobk hk1);have HS1:=Hh (hkS.trans (hk1.ofNob S)))|(go_at_call 170;refine (Qlg hW hO HC1.o (HRS.o.kept HS1.o) (HTS.o.kept HS1.o) HOK.o (HF.o.kept HS1.o) n Qns.o.2 _ (Qoo.o.kept HS1.o) Qns.o.1).mono ?_;rintro e w2 ⟨rfl,hat⟩));go_returns;exact⟨rfl,hat.after HS1.o⟩
end
end Go.Proofs.YtkgkafjachjafaaGreat
