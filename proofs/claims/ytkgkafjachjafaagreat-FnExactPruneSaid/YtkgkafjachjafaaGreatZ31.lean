/- Part 31 of: FnExactPrune answers true; no condition. -/
import Derived.Test.YtkgkafjachjafaaGreatZ10
import Derived.Test.YtkgkafjachjafaaGreatZ21
import Derived.Test.YtkgkafjachjafaaGreatZ22
import Derived.Test.YtkgkafjachjafaaGreatZ29
set_option linter.unusedVariables false
set_option maxHeartbeats 2000000
set_option maxRecDepth 100000
open Go Go.RowKit
namespace Go.Proofs.YtkgkafjachjafaaGreat
open Tryz
theorem Zj (s:CS) (a b c:Int):(Qq s a b c).locals=s.locals:=by unfold Qq;split;rfl;exact Jv _ _ _
theorem Q1m (r:Reg) (s:CS) (a:ByteArray) (b:Int):(Qh r s a b).2.locals=s.locals:=by
 unfold Qh;split
 ·exact Jv _ _ _
 ·split
  ·rfl
  ·exact Jv _ _ _
theorem Qct (t:Q1) (i:Int) (ks ps:List Int) (s:CS):(Yc t i ks ps s).locals=s.locals:=by
 induction ks generalizing ps s with
 |nil=>rfl
 |cons k ks ih=>cases ps with
  |nil=>rfl
  |cons p ps=>simp only[Yc];rw[ih,Zj]
theorem Qd2 (t:Q1) (s:CS) (i:Int) (n:Qc):(Q37 t s i n).2.locals=s.locals:=by
 unfold Q37;dsimp only;split
 ·exact Jv _ _ _
 ·split
  ·exact Jv _ _ _
  ·exact Qct _ _ _ _ _
theorem Qcu (s:CS) (i:Int) (n:Qc):(Yt s i n).2.locals=s.locals:=by unfold Yt;dsimp only;split;rfl;exact Jv _ _ _
theorem Qdh (r:Reg) (t:Q1) (s:CS) (i:Int) (n:Qc):(Zx r t s i n).2.locals=s.locals:=by
 unfold Zx;split;· rfl
 split;· rfl
 split;· rfl
 split
 ·split
  ·exact Jv _ _ _
  ·rfl
 split;· exact Q1m _ _ _ _
 split;· exact X7 _ _ _ _ _
 split;· exact Qd2 _ _ _ _
 exact Qcu _ _ _
theorem Qcl (r:Reg) (t:Q1) (s:CS) (i:Int) (n:Qc):s.locals.length≤(Qz r t s i n).locals.length:=by
 unfold Qz;split
 ·split
  ·rw[Jv];exact Nat.le_refl _
  ·show s.locals.length≤(s.locals++[i]).length;simp
 split
 ·split
  ·rw[Jv];exact Nat.le_refl _
  ·rw[Zj];exact Nat.le_refl _
 split;· rw[Zj,Q1m];exact Nat.le_refl _
 split;· rw[Zj,X7];exact Nat.le_refl _
 split;· rw[Zj,X7];exact Nat.le_refl _
 split;· rw[Zj,X7];exact Nat.le_refl _
 split;· rw[X7];exact Nat.le_refl _
 exact Nat.le_refl _
theorem Qbs (r:Reg) (t:Q1) (i k1:Int) (l:List Int) (s:CS):(l.foldl (pickStep r t i k1) s).locals=s.locals:=by
 induction l generalizing s with
 |nil=>rfl
 |cons k ks ih =>
  rw[List.foldl_cons,ih];unfold pickStep;dsimp only
  have h1:(if k=k1 then ((Qh r s (t.at k).text k).2.setKind i (Qh r s (t.at k).text k).1) else (Qh r s (t.at k).text k).2).locals=s.locals:=by
   split
   ·exact Q1m _ _ _ _
   ·exact Q1m _ _ _ _
  generalize (if k=k1 then ((Qh r s (t.at k).text k).2.setKind i (Qh r s (t.at k).text k).1) else (Qh r s (t.at k).text k).2)=s1 at h1 ⊢;split
  ·exact h1
  ·rw[Jv];exact h1
theorem Qbv (r:Reg) (t:Q1) (l:List Int) (s:CS) (all:List Int):(eachL r t l (s,all)).1.locals=s.locals:=by
 induction l generalizing s all with
 |nil=>rfl
 |cons k ks ih =>
  simp only[eachL];rw[ih];split
  ·exact Jv _ _ _
  ·split
   ·exact Jv _ _ _
   ·rfl
theorem Qev {r:Reg} {t:Q1} {W:CS→Int→CS} (hW:Q1q W) (l:List Int) (names:List ByteArray) (s:CS):s.locals.length≤(Xj r t W l names s).locals.length:=by
 induction l generalizing names s with
 |nil=>exact Nat.le_refl _
 |cons k ks ih =>
  simp only[Xj];have h1:=hW.kids (t.at k).kids s;split
  ·exact h1
  ·refine Nat.le_trans h1 (Nat.le_trans (Nat.le_of_eq ?_) (ih _ _))
   rw[Zj];split
   ·rw[Jv,X7]
   ·rw[X7]
theorem Yj {c:Prop} [Decidable c] {x y:CS} {m:Nat} (hx:c→m≤x.locals.length) (hy:¬ c→m≤y.locals.length):m≤(if c then x else y).locals.length:=by
 by_cases h:c
 ·rw[Ps h];exact hx h
 ·rw[Ng h];exact hy h
theorem Q8w (r:Reg) (t:Q1):∀f,Q1q (Q8 r t f):=by
 intro f
 induction f with
 |zero=>intro s k;exact Nat.le_refl _
 |succ f ih =>
  intro s i;have hk:=ih.kids (t.at i).kids s;unfold Q8;dsimp only
  refine Yj (fun _=>?_) (fun _=>?_)
  ·refine Yj (fun _=>?_) (fun _=>?_)
   ·unfold fnF
    dsimp only
    have hp:s.locals.length≤((t.at i).kids.dropLast.foldl (Jk t) s).locals.length:=by
     have:∀(l:List Int) (s:CS),s.locals.length≤(l.foldl (Jk t) s).locals.length:=by
      intro l
      induction l with
      |nil=>intro s;exact Nat.le_refl _
      |cons k ks ih2 =>
       intro s;refine Nat.le_trans ?_ (ih2 _);unfold Jk CS.addLocal
       show s.locals.length≤((Qy t s k).locals++[k]).length
       rw[Q0w];simp
     exact this _ _
    refine Yj (fun _=>?_) (fun _=>?_)
    ·rw[Zj];exact Nat.le_trans hp (Nat.le_trans (ih.kids _ _) (ih.kids _ _))
    ·rw[Jv];exact Nat.le_trans hp (ih.kids _ _)
   refine Yj (fun _=>?_) (fun _=>?_)
   ·exact hk
   refine Yj (fun _=>?_) (fun _=>?_)
   ·unfold Q4v;rw[Qbs,Zj];exact ih _ _
   refine Yj (fun _=>?_) (fun _=>?_)
   ·unfold Q00;refine Nat.le_trans (ih s (kidAt (t.at i) 0)) (Nat.le_trans (Nat.le_of_eq ?_) (ih.kids _ _));rw[Zj]
   refine Yj (fun _=>?_) (fun _=>?_)
   ·unfold Q3f
    dsimp only;refine Nat.le_trans (Nat.le_of_eq ?_) (ih.kids _ _);have e1:∀(l:List Int) (x:CS×List Int),(eachL r t l x).1.locals=x.1.locals:=fun l x=>Qbv r t l x.1 x.2
    show _=(eachL r t _ (eachL r t _ (s,[]))).1.locals.length
    rw[e1,e1]
   refine Yj (fun _=>?_) (fun _=>?_)
   ·unfold Q3n
    dsimp only;rw[List.length_dropLast];have h9:=ih.kids ((t.at i).kids.drop 1) {(Qy t ((J4 r s 3 (t.at i).text i).2.setKind (kidAt (t.at i) 0) (J4 r s 3 (t.at i).text i).1) (kidAt (t.at i) 0)).addLocal (kidAt (t.at i) 0) with inHear:=true}
    have h8:({(Qy t ((J4 r s 3 (t.at i).text i).2.setKind (kidAt (t.at i) 0) (J4 r s 3 (t.at i).text i).1) (kidAt (t.at i) 0)).addLocal (kidAt (t.at i) 0) with inHear:=true}:CS).locals.length=s.locals.length+1:=by
     show ((Qy t ((J4 r s 3 (t.at i).text i).2.setKind (kidAt (t.at i) 0) (J4 r s 3 (t.at i).text i).1) (kidAt (t.at i) 0)).locals++[kidAt (t.at i) 0]).length=_
     rw[Q0w,List.length_append]
     show (J4 r s 3 (t.at i).text i).2.locals.length+1=_
     rw[X7]
    rw[h8] at h9;exact Nat.le_pred_of_lt h9
   refine Yj (fun _=>?_) (fun _=>?_)
   ·exact Qev ih _ _ _
   refine Yj (fun _=>?_) (fun _=>?_)
   ·show s.locals.length≤((Qa (Q8 r t f) s (t.at i).kids).locals.take s.locals.length).length
    rw[List.length_take];omega
   refine Yj (fun _=>?_) (fun _=>?_)
   ·exact hk
   refine Yj (fun _=>?_) (fun _=>?_)
   ·show _≤(Zx r t _ i (t.at i)).2.locals.length
    rw[Qdh];exact hk
   ·exact Nat.le_trans hk (Qcl _ _ _ _ _)
  ·rw[Jv];exact Nat.le_refl _
section
variable {r:Reg} {t:Q1}
theorem Qje (hn:Qt t=true) {i:Int} (hi:InT t i) (hk:(t.at i).kind=16∨(t.at i).kind=17):∃a ks,(t.at i).kids=a::ks∧2≤(t.at i).kids.length:=by
 have hs:=Yo hn hi (by rcases hk with h|h<;>rw[h]<;>rfl);unfold Z5 at hs;rw[Ng (by omega)] at hs
 by_cases h:(t.at i).kind=16
 ·rw[Ps h,Bool.or_eq_true] at hs
  rcases hs with hs|hs
  ·obtain⟨a,b,e,_⟩:=Y9 hs;exact⟨a,[b],e,by rw[e];simp⟩
  ·obtain⟨a,b,c,e,_⟩:=Q1r hs;exact⟨a,[b,c],e,by rw[e];simp⟩
 ·rw[Ng h,Ps (by omega)] at hs
  obtain⟨a,b,e,_⟩:=Y9 hs;exact⟨a,[b],e,by rw[e];simp⟩
theorem Qgg (hn:Qt t=true) {i:Int} (hi:InT t i):Qi7 (t.at i):=by
 intro hk;have hs:=Yo hn hi (by rcases hk with h|h|h|h|h|h<;>rw[h]<;>rfl);unfold Z5 at hs;rw[Ps (by omega)] at hs;obtain⟨a,e,_⟩:=Xh hs;exact⟨a,[],e⟩
variable {S:Nat→Prop} {w:World} {cb rb ro tb tq:Nat} {s:CS} {kv bv lv tv wv:Value}
theorem Q7b (ht:Qm S w fun w=>J7 w tb tq t) {i:Int} (hi:InT t i):∃(m:Nat) (nb no nc:Nat) (A:Option Addr) (p o c:Nat),i=m∧t.nodes[m]?=some (t.at i)∧(m:Int)<t.nodes.length ∧
  w.cell? ⟨tb,tq,none⟩=some (.slice (some ⟨nb,no,none⟩) t.nodes.length nc)∧w.cell? ⟨nb,no+m*4,none⟩=some (.int .i64 (t.at i).kind)∧w.cell? ⟨nb,no+m*4+1,none⟩=some (.string (t.at i).text) ∧
  w.cell? ⟨nb,no+m*4+2,none⟩=some (.int .i64 (t.at i).i)∧w.cell? ⟨nb,no+m*4+3,none⟩=some (.slice A (t.at i).kids.length c)∧(Qm S w fun w=>Qi w (.slice A (t.at i).kids.length c) (t.at i).kids):=by
 obtain⟨m,rfl,hm⟩:=Q1.at_lt hi;obtain⟨tA,nb,no,nc,tc,tl,tlc,tS,tA',_,tn⟩:=ht.tree;have Qn9:0<t.nodes.length:=by have:=hi.2;omega
 obtain⟨rfl,nS⟩:=tA' Qn9;obtain⟨pv,pc,pst⟩:=tn m _ hm;obtain⟨A,p,o,c,rfl,_,_,_,_⟩:=pst.ints;obtain⟨c0,c1,c2,c3⟩:=pc w (Kr _ _);exact⟨m,nb,no,nc,A,p,o,c,rfl,hm,hi.2,tc w (Kr _ _),c0,c1,c2,c3,pst⟩
theorem Yw (ht:Qm S w fun w=>J7 w tb tq t) (h:J0 S w cb ⟨rb,ro,none⟩ ⟨tb,tq,none⟩ s kv bv lv tv wv) {i:Int} (hi:InT t i):∃(m:Nat) (nb no nc:Nat) (A:Option Addr) (p o c:Nat) (n:Qc) (W0:World),i=m∧t.nodes[m]?=some n∧(m:Int)<t.nodes.length ∧
  w.cell? ⟨tb,tq,none⟩=some (.slice (some ⟨nb,no,none⟩) t.nodes.length nc)∧w.cell? ⟨cb,1,none⟩=some (.pointer (some ⟨tb,tq,none⟩))∧w.cell? ⟨nb,no+m*4,none⟩=some (.int .i64 n.kind)∧w.cell? ⟨nb,no+m*4+1,none⟩=some (.string n.text) ∧
  w.cell? ⟨nb,no+m*4+2,none⟩=some (.int .i64 n.i)∧w.cell? ⟨nb,no+m*4+3,none⟩=some (.slice A n.kids.length c)∧(Qm S w fun w=>Qi w (.slice A n.kids.length c) n.kids)∧t.at (m:Int)=n ∧
  w.alloc (.cells #[.int .i64 n.kind,.string n.text,.int .i64 n.i,.slice A n.kids.length c] 70 (0,0))=W0∧Q0 nob w W0∧Blk W0 w.heap.size [.int .i64 n.kind,.string n.text,.int .i64 n.i,.slice A n.kids.length c] 70 ∧
  W0.cell? ⟨w.heap.size,0,none⟩=some (.int .i64 n.kind)∧W0.cell? ⟨w.heap.size,1,none⟩=some (.string n.text)∧W0.cell? ⟨w.heap.size,2,none⟩=some (.int .i64 n.i)∧W0.cell? ⟨w.heap.size,3,none⟩=some (.slice A n.kids.length c)∧Q0 S w W0 ∧
  Hi (J0 S W0 cb ⟨rb,ro,none⟩ ⟨tb,tq,none⟩ s kv bv lv tv wv)∧Hi (Qm S W0 fun w=>J7 w tb tq t):=by
 obtain⟨m,nb,no,nc,A,p,o,c,rfl,hnd,hmt,q2,c0,c1,c2,c3,pst⟩:=Q7b ht hi;have hb0:=Blk.new w [.int .i64 (t.at (m:Int)).kind,.string (t.at (m:Int)).text,.int .i64 (t.at (m:Int)).i,.slice A (t.at (m:Int)).kids.length c] 70;have hk0:Q0 nob w (w.alloc (.cells #[.int .i64 (t.at (m:Int)).kind,.string (t.at (m:Int)).text,.int .i64 (t.at (m:Int)).i,.slice A (t.at (m:Int)).kids.length c] 70 (0,0))):=(Kr _ _).alloc _;exact⟨m,nb,no,nc,A,p,o,c,_,_,rfl,hnd,hmt,q2,h.blk.cell 1 _ rfl,c0,c1,c2,c3,pst,rfl,rfl,hk0,hb0,hb0.cell 0 _ rfl,hb0.cell 1 _ rfl,hb0.cell 2 _ rfl,hb0.cell 3 _ rfl,hk0.ofNob S,Hh (h.nobk hk0),Hh (ht.kept (hk0.ofNob S))⟩
theorem Qji (h:J0 S w cb ⟨rb,ro,none⟩ ⟨tb,tq,none⟩ s kv bv lv tv wv) (ht:Qm S w fun w=>J7 w tb tq t) (hok:Qe t s) {i:Int} (hi:InT t i) (Qmo:Yl t s (t.at i).kind=false) :
  Calls prog 124 #[.pointer (some ⟨cb,0,none⟩),.int .i64 i] w fun e w'=>e=.returned (.tuple #[])∧AtS S w cb ⟨rb,ro,none⟩ ⟨tb,tq,none⟩ (s.fail 5 i) kv bv tv w':=by
 have hml:=hi.2;obtain⟨m,nb,no,nc,A,p,o,c,rfl,hnd,hmt,q2,c0,c1,c2,c3,pst⟩:=Q7b ht hi;have q1:w.cell? ⟨cb,1,none⟩=some (.pointer (some ⟨tb,tq,none⟩)):=h.blk.cell 1 _ rfl;have hk0:Q0 nob w (w.alloc (.cells #[.int .i64 (t.at (m:Int)).kind,.string (t.at (m:Int)).text,.int .i64 (t.at (m:Int)).i,.slice A (t.at (m:Int)).kids.length c] 70)):=(Kr _ _).alloc _;have hb0:=Blk.new w [.int .i64 (t.at (m:Int)).kind,.string (t.at (m:Int)).text,.int .i64 (t.at (m:Int)).i,.slice A (t.at (m:Int)).kids.length c] 70;generalize hN:t.at (m:Int)=n at c0 c1 c2 c3 pst hk0 hb0 Qmo hnd;generalize hW0:w.alloc (.cells #[.int .i64 n.kind,.string n.text,.int .i64 n.i,.slice A n.kids.length c] 70)=W0 at hk0 hb0;have u0:=hb0.cell 0 _ rfl;have u1:=hb0.cell 1 _ rfl;have u2:=hb0.cell 2 _ rfl;have u3:=hb0.cell 3 _ rfl;have hkS:Q0 S w W0:=hk0.ofNob S;have H0:=Hh (h.nobk hk0);have HT:=Hh (ht.kept hkS);have Qn3:=Hh hok.top;have HM:=Hh Qmo;clear h ht hok Qmo hi pst hnd hml hN hb0;go_enter func124,ntmps124;go_wp2_with (first|(go_at_call 164;refine (Zg H0.o t HT.o.now Qn3.o.1 Qn3.o.2 _).mono ?_;rw[HM.o];rintro e w1 ⟨rfl,hk1⟩)|(go_at_call 92;refine (Zd (H0.o.nobk hk1) _ _).mono ?_;rintro e w2 ⟨rfl,hat⟩));go_returns;exact⟨rfl,(hat.s.after (hk1.ofNob _)).after hkS⟩
theorem Qkp (hn:Qt t=true) (hK:Qj t) (hSm:Jz t) (hsz:t.nodes.length≤4000) {f:Nat} (hW:Q0o r t f (Q8 r t f)) (h:J0 S w cb ⟨rb,ro,none⟩ ⟨tb,tq,none⟩ s kv bv lv tv wv) (hr:Qm S w fun w=>Xy w rb ro r) (ht:Qm S w fun w=>J7 w tb tq t) (hok:Qe t s) (h00:s.code=0) (hF:Jl S w)
  {i:Int} (hi:InT t i) (hif:i<(f:Int)+1) (Qnb:Yl t s (t.at i).kind=true) (Qmo:(t.at i).kind=33) :
  Calls prog 124 #[.pointer (some ⟨cb,0,none⟩),.int .i64 i] w fun e w'=>e=.returned (.tuple #[])∧AtS S w cb ⟨rb,ro,none⟩ ⟨tb,tq,none⟩ (fnF t (Q8 r t f) s i (t.at i)) kv bv tv w':=by
 have hO:Y5 t (Q8 r t f):=fun s k h hk=>Qe.walk hK hSm r f s k h hk
 have hlk:∀k∈(t.at i).kids,InT t k∧k<(f:Int):=fun k hk=>⟨hi.kid hK hk,by have:=(hK.mem hi hk).2;omega⟩
 have hs:=Q0t hn hi (by omega);unfold Je at hs;rw[Ng (by omega),Ng (by omega),Ng (by omega),Ng (by omega),Ng (by omega),Ps Qmo] at hs
 obtain⟨ps,b0,Qmk,hbk⟩:∃ps b0,(t.at i).kids=ps++[b0]∧(t.at b0).kind=27:=by
  cases hg:(t.at i).kids.getLast? with
  |none=>rw[hg] at hs;cases hs
  |some b =>
   rw[hg] at hs;simp only[Bool.and_eq_true] at hs;have hne:(t.at i).kids≠[]:=by intro h9;rw[h9] at hg;cases hg
   rw[List.getLast?_eq_some_getLast hne] at hg;cases hg;exact⟨_,_,(List.dropLast_concat_getLast hne).symm,by simpa[isK] using hs.2⟩
 have hb9:InT t b0:=hi.kid hK (by rw[Qmk];simp);have hbi:b0<i:=(hK.mem hi (by rw[Qmk];simp)).2;have Qne:∀k∈(t.at b0).kids,InT t k∧k<(f:Int):=fun k hk=>⟨hb9.kid hK hk,by have:=(hK.mem hb9 hk).2;omega⟩
 have Qny:∀l,(t.at b0).kids.getLast?=some l→(t.at l).kind=26→∃e es,(t.at l).kids=e::es∧InT t e∧e<(f:Int):=by
  intro l hl h26;have hlm:=List.mem_of_getLast? hl;have hli:=(Qne l hlm).1;have hs9:=Yo hn hli (by rw[h26];rfl);unfold Z5 at hs9;rw[h26,Ps (by decide)] at hs9;obtain⟨e,he,_⟩:=Xh hs9;refine⟨e,[],he,hli.kid hK (by rw[he];simp),?_⟩;have:=(hK.mem hli (by rw[he];simp:e∈(t.at l).kids)).2;have:=(Qne l hlm).2;omega
 have hsm:=hSm i;have Qmx:=Hh (And.intro Qmk (And.intro hsm (And.intro Qne Qny)));clear Qmk hsm Qne Qny hs hbk hb9 hbi;have HTS:=Hh ht;have HRS:=Hh hr;have hml:=hi.2;obtain⟨m,nb,no,nc,A,p,o,c,rfl,hnd,hmt,q2,c0,c1,c2,c3,pst⟩:=Q7b ht hi;have q1:w.cell? ⟨cb,1,none⟩=some (.pointer (some ⟨tb,tq,none⟩)):=h.blk.cell 1 _ rfl;have hk0:Q0 nob w (w.alloc (.cells #[.int .i64 (t.at (m:Int)).kind,.string (t.at (m:Int)).text,.int .i64 (t.at (m:Int)).i,.slice A (t.at (m:Int)).kids.length c] 70)):=(Kr _ _).alloc _;have hb0:=Blk.new w [.int .i64 (t.at (m:Int)).kind,.string (t.at (m:Int)).text,.int .i64 (t.at (m:Int)).i,.slice A (t.at (m:Int)).kids.length c] 70;generalize hN:t.at (m:Int)=n at c0 c1 c2 c3 pst hk0 hb0 Qmo hnd;generalize hW0:w.alloc (.cells #[.int .i64 n.kind,.string n.text,.int .i64 n.i,.slice A n.kids.length c] 70)=W0 at hk0 hb0;have u0:=hb0.cell 0 _ rfl;have u1:=hb0.cell 1 _ rfl;have u2:=hb0.cell 2 _ rfl;have u3:=hb0.cell 3 _ rfl;have hkS:Q0 S w W0:=hk0.ofNob S;have H0:=Hh (h.nobk hk0);have HT:=Hh (ht.kept hkS);have Qn3:=Hh hok.top;have HOK:=Hh hok;have HM:=Hh Qnb;have Qns:=Hh pst;have HF:=Hh hF;have H00:=Hh h00;have HKD:=Hh Qmo;have HI:=Hh hi;have Qz4:=Hh hN;have HLK:=Hh hlk;rw[hN] at Qmx HLK HM;have t33:(n.kind==33)=true:=by simpa using HKD.o
 clear h hr ht hok Qnb hi pst hnd hml hF h00 hlk Qmo hN hb0;go_enter func124,ntmps124;go_wp2_with (first|(go_at_call 164;refine (Zg H0.o t HT.o.now Qn3.o.1 Qn3.o.2 _).mono ?_;rw[HM.o];rintro e w1 ⟨rfl,hk1⟩;have v0:=hk1.cell (fun h=>h) u0;have v1:=hk1.cell (fun h=>h) u1;have v2:=hk1.cell (fun h=>h) u2;have v3:=hk1.cell (fun h=>h) u3;have HC1:=Hh (H0.o.nobk hk1);have HS1:=Hh (hkS.trans (hk1.ofNob S)))|(go_at_call 165;refine (Qmc (r:=r) hW hO hsz HC1.o (HRS.o.kept HS1.o) (HTS.o.kept HS1.o) HOK.o H00.o (HF.o.kept HS1.o) _ n Qmx.o.2.1 _ (Qns.o.kept HS1.o) ps b0 Qmx.o.1 (fun k hk=>(HLK.o k hk).1) Qmx.o.2.2.1 Qmx.o.2.2.2).mono ?_;rintro e w2 ⟨rfl,hat⟩));go_returns;exact⟨rfl,hat.after HS1.o⟩
end
section
variable {r:Reg} {t:Q1} {S:Nat→Prop} {w:World} {cb rb ro tb tq:Nat} {s:CS} {kv bv lv tv wv:Value}
theorem Qip (hn:Qt t=true) (hK:Qj t) (hSm:Jz t) (hsz:t.nodes.length≤4000) {f:Nat} (hW:Q0o r t f (Q8 r t f)) (h:J0 S w cb ⟨rb,ro,none⟩ ⟨tb,tq,none⟩ s kv bv lv tv wv) (hr:Qm S w fun w=>Xy w rb ro r) (ht:Qm S w fun w=>J7 w tb tq t) (hok:Qe t s) (h00:s.code=0) (hF:Jl S w)
  {i:Int} (hi:InT t i) (hif:i<(f:Int)+1) (Qnb:Yl t s (t.at i).kind=true) (Qmo:(t.at i).kind=34) :
  Calls prog 124 #[.pointer (some ⟨cb,0,none⟩),.int .i64 i] w fun e w'=>e=.returned (.tuple #[])∧AtS S w cb ⟨rb,ro,none⟩ ⟨tb,tq,none⟩ (Qa (Q8 r t f) s (t.at i).kids) kv bv tv w':=by
 have hO:Y5 t (Q8 r t f):=fun s k h hk=>Qe.walk hK hSm r f s k h hk
 have hlk:∀k∈(t.at i).kids,InT t k∧k<(f:Int):=fun k hk=>⟨hi.kid hK hk,by have:=(hK.mem hi hk).2;omega⟩
 have HTS:=Hh ht;have HRS:=Hh hr;have hml:=hi.2;obtain⟨m,nb,no,nc,A,p,o,c,n,W0,rfl,hnd,hmt,q2,q1,c0,c1,c2,c3,pst,hN,hW0,hk0,hb0,u0,u1,u2,u3,hkS,H0,HT⟩:=Yw ht h hi;rw[hN] at Qmo ⊢;have Qn3:=Hh hok.top;have HOK:=Hh hok;have HM:=Hh Qnb;have Qns:=Hh pst;have HF:=Hh hF;have H00:=Hh h00;have HKD:=Hh Qmo;have HI:=Hh hi;have HLK:=Hh hlk;rw[hN] at HLK HM;have t33:(n.kind==33)=false:=by have:=HKD.o;simp;omega
 have t34:(n.kind==34)=true:=by simpa using HKD.o
 clear h hr ht hok Qnb hi pst hnd hml hF h00 hlk Qmo hN hb0;go_enter func124,ntmps124;go_wp2_with (first|(go_at_call 164;refine (Zg H0.o t HT.o.now Qn3.o.1 Qn3.o.2 _).mono ?_;rw[HM.o];rintro e w1 ⟨rfl,hk1⟩;have v0:=hk1.cell (fun h=>h) u0;have v1:=hk1.cell (fun h=>h) u1;have v2:=hk1.cell (fun h=>h) u2;have v3:=hk1.cell (fun h=>h) u3;have HC1:=Hh (H0.o.nobk hk1);have HS1:=Hh (hkS.trans (hk1.ofNob S)))|(go_at_call 93;refine (Xv hW hO HC1.o (HRS.o.kept HS1.o) (HTS.o.kept HS1.o) HOK.o (HF.o.kept HS1.o) _ n.kids (Qns.o.kept HS1.o) HLK.o).mono ?_;rintro e w2 ⟨rfl,hat⟩));go_returns;exact⟨rfl,hat.after HS1.o⟩
theorem Qge (hn:Qt t=true) (hK:Qj t) (hSm:Jz t) (hsz:t.nodes.length≤4000) {f:Nat} (hW:Q0o r t f (Q8 r t f)) (h:J0 S w cb ⟨rb,ro,none⟩ ⟨tb,tq,none⟩ s kv bv lv tv wv) (hr:Qm S w fun w=>Xy w rb ro r) (ht:Qm S w fun w=>J7 w tb tq t) (hok:Qe t s) (h00:s.code=0) (hF:Jl S w)
  {i:Int} (hi:InT t i) (hif:i<(f:Int)+1) (Qnb:Yl t s (t.at i).kind=true) (Qmo:(t.at i).kind=11) :
  Calls prog 124 #[.pointer (some ⟨cb,0,none⟩),.int .i64 i] w fun e w'=>e=.returned (.tuple #[])∧AtS S w cb ⟨rb,ro,none⟩ ⟨tb,tq,none⟩ (Q4v r t (Q8 r t f) s i (t.at i)) kv bv tv w':=by
 have hO:Y5 t (Q8 r t f):=fun s k h hk=>Qe.walk hK hSm r f s k h hk
 have hlk:∀k∈(t.at i).kids,InT t k∧k<(f:Int):=fun k hk=>⟨hi.kid hK hk,by have:=(hK.mem hi hk).2;omega⟩
 obtain⟨a,k1,ks,Qmk,_⟩:=Q67 hn hi Qmo;have Qmx:=Hh Qmk;clear Qmk;have HTS:=Hh ht;have HRS:=Hh hr;have hml:=hi.2;obtain⟨m,nb,no,nc,A,p,o,c,n,W0,rfl,hnd,hmt,q2,q1,c0,c1,c2,c3,pst,hN,hW0,hk0,hb0,u0,u1,u2,u3,hkS,H0,HT⟩:=Yw ht h hi;rw[hN] at Qmo ⊢;have Qn3:=Hh hok.top;have HOK:=Hh hok;have HM:=Hh Qnb;have Qns:=Hh pst;have HF:=Hh hF;have H00:=Hh h00;have HKD:=Hh Qmo;have HI:=Hh hi;have HLK:=Hh hlk;rw[hN] at HLK HM Qmx;have t33:(n.kind==33)=false:=by have:=HKD.o;simp;omega
 have t34:(n.kind==34)=false:=by have:=HKD.o;simp;omega
 have t11:(n.kind==11)=true:=by simpa using HKD.o
 clear h hr ht hok Qnb hi pst hnd hml hF h00 hlk Qmo hN hb0;go_enter func124,ntmps124;go_wp2_with (first|(go_at_call 164;refine (Zg H0.o t HT.o.now Qn3.o.1 Qn3.o.2 _).mono ?_;rw[HM.o];rintro e w1 ⟨rfl,hk1⟩;have v0:=hk1.cell (fun h=>h) u0;have v1:=hk1.cell (fun h=>h) u1;have v2:=hk1.cell (fun h=>h) u2;have v3:=hk1.cell (fun h=>h) u3;have HC1:=Hh (H0.o.nobk hk1);have HS1:=Hh (hkS.trans (hk1.ofNob S)))|(go_at_call 166;refine (Qli hW hO HC1.o (HRS.o.kept HS1.o) (HTS.o.kept HS1.o) HOK.o H00.o (HF.o.kept HS1.o) _ HI.o n _ (Qns.o.kept HS1.o) HLK.o a k1 ks Qmx.o).mono ?_;rintro e w2 ⟨rfl,hat⟩));go_returns;exact⟨rfl,hat.after HS1.o⟩
theorem Q9r (hn:Qt t=true) (hK:Qj t) (hSm:Jz t) (hsz:t.nodes.length≤4000) {f:Nat} (hW:Q0o r t f (Q8 r t f)) (h:J0 S w cb ⟨rb,ro,none⟩ ⟨tb,tq,none⟩ s kv bv lv tv wv) (hr:Qm S w fun w=>Xy w rb ro r) (ht:Qm S w fun w=>J7 w tb tq t) (hok:Qe t s) (h00:s.code=0) (hF:Jl S w)
  {i:Int} (hi:InT t i) (hif:i<(f:Int)+1) (Qnb:Yl t s (t.at i).kind=true) (Qmo:(t.at i).kind=16) :
  Calls prog 124 #[.pointer (some ⟨cb,0,none⟩),.int .i64 i] w fun e w'=>e=.returned (.tuple #[])∧AtS S w cb ⟨rb,ro,none⟩ ⟨tb,tq,none⟩ (Q00 (Q8 r t f) s i (t.at i)) kv bv tv w':=by
 have hO:Y5 t (Q8 r t f):=fun s k h hk=>Qe.walk hK hSm r f s k h hk
 have hlk:∀k∈(t.at i).kids,InT t k∧k<(f:Int):=fun k hk=>⟨hi.kid hK hk,by have:=(hK.mem hi hk).2;omega⟩
 obtain⟨a,ks,Qmk,h2⟩:=Qje hn hi (by omega);have Qmx:=Hh (And.intro Qmk h2);clear Qmk h2;have HTS:=Hh ht;have HRS:=Hh hr;have hml:=hi.2;obtain⟨m,nb,no,nc,A,p,o,c,n,W0,rfl,hnd,hmt,q2,q1,c0,c1,c2,c3,pst,hN,hW0,hk0,hb0,u0,u1,u2,u3,hkS,H0,HT⟩:=Yw ht h hi;rw[hN] at Qmo ⊢;have Qn3:=Hh hok.top;have HOK:=Hh hok;have HM:=Hh Qnb;have Qns:=Hh pst;have HF:=Hh hF;have H00:=Hh h00;have HKD:=Hh Qmo;have HI:=Hh hi;have HLK:=Hh hlk;rw[hN] at HLK HM Qmx;have t33:(n.kind==33)=false:=by have:=HKD.o;simp;omega
 have t34:(n.kind==34)=false:=by have:=HKD.o;simp;omega
 have t11:(n.kind==11)=false:=by have:=HKD.o;simp;omega
 have t16:(n.kind==16)=true:=by simpa using HKD.o
 clear h hr ht hok Qnb hi pst hnd hml hF h00 hlk Qmo hN hb0;go_enter func124,ntmps124;go_wp2_with (first|(go_at_call 164;refine (Zg H0.o t HT.o.now Qn3.o.1 Qn3.o.2 _).mono ?_;rw[HM.o];rintro e w1 ⟨rfl,hk1⟩;have v0:=hk1.cell (fun h=>h) u0;have v1:=hk1.cell (fun h=>h) u1;have v2:=hk1.cell (fun h=>h) u2;have v3:=hk1.cell (fun h=>h) u3;have HC1:=Hh (H0.o.nobk hk1);have HS1:=Hh (hkS.trans (hk1.ofNob S)))|(go_at_call 167;refine (Qan hW hO HC1.o (HRS.o.kept HS1.o) (HTS.o.kept HS1.o) HOK.o H00.o (HF.o.kept HS1.o) _ n _ (Qns.o.kept HS1.o) HLK.o a ks Qmx.o.1 Qmx.o.2).mono ?_;rintro e w2 ⟨rfl,hat⟩));go_returns;exact⟨rfl,hat.after HS1.o⟩
theorem Q9w (hn:Qt t=true) (hK:Qj t) (hSm:Jz t) (hsz:t.nodes.length≤4000) {f:Nat} (hW:Q0o r t f (Q8 r t f)) (h:J0 S w cb ⟨rb,ro,none⟩ ⟨tb,tq,none⟩ s kv bv lv tv wv) (hr:Qm S w fun w=>Xy w rb ro r) (ht:Qm S w fun w=>J7 w tb tq t) (hok:Qe t s) (h00:s.code=0) (hF:Jl S w)
  {i:Int} (hi:InT t i) (hif:i<(f:Int)+1) (Qnb:Yl t s (t.at i).kind=true) (Qmo:(t.at i).kind=17) :
  Calls prog 124 #[.pointer (some ⟨cb,0,none⟩),.int .i64 i] w fun e w'=>e=.returned (.tuple #[])∧AtS S w cb ⟨rb,ro,none⟩ ⟨tb,tq,none⟩ (Q00 (Q8 r t f) s i (t.at i)) kv bv tv w':=by
 have hO:Y5 t (Q8 r t f):=fun s k h hk=>Qe.walk hK hSm r f s k h hk
 have hlk:∀k∈(t.at i).kids,InT t k∧k<(f:Int):=fun k hk=>⟨hi.kid hK hk,by have:=(hK.mem hi hk).2;omega⟩
 obtain⟨a,ks,Qmk,h2⟩:=Qje hn hi (by omega);have Qmx:=Hh (And.intro Qmk h2);clear Qmk h2;have HTS:=Hh ht;have HRS:=Hh hr;have hml:=hi.2;obtain⟨m,nb,no,nc,A,p,o,c,n,W0,rfl,hnd,hmt,q2,q1,c0,c1,c2,c3,pst,hN,hW0,hk0,hb0,u0,u1,u2,u3,hkS,H0,HT⟩:=Yw ht h hi;rw[hN] at Qmo ⊢;have Qn3:=Hh hok.top;have HOK:=Hh hok;have HM:=Hh Qnb;have Qns:=Hh pst;have HF:=Hh hF;have H00:=Hh h00;have HKD:=Hh Qmo;have HI:=Hh hi;have HLK:=Hh hlk;rw[hN] at HLK HM Qmx;have t33:(n.kind==33)=false:=by have:=HKD.o;simp;omega
 have t34:(n.kind==34)=false:=by have:=HKD.o;simp;omega
 have t11:(n.kind==11)=false:=by have:=HKD.o;simp;omega
 have t16:(n.kind==16)=false:=by have:=HKD.o;simp;omega
 have t17:(n.kind==17)=true:=by simpa using HKD.o
 clear h hr ht hok Qnb hi pst hnd hml hF h00 hlk Qmo hN hb0;go_enter func124,ntmps124;go_wp2_with (first|(go_at_call 164;refine (Zg H0.o t HT.o.now Qn3.o.1 Qn3.o.2 _).mono ?_;rw[HM.o];rintro e w1 ⟨rfl,hk1⟩;have v0:=hk1.cell (fun h=>h) u0;have v1:=hk1.cell (fun h=>h) u1;have v2:=hk1.cell (fun h=>h) u2;have v3:=hk1.cell (fun h=>h) u3;have HC1:=Hh (H0.o.nobk hk1);have HS1:=Hh (hkS.trans (hk1.ofNob S)))|(go_at_call 167;refine (Qan hW hO HC1.o (HRS.o.kept HS1.o) (HTS.o.kept HS1.o) HOK.o H00.o (HF.o.kept HS1.o) _ n _ (Qns.o.kept HS1.o) HLK.o a ks Qmx.o.1 Qmx.o.2).mono ?_;rintro e w2 ⟨rfl,hat⟩));go_returns;exact⟨rfl,hat.after HS1.o⟩
theorem Qhy (hn:Qt t=true) (hK:Qj t) (hSm:Jz t) (hsz:t.nodes.length≤4000) {f:Nat} (hW:Q0o r t f (Q8 r t f)) (h:J0 S w cb ⟨rb,ro,none⟩ ⟨tb,tq,none⟩ s kv bv lv tv wv) (hr:Qm S w fun w=>Xy w rb ro r) (ht:Qm S w fun w=>J7 w tb tq t) (hok:Qe t s) (h00:s.code=0) (hF:Jl S w)
  {i:Int} (hi:InT t i) (hif:i<(f:Int)+1) (Qnb:Yl t s (t.at i).kind=true) (Qmo:(t.at i).kind=18) :
  Calls prog 124 #[.pointer (some ⟨cb,0,none⟩),.int .i64 i] w fun e w'=>e=.returned (.tuple #[])∧AtS S w cb ⟨rb,ro,none⟩ ⟨tb,tq,none⟩ (Q3f r t (Q8 r t f) s (t.at i)) kv bv tv w':=by
 have hO:Y5 t (Q8 r t f):=fun s k h hk=>Qe.walk hK hSm r f s k h hk
 have hlk:∀k∈(t.at i).kids,InT t k∧k<(f:Int):=fun k hk=>⟨hi.kid hK hk,by have:=(hK.mem hi hk).2;omega⟩
 have hs:=Yo hn hi (by rw[Qmo];rfl);unfold Z5 at hs;rw[Qmo,Ng (by decide),Ng (by decide),Ng (by decide),Ps rfl] at hs;obtain⟨k0,k1,k2,Qmk,_⟩:=Q1r hs;have hin:∀k∈(t.at i).kids,∀x∈(t.at k).kids,InT t x:=fun k hk x hx=>(hi.kid hK hk).kid hK hx
 have Qmx:=Hh (And.intro Qmk hin);clear Qmk hin hs;have HTS:=Hh ht;have HRS:=Hh hr;have hml:=hi.2;obtain⟨m,nb,no,nc,A,p,o,c,n,W0,rfl,hnd,hmt,q2,q1,c0,c1,c2,c3,pst,hN,hW0,hk0,hb0,u0,u1,u2,u3,hkS,H0,HT⟩:=Yw ht h hi;rw[hN] at Qmo ⊢;have Qn3:=Hh hok.top;have HOK:=Hh hok;have HM:=Hh Qnb;have Qns:=Hh pst;have HF:=Hh hF;have H00:=Hh h00;have HKD:=Hh Qmo;have HI:=Hh hi;have HLK:=Hh hlk;rw[hN] at HLK HM Qmx;have t33:(n.kind==33)=false:=by have:=HKD.o;simp;omega
 have t34:(n.kind==34)=false:=by have:=HKD.o;simp;omega
 have t11:(n.kind==11)=false:=by have:=HKD.o;simp;omega
 have t16:(n.kind==16)=false:=by have:=HKD.o;simp;omega
 have t17:(n.kind==17)=false:=by have:=HKD.o;simp;omega
 have t18:(n.kind==18)=true:=by simpa using HKD.o
 clear h hr ht hok Qnb hi pst hnd hml hF h00 hlk Qmo hN hb0;go_enter func124,ntmps124;go_wp2_with (first|(go_at_call 164;refine (Zg H0.o t HT.o.now Qn3.o.1 Qn3.o.2 _).mono ?_;rw[HM.o];rintro e w1 ⟨rfl,hk1⟩;have v0:=hk1.cell (fun h=>h) u0;have v1:=hk1.cell (fun h=>h) u1;have v2:=hk1.cell (fun h=>h) u2;have v3:=hk1.cell (fun h=>h) u3;have HC1:=Hh (H0.o.nobk hk1);have HS1:=Hh (hkS.trans (hk1.ofNob S)))|(go_at_call 168;refine (Qkz hW hO hSm HC1.o (HRS.o.kept HS1.o) (HTS.o.kept HS1.o) HOK.o (HF.o.kept HS1.o) n _ (Qns.o.kept HS1.o) k0 k1 k2 Qmx.o.1 HLK.o Qmx.o.2).mono ?_;rintro e w2 ⟨rfl,hat⟩));go_returns;exact⟨rfl,hat.after HS1.o⟩
theorem Qgo (hn:Qt t=true) (hK:Qj t) (hSm:Jz t) (hsz:t.nodes.length≤4000) {f:Nat} (hW:Q0o r t f (Q8 r t f)) (h:J0 S w cb ⟨rb,ro,none⟩ ⟨tb,tq,none⟩ s kv bv lv tv wv) (hr:Qm S w fun w=>Xy w rb ro r) (ht:Qm S w fun w=>J7 w tb tq t) (hok:Qe t s) (h00:s.code=0) (hF:Jl S w)
  {i:Int} (hi:InT t i) (hif:i<(f:Int)+1) (Qnb:Yl t s (t.at i).kind=true) (Qmo:(t.at i).kind=20) :
  Calls prog 124 #[.pointer (some ⟨cb,0,none⟩),.int .i64 i] w fun e w'=>e=.returned (.tuple #[])∧AtS S w cb ⟨rb,ro,none⟩ ⟨tb,tq,none⟩ (Q3n r t (Q8 r t f) s i (t.at i)) kv bv tv w':=by
 have hO:Y5 t (Q8 r t f):=fun s k h hk=>Qe.walk hK hSm r f s k h hk
 have hlk:∀k∈(t.at i).kids,InT t k∧k<(f:Int):=fun k hk=>⟨hi.kid hK hk,by have:=(hK.mem hi hk).2;omega⟩
 have hs:=Yo hn hi (by rw[Qmo];rfl);unfold Z5 at hs;rw[Qmo,Ng (by decide),Ng (by decide),Ng (by decide),Ng (by decide),Ps rfl] at hs;obtain⟨a,k1,Qmk,_⟩:=Y9 hs;have Qmx:=Hh Qmk;clear Qmk hs;have HTS:=Hh ht;have HRS:=Hh hr;have hml:=hi.2;obtain⟨m,nb,no,nc,A,p,o,c,n,W0,rfl,hnd,hmt,q2,q1,c0,c1,c2,c3,pst,hN,hW0,hk0,hb0,u0,u1,u2,u3,hkS,H0,HT⟩:=Yw ht h hi;rw[hN] at Qmo ⊢;have Qn3:=Hh hok.top;have HOK:=Hh hok;have HM:=Hh Qnb;have Qns:=Hh pst;have HF:=Hh hF;have H00:=Hh h00;have HKD:=Hh Qmo;have HI:=Hh hi;have HLK:=Hh hlk;rw[hN] at HLK HM Qmx;have t33:(n.kind==33)=false:=by have:=HKD.o;simp;omega
 have t34:(n.kind==34)=false:=by have:=HKD.o;simp;omega
 have t11:(n.kind==11)=false:=by have:=HKD.o;simp;omega
 have t16:(n.kind==16)=false:=by have:=HKD.o;simp;omega
 have t17:(n.kind==17)=false:=by have:=HKD.o;simp;omega
 have t18:(n.kind==18)=false:=by have:=HKD.o;simp;omega
 have t20:(n.kind==20)=true:=by simpa using HKD.o
 clear h hr ht hok Qnb hi pst hnd hml hF h00 hlk Qmo hN hb0;go_enter func124,ntmps124;go_wp2_with (first|(go_at_call 164;refine (Zg H0.o t HT.o.now Qn3.o.1 Qn3.o.2 _).mono ?_;rw[HM.o];rintro e w1 ⟨rfl,hk1⟩;have v0:=hk1.cell (fun h=>h) u0;have v1:=hk1.cell (fun h=>h) u1;have v2:=hk1.cell (fun h=>h) u2;have v3:=hk1.cell (fun h=>h) u3;have HC1:=Hh (H0.o.nobk hk1);have HS1:=Hh (hkS.trans (hk1.ofNob S)))|(go_at_call 169;refine (Qkn hW hO (Q8w r t f) hsz HC1.o (HRS.o.kept HS1.o) (HTS.o.kept HS1.o) HOK.o H00.o (HF.o.kept HS1.o) _ n _ (Qns.o.kept HS1.o) HLK.o a k1 [] Qmx.o).mono ?_;rintro e w2 ⟨rfl,hat⟩));go_returns;exact⟨rfl,hat.after HS1.o⟩
theorem Qdo (hn:Qt t=true) (hK:Qj t) (hSm:Jz t) (hsz:t.nodes.length≤4000) {f:Nat} (hW:Q0o r t f (Q8 r t f)) (h:J0 S w cb ⟨rb,ro,none⟩ ⟨tb,tq,none⟩ s kv bv lv tv wv) (hr:Qm S w fun w=>Xy w rb ro r) (ht:Qm S w fun w=>J7 w tb tq t) (hok:Qe t s) (h00:s.code=0) (hF:Jl S w)
  {i:Int} (hi:InT t i) (hif:i<(f:Int)+1) (Qnb:Yl t s (t.at i).kind=true) (Qmo:(t.at i).kind=21) :
  Calls prog 124 #[.pointer (some ⟨cb,0,none⟩),.int .i64 i] w fun e w'=>e=.returned (.tuple #[])∧AtS S w cb ⟨rb,ro,none⟩ ⟨tb,tq,none⟩ (Xj r t (Q8 r t f) (t.at i).kids [] s) kv bv tv w':=by
 have hO:Y5 t (Q8 r t f):=fun s k h hk=>Qe.walk hK hSm r f s k h hk
 have hlk:∀k∈(t.at i).kids,InT t k∧k<(f:Int):=fun k hk=>⟨hi.kid hK hk,by have:=(hK.mem hi hk).2;omega⟩
 have hs:=Yo hn hi (by rw[Qmo];rfl);unfold Z5 at hs;rw[Qmo,Ng (by decide),Ng (by decide),Ng (by decide),Ng (by decide),Ng (by decide),Ps rfl] at hs
 have Qnt:∀k∈(t.at i).kids,InT t k∧(∃e es,(t.at k).kids=e::es)∧∀x∈(t.at k).kids,InT t x∧x<(f:Int):=by
  intro k hk;have hki:=hi.kid hK hk;have h28:(t.at k).kind=28:=by simpa[isK] using Yf hs hk
  have hs9:=Q0t hn hki (by omega);unfold Je at hs9;rw[h28,Ng (by decide),Ps rfl] at hs9;obtain⟨e,he,_⟩:=Xh hs9;exact⟨hki,⟨e,[],he⟩,fun x hx=>⟨hki.kid hK hx,by have:=(hK.mem hki hx).2;have:=(hlk k hk).2;omega⟩⟩
 have hsm:=hSm i;have Qmx:=Hh (And.intro Qnt hsm);clear Qnt hsm hs;have HTS:=Hh ht;have HRS:=Hh hr;have hml:=hi.2;obtain⟨m,nb,no,nc,A,p,o,c,n,W0,rfl,hnd,hmt,q2,q1,c0,c1,c2,c3,pst,hN,hW0,hk0,hb0,u0,u1,u2,u3,hkS,H0,HT⟩:=Yw ht h hi;rw[hN] at Qmo ⊢;have Qn3:=Hh hok.top;have HOK:=Hh hok;have HM:=Hh Qnb;have Qns:=Hh pst;have HF:=Hh hF;have H00:=Hh h00;have HKD:=Hh Qmo;have HI:=Hh hi;have HLK:=Hh hlk;rw[hN] at HLK HM Qmx;have t33:(n.kind==33)=false:=by have:=HKD.o;simp;omega
 have t34:(n.kind==34)=false:=by have:=HKD.o;simp;omega
 have t11:(n.kind==11)=false:=by have:=HKD.o;simp;omega
 have t16:(n.kind==16)=false:=by have:=HKD.o;simp;omega
 have t17:(n.kind==17)=false:=by have:=HKD.o;simp;omega
 have t18:(n.kind==18)=false:=by have:=HKD.o;simp;omega
 have t20:(n.kind==20)=false:=by have:=HKD.o;simp;omega
 have t21:(n.kind==21)=true:=by simpa using HKD.o
 clear h hr ht hok Qnb hi pst hnd hml hF h00 hlk Qmo hN hb0;go_enter func124,ntmps124;go_wp2_with (first|(go_at_call 164;refine (Zg H0.o t HT.o.now Qn3.o.1 Qn3.o.2 _).mono ?_;rw[HM.o];rintro e w1 ⟨rfl,hk1⟩;have v0:=hk1.cell (fun h=>h) u0;have v1:=hk1.cell (fun h=>h) u1;have v2:=hk1.cell (fun h=>h) u2;have v3:=hk1.cell (fun h=>h) u3;have HC1:=Hh (H0.o.nobk hk1);have HS1:=Hh (hkS.trans (hk1.ofNob S)))|(go_at_call 170;refine (Qj2 hW hO HC1.o (HRS.o.kept HS1.o) (HTS.o.kept HS1.o) HOK.o (HF.o.kept HS1.o) n Qmx.o.2 _ (Qns.o.kept HS1.o) Qmx.o.1).mono ?_;rintro e w2 ⟨rfl,hat⟩));go_returns;exact⟨rfl,hat.after HS1.o⟩
end
end Go.Proofs.YtkgkafjachjafaaGreat
