/- Part 16 of: FnExactEffects answers true; no condition. -/
import Derived.Test.YtkgkafjachjafaaGreatY08
import Derived.Test.YtkgkafjachjafaaGreatY12
import Derived.Test.YtkgkafjachjafaaGreatY14
import Derived.Test.YtkgkafjachjafaaGreatY15
set_option linter.unusedVariables false
set_option maxHeartbeats 1000000
open Go Go.RowKit
namespace Go.Proofs.YtkgkafjachjafaaGreat
open Tryz
section
variable {S:Nat→Prop} {w:World} {cb rb ro tb tq:Nat} {s:CS} {kv bv lv tv wv:Value}
theorem Qly {ra ta:Addr} (h:J0 S w cb ra ta s kv bv lv tv wv) (t:Q1) (hok:Qe t s) (i:Int) (n:Qn) (nk:Value) (hnk:Qf w nk n.kids) (hin:∀k∈n.kids,InT t k)
  (hk:n.kind=8∨n.kind=9∨n.kind=10) (h1:1≤n.kids.length) (h2:n.kind≠9→2≤n.kids.length) :
  Calls prog 201 #[.pointer (some ⟨cb,0,none⟩),.int .i64 i,.agg #[.int .i64 n.kind,.string n.text,.int .i64 n.i,nk]] w fun e w' =>
   e=.returned (.int .i64 (Yv s i n).1)∧Q31 S w cb ra ta (Yv s i n).2 kv bv lv tv wv w':=by
 have hr:∀k∈n.kids,0≤k∧k<s.kinds.length:=fun k hk=>by rw[hok.kinds];exact hin k hk
 rcases hk with hk|hk|hk
 ·match hkd:n.kids,h2 Om with
  |a::b::ks,_=>exact Qmv h i n nk hnk a b ks hkd (hr a (by rw[hkd];simp)) (hr b (by rw[hkd];simp)) hk
  |[a],h9=>simp[hkd] at h2;omega
  |[],h9=>simp[hkd] at h1
 ·match hkd:n.kids,h1 with
  |a::ks,_=>exact Qn6 h i n nk hnk a ks hkd (hr a (by rw[hkd];simp)) hk
  |[],h9=>simp at h9
 ·match hkd:n.kids,h2 Om with
  |a::b::ks,_=>exact Qlm h i n nk hnk a b ks hkd (hr a (by rw[hkd];simp)) (hr b (by rw[hkd];simp)) hk
  |[a],h9=>simp[hkd] at h2;omega
  |[],h9=>simp[hkd] at h1
theorem Qmq (h:J0 S w cb ⟨rb,ro,none⟩ ⟨tb,tq,none⟩ s kv bv lv tv wv) (r:Reg) (hr:Qj S w fun w=>Xa w rb ro r) (t:Q1) (ht:Qj S w fun w=>J8 w tb tq t) (hok:Qe t s) (hK:Qk t)
  (i:Int) (hi:InT t i) (n:Qn) (nk:Value) (hnk:Qj S w fun w=>Qf w nk n.kids) (hin:∀k∈n.kids,InT t k) (he:Qu n.kind=true) (h11:n.kind≠11)
  (Qnm:n.kind=8∨n.kind=9∨n.kind=10→1≤n.kids.length∧(n.kind≠9→2≤n.kids.length)) :
  Calls prog 171 #[.pointer (some ⟨cb,0,none⟩),.int .i64 i,.agg #[.int .i64 n.kind,.string n.text,.int .i64 n.i,nk]] w fun e w'=>e=.returned (.int .i64 (Zw r t s i n).1) ∧
   J0 S w' cb ⟨rb,ro,none⟩ ⟨tb,tq,none⟩ (Zw r t s i n).2 kv bv lv tv wv∧Q0 S w w':=by
 have hk':1≤n.kind∧n.kind≤11:=by simpa[Qu,Q9] using he
 have hk0:Q0 nob w (w.alloc (.cells #[.int .i64 n.kind,.string n.text,.int .i64 n.i,nk] 70)):=(Kr _ _).alloc _;have H0:=Hh (h.nobk hk0);have HR:=Hh (hr.kept (hk0.ofNob S));have HTS:=Hh (ht.kept (hk0.ofNob S));have HNK:=Hh (hnk.kept (hk0.ofNob S));have HOK:=Hh hok;have HIN:=Hh hok.locals;have HI:=Hh hi;generalize hX:Zw r t s i n=X;have hcb:∀(w1 w2:World) (s':CS),Q31 S w1 cb ⟨rb,ro,none⟩ ⟨tb,tq,none⟩ s' kv bv lv tv wv w2→Q0 S w1 w2:=fun _ _ _ hat=>hat.2.mono fun k _ hk=>hk▸hat.1.inS
 have HCB:=Hh hcb
 by_cases h1:n.kind=1
 ·have hX':X=(1,s):=by rw[← hX];unfold Zw;rw[Ps h1]
  subst hX';rw[h1] at hk0 H0 ⊢;clear hX h hr ht hnk hok hi hcb;go_enter func171,ntmps171;go_wp2_with fail;go_returns;exact⟨rfl,H0.o,hk0.ofNob _⟩
 by_cases h2:n.kind=2
 ·have hX':X=(2,s):=by rw[← hX];unfold Zw;rw[Ng h1,Ps h2]
  subst hX';rw[h2] at hk0 H0 ⊢;clear hX h hr ht hnk hok hi hcb;go_enter func171,ntmps171;go_wp2_with fail;go_returns;exact⟨rfl,H0.o,hk0.ofNob _⟩
 by_cases h3:n.kind=3
 ·have hX':X=(4,s):=by rw[← hX];unfold Zw;rw[Ng h1,Ng h2,Ps h3]
  subst hX';rw[h3] at hk0 H0 ⊢;clear hX h hr ht hnk hok hi hcb;go_enter func171,ntmps171;go_wp2_with fail;go_returns;exact⟨rfl,H0.o,hk0.ofNob _⟩
 by_cases h4:n.kind=4
 ·have hX':X=(if Q3 t s.locals n.text<0 then (0,s.fail 3 i) else (s.kindAt (Q3 t s.locals n.text),s.setBind i (Q3 t s.locals n.text))):=by
   rw[← hX];unfold Zw;rw[Ng h1,Ng h2,Ng h3,Ps h4]
  rw[h4] at hk0 H0 HTS ⊢
  by_cases hn:Q3 t s.locals n.text<0
  ·have t1:decide (Q3 t s.locals n.text<0)=true:=by simpa using hn
   rw[Ps hn] at hX';subst hX';clear hX h hr ht hnk hok hi hcb hn;go_enter func171,ntmps171;go_wp2_with (first|(go_at_call 196;refine (Q0f H0.o t HTS.o.now HIN.o _).mono ?_;rintro e w1 ⟨rfl,rfl⟩)|(go_at_call 92;refine (Ze H0.o _ _).mono ?_;rintro e w1 ⟨rfl,hat⟩));go_returns;exact⟨rfl,hat.1,(hk0.ofNob _).trans (HCB.o _ _ _ hat)⟩
  ·have t1:decide (Q3 t s.locals n.text<0)=false:=by simpa using hn
   rw[Ng hn] at hX';have hm0:=hok.locals _ (Q5j (by omega:0≤Q3 t s.locals n.text));generalize hj:Q3 t s.locals n.text=j at hn t1 hm0 hX';obtain⟨mj,rfl⟩:=En hm0.1;obtain⟨mi,rfl⟩:=En hi.1;have hb0:=Blk.new w [.int .i64 4,.string n.text,.int .i64 n.i,nk] 70;generalize hW0:w.alloc (.cells #[.int .i64 4,.string n.text,.int .i64 n.i,nk] 70)=W0 at hk0 H0 HTS;replace hb0:Blk W0 w.heap.size [.int .i64 4,.string n.text,.int .i64 n.i,nk] 70:=hW0▸hb0;have u0:=hb0.cell 0 _ rfl;have u1:=hb0.cell 1 _ rfl;have hjk:mj<s.kinds.length:=by rw[hok.kinds];have:=hm0.2;omega
   have hik:mi<s.bind.length:=by rw[hok.bind];have:=hi.2;omega
   have h0:=H0.o;obtain⟨kA,g,kc,hkv,kl,klc,hkA,hkc⟩:=h0.k.openI;obtain⟨rfl,hSg,Qnt⟩:=hkA Om;obtain⟨bA,gb,bc,hbv,bl,blc,hbA,hbc⟩:=h0.b.openI;obtain⟨rfl,hSb,Qo9⟩:=hbA Om;obtain⟨x,hx⟩:=Q4 hjk;obtain⟨y,hy⟩:=Q4 hik;obtain⟨k2,k3⟩:=hbc mi y hy;have hxj:s.kindAt (mj:Int)=x:=CS.kindAt_of hx;have h1':=h0.setB Qo9 (mi:Int) (mj:Int) hi.1;rw[Int.toNat_natCast] at h1';have Qs0:g≠gb:=fun e=>(h0.sepAll.1) g Qnt (by rw[Qo9,e])
   have hrg:Q0 (fun k=>k=gb) W0 (W0.setCell ⟨gb,mi,none⟩ (.int .i64 (mj:Int))):=Q0.cb (cb:=gb) (Kr _ W0) mi _;have hr1:Q0 S W0 (W0.setCell ⟨gb,mi,none⟩ (.int .i64 (mj:Int))):=hrg.mono (fun k _ hk=>hk▸hSb);have c5:W0.cell? ⟨cb,5,none⟩=some bv:=h0.blk.cell 5 _ rfl;have zk:(W0.setCell ⟨gb,mi,none⟩ (.int .i64 (mj:Int))).cell? ⟨g,mj,none⟩=some (.int .i64 x):=hrg.cell Qs0 (hkc mj x hx).1;have z4:(W0.setCell ⟨gb,mi,none⟩ (.int .i64 (mj:Int))).cell? ⟨cb,4,none⟩=some kv:=h1'.blk.cell 4 _ rfl;rw[hxj] at hX';have H1:=Hh h1';have HR1:=Hh hr1;have HX:=Hh hX';have hjk':(mj:Int)<s.kinds.length:=Om
   have hik':(mi:Int)<s.bind.length:=Om
   clear hX hX' h h0 h1' hr ht hnk hok hi hcb hn hkc hbc hx hy hkA hbA hm0 kl bl hrg hr1 Qnt Qo9 hxj Qs0 hSg hSb HCB;subst hkv hbv;go_enter func171,ntmps171;go_wp2_with (first|(go_at_call 196;refine (Q0f H0.o t HTS.o.now HIN.o _).mono ?_;rw[hj];rintro e w1 ⟨rfl,rfl⟩));go_returns;obtain rfl:=HX.o;exact⟨rfl,H1.o,(hk0.ofNob _).trans HR1.o⟩
 by_cases h5:n.kind=5
 ·have hX':Qi r s n.text i=X:=by rw[← hX];unfold Zw;rw[Ng h1,Ng h2,Ng h3,Ng h4,Ps h5]
  have hm:s.withs.length≤140737488355328:=by have:=hok.withs;omega
  rw[h5] at hk0 H0 HR ⊢;have HX:=Hh hX';clear hX hX' h hr ht hnk hok hi hcb;go_enter func171,ntmps171;go_wp2_with (go_at_call 198;refine (Q7v H0.o r HR.o.now hm _ _).mono ?_;rintro e w1 ⟨rfl,hat⟩);go_returns;obtain rfl:=HX.o;exact⟨rfl,hat.1,(hk0.ofNob _).trans (HCB.o _ _ _ hat)⟩
 by_cases h6:n.kind=6
 ·have hX':J4 r s 2 n.text i=X:=by rw[← hX];unfold Zw;rw[Ng h1,Ng h2,Ng h3,Ng h4,Ng h5,Ps h6]
  rw[h6] at hk0 H0 HR ⊢;have HX:=Hh hX';clear hX hX' h hr ht hnk hok hi hcb;go_enter func171,ntmps171;go_wp2_with (go_at_call 199;refine (Q2z H0.o r HR.o.now _ _ _).mono ?_;rintro e w1 ⟨rfl,hat⟩);go_returns;obtain rfl:=HX.o;exact⟨rfl,hat.1,(hk0.ofNob _).trans (HCB.o _ _ _ hat)⟩
 by_cases h7:n.kind=7
 ·have hX':Q36 t s i n=X:=by rw[← hX];unfold Zw;rw[Ng h1,Ng h2,Ng h3,Ng h4,Ng h5,Ng h6,Ps h7]
  have Qnr:=Qmj H0.o t HTS.o hok hK i hi n nk HNK.o hin;rw[hX'] at Qnr;rw[h7] at hk0 Qnr ⊢;have HC:=Hh Qnr;clear hX hX' h hr ht hnk hok hi hcb Qnr H0 HR HTS HNK;go_enter func171,ntmps171;go_wp2_with (go_at_call 200;refine (HC.o).mono ?_;rintro e w1 ⟨rfl,Qng,Qnl⟩);go_returns;exact⟨rfl,Qng,(hk0.ofNob _).trans Qnl⟩
 ·have h8:n.kind=8∨n.kind=9∨n.kind=10:=Om
  have hX':Yv s i n=X:=by rw[← hX];unfold Zw;rw[Ng h1,Ng h2,Ng h3,Ng h4,Ng h5,Ng h6,Ng h7]
  have Qnr:=Qly H0.o t hok i n nk HNK.o.now hin h8 (Qnm h8).1 (Qnm h8).2;rw[hX'] at Qnr;have HC:=Hh Qnr;have t1:(n.kind==1)=false:=by simpa using h1
  have t2:(n.kind==2)=false:=by simpa using h2
  have t3:(n.kind==3)=false:=by simpa using h3
  have t4:(n.kind==4)=false:=by simpa using h4
  have t5:(n.kind==5)=false:=by simpa using h5
  have t6:(n.kind==6)=false:=by simpa using h6
  have t7:(n.kind==7)=false:=by simpa using h7
  clear hX hX' h hr ht hnk hok hi hcb Qnr H0 HR HTS HNK;go_enter func171,ntmps171;go_wp2_with (go_at_call 201;refine (HC.o).mono ?_;rintro e w1 ⟨rfl,hat⟩);go_returns;exact⟨rfl,hat.1,(hk0.ofNob _).trans (HCB.o _ _ _ hat)⟩
def Qjl (n:Qn):Prop:=n.kind=12∨n.kind=13∨n.kind=14∨n.kind=15∨n.kind=19∨n.kind=23→∃k ks,n.kids=k::ks
theorem Qbn (h:J0 S w cb ⟨rb,ro,none⟩ ⟨tb,tq,none⟩ s kv bv lv tv wv) (r:Reg) (hr:Qj S w fun w=>Xa w rb ro r) (t:Q1) (ht:Qj S w fun w=>J8 w tb tq t) (hok:Qe t s) (Qp7:s.locals.length≤4000)
  (i:Int) (hi:InT t i) (n:Qn) (nk:Value) (hnk:Qj S w fun w=>Qf w nk n.kids) (hin:∀k∈n.kids,InT t k) (ho:Qjl n) (hS:Jh S w) :
  Calls prog 172 #[.pointer (some ⟨cb,0,none⟩),.int .i64 i,.agg #[.int .i64 n.kind,.string n.text,.int .i64 n.i,nk]] w fun e w'=>e=.returned (.tuple #[]) ∧
   AtS S w cb ⟨rb,ro,none⟩ ⟨tb,tq,none⟩ (Qy r t s i n) kv bv tv w':=by
 by_cases Qny:n.kind=12∨n.kind=13∨n.kind=14∨n.kind=15∨n.kind=19∨n.kind=23
 ·obtain⟨k,ks,Qnf⟩:=ho Qny
  have hk:=hin k (by rw[Qnf];simp)
  by_cases h12:n.kind=12
  ·have:=Qm8 h t ht hok Qp7 i hi n nk hnk k ks Qnf hk h12 hS
   refine this.mono ?_;rintro e w' ⟨he,hat⟩;refine⟨he,?_⟩;unfold Qy;rw[Ps h12];exact hat
  by_cases h13:n.kind=13
  ·refine (Qm6 h r t ht hok i hi n nk hnk k ks Qnf hk h13).mono ?_
   rintro e w' ⟨he,h1,h2⟩;refine⟨he,?_⟩;unfold Qy;rw[Ng h12,Ps h13];exact⟨⟨_,_,h1⟩,h2⟩
  by_cases h14:n.kind=14
  ·exact (Qls h r t hr hok i n nk hnk k ks Qnf hk h14 hS).mono fun e w' ⟨he,hat⟩=>⟨he,hat.s⟩
  by_cases h15:n.kind=15
  ·exact (Qm4 h r t hr hok i n nk hnk k ks Qnf hk h15 hS).mono fun e w' ⟨he,hat⟩=>⟨he,hat.s⟩
  by_cases h19:n.kind=19
  ·exact (Qm7 h r t hr hok i n nk hnk k ks Qnf hk h19 hS).mono fun e w' ⟨he,hat⟩=>⟨he,hat.s⟩
  have h23:n.kind=23:=Om
  exact (Qll h r t hr hok i n nk hnk k ks Qnf hk h23 hS).mono fun e w' ⟨he,hat⟩=>⟨he,hat.s⟩
 ·by_cases h24:n.kind=24
  ·refine (Qlx h r hr i n nk h24).mono ?_
   rintro e w' ⟨he,hat⟩;refine⟨he,?_⟩;have:Qy r t s i n=(J4 r s 1 n.text i).2:=by unfold Qy;simp[h24]
   rw[this];exact hat.s
  ·refine (Qhd h i n nk So So So So So So So).mono ?_
   rintro e w' ⟨he,hat⟩;refine⟨he,?_⟩
   have:Qy r t s i n=s:=by
    unfold Qy;rw[Ng Om,Ng Om,Ng Om,Ng Om,Ng Om,Ng Om,Ng Om]
   rw[this];exact hat.s
end
theorem Qj.mkInts {S:Nat→Prop} {w:World} {b o n c:Nat} {xs:List Int} (hn:n=xs.length) (hl:xs.length≤140737488355328) (hc:xs.length≤c) (hx:∀j x,xs[j]?=some x→∀W,Q0 S w W→W.cell? ⟨b,o+j,none⟩=some (.int .i64 x)) :
  Qj S w fun w=>Qf w (.slice (some ⟨b,o,none⟩) n c) xs:=fun W hk=>⟨_,b,o,c,by rw[hn],hl,hc,fun _=>rfl,fun j x h=>hx j x h W hk⟩
def Jj (S:Nat→Prop) (b:Nat):Nat→Prop:=fun k=>S k∧k≠b
theorem AtS.wider {S S':Nat→Prop} {w w':World} {cb:Nat} {ra ta:Addr} {s:CS} {kv bv tv:Value} (h:AtS S w cb ra ta s kv bv tv w') (hs:∀k,S k→S' k):AtS S' w cb ra ta s kv bv tv w':=by
 obtain⟨⟨lv,wv,hc⟩,hk⟩:=h;exact⟨⟨lv,wv,hc.mono fun k _ h=>hs k h⟩,hk.mono fun k _ h=>hs k h⟩
theorem AtS.after {S:Nat→Prop} {w w1 w':World} {cb:Nat} {ra ta:Addr} {s:CS} {kv bv tv:Value} (h:AtS S w1 cb ra ta s kv bv tv w') (hk:Q0 S w w1):AtS S w cb ra ta s kv bv tv w':=⟨h.1,hk.trans h.2⟩
section
variable {r:Reg} {t:Q1}
def Q0r (r:Reg) (t:Q1) (b:Int) (W:CS→Int→CS):Prop :=
 ∀(S:Nat→Prop) (w:World) (cb rb ro tb tq:Nat) (s:CS) (kv bv lv tv wv:Value) (i:Int),i<b→InT t i→J0 S w cb ⟨rb,ro,none⟩ ⟨tb,tq,none⟩ s kv bv lv tv wv →
  (Qj S w fun w=>Xa w rb ro r)→(Qj S w fun w=>J8 w tb tq t)→Qe t s→s.code=0→Jh S w →
  (Calls prog 124 #[.pointer (some ⟨cb,0,none⟩),.int .i64 i] w fun e w'=>e=.returned (.tuple #[])∧AtS S w cb ⟨rb,ro,none⟩ ⟨tb,tq,none⟩ (W s i) kv bv tv w')
def Yc (t:Q1) (W:CS→Int→CS):Prop:=∀s (k:Int),Qe t s→InT t k→Qe t (W s k)
theorem Qf6 {W:CS→Int→CS} {l:List Int} {j:Nat} {k:Int} (hk:l[j]?=some k) (s:CS):Qb W s (l.take (j+1))=if (Qb W s (l.take j)).code=0 then W (Qb W s (l.take j)) k else Qb W s (l.take j):=by
 rw[Js hk];unfold Qb;rw[List.foldl_append];rfl
variable {S:Nat→Prop} {w:World} {cb rb ro tb tq:Nat} {s:CS} {kv bv lv tv wv:Value} {b:Int} {W:CS→Int→CS}
theorem Xw (hW:Q0r r t b W) (hO:Yc t W) (h:J0 S w cb ⟨rb,ro,none⟩ ⟨tb,tq,none⟩ s kv bv lv tv wv) (hr:Qj S w fun w=>Xa w rb ro r) (ht:Qj S w fun w=>J8 w tb tq t) (hok:Qe t s) (hF:Jh S w)
  (v:Value) (l:List Int) (hv:Qj S w fun w=>Qf w v l) (hl:∀k∈l,InT t k∧k<b) :
  Calls prog 93 #[.pointer (some ⟨cb,0,none⟩),v] w fun e w'=>e=.returned (.tuple #[])∧AtS S w cb ⟨rb,ro,none⟩ ⟨tb,tq,none⟩ (Qb W s l) kv bv tv w':=by
 obtain⟨A,p,o,c,rfl,ll,lc,hA,Qni⟩:=hv.ints;have HC:=Hh Qni;have HL:=Hh hl;have HR:=Hh hr;have HT:=Hh ht;have HF:=Hh hF;have HOK:=Hh (fun j=>Qe.kids hO (l.take j) (fun k hk=>(hl k (List.mem_of_mem_take hk)).1) hok);have H:=Hh h;have HA:=Hh hA;clear Qni hl hr ht hF hok h hv hA;go_enter func93,ntmps93;go_wp2_with fail;go_loopw [5,8] (fun u5 ci wr=>∃j:Nat,j≤l.length∧ci=.int .i64 j∧Hi (AtS S w cb ⟨rb,ro,none⟩ ⟨tb,tq,none⟩ (Qb W s (l.take j)) kv bv tv wr)) (fun _ ci _=>l.length-(intOf ci).toNat)
 case atStart=>exact⟨0,Nat.zero_le _,rfl,Hh ⟨⟨_,_,H.o⟩,Kr _ _⟩⟩
 case round =>
  obtain⟨j,hj,rfl,HAT⟩:=hrel;obtain⟨wo,rfl⟩:∃wo:World,wo=wr:=⟨_,rfl⟩
  by_cases hlt:j<l.length
  ·obtain⟨x,hx⟩:=Q4 hlt
   obtain⟨rfl,_⟩:=HA.o Om;have q0:=HC.o j x hx wo HAT.o.2;obtain⟨hxi,hxb⟩:=HL.o x (Mg hx);have HS:=Hh (Qf6 (W:=W) hx s);obtain⟨⟨lv1,wv1,hc1⟩,hk1⟩:=HAT.o;have q2:wo.cell? ⟨cb,2,none⟩=some (.int .i64 (Qb W s (l.take j)).code):=hc1.blk.cell 2 _ rfl;have HC1:=Hh hc1;have HK1:=Hh hk1;have HXI:=Hh hxi;have HXB:=Hh hxb;clear hx hxi hxb hc1 hk1
   by_cases h0:(Qb W s (l.take j)).code=0
   ·have HS2:=Hh (HS.o.trans (Ps h0))
    have H00:=Hh h0;rw[h0] at q2;clear h0;go_wp2_with (go_at_call 124;refine (hW S wo cb rb ro tb tq _ kv bv lv1 tv wv1 x HXB.o HXI.o HC1.o (HR.o.kept HK1.o) (HT.o.kept HK1.o) (HOK.o j) H00.o (HF.o.kept HK1.o)).mono ?_;rintro e w2 ⟨rfl,hat⟩);go_round
    case rel=>exact⟨j+1,Om,Gm,Hh (HS2.o▸hat.after HK1.o)⟩
    case measure=>exact Me
   ·have HS2:=Hh (HS.o.trans (Ng h0))
    have t1:((Qb W s (l.take j)).code==0)=false:=by simpa using h0
    clear h0;go_wp2_with fail;go_round
    case rel=>exact⟨j+1,Om,Gm,Hh (HS2.o▸HAT.o)⟩
    case measure=>exact Me
  ·obtain rfl:j=l.length:=Om
   go_wp2_with fail;go_returns;have:=HAT.o;rw[List.take_length] at this;exact⟨rfl,this⟩
end
end Go.Proofs.YtkgkafjachjafaaGreat
