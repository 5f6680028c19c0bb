/- Part 18 of: FnExactPrune answers true; no condition. -/
import Derived.Test.YtkgkafjachjafaaGreatZ12
import Derived.Test.YtkgkafjachjafaaGreatZ15
import Derived.Test.YtkgkafjachjafaaGreatZ16
import Derived.Test.YtkgkafjachjafaaGreatZ17
set_option linter.unusedVariables false
set_option maxHeartbeats 1000000
open Go Go.RowKit
namespace Go.Proofs.YtkgkafjachjafaaGreat
open Tryz
section
variable {S:Nat→Prop} {w:World} {cb rb ro tb tq:Nat} {s:CS} {kv bv lv tv wv:Value}
theorem Qku {ra ta:Addr} (h:J0 S w cb ra ta s kv bv lv tv wv) (t:Q1) (hok:Qe t s) (i:Int) (n:Qc) (nk:Value) (hnk:Qi w nk n.kids) (hin:∀k∈n.kids,InT t k)
  (hk:n.kind=8∨n.kind=9∨n.kind=10) (h1:1≤n.kids.length) (h2:n.kind≠9→2≤n.kids.length) :
  Calls prog 201 #[.pointer (some ⟨cb,0,none⟩),.int .i64 i,.agg #[.int .i64 n.kind,.string n.text,.int .i64 n.i,nk]] w fun e w' =>
   e=.returned (.int .i64 (Yt s i n).1)∧Q2t S w cb ra ta (Yt s i n).2 kv bv lv tv wv w':=by
 have hr:∀k∈n.kids,0≤k∧k<s.kinds.length:=fun k hk=>by rw[hok.kinds];exact hin k hk
 rcases hk with hk|hk|hk
 ·match hkd:n.kids,h2 (by omega) with
  |a::b::ks,_=>exact Qlv h i n nk hnk a b ks hkd (hr a (by rw[hkd];simp)) (hr b (by rw[hkd];simp)) hk
  |[a],h9=>simp[hkd] at h2;omega
  |[],h9=>simp[hkd] at h1
 ·match hkd:n.kids,h1 with
  |a::ks,_=>exact Qm8 h i n nk hnk a ks hkd (hr a (by rw[hkd];simp)) hk
  |[],h9=>simp at h9
 ·match hkd:n.kids,h2 (by omega) with
  |a::b::ks,_=>exact Qlb h i n nk hnk a b ks hkd (hr a (by rw[hkd];simp)) (hr b (by rw[hkd];simp)) hk
  |[a],h9=>simp[hkd] at h2;omega
  |[],h9=>simp[hkd] at h1
theorem Qks (h:J0 S w cb ⟨rb,ro,none⟩ ⟨tb,tq,none⟩ s kv bv lv tv wv) (r:Reg) (hr:Qm S w fun w=>Xy w rb ro r) (t:Q1) (ht:Qm S w fun w=>J7 w tb tq t) (hok:Qe t s) (hK:Qj t)
  (i:Int) (hi:InT t i) (n:Qc) (nk:Value) (hnk:Qm S w fun w=>Qi w nk n.kids) (hin:∀k∈n.kids,InT t k) (he:Qs n.kind=true) (h11:n.kind≠11)
  (Qmr:n.kind=8∨n.kind=9∨n.kind=10→1≤n.kids.length∧(n.kind≠9→2≤n.kids.length)) :
  Calls prog 171 #[.pointer (some ⟨cb,0,none⟩),.int .i64 i,.agg #[.int .i64 n.kind,.string n.text,.int .i64 n.i,nk]] w fun e w'=>e=.returned (.int .i64 (Zx r t s i n).1) ∧
   J0 S w' cb ⟨rb,ro,none⟩ ⟨tb,tq,none⟩ (Zx r t s i n).2 kv bv lv tv wv∧Q0 S w w':=by
 have hk':1≤n.kind∧n.kind≤11:=by simpa[Qs,Q9] using he
 have hk0:Q0 nob w (w.alloc (.cells #[.int .i64 n.kind,.string n.text,.int .i64 n.i,nk] 70)):=(Kr _ _).alloc _;have H0:=Hh (h.nobk hk0);have HR:=Hh (hr.kept (hk0.ofNob S));have HTS:=Hh (ht.kept (hk0.ofNob S));have HNK:=Hh (hnk.kept (hk0.ofNob S));have HOK:=Hh hok;have HIN:=Hh hok.locals;have HI:=Hh hi;generalize hX:Zx r t s i n=X;have hcb:∀(w1 w2:World) (s':CS),Q2t S w1 cb ⟨rb,ro,none⟩ ⟨tb,tq,none⟩ s' kv bv lv tv wv w2→Q0 S w1 w2:=fun _ _ _ hat=>hat.2.mono fun k _ hk=>hk▸hat.1.inS
 have HCB:=Hh hcb
 by_cases h1:n.kind=1
 ·have hX':X=(1,s):=by rw[← hX];unfold Zx;rw[Ps h1]
  subst hX';rw[h1] at hk0 H0 ⊢;clear hX h hr ht hnk hok hi hcb;go_enter func171,ntmps171;go_wp2_with fail;go_returns;exact⟨rfl,H0.o,hk0.ofNob _⟩
 by_cases h2:n.kind=2
 ·have hX':X=(2,s):=by rw[← hX];unfold Zx;rw[Ng h1,Ps h2]
  subst hX';rw[h2] at hk0 H0 ⊢;clear hX h hr ht hnk hok hi hcb;go_enter func171,ntmps171;go_wp2_with fail;go_returns;exact⟨rfl,H0.o,hk0.ofNob _⟩
 by_cases h3:n.kind=3
 ·have hX':X=(4,s):=by rw[← hX];unfold Zx;rw[Ng h1,Ng h2,Ps h3]
  subst hX';rw[h3] at hk0 H0 ⊢;clear hX h hr ht hnk hok hi hcb;go_enter func171,ntmps171;go_wp2_with fail;go_returns;exact⟨rfl,H0.o,hk0.ofNob _⟩
 by_cases h4:n.kind=4
 ·have hX':X=(if Q2 t s.locals n.text<0 then (0,s.fail 3 i) else (s.kindAt (Q2 t s.locals n.text),s.setBind i (Q2 t s.locals n.text))):=by
   rw[← hX];unfold Zx;rw[Ng h1,Ng h2,Ng h3,Ps h4]
  rw[h4] at hk0 H0 HTS ⊢
  by_cases hn:Q2 t s.locals n.text<0
  ·have t1:decide (Q2 t s.locals n.text<0)=true:=by simpa using hn
   rw[Ps hn] at hX';subst hX';clear hX h hr ht hnk hok hi hcb hn;go_enter func171,ntmps171;go_wp2_with (first|(go_at_call 196;refine (Q0a H0.o t HTS.o.now HIN.o _).mono ?_;rintro e w1 ⟨rfl,rfl⟩)|(go_at_call 92;refine (Zd H0.o _ _).mono ?_;rintro e w1 ⟨rfl,hat⟩));go_returns;exact⟨rfl,hat.1,(hk0.ofNob _).trans (HCB.o _ _ _ hat)⟩
  ·have t1:decide (Q2 t s.locals n.text<0)=false:=by simpa using hn
   rw[Ng hn] at hX';have hm0:=hok.locals _ (Q4u (by omega:0≤Q2 t s.locals n.text));generalize hj:Q2 t s.locals n.text=j at hn t1 hm0 hX';obtain⟨mj,rfl⟩:=En hm0.1;obtain⟨mi,rfl⟩:=En hi.1;have hb0:=Blk.new w [.int .i64 4,.string n.text,.int .i64 n.i,nk] 70;generalize hW0:w.alloc (.cells #[.int .i64 4,.string n.text,.int .i64 n.i,nk] 70)=W0 at hk0 H0 HTS;replace hb0:Blk W0 w.heap.size [.int .i64 4,.string n.text,.int .i64 n.i,nk] 70:=hW0▸hb0;have u0:=hb0.cell 0 _ rfl;have u1:=hb0.cell 1 _ rfl;have hjk:mj<s.kinds.length:=by rw[hok.kinds];have:=hm0.2;omega
   have hik:mi<s.bind.length:=by rw[hok.bind];have:=hi.2;omega
   have h0:=H0.o;obtain⟨kA,g,kc,hkv,kl,klc,hkA,hkc⟩:=h0.k.openI;obtain⟨rfl,hSg,Qmy⟩:=hkA (by omega);obtain⟨bA,gb,bc,hbv,bl,blc,hbA,hbc⟩:=h0.b.openI;obtain⟨rfl,hSb,Qni⟩:=hbA (by omega);obtain⟨x,hx⟩:=Q3 hjk;obtain⟨y,hy⟩:=Q3 hik;obtain⟨k2,k3⟩:=hbc mi y hy;have hxj:s.kindAt (mj:Int)=x:=CS.kindAt_of hx;have h1':=h0.setB Qni (mi:Int) (mj:Int) hi.1;rw[Int.toNat_natCast] at h1';have Qr5:g≠gb:=fun e=>(h0.sepAll.1) g Qmy (by rw[Qni,e])
   have hrg:Q0 (fun k=>k=gb) W0 (W0.setCell ⟨gb,mi,none⟩ (.int .i64 (mj:Int))):=Q0.cb (cb:=gb) (Kr _ W0) mi _;have hr1:Q0 S W0 (W0.setCell ⟨gb,mi,none⟩ (.int .i64 (mj:Int))):=hrg.mono (fun k _ hk=>hk▸hSb);have c5:W0.cell? ⟨cb,5,none⟩=some bv:=h0.blk.cell 5 _ rfl;have zk:(W0.setCell ⟨gb,mi,none⟩ (.int .i64 (mj:Int))).cell? ⟨g,mj,none⟩=some (.int .i64 x):=hrg.cell Qr5 (hkc mj x hx).1;have z4:(W0.setCell ⟨gb,mi,none⟩ (.int .i64 (mj:Int))).cell? ⟨cb,4,none⟩=some kv:=h1'.blk.cell 4 _ rfl;rw[hxj] at hX';have H1:=Hh h1';have HR1:=Hh hr1;have HX:=Hh hX';have hjk':(mj:Int)<s.kinds.length:=by omega
   have hik':(mi:Int)<s.bind.length:=by omega
   clear hX hX' h h0 h1' hr ht hnk hok hi hcb hn hkc hbc hx hy hkA hbA hm0 kl bl hrg hr1 Qmy Qni hxj Qr5 hSg hSb HCB;subst hkv hbv;go_enter func171,ntmps171;go_wp2_with (first|(go_at_call 196;refine (Q0a H0.o t HTS.o.now HIN.o _).mono ?_;rw[hj];rintro e w1 ⟨rfl,rfl⟩));go_returns;obtain rfl:=HX.o;exact⟨rfl,H1.o,(hk0.ofNob _).trans HR1.o⟩
 by_cases h5:n.kind=5
 ·have hX':Qh r s n.text i=X:=by rw[← hX];unfold Zx;rw[Ng h1,Ng h2,Ng h3,Ng h4,Ps h5]
  have hm:s.withs.length≤140737488355328:=by have:=hok.withs;omega
  rw[h5] at hk0 H0 HR ⊢;have HX:=Hh hX';clear hX hX' h hr ht hnk hok hi hcb;go_enter func171,ntmps171;go_wp2_with (go_at_call 198;refine (Q6v H0.o r HR.o.now hm _ _).mono ?_;rintro e w1 ⟨rfl,hat⟩);go_returns;obtain rfl:=HX.o;exact⟨rfl,hat.1,(hk0.ofNob _).trans (HCB.o _ _ _ hat)⟩
 by_cases h6:n.kind=6
 ·have hX':J4 r s 2 n.text i=X:=by rw[← hX];unfold Zx;rw[Ng h1,Ng h2,Ng h3,Ng h4,Ng h5,Ps h6]
  rw[h6] at hk0 H0 HR ⊢;have HX:=Hh hX';clear hX hX' h hr ht hnk hok hi hcb;go_enter func171,ntmps171;go_wp2_with (go_at_call 199;refine (Q2m H0.o r HR.o.now _ _ _).mono ?_;rintro e w1 ⟨rfl,hat⟩);go_returns;obtain rfl:=HX.o;exact⟨rfl,hat.1,(hk0.ofNob _).trans (HCB.o _ _ _ hat)⟩
 by_cases h7:n.kind=7
 ·have hX':Q37 t s i n=X:=by rw[← hX];unfold Zx;rw[Ng h1,Ng h2,Ng h3,Ng h4,Ng h5,Ng h6,Ps h7]
  have Qmw:=Qky H0.o t HTS.o hok hK i hi n nk HNK.o hin;rw[hX'] at Qmw;rw[h7] at hk0 Qmw ⊢;have HC:=Hh Qmw;clear hX hX' h hr ht hnk hok hi hcb Qmw H0 HR HTS HNK;go_enter func171,ntmps171;go_wp2_with (go_at_call 200;refine (HC.o).mono ?_;rintro e w1 ⟨rfl,Qml,Qmp⟩);go_returns;exact⟨rfl,Qml,(hk0.ofNob _).trans Qmp⟩
 ·have h8:n.kind=8∨n.kind=9∨n.kind=10:=by omega
  have hX':Yt s i n=X:=by rw[← hX];unfold Zx;rw[Ng h1,Ng h2,Ng h3,Ng h4,Ng h5,Ng h6,Ng h7]
  have Qmw:=Qku H0.o t hok i n nk HNK.o.now hin h8 (Qmr h8).1 (Qmr h8).2;rw[hX'] at Qmw;have HC:=Hh Qmw;have t1:(n.kind==1)=false:=by simpa using h1
  have t2:(n.kind==2)=false:=by simpa using h2
  have t3:(n.kind==3)=false:=by simpa using h3
  have t4:(n.kind==4)=false:=by simpa using h4
  have t5:(n.kind==5)=false:=by simpa using h5
  have t6:(n.kind==6)=false:=by simpa using h6
  have t7:(n.kind==7)=false:=by simpa using h7
  clear hX hX' h hr ht hnk hok hi hcb Qmw H0 HR HTS HNK;go_enter func171,ntmps171;go_wp2_with (go_at_call 201;refine (HC.o).mono ?_;rintro e w1 ⟨rfl,hat⟩);go_returns;exact⟨rfl,hat.1,(hk0.ofNob _).trans (HCB.o _ _ _ hat)⟩
def Qi7 (n:Qc):Prop:=n.kind=12∨n.kind=13∨n.kind=14∨n.kind=15∨n.kind=19∨n.kind=23→∃k ks,n.kids=k::ks
theorem Qbj (h:J0 S w cb ⟨rb,ro,none⟩ ⟨tb,tq,none⟩ s kv bv lv tv wv) (r:Reg) (hr:Qm S w fun w=>Xy w rb ro r) (t:Q1) (ht:Qm S w fun w=>J7 w tb tq t) (hok:Qe t s) (Qo8:s.locals.length≤4000)
  (i:Int) (hi:InT t i) (n:Qc) (nk:Value) (hnk:Qm S w fun w=>Qi w nk n.kids) (hin:∀k∈n.kids,InT t k) (ho:Qi7 n) (hS:Jl S w) :
  Calls prog 172 #[.pointer (some ⟨cb,0,none⟩),.int .i64 i,.agg #[.int .i64 n.kind,.string n.text,.int .i64 n.i,nk]] w fun e w'=>e=.returned (.tuple #[]) ∧
   AtS S w cb ⟨rb,ro,none⟩ ⟨tb,tq,none⟩ (Qz r t s i n) kv bv tv w':=by
 by_cases Qn5:n.kind=12∨n.kind=13∨n.kind=14∨n.kind=15∨n.kind=19∨n.kind=23
 ·obtain⟨k,ks,Qmk⟩:=ho Qn5
  have hk:=hin k (by rw[Qmk];simp)
  by_cases h12:n.kind=12
  ·have:=Qkv h t ht hok Qo8 i hi n nk hnk k ks Qmk hk h12 hS
   refine this.mono ?_;rintro e w' ⟨he,hat⟩;refine⟨he,?_⟩;unfold Qz;rw[Ps h12];exact hat
  by_cases h13:n.kind=13
  ·refine (Qkl h r t ht hok i hi n nk hnk k ks Qmk hk h13).mono ?_
   rintro e w' ⟨he,h1,h2⟩;refine⟨he,?_⟩;unfold Qz;rw[Ng h12,Ps h13];exact⟨⟨_,_,h1⟩,h2⟩
  by_cases h14:n.kind=14
  ·exact (Qkx h r t hr hok i n nk hnk k ks Qmk hk h14 hS).mono fun e w' ⟨he,hat⟩=>⟨he,hat.s⟩
  by_cases h15:n.kind=15
  ·exact (Ql7 h r t hr hok i n nk hnk k ks Qmk hk h15 hS).mono fun e w' ⟨he,hat⟩=>⟨he,hat.s⟩
  by_cases h19:n.kind=19
  ·exact (Qlc h r t hr hok i n nk hnk k ks Qmk hk h19 hS).mono fun e w' ⟨he,hat⟩=>⟨he,hat.s⟩
  have h23:n.kind=23:=by omega
  exact (Qlf h r t hr hok i n nk hnk k ks Qmk hk h23 hS).mono fun e w' ⟨he,hat⟩=>⟨he,hat.s⟩
 ·by_cases h24:n.kind=24
  ·refine (Qko h r hr i n nk h24).mono ?_
   rintro e w' ⟨he,hat⟩;refine⟨he,?_⟩;have:Qz r t s i n=(J4 r s 1 n.text i).2:=by unfold Qz;simp[h24]
   rw[this];exact hat.s
  ·refine (Qga h i n nk (by simp;omega) (by simp;omega) (by simp;omega) (by simp;omega) (by simp;omega) (by simp;omega) (by simp;omega)).mono ?_
   rintro e w' ⟨he,hat⟩;refine⟨he,?_⟩
   have:Qz r t s i n=s:=by
    unfold Qz;rw[Ng (by omega),Ng (by omega),Ng (by omega),Ng (by omega),Ng (by omega),Ng (by omega),Ng (by omega)]
   rw[this];exact hat.s
end
theorem Qm.mkInts {S:Nat→Prop} {w:World} {b o n c:Nat} {xs:List Int} (hn:n=xs.length) (hl:xs.length≤140737488355328) (hc:xs.length≤c) (hx:∀j x,xs[j]?=some x→∀W,Q0 S w W→W.cell? ⟨b,o+j,none⟩=some (.int .i64 x)) :
  Qm S w fun w=>Qi w (.slice (some ⟨b,o,none⟩) n c) xs:=fun W hk=>⟨_,b,o,c,by rw[hn],hl,hc,fun _=>rfl,fun j x h=>hx j x h W hk⟩
def Qv (S:Nat→Prop) (b:Nat):Nat→Prop:=fun k=>S k∧k≠b
theorem AtS.wider {S S':Nat→Prop} {w w':World} {cb:Nat} {ra ta:Addr} {s:CS} {kv bv tv:Value} (h:AtS S w cb ra ta s kv bv tv w') (hs:∀k,S k→S' k):AtS S' w cb ra ta s kv bv tv w':=by
 obtain⟨⟨lv,wv,hc⟩,hk⟩:=h;exact⟨⟨lv,wv,hc.mono fun k _ h=>hs k h⟩,hk.mono fun k _ h=>hs k h⟩
theorem AtS.after {S:Nat→Prop} {w w1 w':World} {cb:Nat} {ra ta:Addr} {s:CS} {kv bv tv:Value} (h:AtS S w1 cb ra ta s kv bv tv w') (hk:Q0 S w w1):AtS S w cb ra ta s kv bv tv w':=⟨h.1,hk.trans h.2⟩
section
variable {r:Reg} {t:Q1}
def Q0o (r:Reg) (t:Q1) (b:Int) (W:CS→Int→CS):Prop :=
 ∀(S:Nat→Prop) (w:World) (cb rb ro tb tq:Nat) (s:CS) (kv bv lv tv wv:Value) (i:Int),i<b→InT t i→J0 S w cb ⟨rb,ro,none⟩ ⟨tb,tq,none⟩ s kv bv lv tv wv →
  (Qm S w fun w=>Xy w rb ro r)→(Qm S w fun w=>J7 w tb tq t)→Qe t s→s.code=0→Jl S w →
  (Calls prog 124 #[.pointer (some ⟨cb,0,none⟩),.int .i64 i] w fun e w'=>e=.returned (.tuple #[])∧AtS S w cb ⟨rb,ro,none⟩ ⟨tb,tq,none⟩ (W s i) kv bv tv w')
def Y5 (t:Q1) (W:CS→Int→CS):Prop:=∀s (k:Int),Qe t s→InT t k→Qe t (W s k)
theorem Qdx {W:CS→Int→CS} {l:List Int} {j:Nat} {k:Int} (hk:l[j]?=some k) (s:CS):Qa W s (l.take (j+1))=if (Qa W s (l.take j)).code=0 then W (Qa W s (l.take j)) k else Qa W s (l.take j):=by
 rw[Jy hk];unfold Qa;rw[List.foldl_append];rfl
variable {S:Nat→Prop} {w:World} {cb rb ro tb tq:Nat} {s:CS} {kv bv lv tv wv:Value} {b:Int} {W:CS→Int→CS}
theorem Xv (hW:Q0o r t b W) (hO:Y5 t W) (h:J0 S w cb ⟨rb,ro,none⟩ ⟨tb,tq,none⟩ s kv bv lv tv wv) (hr:Qm S w fun w=>Xy w rb ro r) (ht:Qm S w fun w=>J7 w tb tq t) (hok:Qe t s) (hF:Jl S w)
  (v:Value) (l:List Int) (hv:Qm S w fun w=>Qi w v l) (hl:∀k∈l,InT t k∧k<b) :
  Calls prog 93 #[.pointer (some ⟨cb,0,none⟩),v] w fun e w'=>e=.returned (.tuple #[])∧AtS S w cb ⟨rb,ro,none⟩ ⟨tb,tq,none⟩ (Qa W s l) kv bv tv w':=by
 obtain⟨A,p,o,c,rfl,ll,lc,hA,Qmq⟩:=hv.ints;have HC:=Hh Qmq;have HL:=Hh hl;have HR:=Hh hr;have HT:=Hh ht;have HF:=Hh hF;have HOK:=Hh (fun j=>Qe.kids hO (l.take j) (fun k hk=>(hl k (List.mem_of_mem_take hk)).1) hok);have H:=Hh h;have HA:=Hh hA;clear Qmq hl hr ht hF hok h hv hA;go_enter func93,ntmps93;go_wp2_with fail;go_loopw [5,8] (fun u5 ci wr=>∃j:Nat,j≤l.length∧ci=.int .i64 j∧Hi (AtS S w cb ⟨rb,ro,none⟩ ⟨tb,tq,none⟩ (Qa W s (l.take j)) kv bv tv wr)) (fun _ ci _=>l.length-(intOf ci).toNat)
 case atStart=>exact⟨0,Nat.zero_le _,rfl,Hh ⟨⟨_,_,H.o⟩,Kr _ _⟩⟩
 case round =>
  obtain⟨j,hj,rfl,HAT⟩:=hrel;obtain⟨wo,rfl⟩:∃wo:World,wo=wr:=⟨_,rfl⟩
  by_cases hlt:j<l.length
  ·obtain⟨x,hx⟩:=Q3 hlt
   obtain⟨rfl,_⟩:=HA.o (by omega);have q0:=HC.o j x hx wo HAT.o.2;obtain⟨hxi,hxb⟩:=HL.o x (Mg hx);have HS:=Hh (Qdx (W:=W) hx s);obtain⟨⟨lv1,wv1,hc1⟩,hk1⟩:=HAT.o;have q2:wo.cell? ⟨cb,2,none⟩=some (.int .i64 (Qa W s (l.take j)).code):=hc1.blk.cell 2 _ rfl;have HC1:=Hh hc1;have HK1:=Hh hk1;have HXI:=Hh hxi;have HXB:=Hh hxb;clear hx hxi hxb hc1 hk1
   by_cases h0:(Qa W s (l.take j)).code=0
   ·have HS2:=Hh (HS.o.trans (Ps h0))
    have H00:=Hh h0;rw[h0] at q2;clear h0;go_wp2_with (go_at_call 124;refine (hW S wo cb rb ro tb tq _ kv bv lv1 tv wv1 x HXB.o HXI.o HC1.o (HR.o.kept HK1.o) (HT.o.kept HK1.o) (HOK.o j) H00.o (HF.o.kept HK1.o)).mono ?_;rintro e w2 ⟨rfl,hat⟩);go_round
    case rel=>exact⟨j+1,by omega,by go_num,Hh (HS2.o▸hat.after HK1.o)⟩
    case measure=>simp[intOf];omega
   ·have HS2:=Hh (HS.o.trans (Ng h0))
    have t1:((Qa W s (l.take j)).code==0)=false:=by simpa using h0
    clear h0;go_wp2_with fail;go_round
    case rel=>exact⟨j+1,by omega,by go_num,Hh (HS2.o▸HAT.o)⟩
    case measure=>simp[intOf];omega
  ·obtain rfl:j=l.length:=by omega
   go_wp2_with fail;go_returns;have:=HAT.o;rw[List.take_length] at this;exact⟨rfl,this⟩
end
end Go.Proofs.YtkgkafjachjafaaGreat
