/- Part 21 of: FnExactPrune answers true; no condition. -/
import Derived.Test.YtkgkafjachjafaaGreatZ09
import Derived.Test.YtkgkafjachjafaaGreatZ18
set_option linter.unusedVariables false
set_option maxHeartbeats 2000000
open Go Go.RowKit
namespace Go.Proofs.YtkgkafjachjafaaGreat
open Tryz
theorem Qm.drop {S:Nat→Prop} {w:World} {A:Option Addr} {p o n c d:Nat} {l:List Int} (hx:∀j x,l[j]?=some x→∀W,Q0 S w W→W.cell? ⟨p,o+j,none⟩=some (.int .i64 x)) (hl:l.length≤140737488355328) (hA:0<l.length-d→A=some ⟨p,o+d,none⟩) (hn:n=l.length-d) (hc:l.length-d≤c) :
  Qm S w fun w=>Qi w (.slice A n c) (l.drop d):=by
 intro W hk
 refine⟨A,p,o+d,c,by rw[List.length_drop,hn],by rw[List.length_drop];omega,by rw[List.length_drop];exact hc,fun h=>hA (by rw[List.length_drop] at h;exact h),fun j x hj=>?_⟩
 rw[Nat.add_assoc];exact hx (d+j) x (by rw[List.getElem?_drop] at hj;exact hj) W hk
theorem Qm.take {S:Nat→Prop} {w:World} {p o n c d:Nat} {l:List Int} (hx:∀j x,l[j]?=some x→∀W,Q0 S w W→W.cell? ⟨p,o+j,none⟩=some (.int .i64 x)) (hl:l.length≤140737488355328) (hd:d≤l.length) (hn:n=d) (hc:d≤c) :
  Qm S w fun w=>Qi w (.slice (some ⟨p,o,none⟩) n c) (l.take d):=by
 refine Qm.mkInts (by rw[List.length_take];omega) (by rw[List.length_take];omega) (by rw[List.length_take];omega) fun j x hj W hk=>?_
 exact hx j x (by rw[List.getElem?_take] at hj;split at hj;exact hj;cases hj) W hk
section
variable {r:Reg} {t:Q1} {S:Nat→Prop} {w:World} {cb rb ro tb tq:Nat} {s:CS} {kv bv lv tv wv:Value} {b:Int} {W:CS→Int→CS}
theorem Qan (hW:Q0o r t b W) (hO:Y5 t W) (h:J0 S w cb ⟨rb,ro,none⟩ ⟨tb,tq,none⟩ s kv bv lv tv wv) (hr:Qm S w fun w=>Xy w rb ro r) (ht:Qm S w fun w=>J7 w tb tq t) (hok:Qe t s) (h00:s.code=0) (hF:Jl S w)
  (i:Int) (n:Qc) (nk:Value) (hnk:Qm S w fun w=>Qi w nk n.kids) (hl:∀k∈n.kids,InT t k∧k<b) (a:Int) (ks:List Int) (Qmk:n.kids=a::ks) (h2:2≤n.kids.length) :
  Calls prog 167 #[.pointer (some ⟨cb,0,none⟩),.int .i64 i,.agg #[.int .i64 n.kind,.string n.text,.int .i64 n.i,nk]] w fun e w'=>e=.returned (.tuple #[]) ∧
   AtS S w cb ⟨rb,ro,none⟩ ⟨tb,tq,none⟩ (Q00 W s i n) kv bv tv w':=by
 have k0:kidAt n 0=a:=by simp[kidAt,Qmk]
 have hbr:Q00 W s i n=Qa W (Qq (W s a) a (if n.kind=17 then 1 else 4) i) (n.kids.drop 1):=by unfold Q00;rw[k0]
 generalize Q00 W s i n=X at hbr ⊢;clear k0;have hai:=hl a (by rw[Qmk];simp);have hk0:Q0 nob w (w.alloc (.cells #[.int .i64 n.kind,.string n.text,.int .i64 n.i,nk] 70)):=(Kr _ _).alloc _;have hb0:=Blk.new w [.int .i64 n.kind,.string n.text,.int .i64 n.i,nk] 70;have hF0:Jl (Qv S w.heap.size) (w.alloc (.cells #[.int .i64 n.kind,.string n.text,.int .i64 n.i,nk] 70)):=fun k hk=>⟨hF k (by simp at hk;omega),by simp at hk;omega⟩
 generalize hW0:w.alloc (.cells #[.int .i64 n.kind,.string n.text,.int .i64 n.i,nk] 70)=W0 at hk0 hF0;replace hb0:Blk W0 w.heap.size [.int .i64 n.kind,.string n.text,.int .i64 n.i,nk] 70:=hW0▸hb0;have Qms:∀k,k<W0.heap.size→Qv S w.heap.size k→S k:=fun _ _ h=>h.1
 have h0:J0 (Qv S w.heap.size) W0 cb ⟨rb,ro,none⟩ ⟨tb,tq,none⟩ s kv bv lv tv wv:=(h.mono fun k hk hS=>⟨hS,by omega⟩).nobk hk0;have hr0:=(hr.kept (hk0.ofNob S)).mono Qms;have ht0:=(ht.kept (hk0.ofNob S)).mono Qms;have hn0:=(hnk.kept (hk0.ofNob S)).mono Qms;obtain⟨A,p,o,c,rfl,ll,lc,hA,Qmq⟩:=hn0.ints;have Qn9:0<n.kids.length:=by rw[Qmk];simp
 obtain⟨rfl,hpS⟩:=hA Qn9;have e0:=Qmq 0 a (by rw[Qmk];rfl) W0 (Kr _ _);have c0:=hb0.cell 0 _ rfl;have c3:=hb0.cell 3 _ rfl
 have hbk:∀W',Q0 (Qv S w.heap.size) W0 W'→W'.cell? ⟨w.heap.size,3,none⟩=some (.slice (some ⟨p,o,none⟩) n.kids.length c)∧W'.cell? ⟨p,o,none⟩=some (.int .i64 a):=fun W' hk =>
  ⟨hk.cell (fun hh=>hh.2 rfl) c3,by have:=Qmq 0 a (by rw[Qmk];rfl) W' hk;simpa using this⟩
 have HBK:=Hh hbk;have HC:=Hh Qmq;have H0:=Hh h0;have HR:=Hh hr0;have HT:=Hh ht0;have HF:=Hh hF0;have HOK:=Hh hok;have Qn7:=Hh (hO s a hok hai.1);have HAI:=Hh hai;have HL:=Hh hl;have H00:=Hh h00;have Qmr:(1:Int)≤n.kids.length:=by omega
 have hc1:¬ c=1:=by omega
 have Qyy:n.kids.length≤c:=lc;have HLL:=Hh ll;have HB1:Hi (0≤a∧a<((W s a).kinds.length:Int)):=Hh ⟨hai.1.1,by rw[Qn7.o.kinds];exact hai.1.2⟩;have hKS:Q0 S w W0:=hk0.ofNob S;have e0':W0.cell? ⟨p,o,none⟩=some (.int .i64 a):=by simpa using e0
 clear hb0 Qms h0 hr0 ht0 hn0 Qmq hF0 h hr ht hnk hl Qmk hok h00 hF hA hbk hai ll e0;cases hq:(n.kind==17) with
 |true =>
  have hq':n.kind=17:=by simpa using hq
  rw[Ps hq'] at hbr;have HX:=Hh hbr;clear hq' hbr;go_enter func167,ntmps167;go_wp2_with (first|(go_at_call 124;refine (hW _ W0 cb rb ro tb tq _ kv bv lv tv wv a HAI.o.2 HAI.o.1 H0.o HR.o HT.o HOK.o H00.o HF.o).mono ?_;rintro e w2 ⟨rfl,Qnx⟩;have hat:=Hh Qnx;obtain⟨⟨lv1,wv1,hc1⟩,hk1⟩:=Qnx;obtain⟨u3,u0⟩:=HBK.o w2 hk1;have HC1:=Hh hc1;have HK1:=Hh hk1;clear hc1 hk1)|(go_at_call 197;refine (Xq HC1.o _ _ _ HB1.o.1 HB1.o.2).mono ?_;rintro e w3 ⟨rfl,Qmp⟩;have HC2:=Hh Qmp.1;have HK2:=Hh (HK1.o.trans (Qmp.2.mono fun k _ e=>e▸Qmp.1.inS));obtain⟨v3,v0⟩:=HBK.o w3 HK2.o;clear Qmp)|(go_at_call 93;refine (Xv hW hO HC2.o (HR.o.kept HK2.o) (HT.o.kept HK2.o) (Qn7.o.kindIs _ _ _) (HF.o.kept HK2.o) _ (n.kids.drop 1) ((Qm.drop HC.o HLL.o (fun _=>rfl) rfl (by omega)).kept HK2.o) (fun k hk=>HL.o k (List.mem_of_mem_drop hk))).mono ?_;rintro e w4 ⟨rfl,Qn0⟩));go_returns;obtain rfl:=HX.o;exact⟨rfl,((Qn0.after HK2.o).wider fun _ h=>h.1).after hKS⟩
 |false =>
  have hq':¬ n.kind=17:=by simpa using hq
  rw[Ng hq'] at hbr;have HX:=Hh hbr;clear hq' hbr;go_enter func167,ntmps167;go_wp2_with (first|(go_at_call 124;refine (hW _ W0 cb rb ro tb tq _ kv bv lv tv wv a HAI.o.2 HAI.o.1 H0.o HR.o HT.o HOK.o H00.o HF.o).mono ?_;rintro e w2 ⟨rfl,Qnx⟩;have hat:=Hh Qnx;obtain⟨⟨lv1,wv1,hc1⟩,hk1⟩:=Qnx;obtain⟨u3,u0⟩:=HBK.o w2 hk1;have HC1:=Hh hc1;have HK1:=Hh hk1;clear hc1 hk1)|(go_at_call 197;refine (Xq HC1.o _ _ _ HB1.o.1 HB1.o.2).mono ?_;rintro e w3 ⟨rfl,Qmp⟩;have HC2:=Hh Qmp.1;have HK2:=Hh (HK1.o.trans (Qmp.2.mono fun k _ e=>e▸Qmp.1.inS));obtain⟨v3,v0⟩:=HBK.o w3 HK2.o;clear Qmp)|(go_at_call 93;refine (Xv hW hO HC2.o (HR.o.kept HK2.o) (HT.o.kept HK2.o) (Qn7.o.kindIs _ _ _) (HF.o.kept HK2.o) _ (n.kids.drop 1) ((Qm.drop HC.o HLL.o (fun _=>rfl) rfl (by omega)).kept HK2.o) (fun k hk=>HL.o k (List.mem_of_mem_drop hk))).mono ?_;rintro e w4 ⟨rfl,Qn0⟩));go_returns;obtain rfl:=HX.o;exact⟨rfl,((Qn0.after HK2.o).wider fun _ h=>h.1).after hKS⟩
end
theorem J0.kindCell {S:Nat→Prop} {w:World} {cb:Nat} {ra ta:Addr} {s:CS} {kv bv lv tv wv:Value} (h:J0 S w cb ra ta s kv bv lv tv wv) {g mi:Nat} (hg:kv.ownBlock=some g) (hi:mi<s.kinds.length) :
  w.cell? ⟨g,mi,none⟩=some (.int .i64 (s.kindAt (mi:Int)))∧w.frozen? ⟨g,mi,none⟩=false:=by
 obtain⟨q1,q2⟩:=h.k.at (j:=mi) hg (by simpa[Q4] using hi);refine⟨?_,q2⟩;rw[q1];simp[Q4,CS.kindAt,hi]
theorem J0.kindRow {S:Nat→Prop} {w:World} {cb:Nat} {ra ta:Addr} {s:CS} {kv bv lv tv wv:Value} {t:Q1} (h:J0 S w cb ra ta s kv bv lv tv wv) (hok:Qe t s) (hp:0<t.nodes.length):∃g kc,kv=.slice (some ⟨g,0,none⟩) t.nodes.length kc∧kv.ownBlock=some g∧S g:=by
 obtain⟨A,g,kc,hkv,_,_,hA,_⟩:=h.k.openI;rw[hok.kinds] at hkv hA;obtain⟨rfl,hS,ho⟩:=hA hp;exact⟨g,kc,hkv,ho,hS⟩
section
variable {r:Reg} {t:Q1} {S:Nat→Prop} {w:World} {cb rb ro tb tq:Nat} {s:CS} {kv bv lv tv wv:Value} {b:Int} {W:CS→Int→CS}
theorem Qli (hW:Q0o r t b W) (hO:Y5 t W) (h:J0 S w cb ⟨rb,ro,none⟩ ⟨tb,tq,none⟩ s kv bv lv tv wv) (hr:Qm S w fun w=>Xy w rb ro r) (ht:Qm S w fun w=>J7 w tb tq t) (hok:Qe t s) (h00:s.code=0) (hF:Jl S w)
  (i:Int) (hi:InT t i) (n:Qc) (nk:Value) (hnk:Qm S w fun w=>Qi w nk n.kids) (hl:∀k∈n.kids,InT t k∧k<b) (a k1:Int) (ks:List Int) (Qmk:n.kids=a::k1::ks) :
  Calls prog 166 #[.pointer (some ⟨cb,0,none⟩),.int .i64 i,.agg #[.int .i64 n.kind,.string n.text,.int .i64 n.i,nk]] w fun e w'=>e=.returned (.tuple #[]) ∧
   AtS S w cb ⟨rb,ro,none⟩ ⟨tb,tq,none⟩ (Q4v r t W s i n) kv bv tv w':=by
 have k0:kidAt n 0=a:=by simp[kidAt,Qmk]
 have k1':kidAt n 1=k1:=by simp[kidAt,Qmk]
 have hbr:Q4v r t W s i n=(n.kids.drop 1).foldl (pickStep r t i k1) (Qq (W s a) a 1 i):=by unfold Q4v;rw[k0,k1']
 generalize Q4v r t W s i n=X at hbr ⊢;have HX:=Hh hbr;clear k0 k1' hbr;have hai:=hl a (by rw[Qmk];simp);have hk0:Q0 nob w (w.alloc (.cells #[.int .i64 n.kind,.string n.text,.int .i64 n.i,nk] 70)):=(Kr _ _).alloc _;have hb0:=Blk.new w [.int .i64 n.kind,.string n.text,.int .i64 n.i,nk] 70;have hF0:Jl (Qv S w.heap.size) (w.alloc (.cells #[.int .i64 n.kind,.string n.text,.int .i64 n.i,nk] 70)):=fun k hk=>⟨hF k (by simp at hk;omega),by simp at hk;omega⟩
 generalize hW0:w.alloc (.cells #[.int .i64 n.kind,.string n.text,.int .i64 n.i,nk] 70)=W0 at hk0 hF0;replace hb0:Blk W0 w.heap.size [.int .i64 n.kind,.string n.text,.int .i64 n.i,nk] 70:=hW0▸hb0;have Qms:∀k,k<W0.heap.size→Qv S w.heap.size k→S k:=fun _ _ h=>h.1
 have h0:J0 (Qv S w.heap.size) W0 cb ⟨rb,ro,none⟩ ⟨tb,tq,none⟩ s kv bv lv tv wv:=(h.mono fun k hk hS=>⟨hS,by omega⟩).nobk hk0;have hr0:=(hr.kept (hk0.ofNob S)).mono Qms;have ht0:=(ht.kept (hk0.ofNob S)).mono Qms;have hn0:=(hnk.kept (hk0.ofNob S)).mono Qms;obtain⟨A,p,o,c,rfl,ll,lc,hA,Qmq⟩:=hn0.ints;have Qon:2≤n.kids.length:=by rw[Qmk];simp
 obtain⟨rfl,hpS⟩:=hA (by omega);have Qn9:0<t.nodes.length:=by have:=hi.1;have:=hi.2;omega
 obtain⟨tA,nb,no,nc,tc,tl,tlc,tS,tA',_,tn⟩:=ht0.tree;obtain⟨rfl,nS⟩:=tA' Qn9;obtain⟨g,kc,hkv,Qmy,hSg⟩:=h0.kindRow hok Qn9;obtain⟨mi,rfl⟩:=En hi.1;have hmi:(mi:Int)<t.nodes.length:=hi.2;have c3:=hb0.cell 3 _ rfl
 have hbk:∀W',Q0 (Qv S w.heap.size) W0 W'→W'.cell? ⟨w.heap.size,3,none⟩=some (.slice (some ⟨p,o,none⟩) n.kids.length c)∧W'.cell? ⟨p,o,none⟩=some (.int .i64 a)∧W'.cell? ⟨p,o+1,none⟩=some (.int .i64 k1):=fun W' hk =>
  ⟨hk.cell (fun hh=>hh.2 rfl) c3,by have:=Qmq 0 a (by rw[Qmk];rfl) W' hk;simpa using this,Qmq 1 k1 (by rw[Qmk];rfl) W' hk⟩
 obtain⟨_,e0',_⟩:=hbk W0 (Kr _ _);have HBK:=Hh hbk;have HC:=Hh Qmq;have H0:=Hh h0;have HR:=Hh hr0;have HT:=Hh ht0;have HTC:=Hh tc;have HTN:=Hh tn;have HF:=Hh hF0;have HOK:=Hh hok;have Qn7:=Hh ((hO s a hok hai.1).kindIs a 1 (mi:Int));have HAI:=Hh hai;have HL:=Hh hl;have H00:=Hh h00;have Qmr:(1:Int)≤n.kids.length:=by omega
 have Qr4:(1:Int)<n.kids.length:=by omega
 have Qna:0<n.kids.length:=by omega
 have hc1:¬ c=1:=by omega
 have HB1:Hi (0≤a∧a<((W s a).kinds.length:Int)):=Hh ⟨hai.1.1,by rw[(hO s a hok hai.1).kinds];exact hai.1.2⟩;have hKS:Q0 S w W0:=hk0.ofNob S;have Qnm:=Hh Qmy;have HSG:=Hh hSg;have HI0:=Hh hi.1;have HD:Hi (∀j x,(n.kids.drop 1)[j]?=some x→n.kids[1+j]?=some x):=Hh (fun j x hx=>by rw[List.getElem?_drop] at hx;exact hx);have HDL:Hi ((n.kids.drop 1).length=n.kids.length-1):=Hh (by simp);have Qp8:Hi (∀j,Qe t (((n.kids.drop 1).take j).foldl (pickStep r t (mi:Int) k1) (Qq (W s a) a 1 (mi:Int)))):=Hh (fun j=>Qe.picks r _ _ _ ((hO s a hok hai.1).kindIs a 1 (mi:Int)));have HLL:=Hh ll;clear hb0 Qms h0 hr0 ht0 hn0 Qmq hF0 h hr ht hnk hl Qmk hok h00 hF hA hbk hai tc tn tA' Qmy hSg hi Qn9;generalize hD:n.kids.drop 1=D at HX HD HDL Qp8;subst hkv;go_enter func166,ntmps166;go_wp2_with (first|(go_at_call 124;refine (hW _ W0 cb rb ro tb tq _ _ bv lv tv wv a HAI.o.2 HAI.o.1 H0.o HR.o HT.o HOK.o H00.o HF.o).mono ?_;rintro e w2 ⟨rfl,Qnx⟩;have hat:=Hh Qnx;obtain⟨⟨lv1,wv1,hc1'⟩,hk1⟩:=Qnx;obtain⟨u3,u0,u1⟩:=HBK.o w2 hk1;have HC1:=Hh hc1';have HK1:=Hh hk1;clear hc1' hk1)|(go_at_call 197;refine (Xq HC1.o _ _ _ HB1.o.1 HB1.o.2).mono ?_;rintro e w3 ⟨rfl,Qmp⟩;have HC2:=Hh Qmp.1;have HK2:=Hh (HK1.o.trans (Qmp.2.mono fun k _ e=>e▸Qmp.1.inS));obtain⟨v3,v0,v1⟩:=HBK.o w3 HK2.o;clear Qmp));go_loopw [7,8,26] (fun u7 u8 ci wr=>∃j:Nat,j≤n.kids.length-1∧ci=.int .i64 j∧Hi (J0 (Qv S w.heap.size) wr cb ⟨rb,ro,none⟩ ⟨tb,tq,none⟩ ((D.take j).foldl (pickStep r t (mi:Int) k1) (Qq (W s a) a 1 (mi:Int))) (.slice (some ⟨g,0,none⟩) t.nodes.length kc) bv lv1 tv wv1∧Q0 (Qv S w.heap.size) W0 wr)) (fun _ _ ci _=>n.kids.length-1-(intOf ci).toNat)
 case atStart=>exact⟨0,Nat.zero_le _,rfl,Hh ⟨HC2.o,HK2.o⟩⟩
 case round =>
  obtain⟨j,hj,rfl,HAT⟩:=hrel;obtain⟨wo,rfl⟩:∃wo:World,wo=wr:=⟨_,rfl⟩
  by_cases hlt:j<n.kids.length-1
  ·obtain⟨k,hx⟩:=Q3 (xs:=D) (j:=j) (by rw[HDL.o];exact hlt)
   have hx2:=HD.o j k hx;obtain⟨hki,hkb⟩:=HL.o k (Mg hx2);have q0:=HC.o _ k hx2 wo HAT.o.2;rw[← Nat.add_assoc] at q0;obtain⟨z3,z0,z1⟩:=HBK.o wo HAT.o.2;obtain⟨pm,rfl,hpn⟩:=Q1.at_lt hki;have hpl:(pm:Int)<t.nodes.length:=hki.2;obtain⟨pv,pc,_⟩:=HTN.o pm _ hpn;have q1:wo.cell? ⟨cb,1,none⟩=some (.pointer (some ⟨tb,tq,none⟩)):=HAT.o.1.blk.cell 1 _ rfl;have q2:=HTC.o wo HAT.o.2;have q5:=(pc wo HAT.o.2).2.1;have HST:Hi ((D.take (j+1)).foldl (pickStep r t (mi:Int) k1) (Qq (W s a) a 1 (mi:Int))=pickStep r t (mi:Int) k1 ((D.take j).foldl (pickStep r t (mi:Int) k1) (Qq (W s a) a 1 (mi:Int))) (pm:Int)):=Hh (by rw[Jy hx,List.foldl_append];rfl);have Qoi:=Qp8.o j;have hjn:(j:Int)<(n.kids.length:Int)-1:=by omega
   generalize (D.take j).foldl (pickStep r t (mi:Int) k1) (Qq (W s a) a 1 (mi:Int))=s0 at HAT HST Qoi;have hm:s0.withs.length≤140737488355328:=by have:=Qoi.withs;omega
   have Qr7:=Qoi.column r (t.at (pm:Int)).text (pm:Int);have hkl:mi<(Qh r s0 (t.at (pm:Int)).text (pm:Int)).2.kinds.length:=by rw[Qr7.kinds];omega
   have Qu0:((Qh r s0 (t.at (pm:Int)).text (pm:Int)).2.setKind (mi:Int) (Qh r s0 (t.at (pm:Int)).text (pm:Int)).1).kindAt (mi:Int)=(Qh r s0 (t.at (pm:Int)).text (pm:Int)).1:=by
    have:=CS.kindAt_set (Qh r s0 (t.at (pm:Int)).text (pm:Int)).2 (mi:Int) (Qh r s0 (t.at (pm:Int)).text (pm:Int)).1 (mi:Int) HI0.o HI0.o (by omega);rw[Ps rfl] at this;exact this
   have Qo6:pickStep r t (mi:Int) k1 s0 (pm:Int)=(if (pm:Int)=k1 then (Qh r s0 (t.at (pm:Int)).text (pm:Int)).2.setKind (mi:Int) (Qh r s0 (t.at (pm:Int)).text (pm:Int)).1 else (if (Qh r s0 (t.at (pm:Int)).text (pm:Int)).1=(Qh r s0 (t.at (pm:Int)).text (pm:Int)).2.kindAt (mi:Int) then (Qh r s0 (t.at (pm:Int)).text (pm:Int)).2 else (Qh r s0 (t.at (pm:Int)).text (pm:Int)).2.fail 4 (pm:Int))):=by
    unfold pickStep;dsimp only
    by_cases e:(pm:Int)=k1
    ·rw[Ps e,Ps e,Ps Qu0.symm]
    ·rw[Ng e,Ng e]
   rw[Qo6] at HST;have Qoq:=Hh (fun w2 (h2:J0 (Qv S w.heap.size) w2 cb ⟨rb,ro,none⟩ ⟨tb,tq,none⟩ s0 (.slice (some ⟨g,0,none⟩) t.nodes.length kc) bv lv1 tv wv1) (h3:Xy w2 rb ro r)=>Q6v h2 r h3 hm (t.at (pm:Int)).text (pm:Int));have HKL:=Hh hkl;clear hx hx2 hki hkb hpn pc Qoi hm Qr7 hkl Qu0 Qo6;generalize Qh r s0 (t.at (pm:Int)).text (pm:Int)=q at HST Qoq HKL;cases Qu1:((pm:Int)==k1) with
   |true =>
    rw[Ps (by simpa using Qu1)] at HST;go_wp2_with (go_at_call 198;refine (Qoq.o _ HAT.o.1 (HR.o.kept HAT.o.2).now).mono ?_;rintro e w4 ⟨rfl,hat⟩;have HC4:=Hh hat.1;have HK4:=Hh (HAT.o.2.trans (hat.2.mono fun k _ e=>e▸hat.1.inS));have x4:=hat.1.blk.cell 4 _ rfl;obtain⟨y1,y2⟩:=hat.1.kindCell Qnm.o HKL.o;obtain⟨a3,a0,a1⟩:=HBK.o w4 HK4.o;have hs5:=HC4.o.setK Qnm.o (mi:Int) q.1 HI0.o;rw[Int.toNat_natCast] at hs5;have x5:(w4.setCell ⟨g,mi,none⟩ (.int .i64 q.1)).cell? ⟨cb,4,none⟩=some _:=hs5.blk.cell 4 _ rfl;have HC5:=Hh hs5;have HK5:=Hh (HK4.o.setCell (p:=⟨g,mi,none⟩) (Or.inl HSG.o) (.int .i64 q.1));clear hat hs5);go_round
    case rel=>exact⟨j+1,by omega,by go_num,Hh (HST.o▸⟨HC5.o,HK5.o⟩)⟩
    case measure=>simp[intOf];omega
   |false =>
    rw[Ng (by simpa using Qu1)] at HST
    by_cases hq:q.1=q.2.kindAt (mi:Int)
    ·have t5:(q.1 != q.2.kindAt (mi:Int))=false:=by simp[hq]
     rw[Ps hq] at HST;clear hq;go_wp2_with (go_at_call 198;refine (Qoq.o _ HAT.o.1 (HR.o.kept HAT.o.2).now).mono ?_;rintro e w4 ⟨rfl,hat⟩;have HC4:=Hh hat.1;have HK4:=Hh (HAT.o.2.trans (hat.2.mono fun k _ e=>e▸hat.1.inS));have x4:=hat.1.blk.cell 4 _ rfl;obtain⟨y1,y2⟩:=hat.1.kindCell Qnm.o HKL.o;obtain⟨a3,a0,a1⟩:=HBK.o w4 HK4.o;clear hat);go_round
     case rel=>exact⟨j+1,by omega,by go_num,Hh (HST.o▸⟨HC4.o,HK4.o⟩)⟩
     case measure=>simp[intOf];omega
    ·have t5:(q.1 != q.2.kindAt (mi:Int))=true:=by simpa using hq
     rw[Ng hq] at HST;clear hq;go_wp2_with (first|(go_at_call 198;refine (Qoq.o _ HAT.o.1 (HR.o.kept HAT.o.2).now).mono ?_;rintro e w4 ⟨rfl,hat⟩;have HC4:=Hh hat.1;have HK4:=Hh (HAT.o.2.trans (hat.2.mono fun k _ e=>e▸hat.1.inS));have x4:=hat.1.blk.cell 4 _ rfl;obtain⟨y1,y2⟩:=hat.1.kindCell Qnm.o HKL.o;obtain⟨a3,a0,a1⟩:=HBK.o w4 HK4.o;clear hat)|(go_at_call 92;refine (Zd HC4.o _ _).mono ?_;rintro e w5 ⟨rfl,Qmt⟩));go_round
     case rel=>exact⟨j+1,by omega,by go_num,Hh (HST.o▸⟨Qmt.1,HK4.o.trans (Qmt.2.mono fun k _ e=>e▸Qmt.1.inS)⟩)⟩
     case measure=>simp[intOf];omega
  ·obtain rfl:j=n.kids.length-1:=by omega
   have HE:Hi (D.take (n.kids.length-1)=D):=Hh (by rw[← HDL.o,List.take_length]);go_wp2_with fail;go_returns;obtain rfl:=HX.o;have h9:=HAT.o;rw[HE.o] at h9;exact⟨rfl,⟨_,_,h9.1.mono fun k _ h=>h.1⟩,hKS.trans (h9.2.mono fun k _ h=>h.1)⟩
end
def Q1q (W:CS→Int→CS):Prop:=∀s k,s.locals.length≤(W s k).locals.length
theorem Q1q.kids {W:CS→Int→CS} (hW:Q1q W) (l:List Int) (s:CS):s.locals.length≤(Qa W s l).locals.length:=by
 induction l generalizing s with
 |nil=>exact Nat.le_refl _
 |cons k ks ih =>
  refine Nat.le_trans ?_ (ih _);dsimp only;split
  ·exact hW s k
  ·exact Nat.le_refl _
theorem Jv (s:CS) (a b:Int):(s.fail a b).locals=s.locals:=by unfold CS.fail;split<;>rfl
theorem Q0w (t:Q1) (s:CS) (k:Int):(Qy t s k).locals=s.locals:=by unfold Qy;split;exact Jv _ _ _;rfl
theorem X7 (r:Reg) (s:CS) (a:Int) (b:ByteArray) (c:Int):(J4 r s a b c).2.locals=s.locals:=by unfold J4;split;exact Jv _ _ _;rfl
section
variable {r:Reg} {t:Q1} {S:Nat→Prop} {w:World} {cb rb ro tb tq:Nat} {s:CS} {kv bv lv tv wv:Value} {b:Int} {W:CS→Int→CS}
theorem Qkn (hW:Q0o r t b W) (hO:Y5 t W) (hGr:Q1q W) (hsz:t.nodes.length≤4000) (h:J0 S w cb ⟨rb,ro,none⟩ ⟨tb,tq,none⟩ s kv bv lv tv wv) (hr:Qm S w fun w=>Xy w rb ro r) (ht:Qm S w fun w=>J7 w tb tq t) (hok:Qe t s) (h00:s.code=0) (hF:Jl S w)
  (i:Int) (n:Qc) (nk:Value) (hnk:Qm S w fun w=>Qi w nk n.kids) (hl:∀k∈n.kids,InT t k∧k<b) (a k1:Int) (ks:List Int) (Qmk:n.kids=a::k1::ks) :
  Calls prog 169 #[.pointer (some ⟨cb,0,none⟩),.int .i64 i,.agg #[.int .i64 n.kind,.string n.text,.int .i64 n.i,nk]] w fun e w'=>e=.returned (.tuple #[]) ∧
   AtS S w cb ⟨rb,ro,none⟩ ⟨tb,tq,none⟩ (Q3n r t W s i n) kv bv tv w':=by
 have k0:kidAt n 0=a:=by simp[kidAt,Qmk]
 have hbr:Q3n r t W s i n={Qa W {((Qy t ((J4 r s 3 n.text i).2.setKind a (J4 r s 3 n.text i).1) a).addLocal a) with inHear:=true} (n.kids.drop 1) with inHear:=false,locals:=(Qa W {((Qy t ((J4 r s 3 n.text i).2.setKind a (J4 r s 3 n.text i).1) a).addLocal a) with inHear:=true} (n.kids.drop 1)).locals.dropLast}:=by unfold Q3n;rw[k0]
 generalize Q3n r t W s i n=X at hbr ⊢;have hai:=(hl a (by rw[Qmk];simp)).1;have hk0:Q0 nob w (w.alloc (.cells #[.int .i64 n.kind,.string n.text,.int .i64 n.i,nk] 70)):=(Kr _ _).alloc _;have hb0:=Blk.new w [.int .i64 n.kind,.string n.text,.int .i64 n.i,nk] 70;have hF0:Jl (Qv S w.heap.size) (w.alloc (.cells #[.int .i64 n.kind,.string n.text,.int .i64 n.i,nk] 70)):=fun k hk=>⟨hF k (by simp at hk;omega),by simp at hk;omega⟩
 generalize hW0:w.alloc (.cells #[.int .i64 n.kind,.string n.text,.int .i64 n.i,nk] 70)=W0 at hk0 hF0;replace hb0:Blk W0 w.heap.size [.int .i64 n.kind,.string n.text,.int .i64 n.i,nk] 70:=hW0▸hb0;have Qms:∀k,k<W0.heap.size→Qv S w.heap.size k→S k:=fun _ _ h=>h.1
 have h0:J0 (Qv S w.heap.size) W0 cb ⟨rb,ro,none⟩ ⟨tb,tq,none⟩ s kv bv lv tv wv:=(h.mono fun k hk hS=>⟨hS,by omega⟩).nobk hk0;have hr0:=(hr.kept (hk0.ofNob S)).mono Qms;have ht0:=(ht.kept (hk0.ofNob S)).mono Qms;have hn0:=(hnk.kept (hk0.ofNob S)).mono Qms;obtain⟨A,p,o,c,rfl,ll,lc,hA,Qmq⟩:=hn0.ints;have Qon:2≤n.kids.length:=by rw[Qmk];simp
 obtain⟨rfl,hpS⟩:=hA (by omega);have Qn9:0<t.nodes.length:=by have:=hai.1;have:=hai.2;omega
 obtain⟨tA,nb,no,nc,tc,tl,tlc,tS,tA',_,tn⟩:=ht0.tree;obtain⟨rfl,nS⟩:=tA' Qn9;obtain⟨g,kc,hkv,Qmy,hSg⟩:=h0.kindRow hok Qn9;obtain⟨ma,rfl,hpn⟩:=Q1.at_lt hai;have hma:(ma:Int)<t.nodes.length:=hai.2;obtain⟨pv,pc,_⟩:=tn ma _ hpn;have c3:=hb0.cell 3 _ rfl;have c1:=hb0.cell 1 _ rfl
 have hbk:∀W',Q0 (Qv S w.heap.size) W0 W'→W'.cell? ⟨w.heap.size,3,none⟩=some (.slice (some ⟨p,o,none⟩) n.kids.length c)∧W'.cell? ⟨p,o,none⟩=some (.int .i64 (ma:Int))∧W'.cell? ⟨w.heap.size,1,none⟩=some (.string n.text)∧W'.cell? ⟨tb,tq,none⟩=some (.slice (some ⟨nb,no,none⟩) t.nodes.length nc)∧W'.cell? ⟨nb,no+ma*4+1,none⟩=some (.string (t.at (ma:Int)).text):=fun W' hk =>
  ⟨hk.cell (fun hh=>hh.2 rfl) c3,by have:=Qmq 0 (ma:Int) (by rw[Qmk];rfl) W' hk;simpa using this,hk.cell (fun hh=>hh.2 rfl) c1,tc W' hk,(pc W' hk).2.1⟩
 obtain⟨_,e0',_⟩:=hbk W0 (Kr _ _);have Qo8:=hok.few h00;have hnm:=hok.named r 3 n.text i;have Qpi:=hnm.setKind (ma:Int) (J4 r s 3 n.text i).1;have hlc:(Qy t ((J4 r s 3 n.text i).2.setKind (ma:Int) (J4 r s 3 n.text i).1) (ma:Int)).locals=s.locals:=by rw[Q0w];exact X7 _ _ _ _ _
 have Qu2:=Qpi.twice (ma:Int);have Qpk:=Qu2.addLocal (ma:Int) hai (fun hc=>Q8y hc);have Qu3:Qe t {((Qy t ((J4 r s 3 n.text i).2.setKind (ma:Int) (J4 r s 3 n.text i).1) (ma:Int)).addLocal (ma:Int)) with inHear:=true}:=⟨Qpk.kinds,Qpk.bind,Qpk.locals,Qpk.tops,Qpk.top,Qpk.nodup,Qpk.withs⟩;have HBK:=Hh hbk;have HC:=Hh Qmq;have H0:=Hh h0;have HR:=Hh hr0;have HT:=Hh ht0;have HF:=Hh hF0;have Qp9:=Hh Qu3;have Qpj:=Hh Qpi.locals;have HNM:=Hh hnm.kinds;have HL:=Hh hl;have HX:=Hh hbr;have Qmr:(1:Int)≤n.kids.length:=by omega
 have Qna:0<n.kids.length:=by omega
 have hc1:¬ c=1:=by omega
 have hKS:Q0 S w W0:=hk0.ofNob S;have Qnm:=Hh Qmy;have HSG:=Hh hSg;have HI0:=Hh hai.1;have HLC:=Hh hlc;have Qp6:Hi (s.locals.length≤4000):=Hh (by omega);have x4:W0.cell? ⟨cb,4,none⟩=some kv:=h0.blk.cell 4 _ rfl;have HNC:=Hh (fun w2 (h2:J0 (Qv S w.heap.size) w2 cb ⟨rb,ro,none⟩ ⟨tb,tq,none⟩ s kv bv lv tv wv) (h3:Xy w2 rb ro r)=>Q2m h2 r h3 3 n.text i);generalize hQ:J4 r s 3 n.text i=q at HX Qp9 Qpj HNM HNC HLC;have Qyz:(0:Int)≤ma:=by omega
 clear hb0 Qms h0 hr0 ht0 hn0 Qmq hF0 h hr ht hnk hl Qmk hok h00 hF hA hbk hai tc tn tA' Qmy hSg Qn9 pc hpn hbr Qpi Qu2 Qpk Qu3 hnm hQ hlc k0 Qo8 c3 hsz Qon;subst hkv;go_enter func169,ntmps169;go_upto_region 2 with fail
 have y1:=HBK.o W0 (Kr _ _);go_region_held3 (fun W=>W.cell? ⟨cb,4,none⟩=some (.slice (some ⟨g,0,none⟩) t.nodes.length kc)∧W.cell? ⟨w.heap.size,1,none⟩=some (.string n.text)) (first|exact⟨x4,y1.2.2.1⟩|exact⟨hat.1.blk.cell 4 _ rfl,(HBK.o _ Qo3).2.2.1⟩|exact⟨HC3.o.blk.cell 4 _ rfl,(HBK.o _ HK3.o).2.2.1⟩) ((first|(go_at_call 199;refine (HNC.o _ (H0.o.drew) (HR.o.kept (Kr _ _).drew).now).mono ?_;rintro e w2 ⟨rfl,Qnx⟩;have hat:Q2t (Qv S w.heap.size) W0 cb ⟨rb,ro,none⟩ ⟨tb,tq,none⟩ q.2 (.slice (some ⟨g,0,none⟩) t.nodes.length kc) bv lv tv wv w2:=⟨Qnx.1,Qnx.2.undrew⟩;have Qo3:Q0 (Qv S w.heap.size) W0 w2:=hat.2.mono fun k _ e=>e▸hat.1.inS;obtain⟨z1,z2⟩:=hat.1.kindCell (mi:=ma) Qnm.o (by rw[HNM.o];omega);have hs3:=hat.1.setK Qnm.o (ma:Int) q.1 HI0.o;rw[Int.toNat_natCast] at hs3;have HC3:=Hh hs3;have HK3:=Hh (Qo3.setCell (p:=⟨g,ma,none⟩) (Or.inl HSG.o) (.int .i64 q.1));clear hs3;dsimp only)));have y3:=HBK.o _ HK3.o;have x1:(w2.setCell ⟨g,ma,none⟩ (.int .i64 q.1)).cell? ⟨cb,1,none⟩=some (.pointer (some ⟨tb,tq,none⟩)):=HC3.o.blk.cell 1 _ rfl;have x6:(w2.setCell ⟨g,ma,none⟩ (.int .i64 q.1)).cell? ⟨cb,6,none⟩=some lv:=HC3.o.blk.cell 6 _ rfl;obtain⟨_,_,_,y3d,y3e⟩:=y3;clear hat Qo3 z1 z2 y1 x4 c1 e0';generalize hW3:w2.setCell ⟨g,ma,none⟩ (.int .i64 q.1)=w3 at HC3 HK3 x1 x6 y3d y3e;clear hW3;generalize Qpi:q.2.setKind (ma:Int) q.1=st1 at HX Qp9 Qpj HLC HC3;clear Qpi HNC HNM
 by_cases hn:0≤Q2 t st1.locals (t.at (ma:Int)).text
 ·have t1:decide (0≤Q2 t st1.locals (t.at (ma:Int)).text)=true:=by simpa using hn
  have HTW:Hi (Qy t st1 (ma:Int)=st1.fail 2 (ma:Int)):=Hh (by unfold Qy;rw[Ps hn]);clear hn;go_upto_region 5 with (first|(go_at_call 196;refine (Q0a HC3.o t (HT.o.kept HK3.o).now Qpj.o _).mono ?_;rintro e w1 ⟨rfl,rfl⟩)|(go_at_call 92;refine (Zd HC3.o _ _).mono ?_;rintro e w4 ⟨rfl,hat⟩;have HC4:Hi (J0 (Qv S w.heap.size) w4 cb ⟨rb,ro,none⟩ ⟨tb,tq,none⟩ (Qy t st1 (ma:Int)) (.slice (some ⟨g,0,none⟩) t.nodes.length kc) bv lv tv wv):=Hh (HTW.o▸hat.1);have HK4:=Hh (HK3.o.trans (hat.2.mono fun k _ e=>e▸hat.1.inS));have x64:w4.cell? ⟨cb,6,none⟩=some lv:=hat.1.blk.cell 6 _ rfl;clear hat))
  go_upto_region 7 with (at_builtin;refine J1 (Qv S w.heap.size) rfl _ _ 26 3 (.int .i64 0) 8 rfl underlying26 (by kernel_rfl) rfl lv (Q4 s.locals) (.int .i64 (ma:Int)) rfl rfl (by simp) rfl (HLC.o▸HC4.o.l) (HF.o.kept HK4.o) (by have:=Qp6.o;simp[Q4];omega) (by have:=Qp6.o;simp[Q4];omega) ?_;intro nv1 w5 Qmv hk2 hat;obtain⟨nA2,nc2,rfl⟩:=Qmv.len;rw[show (Q4 s.locals++[Value.int .i64 (ma:Int)]).length=(Q4 s.locals).length+1 from by simp] at Qmv hat;have hb5:=HC4.o.blk.kept hk2 (HC4.o.noCb.2.2.1);have c65:=hb5.cell 6 _ rfl;have f65:=hb5.free 6;have f115:=hb5.free 11;have c115:=hb5.cell 11 _ rfl)
  have h6:=HC4.o.swapL (l1:=s.locals++[(ma:Int)]) (by have:=Qmv;rwa [show Q4 s.locals++[.int .i64 (ma:Int)]=Q4 (s.locals++[(ma:Int)]) from by simp[Q4]] at this) hk2 (hat.elim .inl fun h=>.inr (.inr h));have h7:=h6.setHear true;have hk7:=((HK4.o.trans (hk2.mono fun k _ hk=>HC4.o.l.2 k hk)).setCell (p:=⟨cb,6,none⟩) (Or.inl HC4.o.inS) (.slice nA2 ((Q4 s.locals).length+1) nc2)).setCell (p:=⟨cb,11,none⟩) (Or.inl HC4.o.inS) (.bool true);have y7:=HBK.o _ hk7
  have hst:({({Qy t st1 (ma:Int) with locals:=s.locals++[(ma:Int)]}:CS) with inHear:=true}:CS)={((Qy t st1 (ma:Int)).addLocal (ma:Int)) with inHear:=true}:=by
   unfold CS.addLocal;rw[HLC.o]
  rw[hst] at h7;have HC7:=Hh h7;have HK7:=Hh hk7;obtain⟨y7a,y7b,_⟩:=y7;clear h6 h7 hk7 hst hb5 Qmv hat hk2 c65 f65 f115 c115;generalize hW7:(w5.setCell ⟨cb,6,none⟩ (.slice nA2 ((Q4 s.locals).length+1) nc2)).setCell ⟨cb,11,none⟩ (.bool true)=w7 at HC7 HK7 y7a y7b ⊢;clear hW7;have HGR:=Hh (Nat.le_trans (show 1≤({((Qy t st1 (ma:Int)).addLocal (ma:Int)) with inHear:=true}:CS).locals.length by show 1≤((Qy t st1 (ma:Int)).locals++[(ma:Int)]).length;simp) (Q1q.kids hGr (n.kids.drop 1) {((Qy t st1 (ma:Int)).addLocal (ma:Int)) with inHear:=true}));generalize hS4:({((Qy t st1 (ma:Int)).addLocal (ma:Int)) with inHear:=true}:CS)=st4 at HX Qp9 HC7 HGR;go_upto_region 9 with (go_at_call 93;refine (Xv hW hO HC7.o (HR.o.kept HK7.o) (HT.o.kept HK7.o) Qp9.o (HF.o.kept HK7.o) _ (n.kids.drop 1) ((Qm.drop HC.o ll (fun _=>rfl) rfl (by omega)).kept HK7.o) (fun k hk=>HL.o k (List.mem_of_mem_drop hk))).mono ?_;rintro e w8 ⟨rfl,⟨lv8,wv8,hc8⟩,hk8⟩;have f118:=hc8.blk.free 11;have c118:=hc8.blk.cell 11 _ rfl)
  obtain⟨lA,lc8,Qnv⟩:=hc8.l.len;rw[show (Q4 (Qa W st4 (n.kids.drop 1)).locals).length=(Qa W st4 (n.kids.drop 1)).locals.length from by simp[Q4]] at Qnv;have h9:=hc8.setHear false;generalize hS5:Qa W st4 (n.kids.drop 1)=st5 at HX HGR h9 Qnv hc8;have f69:=h9.blk.free 6;have c69:(w8.setCell ⟨cb,11,none⟩ (.bool false)).cell? ⟨cb,6,none⟩=some lv8:=h9.blk.cell 6 _ rfl;obtain⟨m8,hm8⟩:∃m:Nat,m=st5.locals.length-1:=⟨_,rfl⟩;obtain⟨lA',g8,lc8',Qpy,Qr8,Qr9,_,_⟩:=h9.l.openI;have Qsp:st5.locals.length≤9223372036854775807:=Qr8;have Qra:IntKind.i64.wrap ((st5.locals.length:Int)-1)=(m8:Int):=by have:=HGR.o;rw[IntKind.wrap_i64];omega
  have Qrb:wrap64 ((st5.locals.length:Int)-1)=(m8:Int):=by have:=HGR.o;unfold wrap64;omega
  have Qwo:st5.locals.length≤lc8:=by rw[Qnv] at Qpy;injection Qpy with _ _ e;rw[e];exact Qr9
  have Qwp:(m8:Int)≤(lc8:Int):=by omega
  have htk:=h9.l.take (n:=st5.locals.length-1) (by rw[Qnv];show Value.slice lA st5.locals.length lc8=Value.slice lA (Q4 st5.locals).length lc8;simp[Q4]) (by simp[Q4]);have h10:=h9.swapL (l1:=st5.locals.dropLast) (u:=.slice lA m8 lc8) (by rw[hm8,List.dropLast_eq_take];have:=htk;rwa [show (Q4 st5.locals).take (st5.locals.length-1)=Q4 (st5.locals.take (st5.locals.length-1)) from by simp[Q4,List.map_take]] at this) (Kr _ _) (by left;rw[Qnv];cases lA<;>rfl);have Qoj:=Hh h10;have hk9:=(((HK7.o.trans hk8)).setCell (p:=⟨cb,11,none⟩) (Or.inl hc8.inS) (.bool false)).setCell (p:=⟨cb,6,none⟩) (Or.inl hc8.inS) (.slice lA m8 lc8);have HK9:=Hh hk9;subst Qnv;clear h9 hc8 hk8 hk9 Qpy htk h10 f118 c118 HGR hm8 Qr8 Qsp;generalize hW9:w8.setCell ⟨cb,11,none⟩ (.bool false)=w9 at Qoj HK9 f69 c69 ⊢;clear hW9;go_region;go_wp2_with fail;go_returns;obtain rfl:=HX.o;exact⟨rfl,⟨_,_,(Qoj.o.drew).mono fun k _ h=>h.1⟩,hKS.trans ((HK9.o.drew).mono fun k _ h=>h.1)⟩
 ·have t1:decide (0≤Q2 t st1.locals (t.at (ma:Int)).text)=false:=by simpa using hn
  have HTW:Hi (Qy t st1 (ma:Int)=st1):=Hh (by unfold Qy;rw[Ng hn]);clear hn;have HC4:Hi (J0 (Qv S w.heap.size) w3 cb ⟨rb,ro,none⟩ ⟨tb,tq,none⟩ (Qy t st1 (ma:Int)) (.slice (some ⟨g,0,none⟩) t.nodes.length kc) bv lv tv wv):=Hh (HTW.o.symm▸HC3.o);have HK4:=HK3;have x64:=x6;go_upto_region 5 with (first|(go_at_call 196;refine (Q0a HC3.o t (HT.o.kept HK3.o).now Qpj.o _).mono ?_;rintro e w1 ⟨rfl,rfl⟩)|(go_at_call 92;refine (Zd HC3.o _ _).mono ?_;rintro e w4 ⟨rfl,hat⟩;have HC4:Hi (J0 (Qv S w.heap.size) w4 cb ⟨rb,ro,none⟩ ⟨tb,tq,none⟩ (Qy t st1 (ma:Int)) (.slice (some ⟨g,0,none⟩) t.nodes.length kc) bv lv tv wv):=Hh (HTW.o▸hat.1);have HK4:=Hh (HK3.o.trans (hat.2.mono fun k _ e=>e▸hat.1.inS));have x64:w4.cell? ⟨cb,6,none⟩=some lv:=hat.1.blk.cell 6 _ rfl;clear hat))
  go_upto_region 7 with (at_builtin;refine J1 (Qv S w.heap.size) rfl _ _ 26 3 (.int .i64 0) 8 rfl underlying26 (by kernel_rfl) rfl lv (Q4 s.locals) (.int .i64 (ma:Int)) rfl rfl (by simp) rfl (HLC.o▸HC4.o.l) (HF.o.kept HK4.o) (by have:=Qp6.o;simp[Q4];omega) (by have:=Qp6.o;simp[Q4];omega) ?_;intro nv1 w5 Qmv hk2 hat;obtain⟨nA2,nc2,rfl⟩:=Qmv.len;rw[show (Q4 s.locals++[Value.int .i64 (ma:Int)]).length=(Q4 s.locals).length+1 from by simp] at Qmv hat;have hb5:=HC4.o.blk.kept hk2 (HC4.o.noCb.2.2.1);have c65:=hb5.cell 6 _ rfl;have f65:=hb5.free 6;have f115:=hb5.free 11;have c115:=hb5.cell 11 _ rfl)
  have h6:=HC4.o.swapL (l1:=s.locals++[(ma:Int)]) (by have:=Qmv;rwa [show Q4 s.locals++[.int .i64 (ma:Int)]=Q4 (s.locals++[(ma:Int)]) from by simp[Q4]] at this) hk2 (hat.elim .inl fun h=>.inr (.inr h));have h7:=h6.setHear true;have hk7:=((HK4.o.trans (hk2.mono fun k _ hk=>HC4.o.l.2 k hk)).setCell (p:=⟨cb,6,none⟩) (Or.inl HC4.o.inS) (.slice nA2 ((Q4 s.locals).length+1) nc2)).setCell (p:=⟨cb,11,none⟩) (Or.inl HC4.o.inS) (.bool true);have y7:=HBK.o _ hk7
  have hst:({({Qy t st1 (ma:Int) with locals:=s.locals++[(ma:Int)]}:CS) with inHear:=true}:CS)={((Qy t st1 (ma:Int)).addLocal (ma:Int)) with inHear:=true}:=by
   unfold CS.addLocal;rw[HLC.o]
  rw[hst] at h7;have HC7:=Hh h7;have HK7:=Hh hk7;obtain⟨y7a,y7b,_⟩:=y7;clear h6 h7 hk7 hst hb5 Qmv hat hk2 c65 f65 f115 c115;generalize hW7:(w5.setCell ⟨cb,6,none⟩ (.slice nA2 ((Q4 s.locals).length+1) nc2)).setCell ⟨cb,11,none⟩ (.bool true)=w7 at HC7 HK7 y7a y7b ⊢;clear hW7;have HGR:=Hh (Nat.le_trans (show 1≤({((Qy t st1 (ma:Int)).addLocal (ma:Int)) with inHear:=true}:CS).locals.length by show 1≤((Qy t st1 (ma:Int)).locals++[(ma:Int)]).length;simp) (Q1q.kids hGr (n.kids.drop 1) {((Qy t st1 (ma:Int)).addLocal (ma:Int)) with inHear:=true}));generalize hS4:({((Qy t st1 (ma:Int)).addLocal (ma:Int)) with inHear:=true}:CS)=st4 at HX Qp9 HC7 HGR;go_upto_region 9 with (go_at_call 93;refine (Xv hW hO HC7.o (HR.o.kept HK7.o) (HT.o.kept HK7.o) Qp9.o (HF.o.kept HK7.o) _ (n.kids.drop 1) ((Qm.drop HC.o ll (fun _=>rfl) rfl (by omega)).kept HK7.o) (fun k hk=>HL.o k (List.mem_of_mem_drop hk))).mono ?_;rintro e w8 ⟨rfl,⟨lv8,wv8,hc8⟩,hk8⟩;have f118:=hc8.blk.free 11;have c118:=hc8.blk.cell 11 _ rfl)
  obtain⟨lA,lc8,Qnv⟩:=hc8.l.len;rw[show (Q4 (Qa W st4 (n.kids.drop 1)).locals).length=(Qa W st4 (n.kids.drop 1)).locals.length from by simp[Q4]] at Qnv;have h9:=hc8.setHear false;generalize hS5:Qa W st4 (n.kids.drop 1)=st5 at HX HGR h9 Qnv hc8;have f69:=h9.blk.free 6;have c69:(w8.setCell ⟨cb,11,none⟩ (.bool false)).cell? ⟨cb,6,none⟩=some lv8:=h9.blk.cell 6 _ rfl;obtain⟨m8,hm8⟩:∃m:Nat,m=st5.locals.length-1:=⟨_,rfl⟩;obtain⟨lA',g8,lc8',Qpy,Qr8,Qr9,_,_⟩:=h9.l.openI;have Qsp:st5.locals.length≤9223372036854775807:=Qr8;have Qra:IntKind.i64.wrap ((st5.locals.length:Int)-1)=(m8:Int):=by have:=HGR.o;rw[IntKind.wrap_i64];omega
  have Qrb:wrap64 ((st5.locals.length:Int)-1)=(m8:Int):=by have:=HGR.o;unfold wrap64;omega
  have Qwo:st5.locals.length≤lc8:=by rw[Qnv] at Qpy;injection Qpy with _ _ e;rw[e];exact Qr9
  have Qwp:(m8:Int)≤(lc8:Int):=by omega
  have htk:=h9.l.take (n:=st5.locals.length-1) (by rw[Qnv];show Value.slice lA st5.locals.length lc8=Value.slice lA (Q4 st5.locals).length lc8;simp[Q4]) (by simp[Q4]);have h10:=h9.swapL (l1:=st5.locals.dropLast) (u:=.slice lA m8 lc8) (by rw[hm8,List.dropLast_eq_take];have:=htk;rwa [show (Q4 st5.locals).take (st5.locals.length-1)=Q4 (st5.locals.take (st5.locals.length-1)) from by simp[Q4,List.map_take]] at this) (Kr _ _) (by left;rw[Qnv];cases lA<;>rfl);have Qoj:=Hh h10;have hk9:=(((HK7.o.trans hk8)).setCell (p:=⟨cb,11,none⟩) (Or.inl hc8.inS) (.bool false)).setCell (p:=⟨cb,6,none⟩) (Or.inl hc8.inS) (.slice lA m8 lc8);have HK9:=Hh hk9;subst Qnv;clear h9 hc8 hk8 hk9 Qpy htk h10 f118 c118 HGR hm8 Qr8 Qsp;generalize hW9:w8.setCell ⟨cb,11,none⟩ (.bool false)=w9 at Qoj HK9 f69 c69 ⊢;clear hW9;go_region;go_wp2_with fail;go_returns;obtain rfl:=HX.o;exact⟨rfl,⟨_,_,(Qoj.o.drew).mono fun k _ h=>h.1⟩,hKS.trans ((HK9.o.drew).mono fun k _ h=>h.1)⟩
end
theorem J0.aside {S T:Nat→Prop} {w w':World} {cb:Nat} {ra ta:Addr} {s:CS} {kv bv lv tv wv:Value} (h:J0 S w cb ra ta s kv bv lv tv wv) (hk:Q0 T w w') (hT:∀k,T k→¬ S k):J0 S w' cb ra ta s kv bv lv tv wv :=
 ⟨h.blk.kept hk (fun hh=>hT _ hh h.inS),h.inS,h.k.kept hk (fun k hv hh=>hT k hh (h.k.2 k hv)),h.b.kept hk (fun k hv hh=>hT k hh (h.b.2 k hv)),h.l.kept hk (fun k hv hh=>hT k hh (h.l.2 k hv)),h.t.kept hk (fun k hv hh=>hT k hh (h.t.2 k hv)),h.w.kept hk (fun k hv hh=>hT k hh (h.w.2 k hv)),h.dis⟩
def Q8r (S:Nat→Prop) (v:Value):Nat→Prop:=fun k=>S k∧v.ownBlock≠some k
section
variable {r:Reg} {t:Q1} {S:Nat→Prop} {w:World} {cb rb ro tb tq:Nat} {s:CS} {kv bv lv tv wv:Value} {b:Int} {W:CS→Int→CS}
theorem Qj2 (hW:Q0o r t b W) (hO:Y5 t W) (h:J0 S w cb ⟨rb,ro,none⟩ ⟨tb,tq,none⟩ s kv bv lv tv wv) (hr:Qm S w fun w=>Xy w rb ro r) (ht:Qm S w fun w=>J7 w tb tq t) (hok:Qe t s) (hF:Jl S w)
  (n:Qc) (hsm:n.kids.length≤1048576) (nk:Value) (hnk:Qm S w fun w=>Qi w nk n.kids) (hl:∀k∈n.kids,InT t k∧(∃e es,(t.at k).kids=e::es)∧∀x∈(t.at k).kids,InT t x∧x<b) :
  Calls prog 170 #[.pointer (some ⟨cb,0,none⟩),.agg #[.int .i64 n.kind,.string n.text,.int .i64 n.i,nk]] w fun e w'=>e=.returned (.tuple #[]) ∧
   AtS S w cb ⟨rb,ro,none⟩ ⟨tb,tq,none⟩ (Xj r t W n.kids [] s) kv bv tv w':=by
 generalize hX:Xj r t W n.kids [] s=X;have HSM:=Hh hsm;clear hsm;have hk0:Q0 nob w (w.alloc (.cells #[.int .i64 n.kind,.string n.text,.int .i64 n.i,nk] 70)):=(Kr _ _).alloc _;have hb0:=Blk.new w [.int .i64 n.kind,.string n.text,.int .i64 n.i,nk] 70;have hF0:Jl (Qv S w.heap.size) (w.alloc (.cells #[.int .i64 n.kind,.string n.text,.int .i64 n.i,nk] 70)):=fun k hk=>⟨hF k (by simp at hk;omega),by simp at hk;omega⟩
 have Qor:(w.alloc (.cells #[.int .i64 n.kind,.string n.text,.int .i64 n.i,nk] 70)).heap.size=w.heap.size+1:=by simp
 generalize hW0:w.alloc (.cells #[.int .i64 n.kind,.string n.text,.int .i64 n.i,nk] 70)=W0 at hk0 hF0 Qor;replace hb0:Blk W0 w.heap.size [.int .i64 n.kind,.string n.text,.int .i64 n.i,nk] 70:=hW0▸hb0;have Qms:∀k,k<W0.heap.size→Qv S w.heap.size k→S k:=fun _ _ h=>h.1
 have h0:J0 (Qv S w.heap.size) W0 cb ⟨rb,ro,none⟩ ⟨tb,tq,none⟩ s kv bv lv tv wv:=(h.mono fun k hk hS=>⟨hS,by omega⟩).nobk hk0;have hr0:=(hr.kept (hk0.ofNob S)).mono Qms;have ht0:=(ht.kept (hk0.ofNob S)).mono Qms;have hn0:=(hnk.kept (hk0.ofNob S)).mono Qms;obtain⟨A,p,o,c,rfl,ll,lc,hA,Qmq⟩:=hn0.ints;obtain⟨tA,nb,no,nc,tc,tl,tlc,tS,tA',_,tn⟩:=ht0.tree;have c3:=hb0.cell 3 _ rfl;have hN0:Qf (Qv S w.heap.size) 9 (W0.alloc (.cells #[] 9)) (.slice (some ⟨W0.heap.size,0,none⟩) 0 0) (strs []):=Qf.lit _ _ _ [] (hF0 _ (Nat.le_refl _)) (by simp) rfl rfl rfl;have hK1:Q0 nob W0 (W0.alloc (.cells #[] 9)):=(Kr _ _).alloc _
 have hC1:J0 (Q8r (Qv S w.heap.size) (.slice (some ⟨W0.heap.size,0,none⟩) 0 0)) (W0.alloc (.cells #[] 9)) cb ⟨rb,ro,none⟩ ⟨tb,tq,none⟩ s kv bv lv tv wv :=
  (h0.mono fun k hk hS=>⟨hS,by simp[Value.ownBlock];omega⟩).nobk hK1
 have c3':(W0.alloc (.cells #[] 9)).cell? ⟨w.heap.size,3,none⟩=some (.slice A n.kids.length c):=hK1.cell (fun h=>h) c3;have HX:=Hh hX;have HC:=Hh Qmq;have HA:=Hh hA;have HR:=Hh hr0;have HT:=Hh ht0;have HTC:=Hh tc;have HTN:=Hh tn;have HTA:=Hh tA';have HF:=Hh hF0;have HOK:=Hh hok;have HL:=Hh hl;have HN0:=Hh hN0;have HC1:=Hh hC1;have Qwq:=Hh hK1;have hKS:Q0 S w W0:=hk0.ofNob S;have HB0:=Hh hb0;clear hb0 Qms h0 hr0 ht0 hn0 Qmq hF0 h hr ht hnk hl hok hF hA tc tn tA' hX hN0 hC1 hK1 Qor;go_enter func170,ntmps170;go_wp2_with fail
 go_loopw [4,6,7,8,13] (fun nv u6 u7 u8 ci wr=>∃(j:Nat) (sj:CS) (lv1 wv1:Value),j≤n.kids.length∧ci=.int .i64 j∧Hi (Qf (Qv S w.heap.size) 9 wr nv (strs (Qb t (n.kids.take j))) ∧
  J0 (Q8r (Qv S w.heap.size) nv) wr cb ⟨rb,ro,none⟩ ⟨tb,tq,none⟩ sj kv bv lv1 tv wv1∧Q0 (Qv S w.heap.size) W0 wr∧Qe t sj∧Xj r t W n.kids [] s=Xj r t W (n.kids.drop j) (Qb t (n.kids.take j)) sj)) (fun _ _ _ _ ci _=>n.kids.length-(intOf ci).toNat)
 case atStart=>exact⟨0,s,lv,wv,Nat.zero_le _,rfl,Hh ⟨HN0.o,HC1.o,Qwq.o.ofNob _,HOK.o,rfl⟩⟩
 case round =>
  obtain⟨j,sj,lv1,wv1,hj,rfl,HAT⟩:=hrel;obtain⟨wo,rfl⟩:∃wo:World,wo=wr:=⟨_,rfl⟩
  by_cases hlt:j<n.kids.length
  ·obtain⟨k,hx⟩:=Q3 hlt
   obtain⟨hki,⟨e0,es,hek⟩,hkx⟩:=HL.o k (Mg hx);obtain⟨rfl,_⟩:=HA.o (by omega);obtain⟨Qmy,hch,Qo3,Qs4,hst⟩:=HAT.o;obtain⟨nA,nc1,rfl⟩:=Qmy.len;have q0:=HC.o j k hx wo Qo3;obtain⟨pm,rfl,hpn⟩:=Q1.at_lt hki;have hpl:(pm:Int)<t.nodes.length:=hki.2;obtain⟨rfl,nS⟩:=HTA.o (by omega);obtain⟨pv,pc,pst⟩:=HTN.o pm _ hpn;obtain⟨pA,pb,po,pcap,rfl,pl,plc,pA',pcl⟩:=pst.ints;have q1:wo.cell? ⟨cb,1,none⟩=some (.pointer (some ⟨tb,tq,none⟩)):=hch.blk.cell 1 _ rfl;have q2:=HTC.o wo Qo3;obtain⟨q3,q4,q5,q6⟩:=pc wo Qo3;rw[Qd hx] at hst;simp only[Xj] at hst;have htx:Qb t (n.kids.take j)++[(t.at (pm:Int)).text]=Qb t (n.kids.take (j+1)):=by rw[Jy hx];simp[Qb]
   rw[htx] at hst;have hnl:(Qb t (n.kids.take j)).length=j:=by simp[Qb];omega
   generalize hNM:Qb t (n.kids.take j)=names at Qmy hch hst hnl htx HAT;have Qrc:Q0 nob wo (wo.alloc (.cells #[.int .i64 (t.at (pm:Int)).kind,.string (t.at (pm:Int)).text,.int .i64 (t.at (pm:Int)).i,.slice pA (t.at (pm:Int)).kids.length pcap] 70)):=(Kr _ _).alloc _;have hbx:=Blk.new wo [.int .i64 (t.at (pm:Int)).kind,.string (t.at (pm:Int)).text,.int .i64 (t.at (pm:Int)).i,.slice pA (t.at (pm:Int)).kids.length pcap] 70;have Qsq:(wo.alloc (.cells #[.int .i64 (t.at (pm:Int)).kind,.string (t.at (pm:Int)).text,.int .i64 (t.at (pm:Int)).i,.slice pA (t.at (pm:Int)).kids.length pcap] 70)).heap.size=wo.heap.size+1:=by simp
   generalize hWx:wo.alloc (.cells #[.int .i64 (t.at (pm:Int)).kind,.string (t.at (pm:Int)).text,.int .i64 (t.at (pm:Int)).i,.slice pA (t.at (pm:Int)).kids.length pcap] 70)=wx at Qrc Qsq;replace hbx:Blk wx wo.heap.size [.int .i64 (t.at (pm:Int)).kind,.string (t.at (pm:Int)).text,.int .i64 (t.at (pm:Int)).i,.slice pA (t.at (pm:Int)).kids.length pcap] 70:=hWx▸hbx;generalize hSx:Qv (Q8r (Qv S w.heap.size) (.slice nA (strs names).length nc1)) wo.heap.size=Sx;have Qqk:∀k,Sx k→Qv S w.heap.size k:=fun k hk=>by rw[← hSx] at hk;exact hk.1.1
   have Qu4:∀k,Sx k→(Value.slice nA (strs names).length nc1).ownBlock≠some k:=fun k hk=>by rw[← hSx] at hk;exact hk.1.2
   have Qu5:∀k,Sx k→k≠wo.heap.size:=fun k hk=>by rw[← hSx] at hk;exact hk.2
   have Qu6:J0 Sx wx cb ⟨rb,ro,none⟩ ⟨tb,tq,none⟩ sj kv bv lv1 tv wv1:=(hch.mono fun k hk hS=>by rw[← hSx];exact⟨hS,by omega⟩).nobk Qrc
   have hFx:Jl Sx wx:=fun k hk=>by
    rw[← hSx]
    refine⟨⟨HF.o.kept Qo3 k (by omega),fun e=>?_⟩,by omega⟩
    have:=Qmy.lt k e;omega
   have Qod:Q0 (Qv S w.heap.size) W0 wx:=Qo3.trans (Qrc.ofNob _);have hrx:=(HR.o.kept Qod).mono (fun k _=>Qqk k);have htx':=(HT.o.kept Qod).mono (fun k _=>Qqk k);have hpx:=(pst.kept Qod).mono (fun k _=>Qqk k);have g3:=hbx.cell 3 _ rfl;have Qnn:=Qe.kids hO (t.at (pm:Int)).kids (fun x hx=>(hkx x hx).1) Qs4;have Qwr:=Hh Qu6;have HFX:=Hh hFx;have HRX:=Hh hrx;have HTX:=Hh htx';have HPX:=Hh hpx;have Qws:0<(t.at (pm:Int)).kids.length:=by rw[hek];simp
   obtain⟨rfl,Qu7⟩:=pA' Qws;have HE9:=Hh (hkx e0 (by rw[hek];simp)).1;have HPE:Hi (∀W,Q0 Sx wx W→W.cell? ⟨pb,po,none⟩=some (.int .i64 e0)):=Hh (fun W hk=>by have:=pcl 0 e0 (by rw[hek];rfl) W (Qod.trans (hk.mono fun k _ h=>Qqk k h));simpa using this);have Qu8:Hi (kidAt (t.at (pm:Int)) 0=e0):=Hh (by simp[kidAt,hek]);have Qp8:=Hh Qs4;have Qn7:=Hh Qnn;have HKX:=Hh hkx;have HST:=Hh (HX.o.symm.trans hst);have HBX:=Hh hbx;have HS1:=Hh Qqk;have HS2:=Hh Qu4;have HS3:=Hh Qu5;have HEK:=Hh hek;have Qnm:=Hh Qmy;have Qos:=Hh Qod;have Qwt:=Hh Qrc;have HNL:=Hh hnl;have Qu9:=Hh htx;have Qz0:=Hh Qo3;have Qz1:=Hh Qsq;clear Qsq pcl pA' hx hki hkx hek hpn pc pst hch Qmy Qo3 Qs4 hst htx hnl hbx Qu6 hFx hrx htx' hpx Qnn Qod Qqk Qu4 Qu5 hSx HAT hNM Qrc;go_upto_region 7 with (go_at_call 93;refine (Xv hW hO Qwr.o HRX.o HTX.o Qp8.o HFX.o _ (t.at (pm:Int)).kids HPX.o (fun x hx=>HKX.o x hx)).mono ?_;rintro e w2 ⟨rfl,⟨lv2,wv2,hc2⟩,hk2⟩;have HC2:=Hh hc2;have HK2:=Hh hk2;have z2:=hc2.blk.cell 2 _ rfl;clear hc2 hk2)
   have y1:=(HBX.o.kept HK2.o (fun hh=>HS3.o _ hh rfl)).cell 1 _ rfl;have y3:=(HBX.o.kept HK2.o (fun hh=>HS3.o _ hh rfl)).cell 3 _ rfl;generalize hS1:Qa W sj (t.at (pm:Int)).kids=s1 at HST Qn7 HC2 z2;have Qua:=Hh (HBX.o.kept HK2.o (fun hh=>HS3.o _ hh rfl))
   by_cases h0:s1.code=0
   ·rw[h0] at z2
    have Qpz:=Hh (HST.o.trans (Ng (by simpa using h0)));have Qrd:=(Qnm.o.nobk Qwt.o).kept HK2.o (fun k hk hh=>HS2.o k hh hk);have Qre:=Hh Qrd;have Qsr:=Hh (fun w2 (h2:J0 Sx w2 cb ⟨rb,ro,none⟩ ⟨tb,tq,none⟩ s1 kv bv lv2 tv wv2) (h3:Xy w2 rb ro r)=>Q2m h2 r h3 1 (t.at (pm:Int)).text (pm:Int));have Qp2:=Hh (Qn7.o.named r 1 (t.at (pm:Int)).text (pm:Int));clear HST h0 Qrd hS1;generalize J4 r s1 1 (t.at (pm:Int)).text (pm:Int)=q at Qpz Qsr Qp2;have Qss:Sx cb:=HC2.o.inS;have Qub:wo.heap.size≠cb:=fun e=>HS3.o cb Qss e.symm
    have Quc:(Value.slice nA (strs names).length nc1).ownBlock≠some cb:=HS2.o cb Qss;have hNX:(Value.slice nA (strs names).length nc1).ownBlock≠some wo.heap.size:=fun e=>by have:=Qnm.o.lt _ e;omega
    have Qud:(Value.slice nA (strs names).length nc1).ownBlock≠some pb:=fun e=>Qu7 (Qnm.o.2 _ e)
    have HHS:=Hh (And.intro Qub (And.intro Quc (And.intro hNX Qud)));have Qql:Hi (names.length≤1048576):=Hh (by have:=HSM.o;rw[HNL.o];omega);clear Qss Qub Quc hNX Qud Qu7;cases hth:Z9 (t.at (pm:Int)).text names with
    |true =>
     have Qst:Hi (X=Xj r t W (n.kids.drop (j+1)) (Qb t (n.kids.take (j+1))) (Qq (q.2.fail 2 (pm:Int)) e0 q.1 (pm:Int))):=Hh (by rw[Qpz.o,Ps hth,Qu8.o]);have Qq0:=Hh ((Qp2.o.fail 2 (pm:Int)).kindIs e0 q.1 (pm:Int));have HE0:Hi (0≤e0∧e0<((q.2.fail 2 (pm:Int)).kinds.length:Int)):=Hh ⟨HE9.o.1,by rw[(Qp2.o.fail 2 (pm:Int)).kinds];exact HE9.o.2⟩;clear Qpz;go_wp2_with (first|(go_at_call 199;refine (Qsr.o _ HC2.o (HRX.o.kept HK2.o).now).mono ?_;rintro e w3 ⟨rfl,Qn0⟩;have HC3:=Hh Qn0.1;have HK3:=Hh (HK2.o.trans (Qn0.2.mono fun k _ e=>e▸Qn0.1.inS));have HO3:=Hh (Qre.o.kept Qn0.2 (fun k hk e=>HHS.o.2.1 (e▸hk)));have HB3:=Hh (Qua.o.kept Qn0.2 HHS.o.1);have v1:=HB3.o.cell 1 _ rfl;clear Qn0)|(go_at_call 86;refine (Y4 _ names _ _ (Qf.strs HO3.o (by have:=Qql.o;omega))).mono ?_;rw[hth];rintro e w39 ⟨rfl,rfl⟩)|(go_at_call 92;refine (Zd HC3.o _ _).mono ?_;rintro e w4 ⟨rfl,Qpl⟩;have HC4:=Hh Qpl.1;have HK4:=Hh (HK3.o.trans (Qpl.2.mono fun k _ e=>e▸Qpl.1.inS));have HO4:=Hh (HO3.o.kept Qpl.2 (fun k hk e=>HHS.o.2.1 (e▸hk)));have HB4:=Hh (HB3.o.kept Qpl.2 HHS.o.1);have v4:=HB4.o.cell 1 _ rfl;have Qsu:=Hh (HF.o.kept (Qos.o.trans (HK4.o.mono fun k _ h=>HS1.o k h)));clear Qpl)|(at_builtin;refine J1 (Qv S w.heap.size) rfl _ _ 66 9 (.string ByteArray.empty) 16 rfl underlying66 (by kernel_rfl) rfl (.slice nA (strs names).length nc1) (strs names) (.string (t.at (pm:Int)).text) rfl rfl (by simp) rfl HO4.o Qsu.o (by have:=Qql.o;simp[strs];omega) (by have:=Qql.o;simp[strs];omega) ?_;intro nv1 w5 Qmn hk5 Qmt;obtain⟨nA5,nc5,rfl⟩:=Qmn.len;have HO5:=Hh Qmn;have HK5:=Hh hk5;have HA5:=Hh Qmt;have HB5:=Hh (HB4.o.kept hk5 HHS.o.2.2.1);have u3:=HB5.o.cell 3 _ rfl;have u0:=hk5.cell (a:=⟨pb,po,none⟩) HHS.o.2.2.2 (HPE.o _ HK4.o);have HC5:=Hh ((((HC4.o.mono (S':=fun k=>Q8r (Qv S w.heap.size) (.slice nA5 (strs names++[Value.string (t.at (pm:Int)).text]).length nc5) k∧(Value.slice nA (strs names).length nc1).ownBlock≠some k) (fun k hk hS=>⟨⟨HS1.o k hS,Qmt.elim (fun e=>by rw[e];exact HS2.o k hS) (fun⟨b9,e,hb9⟩=>by rw[e];intro e2;cases e2;omega)⟩,HS2.o k hS⟩)).aside hk5 (fun k hk hS=>hS.2 hk)).mono (S':=Q8r (Qv S w.heap.size) (.slice nA5 (strs names++[Value.string (t.at (pm:Int)).text]).length nc5)) (fun k _ h=>h.1)));clear Qmn hk5 Qmt)|(go_at_call 197;refine (Xq HC5.o _ _ _ HE0.o.1 HE0.o.2).mono ?_;rintro e w6 ⟨rfl,Qmz⟩));go_round
     case rel =>
      have e9:(strs names++[Value.string (t.at (pm:Int)).text]).length=(strs names).length+1:=by simp
      have h6:=Qmz.1;rw[e9] at h6;have h5:=HO5.o.kept Qmz.2 (fun k hk e=>by have:=HC5.o.inS.2;exact this (e▸hk));rw[e9,Q3r,Qu9.o] at h5;refine⟨j+1,_,lv2,wv2,by omega,by go_num,Hh ⟨h5,h6,?_,?_,?_⟩⟩
      ·have h1:=Qos.o.trans (HK4.o.mono fun k _ h=>HS1.o k h)
       have h2:=h1.trans (HK5.o.mono fun k _ hk=>HO4.o.2 k hk);exact h2.trans (Qmz.2.mono fun k _ e=>e▸HC5.o.inS.1)
      ·exact Qq0.o
      ·rw[HX.o];exact Qst.o
     case measure=>simp[intOf];omega
    |false =>
     have Qst:Hi (X=Xj r t W (n.kids.drop (j+1)) (Qb t (n.kids.take (j+1))) (Qq q.2 e0 q.1 (pm:Int))):=Hh (by rw[Qpz.o,Ng (by rw[hth];simp),Qu8.o]);have Qq0:=Hh (Qp2.o.kindIs e0 q.1 (pm:Int));have HE0:Hi (0≤e0∧e0<(q.2.kinds.length:Int)):=Hh ⟨HE9.o.1,by rw[Qp2.o.kinds];exact HE9.o.2⟩;clear Qpz;go_wp2_with (first|(go_at_call 199;refine (Qsr.o _ HC2.o (HRX.o.kept HK2.o).now).mono ?_;rintro e w3 ⟨rfl,Qn0⟩;have HC3:=Hh Qn0.1;have HK3:=Hh (HK2.o.trans (Qn0.2.mono fun k _ e=>e▸Qn0.1.inS));have HO3:=Hh (Qre.o.kept Qn0.2 (fun k hk e=>HHS.o.2.1 (e▸hk)));have HB3:=Hh (Qua.o.kept Qn0.2 HHS.o.1);have v1:=HB3.o.cell 1 _ rfl;clear Qn0)|((go_at_call 86;refine (Y4 _ names _ _ (Qf.strs HO3.o (by have:=Qql.o;omega))).mono ?_;rw[hth];rintro e w39 ⟨rfl,rfl⟩);have HC4:=HC3;have HK4:=HK3;have HO4:=HO3;have HB4:=HB3;have Qsu:=Hh (HF.o.kept (Qos.o.trans (HK4.o.mono fun k _ h=>HS1.o k h))))|(at_builtin;refine J1 (Qv S w.heap.size) rfl _ _ 66 9 (.string ByteArray.empty) 16 rfl underlying66 (by kernel_rfl) rfl (.slice nA (strs names).length nc1) (strs names) (.string (t.at (pm:Int)).text) rfl rfl (by simp) rfl HO4.o Qsu.o (by have:=Qql.o;simp[strs];omega) (by have:=Qql.o;simp[strs];omega) ?_;intro nv1 w5 Qmn hk5 Qmt;obtain⟨nA5,nc5,rfl⟩:=Qmn.len;have HO5:=Hh Qmn;have HK5:=Hh hk5;have HA5:=Hh Qmt;have HB5:=Hh (HB4.o.kept hk5 HHS.o.2.2.1);have u3:=HB5.o.cell 3 _ rfl;have u0:=hk5.cell (a:=⟨pb,po,none⟩) HHS.o.2.2.2 (HPE.o _ HK4.o);have HC5:=Hh ((((HC4.o.mono (S':=fun k=>Q8r (Qv S w.heap.size) (.slice nA5 (strs names++[Value.string (t.at (pm:Int)).text]).length nc5) k∧(Value.slice nA (strs names).length nc1).ownBlock≠some k) (fun k hk hS=>⟨⟨HS1.o k hS,Qmt.elim (fun e=>by rw[e];exact HS2.o k hS) (fun⟨b9,e,hb9⟩=>by rw[e];intro e2;cases e2;omega)⟩,HS2.o k hS⟩)).aside hk5 (fun k hk hS=>hS.2 hk)).mono (S':=Q8r (Qv S w.heap.size) (.slice nA5 (strs names++[Value.string (t.at (pm:Int)).text]).length nc5)) (fun k _ h=>h.1)));clear Qmn hk5 Qmt)|(go_at_call 197;refine (Xq HC5.o _ _ _ HE0.o.1 HE0.o.2).mono ?_;rintro e w6 ⟨rfl,Qmz⟩));go_round
     case rel =>
      have e9:(strs names++[Value.string (t.at (pm:Int)).text]).length=(strs names).length+1:=by simp
      have h6:=Qmz.1;rw[e9] at h6;have h5:=HO5.o.kept Qmz.2 (fun k hk e=>by have:=HC5.o.inS.2;exact this (e▸hk));rw[e9,Q3r,Qu9.o] at h5;refine⟨j+1,_,lv2,wv2,by omega,by go_num,Hh ⟨h5,h6,?_,?_,?_⟩⟩
      ·have h1:=Qos.o.trans (HK4.o.mono fun k _ h=>HS1.o k h)
       have h2:=h1.trans (HK5.o.mono fun k _ hk=>HO4.o.2 k hk);exact h2.trans (Qmz.2.mono fun k _ e=>e▸HC5.o.inS.1)
      ·exact Qq0.o
      ·rw[HX.o];exact Qst.o
     case measure=>simp[intOf];omega
   ·have t1:(s1.code != 0)=true:=by simpa using h0
    have Qpz:=Hh (HST.o.trans (Ps h0));clear h0;go_wp2_with fail;go_returns;obtain rfl:=Qpz.o;exact⟨rfl,⟨_,_,HC2.o.mono fun k _ h=>(HS1.o k h).1⟩,(hKS.trans (Qos.o.mono fun k _ h=>h.1)).trans (HK2.o.mono fun k _ h=>(HS1.o k h).1)⟩
  ·obtain rfl:j=n.kids.length:=by omega
   go_wp2_with fail;go_returns;obtain⟨Qmy,hch,Qo3,Qs4,hst⟩:=HAT.o;rw[List.drop_length,HX.o] at hst;simp only[Xj] at hst;subst hst;exact⟨rfl,⟨_,_,hch.mono fun k _ h=>h.1.1⟩,hKS.trans (Qo3.mono fun k _ h=>h.1)⟩
end
theorem Qe7 {r:Reg} {t:Q1} {l:List Int} {j:Nat} {k:Int} (hk:l[j]?=some k) (x:CS×List Int) :
  eachL r t (l.take (j+1)) x=((if r.find 1 (t.at k).text<0 then (eachL r t (l.take j) x).1.fail 3 k else if Z9 (r.find 1 (t.at k).text) (eachL r t (l.take j) x).2 then (eachL r t (l.take j) x).1.fail 2 k else (eachL r t (l.take j) x).1),(eachL r t (l.take j) x).2++[r.find 1 (t.at k).text]):=by
 induction l generalizing j x with
 |nil=>simp at hk
 |cons y ys ih =>
  obtain⟨s,all⟩:=x;cases j with
  |zero=>simp at hk;subst hk;simp[eachL]
  |succ j =>
   simp only[List.take_succ_cons,eachL];exact ih (j:=j) (by simpa using hk) _
def Qa8 (S:Nat→Prop) (u v:Value):Nat→Prop:=fun k=>S k∧u.ownBlock≠some k∧v.ownBlock≠some k
structure Q2o (S:Nat→Prop) (w:World) (cb:Nat) (ra ta:Addr) (s:CS) (kv bv lv tv wv u:Value) (ul:List Int) (v:Value) (vl:List Int):Prop where
 ou:Qf S 3 w u (Q4 ul)
 ov:Qf S 3 w v (Q4 vl)
 uv:sep u.ownBlock v.ownBlock
 c:J0 (Qa8 S u v) w cb ra ta s kv bv lv tv wv
namespace Q2o
variable {S:Nat→Prop} {w w1:World} {cb:Nat} {ra ta:Addr} {s s':CS} {kv bv lv tv wv u v u1 v1:Value} {ul vl:List Int}
theorem nobk (h:Q2o S w cb ra ta s kv bv lv tv wv u ul v vl) (hk:Q0 nob w w1):Q2o S w1 cb ra ta s kv bv lv tv wv u ul v vl:=⟨h.ou.nobk hk,h.ov.nobk hk,h.uv,h.c.nobk hk⟩
theorem atCb (h:Q2o S w cb ra ta s kv bv lv tv wv u ul v vl) (hat:Q2t (Qa8 S u v) w cb ra ta s' kv bv lv tv wv w1):Q2o S w1 cb ra ta s' kv bv lv tv wv u ul v vl :=
 ⟨h.ou.kept hat.2 (fun k hk e=>h.c.inS.2.1 (e▸hk)),h.ov.kept hat.2 (fun k hk e=>h.c.inS.2.2 (e▸hk)),h.uv,hat.1⟩
theorem appV (h:Q2o S w cb ra ta s kv bv lv tv wv u ul v vl) {x:Int} (ho:Qf S 3 w1 v1 (Q4 vl++[.int .i64 x])) (hk:Q0 (fun k=>v.ownBlock=some k) w w1) (hat:v1.ownBlock=v.ownBlock∨∃b,v1.ownBlock=some b∧w.heap.size≤b) :
  Q2o S w1 cb ra ta s kv bv lv tv wv u ul v1 (vl++[x]):=by
 refine⟨h.ou.kept hk (fun k hk' e=>h.uv k hk' e),by have:=ho;rwa [show Q4 vl++[.int .i64 x]=Q4 (vl++[x]) from by simp[Q4]] at this,?_,?_⟩
 ·intro k hu hv
  rcases hat with e|⟨b,e,hb⟩
  ·rw[e] at hv;exact h.uv k hu hv
  ·rw[e] at hv;cases hv;have:=h.ou.lt _ hu;omega
 ·refine ((h.c.mono (S':=fun k=>Qa8 S u v1 k∧v.ownBlock≠some k) (fun k hk' hS=>⟨⟨hS.1,hS.2.1,?_⟩,hS.2.2⟩)).aside hk (fun k hk' hS=>hS.2 hk')).mono (fun k _ hS=>hS.1)
  rcases hat with e|⟨b,e,hb⟩
  ·rw[e];exact hS.2.2
  ·rw[e];intro e2;cases e2;omega
theorem appU (h:Q2o S w cb ra ta s kv bv lv tv wv u ul v vl) {x:Int} (ho:Qf S 3 w1 u1 (Q4 ul++[.int .i64 x])) (hk:Q0 (fun k=>u.ownBlock=some k) w w1) (hat:u1.ownBlock=u.ownBlock∨∃b,u1.ownBlock=some b∧w.heap.size≤b) :
  Q2o S w1 cb ra ta s kv bv lv tv wv u1 (ul++[x]) v vl:=by
 refine⟨by have:=ho;rwa [show Q4 ul++[.int .i64 x]=Q4 (ul++[x]) from by simp[Q4]] at this,h.ov.kept hk (fun k hk' e=>h.uv k e hk'),?_,?_⟩
 ·intro k hu hv
  rcases hat with e|⟨b,e,hb⟩
  ·rw[e] at hu;exact h.uv k hu hv
  ·rw[e] at hu;cases hu;have:=h.ov.lt _ hv;omega
 ·refine ((h.c.mono (S':=fun k=>Qa8 S u1 v k∧u.ownBlock≠some k) (fun k hk' hS=>⟨⟨hS.1,?_,hS.2.2⟩,hS.2.1⟩)).aside hk (fun k hk' hS=>hS.2 hk')).mono (fun k _ hS=>hS.1)
  rcases hat with e|⟨b,e,hb⟩
  ·rw[e];exact hS.2.1
  ·rw[e];intro e2;cases e2;omega
theorem swapW (h:Q2o S w cb ra ta s kv bv lv tv wv u ul v vl):J0 S (w.setCell ⟨cb,9,none⟩ u) cb ra ta {s with withs:=ul} kv bv lv tv u:=by
 obtain⟨n1,n2,n3,n4,n5⟩:=h.c.noCb;obtain⟨a,b,c,d,e,f,g,p,q,z⟩:=h.c.sepAll;have hcu:u.ownBlock≠some cb:=h.c.inS.2.1;have o:∀{x:Value} {xs:List Value},Qf (Qa8 S u v) 3 w x xs→sep x.ownBlock u.ownBlock:=fun hx k h1 h2=>(hx.2 k h1).2.1 h2
 have m:∀{x:Value} {xs:List Value},Qf (Qa8 S u v) 3 w x xs→Qf S 3 w x xs:=fun hx=>hx.mono fun k hk=>hk.1
 refine⟨h.c.blk.set 9 u,h.c.inS.1,(m h.c.k).other (p:=⟨cb,9,none⟩) n1 _,(m h.c.b).other (p:=⟨cb,9,none⟩) n2 _,(m h.c.l).other (p:=⟨cb,9,none⟩) n3 _,(m h.c.t).other (p:=⟨cb,9,none⟩) n4 _,h.ou.other (p:=⟨cb,9,none⟩) hcu _,?_⟩;simp only[List.pairwise_cons,List.mem_cons,List.not_mem_nil,or_false,forall_eq_or_imp,forall_eq];have cbs:∀x:Option Nat,x≠some cb→sep (some cb) x:=fun x hx k hk hc=>hx (by cases hk;exact hc)
 exact⟨⟨cbs _ n1,cbs _ n2,cbs _ n3,cbs _ n4,cbs _ hcu⟩,⟨a,b,c,o h.c.k⟩,⟨e,f,o h.c.b⟩,⟨p,o h.c.l⟩,o h.c.t,fun _ h=>h.elim,List.Pairwise.nil⟩
end Q2o
end Go.Proofs.YtkgkafjachjafaaGreat
