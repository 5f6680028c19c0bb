/- Part 19 of: FnExactEffects answers true; no condition. -/
import Derived.Test.YtkgkafjachjafaaGreatY07
import Derived.Test.YtkgkafjachjafaaGreatY16
set_option linter.unusedVariables false
set_option maxHeartbeats 2000000
open Go Go.RowKit
namespace Go.Proofs.YtkgkafjachjafaaGreat
open Tryz
theorem K0n {p:Prop} (h:p:=by have htk:=h9.l.take (n:=st5.locals.length-1) (by rw[Qot];show Value.slice lA st5.locals.length lc8=Value.slice lA (Q5 st5.locals).length lc8;simp[Q5]) (by simp[Q5]);have h10:=h9.swapL (l1:=st5.locals.dropLast) (u:=.slice lA m8 lc8) (by rw[hm8,List.dropLast_eq_take];have:=htk;rwa [show (Q5 st5.locals).take (st5.locals.length-1)=Q5 (st5.locals.take (st5.locals.length-1)) from by simp[Q5,List.map_take]] at this) (Kr _ _) (by left;rw[Qot];cases lA<;>rfl);have Qpd:=Hh h10;have hk9:=(((HK7.o.trans hk8)).setCell (p:=⟨cb,11,none⟩) (Or.inl hc8.inS) (.bool false)).setCell (p:=⟨cb,6,none⟩) (Or.inl hc8.inS) (.slice lA m8 lc8);have HK9:=Hh hk9;subst Qot;clear h9 hc8 hk8 hk9 Qqr htk h10 f118 c118 HGR hm8 Qs3 Qtm;generalize hW9:w8.setCell ⟨cb,11,none⟩ (.bool false)=w9 at Qpd HK9 f69 c69 ⊢;clear hW9;go_region;go_wp2_with fail;go_returns;obtain rfl:=HX.o;exact⟨rfl,⟨_,_,(Qpd.o.drew).mono fun k _ h=>h.1⟩,hKS.trans ((HK9.o.drew).mono fun k _ h=>h.1)⟩):p:=h
theorem K0o {p:Prop} (h:p:=by have h2:=h1.trans (HK5.o.mono fun k _ hk=>HO4.o.2 k hk);exact h2.trans (Qo1.2.mono fun k _ e=>e▸HC5.o.inS.1)):p:=h
theorem Qj.drop {S:Nat→Prop} {w:World} {A:Option Addr} {p o n c d:Nat} {l:List Int} (hx:∀j x,l[j]?=some x→∀W,Q0 S w W→W.cell? ⟨p,o+j,none⟩=some (.int .i64 x)) (hl:l.length≤140737488355328) (hA:0<l.length-d→A=some ⟨p,o+d,none⟩) (hn:n=l.length-d) (hc:l.length-d≤c) :
  Qj S w fun w=>Qf w (.slice A n c) (l.drop d):=by
 intro W hk
 refine⟨A,p,o+d,c,by rw[List.length_drop,hn],by rw[List.length_drop];omega,by rw[List.length_drop];exact hc,fun h=>hA (by rw[List.length_drop] at h;exact h),fun j x hj=>?_⟩
 rw[Nat.add_assoc];exact hx (d+j) x (by rw[List.getElem?_drop] at hj;exact hj) W hk
theorem Qj.take {S:Nat→Prop} {w:World} {p o n c d:Nat} {l:List Int} (hx:∀j x,l[j]?=some x→∀W,Q0 S w W→W.cell? ⟨p,o+j,none⟩=some (.int .i64 x)) (hl:l.length≤140737488355328) (hd:d≤l.length) (hn:n=d) (hc:d≤c) :
  Qj S w fun w=>Qf w (.slice (some ⟨p,o,none⟩) n c) (l.take d):=by
 refine Qj.mkInts (by rw[List.length_take];omega) (by rw[List.length_take];omega) (by rw[List.length_take];omega) fun j x hj W hk=>?_
 exact hx j x (by rw[List.getElem?_take] at hj;split at hj;exact hj;cases hj) W hk
section
variable {r:Reg} {t:Q1} {S:Nat→Prop} {w:World} {cb rb ro tb tq:Nat} {s:CS} {kv bv lv tv wv:Value} {b:Int} {W:CS→Int→CS}
theorem Qan (hW:Q0r r t b W) (hO:Yc t W) (h:J0 S w cb ⟨rb,ro,none⟩ ⟨tb,tq,none⟩ s kv bv lv tv wv) (hr:Qj S w fun w=>Xa w rb ro r) (ht:Qj S w fun w=>J8 w tb tq t) (hok:Qe t s) (h00:s.code=0) (hF:Jh S w)
  (i:Int) (n:Qn) (nk:Value) (hnk:Qj S w fun w=>Qf w nk n.kids) (hl:∀k∈n.kids,InT t k∧k<b) (a:Int) (ks:List Int) (Qnf:n.kids=a::ks) (h2:2≤n.kids.length) :
  Calls prog 167 #[.pointer (some ⟨cb,0,none⟩),.int .i64 i,.agg #[.int .i64 n.kind,.string n.text,.int .i64 n.i,nk]] w fun e w'=>e=.returned (.tuple #[]) ∧
   AtS S w cb ⟨rb,ro,none⟩ ⟨tb,tq,none⟩ (Q05 W s i n) kv bv tv w':=by
 have k0:kidAt n 0=a:=by simp[kidAt,Qnf]
 have hbr:Q05 W s i n=Qb W (Qp (W s a) a (if n.kind=17 then 1 else 4) i) (n.kids.drop 1):=by unfold Q05;rw[k0]
 generalize Q05 W s i n=X at hbr ⊢;clear k0;have hai:=hl a (by rw[Qnf];simp);have hk0:Q0 nob w (w.alloc (.cells #[.int .i64 n.kind,.string n.text,.int .i64 n.i,nk] 70)):=(Kr _ _).alloc _;have hb0:=Blk.new w [.int .i64 n.kind,.string n.text,.int .i64 n.i,nk] 70;have hF0:Jh (Jj S w.heap.size) (w.alloc (.cells #[.int .i64 n.kind,.string n.text,.int .i64 n.i,nk] 70)):=fun k hk=>⟨hF k (by simp at hk;omega),by simp at hk;omega⟩
 generalize hW0:w.alloc (.cells #[.int .i64 n.kind,.string n.text,.int .i64 n.i,nk] 70)=W0 at hk0 hF0;replace hb0:Blk W0 w.heap.size [.int .i64 n.kind,.string n.text,.int .i64 n.i,nk] 70:=hW0▸hb0;have Qnn:∀k,k<W0.heap.size→Jj S w.heap.size k→S k:=fun _ _ h=>h.1
 have h0:J0 (Jj S w.heap.size) W0 cb ⟨rb,ro,none⟩ ⟨tb,tq,none⟩ s kv bv lv tv wv:=(h.mono fun k hk hS=>⟨hS,Om⟩).nobk hk0;have hr0:=(hr.kept (hk0.ofNob S)).mono Qnn;have ht0:=(ht.kept (hk0.ofNob S)).mono Qnn;have hn0:=(hnk.kept (hk0.ofNob S)).mono Qnn;obtain⟨A,p,o,c,rfl,ll,lc,hA,Qni⟩:=hn0.ints;have Qo3:0<n.kids.length:=by rw[Qnf];simp
 obtain⟨rfl,hpS⟩:=hA Qo3;have e0:=Qni 0 a (by rw[Qnf];rfl) W0 (Kr _ _);have c0:=hb0.cell 0 _ rfl;have c3:=hb0.cell 3 _ rfl
 have hbk:∀W',Q0 (Jj S w.heap.size) W0 W'→W'.cell? ⟨w.heap.size,3,none⟩=some (.slice (some ⟨p,o,none⟩) n.kids.length c)∧W'.cell? ⟨p,o,none⟩=some (.int .i64 a):=fun W' hk =>
  ⟨hk.cell (fun hh=>hh.2 rfl) c3,by have:=Qni 0 a (by rw[Qnf];rfl) W' hk;simpa using this⟩
 have HBK:=Hh hbk;have HC:=Hh Qni;have H0:=Hh h0;have HR:=Hh hr0;have HT:=Hh ht0;have HF:=Hh hF0;have HOK:=Hh hok;have Qo0:=Hh (hO s a hok hai.1);have HAI:=Hh hai;have HL:=Hh hl;have H00:=Hh h00;have Qnm:(1:Int)≤n.kids.length:=Om
 have hc1:¬ c=1:=Om
 have Qzd:n.kids.length≤c:=lc;have HLL:=Hh ll;have HB1:Hi (0≤a∧a<((W s a).kinds.length:Int)):=Hh ⟨hai.1.1,by rw[Qo0.o.kinds];exact hai.1.2⟩;have hKS:Q0 S w W0:=hk0.ofNob S;have e0':W0.cell? ⟨p,o,none⟩=some (.int .i64 a):=by simpa using e0
 clear hb0 Qnn h0 hr0 ht0 hn0 Qni hF0 h hr ht hnk hl Qnf hok h00 hF hA hbk hai ll e0;cases hq:(n.kind==17) with
 |true =>
  have hq':n.kind=17:=by simpa using hq
  rw[Ps hq'] at hbr;have HX:=Hh hbr;clear hq' hbr;go_enter func167,ntmps167;go_wp2_with (first|(go_at_call 124;refine (hW _ W0 cb rb ro tb tq _ kv bv lv tv wv a HAI.o.2 HAI.o.1 H0.o HR.o HT.o HOK.o H00.o HF.o).mono ?_;rintro e w2 ⟨rfl,Qov⟩;have hat:=Hh Qov;obtain⟨⟨lv1,wv1,hc1⟩,hk1⟩:=Qov;obtain⟨u3,u0⟩:=HBK.o w2 hk1;have HC1:=Hh hc1;have HK1:=Hh hk1;clear hc1 hk1)|(go_at_call 197;refine (Xp HC1.o _ _ _ HB1.o.1 HB1.o.2).mono ?_;rintro e w3 ⟨rfl,Qnl⟩;have HC2:=Hh Qnl.1;have HK2:=Hh (HK1.o.trans (Qnl.2.mono fun k _ e=>e▸Qnl.1.inS));obtain⟨v3,v0⟩:=HBK.o w3 HK2.o;clear Qnl)|(go_at_call 93;refine (Xw hW hO HC2.o (HR.o.kept HK2.o) (HT.o.kept HK2.o) (Qo0.o.kindIs _ _ _) (HF.o.kept HK2.o) _ (n.kids.drop 1) ((Qj.drop HC.o HLL.o (fun _=>rfl) rfl Om).kept HK2.o) (fun k hk=>HL.o k (List.mem_of_mem_drop hk))).mono ?_;rintro e w4 ⟨rfl,Qnv⟩));go_returns;obtain rfl:=HX.o;exact⟨rfl,((Qnv.after HK2.o).wider fun _ h=>h.1).after hKS⟩
 |false =>
  have hq':¬ n.kind=17:=by simpa using hq
  rw[Ng hq'] at hbr;have HX:=Hh hbr;clear hq' hbr;go_enter func167,ntmps167;go_wp2_with (first|(go_at_call 124;refine (hW _ W0 cb rb ro tb tq _ kv bv lv tv wv a HAI.o.2 HAI.o.1 H0.o HR.o HT.o HOK.o H00.o HF.o).mono ?_;rintro e w2 ⟨rfl,Qov⟩;have hat:=Hh Qov;obtain⟨⟨lv1,wv1,hc1⟩,hk1⟩:=Qov;obtain⟨u3,u0⟩:=HBK.o w2 hk1;have HC1:=Hh hc1;have HK1:=Hh hk1;clear hc1 hk1)|(go_at_call 197;refine (Xp HC1.o _ _ _ HB1.o.1 HB1.o.2).mono ?_;rintro e w3 ⟨rfl,Qnl⟩;have HC2:=Hh Qnl.1;have HK2:=Hh (HK1.o.trans (Qnl.2.mono fun k _ e=>e▸Qnl.1.inS));obtain⟨v3,v0⟩:=HBK.o w3 HK2.o;clear Qnl)|(go_at_call 93;refine (Xw hW hO HC2.o (HR.o.kept HK2.o) (HT.o.kept HK2.o) (Qo0.o.kindIs _ _ _) (HF.o.kept HK2.o) _ (n.kids.drop 1) ((Qj.drop HC.o HLL.o (fun _=>rfl) rfl Om).kept HK2.o) (fun k hk=>HL.o k (List.mem_of_mem_drop hk))).mono ?_;rintro e w4 ⟨rfl,Qnv⟩));go_returns;obtain rfl:=HX.o;exact⟨rfl,((Qnv.after HK2.o).wider fun _ h=>h.1).after hKS⟩
end
theorem J0.kindCell {S:Nat→Prop} {w:World} {cb:Nat} {ra ta:Addr} {s:CS} {kv bv lv tv wv:Value} (h:J0 S w cb ra ta s kv bv lv tv wv) {g mi:Nat} (hg:kv.ownBlock=some g) (hi:mi<s.kinds.length) :
  w.cell? ⟨g,mi,none⟩=some (.int .i64 (s.kindAt (mi:Int)))∧w.frozen? ⟨g,mi,none⟩=false:=by
 obtain⟨q1,q2⟩:=h.k.at (j:=mi) hg (by simpa[Q5] using hi);refine⟨?_,q2⟩;rw[q1];simp[Q5,CS.kindAt,hi]
theorem J0.kindRow {S:Nat→Prop} {w:World} {cb:Nat} {ra ta:Addr} {s:CS} {kv bv lv tv wv:Value} {t:Q1} (h:J0 S w cb ra ta s kv bv lv tv wv) (hok:Qe t s) (hp:0<t.nodes.length):∃g kc,kv=.slice (some ⟨g,0,none⟩) t.nodes.length kc∧kv.ownBlock=some g∧S g:=by
 obtain⟨A,g,kc,hkv,_,_,hA,_⟩:=h.k.openI;rw[hok.kinds] at hkv hA;obtain⟨rfl,hS,ho⟩:=hA hp;exact⟨g,kc,hkv,ho,hS⟩
section
variable {r:Reg} {t:Q1} {S:Nat→Prop} {w:World} {cb rb ro tb tq:Nat} {s:CS} {kv bv lv tv wv:Value} {b:Int} {W:CS→Int→CS}
theorem Qmp (hW:Q0r r t b W) (hO:Yc t W) (h:J0 S w cb ⟨rb,ro,none⟩ ⟨tb,tq,none⟩ s kv bv lv tv wv) (hr:Qj S w fun w=>Xa w rb ro r) (ht:Qj S w fun w=>J8 w tb tq t) (hok:Qe t s) (h00:s.code=0) (hF:Jh S w)
  (i:Int) (hi:InT t i) (n:Qn) (nk:Value) (hnk:Qj S w fun w=>Qf w nk n.kids) (hl:∀k∈n.kids,InT t k∧k<b) (a k1:Int) (ks:List Int) (Qnf:n.kids=a::k1::ks) :
  Calls prog 166 #[.pointer (some ⟨cb,0,none⟩),.int .i64 i,.agg #[.int .i64 n.kind,.string n.text,.int .i64 n.i,nk]] w fun e w'=>e=.returned (.tuple #[]) ∧
   AtS S w cb ⟨rb,ro,none⟩ ⟨tb,tq,none⟩ (Q4y r t W s i n) kv bv tv w':=by
 have k0:kidAt n 0=a:=by simp[kidAt,Qnf]
 have k1':kidAt n 1=k1:=by simp[kidAt,Qnf]
 have hbr:Q4y r t W s i n=(n.kids.drop 1).foldl (pickStep r t i k1) (Qp (W s a) a 1 i):=by unfold Q4y;rw[k0,k1']
 generalize Q4y r t W s i n=X at hbr ⊢;have HX:=Hh hbr;clear k0 k1' hbr;have hai:=hl a (by rw[Qnf];simp);have hk0:Q0 nob w (w.alloc (.cells #[.int .i64 n.kind,.string n.text,.int .i64 n.i,nk] 70)):=(Kr _ _).alloc _;have hb0:=Blk.new w [.int .i64 n.kind,.string n.text,.int .i64 n.i,nk] 70;have hF0:Jh (Jj S w.heap.size) (w.alloc (.cells #[.int .i64 n.kind,.string n.text,.int .i64 n.i,nk] 70)):=fun k hk=>⟨hF k (by simp at hk;omega),by simp at hk;omega⟩
 generalize hW0:w.alloc (.cells #[.int .i64 n.kind,.string n.text,.int .i64 n.i,nk] 70)=W0 at hk0 hF0;replace hb0:Blk W0 w.heap.size [.int .i64 n.kind,.string n.text,.int .i64 n.i,nk] 70:=hW0▸hb0;have Qnn:∀k,k<W0.heap.size→Jj S w.heap.size k→S k:=fun _ _ h=>h.1
 have h0:J0 (Jj S w.heap.size) W0 cb ⟨rb,ro,none⟩ ⟨tb,tq,none⟩ s kv bv lv tv wv:=(h.mono fun k hk hS=>⟨hS,Om⟩).nobk hk0;have hr0:=(hr.kept (hk0.ofNob S)).mono Qnn;have ht0:=(ht.kept (hk0.ofNob S)).mono Qnn;have hn0:=(hnk.kept (hk0.ofNob S)).mono Qnn;obtain⟨A,p,o,c,rfl,ll,lc,hA,Qni⟩:=hn0.ints;have Qpg:2≤n.kids.length:=by rw[Qnf];simp
 obtain⟨rfl,hpS⟩:=hA Om;have Qo3:0<t.nodes.length:=by have:=hi.1;have:=hi.2;omega
 obtain⟨tA,nb,no,nc,tc,tl,tlc,tS,tA',_,tn⟩:=ht0.tree;obtain⟨rfl,nS⟩:=tA' Qo3;obtain⟨g,kc,hkv,Qnt,hSg⟩:=h0.kindRow hok Qo3;obtain⟨mi,rfl⟩:=En hi.1;have hmi:(mi:Int)<t.nodes.length:=hi.2;have c3:=hb0.cell 3 _ rfl
 have hbk:∀W',Q0 (Jj S w.heap.size) W0 W'→W'.cell? ⟨w.heap.size,3,none⟩=some (.slice (some ⟨p,o,none⟩) n.kids.length c)∧W'.cell? ⟨p,o,none⟩=some (.int .i64 a)∧W'.cell? ⟨p,o+1,none⟩=some (.int .i64 k1):=fun W' hk =>
  ⟨hk.cell (fun hh=>hh.2 rfl) c3,by have:=Qni 0 a (by rw[Qnf];rfl) W' hk;simpa using this,Qni 1 k1 (by rw[Qnf];rfl) W' hk⟩
 obtain⟨_,e0',_⟩:=hbk W0 (Kr _ _);have HBK:=Hh hbk;have HC:=Hh Qni;have H0:=Hh h0;have HR:=Hh hr0;have HT:=Hh ht0;have HTC:=Hh tc;have HTN:=Hh tn;have HF:=Hh hF0;have HOK:=Hh hok;have Qo0:=Hh ((hO s a hok hai.1).kindIs a 1 (mi:Int));have HAI:=Hh hai;have HL:=Hh hl;have H00:=Hh h00;have Qnm:(1:Int)≤n.kids.length:=Om
 have Qrz:(1:Int)<n.kids.length:=Om
 have Qo7:0<n.kids.length:=Om
 have hc1:¬ c=1:=Om
 have HB1:Hi (0≤a∧a<((W s a).kinds.length:Int)):=Hh ⟨hai.1.1,by rw[(hO s a hok hai.1).kinds];exact hai.1.2⟩;have hKS:Q0 S w W0:=hk0.ofNob S;have Qoi:=Hh Qnt;have HSG:=Hh hSg;have HI0:=Hh hi.1;have HD:Hi (∀j x,(n.kids.drop 1)[j]?=some x→n.kids[1+j]?=some x):=Hh (fun j x hx=>by rw[List.getElem?_drop] at hx;exact hx);have HDL:Hi ((n.kids.drop 1).length=n.kids.length-1):=Hh Sm;have Qq1:Hi (∀j,Qe t (((n.kids.drop 1).take j).foldl (pickStep r t (mi:Int) k1) (Qp (W s a) a 1 (mi:Int)))):=Hh (fun j=>Qe.picks r _ _ _ ((hO s a hok hai.1).kindIs a 1 (mi:Int)));have HLL:=Hh ll;clear hb0 Qnn h0 hr0 ht0 hn0 Qni hF0 h hr ht hnk hl Qnf hok h00 hF hA hbk hai tc tn tA' Qnt hSg hi Qo3;generalize hD:n.kids.drop 1=D at HX HD HDL Qq1;subst hkv;go_enter func166,ntmps166;go_wp2_with (first|(go_at_call 124;refine (hW _ W0 cb rb ro tb tq _ _ bv lv tv wv a HAI.o.2 HAI.o.1 H0.o HR.o HT.o HOK.o H00.o HF.o).mono ?_;rintro e w2 ⟨rfl,Qov⟩;have hat:=Hh Qov;obtain⟨⟨lv1,wv1,hc1'⟩,hk1⟩:=Qov;obtain⟨u3,u0,u1⟩:=HBK.o w2 hk1;have HC1:=Hh hc1';have HK1:=Hh hk1;clear hc1' hk1)|(go_at_call 197;refine (Xp HC1.o _ _ _ HB1.o.1 HB1.o.2).mono ?_;rintro e w3 ⟨rfl,Qnl⟩;have HC2:=Hh Qnl.1;have HK2:=Hh (HK1.o.trans (Qnl.2.mono fun k _ e=>e▸Qnl.1.inS));obtain⟨v3,v0,v1⟩:=HBK.o w3 HK2.o;clear Qnl));go_loopw [7,8,26] (fun u7 u8 ci wr=>∃j:Nat,j≤n.kids.length-1∧ci=.int .i64 j∧Hi (J0 (Jj S w.heap.size) wr cb ⟨rb,ro,none⟩ ⟨tb,tq,none⟩ ((D.take j).foldl (pickStep r t (mi:Int) k1) (Qp (W s a) a 1 (mi:Int))) (.slice (some ⟨g,0,none⟩) t.nodes.length kc) bv lv1 tv wv1∧Q0 (Jj S w.heap.size) W0 wr)) (fun _ _ ci _=>n.kids.length-1-(intOf ci).toNat)
 case atStart=>exact⟨0,Nat.zero_le _,rfl,Hh ⟨HC2.o,HK2.o⟩⟩
 case round =>
  obtain⟨j,hj,rfl,HAT⟩:=hrel;obtain⟨wo,rfl⟩:∃wo:World,wo=wr:=⟨_,rfl⟩
  by_cases hlt:j<n.kids.length-1
  ·obtain⟨k,hx⟩:=Q4 (xs:=D) (j:=j) (by rw[HDL.o];exact hlt)
   have hx2:=HD.o j k hx;obtain⟨hki,hkb⟩:=HL.o k (Mg hx2);have q0:=HC.o _ k hx2 wo HAT.o.2;rw[← Nat.add_assoc] at q0;obtain⟨z3,z0,z1⟩:=HBK.o wo HAT.o.2;obtain⟨pm,rfl,hpn⟩:=Q1.at_lt hki;have hpl:(pm:Int)<t.nodes.length:=hki.2;obtain⟨pv,pc,_⟩:=HTN.o pm _ hpn;have q1:wo.cell? ⟨cb,1,none⟩=some (.pointer (some ⟨tb,tq,none⟩)):=HAT.o.1.blk.cell 1 _ rfl;have q2:=HTC.o wo HAT.o.2;have q5:=(pc wo HAT.o.2).2.1;have HST:Hi ((D.take (j+1)).foldl (pickStep r t (mi:Int) k1) (Qp (W s a) a 1 (mi:Int))=pickStep r t (mi:Int) k1 ((D.take j).foldl (pickStep r t (mi:Int) k1) (Qp (W s a) a 1 (mi:Int))) (pm:Int)):=Hh (by rw[Js hx,List.foldl_append];rfl);have Qpc:=Qq1.o j;have hjn:(j:Int)<(n.kids.length:Int)-1:=Om
   generalize (D.take j).foldl (pickStep r t (mi:Int) k1) (Qp (W s a) a 1 (mi:Int))=s0 at HAT HST Qpc;have hm:s0.withs.length≤140737488355328:=by have:=Qpc.withs;omega
   have Qs2:=Qpc.column r (t.at (pm:Int)).text (pm:Int);have hkl:mi<(Qi r s0 (t.at (pm:Int)).text (pm:Int)).2.kinds.length:=by rw[Qs2.kinds];omega
   have Quw:((Qi r s0 (t.at (pm:Int)).text (pm:Int)).2.setKind (mi:Int) (Qi r s0 (t.at (pm:Int)).text (pm:Int)).1).kindAt (mi:Int)=(Qi r s0 (t.at (pm:Int)).text (pm:Int)).1:=by
    have:=CS.kindAt_set (Qi r s0 (t.at (pm:Int)).text (pm:Int)).2 (mi:Int) (Qi r s0 (t.at (pm:Int)).text (pm:Int)).1 (mi:Int) HI0.o HI0.o Om;rw[Ps rfl] at this;exact this
   have Qp2:pickStep r t (mi:Int) k1 s0 (pm:Int)=(if (pm:Int)=k1 then (Qi r s0 (t.at (pm:Int)).text (pm:Int)).2.setKind (mi:Int) (Qi r s0 (t.at (pm:Int)).text (pm:Int)).1 else (if (Qi r s0 (t.at (pm:Int)).text (pm:Int)).1=(Qi r s0 (t.at (pm:Int)).text (pm:Int)).2.kindAt (mi:Int) then (Qi r s0 (t.at (pm:Int)).text (pm:Int)).2 else (Qi r s0 (t.at (pm:Int)).text (pm:Int)).2.fail 4 (pm:Int))):=by
    unfold pickStep;dsimp only
    by_cases e:(pm:Int)=k1
    ·rw[Ps e,Ps e,Ps Quw.symm]
    ·rw[Ng e,Ng e]
   rw[Qp2] at HST;have Qpj:=Hh (fun w2 (h2:J0 (Jj S w.heap.size) w2 cb ⟨rb,ro,none⟩ ⟨tb,tq,none⟩ s0 (.slice (some ⟨g,0,none⟩) t.nodes.length kc) bv lv1 tv wv1) (h3:Xa w2 rb ro r)=>Q7v h2 r h3 hm (t.at (pm:Int)).text (pm:Int));have HKL:=Hh hkl;clear hx hx2 hki hkb hpn pc Qpc hm Qs2 hkl Quw Qp2;generalize Qi r s0 (t.at (pm:Int)).text (pm:Int)=q at HST Qpj HKL;cases Qux:((pm:Int)==k1) with
   |true =>
    rw[Ps (by simpa using Qux)] at HST;go_wp2_with (go_at_call 198;refine (Qpj.o _ HAT.o.1 (HR.o.kept HAT.o.2).now).mono ?_;rintro e w4 ⟨rfl,hat⟩;have HC4:=Hh hat.1;have HK4:=Hh (HAT.o.2.trans (hat.2.mono fun k _ e=>e▸hat.1.inS));have x4:=hat.1.blk.cell 4 _ rfl;obtain⟨y1,y2⟩:=hat.1.kindCell Qoi.o HKL.o;obtain⟨a3,a0,a1⟩:=HBK.o w4 HK4.o;have hs5:=HC4.o.setK Qoi.o (mi:Int) q.1 HI0.o;rw[Int.toNat_natCast] at hs5;have x5:(w4.setCell ⟨g,mi,none⟩ (.int .i64 q.1)).cell? ⟨cb,4,none⟩=some _:=hs5.blk.cell 4 _ rfl;have HC5:=Hh hs5;have HK5:=Hh (HK4.o.setCell (p:=⟨g,mi,none⟩) (Or.inl HSG.o) (.int .i64 q.1));clear hat hs5);go_round
    case rel=>exact⟨j+1,Om,Gm,Hh (HST.o▸⟨HC5.o,HK5.o⟩)⟩
    case measure=>exact Me
   |false =>
    rw[Ng (by simpa using Qux)] at HST
    by_cases hq:q.1=q.2.kindAt (mi:Int)
    ·have t5:(q.1 != q.2.kindAt (mi:Int))=false:=by simp[hq]
     rw[Ps hq] at HST;clear hq;go_wp2_with (go_at_call 198;refine (Qpj.o _ HAT.o.1 (HR.o.kept HAT.o.2).now).mono ?_;rintro e w4 ⟨rfl,hat⟩;have HC4:=Hh hat.1;have HK4:=Hh (HAT.o.2.trans (hat.2.mono fun k _ e=>e▸hat.1.inS));have x4:=hat.1.blk.cell 4 _ rfl;obtain⟨y1,y2⟩:=hat.1.kindCell Qoi.o HKL.o;obtain⟨a3,a0,a1⟩:=HBK.o w4 HK4.o;clear hat);go_round
     case rel=>exact⟨j+1,Om,Gm,Hh (HST.o▸⟨HC4.o,HK4.o⟩)⟩
     case measure=>exact Me
    ·have t5:(q.1 != q.2.kindAt (mi:Int))=true:=by simpa using hq
     rw[Ng hq] at HST;clear hq;go_wp2_with (first|(go_at_call 198;refine (Qpj.o _ HAT.o.1 (HR.o.kept HAT.o.2).now).mono ?_;rintro e w4 ⟨rfl,hat⟩;have HC4:=Hh hat.1;have HK4:=Hh (HAT.o.2.trans (hat.2.mono fun k _ e=>e▸hat.1.inS));have x4:=hat.1.blk.cell 4 _ rfl;obtain⟨y1,y2⟩:=hat.1.kindCell Qoi.o HKL.o;obtain⟨a3,a0,a1⟩:=HBK.o w4 HK4.o;clear hat)|(go_at_call 92;refine (Ze HC4.o _ _).mono ?_;rintro e w5 ⟨rfl,Qnp⟩));go_round
     case rel=>exact⟨j+1,Om,Gm,Hh (HST.o▸⟨Qnp.1,HK4.o.trans (Qnp.2.mono fun k _ e=>e▸Qnp.1.inS)⟩)⟩
     case measure=>exact Me
  ·obtain rfl:j=n.kids.length-1:=Om
   have HE:Hi (D.take (n.kids.length-1)=D):=Hh (by rw[← HDL.o,List.take_length]);go_wp2_with fail;go_returns;obtain rfl:=HX.o;have h9:=HAT.o;rw[HE.o] at h9;exact⟨rfl,⟨_,_,h9.1.mono fun k _ h=>h.1⟩,hKS.trans (h9.2.mono fun k _ h=>h.1)⟩
end
def Q1u (W:CS→Int→CS):Prop:=∀s k,s.locals.length≤(W s k).locals.length
theorem Q1u.kids {W:CS→Int→CS} (hW:Q1u W) (l:List Int) (s:CS):s.locals.length≤(Qb W s l).locals.length:=by
 induction l generalizing s with
 |nil=>exact Nat.le_refl _
 |cons k ks ih =>
  refine Nat.le_trans ?_ (ih _);dsimp only;split
  ·exact hW s k
  ·exact Nat.le_refl _
theorem Jz (s:CS) (a b:Int):(s.fail a b).locals=s.locals:=by unfold CS.fail;split<;>rfl
theorem Q17 (t:Q1) (s:CS) (k:Int):(Qx t s k).locals=s.locals:=by unfold Qx;split;exact Jz _ _ _;rfl
theorem X5 (r:Reg) (s:CS) (a:Int) (b:ByteArray) (c:Int):(J4 r s a b c).2.locals=s.locals:=by unfold J4;split;exact Jz _ _ _;rfl
section
variable {r:Reg} {t:Q1} {S:Nat→Prop} {w:World} {cb rb ro tb tq:Nat} {s:CS} {kv bv lv tv wv:Value} {b:Int} {W:CS→Int→CS}
theorem Qlq (hW:Q0r r t b W) (hO:Yc t W) (hGr:Q1u W) (hsz:t.nodes.length≤4000) (h:J0 S w cb ⟨rb,ro,none⟩ ⟨tb,tq,none⟩ s kv bv lv tv wv) (hr:Qj S w fun w=>Xa w rb ro r) (ht:Qj S w fun w=>J8 w tb tq t) (hok:Qe t s) (h00:s.code=0) (hF:Jh S w)
  (i:Int) (n:Qn) (nk:Value) (hnk:Qj S w fun w=>Qf w nk n.kids) (hl:∀k∈n.kids,InT t k∧k<b) (a k1:Int) (ks:List Int) (Qnf:n.kids=a::k1::ks) :
  Calls prog 169 #[.pointer (some ⟨cb,0,none⟩),.int .i64 i,.agg #[.int .i64 n.kind,.string n.text,.int .i64 n.i,nk]] w fun e w'=>e=.returned (.tuple #[]) ∧
   AtS S w cb ⟨rb,ro,none⟩ ⟨tb,tq,none⟩ (Q3y r t W s i n) kv bv tv w':=by
 have k0:kidAt n 0=a:=by simp[kidAt,Qnf]
 have hbr:Q3y r t W s i n={Qb W {((Qx t ((J4 r s 3 n.text i).2.setKind a (J4 r s 3 n.text i).1) a).addLocal a) with inHear:=true} (n.kids.drop 1) with inHear:=false,locals:=(Qb W {((Qx t ((J4 r s 3 n.text i).2.setKind a (J4 r s 3 n.text i).1) a).addLocal a) with inHear:=true} (n.kids.drop 1)).locals.dropLast}:=by unfold Q3y;rw[k0]
 generalize Q3y r t W s i n=X at hbr ⊢;have hai:=(hl a (by rw[Qnf];simp)).1;have hk0:Q0 nob w (w.alloc (.cells #[.int .i64 n.kind,.string n.text,.int .i64 n.i,nk] 70)):=(Kr _ _).alloc _;have hb0:=Blk.new w [.int .i64 n.kind,.string n.text,.int .i64 n.i,nk] 70;have hF0:Jh (Jj S w.heap.size) (w.alloc (.cells #[.int .i64 n.kind,.string n.text,.int .i64 n.i,nk] 70)):=fun k hk=>⟨hF k (by simp at hk;omega),by simp at hk;omega⟩
 generalize hW0:w.alloc (.cells #[.int .i64 n.kind,.string n.text,.int .i64 n.i,nk] 70)=W0 at hk0 hF0;replace hb0:Blk W0 w.heap.size [.int .i64 n.kind,.string n.text,.int .i64 n.i,nk] 70:=hW0▸hb0;have Qnn:∀k,k<W0.heap.size→Jj S w.heap.size k→S k:=fun _ _ h=>h.1
 have h0:J0 (Jj S w.heap.size) W0 cb ⟨rb,ro,none⟩ ⟨tb,tq,none⟩ s kv bv lv tv wv:=(h.mono fun k hk hS=>⟨hS,Om⟩).nobk hk0;have hr0:=(hr.kept (hk0.ofNob S)).mono Qnn;have ht0:=(ht.kept (hk0.ofNob S)).mono Qnn;have hn0:=(hnk.kept (hk0.ofNob S)).mono Qnn;obtain⟨A,p,o,c,rfl,ll,lc,hA,Qni⟩:=hn0.ints;have Qpg:2≤n.kids.length:=by rw[Qnf];simp
 obtain⟨rfl,hpS⟩:=hA Om;have Qo3:0<t.nodes.length:=by have:=hai.1;have:=hai.2;omega
 obtain⟨tA,nb,no,nc,tc,tl,tlc,tS,tA',_,tn⟩:=ht0.tree;obtain⟨rfl,nS⟩:=tA' Qo3;obtain⟨g,kc,hkv,Qnt,hSg⟩:=h0.kindRow hok Qo3;obtain⟨ma,rfl,hpn⟩:=Q1.at_lt hai;have hma:(ma:Int)<t.nodes.length:=hai.2;obtain⟨pv,pc,_⟩:=tn ma _ hpn;have c3:=hb0.cell 3 _ rfl;have c1:=hb0.cell 1 _ rfl
 have hbk:∀W',Q0 (Jj S w.heap.size) W0 W'→W'.cell? ⟨w.heap.size,3,none⟩=some (.slice (some ⟨p,o,none⟩) n.kids.length c)∧W'.cell? ⟨p,o,none⟩=some (.int .i64 (ma:Int))∧W'.cell? ⟨w.heap.size,1,none⟩=some (.string n.text)∧W'.cell? ⟨tb,tq,none⟩=some (.slice (some ⟨nb,no,none⟩) t.nodes.length nc)∧W'.cell? ⟨nb,no+ma*4+1,none⟩=some (.string (t.at (ma:Int)).text):=fun W' hk =>
  ⟨hk.cell (fun hh=>hh.2 rfl) c3,by have:=Qni 0 (ma:Int) (by rw[Qnf];rfl) W' hk;simpa using this,hk.cell (fun hh=>hh.2 rfl) c1,tc W' hk,(pc W' hk).2.1⟩
 obtain⟨_,e0',_⟩:=hbk W0 (Kr _ _);have Qp7:=hok.few h00;have hnm:=hok.named r 3 n.text i;have Qqb:=hnm.setKind (ma:Int) (J4 r s 3 n.text i).1;have hlc:(Qx t ((J4 r s 3 n.text i).2.setKind (ma:Int) (J4 r s 3 n.text i).1) (ma:Int)).locals=s.locals:=by rw[Q17];exact X5 _ _ _ _ _
 have Quy:=Qqb.twice (ma:Int);have Qqd:=Quy.addLocal (ma:Int) hai (fun hc=>Q91 hc);have Quz:Qe t {((Qx t ((J4 r s 3 n.text i).2.setKind (ma:Int) (J4 r s 3 n.text i).1) (ma:Int)).addLocal (ma:Int)) with inHear:=true}:=⟨Qqd.kinds,Qqd.bind,Qqd.locals,Qqd.tops,Qqd.top,Qqd.nodup,Qqd.withs⟩;have HBK:=Hh hbk;have HC:=Hh Qni;have H0:=Hh h0;have HR:=Hh hr0;have HT:=Hh ht0;have HF:=Hh hF0;have Qq2:=Hh Quz;have Qqc:=Hh Qqb.locals;have HNM:=Hh hnm.kinds;have HL:=Hh hl;have HX:=Hh hbr;have Qnm:(1:Int)≤n.kids.length:=Om
 have Qo7:0<n.kids.length:=Om
 have hc1:¬ c=1:=Om
 have hKS:Q0 S w W0:=hk0.ofNob S;have Qoi:=Hh Qnt;have HSG:=Hh hSg;have HI0:=Hh hai.1;have HLC:=Hh hlc;have Qpz:Hi (s.locals.length≤4000):=Hh Om;have x4:W0.cell? ⟨cb,4,none⟩=some kv:=h0.blk.cell 4 _ rfl;have HNC:=Hh (fun w2 (h2:J0 (Jj S w.heap.size) w2 cb ⟨rb,ro,none⟩ ⟨tb,tq,none⟩ s kv bv lv tv wv) (h3:Xa w2 rb ro r)=>Q2z h2 r h3 3 n.text i);generalize hQ:J4 r s 3 n.text i=q at HX Qq2 Qqc HNM HNC HLC;have Qze:(0:Int)≤ma:=Om
 clear hb0 Qnn h0 hr0 ht0 hn0 Qni hF0 h hr ht hnk hl Qnf hok h00 hF hA hbk hai tc tn tA' Qnt hSg Qo3 pc hpn hbr Qqb Quy Qqd Quz hnm hQ hlc k0 Qp7 c3 hsz Qpg;subst hkv;go_enter func169,ntmps169;go_upto_region 2 with fail
 have y1:=HBK.o W0 (Kr _ _);go_region_held3 (fun W=>W.cell? ⟨cb,4,none⟩=some (.slice (some ⟨g,0,none⟩) t.nodes.length kc)∧W.cell? ⟨w.heap.size,1,none⟩=some (.string n.text)) (first|exact⟨x4,y1.2.2.1⟩|exact⟨hat.1.blk.cell 4 _ rfl,(HBK.o _ Qp0).2.2.1⟩|exact⟨HC3.o.blk.cell 4 _ rfl,(HBK.o _ HK3.o).2.2.1⟩) ((first|(go_at_call 199;refine (HNC.o _ (H0.o.drew) (HR.o.kept (Kr _ _).drew).now).mono ?_;rintro e w2 ⟨rfl,Qov⟩;have hat:Q31 (Jj S w.heap.size) W0 cb ⟨rb,ro,none⟩ ⟨tb,tq,none⟩ q.2 (.slice (some ⟨g,0,none⟩) t.nodes.length kc) bv lv tv wv w2:=⟨Qov.1,Qov.2.undrew⟩;have Qp0:Q0 (Jj S w.heap.size) W0 w2:=hat.2.mono fun k _ e=>e▸hat.1.inS;obtain⟨z1,z2⟩:=hat.1.kindCell (mi:=ma) Qoi.o (by rw[HNM.o];omega);have hs3:=hat.1.setK Qoi.o (ma:Int) q.1 HI0.o;rw[Int.toNat_natCast] at hs3;have HC3:=Hh hs3;have HK3:=Hh (Qp0.setCell (p:=⟨g,ma,none⟩) (Or.inl HSG.o) (.int .i64 q.1));clear hs3;dsimp only)));have y3:=HBK.o _ HK3.o;have x1:(w2.setCell ⟨g,ma,none⟩ (.int .i64 q.1)).cell? ⟨cb,1,none⟩=some (.pointer (some ⟨tb,tq,none⟩)):=HC3.o.blk.cell 1 _ rfl;have x6:(w2.setCell ⟨g,ma,none⟩ (.int .i64 q.1)).cell? ⟨cb,6,none⟩=some lv:=HC3.o.blk.cell 6 _ rfl;obtain⟨_,_,_,y3d,y3e⟩:=y3;clear hat Qp0 z1 z2 y1 x4 c1 e0';generalize hW3:w2.setCell ⟨g,ma,none⟩ (.int .i64 q.1)=w3 at HC3 HK3 x1 x6 y3d y3e;clear hW3;generalize Qqb:q.2.setKind (ma:Int) q.1=st1 at HX Qq2 Qqc HLC HC3;clear Qqb HNC HNM
 by_cases hn:0≤Q3 t st1.locals (t.at (ma:Int)).text
 ·have t1:decide (0≤Q3 t st1.locals (t.at (ma:Int)).text)=true:=by simpa using hn
  have HTW:Hi (Qx t st1 (ma:Int)=st1.fail 2 (ma:Int)):=Hh (by unfold Qx;rw[Ps hn]);clear hn;go_upto_region 5 with (first|(go_at_call 196;refine (Q0f HC3.o t (HT.o.kept HK3.o).now Qqc.o _).mono ?_;rintro e w1 ⟨rfl,rfl⟩)|(go_at_call 92;refine (Ze HC3.o _ _).mono ?_;rintro e w4 ⟨rfl,hat⟩;have HC4:Hi (J0 (Jj S w.heap.size) w4 cb ⟨rb,ro,none⟩ ⟨tb,tq,none⟩ (Qx t st1 (ma:Int)) (.slice (some ⟨g,0,none⟩) t.nodes.length kc) bv lv tv wv):=Hh (HTW.o▸hat.1);have HK4:=Hh (HK3.o.trans (hat.2.mono fun k _ e=>e▸hat.1.inS));have x64:w4.cell? ⟨cb,6,none⟩=some lv:=hat.1.blk.cell 6 _ rfl;clear hat))
  go_upto_region 7 with (at_builtin;refine Qt (Jj S w.heap.size) rfl _ _ 26 3 (.int .i64 0) 8 rfl underlying26 Kf rfl lv (Q5 s.locals) (.int .i64 (ma:Int)) rfl rfl Sm rfl (HLC.o▸HC4.o.l) (HF.o.kept HK4.o) (by have:=Qpz.o;simp[Q5];omega) (by have:=Qpz.o;simp[Q5];omega) ?_;intro nv1 w5 Qnq hk2 hat;obtain⟨nA2,nc2,rfl⟩:=Qnq.len;rw[show (Q5 s.locals++[Value.int .i64 (ma:Int)]).length=(Q5 s.locals).length+1 from by simp] at Qnq hat;have hb5:=HC4.o.blk.kept hk2 (HC4.o.noCb.2.2.1);have c65:=hb5.cell 6 _ rfl;have f65:=hb5.free 6;have f115:=hb5.free 11;have c115:=hb5.cell 11 _ rfl)
  have h6:=HC4.o.swapL (l1:=s.locals++[(ma:Int)]) (by have:=Qnq;rwa [show Q5 s.locals++[.int .i64 (ma:Int)]=Q5 (s.locals++[(ma:Int)]) from by simp[Q5]] at this) hk2 (hat.elim .inl fun h=>.inr (.inr h));have h7:=h6.setHear true;have hk7:=((HK4.o.trans (hk2.mono fun k _ hk=>HC4.o.l.2 k hk)).setCell (p:=⟨cb,6,none⟩) (Or.inl HC4.o.inS) (.slice nA2 ((Q5 s.locals).length+1) nc2)).setCell (p:=⟨cb,11,none⟩) (Or.inl HC4.o.inS) (.bool true);have y7:=HBK.o _ hk7
  have hst:({({Qx t st1 (ma:Int) with locals:=s.locals++[(ma:Int)]}:CS) with inHear:=true}:CS)={((Qx t st1 (ma:Int)).addLocal (ma:Int)) with inHear:=true}:=by
   unfold CS.addLocal;rw[HLC.o]
  rw[hst] at h7;have HC7:=Hh h7;have HK7:=Hh hk7;obtain⟨y7a,y7b,_⟩:=y7;clear h6 h7 hk7 hst hb5 Qnq hat hk2 c65 f65 f115 c115;generalize hW7:(w5.setCell ⟨cb,6,none⟩ (.slice nA2 ((Q5 s.locals).length+1) nc2)).setCell ⟨cb,11,none⟩ (.bool true)=w7 at HC7 HK7 y7a y7b ⊢;clear hW7;have HGR:=Hh (Nat.le_trans (show 1≤({((Qx t st1 (ma:Int)).addLocal (ma:Int)) with inHear:=true}:CS).locals.length by show 1≤((Qx t st1 (ma:Int)).locals++[(ma:Int)]).length;simp) (Q1u.kids hGr (n.kids.drop 1) {((Qx t st1 (ma:Int)).addLocal (ma:Int)) with inHear:=true}));generalize hS4:({((Qx t st1 (ma:Int)).addLocal (ma:Int)) with inHear:=true}:CS)=st4 at HX Qq2 HC7 HGR;go_upto_region 9 with (go_at_call 93;refine (Xw hW hO HC7.o (HR.o.kept HK7.o) (HT.o.kept HK7.o) Qq2.o (HF.o.kept HK7.o) _ (n.kids.drop 1) ((Qj.drop HC.o ll (fun _=>rfl) rfl Om).kept HK7.o) (fun k hk=>HL.o k (List.mem_of_mem_drop hk))).mono ?_;rintro e w8 ⟨rfl,⟨lv8,wv8,hc8⟩,hk8⟩;have f118:=hc8.blk.free 11;have c118:=hc8.blk.cell 11 _ rfl)
  obtain⟨lA,lc8,Qot⟩:=hc8.l.len;rw[show (Q5 (Qb W st4 (n.kids.drop 1)).locals).length=(Qb W st4 (n.kids.drop 1)).locals.length from by simp[Q5]] at Qot;have h9:=hc8.setHear false;generalize hS5:Qb W st4 (n.kids.drop 1)=st5 at HX HGR h9 Qot hc8;have f69:=h9.blk.free 6;have c69:(w8.setCell ⟨cb,11,none⟩ (.bool false)).cell? ⟨cb,6,none⟩=some lv8:=h9.blk.cell 6 _ rfl;obtain⟨m8,hm8⟩:∃m:Nat,m=st5.locals.length-1:=⟨_,rfl⟩;obtain⟨lA',g8,lc8',Qqr,Qs3,Qs4,_,_⟩:=h9.l.openI;have Qtm:st5.locals.length≤9223372036854775807:=Qs3;have Qs5:IntKind.i64.wrap ((st5.locals.length:Int)-1)=(m8:Int):=by have:=HGR.o;rw[IntKind.wrap_i64];omega
  have Qs6:wrap64 ((st5.locals.length:Int)-1)=(m8:Int):=by have:=HGR.o;unfold wrap64;omega
  have Qxb:st5.locals.length≤lc8:=by rw[Qot] at Qqr;injection Qqr with _ _ e;rw[e];exact Qs4
  have Qxc:(m8:Int)≤(lc8:Int):=Om
  exact K0n
 ·have t1:decide (0≤Q3 t st1.locals (t.at (ma:Int)).text)=false:=by simpa using hn
  have HTW:Hi (Qx t st1 (ma:Int)=st1):=Hh (by unfold Qx;rw[Ng hn]);clear hn;have HC4:Hi (J0 (Jj S w.heap.size) w3 cb ⟨rb,ro,none⟩ ⟨tb,tq,none⟩ (Qx t st1 (ma:Int)) (.slice (some ⟨g,0,none⟩) t.nodes.length kc) bv lv tv wv):=Hh (HTW.o.symm▸HC3.o);have HK4:=HK3;have x64:=x6;go_upto_region 5 with (first|(go_at_call 196;refine (Q0f HC3.o t (HT.o.kept HK3.o).now Qqc.o _).mono ?_;rintro e w1 ⟨rfl,rfl⟩)|(go_at_call 92;refine (Ze HC3.o _ _).mono ?_;rintro e w4 ⟨rfl,hat⟩;have HC4:Hi (J0 (Jj S w.heap.size) w4 cb ⟨rb,ro,none⟩ ⟨tb,tq,none⟩ (Qx t st1 (ma:Int)) (.slice (some ⟨g,0,none⟩) t.nodes.length kc) bv lv tv wv):=Hh (HTW.o▸hat.1);have HK4:=Hh (HK3.o.trans (hat.2.mono fun k _ e=>e▸hat.1.inS));have x64:w4.cell? ⟨cb,6,none⟩=some lv:=hat.1.blk.cell 6 _ rfl;clear hat))
  go_upto_region 7 with (at_builtin;refine Qt (Jj S w.heap.size) rfl _ _ 26 3 (.int .i64 0) 8 rfl underlying26 Kf rfl lv (Q5 s.locals) (.int .i64 (ma:Int)) rfl rfl Sm rfl (HLC.o▸HC4.o.l) (HF.o.kept HK4.o) (by have:=Qpz.o;simp[Q5];omega) (by have:=Qpz.o;simp[Q5];omega) ?_;intro nv1 w5 Qnq hk2 hat;obtain⟨nA2,nc2,rfl⟩:=Qnq.len;rw[show (Q5 s.locals++[Value.int .i64 (ma:Int)]).length=(Q5 s.locals).length+1 from by simp] at Qnq hat;have hb5:=HC4.o.blk.kept hk2 (HC4.o.noCb.2.2.1);have c65:=hb5.cell 6 _ rfl;have f65:=hb5.free 6;have f115:=hb5.free 11;have c115:=hb5.cell 11 _ rfl)
  have h6:=HC4.o.swapL (l1:=s.locals++[(ma:Int)]) (by have:=Qnq;rwa [show Q5 s.locals++[.int .i64 (ma:Int)]=Q5 (s.locals++[(ma:Int)]) from by simp[Q5]] at this) hk2 (hat.elim .inl fun h=>.inr (.inr h));have h7:=h6.setHear true;have hk7:=((HK4.o.trans (hk2.mono fun k _ hk=>HC4.o.l.2 k hk)).setCell (p:=⟨cb,6,none⟩) (Or.inl HC4.o.inS) (.slice nA2 ((Q5 s.locals).length+1) nc2)).setCell (p:=⟨cb,11,none⟩) (Or.inl HC4.o.inS) (.bool true);have y7:=HBK.o _ hk7
  have hst:({({Qx t st1 (ma:Int) with locals:=s.locals++[(ma:Int)]}:CS) with inHear:=true}:CS)={((Qx t st1 (ma:Int)).addLocal (ma:Int)) with inHear:=true}:=by
   unfold CS.addLocal;rw[HLC.o]
  rw[hst] at h7;have HC7:=Hh h7;have HK7:=Hh hk7;obtain⟨y7a,y7b,_⟩:=y7;clear h6 h7 hk7 hst hb5 Qnq hat hk2 c65 f65 f115 c115;generalize hW7:(w5.setCell ⟨cb,6,none⟩ (.slice nA2 ((Q5 s.locals).length+1) nc2)).setCell ⟨cb,11,none⟩ (.bool true)=w7 at HC7 HK7 y7a y7b ⊢;clear hW7;have HGR:=Hh (Nat.le_trans (show 1≤({((Qx t st1 (ma:Int)).addLocal (ma:Int)) with inHear:=true}:CS).locals.length by show 1≤((Qx t st1 (ma:Int)).locals++[(ma:Int)]).length;simp) (Q1u.kids hGr (n.kids.drop 1) {((Qx t st1 (ma:Int)).addLocal (ma:Int)) with inHear:=true}));generalize hS4:({((Qx t st1 (ma:Int)).addLocal (ma:Int)) with inHear:=true}:CS)=st4 at HX Qq2 HC7 HGR;go_upto_region 9 with (go_at_call 93;refine (Xw hW hO HC7.o (HR.o.kept HK7.o) (HT.o.kept HK7.o) Qq2.o (HF.o.kept HK7.o) _ (n.kids.drop 1) ((Qj.drop HC.o ll (fun _=>rfl) rfl Om).kept HK7.o) (fun k hk=>HL.o k (List.mem_of_mem_drop hk))).mono ?_;rintro e w8 ⟨rfl,⟨lv8,wv8,hc8⟩,hk8⟩;have f118:=hc8.blk.free 11;have c118:=hc8.blk.cell 11 _ rfl)
  obtain⟨lA,lc8,Qot⟩:=hc8.l.len;rw[show (Q5 (Qb W st4 (n.kids.drop 1)).locals).length=(Qb W st4 (n.kids.drop 1)).locals.length from by simp[Q5]] at Qot;have h9:=hc8.setHear false;generalize hS5:Qb W st4 (n.kids.drop 1)=st5 at HX HGR h9 Qot hc8;have f69:=h9.blk.free 6;have c69:(w8.setCell ⟨cb,11,none⟩ (.bool false)).cell? ⟨cb,6,none⟩=some lv8:=h9.blk.cell 6 _ rfl;obtain⟨m8,hm8⟩:∃m:Nat,m=st5.locals.length-1:=⟨_,rfl⟩;obtain⟨lA',g8,lc8',Qqr,Qs3,Qs4,_,_⟩:=h9.l.openI;have Qtm:st5.locals.length≤9223372036854775807:=Qs3;have Qs5:IntKind.i64.wrap ((st5.locals.length:Int)-1)=(m8:Int):=by have:=HGR.o;rw[IntKind.wrap_i64];omega
  have Qs6:wrap64 ((st5.locals.length:Int)-1)=(m8:Int):=by have:=HGR.o;unfold wrap64;omega
  have Qxb:st5.locals.length≤lc8:=by rw[Qot] at Qqr;injection Qqr with _ _ e;rw[e];exact Qs4
  have Qxc:(m8:Int)≤(lc8:Int):=Om
  exact K0n
end
theorem J0.aside {S T:Nat→Prop} {w w':World} {cb:Nat} {ra ta:Addr} {s:CS} {kv bv lv tv wv:Value} (h:J0 S w cb ra ta s kv bv lv tv wv) (hk:Q0 T w w') (hT:∀k,T k→¬ S k):J0 S w' cb ra ta s kv bv lv tv wv :=
 ⟨h.blk.kept hk (fun hh=>hT _ hh h.inS),h.inS,h.k.kept hk (fun k hv hh=>hT k hh (h.k.2 k hv)),h.b.kept hk (fun k hv hh=>hT k hh (h.b.2 k hv)),h.l.kept hk (fun k hv hh=>hT k hh (h.l.2 k hv)),h.t.kept hk (fun k hv hh=>hT k hh (h.t.2 k hv)),h.w.kept hk (fun k hv hh=>hT k hh (h.w.2 k hv)),h.dis⟩
def Q9l (S:Nat→Prop) (v:Value):Nat→Prop:=fun k=>S k∧v.ownBlock≠some k
section
variable {r:Reg} {t:Q1} {S:Nat→Prop} {w:World} {cb rb ro tb tq:Nat} {s:CS} {kv bv lv tv wv:Value} {b:Int} {W:CS→Int→CS}
theorem Qlg (hW:Q0r r t b W) (hO:Yc t W) (h:J0 S w cb ⟨rb,ro,none⟩ ⟨tb,tq,none⟩ s kv bv lv tv wv) (hr:Qj S w fun w=>Xa w rb ro r) (ht:Qj S w fun w=>J8 w tb tq t) (hok:Qe t s) (hF:Jh S w)
  (n:Qn) (hsm:n.kids.length≤1048576) (nk:Value) (hnk:Qj S w fun w=>Qf w nk n.kids) (hl:∀k∈n.kids,InT t k∧(∃e es,(t.at k).kids=e::es)∧∀x∈(t.at k).kids,InT t x∧x<b) :
  Calls prog 170 #[.pointer (some ⟨cb,0,none⟩),.agg #[.int .i64 n.kind,.string n.text,.int .i64 n.i,nk]] w fun e w'=>e=.returned (.tuple #[]) ∧
   AtS S w cb ⟨rb,ro,none⟩ ⟨tb,tq,none⟩ (Xe r t W n.kids [] s) kv bv tv w':=by
 generalize hX:Xe r t W n.kids [] s=X;have HSM:=Hh hsm;clear hsm;have hk0:Q0 nob w (w.alloc (.cells #[.int .i64 n.kind,.string n.text,.int .i64 n.i,nk] 70)):=(Kr _ _).alloc _;have hb0:=Blk.new w [.int .i64 n.kind,.string n.text,.int .i64 n.i,nk] 70;have hF0:Jh (Jj S w.heap.size) (w.alloc (.cells #[.int .i64 n.kind,.string n.text,.int .i64 n.i,nk] 70)):=fun k hk=>⟨hF k (by simp at hk;omega),by simp at hk;omega⟩
 have Qpu:(w.alloc (.cells #[.int .i64 n.kind,.string n.text,.int .i64 n.i,nk] 70)).heap.size=w.heap.size+1:=Sm
 generalize hW0:w.alloc (.cells #[.int .i64 n.kind,.string n.text,.int .i64 n.i,nk] 70)=W0 at hk0 hF0 Qpu;replace hb0:Blk W0 w.heap.size [.int .i64 n.kind,.string n.text,.int .i64 n.i,nk] 70:=hW0▸hb0;have Qnn:∀k,k<W0.heap.size→Jj S w.heap.size k→S k:=fun _ _ h=>h.1
 have h0:J0 (Jj S w.heap.size) W0 cb ⟨rb,ro,none⟩ ⟨tb,tq,none⟩ s kv bv lv tv wv:=(h.mono fun k hk hS=>⟨hS,Om⟩).nobk hk0;have hr0:=(hr.kept (hk0.ofNob S)).mono Qnn;have ht0:=(ht.kept (hk0.ofNob S)).mono Qnn;have hn0:=(hnk.kept (hk0.ofNob S)).mono Qnn;obtain⟨A,p,o,c,rfl,ll,lc,hA,Qni⟩:=hn0.ints;obtain⟨tA,nb,no,nc,tc,tl,tlc,tS,tA',_,tn⟩:=ht0.tree;have c3:=hb0.cell 3 _ rfl;have hN0:Qc (Jj S w.heap.size) 9 (W0.alloc (.cells #[] 9)) (.slice (some ⟨W0.heap.size,0,none⟩) 0 0) (strs []):=Qc.lit _ _ _ [] (hF0 _ (Nat.le_refl _)) Sm rfl rfl rfl;have hK1:Q0 nob W0 (W0.alloc (.cells #[] 9)):=(Kr _ _).alloc _
 have hC1:J0 (Q9l (Jj S w.heap.size) (.slice (some ⟨W0.heap.size,0,none⟩) 0 0)) (W0.alloc (.cells #[] 9)) cb ⟨rb,ro,none⟩ ⟨tb,tq,none⟩ s kv bv lv tv wv :=
  (h0.mono fun k hk hS=>⟨hS,by simp[Value.ownBlock];omega⟩).nobk hK1
 have c3':(W0.alloc (.cells #[] 9)).cell? ⟨w.heap.size,3,none⟩=some (.slice A n.kids.length c):=hK1.cell (fun h=>h) c3;have HX:=Hh hX;have HC:=Hh Qni;have HA:=Hh hA;have HR:=Hh hr0;have HT:=Hh ht0;have HTC:=Hh tc;have HTN:=Hh tn;have HTA:=Hh tA';have HF:=Hh hF0;have HOK:=Hh hok;have HL:=Hh hl;have HN0:=Hh hN0;have HC1:=Hh hC1;have Qxd:=Hh hK1;have hKS:Q0 S w W0:=hk0.ofNob S;have HB0:=Hh hb0;clear hb0 Qnn h0 hr0 ht0 hn0 Qni hF0 h hr ht hnk hl hok hF hA tc tn tA' hX hN0 hC1 hK1 Qpu;go_enter func170,ntmps170;go_wp2_with fail
 go_loopw [4,6,7,8,13] (fun nv u6 u7 u8 ci wr=>∃(j:Nat) (sj:CS) (lv1 wv1:Value),j≤n.kids.length∧ci=.int .i64 j∧Hi (Qc (Jj S w.heap.size) 9 wr nv (strs (Qd t (n.kids.take j))) ∧
  J0 (Q9l (Jj S w.heap.size) nv) wr cb ⟨rb,ro,none⟩ ⟨tb,tq,none⟩ sj kv bv lv1 tv wv1∧Q0 (Jj S w.heap.size) W0 wr∧Qe t sj∧Xe r t W n.kids [] s=Xe r t W (n.kids.drop j) (Qd t (n.kids.take j)) sj)) (fun _ _ _ _ ci _=>n.kids.length-(intOf ci).toNat)
 case atStart=>exact⟨0,s,lv,wv,Nat.zero_le _,rfl,Hh ⟨HN0.o,HC1.o,Qxd.o.ofNob _,HOK.o,rfl⟩⟩
 case round =>
  obtain⟨j,sj,lv1,wv1,hj,rfl,HAT⟩:=hrel;obtain⟨wo,rfl⟩:∃wo:World,wo=wr:=⟨_,rfl⟩
  by_cases hlt:j<n.kids.length
  ·obtain⟨k,hx⟩:=Q4 hlt
   obtain⟨hki,⟨e0,es,hek⟩,hkx⟩:=HL.o k (Mg hx);obtain⟨rfl,_⟩:=HA.o Om;obtain⟨Qnt,hch,Qp0,Qt5,hst⟩:=HAT.o;obtain⟨nA,nc1,rfl⟩:=Qnt.len;have q0:=HC.o j k hx wo Qp0;obtain⟨pm,rfl,hpn⟩:=Q1.at_lt hki;have hpl:(pm:Int)<t.nodes.length:=hki.2;obtain⟨rfl,nS⟩:=HTA.o Om;obtain⟨pv,pc,pst⟩:=HTN.o pm _ hpn;obtain⟨pA,pb,po,pcap,rfl,pl,plc,pA',pcl⟩:=pst.ints;have q1:wo.cell? ⟨cb,1,none⟩=some (.pointer (some ⟨tb,tq,none⟩)):=hch.blk.cell 1 _ rfl;have q2:=HTC.o wo Qp0;obtain⟨q3,q4,q5,q6⟩:=pc wo Qp0;rw[Qh hx] at hst;simp only[Xe] at hst;have htx:Qd t (n.kids.take j)++[(t.at (pm:Int)).text]=Qd t (n.kids.take (j+1)):=by rw[Js hx];simp[Qd]
   rw[htx] at hst;have hnl:(Qd t (n.kids.take j)).length=j:=by simp[Qd];omega
   generalize hNM:Qd t (n.kids.take j)=names at Qnt hch hst hnl htx HAT;have Qs7:Q0 nob wo (wo.alloc (.cells #[.int .i64 (t.at (pm:Int)).kind,.string (t.at (pm:Int)).text,.int .i64 (t.at (pm:Int)).i,.slice pA (t.at (pm:Int)).kids.length pcap] 70)):=(Kr _ _).alloc _;have hbx:=Blk.new wo [.int .i64 (t.at (pm:Int)).kind,.string (t.at (pm:Int)).text,.int .i64 (t.at (pm:Int)).i,.slice pA (t.at (pm:Int)).kids.length pcap] 70;have Qtn:(wo.alloc (.cells #[.int .i64 (t.at (pm:Int)).kind,.string (t.at (pm:Int)).text,.int .i64 (t.at (pm:Int)).i,.slice pA (t.at (pm:Int)).kids.length pcap] 70)).heap.size=wo.heap.size+1:=Sm
   generalize hWx:wo.alloc (.cells #[.int .i64 (t.at (pm:Int)).kind,.string (t.at (pm:Int)).text,.int .i64 (t.at (pm:Int)).i,.slice pA (t.at (pm:Int)).kids.length pcap] 70)=wx at Qs7 Qtn;replace hbx:Blk wx wo.heap.size [.int .i64 (t.at (pm:Int)).kind,.string (t.at (pm:Int)).text,.int .i64 (t.at (pm:Int)).i,.slice pA (t.at (pm:Int)).kids.length pcap] 70:=hWx▸hbx;generalize hSx:Jj (Q9l (Jj S w.heap.size) (.slice nA (strs names).length nc1)) wo.heap.size=Sx;have Qrb:∀k,Sx k→Jj S w.heap.size k:=fun k hk=>by rw[← hSx] at hk;exact hk.1.1
   have Qv0:∀k,Sx k→(Value.slice nA (strs names).length nc1).ownBlock≠some k:=fun k hk=>by rw[← hSx] at hk;exact hk.1.2
   have Qv1:∀k,Sx k→k≠wo.heap.size:=fun k hk=>by rw[← hSx] at hk;exact hk.2
   have Qv2:J0 Sx wx cb ⟨rb,ro,none⟩ ⟨tb,tq,none⟩ sj kv bv lv1 tv wv1:=(hch.mono fun k hk hS=>by rw[← hSx];exact⟨hS,Om⟩).nobk Qs7
   have hFx:Jh Sx wx:=fun k hk=>by
    rw[← hSx]
    refine⟨⟨HF.o.kept Qp0 k Om,fun e=>?_⟩,Om⟩
    have:=Qnt.lt k e;omega
   have Qp8:Q0 (Jj S w.heap.size) W0 wx:=Qp0.trans (Qs7.ofNob _);have hrx:=(HR.o.kept Qp8).mono (fun k _=>Qrb k);have htx':=(HT.o.kept Qp8).mono (fun k _=>Qrb k);have hpx:=(pst.kept Qp8).mono (fun k _=>Qrb k);have g3:=hbx.cell 3 _ rfl;have Qoj:=Qe.kids hO (t.at (pm:Int)).kids (fun x hx=>(hkx x hx).1) Qt5;have Qxe:=Hh Qv2;have HFX:=Hh hFx;have HRX:=Hh hrx;have HTX:=Hh htx';have HPX:=Hh hpx;have Qxf:0<(t.at (pm:Int)).kids.length:=by rw[hek];simp
   obtain⟨rfl,Qv3⟩:=pA' Qxf;have HE9:=Hh (hkx e0 (by rw[hek];simp)).1;have HPE:Hi (∀W,Q0 Sx wx W→W.cell? ⟨pb,po,none⟩=some (.int .i64 e0)):=Hh (fun W hk=>by have:=pcl 0 e0 (by rw[hek];rfl) W (Qp8.trans (hk.mono fun k _ h=>Qrb k h));simpa using this);have Qv4:Hi (kidAt (t.at (pm:Int)) 0=e0):=Hh (by simp[kidAt,hek]);have Qq1:=Hh Qt5;have Qo0:=Hh Qoj;have HKX:=Hh hkx;have HST:=Hh (HX.o.symm.trans hst);have HBX:=Hh hbx;have HS1:=Hh Qrb;have HS2:=Hh Qv0;have HS3:=Hh Qv1;have HEK:=Hh hek;have Qoi:=Hh Qnt;have Qpk:=Hh Qp8;have Qxg:=Hh Qs7;have HNL:=Hh hnl;have Qv5:=Hh htx;have Qzf:=Hh Qp0;have Qzg:=Hh Qtn;clear Qtn pcl pA' hx hki hkx hek hpn pc pst hch Qnt Qp0 Qt5 hst htx hnl hbx Qv2 hFx hrx htx' hpx Qoj Qp8 Qrb Qv0 Qv1 hSx HAT hNM Qs7;go_upto_region 7 with (go_at_call 93;refine (Xw hW hO Qxe.o HRX.o HTX.o Qq1.o HFX.o _ (t.at (pm:Int)).kids HPX.o (fun x hx=>HKX.o x hx)).mono ?_;rintro e w2 ⟨rfl,⟨lv2,wv2,hc2⟩,hk2⟩;have HC2:=Hh hc2;have HK2:=Hh hk2;have z2:=hc2.blk.cell 2 _ rfl;clear hc2 hk2)
   have y1:=(HBX.o.kept HK2.o (fun hh=>HS3.o _ hh rfl)).cell 1 _ rfl;have y3:=(HBX.o.kept HK2.o (fun hh=>HS3.o _ hh rfl)).cell 3 _ rfl;generalize hS1:Qb W sj (t.at (pm:Int)).kids=s1 at HST Qo0 HC2 z2;have Qv6:=Hh (HBX.o.kept HK2.o (fun hh=>HS3.o _ hh rfl))
   by_cases h0:s1.code=0
   ·rw[h0] at z2
    have Qqs:=Hh (HST.o.trans (Ng (by simpa using h0)));have Qs8:=(Qoi.o.nobk Qxg.o).kept HK2.o (fun k hk hh=>HS2.o k hh hk);have Qs9:=Hh Qs8;have Qto:=Hh (fun w2 (h2:J0 Sx w2 cb ⟨rb,ro,none⟩ ⟨tb,tq,none⟩ s1 kv bv lv2 tv wv2) (h3:Xa w2 rb ro r)=>Q2z h2 r h3 1 (t.at (pm:Int)).text (pm:Int));have Qpv:=Hh (Qo0.o.named r 1 (t.at (pm:Int)).text (pm:Int));clear HST h0 Qs8 hS1;generalize J4 r s1 1 (t.at (pm:Int)).text (pm:Int)=q at Qqs Qto Qpv;have Qtp:Sx cb:=HC2.o.inS;have Qv7:wo.heap.size≠cb:=fun e=>HS3.o cb Qtp e.symm
    have Qv8:(Value.slice nA (strs names).length nc1).ownBlock≠some cb:=HS2.o cb Qtp;have hNX:(Value.slice nA (strs names).length nc1).ownBlock≠some wo.heap.size:=fun e=>by have:=Qoi.o.lt _ e;omega
    have Qv9:(Value.slice nA (strs names).length nc1).ownBlock≠some pb:=fun e=>Qv3 (Qoi.o.2 _ e)
    have HHS:=Hh (And.intro Qv7 (And.intro Qv8 (And.intro hNX Qv9)));have Qrc:Hi (names.length≤1048576):=Hh (by have:=HSM.o;rw[HNL.o];omega);clear Qtp Qv7 Qv8 hNX Qv9 Qv3;cases hth:Zr (t.at (pm:Int)).text names with
    |true =>
     have Qtq:Hi (X=Xe r t W (n.kids.drop (j+1)) (Qd t (n.kids.take (j+1))) (Qp (q.2.fail 2 (pm:Int)) e0 q.1 (pm:Int))):=Hh (by rw[Qqs.o,Ps hth,Qv4.o]);have Qqt:=Hh ((Qpv.o.fail 2 (pm:Int)).kindIs e0 q.1 (pm:Int));have HE0:Hi (0≤e0∧e0<((q.2.fail 2 (pm:Int)).kinds.length:Int)):=Hh ⟨HE9.o.1,by rw[(Qpv.o.fail 2 (pm:Int)).kinds];exact HE9.o.2⟩;clear Qqs;go_wp2_with (first|(go_at_call 199;refine (Qto.o _ HC2.o (HRX.o.kept HK2.o).now).mono ?_;rintro e w3 ⟨rfl,Qnv⟩;have HC3:=Hh Qnv.1;have HK3:=Hh (HK2.o.trans (Qnv.2.mono fun k _ e=>e▸Qnv.1.inS));have HO3:=Hh (Qs9.o.kept Qnv.2 (fun k hk e=>HHS.o.2.1 (e▸hk)));have HB3:=Hh (Qv6.o.kept Qnv.2 HHS.o.1);have v1:=HB3.o.cell 1 _ rfl;clear Qnv)|(go_at_call 86;refine (Ye _ names _ _ (Qc.strs HO3.o (by have:=Qrc.o;omega))).mono ?_;rw[hth];rintro e w39 ⟨rfl,rfl⟩)|(go_at_call 92;refine (Ze HC3.o _ _).mono ?_;rintro e w4 ⟨rfl,Qrd⟩;have HC4:=Hh Qrd.1;have HK4:=Hh (HK3.o.trans (Qrd.2.mono fun k _ e=>e▸Qrd.1.inS));have HO4:=Hh (HO3.o.kept Qrd.2 (fun k hk e=>HHS.o.2.1 (e▸hk)));have HB4:=Hh (HB3.o.kept Qrd.2 HHS.o.1);have v4:=HB4.o.cell 1 _ rfl;have Qtr:=Hh (HF.o.kept (Qpk.o.trans (HK4.o.mono fun k _ h=>HS1.o k h)));clear Qrd)|(at_builtin;refine Qt (Jj S w.heap.size) rfl _ _ 66 9 (.string ByteArray.empty) 16 rfl underlying66 Kf rfl (.slice nA (strs names).length nc1) (strs names) (.string (t.at (pm:Int)).text) rfl rfl Sm rfl HO4.o Qtr.o (by have:=Qrc.o;simp[strs];omega) (by have:=Qrc.o;simp[strs];omega) ?_;intro nv1 w5 Qnk hk5 Qnp;obtain⟨nA5,nc5,rfl⟩:=Qnk.len;have HO5:=Hh Qnk;have HK5:=Hh hk5;have HA5:=Hh Qnp;have HB5:=Hh (HB4.o.kept hk5 HHS.o.2.2.1);have u3:=HB5.o.cell 3 _ rfl;have u0:=hk5.cell (a:=⟨pb,po,none⟩) HHS.o.2.2.2 (HPE.o _ HK4.o);have HC5:=Hh ((((HC4.o.mono (S':=fun k=>Q9l (Jj S w.heap.size) (.slice nA5 (strs names++[Value.string (t.at (pm:Int)).text]).length nc5) k∧(Value.slice nA (strs names).length nc1).ownBlock≠some k) (fun k hk hS=>⟨⟨HS1.o k hS,Qnp.elim (fun e=>by rw[e];exact HS2.o k hS) (fun⟨b9,e,hb9⟩=>by rw[e];intro e2;cases e2;omega)⟩,HS2.o k hS⟩)).aside hk5 (fun k hk hS=>hS.2 hk)).mono (S':=Q9l (Jj S w.heap.size) (.slice nA5 (strs names++[Value.string (t.at (pm:Int)).text]).length nc5)) (fun k _ h=>h.1)));clear Qnk hk5 Qnp)|(go_at_call 197;refine (Xp HC5.o _ _ _ HE0.o.1 HE0.o.2).mono ?_;rintro e w6 ⟨rfl,Qo1⟩));go_round
     case rel =>
      have e9:(strs names++[Value.string (t.at (pm:Int)).text]).length=(strs names).length+1:=Sm
      have h6:=Qo1.1;rw[e9] at h6;have h5:=HO5.o.kept Qo1.2 (fun k hk e=>by have:=HC5.o.inS.2;exact this (e▸hk));rw[e9,Q3w,Qv5.o] at h5;refine⟨j+1,_,lv2,wv2,Om,Gm,Hh ⟨h5,h6,?_,?_,?_⟩⟩
      ·have h1:=Qpk.o.trans (HK4.o.mono fun k _ h=>HS1.o k h)
       exact K0o
      ·exact Qqt.o
      ·rw[HX.o];exact Qtq.o
     case measure=>exact Me
    |false =>
     have Qtq:Hi (X=Xe r t W (n.kids.drop (j+1)) (Qd t (n.kids.take (j+1))) (Qp q.2 e0 q.1 (pm:Int))):=Hh (by rw[Qqs.o,Ng (by rw[hth];simp),Qv4.o]);have Qqt:=Hh (Qpv.o.kindIs e0 q.1 (pm:Int));have HE0:Hi (0≤e0∧e0<(q.2.kinds.length:Int)):=Hh ⟨HE9.o.1,by rw[Qpv.o.kinds];exact HE9.o.2⟩;clear Qqs;go_wp2_with (first|(go_at_call 199;refine (Qto.o _ HC2.o (HRX.o.kept HK2.o).now).mono ?_;rintro e w3 ⟨rfl,Qnv⟩;have HC3:=Hh Qnv.1;have HK3:=Hh (HK2.o.trans (Qnv.2.mono fun k _ e=>e▸Qnv.1.inS));have HO3:=Hh (Qs9.o.kept Qnv.2 (fun k hk e=>HHS.o.2.1 (e▸hk)));have HB3:=Hh (Qv6.o.kept Qnv.2 HHS.o.1);have v1:=HB3.o.cell 1 _ rfl;clear Qnv)|((go_at_call 86;refine (Ye _ names _ _ (Qc.strs HO3.o (by have:=Qrc.o;omega))).mono ?_;rw[hth];rintro e w39 ⟨rfl,rfl⟩);have HC4:=HC3;have HK4:=HK3;have HO4:=HO3;have HB4:=HB3;have Qtr:=Hh (HF.o.kept (Qpk.o.trans (HK4.o.mono fun k _ h=>HS1.o k h))))|(at_builtin;refine Qt (Jj S w.heap.size) rfl _ _ 66 9 (.string ByteArray.empty) 16 rfl underlying66 Kf rfl (.slice nA (strs names).length nc1) (strs names) (.string (t.at (pm:Int)).text) rfl rfl Sm rfl HO4.o Qtr.o (by have:=Qrc.o;simp[strs];omega) (by have:=Qrc.o;simp[strs];omega) ?_;intro nv1 w5 Qnk hk5 Qnp;obtain⟨nA5,nc5,rfl⟩:=Qnk.len;have HO5:=Hh Qnk;have HK5:=Hh hk5;have HA5:=Hh Qnp;have HB5:=Hh (HB4.o.kept hk5 HHS.o.2.2.1);have u3:=HB5.o.cell 3 _ rfl;have u0:=hk5.cell (a:=⟨pb,po,none⟩) HHS.o.2.2.2 (HPE.o _ HK4.o);have HC5:=Hh ((((HC4.o.mono (S':=fun k=>Q9l (Jj S w.heap.size) (.slice nA5 (strs names++[Value.string (t.at (pm:Int)).text]).length nc5) k∧(Value.slice nA (strs names).length nc1).ownBlock≠some k) (fun k hk hS=>⟨⟨HS1.o k hS,Qnp.elim (fun e=>by rw[e];exact HS2.o k hS) (fun⟨b9,e,hb9⟩=>by rw[e];intro e2;cases e2;omega)⟩,HS2.o k hS⟩)).aside hk5 (fun k hk hS=>hS.2 hk)).mono (S':=Q9l (Jj S w.heap.size) (.slice nA5 (strs names++[Value.string (t.at (pm:Int)).text]).length nc5)) (fun k _ h=>h.1)));clear Qnk hk5 Qnp)|(go_at_call 197;refine (Xp HC5.o _ _ _ HE0.o.1 HE0.o.2).mono ?_;rintro e w6 ⟨rfl,Qo1⟩));go_round
     case rel =>
      have e9:(strs names++[Value.string (t.at (pm:Int)).text]).length=(strs names).length+1:=Sm
      have h6:=Qo1.1;rw[e9] at h6;have h5:=HO5.o.kept Qo1.2 (fun k hk e=>by have:=HC5.o.inS.2;exact this (e▸hk));rw[e9,Q3w,Qv5.o] at h5;refine⟨j+1,_,lv2,wv2,Om,Gm,Hh ⟨h5,h6,?_,?_,?_⟩⟩
      ·have h1:=Qpk.o.trans (HK4.o.mono fun k _ h=>HS1.o k h)
       exact K0o
      ·exact Qqt.o
      ·rw[HX.o];exact Qtq.o
     case measure=>exact Me
   ·have t1:(s1.code != 0)=true:=by simpa using h0
    have Qqs:=Hh (HST.o.trans (Ps h0));clear h0;go_wp2_with fail;go_returns;obtain rfl:=Qqs.o;exact⟨rfl,⟨_,_,HC2.o.mono fun k _ h=>(HS1.o k h).1⟩,(hKS.trans (Qpk.o.mono fun k _ h=>h.1)).trans (HK2.o.mono fun k _ h=>(HS1.o k h).1)⟩
  ·obtain rfl:j=n.kids.length:=Om
   go_wp2_with fail;go_returns;obtain⟨Qnt,hch,Qp0,Qt5,hst⟩:=HAT.o;rw[List.drop_length,HX.o] at hst;simp only[Xe] at hst;subst hst;exact⟨rfl,⟨_,_,hch.mono fun k _ h=>h.1.1⟩,hKS.trans (Qp0.mono fun k _ h=>h.1)⟩
end
theorem Qg4 {r:Reg} {t:Q1} {l:List Int} {j:Nat} {k:Int} (hk:l[j]?=some k) (x:CS×List Int) :
  eachL r t (l.take (j+1)) x=((if r.find 1 (t.at k).text<0 then (eachL r t (l.take j) x).1.fail 3 k else if Zr (r.find 1 (t.at k).text) (eachL r t (l.take j) x).2 then (eachL r t (l.take j) x).1.fail 2 k else (eachL r t (l.take j) x).1),(eachL r t (l.take j) x).2++[r.find 1 (t.at k).text]):=by
 induction l generalizing j x with
 |nil=>simp at hk
 |cons y ys ih =>
  obtain⟨s,all⟩:=x;cases j with
  |zero=>simp at hk;subst hk;simp[eachL]
  |succ j =>
   simp only[List.take_succ_cons,eachL];exact ih (j:=j) (by simpa using hk) _
def Qb1 (S:Nat→Prop) (u v:Value):Nat→Prop:=fun k=>S k∧u.ownBlock≠some k∧v.ownBlock≠some k
structure Q2m (S:Nat→Prop) (w:World) (cb:Nat) (ra ta:Addr) (s:CS) (kv bv lv tv wv u:Value) (ul:List Int) (v:Value) (vl:List Int):Prop where
 ou:Qc S 3 w u (Q5 ul)
 ov:Qc S 3 w v (Q5 vl)
 uv:sep u.ownBlock v.ownBlock
 c:J0 (Qb1 S u v) w cb ra ta s kv bv lv tv wv
namespace Q2m
variable {S:Nat→Prop} {w w1:World} {cb:Nat} {ra ta:Addr} {s s':CS} {kv bv lv tv wv u v u1 v1:Value} {ul vl:List Int}
theorem nobk (h:Q2m S w cb ra ta s kv bv lv tv wv u ul v vl) (hk:Q0 nob w w1):Q2m S w1 cb ra ta s kv bv lv tv wv u ul v vl:=⟨h.ou.nobk hk,h.ov.nobk hk,h.uv,h.c.nobk hk⟩
theorem atCb (h:Q2m S w cb ra ta s kv bv lv tv wv u ul v vl) (hat:Q31 (Qb1 S u v) w cb ra ta s' kv bv lv tv wv w1):Q2m S w1 cb ra ta s' kv bv lv tv wv u ul v vl :=
 ⟨h.ou.kept hat.2 (fun k hk e=>h.c.inS.2.1 (e▸hk)),h.ov.kept hat.2 (fun k hk e=>h.c.inS.2.2 (e▸hk)),h.uv,hat.1⟩
theorem appV (h:Q2m S w cb ra ta s kv bv lv tv wv u ul v vl) {x:Int} (ho:Qc S 3 w1 v1 (Q5 vl++[.int .i64 x])) (hk:Q0 (fun k=>v.ownBlock=some k) w w1) (hat:v1.ownBlock=v.ownBlock∨∃b,v1.ownBlock=some b∧w.heap.size≤b) :
  Q2m S w1 cb ra ta s kv bv lv tv wv u ul v1 (vl++[x]):=by
 refine⟨h.ou.kept hk (fun k hk' e=>h.uv k hk' e),by have:=ho;rwa [show Q5 vl++[.int .i64 x]=Q5 (vl++[x]) from by simp[Q5]] at this,?_,?_⟩
 ·intro k hu hv
  rcases hat with e|⟨b,e,hb⟩
  ·rw[e] at hv;exact h.uv k hu hv
  ·rw[e] at hv;cases hv;have:=h.ou.lt _ hu;omega
 ·refine ((h.c.mono (S':=fun k=>Qb1 S u v1 k∧v.ownBlock≠some k) (fun k hk' hS=>⟨⟨hS.1,hS.2.1,?_⟩,hS.2.2⟩)).aside hk (fun k hk' hS=>hS.2 hk')).mono (fun k _ hS=>hS.1)
  rcases hat with e|⟨b,e,hb⟩
  ·rw[e];exact hS.2.2
  ·rw[e];intro e2;cases e2;omega
theorem appU (h:Q2m S w cb ra ta s kv bv lv tv wv u ul v vl) {x:Int} (ho:Qc S 3 w1 u1 (Q5 ul++[.int .i64 x])) (hk:Q0 (fun k=>u.ownBlock=some k) w w1) (hat:u1.ownBlock=u.ownBlock∨∃b,u1.ownBlock=some b∧w.heap.size≤b) :
  Q2m S w1 cb ra ta s kv bv lv tv wv u1 (ul++[x]) v vl:=by
 refine⟨by have:=ho;rwa [show Q5 ul++[.int .i64 x]=Q5 (ul++[x]) from by simp[Q5]] at this,h.ov.kept hk (fun k hk' e=>h.uv k e hk'),?_,?_⟩
 ·intro k hu hv
  rcases hat with e|⟨b,e,hb⟩
  ·rw[e] at hu;exact h.uv k hu hv
  ·rw[e] at hu;cases hu;have:=h.ov.lt _ hv;omega
 ·refine ((h.c.mono (S':=fun k=>Qb1 S u1 v k∧u.ownBlock≠some k) (fun k hk' hS=>⟨⟨hS.1,?_,hS.2.2⟩,hS.2.1⟩)).aside hk (fun k hk' hS=>hS.2 hk')).mono (fun k _ hS=>hS.1)
  rcases hat with e|⟨b,e,hb⟩
  ·rw[e];exact hS.2.1
  ·rw[e];intro e2;cases e2;omega
theorem swapW (h:Q2m S w cb ra ta s kv bv lv tv wv u ul v vl):J0 S (w.setCell ⟨cb,9,none⟩ u) cb ra ta {s with withs:=ul} kv bv lv tv u:=by
 obtain⟨n1,n2,n3,n4,n5⟩:=h.c.noCb;obtain⟨a,b,c,d,e,f,g,p,q,z⟩:=h.c.sepAll;have hcu:u.ownBlock≠some cb:=h.c.inS.2.1;have o:∀{x:Value} {xs:List Value},Qc (Qb1 S u v) 3 w x xs→sep x.ownBlock u.ownBlock:=fun hx k h1 h2=>(hx.2 k h1).2.1 h2
 have m:∀{x:Value} {xs:List Value},Qc (Qb1 S u v) 3 w x xs→Qc S 3 w x xs:=fun hx=>hx.mono fun k hk=>hk.1
 refine⟨h.c.blk.set 9 u,h.c.inS.1,(m h.c.k).other (p:=⟨cb,9,none⟩) n1 _,(m h.c.b).other (p:=⟨cb,9,none⟩) n2 _,(m h.c.l).other (p:=⟨cb,9,none⟩) n3 _,(m h.c.t).other (p:=⟨cb,9,none⟩) n4 _,h.ou.other (p:=⟨cb,9,none⟩) hcu _,?_⟩;simp only[List.pairwise_cons,List.mem_cons,List.not_mem_nil,or_false,forall_eq_or_imp,forall_eq];have cbs:∀x:Option Nat,x≠some cb→sep (some cb) x:=fun x hx k hk hc=>hx (by cases hk;exact hc)
 exact⟨⟨cbs _ n1,cbs _ n2,cbs _ n3,cbs _ n4,cbs _ hcu⟩,⟨a,b,c,o h.c.k⟩,⟨e,f,o h.c.b⟩,⟨p,o h.c.l⟩,o h.c.t,fun _ h=>h.elim,List.Pairwise.nil⟩
end Q2m
theorem Zn (s:CS) (a b c:Int):(Qp s a b c).locals=s.locals:=by unfold Qp;split;rfl;exact Jz _ _ _
theorem Q1t (r:Reg) (s:CS) (a:ByteArray) (b:Int):(Qi r s a b).2.locals=s.locals:=by
 unfold Qi;split
 ·exact Jz _ _ _
 ·split
  ·rfl
  ·exact Jz _ _ _
theorem Qcw (t:Q1) (i:Int) (ks ps:List Int) (s:CS):(Yl t i ks ps s).locals=s.locals:=by
 induction ks generalizing ps s with
 |nil=>rfl
 |cons k ks ih=>cases ps with
  |nil=>rfl
  |cons p ps=>simp only[Yl];rw[ih,Zn]
theorem Qct (t:Q1) (s:CS) (i:Int) (n:Qn):(Q36 t s i n).2.locals=s.locals:=by
 unfold Q36;dsimp only;split
 ·exact Jz _ _ _
 ·split
  ·exact Jz _ _ _
  ·exact Qcw _ _ _ _ _
theorem Qeb (s:CS) (i:Int) (n:Qn):(Yv s i n).2.locals=s.locals:=by unfold Yv;dsimp only;split;rfl;exact Jz _ _ _
theorem Qd7 (r:Reg) (t:Q1) (s:CS) (i:Int) (n:Qn):(Zw r t s i n).2.locals=s.locals:=by
 unfold Zw;split;· rfl
 split;· rfl
 split;· rfl
 split
 ·split
  ·exact Jz _ _ _
  ·rfl
 split;· exact Q1t _ _ _ _
 split;· exact X5 _ _ _ _ _
 split;· exact Qct _ _ _ _
 exact Qeb _ _ _
theorem Qdx (r:Reg) (t:Q1) (s:CS) (i:Int) (n:Qn):s.locals.length≤(Qy r t s i n).locals.length:=by
 unfold Qy;split
 ·split
  ·rw[Jz];exact Nat.le_refl _
  ·show s.locals.length≤(s.locals++[i]).length;simp
 split
 ·split
  ·rw[Jz];exact Nat.le_refl _
  ·rw[Zn];exact Nat.le_refl _
 split;· rw[Zn,Q1t];exact Nat.le_refl _
 split;· rw[Zn,X5];exact Nat.le_refl _
 split;· rw[Zn,X5];exact Nat.le_refl _
 split;· rw[Zn,X5];exact Nat.le_refl _
 split;· rw[X5];exact Nat.le_refl _
 exact Nat.le_refl _
theorem Qcd (r:Reg) (t:Q1) (i k1:Int) (l:List Int) (s:CS):(l.foldl (pickStep r t i k1) s).locals=s.locals:=by
 induction l generalizing s with
 |nil=>rfl
 |cons k ks ih =>
  rw[List.foldl_cons,ih];unfold pickStep;dsimp only
  have h1:(if k=k1 then ((Qi r s (t.at k).text k).2.setKind i (Qi r s (t.at k).text k).1) else (Qi r s (t.at k).text k).2).locals=s.locals:=by
   split
   ·exact Q1t _ _ _ _
   ·exact Q1t _ _ _ _
  generalize (if k=k1 then ((Qi r s (t.at k).text k).2.setKind i (Qi r s (t.at k).text k).1) else (Qi r s (t.at k).text k).2)=s1 at h1 ⊢;split
  ·exact h1
  ·rw[Jz];exact h1
theorem Qby (r:Reg) (t:Q1) (l:List Int) (s:CS) (all:List Int):(eachL r t l (s,all)).1.locals=s.locals:=by
 induction l generalizing s all with
 |nil=>rfl
 |cons k ks ih =>
  simp only[eachL];rw[ih];split
  ·exact Jz _ _ _
  ·split
   ·exact Jz _ _ _
   ·rfl
theorem Qfy {r:Reg} {t:Q1} {W:CS→Int→CS} (hW:Q1u W) (l:List Int) (names:List ByteArray) (s:CS):s.locals.length≤(Xe r t W l names s).locals.length:=by
 induction l generalizing names s with
 |nil=>exact Nat.le_refl _
 |cons k ks ih =>
  simp only[Xe];have h1:=hW.kids (t.at k).kids s;split
  ·exact h1
  ·refine Nat.le_trans h1 (Nat.le_trans (Nat.le_of_eq ?_) (ih _ _))
   rw[Zn];split
   ·rw[Jz,X5]
   ·rw[X5]
theorem Yo {c:Prop} [Decidable c] {x y:CS} {m:Nat} (hx:c→m≤x.locals.length) (hy:¬ c→m≤y.locals.length):m≤(if c then x else y).locals.length:=by
 by_cases h:c
 ·rw[Ps h];exact hx h
 ·rw[Ng h];exact hy h
theorem Q94 (r:Reg) (t:Q1):∀f,Q1u (Q8 r t f):=by
 intro f
 induction f with
 |zero=>intro s k;exact Nat.le_refl _
 |succ f ih =>
  intro s i;have hk:=ih.kids (t.at i).kids s;unfold Q8;dsimp only
  refine Yo (fun _=>?_) (fun _=>?_)
  ·refine Yo (fun _=>?_) (fun _=>?_)
   ·unfold fnF
    dsimp only
    have hp:s.locals.length≤((t.at i).kids.dropLast.foldl (Jl t) s).locals.length:=by
     have:∀(l:List Int) (s:CS),s.locals.length≤(l.foldl (Jl t) s).locals.length:=by
      intro l
      induction l with
      |nil=>intro s;exact Nat.le_refl _
      |cons k ks ih2 =>
       intro s;refine Nat.le_trans ?_ (ih2 _);unfold Jl CS.addLocal
       show s.locals.length≤((Qx t s k).locals++[k]).length
       rw[Q17];simp
     exact this _ _
    refine Yo (fun _=>?_) (fun _=>?_)
    ·rw[Zn];exact Nat.le_trans hp (Nat.le_trans (ih.kids _ _) (ih.kids _ _))
    ·rw[Jz];exact Nat.le_trans hp (ih.kids _ _)
   refine Yo (fun _=>?_) (fun _=>?_)
   ·exact hk
   refine Yo (fun _=>?_) (fun _=>?_)
   ·unfold Q4y;rw[Qcd,Zn];exact ih _ _
   refine Yo (fun _=>?_) (fun _=>?_)
   ·unfold Q05;refine Nat.le_trans (ih s (kidAt (t.at i) 0)) (Nat.le_trans (Nat.le_of_eq ?_) (ih.kids _ _));rw[Zn]
   refine Yo (fun _=>?_) (fun _=>?_)
   ·unfold Q40
    dsimp only;refine Nat.le_trans (Nat.le_of_eq ?_) (ih.kids _ _);have e1:∀(l:List Int) (x:CS×List Int),(eachL r t l x).1.locals=x.1.locals:=fun l x=>Qby r t l x.1 x.2
    show _=(eachL r t _ (eachL r t _ (s,[]))).1.locals.length
    rw[e1,e1]
   refine Yo (fun _=>?_) (fun _=>?_)
   ·unfold Q3y
    dsimp only;rw[List.length_dropLast];have h9:=ih.kids ((t.at i).kids.drop 1) {(Qx t ((J4 r s 3 (t.at i).text i).2.setKind (kidAt (t.at i) 0) (J4 r s 3 (t.at i).text i).1) (kidAt (t.at i) 0)).addLocal (kidAt (t.at i) 0) with inHear:=true}
    have h8:({(Qx t ((J4 r s 3 (t.at i).text i).2.setKind (kidAt (t.at i) 0) (J4 r s 3 (t.at i).text i).1) (kidAt (t.at i) 0)).addLocal (kidAt (t.at i) 0) with inHear:=true}:CS).locals.length=s.locals.length+1:=by
     show ((Qx t ((J4 r s 3 (t.at i).text i).2.setKind (kidAt (t.at i) 0) (J4 r s 3 (t.at i).text i).1) (kidAt (t.at i) 0)).locals++[kidAt (t.at i) 0]).length=_
     rw[Q17,List.length_append]
     show (J4 r s 3 (t.at i).text i).2.locals.length+1=_
     rw[X5]
    rw[h8] at h9;exact Nat.le_pred_of_lt h9
   refine Yo (fun _=>?_) (fun _=>?_)
   ·exact Qfy ih _ _ _
   refine Yo (fun _=>?_) (fun _=>?_)
   ·show s.locals.length≤((Qb (Q8 r t f) s (t.at i).kids).locals.take s.locals.length).length
    rw[List.length_take];omega
   refine Yo (fun _=>?_) (fun _=>?_)
   ·exact hk
   refine Yo (fun _=>?_) (fun _=>?_)
   ·show _≤(Zw r t _ i (t.at i)).2.locals.length
    rw[Qd7];exact hk
   ·exact Nat.le_trans hk (Qdx _ _ _ _ _)
  ·rw[Jz];exact Nat.le_refl _
end Go.Proofs.YtkgkafjachjafaaGreat
