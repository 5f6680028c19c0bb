/- Part 20 of: FnExactEffects answers true; no condition. -/
import Derived.Test.YtkgkafjachjafaaGreatY19
set_option linter.unusedVariables false
set_option maxHeartbeats 2000000
open Go Go.RowKit
namespace Go.Proofs.YtkgkafjachjafaaGreat
open Tryz
def Q0y (r:Reg) (t:Q1) (la lb:List Int) (s:CS):Nat→CS×List Int
 |0=>(s,[])
 |1=>eachL r t la (s,[])
 |_=>eachL r t lb (eachL r t la (s,[]))
def Q2u (r:Reg) (t:Q1) (la:List Int) (s:CS):Nat→List Int
 |0=>[]
 |_=>(eachL r t la (s,[])).2
theorem Qc.lenI {S:Nat→Prop} {w:World} {v:Value} {xs:List Int} (h:Qc S 3 w v (Q5 xs)):∃A c,v=.slice A xs.length c:=by
 obtain⟨A,c,e⟩:=h.len;exact⟨A,c,by simpa[Q5] using e⟩
section
variable {r:Reg} {t:Q1} {S:Nat→Prop} {w:World} {cb rb ro tb tq:Nat} {s:CS} {kv bv lv tv wv:Value} {b:Int} {W:CS→Int→CS}
theorem Qmh (hW:Q0r r t b W) (hO:Yc t W) (hSm:Z1 t) (h:J0 S w cb ⟨rb,ro,none⟩ ⟨tb,tq,none⟩ s kv bv lv tv wv) (hr:Qj S w fun w=>Xa w rb ro r) (ht:Qj S w fun w=>J8 w tb tq t) (hok:Qe t s) (hF:Jh S w)
  (n:Qn) (nk:Value) (hnk:Qj S w fun w=>Qf w nk n.kids) (k0 k1 k2:Int) (Qnf:n.kids=[k0,k1,k2]) (hl:∀k∈n.kids,InT t k∧k<b) (hin:∀k∈n.kids,∀x∈(t.at k).kids,InT t x) :
  Calls prog 168 #[.pointer (some ⟨cb,0,none⟩),.agg #[.int .i64 n.kind,.string n.text,.int .i64 n.i,nk]] w fun e w'=>e=.returned (.tuple #[]) ∧
   AtS S w cb ⟨rb,ro,none⟩ ⟨tb,tq,none⟩ (Q40 r t W s n) kv bv tv w':=by
 have hX:Q40 r t W s n={Qb W {(Q0y r t (t.at k0).kids (t.at k1).kids s 2).1 with withs:=Q2u r t (t.at k0).kids s 2,inEach:=true} (n.kids.drop 2) with withs:=[],inEach:=false}:=by
  have e0:kidAt n 0=k0:=by simp[kidAt,Qnf]
  have e1:kidAt n 1=k1:=by simp[kidAt,Qnf]
  unfold Q40;rw[e0,e1];rfl
 generalize Q40 r t W s n=X at hX ⊢;have hk0:Q0 nob w (w.alloc (.cells #[.int .i64 n.kind,.string n.text,.int .i64 n.i,nk] 70)):=(Kr _ _).alloc _;have hb0:=Blk.new w [.int .i64 n.kind,.string n.text,.int .i64 n.i,nk] 70;have hF0:Jh (Jj S w.heap.size) (w.alloc (.cells #[.int .i64 n.kind,.string n.text,.int .i64 n.i,nk] 70)):=fun k hk=>⟨hF k (by simp at hk;omega),by simp at hk;omega⟩
 generalize hW0:w.alloc (.cells #[.int .i64 n.kind,.string n.text,.int .i64 n.i,nk] 70)=W0 at hk0 hF0;replace hb0:Blk W0 w.heap.size [.int .i64 n.kind,.string n.text,.int .i64 n.i,nk] 70:=hW0▸hb0;have Qnn:∀k,k<W0.heap.size→Jj S w.heap.size k→S k:=fun _ _ h=>h.1
 have h0:J0 (Jj S w.heap.size) W0 cb ⟨rb,ro,none⟩ ⟨tb,tq,none⟩ s kv bv lv tv wv:=(h.mono fun k hk hS=>⟨hS,Om⟩).nobk hk0;have hr0:=(hr.kept (hk0.ofNob S)).mono Qnn;have ht0:=(ht.kept (hk0.ofNob S)).mono Qnn;have hn0:=(hnk.kept (hk0.ofNob S)).mono Qnn;obtain⟨A,p,o,c,rfl,ll,lc,hA,Qni⟩:=hn0.ints;have Qts:3≤n.kids.length:=by rw[Qnf];simp
 obtain⟨rfl,hpS⟩:=hA Om;obtain⟨tA,nb,no,nc,tc,tl,tlc,tS,tA',_,tn⟩:=ht0.tree;have Qo3:0<t.nodes.length:=by have:=(hl k0 (by rw[Qnf];simp)).1;have h1:=this.1;have h2:=this.2;omega
 obtain⟨rfl,nS⟩:=tA' Qo3;have c3:=hb0.cell 3 _ rfl;generalize hSS:Jj S w.heap.size=S2 at hF0 Qnn h0 hr0 ht0 hn0 Qni hpS tc tS nS tn;have hS2:∀k,S2 k→S k:=fun k hk=>by rw[← hSS] at hk;exact hk.1
 have Qva:¬ S2 w.heap.size:=fun hk=>by rw[← hSS] at hk;exact hk.2 rfl
 have hKa:Q0 nob W0 (W0.alloc (.cells #[] 3)):=(Kr _ _).alloc _;have Qtt:(W0.alloc (.cells #[] 3)).heap.size=W0.heap.size+1:=Sm
 have hKb:Q0 nob W0 ((W0.alloc (.cells #[] 3)).alloc (.cells #[] 3)):=hKa.alloc _
 have hE:Q2m S2 ((W0.alloc (.cells #[] 3)).alloc (.cells #[] 3)) cb ⟨rb,ro,none⟩ ⟨tb,tq,none⟩ s kv bv lv tv wv (.slice (some ⟨W0.heap.size,0,none⟩) 0 0) [] (.slice (some ⟨W0.heap.size+1,0,none⟩) 0 0) []:=by
  refine⟨(Qc.lit S2 _ W0 [] (hF0 _ (Nat.le_refl _)) Sm rfl rfl rfl).alloc _,Qc.lit S2 _ _ [] (hF0 _ (by rw[Qtt];omega)) Sm Qtt.symm rfl rfl,?_,?_⟩
  ·intro k h1 h2;simp[Value.ownBlock] at h1 h2;omega
  ·exact (h0.mono fun k hk hS=>⟨hS,by simp[Value.ownBlock];omega,by simp[Value.ownBlock];omega⟩).nobk hKb
 have c3':=hKb.cell (fun h=>h) c3;have hbk:∀W',Q0 S2 W0 W'→W'.cell? ⟨w.heap.size,3,none⟩=some (.slice (some ⟨p,o,none⟩) n.kids.length c):=fun W' hk=>hk.cell Qva c3
 have HQL:Hi (∀(j m:Nat) (L:List Int),(j=0∧L=(t.at k0).kids)∨(j=1∧L=(t.at k1).kids)→(eachL r t (L.take m) (Q0y r t (t.at k0).kids (t.at k1).kids s j)).2.length≤2097152):=Hh (by
  intro j m L hj;have hs0:=hSm k0;have hs1:=hSm k1;have e0:=hok.eachL r (t.at k0).kids (all:=[]);rcases hj with ⟨rfl,rfl⟩|⟨rfl,rfl⟩
  ·have:=(hok.eachL r ((t.at k0).kids.take m) (all:=[])).2
   have h9:((t.at k0).kids.take m).length≤(t.at k0).kids.length:=by rw[List.length_take];omega
   simp only[Q0y];rw[this];simp at h9 ⊢;omega
  ·have:=(e0.1.eachL r ((t.at k1).kids.take m) (all:=(eachL r t (t.at k0).kids (s,[])).2)).2
   have h9:((t.at k1).kids.take m).length≤(t.at k1).kids.length:=by rw[List.length_take];omega
   simp only[Q0y]
   show (eachL r t ((t.at k1).kids.take m) ((eachL r t (t.at k0).kids (s,[])).1,(eachL r t (t.at k0).kids (s,[])).2)).2.length≤_
   rw[this,e0.2];simp at h9 ⊢;omega)
 have Qq2:Hi (Qe t {(Q0y r t (t.at k0).kids (t.at k1).kids s 2).1 with withs:=Q2u r t (t.at k0).kids s 2,inEach:=true}):=Hh (by
  have e0:=hok.eachL r (t.at k0).kids (all:=[]);have e1:=e0.1.eachL r (t.at k1).kids (all:=(eachL r t (t.at k0).kids (s,[])).2)
  have hw:(Q2u r t (t.at k0).kids s 2).length≤1048576:=by
   show (eachL r t (t.at k0).kids (s,[])).2.length≤_
   have:=hSm k0;rw[e0.2];simpa using this
  have e2:Qe t (Q0y r t (t.at k0).kids (t.at k1).kids s 2).1:=e1.1;exact⟨e2.kinds,e2.bind,e2.locals,e2.tops,e2.top,e2.nodup,hw⟩)
 have HX:=Hh hX;have HC:=Hh Qni;have HR:=Hh hr0;have HT:=Hh ht0;have HTC:=Hh tc;have HTN:=Hh tn;have HF:=Hh hF0;have HL:=Hh hl;have HIN:=Hh hin;have HE:=Hh hE;have HBK:=Hh hbk;have HKB:=Hh hKb;have HS2:=Hh hS2;have HKD:=Hh Qnf;have hKS:Q0 S w W0:=hk0.ofNob S;have Qpg:(2:Int)≤n.kids.length:=Om
 have hc2:¬ c=2:=Om
 have hcc:(2:Int)≤c:=Om
 clear hb0 Qnn h0 hr0 ht0 hn0 Qni hF0 h hr ht hnk hl hok hF hA tc tn tA' hX hE hbk hKb hKa Qtt hS2 hin Qnf Qo3 Qts hSS Qva hSm;go_enter func168,ntmps168;go_wp2_with fail;go_loopw [4,5,6,7,9,10,17] (fun vw va u6 u7 u9 u10 ci wr=>∃j:Nat,j≤2∧ci=.int .i64 j∧Hi (Q2m S2 wr cb ⟨rb,ro,none⟩ ⟨tb,tq,none⟩ (Q0y r t (t.at k0).kids (t.at k1).kids s j).1 kv bv lv tv wv vw (Q2u r t (t.at k0).kids s j) va (Q0y r t (t.at k0).kids (t.at k1).kids s j).2∧Q0 S2 W0 wr)) (fun _ _ _ _ _ _ ci _=>2-(intOf ci).toNat)
 case atStart=>exact⟨0,Om,rfl,Hh ⟨HE.o,HKB.o.ofNob _⟩⟩
 case round =>
  obtain⟨j,hj,rfl,HAT⟩:=hrel;obtain⟨wo,rfl⟩:∃wo:World,wo=wr:=⟨_,rfl⟩
  by_cases hlt:j<2
  ·obtain⟨kj,hkj,hjL⟩:∃kj,n.kids[j]?=some kj∧((j=0∧(t.at kj).kids=(t.at k0).kids)∨(j=1∧(t.at kj).kids=(t.at k1).kids)):=by
    rw[HKD.o]
    match j,hlt with
    |0,_=>exact⟨k0,rfl,.inl ⟨rfl,rfl⟩⟩
    |1,_=>exact⟨k1,rfl,.inr ⟨rfl,rfl⟩⟩
   have hki:=(HL.o kj (Mg hkj)).1;have Qvb:=HIN.o kj (Mg hkj);have q0:=HC.o j kj hkj wo HAT.o.2;obtain⟨pm,rfl,hpn⟩:=Q1.at_lt hki;have hpl:(pm:Int)<t.nodes.length:=hki.2;obtain⟨pv,pc,pst⟩:=HTN.o pm _ hpn;obtain⟨LA,Lb,Lo,Lc,rfl,LL,Llc,LA',Lcell⟩:=pst.ints;have q1:wo.cell? ⟨cb,1,none⟩=some (.pointer (some ⟨tb,tq,none⟩)):=HAT.o.1.c.blk.cell 1 _ rfl;have q2:=HTC.o wo HAT.o.2;obtain⟨_,_,_,q6⟩:=pc wo HAT.o.2;have HLQ:=Hh (fun m=>HQL.o j m (t.at (pm:Int)).kids hjL)
   have Qxh:Hi (eachL r t (t.at (pm:Int)).kids (Q0y r t (t.at k0).kids (t.at k1).kids s j)=Q0y r t (t.at k0).kids (t.at k1).kids s (j+1)):=Hh (by
    rcases hjL with ⟨rfl,e⟩|⟨rfl,e⟩
    ·rw[e];rfl
    ·rw[e];rfl)
   have Qtu:Hi (Q2u r t (t.at k0).kids s (j+1)=if j=0 then (eachL r t (t.at (pm:Int)).kids (Q0y r t (t.at k0).kids (t.at k1).kids s j)).2 else Q2u r t (t.at k0).kids s j):=Hh (by
    rcases hjL with ⟨rfl,e⟩|⟨rfl,e⟩
    ·rw[e];rfl
    ·rfl)
   have Qvc:Q2u r t (t.at k0).kids s j=if j=0 then (eachL r t ((t.at (pm:Int)).kids.take 0) (Q0y r t (t.at k0).kids (t.at k1).kids s j)).2 else Q2u r t (t.at k0).kids s j:=by
    rcases hjL with ⟨rfl,e⟩|⟨rfl,e⟩<;>rfl
   have HLC:=Hh Lcell;have HLA:=Hh LA';have Qxi:=Hh Qvb;have hj2:decide ((j:Int)<2)=true:=Dt Om;have Qxj:=Hh Qvc;obtain⟨vwA,vwc,rfl⟩:=HAT.o.1.ou.lenI;obtain⟨vaA,vac,rfl⟩:=HAT.o.1.ov.lenI;clear hkj hjL hki Qvb hpn pc pst Qvc Lcell LA';go_wp2_with fail;go_loopw [4,5,9,10,34] (fun uw ua u9 u10 ci wr'=>∃m:Nat,m≤(t.at (pm:Int)).kids.length∧ci=.int .i64 m∧Hi (Q2m S2 wr' cb ⟨rb,ro,none⟩ ⟨tb,tq,none⟩ (eachL r t ((t.at (pm:Int)).kids.take m) (Q0y r t (t.at k0).kids (t.at k1).kids s j)).1 kv bv lv tv wv uw (if j=0 then (eachL r t ((t.at (pm:Int)).kids.take m) (Q0y r t (t.at k0).kids (t.at k1).kids s j)).2 else Q2u r t (t.at k0).kids s j) ua (eachL r t ((t.at (pm:Int)).kids.take m) (Q0y r t (t.at k0).kids (t.at k1).kids s j)).2∧Q0 S2 W0 wr')) (fun _ _ _ _ ci _=>(t.at (pm:Int)).kids.length-(intOf ci).toNat)
   case atStart=>exact⟨0,Nat.zero_le _,rfl,Hh (by rw[← Qxj.o];exact HAT.o)⟩
   case round =>
    clear HAT;obtain⟨m,hm,rfl,HAT⟩:=hrel;obtain⟨wi,rfl⟩:∃wi:World,wi=wr:=⟨_,rfl⟩
    by_cases hmt:m<(t.at (pm:Int)).kids.length
    ·obtain⟨k,hx⟩:=Q4 hmt
     obtain⟨rfl,_⟩:=HLA.o Om;have z0:=HLC.o m k hx wi HAT.o.2;have hki:=Qxi.o k (Mg hx);obtain⟨qm,rfl,hqn⟩:=Q1.at_lt hki;have hql:(qm:Int)<t.nodes.length:=hki.2;obtain⟨qv,qc,_⟩:=HTN.o qm _ hqn;have HSN:=Hh (Qg4 (r:=r) (t:=t) hx (Q0y r t (t.at k0).kids (t.at k1).kids s j));have hln:=HLQ.o m
     have HST:Hi (∀W,Q0 nob wi W→W.cell? ⟨cb,0,none⟩=some (.pointer (some ⟨rb,ro,none⟩))∧W.cell? ⟨cb,1,none⟩=some (.pointer (some ⟨tb,tq,none⟩))∧W.cell? ⟨tb,tq,none⟩=some (.slice (some ⟨nb,no,none⟩) t.nodes.length nc)∧W.cell? ⟨nb,no+qm*4+1,none⟩=some (.string (t.at (qm:Int)).text)):=Hh (fun W hk =>
      ⟨hk.cell (fun h=>h) (HAT.o.1.c.blk.cell 0 _ rfl),hk.cell (fun h=>h) (HAT.o.1.c.blk.cell 1 _ rfl),HTC.o W (HAT.o.2.trans (hk.ofNob _)),(qc W (HAT.o.2.trans (hk.ofNob _))).2.1⟩)
     have g0:=fun W hk=>(HST.o W hk).1
     have g1:=fun W hk=>(HST.o W hk).2.1
     have g2:=fun W hk=>(HST.o W hk).2.2.1
     have g3:=fun W hk=>(HST.o W hk).2.2.2
     generalize eachL r t ((t.at (pm:Int)).kids.take m) (Q0y r t (t.at k0).kids (t.at k1).kids s j)=Q at HAT HSN hln
     have hwl:(if j=0 then Q.2 else Q2u r t (t.at k0).kids s j).length≤2097152:=by
      by_cases hj0:j=0
      ·rw[Ps hj0];exact hln
      ·rw[Ng hj0]
       have h9:=HQL.o 0 (t.at k0).kids.length (t.at k0).kids (.inl ⟨rfl,rfl⟩);rw[List.take_length] at h9
       match j,hj0 with
       |j+1,_=>exact h9
     generalize hWL:(if j=0 then Q.2 else Q2u r t (t.at k0).kids s j)=wl at HAT hwl;obtain⟨uwA,uwc,rfl⟩:=HAT.o.1.ou.lenI;obtain⟨uaA,uac,rfl⟩:=HAT.o.1.ov.lenI;have hr0':Q0 nob wi wi:=Kr _ _;have HLN:=Hh hln;have Qre:=Hh hwl;have HWL:=Hh hWL;clear hx hki hqn qc hln hwl hWL;go_upto_region 8 with fail
     go_region_held3 (fun W=>Q0 nob wi W) (first|assumption|exact hr0'.drew|exact Kd ‹_›|exact Ka ‹_› _|exact Kt ‹_› ‹_›) ((first|(go_at_call 126;refine (Yi rb ro r 1 _ _ ((HR.o.kept HAT.o.2).now.old hr0'.drew.old)).mono ?_;rintro e w2 ⟨rfl,hk2⟩;dsimp only)));have hk2':Q0 nob wi w2:=hr0'.drew.trans hk2;have HE2:=Hh (HAT.o.1.nobk hk2');have HK2:=Hh (HAT.o.2.trans (hk2'.ofNob _));clear g0 g1 g2 g3 hk2 hk2' HST HAT hr0';generalize r.find 1 (t.at (qm:Int)).text=C at HSN
     by_cases hc0:C<0
     ·have t1:decide (C<0)=true:=by simpa using hc0
      have Qqe:=Hh (HSN.o.trans (by rw[Ps hc0]));clear HSN hc0;cases hz:((j:Int)==0) with
      |true =>
       have HJ0:Hi (j=0):=Hh (by have:(j:Int)=0:=(by simpa using hz);omega);go_wp2_with (first|(go_at_call 92;refine (Ze HE2.o.c _ _).mono ?_;rintro e w3 ⟨rfl,Qnv⟩;have HE3:=Hh (HE2.o.atCb Qnv);have HK3:=Hh (HK2.o.trans (Qnv.2.mono fun k _ e=>e▸Qnv.1.inS.1));clear Qnv)|(at_builtin;refine Qt S2 rfl _ _ 26 3 (.int .i64 0) 8 rfl underlying26 Kf rfl (.slice uwA wl.length uwc) (Q5 wl) (.int .i64 C) rfl rfl Sm rfl HE5.o.ou (HF.o.kept HK5.o) (by have:=Qre.o;simp[Q5];omega) (by have:=Qre.o;simp[Q5];omega) ?_;intro nv6 w6 Qog hk6 Qo1;have he6:=HE5.o.appU Qog hk6 Qo1;obtain⟨nA6,nc6,hv6⟩:=he6.ou.lenI;rw[show (wl++[C]).length=wl.length+1 from by simp] at hv6;subst hv6;have HE6:=Hh he6;have HK6:=Hh (HK5.o.trans (hk6.mono fun k _ hk=>HE5.o.ou.2 k hk));clear he6 Qog hk6 Qo1)|(at_builtin;refine Qt S2 rfl _ _ 26 3 (.int .i64 0) 8 rfl underlying26 Kf rfl (.slice uaA Q.2.length uac) (Q5 Q.2) (.int .i64 C) rfl rfl Sm rfl HE3.o.ov (HF.o.kept HK3.o) (by have:=HLN.o;simp[Q5];omega) (by have:=HLN.o;simp[Q5];omega) ?_;intro nv1 w5 Qnk hk5 Qnp;have he5:=HE3.o.appV Qnk hk5 Qnp;obtain⟨nA5,nc5,hv5⟩:=he5.ov.lenI;rw[show (Q.2++[C]).length=Q.2.length+1 from by simp] at hv5;subst hv5;have HE5:=Hh he5;have HK5:=Hh (HK3.o.trans (hk5.mono fun k _ hk=>HE3.o.ov.2 k hk));clear he5 Qnk hk5 Qnp));go_roundw
       case rel =>
        refine⟨m+1,Om,Gm,Hh ⟨?_,HK6.o⟩⟩;have h9:=HE6.o;rw[← HWL.o,Ps HJ0.o] at h9;rw[Qqe.o,Ps HJ0.o]
        first|exact h9|(rw[← HWL.o,Ps HJ0.o];exact h9)
       case measure=>exact Me
      |false =>
       have HJ0:Hi (¬ j=0):=Hh (by have:¬ (j:Int)=0:=(by simpa using hz);omega);go_wp2_with (first|(go_at_call 92;refine (Ze HE2.o.c _ _).mono ?_;rintro e w3 ⟨rfl,Qnv⟩;have HE3:=Hh (HE2.o.atCb Qnv);have HK3:=Hh (HK2.o.trans (Qnv.2.mono fun k _ e=>e▸Qnv.1.inS.1));clear Qnv)|(at_builtin;refine Qt S2 rfl _ _ 26 3 (.int .i64 0) 8 rfl underlying26 Kf rfl (.slice uaA Q.2.length uac) (Q5 Q.2) (.int .i64 C) rfl rfl Sm rfl HE3.o.ov (HF.o.kept HK3.o) (by have:=HLN.o;simp[Q5];omega) (by have:=HLN.o;simp[Q5];omega) ?_;intro nv1 w5 Qnk hk5 Qnp;have he5:=HE3.o.appV Qnk hk5 Qnp;obtain⟨nA5,nc5,hv5⟩:=he5.ov.lenI;rw[show (Q.2++[C]).length=Q.2.length+1 from by simp] at hv5;subst hv5;have HE5:=Hh he5;have HK5:=Hh (HK3.o.trans (hk5.mono fun k _ hk=>HE3.o.ov.2 k hk));clear he5 Qnk hk5 Qnp));go_roundw
       case rel =>
        refine⟨m+1,Om,Gm,Hh ⟨?_,HK5.o⟩⟩;have h9:=HE5.o;rw[← HWL.o,Ng HJ0.o] at h9;rw[Qqe.o,Ng HJ0.o]
        first|exact h9|(rw[← HWL.o,Ng HJ0.o];exact h9)
       case measure=>exact Me
     ·have t1:decide (C<0)=false:=by simpa using hc0
      cases hc2':Zr C Q.2 with
      |true =>
       have Qqe:=Hh (HSN.o.trans (by rw[Ng hc0,Ps hc2']));clear HSN hc0;cases hz:((j:Int)==0) with
       |true =>
        have HJ0:Hi (j=0):=Hh (by have:(j:Int)=0:=(by simpa using hz);omega);go_wp2_with (first|(go_at_call 78;refine (Zp _ Q.2 _ _ (HE2.o.ov.ints (by have:=HLN.o;omega))).mono ?_;rw[hc2'];rintro e w39 ⟨rfl,rfl⟩)|(go_at_call 92;refine (Ze HE2.o.c _ _).mono ?_;rintro e w3 ⟨rfl,Qnv⟩;have HE3:=Hh (HE2.o.atCb Qnv);have HK3:=Hh (HK2.o.trans (Qnv.2.mono fun k _ e=>e▸Qnv.1.inS.1));clear Qnv)|(at_builtin;refine Qt S2 rfl _ _ 26 3 (.int .i64 0) 8 rfl underlying26 Kf rfl (.slice uwA wl.length uwc) (Q5 wl) (.int .i64 C) rfl rfl Sm rfl HE5.o.ou (HF.o.kept HK5.o) (by have:=Qre.o;simp[Q5];omega) (by have:=Qre.o;simp[Q5];omega) ?_;intro nv6 w6 Qog hk6 Qo1;have he6:=HE5.o.appU Qog hk6 Qo1;obtain⟨nA6,nc6,hv6⟩:=he6.ou.lenI;rw[show (wl++[C]).length=wl.length+1 from by simp] at hv6;subst hv6;have HE6:=Hh he6;have HK6:=Hh (HK5.o.trans (hk6.mono fun k _ hk=>HE5.o.ou.2 k hk));clear he6 Qog hk6 Qo1)|(at_builtin;refine Qt S2 rfl _ _ 26 3 (.int .i64 0) 8 rfl underlying26 Kf rfl (.slice uaA Q.2.length uac) (Q5 Q.2) (.int .i64 C) rfl rfl Sm rfl HE3.o.ov (HF.o.kept HK3.o) (by have:=HLN.o;simp[Q5];omega) (by have:=HLN.o;simp[Q5];omega) ?_;intro nv1 w5 Qnk hk5 Qnp;have he5:=HE3.o.appV Qnk hk5 Qnp;obtain⟨nA5,nc5,hv5⟩:=he5.ov.lenI;rw[show (Q.2++[C]).length=Q.2.length+1 from by simp] at hv5;subst hv5;have HE5:=Hh he5;have HK5:=Hh (HK3.o.trans (hk5.mono fun k _ hk=>HE3.o.ov.2 k hk));clear he5 Qnk hk5 Qnp));go_roundw
        case rel =>
         refine⟨m+1,Om,Gm,Hh ⟨?_,HK6.o⟩⟩;have h9:=HE6.o;rw[← HWL.o,Ps HJ0.o] at h9;rw[Qqe.o,Ps HJ0.o]
         first|exact h9|(rw[← HWL.o,Ps HJ0.o];exact h9)
        case measure=>exact Me
       |false =>
        have HJ0:Hi (¬ j=0):=Hh (by have:¬ (j:Int)=0:=(by simpa using hz);omega);go_wp2_with (first|(go_at_call 78;refine (Zp _ Q.2 _ _ (HE2.o.ov.ints (by have:=HLN.o;omega))).mono ?_;rw[hc2'];rintro e w39 ⟨rfl,rfl⟩)|(go_at_call 92;refine (Ze HE2.o.c _ _).mono ?_;rintro e w3 ⟨rfl,Qnv⟩;have HE3:=Hh (HE2.o.atCb Qnv);have HK3:=Hh (HK2.o.trans (Qnv.2.mono fun k _ e=>e▸Qnv.1.inS.1));clear Qnv)|(at_builtin;refine Qt S2 rfl _ _ 26 3 (.int .i64 0) 8 rfl underlying26 Kf rfl (.slice uaA Q.2.length uac) (Q5 Q.2) (.int .i64 C) rfl rfl Sm rfl HE3.o.ov (HF.o.kept HK3.o) (by have:=HLN.o;simp[Q5];omega) (by have:=HLN.o;simp[Q5];omega) ?_;intro nv1 w5 Qnk hk5 Qnp;have he5:=HE3.o.appV Qnk hk5 Qnp;obtain⟨nA5,nc5,hv5⟩:=he5.ov.lenI;rw[show (Q.2++[C]).length=Q.2.length+1 from by simp] at hv5;subst hv5;have HE5:=Hh he5;have HK5:=Hh (HK3.o.trans (hk5.mono fun k _ hk=>HE3.o.ov.2 k hk));clear he5 Qnk hk5 Qnp));go_roundw
        case rel =>
         refine⟨m+1,Om,Gm,Hh ⟨?_,HK5.o⟩⟩;have h9:=HE5.o;rw[← HWL.o,Ng HJ0.o] at h9;rw[Qqe.o,Ng HJ0.o]
         first|exact h9|(rw[← HWL.o,Ng HJ0.o];exact h9)
        case measure=>exact Me
      |false =>
       have Qqe:=Hh (HSN.o.trans (by rw[Ng hc0,Ng (by rw[hc2'];simp)]));clear HSN hc0;have HE3:=HE2;have HK3:=HK2;cases hz:((j:Int)==0) with
       |true =>
        have HJ0:Hi (j=0):=Hh (by have:(j:Int)=0:=(by simpa using hz);omega);go_wp2_with (first|(go_at_call 78;refine (Zp _ Q.2 _ _ (HE2.o.ov.ints (by have:=HLN.o;omega))).mono ?_;rw[hc2'];rintro e w39 ⟨rfl,rfl⟩)|(at_builtin;refine Qt S2 rfl _ _ 26 3 (.int .i64 0) 8 rfl underlying26 Kf rfl (.slice uwA wl.length uwc) (Q5 wl) (.int .i64 C) rfl rfl Sm rfl HE5.o.ou (HF.o.kept HK5.o) (by have:=Qre.o;simp[Q5];omega) (by have:=Qre.o;simp[Q5];omega) ?_;intro nv6 w6 Qog hk6 Qo1;have he6:=HE5.o.appU Qog hk6 Qo1;obtain⟨nA6,nc6,hv6⟩:=he6.ou.lenI;rw[show (wl++[C]).length=wl.length+1 from by simp] at hv6;subst hv6;have HE6:=Hh he6;have HK6:=Hh (HK5.o.trans (hk6.mono fun k _ hk=>HE5.o.ou.2 k hk));clear he6 Qog hk6 Qo1)|(at_builtin;refine Qt S2 rfl _ _ 26 3 (.int .i64 0) 8 rfl underlying26 Kf rfl (.slice uaA Q.2.length uac) (Q5 Q.2) (.int .i64 C) rfl rfl Sm rfl HE3.o.ov (HF.o.kept HK3.o) (by have:=HLN.o;simp[Q5];omega) (by have:=HLN.o;simp[Q5];omega) ?_;intro nv1 w5 Qnk hk5 Qnp;have he5:=HE3.o.appV Qnk hk5 Qnp;obtain⟨nA5,nc5,hv5⟩:=he5.ov.lenI;rw[show (Q.2++[C]).length=Q.2.length+1 from by simp] at hv5;subst hv5;have HE5:=Hh he5;have HK5:=Hh (HK3.o.trans (hk5.mono fun k _ hk=>HE3.o.ov.2 k hk));clear he5 Qnk hk5 Qnp));go_roundw
        case rel =>
         refine⟨m+1,Om,Gm,Hh ⟨?_,HK6.o⟩⟩;have h9:=HE6.o;rw[← HWL.o,Ps HJ0.o] at h9;rw[Qqe.o,Ps HJ0.o]
         first|exact h9|(rw[← HWL.o,Ps HJ0.o];exact h9)
        case measure=>exact Me
       |false =>
        have HJ0:Hi (¬ j=0):=Hh (by have:¬ (j:Int)=0:=(by simpa using hz);omega);go_wp2_with (first|(go_at_call 78;refine (Zp _ Q.2 _ _ (HE2.o.ov.ints (by have:=HLN.o;omega))).mono ?_;rw[hc2'];rintro e w39 ⟨rfl,rfl⟩)|(at_builtin;refine Qt S2 rfl _ _ 26 3 (.int .i64 0) 8 rfl underlying26 Kf rfl (.slice uaA Q.2.length uac) (Q5 Q.2) (.int .i64 C) rfl rfl Sm rfl HE3.o.ov (HF.o.kept HK3.o) (by have:=HLN.o;simp[Q5];omega) (by have:=HLN.o;simp[Q5];omega) ?_;intro nv1 w5 Qnk hk5 Qnp;have he5:=HE3.o.appV Qnk hk5 Qnp;obtain⟨nA5,nc5,hv5⟩:=he5.ov.lenI;rw[show (Q.2++[C]).length=Q.2.length+1 from by simp] at hv5;subst hv5;have HE5:=Hh he5;have HK5:=Hh (HK3.o.trans (hk5.mono fun k _ hk=>HE3.o.ov.2 k hk));clear he5 Qnk hk5 Qnp));go_roundw
        case rel =>
         refine⟨m+1,Om,Gm,Hh ⟨?_,HK5.o⟩⟩;have h9:=HE5.o;rw[← HWL.o,Ng HJ0.o] at h9;rw[Qqe.o,Ng HJ0.o]
         first|exact h9|(rw[← HWL.o,Ng HJ0.o];exact h9)
        case measure=>exact Me
    ·obtain rfl:m=(t.at (pm:Int)).kids.length:=Om
     have h9:=HAT.o;rw[List.take_length] at h9;have Qt2:Hi (Q2m S2 wi cb ⟨rb,ro,none⟩ ⟨tb,tq,none⟩ (Q0y r t (t.at k0).kids (t.at k1).kids s (j+1)).1 kv bv lv tv wv _ (Q2u r t (t.at k0).kids s (j+1)) _ (Q0y r t (t.at k0).kids (t.at k1).kids s (j+1)).2∧Q0 S2 W0 wi):=Hh (by rw[Qtu.o,← Qxh.o];exact h9);clear h9;go_wp2_with fail;go_roundw
     case rel=>exact⟨j+1,Om,Gm,Qt2⟩
     case measure=>exact Me
  ·obtain rfl:j=2:=Om
   obtain⟨vwA,vwc,rfl⟩:=HAT.o.1.ou.lenI;have hb9:=HAT.o.1.c.blk;have f9:=hb9.free 9;have f10:=hb9.free 10;have c9:=hb9.cell 9 _ rfl;have c10:=hb9.cell 10 _ rfl;have h7:=(HAT.o.1.swapW).setEach true;have hk7:=(HAT.o.2.setCell (p:=⟨cb,9,none⟩) (Or.inl HAT.o.1.c.inS.1) (.slice vwA (Q2u r t (t.at k0).kids s 2).length vwc)).setCell (p:=⟨cb,10,none⟩) (Or.inl HAT.o.1.c.inS.1) (.bool true);have HC7:=Hh h7;have HK7:=Hh hk7;have y7:=HBK.o _ hk7;clear h7 hk7;go_upto_region 20 with fail
   generalize hW7:(wo.setCell ⟨cb,9,none⟩ (.slice vwA (Q2u r t (t.at k0).kids s 2).length vwc)).setCell ⟨cb,10,none⟩ (.bool true)=w7 at HC7 HK7 y7 ⊢;clear hW7 hb9 f9 f10 c9 c10;generalize hS5:({(Q0y r t (t.at k0).kids (t.at k1).kids s 2).1 with withs:=Q2u r t (t.at k0).kids s 2,inEach:=true}:CS)=st4 at HX Qq2 HC7;go_wp2_with (go_at_call 93;refine (Xw hW hO HC7.o (HR.o.kept HK7.o) (HT.o.kept HK7.o) Qq2.o (HF.o.kept HK7.o) _ (n.kids.drop 2) ((Qj.drop HC.o ll (fun _=>rfl) rfl Om).kept HK7.o) (fun k hk=>HL.o k (List.mem_of_mem_drop hk))).mono ?_;rintro e w8 ⟨rfl,⟨lv8,wv8,hc8⟩,hk8⟩;have f98:=hc8.blk.free 9;have c98:=hc8.blk.cell 9 _ rfl;have f108:=hc8.blk.free 10;have c108:=hc8.blk.cell 10 _ rfl);go_returns;have h9:=(hc8.swapW (l1:=[]) (Qc.nil S2 3 w8) (Kr _ _) (.inr (.inl rfl))).setEach false;have hk9:=((HK7.o.trans hk8).setCell (p:=⟨cb,9,none⟩) (Or.inl hc8.inS) (.slice none 0 0)).setCell (p:=⟨cb,10,none⟩) (Or.inl hc8.inS) (.bool false);obtain rfl:=HX.o;exact⟨rfl,⟨_,_,h9.mono fun k _ h=>HS2.o k h⟩,hKS.trans (hk9.mono fun k _ h=>HS2.o k h)⟩
end
end Go.Proofs.YtkgkafjachjafaaGreat
