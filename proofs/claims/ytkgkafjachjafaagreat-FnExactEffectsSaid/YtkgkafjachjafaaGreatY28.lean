/- Part 28 of: FnExactEffects answers true; no condition. -/
import Derived.Handy
import Derived.Test.YtkgkafjachjafaaGreatY02
import Derived.Test.YtkgkafjachjafaaGreatY09
import Derived.Test.YtkgkafjachjafaaGreatY13
import Derived.Test.YtkgkafjachjafaaGreatY24
set_option linter.unusedVariables false
set_option maxHeartbeats 2000000
set_option maxRecDepth 100000
open Go Go.RowKit
namespace Go.Proofs.YtkgkafjachjafaaGreat
open Tryz
theorem K0t {p:Prop} (h:p:=by go_wp2_with fail;go_quiet ((first|exact Yh (Q3f _ _ HDA.o Qvr.o)|exact Yh (Q3f _ _ HDB.o Qvs.o)));go_wp2_with fail;go_returns;exact⟨⟨v,by rw[HX.o];rfl⟩,(Kr _ _).drewN _⟩):p:=h
section
variable {r:Reg} {t:Q1} {S:Nat→Prop} {w:World} {cb rb ro tb tq:Nat} {s:CS} {kv bv lv tv wv:Value}
theorem Qf8 (hn:Qs t=true) (hK:Qk t) (hSm:Z1 t) (hsz:t.nodes.length≤4000) {f:Nat} (hW:Q0r r t f (Q8 r t f)) (h:J0 S w cb ⟨rb,ro,none⟩ ⟨tb,tq,none⟩ s kv bv lv tv wv) (hr:Qj S w fun w=>Xa w rb ro r) (ht:Qj S w fun w=>J8 w tb tq t) (hok:Qe t s) (h00:s.code=0) (hF:Jh S w)
  {i:Int} (hi:InT t i) (hif:i<(f:Int)+1) (Qo4:Yt t s (t.at i).kind=true) (Qnj:(t.at i).kind=27) :
  Calls prog 124 #[.pointer (some ⟨cb,0,none⟩),.int .i64 i] w fun e w'=>e=.returned (.tuple #[])∧AtS S w cb ⟨rb,ro,none⟩ ⟨tb,tq,none⟩ ({Qb (Q8 r t f) s (t.at i).kids with locals:=(Qb (Q8 r t f) s (t.at i).kids).locals.take s.locals.length}) kv bv tv w':=by
 have hO:Yc t (Q8 r t f):=fun s k h hk=>Qe.walk hK hSm r f s k h hk
 have hlk:∀k∈(t.at i).kids,InT t k∧k<(f:Int):=fun k hk=>⟨hi.kid hK hk,by have:=(hK.mem hi hk).2;omega⟩
 have HTS:=Hh ht;have HRS:=Hh hr;have hml:=hi.2;obtain⟨m,nb,no,nc,A,p,o,c,n,W0,rfl,hnd,hmt,q2,q1,c0,c1,c2,c3,pst,hN,hW0,hk0,hb0,u0,u1,u2,u3,hkS,H0,HT⟩:=Yz ht h hi;rw[hN] at Qnj ⊢;have Qnw:=Hh hok.top;have HOK:=Hh hok;have HM:=Hh Qo4;have Qoo:=Hh pst;have HF:=Hh hF;have H00:=Hh h00;have HKD:=Hh Qnj;have HI:=Hh hi;have HLK:=Hh hlk;have HGR:=Hh (Q1u.kids (Q94 r t f) (t.at (m:Int)).kids s);rw[hN] at HLK HM HGR;obtain⟨lA,lc,hlv⟩:=h.l.lenI;have t33:(n.kind==33)=false:=by have:=HKD.o;simp;omega
 have t34:(n.kind==34)=false:=by have:=HKD.o;simp;omega
 have t11:(n.kind==11)=false:=by have:=HKD.o;simp;omega
 have t16:(n.kind==16)=false:=by have:=HKD.o;simp;omega
 have t17:(n.kind==17)=false:=by have:=HKD.o;simp;omega
 have t18:(n.kind==18)=false:=by have:=HKD.o;simp;omega
 have t20:(n.kind==20)=false:=by have:=HKD.o;simp;omega
 have t21:(n.kind==21)=false:=by have:=HKD.o;simp;omega
 have t27:(n.kind==27)=true:=by simpa using HKD.o
 clear hr ht hok Qo4 hi pst hnd hml hF h00 hlk Qnj hN hb0;have c6:W0.cell? ⟨cb,6,none⟩=some lv:=H0.o.blk.cell 6 _ rfl;clear h;subst hlv;generalize hS1:Qb (Q8 r t f) s n.kids=s1 at HGR ⊢;have Qqw:=Hh hS1;clear hS1;go_enter func124,ntmps124;go_upto_region 27 with (first|(go_at_call 164;refine (Zj H0.o t HT.o.now Qnw.o.1 Qnw.o.2 _).mono ?_;rw[HM.o];rintro e w1 ⟨rfl,hk1⟩;have v0:=hk1.cell (fun h=>h) u0;have v1:=hk1.cell (fun h=>h) u1;have v2:=hk1.cell (fun h=>h) u2;have v3:=hk1.cell (fun h=>h) u3;have v6:=hk1.cell (fun h=>h) c6;have HC1:=Hh (H0.o.nobk hk1);have HS1:=Hh (hkS.trans (hk1.ofNob S)))|(go_at_call 93;refine (Xw (hW) hO HC1.o (HRS.o.kept HS1.o) (HTS.o.kept HS1.o) HOK.o (HF.o.kept HS1.o) _ n.kids (Qoo.o.kept HS1.o) HLK.o).mono ?_;rw[Qqw.o];rintro e w8 ⟨rfl,⟨lv8,wv8,hc8⟩,hk8⟩))
 obtain⟨lA8,lc8,Qot⟩:=hc8.l.lenI
 have Qs4:s1.locals.length≤lc8:=by
  obtain⟨_,_,_,e,_,h9,_⟩:=hc8.l.openI;rw[Qot] at e;injection e with _ _ e3;rw[e3];exact h9
 have Qxm:(s.locals.length:Int)≤lc8:=by have:=HGR.o;omega
 have c68:w8.cell? ⟨cb,6,none⟩=some lv8:=hc8.blk.cell 6 _ rfl;have f68:=hc8.blk.free 6;have htk:=hc8.l.take (n:=s.locals.length) (A:=lA8) (c:=lc8) (by rw[Qot];simp[Q5]) (by simp[Q5];exact HGR.o);have h10:=hc8.swapL (l1:=s1.locals.take s.locals.length) (u:=.slice lA8 s.locals.length lc8) (by have:=htk;rwa [show (Q5 s1.locals).take s.locals.length=Q5 (s1.locals.take s.locals.length) from by simp[Q5,List.map_take]] at this) (Kr _ _) (by left;rw[Qot];cases lA8<;>rfl);have hk9:=(HS1.o.trans hk8).setCell (p:=⟨cb,6,none⟩) (Or.inl hc8.inS) (.slice lA8 s.locals.length lc8);have Qpd:=Hh h10;have HK9:=Hh hk9;subst Qot;clear hc8 hk8 htk h10 hk9 Qs4;go_wp2_with fail;go_returns;exact⟨rfl,⟨_,_,Qpd.o⟩,HK9.o⟩
theorem Qiq (hn:Qs t=true) (hK:Qk t) (hSm:Z1 t) (hsz:t.nodes.length≤4000) {f:Nat} (hW:Q0r r t f (Q8 r t f)) (h:J0 S w cb ⟨rb,ro,none⟩ ⟨tb,tq,none⟩ s kv bv lv tv wv) (hr:Qj S w fun w=>Xa w rb ro r) (ht:Qj S w fun w=>J8 w tb tq t) (hok:Qe t s) (h00:s.code=0) (hF:Jh S w)
  {i:Int} (hi:InT t i) (hif:i<(f:Int)+1) (Qo4:Yt t s (t.at i).kind=true) (Qnj:((t.at i).kind≠33∧(t.at i).kind≠34∧(t.at i).kind≠11∧(t.at i).kind≠16∧(t.at i).kind≠17∧(t.at i).kind≠18∧(t.at i).kind≠20∧(t.at i).kind≠21∧(t.at i).kind≠27)∧(Qb (Q8 r t f) s (t.at i).kids).code≠0) :
  Calls prog 124 #[.pointer (some ⟨cb,0,none⟩),.int .i64 i] w fun e w'=>e=.returned (.tuple #[])∧AtS S w cb ⟨rb,ro,none⟩ ⟨tb,tq,none⟩ (Qb (Q8 r t f) s (t.at i).kids) kv bv tv w':=by
 have hO:Yc t (Q8 r t f):=fun s k h hk=>Qe.walk hK hSm r f s k h hk
 have hlk:∀k∈(t.at i).kids,InT t k∧k<(f:Int):=fun k hk=>⟨hi.kid hK hk,by have:=(hK.mem hi hk).2;omega⟩
 have HTS:=Hh ht;have HRS:=Hh hr;have hml:=hi.2;obtain⟨m,nb,no,nc,A,p,o,c,n,W0,rfl,hnd,hmt,q2,q1,c0,c1,c2,c3,pst,hN,hW0,hk0,hb0,u0,u1,u2,u3,hkS,H0,HT⟩:=Yz ht h hi;rw[hN] at Qnj ⊢;have Qnw:=Hh hok.top;have HOK:=Hh hok;have HM:=Hh Qo4;have Qoo:=Hh pst;have HF:=Hh hF;have H00:=Hh h00;have HKD:=Hh Qnj;have HI:=Hh hi;have HLK:=Hh hlk;rw[hN] at HLK HM;have Qnn:∀k,k<W0.heap.size→Jj S w.heap.size k→S k:=fun _ _ h=>h.1
 have HL0:Hi (J0 (Jj S w.heap.size) W0 cb ⟨rb,ro,none⟩ ⟨tb,tq,none⟩ s kv bv lv tv wv):=Hh ((h.mono fun k hk hS=>⟨hS,Om⟩).nobk hk0);have Qpu:W0.heap.size=w.heap.size+1:=by rw[← hW0];simp
 have HF0:Hi (Jh (Jj S w.heap.size) W0):=Hh (fun k hk=>⟨HF.o k Om,Om⟩);have HR0:=Hh ((hr.kept hkS).mono Qnn);have HT0:=Hh ((ht.kept hkS).mono Qnn);have HP0:=Hh ((pst.kept hkS).mono Qnn)
 have HBX:Hi (∀W,Q0 (Jj S w.heap.size) W0 W→W.cell? ⟨w.heap.size,0,none⟩=some (.int .i64 n.kind)∧W.cell? ⟨w.heap.size,1,none⟩=some (.string n.text)∧W.cell? ⟨w.heap.size,2,none⟩=some (.int .i64 n.i)∧W.cell? ⟨w.heap.size,3,none⟩=some (.slice A n.kids.length c)) :=
  Hh (fun W hk=>⟨hk.cell (fun hh=>hh.2 rfl) u0,hk.cell (fun hh=>hh.2 rfl) u1,hk.cell (fun hh=>hh.2 rfl) u2,hk.cell (fun hh=>hh.2 rfl) u3⟩)
 clear Qnn Qpu;have t33:(n.kind==33)=false:=by have:=HKD.o;simp;omega
 have t34:(n.kind==34)=false:=by have:=HKD.o;simp;omega
 have t11:(n.kind==11)=false:=by have:=HKD.o;simp;omega
 have t16:(n.kind==16)=false:=by have:=HKD.o;simp;omega
 have t17:(n.kind==17)=false:=by have:=HKD.o;simp;omega
 have t18:(n.kind==18)=false:=by have:=HKD.o;simp;omega
 have t20:(n.kind==20)=false:=by have:=HKD.o;simp;omega
 have t21:(n.kind==21)=false:=by have:=HKD.o;simp;omega
 have t27:(n.kind==27)=false:=by have:=HKD.o;simp;omega
 have HCD:=Hh Qnj.2;have Qo0:=Hh (Qe.kids hO n.kids (fun k hk=>(HLK.o k hk).1) hok);generalize hS1:Qb (Q8 r t f) s n.kids=s1 at Qo0 HCD ⊢;have Qqw:=Hh hS1;have tc:(s1.code != 0)=true:=by simpa using HCD.o
 clear hS1;clear h hr ht hok Qo4 hi pst hnd hml hF h00 hlk Qnj hN hb0;go_enter func124,ntmps124;go_wp2_with (first|(go_at_call 164;refine (Zj H0.o t HT.o.now Qnw.o.1 Qnw.o.2 _).mono ?_;rw[HM.o];rintro e w1 ⟨rfl,hk1⟩;have v0:=hk1.cell (fun h=>h) u0;have v1:=hk1.cell (fun h=>h) u1;have v2:=hk1.cell (fun h=>h) u2;have v3:=hk1.cell (fun h=>h) u3;have HC1:=Hh (HL0.o.nobk hk1);have HK1:Hi (Q0 (Jj S w.heap.size) W0 w1):=Hh (hk1.ofNob _);have HS1:=Hh (hkS.trans (hk1.ofNob S)))|(go_at_call 93;refine (Xw hW hO HC1.o (HR0.o.kept HK1.o) (HT0.o.kept HK1.o) HOK.o (HF0.o.kept HK1.o) _ n.kids (HP0.o.kept HK1.o) HLK.o).mono ?_;rw[Qqw.o];rintro e w8 ⟨rfl,⟨lv8,wv8,hc8⟩,hk8⟩;have HC8:=Hh hc8;have HK8:=Hh (HK1.o.trans hk8);have x2:=hc8.blk.cell 2 _ rfl;obtain⟨y0,y1,y2,y3⟩:=HBX.o w8 HK8.o;clear hc8 hk8));go_returns;exact⟨rfl,⟨_,_,HC8.o.mono fun k _ h=>h.1⟩,hkS.trans (HK8.o.mono fun k _ h=>h.1)⟩
theorem Qi4 (hn:Qs t=true) (hK:Qk t) (hSm:Z1 t) (hsz:t.nodes.length≤4000) {f:Nat} (hW:Q0r r t f (Q8 r t f)) (h:J0 S w cb ⟨rb,ro,none⟩ ⟨tb,tq,none⟩ s kv bv lv tv wv) (hr:Qj S w fun w=>Xa w rb ro r) (ht:Qj S w fun w=>J8 w tb tq t) (hok:Qe t s) (h00:s.code=0) (hF:Jh S w)
  {i:Int} (hi:InT t i) (hif:i<(f:Int)+1) (Qo4:Yt t s (t.at i).kind=true) (Qnj:((t.at i).kind≠33∧(t.at i).kind≠34∧(t.at i).kind≠11∧(t.at i).kind≠16∧(t.at i).kind≠17∧(t.at i).kind≠18∧(t.at i).kind≠20∧(t.at i).kind≠21∧(t.at i).kind≠27)∧(Qb (Q8 r t f) s (t.at i).kids).code=0∧Qu (t.at i).kind=true) :
  Calls prog 124 #[.pointer (some ⟨cb,0,none⟩),.int .i64 i] w fun e w'=>e=.returned (.tuple #[])∧AtS S w cb ⟨rb,ro,none⟩ ⟨tb,tq,none⟩ ((Zw r t (Qb (Q8 r t f) s (t.at i).kids) i (t.at i)).2.setKind i (Zw r t (Qb (Q8 r t f) s (t.at i).kids) i (t.at i)).1) kv bv tv w':=by
 have hO:Yc t (Q8 r t f):=fun s k h hk=>Qe.walk hK hSm r f s k h hk
 have hlk:∀k∈(t.at i).kids,InT t k∧k<(f:Int):=fun k hk=>⟨hi.kid hK hk,by have:=(hK.mem hi hk).2;omega⟩
 obtain⟨hek,Qnm⟩:=Qa0 hn hi Qnj.2.2 Qnj.1.2.2.1;have Qof:=Hh Qnm;clear hek Qnm;have HTS:=Hh ht;have HRS:=Hh hr;have hml:=hi.2;obtain⟨m,nb,no,nc,A,p,o,c,n,W0,rfl,hnd,hmt,q2,q1,c0,c1,c2,c3,pst,hN,hW0,hk0,hb0,u0,u1,u2,u3,hkS,H0,HT⟩:=Yz ht h hi;rw[hN] at Qnj ⊢;have Qnw:=Hh hok.top;have HOK:=Hh hok;have HM:=Hh Qo4;have Qoo:=Hh pst;have HF:=Hh hF;have H00:=Hh h00;have HKD:=Hh Qnj;have HI:=Hh hi;have HLK:=Hh hlk;rw[hN] at HLK HM Qof;have Qnn:∀k,k<W0.heap.size→Jj S w.heap.size k→S k:=fun _ _ h=>h.1
 have HL0:Hi (J0 (Jj S w.heap.size) W0 cb ⟨rb,ro,none⟩ ⟨tb,tq,none⟩ s kv bv lv tv wv):=Hh ((h.mono fun k hk hS=>⟨hS,Om⟩).nobk hk0);have Qpu:W0.heap.size=w.heap.size+1:=by rw[← hW0];simp
 have HF0:Hi (Jh (Jj S w.heap.size) W0):=Hh (fun k hk=>⟨HF.o k Om,Om⟩);have HR0:=Hh ((hr.kept hkS).mono Qnn);have HT0:=Hh ((ht.kept hkS).mono Qnn);have HP0:=Hh ((pst.kept hkS).mono Qnn)
 have HBX:Hi (∀W,Q0 (Jj S w.heap.size) W0 W→W.cell? ⟨w.heap.size,0,none⟩=some (.int .i64 n.kind)∧W.cell? ⟨w.heap.size,1,none⟩=some (.string n.text)∧W.cell? ⟨w.heap.size,2,none⟩=some (.int .i64 n.i)∧W.cell? ⟨w.heap.size,3,none⟩=some (.slice A n.kids.length c)) :=
  Hh (fun W hk=>⟨hk.cell (fun hh=>hh.2 rfl) u0,hk.cell (fun hh=>hh.2 rfl) u1,hk.cell (fun hh=>hh.2 rfl) u2,hk.cell (fun hh=>hh.2 rfl) u3⟩)
 clear Qnn Qpu;have t33:(n.kind==33)=false:=by have:=HKD.o;simp;omega
 have t34:(n.kind==34)=false:=by have:=HKD.o;simp;omega
 have t11:(n.kind==11)=false:=by have:=HKD.o;simp;omega
 have t16:(n.kind==16)=false:=by have:=HKD.o;simp;omega
 have t17:(n.kind==17)=false:=by have:=HKD.o;simp;omega
 have t18:(n.kind==18)=false:=by have:=HKD.o;simp;omega
 have t20:(n.kind==20)=false:=by have:=HKD.o;simp;omega
 have t21:(n.kind==21)=false:=by have:=HKD.o;simp;omega
 have t27:(n.kind==27)=false:=by have:=HKD.o;simp;omega
 have HCD:=Hh Qnj.2;have Qo0:=Hh (Qe.kids hO n.kids (fun k hk=>(HLK.o k hk).1) hok);have Qo3:0<t.nodes.length:=Om
 obtain⟨g,kc,hkv,Qnt,hSg⟩:=HL0.o.kindRow hok Qo3;generalize hS1:Qb (Q8 r t f) s n.kids=s1 at Qo0 HCD ⊢;have Qqw:=Hh hS1;have tc:(s1.code != 0)=false:=by simpa using HCD.o.1
 have te:=HCD.o.2;have HQK:=Hh (Qo0.o.expr r (m:Int) n).kinds;have HXP:=Hh (fun w2 lv2 wv2 (h2:J0 (Jj S w.heap.size) w2 cb ⟨rb,ro,none⟩ ⟨tb,tq,none⟩ s1 kv bv lv2 tv wv2) (hk2:Q0 (Jj S w.heap.size) W0 w2)=>Qmq h2 r (HR0.o.kept hk2) t (HT0.o.kept hk2) Qo0.o hK (m:Int) HI.o n _ (HP0.o.kept hk2) (fun k hk=>(HLK.o k hk).1) HCD.o.2 (by have:=HKD.o;exact this.1.2.2.1) Qof.o);have Qoi:=Hh Qnt;have HSG:=Hh hSg;have HMM:=Hh hmt;clear hS1 Qnt hSg Qo3;clear h hr ht hok Qo4 hi pst hnd hml hF h00 hlk Qnj hN hb0;generalize Zw r t s1 (m:Int) n=q at HXP HQK ⊢;subst hkv;go_enter func124,ntmps124;go_upto_region 7 with (first|(go_at_call 164;refine (Zj H0.o t HT.o.now Qnw.o.1 Qnw.o.2 _).mono ?_;rw[HM.o];rintro e w1 ⟨rfl,hk1⟩;have v0:=hk1.cell (fun h=>h) u0;have v1:=hk1.cell (fun h=>h) u1;have v2:=hk1.cell (fun h=>h) u2;have v3:=hk1.cell (fun h=>h) u3;have HC1:=Hh (HL0.o.nobk hk1);have HK1:Hi (Q0 (Jj S w.heap.size) W0 w1):=Hh (hk1.ofNob _);have HS1:=Hh (hkS.trans (hk1.ofNob S)))|(go_at_call 93;refine (Xw hW hO HC1.o (HR0.o.kept HK1.o) (HT0.o.kept HK1.o) HOK.o (HF0.o.kept HK1.o) _ n.kids (HP0.o.kept HK1.o) HLK.o).mono ?_;rw[Qqw.o];rintro e w8 ⟨rfl,⟨lv8,wv8,hc8⟩,hk8⟩;have HC8:=Hh hc8;have HK8:=Hh (HK1.o.trans hk8);have x2:=hc8.blk.cell 2 _ rfl;obtain⟨y0,y1,y2,y3⟩:=HBX.o w8 HK8.o;clear hc8 hk8)|(go_at_call 94;refine (Q0q _ _).mono ?_;rw[te];rintro e w9 ⟨rfl,rfl⟩))
 have x4:w8.cell? ⟨cb,4,none⟩=some (.slice (some ⟨g,0,none⟩) t.nodes.length kc):=HC8.o.blk.cell 4 _ rfl;go_region_held3 (fun W=>W.cell? ⟨cb,4,none⟩=some (.slice (some ⟨g,0,none⟩) t.nodes.length kc)∧W.cell? ⟨w.heap.size,0,none⟩=some (.int .i64 n.kind)∧W.cell? ⟨w.heap.size,1,none⟩=some (.string n.text)∧W.cell? ⟨w.heap.size,2,none⟩=some (.int .i64 n.i)∧W.cell? ⟨w.heap.size,3,none⟩=some (.slice A n.kids.length c)) (first|exact⟨x4,y0,y1,y2,y3⟩|exact⟨Qng.blk.cell 4 _ rfl,HBX.o _ HK9.o⟩|exact⟨Qpd.o.blk.cell 4 _ rfl,HBX.o _ Qq3.o⟩) ((first|(go_at_call 171;refine (HXP.o _ _ _ (HC8.o.drew) (HK8.o.drew)).mono ?_;rintro e w9 ⟨rfl,Qng,Qnl⟩;have HK9:=Hh (HK8.o.trans Qnl.undrew);obtain⟨z1,z2⟩:=Qng.kindCell (mi:=m) Qoi.o (by rw[HQK.o];omega);have h10:=Qng.setK Qoi.o (m:Int) q.1 Om;rw[Int.toNat_natCast] at h10;have Qpd:=Hh h10;have Qq3:=Hh (HK9.o.setCell (p:=⟨g,m,none⟩) (Or.inl HSG.o) (.int .i64 q.1));clear h10;dsimp only)));go_wp2_with fail;go_returns;exact⟨rfl,⟨_,_,Qpd.o.mono fun k _ h=>h.1⟩,hkS.trans (Qq3.o.mono fun k _ h=>h.1)⟩
theorem Qhg (hn:Qs t=true) (hK:Qk t) (hSm:Z1 t) (hsz:t.nodes.length≤4000) {f:Nat} (hW:Q0r r t f (Q8 r t f)) (h:J0 S w cb ⟨rb,ro,none⟩ ⟨tb,tq,none⟩ s kv bv lv tv wv) (hr:Qj S w fun w=>Xa w rb ro r) (ht:Qj S w fun w=>J8 w tb tq t) (hok:Qe t s) (h00:s.code=0) (hF:Jh S w)
  {i:Int} (hi:InT t i) (hif:i<(f:Int)+1) (Qo4:Yt t s (t.at i).kind=true) (Qnj:((t.at i).kind≠33∧(t.at i).kind≠34∧(t.at i).kind≠11∧(t.at i).kind≠16∧(t.at i).kind≠17∧(t.at i).kind≠18∧(t.at i).kind≠20∧(t.at i).kind≠21∧(t.at i).kind≠27)∧(Qb (Q8 r t f) s (t.at i).kids).code=0∧Qu (t.at i).kind=false) :
  Calls prog 124 #[.pointer (some ⟨cb,0,none⟩),.int .i64 i] w fun e w'=>e=.returned (.tuple #[])∧AtS S w cb ⟨rb,ro,none⟩ ⟨tb,tq,none⟩ (Qy r t (Qb (Q8 r t f) s (t.at i).kids) i (t.at i)) kv bv tv w':=by
 have hO:Yc t (Q8 r t f):=fun s k h hk=>Qe.walk hK hSm r f s k h hk
 have hlk:∀k∈(t.at i).kids,InT t k∧k<(f:Int):=fun k hk=>⟨hi.kid hK hk,by have:=(hK.mem hi hk).2;omega⟩
 have Qu2:=Hh (Qhk hn hi);have HTS:=Hh ht;have HRS:=Hh hr;have hml:=hi.2;obtain⟨m,nb,no,nc,A,p,o,c,n,W0,rfl,hnd,hmt,q2,q1,c0,c1,c2,c3,pst,hN,hW0,hk0,hb0,u0,u1,u2,u3,hkS,H0,HT⟩:=Yz ht h hi;rw[hN] at Qnj ⊢;have Qnw:=Hh hok.top;have HOK:=Hh hok;have HM:=Hh Qo4;have Qoo:=Hh pst;have HF:=Hh hF;have H00:=Hh h00;have HKD:=Hh Qnj;have HI:=Hh hi;have HLK:=Hh hlk;rw[hN] at HLK HM Qu2;have Qnn:∀k,k<W0.heap.size→Jj S w.heap.size k→S k:=fun _ _ h=>h.1
 have HL0:Hi (J0 (Jj S w.heap.size) W0 cb ⟨rb,ro,none⟩ ⟨tb,tq,none⟩ s kv bv lv tv wv):=Hh ((h.mono fun k hk hS=>⟨hS,Om⟩).nobk hk0);have Qpu:W0.heap.size=w.heap.size+1:=by rw[← hW0];simp
 have HF0:Hi (Jh (Jj S w.heap.size) W0):=Hh (fun k hk=>⟨HF.o k Om,Om⟩);have HR0:=Hh ((hr.kept hkS).mono Qnn);have HT0:=Hh ((ht.kept hkS).mono Qnn);have HP0:=Hh ((pst.kept hkS).mono Qnn)
 have HBX:Hi (∀W,Q0 (Jj S w.heap.size) W0 W→W.cell? ⟨w.heap.size,0,none⟩=some (.int .i64 n.kind)∧W.cell? ⟨w.heap.size,1,none⟩=some (.string n.text)∧W.cell? ⟨w.heap.size,2,none⟩=some (.int .i64 n.i)∧W.cell? ⟨w.heap.size,3,none⟩=some (.slice A n.kids.length c)) :=
  Hh (fun W hk=>⟨hk.cell (fun hh=>hh.2 rfl) u0,hk.cell (fun hh=>hh.2 rfl) u1,hk.cell (fun hh=>hh.2 rfl) u2,hk.cell (fun hh=>hh.2 rfl) u3⟩)
 clear Qnn Qpu;have t33:(n.kind==33)=false:=by have:=HKD.o;simp;omega
 have t34:(n.kind==34)=false:=by have:=HKD.o;simp;omega
 have t11:(n.kind==11)=false:=by have:=HKD.o;simp;omega
 have t16:(n.kind==16)=false:=by have:=HKD.o;simp;omega
 have t17:(n.kind==17)=false:=by have:=HKD.o;simp;omega
 have t18:(n.kind==18)=false:=by have:=HKD.o;simp;omega
 have t20:(n.kind==20)=false:=by have:=HKD.o;simp;omega
 have t21:(n.kind==21)=false:=by have:=HKD.o;simp;omega
 have t27:(n.kind==27)=false:=by have:=HKD.o;simp;omega
 have HCD:=Hh Qnj.2;have Qo0:=Hh (Qe.kids hO n.kids (fun k hk=>(HLK.o k hk).1) hok);generalize hS1:Qb (Q8 r t f) s n.kids=s1 at Qo0 HCD ⊢;have Qqw:=Hh hS1;have tc:(s1.code != 0)=false:=by simpa using HCD.o.1
 have te:=HCD.o.2;have Qpz:Hi (s1.locals.length≤4000):=Hh (by have:=Qo0.o.few HCD.o.1;omega);clear hS1;clear h hr ht hok Qo4 hi pst hnd hml hF h00 hlk Qnj hN hb0;go_enter func124,ntmps124;go_wp2_with (first|(go_at_call 164;refine (Zj H0.o t HT.o.now Qnw.o.1 Qnw.o.2 _).mono ?_;rw[HM.o];rintro e w1 ⟨rfl,hk1⟩;have v0:=hk1.cell (fun h=>h) u0;have v1:=hk1.cell (fun h=>h) u1;have v2:=hk1.cell (fun h=>h) u2;have v3:=hk1.cell (fun h=>h) u3;have HC1:=Hh (HL0.o.nobk hk1);have HK1:Hi (Q0 (Jj S w.heap.size) W0 w1):=Hh (hk1.ofNob _);have HS1:=Hh (hkS.trans (hk1.ofNob S)))|(go_at_call 93;refine (Xw hW hO HC1.o (HR0.o.kept HK1.o) (HT0.o.kept HK1.o) HOK.o (HF0.o.kept HK1.o) _ n.kids (HP0.o.kept HK1.o) HLK.o).mono ?_;rw[Qqw.o];rintro e w8 ⟨rfl,⟨lv8,wv8,hc8⟩,hk8⟩;have HC8:=Hh hc8;have HK8:=Hh (HK1.o.trans hk8);have x2:=hc8.blk.cell 2 _ rfl;obtain⟨y0,y1,y2,y3⟩:=HBX.o w8 HK8.o;clear hc8 hk8)|(go_at_call 94;refine (Q0q _ _).mono ?_;rw[te];rintro e w9 ⟨rfl,rfl⟩)|(go_at_call 172;refine (Qbn HC8.o r (HR0.o.kept HK8.o) t (HT0.o.kept HK8.o) Qo0.o Qpz.o (m:Int) HI.o n _ (HP0.o.kept HK8.o) (fun k hk=>(HLK.o k hk).1) Qu2.o (HF0.o.kept HK8.o)).mono ?_;rintro e w9 ⟨rfl,hat⟩));go_returns;exact⟨rfl,((hat.after HK8.o).wider fun k h=>h.1).after hkS⟩
end
theorem Qjb {r:Reg} {t:Q1} (hn:Qs t=true) (hK:Qk t) (hSm:Z1 t) (hsz:t.nodes.length≤4000):∀f:Nat,Q0r r t f (Q8 r t f):=by
 intro f
 induction f with
 |zero=>intro S w cb rb ro tb tq s kv bv lv tv wv i hi hin;have:=hin.1;omega
 |succ f ih =>
  intro S w cb rb ro tb tq s kv bv lv tv wv i hif hi h hr ht hok h00 hF;have hif':i<(f:Int)+1:=by simpa using hif
  cases hm:Yt t s (t.at i).kind with
  |false=>rw[Q45 hm];exact Qk5 h ht hok hi hm
  |true =>
  by_cases k33:(t.at i).kind=33
  ·have e:Q8 r t (f+1) s i=fnF t (Q8 r t f) s i (t.at i):=by unfold Q8;dsimp only;rw[Ps hm,Ps k33]
   rw[e];exact Qln hn hK hSm hsz ih h hr ht hok h00 hF hi hif' hm k33
  by_cases k34:(t.at i).kind=34
  ·have e:Q8 r t (f+1) s i=Qb (Q8 r t f) s (t.at i).kids:=by unfold Q8;dsimp only;rw[Ps hm,Ng k33,Ps k34]
   rw[e];exact Qkl hn hK hSm hsz ih h hr ht hok h00 hF hi hif' hm k34
  by_cases k11:(t.at i).kind=11
  ·rw[Q6j hm k11];exact Qhi hn hK hSm hsz ih h hr ht hok h00 hF hi hif' hm k11
  by_cases k16:(t.at i).kind=16
  ·rw[Q2b hm (.inl k16)];exact Qai hn hK hSm hsz ih h hr ht hok h00 hF hi hif' hm k16
  by_cases k17:(t.at i).kind=17
  ·rw[Q2b hm (.inr k17)];exact Qaj hn hK hSm hsz ih h hr ht hok h00 hF hi hif' hm k17
  by_cases k18:(t.at i).kind=18
  ·rw[Q6b hm k18];exact Qie hn hK hSm hsz ih h hr ht hok h00 hF hi hif' hm k18
  by_cases k20:(t.at i).kind=20
  ·rw[Q5z hm k20];exact Qin hn hK hSm hsz ih h hr ht hok h00 hF hi hif' hm k20
  by_cases k21:(t.at i).kind=21
  ·rw[Q5a hm k21];exact Qek hn hK hSm hsz ih h hr ht hok h00 hF hi hif' hm k21
  by_cases k27:(t.at i).kind=27
  ·have e:Q8 r t (f+1) s i={Qb (Q8 r t f) s (t.at i).kids with locals:=(Qb (Q8 r t f) s (t.at i).kids).locals.take s.locals.length}:=by
    unfold Q8;dsimp only;rw[Ps hm,Ng k33,Ng k34,Ng k11,Ng Om,Ng k18,Ng k20,Ng k21,Ps k27]
   rw[e];exact Qf8 hn hK hSm hsz ih h hr ht hok h00 hF hi hif' hm k27
  have hnt:(t.at i).kind≠33∧(t.at i).kind≠34∧(t.at i).kind≠11∧(t.at i).kind≠16∧(t.at i).kind≠17∧(t.at i).kind≠18∧(t.at i).kind≠20∧(t.at i).kind≠21∧(t.at i).kind≠27:=⟨k33,k34,k11,k16,k17,k18,k20,k21,k27⟩
  have e:Q8 r t (f+1) s i=if (Qb (Q8 r t f) s (t.at i).kids).code≠0 then Qb (Q8 r t f) s (t.at i).kids else if Qu (t.at i).kind then (Zw r t (Qb (Q8 r t f) s (t.at i).kids) i (t.at i)).2.setKind i (Zw r t (Qb (Q8 r t f) s (t.at i).kids) i (t.at i)).1 else Qy r t (Qb (Q8 r t f) s (t.at i).kids) i (t.at i):=by
   conv=>lhs;unfold Q8;dsimp only;rw[Ps hm,Ng k33,Ng k34,Ng k11,Ng Om,Ng k18,Ng k20,Ng k21,Ng k27]
  rw[e]
  by_cases hc:(Qb (Q8 r t f) s (t.at i).kids).code=0
  ·rw[Ng (show ¬ (Qb (Q8 r t f) s (t.at i).kids).code≠0 by simpa using hc)]
   cases he:Qu (t.at i).kind with
   |true=>rw[Ps rfl];exact Qi4 hn hK hSm hsz ih h hr ht hok h00 hF hi hif' hm ⟨hnt,hc,he⟩
   |false=>rw[Ng Sm];exact Qhg hn hK hSm hsz ih h hr ht hok h00 hF hi hif' hm ⟨hnt,hc,he⟩
  ·rw[Ps hc];exact Qiq hn hK hSm hsz ih h hr ht hok h00 hF hi hif' hm ⟨hnt,hc⟩
theorem Q93 (b:Int) (w:World):Calls prog 219 #[.int .u8 b] w fun e w'=>e=.returned (.bool (Qg b))∧w=w':=by
 cases h1:decide (48≤b)<;>cases h2:decide (b≤57)
 all_goals
  go_enter func219,ntmps219;go_wp2_with fail;go_ret;exact⟨Q7 (by simp only[Qg,h1,h2];rfl),rfl⟩
theorem Q8w (s:ByteArray) (a:Nat) (w:World) (hs:s.size≤140737488355328) (ha:a≤s.size) :
  Calls prog 202 #[.string s,.int .i64 a] w fun e w'=>e=.returned (.int .i64 (Jt Qg s a))∧w=w':=by
 go_enter func202,ntmps202;go_wp2_with fail;go_loop [1] (fun i=>∃j:Nat,j≤s.size∧i=.int .i64 j∧Hi (Jt Qg s a=Jt Qg s j)) (fun i=>s.size-(intOf i).toNat)
 case atStart=>exact⟨a,ha,rfl,Hh rfl⟩
 case round =>
  obtain⟨j,hj,rfl,HR⟩:=hrel
  by_cases hlt:j<s.size
  ·have hd:decide ((j:Int)<(s.size:Int))=true:=Dt Om
   cases hb:Qg ((s[j]'hlt).toNat:Int) with
   |true =>
    go_wp2_with (go_at_call 219;refine (Q93 _ _).mono ?_;rw[hb];rintro e w1 ⟨rfl,rfl⟩);go_round
    case rel=>exact⟨j+1,Om,Gm,Hh (HR.o.trans (Qas hlt hb))⟩
    case measure=>exact Me
   |false =>
    go_wp2_with (go_at_call 219;refine (Q93 _ _).mono ?_;rw[hb];rintro e w1 ⟨rfl,rfl⟩);go_ret;exact⟨Jo (by rw[HR.o,Qbc hlt hb]),rfl⟩
  ·have hd:decide ((j:Int)<(s.size:Int))=false:=Df Om
   go_wp2_with fail;go_ret;exact⟨Jo (by rw[HR.o,Qd0 Om]),rfl⟩
theorem Q3f (s:ByteArray) (w:World) (hd:∀b∈J5 s,Qg b=true) (hs:s.size≤15) :
  Calls prog 203 #[.string s] w fun e w'=>e=.returned (.int .i64 (Q10 (J5 s)))∧w=w':=by
 have HD:=Hh hd;clear hd;go_enter func203,ntmps203;go_wp2_with fail;go_loop [3,4] (fun n i=>∃j:Nat,j≤s.size∧i=.int .i64 j∧n=.int .i64 (Q10 ((J5 s).take j))) (fun _ i=>s.size-(intOf i).toNat)
 case atStart=>exact⟨0,Nat.zero_le _,rfl,rfl⟩
 case round =>
  obtain⟨j,hj,rfl,rfl⟩:=hrel
  by_cases hlt:j<s.size
  ·have hg:=Q1q s j hlt
   have hb:=HD.o _ (Mg hg);simp[Qg] at hb;obtain⟨hb1,hb2⟩:=hb;obtain⟨hn1,hn2⟩:=Q79 ((J5 s).take j) (fun b hb=>HD.o b (List.mem_of_mem_take hb)) (by rw[List.length_take];omega);have HS:Hi (Q10 ((J5 s).take (j+1))=10*Q10 ((J5 s).take j)+(((s[j]'hlt).toNat:Int)-48)):=Hh (by rw[Js hg,Qal]);generalize Q10 ((J5 s).take j)=n at *;clear hg;go_wp2;go_round
   case rel=>exact⟨j+1,Om,Gm,by rw[HS.o];congr 1;omega⟩
   case measure=>exact Me
  ·go_wp2
   go_ret;obtain rfl:j=s.size:=Om
   exact⟨Jo (by rw[List.take_of_length_le (by rw[Z2];exact Nat.le_refl _)]),rfl⟩
def Q1d (s:ByteArray):Bool :=
 if 1≤Jt Qg s 0∧Jt Qg s 0≤9 then
  if 1<Jt Qg s 0∧Q2k s 0=48 then false
  else if s.size≤Jt Qg s 0 then false
  else if Q2k s (Jt Qg s 0)≠46 then false
  else decide (Jt Qg s (Jt Qg s 0+1)=s.size)&&(decide (Jt Qg s 0+2≤s.size)&&decide (s.size≤Jt Qg s 0+7))
 else false
theorem Q3r {s:ByteArray} {i:Nat} (h:i<s.size):Q2k s i=((s[i]'h).toNat:Int):=by unfold Q2k;rw[dif_pos h]
theorem Qb3 (p:Int→Bool) (l:List Int):∀b∈l.take (Q3l p l),p b=true:=by
 induction l with
 |nil=>simp
 |cons y ys ih =>
  simp only[Q3l];split
  ·intro b hb
   simp only[List.take_succ_cons,List.mem_cons] at hb;rcases hb with rfl|hb
   ·assumption
   ·exact ih b hb
  ·simp
theorem Y7 (s:ByteArray) (i j:Nat):J5 (s.extract i j)=((J5 s).drop i).take (j-i):=by
 unfold J5;rw[ByteArray.data_extract,Array.toList_extract,List.extract_eq_take_drop,List.map_take,List.map_drop]
def Q76 (k:Nat):Nat:=floatOfInt .f64 ((10 ^ k:Nat):Int)
theorem Qm2 (k:Nat) (h:k≤6):Qbz (Q76 k)=true:=by
 match k,h with
 |0,_|1,_|2,_|3,_|4,_|5,_|6,_=>decide +kernel
theorem Qn9 (n:Int) (k:Nat) (h:k≤6) (hn:0≤n):∃v,floatBits .quo .f64 (floatOfInt .f64 n) (Q76 k)=some v:=Qcy n hn (Q76 k) (Qm2 k h)
def pw (k:Nat):Int:=((10 ^ k:Nat):Int)
theorem Qlz (k:Nat):pw k*10=pw (k+1):=by unfold pw;rw[Nat.pow_succ];push_cast;rfl
theorem Qg3 (k:Nat):1≤pw k:=by unfold pw;have:=Nat.pos_of_ne_zero (n:=10 ^ k) Sm;omega
theorem Qmr (k:Nat) (h:k≤6):pw k≤1000000:=by
 match k,h with
 |0,_|1,_|2,_|3,_|4,_|5,_|6,_=>decide
theorem Qma {k j:Nat} (h:k≤j):((10 ^ k:Nat):Int)≤pw j:=by unfold pw;exact_mod_cast Nat.pow_le_pow_right Om h
theorem Qeg (s:ByteArray) (w:World) (hs:s.size≤140737488355328):Calls prog 180 #[.string s] w fun e w'=>(∃v,e=.returned (.tuple #[.float .f64 v,.bool (Q1d s)]))∧Q0 nob w w':=by
 have hle:=Q5p Qg s 0 (Nat.zero_le _);have Qrg:=Q8w s 0;cases h1:Q9 ((Jt Qg s 0:Nat):Int) 1 9 with
 |false =>
  have HX:Hi (Q1d s=false):=Hh (by unfold Q1d;rw[Ng (by simp[Q9] at h1;omega)]);go_enter func180,ntmps180;go_wp2_with (first|(go_at_call 202;refine (Qrg _ hs (Nat.zero_le _)).mono ?_;rintro e w1 ⟨rfl,rfl⟩)|(go_at_call 105;refine (Zl _ _ _ _).mono ?_;rw[h1];rintro e w1 ⟨rfl,rfl⟩));go_returns;(refine⟨⟨0,?_⟩,Kr _ _⟩;rw[HX.o];rfl)
 |true =>
  have hX:Q1d s=(if 1<Jt Qg s 0∧Q2k s 0=48 then false else if s.size≤Jt Qg s 0 then false else if Q2k s (Jt Qg s 0)≠46 then false
    else decide (Jt Qg s (Jt Qg s 0+1)=s.size)&&(decide (Jt Qg s 0+2≤s.size)&&decide (s.size≤Jt Qg s 0+7))):=by
   unfold Q1d;rw[Ps (by simp[Q9] at h1;omega)]
  have Qoz:∀b∈J5 (s.extract 0 (Jt Qg s 0)),Qg b=true:=by
   rw[Y7,List.drop_zero,Nat.sub_zero];have:=Qb3 Qg (J5 s);have e:Jt Qg s 0=Q3l Qg (J5 s):=by simp[Jt]
   rw[e];exact this
  have Qpt:=Hh Qoz;have HX0:=Hh hX;clear hX Qoz;have Qp6:∀w,Calls prog 202 #[.string s,.int .i64 0] w fun e w'=>e=.returned (.int .i64 (Jt Qg s 0))∧w=w':=fun w=>Q8w s 0 w hs (Nat.zero_le _)
  clear Qrg;generalize ha:Jt Qg s 0=a at hle h1 Qpt HX0 Qp6;have hab:1≤a∧a≤9:=by simp[Q9] at h1;omega
  obtain⟨ha1,ha9⟩:=hab;have hs0:0<s.size:=Om
  have ha9':a≤140737488355328:=Om
  have HA9:=Hh ha9;clear ha9 ha
  by_cases hz:1<a∧Q2k s 0=48
  ·have HX:Hi (Q1d s=false):=Hh (by rw[HX0.o,Ps hz])
   have t1:decide ((1:Int)<(a:Int))=true:=Dt Om;have t2:(((s[0]'hs0).toNat:Int)==48)=true:=by have:=hz.2;rw[Q3r hs0] at this;simpa using this
   clear hz;go_enter func180,ntmps180;go_wp2_with (first|(go_at_call 202;refine (Qp6 _).mono ?_;rintro e w1 ⟨rfl,rfl⟩)|(go_at_call 105;refine (Zl _ _ _ _).mono ?_;rw[h1];rintro e w1 ⟨rfl,rfl⟩));go_returns;(refine⟨⟨0,?_⟩,Kr _ _⟩;rw[HX.o];rfl)
  have hg2:(decide ((1:Int)<(a:Int))=true∧(((s[0]'hs0).toNat:Int)==48)=false)∨decide ((1:Int)<(a:Int))=false:=by
   by_cases h:1<a
   ·left
    refine⟨Dt Om,?_⟩;have:¬ Q2k s 0=48:=fun e=>hz ⟨h,e⟩
    rw[Q3r hs0] at this;simpa using this
   ·right;exact Df Om
  by_cases h3:s.size≤a
  ·have HX:Hi (Q1d s=false):=Hh (by rw[HX0.o,Ng hz,Ps h3])
   have t3:decide ((s.size:Int)≤(a:Int))=true:=Dt Om;have t3':decide (s.size≤a)=true:=Dt h3;have HLE:=Hh hle;clear hle;clear hz h3;rcases hg2 with ⟨t1,t2⟩|t1
   ·go_enter func180,ntmps180;go_wp2_with (first|(go_at_call 202;refine (Qp6 _).mono ?_;rintro e w1 ⟨rfl,rfl⟩)|(go_at_call 105;refine (Zl _ _ _ _).mono ?_;rw[h1];rintro e w1 ⟨rfl,rfl⟩))
    go_returns;(refine⟨⟨0,?_⟩,Kr _ _⟩;rw[HX.o];rfl)
   ·go_enter func180,ntmps180;go_wp2_with (first|(go_at_call 202;refine (Qp6 _).mono ?_;rintro e w1 ⟨rfl,rfl⟩)|(go_at_call 105;refine (Zl _ _ _ _).mono ?_;rw[h1];rintro e w1 ⟨rfl,rfl⟩))
    go_returns;(refine⟨⟨0,?_⟩,Kr _ _⟩;rw[HX.o];rfl)
  have t3:decide ((s.size:Int)≤(a:Int))=false:=Df Om;have t3':decide (s.size≤a)=false:=Df h3;have hlt:a<s.size:=Om
  by_cases h4:Q2k s a=46
  ·have t4:(((s[a]'hlt).toNat:Int) != 46)=false:=by rw[Q3r hlt] at h4;simpa using h4
   have HX2:Hi (Q1d s=(decide (Jt Qg s (a+1)=s.size)&&(decide (a+2≤s.size)&&decide (s.size≤a+7)))):=Hh (by rw[HX0.o,Ng hz,Ng h3,Ng (by simpa using h4)])
   have Qsj:∀w,Calls prog 202 #[.string s,.int .i64 ((a:Int)+1)] w fun e w'=>e=.returned (.int .i64 (Jt Qg s (a+1)))∧w=w':=fun w=>by
    have:=Q8w s (a+1) w hs Om;simpa using this
   have hb2:=Q5p Qg s (a+1) Om;have hb1:a+1≤Jt Qg s (a+1):=by unfold Jt;omega
   have Qsk:Jt Qg s (a+1)=s.size→∀b∈J5 (s.extract (a+1) s.size),Qg b=true:=by
    intro e;rw[Y7];have h9:=Qb3 Qg ((J5 s).drop (a+1));have e2:Q3l Qg ((J5 s).drop (a+1))=s.size-(a+1):=by unfold Jt at e;omega
    rw[e2] at h9;exact h9
   have Qqz:=Hh Qsk;clear hz h3 h4 HX0 Qsk;generalize Jt Qg s (a+1)=b at HX2 Qsj hb2 hb1 Qqz;have hne:¬ (a:Int)+1=0:=Om
   have Qp9:∀(x:Int) (w:World),(x=0∨x=(a:Int)+1)→Calls prog 202 #[.string s,.int .i64 x] w fun e w'=>e=.returned (.int .i64 (if x=0 then (a:Int) else (b:Int)))∧w=w':=by
    intro x w hx;rcases hx with rfl|rfl
    ·rw[Ps rfl];exact Qp6 w
    ·rw[Ng hne];exact Qsj w
   have hb3:b≤140737488355328:=Om
   have Qor:(0:Int)≤(b:Int)-a:=Om
   obtain⟨k,hk⟩:∃k:Nat,b=a+1+k:=⟨b-(a+1),Om⟩;have hkI:(b:Int)-(a:Int)-1=(k:Int):=Om
   have hw1:wrap64 ((b:Int)-a)=(b:Int)-a:=by unfold wrap64;omega
   have hw2:wrap64 ((b:Int)-a-1)=(k:Int):=by unfold wrap64;omega
   by_cases h5:b=s.size
   ·have t5:((b:Int) != (s.size:Int))=false:=by simp[h5]
    cases h7:Q9 (k:Int) 1 6 with
    |false =>
     have HX:Hi (Q1d s=false):=Hh (by rw[HX2.o];simp[Q9] at h7;simp;omega);have HK:=Hh hk;have h7':Q9 ((b:Int)-(a:Int)-1) 1 6=false:=by rw[hkI];exact h7
     clear h5 hk hkI;rcases hg2 with ⟨t1,t2⟩|t1
     ·go_enter func180,ntmps180;go_wp2_with (first|(go_at_call 202;refine (Qp9 _ _ (by first|exact Or.inl rfl|exact Or.inr rfl)).mono ?_;rintro e w1 ⟨he,rfl⟩;first|(rw[Ps rfl] at he;subst he)|(rw[Ng hne] at he;subst he))|(go_at_call 105;refine (Zl _ _ _ _).mono ?_;first|(rw[h1];rintro e w1 ⟨rfl,rfl⟩)|(rw[h7];rintro e w1 ⟨rfl,rfl⟩)|(rw[h7'];rintro e w1 ⟨rfl,rfl⟩)))
      go_returns;(refine⟨⟨0,?_⟩,Kr _ _⟩;rw[HX.o];rfl)
     ·go_enter func180,ntmps180;go_wp2_with (first|(go_at_call 202;refine (Qp9 _ _ (by first|exact Or.inl rfl|exact Or.inr rfl)).mono ?_;rintro e w1 ⟨he,rfl⟩;first|(rw[Ps rfl] at he;subst he)|(rw[Ng hne] at he;subst he))|(go_at_call 105;refine (Zl _ _ _ _).mono ?_;first|(rw[h1];rintro e w1 ⟨rfl,rfl⟩)|(rw[h7];rintro e w1 ⟨rfl,rfl⟩)|(rw[h7'];rintro e w1 ⟨rfl,rfl⟩)))
      go_returns;(refine⟨⟨0,?_⟩,Kr _ _⟩;rw[HX.o];rfl)
    |true =>
     have Qu4:1≤k∧k≤6:=by simp[Q9] at h7;omega
     have HX:Hi (Q1d s=true):=Hh (by rw[HX2.o];simp;omega);have h7':Q9 ((b:Int)-(a:Int)-1) 1 6=true:=by rw[hkI];exact h7
     have Qoa:(s.extract (a+1) s.size).size=k:=So
     have Qrh:(s.extract 0 a).size=a:=So
     have hd2:=Qqz.o h5;have hn1:=Q79 _ Qpt.o (by rw[Z2,Qrh];have:=HA9.o;omega);have hn2:=Q79 _ hd2 (by rw[Z2,Qoa];omega);have hb1':=Qck _ Qpt.o;have hb2':=Qck _ hd2;rw[Z2,Qrh] at hb1';rw[Z2,Qoa] at hb2'
     have hN1:Q10 (J5 (s.extract 0 a))≤999999999:=by
      have h9:=Qma (show a≤9 from HA9.o);have:pw 9=1000000000:=Dc
      omega
     have hT6:=Qmr k Qu4.2;have hN2:Q10 (J5 (s.extract (a+1) s.size))<pw k:=hb2'.2;have Qvp:(s.extract 0 a).size≤15:=by rw[Qrh];have:=HA9.o;omega
     have Qvq:(s.extract (a+1) s.size).size≤15:=by rw[Qoa];omega
     have HDA:=Qpt;have HDB:=Hh hd2;have Qvr:=Hh Qvp;have Qvs:=Hh Qvq;have hp0:=hn1.1;have hp1:=hn2.1;have Qxo:Q10 (J5 (s.extract 0 a))*pw k≤999999999*1000000:=Int.mul_le_mul hN1 hT6 (by have:=Qg3 k;omega) Om;have Qu5:0≤Q10 (J5 (s.extract 0 a))*pw k:=Int.mul_nonneg hp0 (by have:=Qg3 k;omega);obtain⟨M,hM⟩:∃M,M=Q10 (J5 (s.extract 0 a))*pw k:=⟨_,rfl⟩;obtain⟨Q,hQ⟩:∃Q,Q=M+Q10 (J5 (s.extract (a+1) s.size)):=⟨_,rfl⟩;obtain⟨v,hv⟩:=Qn9 Q k Qu4.2 Om;have e1:IntKind.i64.wrap (Q10 (J5 (s.extract 0 a))*pw k)=M:=by rw[IntKind.wrap_i64];omega
     have e2:wrap64 (Q10 (J5 (s.extract 0 a))*pw k)=M:=by unfold wrap64;omega
     have e3:IntKind.i64.wrap (M+Q10 (J5 (s.extract (a+1) s.size)))=Q:=by rw[IntKind.wrap_i64];omega
     have e4:wrap64 (M+Q10 (J5 (s.extract (a+1) s.size)))=Q:=by unfold wrap64;omega
     have hq:=run_float_arith (P:=prog) (op:=.quo) (t:=104) (k:=.f64) (h:=hv);have hpf:Q76 k=floatOfInt .f64 (pw k):=rfl;rw[hpf] at hq
     have HST:Hi (∀j,j<k→wrap64 (pw j*10)=pw (j+1)∧IntKind.i64.wrap (pw j*10)=pw (j+1)):=Hh (fun j hj=>by
      have h1:=Qmr (j+1) Om;have h2:=Qg3 (j+1);have h3:=Qlz j;exact⟨by unfold wrap64;omega,by rw[IntKind.wrap_i64];omega⟩)
     have hkk:k≤140737488355328:=Om
     have Qny:(1:Int)=pw 0:=rfl;have Qu2:=Hh Qny;have HKI:=Hh hkI;clear h5 hk hkI Qu4 Qoa Qrh hd2 hn1 hn2 hb1' hb2' hN1 hT6 hN2 Qvp Qvq hp0 hp1 Qxo Qu5 hM hQ hv hpf Qny Qqz HX2 Qpt;rcases hg2 with ⟨t1,t2⟩|t1
     ·go_enter func180,ntmps180;go_wp2_with (first|(go_at_call 202;refine (Qp9 _ _ (by first|exact Or.inl rfl|exact Or.inr rfl)).mono ?_;rintro e w1 ⟨he,rfl⟩;first|(rw[Ps rfl] at he;subst he)|(rw[Ng hne] at he;subst he))|(go_at_call 105;refine (Zl _ _ _ _).mono ?_;first|(rw[h1];rintro e w1 ⟨rfl,rfl⟩)|(rw[h7];rintro e w1 ⟨rfl,rfl⟩)|(rw[h7'];rintro e w1 ⟨rfl,rfl⟩)))
      go_loop [7,8] (fun ten i=>∃j:Nat,j≤k∧i=.int .i64 j∧ten=.int .i64 (pw j)) (fun _ i=>k-(intOf i).toNat)
      case atStart=>exact⟨0,Nat.zero_le _,rfl,rfl⟩
      case round =>
       obtain⟨j,hj,rfl,rfl⟩:=hrel
       by_cases hlt:j<k
       ·have hd:decide ((j:Int)<(b:Int)-(a:Int)-1)=true:=Dt (by rw[HKI.o];omega)
        have hs1:=(HST.o j hlt).1;have hs2:=(HST.o j hlt).2;go_wp2_with fail;go_round
        case rel=>exact⟨j+1,Om,Gm,rfl⟩
        case measure=>exact Me
       ·have hd:decide ((j:Int)<(b:Int)-(a:Int)-1)=false:=Df (by rw[HKI.o];omega)
        obtain rfl:j=k:=Om
        exact K0t
     ·go_enter func180,ntmps180;go_wp2_with (first|(go_at_call 202;refine (Qp9 _ _ (by first|exact Or.inl rfl|exact Or.inr rfl)).mono ?_;rintro e w1 ⟨he,rfl⟩;first|(rw[Ps rfl] at he;subst he)|(rw[Ng hne] at he;subst he))|(go_at_call 105;refine (Zl _ _ _ _).mono ?_;first|(rw[h1];rintro e w1 ⟨rfl,rfl⟩)|(rw[h7];rintro e w1 ⟨rfl,rfl⟩)|(rw[h7'];rintro e w1 ⟨rfl,rfl⟩)))
      go_loop [7,8] (fun ten i=>∃j:Nat,j≤k∧i=.int .i64 j∧ten=.int .i64 (pw j)) (fun _ i=>k-(intOf i).toNat)
      case atStart=>exact⟨0,Nat.zero_le _,rfl,rfl⟩
      case round =>
       obtain⟨j,hj,rfl,rfl⟩:=hrel
       by_cases hlt:j<k
       ·have hd:decide ((j:Int)<(b:Int)-(a:Int)-1)=true:=Dt (by rw[HKI.o];omega)
        have hs1:=(HST.o j hlt).1;have hs2:=(HST.o j hlt).2;go_wp2_with fail;go_round
        case rel=>exact⟨j+1,Om,Gm,rfl⟩
        case measure=>exact Me
       ·have hd:decide ((j:Int)<(b:Int)-(a:Int)-1)=false:=Df (by rw[HKI.o];omega)
        obtain rfl:j=k:=Om
        exact K0t
   ·have t5:((b:Int) != (s.size:Int))=true:=So
    have HX:Hi (Q1d s=false):=Hh (by rw[HX2.o,Df h5];rfl);have h7:Q9 (k:Int) 1 6=Q9 (k:Int) 1 6:=rfl;have h7':=h7;clear h5 hk hkI;rcases hg2 with ⟨t1,t2⟩|t1
    ·go_enter func180,ntmps180;go_wp2_with (first|(go_at_call 202;refine (Qp9 _ _ (by first|exact Or.inl rfl|exact Or.inr rfl)).mono ?_;rintro e w1 ⟨he,rfl⟩;first|(rw[Ps rfl] at he;subst he)|(rw[Ng hne] at he;subst he))|(go_at_call 105;refine (Zl _ _ _ _).mono ?_;first|(rw[h1];rintro e w1 ⟨rfl,rfl⟩)|(rw[h7];rintro e w1 ⟨rfl,rfl⟩)|(rw[h7'];rintro e w1 ⟨rfl,rfl⟩)))
     go_returns;(refine⟨⟨0,?_⟩,Kr _ _⟩;rw[HX.o];rfl)
    ·go_enter func180,ntmps180;go_wp2_with (first|(go_at_call 202;refine (Qp9 _ _ (by first|exact Or.inl rfl|exact Or.inr rfl)).mono ?_;rintro e w1 ⟨he,rfl⟩;first|(rw[Ps rfl] at he;subst he)|(rw[Ng hne] at he;subst he))|(go_at_call 105;refine (Zl _ _ _ _).mono ?_;first|(rw[h1];rintro e w1 ⟨rfl,rfl⟩)|(rw[h7];rintro e w1 ⟨rfl,rfl⟩)|(rw[h7'];rintro e w1 ⟨rfl,rfl⟩)))
     go_returns;(refine⟨⟨0,?_⟩,Kr _ _⟩;rw[HX.o];rfl)
  ·have t4:(((s[a]'hlt).toNat:Int) != 46)=true:=by rw[Q3r hlt] at h4;simpa using h4
   have HX:Hi (Q1d s=false):=Hh (by rw[HX0.o,Ng hz,Ng h3,Ps h4]);clear hz h3 h4;rcases hg2 with ⟨t1,t2⟩|t1
   ·go_enter func180,ntmps180;go_wp2_with (first|(go_at_call 202;refine (Qp6 _).mono ?_;rintro e w1 ⟨rfl,rfl⟩)|(go_at_call 105;refine (Zl _ _ _ _).mono ?_;rw[h1];rintro e w1 ⟨rfl,rfl⟩))
    go_returns;(refine⟨⟨0,?_⟩,Kr _ _⟩;rw[HX.o];rfl)
   ·go_enter func180,ntmps180;go_wp2_with (first|(go_at_call 202;refine (Qp6 _).mono ?_;rintro e w1 ⟨rfl,rfl⟩)|(go_at_call 105;refine (Zl _ _ _ _).mono ?_;rw[h1];rintro e w1 ⟨rfl,rfl⟩))
    go_returns;(refine⟨⟨0,?_⟩,Kr _ _⟩;rw[HX.o];rfl)
end Go.Proofs.YtkgkafjachjafaaGreat
