/- Part 33 of: FnExactPrune answers true; no condition. -/
import Derived.Handy
import Derived.Test.YtkgkafjachjafaaGreatZ02
import Derived.Test.YtkgkafjachjafaaGreatZ10
import Derived.Test.YtkgkafjachjafaaGreatZ11
import Derived.Test.YtkgkafjachjafaaGreatZ14
import Derived.Test.YtkgkafjachjafaaGreatZ16
import Derived.Test.YtkgkafjachjafaaGreatZ20
import Derived.Test.YtkgkafjachjafaaGreatZ24
import Derived.Test.YtkgkafjachjafaaGreatZ25
import Derived.Test.YtkgkafjachjafaaGreatZ31
set_option linter.unusedVariables false
set_option maxHeartbeats 4000000
set_option maxRecDepth 100000
open Go Go.RowKit
namespace Go.Proofs.YtkgkafjachjafaaGreat
open Tryz
section
variable {r:Reg} {t:Q1} {S:Nat→Prop} {w:World} {cb rb ro tb tq:Nat} {s:CS} {kv bv lv tv wv:Value}
theorem Qen (hn:Qt t=true) (hK:Qj t) (hSm:Jz t) (hsz:t.nodes.length≤4000) {f:Nat} (hW:Q0o r t f (Q8 r t f)) (h:J0 S w cb ⟨rb,ro,none⟩ ⟨tb,tq,none⟩ s kv bv lv tv wv) (hr:Qm S w fun w=>Xy w rb ro r) (ht:Qm S w fun w=>J7 w tb tq t) (hok:Qe t s) (h00:s.code=0) (hF:Jl S w)
  {i:Int} (hi:InT t i) (hif:i<(f:Int)+1) (Qnb:Yl t s (t.at i).kind=true) (Qmo:(t.at i).kind=27) :
  Calls prog 124 #[.pointer (some ⟨cb,0,none⟩),.int .i64 i] w fun e w'=>e=.returned (.tuple #[])∧AtS S w cb ⟨rb,ro,none⟩ ⟨tb,tq,none⟩ ({Qa (Q8 r t f) s (t.at i).kids with locals:=(Qa (Q8 r t f) s (t.at i).kids).locals.take s.locals.length}) kv bv tv w':=by
 have hO:Y5 t (Q8 r t f):=fun s k h hk=>Qe.walk hK hSm r f s k h hk
 have hlk:∀k∈(t.at i).kids,InT t k∧k<(f:Int):=fun k hk=>⟨hi.kid hK hk,by have:=(hK.mem hi hk).2;omega⟩
 have HTS:=Hh ht;have HRS:=Hh hr;have hml:=hi.2;obtain⟨m,nb,no,nc,A,p,o,c,n,W0,rfl,hnd,hmt,q2,q1,c0,c1,c2,c3,pst,hN,hW0,hk0,hb0,u0,u1,u2,u3,hkS,H0,HT⟩:=Yw ht h hi;rw[hN] at Qmo ⊢;have Qn3:=Hh hok.top;have HOK:=Hh hok;have HM:=Hh Qnb;have Qns:=Hh pst;have HF:=Hh hF;have H00:=Hh h00;have HKD:=Hh Qmo;have HI:=Hh hi;have HLK:=Hh hlk;have HGR:=Hh (Q1q.kids (Q8w r t f) (t.at (m:Int)).kids s);rw[hN] at HLK HM HGR;obtain⟨lA,lc,hlv⟩:=h.l.lenI;have t33:(n.kind==33)=false:=by have:=HKD.o;simp;omega
 have t34:(n.kind==34)=false:=by have:=HKD.o;simp;omega
 have t11:(n.kind==11)=false:=by have:=HKD.o;simp;omega
 have t16:(n.kind==16)=false:=by have:=HKD.o;simp;omega
 have t17:(n.kind==17)=false:=by have:=HKD.o;simp;omega
 have t18:(n.kind==18)=false:=by have:=HKD.o;simp;omega
 have t20:(n.kind==20)=false:=by have:=HKD.o;simp;omega
 have t21:(n.kind==21)=false:=by have:=HKD.o;simp;omega
 have t27:(n.kind==27)=true:=by simpa using HKD.o
 clear hr ht hok Qnb hi pst hnd hml hF h00 hlk Qmo hN hb0;have c6:W0.cell? ⟨cb,6,none⟩=some lv:=H0.o.blk.cell 6 _ rfl;clear h;subst hlv;generalize hS1:Qa (Q8 r t f) s n.kids=s1 at HGR ⊢;have Qq3:=Hh hS1;clear hS1;go_enter func124,ntmps124;go_upto_region 27 with (first|(go_at_call 164;refine (Zg H0.o t HT.o.now Qn3.o.1 Qn3.o.2 _).mono ?_;rw[HM.o];rintro e w1 ⟨rfl,hk1⟩;have v0:=hk1.cell (fun h=>h) u0;have v1:=hk1.cell (fun h=>h) u1;have v2:=hk1.cell (fun h=>h) u2;have v3:=hk1.cell (fun h=>h) u3;have v6:=hk1.cell (fun h=>h) c6;have HC1:=Hh (H0.o.nobk hk1);have HS1:=Hh (hkS.trans (hk1.ofNob S)))|(go_at_call 93;refine (Xv (hW) hO HC1.o (HRS.o.kept HS1.o) (HTS.o.kept HS1.o) HOK.o (HF.o.kept HS1.o) _ n.kids (Qns.o.kept HS1.o) HLK.o).mono ?_;rw[Qq3.o];rintro e w8 ⟨rfl,⟨lv8,wv8,hc8⟩,hk8⟩))
 obtain⟨lA8,lc8,Qnv⟩:=hc8.l.lenI
 have Qr9:s1.locals.length≤lc8:=by
  obtain⟨_,_,_,e,_,h9,_⟩:=hc8.l.openI;rw[Qnv] at e;injection e with _ _ e3;rw[e3];exact h9
 have Qwz:(s.locals.length:Int)≤lc8:=by have:=HGR.o;omega
 have c68:w8.cell? ⟨cb,6,none⟩=some lv8:=hc8.blk.cell 6 _ rfl;have f68:=hc8.blk.free 6;have htk:=hc8.l.take (n:=s.locals.length) (A:=lA8) (c:=lc8) (by rw[Qnv];simp[Q4]) (by simp[Q4];exact HGR.o);have h10:=hc8.swapL (l1:=s1.locals.take s.locals.length) (u:=.slice lA8 s.locals.length lc8) (by have:=htk;rwa [show (Q4 s1.locals).take s.locals.length=Q4 (s1.locals.take s.locals.length) from by simp[Q4,List.map_take]] at this) (Kr _ _) (by left;rw[Qnv];cases lA8<;>rfl);have hk9:=(HS1.o.trans hk8).setCell (p:=⟨cb,6,none⟩) (Or.inl hc8.inS) (.slice lA8 s.locals.length lc8);have Qoj:=Hh h10;have HK9:=Hh hk9;subst Qnv;clear hc8 hk8 htk h10 hk9 Qr9;go_wp2_with fail;go_returns;exact⟨rfl,⟨_,_,Qoj.o⟩,HK9.o⟩
theorem Qhl (hn:Qt t=true) (hK:Qj t) (hSm:Jz t) (hsz:t.nodes.length≤4000) {f:Nat} (hW:Q0o r t f (Q8 r t f)) (h:J0 S w cb ⟨rb,ro,none⟩ ⟨tb,tq,none⟩ s kv bv lv tv wv) (hr:Qm S w fun w=>Xy w rb ro r) (ht:Qm S w fun w=>J7 w tb tq t) (hok:Qe t s) (h00:s.code=0) (hF:Jl S w)
  {i:Int} (hi:InT t i) (hif:i<(f:Int)+1) (Qnb:Yl t s (t.at i).kind=true) (Qmo:((t.at i).kind≠33∧(t.at i).kind≠34∧(t.at i).kind≠11∧(t.at i).kind≠16∧(t.at i).kind≠17∧(t.at i).kind≠18∧(t.at i).kind≠20∧(t.at i).kind≠21∧(t.at i).kind≠27)∧(Qa (Q8 r t f) s (t.at i).kids).code≠0) :
  Calls prog 124 #[.pointer (some ⟨cb,0,none⟩),.int .i64 i] w fun e w'=>e=.returned (.tuple #[])∧AtS S w cb ⟨rb,ro,none⟩ ⟨tb,tq,none⟩ (Qa (Q8 r t f) s (t.at i).kids) kv bv tv w':=by
 have hO:Y5 t (Q8 r t f):=fun s k h hk=>Qe.walk hK hSm r f s k h hk
 have hlk:∀k∈(t.at i).kids,InT t k∧k<(f:Int):=fun k hk=>⟨hi.kid hK hk,by have:=(hK.mem hi hk).2;omega⟩
 have HTS:=Hh ht;have HRS:=Hh hr;have hml:=hi.2;obtain⟨m,nb,no,nc,A,p,o,c,n,W0,rfl,hnd,hmt,q2,q1,c0,c1,c2,c3,pst,hN,hW0,hk0,hb0,u0,u1,u2,u3,hkS,H0,HT⟩:=Yw ht h hi;rw[hN] at Qmo ⊢;have Qn3:=Hh hok.top;have HOK:=Hh hok;have HM:=Hh Qnb;have Qns:=Hh pst;have HF:=Hh hF;have H00:=Hh h00;have HKD:=Hh Qmo;have HI:=Hh hi;have HLK:=Hh hlk;rw[hN] at HLK HM;have Qms:∀k,k<W0.heap.size→Qv S w.heap.size k→S k:=fun _ _ h=>h.1
 have HL0:Hi (J0 (Qv S w.heap.size) W0 cb ⟨rb,ro,none⟩ ⟨tb,tq,none⟩ s kv bv lv tv wv):=Hh ((h.mono fun k hk hS=>⟨hS,by omega⟩).nobk hk0);have Qor:W0.heap.size=w.heap.size+1:=by rw[← hW0];simp
 have HF0:Hi (Jl (Qv S w.heap.size) W0):=Hh (fun k hk=>⟨HF.o k (by omega),by omega⟩);have HR0:=Hh ((hr.kept hkS).mono Qms);have HT0:=Hh ((ht.kept hkS).mono Qms);have HP0:=Hh ((pst.kept hkS).mono Qms)
 have HBX:Hi (∀W,Q0 (Qv S w.heap.size) W0 W→W.cell? ⟨w.heap.size,0,none⟩=some (.int .i64 n.kind)∧W.cell? ⟨w.heap.size,1,none⟩=some (.string n.text)∧W.cell? ⟨w.heap.size,2,none⟩=some (.int .i64 n.i)∧W.cell? ⟨w.heap.size,3,none⟩=some (.slice A n.kids.length c)) :=
  Hh (fun W hk=>⟨hk.cell (fun hh=>hh.2 rfl) u0,hk.cell (fun hh=>hh.2 rfl) u1,hk.cell (fun hh=>hh.2 rfl) u2,hk.cell (fun hh=>hh.2 rfl) u3⟩)
 clear Qms Qor;have t33:(n.kind==33)=false:=by have:=HKD.o;simp;omega
 have t34:(n.kind==34)=false:=by have:=HKD.o;simp;omega
 have t11:(n.kind==11)=false:=by have:=HKD.o;simp;omega
 have t16:(n.kind==16)=false:=by have:=HKD.o;simp;omega
 have t17:(n.kind==17)=false:=by have:=HKD.o;simp;omega
 have t18:(n.kind==18)=false:=by have:=HKD.o;simp;omega
 have t20:(n.kind==20)=false:=by have:=HKD.o;simp;omega
 have t21:(n.kind==21)=false:=by have:=HKD.o;simp;omega
 have t27:(n.kind==27)=false:=by have:=HKD.o;simp;omega
 have HCD:=Hh Qmo.2;have Qn7:=Hh (Qe.kids hO n.kids (fun k hk=>(HLK.o k hk).1) hok);generalize hS1:Qa (Q8 r t f) s n.kids=s1 at Qn7 HCD ⊢;have Qq3:=Hh hS1;have tc:(s1.code != 0)=true:=by simpa using HCD.o
 clear hS1;clear h hr ht hok Qnb hi pst hnd hml hF h00 hlk Qmo hN hb0;go_enter func124,ntmps124;go_wp2_with (first|(go_at_call 164;refine (Zg H0.o t HT.o.now Qn3.o.1 Qn3.o.2 _).mono ?_;rw[HM.o];rintro e w1 ⟨rfl,hk1⟩;have v0:=hk1.cell (fun h=>h) u0;have v1:=hk1.cell (fun h=>h) u1;have v2:=hk1.cell (fun h=>h) u2;have v3:=hk1.cell (fun h=>h) u3;have HC1:=Hh (HL0.o.nobk hk1);have HK1:Hi (Q0 (Qv S w.heap.size) W0 w1):=Hh (hk1.ofNob _);have HS1:=Hh (hkS.trans (hk1.ofNob S)))|(go_at_call 93;refine (Xv hW hO HC1.o (HR0.o.kept HK1.o) (HT0.o.kept HK1.o) HOK.o (HF0.o.kept HK1.o) _ n.kids (HP0.o.kept HK1.o) HLK.o).mono ?_;rw[Qq3.o];rintro e w8 ⟨rfl,⟨lv8,wv8,hc8⟩,hk8⟩;have HC8:=Hh hc8;have HK8:=Hh (HK1.o.trans hk8);have x2:=hc8.blk.cell 2 _ rfl;obtain⟨y0,y1,y2,y3⟩:=HBX.o w8 HK8.o;clear hc8 hk8));go_returns;exact⟨rfl,⟨_,_,HC8.o.mono fun k _ h=>h.1⟩,hkS.trans (HK8.o.mono fun k _ h=>h.1)⟩
theorem Qgu (hn:Qt t=true) (hK:Qj t) (hSm:Jz t) (hsz:t.nodes.length≤4000) {f:Nat} (hW:Q0o r t f (Q8 r t f)) (h:J0 S w cb ⟨rb,ro,none⟩ ⟨tb,tq,none⟩ s kv bv lv tv wv) (hr:Qm S w fun w=>Xy w rb ro r) (ht:Qm S w fun w=>J7 w tb tq t) (hok:Qe t s) (h00:s.code=0) (hF:Jl S w)
  {i:Int} (hi:InT t i) (hif:i<(f:Int)+1) (Qnb:Yl t s (t.at i).kind=true) (Qmo:((t.at i).kind≠33∧(t.at i).kind≠34∧(t.at i).kind≠11∧(t.at i).kind≠16∧(t.at i).kind≠17∧(t.at i).kind≠18∧(t.at i).kind≠20∧(t.at i).kind≠21∧(t.at i).kind≠27)∧(Qa (Q8 r t f) s (t.at i).kids).code=0∧Qs (t.at i).kind=true) :
  Calls prog 124 #[.pointer (some ⟨cb,0,none⟩),.int .i64 i] w fun e w'=>e=.returned (.tuple #[])∧AtS S w cb ⟨rb,ro,none⟩ ⟨tb,tq,none⟩ ((Zx r t (Qa (Q8 r t f) s (t.at i).kids) i (t.at i)).2.setKind i (Zx r t (Qa (Q8 r t f) s (t.at i).kids) i (t.at i)).1) kv bv tv w':=by
 have hO:Y5 t (Q8 r t f):=fun s k h hk=>Qe.walk hK hSm r f s k h hk
 have hlk:∀k∈(t.at i).kids,InT t k∧k<(f:Int):=fun k hk=>⟨hi.kid hK hk,by have:=(hK.mem hi hk).2;omega⟩
 obtain⟨hek,Qmr⟩:=Q8e hn hi Qmo.2.2 Qmo.1.2.2.1;have Qnf:=Hh Qmr;clear hek Qmr;have HTS:=Hh ht;have HRS:=Hh hr;have hml:=hi.2;obtain⟨m,nb,no,nc,A,p,o,c,n,W0,rfl,hnd,hmt,q2,q1,c0,c1,c2,c3,pst,hN,hW0,hk0,hb0,u0,u1,u2,u3,hkS,H0,HT⟩:=Yw ht h hi;rw[hN] at Qmo ⊢;have Qn3:=Hh hok.top;have HOK:=Hh hok;have HM:=Hh Qnb;have Qns:=Hh pst;have HF:=Hh hF;have H00:=Hh h00;have HKD:=Hh Qmo;have HI:=Hh hi;have HLK:=Hh hlk;rw[hN] at HLK HM Qnf;have Qms:∀k,k<W0.heap.size→Qv S w.heap.size k→S k:=fun _ _ h=>h.1
 have HL0:Hi (J0 (Qv S w.heap.size) W0 cb ⟨rb,ro,none⟩ ⟨tb,tq,none⟩ s kv bv lv tv wv):=Hh ((h.mono fun k hk hS=>⟨hS,by omega⟩).nobk hk0);have Qor:W0.heap.size=w.heap.size+1:=by rw[← hW0];simp
 have HF0:Hi (Jl (Qv S w.heap.size) W0):=Hh (fun k hk=>⟨HF.o k (by omega),by omega⟩);have HR0:=Hh ((hr.kept hkS).mono Qms);have HT0:=Hh ((ht.kept hkS).mono Qms);have HP0:=Hh ((pst.kept hkS).mono Qms)
 have HBX:Hi (∀W,Q0 (Qv S w.heap.size) W0 W→W.cell? ⟨w.heap.size,0,none⟩=some (.int .i64 n.kind)∧W.cell? ⟨w.heap.size,1,none⟩=some (.string n.text)∧W.cell? ⟨w.heap.size,2,none⟩=some (.int .i64 n.i)∧W.cell? ⟨w.heap.size,3,none⟩=some (.slice A n.kids.length c)) :=
  Hh (fun W hk=>⟨hk.cell (fun hh=>hh.2 rfl) u0,hk.cell (fun hh=>hh.2 rfl) u1,hk.cell (fun hh=>hh.2 rfl) u2,hk.cell (fun hh=>hh.2 rfl) u3⟩)
 clear Qms Qor;have t33:(n.kind==33)=false:=by have:=HKD.o;simp;omega
 have t34:(n.kind==34)=false:=by have:=HKD.o;simp;omega
 have t11:(n.kind==11)=false:=by have:=HKD.o;simp;omega
 have t16:(n.kind==16)=false:=by have:=HKD.o;simp;omega
 have t17:(n.kind==17)=false:=by have:=HKD.o;simp;omega
 have t18:(n.kind==18)=false:=by have:=HKD.o;simp;omega
 have t20:(n.kind==20)=false:=by have:=HKD.o;simp;omega
 have t21:(n.kind==21)=false:=by have:=HKD.o;simp;omega
 have t27:(n.kind==27)=false:=by have:=HKD.o;simp;omega
 have HCD:=Hh Qmo.2;have Qn7:=Hh (Qe.kids hO n.kids (fun k hk=>(HLK.o k hk).1) hok);have Qn9:0<t.nodes.length:=by omega
 obtain⟨g,kc,hkv,Qmy,hSg⟩:=HL0.o.kindRow hok Qn9;generalize hS1:Qa (Q8 r t f) s n.kids=s1 at Qn7 HCD ⊢;have Qq3:=Hh hS1;have tc:(s1.code != 0)=false:=by simpa using HCD.o.1
 have te:=HCD.o.2;have HQK:=Hh (Qn7.o.expr r (m:Int) n).kinds;have HXP:=Hh (fun w2 lv2 wv2 (h2:J0 (Qv S w.heap.size) w2 cb ⟨rb,ro,none⟩ ⟨tb,tq,none⟩ s1 kv bv lv2 tv wv2) (hk2:Q0 (Qv S w.heap.size) W0 w2)=>Qks h2 r (HR0.o.kept hk2) t (HT0.o.kept hk2) Qn7.o hK (m:Int) HI.o n _ (HP0.o.kept hk2) (fun k hk=>(HLK.o k hk).1) HCD.o.2 (by have:=HKD.o;exact this.1.2.2.1) Qnf.o);have Qnm:=Hh Qmy;have HSG:=Hh hSg;have HMM:=Hh hmt;clear hS1 Qmy hSg Qn9;clear h hr ht hok Qnb hi pst hnd hml hF h00 hlk Qmo hN hb0;generalize Zx r t s1 (m:Int) n=q at HXP HQK ⊢;subst hkv;go_enter func124,ntmps124;go_upto_region 7 with (first|(go_at_call 164;refine (Zg H0.o t HT.o.now Qn3.o.1 Qn3.o.2 _).mono ?_;rw[HM.o];rintro e w1 ⟨rfl,hk1⟩;have v0:=hk1.cell (fun h=>h) u0;have v1:=hk1.cell (fun h=>h) u1;have v2:=hk1.cell (fun h=>h) u2;have v3:=hk1.cell (fun h=>h) u3;have HC1:=Hh (HL0.o.nobk hk1);have HK1:Hi (Q0 (Qv S w.heap.size) W0 w1):=Hh (hk1.ofNob _);have HS1:=Hh (hkS.trans (hk1.ofNob S)))|(go_at_call 93;refine (Xv hW hO HC1.o (HR0.o.kept HK1.o) (HT0.o.kept HK1.o) HOK.o (HF0.o.kept HK1.o) _ n.kids (HP0.o.kept HK1.o) HLK.o).mono ?_;rw[Qq3.o];rintro e w8 ⟨rfl,⟨lv8,wv8,hc8⟩,hk8⟩;have HC8:=Hh hc8;have HK8:=Hh (HK1.o.trans hk8);have x2:=hc8.blk.cell 2 _ rfl;obtain⟨y0,y1,y2,y3⟩:=HBX.o w8 HK8.o;clear hc8 hk8)|(go_at_call 94;refine (Q0i _ _).mono ?_;rw[te];rintro e w9 ⟨rfl,rfl⟩))
 have x4:w8.cell? ⟨cb,4,none⟩=some (.slice (some ⟨g,0,none⟩) t.nodes.length kc):=HC8.o.blk.cell 4 _ rfl;go_region_held3 (fun W=>W.cell? ⟨cb,4,none⟩=some (.slice (some ⟨g,0,none⟩) t.nodes.length kc)∧W.cell? ⟨w.heap.size,0,none⟩=some (.int .i64 n.kind)∧W.cell? ⟨w.heap.size,1,none⟩=some (.string n.text)∧W.cell? ⟨w.heap.size,2,none⟩=some (.int .i64 n.i)∧W.cell? ⟨w.heap.size,3,none⟩=some (.slice A n.kids.length c)) (first|exact⟨x4,y0,y1,y2,y3⟩|exact⟨Qml.blk.cell 4 _ rfl,HBX.o _ HK9.o⟩|exact⟨Qoj.o.blk.cell 4 _ rfl,HBX.o _ Qpa.o⟩) ((first|(go_at_call 171;refine (HXP.o _ _ _ (HC8.o.drew) (HK8.o.drew)).mono ?_;rintro e w9 ⟨rfl,Qml,Qmp⟩;have HK9:=Hh (HK8.o.trans Qmp.undrew);obtain⟨z1,z2⟩:=Qml.kindCell (mi:=m) Qnm.o (by rw[HQK.o];omega);have h10:=Qml.setK Qnm.o (m:Int) q.1 (by omega);rw[Int.toNat_natCast] at h10;have Qoj:=Hh h10;have Qpa:=Hh (HK9.o.setCell (p:=⟨g,m,none⟩) (Or.inl HSG.o) (.int .i64 q.1));clear h10;dsimp only)));go_wp2_with fail;go_returns;exact⟨rfl,⟨_,_,Qoj.o.mono fun k _ h=>h.1⟩,hkS.trans (Qpa.o.mono fun k _ h=>h.1)⟩
theorem Qhq (hn:Qt t=true) (hK:Qj t) (hSm:Jz t) (hsz:t.nodes.length≤4000) {f:Nat} (hW:Q0o r t f (Q8 r t f)) (h:J0 S w cb ⟨rb,ro,none⟩ ⟨tb,tq,none⟩ s kv bv lv tv wv) (hr:Qm S w fun w=>Xy w rb ro r) (ht:Qm S w fun w=>J7 w tb tq t) (hok:Qe t s) (h00:s.code=0) (hF:Jl S w)
  {i:Int} (hi:InT t i) (hif:i<(f:Int)+1) (Qnb:Yl t s (t.at i).kind=true) (Qmo:((t.at i).kind≠33∧(t.at i).kind≠34∧(t.at i).kind≠11∧(t.at i).kind≠16∧(t.at i).kind≠17∧(t.at i).kind≠18∧(t.at i).kind≠20∧(t.at i).kind≠21∧(t.at i).kind≠27)∧(Qa (Q8 r t f) s (t.at i).kids).code=0∧Qs (t.at i).kind=false) :
  Calls prog 124 #[.pointer (some ⟨cb,0,none⟩),.int .i64 i] w fun e w'=>e=.returned (.tuple #[])∧AtS S w cb ⟨rb,ro,none⟩ ⟨tb,tq,none⟩ (Qz r t (Qa (Q8 r t f) s (t.at i).kids) i (t.at i)) kv bv tv w':=by
 have hO:Y5 t (Q8 r t f):=fun s k h hk=>Qe.walk hK hSm r f s k h hk
 have hlk:∀k∈(t.at i).kids,InT t k∧k<(f:Int):=fun k hk=>⟨hi.kid hK hk,by have:=(hK.mem hi hk).2;omega⟩
 have Qt5:=Hh (Qgg hn hi);have HTS:=Hh ht;have HRS:=Hh hr;have hml:=hi.2;obtain⟨m,nb,no,nc,A,p,o,c,n,W0,rfl,hnd,hmt,q2,q1,c0,c1,c2,c3,pst,hN,hW0,hk0,hb0,u0,u1,u2,u3,hkS,H0,HT⟩:=Yw ht h hi;rw[hN] at Qmo ⊢;have Qn3:=Hh hok.top;have HOK:=Hh hok;have HM:=Hh Qnb;have Qns:=Hh pst;have HF:=Hh hF;have H00:=Hh h00;have HKD:=Hh Qmo;have HI:=Hh hi;have HLK:=Hh hlk;rw[hN] at HLK HM Qt5;have Qms:∀k,k<W0.heap.size→Qv S w.heap.size k→S k:=fun _ _ h=>h.1
 have HL0:Hi (J0 (Qv S w.heap.size) W0 cb ⟨rb,ro,none⟩ ⟨tb,tq,none⟩ s kv bv lv tv wv):=Hh ((h.mono fun k hk hS=>⟨hS,by omega⟩).nobk hk0);have Qor:W0.heap.size=w.heap.size+1:=by rw[← hW0];simp
 have HF0:Hi (Jl (Qv S w.heap.size) W0):=Hh (fun k hk=>⟨HF.o k (by omega),by omega⟩);have HR0:=Hh ((hr.kept hkS).mono Qms);have HT0:=Hh ((ht.kept hkS).mono Qms);have HP0:=Hh ((pst.kept hkS).mono Qms)
 have HBX:Hi (∀W,Q0 (Qv S w.heap.size) W0 W→W.cell? ⟨w.heap.size,0,none⟩=some (.int .i64 n.kind)∧W.cell? ⟨w.heap.size,1,none⟩=some (.string n.text)∧W.cell? ⟨w.heap.size,2,none⟩=some (.int .i64 n.i)∧W.cell? ⟨w.heap.size,3,none⟩=some (.slice A n.kids.length c)) :=
  Hh (fun W hk=>⟨hk.cell (fun hh=>hh.2 rfl) u0,hk.cell (fun hh=>hh.2 rfl) u1,hk.cell (fun hh=>hh.2 rfl) u2,hk.cell (fun hh=>hh.2 rfl) u3⟩)
 clear Qms Qor;have t33:(n.kind==33)=false:=by have:=HKD.o;simp;omega
 have t34:(n.kind==34)=false:=by have:=HKD.o;simp;omega
 have t11:(n.kind==11)=false:=by have:=HKD.o;simp;omega
 have t16:(n.kind==16)=false:=by have:=HKD.o;simp;omega
 have t17:(n.kind==17)=false:=by have:=HKD.o;simp;omega
 have t18:(n.kind==18)=false:=by have:=HKD.o;simp;omega
 have t20:(n.kind==20)=false:=by have:=HKD.o;simp;omega
 have t21:(n.kind==21)=false:=by have:=HKD.o;simp;omega
 have t27:(n.kind==27)=false:=by have:=HKD.o;simp;omega
 have HCD:=Hh Qmo.2;have Qn7:=Hh (Qe.kids hO n.kids (fun k hk=>(HLK.o k hk).1) hok);generalize hS1:Qa (Q8 r t f) s n.kids=s1 at Qn7 HCD ⊢;have Qq3:=Hh hS1;have tc:(s1.code != 0)=false:=by simpa using HCD.o.1
 have te:=HCD.o.2;have Qp6:Hi (s1.locals.length≤4000):=Hh (by have:=Qn7.o.few HCD.o.1;omega);clear hS1;clear h hr ht hok Qnb hi pst hnd hml hF h00 hlk Qmo hN hb0;go_enter func124,ntmps124;go_wp2_with (first|(go_at_call 164;refine (Zg H0.o t HT.o.now Qn3.o.1 Qn3.o.2 _).mono ?_;rw[HM.o];rintro e w1 ⟨rfl,hk1⟩;have v0:=hk1.cell (fun h=>h) u0;have v1:=hk1.cell (fun h=>h) u1;have v2:=hk1.cell (fun h=>h) u2;have v3:=hk1.cell (fun h=>h) u3;have HC1:=Hh (HL0.o.nobk hk1);have HK1:Hi (Q0 (Qv S w.heap.size) W0 w1):=Hh (hk1.ofNob _);have HS1:=Hh (hkS.trans (hk1.ofNob S)))|(go_at_call 93;refine (Xv hW hO HC1.o (HR0.o.kept HK1.o) (HT0.o.kept HK1.o) HOK.o (HF0.o.kept HK1.o) _ n.kids (HP0.o.kept HK1.o) HLK.o).mono ?_;rw[Qq3.o];rintro e w8 ⟨rfl,⟨lv8,wv8,hc8⟩,hk8⟩;have HC8:=Hh hc8;have HK8:=Hh (HK1.o.trans hk8);have x2:=hc8.blk.cell 2 _ rfl;obtain⟨y0,y1,y2,y3⟩:=HBX.o w8 HK8.o;clear hc8 hk8)|(go_at_call 94;refine (Q0i _ _).mono ?_;rw[te];rintro e w9 ⟨rfl,rfl⟩)|(go_at_call 172;refine (Qbj HC8.o r (HR0.o.kept HK8.o) t (HT0.o.kept HK8.o) Qn7.o Qp6.o (m:Int) HI.o n _ (HP0.o.kept HK8.o) (fun k hk=>(HLK.o k hk).1) Qt5.o (HF0.o.kept HK8.o)).mono ?_;rintro e w9 ⟨rfl,hat⟩));go_returns;exact⟨rfl,((hat.after HK8.o).wider fun k h=>h.1).after hkS⟩
end
theorem Qid {r:Reg} {t:Q1} (hn:Qt t=true) (hK:Qj t) (hSm:Jz t) (hsz:t.nodes.length≤4000):∀f:Nat,Q0o r t f (Q8 r t f):=by
 intro f
 induction f with
 |zero=>intro S w cb rb ro tb tq s kv bv lv tv wv i hi hin;have:=hin.1;omega
 |succ f ih =>
  intro S w cb rb ro tb tq s kv bv lv tv wv i hif hi h hr ht hok h00 hF;have hif':i<(f:Int)+1:=by simpa using hif
  cases hm:Yl t s (t.at i).kind with
  |false=>rw[Q3h hm];exact Qji h ht hok hi hm
  |true =>
  by_cases k33:(t.at i).kind=33
  ·have e:Q8 r t (f+1) s i=fnF t (Q8 r t f) s i (t.at i):=by unfold Q8;dsimp only;rw[Ps hm,Ps k33]
   rw[e];exact Qkp hn hK hSm hsz ih h hr ht hok h00 hF hi hif' hm k33
  by_cases k34:(t.at i).kind=34
  ·have e:Q8 r t (f+1) s i=Qa (Q8 r t f) s (t.at i).kids:=by unfold Q8;dsimp only;rw[Ps hm,Ng k33,Ps k34]
   rw[e];exact Qip hn hK hSm hsz ih h hr ht hok h00 hF hi hif' hm k34
  by_cases k11:(t.at i).kind=11
  ·rw[Q5v hm k11];exact Qge hn hK hSm hsz ih h hr ht hok h00 hF hi hif' hm k11
  by_cases k16:(t.at i).kind=16
  ·rw[Q20 hm (.inl k16)];exact Q9r hn hK hSm hsz ih h hr ht hok h00 hF hi hif' hm k16
  by_cases k17:(t.at i).kind=17
  ·rw[Q20 hm (.inr k17)];exact Q9w hn hK hSm hsz ih h hr ht hok h00 hF hi hif' hm k17
  by_cases k18:(t.at i).kind=18
  ·rw[Q5n hm k18];exact Qhy hn hK hSm hsz ih h hr ht hok h00 hF hi hif' hm k18
  by_cases k20:(t.at i).kind=20
  ·rw[Q5q hm k20];exact Qgo hn hK hSm hsz ih h hr ht hok h00 hF hi hif' hm k20
  by_cases k21:(t.at i).kind=21
  ·rw[Q4h hm k21];exact Qdo hn hK hSm hsz ih h hr ht hok h00 hF hi hif' hm k21
  by_cases k27:(t.at i).kind=27
  ·have e:Q8 r t (f+1) s i={Qa (Q8 r t f) s (t.at i).kids with locals:=(Qa (Q8 r t f) s (t.at i).kids).locals.take s.locals.length}:=by
    unfold Q8;dsimp only;rw[Ps hm,Ng k33,Ng k34,Ng k11,Ng (by omega),Ng k18,Ng k20,Ng k21,Ps k27]
   rw[e];exact Qen hn hK hSm hsz ih h hr ht hok h00 hF hi hif' hm k27
  have hnt:(t.at i).kind≠33∧(t.at i).kind≠34∧(t.at i).kind≠11∧(t.at i).kind≠16∧(t.at i).kind≠17∧(t.at i).kind≠18∧(t.at i).kind≠20∧(t.at i).kind≠21∧(t.at i).kind≠27:=⟨k33,k34,k11,k16,k17,k18,k20,k21,k27⟩
  have e:Q8 r t (f+1) s i=if (Qa (Q8 r t f) s (t.at i).kids).code≠0 then Qa (Q8 r t f) s (t.at i).kids else if Qs (t.at i).kind then (Zx r t (Qa (Q8 r t f) s (t.at i).kids) i (t.at i)).2.setKind i (Zx r t (Qa (Q8 r t f) s (t.at i).kids) i (t.at i)).1 else Qz r t (Qa (Q8 r t f) s (t.at i).kids) i (t.at i):=by
   conv=>lhs;unfold Q8;dsimp only;rw[Ps hm,Ng k33,Ng k34,Ng k11,Ng (by omega),Ng k18,Ng k20,Ng k21,Ng k27]
  rw[e]
  by_cases hc:(Qa (Q8 r t f) s (t.at i).kids).code=0
  ·rw[Ng (show ¬ (Qa (Q8 r t f) s (t.at i).kids).code≠0 by simpa using hc)]
   cases he:Qs (t.at i).kind with
   |true=>rw[Ps rfl];exact Qgu hn hK hSm hsz ih h hr ht hok h00 hF hi hif' hm ⟨hnt,hc,he⟩
   |false=>rw[Ng (by simp)];exact Qhq hn hK hSm hsz ih h hr ht hok h00 hF hi hif' hm ⟨hnt,hc,he⟩
  ·rw[Ps hc];exact Qhl hn hK hSm hsz ih h hr ht hok h00 hF hi hif' hm ⟨hnt,hc⟩
theorem Q93 (b:Int) (w:World):Calls prog 219 #[.int .u8 b] w fun e w'=>e=.returned (.bool (Qg b))∧w=w':=by
 cases h1:decide (48≤b)<;>cases h2:decide (b≤57)
 all_goals
  go_enter func219,ntmps219;go_wp2_with fail;go_ret;exact⟨Q6 (by simp only[Qg,h1,h2];rfl),rfl⟩
theorem Q8k (s:ByteArray) (a:Nat) (w:World) (hs:s.size≤140737488355328) (ha:a≤s.size) :
  Calls prog 202 #[.string s,.int .i64 a] w fun e w'=>e=.returned (.int .i64 (Jq Qg s a))∧w=w':=by
 go_enter func202,ntmps202;go_wp2_with fail;go_loop [1] (fun i=>∃j:Nat,j≤s.size∧i=.int .i64 j∧Hi (Jq Qg s a=Jq Qg s j)) (fun i=>s.size-(intOf i).toNat)
 case atStart=>exact⟨a,ha,rfl,Hh rfl⟩
 case round =>
  obtain⟨j,hj,rfl,HR⟩:=hrel
  by_cases hlt:j<s.size
  ·have hd:decide ((j:Int)<(s.size:Int))=true:=Dt (by omega)
   cases hb:Qg ((s[j]'hlt).toNat:Int) with
   |true =>
    go_wp2_with (go_at_call 219;refine (Q93 _ _).mono ?_;rw[hb];rintro e w1 ⟨rfl,rfl⟩);go_round
    case rel=>exact⟨j+1,by omega,by go_num,Hh (HR.o.trans (Qa5 hlt hb))⟩
    case measure=>simp[intOf];omega
   |false =>
    go_wp2_with (go_at_call 219;refine (Q93 _ _).mono ?_;rw[hb];rintro e w1 ⟨rfl,rfl⟩);go_ret;exact⟨Jn (by rw[HR.o,Qag hlt hb]),rfl⟩
  ·have hd:decide ((j:Int)<(s.size:Int))=false:=Df (by omega)
   go_wp2_with fail;go_ret;exact⟨Jn (by rw[HR.o,Qcn (by omega)]),rfl⟩
theorem Q38 (s:ByteArray) (w:World) (hd:∀b∈J5 s,Qg b=true) (hs:s.size≤15) :
  Calls prog 203 #[.string s] w fun e w'=>e=.returned (.int .i64 (Q0s (J5 s)))∧w=w':=by
 have HD:=Hh hd;clear hd;go_enter func203,ntmps203;go_wp2_with fail;go_loop [3,4] (fun n i=>∃j:Nat,j≤s.size∧i=.int .i64 j∧n=.int .i64 (Q0s ((J5 s).take j))) (fun _ i=>s.size-(intOf i).toNat)
 case atStart=>exact⟨0,Nat.zero_le _,rfl,rfl⟩
 case round =>
  obtain⟨j,hj,rfl,rfl⟩:=hrel
  by_cases hlt:j<s.size
  ·have hg:=Q1c s j hlt
   have hb:=HD.o _ (Mg hg);simp[Qg] at hb;obtain⟨hb1,hb2⟩:=hb;obtain⟨hn1,hn2⟩:=Q6c ((J5 s).take j) (fun b hb=>HD.o b (List.mem_of_mem_take hb)) (by rw[List.length_take];omega);have HS:Hi (Q0s ((J5 s).take (j+1))=10*Q0s ((J5 s).take j)+(((s[j]'hlt).toNat:Int)-48)):=Hh (by rw[Jy hg,Qa4]);generalize Q0s ((J5 s).take j)=n at *;clear hg;go_wp2;go_round
   case rel=>exact⟨j+1,by omega,by go_num,by rw[HS.o];congr 1;omega⟩
   case measure=>simp[intOf];omega
  ·go_wp2
   go_ret;obtain rfl:j=s.size:=by omega
   exact⟨Jn (by rw[List.take_of_length_le (by rw[Z2];exact Nat.le_refl _)]),rfl⟩
def Q14 (s:ByteArray):Bool :=
 if 1≤Jq Qg s 0∧Jq Qg s 0≤9 then
  if 1<Jq Qg s 0∧Q28 s 0=48 then false
  else if s.size≤Jq Qg s 0 then false
  else if Q28 s (Jq Qg s 0)≠46 then false
  else decide (Jq Qg s (Jq Qg s 0+1)=s.size)&&(decide (Jq Qg s 0+2≤s.size)&&decide (s.size≤Jq Qg s 0+7))
 else false
theorem Q3l {s:ByteArray} {i:Nat} (h:i<s.size):Q28 s i=((s[i]'h).toNat:Int):=by unfold Q28;rw[dif_pos h]
theorem Qad (p:Int→Bool) (l:List Int):∀b∈l.take (Q3c p l),p b=true:=by
 induction l with
 |nil=>simp
 |cons y ys ih =>
  simp only[Q3c];split
  ·intro b hb
   simp only[List.take_succ_cons,List.mem_cons] at hb;rcases hb with rfl|hb
   ·assumption
   ·exact ih b hb
  ·simp
theorem Y8 (s:ByteArray) (i j:Nat):J5 (s.extract i j)=((J5 s).drop i).take (j-i):=by
 unfold J5;rw[ByteArray.data_extract,Array.toList_extract,List.extract_eq_take_drop,List.map_take,List.map_drop]
def Q6h (k:Nat):Nat:=floatOfInt .f64 ((10 ^ k:Nat):Int)
theorem Qkk (k:Nat) (h:k≤6):Qaw (Q6h k)=true:=by
 match k,h with
 |0,_|1,_|2,_|3,_|4,_|5,_|6,_=>decide +kernel
theorem Qme (n:Int) (k:Nat) (h:k≤6) (hn:0≤n):∃v,floatBits .quo .f64 (floatOfInt .f64 n) (Q6h k)=some v:=Qdi n hn (Q6h k) (Qkk k h)
def pw (k:Nat):Int:=((10 ^ k:Nat):Int)
theorem Ql0 (k:Nat):pw k*10=pw (k+1):=by unfold pw;rw[Nat.pow_succ];push_cast;rfl
theorem Qf9 (k:Nat):1≤pw k:=by unfold pw;have:=Nat.pos_of_ne_zero (n:=10 ^ k) (by simp);omega
theorem Qln (k:Nat) (h:k≤6):pw k≤1000000:=by
 match k,h with
 |0,_|1,_|2,_|3,_|4,_|5,_|6,_=>decide
theorem Ql8 {k j:Nat} (h:k≤j):((10 ^ k:Nat):Int)≤pw j:=by unfold pw;exact_mod_cast Nat.pow_le_pow_right (by omega) h
theorem Qd5 (s:ByteArray) (w:World) (hs:s.size≤140737488355328):Calls prog 180 #[.string s] w fun e w'=>(∃v,e=.returned (.tuple #[.float .f64 v,.bool (Q14 s)]))∧Q0 nob w w':=by
 have hle:=Q57 Qg s 0 (Nat.zero_le _);have Qoe:=Q8k s 0;cases h1:Q9 ((Jq Qg s 0:Nat):Int) 1 9 with
 |false =>
  have HX:Hi (Q14 s=false):=Hh (by unfold Q14;rw[Ng (by simp[Q9] at h1;omega)]);go_enter func180,ntmps180;go_wp2_with (first|(go_at_call 202;refine (Qoe _ hs (Nat.zero_le _)).mono ?_;rintro e w1 ⟨rfl,rfl⟩)|(go_at_call 105;refine (Zh _ _ _ _).mono ?_;rw[h1];rintro e w1 ⟨rfl,rfl⟩));go_returns;(refine⟨⟨0,?_⟩,Kr _ _⟩;rw[HX.o];rfl)
 |true =>
  have hX:Q14 s=(if 1<Jq Qg s 0∧Q28 s 0=48 then false else if s.size≤Jq Qg s 0 then false else if Q28 s (Jq Qg s 0)≠46 then false
    else decide (Jq Qg s (Jq Qg s 0+1)=s.size)&&(decide (Jq Qg s 0+2≤s.size)&&decide (s.size≤Jq Qg s 0+7))):=by
   unfold Q14;rw[Ps (by simp[Q9] at h1;omega)]
  have Qo1:∀b∈J5 (s.extract 0 (Jq Qg s 0)),Qg b=true:=by
   rw[Y8,List.drop_zero,Nat.sub_zero];have:=Qad Qg (J5 s);have e:Jq Qg s 0=Q3c Qg (J5 s):=by simp[Jq]
   rw[e];exact this
  have Qp1:=Hh Qo1;have HX0:=Hh hX;clear hX Qo1;have Qob:∀w,Calls prog 202 #[.string s,.int .i64 0] w fun e w'=>e=.returned (.int .i64 (Jq Qg s 0))∧w=w':=fun w=>Q8k s 0 w hs (Nat.zero_le _)
  clear Qoe;generalize ha:Jq Qg s 0=a at hle h1 Qp1 HX0 Qob;have hab:1≤a∧a≤9:=by simp[Q9] at h1;omega
  obtain⟨ha1,ha9⟩:=hab;have hs0:0<s.size:=by omega
  have ha9':a≤140737488355328:=by omega
  have HA9:=Hh ha9;clear ha9 ha
  by_cases hz:1<a∧Q28 s 0=48
  ·have HX:Hi (Q14 s=false):=Hh (by rw[HX0.o,Ps hz])
   have t1:decide ((1:Int)<(a:Int))=true:=Dt (by omega);have t2:(((s[0]'hs0).toNat:Int)==48)=true:=by have:=hz.2;rw[Q3l hs0] at this;simpa using this
   clear hz;go_enter func180,ntmps180;go_wp2_with (first|(go_at_call 202;refine (Qob _).mono ?_;rintro e w1 ⟨rfl,rfl⟩)|(go_at_call 105;refine (Zh _ _ _ _).mono ?_;rw[h1];rintro e w1 ⟨rfl,rfl⟩));go_returns;(refine⟨⟨0,?_⟩,Kr _ _⟩;rw[HX.o];rfl)
  have hg2:(decide ((1:Int)<(a:Int))=true∧(((s[0]'hs0).toNat:Int)==48)=false)∨decide ((1:Int)<(a:Int))=false:=by
   by_cases h:1<a
   ·left
    refine⟨Dt (by omega),?_⟩;have:¬ Q28 s 0=48:=fun e=>hz ⟨h,e⟩
    rw[Q3l hs0] at this;simpa using this
   ·right;exact Df (by omega)
  by_cases h3:s.size≤a
  ·have HX:Hi (Q14 s=false):=Hh (by rw[HX0.o,Ng hz,Ps h3])
   have t3:decide ((s.size:Int)≤(a:Int))=true:=Dt (by omega);have t3':decide (s.size≤a)=true:=Dt h3;have HLE:=Hh hle;clear hle;clear hz h3;rcases hg2 with ⟨t1,t2⟩|t1
   ·go_enter func180,ntmps180;go_wp2_with (first|(go_at_call 202;refine (Qob _).mono ?_;rintro e w1 ⟨rfl,rfl⟩)|(go_at_call 105;refine (Zh _ _ _ _).mono ?_;rw[h1];rintro e w1 ⟨rfl,rfl⟩))
    go_returns;(refine⟨⟨0,?_⟩,Kr _ _⟩;rw[HX.o];rfl)
   ·go_enter func180,ntmps180;go_wp2_with (first|(go_at_call 202;refine (Qob _).mono ?_;rintro e w1 ⟨rfl,rfl⟩)|(go_at_call 105;refine (Zh _ _ _ _).mono ?_;rw[h1];rintro e w1 ⟨rfl,rfl⟩))
    go_returns;(refine⟨⟨0,?_⟩,Kr _ _⟩;rw[HX.o];rfl)
  have t3:decide ((s.size:Int)≤(a:Int))=false:=Df (by omega);have t3':decide (s.size≤a)=false:=Df h3;have hlt:a<s.size:=by omega
  by_cases h4:Q28 s a=46
  ·have t4:(((s[a]'hlt).toNat:Int) != 46)=false:=by rw[Q3l hlt] at h4;simpa using h4
   have HX2:Hi (Q14 s=(decide (Jq Qg s (a+1)=s.size)&&(decide (a+2≤s.size)&&decide (s.size≤a+7)))):=Hh (by rw[HX0.o,Ng hz,Ng h3,Ng (by simpa using h4)])
   have Qro:∀w,Calls prog 202 #[.string s,.int .i64 ((a:Int)+1)] w fun e w'=>e=.returned (.int .i64 (Jq Qg s (a+1)))∧w=w':=fun w=>by
    have:=Q8k s (a+1) w hs (by omega);simpa using this
   have hb2:=Q57 Qg s (a+1) (by omega);have hb1:a+1≤Jq Qg s (a+1):=by unfold Jq;omega
   have Qrp:Jq Qg s (a+1)=s.size→∀b∈J5 (s.extract (a+1) s.size),Qg b=true:=by
    intro e;rw[Y8];have h9:=Qad Qg ((J5 s).drop (a+1));have e2:Q3c Qg ((J5 s).drop (a+1))=s.size-(a+1):=by unfold Jq at e;omega
    rw[e2] at h9;exact h9
   have Qq6:=Hh Qrp;clear hz h3 h4 HX0 Qrp;generalize Jq Qg s (a+1)=b at HX2 Qro hb2 hb1 Qq6;have hne:¬ (a:Int)+1=0:=by omega
   have Qof:∀(x:Int) (w:World),(x=0∨x=(a:Int)+1)→Calls prog 202 #[.string s,.int .i64 x] w fun e w'=>e=.returned (.int .i64 (if x=0 then (a:Int) else (b:Int)))∧w=w':=by
    intro x w hx;rcases hx with rfl|rfl
    ·rw[Ps rfl];exact Qob w
    ·rw[Ng hne];exact Qro w
   have hb3:b≤140737488355328:=by omega
   have Qok:(0:Int)≤(b:Int)-a:=by omega
   obtain⟨k,hk⟩:∃k:Nat,b=a+1+k:=⟨b-(a+1),by omega⟩;have hkI:(b:Int)-(a:Int)-1=(k:Int):=by omega
   have hw1:wrap64 ((b:Int)-a)=(b:Int)-a:=by unfold wrap64;omega
   have hw2:wrap64 ((b:Int)-a-1)=(k:Int):=by unfold wrap64;omega
   by_cases h5:b=s.size
   ·have t5:((b:Int) != (s.size:Int))=false:=by simp[h5]
    cases h7:Q9 (k:Int) 1 6 with
    |false =>
     have HX:Hi (Q14 s=false):=Hh (by rw[HX2.o];simp[Q9] at h7;simp;omega);have HK:=Hh hk;have h7':Q9 ((b:Int)-(a:Int)-1) 1 6=false:=by rw[hkI];exact h7
     clear h5 hk hkI;rcases hg2 with ⟨t1,t2⟩|t1
     ·go_enter func180,ntmps180;go_wp2_with (first|(go_at_call 202;refine (Qof _ _ (by first|exact Or.inl rfl|exact Or.inr rfl)).mono ?_;rintro e w1 ⟨he,rfl⟩;first|(rw[Ps rfl] at he;subst he)|(rw[Ng hne] at he;subst he))|(go_at_call 105;refine (Zh _ _ _ _).mono ?_;first|(rw[h1];rintro e w1 ⟨rfl,rfl⟩)|(rw[h7];rintro e w1 ⟨rfl,rfl⟩)|(rw[h7'];rintro e w1 ⟨rfl,rfl⟩)))
      go_returns;(refine⟨⟨0,?_⟩,Kr _ _⟩;rw[HX.o];rfl)
     ·go_enter func180,ntmps180;go_wp2_with (first|(go_at_call 202;refine (Qof _ _ (by first|exact Or.inl rfl|exact Or.inr rfl)).mono ?_;rintro e w1 ⟨he,rfl⟩;first|(rw[Ps rfl] at he;subst he)|(rw[Ng hne] at he;subst he))|(go_at_call 105;refine (Zh _ _ _ _).mono ?_;first|(rw[h1];rintro e w1 ⟨rfl,rfl⟩)|(rw[h7];rintro e w1 ⟨rfl,rfl⟩)|(rw[h7'];rintro e w1 ⟨rfl,rfl⟩)))
      go_returns;(refine⟨⟨0,?_⟩,Kr _ _⟩;rw[HX.o];rfl)
    |true =>
     have Qt7:1≤k∧k≤6:=by simp[Q9] at h7;omega
     have HX:Hi (Q14 s=true):=Hh (by rw[HX2.o];simp;omega);have h7':Q9 ((b:Int)-(a:Int)-1) 1 6=true:=by rw[hkI];exact h7
     have Qng:(s.extract (a+1) s.size).size=k:=by simp;omega
     have Qqo:(s.extract 0 a).size=a:=by simp;omega
     have hd2:=Qq6.o h5;have hn1:=Q6c _ Qp1.o (by rw[Z2,Qqo];have:=HA9.o;omega);have hn2:=Q6c _ hd2 (by rw[Z2,Qng];omega);have hb1':=Qav _ Qp1.o;have hb2':=Qav _ hd2;rw[Z2,Qqo] at hb1';rw[Z2,Qng] at hb2'
     have hN1:Q0s (J5 (s.extract 0 a))≤999999999:=by
      have h9:=Ql8 (show a≤9 from HA9.o);have:pw 9=1000000000:=by decide
      omega
     have hT6:=Qln k Qt7.2;have hN2:Q0s (J5 (s.extract (a+1) s.size))<pw k:=hb2'.2;have Qut:(s.extract 0 a).size≤15:=by rw[Qqo];have:=HA9.o;omega
     have Quu:(s.extract (a+1) s.size).size≤15:=by rw[Qng];omega
     have HDA:=Qp1;have HDB:=Hh hd2;have Quv:=Hh Qut;have Quw:=Hh Quu;have hp0:=hn1.1;have hp1:=hn2.1;have Qx1:Q0s (J5 (s.extract 0 a))*pw k≤999999999*1000000:=Int.mul_le_mul hN1 hT6 (by have:=Qf9 k;omega) (by omega);have Qt8:0≤Q0s (J5 (s.extract 0 a))*pw k:=Int.mul_nonneg hp0 (by have:=Qf9 k;omega);obtain⟨M,hM⟩:∃M,M=Q0s (J5 (s.extract 0 a))*pw k:=⟨_,rfl⟩;obtain⟨Q,hQ⟩:∃Q,Q=M+Q0s (J5 (s.extract (a+1) s.size)):=⟨_,rfl⟩;obtain⟨v,hv⟩:=Qme Q k Qt7.2 (by omega);have e1:IntKind.i64.wrap (Q0s (J5 (s.extract 0 a))*pw k)=M:=by rw[IntKind.wrap_i64];omega
     have e2:wrap64 (Q0s (J5 (s.extract 0 a))*pw k)=M:=by unfold wrap64;omega
     have e3:IntKind.i64.wrap (M+Q0s (J5 (s.extract (a+1) s.size)))=Q:=by rw[IntKind.wrap_i64];omega
     have e4:wrap64 (M+Q0s (J5 (s.extract (a+1) s.size)))=Q:=by unfold wrap64;omega
     have hq:=run_float_arith (P:=prog) (op:=.quo) (t:=104) (k:=.f64) (h:=hv);have hpf:Q6h k=floatOfInt .f64 (pw k):=rfl;rw[hpf] at hq
     have HST:Hi (∀j,j<k→wrap64 (pw j*10)=pw (j+1)∧IntKind.i64.wrap (pw j*10)=pw (j+1)):=Hh (fun j hj=>by
      have h1:=Qln (j+1) (by omega);have h2:=Qf9 (j+1);have h3:=Ql0 j;exact⟨by unfold wrap64;omega,by rw[IntKind.wrap_i64];omega⟩)
     have hkk:k≤140737488355328:=by omega
     have Qn5:(1:Int)=pw 0:=rfl;have Qt5:=Hh Qn5;have HKI:=Hh hkI;clear h5 hk hkI Qt7 Qng Qqo hd2 hn1 hn2 hb1' hb2' hN1 hT6 hN2 Qut Quu hp0 hp1 Qx1 Qt8 hM hQ hv hpf Qn5 Qq6 HX2 Qp1;rcases hg2 with ⟨t1,t2⟩|t1
     ·go_enter func180,ntmps180;go_wp2_with (first|(go_at_call 202;refine (Qof _ _ (by first|exact Or.inl rfl|exact Or.inr rfl)).mono ?_;rintro e w1 ⟨he,rfl⟩;first|(rw[Ps rfl] at he;subst he)|(rw[Ng hne] at he;subst he))|(go_at_call 105;refine (Zh _ _ _ _).mono ?_;first|(rw[h1];rintro e w1 ⟨rfl,rfl⟩)|(rw[h7];rintro e w1 ⟨rfl,rfl⟩)|(rw[h7'];rintro e w1 ⟨rfl,rfl⟩)))
      go_loop [7,8] (fun ten i=>∃j:Nat,j≤k∧i=.int .i64 j∧ten=.int .i64 (pw j)) (fun _ i=>k-(intOf i).toNat)
      case atStart=>exact⟨0,Nat.zero_le _,rfl,rfl⟩
      case round =>
       obtain⟨j,hj,rfl,rfl⟩:=hrel
       by_cases hlt:j<k
       ·have hd:decide ((j:Int)<(b:Int)-(a:Int)-1)=true:=Dt (by rw[HKI.o];omega)
        have hs1:=(HST.o j hlt).1;have hs2:=(HST.o j hlt).2;go_wp2_with fail;go_round
        case rel=>exact⟨j+1,by omega,by go_num,rfl⟩
        case measure=>simp[intOf];omega
       ·have hd:decide ((j:Int)<(b:Int)-(a:Int)-1)=false:=Df (by rw[HKI.o];omega)
        obtain rfl:j=k:=by omega
        go_wp2_with fail;go_quiet ((first|exact Xi (Q38 _ _ HDA.o Quv.o)|exact Xi (Q38 _ _ HDB.o Quw.o)));go_wp2_with fail;go_returns;exact⟨⟨v,by rw[HX.o];rfl⟩,(Kr _ _).drewN _⟩
     ·go_enter func180,ntmps180;go_wp2_with (first|(go_at_call 202;refine (Qof _ _ (by first|exact Or.inl rfl|exact Or.inr rfl)).mono ?_;rintro e w1 ⟨he,rfl⟩;first|(rw[Ps rfl] at he;subst he)|(rw[Ng hne] at he;subst he))|(go_at_call 105;refine (Zh _ _ _ _).mono ?_;first|(rw[h1];rintro e w1 ⟨rfl,rfl⟩)|(rw[h7];rintro e w1 ⟨rfl,rfl⟩)|(rw[h7'];rintro e w1 ⟨rfl,rfl⟩)))
      go_loop [7,8] (fun ten i=>∃j:Nat,j≤k∧i=.int .i64 j∧ten=.int .i64 (pw j)) (fun _ i=>k-(intOf i).toNat)
      case atStart=>exact⟨0,Nat.zero_le _,rfl,rfl⟩
      case round =>
       obtain⟨j,hj,rfl,rfl⟩:=hrel
       by_cases hlt:j<k
       ·have hd:decide ((j:Int)<(b:Int)-(a:Int)-1)=true:=Dt (by rw[HKI.o];omega)
        have hs1:=(HST.o j hlt).1;have hs2:=(HST.o j hlt).2;go_wp2_with fail;go_round
        case rel=>exact⟨j+1,by omega,by go_num,rfl⟩
        case measure=>simp[intOf];omega
       ·have hd:decide ((j:Int)<(b:Int)-(a:Int)-1)=false:=Df (by rw[HKI.o];omega)
        obtain rfl:j=k:=by omega
        go_wp2_with fail;go_quiet ((first|exact Xi (Q38 _ _ HDA.o Quv.o)|exact Xi (Q38 _ _ HDB.o Quw.o)));go_wp2_with fail;go_returns;exact⟨⟨v,by rw[HX.o];rfl⟩,(Kr _ _).drewN _⟩
   ·have t5:((b:Int) != (s.size:Int))=true:=by simp;omega
    have HX:Hi (Q14 s=false):=Hh (by rw[HX2.o,Df h5];rfl);have h7:Q9 (k:Int) 1 6=Q9 (k:Int) 1 6:=rfl;have h7':=h7;clear h5 hk hkI;rcases hg2 with ⟨t1,t2⟩|t1
    ·go_enter func180,ntmps180;go_wp2_with (first|(go_at_call 202;refine (Qof _ _ (by first|exact Or.inl rfl|exact Or.inr rfl)).mono ?_;rintro e w1 ⟨he,rfl⟩;first|(rw[Ps rfl] at he;subst he)|(rw[Ng hne] at he;subst he))|(go_at_call 105;refine (Zh _ _ _ _).mono ?_;first|(rw[h1];rintro e w1 ⟨rfl,rfl⟩)|(rw[h7];rintro e w1 ⟨rfl,rfl⟩)|(rw[h7'];rintro e w1 ⟨rfl,rfl⟩)))
     go_returns;(refine⟨⟨0,?_⟩,Kr _ _⟩;rw[HX.o];rfl)
    ·go_enter func180,ntmps180;go_wp2_with (first|(go_at_call 202;refine (Qof _ _ (by first|exact Or.inl rfl|exact Or.inr rfl)).mono ?_;rintro e w1 ⟨he,rfl⟩;first|(rw[Ps rfl] at he;subst he)|(rw[Ng hne] at he;subst he))|(go_at_call 105;refine (Zh _ _ _ _).mono ?_;first|(rw[h1];rintro e w1 ⟨rfl,rfl⟩)|(rw[h7];rintro e w1 ⟨rfl,rfl⟩)|(rw[h7'];rintro e w1 ⟨rfl,rfl⟩)))
     go_returns;(refine⟨⟨0,?_⟩,Kr _ _⟩;rw[HX.o];rfl)
  ·have t4:(((s[a]'hlt).toNat:Int) != 46)=true:=by rw[Q3l hlt] at h4;simpa using h4
   have HX:Hi (Q14 s=false):=Hh (by rw[HX0.o,Ng hz,Ng h3,Ps h4]);clear hz h3 h4;rcases hg2 with ⟨t1,t2⟩|t1
   ·go_enter func180,ntmps180;go_wp2_with (first|(go_at_call 202;refine (Qob _).mono ?_;rintro e w1 ⟨rfl,rfl⟩)|(go_at_call 105;refine (Zh _ _ _ _).mono ?_;rw[h1];rintro e w1 ⟨rfl,rfl⟩))
    go_returns;(refine⟨⟨0,?_⟩,Kr _ _⟩;rw[HX.o];rfl)
   ·go_enter func180,ntmps180;go_wp2_with (first|(go_at_call 202;refine (Qob _).mono ?_;rintro e w1 ⟨rfl,rfl⟩)|(go_at_call 105;refine (Zh _ _ _ _).mono ?_;rw[h1];rintro e w1 ⟨rfl,rfl⟩))
    go_returns;(refine⟨⟨0,?_⟩,Kr _ _⟩;rw[HX.o];rfl)
def Q81:List ByteArray→List Zw→Bool
 |_,[]=>true
 |names,d::ds=>Q0k d.name&&(Q9 d.kind 1 4&&(!Z9 d.name names&&Q81 (names++[d.name]) ds))
theorem Qd8 (names:List ByteArray) (l:List Zw):Q81 names l=(Xa names l).isSome:=by
 induction l generalizing names with
 |nil=>rfl
 |cons d ds ih =>
  simp only[Q81,Xa,ih];cases Q0k d.name<;>cases Q9 d.kind 1 4<;>cases Z9 d.name names<;>simp
theorem Q89 (names:List ByteArray) (a b:List Zw):Xa names (a++b)=(Xa names a).bind (fun n=>Xa n b):=by
 induction a generalizing names with
 |nil=>rfl
 |cons d ds ih =>
  simp only[List.cons_append,Xa];split
  ·exact ih _
  ·rfl
def Q8f (r:Reg):Bool:=(decide (r.comps.length≤12)&&(decide (r.ress.length≤12)&&decide (r.evts.length≤12)))&&Q81 [] (r.comps++r.ress++r.evts)
theorem Qbn (r:Reg):Q8f r=Q69 r:=by
 unfold Q8f Q69;rw[Qd8,Q89,Q89];simp only[Q1v]
 by_cases h1:r.comps.length≤12
 ·rw[Ps h1,Dt h1]
  cases hd1:Xa [] r.comps with
  |none=>simp
  |some n1 =>
   simp only[Option.bind_some]
   by_cases h2:r.ress.length≤12
   ·rw[Ps h2,Dt h2]
    cases hd2:Xa n1 r.ress with
    |none=>simp
    |some n2 =>
     simp only[Option.bind_some]
     by_cases h3:r.evts.length≤12
     ·rw[Ps h3,Dt h3]
      cases hd3:Xa n2 r.evts<;>simp
     ·rw[Ng h3,Df h3];simp
   ·rw[Ng h2,Df h2];simp
 ·rw[Ng h1,Df h1];simp
section
variable {r:Reg} {w:World} {rv:Value}
theorem Q5f (r:Reg) (rv:Value) (w:World) (hr:Q1d w rv r) (hN:Q1k r) :
  Calls prog 69 #[rv] w fun e w'=>e=.returned (.bool (Q8f r))∧Q0 nob w w':=by
 obtain⟨v0,v1,v2,rfl,d0,d1,d2⟩:=hr;obtain⟨A0,b0,o0,c0,rfl,l0,lc0,hA0,hc0⟩:=d0;obtain⟨A1,b1,o1,c1,rfl,l1,lc1,hA1,hc1⟩:=d1;obtain⟨A2,b2,o2,c2,rfl,l2,lc2,hA2,hc2⟩:=d2;have hk0:Q0 nob w (w.alloc (.cells #[.slice A0 r.comps.length c0,.slice A1 r.ress.length c1,.slice A2 r.evts.length c2] 38)):=(Kr _ _).alloc _;have hb:=Blk.new w [.slice A0 r.comps.length c0,.slice A1 r.ress.length c1,.slice A2 r.evts.length c2] 38;generalize hW0:w.alloc (.cells #[.slice A0 r.comps.length c0,.slice A1 r.ress.length c1,.slice A2 r.evts.length c2] 38)=W0 at hk0;replace hb:Blk W0 w.heap.size [.slice A0 r.comps.length c0,.slice A1 r.ress.length c1,.slice A2 r.evts.length c2] 38:=hW0▸hb;have s0:∀W,Q0 nob W0 W→W.cell? ⟨w.heap.size,0,none⟩=some (.slice A0 r.comps.length c0):=fun W hW=>hW.cell (fun h=>h) (hb.cell 0 _ rfl)
 have s1:∀W,Q0 nob W0 W→W.cell? ⟨w.heap.size,1,none⟩=some (.slice A1 r.ress.length c1):=fun W hW=>hW.cell (fun h=>h) (hb.cell 1 _ rfl)
 have s2:∀W,Q0 nob W0 W→W.cell? ⟨w.heap.size,2,none⟩=some (.slice A2 r.evts.length c2):=fun W hW=>hW.cell (fun h=>h) (hb.cell 2 _ rfl)
 have hr0:Q0 nob W0 W0:=Kr _ _;have g0:=s0 W0 hr0;have g1:=s1 W0 hr0;have g2:=s2 W0 hr0;have HK0:=Hh hk0;have HA0:=Hh hA0;have HA1:=Hh hA1;have HA2:=Hh hA2;have HC0:Hi (∀j x,r.comps[j]?=some x→∀W,Q0 nob W0 W→W.cell? ⟨b0,o0+j*2,none⟩=some (.string x.name)∧W.cell? ⟨b0,o0+j*2+1,none⟩=some (.int .i64 x.kind)):=Hh fun j x hx W hW=>⟨(hk0.trans hW).cell (fun h=>h) (hc0 j x hx).1,(hk0.trans hW).cell (fun h=>h) (hc0 j x hx).2⟩
 have HC1:Hi (∀j x,r.ress[j]?=some x→∀W,Q0 nob W0 W→W.cell? ⟨b1,o1+j*2,none⟩=some (.string x.name)∧W.cell? ⟨b1,o1+j*2+1,none⟩=some (.int .i64 x.kind)):=Hh fun j x hx W hW=>⟨(hk0.trans hW).cell (fun h=>h) (hc1 j x hx).1,(hk0.trans hW).cell (fun h=>h) (hc1 j x hx).2⟩
 have HC2:Hi (∀j x,r.evts[j]?=some x→∀W,Q0 nob W0 W→W.cell? ⟨b2,o2+j*2,none⟩=some (.string x.name)∧W.cell? ⟨b2,o2+j*2+1,none⟩=some (.int .i64 x.kind)):=Hh fun j x hx W hW=>⟨(hk0.trans hW).cell (fun h=>h) (hc2 j x hx).1,(hk0.trans hW).cell (fun h=>h) (hc2 j x hx).2⟩
 have HNM:=Hh hN;clear hA0 hA1 hA2 hc0 hc1 hc2 hk0 hb hN
 by_cases h0:r.comps.length≤12
 case neg =>
  have t1:decide ((r.comps.length:Int)>12)=true:=Dt (by omega);have t2:decide ((12:Int)<(r.comps.length:Int))=true:=Dt (by omega);have t3:decide (12<r.comps.length)=true:=Dt (by omega);have hX:Q8f r=false:=by unfold Q8f;rw[Df h0];rfl
  rw[hX];clear h0 hX;go_enter func69,ntmps69;go_wp2_with fail;go_returns;exact⟨rfl,HK0.o.trans (by apply_rules[Ka,Kd,Kn,Kr])⟩
 have t1:decide ((r.comps.length:Int)>12)=false:=Df (by omega);have t2:decide ((12:Int)<(r.comps.length:Int))=false:=Df (by omega);have t3:decide (12<r.comps.length)=false:=Df (by omega)
 by_cases h1:r.ress.length≤12
 case neg =>
  have u1:decide ((r.ress.length:Int)>12)=true:=Dt (by omega);have u2:decide ((12:Int)<(r.ress.length:Int))=true:=Dt (by omega);have u3:decide (12<r.ress.length)=true:=Dt (by omega);have hX:Q8f r=false:=by unfold Q8f;rw[Df h1];simp
  rw[hX];clear h0 h1 hX;go_enter func69,ntmps69;go_wp2_with fail;go_returns;exact⟨rfl,HK0.o.trans (by apply_rules[Ka,Kd,Kn,Kr])⟩
 have u1:decide ((r.ress.length:Int)>12)=false:=Df (by omega);have u2:decide ((12:Int)<(r.ress.length:Int))=false:=Df (by omega);have u3:decide (12<r.ress.length)=false:=Df (by omega)
 by_cases h2:r.evts.length≤12
 case neg =>
  have v1:decide ((r.evts.length:Int)>12)=true:=Dt (by omega);have v2:decide ((12:Int)<(r.evts.length:Int))=true:=Dt (by omega);have v3:decide (12<r.evts.length)=true:=Dt (by omega);have hX:Q8f r=false:=by unfold Q8f;rw[Df h2];simp
  rw[hX];clear h0 h1 h2 hX;go_enter func69,ntmps69;go_wp2_with fail;go_returns;exact⟨rfl,HK0.o.trans (by apply_rules[Ka,Kd,Kn,Kr])⟩
 have v1:decide ((r.evts.length:Int)>12)=false:=Df (by omega);have v2:decide ((12:Int)<(r.evts.length:Int))=false:=Df (by omega);have v3:decide (12<r.evts.length)=false:=Df (by omega);obtain⟨X,hX⟩:∃X,X=Q81 [] (r.comps++r.ress++r.evts):=⟨_,rfl⟩;have hX2:Q8f r=X:=by unfold Q8f;rw[Dt h0,Dt h1,Dt h2,hX];rfl
 rw[hX2]
 have HNA:Hi (∀d∈r.comps++r.ress++r.evts,d.name.size≤140737488355328):=Hh fun d hd=>by
  rw[List.mem_append,List.mem_append] at hd;exact HNM.o d (by rcases hd with (h|h)|h<;>simp[h])
 have hal:(r.comps++r.ress++r.evts).length≤36:=by rw[List.length_append,List.length_append];omega
 clear hX2;go_enter func69,ntmps69;go_upto_region 3 with fail
 go_cut [3] (fun s3 wx=>X5 (Q7 W0.heap.size) 128 2 wx s3 (r.comps++r.ress++r.evts).length (decls (r.comps++r.ress++r.evts))∧Q0 nob W0 wx)
 case first =>
  go_region_held3 (fun W=>Q0 nob W0 W) (first|assumption|exact hr0.drew|exact Kd ‹_›|exact Ka (Ku ‹_›) _|exact Ka ‹_› _) ((first|(refine Q23 rfl (Q1e (Q7 W0.heap.size) _ _ 36 128 2 (.agg #[.string ByteArray.empty,.int .i64 0]) 24 rfl underlying36 (by kernel_rfl) rfl (by omega) _ 0 r.comps.length [] (decls r.comps) rfl A0 b0 o0 c0 rfl (Q52 _) HA0.o (Q4q fun j x hx=>HC0.o j x hx _ ‹_›) (Q78 _) (X5.lit0 _ _ _ (by simp[Q7]) (Z0 rfl (by simp))) (fun k hk=>by simp[Q7] at hk ⊢;omega) (by omega) (by omega) ?_);intro y0 Y0 ho0 hk0 ha0;have Qxt:Q0 nob W0 Y0:=Q0.then_ ‹_› hk0 (fun q hq=>.inr (Nat.le_of_eq (Option.some.inj hq)));dsimp only)|(refine Q23 rfl (Q1e (Q7 W0.heap.size) _ _ 36 128 2 (.agg #[.string ByteArray.empty,.int .i64 0]) 24 rfl underlying36 (by kernel_rfl) rfl (by omega) y0 _ r.ress.length _ (decls r.ress) rfl A1 b1 o1 c1 rfl (Q52 _) HA1.o (Q4q fun j x hx=>HC1.o j x hx _ ‹_›) (Q78 _) ho0 (fun k hk=>Nat.le_trans Qxt.size hk) (by omega) (by omega) ?_);intro y1 Y1 ho1 hk1 ha1;have Qpd:Q0 nob W0 Y1:=Q0.then_ ‹_› hk1 (fun q hq=>.inr (ho0.2 q hq));dsimp only)|(refine Q23 rfl (Q1e (Q7 W0.heap.size) _ _ 36 128 2 (.agg #[.string ByteArray.empty,.int .i64 0]) 24 rfl underlying36 (by kernel_rfl) rfl (by omega) y1 _ r.evts.length _ (decls r.evts) rfl A2 b2 o2 c2 rfl (Q52 _) HA2.o (Q4q fun j x hx=>HC2.o j x hx _ ‹_›) (Q78 _) ho1 (fun k hk=>Nat.le_trans Qpd.size hk) (by omega) (by omega) ?_);intro y2 Y2 ho2 hk2 ha2;have Qpe:Q0 nob W0 Y2:=Q0.then_ ‹_› hk2 (fun q hq=>.inr (ho1.2 q hq));dsimp only)))
  all_goals go_wp2_with fail
  all_goals go_meet
  all_goals exact⟨by have h9:=ho2;rw[List.nil_append,Q73,Q73] at h9;simpa[Nat.add_assoc] using h9,by assumption⟩
 case rest =>
  obtain⟨Qvq,hk3⟩:=hcut;obtain⟨W1,rfl⟩:∃W1:World,W1=wc:=⟨_,rfl⟩;generalize hAL:r.comps++r.ress++r.evts=all at *;obtain⟨QA,qb,qc,hq3,_,hqc,hQA,Qmq⟩:=Qvq.opened;subst hq3
  have HRD:Hi (∀(j:Nat) d,all[j]?=some d→QA=some ⟨qb,0,none⟩∧∀W,Q0 nob W1 W→W.cell? ⟨qb,j*2,none⟩=some (.string d.name)∧W.cell? ⟨qb,j*2+1,none⟩=some (.int .i64 d.kind)):=Hh fun j d hd=>by
   have hp:0<all.length:=by have:=(Gs hd).1;omega
   exact⟨(hQA hp).1,fun W hW=>⟨hW.cell (fun h=>h) (Q5p Qmq hd).1,hW.cell (fun h=>h) (Q5p Qmq hd).2⟩⟩
  have HX:=Hh hX;have HK3:=Hh (HK0.o.trans hk3);clear Qvq hk3 hQA Qmq hX s0 s1 s2 g0 g1 g2 hr0 hAL;go_wp2_with fail;go_loopw [4,5] (fun i _ wr=>∃j:Nat,j≤all.length∧i=.int .i64 j∧Hi (Q0 nob W1 wr∧X=Q81 ((all.take j).map (·.name)) (all.drop j))) (fun i _ _=>all.length-(intOf i).toNat)
  case atStart=>exact⟨0,Nat.zero_le _,rfl,Hh ⟨Kr _ _,HX.o⟩⟩
  case round =>
   obtain⟨j,hj,rfl,HR⟩:=hrel;obtain⟨wo,rfl⟩:∃wo:World,wo=wr:=⟨_,rfl⟩
   by_cases hlt:j<all.length
   ·obtain⟨d,hd⟩:=Q3 hlt
    obtain⟨rfl,hrd⟩:=HRD.o j d hd;obtain⟨e0,e1⟩:=hrd wo HR.o.1;have HE:=Hh hrd;have HXJ:Hi (X=(Q0k d.name&&(Q9 d.kind 1 4&&(!Z9 d.name ((all.take j).map (·.name))&&Q81 ((all.take j).map (·.name)++[d.name]) (all.drop (j+1)))))):=Hh (by rw[HR.o.2,Qd hd];rfl)
    have hsz:=HNA.o d (Mg hd);have HD:=Hh hd;have HKR:=Hh HR.o.1;clear hrd hd HR;cases hnb:Q0k d.name with
    |false =>
     have HNB:=Hh hnb;have HXX:Hi (X=false):=Hh (by rw[HXJ.o,hnb];rfl);clear hnb;go_wp2_with (first|(go_at_call 104;refine (Q34 d.name _ hsz).mono ?_;rw[HNB.o];rintro e w2 ⟨rfl,hk2⟩;have HK2:=Hh (HKR.o.trans hk2);obtain⟨f0,f1⟩:=HE.o w2 HK2.o;clear hk2)|(go_at_call 105;refine (Zh _ _ _ _).mono ?_;rw[HWI.o];rintro e w3 ⟨rfl,rfl⟩));go_returns;rw[HXX.o];exact⟨rfl,HK3.o.trans (HK2.o.trans (by apply_rules[Ka,Kd,Kn,Kr]))⟩
    |true =>
    have HNB:=Hh hnb;rw[hnb] at HXJ;clear hnb;cases hwi:Q9 d.kind 1 4 with
    |false =>
     have HWI:=Hh hwi;have HXX:Hi (X=false):=Hh (by rw[HXJ.o,hwi];rfl);clear hwi;go_wp2_with (first|(go_at_call 104;refine (Q34 d.name _ hsz).mono ?_;rw[HNB.o];rintro e w2 ⟨rfl,hk2⟩;have HK2:=Hh (HKR.o.trans hk2);obtain⟨f0,f1⟩:=HE.o w2 HK2.o;clear hk2)|(go_at_call 105;refine (Zh _ _ _ _).mono ?_;rw[HWI.o];rintro e w3 ⟨rfl,rfl⟩));go_returns;rw[HXX.o];exact⟨rfl,HK3.o.trans (HK2.o.trans (by apply_rules[Ka,Kd,Kn,Kr]))⟩
    |true =>
     have HWI:=Hh hwi;rw[hwi] at HXJ;clear hwi;go_wp2_with (first|(go_at_call 104;refine (Q34 d.name _ hsz).mono ?_;rw[HNB.o];rintro e w2 ⟨rfl,hk2⟩;have HK2:=Hh (HKR.o.trans hk2);obtain⟨f0,f1⟩:=HE.o w2 HK2.o;clear hk2)|(go_at_call 105;refine (Zh _ _ _ _).mono ?_;rw[HWI.o];rintro e w3 ⟨rfl,rfl⟩));go_loopw [5] (fun k wr=>∃m:Nat,m≤j∧k=.int .i64 m∧Hi (Q0 nob W1 wr∧∀(q:Nat) x,q<m→all[q]?=some x→x.name≠d.name)) (fun k _=>j-(intOf k).toNat)
     case atStart=>exact⟨0,Nat.zero_le _,rfl,Hh ⟨HK2.o,fun q x hq=>absurd hq (by omega)⟩⟩
     case round =>
      obtain⟨m,hm,rfl,HRI⟩:=hrel;obtain⟨wp,rfl⟩:∃wp:World,wp=wr:=⟨_,rfl⟩;obtain⟨f0,f1⟩:=HE.o wp HRI.o.1
      by_cases hlm:m<j
      ·obtain⟨x,hx⟩:=Q3 (xs:=all) (j:=m) (by omega)
       obtain⟨k0,k1⟩:=(HRD.o m x hx).2 wp HRI.o.1;have HXM:=Hh hx;have hmj:(m:Int)<(j:Int):=by omega
       have hma:(m:Int)<(all.length:Int):=by omega
       have hja:(j:Int)<(all.length:Int):=by omega
       clear hx;cases ty:(x.name.toList==d.name.toList) with
       |true =>
        have HTY:=Hh ty
        have HXX:Hi (X=false):=Hh (by
         rw[HXJ.o,(X6 d.name _).2 (List.mem_map.2 ⟨x,Mg (i:=m) (by rw[List.getElem?_take_of_lt hlm];exact HXM.o),Q0c ty⟩)];rfl)
        go_upto_region 12 with fail
        go_quiet (fail);go_wp2_with fail;go_returns;rw[HXX.o];exact⟨rfl,HK3.o.trans (HRI.o.1.trans (by apply_rules[Ka,Kd,Kn,Kr]))⟩
       |false =>
        have HTY:=Hh ty;go_upto_region 12 with fail
        go_quiet (fail);go_wp2_with fail;go_round
        case rel=>exact⟨m+1,by omega,by go_num,Hh ⟨HRI.o.1.trans (by apply_rules[Ka,Kd,Kn,Kr]),fun q y hq hy=>by
         by_cases e:q=m
         ·subst e;rw[HXM.o] at hy;cases hy;exact Q1s HTY.o
         ·exact HRI.o.2 q y (by omega) hy⟩⟩
        case measure=>simp[intOf];omega
      ·have hmj:¬ (m:Int)<(j:Int):=by omega
       have HXX:Hi (X=Q81 ((all.take (j+1)).map (·.name)) (all.drop (j+1))):=Hh (by
        have hno:Z9 d.name ((all.take j).map (·.name))=false:=by
         cases hh:Z9 d.name ((all.take j).map (·.name)) with
         |false=>rfl
         |true =>
          obtain⟨x,hx,he⟩:=List.mem_map.1 ((X6 _ _).1 hh);obtain⟨q,hq⟩:=List.mem_iff_getElem?.1 hx;have hqj:q<j:=by have:=(Gs hq).1;rw[List.length_take] at this;omega
          rw[List.getElem?_take_of_lt hqj] at hq;exact absurd he (HRI.o.2 q x (by omega) hq)
        rw[HXJ.o,hno,Jy HD.o,List.map_append];rfl)
       go_wp2_with fail;go_round
       case rel=>exact⟨j+1,by omega,by go_num,Hh ⟨HRI.o.1,HXX.o⟩⟩
       case measure=>simp[intOf];omega
   ·have hjn:¬ (j:Int)<(all.length:Int):=by omega
    have HXX:Hi (X=true):=Hh (by rw[HR.o.2,Dn (by omega)];rfl);go_wp2_with fail;go_returns;rw[HXX.o];exact⟨rfl,HK3.o.trans (HR.o.1.trans (by apply_rules[Ka,Kd,Kn,Kr]))⟩
end
def Y3 (k:Int):Int :=
 if 1≤k∧k≤11 then 1 else if 12≤k∧k≤26 then 2 else if k=27 then 3 else if k=29 then 4 else if k=30 then 5 else if k=31 then 6 else if k=32 then 7 else if k=28 then 8 else if k=33∨k=34 then 9 else 0
theorem Q8u (k:Int) (w:World):Calls prog 133 #[.int .i64 k] w fun e w'=>e=.returned (.int .i64 (Y3 k))∧w=w':=by
 by_cases a1:1≤k∧k≤11
 ·have e:Y3 k=1:=by unfold Y3;rw[Ps a1]
  rw[e];have t1:decide (1≤k)=true:=Dt a1.1;have t2:decide (k≥1)=true:=Dt a1.1;have t3:decide (k≤11)=true:=Dt a1.2;clear a1 e;go_enter func133,ntmps133;go_wp2_with fail;go_ret;exact⟨rfl,rfl⟩
 by_cases a2:12≤k∧k≤26
 ·have e:Y3 k=2:=by unfold Y3;rw[Ng a1,Ps a2]
  rw[e];have t1:decide (1≤k)=true:=Dt (by omega);have t2:decide (k≥1)=true:=Dt (by omega);have t3:decide (k≤11)=false:=Df (by omega);have t4:decide (12≤k)=true:=Dt a2.1;have t5:decide (k≥12)=true:=Dt a2.1;have t6:decide (k≤26)=true:=Dt a2.2;clear a1 a2 e;go_enter func133,ntmps133;go_wp2_with fail;go_ret;exact⟨rfl,rfl⟩
 by_cases h27:k=27
 ·subst h27;go_enter func133,ntmps133;go_wp2_with fail;go_ret;exact⟨rfl,rfl⟩
 by_cases h28:k=28
 ·subst h28;go_enter func133,ntmps133;go_wp2_with fail;go_ret;exact⟨rfl,rfl⟩
 by_cases h29:k=29
 ·subst h29;go_enter func133,ntmps133;go_wp2_with fail;go_ret;exact⟨rfl,rfl⟩
 by_cases h30:k=30
 ·subst h30;go_enter func133,ntmps133;go_wp2_with fail;go_ret;exact⟨rfl,rfl⟩
 by_cases h31:k=31
 ·subst h31;go_enter func133,ntmps133;go_wp2_with fail;go_ret;exact⟨rfl,rfl⟩
 by_cases h32:k=32
 ·subst h32;go_enter func133,ntmps133;go_wp2_with fail;go_ret;exact⟨rfl,rfl⟩
 by_cases h33:k=33
 ·subst h33;go_enter func133,ntmps133;go_wp2_with fail;go_ret;exact⟨rfl,rfl⟩
 by_cases h34:k=34
 ·subst h34;go_enter func133,ntmps133;go_wp2_with fail;go_ret;exact⟨rfl,rfl⟩
 have e:Y3 k=0:=by unfold Y3;rw[Ng a1,Ng a2,Ng h27,Ng h29,Ng h30,Ng h31,Ng h32,Ng h28,Ng (by omega)]
 rw[e];have e27:(k==27)=false:=by simpa using h27
 have e28:(k==28)=false:=by simpa using h28
 have e29:(k==29)=false:=by simpa using h29
 have e30:(k==30)=false:=by simpa using h30
 have e31:(k==31)=false:=by simpa using h31
 have e32:(k==32)=false:=by simpa using h32
 have e33:(k==33)=false:=by simpa using h33
 have e34:(k==34)=false:=by simpa using h34
 by_cases h1:1≤k
 ·have t1:decide (1≤k)=true:=Dt h1
  have t2:decide (k≥1)=true:=Dt h1;have t3:decide (k≤11)=false:=Df (by omega);have t4:decide (12≤k)=true:=Dt (by omega);have t5:decide (k≥12)=true:=Dt (by omega);have t6:decide (k≤26)=false:=Df (by omega);clear a1 a2 e h1 h27 h28 h29 h30 h31 h32 h33 h34;go_enter func133,ntmps133;go_wp2_with fail;go_ret;exact⟨rfl,rfl⟩
 ·have t1:decide (1≤k)=false:=Df h1
  have t2:decide (k≥1)=false:=Df h1;have t4:decide (12≤k)=false:=Df (by omega);have t5:decide (k≥12)=false:=Df (by omega);clear a1 a2 e h1 h27 h28 h29 h30 h31 h32 h33 h34;go_enter func133,ntmps133;go_wp2_with fail;go_ret;exact⟨rfl,rfl⟩
def Qbb:List Int:=[4,5,6,7,12,13,14,15,19,20,23,24,28,31,32,33,34]
theorem Qmb {n:Qc} (h:n.kind∈Qbb):Yq n=Q0k n.text:=by
 unfold Yq;simp[Qbb] at h;rw[Ng (by omega),Ps (by omega)]
theorem Qmd {n:Qc} (h:n.kind=2):Yq n=Q1n n.text:=by unfold Yq;rw[Ps h]
theorem Qmg {n:Qc} (h:n.kind∉Qbb) (h2:n.kind≠2):Yq n=n.text.toList.isEmpty:=by
 unfold Yq;simp[Qbb] at h;rw[Ng h2,Ng (by omega)]
end Go.Proofs.YtkgkafjachjafaaGreat
