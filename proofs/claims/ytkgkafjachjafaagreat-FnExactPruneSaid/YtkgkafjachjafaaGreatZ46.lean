/- Part 46 of x_holds; no condition. -/
import Derived.Test.YtkgkafjachjafaaGreatZ44
import Derived.Test.YtkgkafjachjafaaGreatZ45
set_option linter.unusedVariables false
set_option maxHeartbeats 4000000
set_option maxRecDepth 100000
open Go Go.RowKit
namespace Go.Proofs.YtkgkafjachjafaaGreat
open Tryz
theorem Qgn {t:Q1} (hK:Qj t) (hsz:t.nodes.length≤4000) (hsm:Jz t):∀f,Qj0 t f:=by
 intro f
 induction f with
 |zero=>intro S w nv tv ov l i lo _ _ _ hi hif;have:=hi.1;omega
 |succ f ih=>exact Qd1 hK hsz hsm ih
def Q5a (r:Reg) (t:Q1) (name:ByteArray) (k:Int):Bool:=Z9 (t.at k).text (name::Xw r t name)
def Q6z (t:Q1) (l:List Int):List Qc×List Int:=Jg (Xd t t.nodes.length) l [] []
def Q2k (r:Reg) (t:Q1) (name:ByteArray):Q1×Bool :=
 if Q85 r t name=true then (⟨(Q6z t (t.tops.filter (Q5a r t name))).1,(Q6z t (t.tops.filter (Q5a r t name))).2⟩,true) else (⟨[],[]⟩,false)
def Q1l (l:List Qc):Prop:=∀n∈l,n.kids.length≤1048576
theorem Qbu {F:Int→List Qc→List Qc} (hF:∀k out,Q1l out→Q1l (F k out)):∀(l:List Int) (out:List Qc) (ks:List Int),Q1l out→Q1l (Jg F l out ks).1∧(Jg F l out ks).2.length=ks.length+l.length:=by
 intro l
 induction l with
 |nil=>intro out ks h;exact⟨h,rfl⟩
 |cons k l ih =>
  intro out ks h;obtain⟨h1,h2⟩:=ih (F k out) (ks++[((F k out).length:Int)-1]) (hF k out h);refine⟨h1,?_⟩
  show (Jg F l (F k out) _).2.length=_
  rw[h2,List.length_append,List.length_cons];simp;omega
theorem Qj6 {t:Q1} (hsm:Jz t):∀(f:Nat) (i:Int) (out:List Qc),Q1l out→Q1l (Xd t f i out):=by
 intro f
 induction f with
 |zero=>intro i out h;exact h
 |succ f ih =>
  intro i out h;obtain⟨h1,h2⟩:=Qbu ih (t.at i).kids out [] h;intro n hn;rcases List.mem_append.1 hn with hn|hn
  ·exact h1 n hn
  ·simp at hn;subst hn
   show (Jg (Xd t f) (t.at i).kids out []).2.length≤_
   rw[h2];have:=hsm i;simp;omega
structure Qm0 (t:Q1) (X:List Qc×List Int) (kp:Int→Bool) (wq:World) (ob:Nat) (wr:World) (j:Nat) (l':List (Qc×Value)) (ks:List Int) (nvv tvv:Value) (lo':Int):Prop where
 b:Blk wr ob [nvv,tvv] 33
 o:Jc (fun q=>wq.heap.size≤q∧¬ own tvv q) wr nvv l'
 k:Qf (Q7 wq.heap.size) 3 wr tvv (Q4 ks)
 kq:Q0 (fun q=>q=ob∨wq.heap.size≤q) wq wr
 x:X=Jg (Xd t t.nodes.length) ((t.tops.drop j).filter kp) (l'.map Prod.fst) ks
 c:Zo t lo' (t.tops.drop j) t.nodes.length
 bd:(l'.length:Int)≤lo'
 kl:ks.length≤j
 f:Q1l (l'.map Prod.fst)
theorem Qfe (w:World):Z3 w (.agg #[.slice none 0 0,.slice none 0 0]) ⟨[],[]⟩:=⟨_,_,rfl,⟨none,0,0,0,rfl,by simp,by simp,by simp,by simp⟩,⟨none,0,0,0,rfl,by simp,by simp,by simp,by simp⟩⟩
theorem Qf0 (r:Reg) (t:Q1) (name:ByteArray) (rv tv:Value) (w:World) (hr:Q1d w rv r) (ht:Z3 w tv t) (hN:Q1k r) (hX:Q04 t) (hSm:Jz t) (hC:(Zf r t).1=0→Q0d t) :
  Calls prog 8 #[rv,tv,.string name] w fun e w'=>∃v,e=.returned (.tuple #[v,.bool (Q2k r t name).2])∧Z3 w' v (Q2k r t name).1∧Q0 nob w w':=by
 have hr':=hr;have ht':=ht;obtain⟨v0,v1,v2,rfl,d0,d1,d2⟩:=hr;obtain⟨u0,u1,rfl,e0,e1⟩:=ht;have Qn5:∀(u:Value) (ds:List Zw),Z1 w u ds→∃A c,u=.slice A ds.length c:=fun u ds ⟨A,b,o,c,h,_⟩=>⟨A,c,h⟩
 obtain⟨A0,c0,rfl⟩:=Qn5 _ _ d0;obtain⟨A1,c1,rfl⟩:=Qn5 _ _ d1;obtain⟨A2,c2,rfl⟩:=Qn5 _ _ d2;obtain⟨A3,nb,no,c3,rfl,_,_,hnA,hnc⟩:=e0;obtain⟨A4,tb,tq,c4,rfl,_,_,htA,htc⟩:=e1;have hk0:Q0 nob w (((w.alloc (.cells #[.slice A0 r.comps.length c0,.slice A1 r.ress.length c1,.slice A2 r.evts.length c2] 38)).alloc (.cells #[.slice A3 t.nodes.length c3,.slice A4 t.tops.length c4] 33)).alloc (.cells #[.slice none 0 0,.slice none 0 0] 33)):=(((Kr _ _).alloc _).alloc _).alloc _;have hb1:Blk (((w.alloc (.cells #[.slice A0 r.comps.length c0,.slice A1 r.ress.length c1,.slice A2 r.evts.length c2] 38)).alloc (.cells #[.slice A3 t.nodes.length c3,.slice A4 t.tops.length c4] 33)).alloc (.cells #[.slice none 0 0,.slice none 0 0] 33)) w.heap.size [.slice A0 r.comps.length c0,.slice A1 r.ress.length c1,.slice A2 r.evts.length c2] 38:=((Blk.new_of _ _ _ rfl).alloc _).alloc _;have hb2:Blk (((w.alloc (.cells #[.slice A0 r.comps.length c0,.slice A1 r.ress.length c1,.slice A2 r.evts.length c2] 38)).alloc (.cells #[.slice A3 t.nodes.length c3,.slice A4 t.tops.length c4] 33)).alloc (.cells #[.slice none 0 0,.slice none 0 0] 33)) (w.heap.size+1) [.slice A3 t.nodes.length c3,.slice A4 t.tops.length c4] 33:=(Blk.new_of _ _ _ (by simp)).alloc _;have hb3:Blk (((w.alloc (.cells #[.slice A0 r.comps.length c0,.slice A1 r.ress.length c1,.slice A2 r.evts.length c2] 38)).alloc (.cells #[.slice A3 t.nodes.length c3,.slice A4 t.tops.length c4] 33)).alloc (.cells #[.slice none 0 0,.slice none 0 0] 33)) (w.heap.size+1+1) [.slice none 0 0,.slice none 0 0] 33:=Blk.new_of _ _ _ (by simp);have hst:(((w.alloc (.cells #[.slice A0 r.comps.length c0,.slice A1 r.ress.length c1,.slice A2 r.evts.length c2] 38)).alloc (.cells #[.slice A3 t.nodes.length c3,.slice A4 t.tops.length c4] 33)).alloc (.cells #[.slice none 0 0,.slice none 0 0] 33)).heap.size=w.heap.size+3:=by simp
 generalize hW0:((w.alloc (.cells #[.slice A0 r.comps.length c0,.slice A1 r.ress.length c1,.slice A2 r.evts.length c2] 38)).alloc (.cells #[.slice A3 t.nodes.length c3,.slice A4 t.tops.length c4] 33)).alloc (.cells #[.slice none 0 0,.slice none 0 0] 33)=W0 at hk0 hb1 hb2 hb3 hst;obtain⟨S,hSd⟩:∃S:Nat→Prop,S=Q7 W0.heap.size:=⟨_,rfl⟩;have hS1:∀k,S k↔w.heap.size+3≤k:=fun k=>by rw[hSd,← hst];rfl
 have Qn8:∀W,Q0 S W0 W→Zu w W:=fun W hW=>((hk0.ofNob _).trans hW).oldS fun k hk h=>by have:=(hS1 k).1 h;omega
 have HS:Hi (∀W,Q0 S W0 W→((W.cell? ⟨w.heap.size,0,none⟩=some (.slice A0 r.comps.length c0)∧W.cell? ⟨w.heap.size,1,none⟩=some (.slice A1 r.ress.length c1)∧W.cell? ⟨w.heap.size,2,none⟩=some (.slice A2 r.evts.length c2))∧W.cell? ⟨w.heap.size+1,0,none⟩=some (.slice A3 t.nodes.length c3)∧W.cell? ⟨w.heap.size+1,1,none⟩=some (.slice A4 t.tops.length c4))∧Blk W (w.heap.size+1+1) [.slice none 0 0,.slice none 0 0] 33):=Hh fun W hW=>by
  have n0:¬ S w.heap.size:=fun h=>by have:=(hS1 _).1 h;omega
  have n1:¬ S (w.heap.size+1):=fun h=>by have:=(hS1 _).1 h;omega
  have n2:¬ S (w.heap.size+1+1):=fun h=>by have:=(hS1 _).1 h;omega
  exact⟨⟨⟨hW.cell n0 (hb1.cell 0 _ rfl),hW.cell n0 (hb1.cell 1 _ rfl),hW.cell n0 (hb1.cell 2 _ rfl)⟩,hW.cell n1 (hb2.cell 0 _ rfl),hW.cell n1 (hb2.cell 1 _ rfl)⟩,hb3.kept hW n2⟩
 have HR0:Hi (∀W,Q0 S W0 W→Q1d W (.agg #[.slice A0 r.comps.length c0,.slice A1 r.ress.length c1,.slice A2 r.evts.length c2]) r∧Z3 W (.agg #[.slice A3 t.nodes.length c3,.slice A4 t.tops.length c4]) t):=Hh fun W hW=>⟨hr'.old (Qn8 W hW),ht'.old (Qn8 W hW)⟩
 have HTB:Hi (∀W,Q0 S W0 W→TB S W t (.slice A3 t.nodes.length c3) (.slice A4 t.tops.length c4)):=Hh fun W hW=>⟨fun W' hW'=>((HR0.o W' (hW.trans hW')).2:Z3 _ _ _).elim fun a h=>h.elim fun b h=>by obtain⟨e,h1,_⟩:=h;cases e;exact h1,fun W' hW'=>((HR0.o W' (hW.trans hW')).2:Z3 _ _ _).elim fun a h=>h.elim fun b h=>by obtain⟨e,_,h1⟩:=h;cases e;exact h1⟩
 have HTC:Hi (∀j x,t.tops[j]?=some x→∀W,Q0 S W0 W→W.cell? ⟨tb,tq+j,none⟩=some (.int .i64 x)):=Hh fun j x hx W hW=>(Qn8 W hW).cell (htc j x hx)
 have HNC:Hi (∀j x,t.nodes[j]?=some x→∀W,Q0 S W0 W→W.cell? ⟨nb,no+j*4+1,none⟩=some (.string x.text)):=Hh fun j x hx W hW=>by
  obtain⟨kv,_,h1,_⟩:=hnc j x hx;exact (Qn8 W hW).cell h1
 obtain⟨⟨⟨g0,g1,g2⟩,g3,g4⟩,_⟩:=HS.o W0 (Kr _ _);have HK0:=Hh hk0;have HNM:=Hh hN;have HXT:=Hh hX;have HSM:=Hh hSm;have HSD:=Hh hS1;have HTA:=Hh htA;have HNA:=Hh hnA;have HC:=Hh hC;clear hb1 hb2 hb3 hk0 d0 d1 d2 hr' ht' Qn5 hN hX hSm hS1 Qn8 htA hnA htc hnc hC hSd;cases hck:((Zf r t).1 != 0) with
 |true =>
  have HX:Hi (Q2k r t name=(⟨[],[]⟩,false)):=Hh (by unfold Q2k Q85;rw[Ng (by simp at hck;simp[hck])]);rw[HX.o];go_enter func8,ntmps8;go_wp2_with (go_at_call 30;refine (Q18 r t _ _ _ (HR0.o _ (Kr _ _)).1 (HR0.o _ (Kr _ _)).2 HNM.o HXT.o HSM.o).mono ?_;rintro e w1 ⟨rfl,hk1⟩;have HK1:=Hh (hk1.ofNob S);clear hk1;obtain⟨⟨⟨g0',g1',g2'⟩,g3',g4'⟩,hb1⟩:=HS.o _ HK1.o;have b10:=hb1.cell 0 _ rfl;have b11:=hb1.cell 1 _ rfl;have f10:=hb1.free 0;have hB1:=hb1.set 0 (.slice none 0 0);have f11:=hB1.free 1;have e10:=hB1.cell 0 _ rfl;have e11:=hB1.cell 1 _ rfl;have hB2:=hB1.set 1 (.slice none 0 0);have e12:=hB2.cell 0 _ rfl;have e13:=hB2.cell 1 _ rfl;clear hb1 hB1 hB2)
  refine bodyPost_ret (v:=.tuple #[.agg #[.slice none 0 0,.slice none 0 0],.bool false]) (by simp[results,results8,go_sem,e10,e13]) rfl ⟨_,rfl,Qfe _,Q0.setCell (Q0.setCell (HK0.o.then_ HK1.o (fun k h=>.inr (by have:=(HSD.o k).1 h;omega))) (p:=⟨w.heap.size+1+1,0,none⟩) (.inr (by show w.heap.size≤w.heap.size+1+1;omega)) _) (p:=⟨w.heap.size+1+1,1,none⟩) (.inr (by show w.heap.size≤w.heap.size+1+1;omega)) _⟩
 |false =>
 have hc0:(Zf r t).1=0:=by simpa using hck
 cases htp:decide (Xx t name<0) with
 |true =>
  have HX:Hi (Q2k r t name=(⟨[],[]⟩,false)):=Hh (by unfold Q2k Q85;rw[Ng (by simp at htp;simp;omega)]);rw[HX.o];go_enter func8,ntmps8;go_wp2_with (first|(go_at_call 30;refine (Q18 r t _ _ _ (HR0.o _ (Kr _ _)).1 (HR0.o _ (Kr _ _)).2 HNM.o HXT.o HSM.o).mono ?_;rintro e w1 ⟨rfl,hk1⟩;have HK1:=Hh (hk1.ofNob S);clear hk1;obtain⟨⟨⟨g0',g1',g2'⟩,g3',g4'⟩,hb1⟩:=HS.o _ HK1.o;have b10:=hb1.cell 0 _ rfl;have b11:=hb1.cell 1 _ rfl;have f10:=hb1.free 0;have hB1:=hb1.set 0 (.slice none 0 0);have f11:=hB1.free 1;have e10:=hB1.cell 0 _ rfl;have e11:=hB1.cell 1 _ rfl;have hB2:=hB1.set 1 (.slice none 0 0);have e12:=hB2.cell 0 _ rfl;have e13:=hB2.cell 1 _ rfl;clear hb1 hB1 hB2)|(go_at_call 31;refine (Q0g t name _ _ (HR0.o _ HK1.o).2 HXT.o HSM.o).mono ?_;rintro e w2 ⟨rfl,hk2⟩;have HK2:=Hh (HK1.o.trans (hk2.ofNob S));clear hk2;obtain⟨⟨⟨g0'',g1'',g2''⟩,g3'',g4''⟩,hb2⟩:=HS.o _ HK2.o;have b20:=hb2.cell 0 _ rfl;have b21:=hb2.cell 1 _ rfl;have f20:=hb2.free 0;have hB3:=hb2.set 0 (.slice none 0 0);have f21:=hB3.free 1;have e20:=hB3.cell 0 _ rfl;have e21:=hB3.cell 1 _ rfl;have hB4:=hB3.set 1 (.slice none 0 0);have e22:=hB4.cell 0 _ rfl;have e23:=hB4.cell 1 _ rfl;clear hb2 hB3 hB4))
  refine bodyPost_ret (v:=.tuple #[.agg #[.slice none 0 0,.slice none 0 0],.bool false]) (by simp[results,results8,go_sem,e20,e23]) rfl ⟨_,rfl,Qfe _,Q0.setCell (Q0.setCell (HK0.o.then_ HK2.o (fun k h=>.inr (by have:=(HSD.o k).1 h;omega))) (p:=⟨w.heap.size+1+1,0,none⟩) (.inr (by show w.heap.size≤w.heap.size+1+1;omega)) _) (p:=⟨w.heap.size+1+1,1,none⟩) (.inr (by show w.heap.size≤w.heap.size+1+1;omega)) _⟩
 |false =>
 have Qol:0≤Xx t name:=by simpa using htp
 have htb:Yi t=true:=by
  unfold Xx at Qol;split at Qol
  ·assumption
  ·omega
 obtain⟨q1,q2,q3,q4,q5,q6⟩:=Xc htb;have HTK:Hi (∀i∈t.tops,InT t i):=Hh fun i hi=>(q4 i hi).1
 have HCH:=Hh q6;have HCP:=Hh (Qgn q2 q3 HSM.o t.nodes.length)
 have hrl:(Xw r t name).length≤4000:=by
  unfold Xw;split
  ·refine Nat.le_trans (List.length_filter_le _ _) ?_
   rw[List.length_map];exact q5
  ·exact Nat.zero_le _
 have HX:Hi (Q2k r t name=(⟨(Q6z t (t.tops.filter (Q5a r t name))).1,(Q6z t (t.tops.filter (Q5a r t name))).2⟩,true)):=Hh (by unfold Q2k Q85;rw[Ps (by simp[hc0,Qol])]);have HKP:Hi (∀k,Q5a r t name k=Z9 (t.at k).text (name::Xw r t name)):=Hh fun k=>rfl
 rw[HX.o];generalize Q5a r t name=kp at HKP ⊢;have HRE:=Hh fun W hW=>Qbf r t name _ _ W (HR0.o W hW).1 (HR0.o W hW).2 HNM.o HXT.o HSM.o HC.o
 generalize Xw r t name=RL at *;obtain⟨X,hX⟩:∃X,X=Q6z t (t.tops.filter kp):=⟨_,rfl⟩;rw[← hX];have HXX:Hi (X=Jg (Xd t t.nodes.length) ((t.tops.drop 0).filter kp) [] []):=Hh hX;clear hX q1 q2 q4 q6 HX hc0 htb;go_enter func8,ntmps8;go_upto_region 5 with (first|(go_at_call 30;refine (Q18 r t _ _ _ (HR0.o _ (Kr _ _)).1 (HR0.o _ (Kr _ _)).2 HNM.o HXT.o HSM.o).mono ?_;rintro e w1 ⟨rfl,hk1⟩;have HK1:=Hh (hk1.ofNob S);clear hk1;obtain⟨⟨⟨g0',g1',g2'⟩,g3',g4'⟩,hb1⟩:=HS.o _ HK1.o;have b10:=hb1.cell 0 _ rfl;have b11:=hb1.cell 1 _ rfl;have f10:=hb1.free 0;have hB1:=hb1.set 0 (.slice none 0 0);have f11:=hB1.free 1;have e10:=hB1.cell 0 _ rfl;have e11:=hB1.cell 1 _ rfl;have hB2:=hB1.set 1 (.slice none 0 0);have e12:=hB2.cell 0 _ rfl;have e13:=hB2.cell 1 _ rfl;clear hb1 hB1 hB2)|(go_at_call 31;refine (Q0g t name _ _ (HR0.o _ HK1.o).2 HXT.o HSM.o).mono ?_;rintro e w2 ⟨rfl,hk2⟩;have HK2:=Hh (HK1.o.trans (hk2.ofNob S));clear hk2;have HKA:=Hh (HK2.o.trans (((Kr S w2).alloc (.cells #[.string name] 9))));obtain⟨⟨⟨g0a,g1a,g2a⟩,g3a,g4a⟩,_⟩:=HS.o _ HKA.o;obtain⟨⟨⟨g0'',g1'',g2''⟩,g3'',g4''⟩,_⟩:=HS.o _ HK2.o)|(go_at_call 32;refine (HRE.o _ HKA.o).mono ?_;rintro e w3 ⟨v3,rfl,ho3,hk3⟩;obtain⟨RA,rb,rc,rfl,_,_,hRA,Qpv⟩:=ho3.opened;rw[Qk] at hRA ⊢;have HRA:=Hh hRA;have HRC:=Hh Qpv;have HK3:=Hh hk3;clear ho3 hk3 Qpv hRA)|(at_builtin;refine Q1h rfl (fun K hK=>?_);refine Q1b S _ _ 66 9 (.string ByteArray.empty) 16 rfl underlying66 (by kernel_rfl) rfl (.slice (some ⟨w2.heap.size,0,none⟩) 1 1) (strs [name]) (strs RL) rfl RA rb 0 RL.length rc rfl (Qk _).symm (fun h=>(HRA.o (by rw[Qk] at h;exact h)).1) (fun j u hj=>by rw[Nat.zero_add];exact (HRC.o j u hj).1) (Q2h _) ((Qf.lit S 9 w2 (strs [name]) ((HSD.o _).2 (by have:=HK0.o.size;have:=HK2.o.size;omega)) (by simp[strs]) rfl rfl rfl).nobk HK3.o) (fun k hk=>(HSD.o k).2 (by have:=HK0.o.size;have:=HKA.o.size;have:=HK3.o.size;omega)) (by rw[Qk,Qk];simp;omega) (by rw[Qk,Qk];simp;omega) ?_;intro v4 w4 ho4 hk4;refine hK _ _ ?_;clear hK;have HO4:Hi (Qf S 9 w4 v4 (strs (name::RL))):=Hh (by rw[Q87] at ho4;exact ho4);have HK4:Hi (Q0 S W0 w4):=Hh ((HKA.o.trans (HK3.o.ofNob _)).trans (hk4.mono fun k _ h=>by simp[Value.ownBlock] at h;exact (HSD.o k).2 (by have:=HK0.o.size;have:=HK2.o.size;omega)));clear ho4 hk4))
 go_cut [11] (fun s11 wx=>∃ob:Nat,s11=.pointer (some ⟨ob,0,none⟩)∧Blk wx ob [.slice none 0 0,.slice none 0 0] 33∧Q0 nob w4 wx∧w4.heap.size≤ob)
 case first =>
  go_wp2_with fail;go_meet;exact⟨_,rfl,Blk.new _ [_,_] _,(Kr _ _).alloc _,Nat.le_refl _⟩
 case rest =>
 obtain⟨ob,rfl,hob,hkx,hbl⟩:=hcut;obtain⟨wq,rfl⟩:∃wq:World,wq=wc:=⟨_,rfl⟩;have hw4:w4.heap.size≤wq.heap.size:=hkx.size;have Qzq:=hob.lt;have h04:W0.heap.size≤w4.heap.size:=HK4.o.size;have h00:=HK0.o.size;have HPS:Hi (∀W,Q0 (fun q=>q=ob∨wq.heap.size≤q) wq W→Q0 S W0 W):=Hh fun W hW=>(HK4.o.trans (hkx.ofNob _)).trans (hW.mono fun q _ h=>(HSD.o q).2 (by omega))
 have HLS:Hi (∀W,Q0 (fun q=>q=ob∨wq.heap.size≤q) wq W→Yv W v4 (name::RL)):=Hh fun W hW=>((HO4.o.nobk hkx).kept hW (fun q hq h=>by have:=HO4.o.lt q hq;omega)).strs (by simp;omega)
 have HFR:Hi (∀q,wq.heap.size≤q→S q):=Hh fun q hq=>(HSD.o q).2 (by omega)
 have HI0:Hi (Qm0 t X kp wq ob wq 0 [] [] (.slice none 0 0) (.slice none 0 0) 0):=Hh ⟨hob,Jc.nil _ _,Qf.nil _ _ _,Kr _ _,HXX.o,HCH.o,by simp,by simp,by intro n hn;simp at hn⟩;have hzz:=hst;clear hob hkx g0 g1 g2 g3 g4 g0' g1' g2' g3' g4' g0'' g1'' g2'' g3'' g4'' g0a g1a g2a g3a g4a b10 b11 f10 f11 e10 e11 e12 e13;go_wp2_with fail;go_loopw [12] (fun k wr=>∃(j:Nat) (l':List (Qc×Value)) (ks:List Int) (nvv tvv:Value) (lo':Int),j≤t.tops.length∧k=.int .i64 j∧Hi (Qm0 t X kp wq ob wr j l' ks nvv tvv lo')) (fun k _=>t.tops.length-(intOf k).toNat)
 case atStart=>exact⟨0,[],[],_,_,0,Nat.zero_le _,rfl,HI0⟩
 case round =>
  obtain⟨j,l',ks,nvv,tvv,lo',hj,rfl,HR⟩:=hrel;obtain⟨wo,rfl⟩:∃wo:World,wo=wr:=⟨_,rfl⟩;have HKQ:=Hh (HPS.o _ HR.o.kq);obtain⟨⟨_,q3,q4⟩,hrb⟩:=HS.o _ HKQ.o;have hwo:wq.heap.size≤wo.heap.size:=HR.o.kq.size;have x0:=HR.o.b.cell 0 _ rfl;have x1:=HR.o.b.cell 1 _ rfl
  by_cases hlt:j<t.tops.length
  ·obtain⟨y,hy⟩:=Q3 hlt
   obtain⟨mk,rfl,hn⟩:=Q1.at_lt (HTK.o y (Mg hy));have hmk:(mk:Int)<t.nodes.length:=(HTK.o _ (Mg hy)).2;have HTI:=Hh (HTK.o _ (Mg hy));have Qvz:=Hh (HTC.o j _ hy);have z0:=HTC.o j _ hy _ HKQ.o;have z1:=HNC.o mk _ hn _ HKQ.o;obtain rfl:=HTA.o (by omega);obtain rfl:=HNA.o (by omega);have hjn:(j:Int)<(t.tops.length:Int):=by omega
   have hch:=HR.o.c;rw[Qd hy] at hch;obtain⟨Qpu,Qqf⟩:=hch;have Qxz:=Qqf.le;have Qy0:=Qpu.le;have hbd:=HR.o.bd;have hkl:=HR.o.kl;have HKK:=Hh (HKP.o (mk:Int));have HDR:=Hh (Qd hy);have HSP:=Hh Qpu;have HC2:=Hh Qqf;have HKR:=Hh HR.o.kq;generalize t.at (mk:Int)=nd at *;clear hy hn Qpu Qqf;cases hb:Z9 nd.text (name::RL) with
   |false =>
    have HXJ:Hi (X=Jg (Xd t t.nodes.length) ((t.tops.drop (j+1)).filter kp) (l'.map Prod.fst) ks):=Hh (by rw[HR.o.x,HDR.o,List.filter_cons_of_neg (by rw[HKK.o,hb];simp)]);go_upto_region 9 with fail
    have HIN:=Hh fun n=>Ji (wo.drewN n) v4 (name::RL) nd.text (HLS.o _ (HKR.o.drewN n));rw[hb] at HIN;go_quiet (exact Xi (HIN.o _))
    go_wp2_with fail;go_roundw
    case rel=>exact⟨j+1,l',ks,nvv,tvv,mk+1,by omega,by go_num,Hh ⟨HR.o.b.drewN _,HR.o.o.nobk (by repeat' first|exact Kr _ _|apply Ka|apply Kd|apply Kn),HR.o.k.drewN _,HKR.o.drewN _,HXJ.o,HC2.o,by omega,by omega,HR.o.f⟩⟩
    case measure=>simp[intOf];omega
   |true =>
    have HXJ:Hi (X=Jg (Xd t t.nodes.length) ((t.tops.drop (j+1)).filter kp) (Xd t t.nodes.length mk (l'.map Prod.fst)) (ks++[((Xd t t.nodes.length mk (l'.map Prod.fst)).length:Int)-1])):=Hh (by rw[HR.o.x,HDR.o,List.filter_cons_of_pos (by rw[HKK.o,hb])];rfl);have Qnf:Hi (((Xd t t.nodes.length mk (l'.map Prod.fst)).length:Int)=l'.length+(mk+1-lo')):=Hh (by rw[Qcd t.nodes.length mk lo' _ HSP.o (by omega),List.length_map]);have HFW:Hi (Q1l (Xd t t.nodes.length mk (l'.map Prod.fst))):=Hh (Qj6 HSM.o _ _ _ HR.o.f);go_upto_region 9 with fail
    have HIN:=Hh fun n=>Ji (wo.drewN n) v4 (name::RL) nd.text (HLS.o _ (HKR.o.drewN n));rw[hb] at HIN;go_quiet (exact Xi (HIN.o _))
    have HP:Hi (Qm0 t X kp wq ob (wo.drewN nq) j l' ks nvv tvv lo'):=Hh ⟨HR.o.b.drewN _,HR.o.o.nobk (by repeat' first|exact Kr _ _|apply Ka|apply Kd|apply Kn),HR.o.k.drewN _,HKR.o.drewN _,HR.o.x,HR.o.c,HR.o.bd,HR.o.kl,HR.o.f⟩;clear HR HKR HKQ HIN x0 x1 q3 q4 hrb z0 z1;generalize wo.drewN nq=wp at *;have HKQ:=Hh (HPS.o _ HP.o.kq);have x0:=HP.o.b.cell 0 _ rfl;have z0:=Qvz.o _ HKQ.o;have hs3:∀W,Q0 (fun q=>q=ob∨wq.heap.size≤q) wp W→W.cell? ⟨w.heap.size+1,0,none⟩=some (.slice (some ⟨nb,no,none⟩) t.nodes.length c3):=fun W hW=>(HS.o W (HPS.o W (HP.o.kq.trans hW))).1.2.1
    have hs4:∀W,Q0 (fun q=>q=ob∨wq.heap.size≤q) wp W→W.cell? ⟨w.heap.size+1,1,none⟩=some (.slice (some ⟨tb,tq,none⟩) t.tops.length c4):=fun W hW=>(HS.o W (HPS.o W (HP.o.kq.trans hW))).1.2.2
    have hs5:∀W,Q0 (fun q=>q=ob∨wq.heap.size≤q) wp W→W.cell? ⟨tb,tq+j,none⟩=some (.int .i64 (mk:Int)):=fun W hW=>Qvz.o W (HPS.o W (HP.o.kq.trans hW))
    have Qmm:Hi (∀W,Q0 nob wp W→Calls prog 34 #[.agg #[.slice (some ⟨nb,no,none⟩) t.nodes.length c3,.slice (some ⟨tb,tq,none⟩) t.tops.length c4],.int .i64 mk,nvv,.bool false] W fun e w'=>∃v l2,e=.returned v∧Jc (fun q=>wq.heap.size≤q∧¬ own tvv q) w' v l2∧l2.map Prod.fst=Xd t t.nodes.length mk (l'.map Prod.fst)∧Q0 (own nvv) W w'∧Q2j W nvv v):=Hh fun W hW =>
     HCP.o (fun q=>wq.heap.size≤q∧¬ own tvv q) W _ _ nvv l' mk lo' ((HTB.o W (HKQ.o.trans (hW.ofNob _))).mono fun q _ h=>HFR.o q h.1) (HP.o.o.nobk hW) (fun q hq=>⟨by have:=hW.size;have:=HP.o.kq.size;omega,fun e=>by have:=HP.o.k.lt q e;have:=hW.size;omega⟩) HTI.o hmk HSP.o (by omega)
    have hr0:Q0 (fun q=>q=ob∨wq.heap.size≤q) wp wp:=Kr _ _;go_upto_region 10 with fail
    refine wp_region_held_drew (S:=(fun W=>Q0 (fun q=>q=ob∨wq.heap.size≤q) wp W)) (by kernel_rfl) ?_ (fun hHeld=>?_)
    ·(try dsimp only);((first|assumption|exact hr0.drew|exact Kd ‹_›|exact Q0.setCell (p:=⟨ob,0,none⟩) hkx (Or.inl (Or.inl rfl)) _))
    refine wpAnyH_take (i:=0) (oi:={dst:=some 55,op:=Go.Op.load 33 (Go.Operand.tmp 4),type:=33,pos:= "l23_trees.go:119",after:=#[],guard:=none}) (v:=?_) rfl (by kernel_rfl) (by kernel_rfl) (by kernel_rfl) (fun _ _ _ h=>h) (Or.inl ⟨by rfl,?_⟩) ‹_› ?_;rotate_left;· (intro w hSw;(try dsimp only at hSw);go_simp;try (with_reducible rfl))
    try simp only[Act.put,List.setIfInBounds_toArray,List.set_cons_zero,List.set_cons_succ]
    refine wpAnyH_take (i:=1) (oi:={dst:=some 56,op:=Go.Op.fieldAddr 33 (Go.Operand.tmp 4) 1,type:=0,pos:= "l23_trees.go:119",after:=#[],guard:=none}) (v:=?_) rfl (by kernel_rfl) (by kernel_rfl) (by kernel_rfl) (fun _ _ _ h=>h) (Or.inl ⟨by rfl,?_⟩) ‹_› ?_;rotate_left;· (intro w hSw;(try dsimp only at hSw);go_simp;try (with_reducible rfl))
    try simp only[Act.put,List.setIfInBounds_toArray,List.set_cons_zero,List.set_cons_succ]
    refine wpAnyH_take (i:=2) (oi:={dst:=some 57,op:=Go.Op.load 26 (Go.Operand.tmp 56),type:=26,pos:= "l23_trees.go:119",after:=#[{on:=1,ground:=Go.Ground.data}],guard:=none}) (v:=?_) rfl (by kernel_rfl) (by kernel_rfl) (by kernel_rfl) (fun _ _ _ h=>h) (Or.inl ⟨by rfl,?_⟩) ‹_› ?_;rotate_left;· (intro w hSw;(try dsimp only at hSw);go_simp;try (with_reducible rfl))
    try simp only[Act.put,List.setIfInBounds_toArray,List.set_cons_zero,List.set_cons_succ]
    refine wpAnyH_take (i:=3) (oi:={dst:=some 58,op:=Go.Op.move (Go.Operand.tmp 12),type:=3,pos:= "l23_trees.go:119",after:=#[],guard:=none}) (v:=?_) rfl (by kernel_rfl) (by kernel_rfl) (by kernel_rfl) (fun _ _ _ h=>h) (Or.inl ⟨by rfl,?_⟩) ‹_› ?_;rotate_left;· (intro w hSw;(try dsimp only at hSw);go_simp;try (with_reducible rfl))
    try simp only[Act.put,List.setIfInBounds_toArray,List.set_cons_zero,List.set_cons_succ]
    refine wpAnyH_take (i:=4) (oi:={dst:=some 59,op:=Go.Op.indexAddr 26 (Go.Operand.tmp 57) (Go.Operand.tmp 58),type:=0,pos:= "l23_trees.go:119",after:=#[{on:=2,ground:=Go.Ground.data},{on:=3,ground:=Go.Ground.data}],guard:=none}) (v:=?_) rfl (by kernel_rfl) (by kernel_rfl) (by kernel_rfl) (fun _ _ _ h=>h) (Or.inl ⟨by rfl,?_⟩) ‹_› ?_;rotate_left;· (intro w hSw;(try dsimp only at hSw);go_simp;try (with_reducible rfl))
    try simp only[Act.put,List.setIfInBounds_toArray,List.set_cons_zero,List.set_cons_succ]
    refine wpAnyH_take (i:=5) (oi:={dst:=some 60,op:=Go.Op.load 3 (Go.Operand.tmp 59),type:=3,pos:= "l23_trees.go:119",after:=#[{on:=4,ground:=Go.Ground.data}],guard:=none}) (v:=?_) rfl (by kernel_rfl) (by kernel_rfl) (by kernel_rfl) (fun _ _ _ h=>h) (Or.inl ⟨by rfl,?_⟩) ‹_› ?_;rotate_left;· (intro w hSw;(try dsimp only at hSw);go_simp;try (with_reducible rfl))
    try simp only[Act.put,List.setIfInBounds_toArray,List.set_cons_zero,List.set_cons_succ]
    refine wpAnyH_take (i:=6) (oi:={dst:=some 61,op:=Go.Op.fieldAddr 33 (Go.Operand.tmp 11) 0,type:=0,pos:= "l23_trees.go:119",after:=#[],guard:=none}) (v:=?_) rfl (by kernel_rfl) (by kernel_rfl) (by kernel_rfl) (fun _ _ _ h=>h) (Or.inl ⟨by rfl,?_⟩) ‹_› ?_;rotate_left;· (intro w hSw;(try dsimp only at hSw);go_simp;try (with_reducible rfl))
    try simp only[Act.put,List.setIfInBounds_toArray,List.set_cons_zero,List.set_cons_succ]
    refine wpAnyH_ready (rs:=[7]) (by kernel_rfl) (by simp) ?_
    refine AllReadyH.cons (o:={dst:=some 62,op:=Go.Op.load 31 (Go.Operand.tmp 61),type:=31,pos:= "l23_trees.go:119",after:=#[{on:=6,ground:=Go.Ground.data}],guard:=none}) rfl (fun K hK=>?_) AllReadyH.nil
    go_simp
    refine hK.out _ _ ?_ (fun hHeld=>?_)
    ·(try dsimp only);((first|assumption|exact hr0.drew|exact Kd ‹_›|exact Q0.setCell (p:=⟨ob,0,none⟩) hkx (Or.inl (Or.inl rfl)) _))
    clear hK;refine wpAnyH_ready (rs:=[8]) (by kernel_rfl) (by simp) ?_
    refine AllReadyH.cons (o:={dst:=some 63,op:=Go.Op.call {callee:=Go.Callee.value (Go.Operand.func 34),args:=#[Go.Operand.tmp 55,Go.Operand.tmp 60,Go.Operand.tmp 62,Go.Operand.const (Go.Value.bool false)],argTypes:=#[33,3,31,4]},type:=31,pos:= "l23_trees.go:119",after:=#[{on:=0,ground:=Go.Ground.data},{on:=5,ground:=Go.Ground.data},{on:=7,ground:=Go.Ground.data}],guard:=none}) rfl (fun K hK=>?_) AllReadyH.nil
    go_simp
    (go_at_call 34;refine (Qmm.o _ (Kr _ _).drew).mono ?_;rintro e w5 ⟨v2,l2,rfl,ho2,hm2,hk2,hg2⟩;obtain⟨vA2,vc2,hv2⟩:=ho2.row.len;subst hv2;have HO2:=Hh ho2;have HM2:=Hh hm2;have HK2':=Hh hk2.undrew;have hkx:=hr0.drew.trans (hk2.mono fun q _ h=>Or.inr (HP.o.o.row.2 q h).1);have hB5:=HP.o.b.drew.kept hk2 (fun e=>by have:=(HP.o.o.row.2 ob e).1;omega);have HB5:=Hh hB5;have y50:=hB5.cell 0 _ rfl;have f50:=hB5.free 0;clear ho2 hm2 hk2 hg2 hB5;dsimp only)
    refine hK.out _ _ ?_ (fun hHeld=>?_)
    ·(try dsimp only);((first|assumption|exact hr0.drew|exact Kd ‹_›|exact Q0.setCell (p:=⟨ob,0,none⟩) hkx (Or.inl (Or.inl rfl)) _))
    clear hK
    refine wpAnyH_take (i:=9) (oi:={dst:=some 64,op:=Go.Op.fieldAddr 33 (Go.Operand.tmp 11) 0,type:=0,pos:= "l23_trees.go:119",after:=#[{on:=0,ground:=Go.Ground.phase},{on:=1,ground:=Go.Ground.phase},{on:=2,ground:=Go.Ground.phase},{on:=3,ground:=Go.Ground.phase},{on:=4,ground:=Go.Ground.phase},{on:=5,ground:=Go.Ground.phase},{on:=6,ground:=Go.Ground.phase},{on:=7,ground:=Go.Ground.phase},{on:=8,ground:=Go.Ground.phase}],guard:=none}) (v:=?_) rfl (by kernel_rfl) (by kernel_rfl) (by kernel_rfl) (fun _ _ _ h=>h) (Or.inl ⟨by rfl,?_⟩) ‹_› ?_;rotate_left;· (intro w hSw;(try dsimp only at hSw);go_simp;try (with_reducible rfl))
    try simp only[Act.put,List.setIfInBounds_toArray,List.set_cons_zero,List.set_cons_succ]
    refine wpAnyH_ready (rs:=[10]) (by kernel_rfl) (by simp) ?_
    refine AllReadyH.cons (o:={dst:=none,op:=Go.Op.store 31 (Go.Operand.tmp 64) (Go.Operand.tmp 63),type:=0,pos:= "l23_trees.go:119",after:=#[{on:=9,ground:=Go.Ground.data},{on:=8,ground:=Go.Ground.data},{on:=8,ground:=Go.Ground.chain},{on:=0,ground:=Go.Ground.phase},{on:=1,ground:=Go.Ground.phase},{on:=2,ground:=Go.Ground.phase},{on:=3,ground:=Go.Ground.phase},{on:=4,ground:=Go.Ground.phase},{on:=5,ground:=Go.Ground.phase},{on:=6,ground:=Go.Ground.phase},{on:=7,ground:=Go.Ground.phase},{on:=8,ground:=Go.Ground.phase}],guard:=none}) rfl (fun K hK=>?_) AllReadyH.nil
    go_simp
    refine hK.out _ _ ?_ (fun hHeld=>?_)
    ·(try dsimp only);((first|assumption|exact hr0.drew|exact Kd ‹_›|exact Q0.setCell (p:=⟨ob,0,none⟩) hkx (Or.inl (Or.inl rfl)) _))
    clear hK;refine wpAnyH_done (by kernel_rfl) ?_ _;clear hs3 hs4 hs5 x0 z0;have hl2:(l2.length:Int)=l'.length+(mk+1-lo'):=by rw[← Qnf.o,← HM2.o,List.length_map]
    obtain⟨m,hm⟩:∃m,l2.length=m+1:=⟨l2.length-1,by omega⟩;have hw1:IntKind.i64.wrap ((l2.length:Int)-1)=(m:Int):=by rw[IntKind.wrap_i64];omega
    have hw2:wrap64 ((l2.length:Int)-1)=(m:Int):=by unfold wrap64;omega
    have Qng:wp.heap.size≤w5.heap.size:=HK2'.o.size;have hwp:wq.heap.size≤wp.heap.size:=HP.o.kq.size;have htv:∀q,own tvv q→wq.heap.size≤q∧q<wp.heap.size:=fun q e=>⟨HP.o.k.2 q e,HP.o.k.lt q e⟩
    have HTV:=Hh htv;obtain⟨tA,tcap,Qw0⟩:=HP.o.k.len;rw[Q5] at Qw0;have HB6:Hi (Blk (w5.setCell ⟨ob,0,none⟩ (.slice vA2 l2.length vc2)) ob [.slice vA2 l2.length vc2,tvv] 33):=Hh (HB5.o.set 0 _);have HK6:Hi (Qf (Q7 wq.heap.size) 3 (w5.setCell ⟨ob,0,none⟩ (.slice vA2 l2.length vc2)) tvv (Q4 ks)):=Hh (((HP.o.k.kept HK2'.o (fun q hq e=>(HP.o.o.row.2 q e).2 hq))).other (fun e=>by have:=(htv _ e).1;simp at this;omega) _);have HS6:Hi ((w5.setCell ⟨ob,0,none⟩ (.slice vA2 l2.length vc2)).heap.size=w5.heap.size):=Hh (by simp[World.setCell]);have HO6:Hi (Jc (fun q=>(wq.heap.size≤q∧¬ own tvv q)∧q<w5.heap.size) (w5.setCell ⟨ob,0,none⟩ (.slice vA2 l2.length vc2)) (.slice vA2 l2.length vc2) l2):=Hh ((HO2.o.mono fun q hq h=>⟨h,hq⟩).kept ((Kr (fun q=>q=ob) _).setCell (p:=⟨ob,0,none⟩) (.inl rfl) _) (fun q h e=>by have e:q=ob:=e;omega));have Qy6:Hi (Q0 (fun q=>q=ob∨wq.heap.size≤q) wq (w5.setCell ⟨ob,0,none⟩ (.slice vA2 l2.length vc2))):=Hh ((HP.o.kq.trans hkx).setCell (p:=⟨ob,0,none⟩) (.inl (.inl rfl)) _);subst Qw0;generalize hw6:w5.setCell ⟨ob,0,none⟩ (.slice vA2 l2.length vc2)=w6 at *;have y60:=HB6.o.cell 0 _ rfl;have y61:=HB6.o.cell 1 _ rfl;have HKL:Hi (ks.length≤j):=Hh hkl;have hjt:j≤4000:=by omega
    clear htv y50 f50 hkx hw6;go_wp2_with (at_builtin;refine J1 (Q7 wq.heap.size) rfl _ _ 26 3 (.int .i64 0) 8 rfl underlying26 (by kernel_rfl) rfl (.slice tA ks.length tcap) (Q4 ks) (.int .i64 (m:Int)) rfl rfl (by simp) rfl HK6.o (fun q hq=>by show wq.heap.size≤q;have:=HS6.o;omega) (by rw[Q5];omega) (by rw[Q5];omega) ?_;intro nv1 w7 ho7 hk7 Qqg;obtain⟨nA7,nc7,hn7⟩:=ho7.len;rw[List.length_append,Q5,List.length_singleton] at hn7;subst hn7;have HO7:=Hh ho7;have HK7:=Hh hk7;have HA7:=Hh Qqg;have HB7:=Hh (HB6.o.kept hk7 (fun e=>by have:=(HTV.o ob e).1;omega));have y71:=HB7.o.cell 1 _ rfl;have f71:=HB7.o.free 1;clear ho7 hk7 Qqg);go_roundw
    case measure=>simp[intOf];omega
    case rel =>
     refine⟨j+1,l2,ks++[(m:Int)],.slice vA2 l2.length vc2,_,mk+1,by omega,by go_num,Hh ⟨HB7.o.set 1 _,?_,?_,?_,?_,HC2.o,by omega,by simp;omega,by rw[HM2.o];exact HFW.o⟩⟩
     ·have h7:∀q,own (.slice nA7 (ks.length+1) nc7) q→own (.slice tA ks.length tcap) q∨w5.heap.size≤q:=fun q e=>by
       rcases HA7.o with h|⟨b,h,hb⟩
       ·exact .inl (h.symm.trans e)
       ·have e:(Value.slice nA7 (ks.length+1) nc7).ownBlock=some q:=e
        rw[h] at e;cases e;exact .inr (by have:=HS6.o;omega)
      exact ((HO6.o.kept HK7.o fun q h e=>h.1.2 e).kept ((Kr (fun q=>q=ob) _).setCell (p:=⟨ob,1,none⟩) (.inl rfl) _) (fun q h e=>by have e:q=ob:=e;omega)).mono fun q _ h=>⟨h.1.1,fun e=>(h7 q e).elim h.1.2 (fun h8=>by omega)⟩
     ·have h:=HO7.o.other (p:=⟨ob,1,none⟩) (fun e=>by have:wq.heap.size≤ob:=HO7.o.2 ob e;omega) (.slice nA7 (ks.length+1) nc7)
      rw[Xe] at h;exact h
     ·exact (Qy6.o.trans (HK7.o.mono fun q _ h=>Or.inr (HTV.o q h).1)).setCell (p:=⟨ob,1,none⟩) (.inl (.inl rfl)) _
     ·rw[HXJ.o,HM2.o]
      have e:((Xd t t.nodes.length mk (l'.map Prod.fst)).length:Int)-1=m:=by rw[Qnf.o];omega
      rw[e]
  ·have hjn:¬ (j:Int)<(t.tops.length:Int):=by omega
   have HXE:Hi (X=(l'.map Prod.fst,ks)):=Hh (by rw[HR.o.x,Dn (by omega)];rfl);obtain⟨nA,ncap,hnv⟩:=HR.o.o.row.len;obtain⟨tA,tcap,htv⟩:=HR.o.k.len;rw[Q5] at htv;subst hnv;subst htv;have f0:=hrb.free 0;have hB1:=hrb.set 0 (.slice nA l'.length ncap);have e0:=hB1.cell 0 _ rfl;have f1:=hB1.free 1;have e1:=hB1.cell 1 _ rfl;have hB2:=hB1.set 1 (.slice tA ks.length tcap);have e3:=hB2.cell 1 _ rfl;have c0:=hrb.cell 0 _ rfl;have c1:=hrb.cell 1 _ rfl;have hbd:=HR.o.bd;have hc9:=HR.o.c.le;have hkl:=HR.o.kl;clear hB1 hB2 hrb;go_wp2_with fail;have hkk:∀(W:World) (u v:Value),Q0 (fun q=>q=w.heap.size+1+1) W ((W.setCell ⟨w.heap.size+1+1,0,none⟩ u).setCell ⟨w.heap.size+1+1,1,none⟩ v):=fun W u v=>((Kr (fun q=>q=w.heap.size+1+1) W).setCell (p:=⟨w.heap.size+1+1,0,none⟩) (.inl rfl) _).setCell (p:=⟨w.heap.size+1+1,1,none⟩) (.inl rfl) _
   refine bodyPost_ret (v:=.tuple #[.agg #[.slice nA l'.length ncap,.slice tA ks.length tcap],.bool true]) (by simp[results,results8,go_sem,e0,e3]) rfl ⟨_,rfl,⟨_,_,rfl,?_,?_⟩,?_⟩
   ·rw[HXE.o]
    exact (HR.o.o.kept (hkk _ (.slice nA l'.length ncap) (.slice tA ks.length tcap)) fun q h e=>by have e:q=w.heap.size+1+1:=e;omega).nodes (by omega) (fun p hp=>by have:=HR.o.f p.1 (List.mem_map.2 ⟨p,hp,rfl⟩);omega)
   ·rw[HXE.o]
    exact (HR.o.k.kept (hkk _ (.slice nA l'.length ncap) (.slice tA ks.length tcap)) fun q h e=>by have h:=HR.o.k.2 q h;have h:wq.heap.size≤q:=h;have e:q=w.heap.size+1+1:=e;omega).ints (by omega)
   ·exact (HK0.o.then_ HKQ.o (fun k h=>.inr (by have:=(HSD.o k).1 h;omega))).then_ (hkk _ _ _) (fun q e=>.inr (by omega))
end Go.Proofs.YtkgkafjachjafaaGreat
