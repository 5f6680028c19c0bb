/- Part 45 of x_holds; no condition. -/
import Derived.Test.YtkgkafjachjafaaGreatZ42
set_option linter.unusedVariables false
set_option maxHeartbeats 4000000
set_option maxRecDepth 100000
open Go Go.RowKit
namespace Go.Proofs.YtkgkafjachjafaaGreat
open Tryz
theorem Q98 {t:Q1} (hK:Qj t) (hsz:t.nodes.length≤4000) (hsm:Jz t):∀f,Qew t f:=by
 intro f
 induction f with
 |zero=>intro S w nv tv lv l i _ _ _ hi hif;have:=hi.1;omega
 |succ f ih=>exact Qbe hK hsz hsm ih
def Q3m (t:Q1) (x:ByteArray):List ByteArray:=Zs t t.nodes.length (Q2 t t.tops x)
def Qah (t:Q1) (name:ByteArray):List ByteArray:=Jh (Q3m t) name 4000
def Q0d (t:Q1):Prop:=∀i,InT t i→(t.at i).kind=7→0≤Q2 t t.tops (t.at i).text
def Q85 (r:Reg) (t:Q1) (name:ByteArray):Bool:=decide ((Zf r t).1=0)&&decide (0≤Xx t name)
def Xw (r:Reg) (t:Q1) (name:ByteArray):List ByteArray:=if Q85 r t name=true then (t.tops.map fun k=>(t.at k).text).filter (fun s=>Z9 s (Qah t name)) else []
theorem Zl {t:Q1} {l:List Int} {x:ByteArray} (h:0≤Q2 t l x):Q2 t l x∈l∧(t.at (Q2 t l x)).text=x:=by
 induction l with
 |nil=>simp[Q2] at h
 |cons k ks ih =>
  simp only[Q2] at h ⊢;split
  ·rename_i e;exact⟨by simp,e⟩
  ·rename_i e
   rw[Ng e] at h;have:=ih h;exact⟨by simp[this.1],this.2⟩
theorem Q6d {t:Q1} (hK:Qj t):∀(f:Nat) (i:Int),InT t i→∀x∈Zs t f i,∃j,InT t j∧(t.at j).kind=7∧(t.at j).text=x:=by
 intro f
 induction f with
 |zero=>intro i _ x hx;cases hx
 |succ f ih =>
  intro i hi x hx;simp only[Zs,List.mem_append,List.mem_flatMap] at hx;rcases hx with hx|⟨k,hk,hx⟩
  ·split at hx
   ·rename_i h;simp at hx;exact⟨i,hi,h,hx.symm⟩
   ·cases hx
  ·exact ih k (hi.kid hK hk) x hx
theorem Q5k {t:Q1} (hK:Qj t) (hC:Q0d t) (htk:∀i∈t.tops,InT t i) {name:ByteArray} (hn:0≤Q2 t t.tops name) (j:Nat):∀x∈Jh (Q3m t) name j,0≤Q2 t t.tops x∧Q5o t x:=by
 have key:∀y,0≤Q2 t t.tops y→∀x∈Q3m t y,0≤Q2 t t.tops x∧Q5o t x:=fun y hy x hx=>by
  obtain⟨i,hi,h7,rfl⟩:=Q6d hK _ _ (htk _ (Zl hy).1) x hx;exact⟨hC i hi h7,i,hi,rfl⟩
 exact Q21 (Q3m t) name (P:=fun x=>0≤Q2 t t.tops x∧Q5o t x) (key name hn) (fun y hy=>key y hy.1) j
theorem Q6f {t:Q1} (hK:Qj t) (hC:Q0d t) (htk:∀i∈t.tops,InT t i) {name:ByteArray} (hn:0≤Q2 t t.tops name) (j:Nat):Q0z t (Jh (Q3m t) name j) :=
 ⟨Q65 _ _ _,fun x hx=>(Q5k hK hC htk hn j x hx).2⟩
theorem Qch {t:Q1} {name:ByteArray} {j:Nat} (h:Q0z t (Jh (Q3m t) name j)) (hsz:t.nodes.length≤4000) (hj:(Jh (Q3m t) name j).length≤j) (hj2:j≤(Jh (Q3m t) name j).length):Qah t name=Jh (Q3m t) name j :=
 Q9b (Q3m t) name hj 4000 (by have:=h.few;omega)
theorem Qbf (r:Reg) (t:Q1) (name:ByteArray) (rv tv:Value) (w:World) (hr:Q1d w rv r) (ht:Z3 w tv t) (hN:Q1k r) (hX:Q04 t) (hSm:Jz t) (hC:(Zf r t).1=0→Q0d t) :
  Calls prog 32 #[rv,tv,.string name] w fun e w'=>∃v,e=.returned v∧Qf (Q7 w.heap.size) 9 w' v (strs (Xw r t name))∧Q0 nob w w':=by
 have hr':=hr;have ht':=ht;obtain⟨v0,v1,v2,rfl,d0,d1,d2⟩:=hr;obtain⟨u0,u1,rfl,e0,e1⟩:=ht;have Qn5:∀(u:Value) (ds:List Zw),Z1 w u ds→∃A c,u=.slice A ds.length c:=fun u ds ⟨A,b,o,c,h,_⟩=>⟨A,c,h⟩
 obtain⟨A0,c0,rfl⟩:=Qn5 _ _ d0;obtain⟨A1,c1,rfl⟩:=Qn5 _ _ d1;obtain⟨A2,c2,rfl⟩:=Qn5 _ _ d2;obtain⟨A3,nb,no,c3,rfl,_,_,hnA,hnc⟩:=e0;obtain⟨A4,tb,tq,c4,rfl,_,_,htA,htc⟩:=e1;have hk0:Q0 nob w ((w.alloc (.cells #[.slice A0 r.comps.length c0,.slice A1 r.ress.length c1,.slice A2 r.evts.length c2] 38)).alloc (.cells #[.slice A3 t.nodes.length c3,.slice A4 t.tops.length c4] 33)):=((Kr _ _).alloc _).alloc _;have hb1:Blk ((w.alloc (.cells #[.slice A0 r.comps.length c0,.slice A1 r.ress.length c1,.slice A2 r.evts.length c2] 38)).alloc (.cells #[.slice A3 t.nodes.length c3,.slice A4 t.tops.length c4] 33)) w.heap.size [.slice A0 r.comps.length c0,.slice A1 r.ress.length c1,.slice A2 r.evts.length c2] 38:=(Blk.new_of _ _ _ rfl).alloc _;have hb2:Blk ((w.alloc (.cells #[.slice A0 r.comps.length c0,.slice A1 r.ress.length c1,.slice A2 r.evts.length c2] 38)).alloc (.cells #[.slice A3 t.nodes.length c3,.slice A4 t.tops.length c4] 33)) (w.heap.size+1) [.slice A3 t.nodes.length c3,.slice A4 t.tops.length c4] 33:=Blk.new_of _ _ _ (by simp);have hst:((w.alloc (.cells #[.slice A0 r.comps.length c0,.slice A1 r.ress.length c1,.slice A2 r.evts.length c2] 38)).alloc (.cells #[.slice A3 t.nodes.length c3,.slice A4 t.tops.length c4] 33)).heap.size=w.heap.size+2:=by simp
 generalize hW0:(w.alloc (.cells #[.slice A0 r.comps.length c0,.slice A1 r.ress.length c1,.slice A2 r.evts.length c2] 38)).alloc (.cells #[.slice A3 t.nodes.length c3,.slice A4 t.tops.length c4] 33)=W0 at hk0 hb1 hb2 hst;obtain⟨S,hSd⟩:∃S:Nat→Prop,S=Q7 W0.heap.size:=⟨_,rfl⟩;have hS1:∀k,S k↔w.heap.size+2≤k:=fun k=>by rw[hSd,← hst];rfl
 have Qn8:∀W,Q0 S W0 W→Zu w W:=fun W hW=>((hk0.ofNob _).trans hW).oldS fun k hk h=>by have:=(hS1 k).1 h;omega
 have HS:Hi (∀W,Q0 S W0 W→(W.cell? ⟨w.heap.size,0,none⟩=some (.slice A0 r.comps.length c0)∧W.cell? ⟨w.heap.size,1,none⟩=some (.slice A1 r.ress.length c1)∧W.cell? ⟨w.heap.size,2,none⟩=some (.slice A2 r.evts.length c2))∧W.cell? ⟨w.heap.size+1,0,none⟩=some (.slice A3 t.nodes.length c3)∧W.cell? ⟨w.heap.size+1,1,none⟩=some (.slice A4 t.tops.length c4)):=Hh fun W hW=>by
  have n0:¬ S w.heap.size:=fun h=>by have:=(hS1 _).1 h;omega
  have n1:¬ S (w.heap.size+1):=fun h=>by have:=(hS1 _).1 h;omega
  exact⟨⟨hW.cell n0 (hb1.cell 0 _ rfl),hW.cell n0 (hb1.cell 1 _ rfl),hW.cell n0 (hb1.cell 2 _ rfl)⟩,hW.cell n1 (hb2.cell 0 _ rfl),hW.cell n1 (hb2.cell 1 _ rfl)⟩
 have HR0:Hi (∀W,Q0 S W0 W→Q1d W (.agg #[.slice A0 r.comps.length c0,.slice A1 r.ress.length c1,.slice A2 r.evts.length c2]) r∧Z3 W (.agg #[.slice A3 t.nodes.length c3,.slice A4 t.tops.length c4]) t):=Hh fun W hW=>⟨hr'.old (Qn8 W hW),ht'.old (Qn8 W hW)⟩
 have HTB:Hi (∀W,Q0 S W0 W→TB S W t (.slice A3 t.nodes.length c3) (.slice A4 t.tops.length c4)):=Hh fun W hW=>⟨fun W' hW'=>((HR0.o W' (hW.trans hW')).2:Z3 _ _ _).elim fun a h=>h.elim fun b h=>by obtain⟨e,h1,_⟩:=h;cases e;exact h1,fun W' hW'=>((HR0.o W' (hW.trans hW')).2:Z3 _ _ _).elim fun a h=>h.elim fun b h=>by obtain⟨e,_,h1⟩:=h;cases e;exact h1⟩
 have HTC:Hi (∀j x,t.tops[j]?=some x→∀W,Q0 S W0 W→W.cell? ⟨tb,tq+j,none⟩=some (.int .i64 x)):=Hh fun j x hx W hW=>(Qn8 W hW).cell (htc j x hx)
 have HNC:Hi (∀j x,t.nodes[j]?=some x→∀W,Q0 S W0 W→W.cell? ⟨nb,no+j*4+1,none⟩=some (.string x.text)):=Hh fun j x hx W hW=>by
  obtain⟨kv,_,h1,_⟩:=hnc j x hx;exact (Qn8 W hW).cell h1
 obtain⟨⟨g0,g1,g2⟩,g3,g4⟩:=HS.o W0 (Kr _ _);have HK0:=Hh hk0;have HNM:=Hh hN;have HXT:=Hh hX;have HSM:=Hh hSm;have HSD:=Hh hS1;have HTA:=Hh htA;have HNA:=Hh hnA;have HC:=Hh hC;clear hb1 hb2 hk0 d0 d1 d2 hr' ht' Qn5 hN hX hSm hS1 Qn8 htA hnA htc hnc hC hSd;cases hck:((Zf r t).1 != 0) with
 |true =>
  have HX:Hi (Xw r t name=[]):=Hh (by unfold Xw Q85;rw[Ng (by simp at hck;simp[hck])]);go_enter func32,ntmps32;go_wp2_with (go_at_call 30;refine (Q18 r t _ _ _ (HR0.o _ (Kr _ _)).1 (HR0.o _ (Kr _ _)).2 HNM.o HXT.o HSM.o).mono ?_;rintro e w1 ⟨rfl,hk1⟩;have HK1:=Hh (hk1.ofNob S);clear hk1;obtain⟨⟨g0',g1',g2'⟩,g3',g4'⟩:=HS.o _ HK1.o);go_returns;rw[HX.o];exact⟨_,rfl,Qf.nil _ _ _,HK0.o.then_ HK1.o (fun k h=>.inr (by have:=(HSD.o k).1 h;omega))⟩
 |false =>
 have hc0:(Zf r t).1=0:=by simpa using hck
 cases htp:decide (Xx t name<0) with
 |true =>
  have HX:Hi (Xw r t name=[]):=Hh (by unfold Xw Q85;rw[Ng (by simp at htp;simp;omega)]);go_enter func32,ntmps32;go_wp2_with (first|(go_at_call 30;refine (Q18 r t _ _ _ (HR0.o _ (Kr _ _)).1 (HR0.o _ (Kr _ _)).2 HNM.o HXT.o HSM.o).mono ?_;rintro e w1 ⟨rfl,hk1⟩;have HK1:=Hh (hk1.ofNob S);clear hk1;obtain⟨⟨g0',g1',g2'⟩,g3',g4'⟩:=HS.o _ HK1.o)|(go_at_call 31;refine (Q0g t name _ _ (HR0.o _ HK1.o).2 HXT.o HSM.o).mono ?_;rintro e w2 ⟨rfl,hk2⟩;have HK2:=Hh (HK1.o.trans (hk2.ofNob S));clear hk2;obtain⟨⟨g0'',g1'',g2''⟩,g3'',g4''⟩:=HS.o _ HK2.o));go_returns;rw[HX.o];exact⟨_,rfl,Qf.nil _ _ _,HK0.o.then_ HK2.o (fun k h=>.inr (by have:=(HSD.o k).1 h;omega))⟩
 |false =>
 have Qol:0≤Xx t name:=by simpa using htp
 have htb:Yi t=true:=by
  unfold Xx at Qol;split at Qol
  ·assumption
  ·omega
 have hte:∀x,Xx t x=Q2 t t.tops x:=fun x=>by unfold Xx;rw[Ps htb]
 obtain⟨p1,p2,p3,p4,p5,_⟩:=Xc htb;have htk:∀i∈t.tops,InT t i:=fun i hi=>(p4 i hi).1
 have htn:0≤Q2 t t.tops name:=by rw[← hte];exact Qol
 have Qn3:=Hh (fun j=>Q5k p2 (HC.o hc0) htk htn j);have HNI:=Hh (fun j=>Q6f p2 (HC.o hc0) htk htn j);have HX:Hi (Xw r t name=(t.tops.map fun k=>(t.at k).text).filter (fun s=>Z9 s (Qah t name))):=Hh (by unfold Xw Q85;rw[Ps (by simp[hc0,Qol])]);have HTE:=Hh hte;have HTK:=Hh htk;have Qvu:=Hh p2;have HTI:Hi (InT t (Xx t name)):=Hh (by rw[hte];exact htk _ (Zl htn).1);have Qzn:=HTI.o;generalize Xw r t name=XX at HX ⊢;clear p1 p2 p4 htk htn hte htb hc0;go_enter func32,ntmps32;go_upto_region 4 with (first|(go_at_call 30;refine (Q18 r t _ _ _ (HR0.o _ (Kr _ _)).1 (HR0.o _ (Kr _ _)).2 HNM.o HXT.o HSM.o).mono ?_;rintro e w1 ⟨rfl,hk1⟩;have HK1:=Hh (hk1.ofNob S);clear hk1;obtain⟨⟨g0',g1',g2'⟩,g3',g4'⟩:=HS.o _ HK1.o)|(go_at_call 31;refine (Q0g t name _ _ (HR0.o _ HK1.o).2 HXT.o HSM.o).mono ?_;rintro e w2 ⟨rfl,hk2⟩;have HK2:=Hh (HK1.o.trans (hk2.ofNob S));clear hk2;obtain⟨⟨g0'',g1'',g2''⟩,g3'',g4''⟩:=HS.o _ HK2.o))
 obtain⟨wo,rfl⟩:∃wo:World,wo=w2:=⟨_,rfl⟩;have hs3:∀W,Q0 S wo W→W.cell? ⟨w.heap.size+1,0,none⟩=some (.slice A3 t.nodes.length c3):=fun W hW=>(HS.o W (HK2.o.trans hW)).2.1
 have hs4:∀W,Q0 S wo W→W.cell? ⟨w.heap.size+1,1,none⟩=some (.slice A4 t.tops.length c4):=fun W hW=>(HS.o W (HK2.o.trans hW)).2.2
 have hr0:Q0 S wo wo:=Kr _ _
 have HCA:Hi (∀W,Q0 S wo W→Calls prog 72 #[.agg #[.slice A3 t.nodes.length c3,.slice A4 t.tops.length c4],.int .i64 (Xx t name),.slice none 0 0] W fun e w'=>∃v,e=.returned v∧Qf S 9 w' v (strs (Jh (Q3m t) name 0))∧Q0 nob W w'):=Hh fun W hW=>by
  refine (Q98 Qvu.o p3 HSM.o t.nodes.length S W _ _ (.slice none 0 0) [] _ (HTB.o W (HK2.o.trans hW)) (Qf.nil _ _ _) (fun k hk=>(HSD.o k).2 (by have:=HK0.o.size;have:=HK2.o.size;have:=hW.size;omega)) HTI.o HTI.o.2 ⟨by simp,by simp⟩).mono ?_
  rintro e w4 ⟨v,rfl,ho,hk,hg⟩
  refine⟨v,rfl,?_,hk.mono fun k _ h=>by cases h⟩
  rw[HTE.o] at ho;exact ho
 go_region_held3 (fun W=>Q0 S wo W) (first|assumption|exact hr0.drew|exact Kd ‹_›) ((first|(go_at_call 31;refine (Q0g t name _ _ (HR0.o _ (HK2.o.trans hr0.drew)).2 HXT.o HSM.o).mono ?_;rintro e w3 ⟨rfl,hk3⟩;have hkt:=hr0.drew.trans (hk3.ofNob S);dsimp only)|(go_at_call 72;refine (HCA.o _ hkt).mono ?_;rintro e w4 ⟨v4,rfl,ho4,hk4⟩;have hkc:=hkt.trans (hk4.ofNob S);have HO4:=Hh ho4;have HK4:=Hh (HK2.o.trans hkc);clear ho4 hk4;dsimp only)));clear hs3 hs4 hr0 g0 g1 g2 g3 g4 g0' g1' g2' g3' g4' g0'' g1'' g2'' g3'' g4'';go_wp2_with fail;go_loopw [9,10] (fun lv k wr=>∃j:Nat,k=.int .i64 j∧Hi (Qf S 9 wr lv (strs (Jh (Q3m t) name j))∧j≤(Jh (Q3m t) name j).length∧Q0 S W0 wr)) (fun _ k _=>4001-(intOf k).toNat)
 case atStart=>exact⟨0,rfl,Hh ⟨HO4.o,Nat.zero_le _,HK4.o⟩⟩
 case round =>
  obtain⟨j,rfl,HR⟩:=hrel;obtain⟨wq,rfl⟩:∃wq:World,wq=wr:=⟨_,rfl⟩;have Qo8:=(HNI.o j).few;have hj4:j≤4000:=by have:=HR.o.2.1;omega
  obtain⟨lA,lb,lo,lc,hlv,_,_,hlA,Qp0⟩:=HR.o.1.strs (by omega);have Qn2:=Hh HR.o.1;have HKR:=Hh HR.o.2.2;generalize hLL:Jh (Q3m t) name j=L at *;subst hlv
  by_cases hlt:j<L.length
  ·obtain⟨x,hx⟩:=Q3 hlt
   have x1:=Qp0 j x hx;obtain rfl:=hlA (by omega);have Qtl:Hi (Jh (Q3m t) name (j+1)=grow L (Zs t t.nodes.length (Xx t x))):=Hh (by simp only[Jh];rw[hLL,hx,HTE.o];rfl);have htx:=Qn3.o j x (by rw[hLL];exact Mg hx);have hti:InT t (Xx t x):=by rw[HTE.o];exact HTK.o _ (Zl htx.1).1
   have hjn:(j:Int)<(L.length:Int):=by omega
   have Qvv:Hi (∀W,Q0 nob wq W→Calls prog 72 #[.agg #[.slice A3 t.nodes.length c3,.slice A4 t.tops.length c4],.int .i64 (Xx t x),.slice (some ⟨lb,lo,none⟩) L.length lc] W fun e w'=>∃v,e=.returned v∧Qf S 9 w' v (strs (Jh (Q3m t) name (j+1)))∧Q0 S W w'):=Hh fun W hW=>by
    refine (Q98 Qvu.o p3 HSM.o t.nodes.length S W _ _ _ L _ (HTB.o W (HKR.o.trans (hW.ofNob _))) (Qn2.o.nobk hW) (fun k hk=>(HSD.o k).2 (by have:=HK0.o.size;have:=HKR.o.size;have:=hW.size;omega)) hti hti.2 (by rw[← hLL];exact HNI.o j)).mono ?_
    rintro e w4 ⟨v,rfl,ho,hk,hg⟩;rw[Qtl.o];exact⟨v,rfl,ho,hk.mono fun k _ h=>Qn2.o.2 k h⟩
   have HLE:Hi (j+1≤(Jh (Q3m t) name (j+1)).length):=Hh (by obtain⟨m,hm⟩:=Q5g (Q3m t) name j;rw[hm,List.length_append,hLL];omega);have hs3:∀W,Q0 S wq W→W.cell? ⟨w.heap.size+1,0,none⟩=some (.slice A3 t.nodes.length c3):=fun W hW=>(HS.o W (HKR.o.trans hW)).2.1
   have hs4:∀W,Q0 S wq W→W.cell? ⟨w.heap.size+1,1,none⟩=some (.slice A4 t.tops.length c4):=fun W hW=>(HS.o W (HKR.o.trans hW)).2.2
   have hr0:Q0 S wq wq:=Kr _ _;have HRN:=Hh (Kr nob wq);clear htx hti hx Qp0 hLL HR hlA;go_upto_region 8 with fail
   refine wp_region_held_drew (S:=(fun W=>Q0 S wq W)) (by kernel_rfl) ?_ (fun hHeld=>?_)
   ·(try dsimp only);((first|assumption|exact hr0.drew|exact Kd ‹_›))
   refine wpAnyH_take (i:=0) (oi:={dst:=some 39,op:=Go.Op.load 33 (Go.Operand.tmp 4),type:=33,pos:= "l23_trees.go:99",after:=#[],guard:=none}) (v:=?_) rfl (by kernel_rfl) (by kernel_rfl) (by kernel_rfl) (fun _ _ _ h=>h) (Or.inl ⟨by rfl,?_⟩) ‹_› ?_;rotate_left;· (intro w hSw;(try dsimp only at hSw);go_simp;try (with_reducible rfl))
   try simp only[Act.put,List.setIfInBounds_toArray,List.set_cons_zero,List.set_cons_succ]
   refine wpAnyH_take (i:=1) (oi:={dst:=some 40,op:=Go.Op.load 33 (Go.Operand.tmp 4),type:=33,pos:= "l23_trees.go:99",after:=#[],guard:=none}) (v:=?_) rfl (by kernel_rfl) (by kernel_rfl) (by kernel_rfl) (fun _ _ _ h=>h) (Or.inl ⟨by rfl,?_⟩) ‹_› ?_;rotate_left;· (intro w hSw;(try dsimp only at hSw);go_simp;try (with_reducible rfl))
   try simp only[Act.put,List.setIfInBounds_toArray,List.set_cons_zero,List.set_cons_succ]
   refine wpAnyH_take (i:=2) (oi:={dst:=some 41,op:=Go.Op.move (Go.Operand.tmp 9),type:=66,pos:= "l23_trees.go:99",after:=#[],guard:=none}) (v:=?_) rfl (by kernel_rfl) (by kernel_rfl) (by kernel_rfl) (fun _ _ _ h=>h) (Or.inl ⟨by rfl,?_⟩) ‹_› ?_;rotate_left;· (intro w hSw;(try dsimp only at hSw);go_simp;try (with_reducible rfl))
   try simp only[Act.put,List.setIfInBounds_toArray,List.set_cons_zero,List.set_cons_succ]
   refine wpAnyH_take (i:=3) (oi:={dst:=some 42,op:=Go.Op.move (Go.Operand.tmp 10),type:=3,pos:= "l23_trees.go:99",after:=#[],guard:=none}) (v:=?_) rfl (by kernel_rfl) (by kernel_rfl) (by kernel_rfl) (fun _ _ _ h=>h) (Or.inl ⟨by rfl,?_⟩) ‹_› ?_;rotate_left;· (intro w hSw;(try dsimp only at hSw);go_simp;try (with_reducible rfl))
   try simp only[Act.put,List.setIfInBounds_toArray,List.set_cons_zero,List.set_cons_succ]
   refine wpAnyH_take (i:=4) (oi:={dst:=some 43,op:=Go.Op.indexAddr 66 (Go.Operand.tmp 41) (Go.Operand.tmp 42),type:=0,pos:= "l23_trees.go:99",after:=#[{on:=2,ground:=Go.Ground.data},{on:=3,ground:=Go.Ground.data}],guard:=none}) (v:=?_) rfl (by kernel_rfl) (by kernel_rfl) (by kernel_rfl) (fun _ _ _ h=>h) (Or.inl ⟨by rfl,?_⟩) ‹_› ?_;rotate_left;· (intro w hSw;(try dsimp only at hSw);go_simp;try (with_reducible rfl))
   try simp only[Act.put,List.setIfInBounds_toArray,List.set_cons_zero,List.set_cons_succ]
   refine wpAnyH_take (i:=7) (oi:={dst:=some 46,op:=Go.Op.move (Go.Operand.tmp 9),type:=66,pos:= "l23_trees.go:99",after:=#[],guard:=none}) (v:=?_) rfl (by kernel_rfl) (by kernel_rfl) (by kernel_rfl) (fun _ _ _ h=>h) (Or.inl ⟨by rfl,?_⟩) ‹_› ?_;rotate_left;· (intro w hSw;(try dsimp only at hSw);go_simp;try (with_reducible rfl))
   try simp only[Act.put,List.setIfInBounds_toArray,List.set_cons_zero,List.set_cons_succ]
   refine wpAnyH_ready (rs:=[5]) (by kernel_rfl) (by simp) ?_
   refine AllReadyH.cons (o:={dst:=some 44,op:=Go.Op.load 9 (Go.Operand.tmp 43),type:=9,pos:= "l23_trees.go:99",after:=#[{on:=4,ground:=Go.Ground.data}],guard:=none}) rfl (fun K hK=>?_) AllReadyH.nil
   go_simp
   refine hK.out _ _ ?_ (fun hHeld=>?_)
   ·(try dsimp only);((first|assumption|exact hr0.drew|exact Kd ‹_›))
   clear hK;refine wpAnyH_ready (rs:=[6]) (by kernel_rfl) (by simp) ?_
   refine AllReadyH.cons (o:={dst:=some 45,op:=Go.Op.call {callee:=Go.Callee.value (Go.Operand.func 31),args:=#[Go.Operand.tmp 40,Go.Operand.tmp 44],argTypes:=#[33,9]},type:=3,pos:= "l23_trees.go:99",after:=#[{on:=1,ground:=Go.Ground.data},{on:=5,ground:=Go.Ground.data}],guard:=none}) rfl (fun K hK=>?_) AllReadyH.nil
   go_simp
   (first|(go_at_call 31;refine (Q0g t x _ _ (HR0.o _ (HKR.o.trans hr0.drew)).2 HXT.o HSM.o).mono ?_;rintro e w3 ⟨rfl,hk3⟩;have hkn:=HRN.o.drew.trans hk3;have hkt:=hkn.ofNob S;dsimp only)|(go_at_call 72;refine (Qvv.o _ hkn).mono ?_;rintro e w4 ⟨v4,rfl,ho4,hk4⟩;have hkc:=hkt.trans hk4;have HO5:=Hh ho4;have HK5:=Hh (HKR.o.trans hkc);clear ho4 hk4;dsimp only))
   refine hK.out _ _ ?_ (fun hHeld=>?_)
   ·(try dsimp only);((first|assumption|exact hr0.drew|exact Kd ‹_›))
   clear hK;refine wpAnyH_ready (rs:=[8]) (by kernel_rfl) (by simp) ?_
   refine AllReadyH.cons (o:={dst:=some 47,op:=Go.Op.call {callee:=Go.Callee.value (Go.Operand.func 72),args:=#[Go.Operand.tmp 39,Go.Operand.tmp 45,Go.Operand.tmp 46],argTypes:=#[33,3,66]},type:=66,pos:= "l23_trees.go:99",after:=#[{on:=0,ground:=Go.Ground.data},{on:=6,ground:=Go.Ground.data},{on:=7,ground:=Go.Ground.data},{on:=6,ground:=Go.Ground.chain}],guard:=none}) rfl (fun K hK=>?_) AllReadyH.nil
   go_simp
   (first|(go_at_call 31;refine (Q0g t x _ _ (HR0.o _ (HKR.o.trans hr0.drew)).2 HXT.o HSM.o).mono ?_;rintro e w3 ⟨rfl,hk3⟩;have hkn:=HRN.o.drew.trans hk3;have hkt:=hkn.ofNob S;dsimp only)|(go_at_call 72;refine (Qvv.o _ hkn).mono ?_;rintro e w4 ⟨v4,rfl,ho4,hk4⟩;have hkc:=hkt.trans hk4;have HO5:=Hh ho4;have HK5:=Hh (HKR.o.trans hkc);clear ho4 hk4;dsimp only))
   refine hK.out _ _ ?_ (fun hHeld=>?_)
   ·(try dsimp only);((first|assumption|exact hr0.drew|exact Kd ‹_›))
   clear hK
   refine wpAnyH_take (i:=9) (oi:={dst:=some 9,op:=Go.Op.assign (Go.Operand.tmp 47),type:=66,pos:= "l23_trees.go:99",after:=#[{on:=8,ground:=Go.Ground.data},{on:=8,ground:=Go.Ground.chain},{on:=0,ground:=Go.Ground.phase},{on:=1,ground:=Go.Ground.phase},{on:=2,ground:=Go.Ground.phase},{on:=3,ground:=Go.Ground.phase},{on:=4,ground:=Go.Ground.phase},{on:=5,ground:=Go.Ground.phase},{on:=6,ground:=Go.Ground.phase},{on:=7,ground:=Go.Ground.phase},{on:=8,ground:=Go.Ground.phase}],guard:=none}) (v:=?_) rfl (by kernel_rfl) (by kernel_rfl) (by kernel_rfl) (fun _ _ _ h=>h) (Or.inl ⟨by rfl,?_⟩) ‹_› ?_;rotate_left;· (intro w hSw;(try dsimp only at hSw);go_simp;try (with_reducible rfl))
   try simp only[Act.put,List.setIfInBounds_toArray,List.set_cons_zero,List.set_cons_succ]
   refine wpAnyH_done (by kernel_rfl) ?_ _;go_wp2_with fail;go_roundw
   case rel=>exact⟨j+1,by go_num,Hh ⟨HO5.o,HLE.o,HK5.o⟩⟩
   case measure=>simp[intOf];omega
  ·have hjn:¬ (j:Int)<(L.length:Int):=by omega
   have HF:Hi (Qah t name=L):=Hh (by rw[← hLL];exact Qch (HNI.o j) p3 (by rw[hLL];omega) (by rw[hLL];exact HR.o.2.1));have Qtm:∀W,Q0 (Q7 wq.heap.size) wq W→Zu wq W:=fun W hW=>hW.oldS fun k hk h=>by have:wq.heap.size≤k:=h;omega
   have HLS:Hi (∀W,Q0 (Q7 wq.heap.size) wq W→Yv W (.slice lA L.length lc) L):=Hh fun W hW=>(Qn2.o.kept hW (fun k hk h=>by have:=Qn2.o.lt k hk;have:wq.heap.size≤k:=h;omega)).strs (by omega)
   have HSW:Hi (∀W,Q0 (Q7 wq.heap.size) wq W→Q0 S W0 W):=Hh fun W hW=>HKR.o.trans (hW.mono fun k _ h=>(HSD.o k).2 (by have:wq.heap.size≤k:=h;have:=HK0.o.size;have:=HKR.o.size;omega))
   have Qor:W0.heap.size≤wq.heap.size:=HKR.o.size;clear hLL Qp0 HR hlA Qtm Qo8
   have HO0:Hi (Qf (Q7 wq.heap.size) 9 (wq.alloc (.cells #[] 9 (0,0))) (.slice (some ⟨wq.heap.size,0,none⟩) 0 0) (strs (((t.tops.take 0).map fun k=>(t.at k).text).filter (fun s=>Z9 s L)))):=Hh (by
    have:=Qf.lit (Q7 wq.heap.size) 9 wq [] (Nat.le_refl _) (by simp) rfl (n:=0) (c:=0) rfl rfl;simpa[strs] using this)
   go_wp2_with fail;go_loopw [11,12] (fun ov k wr=>∃j:Nat,j≤t.tops.length∧k=.int .i64 j∧Hi (Qf (Q7 wq.heap.size) 9 wr ov (strs (((t.tops.take j).map fun k=>(t.at k).text).filter (fun s=>Z9 s L)))∧Q0 (Q7 wq.heap.size) wq wr)) (fun _ k _=>t.tops.length-(intOf k).toNat)
   case atStart=>exact⟨0,Nat.zero_le _,rfl,Hh ⟨HO0.o,(Kr _ _).alloc _⟩⟩
   case round =>
    obtain⟨i,hi,rfl,HR⟩:=hrel;obtain⟨wo2,rfl⟩:∃wo2:World,wo2=wr:=⟨_,rfl⟩;have HKQ:=Hh (HSW.o _ HR.o.2);obtain⟨_,q3,q4⟩:=HS.o _ HKQ.o
    by_cases Qxy:i<t.tops.length
    ·obtain⟨y,hy⟩:=Q3 Qxy
     obtain⟨mk,rfl,hn⟩:=Q1.at_lt (HTK.o y (Mg hy));have hmk:(mk:Int)<t.nodes.length:=(HTK.o _ (Mg hy)).2;have x0:=HTC.o i _ hy _ HKQ.o;have x1:=HNC.o mk _ hn _ HKQ.o;obtain rfl:=HTA.o (by omega);obtain rfl:=HNA.o (by omega);have Qou:(i:Int)<(t.tops.length:Int):=by omega
     have Qmr:(((t.tops.take i).map fun k=>(t.at k).text).filter (fun s=>Z9 s L)).length≤4000:=by
      refine Nat.le_trans (List.length_filter_le _ _) ?_;rw[List.length_map,List.length_take];omega
     have HNX:Hi (((t.tops.take (i+1)).map fun k=>(t.at k).text).filter (fun s=>Z9 s L)=((t.tops.take i).map fun k=>(t.at k).text).filter (fun s=>Z9 s L)++(if Z9 (t.at (mk:Int)).text L=true then [(t.at (mk:Int)).text] else [])):=Hh (by
      rw[Jy hy,List.map_append,List.filter_append];simp only[List.map_cons,List.map_nil,List.filter_cons,List.filter_nil])
     generalize t.at (mk:Int)=nd at *;have HRO:=Hh HR.o.1;have HRK:=Hh HR.o.2;generalize ((t.tops.take i).map fun k=>(t.at k).text).filter (fun s=>Z9 s L)=F at HNX HRO Qmr;clear hy hn HR;go_upto_region 13 with fail
     go_quiet (fail);cases hb:Z9 nd.text L with
     |false =>
      rw[hb,Ng (by simp),List.append_nil] at HNX;go_wp2_with (go_at_call 33;refine (Ji _ _ L nd.text (HLS.o _ (HRK.o.drewN _))).mono ?_;rw[hb];rintro e w3 ⟨rfl,rfl⟩);go_roundw
      case rel=>exact⟨i+1,by omega,by go_num,Hh ⟨by rw[HNX.o];exact HRO.o.drewN _,HRK.o.drewN _⟩⟩
      case measure=>simp[intOf];omega
     |true =>
      rw[hb,Ps rfl] at HNX;have HRN:=Hh (HRO.o.drewN nq);have HKN:=Hh (HRK.o.drewN nq);go_wp2_with (first|(go_at_call 33;refine (Ji _ _ L nd.text (HLS.o _ (HRK.o.drewN _))).mono ?_;rw[hb];rintro e w3 ⟨rfl,rfl⟩)|(at_builtin;refine J1 (Q7 wq.heap.size) rfl _ _ 66 9 (.string ByteArray.empty) 16 rfl underlying66 (by kernel_rfl) rfl u11 (strs F) (.string nd.text) rfl rfl (by simp) rfl HRN.o (fun k hk=>by show wq.heap.size≤k;have:=HKN.o.size;omega) (by rw[Qk];omega) (by rw[Qk];omega) ?_;intro nv1 w5 Qmn hk5 Qmt;have H5:=Hh Qmn;have HK5:=Hh (HKN.o.trans (hk5.mono fun k _ h=>HRN.o.2 k h));clear Qmn hk5 Qmt));go_roundw
      case rel=>exact⟨i+1,by omega,by go_num,Hh ⟨by rw[HNX.o,← Q3r];exact H5.o,HK5.o⟩⟩
      case measure=>simp[intOf];omega
    ·have Qou:¬ (i:Int)<(t.tops.length:Int):=by omega
     go_wp2_with fail;go_returns;rw[HX.o,HF.o];have h9:=HR.o.1;rw[List.take_of_length_le (by omega)] at h9;exact⟨_,rfl,h9.mono (fun k hk=>by have h8:wq.heap.size≤k:=hk;have:=HK0.o.size;show w.heap.size≤k;omega),HK0.o.then_ HKQ.o (fun k h=>.inr (by have:=(HSD.o k).1 h;omega))⟩
end Go.Proofs.YtkgkafjachjafaaGreat
