/- Part 18 of: FnExactEffects answers true; no condition. -/
import Derived.Handy
import Derived.Deep.DeepCutAuto
import Derived.BigQuiet
import Derived.Test.YtkgkafjachjafaaGreatY09
import Derived.Test.YtkgkafjachjafaaGreatY13
import Derived.Test.YtkgkafjachjafaaGreatY16
set_option linter.unusedVariables false
set_option maxHeartbeats 1000000
set_option maxRecDepth 100000
open Go Go.RowKit
namespace Go.Proofs.YtkgkafjachjafaaGreat
open Tryz
theorem SpR.nodeH {w:World} {wb gb:Nat} {r0 r1 r2 t0 t1 ov:Value} {s:SS} {nv kv wv:Value} {r:Reg} {t:Q1} (h:SpR w wb gb r0 r1 r2 t0 t1 ov s nv kv wv) (F:Xl (at2 wb gb) w r t r0 r1 r2 t0 t1) {i:Int} (hi:InT t i) :
  ∃mi:Nat,i=mi∧t.nodes[mi]?=some (t.at i)∧∃nb no nc A kb ko kc,t0=.slice (some ⟨nb,no,none⟩) t.nodes.length nc∧t.nodes.length≤140737488355328∧(mi:Int)<t.nodes.length ∧
   (w.cell? ⟨nb,no+mi*4,none⟩=some (.int .i64 (t.at i).kind)∧w.cell? ⟨nb,no+mi*4+1,none⟩=some (.string (t.at i).text)∧w.cell? ⟨nb,no+mi*4+2,none⟩=some (.int .i64 (t.at i).i)∧w.cell? ⟨nb,no+mi*4+3,none⟩=some (.slice A (t.at i).kids.length kc)) ∧
   (t.at i).kids.length≤140737488355328∧(t.at i).kids.length≤kc∧(0<(t.at i).kids.length→A=some ⟨kb,ko,none⟩) ∧
   ∃W0,w.alloc (.cells #[.int .i64 (t.at i).kind,.string (t.at i).text,.int .i64 (t.at i).i,.slice A (t.at i).kids.length kc] 70 (0,0))=W0∧SpR W0 wb gb r0 r1 r2 t0 t1 ov s nv kv wv∧Xl (at2 wb gb) W0 r t r0 r1 r2 t0 t1∧Q0 (at2 wb gb) w W0 ∧
    (∀W,Q0 (at2 wb gb) W0 W→W.cell? ⟨w.heap.size,0,none⟩=some (.int .i64 (t.at i).kind)∧W.cell? ⟨w.heap.size,1,none⟩=some (.string (t.at i).text)∧W.cell? ⟨w.heap.size,2,none⟩=some (.int .i64 (t.at i).i)∧W.cell? ⟨w.heap.size,3,none⟩=some (.slice A (t.at i).kids.length kc)) ∧
    (∀j x,(t.at i).kids[j]?=some x→∀W,Q0 (at2 wb gb) W0 W→W.cell? ⟨kb,ko+j,none⟩=some (.int .i64 x))∧w.cell? ⟨wb,3,none⟩=some (.slice (some ⟨nb,no,none⟩) t.nodes.length nc)∧Hi (SpR W0 wb gb r0 r1 r2 t0 t1 ov s nv kv wv)∧Hi (Xl (at2 wb gb) W0 r t r0 r1 r2 t0 t1)∧Hi (Q0 (at2 wb gb) w W0) ∧
    Hi (∀W,Q0 (at2 wb gb) W0 W→W.cell? ⟨w.heap.size,0,none⟩=some (.int .i64 (t.at i).kind)∧W.cell? ⟨w.heap.size,1,none⟩=some (.string (t.at i).text)∧W.cell? ⟨w.heap.size,2,none⟩=some (.int .i64 (t.at i).i)∧W.cell? ⟨w.heap.size,3,none⟩=some (.slice A (t.at i).kids.length kc)) ∧
    Hi (∀j x,(t.at i).kids[j]?=some x→∀W,Q0 (at2 wb gb) W0 W→W.cell? ⟨kb,ko+j,none⟩=some (.int .i64 x)):=by
 obtain⟨mi,rfl,hnd⟩:=Q1.at_lt hi;obtain⟨nb,no,nc,A,kb,ko,kc,rfl,hl,hml,hc,kl,klc,hA,W0,hW0,h0,F0,hk0,hbx,hkc⟩:=h.node F hnd;exact⟨mi,rfl,hnd,nb,no,nc,A,kb,ko,kc,rfl,hl,hml,hc,kl,klc,hA,W0,hW0,h0,F0,hk0,hbx,hkc,h.blk.cell 3 _ rfl,Hh h0,Hh F0,Hh hk0,Hh hbx,Hh hkc⟩
theorem Qg8 (y:ByteArray) (xs:List ByteArray):-1≤J3 y xs:=by
 induction xs with
 |nil=>simp[J3]
 |cons x xs ih=>simp only[J3];split<;>first|omega|(split<;>omega)
theorem Q8o (y:ByteArray) (xs:List ByteArray):J3 y xs<xs.length:=by
 induction xs with
 |nil=>simp[J3]
 |cons x xs ih=>simp only[J3,List.length_cons];split<;>first|omega|(split<;>omega)
def Q95 (y:ByteArray) (xs:List ByteArray) (j:Nat):Prop:=∀i x,j≤i→xs[i]?=some x→x≠y
theorem Q6p {y:ByteArray} {xs:List ByteArray} (h:Q95 y xs 0):J3 y xs = -1:=by
 induction xs with
 |nil=>rfl
 |cons x xs ih =>
  have:=ih (fun i z _ hz=>h (i+1) z Om (by simpa using hz));simp only[J3,this,Ps (show (-1:Int)<0 by decide),Ng (h 0 x Om rfl)]
theorem Qe6 {y:ByteArray} {xs:List ByteArray} {j:Nat} (h:Q95 y xs (j+1)) (hj:xs[j]?=some y):J3 y xs=j:=by
 induction xs generalizing j with
 |nil=>simp at hj
 |cons x xs ih =>
  cases j with
  |zero =>
   have:=Q6p (y:=y) (xs:=xs) (fun i z _ hz=>h (i+1) z Om (by simpa using hz));simp at hj;simp[J3,this,hj]
  |succ j =>
   have:=ih (j:=j) (fun i z hi hz=>h (i+1) z Om (by simpa using hz)) (by simpa using hj);simp only[J3,this,Ng (show ¬ ((j:Int)<0) by omega)];push_cast;rfl
theorem Jy (w:World) (v:Value) (xs:List ByteArray) (y:ByteArray) (hv:Q0g w v xs) :
  Calls prog 33 #[v,.string y] w fun e w'=>e=.returned (.bool (Zr y xs))∧w=w':=by
 obtain⟨A,b,o,c,rfl,hl,hlc,hA,hc⟩:=hv;have HC:=Hh hc;clear hc;go_enter func33,ntmps33;go_wp2_with fail;go_loop [5] (fun i=>∃j:Nat,j≤xs.length∧i=.int .i64 j∧Hi (Q6d y xs j)) (fun i=>xs.length-(intOf i).toNat)
 case atStart=>exact⟨0,Nat.zero_le _,rfl,Hh fun i d hi _=>absurd hi Om⟩
 case round =>
  obtain⟨j,hj,rfl,HNO⟩:=hrel
  by_cases hlt:j<xs.length
  ·obtain⟨x,hx⟩:=Q4 hlt
   have e0:=HC.o j x hx;have HX:=Hh hx;obtain rfl:=hA Om;clear hx hA;cases ty:(x.toList==y.toList) with
   |true =>
    go_wp2_with fail;go_ret;exact⟨Q7 (by unfold Zr;rw[Q52 HNO.o HX.o (Q04 ty)];exact (Dt Om).symm),rfl⟩
   |false =>
    go_wp2_with fail;go_round
    case rel=>exact⟨j+1,Om,Gm,Hh (Q56 HNO.o HX.o (Q1p ty))⟩
    case measure=>exact Me
  ·go_wp2_with fail
   go_ret;obtain rfl:j=xs.length:=Om
   exact⟨Q7 (by unfold Zr;rw[Q4j HNO.o];rfl),rfl⟩
theorem Qh0 (w:World) (r:Reg) (r0 r1 r2:Value) (sort:Int) (h0:Ji w r0 r.comps) (h1:Ji w r1 r.ress) (h2:Ji w r2 r.evts) :
  Calls prog 221 #[.agg #[r0,r1,r2],.int .i64 sort] w fun e w'=>∃v,e=.returned v∧Ji w v (r.list sort)∧Q0 nob w w':=by
 by_cases e1:sort=1
 ·have e1':(sort==1)=true:=by simpa using e1
  go_enter func221,ntmps221;go_wp2_with fail;go_ret;exact⟨_,rfl,by simpa[Reg.list,e1] using h0,(Kr _ _).alloc _⟩
 have e1':(sort==1)=false:=by simpa using e1
 by_cases e2:sort=2
 ·have e2':(sort==2)=true:=by simpa using e2
  go_enter func221,ntmps221;go_wp2_with fail;go_ret;exact⟨_,rfl,by simpa[Reg.list,e1,e2] using h1,(Kr _ _).alloc _⟩
 have e2':(sort==2)=false:=by simpa using e2
 by_cases e3:sort=3
 ·have e3':(sort==3)=true:=by simpa using e3
  go_enter func221,ntmps221;go_wp2_with fail;go_ret;exact⟨_,rfl,by simpa[Reg.list,e1,e2,e3] using h2,(Kr _ _).alloc _⟩
 have e3':(sort==3)=false:=by simpa using e3
 go_enter func221,ntmps221;go_wp2_with fail;go_ret;exact⟨_,rfl,by rw[Reg.list,Ng e1,Ng e2,Ng e3];exact⟨none,0,0,0,rfl,Sm,Sm,Sm,Sm⟩,(Kr _ _).alloc _⟩
section
variable {w:World} {wb gb:Nat} {r0 r1 r2 t0 t1 ov:Value} {s:SS} {nv kv wv:Value} {r:Reg} {t:Q1}
theorem Qw (h:SpR w wb gb r0 r1 r2 t0 t1 ov s nv kv wv) (code node:Int) :
  Calls prog 136 #[.pointer (some ⟨wb,0,none⟩),.int .i64 code,.int .i64 node] w fun e w'=>e=.returned (.int .i64 0)∧AtW w wb gb r0 r1 r2 t0 t1 ov (s.fail code node) nv kv wv w':=by
 have c2:w.cell? ⟨wb,13,none⟩=some (.int .i64 s.code):=h.blk.cell 13 _ rfl;have c3:w.cell? ⟨wb,14,none⟩=some (.int .i64 s.node):=h.blk.cell 14 _ rfl;have q2:=h.blk.free 13;have q3:=h.blk.free 14;have H:=Hh h;clear h
 by_cases hc:s.code=0
 ·go_enter func136,ntmps136
  go_wp2_with fail;go_ret;refine⟨rfl,?_,((Kr _ _).wb _ _).wb _ _⟩;have:=(H.o.setCode code).setNode node;simpa[SS.fail,hc] using this
 ·go_enter func136,ntmps136
  go_wp2_with fail;go_ret;refine⟨rfl,?_,Kr _ _⟩;simpa[SS.fail,hc] using H.o
theorem Q0t (h:SpR w wb gb r0 r1 r2 t0 t1 ov s nv kv wv) (y:ByteArray) :
  Calls prog 220 #[.pointer (some ⟨wb,0,none⟩),.string y] w fun e w'=>e=.returned (.int .i64 (J3 y s.names))∧w=w':=by
 have c6:w.cell? ⟨wb,6,none⟩=some nv:=h.blk.cell 6 _ rfl;obtain⟨A,b,o,c,rfl,hl,hlc,hA,hc⟩:=h.n.now;have HC:=Hh hc;clear hc h;go_enter func220,ntmps220;go_wp2_with fail;go_loop [5] (fun i=>∃j:Nat,j≤s.names.length∧i=.int .i64 ((j:Int)-1)∧Hi (Q95 y s.names j)) (fun i=>(intOf i+1).toNat)
 case atStart=>exact⟨s.names.length,Nat.le_refl _,rfl,Hh fun i x hi hx=>by have:=(Gs hx).1;omega⟩
 case round =>
  obtain⟨j,hj,rfl,HNO⟩:=hrel;cases j with
  |zero =>
   go_wp2_with fail;go_ret;exact⟨Jo (Q6p HNO.o).symm,rfl⟩
  |succ j =>
   obtain⟨x,hx⟩:=Q4 (xs:=s.names) (j:=j) Om;have e0:=HC.o j x hx;have HX:=Hh hx;obtain rfl:=hA Om;have hjj:((j+1:Nat):Int)-1=(j:Int):=Om
   rw[hjj];clear hx hA hjj;cases ty:(x.toList==y.toList) with
   |true =>
    go_wp2_with fail;go_ret;exact⟨Jo (Qe6 HNO.o (by rw[HX.o,Q04 ty])).symm,rfl⟩
   |false =>
    go_wp2_with fail;go_round
    case rel =>
     refine⟨j,Om,Gm,Hh fun i z hi hz=>?_⟩
     by_cases e:i=j
     ·subst e;rw[HX.o] at hz;cases hz;exact Q1p ty
     ·exact HNO.o i z Om hz
    case measure=>simp[intOf]
theorem Zd (h:SpR w wb gb r0 r1 r2 t0 t1 ov s nv kv wv) (F:Xl (at2 wb gb) w r t r0 r1 r2 t0 t1) (sort:Int) (y:ByteArray) :
  Calls prog 211 #[.pointer (some ⟨wb,0,none⟩),.int .i64 sort,.string y] w fun e w'=>e=.returned (.int .i64 (J2 r sort y))∧Q0 nob w w':=by
 have c0:w.cell? ⟨wb,0,none⟩=some r0:=h.blk.cell 0 _ rfl;have c1:w.cell? ⟨wb,1,none⟩=some r1:=h.blk.cell 1 _ rfl;have c2:w.cell? ⟨wb,2,none⟩=some r2:=h.blk.cell 2 _ rfl;have HR0:=Hh F.r0.now;have HR1:=Hh F.r1.now;have HR2:=Hh F.r2.now;clear h F;go_enter func211,ntmps211;go_wp2_with (go_at_call 221;refine (Qh0 _ r _ _ _ _ HR0.o HR1.o HR2.o).mono ?_;rintro e w1 ⟨v,rfl,hd,hk1⟩;have hd1:=hd.old hk1.old;obtain⟨A,b,o,c,rfl,hl,hlc,hA,hc⟩:=hd1;have HC:=Hh hc;clear hc hd);generalize hds:r.list sort=ds at hl hlc hA HC;have HDS:=Hh hds;clear hds;go_loop [8] (fun i=>∃j:Nat,j≤ds.length∧i=.int .i64 j∧Hi (Q2t ds y j)) (fun i=>ds.length-(intOf i).toNat)
 case atStart=>exact⟨0,Nat.zero_le _,rfl,Hh fun i d hi _=>absurd hi Om⟩
 case round =>
  obtain⟨j,hj,rfl,HNO⟩:=hrel
  by_cases hlt:j<ds.length
  ·obtain⟨d,hd⟩:=Q4 hlt
   obtain⟨e0,e1⟩:=HC.o j d hd;have HD:=Hh hd;obtain rfl:=hA Om;clear hd hA;cases ty:(d.name.toList==y.toList) with
   |true =>
    go_wp2_with fail;go_ret;have hf:=Q5g HNO.o HD.o (Q04 ty);refine⟨Jo ?_,hk1⟩;rw[J2,Reg.find,HDS.o,hf,Ng Om,Reg.kindOf,Ps Om,HDS.o];simp[HD.o]
   |false =>
    go_wp2_with fail;go_round
    case rel=>exact⟨j+1,Om,Gm,Hh (Q3j HNO.o HD.o (Q1p ty))⟩
    case measure=>exact Me
  ·go_wp2_with fail
   go_ret;obtain rfl:j=ds.length:=Om
   refine⟨Jo ?_,hk1⟩;rw[J2,Reg.find,HDS.o,Q49 HNO.o,Ps Dc]
theorem Q85 (h:SpR w wb gb r0 r1 r2 t0 t1 ov s nv kv wv) (F:Xl (at2 wb gb) w r t r0 r1 r2 t0 t1) (y:ByteArray) (node:Int) :
  Calls prog 231 #[.pointer (some ⟨wb,0,none⟩),.string y,.int .i64 node] w fun e w'=>e=.returned (.int .i64 (Ys r s y node).1)∧AtW w wb gb r0 r1 r2 t0 t1 ov (Ys r s y node).2 nv kv wv w':=by
 have H:=Hh h;have HF:=Hh F;clear h F;have Qq4:=Zd H.o HF.o 1 y;have HX:Hi (Ys r s y node=if J2 r 1 y=0 then (0,s.fail 3 node) else if Zr y s.withs then (J2 r 1 y,s) else (0,s.fail 5 node)):=Hh rfl;generalize Ys r s y node=X at HX ⊢;generalize J2 r 1 y=d at Qq4 HX;cases hd:(d==0) with
 |true =>
  have HD:=Hh hd;go_enter func231,ntmps231;go_wp2_with (first|(go_at_call 211;refine Qq4.mono ?_;rintro e w1 ⟨rfl,hk1⟩;have H1:=Hh (H.o.nobk hk1))|(go_at_call 136;refine (Qw H1.o _ _).mono ?_;rintro e w2 ⟨rfl,hat⟩));go_ret;rw[HX.o,Ps (by simpa using HD.o)];exact⟨rfl,hat.1,(hk1.ofNob _).trans hat.2⟩
 |false =>
  have HD:=Hh hd;cases hh:Zr y s.withs with
  |true =>
   have HH:=Hh hh;clear hh;go_enter func231,ntmps231;go_wp2_with (first|(go_at_call 211;refine Qq4.mono ?_;rintro e w1 ⟨rfl,hk1⟩;have H1:=Hh (H.o.nobk hk1);have c10:w1.cell? ⟨wb,10,none⟩=some wv:=H1.o.blk.cell 10 _ rfl)|(go_at_call 33;refine (Jy _ _ _ _ H1.o.h.now).mono ?_;rw[HH.o];rintro e w2 ⟨rfl,rfl⟩));go_ret;rw[HX.o,Ng (by simpa using HD.o),Ps HH.o];exact⟨rfl,H1.o,hk1.ofNob _⟩
  |false =>
   have HH:=Hh hh;clear hh;go_enter func231,ntmps231;go_wp2_with (first|(go_at_call 211;refine Qq4.mono ?_;rintro e w1 ⟨rfl,hk1⟩;have H1:=Hh (H.o.nobk hk1);have c10:w1.cell? ⟨wb,10,none⟩=some wv:=H1.o.blk.cell 10 _ rfl)|(go_at_call 33;refine (Jy _ _ _ _ H1.o.h.now).mono ?_;rw[HH.o];rintro e w2 ⟨rfl,rfl⟩)|(go_at_call 136;refine (Qw H1.o _ _).mono ?_;rintro e w2 ⟨rfl,hat⟩));go_ret;rw[HX.o,Ng (by simpa using HD.o),Ng (by simp[HH.o])];exact⟨rfl,hat.1,(hk1.ofNob _).trans hat.2⟩
theorem Ql4 {t:Q1} {l:List Int} {y:ByteArray} {j:Nat} {k:Int} (hj:l[j]?=some k) (hno:∀i x,i<j→l[i]?=some x→¬ ((t.at x).kind=33∧(t.at x).text=y)) (he:(t.at k).kind=33∧(t.at k).text=y):Q46 t l y=k:=by
 induction l generalizing j with
 |nil=>simp at hj
 |cons x xs ih =>
  cases j with
  |zero=>simp at hj;subst hj;simp only[Q46,Ps he]
  |succ j =>
   simp only[Q46,Ng (hno 0 x Om rfl)];exact ih (j:=j) (by simpa using hj) (fun i z hi hz=>hno (i+1) z Om (by simpa using hz))
theorem Qio {t:Q1} {l:List Int} {y:ByteArray} (hno:∀i x,i<l.length→l[i]?=some x→¬ ((t.at x).kind=33∧(t.at x).text=y)):Q46 t l y = -1:=by
 induction l with
 |nil=>rfl
 |cons x xs ih =>
  simp only[Q46,Ng (hno 0 x Sm rfl)];exact ih (fun i z hi hz=>hno (i+1) z So (by simpa using hz))
theorem Qlu (h:SpR w wb gb r0 r1 r2 t0 t1 ov s nv kv wv) (F:Xl (at2 wb gb) w r t r0 r1 r2 t0 t1) (hin:∀k∈t.tops,InT t k) (ht:0≤s.top∧s.top≤t.tops.length) (y:ByteArray) :
  Calls prog 236 #[.pointer (some ⟨wb,0,none⟩),.string y] w fun e w'=>e=.returned (.int .i64 (Q46 t (t.tops.take s.top.toNat) y))∧Q0 nob w w':=by
 obtain⟨m,hm⟩:=En ht.1;rw[hm] at ht;have hmt:s.top.toNat=m:=Om
 rw[hmt];have c3:w.cell? ⟨wb,3,none⟩=some t0:=h.blk.cell 3 _ rfl;have c4:w.cell? ⟨wb,4,none⟩=some t1:=h.blk.cell 4 _ rfl;have c5:w.cell? ⟨wb,5,none⟩=some (.int .i64 (m:Int)):=hm▸h.blk.cell 5 _ rfl;have hml:m≤t.tops.length:=Om
 obtain⟨A,nb,no,nc,rfl,hl,hlc,hA,hc⟩:=F.t0.nodes;obtain⟨B,tb,tq,tc,rfl,tl,tlc,hB,hd⟩:=F.t1.ints;have HC:=Hh hc;have HD:=Hh hd;have HIN:=Hh hin;have h0:Q0 nob w w:=Kr _ _;clear hc hd h F hm ht hmt hin;go_enter func236,ntmps236;go_wp2_with fail;go_loopw [5,6] (fun i u6 wr=>∃j:Nat,j≤m∧i=.int .i64 j∧Hi (∀i x,i<j→(t.tops.take m)[i]?=some x→¬ ((t.at x).kind=33∧(t.at x).text=y))∧Q0 nob w wr) (fun i _ _=>m-(intOf i).toNat)
 case atStart=>exact⟨0,Nat.zero_le _,rfl,Hh fun i x hi _=>absurd hi Om,Kr _ _⟩
 case round =>
  obtain⟨j,hj,rfl,HNO,hk⟩:=hrel;have HK:=Hh hk;have p3:=hk.cell id c3;have p4:=hk.cell id c4;have p5:=hk.cell id c5;clear hk
  by_cases hlt:j<m
  ·obtain⟨k,hx⟩:=Q4 (xs:=t.tops) (j:=j) Om
   obtain⟨mk,rfl,hn⟩:=Q1.at_lt (HIN.o k (Mg hx));have hmk:(mk:Int)<t.nodes.length:=(HIN.o _ (Mg hx)).2;have e0:=HD.o j _ hx wr (HK.o.ofNob _);obtain⟨nk,Qni,hst⟩:=HC.o mk _ hn;obtain⟨KA,kb,ko,kc,rfl,_,_,_,_⟩:=hst.ints;clear hst;obtain⟨d0,d1,d2,d3⟩:=Qni wr (HK.o.ofNob _);obtain rfl:=hA Om;obtain⟨rfl,_⟩:=hB Om;have HX:Hi ((t.tops.take m)[j]?=some (mk:Int)):=Hh (by rw[List.getElem?_take_of_lt hlt];exact hx);generalize hat:t.at (mk:Int)=nd at *;have HAT:=Hh hat;clear hx hn Qni hat hA hB
   have Qp2:∀(hno:¬ (nd.kind=33∧nd.text=y)),Hi (∀i x,i<j+1→(t.tops.take m)[i]?=some x→¬ ((t.at x).kind=33∧(t.at x).text=y)):=fun hno=>Hh fun i x hi hx=>by
    by_cases e:i=j
    ·subst e;rw[HX.o] at hx;cases hx;rw[HAT.o];exact hno
    ·exact HNO.o i x Om hx
   have HST:=Hh Qp2;clear Qp2;have hka:Q0 nob wr (wr.alloc (.cells #[.int .i64 0,.string ⟨#[]⟩,.int .i64 0,.slice none 0 0] 70)):=(Kr _ _).alloc _;have p3':=hka.cell id p3;have p4':=hka.cell id p4;have e0':=hka.cell id e0;have d0':=hka.cell id d0;have d1':=hka.cell id d1;have d2':=hka.cell id d2;have d3':=hka.cell id d3;clear hka;obtain⟨wo,rfl⟩:∃wo:World,wo=wr:=⟨_,rfl⟩;have hjt:(j:Int)<t.tops.length:=Om
   have hpt:0<t.tops.length:=Om
   go_upto_region 4 with fail
   go_cut [6] (fun s6 wx=>∃p:Nat,s6=.pointer (some ⟨p,0,none⟩)∧Blk wx p [.int .i64 nd.kind,.string nd.text,.int .i64 nd.i,.slice KA nd.kids.length kc] 70∧Q0 nob wo wx)
   case first =>
    go_region
    all_goals go_wp2_with fail
    all_goals go_meet
    all_goals exact⟨_,rfl,(Blk.new _ [.int .i64 nd.kind,.string nd.text,.int .i64 nd.i,.slice KA nd.kids.length kc] _).drew,((Kr _ _).alloc _).drew⟩
   case rest =>
    obtain⟨p,rfl,hb,hkx⟩:=hcut;have y0:=hb.cell 0 _ rfl;have y1:=hb.cell 1 _ rfl;have HB:=Hh hb;have HKX:=Hh (HK.o.trans hkx);have z3:=hkx.cell id p3;have z4:=hkx.cell id p4;have z5:=hkx.cell id p5;have ze:=hkx.cell id e0;clear hb hkx p3 p4 p5 e0 d0 d1 d2 d3 p3' p4' e0' d0' d1' d2' d3';cases tk:(nd.kind==33) with
    |true =>
     cases ty:(nd.text.toList==y.toList) with
     |true =>
      go_wp2_with fail;go_ret;exact⟨Jo (Ql4 HX.o (fun i x hi hx=>HNO.o i x hi hx) (by rw[HAT.o];exact⟨by simpa using tk,Q04 ty⟩)).symm,HKX.o⟩
     |false =>
      go_wp2_with fail;go_round
      case rel=>exact⟨j+1,Om,Gm,HST.o (fun h=>Q1p ty h.2),HKX.o⟩
      case measure=>exact Me
    |false =>
     go_wp2_with fail;go_round
     case rel=>exact⟨j+1,Om,Gm,HST.o (fun h=>by rw[h.1] at tk;simp at tk),HKX.o⟩
     case measure=>exact Me
  ·go_wp2_with fail
   go_ret;obtain rfl:j=m:=Om
   refine⟨Jo (Qio fun i x hi hx=>HNO.o i x (by rw[List.length_take] at hi;omega) hx).symm,HK.o⟩
end
structure EqX (s s':SS):Prop where
 top:s'.top=s.top
 names:s'.names=s.names
 kinds:s'.kinds=s.kinds
 each:s'.each=s.each
 inner:s'.inner=s.inner
 withs:s'.withs=s.withs
 fn:s'.fn=s.fn
 last:s'.last=s.last
 ko:s'.kindOf.length=s.kindOf.length
theorem EqX.refl (s:SS):EqX s s:=⟨rfl,rfl,rfl,rfl,rfl,rfl,rfl,rfl,rfl⟩
theorem EqX.trans {a b c:SS} (h:EqX a b) (k:EqX b c):EqX a c :=
 ⟨k.top.trans h.top,k.names.trans h.names,k.kinds.trans h.kinds,k.each.trans h.each,k.inner.trans h.inner,k.withs.trans h.withs,k.fn.trans h.fn,k.last.trans h.last,k.ko.trans h.ko⟩
theorem EqX.fail (s:SS) (c n:Int):EqX s (s.fail c n):=by unfold SS.fail;split<;>exact⟨rfl,rfl,rfl,rfl,rfl,rfl,rfl,rfl,rfl⟩
theorem EqX.col (r:Reg) (s:SS) (y:ByteArray) (n:Int):EqX s (Ys r s y n).2:=by
 unfold Ys;split;· exact EqX.fail _ _ _
 split;· exact EqX.refl _
 exact EqX.fail _ _ _
theorem EqX.call (t:Q1) (s:SS) (i:Int) (n:Qn) (ks:List Int):EqX s (Q55 t s i n ks).2:=by
 unfold Q55;dsimp only;split;· exact EqX.fail _ _ _
 split;· exact EqX.fail _ _ _
 split;· exact EqX.refl _
 exact EqX.fail _ _ _
theorem EqX.leaf (r:Reg) (t:Q1) (s:SS) (i:Int) (n:Qn) (ks:List Int):EqX s (Jw r t s i n ks).2:=by
 unfold Jw;split;· exact EqX.refl _
 split;· exact EqX.refl _
 split;· exact EqX.refl _
 split;· split<;>first|exact EqX.fail _ _ _|exact EqX.refl _
 split;· exact EqX.col _ _ _ _
 split;· split<;>first|exact EqX.fail _ _ _|exact EqX.refl _
 split;· exact EqX.call _ _ _ _ _
 split;· split<;>first|exact EqX.refl _|exact EqX.fail _ _ _
 split;· split<;>first|exact EqX.refl _|exact EqX.fail _ _ _
 split;· exact EqX.refl _
 exact EqX.fail _ _ _
theorem EqX.rest (r:Reg) (t:Q1) (first:Int) (l:List Int) (s:SS):EqX s (Yd r t first l s).2:=by
 induction l generalizing s with
 |nil=>exact EqX.refl _
 |cons k ks ih =>
  simp only[Yd];split;· exact EqX.col _ _ _ _
  split;· exact (EqX.col _ _ _ _).trans (EqX.fail _ _ _)
  exact (EqX.col _ _ _ _).trans (ih _)
section
variable {E:SS→Int→Int×SS} (hE:∀s i,EqX s (E s i).2)
include hE
theorem EqX.pick (r:Reg) (t:Q1) (s:SS) (i:Int) (n:Qn):EqX s (Q2a r t E s i n).2:=by
 unfold Q2a;dsimp only;split
 ·split;· exact hE _ _
  split;· exact (hE _ _).trans (EqX.fail _ _ _)
  split
  ·exact hE _ _
  ·split;· exact (hE _ _).trans (EqX.col _ _ _ _)
   exact ((hE _ _).trans (EqX.col _ _ _ _)).trans (EqX.rest _ _ _ _ _)
 ·exact EqX.fail _ _ _
theorem EqX.kids (l:List Int) (s:SS):EqX s (Q1f E l s).2:=by
 induction l generalizing s with
 |nil=>exact EqX.refl _
 |cons k ks ih =>
  simp only[Q1f];split;· exact hE _ _
  exact (hE _ _).trans (ih _)
theorem EqX.bare (r:Reg) (t:Q1) (s:SS) (i:Int):EqX s (Q37 r t E s i).2:=by
 unfold Q37;dsimp only;split;· exact EqX.pick hE _ _ _ _ _
 split;· exact EqX.fail _ _ _
 split;· exact EqX.kids hE _ _
 exact (EqX.kids hE _ _).trans (EqX.leaf _ _ _ _ _ _)
end
theorem EqX.expr (r:Reg) (t:Q1) (f:Nat):∀s i,EqX s (Jx r t f s i).2:=by
 induction f with
 |zero=>exact fun s i=>EqX.refl _
 |succ f ih =>
  intro s i;simp only[Jx];split;· exact EqX.refl _
  split;· exact EqX.bare ih _ _ _ _
  have h:=EqX.bare ih r t s i;exact⟨h.top,h.names,h.kinds,h.each,h.inner,h.withs,h.fn,h.last,by simpa using h.ko⟩
structure Qz (t:Q1) (s:SS):Prop where
 ko:s.kindOf.length=t.nodes.length
 nk:s.names.length=s.kinds.length
 nd:s.names.Nodup
 sub:∀x∈s.names,∃i,InT t i∧(t.at i).text=x
 top:0≤s.top∧s.top≤t.tops.length
theorem Qz.of {t:Q1} {s s':SS} (h:Qz t s) (e:EqX s s'):Qz t s' :=
 ⟨e.ko.trans h.ko,by rw[e.names,e.kinds];exact h.nk,by rw[e.names];exact h.nd,by rw[e.names];exact h.sub,by rw[e.top];exact h.top⟩
theorem Qb9 {α:Type} [DecidableEq α]:∀{l m:List α},l.Nodup→(∀x∈l,x∈m)→l.length≤m.length
 |[],_,_,_=>by simp
 |x::xs,m,hd,hs=>by
  have hx:=hs x Sm;rw[List.nodup_cons] at hd
  have:=Qb9 (l:=xs) (m:=m.erase x) hd.2 (fun y hy=>by
   rw[List.mem_erase_of_ne (fun (e:y=x)=>hd.1 (by rw[← e];exact hy))];exact hs y (by simp[hy]))
  rw[List.length_erase_of_mem hx] at this;have hp:0<m.length:=List.length_pos_of_mem hx;simp only[List.length_cons];omega
theorem Qz.few {t:Q1} {s:SS} (h:Qz t s):s.names.length≤t.nodes.length:=by
 have:=Qb9 (l:=s.names) (m:=t.nodes.map (·.text)) h.nd (fun x hx=>by
  obtain⟨i,hi,e⟩:=h.sub x hx;obtain⟨m,rfl,hm⟩:=Q1.at_lt hi;rw[List.mem_map];exact⟨_,Mg hm,e⟩)
 simpa using this
theorem Q5f {y:ByteArray} {xs:List ByteArray} (h:J3 y xs<0):y∉xs:=by
 induction xs with
 |nil=>simp
 |cons x xs ih =>
  simp only[J3] at h;split at h
  ·split at h
   ·omega
   ·rename_i hn he
    simp only[List.mem_cons,not_or];exact⟨fun e=>he e.symm,ih hn⟩
  ·omega
section
variable {t:Q1} {E:SS→Int→Int×SS} {W:SS→Int→SS} (hK:Qk t) (hE:∀s i,EqX s (E s i).2) (hW:∀s i,InT t i→Qz t s→Qz t (W s i))
include hW in
theorem Qz.stmts {l:List Int} (hl:∀k∈l,InT t k) {s:SS} (h:Qz t s):Qz t (Zm W l s):=by
 unfold Zm
 induction l generalizing s with
 |nil=>exact h
 |cons k ks ih =>
  rw[List.foldl_cons]
  refine ih (fun k hk=>hl k (List.mem_cons_of_mem _ hk)) ?_
  split
  ·exact hW _ _ (hl k Sm) h
  ·exact h
theorem Qz.put {s:SS} (h:Qz t s) {ns:List ByteArray} {ks:List Int} (Qnm:ns.length=ks.length) (hnd:ns.Nodup) (Qor:∀x∈ns,∃i,InT t i∧(t.at i).text=x):Qz t {s with names:=ns,kinds:=ks} :=
 ⟨h.ko,Qnm,hnd,Qor,h.top⟩
include hK hW
theorem Qz.block {s:SS} (h:Qz t s) {i:Int} (hi:InT t i) {more:List ByteArray} {kinds:List Int} (Qnm:more.length=kinds.length) (hnd:(s.names++more).Nodup) (Qor:∀x∈more,∃i,InT t i∧(t.at i).text=x) :
  Qz t (Jg t W s i more kinds):=by
 unfold Jg;split;· exact h
 have h1:Qz t {s with names:=s.names++more,kinds:=s.kinds++kinds}:=h.put (by rw[List.length_append,List.length_append,h.nk,Qnm]) hnd (fun x hx=>by
  rw[List.mem_append] at hx;exact hx.elim (h.sub x) (Qor x))
 have h2:=Qz.stmts hW (fun k hk=>hi.kid hK hk) h1;exact h2.put h.nk h.nd h.sub
theorem Qz.block0 {s:SS} (h:Qz t s) {i:Int} (hi:InT t i):Qz t (Jg t W s i [] []):=Qz.block hK hW h hi rfl (by simpa using h.nd) Sm
theorem Qz.blocks {l:List Int} (hl:∀k∈l,InT t k) {s:SS} (h:Qz t s):Qz t (Xx t W l s):=by
 unfold Xx
 induction l generalizing s with
 |nil=>exact h
 |cons k ks ih =>
  rw[List.foldl_cons];exact ih (fun k hk=>hl k (List.mem_cons_of_mem _ hk)) (Qz.block0 hK hW h (hl k Sm))
end
theorem EqX.eachGo (r:Reg) (t:Q1) (l:List Int) (all:List ByteArray) (s:SS):EqX s (eachGo r t l all s).2:=by
 induction l generalizing all s with
 |nil=>exact EqX.refl _
 |cons k ks ih =>
  simp only[YtkgkafjachjafaaGreat.eachGo];split;· exact EqX.fail _ _ _
  split;· exact EqX.fail _ _ _
  exact ih _ _
theorem EqX.params (t:Q1) (l:List Int) (names:List ByteArray) (kinds:List Int) (s:SS):EqX s (Z4 t l names kinds s).2.2:=by
 induction l generalizing names kinds s with
 |nil=>exact EqX.refl _
 |cons k ks ih =>
  simp only[Z4];split;· exact EqX.fail _ _ _
  exact ih _ _ _
theorem Qh2 (t:Q1) (l:List Int) (names:List ByteArray) (kinds:List Int) (s:SS) (hl:∀k∈l,InT t k) (Qnm:names.length=kinds.length) (hnd:names.Nodup) (Qor:∀x∈names,∃i,InT t i∧(t.at i).text=x) :
  (Z4 t l names kinds s).1.length=(Z4 t l names kinds s).2.1.length∧(Z4 t l names kinds s).1.Nodup∧∀x∈(Z4 t l names kinds s).1,∃i,InT t i∧(t.at i).text=x:=by
 induction l generalizing names kinds s with
 |nil=>exact⟨Qnm,hnd,Qor⟩
 |cons k ks ih =>
  simp only[Z4];split
  ·exact⟨Qnm,hnd,Qor⟩
  ·rename_i hh
   have hno:(t.at k).text∉names:=fun h=>hh ((Xu _ _).2 h)
   refine ih _ _ _ (fun k hk=>hl k (List.mem_cons_of_mem _ hk)) (by simp[Qnm]) ?_ ?_
   ·rw[List.nodup_append]
    exact⟨hnd,Sm,fun a ha b hb=>by simp at hb;subst hb;exact fun e=>hno (e▸ha)⟩
   ·intro x hx
    rw[List.mem_append] at hx;rcases hx with hx|hx
    ·exact Qor x hx
    ·simp at hx;subst hx;exact⟨k,hl k Sm,rfl⟩
section
variable {t:Q1} {E:SS→Int→Int×SS} {W:SS→Int→SS} (hE:∀s i,EqX s (E s i).2)
include hE
theorem EqX.spawn (r:Reg) (l:List Int) (had:List ByteArray) (s:SS):EqX s (Q1j r t E l had s):=by
 induction l generalizing had s with
 |nil=>exact EqX.refl _
 |cons k ks ih =>
  simp only[Q1j];split;· exact hE _ _
  split;· exact (hE _ _).trans (EqX.fail _ _ _)
  split;· exact (hE _ _).trans (EqX.fail _ _ _)
  split;· exact (hE _ _).trans (EqX.fail _ _ _)
  exact (hE _ _).trans (ih _ _)
theorem EqX.plain (r:Reg) (s:SS) (i:Int) (n:Qn) (sort:Int):EqX s (Xo r t E s i n sort):=by
 unfold Xo;dsimp only;split;· exact hE _ _
 split;· exact (hE _ _).trans (EqX.fail _ _ _)
 split;· exact (hE _ _).trans (EqX.fail _ _ _)
 split;· exact (hE _ _).trans (EqX.fail _ _ _)
 exact hE _ _
theorem Qz.local_ {s:SS} (h:Qz t s) {i:Int} (hi:InT t i):Qz t (Q0d E s i (t.at i)):=by
 unfold Q0d;dsimp only;have he:=h.of (hE s (kidAt (t.at i) 0));split;· exact he
 split
 ·split
  ·exact he.of (EqX.fail _ _ _)
  ·rename_i hl
   have hno:=Q5f (y:=(t.at i).text) (xs:=(E s (kidAt (t.at i) 0)).2.names) Om;refine he.put (by simp[he.nk]) ?_ ?_
   ·rw[List.nodup_append]
    exact⟨he.nd,Sm,fun a ha b hb=>by simp at hb;subst hb;exact fun e=>hno (e▸ha)⟩
   ·intro x hx
    rw[List.mem_append] at hx;rcases hx with hx|hx
    ·exact he.sub x hx
    ·simp at hx;subst hx;exact⟨i,hi,rfl⟩
 ·split;· exact he.of (EqX.fail _ _ _)
  split;· exact he.of (EqX.fail _ _ _)
  exact he
end
section
variable {t:Q1} {E:SS→Int→Int×SS} {W:SS→Int→SS} (hK:Qk t) (hE:∀s i,EqX s (E s i).2) (hW:∀s i,InT t i→Qz t s→Qz t (W s i))
include hK hW
theorem Qz.each (r:Reg) {s:SS} (h:Qz t s) {i:Int} (hi:InT t i):Qz t (Q42 r t W s (t.at i)):=by
 unfold Q42;dsimp only;have ha:=h.of (EqX.eachGo r t ((t.at (kidAt (t.at i) 0)).kids++(t.at (kidAt (t.at i) 1)).kids) [] s);split;· exact ha
 have hb:=Qz.block0 hK hW (s:={(eachGo r t ((t.at (kidAt (t.at i) 0)).kids++(t.at (kidAt (t.at i) 1)).kids) [] s).2 with each:=true,inner:=true,withs:=(eachGo r t ((t.at (kidAt (t.at i) 0)).kids++(t.at (kidAt (t.at i) 1)).kids) [] s).1.take (t.at (kidAt (t.at i) 0)).kids.length})
  ⟨ha.ko,ha.nk,ha.nd,ha.sub,ha.top⟩ (hi.kidAt hK 2)
 exact⟨hb.ko,hb.nk,hb.nd,hb.sub,hb.top⟩
theorem Qz.hear (r:Reg) {s:SS} (h:Qz t s) {i:Int} (hi:InT t i):Qz t (Q41 r t W s i (t.at i)):=by
 unfold Q41;dsimp only;split;· exact h.of (EqX.fail _ _ _)
 split;· exact h.of (EqX.fail _ _ _)
 rename_i hl
 have hno:=Q5f (y:=(t.at (kidAt (t.at i) 0)).text) (xs:=s.names) Om
 have hb:=Qz.block hK hW (s:={s with inner:=true}) (more:=[(t.at (kidAt (t.at i) 0)).text]) (kinds:=[J2 r 3 (t.at i).text]) ⟨h.ko,h.nk,h.nd,h.sub,h.top⟩ (hi.kidAt hK 1) rfl (by
  rw[List.nodup_append];exact⟨h.nd,Sm,fun a ha b hb=>by simp at hb;subst hb;exact fun e=>hno (e▸ha)⟩) (by
  intro x hx;simp at hx;subst hx;exact⟨_,hi.kidAt hK 0,rfl⟩)
 exact⟨hb.ko,hb.nk,hb.nd,hb.sub,hb.top⟩
include hE in
theorem Qz.branch {s:SS} (h:Qz t s) {i:Int} (hi:InT t i) (want:Int):Qz t (Y6 t E W s i (t.at i) want):=by
 unfold Y6;dsimp only;have he:=h.of (hE s (kidAt (t.at i) 0));split;· exact he
 split;· exact he.of (EqX.fail _ _ _)
 exact Qz.blocks hK hW (fun k hk=>hi.kid hK (List.mem_of_mem_drop hk)) he
end
theorem X7 {P:SS→Prop} {c:Prop} [Decidable c] {a b:SS} (ha:P a) (hb:P b):P (if c then a else b):=by split<;>assumption
theorem Qbp {P:SS→Prop} {c:Bool} {a b:SS} (ha:P a) (hb:P b):P (if c=true then a else b):=by split<;>assumption
theorem Qz.stmt {t:Q1} (hK:Qk t) (r:Reg) (f:Nat):∀s i,InT t i→Qz t s→Qz t (Qq r t f s i):=by
 induction f with
 |zero=>exact fun s i _ h=>h
 |succ f ih =>
  intro s i hi h;have hE:=EqX.expr r t f;unfold Qq;refine Qbp (P:=Qz t) ?_ (h.of (EqX.fail _ _ _));refine X7 (P:=Qz t) (Qz.local_ hE h hi) ?_;refine X7 (P:=Qz t) (h.of (EqX.plain hE _ _ _ _ _)) ?_;refine X7 (P:=Qz t) (h.of (EqX.plain hE _ _ _ _ _)) ?_;refine X7 (P:=Qz t) (h.of (EqX.plain hE _ _ _ _ _)) ?_;refine X7 (P:=Qz t) (Qz.branch hK hE ih h hi _) ?_;refine X7 (P:=Qz t) (Qz.branch hK hE ih h hi _) ?_;refine X7 (P:=Qz t) (Qz.each hK ih r h hi) ?_;refine X7 (P:=Qz t) (Qz.hear hK ih r h hi) ?_;refine X7 (P:=Qz t) (h.of (EqX.spawn hE _ _ _ _)) ?_;refine X7 (P:=Qz t) (X7 (P:=Qz t) (h.of (EqX.fail _ _ _)) h) ?_;exact X7 (P:=Qz t) (h.of (hE _ _)) h
theorem Qfo (t:Q1) (l:List Int) (y:ByteArray):Q46 t l y = -1∨Q46 t l y∈l:=by
 induction l with
 |nil=>exact Or.inl rfl
 |cons k ks ih =>
  simp only[Q46];split
  ·exact Or.inr Sm
  ·exact ih.imp id (fun h=>List.mem_cons_of_mem _ h)
theorem Qer {t:Q1} {ks ps:List Int} (h:∀(j:Nat) k p,ks[j]?=some k→ps[j]?=some p→(t.at p).i=k):Q29 t ks ps=true:=by
 induction ks generalizing ps with
 |nil=>simp[Q29]
 |cons k ks ih =>
  cases ps with
  |nil=>simp[Q29]
  |cons p ps =>
   simp only[Q29,Bool.and_eq_true,decide_eq_true_eq];exact⟨h 0 k p rfl rfl,ih (fun j k p hk hp=>h (j+1) k p (by simpa using hk) (by simpa using hp))⟩
theorem Qir {t:Q1} {ks ps:List Int} {j:Nat} {k p:Int} (hk:ks[j]?=some k) (hp:ps[j]?=some p) (hne:(t.at p).i≠k):Q29 t ks ps=false:=by
 induction ks generalizing ps j with
 |nil=>simp at hk
 |cons x xs ih =>
  cases ps with
  |nil=>simp at hp
  |cons y ys =>
   cases j with
   |zero=>simp at hk hp;subst hk;subst hp;simp[Q29,hne]
   |succ j=>simp only[Q29,ih (by simpa using hk) (by simpa using hp),Bool.and_false]
section
variable {w:World} {wb gb:Nat} {r0 r1 r2 t0 t1 ov:Value} {s:SS} {nv kv wv:Value} {r:Reg} {t:Q1}
theorem Qic (h:SpR w wb gb r0 r1 r2 t0 t1 ov s nv kv wv) (F:Xl (at2 wb gb) w r t r0 r1 r2 t0 t1) (hok:Qz t s) (hK:Qk t) (Qoc:∀k∈t.tops,InT t k)
  {i:Int} (hi:InT t i) (kids:List Int) (kq:Value) (hkq:Qf w kq kids) (Qnm:kids.length=(t.at i).kids.length) :
  Calls prog 232 #[.pointer (some ⟨wb,0,none⟩),.int .i64 i,kq] w fun e w'=>e=.returned (.int .i64 (Q55 t s i (t.at i) kids).1)∧AtW w wb gb r0 r1 r2 t0 t1 ov (Q55 t s i (t.at i) kids).2 nv kv wv w':=by
 obtain⟨mi,rfl,hnd,nb,no,nc,A,kb,ko,kc,rfl,hl,hml,⟨c0,c1,c2,c3⟩,kl,klc,hA,W0,hW0,h0,F0,hk0,hbx,hkc,cw3,H0,HF0,HK0,HBX,HKC⟩:=h.nodeH F hi;have HOK:=Hh hok;have HI:=Hh hi;obtain⟨z0,z1,z2,z3⟩:=hbx W0 (Kr _ _)
 have HX:Hi (Q55 t s (mi:Int) (t.at (mi:Int)) kids=(if Q46 t (t.tops.take s.top.toNat) (t.at (mi:Int)).text<0 then (0,s.fail 3 mi) else if (t.at (mi:Int)).kids.length+1≠(t.at (Q46 t (t.tops.take s.top.toNat) (t.at (mi:Int)).text)).kids.length then (0,s.fail 6 mi)
  else if Q29 t kids (t.at (Q46 t (t.tops.take s.top.toNat) (t.at (mi:Int)).text)).kids then ((t.at (Q46 t (t.tops.take s.top.toNat) (t.at (mi:Int)).text)).i,s) else (0,s.fail 4 mi))):=Hh rfl
 generalize Q55 t s (mi:Int) (t.at (mi:Int)) kids=X at HX ⊢;generalize hN:t.at (mi:Int)=n at *;have hfn:=Qlu h0 F0 Qoc hok.top n.text;have hfc:=Qfo t (t.tops.take s.top.toNat) n.text;generalize Q46 t (t.tops.take s.top.toNat) n.text=f at HX hfn hfc;have hf':f = -1∨InT t f:=hfc.imp id (fun h=>Qoc _ (List.mem_of_mem_take h));have Qvt:Qf W0 kq kids:=by rw[← hW0];exact hkq.old ((Kr nob _).alloc _).old
 have HKQ:=Hh Qvt;have Qof:=Hh Qnm;have HKK:=Hh hK;have HNN:=Hh hN;clear Qvt hkq hfc Qoc hok hi hbx hkc F0 h0 hk0 F h Qnm hK hN hnd;rcases hf' with rfl|hf
 ·go_enter func232,ntmps232
  go_wp2_with (first|(go_at_call 236;refine hfn.mono ?_;rintro e w1 ⟨rfl,hk1⟩;have H1:=Hh (H0.o.nobk hk1))|(go_at_call 136;refine (Qw H1.o _ _).mono ?_;rintro e w2 ⟨rfl,hat⟩));go_ret;rw[HX.o,Ps Dc];exact⟨rfl,hat.1,(HK0.o.trans (hk1.ofNob _)).trans hat.2⟩
 obtain⟨mf,rfl,hnf⟩:=Q1.at_lt hf;have HFI:=Hh hf;have Qut:(mf:Int)<t.nodes.length:=hf.2;have Qxp:¬ ((mf:Int)<0):=Om
 have Qqi:∀w1,Q0 nob W0 w1→∃B fb fo fc,(w1.cell? ⟨nb,no+mf*4,none⟩=some (.int .i64 (t.at (mf:Int)).kind)∧w1.cell? ⟨nb,no+mf*4+1,none⟩=some (.string (t.at (mf:Int)).text)∧w1.cell? ⟨nb,no+mf*4+2,none⟩=some (.int .i64 (t.at (mf:Int)).i)∧w1.cell? ⟨nb,no+mf*4+3,none⟩=some (.slice B (t.at (mf:Int)).kids.length fc)) ∧
   (t.at (mf:Int)).kids.length≤140737488355328∧(t.at (mf:Int)).kids.length≤fc∧(0<(t.at (mf:Int)).kids.length→B=some ⟨fb,fo,none⟩) ∧
   ∃W2,w1.alloc (.cells #[.int .i64 (t.at (mf:Int)).kind,.string (t.at (mf:Int)).text,.int .i64 (t.at (mf:Int)).i,.slice B (t.at (mf:Int)).kids.length fc] 70 (0,0))=W2∧Hi (SpR W2 wb gb r0 r1 r2 (.slice (some ⟨nb,no,none⟩) t.nodes.length nc) t1 ov s nv kv wv∧Xl (at2 wb gb) W2 r t r0 r1 r2 (.slice (some ⟨nb,no,none⟩) t.nodes.length nc) t1∧Q0 (at2 wb gb) w W2∧Q0 nob W0 W2) ∧
    (W2.cell? ⟨w.heap.size,3,none⟩=some (.slice A n.kids.length kc)∧W2.cell? ⟨w1.heap.size,2,none⟩=some (.int .i64 (t.at (mf:Int)).i)∧W2.cell? ⟨w1.heap.size,3,none⟩=some (.slice B (t.at (mf:Int)).kids.length fc)∧W2.cell? ⟨wb,3,none⟩=some (.slice (some ⟨nb,no,none⟩) t.nodes.length nc)) ∧
    Hi (∀j x,(t.at (mf:Int)).kids[j]?=some x→W2.cell? ⟨fb,fo+j,none⟩=some (.int .i64 x)):=by
  intro w1 hk1;obtain⟨nb2,no2,nc2,B,fb,fo,fc,e,_,_,d,bl,blc,hB,W2,hW2,h2,F2,hk2,Qvu,Qxq⟩:=(H0.o.nobk hk1).node (HF0.o.kept (hk1.ofNob _)) hnf;injection e with e1 _ e3
  cases e1;have Qvv:Q0 nob w1 W2:=hW2▸(Kr _ _).alloc _
  exact⟨B,fb,fo,fc,d,bl,blc,hB,W2,hW2,Hh ⟨h2,F2,(HK0.o.trans (hk1.ofNob _)).trans hk2,hk1.trans Qvv⟩,
   ⟨(HBX.o W2 ((hk1.trans Qvv).ofNob _)).2.2.2,(Qvu W2 (Kr _ _)).2.2.1,(Qvu W2 (Kr _ _)).2.2.2,h2.blk.cell 3 _ rfl⟩,Hh (fun j x hx=>Qxq j x hx W2 (Kr _ _))⟩
 have HAF:=Hh Qqi;clear Qqi hf hnf
 by_cases hq:n.kids.length+1=(t.at (mf:Int)).kids.length
 ·have t5:((n.kids.length:Int) != ((t.at (mf:Int)).kids.length:Int)-1)=false:=So
  have HQ:=Hh hq;generalize Qxr:t.at (mf:Int)=fnn at *;clear hq;go_enter func232,ntmps232;go_wp2_with (go_at_call 236;refine hfn.mono ?_;rintro e w1 ⟨rfl,hk1⟩;obtain⟨B,fb,fo,fc,⟨d0,d1,d2,d3⟩,bl,blc,hB,W2,hW2,H2,⟨y3,y2,yb,y0⟩,HB⟩:=HAF.o w1 hk1;have d3':w1.cell? ⟨wb,3,none⟩=some (.slice (some ⟨nb,no,none⟩) t.nodes.length nc):=hk1.cell id (H0.o.blk.cell 3 _ rfl));obtain⟨KA,qb,qo,qc,rfl,ql,qlc,hKA,hKC⟩:=(HKQ.o.old H2.o.2.2.2.old);have Qxs:=Hh hKC;have HL2:Hi (kids.length=fnn.kids.length-1∧1≤fnn.kids.length):=Hh (by have:=HQ.o;have:=Qof.o;omega);clear hKC;go_loopw [10] (fun i wr=>∃j:Nat,j≤kids.length∧i=.int .i64 j∧Hi (∀(i:Nat) k p,i<j→kids[i]?=some k→fnn.kids[i]?=some p→(t.at p).i=k)∧Q0 nob W2 wr) (fun i _=>kids.length-(intOf i).toNat)
  case atStart=>exact⟨0,Nat.zero_le _,rfl,Hh fun i k p hi _ _=>absurd hi Om,Kr _ _⟩
  case round =>
   obtain⟨j,hj,rfl,HNO,hkr⟩:=hrel;have HKR:=Hh hkr;obtain⟨wo,rfl⟩:∃wo:World,wo=wr:=⟨_,rfl⟩;have x3:=hkr.cell id yb;have x2:=hkr.cell id y2;have x0:=hkr.cell id y0
   by_cases hlt:j<kids.length
   ·obtain⟨k,hk⟩:=Q4 hlt
    obtain⟨p,hp⟩:=Q4 (xs:=fnn.kids) (j:=j) (by have:=HL2.o;omega);have e0:=hkr.cell id (Qxs.o j k hk);have e1:=hkr.cell id (HB.o j p hp);have hip:InT t p:=HFI.o.kid HKK.o (by rw[Qxr];exact Mg hp);obtain⟨mp,rfl,hnp⟩:=Q1.at_lt hip;obtain⟨B3,fb3,fo3,fc3,hd3,_,_,_,_⟩:=H2.o.2.1.cells hnp;obtain⟨_,_,x5,_⟩:=hd3 wo (HKR.o.ofNob _);have hmp:(mp:Int)<t.nodes.length:=hip.2;clear hd3;obtain rfl:=hKA Om;obtain rfl:=hB (by have:=HL2.o;omega);have HKJ:=Hh hk;have HPJ:=Hh hp;have hj2:(j:Int)<fnn.kids.length:=by have:=HL2.o;omega
    clear hk hp hnp hip hkr hKA hB;generalize hpi:(t.at (mp:Int)).i=pi at *;have HPI:=Hh hpi;clear hpi;cases he:(pi != k) with
    |false =>
     go_wp2_with fail;go_quiet (fail);go_wp2_with fail;go_round
     case rel =>
      refine⟨j+1,Om,Gm,Hh fun i k p hi hk hp=>?_,HKR.o.drewN _⟩
      by_cases e:i=j
      ·subst e;rw[HKJ.o] at hk;rw[HPJ.o] at hp;cases hk;cases hp;rw[HPI.o];simpa using he
      ·exact HNO.o i k p Om hk hp
     case measure=>exact Me
    |true =>
     go_wp2_with fail;go_quiet (fail);go_wp2_with (go_at_call 136;refine (Qw ((H2.o.1.nobk HKR.o).drewN _) _ _).mono ?_;rintro e w3 ⟨rfl,hat⟩);go_ret;rw[HX.o,Ng Om,Ng (by have:=HQ.o;omega),Ng (by rw[Qir HKJ.o HPJ.o (by rw[HPI.o];simpa using he)];simp)];exact⟨rfl,hat.1,(H2.o.2.2.1.trans ((HKR.o.drewN _).ofNob _)).trans hat.2⟩
   ·go_wp2_with fail
    go_ret;obtain rfl:j=kids.length:=Om
    rw[HX.o,Ng Om,Ng (by have:=HQ.o;omega),Ps (Qer fun j k p hk hp=>HNO.o j k p (by have:=(Gs hk).1;exact this) hk hp)];exact⟨rfl,H2.o.1.nobk HKR.o,H2.o.2.2.1.trans (HKR.o.ofNob _)⟩
 ·have t5:((n.kids.length:Int) != ((t.at (mf:Int)).kids.length:Int)-1)=true:=So
  have HQ:=Hh hq;clear hq;go_enter func232,ntmps232;go_wp2_with (first|(go_at_call 236;refine hfn.mono ?_;rintro e w1 ⟨rfl,hk1⟩;obtain⟨B,fb,fo,fc,⟨d0,d1,d2,d3⟩,bl,blc,hB,W2,hW2,H2,⟨y3,y2,yb,y0⟩,HB⟩:=HAF.o w1 hk1;have d3':w1.cell? ⟨wb,3,none⟩=some (.slice (some ⟨nb,no,none⟩) t.nodes.length nc):=hk1.cell id (H0.o.blk.cell 3 _ rfl))|(go_at_call 136;refine (Qw H2.o.1 _ _).mono ?_;rintro e w3 ⟨rfl,hat⟩));go_ret;rw[HX.o,Ng Om,Ps (by have:=HQ.o;omega)];exact⟨rfl,hat.1,H2.o.2.2.1.trans hat.2⟩
end
def Q3d (r:Reg) (t:Q1) (f:Nat) (E:SS→Int→Int×SS):Prop :=
 ∀(w:World) (wb gb:Nat) (r0 r1 r2 t0 t1 ov:Value) (s:SS) (nv kv wv:Value) (i:Int),SpR w wb gb r0 r1 r2 t0 t1 ov s nv kv wv→Xl (at2 wb gb) w r t r0 r1 r2 t0 t1→Qz t s→InT t i→i<f→Qu (t.at i).kind=true →
  Calls prog 212 #[.pointer (some ⟨wb,0,none⟩),.int .i64 i] w fun e w'=>e=.returned (.int .i64 (E s i).1)∧AtW w wb gb r0 r1 r2 t0 t1 ov (E s i).2 nv kv wv w'
def Q8v (r:Reg) (t:Q1):List Int→SS→Int×SS
 |[],s=>(0,s)
 |k::ks,s=>if (Ys r s (t.at k).text k).2.code≠0 then (0,(Ys r s (t.at k).text k).2) else Yd r t (Ys r s (t.at k).text k).1 ks (Ys r s (t.at k).text k).2
section
variable {w:World} {wb gb:Nat} {r0 r1 r2 t0 t1 ov:Value} {s:SS} {nv kv wv:Value} {r:Reg} {t:Q1} {E:SS→Int→Int×SS} {f:Nat}
theorem Qgv (hE:Q3d r t f E) (hQ:∀s i,EqX s (E s i).2) (h:SpR w wb gb r0 r1 r2 t0 t1 ov s nv kv wv) (F:Xl (at2 wb gb) w r t r0 r1 r2 t0 t1) (hok:Qz t s) (hK:Qk t)
  {i:Int} (hi:InT t i) (hif:i≤f) {a:Int} {ks:List Int} (Qnf:(t.at i).kids=a::ks) (hea:Qu (t.at a).kind=true) (h00:s.code=0) :
  Calls prog 230 #[.pointer (some ⟨wb,0,none⟩),.int .i64 i] w fun e w'=>e=.returned (.int .i64 (Q2a r t E s i (t.at i)).1)∧AtW w wb gb r0 r1 r2 t0 t1 ov (Q2a r t E s i (t.at i)).2 nv kv wv w':=by
 obtain⟨mi,rfl,hnd,nb,no,nc,A,kb,ko,kc,rfl,hl,hml,⟨c0,c1,c2,c3⟩,kl,klc,hA,W0,hW0,h0,F0,hk0,hbx,hkc,cw3,H0,HF0,HK0,HBX,HKC⟩:=h.nodeH F hi;have HOK:=Hh hok;have HI:=Hh hi;have hka:kidAt (t.at (mi:Int)) 0=a:=by simp[kidAt,Qnf]
 have hai:InT t a:=hi.kid hK (by rw[Qnf];simp);have haf:a<f:=by have:=(hK.mem hi (k:=a) (by rw[Qnf];simp)).2;omega
 have hx:Q2a r t E s (mi:Int) (t.at (mi:Int))=(if s.each then (if (E s a).2.code≠0 then (0,(E s a).2) else if (E s a).1≠1 then (0,(E s a).2.fail 4 mi) else
   Q8v r t ks (E s a).2)
  else (0,s.fail 5 mi)):=by
  unfold Q2a Q8v;rw[hka,Qnf];cases ks<;>rfl
 have HX:=Hh hx;clear hx;generalize Q2a r t E s (mi:Int) (t.at (mi:Int))=X at HX ⊢;have HN:Hi (t.at (mi:Int)=t.at (mi:Int)):=Hh rfl;have Qnm:(t.at (mi:Int)).kids.length=ks.length+1:=by rw[Qnf];rfl
 have HKK:=Hh hK;have Qqj:Hi (∀k∈ks,InT t k):=Hh fun k hk=>hi.kid hK (by rw[Qnf];simp[hk])
 obtain⟨z0,z1,z2,z3⟩:=hbx W0 (Kr _ _);have ze:=hkc 0 a (by rw[Qnf];rfl) W0 (Kr _ _);rw[Nat.add_zero] at ze;obtain rfl:=hA Om;have Qo7:0<(t.at (mi:Int)).kids.length:=Om
 have Qof:=Hh Qnm;clear Qnm;have p8:W0.cell? ⟨wb,8,none⟩=some (.bool s.each):=h0.blk.cell 8 _ rfl;have HKJ:Hi (∀(j:Nat) k,ks[j]?=some k→∀W,Q0 (at2 wb gb) W0 W→W.cell? ⟨kb,ko+(1+j),none⟩=some (.int .i64 k)):=Hh fun j k hk W hW=>hkc (1+j) k (by rw[Qnf,Nat.add_comm];exact hk) W hW
 have Qnr:=hE W0 wb gb _ _ _ _ _ _ s nv kv wv a h0 F0 hok hai haf hea;have Qo0:=Hh (hok.of (hQ s a));clear hkc hbx hk0 F0 h0 hok hi hK Qnf hE hQ F h hai haf hea hka hif hA hnd;generalize hN:t.at (mi:Int)=n at *;cases hea:s.each with
 |false =>
  have hea':=hea;rw[hea] at p8;have HEA:=Hh hea;clear hea hea';go_enter func230,ntmps230;go_wp2_with (go_at_call 136;refine (Qw H0.o _ _).mono ?_;rintro e w2 ⟨rfl,hat⟩);go_returns;rw[HX.o,Ng (by rw[HEA.o];simp)];exact⟨rfl,hat.1,HK0.o.trans hat.2⟩
 |true =>
 rw[hea,Ps rfl] at HX;rw[hea] at p8;clear hea;generalize E s a=q at Qnr HX Qo0;obtain⟨k1,s1⟩:=q;dsimp only at Qnr HX Qo0;cases hc:(s1.code != 0) with
 |true =>
  have HC:=Hh hc;go_enter func230,ntmps230;go_wp2_with (go_at_call 212;refine Qnr.mono ?_;rintro e w1 ⟨rfl,Qng⟩;have H1:=Hh Qng.1;have HK1:=Hh Qng.2;have pc:w1.cell? ⟨wb,13,none⟩=some (.int .i64 s1.code):=Qng.1.blk.cell 13 _ rfl;have y3:=(HBX.o w1 Qng.2).2.2.2;clear Qng);go_returns;rw[HX.o,Ps (by simpa using HC.o)];exact⟨rfl,H1.o,HK0.o.trans HK1.o⟩
 |false =>
 have HC:=Hh hc;rw[Ng (by simpa using hc)] at HX;cases hk1:(k1 != 1) with
 |true =>
  have Qxt:=Hh hk1;go_enter func230,ntmps230;go_wp2_with (first|(go_at_call 212;refine Qnr.mono ?_;rintro e w1 ⟨rfl,Qng⟩;have H1:=Hh Qng.1;have HK1:=Hh Qng.2;have pc:w1.cell? ⟨wb,13,none⟩=some (.int .i64 s1.code):=Qng.1.blk.cell 13 _ rfl;have y3:=(HBX.o w1 Qng.2).2.2.2;clear Qng)|(go_at_call 136;refine (Qw H1.o _ _).mono ?_;rintro e w2 ⟨rfl,hat⟩));go_returns;rw[HX.o,Ps (by simpa using Qxt.o)];exact⟨rfl,hat.1,(HK0.o.trans HK1.o).trans hat.2⟩
 |false =>
 rw[Ng (by simpa using hk1)] at HX;go_enter func230,ntmps230;go_wp2_with (go_at_call 212;refine Qnr.mono ?_;rintro e w1 ⟨rfl,Qng⟩;have H1:=Hh Qng.1;have HK1:=Hh Qng.2;have pc:w1.cell? ⟨wb,13,none⟩=some (.int .i64 s1.code):=Qng.1.blk.cell 13 _ rfl;have y3:=(HBX.o w1 Qng.2).2.2.2;clear Qng);go_loopw [7,8,9] (fun first m u9 wr=>∃(j:Nat) (z:SS) (k0:Int),j≤ks.length∧m=.int .i64 ((1+j:Nat):Int)∧first=.int .i64 k0∧z.code=0∧Hi (AtW W0 wb gb r0 r1 r2 (.slice (some ⟨nb,no,none⟩) t.nodes.length nc) t1 ov z nv kv wv wr∧((j=0∧k0=0∧X=Q8v r t ks z)∨(0<j∧X=Yd r t k0 (ks.drop j) z)))) (fun _ m _ _=>ks.length+1-(intOf m).toNat)
 case atStart=>exact⟨0,s1,0,Nat.zero_le _,rfl,rfl,by simpa using HC.o,Hh ⟨⟨H1.o,HK1.o⟩,Or.inl ⟨rfl,rfl,HX.o⟩⟩⟩
 case round =>
  obtain⟨j,z,k0,hj,rfl,rfl,hz,HR⟩:=hrel;obtain⟨wo,rfl⟩:∃wo:World,wo=wr:=⟨_,rfl⟩;obtain⟨jm,hjm⟩:∃jm,1+j=jm:=⟨_,rfl⟩;rw[hjm];have HJM:=Hh hjm;obtain⟨x0,x1,x2,x3⟩:=HBX.o wo HR.o.1.2
  by_cases hlt:j<ks.length
  ·obtain⟨k,hk⟩:=Q4 hlt
   obtain⟨pm,rfl,hpn⟩:=Q1.at_lt (Qqj.o k (Mg hk));have hpm:(pm:Int)<t.nodes.length:=(Qqj.o _ (Mg hk)).2;have s0:∀W,Q0 (at2 wb gb) wo W→W.cell? ⟨kb,ko+jm,none⟩=some (.int .i64 (pm:Int)):=fun W hW=>HJM.o▸HKJ.o j _ hk W (HR.o.1.2.trans hW)
   obtain⟨B,fb,fo,fc,hd,_,_,_,_⟩:=HF0.o.cells hpn;have s1':∀W,Q0 (at2 wb gb) wo W→W.cell? ⟨nb,no+pm*4+1,none⟩=some (.string (t.at (pm:Int)).text):=fun W hW=>(hd W (HR.o.1.2.trans hW)).2.1
   have s3:∀W,Q0 (at2 wb gb) wo W→W.cell? ⟨w.heap.size,3,none⟩=some (.slice (some ⟨kb,ko,none⟩) n.kids.length kc):=fun W hW=>(HBX.o W (HR.o.1.2.trans hW)).2.2.2
   have p3:wo.cell? ⟨wb,3,none⟩=some (.slice (some ⟨nb,no,none⟩) t.nodes.length nc):=HR.o.1.1.blk.cell 3 _ rfl;have p3':wo.drew.cell? ⟨wb,3,none⟩=some (.slice (some ⟨nb,no,none⟩) t.nodes.length nc):=p3;have Qpj:=Hh (Q85 (HR.o.1.1.drew) (HF0.o.kept (HR.o.1.2.drew)) (t.at (pm:Int)).text (pm:Int));have HKJ':=Hh hk;have hjn:(jm:Int)<(n.kids.length:Int):=by have:=Qof.o;omega
   have hr0:Q0 (at2 wb gb) wo wo:=Kr _ _
   have HXA:Hi (X=if (Ys r z (t.at (pm:Int)).text pm).2.code≠0 then (0,(Ys r z (t.at (pm:Int)).text pm).2) else if j=0 then Yd r t (Ys r z (t.at (pm:Int)).text pm).1 (ks.drop (j+1)) (Ys r z (t.at (pm:Int)).text pm).2
     else if (Ys r z (t.at (pm:Int)).text pm).1≠k0 then (0,(Ys r z (t.at (pm:Int)).text pm).2.fail 4 pm) else Yd r t k0 (ks.drop (j+1)) (Ys r z (t.at (pm:Int)).text pm).2):=by
    refine Hh ?_;rcases HR.o.2 with ⟨rfl,_,e⟩|⟨hp,e⟩
    ·cases ks with
     |nil=>simp at hlt
     |cons k ks=>simp at hk;subst hk;rw[e,Ps rfl];rfl
    ·rw[e,Qh hk,Ng (show ¬ j=0 by omega)];rfl
   clear hk hpn hd;generalize Ys r z (t.at (pm:Int)).text (pm:Int)=c at Qpj HXA;obtain⟨k2,z2⟩:=c;dsimp only at Qpj HXA;have q3:=s3 wo hr0;have q0:=s0 wo hr0;have q1:=s1' wo hr0;have Qxu:jm≤140737488355328:=Om
   clear hjm;cases hc2:(z2.code != 0) with
   |true =>
    have HC2:=Hh hc2;go_wp2_with fail;go_region_held3 (fun W=>W.cell? ⟨wb,3,none⟩=some (.slice (some ⟨nb,no,none⟩) t.nodes.length nc)∧W.cell? ⟨kb,ko+jm,none⟩=some (.int .i64 (pm:Int))∧W.cell? ⟨nb,no+pm*4+1,none⟩=some (.string (t.at (pm:Int)).text)∧W.cell? ⟨w.heap.size,3,none⟩=some (.slice (some ⟨kb,ko,none⟩) n.kids.length kc)) (first|assumption|exact⟨p3,q0,q1,q3⟩|exact⟨pc3,y0,y1,y3⟩) ((go_at_call 231;refine (Qpj.o).mono ?_;rintro e w2 ⟨rfl,hat⟩;have hk1:=(hr0.drew).trans hat.2;have HA2:=Hh hat.1;have HK2:=Hh hk1;have pc:w2.cell? ⟨wb,13,none⟩=some (.int .i64 z2.code):=hat.1.blk.cell 13 _ rfl;have pc3:w2.cell? ⟨wb,3,none⟩=some (.slice (some ⟨nb,no,none⟩) t.nodes.length nc):=hat.1.blk.cell 3 _ rfl;have y3:=s3 w2 hk1;have y0:=s0 w2 hk1;have y1:=s1' w2 hk1;clear hat hk1;dsimp only));go_wp2_with fail;go_returns;rw[HXA.o,Ps (by simpa using HC2.o)];exact⟨rfl,HA2.o,(HK0.o.trans HR.o.1.2).trans HK2.o⟩
   |false =>
   have hz2:z2.code=0:=by simpa using hc2
   have HZ2:=Hh hz2;rw[Ng (by simpa using hc2)] at HXA
   by_cases hj0:j=0
   ·have tj:decide ((jm:Int)>1)=false:=Df (by have:=HJM.o;omega)
    have tj2:((jm:Int)==1)=true:=by rw[beq_iff_eq];have:=HJM.o;omega
    have tj':decide ((1:Int)<(jm:Int))=false:=Df (by have:=HJM.o;omega);rw[Ps hj0] at HXA;have HJ0:=Hh hj0;clear hj0 hz2;go_wp2_with fail;go_region_held3 (fun W=>W.cell? ⟨wb,3,none⟩=some (.slice (some ⟨nb,no,none⟩) t.nodes.length nc)∧W.cell? ⟨kb,ko+jm,none⟩=some (.int .i64 (pm:Int))∧W.cell? ⟨nb,no+pm*4+1,none⟩=some (.string (t.at (pm:Int)).text)∧W.cell? ⟨w.heap.size,3,none⟩=some (.slice (some ⟨kb,ko,none⟩) n.kids.length kc)) (first|assumption|exact⟨p3,q0,q1,q3⟩|exact⟨pc3,y0,y1,y3⟩) ((go_at_call 231;refine (Qpj.o).mono ?_;rintro e w2 ⟨rfl,hat⟩;have hk1:=(hr0.drew).trans hat.2;have HA2:=Hh hat.1;have HK2:=Hh hk1;have pc:w2.cell? ⟨wb,13,none⟩=some (.int .i64 z2.code):=hat.1.blk.cell 13 _ rfl;have pc3:w2.cell? ⟨wb,3,none⟩=some (.slice (some ⟨nb,no,none⟩) t.nodes.length nc):=hat.1.blk.cell 3 _ rfl;have y3:=s3 w2 hk1;have y0:=s0 w2 hk1;have y1:=s1' w2 hk1;clear hat hk1;dsimp only));go_wp2_with fail;go_round
    case rel=>exact⟨j+1,z2,k2,Om,(by have:=HJM.o;congr 1;omega),rfl,HZ2.o,Hh ⟨⟨HA2.o,HR.o.1.2.trans HK2.o⟩,Or.inr ⟨Om,HXA.o⟩⟩⟩
    case measure=>have:=HJM.o;simp[intOf];omega
   ·have tj:decide ((jm:Int)>1)=true:=Dt (by have:=HJM.o;omega)
    have tj2:((jm:Int)==1)=false:=by rw[beq_eq_false_iff_ne];have:=HJM.o;omega
    have tj':decide ((1:Int)<(jm:Int))=true:=Dt (by have:=HJM.o;omega);rw[Ng hj0] at HXA;have HJ0:=Hh hj0;clear hj0 hz2;cases hk2:(k2 != k0) with
    |true =>
     have HKE:=Hh hk2;go_wp2_with fail;go_region_held3 (fun W=>W.cell? ⟨wb,3,none⟩=some (.slice (some ⟨nb,no,none⟩) t.nodes.length nc)∧W.cell? ⟨kb,ko+jm,none⟩=some (.int .i64 (pm:Int))∧W.cell? ⟨nb,no+pm*4+1,none⟩=some (.string (t.at (pm:Int)).text)∧W.cell? ⟨w.heap.size,3,none⟩=some (.slice (some ⟨kb,ko,none⟩) n.kids.length kc)) (first|assumption|exact⟨p3,q0,q1,q3⟩|exact⟨pc3,y0,y1,y3⟩) ((go_at_call 231;refine (Qpj.o).mono ?_;rintro e w2 ⟨rfl,hat⟩;have hk1:=(hr0.drew).trans hat.2;have HA2:=Hh hat.1;have HK2:=Hh hk1;have pc:w2.cell? ⟨wb,13,none⟩=some (.int .i64 z2.code):=hat.1.blk.cell 13 _ rfl;have pc3:w2.cell? ⟨wb,3,none⟩=some (.slice (some ⟨nb,no,none⟩) t.nodes.length nc):=hat.1.blk.cell 3 _ rfl;have y3:=s3 w2 hk1;have y0:=s0 w2 hk1;have y1:=s1' w2 hk1;clear hat hk1;dsimp only));go_wp2_with (go_at_call 136;refine (Qw HA2.o _ _).mono ?_;rintro e w3 ⟨rfl,Qnv⟩);go_returns;rw[HXA.o,Ps (by simpa using HKE.o)];exact⟨rfl,Qnv.1,((HK0.o.trans HR.o.1.2).trans HK2.o).trans Qnv.2⟩
    |false =>
     have HKE:=Hh hk2;go_wp2_with fail;go_region_held3 (fun W=>W.cell? ⟨wb,3,none⟩=some (.slice (some ⟨nb,no,none⟩) t.nodes.length nc)∧W.cell? ⟨kb,ko+jm,none⟩=some (.int .i64 (pm:Int))∧W.cell? ⟨nb,no+pm*4+1,none⟩=some (.string (t.at (pm:Int)).text)∧W.cell? ⟨w.heap.size,3,none⟩=some (.slice (some ⟨kb,ko,none⟩) n.kids.length kc)) (first|assumption|exact⟨p3,q0,q1,q3⟩|exact⟨pc3,y0,y1,y3⟩) ((go_at_call 231;refine (Qpj.o).mono ?_;rintro e w2 ⟨rfl,hat⟩;have hk1:=(hr0.drew).trans hat.2;have HA2:=Hh hat.1;have HK2:=Hh hk1;have pc:w2.cell? ⟨wb,13,none⟩=some (.int .i64 z2.code):=hat.1.blk.cell 13 _ rfl;have pc3:w2.cell? ⟨wb,3,none⟩=some (.slice (some ⟨nb,no,none⟩) t.nodes.length nc):=hat.1.blk.cell 3 _ rfl;have y3:=s3 w2 hk1;have y0:=s0 w2 hk1;have y1:=s1' w2 hk1;clear hat hk1;dsimp only));go_wp2_with fail;go_round
     case rel=>exact⟨j+1,z2,k0,Om,(by have:=HJM.o;congr 1;omega),rfl,HZ2.o,Hh ⟨⟨HA2.o,HR.o.1.2.trans HK2.o⟩,Or.inr ⟨Om,by rw[HXA.o,Ng (by simpa using HKE.o)]⟩⟩⟩
     case measure=>have:=HJM.o;simp[intOf];omega
  ·have hje:j=ks.length:=Om
   have HJE:=Hh hje;have hjn':decide ((jm:Int)<(n.kids.length:Int))=false:=Df (by have:=Qof.o;omega);have Qpe:decide (jm<n.kids.length)=false:=Df (by have:=Qof.o;omega);have Qqk:n.kids.length≤jm:=by have:=Qof.o;omega
   clear hje hjm hlt;go_wp2_with fail;go_returns
   have hX:X=(k0,z):=by
    rcases HR.o.2 with ⟨e0,e1,e⟩|⟨hp,e⟩
    ·rw[HJE.o] at e0
     have:ks=[]:=List.eq_nil_of_length_eq_zero e0;subst this;subst e1;exact e
    ·rw[e,HJE.o,List.drop_length];rfl
   rw[hX];exact⟨rfl,HR.o.1.1,HK0.o.trans HR.o.1.2⟩
end
end Go.Proofs.YtkgkafjachjafaaGreat
