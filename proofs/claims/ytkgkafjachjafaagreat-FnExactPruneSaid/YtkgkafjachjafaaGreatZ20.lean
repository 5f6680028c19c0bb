/- Part 20 of: FnExactPrune answers true; no condition. -/
import Derived.Handy
import Derived.Deep.DeepCutAuto
import Derived.BigQuiet
import Derived.Test.YtkgkafjachjafaaGreatZ11
import Derived.Test.YtkgkafjachjafaaGreatZ16
import Derived.Test.YtkgkafjachjafaaGreatZ18
set_option linter.unusedVariables false
set_option maxHeartbeats 1000000
set_option maxRecDepth 100000
open Go Go.RowKit
namespace Go.Proofs.YtkgkafjachjafaaGreat
open Tryz
theorem Qf8 (y:ByteArray) (xs:List ByteArray):-1≤Qw y xs:=by
 induction xs with
 |nil=>simp[Qw]
 |cons x xs ih=>simp only[Qw];split<;>first|omega|(split<;>omega)
theorem Q8z (y:ByteArray) (xs:List ByteArray):Qw y xs<xs.length:=by
 induction xs with
 |nil=>simp[Qw]
 |cons x xs ih=>simp only[Qw,List.length_cons];split<;>first|omega|(split<;>omega)
def Q9e (y:ByteArray) (xs:List ByteArray) (j:Nat):Prop:=∀i x,j≤i→xs[i]?=some x→x≠y
theorem Q6i {y:ByteArray} {xs:List ByteArray} (h:Q9e y xs 0):Qw y xs = -1:=by
 induction xs with
 |nil=>rfl
 |cons x xs ih =>
  have:=ih (fun i z _ hz=>h (i+1) z (by omega) (by simpa using hz));simp only[Qw,this,Ps (show (-1:Int)<0 by decide),Ng (h 0 x (by omega) rfl)]
theorem Qca {y:ByteArray} {xs:List ByteArray} {j:Nat} (h:Q9e y xs (j+1)) (hj:xs[j]?=some y):Qw y xs=j:=by
 induction xs generalizing j with
 |nil=>simp at hj
 |cons x xs ih =>
  cases j with
  |zero =>
   have:=Q6i (y:=y) (xs:=xs) (fun i z _ hz=>h (i+1) z (by omega) (by simpa using hz));simp at hj;simp[Qw,this,hj]
  |succ j =>
   have:=ih (j:=j) (fun i z hi hz=>h (i+1) z (by omega) (by simpa using hz)) (by simpa using hj);simp only[Qw,this,Ng (show ¬ ((j:Int)<0) by omega)];push_cast;rfl
theorem Ji (w:World) (v:Value) (xs:List ByteArray) (y:ByteArray) (hv:Yv w v xs) :
  Calls prog 33 #[v,.string y] w fun e w'=>e=.returned (.bool (Z9 y xs))∧w=w':=by
 obtain⟨A,b,o,c,rfl,hl,hlc,hA,hc⟩:=hv;have HC:=Hh hc;clear hc;go_enter func33,ntmps33;go_wp2_with fail;go_loop [5] (fun i=>∃j:Nat,j≤xs.length∧i=.int .i64 j∧Hi (Q5m y xs j)) (fun i=>xs.length-(intOf i).toNat)
 case atStart=>exact⟨0,Nat.zero_le _,rfl,Hh fun i d hi _=>absurd hi (by omega)⟩
 case round =>
  obtain⟨j,hj,rfl,HNO⟩:=hrel
  by_cases hlt:j<xs.length
  ·obtain⟨x,hx⟩:=Q3 hlt
   have e0:=HC.o j x hx;have HX:=Hh hx;obtain rfl:=hA (by omega);clear hx hA;cases ty:(x.toList==y.toList) with
   |true =>
    go_wp2_with fail;go_ret;exact⟨Q6 (by unfold Z9;rw[Q4s HNO.o HX.o (Q0c ty)];exact (Dt (by omega)).symm),rfl⟩
   |false =>
    go_wp2_with fail;go_round
    case rel=>exact⟨j+1,by omega,by go_num,Hh (Q4k HNO.o HX.o (Q1s ty))⟩
    case measure=>simp[intOf];omega
  ·go_wp2_with fail
   go_ret;obtain rfl:j=xs.length:=by omega
   exact⟨Q6 (by unfold Z9;rw[Q46 HNO.o];rfl),rfl⟩
theorem Qfz (w:World) (r:Reg) (r0 r1 r2:Value) (sort:Int) (h0:Z1 w r0 r.comps) (h1:Z1 w r1 r.ress) (h2:Z1 w r2 r.evts) :
  Calls prog 221 #[.agg #[r0,r1,r2],.int .i64 sort] w fun e w'=>∃v,e=.returned v∧Z1 w v (r.list sort)∧Q0 nob w w':=by
 by_cases e1:sort=1
 ·have e1':(sort==1)=true:=by simpa using e1
  go_enter func221,ntmps221;go_wp2_with fail;go_ret;exact⟨_,rfl,by simpa[Reg.list,e1] using h0,(Kr _ _).alloc _⟩
 have e1':(sort==1)=false:=by simpa using e1
 by_cases e2:sort=2
 ·have e2':(sort==2)=true:=by simpa using e2
  go_enter func221,ntmps221;go_wp2_with fail;go_ret;exact⟨_,rfl,by simpa[Reg.list,e1,e2] using h1,(Kr _ _).alloc _⟩
 have e2':(sort==2)=false:=by simpa using e2
 by_cases e3:sort=3
 ·have e3':(sort==3)=true:=by simpa using e3
  go_enter func221,ntmps221;go_wp2_with fail;go_ret;exact⟨_,rfl,by simpa[Reg.list,e1,e2,e3] using h2,(Kr _ _).alloc _⟩
 have e3':(sort==3)=false:=by simpa using e3
 go_enter func221,ntmps221;go_wp2_with fail;go_ret;exact⟨_,rfl,by rw[Reg.list,Ng e1,Ng e2,Ng e3];exact⟨none,0,0,0,rfl,by simp,by simp,by simp,by simp⟩,(Kr _ _).alloc _⟩
section
variable {w:World} {wb gb:Nat} {r0 r1 r2 t0 t1 ov:Value} {s:SS} {nv kv wv:Value} {r:Reg} {t:Q1}
theorem Qu (h:SpR w wb gb r0 r1 r2 t0 t1 ov s nv kv wv) (code node:Int) :
  Calls prog 136 #[.pointer (some ⟨wb,0,none⟩),.int .i64 code,.int .i64 node] w fun e w'=>e=.returned (.int .i64 0)∧AtW w wb gb r0 r1 r2 t0 t1 ov (s.fail code node) nv kv wv w':=by
 have c2:w.cell? ⟨wb,13,none⟩=some (.int .i64 s.code):=h.blk.cell 13 _ rfl;have c3:w.cell? ⟨wb,14,none⟩=some (.int .i64 s.node):=h.blk.cell 14 _ rfl;have q2:=h.blk.free 13;have q3:=h.blk.free 14;have H:=Hh h;clear h
 by_cases hc:s.code=0
 ·go_enter func136,ntmps136
  go_wp2_with fail;go_ret;refine⟨rfl,?_,((Kr _ _).wb _ _).wb _ _⟩;have:=(H.o.setCode code).setNode node;simpa[SS.fail,hc] using this
 ·go_enter func136,ntmps136
  go_wp2_with fail;go_ret;refine⟨rfl,?_,Kr _ _⟩;simpa[SS.fail,hc] using H.o
theorem Q0n (h:SpR w wb gb r0 r1 r2 t0 t1 ov s nv kv wv) (y:ByteArray) :
  Calls prog 220 #[.pointer (some ⟨wb,0,none⟩),.string y] w fun e w'=>e=.returned (.int .i64 (Qw y s.names))∧w=w':=by
 have c6:w.cell? ⟨wb,6,none⟩=some nv:=h.blk.cell 6 _ rfl;obtain⟨A,b,o,c,rfl,hl,hlc,hA,hc⟩:=h.n.now;have HC:=Hh hc;clear hc h;go_enter func220,ntmps220;go_wp2_with fail;go_loop [5] (fun i=>∃j:Nat,j≤s.names.length∧i=.int .i64 ((j:Int)-1)∧Hi (Q9e y s.names j)) (fun i=>(intOf i+1).toNat)
 case atStart=>exact⟨s.names.length,Nat.le_refl _,rfl,Hh fun i x hi hx=>by have:=(Gs hx).1;omega⟩
 case round =>
  obtain⟨j,hj,rfl,HNO⟩:=hrel;cases j with
  |zero =>
   go_wp2_with fail;go_ret;exact⟨Jn (Q6i HNO.o).symm,rfl⟩
  |succ j =>
   obtain⟨x,hx⟩:=Q3 (xs:=s.names) (j:=j) (by omega);have e0:=HC.o j x hx;have HX:=Hh hx;obtain rfl:=hA (by omega);have hjj:((j+1:Nat):Int)-1=(j:Int):=by omega
   rw[hjj];clear hx hA hjj;cases ty:(x.toList==y.toList) with
   |true =>
    go_wp2_with fail;go_ret;exact⟨Jn (Qca HNO.o (by rw[HX.o,Q0c ty])).symm,rfl⟩
   |false =>
    go_wp2_with fail;go_round
    case rel =>
     refine⟨j,by omega,by go_num,Hh fun i z hi hz=>?_⟩
     by_cases e:i=j
     ·subst e;rw[HX.o] at hz;cases hz;exact Q1s ty
     ·exact HNO.o i z (by omega) hz
    case measure=>simp[intOf]
theorem Za (h:SpR w wb gb r0 r1 r2 t0 t1 ov s nv kv wv) (F:Zb (at2 wb gb) w r t r0 r1 r2 t0 t1) (sort:Int) (y:ByteArray) :
  Calls prog 211 #[.pointer (some ⟨wb,0,none⟩),.int .i64 sort,.string y] w fun e w'=>e=.returned (.int .i64 (J3 r sort y))∧Q0 nob w w':=by
 have c0:w.cell? ⟨wb,0,none⟩=some r0:=h.blk.cell 0 _ rfl;have c1:w.cell? ⟨wb,1,none⟩=some r1:=h.blk.cell 1 _ rfl;have c2:w.cell? ⟨wb,2,none⟩=some r2:=h.blk.cell 2 _ rfl;have HR0:=Hh F.r0.now;have HR1:=Hh F.r1.now;have HR2:=Hh F.r2.now;clear h F;go_enter func211,ntmps211;go_wp2_with (go_at_call 221;refine (Qfz _ r _ _ _ _ HR0.o HR1.o HR2.o).mono ?_;rintro e w1 ⟨v,rfl,hd,hk1⟩;have hd1:=hd.old hk1.old;obtain⟨A,b,o,c,rfl,hl,hlc,hA,hc⟩:=hd1;have HC:=Hh hc;clear hc hd);generalize hds:r.list sort=ds at hl hlc hA HC;have HDS:=Hh hds;clear hds;go_loop [8] (fun i=>∃j:Nat,j≤ds.length∧i=.int .i64 j∧Hi (Q3i ds y j)) (fun i=>ds.length-(intOf i).toNat)
 case atStart=>exact⟨0,Nat.zero_le _,rfl,Hh fun i d hi _=>absurd hi (by omega)⟩
 case round =>
  obtain⟨j,hj,rfl,HNO⟩:=hrel
  by_cases hlt:j<ds.length
  ·obtain⟨d,hd⟩:=Q3 hlt
   obtain⟨e0,e1⟩:=HC.o j d hd;have HD:=Hh hd;obtain rfl:=hA (by omega);clear hd hA;cases ty:(d.name.toList==y.toList) with
   |true =>
    go_wp2_with fail;go_ret;have hf:=Q7o HNO.o HD.o (Q0c ty);refine⟨Jn ?_,hk1⟩;rw[J3,Reg.find,HDS.o,hf,Ng (by omega),Reg.kindOf,Ps (by omega),HDS.o];simp[HD.o]
   |false =>
    go_wp2_with fail;go_round
    case rel=>exact⟨j+1,by omega,by go_num,Hh (Q5b HNO.o HD.o (Q1s ty))⟩
    case measure=>simp[intOf];omega
  ·go_wp2_with fail
   go_ret;obtain rfl:j=ds.length:=by omega
   refine⟨Jn ?_,hk1⟩;rw[J3,Reg.find,HDS.o,Q6g HNO.o,Ps (by decide)]
theorem Q7j (h:SpR w wb gb r0 r1 r2 t0 t1 ov s nv kv wv) (F:Zb (at2 wb gb) w r t r0 r1 r2 t0 t1) (y:ByteArray) (node:Int) :
  Calls prog 231 #[.pointer (some ⟨wb,0,none⟩),.string y,.int .i64 node] w fun e w'=>e=.returned (.int .i64 (Yn r s y node).1)∧AtW w wb gb r0 r1 r2 t0 t1 ov (Yn r s y node).2 nv kv wv w':=by
 have H:=Hh h;have HF:=Hh F;clear h F;have Qpb:=Za H.o HF.o 1 y;have HX:Hi (Yn r s y node=if J3 r 1 y=0 then (0,s.fail 3 node) else if Z9 y s.withs then (J3 r 1 y,s) else (0,s.fail 5 node)):=Hh rfl;generalize Yn r s y node=X at HX ⊢;generalize J3 r 1 y=d at Qpb HX;cases hd:(d==0) with
 |true =>
  have HD:=Hh hd;go_enter func231,ntmps231;go_wp2_with (first|(go_at_call 211;refine Qpb.mono ?_;rintro e w1 ⟨rfl,hk1⟩;have H1:=Hh (H.o.nobk hk1))|(go_at_call 136;refine (Qu H1.o _ _).mono ?_;rintro e w2 ⟨rfl,hat⟩));go_ret;rw[HX.o,Ps (by simpa using HD.o)];exact⟨rfl,hat.1,(hk1.ofNob _).trans hat.2⟩
 |false =>
  have HD:=Hh hd;cases hh:Z9 y s.withs with
  |true =>
   have HH:=Hh hh;clear hh;go_enter func231,ntmps231;go_wp2_with (first|(go_at_call 211;refine Qpb.mono ?_;rintro e w1 ⟨rfl,hk1⟩;have H1:=Hh (H.o.nobk hk1);have c10:w1.cell? ⟨wb,10,none⟩=some wv:=H1.o.blk.cell 10 _ rfl)|(go_at_call 33;refine (Ji _ _ _ _ H1.o.h.now).mono ?_;rw[HH.o];rintro e w2 ⟨rfl,rfl⟩));go_ret;rw[HX.o,Ng (by simpa using HD.o),Ps HH.o];exact⟨rfl,H1.o,hk1.ofNob _⟩
  |false =>
   have HH:=Hh hh;clear hh;go_enter func231,ntmps231;go_wp2_with (first|(go_at_call 211;refine Qpb.mono ?_;rintro e w1 ⟨rfl,hk1⟩;have H1:=Hh (H.o.nobk hk1);have c10:w1.cell? ⟨wb,10,none⟩=some wv:=H1.o.blk.cell 10 _ rfl)|(go_at_call 33;refine (Ji _ _ _ _ H1.o.h.now).mono ?_;rw[HH.o];rintro e w2 ⟨rfl,rfl⟩)|(go_at_call 136;refine (Qu H1.o _ _).mono ?_;rintro e w2 ⟨rfl,hat⟩));go_ret;rw[HX.o,Ng (by simpa using HD.o),Ng (by simp[HH.o])];exact⟨rfl,hat.1,(hk1.ofNob _).trans hat.2⟩
theorem Qki {t:Q1} {l:List Int} {y:ByteArray} {j:Nat} {k:Int} (hj:l[j]?=some k) (hno:∀i x,i<j→l[i]?=some x→¬ ((t.at x).kind=33∧(t.at x).text=y)) (he:(t.at k).kind=33∧(t.at k).text=y):Q3v t l y=k:=by
 induction l generalizing j with
 |nil=>simp at hj
 |cons x xs ih =>
  cases j with
  |zero=>simp at hj;subst hj;simp only[Q3v,Ps he]
  |succ j =>
   simp only[Q3v,Ng (hno 0 x (by omega) rfl)];exact ih (j:=j) (by simpa using hj) (fun i z hi hz=>hno (i+1) z (by omega) (by simpa using hz))
theorem Qgp {t:Q1} {l:List Int} {y:ByteArray} (hno:∀i x,i<l.length→l[i]?=some x→¬ ((t.at x).kind=33∧(t.at x).text=y)):Q3v t l y = -1:=by
 induction l with
 |nil=>rfl
 |cons x xs ih =>
  simp only[Q3v,Ng (hno 0 x (by simp) rfl)];exact ih (fun i z hi hz=>hno (i+1) z (by simp;omega) (by simpa using hz))
theorem Qkj (h:SpR w wb gb r0 r1 r2 t0 t1 ov s nv kv wv) (F:Zb (at2 wb gb) w r t r0 r1 r2 t0 t1) (hin:∀k∈t.tops,InT t k) (ht:0≤s.top∧s.top≤t.tops.length) (y:ByteArray) :
  Calls prog 236 #[.pointer (some ⟨wb,0,none⟩),.string y] w fun e w'=>e=.returned (.int .i64 (Q3v t (t.tops.take s.top.toNat) y))∧Q0 nob w w':=by
 obtain⟨m,hm⟩:=En ht.1;rw[hm] at ht;have hmt:s.top.toNat=m:=by omega
 rw[hmt];have c3:w.cell? ⟨wb,3,none⟩=some t0:=h.blk.cell 3 _ rfl;have c4:w.cell? ⟨wb,4,none⟩=some t1:=h.blk.cell 4 _ rfl;have c5:w.cell? ⟨wb,5,none⟩=some (.int .i64 (m:Int)):=hm▸h.blk.cell 5 _ rfl;have hml:m≤t.tops.length:=by omega
 obtain⟨A,nb,no,nc,rfl,hl,hlc,hA,hc⟩:=F.t0.nodes;obtain⟨B,tb,tq,tc,rfl,tl,tlc,hB,hd⟩:=F.t1.ints;have HC:=Hh hc;have HD:=Hh hd;have HIN:=Hh hin;have h0:Q0 nob w w:=Kr _ _;clear hc hd h F hm ht hmt hin;go_enter func236,ntmps236;go_wp2_with fail;go_loopw [5,6] (fun i u6 wr=>∃j:Nat,j≤m∧i=.int .i64 j∧Hi (∀i x,i<j→(t.tops.take m)[i]?=some x→¬ ((t.at x).kind=33∧(t.at x).text=y))∧Q0 nob w wr) (fun i _ _=>m-(intOf i).toNat)
 case atStart=>exact⟨0,Nat.zero_le _,rfl,Hh fun i x hi _=>absurd hi (by omega),Kr _ _⟩
 case round =>
  obtain⟨j,hj,rfl,HNO,hk⟩:=hrel;have HK:=Hh hk;have p3:=hk.cell id c3;have p4:=hk.cell id c4;have p5:=hk.cell id c5;clear hk
  by_cases hlt:j<m
  ·obtain⟨k,hx⟩:=Q3 (xs:=t.tops) (j:=j) (by omega)
   obtain⟨mk,rfl,hn⟩:=Q1.at_lt (HIN.o k (Mg hx));have hmk:(mk:Int)<t.nodes.length:=(HIN.o _ (Mg hx)).2;have e0:=HD.o j _ hx wr (HK.o.ofNob _);obtain⟨nk,Qmq,hst⟩:=HC.o mk _ hn;obtain⟨KA,kb,ko,kc,rfl,_,_,_,_⟩:=hst.ints;clear hst;obtain⟨d0,d1,d2,d3⟩:=Qmq wr (HK.o.ofNob _);obtain rfl:=hA (by omega);obtain⟨rfl,_⟩:=hB (by omega);have HX:Hi ((t.tops.take m)[j]?=some (mk:Int)):=Hh (by rw[List.getElem?_take_of_lt hlt];exact hx);generalize hat:t.at (mk:Int)=nd at *;have HAT:=Hh hat;clear hx hn Qmq hat hA hB
   have Qo6:∀(hno:¬ (nd.kind=33∧nd.text=y)),Hi (∀i x,i<j+1→(t.tops.take m)[i]?=some x→¬ ((t.at x).kind=33∧(t.at x).text=y)):=fun hno=>Hh fun i x hi hx=>by
    by_cases e:i=j
    ·subst e;rw[HX.o] at hx;cases hx;rw[HAT.o];exact hno
    ·exact HNO.o i x (by omega) hx
   have HST:=Hh Qo6;clear Qo6;have hka:Q0 nob wr (wr.alloc (.cells #[.int .i64 0,.string ⟨#[]⟩,.int .i64 0,.slice none 0 0] 70)):=(Kr _ _).alloc _;have p3':=hka.cell id p3;have p4':=hka.cell id p4;have e0':=hka.cell id e0;have d0':=hka.cell id d0;have d1':=hka.cell id d1;have d2':=hka.cell id d2;have d3':=hka.cell id d3;clear hka;obtain⟨wo,rfl⟩:∃wo:World,wo=wr:=⟨_,rfl⟩;have hjt:(j:Int)<t.tops.length:=by omega
   have hpt:0<t.tops.length:=by omega
   go_upto_region 4 with fail
   go_cut [6] (fun s6 wx=>∃p:Nat,s6=.pointer (some ⟨p,0,none⟩)∧Blk wx p [.int .i64 nd.kind,.string nd.text,.int .i64 nd.i,.slice KA nd.kids.length kc] 70∧Q0 nob wo wx)
   case first =>
    go_region
    all_goals go_wp2_with fail
    all_goals go_meet
    all_goals exact⟨_,rfl,(Blk.new _ [.int .i64 nd.kind,.string nd.text,.int .i64 nd.i,.slice KA nd.kids.length kc] _).drew,((Kr _ _).alloc _).drew⟩
   case rest =>
    obtain⟨p,rfl,hb,hkx⟩:=hcut;have y0:=hb.cell 0 _ rfl;have y1:=hb.cell 1 _ rfl;have HB:=Hh hb;have HKX:=Hh (HK.o.trans hkx);have z3:=hkx.cell id p3;have z4:=hkx.cell id p4;have z5:=hkx.cell id p5;have ze:=hkx.cell id e0;clear hb hkx p3 p4 p5 e0 d0 d1 d2 d3 p3' p4' e0' d0' d1' d2' d3';cases tk:(nd.kind==33) with
    |true =>
     cases ty:(nd.text.toList==y.toList) with
     |true =>
      go_wp2_with fail;go_ret;exact⟨Jn (Qki HX.o (fun i x hi hx=>HNO.o i x hi hx) (by rw[HAT.o];exact⟨by simpa using tk,Q0c ty⟩)).symm,HKX.o⟩
     |false =>
      go_wp2_with fail;go_round
      case rel=>exact⟨j+1,by omega,by go_num,HST.o (fun h=>Q1s ty h.2),HKX.o⟩
      case measure=>simp[intOf];omega
    |false =>
     go_wp2_with fail;go_round
     case rel=>exact⟨j+1,by omega,by go_num,HST.o (fun h=>by rw[h.1] at tk;simp at tk),HKX.o⟩
     case measure=>simp[intOf];omega
  ·go_wp2_with fail
   go_ret;obtain rfl:j=m:=by omega
   refine⟨Jn (Qgp fun i x hi hx=>HNO.o i x (by rw[List.length_take] at hi;omega) hx).symm,HK.o⟩
end
structure EqX (s s':SS):Prop where
 top:s'.top=s.top
 names:s'.names=s.names
 kinds:s'.kinds=s.kinds
 each:s'.each=s.each
 inner:s'.inner=s.inner
 withs:s'.withs=s.withs
 fn:s'.fn=s.fn
 last:s'.last=s.last
 ko:s'.kindOf.length=s.kindOf.length
theorem EqX.refl (s:SS):EqX s s:=⟨rfl,rfl,rfl,rfl,rfl,rfl,rfl,rfl,rfl⟩
theorem EqX.trans {a b c:SS} (h:EqX a b) (k:EqX b c):EqX a c :=
 ⟨k.top.trans h.top,k.names.trans h.names,k.kinds.trans h.kinds,k.each.trans h.each,k.inner.trans h.inner,k.withs.trans h.withs,k.fn.trans h.fn,k.last.trans h.last,k.ko.trans h.ko⟩
theorem EqX.fail (s:SS) (c n:Int):EqX s (s.fail c n):=by unfold SS.fail;split<;>exact⟨rfl,rfl,rfl,rfl,rfl,rfl,rfl,rfl,rfl⟩
theorem EqX.col (r:Reg) (s:SS) (y:ByteArray) (n:Int):EqX s (Yn r s y n).2:=by
 unfold Yn;split;· exact EqX.fail _ _ _
 split;· exact EqX.refl _
 exact EqX.fail _ _ _
theorem EqX.call (t:Q1) (s:SS) (i:Int) (n:Qc) (ks:List Int):EqX s (Q4t t s i n ks).2:=by
 unfold Q4t;dsimp only;split;· exact EqX.fail _ _ _
 split;· exact EqX.fail _ _ _
 split;· exact EqX.refl _
 exact EqX.fail _ _ _
theorem EqX.leaf (r:Reg) (t:Q1) (s:SS) (i:Int) (n:Qc) (ks:List Int):EqX s (Js r t s i n ks).2:=by
 unfold Js;split;· exact EqX.refl _
 split;· exact EqX.refl _
 split;· exact EqX.refl _
 split;· split<;>first|exact EqX.fail _ _ _|exact EqX.refl _
 split;· exact EqX.col _ _ _ _
 split;· split<;>first|exact EqX.fail _ _ _|exact EqX.refl _
 split;· exact EqX.call _ _ _ _ _
 split;· split<;>first|exact EqX.refl _|exact EqX.fail _ _ _
 split;· split<;>first|exact EqX.refl _|exact EqX.fail _ _ _
 split;· exact EqX.refl _
 exact EqX.fail _ _ _
theorem EqX.rest (r:Reg) (t:Q1) (first:Int) (l:List Int) (s:SS):EqX s (Y7 r t first l s).2:=by
 induction l generalizing s with
 |nil=>exact EqX.refl _
 |cons k ks ih =>
  simp only[Y7];split;· exact EqX.col _ _ _ _
  split;· exact (EqX.col _ _ _ _).trans (EqX.fail _ _ _)
  exact (EqX.col _ _ _ _).trans (ih _)
section
variable {E:SS→Int→Int×SS} (hE:∀s i,EqX s (E s i).2)
include hE
theorem EqX.pick (r:Reg) (t:Q1) (s:SS) (i:Int) (n:Qc):EqX s (Q1y r t E s i n).2:=by
 unfold Q1y;dsimp only;split
 ·split;· exact hE _ _
  split;· exact (hE _ _).trans (EqX.fail _ _ _)
  split
  ·exact hE _ _
  ·split;· exact (hE _ _).trans (EqX.col _ _ _ _)
   exact ((hE _ _).trans (EqX.col _ _ _ _)).trans (EqX.rest _ _ _ _ _)
 ·exact EqX.fail _ _ _
theorem EqX.kids (l:List Int) (s:SS):EqX s (Q15 E l s).2:=by
 induction l generalizing s with
 |nil=>exact EqX.refl _
 |cons k ks ih =>
  simp only[Q15];split;· exact hE _ _
  exact (hE _ _).trans (ih _)
theorem EqX.bare (r:Reg) (t:Q1) (s:SS) (i:Int):EqX s (Q2w r t E s i).2:=by
 unfold Q2w;dsimp only;split;· exact EqX.pick hE _ _ _ _ _
 split;· exact EqX.fail _ _ _
 split;· exact EqX.kids hE _ _
 exact (EqX.kids hE _ _).trans (EqX.leaf _ _ _ _ _ _)
end
theorem EqX.expr (r:Reg) (t:Q1) (f:Nat):∀s i,EqX s (Jr r t f s i).2:=by
 induction f with
 |zero=>exact fun s i=>EqX.refl _
 |succ f ih =>
  intro s i;simp only[Jr];split;· exact EqX.refl _
  split;· exact EqX.bare ih _ _ _ _
  have h:=EqX.bare ih r t s i;exact⟨h.top,h.names,h.kinds,h.each,h.inner,h.withs,h.fn,h.last,by simpa using h.ko⟩
structure Qx (t:Q1) (s:SS):Prop where
 ko:s.kindOf.length=t.nodes.length
 nk:s.names.length=s.kinds.length
 nd:s.names.Nodup
 sub:∀x∈s.names,∃i,InT t i∧(t.at i).text=x
 top:0≤s.top∧s.top≤t.tops.length
theorem Qx.of {t:Q1} {s s':SS} (h:Qx t s) (e:EqX s s'):Qx t s' :=
 ⟨e.ko.trans h.ko,by rw[e.names,e.kinds];exact h.nk,by rw[e.names];exact h.nd,by rw[e.names];exact h.sub,by rw[e.top];exact h.top⟩
theorem Qas {α:Type} [DecidableEq α]:∀{l m:List α},l.Nodup→(∀x∈l,x∈m)→l.length≤m.length
 |[],_,_,_=>by simp
 |x::xs,m,hd,hs=>by
  have hx:=hs x (by simp);rw[List.nodup_cons] at hd
  have:=Qas (l:=xs) (m:=m.erase x) hd.2 (fun y hy=>by
   rw[List.mem_erase_of_ne (fun (e:y=x)=>hd.1 (by rw[← e];exact hy))];exact hs y (by simp[hy]))
  rw[List.length_erase_of_mem hx] at this;have hp:0<m.length:=List.length_pos_of_mem hx;simp only[List.length_cons];omega
theorem Qx.few {t:Q1} {s:SS} (h:Qx t s):s.names.length≤t.nodes.length:=by
 have:=Qas (l:=s.names) (m:=t.nodes.map (·.text)) h.nd (fun x hx=>by
  obtain⟨i,hi,e⟩:=h.sub x hx;obtain⟨m,rfl,hm⟩:=Q1.at_lt hi;rw[List.mem_map];exact⟨_,Mg hm,e⟩)
 simpa using this
theorem Q32 {y:ByteArray} {xs:List ByteArray} (h:Qw y xs<0):y∉xs:=by
 induction xs with
 |nil=>simp
 |cons x xs ih =>
  simp only[Qw] at h;split at h
  ·split at h
   ·omega
   ·rename_i hn he
    simp only[List.mem_cons,not_or];exact⟨fun e=>he e.symm,ih hn⟩
  ·omega
theorem Qi1 {y:ByteArray} {xs:List ByteArray}:Qw y xs<0↔y∉xs:=by
 refine⟨Q32,fun h=>?_⟩
 induction xs with
 |nil=>simp[Qw]
 |cons x xs ih =>
  simp only[List.mem_cons,not_or] at h;simp only[Qw,Ps (ih h.2),Ng (fun e=>h.1 (Eq.symm e):¬ x=y)];decide
section
variable {t:Q1} {E:SS→Int→Int×SS} {W:SS→Int→SS} (hK:Qj t) (hE:∀s i,EqX s (E s i).2) (hW:∀s i,InT t i→Qx t s→Qx t (W s i))
include hW in
theorem Qx.stmts {l:List Int} (hl:∀k∈l,InT t k) {s:SS} (h:Qx t s):Qx t (Zi W l s):=by
 unfold Zi
 induction l generalizing s with
 |nil=>exact h
 |cons k ks ih =>
  rw[List.foldl_cons]
  refine ih (fun k hk=>hl k (List.mem_cons_of_mem _ hk)) ?_
  split
  ·exact hW _ _ (hl k (by simp)) h
  ·exact h
theorem Qx.put {s:SS} (h:Qx t s) {ns:List ByteArray} {ks:List Int} (Qmr:ns.length=ks.length) (hnd:ns.Nodup) (Qok:∀x∈ns,∃i,InT t i∧(t.at i).text=x):Qx t {s with names:=ns,kinds:=ks} :=
 ⟨h.ko,Qmr,hnd,Qok,h.top⟩
include hK hW
theorem Qx.block {s:SS} (h:Qx t s) {i:Int} (hi:InT t i) {more:List ByteArray} {kinds:List Int} (Qmr:more.length=kinds.length) (hnd:(s.names++more).Nodup) (Qok:∀x∈more,∃i,InT t i∧(t.at i).text=x) :
  Qx t (Jf t W s i more kinds):=by
 unfold Jf;split;· exact h
 have h1:Qx t {s with names:=s.names++more,kinds:=s.kinds++kinds}:=h.put (by rw[List.length_append,List.length_append,h.nk,Qmr]) hnd (fun x hx=>by
  rw[List.mem_append] at hx;exact hx.elim (h.sub x) (Qok x))
 have h2:=Qx.stmts hW (fun k hk=>hi.kid hK hk) h1;exact h2.put h.nk h.nd h.sub
theorem Qx.block0 {s:SS} (h:Qx t s) {i:Int} (hi:InT t i):Qx t (Jf t W s i [] []):=Qx.block hK hW h hi rfl (by simpa using h.nd) (by simp)
theorem Qx.blocks {l:List Int} (hl:∀k∈l,InT t k) {s:SS} (h:Qx t s):Qx t (Xu t W l s):=by
 unfold Xu
 induction l generalizing s with
 |nil=>exact h
 |cons k ks ih =>
  rw[List.foldl_cons];exact ih (fun k hk=>hl k (List.mem_cons_of_mem _ hk)) (Qx.block0 hK hW h (hl k (by simp)))
end
theorem EqX.eachGo (r:Reg) (t:Q1) (l:List Int) (all:List ByteArray) (s:SS):EqX s (eachGo r t l all s).2:=by
 induction l generalizing all s with
 |nil=>exact EqX.refl _
 |cons k ks ih =>
  simp only[YtkgkafjachjafaaGreat.eachGo];split;· exact EqX.fail _ _ _
  split;· exact EqX.fail _ _ _
  exact ih _ _
theorem EqX.params (t:Q1) (l:List Int) (names:List ByteArray) (kinds:List Int) (s:SS):EqX s (Z6 t l names kinds s).2.2:=by
 induction l generalizing names kinds s with
 |nil=>exact EqX.refl _
 |cons k ks ih =>
  simp only[Z6];split;· exact EqX.fail _ _ _
  exact ih _ _ _
theorem Qh0 (t:Q1) (l:List Int) (names:List ByteArray) (kinds:List Int) (s:SS) (hl:∀k∈l,InT t k) (Qmr:names.length=kinds.length) (hnd:names.Nodup) (Qok:∀x∈names,∃i,InT t i∧(t.at i).text=x) :
  (Z6 t l names kinds s).1.length=(Z6 t l names kinds s).2.1.length∧(Z6 t l names kinds s).1.Nodup∧∀x∈(Z6 t l names kinds s).1,∃i,InT t i∧(t.at i).text=x:=by
 induction l generalizing names kinds s with
 |nil=>exact⟨Qmr,hnd,Qok⟩
 |cons k ks ih =>
  simp only[Z6];split
  ·exact⟨Qmr,hnd,Qok⟩
  ·rename_i hh
   have hno:(t.at k).text∉names:=fun h=>hh ((X6 _ _).2 h)
   refine ih _ _ _ (fun k hk=>hl k (List.mem_cons_of_mem _ hk)) (by simp[Qmr]) ?_ ?_
   ·rw[List.nodup_append]
    exact⟨hnd,by simp,fun a ha b hb=>by simp at hb;subst hb;exact fun e=>hno (e▸ha)⟩
   ·intro x hx
    rw[List.mem_append] at hx;rcases hx with hx|hx
    ·exact Qok x hx
    ·simp at hx;subst hx;exact⟨k,hl k (by simp),rfl⟩
section
variable {t:Q1} {E:SS→Int→Int×SS} {W:SS→Int→SS} (hE:∀s i,EqX s (E s i).2)
include hE
theorem EqX.spawn (r:Reg) (l:List Int) (had:List ByteArray) (s:SS):EqX s (Q16 r t E l had s):=by
 induction l generalizing had s with
 |nil=>exact EqX.refl _
 |cons k ks ih =>
  simp only[Q16];split;· exact hE _ _
  split;· exact (hE _ _).trans (EqX.fail _ _ _)
  split;· exact (hE _ _).trans (EqX.fail _ _ _)
  split;· exact (hE _ _).trans (EqX.fail _ _ _)
  exact (hE _ _).trans (ih _ _)
theorem EqX.plain (r:Reg) (s:SS) (i:Int) (n:Qc) (sort:Int):EqX s (Xp r t E s i n sort):=by
 unfold Xp;dsimp only;split;· exact hE _ _
 split;· exact (hE _ _).trans (EqX.fail _ _ _)
 split;· exact (hE _ _).trans (EqX.fail _ _ _)
 split;· exact (hE _ _).trans (EqX.fail _ _ _)
 exact hE _ _
theorem Qx.local_ {s:SS} (h:Qx t s) {i:Int} (hi:InT t i):Qx t (Q09 E s i (t.at i)):=by
 unfold Q09;dsimp only;have he:=h.of (hE s (kidAt (t.at i) 0));split;· exact he
 split
 ·split
  ·exact he.of (EqX.fail _ _ _)
  ·rename_i hl
   have hno:=Q32 (y:=(t.at i).text) (xs:=(E s (kidAt (t.at i) 0)).2.names) (by omega);refine he.put (by simp[he.nk]) ?_ ?_
   ·rw[List.nodup_append]
    exact⟨he.nd,by simp,fun a ha b hb=>by simp at hb;subst hb;exact fun e=>hno (e▸ha)⟩
   ·intro x hx
    rw[List.mem_append] at hx;rcases hx with hx|hx
    ·exact he.sub x hx
    ·simp at hx;subst hx;exact⟨i,hi,rfl⟩
 ·split;· exact he.of (EqX.fail _ _ _)
  split;· exact he.of (EqX.fail _ _ _)
  exact he
end
section
variable {t:Q1} {E:SS→Int→Int×SS} {W:SS→Int→SS} (hK:Qj t) (hE:∀s i,EqX s (E s i).2) (hW:∀s i,InT t i→Qx t s→Qx t (W s i))
include hK hW
theorem Qx.each (r:Reg) {s:SS} (h:Qx t s) {i:Int} (hi:InT t i):Qx t (Q3s r t W s (t.at i)):=by
 unfold Q3s;dsimp only;have ha:=h.of (EqX.eachGo r t ((t.at (kidAt (t.at i) 0)).kids++(t.at (kidAt (t.at i) 1)).kids) [] s);split;· exact ha
 have hb:=Qx.block0 hK hW (s:={(eachGo r t ((t.at (kidAt (t.at i) 0)).kids++(t.at (kidAt (t.at i) 1)).kids) [] s).2 with each:=true,inner:=true,withs:=(eachGo r t ((t.at (kidAt (t.at i) 0)).kids++(t.at (kidAt (t.at i) 1)).kids) [] s).1.take (t.at (kidAt (t.at i) 0)).kids.length})
  ⟨ha.ko,ha.nk,ha.nd,ha.sub,ha.top⟩ (hi.kidAt hK 2)
 exact⟨hb.ko,hb.nk,hb.nd,hb.sub,hb.top⟩
theorem Qx.hear (r:Reg) {s:SS} (h:Qx t s) {i:Int} (hi:InT t i):Qx t (Q3x r t W s i (t.at i)):=by
 unfold Q3x;dsimp only;split;· exact h.of (EqX.fail _ _ _)
 split;· exact h.of (EqX.fail _ _ _)
 rename_i hl
 have hno:=Q32 (y:=(t.at (kidAt (t.at i) 0)).text) (xs:=s.names) (by omega)
 have hb:=Qx.block hK hW (s:={s with inner:=true}) (more:=[(t.at (kidAt (t.at i) 0)).text]) (kinds:=[J3 r 3 (t.at i).text]) ⟨h.ko,h.nk,h.nd,h.sub,h.top⟩ (hi.kidAt hK 1) rfl (by
  rw[List.nodup_append];exact⟨h.nd,by simp,fun a ha b hb=>by simp at hb;subst hb;exact fun e=>hno (e▸ha)⟩) (by
  intro x hx;simp at hx;subst hx;exact⟨_,hi.kidAt hK 0,rfl⟩)
 exact⟨hb.ko,hb.nk,hb.nd,hb.sub,hb.top⟩
include hE in
theorem Qx.branch {s:SS} (h:Qx t s) {i:Int} (hi:InT t i) (want:Int):Qx t (Xz t E W s i (t.at i) want):=by
 unfold Xz;dsimp only;have he:=h.of (hE s (kidAt (t.at i) 0));split;· exact he
 split;· exact he.of (EqX.fail _ _ _)
 exact Qx.blocks hK hW (fun k hk=>hi.kid hK (List.mem_of_mem_drop hk)) he
end
theorem X8 {P:SS→Prop} {c:Prop} [Decidable c] {a b:SS} (ha:P a) (hb:P b):P (if c then a else b):=by split<;>assumption
theorem Qba {P:SS→Prop} {c:Bool} {a b:SS} (ha:P a) (hb:P b):P (if c=true then a else b):=by split<;>assumption
theorem Qx.stmt {t:Q1} (hK:Qj t) (r:Reg) (f:Nat):∀s i,InT t i→Qx t s→Qx t (Qp r t f s i):=by
 induction f with
 |zero=>exact fun s i _ h=>h
 |succ f ih =>
  intro s i hi h;have hE:=EqX.expr r t f;unfold Qp;refine Qba (P:=Qx t) ?_ (h.of (EqX.fail _ _ _));refine X8 (P:=Qx t) (Qx.local_ hE h hi) ?_;refine X8 (P:=Qx t) (h.of (EqX.plain hE _ _ _ _ _)) ?_;refine X8 (P:=Qx t) (h.of (EqX.plain hE _ _ _ _ _)) ?_;refine X8 (P:=Qx t) (h.of (EqX.plain hE _ _ _ _ _)) ?_;refine X8 (P:=Qx t) (Qx.branch hK hE ih h hi _) ?_;refine X8 (P:=Qx t) (Qx.branch hK hE ih h hi _) ?_;refine X8 (P:=Qx t) (Qx.each hK ih r h hi) ?_;refine X8 (P:=Qx t) (Qx.hear hK ih r h hi) ?_;refine X8 (P:=Qx t) (h.of (EqX.spawn hE _ _ _ _)) ?_;refine X8 (P:=Qx t) (X8 (P:=Qx t) (h.of (EqX.fail _ _ _)) h) ?_;exact X8 (P:=Qx t) (h.of (hE _ _)) h
theorem Qe9 (t:Q1) (l:List Int) (y:ByteArray):Q3v t l y = -1∨Q3v t l y∈l:=by
 induction l with
 |nil=>exact Or.inl rfl
 |cons k ks ih =>
  simp only[Q3v];split
  ·exact Or.inr (by simp)
  ·exact ih.imp id (fun h=>List.mem_cons_of_mem _ h)
theorem Qes {t:Q1} {ks ps:List Int} (h:∀(j:Nat) k p,ks[j]?=some k→ps[j]?=some p→(t.at p).i=k):Q1x t ks ps=true:=by
 induction ks generalizing ps with
 |nil=>simp[Q1x]
 |cons k ks ih =>
  cases ps with
  |nil=>simp[Q1x]
  |cons p ps =>
   simp only[Q1x,Bool.and_eq_true,decide_eq_true_eq];exact⟨h 0 k p rfl rfl,ih (fun j k p hk hp=>h (j+1) k p (by simpa using hk) (by simpa using hp))⟩
theorem Qhm {t:Q1} {ks ps:List Int} {j:Nat} {k p:Int} (hk:ks[j]?=some k) (hp:ps[j]?=some p) (hne:(t.at p).i≠k):Q1x t ks ps=false:=by
 induction ks generalizing ps j with
 |nil=>simp at hk
 |cons x xs ih =>
  cases ps with
  |nil=>simp at hp
  |cons y ys =>
   cases j with
   |zero=>simp at hk hp;subst hk;subst hp;simp[Q1x,hne]
   |succ j=>simp only[Q1x,ih (by simpa using hk) (by simpa using hp),Bool.and_false]
section
variable {w:World} {wb gb:Nat} {r0 r1 r2 t0 t1 ov:Value} {s:SS} {nv kv wv:Value} {r:Reg} {t:Q1}
theorem Qhd (h:SpR w wb gb r0 r1 r2 t0 t1 ov s nv kv wv) (F:Zb (at2 wb gb) w r t r0 r1 r2 t0 t1) (hok:Qx t s) (hK:Qj t) (Qnj:∀k∈t.tops,InT t k)
  {i:Int} (hi:InT t i) (kids:List Int) (kq:Value) (hkq:Qi w kq kids) (Qmr:kids.length=(t.at i).kids.length) :
  Calls prog 232 #[.pointer (some ⟨wb,0,none⟩),.int .i64 i,kq] w fun e w'=>e=.returned (.int .i64 (Q4t t s i (t.at i) kids).1)∧AtW w wb gb r0 r1 r2 t0 t1 ov (Q4t t s i (t.at i) kids).2 nv kv wv w':=by
 obtain⟨mi,rfl,hnd⟩:=Q1.at_lt hi;obtain⟨nb,no,nc,A,kb,ko,kc,rfl,hl,hml,⟨c0,c1,c2,c3⟩,kl,klc,hA,W0,hW0,h0,F0,hk0,hbx,hkc⟩:=h.node F hnd;have cw3:w.cell? ⟨wb,3,none⟩=some (.slice (some ⟨nb,no,none⟩) t.nodes.length nc):=h.blk.cell 3 _ rfl;have H0:=Hh h0;have HF0:=Hh F0;have HK0:=Hh hk0;have HBX:=Hh hbx;have HKC:=Hh hkc;have HOK:=Hh hok;have HI:=Hh hi;obtain⟨z0,z1,z2,z3⟩:=hbx W0 (Kr _ _)
 have HX:Hi (Q4t t s (mi:Int) (t.at (mi:Int)) kids=(if Q3v t (t.tops.take s.top.toNat) (t.at (mi:Int)).text<0 then (0,s.fail 3 mi) else if (t.at (mi:Int)).kids.length+1≠(t.at (Q3v t (t.tops.take s.top.toNat) (t.at (mi:Int)).text)).kids.length then (0,s.fail 6 mi)
  else if Q1x t kids (t.at (Q3v t (t.tops.take s.top.toNat) (t.at (mi:Int)).text)).kids then ((t.at (Q3v t (t.tops.take s.top.toNat) (t.at (mi:Int)).text)).i,s) else (0,s.fail 4 mi))):=Hh rfl
 generalize Q4t t s (mi:Int) (t.at (mi:Int)) kids=X at HX ⊢;generalize hN:t.at (mi:Int)=n at *;have hfn:=Qkj h0 F0 Qnj hok.top n.text;have hfc:=Qe9 t (t.tops.take s.top.toNat) n.text;generalize Q3v t (t.tops.take s.top.toNat) n.text=f at HX hfn hfc;have hf':f = -1∨InT t f:=hfc.imp id (fun h=>Qnj _ (List.mem_of_mem_take h));have Qux:Qi W0 kq kids:=by rw[← hW0];exact hkq.old ((Kr nob _).alloc _).old
 have HKQ:=Hh Qux;have Qnf:=Hh Qmr;have HKK:=Hh hK;have HNN:=Hh hN;clear Qux hkq hfc Qnj hok hi hbx hkc F0 h0 hk0 F h Qmr hK hN hnd;rcases hf' with rfl|hf
 ·go_enter func232,ntmps232
  go_wp2_with (first|(go_at_call 236;refine hfn.mono ?_;rintro e w1 ⟨rfl,hk1⟩;have H1:=Hh (H0.o.nobk hk1))|(go_at_call 136;refine (Qu H1.o _ _).mono ?_;rintro e w2 ⟨rfl,hat⟩));go_ret;rw[HX.o,Ps (by decide)];exact⟨rfl,hat.1,(HK0.o.trans (hk1.ofNob _)).trans hat.2⟩
 obtain⟨mf,rfl,hnf⟩:=Q1.at_lt hf;have HFI:=Hh hf;have Qsm:(mf:Int)<t.nodes.length:=hf.2;have Qx2:¬ ((mf:Int)<0):=by omega
 have Qpp:∀w1,Q0 nob W0 w1→∃B fb fo fc,(w1.cell? ⟨nb,no+mf*4,none⟩=some (.int .i64 (t.at (mf:Int)).kind)∧w1.cell? ⟨nb,no+mf*4+1,none⟩=some (.string (t.at (mf:Int)).text)∧w1.cell? ⟨nb,no+mf*4+2,none⟩=some (.int .i64 (t.at (mf:Int)).i)∧w1.cell? ⟨nb,no+mf*4+3,none⟩=some (.slice B (t.at (mf:Int)).kids.length fc)) ∧
   (t.at (mf:Int)).kids.length≤140737488355328∧(t.at (mf:Int)).kids.length≤fc∧(0<(t.at (mf:Int)).kids.length→B=some ⟨fb,fo,none⟩) ∧
   ∃W2,w1.alloc (.cells #[.int .i64 (t.at (mf:Int)).kind,.string (t.at (mf:Int)).text,.int .i64 (t.at (mf:Int)).i,.slice B (t.at (mf:Int)).kids.length fc] 70 (0,0))=W2∧Hi (SpR W2 wb gb r0 r1 r2 (.slice (some ⟨nb,no,none⟩) t.nodes.length nc) t1 ov s nv kv wv∧Zb (at2 wb gb) W2 r t r0 r1 r2 (.slice (some ⟨nb,no,none⟩) t.nodes.length nc) t1∧Q0 (at2 wb gb) w W2∧Q0 nob W0 W2) ∧
    (W2.cell? ⟨w.heap.size,3,none⟩=some (.slice A n.kids.length kc)∧W2.cell? ⟨w1.heap.size,2,none⟩=some (.int .i64 (t.at (mf:Int)).i)∧W2.cell? ⟨w1.heap.size,3,none⟩=some (.slice B (t.at (mf:Int)).kids.length fc)∧W2.cell? ⟨wb,3,none⟩=some (.slice (some ⟨nb,no,none⟩) t.nodes.length nc)) ∧
    Hi (∀j x,(t.at (mf:Int)).kids[j]?=some x→W2.cell? ⟨fb,fo+j,none⟩=some (.int .i64 x)):=by
  intro w1 hk1;obtain⟨nb2,no2,nc2,B,fb,fo,fc,e,_,_,d,bl,blc,hB,W2,hW2,h2,F2,hk2,Quy,Qx3⟩:=(H0.o.nobk hk1).node (HF0.o.kept (hk1.ofNob _)) hnf;injection e with e1 _ e3
  cases e1;have Quz:Q0 nob w1 W2:=hW2▸(Kr _ _).alloc _
  exact⟨B,fb,fo,fc,d,bl,blc,hB,W2,hW2,Hh ⟨h2,F2,(HK0.o.trans (hk1.ofNob _)).trans hk2,hk1.trans Quz⟩,
   ⟨(HBX.o W2 ((hk1.trans Quz).ofNob _)).2.2.2,(Quy W2 (Kr _ _)).2.2.1,(Quy W2 (Kr _ _)).2.2.2,h2.blk.cell 3 _ rfl⟩,Hh (fun j x hx=>Qx3 j x hx W2 (Kr _ _))⟩
 have HAF:=Hh Qpp;clear Qpp hf hnf
 by_cases hq:n.kids.length+1=(t.at (mf:Int)).kids.length
 ·have t5:((n.kids.length:Int) != ((t.at (mf:Int)).kids.length:Int)-1)=false:=by simp;omega
  have HQ:=Hh hq;generalize Qx4:t.at (mf:Int)=fnn at *;clear hq;go_enter func232,ntmps232;go_wp2_with (go_at_call 236;refine hfn.mono ?_;rintro e w1 ⟨rfl,hk1⟩;obtain⟨B,fb,fo,fc,⟨d0,d1,d2,d3⟩,bl,blc,hB,W2,hW2,H2,⟨y3,y2,yb,y0⟩,HB⟩:=HAF.o w1 hk1;have d3':w1.cell? ⟨wb,3,none⟩=some (.slice (some ⟨nb,no,none⟩) t.nodes.length nc):=hk1.cell id (H0.o.blk.cell 3 _ rfl));obtain⟨KA,qb,qo,qc,rfl,ql,qlc,hKA,hKC⟩:=(HKQ.o.old H2.o.2.2.2.old);have Qx5:=Hh hKC;have HL2:Hi (kids.length=fnn.kids.length-1∧1≤fnn.kids.length):=Hh (by have:=HQ.o;have:=Qnf.o;omega);clear hKC;go_loopw [10] (fun i wr=>∃j:Nat,j≤kids.length∧i=.int .i64 j∧Hi (∀(i:Nat) k p,i<j→kids[i]?=some k→fnn.kids[i]?=some p→(t.at p).i=k)∧Q0 nob W2 wr) (fun i _=>kids.length-(intOf i).toNat)
  case atStart=>exact⟨0,Nat.zero_le _,rfl,Hh fun i k p hi _ _=>absurd hi (by omega),Kr _ _⟩
  case round =>
   obtain⟨j,hj,rfl,HNO,hkr⟩:=hrel;have HKR:=Hh hkr;obtain⟨wo,rfl⟩:∃wo:World,wo=wr:=⟨_,rfl⟩;have x3:=hkr.cell id yb;have x2:=hkr.cell id y2;have x0:=hkr.cell id y0
   by_cases hlt:j<kids.length
   ·obtain⟨k,hk⟩:=Q3 hlt
    obtain⟨p,hp⟩:=Q3 (xs:=fnn.kids) (j:=j) (by have:=HL2.o;omega);have e0:=hkr.cell id (Qx5.o j k hk);have e1:=hkr.cell id (HB.o j p hp);have hip:InT t p:=HFI.o.kid HKK.o (by rw[Qx4];exact Mg hp);obtain⟨mp,rfl,hnp⟩:=Q1.at_lt hip;obtain⟨B3,fb3,fo3,fc3,hd3,_,_,_,_⟩:=H2.o.2.1.cells hnp;obtain⟨_,_,x5,_⟩:=hd3 wo (HKR.o.ofNob _);have hmp:(mp:Int)<t.nodes.length:=hip.2;clear hd3;obtain rfl:=hKA (by omega);obtain rfl:=hB (by have:=HL2.o;omega);have HKJ:=Hh hk;have HPJ:=Hh hp;have hj2:(j:Int)<fnn.kids.length:=by have:=HL2.o;omega
    clear hk hp hnp hip hkr hKA hB;generalize hpi:(t.at (mp:Int)).i=pi at *;have HPI:=Hh hpi;clear hpi;cases he:(pi != k) with
    |false =>
     go_wp2_with fail;go_quiet (fail);go_wp2_with fail;go_round
     case rel =>
      refine⟨j+1,by omega,by go_num,Hh fun i k p hi hk hp=>?_,HKR.o.drewN _⟩
      by_cases e:i=j
      ·subst e;rw[HKJ.o] at hk;rw[HPJ.o] at hp;cases hk;cases hp;rw[HPI.o];simpa using he
      ·exact HNO.o i k p (by omega) hk hp
     case measure=>simp[intOf];omega
    |true =>
     go_wp2_with fail;go_quiet (fail);go_wp2_with (go_at_call 136;refine (Qu ((H2.o.1.nobk HKR.o).drewN _) _ _).mono ?_;rintro e w3 ⟨rfl,hat⟩);go_ret;rw[HX.o,Ng (by omega),Ng (by have:=HQ.o;omega),Ng (by rw[Qhm HKJ.o HPJ.o (by rw[HPI.o];simpa using he)];simp)];exact⟨rfl,hat.1,(H2.o.2.2.1.trans ((HKR.o.drewN _).ofNob _)).trans hat.2⟩
   ·go_wp2_with fail
    go_ret;obtain rfl:j=kids.length:=by omega
    rw[HX.o,Ng (by omega),Ng (by have:=HQ.o;omega),Ps (Qes fun j k p hk hp=>HNO.o j k p (by have:=(Gs hk).1;exact this) hk hp)];exact⟨rfl,H2.o.1.nobk HKR.o,H2.o.2.2.1.trans (HKR.o.ofNob _)⟩
 ·have t5:((n.kids.length:Int) != ((t.at (mf:Int)).kids.length:Int)-1)=true:=by simp;omega
  have HQ:=Hh hq;clear hq;go_enter func232,ntmps232;go_wp2_with (first|(go_at_call 236;refine hfn.mono ?_;rintro e w1 ⟨rfl,hk1⟩;obtain⟨B,fb,fo,fc,⟨d0,d1,d2,d3⟩,bl,blc,hB,W2,hW2,H2,⟨y3,y2,yb,y0⟩,HB⟩:=HAF.o w1 hk1;have d3':w1.cell? ⟨wb,3,none⟩=some (.slice (some ⟨nb,no,none⟩) t.nodes.length nc):=hk1.cell id (H0.o.blk.cell 3 _ rfl))|(go_at_call 136;refine (Qu H2.o.1 _ _).mono ?_;rintro e w3 ⟨rfl,hat⟩));go_ret;rw[HX.o,Ng (by omega),Ps (by have:=HQ.o;omega)];exact⟨rfl,hat.1,H2.o.2.2.1.trans hat.2⟩
end
def Q35 (r:Reg) (t:Q1) (f:Nat) (E:SS→Int→Int×SS):Prop :=
 ∀(w:World) (wb gb:Nat) (r0 r1 r2 t0 t1 ov:Value) (s:SS) (nv kv wv:Value) (i:Int),SpR w wb gb r0 r1 r2 t0 t1 ov s nv kv wv→Zb (at2 wb gb) w r t r0 r1 r2 t0 t1→Qx t s→InT t i→i<f→Qs (t.at i).kind=true →
  Calls prog 212 #[.pointer (some ⟨wb,0,none⟩),.int .i64 i] w fun e w'=>e=.returned (.int .i64 (E s i).1)∧AtW w wb gb r0 r1 r2 t0 t1 ov (E s i).2 nv kv wv w'
def Q9n (r:Reg) (t:Q1):List Int→SS→Int×SS
 |[],s=>(0,s)
 |k::ks,s=>if (Yn r s (t.at k).text k).2.code≠0 then (0,(Yn r s (t.at k).text k).2) else Y7 r t (Yn r s (t.at k).text k).1 ks (Yn r s (t.at k).text k).2
section
variable {w:World} {wb gb:Nat} {r0 r1 r2 t0 t1 ov:Value} {s:SS} {nv kv wv:Value} {r:Reg} {t:Q1} {E:SS→Int→Int×SS} {f:Nat}
theorem Qhw (hE:Q35 r t f E) (hQ:∀s i,EqX s (E s i).2) (h:SpR w wb gb r0 r1 r2 t0 t1 ov s nv kv wv) (F:Zb (at2 wb gb) w r t r0 r1 r2 t0 t1) (hok:Qx t s) (hK:Qj t)
  {i:Int} (hi:InT t i) (hif:i≤f) {a:Int} {ks:List Int} (Qmk:(t.at i).kids=a::ks) (hea:Qs (t.at a).kind=true) (h00:s.code=0) :
  Calls prog 230 #[.pointer (some ⟨wb,0,none⟩),.int .i64 i] w fun e w'=>e=.returned (.int .i64 (Q1y r t E s i (t.at i)).1)∧AtW w wb gb r0 r1 r2 t0 t1 ov (Q1y r t E s i (t.at i)).2 nv kv wv w':=by
 obtain⟨mi,rfl,hnd⟩:=Q1.at_lt hi;obtain⟨nb,no,nc,A,kb,ko,kc,rfl,hl,hml,⟨c0,c1,c2,c3⟩,kl,klc,hA,W0,hW0,h0,F0,hk0,hbx,hkc⟩:=h.node F hnd;have cw3:w.cell? ⟨wb,3,none⟩=some (.slice (some ⟨nb,no,none⟩) t.nodes.length nc):=h.blk.cell 3 _ rfl;have H0:=Hh h0;have HF0:=Hh F0;have HK0:=Hh hk0;have HBX:=Hh hbx;have HKC:=Hh hkc;have HOK:=Hh hok;have HI:=Hh hi;have hka:kidAt (t.at (mi:Int)) 0=a:=by simp[kidAt,Qmk]
 have hai:InT t a:=hi.kid hK (by rw[Qmk];simp);have haf:a<f:=by have:=(hK.mem hi (k:=a) (by rw[Qmk];simp)).2;omega
 have hx:Q1y r t E s (mi:Int) (t.at (mi:Int))=(if s.each then (if (E s a).2.code≠0 then (0,(E s a).2) else if (E s a).1≠1 then (0,(E s a).2.fail 4 mi) else
   Q9n r t ks (E s a).2)
  else (0,s.fail 5 mi)):=by
  unfold Q1y Q9n;rw[hka,Qmk];cases ks<;>rfl
 have HX:=Hh hx;clear hx;generalize Q1y r t E s (mi:Int) (t.at (mi:Int))=X at HX ⊢;have HN:Hi (t.at (mi:Int)=t.at (mi:Int)):=Hh rfl;have Qmr:(t.at (mi:Int)).kids.length=ks.length+1:=by rw[Qmk];rfl
 have HKK:=Hh hK;have Qqp:Hi (∀k∈ks,InT t k):=Hh fun k hk=>hi.kid hK (by rw[Qmk];simp[hk])
 obtain⟨z0,z1,z2,z3⟩:=hbx W0 (Kr _ _);have ze:=hkc 0 a (by rw[Qmk];rfl) W0 (Kr _ _);rw[Nat.add_zero] at ze;obtain rfl:=hA (by omega);have Qna:0<(t.at (mi:Int)).kids.length:=by omega
 have Qnf:=Hh Qmr;clear Qmr;have p8:W0.cell? ⟨wb,8,none⟩=some (.bool s.each):=h0.blk.cell 8 _ rfl;have HKJ:Hi (∀(j:Nat) k,ks[j]?=some k→∀W,Q0 (at2 wb gb) W0 W→W.cell? ⟨kb,ko+(1+j),none⟩=some (.int .i64 k)):=Hh fun j k hk W hW=>hkc (1+j) k (by rw[Qmk,Nat.add_comm];exact hk) W hW
 have Qmw:=hE W0 wb gb _ _ _ _ _ _ s nv kv wv a h0 F0 hok hai haf hea;have Qn7:=Hh (hok.of (hQ s a));clear hkc hbx hk0 F0 h0 hok hi hK Qmk hE hQ F h hai haf hea hka hif hA hnd;generalize hN:t.at (mi:Int)=n at *;cases hea:s.each with
 |false =>
  have hea':=hea;rw[hea] at p8;have HEA:=Hh hea;clear hea hea';go_enter func230,ntmps230;go_wp2_with (go_at_call 136;refine (Qu H0.o _ _).mono ?_;rintro e w2 ⟨rfl,hat⟩);go_returns;rw[HX.o,Ng (by rw[HEA.o];simp)];exact⟨rfl,hat.1,HK0.o.trans hat.2⟩
 |true =>
 rw[hea,Ps rfl] at HX;rw[hea] at p8;clear hea;generalize E s a=q at Qmw HX Qn7;obtain⟨k1,s1⟩:=q;dsimp only at Qmw HX Qn7;cases hc:(s1.code != 0) with
 |true =>
  have HC:=Hh hc;go_enter func230,ntmps230;go_wp2_with (go_at_call 212;refine Qmw.mono ?_;rintro e w1 ⟨rfl,Qml⟩;have H1:=Hh Qml.1;have HK1:=Hh Qml.2;have pc:w1.cell? ⟨wb,13,none⟩=some (.int .i64 s1.code):=Qml.1.blk.cell 13 _ rfl;have y3:=(HBX.o w1 Qml.2).2.2.2;clear Qml);go_returns;rw[HX.o,Ps (by simpa using HC.o)];exact⟨rfl,H1.o,HK0.o.trans HK1.o⟩
 |false =>
 have HC:=Hh hc;rw[Ng (by simpa using hc)] at HX;cases hk1:(k1 != 1) with
 |true =>
  have Qx6:=Hh hk1;go_enter func230,ntmps230;go_wp2_with (first|(go_at_call 212;refine Qmw.mono ?_;rintro e w1 ⟨rfl,Qml⟩;have H1:=Hh Qml.1;have HK1:=Hh Qml.2;have pc:w1.cell? ⟨wb,13,none⟩=some (.int .i64 s1.code):=Qml.1.blk.cell 13 _ rfl;have y3:=(HBX.o w1 Qml.2).2.2.2;clear Qml)|(go_at_call 136;refine (Qu H1.o _ _).mono ?_;rintro e w2 ⟨rfl,hat⟩));go_returns;rw[HX.o,Ps (by simpa using Qx6.o)];exact⟨rfl,hat.1,(HK0.o.trans HK1.o).trans hat.2⟩
 |false =>
 rw[Ng (by simpa using hk1)] at HX;go_enter func230,ntmps230;go_wp2_with (go_at_call 212;refine Qmw.mono ?_;rintro e w1 ⟨rfl,Qml⟩;have H1:=Hh Qml.1;have HK1:=Hh Qml.2;have pc:w1.cell? ⟨wb,13,none⟩=some (.int .i64 s1.code):=Qml.1.blk.cell 13 _ rfl;have y3:=(HBX.o w1 Qml.2).2.2.2;clear Qml);go_loopw [7,8,9] (fun first m u9 wr=>∃(j:Nat) (z:SS) (k0:Int),j≤ks.length∧m=.int .i64 ((1+j:Nat):Int)∧first=.int .i64 k0∧z.code=0∧Hi (AtW W0 wb gb r0 r1 r2 (.slice (some ⟨nb,no,none⟩) t.nodes.length nc) t1 ov z nv kv wv wr∧((j=0∧k0=0∧X=Q9n r t ks z)∨(0<j∧X=Y7 r t k0 (ks.drop j) z)))) (fun _ m _ _=>ks.length+1-(intOf m).toNat)
 case atStart=>exact⟨0,s1,0,Nat.zero_le _,rfl,rfl,by simpa using HC.o,Hh ⟨⟨H1.o,HK1.o⟩,Or.inl ⟨rfl,rfl,HX.o⟩⟩⟩
 case round =>
  obtain⟨j,z,k0,hj,rfl,rfl,hz,HR⟩:=hrel;obtain⟨wo,rfl⟩:∃wo:World,wo=wr:=⟨_,rfl⟩;obtain⟨jm,hjm⟩:∃jm,1+j=jm:=⟨_,rfl⟩;rw[hjm];have HJM:=Hh hjm;obtain⟨x0,x1,x2,x3⟩:=HBX.o wo HR.o.1.2
  by_cases hlt:j<ks.length
  ·obtain⟨k,hk⟩:=Q3 hlt
   obtain⟨pm,rfl,hpn⟩:=Q1.at_lt (Qqp.o k (Mg hk));have hpm:(pm:Int)<t.nodes.length:=(Qqp.o _ (Mg hk)).2;have s0:∀W,Q0 (at2 wb gb) wo W→W.cell? ⟨kb,ko+jm,none⟩=some (.int .i64 (pm:Int)):=fun W hW=>HJM.o▸HKJ.o j _ hk W (HR.o.1.2.trans hW)
   obtain⟨B,fb,fo,fc,hd,_,_,_,_⟩:=HF0.o.cells hpn;have s1':∀W,Q0 (at2 wb gb) wo W→W.cell? ⟨nb,no+pm*4+1,none⟩=some (.string (t.at (pm:Int)).text):=fun W hW=>(hd W (HR.o.1.2.trans hW)).2.1
   have s3:∀W,Q0 (at2 wb gb) wo W→W.cell? ⟨w.heap.size,3,none⟩=some (.slice (some ⟨kb,ko,none⟩) n.kids.length kc):=fun W hW=>(HBX.o W (HR.o.1.2.trans hW)).2.2.2
   have p3:wo.cell? ⟨wb,3,none⟩=some (.slice (some ⟨nb,no,none⟩) t.nodes.length nc):=HR.o.1.1.blk.cell 3 _ rfl;have p3':wo.drew.cell? ⟨wb,3,none⟩=some (.slice (some ⟨nb,no,none⟩) t.nodes.length nc):=p3;have Qoq:=Hh (Q7j (HR.o.1.1.drew) (HF0.o.kept (HR.o.1.2.drew)) (t.at (pm:Int)).text (pm:Int));have HKJ':=Hh hk;have hjn:(jm:Int)<(n.kids.length:Int):=by have:=Qnf.o;omega
   have hr0:Q0 (at2 wb gb) wo wo:=Kr _ _
   have HXA:Hi (X=if (Yn r z (t.at (pm:Int)).text pm).2.code≠0 then (0,(Yn r z (t.at (pm:Int)).text pm).2) else if j=0 then Y7 r t (Yn r z (t.at (pm:Int)).text pm).1 (ks.drop (j+1)) (Yn r z (t.at (pm:Int)).text pm).2
     else if (Yn r z (t.at (pm:Int)).text pm).1≠k0 then (0,(Yn r z (t.at (pm:Int)).text pm).2.fail 4 pm) else Y7 r t k0 (ks.drop (j+1)) (Yn r z (t.at (pm:Int)).text pm).2):=by
    refine Hh ?_;rcases HR.o.2 with ⟨rfl,_,e⟩|⟨hp,e⟩
    ·cases ks with
     |nil=>simp at hlt
     |cons k ks=>simp at hk;subst hk;rw[e,Ps rfl];rfl
    ·rw[e,Qd hk,Ng (show ¬ j=0 by omega)];rfl
   clear hk hpn hd;generalize Yn r z (t.at (pm:Int)).text (pm:Int)=c at Qoq HXA;obtain⟨k2,z2⟩:=c;dsimp only at Qoq HXA;have q3:=s3 wo hr0;have q0:=s0 wo hr0;have q1:=s1' wo hr0;have Qx7:jm≤140737488355328:=by omega
   clear hjm;cases hc2:(z2.code != 0) with
   |true =>
    have HC2:=Hh hc2;go_wp2_with fail;go_region_held3 (fun W=>W.cell? ⟨wb,3,none⟩=some (.slice (some ⟨nb,no,none⟩) t.nodes.length nc)∧W.cell? ⟨kb,ko+jm,none⟩=some (.int .i64 (pm:Int))∧W.cell? ⟨nb,no+pm*4+1,none⟩=some (.string (t.at (pm:Int)).text)∧W.cell? ⟨w.heap.size,3,none⟩=some (.slice (some ⟨kb,ko,none⟩) n.kids.length kc)) (first|assumption|exact⟨p3,q0,q1,q3⟩|exact⟨pc3,y0,y1,y3⟩) ((go_at_call 231;refine (Qoq.o).mono ?_;rintro e w2 ⟨rfl,hat⟩;have hk1:=(hr0.drew).trans hat.2;have HA2:=Hh hat.1;have HK2:=Hh hk1;have pc:w2.cell? ⟨wb,13,none⟩=some (.int .i64 z2.code):=hat.1.blk.cell 13 _ rfl;have pc3:w2.cell? ⟨wb,3,none⟩=some (.slice (some ⟨nb,no,none⟩) t.nodes.length nc):=hat.1.blk.cell 3 _ rfl;have y3:=s3 w2 hk1;have y0:=s0 w2 hk1;have y1:=s1' w2 hk1;clear hat hk1;dsimp only));go_wp2_with fail;go_returns;rw[HXA.o,Ps (by simpa using HC2.o)];exact⟨rfl,HA2.o,(HK0.o.trans HR.o.1.2).trans HK2.o⟩
   |false =>
   have hz2:z2.code=0:=by simpa using hc2
   have HZ2:=Hh hz2;rw[Ng (by simpa using hc2)] at HXA
   by_cases hj0:j=0
   ·have tj:decide ((jm:Int)>1)=false:=Df (by have:=HJM.o;omega)
    have tj2:((jm:Int)==1)=true:=by rw[beq_iff_eq];have:=HJM.o;omega
    have tj':decide ((1:Int)<(jm:Int))=false:=Df (by have:=HJM.o;omega);rw[Ps hj0] at HXA;have HJ0:=Hh hj0;clear hj0 hz2;go_wp2_with fail;go_region_held3 (fun W=>W.cell? ⟨wb,3,none⟩=some (.slice (some ⟨nb,no,none⟩) t.nodes.length nc)∧W.cell? ⟨kb,ko+jm,none⟩=some (.int .i64 (pm:Int))∧W.cell? ⟨nb,no+pm*4+1,none⟩=some (.string (t.at (pm:Int)).text)∧W.cell? ⟨w.heap.size,3,none⟩=some (.slice (some ⟨kb,ko,none⟩) n.kids.length kc)) (first|assumption|exact⟨p3,q0,q1,q3⟩|exact⟨pc3,y0,y1,y3⟩) ((go_at_call 231;refine (Qoq.o).mono ?_;rintro e w2 ⟨rfl,hat⟩;have hk1:=(hr0.drew).trans hat.2;have HA2:=Hh hat.1;have HK2:=Hh hk1;have pc:w2.cell? ⟨wb,13,none⟩=some (.int .i64 z2.code):=hat.1.blk.cell 13 _ rfl;have pc3:w2.cell? ⟨wb,3,none⟩=some (.slice (some ⟨nb,no,none⟩) t.nodes.length nc):=hat.1.blk.cell 3 _ rfl;have y3:=s3 w2 hk1;have y0:=s0 w2 hk1;have y1:=s1' w2 hk1;clear hat hk1;dsimp only));go_wp2_with fail;go_round
    case rel=>exact⟨j+1,z2,k2,by omega,(by have:=HJM.o;congr 1;omega),rfl,HZ2.o,Hh ⟨⟨HA2.o,HR.o.1.2.trans HK2.o⟩,Or.inr ⟨by omega,HXA.o⟩⟩⟩
    case measure=>have:=HJM.o;simp[intOf];omega
   ·have tj:decide ((jm:Int)>1)=true:=Dt (by have:=HJM.o;omega)
    have tj2:((jm:Int)==1)=false:=by rw[beq_eq_false_iff_ne];have:=HJM.o;omega
    have tj':decide ((1:Int)<(jm:Int))=true:=Dt (by have:=HJM.o;omega);rw[Ng hj0] at HXA;have HJ0:=Hh hj0;clear hj0 hz2;cases hk2:(k2 != k0) with
    |true =>
     have HKE:=Hh hk2;go_wp2_with fail;go_region_held3 (fun W=>W.cell? ⟨wb,3,none⟩=some (.slice (some ⟨nb,no,none⟩) t.nodes.length nc)∧W.cell? ⟨kb,ko+jm,none⟩=some (.int .i64 (pm:Int))∧W.cell? ⟨nb,no+pm*4+1,none⟩=some (.string (t.at (pm:Int)).text)∧W.cell? ⟨w.heap.size,3,none⟩=some (.slice (some ⟨kb,ko,none⟩) n.kids.length kc)) (first|assumption|exact⟨p3,q0,q1,q3⟩|exact⟨pc3,y0,y1,y3⟩) ((go_at_call 231;refine (Qoq.o).mono ?_;rintro e w2 ⟨rfl,hat⟩;have hk1:=(hr0.drew).trans hat.2;have HA2:=Hh hat.1;have HK2:=Hh hk1;have pc:w2.cell? ⟨wb,13,none⟩=some (.int .i64 z2.code):=hat.1.blk.cell 13 _ rfl;have pc3:w2.cell? ⟨wb,3,none⟩=some (.slice (some ⟨nb,no,none⟩) t.nodes.length nc):=hat.1.blk.cell 3 _ rfl;have y3:=s3 w2 hk1;have y0:=s0 w2 hk1;have y1:=s1' w2 hk1;clear hat hk1;dsimp only));go_wp2_with (go_at_call 136;refine (Qu HA2.o _ _).mono ?_;rintro e w3 ⟨rfl,Qn0⟩);go_returns;rw[HXA.o,Ps (by simpa using HKE.o)];exact⟨rfl,Qn0.1,((HK0.o.trans HR.o.1.2).trans HK2.o).trans Qn0.2⟩
    |false =>
     have HKE:=Hh hk2;go_wp2_with fail;go_region_held3 (fun W=>W.cell? ⟨wb,3,none⟩=some (.slice (some ⟨nb,no,none⟩) t.nodes.length nc)∧W.cell? ⟨kb,ko+jm,none⟩=some (.int .i64 (pm:Int))∧W.cell? ⟨nb,no+pm*4+1,none⟩=some (.string (t.at (pm:Int)).text)∧W.cell? ⟨w.heap.size,3,none⟩=some (.slice (some ⟨kb,ko,none⟩) n.kids.length kc)) (first|assumption|exact⟨p3,q0,q1,q3⟩|exact⟨pc3,y0,y1,y3⟩) ((go_at_call 231;refine (Qoq.o).mono ?_;rintro e w2 ⟨rfl,hat⟩;have hk1:=(hr0.drew).trans hat.2;have HA2:=Hh hat.1;have HK2:=Hh hk1;have pc:w2.cell? ⟨wb,13,none⟩=some (.int .i64 z2.code):=hat.1.blk.cell 13 _ rfl;have pc3:w2.cell? ⟨wb,3,none⟩=some (.slice (some ⟨nb,no,none⟩) t.nodes.length nc):=hat.1.blk.cell 3 _ rfl;have y3:=s3 w2 hk1;have y0:=s0 w2 hk1;have y1:=s1' w2 hk1;clear hat hk1;dsimp only));go_wp2_with fail;go_round
     case rel=>exact⟨j+1,z2,k0,by omega,(by have:=HJM.o;congr 1;omega),rfl,HZ2.o,Hh ⟨⟨HA2.o,HR.o.1.2.trans HK2.o⟩,Or.inr ⟨by omega,by rw[HXA.o,Ng (by simpa using HKE.o)]⟩⟩⟩
     case measure=>have:=HJM.o;simp[intOf];omega
  ·have hje:j=ks.length:=by omega
   have HJE:=Hh hje;have hjn':decide ((jm:Int)<(n.kids.length:Int))=false:=Df (by have:=Qnf.o;omega);have Qou:decide (jm<n.kids.length)=false:=Df (by have:=Qnf.o;omega);have Qpq:n.kids.length≤jm:=by have:=Qnf.o;omega
   clear hje hjm hlt;go_wp2_with fail;go_returns
   have hX:X=(k0,z):=by
    rcases HR.o.2 with ⟨e0,e1,e⟩|⟨hp,e⟩
    ·rw[HJE.o] at e0
     have:ks=[]:=List.eq_nil_of_length_eq_zero e0;subst this;subst e1;exact e
    ·rw[e,HJE.o,List.drop_length];rfl
   rw[hX];exact⟨rfl,HR.o.1.1,HK0.o.trans HR.o.1.2⟩
end
end Go.Proofs.YtkgkafjachjafaaGreat
