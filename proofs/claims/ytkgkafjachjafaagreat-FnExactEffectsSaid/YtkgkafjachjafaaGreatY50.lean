/- Part 50 of y_holds; no condition. -/
import Derived.Test.YtkgkafjachjafaaGreatY41
import Derived.Test.YtkgkafjachjafaaGreatY46
set_option linter.unusedVariables false
set_option maxHeartbeats 80000000
set_option maxRecDepth 100000
open Go Go.RowKit
namespace Go.Proofs.YtkgkafjachjafaaGreat
open Tryz
def Q21 (r:Reg) (t:Q1) (name:ByteArray):List (Nat×Int):=if Q5v r t name=true then Qg9 r t name else []
def Zh (r:Reg) (t:Q1) (name:ByteArray) (s:Nat):List (Nat×Int):=((Jq (Q08 t) name s).take s).flatMap fun x=>Y4 r t t.nodes.length (Q3 t t.tops x)
theorem Qc1 {r:Reg} {t:Q1} {name x:ByteArray} {s:Nat} (h:(Jq (Q08 t) name s)[s]?=some x):Zh r t name (s+1)=Zh r t name s++Y4 r t t.nodes.length (Q3 t t.tops x):=by
 unfold Zh;obtain⟨m,hm⟩:=Q3v (Q08 t) name s;have hl:s<(Jq (Q08 t) name s).length:=(Gs h).1;rw[hm,List.take_append_of_le_length Om,Js h,List.flatMap_append];simp
theorem Qgn {r:Reg} {t:Q1} (hch:Zu t 0 t.tops t.nodes.length) (hsz:t.nodes.length≤4000) {k:Int} (hk:k∈t.tops) (hi:InT t k):(Y4 r t t.nodes.length k).length≤8001∧(Z0 t t.nodes.length k).length≤4001:=by
 have hsp:=Q62 t.tops 0 _ k (Int.le_refl 0) hch hk;have:=Qh1 (r:=r) _ _ _ hsp hi.2;have h1:=hsp.1;have h2:=hi.2;have h3:X4 t k=Zy k t.tops 0:=rfl;omega
theorem Qcu {r:Reg} {t:Q1} {name:ByteArray} (hch:Zu t 0 t.tops t.nodes.length) (hsz:t.nodes.length≤4000) (ht:∀i∈t.tops,InT t i) (s:Nat) (hN:∀x∈Jq (Q08 t) name s,0≤Q3 t t.tops x) (hf:(Jq (Q08 t) name s).length≤t.nodes.length):(Zh r t name s).length≤32004000:=by
 unfold Zh
 have h1:=Qd4 (fun x=>Y4 r t t.nodes.length (Q3 t t.tops x)) 8001 ((Jq (Q08 t) name s).take s) (fun x hx=>by
  have hm:=(Zc (hN x (List.take_subset _ _ hx))).1;exact (Qgn hch hsz hm (ht _ hm)).1)
 have h9:((Jq (Q08 t) name s).take s).length≤4000:=by rw[List.length_take];omega
 have h10:((Jq (Q08 t) name s).take s).length*8001≤4000*8001:=Nat.mul_le_mul_right _ h9;omega
theorem Qdc {r:Reg} {t:Q1} {name:ByteArray} {s:Nat} (h:(Jq (Q08 t) name s).length≤s) (hs:s≤4001):Qg9 r t name=Zh r t name s:=by
 unfold Qg9 Zh Qe9;rw[Qdq _ _ h 4001 hs,List.take_of_length_le h]
theorem Xm.step {S S' S2:Nat→Prop} {w w':World} {eb:Nat} {vs:Nat→Value} {A:List (Nat×Int)} {lv:Value} {L:List ByteArray} (h:Xm S w eb vs A lv L) (k:Q0 S' w w') (hn:∀b,S b→¬ S' b) (heb:¬ S' eb) (hs:∀b,b<w.heap.size→S b→S2 b) (h2:¬ S2 eb):Xm S2 w' eb vs A lv L :=
 ⟨h.blk.kept k heb,h2,fun i hi=>⟨((h.own i hi).kept k (fun b hb=>hn b ((h.own i hi).2 b hb))).1,fun b hb=>hs b ((h.own i hi).lt b hb) ((h.own i hi).2 b hb)⟩,⟨(h.l.kept k (fun b hb=>hn b (h.l.2 b hb))).1,fun b hb=>hs b (h.l.lt b hb) (h.l.2 b hb)⟩,h.dis⟩
structure Qa7 (t:Q1) (w1:World) (tv:Value) (wr:World) (l:List ByteArray) (vs:Nat→Value) (A:List (Nat×Int)) (cv:Value) (cl:List ByteArray):Prop where
 f:Qc (Q6 (w1.heap.size+1)) 9 wr tv (strs l)
 e:Xm (fun b=>w1.heap.size+1≤b∧¬ own tv b) wr w1.heap.size vs A cv cl
 k:Q0 (Q6 w1.heap.size) w1 wr
 ti:Q4n t l
namespace Qa7
variable {t:Q1} {w1 wr w' w5:World} {tv cv:Value} {l cl:List ByteArray} {vs:Nat→Value} {A:List (Nat×Int)}
theorem nobk (h:Qa7 t w1 tv wr l vs A cv cl) (k:Q0 nob wr w'):Qa7 t w1 tv w' l vs A cv cl:=⟨h.f.nobk k,h.e.nobk k,h.k.trans (k.ofNob _),h.ti⟩
theorem more {x:ByteArray} {v5:Value} (h:Qa7 t w1 tv wr l vs A cv cl) (hx:Q6f t x) (hn:x∉l) (h5:Qc (Q6 (w1.heap.size+1)) 9 w5 v5 (strs l++[.string x])) (k5:Q0 (own tv) wr w5) (a5:v5.ownBlock=tv.ownBlock∨∃b,v5.ownBlock=some b∧wr.heap.size≤b):Qa7 t w1 v5 w5 (l++[x]) vs A cv cl:=by
 have hf:=h.f.2
 refine⟨by rw[← Q3w];exact h5,h.e.step k5 (fun b hb e=>hb.2 e) (fun e=>by have h9:w1.heap.size+1≤w1.heap.size:=hf _ e;omega) (fun b hb e=>⟨e.1,fun e2=>?_⟩) (fun e=>by have:=e.1;omega),h.k.trans (k5.mono (fun b _ e=>by have h9:w1.heap.size+1≤b:=hf b e;show w1.heap.size≤b;omega)),?_⟩
 ·have e2:v5.ownBlock=some b:=e2
  rcases a5 with a5|⟨b5,a5,h9⟩
  ·exact e.2 (a5.symm.trans e2)
  ·rw[a5] at e2;cases e2;omega
 ·refine⟨?_,fun y hy=>(List.mem_append.1 hy).elim (h.ti.2 y) (fun hy=>by simp at hy;rw[hy];exact hx)⟩
  rw[List.nodup_append];exact⟨h.ti.1,Sm,fun a ha b hb e=>hn (by simp at hb;rw[← hb,← e];exact ha)⟩
end Qa7
theorem Qch (r:Reg) (t:Q1) (name:ByteArray) (rv tv:Value) (w:World) (hr:Q20 w rv r) (ht:Xt w tv t) (hN:Q2e r) (hX:Q0i t) (hSm:Z1 t) (hC:(Zo r t).1=0→Q2d t) :
  Calls prog 22 #[rv,tv,.string name] w fun e w'=>∃P N C,e=.returned (.tuple #[.agg #[.slice (P 0) (N 0) (C 0),.slice (P 1) (N 1) (C 1),.slice (P 2) (N 2) (C 2),.slice (P 3) (N 3) (C 3),.slice (P 4) (N 4) (C 4),.slice (P 5) (N 5) (C 5),.slice (P 6) (N 6) (C 6),.slice (P 7) (N 7) (C 7),.bool (Ju 8 (Q21 r t name)),.bool (Ju 9 (Q21 r t name))],.bool (Q5v r t name)])∧(∀k,k<8→Qc (Q6 w.heap.size) 3 w' (slv P N C k) (Q5 (Zf (Zb k (Q21 r t name)))))∧Q0 nob w w':=by
 have hr':=hr;have ht':=ht;obtain⟨v0,v1,v2,rfl,d0,d1,d2⟩:=hr;obtain⟨u0,u1,rfl,e0,e1⟩:=ht;have Qny:∀(u:Value) (ds:List Zt),Ji w u ds→∃A c,u=.slice A ds.length c:=fun u ds ⟨A,b,o,c,h,_⟩=>⟨A,c,h⟩
 obtain⟨A0,c0,rfl⟩:=Qny _ _ d0;obtain⟨A1,c1,rfl⟩:=Qny _ _ d1;obtain⟨A2,c2,rfl⟩:=Qny _ _ d2;obtain⟨A3,nb,no,c3,rfl,_⟩:=e0;obtain⟨A4,tb,tq,c4,rfl,_⟩:=e1;have hk0:Q0 nob w (((w.alloc (.cells #[.slice A0 r.comps.length c0,.slice A1 r.ress.length c1,.slice A2 r.evts.length c2] 38 (0,0))).alloc (.cells #[.slice A3 t.nodes.length c3,.slice A4 t.tops.length c4] 33 (0,0))).alloc (.cells #[.slice none 0 0,.slice none 0 0,.slice none 0 0,.slice none 0 0,.slice none 0 0,.slice none 0 0,.slice none 0 0,.slice none 0 0,.bool false,.bool false] 55 (0,0))):=(((Kr _ _).alloc _).alloc _).alloc _;have hb1:Blk (((w.alloc (.cells #[.slice A0 r.comps.length c0,.slice A1 r.ress.length c1,.slice A2 r.evts.length c2] 38 (0,0))).alloc (.cells #[.slice A3 t.nodes.length c3,.slice A4 t.tops.length c4] 33 (0,0))).alloc (.cells #[.slice none 0 0,.slice none 0 0,.slice none 0 0,.slice none 0 0,.slice none 0 0,.slice none 0 0,.slice none 0 0,.slice none 0 0,.bool false,.bool false] 55 (0,0))) w.heap.size [.slice A0 r.comps.length c0,.slice A1 r.ress.length c1,.slice A2 r.evts.length c2] 38:=((Blk.new_of _ _ _ rfl).alloc _).alloc _;have hb2:Blk (((w.alloc (.cells #[.slice A0 r.comps.length c0,.slice A1 r.ress.length c1,.slice A2 r.evts.length c2] 38 (0,0))).alloc (.cells #[.slice A3 t.nodes.length c3,.slice A4 t.tops.length c4] 33 (0,0))).alloc (.cells #[.slice none 0 0,.slice none 0 0,.slice none 0 0,.slice none 0 0,.slice none 0 0,.slice none 0 0,.slice none 0 0,.slice none 0 0,.bool false,.bool false] 55 (0,0))) (w.heap.size+1) [.slice A3 t.nodes.length c3,.slice A4 t.tops.length c4] 33:=(Blk.new_of _ _ _ Sm).alloc _;have hb3:Blk (((w.alloc (.cells #[.slice A0 r.comps.length c0,.slice A1 r.ress.length c1,.slice A2 r.evts.length c2] 38 (0,0))).alloc (.cells #[.slice A3 t.nodes.length c3,.slice A4 t.tops.length c4] 33 (0,0))).alloc (.cells #[.slice none 0 0,.slice none 0 0,.slice none 0 0,.slice none 0 0,.slice none 0 0,.slice none 0 0,.slice none 0 0,.slice none 0 0,.bool false,.bool false] 55 (0,0))) (w.heap.size+1+1) [.slice none 0 0,.slice none 0 0,.slice none 0 0,.slice none 0 0,.slice none 0 0,.slice none 0 0,.slice none 0 0,.slice none 0 0,.bool false,.bool false] 55:=Blk.new_of _ _ _ Sm;have hst:((((w.alloc (.cells #[.slice A0 r.comps.length c0,.slice A1 r.ress.length c1,.slice A2 r.evts.length c2] 38 (0,0))).alloc (.cells #[.slice A3 t.nodes.length c3,.slice A4 t.tops.length c4] 33 (0,0))).alloc (.cells #[.slice none 0 0,.slice none 0 0,.slice none 0 0,.slice none 0 0,.slice none 0 0,.slice none 0 0,.slice none 0 0,.slice none 0 0,.bool false,.bool false] 55 (0,0)))).heap.size=w.heap.size+3:=Sm
 generalize hW0:(((w.alloc (.cells #[.slice A0 r.comps.length c0,.slice A1 r.ress.length c1,.slice A2 r.evts.length c2] 38 (0,0))).alloc (.cells #[.slice A3 t.nodes.length c3,.slice A4 t.tops.length c4] 33 (0,0))).alloc (.cells #[.slice none 0 0,.slice none 0 0,.slice none 0 0,.slice none 0 0,.slice none 0 0,.slice none 0 0,.slice none 0 0,.slice none 0 0,.bool false,.bool false] 55 (0,0)))=W0 at hk0 hb1 hb2 hb3 hst;obtain⟨S,hSd⟩:∃S:Nat→Prop,S=Q6 W0.heap.size:=⟨_,rfl⟩;have hS1:∀k,S k↔w.heap.size+3≤k:=fun k=>by rw[hSd,← hst];rfl
 have Qop:∀W,Q0 S W0 W→Xi w W:=fun W hW=>((hk0.ofNob _).trans hW).oldS fun k hk h=>by have:=(hS1 k).1 h;omega
 have HS:Hi (∀W,Q0 S W0 W→(W.cell? ⟨w.heap.size,0,none⟩=some (.slice A0 r.comps.length c0)∧W.cell? ⟨w.heap.size,1,none⟩=some (.slice A1 r.ress.length c1)∧W.cell? ⟨w.heap.size,2,none⟩=some (.slice A2 r.evts.length c2))∧(W.cell? ⟨w.heap.size+1,0,none⟩=some (.slice A3 t.nodes.length c3)∧W.cell? ⟨w.heap.size+1,1,none⟩=some (.slice A4 t.tops.length c4))∧Blk W (w.heap.size+1+1) [.slice none 0 0,.slice none 0 0,.slice none 0 0,.slice none 0 0,.slice none 0 0,.slice none 0 0,.slice none 0 0,.slice none 0 0,.bool false,.bool false] 55):=Hh fun W hW=>by
  have n0:¬ S w.heap.size:=fun h=>by have:=(hS1 _).1 h;omega
  have n1:¬ S (w.heap.size+1):=fun h=>by have:=(hS1 _).1 h;omega
  have n2:¬ S (w.heap.size+1+1):=fun h=>by have:=(hS1 _).1 h;omega
  exact⟨⟨hW.cell n0 (hb1.cell 0 _ rfl),hW.cell n0 (hb1.cell 1 _ rfl),hW.cell n0 (hb1.cell 2 _ rfl)⟩,⟨hW.cell n1 (hb2.cell 0 _ rfl),hW.cell n1 (hb2.cell 1 _ rfl)⟩,hb3.kept hW n2⟩
 have HR0:Hi (∀W,Q0 S W0 W→Q20 W (.agg #[.slice A0 r.comps.length c0,.slice A1 r.ress.length c1,.slice A2 r.evts.length c2]) r∧Xt W (.agg #[.slice A3 t.nodes.length c3,.slice A4 t.tops.length c4]) t):=Hh fun W hW=>⟨hr'.old (Qop W hW),ht'.old (Qop W hW)⟩
 have HTB:Hi (∀W,Q0 S W0 W→TB S W t (.slice A3 t.nodes.length c3) (.slice A4 t.tops.length c4)):=Hh fun W hW=>⟨fun W' hW'=>((HR0.o W' (hW.trans hW')).2:Xt _ _ _).elim fun a h=>h.elim fun b h=>by obtain⟨e,h1,_⟩:=h;cases e;exact h1,fun W' hW'=>((HR0.o W' (hW.trans hW')).2:Xt _ _ _).elim fun a h=>h.elim fun b h=>by obtain⟨e,_,h1⟩:=h;cases e;exact h1⟩
 obtain⟨⟨g0,g1,g2⟩,⟨g3,g4⟩,gz⟩:=HS.o W0 (Kr _ _);have HK0:=Hh hk0;have HNM:=Hh hN;have HXT:=Hh hX;have HSM:=Hh hSm;have HSD:=Hh hS1;have HC:=Hh hC;clear hb1 hb2 hb3 hk0 d0 d1 d2 hr' ht' Qny hN hX hSm hS1 Qop hC hSd;cases hck:((Zo r t).1 != 0) with
 |true =>
  have HOK:Hi (Q5v r t name=false∧Q21 r t name=[]):=Hh (by
   have h:Q5v r t name=false:=by unfold Q5v;simp at hck;simp[hck]
   exact⟨h,by unfold Q21;rw[Ng (by rw[h];simp)]⟩)
  rw[HOK.o.1,HOK.o.2];go_enter func22,ntmps22;go_wp2_with (go_at_call 30;refine (Q9j r t _ _ _ (HR0.o _ (Kr _ _)).1 (HR0.o _ (Kr _ _)).2 HNM.o HXT.o HSM.o).mono ?_;rintro e w1 ⟨rfl,hk1⟩;have HK1:=Hh hk1;clear hk1 g0 g1 g2 g3 g4 gz;obtain⟨⟨g0,g1,g2⟩,⟨g3,g4⟩,gz⟩:=HS.o _ (HK1.o.ofNob S);have z0:=gz.cell 0 _ rfl;have y0:=gz.free 0;have z1:=gz.cell 1 _ rfl;have y1:=gz.free 1;have z2:=gz.cell 2 _ rfl;have y2:=gz.free 2;have z3:=gz.cell 3 _ rfl;have y3:=gz.free 3;have z4:=gz.cell 4 _ rfl;have y4:=gz.free 4;have z5:=gz.cell 5 _ rfl;have y5:=gz.free 5;have z6:=gz.cell 6 _ rfl;have y6:=gz.free 6;have z7:=gz.cell 7 _ rfl;have y7:=gz.free 7;have z8:=gz.cell 8 _ rfl;have y8:=gz.free 8;have z9:=gz.cell 9 _ rfl;have y9:=gz.free 9;obtain⟨e0,e1,e2,e3,e4,e5,e6,e7,e8,e9⟩:=Qa5 gz);refine bodyPost_ret (v:=.tuple #[.agg #[.slice none 0 0,.slice none 0 0,.slice none 0 0,.slice none 0 0,.slice none 0 0,.slice none 0 0,.slice none 0 0,.slice none 0 0,.bool false,.bool false],.bool false]) (by simp[results,results22,go_sem,e0,e1,e2,e3,e4,e5,e6,e7,e8,e9]) rfl ?_;exact⟨fun _=>none,fun _=>0,fun _=>0,rfl,fun k _=>Qc.nil _ _ _,(HK0.o.trans HK1.o).then_ Xz (fun b h=>.inr (by rw[h];omega))⟩
 |false =>
 have hc0:(Zo r t).1=0:=by simpa using hck
 have HCO:=HC.o hc0;have htb:Q00 t=true:=(Q30 hc0).1;have hte:∀x,Zq t x=Q3 t t.tops x:=fun x=>by unfold Zq;rw[Ps htb]
 obtain⟨p1,p2,p3,p4,p5,p6⟩:=Yg htb;have htk:∀i∈t.tops,InT t i:=fun i hi=>(p4 i hi).1
 have HTE:=Hh hte;go_enter func22,ntmps22;go_upto_region 4 with (go_at_call 30;refine (Q9j r t _ _ _ (HR0.o _ (Kr _ _)).1 (HR0.o _ (Kr _ _)).2 HNM.o HXT.o HSM.o).mono ?_;rintro e w1 ⟨rfl,hk1⟩;have HK1:=Hh hk1;clear hk1 g0 g1 g2 g3 g4 gz;obtain⟨⟨g0,g1,g2⟩,⟨g3,g4⟩,gz⟩:=HS.o _ (HK1.o.ofNob S);have z0:=gz.cell 0 _ rfl;have y0:=gz.free 0;have z1:=gz.cell 1 _ rfl;have y1:=gz.free 1;have z2:=gz.cell 2 _ rfl;have y2:=gz.free 2;have z3:=gz.cell 3 _ rfl;have y3:=gz.free 3;have z4:=gz.cell 4 _ rfl;have y4:=gz.free 4;have z5:=gz.cell 5 _ rfl;have y5:=gz.free 5;have z6:=gz.cell 6 _ rfl;have y6:=gz.free 6;have z7:=gz.cell 7 _ rfl;have y7:=gz.free 7;have z8:=gz.cell 8 _ rfl;have y8:=gz.free 8;have z9:=gz.cell 9 _ rfl;have y9:=gz.free 9;obtain⟨e0,e1,e2,e3,e4,e5,e6,e7,e8,e9⟩:=Qa5 gz)
 have Qr3:=Hh (HK0.o.trans HK1.o);have hz1:w.heap.size+3≤w1.heap.size:=by have:=HK1.o.size;omega
 have HM:Hi (∀W,Q0 (Q6 w1.heap.size) w1 W→Q0 S W0 W):=Hh fun W hW=>(HK1.o.ofNob S).trans (hW.mono fun b _ h=>(HSD.o b).2 (by have h9:w1.heap.size≤b:=h;omega))
 obtain⟨W2,hW2⟩:∃W2,W2=(w1.alloc (.cells #[.slice none 0 0,.slice none 0 0,.slice none 0 0,.slice none 0 0,.slice none 0 0,.slice none 0 0,.slice none 0 0,.slice none 0 0,.bool false,.bool false] 55 (0,0))).alloc (.cells #[.string name] 9 (0,0)):=⟨_,rfl⟩;have hk2:Q0 (Q6 w1.heap.size) w1 W2:=by rw[hW2];exact ((Kr _ _).alloc _).alloc _
 cases htp:decide (Zq t name<0) with
 |true =>
  have HOK:Hi (Q5v r t name=false∧Q21 r t name=[]):=Hh (by
   have h:Q5v r t name=false:=by unfold Q5v;simp at htp;simp;omega
   exact⟨h,by unfold Q21;rw[Ng (by rw[h];simp)]⟩)
  have x0:W2.cell? ⟨w1.heap.size+1,0,none⟩=some (.string name):=by rw[hW2];exact (Blk.new_of _ [.string name] _ Sm).cell 0 _ rfl
  have x1:=(Blk.new_of w1 [.slice none 0 0,.slice none 0 0,.slice none 0 0,.slice none 0 0,.slice none 0 0,.slice none 0 0,.slice none 0 0,.slice none 0 0,.bool false,.bool false] 55 rfl:Blk _ w1.heap.size [.slice none 0 0,.slice none 0 0,.slice none 0 0,.slice none 0 0,.slice none 0 0,.slice none 0 0,.slice none 0 0,.slice none 0 0,.bool false,.bool false] 55);go_wp2_with fail;go_loopw [11,12,13,14,15] (fun tv k _ _ _ wr=>tv=.slice (some ⟨w1.heap.size+1,0,none⟩) 1 1∧k=.int .i64 0∧Hi (wr=W2)) (fun _ _ _ _ _ _=>0)
  case atStart=>exact⟨by first|rfl|simp,rfl,Hh hW2.symm⟩
  case round =>
   obtain⟨rfl,rfl,HW⟩:=hrel;obtain⟨wo,rfl⟩:∃wo:World,wo=wr:=⟨_,rfl⟩;have x0':wo.cell? ⟨w1.heap.size+1,0,none⟩=some (.string name):=by rw[HW.o];exact x0
   have hko:Q0 (Q6 w1.heap.size) w1 wo:=by rw[HW.o];exact hk2
   have HKO:=Hh hko;have HMO:=Hh (HM.o wo hko);obtain⟨_,_,gz⟩:=HS.o wo HMO.o;have hs0:∀W,Q0 nob wo W→W.cell? ⟨w.heap.size+1,0,none⟩=some (.slice A3 t.nodes.length c3):=fun W hW=>(HS.o W (HMO.o.trans (hW.ofNob _))).2.1.1
   have hs1:∀W,Q0 nob wo W→W.cell? ⟨w.heap.size+1,1,none⟩=some (.slice A4 t.tops.length c4):=fun W hW=>(HS.o W (HMO.o.trans (hW.ofNob _))).2.1.2
   have hs2:∀W,Q0 nob wo W→W.cell? ⟨w1.heap.size+1,0,none⟩=some (.string name):=fun W hW=>hW.cell id x0'
   have hr0:Q0 nob wo wo:=Kr _ _;clear hko x0 x0' g0 g1 g2 g3 g4 hk2 hW2 x1 hte;clear z0 y0 z1 y1 z2 y2 z3 y3 z4 y4 z5 y5 z6 y6 z7 y7 z8 y8 z9 y9;go_upto_region 9 with fail
   go_region_held3 (fun W=>Q0 nob wo W) (first|assumption|exact hr0.drew|exact Kd ‹_›) ((go_at_call 31;refine (Qa1 t name _ _ (HR0.o _ (HMO.o.trans (hr0.drew.ofNob _))).2 HXT.o HSM.o).mono ?_;rintro e w3 ⟨rfl,hk3⟩;have hkt:=hr0.drew.trans hk3;have gz3:=gz.kept hkt id;have HKT:=Hh hkt;dsimp only));have gz:=gz3;have J04:Zq t name<0:=of_decide_eq_true htp;have J05:decide (Zq t name<0)=true:=htp;have z0:=gz.cell 0 _ rfl;have y0:=gz.free 0;have z1:=gz.cell 1 _ rfl;have y1:=gz.free 1;have z2:=gz.cell 2 _ rfl;have y2:=gz.free 2;have z3:=gz.cell 3 _ rfl;have y3:=gz.free 3;have z4:=gz.cell 4 _ rfl;have y4:=gz.free 4;have z5:=gz.cell 5 _ rfl;have y5:=gz.free 5;have z6:=gz.cell 6 _ rfl;have y6:=gz.free 6;have z7:=gz.cell 7 _ rfl;have y7:=gz.free 7;have z8:=gz.cell 8 _ rfl;have y8:=gz.free 8;have z9:=gz.cell 9 _ rfl;have y9:=gz.free 9;obtain⟨e0,e1,e2,e3,e4,e5,e6,e7,e8,e9⟩:=Qa5 gz;go_wp2_with fail;refine bodyPost_ret (v:=.tuple #[.agg #[.slice none 0 0,.slice none 0 0,.slice none 0 0,.slice none 0 0,.slice none 0 0,.slice none 0 0,.slice none 0 0,.slice none 0 0,.bool false,.bool false],.bool false]) (by simp[results,results22,go_sem,e0,e1,e2,e3,e4,e5,e6,e7,e8,e9]) rfl ?_;rw[HOK.o.1,HOK.o.2];exact⟨fun _=>none,fun _=>0,fun _=>0,rfl,fun k _=>Qc.nil _ _ _,((Qr3.o.then_ HKO.o (fun b h=>.inr (by have h9:w1.heap.size≤b:=h;omega))).trans HKT.o).then_ Xz (fun b h=>.inr (by rw[h];omega))⟩
 |false =>
 have Quk:0≤Zq t name:=by simpa using htp
 have htn:0≤Q3 t t.tops name:=by rw[← hte];exact Quk
 have HOK:Hi (Q5v r t name=true∧Q21 r t name=Qg9 r t name):=Hh (by
  have h:Q5v r t name=true:=by unfold Q5v;simp[hc0,Quk]
  exact⟨h,by unfold Q21;rw[Ps h]⟩)
 have Qnw:=Hh (fun j=>Q7r p2 HCO htk htn j);have HNI:=Hh (fun j=>Q3b p2 HCO htk htn j);have HTK:=Hh htk;have HP6:=Hh p6;have Qpw:=Hh (Qhc (r:=r) p2 p3 HSM.o t.nodes.length);have HLN:Hi (∀s,(Zh r t name s).length≤32004000):=Hh fun s=>Qcu p6 p3 htk s (fun x hx=>(Q7r p2 HCO htk htn s x hx).1) (Q3b p2 HCO htk htn s).few
 have HFD:Hi (∀s x,(Jq (Q08 t) name s)[s]?=some x→0≤Zq t x∧InT t (Zq t x)∧Zq t x∈t.tops∧Jq (Q08 t) name (s+1)=grow (Jq (Q08 t) name s) (Z0 t t.nodes.length (Zq t x))∧Zh r t name (s+1)=Zh r t name s++Y4 r t t.nodes.length (Zq t x)∧∀y∈Z0 t t.nodes.length (Zq t x),Q6f t y):=Hh fun s x hx=>by
  have h:=Qnw.o s x (Mg hx);have hm:=(Zc h.1).1;rw[hte];exact⟨h.1,htk _ hm,hm,Q7i (Q08 t) name hx,Qc1 hx,Qez p2 _ _ (htk _ hm)⟩
 have HI0:Hi (Qa7 t w1 (.slice (some ⟨w1.heap.size+1,0,none⟩) 1 1) W2 (Jq (Q08 t) name 0) (slv (fun _=>none) (fun _=>0) (fun _=>0)) (Zh r t name 0) (.slice none 0 0) []):=Hh (by
  rw[hW2]
  refine⟨?_,⟨?_,fun e=>by have:=e.1;omega,fun k _=>Qc.nil _ _ _,Qc.nil _ _ _,fun k _ b h=>by simp[Value.ownBlock] at h⟩,by rw[← hW2];exact hk2,Q3b p2 HCO htk htn 0⟩
  ·exact Qc.lit (Q6 (w1.heap.size+1)) 9 (w1.alloc (.cells #[.slice none 0 0,.slice none 0 0,.slice none 0 0,.slice none 0 0,.slice none 0 0,.slice none 0 0,.slice none 0 0,.slice none 0 0,.bool false,.bool false] 55 (0,0))) [.string name] (by simp[Q6]) Sm Sm rfl rfl
  ·exact (Blk.new_of _ [.slice none 0 0,.slice none 0 0,.slice none 0 0,.slice none 0 0,.slice none 0 0,.slice none 0 0,.slice none 0 0,.slice none 0 0,.bool false,.bool false] _ rfl).alloc _)
 rw[hW2] at HI0;clear Quk htn htk p1 p2 p4 p6 hte hc0 HCO htb hk2 hW2 W2 g0 g1 g2 g3 g4 gz;clear z0 y0 z1 y1 z2 y2 z3 y3 z4 y4 z5 y5 z6 y6 z7 y7 z8 y8 z9 y9;go_wp2_with fail;go_loopw [11,12,13,14,15] (fun tv k _ _ _ wr=>∃(s:Nat) (vs:Nat→Value),s≤(Jq (Q08 t) name s).length∧k=.int .i64 s∧Hi (Qa7 t w1 tv wr (Jq (Q08 t) name s) vs (Zh r t name s) (.slice none 0 0) [])) (fun _ k _ _ _ _=>4001-(intOf k).toNat)
 case atStart=>exact⟨0,_,Nat.zero_le _,rfl,HI0⟩
 case round =>
  obtain⟨s,vs,hs,rfl,HV⟩:=hrel;obtain⟨wo,rfl⟩:∃wo:World,wo=wr:=⟨_,rfl⟩;have Qp7:=(HNI.o s).few;have HKO:=Hh HV.o.k;have HMO:=Hh (HM.o wo HV.o.k);obtain⟨lA,lb,lo,lc,hlv,_,_,hlA,Qoq⟩:=HV.o.f.strs Om;subst hlv
  by_cases hlt:s<(Jq (Q08 t) name s).length
  ·obtain⟨x,hx⟩:=Q4 hlt
   have x0:=Qoq s x hx;obtain rfl:=hlA Om;obtain⟨h0,hin,Qp1,Qsw,Qqp,Qwt⟩:=HFD.o s x hx;have HLX:=HLN.o (s+1);have tpx:decide (Zq t x<0)=false:=Df Om;have hjn:(s:Int)<((Jq (Q08 t) name s).length:Int):=Om
   obtain⟨J06,Qyu⟩:=Qgn (r:=r) HP6.o p3 Qp1 hin
   have hsl:(Jq (Q08 t) name s).length≤(Jq (Q08 t) name (s+1)).length:=by
    obtain⟨m,hm⟩:=Q3v (Q08 t) name s;rw[hm,List.length_append];omega
   have HNX:=Hh Qsw;have HAX:=Hh Qqp;have Qyv:=Hh Qwt;have HIN:=Hh hin;generalize hLL:Jq (Q08 t) name s=L at *;generalize hAA:Zh r t name s=A at *
   have hAl:A.length+(Y4 r t t.nodes.length (Zq t x)).length≤32004000:=by
    have:=congrArg List.length HAX.o;rw[List.length_append] at this;omega
   have hs0:∀W,Q0 nob wo W→W.cell? ⟨w.heap.size+1,0,none⟩=some (.slice A3 t.nodes.length c3):=fun W hW=>(HS.o W (HMO.o.trans (hW.ofNob _))).2.1.1
   have hs1:∀W,Q0 nob wo W→W.cell? ⟨w.heap.size+1,1,none⟩=some (.slice A4 t.tops.length c4):=fun W hW=>(HS.o W (HMO.o.trans (hW.ofNob _))).2.1.2
   have hs2:∀W,Q0 nob wo W→W.cell? ⟨lb,lo+s,none⟩=some (.string x):=fun W hW=>hW.cell id x0
   have hr0:Q0 nob wo wo:=Kr _ _;clear hx Qoq hlA h0 Qp1 Qsw Qqp Qwt hin x0;go_upto_region 9 with fail
   go_region_held3 (fun W=>Q0 nob wo W) (first|assumption|exact hr0.drew|exact Kd ‹_›) ((go_at_call 31;refine (Qa1 t x _ _ (HR0.o _ (HMO.o.trans (hr0.drew.ofNob _))).2 HXT.o HSM.o).mono ?_;rintro e w3 ⟨rfl,hk3⟩;have hkt:=hr0.drew.trans hk3;have HV3:=Hh (HV.o.nobk hkt);have HM3:=Hh (HMO.o.trans (hkt.ofNob S));dsimp only));clear hs0 hs1 hs2 hr0 hkt;obtain⟨P,N,C,hNI⟩:=HV3.o.e.sl;have Qsx:=Hh hNI;obtain⟨x0,x1,x2,x3,x4,x5,x6,x7,x8,x9⟩:=Q5m hNI.blk;obtain⟨⟨g0,g1,g2⟩,⟨g3,g4⟩,_⟩:=HS.o w3 HM3.o;clear hNI;go_upto_region 13 with fail
   have Qnh:Hi (Calls prog 65 #[.agg #[.slice A0 r.comps.length c0,.slice A1 r.ress.length c1,.slice A2 r.evts.length c2],.agg #[.slice A3 t.nodes.length c3,.slice A4 t.tops.length c4],.int .i64 (Zq t x),.agg #[.slice (P 0) (N 0) (C 0),.slice (P 1) (N 1) (C 1),.slice (P 2) (N 2) (C 2),.slice (P 3) (N 3) (C 3),.slice (P 4) (N 4) (C 4),.slice (P 5) (N 5) (C 5),.slice (P 6) (N 6) (C 6),.slice (P 7) (N 7) (C 7),.bool (Ju 8 A),.bool (Ju 9 A)],.slice (some ⟨w3.heap.size,0,none⟩) 0 0] (w3.alloc (.cells #[] 9 (0,0))) fun e w'=>∃P1 N1 C1 kA kn kc,e=.returned (.tuple #[.agg #[.slice (P1 0) (N1 0) (C1 0),.slice (P1 1) (N1 1) (C1 1),.slice (P1 2) (N1 2) (C1 2),.slice (P1 3) (N1 3) (C1 3),.slice (P1 4) (N1 4) (C1 4),.slice (P1 5) (N1 5) (C1 5),.slice (P1 6) (N1 6) (C1 6),.slice (P1 7) (N1 7) (C1 7),.bool (Ju 8 (Zh r t name (s+1))),.bool (Ju 9 (Zh r t name (s+1)))],.slice kA kn kc]) ∧
     (∀k,k<8→Qc (fun b=>w1.heap.size+1≤b∧¬ own (.slice (some ⟨lb,lo,none⟩) L.length lc) b) 3 w' (slv P1 N1 C1 k) (Q5 (Zf (Zb k (Zh r t name (s+1))))))∧Qc (fun b=>w1.heap.size+1≤b∧¬ own (.slice (some ⟨lb,lo,none⟩) L.length lc) b) 9 w' (.slice kA kn kc) (strs (Z0 t t.nodes.length (Zq t x)))∧(∀k,k<8→sep (Value.slice kA kn kc).ownBlock (slv P1 N1 C1 k).ownBlock)∧Q0 (fun b=>b=w3.heap.size) (w3.alloc (.cells #[] 9 (0,0))) w'):=Hh (by
    have hka:Q0 nob w3 (w3.alloc (.cells #[] 9 (0,0))):=(Kr _ _).alloc _;have hMa:=HM3.o.trans (hka.ofNob S);have hz3:=HV3.o.k.size;have hz4:=Qsx.o.blk.lt;have Qor:∀b,(w1.heap.size+1≤b∧¬ own (.slice (some ⟨lb,lo,none⟩) L.length lc) b)→S b:=fun b h=>(HSD.o b).2 (by have:=h.1;omega)
    have Qsm:Qc (fun b=>w1.heap.size+1≤b∧¬ own (.slice (some ⟨lb,lo,none⟩) L.length lc) b) 9 (w3.alloc (.cells #[] 9 (0,0))) (.slice (some ⟨w3.heap.size,0,none⟩) 0 0) (strs []):=by
     have:=Qc.lit (fun b=>w1.heap.size+1≤b∧¬ own (.slice (some ⟨lb,lo,none⟩) L.length lc) b) 9 w3 [] ⟨Om,fun h=>by have:=HV3.o.f.lt _ h;omega⟩ Sm rfl (n:=0) (c:=0) rfl rfl;simpa[strs] using this
    refine (Qpw.o (fun b=>w1.heap.size+1≤b∧¬ own (.slice (some ⟨lb,lo,none⟩) L.length lc) b) (w3.alloc (.cells #[] 9 (0,0))) _ _ _ P N C A _ [] (Zq t x) (fun W hW=>(HR0.o W (hMa.trans (hW.mono fun b _ h=>Qor b h))).1) ((HTB.o _ hMa).mono fun b _ h=>Qor b h) (fun k hk=>(Qsx.o.own k hk).nobk hka) Qsm (fun k hk b hb hb2=>?_) (fun b hb=>?_) HIN.o HIN.o.2 Om (by simp only[List.length_nil];omega)).mono ?_
    ·have:=(Qsx.o.own k hk).lt b hb2
     simp[Value.ownBlock] at hb;omega
    ·have h1:w3.heap.size+1≤b:=by simpa using hb
     exact⟨Om,fun h=>by have:=HV3.o.f.lt b h;omega⟩
    ·rintro e w' ⟨P1,N1,C1,kA,kn,kc,rfl,ho,hl,hd,hk,_⟩
     rw[← HAX.o] at ho ⊢;rw[List.nil_append] at hl;exact⟨P1,N1,C1,kA,kn,kc,rfl,ho,hl,hd,hk.mono fun b _ e=>by have e:own (.slice (some ⟨w3.heap.size,0,none⟩) 0 0) b:=e;simp[own,Value.ownBlock] at e;exact e.symm⟩)
   clear x0 x1 x2 x3 x4 x5 x6 x7 x8 x9 g0 g1 g2 g3 g4;have Qwu:Q0 nob w3 (w3.alloc (.cells #[] 9 (0,0))):=(Kr _ _).alloc _;obtain⟨x0,x1,x2,x3,x4,x5,x6,x7,x8,x9⟩:=Q5m (Qsx.o.blk.kept Qwu id);obtain⟨⟨g0,g1,g2⟩,⟨g3,g4⟩,_⟩:=HS.o _ (HM3.o.trans (Qwu.ofNob S));have HEB:Hi (Blk w3 w1.heap.size (Q14 (slv P N C) (Ju 8 A) (Ju 9 A)) 55):=Hh Qsx.o.blk;go_upto_region 14 with (go_at_call 65;refine Qnh.o.mono ?_;rintro e w4 ⟨P1,N1,C1,kA,kn,kc,rfl,ho4,hl4,hd4,hk4⟩;have hb4:=(HEB.o.alloc (.cells #[] 9 (0,0))).kept hk4 (fun e=>by have:=HEB.o.lt;omega);have z0:=hb4.cell 0 _ rfl;have y0:=hb4.free 0;have z1:=hb4.cell 1 _ rfl;have y1:=hb4.free 1;have z2:=hb4.cell 2 _ rfl;have y2:=hb4.free 2;have z3:=hb4.cell 3 _ rfl;have y3:=hb4.free 3;have z4:=hb4.cell 4 _ rfl;have y4:=hb4.free 4;have z5:=hb4.cell 5 _ rfl;have y5:=hb4.free 5;have z6:=hb4.cell 6 _ rfl;have y6:=hb4.free 6;have z7:=hb4.cell 7 _ rfl;have y7:=hb4.free 7;have z8:=hb4.cell 8 _ rfl;have y8:=hb4.free 8;have z9:=hb4.cell 9 _ rfl;have y9:=hb4.free 9;have HO4:=Hh ho4;have HL4:=Hh hl4;have HD4:=Hh hd4;have HK4:=Hh hk4;have HB4:=Hh hb4;clear ho4 hl4 hd4 hk4 hb4)
   obtain⟨W5,hW5⟩:∃W5,W5=(((((((((w4.setCell ⟨w1.heap.size,0,none⟩ (.slice (P1 0) (N1 0) (C1 0))).setCell ⟨w1.heap.size,1,none⟩ (.slice (P1 1) (N1 1) (C1 1))).setCell ⟨w1.heap.size,2,none⟩ (.slice (P1 2) (N1 2) (C1 2))).setCell ⟨w1.heap.size,3,none⟩ (.slice (P1 3) (N1 3) (C1 3))).setCell ⟨w1.heap.size,4,none⟩ (.slice (P1 4) (N1 4) (C1 4))).setCell ⟨w1.heap.size,5,none⟩ (.slice (P1 5) (N1 5) (C1 5))).setCell ⟨w1.heap.size,6,none⟩ (.slice (P1 6) (N1 6) (C1 6))).setCell ⟨w1.heap.size,7,none⟩ (.slice (P1 7) (N1 7) (C1 7))).setCell ⟨w1.heap.size,8,none⟩ (.bool (Ju 8 (Zh r t name (s+1))))).setCell ⟨w1.heap.size,9,none⟩ (.bool (Ju 9 (Zh r t name (s+1)))):=⟨_,rfl⟩;have hk5:Q0 (fun b=>b=w1.heap.size) w4 W5:=by rw[hW5];exact Xz
   have hb5:Blk W5 w1.heap.size (Q14 (slv P1 N1 C1) (Ju 8 (Zh r t name (s+1))) (Ju 9 (Zh r t name (s+1)))) 55:=by rw[hW5];exact Qkp HB4.o
   have HI5:Hi (Qa7 t w1 (.slice (some ⟨lb,lo,none⟩) L.length lc) W5 L (slv P1 N1 C1) (Zh r t name (s+1)) (.slice kA kn kc) (Z0 t t.nodes.length (Zq t x))):=Hh (by
    have h3:=HV3.o.f.lt;have hf4:=(HV3.o.f.alloc (.cells #[] 9 (0,0))).kept HK4.o (fun b hb e=>by have:=h3 b hb;omega);have hz:=HEB.o.lt;have hne:∀b,(w1.heap.size+1≤b∧¬ own (.slice (some ⟨lb,lo,none⟩) L.length lc) b)→¬ b=w1.heap.size:=fun b h e=>by have:=h.1;omega
    refine⟨hf4.kept hk5 (fun b hb e=>by have h9:w1.heap.size+1≤b:=hf4.2 b hb;omega),⟨hb5,fun e=>by have:=e.1;omega,fun k hk=>(HO4.o k hk).kept hk5 (fun b hb=>hne b ((HO4.o k hk).2 b hb)),HL4.o.kept hk5 (fun b hb=>hne b (HL4.o.2 b hb)),HD4.o⟩,?_,HV3.o.ti⟩
    have h1:Q0 (Q6 w1.heap.size) w1 w4:=(HV3.o.k.alloc _).trans (HK4.o.mono fun b _ e=>by rw[e];show w1.heap.size≤_;omega);exact h1.trans (hk5.mono fun b _ e=>by rw[e];exact Nat.le_refl _))
   rw[hW5] at HI5;clear hk5 hb5 hW5 W5;have hcl:(Z0 t t.nodes.length (Zq t x)).length≤4001:=Qyu;generalize Z0 t t.nodes.length (Zq t x)=cl at *;obtain rfl:kn=cl.length:=by have:=HL4.o.isLen;rwa [Qr] at this
   clear x0 x1 x2 x3 x4 x5 x6 x7 x8 x9 g0 g1 g2 g3 g4;clear z0 y0 z1 y1 z2 y2 z3 y3 z4 y4 z5 y5 z6 y6 z7 y7 z8 y8 z9 y9;go_wp2_with fail;go_loopw [11,15] (fun tv k wr=>∃(j:Nat) (l:List ByteArray),j≤cl.length∧k=.int .i64 j∧Hi (Qa7 t w1 tv wr l (slv P1 N1 C1) (Zh r t name (s+1)) (.slice kA cl.length kc) cl∧s+1≤l.length∧Jq (Q08 t) name (s+1)=grow l (cl.drop j))) (fun _ k _=>cl.length-(intOf k).toNat)
   case atStart=>exact⟨0,L,Nat.zero_le _,rfl,Hh ⟨HI5.o,Om,HNX.o⟩⟩
   case round =>
    obtain⟨j,l,hj,rfl,HU⟩:=hrel;obtain⟨wi,rfl⟩:∃wi:World,wi=wr:=⟨_,rfl⟩;have hll:=HU.o.1.ti.few;have Qro:=HU.o.2.1;obtain⟨mA,mb,mo,mc,hmv,_,_,hmA,_⟩:=HU.o.1.f.strs Om;subst hmv;obtain⟨qA,qb,qo,qc,hqv,_,_,hqA,Qpr⟩:=HU.o.1.e.l.strs Om;injection hqv with hq1 hq2 hq3
    subst hq1;subst hq3;have HU1:=Hh HU.o.1
    by_cases Qyw:j<cl.length
    ·obtain⟨y,hy⟩:=Q4 Qyw
     have u0:=Qpr j y hy;obtain rfl:=hqA Om;have Qpe:(j:Int)<(cl.length:Int):=Om
     have HYT:=Hh (Qyv.o y (Mg hy));have HGR:Hi (Jq (Q08 t) name (s+1)=grow (grow l [y]) (cl.drop (j+1))):=Hh (by rw[HU.o.2.2,Qh hy,← Q8x];rfl);clear hy Qpr HU hqA;cases hb:Zr y l with
     |true =>
      rw[Qgr ((Xu _ _).1 hb)] at HGR;go_wp2_with (go_at_call 33;refine (Jy _ _ l y (HU1.o.f.strs Om)).mono ?_;rw[hb];rintro e w5 ⟨rfl,rfl⟩);go_roundw
      case rel=>exact⟨j+1,l,Om,Gm,Hh ⟨HU1.o,Qro,HGR.o⟩⟩
      case measure=>exact Me
     |false =>
      have Qsv:Hi (y∉l):=Hh (fun hm=>by rw[(Xu _ _).2 hm] at hb;cases hb);rw[Qdt Qsv.o] at HGR;go_wp2_with (first|(go_at_call 33;refine (Jy _ _ l y (HU1.o.f.strs Om)).mono ?_;rw[hb];rintro e w5 ⟨rfl,rfl⟩)|(at_builtin;refine Qt (Q6 (w1.heap.size+1)) rfl _ _ 66 9 (.string ByteArray.empty) 16 rfl underlying66 Kf rfl (.slice mA l.length mc) (strs l) (.string y) rfl rfl Sm rfl HU1.o.f (fun q hq=>by have h1:=HU1.o.e.blk.lt;show w1.heap.size+1≤q;omega) (by rw[Qr];omega) (by rw[Qr];omega) ?_;intro nv5 w6 ho5 hk5 Qnp;have HE6:=Hh (HU1.o.more HYT.o Qsv.o ho5 hk5 Qnp);clear ho5 hk5 Qnp));go_roundw
      case rel=>exact⟨j+1,l++[y],Om,Gm,Hh ⟨HE6.o,by rw[List.length_append];omega,HGR.o⟩⟩
      case measure=>exact Me
    ·have Qpe:¬ (j:Int)<(cl.length:Int):=Om
     have HNE:Hi (Jq (Q08 t) name (s+1)=l):=Hh (by rw[HU.o.2.2,Dn Om];rfl);clear HU Qpr hqA;go_wp2_with fail;go_roundw
     case rel=>exact⟨s+1,_,by rw[HNE.o];exact Qro,Gm,Hh (by rw[HNE.o];exact⟨HU1.o.f,⟨HU1.o.e.blk,HU1.o.e.nS,HU1.o.e.own,Qc.nil _ _ _,fun k _ b h=>by simp[Value.ownBlock] at h⟩,HU1.o.k,HU1.o.ti⟩)⟩
     case measure=>exact Me
  ·have hse:s=(Jq (Q08 t) name s).length:=Om
   have hjn:¬ (s:Int)<((Jq (Q08 t) name s).length:Int):=Om
   have HFE:Hi (Qg9 r t name=Zh r t name s):=Hh (Qdc Om Om);obtain⟨P,N,C,hO⟩:=HV.o.e.sl;have HO:=Hh hO;obtain⟨x0,x1,x2,x3,x4,x5,x6,x7,x8,x9⟩:=Q5m hO.blk;obtain⟨_,_,gz⟩:=HS.o wo HMO.o;have z0:=gz.cell 0 _ rfl;have y0:=gz.free 0;have z1:=gz.cell 1 _ rfl;have y1:=gz.free 1;have z2:=gz.cell 2 _ rfl;have y2:=gz.free 2;have z3:=gz.cell 3 _ rfl;have y3:=gz.free 3;have z4:=gz.cell 4 _ rfl;have y4:=gz.free 4;have z5:=gz.cell 5 _ rfl;have y5:=gz.free 5;have z6:=gz.cell 6 _ rfl;have y6:=gz.free 6;have z7:=gz.cell 7 _ rfl;have y7:=gz.free 7;have z8:=gz.cell 8 _ rfl;have y8:=gz.free 8;have z9:=gz.cell 9 _ rfl;have y9:=gz.free 9;obtain⟨e0,e1,e2,e3,e4,e5,e6,e7,e8,e9⟩:=Qa5 gz;clear hse hlA Qoq hO;go_wp2_with fail;refine bodyPost_ret (v:=.tuple #[.agg #[.slice (P 0) (N 0) (C 0),.slice (P 1) (N 1) (C 1),.slice (P 2) (N 2) (C 2),.slice (P 3) (N 3) (C 3),.slice (P 4) (N 4) (C 4),.slice (P 5) (N 5) (C 5),.slice (P 6) (N 6) (C 6),.slice (P 7) (N 7) (C 7),.bool (Ju 8 (Zh r t name s)),.bool (Ju 9 (Zh r t name s))],.bool true]) (by simp[results,results22,go_sem,e0,e1,e2,e3,e4,e5,e6,e7,e8,e9]) rfl ?_;rw[HOK.o.1,HOK.o.2,HFE.o];exact⟨P,N,C,rfl,fun q hq=>((HO.o.own q hq).kept Xz (fun b hb e=>by have:=((HO.o.own q hq).2 b hb).1;omega)).mono (fun b h=>by have:=h.1;show w.heap.size≤b;omega),(Qr3.o.then_ HKO.o (fun b h=>.inr (by have h9:w1.heap.size≤b:=h;omega))).then_ Xz (fun b h=>.inr Om)⟩
end Go.Proofs.YtkgkafjachjafaaGreat
