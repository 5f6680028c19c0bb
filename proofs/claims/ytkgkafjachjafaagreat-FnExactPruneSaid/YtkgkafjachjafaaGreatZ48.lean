/- Part 48 of x_holds; no condition. -/
import Derived.Test.YtkgkafjachjafaaGreatZ46
import Derived.Test.YtkgkafjachjafaaGreatZ47
set_option linter.unusedVariables false
set_option maxHeartbeats 4000000
set_option maxRecDepth 100000
open Go Go.RowKit
namespace Go.Proofs.YtkgkafjachjafaaGreat
open Tryz
def Q5r (n:Qc) (Qv:Int):Qc:=⟨n.kind,n.text,n.i,n.kids.map fun x=>x-Qv⟩
def Zq (t:Q1) (Qv:Int):Nat→Int→List Qc→List Qc
 |0,_,out=>out
 |n+1,i,out=>Zq t Qv n (i+1) (out++[Q5r (t.at i) Qv])
def Yx (t:Q1) (k:Int) (out:List Qc):List Qc:=Zq t (Xl t k-out.length) (k+1-Xl t k).toNat (Xl t k) out
def Q13 (t:Q1) (top:Int):List Int:=Lib.compact (Zr (Zr (Y6 t top)++[top]))
def okI (r:Reg) (t:Q1) (name:ByteArray):Bool:=decide ((Zf r t).1=0)&&decide (0≤Q2 t t.tops name)
def Q0x (r:Reg) (t:Q1) (name:ByteArray):Q1×Bool :=
 if okI r t name=true then (⟨(Jg (Yx t) (Q13 t (Q2 t t.tops name)) [] []).1,(Jg (Yx t) (Q13 t (Q2 t t.tops name)) [] []).2⟩,true) else (⟨[],[]⟩,false)
structure Q07 (S:Nat→Prop) (w:World) (nv tv:Value) (l:List (Qc×Value)) (tops:List Int):Prop where
 o:Jc (fun q=>S q∧¬ own tv q) w nv l
 k:Qf S 3 w tv (Q4 tops)
theorem Qjx {t:Q1} (hC:Q0d t) (ht:∀i∈t.tops,InT t i) {top:Int} (hk:top∈t.tops):∀x∈Q13 t top,x∈t.tops:=by
 intro x hx;have h:=(Q5w (Q76 (Zr (Y6 t top)++[top]))).2 x;rw[Q48] at h;have hx:=h.1 hx;simp only[List.mem_append,List.mem_singleton] at hx;rcases hx with hx|rfl
 ·exact (Q53 hC ht (ht _ hk) 4000).2 x ((Q48 _ _).1 hx)
 ·exact hk
theorem Qgk {t:Q1} (hC:Q0d t) (ht:∀i∈t.tops,InT t i) {top:Int} (hk:top∈t.tops) (hl:t.tops.length≤4000):(Zr (Y6 t top)++[top]).length≤4001∧(Q13 t top).length≤4001:=by
 have h1:=(Q53 hC ht (ht _ hk) 4000).few;have h2:(Zr (Y6 t top)).length=(Y6 t top).length:=List.length_mergeSort _;have h3:(Zr (Zr (Y6 t top)++[top])).length=(Zr (Y6 t top)++[top]).length:=List.length_mergeSort _;have h4:=Q7u (Zr (Zr (Y6 t top)++[top]));have h5:(Y6 t top).length≤t.tops.length:=h1;rw[List.length_append] at h3 ⊢;simp at h3 ⊢;exact⟨by omega,by unfold Q13;omega⟩
structure Q7d (wz:World) (ob:Nat) (wr:World) (l':List (Qc×Value)) (ks:List Int) (nvv tvv:Value):Prop where
 b:Blk wr ob [nvv,tvv] 33
 o:Jc (fun q=>wz.heap.size≤q∧¬ own tvv q) wr nvv l'
 k:Qf (Q7 wz.heap.size) 3 wr tvv (Q4 ks)
 kq:Q0 (fun q=>q=ob∨wz.heap.size≤q) wz wr
 f:Q1l (l'.map Prod.fst)
theorem Q7d.nobk {wz:World} {ob:Nat} {wr w':World} {l':List (Qc×Value)} {ks:List Int} {nvv tvv:Value} (h:Q7d wz ob wr l' ks nvv tvv) (k:Q0 nob wr w'):Q7d wz ob w' l' ks nvv tvv :=
 ⟨h.b.kept k id,h.o.nobk k,h.k.nobk k,h.kq.trans (k.ofNob _),h.f⟩
theorem Q7d.snoc {wz:World} {ob:Nat} {wi wp w3 w4 w5:World} {l2:List (Qc×Value)} {ks:List Int} {nv tv kv:Value} {n:Qc} (h:Q7d wz ob wi l2 ks nv tv) (hob:ob<wz.heap.size) (hp:Q0 nob wi wp)
  (k3:Q0 (fun q=>wi.heap.size≤q) wi w3) (hk:Qf (Q7 wp.heap.size) 3 w3 kv (Q4 n.kids)) (h4:Q0 (fun q=>wi.heap.size≤q) w3 w4) (hkv:Qf (Q7 wp.heap.size) 3 w4 kv (Q4 n.kids)) (hfk:n.kids.length≤1048576)
  {S:Nat→Prop} {v1:Value} (hr:X5 S 70 4 w5 v1 (l2.length+1) (Xo l2++Ys n kv)) (k5:Q0 (own nv) w4 w5) (g5:Q2j w4 nv v1) :
  Q7d wz ob (w5.setCell ⟨ob,0,none⟩ v1) (l2++[(n,kv)]) ks v1 tv:=by
 have hz:=h.kq.size;have hwp:=hp.size;have h34:Q0 (fun q=>wi.heap.size≤q) wi w4:=k3.trans h4;have hlt:=h34.size;have hnv:∀q,own nv q→wz.heap.size≤q∧q<wi.heap.size:=fun q e=>⟨(h.o.row.2 q e).1,h.o.lt q e⟩
 have htv:∀q,own tv q→wz.heap.size≤q∧q<wi.heap.size:=fun q e=>⟨h.k.2 q e,h.k.lt q e⟩
 have hb5:Blk w5 ob [nv,tv] 33:=(h.b.kept h34 (fun e=>by have e:wi.heap.size≤ob:=e;omega)).kept k5 (fun e=>by have:=(hnv ob e).1;omega);have ho4:Jc (fun q=>(wz.heap.size≤q∧¬ own tv q)∧q<wi.heap.size) w4 nv l2:=(h.o.mono fun q hq hS=>⟨hS,hq⟩).kept h34 (fun q hS e=>by have e:wi.heap.size≤q:=e;omega);have hkb:∀q,own kv q→wp.heap.size≤q:=fun q e=>hkv.2 q e
 have hr':X5 (fun q=>wz.heap.size≤q∧¬ own tv q) 70 4 w5 v1 (l2.length+1) (Xo l2++Ys n kv):=⟨hr.1,fun q e=>by
  rcases g5 with g|⟨b,g,hb⟩
  ·exact h.o.row.2 q (g.symm.trans e)
  ·rw[g] at e;cases e
   exact⟨by omega,fun e2=>by have:=(htv _ e2).2;omega⟩⟩
 have ho5:Jc (fun q=>wz.heap.size≤q∧¬ own tv q) w5 v1 (l2++[(n,kv)]) :=
  Jc.snoc (ho4.mono fun q _ hS=>hS.1) (n:=n) (kv:=kv) (hkv.mono fun q hq=>⟨by have:wp.heap.size≤q:=hq;omega,fun e=>by have:=(htv q e).2;have:wp.heap.size≤q:=hq;omega⟩)
   (fun q e1 e2=>by have:=(hnv q e1).2;have:=hkb q e2;omega) (fun p hp q e1 e2=>by have:=((ho4.kid p hp).2 q e1).2;have:=hkb q e2;omega) hr' k5 g5
 refine⟨hb5.set 0 v1,ho5.kept ((Kr (fun q=>q=ob) w5).setCell (p:=⟨ob,0,none⟩) (.inl rfl) _) (fun q hS e=>by have e:q=ob:=e;omega),?_,?_,?_⟩
 ·exact (((h.k.kept h34 (fun q hq e=>by have:=(htv q hq).2;have e:wi.heap.size≤q:=e;omega))).kept k5 (fun q hq e=>(h.o.row.2 q e).2 hq)).other (fun e=>by have:=(htv ob e).1;omega) _
 ·exact ((h.kq.trans (h34.mono fun q _ e=>by have e:wi.heap.size≤q:=e;exact .inr (by omega))).trans (k5.mono fun q _ e=>.inr (hnv q e).1)).setCell (p:=⟨ob,0,none⟩) (.inl (.inl rfl)) _
 ·intro m hm
  rw[List.map_append] at hm;rcases List.mem_append.1 hm with hm|hm
  ·exact h.f m hm
  ·simp at hm;subst hm;exact hfk
theorem Q7d.tops {wz:World} {ob:Nat} {wr w7:World} {l':List (Qc×Value)} {ks:List Int} {nv tv tv7:Value} {x:Int} (h:Q7d wz ob wr l' ks nv tv) (hob:ob<wz.heap.size)
  (h7:Qf (Q7 wz.heap.size) 3 w7 tv7 (Q4 ks++[.int .i64 x])) (k7:Q0 (own tv) wr w7) (g7:Q2j wr tv tv7):Q7d wz ob (w7.setCell ⟨ob,1,none⟩ tv7) l' (ks++[x]) nv tv7:=by
 have hz:=h.kq.size;have htv:∀q,own tv q→wz.heap.size≤q∧q<wr.heap.size:=fun q e=>⟨h.k.2 q e,h.k.lt q e⟩
 have hb7:Blk w7 ob [nv,tv] 33:=h.b.kept k7 (fun e=>by have:=(htv ob e).1;omega)
 have h7':∀q,own tv7 q→own tv q∨wr.heap.size≤q:=fun q e=>by
  rcases g7 with g|⟨b,g,hb⟩
  ·exact .inl (g.symm.trans e)
  ·have e:tv7.ownBlock=some q:=e
   rw[g] at e;cases e;exact .inr hb
 rw[Xe] at h7
 refine⟨hb7.set 1 tv7,?_,h7.other (fun e=>by have:wz.heap.size≤ob:=h7.2 ob e;omega) _,(h.kq.trans (k7.mono fun q _ e=>.inr (htv q e).1)).setCell (p:=⟨ob,1,none⟩) (.inl (.inl rfl)) _,h.f⟩
 have h8:Jc (fun q=>(wz.heap.size≤q∧¬ own tv q)∧q<wr.heap.size) w7 nv l':=(h.o.mono fun q hq hS=>⟨hS,hq⟩).kept k7 (fun q hS e=>hS.1.2 e);exact (h8.kept ((Kr (fun q=>q=ob) w7).setCell (p:=⟨ob,1,none⟩) (.inl rfl) _) (fun q hS e=>by have e:q=ob:=e;omega)).mono fun q _ hS=>⟨hS.1.1,fun e=>(h7' q e).elim hS.1.2 (fun h9=>by omega)⟩
structure QInv (t:Q1) (X:List Qc×List Int) (L:List Int) (wz:World) (ob:Nat) (wr:World) (j:Nat) (l':List (Qc×Value)) (ks:List Int) (nvv tvv:Value):Prop where
 m:Q7d wz ob wr l' ks nvv tvv
 x:X=Jg (Yx t) (L.drop j) (l'.map Prod.fst) ks
 bd:l'.length≤4000*j
 kl:ks.length≤j
theorem Qj8 (r:Reg) (t:Q1) (name:ByteArray) (rv tv:Value) (w:World) (hr:Q1d w rv r) (ht:Z3 w tv t) (hN:Q1k r) (hX:Q04 t) (hSm:Jz t) (hC:(Zf r t).1=0→Yi t=true∧Q0d t) :
  Calls prog 11 #[rv,tv,.string name] w fun e w'=>∃nv tv' l,e=.returned (.tuple #[.agg #[nv,tv'],.bool (Q0x r t name).2])∧Q07 (Q7 w.heap.size) w' nv tv' l (Q0x r t name).1.tops∧l.map Prod.fst=(Q0x r t name).1.nodes∧Q1l (Q0x r t name).1.nodes∧l.length≤100000000∧(Q0x r t name).1.tops.length≤100000000∧Q0 nob w w':=by
 have hr':=hr;have ht':=ht;obtain⟨v0,v1,v2,rfl,d0,d1,d2⟩:=hr;obtain⟨u0,u1,rfl,e0,e1⟩:=ht;have Qn5:∀(u:Value) (ds:List Zw),Z1 w u ds→∃A c,u=.slice A ds.length c:=fun u ds ⟨A,b,o,c,h,_⟩=>⟨A,c,h⟩
 obtain⟨A0,c0,rfl⟩:=Qn5 _ _ d0;obtain⟨A1,c1,rfl⟩:=Qn5 _ _ d1;obtain⟨A2,c2,rfl⟩:=Qn5 _ _ d2;obtain⟨A3,nb,no,c3,rfl,_,_,hnA,hnc⟩:=e0;obtain⟨A4,tb,tq,c4,rfl,_,_,htA,htc⟩:=e1;have hk0:Q0 nob w (((w.alloc (.cells #[.slice A0 r.comps.length c0,.slice A1 r.ress.length c1,.slice A2 r.evts.length c2] 38)).alloc (.cells #[.slice A3 t.nodes.length c3,.slice A4 t.tops.length c4] 33)).alloc (.cells #[.slice none 0 0,.slice none 0 0] 33)):=(((Kr _ _).alloc _).alloc _).alloc _;have hb1:Blk (((w.alloc (.cells #[.slice A0 r.comps.length c0,.slice A1 r.ress.length c1,.slice A2 r.evts.length c2] 38)).alloc (.cells #[.slice A3 t.nodes.length c3,.slice A4 t.tops.length c4] 33)).alloc (.cells #[.slice none 0 0,.slice none 0 0] 33)) w.heap.size [.slice A0 r.comps.length c0,.slice A1 r.ress.length c1,.slice A2 r.evts.length c2] 38:=((Blk.new_of _ _ _ rfl).alloc _).alloc _;have hb2:Blk (((w.alloc (.cells #[.slice A0 r.comps.length c0,.slice A1 r.ress.length c1,.slice A2 r.evts.length c2] 38)).alloc (.cells #[.slice A3 t.nodes.length c3,.slice A4 t.tops.length c4] 33)).alloc (.cells #[.slice none 0 0,.slice none 0 0] 33)) (w.heap.size+1) [.slice A3 t.nodes.length c3,.slice A4 t.tops.length c4] 33:=(Blk.new_of _ _ _ (by simp)).alloc _;have hb3:Blk (((w.alloc (.cells #[.slice A0 r.comps.length c0,.slice A1 r.ress.length c1,.slice A2 r.evts.length c2] 38)).alloc (.cells #[.slice A3 t.nodes.length c3,.slice A4 t.tops.length c4] 33)).alloc (.cells #[.slice none 0 0,.slice none 0 0] 33)) (w.heap.size+1+1) [.slice none 0 0,.slice none 0 0] 33:=Blk.new_of _ _ _ (by simp);have hst:(((w.alloc (.cells #[.slice A0 r.comps.length c0,.slice A1 r.ress.length c1,.slice A2 r.evts.length c2] 38)).alloc (.cells #[.slice A3 t.nodes.length c3,.slice A4 t.tops.length c4] 33)).alloc (.cells #[.slice none 0 0,.slice none 0 0] 33)).heap.size=w.heap.size+3:=by simp
 generalize hW0:((w.alloc (.cells #[.slice A0 r.comps.length c0,.slice A1 r.ress.length c1,.slice A2 r.evts.length c2] 38)).alloc (.cells #[.slice A3 t.nodes.length c3,.slice A4 t.tops.length c4] 33)).alloc (.cells #[.slice none 0 0,.slice none 0 0] 33)=W0 at hk0 hb1 hb2 hb3 hst;obtain⟨S,hSd⟩:∃S:Nat→Prop,S=Q7 W0.heap.size:=⟨_,rfl⟩;have hS1:∀k,S k↔w.heap.size+3≤k:=fun k=>by rw[hSd,← hst];rfl
 have Qn8:∀W,Q0 S W0 W→Zu w W:=fun W hW=>((hk0.ofNob _).trans hW).oldS fun k hk h=>by have:=(hS1 k).1 h;omega
 have HS:Hi (∀W,Q0 S W0 W→((W.cell? ⟨w.heap.size,0,none⟩=some (.slice A0 r.comps.length c0)∧W.cell? ⟨w.heap.size,1,none⟩=some (.slice A1 r.ress.length c1)∧W.cell? ⟨w.heap.size,2,none⟩=some (.slice A2 r.evts.length c2))∧W.cell? ⟨w.heap.size+1,0,none⟩=some (.slice A3 t.nodes.length c3)∧W.cell? ⟨w.heap.size+1,1,none⟩=some (.slice A4 t.tops.length c4))∧Blk W (w.heap.size+1+1) [.slice none 0 0,.slice none 0 0] 33):=Hh fun W hW=>by
  have n0:¬ S w.heap.size:=fun h=>by have:=(hS1 _).1 h;omega
  have n1:¬ S (w.heap.size+1):=fun h=>by have:=(hS1 _).1 h;omega
  have n2:¬ S (w.heap.size+1+1):=fun h=>by have:=(hS1 _).1 h;omega
  exact⟨⟨⟨hW.cell n0 (hb1.cell 0 _ rfl),hW.cell n0 (hb1.cell 1 _ rfl),hW.cell n0 (hb1.cell 2 _ rfl)⟩,hW.cell n1 (hb2.cell 0 _ rfl),hW.cell n1 (hb2.cell 1 _ rfl)⟩,hb3.kept hW n2⟩
 have HR0:Hi (∀W,Q0 S W0 W→Q1d W (.agg #[.slice A0 r.comps.length c0,.slice A1 r.ress.length c1,.slice A2 r.evts.length c2]) r∧Z3 W (.agg #[.slice A3 t.nodes.length c3,.slice A4 t.tops.length c4]) t):=Hh fun W hW=>⟨hr'.old (Qn8 W hW),ht'.old (Qn8 W hW)⟩
 have HRT:Hi (∀W,Q0 S W0 W→J7 W (w.heap.size+1) 0 t):=Hh fun W hW=>by
  obtain⟨a,b,e,h1,h2⟩:=(HR0.o W hW).2;cases e;exact⟨_,_,(HS.o W hW).1.2.1,(HS.o W hW).1.2.2,h1,h2⟩
 have HNC:Hi (∀j x,t.nodes[j]?=some x→∃kA kb ko kc,(0<x.kids.length→kA=some ⟨kb,ko,none⟩)∧∀W,Q0 S W0 W→W.cell? ⟨nb,no+j*4,none⟩=some (.int .i64 x.kind)∧W.cell? ⟨nb,no+j*4+1,none⟩=some (.string x.text)∧W.cell? ⟨nb,no+j*4+2,none⟩=some (.int .i64 x.i)∧W.cell? ⟨nb,no+j*4+3,none⟩=some (.slice kA x.kids.length kc)∧∀q y,x.kids[q]?=some y→W.cell? ⟨kb,ko+q,none⟩=some (.int .i64 y)):=Hh fun j x hx=>by
  obtain⟨kv,h0,h1,h2,h3,⟨kA,kb,ko,kc,rfl,_,_,hA,hcl⟩⟩:=hnc j x hx;exact⟨kA,kb,ko,kc,hA,fun W hW=>⟨(Qn8 W hW).cell h0,(Qn8 W hW).cell h1,(Qn8 W hW).cell h2,(Qn8 W hW).cell h3,fun q y hy=>(Qn8 W hW).cell (hcl q y hy)⟩⟩
 obtain⟨⟨⟨g0,g1,g2⟩,g3,g4⟩,_⟩:=HS.o W0 (Kr _ _);have HK0:=Hh hk0;have HNM:=Hh hN;have HXT:=Hh hX;have HSM:=Hh hSm;have HSD:=Hh hS1;have HNA:=Hh hnA;clear hb1 hb2 hb3 hk0 d0 d1 d2 hr' ht' Qn5 hN hX hSm hS1 Qn8 htA hnA htc hnc hSd;cases hck:((Zf r t).1 != 0) with
 |true =>
  have HX:Hi (Q0x r t name=(⟨[],[]⟩,false)):=Hh (by unfold Q0x okI;rw[Ng (by simp at hck;simp[hck])]);rw[HX.o];go_enter func11,ntmps11;go_wp2_with (go_at_call 38;refine (Q8g r t _ _ _ (HR0.o _ (Kr _ _)).1 (HR0.o _ (Kr _ _)).2 HNM.o HXT.o HSM.o).mono ?_;rintro e w1 ⟨rfl,hk1⟩;have HK1:=Hh (hk1.ofNob S);clear hk1;obtain⟨⟨⟨g0',g1',g2'⟩,g3',g4'⟩,hb1⟩:=HS.o _ HK1.o;have b10:=hb1.cell 0 _ rfl;have b11:=hb1.cell 1 _ rfl;have f10:=hb1.free 0;have hB1:=hb1.set 0 (.slice none 0 0);have f11:=hB1.free 1;have e10:=hB1.cell 0 _ rfl;have e11:=hB1.cell 1 _ rfl;have hB2:=hB1.set 1 (.slice none 0 0);have e12:=hB2.cell 0 _ rfl;have e13:=hB2.cell 1 _ rfl;clear hb1 hB1 hB2)
  refine bodyPost_ret (v:=.tuple #[.agg #[.slice none 0 0,.slice none 0 0],.bool false]) (by simp[results,results11,go_sem,e10,e13]) rfl ⟨_,_,[],rfl,⟨Jc.nil _ _,Qf.nil _ _ _⟩,rfl,by intro n hn;simp at hn,by simp,by simp,Q0.setCell (Q0.setCell (HK0.o.then_ HK1.o (fun k h=>.inr (by have:=(HSD.o k).1 h;omega))) (p:=⟨w.heap.size+1+1,0,none⟩) (.inr (by show w.heap.size≤w.heap.size+1+1;omega)) _) (p:=⟨w.heap.size+1+1,1,none⟩) (.inr (by show w.heap.size≤w.heap.size+1+1;omega)) _⟩
 |false =>
 have hc0:(Zf r t).1=0:=by simpa using hck
 obtain⟨htb,Qsb⟩:=hC hc0;obtain⟨q1,q2,q3,q4,q5,q6⟩:=Xc htb;have HTK:Hi (∀i∈t.tops,InT t i):=Hh fun i hi=>(q4 i hi).1
 have HC:=Hh Qsb;have HKO:=Hh q2;cases htp:decide (Q2 t t.tops name<0) with
 |true =>
  have HX:Hi (Q0x r t name=(⟨[],[]⟩,false)):=Hh (by unfold Q0x okI;rw[Ng (by simp at htp;simp;omega)]);have HTP:=Hh (rfl:Q2 t t.tops name=Q2 t t.tops name);rw[HX.o];go_enter func11,ntmps11;go_wp2_with (first|(go_at_call 38;refine (Q8g r t _ _ _ (HR0.o _ (Kr _ _)).1 (HR0.o _ (Kr _ _)).2 HNM.o HXT.o HSM.o).mono ?_;rintro e w1 ⟨rfl,hk1⟩;have HK1:=Hh (hk1.ofNob S);clear hk1;obtain⟨⟨⟨g0',g1',g2'⟩,g3',g4'⟩,hb1⟩:=HS.o _ HK1.o;have b10:=hb1.cell 0 _ rfl;have b11:=hb1.cell 1 _ rfl;have f10:=hb1.free 0;have hB1:=hb1.set 0 (.slice none 0 0);have f11:=hB1.free 1;have e10:=hB1.cell 0 _ rfl;have e11:=hB1.cell 1 _ rfl;have hB2:=hB1.set 1 (.slice none 0 0);have e12:=hB2.cell 0 _ rfl;have e13:=hB2.cell 1 _ rfl;clear hb1 hB1 hB2)|(go_at_call 39;refine (Qbc t (w.heap.size+1) 0 name _ (HRT.o _ HK1.o) HTK.o).mono ?_;rintro e w2 ⟨rfl,rfl⟩))
  refine bodyPost_ret (v:=.tuple #[.agg #[.slice none 0 0,.slice none 0 0],.bool false]) (by simp[results,results11,go_sem,e10,e13]) rfl ⟨_,_,[],rfl,⟨Jc.nil _ _,Qf.nil _ _ _⟩,rfl,by intro n hn;simp at hn,by simp,by simp,Q0.setCell (Q0.setCell (HK0.o.then_ HK1.o (fun k h=>.inr (by have:=(HSD.o k).1 h;omega))) (p:=⟨w.heap.size+1+1,0,none⟩) (.inr (by show w.heap.size≤w.heap.size+1+1;omega)) _) (p:=⟨w.heap.size+1+1,1,none⟩) (.inr (by show w.heap.size≤w.heap.size+1+1;omega)) _⟩
 |false =>
 have Qol:0≤Q2 t t.tops name:=by simpa using htp
 obtain⟨top,Qog⟩:∃top,top=Q2 t t.tops name:=⟨_,rfl⟩
 have hX2:Q0x r t name=(⟨(Jg (Yx t) (Q13 t top) [] []).1,(Jg (Yx t) (Q13 t top) [] []).2⟩,true):=by
  unfold Q0x okI;rw[Ps (by simp[hc0,Qol]),Qog]
 rw[hX2];obtain⟨X,hX⟩:∃X,X=Jg (Yx t) (Q13 t top) [] []:=⟨_,rfl⟩;rw[← hX];have HXX:Hi (X=Jg (Yx t) ((Q13 t top).drop 0) [] []):=Hh hX;have HTE:=Hh Qog;have Qnw:top∈t.tops:=by rw[Qog];exact (Zl Qol).1
 have htI:InT t top:=HTK.o _ Qnw;have HTI:=Hh htI;have HLI:=Hh (Qjx Qsb HTK.o Qnw);obtain⟨hl1,hl2⟩:=Qgk Qsb HTK.o Qnw q5;rw[← Qog] at htp;clear hX q1 q2 q4 q6 hX2 hc0 htb Qog Qnw htI Qsb Qol;go_enter func11,ntmps11;go_upto_region 6 with (first|(go_at_call 38;refine (Q8g r t _ _ _ (HR0.o _ (Kr _ _)).1 (HR0.o _ (Kr _ _)).2 HNM.o HXT.o HSM.o).mono ?_;rintro e w1 ⟨rfl,hk1⟩;have HK1:=Hh (hk1.ofNob S);clear hk1;obtain⟨⟨⟨g0',g1',g2'⟩,g3',g4'⟩,hb1⟩:=HS.o _ HK1.o;have b10:=hb1.cell 0 _ rfl;have b11:=hb1.cell 1 _ rfl;have f10:=hb1.free 0;have hB1:=hb1.set 0 (.slice none 0 0);have f11:=hB1.free 1;have e10:=hB1.cell 0 _ rfl;have e11:=hB1.cell 1 _ rfl;have hB2:=hB1.set 1 (.slice none 0 0);have e12:=hB2.cell 0 _ rfl;have e13:=hB2.cell 1 _ rfl;clear hb1 hB1 hB2)|(go_at_call 39;refine (Qbc t (w.heap.size+1) 0 name _ (HRT.o _ (HK1.o.trans (Q0.ofNob (by repeat' first|exact Kr _ _|apply Ka|apply Kd|apply Kn) S))) HTK.o).mono ?_;rw[← HTE.o];rintro e w2 ⟨rfl,rfl⟩))
 have hob:Blk (w1.alloc (.cells #[.slice none 0 0,.slice none 0 0] 33)) w1.heap.size [.slice none 0 0,.slice none 0 0] 33:=Blk.new w1 [.slice none 0 0,.slice none 0 0] _;have HKB:Hi (Q0 S W0 (w1.alloc (.cells #[.slice none 0 0,.slice none 0 0] 33))):=Hh (HK1.o.alloc _);clear g0 g1 g2 g3 g4 g0' g1' g2' g3' g4' b10 b11 f10 f11 e10 e11 e12 e13;have Qzt:W0.heap.size≤w1.heap.size:=HK1.o.size;generalize w1.alloc (.cells #[.slice none 0 0,.slice none 0 0] 33)=wq at *;generalize w1.heap.size=ob at *;have Qzu:=hob.lt;have h00:=HK0.o.size;have h0q:=HKB.o.size;have HFS:Hi (∀q,Q7 wq.heap.size q→S q):=Hh fun q hq=>(HSD.o q).2 (by have:wq.heap.size≤q:=hq;omega)
 have HOB:=Hh hob;have Qy7:Hi (S ob):=Hh ((HSD.o ob).2 (by omega));have hl3:(Zr (Y6 t top)).length≤4000:=by rw[List.length_append] at hl1;simp at hl1;omega
 clear hob;go_upto_region 7 with (first|(go_at_call 41;refine (Qe2 (fun W hW=>HRT.o _ (HKB.o.trans (hW.mono fun q _ h=>HFS.o q h))) HTK.o HC.o HTI.o q3 q5).mono ?_;rintro e w3 ⟨v3,rfl,ho3,hk3⟩;have HO3:=Hh ho3;have HK3:=Hh hk3;clear ho3 hk3)|(at_builtin;refine J1 (Q7 wq.heap.size) rfl _ _ 26 3 (.int .i64 0) 8 rfl underlying26 (by kernel_rfl) rfl v3 (Q4 (Zr (Y6 t top))) (.int .i64 top) rfl rfl (by simp) rfl HO3.o (fun q hq=>by show wq.heap.size≤q;have:=HK3.o.size;omega) (by rw[Q5];omega) (by rw[Q5];omega) ?_;intro v4 w4 ho4 hk4 Qpl;have HO4:Hi (Qf (Q7 wq.heap.size) 3 w4 v4 (Q4 (Zr (Y6 t top)++[top]))):=Hh (by rw[Xe] at ho4;exact ho4);have HK4:Hi (Q0 (Q7 wq.heap.size) wq w4):=Hh ((HK3.o.ofNob _).trans (hk4.mono fun q _ h=>HO3.o.2 q h));clear ho4 hk4 Qpl)|(go_at_call 40;refine (Qb2 HO4.o (by omega)).mono ?_;rintro e w5 ⟨v5,rfl,ho5,hk5⟩;obtain⟨LA,lb,lc,hv5,_,_,hLA,Qw3⟩:=ho5.opened;rw[Q5] at hv5 hLA;subst hv5;have HLA:=Hh hLA;have HLC:=Hh Qw3;have HO5:=Hh ho5;have HK5:=Hh (HK4.o.trans hk5);clear ho5 hk5 Qw3 hLA))
 have hz1:wq.heap.size≤w5.heap.size:=HK5.o.size;have HB5:Hi (Blk w5 ob [.slice none 0 0,.slice none 0 0] 33):=Hh (HOB.o.kept HK5.o (fun e=>by have e:wq.heap.size≤ob:=e;omega))
 have HPS:Hi (∀W,Q0 (fun q=>q=ob∨w5.heap.size≤q) w5 W→Q0 S W0 W):=Hh fun W hW=>(HKB.o.trans (HK5.o.mono fun q _ h=>HFS.o q h)).trans (hW.mono fun q _ h=>by
  rcases h with h|h
  ·have:=Qy7.o;rw[h];exact this
  ·exact HFS.o q (by show wq.heap.size≤q;omega))
 have HLS:Hi (∀j x,(Q13 t top)[j]?=some x→LA=some ⟨lb,0,none⟩∧∀W,Q0 (fun q=>q=ob∨w5.heap.size≤q) w5 W→W.cell? ⟨lb,j,none⟩=some (.int .i64 x)):=Hh fun j x hx=>by
  have hx2:(Q4 (Q13 t top))[j]?=some (.int .i64 x):=by simp[Q4,hx]
  have hj:=(Gs hx).1;obtain⟨h1,h2,h3⟩:=HLA.o (by unfold Q13 at hj;omega)
  exact⟨h1,fun W hW=>hW.cell (fun e=>by
   have e:lb=ob∨w5.heap.size≤lb:=e;have h4:wq.heap.size≤lb:=h2;have:=HO5.o.lt lb h3;omega) (HLC.o j _ hx2).1⟩
 have HI0:Hi (QInv t X (Q13 t top) w5 ob w5 0 [] [] (.slice none 0 0) (.slice none 0 0)):=Hh ⟨⟨HB5.o,Jc.nil _ _,Qf.nil _ _ _,Kr _ _,by intro n hn;simp at hn⟩,HXX.o,by simp,by simp⟩;have hll:(Lib.compact (Zr (Zr (Y6 t top)++[top]))).length=(Q13 t top).length:=rfl;have Qw4:ob<w5.heap.size:=by omega
 rw[hll];generalize Q13 t top=L at *;clear hll hl1 hl3;go_loopw [13,14,15,16,17,18,20,45] (fun _ _ _ _ _ _ _ k wr=>∃(j:Nat) (l':List (Qc×Value)) (ks:List Int) (nvv tvv:Value),j≤L.length∧k=.int .i64 j∧Hi (QInv t X L w5 ob wr j l' ks nvv tvv)) (fun _ _ _ _ _ _ _ k _=>L.length-(intOf k).toNat)
 case atStart=>exact⟨0,[],[],_,_,Nat.zero_le _,rfl,HI0⟩
 case round =>
  obtain⟨j,l',ks,nvv,tvv,hj,rfl,HR⟩:=hrel;obtain⟨wo,rfl⟩:∃wo:World,wo=wr:=⟨_,rfl⟩;have HKQ:=Hh (HPS.o _ HR.o.m.kq);obtain⟨nA,ncap,hnv⟩:=HR.o.m.o.row.len;obtain⟨tA,tcap,htv⟩:=HR.o.m.k.len;rw[Q5] at htv;subst hnv;subst htv;have hbd:=HR.o.bd;have hkl:=HR.o.kl;have x0:=HR.o.m.b.cell 0 _ rfl;have x1:=HR.o.m.b.cell 1 _ rfl
  by_cases hlt:j<L.length
  ·obtain⟨k,hk⟩:=Q3 hlt
   obtain⟨rfl,hlc⟩:=HLS.o j k hk;have z0:=hlc _ HR.o.m.kq;have hjn:(j:Int)<(L.length:Int):=by omega
   have HKI:Hi (InT t k):=Hh (HTK.o k (HLI.o k (Mg hk)));have HXJ:Hi (X=Jg (Yx t) (L.drop (j+1)) (Yx t k (l'.map Prod.fst)) (ks++[((Yx t k (l'.map Prod.fst)).length:Int)-1])):=Hh (by rw[HR.o.x,Qd hk];rfl);have hf0:0≤Xl t k:=Q4e k t.tops 0 (Int.le_refl 0) (fun i hi=>(HTK.o i hi).1);have hk4:=HKI.o.2;have HM:=Hh HR.o.m;have Qy8:=Hh (HRT.o _ HKQ.o);have HOT:Hi (Yx t k (l'.map Prod.fst)=Zq t (Xl t k-l'.length) (k+1-Xl t k).toNat (Xl t k) (l'.map Prod.fst)):=Hh (by unfold Yx;rw[List.length_map])
   have hf1:Xl t k≤4000:=by
    have h9:∀(l:List Int) (a:Int),a≤4000→(∀i∈l,i<4000)→Zz k l a≤4000:=by
     intro l
     induction l with
     |nil=>intro a h _;exact h
     |cons i l ih =>
      intro a h hl;simp only[Zz]
      refine ih _ ?_ (fun x hx=>hl x (by simp[hx]))
      split
      ·have:=hl i (by simp);omega
      ·exact h
    exact h9 t.tops 0 (by omega) (fun i hi=>by have:=(HTK.o i hi).2;omega)
   have hls:l'.length≤17000000:=by omega
   clear hk hlc HR;go_upto_region 9 with fail
   generalize Qtn:Xl t k=fst at *;obtain⟨f0,rfl⟩:=En hf0;have hw1:IntKind.i64.wrap ((f0:Int)-(l'.length:Int))=(f0:Int)-(l'.length:Int):=by rw[IntKind.wrap_i64];omega
   have hw2:wrap64 ((f0:Int)-(l'.length:Int))=(f0:Int)-(l'.length:Int):=by unfold wrap64;omega
   go_wp2_with (go_at_call 42;refine (Qdf t (w.heap.size+1) 0 k _ Qy8.o HTK.o).mono ?_;rw[Qtn];rintro e w2 ⟨rfl,rfl⟩);obtain⟨Qv,Qms⟩:∃Qv,Qv=(f0:Int)-(l'.length:Int):=⟨_,rfl⟩;rw[← Qms] at HOT hw1 hw2 ⊢;have Qzv:-17000000≤Qv∧Qv≤4000:=by omega
   have HLE:=Hh Qms;clear Qms hw1 hw2;go_loopw [16,17,18,20] (fun iv _ _ _ wr=>∃(m:Nat) (l2:List (Qc×Value)) (nv:Value),iv=.int .i64 (m:Int)∧Hi (Q7d w5 ob wr l2 ks nv (.slice tA ks.length tcap)∧l2.length≤l'.length+m∧(m≤k+1∨m=f0)∧Yx t k (l'.map Prod.fst)=Zq t Qv (k+1-m).toNat m (l2.map Prod.fst))) (fun iv _ _ _ _=>(k+1-intOf iv).toNat)
   case atStart=>exact⟨f0,l',_,rfl,Hh ⟨HM.o,by omega,.inr rfl,HOT.o⟩⟩
   case round =>
    obtain⟨m,l2,nv,rfl,HU⟩:=hrel;obtain⟨wi,rfl⟩:∃wi:World,wi=wr:=⟨_,rfl⟩;obtain⟨n2A,n2cap,Qy9⟩:=HU.o.1.o.row.len;subst Qy9;have Qsc:=Hh (HPS.o _ HU.o.1.kq);have Qzw:=HU.o.2.1
    by_cases hmk:(m:Int)≤k
    ·have tmk:decide ((m:Int)≤k)=true:=Dt hmk
     obtain⟨m2,hm2,hnd⟩:=Q1.at_lt (t:=t) (i:=(m:Int)) ⟨by omega,by omega⟩;obtain rfl:m=m2:=by omega
     have hmn:(m:Int)<t.nodes.length:=by omega
     obtain⟨kA,kb,ko,kc,hkA,hcl⟩:=HNC.o m _ hnd;obtain⟨d0,d1,d2,d3,d4⟩:=hcl _ Qsc.o;obtain rfl:=HNA.o (by omega);have g3:=(HS.o _ Qsc.o).1.2.1;have hkm:=HSM.o (m:Int);have HKX:Hi (∀x∈(t.at (m:Int)).kids,(0:Int)≤x∧x<m):=Hh fun x hx=>HKO.o m _ hnd x hx
     have HXN:Hi (Yx t k (l'.map Prod.fst)=Zq t Qv (k+1-((m+1:Nat):Int)).toNat ((m+1:Nat):Int) (l2.map Prod.fst++[Q5r (t.at (m:Int)) Qv])):=Hh (by
      rw[HU.o.2.2.2,show (k+1-(m:Int)).toNat=(k+1-((m+1:Nat):Int)).toNat+1 by omega];rfl)
     have HM2:=Hh HU.o.1;have HKC:Hi (∀W,Q0 S W0 W→∀q y,(t.at (m:Int)).kids[q]?=some y→W.cell? ⟨kb,ko+q,none⟩=some (.int .i64 y)):=Hh fun W hW=>(hcl W hW).2.2.2.2
     have HKA:=Hh hkA;clear hnd hcl d4 HU hkA;generalize t.at (m:Int)=n at *;go_upto_region 14 with fail
     go_cut [17] (fun s17 wx=>∃p:Nat,s17=.pointer (some ⟨p,0,none⟩)∧Blk wx p [.int .i64 n.kind,.string n.text,.int .i64 n.i,.slice kA n.kids.length kc] 70∧Q0 nob wi wx∧p=wi.heap.size∧wx.heap.size=wi.heap.size+1)
     case first =>
      go_wp2_with fail;go_meet;exact⟨_,rfl,Blk.new _ [_,_,_,_] _,(Kr _ _).alloc _,rfl,by simp⟩
     case rest =>
     obtain⟨p,rfl,hpb,hpk,hpe,hps⟩:=hcut;obtain⟨wp,rfl⟩:∃wp:World,wp=wc:=⟨_,rfl⟩;have y3:=hpb.cell 3 _ rfl;have HPB:=Hh hpb;have HPK:=Hh hpk;have Qya:Hi (∀W,Q0 (Q7 wp.heap.size) wp W→Q0 S W0 W):=Hh fun W hW=>(Qsc.o.trans (hpk.ofNob _)).trans (hW.mono fun q _ h=>(HSD.o q).2 (by have h:wp.heap.size≤q:=h;have:=Qsc.o.size;omega))
     have HPE:=Hh hpe;have HPZ:=Hh hps;clear d0 d1 d2 d3 g3 hpb hpk hpe hps;go_wp2_with fail;go_loopw [18,20,70] (fun kv _ qi wr=>∃q:Nat,q≤n.kids.length∧qi=.int .i64 q∧Hi (Qf (Q7 wp.heap.size) 3 wr kv (Q4 ((n.kids.take q).map fun x=>x-Qv))∧Q0 (Q7 wp.heap.size) wp wr)) (fun _ _ qi _=>n.kids.length-(intOf qi).toNat)
     case atStart=>exact⟨0,Nat.zero_le _,rfl,Hh ⟨Qf.nil _ _ _,Kr _ _⟩⟩
     case round =>
      obtain⟨q,hq,rfl,HV⟩:=hrel;obtain⟨wv,rfl⟩:∃wv:World,wv=wr:=⟨_,rfl⟩
      by_cases hqn:q<n.kids.length
      ·obtain⟨x,hx⟩:=Q3 hqn
       have c0:=HKC.o _ (Qya.o _ HV.o.2) q x hx;obtain rfl:=HKA.o (by omega);obtain⟨hx0,hx1⟩:=HKX.o x (Mg hx);have hqj:(q:Int)<(n.kids.length:Int):=by omega
       have hv1:IntKind.i64.wrap (x-Qv)=x-Qv:=by rw[IntKind.wrap_i64];omega
       have hv2:wrap64 (x-Qv)=x-Qv:=by unfold wrap64;omega
       have HTS:Hi ((n.kids.take (q+1)).map (fun x=>x-Qv)=(n.kids.take q).map (fun x=>x-Qv)++[x-Qv]):=Hh (by rw[Jy hx,List.map_append];rfl);have hfl:((n.kids.take q).map fun x=>x-Qv).length≤1048576:=by rw[List.length_map,List.length_take];omega
       have HV1:=Hh HV.o.1;have HV2:=Hh HV.o.2;generalize (n.kids.take q).map (fun x=>x-Qv)=F at *;clear hx HV;go_wp2_with (at_builtin;refine J1 (Q7 wp.heap.size) rfl _ _ 26 3 (.int .i64 0) 8 rfl underlying26 (by kernel_rfl) rfl u18 (Q4 F) (.int .i64 (x-Qv)) rfl rfl (by simp) rfl HV1.o (fun b hb=>by show wp.heap.size≤b;have:=HV2.o.size;omega) (by rw[Q5];omega) (by rw[Q5];omega) ?_;intro nv7 w7 ho7 hk7 Qqg;have HO7:=Hh ho7;have HK7:=Hh (HV2.o.trans (hk7.mono fun b _ h=>HV1.o.2 b h));clear ho7 hk7 Qqg);go_roundw
       case rel=>exact⟨q+1,by omega,by go_num,Hh ⟨by rw[HTS.o,← Xe];exact HO7.o,HK7.o⟩⟩
       case measure=>simp[intOf];omega
      ·have hqj:¬ (q:Int)<(n.kids.length:Int):=by omega
       obtain⟨kvA,kvc,hkv⟩:=HV.o.1.len;have hql:(n.kids.take q).map (fun x=>x-Qv)=(Q5r n Qv).kids:=by rw[List.take_of_length_le (by omega)];rfl
       have HV1:Hi (Qf (Q7 wp.heap.size) 3 wv u18 (Q4 (Q5r n Qv).kids)):=Hh (by rw[← hql];exact HV.o.1);rw[Q5,List.length_map,List.length_take,show min q n.kids.length=n.kids.length by omega] at hkv;subst hkv;have HV2:=Hh HV.o.2;have hpw:p<wp.heap.size:=by have:=HPE.o;have:=HPZ.o;omega
       have hpv:=HPB.o.kept HV2.o (fun e=>by have e:wp.heap.size≤p:=e;omega);have fp:=hpv.free 3;have Qzx:ob<wp.heap.size:=by have:=HM2.o.kq.size;have:=HPK.o.size;omega
       have HS3:Hi (Blk (wv.setCell ⟨p,3,none⟩ (.slice kvA n.kids.length kvc)) p [.int .i64 n.kind,.string n.text,.int .i64 n.i,.slice kvA n.kids.length kvc] 70):=Hh (hpv.set 3 _);have y3:=hpv.cell 3 _ rfl;have hk3:Q0 (fun q=>wi.heap.size≤q) wi (wv.setCell ⟨p,3,none⟩ (.slice kvA n.kids.length kvc)):=((HPK.o.ofNob _).trans (HV2.o.mono fun b _ h=>by have h:wp.heap.size≤b:=h;have:=HPZ.o;omega)).setCell (p:=⟨p,3,none⟩) (.inl (by show wi.heap.size≤p;have:=HPE.o;omega)) _;have HK3:=Hh hk3;have Qw5:Hi (Qf (Q7 wp.heap.size) 3 (wv.setCell ⟨p,3,none⟩ (.slice kvA n.kids.length kvc)) (.slice kvA n.kids.length kvc) (Q4 (Q5r n Qv).kids)):=Hh (HV1.o.other (fun e=>by have:wp.heap.size≤p:=HV1.o.2 p e;omega) _);have Qyb:=HPE.o;clear HV hpv hk3;generalize hw3:wv.setCell ⟨p,3,none⟩ (.slice kvA n.kids.length kvc)=w3 at *;have s0:=HS3.o.cell 0 _ rfl;have s1:=HS3.o.cell 1 _ rfl;have s2:=HS3.o.cell 2 _ rfl;have s3:=HS3.o.cell 3 _ rfl;have Qto:Blk w3 ob [.slice n2A l2.length n2cap,.slice tA ks.length tcap] 33:=HM2.o.b.kept HK3.o (fun e=>by have e:wi.heap.size≤ob:=e;have:=HM2.o.kq.size;omega);have o0:=Qto.cell 0 _ rfl;have Qyc:=Hh Qto;have HRW:Hi (X5 (Q7 w5.heap.size) 70 4 w3 (.slice n2A l2.length n2cap) l2.length (Xo l2)):=Hh ((HM2.o.o.row.mono fun q h=>h.1).kept HK3.o (fun b hb e=>by have:=HM2.o.o.row.lt b hb;have e:wi.heap.size≤b:=e;omega));have Qzy:l2.length≤20000000:=by have:=HM2.o.kq.size;omega
       have HZ3:Hi (w5.heap.size≤w3.heap.size):=Hh (by have:=HM2.o.kq.size;have:=HK3.o.size;omega);clear Qto Qyb;go_wp2_with (at_builtin;refine Q1h rfl (fun K hK=>?_);refine Q1e (Q7 w5.heap.size) _ _ 31 70 4 (.agg #[.int .i64 0,.string ByteArray.empty,.int .i64 0,.slice none 0 0]) 56 rfl underlying31 (by kernel_rfl) rfl (by omega) (.slice n2A l2.length n2cap) l2.length 1 (Xo l2) (Ys (Q5r n Qv) (.slice kvA n.kids.length kvc)) rfl (some ⟨_,0,none⟩) _ 0 1 rfl rfl (fun _=>rfl) (Q3j (Z0 rfl (by first|rfl|simp))) (Q7a _ _ _ _) (HRW.o.alloc _) (fun b hb=>by have:=HZ3.o;simp at hb;show w5.heap.size≤b;omega) (by omega) (by omega) ?_;intro v6 w6 ho6 hk6 Qmz;obtain⟨v6A,v6c,hv6⟩:=ho6.len;subst hv6;have HN6:=Hh (Q7d.snoc HM2.o Qw4 HPK.o HK3.o Qw5.o ((Kr _ w3).alloc _) (Qw5.o.alloc _) (by show (n.kids.map _).length≤_;rw[List.length_map];exact hkm) ho6 hk6 Qmz);have hb6:=(Qyc.o.alloc _).kept hk6 (fun e=>by have:=(HM2.o.o.row.2 ob e).1;omega);have o60:=hb6.cell 0 _ rfl;have f60:=hb6.free 0;refine hK _ _ ?_;clear hK ho6 hk6 Qmz hb6);go_roundw
       case rel=>exact⟨m+1,l2++[(Q5r n Qv,.slice kvA n.kids.length kvc)],.slice v6A (l2.length+1) v6c,by go_num,Hh ⟨HN6.o,by rw[List.length_append];simp;omega,.inl (by omega),by rw[HXN.o,List.map_append];rfl⟩⟩
       case measure=>simp[intOf];omega
    ·have tmk:decide ((m:Int)≤k)=false:=Df hmk
     have HM2:=Hh HU.o.1;have HOE:Hi (Yx t k (l'.map Prod.fst)=l2.map Prod.fst):=Hh (by rw[HU.o.2.2.2,show (k+1-(m:Int)).toNat=0 by omega];rfl);have hmb:m≤4000:=by rcases HU.o.2.2.1 with h|h<;>omega
     have hw1:IntKind.i64.wrap ((l2.length:Int)-1)=(l2.length:Int)-1:=by rw[IntKind.wrap_i64];omega
     have hw2:wrap64 ((l2.length:Int)-1)=(l2.length:Int)-1:=by unfold wrap64;omega
     have o0:=HM2.o.b.cell 0 _ rfl;have o1:=HM2.o.b.cell 1 _ rfl;have Qzz:w5.heap.size≤wi.heap.size:=HM2.o.kq.size;have HKS:Hi (ks.length≤j):=Hh hkl;have hjL:j≤4001:=by omega
     clear HU;go_wp2_with (at_builtin;refine J1 (Q7 w5.heap.size) rfl _ _ 26 3 (.int .i64 0) 8 rfl underlying26 (by kernel_rfl) rfl (.slice tA ks.length tcap) (Q4 ks) (.int .i64 ((l2.length:Int)-1)) rfl rfl (by simp) rfl HM2.o.k (fun b hb=>by show w5.heap.size≤b;omega) (by rw[Q5];omega) (by rw[Q5];omega) ?_;intro nv7 w7 ho7 hk7 Qqg;obtain⟨v7A,v7c,hv7⟩:=ho7.len;rw[List.length_append,Q5,List.length_singleton] at hv7;subst hv7;have HN7:=Hh (Q7d.tops HM2.o Qw4 ho7 hk7 Qqg);have hb7:=HM2.o.b.kept hk7 (fun e=>by have:=HM2.o.k.2 ob e;have h9:w5.heap.size≤ob:=this;omega);have o71:=hb7.cell 1 _ rfl;have f71:=hb7.free 1;clear ho7 hk7 Qqg hb7);go_roundw
     case rel=>exact⟨j+1,l2,ks++[(l2.length:Int)-1],.slice n2A l2.length n2cap,.slice v7A (ks.length+1) v7c,by omega,by go_num,Hh ⟨HN7.o,by rw[HXJ.o,HOE.o,List.length_map],by omega,by rw[List.length_append];simp;omega⟩⟩
     case measure=>simp[intOf];omega
  ·have hjn:¬ (j:Int)<(L.length:Int):=by omega
   have HXE:Hi (X=(l'.map Prod.fst,ks)):=Hh (by rw[HR.o.x,Dn (by omega)];rfl);obtain⟨_,hrb⟩:=HS.o _ HKQ.o;have f0:=hrb.free 0;have hB1:=hrb.set 0 (.slice nA l'.length ncap);have e0:=hB1.cell 0 _ rfl;have f1:=hB1.free 1;have e1:=hB1.cell 1 _ rfl;have hB2:=hB1.set 1 (.slice tA ks.length tcap);have e3:=hB2.cell 1 _ rfl;have c0:=hrb.cell 0 _ rfl;have c1:=hrb.cell 1 _ rfl;clear hB1 hB2 hrb;go_wp2_with fail;have hkk:∀(W:World) (u v:Value),Q0 (fun q=>q=w.heap.size+1+1) W ((W.setCell ⟨w.heap.size+1+1,0,none⟩ u).setCell ⟨w.heap.size+1+1,1,none⟩ v):=fun W u v=>((Kr (fun q=>q=w.heap.size+1+1) W).setCell (p:=⟨w.heap.size+1+1,0,none⟩) (.inl rfl) _).setCell (p:=⟨w.heap.size+1+1,1,none⟩) (.inl rfl) _
   refine bodyPost_ret (v:=.tuple #[.agg #[.slice nA l'.length ncap,.slice tA ks.length tcap],.bool true]) (by simp[results,results11,go_sem,e0,e3]) rfl ⟨_,_,rfl,l',⟨?_,?_⟩,?_,?_,by omega,?_,?_⟩
   ·exact (HR.o.m.o.kept (hkk _ (.slice nA l'.length ncap) (.slice tA ks.length tcap)) fun q h e=>by have e:q=w.heap.size+1+1:=e;omega).mono fun q _ h=>⟨by show w.heap.size≤q;omega,h.2⟩
   ·rw[HXE.o]
    exact (HR.o.m.k.kept (hkk _ (.slice nA l'.length ncap) (.slice tA ks.length tcap)) fun q h e=>by have h:=HR.o.m.k.2 q h;have h:w5.heap.size≤q:=h;have e:q=w.heap.size+1+1:=e;omega).mono fun q h=>by have h:w5.heap.size≤q:=h;show w.heap.size≤q;omega
   ·rw[HXE.o]
   ·rw[HXE.o];exact HR.o.m.f
   ·rw[HXE.o];show ks.length≤_;omega
   ·exact (HK0.o.then_ HKQ.o (fun k h=>.inr (by have:=(HSD.o k).1 h;omega))).then_ (hkk _ _ _) (fun q e=>.inr (by omega))
end Go.Proofs.YtkgkafjachjafaaGreat
