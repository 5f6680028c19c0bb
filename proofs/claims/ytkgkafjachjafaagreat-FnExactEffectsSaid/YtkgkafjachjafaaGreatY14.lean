/- Part 14 of: FnExactEffects answers true; no condition. -/
import Derived.Test.YtkgkafjachjafaaGreatY11
import Derived.Test.YtkgkafjachjafaaGreatY13
set_option linter.unusedVariables false
set_option maxHeartbeats 1000000
open Go Go.RowKit
namespace Go.Proofs.YtkgkafjachjafaaGreat
open Tryz
theorem Qex {t:Q1} {i:Int} {ks ps:List Int} {j:Nat} {k p:Int} (hk:ks[j]?=some k) (hp:ps[j]?=some p) (s:CS) :
  Yl t i (ks.take (j+1)) (ps.take (j+1)) s=Qp (Yl t i (ks.take j) (ps.take j) s) k (t.at p).i i:=by
 induction ks generalizing ps j s with
 |nil=>simp at hk
 |cons y ys ih =>
  cases ps with
  |nil=>simp at hp
  |cons q qs =>
   cases j with
   |zero=>simp at hk hp;subst hk;subst hp;simp[Yl]
   |succ j =>
    simp only[List.take_succ_cons,Yl];exact ih (j:=j) (by simpa using hk) (by simpa using hp) _
theorem Qeh {t:Q1} {i:Int} {ks ps:List Int} (h:ks.length≤ps.length) (s:CS):Yl t i ks (ps.take ks.length) s=Yl t i ks ps s:=by
 induction ks generalizing ps s with
 |nil=>cases ps<;>rfl
 |cons y ys ih =>
  cases ps with
  |nil=>simp at h
  |cons q qs=>simp only[List.length_cons,List.take_succ_cons,Yl];exact ih (by simpa using h) _
theorem Qc.at {S:Nat→Prop} {e:TypeId} {w:World} {v:Value} {xs:List Value} {b j:Nat} (h:Qc S e w v xs) (hv:v.ownBlock=some b) (hj:j<xs.length):w.cell? ⟨b,j,none⟩=some xs[j]∧w.frozen? ⟨b,j,none⟩=false:=by
 obtain⟨A,b',c,rfl,_,_,h3,h4⟩:=h.opened;obtain⟨_,_,ho⟩:=h3 Om;rw[hv] at ho;cases ho;exact h4 j _ (List.getElem?_eq_getElem hj)
section
variable {S:Nat→Prop} {w:World} {cb rb ro tb tq:Nat} {s:CS} {kv bv lv tv wv:Value}
theorem Qmj (h:J0 S w cb ⟨rb,ro,none⟩ ⟨tb,tq,none⟩ s kv bv lv tv wv) (t:Q1) (ht:Qj S w fun w=>J8 w tb tq t) (hok:Qe t s) (hK:Qk t)
  (i:Int) (hi:InT t i) (n:Qn) (nk:Value) (hnk:Qj S w fun w=>Qf w nk n.kids) (hin:∀k∈n.kids,InT t k) :
  Calls prog 200 #[.pointer (some ⟨cb,0,none⟩),.int .i64 i,.agg #[.int .i64 n.kind,.string n.text,.int .i64 n.i,nk]] w fun e w'=>e=.returned (.int .i64 (Q36 t s i n).1) ∧
   J0 S w' cb ⟨rb,ro,none⟩ ⟨tb,tq,none⟩ (Q36 t s i n).2 kv bv lv tv wv∧Q0 S w w':=by
 have hk0:Q0 nob w (w.alloc (.cells #[.int .i64 n.kind,.string n.text,.int .i64 n.i,nk] 70)):=(Kr _ _).alloc _;have hb0:=Blk.new w [.int .i64 n.kind,.string n.text,.int .i64 n.i,nk] 70;generalize hW0:w.alloc (.cells #[.int .i64 n.kind,.string n.text,.int .i64 n.i,nk] 70)=W0 at hk0;replace hb0:Blk W0 w.heap.size [.int .i64 n.kind,.string n.text,.int .i64 n.i,nk] 70:=hW0▸hb0;have h0:=h.nobk hk0;have hcw:w.heap.size≠cb:=by have:=h.blk.lt;omega
 have H0:=Hh h0;have HT:=Hh ((ht.kept (hk0.ofNob S)).now);have HIN:=Hh hok.tops;have hT0:=(ht.kept (hk0.ofNob S)).tree;obtain⟨tA,nb,no,nc,tc,tl,tlc,tS,tA',_,tn⟩:=hT0;have c1:W0.cell? ⟨cb,1,none⟩=some (.pointer (some ⟨tb,tq,none⟩)):=h0.blk.cell 1 _ rfl;have b1:=hb0.cell 1 _ rfl;have Qo3:0<t.nodes.length:=by have:=hi.1;have:=hi.2;omega
 obtain⟨rfl,nS⟩:=tA' Qo3;have tc0:=tc W0 (Kr _ _);generalize hX:Q36 t s i n=X;unfold Q36 at hX;dsimp only at hX
 by_cases hn:Q3 t s.tops n.text<0
 ·have t1:decide (Q3 t s.tops n.text<0)=true:=by simpa using hn
  rw[Ps (Or.inl hn)] at hX;have HX:=Hh hX;clear hX hn h h0 hb0 ht hok hnk hin tn tc tA' hi Qo3;go_enter func200,ntmps200;go_wp2_with (first|(go_at_call 91;refine (Q3t H0.o t HT.o HIN.o _).mono ?_;rintro e w1 ⟨rfl,rfl⟩)|(go_at_call 92;refine (Ze H0.o _ _).mono ?_;rintro e w1 ⟨rfl,hat⟩));go_returns;obtain rfl:=HX.o;exact⟨rfl,hat.1,(hk0.ofNob _).trans (hat.2.mono fun k _ hk=>hk▸hat.1.inS)⟩
 have t1:decide (Q3 t s.tops n.text<0)=false:=by simpa using hn
 have hm0:=hok.tops _ (Q5j (by omega:0≤Q3 t s.tops n.text));generalize hj:Q3 t s.tops n.text=j at hn t1 hm0 hX;obtain⟨mj,rfl,hnd⟩:=Q1.at_lt hm0;obtain⟨fkv,fc,fst⟩:=tn mj _ hnd;obtain⟨fc0,fc1,fc2,fc3⟩:=fc W0 (Kr _ _);have hml:(mj:Int)<t.nodes.length:=hm0.2;generalize hfn:t.at (mj:Int)=fn at hX fc fc0 fc1 fc2 fc3 fst hnd
 by_cases h33:fn.kind=33
 ·have t2:(fn.kind != 33)=false:=by simp[h33]
  rw[Ng (by rw[h33];omega)] at hX;have hk1:Q0 nob W0 (W0.alloc (.cells #[.int .i64 fn.kind,.string fn.text,.int .i64 fn.i,fkv] 70)):=(Kr _ _).alloc _;have hb1:=Blk.new W0 [.int .i64 fn.kind,.string fn.text,.int .i64 fn.i,fkv] 70;generalize hW1:W0.alloc (.cells #[.int .i64 fn.kind,.string fn.text,.int .i64 fn.i,fkv] 70)=W1 at hk1;replace hb1:Blk W1 W0.heap.size [.int .i64 fn.kind,.string fn.text,.int .i64 fn.i,fkv] 70:=hW1▸hb1;have h1:=h0.nobk hk1;have H1:=Hh h1;have fi:=(fst.kept (hk1.ofNob S)).ints;obtain⟨fA,fb,fo,fcap,rfl,fl,flc,fA',fcells⟩:=fi;have ni:=(hnk.kept ((hk0.trans hk1).ofNob S)).ints;obtain⟨nA,kb,ko,kcap,rfl,nl,nlc,nA',ncells⟩:=ni;have d3:=hb1.cell 3 _ rfl;have d2:=hb1.cell 2 _ rfl;have e3:W1.cell? ⟨w.heap.size,3,none⟩=some (.slice nA n.kids.length kcap):=(hb0.kept hk1 id).cell 3 _ rfl
  by_cases Qnm:fn.kids.length=n.kids.length+1
  ·have t3:(((fn.kids.length:Int)-1) != (n.kids.length:Int))=false:=So
   rw[Ng (by simpa using Qnm)] at hX;obtain⟨rfl,fS⟩:=fA' Om;obtain⟨bA,gb,bc,hbv,bl,blc,hbA,_⟩:=h1.b.openI;have hbl:0<s.bind.length:=by rw[hok.bind];exact Qo3
   obtain⟨rfl,hSb,Qo9⟩:=hbA hbl;obtain⟨mi,rfl⟩:=En hi.1;have hmi:(mi:Int)<s.bind.length:=by rw[hok.bind];exact hi.2
   have Qs1:∀(s':CS) (w':World),J0 S w' cb ⟨rb,ro,none⟩ ⟨tb,tq,none⟩ s' kv bv lv tv wv→s'.bind.length=s.bind.length→∃y,w'.cell? ⟨gb,mi,none⟩=some (.int .i64 y)∧w'.frozen? ⟨gb,mi,none⟩=false:=by
    intro s' w' hc hs;obtain⟨q1,q2⟩:=hc.b.at (j:=mi) Qo9 (by simp[Q5];omega);refine⟨s'.bind[mi]'(by omega),?_,q2⟩;rw[q1];simp[Q5]
   have hbn:∀j,(Yl t (mi:Int) (n.kids.take j) (fn.kids.take j) s).bind.length=s.bind.length:=fun j=>by rw[(hok.args _ _ _).bind,hok.bind]
   have hkn:∀j,(Yl t (mi:Int) (n.kids.take j) (fn.kids.take j) s).kinds.length=t.nodes.length:=fun j=>(hok.args _ _ _).kinds
   have hst:∀W,Q0 (fun k=>k=cb) W1 W→Q0 S W0 W:=fun W hk=>(hk1.ofNob S).trans (hk.mono fun k _ e=>e▸h1.inS)
   have Qqb:∀W,Q0 (fun k=>k=cb) W1 W→Q0 S W1 W:=fun W hk=>hk.mono fun k _ e=>e▸h1.inS
   have Quv:W0.heap.size≠cb:=by have:=h0.blk.lt;omega
   have Qrr:∀p∈fn.kids,InT t p:=fun p hp=>(show InT t (mj:Int) from hm0).kid hK (by rw[hfn];exact hp)
   have hB1:∀W,Q0 (fun k=>k=cb) W1 W→W.cell? ⟨W0.heap.size,3,none⟩=some (.slice (some ⟨fb,fo,none⟩) fn.kids.length fcap)∧W.cell? ⟨W0.heap.size,2,none⟩=some (.int .i64 fn.i):=fun W hk=>⟨hk.cell Quv d3,hk.cell Quv d2⟩
   have hgw:gb≠W0.heap.size:=by have:=h0.b.lt gb Qo9;omega
   have HX:=Hh hX;have HTN:=Hh tn;have HTC:=Hh tc;have HFC:=Hh fcells;have HNC:=Hh ncells;have HNA:=Hh nA';have HST:=Hh hst;have Qqc:=Hh Qqb;have HB1:=Hh hB1;have HFR:=Hh Qs1;have HBN:=Hh hbn;have HKN:=Hh hkn;have HFI:=Hh Qrr;have HNI:=Hh hin;have Qof:=Hh Qnm;have HSB:=Hh hSb;have HOB:=Hh Qo9;have HI0:=Hh hi.1;have Qtl:n.kids.length<fn.kids.length:=Om
   clear hX hn h h0 h1 hb0 hb1 ht hok hnk hin tn tc tA' hi Qo3 hm0 fst fc fcells ncells fA' nA' Qnm h33 hnd hfn hst Qqb hB1 Qs1 hbn hkn Qrr hSb hbA Qo9;subst hbv;go_enter func200,ntmps200;go_wp2_with (first|(go_at_call 91;refine (Q3t H0.o t HT.o HIN.o _).mono ?_;rw[hj];rintro e w1 ⟨rfl,rfl⟩));go_loopw [9,10,58] (fun u9 u10 ci wr=>∃j:Nat,j≤n.kids.length∧ci=.int .i64 j∧Hi (Q31 S W1 cb ⟨rb,ro,none⟩ ⟨tb,tq,none⟩ (Yl t (mi:Int) (n.kids.take j) (fn.kids.take j) s) kv (.slice (some ⟨gb,0,none⟩) s.bind.length bc) lv tv wv wr)) (fun _ _ ci _=>n.kids.length-(intOf ci).toNat)
   case atStart=>exact⟨0,Nat.zero_le _,rfl,Hh ⟨H1.o,Kr _ _⟩⟩
   case round =>
    obtain⟨j,hjl,rfl,HAT⟩:=hrel;obtain⟨wo,rfl⟩:∃wo:World,wo=wr:=⟨_,rfl⟩;obtain⟨g3,g2⟩:=HB1.o wo HAT.o.2
    by_cases hlt:j<n.kids.length
    ·obtain⟨x,hx⟩:=Q4 hlt
     obtain⟨p,hp⟩:=Q4 (xs:=fn.kids) (j:=j) Om;have hxi:=HNI.o x (Mg hx);have hpi:=HFI.o p (Mg hp);obtain⟨pm,rfl,hpn⟩:=Q1.at_lt hpi;have hpl:(pm:Int)<t.nodes.length:=hpi.2;obtain⟨pv,pc,_⟩:=HTN.o pm _ hpn;obtain⟨rfl,_⟩:=HNA.o Om;have q1:wo.cell? ⟨cb,1,none⟩=some (.pointer (some ⟨tb,tq,none⟩)):=HAT.o.1.blk.cell 1 _ rfl;have q2:=HTC.o wo (HST.o wo HAT.o.2);have q3:=HNC.o j x hx wo (Qqc.o wo HAT.o.2);have q4:=HFC.o j _ hp wo (Qqc.o wo HAT.o.2);have q5:=(pc wo (HST.o wo HAT.o.2)).2.2.1
     have HS2:Hi (∀W,Q0 (fun k=>k=cb) W1 W→W.cell? ⟨tb,tq,none⟩=some (.slice (some ⟨nb,no,none⟩) t.nodes.length nc)∧W.cell? ⟨W0.heap.size,3,none⟩=some (.slice (some ⟨fb,fo,none⟩) fn.kids.length fcap)∧W.cell? ⟨fb,fo+j,none⟩=some (.int .i64 (pm:Int))∧W.cell? ⟨nb,no+pm*4+2,none⟩=some (.int .i64 (t.at (pm:Int)).i)) :=
      Hh (fun W hk=>⟨HTC.o W (HST.o W hk),(HB1.o W hk).1,HFC.o j _ hp W (Qqc.o W hk),(pc W (HST.o W hk)).2.2.1⟩)
     have HAR:=Hh (Qex (t:=t) (i:=(mi:Int)) hx hp s);have HXI:Hi (0≤x∧x<((Yl t (mi:Int) (n.kids.take j) (fn.kids.take j) s).kinds.length:Int)):=Hh ⟨hxi.1,by rw[HKN.o];exact hxi.2⟩;have hjf:(j:Int)<fn.kids.length:=Om
     clear hx hp hxi hpi hpn pc;go_wp2_with fail;go_region_held3 (fun W=>W.cell? ⟨cb,1,none⟩=some (.pointer (some ⟨tb,tq,none⟩))∧W.cell? ⟨tb,tq,none⟩=some (.slice (some ⟨nb,no,none⟩) t.nodes.length nc)∧W.cell? ⟨W0.heap.size,3,none⟩=some (.slice (some ⟨fb,fo,none⟩) fn.kids.length fcap)∧W.cell? ⟨fb,fo+j,none⟩=some (.int .i64 (pm:Int))∧W.cell? ⟨nb,no+pm*4+2,none⟩=some (.int .i64 (t.at (pm:Int)).i)) (first|exact⟨q1,q2,g3,q4,q5⟩|exact⟨hat.1.blk.cell 1 _ rfl,HS2.o _ (HAT.o.2.trans hat.2)⟩) ((first|(go_at_call 197;refine (Xp (HAT.o.1.drew) _ _ _ HXI.o.1 HXI.o.2).mono ?_;rintro e w2 ⟨rfl,Qov⟩;have hat:Q31 S wo cb ⟨rb,ro,none⟩ ⟨tb,tq,none⟩ (Qp (Yl t (mi:Int) (n.kids.take j) (fn.kids.take j) s) x (t.at (pm:Int)).i (mi:Int)) kv (.slice (some ⟨gb,0,none⟩) s.bind.length bc) lv tv wv w2:=⟨Qov.1,Qov.2.undrew⟩;dsimp only)));go_wp2_with fail;go_round
     case rel=>exact⟨j+1,Om,Gm,Hh (HAR.o▸⟨hat.1,HAT.o.2.trans hat.2⟩)⟩
     case measure=>exact Me
    ·obtain rfl:j=n.kids.length:=Om
     obtain⟨y,y1,y2⟩:=HFR.o _ _ HAT.o.1 (HBN.o _);have q5:wo.cell? ⟨cb,5,none⟩=some (.slice (some ⟨gb,0,none⟩) s.bind.length bc):=HAT.o.1.blk.cell 5 _ rfl;have g2':(wo.setCell ⟨gb,mi,none⟩ (.int .i64 (mj:Int))).cell? ⟨W0.heap.size,2,none⟩=some (.int .i64 fn.i):=(Q0.cb (cb:=gb) (Kr _ wo) mi (.int .i64 (mj:Int))).cell (fun e=>hgw e.symm) g2;go_wp2_with fail;go_returns;obtain rfl:=HX.o;have hS:=HAT.o.1.setB HOB.o (mi:Int) (mj:Int) HI0.o;rw[Int.toNat_natCast,List.take_length,Qeh (Nat.le_of_lt Qtl)] at hS;have hk2:Q0 S W0 wo:=HST.o _ HAT.o.2;exact⟨rfl,hS,((hk0.ofNob _).trans hk2).setCell (p:=⟨gb,mi,none⟩) (Or.inl HSB.o) _⟩
  ·have t3:(((fn.kids.length:Int)-1) != (n.kids.length:Int))=true:=So
   rw[Ps (by simpa using Qnm)] at hX;have HX:=Hh hX;clear hX hn h h0 h1 hb0 hb1 ht hok hnk hin tn tc tA' hi Qo3 hm0 fst fc fcells ncells fA' nA' Qnm h33 hnd hfn;go_enter func200,ntmps200;go_wp2_with (first|(go_at_call 91;refine (Q3t H0.o t HT.o HIN.o _).mono ?_;rw[hj];rintro e w1 ⟨rfl,rfl⟩)|(go_at_call 92;refine (Ze H1.o _ _).mono ?_;rintro e w1 ⟨rfl,hat⟩));go_returns;obtain rfl:=HX.o;exact⟨rfl,hat.1,((hk0.trans hk1).ofNob _).trans (hat.2.mono fun k _ hk=>hk▸hat.1.inS)⟩
 ·have t2:(fn.kind != 33)=true:=by simpa using h33
  rw[Ps (Or.inr h33)] at hX;have HX:=Hh hX;clear hX hn h h0 hb0 ht hok hnk hin tn tc tA' hi Qo3 hm0 fst fc h33 hnd hfn;go_enter func200,ntmps200;go_wp2_with (first|(go_at_call 91;refine (Q3t H0.o t HT.o HIN.o _).mono ?_;rw[hj];rintro e w1 ⟨rfl,rfl⟩)|(go_at_call 92;refine (Ze H0.o _ _).mono ?_;rintro e w1 ⟨rfl,hat⟩));go_returns;obtain rfl:=HX.o;exact⟨rfl,hat.1,(hk0.ofNob _).trans (hat.2.mono fun k _ hk=>hk▸hat.1.inS)⟩
end
end Go.Proofs.YtkgkafjachjafaaGreat
