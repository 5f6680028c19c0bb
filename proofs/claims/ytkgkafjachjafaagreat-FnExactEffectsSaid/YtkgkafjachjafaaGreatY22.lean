/- Part 22 of: FnExactEffects answers true; no condition. -/
import Derived.Test.YtkgkafjachjafaaGreatY19
set_option linter.unusedVariables false
set_option maxHeartbeats 2000000
set_option maxRecDepth 100000
open Go Go.RowKit
namespace Go.Proofs.YtkgkafjachjafaaGreat
open Tryz
theorem Qag {t:Q1} (l:List Int) (s:CS):(l.foldl (Jl t) s).locals.length=s.locals.length+l.length:=by
 induction l generalizing s with
 |nil=>rfl
 |cons k ks ih =>
  rw[List.foldl_cons,ih]
  have:(Jl t s k).locals.length=s.locals.length+1:=by
   unfold Jl CS.addLocal
   show ((Qx t s k).locals++[k]).length=_
   rw[Q17];simp
  rw[this,List.length_cons];omega
section
variable {r:Reg} {t:Q1} {S:Nat→Prop} {w:World} {cb rb ro tb tq:Nat} {s:CS} {kv bv lv tv wv:Value} {b:Int} {W:CS→Int→CS}
theorem Qnc (hW:Q0r r t b W) (hO:Yc t W) (hsz:t.nodes.length≤4000) (h:J0 S w cb ⟨rb,ro,none⟩ ⟨tb,tq,none⟩ s kv bv lv tv wv) (hr:Qj S w fun w=>Xa w rb ro r) (ht:Qj S w fun w=>J8 w tb tq t) (hok:Qe t s) (h00:s.code=0) (hF:Jh S w)
  (i:Int) (n:Qn) (hsm:n.kids.length≤1048576) (nk:Value) (hnk:Qj S w fun w=>Qf w nk n.kids) (ps:List Int) (b0:Int) (Qnf:n.kids=ps++[b0]) (hl:∀k∈n.kids,InT t k)
  (Qo8:∀k∈(t.at b0).kids,InT t k∧k<b) (Qow:∀l,(t.at b0).kids.getLast?=some l→(t.at l).kind=26→∃e es,(t.at l).kids=e::es∧InT t e∧e<b) :
  Calls prog 165 #[.pointer (some ⟨cb,0,none⟩),.int .i64 i,.agg #[.int .i64 n.kind,.string n.text,.int .i64 n.i,nk]] w fun e w'=>e=.returned (.tuple #[]) ∧
   AtS S w cb ⟨rb,ro,none⟩ ⟨tb,tq,none⟩ (fnF t W s i n) kv bv tv w':=by
 have hdl:n.kids.dropLast=ps:=by rw[Qnf];simp
 have hgl:n.kids.getLast?.getD 0=b0:=by rw[Qnf];simp
 have hX:fnF t W s i n=(if Q32 t (t.at b0).kids then Qp (Qb W (Qb W (ps.foldl (Jl t) s) (t.at b0).kids.dropLast) [kidAt (t.at ((t.at b0).kids.getLast?.getD 0)) 0]) (kidAt (t.at ((t.at b0).kids.getLast?.getD 0)) 0) n.i i else (Qb W (ps.foldl (Jl t) s) (t.at b0).kids).fail 5 i):=by
  unfold fnF;rw[hdl,hgl]
 generalize fnF t W s i n=X at hX ⊢;have hk0:Q0 nob w (w.alloc (.cells #[.int .i64 n.kind,.string n.text,.int .i64 n.i,nk] 70)):=(Kr _ _).alloc _;have hb0:=Blk.new w [.int .i64 n.kind,.string n.text,.int .i64 n.i,nk] 70;have hF0:Jh (Jj S w.heap.size) (w.alloc (.cells #[.int .i64 n.kind,.string n.text,.int .i64 n.i,nk] 70)):=fun k hk=>⟨hF k (by simp at hk;omega),by simp at hk;omega⟩
 generalize hW0:w.alloc (.cells #[.int .i64 n.kind,.string n.text,.int .i64 n.i,nk] 70)=W0 at hk0 hF0;replace hb0:Blk W0 w.heap.size [.int .i64 n.kind,.string n.text,.int .i64 n.i,nk] 70:=hW0▸hb0;have Qnn:∀k,k<W0.heap.size→Jj S w.heap.size k→S k:=fun _ _ h=>h.1
 have h0:J0 (Jj S w.heap.size) W0 cb ⟨rb,ro,none⟩ ⟨tb,tq,none⟩ s kv bv lv tv wv:=(h.mono fun k hk hS=>⟨hS,Om⟩).nobk hk0;have hr0:=(hr.kept (hk0.ofNob S)).mono Qnn;have ht0:=(ht.kept (hk0.ofNob S)).mono Qnn;have hn0:=(hnk.kept (hk0.ofNob S)).mono Qnn;obtain⟨A,p,o,c,rfl,ll,lc,hA,Qni⟩:=hn0.ints;have hkl:n.kids.length=ps.length+1:=by rw[Qnf];simp
 obtain⟨rfl,hpS⟩:=hA Om;have Qt6:=hl b0 (by rw[Qnf];simp);have Qo3:0<t.nodes.length:=by have:=Qt6.1;have:=Qt6.2;omega
 obtain⟨tA,nb,no,nc,tc,tl,tlc,tS,tA',_,tn⟩:=ht0.tree;obtain⟨rfl,nS⟩:=tA' Qo3;obtain⟨g,kc,hkv,Qnt,hSg⟩:=h0.kindRow hok Qo3;have c3:=hb0.cell 3 _ rfl;have c2:=hb0.cell 2 _ rfl;have hbk:∀W',Q0 (Jj S w.heap.size) W0 W'→W'.cell? ⟨w.heap.size,3,none⟩=some (.slice (some ⟨p,o,none⟩) n.kids.length c)∧W'.cell? ⟨w.heap.size,2,none⟩=some (.int .i64 n.i)∧W'.cell? ⟨tb,tq,none⟩=some (.slice (some ⟨nb,no,none⟩) t.nodes.length nc):=fun W' hk=>⟨hk.cell (fun hh=>hh.2 rfl) c3,hk.cell (fun hh=>hh.2 rfl) c2,tc W' hk⟩
 have Qp7:=hok.few h00;obtain⟨ml,hml⟩:∃ml:Nat,ml=ps.length:=⟨_,rfl⟩;have Qs5:IntKind.i64.wrap ((n.kids.length:Int)-1)=(ml:Int):=by rw[IntKind.wrap_i64];omega
 have Qs6:wrap64 ((n.kids.length:Int)-1)=(ml:Int):=by unfold wrap64;omega
 have Qtv:(ml:Int)≤c:=Om
 have Qtw:(ml:Int)<n.kids.length:=Om
 have Qvd:ml≤140737488355328:=Om
 have HC:=Hh Qni;have H0:=Hh h0;have HR:=Hh hr0;have HT:=Hh ht0;have HTC:=Hh tc;have HTN:=Hh tn;have HF:=Hh hF0;have HBK:=Hh hbk;have HX:=Hh hX;have HKD:=Hh Qnf;have HL:=Hh hl;have Qok:=Hh Qo8;have Qpl:=Hh Qow;have Qtx:=Hh Qt6;have Qq1:Hi (∀j,Qe t ((ps.take j).foldl (Jl t) s)):=Hh (fun j=>Qe.params _ (fun k hk=>hl k (by rw[Qnf];exact List.mem_append_left _ (List.mem_of_mem_take hk))) hok)
 have HLJ:Hi (∀j,((ps.take j).foldl (Jl t) s).locals.length≤1052577):=Hh (by
  intro j;rw[Qag];have:(ps.take j).length≤ps.length:=by rw[List.length_take];omega
  omega)
 have HML:=Hh hml;have hKS:Q0 S w W0:=hk0.ofNob S;have Qoi:=Hh Qnt;have HSG:=Hh hSg;clear hb0 Qnn h0 hr0 ht0 hn0 Qni hF0 h hr ht hnk hl Qnf hok h00 hF hA hbk tc tn tA' Qnt hSg Qo3 hX hdl hgl Qt6 Qo8 Qow Qp7 hml hkl ll c3 hsm hsz;subst hkv;go_enter func165,ntmps165;have y0:=HBK.o W0 (Kr _ _);obtain⟨y0a,y0b,y0c⟩:=y0;go_wp2_with fail;go_loopw [8,22] (fun u8 ci wr=>∃(j:Nat) (lv1:Value),j≤ml∧ci=.int .i64 j∧Hi (J0 (Jj S w.heap.size) wr cb ⟨rb,ro,none⟩ ⟨tb,tq,none⟩ ((ps.take j).foldl (Jl t) s) (.slice (some ⟨g,0,none⟩) t.nodes.length kc) bv lv1 tv wv∧Q0 (Jj S w.heap.size) W0 wr)) (fun _ ci _=>ml-(intOf ci).toNat)
 case atStart=>exact⟨0,lv,Nat.zero_le _,rfl,Hh ⟨H0.o,Kr _ _⟩⟩
 case round =>
  obtain⟨j,lv1,hj,rfl,HAT⟩:=hrel;obtain⟨wo,rfl⟩:∃wo:World,wo=wr:=⟨_,rfl⟩
  by_cases hlt:j<ml
  ·obtain⟨k,hx⟩:=Q4 (xs:=ps) (j:=j) (by rw[← HML.o];exact hlt)
   have hx2:n.kids[j]?=some k:=by
    rw[HKD.o,List.getElem?_append_left (by rw[← HML.o];exact hlt)];exact hx
   have hki:=HL.o k (Mg hx2);have q0:=HC.o j k hx2 wo HAT.o.2;obtain⟨pm,rfl,hpn⟩:=Q1.at_lt hki;have hpl:(pm:Int)<t.nodes.length:=hki.2;obtain⟨pv,pc,_⟩:=HTN.o pm _ hpn;have q1:wo.cell? ⟨cb,1,none⟩=some (.pointer (some ⟨tb,tq,none⟩)):=HAT.o.1.blk.cell 1 _ rfl;have q2:=HTC.o wo HAT.o.2;have q5:=(pc wo HAT.o.2).2.1;have HPC:=Hh pc;have HST:Hi ((ps.take (j+1)).foldl (Jl t) s=Jl t ((ps.take j).foldl (Jl t) s) (pm:Int)):=Hh (by rw[Js hx,List.foldl_append];rfl);have Qpc:=Qq1.o j;have hlj:=HLJ.o j;have hjm:(j:Int)<ml:=Om
   generalize (ps.take j).foldl (Jl t) s=s0 at HAT HST Qpc hlj;have Qqf:=Hh Qpc;have Qt7:=Hh hlj;have Qve:Hi ((0:Int)≤(pm:Int)):=Hh Om;clear hx hx2 hki hpn pc Qpc hlj;have Qsa:=Hh (Qqf.o.twice (pm:Int));have Qrf:Hi ((Qx t s0 (pm:Int)).locals=s0.locals):=Hh (Q17 _ _ _)
   by_cases hn:0≤Q3 t s0.locals (t.at (pm:Int)).text
   ·have t1:decide (0≤Q3 t s0.locals (t.at (pm:Int)).text)=true:=by simpa using hn
    have HTW:Hi (Qx t s0 (pm:Int)=s0.fail 2 (pm:Int)):=Hh (by unfold Qx;rw[Ps hn]);clear hn;go_upto_region 7 with (first|(go_at_call 196;refine (Q0f HAT.o.1 t (HT.o.kept HAT.o.2).now Qqf.o.locals _).mono ?_;rintro e w1 ⟨rfl,rfl⟩)|(go_at_call 92;refine (Ze HAT.o.1 _ _).mono ?_;rintro e w4 ⟨rfl,hat⟩;have HC4:Hi (J0 (Jj S w.heap.size) w4 cb ⟨rb,ro,none⟩ ⟨tb,tq,none⟩ (Qx t s0 (pm:Int)) (.slice (some ⟨g,0,none⟩) t.nodes.length kc) bv lv1 tv wv):=Hh (HTW.o▸hat.1);have HK4:=Hh (HAT.o.2.trans (hat.2.mono fun k _ e=>e▸hat.1.inS));clear hat))
    have hs2:=Qsa.o;generalize hE2:Qx t s0 (pm:Int)=s2 at HST HC4 Qrf hs2;have x4:w4.cell? ⟨cb,4,none⟩=some (.slice (some ⟨g,0,none⟩) t.nodes.length kc):=HC4.o.blk.cell 4 _ rfl;have x1:w4.cell? ⟨cb,1,none⟩=some (.pointer (some ⟨tb,tq,none⟩)):=HC4.o.blk.cell 1 _ rfl;have x2:=HTC.o w4 HK4.o;have x3:=(HPC.o w4 HK4.o).2.2.1;obtain⟨y1,y2⟩:=HC4.o.kindCell (mi:=pm) Qoi.o (by rw[hs2.kinds];omega);have h5:=(HC4.o.setK Qoi.o (pm:Int) (t.at (pm:Int)).i Qve.o).drew;rw[Int.toNat_natCast] at h5;have HC5:=Hh h5;have HK5:=Hh ((HK4.o.setCell (p:=⟨g,pm,none⟩) (Or.inl HSG.o) (.int .i64 (t.at (pm:Int)).i)).drew);have z4:(w4.setCell ⟨g,pm,none⟩ (.int .i64 (t.at (pm:Int)).i)).drew.cell? ⟨cb,4,none⟩=some (.slice (some ⟨g,0,none⟩) t.nodes.length kc):=h5.blk.cell 4 _ rfl;have z1:(w4.setCell ⟨g,pm,none⟩ (.int .i64 (t.at (pm:Int)).i)).drew.cell? ⟨cb,1,none⟩=some (.pointer (some ⟨tb,tq,none⟩)):=h5.blk.cell 1 _ rfl;have z2:=HTC.o _ HK5.o;have z3:=(HPC.o _ HK5.o).2.2.1;have z6:(w4.setCell ⟨g,pm,none⟩ (.int .i64 (t.at (pm:Int)).i)).drew.cell? ⟨cb,6,none⟩=some lv1:=h5.blk.cell 6 _ rfl;clear h5 hs2;go_region_held3 (fun W=>W.cell? ⟨cb,4,none⟩=some (.slice (some ⟨g,0,none⟩) t.nodes.length kc)∧W.cell? ⟨cb,1,none⟩=some (.pointer (some ⟨tb,tq,none⟩))∧W.cell? ⟨tb,tq,none⟩=some (.slice (some ⟨nb,no,none⟩) t.nodes.length nc)∧W.cell? ⟨nb,no+pm*4+2,none⟩=some (.int .i64 (t.at (pm:Int)).i)) (first|exact⟨x4,x1,x2,x3⟩|exact⟨z4,z1,z2,z3⟩) (fail);clear Qs5 Qs6 Qtv Qtw x4 x1 x2 x3 y1 y2 z4 z1 z2 z3 q1 q2 q5 q0;have HE2:=Hh hE2;clear hE2;generalize hW5:(w4.setCell ⟨g,pm,none⟩ (.int .i64 (t.at (pm:Int)).i)).drew=w5 at HC5 HK5 z6 ⊢;clear hW5;go_wp2_with (at_builtin;refine Qt (Jj S w.heap.size) rfl _ _ 26 3 (.int .i64 0) 8 rfl underlying26 Kf rfl lv1 (Q5 s0.locals) (.int .i64 (pm:Int)) rfl rfl Sm rfl (Qrf.o▸HC5.o.l) (HF.o.kept HK5.o) (by have:=Qt7.o;simp[Q5];omega) (by have:=Qt7.o;simp[Q5];omega) ?_;intro nv1 w6 Qnq hk2 hat;obtain⟨nA2,nc2,rfl⟩:=Qnq.len;rw[show (Q5 s0.locals++[Value.int .i64 (pm:Int)]).length=(Q5 s0.locals).length+1 from by simp] at Qnq hat;have hb6:=HC5.o.blk.kept hk2 (HC5.o.noCb.2.2.1);have c66:=hb6.cell 6 _ rfl;have f66:=hb6.free 6);go_roundw
    case rel =>
     have h7:=HC5.o.swapL (l1:=s0.locals++[(pm:Int)]) (by have:=Qnq;rwa [show Q5 s0.locals++[.int .i64 (pm:Int)]=Q5 (s0.locals++[(pm:Int)]) from by simp[Q5]] at this) hk2 (hat.elim .inl fun h=>.inr (.inr h));have hk7:=(HK5.o.trans (hk2.mono fun k _ hk=>HC5.o.l.2 k hk)).setCell (p:=⟨cb,6,none⟩) (Or.inl HC5.o.inS) (.slice nA2 ((Q5 s0.locals).length+1) nc2)
     have e9:(ps.take (j+1)).foldl (Jl t) s={s2.setKind (pm:Int) (t.at (pm:Int)).i with locals:=s0.locals++[(pm:Int)]}:=by
      rw[HST.o];unfold Jl CS.addLocal;rw[HE2.o,← Qrf.o];rfl
     exact⟨j+1,_,Om,Gm,Hh (by rw[e9];exact⟨h7,hk7⟩)⟩
    case measure=>exact Me
   ·have t1:decide (0≤Q3 t s0.locals (t.at (pm:Int)).text)=false:=by simpa using hn
    have HTW:Hi (Qx t s0 (pm:Int)=s0):=Hh (by unfold Qx;rw[Ng hn]);clear hn;obtain⟨w4,hw4⟩:∃w4,w4=wo:=⟨_,rfl⟩;have HC4:Hi (J0 (Jj S w.heap.size) w4 cb ⟨rb,ro,none⟩ ⟨tb,tq,none⟩ (Qx t s0 (pm:Int)) (.slice (some ⟨g,0,none⟩) t.nodes.length kc) bv lv1 tv wv):=Hh (hw4▸HTW.o.symm▸HAT.o.1);have HK4:Hi (Q0 (Jj S w.heap.size) W0 w4):=Hh (hw4▸HAT.o.2);subst hw4;go_upto_region 7 with (first|(go_at_call 196;refine (Q0f HAT.o.1 t (HT.o.kept HAT.o.2).now Qqf.o.locals _).mono ?_;rintro e w1 ⟨rfl,rfl⟩))
    have hs2:=Qsa.o;generalize hE2:Qx t s0 (pm:Int)=s2 at HST HC4 Qrf hs2;have x4:w4.cell? ⟨cb,4,none⟩=some (.slice (some ⟨g,0,none⟩) t.nodes.length kc):=HC4.o.blk.cell 4 _ rfl;have x1:w4.cell? ⟨cb,1,none⟩=some (.pointer (some ⟨tb,tq,none⟩)):=HC4.o.blk.cell 1 _ rfl;have x2:=HTC.o w4 HK4.o;have x3:=(HPC.o w4 HK4.o).2.2.1;obtain⟨y1,y2⟩:=HC4.o.kindCell (mi:=pm) Qoi.o (by rw[hs2.kinds];omega);have h5:=(HC4.o.setK Qoi.o (pm:Int) (t.at (pm:Int)).i Qve.o).drew;rw[Int.toNat_natCast] at h5;have HC5:=Hh h5;have HK5:=Hh ((HK4.o.setCell (p:=⟨g,pm,none⟩) (Or.inl HSG.o) (.int .i64 (t.at (pm:Int)).i)).drew);have z4:(w4.setCell ⟨g,pm,none⟩ (.int .i64 (t.at (pm:Int)).i)).drew.cell? ⟨cb,4,none⟩=some (.slice (some ⟨g,0,none⟩) t.nodes.length kc):=h5.blk.cell 4 _ rfl;have z1:(w4.setCell ⟨g,pm,none⟩ (.int .i64 (t.at (pm:Int)).i)).drew.cell? ⟨cb,1,none⟩=some (.pointer (some ⟨tb,tq,none⟩)):=h5.blk.cell 1 _ rfl;have z2:=HTC.o _ HK5.o;have z3:=(HPC.o _ HK5.o).2.2.1;have z6:(w4.setCell ⟨g,pm,none⟩ (.int .i64 (t.at (pm:Int)).i)).drew.cell? ⟨cb,6,none⟩=some lv1:=h5.blk.cell 6 _ rfl;clear h5 hs2;go_region_held3 (fun W=>W.cell? ⟨cb,4,none⟩=some (.slice (some ⟨g,0,none⟩) t.nodes.length kc)∧W.cell? ⟨cb,1,none⟩=some (.pointer (some ⟨tb,tq,none⟩))∧W.cell? ⟨tb,tq,none⟩=some (.slice (some ⟨nb,no,none⟩) t.nodes.length nc)∧W.cell? ⟨nb,no+pm*4+2,none⟩=some (.int .i64 (t.at (pm:Int)).i)) (first|exact⟨x4,x1,x2,x3⟩|exact⟨z4,z1,z2,z3⟩) (fail);clear Qs5 Qs6 Qtv Qtw x4 x1 x2 x3 y1 y2 z4 z1 z2 z3 q1 q2 q5 q0;have HE2:=Hh hE2;clear hE2;generalize hW5:(w4.setCell ⟨g,pm,none⟩ (.int .i64 (t.at (pm:Int)).i)).drew=w5 at HC5 HK5 z6 ⊢;clear hW5;go_wp2_with (at_builtin;refine Qt (Jj S w.heap.size) rfl _ _ 26 3 (.int .i64 0) 8 rfl underlying26 Kf rfl lv1 (Q5 s0.locals) (.int .i64 (pm:Int)) rfl rfl Sm rfl (Qrf.o▸HC5.o.l) (HF.o.kept HK5.o) (by have:=Qt7.o;simp[Q5];omega) (by have:=Qt7.o;simp[Q5];omega) ?_;intro nv1 w6 Qnq hk2 hat;obtain⟨nA2,nc2,rfl⟩:=Qnq.len;rw[show (Q5 s0.locals++[Value.int .i64 (pm:Int)]).length=(Q5 s0.locals).length+1 from by simp] at Qnq hat;have hb6:=HC5.o.blk.kept hk2 (HC5.o.noCb.2.2.1);have c66:=hb6.cell 6 _ rfl;have f66:=hb6.free 6);go_roundw
    case rel =>
     have h7:=HC5.o.swapL (l1:=s0.locals++[(pm:Int)]) (by have:=Qnq;rwa [show Q5 s0.locals++[.int .i64 (pm:Int)]=Q5 (s0.locals++[(pm:Int)]) from by simp[Q5]] at this) hk2 (hat.elim .inl fun h=>.inr (.inr h));have hk7:=(HK5.o.trans (hk2.mono fun k _ hk=>HC5.o.l.2 k hk)).setCell (p:=⟨cb,6,none⟩) (Or.inl HC5.o.inS) (.slice nA2 ((Q5 s0.locals).length+1) nc2)
     have e9:(ps.take (j+1)).foldl (Jl t) s={s2.setKind (pm:Int) (t.at (pm:Int)).i with locals:=s0.locals++[(pm:Int)]}:=by
      rw[HST.o];unfold Jl CS.addLocal;rw[HE2.o,← Qrf.o];rfl
     exact⟨j+1,_,Om,Gm,Hh (by rw[e9];exact⟨h7,hk7⟩)⟩
    case measure=>exact Me
  ·obtain rfl:j=ml:=Om
   obtain⟨bm,Qty,hbn⟩:=Q1.at_lt Qtx.o;obtain⟨bv0,bc,bst⟩:=HTN.o bm _ hbn;obtain⟨BA,Bb,Bo,Bc,rfl,BL,Blc,BA',Bcell⟩:=bst.ints;have Qzh:(bm:Int)<t.nodes.length:=by rw[← Qty];exact Qtx.o.2
   have q0:=HC.o j b0 (by rw[HKD.o,HML.o];simp) wo HAT.o.2;rw[Qty] at q0;have q1:wo.cell? ⟨cb,1,none⟩=some (.pointer (some ⟨tb,tq,none⟩)):=HAT.o.1.blk.cell 1 _ rfl;obtain⟨q2,q3,q4⟩:=HBK.o wo HAT.o.2;have q5:=(bc wo HAT.o.2).2.2.2;have Qqu:=Qq1.o j;have hpe:(ps.take j).foldl (Jl t) s=ps.foldl (Jl t) s:=by rw[HML.o,List.take_length]
   rw[hpe] at Qqu;have Qtz:=HAT.o;rw[hpe] at Qtz;have Qsb:=Hh Qqu;have Qu0:=Hh Qtz;clear HAT Qtz Qqu hpe hbn bc Qty Qtx;have HBC:=Hh Bcell;have HBA:=Hh BA';generalize ps.foldl (Jl t) s=s1 at HX Qu0 Qsb;generalize hBD:(t.at b0).kids=body at Qok Qpl HX HBC HBA BL Blc q5 bst;clear Bcell BA' hBD;obtain⟨hch,Qp0⟩:=Qu0.o;have HCH:=Hh hch;have Qvf:=Hh Qp0;clear hch Qp0 Qu0;go_upto_region 10 with fail
   go_quiet (fail);have Qsc:=Hh (HCH.o.drewN nq);have Qol:=Hh (Qvf.o.drewN nq);generalize hW5:wo.drewN nq=w5 at Qsc Qol ⊢;clear hW5 q0 q1 q2 q3 q4 q5 HCH Qvf Qs5 Qs6 Qtv Qtw;go_upto_region 12 with fail
   have q1:w5.cell? ⟨cb,1,none⟩=some (.pointer (some ⟨tb,tq,none⟩)):=Qsc.o.blk.cell 1 _ rfl;have q2:=HTC.o w5 Qol.o;have HBL:=Hh BL;have HFW:=Hh (bst.kept Qol.o);clear bst;generalize hN:body.length=N at BL Blc HFW ⊢;have HN:=Hh hN;cases hE:Q32 t body with
   |false =>
    have HX2:=Hh (HX.o.trans (by rw[hE];rfl):X=(Qb W s1 body).fail 5 i);clear HX
    by_cases hb0':N=0
    ·have t1:decide ((0:Int)<(N:Int))=false:=Df Om
     have t1':decide (0<N)=false:=Df Om;clear hb0' hE BL hN;go_quiet (fail);have Qqg:=Hh (Qsc.o.drewN nq);have Qnz:=Hh (Qol.o.drewN nq);have Qsd:=Hh (HFW.o.kept ((Kr _ _).drewN nq));generalize hW6:w5.drewN nq=w6 at Qqg Qnz Qsd ⊢;clear hW6;go_wp2_with (first|(go_at_call 93;refine (Xw hW hO Qqg.o (HR.o.kept Qnz.o) (HT.o.kept Qnz.o) Qsb.o (HF.o.kept Qnz.o) _ body Qsd.o (fun k hk=>Qok.o k hk)).mono ?_;rintro e w8 ⟨rfl,⟨lv8,wv8,hc8⟩,hk8⟩)|(go_at_call 92;refine (Ze hc8 _ _).mono ?_;rintro e w9 ⟨rfl,Qse⟩));go_returns;obtain rfl:=HX2.o;exact⟨rfl,⟨_,_,Qse.1.mono fun k _ h=>h.1⟩,(((hKS.trans (Qnz.o.mono fun k _ h=>h.1)).trans (hk8.mono fun k _ h=>h.1)).trans (Qse.2.mono fun k _ e=>e▸hc8.inS.1))⟩
    ·obtain⟨l,hl9⟩:∃l,body.getLast?=some l:=by
      cases hg:body.getLast? with
      |none=>rw[List.getLast?_eq_none_iff] at hg;subst hg;simp at hN;omega
      |some l=>exact⟨l,rfl⟩
     have Qra:((t.at l).kind==26)=false:=by unfold Q32 at hE;rw[hl9] at hE;simpa using hE
     obtain⟨mb,hmb⟩:∃mb:Nat,N=mb+1:=⟨N-1,Om⟩;have hlm:body[mb]?=some l:=by rw[List.getLast?_eq_getElem?] at hl9;rw[show mb=body.length-1 by omega];exact hl9
     have hli:=(Qok.o l (Mg hlm)).1;obtain⟨lm,rfl,hln⟩:=Q1.at_lt hli;have hll:(lm:Int)<t.nodes.length:=hli.2;obtain⟨lv0,lc0,_⟩:=HTN.o lm _ hln;have q7:=(lc0 w5 Qol.o).1;obtain⟨rfl,_⟩:=HBA.o (by rw[hN];omega);have q8:=HBC.o mb _ hlm w5 Qol.o;have Qvg:IntKind.i64.wrap ((N:Int)-1)=(mb:Int):=by rw[IntKind.wrap_i64];omega
     have Qvh:wrap64 ((N:Int)-1)=(mb:Int):=by unfold wrap64;omega
     have Qvi:(mb:Int)<N:=Om
     have t1:decide ((0:Int)<(N:Int))=true:=Dt Om;have t1':decide (0<N)=true:=Dt Om;clear hb0' hE hl9 hmb hlm hli hln lc0 BL hN;go_quiet (fail);have Qqg:=Hh (Qsc.o.drewN nq);have Qnz:=Hh (Qol.o.drewN nq);have Qsd:=Hh (HFW.o.kept ((Kr _ _).drewN nq));generalize hW6:w5.drewN nq=w6 at Qqg Qnz Qsd ⊢;clear hW6;go_wp2_with (first|(go_at_call 93;refine (Xw hW hO Qqg.o (HR.o.kept Qnz.o) (HT.o.kept Qnz.o) Qsb.o (HF.o.kept Qnz.o) _ body Qsd.o (fun k hk=>Qok.o k hk)).mono ?_;rintro e w8 ⟨rfl,⟨lv8,wv8,hc8⟩,hk8⟩)|(go_at_call 92;refine (Ze hc8 _ _).mono ?_;rintro e w9 ⟨rfl,Qse⟩));go_returns;obtain rfl:=HX2.o;exact⟨rfl,⟨_,_,Qse.1.mono fun k _ h=>h.1⟩,(((hKS.trans (Qnz.o.mono fun k _ h=>h.1)).trans (hk8.mono fun k _ h=>h.1)).trans (Qse.2.mono fun k _ e=>e▸hc8.inS.1))⟩
   |true =>
    obtain⟨l,hl9⟩:∃l,body.getLast?=some l:=by
     cases hg:body.getLast? with
     |none=>unfold Q32 at hE;rw[hg] at hE;cases hE
     |some l=>exact⟨l,rfl⟩
    have Qqv:(t.at l).kind=26:=by unfold Q32 at hE;rw[hl9] at hE;simpa using hE
    have Qra:((t.at l).kind==26)=true:=by simpa using Qqv
    obtain⟨e0,es,hek,hei,heb⟩:=Qpl.o l hl9 Qqv
    have hX2:X=Qp (Qb W (Qb W s1 body.dropLast) [e0]) e0 n.i i:=by
     rw[HX.o,Ps hE,hl9]
     show Qp (Qb W (Qb W s1 body.dropLast) [kidAt (t.at l) 0]) (kidAt (t.at l) 0) n.i i=_
     have:kidAt (t.at l) 0=e0:=by simp[kidAt,hek]
     rw[this]
    have hNp:0<N:=by
     rw[← hN];cases body with
     |nil=>simp at hl9
     |cons _ _=>simp
    obtain⟨mb,hmb⟩:∃mb:Nat,N=mb+1:=⟨N-1,Om⟩;have hlm:body[mb]?=some l:=by rw[List.getLast?_eq_getElem?] at hl9;rw[show mb=body.length-1 by omega];exact hl9
    have Qvj:body.dropLast=body.take mb:=by rw[List.dropLast_eq_take];congr 1;omega
    rw[Qvj] at hX2;have HX2:=Hh hX2;have hli:=(Qok.o l (Mg hlm)).1;obtain⟨lm,rfl,hln⟩:=Q1.at_lt hli;have hll:(lm:Int)<t.nodes.length:=hli.2;obtain⟨lv0,lc0,lst⟩:=HTN.o lm _ hln;obtain⟨LA,Lb,Lo,Lc,rfl,LL,Llc,LA',Lcell⟩:=lst.ints;have hlp:0<(t.at (lm:Int)).kids.length:=by rw[hek];simp
    obtain⟨rfl,_⟩:=LA' hlp;have q7:=(lc0 w5 Qol.o).1;obtain⟨rfl,_⟩:=HBA.o (by rw[hN];omega);have q8:=HBC.o mb _ hlm w5 Qol.o
    have HFA:Hi (∀W,Q0 (Jj S w.heap.size) W0 W→W.cell? ⟨tb,tq,none⟩=some (.slice (some ⟨nb,no,none⟩) t.nodes.length nc)∧W.cell? ⟨Bb,Bo+mb,none⟩=some (.int .i64 (lm:Int))∧W.cell? ⟨nb,no+lm*4+3,none⟩=some (.slice (some ⟨Lb,Lo,none⟩) (t.at (lm:Int)).kids.length Lc)∧W.cell? ⟨Lb,Lo,none⟩=some (.int .i64 e0)∧W.cell? ⟨w.heap.size,2,none⟩=some (.int .i64 n.i)) :=
     Hh (fun W hk=>⟨HTC.o W hk,HBC.o mb _ hlm W hk,(lc0 W hk).2.2.2,by have:=Lcell 0 e0 (by rw[hek];rfl) W hk;simpa using this,(HBK.o W hk).2.1⟩)
    have Qvg:IntKind.i64.wrap ((N:Int)-1)=(mb:Int):=by rw[IntKind.wrap_i64];omega
    have Qvh:wrap64 ((N:Int)-1)=(mb:Int):=by unfold wrap64;omega
    have Qvi:(mb:Int)<N:=Om
    have Qzi:(mb:Int)≤Bc:=Om
    have t1:decide ((0:Int)<(N:Int))=true:=Dt Om;have t1':decide (0<N)=true:=Dt Om;have HSL:Hi (Qj (Jj S w.heap.size) W0 fun w=>Qf w (.slice (some ⟨Bb,Bo,none⟩) mb Bc) (body.take mb)):=Hh (Qj.take HBC.o (by rw[hN];omega) (by rw[hN];omega) rfl Om);have HEI:=Hh (And.intro hei heb);have Qu1:=Hh (Qe.kids hO (body.take mb) (fun k hk=>(Qok.o k (List.mem_of_mem_take hk)).1) Qsb.o);clear hE hl9 Qqv hek hei heb hX2 hNp hmb hlm Qvj hli hln lc0 lst LL LA' Lcell BL hN HX;go_quiet (fail);have Qqg:=Hh (Qsc.o.drewN nq);have Qnz:=Hh (Qol.o.drewN nq);generalize hW6:w5.drewN nq=w6 at Qqg Qnz ⊢;clear hW6 q7 q8 q1 q2;go_upto_region 18 with (go_at_call 93;refine (Xw hW hO Qqg.o (HR.o.kept Qnz.o) (HT.o.kept Qnz.o) Qsb.o (HF.o.kept Qnz.o) _ (body.take mb) (HSL.o.kept Qnz.o) (fun k hk=>Qok.o k (List.mem_of_mem_take hk))).mono ?_;rintro e w8 ⟨rfl,⟨lv8,wv8,hc8⟩,hk8⟩)
    have q1:w8.cell? ⟨cb,1,none⟩=some (.pointer (some ⟨tb,tq,none⟩)):=hc8.blk.cell 1 _ rfl;obtain⟨q2,q3,q4,q5,_⟩:=HFA.o w8 (Qnz.o.trans hk8);go_quiet (fail);generalize hS8:Qb W s1 (body.take mb)=s8 at HX2 Qu1 hc8;have HC9:=Hh (hc8.drewN nq);have HK9:=Hh ((Qnz.o.trans hk8).drewN nq);generalize hW9:w8.drewN nq=w9 at HC9 HK9 ⊢;clear hW9 q1 q2 q3 q4 q5 hc8 hk8 hS8 Qvg Qvh;have hka:Q0 nob w9 (w9.alloc (.cells #[.int .i64 e0] 3)):=(Kr _ _).alloc _;have hba:=Blk.new w9 [.int .i64 e0] 3;have Qqh:(w9.alloc (.cells #[.int .i64 e0] 3)).heap.size=w9.heap.size+1:=Sm
    generalize hWa:w9.alloc (.cells #[.int .i64 e0] 3)=wa at hka Qqh;replace hba:Blk wa w9.heap.size [.int .i64 e0] 3:=hWa▸hba;have hCa:J0 (Jj (Jj S w.heap.size) w9.heap.size) wa cb ⟨rb,ro,none⟩ ⟨tb,tq,none⟩ s8 (.slice (some ⟨g,0,none⟩) t.nodes.length kc) bv lv8 tv wv8:=(HC9.o.mono fun k hk hS=>⟨hS,Om⟩).nobk hka;have hFa:Jh (Jj (Jj S w.heap.size) w9.heap.size) wa:=fun k hk=>⟨HF.o.kept HK9.o k Om,Om⟩
    have hKa:Q0 (Jj S w.heap.size) W0 wa:=HK9.o.trans (hka.ofNob _);have hra:=(HR.o.kept hKa).mono (S':=Jj (Jj S w.heap.size) w9.heap.size) (fun k _ h=>h.1);have hta:=(HT.o.kept hKa).mono (S':=Jj (Jj S w.heap.size) w9.heap.size) (fun k _ h=>h.1)
    have hva:Qj (Jj (Jj S w.heap.size) w9.heap.size) wa fun w=>Qf w (.slice (some ⟨w9.heap.size,0,none⟩) 1 1) [e0]:=by
     refine Qj.mkInts rfl Sm Sm (fun j x hj W hk=>?_)
     cases j with
     |zero=>simp at hj;subst hj;exact hk.cell (fun h=>h.2 rfl) (hba.cell 0 _ rfl)
     |succ j=>simp at hj
    have HCa:=Hh hCa;have HFa:=Hh hFa;have HKa:=Hh hKa;have HRa:=Hh hra;have HTa:=Hh hta;have HVa:=Hh hva;have Qxk:=Hh (Qe.kids hO [e0] (fun k hk=>by simp at hk;subst hk;exact HEI.o.1) Qu1.o);have Qvk:Hi (0≤e0∧e0<((Qb W s8 [e0]).kinds.length:Int)):=Hh ⟨HEI.o.1.1,by rw[Qxk.o.kinds];exact HEI.o.1.2⟩;clear hka hba Qqh hCa hFa hKa hra hta hva;go_wp2_with (first|(go_at_call 93;refine (Xw hW hO HCa.o HRa.o HTa.o Qu1.o HFa.o _ [e0] HVa.o (fun k hk=>by simp at hk;subst hk;exact HEI.o)).mono ?_;rintro e w11 ⟨rfl,⟨lv11,wv11,Qvl⟩,Qxl⟩;have Qvm:=Hh (HKa.o.trans (Qxl.mono fun k _ h=>h.1));have q6:=(HFA.o w11 Qvm.o).2.2.2.2)|(go_at_call 197;refine (Xp Qvl _ _ _ Qvk.o.1 Qvk.o.2).mono ?_;rintro e w12 ⟨rfl,Qsf⟩));go_returns;obtain rfl:=HX2.o;exact⟨rfl,⟨_,_,Qsf.1.mono fun k _ h=>h.1.1⟩,(hKS.trans (Qvm.o.mono fun k _ h=>h.1)).trans (Qsf.2.mono fun k _ e=>e▸Qvl.inS.1.1)⟩
end
end Go.Proofs.YtkgkafjachjafaaGreat
