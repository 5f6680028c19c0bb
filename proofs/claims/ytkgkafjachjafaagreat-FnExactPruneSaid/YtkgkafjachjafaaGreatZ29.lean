/- Part 29 of: FnExactPrune answers true; no condition. -/
import Derived.Test.YtkgkafjachjafaaGreatZ21
set_option linter.unusedVariables false
set_option maxHeartbeats 2000000
set_option maxRecDepth 100000
open Go Go.RowKit
namespace Go.Proofs.YtkgkafjachjafaaGreat
open Tryz
theorem Q9o {t:Q1} (l:List Int) (s:CS):(l.foldl (Jk t) s).locals.length=s.locals.length+l.length:=by
 induction l generalizing s with
 |nil=>rfl
 |cons k ks ih =>
  rw[List.foldl_cons,ih]
  have:(Jk t s k).locals.length=s.locals.length+1:=by
   unfold Jk CS.addLocal
   show ((Qy t s k).locals++[k]).length=_
   rw[Q0w];simp
  rw[this,List.length_cons];omega
section
variable {r:Reg} {t:Q1} {S:Nat→Prop} {w:World} {cb rb ro tb tq:Nat} {s:CS} {kv bv lv tv wv:Value} {b:Int} {W:CS→Int→CS}
theorem Qmc (hW:Q0o r t b W) (hO:Y5 t W) (hsz:t.nodes.length≤4000) (h:J0 S w cb ⟨rb,ro,none⟩ ⟨tb,tq,none⟩ s kv bv lv tv wv) (hr:Qm S w fun w=>Xy w rb ro r) (ht:Qm S w fun w=>J7 w tb tq t) (hok:Qe t s) (h00:s.code=0) (hF:Jl S w)
  (i:Int) (n:Qc) (hsm:n.kids.length≤1048576) (nk:Value) (hnk:Qm S w fun w=>Qi w nk n.kids) (ps:List Int) (b0:Int) (Qmk:n.kids=ps++[b0]) (hl:∀k∈n.kids,InT t k)
  (Qne:∀k∈(t.at b0).kids,InT t k∧k<b) (Qny:∀l,(t.at b0).kids.getLast?=some l→(t.at l).kind=26→∃e es,(t.at l).kids=e::es∧InT t e∧e<b) :
  Calls prog 165 #[.pointer (some ⟨cb,0,none⟩),.int .i64 i,.agg #[.int .i64 n.kind,.string n.text,.int .i64 n.i,nk]] w fun e w'=>e=.returned (.tuple #[]) ∧
   AtS S w cb ⟨rb,ro,none⟩ ⟨tb,tq,none⟩ (fnF t W s i n) kv bv tv w':=by
 have hdl:n.kids.dropLast=ps:=by rw[Qmk];simp
 have hgl:n.kids.getLast?.getD 0=b0:=by rw[Qmk];simp
 have hX:fnF t W s i n=(if Q31 t (t.at b0).kids then Qq (Qa W (Qa W (ps.foldl (Jk t) s) (t.at b0).kids.dropLast) [kidAt (t.at ((t.at b0).kids.getLast?.getD 0)) 0]) (kidAt (t.at ((t.at b0).kids.getLast?.getD 0)) 0) n.i i else (Qa W (ps.foldl (Jk t) s) (t.at b0).kids).fail 5 i):=by
  unfold fnF;rw[hdl,hgl]
 generalize fnF t W s i n=X at hX ⊢;have hk0:Q0 nob w (w.alloc (.cells #[.int .i64 n.kind,.string n.text,.int .i64 n.i,nk] 70)):=(Kr _ _).alloc _;have hb0:=Blk.new w [.int .i64 n.kind,.string n.text,.int .i64 n.i,nk] 70;have hF0:Jl (Qv S w.heap.size) (w.alloc (.cells #[.int .i64 n.kind,.string n.text,.int .i64 n.i,nk] 70)):=fun k hk=>⟨hF k (by simp at hk;omega),by simp at hk;omega⟩
 generalize hW0:w.alloc (.cells #[.int .i64 n.kind,.string n.text,.int .i64 n.i,nk] 70)=W0 at hk0 hF0;replace hb0:Blk W0 w.heap.size [.int .i64 n.kind,.string n.text,.int .i64 n.i,nk] 70:=hW0▸hb0;have Qms:∀k,k<W0.heap.size→Qv S w.heap.size k→S k:=fun _ _ h=>h.1
 have h0:J0 (Qv S w.heap.size) W0 cb ⟨rb,ro,none⟩ ⟨tb,tq,none⟩ s kv bv lv tv wv:=(h.mono fun k hk hS=>⟨hS,by omega⟩).nobk hk0;have hr0:=(hr.kept (hk0.ofNob S)).mono Qms;have ht0:=(ht.kept (hk0.ofNob S)).mono Qms;have hn0:=(hnk.kept (hk0.ofNob S)).mono Qms;obtain⟨A,p,o,c,rfl,ll,lc,hA,Qmq⟩:=hn0.ints;have hkl:n.kids.length=ps.length+1:=by rw[Qmk];simp
 obtain⟨rfl,hpS⟩:=hA (by omega);have Qs5:=hl b0 (by rw[Qmk];simp);have Qn9:0<t.nodes.length:=by have:=Qs5.1;have:=Qs5.2;omega
 obtain⟨tA,nb,no,nc,tc,tl,tlc,tS,tA',_,tn⟩:=ht0.tree;obtain⟨rfl,nS⟩:=tA' Qn9;obtain⟨g,kc,hkv,Qmy,hSg⟩:=h0.kindRow hok Qn9;have c3:=hb0.cell 3 _ rfl;have c2:=hb0.cell 2 _ rfl;have hbk:∀W',Q0 (Qv S w.heap.size) W0 W'→W'.cell? ⟨w.heap.size,3,none⟩=some (.slice (some ⟨p,o,none⟩) n.kids.length c)∧W'.cell? ⟨w.heap.size,2,none⟩=some (.int .i64 n.i)∧W'.cell? ⟨tb,tq,none⟩=some (.slice (some ⟨nb,no,none⟩) t.nodes.length nc):=fun W' hk=>⟨hk.cell (fun hh=>hh.2 rfl) c3,hk.cell (fun hh=>hh.2 rfl) c2,tc W' hk⟩
 have Qo8:=hok.few h00;obtain⟨ml,hml⟩:∃ml:Nat,ml=ps.length:=⟨_,rfl⟩;have Qra:IntKind.i64.wrap ((n.kids.length:Int)-1)=(ml:Int):=by rw[IntKind.wrap_i64];omega
 have Qrb:wrap64 ((n.kids.length:Int)-1)=(ml:Int):=by unfold wrap64;omega
 have Qsy:(ml:Int)≤c:=by omega
 have Qsz:(ml:Int)<n.kids.length:=by omega
 have Quh:ml≤140737488355328:=by omega
 have HC:=Hh Qmq;have H0:=Hh h0;have HR:=Hh hr0;have HT:=Hh ht0;have HTC:=Hh tc;have HTN:=Hh tn;have HF:=Hh hF0;have HBK:=Hh hbk;have HX:=Hh hX;have HKD:=Hh Qmk;have HL:=Hh hl;have Qno:=Hh Qne;have Qot:=Hh Qny;have Qt0:=Hh Qs5;have Qp8:Hi (∀j,Qe t ((ps.take j).foldl (Jk t) s)):=Hh (fun j=>Qe.params _ (fun k hk=>hl k (by rw[Qmk];exact List.mem_append_left _ (List.mem_of_mem_take hk))) hok)
 have HLJ:Hi (∀j,((ps.take j).foldl (Jk t) s).locals.length≤1052577):=Hh (by
  intro j;rw[Q9o];have:(ps.take j).length≤ps.length:=by rw[List.length_take];omega
  omega)
 have HML:=Hh hml;have hKS:Q0 S w W0:=hk0.ofNob S;have Qnm:=Hh Qmy;have HSG:=Hh hSg;clear hb0 Qms h0 hr0 ht0 hn0 Qmq hF0 h hr ht hnk hl Qmk hok h00 hF hA hbk tc tn tA' Qmy hSg Qn9 hX hdl hgl Qs5 Qne Qny Qo8 hml hkl ll c3 hsm hsz;subst hkv;go_enter func165,ntmps165;have y0:=HBK.o W0 (Kr _ _);obtain⟨y0a,y0b,y0c⟩:=y0;go_wp2_with fail;go_loopw [8,22] (fun u8 ci wr=>∃(j:Nat) (lv1:Value),j≤ml∧ci=.int .i64 j∧Hi (J0 (Qv S w.heap.size) wr cb ⟨rb,ro,none⟩ ⟨tb,tq,none⟩ ((ps.take j).foldl (Jk t) s) (.slice (some ⟨g,0,none⟩) t.nodes.length kc) bv lv1 tv wv∧Q0 (Qv S w.heap.size) W0 wr)) (fun _ ci _=>ml-(intOf ci).toNat)
 case atStart=>exact⟨0,lv,Nat.zero_le _,rfl,Hh ⟨H0.o,Kr _ _⟩⟩
 case round =>
  obtain⟨j,lv1,hj,rfl,HAT⟩:=hrel;obtain⟨wo,rfl⟩:∃wo:World,wo=wr:=⟨_,rfl⟩
  by_cases hlt:j<ml
  ·obtain⟨k,hx⟩:=Q3 (xs:=ps) (j:=j) (by rw[← HML.o];exact hlt)
   have hx2:n.kids[j]?=some k:=by
    rw[HKD.o,List.getElem?_append_left (by rw[← HML.o];exact hlt)];exact hx
   have hki:=HL.o k (Mg hx2);have q0:=HC.o j k hx2 wo HAT.o.2;obtain⟨pm,rfl,hpn⟩:=Q1.at_lt hki;have hpl:(pm:Int)<t.nodes.length:=hki.2;obtain⟨pv,pc,_⟩:=HTN.o pm _ hpn;have q1:wo.cell? ⟨cb,1,none⟩=some (.pointer (some ⟨tb,tq,none⟩)):=HAT.o.1.blk.cell 1 _ rfl;have q2:=HTC.o wo HAT.o.2;have q5:=(pc wo HAT.o.2).2.1;have HPC:=Hh pc;have HST:Hi ((ps.take (j+1)).foldl (Jk t) s=Jk t ((ps.take j).foldl (Jk t) s) (pm:Int)):=Hh (by rw[Jy hx,List.foldl_append];rfl);have Qoi:=Qp8.o j;have hlj:=HLJ.o j;have hjm:(j:Int)<ml:=by omega
   generalize (ps.take j).foldl (Jk t) s=s0 at HAT HST Qoi hlj;have Qp3:=Hh Qoi;have Qs6:=Hh hlj;have Qui:Hi ((0:Int)≤(pm:Int)):=Hh (by omega);clear hx hx2 hki hpn pc Qoi hlj;have Qrf:=Hh (Qp3.o.twice (pm:Int));have Qqn:Hi ((Qy t s0 (pm:Int)).locals=s0.locals):=Hh (Q0w _ _ _)
   by_cases hn:0≤Q2 t s0.locals (t.at (pm:Int)).text
   ·have t1:decide (0≤Q2 t s0.locals (t.at (pm:Int)).text)=true:=by simpa using hn
    have HTW:Hi (Qy t s0 (pm:Int)=s0.fail 2 (pm:Int)):=Hh (by unfold Qy;rw[Ps hn]);clear hn;go_upto_region 7 with (first|(go_at_call 196;refine (Q0a HAT.o.1 t (HT.o.kept HAT.o.2).now Qp3.o.locals _).mono ?_;rintro e w1 ⟨rfl,rfl⟩)|(go_at_call 92;refine (Zd HAT.o.1 _ _).mono ?_;rintro e w4 ⟨rfl,hat⟩;have HC4:Hi (J0 (Qv S w.heap.size) w4 cb ⟨rb,ro,none⟩ ⟨tb,tq,none⟩ (Qy t s0 (pm:Int)) (.slice (some ⟨g,0,none⟩) t.nodes.length kc) bv lv1 tv wv):=Hh (HTW.o▸hat.1);have HK4:=Hh (HAT.o.2.trans (hat.2.mono fun k _ e=>e▸hat.1.inS));clear hat))
    have hs2:=Qrf.o;generalize hE2:Qy t s0 (pm:Int)=s2 at HST HC4 Qqn hs2;have x4:w4.cell? ⟨cb,4,none⟩=some (.slice (some ⟨g,0,none⟩) t.nodes.length kc):=HC4.o.blk.cell 4 _ rfl;have x1:w4.cell? ⟨cb,1,none⟩=some (.pointer (some ⟨tb,tq,none⟩)):=HC4.o.blk.cell 1 _ rfl;have x2:=HTC.o w4 HK4.o;have x3:=(HPC.o w4 HK4.o).2.2.1;obtain⟨y1,y2⟩:=HC4.o.kindCell (mi:=pm) Qnm.o (by rw[hs2.kinds];omega);have h5:=(HC4.o.setK Qnm.o (pm:Int) (t.at (pm:Int)).i Qui.o).drew;rw[Int.toNat_natCast] at h5;have HC5:=Hh h5;have HK5:=Hh ((HK4.o.setCell (p:=⟨g,pm,none⟩) (Or.inl HSG.o) (.int .i64 (t.at (pm:Int)).i)).drew);have z4:(w4.setCell ⟨g,pm,none⟩ (.int .i64 (t.at (pm:Int)).i)).drew.cell? ⟨cb,4,none⟩=some (.slice (some ⟨g,0,none⟩) t.nodes.length kc):=h5.blk.cell 4 _ rfl;have z1:(w4.setCell ⟨g,pm,none⟩ (.int .i64 (t.at (pm:Int)).i)).drew.cell? ⟨cb,1,none⟩=some (.pointer (some ⟨tb,tq,none⟩)):=h5.blk.cell 1 _ rfl;have z2:=HTC.o _ HK5.o;have z3:=(HPC.o _ HK5.o).2.2.1;have z6:(w4.setCell ⟨g,pm,none⟩ (.int .i64 (t.at (pm:Int)).i)).drew.cell? ⟨cb,6,none⟩=some lv1:=h5.blk.cell 6 _ rfl;clear h5 hs2;go_region_held3 (fun W=>W.cell? ⟨cb,4,none⟩=some (.slice (some ⟨g,0,none⟩) t.nodes.length kc)∧W.cell? ⟨cb,1,none⟩=some (.pointer (some ⟨tb,tq,none⟩))∧W.cell? ⟨tb,tq,none⟩=some (.slice (some ⟨nb,no,none⟩) t.nodes.length nc)∧W.cell? ⟨nb,no+pm*4+2,none⟩=some (.int .i64 (t.at (pm:Int)).i)) (first|exact⟨x4,x1,x2,x3⟩|exact⟨z4,z1,z2,z3⟩) (fail);clear Qra Qrb Qsy Qsz x4 x1 x2 x3 y1 y2 z4 z1 z2 z3 q1 q2 q5 q0;have HE2:=Hh hE2;clear hE2;generalize hW5:(w4.setCell ⟨g,pm,none⟩ (.int .i64 (t.at (pm:Int)).i)).drew=w5 at HC5 HK5 z6 ⊢;clear hW5;go_wp2_with (at_builtin;refine J1 (Qv S w.heap.size) rfl _ _ 26 3 (.int .i64 0) 8 rfl underlying26 (by kernel_rfl) rfl lv1 (Q4 s0.locals) (.int .i64 (pm:Int)) rfl rfl (by simp) rfl (Qqn.o▸HC5.o.l) (HF.o.kept HK5.o) (by have:=Qs6.o;simp[Q4];omega) (by have:=Qs6.o;simp[Q4];omega) ?_;intro nv1 w6 Qmv hk2 hat;obtain⟨nA2,nc2,rfl⟩:=Qmv.len;rw[show (Q4 s0.locals++[Value.int .i64 (pm:Int)]).length=(Q4 s0.locals).length+1 from by simp] at Qmv hat;have hb6:=HC5.o.blk.kept hk2 (HC5.o.noCb.2.2.1);have c66:=hb6.cell 6 _ rfl;have f66:=hb6.free 6);go_roundw
    case rel =>
     have h7:=HC5.o.swapL (l1:=s0.locals++[(pm:Int)]) (by have:=Qmv;rwa [show Q4 s0.locals++[.int .i64 (pm:Int)]=Q4 (s0.locals++[(pm:Int)]) from by simp[Q4]] at this) hk2 (hat.elim .inl fun h=>.inr (.inr h));have hk7:=(HK5.o.trans (hk2.mono fun k _ hk=>HC5.o.l.2 k hk)).setCell (p:=⟨cb,6,none⟩) (Or.inl HC5.o.inS) (.slice nA2 ((Q4 s0.locals).length+1) nc2)
     have e9:(ps.take (j+1)).foldl (Jk t) s={s2.setKind (pm:Int) (t.at (pm:Int)).i with locals:=s0.locals++[(pm:Int)]}:=by
      rw[HST.o];unfold Jk CS.addLocal;rw[HE2.o,← Qqn.o];rfl
     exact⟨j+1,_,by omega,by go_num,Hh (by rw[e9];exact⟨h7,hk7⟩)⟩
    case measure=>simp[intOf];omega
   ·have t1:decide (0≤Q2 t s0.locals (t.at (pm:Int)).text)=false:=by simpa using hn
    have HTW:Hi (Qy t s0 (pm:Int)=s0):=Hh (by unfold Qy;rw[Ng hn]);clear hn;obtain⟨w4,hw4⟩:∃w4,w4=wo:=⟨_,rfl⟩;have HC4:Hi (J0 (Qv S w.heap.size) w4 cb ⟨rb,ro,none⟩ ⟨tb,tq,none⟩ (Qy t s0 (pm:Int)) (.slice (some ⟨g,0,none⟩) t.nodes.length kc) bv lv1 tv wv):=Hh (hw4▸HTW.o.symm▸HAT.o.1);have HK4:Hi (Q0 (Qv S w.heap.size) W0 w4):=Hh (hw4▸HAT.o.2);subst hw4;go_upto_region 7 with (first|(go_at_call 196;refine (Q0a HAT.o.1 t (HT.o.kept HAT.o.2).now Qp3.o.locals _).mono ?_;rintro e w1 ⟨rfl,rfl⟩))
    have hs2:=Qrf.o;generalize hE2:Qy t s0 (pm:Int)=s2 at HST HC4 Qqn hs2;have x4:w4.cell? ⟨cb,4,none⟩=some (.slice (some ⟨g,0,none⟩) t.nodes.length kc):=HC4.o.blk.cell 4 _ rfl;have x1:w4.cell? ⟨cb,1,none⟩=some (.pointer (some ⟨tb,tq,none⟩)):=HC4.o.blk.cell 1 _ rfl;have x2:=HTC.o w4 HK4.o;have x3:=(HPC.o w4 HK4.o).2.2.1;obtain⟨y1,y2⟩:=HC4.o.kindCell (mi:=pm) Qnm.o (by rw[hs2.kinds];omega);have h5:=(HC4.o.setK Qnm.o (pm:Int) (t.at (pm:Int)).i Qui.o).drew;rw[Int.toNat_natCast] at h5;have HC5:=Hh h5;have HK5:=Hh ((HK4.o.setCell (p:=⟨g,pm,none⟩) (Or.inl HSG.o) (.int .i64 (t.at (pm:Int)).i)).drew);have z4:(w4.setCell ⟨g,pm,none⟩ (.int .i64 (t.at (pm:Int)).i)).drew.cell? ⟨cb,4,none⟩=some (.slice (some ⟨g,0,none⟩) t.nodes.length kc):=h5.blk.cell 4 _ rfl;have z1:(w4.setCell ⟨g,pm,none⟩ (.int .i64 (t.at (pm:Int)).i)).drew.cell? ⟨cb,1,none⟩=some (.pointer (some ⟨tb,tq,none⟩)):=h5.blk.cell 1 _ rfl;have z2:=HTC.o _ HK5.o;have z3:=(HPC.o _ HK5.o).2.2.1;have z6:(w4.setCell ⟨g,pm,none⟩ (.int .i64 (t.at (pm:Int)).i)).drew.cell? ⟨cb,6,none⟩=some lv1:=h5.blk.cell 6 _ rfl;clear h5 hs2;go_region_held3 (fun W=>W.cell? ⟨cb,4,none⟩=some (.slice (some ⟨g,0,none⟩) t.nodes.length kc)∧W.cell? ⟨cb,1,none⟩=some (.pointer (some ⟨tb,tq,none⟩))∧W.cell? ⟨tb,tq,none⟩=some (.slice (some ⟨nb,no,none⟩) t.nodes.length nc)∧W.cell? ⟨nb,no+pm*4+2,none⟩=some (.int .i64 (t.at (pm:Int)).i)) (first|exact⟨x4,x1,x2,x3⟩|exact⟨z4,z1,z2,z3⟩) (fail);clear Qra Qrb Qsy Qsz x4 x1 x2 x3 y1 y2 z4 z1 z2 z3 q1 q2 q5 q0;have HE2:=Hh hE2;clear hE2;generalize hW5:(w4.setCell ⟨g,pm,none⟩ (.int .i64 (t.at (pm:Int)).i)).drew=w5 at HC5 HK5 z6 ⊢;clear hW5;go_wp2_with (at_builtin;refine J1 (Qv S w.heap.size) rfl _ _ 26 3 (.int .i64 0) 8 rfl underlying26 (by kernel_rfl) rfl lv1 (Q4 s0.locals) (.int .i64 (pm:Int)) rfl rfl (by simp) rfl (Qqn.o▸HC5.o.l) (HF.o.kept HK5.o) (by have:=Qs6.o;simp[Q4];omega) (by have:=Qs6.o;simp[Q4];omega) ?_;intro nv1 w6 Qmv hk2 hat;obtain⟨nA2,nc2,rfl⟩:=Qmv.len;rw[show (Q4 s0.locals++[Value.int .i64 (pm:Int)]).length=(Q4 s0.locals).length+1 from by simp] at Qmv hat;have hb6:=HC5.o.blk.kept hk2 (HC5.o.noCb.2.2.1);have c66:=hb6.cell 6 _ rfl;have f66:=hb6.free 6);go_roundw
    case rel =>
     have h7:=HC5.o.swapL (l1:=s0.locals++[(pm:Int)]) (by have:=Qmv;rwa [show Q4 s0.locals++[.int .i64 (pm:Int)]=Q4 (s0.locals++[(pm:Int)]) from by simp[Q4]] at this) hk2 (hat.elim .inl fun h=>.inr (.inr h));have hk7:=(HK5.o.trans (hk2.mono fun k _ hk=>HC5.o.l.2 k hk)).setCell (p:=⟨cb,6,none⟩) (Or.inl HC5.o.inS) (.slice nA2 ((Q4 s0.locals).length+1) nc2)
     have e9:(ps.take (j+1)).foldl (Jk t) s={s2.setKind (pm:Int) (t.at (pm:Int)).i with locals:=s0.locals++[(pm:Int)]}:=by
      rw[HST.o];unfold Jk CS.addLocal;rw[HE2.o,← Qqn.o];rfl
     exact⟨j+1,_,by omega,by go_num,Hh (by rw[e9];exact⟨h7,hk7⟩)⟩
    case measure=>simp[intOf];omega
  ·obtain rfl:j=ml:=by omega
   obtain⟨bm,Qt1,hbn⟩:=Q1.at_lt Qt0.o;obtain⟨bv0,bc,bst⟩:=HTN.o bm _ hbn;obtain⟨BA,Bb,Bo,Bc,rfl,BL,Blc,BA',Bcell⟩:=bst.ints;have Qz2:(bm:Int)<t.nodes.length:=by rw[← Qt1];exact Qt0.o.2
   have q0:=HC.o j b0 (by rw[HKD.o,HML.o];simp) wo HAT.o.2;rw[Qt1] at q0;have q1:wo.cell? ⟨cb,1,none⟩=some (.pointer (some ⟨tb,tq,none⟩)):=HAT.o.1.blk.cell 1 _ rfl;obtain⟨q2,q3,q4⟩:=HBK.o wo HAT.o.2;have q5:=(bc wo HAT.o.2).2.2.2;have Qq1:=Qp8.o j;have hpe:(ps.take j).foldl (Jk t) s=ps.foldl (Jk t) s:=by rw[HML.o,List.take_length]
   rw[hpe] at Qq1;have Qt2:=HAT.o;rw[hpe] at Qt2;have Qrg:=Hh Qq1;have Qt3:=Hh Qt2;clear HAT Qt2 Qq1 hpe hbn bc Qt1 Qt0;have HBC:=Hh Bcell;have HBA:=Hh BA';generalize ps.foldl (Jk t) s=s1 at HX Qt3 Qrg;generalize hBD:(t.at b0).kids=body at Qno Qot HX HBC HBA BL Blc q5 bst;clear Bcell BA' hBD;obtain⟨hch,Qo3⟩:=Qt3.o;have HCH:=Hh hch;have Quj:=Hh Qo3;clear hch Qo3 Qt3;go_upto_region 10 with fail
   go_quiet (fail);have Qrh:=Hh (HCH.o.drewN nq);have Qnp:=Hh (Quj.o.drewN nq);generalize hW5:wo.drewN nq=w5 at Qrh Qnp ⊢;clear hW5 q0 q1 q2 q3 q4 q5 HCH Quj Qra Qrb Qsy Qsz;go_upto_region 12 with fail
   have q1:w5.cell? ⟨cb,1,none⟩=some (.pointer (some ⟨tb,tq,none⟩)):=Qrh.o.blk.cell 1 _ rfl;have q2:=HTC.o w5 Qnp.o;have HBL:=Hh BL;have HFW:=Hh (bst.kept Qnp.o);clear bst;generalize hN:body.length=N at BL Blc HFW ⊢;have HN:=Hh hN;cases hE:Q31 t body with
   |false =>
    have HX2:=Hh (HX.o.trans (by rw[hE];rfl):X=(Qa W s1 body).fail 5 i);clear HX
    by_cases hb0':N=0
    ·have t1:decide ((0:Int)<(N:Int))=false:=Df (by omega)
     have t1':decide (0<N)=false:=Df (by omega);clear hb0' hE BL hN;go_quiet (fail);have Qpn:=Hh (Qrh.o.drewN nq);have Qn6:=Hh (Qnp.o.drewN nq);have Qri:=Hh (HFW.o.kept ((Kr _ _).drewN nq));generalize hW6:w5.drewN nq=w6 at Qpn Qn6 Qri ⊢;clear hW6;go_wp2_with (first|(go_at_call 93;refine (Xv hW hO Qpn.o (HR.o.kept Qn6.o) (HT.o.kept Qn6.o) Qrg.o (HF.o.kept Qn6.o) _ body Qri.o (fun k hk=>Qno.o k hk)).mono ?_;rintro e w8 ⟨rfl,⟨lv8,wv8,hc8⟩,hk8⟩)|(go_at_call 92;refine (Zd hc8 _ _).mono ?_;rintro e w9 ⟨rfl,Qrj⟩));go_returns;obtain rfl:=HX2.o;exact⟨rfl,⟨_,_,Qrj.1.mono fun k _ h=>h.1⟩,(((hKS.trans (Qn6.o.mono fun k _ h=>h.1)).trans (hk8.mono fun k _ h=>h.1)).trans (Qrj.2.mono fun k _ e=>e▸hc8.inS.1))⟩
    ·obtain⟨l,hl9⟩:∃l,body.getLast?=some l:=by
      cases hg:body.getLast? with
      |none=>rw[List.getLast?_eq_none_iff] at hg;subst hg;simp at hN;omega
      |some l=>exact⟨l,rfl⟩
     have Qqi:((t.at l).kind==26)=false:=by unfold Q31 at hE;rw[hl9] at hE;simpa using hE
     obtain⟨mb,hmb⟩:∃mb:Nat,N=mb+1:=⟨N-1,by omega⟩;have hlm:body[mb]?=some l:=by rw[List.getLast?_eq_getElem?] at hl9;rw[show mb=body.length-1 by omega];exact hl9
     have hli:=(Qno.o l (Mg hlm)).1;obtain⟨lm,rfl,hln⟩:=Q1.at_lt hli;have hll:(lm:Int)<t.nodes.length:=hli.2;obtain⟨lv0,lc0,_⟩:=HTN.o lm _ hln;have q7:=(lc0 w5 Qnp.o).1;obtain⟨rfl,_⟩:=HBA.o (by rw[hN];omega);have q8:=HBC.o mb _ hlm w5 Qnp.o;have Quk:IntKind.i64.wrap ((N:Int)-1)=(mb:Int):=by rw[IntKind.wrap_i64];omega
     have Qul:wrap64 ((N:Int)-1)=(mb:Int):=by unfold wrap64;omega
     have Qum:(mb:Int)<N:=by omega
     have t1:decide ((0:Int)<(N:Int))=true:=Dt (by omega);have t1':decide (0<N)=true:=Dt (by omega);clear hb0' hE hl9 hmb hlm hli hln lc0 BL hN;go_quiet (fail);have Qpn:=Hh (Qrh.o.drewN nq);have Qn6:=Hh (Qnp.o.drewN nq);have Qri:=Hh (HFW.o.kept ((Kr _ _).drewN nq));generalize hW6:w5.drewN nq=w6 at Qpn Qn6 Qri ⊢;clear hW6;go_wp2_with (first|(go_at_call 93;refine (Xv hW hO Qpn.o (HR.o.kept Qn6.o) (HT.o.kept Qn6.o) Qrg.o (HF.o.kept Qn6.o) _ body Qri.o (fun k hk=>Qno.o k hk)).mono ?_;rintro e w8 ⟨rfl,⟨lv8,wv8,hc8⟩,hk8⟩)|(go_at_call 92;refine (Zd hc8 _ _).mono ?_;rintro e w9 ⟨rfl,Qrj⟩));go_returns;obtain rfl:=HX2.o;exact⟨rfl,⟨_,_,Qrj.1.mono fun k _ h=>h.1⟩,(((hKS.trans (Qn6.o.mono fun k _ h=>h.1)).trans (hk8.mono fun k _ h=>h.1)).trans (Qrj.2.mono fun k _ e=>e▸hc8.inS.1))⟩
   |true =>
    obtain⟨l,hl9⟩:∃l,body.getLast?=some l:=by
     cases hg:body.getLast? with
     |none=>unfold Q31 at hE;rw[hg] at hE;cases hE
     |some l=>exact⟨l,rfl⟩
    have Qq2:(t.at l).kind=26:=by unfold Q31 at hE;rw[hl9] at hE;simpa using hE
    have Qqi:((t.at l).kind==26)=true:=by simpa using Qq2
    obtain⟨e0,es,hek,hei,heb⟩:=Qot.o l hl9 Qq2
    have hX2:X=Qq (Qa W (Qa W s1 body.dropLast) [e0]) e0 n.i i:=by
     rw[HX.o,Ps hE,hl9]
     show Qq (Qa W (Qa W s1 body.dropLast) [kidAt (t.at l) 0]) (kidAt (t.at l) 0) n.i i=_
     have:kidAt (t.at l) 0=e0:=by simp[kidAt,hek]
     rw[this]
    have hNp:0<N:=by
     rw[← hN];cases body with
     |nil=>simp at hl9
     |cons _ _=>simp
    obtain⟨mb,hmb⟩:∃mb:Nat,N=mb+1:=⟨N-1,by omega⟩;have hlm:body[mb]?=some l:=by rw[List.getLast?_eq_getElem?] at hl9;rw[show mb=body.length-1 by omega];exact hl9
    have Qun:body.dropLast=body.take mb:=by rw[List.dropLast_eq_take];congr 1;omega
    rw[Qun] at hX2;have HX2:=Hh hX2;have hli:=(Qno.o l (Mg hlm)).1;obtain⟨lm,rfl,hln⟩:=Q1.at_lt hli;have hll:(lm:Int)<t.nodes.length:=hli.2;obtain⟨lv0,lc0,lst⟩:=HTN.o lm _ hln;obtain⟨LA,Lb,Lo,Lc,rfl,LL,Llc,LA',Lcell⟩:=lst.ints;have hlp:0<(t.at (lm:Int)).kids.length:=by rw[hek];simp
    obtain⟨rfl,_⟩:=LA' hlp;have q7:=(lc0 w5 Qnp.o).1;obtain⟨rfl,_⟩:=HBA.o (by rw[hN];omega);have q8:=HBC.o mb _ hlm w5 Qnp.o
    have HFA:Hi (∀W,Q0 (Qv S w.heap.size) W0 W→W.cell? ⟨tb,tq,none⟩=some (.slice (some ⟨nb,no,none⟩) t.nodes.length nc)∧W.cell? ⟨Bb,Bo+mb,none⟩=some (.int .i64 (lm:Int))∧W.cell? ⟨nb,no+lm*4+3,none⟩=some (.slice (some ⟨Lb,Lo,none⟩) (t.at (lm:Int)).kids.length Lc)∧W.cell? ⟨Lb,Lo,none⟩=some (.int .i64 e0)∧W.cell? ⟨w.heap.size,2,none⟩=some (.int .i64 n.i)) :=
     Hh (fun W hk=>⟨HTC.o W hk,HBC.o mb _ hlm W hk,(lc0 W hk).2.2.2,by have:=Lcell 0 e0 (by rw[hek];rfl) W hk;simpa using this,(HBK.o W hk).2.1⟩)
    have Quk:IntKind.i64.wrap ((N:Int)-1)=(mb:Int):=by rw[IntKind.wrap_i64];omega
    have Qul:wrap64 ((N:Int)-1)=(mb:Int):=by unfold wrap64;omega
    have Qum:(mb:Int)<N:=by omega
    have Qz3:(mb:Int)≤Bc:=by omega
    have t1:decide ((0:Int)<(N:Int))=true:=Dt (by omega);have t1':decide (0<N)=true:=Dt (by omega);have HSL:Hi (Qm (Qv S w.heap.size) W0 fun w=>Qi w (.slice (some ⟨Bb,Bo,none⟩) mb Bc) (body.take mb)):=Hh (Qm.take HBC.o (by rw[hN];omega) (by rw[hN];omega) rfl (by omega));have HEI:=Hh (And.intro hei heb);have Qt4:=Hh (Qe.kids hO (body.take mb) (fun k hk=>(Qno.o k (List.mem_of_mem_take hk)).1) Qrg.o);clear hE hl9 Qq2 hek hei heb hX2 hNp hmb hlm Qun hli hln lc0 lst LL LA' Lcell BL hN HX;go_quiet (fail);have Qpn:=Hh (Qrh.o.drewN nq);have Qn6:=Hh (Qnp.o.drewN nq);generalize hW6:w5.drewN nq=w6 at Qpn Qn6 ⊢;clear hW6 q7 q8 q1 q2;go_upto_region 18 with (go_at_call 93;refine (Xv hW hO Qpn.o (HR.o.kept Qn6.o) (HT.o.kept Qn6.o) Qrg.o (HF.o.kept Qn6.o) _ (body.take mb) (HSL.o.kept Qn6.o) (fun k hk=>Qno.o k (List.mem_of_mem_take hk))).mono ?_;rintro e w8 ⟨rfl,⟨lv8,wv8,hc8⟩,hk8⟩)
    have q1:w8.cell? ⟨cb,1,none⟩=some (.pointer (some ⟨tb,tq,none⟩)):=hc8.blk.cell 1 _ rfl;obtain⟨q2,q3,q4,q5,_⟩:=HFA.o w8 (Qn6.o.trans hk8);go_quiet (fail);generalize hS8:Qa W s1 (body.take mb)=s8 at HX2 Qt4 hc8;have HC9:=Hh (hc8.drewN nq);have HK9:=Hh ((Qn6.o.trans hk8).drewN nq);generalize hW9:w8.drewN nq=w9 at HC9 HK9 ⊢;clear hW9 q1 q2 q3 q4 q5 hc8 hk8 hS8 Quk Qul;have hka:Q0 nob w9 (w9.alloc (.cells #[.int .i64 e0] 3)):=(Kr _ _).alloc _;have hba:=Blk.new w9 [.int .i64 e0] 3;have Qpo:(w9.alloc (.cells #[.int .i64 e0] 3)).heap.size=w9.heap.size+1:=by simp
    generalize hWa:w9.alloc (.cells #[.int .i64 e0] 3)=wa at hka Qpo;replace hba:Blk wa w9.heap.size [.int .i64 e0] 3:=hWa▸hba;have hCa:J0 (Qv (Qv S w.heap.size) w9.heap.size) wa cb ⟨rb,ro,none⟩ ⟨tb,tq,none⟩ s8 (.slice (some ⟨g,0,none⟩) t.nodes.length kc) bv lv8 tv wv8:=(HC9.o.mono fun k hk hS=>⟨hS,by omega⟩).nobk hka;have hFa:Jl (Qv (Qv S w.heap.size) w9.heap.size) wa:=fun k hk=>⟨HF.o.kept HK9.o k (by omega),by omega⟩
    have hKa:Q0 (Qv S w.heap.size) W0 wa:=HK9.o.trans (hka.ofNob _);have hra:=(HR.o.kept hKa).mono (S':=Qv (Qv S w.heap.size) w9.heap.size) (fun k _ h=>h.1);have hta:=(HT.o.kept hKa).mono (S':=Qv (Qv S w.heap.size) w9.heap.size) (fun k _ h=>h.1)
    have hva:Qm (Qv (Qv S w.heap.size) w9.heap.size) wa fun w=>Qi w (.slice (some ⟨w9.heap.size,0,none⟩) 1 1) [e0]:=by
     refine Qm.mkInts rfl (by simp) (by simp) (fun j x hj W hk=>?_)
     cases j with
     |zero=>simp at hj;subst hj;exact hk.cell (fun h=>h.2 rfl) (hba.cell 0 _ rfl)
     |succ j=>simp at hj
    have HCa:=Hh hCa;have HFa:=Hh hFa;have HKa:=Hh hKa;have HRa:=Hh hra;have HTa:=Hh hta;have HVa:=Hh hva;have Qwx:=Hh (Qe.kids hO [e0] (fun k hk=>by simp at hk;subst hk;exact HEI.o.1) Qt4.o);have Quo:Hi (0≤e0∧e0<((Qa W s8 [e0]).kinds.length:Int)):=Hh ⟨HEI.o.1.1,by rw[Qwx.o.kinds];exact HEI.o.1.2⟩;clear hka hba Qpo hCa hFa hKa hra hta hva;go_wp2_with (first|(go_at_call 93;refine (Xv hW hO HCa.o HRa.o HTa.o Qt4.o HFa.o _ [e0] HVa.o (fun k hk=>by simp at hk;subst hk;exact HEI.o)).mono ?_;rintro e w11 ⟨rfl,⟨lv11,wv11,Qup⟩,Qwy⟩;have Quq:=Hh (HKa.o.trans (Qwy.mono fun k _ h=>h.1));have q6:=(HFA.o w11 Quq.o).2.2.2.2)|(go_at_call 197;refine (Xq Qup _ _ _ Quo.o.1 Quo.o.2).mono ?_;rintro e w12 ⟨rfl,Qrk⟩));go_returns;obtain rfl:=HX2.o;exact⟨rfl,⟨_,_,Qrk.1.mono fun k _ h=>h.1.1⟩,(hKS.trans (Quq.o.mono fun k _ h=>h.1)).trans (Qrk.2.mono fun k _ e=>e▸Qup.inS.1.1)⟩
end
end Go.Proofs.YtkgkafjachjafaaGreat
