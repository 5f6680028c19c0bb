/- Part 41 of: FnExactPrune answers true; no condition. -/
import Derived.Laws.OwnMore
import Derived.Test.YtkgkafjachjafaaGreatZ16
import Derived.Test.YtkgkafjachjafaaGreatZ33
set_option linter.unusedVariables false
set_option maxHeartbeats 2000000
set_option maxRecDepth 100000
open Go Go.RowKit
namespace Go.Proofs.YtkgkafjachjafaaGreat
open Tryz
theorem Qhx (N:Nat):madeCells #[.int .i64 0] N=(Q4 (List.replicate N 0)).toArray:=by
 apply Array.toList_inj.1;rw[toList_madeCells_one];simp[Q4]
theorem Qac (N:Nat) (hN:N≤4000) (w:World):(Instr.makeSlice 26 (.int .i64 (N:Int)) (.int .i64 (N:Int))).run prog w=.ok (.slice (some ⟨w.heap.size,0,none⟩) N N) (w.alloc (.cells (Q4 (List.replicate N 0)).toArray 3 (0,0))):=by
 have hi:(prog.info? 3).map (fun i=>(i.zero,i.size,i.bytes))=some (some (.int .i64 0),1,8):=by kernel_rfl
 obtain⟨i0,hi0,hzz⟩:=Option.map_eq_some_iff.1 hi;simp only[Prod.mk.injEq] at hzz;obtain⟨hz0,hz1,hz2⟩:=hzz;have h:=run_make (P:=prog) w 26 3 i0 (.int .i64 0) underlying26 hi0 hz0 .i64 .i64 (N:Int) (N:Int) (by omega) (by omega) (by rw[hz2];omega) (by omega);rw[h,hz1];simp only[Int.toNat_natCast,Nat.mul_one];rw[show Value.cells (.int .i64 0)=#[.int .i64 0] from rfl,Qhx]
theorem Qa2 (t:Q1) (w:World) (ra ta:Addr) (hN:t.nodes.length≤4000) (a b:Nat) (hab:(a=w.heap.size∧b=w.heap.size+1)∨(a=w.heap.size+1∧b=w.heap.size)) :
  J0 (Q7 w.heap.size) (((w.alloc (.cells (Q4 (List.replicate t.nodes.length 0)).toArray 3)).alloc (.cells (Q4 (List.replicate t.nodes.length 0)).toArray 3)).alloc
   (.cells #[.pointer (some ra),.pointer (some ta),.int .i64 0,.int .i64 (-1),.slice (some ⟨a,0,none⟩) t.nodes.length t.nodes.length,.slice (some ⟨b,0,none⟩) t.nodes.length t.nodes.length,.slice none 0 0,.slice none 0 0,.int .i64 0,.slice none 0 0,.bool false,.bool false] 94)).drew
   (w.heap.size+1+1) ra ta (Z7 t) (.slice (some ⟨a,0,none⟩) t.nodes.length t.nodes.length) (.slice (some ⟨b,0,none⟩) t.nodes.length t.nodes.length) (.slice none 0 0) (.slice none 0 0) (.slice none 0 0):=by
 have hl:(Q4 (List.replicate t.nodes.length 0)).length=t.nodes.length:=by simp[Q4]
 have h1:∀w0:World,w.heap.size≤w0.heap.size→Qf (Q7 w.heap.size) 3 (w0.alloc (.cells (Q4 (List.replicate t.nodes.length 0)).toArray 3)) (.slice (some ⟨w0.heap.size,0,none⟩) t.nodes.length t.nodes.length) (Q4 (List.replicate t.nodes.length 0)) :=
  fun w0 h0=>Qf.lit _ _ _ _ h0 (by rw[hl];omega) rfl hl.symm hl.symm
 have e1:(w.alloc (.cells (Q4 (List.replicate t.nodes.length 0)).toArray 3)).heap.size=w.heap.size+1:=by simp
 have hA:=(((h1 w (Nat.le_refl _)).alloc (.cells (Q4 (List.replicate t.nodes.length 0)).toArray 3)).alloc (.cells #[.pointer (some ra),.pointer (some ta),.int .i64 0,.int .i64 (-1),.slice (some ⟨a,0,none⟩) t.nodes.length t.nodes.length,.slice (some ⟨b,0,none⟩) t.nodes.length t.nodes.length,.slice none 0 0,.slice none 0 0,.int .i64 0,.slice none 0 0,.bool false,.bool false] 94)).drew;have hB:=((h1 (w.alloc (.cells (Q4 (List.replicate t.nodes.length 0)).toArray 3)) (by rw[e1];omega)).alloc (.cells #[.pointer (some ra),.pointer (some ta),.int .i64 0,.int .i64 (-1),.slice (some ⟨a,0,none⟩) t.nodes.length t.nodes.length,.slice (some ⟨b,0,none⟩) t.nodes.length t.nodes.length,.slice none 0 0,.slice none 0 0,.int .i64 0,.slice none 0 0,.bool false,.bool false] 94)).drew;rw[e1] at hB
 have Qur:Blk (((w.alloc (.cells (Q4 (List.replicate t.nodes.length 0)).toArray 3)).alloc (.cells (Q4 (List.replicate t.nodes.length 0)).toArray 3)).alloc
   (.cells #[.pointer (some ra),.pointer (some ta),.int .i64 0,.int .i64 (-1),.slice (some ⟨a,0,none⟩) t.nodes.length t.nodes.length,.slice (some ⟨b,0,none⟩) t.nodes.length t.nodes.length,.slice none 0 0,.slice none 0 0,.int .i64 0,.slice none 0 0,.bool false,.bool false] 94)).drew
   (w.heap.size+1+1) (Qbk ra ta (Z7 t) (.slice (some ⟨a,0,none⟩) t.nodes.length t.nodes.length) (.slice (some ⟨b,0,none⟩) t.nodes.length t.nodes.length) (.slice none 0 0) (.slice none 0 0) (.slice none 0 0)) 94:=(Blk.new_of _ _ _ (by simp)).drew
 have Qus:[some (w.heap.size+1+1),some a,some b,none,none,none].Pairwise sep:=by
  simp only[List.pairwise_cons,List.mem_cons,List.not_mem_nil,or_false,forall_eq_or_imp,forall_eq];have sn:∀x:Option Nat,sep x none:=fun x k _ h=>by cases h
  have ss:∀x y:Nat,x≠y→sep (some x) (some y):=fun x y hxy k h1 h2=>by cases h1;cases h2;exact hxy rfl
  exact⟨⟨ss _ _ (by omega),ss _ _ (by omega),sn _,sn _,sn _⟩,⟨ss _ _ (by omega),sn _,sn _,sn _⟩,⟨sn _,sn _,sn _⟩,⟨sn _,sn _⟩,sn _,fun _ h=>h.elim,List.Pairwise.nil⟩
 rcases hab with ⟨rfl,rfl⟩|⟨rfl,rfl⟩
 ·exact⟨Qur,by show w.heap.size≤_;omega,hA,hB,Qf.nil _ _ _,Qf.nil _ _ _,Qf.nil _ _ _,Qus⟩
 ·exact⟨Qur,by show w.heap.size≤_;omega,hB,hA,Qf.nil _ _ _,Qf.nil _ _ _,Qf.nil _ _ _,Qus⟩
section
variable {r:Reg} {t:Q1} {w:World} {rb ro tb tq:Nat}
theorem Qf4 (hn:Qt t=true) (hK:Qj t) (hSm:Jz t) (hsz:t.nodes.length≤4000) (htk:∀i∈t.tops,InT t i∧33≤(t.at i).kind) (htl:t.tops.length≤4000) (hr:Xy w rb ro r) (ht:J7 w tb tq t) :
  Calls prog 54 #[.pointer (some ⟨rb,ro,none⟩),.pointer (some ⟨tb,tq,none⟩)] w fun e w'=>∃cb kv bv lv tv wv,e=.returned (.pointer (some ⟨cb,0,none⟩)) ∧
   J0 (Q7 w.heap.size) w' cb ⟨rb,ro,none⟩ ⟨tb,tq,none⟩ (Q0b r t) kv bv lv tv wv∧Q0 nob w w':=by
 have hst:∀w',Q0 (Q7 w.heap.size) w w'→Zu w w':=fun w' hk=>hk.oldS (fun k hk=>by show ¬ w.heap.size≤k;omega)
 have hR:Qm (Q7 w.heap.size) w fun w=>Xy w rb ro r:=fun w' hk=>hr.old (hst w' hk)
 have hT:Qm (Q7 w.heap.size) w fun w=>J7 w tb tq t:=fun w' hk=>ht.old (hst w' hk)
 obtain⟨tA,nb,no,nc,tc,tl,tlc,tS,tA',⟨v1,tv1,tst⟩,tn⟩:=hT.tree;have c0:=tc w (Kr _ _);have hmk:=Qac t.nodes.length hsz;have c0':(w.alloc (.cells (Q4 (List.replicate t.nodes.length 0)).toArray 3)).cell? ⟨tb,tq,none⟩=some (.slice tA t.nodes.length nc):=((Kr nob w).alloc (.cells (Q4 (List.replicate t.nodes.length 0)).toArray 3)).cell (fun h=>h) c0;go_enter func54,ntmps54;go_upto_region 1 with fail
 go_cut [5] (fun s5 wx=>∃cb kv bv,s5=.pointer (some ⟨cb,0,none⟩)∧J0 (Q7 w.heap.size) wx cb ⟨rb,ro,none⟩ ⟨tb,tq,none⟩ (Z7 t) kv bv (.slice none 0 0) (.slice none 0 0) (.slice none 0 0)∧Q0 nob w wx)
 case first =>
  go_region
  all_goals go_wp2_with fail
  all_goals go_meet
  ·exact⟨_,_,_,rfl,Qa2 t w _ _ hsz _ _ (.inl ⟨rfl,rfl⟩),((((Kr _ _).alloc _).alloc _).alloc _).drew⟩
  ·exact⟨_,_,_,rfl,Qa2 t w _ _ hsz _ _ (.inr ⟨rfl,rfl⟩),((((Kr _ _).alloc _).alloc _).alloc _).drew⟩
 case rest =>
  obtain⟨cb,kv,bv,rfl,hch,hkc⟩:=hcut;obtain⟨W0,rfl⟩:∃W0,W0=wc:=⟨_,rfl⟩;have hk0:Q0 (Q7 w.heap.size) w W0:=hkc.ofNob _;obtain⟨vA,vb,vo,vc,rfl,vl,vlc,vA',vcell⟩:=tst.ints;have x1:=tv1 W0 hk0;have HCH:=Hh hch;have HK0:=Hh hk0;have HTC:=Hh tc;have HTN:=Hh tn;have HTA:=Hh tA';have HVC:=Hh vcell;have HVA:=Hh vA';have HR:=Hh hR;have HT:=Hh hT;have HTK:=Hh htk;have HTL:=Hh htl;have hF:Jl (Q7 w.heap.size) w:=fun k hk=>hk
  have HF:=Hh hF;have HW:=Hh (Qid hn hK hSm hsz t.nodes.length (r:=r));have hO:Y5 t (Q8 r t t.nodes.length):=fun s k h hk=>Qe.walk hK hSm r _ s k h hk
  have Qp8:Hi (∀j,j<t.tops.length→Qe t ((t.tops.take j).foldl (Yh r t) (Z7 t))):=Hh (by
   intro j hj
   have Qn9:0<t.nodes.length:=by
    obtain⟨x,hx⟩:=Q3 hj;have:=(htk x (Mg hx)).1;have h1:=this.1;have h2:=this.2;omega
   have hok:Qe t (Z7 t):=⟨by simp[Z7],by simp[Z7],by simp[Z7],by simp[Z7],⟨by simp[Z7],by simp[Z7];omega⟩,by simp[Z7,Qb],by simp[Z7]⟩
   have:∀(l:List Int) (s:CS),(∀k∈l,InT t k)→Qe t s→Qe t (l.foldl (Yh r t) s):=by
    intro l
    induction l with
    |nil=>intro s _ h;exact h
    |cons k ks ih=>intro s hl h;exact ih _ (fun x hx=>hl x (by simp[hx])) (Qe.topStep hK hSm r h (hl k (by simp)))
   exact this _ _ (fun k hk=>(htk k (List.mem_of_mem_take hk)).1) hok)
  clear hch hk0 hkc tc tn tA' vcell vA' hR hT htk htl hF tst tv1 hst hmk c0' c0 hr ht hn hK hSm hsz;go_wp2_with fail;go_loopw [7,29] (fun u7 ci wr=>∃(j:Nat) (lv tv wv:Value),j≤t.tops.length∧ci=.int .i64 j∧Hi (J0 (Q7 w.heap.size) wr cb ⟨rb,ro,none⟩ ⟨tb,tq,none⟩ ((t.tops.take j).foldl (Yh r t) (Z7 t)) kv bv lv tv wv∧Q0 (Q7 w.heap.size) w wr∧((t.tops.take j).foldl (Yh r t) (Z7 t)).tops.length≤j)) (fun _ ci _=>t.tops.length-(intOf ci).toNat)
  case atStart=>exact⟨0,_,_,_,Nat.zero_le _,rfl,Hh ⟨HCH.o,HK0.o,by simp[Z7]⟩⟩
  case round =>
   obtain⟨j,lv,tv,wv,hj,rfl,HAT⟩:=hrel;obtain⟨wo,rfl⟩:∃wo:World,wo=wr:=⟨_,rfl⟩
   by_cases hlt:j<t.tops.length
   ·obtain⟨i,hx⟩:=Q3 hlt
    obtain⟨rfl,_⟩:=HVA.o (by omega);have q0:=HVC.o j i hx wo HAT.o.2.1;have hii:=(HTK.o i (Mg hx)).1;obtain⟨m,rfl,hmn⟩:=Q1.at_lt hii;have hml:(m:Int)<t.nodes.length:=hii.2;obtain⟨rfl,_⟩:=HTA.o (by omega);have q1:=HTC.o wo HAT.o.2.1;obtain⟨pv,pc,_⟩:=HTN.o m _ hmn;have q2:=(pc wo HAT.o.2.1).2.1;have HST:Hi ((t.tops.take (j+1)).foldl (Yh r t) (Z7 t)=Yh r t ((t.tops.take j).foldl (Yh r t) (Z7 t)) (m:Int)):=Hh (by rw[Jy hx,List.foldl_append];rfl);have Qoi:=Qp8.o j hlt;have HII:=Hh hii;generalize (t.tops.take j).foldl (Yh r t) (Z7 t)=s0 at HAT HST Qoi;have Qp3:=Hh Qoi;clear hx hii hmn pc Qoi
    by_cases hn:0≤Q2 t s0.tops (t.at (m:Int)).text
    ·have t1:decide (0≤Q2 t s0.tops (t.at (m:Int)).text)=true:=by simpa using hn
     have hTF:Yh r t s0 (m:Int)={Qa (Q8 r t t.nodes.length) {s0.fail 2 (m:Int) with top:=(m:Int),locals:=[]} [(m:Int)] with tops:=(Qa (Q8 r t t.nodes.length) {s0.fail 2 (m:Int) with top:=(m:Int),locals:=[]} [(m:Int)]).tops++[(m:Int)]}:=by
      unfold Yh;dsimp only;rw[Ps hn]
     have Qn7:=Hh (Qp3.o.fail 2 (m:Int));have HT1:Hi ((s0.fail 2 (m:Int)).tops.length≤j):=Hh (by have:=HAT.o.2.2;unfold CS.fail;split<;>exact this);have HTF:=Hh hTF;clear hn hTF;go_upto_region 7 with (first|(go_at_call 91;refine (Q3e HAT.o.1 t (HT.o.kept HAT.o.2.1).now Qp3.o.tops _).mono ?_;rintro e w1 ⟨rfl,rfl⟩)|(go_at_call 92;refine (Zd HAT.o.1 _ _).mono ?_;rintro e w4 ⟨rfl,hat⟩;have HC4:=Hh hat.1;have HK4:=Hh (HAT.o.2.1.trans (hat.2.mono fun k _ e=>e▸hat.1.inS));clear hat))
     generalize hS1:s0.fail 2 (m:Int)=s1 at Qn7 HT1 HTF HC4;clear hS1;have f84:=HC4.o.blk.free 8;have f64:=HC4.o.blk.free 6;have c84:=HC4.o.blk.cell 8 _ rfl;have c64:=HC4.o.blk.cell 6 _ rfl;have h5:=(HC4.o.setTop (m:Int)).swapL (l1:=[]) (u:=.slice none 0 0) (Qf.nil _ _ _) (Kr _ _) (.inr (.inl rfl));have hk5:=(HK4.o.setCell (p:=⟨cb,8,none⟩) (Or.inl HC4.o.inS) (.int .i64 (m:Int))).setCell (p:=⟨cb,6,none⟩) (Or.inl HC4.o.inS) (.slice none 0 0);have Qq4:Qe t {s1 with top:=(m:Int),locals:=[]}:=⟨Qn7.o.kinds,Qn7.o.bind,by simp,Qn7.o.tops,HII.o,by simp[Qb],Qn7.o.withs⟩;obtain⟨tA1,tc1,Qrl⟩:=HC4.o.t.lenI;generalize hS5:({s1 with top:=(m:Int),locals:=[]}:CS)=s5 at HTF Qq4;have Qrm:s5.tops.length=s1.tops.length:=by rw[← hS5]
     have h5':J0 (Q7 w.heap.size) ((w4.setCell ⟨cb,8,none⟩ (.int .i64 (m:Int))).setCell ⟨cb,6,none⟩ (.slice none 0 0)) cb ⟨rb,ro,none⟩ ⟨tb,tq,none⟩ s5 kv bv (.slice none 0 0) tv wv:=hS5▸h5;have HC5:=Hh h5';have HK5:=Hh hk5;have Qq0:=Hh Qq4;clear h5 h5' hk5 Qq4;go_upto_region 9 with fail
     generalize hW5:(w4.setCell ⟨cb,8,none⟩ (.int .i64 (m:Int))).setCell ⟨cb,6,none⟩ (.slice none 0 0)=w5 at HC5 HK5 ⊢;clear hW5 f84 f64 c84 c64;have hka:Q0 nob w5 (w5.alloc (.cells #[.int .i64 (m:Int)] 3)):=(Kr _ _).alloc _;have hba:=Blk.new w5 [.int .i64 (m:Int)] 3;have Qpo:(w5.alloc (.cells #[.int .i64 (m:Int)] 3)).heap.size=w5.heap.size+1:=by simp
     generalize hWa:w5.alloc (.cells #[.int .i64 (m:Int)] 3)=wa at hka Qpo;replace hba:Blk wa w5.heap.size [.int .i64 (m:Int)] 3:=hWa▸hba;have hCa:J0 (Qv (Q7 w.heap.size) w5.heap.size) wa cb ⟨rb,ro,none⟩ ⟨tb,tq,none⟩ s5 kv bv (.slice none 0 0) tv wv:=(HC5.o.mono fun k hk hS=>⟨hS,by omega⟩).nobk hka;have hFa:Jl (Qv (Q7 w.heap.size) w5.heap.size) wa:=fun k hk=>⟨HF.o.kept HK5.o k (by omega),by omega⟩
     have hKa:Q0 (Q7 w.heap.size) w wa:=HK5.o.trans (hka.ofNob _);have hra:=(HR.o.kept hKa).mono (S':=Qv (Q7 w.heap.size) w5.heap.size) (fun k _ h=>h.1);have hta:=(HT.o.kept hKa).mono (S':=Qv (Q7 w.heap.size) w5.heap.size) (fun k _ h=>h.1)
     have hva:Qm (Qv (Q7 w.heap.size) w5.heap.size) wa fun w=>Qi w (.slice (some ⟨w5.heap.size,0,none⟩) 1 1) [(m:Int)]:=by
      refine Qm.mkInts rfl (by simp) (by simp) (fun j x hj W hk=>?_)
      cases j with
      |zero=>simp at hj;subst hj;exact hk.cell (fun h=>h.2 rfl) (hba.cell 0 _ rfl)
      |succ j=>simp at hj
     have HCa:=Hh hCa;have HFa:=Hh hFa;have HKa:=Hh hKa;have HRa:=Hh hra;have HTa:=Hh hta;have HVa:=Hh hva;have Qt6:=Hh Qrl;have Qx0:=Hh Qrm;clear hka hba Qpo hCa hFa hKa hra hta hva hS5 Qrl Qrm;go_upto_region 10 with (go_at_call 93;refine (Xv HW.o hO HCa.o HRa.o HTa.o Qq0.o HFa.o _ [(m:Int)] HVa.o (fun k hk=>by simp at hk;subst hk;exact⟨HII.o,HII.o.2⟩)).mono ?_;rintro e w8 ⟨rfl,⟨lv8,wv8,hc8⟩,hk8⟩)
     have hC8:=hc8.mono (S':=Q7 w.heap.size) (fun k _ h=>h.1);have hK8:=HKa.o.trans (hk8.mono (S':=Q7 w.heap.size) fun k _ h=>h.1);obtain⟨tA8,tc8,Qrn⟩:=hC8.t.lenI
     have Qo9:(Qa (Q8 r t t.nodes.length) s5 [(m:Int)]).tops.length≤j:=by
      have e1:=Qt6.o;rw[Qrn] at e1;injection e1 with _ e2 _
      rw[e2];exact HT1.o
     clear Qrn;generalize hS8:Qa (Q8 r t t.nodes.length) s5 [(m:Int)]=s8 at HTF hC8 Qo9;have c78:w8.cell? ⟨cb,7,none⟩=some tv:=hC8.blk.cell 7 _ rfl;have HC8:=Hh hC8;have HK8:=Hh hK8;have Qoa:=Hh Qo9;clear hc8 hk8 hC8 hK8 Qo9 hS8;go_wp2_with (at_builtin;refine J1 (Q7 w.heap.size) rfl _ _ 26 3 (.int .i64 0) 8 rfl underlying26 (by kernel_rfl) rfl tv (Q4 s8.tops) (.int .i64 (m:Int)) rfl rfl (by simp) rfl HC8.o.t (HF.o.kept HK8.o) (by have:=Qoa.o;have:=HTL.o;simp[Q4];omega) (by have:=Qoa.o;have:=HTL.o;simp[Q4];omega) ?_;intro nv1 w9 Qmv hk2 hat;obtain⟨nA2,nc2,rfl⟩:=Qmv.len;rw[show (Q4 s8.tops++[Value.int .i64 (m:Int)]).length=(Q4 s8.tops).length+1 from by simp] at Qmv hat;have hb9:=HC8.o.blk.kept hk2 (HC8.o.noCb.2.2.2.1);have c79:=hb9.cell 7 _ rfl;have f79:=hb9.free 7);go_roundw
     case rel =>
      have h10:=HC8.o.swapT (l1:=s8.tops++[(m:Int)]) (by have:=Qmv;rwa [show Q4 s8.tops++[.int .i64 (m:Int)]=Q4 (s8.tops++[(m:Int)]) from by simp[Q4]] at this) hk2 (hat.elim .inl fun h=>.inr (.inr h));have Qq5:=(HK8.o.trans (hk2.mono fun k _ hk=>HC8.o.t.2 k hk)).setCell (p:=⟨cb,7,none⟩) (Or.inl HC8.o.inS) (.slice nA2 ((Q4 s8.tops).length+1) nc2);have e9:Yh r t s0 (m:Int)={s8 with tops:=s8.tops++[(m:Int)]}:=HTF.o;have Qmr:({s8 with tops:=s8.tops++[(m:Int)]}:CS).tops.length≤j+1:=by show (s8.tops++[(m:Int)]).length≤_;have:=Qoa.o;simp;omega
      rw[← e9,← HST.o] at h10 Qmr;exact⟨j+1,_,_,_,by omega,by go_num,Hh ⟨h10,Qq5,Qmr⟩⟩
     case measure=>simp[intOf];omega
    ·have t1:decide (0≤Q2 t s0.tops (t.at (m:Int)).text)=false:=by simpa using hn
     have hTF:Yh r t s0 (m:Int)={Qa (Q8 r t t.nodes.length) {s0 with top:=(m:Int),locals:=[]} [(m:Int)] with tops:=(Qa (Q8 r t t.nodes.length) {s0 with top:=(m:Int),locals:=[]} [(m:Int)]).tops++[(m:Int)]}:=by
      unfold Yh;dsimp only;rw[Ng hn]
     obtain⟨s1,hs1⟩:∃s1,s1=s0:=⟨_,rfl⟩;have Qn7:Hi (Qe t s1):=Hh (hs1▸Qp3.o);have HT1:Hi (s1.tops.length≤j):=Hh (hs1▸HAT.o.2.2);have HTF:Hi (Yh r t s0 (m:Int)={Qa (Q8 r t t.nodes.length) {s1 with top:=(m:Int),locals:=[]} [(m:Int)] with tops:=(Qa (Q8 r t t.nodes.length) {s1 with top:=(m:Int),locals:=[]} [(m:Int)]).tops++[(m:Int)]}):=Hh (hs1▸hTF);obtain⟨w4,hw4⟩:∃w4,w4=wo:=⟨_,rfl⟩;have HC4:Hi (J0 (Q7 w.heap.size) w4 cb ⟨rb,ro,none⟩ ⟨tb,tq,none⟩ s1 kv bv lv tv wv):=Hh (hw4▸hs1▸HAT.o.1);have HK4:Hi (Q0 (Q7 w.heap.size) w w4):=Hh (hw4▸HAT.o.2.1);clear hn hTF hs1;subst hw4;go_upto_region 7 with (first|(go_at_call 91;refine (Q3e HAT.o.1 t (HT.o.kept HAT.o.2.1).now Qp3.o.tops _).mono ?_;rintro e w1 ⟨rfl,rfl⟩))
     have f84:=HC4.o.blk.free 8;have f64:=HC4.o.blk.free 6;have c84:=HC4.o.blk.cell 8 _ rfl;have c64:=HC4.o.blk.cell 6 _ rfl;have h5:=(HC4.o.setTop (m:Int)).swapL (l1:=[]) (u:=.slice none 0 0) (Qf.nil _ _ _) (Kr _ _) (.inr (.inl rfl));have hk5:=(HK4.o.setCell (p:=⟨cb,8,none⟩) (Or.inl HC4.o.inS) (.int .i64 (m:Int))).setCell (p:=⟨cb,6,none⟩) (Or.inl HC4.o.inS) (.slice none 0 0);have Qq4:Qe t {s1 with top:=(m:Int),locals:=[]}:=⟨Qn7.o.kinds,Qn7.o.bind,by simp,Qn7.o.tops,HII.o,by simp[Qb],Qn7.o.withs⟩;obtain⟨tA1,tc1,Qrl⟩:=HC4.o.t.lenI;generalize hS5:({s1 with top:=(m:Int),locals:=[]}:CS)=s5 at HTF Qq4;have Qrm:s5.tops.length=s1.tops.length:=by rw[← hS5]
     have h5':J0 (Q7 w.heap.size) ((w4.setCell ⟨cb,8,none⟩ (.int .i64 (m:Int))).setCell ⟨cb,6,none⟩ (.slice none 0 0)) cb ⟨rb,ro,none⟩ ⟨tb,tq,none⟩ s5 kv bv (.slice none 0 0) tv wv:=hS5▸h5;have HC5:=Hh h5';have HK5:=Hh hk5;have Qq0:=Hh Qq4;clear h5 h5' hk5 Qq4;go_upto_region 9 with fail
     generalize hW5:(w4.setCell ⟨cb,8,none⟩ (.int .i64 (m:Int))).setCell ⟨cb,6,none⟩ (.slice none 0 0)=w5 at HC5 HK5 ⊢;clear hW5 f84 f64 c84 c64;have hka:Q0 nob w5 (w5.alloc (.cells #[.int .i64 (m:Int)] 3)):=(Kr _ _).alloc _;have hba:=Blk.new w5 [.int .i64 (m:Int)] 3;have Qpo:(w5.alloc (.cells #[.int .i64 (m:Int)] 3)).heap.size=w5.heap.size+1:=by simp
     generalize hWa:w5.alloc (.cells #[.int .i64 (m:Int)] 3)=wa at hka Qpo;replace hba:Blk wa w5.heap.size [.int .i64 (m:Int)] 3:=hWa▸hba;have hCa:J0 (Qv (Q7 w.heap.size) w5.heap.size) wa cb ⟨rb,ro,none⟩ ⟨tb,tq,none⟩ s5 kv bv (.slice none 0 0) tv wv:=(HC5.o.mono fun k hk hS=>⟨hS,by omega⟩).nobk hka;have hFa:Jl (Qv (Q7 w.heap.size) w5.heap.size) wa:=fun k hk=>⟨HF.o.kept HK5.o k (by omega),by omega⟩
     have hKa:Q0 (Q7 w.heap.size) w wa:=HK5.o.trans (hka.ofNob _);have hra:=(HR.o.kept hKa).mono (S':=Qv (Q7 w.heap.size) w5.heap.size) (fun k _ h=>h.1);have hta:=(HT.o.kept hKa).mono (S':=Qv (Q7 w.heap.size) w5.heap.size) (fun k _ h=>h.1)
     have hva:Qm (Qv (Q7 w.heap.size) w5.heap.size) wa fun w=>Qi w (.slice (some ⟨w5.heap.size,0,none⟩) 1 1) [(m:Int)]:=by
      refine Qm.mkInts rfl (by simp) (by simp) (fun j x hj W hk=>?_)
      cases j with
      |zero=>simp at hj;subst hj;exact hk.cell (fun h=>h.2 rfl) (hba.cell 0 _ rfl)
      |succ j=>simp at hj
     have HCa:=Hh hCa;have HFa:=Hh hFa;have HKa:=Hh hKa;have HRa:=Hh hra;have HTa:=Hh hta;have HVa:=Hh hva;have Qt6:=Hh Qrl;have Qx0:=Hh Qrm;clear hka hba Qpo hCa hFa hKa hra hta hva hS5 Qrl Qrm;go_upto_region 10 with (go_at_call 93;refine (Xv HW.o hO HCa.o HRa.o HTa.o Qq0.o HFa.o _ [(m:Int)] HVa.o (fun k hk=>by simp at hk;subst hk;exact⟨HII.o,HII.o.2⟩)).mono ?_;rintro e w8 ⟨rfl,⟨lv8,wv8,hc8⟩,hk8⟩)
     have hC8:=hc8.mono (S':=Q7 w.heap.size) (fun k _ h=>h.1);have hK8:=HKa.o.trans (hk8.mono (S':=Q7 w.heap.size) fun k _ h=>h.1);obtain⟨tA8,tc8,Qrn⟩:=hC8.t.lenI
     have Qo9:(Qa (Q8 r t t.nodes.length) s5 [(m:Int)]).tops.length≤j:=by
      have e1:=Qt6.o;rw[Qrn] at e1;injection e1 with _ e2 _
      rw[e2];exact HT1.o
     clear Qrn;generalize hS8:Qa (Q8 r t t.nodes.length) s5 [(m:Int)]=s8 at HTF hC8 Qo9;have c78:w8.cell? ⟨cb,7,none⟩=some tv:=hC8.blk.cell 7 _ rfl;have HC8:=Hh hC8;have HK8:=Hh hK8;have Qoa:=Hh Qo9;clear hc8 hk8 hC8 hK8 Qo9 hS8;go_wp2_with (at_builtin;refine J1 (Q7 w.heap.size) rfl _ _ 26 3 (.int .i64 0) 8 rfl underlying26 (by kernel_rfl) rfl tv (Q4 s8.tops) (.int .i64 (m:Int)) rfl rfl (by simp) rfl HC8.o.t (HF.o.kept HK8.o) (by have:=Qoa.o;have:=HTL.o;simp[Q4];omega) (by have:=Qoa.o;have:=HTL.o;simp[Q4];omega) ?_;intro nv1 w9 Qmv hk2 hat;obtain⟨nA2,nc2,rfl⟩:=Qmv.len;rw[show (Q4 s8.tops++[Value.int .i64 (m:Int)]).length=(Q4 s8.tops).length+1 from by simp] at Qmv hat;have hb9:=HC8.o.blk.kept hk2 (HC8.o.noCb.2.2.2.1);have c79:=hb9.cell 7 _ rfl;have f79:=hb9.free 7);go_roundw
     case rel =>
      have h10:=HC8.o.swapT (l1:=s8.tops++[(m:Int)]) (by have:=Qmv;rwa [show Q4 s8.tops++[.int .i64 (m:Int)]=Q4 (s8.tops++[(m:Int)]) from by simp[Q4]] at this) hk2 (hat.elim .inl fun h=>.inr (.inr h));have Qq5:=(HK8.o.trans (hk2.mono fun k _ hk=>HC8.o.t.2 k hk)).setCell (p:=⟨cb,7,none⟩) (Or.inl HC8.o.inS) (.slice nA2 ((Q4 s8.tops).length+1) nc2);have e9:Yh r t s0 (m:Int)={s8 with tops:=s8.tops++[(m:Int)]}:=HTF.o;have Qmr:({s8 with tops:=s8.tops++[(m:Int)]}:CS).tops.length≤j+1:=by show (s8.tops++[(m:Int)]).length≤_;have:=Qoa.o;simp;omega
      rw[← e9,← HST.o] at h10 Qmr;exact⟨j+1,_,_,_,by omega,by go_num,Hh ⟨h10,Qq5,Qmr⟩⟩
     case measure=>simp[intOf];omega
   ·obtain rfl:j=t.tops.length:=by omega
    go_wp2_with fail;go_returns;have h9:=HAT.o;rw[List.take_length] at h9;exact⟨cb,kv,bv,lv,tv,wv,rfl,h9.1,h9.2.1.mono (fun k hk hS=>by have:w.heap.size≤k:=hS;omega)⟩
structure Qj9 (t:Q1):Prop where
 n:Qt t=true
 K:Qj t
 size:t.nodes.length≤4000
 ch:Zo t 0 t.tops t.nodes.length
 tk:∀i∈t.tops,InT t i∧33≤(t.at i).kind
theorem Zo.few {t:Q1} {m e:Int} {l:List Int} (h:Zo t m l e):(l.length:Int)≤e-m:=by
 induction l generalizing m with
 |nil=>have:m=e:=h;simp;omega
 |cons k ks ih=>have h1:=h.1.le;have h2:=ih h.2;simp only[List.length_cons];omega
theorem Qkb {t:Q1} (hT:Yi t=true):Qj9 t:=by
 unfold Yi at hT;simp only[Bool.and_eq_true,decide_eq_true_eq,beq_iff_eq] at hT;obtain⟨⟨h1,hn⟩,htp⟩:=hT;obtain⟨hch,htk⟩:=Q62 (Int.le_refl 0) htp;exact⟨hn,Q4y hn,h1,hch,htk⟩
end
theorem Q8g (r:Reg) (t:Q1) (rv tv:Value) (w:World) (hr:Q1d w rv r) (ht:Z3 w tv t) (hN:Q1k r) (hX:Q04 t) (hSm:Jz t) :
  Calls prog 38 #[rv,tv] w fun e w'=>e=.returned (.tuple #[.int .i64 (Zf r t).1,.int .i64 (Zf r t).2])∧Q0 nob w w':=by
 have hr':=hr;have ht':=ht;obtain⟨v0,v1,v2,rfl,d0,d1,d2⟩:=hr;obtain⟨u0,u1,rfl,e0,e1⟩:=ht;have Qn5:∀(u:Value) (ds:List Zw),Z1 w u ds→∃A c,u=.slice A ds.length c:=fun u ds ⟨A,b,o,c,h,_⟩=>⟨A,c,h⟩
 obtain⟨A0,c0,rfl⟩:=Qn5 _ _ d0;obtain⟨A1,c1,rfl⟩:=Qn5 _ _ d1;obtain⟨A2,c2,rfl⟩:=Qn5 _ _ d2;obtain⟨A3,c3,rfl⟩:∃A c,u0=.slice A t.nodes.length c:=by obtain⟨A,b,o,c,h,_⟩:=e0;exact⟨A,c,h⟩
 obtain⟨A4,c4,rfl⟩:∃A c,u1=.slice A t.tops.length c:=by obtain⟨A,b,o,c,h,_⟩:=e1;exact⟨A,c,h⟩
 clear Qn5;have hk0:Q0 nob w ((w.alloc (.cells #[.slice A0 r.comps.length c0,.slice A1 r.ress.length c1,.slice A2 r.evts.length c2] 38)).alloc (.cells #[.slice A3 t.nodes.length c3,.slice A4 t.tops.length c4] 33)):=((Kr _ _).alloc _).alloc _;have hb1:Blk ((w.alloc (.cells #[.slice A0 r.comps.length c0,.slice A1 r.ress.length c1,.slice A2 r.evts.length c2] 38)).alloc (.cells #[.slice A3 t.nodes.length c3,.slice A4 t.tops.length c4] 33)) w.heap.size [.slice A0 r.comps.length c0,.slice A1 r.ress.length c1,.slice A2 r.evts.length c2] 38:=(Blk.new_of _ _ _ rfl).alloc _;have hb2:Blk ((w.alloc (.cells #[.slice A0 r.comps.length c0,.slice A1 r.ress.length c1,.slice A2 r.evts.length c2] 38)).alloc (.cells #[.slice A3 t.nodes.length c3,.slice A4 t.tops.length c4] 33)) (w.heap.size+1) [.slice A3 t.nodes.length c3,.slice A4 t.tops.length c4] 33:=Blk.new_of _ _ _ (by simp);generalize hW0:(w.alloc (.cells #[.slice A0 r.comps.length c0,.slice A1 r.ress.length c1,.slice A2 r.evts.length c2] 38)).alloc (.cells #[.slice A3 t.nodes.length c3,.slice A4 t.tops.length c4] 33)=W0 at hk0 hb1 hb2;have g0:=hb1.cell 0 _ rfl;have g1:=hb1.cell 1 _ rfl;have g2:=hb1.cell 2 _ rfl;have g3:=hb2.cell 0 _ rfl;have g4:=hb2.cell 1 _ rfl;have HRV:=Hh (hr'.old hk0.old);have HTV:=Hh (ht'.old hk0.old);have HRR:Hi (Xy W0 w.heap.size 0 r):=Hh ⟨_,_,_,g0,g1,g2,d0.old hk0.old,d1.old hk0.old,d2.old hk0.old⟩;have HTT:Hi (J7 W0 (w.heap.size+1) 0 t):=Hh ⟨_,_,g3,g4,e0.old hk0.old,e1.old hk0.old⟩;have HNM:=Hh hN;have HTX:=Hh hX;have HSM:=Hh hSm;generalize hF:Zf r t=F;have HF:=Hh hF;clear hr' ht' d0 d1 d2 e0 e1 hb1 hb2 hN hX hSm hF;cases tr:Q69 r with
 |false =>
  have HF2:Hi (F=(1,-1)):=Hh (by rw[← HF.o];unfold Zf;rw[tr];rfl);go_enter func38,ntmps38;go_wp2_with (go_at_call 52;refine (Q8o r _ _ HRV.o HNM.o).mono ?_;rw[tr];rintro e w1 ⟨rfl,hk1⟩;have j3:=hk1.cell (fun h=>h) g3;have j4:=hk1.cell (fun h=>h) g4);go_returns;obtain rfl:=HF2.o;exact⟨rfl,hk0.trans hk1⟩
 |true =>
  cases tt:Yi t with
  |false =>
   have HF2:Hi (F=(1,-1)):=Hh (by rw[← HF.o];unfold Zf;rw[tr,tt];rfl);go_enter func38,ntmps38;go_wp2_with (first|(go_at_call 52;refine (Q8o r _ _ HRV.o HNM.o).mono ?_;rw[tr];rintro e w1 ⟨rfl,hk1⟩;have j3:=hk1.cell (fun h=>h) g3;have j4:=hk1.cell (fun h=>h) g4)|(go_at_call 53;refine (Qaf t _ _ (HTV.o.old hk1.old) HTX.o).mono ?_;rw[tt];rintro e w2 ⟨rfl,hk2⟩));go_returns;obtain rfl:=HF2.o;exact⟨rfl,(hk0.trans hk1).trans hk2⟩
  |true =>
   have HF2:Hi (F=((Q0b r t).code,(Q0b r t).node)):=Hh (by rw[← HF.o];unfold Zf;rw[tr,tt];rfl);have hTF:=Qkb tt;have Qo8:=hTF.ch.few;have HTF:=Hh hTF;have HTL:Hi (t.tops.length≤4000):=Hh (by have:=hTF.size;omega);clear hTF Qo8;go_enter func38,ntmps38;go_upto_region 4 with (first|(go_at_call 52;refine (Q8o r _ _ HRV.o HNM.o).mono ?_;rw[tr];rintro e w1 ⟨rfl,hk1⟩;have j3:=hk1.cell (fun h=>h) g3;have j4:=hk1.cell (fun h=>h) g4)|(go_at_call 53;refine (Qaf t _ _ (HTV.o.old hk1.old) HTX.o).mono ?_;rw[tt];rintro e w2 ⟨rfl,hk2⟩)|(go_at_call 54;refine (Qf4 HTF.o.n HTF.o.K HSM.o HTF.o.size HTF.o.tk HTL.o (HRR.o.old (hk1.trans hk2).old) (HTT.o.old (hk1.trans hk2).old)).mono ?_;rintro e w3 ⟨cb,kv,bv,lv,tv,wv,rfl,hch,hk3⟩))
   have p2:w3.cell? ⟨cb,2,none⟩=some (.int .i64 (Q0b r t).code):=hch.blk.cell 2 _ rfl;have p3:w3.cell? ⟨cb,3,none⟩=some (.int .i64 (Q0b r t).node):=hch.blk.cell 3 _ rfl;clear hch;go_quiet (fail);go_wp2_with fail;go_returns;obtain rfl:=HF2.o;exact⟨rfl,(((hk0.trans hk1).trans hk2).trans hk3).trans ((Kr _ _).drewN _)⟩
end Go.Proofs.YtkgkafjachjafaaGreat
