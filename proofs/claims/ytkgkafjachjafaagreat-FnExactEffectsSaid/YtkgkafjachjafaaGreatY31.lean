/- Part 31 of: FnExactEffects answers true; no condition. -/
import Derived.Laws.OwnMore
import Derived.Test.YtkgkafjachjafaaGreatY13
import Derived.Test.YtkgkafjachjafaaGreatY26
import Derived.Test.YtkgkafjachjafaaGreatY28
set_option linter.unusedVariables false
set_option maxHeartbeats 8000000
set_option maxRecDepth 100000
open Go Go.RowKit
namespace Go.Proofs.YtkgkafjachjafaaGreat
open Tryz
theorem K0u {p:Prop} (h:p:=by rw[← e9,← HST.o] at h10 Qnm;exact⟨j+1,_,_,_,Om,Gm,Hh ⟨h10,Qqy,Qnm⟩⟩):p:=h
theorem Qia (N:Nat):madeCells #[.int .i64 0] N=(Q5 (List.replicate N 0)).toArray:=by
 apply Array.toList_inj.1;rw[toList_madeCells_one];simp[Q5]
theorem Qay (N:Nat) (hN:N≤4000) (w:World):(Instr.makeSlice 26 (.int .i64 (N:Int)) (.int .i64 (N:Int))).run prog w=.ok (.slice (some ⟨w.heap.size,0,none⟩) N N) (w.alloc (.cells (Q5 (List.replicate N 0)).toArray 3 (0,0))):=by
 have hi:(prog.info? 3).map (fun i=>(i.zero,i.size,i.bytes))=some (some (.int .i64 0),1,8):=Kf
 obtain⟨i0,hi0,hzz⟩:=Option.map_eq_some_iff.1 hi;simp only[Prod.mk.injEq] at hzz;obtain⟨hz0,hz1,hz2⟩:=hzz;have h:=run_make (P:=prog) w 26 3 i0 (.int .i64 0) underlying26 hi0 hz0 .i64 .i64 (N:Int) (N:Int) Om Om (by rw[hz2];omega) Om;rw[h,hz1];simp only[Int.toNat_natCast,Nat.mul_one];rw[show Value.cells (.int .i64 0)=#[.int .i64 0] from rfl,Qia]
theorem Qbh (t:Q1) (w:World) (ra ta:Addr) (hN:t.nodes.length≤4000) (a b:Nat) (hab:(a=w.heap.size∧b=w.heap.size+1)∨(a=w.heap.size+1∧b=w.heap.size)) :
  J0 (Q6 w.heap.size) (((w.alloc (.cells (Q5 (List.replicate t.nodes.length 0)).toArray 3)).alloc (.cells (Q5 (List.replicate t.nodes.length 0)).toArray 3)).alloc
   (.cells #[.pointer (some ra),.pointer (some ta),.int .i64 0,.int .i64 (-1),.slice (some ⟨a,0,none⟩) t.nodes.length t.nodes.length,.slice (some ⟨b,0,none⟩) t.nodes.length t.nodes.length,.slice none 0 0,.slice none 0 0,.int .i64 0,.slice none 0 0,.bool false,.bool false] 94)).drew
   (w.heap.size+1+1) ra ta (Z6 t) (.slice (some ⟨a,0,none⟩) t.nodes.length t.nodes.length) (.slice (some ⟨b,0,none⟩) t.nodes.length t.nodes.length) (.slice none 0 0) (.slice none 0 0) (.slice none 0 0):=by
 have hl:(Q5 (List.replicate t.nodes.length 0)).length=t.nodes.length:=by simp[Q5]
 have h1:∀w0:World,w.heap.size≤w0.heap.size→Qc (Q6 w.heap.size) 3 (w0.alloc (.cells (Q5 (List.replicate t.nodes.length 0)).toArray 3)) (.slice (some ⟨w0.heap.size,0,none⟩) t.nodes.length t.nodes.length) (Q5 (List.replicate t.nodes.length 0)) :=
  fun w0 h0=>Qc.lit _ _ _ _ h0 (by rw[hl];omega) rfl hl.symm hl.symm
 have e1:(w.alloc (.cells (Q5 (List.replicate t.nodes.length 0)).toArray 3)).heap.size=w.heap.size+1:=Sm
 have hA:=(((h1 w (Nat.le_refl _)).alloc (.cells (Q5 (List.replicate t.nodes.length 0)).toArray 3)).alloc (.cells #[.pointer (some ra),.pointer (some ta),.int .i64 0,.int .i64 (-1),.slice (some ⟨a,0,none⟩) t.nodes.length t.nodes.length,.slice (some ⟨b,0,none⟩) t.nodes.length t.nodes.length,.slice none 0 0,.slice none 0 0,.int .i64 0,.slice none 0 0,.bool false,.bool false] 94)).drew;have hB:=((h1 (w.alloc (.cells (Q5 (List.replicate t.nodes.length 0)).toArray 3)) (by rw[e1];omega)).alloc (.cells #[.pointer (some ra),.pointer (some ta),.int .i64 0,.int .i64 (-1),.slice (some ⟨a,0,none⟩) t.nodes.length t.nodes.length,.slice (some ⟨b,0,none⟩) t.nodes.length t.nodes.length,.slice none 0 0,.slice none 0 0,.int .i64 0,.slice none 0 0,.bool false,.bool false] 94)).drew;rw[e1] at hB
 have Qvn:Blk (((w.alloc (.cells (Q5 (List.replicate t.nodes.length 0)).toArray 3)).alloc (.cells (Q5 (List.replicate t.nodes.length 0)).toArray 3)).alloc
   (.cells #[.pointer (some ra),.pointer (some ta),.int .i64 0,.int .i64 (-1),.slice (some ⟨a,0,none⟩) t.nodes.length t.nodes.length,.slice (some ⟨b,0,none⟩) t.nodes.length t.nodes.length,.slice none 0 0,.slice none 0 0,.int .i64 0,.slice none 0 0,.bool false,.bool false] 94)).drew
   (w.heap.size+1+1) (Qc2 ra ta (Z6 t) (.slice (some ⟨a,0,none⟩) t.nodes.length t.nodes.length) (.slice (some ⟨b,0,none⟩) t.nodes.length t.nodes.length) (.slice none 0 0) (.slice none 0 0) (.slice none 0 0)) 94:=(Blk.new_of _ _ _ Sm).drew
 have Qvo:[some (w.heap.size+1+1),some a,some b,none,none,none].Pairwise sep:=by
  simp only[List.pairwise_cons,List.mem_cons,List.not_mem_nil,or_false,forall_eq_or_imp,forall_eq];have sn:∀x:Option Nat,sep x none:=fun x k _ h=>by cases h
  have ss:∀x y:Nat,x≠y→sep (some x) (some y):=fun x y hxy k h1 h2=>by cases h1;cases h2;exact hxy rfl
  exact⟨⟨ss _ _ Om,ss _ _ Om,sn _,sn _,sn _⟩,⟨ss _ _ Om,sn _,sn _,sn _⟩,⟨sn _,sn _,sn _⟩,⟨sn _,sn _⟩,sn _,fun _ h=>h.elim,List.Pairwise.nil⟩
 rcases hab with ⟨rfl,rfl⟩|⟨rfl,rfl⟩
 ·exact⟨Qvn,by show w.heap.size≤_;omega,hA,hB,Qc.nil _ _ _,Qc.nil _ _ _,Qc.nil _ _ _,Qvo⟩
 ·exact⟨Qvn,by show w.heap.size≤_;omega,hB,hA,Qc.nil _ _ _,Qc.nil _ _ _,Qc.nil _ _ _,Qvo⟩
section
variable {r:Reg} {t:Q1} {w:World} {rb ro tb tq:Nat}
theorem Qem (hn:Qs t=true) (hK:Qk t) (hSm:Z1 t) (hsz:t.nodes.length≤4000) (htk:∀i∈t.tops,InT t i∧33≤(t.at i).kind) (htl:t.tops.length≤4000) (hr:Xa w rb ro r) (ht:J8 w tb tq t) :
  Calls prog 54 #[.pointer (some ⟨rb,ro,none⟩),.pointer (some ⟨tb,tq,none⟩)] w fun e w'=>∃cb kv bv lv tv wv,e=.returned (.pointer (some ⟨cb,0,none⟩)) ∧
   J0 (Q6 w.heap.size) w' cb ⟨rb,ro,none⟩ ⟨tb,tq,none⟩ (Q0e r t) kv bv lv tv wv∧Q0 nob w w':=by
 have hst:∀w',Q0 (Q6 w.heap.size) w w'→Xi w w':=fun w' hk=>hk.oldS (fun k hk=>by show ¬ w.heap.size≤k;omega)
 have hR:Qj (Q6 w.heap.size) w fun w=>Xa w rb ro r:=fun w' hk=>hr.old (hst w' hk)
 have hT:Qj (Q6 w.heap.size) w fun w=>J8 w tb tq t:=fun w' hk=>ht.old (hst w' hk)
 obtain⟨tA,nb,no,nc,tc,tl,tlc,tS,tA',⟨v1,tv1,tst⟩,tn⟩:=hT.tree;have c0:=tc w (Kr _ _);have hmk:=Qay t.nodes.length hsz;have c0':(w.alloc (.cells (Q5 (List.replicate t.nodes.length 0)).toArray 3)).cell? ⟨tb,tq,none⟩=some (.slice tA t.nodes.length nc):=((Kr nob w).alloc (.cells (Q5 (List.replicate t.nodes.length 0)).toArray 3)).cell (fun h=>h) c0;go_enter func54,ntmps54;go_upto_region 1 with fail
 go_cut [5] (fun s5 wx=>∃cb kv bv,s5=.pointer (some ⟨cb,0,none⟩)∧J0 (Q6 w.heap.size) wx cb ⟨rb,ro,none⟩ ⟨tb,tq,none⟩ (Z6 t) kv bv (.slice none 0 0) (.slice none 0 0) (.slice none 0 0)∧Q0 nob w wx)
 case first =>
  go_region
  all_goals go_wp2_with fail
  all_goals go_meet
  ·exact⟨_,_,_,rfl,Qbh t w _ _ hsz _ _ (.inl ⟨rfl,rfl⟩),((((Kr _ _).alloc _).alloc _).alloc _).drew⟩
  ·exact⟨_,_,_,rfl,Qbh t w _ _ hsz _ _ (.inr ⟨rfl,rfl⟩),((((Kr _ _).alloc _).alloc _).alloc _).drew⟩
 case rest =>
  obtain⟨cb,kv,bv,rfl,hch,hkc⟩:=hcut;obtain⟨W0,rfl⟩:∃W0,W0=wc:=⟨_,rfl⟩;have hk0:Q0 (Q6 w.heap.size) w W0:=hkc.ofNob _;obtain⟨vA,vb,vo,vc,rfl,vl,vlc,vA',vcell⟩:=tst.ints;have x1:=tv1 W0 hk0;have HCH:=Hh hch;have HK0:=Hh hk0;have HTC:=Hh tc;have HTN:=Hh tn;have HTA:=Hh tA';have HVC:=Hh vcell;have HVA:=Hh vA';have HR:=Hh hR;have HT:=Hh hT;have HTK:=Hh htk;have HTL:=Hh htl;have hF:Jh (Q6 w.heap.size) w:=fun k hk=>hk
  have HF:=Hh hF;have HW:=Hh (Qjb hn hK hSm hsz t.nodes.length (r:=r));have hO:Yc t (Q8 r t t.nodes.length):=fun s k h hk=>Qe.walk hK hSm r _ s k h hk
  have Qq1:Hi (∀j,j<t.tops.length→Qe t ((t.tops.take j).foldl (Yn r t) (Z6 t))):=Hh (by
   intro j hj
   have Qo3:0<t.nodes.length:=by
    obtain⟨x,hx⟩:=Q4 hj;have:=(htk x (Mg hx)).1;have h1:=this.1;have h2:=this.2;omega
   have hok:Qe t (Z6 t):=⟨by simp[Z6],by simp[Z6],by simp[Z6],by simp[Z6],⟨by simp[Z6],by simp[Z6];omega⟩,by simp[Z6,Qd],by simp[Z6]⟩
   have:∀(l:List Int) (s:CS),(∀k∈l,InT t k)→Qe t s→Qe t (l.foldl (Yn r t) s):=by
    intro l
    induction l with
    |nil=>intro s _ h;exact h
    |cons k ks ih=>intro s hl h;exact ih _ (fun x hx=>hl x (by simp[hx])) (Qe.topStep hK hSm r h (hl k Sm))
   exact this _ _ (fun k hk=>(htk k (List.mem_of_mem_take hk)).1) hok)
  clear hch hk0 hkc tc tn tA' vcell vA' hR hT htk htl hF tst tv1 hst hmk c0' c0 hr ht hn hK hSm hsz;go_wp2_with fail;go_loopw [7,29] (fun u7 ci wr=>∃(j:Nat) (lv tv wv:Value),j≤t.tops.length∧ci=.int .i64 j∧Hi (J0 (Q6 w.heap.size) wr cb ⟨rb,ro,none⟩ ⟨tb,tq,none⟩ ((t.tops.take j).foldl (Yn r t) (Z6 t)) kv bv lv tv wv∧Q0 (Q6 w.heap.size) w wr∧((t.tops.take j).foldl (Yn r t) (Z6 t)).tops.length≤j)) (fun _ ci _=>t.tops.length-(intOf ci).toNat)
  case atStart=>exact⟨0,_,_,_,Nat.zero_le _,rfl,Hh ⟨HCH.o,HK0.o,by simp[Z6]⟩⟩
  case round =>
   obtain⟨j,lv,tv,wv,hj,rfl,HAT⟩:=hrel;obtain⟨wo,rfl⟩:∃wo:World,wo=wr:=⟨_,rfl⟩
   by_cases hlt:j<t.tops.length
   ·obtain⟨i,hx⟩:=Q4 hlt
    obtain⟨rfl,_⟩:=HVA.o Om;have q0:=HVC.o j i hx wo HAT.o.2.1;have hii:=(HTK.o i (Mg hx)).1;obtain⟨m,rfl,hmn⟩:=Q1.at_lt hii;have hml:(m:Int)<t.nodes.length:=hii.2;obtain⟨rfl,_⟩:=HTA.o Om;have q1:=HTC.o wo HAT.o.2.1;obtain⟨pv,pc,_⟩:=HTN.o m _ hmn;have q2:=(pc wo HAT.o.2.1).2.1;have HST:Hi ((t.tops.take (j+1)).foldl (Yn r t) (Z6 t)=Yn r t ((t.tops.take j).foldl (Yn r t) (Z6 t)) (m:Int)):=Hh (by rw[Js hx,List.foldl_append];rfl);have Qpc:=Qq1.o j hlt;have HII:=Hh hii;generalize (t.tops.take j).foldl (Yn r t) (Z6 t)=s0 at HAT HST Qpc;have Qqf:=Hh Qpc;clear hx hii hmn pc Qpc
    by_cases hn:0≤Q3 t s0.tops (t.at (m:Int)).text
    ·have t1:decide (0≤Q3 t s0.tops (t.at (m:Int)).text)=true:=by simpa using hn
     have hTF:Yn r t s0 (m:Int)={Qb (Q8 r t t.nodes.length) {s0.fail 2 (m:Int) with top:=(m:Int),locals:=[]} [(m:Int)] with tops:=(Qb (Q8 r t t.nodes.length) {s0.fail 2 (m:Int) with top:=(m:Int),locals:=[]} [(m:Int)]).tops++[(m:Int)]}:=by
      unfold Yn;dsimp only;rw[Ps hn]
     have Qo0:=Hh (Qqf.o.fail 2 (m:Int));have HT1:Hi ((s0.fail 2 (m:Int)).tops.length≤j):=Hh (by have:=HAT.o.2.2;unfold CS.fail;split<;>exact this);have HTF:=Hh hTF;clear hn hTF;go_upto_region 7 with (first|(go_at_call 91;refine (Q3t HAT.o.1 t (HT.o.kept HAT.o.2.1).now Qqf.o.tops _).mono ?_;rintro e w1 ⟨rfl,rfl⟩)|(go_at_call 92;refine (Ze HAT.o.1 _ _).mono ?_;rintro e w4 ⟨rfl,hat⟩;have HC4:=Hh hat.1;have HK4:=Hh (HAT.o.2.1.trans (hat.2.mono fun k _ e=>e▸hat.1.inS));clear hat))
     generalize hS1:s0.fail 2 (m:Int)=s1 at Qo0 HT1 HTF HC4;clear hS1;have f84:=HC4.o.blk.free 8;have f64:=HC4.o.blk.free 6;have c84:=HC4.o.blk.cell 8 _ rfl;have c64:=HC4.o.blk.cell 6 _ rfl;have h5:=(HC4.o.setTop (m:Int)).swapL (l1:=[]) (u:=.slice none 0 0) (Qc.nil _ _ _) (Kr _ _) (.inr (.inl rfl));have hk5:=(HK4.o.setCell (p:=⟨cb,8,none⟩) (Or.inl HC4.o.inS) (.int .i64 (m:Int))).setCell (p:=⟨cb,6,none⟩) (Or.inl HC4.o.inS) (.slice none 0 0);have Qqx:Qe t {s1 with top:=(m:Int),locals:=[]}:=⟨Qo0.o.kinds,Qo0.o.bind,Sm,Qo0.o.tops,HII.o,by simp[Qd],Qo0.o.withs⟩;obtain⟨tA1,tc1,Qsg⟩:=HC4.o.t.lenI;generalize hS5:({s1 with top:=(m:Int),locals:=[]}:CS)=s5 at HTF Qqx;have Qsh:s5.tops.length=s1.tops.length:=by rw[← hS5]
     have h5':J0 (Q6 w.heap.size) ((w4.setCell ⟨cb,8,none⟩ (.int .i64 (m:Int))).setCell ⟨cb,6,none⟩ (.slice none 0 0)) cb ⟨rb,ro,none⟩ ⟨tb,tq,none⟩ s5 kv bv (.slice none 0 0) tv wv:=hS5▸h5;have HC5:=Hh h5';have HK5:=Hh hk5;have Qqt:=Hh Qqx;clear h5 h5' hk5 Qqx;go_upto_region 9 with fail
     generalize hW5:(w4.setCell ⟨cb,8,none⟩ (.int .i64 (m:Int))).setCell ⟨cb,6,none⟩ (.slice none 0 0)=w5 at HC5 HK5 ⊢;clear hW5 f84 f64 c84 c64;have hka:Q0 nob w5 (w5.alloc (.cells #[.int .i64 (m:Int)] 3)):=(Kr _ _).alloc _;have hba:=Blk.new w5 [.int .i64 (m:Int)] 3;have Qqh:(w5.alloc (.cells #[.int .i64 (m:Int)] 3)).heap.size=w5.heap.size+1:=Sm
     generalize hWa:w5.alloc (.cells #[.int .i64 (m:Int)] 3)=wa at hka Qqh;replace hba:Blk wa w5.heap.size [.int .i64 (m:Int)] 3:=hWa▸hba;have hCa:J0 (Jj (Q6 w.heap.size) w5.heap.size) wa cb ⟨rb,ro,none⟩ ⟨tb,tq,none⟩ s5 kv bv (.slice none 0 0) tv wv:=(HC5.o.mono fun k hk hS=>⟨hS,Om⟩).nobk hka;have hFa:Jh (Jj (Q6 w.heap.size) w5.heap.size) wa:=fun k hk=>⟨HF.o.kept HK5.o k Om,Om⟩
     have hKa:Q0 (Q6 w.heap.size) w wa:=HK5.o.trans (hka.ofNob _);have hra:=(HR.o.kept hKa).mono (S':=Jj (Q6 w.heap.size) w5.heap.size) (fun k _ h=>h.1);have hta:=(HT.o.kept hKa).mono (S':=Jj (Q6 w.heap.size) w5.heap.size) (fun k _ h=>h.1)
     have hva:Qj (Jj (Q6 w.heap.size) w5.heap.size) wa fun w=>Qf w (.slice (some ⟨w5.heap.size,0,none⟩) 1 1) [(m:Int)]:=by
      refine Qj.mkInts rfl Sm Sm (fun j x hj W hk=>?_)
      cases j with
      |zero=>simp at hj;subst hj;exact hk.cell (fun h=>h.2 rfl) (hba.cell 0 _ rfl)
      |succ j=>simp at hj
     have HCa:=Hh hCa;have HFa:=Hh hFa;have HKa:=Hh hKa;have HRa:=Hh hra;have HTa:=Hh hta;have HVa:=Hh hva;have Qu3:=Hh Qsg;have Qxn:=Hh Qsh;clear hka hba Qqh hCa hFa hKa hra hta hva hS5 Qsg Qsh;go_upto_region 10 with (go_at_call 93;refine (Xw HW.o hO HCa.o HRa.o HTa.o Qqt.o HFa.o _ [(m:Int)] HVa.o (fun k hk=>by simp at hk;subst hk;exact⟨HII.o,HII.o.2⟩)).mono ?_;rintro e w8 ⟨rfl,⟨lv8,wv8,hc8⟩,hk8⟩)
     have hC8:=hc8.mono (S':=Q6 w.heap.size) (fun k _ h=>h.1);have hK8:=HKa.o.trans (hk8.mono (S':=Q6 w.heap.size) fun k _ h=>h.1);obtain⟨tA8,tc8,Qsi⟩:=hC8.t.lenI
     have Qp4:(Qb (Q8 r t t.nodes.length) s5 [(m:Int)]).tops.length≤j:=by
      have e1:=Qu3.o;rw[Qsi] at e1;injection e1 with _ e2 _
      rw[e2];exact HT1.o
     clear Qsi;generalize hS8:Qb (Q8 r t t.nodes.length) s5 [(m:Int)]=s8 at HTF hC8 Qp4;have c78:w8.cell? ⟨cb,7,none⟩=some tv:=hC8.blk.cell 7 _ rfl;have HC8:=Hh hC8;have HK8:=Hh hK8;have Qp5:=Hh Qp4;clear hc8 hk8 hC8 hK8 Qp4 hS8;go_wp2_with (at_builtin;refine Qt (Q6 w.heap.size) rfl _ _ 26 3 (.int .i64 0) 8 rfl underlying26 Kf rfl tv (Q5 s8.tops) (.int .i64 (m:Int)) rfl rfl Sm rfl HC8.o.t (HF.o.kept HK8.o) (by have:=Qp5.o;have:=HTL.o;simp[Q5];omega) (by have:=Qp5.o;have:=HTL.o;simp[Q5];omega) ?_;intro nv1 w9 Qnq hk2 hat;obtain⟨nA2,nc2,rfl⟩:=Qnq.len;rw[show (Q5 s8.tops++[Value.int .i64 (m:Int)]).length=(Q5 s8.tops).length+1 from by simp] at Qnq hat;have hb9:=HC8.o.blk.kept hk2 (HC8.o.noCb.2.2.2.1);have c79:=hb9.cell 7 _ rfl;have f79:=hb9.free 7);go_roundw
     case rel =>
      have h10:=HC8.o.swapT (l1:=s8.tops++[(m:Int)]) (by have:=Qnq;rwa [show Q5 s8.tops++[.int .i64 (m:Int)]=Q5 (s8.tops++[(m:Int)]) from by simp[Q5]] at this) hk2 (hat.elim .inl fun h=>.inr (.inr h));have Qqy:=(HK8.o.trans (hk2.mono fun k _ hk=>HC8.o.t.2 k hk)).setCell (p:=⟨cb,7,none⟩) (Or.inl HC8.o.inS) (.slice nA2 ((Q5 s8.tops).length+1) nc2);have e9:Yn r t s0 (m:Int)={s8 with tops:=s8.tops++[(m:Int)]}:=HTF.o;have Qnm:({s8 with tops:=s8.tops++[(m:Int)]}:CS).tops.length≤j+1:=by show (s8.tops++[(m:Int)]).length≤_;have:=Qp5.o;simp;omega
      exact K0u
     case measure=>exact Me
    ·have t1:decide (0≤Q3 t s0.tops (t.at (m:Int)).text)=false:=by simpa using hn
     have hTF:Yn r t s0 (m:Int)={Qb (Q8 r t t.nodes.length) {s0 with top:=(m:Int),locals:=[]} [(m:Int)] with tops:=(Qb (Q8 r t t.nodes.length) {s0 with top:=(m:Int),locals:=[]} [(m:Int)]).tops++[(m:Int)]}:=by
      unfold Yn;dsimp only;rw[Ng hn]
     obtain⟨s1,hs1⟩:∃s1,s1=s0:=⟨_,rfl⟩;have Qo0:Hi (Qe t s1):=Hh (hs1▸Qqf.o);have HT1:Hi (s1.tops.length≤j):=Hh (hs1▸HAT.o.2.2);have HTF:Hi (Yn r t s0 (m:Int)={Qb (Q8 r t t.nodes.length) {s1 with top:=(m:Int),locals:=[]} [(m:Int)] with tops:=(Qb (Q8 r t t.nodes.length) {s1 with top:=(m:Int),locals:=[]} [(m:Int)]).tops++[(m:Int)]}):=Hh (hs1▸hTF);obtain⟨w4,hw4⟩:∃w4,w4=wo:=⟨_,rfl⟩;have HC4:Hi (J0 (Q6 w.heap.size) w4 cb ⟨rb,ro,none⟩ ⟨tb,tq,none⟩ s1 kv bv lv tv wv):=Hh (hw4▸hs1▸HAT.o.1);have HK4:Hi (Q0 (Q6 w.heap.size) w w4):=Hh (hw4▸HAT.o.2.1);clear hn hTF hs1;subst hw4;go_upto_region 7 with (first|(go_at_call 91;refine (Q3t HAT.o.1 t (HT.o.kept HAT.o.2.1).now Qqf.o.tops _).mono ?_;rintro e w1 ⟨rfl,rfl⟩))
     have f84:=HC4.o.blk.free 8;have f64:=HC4.o.blk.free 6;have c84:=HC4.o.blk.cell 8 _ rfl;have c64:=HC4.o.blk.cell 6 _ rfl;have h5:=(HC4.o.setTop (m:Int)).swapL (l1:=[]) (u:=.slice none 0 0) (Qc.nil _ _ _) (Kr _ _) (.inr (.inl rfl));have hk5:=(HK4.o.setCell (p:=⟨cb,8,none⟩) (Or.inl HC4.o.inS) (.int .i64 (m:Int))).setCell (p:=⟨cb,6,none⟩) (Or.inl HC4.o.inS) (.slice none 0 0);have Qqx:Qe t {s1 with top:=(m:Int),locals:=[]}:=⟨Qo0.o.kinds,Qo0.o.bind,Sm,Qo0.o.tops,HII.o,by simp[Qd],Qo0.o.withs⟩;obtain⟨tA1,tc1,Qsg⟩:=HC4.o.t.lenI;generalize hS5:({s1 with top:=(m:Int),locals:=[]}:CS)=s5 at HTF Qqx;have Qsh:s5.tops.length=s1.tops.length:=by rw[← hS5]
     have h5':J0 (Q6 w.heap.size) ((w4.setCell ⟨cb,8,none⟩ (.int .i64 (m:Int))).setCell ⟨cb,6,none⟩ (.slice none 0 0)) cb ⟨rb,ro,none⟩ ⟨tb,tq,none⟩ s5 kv bv (.slice none 0 0) tv wv:=hS5▸h5;have HC5:=Hh h5';have HK5:=Hh hk5;have Qqt:=Hh Qqx;clear h5 h5' hk5 Qqx;go_upto_region 9 with fail
     generalize hW5:(w4.setCell ⟨cb,8,none⟩ (.int .i64 (m:Int))).setCell ⟨cb,6,none⟩ (.slice none 0 0)=w5 at HC5 HK5 ⊢;clear hW5 f84 f64 c84 c64;have hka:Q0 nob w5 (w5.alloc (.cells #[.int .i64 (m:Int)] 3)):=(Kr _ _).alloc _;have hba:=Blk.new w5 [.int .i64 (m:Int)] 3;have Qqh:(w5.alloc (.cells #[.int .i64 (m:Int)] 3)).heap.size=w5.heap.size+1:=Sm
     generalize hWa:w5.alloc (.cells #[.int .i64 (m:Int)] 3)=wa at hka Qqh;replace hba:Blk wa w5.heap.size [.int .i64 (m:Int)] 3:=hWa▸hba;have hCa:J0 (Jj (Q6 w.heap.size) w5.heap.size) wa cb ⟨rb,ro,none⟩ ⟨tb,tq,none⟩ s5 kv bv (.slice none 0 0) tv wv:=(HC5.o.mono fun k hk hS=>⟨hS,Om⟩).nobk hka;have hFa:Jh (Jj (Q6 w.heap.size) w5.heap.size) wa:=fun k hk=>⟨HF.o.kept HK5.o k Om,Om⟩
     have hKa:Q0 (Q6 w.heap.size) w wa:=HK5.o.trans (hka.ofNob _);have hra:=(HR.o.kept hKa).mono (S':=Jj (Q6 w.heap.size) w5.heap.size) (fun k _ h=>h.1);have hta:=(HT.o.kept hKa).mono (S':=Jj (Q6 w.heap.size) w5.heap.size) (fun k _ h=>h.1)
     have hva:Qj (Jj (Q6 w.heap.size) w5.heap.size) wa fun w=>Qf w (.slice (some ⟨w5.heap.size,0,none⟩) 1 1) [(m:Int)]:=by
      refine Qj.mkInts rfl Sm Sm (fun j x hj W hk=>?_)
      cases j with
      |zero=>simp at hj;subst hj;exact hk.cell (fun h=>h.2 rfl) (hba.cell 0 _ rfl)
      |succ j=>simp at hj
     have HCa:=Hh hCa;have HFa:=Hh hFa;have HKa:=Hh hKa;have HRa:=Hh hra;have HTa:=Hh hta;have HVa:=Hh hva;have Qu3:=Hh Qsg;have Qxn:=Hh Qsh;clear hka hba Qqh hCa hFa hKa hra hta hva hS5 Qsg Qsh;go_upto_region 10 with (go_at_call 93;refine (Xw HW.o hO HCa.o HRa.o HTa.o Qqt.o HFa.o _ [(m:Int)] HVa.o (fun k hk=>by simp at hk;subst hk;exact⟨HII.o,HII.o.2⟩)).mono ?_;rintro e w8 ⟨rfl,⟨lv8,wv8,hc8⟩,hk8⟩)
     have hC8:=hc8.mono (S':=Q6 w.heap.size) (fun k _ h=>h.1);have hK8:=HKa.o.trans (hk8.mono (S':=Q6 w.heap.size) fun k _ h=>h.1);obtain⟨tA8,tc8,Qsi⟩:=hC8.t.lenI
     have Qp4:(Qb (Q8 r t t.nodes.length) s5 [(m:Int)]).tops.length≤j:=by
      have e1:=Qu3.o;rw[Qsi] at e1;injection e1 with _ e2 _
      rw[e2];exact HT1.o
     clear Qsi;generalize hS8:Qb (Q8 r t t.nodes.length) s5 [(m:Int)]=s8 at HTF hC8 Qp4;have c78:w8.cell? ⟨cb,7,none⟩=some tv:=hC8.blk.cell 7 _ rfl;have HC8:=Hh hC8;have HK8:=Hh hK8;have Qp5:=Hh Qp4;clear hc8 hk8 hC8 hK8 Qp4 hS8;go_wp2_with (at_builtin;refine Qt (Q6 w.heap.size) rfl _ _ 26 3 (.int .i64 0) 8 rfl underlying26 Kf rfl tv (Q5 s8.tops) (.int .i64 (m:Int)) rfl rfl Sm rfl HC8.o.t (HF.o.kept HK8.o) (by have:=Qp5.o;have:=HTL.o;simp[Q5];omega) (by have:=Qp5.o;have:=HTL.o;simp[Q5];omega) ?_;intro nv1 w9 Qnq hk2 hat;obtain⟨nA2,nc2,rfl⟩:=Qnq.len;rw[show (Q5 s8.tops++[Value.int .i64 (m:Int)]).length=(Q5 s8.tops).length+1 from by simp] at Qnq hat;have hb9:=HC8.o.blk.kept hk2 (HC8.o.noCb.2.2.2.1);have c79:=hb9.cell 7 _ rfl;have f79:=hb9.free 7);go_roundw
     case rel =>
      have h10:=HC8.o.swapT (l1:=s8.tops++[(m:Int)]) (by have:=Qnq;rwa [show Q5 s8.tops++[.int .i64 (m:Int)]=Q5 (s8.tops++[(m:Int)]) from by simp[Q5]] at this) hk2 (hat.elim .inl fun h=>.inr (.inr h));have Qqy:=(HK8.o.trans (hk2.mono fun k _ hk=>HC8.o.t.2 k hk)).setCell (p:=⟨cb,7,none⟩) (Or.inl HC8.o.inS) (.slice nA2 ((Q5 s8.tops).length+1) nc2);have e9:Yn r t s0 (m:Int)={s8 with tops:=s8.tops++[(m:Int)]}:=HTF.o;have Qnm:({s8 with tops:=s8.tops++[(m:Int)]}:CS).tops.length≤j+1:=by show (s8.tops++[(m:Int)]).length≤_;have:=Qp5.o;simp;omega
      exact K0u
     case measure=>exact Me
   ·obtain rfl:j=t.tops.length:=Om
    go_wp2_with fail;go_returns;have h9:=HAT.o;rw[List.take_length] at h9;exact⟨cb,kv,bv,lv,tv,wv,rfl,h9.1,h9.2.1.mono (fun k hk hS=>by have:w.heap.size≤k:=hS;omega)⟩
structure Qka (t:Q1):Prop where
 n:Qs t=true
 K:Qk t
 size:t.nodes.length≤4000
 ch:Zu t 0 t.tops t.nodes.length
 tk:∀i∈t.tops,InT t i∧33≤(t.at i).kind
theorem Zu.few {t:Q1} {m e:Int} {l:List Int} (h:Zu t m l e):(l.length:Int)≤e-m:=by
 induction l generalizing m with
 |nil=>have:m=e:=h;simp;omega
 |cons k ks ih=>have h1:=h.1.le;have h2:=ih h.2;simp only[List.length_cons];omega
theorem Qjw {t:Q1} (hT:Q00 t=true):Qka t:=by
 unfold Q00 at hT;simp only[Bool.and_eq_true,decide_eq_true_eq,beq_iff_eq] at hT;obtain⟨⟨h1,hn⟩,htp⟩:=hT;obtain⟨hch,htk⟩:=Q63 (Int.le_refl 0) htp;exact⟨hn,Q5n hn,h1,hch,htk⟩
end
theorem Q9f (r:Reg) (t:Q1) (rv tv:Value) (w:World) (hr:Q20 w rv r) (ht:Xt w tv t) (hN:Q2e r) (hX:Q0i t) (hSm:Z1 t) :
  Calls prog 38 #[rv,tv] w fun e w'=>e=.returned (.tuple #[.int .i64 (Zo r t).1,.int .i64 (Zo r t).2])∧Q0 nob w w':=by
 have hr':=hr;have ht':=ht;obtain⟨v0,v1,v2,rfl,d0,d1,d2⟩:=hr;obtain⟨u0,u1,rfl,e0,e1⟩:=ht;have Qny:∀(u:Value) (ds:List Zt),Ji w u ds→∃A c,u=.slice A ds.length c:=fun u ds ⟨A,b,o,c,h,_⟩=>⟨A,c,h⟩
 obtain⟨A0,c0,rfl⟩:=Qny _ _ d0;obtain⟨A1,c1,rfl⟩:=Qny _ _ d1;obtain⟨A2,c2,rfl⟩:=Qny _ _ d2;obtain⟨A3,c3,rfl⟩:∃A c,u0=.slice A t.nodes.length c:=by obtain⟨A,b,o,c,h,_⟩:=e0;exact⟨A,c,h⟩
 obtain⟨A4,c4,rfl⟩:∃A c,u1=.slice A t.tops.length c:=by obtain⟨A,b,o,c,h,_⟩:=e1;exact⟨A,c,h⟩
 clear Qny;have hk0:Q0 nob w ((w.alloc (.cells #[.slice A0 r.comps.length c0,.slice A1 r.ress.length c1,.slice A2 r.evts.length c2] 38)).alloc (.cells #[.slice A3 t.nodes.length c3,.slice A4 t.tops.length c4] 33)):=((Kr _ _).alloc _).alloc _;have hb1:Blk ((w.alloc (.cells #[.slice A0 r.comps.length c0,.slice A1 r.ress.length c1,.slice A2 r.evts.length c2] 38)).alloc (.cells #[.slice A3 t.nodes.length c3,.slice A4 t.tops.length c4] 33)) w.heap.size [.slice A0 r.comps.length c0,.slice A1 r.ress.length c1,.slice A2 r.evts.length c2] 38:=(Blk.new_of _ _ _ rfl).alloc _;have hb2:Blk ((w.alloc (.cells #[.slice A0 r.comps.length c0,.slice A1 r.ress.length c1,.slice A2 r.evts.length c2] 38)).alloc (.cells #[.slice A3 t.nodes.length c3,.slice A4 t.tops.length c4] 33)) (w.heap.size+1) [.slice A3 t.nodes.length c3,.slice A4 t.tops.length c4] 33:=Blk.new_of _ _ _ Sm;generalize hW0:(w.alloc (.cells #[.slice A0 r.comps.length c0,.slice A1 r.ress.length c1,.slice A2 r.evts.length c2] 38)).alloc (.cells #[.slice A3 t.nodes.length c3,.slice A4 t.tops.length c4] 33)=W0 at hk0 hb1 hb2;have g0:=hb1.cell 0 _ rfl;have g1:=hb1.cell 1 _ rfl;have g2:=hb1.cell 2 _ rfl;have g3:=hb2.cell 0 _ rfl;have g4:=hb2.cell 1 _ rfl;have HRV:=Hh (hr'.old hk0.old);have HTV:=Hh (ht'.old hk0.old);have HRR:Hi (Xa W0 w.heap.size 0 r):=Hh ⟨_,_,_,g0,g1,g2,d0.old hk0.old,d1.old hk0.old,d2.old hk0.old⟩;have HTT:Hi (J8 W0 (w.heap.size+1) 0 t):=Hh ⟨_,_,g3,g4,e0.old hk0.old,e1.old hk0.old⟩;have HNM:=Hh hN;have HTX:=Hh hX;have HSM:=Hh hSm;generalize hF:Zo r t=F;have HF:=Hh hF;clear hr' ht' d0 d1 d2 e0 e1 hb1 hb2 hN hX hSm hF;cases tr:Q6t r with
 |false =>
  have HF2:Hi (F=(1,-1)):=Hh (by rw[← HF.o];unfold Zo;rw[tr];rfl);go_enter func38,ntmps38;go_wp2_with (go_at_call 52;refine (Q99 r _ _ HRV.o HNM.o).mono ?_;rw[tr];rintro e w1 ⟨rfl,hk1⟩;have j3:=hk1.cell (fun h=>h) g3;have j4:=hk1.cell (fun h=>h) g4);go_returns;obtain rfl:=HF2.o;exact⟨rfl,hk0.trans hk1⟩
 |true =>
  cases tt:Q00 t with
  |false =>
   have HF2:Hi (F=(1,-1)):=Hh (by rw[← HF.o];unfold Zo;rw[tr,tt];rfl);go_enter func38,ntmps38;go_wp2_with (first|(go_at_call 52;refine (Q99 r _ _ HRV.o HNM.o).mono ?_;rw[tr];rintro e w1 ⟨rfl,hk1⟩;have j3:=hk1.cell (fun h=>h) g3;have j4:=hk1.cell (fun h=>h) g4)|(go_at_call 53;refine (Qav t _ _ (HTV.o.old hk1.old) HTX.o).mono ?_;rw[tt];rintro e w2 ⟨rfl,hk2⟩));go_returns;obtain rfl:=HF2.o;exact⟨rfl,(hk0.trans hk1).trans hk2⟩
  |true =>
   have HF2:Hi (F=((Q0e r t).code,(Q0e r t).node)):=Hh (by rw[← HF.o];unfold Zo;rw[tr,tt];rfl);have hTF:=Qjw tt;have Qp7:=hTF.ch.few;have HTF:=Hh hTF;have HTL:Hi (t.tops.length≤4000):=Hh (by have:=hTF.size;omega);clear hTF Qp7;go_enter func38,ntmps38;go_upto_region 4 with (first|(go_at_call 52;refine (Q99 r _ _ HRV.o HNM.o).mono ?_;rw[tr];rintro e w1 ⟨rfl,hk1⟩;have j3:=hk1.cell (fun h=>h) g3;have j4:=hk1.cell (fun h=>h) g4)|(go_at_call 53;refine (Qav t _ _ (HTV.o.old hk1.old) HTX.o).mono ?_;rw[tt];rintro e w2 ⟨rfl,hk2⟩)|(go_at_call 54;refine (Qem HTF.o.n HTF.o.K HSM.o HTF.o.size HTF.o.tk HTL.o (HRR.o.old (hk1.trans hk2).old) (HTT.o.old (hk1.trans hk2).old)).mono ?_;rintro e w3 ⟨cb,kv,bv,lv,tv,wv,rfl,hch,hk3⟩))
   have p2:w3.cell? ⟨cb,2,none⟩=some (.int .i64 (Q0e r t).code):=hch.blk.cell 2 _ rfl;have p3:w3.cell? ⟨cb,3,none⟩=some (.int .i64 (Q0e r t).node):=hch.blk.cell 3 _ rfl;clear hch;go_quiet (fail);go_wp2_with fail;go_returns;obtain rfl:=HF2.o;exact⟨rfl,(((hk0.trans hk1).trans hk2).trans hk3).trans ((Kr _ _).drewN _)⟩
section
variable {w:World} {wb gb:Nat} {r0 r1 r2 t0 t1 ov:Value} {s:SS} {nv kv wv:Value} {r:Reg} {t:Q1} {E:SS→Int→Int×SS} {f:Nat}
theorem Qj3 (hE:Q3d r t f E) (hQ:∀s i,EqX s (E s i).2) (h:SpR w wb gb r0 r1 r2 t0 t1 ov s nv kv wv) (F:Xl (at2 wb gb) w r t r0 r1 r2 t0 t1) (hok:Qz t s) (hK:Qk t)
  {i:Int} (hi:InT t i) (hif:i≤f) (hkd:(t.at i).kind=8) (hex:∀k∈(t.at i).kids,Qu (t.at k).kind=true) (Qnm:2≤(t.at i).kids.length) (hsm:(t.at i).kids.length≤1048576) (h00:s.code=0) :
  Calls prog 222 #[.pointer (some ⟨wb,0,none⟩),.int .i64 i] w fun e w'=>e=.returned (.int .i64 (Jp r t E i (t.at i) [] (t.at i).kids s).1)∧AtW w wb gb r0 r1 r2 t0 t1 ov (Jp r t E i (t.at i) [] (t.at i).kids s).2 nv kv wv w':=by
 obtain⟨mi,rfl,hnd,nb,no,nc,A,kb,ko,kc,rfl,hl,hml,⟨c0,c1,c2,c3⟩,kl,klc,hA,W0,hW0,h0,F0,hk0,hbx,hkc,cw3,H0,HF0,HK0,HBX,HKC⟩:=h.nodeH F hi;have HOK:=Hh hok;have HI:=Hh hi;obtain⟨X,hx⟩:∃X,X=Jp r t E (mi:Int) (t.at (mi:Int)) [] (t.at (mi:Int)).kids s:=⟨_,rfl⟩;have HX:=Hh hx;rw[← hx];clear hx;have tk11:((t.at (mi:Int)).kind==11)=false:=by rw[hkd];rfl
 have tk5:((t.at (mi:Int)).kind==5)=false:=by rw[hkd];rfl
 have tk1:((t.at (mi:Int)).kind==1)=false:=by rw[hkd];rfl
 have tk2:((t.at (mi:Int)).kind==2)=false:=by rw[hkd];rfl
 have tk3:((t.at (mi:Int)).kind==3)=false:=by rw[hkd];rfl
 have tk4:((t.at (mi:Int)).kind==4)=false:=by rw[hkd];rfl
 have tk6:((t.at (mi:Int)).kind==6)=false:=by rw[hkd];rfl
 have tk7:((t.at (mi:Int)).kind==7)=false:=by rw[hkd];rfl
 have tk8:((t.at (mi:Int)).kind==8)=true:=by rw[hkd];rfl
 obtain⟨z0,z1,z2,z3⟩:=hbx W0 (Kr _ _);have HKD:=Hh hkd;have HLO:=Hh Qnm;have HSM:=Hh hsm;have HIF:=Hh hif;have HEX:Hi (∀k∈(t.at (mi:Int)).kids,InT t k∧k<f∧Qu (t.at k).kind=true):=Hh fun k hk=>⟨hi.kid hK hk,by have:=(hK.mem hi hk).2;omega,hex k hk⟩
 have HKO:=Hh hK;have HE:=Hh hE;have HQ:=Hh hQ;have HA:=Hh hA;have hwl:=h0.wl;have hgl:=h0.gl;clear hkd hbx hkc hk0 F0 h0 F h hok hi hnd hex Qnm hsm hif hK hA hE hQ;generalize hN:t.at (mi:Int)=n at *;have HNN:=Hh hN;clear hN;go_enter func222,ntmps222;go_wp2_with fail;go_loopw [6,7] (fun u6 ci wr=>∃(j:Nat) (z:SS) (ks:List Int),j≤n.kids.length∧ci=.int .i64 j∧Hi (ks.length=j∧z.code=0∧EqX s z∧Qc (Q6 W0.heap.size) 3 wr u6 (Q5 ks)∧AtW W0 wb gb r0 r1 r2 (.slice (some ⟨nb,no,none⟩) t.nodes.length nc) t1 ov z nv kv wv wr∧X=Jp r t E mi n ks (n.kids.drop j) z)) (fun _ ci _=>n.kids.length-(intOf ci).toNat)
 case atStart=>exact⟨0,s,[],Nat.zero_le _,rfl,Hh ⟨rfl,h00,EqX.refl s,Yp _,⟨H0.o.nobk Kz,Kz⟩,HX.o⟩⟩
 case round =>
  obtain⟨j,z,ks,hj,rfl,HR⟩:=hrel;obtain⟨wo,rfl⟩:∃wo:World,wo=wr:=⟨_,rfl⟩;obtain⟨x0,x1,x2,x3⟩:=HBX.o wo HR.o.2.2.2.2.1.2;obtain⟨uA,uc,rfl⟩:=HR.o.2.2.2.1.lenI
  by_cases hlt:j<n.kids.length
  ·obtain⟨k,hk⟩:=Q4 hlt
   obtain⟨hki,hkf,hke⟩:=HEX.o k (Mg hk);obtain rfl:=HA.o Om;have e0:=HKC.o j k hk wo HR.o.2.2.2.2.1.2;have hjn:(j:Int)<(n.kids.length:Int):=Om
   have Qnh:=Hh (HE.o wo wb gb _ _ _ _ _ _ z nv kv wv k HR.o.2.2.2.2.1.1 (HF0.o.kept HR.o.2.2.2.2.1.2) (HOK.o.of HR.o.2.2.1) hki hkf hke);have HXJ:Hi (X=(if (E z k).2.code≠0 then (0,(E z k).2) else Jp r t E mi n (ks++[(E z k).1]) (n.kids.drop (j+1)) (E z k).2)):=Hh (by rw[HR.o.2.2.2.2.2,Qh hk,Q1s]);have Qnx:=Hh (HR.o.2.2.1.trans (HQ.o z k));have Qo2:=Hh HR.o.2.2.2.1;have HKR:=Hh HR.o.2.2.2.2.1.2;have Qt8:W0.heap.size≤wo.heap.size:=HKR.o.size;have Qpm:Hi (ks.length=j):=Hh HR.o.1;have hns:∀q,Q6 W0.heap.size q→¬ at2 wb gb q:=fun q hq e=>by have:W0.heap.size≤q:=hq;rcases e with e|e<;>omega
   have HNS:=Hh hns;have Qos:Hi (ks.length≤1048576):=Hh (by have:=HSM.o;have:=Qpm.o;omega);clear hk hki hkf hke hns HR;generalize E z k=q at Qnh HXJ Qnx;obtain⟨k1,z1⟩:=q;dsimp only at Qnh HXJ Qnx;cases hc:(z1.code != 0) with
   |true =>
    have HC:=Hh hc;go_wp2_with (first|(go_at_call 212;refine Qnh.o.mono ?_;rintro e w2 ⟨rfl,Qnl⟩;have H2:=Hh Qnl.1;have HK2:=Hh (HKR.o.trans Qnl.2);have Qno:=Hh (Qo2.o.kept Qnl.2 (fun q hq=>HNS.o q (Qo2.o.2 q hq)));have Qoa:wo.heap.size≤w2.heap.size:=Qnl.2.size;clear Qnl)|(at_builtin;refine Qt (Q6 W0.heap.size) rfl _ _ 26 3 (.int .i64 0) 8 rfl underlying26 Kf rfl (.slice uA ks.length uc) (Q5 ks) (.int .i64 k1) rfl rfl Sm rfl Qno.o (fun q hq=>by show W0.heap.size≤q;omega) (by have:=Qos.o;simp[Q5];omega) (by have:=Qos.o;simp[Q5];omega) ?_;intro nv1 w5 Qnk hk5 Qnp;have HK5:=Hh (Q16 HK2.o hk5 (fun q hq=>Qno.o.2 q hq));have H5:=Hh (H2.o.row hk5 (fun q hq=>HNS.o q (Qno.o.2 q hq)) H0.o HK5.o Qnx.o);have HO5:=Hh Qnk;have pc5:w5.cell? ⟨wb,13,none⟩=some (.int .i64 z1.code):=H5.o.blk.cell 13 _ rfl;clear Qnk hk5 Qnp));go_returns;rw[HXJ.o,Ps (by simpa using HC.o)];exact⟨rfl,H5.o,HK0.o.trans HK5.o⟩
   |false =>
    have HC:=Hh hc;go_wp2_with (first|(go_at_call 212;refine Qnh.o.mono ?_;rintro e w2 ⟨rfl,Qnl⟩;have H2:=Hh Qnl.1;have HK2:=Hh (HKR.o.trans Qnl.2);have Qno:=Hh (Qo2.o.kept Qnl.2 (fun q hq=>HNS.o q (Qo2.o.2 q hq)));have Qoa:wo.heap.size≤w2.heap.size:=Qnl.2.size;clear Qnl)|(at_builtin;refine Qt (Q6 W0.heap.size) rfl _ _ 26 3 (.int .i64 0) 8 rfl underlying26 Kf rfl (.slice uA ks.length uc) (Q5 ks) (.int .i64 k1) rfl rfl Sm rfl Qno.o (fun q hq=>by show W0.heap.size≤q;omega) (by have:=Qos.o;simp[Q5];omega) (by have:=Qos.o;simp[Q5];omega) ?_;intro nv1 w5 Qnk hk5 Qnp;have HK5:=Hh (Q16 HK2.o hk5 (fun q hq=>Qno.o.2 q hq));have H5:=Hh (H2.o.row hk5 (fun q hq=>HNS.o q (Qno.o.2 q hq)) H0.o HK5.o Qnx.o);have HO5:=Hh Qnk;have pc5:w5.cell? ⟨wb,13,none⟩=some (.int .i64 z1.code):=H5.o.blk.cell 13 _ rfl;clear Qnk hk5 Qnp));go_round
    case rel=>exact⟨j+1,z1,ks++[k1],Om,Gm,Hh ⟨by have:=Qpm.o;simp;omega,by simpa using HC.o,Qnx.o,by have:=HO5.o;simpa[Q5] using this,⟨H5.o,HK5.o⟩,by rw[HXJ.o,Ng (by simpa using HC.o)]⟩⟩
    case measure=>exact Me
  ·have hje:j=n.kids.length:=Om
   have Qpe:decide (j<n.kids.length)=false:=Df hlt;have Qqk:n.kids.length≤j:=Om
   have HXE:Hi (X=Jw r t z mi n ks):=Hh (by rw[HR.o.2.2.2.2.2,Dn Om];exact Q19 HR.o.2.1);have HKE:Hi (ks.length=n.kids.length):=Hh (by rw[HR.o.1,hje]);have Qnx:=Hh (HOK.o.of HR.o.2.2.1);have Qo2:=Hh HR.o.2.2.2.1;have HAT:=Hh HR.o.2.2.2.2.1;clear HR hje hlt;obtain⟨k0,hk0⟩:=Q4 (xs:=ks) (j:=0) (by have:=HKE.o;have:=HLO.o;omega);obtain⟨k1,hk1⟩:=Q4 (xs:=ks) (j:=1) (by have:=HKE.o;have:=HLO.o;omega);have hA2:=Qo2.o.openI;obtain⟨A3,g,c3',e3,_,_,hA3,hc3⟩:=hA2;injection e3 with e31 _ e33
   obtain⟨e41,hgS,_⟩:=hA3 (by have:=HKE.o;have:=HLO.o;omega);rw[e41] at e31;subst e31;have r0':=(hc3 0 k0 hk0).1;have r1':=(hc3 1 k1 hk1).1;have hp1:1<ks.length:=by have:=HKE.o;have:=HLO.o;omega
   have Qxv:(1:Int)<(ks.length:Int):=Om
   have hp0:0<ks.length:=by have:=HKE.o;have:=HLO.o;omega
   have Qvw:(0:Int)<(ks.length:Int):=Om
   have HXC:Hi (X=(if (opK n.i k0 (Q23 k0) k1 (Q23 k1)).2=0 then ((opK n.i k0 (Q23 k0) k1 (Q23 k1)).1,z) else (0,z.fail 4 mi))):=Hh (by
    have g0:Z7 ks 0=k0:=by simp[Z7,hk0]
    have g1:Z7 ks 1=k1:=by simp[Z7,hk1]
    rw[HXE.o];unfold Jw;rw[Ng (by rw[HKD.o];decide)];rw[Ng (by rw[HKD.o];decide)];rw[Ng (by rw[HKD.o];decide)];rw[Ng (by rw[HKD.o];decide)];rw[Ng (by rw[HKD.o];decide)];rw[Ng (by rw[HKD.o];decide)];rw[Ng (by rw[HKD.o];decide)];rw[Ps HKD.o,g0,g1])
   have HOP:=Hh (fun w=>Qg2 n.i k0 (Q23 k0) k1 (Q23 k1) w);obtain⟨c0,hc0,hd0⟩:∃c0,Q23 k0=c0∧((k0==2)=true∧c0=0∨(k0==2)=false∧(k0==3)=true∧c0=0∨(k0==2)=false∧(k0==3)=false∧c0=1):=Q9q k0;obtain⟨c1,hc1,hd1⟩:∃c1,Q23 k1=c1∧((k1==2)=true∧c1=0∨(k1==2)=false∧(k1==3)=true∧c1=0∨(k1==2)=false∧(k1==3)=false∧c1=1):=Q9q k1;rw[hc0,hc1] at HXC HOP;generalize opK n.i k0 c0 k1 c1=P at HXC HOP;obtain⟨p1,p2⟩:=P;dsimp only at HXC;clear hc3 e33 hA3 e41 hgS hk0 hk1 hc0 hc1;have Qri:=Hh HAT.o.1;have HKT:=Hh (HK0.o.trans HAT.o.2);clear Qo2;go_upto_region 36 with fail
   generalize hW1:wo.alloc (.cells #[.int .i64 k0,.int .i64 1,.float .f64 0,.float .f64 0] 106)=W1;have hk1:Q0 nob wo W1:=hW1▸(Kr _ _).alloc _;have b10:Blk W1 wo.heap.size [.int .i64 k0,.int .i64 1,.float .f64 0,.float .f64 0] 106:=hW1▸Blk.new_of _ _ _ rfl;have hs1:wo.heap.size<W1.heap.size:=by rw[← hW1];simp
   have r11:W1.cell? ⟨g,1,none⟩=some (.int .i64 k1):=hk1.cell (fun h=>h) r1';clear hW1;go_upto_region 37 with fail
   generalize hW2:W1.alloc (.cells #[.int .i64 k1,.int .i64 1,.float .f64 0,.float .f64 0] 106)=W2;have hk2':Q0 nob wo W2:=hW2▸hk1.alloc _;have b20:Blk W2 wo.heap.size [.int .i64 k0,.int .i64 1,.float .f64 0,.float .f64 0] 106:=hW2▸b10.alloc _;have b21:Blk W2 W1.heap.size [.int .i64 k1,.int .i64 1,.float .f64 0,.float .f64 0] 106:=hW2▸Blk.new_of _ _ _ rfl;clear hW2
   have fb:∀(W:World) (i0 i1:Int),Q0 nob wo W→Blk W wo.heap.size [.int .i64 k0,.int .i64 i0,.float .f64 0,.float .f64 0] 106→Blk W W1.heap.size [.int .i64 k1,.int .i64 i1,.float .f64 0,.float .f64 0] 106 →
     W.cell? ⟨g,0,none⟩=some (.int .i64 k0)∧W.cell? ⟨g,1,none⟩=some (.int .i64 k1)∧W.cell? ⟨w.heap.size,2,none⟩=some (.int .i64 n.i) ∧
     W.cell? ⟨wo.heap.size,0,none⟩=some (.int .i64 k0)∧W.cell? ⟨wo.heap.size,1,none⟩=some (.int .i64 i0)∧W.cell? ⟨wo.heap.size,2,none⟩=some (.float .f64 0)∧W.cell? ⟨wo.heap.size,3,none⟩=some (.float .f64 0) ∧
     W.cell? ⟨W1.heap.size,0,none⟩=some (.int .i64 k1)∧W.cell? ⟨W1.heap.size,1,none⟩=some (.int .i64 i1)∧W.cell? ⟨W1.heap.size,2,none⟩=some (.float .f64 0)∧W.cell? ⟨W1.heap.size,3,none⟩=some (.float .f64 0)∧W.frozen? ⟨wo.heap.size,1,none⟩=false∧W.frozen? ⟨W1.heap.size,1,none⟩=false :=
    fun W i0 i1 hk e0 e1=>⟨hk.cell (fun h=>h) r0',hk.cell (fun h=>h) r1',hk.cell (fun h=>h) x2,e0.cell 0 _ rfl,e0.cell 1 _ rfl,e0.cell 2 _ rfl,e0.cell 3 _ rfl,e1.cell 0 _ rfl,e1.cell 1 _ rfl,e1.cell 2 _ rfl,e1.cell 3 _ rfl,e0.free 1,e1.free 1⟩
   have hne:wo.heap.size≠W1.heap.size:=Om
   have hkb:Q0 nob wo (W2.setCell ⟨wo.heap.size,1,none⟩ (.int .i64 0)):=hk2'.setCell (Or.inr (Nat.le_refl _)) _;have hkc':Q0 nob wo (W2.setCell ⟨W1.heap.size,1,none⟩ (.int .i64 0)):=hk2'.setCell (Or.inr (Nat.le_of_lt hs1)) _;have hkd:Q0 nob wo ((W2.setCell ⟨wo.heap.size,1,none⟩ (.int .i64 0)).setCell ⟨W1.heap.size,1,none⟩ (.int .i64 0)):=hkb.setCell (Or.inr (Nat.le_of_lt hs1)) _;obtain⟨fa1,fa2,fa3,fa4,fa5,fa6,fa7,fa8,fa9,fa10,fa11,fa12,fa13⟩:=fb W2 1 1 hk2' b20 b21;obtain⟨fb1,fb2,fb3,fb4,fb5,fb6,fb7,fb8,fb9,fb10,fb11,fb12,fb13⟩:=fb _ 0 1 hkb (b20.set 1 _) (b21.other (p:=⟨wo.heap.size,1,none⟩) (Ne.symm hne) _);obtain⟨fc1,fc2,fc3,fc4,fc5,fc6,fc7,fc8,fc9,fc10,fc11,fc12,fc13⟩:=fb _ 1 0 hkc' (b20.other (p:=⟨W1.heap.size,1,none⟩) hne _) (b21.set 1 _);obtain⟨fd1,fd2,fd3,fd4,fd5,fd6,fd7,fd8,fd9,fd10,fd11,fd12,fd13⟩:=fb _ 0 0 hkd ((b20.set 1 _).other (p:=⟨W1.heap.size,1,none⟩) hne _) ((b21.other (p:=⟨wo.heap.size,1,none⟩) (Ne.symm hne) _).set 1 _);clear fb b20 b21 b10 r11;cases hp2:(p2 != 0) with
   |true =>
    have HP2:=Hh hp2;have HXX:Hi (X=(0,z.fail 4 mi)):=Hh (by rw[HXC.o,Ng (by simpa using HP2.o)]);rcases hd0 with ⟨a2,rfl⟩|⟨a2,a3,rfl⟩|⟨a2,a3,rfl⟩<;>rcases hd1 with ⟨b2,rfl⟩|⟨b2,b3,rfl⟩|⟨b2,b3,rfl⟩
    all_goals
     go_wp2_with (first|(go_at_call 110;refine (HOP.o _).mono ?_;rintro e w2 ⟨i2,x2,y2,he,hk2⟩;dsimp only at he;subst he;have HK2:=Hh (Kt (by assumption:Q0 nob wo _) hk2);have H2:=Hh (Qri.o.nobk HK2.o))|(go_at_call 136;refine (Qw (H2.o.nobk (by repeat' first|exact Kr _ _|apply Ka|apply Kd|apply Kn|(refine Q0.setCell ?_ (Or.inr (by first|exact Nat.le_refl _|(simp<;>omega))) _))) _ _).mono ?_;rintro e w3 ⟨rfl,hat⟩));go_returns;rw[HXX.o];exact⟨rfl,hat.1,(HKT.o.trans ((HK2.o.trans (by repeat' first|exact Kr _ _|apply Ka|apply Kd|apply Kn|(refine Q0.setCell ?_ (Or.inr (by first|exact Nat.le_refl _|(simp<;>omega))) _))).ofNob _)).trans hat.2⟩
   |false =>
    have HP2:=Hh hp2;have HXX:Hi (X=(p1,z)):=Hh (by rw[HXC.o,Ps (by simpa using HP2.o)]);rcases hd0 with ⟨a2,rfl⟩|⟨a2,a3,rfl⟩|⟨a2,a3,rfl⟩<;>rcases hd1 with ⟨b2,rfl⟩|⟨b2,b3,rfl⟩|⟨b2,b3,rfl⟩
    all_goals
     go_wp2_with (go_at_call 110;refine (HOP.o _).mono ?_;rintro e w2 ⟨i2,x2,y2,he,hk2⟩;dsimp only at he;subst he;have HK2:=Hh (Kt (by assumption:Q0 nob wo _) hk2));go_returns;rw[HXX.o];exact⟨rfl,Qri.o.nobk (HK2.o.trans (by repeat' first|exact Kr _ _|apply Ka|apply Kd|apply Kn|(refine Q0.setCell ?_ (Or.inr (by first|exact Nat.le_refl _|(simp<;>omega))) _))),HKT.o.trans ((HK2.o.trans (by repeat' first|exact Kr _ _|apply Ka|apply Kd|apply Kn|(refine Q0.setCell ?_ (Or.inr (by first|exact Nat.le_refl _|(simp<;>omega))) _))).ofNob _)⟩
end
end Go.Proofs.YtkgkafjachjafaaGreat
