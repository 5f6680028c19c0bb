/- Part 10 of: FnExactEffects answers true; no condition. -/
import Derived.Deep.RegionHeld3
import Derived.Test.YtkgkafjachjafaaGreatY07
set_option linter.unusedVariables false
set_option maxHeartbeats 1000000
open Go Go.RowKit
namespace Go.Proofs.YtkgkafjachjafaaGreat
open Tryz
theorem Qj.apart {S:Nat→Prop} {w:World} {v:Value} {xs:List Int} (h:Qj S w fun w=>Qf w v xs) {b o n c:Nat} (hv:v=.slice (some ⟨b,o,none⟩) n c) (h0:0<xs.length):¬ S b:=by
 intro hS;obtain⟨x,hx⟩:=Q4 (xs:=xs) (j:=0) h0;have hk:Q0 S w (w.setCell ⟨b,o,none⟩ (.bool true)):=(Kr _ _).setCell (p:=⟨b,o,none⟩) (Or.inl hS) _;obtain⟨A,b1,o1,c1,hv1,_,_,hA,hc⟩:=h.now;obtain⟨A',b2,o2,c2,hv2,_,_,hA',hc'⟩:=h _ hk;have e1:=hA h0;have e2:=hA' h0;subst e1;subst e2;subst hv;injection hv1 with p1 _ _
 injection hv2 with p2 _ _
 cases p1;cases p2;have q1:=hc 0 x hx;have q2:=hc' 0 x hx;rw[Nat.add_zero] at q1 q2;have:(w.setCell ⟨b,o,none⟩ (.bool true)).cell? ⟨b,o,none⟩=some (.bool true):=World.cell?_setCell_same' _ _ _ (by rw[q1];rfl);rw[this] at q2;cases q2
section
variable {S:Nat→Prop} {w:World} {cb rb ro tb to:Nat} {s:CS} {kv bv lv tv wv:Value}
theorem Qls (h:J0 S w cb ⟨rb,ro,none⟩ ⟨tb,to,none⟩ s kv bv lv tv wv) (r:Reg) (t:Q1) (hr:Qj S w fun w=>Xa w rb ro r) (hok:Qe t s)
  (i:Int) (n:Qn) (nk:Value) (hnk:Qj S w fun w=>Qf w nk n.kids) (k:Int) (ks:List Int) (Qnf:n.kids=k::ks) (hk:0≤k∧k<t.nodes.length) (h14:n.kind=14) (hS:Jh S w) :
  Calls prog 172 #[.pointer (some ⟨cb,0,none⟩),.int .i64 i,.agg #[.int .i64 n.kind,.string n.text,.int .i64 n.i,nk]] w fun e w'=>e=.returned (.tuple #[])∧Q31 S w cb ⟨rb,ro,none⟩ ⟨tb,to,none⟩ (Qy r t s i n) kv bv lv tv wv w':=by
 have hcb:=h.blk.lt;have hk0:Q0 nob w (w.alloc (.cells #[.int .i64 n.kind,.string n.text,.int .i64 n.i,nk] 70)):=(Kr _ _).alloc _;have hbl:=Blk.new w [.int .i64 n.kind,.string n.text,.int .i64 n.i,nk] 70;have Qpi:=(hnk.now).old hk0.old;obtain⟨A,b,o,c,rfl,hl,hlc,hA,hc⟩:=Qpi;obtain rfl:=hA (by rw[Qnf];simp);have e0:=hc 0 k (by rw[Qnf];rfl);have Qnm:0<n.kids.length:=by rw[Qnf];simp
 rw[h14] at hbl hk0 hc e0 ⊢;generalize hW0:w.alloc (.cells #[.int .i64 14,.string n.text,.int .i64 n.i,.slice (some ⟨b,o,none⟩) n.kids.length c] 70)=W0 at hk0 hc e0;have hb0:Blk W0 w.heap.size [.int .i64 14,.string n.text,.int .i64 n.i,.slice (some ⟨b,o,none⟩) n.kids.length c] 70:=hW0▸hbl;have Qqq:b≠cb:=fun e=>(hnk.apart rfl (by rw[Qnf];simp)) (e▸h.inS)
 have s0:∀W,Q0 (fun k=>k=cb) W0 W→W.cell? ⟨w.heap.size,3,none⟩=some (.slice (some ⟨b,o,none⟩) n.kids.length c):=fun W h=>h.cell So (hb0.cell 3 _ rfl)
 have s1:∀W,Q0 (fun k=>k=cb) W0 W→W.cell? ⟨w.heap.size,1,none⟩=some (.string n.text):=fun W h=>h.cell So (hb0.cell 1 _ rfl)
 have s2:∀W,Q0 (fun k=>k=cb) W0 W→W.cell? ⟨b,o,none⟩=some (.int .i64 k):=fun W h=>h.cell Qqq (by simpa using e0)
 have c0:=hb0.cell 0 _ rfl;have hr0:Q0 (fun k=>k=cb) W0 W0:=Kr _ _;have H0:=Hh (h.nobk hk0);have HR:=Hh (hr.kept (hk0.ofNob S));have HKS:=Hh Qnf;have HB:Hi (0≤k∧k<((Qi r s n.text i).2.kinds.length:Int)):=Hh ⟨hk.1,by rw[(hok.column r n.text i).kinds];exact hk.2⟩;have hm:s.withs.length≤140737488355328:=by have:=hok.withs;omega
 clear hc e0 hb0 hbl hnk hr h hA Qnf;go_enter func172,ntmps172;go_wp2_with fail;go_region_held3 (fun W=>Q0 (fun k=>k=cb) W0 W) (first|assumption|exact hr0.drew|exact Kd ‹_›|exact Kt ‹_› ‹_›) ((first|(go_at_call 198;refine (Q7v (H0.o.drew) r ((HR.o.kept (Kr _ _).drew).now) hm _ _).mono ?_;rintro e w1 ⟨rfl,hat⟩;have hk1:=(hr0.drew).trans hat.2;dsimp only)|(go_at_call 197;refine (Xp hat.1 _ _ _ HB.o.1 HB.o.2).mono ?_;rintro e w2 ⟨rfl,Qnl⟩;have hk2:=hk1.trans Qnl.2;dsimp only)));go_wp2_with fail;go_returns;refine⟨rfl,?_,hk0.ofNob _ |>.trans hk2⟩;have hke:kidAt n 0=k:=by rw[kidAt,HKS.o];rfl
 rw[Qy,h14,Ng Dc,Ng Dc,Ps rfl,hke];exact Qnl.1
theorem Qm4 (h:J0 S w cb ⟨rb,ro,none⟩ ⟨tb,to,none⟩ s kv bv lv tv wv) (r:Reg) (t:Q1) (hr:Qj S w fun w=>Xa w rb ro r) (hok:Qe t s)
  (i:Int) (n:Qn) (nk:Value) (hnk:Qj S w fun w=>Qf w nk n.kids) (k:Int) (ks:List Int) (Qnf:n.kids=k::ks) (hk:0≤k∧k<t.nodes.length) (h15:n.kind=15) (hS:Jh S w) :
  Calls prog 172 #[.pointer (some ⟨cb,0,none⟩),.int .i64 i,.agg #[.int .i64 n.kind,.string n.text,.int .i64 n.i,nk]] w fun e w'=>e=.returned (.tuple #[])∧Q31 S w cb ⟨rb,ro,none⟩ ⟨tb,to,none⟩ (Qy r t s i n) kv bv lv tv wv w':=by
 have hcb:=h.blk.lt;have hk0:Q0 nob w (w.alloc (.cells #[.int .i64 n.kind,.string n.text,.int .i64 n.i,nk] 70)):=(Kr _ _).alloc _;have hbl:=Blk.new w [.int .i64 n.kind,.string n.text,.int .i64 n.i,nk] 70;have Qpi:=(hnk.now).old hk0.old;obtain⟨A,b,o,c,rfl,hl,hlc,hA,hc⟩:=Qpi;obtain rfl:=hA (by rw[Qnf];simp);have e0:=hc 0 k (by rw[Qnf];rfl);have Qnm:0<n.kids.length:=by rw[Qnf];simp
 rw[h15] at hbl hk0 hc e0 ⊢;generalize hW0:w.alloc (.cells #[.int .i64 15,.string n.text,.int .i64 n.i,.slice (some ⟨b,o,none⟩) n.kids.length c] 70)=W0 at hk0 hc e0;have hb0:Blk W0 w.heap.size [.int .i64 15,.string n.text,.int .i64 n.i,.slice (some ⟨b,o,none⟩) n.kids.length c] 70:=hW0▸hbl;have Qqq:b≠cb:=fun e=>(hnk.apart rfl (by rw[Qnf];simp)) (e▸h.inS)
 have s0:∀W,Q0 (fun k=>k=cb) W0 W→W.cell? ⟨w.heap.size,3,none⟩=some (.slice (some ⟨b,o,none⟩) n.kids.length c):=fun W h=>h.cell So (hb0.cell 3 _ rfl)
 have s1:∀W,Q0 (fun k=>k=cb) W0 W→W.cell? ⟨w.heap.size,1,none⟩=some (.string n.text):=fun W h=>h.cell So (hb0.cell 1 _ rfl)
 have s2:∀W,Q0 (fun k=>k=cb) W0 W→W.cell? ⟨b,o,none⟩=some (.int .i64 k):=fun W h=>h.cell Qqq (by simpa using e0)
 have c0:=hb0.cell 0 _ rfl;have hr0:Q0 (fun k=>k=cb) W0 W0:=Kr _ _;have H0:=Hh (h.nobk hk0);have HR:=Hh (hr.kept (hk0.ofNob S));have HKS:=Hh Qnf;have HB:Hi (0≤k∧k<((J4 r s 2 n.text i).2.kinds.length:Int)):=Hh ⟨hk.1,by rw[(hok.named r 2 n.text i).kinds];exact hk.2⟩;have hm:s.withs.length≤140737488355328:=by have:=hok.withs;omega
 clear hc e0 hb0 hbl hnk hr h hA Qnf;go_enter func172,ntmps172;go_wp2_with fail;go_region_held3 (fun W=>Q0 (fun k=>k=cb) W0 W) (first|assumption|exact hr0.drew|exact Kd ‹_›|exact Kt ‹_› ‹_›) ((first|(go_at_call 199;refine (Q2z (H0.o.drew) r ((HR.o.kept (Kr _ _).drew).now) _ _ _).mono ?_;rintro e w1 ⟨rfl,hat⟩;have hk1:=(hr0.drew).trans hat.2;dsimp only)|(go_at_call 197;refine (Xp hat.1 _ _ _ HB.o.1 HB.o.2).mono ?_;rintro e w2 ⟨rfl,Qnl⟩;have hk2:=hk1.trans Qnl.2;dsimp only)));go_wp2_with fail;go_returns;refine⟨rfl,?_,hk0.ofNob _ |>.trans hk2⟩;have hke:kidAt n 0=k:=by rw[kidAt,HKS.o];rfl
 rw[Qy,h15,Ng Dc,Ng Dc,Ng Dc,Ps rfl,hke];exact Qnl.1
theorem Qm7 (h:J0 S w cb ⟨rb,ro,none⟩ ⟨tb,to,none⟩ s kv bv lv tv wv) (r:Reg) (t:Q1) (hr:Qj S w fun w=>Xa w rb ro r) (hok:Qe t s)
  (i:Int) (n:Qn) (nk:Value) (hnk:Qj S w fun w=>Qf w nk n.kids) (k:Int) (ks:List Int) (Qnf:n.kids=k::ks) (hk:0≤k∧k<t.nodes.length) (h19:n.kind=19) (hS:Jh S w) :
  Calls prog 172 #[.pointer (some ⟨cb,0,none⟩),.int .i64 i,.agg #[.int .i64 n.kind,.string n.text,.int .i64 n.i,nk]] w fun e w'=>e=.returned (.tuple #[])∧Q31 S w cb ⟨rb,ro,none⟩ ⟨tb,to,none⟩ (Qy r t s i n) kv bv lv tv wv w':=by
 have hcb:=h.blk.lt;have hk0:Q0 nob w (w.alloc (.cells #[.int .i64 n.kind,.string n.text,.int .i64 n.i,nk] 70)):=(Kr _ _).alloc _;have hbl:=Blk.new w [.int .i64 n.kind,.string n.text,.int .i64 n.i,nk] 70;have Qpi:=(hnk.now).old hk0.old;obtain⟨A,b,o,c,rfl,hl,hlc,hA,hc⟩:=Qpi;obtain rfl:=hA (by rw[Qnf];simp);have e0:=hc 0 k (by rw[Qnf];rfl);have Qnm:0<n.kids.length:=by rw[Qnf];simp
 rw[h19] at hbl hk0 hc e0 ⊢;generalize hW0:w.alloc (.cells #[.int .i64 19,.string n.text,.int .i64 n.i,.slice (some ⟨b,o,none⟩) n.kids.length c] 70)=W0 at hk0 hc e0;have hb0:Blk W0 w.heap.size [.int .i64 19,.string n.text,.int .i64 n.i,.slice (some ⟨b,o,none⟩) n.kids.length c] 70:=hW0▸hbl;have Qqq:b≠cb:=fun e=>(hnk.apart rfl (by rw[Qnf];simp)) (e▸h.inS)
 have s0:∀W,Q0 (fun k=>k=cb) W0 W→W.cell? ⟨w.heap.size,3,none⟩=some (.slice (some ⟨b,o,none⟩) n.kids.length c):=fun W h=>h.cell So (hb0.cell 3 _ rfl)
 have s1:∀W,Q0 (fun k=>k=cb) W0 W→W.cell? ⟨w.heap.size,1,none⟩=some (.string n.text):=fun W h=>h.cell So (hb0.cell 1 _ rfl)
 have s2:∀W,Q0 (fun k=>k=cb) W0 W→W.cell? ⟨b,o,none⟩=some (.int .i64 k):=fun W h=>h.cell Qqq (by simpa using e0)
 have c0:=hb0.cell 0 _ rfl;have hr0:Q0 (fun k=>k=cb) W0 W0:=Kr _ _;have H0:=Hh (h.nobk hk0);have HR:=Hh (hr.kept (hk0.ofNob S));have HKS:=Hh Qnf;have HB:Hi (0≤k∧k<((J4 r s 3 n.text i).2.kinds.length:Int)):=Hh ⟨hk.1,by rw[(hok.named r 3 n.text i).kinds];exact hk.2⟩;have hm:s.withs.length≤140737488355328:=by have:=hok.withs;omega
 clear hc e0 hb0 hbl hnk hr h hA Qnf;go_enter func172,ntmps172;go_wp2_with fail;go_region_held3 (fun W=>Q0 (fun k=>k=cb) W0 W) (first|assumption|exact hr0.drew|exact Kd ‹_›|exact Kt ‹_› ‹_›) ((first|(go_at_call 199;refine (Q2z (H0.o.drew) r ((HR.o.kept (Kr _ _).drew).now) _ _ _).mono ?_;rintro e w1 ⟨rfl,hat⟩;have hk1:=(hr0.drew).trans hat.2;dsimp only)|(go_at_call 197;refine (Xp hat.1 _ _ _ HB.o.1 HB.o.2).mono ?_;rintro e w2 ⟨rfl,Qnl⟩;have hk2:=hk1.trans Qnl.2;dsimp only)));go_wp2_with fail;go_returns;refine⟨rfl,?_,hk0.ofNob _ |>.trans hk2⟩;have hke:kidAt n 0=k:=by rw[kidAt,HKS.o];rfl
 rw[Qy,h19,Ng Dc,Ng Dc,Ng Dc,Ng Dc,Ps rfl,hke];exact Qnl.1
theorem Qll (h:J0 S w cb ⟨rb,ro,none⟩ ⟨tb,to,none⟩ s kv bv lv tv wv) (r:Reg) (t:Q1) (hr:Qj S w fun w=>Xa w rb ro r) (hok:Qe t s)
  (i:Int) (n:Qn) (nk:Value) (hnk:Qj S w fun w=>Qf w nk n.kids) (k:Int) (ks:List Int) (Qnf:n.kids=k::ks) (hk:0≤k∧k<t.nodes.length) (h23:n.kind=23) (hS:Jh S w) :
  Calls prog 172 #[.pointer (some ⟨cb,0,none⟩),.int .i64 i,.agg #[.int .i64 n.kind,.string n.text,.int .i64 n.i,nk]] w fun e w'=>e=.returned (.tuple #[])∧Q31 S w cb ⟨rb,ro,none⟩ ⟨tb,to,none⟩ (Qy r t s i n) kv bv lv tv wv w':=by
 have hcb:=h.blk.lt;have hk0:Q0 nob w (w.alloc (.cells #[.int .i64 n.kind,.string n.text,.int .i64 n.i,nk] 70)):=(Kr _ _).alloc _;have hbl:=Blk.new w [.int .i64 n.kind,.string n.text,.int .i64 n.i,nk] 70;have Qpi:=(hnk.now).old hk0.old;obtain⟨A,b,o,c,rfl,hl,hlc,hA,hc⟩:=Qpi;obtain rfl:=hA (by rw[Qnf];simp);have e0:=hc 0 k (by rw[Qnf];rfl);have Qnm:0<n.kids.length:=by rw[Qnf];simp
 rw[h23] at hbl hk0 hc e0 ⊢;generalize hW0:w.alloc (.cells #[.int .i64 23,.string n.text,.int .i64 n.i,.slice (some ⟨b,o,none⟩) n.kids.length c] 70)=W0 at hk0 hc e0;have hb0:Blk W0 w.heap.size [.int .i64 23,.string n.text,.int .i64 n.i,.slice (some ⟨b,o,none⟩) n.kids.length c] 70:=hW0▸hbl;have Qqq:b≠cb:=fun e=>(hnk.apart rfl (by rw[Qnf];simp)) (e▸h.inS)
 have s0:∀W,Q0 (fun k=>k=cb) W0 W→W.cell? ⟨w.heap.size,3,none⟩=some (.slice (some ⟨b,o,none⟩) n.kids.length c):=fun W h=>h.cell So (hb0.cell 3 _ rfl)
 have s1:∀W,Q0 (fun k=>k=cb) W0 W→W.cell? ⟨w.heap.size,1,none⟩=some (.string n.text):=fun W h=>h.cell So (hb0.cell 1 _ rfl)
 have s2:∀W,Q0 (fun k=>k=cb) W0 W→W.cell? ⟨b,o,none⟩=some (.int .i64 k):=fun W h=>h.cell Qqq (by simpa using e0)
 have c0:=hb0.cell 0 _ rfl;have hr0:Q0 (fun k=>k=cb) W0 W0:=Kr _ _;have H0:=Hh (h.nobk hk0);have HR:=Hh (hr.kept (hk0.ofNob S));have HKS:=Hh Qnf;have HB:Hi (0≤k∧k<((J4 r s 1 n.text i).2.kinds.length:Int)):=Hh ⟨hk.1,by rw[(hok.named r 1 n.text i).kinds];exact hk.2⟩;have hm:s.withs.length≤140737488355328:=by have:=hok.withs;omega
 clear hc e0 hb0 hbl hnk hr h hA Qnf;go_enter func172,ntmps172;go_wp2_with fail;go_region_held3 (fun W=>Q0 (fun k=>k=cb) W0 W) (first|assumption|exact hr0.drew|exact Kd ‹_›|exact Kt ‹_› ‹_›) ((first|(go_at_call 199;refine (Q2z (H0.o.drew) r ((HR.o.kept (Kr _ _).drew).now) _ _ _).mono ?_;rintro e w1 ⟨rfl,hat⟩;have hk1:=(hr0.drew).trans hat.2;dsimp only)|(go_at_call 197;refine (Xp hat.1 _ _ _ HB.o.1 HB.o.2).mono ?_;rintro e w2 ⟨rfl,Qnl⟩;have hk2:=hk1.trans Qnl.2;dsimp only)));go_wp2_with fail;go_returns;refine⟨rfl,?_,hk0.ofNob _ |>.trans hk2⟩;have hke:kidAt n 0=k:=by rw[kidAt,HKS.o];rfl
 rw[Qy,h23,Ng Dc,Ng Dc,Ng Dc,Ng Dc,Ng Dc,Ps rfl,hke];exact Qnl.1
end
end Go.Proofs.YtkgkafjachjafaaGreat
