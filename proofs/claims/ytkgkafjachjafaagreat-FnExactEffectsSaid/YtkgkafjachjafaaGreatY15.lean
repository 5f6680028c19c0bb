/- Part 15 of: FnExactEffects answers true; no condition. -/
import Derived.Deep.RegionHeld3
import Derived.Deep.DeepCutAuto
import Derived.Test.YtkgkafjachjafaaGreatY07
import Derived.Test.YtkgkafjachjafaaGreatY08
set_option linter.unusedVariables false
set_option maxHeartbeats 2000000
open Go Go.RowKit
namespace Go.Proofs.YtkgkafjachjafaaGreat
open Tryz
section
variable {S:Nat→Prop} {w:World} {cb:Nat} {s:CS} {kv bv lv tv wv:Value}
theorem Qn6 {ra ta:Addr} (h:J0 S w cb ra ta s kv bv lv tv wv) (i:Int) (n:Qn) (nk:Value) (hnk:Qf w nk n.kids) (a:Int) (ks:List Int) (Qnf:n.kids=a::ks)
  (ha:0≤a∧a<s.kinds.length) (h9:n.kind=9) :
  Calls prog 201 #[.pointer (some ⟨cb,0,none⟩),.int .i64 i,.agg #[.int .i64 n.kind,.string n.text,.int .i64 n.i,nk]] w fun e w' =>
   e=.returned (.int .i64 (Yv s i n).1)∧Q31 S w cb ra ta (Yv s i n).2 kv bv lv tv wv w':=by
 have k0:kidAt n 0=a:=by simp[kidAt,Qnf]
 have hT:Q0v s n=J6 n.i (Ja (s.kindAt a)) 0:=by
  unfold Q0v;rw[Ng Om,Ps h9,k0]
 have hF:Yv s i n=((Q0v s n).1,if (Q0v s n).2=0 then s else s.fail 4 i):=rfl;rw[hT] at hF;clear hT k0;obtain⟨A,nb,no,nc,rfl,hl,hlc,hA,hc⟩:=hnk;obtain rfl:=hA (by rw[Qnf];simp);have e0:=hc 0 a (by rw[Qnf];rfl);have Qo7:0<n.kids.length:=by rw[Qnf];simp
 have hcb:=h.blk.lt;have h4:w.cell? ⟨cb,4,none⟩=some kv:=h.blk.cell 4 _ rfl;obtain⟨kA,g,kc,hkv,kl,klc,hkA,hkc⟩:=h.k.openI;obtain⟨rfl,hSg,Qnt⟩:=hkA Om;obtain⟨ma,rfl⟩:=En ha.1;obtain⟨x,hx⟩:=Q4 (xs:=s.kinds) (j:=ma) Om;obtain⟨g0,_⟩:=hkc ma x hx;obtain⟨ha0,ha1⟩:=ha;have hma:ma<s.kinds.length:=Om
 rw[CS.kindAt_of hx] at hF;rw[h9];have hk0:Q0 nob w (w.alloc (.cells #[.int .i64 9,.string n.text,.int .i64 n.i,.slice (some ⟨nb,no,none⟩) n.kids.length nc] 70)):=(Kr _ _).alloc _;have hb0:=Blk.new w [.int .i64 9,.string n.text,.int .i64 n.i,.slice (some ⟨nb,no,none⟩) n.kids.length nc] 70;have e0':=hk0.cell (fun h=>h) e0;have h4':=hk0.cell (fun h=>h) h4;have g0':=hk0.cell (fun h=>h) g0;generalize hW0:w.alloc (.cells #[.int .i64 9,.string n.text,.int .i64 n.i,.slice (some ⟨nb,no,none⟩) n.kids.length nc] 70)=W0 at hk0 hb0 e0' h4' g0'
 have s0:∀W,Q0 nob W0 W→W.cell? ⟨cb,4,none⟩=some kv∧W.cell? ⟨w.heap.size,3,none⟩=some (.slice (some ⟨nb,no,none⟩) n.kids.length nc)∧W.cell? ⟨w.heap.size,2,none⟩=some (.int .i64 n.i)∧W.cell? ⟨nb,no,none⟩=some (.int .i64 (ma:Int))∧W.cell? ⟨g,ma,none⟩=some (.int .i64 x) :=
  fun W hk=>⟨hk.cell (fun h=>h) h4',hk.cell (fun h=>h) (hb0.cell 3 _ rfl),hk.cell (fun h=>h) (hb0.cell 2 _ rfl),hk.cell (fun h=>h) (by simpa using e0'),hk.cell (fun h=>h) g0'⟩
 have q1:=fun W hk=>(s0 W hk).1
 have q2:=fun W hk=>(s0 W hk).2.1
 have q3:=fun W hk=>(s0 W hk).2.2.1
 have q4:=fun W hk=>(s0 W hk).2.2.2.1
 have q6:=fun W hk=>(s0 W hk).2.2.2.2
 have c0:=hb0.cell 0 _ rfl;have hr0:Q0 nob W0 W0:=Kr _ _;have H:=Hh (h.nobk hk0);have HB0:=Hh hb0;have HKS:=Hh Qnf;clear hc h Qnf hkc hx hkA hb0 s0 e0 g0 h4 e0' g0' h4';subst hkv;have HT:=Hh hF;clear hF;generalize Yv s i n=X at HT ⊢;go_enter func201,ntmps201;go_upto_region 1 with fail
 go_cut [7] (fun s7 wx=>∃p:Nat,s7=.pointer (some ⟨p,0,none⟩)∧Blk wx p (Q3o (Ja x) 0 0 0) 106∧Q0 nob W0 wx∧W0.heap.size≤p)
 case first =>
  go_region_held3 (fun W=>Q0 nob W0 W) (first|assumption|exact hr0.drew|exact Kd ‹_›|exact Ka (Ku ‹_›) _|exact Ka ‹_› _|exact Kt ‹_› ‹_›|(refine Q0.setCell (Q0.setCell (Q0.setCell (Q0.setCell ?_ (Or.inr (Nat.le_refl _)) _) (Or.inr (Nat.le_refl _)) _) (Or.inr (Nat.le_refl _)) _) (Or.inr (Nat.le_refl _)) _;first|assumption|exact Kt ((Kr nob _).alloc _) (Ku ‹_›)|exact Kt ‹_› ‹_›)) ((first|(go_at_call 215;refine (Q64 _ _).mono ?_;rintro e w1 ⟨he,hk1⟩;rw[Q2h] at he;subst he;dsimp only;(try (have bR:Blk w1 W0.heap.size [.int .i64 0,.int .i64 0,.float .f64 0,.float .f64 0] 106:=Blk.kept (Blk.new_of _ _ _ rfl) (Ku hk1) id;have r0:=bR.cell 0 _ rfl;have r1:=bR.cell 1 _ rfl;have r2:=bR.cell 2 _ rfl;have r3:=bR.cell 3 _ rfl;have p0:=bR.free 0;have p1:=bR.free 1;have p2:=bR.free 2;have p3:=bR.free 3)))))
  all_goals go_wp2_with fail
  all_goals go_meet
  ·exact⟨w1.heap.size,rfl,Blk.new_of _ _ _ rfl,by assumption,hk1.size⟩
  ·exact⟨W0.heap.size,rfl,(((bR.set 0 _).set 1 _).set 2 _).set 3 _,by assumption,Nat.le_refl _⟩
 case rest =>
  obtain⟨p,rfl,hb7,hkx,hle⟩:=hcut;clear q4 q6 hA;go_upto_region 3 with fail
  generalize hW1:wc.alloc (.cells #[.int .i64 0,.int .i64 0,.float .f64 0,.float .f64 0] 106)=W1;have hb8:Blk W1 wc.heap.size [.int .i64 0,.int .i64 0,.float .f64 0,.float .f64 0] 106:=hW1▸Blk.new_of _ _ _ rfl;have hk1:Q0 nob W0 W1:=hW1▸hkx.alloc _;have hp:p<wc.heap.size:=hb7.lt;have hb7':Blk W1 p (Q3o (Ja x) 0 0 0) 106:=hW1▸hb7.alloc _;have hsz:W0.heap.size≤wc.heap.size:=hkx.size;have Qon:∀W,Q0 (fun k=>k=wc.heap.size) W1 W→Blk W p (Q3o (Ja x) 0 0 0) 106:=fun W hk=>hb7'.kept hk (by show ¬ p=wc.heap.size;omega)
  have l0:∀W,Q0 (fun k=>k=wc.heap.size) W1 W→W.cell? ⟨p,0,none⟩=some (.int .i64 (Ja x)):=fun W hk=>(Qon W hk).cell 0 _ rfl
  have l1:∀W,Q0 (fun k=>k=wc.heap.size) W1 W→W.cell? ⟨p,1,none⟩=some (.int .i64 0):=fun W hk=>(Qon W hk).cell 1 _ rfl
  have l2:∀W,Q0 (fun k=>k=wc.heap.size) W1 W→W.cell? ⟨p,2,none⟩=some (.float .f64 0):=fun W hk=>(Qon W hk).cell 2 _ rfl
  have l3:∀W,Q0 (fun k=>k=wc.heap.size) W1 W→W.cell? ⟨p,3,none⟩=some (.float .f64 0):=fun W hk=>(Qon W hk).cell 3 _ rfl
  have mv:∀(a:Addr) (v:Value),W0.cell? a=some v→∀W,Q0 (fun k=>k=wc.heap.size) W1 W→W.cell? a=some v:=fun a v hc W hk =>
   hk.cell (by have:=World.block_lt_of_cell? W0 a hc;show ¬ a.block=wc.heap.size;omega) (hk1.cell (fun h=>h) hc)
  have q1':=mv _ _ (q1 _ hr0);have q2':=mv _ _ (q2 _ hr0);have q3':=mv _ _ (q3 _ hr0);have hr1:Q0 (fun k=>k=wc.heap.size) W1 W1:=Kr _ _;have d0:=q3' _ hr1;have cK:=mv _ _ c0 _ hr1;have HB7:=Hh Qon;have HB8:=Hh hb8;have HMV:=Hh mv;have HOP:=Hh (fun w=>Qel n.i (Ja x) 0 w);clear q1 q2 q3 c0 hb7 hb7' Qon hb8 mv;generalize J6 n.i (Ja x) 0=P at HOP HT;obtain⟨p1,p2⟩:=P;go_upto_region 9 with fail
  go_upto_region 14 with ((go_at_call 217;refine (HOP.o _).mono ?_;rintro e w2 ⟨i2,x2,y2,he,hk2⟩;dsimp only at he;subst he;have hks:=hr1.thenNob hk2;have bR:=HB8.o.kept hk2 id;have r0:=bR.cell 0 _ rfl;have r1:=bR.cell 1 _ rfl;have r2:=bR.cell 2 _ rfl;have r3:=bR.cell 3 _ rfl;have f0:=bR.free 0;have f1:=bR.free 1;have f2:=bR.free 2;have f3:=bR.free 3;dsimp only))
  have b4:=(((bR.set 0 (.int .i64 p1)).set 1 (.int .i64 i2)).set 2 (.float .f64 x2)).set 3 (.float .f64 y2);have hKf:=Q0.cb (Q0.cb (Q0.cb (Q0.cb hks 0 (.int .i64 p1)) 1 (.int .i64 i2)) 2 (.float .f64 x2)) 3 (.float .f64 y2);generalize hWf:(((w2.setCell ⟨wc.heap.size,0,none⟩ (.int .i64 p1)).setCell ⟨wc.heap.size,1,none⟩ (.int .i64 i2)).setCell ⟨wc.heap.size,2,none⟩ (.float .f64 x2)).setCell ⟨wc.heap.size,3,none⟩ (.float .f64 y2)=Wf at b4 hKf ⊢;clear hWf bR r0 r1 r2 r3 f0 f1 f2 f3 hks;have e0:Wf.cell? ⟨wc.heap.size,0,none⟩=some (.int .i64 p1):=b4.cell 0 _ rfl;have e1:Wf.cell? ⟨wc.heap.size,1,none⟩=some (.int .i64 i2):=b4.cell 1 _ rfl;have e2:Wf.cell? ⟨wc.heap.size,2,none⟩=some (.float .f64 x2):=b4.cell 2 _ rfl;have e3:Wf.cell? ⟨wc.heap.size,3,none⟩=some (.float .f64 y2):=b4.cell 3 _ rfl;have f0:=b4.free 0;have f1:=b4.free 1;have f2:=b4.free 2;have f3:=b4.free 3;have hKW:Q0 nob W0 Wf:=hk1.then_ hKf (fun k hk=>.inr (by rw[hk];exact hsz));have HF:=Hh (H.o.nobk hKW);have HKW:=Hh hKW;have hB:W0.heap.size≤wc.heap.size:=hsz;clear l0 l1 l2 l3 q1' q2' q3' hKW hKf HB7 HB8 HMV HOP b4 hr1 hk1 d0;have hB2:wc.heap.size≠cb:=by have:=hk0.size;omega
  by_cases h0:p2=0
  ·subst h0
   go_wp2_with fail;go_returns;obtain rfl:=HT.o;exact⟨rfl,HF.o,(hk0.trans HKW.o).ofNob _⟩
  ·have t2:(p2 != 0)=true:=by simpa using h0
   have HP0:=Hh h0;clear h0;go_wp2_with (go_at_call 92;refine (Ze HF.o _ _).mono ?_;rintro e w3 ⟨rfl,hat⟩;have e0':=hat.2.cell (a:=⟨wc.heap.size,0,none⟩) hB2 e0);go_returns
   have hX:X=(p1,s.fail 4 i):=by
    rw[HT.o];try dsimp only
    rw[Ng HP0.o]
   obtain rfl:=hX;exact⟨rfl,hat.1,((hk0.trans HKW.o).ofNob _).trans hat.2⟩
end
end Go.Proofs.YtkgkafjachjafaaGreat
