/- Part 47 of y_holds; no condition. -/
import Derived.Test.YtkgkafjachjafaaGreatY01
import Derived.Test.YtkgkafjachjafaaGreatY44
import Derived.Test.YtkgkafjachjafaaGreatY45
set_option linter.unusedVariables false
set_option maxHeartbeats 80000000
set_option maxRecDepth 100000
open Go Go.RowKit
namespace Go.Proofs.YtkgkafjachjafaaGreat
open Tryz
def Q1e {α:Type} (a0 a1 a2 a3 a4 a5 a6 a7:α):Nat→α
 |0=>a0|1=>a1|2=>a2|3=>a3|4=>a4|5=>a5|6=>a6|_=>a7
theorem Qnd {w0 w1 w2 w3 w4 w5 w6 w7 w8:World} {v0 v1 v2 v3 v4 v5 v6 v7:Value} {z:Nat→List Value} {base:Nat}
  (h0:Qc (Q6 w0.heap.size) 3 w1 v0 (z 0)) (k0:Q0 nob w0 w1)
  (h1:Qc (Q6 w1.heap.size) 3 w2 v1 (z 1)) (k1:Q0 nob w1 w2)
  (h2:Qc (Q6 w2.heap.size) 3 w3 v2 (z 2)) (k2:Q0 nob w2 w3)
  (h3:Qc (Q6 w3.heap.size) 3 w4 v3 (z 3)) (k3:Q0 nob w3 w4)
  (h4:Qc (Q6 w4.heap.size) 3 w5 v4 (z 4)) (k4:Q0 nob w4 w5)
  (h5:Qc (Q6 w5.heap.size) 3 w6 v5 (z 5)) (k5:Q0 nob w5 w6)
  (h6:Qc (Q6 w6.heap.size) 3 w7 v6 (z 6)) (k6:Q0 nob w6 w7)
  (h7:Qc (Q6 w7.heap.size) 3 w8 v7 (z 7)) (k7:Q0 nob w7 w8)
  (hb:base≤w0.heap.size):(∀k,k<8→Qc (Q6 base) 3 w8 (Q1e v0 v1 v2 v3 v4 v5 v6 v7 k) (z k))∧Q4h (Q1e v0 v1 v2 v3 v4 v5 v6 v7):=by
 have s0:=k0.size;have s1:=k1.size;have s2:=k2.size;have s3:=k3.size;have s4:=k4.size;have s5:=k5.size;have s6:=k6.size;have s7:=k7.size;have p8:Q0 nob w8 w8:=Kr _ _;have p7:=k7.trans p8;have p6:=k6.trans p7;have p5:=k5.trans p6;have p4:=k4.trans p5;have p3:=k3.trans p4;have p2:=k2.trans p3;have p1:=k1.trans p2
 refine⟨fun k hk=>?_,?_⟩
 ·match k,hk with
  |0,_=>exact (h0.nobk p1).mono (fun b hb2=>by have hb2:w0.heap.size≤b:=hb2;show base≤b;omega)
  |1,_=>exact (h1.nobk p2).mono (fun b hb2=>by have hb2:w1.heap.size≤b:=hb2;show base≤b;omega)
  |2,_=>exact (h2.nobk p3).mono (fun b hb2=>by have hb2:w2.heap.size≤b:=hb2;show base≤b;omega)
  |3,_=>exact (h3.nobk p4).mono (fun b hb2=>by have hb2:w3.heap.size≤b:=hb2;show base≤b;omega)
  |4,_=>exact (h4.nobk p5).mono (fun b hb2=>by have hb2:w4.heap.size≤b:=hb2;show base≤b;omega)
  |5,_=>exact (h5.nobk p6).mono (fun b hb2=>by have hb2:w5.heap.size≤b:=hb2;show base≤b;omega)
  |6,_=>exact (h6.nobk p7).mono (fun b hb2=>by have hb2:w6.heap.size≤b:=hb2;show base≤b;omega)
  |7,_=>exact (h7.nobk p8).mono (fun b hb2=>by have hb2:w7.heap.size≤b:=hb2;show base≤b;omega)
 ·have key:∀k,k<8→∀b,(Q1e v0 v1 v2 v3 v4 v5 v6 v7 k).ownBlock=some b→(Q1e w0.heap.size w1.heap.size w2.heap.size w3.heap.size w4.heap.size w5.heap.size w6.heap.size w7.heap.size k)≤b∧b<(Q1e w1.heap.size w2.heap.size w3.heap.size w4.heap.size w5.heap.size w6.heap.size w7.heap.size w8.heap.size k):=fun k hk b hb2=>by
   match k,hk with
   |0,_=>exact⟨h0.2 b hb2,h0.lt b hb2⟩
   |1,_=>exact⟨h1.2 b hb2,h1.lt b hb2⟩
   |2,_=>exact⟨h2.2 b hb2,h2.lt b hb2⟩
   |3,_=>exact⟨h3.2 b hb2,h3.lt b hb2⟩
   |4,_=>exact⟨h4.2 b hb2,h4.lt b hb2⟩
   |5,_=>exact⟨h5.2 b hb2,h5.lt b hb2⟩
   |6,_=>exact⟨h6.2 b hb2,h6.lt b hb2⟩
   |7,_=>exact⟨h7.2 b hb2,h7.lt b hb2⟩
  have mono:∀i j,i<8→j<8→i<j→(Q1e w1.heap.size w2.heap.size w3.heap.size w4.heap.size w5.heap.size w6.heap.size w7.heap.size w8.heap.size i)≤(Q1e w0.heap.size w1.heap.size w2.heap.size w3.heap.size w4.heap.size w5.heap.size w6.heap.size w7.heap.size j):=by
   intro i j hi hj hij
   have step:∀i,i<7→Q1e w1.heap.size w2.heap.size w3.heap.size w4.heap.size w5.heap.size w6.heap.size w7.heap.size w8.heap.size i=Q1e w0.heap.size w1.heap.size w2.heap.size w3.heap.size w4.heap.size w5.heap.size w6.heap.size w7.heap.size (i+1):=fun i hi=>by
    match i,hi with
    |0,_=>rfl
    |1,_=>rfl
    |2,_=>rfl
    |3,_=>rfl
    |4,_=>rfl
    |5,_=>rfl
    |6,_=>rfl
   have up:∀j,j<8→Q1e w0.heap.size w1.heap.size w2.heap.size w3.heap.size w4.heap.size w5.heap.size w6.heap.size w7.heap.size j≤Q1e w1.heap.size w2.heap.size w3.heap.size w4.heap.size w5.heap.size w6.heap.size w7.heap.size w8.heap.size j:=fun j hj=>by
    match j,hj with
    |0,_=>exact s0
    |1,_=>exact s1
    |2,_=>exact s2
    |3,_=>exact s3
    |4,_=>exact s4
    |5,_=>exact s5
    |6,_=>exact s6
    |7,_=>exact s7
   obtain⟨d,rfl⟩:∃d,j=i+1+d:=⟨j-(i+1),Om⟩;clear hij
   induction d with
   |zero=>rw[step i Om];exact Nat.le_refl _
   |succ d ih =>
    refine Nat.le_trans (ih Om) (Nat.le_trans (up (i+1+d) Om) ?_);rw[step (i+1+d) Om];exact Nat.le_refl _
  intro i j hi hj hij b h1 h2;obtain⟨a1,a2⟩:=key i hi b h1;obtain⟨b1,b2⟩:=key j hj b h2;rcases Nat.lt_or_gt_of_ne hij with h|h
  ·have:=mono i j hi hj h;omega
  ·have:=mono j i hj hi h;omega
theorem Qfg (P P1:Nat→Option Addr) (N N1 C C1:Nat→Nat) (s x s1 x1:Bool) (xs ys:Nat→List Int) (w:World) (hv:∀k,k<8→Qf w (slv P N C k) (xs k)) (hu:∀k,k<8→Qf w (slv P1 N1 C1 k) (ys k)) (hl:∀k,k<8→(xs k).length+(ys k).length≤17000000000000) :
  Calls prog 103 #[.agg #[.slice (P 0) (N 0) (C 0),.slice (P 1) (N 1) (C 1),.slice (P 2) (N 2) (C 2),.slice (P 3) (N 3) (C 3),.slice (P 4) (N 4) (C 4),.slice (P 5) (N 5) (C 5),.slice (P 6) (N 6) (C 6),.slice (P 7) (N 7) (C 7),.bool s,.bool x],.agg #[.slice (P1 0) (N1 0) (C1 0),.slice (P1 1) (N1 1) (C1 1),.slice (P1 2) (N1 2) (C1 2),.slice (P1 3) (N1 3) (C1 3),.slice (P1 4) (N1 4) (C1 4),.slice (P1 5) (N1 5) (C1 5),.slice (P1 6) (N1 6) (C1 6),.slice (P1 7) (N1 7) (C1 7),.bool s1,.bool x1]] w fun e w'=>∃P2 N2 C2,e=.returned (.agg #[.slice (P2 0) (N2 0) (C2 0),.slice (P2 1) (N2 1) (C2 1),.slice (P2 2) (N2 2) (C2 2),.slice (P2 3) (N2 3) (C2 3),.slice (P2 4) (N2 4) (C2 4),.slice (P2 5) (N2 5) (C2 5),.slice (P2 6) (N2 6) (C2 6),.slice (P2 7) (N2 7) (C2 7),.bool (s ||s1),.bool (x ||x1)]) ∧
   (∀k,k<8→Qc (Q6 w.heap.size) 3 w' (slv P2 N2 C2 k) (Q5 (Lib.compact (X3 (xs k++ys k)))))∧Q4h (slv P2 N2 C2)∧Q0 nob w w':=by
 have hk0:Q0 nob w (((w.alloc (.cells #[.slice (P 0) (N 0) (C 0),.slice (P 1) (N 1) (C 1),.slice (P 2) (N 2) (C 2),.slice (P 3) (N 3) (C 3),.slice (P 4) (N 4) (C 4),.slice (P 5) (N 5) (C 5),.slice (P 6) (N 6) (C 6),.slice (P 7) (N 7) (C 7),.bool s,.bool x] 55 (0,0))).alloc (.cells #[.slice (P1 0) (N1 0) (C1 0),.slice (P1 1) (N1 1) (C1 1),.slice (P1 2) (N1 2) (C1 2),.slice (P1 3) (N1 3) (C1 3),.slice (P1 4) (N1 4) (C1 4),.slice (P1 5) (N1 5) (C1 5),.slice (P1 6) (N1 6) (C1 6),.slice (P1 7) (N1 7) (C1 7),.bool s1,.bool x1] 55 (0,0))).alloc (.cells #[.slice none 0 0,.slice none 0 0,.slice none 0 0,.slice none 0 0,.slice none 0 0,.slice none 0 0,.slice none 0 0,.slice none 0 0,.bool false,.bool false] 55 (0,0))):=(((Kr _ _).alloc _).alloc _).alloc _;have hb0:Blk (((w.alloc (.cells #[.slice (P 0) (N 0) (C 0),.slice (P 1) (N 1) (C 1),.slice (P 2) (N 2) (C 2),.slice (P 3) (N 3) (C 3),.slice (P 4) (N 4) (C 4),.slice (P 5) (N 5) (C 5),.slice (P 6) (N 6) (C 6),.slice (P 7) (N 7) (C 7),.bool s,.bool x] 55 (0,0))).alloc (.cells #[.slice (P1 0) (N1 0) (C1 0),.slice (P1 1) (N1 1) (C1 1),.slice (P1 2) (N1 2) (C1 2),.slice (P1 3) (N1 3) (C1 3),.slice (P1 4) (N1 4) (C1 4),.slice (P1 5) (N1 5) (C1 5),.slice (P1 6) (N1 6) (C1 6),.slice (P1 7) (N1 7) (C1 7),.bool s1,.bool x1] 55 (0,0))).alloc (.cells #[.slice none 0 0,.slice none 0 0,.slice none 0 0,.slice none 0 0,.slice none 0 0,.slice none 0 0,.slice none 0 0,.slice none 0 0,.bool false,.bool false] 55 (0,0))) w.heap.size [.slice (P 0) (N 0) (C 0),.slice (P 1) (N 1) (C 1),.slice (P 2) (N 2) (C 2),.slice (P 3) (N 3) (C 3),.slice (P 4) (N 4) (C 4),.slice (P 5) (N 5) (C 5),.slice (P 6) (N 6) (C 6),.slice (P 7) (N 7) (C 7),.bool s,.bool x] 55:=((Blk.new_of _ _ _ rfl).alloc _).alloc _;have hb1:Blk (((w.alloc (.cells #[.slice (P 0) (N 0) (C 0),.slice (P 1) (N 1) (C 1),.slice (P 2) (N 2) (C 2),.slice (P 3) (N 3) (C 3),.slice (P 4) (N 4) (C 4),.slice (P 5) (N 5) (C 5),.slice (P 6) (N 6) (C 6),.slice (P 7) (N 7) (C 7),.bool s,.bool x] 55 (0,0))).alloc (.cells #[.slice (P1 0) (N1 0) (C1 0),.slice (P1 1) (N1 1) (C1 1),.slice (P1 2) (N1 2) (C1 2),.slice (P1 3) (N1 3) (C1 3),.slice (P1 4) (N1 4) (C1 4),.slice (P1 5) (N1 5) (C1 5),.slice (P1 6) (N1 6) (C1 6),.slice (P1 7) (N1 7) (C1 7),.bool s1,.bool x1] 55 (0,0))).alloc (.cells #[.slice none 0 0,.slice none 0 0,.slice none 0 0,.slice none 0 0,.slice none 0 0,.slice none 0 0,.slice none 0 0,.slice none 0 0,.bool false,.bool false] 55 (0,0))) (w.heap.size+1) [.slice (P1 0) (N1 0) (C1 0),.slice (P1 1) (N1 1) (C1 1),.slice (P1 2) (N1 2) (C1 2),.slice (P1 3) (N1 3) (C1 3),.slice (P1 4) (N1 4) (C1 4),.slice (P1 5) (N1 5) (C1 5),.slice (P1 6) (N1 6) (C1 6),.slice (P1 7) (N1 7) (C1 7),.bool s1,.bool x1] 55:=(Blk.new_of _ _ _ Sm).alloc _;have hb2:Blk (((w.alloc (.cells #[.slice (P 0) (N 0) (C 0),.slice (P 1) (N 1) (C 1),.slice (P 2) (N 2) (C 2),.slice (P 3) (N 3) (C 3),.slice (P 4) (N 4) (C 4),.slice (P 5) (N 5) (C 5),.slice (P 6) (N 6) (C 6),.slice (P 7) (N 7) (C 7),.bool s,.bool x] 55 (0,0))).alloc (.cells #[.slice (P1 0) (N1 0) (C1 0),.slice (P1 1) (N1 1) (C1 1),.slice (P1 2) (N1 2) (C1 2),.slice (P1 3) (N1 3) (C1 3),.slice (P1 4) (N1 4) (C1 4),.slice (P1 5) (N1 5) (C1 5),.slice (P1 6) (N1 6) (C1 6),.slice (P1 7) (N1 7) (C1 7),.bool s1,.bool x1] 55 (0,0))).alloc (.cells #[.slice none 0 0,.slice none 0 0,.slice none 0 0,.slice none 0 0,.slice none 0 0,.slice none 0 0,.slice none 0 0,.slice none 0 0,.bool false,.bool false] 55 (0,0))) (w.heap.size+1+1) [.slice none 0 0,.slice none 0 0,.slice none 0 0,.slice none 0 0,.slice none 0 0,.slice none 0 0,.slice none 0 0,.slice none 0 0,.bool false,.bool false] 55:=Blk.new_of _ _ _ Sm;generalize hW0:((w.alloc (.cells #[.slice (P 0) (N 0) (C 0),.slice (P 1) (N 1) (C 1),.slice (P 2) (N 2) (C 2),.slice (P 3) (N 3) (C 3),.slice (P 4) (N 4) (C 4),.slice (P 5) (N 5) (C 5),.slice (P 6) (N 6) (C 6),.slice (P 7) (N 7) (C 7),.bool s,.bool x] 55 (0,0))).alloc (.cells #[.slice (P1 0) (N1 0) (C1 0),.slice (P1 1) (N1 1) (C1 1),.slice (P1 2) (N1 2) (C1 2),.slice (P1 3) (N1 3) (C1 3),.slice (P1 4) (N1 4) (C1 4),.slice (P1 5) (N1 5) (C1 5),.slice (P1 6) (N1 6) (C1 6),.slice (P1 7) (N1 7) (C1 7),.bool s1,.bool x1] 55 (0,0))).alloc (.cells #[.slice none 0 0,.slice none 0 0,.slice none 0 0,.slice none 0 0,.slice none 0 0,.slice none 0 0,.slice none 0 0,.slice none 0 0,.bool false,.bool false] 55 (0,0))=W0 at hk0 hb0 hb1 hb2;obtain⟨zb,hzb⟩:∃zb,zb=w.heap.size+1+1:=⟨_,rfl⟩;have HZB:=Hh hzb;have n0:¬ w.heap.size=zb:=Om
 have n1:¬ w.heap.size+1=zb:=Om
 have HCC:Hi (∀k,k<8→∀W,Q0 nob W0 W→Calls prog 130 #[slv P N C k,slv P1 N1 C1 k] W fun e w'=>∃A n c,e=.returned (.slice A n c)∧Qc (Q6 W.heap.size) 3 w' (.slice A n c) (Q5 (Lib.compact (X3 (xs k++ys k))))∧Q0 nob W w'):=Hh fun k hk W hW=>by
  refine (Qml _ _ (xs k) (ys k) W ((hv k hk).old (hk0.trans hW).old) ((hu k hk).old (hk0.trans hW).old) (hl k hk)).mono ?_;rintro e w' ⟨v,rfl,ho,hk⟩;obtain⟨A,n,c,rfl⟩:=ho.isSlice;exact⟨A,n,c,rfl,ho,hk⟩
 have hp0:∀W,Q0 (fun b=>b=zb) W0 W→W.cell? ⟨w.heap.size,0,none⟩=some (.slice (P 0) (N 0) (C 0)):=fun W hW=>(hb0.kept hW n0).cell 0 _ rfl
 have hq0:∀W,Q0 (fun b=>b=zb) W0 W→W.cell? ⟨w.heap.size+1,0,none⟩=some (.slice (P1 0) (N1 0) (C1 0)):=fun W hW=>(hb1.kept hW n1).cell 0 _ rfl
 have hp1:∀W,Q0 (fun b=>b=zb) W0 W→W.cell? ⟨w.heap.size,1,none⟩=some (.slice (P 1) (N 1) (C 1)):=fun W hW=>(hb0.kept hW n0).cell 1 _ rfl
 have hq1:∀W,Q0 (fun b=>b=zb) W0 W→W.cell? ⟨w.heap.size+1,1,none⟩=some (.slice (P1 1) (N1 1) (C1 1)):=fun W hW=>(hb1.kept hW n1).cell 1 _ rfl
 have hp2:∀W,Q0 (fun b=>b=zb) W0 W→W.cell? ⟨w.heap.size,2,none⟩=some (.slice (P 2) (N 2) (C 2)):=fun W hW=>(hb0.kept hW n0).cell 2 _ rfl
 have hq2:∀W,Q0 (fun b=>b=zb) W0 W→W.cell? ⟨w.heap.size+1,2,none⟩=some (.slice (P1 2) (N1 2) (C1 2)):=fun W hW=>(hb1.kept hW n1).cell 2 _ rfl
 have hp3:∀W,Q0 (fun b=>b=zb) W0 W→W.cell? ⟨w.heap.size,3,none⟩=some (.slice (P 3) (N 3) (C 3)):=fun W hW=>(hb0.kept hW n0).cell 3 _ rfl
 have hq3:∀W,Q0 (fun b=>b=zb) W0 W→W.cell? ⟨w.heap.size+1,3,none⟩=some (.slice (P1 3) (N1 3) (C1 3)):=fun W hW=>(hb1.kept hW n1).cell 3 _ rfl
 have hp4:∀W,Q0 (fun b=>b=zb) W0 W→W.cell? ⟨w.heap.size,4,none⟩=some (.slice (P 4) (N 4) (C 4)):=fun W hW=>(hb0.kept hW n0).cell 4 _ rfl
 have hq4:∀W,Q0 (fun b=>b=zb) W0 W→W.cell? ⟨w.heap.size+1,4,none⟩=some (.slice (P1 4) (N1 4) (C1 4)):=fun W hW=>(hb1.kept hW n1).cell 4 _ rfl
 have hp5:∀W,Q0 (fun b=>b=zb) W0 W→W.cell? ⟨w.heap.size,5,none⟩=some (.slice (P 5) (N 5) (C 5)):=fun W hW=>(hb0.kept hW n0).cell 5 _ rfl
 have hq5:∀W,Q0 (fun b=>b=zb) W0 W→W.cell? ⟨w.heap.size+1,5,none⟩=some (.slice (P1 5) (N1 5) (C1 5)):=fun W hW=>(hb1.kept hW n1).cell 5 _ rfl
 have hp6:∀W,Q0 (fun b=>b=zb) W0 W→W.cell? ⟨w.heap.size,6,none⟩=some (.slice (P 6) (N 6) (C 6)):=fun W hW=>(hb0.kept hW n0).cell 6 _ rfl
 have hq6:∀W,Q0 (fun b=>b=zb) W0 W→W.cell? ⟨w.heap.size+1,6,none⟩=some (.slice (P1 6) (N1 6) (C1 6)):=fun W hW=>(hb1.kept hW n1).cell 6 _ rfl
 have hp7:∀W,Q0 (fun b=>b=zb) W0 W→W.cell? ⟨w.heap.size,7,none⟩=some (.slice (P 7) (N 7) (C 7)):=fun W hW=>(hb0.kept hW n0).cell 7 _ rfl
 have hq7:∀W,Q0 (fun b=>b=zb) W0 W→W.cell? ⟨w.heap.size+1,7,none⟩=some (.slice (P1 7) (N1 7) (C1 7)):=fun W hW=>(hb1.kept hW n1).cell 7 _ rfl
 have hp8:∀W,Q0 (fun b=>b=zb) W0 W→W.cell? ⟨w.heap.size,8,none⟩=some (.bool s):=fun W hW=>(hb0.kept hW n0).cell 8 _ rfl
 have hp9:∀W,Q0 (fun b=>b=zb) W0 W→W.cell? ⟨w.heap.size,9,none⟩=some (.bool x):=fun W hW=>(hb0.kept hW n0).cell 9 _ rfl
 have hq8:∀W,Q0 (fun b=>b=zb) W0 W→W.cell? ⟨w.heap.size+1,8,none⟩=some (.bool s1):=fun W hW=>(hb1.kept hW n1).cell 8 _ rfl
 have hq9:∀W,Q0 (fun b=>b=zb) W0 W→W.cell? ⟨w.heap.size+1,9,none⟩=some (.bool x1):=fun W hW=>(hb1.kept hW n1).cell 9 _ rfl
 have HB2:=Hh hb2;have HK0:=Hh hk0;have hr0:Q0 (fun b=>b=zb) W0 W0:=Kr _ _;have hn0:Q0 nob W0 W0:=Kr _ _;rw[← hzb] at HB2;clear hv hu hl hk0 hb0 hb1 hb2 n0 n1;subst hzb;cases s<;>cases x
 all_goals
  go_enter func103,ntmps103;go_upto_region 1 with fail
  refine wp_region_held_drew (S:=(fun W=>Q0 (fun b=>b=w.heap.size+1+1) W0 W)) Kf ?_ (fun hHeld=>?_)
  ·(try dsimp only);(exact hr0.drew)
  refine rtk 0 ?_;refine rtk 1 ?_;refine rtk 2 ?_;refine rtk 3 ?_;refine rtk 5 ?_;refine rtk 6 ?_;refine rtk 7 ?_;refine rtk 8 ?_;refine rtk 10 ?_;refine rtk 11 ?_;refine rtk 12 ?_;refine rtk 13 ?_;refine rtk 15 ?_;refine rtk 16 ?_;refine rtk 17 ?_;refine rtk 18 ?_;refine rtk 20 ?_;refine rtk 21 ?_;refine rtk 22 ?_;refine rtk 23 ?_;refine rtk 25 ?_;refine rtk 26 ?_;refine rtk 27 ?_;refine rtk 28 ?_;refine rtk 30 ?_;refine rtk 31 ?_;refine rtk 32 ?_;refine rtk 33 ?_;refine rtk 35 ?_;refine rtk 36 ?_;refine rtk 37 ?_;refine rtk 38 ?_;refine rtk 40 ?_;refine rtk 41 ?_;refine rtk 46 ?_;refine rtk 47 ?_
  refine rr1 4 fun K hK=>?_
  go_simp
  (go_at_call 130;refine (HCC.o 0 Dc _ (hn0.drew)).mono ?_;rintro e w1 ⟨A0,m0,c0,rfl,ho0,hk0⟩;have hn1:=Kt (hn0.drew) hk0;have hi1:=hn1.ofNob (fun b=>b=w.heap.size+1+1);dsimp only)
  refine rko hK ?_ fun hHeld=>?_
  ·(try dsimp only);(exact hi1)
  clear hK
  refine rr1 9 fun K hK=>?_
  go_simp
  (go_at_call 130;refine (HCC.o 1 Dc _ (hn1)).mono ?_;rintro e w2 ⟨A1,m1,c1,rfl,ho1,hk1⟩;have hn2:=Kt (hn1) hk1;have hi2:=hn2.ofNob (fun b=>b=w.heap.size+1+1);dsimp only)
  refine rko hK ?_ fun hHeld=>?_
  ·(try dsimp only);(exact hi2)
  clear hK
  refine rr1 14 fun K hK=>?_
  go_simp
  (go_at_call 130;refine (HCC.o 2 Dc _ (hn2)).mono ?_;rintro e w3 ⟨A2,m2,c2,rfl,ho2,hk2⟩;have hn3:=Kt (hn2) hk2;have hi3:=hn3.ofNob (fun b=>b=w.heap.size+1+1);dsimp only)
  refine rko hK ?_ fun hHeld=>?_
  ·(try dsimp only);(exact hi3)
  clear hK
  refine rr1 19 fun K hK=>?_
  go_simp
  (go_at_call 130;refine (HCC.o 3 Dc _ (hn3)).mono ?_;rintro e w4 ⟨A3,m3,c3,rfl,ho3,hk3⟩;have hn4:=Kt (hn3) hk3;have hi4:=hn4.ofNob (fun b=>b=w.heap.size+1+1);dsimp only)
  refine rko hK ?_ fun hHeld=>?_
  ·(try dsimp only);(exact hi4)
  clear hK
  refine rr1 24 fun K hK=>?_
  go_simp
  (go_at_call 130;refine (HCC.o 4 Dc _ (hn4)).mono ?_;rintro e w5 ⟨A4,m4,c4,rfl,ho4,hk4⟩;have hn5:=Kt (hn4) hk4;have hi5:=hn5.ofNob (fun b=>b=w.heap.size+1+1);dsimp only)
  refine rko hK ?_ fun hHeld=>?_
  ·(try dsimp only);(exact hi5)
  clear hK
  refine rr1 29 fun K hK=>?_
  go_simp
  (go_at_call 130;refine (HCC.o 5 Dc _ (hn5)).mono ?_;rintro e w6 ⟨A5,m5,c5,rfl,ho5,hk5⟩;have hn6:=Kt (hn5) hk5;have hi6:=hn6.ofNob (fun b=>b=w.heap.size+1+1);dsimp only)
  refine rko hK ?_ fun hHeld=>?_
  ·(try dsimp only);(exact hi6)
  clear hK
  refine rr1 34 fun K hK=>?_
  go_simp
  (go_at_call 130;refine (HCC.o 6 Dc _ (hn6)).mono ?_;rintro e w7 ⟨A6,m6,c6,rfl,ho6,hk6⟩;have hn7:=Kt (hn6) hk6;have hi7:=hn7.ofNob (fun b=>b=w.heap.size+1+1);dsimp only)
  refine rko hK ?_ fun hHeld=>?_
  ·(try dsimp only);(exact hi7)
  clear hK
  refine rr1 39 fun K hK=>?_
  go_simp
  (go_at_call 130;refine (HCC.o 7 Dc _ (hn7)).mono ?_;rintro e w8 ⟨A7,m7,c7,rfl,ho7,hk7⟩;have hn8:=Kt (hn7) hk7;have hi8:=hn8.ofNob (fun b=>b=w.heap.size+1+1);have bB:=HB2.o.kept hn8 id;have z0:=bB.cell 0 _ rfl;have y0:=bB.free 0;have z1:=bB.cell 1 _ rfl;have y1:=bB.free 1;have z2:=bB.cell 2 _ rfl;have y2:=bB.free 2;have z3:=bB.cell 3 _ rfl;have y3:=bB.free 3;have z4:=bB.cell 4 _ rfl;have y4:=bB.free 4;have z5:=bB.cell 5 _ rfl;have y5:=bB.free 5;have z6:=bB.cell 6 _ rfl;have y6:=bB.free 6;have z7:=bB.cell 7 _ rfl;have y7:=bB.free 7;have z8:=bB.cell 8 _ rfl;have y8:=bB.free 8;have z9:=bB.cell 9 _ rfl;have y9:=bB.free 9;dsimp only)
  refine rko hK ?_ fun hHeld=>?_
  ·(try dsimp only);(exact hi8)
  clear hK;refine rtk 42 ?_
  first|refine rtg 43 ?_|refine rtk 43 ?_
  first|refine rtg 44 ?_|refine rtk 44 ?_
  refine rtk 45 ?_;refine rtk 48 ?_
  first|refine rtg 49 ?_|refine rtk 49 ?_
  first|refine rtg 50 ?_|refine rtk 50 ?_
  refine rtk 51 ?_;refine rtk 52 ?_
  refine rr1 53 fun K hK=>?_
  go_simp
  refine rko hK ?_ fun hHeld=>?_
  ·(try dsimp only);(exact Q50 hi8 (.inl rfl))
  clear hK;refine wpAnyH_done Kf ?_ _;obtain⟨e0,e1,e2,e3,e4,e5,e6,e7,e8,e9⟩:=Qa5 bB;go_wp2_with fail
  first|(refine bodyPost_ret (v:=.agg #[.slice A0 m0 c0,.slice A1 m1 c1,.slice A2 m2 c2,.slice A3 m3 c3,.slice A4 m4 c4,.slice A5 m5 c5,.slice A6 m6 c6,.slice A7 m7 c7,.bool s1,.bool x1]) ?h9 rfl ?_;case h9=>(simp[results,results103,go_sem,e0,e1,e2,e3,e4,e5,e6,e7,e8,e9]))|(refine bodyPost_ret (v:=.agg #[.slice A0 m0 c0,.slice A1 m1 c1,.slice A2 m2 c2,.slice A3 m3 c3,.slice A4 m4 c4,.slice A5 m5 c5,.slice A6 m6 c6,.slice A7 m7 c7,.bool s1,.bool true]) ?h9 rfl ?_;case h9=>(simp[results,results103,go_sem,e0,e1,e2,e3,e4,e5,e6,e7,e8,e9]))|(refine bodyPost_ret (v:=.agg #[.slice A0 m0 c0,.slice A1 m1 c1,.slice A2 m2 c2,.slice A3 m3 c3,.slice A4 m4 c4,.slice A5 m5 c5,.slice A6 m6 c6,.slice A7 m7 c7,.bool true,.bool x1]) ?h9 rfl ?_;case h9=>(simp[results,results103,go_sem,e0,e1,e2,e3,e4,e5,e6,e7,e8,e9]))|(refine bodyPost_ret (v:=.agg #[.slice A0 m0 c0,.slice A1 m1 c1,.slice A2 m2 c2,.slice A3 m3 c3,.slice A4 m4 c4,.slice A5 m5 c5,.slice A6 m6 c6,.slice A7 m7 c7,.bool true,.bool true]) ?h9 rfl ?_;case h9=>(simp[results,results103,go_sem,e0,e1,e2,e3,e4,e5,e6,e7,e8,e9]))
  obtain⟨q1,q2⟩:=Qnd (w0:=W0) (z:=fun k=>Q5 (Lib.compact (X3 (xs k++ys k)))) (base:=W0.heap.size)
   ho0 (by first|exact hk0|exact Ku hk0)
   ho1 (by first|exact hk1|exact Ku hk1)
   ho2 (by first|exact hk2|exact Ku hk2)
   ho3 (by first|exact hk3|exact Ku hk3)
   ho4 (by first|exact hk4|exact Ku hk4)
   ho5 (by first|exact hk5|exact Ku hk5)
   ho6 (by first|exact hk6|exact Ku hk6)
   ho7 (by first|exact hk7|exact Ku hk7)
   (Nat.le_refl _)
  obtain⟨hP,hN,hC⟩: (∀k,Q1e (Value.slice A0 m0 c0) (.slice A1 m1 c1) (.slice A2 m2 c2) (.slice A3 m3 c3) (.slice A4 m4 c4) (.slice A5 m5 c5) (.slice A6 m6 c6) (.slice A7 m7 c7) k=slv (Q1e A0 A1 A2 A3 A4 A5 A6 A7) (Q1e m0 m1 m2 m3 m4 m5 m6 m7) (Q1e c0 c1 c2 c3 c4 c5 c6 c7) k)∧True∧True:=⟨fun k=>by unfold slv;match k with
   |0=>rfl
   |1=>rfl
   |2=>rfl
   |3=>rfl
   |4=>rfl
   |5=>rfl
   |6=>rfl
   |k+7=>rfl,trivial,trivial⟩
  have Qyo:=funext hP;rw[Qyo] at q2;have hz:=HB2.o.lt;have hw8:=hn8.size
  refine⟨Q1e A0 A1 A2 A3 A4 A5 A6 A7,Q1e m0 m1 m2 m3 m4 m5 m6 m7,Q1e c0 c1 c2 c3 c4 c5 c6 c7,rfl,fun k hk=>by have h9:=q1 k hk;rw[hP k] at h9;exact (h9.kept Xz (fun b hb e=>by have h8:W0.heap.size≤b:=h9.2 b hb;omega)).mono (fun b h=>by have h8:W0.heap.size≤b:=h;have:=HK0.o.size;show w.heap.size≤b;omega),q2,(HK0.o.trans hn8).then_ Xz (fun b e=>.inr (by rw[e];omega))⟩
end Go.Proofs.YtkgkafjachjafaaGreat
