/- Part 45 of y_holds; no condition. -/
import Derived.Test.YtkgkafjachjafaaGreatY39
import Derived.Test.YtkgkafjachjafaaGreatY44
set_option linter.unusedVariables false
set_option maxHeartbeats 2000000
open Go Go.RowKit
namespace Go.Proofs.YtkgkafjachjafaaGreat
open Tryz
theorem Qaz (r:Reg) (t:Q1) (n:Qn):(J7 r t n).length≤1+n.kids.length:=by
 unfold J7
 repeat' split
 all_goals simp
 all_goals omega
theorem Qh1 {r:Reg} {t:Q1}:∀(f:Nat) (i lo:Int),Q1b t lo i→i<f→((Y4 r t f i).length:Int)≤2*(i-lo)+1∧((Z0 t f i).length:Int)≤i-lo+1:=by
 intro f
 induction f with
 |zero=>intro i lo h hi;have:=h.2.1;omega
 |succ f ih =>
  intro i lo h hi
  have key:∀(l:List Int) (lo e:Int),Zu t lo l e→e≤f→((l.flatMap (Y4 r t f)).length:Int)+l.length≤2*(e-lo)∧((l.flatMap (Z0 t f)).length:Int)≤e-lo:=by
   intro l
   induction l with
   |nil=>intro lo e h _;have h:lo=e:=h;subst h;simp
   |cons k l ihl =>
    intro lo e h he;obtain⟨h1,h2⟩:=h;have hle:=h2.le;have hlk:=h1.le;obtain⟨a1,a2⟩:=ihl (k+1) e h2 he;obtain⟨b1,b2⟩:=ih k lo h1 Om;rw[List.flatMap_cons,List.flatMap_cons,List.length_append,List.length_append,List.length_cons];push_cast;constructor<;>omega
  have hle:=h.le;obtain⟨a1,a2⟩:=key _ lo i h.kids Om;have b1:=Qaz r t (t.at i);simp only[Y4,Z0];rw[List.length_append,List.length_append];push_cast;constructor
  ·omega
  ·split
   ·simp only[List.length_singleton];omega
   ·simp only[List.length_nil];omega
theorem Qfk {r:Reg} {t:Q1} (hs:Z1 t):∀(n:Nat) (i:Int),(Q1i r t n i).length≤n*1048577:=by
 intro n
 induction n with
 |zero=>intro i;simp[Q1i]
 |succ n ih =>
  intro i;simp only[Q1i];rw[List.length_append];have h1:=Qaz r t (t.at i);have h2:=hs i;have h3:=ih (i+1);omega
theorem Qd4 {α β:Type} (F:α→List β) (B:Nat):∀(l:List α),(∀x∈l,(F x).length≤B)→(l.flatMap F).length≤l.length*B:=by
 intro l
 induction l with
 |nil=>intro _;simp
 |cons x l ih =>
  intro h;rw[List.flatMap_cons,List.length_append,List.length_cons];have h1:=h x Sm;have h2:=ih (fun y hy=>h y (by simp[hy]));rw[Nat.add_mul];omega
theorem Qn5 {l:List Int} {m:Nat} (h:l.Pairwise (·<·)) (hm:∀z∈l,-1≤z∧z<m):l.length≤m+1:=by
 have hn:l.Nodup:=h.imp fun h=>by omega
 have:=Q5e hn (m:=(List.range (m+1)).map fun i:Nat=>(i:Int)-1) (fun z hz=>by
  obtain⟨h1,h2⟩:=hm z hz;exact List.mem_map.2 ⟨(z+1).toNat,List.mem_range.2 Om,Om⟩)
 simpa using this
theorem Qj4 {r:Reg} {t:Q1} {n:Qn} {m:Nat} (h:r.comps.length≤m∧r.ress.length≤m∧r.evts.length≤m):∀a∈J7 r t n,-1≤a.2∧a.2<m+1:=by
 intro a ha;have key:∀(ds:List Zt) (s:ByteArray),ds.length≤m→-1≤Qa ds s∧Qa ds s<(m:Int)+1:=fun ds s hd=>⟨Q9t ds s,by have:=Qfp ds s;omega⟩
 unfold J7 at ha;split at ha
 ·simp at ha;subst ha;exact key _ _ h.1
 split at ha
 ·obtain⟨k,_,rfl⟩:=List.mem_map.1 ha;exact key _ _ h.1
 split at ha
 ·simp at ha;subst ha;exact key _ _ h.1
 split at ha
 ·obtain⟨k,_,rfl⟩:=List.mem_map.1 ha;exact key _ _ h.1
 split at ha
 ·simp at ha;subst ha;exact key _ _ h.2.1
 split at ha
 ·simp at ha;subst ha;exact key _ _ h.2.1
 split at ha
 ·simp at ha;subst ha;exact key _ _ h.2.2
 split at ha
 ·simp at ha;subst ha;exact key _ _ h.2.2
 split at ha
 ·simp at ha;subst ha;exact key _ _ h.1
 split at ha
 ·simp at ha;subst ha;exact⟨Sm,Sm⟩
 split at ha
 ·simp at ha;subst ha;exact⟨Sm,Sm⟩
 ·cases ha
theorem Qi7 {r:Reg} {t:Q1} {m:Nat} (h:r.comps.length≤m∧r.ress.length≤m∧r.evts.length≤m) (n:Nat) (i:Int):∀a∈Q1i r t n i,-1≤a.2∧a.2<m+1:=by
 intro a ha;obtain⟨j,_,_,hj⟩:=(Q98 a n i).1 ha;exact Qj4 h a hj
theorem Qmc {r:Reg} {t:Q1} {m:Nat} (h:r.comps.length≤m∧r.ress.length≤m∧r.evts.length≤m) (top:Int):∀a∈Q61 r t top,-1≤a.2∧a.2<m+1:=by
 intro a ha;obtain⟨k,_,hk⟩:=List.mem_flatMap.1 ha;exact Qi7 h _ _ a hk
theorem Qju {r:Reg} {t:Q1} {m:Nat} (h:r.comps.length≤m∧r.ress.length≤m∧r.evts.length≤m) (top:Int) (k:Nat):(Lib.compact (X3 (Zb k (Q61 r t top)))).length≤m+2:=by
 have hu:=Q8u (Qau (Zb k (Q61 r t top)))
 refine Qn5 (m:=m+1) hu.1 fun z hz=>?_
 rw[hu.2,Q9u,Q8y] at hz;have:=Qmc h top _ hz;push_cast;exact this
def Q4h (vs:Nat→Value):Prop:=∀i j,i<8→j<8→i≠j→∀b,(vs i).ownBlock=some b→(vs j).ownBlock≠some b
def upd (vs:Nat→Value) (k:Nat) (u:Value):Nat→Value:=fun j=>if j=k then u else vs j
theorem Q3u (vs:Nat→Value) (k:Nat) (u:Value):upd vs k u k=u:=Ps rfl
theorem Q6k {vs:Nat→Value} {j k:Nat} (h:j≠k) (u:Value):upd vs k u j=vs j:=Ng h
def Q14 (vs:Nat→Value) (s x:Bool):List Value:=[vs 0,vs 1,vs 2,vs 3,vs 4,vs 5,vs 6,vs 7,.bool s,.bool x]
theorem Q8m (vs:Nat→Value) (s x:Bool) {k:Nat} (hk:k<8) (u:Value):Q14 (upd vs k u) s x=(Q14 vs s x).set k u:=by
 match k,hk with
 |0,_=>rfl
 |1,_=>rfl
 |2,_=>rfl
 |3,_=>rfl
 |4,_=>rfl
 |5,_=>rfl
 |6,_=>rfl
 |7,_=>rfl
structure Q0a (S:Nat→Prop) (w:World) (eb:Nat) (vs:Nat→Value) (A:List (Nat×Int)):Prop where
 blk:Blk w eb (Q14 vs (Ju 8 A) (Ju 9 A)) 55
 inS:S eb
 own:∀k,k<8→Qc S 3 w (vs k) (Q5 (Zb k A))
 off:∀k,k<8→(vs k).ownBlock≠some eb
 dis:Q4h vs
namespace Q0a
variable {S S':Nat→Prop} {w w':World} {eb:Nat} {vs:Nat→Value} {A:List (Nat×Int)}
theorem nobk (h:Q0a S w eb vs A) (k:Q0 nob w w'):Q0a S w' eb vs A:=⟨h.blk.kept k id,h.inS,fun i hi=>(h.own i hi).nobk k,h.off,h.dis⟩
theorem cell (h:Q0a S w eb vs A) (i:Nat) (v:Value) (hi:(Q14 vs (Ju 8 A) (Ju 9 A))[i]?=some v):w.cell? ⟨eb,i,none⟩=some v:=h.blk.cell i v hi
theorem ro (h:Q0a S w eb vs A) (hl:A.length≤17000000000000) {k:Nat} (hk:k<8):Qf w (vs k) (Zb k A):=(h.own k hk).ints (by have:=Zk k A;omega)
theorem put (h:Q0a S w eb vs A) {k:Nat} (hk:k<8) {x:Int} {u:Value} (hu:Qc S 3 w' u (Q5 (Zb k A)++[.int .i64 x])) (hw:Q0 (fun b=>(vs k).ownBlock=some b) w w')
  (hat:u.ownBlock=(vs k).ownBlock∨∃b,u.ownBlock=some b∧w.heap.size≤b):Q0a S (w'.setCell ⟨eb,k,none⟩ u) eb (upd vs k u) (A++[(k,x)]):=by
 have hlt:=h.blk.lt
 have hue:u.ownBlock≠some eb:=by
  rcases hat with e|⟨b,e,hb⟩
  ·rw[e];exact h.off k hk
  ·rw[e];intro e2;cases e2;omega
 have hb:Blk w' eb (Q14 vs (Ju 8 A) (Ju 9 A)) 55:=h.blk.kept hw (h.off k hk)
 refine⟨?_,h.inS,fun j hj=>?_,fun j hj=>?_,?_⟩
 ·rw[Q0l Om,Q0l Om,Q8m _ _ _ hk]
  exact hb.set k u
 ·by_cases e:j=k
  ·subst e
   rw[Q3u,Qdz];have:=hu.other (p:=⟨eb,j,none⟩) hue u
   rwa [show Q5 (Zb j A)++[Value.int .i64 x]=Q5 (Zb j A++[x]) by simp[Q5]] at this
  ·rw[Q6k e,Q5q (fun h=>e h.symm)]
   exact ((h.own j hj).kept hw (fun b hb=>h.dis j k hj hk e b hb)).other (p:=⟨eb,k,none⟩) (h.off j hj) u
 ·by_cases e:j=k
  ·subst e;rw[Q3u];exact hue
  ·rw[Q6k e];exact h.off j hj
 ·intro i j hi hj hij b hb
  by_cases ei:i=k
  ·subst ei
   rw[Q3u] at hb;rw[Q6k (fun h=>hij h.symm)];rcases hat with e|⟨b',e,hb'⟩
   ·exact h.dis i j hi hj hij b (e▸hb)
   ·rw[e] at hb;cases hb
    intro e2;have:=(h.own j hj).lt _ e2;omega
  ·rw[Q6k ei] at hb
   by_cases ej:j=k
   ·subst ej
    rw[Q3u];rcases hat with e|⟨b',e,hb'⟩
    ·rw[e];exact h.dis i j hi hj hij b hb
    ·rw[e];intro e2;cases e2;have:=(h.own i hi).lt _ hb;omega
   ·rw[Q6k ej];exact h.dis i j hi hj hij b hb
theorem flag (h:Q0a S w eb vs A) {k:Nat} (hk:k=8∨k=9):Q0a S (w.setCell ⟨eb,k,none⟩ (.bool true)) eb vs (A++[(k,0)]):=by
 refine⟨?_,h.inS,fun j hj=>?_,h.off,h.dis⟩
 ·have:=h.blk.set k (.bool true)
  rcases hk with rfl|rfl
  ·rw[Q78,Q0l Om];exact this
  ·rw[Q0l Om,Q78];exact this
 ·rw[Q5q Om]
  exact (h.own j hj).other (p:=⟨eb,k,none⟩) (h.off j hj) _
theorem keptS (h:Q0a S w eb vs A) {k:Nat} (hk:k<8) (hw:Q0 (fun b=>(vs k).ownBlock=some b) w w') (u:Value):Q0 S w (w'.setCell ⟨eb,k,none⟩ u) :=
 (hw.mono fun b _ e=>(h.own k hk).2 b e).setCell (.inl h.inS) u
end Q0a
theorem Xz {w:World} {p:Nat} {v0 v1 v2 v3 v4 v5 v6 v7 v8 v9:Value}:Q0 (fun b=>b=p) w ((((((((((w.setCell ⟨p,0,none⟩ v0).setCell ⟨p,1,none⟩ v1).setCell ⟨p,2,none⟩ v2).setCell ⟨p,3,none⟩ v3).setCell ⟨p,4,none⟩ v4).setCell ⟨p,5,none⟩ v5).setCell ⟨p,6,none⟩ v6).setCell ⟨p,7,none⟩ v7).setCell ⟨p,8,none⟩ v8).setCell ⟨p,9,none⟩ v9) :=
 ((((((((((Kr (fun b=>b=p) w).setCell (p:=⟨p,0,none⟩) (.inl rfl) v0).setCell (p:=⟨p,1,none⟩) (.inl rfl) v1).setCell (p:=⟨p,2,none⟩) (.inl rfl) v2).setCell (p:=⟨p,3,none⟩) (.inl rfl) v3).setCell (p:=⟨p,4,none⟩) (.inl rfl) v4).setCell (p:=⟨p,5,none⟩) (.inl rfl) v5).setCell (p:=⟨p,6,none⟩) (.inl rfl) v6).setCell (p:=⟨p,7,none⟩) (.inl rfl) v7).setCell (p:=⟨p,8,none⟩) (.inl rfl) v8).setCell (p:=⟨p,9,none⟩) (.inl rfl) v9
theorem Qkp {w:World} {p T:Nat} {c0 c1 c2 c3 c4 c5 c6 c7 c8 c9 v0 v1 v2 v3 v4 v5 v6 v7 v8 v9:Value} (h:Blk w p [c0,c1,c2,c3,c4,c5,c6,c7,c8,c9] T):Blk ((((((((((w.setCell ⟨p,0,none⟩ v0).setCell ⟨p,1,none⟩ v1).setCell ⟨p,2,none⟩ v2).setCell ⟨p,3,none⟩ v3).setCell ⟨p,4,none⟩ v4).setCell ⟨p,5,none⟩ v5).setCell ⟨p,6,none⟩ v6).setCell ⟨p,7,none⟩ v7).setCell ⟨p,8,none⟩ v8).setCell ⟨p,9,none⟩ v9) p [v0,v1,v2,v3,v4,v5,v6,v7,v8,v9] T :=
 (((((((((h.set 0 v0).set 1 v1).set 2 v2).set 3 v3).set 4 v4).set 5 v5).set 6 v6).set 7 v7).set 8 v8).set 9 v9
theorem Q50 {S:Nat→Prop} {w0 w:World} {p:Nat} {v0 v1 v2 v3 v4 v5 v6 v7 v8 v9:Value} (h:Q0 S w0 w) (hp:S p∨w0.heap.size≤p):Q0 S w0 ((((((((((w.setCell ⟨p,0,none⟩ v0).setCell ⟨p,1,none⟩ v1).setCell ⟨p,2,none⟩ v2).setCell ⟨p,3,none⟩ v3).setCell ⟨p,4,none⟩ v4).setCell ⟨p,5,none⟩ v5).setCell ⟨p,6,none⟩ v6).setCell ⟨p,7,none⟩ v7).setCell ⟨p,8,none⟩ v8).setCell ⟨p,9,none⟩ v9):=h.then_ Xz (fun b e=>by rw[e];exact hp)
theorem Qa5 {w:World} {p T:Nat} {c0 c1 c2 c3 c4 c5 c6 c7 c8 c9:Value} (h:Blk w p [c0,c1,c2,c3,c4,c5,c6,c7,c8,c9] T):(∀v0:Value,(w.setCell ⟨p,0,none⟩ v0).cell? ⟨p,0,none⟩=some v0)∧(∀v0 v1:Value,((w.setCell ⟨p,0,none⟩ v0).setCell ⟨p,1,none⟩ v1).cell? ⟨p,1,none⟩=some v1)∧(∀v0 v1 v2:Value,(((w.setCell ⟨p,0,none⟩ v0).setCell ⟨p,1,none⟩ v1).setCell ⟨p,2,none⟩ v2).cell? ⟨p,2,none⟩=some v2)∧(∀v0 v1 v2 v3:Value,((((w.setCell ⟨p,0,none⟩ v0).setCell ⟨p,1,none⟩ v1).setCell ⟨p,2,none⟩ v2).setCell ⟨p,3,none⟩ v3).cell? ⟨p,3,none⟩=some v3)∧(∀v0 v1 v2 v3 v4:Value,(((((w.setCell ⟨p,0,none⟩ v0).setCell ⟨p,1,none⟩ v1).setCell ⟨p,2,none⟩ v2).setCell ⟨p,3,none⟩ v3).setCell ⟨p,4,none⟩ v4).cell? ⟨p,4,none⟩=some v4)∧(∀v0 v1 v2 v3 v4 v5:Value,((((((w.setCell ⟨p,0,none⟩ v0).setCell ⟨p,1,none⟩ v1).setCell ⟨p,2,none⟩ v2).setCell ⟨p,3,none⟩ v3).setCell ⟨p,4,none⟩ v4).setCell ⟨p,5,none⟩ v5).cell? ⟨p,5,none⟩=some v5)∧(∀v0 v1 v2 v3 v4 v5 v6:Value,(((((((w.setCell ⟨p,0,none⟩ v0).setCell ⟨p,1,none⟩ v1).setCell ⟨p,2,none⟩ v2).setCell ⟨p,3,none⟩ v3).setCell ⟨p,4,none⟩ v4).setCell ⟨p,5,none⟩ v5).setCell ⟨p,6,none⟩ v6).cell? ⟨p,6,none⟩=some v6)∧(∀v0 v1 v2 v3 v4 v5 v6 v7:Value,((((((((w.setCell ⟨p,0,none⟩ v0).setCell ⟨p,1,none⟩ v1).setCell ⟨p,2,none⟩ v2).setCell ⟨p,3,none⟩ v3).setCell ⟨p,4,none⟩ v4).setCell ⟨p,5,none⟩ v5).setCell ⟨p,6,none⟩ v6).setCell ⟨p,7,none⟩ v7).cell? ⟨p,7,none⟩=some v7)∧(∀v0 v1 v2 v3 v4 v5 v6 v7 v8:Value,(((((((((w.setCell ⟨p,0,none⟩ v0).setCell ⟨p,1,none⟩ v1).setCell ⟨p,2,none⟩ v2).setCell ⟨p,3,none⟩ v3).setCell ⟨p,4,none⟩ v4).setCell ⟨p,5,none⟩ v5).setCell ⟨p,6,none⟩ v6).setCell ⟨p,7,none⟩ v7).setCell ⟨p,8,none⟩ v8).cell? ⟨p,8,none⟩=some v8)∧(∀v0 v1 v2 v3 v4 v5 v6 v7 v8 v9:Value,((((((((((w.setCell ⟨p,0,none⟩ v0).setCell ⟨p,1,none⟩ v1).setCell ⟨p,2,none⟩ v2).setCell ⟨p,3,none⟩ v3).setCell ⟨p,4,none⟩ v4).setCell ⟨p,5,none⟩ v5).setCell ⟨p,6,none⟩ v6).setCell ⟨p,7,none⟩ v7).setCell ⟨p,8,none⟩ v8).setCell ⟨p,9,none⟩ v9).cell? ⟨p,9,none⟩=some v9) :=
 ⟨fun v0=>(h.set 0 v0).cell 0 _ rfl,fun v0 v1=>((h.set 0 v0).set 1 v1).cell 1 _ rfl,fun v0 v1 v2=>(((h.set 0 v0).set 1 v1).set 2 v2).cell 2 _ rfl,fun v0 v1 v2 v3=>((((h.set 0 v0).set 1 v1).set 2 v2).set 3 v3).cell 3 _ rfl,fun v0 v1 v2 v3 v4=>(((((h.set 0 v0).set 1 v1).set 2 v2).set 3 v3).set 4 v4).cell 4 _ rfl,fun v0 v1 v2 v3 v4 v5=>((((((h.set 0 v0).set 1 v1).set 2 v2).set 3 v3).set 4 v4).set 5 v5).cell 5 _ rfl,fun v0 v1 v2 v3 v4 v5 v6=>(((((((h.set 0 v0).set 1 v1).set 2 v2).set 3 v3).set 4 v4).set 5 v5).set 6 v6).cell 6 _ rfl,fun v0 v1 v2 v3 v4 v5 v6 v7=>((((((((h.set 0 v0).set 1 v1).set 2 v2).set 3 v3).set 4 v4).set 5 v5).set 6 v6).set 7 v7).cell 7 _ rfl,fun v0 v1 v2 v3 v4 v5 v6 v7 v8=>(((((((((h.set 0 v0).set 1 v1).set 2 v2).set 3 v3).set 4 v4).set 5 v5).set 6 v6).set 7 v7).set 8 v8).cell 8 _ rfl,fun v0 v1 v2 v3 v4 v5 v6 v7 v8 v9=>((((((((((h.set 0 v0).set 1 v1).set 2 v2).set 3 v3).set 4 v4).set 5 v5).set 6 v6).set 7 v7).set 8 v8).set 9 v9).cell 9 _ rfl⟩
def slv (P:Nat→Option Addr) (N C:Nat→Nat):Nat→Value:=fun k=>.slice (P k) (N k) (C k)
theorem Q5m {w:World} {b:Nat} {T:TypeId} {P:Nat→Option Addr} {N C:Nat→Nat} {s x:Bool} (h:Blk w b (Q14 (slv P N C) s x) T):w.cell? ⟨b,0,none⟩=some (.slice (P 0) (N 0) (C 0))∧w.cell? ⟨b,1,none⟩=some (.slice (P 1) (N 1) (C 1))∧w.cell? ⟨b,2,none⟩=some (.slice (P 2) (N 2) (C 2))∧w.cell? ⟨b,3,none⟩=some (.slice (P 3) (N 3) (C 3))∧w.cell? ⟨b,4,none⟩=some (.slice (P 4) (N 4) (C 4))∧w.cell? ⟨b,5,none⟩=some (.slice (P 5) (N 5) (C 5))∧w.cell? ⟨b,6,none⟩=some (.slice (P 6) (N 6) (C 6))∧w.cell? ⟨b,7,none⟩=some (.slice (P 7) (N 7) (C 7))∧w.cell? ⟨b,8,none⟩=some (.bool s)∧w.cell? ⟨b,9,none⟩=some (.bool x) :=
 ⟨h.cell 0 _ rfl,h.cell 1 _ rfl,h.cell 2 _ rfl,h.cell 3 _ rfl,h.cell 4 _ rfl,h.cell 5 _ rfl,h.cell 6 _ rfl,h.cell 7 _ rfl,h.cell 8 _ rfl,h.cell 9 _ rfl⟩
theorem Qc.isSlice {S:Nat→Prop} {e:TypeId} {w:World} {v:Value} {xs:List Value} (h:Qc S e w v xs):∃A n c,v=.slice A n c:=by
 obtain⟨A,c,e⟩:=h.len;exact⟨A,_,c,e⟩
theorem Qc.isLen {S:Nat→Prop} {e:TypeId} {w:World} {A:Option Addr} {n c:Nat} {xs:List Value} (h:Qc S e w (.slice A n c) xs):n=xs.length:=by
 obtain⟨B,d,e⟩:=h.len;injection e
theorem Qb4 {vs:Nat→Value} (h:∀k,k<8→∃A n c,vs k=.slice A n c):∃P N C,∀k,k<8→vs k=slv P N C k:=by
 have h':∀k,∃x:Option Addr×Nat×Nat,k<8→vs k=.slice x.1 x.2.1 x.2.2:=fun k=>by
  by_cases hk:k<8
  ·obtain⟨A,n,c,e⟩:=h k hk;exact⟨(A,n,c),fun _=>e⟩
  ·exact⟨(none,0,0),fun h=>absurd h hk⟩
 exact⟨fun k=>(h' k).choose.1,fun k=>(h' k).choose.2.1,fun k=>(h' k).choose.2.2,fun k hk=>(h' k).choose_spec hk⟩
theorem Q6u {vs us:Nat→Value} (h:∀k,k<8→vs k=us k) (s x:Bool):Q14 vs s x=Q14 us s x:=by
 unfold Q14;rw[h 0 Om,h 1 Om,h 2 Om,h 3 Om,h 4 Om,h 5 Om,h 6 Om,h 7 Om]
theorem Q0a.sl {S:Nat→Prop} {w:World} {eb:Nat} {vs:Nat→Value} {A:List (Nat×Int)} (h:Q0a S w eb vs A):∃P N C,Q0a S w eb (slv P N C) A:=by
 obtain⟨P,N,C,e⟩:=Qb4 fun k hk=>(h.own k hk).isSlice
 refine⟨P,N,C,Q6u e _ _▸h.blk,h.inS,fun k hk=>e k hk▸h.own k hk,fun k hk=>e k hk▸h.off k hk,fun i j hi hj hij=>?_⟩
 rw[← e i hi,← e j hj];exact h.dis i j hi hj hij
section
variable {P:Program} {ops:Array Oper} {o:Oper} {a:Act} {Q:Exit→Act→World→Prop} {K:Act→World→Prop}
theorem Q54 {w:World} (S:Nat→Prop) (s x:Operand) (t e:TypeId) (z:Value) (bytes:Nat)
  (ho:o.op=.call {callee:=.builtin .append,args:=#[s,x],argTypes:=#[t,t]})
  (ht:P.underlying t=some (.slice e)) (Qod:(P.info? e).map (fun i=>(i.zero,i.size,i.bytes))=some (some z,1,bytes)) (hz:z.cells.size=1)
  (v:Value) (xs:List Value) (y:Value) (hs:a.eval s=v) (b:Nat) (hx:a.eval x=.slice (some ⟨b,0,none⟩) 1 1) (hc:w.heap[b]?=some (.cells #[y] e (0,0))) (h1:y.oneCell'=true)
  (HO:Qc S e w v xs) (HF:Jh S w) (hl:(xs.length+1)*bytes≤140737488355328) (hl2:xs.length+1≤140737488355328)
  (h:∀v1 w1,Qc S e w1 v1 (xs++[y])→Q0 (fun k=>v.ownBlock=some k) w w1→(v1.ownBlock=v.ownBlock∨∃b,v1.ownBlock=some b∧w.heap.size≤b)→K (a.put o.dst v1) w1) :
  o.wp P a w K Q:=by
 obtain⟨i0,hi,hzz⟩:=Option.map_eq_some_iff.1 Qod;simp only[Prod.mk.injEq] at hzz;obtain⟨hz0,hz1,hz2⟩:=hzz
 have Qob:∀j u,[y][j]?=some u→w.cell? ((⟨b,0,none⟩: Addr).add j)=some u:=by
  intro j u hj;have Qsl:(⟨b,0,none⟩: Addr).add j =⟨b,0+j,none⟩:=by unfold Addr.add;split<;>simp_all
  rw[Qsl];exact Qbb (cs:=[y]) hc j u hj
 obtain⟨v1,w1,hr,Qnt,hg,_,hat⟩:=run_append_own_at (P:=P) w 0 t o.type e i0 z 1 bytes ht hi hz0 hz1 hz2 hz Om v xs.length xs HO.1 ⟨b,0,none⟩ 1 1 [y] Sm Qob (by simpa using h1) (by simp only[maxLen];omega) hl (Nat.zero_le _)
 have hat':v1.ownBlock=v.ownBlock∨∃b,v1.ownBlock=some b∧w.heap.size≤b:=by
  rcases hat with hat|hat
  ·exact .inl hat
  ·exact .inr ⟨_,hat,Nat.le_refl _⟩
 unfold Oper.wp execOp;simp only[ho,resolve,invoke,builtin,Sem.run_bind,Sem.run_pure,Result.andThen_ok,List.map_toArray,List.map_cons,List.map_nil,hs,hx,hr]
 refine h v1 w1 ⟨by simpa using Qnt,fun k hk=>?_⟩ ((Kr _ w).grown hg (fun k hk=>.inl hk)) hat'
 rcases hat' with e1|⟨b,e1,hb⟩
 ·exact HO.2 k (e1▸hk)
 ·rw[e1] at hk;cases hk;exact HF _ hb
end
theorem Qd3 (l:List Int) (x:Int):Zf (l++[x])=Q1m x (Zf l):=by unfold Zf;rw[List.foldl_append];rfl
theorem Qkc (x:Int):∀l:List Int,Q4l x l≤l.length:=by
 intro l
 induction l with
 |nil=>simp[Q4l]
 |cons y l ih=>simp only[Q4l];split<;>simp<;>omega
theorem Ql0 (x:Int) (l:List Int):(Q1m x l).length≤l.length+1:=by
 unfold Q1m;split
 ·omega
 ·have:=Qkc x l;simp;omega
theorem Qg1 (l:List Int):(Zf l).length≤l.length:=by
 have key:∀(l acc:List Int),(l.foldl (fun a x=>Q1m x a) acc).length≤acc.length+l.length:=by
  intro l
  induction l with
  |nil=>intro acc;simp
  |cons x l ih=>intro acc;have h1:=ih (Q1m x acc);have h2:=Ql0 x acc;simp only[List.foldl_cons,List.length_cons];omega
 have:=key l [];simpa[Zf] using this
theorem Xr {S:Nat→Prop} (v:Value) (xs:List Int) (x:Int) (w:World) (h:Qc S 3 w v (Q5 xs)) (hF:Jh S w) (hl:xs.length≤17000000000000) :
  Calls prog 101 #[v,.int .i64 x] w fun e w'=>∃A n c,e=.returned (.slice A n c)∧Qc S 3 w' (.slice A n c) (Q5 (Q1m x xs))∧Q07 w v (.slice A n c)∧Q0 nob w w':=by
 refine (Qk0 v xs x w (h.ints Om) hl).mono ?_;rintro e w' ⟨u,rfl,hu,hk⟩;rcases hu with ⟨rfl,he⟩|hu
 ·obtain⟨A,n,c,rfl⟩:=h.isSlice
  exact⟨A,n,c,rfl,by rw[he];exact h.nobk hk,Q07.refl _ _,hk⟩
 ·obtain⟨A,n,c,rfl⟩:=hu.isSlice
  refine⟨A,n,c,rfl,hu.mono (fun k hk=>hF k hk),?_,hk⟩
  cases hb:(Value.slice A n c).ownBlock with
  |none =>
   exfalso;have Qnm:=hu.1.1;rcases hu.1.2 with ⟨_,h0⟩|⟨g,cap,cur,e,_⟩
   ·have:(Q1m x xs).length=0:=by rw[Q2] at h0;exact h0
    unfold Q1m at this;split at this
    ·rename_i hx;rw[List.eq_nil_of_length_eq_zero this] at hx;simp at hx
    ·simp at this
   ·rw[e] at hb;simp[Value.ownBlock] at hb
  |some b=>exact .inr ⟨b,hb,hu.2 b hb⟩
structure Xm (S:Nat→Prop) (w:World) (eb:Nat) (vs:Nat→Value) (A:List (Nat×Int)) (lv:Value) (L:List ByteArray):Prop where
 blk:Blk w eb (Q14 vs (Ju 8 A) (Ju 9 A)) 55
 nS:¬ S eb
 own:∀k,k<8→Qc S 3 w (vs k) (Q5 (Zf (Zb k A)))
 l:Qc S 9 w lv (strs L)
 dis:∀k,k<8→sep lv.ownBlock (vs k).ownBlock
namespace Xm
variable {S S':Nat→Prop} {w w':World} {eb:Nat} {vs:Nat→Value} {A:List (Nat×Int)} {lv:Value} {L:List ByteArray}
theorem off (h:Xm S w eb vs A lv L) (k:Nat) (hk:k<8):(vs k).ownBlock≠some eb:=fun e=>h.nS ((h.own k hk).2 eb e)
theorem offL (h:Xm S w eb vs A lv L):lv.ownBlock≠some eb:=fun e=>h.nS (h.l.2 eb e)
theorem nobk (h:Xm S w eb vs A lv L) (k:Q0 nob w w'):Xm S w' eb vs A lv L:=⟨h.blk.kept k id,h.nS,fun i hi=>(h.own i hi).nobk k,h.l.nobk k,h.dis⟩
theorem sl (h:Xm S w eb vs A lv L):∃P N C,Xm S w eb (slv P N C) A lv L:=by
 obtain⟨P,N,C,e⟩:=Qb4 fun k hk=>(h.own k hk).isSlice
 exact⟨P,N,C,Q6u e _ _▸h.blk,h.nS,fun k hk=>e k hk▸h.own k hk,h.l,fun k hk=>e k hk▸h.dis k hk⟩
theorem len (h:Xm S w eb vs A lv L) (k:Nat) (hl:A.length≤17000000000000):(Zf (Zb k A)).length≤17000000000000:=by have:=Qg1 (Zb k A);have:=Zk k A;omega
theorem add (h:Xm S w eb vs A lv L) {k:Nat} (hk:k<8) {x:Int} {u:Value} (hu:Qc S 3 w' u (Q5 (Q1m x (Zf (Zb k A))))) (hg:Q07 w (vs k) u) (hw:Q0 nob w w'):Xm S (w'.setCell ⟨eb,k,none⟩ u) eb (upd vs k u) (A++[(k,x)]) lv L:=by
 have hlt:=h.blk.lt
 refine⟨?_,h.nS,fun j hj=>?_,(h.l.nobk hw).other (p:=⟨eb,k,none⟩) h.offL u,fun j hj=>?_⟩
 ·rw[Q0l Om,Q0l Om,Q8m _ _ _ hk]
  exact (h.blk.kept hw id).set k u
 ·by_cases e:j=k
  ·subst e
   rw[Q3u,Qdz,Qd3];exact hu.other (p:=⟨eb,j,none⟩) (fun e=>h.nS (hu.2 eb e)) u
  ·rw[Q6k e,Q5q (fun h=>e h.symm)]
   exact ((h.own j hj).nobk hw).other (p:=⟨eb,k,none⟩) (h.off j hj) u
 ·by_cases e:j=k
  ·subst e
   rw[Q3u];rcases hg with e|⟨b,e,hb⟩
   ·rw[e];exact h.dis j hj
   ·rw[e];intro q hq hq2;cases hq2;have:=h.l.lt _ hq;omega
  ·rw[Q6k e];exact h.dis j hj
theorem flag (h:Xm S w eb vs A lv L) {k:Nat} (hk:k=8∨k=9):Xm S (w.setCell ⟨eb,k,none⟩ (.bool true)) eb vs (A++[(k,0)]) lv L:=by
 refine⟨?_,h.nS,fun j hj=>?_,h.l.other (p:=⟨eb,k,none⟩) h.offL _,h.dis⟩
 ·have:=h.blk.set k (.bool true)
  rcases hk with rfl|rfl
  ·rw[Q78,Q0l Om];exact this
  ·rw[Q0l Om,Q78];exact this
 ·rw[Q5q Om]
  exact (h.own j hj).other (p:=⟨eb,k,none⟩) (h.off j hj) _
theorem call (h:Xm S w eb vs A lv L) {u:Value} {x:ByteArray} (hu:Qc S 9 w' u (strs L++[.string x])) (hw:Q0 (fun b=>lv.ownBlock=some b) w w') (hg:Q07 w lv u):Xm S w' eb vs A u (L++[x]):=by
 refine⟨h.blk.kept hw h.offL,h.nS,fun j hj=>(h.own j hj).kept hw (fun b hb e=>h.dis j hj b e hb),?_,fun j hj=>?_⟩
 ·rw[← Q3w];exact hu
 ·rcases hg with e|⟨b,e,hb⟩
  ·rw[e];exact h.dis j hj
  ·rw[e];intro q hq hq2;cases hq;have:=(h.own j hj).lt _ hq2;omega
theorem renew (h:Xm S w eb vs A lv L) {us:Nat→Value} {B:List (Nat×Int)} {u:Value} {M:List ByteArray} (hw:Q0 S w w') (ho:∀k,k<8→Qc S 3 w' (us k) (Q5 (Zf (Zb k B)))) (hu:Qc S 9 w' u (strs M)) (hd:∀k,k<8→sep u.ownBlock (us k).ownBlock)
  {w2:World} (h2:Blk w2 eb (Q14 us (Ju 8 B) (Ju 9 B)) 55) (hk:Q0 (fun b=>b=eb) w' w2):Xm S w2 eb us B u M :=
 ⟨h2,h.nS,fun k hk9=>(ho k hk9).kept hk (fun b hb e=>h.nS (e▸(ho k hk9).2 b hb)),hu.kept hk (fun b hb e=>h.nS (e▸hu.2 b hb)),hd⟩
end Xm
end Go.Proofs.YtkgkafjachjafaaGreat
