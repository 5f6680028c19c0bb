/- Part 7 of: FnExactEffects answers true; no condition. -/
import Derived.BigQuiet
import Derived.Test.YtkgkafjachjafaaGreatY06
set_option linter.unusedVariables false
set_option maxHeartbeats 1000000
open Go Go.RowKit
namespace Go.Proofs.YtkgkafjachjafaaGreat
open Tryz
theorem K0b {p:Prop} (h:p:=by exact CS.fail_same hc _ _):p:=h
def Qd (t:Q1) (l:List Int):List ByteArray:=l.map fun k=>(t.at k).text
structure Qe (t:Q1) (s:CS):Prop where
 kinds:s.kinds.length=t.nodes.length
 bind:s.bind.length=t.nodes.length
 locals:∀k∈s.locals,0≤k∧k<t.nodes.length
 tops:∀k∈s.tops,0≤k∧k<t.nodes.length
 top:0≤s.top∧s.top<t.nodes.length
 nodup:s.code=0→(Qd t s.locals).Nodup
 withs:s.withs.length≤1048576
namespace Qe
variable {t:Q1} {s:CS}
theorem fail (h:Qe t s) (c n:Int):Qe t (s.fail c n):=by
 unfold CS.fail;split
 ·exact⟨h.kinds,h.bind,h.locals,h.tops,h.top,fun _=>h.nodup ‹_›,h.withs⟩
 ·exact h
theorem setKind (h:Qe t s) (i x:Int):Qe t (s.setKind i x):=⟨by simp[CS.setKind,h.kinds],h.bind,h.locals,h.tops,h.top,h.nodup,h.withs⟩
theorem setBind (h:Qe t s) (i x:Int):Qe t (s.setBind i x):=⟨h.kinds,by simp[CS.setBind,h.bind],h.locals,h.tops,h.top,h.nodup,h.withs⟩
theorem kindIs (h:Qe t s) (a b c:Int):Qe t (Qp s a b c):=by unfold Qp;split<;>first|exact h|exact h.fail _ _
theorem column (h:Qe t s) (r:Reg) (a:ByteArray) (b:Int):Qe t (Qi r s a b).2:=by
 unfold Qi;split
 ·exact h.fail _ _
 ·split
  ·exact h
  ·exact h.fail _ _
theorem named (h:Qe t s) (r:Reg) (o:Int) (a:ByteArray) (b:Int):Qe t (J4 r s o a b).2:=by
 unfold J4;split<;>first|exact h.fail _ _|exact h
theorem told (h:Qe t s) (i:Int) (n:Qn):Qe t (Yv s i n).2:=by
 unfold Yv;dsimp only;split<;>first|exact h|exact h.fail _ _
theorem args (h:Qe t s) (i:Int) (ks ps:List Int):Qe t (Yl t i ks ps s):=by
 induction ks generalizing ps s with
 |nil=>exact h
 |cons k ks ih=>cases ps with
  |nil=>exact h
  |cons p ps=>exact ih (h.kindIs _ _ _) ps
theorem call (h:Qe t s) (i:Int) (n:Qn):Qe t (Q36 t s i n).2:=by
 unfold Q36;dsimp only;split
 ·exact h.fail _ _
 ·split
  ·exact h.fail _ _
  ·exact (h.args _ _ _).setBind _ _
theorem expr (h:Qe t s) (r:Reg) (i:Int) (n:Qn):Qe t (Zw r t s i n).2:=by
 unfold Zw;split;· exact h
 split;· exact h
 split;· exact h
 split
 ·split<;>first|exact h.fail _ _|exact h.setBind _ _
 split;· exact h.column _ _ _
 split;· exact h.named _ _ _ _
 split;· exact h.call _ _
 exact h.told _ _
end Qe
theorem Yj {t:Q1} {l:List Int} {name:ByteArray} (hl:∀k∈l,0≤k):name∈Qd t l↔0≤Q3 t l name:=by
 induction l with
 |nil=>simp[Qd,Q3]
 |cons k ks ih =>
  have h0:=hl k Sm;have ih:=ih (fun x hx=>hl x (by simp[hx]));simp only[Q3,Qd,List.map_cons,List.mem_cons]
  by_cases e:(t.at k).text=name
  ·simp[e,h0]
  ·rw[Ng e,← ih];simp[Qd];intro h;exact absurd h.symm e
theorem Qe.addLocal {t:Q1} {s:CS} (h:Qe t s) (k:Int) (hk:0≤k∧k<t.nodes.length) (hn:s.code=0→Q3 t s.locals (t.at k).text<0):Qe t (s.addLocal k):=by
 refine⟨h.kinds,h.bind,?_,h.tops,h.top,fun hc=>?_,h.withs⟩
 ·intro x hx
  simp only[CS.addLocal,List.mem_append,List.mem_singleton] at hx;rcases hx with hx|rfl
  ·exact h.locals x hx
  ·exact hk
 ·have h1:=h.nodup hc
  have h2:=hn hc
  have h3:(t.at k).text∉Qd t s.locals:=by
   rw[Yj (fun k hk=>(h.locals k hk).1)];omega
  simp only[CS.addLocal,Qd,List.map_append,List.map_cons,List.map_nil];rw[List.nodup_append]
  refine⟨h1,Sm,fun a ha b hb e=>?_⟩
  simp at hb;subst hb;subst e;exact h3 ha
theorem Qe.twice {t:Q1} {s:CS} (h:Qe t s) (k:Int):Qe t (Qx t s k):=by unfold Qx;split<;>first|exact h.fail _ _|exact h
theorem Q91 {t:Q1} {s:CS} {k:Int} (hc:(Qx t s k).code=0):Q3 t (Qx t s k).locals (t.at k).text<0:=by
 unfold Qx at hc ⊢;split
 ·rename_i h
  rw[Ps h] at hc;unfold CS.fail at hc;split at hc
  ·cases hc
  ·exact absurd hc ‹_›
 ·omega
theorem Q1.at_lt {t:Q1} {i:Int} (h:0≤i∧i<t.nodes.length):∃m:Nat,i=m∧t.nodes[m]?=some (t.at i):=by
 obtain⟨m,rfl⟩:=En h.1;obtain⟨n,hn⟩:=Q4 (xs:=t.nodes) (j:=m) Om;exact⟨m,rfl,by rw[Q1.at_of hn,hn]⟩
theorem Qk.mem {t:Q1} (hK:Qk t) {i:Int} (h:0≤i∧i<t.nodes.length) {k:Int} (hk:k∈(t.at i).kids):0≤k∧k<i:=by
 obtain⟨m,rfl,hm⟩:=Q1.at_lt h;exact hK m _ hm k hk
section
variable {t:Q1} {W:CS→Int→CS}
theorem Qe.kids (hW:∀s (k:Int),Qe t s→0≤k∧k<t.nodes.length→Qe t (W s k)) (l:List Int) (hl:∀k∈l,0≤k∧k<t.nodes.length) {s:CS} (h:Qe t s):Qe t (Qb W s l):=by
 induction l generalizing s with
 |nil=>exact h
 |cons k ks ih =>
  refine ih (fun x hx=>hl x (by simp[hx])) ?_
  dsimp only;split
  ·exact hW _ _ h (hl k Sm)
  ·exact h
theorem Qe.pickStep {s:CS} (h:Qe t s) (r:Reg) (i k1 k:Int):Qe t (pickStep r t i k1 s k):=by
 unfold YtkgkafjachjafaaGreat.pickStep;dsimp only
 have h1:Qe t (if k=k1 then ((Qi r s (t.at k).text k).2.setKind i (Qi r s (t.at k).text k).1) else (Qi r s (t.at k).text k).2):=by
  split
  ·exact (h.column _ _ _).setKind _ _
  ·exact h.column _ _ _
 generalize (if k=k1 then ((Qi r s (t.at k).text k).2.setKind i (Qi r s (t.at k).text k).1) else (Qi r s (t.at k).text k).2)=s1 at h1 ⊢;split
 ·exact h1
 ·exact h1.fail _ _
theorem Qe.picks (r:Reg) (i k1:Int) (l:List Int) {s:CS} (h:Qe t s):Qe t (l.foldl (YtkgkafjachjafaaGreat.pickStep r t i k1) s):=by
 induction l generalizing s with
 |nil=>exact h
 |cons k ks ih=>exact ih (h.pickStep _ _ _ _)
theorem Qe.eachL (r:Reg) (l:List Int) {s:CS} {all:List Int} (h:Qe t s):Qe t (eachL r t l (s,all)).1∧(YtkgkafjachjafaaGreat.eachL r t l (s,all)).2.length=all.length+l.length:=by
 induction l generalizing s all with
 |nil=>exact⟨h,rfl⟩
 |cons k ks ih =>
  simp only[YtkgkafjachjafaaGreat.eachL]
  have:=ih (s:=if r.find 1 (t.at k).text<0 then s.fail 3 k else if Zr (r.find 1 (t.at k).text) all then s.fail 2 k else s) (all:=all++[r.find 1 (t.at k).text]) (by
   split
   ·exact h.fail _ _
   ·split
    ·exact h.fail _ _
    ·exact h)
  refine⟨this.1,?_⟩;rw[this.2];simp;omega
theorem Qe.stmt {s:CS} (h:Qe t s) (r:Reg) {i:Int} (hi:0≤i∧i<t.nodes.length):Qe t (Qy r t s i (t.at i)):=by
 unfold Qy;split
 ·split
  ·exact h.fail _ _
  ·exact (h.setKind _ _).addLocal i hi (fun _=>by rename_i hn;show Q3 t s.locals _<0;omega)
 split
 ·split
  ·exact h.fail _ _
  ·exact (h.setBind _ _).kindIs _ _ _
 split;· exact (h.column _ _ _).kindIs _ _ _
 split;· exact (h.named _ _ _ _).kindIs _ _ _
 split;· exact (h.named _ _ _ _).kindIs _ _ _
 split;· exact (h.named _ _ _ _).kindIs _ _ _
 split;· exact h.named _ _ _ _
 exact h
end
def Z1 (t:Q1):Prop:=∀i,(t.at i).kids.length≤1048576
def InT (t:Q1) (i:Int):Prop:=0≤i∧i<t.nodes.length
theorem InT.kid {t:Q1} {i:Int} (hK:Qk t) (hi:InT t i) {k:Int} (hk:k∈(t.at i).kids):InT t k:=⟨(hK.mem hi hk).1,by have:=(hK.mem hi hk).2;have:=hi.2;omega⟩
theorem InT.kidAt {t:Q1} {i:Int} (hK:Qk t) (hi:InT t i) (j:Nat):InT t (kidAt (t.at i) j):=by
 unfold YtkgkafjachjafaaGreat.kidAt;cases h:(t.at i).kids[j]? with
 |none=>exact⟨Sm,by have:=hi.1;have:=hi.2;simp;omega⟩
 |some k=>exact hi.kid hK (Mg h)
theorem InT.last {t:Q1} {i:Int} (hK:Qk t) (hi:InT t i):InT t ((t.at i).kids.getLast?.getD 0):=by
 cases h:(t.at i).kids.getLast? with
 |none=>exact⟨Sm,by have:=hi.1;have:=hi.2;simp;omega⟩
 |some k=>exact hi.kid hK (List.mem_of_getLast? h)
section
variable {t:Q1} {W:CS→Int→CS} (hK:Qk t) (hS:Z1 t) (hW:∀s (k:Int),Qe t s→InT t k→Qe t (W s k))
include hK hW
theorem Qe.pick {s:CS} (h:Qe t s) (r:Reg) {i:Int} (hi:InT t i):Qe t (Q4y r t W s i (t.at i)) :=
 Qe.picks r _ _ _ ((hW _ _ h (hi.kidAt hK 0)).kindIs _ _ _)
theorem Qe.branch {s:CS} (h:Qe t s) {i:Int} (hi:InT t i):Qe t (Q05 W s i (t.at i)) :=
 Qe.kids hW _ (fun k hk=>hi.kid hK (List.mem_of_mem_drop hk)) ((hW _ _ h (hi.kidAt hK 0)).kindIs _ _ _)
include hS in
theorem Qe.each {s:CS} (h:Qe t s) (r:Reg) {i:Int} (hi:InT t i):Qe t (Q40 r t W s (t.at i)):=by
 unfold Q40;dsimp only;have ha:=h.eachL r (t.at (kidAt (t.at i) 0)).kids (all:=[]);generalize YtkgkafjachjafaaGreat.eachL r t (t.at (kidAt (t.at i) 0)).kids (s,[])=a at ha;obtain⟨s1,l1⟩:=a;have hb:=ha.1.eachL r (t.at (kidAt (t.at i) 1)).kids (all:=l1);generalize YtkgkafjachjafaaGreat.eachL r t (t.at (kidAt (t.at i) 1)).kids (s1,l1)=b at hb;have hl:l1.length≤1048576:=by have:=ha.2;simp at this;rw[this];exact hS _
 have hc:Qe t (Qb W {b.1 with withs:=l1,inEach:=true} ((t.at i).kids.drop 2)) :=
  Qe.kids hW _ (fun k hk=>hi.kid hK (List.mem_of_mem_drop hk)) ⟨hb.1.kinds,hb.1.bind,hb.1.locals,hb.1.tops,hb.1.top,hb.1.nodup,hl⟩
 exact⟨hc.kinds,hc.bind,hc.locals,hc.tops,hc.top,hc.nodup,Sm⟩
theorem Qe.hear {s:CS} (h:Qe t s) (r:Reg) {i:Int} (hi:InT t i):Qe t (Q3y r t W s i (t.at i)):=by
 unfold Q3y;dsimp only;have h1:=((h.named r 3 (t.at i).text i).setKind (kidAt (t.at i) 0) (J4 r s 3 (t.at i).text i).1).twice (kidAt (t.at i) 0);have h2:=h1.addLocal _ (hi.kidAt hK 0) (fun hc=>Q91 hc);have h3:Qe t {(Qx t ((J4 r s 3 (t.at i).text i).2.setKind (kidAt (t.at i) 0) (J4 r s 3 (t.at i).text i).1) (kidAt (t.at i) 0)).addLocal (kidAt (t.at i) 0) with inHear:=true}:=⟨h2.kinds,h2.bind,h2.locals,h2.tops,h2.top,h2.nodup,h2.withs⟩;have h4:=Qe.kids hW ((t.at i).kids.drop 1) (fun k hk=>hi.kid hK (List.mem_of_mem_drop hk)) h3;generalize Qb W {(Qx t ((J4 r s 3 (t.at i).text i).2.setKind (kidAt (t.at i) 0) (J4 r s 3 (t.at i).text i).1) (kidAt (t.at i) 0)).addLocal (kidAt (t.at i) 0) with inHear:=true} ((t.at i).kids.drop 1)=s2 at h4 ⊢
 refine⟨h4.kinds,h4.bind,fun k hk=>h4.locals k (List.dropLast_subset _ hk),h4.tops,h4.top,fun hc=>?_,h4.withs⟩
 have:=h4.nodup hc;simp only[Qd] at this ⊢;rw[List.map_dropLast];exact this.sublist (List.dropLast_sublist _)
theorem Qe.spawn (r:Reg) (l:List Int) (hl:∀k∈l,InT t k) (names:List ByteArray) {s:CS} (h:Qe t s):Qe t (Xe r t W l names s):=by
 induction l generalizing s names with
 |nil=>exact h
 |cons k ks ih =>
  have hk:=hl k Sm;have h1:=Qe.kids hW (t.at k).kids (fun x hx=>hk.kid hK hx) h;simp only[Xe];split
  ·exact h1
  ·refine ih (fun x hx=>hl x (by simp[hx])) _ (Qe.kindIs ?_ _ _ _)
   split
   ·exact (h1.named _ _ _ _).fail _ _
   ·exact h1.named _ _ _ _
end
theorem Qe.param {t:Q1} {s:CS} (h:Qe t s) {k:Int} (hk:InT t k):Qe t (Jl t s k) :=
 ((h.twice k).setKind k _).addLocal k hk (fun hc=>Q91 (s:=s) hc)
theorem Qe.params {t:Q1} (l:List Int) (hl:∀k∈l,InT t k) {s:CS} (h:Qe t s):Qe t (l.foldl (Jl t) s):=by
 induction l generalizing s with
 |nil=>exact h
 |cons k ks ih=>exact ih (fun x hx=>hl x (by simp[hx])) (h.param (hl k Sm))
section
variable {t:Q1} {W:CS→Int→CS} (hK:Qk t) (hS:Z1 t) (hW:∀s (k:Int),Qe t s→InT t k→Qe t (W s k))
include hK hW
theorem Qe.fn {s:CS} (h:Qe t s) {i:Int} (hi:InT t i):Qe t (fnF t W s i (t.at i)):=by
 unfold fnF;dsimp only;have h1:=Qe.params (t.at i).kids.dropLast (fun k hk=>hi.kid hK (List.dropLast_subset _ hk)) h;have hb:=hi.last hK;split
 ·refine Qe.kindIs (Qe.kids hW _ ?_ (Qe.kids hW _ (fun k hk=>hb.kid hK (List.dropLast_subset _ hk)) h1)) _ _ _
  intro k hk;simp only[List.mem_singleton] at hk;subst hk;exact (hb.last hK).kidAt hK 0
 ·exact (Qe.kids hW _ (fun k hk=>hb.kid hK hk) h1).fail _ _
end
theorem Qe.ite {t:Q1} {c:Prop} [Decidable c] {x y:CS} (hx:c→Qe t x) (hy:¬ c→Qe t y):Qe t (if c then x else y):=by
 by_cases h:c
 ·rw[Ps h];exact hx h
 ·rw[Ng h];exact hy h
theorem Qe.walk {t:Q1} (hK:Qk t) (hS:Z1 t) (r:Reg) (f:Nat):∀(s:CS) (i:Int),Qe t s→InT t i→Qe t (Q8 r t f s i):=by
 induction f with
 |zero=>intro s i h _;exact h
 |succ f ih =>
  intro s i h hi;have Qnf:∀k∈(t.at i).kids,InT t k:=fun k hk=>hi.kid hK hk
  have h1:=Qe.kids ih (t.at i).kids Qnf h;unfold Q8;dsimp only
  refine Qe.ite (fun _=>?_) (fun _=>h.fail _ _)
  refine Qe.ite (fun _=>h.fn hK ih hi) (fun _=>?_)
  refine Qe.ite (fun _=>h1) (fun _=>?_)
  refine Qe.ite (fun _=>h.pick hK ih r hi) (fun _=>?_)
  refine Qe.ite (fun _=>h.branch hK ih hi) (fun _=>?_)
  refine Qe.ite (fun _=>h.each hK hS ih r hi) (fun _=>?_)
  refine Qe.ite (fun _=>h.hear hK ih r hi) (fun _=>?_)
  refine Qe.ite (fun _=>Qe.spawn hK ih r _ Qnf _ h) (fun _=>?_)
  refine Qe.ite (fun _=>?_) (fun _=>?_)
  ·refine⟨h1.kinds,h1.bind,fun k hk=>h1.locals k (List.mem_of_mem_take hk),h1.tops,h1.top,fun hc=>?_,h1.withs⟩
   have:=h1.nodup hc;simp only[Qd] at this ⊢;rw[List.map_take];exact this.sublist (List.take_sublist _ _)
  ·refine Qe.ite (fun _=>h1) (fun _=>?_)
   exact Qe.ite (fun _=>(h1.expr _ _ _).setKind _ _) (fun _=>h1.stmt r hi)
theorem Qe.topStep {t:Q1} (hK:Qk t) (hS:Z1 t) (r:Reg) {s:CS} {i:Int} (h:Qe t s) (hi:InT t i):Qe t (Yn r t s i):=by
 unfold Yn;dsimp only;have h1:Qe t (if 0≤Q3 t s.tops (t.at i).text then s.fail 2 i else s):=by split<;>first|exact h.fail _ _|exact h
 generalize (if 0≤Q3 t s.tops (t.at i).text then s.fail 2 i else s)=s1 at h1 ⊢;have h2:Qe t {s1 with top:=i,locals:=[]}:=⟨h1.kinds,h1.bind,Sm,h1.tops,hi,by simp[Qd],h1.withs⟩;have h3:=Qe.kids (t:=t) (W:=Q8 r t t.nodes.length) (fun s k h hk=>Qe.walk hK hS r _ s k h hk) [i] (fun k hk=>by simp at hk;subst hk;exact hi) h2;refine⟨h3.kinds,h3.bind,h3.locals,?_,h3.top,h3.nodup,h3.withs⟩;intro k hk;simp only[List.mem_append,List.mem_singleton] at hk;rcases hk with hk|rfl
 ·exact h3.tops k hk
 ·exact hi
theorem Q5e {α:Type} [DecidableEq α]:∀{l m:List α},l.Nodup→l ⊆ m→l.length≤m.length
 |[],_,_,_=>Nat.zero_le _
 |a::l,m,hn,hs=>by
  have ha:a∈m:=hs Sm;have hn':=List.nodup_cons.1 hn;have:=Q5e (m:=m.erase a) hn'.2 (fun x hx=>(List.mem_erase_of_ne (fun e=>hn'.1 (by rw[← e];exact hx))).2 (hs (by simp[hx])));rw[List.length_erase_of_mem ha] at this;have:0<m.length:=List.length_pos_of_mem ha;simp;omega
theorem Qe.few {t:Q1} {s:CS} (h:Qe t s) (hc:s.code=0):s.locals.length≤t.nodes.length:=by
 have h1:=h.nodup hc
 have h2:s.locals.Nodup:=by
  unfold Qd List.Nodup at h1;rw[List.pairwise_map] at h1;exact h1.imp (fun hne e=>hne (by rw[e]))
 have h3:(s.locals.map Int.toNat).Nodup:=by
  unfold List.Nodup;rw[List.pairwise_map];exact List.Pairwise.imp_of_mem (fun {a b} ha hb hne e=>hne (by have:=(h.locals a ha).1;have:=(h.locals b hb).1;omega)) h2
 have h4:s.locals.map Int.toNat ⊆ List.range t.nodes.length:=by
  intro x hx;obtain⟨k,hk,rfl⟩:=List.mem_map.1 hx;have:=h.locals k hk;simp;omega
 have:=Q5e h3 h4;simpa using this
structure SS where
 top:Int
 names:List ByteArray
 kinds:List Int
 each:Bool
 inner:Bool
 withs:List ByteArray
 fn:Bool
 last:Int
 code:Int
 node:Int
 kindOf:List Int
def SS.fail (s:SS) (code node:Int):SS:=if s.code=0 then {s with code:=code,node:=node} else s
def J3 (y:ByteArray):List ByteArray→Int
 |[]=>-1
 |x::xs=>if J3 y xs<0 then (if x=y then 0 else -1) else J3 y xs+1
def J2 (r:Reg) (sort:Int) (name:ByteArray):Int:=if r.find sort name<0 then 0 else r.kindOf sort (r.find sort name)
def Q46 (t:Q1):List Int→ByteArray→Int
 |[],_=>-1
 |k::ks,name=>if (t.at k).kind=33∧(t.at k).text=name then k else Q46 t ks name
def Ys (r:Reg) (s:SS) (name:ByteArray) (node:Int):Int×SS :=
 if J2 r 1 name=0 then (0,s.fail 3 node) else if Zr name s.withs then (J2 r 1 name,s) else (0,s.fail 5 node)
def Q29 (t:Q1):List Int→List Int→Bool
 |k::ks,p::ps=>decide ((t.at p).i=k)&&Q29 t ks ps
 |_,_=>true
def Q55 (t:Q1) (s:SS) (i:Int) (n:Qn) (kids:List Int):Int×SS :=
 let f:=Q46 t (t.tops.take s.top.toNat) n.text
 if f<0 then (0,s.fail 3 i)
 else if n.kids.length+1≠(t.at f).kids.length then (0,s.fail 6 i)
 else if Q29 t kids (t.at f).kids then ((t.at f).i,s) else (0,s.fail 4 i)
def Q23 (k:Int):Int:=if k=2∨k=3 then 0 else 1
def Z7 (l:List Int) (j:Nat):Int:=(l[j]?).getD 0
def Jw (r:Reg) (t:Q1) (s:SS) (i:Int) (n:Qn) (kids:List Int):Int×SS :=
 if n.kind=1 then (1,s) else if n.kind=2 then (2,s) else if n.kind=3 then (4,s)
 else if n.kind=4 then (if J3 n.text s.names<0 then (0,s.fail 3 i) else (Z7 s.kinds (J3 n.text s.names).toNat,s))
 else if n.kind=5 then Ys r s n.text i
 else if n.kind=6 then (if J2 r 2 n.text=0 then (0,s.fail 3 i) else (J2 r 2 n.text,s))
 else if n.kind=7 then Q55 t s i n kids
 else if n.kind=8 then
  (if (opK n.i (Z7 kids 0) (Q23 (Z7 kids 0)) (Z7 kids 1) (Q23 (Z7 kids 1))).2=0 then ((opK n.i (Z7 kids 0) (Q23 (Z7 kids 0)) (Z7 kids 1) (Q23 (Z7 kids 1))).1,s) else (0,s.fail 4 i))
 else if n.kind=9 then (if (J6 n.i (Ja (Z7 kids 0)) 0).2=0 then ((J6 n.i (Ja (Z7 kids 0)) 0).1,s) else (0,s.fail 4 i))
 else if Z5 (Ja (Z7 kids 0)) 0 (Ja (Z7 kids 1)) 0 then (3,s) else (0,s.fail 4 i)
def Yd (r:Reg) (t:Q1) (first:Int):List Int→SS→Int×SS
 |[],s=>(first,s)
 |k::ks,s =>
  let c:=Ys r s (t.at k).text k
  if c.2.code≠0 then (0,c.2) else if c.1≠first then (0,c.2.fail 4 k) else Yd r t first ks c.2
def Q2a (r:Reg) (t:Q1) (E:SS→Int→Int×SS) (s:SS) (i:Int) (n:Qn):Int×SS :=
 if s.each then
  let e:=E s (kidAt n 0)
  if e.2.code≠0 then (0,e.2) else if e.1≠1 then (0,e.2.fail 4 i) else
  match n.kids.drop 1 with
  |[]=>(0,e.2)
  |k::ks =>
   let c:=Ys r e.2 (t.at k).text k
   if c.2.code≠0 then (0,c.2) else Yd r t c.1 ks c.2
 else (0,s.fail 5 i)
def Q1f (E:SS→Int→Int×SS):List Int→SS→List Int×SS
 |[],s=>([],s)
 |k::ks,s =>
  let e:=E s k
  if e.2.code≠0 then ([e.1],e.2) else (e.1::(Q1f E ks e.2).1,(Q1f E ks e.2).2)
def Q37 (r:Reg) (t:Q1) (E:SS→Int→Int×SS) (s:SS) (i:Int):Int×SS :=
 let n:=t.at i
 if n.kind=11 then Q2a r t E s i n
 else if n.kind=5∧s.each=false then (0,s.fail 5 i)
 else
  let x:=Q1f E n.kids s
  if x.2.code≠0 then (0,x.2) else Jw r t x.2 i n x.1
def Jx (r:Reg) (t:Q1):Nat→SS→Int→Int×SS
 |0,s,_=>(0,s)
 |f+1,s,i =>
  if s.code≠0 then (0,s) else
  let b:=Q37 r t (Jx r t f) s i
  if b.2.code≠0 then (0,b.2) else (b.1,{b.2 with kindOf:=b.2.kindOf.set i.toNat b.1})
def Zm (W:SS→Int→SS) (l:List Int) (s:SS):SS:=l.foldl (fun s k=>if s.code=0 then W s k else s) s
def Jg (t:Q1) (W:SS→Int→SS) (s:SS) (i:Int) (more:List ByteArray) (kinds:List Int):SS :=
 if s.code≠0 then s else
 {Zm W (t.at i).kids {s with names:=s.names++more,kinds:=s.kinds++kinds} with names:=s.names,kinds:=s.kinds}
def eachGo (r:Reg) (t:Q1):List Int→List ByteArray→SS→List ByteArray×SS
 |[],all,s=>(all,s)
 |k::ks,all,s =>
  if J2 r 1 (t.at k).text=0 then (all,s.fail 3 k) else if Zr (t.at k).text all then (all,s.fail 2 k)
  else eachGo r t ks (all++[(t.at k).text]) s
def Q42 (r:Reg) (t:Q1) (W:SS→Int→SS) (s:SS) (n:Qn):SS :=
 let a:=eachGo r t ((t.at (kidAt n 0)).kids++(t.at (kidAt n 1)).kids) [] s
 if a.2.code≠0 then a.2 else
 {Jg t W {a.2 with each:=true,inner:=true,withs:=a.1.take (t.at (kidAt n 0)).kids.length} (kidAt n 2) [] [] with each:=false,inner:=false,withs:=[]}
def Q41 (r:Reg) (t:Q1) (W:SS→Int→SS) (s:SS) (i:Int) (n:Qn):SS :=
 if J2 r 3 n.text=0 then s.fail 3 i
 else if 0≤J3 (t.at (kidAt n 0)).text s.names then s.fail 2 (kidAt n 0)
 else {Jg t W {s with inner:=true} (kidAt n 1) [(t.at (kidAt n 0)).text] [J2 r 3 n.text] with inner:=false}
def Q1j (r:Reg) (t:Q1) (E:SS→Int→Int×SS):List Int→List ByteArray→SS→SS
 |[],_,s=>s
 |k::ks,had,s =>
  let e:=E s (kidAt (t.at k) 0)
  if e.2.code≠0 then e.2
  else if J2 r 1 (t.at k).text=0 then e.2.fail 3 k
  else if Zr (t.at k).text had then e.2.fail 2 k
  else if J2 r 1 (t.at k).text≠e.1 then e.2.fail 4 k
  else Q1j r t E ks (had++[(t.at k).text]) e.2
def Xo (r:Reg) (t:Q1) (E:SS→Int→Int×SS) (s:SS) (i:Int) (n:Qn) (sort:Int):SS :=
 let e:=E s (kidAt n 0)
 if e.2.code≠0 then e.2
 else if J2 r sort n.text=0 then e.2.fail 3 i
 else if n.kind=14∧Zr n.text e.2.withs=false then e.2.fail 5 i
 else if J2 r sort n.text≠e.1 then e.2.fail 4 i else e.2
def Q0d (E:SS→Int→Int×SS) (s:SS) (i:Int) (n:Qn):SS :=
 let e:=E s (kidAt n 0)
 if e.2.code≠0 then e.2
 else if n.kind=12 then
  (if 0≤J3 n.text e.2.names then e.2.fail 2 i else {e.2 with names:=e.2.names++[n.text],kinds:=e.2.kinds++[e.1]})
 else if J3 n.text e.2.names<0 then e.2.fail 3 i
 else if Z7 e.2.kinds (J3 n.text e.2.names).toNat≠e.1 then e.2.fail 4 i else e.2
def Xx (t:Q1) (W:SS→Int→SS) (l:List Int) (s:SS):SS:=l.foldl (fun s k=>Jg t W s k [] []) s
def Y6 (t:Q1) (E:SS→Int→Int×SS) (W:SS→Int→SS) (s:SS) (i:Int) (n:Qn) (want:Int):SS :=
 let e:=E s (kidAt n 0)
 if e.2.code≠0 then e.2 else if e.1≠want then e.2.fail 4 i else Xx t W (n.kids.drop 1) e.2
def Zx (t:Q1) (s:SS) (i:Int):Bool :=
 let k:=(t.at i).kind
 if k=18∨k=20 then !s.fn&&!s.inner else if k=14∨k=22∨k=23∨k=24 then s.each else if k=26 then s.fn&&decide (i=s.last) else true
def Qq (r:Reg) (t:Q1):Nat→SS→Int→SS
 |0,s,_=>s
 |f+1,s,i =>
  let n:=t.at i
  let E:=Jx r t f
  let W:=Qq r t f
  if Zx t s i then
   if n.kind=12∨n.kind=13 then Q0d E s i n
   else if n.kind=14∨n.kind=23 then Xo r t E s i n 1
   else if n.kind=15 then Xo r t E s i n 2
   else if n.kind=19 then Xo r t E s i n 3
   else if n.kind=16 then Y6 t E W s i n 4
   else if n.kind=17 then Y6 t E W s i n 1
   else if n.kind=18 then Q42 r t W s n
   else if n.kind=20 then Q41 r t W s i n
   else if n.kind=21 then Q1j r t E n.kids [] s
   else if n.kind=24 then (if J2 r 1 n.text=0 then s.fail 3 i else s)
   else if n.kind=25∨n.kind=26 then (E s (kidAt n 0)).2
   else s
  else s.fail 5 i
def Z4 (t:Q1):List Int→List ByteArray→List Int→SS→List ByteArray×List Int×SS
 |[],names,kinds,s=>(names,kinds,s)
 |k::ks,names,kinds,s =>
  if Zr (t.at k).text names then (names,kinds,s.fail 2 k) else Z4 t ks (names++[(t.at k).text]) (kinds++[(t.at k).i]) s
def topS (r:Reg) (t:Q1) (s:SS) (k:Nat):SS :=
 let i:=Z7 t.tops k
 let n:=t.at i
 let s1:={s with top:=(k:Int),names:=[],kinds:=[]}
 if (t.tops.take k).any (fun j=>decide ((t.at j).text=n.text)) then s1.fail 2 i else
 let p:=Z4 t n.kids.dropLast [] [] {s1 with fn:=n.kind==33}
 if p.2.2.code≠0 then p.2.2 else
 let b:=n.kids.getLast?.getD 0
 let last:=(t.at b).kids.getLast?.getD (-1)
 let s3:=Jg t (Qq r t t.nodes.length) {p.2.2 with last:=last} b p.1 p.2.1
 if s3.fn=false∨s3.code≠0 then s3
 else if last<0∨(t.at last).kind≠26 then s3.fail 5 i
 else if Z7 s3.kindOf (kidAt (t.at last) 0).toNat≠n.i then s3.fail 4 i else s3
def Q0j (t:Q1):SS:=⟨0,[],[],false,false,[],false,0,0,-1,List.replicate t.nodes.length 0⟩
def Q6w (r:Reg) (t:Q1):SS:=(List.range t.tops.length).foldl (fun s k=>if s.code=0 then topS r t s k else s) (Q0j t)
def Qk4 (r:Reg) (t:Q1):Int×Int:=((Q6w r t).code,(Q6w r t).node)
def Q1b (t:Q1) (m i:Int):Prop:=0≤m∧0≤i∧∃f,Qv t f i m=i+1
def Zu (t:Q1):Int→List Int→Int→Prop
 |m,[],e=>m=e
 |m,k::ks,e=>Q1b t m k∧Zu t (k+1) ks e
theorem Q1b.le_of {t:Q1}:∀(f:Nat) (m i:Int),0≤m→0≤Qv t f i m→m≤i∧Qv t f i m=i+1∧Zu t m (t.at i).kids i:=by
 intro f
 induction f with
 |zero=>intro m i hm h;simp[Qv] at h
 |succ f ih =>
  intro m i hm h
  have key:∀(l:List Int) (a:Int),0≤a→0≤l.foldl (fun m k=>if m<0 then -1 else Qv t f k m) a →
    a≤l.foldl (fun m k=>if m<0 then -1 else Qv t f k m) a∧Zu t a l (l.foldl (fun m k=>if m<0 then -1 else Qv t f k m) a):=by
   intro l
   induction l with
   |nil=>intro a ha _;exact⟨Int.le_refl _,rfl⟩
   |cons k ks ih2 =>
    intro a ha hf;simp only[List.foldl_cons] at hf ⊢;rw[Ng Om] at hf ⊢
    have hn:0≤Qv t f k a:=by
     rcases Int.lt_or_le (Qv t f k a) 0 with h'|h'
     ·exfalso
      rcases Q3h t f k a with e|e
      ·rw[e,Q75] at hf;omega
      ·have:k < -1:=Om
       have h2:=(ih2 0 Om);rw[e] at hf;clear h2;cases ks with
       |nil=>simp at hf;omega
       |cons y ys =>
        simp only[List.foldl_cons] at hf;rw[Ps Om,Q75] at hf;omega
     ·exact h'
    obtain⟨h1,h2,h3⟩:=ih a k ha hn;rw[h2] at hf ⊢;obtain⟨h4,h5⟩:=ih2 (k+1) Om hf;exact⟨Om,⟨ha,Om,f,h2⟩,h5⟩
  have hx:=key (t.at i).kids m hm;have e:Qv t (f+1) i m=(if (t.at i).kids.foldl (fun m k=>if m<0 then -1 else Qv t f k m) m<0 then -1 else if i=(t.at i).kids.foldl (fun m k=>if m<0 then -1 else Qv t f k m) m then (t.at i).kids.foldl (fun m k=>if m<0 then -1 else Qv t f k m) m+1 else -1):=rfl;rw[e] at h ⊢;clear e;generalize (t.at i).kids.foldl (fun m k=>if m<0 then -1 else Qv t f k m) m=x at h hx ⊢
  by_cases h1:x<0
  ·rw[Ps h1] at h;omega
  by_cases h2:i=x
  ·rw[Ng h1,Ps h2]
   obtain⟨h3,h4⟩:=hx Om;subst h2;exact⟨h3,rfl,h4⟩
  ·rw[Ng h1,Ng h2] at h;omega
theorem Q1b.le {t:Q1} {m i:Int} (h:Q1b t m i):m≤i:=by
 obtain⟨hm,hi,f,hf⟩:=h;have h0:0≤Qv t f i m:=Om
 exact (Q1b.le_of f m i hm h0).1
theorem Q1b.low {t:Q1} {m i:Int} (h:Q1b t m i):0≤m:=h.1
theorem Q1b.kids {t:Q1} {m i:Int} (h:Q1b t m i):Zu t m (t.at i).kids i:=by
 obtain⟨hm,hi,f,hf⟩:=h;have h0:0≤Qv t f i m:=Om
 exact (Q1b.le_of f m i hm h0).2.2
theorem Zu.le {t:Q1} {m e:Int} {l:List Int} (h:Zu t m l e):m≤e:=by
 induction l generalizing m with
 |nil=>exact Int.le_of_eq h
 |cons k ks ih=>have:=h.1.le;have:=ih h.2;omega
theorem Zu.app {t:Q1} {m e:Int} {l l':List Int} (h:Zu t m (l++l') e):∃x,Zu t m l x∧Zu t x l' e:=by
 induction l generalizing m with
 |nil=>exact⟨m,rfl,h⟩
 |cons k ks ih =>
  obtain⟨x,h1,h2⟩:=ih h.2;exact⟨x,⟨h.1,h1⟩,h2⟩
theorem Zu.mem {t:Q1} {m e:Int} {l:List Int} (h:Zu t m l e) {k:Int} (hk:k∈l):∃lo,Q1b t lo k∧m≤lo∧k<e:=by
 induction l generalizing m with
 |nil=>simp at hk
 |cons x xs ih =>
  rcases List.mem_cons.1 hk with rfl|hk
  ·exact⟨m,h.1,Int.le_refl _,by have:=Zu.le h.2;omega⟩
  ·obtain⟨lo,h1,h2,h3⟩:=ih h.2 hk
   exact⟨lo,h1,by have:=h.1.le;omega,h3⟩
theorem Q4f (t:Q1) (k:Int) (ks:List Int):Qd t (k::ks)=(t.at k).text::Qd t ks:=rfl
theorem Qfi {t:Q1} {l:List Int} {name:ByteArray} (hl:∀k∈l,0≤k) (hn:(Qd t l).Nodup) (g:Int→Int) :
  (J3 name (Qd t l)<0↔Q3 t l name<0)∧(0≤Q3 t l name→Z7 (l.map g) (J3 name (Qd t l)).toNat=g (Q3 t l name)):=by
 induction l with
 |nil=>simp[Qd,J3,Q3]
 |cons k ks ih =>
  have hk:=hl k Sm;rw[Q4f,List.nodup_cons] at hn;obtain⟨i1,i2⟩:=ih (fun x hx=>hl x (by simp[hx])) hn.2;have Qp1:=Yj (t:=t) (l:=ks) (name:=name) (fun x hx=>hl x (by simp[hx]));rw[Q4f];simp only[J3,Q3,List.map_cons]
  by_cases e:(t.at k).text=name
  ·have hno:¬ 0≤Q3 t ks name:=by
    rw[← Qp1];intro h;exact hn.1 (by rw[e];exact h)
   have hlt:J3 name (Qd t ks)<0:=i1.2 Om;rw[Ps hlt,Ps e,Ps e]
   refine⟨Om,fun _=>?_⟩
   simp[Z7]
  ·rw[Ng e,Ng e]
   by_cases hlt:J3 name (Qd t ks)<0
   ·rw[Ps hlt]
    have:=i1.1 hlt;exact⟨Om,fun h=>by omega⟩
   ·rw[Ng hlt]
    have h3:¬ Q3 t ks name<0:=fun h=>hlt (i1.2 h)
    refine⟨Om,fun h=>?_⟩
    rw[← i2 Om];have:(J3 name (Qd t ks)+1).toNat=(J3 name (Qd t ks)).toNat+1:=Om
    rw[this];simp[Z7]
theorem Q5i {ds:List Zt} {s:ByteArray} (h:0≤Qa ds s):∃d,ds[(Qa ds s).toNat]?=some d∧d.name=s:=by
 induction ds with
 |nil=>simp[Qa] at h
 |cons d ds ih =>
  simp only[Qa] at h ⊢;split
  ·rename_i e;exact⟨d,Sm,e⟩
  ·rename_i e
   rw[Ng e] at h;split at h
   ·omega
   ·rename_i e2
    rw[Ng e2];have hg:=Q9t ds s;obtain⟨x,h1,h2⟩:=ih Om;refine⟨x,?_,h2⟩;have:(Qa ds s+1).toNat=(Qa ds s).toNat+1:=Om
    rw[this];simpa using h1
theorem Qe3 {r:Reg} {sort:Int} {a b:ByteArray} (ha:0≤r.find sort a) (h:r.find sort a=r.find sort b):a=b:=by
 unfold Reg.find at ha h;obtain⟨x,h1,h2⟩:=Q5i ha;obtain⟨y,h3,h4⟩:=Q5i (h▸ha);rw[h] at h1;rw[h1] at h3;cases h3;rw[← h2,h4]
def Xy (r:Reg):Prop:=∀d,d∈r.comps∨d∈r.ress∨d∈r.evts→1≤d.kind∧d.kind≤4
theorem Qbr {ds:List Zt} {names ys:List ByteArray} (h:X8 names ds=some ys):∀d∈ds,1≤d.kind∧d.kind≤4:=by
 induction ds generalizing names with
 |nil=>simp
 |cons d ds ih =>
  simp only[X8] at h;split at h
  ·rename_i hc
   intro x hx;rcases List.mem_cons.1 hx with rfl|hx
   ·simp[Q9] at hc;omega
   ·exact ih h x hx
  ·cases h
theorem Qbv {ls:List (List Zt)} {names:List ByteArray} (h:Q24 ls names=true):∀l∈ls,∀d∈l,1≤d.kind∧d.kind≤4:=by
 induction ls generalizing names with
 |nil=>simp
 |cons l ls ih =>
  simp only[Q24] at h;split at h
  ·cases hd:X8 names l with
   |none=>rw[hd] at h;simp at h
   |some ys =>
    rw[hd] at h;intro x hx;rcases List.mem_cons.1 hx with rfl|hx
    ·exact Qbr hd
    ·exact ih h x hx
  ·simp at h
theorem Qfj {r:Reg} (h:Q6t r=true):Xy r:=by
 intro d hd;have:=Qbv h;rcases hd with hd|hd|hd
 ·exact this r.comps Sm d hd
 ·exact this r.ress Sm d hd
 ·exact this r.evts Sm d hd
theorem Qa3 {r:Reg} (hr:Xy r) (sort:Int) (name:ByteArray):(J2 r sort name=0↔r.find sort name<0)∧(0≤r.find sort name→J2 r sort name=r.kindOf sort (r.find sort name)):=by
 unfold J2
 by_cases h:r.find sort name<0
 ·rw[Ps h];exact⟨by simp[h],fun h'=>by omega⟩
 ·rw[Ng h]
  refine⟨?_,fun _=>rfl⟩
  have h0:0≤r.find sort name:=Om
  obtain⟨d,h1,h2⟩:=Q5i (ds:=r.list sort) h0;have h1':(r.list sort)[(r.find sort name).toNat]?=some d:=h1;have hk:r.kindOf sort (r.find sort name)=d.kind:=by unfold Reg.kindOf;rw[Ps h0,h1']
  have hm:=Mg h1'
  have:1≤d.kind∧d.kind≤4:=by
   refine hr d ?_;unfold Reg.list at hm;split at hm
   ·exact .inl hm
   ·split at hm
    ·exact .inr (.inl hm)
    ·split at hm
     ·exact .inr (.inr hm)
     ·simp at hm
  rw[hk];omega
def CS.Same (s s':CS):Prop:=s'.code=s.code∧s'.node=s.node
namespace CS
variable {s s' s'':CS}
theorem Same.rfl (s:CS):s.Same s:=⟨Eq.refl _,Eq.refl _⟩
theorem Same.trans (h:s.Same s') (k:s'.Same s''):s.Same s'':=⟨k.1.trans h.1,k.2.trans h.2⟩
theorem Same.ne (h:s.Same s') (hc:s.code≠0):s'.code≠0:=by rw[h.1];exact hc
theorem fail_same (hc:s.code≠0) (c n:Int):s.Same (s.fail c n):=by rw[CS.fail,Ng hc];exact Same.rfl s
theorem fail_code (hc:s.code=0) (c n:Int):(s.fail c n).code=c∧(s.fail c n).node=n:=by rw[CS.fail,Ps hc];exact⟨_root_.rfl,_root_.rfl⟩
end CS
open CS (Same)
theorem X6 {s:CS} (hc:s.code≠0) (a b c:Int):s.Same (Qp s a b c):=by
 unfold Qp;split
 ·exact Same.rfl s
 ·exact K0b
theorem Qbq {r:Reg} {s:CS} (hc:s.code≠0) (a:ByteArray) (b:Int):s.Same (Qi r s a b).2:=by
 unfold Qi;split
 ·exact K0b
 ·split
  ·exact Same.rfl s
  ·exact K0b
theorem Qfd {t:Q1} {i:Int} {s:CS} (hc:s.code≠0) (ks ps:List Int):s.Same (Yl t i ks ps s):=by
 induction ks generalizing ps s with
 |nil=>exact Same.rfl s
 |cons k ks ih=>cases ps with
  |nil=>exact Same.rfl s
  |cons p ps =>
   have h:=X6 hc k (t.at p).i i;exact h.trans (ih (h.ne hc) ps)
theorem Zg {W:CS→Int→CS} {s:CS} (hc:s.code≠0) (l:List Int):Qb W s l=s:=by
 induction l with
 |nil=>rfl
 |cons k ks ih=>unfold Qb at ih ⊢;rw[List.foldl_cons,Ng hc];exact ih
theorem Q82 {t:Q1} {s:CS} (hc:s.code≠0) (k:Int):s.Same (Qx t s k):=by
 unfold Qx;split
 ·exact K0b
 ·exact Same.rfl s
theorem Qaa {r:Reg} {t:Q1} {i k1:Int} {s:CS} (hc:s.code≠0) (k:Int):s.Same (pickStep r t i k1 s k):=by
 unfold pickStep;dsimp only;have h1:=Qbq (r:=r) hc (t.at k).text k
 have h2:s.Same (if k=k1 then ((Qi r s (t.at k).text k).2.setKind i (Qi r s (t.at k).text k).1) else (Qi r s (t.at k).text k).2):=by
  split
  ·exact h1
  ·exact h1
 generalize (if k=k1 then ((Qi r s (t.at k).text k).2.setKind i (Qi r s (t.at k).text k).1) else (Qi r s (t.at k).text k).2)=s1 at h2 ⊢;split
 ·exact h2
 ·exact h2.trans (CS.fail_same (h2.ne hc) _ _)
theorem Q2x {r:Reg} {t:Q1} {i k1:Int} (l:List Int) {s:CS} (hc:s.code≠0):s.Same (l.foldl (pickStep r t i k1) s):=by
 induction l generalizing s with
 |nil=>exact Same.rfl s
 |cons k ks ih=>have h:=Qaa (r:=r) (t:=t) (i:=i) (k1:=k1) hc k;exact h.trans (ih (h.ne hc))
theorem Q68 {r:Reg} {t:Q1} (l:List Int) {s:CS} {all:List Int} (hc:s.code≠0):s.Same (eachL r t l (s,all)).1:=by
 induction l generalizing s all with
 |nil=>exact Same.rfl s
 |cons k ks ih =>
  simp only[eachL]
  have h:s.Same (if r.find 1 (t.at k).text<0 then s.fail 3 k else if Zr (r.find 1 (t.at k).text) all then s.fail 2 k else s):=by
   split
   ·exact K0b
   ·split
    ·exact K0b
    ·exact Same.rfl s
  exact h.trans (ih (h.ne hc))
structure Rel (r:Reg) (t:Q1) (s:CS) (z:SS):Prop where
 names:z.names=Qd t s.locals
 kinds:z.kinds=s.locals.map s.kindAt
 each:z.each=s.inEach
 inner:z.inner=(s.inEach ||s.inHear)
 fn:z.fn=((t.at s.top).kind==33)
 topk:(t.at s.top).kind=33∨(t.at s.top).kind=34
 tops:t.tops.take z.top.toNat=s.tops
 topsND:(Qd t s.tops).Nodup
 withs:∀name,0≤r.find 1 name→Zr name z.withs=Zr (r.find 1 name) s.withs
 none:s.inEach=false→s.withs=[]∧z.withs=[]
 kindOf:z.kindOf.length=t.nodes.length
 ok:Qe t s
 code:s.code=0
 codeS:z.code=0
 node:s.node=z.node
def Q2r (s:CS) (z:SS):Prop:=s.code=z.code∧s.node=z.node
def Jn (lo i:Int) (s s':CS):Prop:=∀j:Int,0≤j→(j<lo∨i<j)→s'.kindAt j=s.kindAt j
theorem Jn.refl (lo i:Int) (s:CS):Jn lo i s s:=fun _ _ _=>rfl
theorem Jn.wider {lo i lo' i':Int} {s s':CS} (h:Jn lo i s s') (h1:lo'≤lo) (h2:i≤i'):Jn lo' i' s s':=fun j h0 hj=>h j h0 Om
theorem Jn.trans {lo i:Int} {s s' s'':CS} (h:Jn lo i s s') (k:Jn lo i s' s''):Jn lo i s s'':=fun j h0 hj=>(k j h0 hj).trans (h j h0 hj)
theorem CS.kindAt_set (s:CS) (i x j:Int) (hi:0≤i) (hj:0≤j) (hl:i<s.kinds.length):(s.setKind i x).kindAt j=if j=i then x else s.kindAt j:=by
 unfold CS.kindAt CS.setKind;rw[List.getElem?_set]
 by_cases e:j=i
 ·subst e;rw[Ps rfl,Ps Om,Ps rfl];rfl
 ·rw[Ng Om,Ng e]
theorem Jn.set (s:CS) {lo i k x:Int} (h0:0≤k) (h1:lo≤k) (h2:k≤i) (hl:k<s.kinds.length):Jn lo i s (s.setKind k x):=by
 intro j hj hh;rw[CS.kindAt_set s k x j h0 hj hl,Ng Om]
def Z8 (s s':CS):Prop:=∃K B,s'={s with kinds:=K,bind:=B}
theorem Z8.refl (s:CS):Z8 s s:=⟨_,_,rfl⟩
theorem Z8.trans {s s' s'':CS} (h:Z8 s s') (k:Z8 s' s''):Z8 s s'':=by
 obtain⟨K,B,rfl⟩:=h;obtain⟨K',B',rfl⟩:=k;exact⟨K',B',rfl⟩
theorem Z8.setKind (s:CS) (i x:Int):Z8 s (s.setKind i x):=⟨_,_,rfl⟩
theorem Z8.setBind' (s:CS) (B:List Int):Z8 s {s with bind:=B}:=⟨_,_,rfl⟩
theorem Z8.setBind (s:CS) (i x:Int):Z8 s (s.setBind i x):=⟨_,_,rfl⟩
def Yk (z z':SS):Prop:=z'.kindOf.length=z.kindOf.length∧∃O,z'={z with kindOf:=O}
theorem Yk.refl (z:SS):Yk z z:=⟨rfl,_,rfl⟩
theorem Yk.trans {z z' z'':SS} (h:Yk z z') (k:Yk z' z''):Yk z z'':=by
 obtain⟨l,O,rfl⟩:=h;obtain⟨l',O',rfl⟩:=k;exact⟨l'.trans l,O',rfl⟩
theorem Rel.next {r:Reg} {t:Q1} {s s':CS} {z z':SS} (h:Rel r t s z) (k:Z8 s s') (o:Yk z z') (hok:Qe t s') {lo i:Int} (hl:∀x∈s.locals,x<lo) (ho:Jn lo i s s'):Rel r t s' z':=by
 obtain⟨K,B,rfl⟩:=k;obtain⟨l,O,rfl⟩:=o;refine⟨h.names,?_,h.each,h.inner,h.fn,h.topk,h.tops,h.topsND,h.withs,h.none,by rw[l];exact h.kindOf,hok,h.code,h.codeS,h.node⟩
 show z.kinds=s.locals.map _
 rw[h.kinds];apply List.map_congr_left;intro x hx;exact (ho x (h.ok.locals x hx).1 (.inl (hl x hx))).symm
def Qn3 (lo i:Int) (s:CS) (z:SS) (s':CS) (p:Int×SS):Prop :=
 Q2r s' p.2∧(s'.code=0→Z8 s s'∧Yk z p.2∧s'.kindAt i=p.1∧Z7 p.2.kindOf i.toNat=p.1∧Jn lo i s s')
def KRel (lo e:Int) (kids:List Int) (s:CS) (z:SS) (s':CS) (p:List Int×SS):Prop :=
 Q2r s' p.2∧(s'.code=0→Z8 s s'∧Yk z p.2∧kids.map s'.kindAt=p.1∧Jn lo (e-1) s s')
section
variable {r:Reg} {t:Q1}
def Q8r (r:Reg) (t:Q1) (b:Int) (W:CS→Int→CS) (E:SS→Int→Int×SS):Prop :=
 ∀lo i s z,i<b→Q1b t lo i→InT t i→Qu (t.at i).kind=true→Rel r t s z→(∀x∈s.locals,x<lo)→Qn3 lo i s z (W s i) (E z i)∧Qe t (W s i)
theorem Qkb {b:Int} {W:CS→Int→CS} {E:SS→Int→Int×SS} (hE:Q8r r t b W E):∀(l:List Int) (lo e:Int) (s:CS) (z:SS),e≤b→Zu t lo l e→(∀k∈l,InT t k∧Qu (t.at k).kind=true) →
  Rel r t s z→(∀x∈s.locals,x<lo)→KRel lo e l s z (Qb W s l) (Q1f E l z)∧Qe t (Qb W s l):=by
 intro l
 induction l with
 |nil =>
  intro lo e s z _ _ _ h _;exact⟨⟨⟨h.code.trans h.codeS.symm,h.node⟩,fun _=>⟨Z8.refl _,Yk.refl _,rfl,Jn.refl _ _ _⟩⟩,h.ok⟩
 |cons k ks ih =>
  intro lo e s z hb hch hin h hl;obtain⟨hsp,hch⟩:=hch;have hle:=hch.le;obtain⟨⟨⟨a1,a2⟩,he⟩,hok⟩:=hE lo k s z Om hsp (hin k Sm).1 (hin k Sm).2 h hl
  have Qp2:Qb W s (k::ks)=Qb W (W s k) ks:=by
   show List.foldl _ _ _=_
   rw[List.foldl_cons,Ps h.code];rfl
  rw[Qp2];simp only[Q1f]
  by_cases hc:(W s k).code=0
  ·obtain⟨b1,b2,b3,b4,b5⟩:=he hc
   rw[Ng (by rw[← a1];simpa using hc)];have hR:=h.next b1 b2 hok hl b5
   have hl2:∀x∈(W s k).locals,x<k+1:=by
    obtain⟨K,B,hs'⟩:=b1;rw[hs'];intro x hx;have:=hl x hx;have:=hsp.le;omega
   obtain⟨⟨⟨c1,c2⟩,hk⟩,Qou⟩:=ih (k+1) e (W s k) (E z k).2 hb hch (fun x hx=>hin x (by simp[hx])) hR hl2
   refine⟨⟨⟨c1,c2⟩,fun hc2=>?_⟩,Qou⟩
   obtain⟨d1,d2,d3,d4⟩:=hk hc2;refine⟨b1.trans d1,b2.trans d2,?_,?_⟩
   ·rw[List.map_cons,d3]
    congr 1;rw[← b3];exact d4 k (hin k Sm).1.1 (.inl Om)
   ·exact (b5.wider (Int.le_refl _) Om).trans (d4.wider (by have:=hsp.le;omega) (Int.le_refl _))
  ·rw[Zg hc,Ps (by rw[← a1];exact hc)]
   exact⟨⟨⟨a1,a2⟩,fun h0=>absurd h0 hc⟩,hok⟩
end
theorem SS.fail_code {z:SS} (hc:z.code=0) (c n:Int):(z.fail c n).code=c∧(z.fail c n).node=n:=by rw[SS.fail,Ps hc];exact⟨rfl,rfl⟩
theorem Q6h {s:CS} {z:SS} (h:s.code=0) (h':z.code=0) (c n:Int):Q2r (s.fail c n) (z.fail c n) :=
 ⟨(CS.fail_code h c n).1.trans (SS.fail_code h' c n).1.symm,(CS.fail_code h c n).2.trans (SS.fail_code h' c n).2.symm⟩
theorem Rel.agree {r:Reg} {t:Q1} {s:CS} {z:SS} (h:Rel r t s z):Q2r s z:=⟨h.code.trans h.codeS.symm,h.node⟩
def Q7h (s:CS) (z:SS) (p:Int×CS) (q:Int×SS):Prop:=Q2r p.2 q.2∧(p.2.code=0→p.2=s∧q.2=z∧p.1=q.1)
def Qbx (s:CS) (z:SS) (p:Int×CS) (q:Int×SS):Prop:=Q2r p.2 q.2∧(p.2.code=0→(∃B,p.2={s with bind:=B})∧q.2=z∧p.1=q.1)
theorem Q7h.f {s:CS} {z:SS} {p:Int×CS} {q:Int×SS} (h:Q7h s z p q):Qbx s z p q:=⟨h.1,fun hc=>⟨⟨s.bind,(h.2 hc).1⟩,(h.2 hc).2⟩⟩
theorem Q7h.bad {s:CS} {z:SS} (h:s.code=0) (h':z.code=0) {c:Int} (hc:c≠0) (n:Int) (a b:Int):Q7h s z (a,s.fail c n) (b,z.fail c n) :=
 ⟨Q6h h h' c n,fun h0=>absurd h0 (by show (s.fail c n).code≠0;rw[(CS.fail_code h c n).1];exact hc)⟩
section
variable {r:Reg} {t:Q1} {s:CS} {z:SS}
theorem Q4k (hr:Xy r) (h:Rel r t s z) (name:ByteArray) (node:Int):Q7h s z (Qi r s name node) (Ys r z name node):=by
 obtain⟨d1,d2⟩:=Qa3 hr 1 name;unfold Qi Ys
 by_cases hk:r.find 1 name<0
 ·rw[Ps hk,Ps (d1.2 hk)];exact Q7h.bad h.code h.codeS Dc _ _ _
 ·rw[Ng hk,Ng (fun e=>hk (d1.1 e)),h.withs name Om]
  by_cases hb:Zr (r.find 1 name) s.withs=true
  ·rw[Ps hb,Ps hb];exact⟨h.agree,fun _=>⟨rfl,rfl,(d2 Om).symm⟩⟩
  ·rw[Ng hb,Ng hb];exact Q7h.bad h.code h.codeS Dc _ _ _
theorem Q1k (hr:Xy r) (h:Rel r t s z) (sort:Int) (name:ByteArray) (node:Int) :
  Q7h s z (J4 r s sort name node) (if J2 r sort name=0 then (0,z.fail 3 node) else (J2 r sort name,z)):=by
 obtain⟨d1,d2⟩:=Qa3 hr sort name;unfold J4
 by_cases hk:r.find sort name<0
 ·rw[Ps hk,Ps (d1.2 hk)];exact Q7h.bad h.code h.codeS Dc _ _ _
 ·rw[Ng hk,Ng (fun e=>hk (d1.1 e))];exact⟨h.agree,fun _=>⟨rfl,rfl,(d2 Om).symm⟩⟩
theorem Q5l (h:Rel r t s z) (name:ByteArray) :
  (J3 name z.names<0↔Q3 t s.locals name<0)∧(0≤Q3 t s.locals name→Z7 z.kinds (J3 name z.names).toNat=s.kindAt (Q3 t s.locals name)):=by
 rw[h.names,h.kinds];exact Qfi (fun k hk=>(h.ok.locals k hk).1) (h.ok.nodup h.code) s.kindAt
theorem Qjq {l:List Int} {name:ByteArray} (hl:∀k∈l,0≤k) (hn:(Qd t l).Nodup) :
  Q46 t l name=if Q3 t l name<0∨(t.at (Q3 t l name)).kind≠33 then -1 else Q3 t l name:=by
 induction l with
 |nil=>simp[Q46,Q3]
 |cons k ks ih =>
  have hk:=hl k Sm;have hn2:(t.at k).text∉Qd t ks∧(Qd t ks).Nodup:=by simpa[Qd] using hn
  have ih:=ih (fun x hx=>hl x (by simp[hx])) hn2.2;have Qp1:=Yj (t:=t) (l:=ks) (name:=name) (fun x hx=>hl x (by simp[hx]))
  by_cases e:(t.at k).text=name
  ·have hno:Q3 t ks name<0:=by
    have:¬ 0≤Q3 t ks name:=by rw[← Qp1];intro hh;exact hn2.1 (by rw[e];exact hh)
    omega
   have e1:Q3 t (k::ks) name=k:=by simp[Q3,e]
   rw[e1];simp only[Q46]
   by_cases e2:(t.at k).kind=33
   ·rw[Ps ⟨e2,e⟩,Ng (by simp[e2];omega)]
   ·rw[Ng (by simp[e2]),ih,Ps (.inl hno),Ps (.inr e2)]
  ·have e1:Q3 t (k::ks) name=Q3 t ks name:=by simp[Q3,e]
   rw[e1];simp only[Q46];rw[Ng (by simp[e]),ih]
theorem Qk2 {i:Int} (hc:s.code=0) (ks ps:List Int):(Q29 t (ks.map s.kindAt) ps=true→Yl t i ks ps s=s)∧(Q29 t (ks.map s.kindAt) ps=false→(Yl t i ks ps s).code=4∧(Yl t i ks ps s).node=i):=by
 induction ks generalizing ps with
 |nil=>simp[Q29,Yl]
 |cons k ks ih=>cases ps with
  |nil=>simp[Q29,Yl]
  |cons p ps =>
   obtain⟨i1,i2⟩:=ih ps;simp only[List.map_cons,Q29,Yl]
   by_cases e:s.kindAt k=(t.at p).i
   ·have e1:Qp s k (t.at p).i i=s:=by rw[Qp,Ps e]
    rw[e1];simp only[e,decide_true,Bool.true_and];exact⟨i1,i2⟩
   ·have e1:Qp s k (t.at p).i i=s.fail 4 i:=by rw[Qp,Ng e]
    rw[e1];have e2:decide ((t.at p).i=s.kindAt k)=false:=by simpa using fun h=>e h.symm
    rw[e2];simp only[Bool.false_and,Bool.false_eq_true,false_implies,true_implies,true_and];obtain⟨f1,f2⟩:=CS.fail_code hc 4 i;have:=Qfd (t:=t) (i:=i) (s:=s.fail 4 i) (by rw[f1];decide) ks ps;exact⟨this.1.trans f1,this.2.trans f2⟩
theorem Qj2 (h:Rel r t s z) (i:Int) (n:Qn):Qbx s z (Q36 t s i n) (Q55 t z i n (n.kids.map s.kindAt)):=by
 unfold Q36 Q55;dsimp only;rw[h.tops,Qjq (fun k hk=>(h.ok.tops k hk).1) h.topsND];generalize Q3 t s.tops n.text=k
 by_cases hk:k<0∨(t.at k).kind≠33
 ·rw[Ps hk,Ps hk,Ps Dc]
  exact (Q7h.bad h.code h.codeS Dc _ _ _).f
 ·rw[Ng hk,Ng hk,Ng (by omega:¬ k<0)]
  by_cases hl:(t.at k).kids.length=n.kids.length+1
  ·rw[Ng (by simpa using hl),Ng (by simpa using hl.symm)]
   obtain⟨a1,a2⟩:=Qk2 (t:=t) (i:=i) h.code n.kids (t.at k).kids;cases hb:Q29 t (n.kids.map s.kindAt) (t.at k).kids with
   |true =>
    rw[Ps rfl,a1 hb];exact⟨h.agree,fun _=>⟨⟨_,rfl⟩,rfl,rfl⟩⟩
   |false =>
    rw[Ng Sm];obtain⟨b1,b2⟩:=a2 hb;obtain⟨f1,f2⟩:=SS.fail_code h.codeS 4 i;exact⟨⟨b1.trans f1.symm,b2.trans f2.symm⟩,fun h0=>absurd (b1.symm.trans h0) Dc⟩
  ·rw[Ps hl,Ps (by simpa using fun h=>hl h.symm)]
   exact (Q7h.bad h.code h.codeS Dc _ _ _).f
theorem Qm3 (op ka kb:Int) :
  ((if (opK op (Ja ka) 0 kb 0).2=2 then (Ja ka,0) else opK op (Ja ka) 0 kb 0).2=0↔(opK op ka (Q23 ka) kb (Q23 kb)).2=0) ∧
  ((if (opK op (Ja ka) 0 kb 0).2=2 then (Ja ka,0) else opK op (Ja ka) 0 kb 0).2=0→(if (opK op (Ja ka) 0 kb 0).2=2 then (Ja ka,0) else opK op (Ja ka) 0 kb 0).1=(opK op ka (Q23 ka) kb (Q23 kb)).1):=by
 unfold opK Ja Q23 okZ Q9 Q8g Q5x Q4t Q4u
 by_cases e:ka=kb
 ·subst e
  by_cases k1:ka=1
  ·subst k1
   by_cases o45:op=4∨op=5
   ·rcases o45 with rfl|rfl<;>simp
   ·simp[o45]
    by_cases o:op=1∨op=2∨op=3
    ·simp[o]
    ·simp[o];by_cases o67:op=6∨op=7<;>simp[o67]
  by_cases k2:ka=2
  ·subst k2
   by_cases o:op=1∨op=2∨op=3∨op=4
   ·simp[o]
   ·simp[o];by_cases o67:op=6∨op=7<;>simp[o67]
  by_cases k3:ka=3
  ·subst k3
   by_cases o:op=1∨op=2∨op=3
   ·simp[o]
   ·simp[o];by_cases o67:op=7<;>simp[o67]
  by_cases k4:ka=4
  ·subst k4
   by_cases o:op=7∨op=8∨op=9<;>simp[o]
  ·have:¬ (1≤ka∧ka≤4):=Om
   have hd:(decide (1≤ka)&&decide (ka≤4))=false:=So
   simp[hd,k1,k2,k3,k4]
 ·have h1:(ka==kb)=false:=by simpa using e
  by_cases hk:1≤ka∧ka≤4
  ·simp[hk,h1]
  ·have hd:(decide (1≤ka)&&decide (ka≤4))=false:=So
   have k1:ka≠1:=Om
   have k2:ka≠2:=Om
   have k3:ka≠3:=Om
   have k4:ka≠4:=Om
   simp[hd,k1,k2,k3,k4]
theorem Qj1 (h:Rel r t s z) (i:Int) (n:Qn) (hk:n.kind=8∨n.kind=9∨n.kind=10) (Qnm:1≤n.kids.length) (Qpg:n.kind≠9→2≤n.kids.length) :
  Qbx s z (Yv s i n) (Jw r t z i n (n.kids.map s.kindAt)):=by
 have g0:Z7 (n.kids.map s.kindAt) 0=s.kindAt (kidAt n 0):=by
  obtain⟨x,hx⟩:=Q4 (xs:=n.kids) (j:=0) Om;simp[Z7,kidAt,hx]
 have g1:n.kind≠9→Z7 (n.kids.map s.kindAt) 1=s.kindAt (kidAt n 1):=by
  intro h9;obtain⟨x,hx⟩:=Q4 (xs:=n.kids) (j:=1) (by have:=Qpg h9;omega);simp[Z7,kidAt,hx]
 have key:∀(p:Int×Int) (b:Bool) (q:Int),(p.2=0↔b=true)→(p.2=0→p.1=q)→Qbx s z (p.1,if p.2=0 then s else s.fail 4 i) (if b=true then (q,z) else (0,z.fail 4 i)):=by
  intro p b q h1 h2
  by_cases hp:p.2=0
  ·rw[Ps hp,Ps (h1.1 hp)];exact⟨h.agree,fun _=>⟨⟨_,rfl⟩,rfl,h2 hp⟩⟩
  ·rw[Ng hp,Ng (fun e=>hp (h1.2 e))];exact (Q7h.bad h.code h.codeS Dc _ _ _).f
 unfold Yv;rcases hk with hk|hk|hk
 ·have e1:Q0v s n=if (opK n.i (Ja (s.kindAt (kidAt n 0))) 0 (s.kindAt (kidAt n 1)) 0).2=2 then (Ja (s.kindAt (kidAt n 0)),0) else opK n.i (Ja (s.kindAt (kidAt n 0))) 0 (s.kindAt (kidAt n 1)) 0:=by
   unfold Q0v;rw[Ps hk]
  have e2:Jw r t z i n (n.kids.map s.kindAt)=(if (opK n.i (s.kindAt (kidAt n 0)) (Q23 (s.kindAt (kidAt n 0))) (s.kindAt (kidAt n 1)) (Q23 (s.kindAt (kidAt n 1)))).2=0 then ((opK n.i (s.kindAt (kidAt n 0)) (Q23 (s.kindAt (kidAt n 0))) (s.kindAt (kidAt n 1)) (Q23 (s.kindAt (kidAt n 1)))).1,z) else (0,z.fail 4 i)):=by
   unfold Jw;rw[Ng Om,Ng Om,Ng Om,Ng Om,Ng Om,Ng Om,Ng Om,Ps hk,g0,g1 Om]
  rw[e1,e2];obtain⟨o1,o2⟩:=Qm3 n.i (s.kindAt (kidAt n 0)) (s.kindAt (kidAt n 1));have:=key _ (decide ((opK n.i (s.kindAt (kidAt n 0)) (Q23 (s.kindAt (kidAt n 0))) (s.kindAt (kidAt n 1)) (Q23 (s.kindAt (kidAt n 1)))).2=0)) _ (by rw[decide_eq_true_iff];exact o1) o2;simpa only[decide_eq_true_iff] using this
 ·have e1:Q0v s n=J6 n.i (Ja (s.kindAt (kidAt n 0))) 0:=by
   unfold Q0v;rw[Ng Om,Ps hk]
  have e2:Jw r t z i n (n.kids.map s.kindAt)=(if (J6 n.i (Ja (s.kindAt (kidAt n 0))) 0).2=0 then ((J6 n.i (Ja (s.kindAt (kidAt n 0))) 0).1,z) else (0,z.fail 4 i)):=by
   unfold Jw;rw[Ng Om,Ng Om,Ng Om,Ng Om,Ng Om,Ng Om,Ng Om,Ng Om,Ps hk,g0]
  rw[e1,e2];have:=key (J6 n.i (Ja (s.kindAt (kidAt n 0))) 0) (decide ((J6 n.i (Ja (s.kindAt (kidAt n 0))) 0).2=0)) _ (by rw[decide_eq_true_iff]) (fun _=>rfl);simpa only[decide_eq_true_iff] using this
 ·have e1:Q0v s n=(if Z5 (Ja (s.kindAt (kidAt n 0))) 0 (s.kindAt (kidAt n 1)) 0 then (3,0) else (0,1)):=by
   unfold Q0v;rw[Ng Om,Ng Om,Ps hk]
  have e2:Jw r t z i n (n.kids.map s.kindAt)=(if Z5 (Ja (s.kindAt (kidAt n 0))) 0 (Ja (s.kindAt (kidAt n 1))) 0 then (3,z) else (0,z.fail 4 i)):=by
   unfold Jw;rw[Ng Om,Ng Om,Ng Om,Ng Om,Ng Om,Ng Om,Ng Om,Ng Om,Ng Om,g0,g1 Om]
  rw[e1,e2]
  have hz:∀kb,Z5 (Ja (s.kindAt (kidAt n 0))) 0 kb 0=Z5 (Ja (s.kindAt (kidAt n 0))) 0 (Ja kb) 0:=by
   intro kb;unfold Z5 Ja Q9 okZ
   by_cases hb:1≤kb∧kb≤4
   ·simp[hb]
   ·have:¬ kb=2:=Om
    have hd:(decide (1≤kb)&&decide (kb≤4))=false:=So
    rw[hd];simp[this]
  rw[← hz];generalize Z5 (Ja (s.kindAt (kidAt n 0))) 0 (s.kindAt (kidAt n 1)) 0=b;cases b with
  |true=>exact key (3,0) true 3 Sm (fun _=>rfl)
  |false=>exact key (0,1) false 3 Sm Sm
theorem Qiz (hr:Xy r) (h:Rel r t s z) (i:Int) (n:Qn) (hk:Qu n.kind=true) (h11:n.kind≠11) (Qnm:n.kind=8∨n.kind=9∨n.kind=10→1≤n.kids.length∧(n.kind≠9→2≤n.kids.length)) :
  Qbx s z (Zw r t s i n) (Jw r t z i n (n.kids.map s.kindAt)):=by
 have hk':1≤n.kind∧n.kind≤11:=by simpa[Qu,Q9] using hk
 by_cases h8:n.kind=8∨n.kind=9∨n.kind=10
 ·have e:Zw r t s i n=Yv s i n:=by
   unfold Zw;rw[Ng Om,Ng Om,Ng Om,Ng Om,Ng Om,Ng Om,Ng Om]
  rw[e];exact Qj1 h i n h8 (Qnm h8).1 (Qnm h8).2
 unfold Zw Jw;have same:∀a:Int,Qbx s z (a,s) (a,z):=fun a=>⟨h.agree,fun _=>⟨⟨_,rfl⟩,rfl,rfl⟩⟩
 by_cases h1:n.kind=1;· rw[Ps h1,Ps h1];exact same 1
 rw[Ng h1,Ng h1]
 by_cases h2:n.kind=2;· rw[Ps h2,Ps h2];exact same 2
 rw[Ng h2,Ng h2]
 by_cases h3:n.kind=3;· rw[Ps h3,Ps h3];exact same 4
 rw[Ng h3,Ng h3]
 by_cases h4:n.kind=4
 ·rw[Ps h4,Ps h4]
  obtain⟨l1,l2⟩:=Q5l h n.text
  by_cases hn:Q3 t s.locals n.text<0
  ·rw[Ps hn,Ps (l1.2 hn)];exact (Q7h.bad h.code h.codeS Dc _ _ _).f
  ·rw[Ng hn,Ng (fun e=>hn (l1.1 e))]
   exact⟨h.agree,fun _=>⟨⟨_,rfl⟩,rfl,(l2 Om).symm⟩⟩
 rw[Ng h4,Ng h4]
 by_cases h5:n.kind=5;· rw[Ps h5,Ps h5];exact (Q4k hr h _ _).f
 rw[Ng h5,Ng h5]
 by_cases h6:n.kind=6;· rw[Ps h6,Ps h6];exact (Q1k hr h _ _ _).f
 rw[Ng h6,Ng h6]
 by_cases h7:n.kind=7;· rw[Ps h7,Ps h7];exact Qj2 h i n
 omega
end
section
variable {S:Nat→Prop} {w:World} {cb tb to:Nat} {s:CS} {kv bv lv tv wv:Value}
theorem Zj {ra:Addr} (h:J0 S w cb ra ⟨tb,to,none⟩ s kv bv lv tv wv) (t:Q1) (ht:J8 w tb to t) (h0:0≤s.top) (h1:s.top<t.nodes.length) (kind:Int) :
  Calls prog 164 #[.pointer (some ⟨cb,0,none⟩),.int .i64 kind] w fun e w'=>e=.returned (.bool (Yt t s kind))∧Q0 nob w w':=by
 obtain⟨E,hE⟩:∃E,s.inEach=E:=⟨_,rfl⟩;obtain⟨I,hI⟩:∃I,s.inHear=I:=⟨_,rfl⟩;obtain⟨m,hm⟩:=En h0;have c1:w.cell? ⟨cb,1,none⟩=some (.pointer (some ⟨tb,to,none⟩)):=h.blk.cell 1 _ rfl;have c8:w.cell? ⟨cb,8,none⟩=some (.int .i64 (m:Int)):=hm▸h.blk.cell 8 _ rfl;have c10:w.cell? ⟨cb,10,none⟩=some (.bool E):=hE▸h.blk.cell 10 _ rfl;have c11:w.cell? ⟨cb,11,none⟩=some (.bool I):=hI▸h.blk.cell 11 _ rfl;obtain⟨nd,hnd⟩:=Q4 (xs:=t.nodes) (j:=m) Om;have hat:=Q1.at_of hnd;obtain⟨nv,tv2,n0,n1,hnv,_⟩:=ht;obtain⟨nA,nb,no,nc,rfl,hnl,Qpf,hnA,hnc⟩:=hnv;obtain⟨kx,e0,_⟩:=hnc m nd hnd;obtain rfl:=hnA Om;have hml:m<t.nodes.length:=Om
 have HT:=Hh hm;have HE:=Hh hE;have HI:=Hh hI;have HAT:=Hh hat;clear h hnc hnd hat hnA hE hI hm h0 h1
 by_cases k1:kind=5∨kind=11∨kind=14∨kind=22∨kind=23∨kind=24
 ·rcases k1 with rfl|rfl|rfl|rfl|rfl|rfl
  all_goals
   go_enter func164,ntmps164;go_wp2_with fail;go_ret;exact⟨Q7 (by simp[Yt,HE.o]),by first|exact Kr _ _|exact (Kr _ _).drewN _⟩
 by_cases k2:kind=18∨kind=20
 ·obtain⟨K,hK⟩:∃K,nd.kind=K:=⟨_,rfl⟩
  rw[hK] at e0;have HK:=Hh hK;clear hK
  by_cases k34:K=34
  ·subst k34
   rcases k2 with rfl|rfl<;>cases E<;>cases I
   all_goals
    go_enter func164,ntmps164;go_wp2_with fail;go_quiet (fail);go_wp2_with fail;go_ret;exact⟨Q7 (by simp[Yt,HT.o,HE.o,HI.o,HAT.o,HK.o]),by first|exact Kr _ _|exact (Kr _ _).drewN _⟩
  ·have t34:(K==34)=false:=by simp[k34]
   rcases k2 with rfl|rfl
   all_goals
    go_enter func164,ntmps164;go_wp2_with fail;go_quiet (fail);go_wp2_with fail;go_ret;exact⟨Q7 (by simp[Yt,HT.o,HE.o,HI.o,HAT.o,HK.o,k34]),by first|exact Kr _ _|exact (Kr _ _).drewN _⟩
 have HM:Hi (Yt t s kind=(kind != 26)):=Hh (by unfold Yt;rw[Ng k1,Ng k2]);simp only[not_or] at k1 k2;obtain⟨a1,a2,a3,a4,a5,a6⟩:=k1;obtain⟨b1,b2⟩:=k2;go_enter func164,ntmps164;go_wp2_with fail;go_ret;exact⟨Q7 HM.o.symm,by first|exact Kr _ _|exact (Kr _ _).drewN _⟩
end
end Go.Proofs.YtkgkafjachjafaaGreat
