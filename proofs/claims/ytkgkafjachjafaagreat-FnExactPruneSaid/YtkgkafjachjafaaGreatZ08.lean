/- Part 8 of: FnExactPrune answers true; no condition. -/
import Derived.Test.YtkgkafjachjafaaGreatZ06
set_option linter.unusedVariables false
open Go Go.RowKit
namespace Go.Proofs.YtkgkafjachjafaaGreat
open Tryz
def Qb (t:Q1) (l:List Int):List ByteArray:=l.map fun k=>(t.at k).text
structure Qe (t:Q1) (s:CS):Prop where
 kinds:s.kinds.length=t.nodes.length
 bind:s.bind.length=t.nodes.length
 locals:∀k∈s.locals,0≤k∧k<t.nodes.length
 tops:∀k∈s.tops,0≤k∧k<t.nodes.length
 top:0≤s.top∧s.top<t.nodes.length
 nodup:s.code=0→(Qb t s.locals).Nodup
 withs:s.withs.length≤1048576
namespace Qe
variable {t:Q1} {s:CS}
theorem fail (h:Qe t s) (c n:Int):Qe t (s.fail c n):=by
 unfold CS.fail;split
 ·exact⟨h.kinds,h.bind,h.locals,h.tops,h.top,fun _=>h.nodup ‹_›,h.withs⟩
 ·exact h
theorem setKind (h:Qe t s) (i x:Int):Qe t (s.setKind i x):=⟨by simp[CS.setKind,h.kinds],h.bind,h.locals,h.tops,h.top,h.nodup,h.withs⟩
theorem setBind (h:Qe t s) (i x:Int):Qe t (s.setBind i x):=⟨h.kinds,by simp[CS.setBind,h.bind],h.locals,h.tops,h.top,h.nodup,h.withs⟩
theorem kindIs (h:Qe t s) (a b c:Int):Qe t (Qq s a b c):=by unfold Qq;split<;>first|exact h|exact h.fail _ _
theorem column (h:Qe t s) (r:Reg) (a:ByteArray) (b:Int):Qe t (Qh r s a b).2:=by
 unfold Qh;split
 ·exact h.fail _ _
 ·split
  ·exact h
  ·exact h.fail _ _
theorem named (h:Qe t s) (r:Reg) (o:Int) (a:ByteArray) (b:Int):Qe t (J4 r s o a b).2:=by
 unfold J4;split<;>first|exact h.fail _ _|exact h
theorem told (h:Qe t s) (i:Int) (n:Qc):Qe t (Yt s i n).2:=by
 unfold Yt;dsimp only;split<;>first|exact h|exact h.fail _ _
theorem args (h:Qe t s) (i:Int) (ks ps:List Int):Qe t (Yc t i ks ps s):=by
 induction ks generalizing ps s with
 |nil=>exact h
 |cons k ks ih=>cases ps with
  |nil=>exact h
  |cons p ps=>exact ih (h.kindIs _ _ _) ps
theorem call (h:Qe t s) (i:Int) (n:Qc):Qe t (Q37 t s i n).2:=by
 unfold Q37;dsimp only;split
 ·exact h.fail _ _
 ·split
  ·exact h.fail _ _
  ·exact (h.args _ _ _).setBind _ _
theorem expr (h:Qe t s) (r:Reg) (i:Int) (n:Qc):Qe t (Zx r t s i n).2:=by
 unfold Zx;split;· exact h
 split;· exact h
 split;· exact h
 split
 ·split<;>first|exact h.fail _ _|exact h.setBind _ _
 split;· exact h.column _ _ _
 split;· exact h.named _ _ _ _
 split;· exact h.call _ _
 exact h.told _ _
end Qe
theorem Yd {t:Q1} {l:List Int} {name:ByteArray} (hl:∀k∈l,0≤k):name∈Qb t l↔0≤Q2 t l name:=by
 induction l with
 |nil=>simp[Qb,Q2]
 |cons k ks ih =>
  have h0:=hl k (by simp);have ih:=ih (fun x hx=>hl x (by simp[hx]));simp only[Q2,Qb,List.map_cons,List.mem_cons]
  by_cases e:(t.at k).text=name
  ·simp[e,h0]
  ·rw[Ng e,← ih];simp[Qb];intro h;exact absurd h.symm e
theorem Qe.addLocal {t:Q1} {s:CS} (h:Qe t s) (k:Int) (hk:0≤k∧k<t.nodes.length) (hn:s.code=0→Q2 t s.locals (t.at k).text<0):Qe t (s.addLocal k):=by
 refine⟨h.kinds,h.bind,?_,h.tops,h.top,fun hc=>?_,h.withs⟩
 ·intro x hx
  simp only[CS.addLocal,List.mem_append,List.mem_singleton] at hx;rcases hx with hx|rfl
  ·exact h.locals x hx
  ·exact hk
 ·have h1:=h.nodup hc
  have h2:=hn hc
  have h3:(t.at k).text∉Qb t s.locals:=by
   rw[Yd (fun k hk=>(h.locals k hk).1)];omega
  simp only[CS.addLocal,Qb,List.map_append,List.map_cons,List.map_nil];rw[List.nodup_append]
  refine⟨h1,by simp,fun a ha b hb e=>?_⟩
  simp at hb;subst hb;subst e;exact h3 ha
theorem Qe.twice {t:Q1} {s:CS} (h:Qe t s) (k:Int):Qe t (Qy t s k):=by unfold Qy;split<;>first|exact h.fail _ _|exact h
theorem Q8y {t:Q1} {s:CS} {k:Int} (hc:(Qy t s k).code=0):Q2 t (Qy t s k).locals (t.at k).text<0:=by
 unfold Qy at hc ⊢;split
 ·rename_i h
  rw[Ps h] at hc;unfold CS.fail at hc;split at hc
  ·cases hc
  ·exact absurd hc ‹_›
 ·omega
theorem Q1.at_lt {t:Q1} {i:Int} (h:0≤i∧i<t.nodes.length):∃m:Nat,i=m∧t.nodes[m]?=some (t.at i):=by
 obtain⟨m,rfl⟩:=En h.1;obtain⟨n,hn⟩:=Q3 (xs:=t.nodes) (j:=m) (by omega);exact⟨m,rfl,by rw[Q1.at_of hn,hn]⟩
theorem Qj.mem {t:Q1} (hK:Qj t) {i:Int} (h:0≤i∧i<t.nodes.length) {k:Int} (hk:k∈(t.at i).kids):0≤k∧k<i:=by
 obtain⟨m,rfl,hm⟩:=Q1.at_lt h;exact hK m _ hm k hk
section
variable {t:Q1} {W:CS→Int→CS}
theorem Qe.kids (hW:∀s (k:Int),Qe t s→0≤k∧k<t.nodes.length→Qe t (W s k)) (l:List Int) (hl:∀k∈l,0≤k∧k<t.nodes.length) {s:CS} (h:Qe t s):Qe t (Qa W s l):=by
 induction l generalizing s with
 |nil=>exact h
 |cons k ks ih =>
  refine ih (fun x hx=>hl x (by simp[hx])) ?_
  dsimp only;split
  ·exact hW _ _ h (hl k (by simp))
  ·exact h
theorem Qe.pickStep {s:CS} (h:Qe t s) (r:Reg) (i k1 k:Int):Qe t (pickStep r t i k1 s k):=by
 unfold YtkgkafjachjafaaGreat.pickStep;dsimp only
 have h1:Qe t (if k=k1 then ((Qh r s (t.at k).text k).2.setKind i (Qh r s (t.at k).text k).1) else (Qh r s (t.at k).text k).2):=by
  split
  ·exact (h.column _ _ _).setKind _ _
  ·exact h.column _ _ _
 generalize (if k=k1 then ((Qh r s (t.at k).text k).2.setKind i (Qh r s (t.at k).text k).1) else (Qh r s (t.at k).text k).2)=s1 at h1 ⊢;split
 ·exact h1
 ·exact h1.fail _ _
theorem Qe.picks (r:Reg) (i k1:Int) (l:List Int) {s:CS} (h:Qe t s):Qe t (l.foldl (YtkgkafjachjafaaGreat.pickStep r t i k1) s):=by
 induction l generalizing s with
 |nil=>exact h
 |cons k ks ih=>exact ih (h.pickStep _ _ _ _)
theorem Qe.eachL (r:Reg) (l:List Int) {s:CS} {all:List Int} (h:Qe t s):Qe t (eachL r t l (s,all)).1∧(YtkgkafjachjafaaGreat.eachL r t l (s,all)).2.length=all.length+l.length:=by
 induction l generalizing s all with
 |nil=>exact⟨h,rfl⟩
 |cons k ks ih =>
  simp only[YtkgkafjachjafaaGreat.eachL]
  have:=ih (s:=if r.find 1 (t.at k).text<0 then s.fail 3 k else if Z9 (r.find 1 (t.at k).text) all then s.fail 2 k else s) (all:=all++[r.find 1 (t.at k).text]) (by
   split
   ·exact h.fail _ _
   ·split
    ·exact h.fail _ _
    ·exact h)
  refine⟨this.1,?_⟩;rw[this.2];simp;omega
theorem Qe.stmt {s:CS} (h:Qe t s) (r:Reg) {i:Int} (hi:0≤i∧i<t.nodes.length):Qe t (Qz r t s i (t.at i)):=by
 unfold Qz;split
 ·split
  ·exact h.fail _ _
  ·exact (h.setKind _ _).addLocal i hi (fun _=>by rename_i hn;show Q2 t s.locals _<0;omega)
 split
 ·split
  ·exact h.fail _ _
  ·exact (h.setBind _ _).kindIs _ _ _
 split;· exact (h.column _ _ _).kindIs _ _ _
 split;· exact (h.named _ _ _ _).kindIs _ _ _
 split;· exact (h.named _ _ _ _).kindIs _ _ _
 split;· exact (h.named _ _ _ _).kindIs _ _ _
 split;· exact h.named _ _ _ _
 exact h
end
def Jz (t:Q1):Prop:=∀i,(t.at i).kids.length≤1048576
def InT (t:Q1) (i:Int):Prop:=0≤i∧i<t.nodes.length
theorem InT.kid {t:Q1} {i:Int} (hK:Qj t) (hi:InT t i) {k:Int} (hk:k∈(t.at i).kids):InT t k:=⟨(hK.mem hi hk).1,by have:=(hK.mem hi hk).2;have:=hi.2;omega⟩
theorem InT.kidAt {t:Q1} {i:Int} (hK:Qj t) (hi:InT t i) (j:Nat):InT t (kidAt (t.at i) j):=by
 unfold YtkgkafjachjafaaGreat.kidAt;cases h:(t.at i).kids[j]? with
 |none=>exact⟨by simp,by have:=hi.1;have:=hi.2;simp;omega⟩
 |some k=>exact hi.kid hK (Mg h)
theorem InT.last {t:Q1} {i:Int} (hK:Qj t) (hi:InT t i):InT t ((t.at i).kids.getLast?.getD 0):=by
 cases h:(t.at i).kids.getLast? with
 |none=>exact⟨by simp,by have:=hi.1;have:=hi.2;simp;omega⟩
 |some k=>exact hi.kid hK (List.mem_of_getLast? h)
section
variable {t:Q1} {W:CS→Int→CS} (hK:Qj t) (hS:Jz t) (hW:∀s (k:Int),Qe t s→InT t k→Qe t (W s k))
include hK hW
theorem Qe.pick {s:CS} (h:Qe t s) (r:Reg) {i:Int} (hi:InT t i):Qe t (Q4v r t W s i (t.at i)) :=
 Qe.picks r _ _ _ ((hW _ _ h (hi.kidAt hK 0)).kindIs _ _ _)
theorem Qe.branch {s:CS} (h:Qe t s) {i:Int} (hi:InT t i):Qe t (Q00 W s i (t.at i)) :=
 Qe.kids hW _ (fun k hk=>hi.kid hK (List.mem_of_mem_drop hk)) ((hW _ _ h (hi.kidAt hK 0)).kindIs _ _ _)
include hS in
theorem Qe.each {s:CS} (h:Qe t s) (r:Reg) {i:Int} (hi:InT t i):Qe t (Q3f r t W s (t.at i)):=by
 unfold Q3f;dsimp only;have ha:=h.eachL r (t.at (kidAt (t.at i) 0)).kids (all:=[]);generalize YtkgkafjachjafaaGreat.eachL r t (t.at (kidAt (t.at i) 0)).kids (s,[])=a at ha;obtain⟨s1,l1⟩:=a;have hb:=ha.1.eachL r (t.at (kidAt (t.at i) 1)).kids (all:=l1);generalize YtkgkafjachjafaaGreat.eachL r t (t.at (kidAt (t.at i) 1)).kids (s1,l1)=b at hb;have hl:l1.length≤1048576:=by have:=ha.2;simp at this;rw[this];exact hS _
 have hc:Qe t (Qa W {b.1 with withs:=l1,inEach:=true} ((t.at i).kids.drop 2)) :=
  Qe.kids hW _ (fun k hk=>hi.kid hK (List.mem_of_mem_drop hk)) ⟨hb.1.kinds,hb.1.bind,hb.1.locals,hb.1.tops,hb.1.top,hb.1.nodup,hl⟩
 exact⟨hc.kinds,hc.bind,hc.locals,hc.tops,hc.top,hc.nodup,by simp⟩
theorem Qe.hear {s:CS} (h:Qe t s) (r:Reg) {i:Int} (hi:InT t i):Qe t (Q3n r t W s i (t.at i)):=by
 unfold Q3n;dsimp only;have h1:=((h.named r 3 (t.at i).text i).setKind (kidAt (t.at i) 0) (J4 r s 3 (t.at i).text i).1).twice (kidAt (t.at i) 0);have h2:=h1.addLocal _ (hi.kidAt hK 0) (fun hc=>Q8y hc);have h3:Qe t {(Qy t ((J4 r s 3 (t.at i).text i).2.setKind (kidAt (t.at i) 0) (J4 r s 3 (t.at i).text i).1) (kidAt (t.at i) 0)).addLocal (kidAt (t.at i) 0) with inHear:=true}:=⟨h2.kinds,h2.bind,h2.locals,h2.tops,h2.top,h2.nodup,h2.withs⟩;have h4:=Qe.kids hW ((t.at i).kids.drop 1) (fun k hk=>hi.kid hK (List.mem_of_mem_drop hk)) h3;generalize Qa W {(Qy t ((J4 r s 3 (t.at i).text i).2.setKind (kidAt (t.at i) 0) (J4 r s 3 (t.at i).text i).1) (kidAt (t.at i) 0)).addLocal (kidAt (t.at i) 0) with inHear:=true} ((t.at i).kids.drop 1)=s2 at h4 ⊢
 refine⟨h4.kinds,h4.bind,fun k hk=>h4.locals k (List.dropLast_subset _ hk),h4.tops,h4.top,fun hc=>?_,h4.withs⟩
 have:=h4.nodup hc;simp only[Qb] at this ⊢;rw[List.map_dropLast];exact this.sublist (List.dropLast_sublist _)
theorem Qe.spawn (r:Reg) (l:List Int) (hl:∀k∈l,InT t k) (names:List ByteArray) {s:CS} (h:Qe t s):Qe t (Xj r t W l names s):=by
 induction l generalizing s names with
 |nil=>exact h
 |cons k ks ih =>
  have hk:=hl k (by simp);have h1:=Qe.kids hW (t.at k).kids (fun x hx=>hk.kid hK hx) h;simp only[Xj];split
  ·exact h1
  ·refine ih (fun x hx=>hl x (by simp[hx])) _ (Qe.kindIs ?_ _ _ _)
   split
   ·exact (h1.named _ _ _ _).fail _ _
   ·exact h1.named _ _ _ _
end
theorem Qe.param {t:Q1} {s:CS} (h:Qe t s) {k:Int} (hk:InT t k):Qe t (Jk t s k) :=
 ((h.twice k).setKind k _).addLocal k hk (fun hc=>Q8y (s:=s) hc)
theorem Qe.params {t:Q1} (l:List Int) (hl:∀k∈l,InT t k) {s:CS} (h:Qe t s):Qe t (l.foldl (Jk t) s):=by
 induction l generalizing s with
 |nil=>exact h
 |cons k ks ih=>exact ih (fun x hx=>hl x (by simp[hx])) (h.param (hl k (by simp)))
section
variable {t:Q1} {W:CS→Int→CS} (hK:Qj t) (hS:Jz t) (hW:∀s (k:Int),Qe t s→InT t k→Qe t (W s k))
include hK hW
theorem Qe.fn {s:CS} (h:Qe t s) {i:Int} (hi:InT t i):Qe t (fnF t W s i (t.at i)):=by
 unfold fnF;dsimp only;have h1:=Qe.params (t.at i).kids.dropLast (fun k hk=>hi.kid hK (List.dropLast_subset _ hk)) h;have hb:=hi.last hK;split
 ·refine Qe.kindIs (Qe.kids hW _ ?_ (Qe.kids hW _ (fun k hk=>hb.kid hK (List.dropLast_subset _ hk)) h1)) _ _ _
  intro k hk;simp only[List.mem_singleton] at hk;subst hk;exact (hb.last hK).kidAt hK 0
 ·exact (Qe.kids hW _ (fun k hk=>hb.kid hK hk) h1).fail _ _
end
theorem Qe.ite {t:Q1} {c:Prop} [Decidable c] {x y:CS} (hx:c→Qe t x) (hy:¬ c→Qe t y):Qe t (if c then x else y):=by
 by_cases h:c
 ·rw[Ps h];exact hx h
 ·rw[Ng h];exact hy h
theorem Qe.walk {t:Q1} (hK:Qj t) (hS:Jz t) (r:Reg) (f:Nat):∀(s:CS) (i:Int),Qe t s→InT t i→Qe t (Q8 r t f s i):=by
 induction f with
 |zero=>intro s i h _;exact h
 |succ f ih =>
  intro s i h hi;have Qmk:∀k∈(t.at i).kids,InT t k:=fun k hk=>hi.kid hK hk
  have h1:=Qe.kids ih (t.at i).kids Qmk h;unfold Q8;dsimp only
  refine Qe.ite (fun _=>?_) (fun _=>h.fail _ _)
  refine Qe.ite (fun _=>h.fn hK ih hi) (fun _=>?_)
  refine Qe.ite (fun _=>h1) (fun _=>?_)
  refine Qe.ite (fun _=>h.pick hK ih r hi) (fun _=>?_)
  refine Qe.ite (fun _=>h.branch hK ih hi) (fun _=>?_)
  refine Qe.ite (fun _=>h.each hK hS ih r hi) (fun _=>?_)
  refine Qe.ite (fun _=>h.hear hK ih r hi) (fun _=>?_)
  refine Qe.ite (fun _=>Qe.spawn hK ih r _ Qmk _ h) (fun _=>?_)
  refine Qe.ite (fun _=>?_) (fun _=>?_)
  ·refine⟨h1.kinds,h1.bind,fun k hk=>h1.locals k (List.mem_of_mem_take hk),h1.tops,h1.top,fun hc=>?_,h1.withs⟩
   have:=h1.nodup hc;simp only[Qb] at this ⊢;rw[List.map_take];exact this.sublist (List.take_sublist _ _)
  ·refine Qe.ite (fun _=>h1) (fun _=>?_)
   exact Qe.ite (fun _=>(h1.expr _ _ _).setKind _ _) (fun _=>h1.stmt r hi)
theorem Qe.topStep {t:Q1} (hK:Qj t) (hS:Jz t) (r:Reg) {s:CS} {i:Int} (h:Qe t s) (hi:InT t i):Qe t (Yh r t s i):=by
 unfold Yh;dsimp only;have h1:Qe t (if 0≤Q2 t s.tops (t.at i).text then s.fail 2 i else s):=by split<;>first|exact h.fail _ _|exact h
 generalize (if 0≤Q2 t s.tops (t.at i).text then s.fail 2 i else s)=s1 at h1 ⊢;have h2:Qe t {s1 with top:=i,locals:=[]}:=⟨h1.kinds,h1.bind,by simp,h1.tops,hi,by simp[Qb],h1.withs⟩;have h3:=Qe.kids (t:=t) (W:=Q8 r t t.nodes.length) (fun s k h hk=>Qe.walk hK hS r _ s k h hk) [i] (fun k hk=>by simp at hk;subst hk;exact hi) h2;refine⟨h3.kinds,h3.bind,h3.locals,?_,h3.top,h3.nodup,h3.withs⟩;intro k hk;simp only[List.mem_append,List.mem_singleton] at hk;rcases hk with hk|rfl
 ·exact h3.tops k hk
 ·exact hi
theorem Q6p {α:Type} [DecidableEq α]:∀{l m:List α},l.Nodup→l ⊆ m→l.length≤m.length
 |[],_,_,_=>Nat.zero_le _
 |a::l,m,hn,hs=>by
  have ha:a∈m:=hs (by simp);have hn':=List.nodup_cons.1 hn;have:=Q6p (m:=m.erase a) hn'.2 (fun x hx=>(List.mem_erase_of_ne (fun e=>hn'.1 (by rw[← e];exact hx))).2 (hs (by simp[hx])));rw[List.length_erase_of_mem ha] at this;have:0<m.length:=List.length_pos_of_mem ha;simp;omega
theorem Qe.few {t:Q1} {s:CS} (h:Qe t s) (hc:s.code=0):s.locals.length≤t.nodes.length:=by
 have h1:=h.nodup hc
 have h2:s.locals.Nodup:=by
  unfold Qb List.Nodup at h1;rw[List.pairwise_map] at h1;exact h1.imp (fun hne e=>hne (by rw[e]))
 have h3:(s.locals.map Int.toNat).Nodup:=by
  unfold List.Nodup;rw[List.pairwise_map];exact List.Pairwise.imp_of_mem (fun {a b} ha hb hne e=>hne (by have:=(h.locals a ha).1;have:=(h.locals b hb).1;omega)) h2
 have h4:s.locals.map Int.toNat ⊆ List.range t.nodes.length:=by
  intro x hx;obtain⟨k,hk,rfl⟩:=List.mem_map.1 hx;have:=h.locals k hk;simp;omega
 have:=Q6p h3 h4;simpa using this
structure SS where
 top:Int
 names:List ByteArray
 kinds:List Int
 each:Bool
 inner:Bool
 withs:List ByteArray
 fn:Bool
 last:Int
 code:Int
 node:Int
 kindOf:List Int
def SS.fail (s:SS) (code node:Int):SS:=if s.code=0 then {s with code:=code,node:=node} else s
def Qw (y:ByteArray):List ByteArray→Int
 |[]=>-1
 |x::xs=>if Qw y xs<0 then (if x=y then 0 else -1) else Qw y xs+1
def J3 (r:Reg) (sort:Int) (name:ByteArray):Int:=if r.find sort name<0 then 0 else r.kindOf sort (r.find sort name)
def Q3v (t:Q1):List Int→ByteArray→Int
 |[],_=>-1
 |k::ks,name=>if (t.at k).kind=33∧(t.at k).text=name then k else Q3v t ks name
def Yn (r:Reg) (s:SS) (name:ByteArray) (node:Int):Int×SS :=
 if J3 r 1 name=0 then (0,s.fail 3 node) else if Z9 name s.withs then (J3 r 1 name,s) else (0,s.fail 5 node)
def Q1x (t:Q1):List Int→List Int→Bool
 |k::ks,p::ps=>decide ((t.at p).i=k)&&Q1x t ks ps
 |_,_=>true
def Q4t (t:Q1) (s:SS) (i:Int) (n:Qc) (kids:List Int):Int×SS :=
 let f:=Q3v t (t.tops.take s.top.toNat) n.text
 if f<0 then (0,s.fail 3 i)
 else if n.kids.length+1≠(t.at f).kids.length then (0,s.fail 6 i)
 else if Q1x t kids (t.at f).kids then ((t.at f).i,s) else (0,s.fail 4 i)
def Q1u (k:Int):Int:=if k=2∨k=3 then 0 else 1
def Z4 (l:List Int) (j:Nat):Int:=(l[j]?).getD 0
def Js (r:Reg) (t:Q1) (s:SS) (i:Int) (n:Qc) (kids:List Int):Int×SS :=
 if n.kind=1 then (1,s) else if n.kind=2 then (2,s) else if n.kind=3 then (4,s)
 else if n.kind=4 then (if Qw n.text s.names<0 then (0,s.fail 3 i) else (Z4 s.kinds (Qw n.text s.names).toNat,s))
 else if n.kind=5 then Yn r s n.text i
 else if n.kind=6 then (if J3 r 2 n.text=0 then (0,s.fail 3 i) else (J3 r 2 n.text,s))
 else if n.kind=7 then Q4t t s i n kids
 else if n.kind=8 then
  (if (opK n.i (Z4 kids 0) (Q1u (Z4 kids 0)) (Z4 kids 1) (Q1u (Z4 kids 1))).2=0 then ((opK n.i (Z4 kids 0) (Q1u (Z4 kids 0)) (Z4 kids 1) (Q1u (Z4 kids 1))).1,s) else (0,s.fail 4 i))
 else if n.kind=9 then (if (J6 n.i (J9 (Z4 kids 0)) 0).2=0 then ((J6 n.i (J9 (Z4 kids 0)) 0).1,s) else (0,s.fail 4 i))
 else if Z8 (J9 (Z4 kids 0)) 0 (J9 (Z4 kids 1)) 0 then (3,s) else (0,s.fail 4 i)
def Y7 (r:Reg) (t:Q1) (first:Int):List Int→SS→Int×SS
 |[],s=>(first,s)
 |k::ks,s =>
  let c:=Yn r s (t.at k).text k
  if c.2.code≠0 then (0,c.2) else if c.1≠first then (0,c.2.fail 4 k) else Y7 r t first ks c.2
def Q1y (r:Reg) (t:Q1) (E:SS→Int→Int×SS) (s:SS) (i:Int) (n:Qc):Int×SS :=
 if s.each then
  let e:=E s (kidAt n 0)
  if e.2.code≠0 then (0,e.2) else if e.1≠1 then (0,e.2.fail 4 i) else
  match n.kids.drop 1 with
  |[]=>(0,e.2)
  |k::ks =>
   let c:=Yn r e.2 (t.at k).text k
   if c.2.code≠0 then (0,c.2) else Y7 r t c.1 ks c.2
 else (0,s.fail 5 i)
def Q15 (E:SS→Int→Int×SS):List Int→SS→List Int×SS
 |[],s=>([],s)
 |k::ks,s =>
  let e:=E s k
  if e.2.code≠0 then ([e.1],e.2) else (e.1::(Q15 E ks e.2).1,(Q15 E ks e.2).2)
def Q2w (r:Reg) (t:Q1) (E:SS→Int→Int×SS) (s:SS) (i:Int):Int×SS :=
 let n:=t.at i
 if n.kind=11 then Q1y r t E s i n
 else if n.kind=5∧s.each=false then (0,s.fail 5 i)
 else
  let x:=Q15 E n.kids s
  if x.2.code≠0 then (0,x.2) else Js r t x.2 i n x.1
def Jr (r:Reg) (t:Q1):Nat→SS→Int→Int×SS
 |0,s,_=>(0,s)
 |f+1,s,i =>
  if s.code≠0 then (0,s) else
  let b:=Q2w r t (Jr r t f) s i
  if b.2.code≠0 then (0,b.2) else (b.1,{b.2 with kindOf:=b.2.kindOf.set i.toNat b.1})
def Zi (W:SS→Int→SS) (l:List Int) (s:SS):SS:=l.foldl (fun s k=>if s.code=0 then W s k else s) s
def Jf (t:Q1) (W:SS→Int→SS) (s:SS) (i:Int) (more:List ByteArray) (kinds:List Int):SS :=
 if s.code≠0 then s else
 {Zi W (t.at i).kids {s with names:=s.names++more,kinds:=s.kinds++kinds} with names:=s.names,kinds:=s.kinds}
def eachGo (r:Reg) (t:Q1):List Int→List ByteArray→SS→List ByteArray×SS
 |[],all,s=>(all,s)
 |k::ks,all,s =>
  if J3 r 1 (t.at k).text=0 then (all,s.fail 3 k) else if Z9 (t.at k).text all then (all,s.fail 2 k)
  else eachGo r t ks (all++[(t.at k).text]) s
def Q3s (r:Reg) (t:Q1) (W:SS→Int→SS) (s:SS) (n:Qc):SS :=
 let a:=eachGo r t ((t.at (kidAt n 0)).kids++(t.at (kidAt n 1)).kids) [] s
 if a.2.code≠0 then a.2 else
 {Jf t W {a.2 with each:=true,inner:=true,withs:=a.1.take (t.at (kidAt n 0)).kids.length} (kidAt n 2) [] [] with each:=false,inner:=false,withs:=[]}
def Q3x (r:Reg) (t:Q1) (W:SS→Int→SS) (s:SS) (i:Int) (n:Qc):SS :=
 if J3 r 3 n.text=0 then s.fail 3 i
 else if 0≤Qw (t.at (kidAt n 0)).text s.names then s.fail 2 (kidAt n 0)
 else {Jf t W {s with inner:=true} (kidAt n 1) [(t.at (kidAt n 0)).text] [J3 r 3 n.text] with inner:=false}
def Q16 (r:Reg) (t:Q1) (E:SS→Int→Int×SS):List Int→List ByteArray→SS→SS
 |[],_,s=>s
 |k::ks,had,s =>
  let e:=E s (kidAt (t.at k) 0)
  if e.2.code≠0 then e.2
  else if J3 r 1 (t.at k).text=0 then e.2.fail 3 k
  else if Z9 (t.at k).text had then e.2.fail 2 k
  else if J3 r 1 (t.at k).text≠e.1 then e.2.fail 4 k
  else Q16 r t E ks (had++[(t.at k).text]) e.2
def Xp (r:Reg) (t:Q1) (E:SS→Int→Int×SS) (s:SS) (i:Int) (n:Qc) (sort:Int):SS :=
 let e:=E s (kidAt n 0)
 if e.2.code≠0 then e.2
 else if J3 r sort n.text=0 then e.2.fail 3 i
 else if n.kind=14∧Z9 n.text e.2.withs=false then e.2.fail 5 i
 else if J3 r sort n.text≠e.1 then e.2.fail 4 i else e.2
def Q09 (E:SS→Int→Int×SS) (s:SS) (i:Int) (n:Qc):SS :=
 let e:=E s (kidAt n 0)
 if e.2.code≠0 then e.2
 else if n.kind=12 then
  (if 0≤Qw n.text e.2.names then e.2.fail 2 i else {e.2 with names:=e.2.names++[n.text],kinds:=e.2.kinds++[e.1]})
 else if Qw n.text e.2.names<0 then e.2.fail 3 i
 else if Z4 e.2.kinds (Qw n.text e.2.names).toNat≠e.1 then e.2.fail 4 i else e.2
def Xu (t:Q1) (W:SS→Int→SS) (l:List Int) (s:SS):SS:=l.foldl (fun s k=>Jf t W s k [] []) s
def Xz (t:Q1) (E:SS→Int→Int×SS) (W:SS→Int→SS) (s:SS) (i:Int) (n:Qc) (want:Int):SS :=
 let e:=E s (kidAt n 0)
 if e.2.code≠0 then e.2 else if e.1≠want then e.2.fail 4 i else Xu t W (n.kids.drop 1) e.2
def Jt (t:Q1) (s:SS) (i:Int):Bool :=
 let k:=(t.at i).kind
 if k=18∨k=20 then !s.fn&&!s.inner else if k=14∨k=22∨k=23∨k=24 then s.each else if k=26 then s.fn&&decide (i=s.last) else true
def Qp (r:Reg) (t:Q1):Nat→SS→Int→SS
 |0,s,_=>s
 |f+1,s,i =>
  let n:=t.at i
  let E:=Jr r t f
  let W:=Qp r t f
  if Jt t s i then
   if n.kind=12∨n.kind=13 then Q09 E s i n
   else if n.kind=14∨n.kind=23 then Xp r t E s i n 1
   else if n.kind=15 then Xp r t E s i n 2
   else if n.kind=19 then Xp r t E s i n 3
   else if n.kind=16 then Xz t E W s i n 4
   else if n.kind=17 then Xz t E W s i n 1
   else if n.kind=18 then Q3s r t W s n
   else if n.kind=20 then Q3x r t W s i n
   else if n.kind=21 then Q16 r t E n.kids [] s
   else if n.kind=24 then (if J3 r 1 n.text=0 then s.fail 3 i else s)
   else if n.kind=25∨n.kind=26 then (E s (kidAt n 0)).2
   else s
  else s.fail 5 i
def Z6 (t:Q1):List Int→List ByteArray→List Int→SS→List ByteArray×List Int×SS
 |[],names,kinds,s=>(names,kinds,s)
 |k::ks,names,kinds,s =>
  if Z9 (t.at k).text names then (names,kinds,s.fail 2 k) else Z6 t ks (names++[(t.at k).text]) (kinds++[(t.at k).i]) s
def topS (r:Reg) (t:Q1) (s:SS) (k:Nat):SS :=
 let i:=Z4 t.tops k
 let n:=t.at i
 let s1:={s with top:=(k:Int),names:=[],kinds:=[]}
 if (t.tops.take k).any (fun j=>decide ((t.at j).text=n.text)) then s1.fail 2 i else
 let p:=Z6 t n.kids.dropLast [] [] {s1 with fn:=n.kind==33}
 if p.2.2.code≠0 then p.2.2 else
 let b:=n.kids.getLast?.getD 0
 let last:=(t.at b).kids.getLast?.getD (-1)
 let s3:=Jf t (Qp r t t.nodes.length) {p.2.2 with last:=last} b p.1 p.2.1
 if s3.fn=false∨s3.code≠0 then s3
 else if last<0∨(t.at last).kind≠26 then s3.fail 5 i
 else if Z4 s3.kindOf (kidAt (t.at last) 0).toNat≠n.i then s3.fail 4 i else s3
def Q0f (t:Q1):SS:=⟨0,[],[],false,false,[],false,0,0,-1,List.replicate t.nodes.length 0⟩
def Q6b (r:Reg) (t:Q1):SS:=(List.range t.tops.length).foldl (fun s k=>if s.code=0 then topS r t s k else s) (Q0f t)
def Qjf (r:Reg) (t:Q1):Int×Int:=((Q6b r t).code,(Q6b r t).node)
def Q11 (t:Q1) (m i:Int):Prop:=0≤m∧0≤i∧∃f,Qr t f i m=i+1
def Zo (t:Q1):Int→List Int→Int→Prop
 |m,[],e=>m=e
 |m,k::ks,e=>Q11 t m k∧Zo t (k+1) ks e
theorem Q11.le_of {t:Q1}:∀(f:Nat) (m i:Int),0≤m→0≤Qr t f i m→m≤i∧Qr t f i m=i+1∧Zo t m (t.at i).kids i:=by
 intro f
 induction f with
 |zero=>intro m i hm h;simp[Qr] at h
 |succ f ih =>
  intro m i hm h
  have key:∀(l:List Int) (a:Int),0≤a→0≤l.foldl (fun m k=>if m<0 then -1 else Qr t f k m) a →
    a≤l.foldl (fun m k=>if m<0 then -1 else Qr t f k m) a∧Zo t a l (l.foldl (fun m k=>if m<0 then -1 else Qr t f k m) a):=by
   intro l
   induction l with
   |nil=>intro a ha _;exact⟨Int.le_refl _,rfl⟩
   |cons k ks ih2 =>
    intro a ha hf;simp only[List.foldl_cons] at hf ⊢;rw[Ng (by omega)] at hf ⊢
    have hn:0≤Qr t f k a:=by
     rcases Int.lt_or_le (Qr t f k a) 0 with h'|h'
     ·exfalso
      rcases Q36 t f k a with e|e
      ·rw[e,Q6n] at hf;omega
      ·have:k < -1:=by omega
       have h2:=(ih2 0 (by omega));rw[e] at hf;clear h2;cases ks with
       |nil=>simp at hf;omega
       |cons y ys =>
        simp only[List.foldl_cons] at hf;rw[Ps (by omega),Q6n] at hf;omega
     ·exact h'
    obtain⟨h1,h2,h3⟩:=ih a k ha hn;rw[h2] at hf ⊢;obtain⟨h4,h5⟩:=ih2 (k+1) (by omega) hf;exact⟨by omega,⟨ha,by omega,f,h2⟩,h5⟩
  have hx:=key (t.at i).kids m hm;have e:Qr t (f+1) i m=(if (t.at i).kids.foldl (fun m k=>if m<0 then -1 else Qr t f k m) m<0 then -1 else if i=(t.at i).kids.foldl (fun m k=>if m<0 then -1 else Qr t f k m) m then (t.at i).kids.foldl (fun m k=>if m<0 then -1 else Qr t f k m) m+1 else -1):=rfl;rw[e] at h ⊢;clear e;generalize (t.at i).kids.foldl (fun m k=>if m<0 then -1 else Qr t f k m) m=x at h hx ⊢
  by_cases h1:x<0
  ·rw[Ps h1] at h;omega
  by_cases h2:i=x
  ·rw[Ng h1,Ps h2]
   obtain⟨h3,h4⟩:=hx (by omega);subst h2;exact⟨h3,rfl,h4⟩
  ·rw[Ng h1,Ng h2] at h;omega
theorem Q11.le {t:Q1} {m i:Int} (h:Q11 t m i):m≤i:=by
 obtain⟨hm,hi,f,hf⟩:=h;have h0:0≤Qr t f i m:=by omega
 exact (Q11.le_of f m i hm h0).1
theorem Q11.low {t:Q1} {m i:Int} (h:Q11 t m i):0≤m:=h.1
theorem Q11.kids {t:Q1} {m i:Int} (h:Q11 t m i):Zo t m (t.at i).kids i:=by
 obtain⟨hm,hi,f,hf⟩:=h;have h0:0≤Qr t f i m:=by omega
 exact (Q11.le_of f m i hm h0).2.2
theorem Zo.le {t:Q1} {m e:Int} {l:List Int} (h:Zo t m l e):m≤e:=by
 induction l generalizing m with
 |nil=>exact Int.le_of_eq h
 |cons k ks ih=>have:=h.1.le;have:=ih h.2;omega
theorem Zo.app {t:Q1} {m e:Int} {l l':List Int} (h:Zo t m (l++l') e):∃x,Zo t m l x∧Zo t x l' e:=by
 induction l generalizing m with
 |nil=>exact⟨m,rfl,h⟩
 |cons k ks ih =>
  obtain⟨x,h1,h2⟩:=ih h.2;exact⟨x,⟨h.1,h1⟩,h2⟩
theorem Zo.mem {t:Q1} {m e:Int} {l:List Int} (h:Zo t m l e) {k:Int} (hk:k∈l):∃lo,Q11 t lo k∧m≤lo∧k<e:=by
 induction l generalizing m with
 |nil=>simp at hk
 |cons x xs ih =>
  rcases List.mem_cons.1 hk with rfl|hk
  ·exact⟨m,h.1,Int.le_refl _,by have:=Zo.le h.2;omega⟩
  ·obtain⟨lo,h1,h2,h3⟩:=ih h.2 hk
   exact⟨lo,h1,by have:=h.1.le;omega,h3⟩
theorem Q4c (t:Q1) (k:Int) (ks:List Int):Qb t (k::ks)=(t.at k).text::Qb t ks:=rfl
theorem Qet {t:Q1} {l:List Int} {name:ByteArray} (hl:∀k∈l,0≤k) (hn:(Qb t l).Nodup) (g:Int→Int) :
  (Qw name (Qb t l)<0↔Q2 t l name<0)∧(0≤Q2 t l name→Z4 (l.map g) (Qw name (Qb t l)).toNat=g (Q2 t l name)):=by
 induction l with
 |nil=>simp[Qb,Qw,Q2]
 |cons k ks ih =>
  have hk:=hl k (by simp);rw[Q4c,List.nodup_cons] at hn;obtain⟨i1,i2⟩:=ih (fun x hx=>hl x (by simp[hx])) hn.2;have Qnw:=Yd (t:=t) (l:=ks) (name:=name) (fun x hx=>hl x (by simp[hx]));rw[Q4c];simp only[Qw,Q2,List.map_cons]
  by_cases e:(t.at k).text=name
  ·have hno:¬ 0≤Q2 t ks name:=by
    rw[← Qnw];intro h;exact hn.1 (by rw[e];exact h)
   have hlt:Qw name (Qb t ks)<0:=i1.2 (by omega);rw[Ps hlt,Ps e,Ps e]
   refine⟨by omega,fun _=>?_⟩
   simp[Z4]
  ·rw[Ng e,Ng e]
   by_cases hlt:Qw name (Qb t ks)<0
   ·rw[Ps hlt]
    have:=i1.1 hlt;exact⟨by omega,fun h=>by omega⟩
   ·rw[Ng hlt]
    have h3:¬ Q2 t ks name<0:=fun h=>hlt (i1.2 h)
    refine⟨by omega,fun h=>?_⟩
    rw[← i2 (by omega)];have:(Qw name (Qb t ks)+1).toNat=(Qw name (Qb t ks)).toNat+1:=by omega
    rw[this];simp[Z4]
theorem Q4w {ds:List Zw} {s:ByteArray} (h:0≤Zt ds s):∃d,ds[(Zt ds s).toNat]?=some d∧d.name=s:=by
 induction ds with
 |nil=>simp[Zt] at h
 |cons d ds ih =>
  simp only[Zt] at h ⊢;split
  ·rename_i e;exact⟨d,by simp,e⟩
  ·rename_i e
   rw[Ng e] at h;split at h
   ·omega
   ·rename_i e2
    rw[Ng e2];have hg:=Qez ds s;obtain⟨x,h1,h2⟩:=ih (by omega);refine⟨x,?_,h2⟩;have:(Zt ds s+1).toNat=(Zt ds s).toNat+1:=by omega
    rw[this];simpa using h1
theorem Qd0 {r:Reg} {sort:Int} {a b:ByteArray} (ha:0≤r.find sort a) (h:r.find sort a=r.find sort b):a=b:=by
 unfold Reg.find at ha h;obtain⟨x,h1,h2⟩:=Q4w ha;obtain⟨y,h3,h4⟩:=Q4w (h▸ha);rw[h] at h1;rw[h1] at h3;cases h3;rw[← h2,h4]
def Xt (r:Reg):Prop:=∀d,d∈r.comps∨d∈r.ress∨d∈r.evts→1≤d.kind∧d.kind≤4
theorem Qbh {ds:List Zw} {names ys:List ByteArray} (h:Xa names ds=some ys):∀d∈ds,1≤d.kind∧d.kind≤4:=by
 induction ds generalizing names with
 |nil=>simp
 |cons d ds ih =>
  simp only[Xa] at h;split at h
  ·rename_i hc
   intro x hx;rcases List.mem_cons.1 hx with rfl|hx
   ·simp[Q9] at hc;omega
   ·exact ih h x hx
  ·cases h
theorem Qbm {ls:List (List Zw)} {names:List ByteArray} (h:Q1v ls names=true):∀l∈ls,∀d∈l,1≤d.kind∧d.kind≤4:=by
 induction ls generalizing names with
 |nil=>simp
 |cons l ls ih =>
  simp only[Q1v] at h;split at h
  ·cases hd:Xa names l with
   |none=>rw[hd] at h;simp at h
   |some ys =>
    rw[hd] at h;intro x hx;rcases List.mem_cons.1 hx with rfl|hx
    ·exact Qbh hd
    ·exact ih h x hx
  ·simp at h
theorem Qf7 {r:Reg} (h:Q69 r=true):Xt r:=by
 intro d hd;have:=Qbm h;rcases hd with hd|hd|hd
 ·exact this r.comps (by simp) d hd
 ·exact this r.ress (by simp) d hd
 ·exact this r.evts (by simp) d hd
theorem Q8q {r:Reg} (hr:Xt r) (sort:Int) (name:ByteArray):(J3 r sort name=0↔r.find sort name<0)∧(0≤r.find sort name→J3 r sort name=r.kindOf sort (r.find sort name)):=by
 unfold J3
 by_cases h:r.find sort name<0
 ·rw[Ps h];exact⟨by simp[h],fun h'=>by omega⟩
 ·rw[Ng h]
  refine⟨?_,fun _=>rfl⟩
  have h0:0≤r.find sort name:=by omega
  obtain⟨d,h1,h2⟩:=Q4w (ds:=r.list sort) h0;have h1':(r.list sort)[(r.find sort name).toNat]?=some d:=h1;have hk:r.kindOf sort (r.find sort name)=d.kind:=by unfold Reg.kindOf;rw[Ps h0,h1']
  have hm:=Mg h1'
  have:1≤d.kind∧d.kind≤4:=by
   refine hr d ?_;unfold Reg.list at hm;split at hm
   ·exact .inl hm
   ·split at hm
    ·exact .inr (.inl hm)
    ·split at hm
     ·exact .inr (.inr hm)
     ·simp at hm
  rw[hk];omega
end Go.Proofs.YtkgkafjachjafaaGreat
