/- Part 10 of: FnExactPrune answers true; no condition. -/
import Derived.Deep.RegionHeld3
import Derived.Test.YtkgkafjachjafaaGreatZ07
import Derived.Test.YtkgkafjachjafaaGreatZ08
import Derived.Test.YtkgkafjachjafaaGreatZ09
set_option linter.unusedVariables false
set_option maxHeartbeats 1000000
open Go Go.RowKit
namespace Go.Proofs.YtkgkafjachjafaaGreat
open Tryz
theorem SS.fail_code {z:SS} (hc:z.code=0) (c n:Int):(z.fail c n).code=c∧(z.fail c n).node=n:=by rw[SS.fail,Ps hc];exact⟨rfl,rfl⟩
theorem Q60 {s:CS} {z:SS} (h:s.code=0) (h':z.code=0) (c n:Int):Q2g (s.fail c n) (z.fail c n) :=
 ⟨(CS.fail_code h c n).1.trans (SS.fail_code h' c n).1.symm,(CS.fail_code h c n).2.trans (SS.fail_code h' c n).2.symm⟩
theorem Rel.agree {r:Reg} {t:Q1} {s:CS} {z:SS} (h:Rel r t s z):Q2g s z:=⟨h.code.trans h.codeS.symm,h.node⟩
def Q77 (s:CS) (z:SS) (p:Int×CS) (q:Int×SS):Prop:=Q2g p.2 q.2∧(p.2.code=0→p.2=s∧q.2=z∧p.1=q.1)
def Qb4 (s:CS) (z:SS) (p:Int×CS) (q:Int×SS):Prop:=Q2g p.2 q.2∧(p.2.code=0→(∃B,p.2={s with bind:=B})∧q.2=z∧p.1=q.1)
theorem Q77.f {s:CS} {z:SS} {p:Int×CS} {q:Int×SS} (h:Q77 s z p q):Qb4 s z p q:=⟨h.1,fun hc=>⟨⟨s.bind,(h.2 hc).1⟩,(h.2 hc).2⟩⟩
theorem Q77.bad {s:CS} {z:SS} (h:s.code=0) (h':z.code=0) {c:Int} (hc:c≠0) (n:Int) (a b:Int):Q77 s z (a,s.fail c n) (b,z.fail c n) :=
 ⟨Q60 h h' c n,fun h0=>absurd h0 (by show (s.fail c n).code≠0;rw[(CS.fail_code h c n).1];exact hc)⟩
section
variable {r:Reg} {t:Q1} {s:CS} {z:SS}
theorem Q42 (hr:Xt r) (h:Rel r t s z) (name:ByteArray) (node:Int):Q77 s z (Qh r s name node) (Yn r z name node):=by
 obtain⟨d1,d2⟩:=Q8q hr 1 name;unfold Qh Yn
 by_cases hk:r.find 1 name<0
 ·rw[Ps hk,Ps (d1.2 hk)];exact Q77.bad h.code h.codeS (by decide) _ _ _
 ·rw[Ng hk,Ng (fun e=>hk (d1.1 e)),h.withs name (by omega)]
  by_cases hb:Z9 (r.find 1 name) s.withs=true
  ·rw[Ps hb,Ps hb];exact⟨h.agree,fun _=>⟨rfl,rfl,(d2 (by omega)).symm⟩⟩
  ·rw[Ng hb,Ng hb];exact Q77.bad h.code h.codeS (by decide) _ _ _
theorem Q1a (hr:Xt r) (h:Rel r t s z) (sort:Int) (name:ByteArray) (node:Int) :
  Q77 s z (J4 r s sort name node) (if J3 r sort name=0 then (0,z.fail 3 node) else (J3 r sort name,z)):=by
 obtain⟨d1,d2⟩:=Q8q hr sort name;unfold J4
 by_cases hk:r.find sort name<0
 ·rw[Ps hk,Ps (d1.2 hk)];exact Q77.bad h.code h.codeS (by decide) _ _ _
 ·rw[Ng hk,Ng (fun e=>hk (d1.1 e))];exact⟨h.agree,fun _=>⟨rfl,rfl,(d2 (by omega)).symm⟩⟩
theorem Q58 (h:Rel r t s z) (name:ByteArray) :
  (Qw name z.names<0↔Q2 t s.locals name<0)∧(0≤Q2 t s.locals name→Z4 z.kinds (Qw name z.names).toNat=s.kindAt (Q2 t s.locals name)):=by
 rw[h.names,h.kinds];exact Qet (fun k hk=>(h.ok.locals k hk).1) (h.ok.nodup h.code) s.kindAt
theorem Qk9 {l:List Int} {name:ByteArray} (hl:∀k∈l,0≤k) (hn:(Qb t l).Nodup) :
  Q3v t l name=if Q2 t l name<0∨(t.at (Q2 t l name)).kind≠33 then -1 else Q2 t l name:=by
 induction l with
 |nil=>simp[Q3v,Q2]
 |cons k ks ih =>
  have hk:=hl k (by simp);have hn2:(t.at k).text∉Qb t ks∧(Qb t ks).Nodup:=by simpa[Qb] using hn
  have ih:=ih (fun x hx=>hl x (by simp[hx])) hn2.2;have Qnw:=Yd (t:=t) (l:=ks) (name:=name) (fun x hx=>hl x (by simp[hx]))
  by_cases e:(t.at k).text=name
  ·have hno:Q2 t ks name<0:=by
    have:¬ 0≤Q2 t ks name:=by rw[← Qnw];intro hh;exact hn2.1 (by rw[e];exact hh)
    omega
   have e1:Q2 t (k::ks) name=k:=by simp[Q2,e]
   rw[e1];simp only[Q3v]
   by_cases e2:(t.at k).kind=33
   ·rw[Ps ⟨e2,e⟩,Ng (by simp[e2];omega)]
   ·rw[Ng (by simp[e2]),ih,Ps (.inl hno),Ps (.inr e2)]
  ·have e1:Q2 t (k::ks) name=Q2 t ks name:=by simp[Q2,e]
   rw[e1];simp only[Q3v];rw[Ng (by simp[e]),ih]
theorem Qj1 {i:Int} (hc:s.code=0) (ks ps:List Int):(Q1x t (ks.map s.kindAt) ps=true→Yc t i ks ps s=s)∧(Q1x t (ks.map s.kindAt) ps=false→(Yc t i ks ps s).code=4∧(Yc t i ks ps s).node=i):=by
 induction ks generalizing ps with
 |nil=>simp[Q1x,Yc]
 |cons k ks ih=>cases ps with
  |nil=>simp[Q1x,Yc]
  |cons p ps =>
   obtain⟨i1,i2⟩:=ih ps;simp only[List.map_cons,Q1x,Yc]
   by_cases e:s.kindAt k=(t.at p).i
   ·have e1:Qq s k (t.at p).i i=s:=by rw[Qq,Ps e]
    rw[e1];simp only[e,decide_true,Bool.true_and];exact⟨i1,i2⟩
   ·have e1:Qq s k (t.at p).i i=s.fail 4 i:=by rw[Qq,Ng e]
    rw[e1];have e2:decide ((t.at p).i=s.kindAt k)=false:=by simpa using fun h=>e h.symm
    rw[e2];simp only[Bool.false_and,Bool.false_eq_true,false_implies,true_implies,true_and];obtain⟨f1,f2⟩:=CS.fail_code hc 4 i;have:=Qeo (t:=t) (i:=i) (s:=s.fail 4 i) (by rw[f1];decide) ks ps;exact⟨this.1.trans f1,this.2.trans f2⟩
theorem Qja (h:Rel r t s z) (i:Int) (n:Qc):Qb4 s z (Q37 t s i n) (Q4t t z i n (n.kids.map s.kindAt)):=by
 unfold Q37 Q4t;dsimp only;rw[h.tops,Qk9 (fun k hk=>(h.ok.tops k hk).1) h.topsND];generalize Q2 t s.tops n.text=k
 by_cases hk:k<0∨(t.at k).kind≠33
 ·rw[Ps hk,Ps hk,Ps (by decide)]
  exact (Q77.bad h.code h.codeS (by decide) _ _ _).f
 ·rw[Ng hk,Ng hk,Ng (by omega:¬ k<0)]
  by_cases hl:(t.at k).kids.length=n.kids.length+1
  ·rw[Ng (by simpa using hl),Ng (by simpa using hl.symm)]
   obtain⟨a1,a2⟩:=Qj1 (t:=t) (i:=i) h.code n.kids (t.at k).kids;cases hb:Q1x t (n.kids.map s.kindAt) (t.at k).kids with
   |true =>
    rw[Ps rfl,a1 hb];exact⟨h.agree,fun _=>⟨⟨_,rfl⟩,rfl,rfl⟩⟩
   |false =>
    rw[Ng (by simp)];obtain⟨b1,b2⟩:=a2 hb;obtain⟨f1,f2⟩:=SS.fail_code h.codeS 4 i;exact⟨⟨b1.trans f1.symm,b2.trans f2.symm⟩,fun h0=>absurd (b1.symm.trans h0) (by decide)⟩
  ·rw[Ps hl,Ps (by simpa using fun h=>hl h.symm)]
   exact (Q77.bad h.code h.codeS (by decide) _ _ _).f
theorem Ql1 (op ka kb:Int) :
  ((if (opK op (J9 ka) 0 kb 0).2=2 then (J9 ka,0) else opK op (J9 ka) 0 kb 0).2=0↔(opK op ka (Q1u ka) kb (Q1u kb)).2=0) ∧
  ((if (opK op (J9 ka) 0 kb 0).2=2 then (J9 ka,0) else opK op (J9 ka) 0 kb 0).2=0→(if (opK op (J9 ka) 0 kb 0).2=2 then (J9 ka,0) else opK op (J9 ka) 0 kb 0).1=(opK op ka (Q1u ka) kb (Q1u kb)).1):=by
 unfold opK J9 Q1u okZ Q9 Q82 Q59 Q4f Q4g
 by_cases e:ka=kb
 ·subst e
  by_cases k1:ka=1
  ·subst k1
   by_cases o45:op=4∨op=5
   ·rcases o45 with rfl|rfl<;>simp
   ·simp[o45]
    by_cases o:op=1∨op=2∨op=3
    ·simp[o]
    ·simp[o];by_cases o67:op=6∨op=7<;>simp[o67]
  by_cases k2:ka=2
  ·subst k2
   by_cases o:op=1∨op=2∨op=3∨op=4
   ·simp[o]
   ·simp[o];by_cases o67:op=6∨op=7<;>simp[o67]
  by_cases k3:ka=3
  ·subst k3
   by_cases o:op=1∨op=2∨op=3
   ·simp[o]
   ·simp[o];by_cases o67:op=7<;>simp[o67]
  by_cases k4:ka=4
  ·subst k4
   by_cases o:op=7∨op=8∨op=9<;>simp[o]
  ·have:¬ (1≤ka∧ka≤4):=by omega
   have hd:(decide (1≤ka)&&decide (ka≤4))=false:=by simp;omega
   simp[hd,k1,k2,k3,k4]
 ·have h1:(ka==kb)=false:=by simpa using e
  by_cases hk:1≤ka∧ka≤4
  ·simp[hk,h1]
  ·have hd:(decide (1≤ka)&&decide (ka≤4))=false:=by simp;omega
   have k1:ka≠1:=by omega
   have k2:ka≠2:=by omega
   have k3:ka≠3:=by omega
   have k4:ka≠4:=by omega
   simp[hd,k1,k2,k3,k4]
theorem Qis (h:Rel r t s z) (i:Int) (n:Qc) (hk:n.kind=8∨n.kind=9∨n.kind=10) (Qmr:1≤n.kids.length) (Qon:n.kind≠9→2≤n.kids.length) :
  Qb4 s z (Yt s i n) (Js r t z i n (n.kids.map s.kindAt)):=by
 have g0:Z4 (n.kids.map s.kindAt) 0=s.kindAt (kidAt n 0):=by
  obtain⟨x,hx⟩:=Q3 (xs:=n.kids) (j:=0) (by omega);simp[Z4,kidAt,hx]
 have g1:n.kind≠9→Z4 (n.kids.map s.kindAt) 1=s.kindAt (kidAt n 1):=by
  intro h9;obtain⟨x,hx⟩:=Q3 (xs:=n.kids) (j:=1) (by have:=Qon h9;omega);simp[Z4,kidAt,hx]
 have key:∀(p:Int×Int) (b:Bool) (q:Int),(p.2=0↔b=true)→(p.2=0→p.1=q)→Qb4 s z (p.1,if p.2=0 then s else s.fail 4 i) (if b=true then (q,z) else (0,z.fail 4 i)):=by
  intro p b q h1 h2
  by_cases hp:p.2=0
  ·rw[Ps hp,Ps (h1.1 hp)];exact⟨h.agree,fun _=>⟨⟨_,rfl⟩,rfl,h2 hp⟩⟩
  ·rw[Ng hp,Ng (fun e=>hp (h1.2 e))];exact (Q77.bad h.code h.codeS (by decide) _ _ _).f
 unfold Yt;rcases hk with hk|hk|hk
 ·have e1:Q0h s n=if (opK n.i (J9 (s.kindAt (kidAt n 0))) 0 (s.kindAt (kidAt n 1)) 0).2=2 then (J9 (s.kindAt (kidAt n 0)),0) else opK n.i (J9 (s.kindAt (kidAt n 0))) 0 (s.kindAt (kidAt n 1)) 0:=by
   unfold Q0h;rw[Ps hk]
  have e2:Js r t z i n (n.kids.map s.kindAt)=(if (opK n.i (s.kindAt (kidAt n 0)) (Q1u (s.kindAt (kidAt n 0))) (s.kindAt (kidAt n 1)) (Q1u (s.kindAt (kidAt n 1)))).2=0 then ((opK n.i (s.kindAt (kidAt n 0)) (Q1u (s.kindAt (kidAt n 0))) (s.kindAt (kidAt n 1)) (Q1u (s.kindAt (kidAt n 1)))).1,z) else (0,z.fail 4 i)):=by
   unfold Js;rw[Ng (by omega),Ng (by omega),Ng (by omega),Ng (by omega),Ng (by omega),Ng (by omega),Ng (by omega),Ps hk,g0,g1 (by omega)]
  rw[e1,e2];obtain⟨o1,o2⟩:=Ql1 n.i (s.kindAt (kidAt n 0)) (s.kindAt (kidAt n 1));have:=key _ (decide ((opK n.i (s.kindAt (kidAt n 0)) (Q1u (s.kindAt (kidAt n 0))) (s.kindAt (kidAt n 1)) (Q1u (s.kindAt (kidAt n 1)))).2=0)) _ (by rw[decide_eq_true_iff];exact o1) o2;simpa only[decide_eq_true_iff] using this
 ·have e1:Q0h s n=J6 n.i (J9 (s.kindAt (kidAt n 0))) 0:=by
   unfold Q0h;rw[Ng (by omega),Ps hk]
  have e2:Js r t z i n (n.kids.map s.kindAt)=(if (J6 n.i (J9 (s.kindAt (kidAt n 0))) 0).2=0 then ((J6 n.i (J9 (s.kindAt (kidAt n 0))) 0).1,z) else (0,z.fail 4 i)):=by
   unfold Js;rw[Ng (by omega),Ng (by omega),Ng (by omega),Ng (by omega),Ng (by omega),Ng (by omega),Ng (by omega),Ng (by omega),Ps hk,g0]
  rw[e1,e2];have:=key (J6 n.i (J9 (s.kindAt (kidAt n 0))) 0) (decide ((J6 n.i (J9 (s.kindAt (kidAt n 0))) 0).2=0)) _ (by rw[decide_eq_true_iff]) (fun _=>rfl);simpa only[decide_eq_true_iff] using this
 ·have e1:Q0h s n=(if Z8 (J9 (s.kindAt (kidAt n 0))) 0 (s.kindAt (kidAt n 1)) 0 then (3,0) else (0,1)):=by
   unfold Q0h;rw[Ng (by omega),Ng (by omega),Ps hk]
  have e2:Js r t z i n (n.kids.map s.kindAt)=(if Z8 (J9 (s.kindAt (kidAt n 0))) 0 (J9 (s.kindAt (kidAt n 1))) 0 then (3,z) else (0,z.fail 4 i)):=by
   unfold Js;rw[Ng (by omega),Ng (by omega),Ng (by omega),Ng (by omega),Ng (by omega),Ng (by omega),Ng (by omega),Ng (by omega),Ng (by omega),g0,g1 (by omega)]
  rw[e1,e2]
  have hz:∀kb,Z8 (J9 (s.kindAt (kidAt n 0))) 0 kb 0=Z8 (J9 (s.kindAt (kidAt n 0))) 0 (J9 kb) 0:=by
   intro kb;unfold Z8 J9 Q9 okZ
   by_cases hb:1≤kb∧kb≤4
   ·simp[hb]
   ·have:¬ kb=2:=by omega
    have hd:(decide (1≤kb)&&decide (kb≤4))=false:=by simp;omega
    rw[hd];simp[this]
  rw[← hz];generalize Z8 (J9 (s.kindAt (kidAt n 0))) 0 (s.kindAt (kidAt n 1)) 0=b;cases b with
  |true=>exact key (3,0) true 3 (by simp) (fun _=>rfl)
  |false=>exact key (0,1) false 3 (by simp) (by simp)
theorem Qiq (hr:Xt r) (h:Rel r t s z) (i:Int) (n:Qc) (hk:Qs n.kind=true) (h11:n.kind≠11) (Qmr:n.kind=8∨n.kind=9∨n.kind=10→1≤n.kids.length∧(n.kind≠9→2≤n.kids.length)) :
  Qb4 s z (Zx r t s i n) (Js r t z i n (n.kids.map s.kindAt)):=by
 have hk':1≤n.kind∧n.kind≤11:=by simpa[Qs,Q9] using hk
 by_cases h8:n.kind=8∨n.kind=9∨n.kind=10
 ·have e:Zx r t s i n=Yt s i n:=by
   unfold Zx;rw[Ng (by omega),Ng (by omega),Ng (by omega),Ng (by omega),Ng (by omega),Ng (by omega),Ng (by omega)]
  rw[e];exact Qis h i n h8 (Qmr h8).1 (Qmr h8).2
 unfold Zx Js;have same:∀a:Int,Qb4 s z (a,s) (a,z):=fun a=>⟨h.agree,fun _=>⟨⟨_,rfl⟩,rfl,rfl⟩⟩
 by_cases h1:n.kind=1;· rw[Ps h1,Ps h1];exact same 1
 rw[Ng h1,Ng h1]
 by_cases h2:n.kind=2;· rw[Ps h2,Ps h2];exact same 2
 rw[Ng h2,Ng h2]
 by_cases h3:n.kind=3;· rw[Ps h3,Ps h3];exact same 4
 rw[Ng h3,Ng h3]
 by_cases h4:n.kind=4
 ·rw[Ps h4,Ps h4]
  obtain⟨l1,l2⟩:=Q58 h n.text
  by_cases hn:Q2 t s.locals n.text<0
  ·rw[Ps hn,Ps (l1.2 hn)];exact (Q77.bad h.code h.codeS (by decide) _ _ _).f
  ·rw[Ng hn,Ng (fun e=>hn (l1.1 e))]
   exact⟨h.agree,fun _=>⟨⟨_,rfl⟩,rfl,(l2 (by omega)).symm⟩⟩
 rw[Ng h4,Ng h4]
 by_cases h5:n.kind=5;· rw[Ps h5,Ps h5];exact (Q42 hr h _ _).f
 rw[Ng h5,Ng h5]
 by_cases h6:n.kind=6;· rw[Ps h6,Ps h6];exact (Q1a hr h _ _ _).f
 rw[Ng h6,Ng h6]
 by_cases h7:n.kind=7;· rw[Ps h7,Ps h7];exact Qja h i n
 omega
end
theorem Q9k {t:Q1} (h:Qt t=true) {i:Int} (hi:InT t i):Yb t i (t.at i)=true:=by
 obtain⟨m,rfl⟩:=En hi.1;have:=hi.2;unfold Qt at h;rw[List.all_eq_true] at h;exact h m (by simp;omega)
theorem Qbq {t:Q1} (h:Qt t=true) {i:Int} (hi:InT t i) (he:Qs (t.at i).kind=true):Xb t (t.at i)=true:=by
 have:=Q9k h hi;unfold Yb at this;rw[he] at this;simp only[if_true,Bool.and_eq_true] at this;exact this.2
theorem Yo {t:Q1} (h:Qt t=true) {i:Int} (hi:InT t i) (he:Zp (t.at i).kind=true):Z5 t (t.at i)=true:=by
 have:=Q9k h hi;unfold Yb at this;have he':12≤(t.at i).kind∧(t.at i).kind≤26:=by simpa[Zp,Q9] using he
 have hne:Qs (t.at i).kind=false:=by simp[Qs,Q9];omega
 rw[he,hne] at this;simp only[if_true,Bool.and_eq_true,Bool.false_eq_true,if_false] at this;exact this.2
theorem Q0t {t:Q1} (h:Qt t=true) {i:Int} (hi:InT t i) (he:27≤(t.at i).kind):Je t (t.at i)=true:=by
 have:=Q9k h hi;unfold Yb at this;have hne:Qs (t.at i).kind=false:=by simp[Qs,Q9];omega
 have Qwj:Zp (t.at i).kind=false:=by simp[Zp,Q9];omega
 rw[hne,Qwj] at this;simp only[Bool.and_eq_true,Bool.false_eq_true,if_false] at this;exact this.2
theorem Yf {t:Q1} {l:List Int} {p:Int→Bool} (h:Q1t t l p=true) {k:Int} (hk:k∈l):p (t.at k).kind=true:=by
 unfold Q1t at h;rw[List.all_eq_true] at h;exact h k hk
theorem Xh {t:Q1} {l:List Int} {p:Int→Bool} (h:Qo t l [p]=true):∃a,l=[a]∧p (t.at a).kind=true:=by
 match l,h with
 |[a],h=>exact⟨a,rfl,by simpa[Qo] using h⟩
 |a::b::c,h=>simp[Qo] at h
theorem Y9 {t:Q1} {l:List Int} {p q:Int→Bool} (h:Qo t l [p,q]=true):∃a b,l=[a,b]∧p (t.at a).kind=true∧q (t.at b).kind=true:=by
 match l,h with
 |[a],h=>simp[Qo] at h
 |[a,b],h=>exact⟨a,b,rfl,by simpa[Qo] using h⟩
 |a::b::c::d,h=>simp[Qo] at h
theorem Q1r {t:Q1} {l:List Int} {p q u:Int→Bool} (h:Qo t l [p,q,u]=true):∃a b c,l=[a,b,c]∧p (t.at a).kind=true∧q (t.at b).kind=true∧u (t.at c).kind=true:=by
 match l,h with
 |[a],h=>simp[Qo] at h
 |[a,b],h=>simp[Qo] at h
 |[a,b,c],h=>exact⟨a,b,c,rfl,by simpa[Qo] using h⟩
 |a::b::c::d::e,h=>simp[Qo] at h
theorem Q8e {t:Q1} (h:Qt t=true) {i:Int} (hi:InT t i) (he:Qs (t.at i).kind=true) (h11:(t.at i).kind≠11) :
  (∀k∈(t.at i).kids,Qs (t.at k).kind=true)∧((t.at i).kind=8∨(t.at i).kind=9∨(t.at i).kind=10→1≤(t.at i).kids.length∧((t.at i).kind≠9→2≤(t.at i).kids.length)):=by
 have hs:=Qbq h hi he;have hk':1≤(t.at i).kind∧(t.at i).kind≤11:=by simpa[Qs,Q9] using he
 unfold Xb at hs
 by_cases h1:(t.at i).kind=1∨(t.at i).kind=2∨(t.at i).kind=3∨(t.at i).kind=4∨(t.at i).kind=5∨(t.at i).kind=6
 ·rw[Ps h1] at hs
  have:(t.at i).kids=[]:=by simpa using hs
  rw[this];exact⟨by simp,fun h=>by omega⟩
 rw[Ng h1] at hs
 by_cases h7:(t.at i).kind=7
 ·rw[Ps h7] at hs
  exact⟨fun k hk=>Yf hs hk,fun h=>by omega⟩
 rw[Ng h7] at hs
 by_cases h8:(t.at i).kind=8∨(t.at i).kind=10
 ·rw[Ps h8] at hs
  obtain⟨a,b,e,p1,p2⟩:=Y9 hs;rw[e]
  refine⟨fun k hk=>?_,fun _=>⟨by simp,fun _=>by simp⟩⟩
  simp only[List.mem_cons,List.not_mem_nil,or_false] at hk;rcases hk with rfl|rfl
  ·exact p1
  ·exact p2
 rw[Ng h8,Ps (by omega)] at hs;obtain⟨a,e,p1⟩:=Xh hs;rw[e]
 refine⟨fun k hk=>?_,fun h=>⟨by simp,fun h=>by omega⟩⟩
 simp only[List.mem_cons,List.not_mem_nil,or_false] at hk;subst hk;exact p1
theorem Q67 {t:Q1} (h:Qt t=true) {i:Int} (hi:InT t i) (h11:(t.at i).kind=11):∃a b ks,(t.at i).kids=a::b::ks∧Qs (t.at a).kind=true:=by
 have hs:=Qbq h hi (by rw[h11];rfl);unfold Xb at hs;rw[h11,Ng (by decide),Ng (by decide),Ng (by decide),Ng (by decide)] at hs
 match hk:(t.at i).kids,hs with
 |[],hs=>simp at hs
 |[a],hs=>simp at hs
 |a::b::ks,hs=>exact⟨a,b,ks,rfl,by simp at hs;exact hs.1⟩
section
variable {r:Reg} {t:Q1}
theorem Qg5 (hr:Xt r) (i k1 first:Int) (hi:InT t i):∀(l:List Int) (s:CS) (z:SS),Rel r t s z→k1∉l→s.kindAt i=first →
  Q2g (l.foldl (pickStep r t i k1) s) (Y7 r t first l z).2∧((l.foldl (pickStep r t i k1) s).code=0→l.foldl (pickStep r t i k1) s=s∧Y7 r t first l z=(first,z)):=by
 intro l
 induction l with
 |nil=>intro s z h _ _;exact⟨h.agree,fun _=>⟨rfl,rfl⟩⟩
 |cons k ks ih =>
  intro s z h hno hf;have hk1:¬ k=k1:=fun e=>hno (by simp[e])
  obtain⟨⟨a1,a2⟩,hc⟩:=Q42 hr h (t.at k).text k;simp only[List.foldl_cons,Y7]
  by_cases h0:(Qh r s (t.at k).text k).2.code=0
  ·obtain⟨e1,e2,e3⟩:=hc h0
   rw[Ng (by rw[e2,h.codeS];simp)]
   by_cases hfe:(Qh r s (t.at k).text k).1=first
   ·have hs:pickStep r t i k1 s k=s:=by
     unfold pickStep;dsimp only;rw[Ng hk1,e1,Ps (by rw[hf];exact hfe)]
    rw[hs,Ng (by rw[← e3,hfe];simp),e2];exact ih s z h (fun hm=>hno (by simp[hm])) hf
   ·have hs:pickStep r t i k1 s k=s.fail 4 k:=by
     unfold pickStep;dsimp only;rw[Ng hk1,e1,Ng (by rw[hf];exact hfe)]
    rw[hs,Ps (by rw[← e3];exact hfe),e2];obtain⟨f1,f2⟩:=CS.fail_code h.code 4 k;obtain⟨g1,g2⟩:=SS.fail_code h.codeS 4 k;have:=Q2n (r:=r) (t:=t) (i:=i) (k1:=k1) ks (s:=s.fail 4 k) (by rw[f1];decide);exact⟨⟨(this.1.trans f1).trans g1.symm,(this.2.trans f2).trans g2.symm⟩,fun hh=>absurd ((this.1.trans f1).symm.trans hh) (by decide)⟩
  ·have hs:(Qh r s (t.at k).text k).2.Same (pickStep r t i k1 s k):=by
    unfold pickStep;dsimp only;rw[Ng hk1];split
    ·exact CS.Same.rfl _
    ·exact CS.fail_same h0 _ _
   have:=hs.trans (Q2n (r:=r) (t:=t) (i:=i) (k1:=k1) ks (hs.ne h0));rw[Ps (by rw[← a1];exact h0)];exact⟨⟨this.1.trans a1,this.2.trans a2⟩,fun hh=>absurd (this.1.symm.trans hh) h0⟩
def setO (i:Int) (b:Int×SS):Int×SS:=if b.2.code≠0 then (0,b.2) else (b.1,{b.2 with kindOf:=b.2.kindOf.set i.toNat b.1})
theorem Qc7 {i:Int} {b:Int×SS} (h:b.2.code≠0):setO i b=(0,b.2):=by unfold setO;rw[Ps h]
theorem Q27 {i a:Int} {z:SS} (h:z.code≠0):setO i (a,z)=(0,z):=by unfold setO;rw[Ps h]
theorem Qbo {i:Int} {b:Int×SS} (h:b.2.code=0):setO i b=(b.1,{b.2 with kindOf:=b.2.kindOf.set i.toNat b.1}):=by unfold setO;rw[Ng (by simpa using h)]
theorem Qc9 {f:Nat} {z:SS} {i:Int} (h:z.code=0):Jr r t (f+1) z i=setO i (Q2w r t (Jr r t f) z i):=by
 show (if z.code≠0 then _ else _)=_
 rw[Ng (by simpa using h)];rfl
theorem Q9h {E:SS→Int→Int×SS} {z:SS} {i:Int} (h:(t.at i).kind=11):Q2w r t E z i=Q1y r t E z i (t.at i):=by unfold Q2w;dsimp only;rw[Ps h]
theorem Q7e {E:SS→Int→Int×SS} {z:SS} {i:Int} (h:(t.at i).kind=5) (h':z.each=false):Q2w r t E z i=(0,z.fail 5 i):=by unfold Q2w;dsimp only;rw[Ng (by omega),Ps ⟨h,h'⟩]
theorem Q9j {E:SS→Int→Int×SS} {z:SS} {i:Int} (h:(t.at i).kind≠11) (h':¬ ((t.at i).kind=5∧z.each=false)) :
  Q2w r t E z i=if (Q15 E (t.at i).kids z).2.code≠0 then (0,(Q15 E (t.at i).kids z).2) else Js r t (Q15 E (t.at i).kids z).2 i (t.at i) (Q15 E (t.at i).kids z).1:=by unfold Q2w;dsimp only;rw[Ng h,Ng h']
theorem Q3h {f:Nat} {s:CS} {i:Int} (h:Yl t s (t.at i).kind=false):Q8 r t (f+1) s i=s.fail 5 i:=by unfold Q8;dsimp only;rw[h];rfl
theorem Q5v {f:Nat} {s:CS} {i:Int} (h:Yl t s (t.at i).kind=true) (h11:(t.at i).kind=11):Q8 r t (f+1) s i=Q4v r t (Q8 r t f) s i (t.at i):=by
 unfold Q8;dsimp only;rw[Ps h,Ng (by omega),Ng (by omega),Ps h11]
theorem Qe3 {f:Nat} {s:CS} {i:Int} (h:Yl t s (t.at i).kind=true) (he:Qs (t.at i).kind=true) (h11:(t.at i).kind≠11) :
  Q8 r t (f+1) s i=if (Qa (Q8 r t f) s (t.at i).kids).code≠0 then Qa (Q8 r t f) s (t.at i).kids else (Zx r t (Qa (Q8 r t f) s (t.at i).kids) i (t.at i)).2.setKind i (Zx r t (Qa (Q8 r t f) s (t.at i).kids) i (t.at i)).1:=by
 have hk':1≤(t.at i).kind∧(t.at i).kind≤11:=by simpa[Qs,Q9] using he
 unfold Q8;dsimp only;rw[Ps h,Ng (by omega),Ng (by omega),Ng (by omega),Ng (by omega),Ng (by omega),Ng (by omega),Ng (by omega),Ng (by omega),Ps he]
theorem Qk2 {E:SS→Int→Int×SS} {z:SS} {i:Int} {n:Qc} (h:z.each=false):Q1y r t E z i n=(0,z.fail 5 i):=by unfold Q1y;rw[h];rfl
theorem Qgz {E:SS→Int→Int×SS} {z:SS} {i:Int} {n:Qc} {a k1:Int} {ks:List Int} (h:z.each=true) (hk:n.kids=a::k1::ks):Q1y r t E z i n =
  if (E z a).2.code≠0 then (0,(E z a).2) else if (E z a).1≠1 then (0,(E z a).2.fail 4 i) else
   if (Yn r (E z a).2 (t.at k1).text k1).2.code≠0 then (0,(Yn r (E z a).2 (t.at k1).text k1).2) else Y7 r t (Yn r (E z a).2 (t.at k1).text k1).1 ks (Yn r (E z a).2 (t.at k1).text k1).2:=by
 have k0:kidAt n 0=a:=by simp[kidAt,hk]
 unfold Q1y;rw[h,k0,hk];rfl
theorem Qiy {lo i:Int} {s s1:CS} {z z1:SS} {p:Int×CS} {q:Int×SS} (hi:InT t i) (hlo:lo≤i) (h1:Zc s s1) (h2:Yg z z1) (h3:Jm lo (i-1) s s1) (hF:Qb4 s1 z1 p q) (hz:z1.kindOf.length=t.nodes.length) (hks:p.2.kinds.length=t.nodes.length) :
  Qm5 lo i s z (p.2.setKind i p.1) (setO i q):=by
 obtain⟨⟨a1,a2⟩,hc⟩:=hF
 by_cases h0:p.2.code=0
 ·obtain⟨⟨B,e1⟩,e2,e3⟩:=hc h0
  rw[Qbo (by rw[← a1];exact h0)]
  refine⟨⟨a1,a2⟩,fun _=>⟨?_,?_,?_,?_,?_⟩⟩
  ·rw[e1];exact h1.trans ((Zc.setBind' s1 B).trans (Zc.setKind _ _ _))
  ·rw[e2];exact h2.trans ⟨by simp,_,rfl⟩
  ·rw[CS.kindAt_set _ _ _ _ hi.1 hi.1 (by rw[hks];exact hi.2),Ps rfl];exact e3
  ·rw[e2]
   have:i.toNat<z1.kindOf.length:=by rw[hz];have:=hi.1;have:=hi.2;omega
   simp[Z4,this]
  ·refine (h3.wider (Int.le_refl _) (by omega)).trans ?_
   have Qsi:=Jm.set p.2 (lo:=lo) (i:=i) (k:=i) (x:=p.1) hi.1 hlo (Int.le_refl _) (by rw[hks];exact hi.2);intro j hj hh;rw[Qsi j hj hh,e1];rfl
 ·rw[Qc7 (by rw[← a1];exact h0)]
  exact⟨⟨a1,a2⟩,fun hh=>absurd hh h0⟩
theorem Qd7 (hn:Qt t=true) (hK:Qj t) (hS:Jz t) (hr:Xt r):∀(b:Nat) (f f':Nat),b≤f→b≤f'→Q8i r t b (Q8 r t f) (Jr r t f'):=by
 intro b
 induction b with
 |zero=>intro f f' _ _ lo i s z hb hsp hi;have:=hi.1;omega
 |succ b ih =>
  intro f f' hf hf' lo i s z hb hsp hi he h hl;obtain⟨f,rfl⟩:∃g,f=g+1:=⟨f-1,by omega⟩;obtain⟨f',rfl⟩:∃g,f'=g+1:=⟨f' - 1,by omega⟩;refine⟨?_,Qe.walk hK hS r _ _ _ h.ok hi⟩;have ih:=ih f f' (by omega) (by omega);have hk':1≤(t.at i).kind∧(t.at i).kind≤11:=by simpa[Qs,Q9] using he
  have hsp':=hsp.le;have hfc:(z.fail 5 i).code≠0:=by rw[(SS.fail_code h.codeS 5 i).1];decide
  have Qp4:Qm5 lo i s z (s.fail 5 i) (setO i (0,z.fail 5 i)):=by
   rw[Q27 hfc];exact⟨Q60 h.code h.codeS 5 i,fun h0=>absurd ((CS.fail_code h.code 5 i).1.symm.trans h0) (by decide)⟩
  rw[Qc9 h.codeS]
  by_cases h11:(t.at i).kind=11
  ·rw[Q9h h11]
   have hm:Yl t s (t.at i).kind=s.inEach:=by rw[h11];rfl
   cases hE:s.inEach with
   |false =>
    rw[Q3h (hm.trans hE),Qk2 (h.each.trans hE)];exact Qp4
   |true =>
    obtain⟨a,k1,ks,Qmk,hea⟩:=Q67 hn hi h11;rw[Q5v (hm.trans hE) h11,Qgz (h.each.trans hE) Qmk];have hch:=hsp.kids;rw[Qmk] at hch;obtain⟨hsa,hs1,Qr0⟩:=hch;have hla:=hs1.le;have hlr:=Qr0.le;have ha:InT t a:=hi.kid hK (by rw[Qmk];simp);have hk1:InT t k1:=hi.kid hK (by rw[Qmk];simp);have k0:kidAt (t.at i) 0=a:=by simp[kidAt,Qmk]
    have k1':kidAt (t.at i) 1=k1:=by simp[kidAt,Qmk]
    unfold Q4v;rw[k0,k1',Qmk];rw[show (a::k1::ks).drop 1=k1::ks from rfl];obtain⟨⟨⟨a1,a2⟩,hE1⟩,Qnn⟩:=ih lo a s z (by omega) hsa ha hea h hl;generalize Q8 r t f s a=s1 at a1 a2 hE1 Qnn ⊢;generalize Jr r t f' z a=p at a1 a2 hE1 ⊢
    by_cases h0:s1.code=0
    ·obtain⟨b1,b2,b3,b4,b5⟩:=hE1 h0
     have hR:=h.next b1 b2 Qnn hl b5;rw[Ng (show ¬ p.2.code≠0 by rw[hR.codeS];simp)]
     by_cases hp1:p.1=1
     ·have e1:Qq s1 a 1 i=s1:=by rw[Qq,Ps (by rw[b3];exact hp1)]
      rw[e1,Ng (show ¬ p.1≠1 by simpa using hp1)];obtain⟨⟨c1,c2⟩,hC⟩:=Q42 hr hR (t.at k1).text k1;rw[List.foldl_cons]
      by_cases hc0:(Qh r s1 (t.at k1).text k1).2.code=0
      ·obtain⟨d1,d2,d3⟩:=hC hc0
       have hkl:i<s1.kinds.length:=by rw[Qnn.kinds];exact hi.2
       have hst:pickStep r t i k1 s1 k1=s1.setKind i (Qh r s1 (t.at k1).text k1).1:=by
        unfold pickStep;dsimp only;rw[Ps rfl,d1,Ps (by rw[CS.kindAt_set _ _ _ _ hi.1 hi.1 hkl,Ps rfl])]
       rw[hst,d2,Ng (show ¬ p.2.code≠0 by rw[hR.codeS];simp),← d3];have hl1:∀x∈s1.locals,x<lo:=by obtain⟨K,B,e⟩:=b1;rw[e];exact hl
       have ho2:Jm lo i s1 (s1.setKind i (Qh r s1 (t.at k1).text k1).1):=Jm.set s1 hi.1 hsp' (Int.le_refl _) hkl;have hR2:=hR.next (Zc.setKind s1 i (Qh r s1 (t.at k1).text k1).1) (Yg.refl _) (Qnn.setKind _ _) hl1 ho2
       have hno:k1∉ks:=fun hm=>by
        obtain⟨lo',q1,q2,q3⟩:=Qr0.mem hm;have:=q1.le;omega
       obtain⟨⟨g1,g2⟩,hG⟩:=Qg5 hr i k1 (Qh r s1 (t.at k1).text k1).1 hi ks _ _ hR2 hno (by rw[CS.kindAt_set _ _ _ _ hi.1 hi.1 hkl,Ps rfl]);generalize hs3:ks.foldl (pickStep r t i k1) (s1.setKind i (Qh r s1 (t.at k1).text k1).1)=s3 at g1 g2 hG ⊢;generalize Y7 r t (Qh r s1 (t.at k1).text k1).1 ks p.2=q at g1 g2 hG ⊢
       by_cases h3:s3.code=0
       ·obtain⟨e3,e4⟩:=hG h3
        rw[Qbo (by rw[← g1];exact h3)]
        refine⟨⟨g1,g2⟩,fun _=>?_⟩
        rw[e3,e4];refine⟨b1.trans (Zc.setKind _ _ _),b2.trans ⟨by simp,_,rfl⟩,?_,?_,?_⟩
        ·rw[CS.kindAt_set _ _ _ _ hi.1 hi.1 hkl,Ps rfl]
        ·have:i.toNat<p.2.kindOf.length:=by rw[hR.kindOf];have:=hi.1;have:=hi.2;omega
         simp[Z4,this]
        ·exact (b5.wider (Int.le_refl _) (by omega)).trans ho2
       ·rw[Qc7 (by rw[← g1];exact h3)]
        exact⟨⟨g1,g2⟩,fun hh=>absurd hh h3⟩
      ·have hst:(Qh r s1 (t.at k1).text k1).2.Same (pickStep r t i k1 s1 k1):=by
        unfold pickStep;dsimp only;rw[Ps rfl];split
        ·exact⟨rfl,rfl⟩
        ·exact CS.Same.trans (s':=((Qh r s1 (t.at k1).text k1).2.setKind i (Qh r s1 (t.at k1).text k1).1)) ⟨rfl,rfl⟩ (CS.fail_same (s:=((Qh r s1 (t.at k1).text k1).2.setKind i (Qh r s1 (t.at k1).text k1).1)) hc0 _ _)
       have:=hst.trans (Q2n (r:=r) (t:=t) (i:=i) (k1:=k1) ks (hst.ne hc0));rw[Ps (show (Yn r p.2 (t.at k1).text k1).2.code≠0 by rw[← c1];exact hc0),Q27 (show (Yn r p.2 (t.at k1).text k1).2.code≠0 by rw[← c1];exact hc0)];exact⟨⟨this.1.trans c1,this.2.trans c2⟩,fun hh=>absurd (this.1.symm.trans hh) hc0⟩
     ·have e1:Qq s1 a 1 i=s1.fail 4 i:=by rw[Qq,Ng (by rw[b3];exact hp1)]
      rw[e1,Ps hp1];obtain⟨f1,f2⟩:=CS.fail_code hR.code 4 i;obtain⟨g1,g2⟩:=SS.fail_code hR.codeS 4 i;have:=Q2n (r:=r) (t:=t) (i:=i) (k1:=k1) (k1::ks) (s:=s1.fail 4 i) (by rw[f1];decide);rw[Q27 (show (p.2.fail 4 i).code≠0 by rw[g1];decide)];exact⟨⟨(this.1.trans f1).trans g1.symm,(this.2.trans f2).trans g2.symm⟩,fun hh=>absurd ((this.1.trans f1).symm.trans hh) (by decide)⟩
    ·have hk:=X9 h0 a 1 i
     have:=hk.trans (Q2n (r:=r) (t:=t) (i:=i) (k1:=k1) (k1::ks) (hk.ne h0));have hp0:p.2.code≠0:=by rw[← a1];exact h0
     rw[Ps hp0,Q27 hp0];exact⟨⟨this.1.trans a1,this.2.trans a2⟩,fun hh=>absurd (this.1.symm.trans hh) h0⟩
  ·obtain⟨hek,Qmr⟩:=Q8e hn hi he h11
   by_cases h5:(t.at i).kind=5∧z.each=false
   ·have hm:Yl t s (t.at i).kind=false:=by rw[h5.1];have:=h5.2;rw[h.each] at this;exact this
    rw[Q3h hm,Q7e h5.1 h5.2];exact Qp4
   ·have hm:Yl t s (t.at i).kind=true:=by
     unfold Yl
     by_cases e5:(t.at i).kind=5
     ·rw[Ps (.inl e5)]
      rw[h.each] at h5;cases hE:s.inEach with
      |true=>rfl
      |false=>exact absurd ⟨e5,hE⟩ h5
     ·rw[Ng (by omega),Ng (by omega)];simp;omega
    rw[Qe3 hm he h11,Q9j h11 h5];obtain⟨⟨⟨a1,a2⟩,hKR⟩,Qnn⟩:=Qi9 ih (t.at i).kids lo i s z (by omega) hsp.kids (fun k hk=>⟨hi.kid hK hk,hek k hk⟩) h hl;generalize Qa (Q8 r t f) s (t.at i).kids=s1 at a1 a2 hKR Qnn ⊢;generalize Q15 (Jr r t f') (t.at i).kids z=p at a1 a2 hKR ⊢
    by_cases h0:s1.code=0
    ·obtain⟨b1,b2,b3,b4⟩:=hKR h0
     have hR:=h.next b1 b2 Qnn hl b4;rw[Ng (show ¬ s1.code≠0 by simpa using h0),Ng (show ¬ p.2.code≠0 by rw[hR.codeS];simp),← b3];exact Qiy hi hsp' b1 b2 b4 (Qiq hr hR i (t.at i) he h11 Qmr) hR.kindOf (Qnn.expr r i (t.at i)).kinds
    ·have hp0:p.2.code≠0:=by rw[← a1];exact h0
     rw[Ps h0,Ps hp0,Q27 hp0];exact⟨⟨a1,a2⟩,fun hh=>absurd hh h0⟩
end
theorem Qm.apart {S:Nat→Prop} {w:World} {v:Value} {xs:List Int} (h:Qm S w fun w=>Qi w v xs) {b o n c:Nat} (hv:v=.slice (some ⟨b,o,none⟩) n c) (h0:0<xs.length):¬ S b:=by
 intro hS;obtain⟨x,hx⟩:=Q3 (xs:=xs) (j:=0) h0;have hk:Q0 S w (w.setCell ⟨b,o,none⟩ (.bool true)):=(Kr _ _).setCell (p:=⟨b,o,none⟩) (Or.inl hS) _;obtain⟨A,b1,o1,c1,hv1,_,_,hA,hc⟩:=h.now;obtain⟨A',b2,o2,c2,hv2,_,_,hA',hc'⟩:=h _ hk;have e1:=hA h0;have e2:=hA' h0;subst e1;subst e2;subst hv;injection hv1 with p1 _ _
 injection hv2 with p2 _ _
 cases p1;cases p2;have q1:=hc 0 x hx;have q2:=hc' 0 x hx;rw[Nat.add_zero] at q1 q2;have:(w.setCell ⟨b,o,none⟩ (.bool true)).cell? ⟨b,o,none⟩=some (.bool true):=World.cell?_setCell_same' _ _ _ (by rw[q1];rfl);rw[this] at q2;cases q2
section
variable {S:Nat→Prop} {w:World} {cb rb ro tb to:Nat} {s:CS} {kv bv lv tv wv:Value}
theorem Qkx (h:J0 S w cb ⟨rb,ro,none⟩ ⟨tb,to,none⟩ s kv bv lv tv wv) (r:Reg) (t:Q1) (hr:Qm S w fun w=>Xy w rb ro r) (hok:Qe t s)
  (i:Int) (n:Qc) (nk:Value) (hnk:Qm S w fun w=>Qi w nk n.kids) (k:Int) (ks:List Int) (Qmk:n.kids=k::ks) (hk:0≤k∧k<t.nodes.length) (h14:n.kind=14) (hS:Jl S w) :
  Calls prog 172 #[.pointer (some ⟨cb,0,none⟩),.int .i64 i,.agg #[.int .i64 n.kind,.string n.text,.int .i64 n.i,nk]] w fun e w'=>e=.returned (.tuple #[])∧Q2t S w cb ⟨rb,ro,none⟩ ⟨tb,to,none⟩ (Qz r t s i n) kv bv lv tv wv w':=by
 have hcb:=h.blk.lt;have hk0:Q0 nob w (w.alloc (.cells #[.int .i64 n.kind,.string n.text,.int .i64 n.i,nk] 70)):=(Kr _ _).alloc _;have hbl:=Blk.new w [.int .i64 n.kind,.string n.text,.int .i64 n.i,nk] 70;have Qop:=(hnk.now).old hk0.old;obtain⟨A,b,o,c,rfl,hl,hlc,hA,hc⟩:=Qop;obtain rfl:=hA (by rw[Qmk];simp);have e0:=hc 0 k (by rw[Qmk];rfl);have Qmr:0<n.kids.length:=by rw[Qmk];simp
 rw[h14] at hbl hk0 hc e0 ⊢;generalize hW0:w.alloc (.cells #[.int .i64 14,.string n.text,.int .i64 n.i,.slice (some ⟨b,o,none⟩) n.kids.length c] 70)=W0 at hk0 hc e0;have hb0:Blk W0 w.heap.size [.int .i64 14,.string n.text,.int .i64 n.i,.slice (some ⟨b,o,none⟩) n.kids.length c] 70:=hW0▸hbl;have Qpx:b≠cb:=fun e=>(hnk.apart rfl (by rw[Qmk];simp)) (e▸h.inS)
 have s0:∀W,Q0 (fun k=>k=cb) W0 W→W.cell? ⟨w.heap.size,3,none⟩=some (.slice (some ⟨b,o,none⟩) n.kids.length c):=fun W h=>h.cell (by simp;omega) (hb0.cell 3 _ rfl)
 have s1:∀W,Q0 (fun k=>k=cb) W0 W→W.cell? ⟨w.heap.size,1,none⟩=some (.string n.text):=fun W h=>h.cell (by simp;omega) (hb0.cell 1 _ rfl)
 have s2:∀W,Q0 (fun k=>k=cb) W0 W→W.cell? ⟨b,o,none⟩=some (.int .i64 k):=fun W h=>h.cell Qpx (by simpa using e0)
 have c0:=hb0.cell 0 _ rfl;have hr0:Q0 (fun k=>k=cb) W0 W0:=Kr _ _;have H0:=Hh (h.nobk hk0);have HR:=Hh (hr.kept (hk0.ofNob S));have HKS:=Hh Qmk;have HB:Hi (0≤k∧k<((Qh r s n.text i).2.kinds.length:Int)):=Hh ⟨hk.1,by rw[(hok.column r n.text i).kinds];exact hk.2⟩;have hm:s.withs.length≤140737488355328:=by have:=hok.withs;omega
 clear hc e0 hb0 hbl hnk hr h hA Qmk;go_enter func172,ntmps172;go_wp2_with fail;go_region_held3 (fun W=>Q0 (fun k=>k=cb) W0 W) (first|assumption|exact hr0.drew|exact Kd ‹_›|exact Kt ‹_› ‹_›) ((first|(go_at_call 198;refine (Q6v (H0.o.drew) r ((HR.o.kept (Kr _ _).drew).now) hm _ _).mono ?_;rintro e w1 ⟨rfl,hat⟩;have hk1:=(hr0.drew).trans hat.2;dsimp only)|(go_at_call 197;refine (Xq hat.1 _ _ _ HB.o.1 HB.o.2).mono ?_;rintro e w2 ⟨rfl,Qmp⟩;have hk2:=hk1.trans Qmp.2;dsimp only)));go_wp2_with fail;go_returns;refine⟨rfl,?_,hk0.ofNob _ |>.trans hk2⟩;have hke:kidAt n 0=k:=by rw[kidAt,HKS.o];rfl
 rw[Qz,h14,Ng (by decide),Ng (by decide),Ps rfl,hke];exact Qmp.1
theorem Ql7 (h:J0 S w cb ⟨rb,ro,none⟩ ⟨tb,to,none⟩ s kv bv lv tv wv) (r:Reg) (t:Q1) (hr:Qm S w fun w=>Xy w rb ro r) (hok:Qe t s)
  (i:Int) (n:Qc) (nk:Value) (hnk:Qm S w fun w=>Qi w nk n.kids) (k:Int) (ks:List Int) (Qmk:n.kids=k::ks) (hk:0≤k∧k<t.nodes.length) (h15:n.kind=15) (hS:Jl S w) :
  Calls prog 172 #[.pointer (some ⟨cb,0,none⟩),.int .i64 i,.agg #[.int .i64 n.kind,.string n.text,.int .i64 n.i,nk]] w fun e w'=>e=.returned (.tuple #[])∧Q2t S w cb ⟨rb,ro,none⟩ ⟨tb,to,none⟩ (Qz r t s i n) kv bv lv tv wv w':=by
 have hcb:=h.blk.lt;have hk0:Q0 nob w (w.alloc (.cells #[.int .i64 n.kind,.string n.text,.int .i64 n.i,nk] 70)):=(Kr _ _).alloc _;have hbl:=Blk.new w [.int .i64 n.kind,.string n.text,.int .i64 n.i,nk] 70;have Qop:=(hnk.now).old hk0.old;obtain⟨A,b,o,c,rfl,hl,hlc,hA,hc⟩:=Qop;obtain rfl:=hA (by rw[Qmk];simp);have e0:=hc 0 k (by rw[Qmk];rfl);have Qmr:0<n.kids.length:=by rw[Qmk];simp
 rw[h15] at hbl hk0 hc e0 ⊢;generalize hW0:w.alloc (.cells #[.int .i64 15,.string n.text,.int .i64 n.i,.slice (some ⟨b,o,none⟩) n.kids.length c] 70)=W0 at hk0 hc e0;have hb0:Blk W0 w.heap.size [.int .i64 15,.string n.text,.int .i64 n.i,.slice (some ⟨b,o,none⟩) n.kids.length c] 70:=hW0▸hbl;have Qpx:b≠cb:=fun e=>(hnk.apart rfl (by rw[Qmk];simp)) (e▸h.inS)
 have s0:∀W,Q0 (fun k=>k=cb) W0 W→W.cell? ⟨w.heap.size,3,none⟩=some (.slice (some ⟨b,o,none⟩) n.kids.length c):=fun W h=>h.cell (by simp;omega) (hb0.cell 3 _ rfl)
 have s1:∀W,Q0 (fun k=>k=cb) W0 W→W.cell? ⟨w.heap.size,1,none⟩=some (.string n.text):=fun W h=>h.cell (by simp;omega) (hb0.cell 1 _ rfl)
 have s2:∀W,Q0 (fun k=>k=cb) W0 W→W.cell? ⟨b,o,none⟩=some (.int .i64 k):=fun W h=>h.cell Qpx (by simpa using e0)
 have c0:=hb0.cell 0 _ rfl;have hr0:Q0 (fun k=>k=cb) W0 W0:=Kr _ _;have H0:=Hh (h.nobk hk0);have HR:=Hh (hr.kept (hk0.ofNob S));have HKS:=Hh Qmk;have HB:Hi (0≤k∧k<((J4 r s 2 n.text i).2.kinds.length:Int)):=Hh ⟨hk.1,by rw[(hok.named r 2 n.text i).kinds];exact hk.2⟩;have hm:s.withs.length≤140737488355328:=by have:=hok.withs;omega
 clear hc e0 hb0 hbl hnk hr h hA Qmk;go_enter func172,ntmps172;go_wp2_with fail;go_region_held3 (fun W=>Q0 (fun k=>k=cb) W0 W) (first|assumption|exact hr0.drew|exact Kd ‹_›|exact Kt ‹_› ‹_›) ((first|(go_at_call 199;refine (Q2m (H0.o.drew) r ((HR.o.kept (Kr _ _).drew).now) _ _ _).mono ?_;rintro e w1 ⟨rfl,hat⟩;have hk1:=(hr0.drew).trans hat.2;dsimp only)|(go_at_call 197;refine (Xq hat.1 _ _ _ HB.o.1 HB.o.2).mono ?_;rintro e w2 ⟨rfl,Qmp⟩;have hk2:=hk1.trans Qmp.2;dsimp only)));go_wp2_with fail;go_returns;refine⟨rfl,?_,hk0.ofNob _ |>.trans hk2⟩;have hke:kidAt n 0=k:=by rw[kidAt,HKS.o];rfl
 rw[Qz,h15,Ng (by decide),Ng (by decide),Ng (by decide),Ps rfl,hke];exact Qmp.1
theorem Qlc (h:J0 S w cb ⟨rb,ro,none⟩ ⟨tb,to,none⟩ s kv bv lv tv wv) (r:Reg) (t:Q1) (hr:Qm S w fun w=>Xy w rb ro r) (hok:Qe t s)
  (i:Int) (n:Qc) (nk:Value) (hnk:Qm S w fun w=>Qi w nk n.kids) (k:Int) (ks:List Int) (Qmk:n.kids=k::ks) (hk:0≤k∧k<t.nodes.length) (h19:n.kind=19) (hS:Jl S w) :
  Calls prog 172 #[.pointer (some ⟨cb,0,none⟩),.int .i64 i,.agg #[.int .i64 n.kind,.string n.text,.int .i64 n.i,nk]] w fun e w'=>e=.returned (.tuple #[])∧Q2t S w cb ⟨rb,ro,none⟩ ⟨tb,to,none⟩ (Qz r t s i n) kv bv lv tv wv w':=by
 have hcb:=h.blk.lt;have hk0:Q0 nob w (w.alloc (.cells #[.int .i64 n.kind,.string n.text,.int .i64 n.i,nk] 70)):=(Kr _ _).alloc _;have hbl:=Blk.new w [.int .i64 n.kind,.string n.text,.int .i64 n.i,nk] 70;have Qop:=(hnk.now).old hk0.old;obtain⟨A,b,o,c,rfl,hl,hlc,hA,hc⟩:=Qop;obtain rfl:=hA (by rw[Qmk];simp);have e0:=hc 0 k (by rw[Qmk];rfl);have Qmr:0<n.kids.length:=by rw[Qmk];simp
 rw[h19] at hbl hk0 hc e0 ⊢;generalize hW0:w.alloc (.cells #[.int .i64 19,.string n.text,.int .i64 n.i,.slice (some ⟨b,o,none⟩) n.kids.length c] 70)=W0 at hk0 hc e0;have hb0:Blk W0 w.heap.size [.int .i64 19,.string n.text,.int .i64 n.i,.slice (some ⟨b,o,none⟩) n.kids.length c] 70:=hW0▸hbl;have Qpx:b≠cb:=fun e=>(hnk.apart rfl (by rw[Qmk];simp)) (e▸h.inS)
 have s0:∀W,Q0 (fun k=>k=cb) W0 W→W.cell? ⟨w.heap.size,3,none⟩=some (.slice (some ⟨b,o,none⟩) n.kids.length c):=fun W h=>h.cell (by simp;omega) (hb0.cell 3 _ rfl)
 have s1:∀W,Q0 (fun k=>k=cb) W0 W→W.cell? ⟨w.heap.size,1,none⟩=some (.string n.text):=fun W h=>h.cell (by simp;omega) (hb0.cell 1 _ rfl)
 have s2:∀W,Q0 (fun k=>k=cb) W0 W→W.cell? ⟨b,o,none⟩=some (.int .i64 k):=fun W h=>h.cell Qpx (by simpa using e0)
 have c0:=hb0.cell 0 _ rfl;have hr0:Q0 (fun k=>k=cb) W0 W0:=Kr _ _;have H0:=Hh (h.nobk hk0);have HR:=Hh (hr.kept (hk0.ofNob S));have HKS:=Hh Qmk;have HB:Hi (0≤k∧k<((J4 r s 3 n.text i).2.kinds.length:Int)):=Hh ⟨hk.1,by rw[(hok.named r 3 n.text i).kinds];exact hk.2⟩;have hm:s.withs.length≤140737488355328:=by have:=hok.withs;omega
 clear hc e0 hb0 hbl hnk hr h hA Qmk;go_enter func172,ntmps172;go_wp2_with fail;go_region_held3 (fun W=>Q0 (fun k=>k=cb) W0 W) (first|assumption|exact hr0.drew|exact Kd ‹_›|exact Kt ‹_› ‹_›) ((first|(go_at_call 199;refine (Q2m (H0.o.drew) r ((HR.o.kept (Kr _ _).drew).now) _ _ _).mono ?_;rintro e w1 ⟨rfl,hat⟩;have hk1:=(hr0.drew).trans hat.2;dsimp only)|(go_at_call 197;refine (Xq hat.1 _ _ _ HB.o.1 HB.o.2).mono ?_;rintro e w2 ⟨rfl,Qmp⟩;have hk2:=hk1.trans Qmp.2;dsimp only)));go_wp2_with fail;go_returns;refine⟨rfl,?_,hk0.ofNob _ |>.trans hk2⟩;have hke:kidAt n 0=k:=by rw[kidAt,HKS.o];rfl
 rw[Qz,h19,Ng (by decide),Ng (by decide),Ng (by decide),Ng (by decide),Ps rfl,hke];exact Qmp.1
theorem Qlf (h:J0 S w cb ⟨rb,ro,none⟩ ⟨tb,to,none⟩ s kv bv lv tv wv) (r:Reg) (t:Q1) (hr:Qm S w fun w=>Xy w rb ro r) (hok:Qe t s)
  (i:Int) (n:Qc) (nk:Value) (hnk:Qm S w fun w=>Qi w nk n.kids) (k:Int) (ks:List Int) (Qmk:n.kids=k::ks) (hk:0≤k∧k<t.nodes.length) (h23:n.kind=23) (hS:Jl S w) :
  Calls prog 172 #[.pointer (some ⟨cb,0,none⟩),.int .i64 i,.agg #[.int .i64 n.kind,.string n.text,.int .i64 n.i,nk]] w fun e w'=>e=.returned (.tuple #[])∧Q2t S w cb ⟨rb,ro,none⟩ ⟨tb,to,none⟩ (Qz r t s i n) kv bv lv tv wv w':=by
 have hcb:=h.blk.lt;have hk0:Q0 nob w (w.alloc (.cells #[.int .i64 n.kind,.string n.text,.int .i64 n.i,nk] 70)):=(Kr _ _).alloc _;have hbl:=Blk.new w [.int .i64 n.kind,.string n.text,.int .i64 n.i,nk] 70;have Qop:=(hnk.now).old hk0.old;obtain⟨A,b,o,c,rfl,hl,hlc,hA,hc⟩:=Qop;obtain rfl:=hA (by rw[Qmk];simp);have e0:=hc 0 k (by rw[Qmk];rfl);have Qmr:0<n.kids.length:=by rw[Qmk];simp
 rw[h23] at hbl hk0 hc e0 ⊢;generalize hW0:w.alloc (.cells #[.int .i64 23,.string n.text,.int .i64 n.i,.slice (some ⟨b,o,none⟩) n.kids.length c] 70)=W0 at hk0 hc e0;have hb0:Blk W0 w.heap.size [.int .i64 23,.string n.text,.int .i64 n.i,.slice (some ⟨b,o,none⟩) n.kids.length c] 70:=hW0▸hbl;have Qpx:b≠cb:=fun e=>(hnk.apart rfl (by rw[Qmk];simp)) (e▸h.inS)
 have s0:∀W,Q0 (fun k=>k=cb) W0 W→W.cell? ⟨w.heap.size,3,none⟩=some (.slice (some ⟨b,o,none⟩) n.kids.length c):=fun W h=>h.cell (by simp;omega) (hb0.cell 3 _ rfl)
 have s1:∀W,Q0 (fun k=>k=cb) W0 W→W.cell? ⟨w.heap.size,1,none⟩=some (.string n.text):=fun W h=>h.cell (by simp;omega) (hb0.cell 1 _ rfl)
 have s2:∀W,Q0 (fun k=>k=cb) W0 W→W.cell? ⟨b,o,none⟩=some (.int .i64 k):=fun W h=>h.cell Qpx (by simpa using e0)
 have c0:=hb0.cell 0 _ rfl;have hr0:Q0 (fun k=>k=cb) W0 W0:=Kr _ _;have H0:=Hh (h.nobk hk0);have HR:=Hh (hr.kept (hk0.ofNob S));have HKS:=Hh Qmk;have HB:Hi (0≤k∧k<((J4 r s 1 n.text i).2.kinds.length:Int)):=Hh ⟨hk.1,by rw[(hok.named r 1 n.text i).kinds];exact hk.2⟩;have hm:s.withs.length≤140737488355328:=by have:=hok.withs;omega
 clear hc e0 hb0 hbl hnk hr h hA Qmk;go_enter func172,ntmps172;go_wp2_with fail;go_region_held3 (fun W=>Q0 (fun k=>k=cb) W0 W) (first|assumption|exact hr0.drew|exact Kd ‹_›|exact Kt ‹_› ‹_›) ((first|(go_at_call 199;refine (Q2m (H0.o.drew) r ((HR.o.kept (Kr _ _).drew).now) _ _ _).mono ?_;rintro e w1 ⟨rfl,hat⟩;have hk1:=(hr0.drew).trans hat.2;dsimp only)|(go_at_call 197;refine (Xq hat.1 _ _ _ HB.o.1 HB.o.2).mono ?_;rintro e w2 ⟨rfl,Qmp⟩;have hk2:=hk1.trans Qmp.2;dsimp only)));go_wp2_with fail;go_returns;refine⟨rfl,?_,hk0.ofNob _ |>.trans hk2⟩;have hke:kidAt n 0=k:=by rw[kidAt,HKS.o];rfl
 rw[Qz,h23,Ng (by decide),Ng (by decide),Ng (by decide),Ng (by decide),Ng (by decide),Ps rfl,hke];exact Qmp.1
end
end Go.Proofs.YtkgkafjachjafaaGreat
