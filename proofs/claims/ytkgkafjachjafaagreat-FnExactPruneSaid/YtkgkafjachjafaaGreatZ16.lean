/- Part 16 of: FnExactPrune answers true; no condition. -/
import Derived.Test.YtkgkafjachjafaaGreatZ08
import Derived.Test.YtkgkafjachjafaaGreatZ10
import Derived.Test.YtkgkafjachjafaaGreatZ13
import Derived.Test.YtkgkafjachjafaaGreatZ14
set_option linter.unusedVariables false
set_option maxHeartbeats 1000000
open Go Go.RowKit
namespace Go.Proofs.YtkgkafjachjafaaGreat
open Tryz
section
variable {r:Reg} {t:Q1}
theorem Q62 {l:List Int} {m e:Int} (hm:0≤m) (h:Q0m t l m=some e):Zo t m l e∧∀i∈l,InT t i∧33≤(t.at i).kind:=by
 induction l generalizing m with
 |nil=>simp[Q0m] at h;exact⟨h,by simp⟩
 |cons i is ih =>
  simp only[Q0m] at h;split at h
  ·rename_i hc
   simp[Q9] at hc;split at h
   ·cases h
   ·rename_i hn
    have hin:InT t i:=⟨hc.1.1,by omega⟩;obtain⟨h1,h2,h3⟩:=Q11.le_of (t:=t) (i.toNat+1) m i hm (by omega);rw[h2] at h;obtain⟨h4,h5⟩:=ih (by omega) h
    refine⟨⟨⟨hm,hc.1.1,_,h2⟩,h4⟩,fun x hx=>?_⟩
    rcases List.mem_cons.1 hx with rfl|hx
    ·exact⟨hin,hc.2⟩
    ·exact h5 x hx
  ·cases h
theorem Qck {s:CS} (hc:s.code≠0) (l:List Int):s.Same (l.foldl (Jk t) s):=by
 induction l generalizing s with
 |nil=>exact CS.Same.rfl s
 |cons k ks ih =>
  have h:s.Same (Jk t s k):=by
   have:=Q7h (t:=t) hc k;exact⟨this.1,this.2⟩
  exact h.trans (ih (h.ne hc))
theorem Qf2:∀(l:List Int) (lo e:Int) (s:CS) (z:SS) (names:List ByteArray) (kinds:List Int),Zo t lo l e→(∀k∈l,InT t k)→Rel r t s {z with names:=names,kinds:=kinds}→(∀x∈s.locals,x<lo) →
  Q2g (l.foldl (Jk t) s) (Z6 t l names kinds z).2.2∧((l.foldl (Jk t) s).code=0 →
   Rel r t (l.foldl (Jk t) s) {z with names:=(Z6 t l names kinds z).1,kinds:=(Z6 t l names kinds z).2.1}∧(Z6 t l names kinds z).2.2=z∧Q24 s (l.foldl (Jk t) s)∧(∀x∈(l.foldl (Jk t) s).locals,x<e)):=by
 intro l
 induction l with
 |nil =>
  intro lo e s z names kinds hch _ h hl;have:lo=e:=hch;subst this;exact⟨⟨h.code.trans h.codeS.symm,h.node⟩,fun _=>⟨h,rfl,⟨_,_,_,rfl⟩,hl⟩⟩
 |cons k ks ih =>
  intro lo e s z names kinds hch hin h hl;obtain⟨hsp,hch⟩:=hch;have hlk:=hsp.le;have hk:=hin k (by simp);have Qnw:=Yd (t:=t) (l:=s.locals) (name:=(t.at k).text) (fun x hx=>(h.ok.locals x hx).1);have hnm:names=Qb t s.locals:=h.names;rw[← hnm] at Qnw;simp only[List.foldl_cons,Z6];cases hb:Z9 (t.at k).text names with
  |true =>
   have hx:=Qnw.1 ((X6 _ _).1 hb);rw[Ps rfl];have htw:Qy t s k=s.fail 2 k:=by unfold Qy;rw[Ps hx]
   obtain⟨f1,f2⟩:=CS.fail_code h.code 2 k;obtain⟨g1,g2⟩:=SS.fail_code (z:=z) h.codeS 2 k;have hpc:(Jk t s k).code=2∧(Jk t s k).node=k:=by unfold Jk;rw[htw];exact⟨f1,f2⟩
   have hs:=Qck (t:=t) (s:=Jk t s k) (by rw[hpc.1];decide) ks;exact⟨⟨(hs.1.trans hpc.1).trans g1.symm,(hs.2.trans hpc.2).trans g2.symm⟩,fun h9=>absurd ((hs.1.trans hpc.1).symm.trans h9) (by decide)⟩
  |false =>
   have hx:Q2 t s.locals (t.at k).text<0:=by
    rcases Int.lt_or_le (Q2 t s.locals (t.at k).text) 0 with h9|h9
    ·exact h9
    ·have:=(X6 _ _).2 (Qnw.2 h9);rw[hb] at this;cases this
   rw[Ng (by simp)];have htw:Qy t s k=s:=by unfold Qy;rw[Ng (by omega)]
   have hp:Jk t s k=(s.setKind k (t.at k).i).addLocal k:=by unfold Jk;rw[htw]
   rw[hp];have hR:=h.addLocal hk hlk hl (t.at k).i hx
   have:=ih (k+1) e ((s.setKind k (t.at k).i).addLocal k) z (names++[(t.at k).text]) (kinds++[(t.at k).i]) hch (fun x hx=>hin x (by simp[hx])) hR (by
    intro x hm;rcases List.mem_append.1 (show x∈s.locals++[k] from hm) with hm|hm
    ·have:=hl x hm;omega
    ·simp at hm;omega)
   refine⟨this.1,fun hc=>?_⟩
   obtain⟨x1,x2,x3,x4⟩:=this.2 hc;exact⟨x1,x2,Q24.trans ⟨_,_,_,rfl⟩ x3,x4⟩
def Q4r (t:Q1) (s:CS) (z:SS) (s':CS) (z':SS):Prop :=
 Q2g s' z'∧(s'.code=0→Q24 s s'∧z'.each=z.each∧z'.inner=z.inner∧z'.withs=z.withs∧z'.kindOf.length=t.nodes.length)
theorem Qg0 {V:SS→Int→SS} {z:SS} (h:z.code=0) (hn:z.names=[]) (hk:z.kinds=[]) (b:Int) (m:List ByteArray) (q:List Int) :
  Jf t V z b m q={Zi V (t.at b).kids {z with names:=m,kinds:=q} with names:=[],kinds:=[]}:=by
 unfold Jf;rw[Ng (show ¬ z.code≠0 by simpa using h),hn,hk,List.nil_append,List.nil_append]
theorem Qdy (hn:Qt t=true) (hK:Qj t) (hS:Jz t) (hr:Xt r) {lo i b:Int} (hsp:Q11 t lo i) (hi:InT t i) (h34:(t.at i).kind=34) (Qmk:(t.at i).kids=[b]) (hbk:(t.at b).kind=27)
  {s:CS} {z:SS} (h:Rel r t s z) (hl:s.locals=[]) (hf:z.fn=false):Qax lo i s z (Q8 r t t.nodes.length s i) (Jf t (Qp r t t.nodes.length) z b [] []):=by
 have hi1:=hi.1;have hi2:=hi.2;have hch:=hsp.kids;rw[Qmk] at hch;obtain⟨hsb,Qo7⟩:=hch;have hbi:b+1=i:=Qo7;have hlb:=hsb.le;have hl0:=hsb.low;have hb:InT t b:=hi.kid hK (by rw[Qmk];simp);obtain⟨N,hN⟩:∃N,t.nodes.length=N+1+1:=⟨t.nodes.length-2,by omega⟩
 have e1:Q8 r t (N+1+1) s i=Q8 r t (N+1) s b:=by
  have:Q8 r t (N+1+1) s i=Qa (Q8 r t (N+1)) s (t.at i).kids:=by
   unfold Q8;dsimp only;rw[Ps (by rw[h34];rfl),Ng (by omega),Ps h34]
  rw[this,Qmk]
  show List.foldl _ _ _=_
  rw[List.foldl_cons,Ps h.code];rfl
 rw[hN,e1];have hG:Q3t r t ((b.toNat:Nat):Int) (Q8 r t N) (Qp r t (N+1+1)):=Qcm hn hK hS hr b.toNat N (N+1+1) (by omega) (by omega);have hB:=Q4z hG (by omega) hn hK hsb hb hbk h (by rw[hl];simp) (fun h9=>by rw[hf] at h9;cases h9);exact⟨hB.1,fun hc=>⟨(hB.2 hc).1,(hB.2 hc).2.1,(hB.2 hc).2.2.wider (Int.le_refl _) (by omega)⟩⟩
end
section
variable {r:Reg} {t:Q1}
def Qa7 (r:Reg) (t:Q1) (z:SS) (i b:Int) (n:Qc) (names:List ByteArray) (kinds:List Int):SS :=
 let last:=(t.at b).kids.getLast?.getD (-1)
 let s3:=Jf t (Qp r t t.nodes.length) {z with last:=last} b names kinds
 if s3.fn=false∨s3.code≠0 then s3
 else if last<0∨(t.at last).kind≠26 then s3.fail 5 i
 else if Z4 s3.kindOf (kidAt (t.at last) 0).toNat≠n.i then s3.fail 4 i else s3
theorem Ql3 {z:SS} {k:Nat}:topS r t z k =
  if (t.tops.take k).any (fun j=>decide ((t.at j).text=(t.at (Z4 t.tops k)).text)) then ({z with top:=(k:Int),names:=[],kinds:=[]}:SS).fail 2 (Z4 t.tops k) else
  if (Z6 t (t.at (Z4 t.tops k)).kids.dropLast [] [] {z with top:=(k:Int),names:=[],kinds:=[],fn:=(t.at (Z4 t.tops k)).kind==33}).2.2.code≠0 then
   (Z6 t (t.at (Z4 t.tops k)).kids.dropLast [] [] {z with top:=(k:Int),names:=[],kinds:=[],fn:=(t.at (Z4 t.tops k)).kind==33}).2.2
  else Qa7 r t (Z6 t (t.at (Z4 t.tops k)).kids.dropLast [] [] {z with top:=(k:Int),names:=[],kinds:=[],fn:=(t.at (Z4 t.tops k)).kind==33}).2.2 (Z4 t.tops k) ((t.at (Z4 t.tops k)).kids.getLast?.getD 0) (t.at (Z4 t.tops k))
   (Z6 t (t.at (Z4 t.tops k)).kids.dropLast [] [] {z with top:=(k:Int),names:=[],kinds:=[],fn:=(t.at (Z4 t.tops k)).kind==33}).1
   (Z6 t (t.at (Z4 t.tops k)).kids.dropLast [] [] {z with top:=(k:Int),names:=[],kinds:=[],fn:=(t.at (Z4 t.tops k)).kind==33}).2.1:=rfl
theorem Q9v {V:SS→Int→SS} {l1 l2:List Int} {z:SS}:Zi V (l1++l2) z=Zi V l2 (Zi V l1 z):=by unfold Zi;rw[List.foldl_append]
theorem Qdg {V:SS→Int→SS} {l:List Int} {z:SS} (h:z.code≠0):Zi V l z=z:=by
 induction l with
 |nil=>rfl
 |cons y ys ih=>unfold Zi at ih ⊢;rw[List.foldl_cons,Ng h];exact ih
theorem Q2x.frames {z z':SS} (h:Q2x z z'):z'.each=z.each∧z'.inner=z.inner∧z'.withs=z.withs∧z'.fn=z.fn∧z'.last=z.last∧z'.top=z.top:=by
 obtain⟨N,Q,O,rfl⟩:=h;exact⟨rfl,rfl,rfl,rfl,rfl,rfl⟩
theorem Qi8 (hn:Qt t=true) (hK:Qj t) (hS:Jz t) (hr:Xt r) {lo i b:Int} {M:Nat} (hM:t.nodes.length=M+1) (hsb:Q11 t lo b) (hib:b<i) (hi:InT t i) (hb:InT t b) (hbk:(t.at b).kind=27) {n:Qc}
  {s:CS} {z:SS} {names:List ByteArray} {kinds:List Int} (hz1:z.names=[]) (hz2:z.kinds=[]) (h:Rel r t s {z with names:=names,kinds:=kinds}) (hl:∀x∈s.locals,x<lo) (hf:z.fn=true) :
  Q4r t s z (if Q31 t (t.at b).kids then Qq (Qa (Q8 r t M) (Qa (Q8 r t M) s (t.at b).kids.dropLast) [kidAt (t.at ((t.at b).kids.getLast?.getD 0)) 0]) (kidAt (t.at ((t.at b).kids.getLast?.getD 0)) 0) n.i i
   else (Qa (Q8 r t M) s (t.at b).kids).fail 5 i) (Qa7 r t z i b n names kinds):=by
 have hi1:=hi.1;have hi2:=hi.2;have hb1:=hb.1;have hs:=Q0t hn hb (by omega);unfold Je at hs;rw[hbk,Ps rfl] at hs;have Qsl:∀k∈(t.at b).kids,InT t k∧Zp (t.at k).kind=true:=fun k hk=>⟨hb.kid hK hk,Yf hs hk⟩
 have hch:=hsb.kids
 have hG:Q3t r t b (Q8 r t M) (Qp r t t.nodes.length):=by
  have:=Qcm (r:=r) hn hK hS hr b.toNat M t.nodes.length (by omega) (by omega)
  rwa [Int.toNat_of_nonneg hb1] at this
 unfold Qa7;dsimp only;have hzl:({z with last:=(t.at b).kids.getLast?.getD (-1)}:SS).code=0:=h.codeS;rw[Qg0 hzl hz1 hz2]
 have hR:Rel r t s {z with last:=(t.at b).kids.getLast?.getD (-1),names:=names,kinds:=kinds} :=
  ⟨h.names,h.kinds,h.each,h.inner,h.fn,h.topk,h.tops,h.topsND,h.withs,h.none,h.kindOf,h.ok,h.code,h.codeS,h.node⟩
 have hz9:({({z with last:=(t.at b).kids.getLast?.getD (-1)}:SS) with names:=names,kinds:=kinds}:SS)={z with last:=(t.at b).kids.getLast?.getD (-1),names:=names,kinds:=kinds}:=rfl;rw[hz9];cases hE:Q31 t (t.at b).kids with
 |false =>
  rw[Ng (by simp)]
  have Qoc:(t.at b).kids.getLast?.getD (-1)<0∨(t.at ((t.at b).kids.getLast?.getD (-1))).kind≠26:=by
   unfold Q31 at hE;cases hg:(t.at b).kids.getLast? with
   |none=>left;simp
   |some l=>right;rw[hg] at hE;simpa using hE
  have hno:Q1z t lo (b-1) {z with last:=(t.at b).kids.getLast?.getD (-1),names:=names,kinds:=kinds}:=by
   intro _ j h1 h2 h3;have h3':j=(t.at b).kids.getLast?.getD (-1):=h3;have:=hsb.low;rcases Qoc with h9|h9
   ·omega
   ·rw[h3'];exact h9
  obtain⟨hSR,hok⟩:=Q70 hG (t.at b).kids lo b s _ (Int.le_refl _) hch Qsl hR hl hno;generalize Qa (Q8 r t M) s (t.at b).kids=s1 at hSR hok ⊢;generalize Zi (Qp r t t.nodes.length) (t.at b).kids {z with last:=(t.at b).kids.getLast?.getD (-1),names:=names,kinds:=kinds}=z1 at hSR ⊢;obtain⟨⟨a1,a2⟩,hX⟩:=hSR
  by_cases h0:s1.code=0
  ·obtain⟨c1,c2,c3,c4,_⟩:=hX h0
   have hfr:=c4.frames
   rw[Ng (show ¬ (z1.fn=false∨z1.code≠0) by
    rintro (h9|h9)
    ·rw[hfr.2.2.2.1] at h9;have:z.fn=false:=h9;rw[hf] at this;cases this
    ·exact h9 c1.codeS),Ps Qoc]
   obtain⟨f1,f2⟩:=CS.fail_code h0 5 i;have hz0:({z1 with names:=[],kinds:=[]}:SS).code=0:=c1.codeS;obtain⟨g1,g2⟩:=SS.fail_code hz0 5 i;exact⟨⟨f1.trans g1.symm,f2.trans g2.symm⟩,fun h9=>absurd (f1.symm.trans h9) (by decide)⟩
  ·rw[Ps (show z1.fn=false∨z1.code≠0 from .inr (by rw[← a1];exact h0))]
   have hs2:=CS.fail_same h0 5 i;exact⟨⟨hs2.1.trans a1,hs2.2.trans a2⟩,fun h9=>absurd (hs2.1.symm.trans h9) h0⟩
 |true =>
  rw[Ps rfl]
  obtain⟨init,l,Qne⟩:∃init l,(t.at b).kids=init++[l]:=by
   cases hg:(t.at b).kids.getLast? with
   |none=>unfold Q31 at hE;rw[hg] at hE;cases hE
   |some l =>
    refine⟨(t.at b).kids.dropLast,l,?_⟩;have hne:(t.at b).kids≠[]:=by intro h9;rw[h9] at hg;cases hg
    rw[List.getLast?_eq_some_getLast hne] at hg;cases hg;exact (List.dropLast_concat_getLast hne).symm
  have hgl:(t.at b).kids.getLast?=some l:=by rw[Qne];simp
  have hdl:(t.at b).kids.dropLast=init:=by rw[Qne];simp
  have Qqi:(t.at l).kind=26:=by unfold Q31 at hE;rw[hgl] at hE;simpa using hE
  rw[hgl,hdl]
  show Q4r t s z (Qq (Qa (Q8 r t M) (Qa (Q8 r t M) s init) [kidAt (t.at l) 0]) (kidAt (t.at l) 0) n.i i) _
  simp only[Option.getD_some];rw[hgl] at hR;simp only[Option.getD_some] at hR;have Qs2:InT t l:=(Qsl l (by rw[Qne];simp)).1;have hss:=Yo hn Qs2 (by rw[Qqi];rfl);unfold Z5 at hss;rw[Qqi,Ps (by decide)] at hss;obtain⟨e,hek,hee⟩:=Xh hss;have k0:kidAt (t.at l) 0=e:=by simp[kidAt,hek]
  rw[k0];rw[Qne] at hch;obtain⟨m,hc1,hc2,Qo7⟩:=hch.app;have hlb:l+1=b:=Qo7;have hml:=hc2.le;have hce:=hc2.kids;rw[hek] at hce;obtain⟨hse,Qoo⟩:=hce;have hel:e+1=l:=Qoo;have he:InT t e:=Qs2.kid hK (by rw[hek];simp);have Qsm:=hse.le;have hm0:=hc1.le
  have hno:Q1z t lo (m-1) {z with last:=l,names:=names,kinds:=kinds}:=by
   intro _ j h1 h2 h3;have:j=l:=h3;omega
  obtain⟨hSR,hok⟩:=Q70 hG init lo m s _ (by omega) hc1 (fun k hk=>Qsl k (by rw[Qne];simp[hk])) hR hl hno;rw[Qne,Q9v];generalize Qa (Q8 r t M) s init=s1 at hSR hok ⊢;generalize Zi (Qp r t t.nodes.length) init {z with last:=l,names:=names,kinds:=kinds}=z1 at hSR ⊢;obtain⟨⟨a1,a2⟩,hX⟩:=hSR
  by_cases h0:s1.code=0
  ·obtain⟨c1,c2,c3,c4,more,c5,c6⟩:=hX h0
   have hfr:=c4.frames
   have hst:Jt t z1 l=true:=by
    unfold Jt;dsimp only;have q1:z1.fn=true:=hfr.2.2.2.1.trans hf;have q2:z1.last=l:=hfr.2.2.2.2.1;rw[Ng (by omega),Ng (by omega),Ps Qqi,q1,q2];simp
   have e1:Zi (Qp r t t.nodes.length) [l] z1=(Jr r t M z1 e).2:=by
    show List.foldl _ _ _=_
    rw[List.foldl_cons,Ps c1.codeS,hM,Q1o hst,Ng (by omega),Ng (by omega),Ng (by omega),Ng (by omega),Ng (by omega),Ng (by omega),Ng (by omega),Ng (by omega),Ng (by omega),Ng (by omega),Ps (by omega),k0];rfl
   have e2:Qa (Q8 r t M) s1 [e]=Q8 r t M s1 e:=by
    show List.foldl _ _ _=_;rw[List.foldl_cons,Ps h0];rfl
   have hE2:Q8i r t l (Q8 r t M) (Jr r t M):=by
    have:=Qd7 (r:=r) hn hK hS hr l.toNat M M (by omega) (by omega)
    rwa [Int.toNat_of_nonneg Qs2.1] at this
   have hl2:∀x∈s1.locals,x<m:=by
    rw[c5];intro x hx;rcases List.mem_append.1 hx with hx|hx
    ·have:=hl x hx;omega
    ·have:=c6 x hx;omega
   obtain⟨⟨⟨b1,b2⟩,hE3⟩,Qo2⟩:=hE2 m e s1 z1 (by omega) hse he hee c1 hl2;rw[e1,e2];generalize Q8 r t M s1 e=s2 at b1 b2 hE3 Qo2 ⊢;generalize Jr r t M z1 e=p at b1 b2 hE3 ⊢
   by_cases h1:s2.code=0
   ·obtain⟨d1,d2,d3,d4,d5⟩:=hE3 h1
    have hp0:p.2.code=0:=b1.symm.trans h1
    have hfp:p.2.fn=true∧p.2.each=z.each∧p.2.inner=z.inner∧p.2.withs=z.withs∧p.2.kindOf.length=t.nodes.length:=by
     have Qmr:=d2.1.trans c1.kindOf;obtain⟨_,O,d2'⟩:=d2;rw[d2'] at Qmr ⊢;exact⟨hfr.2.2.2.1.trans hf,hfr.1,hfr.2.1,hfr.2.2.1,Qmr⟩
    rw[Ng (show ¬ (p.2.fn=false∨p.2.code≠0) by
     rintro (h9|h9)
     ·rw[hfp.1] at h9;cases h9
     ·exact h9 hp0),Ng (show ¬ (l<0∨(t.at l).kind≠26) by
     rintro (h9|h9)
     ·have:=Qs2.1;omega
     ·exact h9 Qqi)]
    by_cases hq:p.1=n.i
    ·rw[Ng (show ¬ Z4 p.2.kindOf e.toNat≠n.i by rw[d4];simpa using hq),Qq,Ps (by rw[d3,hq])]
     exact⟨⟨b1,b2⟩,fun _=>⟨c3.trans d1.l,hfp.2.1,hfp.2.2.1,hfp.2.2.2.1,hfp.2.2.2.2⟩⟩
    ·rw[Ps (show Z4 p.2.kindOf e.toNat≠n.i by rw[d4];exact hq),Qq,Ng (by rw[d3];exact hq)]
     obtain⟨f1,f2⟩:=CS.fail_code h1 4 i;have hz0:({p.2 with names:=[],kinds:=[]}:SS).code=0:=hp0;obtain⟨g1,g2⟩:=SS.fail_code hz0 4 i;exact⟨⟨f1.trans g1.symm,f2.trans g2.symm⟩,fun h9=>absurd (f1.symm.trans h9) (by decide)⟩
   ·rw[Ps (show p.2.fn=false∨p.2.code≠0 from .inr (by rw[← b1];exact h1))]
    have hs2:=X9 h1 e n.i i;exact⟨⟨hs2.1.trans b1,hs2.2.trans b2⟩,fun h9=>absurd (hs2.1.symm.trans h9) h1⟩
  ·have hz1':z1.code≠0:=by rw[← a1];exact h0
   rw[Qdg hz1',Ze h0,Ps (show z1.fn=false∨z1.code≠0 from .inr hz1')];have hs2:=X9 h0 e n.i i;exact⟨⟨hs2.1.trans a1,hs2.2.trans a2⟩,fun h9=>absurd (hs2.1.symm.trans h9) h0⟩
end
structure TR (t:Q1) (k:Nat) (s:CS) (z:SS):Prop where
 tops:s.tops=t.tops.take k
 nd:(Qb t s.tops).Nodup
 e1:s.inEach=false
 e2:s.inHear=false
 e3:s.withs=[]
 z1:z.each=false
 z2:z.inner=false
 z3:z.withs=[]
 ko:z.kindOf.length=t.nodes.length
 ok:Qe t s
 code:s.code=0
 codeS:z.code=0
 node:s.node=z.node
section
variable {r:Reg} {t:Q1}
theorem Qlg {l:List Int} {k:Nat} {x:Int} (h:l[k]?=some x):Z4 l k=x:=by simp[Z4,h]
theorem Qk4 {W:CS→Int→CS} {s:CS} {i:Int} {n:Qc} (hc:(n.kids.dropLast.foldl (Jk t) s).code≠0):(n.kids.dropLast.foldl (Jk t) s).Same (fnF t W s i n):=by
 unfold fnF;dsimp only;rw[Ze hc,Ze hc,Ze hc];split
 ·exact X9 hc _ _ _
 ·exact CS.fail_same hc _ _
theorem Q4r.next {k:Nat} {i:Int} {s s0 s':CS} {z z0 z':SS} (h:TR t k s z) (hk:t.tops[k]?=some i) (hn:Q2 t s.tops (t.at i).text<0) (h0:s0={s with top:=i,locals:=[]}) (hz0:z0.each=z.each∧z0.inner=z.inner∧z0.withs=z.withs)
  (hT:Q4r t s0 z0 s' z') (hok:Qe t {s' with tops:=s'.tops++[i]}):Q2g {s' with tops:=s'.tops++[i]} z'∧(s'.code=0→TR t (k+1) {s' with tops:=s'.tops++[i]} z'):=by
 obtain⟨⟨a1,a2⟩,hX⟩:=hT
 refine⟨⟨a1,a2⟩,fun hc=>?_⟩
 obtain⟨⟨K,B,L,c1⟩,c2,c3,c4,c5⟩:=hX hc;subst h0;subst c1;have Qnw:=Yd (t:=t) (l:=s.tops) (name:=(t.at i).text) (fun x hx=>(h.ok.tops x hx).1);refine⟨?_,?_,h.e1,h.e2,h.e3,c2.trans (hz0.1.trans h.z1),c3.trans (hz0.2.1.trans h.z2),c4.trans (hz0.2.2.trans h.z3),c5,hok,hc,a1.symm.trans hc,a2⟩
 ·show s.tops++[i]=_
  rw[h.tops,List.take_add_one,hk];rfl
 ·show (Qb t (s.tops++[i])).Nodup
  unfold Qb at Qnw ⊢;rw[List.map_append,List.nodup_append]
  refine⟨h.nd,by simp,fun a ha b hb e=>?_⟩
  simp at hb;subst hb;subst e;have:=Qnw.1 ha;omega
theorem Ql9 (hn:Qt t=true) (hK:Qj t) (hS:Jz t) (hr:Xt r) (hch:Zo t 0 t.tops t.nodes.length) (htk:∀i∈t.tops,InT t i∧33≤(t.at i).kind) {k:Nat} {i:Int} {s:CS} {z:SS} (h:TR t k s z) (hk:t.tops[k]?=some i) :
  Q2g (Yh r t s i) (topS r t z k)∧((Yh r t s i).code=0→TR t (k+1) (Yh r t s i) (topS r t z k)):=by
 have Qr3:=Mg hk;obtain⟨hi,h33⟩:=htk i Qr3;obtain⟨lo,hsp,Qyx,_⟩:=hch.mem Qr3;have hsp':=hsp.le;have hi1:=hi.1;have hi2:=hi.2;have Qs3:=Qe.topStep hK hS r h.ok hi;have Qnw:=Yd (t:=t) (l:=s.tops) (name:=(t.at i).text) (fun x hx=>(h.ok.tops x hx).1);have hgi:=Qlg hk;rw[Ql3,hgi]
 have Qty:(t.tops.take k).any (fun j=>decide ((t.at j).text=(t.at i).text))=decide (0≤Q2 t s.tops (t.at i).text):=by
  apply Bool.eq_iff_iff.2;rw[decide_eq_true_iff,← Qnw,← h.tops,List.any_eq_true];unfold Qb;rw[List.mem_map];constructor
  ·rintro⟨x,h1,h2⟩;exact⟨x,h1,by simpa using h2⟩
  ·rintro⟨x,h1,h2⟩;exact⟨x,h1,by simpa using h2⟩
 by_cases hx:0≤Q2 t s.tops (t.at i).text
 ·rw[Qty,Ps (by simpa using hx)]
  obtain⟨f1,f2⟩:=CS.fail_code h.code 2 i;have hz0:({z with top:=(k:Int),names:=[],kinds:=[]}:SS).code=0:=h.codeS;obtain⟨g1,g2⟩:=SS.fail_code hz0 2 i
  have e1:(Yh r t s i).code=2∧(Yh r t s i).node=i:=by
   unfold Yh;dsimp only;rw[Ps hx];have hx2:({s.fail 2 i with top:=i,locals:=[]}:CS).code≠0:=by show (s.fail 2 i).code≠0;rw[f1];decide
   rw[Ze hx2];exact⟨f1,f2⟩
  exact⟨⟨e1.1.trans g1.symm,e1.2.trans g2.symm⟩,fun h9=>absurd (e1.1.symm.trans h9) (by decide)⟩
 ·rw[Qty,Ng (show ¬ decide (0≤Q2 t s.tops (t.at i).text)=true by simpa using hx)]
  have Qwn:Qe t {s with top:=i,locals:=[]}:=⟨h.ok.kinds,h.ok.bind,by simp,h.ok.tops,hi,by simp[Qb],h.ok.withs⟩
  have e1:Yh r t s i={Q8 r t t.nodes.length {s with top:=i,locals:=[]} i with tops:=(Q8 r t t.nodes.length {s with top:=i,locals:=[]} i).tops++[i]}:=by
   unfold Yh;dsimp only;rw[Ng hx];have h00:({s with top:=i,locals:=[]}:CS).code=0:=h.code
   have:Qa (Q8 r t t.nodes.length) {s with top:=i,locals:=[]} [i]=Q8 r t t.nodes.length {s with top:=i,locals:=[]} i:=by
    show List.foldl _ _ _=_;rw[List.foldl_cons,Ps h00];rfl
   rw[this]
  rw[e1] at Qs3 ⊢
  have hR0:∀(nm:List ByteArray) (kd:List Int) (la:Int),nm=[]→kd=[]→∀b:Bool,b=((t.at i).kind==33)→Rel r t {s with top:=i,locals:=[]} {z with top:=(k:Int),names:=nm,kinds:=kd,fn:=b,last:=la}:=by
   intro nm kd la e1 e2 b e3;subst e1;subst e2;subst e3;have hs:=Q0t hn hi (by omega)
   have hkk:(t.at i).kind=33∨(t.at i).kind=34:=by
    unfold Je at hs
    by_cases h3:(t.at i).kind=33
    ·exact .inl h3
    ·by_cases h4:(t.at i).kind=34
     ·exact .inr h4
     ·rw[Ng (by omega),Ng (by omega),Ng (by omega),Ng (by omega),Ng (by omega),Ng (by omega),Ng (by omega)] at hs
      cases hs
   refine⟨rfl,rfl,h.z1.trans h.e1.symm,?_,rfl,hkk,?_,?_,?_,fun _=>⟨h.e3,h.z3⟩,h.ko,Qwn,h.code,h.codeS,h.node⟩
   ·show z.inner=(s.inEach ||s.inHear)
    rw[h.z2,h.e1,h.e2];rfl
   ·show t.tops.take (k:Int).toNat=s.tops
    rw[h.tops];rfl
   ·exact h.nd
   ·intro name _
    show Z9 name z.withs=Z9 (r.find 1 name) s.withs
    rw[h.z3,h.e3];rfl
  have hs:=Q0t hn hi (by omega);unfold Je at hs;rw[Ng (by omega),Ng (by omega),Ng (by omega),Ng (by omega),Ng (by omega)] at hs
  by_cases h3:(t.at i).kind=33
  ·rw[Ps h3] at hs
   cases hg:(t.at i).kids.getLast? with
   |none=>rw[hg] at hs;cases hs
   |some b =>
    rw[hg] at hs;simp only[Bool.and_eq_true] at hs;have hne:(t.at i).kids≠[]:=by intro h9;rw[h9] at hg;cases hg
    have Qmk:(t.at i).kids=(t.at i).kids.dropLast++[b]:=by
     have h9:=hg;rw[List.getLast?_eq_some_getLast hne] at h9;cases h9;exact (List.dropLast_concat_getLast hne).symm
    have hcp:=hsp.kids;rw[Qmk] at hcp;obtain⟨m,hc1,hsb,Qo7⟩:=hcp.app;have hbi:b+1=i:=Qo7;have hlb:=hsb.le;have hm0:=hc1.le;have hb:InT t b:=hi.kid hK (by rw[Qmk];simp);have hbk:(t.at b).kind=27:=by simpa[isK] using hs.2
    have hps:∀x∈(t.at i).kids.dropLast,InT t x:=fun x hx=>hi.kid hK (List.dropLast_subset _ hx)
    obtain⟨M,hM⟩:∃M,t.nodes.length=M+1:=⟨t.nodes.length-1,by omega⟩;obtain⟨⟨p1,p2⟩,hP⟩:=Qf2 (r:=r) (t.at i).kids.dropLast lo m {s with top:=i,locals:=[]} {z with top:=(k:Int),names:=[],kinds:=[],fn:=(t.at i).kind==33} [] [] hc1 hps (hR0 [] [] z.last rfl rfl _ rfl) (by simp)
    have e2:Q8 r t t.nodes.length {s with top:=i,locals:=[]} i=fnF t (Q8 r t M) {s with top:=i,locals:=[]} i (t.at i):=by
     rw[hM];unfold Q8;dsimp only;rw[Ps (by rw[h3];rfl),Ps h3]
    rw[e2] at Qs3 ⊢;have hbg:(some b).getD 0=b:=rfl;rw[hbg];generalize hpp:Z6 t (t.at i).kids.dropLast [] [] {z with top:=(k:Int),names:=[],kinds:=[],fn:=(t.at i).kind==33}=p at p1 p2 hP ⊢
    by_cases h0:((t.at i).kids.dropLast.foldl (Jk t) {s with top:=i,locals:=[]}).code=0
    ·obtain⟨q1,q2,q3,q4⟩:=hP h0
     rw[Ng (show ¬ p.2.2.code≠0 by rw[q2];show ¬ z.code≠0;rw[h.codeS];simp)]
     have e3:fnF t (Q8 r t M) {s with top:=i,locals:=[]} i (t.at i)=(if Q31 t (t.at b).kids then Qq (Qa (Q8 r t M) (Qa (Q8 r t M) ((t.at i).kids.dropLast.foldl (Jk t) {s with top:=i,locals:=[]}) (t.at b).kids.dropLast) [kidAt (t.at ((t.at b).kids.getLast?.getD 0)) 0]) (kidAt (t.at ((t.at b).kids.getLast?.getD 0)) 0) (t.at i).i i
       else (Qa (Q8 r t M) ((t.at i).kids.dropLast.foldl (Jk t) {s with top:=i,locals:=[]}) (t.at b).kids).fail 5 i):=by
      unfold fnF;dsimp only;rw[hg];rfl
     have hT:=Qi8 (n:=t.at i) hn hK hS hr hM hsb (by omega) hi hb hbk (names:=p.1) (kinds:=p.2.1) (z:=p.2.2) (by rw[q2]) (by rw[q2]) (by rw[q2];exact q1) q4 (by rw[q2];show ((t.at i).kind==33)=true;rw[h3];rfl);rw[← e3] at hT
     have hT2:Q4r t {s with top:=i,locals:=[]} p.2.2 (fnF t (Q8 r t M) {s with top:=i,locals:=[]} i (t.at i)) (Qa7 r t p.2.2 i b (t.at i) p.1 p.2.1) :=
      ⟨hT.1,fun hc=>⟨q3.trans (hT.2 hc).1,(hT.2 hc).2⟩⟩
     exact Q4r.next h hk (by omega) rfl (by rw[q2];exact⟨rfl,rfl,rfl⟩) hT2 Qs3
    ·have hz9:p.2.2.code≠0:=by rw[← p1];exact h0
     rw[Ps hz9];have hs2:=Qk4 (t:=t) (W:=Q8 r t M) (s:={s with top:=i,locals:=[]}) (i:=i) (n:=t.at i) h0;exact⟨⟨hs2.1.trans p1,hs2.2.trans p2⟩,fun h9=>absurd (hs2.1.symm.trans h9) h0⟩
  ·rw[Ng h3] at hs
   by_cases h4:(t.at i).kind=34
   ·rw[Ps h4] at hs
    obtain⟨b,Qmk,hbk⟩:=Xh hs;have hbk:(t.at b).kind=27:=by simpa[isK] using hbk
    have hdl:(t.at i).kids.dropLast=[]:=by rw[Qmk];rfl
    have hgl:(t.at i).kids.getLast?.getD 0=b:=by rw[Qmk];rfl
    rw[hdl,hgl];have hfn:((t.at i).kind==33)=false:=by simpa using h3
    rw[hfn];have hpp:Z6 t [] [] [] {z with top:=(k:Int),names:=[],kinds:=[],fn:=false}=([],[],{z with top:=(k:Int),names:=[],kinds:=[],fn:=false}):=rfl;generalize hXe:({z with top:=(k:Int),names:=[],kinds:=[],fn:=false}:SS)=X at hpp ⊢;rw[hpp,Ng (show ¬ (([]:List ByteArray),([]:List Int),X).2.2.code≠0 by rw[← hXe];show ¬ z.code≠0;rw[h.codeS];simp)];subst hXe;have hR:=hR0 [] [] ((t.at b).kids.getLast?.getD (-1)) rfl rfl false hfn.symm;have hB:=Qdy hn hK hS hr hsp hi h4 Qmk hbk hR rfl rfl
    have e3:Qa7 r t {z with top:=(k:Int),names:=[],kinds:=[],fn:=false} i b (t.at i) [] []=Jf t (Qp r t t.nodes.length) {z with top:=(k:Int),names:=[],kinds:=[],fn:=false,last:=(t.at b).kids.getLast?.getD (-1)} b [] []:=by
     unfold Qa7;dsimp only
     have:(Jf t (Qp r t t.nodes.length) {z with top:=(k:Int),names:=[],kinds:=[],fn:=false,last:=(t.at b).kids.getLast?.getD (-1)} b [] []).fn=false∨(Jf t (Qp r t t.nodes.length) {z with top:=(k:Int),names:=[],kinds:=[],fn:=false,last:=(t.at b).kids.getLast?.getD (-1)} b [] []).code≠0:=by
      by_cases h9:(Jf t (Qp r t t.nodes.length) {z with top:=(k:Int),names:=[],kinds:=[],fn:=false,last:=(t.at b).kids.getLast?.getD (-1)} b [] []).code=0
      ·left
       have hc:=hB.1.1.trans h9;obtain⟨_,O,e⟩:=(hB.2 hc).2.1;rw[e]
      ·right;exact h9
     rw[Ps this]
    rw[e3]
    have hT:Q4r t {s with top:=i,locals:=[]} {z with top:=(k:Int),names:=[],kinds:=[],fn:=false,last:=(t.at b).kids.getLast?.getD (-1)} (Q8 r t t.nodes.length {s with top:=i,locals:=[]} i) (Jf t (Qp r t t.nodes.length) {z with top:=(k:Int),names:=[],kinds:=[],fn:=false,last:=(t.at b).kids.getLast?.getD (-1)} b [] []):=by
     refine⟨hB.1,fun hc=>?_⟩
     obtain⟨b1,⟨bl,O,b2⟩,b3⟩:=hB.2 hc;refine⟨b1.l,?_,?_,?_,?_⟩
     ·rw[b2]
     ·rw[b2]
     ·rw[b2]
     ·rw[bl];exact h.ko
    exact Q4r.next h hk (by omega) rfl ⟨rfl,rfl,rfl⟩ hT Qs3
   ·rw[Ng h4] at hs;cases hs
theorem Qfx {s:CS} (hc:s.code≠0) (i:Int):s.Same (Yh r t s i):=by
 unfold Yh;dsimp only
 have h1:s.Same (if 0≤Q2 t s.tops (t.at i).text then s.fail 2 i else s):=by
  split
  ·exact CS.fail_same hc _ _
  ·exact CS.Same.rfl s
 generalize (if 0≤Q2 t s.tops (t.at i).text then s.fail 2 i else s)=s1 at h1 ⊢;have h2:({s1 with top:=i,locals:=[]}:CS).code≠0:=h1.ne hc;rw[Ze h2];exact⟨h1.1,h1.2⟩
theorem Qim (hn:Qt t=true) (hK:Qj t) (hS:Jz t) (hr:Xt r) (hch:Zo t 0 t.tops t.nodes.length) (htk:∀i∈t.tops,InT t i∧33≤(t.at i).kind) (Qn9:0<t.nodes.length):∀k:Nat,k≤t.tops.length →
  Q2g ((t.tops.take k).foldl (Yh r t) (Z7 t)) ((List.range k).foldl (fun s k=>if s.code=0 then topS r t s k else s) (Q0f t)) ∧
   (((t.tops.take k).foldl (Yh r t) (Z7 t)).code=0→TR t k ((t.tops.take k).foldl (Yh r t) (Z7 t)) ((List.range k).foldl (fun s k=>if s.code=0 then topS r t s k else s) (Q0f t))):=by
 intro k
 induction k with
 |zero =>
  intro _
  refine⟨⟨rfl,rfl⟩,fun _=>?_⟩
  have hok:Qe t (Z7 t):=⟨by simp[Z7],by simp[Z7],by simp[Z7],by simp[Z7],⟨by simp[Z7],by simp[Z7];omega⟩,by simp[Z7,Qb],by simp[Z7]⟩;exact⟨rfl,by simp[Z7,Qb],rfl,rfl,rfl,rfl,rfl,rfl,by simp[Q0f],hok,rfl,rfl,rfl⟩
 |succ k ih =>
  intro hk;obtain⟨i,hi⟩:=Q3 (xs:=t.tops) (j:=k) (by omega);obtain⟨⟨a1,a2⟩,hT⟩:=ih (by omega);rw[Jy hi,List.foldl_append,List.range_succ,List.foldl_append];generalize (t.tops.take k).foldl (Yh r t) (Z7 t)=s at a1 a2 hT ⊢;generalize (List.range k).foldl (fun s k=>if s.code=0 then topS r t s k else s) (Q0f t)=z at a1 a2 hT ⊢;rw[List.foldl_cons,List.foldl_nil,List.foldl_cons,List.foldl_nil]
  by_cases h0:s.code=0
  ·rw[Ps (a1.symm.trans h0)]
   exact Ql9 hn hK hS hr hch htk (hT h0) hi
  ·rw[Ng (by rw[← a1];exact h0)]
   have:=Qfx (r:=r) (t:=t) h0 i;exact⟨⟨this.1.trans a1,this.2.trans a2⟩,fun h9=>absurd (this.1.symm.trans h9) h0⟩
theorem Qkd (hR:Q69 r=true) (hT:Yi t=true) (hS:Jz t):(((Q0b r t).code,(Q0b r t).node):Int×Int)=Qjf r t:=by
 unfold Yi at hT;simp only[Bool.and_eq_true,decide_eq_true_eq,beq_iff_eq] at hT;obtain⟨⟨_,hn⟩,htp⟩:=hT;obtain⟨hch,htk⟩:=Q62 (Int.le_refl 0) htp;have hK:=Q4y hn;unfold Qjf Q6b Q0b
 by_cases Qn9:0<t.nodes.length
 ·have:=(Qim hn hK hS (Qf7 hR) hch htk Qn9 t.tops.length (Nat.le_refl _)).1
  rw[List.take_length] at this;rw[this.1,this.2]
 ·have:t.tops=[]:=by
   cases h9:t.tops with
   |nil=>rfl
   |cons x xs=>have:=(htk x (by rw[h9];simp)).1;have h1:=this.1;have h2:=this.2;omega
  rw[this];rfl
end
theorem Qm.poke {S:Nat→Prop} {w:World} {p q:Nat} {φ:World→Value→Prop} (h:Qm S w fun w=>∃v,w.cell? ⟨p,q,none⟩=some v∧φ w v) (hno:∀w',¬ φ w' (.bool true)):¬ S p:=by
 intro hS;have hk:Q0 S w (w.setCell ⟨p,q,none⟩ (.bool true)):=(Kr _ _).setCell (p:=⟨p,q,none⟩) (Or.inl hS) _;obtain⟨v,hc,_⟩:=h.now;obtain⟨v',hc',hf⟩:=h _ hk;have he:(w.setCell ⟨p,q,none⟩ (.bool true)).cell? ⟨p,q,none⟩=some (.bool true):=World.cell?_setCell_same' _ _ _ (by rw[hc];rfl);rw[he] at hc';cases hc';exact hno _ hf
theorem Qm.fix {S:Nat→Prop} {w:World} {p q:Nat} {φ:World→Value→Prop} (h:Qm S w fun w=>∃v,w.cell? ⟨p,q,none⟩=some v∧φ w v) (hno:∀w',¬ φ w' (.bool true)) :
  ∃v,(∀W,Q0 S w W→W.cell? ⟨p,q,none⟩=some v)∧Qm S w fun w=>φ w v:=by
 have hS:=h.poke hno;obtain⟨v,hc,_⟩:=h.now
 refine⟨v,fun W hk=>hk.cell hS hc,fun W hk=>?_⟩
 obtain⟨v',hc',hf⟩:=h W hk;rw[hk.cell hS hc] at hc';cases hc';exact hf
theorem Qm.imp {S:Nat→Prop} {w:World} {φ ψ:World→Prop} (h:Qm S w φ) (hi:∀w,φ w→ψ w):Qm S w ψ:=fun W hk=>hi W (h W hk)
theorem Qi.noBool {w:World} {xs:List Int} {b:Bool}:¬ Qi w (.bool b) xs:=by rintro⟨_,_,_,_,h,_⟩;cases h
theorem X4.noBool {w:World} {xs:List Qc} {b:Bool}:¬ X4 w (.bool b) xs:=by rintro⟨_,_,_,_,h,_⟩;cases h
theorem Qm.ints {S:Nat→Prop} {w:World} {v:Value} {xs:List Int} (h:Qm S w fun w=>Qi w v xs) :
  ∃A b o c,v=.slice A xs.length c∧xs.length≤140737488355328∧xs.length≤c∧(0<xs.length→A=some ⟨b,o,none⟩∧¬ S b)∧∀j x,xs[j]?=some x→∀W,Q0 S w W→W.cell? ⟨b,o+j,none⟩=some (.int .i64 x):=by
 obtain⟨A,b,o,c,rfl,hl,hlc,hA,hc⟩:=h.now
 refine⟨A,b,o,c,rfl,hl,hlc,fun h0=>⟨hA h0,?_⟩,fun j x hx W hk=>?_⟩
 ·obtain rfl:=hA h0
  exact h.apart rfl h0
 ·have h0:0<xs.length:=by have:=(Gs hx).1;omega
  obtain rfl:=hA h0;exact hk.cell (h.apart rfl h0) (hc j x hx)
theorem Qm.tree {S:Nat→Prop} {w:World} {tb tq:Nat} {t:Q1} (h:Qm S w fun w=>J7 w tb tq t) :
  ∃(A:Option Addr) (nb no nc:Nat),(∀W,Q0 S w W→W.cell? ⟨tb,tq,none⟩=some (.slice A t.nodes.length nc))∧t.nodes.length≤140737488355328∧t.nodes.length≤nc∧¬ S tb∧(0<t.nodes.length→A=some ⟨nb,no,none⟩∧¬ S nb) ∧
   (∃v1,(∀W,Q0 S w W→W.cell? ⟨tb,tq+1,none⟩=some v1)∧Qm S w fun w=>Qi w v1 t.tops) ∧
   ∀j x,t.nodes[j]?=some x→∃kv,(∀W,Q0 S w W→W.cell? ⟨nb,no+j*4,none⟩=some (.int .i64 x.kind)∧W.cell? ⟨nb,no+j*4+1,none⟩=some (.string x.text) ∧
    W.cell? ⟨nb,no+j*4+2,none⟩=some (.int .i64 x.i)∧W.cell? ⟨nb,no+j*4+3,none⟩=some kv)∧Qm S w fun w=>Qi w kv x.kids:=by
 have h0:Qm S w fun w=>∃v,w.cell? ⟨tb,tq,none⟩=some v∧X4 w v t.nodes:=h.imp fun w ⟨v0,v1,c0,c1,n0,n1⟩=>⟨v0,c0,n0⟩
 have h1:Qm S w fun w=>∃v,w.cell? ⟨tb,tq+1,none⟩=some v∧Qi w v t.tops:=h.imp fun w ⟨v0,v1,c0,c1,n0,n1⟩=>⟨v1,c1,n1⟩
 have hS:=h0.poke (fun _=>X4.noBool);obtain⟨v0,f0,g0⟩:=h0.fix (fun _=>X4.noBool);obtain⟨A,nb,no,nc,rfl,hl,hlc,hA,hc⟩:=g0.now
 have Qp5:∀j x,t.nodes[j]?=some x→Qm S w fun w=>∃kv,w.cell? ⟨nb,no+j*4+3,none⟩=some kv∧(w.cell? ⟨nb,no+j*4,none⟩=some (.int .i64 x.kind)∧w.cell? ⟨nb,no+j*4+1,none⟩=some (.string x.text)∧w.cell? ⟨nb,no+j*4+2,none⟩=some (.int .i64 x.i)∧Qi w kv x.kids):=by
  intro j x hx;have hp:0<t.nodes.length:=by have:=(Gs hx).1;omega
  have hAA:=hA hp
  refine g0.imp fun w' ⟨A',nb',no',nc',e,_,_,hA',hc'⟩=>?_
  injection e with e1 e2 e3
  subst e1;have e4:=hA' hp;rw[hAA] at e4;cases e4;obtain⟨kv,q0,q1,q2,q3,q4⟩:=hc' j x hx;exact⟨kv,q3,q0,q1,q2,q4⟩
 refine⟨A,nb,no,nc,f0,hl,hlc,hS,fun hp=>⟨hA hp,?_⟩,h1.fix (fun _=>Qi.noBool),fun j x hx=>?_⟩
 ·obtain⟨x,hx⟩:=Q3 (xs:=t.nodes) (j:=0) hp
  exact (Qp5 0 x hx).poke (fun _ h=>Qi.noBool h.2.2.2)
 ·obtain⟨kv,q3,q⟩:=(Qp5 j x hx).fix (fun _ h=>Qi.noBool h.2.2.2)
  exact⟨kv,fun W hk=>⟨(q W hk).1,(q W hk).2.1,(q W hk).2.2.1,q3 W hk⟩,q.imp fun _ h=>h.2.2.2⟩
theorem Qe8 {t:Q1} {i:Int} {ks ps:List Int} {j:Nat} {k p:Int} (hk:ks[j]?=some k) (hp:ps[j]?=some p) (s:CS) :
  Yc t i (ks.take (j+1)) (ps.take (j+1)) s=Qq (Yc t i (ks.take j) (ps.take j) s) k (t.at p).i i:=by
 induction ks generalizing ps j s with
 |nil=>simp at hk
 |cons y ys ih =>
  cases ps with
  |nil=>simp at hp
  |cons q qs =>
   cases j with
   |zero=>simp at hk hp;subst hk;subst hp;simp[Yc]
   |succ j =>
    simp only[List.take_succ_cons,Yc];exact ih (j:=j) (by simpa using hk) (by simpa using hp) _
theorem Qeb {t:Q1} {i:Int} {ks ps:List Int} (h:ks.length≤ps.length) (s:CS):Yc t i ks (ps.take ks.length) s=Yc t i ks ps s:=by
 induction ks generalizing ps s with
 |nil=>cases ps<;>rfl
 |cons y ys ih =>
  cases ps with
  |nil=>simp at h
  |cons q qs=>simp only[List.length_cons,List.take_succ_cons,Yc];exact ih (by simpa using h) _
theorem Qe.argsKinds {t:Q1} {s:CS} (h:Qe t s) (i:Int) (ks ps:List Int):(Yc t i ks ps s).kinds.length=t.nodes.length:=(h.args i ks ps).kinds
theorem Qf.at {S:Nat→Prop} {e:TypeId} {w:World} {v:Value} {xs:List Value} {b j:Nat} (h:Qf S e w v xs) (hv:v.ownBlock=some b) (hj:j<xs.length):w.cell? ⟨b,j,none⟩=some xs[j]∧w.frozen? ⟨b,j,none⟩=false:=by
 obtain⟨A,b',c,rfl,_,_,h3,h4⟩:=h.opened;obtain⟨_,_,ho⟩:=h3 (by omega);rw[hv] at ho;cases ho;exact h4 j _ (List.getElem?_eq_getElem hj)
section
variable {S:Nat→Prop} {w:World} {cb rb ro tb tq:Nat} {s:CS} {kv bv lv tv wv:Value}
theorem Qky (h:J0 S w cb ⟨rb,ro,none⟩ ⟨tb,tq,none⟩ s kv bv lv tv wv) (t:Q1) (ht:Qm S w fun w=>J7 w tb tq t) (hok:Qe t s) (hK:Qj t)
  (i:Int) (hi:InT t i) (n:Qc) (nk:Value) (hnk:Qm S w fun w=>Qi w nk n.kids) (hin:∀k∈n.kids,InT t k) :
  Calls prog 200 #[.pointer (some ⟨cb,0,none⟩),.int .i64 i,.agg #[.int .i64 n.kind,.string n.text,.int .i64 n.i,nk]] w fun e w'=>e=.returned (.int .i64 (Q37 t s i n).1) ∧
   J0 S w' cb ⟨rb,ro,none⟩ ⟨tb,tq,none⟩ (Q37 t s i n).2 kv bv lv tv wv∧Q0 S w w':=by
 have hk0:Q0 nob w (w.alloc (.cells #[.int .i64 n.kind,.string n.text,.int .i64 n.i,nk] 70)):=(Kr _ _).alloc _;have hb0:=Blk.new w [.int .i64 n.kind,.string n.text,.int .i64 n.i,nk] 70;generalize hW0:w.alloc (.cells #[.int .i64 n.kind,.string n.text,.int .i64 n.i,nk] 70)=W0 at hk0;replace hb0:Blk W0 w.heap.size [.int .i64 n.kind,.string n.text,.int .i64 n.i,nk] 70:=hW0▸hb0;have h0:=h.nobk hk0;have hcw:w.heap.size≠cb:=by have:=h.blk.lt;omega
 have H0:=Hh h0;have HT:=Hh ((ht.kept (hk0.ofNob S)).now);have HIN:=Hh hok.tops;have hT0:=(ht.kept (hk0.ofNob S)).tree;obtain⟨tA,nb,no,nc,tc,tl,tlc,tS,tA',_,tn⟩:=hT0;have c1:W0.cell? ⟨cb,1,none⟩=some (.pointer (some ⟨tb,tq,none⟩)):=h0.blk.cell 1 _ rfl;have b1:=hb0.cell 1 _ rfl;have Qn9:0<t.nodes.length:=by have:=hi.1;have:=hi.2;omega
 obtain⟨rfl,nS⟩:=tA' Qn9;have tc0:=tc W0 (Kr _ _);generalize hX:Q37 t s i n=X;unfold Q37 at hX;dsimp only at hX
 by_cases hn:Q2 t s.tops n.text<0
 ·have t1:decide (Q2 t s.tops n.text<0)=true:=by simpa using hn
  rw[Ps (Or.inl hn)] at hX;have HX:=Hh hX;clear hX hn h h0 hb0 ht hok hnk hin tn tc tA' hi Qn9;go_enter func200,ntmps200;go_wp2_with (first|(go_at_call 91;refine (Q3e H0.o t HT.o HIN.o _).mono ?_;rintro e w1 ⟨rfl,rfl⟩)|(go_at_call 92;refine (Zd H0.o _ _).mono ?_;rintro e w1 ⟨rfl,hat⟩));go_returns;obtain rfl:=HX.o;exact⟨rfl,hat.1,(hk0.ofNob _).trans (hat.2.mono fun k _ hk=>hk▸hat.1.inS)⟩
 have t1:decide (Q2 t s.tops n.text<0)=false:=by simpa using hn
 have hm0:=hok.tops _ (Q4u (by omega:0≤Q2 t s.tops n.text));generalize hj:Q2 t s.tops n.text=j at hn t1 hm0 hX;obtain⟨mj,rfl,hnd⟩:=Q1.at_lt hm0;obtain⟨fkv,fc,fst⟩:=tn mj _ hnd;obtain⟨fc0,fc1,fc2,fc3⟩:=fc W0 (Kr _ _);have hml:(mj:Int)<t.nodes.length:=hm0.2;generalize hfn:t.at (mj:Int)=fn at hX fc fc0 fc1 fc2 fc3 fst hnd
 by_cases h33:fn.kind=33
 ·have t2:(fn.kind != 33)=false:=by simp[h33]
  rw[Ng (by rw[h33];omega)] at hX;have hk1:Q0 nob W0 (W0.alloc (.cells #[.int .i64 fn.kind,.string fn.text,.int .i64 fn.i,fkv] 70)):=(Kr _ _).alloc _;have hb1:=Blk.new W0 [.int .i64 fn.kind,.string fn.text,.int .i64 fn.i,fkv] 70;generalize hW1:W0.alloc (.cells #[.int .i64 fn.kind,.string fn.text,.int .i64 fn.i,fkv] 70)=W1 at hk1;replace hb1:Blk W1 W0.heap.size [.int .i64 fn.kind,.string fn.text,.int .i64 fn.i,fkv] 70:=hW1▸hb1;have h1:=h0.nobk hk1;have H1:=Hh h1;have fi:=(fst.kept (hk1.ofNob S)).ints;obtain⟨fA,fb,fo,fcap,rfl,fl,flc,fA',fcells⟩:=fi;have ni:=(hnk.kept ((hk0.trans hk1).ofNob S)).ints;obtain⟨nA,kb,ko,kcap,rfl,nl,nlc,nA',ncells⟩:=ni;have d3:=hb1.cell 3 _ rfl;have d2:=hb1.cell 2 _ rfl;have e3:W1.cell? ⟨w.heap.size,3,none⟩=some (.slice nA n.kids.length kcap):=(hb0.kept hk1 id).cell 3 _ rfl
  by_cases Qmr:fn.kids.length=n.kids.length+1
  ·have t3:(((fn.kids.length:Int)-1) != (n.kids.length:Int))=false:=by simp;omega
   rw[Ng (by simpa using Qmr)] at hX;obtain⟨rfl,fS⟩:=fA' (by omega);obtain⟨bA,gb,bc,hbv,bl,blc,hbA,_⟩:=h1.b.openI;have hbl:0<s.bind.length:=by rw[hok.bind];exact Qn9
   obtain⟨rfl,hSb,Qni⟩:=hbA hbl;obtain⟨mi,rfl⟩:=En hi.1;have hmi:(mi:Int)<s.bind.length:=by rw[hok.bind];exact hi.2
   have Qr6:∀(s':CS) (w':World),J0 S w' cb ⟨rb,ro,none⟩ ⟨tb,tq,none⟩ s' kv bv lv tv wv→s'.bind.length=s.bind.length→∃y,w'.cell? ⟨gb,mi,none⟩=some (.int .i64 y)∧w'.frozen? ⟨gb,mi,none⟩=false:=by
    intro s' w' hc hs;obtain⟨q1,q2⟩:=hc.b.at (j:=mi) Qni (by simp[Q4];omega);refine⟨s'.bind[mi]'(by omega),?_,q2⟩;rw[q1];simp[Q4]
   have hbn:∀j,(Yc t (mi:Int) (n.kids.take j) (fn.kids.take j) s).bind.length=s.bind.length:=fun j=>by rw[(hok.args _ _ _).bind,hok.bind]
   have hkn:∀j,(Yc t (mi:Int) (n.kids.take j) (fn.kids.take j) s).kinds.length=t.nodes.length:=fun j=>(hok.args _ _ _).kinds
   have hst:∀W,Q0 (fun k=>k=cb) W1 W→Q0 S W0 W:=fun W hk=>(hk1.ofNob S).trans (hk.mono fun k _ e=>e▸h1.inS)
   have Qpi:∀W,Q0 (fun k=>k=cb) W1 W→Q0 S W1 W:=fun W hk=>hk.mono fun k _ e=>e▸h1.inS
   have Qtz:W0.heap.size≠cb:=by have:=h0.blk.lt;omega
   have Qqx:∀p∈fn.kids,InT t p:=fun p hp=>(show InT t (mj:Int) from hm0).kid hK (by rw[hfn];exact hp)
   have hB1:∀W,Q0 (fun k=>k=cb) W1 W→W.cell? ⟨W0.heap.size,3,none⟩=some (.slice (some ⟨fb,fo,none⟩) fn.kids.length fcap)∧W.cell? ⟨W0.heap.size,2,none⟩=some (.int .i64 fn.i):=fun W hk=>⟨hk.cell Qtz d3,hk.cell Qtz d2⟩
   have hgw:gb≠W0.heap.size:=by have:=h0.b.lt gb Qni;omega
   have HX:=Hh hX;have HTN:=Hh tn;have HTC:=Hh tc;have HFC:=Hh fcells;have HNC:=Hh ncells;have HNA:=Hh nA';have HST:=Hh hst;have Qpj:=Hh Qpi;have HB1:=Hh hB1;have HFR:=Hh Qr6;have HBN:=Hh hbn;have HKN:=Hh hkn;have HFI:=Hh Qqx;have HNI:=Hh hin;have Qnf:=Hh Qmr;have HSB:=Hh hSb;have HOB:=Hh Qni;have HI0:=Hh hi.1;have Qso:n.kids.length<fn.kids.length:=by omega
   clear hX hn h h0 h1 hb0 hb1 ht hok hnk hin tn tc tA' hi Qn9 hm0 fst fc fcells ncells fA' nA' Qmr h33 hnd hfn hst Qpi hB1 Qr6 hbn hkn Qqx hSb hbA Qni;subst hbv;go_enter func200,ntmps200;go_wp2_with (first|(go_at_call 91;refine (Q3e H0.o t HT.o HIN.o _).mono ?_;rw[hj];rintro e w1 ⟨rfl,rfl⟩));go_loopw [9,10,58] (fun u9 u10 ci wr=>∃j:Nat,j≤n.kids.length∧ci=.int .i64 j∧Hi (Q2t S W1 cb ⟨rb,ro,none⟩ ⟨tb,tq,none⟩ (Yc t (mi:Int) (n.kids.take j) (fn.kids.take j) s) kv (.slice (some ⟨gb,0,none⟩) s.bind.length bc) lv tv wv wr)) (fun _ _ ci _=>n.kids.length-(intOf ci).toNat)
   case atStart=>exact⟨0,Nat.zero_le _,rfl,Hh ⟨H1.o,Kr _ _⟩⟩
   case round =>
    obtain⟨j,hjl,rfl,HAT⟩:=hrel;obtain⟨wo,rfl⟩:∃wo:World,wo=wr:=⟨_,rfl⟩;obtain⟨g3,g2⟩:=HB1.o wo HAT.o.2
    by_cases hlt:j<n.kids.length
    ·obtain⟨x,hx⟩:=Q3 hlt
     obtain⟨p,hp⟩:=Q3 (xs:=fn.kids) (j:=j) (by omega);have hxi:=HNI.o x (Mg hx);have hpi:=HFI.o p (Mg hp);obtain⟨pm,rfl,hpn⟩:=Q1.at_lt hpi;have hpl:(pm:Int)<t.nodes.length:=hpi.2;obtain⟨pv,pc,_⟩:=HTN.o pm _ hpn;obtain⟨rfl,_⟩:=HNA.o (by omega);have q1:wo.cell? ⟨cb,1,none⟩=some (.pointer (some ⟨tb,tq,none⟩)):=HAT.o.1.blk.cell 1 _ rfl;have q2:=HTC.o wo (HST.o wo HAT.o.2);have q3:=HNC.o j x hx wo (Qpj.o wo HAT.o.2);have q4:=HFC.o j _ hp wo (Qpj.o wo HAT.o.2);have q5:=(pc wo (HST.o wo HAT.o.2)).2.2.1
     have HS2:Hi (∀W,Q0 (fun k=>k=cb) W1 W→W.cell? ⟨tb,tq,none⟩=some (.slice (some ⟨nb,no,none⟩) t.nodes.length nc)∧W.cell? ⟨W0.heap.size,3,none⟩=some (.slice (some ⟨fb,fo,none⟩) fn.kids.length fcap)∧W.cell? ⟨fb,fo+j,none⟩=some (.int .i64 (pm:Int))∧W.cell? ⟨nb,no+pm*4+2,none⟩=some (.int .i64 (t.at (pm:Int)).i)) :=
      Hh (fun W hk=>⟨HTC.o W (HST.o W hk),(HB1.o W hk).1,HFC.o j _ hp W (Qpj.o W hk),(pc W (HST.o W hk)).2.2.1⟩)
     have HAR:=Hh (Qe8 (t:=t) (i:=(mi:Int)) hx hp s);have HXI:Hi (0≤x∧x<((Yc t (mi:Int) (n.kids.take j) (fn.kids.take j) s).kinds.length:Int)):=Hh ⟨hxi.1,by rw[HKN.o];exact hxi.2⟩;have hjf:(j:Int)<fn.kids.length:=by omega
     clear hx hp hxi hpi hpn pc;go_wp2_with fail;go_region_held3 (fun W=>W.cell? ⟨cb,1,none⟩=some (.pointer (some ⟨tb,tq,none⟩))∧W.cell? ⟨tb,tq,none⟩=some (.slice (some ⟨nb,no,none⟩) t.nodes.length nc)∧W.cell? ⟨W0.heap.size,3,none⟩=some (.slice (some ⟨fb,fo,none⟩) fn.kids.length fcap)∧W.cell? ⟨fb,fo+j,none⟩=some (.int .i64 (pm:Int))∧W.cell? ⟨nb,no+pm*4+2,none⟩=some (.int .i64 (t.at (pm:Int)).i)) (first|exact⟨q1,q2,g3,q4,q5⟩|exact⟨hat.1.blk.cell 1 _ rfl,HS2.o _ (HAT.o.2.trans hat.2)⟩) ((first|(go_at_call 197;refine (Xq (HAT.o.1.drew) _ _ _ HXI.o.1 HXI.o.2).mono ?_;rintro e w2 ⟨rfl,Qnx⟩;have hat:Q2t S wo cb ⟨rb,ro,none⟩ ⟨tb,tq,none⟩ (Qq (Yc t (mi:Int) (n.kids.take j) (fn.kids.take j) s) x (t.at (pm:Int)).i (mi:Int)) kv (.slice (some ⟨gb,0,none⟩) s.bind.length bc) lv tv wv w2:=⟨Qnx.1,Qnx.2.undrew⟩;dsimp only)));go_wp2_with fail;go_round
     case rel=>exact⟨j+1,by omega,by go_num,Hh (HAR.o▸⟨hat.1,HAT.o.2.trans hat.2⟩)⟩
     case measure=>simp[intOf];omega
    ·obtain rfl:j=n.kids.length:=by omega
     obtain⟨y,y1,y2⟩:=HFR.o _ _ HAT.o.1 (HBN.o _);have q5:wo.cell? ⟨cb,5,none⟩=some (.slice (some ⟨gb,0,none⟩) s.bind.length bc):=HAT.o.1.blk.cell 5 _ rfl;have g2':(wo.setCell ⟨gb,mi,none⟩ (.int .i64 (mj:Int))).cell? ⟨W0.heap.size,2,none⟩=some (.int .i64 fn.i):=(Q0.cb (cb:=gb) (Kr _ wo) mi (.int .i64 (mj:Int))).cell (fun e=>hgw e.symm) g2;go_wp2_with fail;go_returns;obtain rfl:=HX.o;have hS:=HAT.o.1.setB HOB.o (mi:Int) (mj:Int) HI0.o;rw[Int.toNat_natCast,List.take_length,Qeb (Nat.le_of_lt Qso)] at hS;have hk2:Q0 S W0 wo:=HST.o _ HAT.o.2;exact⟨rfl,hS,((hk0.ofNob _).trans hk2).setCell (p:=⟨gb,mi,none⟩) (Or.inl HSB.o) _⟩
  ·have t3:(((fn.kids.length:Int)-1) != (n.kids.length:Int))=true:=by simp;omega
   rw[Ps (by simpa using Qmr)] at hX;have HX:=Hh hX;clear hX hn h h0 h1 hb0 hb1 ht hok hnk hin tn tc tA' hi Qn9 hm0 fst fc fcells ncells fA' nA' Qmr h33 hnd hfn;go_enter func200,ntmps200;go_wp2_with (first|(go_at_call 91;refine (Q3e H0.o t HT.o HIN.o _).mono ?_;rw[hj];rintro e w1 ⟨rfl,rfl⟩)|(go_at_call 92;refine (Zd H1.o _ _).mono ?_;rintro e w1 ⟨rfl,hat⟩));go_returns;obtain rfl:=HX.o;exact⟨rfl,hat.1,((hk0.trans hk1).ofNob _).trans (hat.2.mono fun k _ hk=>hk▸hat.1.inS)⟩
 ·have t2:(fn.kind != 33)=true:=by simpa using h33
  rw[Ps (Or.inr h33)] at hX;have HX:=Hh hX;clear hX hn h h0 hb0 ht hok hnk hin tn tc tA' hi Qn9 hm0 fst fc h33 hnd hfn;go_enter func200,ntmps200;go_wp2_with (first|(go_at_call 91;refine (Q3e H0.o t HT.o HIN.o _).mono ?_;rw[hj];rintro e w1 ⟨rfl,rfl⟩)|(go_at_call 92;refine (Zd H0.o _ _).mono ?_;rintro e w1 ⟨rfl,hat⟩));go_returns;obtain rfl:=HX.o;exact⟨rfl,hat.1,(hk0.ofNob _).trans (hat.2.mono fun k _ hk=>hk▸hat.1.inS)⟩
end
def at2 (wb gb:Nat):Nat→Prop:=fun k=>k=wb∨k=gb
structure Zb (S:Nat→Prop) (w:World) (r:Reg) (t:Q1) (r0 r1 r2 t0 t1:Value):Prop where
 r0:Qm S w fun w=>Z1 w r0 r.comps
 r1:Qm S w fun w=>Z1 w r1 r.ress
 r2:Qm S w fun w=>Z1 w r2 r.evts
 t0:Qm S w fun w=>X4 w t0 t.nodes
 t1:Qm S w fun w=>Qi w t1 t.tops
theorem Zb.kept {S:Nat→Prop} {w w':World} {r:Reg} {t:Q1} {r0 r1 r2 t0 t1:Value} (h:Zb S w r t r0 r1 r2 t0 t1) (k:Q0 S w w'):Zb S w' r t r0 r1 r2 t0 t1 :=
 ⟨h.r0.kept k,h.r1.kept k,h.r2.kept k,h.t0.kept k,h.t1.kept k⟩
def Qb9 (r0 r1 r2 t0 t1 ov:Value) (s:SS) (nv kv wv:Value):List Value :=
 [r0,r1,r2,t0,t1,.int .i64 s.top,nv,kv,.bool s.each,.bool s.inner,wv,.bool s.fn,.int .i64 s.last,.int .i64 s.code,.int .i64 s.node,ov]
structure SpR (w:World) (wb gb:Nat) (r0 r1 r2 t0 t1 ov:Value) (s:SS) (nv kv wv:Value):Prop where
 blk:Blk w wb (Qb9 r0 r1 r2 t0 t1 ov s nv kv wv) 124
 ne:wb≠gb
 gl:gb<w.heap.size
 o:Qf (fun k=>k=gb) 3 w ov (Q4 s.kindOf)
 n:Qm (at2 wb gb) w fun w=>Yv w nv s.names
 k:Qm (at2 wb gb) w fun w=>Qi w kv s.kinds
 h:Qm (at2 wb gb) w fun w=>Yv w wv s.withs
theorem Q0.wb {wb gb:Nat} {w0 w:World} (h:Q0 (at2 wb gb) w0 w) (i:Nat) (u:Value):Q0 (at2 wb gb) w0 (w.setCell ⟨wb,i,none⟩ u):=h.setCell (p:=⟨wb,i,none⟩) (Or.inl (Or.inl rfl)) u
theorem Q0.gb {wb gb:Nat} {w0 w:World} (h:Q0 (at2 wb gb) w0 w) (i:Nat) (u:Value):Q0 (at2 wb gb) w0 (w.setCell ⟨gb,i,none⟩ u):=h.setCell (p:=⟨gb,i,none⟩) (Or.inl (Or.inr rfl)) u
theorem Qm.nob {S:Nat→Prop} {w w':World} {φ:World→Prop} (h:Qm S w φ) (k:Q0 nob w w'):Qm S w' φ:=h.kept (k.ofNob S)
namespace SpR
variable {w w':World} {wb gb:Nat} {r0 r1 r2 t0 t1 ov:Value} {s s':SS} {nv kv wv nv' kv' wv':Value}
theorem nobk (h:SpR w wb gb r0 r1 r2 t0 t1 ov s nv kv wv) (k:Q0 nob w w'):SpR w' wb gb r0 r1 r2 t0 t1 ov s nv kv wv :=
 ⟨h.blk.kept k id,h.ne,Nat.lt_of_lt_of_le h.gl k.size,h.o.nobk k,h.n.nob k,h.k.nob k,h.h.nob k⟩
theorem drew (h:SpR w wb gb r0 r1 r2 t0 t1 ov s nv kv wv):SpR w.drew wb gb r0 r1 r2 t0 t1 ov s nv kv wv:=h.nobk (Kr _ _).drew
theorem drewN (h:SpR w wb gb r0 r1 r2 t0 t1 ov s nv kv wv) (n:Nat):SpR (w.drewN n) wb gb r0 r1 r2 t0 t1 ov s nv kv wv:=h.nobk ((Kr _ _).drewN n)
theorem alloc (h:SpR w wb gb r0 r1 r2 t0 t1 ov s nv kv wv) (o:Obj):SpR (w.alloc o) wb gb r0 r1 r2 t0 t1 ov s nv kv wv:=h.nobk ((Kr _ _).alloc o)
theorem wl (h:SpR w wb gb r0 r1 r2 t0 t1 ov s nv kv wv):wb<w.heap.size:=h.blk.lt
theorem setc (h:SpR w wb gb r0 r1 r2 t0 t1 ov s nv kv wv) (i:Nat) (u:Value) (s':SS) (hcs:Qb9 r0 r1 r2 t0 t1 ov s' nv' kv' wv'=(Qb9 r0 r1 r2 t0 t1 ov s nv kv wv).set i u)
  (ho:s'.kindOf=s.kindOf) (hn:Qm (at2 wb gb) w fun w=>Yv w nv' s'.names) (hk:Qm (at2 wb gb) w fun w=>Qi w kv' s'.kinds) (hh:Qm (at2 wb gb) w fun w=>Yv w wv' s'.withs) :
  SpR (w.setCell ⟨wb,i,none⟩ u) wb gb r0 r1 r2 t0 t1 ov s' nv' kv' wv':=by
 have hK:Q0 (at2 wb gb) w (w.setCell ⟨wb,i,none⟩ u):=(Kr _ _).wb i u;refine⟨hcs▸h.blk.set i u,h.ne,Nat.lt_of_lt_of_le h.gl hK.size,?_,hn.kept hK,hk.kept hK,hh.kept hK⟩;rw[ho];exact h.o.other (p:=⟨wb,i,none⟩) (fun e=>h.ne (h.o.2 _ e)) u
theorem setCode (h:SpR w wb gb r0 r1 r2 t0 t1 ov s nv kv wv) (c:Int):SpR (w.setCell ⟨wb,13,none⟩ (.int .i64 c)) wb gb r0 r1 r2 t0 t1 ov {s with code:=c} nv kv wv:=h.setc 13 _ _ rfl rfl h.n h.k h.h
theorem setNode (h:SpR w wb gb r0 r1 r2 t0 t1 ov s nv kv wv) (c:Int):SpR (w.setCell ⟨wb,14,none⟩ (.int .i64 c)) wb gb r0 r1 r2 t0 t1 ov {s with node:=c} nv kv wv:=h.setc 14 _ _ rfl rfl h.n h.k h.h
theorem setTop (h:SpR w wb gb r0 r1 r2 t0 t1 ov s nv kv wv) (c:Int):SpR (w.setCell ⟨wb,5,none⟩ (.int .i64 c)) wb gb r0 r1 r2 t0 t1 ov {s with top:=c} nv kv wv:=h.setc 5 _ _ rfl rfl h.n h.k h.h
theorem setEach (h:SpR w wb gb r0 r1 r2 t0 t1 ov s nv kv wv) (c:Bool):SpR (w.setCell ⟨wb,8,none⟩ (.bool c)) wb gb r0 r1 r2 t0 t1 ov {s with each:=c} nv kv wv:=h.setc 8 _ _ rfl rfl h.n h.k h.h
theorem setInner (h:SpR w wb gb r0 r1 r2 t0 t1 ov s nv kv wv) (c:Bool):SpR (w.setCell ⟨wb,9,none⟩ (.bool c)) wb gb r0 r1 r2 t0 t1 ov {s with inner:=c} nv kv wv:=h.setc 9 _ _ rfl rfl h.n h.k h.h
theorem setFn (h:SpR w wb gb r0 r1 r2 t0 t1 ov s nv kv wv) (c:Bool):SpR (w.setCell ⟨wb,11,none⟩ (.bool c)) wb gb r0 r1 r2 t0 t1 ov {s with fn:=c} nv kv wv:=h.setc 11 _ _ rfl rfl h.n h.k h.h
theorem setLast (h:SpR w wb gb r0 r1 r2 t0 t1 ov s nv kv wv) (c:Int):SpR (w.setCell ⟨wb,12,none⟩ (.int .i64 c)) wb gb r0 r1 r2 t0 t1 ov {s with last:=c} nv kv wv:=h.setc 12 _ _ rfl rfl h.n h.k h.h
theorem setNames (h:SpR w wb gb r0 r1 r2 t0 t1 ov s nv kv wv) {u:Value} {l:List ByteArray} (hu:Qm (at2 wb gb) w fun w=>Yv w u l):SpR (w.setCell ⟨wb,6,none⟩ u) wb gb r0 r1 r2 t0 t1 ov {s with names:=l} u kv wv:=h.setc 6 _ _ rfl rfl hu h.k h.h
theorem setKinds (h:SpR w wb gb r0 r1 r2 t0 t1 ov s nv kv wv) {u:Value} {l:List Int} (hu:Qm (at2 wb gb) w fun w=>Qi w u l):SpR (w.setCell ⟨wb,7,none⟩ u) wb gb r0 r1 r2 t0 t1 ov {s with kinds:=l} nv u wv:=h.setc 7 _ _ rfl rfl h.n hu h.h
theorem setWith (h:SpR w wb gb r0 r1 r2 t0 t1 ov s nv kv wv) {u:Value} {l:List ByteArray} (hu:Qm (at2 wb gb) w fun w=>Yv w u l):SpR (w.setCell ⟨wb,10,none⟩ u) wb gb r0 r1 r2 t0 t1 ov {s with withs:=l} nv kv u:=h.setc 10 _ _ rfl rfl h.n h.k hu
theorem setO (h:SpR w wb gb r0 r1 r2 t0 t1 ov s nv kv wv) (hg:ov.ownBlock=some gb) (i:Nat) (x:Int):SpR (w.setCell ⟨gb,i,none⟩ (.int .i64 x)) wb gb r0 r1 r2 t0 t1 ov {s with kindOf:=s.kindOf.set i x} nv kv wv:=by
 have hK:Q0 (at2 wb gb) w (w.setCell ⟨gb,i,none⟩ (.int .i64 x)):=(Kr _ _).gb i _;refine⟨h.blk.other h.ne _,h.ne,Nat.lt_of_lt_of_le h.gl hK.size,?_,h.n.kept hK,h.k.kept hK,h.h.kept hK⟩;have:=h.o.set hg i (.int .i64 x)
 rwa [show (Q4 s.kindOf).set i (.int .i64 x)=Q4 (s.kindOf.set i x) from by simp[Q4,List.map_set]] at this
theorem kindRow (h:SpR w wb gb r0 r1 r2 t0 t1 ov s nv kv wv) (hp:0<s.kindOf.length):∃oc,ov=.slice (some ⟨gb,0,none⟩) s.kindOf.length oc∧ov.ownBlock=some gb:=by
 obtain⟨A,g,oc,hv,_,_,hA,_⟩:=h.o.openI;obtain⟨rfl,hg,ho⟩:=hA hp;subst hg;exact⟨oc,hv,ho⟩
theorem kindCell (h:SpR w wb gb r0 r1 r2 t0 t1 ov s nv kv wv) {i:Nat} {x:Int} (hi:s.kindOf[i]?=some x):w.cell? ⟨gb,i,none⟩=some (.int .i64 x)∧w.frozen? ⟨gb,i,none⟩=false:=by
 obtain⟨A,g,oc,hv,_,_,hA,hc⟩:=h.o.openI;have hp:0<s.kindOf.length:=by have:=(Gs hi).1;omega
 obtain⟨rfl,hg,ho⟩:=hA hp;subst hg;exact hc i x hi
end SpR
def AtW (w:World) (wb gb:Nat) (r0 r1 r2 t0 t1 ov:Value) (s:SS) (nv kv wv:Value) (w':World):Prop:=SpR w' wb gb r0 r1 r2 t0 t1 ov s nv kv wv∧Q0 (at2 wb gb) w w'
theorem Yv.noBool {w:World} {xs:List ByteArray} {b:Bool}:¬ Yv w (.bool b) xs:=by rintro⟨_,_,_,_,h,_⟩;cases h
theorem Qm.apartS {S:Nat→Prop} {w:World} {v:Value} {xs:List ByteArray} (h:Qm S w fun w=>Yv w v xs) {b o n c:Nat} (hv:v=.slice (some ⟨b,o,none⟩) n c) (h0:0<xs.length):¬ S b:=by
 intro hS;obtain⟨x,hx⟩:=Q3 (xs:=xs) (j:=0) h0;have hk:Q0 S w (w.setCell ⟨b,o,none⟩ (.bool true)):=(Kr _ _).setCell (p:=⟨b,o,none⟩) (Or.inl hS) _;obtain⟨A,b1,o1,c1,hv1,_,_,hA,hc⟩:=h.now;obtain⟨A',b2,o2,c2,hv2,_,_,hA',hc'⟩:=h _ hk;have e1:=hA h0;have e2:=hA' h0;subst e1;subst e2;subst hv;injection hv1 with p1 _ _
 injection hv2 with p2 _ _
 cases p1;cases p2;have q1:=hc 0 x hx;have q2:=hc' 0 x hx;rw[Nat.add_zero] at q1 q2;have:(w.setCell ⟨b,o,none⟩ (.bool true)).cell? ⟨b,o,none⟩=some (.bool true):=World.cell?_setCell_same' _ _ _ (by rw[q1];rfl);rw[this] at q2;cases q2
theorem Qm.strs {S:Nat→Prop} {w:World} {v:Value} {xs:List ByteArray} (h:Qm S w fun w=>Yv w v xs) :
  ∃A b o c,v=.slice A xs.length c∧xs.length≤140737488355328∧xs.length≤c∧(0<xs.length→A=some ⟨b,o,none⟩∧¬ S b)∧∀j x,xs[j]?=some x→∀W,Q0 S w W→W.cell? ⟨b,o+j,none⟩=some (.string x):=by
 obtain⟨A,b,o,c,rfl,hl,hlc,hA,hc⟩:=h.now
 refine⟨A,b,o,c,rfl,hl,hlc,fun h0=>⟨hA h0,?_⟩,fun j x hx W hk=>?_⟩
 ·obtain rfl:=hA h0
  exact h.apartS rfl h0
 ·have h0:0<xs.length:=by have:=(Gs hx).1;omega
  obtain rfl:=hA h0;exact hk.cell (h.apartS rfl h0) (hc j x hx)
theorem Qm.nodes {S:Nat→Prop} {w:World} {v:Value} {xs:List Qc} (g0:Qm S w fun w=>X4 w v xs) :
  ∃(A:Option Addr) (nb no nc:Nat),v=.slice A xs.length nc∧xs.length≤140737488355328∧xs.length≤nc∧(0<xs.length→A=some ⟨nb,no,none⟩) ∧
   ∀j x,xs[j]?=some x→∃kv,(∀W,Q0 S w W→W.cell? ⟨nb,no+j*4,none⟩=some (.int .i64 x.kind)∧W.cell? ⟨nb,no+j*4+1,none⟩=some (.string x.text) ∧
    W.cell? ⟨nb,no+j*4+2,none⟩=some (.int .i64 x.i)∧W.cell? ⟨nb,no+j*4+3,none⟩=some kv)∧Qm S w fun w=>Qi w kv x.kids:=by
 obtain⟨A,nb,no,nc,rfl,hl,hlc,hA,hc⟩:=g0.now
 refine⟨A,nb,no,nc,rfl,hl,hlc,hA,fun j x hx=>?_⟩
 have hp:0<xs.length:=by have:=(Gs hx).1;omega
 have hAA:=hA hp
 have Qp5:Qm S w fun w=>∃kv,w.cell? ⟨nb,no+j*4+3,none⟩=some kv∧(w.cell? ⟨nb,no+j*4,none⟩=some (.int .i64 x.kind)∧w.cell? ⟨nb,no+j*4+1,none⟩=some (.string x.text)∧w.cell? ⟨nb,no+j*4+2,none⟩=some (.int .i64 x.i)∧Qi w kv x.kids):=by
  refine g0.imp fun w' ⟨A',nb',no',nc',e,_,_,hA',hc'⟩=>?_
  injection e with e1 e2 e3
  subst e1;have e4:=hA' hp;rw[hAA] at e4;cases e4;obtain⟨kv,q0,q1,q2,q3,q4⟩:=hc' j x hx;exact⟨kv,q3,q0,q1,q2,q4⟩
 obtain⟨kv,q3,q⟩:=Qp5.fix (fun _ h=>Qi.noBool h.2.2.2);exact⟨kv,fun W hk=>⟨(q W hk).1,(q W hk).2.1,(q W hk).2.2.1,q3 W hk⟩,q.imp fun _ h=>h.2.2.2⟩
theorem Zb.cells {S:Nat→Prop} {w:World} {r:Reg} {t:Q1} {r0 r1 r2 t1:Value} {nb no m nc:Nat} (F:Zb S w r t r0 r1 r2 (.slice (some ⟨nb,no,none⟩) m nc) t1) {mi:Nat} {n:Qc} (hn:t.nodes[mi]?=some n) :
  ∃A kb ko kc,(∀W,Q0 S w W→W.cell? ⟨nb,no+mi*4,none⟩=some (.int .i64 n.kind)∧W.cell? ⟨nb,no+mi*4+1,none⟩=some (.string n.text)∧W.cell? ⟨nb,no+mi*4+2,none⟩=some (.int .i64 n.i)∧W.cell? ⟨nb,no+mi*4+3,none⟩=some (.slice A n.kids.length kc)) ∧
   n.kids.length≤140737488355328∧n.kids.length≤kc∧(0<n.kids.length→A=some ⟨kb,ko,none⟩)∧(∀j x,n.kids[j]?=some x→∀W,Q0 S w W→W.cell? ⟨kb,ko+j,none⟩=some (.int .i64 x)):=by
 obtain⟨A,nb',no',nc',e,hl,hlc,hA,hc⟩:=F.t0.nodes;obtain⟨hlt,_⟩:=Gs hn;have hA':=hA (by omega);injection e with e1 _ e3
 subst hA';cases e1;obtain⟨nk,Qmq,Qmk⟩:=hc mi n hn;obtain⟨KA,kb,ko,kc,rfl,kl,klc,hKA,hkc⟩:=Qmk.ints;exact⟨KA,kb,ko,kc,Qmq,kl,klc,fun h0=>(hKA h0).1,hkc⟩
theorem SpR.node {w:World} {wb gb:Nat} {r0 r1 r2 t0 t1 ov:Value} {s:SS} {nv kv wv:Value} {r:Reg} {t:Q1} (h:SpR w wb gb r0 r1 r2 t0 t1 ov s nv kv wv) (F:Zb (at2 wb gb) w r t r0 r1 r2 t0 t1) {mi:Nat} {n:Qc} (hn:t.nodes[mi]?=some n) :
  ∃nb no nc A kb ko kc,t0=.slice (some ⟨nb,no,none⟩) t.nodes.length nc∧t.nodes.length≤140737488355328∧(mi:Int)<t.nodes.length ∧
   (w.cell? ⟨nb,no+mi*4,none⟩=some (.int .i64 n.kind)∧w.cell? ⟨nb,no+mi*4+1,none⟩=some (.string n.text)∧w.cell? ⟨nb,no+mi*4+2,none⟩=some (.int .i64 n.i)∧w.cell? ⟨nb,no+mi*4+3,none⟩=some (.slice A n.kids.length kc)) ∧
   n.kids.length≤140737488355328∧n.kids.length≤kc∧(0<n.kids.length→A=some ⟨kb,ko,none⟩) ∧
   ∃W0,w.alloc (.cells #[.int .i64 n.kind,.string n.text,.int .i64 n.i,.slice A n.kids.length kc] 70 (0,0))=W0∧SpR W0 wb gb r0 r1 r2 t0 t1 ov s nv kv wv∧Zb (at2 wb gb) W0 r t r0 r1 r2 t0 t1∧Q0 (at2 wb gb) w W0 ∧
    (∀W,Q0 (at2 wb gb) W0 W→W.cell? ⟨w.heap.size,0,none⟩=some (.int .i64 n.kind)∧W.cell? ⟨w.heap.size,1,none⟩=some (.string n.text)∧W.cell? ⟨w.heap.size,2,none⟩=some (.int .i64 n.i)∧W.cell? ⟨w.heap.size,3,none⟩=some (.slice A n.kids.length kc)) ∧
    (∀j x,n.kids[j]?=some x→∀W,Q0 (at2 wb gb) W0 W→W.cell? ⟨kb,ko+j,none⟩=some (.int .i64 x)):=by
 obtain⟨A,nb,no,nc,rfl,hl,hlc,hA,hc⟩:=F.t0.nodes;obtain⟨hlt,_⟩:=Gs hn;obtain rfl:=hA (by omega);obtain⟨nk,Qmq,Qmk⟩:=hc mi n hn;obtain⟨KA,kb,ko,kc,rfl,kl,klc,hKA,hkc⟩:=Qmk.ints;have hk0:Q0 nob w (w.alloc (.cells #[.int .i64 n.kind,.string n.text,.int .i64 n.i,.slice KA n.kids.length kc] 70 (0,0))):=(Kr _ _).alloc _;have hb0:=Blk.new w [.int .i64 n.kind,.string n.text,.int .i64 n.i,.slice KA n.kids.length kc] 70
 have hns:¬ at2 wb gb w.heap.size:=by
  intro e;have h1:=h.wl;have h2:=h.gl;rcases e with e|e<;>omega
 refine⟨nb,no,nc,KA,kb,ko,kc,rfl,hl,by omega,Qmq w (Kr _ _),kl,klc,fun h0=>(hKA h0).1,_,rfl,h.nobk hk0,F.kept (hk0.ofNob _),hk0.ofNob _,fun W hk=>?_,fun j x hx W hk=>hkc j x hx W ((hk0.ofNob _).trans hk)⟩
 exact⟨hk.cell hns (hb0.cell 0 _ rfl),hk.cell hns (hb0.cell 1 _ rfl),hk.cell hns (hb0.cell 2 _ rfl),hk.cell hns (hb0.cell 3 _ rfl)⟩
theorem SpR.nodeH {w:World} {wb gb:Nat} {r0 r1 r2 t0 t1 ov:Value} {s:SS} {nv kv wv:Value} {r:Reg} {t:Q1} (h:SpR w wb gb r0 r1 r2 t0 t1 ov s nv kv wv) (F:Zb (at2 wb gb) w r t r0 r1 r2 t0 t1) {i:Int} (hi:InT t i) :
  ∃mi:Nat,i=mi∧t.nodes[mi]?=some (t.at i)∧∃nb no nc A kb ko kc,t0=.slice (some ⟨nb,no,none⟩) t.nodes.length nc∧t.nodes.length≤140737488355328∧(mi:Int)<t.nodes.length ∧
   (w.cell? ⟨nb,no+mi*4,none⟩=some (.int .i64 (t.at i).kind)∧w.cell? ⟨nb,no+mi*4+1,none⟩=some (.string (t.at i).text)∧w.cell? ⟨nb,no+mi*4+2,none⟩=some (.int .i64 (t.at i).i)∧w.cell? ⟨nb,no+mi*4+3,none⟩=some (.slice A (t.at i).kids.length kc)) ∧
   (t.at i).kids.length≤140737488355328∧(t.at i).kids.length≤kc∧(0<(t.at i).kids.length→A=some ⟨kb,ko,none⟩) ∧
   ∃W0,w.alloc (.cells #[.int .i64 (t.at i).kind,.string (t.at i).text,.int .i64 (t.at i).i,.slice A (t.at i).kids.length kc] 70 (0,0))=W0∧SpR W0 wb gb r0 r1 r2 t0 t1 ov s nv kv wv∧Zb (at2 wb gb) W0 r t r0 r1 r2 t0 t1∧Q0 (at2 wb gb) w W0 ∧
    (∀W,Q0 (at2 wb gb) W0 W→W.cell? ⟨w.heap.size,0,none⟩=some (.int .i64 (t.at i).kind)∧W.cell? ⟨w.heap.size,1,none⟩=some (.string (t.at i).text)∧W.cell? ⟨w.heap.size,2,none⟩=some (.int .i64 (t.at i).i)∧W.cell? ⟨w.heap.size,3,none⟩=some (.slice A (t.at i).kids.length kc)) ∧
    (∀j x,(t.at i).kids[j]?=some x→∀W,Q0 (at2 wb gb) W0 W→W.cell? ⟨kb,ko+j,none⟩=some (.int .i64 x))∧w.cell? ⟨wb,3,none⟩=some (.slice (some ⟨nb,no,none⟩) t.nodes.length nc)∧Hi (SpR W0 wb gb r0 r1 r2 t0 t1 ov s nv kv wv)∧Hi (Zb (at2 wb gb) W0 r t r0 r1 r2 t0 t1)∧Hi (Q0 (at2 wb gb) w W0) ∧
    Hi (∀W,Q0 (at2 wb gb) W0 W→W.cell? ⟨w.heap.size,0,none⟩=some (.int .i64 (t.at i).kind)∧W.cell? ⟨w.heap.size,1,none⟩=some (.string (t.at i).text)∧W.cell? ⟨w.heap.size,2,none⟩=some (.int .i64 (t.at i).i)∧W.cell? ⟨w.heap.size,3,none⟩=some (.slice A (t.at i).kids.length kc)) ∧
    Hi (∀j x,(t.at i).kids[j]?=some x→∀W,Q0 (at2 wb gb) W0 W→W.cell? ⟨kb,ko+j,none⟩=some (.int .i64 x)):=by
 obtain⟨mi,rfl,hnd⟩:=Q1.at_lt hi;obtain⟨nb,no,nc,A,kb,ko,kc,rfl,hl,hml,hc,kl,klc,hA,W0,hW0,h0,F0,hk0,hbx,hkc⟩:=h.node F hnd;exact⟨mi,rfl,hnd,nb,no,nc,A,kb,ko,kc,rfl,hl,hml,hc,kl,klc,hA,W0,hW0,h0,F0,hk0,hbx,hkc,h.blk.cell 3 _ rfl,Hh h0,Hh F0,Hh hk0,Hh hbx,Hh hkc⟩
end Go.Proofs.YtkgkafjachjafaaGreat
