/- Part 8 of: FnExactEffects answers true; no condition. -/
import Derived.Deep.RegionHeld3
import Derived.Deep.DeepCutAuto
import Derived.Test.YtkgkafjachjafaaGreatY07
set_option linter.unusedVariables false
set_option maxHeartbeats 2000000
open Go Go.RowKit
namespace Go.Proofs.YtkgkafjachjafaaGreat
open Tryz
theorem K0c {p:Prop} (h:p:=by obtain⟨K,B,L,rfl⟩:=h;obtain⟨K',B',L',rfl⟩:=k;exact⟨K',B',L',rfl⟩):p:=h
theorem Q9d {t:Q1} (h:Qs t=true) {i:Int} (hi:InT t i):Yf t i (t.at i)=true:=by
 obtain⟨m,rfl⟩:=En hi.1;have:=hi.2;unfold Qs at h;rw[List.all_eq_true] at h;exact h m So
theorem Qc5 {t:Q1} (h:Qs t=true) {i:Int} (hi:InT t i) (he:Qu (t.at i).kind=true):X9 t (t.at i)=true:=by
 have:=Q9d h hi;unfold Yf at this;rw[he] at this;simp only[if_true,Bool.and_eq_true] at this;exact this.2
theorem Yr {t:Q1} (h:Qs t=true) {i:Int} (hi:InT t i) (he:Zs (t.at i).kind=true):Z3 t (t.at i)=true:=by
 have:=Q9d h hi;unfold Yf at this;have he':12≤(t.at i).kind∧(t.at i).kind≤26:=by simpa[Zs,Q9] using he
 have hne:Qu (t.at i).kind=false:=by simp[Qu,Q9];omega
 rw[he,hne] at this;simp only[if_true,Bool.and_eq_true,Bool.false_eq_true,if_false] at this;exact this.2
theorem Q13 {t:Q1} (h:Qs t=true) {i:Int} (hi:InT t i) (he:27≤(t.at i).kind):Jf t (t.at i)=true:=by
 have:=Q9d h hi;unfold Yf at this;have hne:Qu (t.at i).kind=false:=by simp[Qu,Q9];omega
 have Qx6:Zs (t.at i).kind=false:=by simp[Zs,Q9];omega
 rw[hne,Qx6] at this;simp only[Bool.and_eq_true,Bool.false_eq_true,if_false] at this;exact this.2
theorem Ym {t:Q1} {l:List Int} {p:Int→Bool} (h:Q25 t l p=true) {k:Int} (hk:k∈l):p (t.at k).kind=true:=by
 unfold Q25 at h;rw[List.all_eq_true] at h;exact h k hk
theorem Xc {t:Q1} {l:List Int} {p:Int→Bool} (h:Qo t l [p]=true):∃a,l=[a]∧p (t.at a).kind=true:=by
 match l,h with
 |[a],h=>exact⟨a,rfl,by simpa[Qo] using h⟩
 |a::b::c,h=>simp[Qo] at h
theorem Y9 {t:Q1} {l:List Int} {p q:Int→Bool} (h:Qo t l [p,q]=true):∃a b,l=[a,b]∧p (t.at a).kind=true∧q (t.at b).kind=true:=by
 match l,h with
 |[a],h=>simp[Qo] at h
 |[a,b],h=>exact⟨a,b,rfl,by simpa[Qo] using h⟩
 |a::b::c::d,h=>simp[Qo] at h
theorem Q22 {t:Q1} {l:List Int} {p q u:Int→Bool} (h:Qo t l [p,q,u]=true):∃a b c,l=[a,b,c]∧p (t.at a).kind=true∧q (t.at b).kind=true∧u (t.at c).kind=true:=by
 match l,h with
 |[a],h=>simp[Qo] at h
 |[a,b],h=>simp[Qo] at h
 |[a,b,c],h=>exact⟨a,b,c,rfl,by simpa[Qo] using h⟩
 |a::b::c::d::e,h=>simp[Qo] at h
theorem Qa0 {t:Q1} (h:Qs t=true) {i:Int} (hi:InT t i) (he:Qu (t.at i).kind=true) (h11:(t.at i).kind≠11) :
  (∀k∈(t.at i).kids,Qu (t.at k).kind=true)∧((t.at i).kind=8∨(t.at i).kind=9∨(t.at i).kind=10→1≤(t.at i).kids.length∧((t.at i).kind≠9→2≤(t.at i).kids.length)):=by
 have hs:=Qc5 h hi he;have hk':1≤(t.at i).kind∧(t.at i).kind≤11:=by simpa[Qu,Q9] using he
 unfold X9 at hs
 by_cases h1:(t.at i).kind=1∨(t.at i).kind=2∨(t.at i).kind=3∨(t.at i).kind=4∨(t.at i).kind=5∨(t.at i).kind=6
 ·rw[Ps h1] at hs
  have:(t.at i).kids=[]:=by simpa using hs
  rw[this];exact⟨Sm,fun h=>by omega⟩
 rw[Ng h1] at hs
 by_cases h7:(t.at i).kind=7
 ·rw[Ps h7] at hs
  exact⟨fun k hk=>Ym hs hk,fun h=>by omega⟩
 rw[Ng h7] at hs
 by_cases h8:(t.at i).kind=8∨(t.at i).kind=10
 ·rw[Ps h8] at hs
  obtain⟨a,b,e,p1,p2⟩:=Y9 hs;rw[e]
  refine⟨fun k hk=>?_,fun _=>⟨Sm,fun _=>by simp⟩⟩
  simp only[List.mem_cons,List.not_mem_nil,or_false] at hk;rcases hk with rfl|rfl
  ·exact p1
  ·exact p2
 rw[Ng h8,Ps Om] at hs;obtain⟨a,e,p1⟩:=Xc hs;rw[e]
 refine⟨fun k hk=>?_,fun h=>⟨Sm,fun h=>by omega⟩⟩
 simp only[List.mem_cons,List.not_mem_nil,or_false] at hk;subst hk;exact p1
theorem Q51 {t:Q1} (h:Qs t=true) {i:Int} (hi:InT t i) (h11:(t.at i).kind=11):∃a b ks,(t.at i).kids=a::b::ks∧Qu (t.at a).kind=true:=by
 have hs:=Qc5 h hi (by rw[h11];rfl);unfold X9 at hs;rw[h11,Ng Dc,Ng Dc,Ng Dc,Ng Dc] at hs
 match hk:(t.at i).kids,hs with
 |[],hs=>simp at hs
 |[a],hs=>simp at hs
 |a::b::ks,hs=>exact⟨a,b,ks,rfl,by simp at hs;exact hs.1⟩
section
variable {r:Reg} {t:Q1}
theorem Qiy (hr:Xy r) (i k1 first:Int) (hi:InT t i):∀(l:List Int) (s:CS) (z:SS),Rel r t s z→k1∉l→s.kindAt i=first →
  Q2r (l.foldl (pickStep r t i k1) s) (Yd r t first l z).2∧((l.foldl (pickStep r t i k1) s).code=0→l.foldl (pickStep r t i k1) s=s∧Yd r t first l z=(first,z)):=by
 intro l
 induction l with
 |nil=>intro s z h _ _;exact⟨h.agree,fun _=>⟨rfl,rfl⟩⟩
 |cons k ks ih =>
  intro s z h hno hf;have hk1:¬ k=k1:=fun e=>hno (by simp[e])
  obtain⟨⟨a1,a2⟩,hc⟩:=Q4k hr h (t.at k).text k;simp only[List.foldl_cons,Yd]
  by_cases h0:(Qi r s (t.at k).text k).2.code=0
  ·obtain⟨e1,e2,e3⟩:=hc h0
   rw[Ng (by rw[e2,h.codeS];simp)]
   by_cases hfe:(Qi r s (t.at k).text k).1=first
   ·have hs:pickStep r t i k1 s k=s:=by
     unfold pickStep;dsimp only;rw[Ng hk1,e1,Ps (by rw[hf];exact hfe)]
    rw[hs,Ng (by rw[← e3,hfe];simp),e2];exact ih s z h (fun hm=>hno (by simp[hm])) hf
   ·have hs:pickStep r t i k1 s k=s.fail 4 k:=by
     unfold pickStep;dsimp only;rw[Ng hk1,e1,Ng (by rw[hf];exact hfe)]
    rw[hs,Ps (by rw[← e3];exact hfe),e2];obtain⟨f1,f2⟩:=CS.fail_code h.code 4 k;obtain⟨g1,g2⟩:=SS.fail_code h.codeS 4 k;have:=Q2x (r:=r) (t:=t) (i:=i) (k1:=k1) ks (s:=s.fail 4 k) (by rw[f1];decide);exact⟨⟨(this.1.trans f1).trans g1.symm,(this.2.trans f2).trans g2.symm⟩,fun hh=>absurd ((this.1.trans f1).symm.trans hh) Dc⟩
  ·have hs:(Qi r s (t.at k).text k).2.Same (pickStep r t i k1 s k):=by
    unfold pickStep;dsimp only;rw[Ng hk1];split
    ·exact CS.Same.rfl _
    ·exact CS.fail_same h0 _ _
   have:=hs.trans (Q2x (r:=r) (t:=t) (i:=i) (k1:=k1) ks (hs.ne h0));rw[Ps (by rw[← a1];exact h0)];exact⟨⟨this.1.trans a1,this.2.trans a2⟩,fun hh=>absurd (this.1.symm.trans hh) h0⟩
def setO (i:Int) (b:Int×SS):Int×SS:=if b.2.code≠0 then (0,b.2) else (b.1,{b.2 with kindOf:=b.2.kindOf.set i.toNat b.1})
theorem Qcz {i:Int} {b:Int×SS} (h:b.2.code≠0):setO i b=(0,b.2):=by unfold setO;rw[Ps h]
theorem Q2i {i a:Int} {z:SS} (h:z.code≠0):setO i (a,z)=(0,z):=by unfold setO;rw[Ps h]
theorem Qc3 {i:Int} {b:Int×SS} (h:b.2.code=0):setO i b=(b.1,{b.2 with kindOf:=b.2.kindOf.set i.toNat b.1}):=by unfold setO;rw[Ng (by simpa using h)]
theorem Qdj {f:Nat} {z:SS} {i:Int} (h:z.code=0):Jx r t (f+1) z i=setO i (Q37 r t (Jx r t f) z i):=by
 show (if z.code≠0 then _ else _)=_
 rw[Ng (by simpa using h)];rfl
theorem Q9x {E:SS→Int→Int×SS} {z:SS} {i:Int} (h:(t.at i).kind=11):Q37 r t E z i=Q2a r t E z i (t.at i):=by unfold Q37;dsimp only;rw[Ps h]
theorem Q89 {E:SS→Int→Int×SS} {z:SS} {i:Int} (h:(t.at i).kind=5) (h':z.each=false):Q37 r t E z i=(0,z.fail 5 i):=by unfold Q37;dsimp only;rw[Ng Om,Ps ⟨h,h'⟩]
theorem Q8k {E:SS→Int→Int×SS} {z:SS} {i:Int} (h:(t.at i).kind≠11) (h':¬ ((t.at i).kind=5∧z.each=false)) :
  Q37 r t E z i=if (Q1f E (t.at i).kids z).2.code≠0 then (0,(Q1f E (t.at i).kids z).2) else Jw r t (Q1f E (t.at i).kids z).2 i (t.at i) (Q1f E (t.at i).kids z).1:=by unfold Q37;dsimp only;rw[Ng h,Ng h']
theorem Q45 {f:Nat} {s:CS} {i:Int} (h:Yt t s (t.at i).kind=false):Q8 r t (f+1) s i=s.fail 5 i:=by unfold Q8;dsimp only;rw[h];rfl
theorem Q6j {f:Nat} {s:CS} {i:Int} (h:Yt t s (t.at i).kind=true) (h11:(t.at i).kind=11):Q8 r t (f+1) s i=Q4y r t (Q8 r t f) s i (t.at i):=by
 unfold Q8;dsimp only;rw[Ps h,Ng Om,Ng Om,Ps h11]
theorem Qew {f:Nat} {s:CS} {i:Int} (h:Yt t s (t.at i).kind=true) (he:Qu (t.at i).kind=true) (h11:(t.at i).kind≠11) :
  Q8 r t (f+1) s i=if (Qb (Q8 r t f) s (t.at i).kids).code≠0 then Qb (Q8 r t f) s (t.at i).kids else (Zw r t (Qb (Q8 r t f) s (t.at i).kids) i (t.at i)).2.setKind i (Zw r t (Qb (Q8 r t f) s (t.at i).kids) i (t.at i)).1:=by
 have hk':1≤(t.at i).kind∧(t.at i).kind≤11:=by simpa[Qu,Q9] using he
 unfold Q8;dsimp only;rw[Ps h,Ng Om,Ng Om,Ng Om,Ng Om,Ng Om,Ng Om,Ng Om,Ng Om,Ps he]
theorem Qlb {E:SS→Int→Int×SS} {z:SS} {i:Int} {n:Qn} (h:z.each=false):Q2a r t E z i n=(0,z.fail 5 i):=by unfold Q2a;rw[h];rfl
theorem Qix {E:SS→Int→Int×SS} {z:SS} {i:Int} {n:Qn} {a k1:Int} {ks:List Int} (h:z.each=true) (hk:n.kids=a::k1::ks):Q2a r t E z i n =
  if (E z a).2.code≠0 then (0,(E z a).2) else if (E z a).1≠1 then (0,(E z a).2.fail 4 i) else
   if (Ys r (E z a).2 (t.at k1).text k1).2.code≠0 then (0,(Ys r (E z a).2 (t.at k1).text k1).2) else Yd r t (Ys r (E z a).2 (t.at k1).text k1).1 ks (Ys r (E z a).2 (t.at k1).text k1).2:=by
 have k0:kidAt n 0=a:=by simp[kidAt,hk]
 unfold Q2a;rw[h,k0,hk];rfl
theorem Qld {lo i:Int} {s s1:CS} {z z1:SS} {p:Int×CS} {q:Int×SS} (hi:InT t i) (hlo:lo≤i) (h1:Z8 s s1) (h2:Yk z z1) (h3:Jn lo (i-1) s s1) (hF:Qbx s1 z1 p q) (hz:z1.kindOf.length=t.nodes.length) (hks:p.2.kinds.length=t.nodes.length) :
  Qn3 lo i s z (p.2.setKind i p.1) (setO i q):=by
 obtain⟨⟨a1,a2⟩,hc⟩:=hF
 by_cases h0:p.2.code=0
 ·obtain⟨⟨B,e1⟩,e2,e3⟩:=hc h0
  rw[Qc3 (by rw[← a1];exact h0)]
  refine⟨⟨a1,a2⟩,fun _=>⟨?_,?_,?_,?_,?_⟩⟩
  ·rw[e1];exact h1.trans ((Z8.setBind' s1 B).trans (Z8.setKind _ _ _))
  ·rw[e2];exact h2.trans ⟨Sm,_,rfl⟩
  ·rw[CS.kindAt_set _ _ _ _ hi.1 hi.1 (by rw[hks];exact hi.2),Ps rfl];exact e3
  ·rw[e2]
   have:i.toNat<z1.kindOf.length:=by rw[hz];have:=hi.1;have:=hi.2;omega
   simp[Z7,this]
  ·refine (h3.wider (Int.le_refl _) Om).trans ?_
   have Qtg:=Jn.set p.2 (lo:=lo) (i:=i) (k:=i) (x:=p.1) hi.1 hlo (Int.le_refl _) (by rw[hks];exact hi.2);intro j hj hh;rw[Qtg j hj hh,e1];rfl
 ·rw[Qcz (by rw[← a1];exact h0)]
  exact⟨⟨a1,a2⟩,fun hh=>absurd hh h0⟩
theorem Qdp (hn:Qs t=true) (hK:Qk t) (hS:Z1 t) (hr:Xy r):∀(b:Nat) (f f':Nat),b≤f→b≤f'→Q8r r t b (Q8 r t f) (Jx r t f'):=by
 intro b
 induction b with
 |zero=>intro f f' _ _ lo i s z hb hsp hi;have:=hi.1;omega
 |succ b ih =>
  intro f f' hf hf' lo i s z hb hsp hi he h hl;obtain⟨f,rfl⟩:∃g,f=g+1:=⟨f-1,Om⟩;obtain⟨f',rfl⟩:∃g,f'=g+1:=⟨f' - 1,Om⟩;refine⟨?_,Qe.walk hK hS r _ _ _ h.ok hi⟩;have ih:=ih f f' Om Om;have hk':1≤(t.at i).kind∧(t.at i).kind≤11:=by simpa[Qu,Q9] using he
  have hsp':=hsp.le;have hfc:(z.fail 5 i).code≠0:=by rw[(SS.fail_code h.codeS 5 i).1];decide
  have Qpx:Qn3 lo i s z (s.fail 5 i) (setO i (0,z.fail 5 i)):=by
   rw[Q2i hfc];exact⟨Q6h h.code h.codeS 5 i,fun h0=>absurd ((CS.fail_code h.code 5 i).1.symm.trans h0) Dc⟩
  rw[Qdj h.codeS]
  by_cases h11:(t.at i).kind=11
  ·rw[Q9x h11]
   have hm:Yt t s (t.at i).kind=s.inEach:=by rw[h11];rfl
   cases hE:s.inEach with
   |false =>
    rw[Q45 (hm.trans hE),Qlb (h.each.trans hE)];exact Qpx
   |true =>
    obtain⟨a,k1,ks,Qnf,hea⟩:=Q51 hn hi h11;rw[Q6j (hm.trans hE) h11,Qix (h.each.trans hE) Qnf];have hch:=hsp.kids;rw[Qnf] at hch;obtain⟨hsa,hs1,Qru⟩:=hch;have hla:=hs1.le;have hlr:=Qru.le;have ha:InT t a:=hi.kid hK (by rw[Qnf];simp);have hk1:InT t k1:=hi.kid hK (by rw[Qnf];simp);have k0:kidAt (t.at i) 0=a:=by simp[kidAt,Qnf]
    have k1':kidAt (t.at i) 1=k1:=by simp[kidAt,Qnf]
    unfold Q4y;rw[k0,k1',Qnf];rw[show (a::k1::ks).drop 1=k1::ks from rfl];obtain⟨⟨⟨a1,a2⟩,hE1⟩,Qoj⟩:=ih lo a s z Om hsa ha hea h hl;generalize Q8 r t f s a=s1 at a1 a2 hE1 Qoj ⊢;generalize Jx r t f' z a=p at a1 a2 hE1 ⊢
    by_cases h0:s1.code=0
    ·obtain⟨b1,b2,b3,b4,b5⟩:=hE1 h0
     have hR:=h.next b1 b2 Qoj hl b5;rw[Ng (show ¬ p.2.code≠0 by rw[hR.codeS];simp)]
     by_cases hp1:p.1=1
     ·have e1:Qp s1 a 1 i=s1:=by rw[Qp,Ps (by rw[b3];exact hp1)]
      rw[e1,Ng (show ¬ p.1≠1 by simpa using hp1)];obtain⟨⟨c1,c2⟩,hC⟩:=Q4k hr hR (t.at k1).text k1;rw[List.foldl_cons]
      by_cases hc0:(Qi r s1 (t.at k1).text k1).2.code=0
      ·obtain⟨d1,d2,d3⟩:=hC hc0
       have hkl:i<s1.kinds.length:=by rw[Qoj.kinds];exact hi.2
       have hst:pickStep r t i k1 s1 k1=s1.setKind i (Qi r s1 (t.at k1).text k1).1:=by
        unfold pickStep;dsimp only;rw[Ps rfl,d1,Ps (by rw[CS.kindAt_set _ _ _ _ hi.1 hi.1 hkl,Ps rfl])]
       rw[hst,d2,Ng (show ¬ p.2.code≠0 by rw[hR.codeS];simp),← d3];have hl1:∀x∈s1.locals,x<lo:=by obtain⟨K,B,e⟩:=b1;rw[e];exact hl
       have ho2:Jn lo i s1 (s1.setKind i (Qi r s1 (t.at k1).text k1).1):=Jn.set s1 hi.1 hsp' (Int.le_refl _) hkl;have hR2:=hR.next (Z8.setKind s1 i (Qi r s1 (t.at k1).text k1).1) (Yk.refl _) (Qoj.setKind _ _) hl1 ho2
       have hno:k1∉ks:=fun hm=>by
        obtain⟨lo',q1,q2,q3⟩:=Qru.mem hm;have:=q1.le;omega
       obtain⟨⟨g1,g2⟩,hG⟩:=Qiy hr i k1 (Qi r s1 (t.at k1).text k1).1 hi ks _ _ hR2 hno (by rw[CS.kindAt_set _ _ _ _ hi.1 hi.1 hkl,Ps rfl]);generalize hs3:ks.foldl (pickStep r t i k1) (s1.setKind i (Qi r s1 (t.at k1).text k1).1)=s3 at g1 g2 hG ⊢;generalize Yd r t (Qi r s1 (t.at k1).text k1).1 ks p.2=q at g1 g2 hG ⊢
       by_cases h3:s3.code=0
       ·obtain⟨e3,e4⟩:=hG h3
        rw[Qc3 (by rw[← g1];exact h3)]
        refine⟨⟨g1,g2⟩,fun _=>?_⟩
        rw[e3,e4];refine⟨b1.trans (Z8.setKind _ _ _),b2.trans ⟨Sm,_,rfl⟩,?_,?_,?_⟩
        ·rw[CS.kindAt_set _ _ _ _ hi.1 hi.1 hkl,Ps rfl]
        ·have:i.toNat<p.2.kindOf.length:=by rw[hR.kindOf];have:=hi.1;have:=hi.2;omega
         simp[Z7,this]
        ·exact (b5.wider (Int.le_refl _) Om).trans ho2
       ·rw[Qcz (by rw[← g1];exact h3)]
        exact⟨⟨g1,g2⟩,fun hh=>absurd hh h3⟩
      ·have hst:(Qi r s1 (t.at k1).text k1).2.Same (pickStep r t i k1 s1 k1):=by
        unfold pickStep;dsimp only;rw[Ps rfl];split
        ·exact⟨rfl,rfl⟩
        ·exact CS.Same.trans (s':=((Qi r s1 (t.at k1).text k1).2.setKind i (Qi r s1 (t.at k1).text k1).1)) ⟨rfl,rfl⟩ (CS.fail_same (s:=((Qi r s1 (t.at k1).text k1).2.setKind i (Qi r s1 (t.at k1).text k1).1)) hc0 _ _)
       have:=hst.trans (Q2x (r:=r) (t:=t) (i:=i) (k1:=k1) ks (hst.ne hc0));rw[Ps (show (Ys r p.2 (t.at k1).text k1).2.code≠0 by rw[← c1];exact hc0),Q2i (show (Ys r p.2 (t.at k1).text k1).2.code≠0 by rw[← c1];exact hc0)];exact⟨⟨this.1.trans c1,this.2.trans c2⟩,fun hh=>absurd (this.1.symm.trans hh) hc0⟩
     ·have e1:Qp s1 a 1 i=s1.fail 4 i:=by rw[Qp,Ng (by rw[b3];exact hp1)]
      rw[e1,Ps hp1];obtain⟨f1,f2⟩:=CS.fail_code hR.code 4 i;obtain⟨g1,g2⟩:=SS.fail_code hR.codeS 4 i;have:=Q2x (r:=r) (t:=t) (i:=i) (k1:=k1) (k1::ks) (s:=s1.fail 4 i) (by rw[f1];decide);rw[Q2i (show (p.2.fail 4 i).code≠0 by rw[g1];decide)];exact⟨⟨(this.1.trans f1).trans g1.symm,(this.2.trans f2).trans g2.symm⟩,fun hh=>absurd ((this.1.trans f1).symm.trans hh) Dc⟩
    ·have hk:=X6 h0 a 1 i
     have:=hk.trans (Q2x (r:=r) (t:=t) (i:=i) (k1:=k1) (k1::ks) (hk.ne h0));have hp0:p.2.code≠0:=by rw[← a1];exact h0
     rw[Ps hp0,Q2i hp0];exact⟨⟨this.1.trans a1,this.2.trans a2⟩,fun hh=>absurd (this.1.symm.trans hh) h0⟩
  ·obtain⟨hek,Qnm⟩:=Qa0 hn hi he h11
   by_cases h5:(t.at i).kind=5∧z.each=false
   ·have hm:Yt t s (t.at i).kind=false:=by rw[h5.1];have:=h5.2;rw[h.each] at this;exact this
    rw[Q45 hm,Q89 h5.1 h5.2];exact Qpx
   ·have hm:Yt t s (t.at i).kind=true:=by
     unfold Yt
     by_cases e5:(t.at i).kind=5
     ·rw[Ps (.inl e5)]
      rw[h.each] at h5;cases hE:s.inEach with
      |true=>rfl
      |false=>exact absurd ⟨e5,hE⟩ h5
     ·rw[Ng Om,Ng Om];simp;omega
    rw[Qew hm he h11,Q8k h11 h5];obtain⟨⟨⟨a1,a2⟩,hKR⟩,Qoj⟩:=Qkb ih (t.at i).kids lo i s z Om hsp.kids (fun k hk=>⟨hi.kid hK hk,hek k hk⟩) h hl;generalize Qb (Q8 r t f) s (t.at i).kids=s1 at a1 a2 hKR Qoj ⊢;generalize Q1f (Jx r t f') (t.at i).kids z=p at a1 a2 hKR ⊢
    by_cases h0:s1.code=0
    ·obtain⟨b1,b2,b3,b4⟩:=hKR h0
     have hR:=h.next b1 b2 Qoj hl b4;rw[Ng (show ¬ s1.code≠0 by simpa using h0),Ng (show ¬ p.2.code≠0 by rw[hR.codeS];simp),← b3];exact Qld hi hsp' b1 b2 b4 (Qiz hr hR i (t.at i) he h11 Qnm) hR.kindOf (Qoj.expr r i (t.at i)).kinds
    ·have hp0:p.2.code≠0:=by rw[← a1];exact h0
     rw[Ps h0,Ps hp0,Q2i hp0];exact⟨⟨a1,a2⟩,fun hh=>absurd hh h0⟩
end
def Q28 (t:Q1) (lo i:Int) (z:SS):Prop:=z.fn=true→∀j,lo≤j→j≤i→j=z.last→(t.at j).kind≠26
def Q2g (s s':CS):Prop:=∃K B L,s'={s with kinds:=K,bind:=B,locals:=L}
def Q3e (z z':SS):Prop:=∃N Q O,z'={z with names:=N,kinds:=Q,kindOf:=O}
def Q0b (r:Reg) (t:Q1) (lo i:Int) (s:CS) (z:SS) (s':CS) (z':SS):Prop :=
 Q2r s' z'∧(s'.code=0→Rel r t s' z'∧Jn lo i s s'∧Q2g s s'∧Q3e z z'∧∃more,s'.locals=s.locals++more∧∀k∈more,lo≤k∧k≤i)
def Qc4 (lo i:Int) (s:CS) (z:SS) (s':CS) (z':SS):Prop:=Q2r s' z'∧(s'.code=0→Z8 s s'∧Yk z z'∧Jn lo i s s')
def Q43 (r:Reg) (t:Q1) (b:Int) (W:CS→Int→CS) (V:SS→Int→SS):Prop :=
 ∀lo i s z,i<b→Q1b t lo i→InT t i→Zs (t.at i).kind=true→Rel r t s z→(∀x∈s.locals,x<lo)→Q28 t lo i z→Q0b r t lo i s z (W s i) (V z i)∧Qe t (W s i)
theorem Z8.l {s s':CS} (h:Z8 s s'):Q2g s s':=by obtain⟨K,B,e⟩:=h;exact⟨K,B,s.locals,e⟩
theorem Yk.n {z z':SS} (h:Yk z z'):Q3e z z':=by obtain⟨_,O,e⟩:=h;exact⟨z.names,z.kinds,O,e⟩
theorem Q2g.trans {s s' s'':CS} (h:Q2g s s') (k:Q2g s' s''):Q2g s s'':=by
 exact K0c
theorem Q3e.trans {z z' z'':SS} (h:Q3e z z') (k:Q3e z' z''):Q3e z z'':=by
 exact K0c
theorem Q28.sub {t:Q1} {lo i lo' i':Int} {z z':SS} (h:Q28 t lo i z) (h1:lo≤lo') (h2:i'≤i) (hf:z'.fn=z.fn) (hl:z'.last=z.last):Q28 t lo' i' z' :=
 fun hfn j h3 h4 h5=>h (hf▸hfn) j Om Om (by rw[h5,hl])
section
variable {r:Reg} {t:Q1}
theorem Q0b.ofE {lo i:Int} {s s1:CS} {z z1:SS} (hR:Rel r t s1 z1) (h1:Z8 s s1) (h2:Yk z z1) (h3:Jn lo i s s1):Q0b r t lo i s z s1 z1 :=
 ⟨hR.agree,fun _=>⟨hR,h3,h1.l,h2.n,[],by obtain⟨K,B,e⟩:=h1;rw[e];simp,Sm⟩⟩
theorem Q0b.trans {lo m i:Int} {s s1 s2:CS} {z z1 z2:SS} (hm:m<i+1) (hlo:lo≤m+1) (h:Q0b r t lo m s z s1 z1) (h0:s1.code=0) (k:Q0b r t (m+1) i s1 z1 s2 z2):Q0b r t lo i s z s2 z2:=by
 obtain⟨a,ha⟩:=h;obtain⟨b,hb⟩:=k;obtain⟨a1,a2,a3,a4,m1,a5,a6⟩:=ha h0
 refine⟨b,fun hc=>?_⟩
 obtain⟨b1,b2,b3,b4,m2,b5,b6⟩:=hb hc
 refine⟨b1,(a2.wider (Int.le_refl _) Om).trans (b2.wider Om (Int.le_refl _)),a3.trans b3,a4.trans b4,m1++m2,by rw[b5,a5,List.append_assoc],fun x hx=>?_⟩
 rcases List.mem_append.1 hx with hx|hx
 ·have:=a6 x hx;omega
 ·have:=b6 x hx;omega
theorem Q0b.bad {lo i:Int} {s s1:CS} {z z1:SS} (h:s1.code=0) (h':z1.code=0) {c:Int} (hc:c≠0) (n:Int):Q0b r t lo i s z (s1.fail c n) (z1.fail c n) :=
 ⟨Q6h h h' c n,fun h0=>absurd ((CS.fail_code h c n).1.symm.trans h0) hc⟩
theorem Q7l {b:Int} {W:CS→Int→CS} {V:SS→Int→SS} (hG:Q43 r t b W V):∀(l:List Int) (lo e:Int) (s:CS) (z:SS),e≤b→Zu t lo l e→(∀k∈l,InT t k∧Zs (t.at k).kind=true) →
  Rel r t s z→(∀x∈s.locals,x<lo)→Q28 t lo (e-1) z→Q0b r t lo (e-1) s z (Qb W s l) (Zm V l z)∧Qe t (Qb W s l):=by
 intro l
 induction l with
 |nil =>
  intro lo e s z _ hch _ h _ _;exact⟨Q0b.ofE h (Z8.refl _) (Yk.refl _) (Jn.refl _ _ _),h.ok⟩
 |cons k ks ih =>
  intro lo e s z hb hch hin h hl hno;obtain⟨hsp,hch⟩:=hch;have hle:=hch.le;have hlk:=hsp.le;obtain⟨hS,hok⟩:=hG lo k s z Om hsp (hin k Sm).1 (hin k Sm).2 h hl (hno.sub (Int.le_refl _) Om rfl rfl)
  have e1:Qb W s (k::ks)=Qb W (W s k) ks:=by
   show List.foldl _ _ _=_
   rw[List.foldl_cons,Ps h.code];rfl
  have e2:Zm V (k::ks) z=Zm V ks (V z k):=by
   show List.foldl _ _ _=_
   rw[List.foldl_cons,Ps h.codeS];rfl
  rw[e1,e2]
  by_cases hc:(W s k).code=0
  ·obtain⟨c1,c2,c3,c4,more,c5,c6⟩:=hS.2 hc
   have hl2:∀x∈(W s k).locals,x<k+1:=by
    rw[c5];intro x hx;rcases List.mem_append.1 hx with hx|hx
    ·have:=hl x hx;omega
    ·have:=c6 x hx;omega
   have Qrv:Q28 t (k+1) (e-1) (V z k):=by
    obtain⟨N,Q,O,e3⟩:=c4;exact hno.sub Om (Int.le_refl _) (by rw[e3]) (by rw[e3])
   obtain⟨hS2,Qou⟩:=ih (k+1) e (W s k) (V z k) hb hch (fun x hx=>hin x (by simp[hx])) c1 hl2 Qrv;exact⟨Q0b.trans Om Om hS hc hS2,Qou⟩
  ·have hc':(V z k).code≠0:=by rw[← hS.1.1];exact hc
   have e3:∀l:List Int,Zm V l (V z k)=V z k:=by
    intro l
    induction l with
    |nil=>rfl
    |cons y ys ih2=>unfold Zm at ih2 ⊢;rw[List.foldl_cons,Ng hc'];exact ih2
   rw[Zg hc,e3];exact⟨⟨hS.1,fun h0=>absurd h0 hc⟩,hok⟩
theorem Q2n {lo i a k node:Int} {s s1:CS} {z z1:SS} {p:Int×CS} {q:Int×SS} (hR:Rel r t s1 z1) (hL:Qbx s1 z1 p q) (hka:s1.kindAt a=k) (h1:Z8 s s1) (h2:Yk z z1) (h3:Jn lo i s s1) (Qx7:Qe t p.2) (hl:∀x∈s.locals,x<lo) :
  Q0b r t lo i s z (Qp p.2 a p.1 node) (if q.2.code≠0 then q.2 else if q.1≠k then q.2.fail 4 node else q.2):=by
 obtain⟨⟨a1,a2⟩,hc⟩:=hL
 by_cases h0:p.2.code=0
 ·obtain⟨⟨B,e1⟩,e2,e3⟩:=hc h0
  have hkp:p.2.kindAt a=k:=by rw[e1];exact hka
  rw[Ng (by rw[← a1];simpa using h0)]
  by_cases hk:q.1=k
  ·rw[Ng (by simpa using hk),Qp,Ps (by rw[hkp,e3,hk])]
   have hl1:∀x∈s1.locals,x<lo:=by obtain⟨K,B,e⟩:=h1;rw[e];exact hl
   have ho:Jn lo i s1 p.2:=by intro j _ _;rw[e1];rfl
   have hk1:Z8 s1 p.2:=by rw[e1];exact Z8.setBind' _ _
   have hR2:Rel r t p.2 q.2:=hR.next hk1 (e2▸Yk.refl _) Qx7 hl1 ho;exact Q0b.ofE hR2 (h1.trans hk1) (e2▸h2) (h3.trans ho)
  ·rw[Ps hk,Qp,Ng (by rw[hkp,e3];exact fun e=>hk e.symm)]
   exact Q0b.bad h0 (a1▸h0) Dc _
 ·rw[Ps (by rw[← a1];exact h0)]
  have:=X6 h0 a p.1 node;exact⟨⟨this.1.trans a1,this.2.trans a2⟩,fun hh=>absurd (this.1.symm.trans hh) h0⟩
theorem Q7t {E:SS→Int→Int×SS} {z:SS} {i:Int} {n:Qn} {sort:Int} (h0:(E z (kidAt n 0)).2.code=0) (h14:n.kind≠14) :
  Xo r t E z i n sort=(if (if J2 r sort n.text=0 then ((0:Int),(E z (kidAt n 0)).2.fail 3 i) else (J2 r sort n.text,(E z (kidAt n 0)).2)).2.code≠0 then (if J2 r sort n.text=0 then ((0:Int),(E z (kidAt n 0)).2.fail 3 i) else (J2 r sort n.text,(E z (kidAt n 0)).2)).2
   else if (if J2 r sort n.text=0 then ((0:Int),(E z (kidAt n 0)).2.fail 3 i) else (J2 r sort n.text,(E z (kidAt n 0)).2)).1≠(E z (kidAt n 0)).1 then (if J2 r sort n.text=0 then ((0:Int),(E z (kidAt n 0)).2.fail 3 i) else (J2 r sort n.text,(E z (kidAt n 0)).2)).2.fail 4 i
   else (if J2 r sort n.text=0 then ((0:Int),(E z (kidAt n 0)).2.fail 3 i) else (J2 r sort n.text,(E z (kidAt n 0)).2)).2):=by
 unfold Xo
 by_cases hd:J2 r sort n.text=0
 ·simp[hd,h0,SS.fail]
 ·simp[hd,h0,h14]
theorem Qe8 {E:SS→Int→Int×SS} {z:SS} {i:Int} {n:Qn} (h0:(E z (kidAt n 0)).2.code=0) (h14:n.kind=14) :
  Xo r t E z i n 1=(if (Ys r (E z (kidAt n 0)).2 n.text i).2.code≠0 then (Ys r (E z (kidAt n 0)).2 n.text i).2
   else if (Ys r (E z (kidAt n 0)).2 n.text i).1≠(E z (kidAt n 0)).1 then (Ys r (E z (kidAt n 0)).2 n.text i).2.fail 4 i else (Ys r (E z (kidAt n 0)).2 n.text i).2):=by
 unfold Xo Ys
 by_cases hd:J2 r 1 n.text=0
 ·simp[hd,h0,SS.fail]
 ·cases hb:Zr n.text (E z (kidAt n 0)).2.withs<;>simp[hd,h0,h14,hb,SS.fail]
end
section
variable {r:Reg} {t:Q1}
theorem Qmb {lo i a k:Int} {s s1:CS} {z z1:SS} (hi:InT t i) (hlo:lo≤i) (hR:Rel r t s1 z1) (hka:s1.kindAt a=k) (h1:Z8 s s1) (h2:Yk z z1) (h3:Jn lo i s s1) (hl:∀x∈s.locals,x<lo) :
  Q0b r t lo i s z (if 0≤Q3 t s1.locals (t.at i).text then s1.fail 2 i else (s1.setKind i (s1.kindAt a)).addLocal i)
   (if 0≤J3 (t.at i).text z1.names then z1.fail 2 i else {z1 with names:=z1.names++[(t.at i).text],kinds:=z1.kinds++[k]}):=by
 obtain⟨l1,_⟩:=Q5l hR (t.at i).text
 by_cases hn:0≤Q3 t s1.locals (t.at i).text
 ·rw[Ps hn,Ps (by rcases Int.lt_or_le (J3 (t.at i).text z1.names) 0 with h|h<;>first|exact h|(have:=l1.1 h;omega))]
  exact Q0b.bad hR.code hR.codeS Dc _
 ·rw[Ng hn,Ng (fun h=>by have:=l1.2 Om;omega)]
  have hkl:i<s1.kinds.length:=by rw[hR.ok.kinds];exact hi.2
  have hl1:∀x∈s1.locals,x<lo:=by obtain⟨K,B,e⟩:=h1;rw[e];exact hl
  have ho:=Jn.set s1 (lo:=lo) (i:=i) (k:=i) (x:=s1.kindAt a) hi.1 hlo (Int.le_refl _) hkl;have hok:Qe t ((s1.setKind i (s1.kindAt a)).addLocal i):=(hR.ok.setKind _ _).addLocal i hi (fun _=>by show Q3 t s1.locals _<0;omega)
  refine⟨⟨hR.agree.1,hR.agree.2⟩,fun hc=>⟨?_,h3.trans ho,?_,?_,[i],?_,?_⟩⟩
  ·refine⟨?_,?_,hR.each,hR.inner,hR.fn,hR.topk,hR.tops,hR.topsND,hR.withs,hR.none,hR.kindOf,hok,hR.code,hR.codeS,hR.node⟩
   ·show z1.names++_=Qd t (s1.locals++[i])
    rw[hR.names];simp[Qd]
   ·show z1.kinds++[k]=(s1.locals++[i]).map _
    rw[List.map_append,hR.kinds];congr 1
    ·apply List.map_congr_left
     intro x hx;exact (ho x (hR.ok.locals x hx).1 (.inl (hl1 x hx))).symm
    ·have:((s1.setKind i (s1.kindAt a)).addLocal i).kindAt i=s1.kindAt a:=by
      have:=CS.kindAt_set s1 i (s1.kindAt a) i hi.1 hi.1 hkl;rw[Ps rfl] at this;exact this
     rw[List.map_cons,List.map_nil,this,hka]
  ·obtain⟨K,B,e⟩:=h1;subst e;exact⟨_,_,_,rfl⟩
  ·obtain⟨_,O,e⟩:=h2;subst e;exact⟨_,_,_,rfl⟩
  ·obtain⟨K,B,e⟩:=h1;subst e;rfl
  ·intro x hx;simp at hx;subst hx;exact⟨hlo,Int.le_refl _⟩
theorem Qif {lo i a k:Int} {s s1:CS} {z z1:SS} (hR:Rel r t s1 z1) (hka:s1.kindAt a=k) (h1:Z8 s s1) (h2:Yk z z1) (h3:Jn lo i s s1) (hl:∀x∈s.locals,x<lo) (name:ByteArray) :
  Q0b r t lo i s z (if Q3 t s1.locals name<0 then s1.fail 3 i else Qp (s1.setBind i (Q3 t s1.locals name)) a (s1.kindAt (Q3 t s1.locals name)) i)
   (if J3 name z1.names<0 then z1.fail 3 i else if Z7 z1.kinds (J3 name z1.names).toNat≠k then z1.fail 4 i else z1):=by
 obtain⟨l1,l2⟩:=Q5l hR name
 by_cases hn:Q3 t s1.locals name<0
 ·rw[Ps hn,Ps (l1.2 hn)];exact Q0b.bad hR.code hR.codeS Dc _
 ·rw[Ng hn,Ng (fun e=>hn (l1.1 e))]
  have hF:Qbx s1 z1 (s1.kindAt (Q3 t s1.locals name),s1.setBind i (Q3 t s1.locals name)) (Z7 z1.kinds (J3 name z1.names).toNat,z1) :=
   ⟨hR.agree,fun _=>⟨⟨_,rfl⟩,rfl,(l2 Om).symm⟩⟩
  have:=Q2n (node:=i) hR hF hka h1 h2 h3 (hR.ok.setBind _ _) hl;rw[Ng (by show ¬ z1.code≠0;rw[hR.codeS];simp)] at this;exact this
theorem Q4z {W:CS→Int→CS} {s:CS} (hc:s.code≠0) (l:List Int) (names:List ByteArray):Xe r t W l names s=s:=by
 cases l with
 |nil=>rfl
 |cons k ks =>
  simp only[Xe];rw[Zg hc,Ps hc]
theorem Qha {b:Int} {W:CS→Int→CS} {E:SS→Int→Int×SS} (hn:Qs t=true) (hK:Qk t) (hr:Xy r) (hE:Q8r r t b W E):∀(l:List Int) (names:List ByteArray) (lo e:Int) (s:CS) (z:SS),e≤b→Zu t lo l e →
  (∀k∈l,InT t k∧(t.at k).kind=28)→Rel r t s z→(∀x∈s.locals,x<lo)→Qc4 lo (e-1) s z (Xe r t W l names s) (Q1j r t E l names z):=by
 intro l
 induction l with
 |nil=>intro names lo e s z _ _ _ h _;exact⟨h.agree,fun _=>⟨Z8.refl _,Yk.refl _,Jn.refl _ _ _⟩⟩
 |cons k ks ih =>
  intro names lo e s z hb hch hin h hl;obtain⟨hsp,hch⟩:=hch;have hle:=hch.le;have hlk:=hsp.le;obtain⟨hk,h28⟩:=hin k Sm;have hs:=Q13 hn hk Om;unfold Jf at hs;rw[h28,Ng Dc,Ps rfl] at hs;obtain⟨a,Qnf,hea⟩:=Xc hs;have hck:=hsp.kids;rw[Qnf] at hck;have ha:InT t a:=hk.kid hK (by rw[Qnf];simp);have hak:a+1=k:=hck.2;obtain⟨⟨⟨a1,a2⟩,hE1⟩,Qoj⟩:=hE lo a s z Om hck.1 ha hea h hl;have k0:kidAt (t.at k) 0=a:=by simp[kidAt,Qnf]
  have e1:Qb W s (t.at k).kids=W s a:=by
   rw[Qnf];show List.foldl _ _ _=_;rw[List.foldl_cons,Ps h.code];rfl
  simp only[Xe,Q1j];rw[e1,k0];generalize W s a=s1 at a1 a2 hE1 Qoj ⊢;generalize E z a=p at a1 a2 hE1 ⊢
  by_cases h0:s1.code=0
  ·obtain⟨b1,b2,b3,b4,b5⟩:=hE1 h0
   have hR:=h.next b1 b2 Qoj hl b5;rw[Ng (show ¬ s1.code≠0 by simpa using h0),Ng (show ¬ p.2.code≠0 by rw[hR.codeS];simp)];obtain⟨⟨c1,c2⟩,hC⟩:=Q1k hr hR 1 (t.at k).text k;generalize J4 r s1 1 (t.at k).text k=q at c1 c2 hC ⊢
   by_cases hd:J2 r 1 (t.at k).text=0
   ·rw[Ps hd] at c1 c2 hC ⊢
    have Qpx:q.2.code≠0:=by rw[c1];show (p.2.fail 3 k).code≠0;rw[(SS.fail_code hR.codeS 3 k).1];decide
    have h1:q.2.Same (if Zr (t.at k).text names then q.2.fail 2 k else q.2):=by
     split
     ·exact CS.fail_same Qpx _ _
     ·exact CS.Same.rfl _
    have hs2:=h1.trans (X6 (h1.ne Qpx) a q.1 k);rw[Q4z (hs2.ne Qpx)];exact⟨⟨hs2.1.trans c1,hs2.2.trans c2⟩,fun hh=>absurd (hs2.1.symm.trans hh) Qpx⟩
   ·rw[Ng hd] at c1 c2 hC ⊢
    have hq0:q.2.code=0:=c1.trans hR.codeS;obtain⟨e2,_,e3⟩:=hC hq0;rw[e2,e3];cases hh:Zr (t.at k).text names with
    |true =>
     rw[Ps rfl,Ps rfl];obtain⟨f1,f2⟩:=CS.fail_code hR.code 2 k;obtain⟨g1,g2⟩:=SS.fail_code hR.codeS 2 k;have hs2:=X6 (s:=s1.fail 2 k) (by rw[f1];decide) a (J2 r 1 (t.at k).text) k;rw[Q4z (hs2.ne (by rw[f1];decide))];exact⟨⟨(hs2.1.trans f1).trans g1.symm,(hs2.2.trans f2).trans g2.symm⟩,fun h9=>absurd ((hs2.1.trans f1).symm.trans h9) Dc⟩
    |false =>
     rw[Ng Sm,Ng Sm]
     by_cases hke:J2 r 1 (t.at k).text=p.1
     ·rw[Ng (by simpa using hke),Qp,Ps (by rw[b3,hke])]
      have hl1:∀x∈s1.locals,x<k+1:=by
       obtain⟨K,B,e⟩:=b1;rw[e];intro x hx;have:=hl x hx;omega
      obtain⟨d1,d2⟩:=ih (names++[(t.at k).text]) (k+1) e s1 p.2 hb hch (fun x hx=>hin x (by simp[hx])) hR hl1
      refine⟨d1,fun hc=>?_⟩
      obtain⟨x1,x2,x3⟩:=d2 hc;exact⟨b1.trans x1,b2.trans x2,(b5.wider (Int.le_refl _) Om).trans (x3.wider Om (Int.le_refl _))⟩
     ·rw[Ps hke,Qp,Ng (by rw[b3];exact fun e=>hke e.symm)]
      obtain⟨f1,f2⟩:=CS.fail_code hR.code 4 k;obtain⟨g1,g2⟩:=SS.fail_code hR.codeS 4 k;rw[Q4z (by rw[f1];decide)];exact⟨⟨f1.trans g1.symm,f2.trans g2.symm⟩,fun h9=>absurd (f1.symm.trans h9) Dc⟩
  ·rw[Ps h0,Ps (show p.2.code≠0 by rw[← a1];exact h0)]
   exact⟨⟨a1,a2⟩,fun hh=>absurd hh h0⟩
theorem Qb8 (hr:Xy r):∀(l:List Int) (texts:List ByteArray) (s:CS) (z:SS),s.code=0→z.code=0→s.node=z.node→(∀x∈texts,0≤r.find 1 x) →
  Q2r (eachL r t l (s,texts.map (r.find 1))).1 (eachGo r t l texts z).2∧((eachL r t l (s,texts.map (r.find 1))).1.code=0 →
   eachL r t l (s,texts.map (r.find 1))=(s,(texts++Qd t l).map (r.find 1))∧eachGo r t l texts z=(texts++Qd t l,z)∧∀x∈texts++Qd t l,0≤r.find 1 x):=by
 intro l
 induction l with
 |nil =>
  intro texts s z h h' hn hx
  refine⟨⟨h.trans h'.symm,hn⟩,fun _=>?_⟩
  have:Qd t []=[]:=rfl;rw[this,List.append_nil];exact⟨rfl,rfl,hx⟩
 |cons k ks ih =>
  intro texts s z h h' hn hx;obtain⟨d1,_⟩:=Qa3 hr 1 (t.at k).text;simp only[eachL,eachGo]
  by_cases hk:r.find 1 (t.at k).text<0
  ·rw[Ps hk,Ps (d1.2 hk)]
   obtain⟨f1,f2⟩:=CS.fail_code h 3 k;obtain⟨g1,g2⟩:=SS.fail_code h' 3 k;have hs:=Q68 (r:=r) (t:=t) ks (s:=s.fail 3 k) (all:=texts.map (r.find 1)++[r.find 1 (t.at k).text]) (by rw[f1];decide);exact⟨⟨(hs.1.trans f1).trans g1.symm,(hs.2.trans f2).trans g2.symm⟩,fun h9=>absurd ((hs.1.trans f1).symm.trans h9) Dc⟩
  ·rw[Ng hk,Ng (fun e=>hk (d1.1 e))]
   have Qx8:Zr (r.find 1 (t.at k).text) (texts.map (r.find 1))=Zr (t.at k).text texts:=by
    apply Bool.eq_iff_iff.2;rw[Xu,Xu];constructor
    ·intro hm
     obtain⟨x,h1,h2⟩:=List.mem_map.1 hm;rw[← Qe3 (hx x h1) h2];exact h1
    ·exact fun hm=>List.mem_map_of_mem hm
   rw[Qx8];cases hb:Zr (t.at k).text texts with
   |true =>
    rw[Ps rfl,Ps rfl];obtain⟨f1,f2⟩:=CS.fail_code h 2 k;obtain⟨g1,g2⟩:=SS.fail_code h' 2 k;have hs:=Q68 (r:=r) (t:=t) ks (s:=s.fail 2 k) (all:=texts.map (r.find 1)++[r.find 1 (t.at k).text]) (by rw[f1];decide);exact⟨⟨(hs.1.trans f1).trans g1.symm,(hs.2.trans f2).trans g2.symm⟩,fun h9=>absurd ((hs.1.trans f1).symm.trans h9) Dc⟩
   |false =>
    rw[Ng Sm,Ng Sm]
    have:=ih (texts++[(t.at k).text]) s z h h' hn (by
     intro x hm;rcases List.mem_append.1 hm with hm|hm
     ·exact hx x hm
     ·simp at hm;subst hm;omega)
    rw[List.map_append] at this;have e:texts++[(t.at k).text]++Qd t ks=texts++Qd t (k::ks):=by simp[Qd]
    rw[e] at this;exact this
theorem Qae {l1 l2:List Int} {texts:List ByteArray} {z:SS} (h':z.code=0):eachGo r t (l1++l2) texts z=(if (eachGo r t l1 texts z).2.code≠0 then eachGo r t l1 texts z else eachGo r t l2 (eachGo r t l1 texts z).1 (eachGo r t l1 texts z).2):=by
 induction l1 generalizing texts with
 |nil=>simp[eachGo,h']
 |cons k ks ih =>
  rw[List.cons_append]
  by_cases hd:J2 r 1 (t.at k).text=0
  ·have e:∀l,eachGo r t (k::l) texts z=(texts,z.fail 3 k):=fun l=>by simp[eachGo,hd]
   rw[e,e,Ps (show (z.fail 3 k).code≠0 by rw[(SS.fail_code h' 3 k).1];decide)]
  ·cases hb:Zr (t.at k).text texts with
   |true =>
    have e:∀l,eachGo r t (k::l) texts z=(texts,z.fail 2 k):=fun l=>by simp[eachGo,hd,hb]
    rw[e,e,Ps (show (z.fail 2 k).code≠0 by rw[(SS.fail_code h' 2 k).1];decide)]
   |false =>
    have e:∀l,eachGo r t (k::l) texts z=eachGo r t l (texts++[(t.at k).text]) z:=fun l=>by simp[eachGo,hd,hb]
    rw[e,e];exact ih
end
section
variable {r:Reg} {t:Q1}
theorem Q43.sub {b b':Int} {W:CS→Int→CS} {V:SS→Int→SS} (h:Q43 r t b W V) (hb:b'≤b):Q43 r t b' W V:=fun lo i s z hi=>h lo i s z Om
theorem Q0b.ofB {lo i:Int} {s s':CS} {z z':SS} (h:Rel r t s z) (hl:∀x∈s.locals,x<lo) (hB:Qc4 lo i s z s' z') (hok:Qe t s'):Q0b r t lo i s z s' z':=by
 refine⟨hB.1,fun hc=>?_⟩
 obtain⟨b1,b2,b3⟩:=hB.2 hc;exact (Q0b.ofE (h.next b1 b2 hok hl b3) b1 b2 b3).2 hc
theorem Qdn {lo i:Int} {s:CS} {z:SS} (h:Rel r t s z) (hst:Zs (t.at i).kind=true) (hlo:lo≤i) (hno:Q28 t lo i z):Yt t s (t.at i).kind=Zx t z i:=by
 have hk:12≤(t.at i).kind∧(t.at i).kind≤26:=by simpa[Zs,Q9] using hst
 unfold Yt Zx;dsimp only
 by_cases h18:(t.at i).kind=18∨(t.at i).kind=20
 ·rw[Ng Om,Ps h18,Ps h18,h.fn,h.inner]
  rcases h.topk with e|e<;>rw[e]<;>cases s.inEach<;>cases s.inHear<;>rfl
 rw[Ng (c:=(t.at i).kind=18∨(t.at i).kind=20) h18,Ng (c:=(t.at i).kind=18∨(t.at i).kind=20) h18]
 by_cases h14:(t.at i).kind=14∨(t.at i).kind=22∨(t.at i).kind=23∨(t.at i).kind=24
 ·rw[Ps Om,Ps h14,h.each]
 rw[Ng Om,Ng h14]
 by_cases h26:(t.at i).kind=26
 ·rw[Ps h26,h26]
  cases hf:z.fn with
  |false=>rfl
  |true =>
   have:=hno hf i hlo (Int.le_refl _);have:¬ i=z.last:=fun e=>this e h26
   simp[this]
 ·rw[Ng h26];simpa using h26
theorem Q5k {b j lo:Int} {f f':Nat} (hG:Q43 r t b (Q8 r t f) (Qq r t f')) (hjb:j≤b) (hn:Qs t=true) (hK:Qk t) {s:CS} {z:SS} (hsp:Q1b t lo j) (hj:InT t j) (h27:(t.at j).kind=27) (h:Rel r t s z)
  (hl:∀x∈s.locals,x<lo) (hno:Q28 t lo j z):Qc4 lo j s z (Q8 r t (f+1) s j) (Jg t (Qq r t f') z j [] []):=by
 have hw:Q8 r t (f+1) s j={Qb (Q8 r t f) s (t.at j).kids with locals:=(Qb (Q8 r t f) s (t.at j).kids).locals.take s.locals.length}:=by
  unfold Q8;dsimp only;rw[Ps (by rw[h27];rfl),h27];rfl
 have hb:Jg t (Qq r t f') z j [] []={Zm (Qq r t f') (t.at j).kids z with names:=z.names,kinds:=z.kinds}:=by
  unfold Jg;rw[Ng (by rw[h.codeS];simp),List.append_nil,List.append_nil]
 rw[hw,hb];have hs:=Q13 hn hj Om;unfold Jf at hs;rw[h27,Ps rfl] at hs;obtain⟨⟨⟨a1,a2⟩,hS⟩,hok⟩:=Q7l hG (t.at j).kids lo j s z hjb hsp.kids (fun k hk=>⟨hj.kid hK hk,Ym hs hk⟩) h hl (hno.sub (Int.le_refl _) Om rfl rfl);generalize Qb (Q8 r t f) s (t.at j).kids=s1 at a1 a2 hS hok ⊢;generalize Zm (Qq r t f') (t.at j).kids z=z1 at a1 a2 hS ⊢
 refine⟨⟨a1,a2⟩,fun hc=>?_⟩
 obtain⟨c1,c2,c3,c4,more,c5,c6⟩:=hS hc;have Qnm:=c1.kindOf;obtain⟨K,B,L,rfl⟩:=c3;obtain⟨N,Q,O,rfl⟩:=c4;refine⟨⟨K,B,?_⟩,⟨?_,O,rfl⟩,c2.wider (Int.le_refl _) Om⟩
 ·have:L=s.locals++more:=c5
  subst this;simp
 ·show O.length=_
  rw[h.kindOf];exact Qnm
theorem Qfm {b:Int} {f f':Nat} (hG:Q43 r t b (Q8 r t f) (Qq r t f')) (hn:Qs t=true) (hK:Qk t) (hS:Z1 t):∀(l:List Int) (lo e:Int) (s:CS) (z:SS),e≤b+1→Zu t lo l e→(∀k∈l,InT t k∧(t.at k).kind=27) →
  Rel r t s z→(∀x∈s.locals,x<lo)→Q28 t lo (e-1) z→Qc4 lo (e-1) s z (Qb (Q8 r t (f+1)) s l) (Xx t (Qq r t f') l z):=by
 intro l
 induction l with
 |nil=>intro lo e s z _ _ _ h _ _;exact⟨h.agree,fun _=>⟨Z8.refl _,Yk.refl _,Jn.refl _ _ _⟩⟩
 |cons k ks ih =>
  intro lo e s z hb hch hin h hl hno;obtain⟨hsp,hch⟩:=hch;have hle:=hch.le;have hlk:=hsp.le;obtain⟨⟨a1,a2⟩,hB⟩:=Q5k hG Om hn hK hsp (hin k Sm).1 (hin k Sm).2 h hl (hno.sub (Int.le_refl _) Om rfl rfl);have hok:=Qe.walk hK hS r (f+1) s k h.ok (hin k Sm).1
  have e1:Qb (Q8 r t (f+1)) s (k::ks)=Qb (Q8 r t (f+1)) (Q8 r t (f+1) s k) ks:=by
   show List.foldl _ _ _=_
   rw[List.foldl_cons,Ps h.code];rfl
  have e2:Xx t (Qq r t f') (k::ks) z=Xx t (Qq r t f') ks (Jg t (Qq r t f') z k [] []):=rfl;rw[e1,e2];generalize Q8 r t (f+1) s k=s1 at a1 a2 hB hok ⊢;generalize Jg t (Qq r t f') z k [] []=z1 at a1 a2 hB ⊢
  by_cases hc:s1.code=0
  ·obtain⟨b1,b2,b3⟩:=hB hc
   have hR:=h.next b1 b2 hok hl b3
   have hl2:∀x∈s1.locals,x<k+1:=by
    obtain⟨K,B,e3⟩:=b1;rw[e3];intro x hx;have:=hl x hx;omega
   have Qrv:Q28 t (k+1) (e-1) z1:=by
    obtain⟨_,O,e3⟩:=b2;exact hno.sub Om (Int.le_refl _) (by rw[e3]) (by rw[e3])
   obtain⟨c,hC⟩:=ih (k+1) e s1 z1 hb hch (fun x hx=>hin x (by simp[hx])) hR hl2 Qrv
   refine⟨c,fun h0=>?_⟩
   obtain⟨d1,d2,d3⟩:=hC h0;exact⟨b1.trans d1,b2.trans d2,(b3.wider (Int.le_refl _) Om).trans (d3.wider Om (Int.le_refl _))⟩
  ·have hc':z1.code≠0:=by rw[← a1];exact hc
   have e3:∀l:List Int,Xx t (Qq r t f') l z1=z1:=by
    intro l
    induction l with
    |nil=>rfl
    |cons y ys ih2 =>
     unfold Xx at ih2 ⊢;rw[List.foldl_cons];have:Jg t (Qq r t f') z1 y [] []=z1:=by unfold Jg;rw[Ps hc']
     rw[this];exact ih2
   rw[Zg hc,e3];exact⟨⟨a1,a2⟩,fun h0=>absurd h0 hc⟩
theorem Qfr {b lo i a want:Int} {ks:List Int} {f f':Nat} (hG:Q43 r t b (Q8 r t f) (Qq r t f')) (hE:Q8r r t i (Q8 r t (f+1)) (Jx r t f')) (hib:i≤b+1) (hn:Qs t=true) (hK:Qk t) (hS:Z1 t)
  (hsp:Q1b t lo i) (hi:InT t i) (Qnf:(t.at i).kids=a::ks) (hea:Qu (t.at a).kind=true) (hbl:∀k∈ks,(t.at k).kind=27) {s:CS} {z:SS} (h:Rel r t s z) (hl:∀x∈s.locals,x<lo) (hno:Q28 t lo i z) :
  Qc4 lo i s z (Qb (Q8 r t (f+1)) (Qp (Q8 r t (f+1) s a) a want i) ks) (if (Jx r t f' z a).2.code≠0 then (Jx r t f' z a).2 else if (Jx r t f' z a).1≠want then (Jx r t f' z a).2.fail 4 i else Xx t (Qq r t f') ks (Jx r t f' z a).2):=by
 have hch:=hsp.kids;rw[Qnf] at hch;obtain⟨hsa,hch⟩:=hch;have hle:=hch.le;have hla:=hsa.le;have ha:InT t a:=hi.kid hK (by rw[Qnf];simp);obtain⟨⟨⟨a1,a2⟩,hE1⟩,hok⟩:=hE lo a s z Om hsa ha hea h hl;generalize Q8 r t (f+1) s a=s1 at a1 a2 hE1 hok ⊢;generalize Jx r t f' z a=p at a1 a2 hE1 ⊢
 by_cases h0:s1.code=0
 ·obtain⟨b1,b2,b3,b4,b5⟩:=hE1 h0
  have hR:=h.next b1 b2 hok hl b5;rw[Ng (by rw[hR.codeS];simp)]
  by_cases hw:p.1=want
  ·rw[Ng (by simpa using hw),Qp,Ps (by rw[b3,hw])]
   have hl2:∀x∈s1.locals,x<a+1:=by
    obtain⟨K,B,e3⟩:=b1;rw[e3];intro x hx;have:=hl x hx;omega
   have Qrv:Q28 t (a+1) (i-1) p.2:=by
    obtain⟨_,O,e3⟩:=b2;exact hno.sub Om Om (by rw[e3]) (by rw[e3])
   obtain⟨c,hC⟩:=Qfm hG hn hK hS ks (a+1) i s1 p.2 hib hch (fun k hk=>⟨hi.kid hK (by rw[Qnf];simp[hk]),hbl k hk⟩) hR hl2 Qrv
   refine⟨c,fun hc=>?_⟩
   obtain⟨d1,d2,d3⟩:=hC hc;exact⟨b1.trans d1,b2.trans d2,(b5.wider (Int.le_refl _) Om).trans (d3.wider Om Om)⟩
  ·rw[Ps hw,Qp,Ng (by rw[b3];exact hw)]
   obtain⟨f1,f2⟩:=CS.fail_code hR.code 4 i;obtain⟨g1,g2⟩:=SS.fail_code hR.codeS 4 i;rw[Zg (by rw[f1];decide)];exact⟨⟨f1.trans g1.symm,f2.trans g2.symm⟩,fun h9=>absurd (f1.symm.trans h9) Dc⟩
 ·rw[Ps (by rw[← a1];exact h0)]
  have hs:=X6 h0 a want i;rw[Zg (hs.ne h0)];exact⟨⟨hs.1.trans a1,hs.2.trans a2⟩,fun h9=>absurd (hs.1.symm.trans h9) h0⟩
theorem Rel.inner0 {s:CS} {z:SS} (h:Rel r t s z) {i:Int} (hk:(t.at i).kind=18∨(t.at i).kind=20) (hst:Zx t z i=true):s.inEach=false∧s.inHear=false:=by
 unfold Zx at hst;dsimp only at hst;rw[Ps hk,h.inner] at hst;cases h1:s.inEach<;>cases h2:s.inHear<;>simp[h1,h2] at hst ⊢
theorem Qkq {b lo i:Int} {f f':Nat} (hG:Q43 r t b (Q8 r t f) (Qq r t f')) (hib:i≤b+1) (hn:Qs t=true) (hK:Qk t) (hS:Z1 t) (hr:Xy r)
  (hsp:Q1b t lo i) (hi:InT t i) (h18:(t.at i).kind=18) {s:CS} {z:SS} (h:Rel r t s z) (hl:∀x∈s.locals,x<lo) (hno:Q28 t lo i z) (hst:Zx t z i=true) :
  Qc4 lo i s z (Q40 r t (Q8 r t (f+1)) s (t.at i)) (Q42 r t (Qq r t f') z (t.at i)):=by
 have hs:=Yr hn hi (by rw[h18];rfl);unfold Z3 at hs;rw[h18,Ng Dc,Ng Dc,Ng Dc,Ps rfl] at hs;obtain⟨a,b',c,Qnf,ka,kb,kc⟩:=Q22 hs;have kc:(t.at c).kind=27:=by simpa[isK] using kc
 have hch:=hsp.kids;rw[Qnf] at hch;obtain⟨hsa,hsb,hsc,Qp3⟩:=hch;have hla:=hsa.le;have hlb:=hsb.le;have hlc:=hsc.le;have hce:c+1=i:=Qp3;have hic:InT t c:=hi.kid hK (by rw[Qnf];simp);have k0:kidAt (t.at i) 0=a:=by simp[kidAt,Qnf]
 have k1:kidAt (t.at i) 1=b':=by simp[kidAt,Qnf]
 have k2:kidAt (t.at i) 2=c:=by simp[kidAt,Qnf]
 obtain⟨hE0,hH0⟩:=h.inner0 (.inl h18) hst;obtain⟨hw1,hw2⟩:=h.none hE0;have hdr:[a,b',c].drop 2=[c]:=rfl;unfold Q40 Q42;dsimp only;rw[k0,k1,k2,Qnf,hdr];obtain⟨⟨a1,a2⟩,hA⟩:=Qb8 (t:=t) hr (t.at a).kids [] s z h.code h.codeS h.node Sm;have eN:([]:List ByteArray).map (r.find 1)=[]:=rfl;rw[eN] at a1 a2 hA;have hap:=Qae (r:=r) (t:=t) (l1:=(t.at a).kids) (l2:=(t.at b').kids) (texts:=[]) h.codeS
 by_cases h0:(eachL r t (t.at a).kids (s,[])).1.code=0
 ·obtain⟨e1,e2,e3⟩:=hA h0
  rw[e1];rw[e2] at hap;rw[List.nil_append] at hap e3 ⊢;rw[Ng (show ¬ (Qd t (t.at a).kids,z).2.code≠0 from fun hx=>hx h.codeS)] at hap;obtain⟨⟨b1,b2⟩,hB⟩:=Qb8 (t:=t) hr (t.at b').kids (Qd t (t.at a).kids) s z h.code h.codeS h.node e3
  by_cases h1:(eachL r t (t.at b').kids (s,(Qd t (t.at a).kids).map (r.find 1))).1.code=0
  ·obtain⟨g1,g2,g3⟩:=hB h1
   rw[g1,hap];dsimp only;rw[g2,Ng (show ¬ (Qd t (t.at a).kids++Qd t (t.at b').kids,z).2.code≠0 from fun hx=>hx h.codeS)];dsimp only
   have htk:(Qd t (t.at a).kids++Qd t (t.at b').kids).take (t.at a).kids.length=Qd t (t.at a).kids:=by
    have:(t.at a).kids.length=(Qd t (t.at a).kids).length:=by simp[Qd]
    rw[this,List.take_left]
   rw[htk];have Qnm:((Qd t (t.at a).kids).map (r.find 1)).length≤1048576:=by simpa[Qd] using hS a
   have Qou:Qe t {s with withs:=(Qd t (t.at a).kids).map (r.find 1),inEach:=true}:=⟨h.ok.kinds,h.ok.bind,h.ok.locals,h.ok.tops,h.ok.top,h.ok.nodup,Qnm⟩
   have hR2:Rel r t {s with withs:=(Qd t (t.at a).kids).map (r.find 1),inEach:=true} {z with each:=true,inner:=true,withs:=Qd t (t.at a).kids}:=by
    refine⟨h.names,h.kinds,rfl,Sm,h.fn,h.topk,h.tops,h.topsND,?_,Sm,h.kindOf,Qou,h.code,h.codeS,h.node⟩;intro name Qth;apply Bool.eq_iff_iff.2
    show Zr name (Qd t (t.at a).kids)=true↔Zr _ ((Qd t (t.at a).kids).map (r.find 1))=true
    rw[Xu,Xu];constructor
    ·exact fun hm=>List.mem_map_of_mem hm
    ·intro hm
     obtain⟨x,q1,q2⟩:=List.mem_map.1 hm;rw[Qe3 Qth q2.symm];exact q1
   have hB:=Q5k hG Om hn hK hsc hic kc hR2 (fun x hx=>by have:=hl x hx;omega) (hno.sub (z':={z with each:=true,inner:=true,withs:=Qd t (t.at a).kids}) Om Om rfl rfl)
   have e9:Qb (Q8 r t (f+1)) {s with withs:=(Qd t (t.at a).kids).map (r.find 1),inEach:=true} [c]=Q8 r t (f+1) {s with withs:=(Qd t (t.at a).kids).map (r.find 1),inEach:=true} c:=by
    show List.foldl _ _ _=_
    rw[List.foldl_cons,Ps h.code];rfl
   rw[e9];generalize Q8 r t (f+1) {s with withs:=(Qd t (t.at a).kids).map (r.find 1),inEach:=true} c=s3 at hB ⊢;generalize Jg t (Qq r t f') {z with each:=true,inner:=true,withs:=Qd t (t.at a).kids} c [] []=z3 at hB ⊢;obtain⟨⟨c1,c2⟩,hC⟩:=hB
   refine⟨⟨c1,c2⟩,fun hc=>?_⟩
   obtain⟨⟨K,B,d1⟩,⟨dl,O,d2⟩,d3⟩:=hC hc;subst d1;subst d2;refine⟨⟨K,B,?_⟩,⟨dl,O,?_⟩,?_⟩
   ·cases s;simp_all
   ·have hz1:z.each=false:=by rw[h.each,hE0]
    have hz2:z.inner=false:=by rw[h.inner,hE0,hH0];rfl
    cases z;simp_all
   ·intro j hj hh
    exact d3 j hj Om
  ·rw[hap]
   dsimp only;rw[Ps (show (eachGo r t (t.at b').kids (Qd t (t.at a).kids) z).2.code≠0 by rw[← b1];exact h1)];have hx:({(eachL r t (t.at b').kids (s,(Qd t (t.at a).kids).map (r.find 1))).1 with withs:=(Qd t (t.at a).kids).map (r.find 1),inEach:=true}:CS).code≠0:=h1;rw[Zg hx];exact⟨⟨b1,b2⟩,fun h9=>absurd h9 h1⟩
 ·have hz0:(eachGo r t (t.at a).kids [] z).2.code≠0:=by rw[← a1];exact h0
  rw[Ps hz0] at hap;rw[hap,Ps hz0];have hs2:=Q68 (r:=r) (t:=t) (t.at b').kids (s:=(eachL r t (t.at a).kids (s,[])).1) (all:=(eachL r t (t.at a).kids (s,[])).2) h0;have hx:({(eachL r t (t.at b').kids (eachL r t (t.at a).kids (s,[]))).1 with withs:=(eachL r t (t.at a).kids (s,[])).2,inEach:=true}:CS).code≠0:=hs2.ne h0;rw[Zg hx];exact⟨⟨hs2.1.trans a1,hs2.2.trans a2⟩,fun h9=>absurd (hs2.1.symm.trans h9) h0⟩
end
section
variable {r:Reg} {t:Q1}
theorem Rel.addLocal {s:CS} {z:SS} (h:Rel r t s z) {a lo:Int} (ha:InT t a) (hlo:lo≤a) (hl:∀x∈s.locals,x<lo) (K:Int) (hn:Q3 t s.locals (t.at a).text<0) :
  Rel r t ((s.setKind a K).addLocal a) {z with names:=z.names++[(t.at a).text],kinds:=z.kinds++[K]}:=by
 have hkl:a<s.kinds.length:=by rw[h.ok.kinds];exact ha.2
 have ho:=Jn.set s (lo:=lo) (i:=a) (k:=a) (x:=K) ha.1 hlo (Int.le_refl _) hkl;have hok:Qe t ((s.setKind a K).addLocal a):=(h.ok.setKind _ _).addLocal a ha (fun _=>hn);refine⟨?_,?_,h.each,h.inner,h.fn,h.topk,h.tops,h.topsND,h.withs,h.none,h.kindOf,hok,h.code,h.codeS,h.node⟩
 ·show z.names++_=Qd t (s.locals++[a])
  rw[h.names];simp[Qd]
 ·show z.kinds++[K]=(s.locals++[a]).map _
  rw[List.map_append,h.kinds];congr 1
  ·apply List.map_congr_left
   intro x hx;exact (ho x (h.ok.locals x hx).1 (.inl (hl x hx))).symm
  ·have:((s.setKind a K).addLocal a).kindAt a=K:=by
    have:=CS.kindAt_set s a K a ha.1 ha.1 hkl;rw[Ps rfl] at this;exact this
   rw[List.map_cons,List.map_nil,this]
theorem Qcr {V:SS→Int→SS} {z:SS} (h:z.code=0) (b:Int) (m:List ByteArray) (q:List Int) :
  Jg t V z b m q={Jg t V {z with names:=z.names++m,kinds:=z.kinds++q} b [] [] with names:=z.names,kinds:=z.kinds}:=by
 unfold Jg;rw[Ng (show ¬ z.code≠0 by simpa using h),Ng (show ¬ ({z with names:=z.names++m,kinds:=z.kinds++q}:SS).code≠0 by simpa using h)];dsimp only;rw[List.append_nil,List.append_nil]
theorem Qjc {b lo i:Int} {f f':Nat} (hG:Q43 r t b (Q8 r t f) (Qq r t f')) (hib:i≤b+1) (hn:Qs t=true) (hK:Qk t) (hr:Xy r)
  (hsp:Q1b t lo i) (hi:InT t i) (h20:(t.at i).kind=20) {s:CS} {z:SS} (h:Rel r t s z) (hl:∀x∈s.locals,x<lo) (hno:Q28 t lo i z) (hst:Zx t z i=true) :
  Qc4 lo i s z (Q3y r t (Q8 r t (f+1)) s i (t.at i)) (Q41 r t (Qq r t f') z i (t.at i)):=by
 have hs:=Yr hn hi (by rw[h20];rfl);unfold Z3 at hs;rw[h20,Ng Dc,Ng Dc,Ng Dc,Ng Dc,Ps rfl] at hs;obtain⟨a,c,Qnf,ka,kc⟩:=Y9 hs;have kc:(t.at c).kind=27:=by simpa[isK] using kc
 have hch:=hsp.kids;rw[Qnf] at hch;obtain⟨hsa,hsc,Qp3⟩:=hch;have hla:=hsa.le;have hlc:=hsc.le;have hce:c+1=i:=Qp3;have hia:InT t a:=hi.kid hK (by rw[Qnf];simp);have hic:InT t c:=hi.kid hK (by rw[Qnf];simp);have k0:kidAt (t.at i) 0=a:=by simp[kidAt,Qnf]
 have k1:kidAt (t.at i) 1=c:=by simp[kidAt,Qnf]
 have hdr:[a,c].drop 1=[c]:=rfl;obtain⟨hE0,hH0⟩:=h.inner0 (.inr h20) hst;unfold Q3y Q41;dsimp only;rw[k0,k1,Qnf,hdr];obtain⟨⟨c1,c2⟩,hC⟩:=Q1k hr h 3 (t.at i).text i;generalize J4 r s 3 (t.at i).text i=q at c1 c2 hC ⊢
 have Qpx:∀x:CS,x.code≠0→∀y:SS,x.code=y.code→x.node=y.node →
   Qc4 lo i s z {Qb (Q8 r t (f+1)) {((Qx t (x.setKind a q.1) a).addLocal a) with inHear:=true} [c] with inHear:=false,locals:=(Qb (Q8 r t (f+1)) {((Qx t (x.setKind a q.1) a).addLocal a) with inHear:=true} [c]).locals.dropLast} y:=by
  intro x hx y e1 e2;have hx':(x.setKind a q.1).code≠0:=hx;have hs1:=Q82 (t:=t) hx' a;have hx2:({((Qx t (x.setKind a q.1) a).addLocal a) with inHear:=true}:CS).code≠0:=hs1.ne hx';rw[Zg hx2];exact⟨⟨hs1.1.trans e1,hs1.2.trans e2⟩,fun h9=>absurd (hs1.1.symm.trans h9) hx⟩
 by_cases hd:J2 r 3 (t.at i).text=0
 ·rw[Ps hd] at c1 c2 ⊢
  exact Qpx q.2 (by rw[c1];show (z.fail 3 i).code≠0;rw[(SS.fail_code h.codeS 3 i).1];decide) _ c1 c2
 ·rw[Ng hd] at c1 c2 hC ⊢
  obtain⟨e1,_,e3⟩:=hC (c1.trans h.codeS);rw[e1,e3];obtain⟨l1,_⟩:=Q5l h (t.at a).text;have hnm:Q3 t (s.setKind a (J2 r 3 (t.at i).text)).locals (t.at a).text=Q3 t s.locals (t.at a).text:=rfl
  by_cases hx:0≤Q3 t s.locals (t.at a).text
  ·rw[Ps (show 0≤J3 (t.at a).text z.names by
    rcases Int.lt_or_le (J3 (t.at a).text z.names) 0 with h9|h9
    ·have:=l1.1 h9;omega
    ·exact h9)]
   have htw:Qx t (s.setKind a (J2 r 3 (t.at i).text)) a=(s.setKind a (J2 r 3 (t.at i).text)).fail 2 a:=by unfold Qx;rw[hnm,Ps hx]
   have hsc:(s.setKind a (J2 r 3 (t.at i).text)).code=0:=h.code;obtain⟨f1,f2⟩:=CS.fail_code hsc 2 a;obtain⟨g1,g2⟩:=SS.fail_code h.codeS 2 a;rw[htw];have hx2:({(((s.setKind a (J2 r 3 (t.at i).text)).fail 2 a).addLocal a) with inHear:=true}:CS).code≠0:=by show ((s.setKind a (J2 r 3 (t.at i).text)).fail 2 a).code≠0;rw[f1];decide
   rw[Zg hx2];exact⟨⟨f1.trans g1.symm,f2.trans g2.symm⟩,fun h9=>absurd (f1.symm.trans h9) Dc⟩
  ·rw[Ng (show ¬ 0≤J3 (t.at a).text z.names from fun h9=>by have:=l1.2 Om;omega)]
   have htw:Qx t (s.setKind a (J2 r 3 (t.at i).text)) a=s.setKind a (J2 r 3 (t.at i).text):=by unfold Qx;rw[hnm,Ng hx]
   rw[htw];have hR1:=h.addLocal hia hla hl (J2 r 3 (t.at i).text) Om;have Qx9:Qe t {((s.setKind a (J2 r 3 (t.at i).text)).addLocal a) with inHear:=true}:=⟨hR1.ok.kinds,hR1.ok.bind,hR1.ok.locals,hR1.ok.tops,hR1.ok.top,hR1.ok.nodup,hR1.ok.withs⟩
   have hR2:Rel r t {((s.setKind a (J2 r 3 (t.at i).text)).addLocal a) with inHear:=true} {z with inner:=true,names:=z.names++[(t.at a).text],kinds:=z.kinds++[J2 r 3 (t.at i).text]} :=
    ⟨hR1.names,hR1.kinds,hR1.each,Sm,hR1.fn,hR1.topk,hR1.tops,hR1.topsND,hR1.withs,hR1.none,hR1.kindOf,Qx9,hR1.code,hR1.codeS,hR1.node⟩
   have hl2:∀x∈({((s.setKind a (J2 r 3 (t.at i).text)).addLocal a) with inHear:=true}:CS).locals,x<a+1:=by
    intro x hm;rcases List.mem_append.1 (show x∈s.locals++[a] from hm) with hm|hm
    ·have:=hl x hm;omega
    ·simp at hm;omega
   have hB:=Q5k hG Om hn hK hsc hic kc hR2 hl2 (hno.sub Om Om rfl rfl);have hzi:({z with inner:=true}:SS).code=0:=h.codeS;rw[Qcr hzi];have hz9:({({z with inner:=true}:SS) with names:=({z with inner:=true}:SS).names++[(t.at a).text],kinds:=({z with inner:=true}:SS).kinds++[J2 r 3 (t.at i).text]}:SS)={z with inner:=true,names:=z.names++[(t.at a).text],kinds:=z.kinds++[J2 r 3 (t.at i).text]}:=rfl;rw[hz9]
   have e9:Qb (Q8 r t (f+1)) {((s.setKind a (J2 r 3 (t.at i).text)).addLocal a) with inHear:=true} [c]=Q8 r t (f+1) {((s.setKind a (J2 r 3 (t.at i).text)).addLocal a) with inHear:=true} c:=by
    have h00:({((s.setKind a (J2 r 3 (t.at i).text)).addLocal a) with inHear:=true}:CS).code=0:=h.code
    show List.foldl _ _ _=_
    rw[List.foldl_cons,Ps h00];rfl
   rw[e9]
   have Qtg:Jn lo i s {((s.setKind a (J2 r 3 (t.at i).text)).addLocal a) with inHear:=true}:=by
    have hkl:a<s.kinds.length:=by rw[h.ok.kinds];exact hia.2
    exact Jn.set s (lo:=lo) (i:=i) (k:=a) (x:=J2 r 3 (t.at i).text) hia.1 hla Om hkl
   generalize Q8 r t (f+1) {((s.setKind a (J2 r 3 (t.at i).text)).addLocal a) with inHear:=true} c=s3 at hB ⊢;generalize Jg t (Qq r t f') {z with inner:=true,names:=z.names++[(t.at a).text],kinds:=z.kinds++[J2 r 3 (t.at i).text]} c [] []=z3 at hB ⊢;obtain⟨⟨d1,d2⟩,hD⟩:=hB
   refine⟨⟨d1,d2⟩,fun hc=>?_⟩
   obtain⟨⟨K,B,x1⟩,⟨dl,O,x2⟩,x3⟩:=hD hc;subst x1;subst x2;refine⟨⟨K,B,?_⟩,⟨dl,O,?_⟩,?_⟩
   ·have hdl:(s.locals++[a]).dropLast=s.locals:=Sm
    show ({s with kinds:=K,bind:=B,locals:=(s.locals++[a]).dropLast,inHear:=false}:CS)=_
    rw[hdl,← hH0]
   ·have hz2:z.inner=false:=by rw[h.inner,hE0,hH0];rfl
    show ({z with kindOf:=O,inner:=false}:SS)=_
    rw[← hz2]
   ·intro j hj hh
    exact (x3 j hj Om).trans (Qtg j hj hh)
end
theorem Q2h (k:Int):(Q3c k).v=.agg #[.int .i64 (Ja k),.int .i64 0,.float .f64 0,.float .f64 0]:=by
 unfold Q3c Ja;split<;>rfl
def Q3o (k i:Int) (x y:Nat):List Value:=[.int .i64 k,.int .i64 i,.float .f64 x,.float .f64 y]
section
variable {S:Nat→Prop} {w:World} {cb:Nat} {s:CS} {kv bv lv tv wv:Value}
theorem Qmv {ra ta:Addr} (h:J0 S w cb ra ta s kv bv lv tv wv) (i:Int) (n:Qn) (nk:Value) (hnk:Qf w nk n.kids) (a b:Int) (ks:List Int) (Qnf:n.kids=a::b::ks)
  (ha:0≤a∧a<s.kinds.length) (hb:0≤b∧b<s.kinds.length) (h8:n.kind=8) :
  Calls prog 201 #[.pointer (some ⟨cb,0,none⟩),.int .i64 i,.agg #[.int .i64 n.kind,.string n.text,.int .i64 n.i,nk]] w fun e w' =>
   e=.returned (.int .i64 (Yv s i n).1)∧Q31 S w cb ra ta (Yv s i n).2 kv bv lv tv wv w':=by
 have k0:kidAt n 0=a:=by simp[kidAt,Qnf]
 have k1:kidAt n 1=b:=by simp[kidAt,Qnf]
 have hT:Q0v s n=if (opK n.i (Ja (s.kindAt a)) 0 (s.kindAt b) 0).2=2 then (Ja (s.kindAt a),0) else opK n.i (Ja (s.kindAt a)) 0 (s.kindAt b) 0:=by
  unfold Q0v;rw[Ps h8,k0,k1]
 have hF:Yv s i n=((Q0v s n).1,if (Q0v s n).2=0 then s else s.fail 4 i):=rfl;rw[hT] at hF;clear hT k0 k1;obtain⟨A,nb,no,nc,rfl,hl,hlc,hA,hc⟩:=hnk;obtain rfl:=hA (by rw[Qnf];simp);have e0:=hc 0 a (by rw[Qnf];rfl);have e1:=hc 1 b (by rw[Qnf];rfl);have Qnm:1<n.kids.length:=by rw[Qnf];simp
 have Qo7:0<n.kids.length:=by rw[Qnf];simp
 have Qtk:(1:Int)<n.kids.length:=Om
 have hcb:=h.blk.lt;have h4:w.cell? ⟨cb,4,none⟩=some kv:=h.blk.cell 4 _ rfl;obtain⟨kA,g,kc,hkv,kl,klc,hkA,hkc⟩:=h.k.openI;obtain⟨rfl,hSg,Qnt⟩:=hkA Om;obtain⟨ma,rfl⟩:=En ha.1;obtain⟨mb,rfl⟩:=En hb.1;obtain⟨x,hx⟩:=Q4 (xs:=s.kinds) (j:=ma) Om;obtain⟨y,hy⟩:=Q4 (xs:=s.kinds) (j:=mb) Om;obtain⟨g0,_⟩:=hkc ma x hx;obtain⟨g1,_⟩:=hkc mb y hy;obtain⟨ha0,ha1⟩:=ha;obtain⟨hb0',hb1⟩:=hb;have hma:ma<s.kinds.length:=Om
 have hmb:mb<s.kinds.length:=Om
 rw[CS.kindAt_of hx,CS.kindAt_of hy] at hF;rw[h8];have hk0:Q0 nob w (w.alloc (.cells #[.int .i64 8,.string n.text,.int .i64 n.i,.slice (some ⟨nb,no,none⟩) n.kids.length nc] 70)):=(Kr _ _).alloc _;have hb0:=Blk.new w [.int .i64 8,.string n.text,.int .i64 n.i,.slice (some ⟨nb,no,none⟩) n.kids.length nc] 70;have e0':=hk0.cell (fun h=>h) e0;have e1':=hk0.cell (fun h=>h) e1;have h4':=hk0.cell (fun h=>h) h4;have g0':=hk0.cell (fun h=>h) g0;have g1':=hk0.cell (fun h=>h) g1;generalize hW0:w.alloc (.cells #[.int .i64 8,.string n.text,.int .i64 n.i,.slice (some ⟨nb,no,none⟩) n.kids.length nc] 70)=W0 at hk0 hb0 e0' e1' h4' g0' g1'
 have s0:∀W,Q0 nob W0 W→W.cell? ⟨cb,4,none⟩=some kv∧W.cell? ⟨w.heap.size,3,none⟩=some (.slice (some ⟨nb,no,none⟩) n.kids.length nc)∧W.cell? ⟨w.heap.size,2,none⟩=some (.int .i64 n.i)∧W.cell? ⟨nb,no,none⟩=some (.int .i64 (ma:Int))∧W.cell? ⟨nb,no+1,none⟩=some (.int .i64 (mb:Int))∧W.cell? ⟨g,ma,none⟩=some (.int .i64 x)∧W.cell? ⟨g,mb,none⟩=some (.int .i64 y) :=
  fun W hk=>⟨hk.cell (fun h=>h) h4',hk.cell (fun h=>h) (hb0.cell 3 _ rfl),hk.cell (fun h=>h) (hb0.cell 2 _ rfl),hk.cell (fun h=>h) (by simpa using e0'),hk.cell (fun h=>h) e1',hk.cell (fun h=>h) g0',hk.cell (fun h=>h) g1'⟩
 have q1:=fun W hk=>(s0 W hk).1
 have q2:=fun W hk=>(s0 W hk).2.1
 have q3:=fun W hk=>(s0 W hk).2.2.1
 have q4:=fun W hk=>(s0 W hk).2.2.2.1
 have q5:=fun W hk=>(s0 W hk).2.2.2.2.1
 have q6:=fun W hk=>(s0 W hk).2.2.2.2.2.1
 have q7:=fun W hk=>(s0 W hk).2.2.2.2.2.2
 have c0:=hb0.cell 0 _ rfl;have hr0:Q0 nob W0 W0:=Kr _ _;have H:=Hh (h.nobk hk0);have HB0:=Hh hb0;have HKS:=Hh Qnf;clear hc h Qnf hkc hx hy hkA hb0 s0 e0 e1 g0 g1 h4 e0' e1' g0' g1' h4';subst hkv;have HT:=Hh hF;clear hF;generalize Yv s i n=X at HT ⊢;go_enter func201,ntmps201;go_upto_region 1 with fail
 go_cut [7] (fun s7 wx=>∃p:Nat,s7=.pointer (some ⟨p,0,none⟩)∧Blk wx p (Q3o (Ja x) 0 0 0) 106∧Q0 nob W0 wx∧W0.heap.size≤p)
 case first =>
  go_region_held3 (fun W=>Q0 nob W0 W) (first|assumption|exact hr0.drew|exact Kd ‹_›|exact Ka (Ku ‹_›) _|exact Ka ‹_› _|exact Kt ‹_› ‹_›|(refine Q0.setCell (Q0.setCell (Q0.setCell (Q0.setCell ?_ (Or.inr (Nat.le_refl _)) _) (Or.inr (Nat.le_refl _)) _) (Or.inr (Nat.le_refl _)) _) (Or.inr (Nat.le_refl _)) _;first|assumption|exact Kt ((Kr nob _).alloc _) (Ku ‹_›)|exact Kt ‹_› ‹_›)) ((first|(go_at_call 215;refine (Q64 _ _).mono ?_;rintro e w1 ⟨he,hk1⟩;rw[Q2h] at he;subst he;dsimp only;(try (have bR:Blk w1 W0.heap.size [.int .i64 0,.int .i64 0,.float .f64 0,.float .f64 0] 106:=Blk.kept (Blk.new_of _ _ _ rfl) (Ku hk1) id;have r0:=bR.cell 0 _ rfl;have r1:=bR.cell 1 _ rfl;have r2:=bR.cell 2 _ rfl;have r3:=bR.cell 3 _ rfl;have p0:=bR.free 0;have p1:=bR.free 1;have p2:=bR.free 2;have p3:=bR.free 3)))))
  all_goals go_wp2_with fail
  all_goals go_meet
  ·exact⟨w1.heap.size,rfl,Blk.new_of _ _ _ rfl,by assumption,hk1.size⟩
  ·exact⟨W0.heap.size,rfl,(((bR.set 0 _).set 1 _).set 2 _).set 3 _,by assumption,Nat.le_refl _⟩
 case rest =>
  obtain⟨p,rfl,hb7,hkx,hle⟩:=hcut;clear q4 q6 hA;go_upto_region 3 with fail
  generalize hW1:wc.alloc (.cells #[.int .i64 0,.int .i64 0,.float .f64 0,.float .f64 0] 106)=W1;have hb8:Blk W1 wc.heap.size [.int .i64 0,.int .i64 0,.float .f64 0,.float .f64 0] 106:=hW1▸Blk.new_of _ _ _ rfl;have hk1:Q0 nob W0 W1:=hW1▸hkx.alloc _;have hp:p<wc.heap.size:=hb7.lt;have hb7':Blk W1 p (Q3o (Ja x) 0 0 0) 106:=hW1▸hb7.alloc _;have hsz:W0.heap.size≤wc.heap.size:=hkx.size;have Qon:∀W,Q0 (fun k=>k=wc.heap.size) W1 W→Blk W p (Q3o (Ja x) 0 0 0) 106:=fun W hk=>hb7'.kept hk (by show ¬ p=wc.heap.size;omega)
  have l0:∀W,Q0 (fun k=>k=wc.heap.size) W1 W→W.cell? ⟨p,0,none⟩=some (.int .i64 (Ja x)):=fun W hk=>(Qon W hk).cell 0 _ rfl
  have l1:∀W,Q0 (fun k=>k=wc.heap.size) W1 W→W.cell? ⟨p,1,none⟩=some (.int .i64 0):=fun W hk=>(Qon W hk).cell 1 _ rfl
  have l2:∀W,Q0 (fun k=>k=wc.heap.size) W1 W→W.cell? ⟨p,2,none⟩=some (.float .f64 0):=fun W hk=>(Qon W hk).cell 2 _ rfl
  have l3:∀W,Q0 (fun k=>k=wc.heap.size) W1 W→W.cell? ⟨p,3,none⟩=some (.float .f64 0):=fun W hk=>(Qon W hk).cell 3 _ rfl
  have mv:∀(a:Addr) (v:Value),W0.cell? a=some v→∀W,Q0 (fun k=>k=wc.heap.size) W1 W→W.cell? a=some v:=fun a v hc W hk =>
   hk.cell (by have:=World.block_lt_of_cell? W0 a hc;show ¬ a.block=wc.heap.size;omega) (hk1.cell (fun h=>h) hc)
  have q1':=mv _ _ (q1 _ hr0);have q2':=mv _ _ (q2 _ hr0);have q3':=mv _ _ (q3 _ hr0);have q5':=mv _ _ (q5 _ hr0);have q7':=mv _ _ (q7 _ hr0);have hr1:Q0 (fun k=>k=wc.heap.size) W1 W1:=Kr _ _;have d0:=q3' _ hr1;have cK:=mv _ _ c0 _ hr1;have HB7:=Hh Qon;have HB8:=Hh hb8;have HMV:=Hh mv;have HOP:=Hh (fun w=>Qjh n.i (Ja x) 0 y 0 w);clear q1 q2 q3 q5 q7 c0 hb7 hb7' Qon hb8 mv;generalize opK n.i (Ja x) 0 y 0=P at HOP HT;obtain⟨p1,p2⟩:=P;go_upto_region 5 with fail
  go_region_held3 (fun W=>Q0 (fun k=>k=wc.heap.size) W1 W) (first|assumption|exact hr1.drew|exact Kd ‹_›|exact Kt ‹_› ‹_›|exact Q0.cb (Q0.cb (Q0.cb (Q0.cb hks _ _) _ _) _ _) _ _) ((first|(go_at_call 216;refine (HOP.o _).mono ?_;rintro e w2 ⟨i2,x2,y2,he,hk2⟩;dsimp only at he;subst he;have hks:=(hr1.drew).thenNob hk2;have bR:=HB8.o.kept (hk2.undrew) id;have r0:=bR.cell 0 _ rfl;have r1:=bR.cell 1 _ rfl;have r2:=bR.cell 2 _ rfl;have r3:=bR.cell 3 _ rfl;have f0:=bR.free 0;have f1:=bR.free 1;have f2:=bR.free 2;have f3:=bR.free 3;dsimp only)));have b4:=(((bR.set 0 (.int .i64 p1)).set 1 (.int .i64 i2)).set 2 (.float .f64 x2)).set 3 (.float .f64 y2);have hKf:=Q0.cb (Q0.cb (Q0.cb (Q0.cb hks 0 (.int .i64 p1)) 1 (.int .i64 i2)) 2 (.float .f64 x2)) 3 (.float .f64 y2);generalize hWf:(((w2.setCell ⟨wc.heap.size,0,none⟩ (.int .i64 p1)).setCell ⟨wc.heap.size,1,none⟩ (.int .i64 i2)).setCell ⟨wc.heap.size,2,none⟩ (.float .f64 x2)).setCell ⟨wc.heap.size,3,none⟩ (.float .f64 y2)=Wf at b4 hKf ⊢;clear hWf bR r0 r1 r2 r3 f0 f1 f2 f3 hks;have e0:Wf.cell? ⟨wc.heap.size,0,none⟩=some (.int .i64 p1):=b4.cell 0 _ rfl;have e1:Wf.cell? ⟨wc.heap.size,1,none⟩=some (.int .i64 i2):=b4.cell 1 _ rfl;have e2:Wf.cell? ⟨wc.heap.size,2,none⟩=some (.float .f64 x2):=b4.cell 2 _ rfl;have e3:Wf.cell? ⟨wc.heap.size,3,none⟩=some (.float .f64 y2):=b4.cell 3 _ rfl;have f0:=b4.free 0;have f1:=b4.free 1;have f2:=b4.free 2;have f3:=b4.free 3;have l0':=l0 _ hKf;have l1':=l1 _ hKf;have l2':=l2 _ hKf;have l3':=l3 _ hKf;have hKW:Q0 nob W0 Wf:=hk1.then_ hKf (fun k hk=>.inr (by rw[hk];exact hsz));have HF:=Hh (H.o.nobk hKW);have HKW:=Hh hKW;have hB:W0.heap.size≤wc.heap.size:=hsz;clear l0 l1 l2 l3 q1' q2' q3' q5' q7' hKW hKf HB7 HB8 HMV HOP b4 hr1 hk1 d0;have hB2:wc.heap.size≠cb:=by have:=hk0.size;omega
  by_cases h2:p2=2
  ·subst h2
   go_wp2_with fail;go_returns;obtain rfl:=HT.o;have hK:=(((HKW.o.setCell (p:=⟨wc.heap.size,0,none⟩) (Or.inr hB) (.int .i64 (Ja x))).setCell (p:=⟨wc.heap.size,1,none⟩) (Or.inr hB) (.int .i64 0)).setCell (p:=⟨wc.heap.size,2,none⟩) (Or.inr hB) (.float .f64 0)).setCell (p:=⟨wc.heap.size,3,none⟩) (Or.inr hB) (.float .f64 0);exact⟨rfl,H.o.nobk hK,(hk0.trans hK).ofNob _⟩
  by_cases h0:p2=0
  ·subst h0
   go_wp2_with fail;go_returns;obtain rfl:=HT.o;exact⟨rfl,HF.o,(hk0.trans HKW.o).ofNob _⟩
  ·have t1:(p2==2)=false:=by simpa using h2
   have t2:(p2 != 0)=true:=by simpa using h0
   have HP2:=Hh h2;have HP0:=Hh h0;clear h2 h0;go_wp2_with (go_at_call 92;refine (Ze HF.o _ _).mono ?_;rintro e w3 ⟨rfl,hat⟩;have e0':=hat.2.cell (a:=⟨wc.heap.size,0,none⟩) hB2 e0);go_returns
   have hX:X=(p1,s.fail 4 i):=by
    rw[HT.o,Ng HP2.o];dsimp only;rw[Ng HP0.o]
   obtain rfl:=hX;exact⟨rfl,hat.1,((hk0.trans HKW.o).ofNob _).trans hat.2⟩
end
end Go.Proofs.YtkgkafjachjafaaGreat
