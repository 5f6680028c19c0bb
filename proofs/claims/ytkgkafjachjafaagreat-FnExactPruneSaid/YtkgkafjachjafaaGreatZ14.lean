/- Part 14 of: FnExactPrune answers true; no condition. -/
import Derived.Test.YtkgkafjachjafaaGreatZ10
set_option linter.unusedVariables false
open Go Go.RowKit
namespace Go.Proofs.YtkgkafjachjafaaGreat
open Tryz
def Q1z (t:Q1) (lo i:Int) (z:SS):Prop:=z.fn=true→∀j,lo≤j→j≤i→j=z.last→(t.at j).kind≠26
def Q24 (s s':CS):Prop:=∃K B L,s'={s with kinds:=K,bind:=B,locals:=L}
def Q2x (z z':SS):Prop:=∃N Q O,z'={z with names:=N,kinds:=Q,kindOf:=O}
def Q08 (r:Reg) (t:Q1) (lo i:Int) (s:CS) (z:SS) (s':CS) (z':SS):Prop :=
 Q2g s' z'∧(s'.code=0→Rel r t s' z'∧Jm lo i s s'∧Q24 s s'∧Q2x z z'∧∃more,s'.locals=s.locals++more∧∀k∈more,lo≤k∧k≤i)
def Qax (lo i:Int) (s:CS) (z:SS) (s':CS) (z':SS):Prop:=Q2g s' z'∧(s'.code=0→Zc s s'∧Yg z z'∧Jm lo i s s')
def Q3t (r:Reg) (t:Q1) (b:Int) (W:CS→Int→CS) (V:SS→Int→SS):Prop :=
 ∀lo i s z,i<b→Q11 t lo i→InT t i→Zp (t.at i).kind=true→Rel r t s z→(∀x∈s.locals,x<lo)→Q1z t lo i z→Q08 r t lo i s z (W s i) (V z i)∧Qe t (W s i)
theorem Zc.l {s s':CS} (h:Zc s s'):Q24 s s':=by obtain⟨K,B,e⟩:=h;exact⟨K,B,s.locals,e⟩
theorem Yg.n {z z':SS} (h:Yg z z'):Q2x z z':=by obtain⟨_,O,e⟩:=h;exact⟨z.names,z.kinds,O,e⟩
theorem Q24.trans {s s' s'':CS} (h:Q24 s s') (k:Q24 s' s''):Q24 s s'':=by
 obtain⟨K,B,L,rfl⟩:=h;obtain⟨K',B',L',rfl⟩:=k;exact⟨K',B',L',rfl⟩
theorem Q2x.trans {z z' z'':SS} (h:Q2x z z') (k:Q2x z' z''):Q2x z z'':=by
 obtain⟨K,B,L,rfl⟩:=h;obtain⟨K',B',L',rfl⟩:=k;exact⟨K',B',L',rfl⟩
theorem Q1z.sub {t:Q1} {lo i lo' i':Int} {z z':SS} (h:Q1z t lo i z) (h1:lo≤lo') (h2:i'≤i) (hf:z'.fn=z.fn) (hl:z'.last=z.last):Q1z t lo' i' z' :=
 fun hfn j h3 h4 h5=>h (hf▸hfn) j (by omega) (by omega) (by rw[h5,hl])
section
variable {r:Reg} {t:Q1}
theorem Q08.ofE {lo i:Int} {s s1:CS} {z z1:SS} (hR:Rel r t s1 z1) (h1:Zc s s1) (h2:Yg z z1) (h3:Jm lo i s s1):Q08 r t lo i s z s1 z1 :=
 ⟨hR.agree,fun _=>⟨hR,h3,h1.l,h2.n,[],by obtain⟨K,B,e⟩:=h1;rw[e];simp,by simp⟩⟩
theorem Q08.trans {lo m i:Int} {s s1 s2:CS} {z z1 z2:SS} (hm:m<i+1) (hlo:lo≤m+1) (h:Q08 r t lo m s z s1 z1) (h0:s1.code=0) (k:Q08 r t (m+1) i s1 z1 s2 z2):Q08 r t lo i s z s2 z2:=by
 obtain⟨a,ha⟩:=h;obtain⟨b,hb⟩:=k;obtain⟨a1,a2,a3,a4,m1,a5,a6⟩:=ha h0
 refine⟨b,fun hc=>?_⟩
 obtain⟨b1,b2,b3,b4,m2,b5,b6⟩:=hb hc
 refine⟨b1,(a2.wider (Int.le_refl _) (by omega)).trans (b2.wider (by omega) (Int.le_refl _)),a3.trans b3,a4.trans b4,m1++m2,by rw[b5,a5,List.append_assoc],fun x hx=>?_⟩
 rcases List.mem_append.1 hx with hx|hx
 ·have:=a6 x hx;omega
 ·have:=b6 x hx;omega
theorem Q08.bad {lo i:Int} {s s1:CS} {z z1:SS} (h:s1.code=0) (h':z1.code=0) {c:Int} (hc:c≠0) (n:Int):Q08 r t lo i s z (s1.fail c n) (z1.fail c n) :=
 ⟨Q60 h h' c n,fun h0=>absurd ((CS.fail_code h c n).1.symm.trans h0) hc⟩
theorem Q70 {b:Int} {W:CS→Int→CS} {V:SS→Int→SS} (hG:Q3t r t b W V):∀(l:List Int) (lo e:Int) (s:CS) (z:SS),e≤b→Zo t lo l e→(∀k∈l,InT t k∧Zp (t.at k).kind=true) →
  Rel r t s z→(∀x∈s.locals,x<lo)→Q1z t lo (e-1) z→Q08 r t lo (e-1) s z (Qa W s l) (Zi V l z)∧Qe t (Qa W s l):=by
 intro l
 induction l with
 |nil =>
  intro lo e s z _ hch _ h _ _;exact⟨Q08.ofE h (Zc.refl _) (Yg.refl _) (Jm.refl _ _ _),h.ok⟩
 |cons k ks ih =>
  intro lo e s z hb hch hin h hl hno;obtain⟨hsp,hch⟩:=hch;have hle:=hch.le;have hlk:=hsp.le;obtain⟨hS,hok⟩:=hG lo k s z (by omega) hsp (hin k (by simp)).1 (hin k (by simp)).2 h hl (hno.sub (Int.le_refl _) (by omega) rfl rfl)
  have e1:Qa W s (k::ks)=Qa W (W s k) ks:=by
   show List.foldl _ _ _=_
   rw[List.foldl_cons,Ps h.code];rfl
  have e2:Zi V (k::ks) z=Zi V ks (V z k):=by
   show List.foldl _ _ _=_
   rw[List.foldl_cons,Ps h.codeS];rfl
  rw[e1,e2]
  by_cases hc:(W s k).code=0
  ·obtain⟨c1,c2,c3,c4,more,c5,c6⟩:=hS.2 hc
   have hl2:∀x∈(W s k).locals,x<k+1:=by
    rw[c5];intro x hx;rcases List.mem_append.1 hx with hx|hx
    ·have:=hl x hx;omega
    ·have:=c6 x hx;omega
   have Qr1:Q1z t (k+1) (e-1) (V z k):=by
    obtain⟨N,Q,O,e3⟩:=c4;exact hno.sub (by omega) (Int.le_refl _) (by rw[e3]) (by rw[e3])
   obtain⟨hS2,Qo2⟩:=ih (k+1) e (W s k) (V z k) hb hch (fun x hx=>hin x (by simp[hx])) c1 hl2 Qr1;exact⟨Q08.trans (by omega) (by omega) hS hc hS2,Qo2⟩
  ·have hc':(V z k).code≠0:=by rw[← hS.1.1];exact hc
   have e3:∀l:List Int,Zi V l (V z k)=V z k:=by
    intro l
    induction l with
    |nil=>rfl
    |cons y ys ih2=>unfold Zi at ih2 ⊢;rw[List.foldl_cons,Ng hc'];exact ih2
   rw[Ze hc,e3];exact⟨⟨hS.1,fun h0=>absurd h0 hc⟩,hok⟩
theorem Q2r {lo i a k node:Int} {s s1:CS} {z z1:SS} {p:Int×CS} {q:Int×SS} (hR:Rel r t s1 z1) (hL:Qb4 s1 z1 p q) (hka:s1.kindAt a=k) (h1:Zc s s1) (h2:Yg z z1) (h3:Jm lo i s s1) (Qwk:Qe t p.2) (hl:∀x∈s.locals,x<lo) :
  Q08 r t lo i s z (Qq p.2 a p.1 node) (if q.2.code≠0 then q.2 else if q.1≠k then q.2.fail 4 node else q.2):=by
 obtain⟨⟨a1,a2⟩,hc⟩:=hL
 by_cases h0:p.2.code=0
 ·obtain⟨⟨B,e1⟩,e2,e3⟩:=hc h0
  have hkp:p.2.kindAt a=k:=by rw[e1];exact hka
  rw[Ng (by rw[← a1];simpa using h0)]
  by_cases hk:q.1=k
  ·rw[Ng (by simpa using hk),Qq,Ps (by rw[hkp,e3,hk])]
   have hl1:∀x∈s1.locals,x<lo:=by obtain⟨K,B,e⟩:=h1;rw[e];exact hl
   have ho:Jm lo i s1 p.2:=by intro j _ _;rw[e1];rfl
   have hk1:Zc s1 p.2:=by rw[e1];exact Zc.setBind' _ _
   have hR2:Rel r t p.2 q.2:=hR.next hk1 (e2▸Yg.refl _) Qwk hl1 ho;exact Q08.ofE hR2 (h1.trans hk1) (e2▸h2) (h3.trans ho)
  ·rw[Ps hk,Qq,Ng (by rw[hkp,e3];exact fun e=>hk e.symm)]
   exact Q08.bad h0 (a1▸h0) (by decide) _
 ·rw[Ps (by rw[← a1];exact h0)]
  have:=X9 h0 a p.1 node;exact⟨⟨this.1.trans a1,this.2.trans a2⟩,fun hh=>absurd (this.1.symm.trans hh) h0⟩
theorem Q6x {E:SS→Int→Int×SS} {z:SS} {i:Int} {n:Qc} {sort:Int} (h0:(E z (kidAt n 0)).2.code=0) (h14:n.kind≠14) :
  Xp r t E z i n sort=(if (if J3 r sort n.text=0 then ((0:Int),(E z (kidAt n 0)).2.fail 3 i) else (J3 r sort n.text,(E z (kidAt n 0)).2)).2.code≠0 then (if J3 r sort n.text=0 then ((0:Int),(E z (kidAt n 0)).2.fail 3 i) else (J3 r sort n.text,(E z (kidAt n 0)).2)).2
   else if (if J3 r sort n.text=0 then ((0:Int),(E z (kidAt n 0)).2.fail 3 i) else (J3 r sort n.text,(E z (kidAt n 0)).2)).1≠(E z (kidAt n 0)).1 then (if J3 r sort n.text=0 then ((0:Int),(E z (kidAt n 0)).2.fail 3 i) else (J3 r sort n.text,(E z (kidAt n 0)).2)).2.fail 4 i
   else (if J3 r sort n.text=0 then ((0:Int),(E z (kidAt n 0)).2.fail 3 i) else (J3 r sort n.text,(E z (kidAt n 0)).2)).2):=by
 unfold Xp
 by_cases hd:J3 r sort n.text=0
 ·simp[hd,h0,SS.fail]
 ·simp[hd,h0,h14]
theorem Qcx {E:SS→Int→Int×SS} {z:SS} {i:Int} {n:Qc} (h0:(E z (kidAt n 0)).2.code=0) (h14:n.kind=14) :
  Xp r t E z i n 1=(if (Yn r (E z (kidAt n 0)).2 n.text i).2.code≠0 then (Yn r (E z (kidAt n 0)).2 n.text i).2
   else if (Yn r (E z (kidAt n 0)).2 n.text i).1≠(E z (kidAt n 0)).1 then (Yn r (E z (kidAt n 0)).2 n.text i).2.fail 4 i else (Yn r (E z (kidAt n 0)).2 n.text i).2):=by
 unfold Xp Yn
 by_cases hd:J3 r 1 n.text=0
 ·simp[hd,h0,SS.fail]
 ·cases hb:Z9 n.text (E z (kidAt n 0)).2.withs<;>simp[hd,h0,h14,hb,SS.fail]
end
theorem Qlr {l:List Int} {x:Int}:Z4 (l++[x]) l.length=x:=by simp[Z4]
section
variable {r:Reg} {t:Q1}
theorem Ql5 {lo i a k:Int} {s s1:CS} {z z1:SS} (hi:InT t i) (hlo:lo≤i) (hR:Rel r t s1 z1) (hka:s1.kindAt a=k) (h1:Zc s s1) (h2:Yg z z1) (h3:Jm lo i s s1) (hl:∀x∈s.locals,x<lo) :
  Q08 r t lo i s z (if 0≤Q2 t s1.locals (t.at i).text then s1.fail 2 i else (s1.setKind i (s1.kindAt a)).addLocal i)
   (if 0≤Qw (t.at i).text z1.names then z1.fail 2 i else {z1 with names:=z1.names++[(t.at i).text],kinds:=z1.kinds++[k]}):=by
 obtain⟨l1,_⟩:=Q58 hR (t.at i).text
 by_cases hn:0≤Q2 t s1.locals (t.at i).text
 ·rw[Ps hn,Ps (by rcases Int.lt_or_le (Qw (t.at i).text z1.names) 0 with h|h<;>first|exact h|(have:=l1.1 h;omega))]
  exact Q08.bad hR.code hR.codeS (by decide) _
 ·rw[Ng hn,Ng (fun h=>by have:=l1.2 (by omega);omega)]
  have hkl:i<s1.kinds.length:=by rw[hR.ok.kinds];exact hi.2
  have hl1:∀x∈s1.locals,x<lo:=by obtain⟨K,B,e⟩:=h1;rw[e];exact hl
  have ho:=Jm.set s1 (lo:=lo) (i:=i) (k:=i) (x:=s1.kindAt a) hi.1 hlo (Int.le_refl _) hkl;have hok:Qe t ((s1.setKind i (s1.kindAt a)).addLocal i):=(hR.ok.setKind _ _).addLocal i hi (fun _=>by show Q2 t s1.locals _<0;omega)
  refine⟨⟨hR.agree.1,hR.agree.2⟩,fun hc=>⟨?_,h3.trans ho,?_,?_,[i],?_,?_⟩⟩
  ·refine⟨?_,?_,hR.each,hR.inner,hR.fn,hR.topk,hR.tops,hR.topsND,hR.withs,hR.none,hR.kindOf,hok,hR.code,hR.codeS,hR.node⟩
   ·show z1.names++_=Qb t (s1.locals++[i])
    rw[hR.names];simp[Qb]
   ·show z1.kinds++[k]=(s1.locals++[i]).map _
    rw[List.map_append,hR.kinds];congr 1
    ·apply List.map_congr_left
     intro x hx;exact (ho x (hR.ok.locals x hx).1 (.inl (hl1 x hx))).symm
    ·have:((s1.setKind i (s1.kindAt a)).addLocal i).kindAt i=s1.kindAt a:=by
      have:=CS.kindAt_set s1 i (s1.kindAt a) i hi.1 hi.1 hkl;rw[Ps rfl] at this;exact this
     rw[List.map_cons,List.map_nil,this,hka]
  ·obtain⟨K,B,e⟩:=h1;subst e;exact⟨_,_,_,rfl⟩
  ·obtain⟨_,O,e⟩:=h2;subst e;exact⟨_,_,_,rfl⟩
  ·obtain⟨K,B,e⟩:=h1;subst e;rfl
  ·intro x hx;simp at hx;subst hx;exact⟨hlo,Int.le_refl _⟩
theorem Qgq {lo i a k:Int} {s s1:CS} {z z1:SS} (hR:Rel r t s1 z1) (hka:s1.kindAt a=k) (h1:Zc s s1) (h2:Yg z z1) (h3:Jm lo i s s1) (hl:∀x∈s.locals,x<lo) (name:ByteArray) :
  Q08 r t lo i s z (if Q2 t s1.locals name<0 then s1.fail 3 i else Qq (s1.setBind i (Q2 t s1.locals name)) a (s1.kindAt (Q2 t s1.locals name)) i)
   (if Qw name z1.names<0 then z1.fail 3 i else if Z4 z1.kinds (Qw name z1.names).toNat≠k then z1.fail 4 i else z1):=by
 obtain⟨l1,l2⟩:=Q58 hR name
 by_cases hn:Q2 t s1.locals name<0
 ·rw[Ps hn,Ps (l1.2 hn)];exact Q08.bad hR.code hR.codeS (by decide) _
 ·rw[Ng hn,Ng (fun e=>hn (l1.1 e))]
  have hF:Qb4 s1 z1 (s1.kindAt (Q2 t s1.locals name),s1.setBind i (Q2 t s1.locals name)) (Z4 z1.kinds (Qw name z1.names).toNat,z1) :=
   ⟨hR.agree,fun _=>⟨⟨_,rfl⟩,rfl,(l2 (by omega)).symm⟩⟩
  have:=Q2r (node:=i) hR hF hka h1 h2 h3 (hR.ok.setBind _ _) hl;rw[Ng (by show ¬ z1.code≠0;rw[hR.codeS];simp)] at this;exact this
theorem Q4j {W:CS→Int→CS} {s:CS} (hc:s.code≠0) (l:List Int) (names:List ByteArray):Xj r t W l names s=s:=by
 cases l with
 |nil=>rfl
 |cons k ks =>
  simp only[Xj];rw[Ze hc,Ps hc]
theorem Qfw {b:Int} {W:CS→Int→CS} {E:SS→Int→Int×SS} (hn:Qt t=true) (hK:Qj t) (hr:Xt r) (hE:Q8i r t b W E):∀(l:List Int) (names:List ByteArray) (lo e:Int) (s:CS) (z:SS),e≤b→Zo t lo l e →
  (∀k∈l,InT t k∧(t.at k).kind=28)→Rel r t s z→(∀x∈s.locals,x<lo)→Qax lo (e-1) s z (Xj r t W l names s) (Q16 r t E l names z):=by
 intro l
 induction l with
 |nil=>intro names lo e s z _ _ _ h _;exact⟨h.agree,fun _=>⟨Zc.refl _,Yg.refl _,Jm.refl _ _ _⟩⟩
 |cons k ks ih =>
  intro names lo e s z hb hch hin h hl;obtain⟨hsp,hch⟩:=hch;have hle:=hch.le;have hlk:=hsp.le;obtain⟨hk,h28⟩:=hin k (by simp);have hs:=Q0t hn hk (by omega);unfold Je at hs;rw[h28,Ng (by decide),Ps rfl] at hs;obtain⟨a,Qmk,hea⟩:=Xh hs;have hck:=hsp.kids;rw[Qmk] at hck;have ha:InT t a:=hk.kid hK (by rw[Qmk];simp);have hak:a+1=k:=hck.2;obtain⟨⟨⟨a1,a2⟩,hE1⟩,Qnn⟩:=hE lo a s z (by omega) hck.1 ha hea h hl;have k0:kidAt (t.at k) 0=a:=by simp[kidAt,Qmk]
  have e1:Qa W s (t.at k).kids=W s a:=by
   rw[Qmk];show List.foldl _ _ _=_;rw[List.foldl_cons,Ps h.code];rfl
  simp only[Xj,Q16];rw[e1,k0];generalize W s a=s1 at a1 a2 hE1 Qnn ⊢;generalize E z a=p at a1 a2 hE1 ⊢
  by_cases h0:s1.code=0
  ·obtain⟨b1,b2,b3,b4,b5⟩:=hE1 h0
   have hR:=h.next b1 b2 Qnn hl b5;rw[Ng (show ¬ s1.code≠0 by simpa using h0),Ng (show ¬ p.2.code≠0 by rw[hR.codeS];simp)];obtain⟨⟨c1,c2⟩,hC⟩:=Q1a hr hR 1 (t.at k).text k;generalize J4 r s1 1 (t.at k).text k=q at c1 c2 hC ⊢
   by_cases hd:J3 r 1 (t.at k).text=0
   ·rw[Ps hd] at c1 c2 hC ⊢
    have Qp4:q.2.code≠0:=by rw[c1];show (p.2.fail 3 k).code≠0;rw[(SS.fail_code hR.codeS 3 k).1];decide
    have h1:q.2.Same (if Z9 (t.at k).text names then q.2.fail 2 k else q.2):=by
     split
     ·exact CS.fail_same Qp4 _ _
     ·exact CS.Same.rfl _
    have hs2:=h1.trans (X9 (h1.ne Qp4) a q.1 k);rw[Q4j (hs2.ne Qp4)];exact⟨⟨hs2.1.trans c1,hs2.2.trans c2⟩,fun hh=>absurd (hs2.1.symm.trans hh) Qp4⟩
   ·rw[Ng hd] at c1 c2 hC ⊢
    have hq0:q.2.code=0:=c1.trans hR.codeS;obtain⟨e2,_,e3⟩:=hC hq0;rw[e2,e3];cases hh:Z9 (t.at k).text names with
    |true =>
     rw[Ps rfl,Ps rfl];obtain⟨f1,f2⟩:=CS.fail_code hR.code 2 k;obtain⟨g1,g2⟩:=SS.fail_code hR.codeS 2 k;have hs2:=X9 (s:=s1.fail 2 k) (by rw[f1];decide) a (J3 r 1 (t.at k).text) k;rw[Q4j (hs2.ne (by rw[f1];decide))];exact⟨⟨(hs2.1.trans f1).trans g1.symm,(hs2.2.trans f2).trans g2.symm⟩,fun h9=>absurd ((hs2.1.trans f1).symm.trans h9) (by decide)⟩
    |false =>
     rw[Ng (by simp),Ng (by simp)]
     by_cases hke:J3 r 1 (t.at k).text=p.1
     ·rw[Ng (by simpa using hke),Qq,Ps (by rw[b3,hke])]
      have hl1:∀x∈s1.locals,x<k+1:=by
       obtain⟨K,B,e⟩:=b1;rw[e];intro x hx;have:=hl x hx;omega
      obtain⟨d1,d2⟩:=ih (names++[(t.at k).text]) (k+1) e s1 p.2 hb hch (fun x hx=>hin x (by simp[hx])) hR hl1
      refine⟨d1,fun hc=>?_⟩
      obtain⟨x1,x2,x3⟩:=d2 hc;exact⟨b1.trans x1,b2.trans x2,(b5.wider (Int.le_refl _) (by omega)).trans (x3.wider (by omega) (Int.le_refl _))⟩
     ·rw[Ps hke,Qq,Ng (by rw[b3];exact fun e=>hke e.symm)]
      obtain⟨f1,f2⟩:=CS.fail_code hR.code 4 k;obtain⟨g1,g2⟩:=SS.fail_code hR.codeS 4 k;rw[Q4j (by rw[f1];decide)];exact⟨⟨f1.trans g1.symm,f2.trans g2.symm⟩,fun h9=>absurd (f1.symm.trans h9) (by decide)⟩
  ·rw[Ps h0,Ps (show p.2.code≠0 by rw[← a1];exact h0)]
   exact⟨⟨a1,a2⟩,fun hh=>absurd hh h0⟩
theorem Qaj (hr:Xt r):∀(l:List Int) (texts:List ByteArray) (s:CS) (z:SS),s.code=0→z.code=0→s.node=z.node→(∀x∈texts,0≤r.find 1 x) →
  Q2g (eachL r t l (s,texts.map (r.find 1))).1 (eachGo r t l texts z).2∧((eachL r t l (s,texts.map (r.find 1))).1.code=0 →
   eachL r t l (s,texts.map (r.find 1))=(s,(texts++Qb t l).map (r.find 1))∧eachGo r t l texts z=(texts++Qb t l,z)∧∀x∈texts++Qb t l,0≤r.find 1 x):=by
 intro l
 induction l with
 |nil =>
  intro texts s z h h' hn hx
  refine⟨⟨h.trans h'.symm,hn⟩,fun _=>?_⟩
  have:Qb t []=[]:=rfl;rw[this,List.append_nil];exact⟨rfl,rfl,hx⟩
 |cons k ks ih =>
  intro texts s z h h' hn hx;obtain⟨d1,_⟩:=Q8q hr 1 (t.at k).text;simp only[eachL,eachGo]
  by_cases hk:r.find 1 (t.at k).text<0
  ·rw[Ps hk,Ps (d1.2 hk)]
   obtain⟨f1,f2⟩:=CS.fail_code h 3 k;obtain⟨g1,g2⟩:=SS.fail_code h' 3 k;have hs:=Q5h (r:=r) (t:=t) ks (s:=s.fail 3 k) (all:=texts.map (r.find 1)++[r.find 1 (t.at k).text]) (by rw[f1];decide);exact⟨⟨(hs.1.trans f1).trans g1.symm,(hs.2.trans f2).trans g2.symm⟩,fun h9=>absurd ((hs.1.trans f1).symm.trans h9) (by decide)⟩
  ·rw[Ng hk,Ng (fun e=>hk (d1.1 e))]
   have Qwl:Z9 (r.find 1 (t.at k).text) (texts.map (r.find 1))=Z9 (t.at k).text texts:=by
    apply Bool.eq_iff_iff.2;rw[X6,X6];constructor
    ·intro hm
     obtain⟨x,h1,h2⟩:=List.mem_map.1 hm;rw[← Qd0 (hx x h1) h2];exact h1
    ·exact fun hm=>List.mem_map_of_mem hm
   rw[Qwl];cases hb:Z9 (t.at k).text texts with
   |true =>
    rw[Ps rfl,Ps rfl];obtain⟨f1,f2⟩:=CS.fail_code h 2 k;obtain⟨g1,g2⟩:=SS.fail_code h' 2 k;have hs:=Q5h (r:=r) (t:=t) ks (s:=s.fail 2 k) (all:=texts.map (r.find 1)++[r.find 1 (t.at k).text]) (by rw[f1];decide);exact⟨⟨(hs.1.trans f1).trans g1.symm,(hs.2.trans f2).trans g2.symm⟩,fun h9=>absurd ((hs.1.trans f1).symm.trans h9) (by decide)⟩
   |false =>
    rw[Ng (by simp),Ng (by simp)]
    have:=ih (texts++[(t.at k).text]) s z h h' hn (by
     intro x hm;rcases List.mem_append.1 hm with hm|hm
     ·exact hx x hm
     ·simp at hm;subst hm;omega)
    rw[List.map_append] at this;have e:texts++[(t.at k).text]++Qb t ks=texts++Qb t (k::ks):=by simp[Qb]
    rw[e] at this;exact this
theorem Q9s {l1 l2:List Int} {texts:List ByteArray} {z:SS} (h':z.code=0):eachGo r t (l1++l2) texts z=(if (eachGo r t l1 texts z).2.code≠0 then eachGo r t l1 texts z else eachGo r t l2 (eachGo r t l1 texts z).1 (eachGo r t l1 texts z).2):=by
 induction l1 generalizing texts with
 |nil=>simp[eachGo,h']
 |cons k ks ih =>
  rw[List.cons_append]
  by_cases hd:J3 r 1 (t.at k).text=0
  ·have e:∀l,eachGo r t (k::l) texts z=(texts,z.fail 3 k):=fun l=>by simp[eachGo,hd]
   rw[e,e,Ps (show (z.fail 3 k).code≠0 by rw[(SS.fail_code h' 3 k).1];decide)]
  ·cases hb:Z9 (t.at k).text texts with
   |true =>
    have e:∀l,eachGo r t (k::l) texts z=(texts,z.fail 2 k):=fun l=>by simp[eachGo,hd,hb]
    rw[e,e,Ps (show (z.fail 2 k).code≠0 by rw[(SS.fail_code h' 2 k).1];decide)]
   |false =>
    have e:∀l,eachGo r t (k::l) texts z=eachGo r t l (texts++[(t.at k).text]) z:=fun l=>by simp[eachGo,hd,hb]
    rw[e,e];exact ih
end
section
variable {r:Reg} {t:Q1}
theorem Q3t.sub {b b':Int} {W:CS→Int→CS} {V:SS→Int→SS} (h:Q3t r t b W V) (hb:b'≤b):Q3t r t b' W V:=fun lo i s z hi=>h lo i s z (by omega)
theorem Q08.ofB {lo i:Int} {s s':CS} {z z':SS} (h:Rel r t s z) (hl:∀x∈s.locals,x<lo) (hB:Qax lo i s z s' z') (hok:Qe t s'):Q08 r t lo i s z s' z':=by
 refine⟨hB.1,fun hc=>?_⟩
 obtain⟨b1,b2,b3⟩:=hB.2 hc;exact (Q08.ofE (h.next b1 b2 hok hl b3) b1 b2 b3).2 hc
theorem Qdj {lo i:Int} {s:CS} {z:SS} (h:Rel r t s z) (hst:Zp (t.at i).kind=true) (hlo:lo≤i) (hno:Q1z t lo i z):Yl t s (t.at i).kind=Jt t z i:=by
 have hk:12≤(t.at i).kind∧(t.at i).kind≤26:=by simpa[Zp,Q9] using hst
 unfold Yl Jt;dsimp only
 by_cases h18:(t.at i).kind=18∨(t.at i).kind=20
 ·rw[Ng (by omega),Ps h18,Ps h18,h.fn,h.inner]
  rcases h.topk with e|e<;>rw[e]<;>cases s.inEach<;>cases s.inHear<;>rfl
 rw[Ng (c:=(t.at i).kind=18∨(t.at i).kind=20) h18,Ng (c:=(t.at i).kind=18∨(t.at i).kind=20) h18]
 by_cases h14:(t.at i).kind=14∨(t.at i).kind=22∨(t.at i).kind=23∨(t.at i).kind=24
 ·rw[Ps (by omega),Ps h14,h.each]
 rw[Ng (by omega),Ng h14]
 by_cases h26:(t.at i).kind=26
 ·rw[Ps h26,h26]
  cases hf:z.fn with
  |false=>rfl
  |true =>
   have:=hno hf i hlo (Int.le_refl _);have:¬ i=z.last:=fun e=>this e h26
   simp[this]
 ·rw[Ng h26];simpa using h26
theorem Q4z {b j lo:Int} {f f':Nat} (hG:Q3t r t b (Q8 r t f) (Qp r t f')) (hjb:j≤b) (hn:Qt t=true) (hK:Qj t) {s:CS} {z:SS} (hsp:Q11 t lo j) (hj:InT t j) (h27:(t.at j).kind=27) (h:Rel r t s z)
  (hl:∀x∈s.locals,x<lo) (hno:Q1z t lo j z):Qax lo j s z (Q8 r t (f+1) s j) (Jf t (Qp r t f') z j [] []):=by
 have hw:Q8 r t (f+1) s j={Qa (Q8 r t f) s (t.at j).kids with locals:=(Qa (Q8 r t f) s (t.at j).kids).locals.take s.locals.length}:=by
  unfold Q8;dsimp only;rw[Ps (by rw[h27];rfl),h27];rfl
 have hb:Jf t (Qp r t f') z j [] []={Zi (Qp r t f') (t.at j).kids z with names:=z.names,kinds:=z.kinds}:=by
  unfold Jf;rw[Ng (by rw[h.codeS];simp),List.append_nil,List.append_nil]
 rw[hw,hb];have hs:=Q0t hn hj (by omega);unfold Je at hs;rw[h27,Ps rfl] at hs;obtain⟨⟨⟨a1,a2⟩,hS⟩,hok⟩:=Q70 hG (t.at j).kids lo j s z hjb hsp.kids (fun k hk=>⟨hj.kid hK hk,Yf hs hk⟩) h hl (hno.sub (Int.le_refl _) (by omega) rfl rfl);generalize Qa (Q8 r t f) s (t.at j).kids=s1 at a1 a2 hS hok ⊢;generalize Zi (Qp r t f') (t.at j).kids z=z1 at a1 a2 hS ⊢
 refine⟨⟨a1,a2⟩,fun hc=>?_⟩
 obtain⟨c1,c2,c3,c4,more,c5,c6⟩:=hS hc;have Qmr:=c1.kindOf;obtain⟨K,B,L,rfl⟩:=c3;obtain⟨N,Q,O,rfl⟩:=c4;refine⟨⟨K,B,?_⟩,⟨?_,O,rfl⟩,c2.wider (Int.le_refl _) (by omega)⟩
 ·have:L=s.locals++more:=c5
  subst this;simp
 ·show O.length=_
  rw[h.kindOf];exact Qmr
theorem Qec {b:Int} {f f':Nat} (hG:Q3t r t b (Q8 r t f) (Qp r t f')) (hn:Qt t=true) (hK:Qj t) (hS:Jz t):∀(l:List Int) (lo e:Int) (s:CS) (z:SS),e≤b+1→Zo t lo l e→(∀k∈l,InT t k∧(t.at k).kind=27) →
  Rel r t s z→(∀x∈s.locals,x<lo)→Q1z t lo (e-1) z→Qax lo (e-1) s z (Qa (Q8 r t (f+1)) s l) (Xu t (Qp r t f') l z):=by
 intro l
 induction l with
 |nil=>intro lo e s z _ _ _ h _ _;exact⟨h.agree,fun _=>⟨Zc.refl _,Yg.refl _,Jm.refl _ _ _⟩⟩
 |cons k ks ih =>
  intro lo e s z hb hch hin h hl hno;obtain⟨hsp,hch⟩:=hch;have hle:=hch.le;have hlk:=hsp.le;obtain⟨⟨a1,a2⟩,hB⟩:=Q4z hG (by omega) hn hK hsp (hin k (by simp)).1 (hin k (by simp)).2 h hl (hno.sub (Int.le_refl _) (by omega) rfl rfl);have hok:=Qe.walk hK hS r (f+1) s k h.ok (hin k (by simp)).1
  have e1:Qa (Q8 r t (f+1)) s (k::ks)=Qa (Q8 r t (f+1)) (Q8 r t (f+1) s k) ks:=by
   show List.foldl _ _ _=_
   rw[List.foldl_cons,Ps h.code];rfl
  have e2:Xu t (Qp r t f') (k::ks) z=Xu t (Qp r t f') ks (Jf t (Qp r t f') z k [] []):=rfl;rw[e1,e2];generalize Q8 r t (f+1) s k=s1 at a1 a2 hB hok ⊢;generalize Jf t (Qp r t f') z k [] []=z1 at a1 a2 hB ⊢
  by_cases hc:s1.code=0
  ·obtain⟨b1,b2,b3⟩:=hB hc
   have hR:=h.next b1 b2 hok hl b3
   have hl2:∀x∈s1.locals,x<k+1:=by
    obtain⟨K,B,e3⟩:=b1;rw[e3];intro x hx;have:=hl x hx;omega
   have Qr1:Q1z t (k+1) (e-1) z1:=by
    obtain⟨_,O,e3⟩:=b2;exact hno.sub (by omega) (Int.le_refl _) (by rw[e3]) (by rw[e3])
   obtain⟨c,hC⟩:=ih (k+1) e s1 z1 hb hch (fun x hx=>hin x (by simp[hx])) hR hl2 Qr1
   refine⟨c,fun h0=>?_⟩
   obtain⟨d1,d2,d3⟩:=hC h0;exact⟨b1.trans d1,b2.trans d2,(b3.wider (Int.le_refl _) (by omega)).trans (d3.wider (by omega) (Int.le_refl _))⟩
  ·have hc':z1.code≠0:=by rw[← a1];exact hc
   have e3:∀l:List Int,Xu t (Qp r t f') l z1=z1:=by
    intro l
    induction l with
    |nil=>rfl
    |cons y ys ih2 =>
     unfold Xu at ih2 ⊢;rw[List.foldl_cons];have:Jf t (Qp r t f') z1 y [] []=z1:=by unfold Jf;rw[Ps hc']
     rw[this];exact ih2
   rw[Ze hc,e3];exact⟨⟨a1,a2⟩,fun h0=>absurd h0 hc⟩
theorem Qej {b lo i a want:Int} {ks:List Int} {f f':Nat} (hG:Q3t r t b (Q8 r t f) (Qp r t f')) (hE:Q8i r t i (Q8 r t (f+1)) (Jr r t f')) (hib:i≤b+1) (hn:Qt t=true) (hK:Qj t) (hS:Jz t)
  (hsp:Q11 t lo i) (hi:InT t i) (Qmk:(t.at i).kids=a::ks) (hea:Qs (t.at a).kind=true) (hbl:∀k∈ks,(t.at k).kind=27) {s:CS} {z:SS} (h:Rel r t s z) (hl:∀x∈s.locals,x<lo) (hno:Q1z t lo i z) :
  Qax lo i s z (Qa (Q8 r t (f+1)) (Qq (Q8 r t (f+1) s a) a want i) ks) (if (Jr r t f' z a).2.code≠0 then (Jr r t f' z a).2 else if (Jr r t f' z a).1≠want then (Jr r t f' z a).2.fail 4 i else Xu t (Qp r t f') ks (Jr r t f' z a).2):=by
 have hch:=hsp.kids;rw[Qmk] at hch;obtain⟨hsa,hch⟩:=hch;have hle:=hch.le;have hla:=hsa.le;have ha:InT t a:=hi.kid hK (by rw[Qmk];simp);obtain⟨⟨⟨a1,a2⟩,hE1⟩,hok⟩:=hE lo a s z (by omega) hsa ha hea h hl;generalize Q8 r t (f+1) s a=s1 at a1 a2 hE1 hok ⊢;generalize Jr r t f' z a=p at a1 a2 hE1 ⊢
 by_cases h0:s1.code=0
 ·obtain⟨b1,b2,b3,b4,b5⟩:=hE1 h0
  have hR:=h.next b1 b2 hok hl b5;rw[Ng (by rw[hR.codeS];simp)]
  by_cases hw:p.1=want
  ·rw[Ng (by simpa using hw),Qq,Ps (by rw[b3,hw])]
   have hl2:∀x∈s1.locals,x<a+1:=by
    obtain⟨K,B,e3⟩:=b1;rw[e3];intro x hx;have:=hl x hx;omega
   have Qr1:Q1z t (a+1) (i-1) p.2:=by
    obtain⟨_,O,e3⟩:=b2;exact hno.sub (by omega) (by omega) (by rw[e3]) (by rw[e3])
   obtain⟨c,hC⟩:=Qec hG hn hK hS ks (a+1) i s1 p.2 hib hch (fun k hk=>⟨hi.kid hK (by rw[Qmk];simp[hk]),hbl k hk⟩) hR hl2 Qr1
   refine⟨c,fun hc=>?_⟩
   obtain⟨d1,d2,d3⟩:=hC hc;exact⟨b1.trans d1,b2.trans d2,(b5.wider (Int.le_refl _) (by omega)).trans (d3.wider (by omega) (by omega))⟩
  ·rw[Ps hw,Qq,Ng (by rw[b3];exact hw)]
   obtain⟨f1,f2⟩:=CS.fail_code hR.code 4 i;obtain⟨g1,g2⟩:=SS.fail_code hR.codeS 4 i;rw[Ze (by rw[f1];decide)];exact⟨⟨f1.trans g1.symm,f2.trans g2.symm⟩,fun h9=>absurd (f1.symm.trans h9) (by decide)⟩
 ·rw[Ps (by rw[← a1];exact h0)]
  have hs:=X9 h0 a want i;rw[Ze (hs.ne h0)];exact⟨⟨hs.1.trans a1,hs.2.trans a2⟩,fun h9=>absurd (hs.1.symm.trans h9) h0⟩
theorem Rel.inner0 {s:CS} {z:SS} (h:Rel r t s z) {i:Int} (hk:(t.at i).kind=18∨(t.at i).kind=20) (hst:Jt t z i=true):s.inEach=false∧s.inHear=false:=by
 unfold Jt at hst;dsimp only at hst;rw[Ps hk,h.inner] at hst;cases h1:s.inEach<;>cases h2:s.inHear<;>simp[h1,h2] at hst ⊢
theorem Qif {b lo i:Int} {f f':Nat} (hG:Q3t r t b (Q8 r t f) (Qp r t f')) (hib:i≤b+1) (hn:Qt t=true) (hK:Qj t) (hS:Jz t) (hr:Xt r)
  (hsp:Q11 t lo i) (hi:InT t i) (h18:(t.at i).kind=18) {s:CS} {z:SS} (h:Rel r t s z) (hl:∀x∈s.locals,x<lo) (hno:Q1z t lo i z) (hst:Jt t z i=true) :
  Qax lo i s z (Q3f r t (Q8 r t (f+1)) s (t.at i)) (Q3s r t (Qp r t f') z (t.at i)):=by
 have hs:=Yo hn hi (by rw[h18];rfl);unfold Z5 at hs;rw[h18,Ng (by decide),Ng (by decide),Ng (by decide),Ps rfl] at hs;obtain⟨a,b',c,Qmk,ka,kb,kc⟩:=Q1r hs;have kc:(t.at c).kind=27:=by simpa[isK] using kc
 have hch:=hsp.kids;rw[Qmk] at hch;obtain⟨hsa,hsb,hsc,Qo7⟩:=hch;have hla:=hsa.le;have hlb:=hsb.le;have hlc:=hsc.le;have hce:c+1=i:=Qo7;have hic:InT t c:=hi.kid hK (by rw[Qmk];simp);have k0:kidAt (t.at i) 0=a:=by simp[kidAt,Qmk]
 have k1:kidAt (t.at i) 1=b':=by simp[kidAt,Qmk]
 have k2:kidAt (t.at i) 2=c:=by simp[kidAt,Qmk]
 obtain⟨hE0,hH0⟩:=h.inner0 (.inl h18) hst;obtain⟨hw1,hw2⟩:=h.none hE0;have hdr:[a,b',c].drop 2=[c]:=rfl;unfold Q3f Q3s;dsimp only;rw[k0,k1,k2,Qmk,hdr];obtain⟨⟨a1,a2⟩,hA⟩:=Qaj (t:=t) hr (t.at a).kids [] s z h.code h.codeS h.node (by simp);have eN:([]:List ByteArray).map (r.find 1)=[]:=rfl;rw[eN] at a1 a2 hA;have hap:=Q9s (r:=r) (t:=t) (l1:=(t.at a).kids) (l2:=(t.at b').kids) (texts:=[]) h.codeS
 by_cases h0:(eachL r t (t.at a).kids (s,[])).1.code=0
 ·obtain⟨e1,e2,e3⟩:=hA h0
  rw[e1];rw[e2] at hap;rw[List.nil_append] at hap e3 ⊢;rw[Ng (show ¬ (Qb t (t.at a).kids,z).2.code≠0 from fun hx=>hx h.codeS)] at hap;obtain⟨⟨b1,b2⟩,hB⟩:=Qaj (t:=t) hr (t.at b').kids (Qb t (t.at a).kids) s z h.code h.codeS h.node e3
  by_cases h1:(eachL r t (t.at b').kids (s,(Qb t (t.at a).kids).map (r.find 1))).1.code=0
  ·obtain⟨g1,g2,g3⟩:=hB h1
   rw[g1,hap];dsimp only;rw[g2,Ng (show ¬ (Qb t (t.at a).kids++Qb t (t.at b').kids,z).2.code≠0 from fun hx=>hx h.codeS)];dsimp only
   have htk:(Qb t (t.at a).kids++Qb t (t.at b').kids).take (t.at a).kids.length=Qb t (t.at a).kids:=by
    have:(t.at a).kids.length=(Qb t (t.at a).kids).length:=by simp[Qb]
    rw[this,List.take_left]
   rw[htk];have Qmr:((Qb t (t.at a).kids).map (r.find 1)).length≤1048576:=by simpa[Qb] using hS a
   have Qo2:Qe t {s with withs:=(Qb t (t.at a).kids).map (r.find 1),inEach:=true}:=⟨h.ok.kinds,h.ok.bind,h.ok.locals,h.ok.tops,h.ok.top,h.ok.nodup,Qmr⟩
   have hR2:Rel r t {s with withs:=(Qb t (t.at a).kids).map (r.find 1),inEach:=true} {z with each:=true,inner:=true,withs:=Qb t (t.at a).kids}:=by
    refine⟨h.names,h.kinds,rfl,by simp,h.fn,h.topk,h.tops,h.topsND,?_,by simp,h.kindOf,Qo2,h.code,h.codeS,h.node⟩;intro name Qsj;apply Bool.eq_iff_iff.2
    show Z9 name (Qb t (t.at a).kids)=true↔Z9 _ ((Qb t (t.at a).kids).map (r.find 1))=true
    rw[X6,X6];constructor
    ·exact fun hm=>List.mem_map_of_mem hm
    ·intro hm
     obtain⟨x,q1,q2⟩:=List.mem_map.1 hm;rw[Qd0 Qsj q2.symm];exact q1
   have hB:=Q4z hG (by omega) hn hK hsc hic kc hR2 (fun x hx=>by have:=hl x hx;omega) (hno.sub (z':={z with each:=true,inner:=true,withs:=Qb t (t.at a).kids}) (by omega) (by omega) rfl rfl)
   have e9:Qa (Q8 r t (f+1)) {s with withs:=(Qb t (t.at a).kids).map (r.find 1),inEach:=true} [c]=Q8 r t (f+1) {s with withs:=(Qb t (t.at a).kids).map (r.find 1),inEach:=true} c:=by
    show List.foldl _ _ _=_
    rw[List.foldl_cons,Ps h.code];rfl
   rw[e9];generalize Q8 r t (f+1) {s with withs:=(Qb t (t.at a).kids).map (r.find 1),inEach:=true} c=s3 at hB ⊢;generalize Jf t (Qp r t f') {z with each:=true,inner:=true,withs:=Qb t (t.at a).kids} c [] []=z3 at hB ⊢;obtain⟨⟨c1,c2⟩,hC⟩:=hB
   refine⟨⟨c1,c2⟩,fun hc=>?_⟩
   obtain⟨⟨K,B,d1⟩,⟨dl,O,d2⟩,d3⟩:=hC hc;subst d1;subst d2;refine⟨⟨K,B,?_⟩,⟨dl,O,?_⟩,?_⟩
   ·cases s;simp_all
   ·have hz1:z.each=false:=by rw[h.each,hE0]
    have hz2:z.inner=false:=by rw[h.inner,hE0,hH0];rfl
    cases z;simp_all
   ·intro j hj hh
    exact d3 j hj (by omega)
  ·rw[hap]
   dsimp only;rw[Ps (show (eachGo r t (t.at b').kids (Qb t (t.at a).kids) z).2.code≠0 by rw[← b1];exact h1)];have hx:({(eachL r t (t.at b').kids (s,(Qb t (t.at a).kids).map (r.find 1))).1 with withs:=(Qb t (t.at a).kids).map (r.find 1),inEach:=true}:CS).code≠0:=h1;rw[Ze hx];exact⟨⟨b1,b2⟩,fun h9=>absurd h9 h1⟩
 ·have hz0:(eachGo r t (t.at a).kids [] z).2.code≠0:=by rw[← a1];exact h0
  rw[Ps hz0] at hap;rw[hap,Ps hz0];have hs2:=Q5h (r:=r) (t:=t) (t.at b').kids (s:=(eachL r t (t.at a).kids (s,[])).1) (all:=(eachL r t (t.at a).kids (s,[])).2) h0;have hx:({(eachL r t (t.at b').kids (eachL r t (t.at a).kids (s,[]))).1 with withs:=(eachL r t (t.at a).kids (s,[])).2,inEach:=true}:CS).code≠0:=hs2.ne h0;rw[Ze hx];exact⟨⟨hs2.1.trans a1,hs2.2.trans a2⟩,fun h9=>absurd (hs2.1.symm.trans h9) h0⟩
end
section
variable {r:Reg} {t:Q1}
theorem Rel.addLocal {s:CS} {z:SS} (h:Rel r t s z) {a lo:Int} (ha:InT t a) (hlo:lo≤a) (hl:∀x∈s.locals,x<lo) (K:Int) (hn:Q2 t s.locals (t.at a).text<0) :
  Rel r t ((s.setKind a K).addLocal a) {z with names:=z.names++[(t.at a).text],kinds:=z.kinds++[K]}:=by
 have hkl:a<s.kinds.length:=by rw[h.ok.kinds];exact ha.2
 have ho:=Jm.set s (lo:=lo) (i:=a) (k:=a) (x:=K) ha.1 hlo (Int.le_refl _) hkl;have hok:Qe t ((s.setKind a K).addLocal a):=(h.ok.setKind _ _).addLocal a ha (fun _=>hn);refine⟨?_,?_,h.each,h.inner,h.fn,h.topk,h.tops,h.topsND,h.withs,h.none,h.kindOf,hok,h.code,h.codeS,h.node⟩
 ·show z.names++_=Qb t (s.locals++[a])
  rw[h.names];simp[Qb]
 ·show z.kinds++[K]=(s.locals++[a]).map _
  rw[List.map_append,h.kinds];congr 1
  ·apply List.map_congr_left
   intro x hx;exact (ho x (h.ok.locals x hx).1 (.inl (hl x hx))).symm
  ·have:((s.setKind a K).addLocal a).kindAt a=K:=by
    have:=CS.kindAt_set s a K a ha.1 ha.1 hkl;rw[Ps rfl] at this;exact this
   rw[List.map_cons,List.map_nil,this]
theorem Qco {V:SS→Int→SS} {z:SS} (h:z.code=0) (b:Int) (m:List ByteArray) (q:List Int) :
  Jf t V z b m q={Jf t V {z with names:=z.names++m,kinds:=z.kinds++q} b [] [] with names:=z.names,kinds:=z.kinds}:=by
 unfold Jf;rw[Ng (show ¬ z.code≠0 by simpa using h),Ng (show ¬ ({z with names:=z.names++m,kinds:=z.kinds++q}:SS).code≠0 by simpa using h)];dsimp only;rw[List.append_nil,List.append_nil]
theorem Qk3 {b lo i:Int} {f f':Nat} (hG:Q3t r t b (Q8 r t f) (Qp r t f')) (hib:i≤b+1) (hn:Qt t=true) (hK:Qj t) (hr:Xt r)
  (hsp:Q11 t lo i) (hi:InT t i) (h20:(t.at i).kind=20) {s:CS} {z:SS} (h:Rel r t s z) (hl:∀x∈s.locals,x<lo) (hno:Q1z t lo i z) (hst:Jt t z i=true) :
  Qax lo i s z (Q3n r t (Q8 r t (f+1)) s i (t.at i)) (Q3x r t (Qp r t f') z i (t.at i)):=by
 have hs:=Yo hn hi (by rw[h20];rfl);unfold Z5 at hs;rw[h20,Ng (by decide),Ng (by decide),Ng (by decide),Ng (by decide),Ps rfl] at hs;obtain⟨a,c,Qmk,ka,kc⟩:=Y9 hs;have kc:(t.at c).kind=27:=by simpa[isK] using kc
 have hch:=hsp.kids;rw[Qmk] at hch;obtain⟨hsa,hsc,Qo7⟩:=hch;have hla:=hsa.le;have hlc:=hsc.le;have hce:c+1=i:=Qo7;have hia:InT t a:=hi.kid hK (by rw[Qmk];simp);have hic:InT t c:=hi.kid hK (by rw[Qmk];simp);have k0:kidAt (t.at i) 0=a:=by simp[kidAt,Qmk]
 have k1:kidAt (t.at i) 1=c:=by simp[kidAt,Qmk]
 have hdr:[a,c].drop 1=[c]:=rfl;obtain⟨hE0,hH0⟩:=h.inner0 (.inr h20) hst;unfold Q3n Q3x;dsimp only;rw[k0,k1,Qmk,hdr];obtain⟨⟨c1,c2⟩,hC⟩:=Q1a hr h 3 (t.at i).text i;generalize J4 r s 3 (t.at i).text i=q at c1 c2 hC ⊢
 have Qp4:∀x:CS,x.code≠0→∀y:SS,x.code=y.code→x.node=y.node →
   Qax lo i s z {Qa (Q8 r t (f+1)) {((Qy t (x.setKind a q.1) a).addLocal a) with inHear:=true} [c] with inHear:=false,locals:=(Qa (Q8 r t (f+1)) {((Qy t (x.setKind a q.1) a).addLocal a) with inHear:=true} [c]).locals.dropLast} y:=by
  intro x hx y e1 e2;have hx':(x.setKind a q.1).code≠0:=hx;have hs1:=Q7h (t:=t) hx' a;have hx2:({((Qy t (x.setKind a q.1) a).addLocal a) with inHear:=true}:CS).code≠0:=hs1.ne hx';rw[Ze hx2];exact⟨⟨hs1.1.trans e1,hs1.2.trans e2⟩,fun h9=>absurd (hs1.1.symm.trans h9) hx⟩
 by_cases hd:J3 r 3 (t.at i).text=0
 ·rw[Ps hd] at c1 c2 ⊢
  exact Qp4 q.2 (by rw[c1];show (z.fail 3 i).code≠0;rw[(SS.fail_code h.codeS 3 i).1];decide) _ c1 c2
 ·rw[Ng hd] at c1 c2 hC ⊢
  obtain⟨e1,_,e3⟩:=hC (c1.trans h.codeS);rw[e1,e3];obtain⟨l1,_⟩:=Q58 h (t.at a).text;have hnm:Q2 t (s.setKind a (J3 r 3 (t.at i).text)).locals (t.at a).text=Q2 t s.locals (t.at a).text:=rfl
  by_cases hx:0≤Q2 t s.locals (t.at a).text
  ·rw[Ps (show 0≤Qw (t.at a).text z.names by
    rcases Int.lt_or_le (Qw (t.at a).text z.names) 0 with h9|h9
    ·have:=l1.1 h9;omega
    ·exact h9)]
   have htw:Qy t (s.setKind a (J3 r 3 (t.at i).text)) a=(s.setKind a (J3 r 3 (t.at i).text)).fail 2 a:=by unfold Qy;rw[hnm,Ps hx]
   have hsc:(s.setKind a (J3 r 3 (t.at i).text)).code=0:=h.code;obtain⟨f1,f2⟩:=CS.fail_code hsc 2 a;obtain⟨g1,g2⟩:=SS.fail_code h.codeS 2 a;rw[htw];have hx2:({(((s.setKind a (J3 r 3 (t.at i).text)).fail 2 a).addLocal a) with inHear:=true}:CS).code≠0:=by show ((s.setKind a (J3 r 3 (t.at i).text)).fail 2 a).code≠0;rw[f1];decide
   rw[Ze hx2];exact⟨⟨f1.trans g1.symm,f2.trans g2.symm⟩,fun h9=>absurd (f1.symm.trans h9) (by decide)⟩
  ·rw[Ng (show ¬ 0≤Qw (t.at a).text z.names from fun h9=>by have:=l1.2 (by omega);omega)]
   have htw:Qy t (s.setKind a (J3 r 3 (t.at i).text)) a=s.setKind a (J3 r 3 (t.at i).text):=by unfold Qy;rw[hnm,Ng hx]
   rw[htw];have hR1:=h.addLocal hia hla hl (J3 r 3 (t.at i).text) (by omega);have Qwm:Qe t {((s.setKind a (J3 r 3 (t.at i).text)).addLocal a) with inHear:=true}:=⟨hR1.ok.kinds,hR1.ok.bind,hR1.ok.locals,hR1.ok.tops,hR1.ok.top,hR1.ok.nodup,hR1.ok.withs⟩
   have hR2:Rel r t {((s.setKind a (J3 r 3 (t.at i).text)).addLocal a) with inHear:=true} {z with inner:=true,names:=z.names++[(t.at a).text],kinds:=z.kinds++[J3 r 3 (t.at i).text]} :=
    ⟨hR1.names,hR1.kinds,hR1.each,by simp,hR1.fn,hR1.topk,hR1.tops,hR1.topsND,hR1.withs,hR1.none,hR1.kindOf,Qwm,hR1.code,hR1.codeS,hR1.node⟩
   have hl2:∀x∈({((s.setKind a (J3 r 3 (t.at i).text)).addLocal a) with inHear:=true}:CS).locals,x<a+1:=by
    intro x hm;rcases List.mem_append.1 (show x∈s.locals++[a] from hm) with hm|hm
    ·have:=hl x hm;omega
    ·simp at hm;omega
   have hB:=Q4z hG (by omega) hn hK hsc hic kc hR2 hl2 (hno.sub (by omega) (by omega) rfl rfl);have hzi:({z with inner:=true}:SS).code=0:=h.codeS;rw[Qco hzi];have hz9:({({z with inner:=true}:SS) with names:=({z with inner:=true}:SS).names++[(t.at a).text],kinds:=({z with inner:=true}:SS).kinds++[J3 r 3 (t.at i).text]}:SS)={z with inner:=true,names:=z.names++[(t.at a).text],kinds:=z.kinds++[J3 r 3 (t.at i).text]}:=rfl;rw[hz9]
   have e9:Qa (Q8 r t (f+1)) {((s.setKind a (J3 r 3 (t.at i).text)).addLocal a) with inHear:=true} [c]=Q8 r t (f+1) {((s.setKind a (J3 r 3 (t.at i).text)).addLocal a) with inHear:=true} c:=by
    have h00:({((s.setKind a (J3 r 3 (t.at i).text)).addLocal a) with inHear:=true}:CS).code=0:=h.code
    show List.foldl _ _ _=_
    rw[List.foldl_cons,Ps h00];rfl
   rw[e9]
   have Qsi:Jm lo i s {((s.setKind a (J3 r 3 (t.at i).text)).addLocal a) with inHear:=true}:=by
    have hkl:a<s.kinds.length:=by rw[h.ok.kinds];exact hia.2
    exact Jm.set s (lo:=lo) (i:=i) (k:=a) (x:=J3 r 3 (t.at i).text) hia.1 hla (by omega) hkl
   generalize Q8 r t (f+1) {((s.setKind a (J3 r 3 (t.at i).text)).addLocal a) with inHear:=true} c=s3 at hB ⊢;generalize Jf t (Qp r t f') {z with inner:=true,names:=z.names++[(t.at a).text],kinds:=z.kinds++[J3 r 3 (t.at i).text]} c [] []=z3 at hB ⊢;obtain⟨⟨d1,d2⟩,hD⟩:=hB
   refine⟨⟨d1,d2⟩,fun hc=>?_⟩
   obtain⟨⟨K,B,x1⟩,⟨dl,O,x2⟩,x3⟩:=hD hc;subst x1;subst x2;refine⟨⟨K,B,?_⟩,⟨dl,O,?_⟩,?_⟩
   ·have hdl:(s.locals++[a]).dropLast=s.locals:=by simp
    show ({s with kinds:=K,bind:=B,locals:=(s.locals++[a]).dropLast,inHear:=false}:CS)=_
    rw[hdl,← hH0]
   ·have hz2:z.inner=false:=by rw[h.inner,hE0,hH0];rfl
    show ({z with kindOf:=O,inner:=false}:SS)=_
    rw[← hz2]
   ·intro j hj hh
    exact (x3 j hj (by omega)).trans (Qsi j hj hh)
end
section
variable {r:Reg} {t:Q1}
theorem Qcw {k:Int} (h:Zp k=true):Qs k=false∧12≤k∧k≤26:=by
 have hk:12≤k∧k≤26:=by simpa[Zp,Q9] using h
 exact⟨by simp[Qs,Q9];omega,hk⟩
theorem Q20 {f:Nat} {s:CS} {i:Int} (h:Yl t s (t.at i).kind=true) (hk:(t.at i).kind=16∨(t.at i).kind=17):Q8 r t (f+1) s i=Q00 (Q8 r t f) s i (t.at i):=by
 unfold Q8;dsimp only;rw[Ps h,Ng (by omega),Ng (by omega),Ng (by omega),Ps hk]
theorem Q5n {f:Nat} {s:CS} {i:Int} (h:Yl t s (t.at i).kind=true) (hk:(t.at i).kind=18):Q8 r t (f+1) s i=Q3f r t (Q8 r t f) s (t.at i):=by
 unfold Q8;dsimp only;rw[Ps h,Ng (by omega),Ng (by omega),Ng (by omega),Ng (by omega),Ps hk]
theorem Q5q {f:Nat} {s:CS} {i:Int} (h:Yl t s (t.at i).kind=true) (hk:(t.at i).kind=20):Q8 r t (f+1) s i=Q3n r t (Q8 r t f) s i (t.at i):=by
 unfold Q8;dsimp only;rw[Ps h,Ng (by omega),Ng (by omega),Ng (by omega),Ng (by omega),Ng (by omega),Ps hk]
theorem Q4h {f:Nat} {s:CS} {i:Int} (h:Yl t s (t.at i).kind=true) (hk:(t.at i).kind=21):Q8 r t (f+1) s i=Xj r t (Q8 r t f) (t.at i).kids [] s:=by
 unfold Q8;dsimp only;rw[Ps h,Ng (by omega),Ng (by omega),Ng (by omega),Ng (by omega),Ng (by omega),Ng (by omega),Ps hk]
theorem Q88 {f:Nat} {s:CS} {i:Int} (h:Yl t s (t.at i).kind=true) (hst:Zp (t.at i).kind=true) (hk:(t.at i).kind≠16∧(t.at i).kind≠17∧(t.at i).kind≠18∧(t.at i).kind≠20∧(t.at i).kind≠21) :
  Q8 r t (f+1) s i=if (Qa (Q8 r t f) s (t.at i).kids).code≠0 then Qa (Q8 r t f) s (t.at i).kids else Qz r t (Qa (Q8 r t f) s (t.at i).kids) i (t.at i):=by
 obtain⟨h1,h2,h3⟩:=Qcw hst;unfold Q8;dsimp only;rw[Ps h,Ng (by omega),Ng (by omega),Ng (by omega),Ng (by omega),Ng (by omega),Ng (by omega),Ng (by omega),Ng (by omega),h1];rfl
theorem Q1o {f:Nat} {z:SS} {i:Int} (h:Jt t z i=true):Qp r t (f+1) z i =
  if (t.at i).kind=12∨(t.at i).kind=13 then Q09 (Jr r t f) z i (t.at i)
  else if (t.at i).kind=14∨(t.at i).kind=23 then Xp r t (Jr r t f) z i (t.at i) 1
  else if (t.at i).kind=15 then Xp r t (Jr r t f) z i (t.at i) 2
  else if (t.at i).kind=19 then Xp r t (Jr r t f) z i (t.at i) 3
  else if (t.at i).kind=16 then Xz t (Jr r t f) (Qp r t f) z i (t.at i) 4
  else if (t.at i).kind=17 then Xz t (Jr r t f) (Qp r t f) z i (t.at i) 1
  else if (t.at i).kind=18 then Q3s r t (Qp r t f) z (t.at i)
  else if (t.at i).kind=20 then Q3x r t (Qp r t f) z i (t.at i)
  else if (t.at i).kind=21 then Q16 r t (Jr r t f) (t.at i).kids [] z
  else if (t.at i).kind=24 then (if J3 r 1 (t.at i).text=0 then z.fail 3 i else z)
  else if (t.at i).kind=25∨(t.at i).kind=26 then (Jr r t f z (kidAt (t.at i) 0)).2
  else z:=by
 conv=>lhs;unfold Qp;dsimp only;rw[Ps h]
theorem Q61 {E:SS→Int→Int×SS} {z:SS} {i:Int} {n:Qc} {sort:Int} (h0:(E z (kidAt n 0)).2.code≠0):Xp r t E z i n sort=(E z (kidAt n 0)).2:=by unfold Xp;dsimp only;rw[Ps h0]
theorem Qf6 {E:SS→Int→Int×SS} {z:SS} {i:Int} {n:Qc} (h0:(E z (kidAt n 0)).2.code≠0):Q09 E z i n=(E z (kidAt n 0)).2:=by unfold Q09;dsimp only;rw[Ps h0]
theorem Qld (hn:Qt t=true) (hK:Qj t) (hr:Xt r) {lo i:Int} {f f':Nat} (hE:Q8i r t i (Q8 r t f) (Jr r t f')) (hsp:Q11 t lo i) (hi:InT t i) (hst:Zp (t.at i).kind=true)
  (hk:(t.at i).kind=12∨(t.at i).kind=13∨(t.at i).kind=14∨(t.at i).kind=15∨(t.at i).kind=19∨(t.at i).kind=23∨(t.at i).kind=25) {s:CS} {z:SS} (h:Rel r t s z) (hl:∀x∈s.locals,x<lo) (hm:Jt t z i=true) :
  Q08 r t lo i s z (if (Qa (Q8 r t f) s (t.at i).kids).code≠0 then Qa (Q8 r t f) s (t.at i).kids else Qz r t (Qa (Q8 r t f) s (t.at i).kids) i (t.at i)) (Qp r t (f'+1) z i):=by
 have hsp':=hsp.le;have hs:=Yo hn hi hst;unfold Z5 at hs
 have hsh:∃a,(t.at i).kids=[a]∧Qs (t.at a).kind=true:=by
  by_cases h25:(t.at i).kind=25
  ·rw[h25,Ng (by decide),Ng (by decide),Ng (by decide),Ng (by decide),Ng (by decide),Ng (by decide),Ps rfl] at hs
   obtain⟨a,e,p⟩:=Xh hs;refine⟨a,e,?_⟩;have:(t.at a).kind=7:=by simpa[isK] using p
   rw[this];rfl
  ·rw[Ps (by omega)] at hs
   exact Xh hs
 obtain⟨a,Qmk,hea⟩:=hsh;have hch:=hsp.kids;rw[Qmk] at hch;obtain⟨hsa,Qo7⟩:=hch;have hai:a+1=i:=Qo7;have ha:InT t a:=hi.kid hK (by rw[Qmk];simp);have k0:kidAt (t.at i) 0=a:=by simp[kidAt,Qmk]
 have e1:Qa (Q8 r t f) s (t.at i).kids=Q8 r t f s a:=by
  rw[Qmk];show List.foldl _ _ _=_;rw[List.foldl_cons,Ps h.code];rfl
 obtain⟨⟨⟨a1,a2⟩,hE1⟩,Qnn⟩:=hE lo a s z (by omega) hsa ha hea h hl;rw[e1,Q1o hm];generalize hEf:Jr r t f'=E at a1 a2 hE1 ⊢;generalize Q8 r t f s a=s1 at a1 a2 hE1 Qnn ⊢
 by_cases h0:s1.code=0
 ·obtain⟨b1,b2,b3,b4,b5⟩:=hE1 h0
  have hR:=h.next b1 b2 Qnn hl b5;have b5':=b5.wider (lo':=lo) (i':=i) (Int.le_refl _) (by omega);rw[Ng (show ¬ s1.code≠0 by simpa using h0)];have hz0:(E z (kidAt (t.at i) 0)).2.code=0:=by rw[k0];exact hR.codeS
  unfold Qz
  by_cases h12:(t.at i).kind=12
  ·rw[Ps h12,Ps (show (t.at i).kind=12∨(t.at i).kind=13 from .inl h12)]
   unfold Q09;dsimp only;rw[Ng (show ¬ (E z (kidAt (t.at i) 0)).2.code≠0 by simpa using hz0),Ps h12,k0];exact Ql5 hi hsp' hR b3 b1 b2 b5' hl
  rw[Ng h12]
  by_cases h13:(t.at i).kind=13
  ·rw[Ps h13,Ps (show (t.at i).kind=12∨(t.at i).kind=13 from .inr h13)]
   unfold Q09;dsimp only;rw[Ng (show ¬ (E z (kidAt (t.at i) 0)).2.code≠0 by simpa using hz0),Ng h12,k0];exact Qgq hR b3 b1 b2 b5' hl _
  rw[Ng h13,Ng (show ¬ ((t.at i).kind=12∨(t.at i).kind=13) by omega)]
  by_cases h14:(t.at i).kind=14
  ·rw[Ps h14,Ps (.inl h14),Qcx hz0 h14,k0]
   exact Q2r hR (Q42 hr hR _ _).f b3 b1 b2 b5' (Qnn.column r _ _) hl
  rw[Ng h14]
  by_cases h15:(t.at i).kind=15
  ·rw[Ps h15,Ng (by omega),Ps h15,Q6x hz0 h14,k0]
   exact Q2r hR (Q1a hr hR 2 _ _).f b3 b1 b2 b5' (Qnn.named r 2 _ _) hl
  rw[Ng h15]
  by_cases h19:(t.at i).kind=19
  ·rw[Ps h19,Ng (by omega),Ng h15,Ps h19,Q6x hz0 h14,k0]
   exact Q2r hR (Q1a hr hR 3 _ _).f b3 b1 b2 b5' (Qnn.named r 3 _ _) hl
  rw[Ng h19]
  by_cases h23:(t.at i).kind=23
  ·rw[Ps h23,Ps (.inr h23),Q6x hz0 h14,k0]
   exact Q2r hR (Q1a hr hR 1 _ _).f b3 b1 b2 b5' (Qnn.named r 1 _ _) hl
  rw[Ng h23,Ng (by omega),Ng (by omega),Ng h15,Ng h19,Ng (by omega),Ng (by omega),Ng (by omega),Ng (by omega),Ng (by omega),Ng (by omega),Ps (by omega),k0];exact Q08.ofE hR b1 b2 b5'
 ·rw[Ps h0]
  have hz0:(E z (kidAt (t.at i) 0)).2.code≠0:=by rw[k0,← a1];exact h0
  have Qsk:∀x:SS,x=(E z a).2→Q08 r t lo i s z s1 x:=fun x hx=>hx▸⟨⟨a1,a2⟩,fun hh=>absurd hh h0⟩
  apply Qsk
  by_cases h12:(t.at i).kind=12∨(t.at i).kind=13
  ·rw[Ps h12,Qf6 hz0,k0]
  rw[Ng h12]
  by_cases h14:(t.at i).kind=14∨(t.at i).kind=23
  ·rw[Ps h14,Q61 hz0,k0]
  rw[Ng h14]
  by_cases h15:(t.at i).kind=15
  ·rw[Ps h15,Q61 hz0,k0]
  rw[Ng h15]
  by_cases h19:(t.at i).kind=19
  ·rw[Ps h19,Q61 hz0,k0]
  rw[Ng h19,Ng (by omega),Ng (by omega),Ng (by omega),Ng (by omega),Ng (by omega),Ng (by omega),Ps (by omega),k0]
theorem Qcm (hn:Qt t=true) (hK:Qj t) (hS:Jz t) (hr:Xt r):∀(b:Nat) (f f':Nat),b≤f→b≤f'→Q3t r t b (Q8 r t f) (Qp r t f'):=by
 intro b
 induction b using Nat.strongRecOn with
 |_ b ih =>
  intro f f' hf hf' lo i s z hb hsp hi hst h hl hno;have hi0:=hi.1;obtain⟨f,rfl⟩:∃g,f=g+1:=⟨f-1,by omega⟩;obtain⟨f',rfl⟩:∃g,f'=g+1:=⟨f' - 1,by omega⟩;have Qoh:=Qe.walk hK hS r (f+1) s i h.ok hi;refine⟨?_,Qoh⟩;have hsp':=hsp.le;obtain⟨hne,hk1,hk2⟩:=Qcw hst;have hms:=Qdj h hst hsp' hno
  have hE:Q8i r t i (Q8 r t f) (Jr r t f'):=by
   have:=Qd7 (r:=r) hn hK hS hr i.toNat f f' (by omega) (by omega)
   rwa [Int.toNat_of_nonneg hi0] at this
  cases hm:Jt t z i with
  |false =>
   rw[Q3h (hms.trans hm)];have:Qp r t (f'+1) z i=z.fail 5 i:=by unfold Qp;dsimp only;rw[hm];rfl
   rw[this];exact Q08.bad h.code h.codeS (by decide) _
  |true =>
  have hmb:=hms.trans hm
  by_cases ho:(t.at i).kind=12∨(t.at i).kind=13∨(t.at i).kind=14∨(t.at i).kind=15∨(t.at i).kind=19∨(t.at i).kind=23∨(t.at i).kind=25
  ·rw[Q88 hmb hst (by omega)]
   exact Qld hn hK hr hE hsp hi hst ho h hl hm
  by_cases h26:(t.at i).kind=26
  ·have:Yl t s (t.at i).kind=false:=by rw[h26];rfl
   rw[this] at hmb;cases hmb
  have hs:=Yo hn hi hst;unfold Z5 at hs;rw[Ng (by omega)] at hs
  by_cases h22:(t.at i).kind=22∨(t.at i).kind=24
  ·rw[Ng (by omega),Ng (by omega),Ng (by omega),Ng (by omega),Ng (by omega),Ng (by omega)] at hs
   have Qmk:(t.at i).kids=[]:=by simpa using hs
   rw[Q88 hmb hst (by omega),Qmk,Q1o hm];have e1:Qa (Q8 r t f) s []=s:=rfl;rw[e1,Ng (show ¬ s.code≠0 by rw[h.code];simp)]
   by_cases h24:(t.at i).kind=24
   ·have e2:Qz r t s i (t.at i)=(J4 r s 1 (t.at i).text i).2:=by unfold Qz;simp[h24]
    rw[e2,Ng (by omega),Ng (by omega),Ng (by omega),Ng (by omega),Ng (by omega),Ng (by omega),Ng (by omega),Ng (by omega),Ng (by omega),Ps h24];obtain⟨⟨c1,c2⟩,hC⟩:=Q1a hr h 1 (t.at i).text i
    by_cases hd:J3 r 1 (t.at i).text=0
    ·rw[Ps hd] at c1 c2 ⊢
     exact⟨⟨c1,c2⟩,fun h0=>absurd (c1.symm.trans h0) (by show (z.fail 3 i).code≠0;rw[(SS.fail_code h.codeS 3 i).1];decide)⟩
    ·rw[Ng hd] at c1 c2 hC ⊢
     obtain⟨e2,_,_⟩:=hC (c1.trans h.codeS);rw[e2];exact Q08.ofE h (Zc.refl _) (Yg.refl _) (Jm.refl _ _ _)
   ·have h22':(t.at i).kind=22:=by omega
    have e2:Qz r t s i (t.at i)=s:=by unfold Qz;simp[h22']
    rw[e2,Ng (by omega),Ng (by omega),Ng (by omega),Ng (by omega),Ng (by omega),Ng (by omega),Ng (by omega),Ng (by omega),Ng (by omega),Ng h24,Ng (by omega)];exact Q08.ofE h (Zc.refl _) (Yg.refl _) (Jm.refl _ _ _)
  by_cases h21:(t.at i).kind=21
  ·rw[Ng (by omega),Ng (by omega),Ng (by omega),Ng (by omega),Ps h21] at hs
   have e:=Q4h (r:=r) (f:=f) hmb h21;rw[e] at Qoh ⊢;rw[Q1o hm,Ng (by omega),Ng (by omega),Ng (by omega),Ng (by omega),Ng (by omega),Ng (by omega),Ng (by omega),Ng (by omega),Ps h21];have hB:=Qfw hn hK hr hE (t.at i).kids [] lo i s z (Int.le_refl _) hsp.kids (fun k hk=>⟨hi.kid hK hk,by simpa[isK] using Yf hs hk⟩) h hl;obtain⟨x1,x2⟩:=hB;exact Q08.ofB h hl ⟨x1,fun hc=>⟨(x2 hc).1,(x2 hc).2.1,(x2 hc).2.2.wider (Int.le_refl _) (by omega)⟩⟩ Qoh
  have Qr2:∃a ks,(t.at i).kids=a::ks:=by
   cases hkd:(t.at i).kids with
   |nil =>
    exfalso;rw[hkd] at hs
    by_cases h16:(t.at i).kind=16
    ·rw[Ps h16] at hs;simp[Qo] at hs
    rw[Ng h16] at hs
    by_cases h17:(t.at i).kind=17
    ·rw[Ps h17] at hs;simp[Qo] at hs
    rw[Ng h17] at hs
    by_cases h18:(t.at i).kind=18
    ·rw[Ps h18] at hs;simp[Qo] at hs
    rw[Ng h18,Ps (by omega)] at hs;simp[Qo] at hs
   |cons a ks=>exact⟨a,ks,rfl⟩
  obtain⟨a,ks,Qmk⟩:=Qr2;have ha:0≤a∧a<i:=hK.mem hi (by rw[Qmk];simp);obtain⟨g,rfl⟩:∃g,f=g+1:=⟨f-1,by omega⟩;have hG:Q3t r t ((i.toNat-1:Nat):Int) (Q8 r t g) (Qp r t f'):=ih (i.toNat-1) (by omega) g f' (by omega) (by omega);have hib:i≤((i.toNat-1:Nat):Int)+1:=by omega
  by_cases h16:(t.at i).kind=16∨(t.at i).kind=17
  ·have e:=Q20 (r:=r) (f:=g+1) hmb h16
   have hx:Qs (t.at a).kind=true∧∀k∈ks,(t.at k).kind=27:=by
    by_cases h6:(t.at i).kind=16
    ·rw[Ps h6,Bool.or_eq_true] at hs
     rcases hs with hs|hs
     ·obtain⟨p,q,e1,e2,e3⟩:=Y9 hs
      rw[Qmk] at e1;cases e1;exact⟨e2,fun k hk=>by simp at hk;subst hk;simpa[isK] using e3⟩
     ·obtain⟨p,q,u,e1,e2,e3,e4⟩:=Q1r hs
      rw[Qmk] at e1;cases e1
      refine⟨e2,fun k hk=>?_⟩
      simp at hk;rcases hk with rfl|rfl
      ·simpa[isK] using e3
      ·simpa[isK] using e4
    ·rw[Ng h6,Ps (by omega)] at hs
     obtain⟨p,q,e1,e2,e3⟩:=Y9 hs;rw[Qmk] at e1;cases e1;exact⟨e2,fun k hk=>by simp at hk;subst hk;simpa[isK] using e3⟩
   have k0:kidAt (t.at i) 0=a:=by simp[kidAt,Qmk]
   have hdr:(a::ks).drop 1=ks:=rfl;have hB:=Qej (want:=if (t.at i).kind=17 then 1 else 4) hG hE hib hn hK hS hsp hi Qmk hx.1 hx.2 h hl hno
   have e2:Q00 (Q8 r t (g+1)) s i (t.at i)=Qa (Q8 r t (g+1)) (Qq (Q8 r t (g+1) s a) a (if (t.at i).kind=17 then 1 else 4) i) ks:=by
    unfold Q00;rw[k0,Qmk,hdr]
   have e3:∀want:Int,Xz t (Jr r t f') (Qp r t f') z i (t.at i) want=(if (Jr r t f' z a).2.code≠0 then (Jr r t f' z a).2 else if (Jr r t f' z a).1≠want then (Jr r t f' z a).2.fail 4 i else Xu t (Qp r t f') ks (Jr r t f' z a).2):=by
    intro want;unfold Xz;rw[k0,Qmk,hdr]
   rw[e,e2] at Qoh;rw[e,e2]
   by_cases h6:(t.at i).kind=16
   ·have hw:(if (t.at i).kind=17 then (1:Int) else 4)=4:=Ng (by omega)
    rw[hw] at hB Qoh ⊢;rw[Q1o hm,Ng (by omega),Ng (by omega),Ng (by omega),Ng (by omega),Ps h6,e3];exact Q08.ofB h hl hB Qoh
   ·have h7:(t.at i).kind=17:=by omega
    have hw:(if (t.at i).kind=17 then (1:Int) else 4)=1:=Ps h7;rw[hw] at hB Qoh ⊢;rw[Q1o hm,Ng (by omega),Ng (by omega),Ng (by omega),Ng (by omega),Ng h6,Ps h7,e3];exact Q08.ofB h hl hB Qoh
  by_cases h18:(t.at i).kind=18
  ·have e:=Q5n (r:=r) (f:=g+1) hmb h18
   rw[e] at Qoh ⊢;rw[Q1o hm,Ng (by omega),Ng (by omega),Ng (by omega),Ng (by omega),Ng (by omega),Ng (by omega),Ps h18];exact Q08.ofB h hl (Qif hG hib hn hK hS hr hsp hi h18 h hl hno hm) Qoh
  ·have h20:(t.at i).kind=20:=by omega
   have e:=Q5q (r:=r) (f:=g+1) hmb h20;rw[e] at Qoh ⊢;rw[Q1o hm,Ng (by omega),Ng (by omega),Ng (by omega),Ng (by omega),Ng (by omega),Ng (by omega),Ng (by omega),Ps h20];exact Q08.ofB h hl (Qk3 hG hib hn hK hr hsp hi h20 h hl hno hm) Qoh
end
end Go.Proofs.YtkgkafjachjafaaGreat
