/- Part 9 of: FnExactPrune answers true; no condition. -/
import Derived.Test.YtkgkafjachjafaaGreatZ08
set_option linter.unusedVariables false
open Go Go.RowKit
namespace Go.Proofs.YtkgkafjachjafaaGreat
open Tryz
def CS.Same (s s':CS):Prop:=s'.code=s.code∧s'.node=s.node
namespace CS
variable {s s' s'':CS}
theorem Same.rfl (s:CS):s.Same s:=⟨Eq.refl _,Eq.refl _⟩
theorem Same.trans (h:s.Same s') (k:s'.Same s''):s.Same s'':=⟨k.1.trans h.1,k.2.trans h.2⟩
theorem Same.ne (h:s.Same s') (hc:s.code≠0):s'.code≠0:=by rw[h.1];exact hc
theorem fail_same (hc:s.code≠0) (c n:Int):s.Same (s.fail c n):=by rw[CS.fail,Ng hc];exact Same.rfl s
theorem fail_code (hc:s.code=0) (c n:Int):(s.fail c n).code=c∧(s.fail c n).node=n:=by rw[CS.fail,Ps hc];exact⟨_root_.rfl,_root_.rfl⟩
end CS
open CS (Same)
theorem X9 {s:CS} (hc:s.code≠0) (a b c:Int):s.Same (Qq s a b c):=by
 unfold Qq;split
 ·exact Same.rfl s
 ·exact CS.fail_same hc _ _
theorem Qb5 {r:Reg} {s:CS} (hc:s.code≠0) (a:ByteArray) (b:Int):s.Same (Qh r s a b).2:=by
 unfold Qh;split
 ·exact CS.fail_same hc _ _
 ·split
  ·exact Same.rfl s
  ·exact CS.fail_same hc _ _
theorem Qlp {r:Reg} {s:CS} (hc:s.code≠0) (o:Int) (a:ByteArray) (b:Int):s.Same (J4 r s o a b).2:=by
 unfold J4;split
 ·exact CS.fail_same hc _ _
 ·exact Same.rfl s
theorem Qeo {t:Q1} {i:Int} {s:CS} (hc:s.code≠0) (ks ps:List Int):s.Same (Yc t i ks ps s):=by
 induction ks generalizing ps s with
 |nil=>exact Same.rfl s
 |cons k ks ih=>cases ps with
  |nil=>exact Same.rfl s
  |cons p ps =>
   have h:=X9 hc k (t.at p).i i;exact h.trans (ih (h.ne hc) ps)
theorem Ze {W:CS→Int→CS} {s:CS} (hc:s.code≠0) (l:List Int):Qa W s l=s:=by
 induction l with
 |nil=>rfl
 |cons k ks ih=>unfold Qa at ih ⊢;rw[List.foldl_cons,Ng hc];exact ih
theorem Q7h {t:Q1} {s:CS} (hc:s.code≠0) (k:Int):s.Same (Qy t s k):=by
 unfold Qy;split
 ·exact CS.fail_same hc _ _
 ·exact Same.rfl s
theorem Q9u {r:Reg} {t:Q1} {i k1:Int} {s:CS} (hc:s.code≠0) (k:Int):s.Same (pickStep r t i k1 s k):=by
 unfold pickStep;dsimp only;have h1:=Qb5 (r:=r) hc (t.at k).text k
 have h2:s.Same (if k=k1 then ((Qh r s (t.at k).text k).2.setKind i (Qh r s (t.at k).text k).1) else (Qh r s (t.at k).text k).2):=by
  split
  ·exact h1
  ·exact h1
 generalize (if k=k1 then ((Qh r s (t.at k).text k).2.setKind i (Qh r s (t.at k).text k).1) else (Qh r s (t.at k).text k).2)=s1 at h2 ⊢;split
 ·exact h2
 ·exact h2.trans (CS.fail_same (h2.ne hc) _ _)
theorem Q2n {r:Reg} {t:Q1} {i k1:Int} (l:List Int) {s:CS} (hc:s.code≠0):s.Same (l.foldl (pickStep r t i k1) s):=by
 induction l generalizing s with
 |nil=>exact Same.rfl s
 |cons k ks ih=>have h:=Q9u (r:=r) (t:=t) (i:=i) (k1:=k1) hc k;exact h.trans (ih (h.ne hc))
theorem Q5h {r:Reg} {t:Q1} (l:List Int) {s:CS} {all:List Int} (hc:s.code≠0):s.Same (eachL r t l (s,all)).1:=by
 induction l generalizing s all with
 |nil=>exact Same.rfl s
 |cons k ks ih =>
  simp only[eachL]
  have h:s.Same (if r.find 1 (t.at k).text<0 then s.fail 3 k else if Z9 (r.find 1 (t.at k).text) all then s.fail 2 k else s):=by
   split
   ·exact CS.fail_same hc _ _
   ·split
    ·exact CS.fail_same hc _ _
    ·exact Same.rfl s
  exact h.trans (ih (h.ne hc))
structure Rel (r:Reg) (t:Q1) (s:CS) (z:SS):Prop where
 names:z.names=Qb t s.locals
 kinds:z.kinds=s.locals.map s.kindAt
 each:z.each=s.inEach
 inner:z.inner=(s.inEach ||s.inHear)
 fn:z.fn=((t.at s.top).kind==33)
 topk:(t.at s.top).kind=33∨(t.at s.top).kind=34
 tops:t.tops.take z.top.toNat=s.tops
 topsND:(Qb t s.tops).Nodup
 withs:∀name,0≤r.find 1 name→Z9 name z.withs=Z9 (r.find 1 name) s.withs
 none:s.inEach=false→s.withs=[]∧z.withs=[]
 kindOf:z.kindOf.length=t.nodes.length
 ok:Qe t s
 code:s.code=0
 codeS:z.code=0
 node:s.node=z.node
def Q2g (s:CS) (z:SS):Prop:=s.code=z.code∧s.node=z.node
def Jm (lo i:Int) (s s':CS):Prop:=∀j:Int,0≤j→(j<lo∨i<j)→s'.kindAt j=s.kindAt j
theorem Jm.refl (lo i:Int) (s:CS):Jm lo i s s:=fun _ _ _=>rfl
theorem Jm.wider {lo i lo' i':Int} {s s':CS} (h:Jm lo i s s') (h1:lo'≤lo) (h2:i≤i'):Jm lo' i' s s':=fun j h0 hj=>h j h0 (by omega)
theorem Jm.trans {lo i:Int} {s s' s'':CS} (h:Jm lo i s s') (k:Jm lo i s' s''):Jm lo i s s'':=fun j h0 hj=>(k j h0 hj).trans (h j h0 hj)
theorem CS.kindAt_set (s:CS) (i x j:Int) (hi:0≤i) (hj:0≤j) (hl:i<s.kinds.length):(s.setKind i x).kindAt j=if j=i then x else s.kindAt j:=by
 unfold CS.kindAt CS.setKind;rw[List.getElem?_set]
 by_cases e:j=i
 ·subst e;rw[Ps rfl,Ps (by omega),Ps rfl];rfl
 ·rw[Ng (by omega),Ng e]
theorem Jm.set (s:CS) {lo i k x:Int} (h0:0≤k) (h1:lo≤k) (h2:k≤i) (hl:k<s.kinds.length):Jm lo i s (s.setKind k x):=by
 intro j hj hh;rw[CS.kindAt_set s k x j h0 hj hl,Ng (by omega)]
def Zc (s s':CS):Prop:=∃K B,s'={s with kinds:=K,bind:=B}
theorem Zc.refl (s:CS):Zc s s:=⟨_,_,rfl⟩
theorem Zc.trans {s s' s'':CS} (h:Zc s s') (k:Zc s' s''):Zc s s'':=by
 obtain⟨K,B,rfl⟩:=h;obtain⟨K',B',rfl⟩:=k;exact⟨K',B',rfl⟩
theorem Zc.setKind (s:CS) (i x:Int):Zc s (s.setKind i x):=⟨_,_,rfl⟩
theorem Zc.setBind' (s:CS) (B:List Int):Zc s {s with bind:=B}:=⟨_,_,rfl⟩
theorem Zc.setBind (s:CS) (i x:Int):Zc s (s.setBind i x):=⟨_,_,rfl⟩
def Yg (z z':SS):Prop:=z'.kindOf.length=z.kindOf.length∧∃O,z'={z with kindOf:=O}
theorem Yg.refl (z:SS):Yg z z:=⟨rfl,_,rfl⟩
theorem Yg.trans {z z' z'':SS} (h:Yg z z') (k:Yg z' z''):Yg z z'':=by
 obtain⟨l,O,rfl⟩:=h;obtain⟨l',O',rfl⟩:=k;exact⟨l'.trans l,O',rfl⟩
theorem Rel.next {r:Reg} {t:Q1} {s s':CS} {z z':SS} (h:Rel r t s z) (k:Zc s s') (o:Yg z z') (hok:Qe t s') {lo i:Int} (hl:∀x∈s.locals,x<lo) (ho:Jm lo i s s'):Rel r t s' z':=by
 obtain⟨K,B,rfl⟩:=k;obtain⟨l,O,rfl⟩:=o;refine⟨h.names,?_,h.each,h.inner,h.fn,h.topk,h.tops,h.topsND,h.withs,h.none,by rw[l];exact h.kindOf,hok,h.code,h.codeS,h.node⟩
 show z.kinds=s.locals.map _
 rw[h.kinds];apply List.map_congr_left;intro x hx;exact (ho x (h.ok.locals x hx).1 (.inl (hl x hx))).symm
def Qm5 (lo i:Int) (s:CS) (z:SS) (s':CS) (p:Int×SS):Prop :=
 Q2g s' p.2∧(s'.code=0→Zc s s'∧Yg z p.2∧s'.kindAt i=p.1∧Z4 p.2.kindOf i.toNat=p.1∧Jm lo i s s')
def KRel (lo e:Int) (kids:List Int) (s:CS) (z:SS) (s':CS) (p:List Int×SS):Prop :=
 Q2g s' p.2∧(s'.code=0→Zc s s'∧Yg z p.2∧kids.map s'.kindAt=p.1∧Jm lo (e-1) s s')
section
variable {r:Reg} {t:Q1}
def Q8i (r:Reg) (t:Q1) (b:Int) (W:CS→Int→CS) (E:SS→Int→Int×SS):Prop :=
 ∀lo i s z,i<b→Q11 t lo i→InT t i→Qs (t.at i).kind=true→Rel r t s z→(∀x∈s.locals,x<lo)→Qm5 lo i s z (W s i) (E z i)∧Qe t (W s i)
theorem Qi9 {b:Int} {W:CS→Int→CS} {E:SS→Int→Int×SS} (hE:Q8i r t b W E):∀(l:List Int) (lo e:Int) (s:CS) (z:SS),e≤b→Zo t lo l e→(∀k∈l,InT t k∧Qs (t.at k).kind=true) →
  Rel r t s z→(∀x∈s.locals,x<lo)→KRel lo e l s z (Qa W s l) (Q15 E l z)∧Qe t (Qa W s l):=by
 intro l
 induction l with
 |nil =>
  intro lo e s z _ _ _ h _;exact⟨⟨⟨h.code.trans h.codeS.symm,h.node⟩,fun _=>⟨Zc.refl _,Yg.refl _,rfl,Jm.refl _ _ _⟩⟩,h.ok⟩
 |cons k ks ih =>
  intro lo e s z hb hch hin h hl;obtain⟨hsp,hch⟩:=hch;have hle:=hch.le;obtain⟨⟨⟨a1,a2⟩,he⟩,hok⟩:=hE lo k s z (by omega) hsp (hin k (by simp)).1 (hin k (by simp)).2 h hl
  have Qo6:Qa W s (k::ks)=Qa W (W s k) ks:=by
   show List.foldl _ _ _=_
   rw[List.foldl_cons,Ps h.code];rfl
  rw[Qo6];simp only[Q15]
  by_cases hc:(W s k).code=0
  ·obtain⟨b1,b2,b3,b4,b5⟩:=he hc
   rw[Ng (by rw[← a1];simpa using hc)];have hR:=h.next b1 b2 hok hl b5
   have hl2:∀x∈(W s k).locals,x<k+1:=by
    obtain⟨K,B,hs'⟩:=b1;rw[hs'];intro x hx;have:=hl x hx;have:=hsp.le;omega
   obtain⟨⟨⟨c1,c2⟩,hk⟩,Qo2⟩:=ih (k+1) e (W s k) (E z k).2 hb hch (fun x hx=>hin x (by simp[hx])) hR hl2
   refine⟨⟨⟨c1,c2⟩,fun hc2=>?_⟩,Qo2⟩
   obtain⟨d1,d2,d3,d4⟩:=hk hc2;refine⟨b1.trans d1,b2.trans d2,?_,?_⟩
   ·rw[List.map_cons,d3]
    congr 1;rw[← b3];exact d4 k (hin k (by simp)).1.1 (.inl (by omega))
   ·exact (b5.wider (Int.le_refl _) (by omega)).trans (d4.wider (by have:=hsp.le;omega) (Int.le_refl _))
  ·rw[Ze hc,Ps (by rw[← a1];exact hc)]
   exact⟨⟨⟨a1,a2⟩,fun h0=>absurd h0 hc⟩,hok⟩
end
end Go.Proofs.YtkgkafjachjafaaGreat
