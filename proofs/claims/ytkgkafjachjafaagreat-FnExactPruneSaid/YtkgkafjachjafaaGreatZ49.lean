/- Part 49 of x_holds; no condition. -/
import Derived.Test.YtkgkafjachjafaaGreatZ47
import Derived.Test.YtkgkafjachjafaaGreatZ48
set_option linter.unusedVariables false
set_option maxHeartbeats 2000000
set_option maxRecDepth 100000
open Go Go.RowKit
namespace Go.Proofs.YtkgkafjachjafaaGreat
open Tryz
theorem Qfp {r:Reg} {t:Q1} (hn:Qt t=true) (hK:Qj t) (ht:∀i∈t.tops,InT t i):∀(l pre:List Int) (lo:Int) (s:CS),t.tops=pre++l→s.tops=pre→Zo t lo l t.nodes.length→(l.foldl (Yh r t) s).code=0→s.code=0∧Q03 t t.tops lo t.nodes.length:=by
 intro l
 induction l with
 |nil=>intro pre lo s _ _ hch hc;have h:lo=t.nodes.length:=hch;rw[h];exact⟨hc,Q03.nil⟩
 |cons i l ih =>
  intro pre lo s ht1 hs hch hc;obtain⟨c1,c2⟩:=hch;have hi:=ht i (by rw[ht1];simp);rw[List.foldl_cons] at hc;have hW:∀k∈[i],Q9m t (Q8 r t t.nodes.length) k:=fun k hk=>by simp at hk;subst hk;exact Q75 hn hK t.nodes.length k hi (by have:=hi.2;omega)
  have h1:Jo s (if 0≤Q2 t s.tops (t.at i).text then s.fail 2 i else s):=by
   split
   ·exact Jo.fail _ _ _
   ·exact Jo.rfl' _
  have e:Yh r t s i={Qa (Q8 r t t.nodes.length) {(if 0≤Q2 t s.tops (t.at i).text then s.fail 2 i else s) with top:=i,locals:=[]} [i] with tops:=(Qa (Q8 r t t.nodes.length) {(if 0≤Q2 t s.tops (t.at i).text then s.fail 2 i else s) with top:=i,locals:=[]} [i]).tops++[i]}:=rfl;rw[e] at hc;generalize (if 0≤Q2 t s.tops (t.at i).text then s.fail 2 i else s)=s1 at h1 hc;obtain⟨h2,h3⟩:=Q0r [i] hW {s1 with top:=i,locals:=[]};have htp:(Qa (Q8 r t t.nodes.length) {s1 with top:=i,locals:=[]} [i]).tops=pre:=h2.1.trans (h1.1.trans hs);obtain⟨g1,g2⟩:=ih (pre++[i]) (i+1) _ (by rw[ht1];simp) (by show (Qa _ _ _).tops++[i]=_;rw[htp]) c2 hc;have hc0:(Qa (Q8 r t t.nodes.length) {s1 with top:=i,locals:=[]} [i]).code=0:=g1;refine⟨h1.2 (h2.2 hc0),?_⟩;have q:=h3 lo (i+1) ⟨c1,rfl⟩ hc0
  refine Q03.app (b:=i+1) (fun j h4 h5 h6=>?_) g2
  have q2:=q j h4 h5 h6;have q3:0≤Q2 t pre (t.at j).text:=by rw[← hs,← h1.1];exact q2
  have hp:∀k∈pre,0≤k:=fun k hk=>(ht k (by rw[ht1];simp[hk])).1
  refine (Yd (fun k hk=>(ht k hk).1)).1 ?_
  have:=(Yd hp).2 q3;rw[ht1];unfold Qb at this ⊢;rw[List.map_append,List.mem_append];exact .inl this
theorem Q2s {r:Reg} {t:Q1} (h:(Zf r t).1=0):Yi t=true∧Q0d t:=by
 unfold Zf at h;split at h
 ·rename_i hb
  simp only[Bool.and_eq_true] at hb;obtain⟨q1,q2,q3,q4,q5,q6⟩:=Xc hb.2;obtain⟨_,hF⟩:=Qfp (r:=r) q1 q2 (fun i hi=>(q4 i hi).1) t.tops [] 0 (Z7 t) rfl rfl q6 h;exact⟨hb.2,fun i hi h7=>hF i hi.1 hi.2 h7⟩
 ·cases h
theorem Q7y {t:Q1}:∀(f:Nat) (i lo:Int) (x:ByteArray),Q11 t lo i→i<f→(x∈Zs t f i↔∃j,lo≤j∧j≤i∧(t.at j).kind=7∧(t.at j).text=x):=by
 intro f
 induction f with
 |zero=>intro i lo x h hi;have:=h.2.1;omega
 |succ f ih =>
  intro i lo x h hi
  have key:∀(l:List Int) (lo e:Int),Zo t lo l e→e≤f→(x∈l.flatMap (Zs t f)↔∃j,lo≤j∧j<e∧(t.at j).kind=7∧(t.at j).text=x):=by
   intro l
   induction l with
   |nil=>intro lo e h _;have h:lo=e:=h;subst h;simp;intro j h1 h2;omega
   |cons k l ihl =>
    intro lo e h he;obtain⟨h1,h2⟩:=h;have hle:=h2.le;have hlk:=h1.le;rw[List.flatMap_cons,List.mem_append,ihl (k+1) e h2 he,ih k lo x h1 (by omega)];constructor
    ·rintro (⟨j,a,b,c⟩|⟨j,a,b,c⟩)
     ·exact⟨j,a,by omega,c⟩
     ·exact⟨j,by omega,b,c⟩
    ·rintro⟨j,a,b,c⟩
     by_cases hj:j≤k
     ·exact .inl ⟨j,a,hj,c⟩
     ·exact .inr ⟨j,by omega,b,c⟩
  simp only[Zs];rw[List.mem_append,key _ lo i h.kids (by omega)];have hle:=h.le;constructor
  ·rintro (hx|⟨j,a,b,c⟩)
   ·split at hx
    ·rename_i h7
     simp at hx;exact⟨i,hle,Int.le_refl _,h7,hx.symm⟩
    ·cases hx
   ·exact⟨j,a,by omega,c⟩
  ·rintro⟨j,a,b,c,d⟩
   by_cases hj:j=i
   ·subst hj;left;rw[Ps c,d];simp
   ·exact .inr ⟨j,a,by omega,c,d⟩
theorem Qao {t:Q1} (x:Int):∀(n:Nat) (i:Int),x∈Q5c t n i↔∃j,i≤j∧j<i+n∧(t.at j).kind=7∧Q2 t t.tops (t.at j).text=x:=by
 intro n
 induction n with
 |zero=>intro i;simp[Q5c];intro j h1 h2;omega
 |succ n ih =>
  intro i;simp only[Q5c];rw[List.mem_append,ih (i+1)];constructor
  ·rintro (hx|⟨j,a,b,c⟩)
   ·split at hx
    ·rename_i h7
     simp at hx;exact⟨i,Int.le_refl _,by omega,h7,hx.symm⟩
    ·cases hx
   ·exact⟨j,by omega,by omega,c⟩
  ·rintro⟨j,a,b,c,d⟩
   by_cases hj:j=i
   ·subst hj;left;rw[Ps c,d];simp
   ·exact .inr ⟨j,by omega,by omega,c,d⟩
theorem Q8h {t:Q1}:∀(l:List Int) (lo e k:Int),0≤lo→Zo t lo l e→k∈l→Q11 t (Zz k l lo) k:=by
 have after:∀(l:List Int) (lo e k a:Int),Zo t lo l e→k<lo→Zz k l a=a:=by
  intro l
  induction l with
  |nil=>intro lo e k a _ _;rfl
  |cons i l ih =>
   intro lo e k a h hk;have:=h.1.le;simp only[Zz];rw[Ng (by omega)];exact ih (i+1) e k a h.2 (by omega)
 intro l
 induction l with
 |nil=>intro lo e k _ _ h;cases h
 |cons i l ih =>
  intro lo e k h0 h hk;have hle:=h.1.le;simp only[Zz]
  by_cases hki:k=i
  ·subst hki
   rw[Ng (by omega),after l (k+1) e k lo h.2 (by omega)];exact h.1
  ·have hk2:k∈l:=by simpa[hki] using hk
   obtain⟨lo2,hs2,hm2,_⟩:=h.2.mem hk2;have:=hs2.le;rw[Ps (by omega)];exact ih (i+1) e k (by omega) h.2 hk2
theorem Qmh:∀(l m:List Int),l.Pairwise (·<·)→m.Pairwise (·<·)→(∀x,x∈l↔x∈m)→l=m:=by
 intro l
 induction l with
 |nil =>
  intro m _ _ h;cases m with
  |nil=>rfl
  |cons b m=>have:=(h b).2 (by simp);cases this
 |cons a l ih =>
  intro m hl hm h;cases m with
  |nil=>have:=(h a).1 (by simp);cases this
  |cons b m =>
   obtain⟨h1,h2⟩:=List.pairwise_cons.1 hl;obtain⟨h3,h4⟩:=List.pairwise_cons.1 hm
   have hab:a=b:=by
    have ha:=(h a).1 (by simp);have hb:=(h b).2 (by simp);rcases List.mem_cons.1 ha with e|e
    ·exact e
    ·rcases List.mem_cons.1 hb with e2|e2
     ·exact e2.symm
     ·have:=h1 b e2;have:=h3 a e;omega
   subst hab;rw[ih m h2 h4 (fun x=>?_)];have:=h x;simp only[List.mem_cons] at this;constructor
   ·intro hx
    rcases this.1 (.inr hx) with e|e
    ·have:=h1 x hx;omega
    ·exact e
   ·intro hx
    rcases this.2 (.inr hx) with e|e
    ·have:=h3 x hx;omega
    ·exact e
theorem Qjy {t:Q1}:∀(l:List Int) (lo e:Int),Zo t lo l e→l.Pairwise (·<·)∧∀x∈l,lo≤x:=by
 intro l
 induction l with
 |nil=>intro lo e _;simp
 |cons k l ih =>
  intro lo e h;obtain⟨h1,h2⟩:=ih (k+1) e h.2;have:=h.1.le
  refine⟨List.pairwise_cons.2 ⟨fun x hx=>by have:=h2 x hx;omega,h1⟩,fun x hx=>?_⟩
  rcases List.mem_cons.1 hx with rfl|hx
  ·exact this
  ·have:=h2 x hx;omega
theorem Qe6 {r:Reg} {t:Q1} (hn:Qt t=true) (hK:Qj t) {i:Int} (hi:InT t i) (s:CS):(Yh r t s i).code=0→s.code=0:=by
 intro hc;have hW:∀k∈[i],Q9m t (Q8 r t t.nodes.length) k:=fun k hk=>by simp at hk;subst hk;exact Q75 hn hK t.nodes.length k hi (by have:=hi.2;omega)
 have h1:Jo s (if 0≤Q2 t s.tops (t.at i).text then s.fail 2 i else s):=by
  split
  ·exact Jo.fail _ _ _
  ·exact Jo.rfl' _
 have hc:(Qa (Q8 r t t.nodes.length) {(if 0≤Q2 t s.tops (t.at i).text then s.fail 2 i else s) with top:=i,locals:=[]} [i]).code=0:=hc;exact h1.2 ((Q0r [i] hW {(if 0≤Q2 t s.tops (t.at i).text then s.fail 2 i else s) with top:=i,locals:=[]}).1.2 hc)
theorem Qg9 {r:Reg} {t:Q1} (hn:Qt t=true) (hK:Qj t) (ht:∀i∈t.tops,InT t i):∀(l:List Int) (s:CS),(∀x∈l,x∈t.tops)→(l.foldl (Yh r t) s).code=0→s.code=0:=by
 intro l
 induction l with
 |nil=>intro s _ h;exact h
 |cons i l ih =>
  intro s hl h;exact Qe6 hn hK (ht i (hl i (by simp))) s (ih _ (fun x hx=>hl x (by simp[hx])) h)
theorem Qdc {r:Reg} {t:Q1} (hn:Qt t=true) (hK:Qj t) (ht:∀i∈t.tops,InT t i):∀(l pre:List Int) (s:CS),t.tops=pre++l→s.tops=pre→(Qb t pre).Nodup→(l.foldl (Yh r t) s).code=0→s.code=0∧(Qb t (pre++l)).Nodup:=by
 intro l
 induction l with
 |nil=>intro pre s _ _ h hc;exact⟨hc,by simpa using h⟩
 |cons i l ih =>
  intro pre s ht1 hs hnd hc;have hi:=ht i (by rw[ht1];simp);rw[List.foldl_cons] at hc;have hW:∀k∈[i],Q9m t (Q8 r t t.nodes.length) k:=fun k hk=>by simp at hk;subst hk;exact Q75 hn hK t.nodes.length k hi (by have:=hi.2;omega)
  have hp:∀k∈pre,0≤k:=fun k hk=>(ht k (by rw[ht1];simp[hk])).1
  have e:Yh r t s i={Qa (Q8 r t t.nodes.length) {(if 0≤Q2 t s.tops (t.at i).text then s.fail 2 i else s) with top:=i,locals:=[]} [i] with tops:=(Qa (Q8 r t t.nodes.length) {(if 0≤Q2 t s.tops (t.at i).text then s.fail 2 i else s) with top:=i,locals:=[]} [i]).tops++[i]}:=rfl;rw[e] at hc
  have h1:Jo s (if 0≤Q2 t s.tops (t.at i).text then s.fail 2 i else s):=by
   split
   ·exact Jo.fail _ _ _
   ·exact Jo.rfl' _
  have h1':(if 0≤Q2 t s.tops (t.at i).text then s.fail 2 i else s).code=0→¬ 0≤Q2 t s.tops (t.at i).text:=fun h h9=>by
   rw[Ps h9] at h;unfold CS.fail at h;split at h
   ·cases h
   ·rename_i h8;exact h8 h
  generalize (if 0≤Q2 t s.tops (t.at i).text then s.fail 2 i else s)=s1 at h1 h1' hc;obtain⟨h2,_⟩:=Q0r [i] hW {s1 with top:=i,locals:=[]};have htp:(Qa (Q8 r t t.nodes.length) {s1 with top:=i,locals:=[]} [i]).tops=pre:=h2.1.trans (h1.1.trans hs)
  have key:¬ 0≤Q2 t pre (t.at i).text→(Qb t (pre++[i])).Nodup:=fun hno=>by
   unfold Qb at hnd ⊢;rw[List.map_append,List.nodup_append]
   refine⟨hnd,by simp,fun a ha b hb e9=>hno ((Yd hp).1 ?_)⟩
   simp at hb;subst hb;subst e9;exact ha
  by_cases hno:0≤Q2 t pre (t.at i).text
  ·exfalso
   have hcc:s1.code=0:=by
    have:=(Qg9 hn hK ht l {Qa (Q8 r t t.nodes.length) {s1 with top:=i,locals:=[]} [i] with tops:=(Qa (Q8 r t t.nodes.length) {s1 with top:=i,locals:=[]} [i]).tops++[i]} (fun x hx=>by rw[ht1];simp[hx])) hc;exact h2.2 this
   exact h1' hcc (by rw[hs];exact hno)
  ·obtain⟨g1,g2⟩:=ih (pre++[i]) _ (by rw[ht1];simp) (by show (Qa _ _ _).tops++[i]=_;rw[htp]) (key hno) hc
   exact⟨h1.2 (h2.2 g1),by simpa using g2⟩
theorem Qa9 {r:Reg} {t:Q1} (h:(Zf r t).1=0):(Qb t t.tops).Nodup:=by
 unfold Zf at h;split at h
 ·rename_i hb
  simp only[Bool.and_eq_true] at hb;obtain⟨q1,q2,q3,q4,q5,q6⟩:=Xc hb.2;have:=(Qdc (r:=r) q1 q2 (fun i hi=>(q4 i hi).1) t.tops [] (Z7 t) rfl rfl (by simp[Qb]) h).2;simpa using this
 ·cases h
theorem Q8j {t:Q1}:∀(l:List Int),(Qb t l).Nodup→∀k∈l,Q2 t l (t.at k).text=k:=by
 intro l
 induction l with
 |nil=>intro _ k hk;cases hk
 |cons i l ih =>
  intro hnd k hk;rw[Q4c,List.nodup_cons] at hnd;simp only[Q2];rcases List.mem_cons.1 hk with rfl|hk
  ·rw[Ps rfl]
  ·rw[Ng (fun e=>hnd.1 (by rw[e];exact List.mem_map.2 ⟨k,hk,rfl⟩))]
   exact ih hnd.2 k hk
theorem Qh4 (t:Q1) (Qv:Int):∀(n:Nat) (i:Int) (out:List Qc),(Zq t Qv n i out).length=out.length+n:=by
 intro n
 induction n with
 |zero=>intro i out;rfl
 |succ n ih=>intro i out;simp only[Zq];rw[ih,List.length_append];simp;omega
theorem Qa0 (t:Q1) (Qv:Int):∀(n m:Nat) (i:Int) (out:List Qc),Zq t Qv (n+m) i out=Zq t Qv m (i+n) (Zq t Qv n i out):=by
 intro n
 induction n with
 |zero=>intro m i out;simp[Zq]
 |succ n ih =>
  intro m i out;rw[show n+1+m=(n+m)+1 by omega];simp only[Zq];rw[ih,show i+1+(n:Int)=i+((n+1:Nat):Int) by push_cast;omega]
theorem Qek {t:Q1}:∀(f:Nat) (i lo:Int) (out:List Qc),Q11 t lo i→i<f→Xd t f i out=Zq t (lo-out.length) (i+1-lo).toNat lo out:=by
 intro f
 induction f with
 |zero=>intro i lo out h hi;have:=h.2.1;omega
 |succ f ih =>
  intro i lo out h hi
  have key:∀(l:List Int) (lo e:Int) (out:List Qc) (ks:List Int),Zo t lo l e→e≤f→Jg (Xd t f) l out ks=(Zq t (lo-out.length) (e-lo).toNat lo out,ks++l.map fun x=>x-(lo-out.length)):=by
   intro l
   induction l with
   |nil=>intro lo e out ks h _;have h:lo=e:=h;subst h;simp[Jg,Zq]
   |cons k l ihl =>
    intro lo e out ks h he;obtain⟨h1,h2⟩:=h;have hle:=h2.le;have hlk:=h1.le;have hk:=ih k lo out h1 (by omega);have Qmr:((Xd t f k out).length:Int)=out.length+(k+1-lo):=by rw[hk,Qh4];push_cast;omega
    simp only[Jg];rw[ihl (k+1) e _ _ h2 he,Qmr,show k+1-((out.length:Int)+(k+1-lo))=lo-out.length by omega];rw[hk,show (e-lo).toNat=(k+1-lo).toNat+(e-(k+1)).toNat by omega,Qa0,show lo+(((k+1-lo).toNat:Nat):Int)=k+1 by omega];rw[List.map_cons,List.append_assoc];rw[show (out.length:Int)+(k+1-lo)-1=k-(lo-out.length) by omega];rfl
  have hle:=h.le;simp only[Xd,Q55];rw[key _ lo i out [] h.kids (by omega),show (i+1-lo).toNat=(i-lo).toNat+1 by omega,Qa0,show lo+(((i-lo).toNat:Nat):Int)=i by omega];rfl
section
variable {r:Reg} {t:Q1} {name:ByteArray}
theorem Qha (hB:Yi t=true) {k:Int} (hk:k∈t.tops) (out:List Qc):Yx t k out=Xd t t.nodes.length k out:=by
 obtain⟨q1,q2,q3,q4,q5,q6⟩:=Xc hB;have hsp:=Q8h t.tops 0 _ k (Int.le_refl 0) q6 hk;rw[Qek t.nodes.length k (Xl t k) out hsp (q4 k hk).1.2];rfl
theorem Q90 {F G:Int→List Qc→List Qc}:∀(l:List Int) (out:List Qc) (ks:List Int),(∀k∈l,∀out,F k out=G k out)→Jg F l out ks=Jg G l out ks:=by
 intro l
 induction l with
 |nil=>intro out ks _;rfl
 |cons k l ih =>
  intro out ks h;simp only[Jg];rw[h k (by simp),ih _ _ (fun x hx=>h x (by simp[hx]))]
theorem Q5d {α:Type} [DecidableEq α] (C:α→List α) (a:α) {N:Nat} (h:(Jh C a N).length≤N):∀y∈Jh C a N,∀x∈C y,x∈Jh C a N:=by
 intro y hy x hx;obtain⟨j,hj,e⟩:=List.mem_iff_getElem.1 hy;exact Qcv C a N j (by omega) y (by rw[List.getElem?_eq_getElem hj,e]) x hx
theorem Qfq (h:(Zf r t).1=0) (hn:0≤Q2 t t.tops name) {k:Int} (hk:k∈t.tops):(t.at k).text∈Qah t name↔k∈Y6 t (Q2 t t.tops name):=by
 obtain⟨hB,hC⟩:=Q2s h;have hnd:=Qa9 h;obtain⟨q1,q2,q3,q4,q5,q6⟩:=Xc hB;have ht:∀i∈t.tops,InT t i:=fun i hi=>(q4 i hi).1
 have Qph:=Q8j t.tops hnd;have Qog:=(Zl hn).1;have span:∀m∈t.tops,Q11 t (Xl t m) m:=fun m hm=>Q8h t.tops 0 _ m (Int.le_refl 0) q6 hm
 have down:∀m∈t.tops,∀x∈Zs t t.nodes.length m,Q2 t t.tops x∈Ye t m:=fun m hm x hx=>by
  obtain⟨j,a,b,c,d⟩:=(Q7y _ _ _ _ (span m hm) (ht m hm).2).1 hx;have hle:=(span m hm).le;have hjm:j≠m:=fun e=>by rw[e] at c;have:=(q4 m hm).2;omega
  exact (Qao _ _ _).2 ⟨j,a,by omega,c,by rw[d]⟩
 have up:∀m∈t.tops,∀y∈Ye t m,y∈t.tops∧(t.at y).text∈Zs t t.nodes.length m:=fun m hm y hy=>by
  obtain⟨j,a,b,c,d⟩:=(Qao _ _ _).1 hy;have hle:=(span m hm).le;have h0:0≤Xl t m:=(span m hm).1;have hm2:=(ht m hm).2;have hin:=hC j ⟨by omega,by omega⟩ c;obtain⟨e1,e2⟩:=Zl hin;rw[d] at e1 e2;exact⟨e1,(Q7y _ _ _ _ (span m hm) hm2).2 ⟨j,a,by omega,c,e2.symm⟩⟩
 have Qyf:=(Q6f q2 hC ht hn 4000).few;have Qyg:=(Q53 hC ht (ht _ Qog) 4000).few;constructor
 ·intro hx
  have:=Q21 (Q3m t) name (P:=fun x=>0≤Q2 t t.tops x∧Q2 t t.tops x∈Y6 t (Q2 t t.tops name))
   (fun x hx=>⟨(Q5k q2 hC ht hn 0 x ((Q29 _ _ _).2 (.inr hx))).1,Q64 _ _ 4000 (down _ Qog x hx)⟩)
   (fun y hy x hx=>by
    have hym:=(Zl hy.1).1;obtain⟨j,hj,h7,rfl⟩:=Q6d q2 _ _ (ht _ hym) x hx;exact⟨hC j hj h7,Q5d (Ye t) _ (by omega) _ hy.2 _ (down _ hym _ hx)⟩) 4000 _ hx
  rw[Qph k hk] at this;exact this.2
 ·intro hx
  have:=Q21 (Ye t) (Q2 t t.tops name) (P:=fun y=>y∈t.tops∧(t.at y).text∈Qah t name)
   (fun y hy=>⟨(up _ Qog y hy).1,Q64 _ _ 4000 (up _ Qog y hy).2⟩)
   (fun m hm y hy=>⟨(up m hm.1 y hy).1,Q5d (Q3m t) name (by omega) _ hm.2 _ (by
    show _∈Zs t t.nodes.length (Q2 t t.tops (t.at m).text)
    rw[Qph m hm.1];exact (up m hm.1 y hy).2)⟩) 4000 _ hx
  exact this.2
theorem Qjh:okI r t name=Q85 r t name:=by
 unfold okI Q85
 by_cases h:(Zf r t).1=0
 ·have hB:=(Q2s h).1
  unfold Xx;rw[hB];rfl
 ·rw[Df h];rfl
theorem Qll (h:(Zf r t).1=0) (hn:0≤Q2 t t.tops name):Q13 t (Q2 t t.tops name)=t.tops.filter (Q5a r t name):=by
 obtain⟨hB,hC⟩:=Q2s h;have hnd:=Qa9 h;obtain⟨q1,q2,q3,q4,q5,q6⟩:=Xc hB;have Qph:=Q8j t.tops hnd;have Qog:=(Zl hn).1;have hok:Q85 r t name=true:=by rw[← Qjh];unfold okI;simp[h,hn]
 refine Qmh _ _ (Q5w (Q76 _)).1 ((Qjy t.tops 0 _ q6).1.filter _) (fun k=>?_)
 have hm:=(Q5w (Q76 (Zr (Y6 t (Q2 t t.tops name))++[Q2 t t.tops name]))).2 k;have e:Q13 t (Q2 t t.tops name)=Lib.compact (Zr (Zr (Y6 t (Q2 t t.tops name))++[Q2 t t.tops name])):=rfl;rw[e,hm,Q48,List.mem_append,Q48,List.mem_singleton,List.mem_filter]
 have key:k∈t.tops→(Q5a r t name k=true↔k∈Y6 t (Q2 t t.tops name)∨k=Q2 t t.tops name):=fun hk=>by
  unfold Q5a;rw[X6,List.mem_cons];unfold Xw;rw[Ps hok,List.mem_filter,X6,Qfq h hn hk];constructor
  ·rintro (h1|⟨_,h1⟩)
   ·right;rw[← h1];exact (Qph k hk).symm
   ·exact .inl h1
  ·rintro (h1|h1)
   ·exact .inr ⟨List.mem_map.2 ⟨k,hk,rfl⟩,h1⟩
   ·left;rw[h1];exact (Zl hn).2
 constructor
 ·intro hx
  have hk:k∈t.tops:=by
   rcases hx with hx|rfl
   ·exact (Q53 hC (fun i hi=>(q4 i hi).1) (q4 _ Qog).1 4000).2 k hx
   ·exact Qog
  exact⟨hk,(key hk).2 hx⟩
 ·rintro⟨hk,hx⟩
  exact (key hk).1 hx
theorem Qjp:Q0x r t name=Q2k r t name:=by
 unfold Q0x Q2k;rw[Qjh]
 by_cases hok:Q85 r t name=true
 ·rw[Ps hok,Ps hok]
  have Qo2:=hok;rw[← Qjh] at Qo2;unfold okI at Qo2;simp only[Bool.and_eq_true,decide_eq_true_eq] at Qo2;obtain⟨h,hn⟩:=Qo2;have hB:=(Q2s h).1
  have e:Jg (Yx t) (Q13 t (Q2 t t.tops name)) [] []=Q6z t (t.tops.filter (Q5a r t name)):=by
   rw[Qll h hn];exact Q90 _ _ _ (fun k hk out=>Qha hB (List.mem_filter.1 hk).1 out)
  rw[e]
 ·rw[Ng hok,Ng hok]
end
def szL (n left:Int):Int:=if n≤left then left-n else -1
theorem Qal (v:Value) (xs:List Int) (left:Int) (w:World) (hv:Qi w v xs) (hl:0≤left∧left≤1048576) :
  Calls prog 29 #[v,.int .i64 left] w fun e w'=>e=.returned (.int .i64 (szL xs.length left))∧w=w':=by
 obtain⟨A,b,o,c,rfl,hn,_⟩:=hv;have hw1:IntKind.i64.wrap (left-(xs.length:Int))=left-(xs.length:Int):=by rw[IntKind.wrap_i64];omega
 have hw2:wrap64 (left-(xs.length:Int))=left-(xs.length:Int):=by unfold wrap64;omega
 by_cases h:(xs.length:Int)≤left
 ·have t1:decide (left-(xs.length:Int)<0)=false:=Df (by omega)
  go_enter func29,ntmps29;go_wp2_with fail;go_ret;exact⟨Jn (by unfold szL;rw[Ps (by omega)]),rfl⟩
 ·have t1:decide (left-(xs.length:Int)<0)=true:=Dt (by omega)
  go_enter func29,ntmps29;go_wp2_with fail;go_ret;exact⟨Jn (by unfold szL;rw[Ng (by omega)]),rfl⟩
theorem Qae (v u:Value) (xs:List Int) (w:World) (hv:Qi w v xs) (hu:Qi w u xs) :
  Calls prog 44 #[v,u] w fun e w'=>e=.returned (.bool true)∧Q0 nob w w':=by
 obtain⟨A,b,o,c,rfl,hn,_,hA,hc⟩:=hv;obtain⟨B,b',o',c',rfl,_,_,hB,hd⟩:=hu;have HC:=Hh hc;have HD:=Hh hd;clear hc hd;go_enter func44,ntmps44;go_wp2_with fail;go_loopw [5] (fun k wr=>∃j:Nat,j≤xs.length∧k=.int .i64 j∧Hi (Q0 nob w wr)) (fun k _=>xs.length-(intOf k).toNat)
 case atStart=>exact⟨0,Nat.zero_le _,rfl,Hh (Kr _ _)⟩
 case round =>
  obtain⟨j,hj,rfl,HR⟩:=hrel;obtain⟨wo,rfl⟩:∃wo:World,wo=wr:=⟨_,rfl⟩
  by_cases hlt:j<xs.length
  ·obtain⟨x,hx⟩:=Q3 hlt
   have c0:=HR.o.cell id (HC.o j x hx);have c1:=HR.o.cell id (HD.o j x hx);obtain rfl:=hA (by omega);obtain rfl:=hB (by omega);have hjn:(j:Int)<(xs.length:Int):=by omega
   clear hx;go_upto_region 6 with fail
   go_quiet (fail);go_wp2_with fail;go_roundw
   case rel=>exact⟨j+1,by omega,by go_num,Hh (HR.o.drewN _)⟩
   case measure=>simp[intOf];omega
  ·have hjn:¬ (j:Int)<(xs.length:Int):=by omega
   go_wp2_with fail;go_returns;exact⟨rfl,HR.o⟩
def Q06:Nat→Int→List Int
 |0,_=>[]
 |n+1,k=>k::Q06 n (k+1)
theorem Xg (n:Nat) (k:Int):(Q06 n k).length=n:=by
 induction n generalizing k with
 |zero=>rfl
 |succ n ih=>simp[Q06,ih]
theorem Q50 {n:Nat} {k:Int} {j:Nat} (h:j<n):(Q06 n k)[j]?=some (k+j):=by
 induction n generalizing k j with
 |zero=>omega
 |succ n ih =>
  cases j with
  |zero=>simp[Q06]
  |succ j=>simp only[Q06,List.getElem?_cons_succ];rw[ih (by omega)];congr 1;omega
theorem Q7x (v:Value) (n:Nat) (k:Int) (w:World) (hv:Qi w v (Q06 n k)) (hk:0≤k∧k≤1000000000000000000) :
  Calls prog 50 #[v,.int .i64 k] w fun e w'=>e=.returned (.int .i64 (k+n))∧w=w':=by
 obtain⟨A,b,o,c,rfl,hn,_,hA,hc⟩:=hv;have HC:Hi (∀j,j<n→w.cell? ⟨b,o+j,none⟩=some (.int .i64 (k+j))):=Hh fun j hj=>hc j _ (Q50 hj)
 rw[Xg] at hn hA ⊢;clear hc;go_enter func50,ntmps50;go_wp2_with fail;go_loop [1,5] (fun m i=>∃j:Nat,j≤n∧i=.int .i64 j∧m=.int .i64 (k+j)) (fun _ i=>n-(intOf i).toNat)
 case atStart=>exact⟨0,Nat.zero_le _,rfl,by simp⟩
 case round =>
  obtain⟨j,hj,rfl,rfl⟩:=hrel
  by_cases hlt:j<n
  ·have c0:=HC.o j hlt
   obtain rfl:=hA (by omega);have hjn:(j:Int)<(n:Int):=by omega
   have hw1:IntKind.i64.wrap (k+(j:Int)+1)=k+(j:Int)+1:=by rw[IntKind.wrap_i64];omega
   have hw2:wrap64 (k+(j:Int)+1)=k+(j:Int)+1:=by unfold wrap64;omega
   generalize hm:k+(j:Int)=m at *;go_wp2_with fail;go_round
   case rel=>exact⟨j+1,by omega,by go_num,by congr 1;push_cast;omega⟩
   case measure=>simp[intOf];omega
  ·have hjn:¬ (j:Int)<(n:Int):=by omega
   obtain rfl:j=n:=by omega
   go_wp2_with fail;go_ret;exact⟨rfl,rfl⟩
theorem Qf.cellAt {S:Nat→Prop} {e:TypeId} {w:World} {b n c:Nat} {xs:List Value} (h:Qf S e w (.slice (some ⟨b,0,none⟩) n c) xs) {j:Nat} {x:Value} (hx:xs[j]?=some x):w.cell? ⟨b,j,none⟩=some x∧w.frozen? ⟨b,j,none⟩=false:=by
 obtain⟨B,b2,c2,hv,_,_,hB,hc⟩:=h.opened;have:=(Gs hx).1;obtain⟨h1,_,_⟩:=hB (by omega);injection hv with h2 _ _
 rw[h1] at h2;cases h2;exact hc j x hx
theorem Q7m {S:Nat→Prop} {v:Value} {xs:List Int} {k:Int} {w:World} (h:Qf S 3 w v (Q4 xs)) (hl:xs.length≤140737488355328) (hk:0≤k∧k≤1000000000000000000) :
  Calls prog 48 #[v,.int .i64 k] w fun e w'=>e=.returned (.int .i64 (k+xs.length))∧Qf S 3 w' v (Q4 (Q06 xs.length k))∧Q0 (own v) w w':=by
 obtain⟨A,b,c,hv,_,_,hA,_⟩:=h.opened;rw[Q5] at hv hA;subst hv;have HO:=Hh h;clear h;go_enter func48,ntmps48;go_wp2_with fail;go_loopw [1,5] (fun m i wr=>∃j:Nat,j≤xs.length∧i=.int .i64 j∧m=.int .i64 (k+j)∧Hi (Qf S 3 wr (.slice A xs.length c) (Q4 (Q06 j k++xs.drop j))∧Q0 (own (.slice A xs.length c)) w wr)) (fun _ i _=>xs.length-(intOf i).toNat)
 case atStart=>exact⟨0,Nat.zero_le _,rfl,by simp,Hh ⟨HO.o,Kr _ _⟩⟩
 case round =>
  obtain⟨j,hj,rfl,rfl,HR⟩:=hrel;obtain⟨wo,rfl⟩:∃wo:World,wo=wr:=⟨_,rfl⟩
  by_cases hlt:j<xs.length
  ·obtain⟨x,hx⟩:=Q3 hlt
   obtain⟨rfl,hSb,hob⟩:=hA (by omega)
   have Qqj:(Q4 (Q06 j k++xs.drop j))[j]?=some (.int .i64 x):=by
    simp only[Q4,List.getElem?_map];rw[List.getElem?_append_right (by rw[Xg];exact Nat.le_refl _),Xg,Nat.sub_self,List.getElem?_drop,Nat.add_zero,hx];rfl
   obtain⟨c0,f0⟩:=HR.o.1.cellAt Qqj;have hjn:(j:Int)<(xs.length:Int):=by omega
   have hw1:IntKind.i64.wrap (k+(j:Int)+1)=k+(j:Int)+1:=by rw[IntKind.wrap_i64];omega
   have hw2:wrap64 (k+(j:Int)+1)=k+(j:Int)+1:=by unfold wrap64;omega
   have HN:Hi (Qf S 3 (wo.setCell ⟨b,j,none⟩ (.int .i64 (k+j))) (.slice (some ⟨b,0,none⟩) xs.length c) (Q4 (Q06 (j+1) k++xs.drop (j+1)))):=Hh (by
    have h1:=HR.o.1.set hob j (.int .i64 (k+j))
    have e:(Q4 (Q06 j k++xs.drop j)).set j (.int .i64 (k+j))=Q4 (Q06 (j+1) k++xs.drop (j+1)):=by
     have e2:Q06 (j+1) k=Q06 j k++[k+(j:Int)]:=by
      apply List.ext_getElem?;intro q
      by_cases hq:q<j
      ·rw[Q50 (by omega),List.getElem?_append_left (by rw[Xg];exact hq),Q50 hq]
      ·by_cases hq2:q=j
       ·subst hq2;rw[Q50 (by omega),List.getElem?_append_right (by rw[Xg];exact Nat.le_refl _),Xg];simp
       ·rw[List.getElem?_eq_none (by rw[Xg];omega),List.getElem?_eq_none (by rw[List.length_append,Xg];simp;omega)]
     rw[e2,Qd hx];simp only[Q4,List.map_append,List.map_cons,List.append_assoc,List.singleton_append];rw[List.set_append_right _ _ (by rw[List.length_map,Xg];exact Nat.le_refl _),List.length_map,Xg,Nat.sub_self];rfl
    rwa [e] at h1)
   have HKN:Hi (Q0 (own (.slice (some ⟨b,0,none⟩) xs.length c)) w (wo.setCell ⟨b,j,none⟩ (.int .i64 (k+j)))):=Hh (HR.o.2.setCell (p:=⟨b,j,none⟩) (.inl rfl) _);generalize hm:k+(j:Int)=m at *;clear Qqj hx;go_wp2_with fail;go_roundw
   case rel=>exact⟨j+1,by omega,by go_num,by congr 1;push_cast;omega,Hh ⟨HN.o,HKN.o⟩⟩
   case measure=>simp[intOf];omega
  ·have hjn:¬ (j:Int)<(xs.length:Int):=by omega
   obtain rfl:j=xs.length:=by omega
   have HR1:=HR.o.1;rw[Dn (Nat.le_refl _),List.append_nil] at HR1;have HR2:=Hh HR1;clear HR1;go_wp2_with fail;go_returns;exact⟨rfl,HR2.o,HR.o.2⟩
theorem Q8m {T e:TypeId} (hu:prog.underlying T=some (.slice e)) {z:Value} {m bytes:Nat} (Qnh:(prog.info? e).map (fun i=>(i.zero,i.size,i.bytes))=some (some z,m,bytes)) (N:Nat) (hN:N≤1048576) (hb:bytes≤1000) {zc:Array Value} (hzc:z.cells=zc) {k:Nat} (hk:N*m=k) (w:World) :
  (Instr.makeSlice T (.int .i64 (N:Int)) (.int .i64 (N:Int))).run prog w=.ok (.slice (some ⟨w.heap.size,0,none⟩) N N) (w.alloc (.cells (madeCells zc k) e (0,0))):=by
 obtain⟨i0,hi0,hzz⟩:=Option.map_eq_some_iff.1 Qnh;simp only[Prod.mk.injEq] at hzz;obtain⟨hz0,hz1,hz2⟩:=hzz
 have hbn:(bytes:Int)*(N:Int)≤281474976710656:=by
  have h1:bytes*N≤1000*1048576:=Nat.mul_le_mul hb hN;rw[← Int.natCast_mul];generalize bytes*N=q at h1 ⊢;omega
 have h:=run_make (P:=prog) w T e i0 z hu hi0 hz0 .i64 .i64 (N:Int) (N:Int) (by omega) (by omega) (by rw[hz2];exact hbn) (by omega);rw[h,hz1,hzc];simp only[Int.toNat_natCast];rw[hk]
theorem Q9f (w:World) (zc:Array Value) (n:Nat) (e:TypeId):Blk (w.alloc (.cells (madeCells zc n) e (0,0))) w.heap.size (madeCells zc n).toList e∧(madeCells zc n).toList.length=n:=by
 refine⟨?_,by rw[Array.length_toList,size_madeCells]⟩;have:=Blk.new w (madeCells zc n).toList e;simpa using this
theorem Blk.own {w:World} {b n:Nat} {cs:List Value} {e:TypeId} {m:Nat} {S:Nat→Prop} (h:Blk w b cs e) (hl:cs.length=n*m) (hn:n≤1048576) (hS:S b):X5 S e m w (.slice (some ⟨b,0,none⟩) n n) n cs :=
 ⟨⟨hl,.inr ⟨b,n,cs.toArray,rfl,Nat.zero_le _,h,Nat.le_refl _,by simp only[maxLen];omega,by simp[hl],by rw[← hl];simp⟩⟩,fun k hk=>by simp[Value.ownBlock] at hk;subst hk;exact hS⟩
theorem take_set {α:Type} {cs:List α} {j:Nat} {p:List α} (h:cs.take j=p) (hj:j<cs.length) (x:α):(cs.set j x).take (j+1)=p++[x]:=by
 rw[List.take_add_one,List.take_set_of_le (Nat.le_refl _),h,List.getElem?_set_self hj];rfl
theorem Qap (v:Value) (xs:List Int) (w:World) (hv:Qi w v xs) (hl:xs.length≤1048576) :
  Calls prog 37 #[v] w fun e w'=>∃u,e=.returned u∧Qf (Q7 w.heap.size) 3 w' u (Q4 xs)∧Q0 nob w w':=by
 obtain⟨A,b,o,c,rfl,hn,_,hA,hc⟩:=hv;have HC:=Hh hc;have hmk:=Q8m (T:=26) (e:=3) underlying26 (z:=.int .i64 0) (m:=1) (bytes:=8) (by kernel_rfl) xs.length hl (by omega) rfl (Nat.mul_one _);obtain⟨hb,hbl⟩:=Q9f w #[.int .i64 0] xs.length 3;have HB:=Hh hb;have HBL:=Hh hbl;clear hc hb hbl;go_enter func37,ntmps37;go_wp2_with fail;clear hmk;have hkw:Q0 nob w (w.alloc (.cells (madeCells #[.int .i64 0] xs.length) 3 (0,0))):=(Kr _ _).alloc _;have HKW:=Hh hkw;clear hkw;generalize hw1:w.alloc (.cells (madeCells #[.int .i64 0] xs.length) 3 (0,0))=w1 at *;clear hw1;generalize (madeCells #[.int .i64 0] xs.length).toList=cs0 at *;go_loopw [4] (fun i wr=>∃j:Nat,j≤xs.length∧i=.int .i64 j∧Hi (∃cs,Blk wr w.heap.size cs 3∧cs.length=xs.length∧cs.take j=Q4 (xs.take j)∧Q0 (fun k=>k=w.heap.size) w1 wr)) (fun i _=>xs.length-(intOf i).toNat)
 case atStart=>exact⟨0,Nat.zero_le _,rfl,Hh ⟨cs0,HB.o,HBL.o,rfl,Kr _ _⟩⟩
 case round =>
  obtain⟨j,hj,rfl,HR⟩:=hrel;obtain⟨cs,hR1,hR2,hR3,hR4⟩:=HR.o;obtain⟨wo,rfl⟩:∃wo:World,wo=wr:=⟨_,rfl⟩
  by_cases hlt:j<xs.length
  ·obtain⟨x,hx⟩:=Q3 hlt
   have c0:=hR4.cell (a:=⟨b,o+j,none⟩) (fun e=>by have:=World.block_lt_of_cell? w _ (HC.o j x hx);have e:b=w.heap.size:=e;simp at this;omega) (HKW.o.cell id (HC.o j x hx));obtain rfl:=hA (by omega);obtain⟨y,hy⟩:=Q3 (xs:=cs) (j:=j) (by omega);have c1:=hR1.cell j y hy;have f1:=hR1.free j;have hjn:(j:Int)<(xs.length:Int):=by omega
   have HN:Hi (∃cs',Blk (wo.setCell ⟨w.heap.size,j,none⟩ (.int .i64 x)) w.heap.size cs' 3∧cs'.length=xs.length∧cs'.take (j+1)=Q4 (xs.take (j+1))∧Q0 (fun k=>k=w.heap.size) w1 (wo.setCell ⟨w.heap.size,j,none⟩ (.int .i64 x))):=Hh
    ⟨cs.set j (.int .i64 x),hR1.set j _,by rw[List.length_set];exact hR2,by rw[take_set hR3 (by omega),Jy hx];simp[Q4],hR4.setCell (p:=⟨w.heap.size,j,none⟩) (.inl rfl) _⟩
   clear hx hy hR1 hR2 hR3 hR4 HR;go_wp2_with fail;go_roundw
   case rel=>exact⟨j+1,by omega,by go_num,HN⟩
   case measure=>simp[intOf];omega
  ·have hjn:¬ (j:Int)<(xs.length:Int):=by omega
   obtain rfl:j=xs.length:=by omega
   clear hR1 hR2 hR3 hR4;go_wp2_with fail;go_returns;obtain⟨cs,hR1,hR2,hR3,hR4⟩:=HR.o;rw[List.take_of_length_le (by omega),List.take_of_length_le (Nat.le_refl _)] at hR3;subst hR3
   refine⟨_,rfl,?_,HKW.o.then_ hR4 (fun k e=>.inr (by omega))⟩
   have h9:=hR1.own (S:=Q7 w.heap.size) (n:=xs.length) (m:=1) (by rw[hR2];omega) hl (Nat.le_refl _);exact⟨by rw[Q5];exact h9.1,h9.2⟩
theorem Qg7 (d:Zw) (w:World) :
  Calls prog 74 #[.agg #[.string d.name,.int .i64 d.kind]] w fun e w'=>e=.returned (.agg #[.string d.name,.int .i64 d.kind])∧Q0 nob w w':=by
 obtain⟨nm,kd⟩:=d;go_enter func74,ntmps74;go_wp2_with fail;exact bodyPost_ret (v:=.agg #[.string nm,.int .i64 kd]) (by simp[results,results74,go_sem]) rfl ⟨rfl,(((Kr _ _).alloc _).alloc _).alloc _⟩
theorem Q5l (v:Value) (ds:List Zw) (w:World) (hv:Z1 w v ds) (hl:ds.length≤1048576) :
  Calls prog 35 #[v] w fun e w'=>∃u,e=.returned u∧X5 (Q7 w.heap.size) 128 2 w' u ds.length (decls ds)∧Q0 nob w w':=by
 obtain⟨A,b,o,c,rfl,hn,_,hA,hc⟩:=hv;have HC:=Hh hc;have hmk:=Q8m (T:=36) (e:=128) underlying36 (z:=.agg #[.string ByteArray.empty,.int .i64 0]) (m:=2) (bytes:=24) (by kernel_rfl) ds.length hl (by omega) (zc:=#[.string ByteArray.empty,.int .i64 0]) rfl rfl;obtain⟨hb,hbl⟩:=Q9f w #[.string ByteArray.empty,.int .i64 0] (ds.length*2) 128;have HB:=Hh hb;have HBL:=Hh hbl;clear hc hb hbl;go_enter func35,ntmps35;go_wp2_with fail;clear hmk;have hkw:Q0 nob w (w.alloc (.cells (madeCells #[.string ByteArray.empty,.int .i64 0] (ds.length*2)) 128 (0,0))):=(Kr _ _).alloc _;have HKW:=Hh hkw;clear hkw;generalize hw1:w.alloc (.cells (madeCells #[.string ByteArray.empty,.int .i64 0] (ds.length*2)) 128 (0,0))=w1 at *;clear hw1;generalize (madeCells #[.string ByteArray.empty,.int .i64 0] (ds.length*2)).toList=cs0 at *;go_loopw [4] (fun i wr=>∃j:Nat,j≤ds.length∧i=.int .i64 j∧Hi (∃cs,Blk wr w.heap.size cs 128∧cs.length=ds.length*2∧cs.take (j*2)=decls (ds.take j)∧Q0 (fun k=>k=w.heap.size) w1 wr)) (fun i _=>ds.length-(intOf i).toNat)
 case atStart=>exact⟨0,Nat.zero_le _,rfl,Hh ⟨cs0,HB.o,HBL.o,by simp[decls],Kr _ _⟩⟩
 case round =>
  obtain⟨j,hj,rfl,HR⟩:=hrel;obtain⟨cs,hR1,hR2,hR3,hR4⟩:=HR.o;obtain⟨wo,rfl⟩:∃wo:World,wo=wr:=⟨_,rfl⟩
  by_cases hlt:j<ds.length
  ·obtain⟨x,hx⟩:=Q3 hlt
   have HCW:Hi (∀W,Q0 (fun k=>k=w.heap.size) w1 W→W.cell? ⟨b,o+j*2,none⟩=some (.string x.name)∧W.cell? ⟨b,o+j*2+1,none⟩=some (.int .i64 x.kind)):=Hh fun W hW=>by
    have hne:b≠w.heap.size:=fun e=>by have:=World.block_lt_of_cell? w _ (HC.o j x hx).1;simp at this;omega
    exact⟨hW.cell hne (HKW.o.cell id (HC.o j x hx).1),hW.cell hne (HKW.o.cell id (HC.o j x hx).2)⟩
   obtain⟨c0,c0'⟩:=HCW.o _ hR4;obtain rfl:=hA (by omega);have hjn:(j:Int)<(ds.length:Int):=by omega
   have HR4:=Hh hR4;have HR1:=Hh hR1
   have HT:Hi (∀a b,((cs.set (j*2) a).set (j*2+1) b).take ((j+1)*2)=decls (ds.take j)++[a,b]):=Hh fun a b=>by
    have h:=take_set (take_set hR3 (by omega) a) (by rw[List.length_set];omega) b;rw[List.append_assoc] at h;rw[show (j+1)*2=j*2+1+1 by omega];exact h
   have HE:Hi (decls (ds.take j)++[.string x.name,.int .i64 x.kind]=decls (ds.take (j+1))):=Hh (by rw[Jy hx,← Q73];rfl);obtain⟨y0,hy0⟩:=Q3 (xs:=cs) (j:=j*2) (by omega);obtain⟨y1,hy1⟩:=Q3 (xs:=cs) (j:=j*2+1) (by omega)
   have HY:Hi (∀W,Q0 nob wo W→(W.cell? ⟨w.heap.size,j*2,none⟩=some y0∧W.cell? ⟨w.heap.size,j*2+1,none⟩=some y1)∧∀i,W.frozen? ⟨w.heap.size,i,none⟩=false):=Hh fun W hW =>
    ⟨⟨(hR1.kept hW id).cell _ _ hy0,(hR1.kept hW id).cell _ _ hy1⟩,(hR1.kept hW id).free⟩
   have HL:=Hh hR2;clear hx hR1 hR2 hR3 hR4 hy0 hy1 HR;go_wp2_with (go_at_call 74;refine (Qg7 x _).mono ?_;rintro e w3 ⟨rfl,hk3⟩;obtain⟨⟨s0,s1⟩,f0⟩:=HY.o _ hk3;have f1:=f0 (j*2);have f2:=f0 (j*2+1);clear f0);go_roundw
   case rel =>
    refine⟨j+1,by omega,by go_num,Hh ⟨_,((HR1.o.kept hk3 id).set (j*2) (.string x.name)).set (j*2+1) (.int .i64 x.kind),by rw[List.length_set,List.length_set];exact HL.o,(HT.o _ _).trans HE.o,?_⟩⟩;exact ((HR4.o.trans (hk3.ofNob _)).setCell (p:=⟨w.heap.size,j*2,none⟩) (.inl rfl) _).setCell (p:=⟨w.heap.size,j*2+1,none⟩) (.inl rfl) _
   case measure=>simp[intOf];omega
  ·have hjn:¬ (j:Int)<(ds.length:Int):=by omega
   obtain rfl:j=ds.length:=by omega
   clear hR1 hR2 hR3 hR4;go_wp2_with fail;go_returns;obtain⟨cs,hR1,hR2,hR3,hR4⟩:=HR.o;rw[List.take_of_length_le (by omega),List.take_of_length_le (Nat.le_refl _)] at hR3;subst hR3;exact⟨_,rfl,hR1.own (S:=Q7 w.heap.size) hR2 hl (Nat.le_refl _),HKW.o.then_ hR4 (fun k e=>.inr (by omega))⟩
def Q71 (S:Nat→Prop) (w:World) (v:Value) (r:Reg):Prop :=
 ∃v0 v1 v2,v=.agg #[v0,v1,v2]∧(X5 S 128 2 w v0 r.comps.length (decls r.comps)∧X5 S 128 2 w v1 r.ress.length (decls r.ress)∧X5 S 128 2 w v2 r.evts.length (decls r.evts)) ∧
  sep v0.ownBlock v1.ownBlock∧sep v0.ownBlock v2.ownBlock∧sep v1.ownBlock v2.ownBlock
theorem X5.decls {S:Nat→Prop} {w:World} {v:Value} {ds:List Zw} (h:X5 S 128 2 w v ds.length (decls ds)) (hl:ds.length≤140737488355328):Z1 w v ds:=by
 obtain⟨A,b,c,rfl,hn,hnc,hA,hc⟩:=h.opened
 refine⟨A,b,0,c,rfl,hl,hnc,fun h0=>(hA h0).1,fun j x hx=>?_⟩
 simp only[Nat.zero_add];exact Q5p hc hx
theorem Q71.reg {S:Nat→Prop} {w:World} {v:Value} {r:Reg} (h:Q71 S w v r) (hl:r.comps.length≤1048576∧r.ress.length≤1048576∧r.evts.length≤1048576):Q1d w v r:=by
 obtain⟨v0,v1,v2,rfl,⟨h0,h1,h2⟩,_⟩:=h;exact⟨v0,v1,v2,rfl,h0.decls (by omega),h1.decls (by omega),h2.decls (by omega)⟩
theorem Q6y {S:Nat→Prop} {e:TypeId} {m n:Nat} {w:World} {u v:Value} {xs:List Value} (h:X5 S e m w u n xs) (hs:∀k,v.ownBlock=some k→w.heap.size≤k):sep u.ownBlock v.ownBlock:=fun b hb hb2=>by have:=h.lt b hb;have:=hs b hb2;omega
theorem Qka (v:Value) (r:Reg) (w:World) (hv:Q1d w v r) (hl:r.comps.length≤1048576∧r.ress.length≤1048576∧r.evts.length≤1048576) :
  Calls prog 9 #[v] w fun e w'=>∃u,e=.returned u∧Q71 (Q7 w.heap.size) w' u r∧Q0 nob w w':=by
 have hv':=hv;obtain⟨v0,v1,v2,rfl,⟨A0,b0,o0,c0,rfl,_⟩,⟨A1,b1,o1,c1,rfl,_⟩,⟨A2,b2,o2,c2,rfl,_⟩⟩:=hv;have hk0:Q0 nob w (((w.alloc (.cells #[.slice A0 r.comps.length c0,.slice A1 r.ress.length c1,.slice A2 r.evts.length c2] 24 (0,0))).alloc (.cells #[.slice none 0 0,.slice none 0 0,.slice none 0 0] 38 (0,0))).alloc (.cells #[.slice none 0 0,.slice none 0 0,.slice none 0 0] 38 (0,0))):=(((Kr _ _).alloc _).alloc _).alloc _;have hB:Blk (((w.alloc (.cells #[.slice A0 r.comps.length c0,.slice A1 r.ress.length c1,.slice A2 r.evts.length c2] 24 (0,0))).alloc (.cells #[.slice none 0 0,.slice none 0 0,.slice none 0 0] 38 (0,0))).alloc (.cells #[.slice none 0 0,.slice none 0 0,.slice none 0 0] 38 (0,0))) w.heap.size [.slice A0 r.comps.length c0,.slice A1 r.ress.length c1,.slice A2 r.evts.length c2] 24:=((Blk.new_of _ _ _ rfl).alloc _).alloc _;have hO:Blk (((w.alloc (.cells #[.slice A0 r.comps.length c0,.slice A1 r.ress.length c1,.slice A2 r.evts.length c2] 24 (0,0))).alloc (.cells #[.slice none 0 0,.slice none 0 0,.slice none 0 0] 38 (0,0))).alloc (.cells #[.slice none 0 0,.slice none 0 0,.slice none 0 0] 38 (0,0))) (w.heap.size+1) [.slice none 0 0,.slice none 0 0,.slice none 0 0] 38:=(Blk.new_of _ _ _ (by simp)).alloc _;have hL:Blk (((w.alloc (.cells #[.slice A0 r.comps.length c0,.slice A1 r.ress.length c1,.slice A2 r.evts.length c2] 24 (0,0))).alloc (.cells #[.slice none 0 0,.slice none 0 0,.slice none 0 0] 38 (0,0))).alloc (.cells #[.slice none 0 0,.slice none 0 0,.slice none 0 0] 38 (0,0))) (w.heap.size+1+1) [.slice none 0 0,.slice none 0 0,.slice none 0 0] 38:=Blk.new_of _ _ _ (by simp);have hst:((((w.alloc (.cells #[.slice A0 r.comps.length c0,.slice A1 r.ress.length c1,.slice A2 r.evts.length c2] 24 (0,0))).alloc (.cells #[.slice none 0 0,.slice none 0 0,.slice none 0 0] 38 (0,0))).alloc (.cells #[.slice none 0 0,.slice none 0 0,.slice none 0 0] 38 (0,0)))).heap.size=w.heap.size+3:=by simp
 generalize hW0:(((w.alloc (.cells #[.slice A0 r.comps.length c0,.slice A1 r.ress.length c1,.slice A2 r.evts.length c2] 24 (0,0))).alloc (.cells #[.slice none 0 0,.slice none 0 0,.slice none 0 0] 38 (0,0))).alloc (.cells #[.slice none 0 0,.slice none 0 0,.slice none 0 0] 38 (0,0)))=W0 at hk0 hB hO hL hst
 have HRD:Hi (∀W,Q0 (fun k=>k=w.heap.size+1+1) W0 W→Z1 W (.slice A0 r.comps.length c0) r.comps∧Z1 W (.slice A1 r.ress.length c1) r.ress∧Z1 W (.slice A2 r.evts.length c2) r.evts):=Hh fun W hW=>by
  have h:=hv'.old (((hk0.ofNob _).trans hW).oldS fun k hk e=>by have e:k=w.heap.size+1+1:=e;omega);obtain⟨x0,x1,x2,e,h0,h1,h2⟩:=h;cases e;exact⟨h0,h1,h2⟩
 have HL:=Hh hl;have HKN:=Hh hk0;have HK0:Hi (Q0 (fun k=>k=w.heap.size+1+1) W0 W0):=Hh (Kr _ _);have HB0:=Hh hB;have HL0:=Hh hL;have HST:=Hh hst;have HOO:=Hh hO;clear hO hst hv' hl hk0;have g0:=hB.cell 0 _ rfl;clear hB hL;go_enter func9,ntmps9;go_upto_region 2 with fail
 clear hW0;go_upto_region 3 with (go_at_call 35;refine (Q5l _ r.comps _ (HRD.o _ HK0.o).1 HL.o.1).mono ?_;rintro e w1 ⟨u0,rfl,ho,hk⟩;obtain⟨B0,d0,rfl⟩:=ho.len;have hb:=HB0.o.kept hk id;have hl:=HL0.o.kept hk id;have q1:=hl.cell 0 _ rfl;have f1:=hl.free 0;have hle:=HK0.o.size;have hm:=ho.mono (S':=Q7 W0.heap.size) (fun k h=>Nat.le_trans hle h);have HO1:=Hh (hm.kept ((Kr (fun k=>k=w.heap.size+1+1) _).setCell (p:=⟨w.heap.size+1+1,0,none⟩) (.inl rfl) (.slice B0 r.comps.length d0)) (fun k h e=>by have h:W0.heap.size≤k:=hm.2 k h;have e:k=w.heap.size+1+1:=e;have:=HST.o;omega));have HK1:=Hh ((HK0.o.trans (hk.ofNob _)).setCell (p:=⟨w.heap.size+1+1,0,none⟩) (.inl rfl) (.slice B0 r.comps.length d0));have HL1:=Hh (hl.set 0 (.slice B0 r.comps.length d0));have HB1:=Hh (hb.other (p:=⟨w.heap.size+1+1,0,none⟩) (by simp;omega) (.slice B0 r.comps.length d0));clear ho hk hle hm hb hl HB0 HL0)
 generalize w1.setCell ⟨w.heap.size+1+1,0,none⟩ (.slice B0 r.comps.length d0)=W1 at *;clear g0 q1 f1;have g1:=HB1.o.cell 1 _ rfl;go_upto_region 4 with (go_at_call 35;refine (Q5l _ r.ress _ (HRD.o _ HK1.o).2.1 HL.o.2.1).mono ?_;rintro e w2 ⟨u1,rfl,ho,hk⟩;obtain⟨B1,d1,rfl⟩:=ho.len;have hb:=HB1.o.kept hk id;have hl:=HL1.o.kept hk id;have q2:=hl.cell 1 _ rfl;have f2:=hl.free 1;have hle:=HK1.o.size;have hm:=ho.mono (S':=Q7 W0.heap.size) (fun k h=>Nat.le_trans hle h);have HO2:=Hh (hm.kept ((Kr (fun k=>k=w.heap.size+1+1) _).setCell (p:=⟨w.heap.size+1+1,1,none⟩) (.inl rfl) (.slice B1 r.ress.length d1)) (fun k h e=>by have h:W0.heap.size≤k:=hm.2 k h;have e:k=w.heap.size+1+1:=e;have:=HST.o;omega));have Qpg:=Hh (Q6y HO1.o ho.2);replace HO1:=Hh ((HO1.o.nobk hk).kept ((Kr (fun k=>k=w.heap.size+1+1) _).setCell (p:=⟨w.heap.size+1+1,1,none⟩) (.inl rfl) (.slice B1 r.ress.length d1)) (fun k h e=>by have h:W0.heap.size≤k:=(HO1.o.nobk hk).2 k h;have e:k=w.heap.size+1+1:=e;have:=HST.o;omega));have HK2:=Hh ((HK1.o.trans (hk.ofNob _)).setCell (p:=⟨w.heap.size+1+1,1,none⟩) (.inl rfl) (.slice B1 r.ress.length d1));have HL2:=Hh (hl.set 1 (.slice B1 r.ress.length d1));have HB2:=Hh (hb.other (p:=⟨w.heap.size+1+1,1,none⟩) (by simp;omega) (.slice B1 r.ress.length d1));clear ho hk hle hm hb hl HB1 HL1)
 generalize w2.setCell ⟨w.heap.size+1+1,1,none⟩ (.slice B1 r.ress.length d1)=W2 at *;clear g1 q2 f2;have g2:=HB2.o.cell 2 _ rfl;go_upto_region 5 with (go_at_call 35;refine (Q5l _ r.evts _ (HRD.o _ HK2.o).2.2 HL.o.2.2).mono ?_;rintro e w3 ⟨u2,rfl,ho,hk⟩;obtain⟨B2,d2,rfl⟩:=ho.len;have hb:=HB2.o.kept hk id;have hl:=HL2.o.kept hk id;have q3:=hl.cell 2 _ rfl;have f3:=hl.free 2;have hle:=HK2.o.size;have hm:=ho.mono (S':=Q7 W0.heap.size) (fun k h=>Nat.le_trans hle h);have HO3:=Hh (hm.kept ((Kr (fun k=>k=w.heap.size+1+1) _).setCell (p:=⟨w.heap.size+1+1,2,none⟩) (.inl rfl) (.slice B2 r.evts.length d2)) (fun k h e=>by have h:W0.heap.size≤k:=hm.2 k h;have e:k=w.heap.size+1+1:=e;have:=HST.o;omega));have Qsd:=Hh (Q6y HO1.o ho.2);replace HO1:=Hh ((HO1.o.nobk hk).kept ((Kr (fun k=>k=w.heap.size+1+1) _).setCell (p:=⟨w.heap.size+1+1,2,none⟩) (.inl rfl) (.slice B2 r.evts.length d2)) (fun k h e=>by have h:W0.heap.size≤k:=(HO1.o.nobk hk).2 k h;have e:k=w.heap.size+1+1:=e;have:=HST.o;omega));have Qyh:=Hh (Q6y HO2.o ho.2);replace HO2:=Hh ((HO2.o.nobk hk).kept ((Kr (fun k=>k=w.heap.size+1+1) _).setCell (p:=⟨w.heap.size+1+1,2,none⟩) (.inl rfl) (.slice B2 r.evts.length d2)) (fun k h e=>by have h:W0.heap.size≤k:=(HO2.o.nobk hk).2 k h;have e:k=w.heap.size+1+1:=e;have:=HST.o;omega));have HK3:=Hh ((HK2.o.trans (hk.ofNob _)).setCell (p:=⟨w.heap.size+1+1,2,none⟩) (.inl rfl) (.slice B2 r.evts.length d2));have HL3:=Hh (hl.set 2 (.slice B2 r.evts.length d2));have HB3:=Hh (hb.other (p:=⟨w.heap.size+1+1,2,none⟩) (by simp;omega) (.slice B2 r.evts.length d2));clear ho hk hle hm hb hl HB2 HL2)
 generalize w3.setCell ⟨w.heap.size+1+1,2,none⟩ (.slice B2 r.evts.length d2)=W3 at *;clear g2 q3 f3;have e0:=HL3.o.cell 0 _ rfl;have e1:=HL3.o.cell 1 _ rfl;have e2:=HL3.o.cell 2 _ rfl;have hr:=HOO.o.kept HK3.o (by omega);have r0:=hr.cell 0 _ rfl;have r1:=hr.cell 1 _ rfl;have r2:=hr.cell 2 _ rfl;have f0:=hr.free 0;have f1:=hr.free 1;have f2:=hr.free 2;have hR:=((hr.set 0 (.slice B0 r.comps.length d0)).set 1 (.slice B1 r.ress.length d1)).set 2 (.slice B2 r.evts.length d2);have x0:=hR.cell 0 _ rfl;have x1:=hR.cell 1 _ rfl;have x2:=hR.cell 2 _ rfl;have hkk:=(((Kr (fun k=>k=w.heap.size+1) W3).setCell (p:=⟨w.heap.size+1,0,none⟩) (.inl rfl) (.slice B0 r.comps.length d0)).setCell (p:=⟨w.heap.size+1,1,none⟩) (.inl rfl) (.slice B1 r.ress.length d1)).setCell (p:=⟨w.heap.size+1,2,none⟩) (.inl rfl) (.slice B2 r.evts.length d2);have HKK:=Hh hkk;clear hr hR hkk;go_wp2_with fail;have hw0:=HST.o;have hno:∀{u:Value} {n:Nat} {xs:List Value},X5 (Q7 W0.heap.size) 128 2 W3 u n xs→∀k,u.ownBlock=some k→¬ k=w.heap.size+1:=fun h k hk e=>by have h:W0.heap.size≤k:=h.2 k hk;omega
 have hsi:∀{W:World} {u:Value} {n:Nat} {xs:List Value},X5 (Q7 W0.heap.size) 128 2 W u n xs→X5 (Q7 w.heap.size) 128 2 W u n xs:=fun h=>h.mono fun k hk=>by have hk:W0.heap.size≤k:=hk;show w.heap.size≤k;omega
 refine bodyPost_ret (v:=.agg #[.slice B0 r.comps.length d0,.slice B1 r.ress.length d1,.slice B2 r.evts.length d2]) (by simp[results,results9,go_sem,x0,x1,x2]) rfl ⟨_,rfl,⟨_,_,_,rfl,⟨hsi (HO1.o.kept HKK.o (hno HO1.o)),hsi (HO2.o.kept HKK.o (hno HO2.o)),hsi (HO3.o.kept HKK.o (hno HO3.o))⟩,Qpg.o,Qsd.o,Qyh.o⟩,?_⟩;exact (HKN.o.then_ HK3.o (fun k e=>.inr (by omega))).then_ HKK.o (fun k e=>.inr (by omega))
theorem Qfv (n:Qc) (kv:Value) (w:World) (hv:Qi w kv n.kids) (hl:n.kids.length≤1048576) :
  Calls prog 75 #[.agg #[.int .i64 n.kind,.string n.text,.int .i64 n.i,kv]] w fun e w'=>∃u,e=.returned (.agg #[.int .i64 n.kind,.string n.text,.int .i64 n.i,u])∧Qf (Q7 w.heap.size) 3 w' u (Q4 n.kids)∧Q0 nob w w':=by
 have hv':=hv;obtain⟨A0,b0,o0,c0,rfl,_⟩:=hv;obtain⟨kd,tx,i,ks⟩:=n;dsimp only at *;have hk0:Q0 nob w (((w.alloc (.cells #[.int .i64 kd,.string tx,.int .i64 i,.slice A0 ks.length c0] 120 (0,0))).alloc (.cells #[.int .i64 0,.string ⟨#[]⟩,.int .i64 0,.slice none 0 0] 70 (0,0))).alloc (.cells #[.int .i64 kd,.string tx,.int .i64 i,.slice none 0 0] 70 (0,0))):=(((Kr _ _).alloc _).alloc _).alloc _;have hB:Blk (((w.alloc (.cells #[.int .i64 kd,.string tx,.int .i64 i,.slice A0 ks.length c0] 120 (0,0))).alloc (.cells #[.int .i64 0,.string ⟨#[]⟩,.int .i64 0,.slice none 0 0] 70 (0,0))).alloc (.cells #[.int .i64 kd,.string tx,.int .i64 i,.slice none 0 0] 70 (0,0))) w.heap.size [.int .i64 kd,.string tx,.int .i64 i,.slice A0 ks.length c0] 120:=((Blk.new_of _ _ _ rfl).alloc _).alloc _;have hO:Blk (((w.alloc (.cells #[.int .i64 kd,.string tx,.int .i64 i,.slice A0 ks.length c0] 120 (0,0))).alloc (.cells #[.int .i64 0,.string ⟨#[]⟩,.int .i64 0,.slice none 0 0] 70 (0,0))).alloc (.cells #[.int .i64 kd,.string tx,.int .i64 i,.slice none 0 0] 70 (0,0))) (w.heap.size+1) [.int .i64 0,.string ⟨#[]⟩,.int .i64 0,.slice none 0 0] 70:=(Blk.new_of _ _ _ (by simp)).alloc _;have hL:Blk (((w.alloc (.cells #[.int .i64 kd,.string tx,.int .i64 i,.slice A0 ks.length c0] 120 (0,0))).alloc (.cells #[.int .i64 0,.string ⟨#[]⟩,.int .i64 0,.slice none 0 0] 70 (0,0))).alloc (.cells #[.int .i64 kd,.string tx,.int .i64 i,.slice none 0 0] 70 (0,0))) (w.heap.size+1+1) [.int .i64 kd,.string tx,.int .i64 i,.slice none 0 0] 70:=Blk.new_of _ _ _ (by simp);have hst:((((w.alloc (.cells #[.int .i64 kd,.string tx,.int .i64 i,.slice A0 ks.length c0] 120 (0,0))).alloc (.cells #[.int .i64 0,.string ⟨#[]⟩,.int .i64 0,.slice none 0 0] 70 (0,0))).alloc (.cells #[.int .i64 kd,.string tx,.int .i64 i,.slice none 0 0] 70 (0,0)))).heap.size=w.heap.size+3:=by simp
 generalize hW0:(((w.alloc (.cells #[.int .i64 kd,.string tx,.int .i64 i,.slice A0 ks.length c0] 120 (0,0))).alloc (.cells #[.int .i64 0,.string ⟨#[]⟩,.int .i64 0,.slice none 0 0] 70 (0,0))).alloc (.cells #[.int .i64 kd,.string tx,.int .i64 i,.slice none 0 0] 70 (0,0)))=W0 at hk0 hB hO hL hst;have HRD:Hi (Qi W0 (.slice A0 ks.length c0) ks):=Hh (hv'.old hk0.old);have HK0:=Hh hk0;have HL:=Hh hL;have HO:=Hh hO;have HST:=Hh hst;have HLN:=Hh hl;have g0:=hB.cell 3 _ rfl;clear hk0 hO hst hl hB hL hv';go_enter func75,ntmps75;go_upto_region 5 with fail
 clear hW0;go_upto_region 6 with (go_at_call 37;refine (Qap _ ks _ HRD.o HLN.o).mono ?_;rintro e w1 ⟨u0,rfl,ho,hk⟩;obtain⟨B0,d0,hu⟩:=ho.len;rw[Q5] at hu;subst hu;have hl:=HL.o.kept hk id;have q1:=hl.cell 3 _ rfl;have f1:=hl.free 3;have HL1:=Hh (hl.set 3 (.slice B0 ks.length d0));have HK1:=Hh ((hk.ofNob (fun k=>k=w.heap.size+1+1)).setCell (p:=⟨w.heap.size+1+1,3,none⟩) (.inl rfl) (.slice B0 ks.length d0));have HO1:=Hh (ho.other (p:=⟨w.heap.size+1+1,3,none⟩) (fun e=>by have h:W0.heap.size≤w.heap.size+1+1:=ho.2 _ e;have:=HST.o;omega) (.slice B0 ks.length d0));clear hl ho hk)
 generalize w1.setCell ⟨w.heap.size+1+1,3,none⟩ (.slice B0 ks.length d0)=W1 at *;clear q1 f1 g0;have e0:=HL1.o.cell 0 _ rfl;have e1:=HL1.o.cell 1 _ rfl;have e2:=HL1.o.cell 2 _ rfl;have e3:=HL1.o.cell 3 _ rfl;have hr:=HO.o.kept HK1.o (by omega);have r0:=hr.cell 0 _ rfl;have r1:=hr.cell 1 _ rfl;have r2:=hr.cell 2 _ rfl;have r3:=hr.cell 3 _ rfl;have f0:=hr.free 0;have f1:=hr.free 1;have f2:=hr.free 2;have f3:=hr.free 3;have hR:=(((hr.set 0 (.int .i64 kd)).set 1 (.string tx)).set 2 (.int .i64 i)).set 3 (.slice B0 ks.length d0);have x0:=hR.cell 0 _ rfl;have x1:=hR.cell 1 _ rfl;have x2:=hR.cell 2 _ rfl;have x3:=hR.cell 3 _ rfl;have HKK:=Hh ((((Kr (fun k=>k=w.heap.size+1) W1).setCell (p:=⟨w.heap.size+1,0,none⟩) (.inl rfl) (.int .i64 kd)).setCell (p:=⟨w.heap.size+1,1,none⟩) (.inl rfl) (.string tx)).setCell (p:=⟨w.heap.size+1,2,none⟩) (.inl rfl) (.int .i64 i) |>.setCell (p:=⟨w.heap.size+1,3,none⟩) (.inl rfl) (.slice B0 ks.length d0));clear hr hR;go_wp2_with fail;have hw0:=HST.o;refine bodyPost_ret (v:=.agg #[.int .i64 kd,.string tx,.int .i64 i,.slice B0 ks.length d0]) (by simp[results,results75,go_sem,x0,x1,x2,x3]) rfl ⟨_,rfl,?_,?_⟩
 ·exact (HO1.o.kept HKK.o (fun k hk e=>by have h:W0.heap.size≤k:=HO1.o.2 k hk;omega)).mono fun k hk=>by have hk:W0.heap.size≤k:=hk;show w.heap.size≤k;omega
 ·exact (HK0.o.then_ HK1.o (fun k e=>.inr (by omega))).then_ HKK.o (fun k e=>.inr (by omega))
theorem Qg2 {α:Type} {cs:List α} {j:Nat} {p:List α} (h:cs.take (j*4)=p) (hj:j*4+3<cs.length) (a b c d:α):((((cs.set (j*4) a).set (j*4+1) b).set (j*4+2) c).set (j*4+3) d).take ((j+1)*4)=p++[a,b,c,d]:=by
 have h:=take_set (take_set (take_set (take_set h (by omega) a) (by rw[List.length_set];omega) b) (by rw[List.length_set,List.length_set];omega) c) (by rw[List.length_set,List.length_set,List.length_set];omega) d;simp only[List.append_assoc,List.cons_append,List.nil_append] at h;rw[show (j+1)*4=j*4+3+1 by omega];exact h
structure Qfm (w1:World) (p:Nat) (ns:List Qc) (j:Nat) (wr:World) (cs:List Value) (l:List (Qc×Value)):Prop where
 b:Blk wr p cs 70
 n:cs.length=ns.length*4
 t:cs.take (j*4)=Xo l
 m:l.map Prod.fst=ns.take j
 k:∀q∈l,Qf (Q7 w1.heap.size) 3 wr q.2 (Q4 q.1.kids)
 s:l.Pairwise fun p q=>sep p.2.ownBlock q.2.ownBlock
 h:Q0 (fun k=>k=p) w1 wr
theorem Qfm.next {w1 wr w3:World} {p j:Nat} {ns:List Qc} {cs:List Value} {l:List (Qc×Value)} (h:Qfm w1 p ns j wr cs l) (hp:p<w1.heap.size) {n:Qc} (hn:ns[j]?=some n) {u:Value}
  (hu:Qf (Q7 wr.heap.size) 3 w3 u (Q4 n.kids)) (hk:Q0 nob wr w3) :
  Qfm w1 p ns (j+1) ((((w3.setCell ⟨p,j*4,none⟩ (.int .i64 n.kind)).setCell ⟨p,j*4+1,none⟩ (.string n.text)).setCell ⟨p,j*4+2,none⟩ (.int .i64 n.i)).setCell ⟨p,j*4+3,none⟩ u)
   ((((cs.set (j*4) (.int .i64 n.kind)).set (j*4+1) (.string n.text)).set (j*4+2) (.int .i64 n.i)).set (j*4+3) u) (l++[(n,u)]):=by
 have hj:=(Gs hn).1;have hsz:=h.h.size
 have hst:Q0 (fun k=>k=p) w3 ((((w3.setCell ⟨p,j*4,none⟩ (.int .i64 n.kind)).setCell ⟨p,j*4+1,none⟩ (.string n.text)).setCell ⟨p,j*4+2,none⟩ (.int .i64 n.i)).setCell ⟨p,j*4+3,none⟩ u) :=
  ((((Kr (fun k=>k=p) w3).setCell (p:=⟨p,j*4,none⟩) (.inl rfl) _).setCell (p:=⟨p,j*4+1,none⟩) (.inl rfl) _).setCell (p:=⟨p,j*4+2,none⟩) (.inl rfl) _).setCell (p:=⟨p,j*4+3,none⟩) (.inl rfl) _
 refine⟨((((h.b.kept hk id).set _ _).set _ _).set _ _).set _ _,by simp only[List.length_set];exact h.n,?_,?_,?_,?_,(h.h.trans (hk.ofNob _)).trans hst⟩
 ·rw[Qg2 h.t (by rw[h.n];omega),← Q26];simp[Xo,Ys]
 ·rw[List.map_append,h.m,Jy hn];rfl
 ·intro q hq
  rcases List.mem_append.1 hq with hq|hq
  ·exact ((h.k q hq).nobk hk).kept hst (fun k e e2=>by have:=(h.k q hq).2 k e;have h2:w1.heap.size≤k:=this;have e2:k=p:=e2;omega)
  ·simp at hq;subst hq
   exact (hu.mono fun k e=>by have e:wr.heap.size≤k:=e;show w1.heap.size≤k;omega).kept hst (fun k e e2=>by have e:wr.heap.size≤k:=hu.2 k e;have e2:k=p:=e2;omega)
 ·rw[List.pairwise_append]
  refine⟨h.s,by simp,fun a ha b hb=>?_⟩
  simp at hb;subst hb;intro k hk1 hk2;have h1:=(h.k a ha).lt k hk1;have h2:wr.heap.size≤k:=hu.2 k hk2;omega
theorem Qee (v:Value) (ns:List Qc) (w:World) (hv:X4 w v ns) (hl:ns.length≤1048576) (hkl:∀n∈ns,n.kids.length≤1048576) :
  Calls prog 36 #[v] w fun e w'=>∃u l,e=.returned u∧Jc (Q7 w.heap.size) w' u l∧l.map Prod.fst=ns∧Q0 nob w w':=by
 obtain⟨A,b,o,c,rfl,hn,_,hA,hc⟩:=hv;have HC:=Hh hc;have HKL:=Hh hkl;have hmk:=Q8m (T:=31) (e:=70) underlying31 (z:=.agg #[.int .i64 0,.string ByteArray.empty,.int .i64 0,.slice none 0 0]) (m:=4) (bytes:=56) (by kernel_rfl) ns.length hl (by omega) (zc:=#[.int .i64 0,.string ByteArray.empty,.int .i64 0,.slice none 0 0]) rfl rfl;obtain⟨hb,hbl⟩:=Q9f w #[.int .i64 0,.string ByteArray.empty,.int .i64 0,.slice none 0 0] (ns.length*4) 70;have HB:=Hh hb;have HBL:=Hh hbl;clear hc hb hbl hkl;go_enter func36,ntmps36;go_wp2_with fail;clear hmk;have hkw:Q0 nob w (w.alloc (.cells (madeCells #[.int .i64 0,.string ByteArray.empty,.int .i64 0,.slice none 0 0] (ns.length*4)) 70 (0,0))):=(Kr _ _).alloc _;have hsz:(w.alloc (.cells (madeCells #[.int .i64 0,.string ByteArray.empty,.int .i64 0,.slice none 0 0] (ns.length*4)) 70 (0,0))).heap.size=w.heap.size+1:=by simp
 have HKW:=Hh hkw;have HSZ:=Hh hsz;clear hkw hsz;generalize hw1:w.alloc (.cells (madeCells #[.int .i64 0,.string ByteArray.empty,.int .i64 0,.slice none 0 0] (ns.length*4)) 70 (0,0))=w1 at *;clear hw1;generalize (madeCells #[.int .i64 0,.string ByteArray.empty,.int .i64 0,.slice none 0 0] (ns.length*4)).toList=cs0 at *;go_loopw [4] (fun i wr=>∃j:Nat,j≤ns.length∧i=.int .i64 j∧Hi (∃cs l,Qfm w1 w.heap.size ns j wr cs l)) (fun i _=>ns.length-(intOf i).toNat)
 case atStart=>exact⟨0,Nat.zero_le _,rfl,Hh ⟨cs0,[],HB.o,HBL.o,by simp[Xo],rfl,by simp,by simp,Kr _ _⟩⟩
 case round =>
  obtain⟨j,hj,rfl,HR⟩:=hrel;obtain⟨cs,l,hR⟩:=HR.o;have HN:=Hh hR;obtain⟨wo,rfl⟩:∃wo:World,wo=wr:=⟨_,rfl⟩
  by_cases hlt:j<ns.length
  ·obtain⟨x,hx⟩:=Q3 hlt
   obtain⟨kv,c0,c1,c2,c3,hkv⟩:=HC.o j x hx;have hne:b≠w.heap.size:=fun e=>by have:=World.block_lt_of_cell? w _ c0;simp at this;omega
   have Qn8:Zu w wo:=(HKW.o.trans (Kr _ _)).oldS (fun _ _ h=>h) |> fun h=>by
    have h2:=(HKW.o.ofNob (fun k=>k=w.heap.size)).trans hR.h;exact h2.oldS fun k hk e=>by have e:k=w.heap.size:=e;omega
   have HKV:Hi (Qi wo kv x.kids):=Hh (hkv.old Qn8);replace c0:=Qn8.cell c0;replace c1:=Qn8.cell c1;replace c2:=Qn8.cell c2;replace c3:=Qn8.cell c3;obtain⟨KA,_,_,kc,rfl,_⟩:=hkv;obtain rfl:=hA (by omega);have hjn:(j:Int)<(ns.length:Int):=by omega
   have hcl:=hR.n;obtain⟨y0,hy0⟩:=Q3 (xs:=cs) (j:=j*4) (by omega);obtain⟨y1,hy1⟩:=Q3 (xs:=cs) (j:=j*4+1) (by omega);obtain⟨y2,hy2⟩:=Q3 (xs:=cs) (j:=j*4+2) (by omega);obtain⟨y3,hy3⟩:=Q3 (xs:=cs) (j:=j*4+3) (by omega)
   have HY:Hi (∀W,Q0 nob wo W→(W.cell? ⟨w.heap.size,j*4,none⟩=some y0∧W.cell? ⟨w.heap.size,j*4+1,none⟩=some y1∧W.cell? ⟨w.heap.size,j*4+2,none⟩=some y2∧W.cell? ⟨w.heap.size,j*4+3,none⟩=some y3)∧∀i,W.frozen? ⟨w.heap.size,i,none⟩=false):=Hh fun W hW =>
    ⟨⟨(hR.b.kept hW id).cell _ _ hy0,(hR.b.kept hW id).cell _ _ hy1,(hR.b.kept hW id).cell _ _ hy2,(hR.b.kept hW id).cell _ _ hy3⟩,(hR.b.kept hW id).free⟩
   have HX:=Hh hx;clear hx hR hy0 hy1 hy2 hy3 HR Qn8 hne hcl;go_wp2_with (go_at_call 75;refine (Qfv x _ _ HKV.o (HKL.o x (Mg HX.o))).mono ?_;rintro e w3 ⟨u,rfl,hou,hk3⟩;obtain⟨UB,ud,huv⟩:=hou.len;rw[Q5] at huv;subst huv;obtain⟨⟨s0,s1,s2,s3⟩,f0⟩:=HY.o _ hk3;have f1:=f0 (j*4);have f2:=f0 (j*4+1);have f3:=f0 (j*4+2);have f4:=f0 (j*4+3);have HN2:=Hh (HN.o.next (by have:=HSZ.o;omega) HX.o hou hk3);clear f0 hou hk3);go_roundw
   case rel=>exact⟨j+1,by omega,by go_num,Hh ⟨_,_,HN2.o⟩⟩
   case measure=>simp[intOf];omega
  ·have hjn:¬ (j:Int)<(ns.length:Int):=by omega
   obtain rfl:j=ns.length:=by omega
   clear hR;go_wp2_with fail;go_returns;have hR:=HN.o;have h1:=hR.t;have h2:=hR.m;rw[List.take_of_length_le (by rw[hR.n];omega)] at h1;rw[List.take_of_length_le (Nat.le_refl _)] at h2;have hll:l.length=ns.length:=by rw[← h2,List.length_map]
   have hz:=HSZ.o
   refine⟨_,rfl,l,⟨?_,fun p hp=>(hR.k p hp).mono fun k hk=>by have hk:w1.heap.size≤k:=hk;show w.heap.size≤k;omega,fun p hp k hk1 hk2=>?_,hR.s⟩,h2,HKW.o.then_ hR.h (fun k e=>.inr (by omega))⟩
   ·rw[← h1,hll]
    exact hR.b.own hR.n hl (Nat.le_refl _)
   ·have h3:w1.heap.size≤k:=(hR.k p hp).2 k hk2
    simp[Value.ownBlock] at hk1;omega
theorem Qfy (v:Value) (t:Q1) (w:World) (hv:Z3 w v t) (hl:t.nodes.length≤1048576∧t.tops.length≤1048576) (hkl:∀n∈t.nodes,n.kids.length≤1048576) :
  Calls prog 10 #[v] w fun e w'=>∃nv tv l,e=.returned (.agg #[nv,tv])∧Q07 (Q7 w.heap.size) w' nv tv l t.tops∧l.map Prod.fst=t.nodes∧Q0 nob w w':=by
 have hv':=hv;obtain⟨v0,v1,rfl,⟨A0,b0,o0,c0,rfl,_⟩,⟨A1,b1,o1,c1,rfl,_⟩⟩:=hv;have hk0:Q0 nob w (((w.alloc (.cells #[.slice A0 t.nodes.length c0,.slice A1 t.tops.length c1] 28 (0,0))).alloc (.cells #[.slice none 0 0,.slice none 0 0] 33 (0,0))).alloc (.cells #[.slice none 0 0,.slice none 0 0] 33 (0,0))):=(((Kr _ _).alloc _).alloc _).alloc _;have hB:Blk (((w.alloc (.cells #[.slice A0 t.nodes.length c0,.slice A1 t.tops.length c1] 28 (0,0))).alloc (.cells #[.slice none 0 0,.slice none 0 0] 33 (0,0))).alloc (.cells #[.slice none 0 0,.slice none 0 0] 33 (0,0))) w.heap.size [.slice A0 t.nodes.length c0,.slice A1 t.tops.length c1] 28:=((Blk.new_of _ _ _ rfl).alloc _).alloc _;have hO:Blk (((w.alloc (.cells #[.slice A0 t.nodes.length c0,.slice A1 t.tops.length c1] 28 (0,0))).alloc (.cells #[.slice none 0 0,.slice none 0 0] 33 (0,0))).alloc (.cells #[.slice none 0 0,.slice none 0 0] 33 (0,0))) (w.heap.size+1) [.slice none 0 0,.slice none 0 0] 33:=(Blk.new_of _ _ _ (by simp)).alloc _;have hL:Blk (((w.alloc (.cells #[.slice A0 t.nodes.length c0,.slice A1 t.tops.length c1] 28 (0,0))).alloc (.cells #[.slice none 0 0,.slice none 0 0] 33 (0,0))).alloc (.cells #[.slice none 0 0,.slice none 0 0] 33 (0,0))) (w.heap.size+1+1) [.slice none 0 0,.slice none 0 0] 33:=Blk.new_of _ _ _ (by simp);have hst:((((w.alloc (.cells #[.slice A0 t.nodes.length c0,.slice A1 t.tops.length c1] 28 (0,0))).alloc (.cells #[.slice none 0 0,.slice none 0 0] 33 (0,0))).alloc (.cells #[.slice none 0 0,.slice none 0 0] 33 (0,0)))).heap.size=w.heap.size+3:=by simp
 generalize hW0:(((w.alloc (.cells #[.slice A0 t.nodes.length c0,.slice A1 t.tops.length c1] 28 (0,0))).alloc (.cells #[.slice none 0 0,.slice none 0 0] 33 (0,0))).alloc (.cells #[.slice none 0 0,.slice none 0 0] 33 (0,0)))=W0 at hk0 hB hO hL hst
 have HRD:Hi (∀W,Q0 (fun k=>k=w.heap.size+1+1) W0 W→X4 W (.slice A0 t.nodes.length c0) t.nodes∧Qi W (.slice A1 t.tops.length c1) t.tops):=Hh fun W hW=>by
  obtain⟨x0,x1,e,h0,h1⟩:=hv'.old (((hk0.ofNob _).trans hW).oldS fun k hk e=>by have e:k=w.heap.size+1+1:=e;omega);cases e;exact⟨h0,h1⟩
 have HL:=Hh hl;have HKL:=Hh hkl;have HKN:=Hh hk0;have HB0:=Hh hB;have HL0:=Hh hL;have HOO:=Hh hO;have HST:=Hh hst;have g0:=hB.cell 0 _ rfl;clear hO hst hv' hl hk0 hB hL hkl;go_enter func10,ntmps10;go_upto_region 2 with fail
 clear hW0;go_upto_region 3 with (go_at_call 36;refine (Qee _ t.nodes _ (HRD.o _ (Kr _ _)).1 HL.o.1 HKL.o).mono ?_;rintro e w1 ⟨u0,l,rfl,ho,hm,hk⟩;obtain⟨B0,d0,hu⟩:=ho.row.len;subst hu;have hb:=HB0.o.kept hk id;have hl:=HL0.o.kept hk id;have q1:=hl.cell 0 _ rfl;have f1:=hl.free 0;have HN1:=Hh (ho.kept ((Kr (fun k=>k=w.heap.size+1+1) _).setCell (p:=⟨w.heap.size+1+1,0,none⟩) (.inl rfl) (.slice B0 l.length d0)) (fun k h e=>by have h:W0.heap.size≤k:=h;have e:k=w.heap.size+1+1:=e;have:=HST.o;omega));have HM:=Hh hm;have HK1:=Hh ((hk.ofNob (fun k=>k=w.heap.size+1+1)).setCell (p:=⟨w.heap.size+1+1,0,none⟩) (.inl rfl) (.slice B0 l.length d0));have HL1:=Hh (hl.set 0 (.slice B0 l.length d0));have HB1:=Hh (hb.other (p:=⟨w.heap.size+1+1,0,none⟩) (by simp;omega) (.slice B0 l.length d0));clear ho hk hm hb hl)
 generalize w1.setCell ⟨w.heap.size+1+1,0,none⟩ (.slice B0 l.length d0)=W1 at *;clear g0 q1 f1 HB0 HL0;have g1:=HB1.o.cell 1 _ rfl;go_upto_region 4 with (go_at_call 37;refine (Qap _ t.tops _ (HRD.o _ HK1.o).2 HL.o.2).mono ?_;rintro e w2 ⟨u1,rfl,ho,hk⟩;obtain⟨B1,d1,hu⟩:=ho.len;rw[Q5] at hu;subst hu;have hl:=HL1.o.kept hk id;have q1:=hl.cell 1 _ rfl;have f1:=hl.free 1;have HN2:=Hh (((HN1.o.mono (S':=fun k=>W0.heap.size≤k∧¬ own (.slice B1 t.tops.length d1) k) (fun k hk h=>⟨h,fun e=>by have h1:W1.heap.size≤k:=ho.2 k e;omega⟩)).nobk hk).kept ((Kr (fun k=>k=w.heap.size+1+1) _).setCell (p:=⟨w.heap.size+1+1,1,none⟩) (.inl rfl) (.slice B1 t.tops.length d1)) (fun k h e=>by have h:W0.heap.size≤k:=h.1;have e:k=w.heap.size+1+1:=e;have:=HST.o;omega));have HO2:=Hh (ho.other (p:=⟨w.heap.size+1+1,1,none⟩) (fun e=>by have h:W1.heap.size≤w.heap.size+1+1:=ho.2 _ e;have:=HK1.o.size;have:=HST.o;omega) (.slice B1 t.tops.length d1));have HK2:=Hh ((HK1.o.trans (hk.ofNob _)).setCell (p:=⟨w.heap.size+1+1,1,none⟩) (.inl rfl) (.slice B1 t.tops.length d1));have HL2:=Hh (hl.set 1 (.slice B1 t.tops.length d1));clear ho hk hl)
 generalize w2.setCell ⟨w.heap.size+1+1,1,none⟩ (.slice B1 t.tops.length d1)=W2 at *;clear g1 q1 f1 HL1 HB1;have e0:=HL2.o.cell 0 _ rfl;have e1:=HL2.o.cell 1 _ rfl;have hr:=HOO.o.kept HK2.o (by omega);have r0:=hr.cell 0 _ rfl;have r1:=hr.cell 1 _ rfl;have f0:=hr.free 0;have f1:=hr.free 1;have hR:=(hr.set 0 (.slice B0 l.length d0)).set 1 (.slice B1 t.tops.length d1);have x0:=hR.cell 0 _ rfl;have x1:=hR.cell 1 _ rfl;have HKK:=Hh (((Kr (fun k=>k=w.heap.size+1) W2).setCell (p:=⟨w.heap.size+1,0,none⟩) (.inl rfl) (.slice B0 l.length d0)).setCell (p:=⟨w.heap.size+1,1,none⟩) (.inl rfl) (.slice B1 t.tops.length d1));clear hr hR;go_wp2_with fail;have hw0:=HST.o;have hz1:=HK1.o.size;refine bodyPost_ret (v:=.agg #[.slice B0 l.length d0,.slice B1 t.tops.length d1]) (by simp[results,results10,go_sem,x0,x1]) rfl ⟨_,_,l,rfl,⟨?_,?_⟩,HM.o,?_⟩
 ·exact (HN2.o.kept HKK.o (fun k h e=>by have h:W0.heap.size≤k:=h.1;have e:k=w.heap.size+1:=e;omega)).mono fun k _ h=>⟨by have h:W0.heap.size≤k:=h.1;show w.heap.size≤k;omega,h.2⟩
 ·exact (HO2.o.kept HKK.o (fun k h e=>by have h:W1.heap.size≤k:=HO2.o.2 k h;have e:k=w.heap.size+1:=e;omega)).mono fun k h=>by have h:W1.heap.size≤k:=h;show w.heap.size≤k;omega
 ·exact (HKN.o.then_ HK2.o (fun k e=>.inr (by omega))).then_ HKK.o (fun k e=>.inr (by omega))
end Go.Proofs.YtkgkafjachjafaaGreat
