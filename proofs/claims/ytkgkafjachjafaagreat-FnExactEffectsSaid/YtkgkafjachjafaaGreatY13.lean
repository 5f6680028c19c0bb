/- Part 13 of: FnExactEffects answers true; no condition. -/
import Derived.Test.YtkgkafjachjafaaGreatY07
import Derived.Test.YtkgkafjachjafaaGreatY08
import Derived.Test.YtkgkafjachjafaaGreatY10
set_option linter.unusedVariables false
open Go Go.RowKit
namespace Go.Proofs.YtkgkafjachjafaaGreat
open Tryz
theorem K0g {p:Prop} (h:p:=by subst e1;have e4:=hA' hp;rw[hAA] at e4;cases e4;obtain⟨kv,q0,q1,q2,q3,q4⟩:=hc' j x hx;exact⟨kv,q3,q0,q1,q2,q4⟩):p:=h
section
variable {r:Reg} {t:Q1}
theorem Qdm {k:Int} (h:Zs k=true):Qu k=false∧12≤k∧k≤26:=by
 have hk:12≤k∧k≤26:=by simpa[Zs,Q9] using h
 exact⟨by simp[Qu,Q9];omega,hk⟩
theorem Q2b {f:Nat} {s:CS} {i:Int} (h:Yt t s (t.at i).kind=true) (hk:(t.at i).kind=16∨(t.at i).kind=17):Q8 r t (f+1) s i=Q05 (Q8 r t f) s i (t.at i):=by
 unfold Q8;dsimp only;rw[Ps h,Ng Om,Ng Om,Ng Om,Ps hk]
theorem Q6b {f:Nat} {s:CS} {i:Int} (h:Yt t s (t.at i).kind=true) (hk:(t.at i).kind=18):Q8 r t (f+1) s i=Q40 r t (Q8 r t f) s (t.at i):=by
 unfold Q8;dsimp only;rw[Ps h,Ng Om,Ng Om,Ng Om,Ng Om,Ps hk]
theorem Q5z {f:Nat} {s:CS} {i:Int} (h:Yt t s (t.at i).kind=true) (hk:(t.at i).kind=20):Q8 r t (f+1) s i=Q3y r t (Q8 r t f) s i (t.at i):=by
 unfold Q8;dsimp only;rw[Ps h,Ng Om,Ng Om,Ng Om,Ng Om,Ng Om,Ps hk]
theorem Q5a {f:Nat} {s:CS} {i:Int} (h:Yt t s (t.at i).kind=true) (hk:(t.at i).kind=21):Q8 r t (f+1) s i=Xe r t (Q8 r t f) (t.at i).kids [] s:=by
 unfold Q8;dsimp only;rw[Ps h,Ng Om,Ng Om,Ng Om,Ng Om,Ng Om,Ng Om,Ps hk]
theorem Q9g {f:Nat} {s:CS} {i:Int} (h:Yt t s (t.at i).kind=true) (hst:Zs (t.at i).kind=true) (hk:(t.at i).kind≠16∧(t.at i).kind≠17∧(t.at i).kind≠18∧(t.at i).kind≠20∧(t.at i).kind≠21) :
  Q8 r t (f+1) s i=if (Qb (Q8 r t f) s (t.at i).kids).code≠0 then Qb (Q8 r t f) s (t.at i).kids else Qy r t (Qb (Q8 r t f) s (t.at i).kids) i (t.at i):=by
 obtain⟨h1,h2,h3⟩:=Qdm hst;unfold Q8;dsimp only;rw[Ps h,Ng Om,Ng Om,Ng Om,Ng Om,Ng Om,Ng Om,Ng Om,Ng Om,h1];rfl
theorem Q1z {f:Nat} {z:SS} {i:Int} (h:Zx t z i=true):Qq r t (f+1) z i =
  if (t.at i).kind=12∨(t.at i).kind=13 then Q0d (Jx r t f) z i (t.at i)
  else if (t.at i).kind=14∨(t.at i).kind=23 then Xo r t (Jx r t f) z i (t.at i) 1
  else if (t.at i).kind=15 then Xo r t (Jx r t f) z i (t.at i) 2
  else if (t.at i).kind=19 then Xo r t (Jx r t f) z i (t.at i) 3
  else if (t.at i).kind=16 then Y6 t (Jx r t f) (Qq r t f) z i (t.at i) 4
  else if (t.at i).kind=17 then Y6 t (Jx r t f) (Qq r t f) z i (t.at i) 1
  else if (t.at i).kind=18 then Q42 r t (Qq r t f) z (t.at i)
  else if (t.at i).kind=20 then Q41 r t (Qq r t f) z i (t.at i)
  else if (t.at i).kind=21 then Q1j r t (Jx r t f) (t.at i).kids [] z
  else if (t.at i).kind=24 then (if J2 r 1 (t.at i).text=0 then z.fail 3 i else z)
  else if (t.at i).kind=25∨(t.at i).kind=26 then (Jx r t f z (kidAt (t.at i) 0)).2
  else z:=by
 conv=>lhs;unfold Qq;dsimp only;rw[Ps h]
theorem Q67 {E:SS→Int→Int×SS} {z:SS} {i:Int} {n:Qn} {sort:Int} (h0:(E z (kidAt n 0)).2.code≠0):Xo r t E z i n sort=(E z (kidAt n 0)).2:=by unfold Xo;dsimp only;rw[Ps h0]
theorem Qg7 {E:SS→Int→Int×SS} {z:SS} {i:Int} {n:Qn} (h0:(E z (kidAt n 0)).2.code≠0):Q0d E z i n=(E z (kidAt n 0)).2:=by unfold Q0d;dsimp only;rw[Ps h0]
theorem Qlw (hn:Qs t=true) (hK:Qk t) (hr:Xy r) {lo i:Int} {f f':Nat} (hE:Q8r r t i (Q8 r t f) (Jx r t f')) (hsp:Q1b t lo i) (hi:InT t i) (hst:Zs (t.at i).kind=true)
  (hk:(t.at i).kind=12∨(t.at i).kind=13∨(t.at i).kind=14∨(t.at i).kind=15∨(t.at i).kind=19∨(t.at i).kind=23∨(t.at i).kind=25) {s:CS} {z:SS} (h:Rel r t s z) (hl:∀x∈s.locals,x<lo) (hm:Zx t z i=true) :
  Q0b r t lo i s z (if (Qb (Q8 r t f) s (t.at i).kids).code≠0 then Qb (Q8 r t f) s (t.at i).kids else Qy r t (Qb (Q8 r t f) s (t.at i).kids) i (t.at i)) (Qq r t (f'+1) z i):=by
 have hsp':=hsp.le;have hs:=Yr hn hi hst;unfold Z3 at hs
 have hsh:∃a,(t.at i).kids=[a]∧Qu (t.at a).kind=true:=by
  by_cases h25:(t.at i).kind=25
  ·rw[h25,Ng Dc,Ng Dc,Ng Dc,Ng Dc,Ng Dc,Ng Dc,Ps rfl] at hs
   obtain⟨a,e,p⟩:=Xc hs;refine⟨a,e,?_⟩;have:(t.at a).kind=7:=by simpa[isK] using p
   rw[this];rfl
  ·rw[Ps Om] at hs
   exact Xc hs
 obtain⟨a,Qnf,hea⟩:=hsh;have hch:=hsp.kids;rw[Qnf] at hch;obtain⟨hsa,Qp3⟩:=hch;have hai:a+1=i:=Qp3;have ha:InT t a:=hi.kid hK (by rw[Qnf];simp);have k0:kidAt (t.at i) 0=a:=by simp[kidAt,Qnf]
 have e1:Qb (Q8 r t f) s (t.at i).kids=Q8 r t f s a:=by
  rw[Qnf];show List.foldl _ _ _=_;rw[List.foldl_cons,Ps h.code];rfl
 obtain⟨⟨⟨a1,a2⟩,hE1⟩,Qoj⟩:=hE lo a s z Om hsa ha hea h hl;rw[e1,Q1z hm];generalize hEf:Jx r t f'=E at a1 a2 hE1 ⊢;generalize Q8 r t f s a=s1 at a1 a2 hE1 Qoj ⊢
 by_cases h0:s1.code=0
 ·obtain⟨b1,b2,b3,b4,b5⟩:=hE1 h0
  have hR:=h.next b1 b2 Qoj hl b5;have b5':=b5.wider (lo':=lo) (i':=i) (Int.le_refl _) Om;rw[Ng (show ¬ s1.code≠0 by simpa using h0)];have hz0:(E z (kidAt (t.at i) 0)).2.code=0:=by rw[k0];exact hR.codeS
  unfold Qy
  by_cases h12:(t.at i).kind=12
  ·rw[Ps h12,Ps (show (t.at i).kind=12∨(t.at i).kind=13 from .inl h12)]
   unfold Q0d;dsimp only;rw[Ng (show ¬ (E z (kidAt (t.at i) 0)).2.code≠0 by simpa using hz0),Ps h12,k0];exact Qmb hi hsp' hR b3 b1 b2 b5' hl
  rw[Ng h12]
  by_cases h13:(t.at i).kind=13
  ·rw[Ps h13,Ps (show (t.at i).kind=12∨(t.at i).kind=13 from .inr h13)]
   unfold Q0d;dsimp only;rw[Ng (show ¬ (E z (kidAt (t.at i) 0)).2.code≠0 by simpa using hz0),Ng h12,k0];exact Qif hR b3 b1 b2 b5' hl _
  rw[Ng h13,Ng (show ¬ ((t.at i).kind=12∨(t.at i).kind=13) by omega)]
  by_cases h14:(t.at i).kind=14
  ·rw[Ps h14,Ps (.inl h14),Qe8 hz0 h14,k0]
   exact Q2n hR (Q4k hr hR _ _).f b3 b1 b2 b5' (Qoj.column r _ _) hl
  rw[Ng h14]
  by_cases h15:(t.at i).kind=15
  ·rw[Ps h15,Ng Om,Ps h15,Q7t hz0 h14,k0]
   exact Q2n hR (Q1k hr hR 2 _ _).f b3 b1 b2 b5' (Qoj.named r 2 _ _) hl
  rw[Ng h15]
  by_cases h19:(t.at i).kind=19
  ·rw[Ps h19,Ng Om,Ng h15,Ps h19,Q7t hz0 h14,k0]
   exact Q2n hR (Q1k hr hR 3 _ _).f b3 b1 b2 b5' (Qoj.named r 3 _ _) hl
  rw[Ng h19]
  by_cases h23:(t.at i).kind=23
  ·rw[Ps h23,Ps (.inr h23),Q7t hz0 h14,k0]
   exact Q2n hR (Q1k hr hR 1 _ _).f b3 b1 b2 b5' (Qoj.named r 1 _ _) hl
  rw[Ng h23,Ng Om,Ng Om,Ng h15,Ng h19,Ng Om,Ng Om,Ng Om,Ng Om,Ng Om,Ng Om,Ps Om,k0];exact Q0b.ofE hR b1 b2 b5'
 ·rw[Ps h0]
  have hz0:(E z (kidAt (t.at i) 0)).2.code≠0:=by rw[k0,← a1];exact h0
  have Qti:∀x:SS,x=(E z a).2→Q0b r t lo i s z s1 x:=fun x hx=>hx▸⟨⟨a1,a2⟩,fun hh=>absurd hh h0⟩
  apply Qti
  by_cases h12:(t.at i).kind=12∨(t.at i).kind=13
  ·rw[Ps h12,Qg7 hz0,k0]
  rw[Ng h12]
  by_cases h14:(t.at i).kind=14∨(t.at i).kind=23
  ·rw[Ps h14,Q67 hz0,k0]
  rw[Ng h14]
  by_cases h15:(t.at i).kind=15
  ·rw[Ps h15,Q67 hz0,k0]
  rw[Ng h15]
  by_cases h19:(t.at i).kind=19
  ·rw[Ps h19,Q67 hz0,k0]
  rw[Ng h19,Ng Om,Ng Om,Ng Om,Ng Om,Ng Om,Ng Om,Ps Om,k0]
theorem Qd1 (hn:Qs t=true) (hK:Qk t) (hS:Z1 t) (hr:Xy r):∀(b:Nat) (f f':Nat),b≤f→b≤f'→Q43 r t b (Q8 r t f) (Qq r t f'):=by
 intro b
 induction b using Nat.strongRecOn with
 |_ b ih =>
  intro f f' hf hf' lo i s z hb hsp hi hst h hl hno;have hi0:=hi.1;obtain⟨f,rfl⟩:∃g,f=g+1:=⟨f-1,Om⟩;obtain⟨f',rfl⟩:∃g,f'=g+1:=⟨f' - 1,Om⟩;have Qpa:=Qe.walk hK hS r (f+1) s i h.ok hi;refine⟨?_,Qpa⟩;have hsp':=hsp.le;obtain⟨hne,hk1,hk2⟩:=Qdm hst;have hms:=Qdn h hst hsp' hno
  have hE:Q8r r t i (Q8 r t f) (Jx r t f'):=by
   have:=Qdp (r:=r) hn hK hS hr i.toNat f f' Om Om
   rwa [Int.toNat_of_nonneg hi0] at this
  cases hm:Zx t z i with
  |false =>
   rw[Q45 (hms.trans hm)];have:Qq r t (f'+1) z i=z.fail 5 i:=by unfold Qq;dsimp only;rw[hm];rfl
   rw[this];exact Q0b.bad h.code h.codeS Dc _
  |true =>
  have hmb:=hms.trans hm
  by_cases ho:(t.at i).kind=12∨(t.at i).kind=13∨(t.at i).kind=14∨(t.at i).kind=15∨(t.at i).kind=19∨(t.at i).kind=23∨(t.at i).kind=25
  ·rw[Q9g hmb hst Om]
   exact Qlw hn hK hr hE hsp hi hst ho h hl hm
  by_cases h26:(t.at i).kind=26
  ·have:Yt t s (t.at i).kind=false:=by rw[h26];rfl
   rw[this] at hmb;cases hmb
  have hs:=Yr hn hi hst;unfold Z3 at hs;rw[Ng Om] at hs
  by_cases h22:(t.at i).kind=22∨(t.at i).kind=24
  ·rw[Ng Om,Ng Om,Ng Om,Ng Om,Ng Om,Ng Om] at hs
   have Qnf:(t.at i).kids=[]:=by simpa using hs
   rw[Q9g hmb hst Om,Qnf,Q1z hm];have e1:Qb (Q8 r t f) s []=s:=rfl;rw[e1,Ng (show ¬ s.code≠0 by rw[h.code];simp)]
   by_cases h24:(t.at i).kind=24
   ·have e2:Qy r t s i (t.at i)=(J4 r s 1 (t.at i).text i).2:=by unfold Qy;simp[h24]
    rw[e2,Ng Om,Ng Om,Ng Om,Ng Om,Ng Om,Ng Om,Ng Om,Ng Om,Ng Om,Ps h24];obtain⟨⟨c1,c2⟩,hC⟩:=Q1k hr h 1 (t.at i).text i
    by_cases hd:J2 r 1 (t.at i).text=0
    ·rw[Ps hd] at c1 c2 ⊢
     exact⟨⟨c1,c2⟩,fun h0=>absurd (c1.symm.trans h0) (by show (z.fail 3 i).code≠0;rw[(SS.fail_code h.codeS 3 i).1];decide)⟩
    ·rw[Ng hd] at c1 c2 hC ⊢
     obtain⟨e2,_,_⟩:=hC (c1.trans h.codeS);rw[e2];exact Q0b.ofE h (Z8.refl _) (Yk.refl _) (Jn.refl _ _ _)
   ·have h22':(t.at i).kind=22:=Om
    have e2:Qy r t s i (t.at i)=s:=by unfold Qy;simp[h22']
    rw[e2,Ng Om,Ng Om,Ng Om,Ng Om,Ng Om,Ng Om,Ng Om,Ng Om,Ng Om,Ng h24,Ng Om];exact Q0b.ofE h (Z8.refl _) (Yk.refl _) (Jn.refl _ _ _)
  by_cases h21:(t.at i).kind=21
  ·rw[Ng Om,Ng Om,Ng Om,Ng Om,Ps h21] at hs
   have e:=Q5a (r:=r) (f:=f) hmb h21;rw[e] at Qpa ⊢;rw[Q1z hm,Ng Om,Ng Om,Ng Om,Ng Om,Ng Om,Ng Om,Ng Om,Ng Om,Ps h21];have hB:=Qha hn hK hr hE (t.at i).kids [] lo i s z (Int.le_refl _) hsp.kids (fun k hk=>⟨hi.kid hK hk,by simpa[isK] using Ym hs hk⟩) h hl;obtain⟨x1,x2⟩:=hB;exact Q0b.ofB h hl ⟨x1,fun hc=>⟨(x2 hc).1,(x2 hc).2.1,(x2 hc).2.2.wider (Int.le_refl _) Om⟩⟩ Qpa
  have Qrw:∃a ks,(t.at i).kids=a::ks:=by
   cases hkd:(t.at i).kids with
   |nil =>
    exfalso;rw[hkd] at hs
    by_cases h16:(t.at i).kind=16
    ·rw[Ps h16] at hs;simp[Qo] at hs
    rw[Ng h16] at hs
    by_cases h17:(t.at i).kind=17
    ·rw[Ps h17] at hs;simp[Qo] at hs
    rw[Ng h17] at hs
    by_cases h18:(t.at i).kind=18
    ·rw[Ps h18] at hs;simp[Qo] at hs
    rw[Ng h18,Ps Om] at hs;simp[Qo] at hs
   |cons a ks=>exact⟨a,ks,rfl⟩
  obtain⟨a,ks,Qnf⟩:=Qrw;have ha:0≤a∧a<i:=hK.mem hi (by rw[Qnf];simp);obtain⟨g,rfl⟩:∃g,f=g+1:=⟨f-1,Om⟩;have hG:Q43 r t ((i.toNat-1:Nat):Int) (Q8 r t g) (Qq r t f'):=ih (i.toNat-1) Om g f' Om Om;have hib:i≤((i.toNat-1:Nat):Int)+1:=Om
  by_cases h16:(t.at i).kind=16∨(t.at i).kind=17
  ·have e:=Q2b (r:=r) (f:=g+1) hmb h16
   have hx:Qu (t.at a).kind=true∧∀k∈ks,(t.at k).kind=27:=by
    by_cases h6:(t.at i).kind=16
    ·rw[Ps h6,Bool.or_eq_true] at hs
     rcases hs with hs|hs
     ·obtain⟨p,q,e1,e2,e3⟩:=Y9 hs
      rw[Qnf] at e1;cases e1;exact⟨e2,fun k hk=>by simp at hk;subst hk;simpa[isK] using e3⟩
     ·obtain⟨p,q,u,e1,e2,e3,e4⟩:=Q22 hs
      rw[Qnf] at e1;cases e1
      refine⟨e2,fun k hk=>?_⟩
      simp at hk;rcases hk with rfl|rfl
      ·simpa[isK] using e3
      ·simpa[isK] using e4
    ·rw[Ng h6,Ps Om] at hs
     obtain⟨p,q,e1,e2,e3⟩:=Y9 hs;rw[Qnf] at e1;cases e1;exact⟨e2,fun k hk=>by simp at hk;subst hk;simpa[isK] using e3⟩
   have k0:kidAt (t.at i) 0=a:=by simp[kidAt,Qnf]
   have hdr:(a::ks).drop 1=ks:=rfl;have hB:=Qfr (want:=if (t.at i).kind=17 then 1 else 4) hG hE hib hn hK hS hsp hi Qnf hx.1 hx.2 h hl hno
   have e2:Q05 (Q8 r t (g+1)) s i (t.at i)=Qb (Q8 r t (g+1)) (Qp (Q8 r t (g+1) s a) a (if (t.at i).kind=17 then 1 else 4) i) ks:=by
    unfold Q05;rw[k0,Qnf,hdr]
   have e3:∀want:Int,Y6 t (Jx r t f') (Qq r t f') z i (t.at i) want=(if (Jx r t f' z a).2.code≠0 then (Jx r t f' z a).2 else if (Jx r t f' z a).1≠want then (Jx r t f' z a).2.fail 4 i else Xx t (Qq r t f') ks (Jx r t f' z a).2):=by
    intro want;unfold Y6;rw[k0,Qnf,hdr]
   rw[e,e2] at Qpa;rw[e,e2]
   by_cases h6:(t.at i).kind=16
   ·have hw:(if (t.at i).kind=17 then (1:Int) else 4)=4:=Ng Om
    rw[hw] at hB Qpa ⊢;rw[Q1z hm,Ng Om,Ng Om,Ng Om,Ng Om,Ps h6,e3];exact Q0b.ofB h hl hB Qpa
   ·have h7:(t.at i).kind=17:=Om
    have hw:(if (t.at i).kind=17 then (1:Int) else 4)=1:=Ps h7;rw[hw] at hB Qpa ⊢;rw[Q1z hm,Ng Om,Ng Om,Ng Om,Ng Om,Ng h6,Ps h7,e3];exact Q0b.ofB h hl hB Qpa
  by_cases h18:(t.at i).kind=18
  ·have e:=Q6b (r:=r) (f:=g+1) hmb h18
   rw[e] at Qpa ⊢;rw[Q1z hm,Ng Om,Ng Om,Ng Om,Ng Om,Ng Om,Ng Om,Ps h18];exact Q0b.ofB h hl (Qkq hG hib hn hK hS hr hsp hi h18 h hl hno hm) Qpa
  ·have h20:(t.at i).kind=20:=Om
   have e:=Q5z (r:=r) (f:=g+1) hmb h20;rw[e] at Qpa ⊢;rw[Q1z hm,Ng Om,Ng Om,Ng Om,Ng Om,Ng Om,Ng Om,Ng Om,Ps h20];exact Q0b.ofB h hl (Qjc hG hib hn hK hr hsp hi h20 h hl hno hm) Qpa
end
section
variable {r:Reg} {t:Q1}
theorem Q63 {l:List Int} {m e:Int} (hm:0≤m) (h:Q0o t l m=some e):Zu t m l e∧∀i∈l,InT t i∧33≤(t.at i).kind:=by
 induction l generalizing m with
 |nil=>simp[Q0o] at h;exact⟨h,Sm⟩
 |cons i is ih =>
  simp only[Q0o] at h;split at h
  ·rename_i hc
   simp[Q9] at hc;split at h
   ·cases h
   ·rename_i hn
    have hin:InT t i:=⟨hc.1.1,Om⟩;obtain⟨h1,h2,h3⟩:=Q1b.le_of (t:=t) (i.toNat+1) m i hm Om;rw[h2] at h;obtain⟨h4,h5⟩:=ih Om h
    refine⟨⟨⟨hm,hc.1.1,_,h2⟩,h4⟩,fun x hx=>?_⟩
    rcases List.mem_cons.1 hx with rfl|hx
    ·exact⟨hin,hc.2⟩
    ·exact h5 x hx
  ·cases h
theorem Qdy {s:CS} (hc:s.code≠0) (l:List Int):s.Same (l.foldl (Jl t) s):=by
 induction l generalizing s with
 |nil=>exact CS.Same.rfl s
 |cons k ks ih =>
  have h:s.Same (Jl t s k):=by
   have:=Q82 (t:=t) hc k;exact⟨this.1,this.2⟩
  exact h.trans (ih (h.ne hc))
theorem Qft:∀(l:List Int) (lo e:Int) (s:CS) (z:SS) (names:List ByteArray) (kinds:List Int),Zu t lo l e→(∀k∈l,InT t k)→Rel r t s {z with names:=names,kinds:=kinds}→(∀x∈s.locals,x<lo) →
  Q2r (l.foldl (Jl t) s) (Z4 t l names kinds z).2.2∧((l.foldl (Jl t) s).code=0 →
   Rel r t (l.foldl (Jl t) s) {z with names:=(Z4 t l names kinds z).1,kinds:=(Z4 t l names kinds z).2.1}∧(Z4 t l names kinds z).2.2=z∧Q2g s (l.foldl (Jl t) s)∧(∀x∈(l.foldl (Jl t) s).locals,x<e)):=by
 intro l
 induction l with
 |nil =>
  intro lo e s z names kinds hch _ h hl;have:lo=e:=hch;subst this;exact⟨⟨h.code.trans h.codeS.symm,h.node⟩,fun _=>⟨h,rfl,⟨_,_,_,rfl⟩,hl⟩⟩
 |cons k ks ih =>
  intro lo e s z names kinds hch hin h hl;obtain⟨hsp,hch⟩:=hch;have hlk:=hsp.le;have hk:=hin k Sm;have Qp1:=Yj (t:=t) (l:=s.locals) (name:=(t.at k).text) (fun x hx=>(h.ok.locals x hx).1);have hnm:names=Qd t s.locals:=h.names;rw[← hnm] at Qp1;simp only[List.foldl_cons,Z4];cases hb:Zr (t.at k).text names with
  |true =>
   have hx:=Qp1.1 ((Xu _ _).1 hb);rw[Ps rfl];have htw:Qx t s k=s.fail 2 k:=by unfold Qx;rw[Ps hx]
   obtain⟨f1,f2⟩:=CS.fail_code h.code 2 k;obtain⟨g1,g2⟩:=SS.fail_code (z:=z) h.codeS 2 k;have hpc:(Jl t s k).code=2∧(Jl t s k).node=k:=by unfold Jl;rw[htw];exact⟨f1,f2⟩
   have hs:=Qdy (t:=t) (s:=Jl t s k) (by rw[hpc.1];decide) ks;exact⟨⟨(hs.1.trans hpc.1).trans g1.symm,(hs.2.trans hpc.2).trans g2.symm⟩,fun h9=>absurd ((hs.1.trans hpc.1).symm.trans h9) Dc⟩
  |false =>
   have hx:Q3 t s.locals (t.at k).text<0:=by
    rcases Int.lt_or_le (Q3 t s.locals (t.at k).text) 0 with h9|h9
    ·exact h9
    ·have:=(Xu _ _).2 (Qp1.2 h9);rw[hb] at this;cases this
   rw[Ng Sm];have htw:Qx t s k=s:=by unfold Qx;rw[Ng Om]
   have hp:Jl t s k=(s.setKind k (t.at k).i).addLocal k:=by unfold Jl;rw[htw]
   rw[hp];have hR:=h.addLocal hk hlk hl (t.at k).i hx
   have:=ih (k+1) e ((s.setKind k (t.at k).i).addLocal k) z (names++[(t.at k).text]) (kinds++[(t.at k).i]) hch (fun x hx=>hin x (by simp[hx])) hR (by
    intro x hm;rcases List.mem_append.1 (show x∈s.locals++[k] from hm) with hm|hm
    ·have:=hl x hm;omega
    ·simp at hm;omega)
   refine⟨this.1,fun hc=>?_⟩
   obtain⟨x1,x2,x3,x4⟩:=this.2 hc;exact⟨x1,x2,Q2g.trans ⟨_,_,_,rfl⟩ x3,x4⟩
def Q59 (t:Q1) (s:CS) (z:SS) (s':CS) (z':SS):Prop :=
 Q2r s' z'∧(s'.code=0→Q2g s s'∧z'.each=z.each∧z'.inner=z.inner∧z'.withs=z.withs∧z'.kindOf.length=t.nodes.length)
theorem Qhn {V:SS→Int→SS} {z:SS} (h:z.code=0) (hn:z.names=[]) (hk:z.kinds=[]) (b:Int) (m:List ByteArray) (q:List Int) :
  Jg t V z b m q={Zm V (t.at b).kids {z with names:=m,kinds:=q} with names:=[],kinds:=[]}:=by
 unfold Jg;rw[Ng (show ¬ z.code≠0 by simpa using h),hn,hk,List.nil_append,List.nil_append]
theorem Qf9 (hn:Qs t=true) (hK:Qk t) (hS:Z1 t) (hr:Xy r) {lo i b:Int} (hsp:Q1b t lo i) (hi:InT t i) (h34:(t.at i).kind=34) (Qnf:(t.at i).kids=[b]) (hbk:(t.at b).kind=27)
  {s:CS} {z:SS} (h:Rel r t s z) (hl:s.locals=[]) (hf:z.fn=false):Qc4 lo i s z (Q8 r t t.nodes.length s i) (Jg t (Qq r t t.nodes.length) z b [] []):=by
 have hi1:=hi.1;have hi2:=hi.2;have hch:=hsp.kids;rw[Qnf] at hch;obtain⟨hsb,Qp3⟩:=hch;have hbi:b+1=i:=Qp3;have hlb:=hsb.le;have hl0:=hsb.low;have hb:InT t b:=hi.kid hK (by rw[Qnf];simp);obtain⟨N,hN⟩:∃N,t.nodes.length=N+1+1:=⟨t.nodes.length-2,Om⟩
 have e1:Q8 r t (N+1+1) s i=Q8 r t (N+1) s b:=by
  have:Q8 r t (N+1+1) s i=Qb (Q8 r t (N+1)) s (t.at i).kids:=by
   unfold Q8;dsimp only;rw[Ps (by rw[h34];rfl),Ng Om,Ps h34]
  rw[this,Qnf]
  show List.foldl _ _ _=_
  rw[List.foldl_cons,Ps h.code];rfl
 rw[hN,e1];have hG:Q43 r t ((b.toNat:Nat):Int) (Q8 r t N) (Qq r t (N+1+1)):=Qd1 hn hK hS hr b.toNat N (N+1+1) Om Om;have hB:=Q5k hG Om hn hK hsb hb hbk h (by rw[hl];simp) (fun h9=>by rw[hf] at h9;cases h9);exact⟨hB.1,fun hc=>⟨(hB.2 hc).1,(hB.2 hc).2.1,(hB.2 hc).2.2.wider (Int.le_refl _) Om⟩⟩
end
section
variable {r:Reg} {t:Q1}
def Qb7 (r:Reg) (t:Q1) (z:SS) (i b:Int) (n:Qn) (names:List ByteArray) (kinds:List Int):SS :=
 let last:=(t.at b).kids.getLast?.getD (-1)
 let s3:=Jg t (Qq r t t.nodes.length) {z with last:=last} b names kinds
 if s3.fn=false∨s3.code≠0 then s3
 else if last<0∨(t.at last).kind≠26 then s3.fail 5 i
 else if Z7 s3.kindOf (kidAt (t.at last) 0).toNat≠n.i then s3.fail 4 i else s3
theorem Qlo {z:SS} {k:Nat}:topS r t z k =
  if (t.tops.take k).any (fun j=>decide ((t.at j).text=(t.at (Z7 t.tops k)).text)) then ({z with top:=(k:Int),names:=[],kinds:=[]}:SS).fail 2 (Z7 t.tops k) else
  if (Z4 t (t.at (Z7 t.tops k)).kids.dropLast [] [] {z with top:=(k:Int),names:=[],kinds:=[],fn:=(t.at (Z7 t.tops k)).kind==33}).2.2.code≠0 then
   (Z4 t (t.at (Z7 t.tops k)).kids.dropLast [] [] {z with top:=(k:Int),names:=[],kinds:=[],fn:=(t.at (Z7 t.tops k)).kind==33}).2.2
  else Qb7 r t (Z4 t (t.at (Z7 t.tops k)).kids.dropLast [] [] {z with top:=(k:Int),names:=[],kinds:=[],fn:=(t.at (Z7 t.tops k)).kind==33}).2.2 (Z7 t.tops k) ((t.at (Z7 t.tops k)).kids.getLast?.getD 0) (t.at (Z7 t.tops k))
   (Z4 t (t.at (Z7 t.tops k)).kids.dropLast [] [] {z with top:=(k:Int),names:=[],kinds:=[],fn:=(t.at (Z7 t.tops k)).kind==33}).1
   (Z4 t (t.at (Z7 t.tops k)).kids.dropLast [] [] {z with top:=(k:Int),names:=[],kinds:=[],fn:=(t.at (Z7 t.tops k)).kind==33}).2.1:=rfl
theorem Qa9 {V:SS→Int→SS} {l1 l2:List Int} {z:SS}:Zm V (l1++l2) z=Zm V l2 (Zm V l1 z):=by unfold Zm;rw[List.foldl_append]
theorem Qdr {V:SS→Int→SS} {l:List Int} {z:SS} (h:z.code≠0):Zm V l z=z:=by
 induction l with
 |nil=>rfl
 |cons y ys ih=>unfold Zm at ih ⊢;rw[List.foldl_cons,Ng h];exact ih
theorem Q3e.frames {z z':SS} (h:Q3e z z'):z'.each=z.each∧z'.inner=z.inner∧z'.withs=z.withs∧z'.fn=z.fn∧z'.last=z.last∧z'.top=z.top:=by
 obtain⟨N,Q,O,rfl⟩:=h;exact⟨rfl,rfl,rfl,rfl,rfl,rfl⟩
theorem Ql6 (hn:Qs t=true) (hK:Qk t) (hS:Z1 t) (hr:Xy r) {lo i b:Int} {M:Nat} (hM:t.nodes.length=M+1) (hsb:Q1b t lo b) (hib:b<i) (hi:InT t i) (hb:InT t b) (hbk:(t.at b).kind=27) {n:Qn}
  {s:CS} {z:SS} {names:List ByteArray} {kinds:List Int} (hz1:z.names=[]) (hz2:z.kinds=[]) (h:Rel r t s {z with names:=names,kinds:=kinds}) (hl:∀x∈s.locals,x<lo) (hf:z.fn=true) :
  Q59 t s z (if Q32 t (t.at b).kids then Qp (Qb (Q8 r t M) (Qb (Q8 r t M) s (t.at b).kids.dropLast) [kidAt (t.at ((t.at b).kids.getLast?.getD 0)) 0]) (kidAt (t.at ((t.at b).kids.getLast?.getD 0)) 0) n.i i
   else (Qb (Q8 r t M) s (t.at b).kids).fail 5 i) (Qb7 r t z i b n names kinds):=by
 have hi1:=hi.1;have hi2:=hi.2;have hb1:=hb.1;have hs:=Q13 hn hb Om;unfold Jf at hs;rw[hbk,Ps rfl] at hs;have Qtj:∀k∈(t.at b).kids,InT t k∧Zs (t.at k).kind=true:=fun k hk=>⟨hb.kid hK hk,Ym hs hk⟩
 have hch:=hsb.kids
 have hG:Q43 r t b (Q8 r t M) (Qq r t t.nodes.length):=by
  have:=Qd1 (r:=r) hn hK hS hr b.toNat M t.nodes.length Om Om
  rwa [Int.toNat_of_nonneg hb1] at this
 unfold Qb7;dsimp only;have hzl:({z with last:=(t.at b).kids.getLast?.getD (-1)}:SS).code=0:=h.codeS;rw[Qhn hzl hz1 hz2]
 have hR:Rel r t s {z with last:=(t.at b).kids.getLast?.getD (-1),names:=names,kinds:=kinds} :=
  ⟨h.names,h.kinds,h.each,h.inner,h.fn,h.topk,h.tops,h.topsND,h.withs,h.none,h.kindOf,h.ok,h.code,h.codeS,h.node⟩
 have hz9:({({z with last:=(t.at b).kids.getLast?.getD (-1)}:SS) with names:=names,kinds:=kinds}:SS)={z with last:=(t.at b).kids.getLast?.getD (-1),names:=names,kinds:=kinds}:=rfl;rw[hz9];cases hE:Q32 t (t.at b).kids with
 |false =>
  rw[Ng Sm]
  have Qrx:(t.at b).kids.getLast?.getD (-1)<0∨(t.at ((t.at b).kids.getLast?.getD (-1))).kind≠26:=by
   unfold Q32 at hE;cases hg:(t.at b).kids.getLast? with
   |none=>left;simp
   |some l=>right;rw[hg] at hE;simpa using hE
  have hno:Q28 t lo (b-1) {z with last:=(t.at b).kids.getLast?.getD (-1),names:=names,kinds:=kinds}:=by
   intro _ j h1 h2 h3;have h3':j=(t.at b).kids.getLast?.getD (-1):=h3;have:=hsb.low;rcases Qrx with h9|h9
   ·omega
   ·rw[h3'];exact h9
  obtain⟨hSR,hok⟩:=Q7l hG (t.at b).kids lo b s _ (Int.le_refl _) hch Qtj hR hl hno;generalize Qb (Q8 r t M) s (t.at b).kids=s1 at hSR hok ⊢;generalize Zm (Qq r t t.nodes.length) (t.at b).kids {z with last:=(t.at b).kids.getLast?.getD (-1),names:=names,kinds:=kinds}=z1 at hSR ⊢;obtain⟨⟨a1,a2⟩,hX⟩:=hSR
  by_cases h0:s1.code=0
  ·obtain⟨c1,c2,c3,c4,_⟩:=hX h0
   have hfr:=c4.frames
   rw[Ng (show ¬ (z1.fn=false∨z1.code≠0) by
    rintro (h9|h9)
    ·rw[hfr.2.2.2.1] at h9;have:z.fn=false:=h9;rw[hf] at this;cases this
    ·exact h9 c1.codeS),Ps Qrx]
   obtain⟨f1,f2⟩:=CS.fail_code h0 5 i;have hz0:({z1 with names:=[],kinds:=[]}:SS).code=0:=c1.codeS;obtain⟨g1,g2⟩:=SS.fail_code hz0 5 i;exact⟨⟨f1.trans g1.symm,f2.trans g2.symm⟩,fun h9=>absurd (f1.symm.trans h9) Dc⟩
  ·rw[Ps (show z1.fn=false∨z1.code≠0 from .inr (by rw[← a1];exact h0))]
   have hs2:=CS.fail_same h0 5 i;exact⟨⟨hs2.1.trans a1,hs2.2.trans a2⟩,fun h9=>absurd (hs2.1.symm.trans h9) h0⟩
 |true =>
  rw[Ps rfl]
  obtain⟨init,l,Qo8⟩:∃init l,(t.at b).kids=init++[l]:=by
   cases hg:(t.at b).kids.getLast? with
   |none=>unfold Q32 at hE;rw[hg] at hE;cases hE
   |some l =>
    refine⟨(t.at b).kids.dropLast,l,?_⟩;have hne:(t.at b).kids≠[]:=by intro h9;rw[h9] at hg;cases hg
    rw[List.getLast?_eq_some_getLast hne] at hg;cases hg;exact (List.dropLast_concat_getLast hne).symm
  have hgl:(t.at b).kids.getLast?=some l:=by rw[Qo8];simp
  have hdl:(t.at b).kids.dropLast=init:=by rw[Qo8];simp
  have Qra:(t.at l).kind=26:=by unfold Q32 at hE;rw[hgl] at hE;simpa using hE
  rw[hgl,hdl]
  show Q59 t s z (Qp (Qb (Q8 r t M) (Qb (Q8 r t M) s init) [kidAt (t.at l) 0]) (kidAt (t.at l) 0) n.i i) _
  simp only[Option.getD_some];rw[hgl] at hR;simp only[Option.getD_some] at hR;have Qt3:InT t l:=(Qtj l (by rw[Qo8];simp)).1;have hss:=Yr hn Qt3 (by rw[Qra];rfl);unfold Z3 at hss;rw[Qra,Ps Dc] at hss;obtain⟨e,hek,hee⟩:=Xc hss;have k0:kidAt (t.at l) 0=e:=by simp[kidAt,hek]
  rw[k0];rw[Qo8] at hch;obtain⟨m,hc1,hc2,Qp3⟩:=hch.app;have hlb:l+1=b:=Qp3;have hml:=hc2.le;have hce:=hc2.kids;rw[hek] at hce;obtain⟨hse,Qph⟩:=hce;have hel:e+1=l:=Qph;have he:InT t e:=Qt3.kid hK (by rw[hek];simp);have Qut:=hse.le;have hm0:=hc1.le
  have hno:Q28 t lo (m-1) {z with last:=l,names:=names,kinds:=kinds}:=by
   intro _ j h1 h2 h3;have:j=l:=h3;omega
  obtain⟨hSR,hok⟩:=Q7l hG init lo m s _ Om hc1 (fun k hk=>Qtj k (by rw[Qo8];simp[hk])) hR hl hno;rw[Qo8,Qa9];generalize Qb (Q8 r t M) s init=s1 at hSR hok ⊢;generalize Zm (Qq r t t.nodes.length) init {z with last:=l,names:=names,kinds:=kinds}=z1 at hSR ⊢;obtain⟨⟨a1,a2⟩,hX⟩:=hSR
  by_cases h0:s1.code=0
  ·obtain⟨c1,c2,c3,c4,more,c5,c6⟩:=hX h0
   have hfr:=c4.frames
   have hst:Zx t z1 l=true:=by
    unfold Zx;dsimp only;have q1:z1.fn=true:=hfr.2.2.2.1.trans hf;have q2:z1.last=l:=hfr.2.2.2.2.1;rw[Ng Om,Ng Om,Ps Qra,q1,q2];simp
   have e1:Zm (Qq r t t.nodes.length) [l] z1=(Jx r t M z1 e).2:=by
    show List.foldl _ _ _=_
    rw[List.foldl_cons,Ps c1.codeS,hM,Q1z hst,Ng Om,Ng Om,Ng Om,Ng Om,Ng Om,Ng Om,Ng Om,Ng Om,Ng Om,Ng Om,Ps Om,k0];rfl
   have e2:Qb (Q8 r t M) s1 [e]=Q8 r t M s1 e:=by
    show List.foldl _ _ _=_;rw[List.foldl_cons,Ps h0];rfl
   have hE2:Q8r r t l (Q8 r t M) (Jx r t M):=by
    have:=Qdp (r:=r) hn hK hS hr l.toNat M M Om Om
    rwa [Int.toNat_of_nonneg Qt3.1] at this
   have hl2:∀x∈s1.locals,x<m:=by
    rw[c5];intro x hx;rcases List.mem_append.1 hx with hx|hx
    ·have:=hl x hx;omega
    ·have:=c6 x hx;omega
   obtain⟨⟨⟨b1,b2⟩,hE3⟩,Qou⟩:=hE2 m e s1 z1 Om hse he hee c1 hl2;rw[e1,e2];generalize Q8 r t M s1 e=s2 at b1 b2 hE3 Qou ⊢;generalize Jx r t M z1 e=p at b1 b2 hE3 ⊢
   by_cases h1:s2.code=0
   ·obtain⟨d1,d2,d3,d4,d5⟩:=hE3 h1
    have hp0:p.2.code=0:=b1.symm.trans h1
    have hfp:p.2.fn=true∧p.2.each=z.each∧p.2.inner=z.inner∧p.2.withs=z.withs∧p.2.kindOf.length=t.nodes.length:=by
     have Qnm:=d2.1.trans c1.kindOf;obtain⟨_,O,d2'⟩:=d2;rw[d2'] at Qnm ⊢;exact⟨hfr.2.2.2.1.trans hf,hfr.1,hfr.2.1,hfr.2.2.1,Qnm⟩
    rw[Ng (show ¬ (p.2.fn=false∨p.2.code≠0) by
     rintro (h9|h9)
     ·rw[hfp.1] at h9;cases h9
     ·exact h9 hp0),Ng (show ¬ (l<0∨(t.at l).kind≠26) by
     rintro (h9|h9)
     ·have:=Qt3.1;omega
     ·exact h9 Qra)]
    by_cases hq:p.1=n.i
    ·rw[Ng (show ¬ Z7 p.2.kindOf e.toNat≠n.i by rw[d4];simpa using hq),Qp,Ps (by rw[d3,hq])]
     exact⟨⟨b1,b2⟩,fun _=>⟨c3.trans d1.l,hfp.2.1,hfp.2.2.1,hfp.2.2.2.1,hfp.2.2.2.2⟩⟩
    ·rw[Ps (show Z7 p.2.kindOf e.toNat≠n.i by rw[d4];exact hq),Qp,Ng (by rw[d3];exact hq)]
     obtain⟨f1,f2⟩:=CS.fail_code h1 4 i;have hz0:({p.2 with names:=[],kinds:=[]}:SS).code=0:=hp0;obtain⟨g1,g2⟩:=SS.fail_code hz0 4 i;exact⟨⟨f1.trans g1.symm,f2.trans g2.symm⟩,fun h9=>absurd (f1.symm.trans h9) Dc⟩
   ·rw[Ps (show p.2.fn=false∨p.2.code≠0 from .inr (by rw[← b1];exact h1))]
    have hs2:=X6 h1 e n.i i;exact⟨⟨hs2.1.trans b1,hs2.2.trans b2⟩,fun h9=>absurd (hs2.1.symm.trans h9) h1⟩
  ·have hz1':z1.code≠0:=by rw[← a1];exact h0
   rw[Qdr hz1',Zg h0,Ps (show z1.fn=false∨z1.code≠0 from .inr hz1')];have hs2:=X6 h0 e n.i i;exact⟨⟨hs2.1.trans a1,hs2.2.trans a2⟩,fun h9=>absurd (hs2.1.symm.trans h9) h0⟩
end
structure TR (t:Q1) (k:Nat) (s:CS) (z:SS):Prop where
 tops:s.tops=t.tops.take k
 nd:(Qd t s.tops).Nodup
 e1:s.inEach=false
 e2:s.inHear=false
 e3:s.withs=[]
 z1:z.each=false
 z2:z.inner=false
 z3:z.withs=[]
 ko:z.kindOf.length=t.nodes.length
 ok:Qe t s
 code:s.code=0
 codeS:z.code=0
 node:s.node=z.node
section
variable {r:Reg} {t:Q1}
theorem Qm0 {l:List Int} {k:Nat} {x:Int} (h:l[k]?=some x):Z7 l k=x:=by simp[Z7,h]
theorem Qjx {W:CS→Int→CS} {s:CS} {i:Int} {n:Qn} (hc:(n.kids.dropLast.foldl (Jl t) s).code≠0):(n.kids.dropLast.foldl (Jl t) s).Same (fnF t W s i n):=by
 unfold fnF;dsimp only;rw[Zg hc,Zg hc,Zg hc];split
 ·exact X6 hc _ _ _
 ·exact CS.fail_same hc _ _
theorem Q59.next {k:Nat} {i:Int} {s s0 s':CS} {z z0 z':SS} (h:TR t k s z) (hk:t.tops[k]?=some i) (hn:Q3 t s.tops (t.at i).text<0) (h0:s0={s with top:=i,locals:=[]}) (hz0:z0.each=z.each∧z0.inner=z.inner∧z0.withs=z.withs)
  (hT:Q59 t s0 z0 s' z') (hok:Qe t {s' with tops:=s'.tops++[i]}):Q2r {s' with tops:=s'.tops++[i]} z'∧(s'.code=0→TR t (k+1) {s' with tops:=s'.tops++[i]} z'):=by
 obtain⟨⟨a1,a2⟩,hX⟩:=hT
 refine⟨⟨a1,a2⟩,fun hc=>?_⟩
 obtain⟨⟨K,B,L,c1⟩,c2,c3,c4,c5⟩:=hX hc;subst h0;subst c1;have Qp1:=Yj (t:=t) (l:=s.tops) (name:=(t.at i).text) (fun x hx=>(h.ok.tops x hx).1);refine⟨?_,?_,h.e1,h.e2,h.e3,c2.trans (hz0.1.trans h.z1),c3.trans (hz0.2.1.trans h.z2),c4.trans (hz0.2.2.trans h.z3),c5,hok,hc,a1.symm.trans hc,a2⟩
 ·show s.tops++[i]=_
  rw[h.tops,List.take_add_one,hk];rfl
 ·show (Qd t (s.tops++[i])).Nodup
  unfold Qd at Qp1 ⊢;rw[List.map_append,List.nodup_append]
  refine⟨h.nd,Sm,fun a ha b hb e=>?_⟩
  simp at hb;subst hb;subst e;have:=Qp1.1 ha;omega
theorem Qlt (hn:Qs t=true) (hK:Qk t) (hS:Z1 t) (hr:Xy r) (hch:Zu t 0 t.tops t.nodes.length) (htk:∀i∈t.tops,InT t i∧33≤(t.at i).kind) {k:Nat} {i:Int} {s:CS} {z:SS} (h:TR t k s z) (hk:t.tops[k]?=some i) :
  Q2r (Yn r t s i) (topS r t z k)∧((Yn r t s i).code=0→TR t (k+1) (Yn r t s i) (topS r t z k)):=by
 have Qry:=Mg hk;obtain⟨hi,h33⟩:=htk i Qry;obtain⟨lo,hsp,Qzc,_⟩:=hch.mem Qry;have hsp':=hsp.le;have hi1:=hi.1;have hi2:=hi.2;have Qt4:=Qe.topStep hK hS r h.ok hi;have Qp1:=Yj (t:=t) (l:=s.tops) (name:=(t.at i).text) (fun x hx=>(h.ok.tops x hx).1);have hgi:=Qm0 hk;rw[Qlo,hgi]
 have Quu:(t.tops.take k).any (fun j=>decide ((t.at j).text=(t.at i).text))=decide (0≤Q3 t s.tops (t.at i).text):=by
  apply Bool.eq_iff_iff.2;rw[decide_eq_true_iff,← Qp1,← h.tops,List.any_eq_true];unfold Qd;rw[List.mem_map];constructor
  ·rintro⟨x,h1,h2⟩;exact⟨x,h1,by simpa using h2⟩
  ·rintro⟨x,h1,h2⟩;exact⟨x,h1,by simpa using h2⟩
 by_cases hx:0≤Q3 t s.tops (t.at i).text
 ·rw[Quu,Ps (by simpa using hx)]
  obtain⟨f1,f2⟩:=CS.fail_code h.code 2 i;have hz0:({z with top:=(k:Int),names:=[],kinds:=[]}:SS).code=0:=h.codeS;obtain⟨g1,g2⟩:=SS.fail_code hz0 2 i
  have e1:(Yn r t s i).code=2∧(Yn r t s i).node=i:=by
   unfold Yn;dsimp only;rw[Ps hx];have hx2:({s.fail 2 i with top:=i,locals:=[]}:CS).code≠0:=by show (s.fail 2 i).code≠0;rw[f1];decide
   rw[Zg hx2];exact⟨f1,f2⟩
  exact⟨⟨e1.1.trans g1.symm,e1.2.trans g2.symm⟩,fun h9=>absurd (e1.1.symm.trans h9) Dc⟩
 ·rw[Quu,Ng (show ¬ decide (0≤Q3 t s.tops (t.at i).text)=true by simpa using hx)]
  have Qxa:Qe t {s with top:=i,locals:=[]}:=⟨h.ok.kinds,h.ok.bind,Sm,h.ok.tops,hi,by simp[Qd],h.ok.withs⟩
  have e1:Yn r t s i={Q8 r t t.nodes.length {s with top:=i,locals:=[]} i with tops:=(Q8 r t t.nodes.length {s with top:=i,locals:=[]} i).tops++[i]}:=by
   unfold Yn;dsimp only;rw[Ng hx];have h00:({s with top:=i,locals:=[]}:CS).code=0:=h.code
   have:Qb (Q8 r t t.nodes.length) {s with top:=i,locals:=[]} [i]=Q8 r t t.nodes.length {s with top:=i,locals:=[]} i:=by
    show List.foldl _ _ _=_;rw[List.foldl_cons,Ps h00];rfl
   rw[this]
  rw[e1] at Qt4 ⊢
  have hR0:∀(nm:List ByteArray) (kd:List Int) (la:Int),nm=[]→kd=[]→∀b:Bool,b=((t.at i).kind==33)→Rel r t {s with top:=i,locals:=[]} {z with top:=(k:Int),names:=nm,kinds:=kd,fn:=b,last:=la}:=by
   intro nm kd la e1 e2 b e3;subst e1;subst e2;subst e3;have hs:=Q13 hn hi Om
   have hkk:(t.at i).kind=33∨(t.at i).kind=34:=by
    unfold Jf at hs
    by_cases h3:(t.at i).kind=33
    ·exact .inl h3
    ·by_cases h4:(t.at i).kind=34
     ·exact .inr h4
     ·rw[Ng Om,Ng Om,Ng Om,Ng Om,Ng Om,Ng Om,Ng Om] at hs
      cases hs
   refine⟨rfl,rfl,h.z1.trans h.e1.symm,?_,rfl,hkk,?_,?_,?_,fun _=>⟨h.e3,h.z3⟩,h.ko,Qxa,h.code,h.codeS,h.node⟩
   ·show z.inner=(s.inEach ||s.inHear)
    rw[h.z2,h.e1,h.e2];rfl
   ·show t.tops.take (k:Int).toNat=s.tops
    rw[h.tops];rfl
   ·exact h.nd
   ·intro name _
    show Zr name z.withs=Zr (r.find 1 name) s.withs
    rw[h.z3,h.e3];rfl
  have hs:=Q13 hn hi Om;unfold Jf at hs;rw[Ng Om,Ng Om,Ng Om,Ng Om,Ng Om] at hs
  by_cases h3:(t.at i).kind=33
  ·rw[Ps h3] at hs
   cases hg:(t.at i).kids.getLast? with
   |none=>rw[hg] at hs;cases hs
   |some b =>
    rw[hg] at hs;simp only[Bool.and_eq_true] at hs;have hne:(t.at i).kids≠[]:=by intro h9;rw[h9] at hg;cases hg
    have Qnf:(t.at i).kids=(t.at i).kids.dropLast++[b]:=by
     have h9:=hg;rw[List.getLast?_eq_some_getLast hne] at h9;cases h9;exact (List.dropLast_concat_getLast hne).symm
    have hcp:=hsp.kids;rw[Qnf] at hcp;obtain⟨m,hc1,hsb,Qp3⟩:=hcp.app;have hbi:b+1=i:=Qp3;have hlb:=hsb.le;have hm0:=hc1.le;have hb:InT t b:=hi.kid hK (by rw[Qnf];simp);have hbk:(t.at b).kind=27:=by simpa[isK] using hs.2
    have hps:∀x∈(t.at i).kids.dropLast,InT t x:=fun x hx=>hi.kid hK (List.dropLast_subset _ hx)
    obtain⟨M,hM⟩:∃M,t.nodes.length=M+1:=⟨t.nodes.length-1,Om⟩;obtain⟨⟨p1,p2⟩,hP⟩:=Qft (r:=r) (t.at i).kids.dropLast lo m {s with top:=i,locals:=[]} {z with top:=(k:Int),names:=[],kinds:=[],fn:=(t.at i).kind==33} [] [] hc1 hps (hR0 [] [] z.last rfl rfl _ rfl) Sm
    have e2:Q8 r t t.nodes.length {s with top:=i,locals:=[]} i=fnF t (Q8 r t M) {s with top:=i,locals:=[]} i (t.at i):=by
     rw[hM];unfold Q8;dsimp only;rw[Ps (by rw[h3];rfl),Ps h3]
    rw[e2] at Qt4 ⊢;have hbg:(some b).getD 0=b:=rfl;rw[hbg];generalize hpp:Z4 t (t.at i).kids.dropLast [] [] {z with top:=(k:Int),names:=[],kinds:=[],fn:=(t.at i).kind==33}=p at p1 p2 hP ⊢
    by_cases h0:((t.at i).kids.dropLast.foldl (Jl t) {s with top:=i,locals:=[]}).code=0
    ·obtain⟨q1,q2,q3,q4⟩:=hP h0
     rw[Ng (show ¬ p.2.2.code≠0 by rw[q2];show ¬ z.code≠0;rw[h.codeS];simp)]
     have e3:fnF t (Q8 r t M) {s with top:=i,locals:=[]} i (t.at i)=(if Q32 t (t.at b).kids then Qp (Qb (Q8 r t M) (Qb (Q8 r t M) ((t.at i).kids.dropLast.foldl (Jl t) {s with top:=i,locals:=[]}) (t.at b).kids.dropLast) [kidAt (t.at ((t.at b).kids.getLast?.getD 0)) 0]) (kidAt (t.at ((t.at b).kids.getLast?.getD 0)) 0) (t.at i).i i
       else (Qb (Q8 r t M) ((t.at i).kids.dropLast.foldl (Jl t) {s with top:=i,locals:=[]}) (t.at b).kids).fail 5 i):=by
      unfold fnF;dsimp only;rw[hg];rfl
     have hT:=Ql6 (n:=t.at i) hn hK hS hr hM hsb Om hi hb hbk (names:=p.1) (kinds:=p.2.1) (z:=p.2.2) (by rw[q2]) (by rw[q2]) (by rw[q2];exact q1) q4 (by rw[q2];show ((t.at i).kind==33)=true;rw[h3];rfl);rw[← e3] at hT
     have hT2:Q59 t {s with top:=i,locals:=[]} p.2.2 (fnF t (Q8 r t M) {s with top:=i,locals:=[]} i (t.at i)) (Qb7 r t p.2.2 i b (t.at i) p.1 p.2.1) :=
      ⟨hT.1,fun hc=>⟨q3.trans (hT.2 hc).1,(hT.2 hc).2⟩⟩
     exact Q59.next h hk Om rfl (by rw[q2];exact⟨rfl,rfl,rfl⟩) hT2 Qt4
    ·have hz9:p.2.2.code≠0:=by rw[← p1];exact h0
     rw[Ps hz9];have hs2:=Qjx (t:=t) (W:=Q8 r t M) (s:={s with top:=i,locals:=[]}) (i:=i) (n:=t.at i) h0;exact⟨⟨hs2.1.trans p1,hs2.2.trans p2⟩,fun h9=>absurd (hs2.1.symm.trans h9) h0⟩
  ·rw[Ng h3] at hs
   by_cases h4:(t.at i).kind=34
   ·rw[Ps h4] at hs
    obtain⟨b,Qnf,hbk⟩:=Xc hs;have hbk:(t.at b).kind=27:=by simpa[isK] using hbk
    have hdl:(t.at i).kids.dropLast=[]:=by rw[Qnf];rfl
    have hgl:(t.at i).kids.getLast?.getD 0=b:=by rw[Qnf];rfl
    rw[hdl,hgl];have hfn:((t.at i).kind==33)=false:=by simpa using h3
    rw[hfn];have hpp:Z4 t [] [] [] {z with top:=(k:Int),names:=[],kinds:=[],fn:=false}=([],[],{z with top:=(k:Int),names:=[],kinds:=[],fn:=false}):=rfl;generalize hXe:({z with top:=(k:Int),names:=[],kinds:=[],fn:=false}:SS)=X at hpp ⊢;rw[hpp,Ng (show ¬ (([]:List ByteArray),([]:List Int),X).2.2.code≠0 by rw[← hXe];show ¬ z.code≠0;rw[h.codeS];simp)];subst hXe;have hR:=hR0 [] [] ((t.at b).kids.getLast?.getD (-1)) rfl rfl false hfn.symm;have hB:=Qf9 hn hK hS hr hsp hi h4 Qnf hbk hR rfl rfl
    have e3:Qb7 r t {z with top:=(k:Int),names:=[],kinds:=[],fn:=false} i b (t.at i) [] []=Jg t (Qq r t t.nodes.length) {z with top:=(k:Int),names:=[],kinds:=[],fn:=false,last:=(t.at b).kids.getLast?.getD (-1)} b [] []:=by
     unfold Qb7;dsimp only
     have:(Jg t (Qq r t t.nodes.length) {z with top:=(k:Int),names:=[],kinds:=[],fn:=false,last:=(t.at b).kids.getLast?.getD (-1)} b [] []).fn=false∨(Jg t (Qq r t t.nodes.length) {z with top:=(k:Int),names:=[],kinds:=[],fn:=false,last:=(t.at b).kids.getLast?.getD (-1)} b [] []).code≠0:=by
      by_cases h9:(Jg t (Qq r t t.nodes.length) {z with top:=(k:Int),names:=[],kinds:=[],fn:=false,last:=(t.at b).kids.getLast?.getD (-1)} b [] []).code=0
      ·left
       have hc:=hB.1.1.trans h9;obtain⟨_,O,e⟩:=(hB.2 hc).2.1;rw[e]
      ·right;exact h9
     rw[Ps this]
    rw[e3]
    have hT:Q59 t {s with top:=i,locals:=[]} {z with top:=(k:Int),names:=[],kinds:=[],fn:=false,last:=(t.at b).kids.getLast?.getD (-1)} (Q8 r t t.nodes.length {s with top:=i,locals:=[]} i) (Jg t (Qq r t t.nodes.length) {z with top:=(k:Int),names:=[],kinds:=[],fn:=false,last:=(t.at b).kids.getLast?.getD (-1)} b [] []):=by
     refine⟨hB.1,fun hc=>?_⟩
     obtain⟨b1,⟨bl,O,b2⟩,b3⟩:=hB.2 hc;refine⟨b1.l,?_,?_,?_,?_⟩
     ·rw[b2]
     ·rw[b2]
     ·rw[b2]
     ·rw[bl];exact h.ko
    exact Q59.next h hk Om rfl ⟨rfl,rfl,rfl⟩ hT Qt4
   ·rw[Ng h4] at hs;cases hs
theorem Qi8 {s:CS} (hc:s.code≠0) (i:Int):s.Same (Yn r t s i):=by
 unfold Yn;dsimp only
 have h1:s.Same (if 0≤Q3 t s.tops (t.at i).text then s.fail 2 i else s):=by
  split
  ·exact CS.fail_same hc _ _
  ·exact CS.Same.rfl s
 generalize (if 0≤Q3 t s.tops (t.at i).text then s.fail 2 i else s)=s1 at h1 ⊢;have h2:({s1 with top:=i,locals:=[]}:CS).code≠0:=h1.ne hc;rw[Zg h2];exact⟨h1.1,h1.2⟩
theorem Ql7 (hn:Qs t=true) (hK:Qk t) (hS:Z1 t) (hr:Xy r) (hch:Zu t 0 t.tops t.nodes.length) (htk:∀i∈t.tops,InT t i∧33≤(t.at i).kind) (Qo3:0<t.nodes.length):∀k:Nat,k≤t.tops.length →
  Q2r ((t.tops.take k).foldl (Yn r t) (Z6 t)) ((List.range k).foldl (fun s k=>if s.code=0 then topS r t s k else s) (Q0j t)) ∧
   (((t.tops.take k).foldl (Yn r t) (Z6 t)).code=0→TR t k ((t.tops.take k).foldl (Yn r t) (Z6 t)) ((List.range k).foldl (fun s k=>if s.code=0 then topS r t s k else s) (Q0j t))):=by
 intro k
 induction k with
 |zero =>
  intro _
  refine⟨⟨rfl,rfl⟩,fun _=>?_⟩
  have hok:Qe t (Z6 t):=⟨by simp[Z6],by simp[Z6],by simp[Z6],by simp[Z6],⟨by simp[Z6],by simp[Z6];omega⟩,by simp[Z6,Qd],by simp[Z6]⟩;exact⟨rfl,by simp[Z6,Qd],rfl,rfl,rfl,rfl,rfl,rfl,by simp[Q0j],hok,rfl,rfl,rfl⟩
 |succ k ih =>
  intro hk;obtain⟨i,hi⟩:=Q4 (xs:=t.tops) (j:=k) Om;obtain⟨⟨a1,a2⟩,hT⟩:=ih Om;rw[Js hi,List.foldl_append,List.range_succ,List.foldl_append];generalize (t.tops.take k).foldl (Yn r t) (Z6 t)=s at a1 a2 hT ⊢;generalize (List.range k).foldl (fun s k=>if s.code=0 then topS r t s k else s) (Q0j t)=z at a1 a2 hT ⊢;rw[List.foldl_cons,List.foldl_nil,List.foldl_cons,List.foldl_nil]
  by_cases h0:s.code=0
  ·rw[Ps (a1.symm.trans h0)]
   exact Qlt hn hK hS hr hch htk (hT h0) hi
  ·rw[Ng (by rw[← a1];exact h0)]
   have:=Qi8 (r:=r) (t:=t) h0 i;exact⟨⟨this.1.trans a1,this.2.trans a2⟩,fun h9=>absurd (this.1.symm.trans h9) h0⟩
theorem Qkd (hR:Q6t r=true) (hT:Q00 t=true) (hS:Z1 t):(((Q0e r t).code,(Q0e r t).node):Int×Int)=Qk4 r t:=by
 unfold Q00 at hT;simp only[Bool.and_eq_true,decide_eq_true_eq,beq_iff_eq] at hT;obtain⟨⟨_,hn⟩,htp⟩:=hT;obtain⟨hch,htk⟩:=Q63 (Int.le_refl 0) htp;have hK:=Q5n hn;unfold Qk4 Q6w Q0e
 by_cases Qo3:0<t.nodes.length
 ·have:=(Ql7 hn hK hS (Qfj hR) hch htk Qo3 t.tops.length (Nat.le_refl _)).1
  rw[List.take_length] at this;rw[this.1,this.2]
 ·have:t.tops=[]:=by
   cases h9:t.tops with
   |nil=>rfl
   |cons x xs=>have:=(htk x (by rw[h9];simp)).1;have h1:=this.1;have h2:=this.2;omega
  rw[this];rfl
end
theorem Qj.poke {S:Nat→Prop} {w:World} {p q:Nat} {φ:World→Value→Prop} (h:Qj S w fun w=>∃v,w.cell? ⟨p,q,none⟩=some v∧φ w v) (hno:∀w',¬ φ w' (.bool true)):¬ S p:=by
 intro hS;have hk:Q0 S w (w.setCell ⟨p,q,none⟩ (.bool true)):=(Kr _ _).setCell (p:=⟨p,q,none⟩) (Or.inl hS) _;obtain⟨v,hc,_⟩:=h.now;obtain⟨v',hc',hf⟩:=h _ hk;have he:(w.setCell ⟨p,q,none⟩ (.bool true)).cell? ⟨p,q,none⟩=some (.bool true):=World.cell?_setCell_same' _ _ _ (by rw[hc];rfl);rw[he] at hc';cases hc';exact hno _ hf
theorem Qj.fix {S:Nat→Prop} {w:World} {p q:Nat} {φ:World→Value→Prop} (h:Qj S w fun w=>∃v,w.cell? ⟨p,q,none⟩=some v∧φ w v) (hno:∀w',¬ φ w' (.bool true)) :
  ∃v,(∀W,Q0 S w W→W.cell? ⟨p,q,none⟩=some v)∧Qj S w fun w=>φ w v:=by
 have hS:=h.poke hno;obtain⟨v,hc,_⟩:=h.now
 refine⟨v,fun W hk=>hk.cell hS hc,fun W hk=>?_⟩
 obtain⟨v',hc',hf⟩:=h W hk;rw[hk.cell hS hc] at hc';cases hc';exact hf
theorem Qj.imp {S:Nat→Prop} {w:World} {φ ψ:World→Prop} (h:Qj S w φ) (hi:∀w,φ w→ψ w):Qj S w ψ:=fun W hk=>hi W (h W hk)
theorem Qf.noBool {w:World} {xs:List Int} {b:Bool}:¬ Qf w (.bool b) xs:=by rintro⟨_,_,_,_,h,_⟩;cases h
theorem Xg.noBool {w:World} {xs:List Qn} {b:Bool}:¬ Xg w (.bool b) xs:=by rintro⟨_,_,_,_,h,_⟩;cases h
theorem Qj.ints {S:Nat→Prop} {w:World} {v:Value} {xs:List Int} (h:Qj S w fun w=>Qf w v xs) :
  ∃A b o c,v=.slice A xs.length c∧xs.length≤140737488355328∧xs.length≤c∧(0<xs.length→A=some ⟨b,o,none⟩∧¬ S b)∧∀j x,xs[j]?=some x→∀W,Q0 S w W→W.cell? ⟨b,o+j,none⟩=some (.int .i64 x):=by
 obtain⟨A,b,o,c,rfl,hl,hlc,hA,hc⟩:=h.now
 refine⟨A,b,o,c,rfl,hl,hlc,fun h0=>⟨hA h0,?_⟩,fun j x hx W hk=>?_⟩
 ·obtain rfl:=hA h0
  exact h.apart rfl h0
 ·have h0:0<xs.length:=by have:=(Gs hx).1;omega
  obtain rfl:=hA h0;exact hk.cell (h.apart rfl h0) (hc j x hx)
theorem Qj.tree {S:Nat→Prop} {w:World} {tb tq:Nat} {t:Q1} (h:Qj S w fun w=>J8 w tb tq t) :
  ∃(A:Option Addr) (nb no nc:Nat),(∀W,Q0 S w W→W.cell? ⟨tb,tq,none⟩=some (.slice A t.nodes.length nc))∧t.nodes.length≤140737488355328∧t.nodes.length≤nc∧¬ S tb∧(0<t.nodes.length→A=some ⟨nb,no,none⟩∧¬ S nb) ∧
   (∃v1,(∀W,Q0 S w W→W.cell? ⟨tb,tq+1,none⟩=some v1)∧Qj S w fun w=>Qf w v1 t.tops) ∧
   ∀j x,t.nodes[j]?=some x→∃kv,(∀W,Q0 S w W→W.cell? ⟨nb,no+j*4,none⟩=some (.int .i64 x.kind)∧W.cell? ⟨nb,no+j*4+1,none⟩=some (.string x.text) ∧
    W.cell? ⟨nb,no+j*4+2,none⟩=some (.int .i64 x.i)∧W.cell? ⟨nb,no+j*4+3,none⟩=some kv)∧Qj S w fun w=>Qf w kv x.kids:=by
 have h0:Qj S w fun w=>∃v,w.cell? ⟨tb,tq,none⟩=some v∧Xg w v t.nodes:=h.imp fun w ⟨v0,v1,c0,c1,n0,n1⟩=>⟨v0,c0,n0⟩
 have h1:Qj S w fun w=>∃v,w.cell? ⟨tb,tq+1,none⟩=some v∧Qf w v t.tops:=h.imp fun w ⟨v0,v1,c0,c1,n0,n1⟩=>⟨v1,c1,n1⟩
 have hS:=h0.poke (fun _=>Xg.noBool);obtain⟨v0,f0,g0⟩:=h0.fix (fun _=>Xg.noBool);obtain⟨A,nb,no,nc,rfl,hl,hlc,hA,hc⟩:=g0.now
 have Qpy:∀j x,t.nodes[j]?=some x→Qj S w fun w=>∃kv,w.cell? ⟨nb,no+j*4+3,none⟩=some kv∧(w.cell? ⟨nb,no+j*4,none⟩=some (.int .i64 x.kind)∧w.cell? ⟨nb,no+j*4+1,none⟩=some (.string x.text)∧w.cell? ⟨nb,no+j*4+2,none⟩=some (.int .i64 x.i)∧Qf w kv x.kids):=by
  intro j x hx;have hp:0<t.nodes.length:=by have:=(Gs hx).1;omega
  have hAA:=hA hp
  refine g0.imp fun w' ⟨A',nb',no',nc',e,_,_,hA',hc'⟩=>?_
  injection e with e1 e2 e3
  exact K0g
 refine⟨A,nb,no,nc,f0,hl,hlc,hS,fun hp=>⟨hA hp,?_⟩,h1.fix (fun _=>Qf.noBool),fun j x hx=>?_⟩
 ·obtain⟨x,hx⟩:=Q4 (xs:=t.nodes) (j:=0) hp
  exact (Qpy 0 x hx).poke (fun _ h=>Qf.noBool h.2.2.2)
 ·obtain⟨kv,q3,q⟩:=(Qpy j x hx).fix (fun _ h=>Qf.noBool h.2.2.2)
  exact⟨kv,fun W hk=>⟨(q W hk).1,(q W hk).2.1,(q W hk).2.2.1,q3 W hk⟩,q.imp fun _ h=>h.2.2.2⟩
def at2 (wb gb:Nat):Nat→Prop:=fun k=>k=wb∨k=gb
structure Xl (S:Nat→Prop) (w:World) (r:Reg) (t:Q1) (r0 r1 r2 t0 t1:Value):Prop where
 r0:Qj S w fun w=>Ji w r0 r.comps
 r1:Qj S w fun w=>Ji w r1 r.ress
 r2:Qj S w fun w=>Ji w r2 r.evts
 t0:Qj S w fun w=>Xg w t0 t.nodes
 t1:Qj S w fun w=>Qf w t1 t.tops
theorem Xl.kept {S:Nat→Prop} {w w':World} {r:Reg} {t:Q1} {r0 r1 r2 t0 t1:Value} (h:Xl S w r t r0 r1 r2 t0 t1) (k:Q0 S w w'):Xl S w' r t r0 r1 r2 t0 t1 :=
 ⟨h.r0.kept k,h.r1.kept k,h.r2.kept k,h.t0.kept k,h.t1.kept k⟩
def Qcg (r0 r1 r2 t0 t1 ov:Value) (s:SS) (nv kv wv:Value):List Value :=
 [r0,r1,r2,t0,t1,.int .i64 s.top,nv,kv,.bool s.each,.bool s.inner,wv,.bool s.fn,.int .i64 s.last,.int .i64 s.code,.int .i64 s.node,ov]
structure SpR (w:World) (wb gb:Nat) (r0 r1 r2 t0 t1 ov:Value) (s:SS) (nv kv wv:Value):Prop where
 blk:Blk w wb (Qcg r0 r1 r2 t0 t1 ov s nv kv wv) 124
 ne:wb≠gb
 gl:gb<w.heap.size
 o:Qc (fun k=>k=gb) 3 w ov (Q5 s.kindOf)
 n:Qj (at2 wb gb) w fun w=>Q0g w nv s.names
 k:Qj (at2 wb gb) w fun w=>Qf w kv s.kinds
 h:Qj (at2 wb gb) w fun w=>Q0g w wv s.withs
theorem Q0.wb {wb gb:Nat} {w0 w:World} (h:Q0 (at2 wb gb) w0 w) (i:Nat) (u:Value):Q0 (at2 wb gb) w0 (w.setCell ⟨wb,i,none⟩ u):=h.setCell (p:=⟨wb,i,none⟩) (Or.inl (Or.inl rfl)) u
theorem Q0.gb {wb gb:Nat} {w0 w:World} (h:Q0 (at2 wb gb) w0 w) (i:Nat) (u:Value):Q0 (at2 wb gb) w0 (w.setCell ⟨gb,i,none⟩ u):=h.setCell (p:=⟨gb,i,none⟩) (Or.inl (Or.inr rfl)) u
theorem Qj.nob {S:Nat→Prop} {w w':World} {φ:World→Prop} (h:Qj S w φ) (k:Q0 nob w w'):Qj S w' φ:=h.kept (k.ofNob S)
namespace SpR
variable {w w':World} {wb gb:Nat} {r0 r1 r2 t0 t1 ov:Value} {s s':SS} {nv kv wv nv' kv' wv':Value}
theorem nobk (h:SpR w wb gb r0 r1 r2 t0 t1 ov s nv kv wv) (k:Q0 nob w w'):SpR w' wb gb r0 r1 r2 t0 t1 ov s nv kv wv :=
 ⟨h.blk.kept k id,h.ne,Nat.lt_of_lt_of_le h.gl k.size,h.o.nobk k,h.n.nob k,h.k.nob k,h.h.nob k⟩
theorem drew (h:SpR w wb gb r0 r1 r2 t0 t1 ov s nv kv wv):SpR w.drew wb gb r0 r1 r2 t0 t1 ov s nv kv wv:=h.nobk (Kr _ _).drew
theorem drewN (h:SpR w wb gb r0 r1 r2 t0 t1 ov s nv kv wv) (n:Nat):SpR (w.drewN n) wb gb r0 r1 r2 t0 t1 ov s nv kv wv:=h.nobk ((Kr _ _).drewN n)
theorem alloc (h:SpR w wb gb r0 r1 r2 t0 t1 ov s nv kv wv) (o:Obj):SpR (w.alloc o) wb gb r0 r1 r2 t0 t1 ov s nv kv wv:=h.nobk ((Kr _ _).alloc o)
theorem wl (h:SpR w wb gb r0 r1 r2 t0 t1 ov s nv kv wv):wb<w.heap.size:=h.blk.lt
theorem setc (h:SpR w wb gb r0 r1 r2 t0 t1 ov s nv kv wv) (i:Nat) (u:Value) (s':SS) (hcs:Qcg r0 r1 r2 t0 t1 ov s' nv' kv' wv'=(Qcg r0 r1 r2 t0 t1 ov s nv kv wv).set i u)
  (ho:s'.kindOf=s.kindOf) (hn:Qj (at2 wb gb) w fun w=>Q0g w nv' s'.names) (hk:Qj (at2 wb gb) w fun w=>Qf w kv' s'.kinds) (hh:Qj (at2 wb gb) w fun w=>Q0g w wv' s'.withs) :
  SpR (w.setCell ⟨wb,i,none⟩ u) wb gb r0 r1 r2 t0 t1 ov s' nv' kv' wv':=by
 have hK:Q0 (at2 wb gb) w (w.setCell ⟨wb,i,none⟩ u):=(Kr _ _).wb i u;refine⟨hcs▸h.blk.set i u,h.ne,Nat.lt_of_lt_of_le h.gl hK.size,?_,hn.kept hK,hk.kept hK,hh.kept hK⟩;rw[ho];exact h.o.other (p:=⟨wb,i,none⟩) (fun e=>h.ne (h.o.2 _ e)) u
theorem setCode (h:SpR w wb gb r0 r1 r2 t0 t1 ov s nv kv wv) (c:Int):SpR (w.setCell ⟨wb,13,none⟩ (.int .i64 c)) wb gb r0 r1 r2 t0 t1 ov {s with code:=c} nv kv wv:=h.setc 13 _ _ rfl rfl h.n h.k h.h
theorem setNode (h:SpR w wb gb r0 r1 r2 t0 t1 ov s nv kv wv) (c:Int):SpR (w.setCell ⟨wb,14,none⟩ (.int .i64 c)) wb gb r0 r1 r2 t0 t1 ov {s with node:=c} nv kv wv:=h.setc 14 _ _ rfl rfl h.n h.k h.h
theorem setTop (h:SpR w wb gb r0 r1 r2 t0 t1 ov s nv kv wv) (c:Int):SpR (w.setCell ⟨wb,5,none⟩ (.int .i64 c)) wb gb r0 r1 r2 t0 t1 ov {s with top:=c} nv kv wv:=h.setc 5 _ _ rfl rfl h.n h.k h.h
theorem setEach (h:SpR w wb gb r0 r1 r2 t0 t1 ov s nv kv wv) (c:Bool):SpR (w.setCell ⟨wb,8,none⟩ (.bool c)) wb gb r0 r1 r2 t0 t1 ov {s with each:=c} nv kv wv:=h.setc 8 _ _ rfl rfl h.n h.k h.h
theorem setInner (h:SpR w wb gb r0 r1 r2 t0 t1 ov s nv kv wv) (c:Bool):SpR (w.setCell ⟨wb,9,none⟩ (.bool c)) wb gb r0 r1 r2 t0 t1 ov {s with inner:=c} nv kv wv:=h.setc 9 _ _ rfl rfl h.n h.k h.h
theorem setFn (h:SpR w wb gb r0 r1 r2 t0 t1 ov s nv kv wv) (c:Bool):SpR (w.setCell ⟨wb,11,none⟩ (.bool c)) wb gb r0 r1 r2 t0 t1 ov {s with fn:=c} nv kv wv:=h.setc 11 _ _ rfl rfl h.n h.k h.h
theorem setLast (h:SpR w wb gb r0 r1 r2 t0 t1 ov s nv kv wv) (c:Int):SpR (w.setCell ⟨wb,12,none⟩ (.int .i64 c)) wb gb r0 r1 r2 t0 t1 ov {s with last:=c} nv kv wv:=h.setc 12 _ _ rfl rfl h.n h.k h.h
theorem setNames (h:SpR w wb gb r0 r1 r2 t0 t1 ov s nv kv wv) {u:Value} {l:List ByteArray} (hu:Qj (at2 wb gb) w fun w=>Q0g w u l):SpR (w.setCell ⟨wb,6,none⟩ u) wb gb r0 r1 r2 t0 t1 ov {s with names:=l} u kv wv:=h.setc 6 _ _ rfl rfl hu h.k h.h
theorem setKinds (h:SpR w wb gb r0 r1 r2 t0 t1 ov s nv kv wv) {u:Value} {l:List Int} (hu:Qj (at2 wb gb) w fun w=>Qf w u l):SpR (w.setCell ⟨wb,7,none⟩ u) wb gb r0 r1 r2 t0 t1 ov {s with kinds:=l} nv u wv:=h.setc 7 _ _ rfl rfl h.n hu h.h
theorem setWith (h:SpR w wb gb r0 r1 r2 t0 t1 ov s nv kv wv) {u:Value} {l:List ByteArray} (hu:Qj (at2 wb gb) w fun w=>Q0g w u l):SpR (w.setCell ⟨wb,10,none⟩ u) wb gb r0 r1 r2 t0 t1 ov {s with withs:=l} nv kv u:=h.setc 10 _ _ rfl rfl h.n h.k hu
theorem setO (h:SpR w wb gb r0 r1 r2 t0 t1 ov s nv kv wv) (hg:ov.ownBlock=some gb) (i:Nat) (x:Int):SpR (w.setCell ⟨gb,i,none⟩ (.int .i64 x)) wb gb r0 r1 r2 t0 t1 ov {s with kindOf:=s.kindOf.set i x} nv kv wv:=by
 have hK:Q0 (at2 wb gb) w (w.setCell ⟨gb,i,none⟩ (.int .i64 x)):=(Kr _ _).gb i _;refine⟨h.blk.other h.ne _,h.ne,Nat.lt_of_lt_of_le h.gl hK.size,?_,h.n.kept hK,h.k.kept hK,h.h.kept hK⟩;have:=h.o.set hg i (.int .i64 x)
 rwa [show (Q5 s.kindOf).set i (.int .i64 x)=Q5 (s.kindOf.set i x) from by simp[Q5,List.map_set]] at this
theorem kindRow (h:SpR w wb gb r0 r1 r2 t0 t1 ov s nv kv wv) (hp:0<s.kindOf.length):∃oc,ov=.slice (some ⟨gb,0,none⟩) s.kindOf.length oc∧ov.ownBlock=some gb:=by
 obtain⟨A,g,oc,hv,_,_,hA,_⟩:=h.o.openI;obtain⟨rfl,hg,ho⟩:=hA hp;subst hg;exact⟨oc,hv,ho⟩
theorem kindCell (h:SpR w wb gb r0 r1 r2 t0 t1 ov s nv kv wv) {i:Nat} {x:Int} (hi:s.kindOf[i]?=some x):w.cell? ⟨gb,i,none⟩=some (.int .i64 x)∧w.frozen? ⟨gb,i,none⟩=false:=by
 obtain⟨A,g,oc,hv,_,_,hA,hc⟩:=h.o.openI;have hp:0<s.kindOf.length:=by have:=(Gs hi).1;omega
 obtain⟨rfl,hg,ho⟩:=hA hp;subst hg;exact hc i x hi
end SpR
def AtW (w:World) (wb gb:Nat) (r0 r1 r2 t0 t1 ov:Value) (s:SS) (nv kv wv:Value) (w':World):Prop:=SpR w' wb gb r0 r1 r2 t0 t1 ov s nv kv wv∧Q0 (at2 wb gb) w w'
theorem Q0g.noBool {w:World} {xs:List ByteArray} {b:Bool}:¬ Q0g w (.bool b) xs:=by rintro⟨_,_,_,_,h,_⟩;cases h
theorem Qj.apartS {S:Nat→Prop} {w:World} {v:Value} {xs:List ByteArray} (h:Qj S w fun w=>Q0g w v xs) {b o n c:Nat} (hv:v=.slice (some ⟨b,o,none⟩) n c) (h0:0<xs.length):¬ S b:=by
 intro hS;obtain⟨x,hx⟩:=Q4 (xs:=xs) (j:=0) h0;have hk:Q0 S w (w.setCell ⟨b,o,none⟩ (.bool true)):=(Kr _ _).setCell (p:=⟨b,o,none⟩) (Or.inl hS) _;obtain⟨A,b1,o1,c1,hv1,_,_,hA,hc⟩:=h.now;obtain⟨A',b2,o2,c2,hv2,_,_,hA',hc'⟩:=h _ hk;have e1:=hA h0;have e2:=hA' h0;subst e1;subst e2;subst hv;injection hv1 with p1 _ _
 injection hv2 with p2 _ _
 cases p1;cases p2;have q1:=hc 0 x hx;have q2:=hc' 0 x hx;rw[Nat.add_zero] at q1 q2;have:(w.setCell ⟨b,o,none⟩ (.bool true)).cell? ⟨b,o,none⟩=some (.bool true):=World.cell?_setCell_same' _ _ _ (by rw[q1];rfl);rw[this] at q2;cases q2
theorem Qj.strs {S:Nat→Prop} {w:World} {v:Value} {xs:List ByteArray} (h:Qj S w fun w=>Q0g w v xs) :
  ∃A b o c,v=.slice A xs.length c∧xs.length≤140737488355328∧xs.length≤c∧(0<xs.length→A=some ⟨b,o,none⟩∧¬ S b)∧∀j x,xs[j]?=some x→∀W,Q0 S w W→W.cell? ⟨b,o+j,none⟩=some (.string x):=by
 obtain⟨A,b,o,c,rfl,hl,hlc,hA,hc⟩:=h.now
 refine⟨A,b,o,c,rfl,hl,hlc,fun h0=>⟨hA h0,?_⟩,fun j x hx W hk=>?_⟩
 ·obtain rfl:=hA h0
  exact h.apartS rfl h0
 ·have h0:0<xs.length:=by have:=(Gs hx).1;omega
  obtain rfl:=hA h0;exact hk.cell (h.apartS rfl h0) (hc j x hx)
theorem Qj.nodes {S:Nat→Prop} {w:World} {v:Value} {xs:List Qn} (g0:Qj S w fun w=>Xg w v xs) :
  ∃(A:Option Addr) (nb no nc:Nat),v=.slice A xs.length nc∧xs.length≤140737488355328∧xs.length≤nc∧(0<xs.length→A=some ⟨nb,no,none⟩) ∧
   ∀j x,xs[j]?=some x→∃kv,(∀W,Q0 S w W→W.cell? ⟨nb,no+j*4,none⟩=some (.int .i64 x.kind)∧W.cell? ⟨nb,no+j*4+1,none⟩=some (.string x.text) ∧
    W.cell? ⟨nb,no+j*4+2,none⟩=some (.int .i64 x.i)∧W.cell? ⟨nb,no+j*4+3,none⟩=some kv)∧Qj S w fun w=>Qf w kv x.kids:=by
 obtain⟨A,nb,no,nc,rfl,hl,hlc,hA,hc⟩:=g0.now
 refine⟨A,nb,no,nc,rfl,hl,hlc,hA,fun j x hx=>?_⟩
 have hp:0<xs.length:=by have:=(Gs hx).1;omega
 have hAA:=hA hp
 have Qpy:Qj S w fun w=>∃kv,w.cell? ⟨nb,no+j*4+3,none⟩=some kv∧(w.cell? ⟨nb,no+j*4,none⟩=some (.int .i64 x.kind)∧w.cell? ⟨nb,no+j*4+1,none⟩=some (.string x.text)∧w.cell? ⟨nb,no+j*4+2,none⟩=some (.int .i64 x.i)∧Qf w kv x.kids):=by
  refine g0.imp fun w' ⟨A',nb',no',nc',e,_,_,hA',hc'⟩=>?_
  injection e with e1 e2 e3
  exact K0g
 obtain⟨kv,q3,q⟩:=Qpy.fix (fun _ h=>Qf.noBool h.2.2.2);exact⟨kv,fun W hk=>⟨(q W hk).1,(q W hk).2.1,(q W hk).2.2.1,q3 W hk⟩,q.imp fun _ h=>h.2.2.2⟩
theorem Xl.cells {S:Nat→Prop} {w:World} {r:Reg} {t:Q1} {r0 r1 r2 t1:Value} {nb no m nc:Nat} (F:Xl S w r t r0 r1 r2 (.slice (some ⟨nb,no,none⟩) m nc) t1) {mi:Nat} {n:Qn} (hn:t.nodes[mi]?=some n) :
  ∃A kb ko kc,(∀W,Q0 S w W→W.cell? ⟨nb,no+mi*4,none⟩=some (.int .i64 n.kind)∧W.cell? ⟨nb,no+mi*4+1,none⟩=some (.string n.text)∧W.cell? ⟨nb,no+mi*4+2,none⟩=some (.int .i64 n.i)∧W.cell? ⟨nb,no+mi*4+3,none⟩=some (.slice A n.kids.length kc)) ∧
   n.kids.length≤140737488355328∧n.kids.length≤kc∧(0<n.kids.length→A=some ⟨kb,ko,none⟩)∧(∀j x,n.kids[j]?=some x→∀W,Q0 S w W→W.cell? ⟨kb,ko+j,none⟩=some (.int .i64 x)):=by
 obtain⟨A,nb',no',nc',e,hl,hlc,hA,hc⟩:=F.t0.nodes;obtain⟨hlt,_⟩:=Gs hn;have hA':=hA Om;injection e with e1 _ e3
 subst hA';cases e1;obtain⟨nk,Qni,Qnf⟩:=hc mi n hn;obtain⟨KA,kb,ko,kc,rfl,kl,klc,hKA,hkc⟩:=Qnf.ints;exact⟨KA,kb,ko,kc,Qni,kl,klc,fun h0=>(hKA h0).1,hkc⟩
theorem SpR.node {w:World} {wb gb:Nat} {r0 r1 r2 t0 t1 ov:Value} {s:SS} {nv kv wv:Value} {r:Reg} {t:Q1} (h:SpR w wb gb r0 r1 r2 t0 t1 ov s nv kv wv) (F:Xl (at2 wb gb) w r t r0 r1 r2 t0 t1) {mi:Nat} {n:Qn} (hn:t.nodes[mi]?=some n) :
  ∃nb no nc A kb ko kc,t0=.slice (some ⟨nb,no,none⟩) t.nodes.length nc∧t.nodes.length≤140737488355328∧(mi:Int)<t.nodes.length ∧
   (w.cell? ⟨nb,no+mi*4,none⟩=some (.int .i64 n.kind)∧w.cell? ⟨nb,no+mi*4+1,none⟩=some (.string n.text)∧w.cell? ⟨nb,no+mi*4+2,none⟩=some (.int .i64 n.i)∧w.cell? ⟨nb,no+mi*4+3,none⟩=some (.slice A n.kids.length kc)) ∧
   n.kids.length≤140737488355328∧n.kids.length≤kc∧(0<n.kids.length→A=some ⟨kb,ko,none⟩) ∧
   ∃W0,w.alloc (.cells #[.int .i64 n.kind,.string n.text,.int .i64 n.i,.slice A n.kids.length kc] 70 (0,0))=W0∧SpR W0 wb gb r0 r1 r2 t0 t1 ov s nv kv wv∧Xl (at2 wb gb) W0 r t r0 r1 r2 t0 t1∧Q0 (at2 wb gb) w W0 ∧
    (∀W,Q0 (at2 wb gb) W0 W→W.cell? ⟨w.heap.size,0,none⟩=some (.int .i64 n.kind)∧W.cell? ⟨w.heap.size,1,none⟩=some (.string n.text)∧W.cell? ⟨w.heap.size,2,none⟩=some (.int .i64 n.i)∧W.cell? ⟨w.heap.size,3,none⟩=some (.slice A n.kids.length kc)) ∧
    (∀j x,n.kids[j]?=some x→∀W,Q0 (at2 wb gb) W0 W→W.cell? ⟨kb,ko+j,none⟩=some (.int .i64 x)):=by
 obtain⟨A,nb,no,nc,rfl,hl,hlc,hA,hc⟩:=F.t0.nodes;obtain⟨hlt,_⟩:=Gs hn;obtain rfl:=hA Om;obtain⟨nk,Qni,Qnf⟩:=hc mi n hn;obtain⟨KA,kb,ko,kc,rfl,kl,klc,hKA,hkc⟩:=Qnf.ints;have hk0:Q0 nob w (w.alloc (.cells #[.int .i64 n.kind,.string n.text,.int .i64 n.i,.slice KA n.kids.length kc] 70 (0,0))):=(Kr _ _).alloc _;have hb0:=Blk.new w [.int .i64 n.kind,.string n.text,.int .i64 n.i,.slice KA n.kids.length kc] 70
 have hns:¬ at2 wb gb w.heap.size:=by
  intro e;have h1:=h.wl;have h2:=h.gl;rcases e with e|e<;>omega
 refine⟨nb,no,nc,KA,kb,ko,kc,rfl,hl,Om,Qni w (Kr _ _),kl,klc,fun h0=>(hKA h0).1,_,rfl,h.nobk hk0,F.kept (hk0.ofNob _),hk0.ofNob _,fun W hk=>?_,fun j x hx W hk=>hkc j x hx W ((hk0.ofNob _).trans hk)⟩
 exact⟨hk.cell hns (hb0.cell 0 _ rfl),hk.cell hns (hb0.cell 1 _ rfl),hk.cell hns (hb0.cell 2 _ rfl),hk.cell hns (hb0.cell 3 _ rfl)⟩
end Go.Proofs.YtkgkafjachjafaaGreat
