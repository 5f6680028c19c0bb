/- Part 27 of: FnExactPrune answers true; no condition. -/
import Derived.Test.YtkgkafjachjafaaGreatZ20
import Derived.Test.YtkgkafjachjafaaGreatZ22
import Derived.Test.YtkgkafjachjafaaGreatZ23
set_option linter.unusedVariables false
open Go Go.RowKit
namespace Go.Proofs.YtkgkafjachjafaaGreat
open Tryz
def Jp (r:Reg) (t:Q1) (E:SS→Int→Int×SS) (i:Int) (n:Qc) (ks l:List Int) (z:SS):Int×SS :=
 if (Q15 E l z).2.code≠0 then (0,(Q15 E l z).2) else Js r t (Q15 E l z).2 i n (ks++(Q15 E l z).1)
theorem Q1j {r:Reg} {t:Q1} {E:SS→Int→Int×SS} {i:Int} {n:Qc} {ks l:List Int} {z:SS} {k:Int} :
  Jp r t E i n ks (k::l) z=(if (E z k).2.code≠0 then (0,(E z k).2) else Jp r t E i n (ks++[(E z k).1]) l (E z k).2):=by
 unfold Jp;simp only[Q15]
 by_cases h:(E z k).2.code≠0
 ·simp only[Ps h]
 ·simp only[Ng h,List.append_assoc,List.singleton_append]
theorem Q12 {r:Reg} {t:Q1} {E:SS→Int→Int×SS} {i:Int} {n:Qc} {ks:List Int} {z:SS} (h:z.code=0):Jp r t E i n ks [] z=Js r t z i n ks:=by
 unfold Jp;simp[Q15,h]
theorem Yk (w:World):Qf (Q7 w.heap.size) 3 (w.alloc (.cells #[] 3 (0,0))) (.slice (some ⟨w.heap.size,0,none⟩) 0 0) (Q4 []):=by
 have:=Qf.lit (Q7 w.heap.size) 3 w [] (Nat.le_refl _) (by simp) rfl (n:=0) (c:=0) rfl rfl;simpa[Q4] using this
theorem Q10 {wb gb:Nat} {w0 w w1:World} {S:Nat→Prop} (h:Q0 (at2 wb gb) w0 w) (k:Q0 S w w1) (hs:∀q,S q→Q7 w0.heap.size q):Q0 (at2 wb gb) w0 w1 :=
 h.then_ k (fun q hq=>Or.inr (hs q hq))
theorem SpR.row {w0 w w1:World} {wb gb:Nat} {r0 r1 r2 t0 t1 ov:Value} {s s0:SS} {nv kv wv:Value} {S:Nat→Prop} (h:SpR w wb gb r0 r1 r2 t0 t1 ov s nv kv wv) (k:Q0 S w w1) (hs:∀q,S q→¬ at2 wb gb q)
  (h0:SpR w0 wb gb r0 r1 r2 t0 t1 ov s0 nv kv wv) (k0:Q0 (at2 wb gb) w0 w1) (e:EqX s0 s):SpR w1 wb gb r0 r1 r2 t0 t1 ov s nv kv wv :=
 ⟨h.blk.kept k (fun hq=>hs _ hq (Or.inl rfl)),h.ne,Nat.lt_of_lt_of_le h.gl k.size,h.o.kept k (fun q hq hS=>hs q hS (Or.inr (h.o.2 q hq))),
  by rw[e.names];exact h0.n.kept k0,by rw[e.kinds];exact h0.k.kept k0,by rw[e.withs];exact h0.h.kept k0⟩
theorem Q8l (k:Int):∃c,Q1u k=c∧((k==2)=true∧c=0∨(k==2)=false∧(k==3)=true∧c=0∨(k==2)=false∧(k==3)=false∧c=1):=by
 unfold Q1u
 by_cases h2:k=2
 ·exact⟨0,by rw[Ps (.inl h2)],.inl ⟨by simpa using h2,rfl⟩⟩
 by_cases h3:k=3
 ·exact⟨0,by rw[Ps (.inr h3)],.inr (.inl ⟨by simpa using h2,by simpa using h3,rfl⟩)⟩
 exact⟨1,by rw[Ng (by omega)],.inr (.inr ⟨by simpa using h2,by simpa using h3,rfl⟩)⟩
end Go.Proofs.YtkgkafjachjafaaGreat
