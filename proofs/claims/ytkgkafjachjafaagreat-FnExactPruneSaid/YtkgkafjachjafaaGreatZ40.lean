/- Part 40 of x_holds; no condition. -/
import Derived.Deep.RegionHeld3
import Derived.Deep.DeepCutAuto
import Derived.Test.YtkgkafjachjafaaGreatZ16
import Derived.Test.YtkgkafjachjafaaGreatZ33
import Derived.Test.YtkgkafjachjafaaGreatZ37
import Derived.Test.YtkgkafjachjafaaGreatZ39
set_option linter.unusedVariables false
set_option maxHeartbeats 4000000
set_option maxRecDepth 100000
open Go Go.RowKit
namespace Go.Proofs.YtkgkafjachjafaaGreat
open Tryz
theorem Q9p (p:Int→Bool) (l:List Int):Q3c p (l.take (Q3c p l))=Q3c p l:=by
 induction l with
 |nil=>rfl
 |cons y ys ih =>
  simp only[Q3c];split
  ·rename_i h
   rw[List.take_succ_cons];simp only[Q3c,h,if_true,ih]
  ·rfl
theorem Q8x (s:ByteArray) (i j:Nat) (h:j≤s.size):(s.extract i j).size=j-i:=by
 rw[← Z2,Y8,List.length_take,List.length_drop,Z2];omega
theorem Qju (s:ByteArray) (h:0<s.size):Q9c s=Q28 s 0:=by
 have:=Q1c s 0 h;unfold Q9c;rw[Q3l h];cases hb:J5 s with
 |nil=>rw[hb] at this;cases this
 |cons x xs=>rw[hb] at this;simp at this;exact this
theorem Qgr (s:ByteArray) {d:Nat} (hd:d=Jq Qg s 0) (h0:1≤d) (hs:d≤s.size):Ya (s.extract 0 d) 9=(decide (d≤9)&&(decide (d=1) ||decide (Q28 s 0≠48))):=by
 have h1:(s.extract 0 d).size=d:=by rw[Q8x s 0 d hs];omega
 have h2:Jq Qg (s.extract 0 d) 0=d:=by
  have e:d=Q3c Qg (J5 s):=by rw[hd];simp[Jq]
  have:J5 (s.extract 0 d)=(J5 s).take d:=by rw[Y8];simp
  show 0+Q3c Qg ((J5 (s.extract 0 d)).drop 0)=d
  rw[List.drop_zero,Nat.zero_add,this,e,Q9p]
 have h3:Q9c (s.extract 0 d)=Q28 s 0:=by
  have:J5 (s.extract 0 d)=(J5 s).take d:=by rw[Y8];simp
  have hb:=Qju s (by omega);rw[← hb];unfold Q9c;rw[this];cases hx:J5 s with
  |nil=>simp
  |cons x xs=>obtain⟨m,rfl⟩:∃m,d=m+1:=⟨d-1,by omega⟩;rfl
 unfold Ya;rw[h1,h2,h3];unfold Ya.withinBs;have e1:decide ((1:Int)≤(d:Int))=true:=Dt (by omega);have e2:decide ((d:Int)≤9)=decide (d≤9):=by apply decide_eq_decide.2;omega
 rw[e1,e2];simp
theorem Qi4 (s:ByteArray) (d:Nat) (h:d+1≤s.size):Jq Qg (s.extract (d+1) s.size) 0=Jq Qg s (d+1)-(d+1):=by
 have:J5 (s.extract (d+1) s.size)=(J5 s).drop (d+1):=by
  rw[Y8,List.take_of_length_le (by rw[List.length_drop,Z2];omega)]
 unfold Jq;rw[List.drop_zero,Nat.zero_add,this];omega
theorem Qla (s:ByteArray):Q14 s=Q1n s:=by
 unfold Q14 Q1n Yy;have hle:=Q57 Qg s 0 (by omega);generalize hd:Jq Qg s 0=d at *
 by_cases h1:d<s.size
 ·rw[dif_pos h1]
  by_cases h2:1≤d
  ·rw[Qgr s hd.symm h2 hle,Q8x s (d+1) s.size (Nat.le_refl _),Qi4 s d (by omega),Q3l h1]
   have h3:=Q57 Qg s (d+1) (by omega);have h4:d+1≤Jq Qg s (d+1):=by unfold Jq;omega
   generalize Jq Qg s (d+1)=e at *
   by_cases c1:d≤9
   ·rw[Ps ⟨h2,c1⟩,Ng (show ¬ s.size≤d by omega)]
    by_cases c2:1<d∧Q28 s 0=48
    ·rw[Ps c2,Ng (fun h=>by have:=h.2.1;simp[c2.2] at this;omega)];rfl
    ·rw[Ng c2]
     by_cases c3:((s[d]'h1).toNat:Int)=46
     ·rw[Ng (show ¬ ((s[d]'h1).toNat:Int)≠46 by simpa using c3)]
      have hp:(decide (d≤9)&&(decide (d=1) ||decide (Q28 s 0≠48)))=true:=by
       by_cases c4:d=1
       ·simp[c4]
       ·have:Q28 s 0≠48:=fun h=>c2 ⟨by omega,h⟩
        simp[c1,this]
      by_cases c5:e=s.size∧d+2≤s.size∧s.size≤d+7
      ·rw[Ps ⟨c3,hp,by omega,by omega,by omega⟩];simp[c5.1,c5.2.1,c5.2.2]
      ·rw[Ng (fun h=>c5 ⟨by have:=h.2.2.2.2;omega,by have:=h.2.2.1;omega,by have:=h.2.2.2.1;omega⟩)]
       show _=false
       rcases Bool.eq_false_or_eq_true (decide (e=s.size)&&(decide (d+2≤s.size)&&decide (s.size≤d+7))) with h|h
       ·simp at h;exact absurd h c5
       ·exact h
     ·rw[Ps (show ((s[d]'h1).toNat:Int)≠46 from c3),Ng (fun h=>c3 h.1)];rfl
   ·rw[Ng (fun h=>c1 h.2),Ng (fun h=>by have:=h.2.1;simp at this;omega)];rfl
  ·rw[Ng (fun h=>h2 h.1)]
   have h0:d=0:=by omega
   subst h0
   rw[Ng (fun h=>by
    have:=h.2.1;unfold Ya at this;have e:(s.extract 0 0).size=0:=by rw[Q8x s 0 0 (by omega)]
    rw[e] at this;simp[Ya.withinBs] at this)]
   rfl
 ·rw[dif_neg h1,Ps (show s.size≤d by omega)]
  split
  ·split<;>rfl
  ·rfl
def Xm (seen:List Bool) (i:Int):Bool:=(seen[i.toNat]?).getD false
def Ja (class_ kind:Int):Bool:=if class_=10 then kind==7 else (Y3 kind==class_&&class_ != 0)
def Q4b (n:Qc) (class_:Int):Bool:=Ja class_ n.kind&&(((Ym n.kind n.kids.length).length:Int)==(n.kids.length:Int))&&Q2c n
def Zy (F:Int→Int→Int→List Bool→Int×Bool×List Bool) (i:Int):List (Int×Int)→Int→List Bool→Int×Bool×List Bool
 |[],next,seen=>(next,true,seen)
 |(k,c)::l,next,seen=>if i≤k then (0,false,seen) else if (F k c next seen).2.1 then Zy F i l (F k c next seen).1 (F k c next seen).2.2 else (0,false,(F k c next seen).2.2)
def Q22 (i:Int) (r:Int×Bool×List Bool):Int×Bool×List Bool:=if r.2.1 then (r.1+1,r.1==i,r.2.2) else (0,false,r.2.2)
def Q3b (n:Qc):List (Int×Int):=n.kids.zip (Ym n.kind n.kids.length)
def Ju (t:Q1):Nat→Int→Int→Int→List Bool→Int×Bool×List Bool
 |0,_,_,_,seen=>(0,false,seen)
 |f+1,i,class_,next,seen =>
  if (0≤i∧i<t.nodes.length)∧Xm seen i=false then
   if Q4b (t.at i) class_=true then
    Q22 i (Zy (Ju t f) i (Q3b (t.at i)) next (seen.set i.toNat true))
   else (0,false,seen.set i.toNat true)
  else (0,false,seen)
theorem Qc3 (F:Int→Int→Int→List Bool→Int×Bool×List Bool) (hF:∀k c n s,(F k c n s).2.2.length=s.length) (i:Int) (l:List (Int×Int)) (next:Int) (seen:List Bool):(Zy F i l next seen).2.2.length=seen.length:=by
 induction l generalizing next seen with
 |nil=>rfl
 |cons p l ih =>
  obtain⟨k,c⟩:=p;simp only[Zy];split;· rfl
  split
  ·rw[ih,hF]
  ·exact hF _ _ _ _
theorem Q6l (i:Int) (r:Int×Bool×List Bool):(Q22 i r).2.2=r.2.2:=by unfold Q22;split<;>rfl
theorem Qat (t:Q1) (f:Nat):∀i c n s,(Ju t f i c n s).2.2.length=s.length:=by
 induction f with
 |zero=>intro i c n s;rfl
 |succ f ih =>
  intro i c n s;simp only[Ju];split
  ·split
   ·rw[Q6l,Qc3 _ ih];simp
   ·simp
  ·rfl
theorem Q7q {t:Q1} {f:Nat} {i c n:Int} {s:List Bool} (h:(Ju t f i c n s).2.1=true):0≤i∧i<t.nodes.length∧(Ju t f i c n s).1=i+1:=by
 cases f with
 |zero=>cases h
 |succ f =>
  simp only[Ju] at h ⊢;split at h
  ·rename_i h1
   rw[Ps h1];split at h
   ·rename_i h2
    rw[Ps h2];unfold Q22 at h ⊢;split at h
    ·rename_i h3
     rw[Ps h3];refine⟨h1.1.1,h1.1.2,?_⟩;have:(Zy (Ju t f) i (Q3b (t.at i)) n (s.set i.toNat true)).1=i:=by simpa using h
     show (Zy (Ju t f) i (Q3b (t.at i)) n (s.set i.toNat true)).1+1=i+1
     rw[this]
    ·cases h
   ·cases h
  ·cases h
def Q2a (t:Q1):List Int→Int→List Bool→Bool
 |[],next,_=>next==(t.nodes.length:Int)
 |i::l,next,seen=>if (Ju t (i.toNat+1) i 9 next seen).2.1 then Q2a t l (Ju t (i.toNat+1) i 9 next seen).1 (Ju t (i.toNat+1) i 9 next seen).2.2 else false
def Q68 (t:Q1):Bool:=decide (t.nodes.length≤4000)&&(decide (t.tops.length≤4000)&&Q2a t t.tops 0 (List.replicate t.nodes.length false))
def Q2q (F:Int→Int→Int→Option Int) (i:Int):List (Int×Int)→Int→Option Int
 |[],next=>some next
 |(k,c)::l,next=>if i≤k then none else match F k c next with
  |none=>none
  |some n=>Q2q F i l n
def Qci (i:Int):Option Int→Option Int
 |none=>none
 |some m=>if m=i then some (i+1) else none
def okS (t:Q1):Nat→Int→Int→Int→Option Int
 |0,_,_,_=>none
 |f+1,i,class_,next =>
  if 0≤i∧i<t.nodes.length then (if Q4b (t.at i) class_=true then Qci i (Q2q (okS t f) i (Q3b (t.at i)) next) else none) else none
theorem Q43 {i m:Int} {o:Option Int} (h:Qci i o=some m):m=i+1∧o=some i:=by
 cases o with
 |none=>cases h
 |some x =>
  simp only[Qci] at h;split at h
  ·rename_i e;cases h;exact⟨rfl,by rw[e]⟩
  ·cases h
theorem Q7c {F:Int→Int→Int→Option Int} (hF:∀k c n m,F k c n=some m→n≤m) {i:Int}:∀(l:List (Int×Int)) (n m:Int),Q2q F i l n=some m→n≤m:=by
 intro l
 induction l with
 |nil=>intro n m h;cases h;omega
 |cons p l ih =>
  obtain⟨k,c⟩:=p;intro n m h;simp only[Q2q] at h;split at h
  ·cases h
  ·cases hf:F k c n with
   |none=>rw[hf] at h;cases h
   |some x=>rw[hf] at h;have:=hF _ _ _ _ hf;have:=ih _ _ h;omega
theorem Qjt (t:Q1):∀(f:Nat) (i c n m:Int),okS t f i c n=some m→n≤m:=by
 intro f
 induction f with
 |zero=>intro i c n m h;cases h
 |succ f ih =>
  intro i c n m h;simp only[okS] at h;split at h
  ·split at h
   ·obtain⟨rfl,h2⟩:=Q43 h
    have:=Q7c ih _ _ _ h2;omega
   ·cases h
  ·cases h
theorem Q6q {t:Q1} {f:Nat} {i c n m:Int} (h:okS t f i c n=some m):0≤i∧i<t.nodes.length∧m=i+1∧n≤i∧Q4b (t.at i) c=true:=by
 cases f with
 |zero=>cases h
 |succ f =>
  simp only[okS] at h;split at h
  ·rename_i h1
   split at h
   ·rename_i h2
    obtain⟨rfl,h3⟩:=Q43 h;exact⟨h1.1,h1.2,rfl,Q7c (Qjt t f) _ _ _ h3,h2⟩
   ·cases h
  ·cases h
theorem Q4x {s:List Bool} {i j:Int} (hi:0≤i) (hj:0≤j) (hn:i≠j):Xm (s.set i.toNat true) j=Xm s j:=by
 unfold Xm;rw[List.getElem?_set_ne (by omega)]
theorem Q97 {F:Int→Int→Int→List Bool→Int×Bool×List Bool} (hF:∀k c n s j,0≤j→k<j→Xm (F k c n s).2.2 j=Xm s j) {i:Int}:∀(l:List (Int×Int)) (n:Int) (s:List Bool) (j:Int),0≤j→i≤j→Xm (Zy F i l n s).2.2 j=Xm s j:=by
 intro l
 induction l with
 |nil=>intro n s j _ _;rfl
 |cons p l ih =>
  obtain⟨k,c⟩:=p;intro n s j h0 hj;simp only[Zy];split;· rfl
  split
  ·rw[ih _ _ _ h0 hj,hF _ _ _ _ _ h0 (by omega)]
  ·exact hF _ _ _ _ _ h0 (by omega)
theorem Q7r (t:Q1):∀(f:Nat) (i c n:Int) (s:List Bool) (j:Int),0≤j→i<j→Xm (Ju t f i c n s).2.2 j=Xm s j:=by
 intro f
 induction f with
 |zero=>intro i c n s j _ _;rfl
 |succ f ih =>
  intro i c n s j h0 hj;simp only[Ju];split
  ·rename_i h
   split
   ·rw[Q6l,Q97 ih _ _ _ _ h0 (by omega),Q4x h.1.1 h0 (by omega)]
   ·exact Q4x h.1.1 h0 (by omega)
  ·rfl
def Like (r:Int×Bool×List Bool) (o:Option Int):Prop:=(o=none→r.2.1=false)∧∀m,o=some m→r.2.1=true∧r.1=m
theorem Qkr (t:Q1):∀(f:Nat) (i c n:Int) (s:List Bool),0≤n→(∀j,n≤j→j≤i→Xm s j=false)→Like (Ju t f i c n s) (okS t f i c n):=by
 intro f
 induction f with
 |zero=>intro i c n s _ _;exact⟨fun _=>rfl,fun m h=>by cases h⟩
 |succ f ih =>
  intro i c n s hn hs
  have kids:∀(l:List (Int×Int)) (n:Int) (s:List Bool),0≤n→(∀j,n≤j→j<i→Xm s j=false)→Like (Zy (Ju t f) i l n s) (Q2q (okS t f) i l n):=by
   intro l
   induction l with
   |nil=>intro n s _ _;exact⟨(by intro h;cases h),(by intro m h;cases h;exact⟨rfl,rfl⟩)⟩
   |cons p l ihl =>
    obtain⟨k,c⟩:=p;intro n s hn hs;simp only[Zy,Q2q]
    by_cases hk:i≤k
    ·rw[Ps hk,Ps hk];exact⟨fun _=>rfl,fun m h=>by cases h⟩
    ·rw[Ng hk,Ng hk]
     obtain⟨h1,h2⟩:=ih k c n s hn (fun j a b=>hs j a (by omega));cases ho:okS t f k c n with
     |none =>
      rw[h1 ho,Ng (by simp)];exact⟨fun _=>rfl,fun m h=>by cases h⟩
     |some m =>
      obtain⟨g1,g2⟩:=h2 m ho;obtain⟨e0,_,e1,e2,_⟩:=Q6q ho;rw[Ps g1,g2];exact ihl m _ (by omega) (fun j a b=>by rw[Q7r t f k c n s j (by omega) (by omega)];exact hs j (by omega) b)
  simp only[Ju,okS]
  by_cases hi:0≤i∧i<t.nodes.length
  ·rw[Ps hi]
   cases hg:Xm s i with
   |true =>
    rw[Ng (fun h=>by cases h.2)]
    refine⟨fun _=>rfl,fun m h=>?_⟩
    exfalso;split at h
    ·obtain⟨_,h2⟩:=Q43 h
     have:=Q7c (Qjt t f) _ _ _ h2;rw[hs i this (Int.le_refl _)] at hg;cases hg
    ·cases h
   |false =>
    rw[Ps ⟨hi,rfl⟩]
    by_cases hl:Q4b (t.at i) c=true
    ·rw[Ps hl,Ps hl]
     obtain⟨h1,h2⟩:=kids (Q3b (t.at i)) n (s.set i.toNat true) hn (fun j a b=>by rw[Q4x hi.1 (by omega) (by omega)];exact hs j a (by omega));unfold Q22;cases ho:Q2q (okS t f) i (Q3b (t.at i)) n with
     |none=>rw[h1 ho,Ng (by simp)];exact⟨fun _=>rfl,fun m h=>by cases h⟩
     |some m =>
      obtain⟨g1,g2⟩:=h2 m ho;rw[Ps g1,g2];simp only[Qci]
      by_cases e:m=i
      ·rw[Ps e];exact⟨(by intro h;cases h),(by intro x h;cases h;exact⟨by simpa using e,by rw[e]⟩)⟩
      ·rw[Ng e];exact⟨fun _=>by simpa using e,fun x h=>by cases h⟩
    ·rw[Ng hl,Ng hl];exact⟨fun _=>rfl,fun m h=>by cases h⟩
  ·rw[Ng hi,Ng (fun h=>hi h.1)];exact⟨fun _=>rfl,fun m h=>by cases h⟩
def Q3d (t:Q1):List Int→Int→Bool
 |[],next=>next==(t.nodes.length:Int)
 |i::l,next=>match okS t (i.toNat+1) i 9 next with
  |none=>false
  |some m=>Q3d t l m
theorem Qcs (t:Q1):∀(l:List Int) (n:Int) (s:List Bool),0≤n→(∀j,n≤j→Xm s j=false)→Q2a t l n s=Q3d t l n:=by
 intro l
 induction l with
 |nil=>intro n s _ _;rfl
 |cons i l ih =>
  intro n s hn hs;obtain⟨h1,h2⟩:=Qkr t (i.toNat+1) i 9 n s hn (fun j a _=>hs j a);simp only[Q2a,Q3d];cases ho:okS t (i.toNat+1) i 9 n with
  |none=>rw[h1 ho,Ng (by simp)]
  |some m =>
   obtain⟨g1,g2⟩:=h2 m ho;obtain⟨e0,_,e1,e2,_⟩:=Q6q ho;rw[Ps g1,g2];exact ih m _ (by omega) (fun j a=>by rw[Q7r t _ i 9 n s j (by omega) (by omega)];exact hs j (by omega))
def Qbt (t:Q1) (n:Qc):Bool:=if Qs n.kind then Xb t n else if Zp n.kind then Z5 t n else Je t n
theorem Q4o:Ja 1=Qs:=by
 funext k;unfold Ja Y3;rw[Ng (by decide)];unfold Qs Q9
 by_cases h:1≤k∧k≤11
 ·rw[Ps h];simp[h.1,h.2]
 ·rw[Ng h]
  have e:(decide (1≤k)&&decide (k≤11))=false:=by simpa using h
  rw[e];split<;>(try split)<;>(try split)<;>(try split)<;>(try split)<;>(try split)<;>(try split)<;>(try split)<;>rfl
theorem Qlw:Ja 2=Zp:=by
 funext k;unfold Ja Y3;rw[Ng (by decide)];unfold Zp Q9
 by_cases h1:1≤k∧k≤11
 ·rw[Ps h1]
  have e:(decide (12≤k)&&decide (k≤26))=false:=by simp;omega
  rw[e];rfl
 rw[Ng h1]
 by_cases h:12≤k∧k≤26
 ·rw[Ps h];simp[h.1,h.2]
 ·rw[Ng h]
  have e:(decide (12≤k)&&decide (k≤26))=false:=by simpa using h
  rw[e];split<;>(try split)<;>(try split)<;>(try split)<;>(try split)<;>(try split)<;>(try split)<;>rfl
theorem Q79:Ja 3=isK 27:=by
 funext k;unfold Ja Y3;rw[Ng (by decide)];unfold isK;apply Bool.eq_iff_iff.2;simp;constructor
 ·intro h;split at h<;>(try split at h)<;>(try split at h)<;>(try split at h)<;>(try split at h)<;>(try split at h)<;>(try split at h)<;>(try split at h)<;>(try split at h)<;>omega
 ·intro h;subst h;rfl
theorem Qm2:Ja 4=isK 29:=by
 funext k;unfold Ja Y3;rw[Ng (by decide)];unfold isK;apply Bool.eq_iff_iff.2;simp;constructor
 ·intro h;split at h<;>(try split at h)<;>(try split at h)<;>(try split at h)<;>(try split at h)<;>(try split at h)<;>(try split at h)<;>(try split at h)<;>(try split at h)<;>omega
 ·intro h;subst h;rfl
theorem Qly:Ja 5=isK 30:=by
 funext k;unfold Ja Y3;rw[Ng (by decide)];unfold isK;apply Bool.eq_iff_iff.2;simp;constructor
 ·intro h;split at h<;>(try split at h)<;>(try split at h)<;>(try split at h)<;>(try split at h)<;>(try split at h)<;>(try split at h)<;>(try split at h)<;>(try split at h)<;>omega
 ·intro h;subst h;rfl
theorem Qbz:Ja 6=isK 31:=by
 funext k;unfold Ja Y3;rw[Ng (by decide)];unfold isK;apply Bool.eq_iff_iff.2;simp;constructor
 ·intro h;split at h<;>(try split at h)<;>(try split at h)<;>(try split at h)<;>(try split at h)<;>(try split at h)<;>(try split at h)<;>(try split at h)<;>(try split at h)<;>omega
 ·intro h;subst h;rfl
theorem Qm3:Ja 7=isK 32:=by
 funext k;unfold Ja Y3;rw[Ng (by decide)];unfold isK;apply Bool.eq_iff_iff.2;simp;constructor
 ·intro h;split at h<;>(try split at h)<;>(try split at h)<;>(try split at h)<;>(try split at h)<;>(try split at h)<;>(try split at h)<;>(try split at h)<;>(try split at h)<;>omega
 ·intro h;subst h;rfl
theorem Qm1:Ja 8=isK 28:=by
 funext k;unfold Ja Y3;rw[Ng (by decide)];unfold isK;apply Bool.eq_iff_iff.2;simp;constructor
 ·intro h;split at h<;>(try split at h)<;>(try split at h)<;>(try split at h)<;>(try split at h)<;>(try split at h)<;>(try split at h)<;>(try split at h)<;>(try split at h)<;>omega
 ·intro h;subst h;rfl
theorem Qlh:Ja 10=isK 7:=by funext k;rfl
theorem Qk8 {k:Int}:Ja 9 k=true↔k=33∨k=34:=by
 unfold Ja Y3;rw[Ng (by decide)];simp;constructor
 ·intro h;split at h<;>(try split at h)<;>(try split at h)<;>(try split at h)<;>(try split at h)<;>(try split at h)<;>(try split at h)<;>(try split at h)<;>(try split at h)<;>omega
 ·intro h;rcases h with rfl|rfl<;>rfl
theorem Q7f {c k:Int} (h:Ja c k=true):1≤k∧k≤34:=by
 unfold Ja at h;split at h
 ·simp at h;omega
 ·simp only[Bool.and_eq_true,beq_iff_eq,bne_iff_ne] at h
  obtain⟨h1,h2⟩:=h;unfold Y3 at h1;split at h1;· omega
  split at h1;· omega
  split at h1;· omega
  split at h1;· omega
  split at h1;· omega
  split at h1;· omega
  split at h1;· omega
  split at h1;· omega
  split at h1
  ·omega
  ·omega
def Q6o (t:Q1) (l cs:List Int):Bool:=(((cs.length:Int)==(l.length:Int))&&(l.zip cs).all fun p=>Ja p.2 (t.at p.1).kind)
theorem Xk (t:Q1) (l cs:List Int):Qo t l (cs.map Ja)=Q6o t l cs:=by
 unfold Q6o
 induction l generalizing cs with
 |nil=>cases cs with
  |nil=>rfl
  |cons c cs=>simp only[List.map_cons,Qo,List.length_cons,List.length_nil,List.zip_nil_left,List.all_nil,Bool.and_true];symm;rw[beq_eq_false_iff_ne];omega
 |cons k ks ih =>
  cases cs with
  |nil=>simp only[List.map_nil,Qo,List.length_nil,List.length_cons,List.zip_nil_right,List.all_nil,Bool.and_true];symm;rw[beq_eq_false_iff_ne];omega
  |cons c cs =>
   simp only[List.map_cons,Qo,ih,List.length_cons,List.zip_cons_cons,List.all_cons]
   have e:(((cs.length+1:Nat):Int)==((ks.length+1:Nat):Int))=((cs.length:Int)==(ks.length:Int)):=by
    apply Bool.eq_iff_iff.2;simp only[beq_iff_eq];omega
   rw[e];cases Ja c (t.at k).kind<;>simp
theorem Q44 (t:Q1) (l:List Int) (c:Int):Q1t t l (Ja c)=Q6o t l (List.replicate l.length c):=by
 rw[← Xk,List.map_replicate];unfold Q1t
 induction l with
 |nil=>rfl
 |cons k ks ih=>simp only[List.all_cons,List.length_cons,List.replicate_succ,Qo,ih]
theorem Q8a (t:Q1) (l:List Int):l.isEmpty=Q6o t l []:=by
 rw[← Xk];cases l<;>rfl
theorem Q6k {t:Q1} {l cs:List Int} (h:cs.length≠l.length):Q6o t l cs=false:=by
 unfold Q6o;have:(((cs.length:Int)==(l.length:Int)))=false:=by rw[beq_eq_false_iff_ne];omega
 rw[this];rfl
theorem Qjv (t:Q1) (k c:Int) (l cs:List Int):Q6o t (k::l) (c::cs)=(Ja c (t.at k).kind&&Q6o t l cs):=by rw[← Xk,← Xk];rfl
theorem Qk7 (t:Q1) (k c:Int) (l cs:List Int) (h:cs.length=l.length):Q6o t (l++[k]) (cs++[c])=(Q6o t l cs&&Ja c (t.at k).kind):=by
 unfold Q6o;rw[List.zip_append h.symm,List.all_append,List.length_append,List.length_append,h];simp
theorem Qke (t:Q1) (n:Qc) (hk:1≤n.kind∧n.kind≤34):Qbt t n=Q6o t n.kids (Ym n.kind n.kids.length):=by
 obtain⟨k,s,i,l⟩:=n;dsimp only at hk ⊢;unfold Qbt;dsimp only
 by_cases c1:k≤11
 ·rw[Ps (show Qs k=true by simp[Qs,Q9];omega)]
  unfold Xb Ym;dsimp only
  by_cases a1:k=1∨k=2∨k=3∨k=4∨k=5∨k=6
  ·rw[Ps a1]
   have e:Ym k l.length=[]:=by rcases a1 with h|h|h|h|h|h<;>subst h<;>rfl
   rw[show Ym k l.length=_ from rfl] at e;unfold Ym at e;rw[e];exact Q8a t l
  rw[Ng a1]
  by_cases a7:k=7
  ·rw[Ps a7,Ps a7,← Q4o];exact Q44 t l 1
  rw[Ng a7,Ng a7]
  by_cases a8:k=8∨k=10
  ·rw[Ps a8,Ps a8,← Q4o];exact Xk t l [1,1]
  rw[Ng a8,Ng a8]
  by_cases a9:k=9
  ·rw[Ps a9,Ps (.inl a9),← Q4o];exact Xk t l [1]
  rw[Ng a9,Ng (show ¬ (k=9∨k=12∨k=13∨k=14∨k=15∨k=19∨k=23∨k=26∨k=28) by omega),Ps (show k=11 by omega),← Q4o,← Qbz]
  match l with
  |[]=>rw[Q6k (by simp)]
  |[x]=>rw[Q6k (by simp)]
  |x::y::r =>
   show (Ja 1 (t.at x).kind&&Q1t t (y::r) (Ja 6))=Q6o t (x::y::r) (1::6::List.replicate ((r.length+1+1)-2) 6)
   rw[Qjv,Q44];rfl
 rw[Ng (show ¬ Qs k=true by simp[Qs,Q9];omega)]
 by_cases c2:k≤26
 ·rw[Ps (show Zp k=true by simp[Zp,Q9];omega)]
  unfold Z5 Ym;dsimp only;rw[Ng (show ¬ k=7 by omega),Ng (show ¬ (k=8∨k=10) by omega)]
  by_cases a1:k=12∨k=13∨k=14∨k=15∨k=19∨k=23∨k=26
  ·rw[Ps a1,Ps (show (k=9∨k=12∨k=13∨k=14∨k=15∨k=19∨k=23∨k=26∨k=28) by omega),← Q4o];exact Xk t l [1]
  rw[Ng a1,Ng (show ¬ (k=9∨k=12∨k=13∨k=14∨k=15∨k=19∨k=23∨k=26∨k=28) by omega),Ng (show ¬ k=11 by omega)]
  by_cases a16:k=16
  ·rw[Ps a16,Ps a16,← Q4o,← Q79]
   rw[show ([Ja 1,Ja 3]:List (Int→Bool))=[1,3].map Ja from rfl,show ([Ja 1,Ja 3,Ja 3]:List (Int→Bool))=[1,3,3].map Ja from rfl,Xk,Xk]
   by_cases h3:l.length=3
   ·rw[Ps h3,Q6k (cs:=[1,3]) (by rw[h3];decide),Bool.false_or]
   ·rw[Ng h3,Q6k (cs:=[1,3,3]) (fun h=>h3 h.symm),Bool.or_false]
  rw[Ng a16,Ng a16]
  by_cases a17:k=17
  ·rw[Ps a17,Ps a17,← Q4o,← Q79];exact Xk t l [1,3]
  rw[Ng a17,Ng a17]
  by_cases a18:k=18
  ·rw[Ps a18,Ps a18,← Q79,← Qm2,← Qly];exact Xk t l [4,5,3]
  rw[Ng a18,Ng a18]
  by_cases a20:k=20
  ·rw[Ps a20,Ps a20,← Q79,← Qbz];exact Xk t l [6,3]
  rw[Ng a20,Ng a20]
  by_cases a21:k=21
  ·rw[Ps a21,Ps a21,← Qm1];exact Q44 t l 8
  rw[Ng a21,Ng a21]
  by_cases a25:k=25
  ·rw[Ps a25,Ps a25,← Qlh];exact Xk t l [10]
  rw[Ng a25,Ng a25,Ng (show ¬ k=27 by omega),Ng (show ¬ k=29 by omega),Ng (show ¬ k=30 by omega),Ng (show ¬ k=33 by omega),Ng (show ¬ k=34 by omega)];exact Q8a t l
 rw[Ng (show ¬ Zp k=true by simp[Zp,Q9];omega)];unfold Je Ym;dsimp only;rw[Ng (show ¬ k=7 by omega),Ng (show ¬ (k=8∨k=10) by omega)]
 by_cases a28:k=28
 ·rw[Ng (show ¬ k=27 by omega),Ps a28,Ps (show (k=9∨k=12∨k=13∨k=14∨k=15∨k=19∨k=23∨k=26∨k=28) by omega),← Q4o];exact Xk t l [1]
 rw[Ng a28,Ng (show ¬ (k=9∨k=12∨k=13∨k=14∨k=15∨k=19∨k=23∨k=26∨k=28) by omega),Ng (show ¬ k=11 by omega),Ng (show ¬ k=16 by omega),Ng (show ¬ k=17 by omega),Ng (show ¬ k=18 by omega),Ng (show ¬ k=20 by omega),Ng (show ¬ k=21 by omega),Ng (show ¬ k=25 by omega)]
 by_cases a27:k=27
 ·rw[Ps a27,Ps a27,← Qlw];exact Q44 t l 2
 rw[Ng a27,Ng a27]
 by_cases a29:k=29
 ·rw[Ps a29,Ps a29,← Qbz]
  cases l with
  |nil=>rw[Q6k (by simp)];rfl
  |cons x r=>rw[Q44];rfl
 rw[Ng a29,Ng a29]
 by_cases a30:k=30
 ·rw[Ps a30,Ps a30,← Qbz];exact Q44 t l 6
 rw[Ng a30,Ng a30]
 by_cases a31:k=31∨k=32
 ·rw[Ps a31,Ng (show ¬ k=33 by omega),Ng (show ¬ k=34 by omega)];exact Q8a t l
 rw[Ng a31]
 by_cases a33:k=33
 ·rw[Ps a33,Ps a33,← Qm3,← Q79]
  cases hg:l.getLast? with
  |none =>
   have:l=[]:=by simpa using hg
   subst this;rfl
  |some b =>
   dsimp only;have hne:l≠[]:=by intro h9;rw[h9] at hg;cases hg
   have hl:l=l.dropLast++[b]:=by
    have h9:=hg;rw[List.getLast?_eq_some_getLast hne] at h9;cases h9;exact (List.dropLast_concat_getLast hne).symm
   have e:=Qk7 t b 3 l.dropLast (List.replicate (l.length-1) 7) (by simp);rw[← hl] at e;rw[e,Q44];simp
 rw[Ng a33,Ng a33,Ps (show k=34 by omega),Ps (show k=34 by omega),← Q79];exact Xk t l [3]
theorem Qma (n:Qc):Q2c n=(Yq n&&Xn n):=by
 unfold Q2c
 by_cases h:n.kind=2
 ·rw[Ps h,Qla]
  unfold Yq Xn;rw[Ps h,Ng (by omega),Ng (by omega),Ng (by omega),Ng (by omega),Ng (by omega)]
 ·rw[Ng h]
theorem Qcc {n:Qc} {c:Int} (t:Q1):(Q4b n c&&(Q3b n).all fun p=>Ja p.2 (t.at p.1).kind)=(Ja c n.kind&&((Yq n&&Xn n)&&Qbt t n)):=by
 unfold Q4b;rw[Qma];cases hr:Ja c n.kind with
 |false=>simp
 |true =>
  rw[Qke t n (Q7f hr)];unfold Q6o Q3b;cases (((Ym n.kind n.kids.length).length:Int)==(n.kids.length:Int))<;>cases (Yq n&&Xn n)<;>simp
theorem Q56 {n:Qc} {c:Int} (h:Q4b n c=true):(Q3b n).map Prod.fst=n.kids:=by
 unfold Q4b at h;simp only[Bool.and_eq_true,beq_iff_eq] at h;unfold Q3b;exact List.map_fst_zip (by omega)
theorem Qh9 {t:Q1} {i:Int} {c:Int} (h:Q4b (t.at i) c=true) (hk:∀p∈Q3b (t.at i),(0≤p.1∧p.1<i)∧Ja p.2 (t.at p.1).kind=true):Yb t i (t.at i)=true:=by
 have e:=Qcc (n:=t.at i) (c:=c) t;have ha:((Q3b (t.at i)).all fun p=>Ja p.2 (t.at p.1).kind)=true:=by rw[List.all_eq_true];exact fun p hp=>(hk p hp).2
 rw[h,ha] at e;simp only[Bool.and_self] at e;have e2:=e.symm;simp only[Bool.and_eq_true] at e2;obtain⟨_,e3,e4⟩:=e2;unfold Yb;simp only[Bool.and_eq_true];refine⟨⟨?_,e3⟩,e4⟩;rw[← Q56 h,List.all_eq_true];intro x hx;obtain⟨p,hp,rfl⟩:=List.mem_map.1 hx;have:=(hk p hp).1;simp[Q9];omega
theorem Qjr {t:Q1} {i:Int} {c:Int} (h:Yb t i (t.at i)=true) (hc:Ja c (t.at i).kind=true):Q4b (t.at i) c=true∧∀p∈Q3b (t.at i),(0≤p.1∧p.1<i)∧Ja p.2 (t.at p.1).kind=true:=by
 unfold Yb at h;simp only[Bool.and_eq_true] at h;obtain⟨⟨h1,h2⟩,h3⟩:=h;have e:=Qcc (n:=t.at i) (c:=c) t;have h4:Qbt t (t.at i)=true:=h3;have h5:(Yq (t.at i)&&Xn (t.at i))=true:=by simp[h2.1,h2.2]
 rw[hc,h4,h5] at e;have e2:(Q4b (t.at i) c&&(Q3b (t.at i)).all fun p=>Ja p.2 (t.at p.1).kind)=true:=e;simp only[Bool.and_eq_true] at e2
 refine⟨e2.1,fun p hp=>⟨?_,List.all_eq_true.1 e2.2 p hp⟩⟩
 have:p.1∈(t.at i).kids:=by rw[← Q56 e2.1];exact List.mem_map.2 ⟨p,hp,rfl⟩
 have:=List.all_eq_true.1 h1 _ this;simp[Q9] at this;omega
def Q33 (t:Q1) (f:Nat) (l:List Int) (n:Int):Int:=l.foldl (fun m k=>if m<0 then -1 else Qr t f k m) n
theorem Qb7 (t:Q1):∀(f:Nat) (i c n m:Int),0≤n→okS t f i c n=some m→Qr t f i n=m∧∀j,n≤j→j≤i→Yb t j (t.at j)=true:=by
 intro f
 induction f with
 |zero=>intro i c n m _ h;cases h
 |succ f ih =>
  intro i c n m hn h
  have kids:∀(l:List (Int×Int)) (n m:Int),0≤n→Q2q (okS t f) i l n=some m→Q33 t f (l.map Prod.fst) n=m∧(∀p∈l,(0≤p.1∧p.1<i)∧Ja p.2 (t.at p.1).kind=true)∧∀j,n≤j→j<m→Yb t j (t.at j)=true:=by
   intro l
   induction l with
   |nil=>intro n m hn h;cases h;exact⟨rfl,by simp,fun j a b=>by omega⟩
   |cons p l ihl =>
    obtain⟨k,c⟩:=p;intro n m hn h;simp only[Q2q] at h
    by_cases hk:i≤k
    ·rw[Ps hk] at h;cases h
    rw[Ng hk] at h;cases ho:okS t f k c n with
    |none=>rw[ho] at h;cases h
    |some x =>
     rw[ho] at h;obtain⟨e0,_,e1,e2,e3⟩:=Q6q ho;obtain⟨g1,g2⟩:=ih k c n x hn ho;obtain⟨q1,q2,q3⟩:=ihl x m (by omega) h;refine⟨?_,?_,?_⟩
     ·show Q33 t f (l.map Prod.fst) (if n<0 then -1 else Qr t f k n)=m
      rw[Ng (by omega),g1];exact q1
     ·intro p hp
      rcases List.mem_cons.1 hp with rfl|hp
      ·refine⟨⟨e0,by dsimp only;omega⟩,?_⟩
       unfold Q4b at e3;simp only[Bool.and_eq_true] at e3;exact e3.1.1
      ·exact q2 p hp
     ·intro j a b
      by_cases hj:j≤k
      ·exact g2 j a hj
      ·exact q3 j (by omega) b
  simp only[okS] at h
  by_cases hi:0≤i∧i<t.nodes.length
  ·rw[Ps hi] at h
   by_cases hl:Q4b (t.at i) c=true
   ·rw[Ps hl] at h
    obtain⟨rfl,h2⟩:=Q43 h;obtain⟨q1,q2,q3⟩:=kids _ _ _ hn h2;rw[Q56 hl] at q1;refine⟨?_,?_⟩
    ·show (let m:=Q33 t f (t.at i).kids n;if m<0 then -1 else if i=m then m+1 else -1)=i+1
     dsimp only;rw[q1,Ng (by omega),Ps rfl]
    ·intro j a b
     by_cases hj:j=i
     ·subst hj;exact Qh9 hl q2
     ·exact q3 j a (by omega)
   ·rw[Ng hl] at h;cases h
  ·rw[Ng hi] at h;cases h
theorem Qau {t:Q1} (h:Qt t=true) {i:Int} (hi:InT t i):Yb t i (t.at i)=true:=by
 obtain⟨h0,h1⟩:=hi;obtain⟨m,rfl⟩:=En h0;exact List.all_eq_true.1 h m (List.mem_range.2 (by omega))
theorem Qbi {t:Q1} (hN:Qt t=true):∀(f:Nat) (i c n:Int),0≤n→InT t i→Ja c (t.at i).kind=true→0≤Qr t f i n→okS t f i c n=some (Qr t f i n):=by
 intro f
 induction f with
 |zero=>intro i c n _ _ _ h;simp[Qr] at h
 |succ f ih =>
  intro i c n hn hi hc h
  have kids:∀(l:List (Int×Int)) (n:Int),0≤n→(∀p∈l,(0≤p.1∧p.1<i)∧Ja p.2 (t.at p.1).kind=true)→0≤Q33 t f (l.map Prod.fst) n→Q2q (okS t f) i l n=some (Q33 t f (l.map Prod.fst) n):=by
   intro l
   induction l with
   |nil=>intro n _ _ _;rfl
   |cons p l ihl =>
    obtain⟨k,c⟩:=p;intro n hn hp hf;obtain⟨hk,hr⟩:=hp (k,c) (by simp);dsimp only at hk hr
    have e:Q33 t f (((k,c)::l).map Prod.fst) n=Q33 t f (l.map Prod.fst) (Qr t f k n):=by
     show Q33 t f (l.map Prod.fst) (if n<0 then -1 else Qr t f k n)=_
     rw[Ng (by omega)]
    rw[e] at hf ⊢
    have h0:0≤Qr t f k n:=by
     rcases Q36 t f k n with e2|e2
     ·rw[e2] at hf
      unfold Q33 at hf;rw[Q6n] at hf;omega
     ·omega
    simp only[Q2q];rw[Ng (by omega),ih k c n hn ⟨hk.1,by have:=hi.2;omega⟩ hr h0];exact ihl _ h0 (fun p hq=>hp p (by simp[hq])) hf
  have e:Qr t (f+1) i n=(if Q33 t f (t.at i).kids n<0 then -1 else if i=Q33 t f (t.at i).kids n then Q33 t f (t.at i).kids n+1 else -1):=rfl;obtain⟨hl,hz⟩:=Qjr (Qau hN hi) hc;have hl2:=Q56 hl;rw[e] at h ⊢;simp only[okS];rw[Ps (show 0≤i∧i<t.nodes.length from hi),Ps hl]
  by_cases h1:Q33 t f (t.at i).kids n<0
  ·rw[Ps h1] at h;omega
  by_cases h2:i=Q33 t f (t.at i).kids n
  ·rw[Ng h1,Ps h2]
   have:=kids _ n hn hz (by rw[hl2];omega);rw[hl2,← h2] at this;rw[this];simp only[Qci,if_true];rw[← h2]
  ·rw[Ng h1,Ng h2] at h;omega
theorem Qcb (t:Q1):∀(l:List Int) (n:Int),0≤n→Q3d t l n=true→Q0m t l n=some (t.nodes.length:Int)∧∀j,n≤j→j<t.nodes.length→Yb t j (t.at j)=true:=by
 intro l
 induction l with
 |nil=>intro n hn h;simp[Q3d] at h;subst h;exact⟨rfl,fun j a b=>by omega⟩
 |cons i l ih =>
  intro n hn h;simp only[Q3d] at h;cases ho:okS t (i.toNat+1) i 9 n with
  |none=>rw[ho] at h;cases h
  |some m =>
   rw[ho] at h;obtain⟨e0,e4,e1,e2,e3⟩:=Q6q ho;obtain⟨g1,g2⟩:=Qb7 t _ _ _ _ _ hn ho;obtain⟨q1,q2⟩:=ih m (by omega) h;have hk:Ja 9 (t.at i).kind=true:=by unfold Q4b at e3;simp only[Bool.and_eq_true] at e3;exact e3.1.1
   have hk:=Qk8.1 hk
   refine⟨?_,fun j a b=>?_⟩
   ·simp only[Q0m]
    rw[Ps (by simp[Q9];omega),g1,Ng (by omega)];exact q1
   ·by_cases hj:j≤i
    ·exact g2 j a hj
    ·exact q2 j (by omega) b
theorem Q4p {t:Q1} (hN:Qt t=true):∀(l:List Int) (n:Int),0≤n→Q0m t l n=some (t.nodes.length:Int)→Q3d t l n=true∧n+l.length≤t.nodes.length:=by
 intro l
 induction l with
 |nil=>intro n _ h;simp[Q0m] at h;subst h;exact⟨by simp[Q3d],by simp⟩
 |cons i l ih =>
  intro n hn h;simp only[Q0m] at h;split at h
  ·rename_i hw
   simp[Q9] at hw;split at h
   ·cases h
   ·rename_i h0
    have hi:InT t i:=⟨by omega,by omega⟩
    have hkk:Ja 9 (t.at i).kind=true:=by
     have hs:=Qau hN hi;unfold Yb at hs;simp only[Bool.and_eq_true] at hs;have h3:=hs.2;rw[Ng (by simp[Qs,Q9];omega),Ng (by simp[Zp,Q9];omega)] at h3;unfold Je at h3;rw[Ng (by omega),Ng (by omega),Ng (by omega),Ng (by omega),Ng (by omega)] at h3;apply Qk8.2
     by_cases a:(t.at i).kind=33
     ·exact .inl a
     ·rw[Ng a] at h3
      by_cases b:(t.at i).kind=34
      ·exact .inr b
      ·rw[Ng b] at h3;cases h3
    have ho:=Qbi hN (i.toNat+1) i 9 n hn hi hkk (by omega);obtain⟨e0,e4,e1,e2,e3⟩:=Q6q ho;obtain⟨q1,q2⟩:=ih _ (by omega) h;refine⟨?_,?_⟩
    ·simp only[Q3d];rw[ho];exact q1
    ·rw[List.length_cons];omega
  ·cases h
theorem Q6u (t:Q1):Q68 t=Yi t:=by
 have hs:∀j:Int,0≤j→Xm (List.replicate t.nodes.length false) j=false:=by
  intro j _;unfold Xm;cases h:(List.replicate t.nodes.length false)[j.toNat]? with
  |none=>rfl
  |some b=>have:=Mg h;simp at this;rw[this.2];rfl
 have hf:=Qcs t t.tops 0 _ (Int.le_refl 0) hs;unfold Q68 Yi;rw[hf]
 by_cases h1:t.nodes.length≤4000
 ·rw[Dt h1]
  simp only[Bool.true_and];cases ho:Q3d t t.tops 0 with
  |true =>
   obtain⟨q1,q2⟩:=Qcb t _ _ (Int.le_refl 0) ho
   have hN:Qt t=true:=by
    unfold Qt;rw[List.all_eq_true];intro j hj;exact q2 j (by omega) (by have:=List.mem_range.1 hj;omega)
   obtain⟨_,hl⟩:=Q4p hN _ _ (Int.le_refl 0) q1;rw[hN,q1];simp;omega
  |false =>
   rw[Bool.and_false];symm;cases hN:Qt t with
   |false=>rfl
   |true =>
    rw[Bool.true_and,beq_eq_false_iff_ne];intro h;have:=(Q4p hN _ _ (Int.le_refl 0) h).1;rw[this] at ho;cases ho
 ·rw[Df h1];rfl
def Q0u (l:List Bool):List Value:=l.map Value.bool
def Q6s (w:World) (sb:Nat) (r:Int×Bool×List Bool) (e:Ending) (w':World):Prop:=e=.returned (.tuple #[.int .i64 r.1,.bool r.2.1])∧Blk w' sb (Q0u r.2.2) 4∧Q0 (fun k=>k=sb) w w'
def Qjd (t:Q1) (A3 A4:Option Addr) (c3 c4 f:Nat):Prop :=
 ∀(w:World) (sb:Nat) (seen:List Bool) (i class_ next:Int),(Qm (fun k=>k=sb) w fun w=>X4 w (.slice A3 t.nodes.length c3) t.nodes)→Blk w sb (Q0u seen) 4→seen.length=t.nodes.length→i<f→0≤next→next≤t.nodes.length →
  Calls prog 106 #[.agg #[.slice A3 t.nodes.length c3,.slice A4 t.tops.length c4],.int .i64 i,.int .i64 class_,.int .i64 next,.slice (some ⟨sb,0,none⟩) t.nodes.length t.nodes.length] w (Q6s w sb (Ju t f i class_ next seen))
section
variable {t:Q1} {A3 A4:Option Addr} {c3 c4 f:Nat}
theorem Q8n (hsz:t.nodes.length≤4000) {w:World} {sb:Nat} {seen:List Bool} {i class_ next:Int} (hb:Blk w sb (Q0u seen) 4) (hi:¬ (0≤i∧i<t.nodes.length)) :
  Calls prog 106 #[.agg #[.slice A3 t.nodes.length c3,.slice A4 t.tops.length c4],.int .i64 i,.int .i64 class_,.int .i64 next,.slice (some ⟨sb,0,none⟩) t.nodes.length t.nodes.length] w (Q6s w sb (0,false,seen)):=by
 have hw1:IntKind.i64.wrap ((t.nodes.length:Int)-1)=(t.nodes.length:Int)-1:=by rw[IntKind.wrap_i64];omega
 have hw2:wrap64 ((t.nodes.length:Int)-1)=(t.nodes.length:Int)-1:=by unfold wrap64;omega
 have hwi:Q9 i 0 ((t.nodes.length:Int)-1)=false:=by
  cases h:Q9 i 0 ((t.nodes.length:Int)-1) with
  |false=>rfl
  |true=>simp[Q9] at h;omega
 have HB:=Hh hb;have HWI:=Hh hwi;clear hb hwi hi;go_enter func106,ntmps106;go_wp2_with (go_at_call 105;refine (Zh _ _ _ _).mono ?_;rw[HWI.o];rintro e w3 ⟨rfl,rfl⟩);go_returns;exact⟨rfl,HB.o.kept (S:=nob) (by repeat' first|exact Kr _ _|apply Ka|apply Kd|apply Kn) id,Q0.ofNob (by repeat' first|exact Kr _ _|apply Ka|apply Kd|apply Kn) _⟩
theorem Q7w (hsz:t.nodes.length≤4000) (hsm:Jz t) (hX:Q04 t) (hF:Qjd t A3 A4 c3 c4 f):Qjd t A3 A4 c3 c4 (f+1):=by
 intro w sb seen i class_ next hN hb Qmr hif hn0 hn1
 by_cases hi:0≤i∧i<t.nodes.length
 case neg =>
  rw[show Ju t (f+1) i class_ next seen=(0,false,seen) from by simp only[Ju];rw[Ng (fun h=>hi h.1)]];exact Q8n hsz hb hi
 obtain⟨mi,rfl,hnd⟩:=Q1.at_lt hi;have hml:(mi:Int)<t.nodes.length:=hi.2;obtain⟨sv,hsv⟩:=Q3 (xs:=seen) (j:=mi) (by omega);have hgs:Xm seen (mi:Int)=sv:=by simp[Xm,hsv]
 have hw1:IntKind.i64.wrap ((t.nodes.length:Int)-1)=(t.nodes.length:Int)-1:=by rw[IntKind.wrap_i64];omega
 have hw2:wrap64 ((t.nodes.length:Int)-1)=(t.nodes.length:Int)-1:=by unfold wrap64;omega
 have hwi:Q9 (mi:Int) 0 ((t.nodes.length:Int)-1)=true:=by simp[Q9];omega
 have HWI:=Hh hwi;have hkt:Q0 nob w (w.alloc (.cells #[.slice A3 t.nodes.length c3,.slice A4 t.tops.length c4] 33)):=(Kr _ _).alloc _;have hbt:=Blk.new w [.slice A3 t.nodes.length c3,.slice A4 t.tops.length c4] 33;have hst:(w.alloc (.cells #[.slice A3 t.nodes.length c3,.slice A4 t.tops.length c4] 33)).heap.size=w.heap.size+1:=by simp
 generalize hWT:w.alloc (.cells #[.slice A3 t.nodes.length c3,.slice A4 t.tops.length c4] 33)=WT at hkt hst;replace hbt:Blk WT w.heap.size [.slice A3 t.nodes.length c3,.slice A4 t.tops.length c4] 33:=hWT▸hbt;have hsb:=hb.lt;have hbs:=hb.kept hkt id;have g0:=hbt.cell 0 _ rfl;have e0:WT.cell? ⟨sb,mi,none⟩=some (.bool sv):=hbs.cell mi (.bool sv) (by simp[Q0u,hsv]);have e1:=hbs.free mi;have HKT:=Hh hkt;have HBT:=Hh hbt;have HBS:=Hh hbs;have HN:=Hh hN;have HF:=Hh hF;have HSV:=Hh hsv;cases sv with
 |true =>
  rw[show Ju t (f+1) (mi:Int) class_ next seen=(0,false,seen) from by simp only[Ju];rw[Ng (fun h=>by rw[hgs] at h;cases h.2)]];clear hkt hbt hb hbs hN hF hnd hi hgs hsv hwi;go_enter func106,ntmps106;go_wp2_with (go_at_call 105;refine (Zh _ _ _ _).mono ?_;rw[HWI.o];rintro e w3 ⟨rfl,rfl⟩);go_returns;exact⟨rfl,HBS.o.kept (S:=nob) (by repeat' first|exact Kr _ _|apply Ka|apply Kd|apply Kn) id,HKT.o.ofNob _⟩
 |false =>
 have hX0:Ju t (f+1) (mi:Int) class_ next seen=(if Q4b (t.at mi) class_=true then Q22 mi (Zy (Ju t f) mi (Q3b (t.at mi)) next (seen.set mi true)) else (0,false,seen.set mi true)):=by
  simp only[Ju];rw[Ps ⟨hi,hgs⟩];rfl
 generalize Ju t (f+1) (mi:Int) class_ next seen=X at hX0 ⊢;have hk1:Q0 (fun k=>k=sb) w (WT.setCell ⟨sb,mi,none⟩ (.bool true)):=Q0.setCell (S:=fun k=>k=sb) (hkt.ofNob _) (p:=⟨sb,mi,none⟩) (.inl rfl) _
 have Qvr:Blk (WT.setCell ⟨sb,mi,none⟩ (.bool true)) sb (Q0u (seen.set mi true)) 4:=by
  have:=hbs.set mi (.bool true);rwa [show (Q0u seen).set mi (.bool true)=Q0u (seen.set mi true) from by simp[Q0u,List.map_set]] at this
 have Qtk:=hbt.other (p:=⟨sb,mi,none⟩) (by show w.heap.size≠sb;omega) (.bool true);obtain⟨A,nb,no,nc,hv3,_,_,hA,hc⟩:=hN.nodes;injection hv3 with hv4 _ hv5
 subst hv4;subst hv5;obtain rfl:=hA (by omega);obtain⟨nk,Qmq,Qmk⟩:=hc mi _ hnd;obtain⟨KA,kb,ko,kc,rfl,kl,klc,hKA,hkc⟩:=Qmk.ints;have Qqo:(WT.setCell ⟨sb,mi,none⟩ (.bool true)).heap.size=w.heap.size+1:=by simp[World.setCell,hst]
 obtain⟨d0,d1,d2,d3⟩:=Qmq _ hk1;have g0':=Qtk.cell 0 _ rfl;have HX1:=Hh (hX _ (Mg hnd));have hkm:(t.at mi).kids.length≤1048576:=hsm mi;clear Qmq Qmk hc hA hnd hgs hsv hbt hb hbs hN hkt hi hwi;generalize t.at (mi:Int)=n at *;have HXX:=Hh hX0;have HK1:=Hh hk1;have Qxu:=Hh Qvr;have Qxv:=Hh Qtk;have HKC:=Hh hkc;have HKA:=Hh hKA;clear hk1 Qvr Qtk hkc hKA hF hX0;go_enter func106,ntmps106;go_upto_region 4 with (go_at_call 105;refine (Zh _ _ _ _).mono ?_;rw[HWI.o];rintro e w3 ⟨rfl,rfl⟩)
 generalize hW1:WT.setCell ⟨sb,mi,none⟩ (.bool true)=W1 at *;go_cut [12] (fun s12 wx=>∃p:Nat,s12=.pointer (some ⟨p,0,none⟩)∧Blk wx p [.int .i64 n.kind,.string n.text,.int .i64 n.i,.slice KA n.kids.length kc] 70∧Q0 nob W1 wx∧w.heap.size<p)
 case first =>
  go_wp2_with fail;go_meet;exact⟨_,rfl,Blk.new_of _ [_,_,_,_] _ Qqo.symm,(Kr _ _).alloc _,by omega⟩
 case rest =>
 obtain⟨p,rfl,hb,hkx,hpl⟩:=hcut;obtain⟨wo,rfl⟩:∃wo:World,wo=wc:=⟨_,rfl⟩;have HKX:=Hh hkx;have y0:=hb.cell 0 _ rfl;have y1:=hb.cell 1 _ rfl;have y2:=hb.cell 2 _ rfl;have y3:=hb.cell 3 _ rfl;have HB:=Hh hb;clear hb hkx d0 d1 d2 d3 g0 g0' e0 e1 hW1;go_upto_region 5 with fail
 go_cut [13] (fun s13 wx=>s13=.bool (Y3 n.kind==class_&&class_ != 0)∧wx=wo)
 case first =>
  cases t1:(Y3 n.kind==class_) with
  |true=>go_wp2_with (go_at_call 133;refine (Q8u _ _).mono ?_;rintro e w3 ⟨rfl,rfl⟩);go_meet;exact⟨by rw[t1];rfl,rfl⟩
  |false=>go_wp2_with (go_at_call 133;refine (Q8u _ _).mono ?_;rintro e w3 ⟨rfl,rfl⟩);go_meet;exact⟨by rw[t1];rfl,rfl⟩
 case rest =>
 obtain⟨rfl,rfl⟩:=hcut;go_upto_if 50 with fail
 go_cut [13] (fun s13 wx=>s13=.bool (Ja class_ n.kind)∧wx=wc)
 case first =>
  cases t1:(class_==10) with
  |true =>
   go_wp2_with fail;go_meet;refine⟨?_,rfl⟩;unfold Ja;rw[Ps (by simpa using t1)]
  |false =>
   go_wp2_with fail;go_meet;refine⟨?_,rfl⟩;unfold Ja;rw[Ng (by simpa using t1)]
 case rest =>
 obtain⟨rfl,rfl⟩:=hcut;have hKW:Q0 (fun k=>k=sb) w wc:=HK1.o.trans (HKX.o.ofNob _);have Qvs:Blk wc sb (Q0u (seen.set mi true)) 4:=Qxu.o.kept HKX.o id;have HKW:=Hh hKW;have Qrt:=Hh Qvs;have HTB:=Hh (Qxv.o.kept HKX.o id);clear hKW Qvs;cases hr:Ja class_ n.kind with
 |false =>
  have HXF:Hi (X=(0,false,seen.set mi true)):=Hh (by rw[HXX.o,Ng (by unfold Q4b;rw[hr];simp)]);go_wp2_with (go_at_call 134;refine (Q49 n.kind hkm).mono ?_;rintro e w4 ⟨v,rfl,hst,hk4⟩;have HST:=Hh hst;have HK4:=Hh hk4;have HB4:=Hh (HB.o.kept hk4 id);have y0':=HB4.o.cell 0 _ rfl;have y1':=HB4.o.cell 1 _ rfl;have y2':=HB4.o.cell 2 _ rfl;have y3':=HB4.o.cell 3 _ rfl;clear hst hk4);go_returns;rw[HXF.o];exact⟨rfl,Qrt.o.kept (HK4.o.trans (by repeat' first|exact Kr _ _|apply Ka|apply Kd|apply Kn)) id,HKW.o.trans ((HK4.o.trans (by repeat' first|exact Kr _ _|apply Ka|apply Kd|apply Kn)).ofNob _)⟩
 |true =>
 have Qpt:=Q7f hr;cases hsl:(((Ym n.kind n.kids.length).length:Int)==(n.kids.length:Int)) with
 |false =>
  have HXF:Hi (X=(0,false,seen.set mi true)):=Hh (by rw[HXX.o,Ng (by unfold Q4b;rw[hsl];simp)]);go_wp2_with (go_at_call 134;refine (Q49 n.kind hkm).mono ?_;rintro e w4 ⟨v,he,hst,hk4⟩;rw[hsl] at he;subst he;have HST:=Hh hst;have HK4:=Hh hk4;clear hst hk4);go_returns;rw[HXF.o];exact⟨rfl,Qrt.o.kept (HK4.o.trans (by repeat' first|exact Kr _ _|apply Ka|apply Kd|apply Kn)) id,HKW.o.trans ((HK4.o.trans (by repeat' first|exact Kr _ _|apply Ka|apply Kd|apply Kn)).ofNob _)⟩
 |true =>
 have hlz:(Ym n.kind n.kids.length).length=n.kids.length:=by have h9:=hsl;rw[beq_iff_eq] at h9;omega
 have Qvt:sb<wc.heap.size:=Qrt.o.lt;cases hhs:Q2c n with
 |false =>
  have HXF:Hi (X=(0,false,seen.set mi true)):=Hh (by rw[HXX.o,Ng (by unfold Q4b;rw[hhs];simp)]);go_wp2_with (first|(go_at_call 134;refine (Q49 n.kind hkm).mono ?_;rintro e w4 ⟨v,he,hst,hk4⟩;rw[hsl] at he;subst he;obtain⟨SA,vb,vo,vc,rfl,sl,slc,hSA,hsc⟩:=(hst (fun k=>k=sb) (fun k e=>by rw[e];exact Qvt)).ints;have HSC:=Hh hsc;have HSA:=Hh hSA;have HK4:=Hh hk4;have HB4:=Hh (HB.o.kept hk4 id);have y0':=HB4.o.cell 0 _ rfl;have y1':=HB4.o.cell 1 _ rfl;have y2':=HB4.o.cell 2 _ rfl;have y3':=HB4.o.cell 3 _ rfl;clear hst hk4 hsc hSA)|(go_at_call 135;refine (Qcf Qpt HX1.o n.kids).mono ?_;rw[show Q2c (⟨n.kind,n.text,n.i,n.kids⟩: Qc)=_ from hhs];rintro e w5 ⟨rfl,hk5⟩;have HK5:=Hh hk5;clear hk5));go_returns;rw[HXF.o];exact⟨rfl,Qrt.o.kept (HK4.o.trans (HK5.o.trans (by repeat' first|exact Kr _ _|apply Ka|apply Kd|apply Kn))) id,HKW.o.trans ((HK4.o.trans (HK5.o.trans (by repeat' first|exact Kr _ _|apply Ka|apply Kd|apply Kn))).ofNob _)⟩
 |true =>
 have HXK:Hi (X=Q22 mi (Zy (Ju t f) mi (Q3b n) next (seen.set mi true))):=Hh (by rw[HXX.o,Ps (by unfold Q4b;rw[hr,hsl,hhs];rfl)]);go_wp2_with (first|(go_at_call 134;refine (Q49 n.kind hkm).mono ?_;rintro e w4 ⟨v,he,hst,hk4⟩;rw[hsl] at he;subst he;obtain⟨SA,vb,vo,vc,rfl,sl,slc,hSA,hsc⟩:=(hst (fun k=>k=sb) (fun k e=>by rw[e];exact Qvt)).ints;have HSC:=Hh hsc;have HSA:=Hh hSA;have HK4:=Hh hk4;have HB4:=Hh (HB.o.kept hk4 id);have y0':=HB4.o.cell 0 _ rfl;have y1':=HB4.o.cell 1 _ rfl;have y2':=HB4.o.cell 2 _ rfl;have y3':=HB4.o.cell 3 _ rfl;clear hst hk4 hsc hSA)|(go_at_call 135;refine (Qcf Qpt HX1.o n.kids).mono ?_;rw[show Q2c (⟨n.kind,n.text,n.i,n.kids⟩: Qc)=_ from hhs];rintro e w5 ⟨rfl,hk5⟩;have HK5:=Hh hk5;clear hk5));have Qsa:Q0 nob wc w5:=HK4.o.trans HK5.o;have hb5:=HB4.o.kept HK5.o id;have ht5:=HTB.o.kept Qsa id;have hlp:sb≠p:=by omega
 have Qsh:sb≠w.heap.size:=by omega
 have HS3:Hi (∀W,Q0 (fun k=>k=sb) w5 W→W.cell? ⟨p,3,none⟩=some (.slice KA n.kids.length kc)∧W.cell? ⟨w.heap.size,0,none⟩=some (.slice (some ⟨nb,no,none⟩) t.nodes.length c3)∧W.cell? ⟨w.heap.size,1,none⟩=some (.slice A4 t.tops.length c4)):=Hh fun W hW =>
  ⟨hW.cell (fun e=>hlp e.symm) (hb5.cell 3 _ rfl),hW.cell (fun e=>Qsh e.symm) (ht5.cell 0 _ rfl),hW.cell (fun e=>Qsh e.symm) (ht5.cell 1 _ rfl)⟩
 have Qqu:Hi (Q0 (fun k=>k=sb) w w5):=Hh (HKW.o.trans (Qsa.ofNob _));have HB5:Hi (Blk w5 sb (Q0u (seen.set mi true)) 4):=Hh (Qrt.o.kept Qsa id);have HKK:=Hh (HK5.o.ofNob (fun k=>k=sb));clear Qsa hb5 ht5 y0 y1 y2 y3 y0' y1' y2' y3';go_loopw [3,16] (fun nx k wr=>∃(j:Nat) (m:Int) (sj:List Bool),j≤n.kids.length∧k=.int .i64 j∧nx=.int .i64 m∧0≤m∧m≤t.nodes.length∧Hi (Q0 (fun k=>k=sb) w5 wr∧Blk wr sb (Q0u sj) 4∧sj.length=t.nodes.length∧X=Q22 mi (Zy (Ju t f) mi ((Q3b n).drop j) m sj))) (fun _ k _=>n.kids.length-(intOf k).toNat)
 case atStart=>exact⟨0,next,seen.set mi true,Nat.zero_le _,rfl,rfl,hn0,hn1,Hh ⟨Kr _ _,HB5.o,by rw[List.length_set];exact Qmr,HXK.o⟩⟩
 case round =>
  obtain⟨j,m,sj,hj,rfl,rfl,hm0,hm1,HR⟩:=hrel;obtain⟨wo,rfl⟩:∃wo:World,wo=wr:=⟨_,rfl⟩;obtain⟨p3,q0,q1⟩:=HS3.o wo HR.o.1
  by_cases hlt:j<n.kids.length
  ·obtain⟨k,hk⟩:=Q3 hlt
   obtain⟨c,hc⟩:=Q3 (xs:=Ym n.kind n.kids.length) (j:=j) (by omega);obtain⟨rfl,_⟩:=HKA.o (by omega);obtain⟨rfl,_⟩:=HSA.o (by omega);have x1:=HKC.o j k hk wo (Qqu.o.trans HR.o.1);have x2:=HSC.o j c hc wo (HKK.o.trans HR.o.1)
   have HXJ:Hi (X=Q22 mi (if (mi:Int)≤k then (0,false,sj) else if (Ju t f k c m sj).2.1 then Zy (Ju t f) mi ((Q3b n).drop (j+1)) (Ju t f k c m sj).1 (Ju t f k c m sj).2.2 else (0,false,(Ju t f k c m sj).2.2))):=Hh (by
    rw[HR.o.2.2.2,Qd (xs:=Q3b n) (j:=j) (x:=(k,c)) (by unfold Q3b;rw[List.getElem?_zip_eq_some];exact⟨hk,hc⟩)];rfl)
   have hjn:(j:Int)<(n.kids.length:Int):=by omega
   have hjl:(j:Int)<((Ym n.kind n.kids.length).length:Int):=by omega
   by_cases hki:(mi:Int)≤k
   ·have tk1:decide ((mi:Int)≤k)=true:=Dt hki
    have tk2:decide (k≥(mi:Int))=true:=Dt hki;have HXF:Hi (X=(0,false,sj)):=Hh (by rw[HXJ.o,Ps hki];rfl);clear hki hk hc;go_wp2_with fail;go_returns;rw[HXF.o];exact⟨rfl,HR.o.2.1,Qqu.o.trans HR.o.1⟩
   ·have tk1:decide ((mi:Int)≤k)=false:=Df hki
    have tk2:decide (k≥(mi:Int))=false:=Df hki;rw[Ng hki] at HXJ
    have Qmm:Hi (∀W,Q0 nob wo W→Calls prog 106 #[.agg #[.slice (some ⟨nb,no,none⟩) t.nodes.length c3,.slice A4 t.tops.length c4],.int .i64 k,.int .i64 c,.int .i64 m,.slice (some ⟨sb,0,none⟩) t.nodes.length t.nodes.length] W (Q6s W sb (Ju t f k c m sj))):=Hh fun W hW =>
     HF.o W sb sj k c m (HN.o.kept (Qqu.o.trans (HR.o.1.trans (hW.ofNob _)))) (HR.o.2.1.kept hW id) HR.o.2.2.1 (by omega) hm0 hm1
    have HAF:Hi ((Ju t f k c m sj).2.1=true→0≤(Ju t f k c m sj).1∧(Ju t f k c m sj).1≤t.nodes.length):=Hh fun h=>by have:=Q7q h;omega
    have HLN:Hi ((Ju t f k c m sj).2.2.length=t.nodes.length):=Hh (by rw[Qat];exact HR.o.2.2.1);generalize Ju t f k c m sj=q at Qmm HXJ HAF HLN;obtain⟨m',ok,s'⟩:=q;dsimp only at HXJ HAF HLN;have HKR:=Hh HR.o.1;have hs:=fun W (hW:Q0 (fun k=>k=sb) wo W)=>HS3.o W (HKR.o.trans hW)
    have hs3:∀W,Q0 (fun k=>k=sb) wo W→W.cell? ⟨p,3,none⟩=some (.slice (some ⟨kb,ko,none⟩) n.kids.length kc):=fun W hW=>(hs W hW).1
    have hs4:∀W,Q0 (fun k=>k=sb) wo W→W.cell? ⟨w.heap.size,0,none⟩=some (.slice (some ⟨nb,no,none⟩) t.nodes.length c3):=fun W hW=>(hs W hW).2.1
    have hs5:∀W,Q0 (fun k=>k=sb) wo W→W.cell? ⟨w.heap.size,1,none⟩=some (.slice A4 t.tops.length c4):=fun W hW=>(hs W hW).2.2
    have hs6:∀W,Q0 (fun k=>k=sb) wo W→W.cell? ⟨kb,ko+j,none⟩=some (.int .i64 k):=fun W hW=>HKC.o j k hk W (Qqu.o.trans (HKR.o.trans hW))
    have hs7:∀W,Q0 (fun k=>k=sb) wo W→W.cell? ⟨vb,vo+j,none⟩=some (.int .i64 c):=fun W hW=>HSC.o j c hc W (HKK.o.trans (HKR.o.trans hW))
    have hr0:Q0 (fun k=>k=sb) wo wo:=Kr _ _;clear hki hk hc hs HR;go_upto_region 16 with fail
    go_region_held3 (fun W=>Q0 (fun k=>k=sb) wo W) (first|assumption|exact hr0.drew|exact Kd ‹_›) ((go_at_call 106;refine (Qmm.o _ (Kr _ _).drew).mono ?_;rintro e w2 ⟨rfl,hb2,hk2⟩;have HB2:=Hh hb2;have hkx:=hr0.drew.trans hk2;clear hb2 hk2;dsimp only));cases ok with
    |false =>
     go_wp2_with fail;go_returns;have HXF:X=(0,false,s'):=by rw[HXJ.o];rfl
     rw[HXF];exact⟨rfl,HB2.o,Qqu.o.trans (HKR.o.trans hkx)⟩
    |true =>
     go_wp2_with fail;go_roundw
     case rel=>exact⟨j+1,m',s',by omega,by go_num,rfl,(HAF.o rfl).1,(HAF.o rfl).2,Hh ⟨HKR.o.trans hkx,HB2.o,HLN.o,HXJ.o⟩⟩
     case measure=>simp[intOf];omega
  ·have hjn:¬ (j:Int)<(n.kids.length:Int):=by omega
   have HXE:Hi (X=(m+1,m==(mi:Int),sj)):=Hh (by
    rw[HR.o.2.2.2,Dn (by unfold Q3b;rw[List.length_zip];omega)];rfl)
   go_wp2_with fail;go_returns;rw[HXE.o];exact⟨rfl,HR.o.2.1,Qqu.o.trans HR.o.1⟩
end
end Go.Proofs.YtkgkafjachjafaaGreat
