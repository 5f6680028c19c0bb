/- Part 6 of: FnExactEffects answers true; no condition. -/
import Derived.Handy
import Derived.Test.YtkgkafjachjafaaGreatY01
import Derived.Test.YtkgkafjachjafaaGreatY02
import Derived.Test.YtkgkafjachjafaaGreatY03
import Derived.Test.YtkgkafjachjafaaGreatY04
import Derived.Test.YtkgkafjachjafaaGreatY05
set_option linter.unusedVariables false
set_option maxHeartbeats 1000000
open Go Go.RowKit
namespace Go.Proofs.YtkgkafjachjafaaGreat
open Tryz
theorem K09 {p:Prop} (h:p:=by rw[hat];intro k hk hc;have h1:=h.k.lt k hk;cases hc;omega):p:=h
theorem K0a {p:Prop} (h:p:=by rw[hat];intro k hk hc;have h1:=h.b.lt k hk;cases hc;omega):p:=h
section
variable {b o:Nat} {t:Q1} {n:Qn} {kv:Value} {w:World}
theorem Qei (ht:J8 w b o t) (hk:Qf w kv n.kids) (hb:∀k∈n.kids,0≤k∧k<t.nodes.length) :
  Calls prog 123 #[.pointer (some ⟨b,o,none⟩),.agg #[.int .i64 n.kind,.string n.text,.int .i64 n.i,kv]] w fun e w'=>e=.returned (.bool (Jf t n))∧Q0 nob w w':=by
 by_cases h1:n.kind=27
 ·exact Qi3 ht hk hb h1
 by_cases h2:n.kind=28
 ·exact Qhr ht hk hb h2
 by_cases h3:n.kind=29
 ·by_cases hl:0<n.kids.length
  ·exact Qh6 ht hk hb h3 hl
  ·exact Qfe ht hk hb h3 hl
 by_cases h4:n.kind=30
 ·exact Qh3 ht hk hb h4
 by_cases h5:n.kind=31
 ·exact Qax ht hk hb (.inl h5)
 by_cases h6:n.kind=32
 ·exact Qax ht hk hb (.inr h6)
 by_cases h7:n.kind=33
 ·rcases List.eq_nil_or_concat n.kids with h|⟨ks,l,h⟩
  ·exact Qfl ht hk hb h7 h
  ·exact Qhh ht l ks (by simpa using h) hk hb h7 _ rfl
 by_cases h8:n.kind=34
 ·exact Qi9 ht hk hb h8
 exact Qhm ht hk hb h1 h2 h3 h4 h5 h6 h7 h8
def Xb (t:Q1) (n:Qn):Bool:=(Q1c n&&Xk n)&&(if Qu n.kind then X9 t n else if Zs n.kind then Z3 t n else Jf t n)
theorem Qgu (j:Nat) (ht:J8 w b o t) (hn:t.nodes[j]?=some n) (hx:n.text.size≤140737488355328) (hj:j<4611686018427387904) :
  Calls prog 88 #[.pointer (some ⟨b,o,none⟩),.int .i64 j] w fun e w'=>e=.returned (.bool (Yf t j n))∧Q0 nob w w':=by
 have hjl:j<t.nodes.length:=(Gs hn).1;obtain⟨nv,tv,h0,h1,⟨nA,nb,no,nc,rfl,hnl,Qpf,hnA,hnc⟩,h3⟩:=id ht;obtain rfl:=hnA Om;obtain⟨kv,q0,q1,q2,q3,hk⟩:=hnc j n hn;obtain⟨kA,kb,ko,kc,rfl,hkl,Qo6,hkA,hkc⟩:=id hk;have HKC:=Hh hkc;have HT:=Hh ht;have HK:=Hh hk;have Qpw:Hi (Yf t j n=(n.kids.all (fun k=>Q9 k 0 ((j:Int)-1))&&Xb t n)):=Hh (by rw[Yf,Xb,Bool.and_assoc]);have b0:=World.block_lt_of_cell? w _ h0;have b1:=World.block_lt_of_cell? w _ q0;have hjj:(j:Int)<(t.nodes.length:Int):=Om
 have hj0:(0:Int)≤(j:Int):=Om
 clear hnc hkc h3 h1 hk ht hn;go_enter func88,ntmps88;go_wp2
 go_loopw [7,18] (fun u i wr=>∃m:Nat,m≤n.kids.length∧i=.int .i64 m∧n.kids.all (fun k=>Q9 k 0 ((j:Int)-1))=(n.kids.drop m).all (fun k=>Q9 k 0 ((j:Int)-1))∧Q0 nob w wr ∧
  Blk wr w.heap.size [.int .i64 n.kind,.string n.text,.int .i64 n.i,.slice kA n.kids.length kc] 70∧(∀k∈n.kids.take m,Q9 k 0 ((j:Int)-1)=true)) (fun _ i _=>n.kids.length-(intOf i).toNat)
 case atStart=>exact⟨0,Nat.zero_le _,rfl,rfl,(Kr _ _).alloc _,Blk.new _ _ _,fun k hk=>by simp at hk⟩
 case round =>
  obtain⟨m,hm,rfl,hr,hk,hbl,hal⟩:=hrel
  by_cases hlt:m<n.kids.length
  ·obtain⟨k,hkm⟩:=Q4 hlt
   have HE:Hi (n.kids.all (fun k=>Q9 k 0 ((j:Int)-1))=(Q9 k 0 ((j:Int)-1)&&(n.kids.drop (m+1)).all (fun k=>Q9 k 0 ((j:Int)-1)))):=Hh (by rw[hr,Qh hkm,List.all_cons]);have c0:=hk.cell (fun h=>h) (HKC.o m _ hkm);have c1:=hbl.cell 3 _ rfl;obtain rfl:=hkA Om;have HKM:=Hh hkm;have HAL:=Hh hal;have HBL:=Hh hbl;clear hr hkm hal hbl;go_wp2_with (go_at_call 89;refine (Jk _ _ _ _).mono ?_;rintro e w1 ⟨rfl,rfl⟩)
   ·have hp:Q9 k 0 ((j:Int)-1)=false:=by simpa using ‹(!Q9 _ _ _)=true›
    go_ret;exact⟨Q7 (by rw[Qpw.o,HE.o,hp];rfl),hk⟩
   ·have hp:Q9 k 0 ((j:Int)-1)=true:=by simpa using ‹(!Q9 _ _ _)=false›
    go_roundw
    case rel=>exact⟨m+1,Om,Gm,by rw[HE.o,hp];rfl,hk,HBL.o,by
     rw[Js HKM.o];intro x hx';rcases List.mem_append.1 hx' with h|h
     ·exact HAL.o x h
     ·simp at h;subst h;exact hp⟩
    case measure=>exact Me
  ·have Qoz:n.kids.all (fun k=>Q9 k 0 ((j:Int)-1))=true:=by rw[hr,Dn Om];rfl
   have hB:Hi (∀k∈n.kids,0≤k∧k<t.nodes.length):=Hh (fun k hk=>by
    have:=List.all_eq_true.1 Qoz k hk;simp[Q9] at this;omega)
   have HN:Hi (Yf t j n=Xb t n):=Hh (by rw[Qpw.o,Qoz];rfl);have HTR:=Hh (HT.o.old hk.old);have HKR:=Hh (HK.o.old hk.old);have r0:∀W,Q0 nob wr W→W.cell? ⟨w.heap.size,0,none⟩=some (.int .i64 n.kind):=fun W h=>h.cell (fun h=>h) (hbl.cell 0 _ rfl)
   have r1:∀W,Q0 nob wr W→W.cell? ⟨w.heap.size,1,none⟩=some (.string n.text):=fun W h=>h.cell (fun h=>h) (hbl.cell 1 _ rfl)
   have r2:∀W,Q0 nob wr W→W.cell? ⟨w.heap.size,2,none⟩=some (.int .i64 n.i):=fun W h=>h.cell (fun h=>h) (hbl.cell 2 _ rfl)
   have r3:∀W,Q0 nob wr W→W.cell? ⟨w.heap.size,3,none⟩=some (.slice kA n.kids.length kc):=fun W h=>h.cell (fun h=>h) (hbl.cell 3 _ rfl)
   have hr0:=Kr nob wr;clear hr hal Qoz hbl hkA;cases hx1:Q1c n with
   |false =>
    have HE:Hi (Xb t n=false):=Hh (by rw[Xb,hx1];rfl);go_wp2_with (go_at_call 119;refine (Q3x n _ _ hx).mono ?_;rintro e w1 ⟨rfl,hk1⟩);go_ret;exact⟨Q7 (by rw[HN.o,HE.o]),hk.thenNob hk1⟩
   |true =>
   cases hx2:Xk n with
   |false =>
    have HE:Hi (Xb t n=false):=Hh (by rw[Xb,hx1,hx2];rfl);go_wp2_with (first|(go_at_call 119;refine (Q3x n _ _ hx).mono ?_;rintro e w1 ⟨rfl,hk1⟩)|(go_at_call 120;refine (Q39 n _ _).mono ?_;rintro e w2 ⟨rfl,hk2⟩));go_ret;exact⟨Q7 (by rw[HN.o,HE.o]),(hk.thenNob hk1).thenNob hk2⟩
   |true =>
   cases hx3:Qu n.kind with
   |true =>
    have HE:Hi (Xb t n=X9 t n):=Hh (by rw[Xb,hx1,hx2,Ps hx3];rfl);go_wp2_with (first|(go_at_call 119;refine (Q3x n _ _ hx).mono ?_;rintro e w1 ⟨rfl,hk1⟩)|(go_at_call 120;refine (Q39 n _ _).mono ?_;rintro e w2 ⟨rfl,hk2⟩;have hk3:=hk1.trans hk2)|(go_at_call 94;refine (Q0q _ _).mono ?_;rintro e w3 ⟨rfl,rfl⟩)|(go_at_call 121;refine (Qh8 (HTR.o.old hk3.old) (HKR.o.old hk3.old) hB.o hx3).mono ?_;rintro e w4 ⟨rfl,hk4⟩));go_ret;exact⟨Q7 (by rw[HN.o,HE.o]),(hk.thenNob hk3).thenNob hk4⟩
   |false =>
   cases hx4:Zs n.kind with
   |true =>
    have HE:Hi (Xb t n=Z3 t n):=Hh (by rw[Xb,hx1,hx2,Ng (by simp[hx3]),Ps hx4];rfl);go_wp2_with (first|(go_at_call 119;refine (Q3x n _ _ hx).mono ?_;rintro e w1 ⟨rfl,hk1⟩)|(go_at_call 120;refine (Q39 n _ _).mono ?_;rintro e w2 ⟨rfl,hk2⟩;have hk3:=hk1.trans hk2)|(go_at_call 94;refine (Q0q _ _).mono ?_;rintro e w3 ⟨rfl,rfl⟩)|(go_at_call 96;refine (Q2o _ _).mono ?_;rintro e w3 ⟨rfl,rfl⟩)|(go_at_call 122;refine (Qh5 (HTR.o.old hk3.old) (HKR.o.old hk3.old) hB.o hx4).mono ?_;rintro e w4 ⟨rfl,hk4⟩));go_ret;exact⟨Q7 (by rw[HN.o,HE.o]),(hk.thenNob hk3).thenNob hk4⟩
   |false =>
    have HE:Hi (Xb t n=Jf t n):=Hh (by rw[Xb,hx1,hx2,Ng (by simp[hx3]),Ng (by simp[hx4])];rfl);go_wp2_with (first|(go_at_call 119;refine (Q3x n _ _ hx).mono ?_;rintro e w1 ⟨rfl,hk1⟩)|(go_at_call 120;refine (Q39 n _ _).mono ?_;rintro e w2 ⟨rfl,hk2⟩;have hk3:=hk1.trans hk2)|(go_at_call 94;refine (Q0q _ _).mono ?_;rintro e w3 ⟨rfl,rfl⟩)|(go_at_call 96;refine (Q2o _ _).mono ?_;rintro e w3 ⟨rfl,rfl⟩)|(go_at_call 123;refine (Qei (HTR.o.old hk3.old) (HKR.o.old hk3.old) hB.o).mono ?_;rintro e w4 ⟨rfl,hk4⟩));go_ret;exact⟨Q7 (by rw[HN.o,HE.o]),(hk.thenNob hk3).thenNob hk4⟩
end
def Qk (t:Q1):Prop:=∀(j:Nat) (n:Qn),t.nodes[j]?=some n→∀k∈n.kids,(0:Int)≤k∧k<(j:Int)
theorem Q3h (t:Q1) (f:Nat) (i m:Int):Qv t f i m = -1∨Qv t f i m=i+1:=by
 cases f with
 |zero=>exact .inl rfl
 |succ f =>
  unfold Qv;dsimp only;split
  ·exact .inl rfl
  ·split
   ·rename_i h;exact .inr (by rw[← h])
   ·exact .inl rfl
theorem Q75 (t:Q1) (f:Nat) (ks:List Int):ks.foldl (fun m k=>if m<0 then -1 else Qv t f k m) (-1) = -1:=by
 induction ks with
 |nil=>rfl
 |cons k ks ih=>rw[List.foldl_cons,Ps Om];exact ih
theorem Q8e (b o:Nat) (t:Q1) (w:World) (ht:J8 w b o t) (hK:Qk t) (hsz:t.nodes.length≤140737488355328):∀(f i:Nat) (m:Int),i<f→i<t.nodes.length→0≤m→m≤140737488355328 →
  Calls prog 90 #[.pointer (some ⟨b,o,none⟩),.int .i64 i,.int .i64 m] w fun e w'=>e=.returned (.int .i64 (Qv t f i m))∧w=w':=by
 intro f
 induction f with
 |zero=>intro i m h;omega
 |succ f ih =>
  intro i m hif hil hm0 hm1;obtain⟨n,hn⟩:=Q4 hil;obtain⟨nv,tv,h0,h1,⟨nA,nb,no,nc,rfl,hnl,Qpf,hnA,hnc⟩,h3⟩:=id ht;obtain rfl:=hnA Om;obtain⟨kv,q0,q1,q2,q3,hk⟩:=hnc i n hn;obtain⟨kA,kb,ko,kc,rfl,hkl,Qo6,hkA,hkc⟩:=id hk;have HKC:=Hh hkc;have HN:=Hh hn;have HKS:=Hh (hK i n hn);have HIH:=Hh ih
  have HF:Hi (Qv t (f+1) i m=(let x:=n.kids.foldl (fun m k=>if m<0 then -1 else Qv t f k m) m;if x<0 then -1 else if (i:Int)=x then x+1 else -1)):=Hh (by
   rw[Qv,Q1.at_of hn])
  have hii:(i:Int)<(t.nodes.length:Int):=Om
  have hi0:(0:Int)≤(i:Int):=Om
  clear hkc hnc h3 h1 hk ht hn ih hK;go_enter func90,ntmps90;go_wp2
  go_loop [2,8,18] (fun c u x=>∃(j:Nat) (cur:Int),j≤n.kids.length∧x=.int .i64 j∧c=.int .i64 cur∧0≤cur∧cur≤140737488355328 ∧
   n.kids.foldl (fun m k=>if m<0 then -1 else Qv t f k m) m=(n.kids.drop j).foldl (fun m k=>if m<0 then -1 else Qv t f k m) cur) (fun _ _ x=>n.kids.length-(intOf x).toNat)
  case atStart=>exact⟨0,m,Nat.zero_le _,rfl,rfl,hm0,hm1,rfl⟩
  case round =>
   obtain⟨j,cur,hj,rfl,rfl,hc0,hc1,hr⟩:=hrel
   by_cases hlt:j<n.kids.length
   ·obtain⟨k,hkj⟩:=Q4 hlt
    obtain⟨g1,g2⟩:=HKS.o k (Mg hkj);obtain⟨p,rfl⟩:=En g1
    have HE:Hi (n.kids.foldl (fun m k=>if m<0 then -1 else Qv t f k m) m=(n.kids.drop (j+1)).foldl (fun m k=>if m<0 then -1 else Qv t f k m) (Qv t f p cur)):=Hh (by
     rw[hr,Qh hkj,List.foldl_cons,Ng Om])
    have c0:=HKC.o j _ hkj;have hor:=Q3h t f p cur;obtain rfl:=hkA Om;have hpf:p<f:=Om
    have hpl:p<t.nodes.length:=Om
    clear hr hkj hkA;rcases hor with hor|hor
    ·have HOR:=Hh hor
     clear hor;go_wp2_with (go_at_call 90;refine (HIH.o p cur hpf hpl hc0 hc1).mono ?_;rw[HOR.o];rintro e w1 ⟨rfl,rfl⟩);go_ret;refine⟨Jo ?_,rfl⟩;rw[HF.o,HE.o,HOR.o,Q75];rfl
    ·have HOR:=Hh hor
     clear hor;have hp0:(0:Int)≤(p:Int)+1:=Om
     have hpn:¬ ((p:Int)+1<0):=Om
     go_wp2_with (go_at_call 90;refine (HIH.o p cur hpf hpl hc0 hc1).mono ?_;rw[HOR.o];rintro e w1 ⟨rfl,rfl⟩);go_round
     case rel=>exact⟨j+1,(p:Int)+1,Om,Gm,rfl,Om,Om,by rw[HE.o,HOR.o]⟩
     case measure=>exact Me
   ·have Qrr:n.kids.foldl (fun m k=>if m<0 then -1 else Qv t f k m) m=cur:=by rw[hr,Dn Om];rfl
    have Qt2:=Hh Qrr;clear hr Qrr
    by_cases hic:(i:Int)=cur
    ·have t1:((i:Int) != cur)=false:=by simp[hic]
     have HIC:=Hh hic;clear hic;go_wp2;go_ret;refine⟨Jo ?_,rfl⟩;rw[HF.o,Qt2.o];rw[Ng Om,Ps HIC.o]
    ·have t1:((i:Int) != cur)=true:=by simp[hic]
     have HIC:=Hh hic;clear hic;go_wp2;go_ret;refine⟨Jo ?_,rfl⟩;rw[HF.o,Qt2.o];rw[Ng Om,Ng HIC.o]
theorem Qi2 {t:Q1} {j:Nat} (hj:j<t.nodes.length) (h:Yf t j (t.at j)=false):Qs t=false:=by
 unfold Qs;rw[List.all_eq_false];exact⟨j,List.mem_range.2 hj,by simp[h]⟩
theorem Qgc {t:Q1} (h:∀j,j<t.nodes.length→Yf t j (t.at j)=true):Qs t=true:=by
 unfold Qs;rw[List.all_eq_true]
 exact fun j hj=>h j (List.mem_range.1 hj)
theorem Q5n {t:Q1} (h:Qs t=true):Qk t:=by
 intro j n hn k hk;unfold Qs at h;rw[List.all_eq_true] at h;have:=h j (List.mem_range.2 (Gs hn).1);rw[Q1.at_of hn,Yf] at this;simp only[Bool.and_eq_true] at this;have:=List.all_eq_true.1 this.1.1 k hk;simp[Q9] at this;omega
def Q0i (t:Q1):Prop:=∀n∈t.nodes,n.text.size≤140737488355328
theorem Qav (t:Q1) (v:Value) (w:World) (hv:Xt w v t) (hx:Q0i t) :
  Calls prog 53 #[v] w fun e w'=>e=.returned (.bool (Q00 t))∧Q0 nob w w':=by
 obtain⟨nv,tv,rfl,hnv,htv⟩:=hv;have hN:=hnv;have hT:=htv;obtain⟨nA,nb,no,nc,rfl,hnl,Qpf,hnA,hnc⟩:=hnv;obtain⟨tA,tb,to,tc,rfl,htl,Qza,htA,htc⟩:=htv;have HNC:=Hh hnc;have HTC:=Hh htc;clear hnc htc;generalize hW0:w.alloc (.cells #[.slice nA t.nodes.length nc,.slice tA t.tops.length tc] 33)=W0;have hk0:Q0 nob w W0:=hW0▸(Kr _ _).alloc _;have hbl:Blk W0 w.heap.size [.slice nA t.nodes.length nc,.slice tA t.tops.length tc] 33:=hW0▸Blk.new _ _ _;have HT:Hi (J8 W0 w.heap.size 0 t):=Hh ⟨_,_,hbl.cell 0 _ rfl,hbl.cell 1 _ rfl,hN.old hk0.old,hT.old hk0.old⟩;have hr0:=Kr nob W0;have s0:∀W,Q0 nob W0 W→W.cell? ⟨w.heap.size,0,none⟩=some (.slice nA t.nodes.length nc):=fun W h=>h.cell (fun h=>h) (hbl.cell 0 _ rfl)
 have s1:∀W,Q0 nob W0 W→W.cell? ⟨w.heap.size,1,none⟩=some (.slice tA t.tops.length tc):=fun W h=>h.cell (fun h=>h) (hbl.cell 1 _ rfl)
 have HX:=Hh hx;clear hN hT hbl hx
 by_cases Qus:t.nodes.length≤4000
 ·go_enter func53,ntmps53
  go_wp2;go_loopw [3,14] (fun u i wr=>∃j:Nat,j≤t.nodes.length∧i=.int .i64 j∧(∀m,m<j→Yf t m (t.at m)=true)∧Q0 nob W0 wr) (fun _ i _=>t.nodes.length-(intOf i).toNat)
  case atStart=>exact⟨0,Nat.zero_le _,rfl,fun m h=>absurd h Om,hr0⟩
  case round =>
   obtain⟨j,hj,rfl,Qoz,hk⟩:=hrel;have Qpt:=Hh Qoz;clear Qoz
   by_cases hlt:j<t.nodes.length
   ·obtain⟨n,hn⟩:=Q4 hlt
    have HN:=Hh hn;have HNX:=Hh (HX.o n (Mg hn));have hat:=Q1.at_of hn;have HAT:=Hh hat;clear hn hat;go_wp2_with (go_at_call 88;refine (Qgu j (HT.o.old hk.old) HN.o HNX.o Om).mono ?_;rintro e w1 ⟨rfl,hk1⟩)
    ·have hp:Yf t j n=false:=by simpa using ‹(!Yf _ _ _)=true›
     go_ret;exact⟨Q7 (by rw[Q00,Qi2 hlt (by rw[HAT.o];exact hp)];simp),hk0.trans (hk.trans hk1)⟩
    ·have hp:Yf t j n=true:=by simpa using ‹(!Yf _ _ _)=false›
     go_roundw
     case rel=>exact⟨j+1,Om,Gm,fun m hm=>by
      by_cases e:m=j
      ·subst e;rw[HAT.o];exact hp
      ·exact Qpt.o m Om,hk.trans hk1⟩
     case measure=>exact Me
   ·have hnb:Qs t=true:=Qgc fun m hm=>Qpt.o m Om
    have HNB:=Hh hnb;have HKO:=Hh (Q5n hnb);clear hnb;go_wp2;go_loopw [4,6,24] (fun fr u i wr'=>∃(j:Nat) (m:Int),j≤t.tops.length∧i=.int .i64 j∧fr=.int .i64 m∧0≤m∧m≤140737488355328∧Q0o t t.tops 0=Q0o t (t.tops.drop j) m∧wr'=wr) (fun _ _ i _=>t.tops.length-(intOf i).toNat)
    case atStart=>exact⟨0,0,Nat.zero_le _,rfl,rfl,Om,Om,rfl,rfl⟩
    case round =>
     obtain⟨q,m,hq,rfl,rfl,hm0,hm1,hr,rfl⟩:=hrel;have HR:=Hh hr;clear hr
     by_cases hqt:q<t.tops.length
     ·obtain⟨x,hx⟩:=Q4 hqt
      have c0:=hk.cell (fun h=>h) (hk0.cell (fun h=>h) (HTC.o q x hx));obtain rfl:=htA Om;have HXX:=Hh hx;clear hx htA;cases hw:Q9 x 0 ((t.nodes.length:Int)-1) with
      |false =>
       have HE:Hi (Q0o t t.tops 0=none):=Hh (by rw[HR.o,Qh HXX.o,Q0o,hw];rfl);go_wp2_with (go_at_call 89;refine (Jk _ _ _ _).mono ?_;rintro e w1 ⟨rfl,rfl⟩);go_ret;exact⟨Q7 (by rw[Q00,HE.o];simp),hk0.trans hk⟩
      |true =>
       obtain⟨p,rfl⟩:=En (show 0≤x by simp[Q9] at hw;omega);have hpl:p<t.nodes.length:=by simp[Q9] at hw;omega
       obtain⟨np,hnp⟩:=Q4 hpl;obtain⟨pkv,q0,-⟩:=HNC.o p np hnp;have d0:=hk.cell (fun h=>h) (hk0.cell (fun h=>h) q0);obtain rfl:=hnA Om;have HAT:=Hh (Q1.at_of hnp);have hpp:(p:Int)<(t.nodes.length:Int):=Om
       have hp0:(0:Int)≤(p:Int):=Om
       clear hnp q0 hnA
       by_cases hkd:np.kind<33
       ·have HE:Hi (Q0o t t.tops 0=none):=Hh (by rw[HR.o,Qh HXX.o,Q0o,HAT.o,Df Om];simp)
        go_wp2_with (go_at_call 89;refine (Jk _ _ _ _).mono ?_;rintro e w1 ⟨rfl,rfl⟩);go_ret;exact⟨Q7 (by rw[Q00,HE.o];simp),hk0.trans hk⟩
       ·have HE:Hi (Q0o t t.tops 0=if Qv t (p+1) p m<0 then none else Q0o t (t.tops.drop (q+1)) (Qv t (p+1) p m)):=Hh (by
         rw[HR.o,Qh HXX.o,Q0o,HAT.o,hw,Dt Om];rfl)
        have hor:=Q3h t (p+1) p m;rcases hor with hor|hor
        ·have HOR:=Hh hor
         clear hor;go_wp2_with (first|(go_at_call 89;refine (Jk _ _ _ _).mono ?_;rintro e w1 ⟨rfl,rfl⟩)|(go_at_call 90;refine (Q8e _ _ t _ (HT.o.old hk.old) HKO.o hnl (p+1) p m Om hpl hm0 hm1).mono ?_;rw[HOR.o];rintro e w1 ⟨rfl,rfl⟩));go_ret;exact⟨Q7 (by rw[Q00,HE.o,HOR.o];simp),hk0.trans hk⟩
        ·have HOR:=Hh hor
         clear hor;have hpn:¬ ((p:Int)+1<0):=Om
         go_wp2_with (first|(go_at_call 89;refine (Jk _ _ _ _).mono ?_;rintro e w1 ⟨rfl,rfl⟩)|(go_at_call 90;refine (Q8e _ _ t _ (HT.o.old hk.old) HKO.o hnl (p+1) p m Om hpl hm0 hm1).mono ?_;rw[HOR.o];rintro e w1 ⟨rfl,rfl⟩));go_roundw
         case rel=>exact⟨q+1,(p:Int)+1,Om,Gm,rfl,Om,Om,by rw[HE.o,HOR.o,Ng Om],by first|rfl|trivial⟩
         case measure=>exact Me
     ·have HE:Hi (Q0o t t.tops 0=some m):=Hh (by rw[HR.o,Dn Om];rfl)
      go_wp2;go_ret;exact⟨Q7 (by rw[Q00,HE.o,HNB.o,Dt Qus,Bool.true_and,Bool.true_and];rw[Bool.eq_iff_iff];simp),hk0.trans hk⟩
 ·go_enter func53,ntmps53
  go_wp2;go_ret;exact⟨Q7 (by rw[Q00,Df Qus];rfl),hk0⟩
def X8 (names:List ByteArray):List Zt→Option (List ByteArray)
 |[]=>some names
 |d::ds=>if (Q15 d.name&&!Zr d.name names)&&Q9 d.kind 1 4 then X8 (names++[d.name]) ds else none
def Q24:List (List Zt)→List ByteArray→Bool
 |[],_=>true
 |l::ls,names=>if l.length≤12 then (match X8 names l with|some n=>Q24 ls n|none=>false) else false
def Q6t (r:Reg):Bool:=Q24 [r.comps,r.ress,r.evts] []
def strs (xs:List ByteArray):List Value:=xs.map Value.string
theorem Q3w (xs:List ByteArray) (x:ByteArray):strs xs++[.string x]=strs (xs++[x]):=by simp[strs]
theorem Qc.strs {S:Nat→Prop} {e:TypeId} {w:World} {v:Value} {xs:List ByteArray} (h:Qc S e w v (strs xs)) (hl:xs.length≤140737488355328):Q0g w v xs:=by
 obtain⟨A,b,c,rfl,h1,h2,h3,h4⟩:=h.opened;have Qnm:(YtkgkafjachjafaaGreat.strs xs).length=xs.length:=by simp[YtkgkafjachjafaaGreat.strs]
 rw[Qnm] at h1 h2 h3 ⊢
 refine⟨A,b,0,c,rfl,hl,h2,fun hp=>(h3 hp).1,fun j x hx=>?_⟩
 rw[Nat.zero_add];exact (h4 j (.string x) (by simp[YtkgkafjachjafaaGreat.strs,hx])).1
def Q2e (r:Reg):Prop:=∀d,d∈r.comps∨d∈r.ress∨d∈r.evts→d.name.size≤140737488355328
theorem Q99 (r:Reg) (v:Value) (w:World) (hv:Q20 w v r) (hx:Q2e r) :
  Calls prog 52 #[v] w fun e w'=>e=.returned (.bool (Q6t r))∧Q0 nob w w':=by
 obtain⟨v0,v1,v2,rfl,hd0,hd1,hd2⟩:=hv;have Qny:∀(u:Value) (ds:List Zt),Ji w u ds→∃A c,u=.slice A ds.length c:=fun u ds ⟨A,b,o,c,h,_⟩=>⟨A,c,h⟩
 obtain⟨A0,c0,rfl⟩:=Qny _ _ hd0;obtain⟨A1,c1,rfl⟩:=Qny _ _ hd1;obtain⟨A2,c2,rfl⟩:=Qny _ _ hd2
 have HD:Hi (∀(j:Nat) (ds:List Zt),[r.comps,r.ress,r.evts][j]?=some ds→∃u,[Value.slice A0 r.comps.length c0,.slice A1 r.ress.length c1,.slice A2 r.evts.length c2][j]?=some u∧Ji w u ds∧(∀d∈ds,d.name.size≤140737488355328)):=Hh (by
  intro j ds hj
  match j,hj with
  |0,hj=>cases hj;exact⟨_,rfl,hd0,fun d hd=>hx d (.inl hd)⟩
  |1,hj=>cases hj;exact⟨_,rfl,hd1,fun d hd=>hx d (.inr (.inl hd))⟩
  |2,hj=>cases hj;exact⟨_,rfl,hd2,fun d hd=>hx d (.inr (.inr hd))⟩)
 clear Qny hd0 hd1 hd2 hx;generalize hB:w.heap.size=B;generalize hS:(fun k=>B+1≤k∧k≠B+2)=S;have HS:=Hh hS;have HBB:=Hh hB;clear hS;go_enter func52,ntmps52;go_wp2_with fail
 go_loopw [3,5,7,17] (fun nv u5 u7 i wr=>∃(j:Nat) (names:List ByteArray),j≤3∧i=.int .i64 j∧Qc S 9 wr nv (strs names)∧names.length≤12*j∧Q0 nob w wr∧B+3≤wr.heap.size ∧
  Blk wr (B+2) [.slice A0 r.comps.length c0,.slice A1 r.ress.length c1,.slice A2 r.evts.length c2] 36∧Q24 [r.comps,r.ress,r.evts] []=Q24 ([r.comps,r.ress,r.evts].drop j) names) (fun _ _ _ i _=>3-(intOf i).toNat)
 case atStart =>
  refine⟨0,[],Om,rfl,?_,Sm,(((Kr _ _).alloc _).alloc _).alloc _,So,Blk.new_of _ _ _ So,rfl⟩;refine Qc.alloc (Qc.lit _ _ _ [] ?_ Sm So rfl rfl) _;rw[← HS.o];simp;omega
 case round =>
  obtain⟨j,names,hj,rfl,Qnt,hnl,hk,hsz,hbl,hr⟩:=hrel;obtain⟨wo,rfl⟩:∃wo:World,wo=wr:=⟨_,rfl⟩;have HR:=Hh hr;have HBL:=Hh hbl;have Qoi:=Hh Qnt;clear hr hbl Qnt
  by_cases hlt:j<3
  ·obtain⟨ds,hds⟩:=Q4 (xs:=[r.comps,r.ress,r.evts]) (j:=j) hlt
   obtain⟨u,hu,hrd,htx⟩:=HD.o j ds hds;have cL:=HBL.o.cell j u hu;obtain⟨A,b,o,c,rfl,hl,hlc,hA,hc⟩:=hrd;have HDS:=Hh hds;have HC:=Hh hc;have HTX:=Hh htx;have HE:Hi (Q24 [r.comps,r.ress,r.evts] []=Q24 (ds::[r.comps,r.ress,r.evts].drop (j+1)) names):=Hh (by rw[HR.o,Qh hds]);clear hds hu hc htx
   by_cases h12:ds.length≤12
   ·have Qzb:decide ((12:Int)<(ds.length:Int))=false:=Df Om
    have hd3:decide ((j:Int)<3)=true:=Dt Om;go_wp2_with fail
    go_loopw [3,7,26] (fun nv u7 i wr'=>∃(m:Nat) (names':List ByteArray),m≤ds.length∧i=.int .i64 m∧Qc S 9 wr' nv (strs names')∧names'.length≤12*j+m∧Q0 nob w wr'∧B+3≤wr'.heap.size ∧
     Blk wr' (B+2) [.slice A0 r.comps.length c0,.slice A1 r.ress.length c1,.slice A2 r.evts.length c2] 36∧X8 names ds=X8 names' (ds.drop m)) (fun _ _ i _=>ds.length-(intOf i).toNat)
    case atStart=>exact⟨0,names,Nat.zero_le _,rfl,Qoi.o,Om,hk,hsz,HBL.o,rfl⟩
    case round =>
     obtain⟨m,names',hm,rfl,Qrt,hnl',hk',hsz',hbl',hr'⟩:=hrel;have HR':=Hh hr';have HBL':=Hh hbl';have Qoe:=Hh Qrt;clear hr' hbl' Qrt
     by_cases hmt:m<ds.length
     ·obtain⟨d,hd⟩:=Q4 hmt
      obtain⟨q0,q1⟩:=HC.o m d hd;have e0:=hk'.cell (fun h=>h) q0;have e1:=hk'.cell (fun h=>h) q1;obtain rfl:=hA Om;have hts:=HTX.o d (Mg hd);have HDR:Hi (ds.drop m=d::ds.drop (m+1)):=Hh (Qh hd);have lt0:=World.block_lt_of_cell? _ _ e0;clear hd q0 q1 hA;have HFR:Hi (Jh S wr):=Hh (fun k hk=>by rw[← HS.o];simp only;omega);have HNO:Hi (X8 names ds=none→Q6t r=false):=Hh (fun h=>by rw[Q6t,HE.o,Q24,Ps h12,h]);cases h1:Q15 d.name with
      |false =>
       have HF:=Hh (HNO.o (by rw[HR'.o,HDR.o,X8,h1];rfl));go_wp2_with (first|(go_at_call 85;refine (Q3q _ _ hts).mono ?_;rintro e w1 ⟨rfl,rfl⟩)|(go_at_call 86;refine (Ye _ names' _ _ ((Qc.strs (Qoe.o.alloc _) Om))).mono ?_;rintro e w1 ⟨rfl,rfl⟩)|(go_at_call 87;refine (Q1n _ _).mono ?_;rintro e w1 ⟨rfl,rfl⟩)|(at_builtin;refine Qt S rfl _ _ 66 9 (.string ByteArray.empty) 16 rfl underlying66 Kf rfl _ (strs names') (.string d.name) rfl rfl Sm rfl (Qoe.o.alloc _) (HFR.o.alloc _) (by simp[strs];omega) (by simp[strs];omega) ?_;intro nv1 w2 Qnq hk2 hat));go_ret;exact⟨Q7 HF.o.symm,hk'.alloc _⟩
      |true =>
      cases h2:Zr d.name names' with
      |true =>
       have HF:=Hh (HNO.o (by rw[HR'.o,HDR.o,X8,h1,h2];rfl));go_wp2_with (first|(go_at_call 85;refine (Q3q _ _ hts).mono ?_;rintro e w1 ⟨rfl,rfl⟩)|(go_at_call 86;refine (Ye _ names' _ _ ((Qc.strs (Qoe.o.alloc _) Om))).mono ?_;rintro e w1 ⟨rfl,rfl⟩)|(go_at_call 87;refine (Q1n _ _).mono ?_;rintro e w1 ⟨rfl,rfl⟩)|(at_builtin;refine Qt S rfl _ _ 66 9 (.string ByteArray.empty) 16 rfl underlying66 Kf rfl _ (strs names') (.string d.name) rfl rfl Sm rfl (Qoe.o.alloc _) (HFR.o.alloc _) (by simp[strs];omega) (by simp[strs];omega) ?_;intro nv1 w2 Qnq hk2 hat));go_ret;exact⟨Q7 HF.o.symm,hk'.alloc _⟩
      |false =>
      cases h3:Q9 d.kind 1 4 with
      |false =>
       have HF:=Hh (HNO.o (by rw[HR'.o,HDR.o,X8,h1,h2,h3];rfl));go_wp2_with (first|(go_at_call 85;refine (Q3q _ _ hts).mono ?_;rintro e w1 ⟨rfl,rfl⟩)|(go_at_call 86;refine (Ye _ names' _ _ ((Qc.strs (Qoe.o.alloc _) Om))).mono ?_;rintro e w1 ⟨rfl,rfl⟩)|(go_at_call 87;refine (Q1n _ _).mono ?_;rintro e w1 ⟨rfl,rfl⟩)|(at_builtin;refine Qt S rfl _ _ 66 9 (.string ByteArray.empty) 16 rfl underlying66 Kf rfl _ (strs names') (.string d.name) rfl rfl Sm rfl (Qoe.o.alloc _) (HFR.o.alloc _) (by simp[strs];omega) (by simp[strs];omega) ?_;intro nv1 w2 Qnq hk2 hat));go_ret;exact⟨Q7 HF.o.symm,hk'.alloc _⟩
      |true =>
       have HF:Hi (X8 names ds=X8 (names'++[d.name]) (ds.drop (m+1))):=Hh (by rw[HR'.o,HDR.o,X8,h1,h2,h3];rfl);go_wp2_with (first|(go_at_call 85;refine (Q3q _ _ hts).mono ?_;rintro e w1 ⟨rfl,rfl⟩)|(go_at_call 86;refine (Ye _ names' _ _ ((Qc.strs (Qoe.o.alloc _) Om))).mono ?_;rintro e w1 ⟨rfl,rfl⟩)|(go_at_call 87;refine (Q1n _ _).mono ?_;rintro e w1 ⟨rfl,rfl⟩)|(at_builtin;refine Qt S rfl _ _ 66 9 (.string ByteArray.empty) 16 rfl underlying66 Kf rfl _ (strs names') (.string d.name) rfl rfl Sm rfl (Qoe.o.alloc _) (HFR.o.alloc _) (by simp[strs];omega) (by simp[strs];omega) ?_;intro nv1 w2 Qnq hk2 hat))
       have hkk:Q0 nob w w2:=(hk'.alloc _).then_ hk2 (fun k hk=>.inr (by
        have:=Qoe.o.2 k hk;rw[← HS.o] at this;(try simp only at this);omega))
       have Qx5:Blk w2 (B+2) _ _:=(HBL'.o.alloc _).kept hk2 (fun hk=>by
        have:=Qoe.o.2 _ hk;rw[← HS.o] at this;(try simp only at this);omega)
       rw[Q3w] at Qnq;have Qoa:B+3≤w2.heap.size:=Nat.le_trans So hk2.size;go_roundw
       case rel=>exact⟨m+1,names'++[d.name],Om,Gm,Qnq,So,hkk,Qoa,Qx5,HF.o⟩
       case measure=>exact Me
     ·have HF:Hi (X8 names ds=some names'):=Hh (by rw[HR'.o,Dn Om];rfl)
      go_wp2_with fail;go_roundw
      case rel=>exact⟨j+1,names',Om,Gm,Qoe.o,Om,hk',hsz',HBL'.o,by rw[HE.o,Q24,Ps h12,HF.o]⟩
      case measure=>exact Me
   ·have HF:Hi (Q6t r=false):=Hh (by rw[Q6t,HE.o,Q24,Ng h12])
    go_wp2_with fail;go_ret;exact⟨Q7 HF.o.symm,hk⟩
  ·obtain rfl:j=3:=Om
   have HF:Hi (Q6t r=true):=Hh (by rw[Q6t,HR.o];rfl);go_wp2_with fail;go_ret;exact⟨Q7 HF.o.symm,hk⟩
structure CS where
 code:Int
 node:Int
 kinds:List Int
 bind:List Int
 locals:List Int
 tops:List Int
 top:Int
 withs:List Int
 inEach:Bool
 inHear:Bool
namespace CS
def fail (s:CS) (code node:Int):CS:=if s.code=0 then {s with code:=code,node:=node} else s
def kindAt (s:CS) (k:Int):Int:=(s.kinds[k.toNat]?).getD 0
def setKind (s:CS) (i x:Int):CS:={s with kinds:=s.kinds.set i.toNat x}
def setBind (s:CS) (i x:Int):CS:={s with bind:=s.bind.set i.toNat x}
def addLocal (s:CS) (k:Int):CS:={s with locals:=s.locals++[k]}
end CS
def Q3 (t:Q1) (l:List Int) (name:ByteArray):Int:=match l with
 |[]=>-1
 |k::ks=>if (t.at k).text=name then k else Q3 t ks name
def kidAt (n:Qn) (j:Nat):Int:=(n.kids[j]?).getD 0
def Qp (s:CS) (kid kind node:Int):CS:=if s.kindAt kid=kind then s else s.fail 4 node
def Qi (r:Reg) (s:CS) (name:ByteArray) (node:Int):Int×CS :=
 if r.find 1 name<0 then (0,s.fail 3 node) else if Zr (r.find 1 name) s.withs then (r.kindOf 1 (r.find 1 name),s) else (0,s.fail 5 node)
def J4 (r:Reg) (s:CS) (sort:Int) (name:ByteArray) (node:Int):Int×CS :=
 if r.find sort name<0 then (0,s.fail 3 node) else (r.kindOf sort (r.find sort name),s)
def Yt (t:Q1) (s:CS) (kind:Int):Bool :=
 if kind=5∨kind=11∨kind=14∨kind=22∨kind=23∨kind=24 then s.inEach
 else if kind=18∨kind=20 then ((t.at s.top).kind==34)&&!s.inEach&&!s.inHear
 else kind != 26
def Ja (k:Int):Int:=if Q9 k 1 4 then k else 0
def Q0v (s:CS) (n:Qn):Int×Int :=
 if n.kind=8 then
  (if (opK n.i (Ja (s.kindAt (kidAt n 0))) 0 (s.kindAt (kidAt n 1)) 0).2=2 then (Ja (s.kindAt (kidAt n 0)),0) else opK n.i (Ja (s.kindAt (kidAt n 0))) 0 (s.kindAt (kidAt n 1)) 0)
 else if n.kind=9 then J6 n.i (Ja (s.kindAt (kidAt n 0))) 0
 else if n.kind=10 then (if Z5 (Ja (s.kindAt (kidAt n 0))) 0 (s.kindAt (kidAt n 1)) 0 then (3,0) else (0,1))
 else (0,1)
def Yv (s:CS) (i:Int) (n:Qn):Int×CS:=((Q0v s n).1,if (Q0v s n).2=0 then s else s.fail 4 i)
def Yl (t:Q1) (i:Int):List Int→List Int→CS→CS
 |k::ks,p::ps,s=>Yl t i ks ps (Qp s k (t.at p).i i)
 |_,_,s=>s
def Q36 (t:Q1) (s:CS) (i:Int) (n:Qn):Int×CS :=
 let k:=Q3 t s.tops n.text
 if k<0∨(t.at k).kind≠33 then (0,s.fail 3 i)
 else if (t.at k).kids.length≠n.kids.length+1 then (0,s.fail 6 i)
 else ((t.at k).i,(Yl t i n.kids (t.at k).kids s).setBind i k)
def Zw (r:Reg) (t:Q1) (s:CS) (i:Int) (n:Qn):Int×CS :=
 if n.kind=1 then (1,s) else if n.kind=2 then (2,s) else if n.kind=3 then (4,s)
 else if n.kind=4 then (if Q3 t s.locals n.text<0 then (0,s.fail 3 i) else (s.kindAt (Q3 t s.locals n.text),s.setBind i (Q3 t s.locals n.text)))
 else if n.kind=5 then Qi r s n.text i
 else if n.kind=6 then J4 r s 2 n.text i
 else if n.kind=7 then Q36 t s i n
 else Yv s i n
def Qy (r:Reg) (t:Q1) (s:CS) (i:Int) (n:Qn):CS :=
 if n.kind=12 then (if 0≤Q3 t s.locals n.text then s.fail 2 i else (s.setKind i (s.kindAt (kidAt n 0))).addLocal i)
 else if n.kind=13 then (if Q3 t s.locals n.text<0 then s.fail 3 i else Qp (s.setBind i (Q3 t s.locals n.text)) (kidAt n 0) (s.kindAt (Q3 t s.locals n.text)) i)
 else if n.kind=14 then Qp (Qi r s n.text i).2 (kidAt n 0) (Qi r s n.text i).1 i
 else if n.kind=15 then Qp (J4 r s 2 n.text i).2 (kidAt n 0) (J4 r s 2 n.text i).1 i
 else if n.kind=19 then Qp (J4 r s 3 n.text i).2 (kidAt n 0) (J4 r s 3 n.text i).1 i
 else if n.kind=23 then Qp (J4 r s 1 n.text i).2 (kidAt n 0) (J4 r s 1 n.text i).1 i
 else if n.kind=24 then (J4 r s 1 n.text i).2
 else s
def Qb (W:CS→Int→CS) (s:CS) (l:List Int):CS:=l.foldl (fun s k=>if s.code=0 then W s k else s) s
def pickStep (r:Reg) (t:Q1) (i k1:Int) (s:CS) (k:Int):CS :=
 let c:=Qi r s (t.at k).text k
 let s1:=if k=k1 then c.2.setKind i c.1 else c.2
 if c.1=s1.kindAt i then s1 else s1.fail 4 k
def Q4y (r:Reg) (t:Q1) (W:CS→Int→CS) (s:CS) (i:Int) (n:Qn):CS :=
 (n.kids.drop 1).foldl (pickStep r t i (kidAt n 1)) (Qp (W s (kidAt n 0)) (kidAt n 0) 1 i)
def Q05 (W:CS→Int→CS) (s:CS) (i:Int) (n:Qn):CS :=
 Qb W (Qp (W s (kidAt n 0)) (kidAt n 0) (if n.kind=17 then 1 else 4) i) (n.kids.drop 1)
def eachL (r:Reg) (t:Q1):List Int→CS×List Int→CS×List Int
 |[],x=>x
 |k::ks,(s,all) =>
  let c:=r.find 1 (t.at k).text
  eachL r t ks (if c<0 then s.fail 3 k else if Zr c all then s.fail 2 k else s,all++[c])
def Q40 (r:Reg) (t:Q1) (W:CS→Int→CS) (s:CS) (n:Qn):CS :=
 let a:=eachL r t (t.at (kidAt n 0)).kids (s,[])
 let b:=eachL r t (t.at (kidAt n 1)).kids a
 {Qb W {b.1 with withs:=a.2,inEach:=true} (n.kids.drop 2) with withs:=[],inEach:=false}
def Qx (t:Q1) (s:CS) (k:Int):CS:=if 0≤Q3 t s.locals (t.at k).text then s.fail 2 k else s
def Q3y (r:Reg) (t:Q1) (W:CS→Int→CS) (s:CS) (i:Int) (n:Qn):CS :=
 let k:=kidAt n 0
 let c:=J4 r s 3 n.text i
 let s1:=(Qx t (c.2.setKind k c.1) k).addLocal k
 let s2:=Qb W {s1 with inHear:=true} (n.kids.drop 1)
 {s2 with inHear:=false,locals:=s2.locals.dropLast}
def Xe (r:Reg) (t:Q1) (W:CS→Int→CS):List Int→List ByteArray→CS→CS
 |[],_,s=>s
 |k::ks,names,s =>
  let x:=t.at k
  let s1:=Qb W s x.kids
  if s1.code≠0 then s1 else
  let c:=J4 r s1 1 x.text k
  let s2:=if Zr x.text names then c.2.fail 2 k else c.2
  Xe r t W ks (names++[x.text]) (Qp s2 (kidAt x 0) c.1 k)
def Jl (t:Q1) (s:CS) (k:Int):CS:=((Qx t s k).setKind k (t.at k).i).addLocal k
def Q32 (t:Q1) (body:List Int):Bool:=match body.getLast? with
 |none=>false
 |some l=>(t.at l).kind==26
def fnF (t:Q1) (W:CS→Int→CS) (s:CS) (i:Int) (n:Qn):CS :=
 let s1:=n.kids.dropLast.foldl (Jl t) s
 let body:=(t.at (n.kids.getLast?.getD 0)).kids
 if Q32 t body then
  let e:=kidAt (t.at (body.getLast?.getD 0)) 0
  Qp (Qb W (Qb W s1 body.dropLast) [e]) e n.i i
 else (Qb W s1 body).fail 5 i
def Q8 (r:Reg) (t:Q1):Nat→CS→Int→CS
 |0,s,_=>s
 |f+1,s,i =>
  let n:=t.at i
  let W:=Q8 r t f
  if Yt t s n.kind then
   if n.kind=33 then fnF t W s i n
   else if n.kind=34 then Qb W s n.kids
   else if n.kind=11 then Q4y r t W s i n
   else if n.kind=16∨n.kind=17 then Q05 W s i n
   else if n.kind=18 then Q40 r t W s n
   else if n.kind=20 then Q3y r t W s i n
   else if n.kind=21 then Xe r t W n.kids [] s
   else if n.kind=27 then {Qb W s n.kids with locals:=(Qb W s n.kids).locals.take s.locals.length}
   else
    let s1:=Qb W s n.kids
    if s1.code≠0 then s1
    else if Qu n.kind then (Zw r t s1 i n).2.setKind i (Zw r t s1 i n).1
    else Qy r t s1 i n
  else s.fail 5 i
def Yn (r:Reg) (t:Q1) (s:CS) (i:Int):CS :=
 let s1:=if 0≤Q3 t s.tops (t.at i).text then s.fail 2 i else s
 let s2:=Qb (Q8 r t t.nodes.length) {s1 with top:=i,locals:=[]} [i]
 {s2 with tops:=s2.tops++[i]}
def Z6 (t:Q1):CS:=⟨0,-1,List.replicate t.nodes.length 0,List.replicate t.nodes.length 0,[],[],0,[],false,false⟩
def Q0e (r:Reg) (t:Q1):CS:=t.tops.foldl (Yn r t) (Z6 t)
def Zo (r:Reg) (t:Q1):Int×Int:=if Q6t r&&Q00 t then ((Q0e r t).code,(Q0e r t).node) else (1,-1)
namespace Qc
variable {S S':Nat→Prop} {e:TypeId} {w w':World} {v:Value} {xs:List Value}
theorem set (h:Qc S e w v xs) {b:Nat} (hv:v.ownBlock=some b) (i:Nat) (u:Value):Qc S e (w.setCell ⟨b,i,none⟩ u) v (xs.set i u):=by
 rcases h.1.2 with ⟨rfl,h0⟩|⟨g,cap,cur,rfl,hb,hh,hnc,hcm,hcs,ht⟩
 ·simp[Value.ownBlock] at hv
 ·have:g=b:=by simpa[Value.ownBlock] using hv
  subst this;refine⟨⟨Sm,.inr ⟨g,cap,cur.setIfInBounds i u,Sm,hb,?_,by simpa using hnc,hcm,by simpa using hcs,?_⟩⟩,h.2⟩
  ·simp only[World.setCell,Array.getElem?_modify,hh]
   simp
  ·simp only[Array.toList_setIfInBounds,List.take_set,List.length_set]
   rw[ht]
theorem take (h:Qc S e w v xs) {A:Option Addr} {c:Nat} (hv:v=.slice A xs.length c) (n:Nat) (hn:n≤xs.length):Qc S e w (.slice A n c) (xs.take n):=by
 subst hv;rcases h.1.2 with ⟨h0,hl⟩|⟨g,cap,cur,h0,hb,hh,hnc,hcm,hcs,ht⟩
 ·injection h0 with h1 h2 h3
  subst h1;subst h3;have:xs=[]:=List.eq_nil_of_length_eq_zero hl;subst this;have:n=0:=by simpa using hn
  subst this;exact⟨⟨Sm,.inl ⟨rfl,Sm⟩⟩,fun k hk=>by simp[Value.ownBlock] at hk⟩
 ·cases h0
  refine⟨⟨Sm,.inr ⟨g,c,cur,by simp[Nat.min_eq_left hn],hb,hh,by rw[List.length_take];omega,hcm,hcs,?_⟩⟩,fun k hk=>h.2 k (by simpa[Value.ownBlock] using hk)⟩
  have:=congrArg (List.take n) ht;rw[List.take_take] at this;simp only[Nat.mul_one] at this ⊢;rw[List.length_take];exact this
theorem ints {xs':List Int} (h:Qc S e w v (Q5 xs')) (hm:xs'.length≤140737488355328):Qf w v xs':=by
 obtain⟨A,b,c,hv,_,hlc,hA,hc⟩:=h.opened
 refine⟨A,b,0,c,by simpa[Q5] using hv,hm,by simpa[Q5] using hlc,fun h0=>(hA (by simpa[Q5] using h0)).1,fun j x hx=>?_⟩
 have:=(hc j (.int .i64 x) (by simp[Q5,hx])).1;simpa using this
end Qc
def sep (a b:Option Nat):Prop:=∀k,a=some k→b≠some k
def Qc2 (ra ta:Addr) (s:CS) (kv bv lv tv wv:Value):List Value :=
 [.pointer (some ra),.pointer (some ta),.int .i64 s.code,.int .i64 s.node,kv,bv,lv,tv,.int .i64 s.top,wv,.bool s.inEach,.bool s.inHear]
structure J0 (S:Nat→Prop) (w:World) (cb:Nat) (ra ta:Addr) (s:CS) (kv bv lv tv wv:Value):Prop where
 blk:Blk w cb (Qc2 ra ta s kv bv lv tv wv) 94
 inS:S cb
 k:Qc S 3 w kv (Q5 s.kinds)
 b:Qc S 3 w bv (Q5 s.bind)
 l:Qc S 3 w lv (Q5 s.locals)
 t:Qc S 3 w tv (Q5 s.tops)
 w:Qc S 3 w wv (Q5 s.withs)
 dis:[some cb,kv.ownBlock,bv.ownBlock,lv.ownBlock,tv.ownBlock,wv.ownBlock].Pairwise sep
theorem Qc.below {S S':Nat→Prop} {e:TypeId} {w:World} {v:Value} {xs:List Value} (h:Qc S e w v xs) (hs:∀k,k<w.heap.size→S k→S' k):Qc S' e w v xs:=⟨h.1,fun k hk=>hs k (h.lt k hk) (h.2 k hk)⟩
namespace J0
variable {S S':Nat→Prop} {w w':World} {cb:Nat} {ra ta:Addr} {s s':CS} {kv bv lv tv wv:Value}
theorem mono (h:J0 S w cb ra ta s kv bv lv tv wv) (hs:∀k,k<w.heap.size→S k→S' k):J0 S' w cb ra ta s kv bv lv tv wv :=
 ⟨h.blk,hs cb h.blk.lt h.inS,h.k.below hs,h.b.below hs,h.l.below hs,h.t.below hs,h.w.below hs,h.dis⟩
theorem nobk (h:J0 S w cb ra ta s kv bv lv tv wv) (k:Q0 nob w w'):J0 S w' cb ra ta s kv bv lv tv wv :=
 ⟨h.blk.kept k id,h.inS,h.k.nobk k,h.b.nobk k,h.l.nobk k,h.t.nobk k,h.w.nobk k,h.dis⟩
theorem alloc (h:J0 S w cb ra ta s kv bv lv tv wv) (o:Obj):J0 S (w.alloc o) cb ra ta s kv bv lv tv wv:=h.nobk ((Kr _ _).alloc o)
theorem drew (h:J0 S w cb ra ta s kv bv lv tv wv):J0 S w.drew cb ra ta s kv bv lv tv wv:=h.nobk (Kr _ _).drew
theorem drewN (h:J0 S w cb ra ta s kv bv lv tv wv) (n:Nat):J0 S (w.drewN n) cb ra ta s kv bv lv tv wv:=h.nobk ((Kr _ _).drewN n)
theorem noCb (h:J0 S w cb ra ta s kv bv lv tv wv):kv.ownBlock≠some cb∧bv.ownBlock≠some cb∧lv.ownBlock≠some cb∧tv.ownBlock≠some cb∧wv.ownBlock≠some cb:=by
 have:=h.dis;simp only[List.pairwise_cons] at this;have h1:=this.1;exact⟨h1 _ Sm cb rfl,h1 _ Sm cb rfl,h1 _ Sm cb rfl,h1 _ Sm cb rfl,h1 _ Sm cb rfl⟩
theorem setc (h:J0 S w cb ra ta s kv bv lv tv wv) (i:Nat) (u:Value) (s':CS) (hcs:Qc2 ra ta s' kv bv lv tv wv=(Qc2 ra ta s kv bv lv tv wv).set i u)
  (hk:s'.kinds=s.kinds) (hb:s'.bind=s.bind) (hl:s'.locals=s.locals) (ht:s'.tops=s.tops) (hw:s'.withs=s.withs):J0 S (w.setCell ⟨cb,i,none⟩ u) cb ra ta s' kv bv lv tv wv:=by
 obtain⟨n1,n2,n3,n4,n5⟩:=h.noCb;refine⟨hcs▸h.blk.set i u,h.inS,?_,?_,?_,?_,?_,h.dis⟩
 ·rw[hk];exact h.k.other n1 u
 ·rw[hb];exact h.b.other n2 u
 ·rw[hl];exact h.l.other n3 u
 ·rw[ht];exact h.t.other n4 u
 ·rw[hw];exact h.w.other n5 u
theorem setCode (h:J0 S w cb ra ta s kv bv lv tv wv) (c:Int):J0 S (w.setCell ⟨cb,2,none⟩ (.int .i64 c)) cb ra ta {s with code:=c} kv bv lv tv wv:=h.setc 2 _ _ rfl rfl rfl rfl rfl rfl
theorem setNode (h:J0 S w cb ra ta s kv bv lv tv wv) (c:Int):J0 S (w.setCell ⟨cb,3,none⟩ (.int .i64 c)) cb ra ta {s with node:=c} kv bv lv tv wv:=h.setc 3 _ _ rfl rfl rfl rfl rfl rfl
theorem setTop (h:J0 S w cb ra ta s kv bv lv tv wv) (c:Int):J0 S (w.setCell ⟨cb,8,none⟩ (.int .i64 c)) cb ra ta {s with top:=c} kv bv lv tv wv:=h.setc 8 _ _ rfl rfl rfl rfl rfl rfl
theorem setEach (h:J0 S w cb ra ta s kv bv lv tv wv) (c:Bool):J0 S (w.setCell ⟨cb,10,none⟩ (.bool c)) cb ra ta {s with inEach:=c} kv bv lv tv wv:=h.setc 10 _ _ rfl rfl rfl rfl rfl rfl
theorem setHear (h:J0 S w cb ra ta s kv bv lv tv wv) (c:Bool):J0 S (w.setCell ⟨cb,11,none⟩ (.bool c)) cb ra ta {s with inHear:=c} kv bv lv tv wv:=h.setc 11 _ _ rfl rfl rfl rfl rfl rfl
theorem sepAll (h:J0 S w cb ra ta s kv bv lv tv wv):sep kv.ownBlock bv.ownBlock∧sep kv.ownBlock lv.ownBlock∧sep kv.ownBlock tv.ownBlock∧sep kv.ownBlock wv.ownBlock∧sep bv.ownBlock lv.ownBlock∧sep bv.ownBlock tv.ownBlock∧sep bv.ownBlock wv.ownBlock
  ∧sep lv.ownBlock tv.ownBlock∧sep lv.ownBlock wv.ownBlock∧sep tv.ownBlock wv.ownBlock:=by
 have:=h.dis;simp only[List.pairwise_cons,List.mem_cons,List.not_mem_nil,or_false,forall_eq_or_imp,forall_eq] at this;obtain⟨_,⟨a,b,c,d⟩,⟨e,f,g⟩,⟨p,q⟩,x,_⟩:=this;exact⟨a,b,c,d,e,f,g,p,q,x⟩
theorem sep_symm {a b:Option Nat} (h:sep a b):sep b a:=fun k hb ha=>h k ha hb
theorem setK (h:J0 S w cb ra ta s kv bv lv tv wv) {g:Nat} (hg:kv.ownBlock=some g) (i x:Int) (hi:0≤i):J0 S (w.setCell ⟨g,i.toNat,none⟩ (.int .i64 x)) cb ra ta (s.setKind i x) kv bv lv tv wv:=by
 obtain⟨n1,n2,n3,n4,n5⟩:=h.noCb;obtain⟨a,b,c,d,e,f,g',p,q,z⟩:=h.sepAll;refine⟨?_,h.inS,?_,h.b.other (p:=⟨g,i.toNat,none⟩) (a g hg) _,h.l.other (p:=⟨g,i.toNat,none⟩) (b g hg) _,h.t.other (p:=⟨g,i.toNat,none⟩) (c g hg) _,h.w.other (p:=⟨g,i.toNat,none⟩) (d g hg) _,h.dis⟩
 ·exact h.blk.other (fun e=>n1 (by rw[hg,e])) _
 ·have:=h.k.set hg i.toNat (.int .i64 x)
  rwa [show (Q5 s.kinds).set i.toNat (.int .i64 x)=Q5 (s.setKind i x).kinds from by simp[Q5,CS.setKind,List.map_set]] at this
theorem setB (h:J0 S w cb ra ta s kv bv lv tv wv) {g:Nat} (hg:bv.ownBlock=some g) (i x:Int) (hi:0≤i):J0 S (w.setCell ⟨g,i.toNat,none⟩ (.int .i64 x)) cb ra ta (s.setBind i x) kv bv lv tv wv:=by
 obtain⟨n1,n2,n3,n4,n5⟩:=h.noCb;obtain⟨a,b,c,d,e,f,g',p,q,z⟩:=h.sepAll;refine⟨?_,h.inS,h.k.other (p:=⟨g,i.toNat,none⟩) (sep_symm a g hg) _,?_,h.l.other (p:=⟨g,i.toNat,none⟩) (e g hg) _,h.t.other (p:=⟨g,i.toNat,none⟩) (f g hg) _,h.w.other (p:=⟨g,i.toNat,none⟩) (g' g hg) _,h.dis⟩
 ·exact h.blk.other (fun e=>n2 (by rw[hg,e])) _
 ·have:=h.b.set hg i.toNat (.int .i64 x)
  rwa [show (Q5 s.bind).set i.toNat (.int .i64 x)=Q5 (s.setBind i x).bind from by simp[Q5,CS.setBind,List.map_set]] at this
theorem swapL (h:J0 S w cb ra ta s kv bv lv tv wv) {w1:World} {u:Value} {l1:List Int} (hl:Qc S 3 w1 u (Q5 l1)) (hk:Q0 (fun k=>lv.ownBlock=some k) w w1)
  (hat:u.ownBlock=lv.ownBlock∨u.ownBlock=none∨∃b,u.ownBlock=some b∧w.heap.size≤b):J0 S (w1.setCell ⟨cb,6,none⟩ u) cb ra ta {s with locals:=l1} kv bv u tv wv:=by
 obtain⟨n1,n2,n3,n4,n5⟩:=h.noCb;obtain⟨a,b,c,d,e,f,g,p,q,z⟩:=h.sepAll
 have hcu:u.ownBlock≠some cb:=by
  rcases hat with hat|hat|⟨x,hat,hx⟩
  ·rw[hat];exact n3
  ·rw[hat];simp
  ·rw[hat];have:=h.blk.lt;simp;omega
 have o0:sep kv.ownBlock u.ownBlock:=by
  rcases hat with hat|hat|⟨x,hat,hx⟩
  ·rw[hat];exact b
  ·rw[hat];intro k _;simp
  ·exact K09
 have o1:sep bv.ownBlock u.ownBlock:=by
  rcases hat with hat|hat|⟨x,hat,hx⟩
  ·rw[hat];exact e
  ·rw[hat];intro k _;simp
  ·exact K0a
 have o3:sep tv.ownBlock u.ownBlock:=by
  rcases hat with hat|hat|⟨x,hat,hx⟩
  ·rw[hat];exact (sep_symm p)
  ·rw[hat];intro k _;simp
  ·rw[hat];intro k hk hc;have h1:=h.t.lt k hk;cases hc;omega
 have o4:sep wv.ownBlock u.ownBlock:=by
  rcases hat with hat|hat|⟨x,hat,hx⟩
  ·rw[hat];exact (sep_symm q)
  ·rw[hat];intro k _;simp
  ·rw[hat];intro k hk hc;have h1:=h.w.lt k hk;cases hc;omega
 refine⟨?_,h.inS,(h.k.kept hk (fun k hk=>fun hv=>b k hk hv)).other (p:=⟨cb,6,none⟩) n1 _,(h.b.kept hk (fun k hk=>fun hv=>e k hk hv)).other (p:=⟨cb,6,none⟩) n2 _,hl.other (p:=⟨cb,6,none⟩) hcu _,(h.t.kept hk (fun k hk=>fun hv=>(sep_symm p) k hk hv)).other (p:=⟨cb,6,none⟩) n4 _,(h.w.kept hk (fun k hk=>fun hv=>(sep_symm q) k hk hv)).other (p:=⟨cb,6,none⟩) n5 _,?_⟩
 ·exact (h.blk.kept hk n3).set 6 u
 ·simp only[List.pairwise_cons,List.mem_cons,List.not_mem_nil,or_false,forall_eq_or_imp,forall_eq]
  have cbs:∀x:Option Nat,x≠some cb→sep (some cb) x:=fun x hx k hk hc=>hx (by cases hk;exact hc)
  exact⟨⟨cbs _ n1,cbs _ n2,cbs _ hcu,cbs _ n4,cbs _ n5⟩,⟨a,o0,c,d⟩,⟨o1,f,g⟩,⟨sep_symm o3,sep_symm o4⟩,z,fun _ h=>h.elim,List.Pairwise.nil⟩
theorem swapT (h:J0 S w cb ra ta s kv bv lv tv wv) {w1:World} {u:Value} {l1:List Int} (hl:Qc S 3 w1 u (Q5 l1)) (hk:Q0 (fun k=>tv.ownBlock=some k) w w1)
  (hat:u.ownBlock=tv.ownBlock∨u.ownBlock=none∨∃b,u.ownBlock=some b∧w.heap.size≤b):J0 S (w1.setCell ⟨cb,7,none⟩ u) cb ra ta {s with tops:=l1} kv bv lv u wv:=by
 obtain⟨n1,n2,n3,n4,n5⟩:=h.noCb;obtain⟨a,b,c,d,e,f,g,p,q,z⟩:=h.sepAll
 have hcu:u.ownBlock≠some cb:=by
  rcases hat with hat|hat|⟨x,hat,hx⟩
  ·rw[hat];exact n4
  ·rw[hat];simp
  ·rw[hat];have:=h.blk.lt;simp;omega
 have o0:sep kv.ownBlock u.ownBlock:=by
  rcases hat with hat|hat|⟨x,hat,hx⟩
  ·rw[hat];exact c
  ·rw[hat];intro k _;simp
  ·exact K09
 have o1:sep bv.ownBlock u.ownBlock:=by
  rcases hat with hat|hat|⟨x,hat,hx⟩
  ·rw[hat];exact f
  ·rw[hat];intro k _;simp
  ·exact K0a
 have o2:sep lv.ownBlock u.ownBlock:=by
  rcases hat with hat|hat|⟨x,hat,hx⟩
  ·rw[hat];exact p
  ·rw[hat];intro k _;simp
  ·rw[hat];intro k hk hc;have h1:=h.l.lt k hk;cases hc;omega
 have o4:sep wv.ownBlock u.ownBlock:=by
  rcases hat with hat|hat|⟨x,hat,hx⟩
  ·rw[hat];exact (sep_symm z)
  ·rw[hat];intro k _;simp
  ·rw[hat];intro k hk hc;have h1:=h.w.lt k hk;cases hc;omega
 refine⟨?_,h.inS,(h.k.kept hk (fun k hk=>fun hv=>c k hk hv)).other (p:=⟨cb,7,none⟩) n1 _,(h.b.kept hk (fun k hk=>fun hv=>f k hk hv)).other (p:=⟨cb,7,none⟩) n2 _,(h.l.kept hk (fun k hk=>fun hv=>p k hk hv)).other (p:=⟨cb,7,none⟩) n3 _,hl.other (p:=⟨cb,7,none⟩) hcu _,(h.w.kept hk (fun k hk=>fun hv=>(sep_symm z) k hk hv)).other (p:=⟨cb,7,none⟩) n5 _,?_⟩
 ·exact (h.blk.kept hk n4).set 7 u
 ·simp only[List.pairwise_cons,List.mem_cons,List.not_mem_nil,or_false,forall_eq_or_imp,forall_eq]
  have cbs:∀x:Option Nat,x≠some cb→sep (some cb) x:=fun x hx k hk hc=>hx (by cases hk;exact hc)
  exact⟨⟨cbs _ n1,cbs _ n2,cbs _ n3,cbs _ hcu,cbs _ n5⟩,⟨a,b,o0,d⟩,⟨e,o1,g⟩,⟨o2,q⟩,sep_symm o4,fun _ h=>h.elim,List.Pairwise.nil⟩
theorem swapW (h:J0 S w cb ra ta s kv bv lv tv wv) {w1:World} {u:Value} {l1:List Int} (hl:Qc S 3 w1 u (Q5 l1)) (hk:Q0 (fun k=>wv.ownBlock=some k) w w1)
  (hat:u.ownBlock=wv.ownBlock∨u.ownBlock=none∨∃b,u.ownBlock=some b∧w.heap.size≤b):J0 S (w1.setCell ⟨cb,9,none⟩ u) cb ra ta {s with withs:=l1} kv bv lv tv u:=by
 obtain⟨n1,n2,n3,n4,n5⟩:=h.noCb;obtain⟨a,b,c,d,e,f,g,p,q,z⟩:=h.sepAll
 have hcu:u.ownBlock≠some cb:=by
  rcases hat with hat|hat|⟨x,hat,hx⟩
  ·rw[hat];exact n5
  ·rw[hat];simp
  ·rw[hat];have:=h.blk.lt;simp;omega
 have o0:sep kv.ownBlock u.ownBlock:=by
  rcases hat with hat|hat|⟨x,hat,hx⟩
  ·rw[hat];exact d
  ·rw[hat];intro k _;simp
  ·exact K09
 have o1:sep bv.ownBlock u.ownBlock:=by
  rcases hat with hat|hat|⟨x,hat,hx⟩
  ·rw[hat];exact g
  ·rw[hat];intro k _;simp
  ·exact K0a
 have o2:sep lv.ownBlock u.ownBlock:=by
  rcases hat with hat|hat|⟨x,hat,hx⟩
  ·rw[hat];exact q
  ·rw[hat];intro k _;simp
  ·rw[hat];intro k hk hc;have h1:=h.l.lt k hk;cases hc;omega
 have o3:sep tv.ownBlock u.ownBlock:=by
  rcases hat with hat|hat|⟨x,hat,hx⟩
  ·rw[hat];exact z
  ·rw[hat];intro k _;simp
  ·rw[hat];intro k hk hc;have h1:=h.t.lt k hk;cases hc;omega
 refine⟨?_,h.inS,(h.k.kept hk (fun k hk=>fun hv=>d k hk hv)).other (p:=⟨cb,9,none⟩) n1 _,(h.b.kept hk (fun k hk=>fun hv=>g k hk hv)).other (p:=⟨cb,9,none⟩) n2 _,(h.l.kept hk (fun k hk=>fun hv=>q k hk hv)).other (p:=⟨cb,9,none⟩) n3 _,(h.t.kept hk (fun k hk=>fun hv=>z k hk hv)).other (p:=⟨cb,9,none⟩) n4 _,hl.other (p:=⟨cb,9,none⟩) hcu _,?_⟩
 ·exact (h.blk.kept hk n5).set 9 u
 ·simp only[List.pairwise_cons,List.mem_cons,List.not_mem_nil,or_false,forall_eq_or_imp,forall_eq]
  have cbs:∀x:Option Nat,x≠some cb→sep (some cb) x:=fun x hx k hk hc=>hx (by cases hk;exact hc)
  exact⟨⟨cbs _ n1,cbs _ n2,cbs _ n3,cbs _ n4,cbs _ hcu⟩,⟨a,b,c,o0⟩,⟨e,f,o1⟩,⟨p,o2⟩,o3,fun _ h=>h.elim,List.Pairwise.nil⟩
end J0
theorem Q0.cb {cb:Nat} {w0 w:World} (h:Q0 (fun k=>k=cb) w0 w) (i:Nat) (u:Value):Q0 (fun k=>k=cb) w0 (w.setCell ⟨cb,i,none⟩ u):=h.setCell (p:=⟨cb,i,none⟩) (Or.inl rfl) u
theorem Qc.openI {S:Nat→Prop} {w:World} {v:Value} {xs:List Int} (h:Qc S 3 w v (Q5 xs)) :
  ∃A g c,v=.slice A xs.length c∧xs.length≤9223372036854775807∧xs.length≤c∧(0<xs.length→A=some ⟨g,0,none⟩∧S g∧v.ownBlock=some g) ∧
   ∀j x,xs[j]?=some x→w.cell? ⟨g,j,none⟩=some (.int .i64 x)∧w.frozen? ⟨g,j,none⟩=false:=by
 obtain⟨A,b,c,hv,h1,h2,h3,h4⟩:=h.opened;exact⟨A,b,c,by simpa[Q5] using hv,by simpa[Q5] using h1,by simpa[Q5] using h2,by simpa[Q5] using h3,fun j x hx=>h4 j _ (by simp[Q5,hx])⟩
theorem CS.kindAt_of {s:CS} {j:Nat} {x:Int} (h:s.kinds[j]?=some x):s.kindAt (j:Int)=x:=by simp[CS.kindAt,h]
section
variable {S:Nat→Prop} {w:World} {cb rb ro tb to:Nat} {s:CS} {kv bv lv tv wv:Value}
def Q31 (S:Nat→Prop) (w:World) (cb:Nat) (ra ta:Addr) (s:CS) (kv bv lv tv wv:Value) (w':World):Prop:=J0 S w' cb ra ta s kv bv lv tv wv∧Q0 (fun k=>k=cb) w w'
theorem Ze {ra ta:Addr} (h:J0 S w cb ra ta s kv bv lv tv wv) (code node:Int) :
  Calls prog 92 #[.pointer (some ⟨cb,0,none⟩),.int .i64 code,.int .i64 node] w fun e w'=>e=.returned (.tuple #[])∧Q31 S w cb ra ta (s.fail code node) kv bv lv tv wv w':=by
 have c2:w.cell? ⟨cb,2,none⟩=some (.int .i64 s.code):=h.blk.cell 2 _ rfl;have c3:w.cell? ⟨cb,3,none⟩=some (.int .i64 s.node):=h.blk.cell 3 _ rfl;have q2:=h.blk.free 2;have q3:=h.blk.free 3;have H:=Hh h;clear h
 by_cases hc:s.code=0
 ·go_enter func92,ntmps92
  go_wp2;go_returns;refine⟨rfl,?_,((Kr _ _).cb _ _).cb _ _⟩;have:=(H.o.setCode code).setNode node;simpa[CS.fail,hc] using this
 ·go_enter func92,ntmps92
  go_wp2;go_returns;refine⟨rfl,?_,Kr _ _⟩;simpa[CS.fail,hc] using H.o
theorem Xp {ra ta:Addr} (h:J0 S w cb ra ta s kv bv lv tv wv) (kid kind node:Int) (h0:0≤kid) (h1:kid<s.kinds.length) :
  Calls prog 197 #[.pointer (some ⟨cb,0,none⟩),.int .i64 kid,.int .i64 kind,.int .i64 node] w fun e w'=>e=.returned (.tuple #[])∧Q31 S w cb ra ta (Qp s kid kind node) kv bv lv tv wv w':=by
 obtain⟨m,rfl⟩:=En h0;obtain⟨x,hx⟩:=Q4 (xs:=s.kinds) (j:=m) Om;have hxk:=CS.kindAt_of hx;have c4:w.cell? ⟨cb,4,none⟩=some kv:=h.blk.cell 4 _ rfl;obtain⟨A,g,c,hv,hl,hlc,hA,hc⟩:=h.k.openI;obtain⟨k0,k1⟩:=hc m x hx;obtain⟨rfl,_,_⟩:=hA Om;have H:=Hh h;have HX:=Hh hxk;clear h hc hx hxk;subst hv
 by_cases hk:x=kind
 ·have t1:(x != kind)=false:=by simp[hk]
  have HK:=Hh hk;clear hk;go_enter func197,ntmps197;go_wp2_with fail;go_returns;refine⟨rfl,?_,Kr _ _⟩;rw[Qp,HX.o,Ps HK.o];exact H.o
 ·have t1:(x != kind)=true:=by simp[hk]
  have HK:=Hh hk;clear hk;go_enter func197,ntmps197;go_wp2_with (go_at_call 92;refine (Ze H.o _ _).mono ?_;rintro e w1 ⟨rfl,hat⟩);go_returns;refine⟨rfl,?_⟩;rw[Qp,HX.o,Ng HK.o];exact hat
theorem Q2z {ta:Addr} (h:J0 S w cb ⟨rb,ro,none⟩ ta s kv bv lv tv wv) (r:Reg) (hr:Xa w rb ro r) (sort:Int) (name:ByteArray) (node:Int) :
  Calls prog 199 #[.pointer (some ⟨cb,0,none⟩),.int .i64 sort,.string name,.int .i64 node] w fun e w'=>e=.returned (.int .i64 (J4 r s sort name node).1)∧Q31 S w cb ⟨rb,ro,none⟩ ta (J4 r s sort name node).2 kv bv lv tv wv w':=by
 have H:=Hh h;have HR:=Hh hr;have c0:w.cell? ⟨cb,0,none⟩=some (.pointer (some ⟨rb,ro,none⟩)):=h.blk.cell 0 _ rfl;have HS0:Hi (∀W,Q0 nob w W→W.cell? ⟨cb,0,none⟩=some (.pointer (some ⟨rb,ro,none⟩))):=Hh fun W hk=>hk.cell (fun h=>h) c0
 clear h hr
 by_cases hk:r.find sort name<0
 ·have t1:decide (r.find sort name<0)=true:=by simpa using hk
  have HK:=Hh hk;clear hk;go_enter func199,ntmps199;go_wp2_with (first|(go_at_call 126;refine (Yi rb ro r _ _ _ HR.o).mono ?_;rintro e w1 ⟨rfl,hk1⟩)|(go_at_call 92;refine (Ze (H.o.nobk hk1) _ _).mono ?_;rintro e w2 ⟨rfl,hat⟩));go_returns;rw[J4,Ps HK.o];exact⟨rfl,hat.1,(hk1.ofNob _).trans hat.2⟩
 ·have t1:decide (r.find sort name<0)=false:=by simpa using hk
  have HK:=Hh hk;clear hk;go_enter func199,ntmps199;go_wp2_with (first|(go_at_call 126;refine (Yi rb ro r _ _ _ HR.o).mono ?_;rintro e w1 ⟨rfl,hk1⟩;have c1:=HS0.o w1 hk1)|(go_at_call 214;refine (Q8i rb ro r _ _ _ (HR.o.old hk1.old)).mono ?_;rintro e w2 ⟨rfl,rfl⟩));go_returns;rw[J4,Ng (by have:=HK.o;omega)];exact⟨rfl,H.o.nobk hk1,hk1.ofNob _⟩
theorem Q7v {ta:Addr} (h:J0 S w cb ⟨rb,ro,none⟩ ta s kv bv lv tv wv) (r:Reg) (hr:Xa w rb ro r) (hm:s.withs.length≤140737488355328) (name:ByteArray) (node:Int) :
  Calls prog 198 #[.pointer (some ⟨cb,0,none⟩),.string name,.int .i64 node] w fun e w'=>e=.returned (.int .i64 (Qi r s name node).1)∧Q31 S w cb ⟨rb,ro,none⟩ ta (Qi r s name node).2 kv bv lv tv wv w':=by
 have H:=Hh h;have HR:=Hh hr;have c0:w.cell? ⟨cb,0,none⟩=some (.pointer (some ⟨rb,ro,none⟩)):=h.blk.cell 0 _ rfl;have c9:w.cell? ⟨cb,9,none⟩=some wv:=h.blk.cell 9 _ rfl;have HS0:Hi (∀W,Q0 nob w W→W.cell? ⟨cb,0,none⟩=some (.pointer (some ⟨rb,ro,none⟩))∧W.cell? ⟨cb,9,none⟩=some wv):=Hh fun W hk=>⟨hk.cell (fun h=>h) c0,hk.cell (fun h=>h) c9⟩
 have HW:=Hh (h.w.ints hm);clear h hr
 by_cases hk:r.find 1 name<0
 ·have t1:decide (r.find 1 name<0)=true:=by simpa using hk
  have HK:=Hh hk;clear hk;go_enter func198,ntmps198;go_wp2_with (first|(go_at_call 126;refine (Yi rb ro r _ _ _ HR.o).mono ?_;rintro e w1 ⟨rfl,hk1⟩;obtain⟨d0,d9⟩:=HS0.o w1 hk1)|(go_at_call 92;refine (Ze (H.o.nobk hk1) _ _).mono ?_;rintro e w2 ⟨rfl,hat⟩)|(go_at_call 78;refine (Zp _ s.withs _ _ (HW.o.old hk1.old)).mono ?_;rintro e w3 ⟨rfl,rfl⟩)|(go_at_call 214;refine (Q8i rb ro r _ _ _ (HR.o.old hk1.old)).mono ?_;rintro e w2 ⟨rfl,rfl⟩));go_returns;rw[Qi,Ps HK.o];exact⟨rfl,hat.1,(hk1.ofNob _).trans hat.2⟩
 ·have t1:decide (r.find 1 name<0)=false:=by simpa using hk
  have HK:=Hh hk;clear hk;cases t2:Zr (r.find 1 name) s.withs with
  |false =>
   go_enter func198,ntmps198;go_wp2_with (first|(go_at_call 126;refine (Yi rb ro r _ _ _ HR.o).mono ?_;rintro e w1 ⟨rfl,hk1⟩;obtain⟨d0,d9⟩:=HS0.o w1 hk1)|(go_at_call 92;refine (Ze (H.o.nobk hk1) _ _).mono ?_;rintro e w2 ⟨rfl,hat⟩)|(go_at_call 78;refine (Zp _ s.withs _ _ (HW.o.old hk1.old)).mono ?_;rintro e w3 ⟨rfl,rfl⟩)|(go_at_call 214;refine (Q8i rb ro r _ _ _ (HR.o.old hk1.old)).mono ?_;rintro e w2 ⟨rfl,rfl⟩));go_returns;rw[Qi,Ng (by have:=HK.o;omega),Ng (by rw[t2];simp)];exact⟨rfl,hat.1,(hk1.ofNob _).trans hat.2⟩
  |true =>
   go_enter func198,ntmps198;go_wp2_with (first|(go_at_call 126;refine (Yi rb ro r _ _ _ HR.o).mono ?_;rintro e w1 ⟨rfl,hk1⟩;obtain⟨d0,d9⟩:=HS0.o w1 hk1)|(go_at_call 92;refine (Ze (H.o.nobk hk1) _ _).mono ?_;rintro e w2 ⟨rfl,hat⟩)|(go_at_call 78;refine (Zp _ s.withs _ _ (HW.o.old hk1.old)).mono ?_;rintro e w3 ⟨rfl,rfl⟩)|(go_at_call 214;refine (Q8i rb ro r _ _ _ (HR.o.old hk1.old)).mono ?_;rintro e w2 ⟨rfl,rfl⟩));go_returns;rw[Qi,Ng (by have:=HK.o;omega),Ps t2];exact⟨rfl,H.o.nobk hk1,hk1.ofNob _⟩
end
theorem Q7a {t:Q1} {l:List Int} {name:ByteArray} {j:Nat} {k:Int} (hj:l[j]?=some k) (hno:∀i x,i<j→l[i]?=some x→(t.at x).text≠name) (he:(t.at k).text=name):Q3 t l name=k:=by
 induction l generalizing j with
 |nil=>simp at hj
 |cons y ys ih =>
  cases j with
  |zero=>simp at hj;subst hj;simp[Q3,he]
  |succ j =>
   have h0:=hno 0 y Om rfl;simp only[Q3,Ng h0];exact ih (j:=j) (by simpa using hj) (fun i x hi hx=>hno (i+1) x Om (by simpa using hx))
theorem Q6y {t:Q1} {l:List Int} {name:ByteArray} (hno:∀i x,i<l.length→l[i]?=some x→(t.at x).text≠name):Q3 t l name = -1:=by
 induction l with
 |nil=>rfl
 |cons y ys ih =>
  have h0:=hno 0 y Sm rfl;simp only[Q3,Ng h0];exact ih (fun i x hi hx=>hno (i+1) x So (by simpa using hx))
section
variable {S:Nat→Prop} {w:World} {cb tb to:Nat} {s:CS} {kv bv lv tv wv:Value}
theorem Q0f {ra:Addr} (h:J0 S w cb ra ⟨tb,to,none⟩ s kv bv lv tv wv) (t:Q1) (ht:J8 w tb to t) (hin:∀k∈s.locals,0≤k∧k<t.nodes.length) (name:ByteArray) :
  Calls prog 196 #[.pointer (some ⟨cb,0,none⟩),.string name] w fun e w'=>e=.returned (.int .i64 (Q3 t s.locals name))∧w=w':=by
 have c1:w.cell? ⟨cb,1,none⟩=some (.pointer (some ⟨tb,to,none⟩)):=h.blk.cell 1 _ rfl;have c6:w.cell? ⟨cb,6,none⟩=some lv:=h.blk.cell 6 _ rfl;have Qpb:=h.l.openI;obtain⟨A,g,c,hv,hl,hlc,hA,hc⟩:=Qpb;obtain⟨nv,tv2,n0,n1,hnv,_⟩:=ht;obtain⟨nA,nb,no,nc,rfl,hnl,Qpf,hnA,hnc⟩:=hnv;have HC:=Hh hc;have HNC:=Hh hnc;have HL:=Hh hin;subst hv;clear hc hnc hin h;go_enter func196,ntmps196;go_wp2_with fail;go_loop [6,12] (fun u i=>∃j:Nat,j≤s.locals.length∧i=.int .i64 j∧Hi (∀i x,i<j→s.locals[i]?=some x→(t.at x).text≠name)) (fun _ i=>s.locals.length-(intOf i).toNat)
 case atStart=>exact⟨0,Nat.zero_le _,rfl,Hh fun i x hi _=>absurd hi Om⟩
 case round =>
  obtain⟨j,hj,rfl,HNO⟩:=hrel
  by_cases hlt:j<s.locals.length
  ·obtain⟨x,hx⟩:=Q4 hlt
   have hxb:=HL.o x (Mg hx);obtain⟨m,rfl⟩:=En hxb.1;obtain⟨nd,hnd⟩:=Q4 (xs:=t.nodes) (j:=m) Om;obtain⟨e0,_⟩:=HC.o j _ hx;obtain⟨kx,_,e1,_⟩:=HNC.o m nd hnd;have hat:=Q1.at_of hnd;have HX:=Hh hx;have HAT:=Hh hat;obtain⟨rfl,_,_⟩:=hA Om;obtain rfl:=hnA Om;have hml:(m:Int)<t.nodes.length:=hxb.2;clear hx hnd hat hxb hA hnA;cases ty:(nd.text.toList==name.toList) with
   |true =>
    go_wp2_with fail;go_ret
    refine⟨Jo (Q7a HX.o (fun i x hi hx=>HNO.o i x hi hx) (by rw[HAT.o];exact Q04 ty)).symm,rfl⟩
   |false =>
    go_wp2_with fail;go_round
    case rel =>
     refine⟨j+1,Om,Gm,Hh fun i x hi hx=>?_⟩
     by_cases e:i=j
     ·subst e;rw[HX.o] at hx;cases hx;rw[HAT.o];exact Q1p ty
     ·exact HNO.o i x Om hx
    case measure=>exact Me
  ·go_wp2_with fail
   go_ret;obtain rfl:j=s.locals.length:=Om
   exact⟨Jo (Q6y HNO.o).symm,rfl⟩
theorem Q3t {ra:Addr} (h:J0 S w cb ra ⟨tb,to,none⟩ s kv bv lv tv wv) (t:Q1) (ht:J8 w tb to t) (hin:∀k∈s.tops,0≤k∧k<t.nodes.length) (name:ByteArray) :
  Calls prog 91 #[.pointer (some ⟨cb,0,none⟩),.string name] w fun e w'=>e=.returned (.int .i64 (Q3 t s.tops name))∧w=w':=by
 have c1:w.cell? ⟨cb,1,none⟩=some (.pointer (some ⟨tb,to,none⟩)):=h.blk.cell 1 _ rfl;have c7:w.cell? ⟨cb,7,none⟩=some tv:=h.blk.cell 7 _ rfl;have Qpb:=h.t.openI;obtain⟨A,g,c,hv,hl,hlc,hA,hc⟩:=Qpb;obtain⟨nv,tv2,n0,n1,hnv,_⟩:=ht;obtain⟨nA,nb,no,nc,rfl,hnl,Qpf,hnA,hnc⟩:=hnv;have HC:=Hh hc;have HNC:=Hh hnc;have HL:=Hh hin;subst hv;clear hc hnc hin h;go_enter func91,ntmps91;go_wp2_with fail;go_loop [6,12] (fun u i=>∃j:Nat,j≤s.tops.length∧i=.int .i64 j∧Hi (∀i x,i<j→s.tops[i]?=some x→(t.at x).text≠name)) (fun _ i=>s.tops.length-(intOf i).toNat)
 case atStart=>exact⟨0,Nat.zero_le _,rfl,Hh fun i x hi _=>absurd hi Om⟩
 case round =>
  obtain⟨j,hj,rfl,HNO⟩:=hrel
  by_cases hlt:j<s.tops.length
  ·obtain⟨x,hx⟩:=Q4 hlt
   have hxb:=HL.o x (Mg hx);obtain⟨m,rfl⟩:=En hxb.1;obtain⟨nd,hnd⟩:=Q4 (xs:=t.nodes) (j:=m) Om;obtain⟨e0,_⟩:=HC.o j _ hx;obtain⟨kx,_,e1,_⟩:=HNC.o m nd hnd;have hat:=Q1.at_of hnd;have HX:=Hh hx;have HAT:=Hh hat;obtain⟨rfl,_,_⟩:=hA Om;obtain rfl:=hnA Om;have hml:(m:Int)<t.nodes.length:=hxb.2;clear hx hnd hat hxb hA hnA;cases ty:(nd.text.toList==name.toList) with
   |true =>
    go_wp2_with fail;go_ret
    refine⟨Jo (Q7a HX.o (fun i x hi hx=>HNO.o i x hi hx) (by rw[HAT.o];exact Q04 ty)).symm,rfl⟩
   |false =>
    go_wp2_with fail;go_round
    case rel =>
     refine⟨j+1,Om,Gm,Hh fun i x hi hx=>?_⟩
     by_cases e:i=j
     ·subst e;rw[HX.o] at hx;cases hx;rw[HAT.o];exact Q1p ty
     ·exact HNO.o i x Om hx
    case measure=>exact Me
  ·go_wp2_with fail
   go_ret;obtain rfl:j=s.tops.length:=Om
   exact⟨Jo (Q6y HNO.o).symm,rfl⟩
end
end Go.Proofs.YtkgkafjachjafaaGreat
