/- Part 47 of x_holds; no condition. -/
import Derived.Test.YtkgkafjachjafaaGreatZ42
import Derived.Test.YtkgkafjachjafaaGreatZ44
import Derived.Test.YtkgkafjachjafaaGreatZ45
set_option linter.unusedVariables false
set_option maxHeartbeats 4000000
set_option maxRecDepth 100000
open Go Go.RowKit
namespace Go.Proofs.YtkgkafjachjafaaGreat
open Tryz
def Zz (top:Int):List Int→Int→Int
 |[],a=>a
 |i::l,a=>Zz top l (if i<top then i+1 else a)
def Xl (t:Q1) (top:Int):Int:=Zz top t.tops 0
theorem Qdf (t:Q1) (b o:Nat) (top:Int) (w:World) (h:J7 w b o t) (ht:∀i∈t.tops,InT t i) :
  Calls prog 42 #[.pointer (some ⟨b,o,none⟩),.int .i64 top] w fun e w'=>e=.returned (.int .i64 (Xl t top))∧w=w':=by
 obtain⟨v0,v1,h0,h1,⟨_,_,_,_,_,hnl,_⟩,⟨A,tb,tq,c,rfl,hl,hlc,hA,hc⟩⟩:=h;have HC:=Hh hc;have HT:=Hh ht;obtain⟨X,hX⟩:∃X,X=Xl t top:=⟨_,rfl⟩;have HX:Hi (X=Zz top (t.tops.drop 0) 0):=Hh hX;rw[← hX];clear hc hX ht;go_enter func42,ntmps42;go_wp2_with fail;go_loop [5,7,13] (fun a _ k=>∃(j:Nat) (x:Int),j≤t.tops.length∧k=.int .i64 j∧a=.int .i64 x∧Hi (X=Zz top (t.tops.drop j) x)) (fun _ _ k=>t.tops.length-(intOf k).toNat)
 case atStart=>exact⟨0,0,Nat.zero_le _,rfl,rfl,HX⟩
 case round =>
  obtain⟨j,x,hj,rfl,rfl,HR⟩:=hrel
  by_cases hlt:j<t.tops.length
  ·obtain⟨i,hi⟩:=Q3 hlt
   have c0:=HC.o j i hi;obtain rfl:=hA (by omega);have hjn:(j:Int)<(t.tops.length:Int):=by omega
   obtain⟨hi0,hi1⟩:=HT.o i (Mg hi);have hw:IntKind.i64.wrap (i+1)=i+1:=by rw[IntKind.wrap_i64];omega
   have hw2:wrap64 (i+1)=i+1:=by unfold wrap64;omega
   have HN:Hi (X=Zz top (t.tops.drop (j+1)) (if i<top then i+1 else x)):=Hh (by rw[HR.o,Qd hi];rfl);clear hi;cases tc:decide (i<top) with
   |true =>
    go_wp2_with fail;go_round
    case rel=>exact⟨j+1,i+1,by omega,by go_num,rfl,Hh (by rw[HN.o,Ps (of_decide_eq_true tc)])⟩
    case measure=>simp[intOf];omega
   |false =>
    go_wp2_with fail;go_round
    case rel=>exact⟨j+1,x,by omega,by go_num,rfl,Hh (by rw[HN.o,Ng (of_decide_eq_false tc)])⟩
    case measure=>simp[intOf];omega
  ·have hjn:¬ (j:Int)<(t.tops.length:Int):=by omega
   go_wp2_with fail;go_ret;exact⟨Jn (by rw[HR.o,Dn (by omega)];rfl),rfl⟩
theorem Qbc (t:Q1) (b o:Nat) (name:ByteArray) (w:World) (h:J7 w b o t) (ht:∀i∈t.tops,InT t i) :
  Calls prog 39 #[.pointer (some ⟨b,o,none⟩),.string name] w fun e w'=>e=.returned (.int .i64 (Q2 t t.tops name))∧w=w':=by
 obtain⟨v0,v1,h0,h1,⟨nA,nb,no,nc,rfl,hnl,Qom,hnA,hnc⟩,⟨A,tb,tq,c,rfl,hl,hlc,hA,hc⟩⟩:=h;have HC:=Hh hc;have HT:=Hh ht;have HNC:=Hh hnc;obtain⟨X,hX⟩:∃X,X=Q2 t t.tops name:=⟨_,rfl⟩;have HX:Hi (X=Q2 t (t.tops.drop 0) name):=Hh hX;rw[← hX];clear hc hX ht hnc;go_enter func39,ntmps39;go_wp2_with fail;go_loop [6,12] (fun _ k=>∃j:Nat,j≤t.tops.length∧k=.int .i64 j∧Hi (X=Q2 t (t.tops.drop j) name)) (fun _ k=>t.tops.length-(intOf k).toNat)
 case atStart=>exact⟨0,Nat.zero_le _,rfl,HX⟩
 case round =>
  obtain⟨j,hj,rfl,HR⟩:=hrel
  by_cases hlt:j<t.tops.length
  ·obtain⟨i,hi⟩:=Q3 hlt
   have c0:=HC.o j i hi;obtain rfl:=hA (by omega);have hjn:(j:Int)<(t.tops.length:Int):=by omega
   obtain⟨mi,rfl,hn⟩:=Q1.at_lt (HT.o i (Mg hi));have hmn:(mi:Int)<t.nodes.length:=(HT.o _ (Mg hi)).2;obtain⟨kv,_,d1,_⟩:=HNC.o mi _ hn;obtain rfl:=hnA (by omega);have HN:Hi (X=(if (t.at (mi:Int)).text=name then (mi:Int) else Q2 t (t.tops.drop (j+1)) name)):=Hh (by rw[HR.o,Qd hi];rfl);generalize t.at (mi:Int)=nd at *;clear hi hn;cases ty:(nd.text.toList==name.toList) with
   |true =>
    go_wp2_with fail;go_ret;exact⟨Jn (by rw[HN.o,Ps (Q0c ty)]),rfl⟩
   |false =>
    go_wp2_with fail;go_round
    case rel=>exact⟨j+1,by omega,by go_num,Hh (by rw[HN.o,Ng (Q1s ty)])⟩
    case measure=>simp[intOf];omega
  ·have hjn:¬ (j:Int)<(t.tops.length:Int):=by omega
   go_wp2_with fail;go_ret;exact⟨Jn (by rw[HR.o,Dn (by omega)];rfl),rfl⟩
def Q5c (t:Q1):Nat→Int→List Int
 |0,_=>[]
 |n+1,i=>(if (t.at i).kind=7 then [Q2 t t.tops (t.at i).text] else [])++Q5c t n (i+1)
def Ye (t:Q1) (k:Int):List Int:=Q5c t (k-Xl t k).toNat (Xl t k)
def Y6 (t:Q1) (top:Int):List Int:=Jh (Ye t) top 4000
def Qbr (t:Q1) (l:List Int):Prop:=l.Nodup∧∀x∈l,x∈t.tops
theorem Qbr.few {t:Q1} {l:List Int} (h:Qbr t l):l.length≤t.tops.length:=Q6p h.1 h.2
theorem Qk5 {t:Q1} (hC:Q0d t):∀(n:Nat) (i:Int),0≤i→i+n≤t.nodes.length→∀x∈Q5c t n i,x∈t.tops:=by
 intro n
 induction n with
 |zero=>intro i _ _ x hx;cases hx
 |succ n ih =>
  intro i h0 h1 x hx;simp only[Q5c,List.mem_append] at hx;rcases hx with hx|hx
  ·split at hx
   ·rename_i h7
    simp at hx;subst hx;exact (Zl (hC i ⟨h0,by omega⟩ h7)).1
   ·cases hx
  ·exact ih (i+1) (by omega) (by omega) x hx
theorem Q4e (top:Int):∀(l:List Int) (a:Int),0≤a→(∀i∈l,0≤i)→0≤Zz top l a:=by
 intro l
 induction l with
 |nil=>intro a h _;exact h
 |cons i l ih =>
  intro a h hl;simp only[Zz]
  refine ih _ ?_ (fun x hx=>hl x (by simp[hx]))
  split
  ·have:=hl i (by simp);omega
  ·exact h
theorem Q7l {t:Q1} (hC:Q0d t) (ht:∀i∈t.tops,InT t i) {k:Int} (hk:InT t k):∀x∈Ye t k,x∈t.tops:=by
 have h0:=Q4e k t.tops 0 (Int.le_refl 0) (fun i hi=>(ht i hi).1);have h1:=hk.2;intro x hx
 by_cases h:Xl t k≤k
 ·exact Qk5 hC _ _ h0 (by have:Xl t k=Zz k t.tops 0:=rfl;omega) x hx
 ·unfold Ye at hx
  rw[show (k-Xl t k).toNat=0 by omega] at hx;cases hx
theorem Q53 {t:Q1} (hC:Q0d t) (ht:∀i∈t.tops,InT t i) {top:Int} (hk:InT t top) (j:Nat):Qbr t (Jh (Ye t) top j) :=
 ⟨Q65 _ _ _,Q21 (Ye t) top (P:=fun x=>x∈t.tops) (Q7l hC ht hk) (fun y hy=>Q7l hC ht (ht y hy)) j⟩
def Zn (t:Q1) (top:Int):Nat→List Int
 |0=>[]
 |s+1=>Jh (Ye t) top s
theorem Qbd {t:Q1} {top x:Int} {s:Nat} (h:(top::Zn t top s)[s]?=some x):Zn t top (s+1)=grow (Zn t top s) (Ye t x):=by
 cases s with
 |zero=>simp at h;subst h;rfl
 |succ s =>
  simp only[Zn,List.getElem?_cons_succ] at h ⊢;simp only[Jh];rw[h]
structure Q8s (t:Q1) (w:World) (fv qv:Value) (wr:World) (g:Nat) (l q:List Int):Prop where
 f:Qf (Q7 w.heap.size) 3 wr fv (Q4 l)
 q:IsQ wr qv q g
 ne:fv.ownBlock≠some g
 gn:w.heap.size≤g
 k:Q0 (Q7 w.heap.size) w wr
 ti:Qbr t l
theorem Q8s.more {t:Q1} {w:World} {fv qv:Value} {wi w5 w6:World} {g:Nat} {l q:List Int} (h:Q8s t w fv qv wi g l q) {k:Int} (hk:k∈t.tops) (hn:k∉l) {v5 v6:Value} {g6:Nat}
  (h5:Qf (Q7 w.heap.size) 3 w5 v5 (Q4 l++[.int .i64 k])) (k5:Q0 (own fv) wi w5) (a5:v5.ownBlock=fv.ownBlock∨∃b,v5.ownBlock=some b∧wi.heap.size≤b)
  (h6:IsQ w6 v6 (q++[k]) g6) (k6:Q0 (fun b=>b=g) w5 w6) (a6:g6=g∨w5.heap.size≤g6):Q8s t w v5 v6 w6 g6 (l++[k]) (q++[k]):=by
 have hg:=h.q.lt;have h50:wi.heap.size≤w5.heap.size:=k5.size
 have hne:v5.ownBlock≠some g:=fun e=>by
  rcases a5 with a|⟨b,a,hb⟩
  ·exact h.ne (a.symm.trans e)
  ·rw[a] at e;cases e;omega
 rw[show Q4 l++[Value.int .i64 k]=Q4 (l++[k]) from by simp[Q4]] at h5
 refine⟨h5.kept k6 (fun b hb e=>hne (by rw[hb,e])),h6,fun e=>?_,?_,(h.k.trans (k5.mono fun b _ e=>h.f.2 b e)).trans (k6.mono fun b _ e=>by have:=h.gn;show w.heap.size≤b;omega),?_⟩
 ·rcases a6 with a|a
  ·rw[a] at e;exact hne e
  ·have:=h5.lt g6 e;omega
 ·rcases a6 with a|a
  ·rw[a];exact h.gn
  ·have:=h.k.size;omega
 ·refine⟨?_,fun x hx=>(List.mem_append.1 hx).elim (h.ti.2 x) (fun hx=>by simp at hx;rw[hx];exact hk)⟩
  rw[List.nodup_append];exact⟨h.ti.1,by simp,fun a ha b hb e=>hn (by simp at hb;rw[← hb,← e];exact ha)⟩
theorem Q8s.nobk {t:Q1} {w:World} {fv qv:Value} {wr w':World} {g:Nat} {l q:List Int} (h:Q8s t w fv qv wr g l q) (k:Q0 nob wr w'):Q8s t w fv qv w' g l q:=⟨h.f.nobk k,h.q.kept k id,h.ne,h.gn,h.k.trans (k.ofNob _),h.ti⟩
theorem IsQ.pop {w:World} {v:Value} {x:Int} {xs:List Int} {g o cap:Nat} {A:Addr} {cs:List Value} (h:OwnQ w v (x::xs) g o cap A cs):A =⟨g,o,none⟩∧1≤cap∧w.cell? ⟨g,o,none⟩=some (.int .i64 x) ∧
  ∀B:Addr,(1<cap→B =⟨g,o+1,none⟩)→IsQ w (.slice (some B) xs.length (cap-1)) xs g:=by
 have hle:xs.length+1≤cap:=h.le;have hA:=h.a (by omega);have hsz:=h.sz;have ht:=h.t
 have h0:cs[o]?=some (.int .i64 x):=by
  have:=congrArg (fun l:List Value=>l[0]?) ht;simpa[Q4] using this
 refine⟨hA,by omega,h.b.cell o _ h0,fun B hB=>⟨o+1,cap-1,B,cs,rfl,fun h9=>hB (by omega),h.b,by omega,by omega,?_⟩⟩
 rw[Qd h0] at ht;simp only[List.length_cons,List.take_succ_cons,Q4,List.map_cons,List.cons.injEq] at ht;exact ht.2
theorem Qe2 {t:Q1} {tb tq:Nat} {w:World} {top:Int} (hR:∀W,Q0 (Q7 w.heap.size) w W→J7 W tb tq t) (ht:∀i∈t.tops,InT t i) (hC:Q0d t) (hi:InT t top) (hsz:t.nodes.length≤4000) (htl:t.tops.length≤4000) :
  Calls prog 41 #[.pointer (some ⟨tb,tq,none⟩),.int .i64 top] w fun e w'=>∃v,e=.returned v∧Qf (Q7 w.heap.size) 3 w' v (Q4 (Zr (Y6 t top)))∧Q0 nob w w':=by
 have HR:=Hh hR;have HT:=Hh ht;have HC:=Hh hC;have HI:=Hh hi
 have HI0:Hi (Q8s t w (.slice (some ⟨w.heap.size,0,none⟩) 0 0) (.slice (some ⟨w.heap.size+1,0,none⟩) 1 1) ((w.alloc (.cells #[] 3 (0,0))).alloc (.cells #[.int .i64 top] 3 (0,0))) (w.heap.size+1) [] [top]):=Hh (by
  refine⟨?_,?_,by simp[Value.ownBlock],by omega,((Kr _ _).alloc _).alloc _,by simp,by simp⟩
  ·have:=(Qf.lit (Q7 w.heap.size) 3 w [] (Nat.le_refl _) (by simp) rfl (n:=0) (c:=0) rfl rfl).alloc (.cells #[.int .i64 top] 3 (0,0))
   simpa[Q4] using this
  ·have:=IsQ.one (w.alloc (.cells #[] 3 (0,0))) top
   rwa [show (w.alloc (.cells #[] 3 (0,0))).heap.size=w.heap.size+1 by simp] at this)
 clear hR ht hC hi;go_enter func41,ntmps41;go_wp2_with fail;go_loopw [5,6,7,8,9,10] (fun fv qv _ _ _ _ wr=>∃s g:Nat,s≤(Zn t top s).length+1∧Hi (Q8s t w fv qv wr g (Zn t top s) ((top::Zn t top s).drop s))) (fun fv qv _ _ _ _ _=>2*(4001-Q3y fv)+Q3y qv)
 case atStart=>exact⟨0,_,Nat.zero_le _,HI0⟩
 case round =>
  obtain⟨s,g,hs,HV⟩:=hrel;obtain⟨wo,rfl⟩:∃wo:World,wo=wr:=⟨_,rfl⟩;obtain⟨o,cap,A,cs,HQ⟩:=HV.o.q;have hqv:=HQ.v;subst hqv;obtain⟨fA,fc,hfv⟩:=HV.o.f.len;rw[Q5] at hfv;subst hfv
  by_cases hlt:s<(Zn t top s).length+1
  ·obtain⟨x,hx⟩:=Q3 (xs:=top::Zn t top s) (j:=s) (by rw[List.length_cons];omega)
   have HNX:=Hh (Qbd hx);have HQ':=Hh (Qd hx);rw[HQ'.o] at HQ HV ⊢;obtain⟨rfl,hc1,hc0,Qw1⟩:=IsQ.pop HQ;have hql:(0:Int)<((x::(top::Zn t top s).drop (s+1)).length:Int):=by rw[List.length_cons];omega
   have Qzr:((x::(top::Zn t top s).drop (s+1)).length:Int)>0:=hql;have HXM:=Hh (Mg hx)
   have hxt:x∈t.tops∨x=top:=by
    rcases List.mem_cons.1 HXM.o with h|h
    ·exact .inr h
    ·exact .inl (HV.o.ti.2 x h)
   have HXI:Hi (InT t x):=Hh (hxt.elim (HT.o x) (fun e=>e▸HI.o));have hFl:=HV.o.ti.few;generalize hfl:Zn t top s=F at *;generalize hdl:(top::F).drop (s+1)=D at *;have HDL:=Hh hdl;have hds:D.length+s=F.length:=by rw[← hdl,List.length_drop,List.length_cons];omega
   clear hdl
   obtain⟨B,hB,hB2⟩:∃B:Addr,(if cap=1 then some (⟨g,o,none⟩: Addr) else some ⟨g,o+1,none⟩)=some B∧(1<cap→B =⟨g,o+1,none⟩):=by
    by_cases h1:cap=1
    ·exact⟨_,Ps h1,fun h=>by omega⟩
    ·exact⟨_,Ng h1,fun _=>rfl⟩
   have HQ1:=Hh (Qw1 B hB2);have HRT:=Hh (HR.o _ HV.o.k);have hf0:0≤Xl t x:=Q4e x t.tops 0 (Int.le_refl 0) (fun i hi=>(HT.o i hi).1);have HCT:Hi (Zn t top (s+1)=grow F (Q5c t (x-Xl t x).toNat (Xl t x))):=Hh (by rw[HNX.o];rfl);have HIV:Hi (Q8s t w (.slice fA F.length fc) (.slice (some B) D.length (cap-1)) wo g F D):=Hh ⟨HV.o.f,HQ1.o,HV.o.ne,HV.o.gn,HV.o.k,HV.o.ti⟩;have hx4:=HXI.o.2;clear Qw1 HQ hx hB2 hxt;go_upto_region 6 with fail
   generalize Qtn:Xl t x=fst at *;go_wp2_with (go_at_call 42;refine (Qdf t tb tq x _ HRT.o HT.o).mono ?_;rw[Qtn];rintro e w2 ⟨rfl,rfl⟩);obtain⟨f0,rfl⟩:=En hf0;go_loopw [5,6,8,9,10] (fun fv qv iv _ _ wr=>∃(m g':Nat) (l:List Int),iv=.int .i64 (m:Int)∧Hi (Q8s t w fv qv wr g' l ((top::l).drop (s+1))∧s+1≤l.length+1∧F.length≤l.length∧Zn t top (s+1)=grow l (Q5c t (x-m).toNat m))) (fun _ _ iv _ _ _=>(x-intOf iv).toNat)
   case atStart=>exact⟨f0,g,F,rfl,Hh ⟨by rw[HDL.o];exact HIV.o,by omega,Nat.le_refl _,HCT.o⟩⟩
   case round =>
    obtain⟨mi,g',l,rfl,HU⟩:=hrel;obtain⟨wi,rfl⟩:∃wi:World,wi=wr:=⟨_,rfl⟩;have hll:=HU.o.1.ti.few;obtain⟨lA,lc,hlv⟩:=HU.o.1.f.len;rw[Q5] at hlv;subst hlv
    by_cases hdn:(mi:Int)<x
    ·have tdx:decide ((mi:Int)<x)=true:=Dt hdn
     have hin:InT t (mi:Int):=⟨by omega,by omega⟩;obtain⟨m2,hm2,hnd⟩:=Q1.at_lt hin;obtain rfl:mi=m2:=by omega
     have HCU:Hi (Zn t top (s+1)=grow l ((if (t.at (mi:Int)).kind=7 then [Q2 t t.tops (t.at (mi:Int)).text] else [])++Q5c t (x-((mi+1:Nat):Int)).toNat ((mi+1:Nat):Int))):=Hh (by
      rw[HU.o.2.2.2,show (x-(mi:Int)).toNat=(x-((mi+1:Nat):Int)).toNat+1 by omega];rfl)
     have HTI:Hi ((t.at (mi:Int)).kind=7→0≤Q2 t t.tops (t.at (mi:Int)).text):=Hh (HC.o _ hin);have hmn:(mi:Int)<t.nodes.length:=hin.2;have HRI:=Hh (HR.o _ HU.o.1.k);obtain⟨v0,v1,t0,t1,⟨nA,nb,no,nc,rfl,_,_,hnA,hnc⟩,_⟩:=HRI.o;obtain⟨kv,e0,e1,e2,e3,⟨kA,kb,ko,kc,rfl,_⟩⟩:=hnc mi _ hnd;obtain rfl:=hnA (by omega);have HUV:=Hh HU.o.1;have hsl:=HU.o.2.1;have hFL:=HU.o.2.2.1;clear hnd hnc HU hin;generalize t.at (mi:Int)=nd at *;cases tk:(nd.kind != 7) with
     |true =>
      have hk7:nd.kind≠7:=by simpa using tk
      rw[Ng hk7,List.nil_append] at HCU;go_wp2_with fail;go_roundw
      case rel=>exact⟨mi+1,g',l,by go_num,Hh ⟨HUV.o.nobk ((Kr _ _).alloc _),hsl,hFL,HCU.o⟩⟩
      case measure=>simp[intOf];omega
     |false =>
      have hk7:nd.kind=7:=by simpa using tk
      rw[Ps hk7] at HCU;have HTK:=Hh (Zl (HTI.o hk7)).1;obtain⟨k,hk⟩:∃k,k=Q2 t t.tops nd.text:=⟨_,rfl⟩;rw[← hk] at HTK HCU;have HKE:=Hh hk;have hl4:l.length≤4000:=by omega
      clear hk HTI;cases hb:Z9 k l with
      |true =>
       rw[Q6r,Qfj ((X6 _ _).1 hb)] at HCU;go_wp2_with (first|(go_at_call 39;refine (Qbc t tb tq nd.text _ (HRI.o.old ((Kr nob wi).alloc _).old) HT.o).mono ?_;rw[← HKE.o];rintro e w3 ⟨rfl,rfl⟩)|(go_at_call 78;refine (Zk _ l k _ ((HUV.o.f.alloc _).ints (by omega))).mono ?_;rw[hb];rintro e w3 ⟨rfl,rfl⟩));go_roundw
       case rel=>exact⟨mi+1,g',l,by go_num,Hh ⟨HUV.o.nobk ((Kr _ _).alloc _),hsl,hFL,HCU.o⟩⟩
       case measure=>simp[intOf];omega
      |false =>
       have HNI:Hi (k∉l):=Hh (fun hm=>by rw[(X6 _ _).2 hm] at hb;cases hb);rw[Q6r,Qd4 HNI.o] at HCU
       have HQD:Hi ((top::(l++[k])).drop (s+1)=(top::l).drop (s+1)++[k]):=Hh (by
        rw[show top::(l++[k])=(top::l)++[k] from rfl,List.drop_append_of_le_length (by rw[List.length_cons];omega)])
       have Qzs:((top::l).drop (s+1)).length≤4001:=by rw[List.length_drop,List.length_cons];omega
       go_wp2_with (first|(go_at_call 39;refine (Qbc t tb tq nd.text _ (HRI.o.old ((Kr nob wi).alloc _).old) HT.o).mono ?_;rw[← HKE.o];rintro e w3 ⟨rfl,rfl⟩)|(go_at_call 78;refine (Zk _ l k _ ((HUV.o.f.alloc _).ints (by omega))).mono ?_;rw[hb];rintro e w3 ⟨rfl,rfl⟩)|(at_builtin;refine J1 (Q7 w.heap.size) rfl _ _ 26 3 (.int .i64 0) 8 rfl underlying26 (by kernel_rfl) rfl (.slice lA l.length lc) (Q4 l) (.int .i64 k) rfl rfl (by simp) rfl (HUV.o.f.alloc _) (fun q hq=>by have:=HUV.o.k.size;simp at hq;show w.heap.size≤q;omega) (by rw[Q5];omega) (by rw[Q5];omega) ?_;intro nv5 w5 ho5 hk5 Qmt;have HO5:=Hh (And.intro ho5 (And.intro hk5 Qmt));clear ho5 hk5 Qmt)|(at_builtin;refine Ql6 rfl _ _ 26 3 (.int .i64 0) 8 rfl underlying26 rfl (by kernel_rfl) rfl u6 _ g' k rfl rfl (by simp) ((HUV.o.q.kept ((Kr nob wi).alloc _) id).kept HO5.o.2.1 HUV.o.ne) (by omega) (by omega) ?_;intro nv6 w6 g6 hq6 hk6 Qmz;have HV6:=Hh (Q8s.more (HUV.o.nobk ((Kr _ _).alloc _)) HTK.o HNI.o HO5.o.1 HO5.o.2.1 HO5.o.2.2 hq6 hk6 Qmz);clear hq6 hk6 Qmz));go_roundw
       case rel=>exact⟨mi+1,g6,l++[k],by go_num,Hh ⟨by rw[HQD.o];exact HV6.o,by rw[List.length_append];omega,by rw[List.length_append];omega,HCU.o⟩⟩
       case measure=>simp[intOf];omega
    ·have tdx:decide ((mi:Int)<x)=false:=Df hdn
     have HNE:Hi (Zn t top (s+1)=l):=Hh (by rw[HU.o.2.2.2,show (x-(mi:Int)).toNat=0 by omega];rfl);have hsl:=HU.o.2.1;have hFL:=HU.o.2.2.1;have HU1:=Hh HU.o.1;obtain⟨o2,cap2,A2,cs2,hq2⟩:=HU.o.1.q;have Qw2:=hq2.v;rw[show ((top::l).drop (s+1)).length=l.length-s by rw[List.length_drop,List.length_cons];omega] at Qw2;subst Qw2;have hl4:l.length≤4000:=by omega
     clear HU hq2;go_wp2_with fail;go_roundw
     case rel=>exact⟨s+1,g',by rw[HNE.o];exact hsl,Hh (by rw[HNE.o];exact HU1.o)⟩
     case measure=>simp only[Q3y,List.length_cons];omega
  ·have hse:s=(Zn t top s).length+1:=by omega
   have hqe:(top::Zn t top s).drop s=[]:=Dn (by rw[List.length_cons];omega)
   have HFE:Hi (Y6 t top=Zn t top s):=Hh (by
    have hf:=HV.o.ti.few;cases s with
    |zero=>omega
    |succ s'=>exact Q9b (Ye t) top (i:=s') (by simp only[Zn] at hse;omega) 4000 (by simp only[Zn] at hse hf;omega))
   have hfw:=HV.o.ti.few;rw[hqe];have HF:=Hh HV.o.f;have HK:=Hh HV.o.k;generalize hfl:Zn t top s=F at *;clear hqe hse HV HQ hs hlt;go_wp2_with (go_at_call 76;refine (Qfi HF.o (by omega)).mono ?_;rintro e w9 ⟨rfl,ho9,hk9⟩;have HO9:=Hh ho9;have HK9:=Hh hk9;clear ho9 hk9);go_returns;rw[HFE.o];refine⟨_,rfl,HO9.o,?_⟩;have h9:Q0 (Q7 w.heap.size) w w9:=HK.o.trans (HK9.o.mono fun q _ h=>HF.o.2 q h);exact (Kr nob w).then_ h9 (fun q h=>.inr h)
def Jo (s s':CS):Prop:=s'.tops=s.tops∧(s'.code=0→s.code=0)
namespace Jo
theorem rfl' (s:CS):Jo s s:=⟨rfl,id⟩
theorem trans {s s1 s2:CS} (h:Jo s s1) (k:Jo s1 s2):Jo s s2:=⟨k.1.trans h.1,fun c=>h.2 (k.2 c)⟩
theorem fail (s:CS) (c n:Int):Jo s (s.fail c n):=by unfold CS.fail;split;exact⟨rfl,fun _=>by assumption⟩;exact rfl' s
theorem kindIs (s:CS) (a b c:Int):Jo s (Qq s a b c):=by unfold Qq;split;exact rfl' s;exact fail _ _ _
theorem column (r:Reg) (s:CS) (a:ByteArray) (b:Int):Jo s (Qh r s a b).2:=by
 unfold Qh;split;exact fail _ _ _;split;exact rfl' s;exact fail _ _ _
theorem named (r:Reg) (s:CS) (o:Int) (a:ByteArray) (b:Int):Jo s (J4 r s o a b).2:=by unfold J4;split;exact fail _ _ _;exact rfl' s
theorem twice (t:Q1) (s:CS) (k:Int):Jo s (Qy t s k):=by unfold Qy;split;exact fail _ _ _;exact rfl' s
theorem args (t:Q1) (i:Int) (ks ps:List Int) (s:CS):Jo s (Yc t i ks ps s):=by
 induction ks generalizing ps s with
 |nil=>exact rfl' s
 |cons k ks ih=>cases ps with
  |nil=>exact rfl' s
  |cons p ps=>exact (kindIs _ _ _ _).trans (ih ps _)
theorem expr (r:Reg) (t:Q1) (s:CS) (i:Int) (n:Qc):Jo s (Zx r t s i n).2:=by
 unfold Zx;split;exact rfl' s;split;exact rfl' s;split;exact rfl' s;split
 ·split;exact fail _ _ _;exact⟨rfl,id⟩
 split;exact column _ _ _ _;split;exact named _ _ _ _ _;split
 ·unfold Q37
  dsimp only;split;exact fail _ _ _;split;exact fail _ _ _;exact (args t i n.kids (t.at (Q2 t s.tops n.text)).kids s).trans ⟨rfl,id⟩
 ·unfold Yt;dsimp only;split;exact rfl' s;exact fail _ _ _
theorem stmt (r:Reg) (t:Q1) (s:CS) (i:Int) (n:Qc):Jo s (Qz r t s i n):=by
 unfold Qz;split
 ·split;exact fail _ _ _;exact⟨rfl,id⟩
 split
 ·split;exact fail _ _ _;exact Jo.trans (s1:=s.setBind i _) ⟨rfl,id⟩ (kindIs _ _ _ _)
 split;exact (column _ _ _ _).trans (kindIs _ _ _ _);split;exact (named _ _ _ _ _).trans (kindIs _ _ _ _);split;exact (named _ _ _ _ _).trans (kindIs _ _ _ _);split;exact (named _ _ _ _ _).trans (kindIs _ _ _ _);split;exact named _ _ _ _ _;exact rfl' s
theorem pick (r:Reg) (t:Q1) (i k1:Int) (s:CS) (k:Int):Jo s (pickStep r t i k1 s k):=by
 unfold pickStep;dsimp only
 have h1:Jo s (if k=k1 then (Qh r s (t.at k).text k).2.setKind i (Qh r s (t.at k).text k).1 else (Qh r s (t.at k).text k).2):=by
  split
  ·exact (column r s (t.at k).text k).trans ⟨rfl,id⟩
  ·exact column r s (t.at k).text k
 generalize (if k=k1 then (Qh r s (t.at k).text k).2.setKind i (Qh r s (t.at k).text k).1 else (Qh r s (t.at k).text k).2)=s1 at h1 ⊢;split
 ·exact h1
 ·exact h1.trans (fail _ _ _)
theorem picks (r:Reg) (t:Q1) (i k1:Int) (l:List Int) (s:CS):Jo s (l.foldl (pickStep r t i k1) s):=by
 induction l generalizing s with
 |nil=>exact rfl' s
 |cons k l ih=>exact (pick r t i k1 s k).trans (ih _)
theorem each (r:Reg) (t:Q1) (l:List Int) (s:CS) (all:List Int):Jo s (eachL r t l (s,all)).1:=by
 induction l generalizing s all with
 |nil=>exact rfl' s
 |cons k l ih =>
  simp only[eachL];refine Jo.trans ?_ (ih _ _);split;exact fail _ _ _;split;exact fail _ _ _;exact rfl' s
theorem param (t:Q1) (s:CS) (k:Int):Jo s (Jk t s k):=(twice t s k).trans ⟨rfl,id⟩
theorem params (t:Q1) (l:List Int) (s:CS):Jo s (l.foldl (Jk t) s):=by
 induction l generalizing s with
 |nil=>exact rfl' s
 |cons k l ih=>exact (param t s k).trans (ih _)
end Jo
def Q03 (t:Q1) (T:List Int) (lo e:Int):Prop:=∀j,lo≤j→j<e→(t.at j).kind=7→0≤Q2 t T (t.at j).text
theorem Q03.app {t:Q1} {T:List Int} {a b c:Int} (h:Q03 t T a b) (k:Q03 t T b c):Q03 t T a c:=fun j h1 h2=>by
 by_cases hj:j<b
 ·exact h j h1 hj
 ·exact k j (by omega) h2
theorem Q03.one {t:Q1} {T:List Int} {i:Int} (h:(t.at i).kind≠7):Q03 t T i (i+1):=fun j h1 h2 h7=>absurd (show (t.at i).kind=7 by rw[show i=j by omega];exact h7) h
theorem Q03.nil {t:Q1} {T:List Int} {a:Int}:Q03 t T a a:=fun j h1 h2=>by omega
theorem Q39 {t:Q1} {T:List Int}:∀(l:List Int) (lo e:Int),Zo t lo l e→(∀k∈l,(t.at k).kids=[]∧(t.at k).kind≠7)→Q03 t T lo e:=by
 intro l
 induction l with
 |nil=>intro lo e h _;have h:lo=e:=h;subst h;exact Q03.nil
 |cons k l ih =>
  intro lo e h hl;obtain⟨h1,h2⟩:=h;obtain⟨k1,k2⟩:=hl k (by simp);have h3:=h1.kids;rw[k1] at h3;have h3:lo=k:=h3;subst h3;exact (Q03.one k2).app (ih _ _ h2 (fun x hx=>hl x (by simp[hx])))
def Q9m (t:Q1) (W:CS→Int→CS) (i:Int):Prop:=∀s,Jo s (W s i)∧∀lo,Q11 t lo i→(W s i).code=0→Q03 t s.tops lo (i+1)
theorem Q0r {t:Q1} {W:CS→Int→CS}:∀(l:List Int),(∀k∈l,Q9m t W k)→∀s,Jo s (Qa W s l)∧∀lo e,Zo t lo l e→(Qa W s l).code=0→Q03 t s.tops lo e:=by
 intro l
 induction l with
 |nil=>intro _ s;exact⟨Jo.rfl' s,fun lo e h _=>by have h:lo=e:=h;subst h;exact Q03.nil⟩
 |cons k l ih =>
  intro hl s;have hc:Qa W s (k::l)=Qa W (if s.code=0 then W s k else s) l:=rfl;rw[hc];obtain⟨h1,h2⟩:=hl k (by simp) s
  by_cases h0:s.code=0
  ·rw[Ps h0]
   obtain⟨h3,h4⟩:=ih (fun x hx=>hl x (by simp[hx])) (W s k)
   refine⟨h1.trans h3,fun lo e hch hco=>?_⟩
   have h5:=h4 (k+1) e hch.2 hco;rw[h1.1] at h5;exact (h2 lo hch.1 (h3.2 hco)).app h5
  ·rw[Ng h0]
   obtain⟨h3,_⟩:=ih (fun x hx=>hl x (by simp[hx])) s;exact⟨h3,fun lo e _ hco=>absurd (h3.2 hco) h0⟩
theorem Q6t {t:Q1} (hn:Qt t=true) {k:Int} (hk:InT t k) (h:(t.at k).kind=31∨(t.at k).kind=32):(t.at k).kids=[]∧(t.at k).kind≠7:=by
 have hs:=Q0t hn hk (by omega);unfold Je at hs;rw[Ng (by omega),Ng (by omega),Ng (by omega),Ng (by omega),Ps h] at hs;exact⟨by simpa using hs,by omega⟩
theorem Q9a {t:Q1} {T:List Int} (hn:Qt t=true) (hK:Qj t) {k lo:Int} (hk:InT t k) (h:(t.at k).kind=29∨(t.at k).kind=30) (hsp:Q11 t lo k):Q03 t T lo (k+1):=by
 have hs:=Q0t hn hk (by omega);unfold Je at hs;rw[Ng (by omega),Ng (by omega)] at hs
 have Qo1:∀x∈(t.at k).kids,(t.at x).kind=31:=by
  intro x hx;rcases h with h|h
  ·rw[Ps h] at hs
   simp only[Bool.and_eq_true] at hs;exact Yp (Yf hs.2 hx)
  ·rw[Ng (by omega),Ps h] at hs
   exact Yp (Yf hs hx)
 exact (Q39 _ _ _ hsp.kids (fun x hx=>Q6t hn (hk.kid hK hx) (.inl (Qo1 x hx)))).app (Q03.one (by omega))
theorem Qeq {r:Reg} {t:Q1} {W:CS→Int→CS}:∀(l:List Int) (names:List ByteArray),(∀k∈l,(t.at k).kind≠7∧∀x∈(t.at k).kids,Q9m t W x)→∀s,Jo s (Xj r t W l names s)∧∀lo e,Zo t lo l e→(Xj r t W l names s).code=0→Q03 t s.tops lo e:=by
 intro l
 induction l with
 |nil=>intro names _ s;exact⟨Jo.rfl' s,fun lo e h _=>by have h:lo=e:=h;subst h;exact Q03.nil⟩
 |cons k l ih =>
  intro names hl s;obtain⟨h7,hk⟩:=hl k (by simp);obtain⟨h1,h2⟩:=Q0r (t:=t) (W:=W) (t.at k).kids hk s;simp only[Xj]
  by_cases h0:(Qa W s (t.at k).kids).code≠0
  ·rw[Ps h0];exact⟨h1,fun lo e _ hc=>absurd hc h0⟩
  ·rw[Ng h0]
   have h3:=Jo.named r (Qa W s (t.at k).kids) 1 (t.at k).text k;generalize J4 r (Qa W s (t.at k).kids) 1 (t.at k).text k=c at h3 ⊢
   have h4:Jo c.2 (if Z9 (t.at k).text names=true then c.2.fail 2 k else c.2):=by
    split
    ·exact Jo.fail _ _ _
    ·exact Jo.rfl' _
   generalize (if Z9 (t.at k).text names=true then c.2.fail 2 k else c.2)=s2 at h4 ⊢;have h5:=Jo.kindIs s2 (kidAt (t.at k) 0) c.1 k;obtain⟨h6,h8⟩:=ih (names++[(t.at k).text]) (fun x hx=>hl x (by simp[hx])) (Qq s2 (kidAt (t.at k) 0) c.1 k);have h9:=h3.trans (h4.trans h5)
   refine⟨h1.trans (h9.trans h6),fun lo e hch hco=>?_⟩
   obtain⟨c1,c2⟩:=hch;have q1:=h2 lo k c1.kids (h9.2 (h6.2 hco));have q2:=h8 (k+1) e c2 hco;rw[h9.1,h1.1] at q2;exact (q1.app (Q03.one h7)).app q2
theorem Q03.tops {t:Q1} {T T':List Int} {lo e:Int} (h:Q03 t T lo e) (e9:T'=T):Q03 t T' lo e:=by rw[e9];exact h
theorem Q75 {r:Reg} {t:Q1} (hn:Qt t=true) (hK:Qj t):∀(f:Nat) (i:Int),InT t i→i<f→Q9m t (Q8 r t f) i:=by
 intro f
 induction f with
 |zero=>intro i hi h;have:=hi.1;omega
 |succ f ih =>
  intro i hi hif s;have kid:∀k∈(t.at i).kids,InT t k∧Q9m t (Q8 r t f) k:=fun k hk=>⟨hi.kid hK hk,ih k (hi.kid hK hk) (by have:=(hK.mem hi hk).2;omega)⟩
  have kids:=fun (l:List Int) (hl:∀k∈l,k∈(t.at i).kids) s=>Q0r (t:=t) (W:=Q8 r t f) l (fun k hk=>(kid k (hl k hk)).2) s
  generalize hW:Q8 r t f=W at *;cases hm:Yl t s (t.at i).kind with
  |false =>
   rw[Q3h hm]
   refine⟨Jo.fail _ _ _,fun lo _ hc=>?_⟩
   exfalso;unfold CS.fail at hc;split at hc
   ·cases hc
   ·rename_i h;exact h hc
  |true =>
  by_cases h33:(t.at i).kind=33
  ·have e:Q8 r t (f+1) s i=fnF t W s i (t.at i):=by unfold Q8;dsimp only;rw[hm,hW];rw[Ps rfl,Ps h33]
   rw[e];obtain⟨ps,b,Qo0⟩:=Q95 hn hK hi (by omega);have Qmk:=Qo0.kids
   have Qyd:(t.at b).kind=27:=by
    have hs:=Q0t hn hi (by omega);unfold Je at hs;rw[Ng (by omega),Ng (by omega),Ng (by omega),Ng (by omega),Ng (by omega),Ps h33,Qmk] at hs;simp only[List.getLast?_append,List.getLast?_singleton,Option.some_or,Bool.and_eq_true] at hs;exact Yp hs.2
   have hps:∀k∈ps,k∈(t.at i).kids:=fun k hk=>by rw[Qmk];simp[hk]
   have hbm:b∈(t.at i).kids:=by rw[Qmk];simp
   have hbi:=(kid b hbm).1
   have hpk:∀k∈ps,(t.at k).kids=[]∧(t.at k).kind≠7:=fun k hk=>by
    have hs:=Q0t hn hi (by omega);unfold Je at hs;rw[Ng (by omega),Ng (by omega),Ng (by omega),Ng (by omega),Ng (by omega),Ps h33,Qmk] at hs;simp only[List.getLast?_append,List.getLast?_singleton,Option.some_or,List.dropLast_concat,Bool.and_eq_true] at hs;exact Q6t hn (kid k (hps k hk)).1 (.inr (Yp (Yf hs.1 hk)))
   have hgl:(t.at i).kids.getLast?.getD 0=b:=by rw[Qmk];simp
   have hdl:(t.at i).kids.dropLast=ps:=by rw[Qmk];simp
   unfold fnF;dsimp only;rw[hgl,hdl];have h1:=Jo.params t ps s;generalize ps.foldl (Jk t) s=s1 at h1 ⊢;cases he:Q31 t (t.at b).kids with
   |false =>
    rw[Ng (by simp)]
    refine⟨h1.trans ((Q0r (t:=t) (W:=W) (t.at b).kids (fun k hk=>?_) s1).1.trans (Jo.fail _ _ _)),fun lo _ hc=>?_⟩
    ·exact ih k (hbi.kid hK hk) (by have:=(hK.mem hbi hk).2;have:=(hK.mem hi hbm).2;omega)
    ·exfalso
     unfold CS.fail at hc;split at hc
     ·cases hc
     ·rename_i h;exact h hc
   |true =>
    rw[Ps rfl];unfold Q31 at he;cases hl:(t.at b).kids.getLast? with
    |none=>rw[hl] at he;cases he
    |some l =>
     rw[hl] at he;have h26:(t.at l).kind=26:=by simpa using he
     have hne:(t.at b).kids≠[]:=by intro h9;rw[h9] at hl;cases hl
     have hbk:(t.at b).kids=(t.at b).kids.dropLast++[l]:=by
      have h9:=hl;rw[List.getLast?_eq_some_getLast hne] at h9;cases h9;exact (List.dropLast_concat_getLast hne).symm
     have hli:InT t l:=hbi.kid hK (by rw[hbk];simp);have hs9:=Yo hn hli (by rw[h26];rfl);unfold Z5 at hs9;rw[h26,Ps (by decide)] at hs9;obtain⟨x,hx,_⟩:=Xh hs9;have hka:kidAt (t.at ((some l).getD 0)) 0=x:=by simp[kidAt,hx]
     rw[hka];have hb2:=(hK.mem hi hbm).2;have hl2:=(hK.mem hbi (by rw[hbk];simp:l∈(t.at b).kids)).2;have hxm:x∈(t.at l).kids:=by rw[hx];simp
     have hx2:=(hK.mem hli hxm).2;obtain⟨a1,a2⟩:=Q0r (t:=t) (W:=W) (t.at b).kids.dropLast (fun k hk=>ih k (hbi.kid hK (List.dropLast_subset _ hk)) (by have:=(hK.mem hbi (List.dropLast_subset _ hk)).2;omega)) s1;obtain⟨c1,c2⟩:=Q0r (t:=t) (W:=W) [x] (fun k hk=>by simp at hk;subst hk;exact ih k (hli.kid hK hxm) (by omega)) (Qa W s1 (t.at b).kids.dropLast);have c3:=Jo.kindIs (Qa W (Qa W s1 (t.at b).kids.dropLast) [x]) x (t.at i).i i
     refine⟨h1.trans (a1.trans (c1.trans c3)),fun lo hsp hc=>?_⟩
     have hch:=hsp.kids;rw[Qmk] at hch;obtain⟨m,hm1,hm2⟩:=hch.app;obtain⟨hsb,Qo7⟩:=hm2;have Qo7:b+1=i:=Qo7;have hcb:=hsb.kids;rw[hbk] at hcb;obtain⟨m2,hd1,hd2⟩:=hcb.app;obtain⟨hsl,Qoo⟩:=hd2;have Qoo:l+1=b:=Qoo;have hcl:=hsl.kids;rw[hx] at hcl;have Qye:x+1=l:=hcl.2;have q1:=Q39 (T:=s.tops) ps lo m hm1 hpk;have q2:=(a2 m m2 hd1 (c1.2 (c3.2 hc))).tops h1.1.symm;have q3:=(c2 m2 l hcl (c3.2 hc)).tops ((a1.1.trans h1.1).symm);have q4:Q03 t s.tops l (l+1):=Q03.one (by omega);have q5:Q03 t s.tops b (b+1):=Q03.one (by rw[Qyd];decide);have q6:Q03 t s.tops i (i+1):=Q03.one (by omega);rw[Qoo] at q4;rw[Qo7] at q5;exact ((((q1.app q2).app q3).app q4).app q5).app q6
  have one:(t.at i).kind≠7→Q03 t s.tops i (i+1):=Q03.one
  by_cases h34:(t.at i).kind=34
  ·have e:Q8 r t (f+1) s i=Qa W s (t.at i).kids:=by unfold Q8;dsimp only;rw[hm,hW];rw[Ps rfl,Ng h33,Ps h34]
   rw[e];obtain⟨h1,h2⟩:=kids _ (fun _ h=>h) s;exact⟨h1,fun lo hsp hc=>(h2 lo i hsp.kids hc).app (one (by omega))⟩
  by_cases h11:(t.at i).kind=11
  ·rw[Q5v hm h11,hW]
   obtain⟨a,b,ks,hk,_⟩:=Q67 hn hi h11
   have hnm:∀x∈b::ks,(t.at x).kids=[]∧(t.at x).kind≠7:=fun x hx=>by
    have hs:=Qbq hn hi (by rw[h11];rfl);unfold Xb at hs;rw[h11,Ng (by decide),Ng (by decide),Ng (by decide),Ng (by decide),hk] at hs;simp only[Bool.and_eq_true] at hs;exact Q6t hn (kid x (by rw[hk];simp at hx ⊢;exact .inr hx)).1 (.inl (Yp (Yf hs.2 hx)))
   obtain⟨h1,h2⟩:=(kid a (by rw[hk];simp)).2 s;unfold Q4v;have ha:kidAt (t.at i) 0=a:=by simp[kidAt,hk]
   rw[ha];have h3:=(Jo.kindIs (W s a) a 1 i).trans (Jo.picks r t i (kidAt (t.at i) 1) ((t.at i).kids.drop 1) _)
   refine⟨h1.trans h3,fun lo hsp hc=>?_⟩
   have hch:=hsp.kids;rw[hk] at hch;exact ((h2 lo hch.1 (h3.2 hc)).app (Q39 _ _ _ hch.2 hnm)).app (one (by omega))
  by_cases h16:(t.at i).kind=16∨(t.at i).kind=17
  ·rw[Q20 hm h16,hW]
   obtain⟨a,ks,hk⟩:∃a ks,(t.at i).kids=a::ks:=by
    have hs:=Yo hn hi (by simp[Zp,Q9];omega);unfold Z5 at hs;rw[Ng (by omega)] at hs;rcases h16 with h|h
    ·rw[Ps h,Bool.or_eq_true] at hs
     rcases hs with hs|hs
     ·obtain⟨a,b,e,_⟩:=Y9 hs;exact⟨a,_,e⟩
     ·obtain⟨a,b,c,e,_⟩:=Q1r hs;exact⟨a,_,e⟩
    ·rw[Ng (by omega),Ps h] at hs
     obtain⟨a,b,e,_⟩:=Y9 hs;exact⟨a,_,e⟩
   unfold Q00;have ha:kidAt (t.at i) 0=a:=by simp[kidAt,hk]
   rw[ha];obtain⟨h1,h2⟩:=(kid a (by rw[hk];simp)).2 s;have h3:=Jo.kindIs (W s a) a (if (t.at i).kind=17 then 1 else 4) i;obtain⟨h4,h5⟩:=kids ((t.at i).kids.drop 1) (fun x hx=>List.mem_of_mem_drop hx) (Qq (W s a) a (if (t.at i).kind=17 then 1 else 4) i)
   refine⟨h1.trans (h3.trans h4),fun lo hsp hc=>?_⟩
   have hch:=hsp.kids;rw[hk] at hch;rw[hk] at h5 h4 hc;exact ((h2 lo hch.1 (h3.2 (h4.2 hc))).app ((h5 (a+1) i hch.2 hc).tops ((h3.1.trans h1.1).symm))).app (one (by omega))
  by_cases h18:(t.at i).kind=18
  ·rw[Q5n hm h18,hW]
   have hs:=Yo hn hi (by rw[h18];rfl);unfold Z5 at hs;rw[Ng (by omega),Ng (by omega),Ng (by omega),Ps h18] at hs;obtain⟨a,b,c,hk,ka,kb,kc⟩:=Q1r hs;unfold Q3f;dsimp only;rw[hk];have h1:=Jo.each r t (t.at (kidAt (t.at i) 0)).kids s [];generalize eachL r t (t.at (kidAt (t.at i) 0)).kids (s,[])=x1 at h1 ⊢;have h2:=Jo.each r t (t.at (kidAt (t.at i) 1)).kids x1.1 x1.2;generalize eachL r t (t.at (kidAt (t.at i) 1)).kids x1=x2 at h2 ⊢;obtain⟨h3,h4⟩:=kids [c] (fun x hx=>by rw[hk];simp at hx ⊢;exact .inr (.inr hx)) {x2.1 with withs:=x1.2,inEach:=true};have h12:Jo s x2.1:=h1.trans h2
   refine⟨⟨h3.1.trans h12.1,fun hc=>h12.2 (h3.2 hc)⟩,fun lo hsp hc=>?_⟩
   have hch:=hsp.kids;rw[hk] at hch;obtain⟨c1,c2,c3⟩:=hch;exact (((Q9a hn hK (kid a (by rw[hk];simp)).1 (.inl (Yp ka)) c1).app (Q9a hn hK (kid b (by rw[hk];simp)).1 (.inr (Yp kb)) c2)).app ((h4 (b+1) i c3 hc).tops h12.1.symm)).app (one (by omega))
  by_cases h20:(t.at i).kind=20
  ·rw[Q5q hm h20,hW]
   have hs:=Yo hn hi (by rw[h20];rfl);unfold Z5 at hs;rw[Ng (by omega),Ng (by omega),Ng (by omega),Ng (by omega),Ps h20] at hs;obtain⟨a,b,hk,ka,kb⟩:=Y9 hs;unfold Q3n;dsimp only
   have h1:Jo s ((Qy t ((J4 r s 3 (t.at i).text i).2.setKind (kidAt (t.at i) 0) (J4 r s 3 (t.at i).text i).1) (kidAt (t.at i) 0)).addLocal (kidAt (t.at i) 0)) :=
    (Jo.named r s 3 (t.at i).text i).trans (Jo.trans (s1:=(J4 r s 3 (t.at i).text i).2.setKind (kidAt (t.at i) 0) (J4 r s 3 (t.at i).text i).1) ⟨rfl,id⟩ ((Jo.twice _ _ _).trans ⟨rfl,id⟩))
   generalize (Qy t ((J4 r s 3 (t.at i).text i).2.setKind (kidAt (t.at i) 0) (J4 r s 3 (t.at i).text i).1) (kidAt (t.at i) 0)).addLocal (kidAt (t.at i) 0)=s1 at h1 ⊢;obtain⟨h3,h4⟩:=kids ((t.at i).kids.drop 1) (fun x hx=>List.mem_of_mem_drop hx) {s1 with inHear:=true}
   refine⟨⟨h3.1.trans h1.1,fun hc=>h1.2 (h3.2 hc)⟩,fun lo hsp hc=>?_⟩
   have hch:=hsp.kids;rw[hk] at hch h4;obtain⟨c1,c2⟩:=hch;have hl:=Q6t hn (kid a (by rw[hk];simp)).1 (.inl (Yp ka));have q1:Q03 t s.tops lo (a+1):=Q39 [a] lo (a+1) ⟨c1,rfl⟩ (fun x hx=>by simp at hx;subst hx;exact hl);have hc':(Qa W {s1 with inHear:=true} [b]).code=0:=by rw[hk] at hc;exact hc
   exact (q1.app ((h4 (a+1) i c2 hc').tops h1.1.symm)).app (one (by omega))
  by_cases h21:(t.at i).kind=21
  ·rw[Q4h hm h21,hW]
   have hs:=Yo hn hi (by rw[h21];rfl);unfold Z5 at hs;rw[Ng (by omega),Ng (by omega),Ng (by omega),Ng (by omega),Ng (by omega),Ps h21] at hs;obtain⟨h1,h2⟩:=Qeq (r:=r) (t:=t) (W:=W) (t.at i).kids [] (fun k hk=>⟨by rw[Yp (Yf hs hk)];decide,fun x hx=>ih x ((kid k hk).1.kid hK hx) (by have:=(hK.mem (kid k hk).1 hx).2;have:=(hK.mem hi hk).2;omega)⟩) s;exact⟨h1,fun lo hsp hc=>(h2 lo i hsp.kids hc).app (one (by omega))⟩
  obtain⟨h1,h2⟩:=kids (t.at i).kids (fun _ h=>h) s
  by_cases h27:(t.at i).kind=27
  ·have e:Q8 r t (f+1) s i={Qa W s (t.at i).kids with locals:=(Qa W s (t.at i).kids).locals.take s.locals.length}:=by
    unfold Q8;dsimp only;rw[hm,hW];rw[Ps rfl,Ng h33,Ng h34,Ng h11,Ng h16,Ng h18,Ng h20,Ng h21,Ps h27]
   rw[e];exact⟨h1,fun lo hsp hc=>(h2 lo i hsp.kids hc).app (one (by omega))⟩
  have e:Q8 r t (f+1) s i=(if (Qa W s (t.at i).kids).code≠0 then Qa W s (t.at i).kids else if Qs (t.at i).kind then (Zx r t (Qa W s (t.at i).kids) i (t.at i)).2.setKind i (Zx r t (Qa W s (t.at i).kids) i (t.at i)).1 else Qz r t (Qa W s (t.at i).kids) i (t.at i)):=by
   unfold Q8;dsimp only;rw[hm,hW];rw[Ps rfl,Ng h33,Ng h34,Ng h11,Ng h16,Ng h18,Ng h20,Ng h21,Ng h27]
  rw[e]
  by_cases h0:(Qa W s (t.at i).kids).code≠0
  ·rw[Ps h0];exact⟨h1,fun lo _ hc=>absurd hc h0⟩
  rw[Ng h0];generalize Qa W s (t.at i).kids=s1 at h0 h1 h2 ⊢;have h00:s1.code=0:=by simpa using h0
  split
  ·have h3:=Jo.expr r t s1 i (t.at i)
   refine⟨h1.trans (h3.trans ⟨rfl,id⟩),fun lo hsp hc=>(h2 lo i hsp.kids h00).app fun j hj1 hj2 hj7=>?_⟩
   obtain rfl:j=i:=by omega
   have hc:(Zx r t s1 j (t.at j)).2.code=0:=hc;unfold Zx at hc;rw[hj7,Ng (by decide),Ng (by decide),Ng (by decide),Ng (by decide),Ng (by decide),Ng (by decide),Ps rfl] at hc;unfold Q37 at hc;dsimp only at hc;split at hc
   ·exfalso
    unfold CS.fail at hc;rw[Ps h00] at hc;cases hc
   ·rename_i h
    rw[← h1.1];omega
  ·have h3:=Jo.stmt r t s1 i (t.at i)
   rename_i hne
   exact⟨h1.trans h3,fun lo hsp hc=>(h2 lo i hsp.kids h00).app (one (fun h=>hne (by rw[h];rfl)))⟩
end Go.Proofs.YtkgkafjachjafaaGreat
