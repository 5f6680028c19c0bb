/- Part 42 of y_holds; no condition. -/
import Derived.ArgAppend
import Derived.Test.YtkgkafjachjafaaGreatY39
import Derived.Test.YtkgkafjachjafaaGreatY41
set_option linter.unusedVariables false
set_option maxHeartbeats 4000000
set_option maxRecDepth 100000
open Go Go.RowKit
namespace Go.Proofs.YtkgkafjachjafaaGreat
open Tryz
def Q5w (t:Q1):Nat→Int→List Int
 |0,_=>[]
 |n+1,i=>(if (t.at i).kind=7 then [Q3 t t.tops (t.at i).text] else [])++Q5w t n (i+1)
def Jc (t:Q1) (k:Int):List Int:=Q5w t (k-X4 t k).toNat (X4 t k)
def Q7b (t:Q1) (l:List Int):Prop:=l.Nodup∧∀x∈l,x∈t.tops
theorem Q7b.few {t:Q1} {l:List Int} (h:Q7b t l):l.length≤t.tops.length:=Q5e h.1 h.2
theorem Qku {t:Q1} (hC:Q2d t):∀(n:Nat) (i:Int),0≤i→i+n≤t.nodes.length→∀x∈Q5w t n i,x∈t.tops:=by
 intro n
 induction n with
 |zero=>intro i _ _ x hx;cases hx
 |succ n ih =>
  intro i h0 h1 x hx;simp only[Q5w,List.mem_append] at hx;rcases hx with hx|hx
  ·split at hx
   ·rename_i h7
    simp at hx;subst hx;exact (Zc (hC i ⟨h0,Om⟩ h7)).1
   ·cases hx
  ·exact ih (i+1) Om Om x hx
theorem Q4r (top:Int):∀(l:List Int) (a:Int),0≤a→(∀i∈l,0≤i)→0≤Zy top l a:=by
 intro l
 induction l with
 |nil=>intro a h _;exact h
 |cons i l ih =>
  intro a h hl;simp only[Zy]
  refine ih _ ?_ (fun x hx=>hl x (by simp[hx]))
  split
  ·have:=hl i Sm;omega
  ·exact h
theorem Qef {t:Q1} (hC:Q2d t) (ht:∀i∈t.tops,InT t i) {k:Int} (hk:InT t k):∀x∈Jc t k,x∈t.tops:=by
 have h0:=Q4r k t.tops 0 (Int.le_refl 0) (fun i hi=>(ht i hi).1);have h1:=hk.2;intro x hx
 by_cases h:X4 t k≤k
 ·exact Qku hC _ _ h0 (by have:X4 t k=Zy k t.tops 0:=rfl;omega) x hx
 ·unfold Jc at hx
  rw[show (k-X4 t k).toNat=0 by omega] at hx;cases hx
def okI (r:Reg) (t:Q1) (name:ByteArray):Bool:=decide ((Zo r t).1=0)&&decide (0≤Q3 t t.tops name)
structure Q3g (S:Nat→Prop) (w:World) (nv tv:Value) (l:List (Qn×Value)) (tops:List Int):Prop where
 o:Zi (fun q=>S q∧¬ own tv q) w nv l
 k:Qc S 3 w tv (Q5 tops)
theorem Qij {r:Reg} {t:Q1} (hn:Qs t=true) (hK:Qk t) (ht:∀i∈t.tops,InT t i):∀(l pre:List Int) (lo:Int) (s:CS),t.tops=pre++l→s.tops=pre→Zu t lo l t.nodes.length→(l.foldl (Yn r t) s).code=0→s.code=0∧Q09 t t.tops lo t.nodes.length:=by
 intro l
 induction l with
 |nil=>intro pre lo s _ _ hch hc;have h:lo=t.nodes.length:=hch;rw[h];exact⟨hc,Q09.nil⟩
 |cons i l ih =>
  intro pre lo s ht1 hs hch hc;obtain⟨c1,c2⟩:=hch;have hi:=ht i (by rw[ht1];simp);rw[List.foldl_cons] at hc;have hW:∀k∈[i],Q8p t (Q8 r t t.nodes.length) k:=fun k hk=>by simp at hk;subst hk;exact Q7f hn hK t.nodes.length k hi (by have:=hi.2;omega)
  have h1:Jr s (if 0≤Q3 t s.tops (t.at i).text then s.fail 2 i else s):=by
   split
   ·exact Jr.fail _ _ _
   ·exact Jr.rfl' _
  have e:Yn r t s i={Qb (Q8 r t t.nodes.length) {(if 0≤Q3 t s.tops (t.at i).text then s.fail 2 i else s) with top:=i,locals:=[]} [i] with tops:=(Qb (Q8 r t t.nodes.length) {(if 0≤Q3 t s.tops (t.at i).text then s.fail 2 i else s) with top:=i,locals:=[]} [i]).tops++[i]}:=rfl;rw[e] at hc;generalize (if 0≤Q3 t s.tops (t.at i).text then s.fail 2 i else s)=s1 at h1 hc;obtain⟨h2,h3⟩:=Q0n [i] hW {s1 with top:=i,locals:=[]};have htp:(Qb (Q8 r t t.nodes.length) {s1 with top:=i,locals:=[]} [i]).tops=pre:=h2.1.trans (h1.1.trans hs);obtain⟨g1,g2⟩:=ih (pre++[i]) (i+1) _ (by rw[ht1];simp) (by show (Qb _ _ _).tops++[i]=_;rw[htp]) c2 hc;have hc0:(Qb (Q8 r t t.nodes.length) {s1 with top:=i,locals:=[]} [i]).code=0:=g1;refine⟨h1.2 (h2.2 hc0),?_⟩;have q:=h3 lo (i+1) ⟨c1,rfl⟩ hc0
  refine Q09.app (b:=i+1) (fun j h4 h5 h6=>?_) g2
  have q2:=q j h4 h5 h6;have q3:0≤Q3 t pre (t.at j).text:=by rw[← hs,← h1.1];exact q2
  have hp:∀k∈pre,0≤k:=fun k hk=>(ht k (by rw[ht1];simp[hk])).1
  refine (Yj (fun k hk=>(ht k hk).1)).1 ?_
  have:=(Yj hp).2 q3;rw[ht1];unfold Qd at this ⊢;rw[List.map_append,List.mem_append];exact .inl this
theorem Q30 {r:Reg} {t:Q1} (h:(Zo r t).1=0):Q00 t=true∧Q2d t:=by
 unfold Zo at h;split at h
 ·rename_i hb
  simp only[Bool.and_eq_true] at hb;obtain⟨q1,q2,q3,q4,q5,q6⟩:=Yg hb.2;obtain⟨_,hF⟩:=Qij (r:=r) q1 q2 (fun i hi=>(q4 i hi).1) t.tops [] 0 (Z6 t) rfl rfl q6 h;exact⟨hb.2,fun i hi h7=>hF i hi.1 hi.2 h7⟩
 ·cases h
theorem Q8d {t:Q1}:∀(f:Nat) (i lo:Int) (x:ByteArray),Q1b t lo i→i<f→(x∈Z0 t f i↔∃j,lo≤j∧j≤i∧(t.at j).kind=7∧(t.at j).text=x):=by
 intro f
 induction f with
 |zero=>intro i lo x h hi;have:=h.2.1;omega
 |succ f ih =>
  intro i lo x h hi
  have key:∀(l:List Int) (lo e:Int),Zu t lo l e→e≤f→(x∈l.flatMap (Z0 t f)↔∃j,lo≤j∧j<e∧(t.at j).kind=7∧(t.at j).text=x):=by
   intro l
   induction l with
   |nil=>intro lo e h _;have h:lo=e:=h;subst h;simp;intro j h1 h2;omega
   |cons k l ihl =>
    intro lo e h he;obtain⟨h1,h2⟩:=h;have hle:=h2.le;have hlk:=h1.le;rw[List.flatMap_cons,List.mem_append,ihl (k+1) e h2 he,ih k lo x h1 Om];constructor
    ·rintro (⟨j,a,b,c⟩|⟨j,a,b,c⟩)
     ·exact⟨j,a,Om,c⟩
     ·exact⟨j,Om,b,c⟩
    ·rintro⟨j,a,b,c⟩
     by_cases hj:j≤k
     ·exact .inl ⟨j,a,hj,c⟩
     ·exact .inr ⟨j,Om,b,c⟩
  simp only[Z0];rw[List.mem_append,key _ lo i h.kids Om];have hle:=h.le;constructor
  ·rintro (hx|⟨j,a,b,c⟩)
   ·split at hx
    ·rename_i h7
     simp at hx;exact⟨i,hle,Int.le_refl _,h7,hx.symm⟩
    ·cases hx
   ·exact⟨j,a,Om,c⟩
  ·rintro⟨j,a,b,c,d⟩
   by_cases hj:j=i
   ·subst hj;left;rw[Ps c,d];simp
   ·exact .inr ⟨j,a,Om,c,d⟩
theorem Qbd {t:Q1} (x:Int):∀(n:Nat) (i:Int),x∈Q5w t n i↔∃j,i≤j∧j<i+n∧(t.at j).kind=7∧Q3 t t.tops (t.at j).text=x:=by
 intro n
 induction n with
 |zero=>intro i;simp[Q5w];intro j h1 h2;omega
 |succ n ih =>
  intro i;simp only[Q5w];rw[List.mem_append,ih (i+1)];constructor
  ·rintro (hx|⟨j,a,b,c⟩)
   ·split at hx
    ·rename_i h7
     simp at hx;exact⟨i,Int.le_refl _,Om,h7,hx.symm⟩
    ·cases hx
   ·exact⟨j,Om,Om,c⟩
  ·rintro⟨j,a,b,c,d⟩
   by_cases hj:j=i
   ·subst hj;left;rw[Ps c,d];simp
   ·exact .inr ⟨j,Om,Om,c,d⟩
theorem Q62 {t:Q1}:∀(l:List Int) (lo e k:Int),0≤lo→Zu t lo l e→k∈l→Q1b t (Zy k l lo) k:=by
 have after:∀(l:List Int) (lo e k a:Int),Zu t lo l e→k<lo→Zy k l a=a:=by
  intro l
  induction l with
  |nil=>intro lo e k a _ _;rfl
  |cons i l ih =>
   intro lo e k a h hk;have:=h.1.le;simp only[Zy];rw[Ng Om];exact ih (i+1) e k a h.2 Om
 intro l
 induction l with
 |nil=>intro lo e k _ _ h;cases h
 |cons i l ih =>
  intro lo e k h0 h hk;have hle:=h.1.le;simp only[Zy]
  by_cases hki:k=i
  ·subst hki
   rw[Ng Om,after l (k+1) e k lo h.2 Om];exact h.1
  ·have hk2:k∈l:=by simpa[hki] using hk
   obtain⟨lo2,hs2,hm2,_⟩:=h.2.mem hk2;have:=hs2.le;rw[Ps Om];exact ih (i+1) e k Om h.2 hk2
theorem Qne:∀(l m:List Int),l.Pairwise (·<·)→m.Pairwise (·<·)→(∀x,x∈l↔x∈m)→l=m:=by
 intro l
 induction l with
 |nil =>
  intro m _ _ h;cases m with
  |nil=>rfl
  |cons b m=>have:=(h b).2 Sm;cases this
 |cons a l ih =>
  intro m hl hm h;cases m with
  |nil=>have:=(h a).1 Sm;cases this
  |cons b m =>
   obtain⟨h1,h2⟩:=List.pairwise_cons.1 hl;obtain⟨h3,h4⟩:=List.pairwise_cons.1 hm
   have hab:a=b:=by
    have ha:=(h a).1 Sm;have hb:=(h b).2 Sm;rcases List.mem_cons.1 ha with e|e
    ·exact e
    ·rcases List.mem_cons.1 hb with e2|e2
     ·exact e2.symm
     ·have:=h1 b e2;have:=h3 a e;omega
   subst hab;rw[ih m h2 h4 (fun x=>?_)];have:=h x;simp only[List.mem_cons] at this;constructor
   ·intro hx
    rcases this.1 (.inr hx) with e|e
    ·have:=h1 x hx;omega
    ·exact e
   ·intro hx
    rcases this.2 (.inr hx) with e|e
    ·have:=h3 x hx;omega
    ·exact e
theorem Qfq {r:Reg} {t:Q1} (hn:Qs t=true) (hK:Qk t) {i:Int} (hi:InT t i) (s:CS):(Yn r t s i).code=0→s.code=0:=by
 intro hc;have hW:∀k∈[i],Q8p t (Q8 r t t.nodes.length) k:=fun k hk=>by simp at hk;subst hk;exact Q7f hn hK t.nodes.length k hi (by have:=hi.2;omega)
 have h1:Jr s (if 0≤Q3 t s.tops (t.at i).text then s.fail 2 i else s):=by
  split
  ·exact Jr.fail _ _ _
  ·exact Jr.rfl' _
 have hc:(Qb (Q8 r t t.nodes.length) {(if 0≤Q3 t s.tops (t.at i).text then s.fail 2 i else s) with top:=i,locals:=[]} [i]).code=0:=hc;exact h1.2 ((Q0n [i] hW {(if 0≤Q3 t s.tops (t.at i).text then s.fail 2 i else s) with top:=i,locals:=[]}).1.2 hc)
theorem Qib {r:Reg} {t:Q1} (hn:Qs t=true) (hK:Qk t) (ht:∀i∈t.tops,InT t i):∀(l:List Int) (s:CS),(∀x∈l,x∈t.tops)→(l.foldl (Yn r t) s).code=0→s.code=0:=by
 intro l
 induction l with
 |nil=>intro s _ h;exact h
 |cons i l ih =>
  intro s hl h;exact Qfq hn hK (ht i (hl i Sm)) s (ih _ (fun x hx=>hl x (by simp[hx])) h)
theorem Qe5 {r:Reg} {t:Q1} (hn:Qs t=true) (hK:Qk t) (ht:∀i∈t.tops,InT t i):∀(l pre:List Int) (s:CS),t.tops=pre++l→s.tops=pre→(Qd t pre).Nodup→(l.foldl (Yn r t) s).code=0→s.code=0∧(Qd t (pre++l)).Nodup:=by
 intro l
 induction l with
 |nil=>intro pre s _ _ h hc;exact⟨hc,by simpa using h⟩
 |cons i l ih =>
  intro pre s ht1 hs hnd hc;have hi:=ht i (by rw[ht1];simp);rw[List.foldl_cons] at hc;have hW:∀k∈[i],Q8p t (Q8 r t t.nodes.length) k:=fun k hk=>by simp at hk;subst hk;exact Q7f hn hK t.nodes.length k hi (by have:=hi.2;omega)
  have hp:∀k∈pre,0≤k:=fun k hk=>(ht k (by rw[ht1];simp[hk])).1
  have e:Yn r t s i={Qb (Q8 r t t.nodes.length) {(if 0≤Q3 t s.tops (t.at i).text then s.fail 2 i else s) with top:=i,locals:=[]} [i] with tops:=(Qb (Q8 r t t.nodes.length) {(if 0≤Q3 t s.tops (t.at i).text then s.fail 2 i else s) with top:=i,locals:=[]} [i]).tops++[i]}:=rfl;rw[e] at hc
  have h1:Jr s (if 0≤Q3 t s.tops (t.at i).text then s.fail 2 i else s):=by
   split
   ·exact Jr.fail _ _ _
   ·exact Jr.rfl' _
  have h1':(if 0≤Q3 t s.tops (t.at i).text then s.fail 2 i else s).code=0→¬ 0≤Q3 t s.tops (t.at i).text:=fun h h9=>by
   rw[Ps h9] at h;unfold CS.fail at h;split at h
   ·cases h
   ·rename_i h8;exact h8 h
  generalize (if 0≤Q3 t s.tops (t.at i).text then s.fail 2 i else s)=s1 at h1 h1' hc;obtain⟨h2,_⟩:=Q0n [i] hW {s1 with top:=i,locals:=[]};have htp:(Qb (Q8 r t t.nodes.length) {s1 with top:=i,locals:=[]} [i]).tops=pre:=h2.1.trans (h1.1.trans hs)
  have key:¬ 0≤Q3 t pre (t.at i).text→(Qd t (pre++[i])).Nodup:=fun hno=>by
   unfold Qd at hnd ⊢;rw[List.map_append,List.nodup_append]
   refine⟨hnd,Sm,fun a ha b hb e9=>hno ((Yj hp).1 ?_)⟩
   simp at hb;subst hb;subst e9;exact ha
  by_cases hno:0≤Q3 t pre (t.at i).text
  ·exfalso
   have hcc:s1.code=0:=by
    have:=(Qib hn hK ht l {Qb (Q8 r t t.nodes.length) {s1 with top:=i,locals:=[]} [i] with tops:=(Qb (Q8 r t t.nodes.length) {s1 with top:=i,locals:=[]} [i]).tops++[i]} (fun x hx=>by rw[ht1];simp[hx])) hc;exact h2.2 this
   exact h1' hcc (by rw[hs];exact hno)
  ·obtain⟨g1,g2⟩:=ih (pre++[i]) _ (by rw[ht1];simp) (by show (Qb _ _ _).tops++[i]=_;rw[htp]) (key hno) hc
   exact⟨h1.2 (h2.2 g1),by simpa using g2⟩
theorem Qhp {r:Reg} {t:Q1} (h:(Zo r t).1=0):(Qd t t.tops).Nodup:=by
 unfold Zo at h;split at h
 ·rename_i hb
  simp only[Bool.and_eq_true] at hb;obtain⟨q1,q2,q3,q4,q5,q6⟩:=Yg hb.2;have:=(Qe5 (r:=r) q1 q2 (fun i hi=>(q4 i hi).1) t.tops [] (Z6 t) rfl rfl (by simp[Qd]) h).2;simpa using this
 ·cases h
theorem Qes {t:Q1}:∀(l:List Int),(Qd t l).Nodup→∀k∈l,Q3 t l (t.at k).text=k:=by
 intro l
 induction l with
 |nil=>intro _ k hk;cases hk
 |cons i l ih =>
  intro hnd k hk;rw[Q4f,List.nodup_cons] at hnd;simp only[Q3];rcases List.mem_cons.1 hk with rfl|hk
  ·rw[Ps rfl]
  ·rw[Ng (fun e=>hnd.1 (by rw[e];exact List.mem_map.2 ⟨k,hk,rfl⟩))]
   exact ih hnd.2 k hk
section
variable {r:Reg} {t:Q1} {name:ByteArray}
theorem Qk9:okI r t name=Q5v r t name:=by
 unfold okI Q5v
 by_cases h:(Zo r t).1=0
 ·have hB:=(Q30 h).1
  unfold Zq;rw[hB];rfl
 ·rw[Df h];rfl
end
def szL (n left:Int):Int:=if n≤left then left-n else -1
theorem Qb0 (v:Value) (xs:List Int) (left:Int) (w:World) (hv:Qf w v xs) (hl:0≤left∧left≤1048576) :
  Calls prog 29 #[v,.int .i64 left] w fun e w'=>e=.returned (.int .i64 (szL xs.length left))∧w=w':=by
 obtain⟨A,b,o,c,rfl,hn,_⟩:=hv;have hw1:IntKind.i64.wrap (left-(xs.length:Int))=left-(xs.length:Int):=by rw[IntKind.wrap_i64];omega
 have hw2:wrap64 (left-(xs.length:Int))=left-(xs.length:Int):=by unfold wrap64;omega
 by_cases h:(xs.length:Int)≤left
 ·have t1:decide (left-(xs.length:Int)<0)=false:=Df Om
  go_enter func29,ntmps29;go_wp2_with fail;go_ret;exact⟨Jo (by unfold szL;rw[Ps Om]),rfl⟩
 ·have t1:decide (left-(xs.length:Int)<0)=true:=Dt Om
  go_enter func29,ntmps29;go_wp2_with fail;go_ret;exact⟨Jo (by unfold szL;rw[Ng Om]),rfl⟩
theorem Q7c (v u:Value) (xs:List Int) (w:World) (hv:Qf w v xs) (hu:Qf w u xs) :
  Calls prog 44 #[v,u] w fun e w'=>e=.returned (.bool true)∧Q0 nob w w':=by
 obtain⟨A,b,o,c,rfl,hn,_,hA,hc⟩:=hv;obtain⟨B,b',o',c',rfl,_,_,hB,hd⟩:=hu;have HC:=Hh hc;have HD:=Hh hd;clear hc hd;go_enter func44,ntmps44;go_wp2_with fail;go_loopw [5] (fun k wr=>∃j:Nat,j≤xs.length∧k=.int .i64 j∧Hi (Q0 nob w wr)) (fun k _=>xs.length-(intOf k).toNat)
 case atStart=>exact⟨0,Nat.zero_le _,rfl,Hh (Kr _ _)⟩
 case round =>
  obtain⟨j,hj,rfl,HR⟩:=hrel;obtain⟨wo,rfl⟩:∃wo:World,wo=wr:=⟨_,rfl⟩
  by_cases hlt:j<xs.length
  ·obtain⟨x,hx⟩:=Q4 hlt
   have c0:=HR.o.cell id (HC.o j x hx);have c1:=HR.o.cell id (HD.o j x hx);obtain rfl:=hA Om;obtain rfl:=hB Om;have hjn:(j:Int)<(xs.length:Int):=Om
   clear hx;go_upto_region 6 with fail
   go_quiet (fail);go_wp2_with fail;go_roundw
   case rel=>exact⟨j+1,Om,Gm,Hh (HR.o.drewN _)⟩
   case measure=>exact Me
  ·have hjn:¬ (j:Int)<(xs.length:Int):=Om
   go_wp2_with fail;go_returns;exact⟨rfl,HR.o⟩
def Yx:Nat→Int→List Int
 |0,_=>[]
 |n+1,k=>k::Yx n (k+1)
theorem Yb (n:Nat) (k:Int):(Yx n k).length=n:=by
 induction n generalizing k with
 |zero=>rfl
 |succ n ih=>simp[Yx,ih]
theorem Q5o {n:Nat} {k:Int} {j:Nat} (h:j<n):(Yx n k)[j]?=some (k+j):=by
 induction n generalizing k j with
 |zero=>omega
 |succ n ih =>
  cases j with
  |zero=>simp[Yx]
  |succ j=>simp only[Yx,List.getElem?_cons_succ];rw[ih Om];congr 1;omega
theorem Qdd (v:Value) (n:Nat) (k:Int) (w:World) (hv:Qf w v (Yx n k)) (hk:0≤k∧k≤1000000000000000000) :
  Calls prog 50 #[v,.int .i64 k] w fun e w'=>e=.returned (.int .i64 (k+n))∧w=w':=by
 obtain⟨A,b,o,c,rfl,hn,_,hA,hc⟩:=hv;have HC:Hi (∀j,j<n→w.cell? ⟨b,o+j,none⟩=some (.int .i64 (k+j))):=Hh fun j hj=>hc j _ (Q5o hj)
 rw[Yb] at hn hA ⊢;clear hc;go_enter func50,ntmps50;go_wp2_with fail;go_loop [1,5] (fun m i=>∃j:Nat,j≤n∧i=.int .i64 j∧m=.int .i64 (k+j)) (fun _ i=>n-(intOf i).toNat)
 case atStart=>exact⟨0,Nat.zero_le _,rfl,Sm⟩
 case round =>
  obtain⟨j,hj,rfl,rfl⟩:=hrel
  by_cases hlt:j<n
  ·have c0:=HC.o j hlt
   obtain rfl:=hA Om;have hjn:(j:Int)<(n:Int):=Om
   have hw1:IntKind.i64.wrap (k+(j:Int)+1)=k+(j:Int)+1:=by rw[IntKind.wrap_i64];omega
   have hw2:wrap64 (k+(j:Int)+1)=k+(j:Int)+1:=by unfold wrap64;omega
   generalize hm:k+(j:Int)=m at *;go_wp2_with fail;go_round
   case rel=>exact⟨j+1,Om,Gm,by congr 1;push_cast;omega⟩
   case measure=>exact Me
  ·have hjn:¬ (j:Int)<(n:Int):=Om
   obtain rfl:j=n:=Om
   go_wp2_with fail;go_ret;exact⟨rfl,rfl⟩
theorem Qc.cellAt {S:Nat→Prop} {e:TypeId} {w:World} {b n c:Nat} {xs:List Value} (h:Qc S e w (.slice (some ⟨b,0,none⟩) n c) xs) {j:Nat} {x:Value} (hx:xs[j]?=some x):w.cell? ⟨b,j,none⟩=some x∧w.frozen? ⟨b,j,none⟩=false:=by
 obtain⟨B,b2,c2,hv,_,_,hB,hc⟩:=h.opened;have:=(Gs hx).1;obtain⟨h1,_,_⟩:=hB Om;injection hv with h2 _ _
 rw[h1] at h2;cases h2;exact hc j x hx
theorem Q57 {S:Nat→Prop} {v:Value} {xs:List Int} {k:Int} {w:World} (h:Qc S 3 w v (Q5 xs)) (hl:xs.length≤140737488355328) (hk:0≤k∧k≤1000000000000000000) :
  Calls prog 48 #[v,.int .i64 k] w fun e w'=>e=.returned (.int .i64 (k+xs.length))∧Qc S 3 w' v (Q5 (Yx xs.length k))∧Q0 (own v) w w':=by
 obtain⟨A,b,c,hv,_,_,hA,_⟩:=h.opened;rw[Q2] at hv hA;subst hv;have HO:=Hh h;clear h;go_enter func48,ntmps48;go_wp2_with fail;go_loopw [1,5] (fun m i wr=>∃j:Nat,j≤xs.length∧i=.int .i64 j∧m=.int .i64 (k+j)∧Hi (Qc S 3 wr (.slice A xs.length c) (Q5 (Yx j k++xs.drop j))∧Q0 (own (.slice A xs.length c)) w wr)) (fun _ i _=>xs.length-(intOf i).toNat)
 case atStart=>exact⟨0,Nat.zero_le _,rfl,Sm,Hh ⟨HO.o,Kr _ _⟩⟩
 case round =>
  obtain⟨j,hj,rfl,rfl,HR⟩:=hrel;obtain⟨wo,rfl⟩:∃wo:World,wo=wr:=⟨_,rfl⟩
  by_cases hlt:j<xs.length
  ·obtain⟨x,hx⟩:=Q4 hlt
   obtain⟨rfl,hSb,hob⟩:=hA Om
   have Qpb:(Q5 (Yx j k++xs.drop j))[j]?=some (.int .i64 x):=by
    simp only[Q5,List.getElem?_map];rw[List.getElem?_append_right (by rw[Yb];exact Nat.le_refl _),Yb,Nat.sub_self,List.getElem?_drop,Nat.add_zero,hx];rfl
   obtain⟨c0,f0⟩:=HR.o.1.cellAt Qpb;have hjn:(j:Int)<(xs.length:Int):=Om
   have hw1:IntKind.i64.wrap (k+(j:Int)+1)=k+(j:Int)+1:=by rw[IntKind.wrap_i64];omega
   have hw2:wrap64 (k+(j:Int)+1)=k+(j:Int)+1:=by unfold wrap64;omega
   have HN:Hi (Qc S 3 (wo.setCell ⟨b,j,none⟩ (.int .i64 (k+j))) (.slice (some ⟨b,0,none⟩) xs.length c) (Q5 (Yx (j+1) k++xs.drop (j+1)))):=Hh (by
    have h1:=HR.o.1.set hob j (.int .i64 (k+j))
    have e:(Q5 (Yx j k++xs.drop j)).set j (.int .i64 (k+j))=Q5 (Yx (j+1) k++xs.drop (j+1)):=by
     have e2:Yx (j+1) k=Yx j k++[k+(j:Int)]:=by
      apply List.ext_getElem?;intro q
      by_cases hq:q<j
      ·rw[Q5o Om,List.getElem?_append_left (by rw[Yb];exact hq),Q5o hq]
      ·by_cases hq2:q=j
       ·subst hq2;rw[Q5o Om,List.getElem?_append_right (by rw[Yb];exact Nat.le_refl _),Yb];simp
       ·rw[List.getElem?_eq_none (by rw[Yb];omega),List.getElem?_eq_none (by rw[List.length_append,Yb];simp;omega)]
     rw[e2,Qh hx];simp only[Q5,List.map_append,List.map_cons,List.append_assoc,List.singleton_append];rw[List.set_append_right _ _ (by rw[List.length_map,Yb];exact Nat.le_refl _),List.length_map,Yb,Nat.sub_self];rfl
    rwa [e] at h1)
   have HKN:Hi (Q0 (own (.slice (some ⟨b,0,none⟩) xs.length c)) w (wo.setCell ⟨b,j,none⟩ (.int .i64 (k+j)))):=Hh (HR.o.2.setCell (p:=⟨b,j,none⟩) (.inl rfl) _);generalize hm:k+(j:Int)=m at *;clear Qpb hx;go_wp2_with fail;go_roundw
   case rel=>exact⟨j+1,Om,Gm,by congr 1;push_cast;omega,Hh ⟨HN.o,HKN.o⟩⟩
   case measure=>exact Me
  ·have hjn:¬ (j:Int)<(xs.length:Int):=Om
   obtain rfl:j=xs.length:=Om
   have HR1:=HR.o.1;rw[Dn (Nat.le_refl _),List.append_nil] at HR1;have HR2:=Hh HR1;clear HR1;go_wp2_with fail;go_returns;exact⟨rfl,HR2.o,HR.o.2⟩
theorem Q9b {T e:TypeId} (hu:prog.underlying T=some (.slice e)) {z:Value} {m bytes:Nat} (Qod:(prog.info? e).map (fun i=>(i.zero,i.size,i.bytes))=some (some z,m,bytes)) (N:Nat) (hN:N≤1048576) (hb:bytes≤1000) {zc:Array Value} (hzc:z.cells=zc) {k:Nat} (hk:N*m=k) (w:World) :
  (Instr.makeSlice T (.int .i64 (N:Int)) (.int .i64 (N:Int))).run prog w=.ok (.slice (some ⟨w.heap.size,0,none⟩) N N) (w.alloc (.cells (madeCells zc k) e (0,0))):=by
 obtain⟨i0,hi0,hzz⟩:=Option.map_eq_some_iff.1 Qod;simp only[Prod.mk.injEq] at hzz;obtain⟨hz0,hz1,hz2⟩:=hzz
 have hbn:(bytes:Int)*(N:Int)≤281474976710656:=by
  have h1:bytes*N≤1000*1048576:=Nat.mul_le_mul hb hN;rw[← Int.natCast_mul];generalize bytes*N=q at h1 ⊢;omega
 have h:=run_make (P:=prog) w T e i0 z hu hi0 hz0 .i64 .i64 (N:Int) (N:Int) Om Om (by rw[hz2];exact hbn) Om;rw[h,hz1,hzc];simp only[Int.toNat_natCast];rw[hk]
theorem Q96 (w:World) (zc:Array Value) (n:Nat) (e:TypeId):Blk (w.alloc (.cells (madeCells zc n) e (0,0))) w.heap.size (madeCells zc n).toList e∧(madeCells zc n).toList.length=n:=by
 refine⟨?_,by rw[Array.length_toList,size_madeCells]⟩;have:=Blk.new w (madeCells zc n).toList e;simpa using this
theorem Blk.own {w:World} {b n:Nat} {cs:List Value} {e:TypeId} {m:Nat} {S:Nat→Prop} (h:Blk w b cs e) (hl:cs.length=n*m) (hn:n≤1048576) (hS:S b):Y5 S e m w (.slice (some ⟨b,0,none⟩) n n) n cs :=
 ⟨⟨hl,.inr ⟨b,n,cs.toArray,rfl,Nat.zero_le _,h,Nat.le_refl _,by simp only[maxLen];omega,by simp[hl],by rw[← hl];simp⟩⟩,fun k hk=>by simp[Value.ownBlock] at hk;subst hk;exact hS⟩
theorem take_set {α:Type} {cs:List α} {j:Nat} {p:List α} (h:cs.take j=p) (hj:j<cs.length) (x:α):(cs.set j x).take (j+1)=p++[x]:=by
 rw[List.take_add_one,List.take_set_of_le (Nat.le_refl _),h,List.getElem?_set_self hj];rfl
theorem Qbi (v:Value) (xs:List Int) (w:World) (hv:Qf w v xs) (hl:xs.length≤1048576) :
  Calls prog 37 #[v] w fun e w'=>∃u,e=.returned u∧Qc (Q6 w.heap.size) 3 w' u (Q5 xs)∧Q0 nob w w':=by
 obtain⟨A,b,o,c,rfl,hn,_,hA,hc⟩:=hv;have HC:=Hh hc;have hmk:=Q9b (T:=26) (e:=3) underlying26 (z:=.int .i64 0) (m:=1) (bytes:=8) Kf xs.length hl Om rfl (Nat.mul_one _);obtain⟨hb,hbl⟩:=Q96 w #[.int .i64 0] xs.length 3;have HB:=Hh hb;have HBL:=Hh hbl;clear hc hb hbl;go_enter func37,ntmps37;go_wp2_with fail;clear hmk;have hkw:Q0 nob w (w.alloc (.cells (madeCells #[.int .i64 0] xs.length) 3 (0,0))):=(Kr _ _).alloc _;have HKW:=Hh hkw;clear hkw;generalize hw1:w.alloc (.cells (madeCells #[.int .i64 0] xs.length) 3 (0,0))=w1 at *;clear hw1;generalize (madeCells #[.int .i64 0] xs.length).toList=cs0 at *;go_loopw [4] (fun i wr=>∃j:Nat,j≤xs.length∧i=.int .i64 j∧Hi (∃cs,Blk wr w.heap.size cs 3∧cs.length=xs.length∧cs.take j=Q5 (xs.take j)∧Q0 (fun k=>k=w.heap.size) w1 wr)) (fun i _=>xs.length-(intOf i).toNat)
 case atStart=>exact⟨0,Nat.zero_le _,rfl,Hh ⟨cs0,HB.o,HBL.o,rfl,Kr _ _⟩⟩
 case round =>
  obtain⟨j,hj,rfl,HR⟩:=hrel;obtain⟨cs,hR1,hR2,hR3,hR4⟩:=HR.o;obtain⟨wo,rfl⟩:∃wo:World,wo=wr:=⟨_,rfl⟩
  by_cases hlt:j<xs.length
  ·obtain⟨x,hx⟩:=Q4 hlt
   have c0:=hR4.cell (a:=⟨b,o+j,none⟩) (fun e=>by have:=World.block_lt_of_cell? w _ (HC.o j x hx);have e:b=w.heap.size:=e;simp at this;omega) (HKW.o.cell id (HC.o j x hx));obtain rfl:=hA Om;obtain⟨y,hy⟩:=Q4 (xs:=cs) (j:=j) Om;have c1:=hR1.cell j y hy;have f1:=hR1.free j;have hjn:(j:Int)<(xs.length:Int):=Om
   have HN:Hi (∃cs',Blk (wo.setCell ⟨w.heap.size,j,none⟩ (.int .i64 x)) w.heap.size cs' 3∧cs'.length=xs.length∧cs'.take (j+1)=Q5 (xs.take (j+1))∧Q0 (fun k=>k=w.heap.size) w1 (wo.setCell ⟨w.heap.size,j,none⟩ (.int .i64 x))):=Hh
    ⟨cs.set j (.int .i64 x),hR1.set j _,by rw[List.length_set];exact hR2,by rw[take_set hR3 Om,Js hx];simp[Q5],hR4.setCell (p:=⟨w.heap.size,j,none⟩) (.inl rfl) _⟩
   clear hx hy hR1 hR2 hR3 hR4 HR;go_wp2_with fail;go_roundw
   case rel=>exact⟨j+1,Om,Gm,HN⟩
   case measure=>exact Me
  ·have hjn:¬ (j:Int)<(xs.length:Int):=Om
   obtain rfl:j=xs.length:=Om
   clear hR1 hR2 hR3 hR4;go_wp2_with fail;go_returns;obtain⟨cs,hR1,hR2,hR3,hR4⟩:=HR.o;rw[List.take_of_length_le Om,List.take_of_length_le (Nat.le_refl _)] at hR3;subst hR3
   refine⟨_,rfl,?_,HKW.o.then_ hR4 (fun k e=>.inr Om)⟩
   have h9:=hR1.own (S:=Q6 w.heap.size) (n:=xs.length) (m:=1) (by rw[hR2];omega) hl (Nat.le_refl _);exact⟨by rw[Q2];exact h9.1,h9.2⟩
theorem Qip (d:Zt) (w:World) :
  Calls prog 74 #[.agg #[.string d.name,.int .i64 d.kind]] w fun e w'=>e=.returned (.agg #[.string d.name,.int .i64 d.kind])∧Q0 nob w w':=by
 obtain⟨nm,kd⟩:=d;go_enter func74,ntmps74;go_wp2_with fail;exact bodyPost_ret (v:=.agg #[.string nm,.int .i64 kd]) (by simp[results,results74,go_sem]) rfl ⟨rfl,(((Kr _ _).alloc _).alloc _).alloc _⟩
theorem Q6l (v:Value) (ds:List Zt) (w:World) (hv:Ji w v ds) (hl:ds.length≤1048576) :
  Calls prog 35 #[v] w fun e w'=>∃u,e=.returned u∧Y5 (Q6 w.heap.size) 128 2 w' u ds.length (decls ds)∧Q0 nob w w':=by
 obtain⟨A,b,o,c,rfl,hn,_,hA,hc⟩:=hv;have HC:=Hh hc;have hmk:=Q9b (T:=36) (e:=128) underlying36 (z:=.agg #[.string ByteArray.empty,.int .i64 0]) (m:=2) (bytes:=24) Kf ds.length hl Om (zc:=#[.string ByteArray.empty,.int .i64 0]) rfl rfl;obtain⟨hb,hbl⟩:=Q96 w #[.string ByteArray.empty,.int .i64 0] (ds.length*2) 128;have HB:=Hh hb;have HBL:=Hh hbl;clear hc hb hbl;go_enter func35,ntmps35;go_wp2_with fail;clear hmk;have hkw:Q0 nob w (w.alloc (.cells (madeCells #[.string ByteArray.empty,.int .i64 0] (ds.length*2)) 128 (0,0))):=(Kr _ _).alloc _;have HKW:=Hh hkw;clear hkw;generalize hw1:w.alloc (.cells (madeCells #[.string ByteArray.empty,.int .i64 0] (ds.length*2)) 128 (0,0))=w1 at *;clear hw1;generalize (madeCells #[.string ByteArray.empty,.int .i64 0] (ds.length*2)).toList=cs0 at *;go_loopw [4] (fun i wr=>∃j:Nat,j≤ds.length∧i=.int .i64 j∧Hi (∃cs,Blk wr w.heap.size cs 128∧cs.length=ds.length*2∧cs.take (j*2)=decls (ds.take j)∧Q0 (fun k=>k=w.heap.size) w1 wr)) (fun i _=>ds.length-(intOf i).toNat)
 case atStart=>exact⟨0,Nat.zero_le _,rfl,Hh ⟨cs0,HB.o,HBL.o,by simp[decls],Kr _ _⟩⟩
 case round =>
  obtain⟨j,hj,rfl,HR⟩:=hrel;obtain⟨cs,hR1,hR2,hR3,hR4⟩:=HR.o;obtain⟨wo,rfl⟩:∃wo:World,wo=wr:=⟨_,rfl⟩
  by_cases hlt:j<ds.length
  ·obtain⟨x,hx⟩:=Q4 hlt
   have HCW:Hi (∀W,Q0 (fun k=>k=w.heap.size) w1 W→W.cell? ⟨b,o+j*2,none⟩=some (.string x.name)∧W.cell? ⟨b,o+j*2+1,none⟩=some (.int .i64 x.kind)):=Hh fun W hW=>by
    have hne:b≠w.heap.size:=fun e=>by have:=World.block_lt_of_cell? w _ (HC.o j x hx).1;simp at this;omega
    exact⟨hW.cell hne (HKW.o.cell id (HC.o j x hx).1),hW.cell hne (HKW.o.cell id (HC.o j x hx).2)⟩
   obtain⟨c0,c0'⟩:=HCW.o _ hR4;obtain rfl:=hA Om;have hjn:(j:Int)<(ds.length:Int):=Om
   have HR4:=Hh hR4;have HR1:=Hh hR1
   have HT:Hi (∀a b,((cs.set (j*2) a).set (j*2+1) b).take ((j+1)*2)=decls (ds.take j)++[a,b]):=Hh fun a b=>by
    have h:=take_set (take_set hR3 Om a) (by rw[List.length_set];omega) b;rw[List.append_assoc] at h;rw[show (j+1)*2=j*2+1+1 by omega];exact h
   have HE:Hi (decls (ds.take j)++[.string x.name,.int .i64 x.kind]=decls (ds.take (j+1))):=Hh (by rw[Js hx,← Q7j];rfl);obtain⟨y0,hy0⟩:=Q4 (xs:=cs) (j:=j*2) Om;obtain⟨y1,hy1⟩:=Q4 (xs:=cs) (j:=j*2+1) Om
   have HY:Hi (∀W,Q0 nob wo W→(W.cell? ⟨w.heap.size,j*2,none⟩=some y0∧W.cell? ⟨w.heap.size,j*2+1,none⟩=some y1)∧∀i,W.frozen? ⟨w.heap.size,i,none⟩=false):=Hh fun W hW =>
    ⟨⟨(hR1.kept hW id).cell _ _ hy0,(hR1.kept hW id).cell _ _ hy1⟩,(hR1.kept hW id).free⟩
   have HL:=Hh hR2;clear hx hR1 hR2 hR3 hR4 hy0 hy1 HR;go_wp2_with (go_at_call 74;refine (Qip x _).mono ?_;rintro e w3 ⟨rfl,hk3⟩;obtain⟨⟨s0,s1⟩,f0⟩:=HY.o _ hk3;have f1:=f0 (j*2);have f2:=f0 (j*2+1);clear f0);go_roundw
   case rel =>
    refine⟨j+1,Om,Gm,Hh ⟨_,((HR1.o.kept hk3 id).set (j*2) (.string x.name)).set (j*2+1) (.int .i64 x.kind),by rw[List.length_set,List.length_set];exact HL.o,(HT.o _ _).trans HE.o,?_⟩⟩;exact ((HR4.o.trans (hk3.ofNob _)).setCell (p:=⟨w.heap.size,j*2,none⟩) (.inl rfl) _).setCell (p:=⟨w.heap.size,j*2+1,none⟩) (.inl rfl) _
   case measure=>exact Me
  ·have hjn:¬ (j:Int)<(ds.length:Int):=Om
   obtain rfl:j=ds.length:=Om
   clear hR1 hR2 hR3 hR4;go_wp2_with fail;go_returns;obtain⟨cs,hR1,hR2,hR3,hR4⟩:=HR.o;rw[List.take_of_length_le Om,List.take_of_length_le (Nat.le_refl _)] at hR3;subst hR3;exact⟨_,rfl,hR1.own (S:=Q6 w.heap.size) hR2 hl (Nat.le_refl _),HKW.o.then_ hR4 (fun k e=>.inr Om)⟩
def Q7q (S:Nat→Prop) (w:World) (v:Value) (r:Reg):Prop :=
 ∃v0 v1 v2,v=.agg #[v0,v1,v2]∧(Y5 S 128 2 w v0 r.comps.length (decls r.comps)∧Y5 S 128 2 w v1 r.ress.length (decls r.ress)∧Y5 S 128 2 w v2 r.evts.length (decls r.evts)) ∧
  sep v0.ownBlock v1.ownBlock∧sep v0.ownBlock v2.ownBlock∧sep v1.ownBlock v2.ownBlock
theorem Y5.decls {S:Nat→Prop} {w:World} {v:Value} {ds:List Zt} (h:Y5 S 128 2 w v ds.length (decls ds)) (hl:ds.length≤140737488355328):Ji w v ds:=by
 obtain⟨A,b,c,rfl,hn,hnc,hA,hc⟩:=h.opened
 refine⟨A,b,0,c,rfl,hl,hnc,fun h0=>(hA h0).1,fun j x hx=>?_⟩
 simp only[Nat.zero_add];exact Q6a hc hx
theorem Q7q.reg {S:Nat→Prop} {w:World} {v:Value} {r:Reg} (h:Q7q S w v r) (hl:r.comps.length≤1048576∧r.ress.length≤1048576∧r.evts.length≤1048576):Q20 w v r:=by
 obtain⟨v0,v1,v2,rfl,⟨h0,h1,h2⟩,_⟩:=h;exact⟨v0,v1,v2,rfl,h0.decls Om,h1.decls Om,h2.decls Om⟩
theorem Q7e {S:Nat→Prop} {e:TypeId} {m n:Nat} {w:World} {u v:Value} {xs:List Value} (h:Y5 S e m w u n xs) (hs:∀k,v.ownBlock=some k→w.heap.size≤k):sep u.ownBlock v.ownBlock:=fun b hb hb2=>by have:=h.lt b hb;have:=hs b hb2;omega
theorem Qkr (v:Value) (r:Reg) (w:World) (hv:Q20 w v r) (hl:r.comps.length≤1048576∧r.ress.length≤1048576∧r.evts.length≤1048576) :
  Calls prog 9 #[v] w fun e w'=>∃u,e=.returned u∧Q7q (Q6 w.heap.size) w' u r∧Q0 nob w w':=by
 have hv':=hv;obtain⟨v0,v1,v2,rfl,⟨A0,b0,o0,c0,rfl,_⟩,⟨A1,b1,o1,c1,rfl,_⟩,⟨A2,b2,o2,c2,rfl,_⟩⟩:=hv;have hk0:Q0 nob w (((w.alloc (.cells #[.slice A0 r.comps.length c0,.slice A1 r.ress.length c1,.slice A2 r.evts.length c2] 24 (0,0))).alloc (.cells #[.slice none 0 0,.slice none 0 0,.slice none 0 0] 38 (0,0))).alloc (.cells #[.slice none 0 0,.slice none 0 0,.slice none 0 0] 38 (0,0))):=(((Kr _ _).alloc _).alloc _).alloc _;have hB:Blk (((w.alloc (.cells #[.slice A0 r.comps.length c0,.slice A1 r.ress.length c1,.slice A2 r.evts.length c2] 24 (0,0))).alloc (.cells #[.slice none 0 0,.slice none 0 0,.slice none 0 0] 38 (0,0))).alloc (.cells #[.slice none 0 0,.slice none 0 0,.slice none 0 0] 38 (0,0))) w.heap.size [.slice A0 r.comps.length c0,.slice A1 r.ress.length c1,.slice A2 r.evts.length c2] 24:=((Blk.new_of _ _ _ rfl).alloc _).alloc _;have hO:Blk (((w.alloc (.cells #[.slice A0 r.comps.length c0,.slice A1 r.ress.length c1,.slice A2 r.evts.length c2] 24 (0,0))).alloc (.cells #[.slice none 0 0,.slice none 0 0,.slice none 0 0] 38 (0,0))).alloc (.cells #[.slice none 0 0,.slice none 0 0,.slice none 0 0] 38 (0,0))) (w.heap.size+1) [.slice none 0 0,.slice none 0 0,.slice none 0 0] 38:=(Blk.new_of _ _ _ Sm).alloc _;have hL:Blk (((w.alloc (.cells #[.slice A0 r.comps.length c0,.slice A1 r.ress.length c1,.slice A2 r.evts.length c2] 24 (0,0))).alloc (.cells #[.slice none 0 0,.slice none 0 0,.slice none 0 0] 38 (0,0))).alloc (.cells #[.slice none 0 0,.slice none 0 0,.slice none 0 0] 38 (0,0))) (w.heap.size+1+1) [.slice none 0 0,.slice none 0 0,.slice none 0 0] 38:=Blk.new_of _ _ _ Sm;have hst:((((w.alloc (.cells #[.slice A0 r.comps.length c0,.slice A1 r.ress.length c1,.slice A2 r.evts.length c2] 24 (0,0))).alloc (.cells #[.slice none 0 0,.slice none 0 0,.slice none 0 0] 38 (0,0))).alloc (.cells #[.slice none 0 0,.slice none 0 0,.slice none 0 0] 38 (0,0)))).heap.size=w.heap.size+3:=Sm
 generalize hW0:(((w.alloc (.cells #[.slice A0 r.comps.length c0,.slice A1 r.ress.length c1,.slice A2 r.evts.length c2] 24 (0,0))).alloc (.cells #[.slice none 0 0,.slice none 0 0,.slice none 0 0] 38 (0,0))).alloc (.cells #[.slice none 0 0,.slice none 0 0,.slice none 0 0] 38 (0,0)))=W0 at hk0 hB hO hL hst
 have HRD:Hi (∀W,Q0 (fun k=>k=w.heap.size+1+1) W0 W→Ji W (.slice A0 r.comps.length c0) r.comps∧Ji W (.slice A1 r.ress.length c1) r.ress∧Ji W (.slice A2 r.evts.length c2) r.evts):=Hh fun W hW=>by
  have h:=hv'.old (((hk0.ofNob _).trans hW).oldS fun k hk e=>by have e:k=w.heap.size+1+1:=e;omega);obtain⟨x0,x1,x2,e,h0,h1,h2⟩:=h;cases e;exact⟨h0,h1,h2⟩
 have HL:=Hh hl;have HKN:=Hh hk0;have HK0:Hi (Q0 (fun k=>k=w.heap.size+1+1) W0 W0):=Hh (Kr _ _);have HB0:=Hh hB;have HL0:=Hh hL;have HST:=Hh hst;have HOO:=Hh hO;clear hO hst hv' hl hk0;have g0:=hB.cell 0 _ rfl;clear hB hL;go_enter func9,ntmps9;go_upto_region 2 with fail
 clear hW0;go_upto_region 3 with (go_at_call 35;refine (Q6l _ r.comps _ (HRD.o _ HK0.o).1 HL.o.1).mono ?_;rintro e w1 ⟨u0,rfl,ho,hk⟩;obtain⟨B0,d0,rfl⟩:=ho.len;have hb:=HB0.o.kept hk id;have hl:=HL0.o.kept hk id;have q1:=hl.cell 0 _ rfl;have f1:=hl.free 0;have hle:=HK0.o.size;have hm:=ho.mono (S':=Q6 W0.heap.size) (fun k h=>Nat.le_trans hle h);have HO1:=Hh (hm.kept ((Kr (fun k=>k=w.heap.size+1+1) _).setCell (p:=⟨w.heap.size+1+1,0,none⟩) (.inl rfl) (.slice B0 r.comps.length d0)) (fun k h e=>by have h:W0.heap.size≤k:=hm.2 k h;have e:k=w.heap.size+1+1:=e;have:=HST.o;omega));have HK1:=Hh ((HK0.o.trans (hk.ofNob _)).setCell (p:=⟨w.heap.size+1+1,0,none⟩) (.inl rfl) (.slice B0 r.comps.length d0));have HL1:=Hh (hl.set 0 (.slice B0 r.comps.length d0));have HB1:=Hh (hb.other (p:=⟨w.heap.size+1+1,0,none⟩) So (.slice B0 r.comps.length d0));clear ho hk hle hm hb hl HB0 HL0)
 generalize w1.setCell ⟨w.heap.size+1+1,0,none⟩ (.slice B0 r.comps.length d0)=W1 at *;clear g0 q1 f1;have g1:=HB1.o.cell 1 _ rfl;go_upto_region 4 with (go_at_call 35;refine (Q6l _ r.ress _ (HRD.o _ HK1.o).2.1 HL.o.2.1).mono ?_;rintro e w2 ⟨u1,rfl,ho,hk⟩;obtain⟨B1,d1,rfl⟩:=ho.len;have hb:=HB1.o.kept hk id;have hl:=HL1.o.kept hk id;have q2:=hl.cell 1 _ rfl;have f2:=hl.free 1;have hle:=HK1.o.size;have hm:=ho.mono (S':=Q6 W0.heap.size) (fun k h=>Nat.le_trans hle h);have HO2:=Hh (hm.kept ((Kr (fun k=>k=w.heap.size+1+1) _).setCell (p:=⟨w.heap.size+1+1,1,none⟩) (.inl rfl) (.slice B1 r.ress.length d1)) (fun k h e=>by have h:W0.heap.size≤k:=hm.2 k h;have e:k=w.heap.size+1+1:=e;have:=HST.o;omega));have Qq9:=Hh (Q7e HO1.o ho.2);replace HO1:=Hh ((HO1.o.nobk hk).kept ((Kr (fun k=>k=w.heap.size+1+1) _).setCell (p:=⟨w.heap.size+1+1,1,none⟩) (.inl rfl) (.slice B1 r.ress.length d1)) (fun k h e=>by have h:W0.heap.size≤k:=(HO1.o.nobk hk).2 k h;have e:k=w.heap.size+1+1:=e;have:=HST.o;omega));have HK2:=Hh ((HK1.o.trans (hk.ofNob _)).setCell (p:=⟨w.heap.size+1+1,1,none⟩) (.inl rfl) (.slice B1 r.ress.length d1));have HL2:=Hh (hl.set 1 (.slice B1 r.ress.length d1));have HB2:=Hh (hb.other (p:=⟨w.heap.size+1+1,1,none⟩) So (.slice B1 r.ress.length d1));clear ho hk hle hm hb hl HB1 HL1)
 generalize w2.setCell ⟨w.heap.size+1+1,1,none⟩ (.slice B1 r.ress.length d1)=W2 at *;clear g1 q2 f2;have g2:=HB2.o.cell 2 _ rfl;go_upto_region 5 with (go_at_call 35;refine (Q6l _ r.evts _ (HRD.o _ HK2.o).2.2 HL.o.2.2).mono ?_;rintro e w3 ⟨u2,rfl,ho,hk⟩;obtain⟨B2,d2,rfl⟩:=ho.len;have hb:=HB2.o.kept hk id;have hl:=HL2.o.kept hk id;have q3:=hl.cell 2 _ rfl;have f3:=hl.free 2;have hle:=HK2.o.size;have hm:=ho.mono (S':=Q6 W0.heap.size) (fun k h=>Nat.le_trans hle h);have HO3:=Hh (hm.kept ((Kr (fun k=>k=w.heap.size+1+1) _).setCell (p:=⟨w.heap.size+1+1,2,none⟩) (.inl rfl) (.slice B2 r.evts.length d2)) (fun k h e=>by have h:W0.heap.size≤k:=hm.2 k h;have e:k=w.heap.size+1+1:=e;have:=HST.o;omega));have Qtb:=Hh (Q7e HO1.o ho.2);replace HO1:=Hh ((HO1.o.nobk hk).kept ((Kr (fun k=>k=w.heap.size+1+1) _).setCell (p:=⟨w.heap.size+1+1,2,none⟩) (.inl rfl) (.slice B2 r.evts.length d2)) (fun k h e=>by have h:W0.heap.size≤k:=(HO1.o.nobk hk).2 k h;have e:k=w.heap.size+1+1:=e;have:=HST.o;omega));have Qyk:=Hh (Q7e HO2.o ho.2);replace HO2:=Hh ((HO2.o.nobk hk).kept ((Kr (fun k=>k=w.heap.size+1+1) _).setCell (p:=⟨w.heap.size+1+1,2,none⟩) (.inl rfl) (.slice B2 r.evts.length d2)) (fun k h e=>by have h:W0.heap.size≤k:=(HO2.o.nobk hk).2 k h;have e:k=w.heap.size+1+1:=e;have:=HST.o;omega));have HK3:=Hh ((HK2.o.trans (hk.ofNob _)).setCell (p:=⟨w.heap.size+1+1,2,none⟩) (.inl rfl) (.slice B2 r.evts.length d2));have HL3:=Hh (hl.set 2 (.slice B2 r.evts.length d2));have HB3:=Hh (hb.other (p:=⟨w.heap.size+1+1,2,none⟩) So (.slice B2 r.evts.length d2));clear ho hk hle hm hb hl HB2 HL2)
 generalize w3.setCell ⟨w.heap.size+1+1,2,none⟩ (.slice B2 r.evts.length d2)=W3 at *;clear g2 q3 f3;have e0:=HL3.o.cell 0 _ rfl;have e1:=HL3.o.cell 1 _ rfl;have e2:=HL3.o.cell 2 _ rfl;have hr:=HOO.o.kept HK3.o Om;have r0:=hr.cell 0 _ rfl;have r1:=hr.cell 1 _ rfl;have r2:=hr.cell 2 _ rfl;have f0:=hr.free 0;have f1:=hr.free 1;have f2:=hr.free 2;have hR:=((hr.set 0 (.slice B0 r.comps.length d0)).set 1 (.slice B1 r.ress.length d1)).set 2 (.slice B2 r.evts.length d2);have x0:=hR.cell 0 _ rfl;have x1:=hR.cell 1 _ rfl;have x2:=hR.cell 2 _ rfl;have hkk:=(((Kr (fun k=>k=w.heap.size+1) W3).setCell (p:=⟨w.heap.size+1,0,none⟩) (.inl rfl) (.slice B0 r.comps.length d0)).setCell (p:=⟨w.heap.size+1,1,none⟩) (.inl rfl) (.slice B1 r.ress.length d1)).setCell (p:=⟨w.heap.size+1,2,none⟩) (.inl rfl) (.slice B2 r.evts.length d2);have HKK:=Hh hkk;clear hr hR hkk;go_wp2_with fail;have hw0:=HST.o;have hno:∀{u:Value} {n:Nat} {xs:List Value},Y5 (Q6 W0.heap.size) 128 2 W3 u n xs→∀k,u.ownBlock=some k→¬ k=w.heap.size+1:=fun h k hk e=>by have h:W0.heap.size≤k:=h.2 k hk;omega
 have hsi:∀{W:World} {u:Value} {n:Nat} {xs:List Value},Y5 (Q6 W0.heap.size) 128 2 W u n xs→Y5 (Q6 w.heap.size) 128 2 W u n xs:=fun h=>h.mono fun k hk=>by have hk:W0.heap.size≤k:=hk;show w.heap.size≤k;omega
 refine bodyPost_ret (v:=.agg #[.slice B0 r.comps.length d0,.slice B1 r.ress.length d1,.slice B2 r.evts.length d2]) (by simp[results,results9,go_sem,x0,x1,x2]) rfl ⟨_,rfl,⟨_,_,_,rfl,⟨hsi (HO1.o.kept HKK.o (hno HO1.o)),hsi (HO2.o.kept HKK.o (hno HO2.o)),hsi (HO3.o.kept HKK.o (hno HO3.o))⟩,Qq9.o,Qtb.o,Qyk.o⟩,?_⟩;exact (HKN.o.then_ HK3.o (fun k e=>.inr Om)).then_ HKK.o (fun k e=>.inr Om)
end Go.Proofs.YtkgkafjachjafaaGreat
