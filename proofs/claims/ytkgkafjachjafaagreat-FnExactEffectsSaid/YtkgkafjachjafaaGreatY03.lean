/- Part 3 of: FnExactEffects answers true; no condition. -/
import Derived.Deep.AppendLies
import Derived.Laws.FloatArith
import Derived.Laws.Externs
import Derived.Handy
import Derived.Test.YtkgkafjachjafaaGreatY00
import Derived.Test.YtkgkafjachjafaaGreatY01
set_option linter.unusedVariables false
set_option maxHeartbeats 1000000
open Go Go.RowKit
namespace Go.Proofs.YtkgkafjachjafaaGreat
open Tryz
theorem K02 {p:Prop} (h:p:=by go_enter func224,ntmps224;go_wp2_with (first|(go_at_call 229;refine (J1 _ _).mono ?_;rintro e w1 ⟨i,hi,rfl,rfl⟩;clear hi)|(go_at_call 228;refine (Je _ _).mono ?_;rintro e w1 ⟨rfl,rfl⟩));go_returns;exact⟨_,_,_,rfl,by first|exact (Kr _ _).alloc _|exact ((Kr _ _).alloc _).alloc _|exact (((Kr _ _).alloc _).alloc _).alloc _|exact (((Kr _ _).alloc _).drew).alloc _⟩):p:=h
theorem K03 {p:Prop} (h:p:=by go_enter func225,ntmps225;go_wp2_with (first|(go_at_call 229;refine (J1 _ _).mono ?_;rintro e w1 ⟨i,hi,rfl,rfl⟩;clear hi)|(go_at_call 228;refine (Je _ _).mono ?_;rintro e w1 ⟨rfl,rfl⟩));go_returns;exact⟨_,_,_,rfl,by first|exact (Kr _ _).alloc _|exact ((Kr _ _).alloc _).alloc _|exact (((Kr _ _).alloc _).alloc _).alloc _|exact (((Kr _ _).alloc _).drew).alloc _⟩):p:=h
theorem K04 {p:Prop} (h:p:=by rw[hK];clear hK;go_enter func218,ntmps218;go_wp2_with (first|(go_at_call 223;refine (Jd _ _ _).mono ?_;rw[ho];rintro e w1 ⟨rfl,rfl⟩)|(go_at_call 223;refine (Jd _ _ _).mono ?_;rw[ho2];rintro e w1 ⟨rfl,rfl⟩));go_returns;exact⟨_,_,_,rfl,by first|exact ((((Kr _ _).alloc _).alloc _).alloc _).alloc _|exact (((((Kr _ _).alloc _).alloc _).alloc _).alloc _).alloc _⟩):p:=h
theorem K05 {p:Prop} (h:p:=by go_enter func223,ntmps223;go_wp2_with (first|(go_at_call 235;refine (Q0s _ _).mono ?_;rintro e w1 ⟨rfl,rfl⟩)|(go_at_call 89;refine (Jk _ _ _ _).mono ?_;rintro e w1 ⟨rfl,rfl⟩));go_returns;exact⟨Q7 (by simp[okZ,hi]),by first|exact hW0|rfl|rw[← hW0,hi0]⟩):p:=h
theorem K06 {p:Prop} (h:p:=by go_enter func227,ntmps227;go_wp2_with (first|(go_at_call 229;refine (J1 _ _).mono ?_;rintro e w1 ⟨i,hi,rfl,rfl⟩;clear hi)|(go_at_call 228;refine (Je _ _).mono ?_;rintro e w1 ⟨rfl,rfl⟩));go_returns;exact⟨_,_,_,rfl,by first|exact (Kr _ _).alloc _|exact ((Kr _ _).alloc _).alloc _|exact (((Kr _ _).alloc _).alloc _).alloc _|exact (((Kr _ _).alloc _).drew).alloc _⟩):p:=h
def Qc (S:Nat→Prop) (e:TypeId) (w:World) (v:Value) (xs:List Value):Prop:=w.ownsRow 0 e 1 v xs.length xs∧∀k,v.ownBlock=some k→S k
def Jh (S:Nat→Prop) (w:World):Prop:=∀k,w.heap.size≤k→S k
theorem Jh.mono {S:Nat→Prop} {w w':World} (h:Jh S w) (hl:w.heap.size≤w'.heap.size):Jh S w':=fun k hk=>h k (Nat.le_trans hl hk)
theorem Jh.kept {S S':Nat→Prop} {w w':World} (h:Jh S w) (k:Q0 S' w w'):Jh S w':=h.mono k.size
theorem Jh.alloc {S:Nat→Prop} {w:World} (h:Jh S w) (o:Obj):Jh S (w.alloc o):=h.mono Sm
theorem Jh.set {S:Nat→Prop} {w:World} (h:Jh S w) (a:Addr) (u:Value):Jh S (w.setCell a u):=h.mono (by simp[World.setCell])
namespace Qc
variable {S S':Nat→Prop} {e:TypeId} {w w':World} {v:Value} {xs:List Value}
theorem nil (S:Nat→Prop) (e:TypeId) (w:World):Qc S e w (.slice none 0 0) []:=⟨⟨Sm,.inl ⟨rfl,rfl⟩⟩,fun k h=>by simp[Value.ownBlock] at h⟩
theorem mono (h:Qc S e w v xs) (hs:∀k,S k→S' k):Qc S' e w v xs:=⟨h.1,fun k hk=>hs k (h.2 k hk)⟩
theorem lt (h:Qc S e w v xs) (k:Nat) (hk:v.ownBlock=some k):k<w.heap.size:=by
 rcases h.1.2 with ⟨rfl,_⟩|⟨g,cap,cur,rfl,hb,hh,_⟩
 ·simp[Value.ownBlock] at hk
 ·have:g=k:=by simpa[Value.ownBlock] using hk
  subst this;exact (Array.getElem?_eq_some_iff.1 hh).1
theorem same (h:Qc S e w v xs) (hb:∀k,v.ownBlock=some k→w'.heap[k]?=w.heap[k]?):Qc S e w' v xs:=by
 refine⟨⟨h.1.1,?_⟩,h.2⟩;rcases h.1.2 with h1|⟨g,cap,cur,rfl,h0,hh,r⟩
 ·exact .inl h1
 ·exact .inr ⟨g,cap,cur,rfl,h0,(hb g rfl).trans hh,r⟩
theorem kept (h:Qc S e w v xs) (k:Q0 S' w w') (hn:∀k,v.ownBlock=some k→¬ S' k):Qc S e w' v xs:=h.same fun b hb=>k.block b (h.lt b hb) (hn b hb)
theorem nobk (h:Qc S e w v xs) (k:Q0 nob w w'):Qc S e w' v xs:=h.kept k (fun _ _ h=>h)
theorem alloc (h:Qc S e w v xs) (o:Obj):Qc S e (w.alloc o) v xs:=h.same fun b hb=>Below.heap_alloc _ _ _ (h.lt b hb)
theorem drew (h:Qc S e w v xs):Qc S e w.drew v xs:=h.same fun _ _=>rfl
theorem drewN (h:Qc S e w v xs) (n:Nat):Qc S e (w.drewN n) v xs:=h.same fun _ _=>rfl
theorem other (h:Qc S e w v xs) {p:Addr} (hp:v.ownBlock≠some p.block) (u:Value):Qc S e (w.setCell p u) v xs:=h.same fun b hb=>Below.heap_setCell _ _ _ _ (fun e=>hp (by rw[hb,e]))
theorem lit (S:Nat→Prop) (e:TypeId) (w:World) (xs:List Value) (hS:S w.heap.size) (hm:xs.length≤140737488355328) {b n c:Nat} (hb:b=w.heap.size) (hn:n=xs.length) (hc:c=xs.length) :
  Qc S e (w.alloc (.cells xs.toArray e (0,0))) (.slice (some ⟨b,0,none⟩) n c) xs:=by
 subst hb;subst hn;subst hc
 refine⟨⟨Sm,.inr ⟨w.heap.size,xs.length,xs.toArray,rfl,Nat.zero_le _,Blk.new w xs e,Nat.le_refl _,by simp only[maxLen];omega,Sm,Sm⟩⟩,fun k hk=>?_⟩
 have:w.heap.size=k:=by simpa[Value.ownBlock] using hk
 subst this;exact hS
theorem len (h:Qc S e w v xs):∃A c,v=.slice A xs.length c:=by
 rcases h.1.2 with ⟨rfl,h0⟩|⟨g,cap,cur,rfl,_⟩
 ·exact⟨none,0,by rw[h0]⟩
 ·exact⟨_,_,rfl⟩
theorem opened (h:Qc S e w v xs):∃A b c,v=.slice A xs.length c∧xs.length≤9223372036854775807∧xs.length≤c∧(0<xs.length→A=some ⟨b,0,none⟩∧S b∧v.ownBlock=some b) ∧
  ∀j x,xs[j]?=some x→w.cell? ⟨b,j,none⟩=some x∧w.frozen? ⟨b,j,none⟩=false:=by
 rcases h.1.2 with ⟨rfl,h0⟩|⟨g,cap,cur,rfl,hb,hh,hnc,hcm,hcs,ht⟩
 ·have:xs=[]:=List.eq_nil_of_length_eq_zero h0
  subst this;exact⟨none,0,0,rfl,Sm,Sm,fun h=>absurd h Sm,fun j x hx=>by simp at hx⟩
 ·refine⟨_,g,cap,rfl,by simp only[maxLen] at hcm;omega,hnc,fun _=>⟨rfl,h.2 g rfl,rfl⟩,fun j x hx=>?_⟩
  have hj:j<xs.length:=(Gs hx).1
  have Qrs:cur[j]?=some x:=by
   rw[← ht,List.getElem?_take] at hx;simp at hx;exact hx.2
  constructor
  ·simp[World.cell?,hh,Qrs]
  ·simp[World.frozen?,hh]
end Qc
section
variable {P:Program} {ops:Array Oper} {rest:List Oper} {o:Oper} {a:Act} {Q:Exit→Act→World→Prop}
theorem Qt {W:World} (S:Nat→Prop) (hgd:o.guard=none) (s x:Operand) (t e:TypeId) (z:Value) (bytes:Nat)
  (ho:o.op=.call {callee:=.builtin .append,args:=#[s,x],argTypes:=#[t,t]})
  (ht:P.underlying t=some (.slice e)) (Qod:(P.info? e).map (fun i=>(i.zero,i.size,i.bytes))=some (some z,1,bytes)) (hz:z.cells.size=1)
  (v:Value) (xs:List Value) (y:Value) (hs:a.eval s=v) {bx:Nat} (hx:a.eval x=.slice (some ⟨bx,0,none⟩) 1 1) (hbx:bx=W.heap.size) (h1:y.oneCell'=true)
  (HO:Qc S e W v xs) (HF:Jh S W) (hl:(xs.length+1)*bytes≤140737488355328) (hl2:xs.length+1≤140737488355328)
  (h:∀v1 w1,Qc S e w1 v1 (xs++[y])→Q0 (fun k=>v.ownBlock=some k) W w1→(v1.ownBlock=v.ownBlock∨∃b,v1.ownBlock=some b∧W.heap.size≤b)→wpList P ops Q rest (a.put o.dst v1) w1) :
  wpList P ops Q (o::rest) a (W.alloc (.cells #[y] e)):=by
 subst hbx;obtain⟨i0,hi,hzz⟩:=Option.map_eq_some_iff.1 Qod;simp only[Prod.mk.injEq] at hzz;obtain⟨hz0,hz1,hz2⟩:=hzz
 refine wpList_append_own_at (W.alloc (.cells #[y] e)) hgd s x t ho 0 e i0 z 1 bytes ht hi hz0 hz1 hz2 hz Om v xs.length xs hs (HO.alloc _).1 ⟨W.heap.size,0,none⟩ 1 1 [y] hx rfl
  (World.news_of_block (cs:=#[y]) (t:=e) (fr:=(0,0)) (heap_alloc_new W _)) (by simpa using h1) (by simp only[maxLen];omega) hl (Nat.zero_le _) ?_
 intro v1 w1 Qnt hg _ hat
 have hat':v1.ownBlock=v.ownBlock∨∃b,v1.ownBlock=some b∧W.heap.size≤b:=by
  rcases hat with hat|hat
  ·exact .inl hat
  ·exact .inr ⟨_,hat,Sm⟩
 refine h v1 w1 ⟨by simpa using Qnt,fun k hk=>?_⟩ (((Kr _ W).alloc _).grown hg (fun k hk=>.inl hk)) hat'
 rcases hat' with e1|⟨b,e1,hb⟩
 ·exact HO.2 k (e1▸hk)
 ·rw[e1] at hk;cases hk;exact HF _ hb
end
def Xs {α:Type} [DecidableEq α] (y:α):List α→Int
 |[]=>-1
 |x::xs=>if x=y then 0 else if Xs y xs = -1 then -1 else Xs y xs+1
section
variable {α:Type} [DecidableEq α]
theorem Qfb (y:α) (xs:List α):-1≤Xs y xs:=by
 induction xs with
 |nil=>simp[Xs]
 |cons x xs ih=>simp only[Xs];split<;>first|omega|(split<;>omega)
theorem Qec (y:α) (xs:List α):0≤Xs y xs↔y∈xs:=by
 induction xs with
 |nil=>simp[Xs]
 |cons x xs ih =>
  simp only[Xs,List.mem_cons];have:=Qfb y xs
  by_cases h:x=y
  ·simp[h]
  ·rw[Ng h]
   have hne:¬ y=x:=fun e=>h e.symm
   by_cases h2:Xs y xs = -1
   ·rw[Ps h2]
    rw[h2] at ih;constructor
    ·intro h;omega
    ·rintro (h|h)
     ·exact absurd h hne
     ·have:=ih.2 h;omega
   ·rw[Ng h2]
    exact⟨fun _=>.inr (ih.1 Om),fun _=>by omega⟩
def Zr (y:α) (xs:List α):Bool:=decide (0≤Xs y xs)
theorem Xu (y:α) (xs:List α):Zr y xs=true↔y∈xs:=by rw[Zr,decide_eq_true_iff,Qec]
omit [DecidableEq α] in
def Q6d (y:α) (xs:List α) (j:Nat):Prop:=∀i x,i<j→xs[i]?=some x→x≠y
omit [DecidableEq α] in
theorem Q56 {y:α} {xs:List α} {j:Nat} {x:α} (h:Q6d y xs j) (hx:xs[j]?=some x) (hne:x≠y):Q6d y xs (j+1):=by
 intro i z hi hz
 by_cases e:i=j
 ·subst e;rw[hx] at hz;cases hz;exact hne
 ·exact h i z Om hz
theorem Q52 {y:α} {xs:List α} {j:Nat} {x:α} (hn:Q6d y xs j) (hd:xs[j]?=some x) (he:x=y):Xs y xs=j:=by
 induction xs generalizing j with
 |nil=>simp at hd
 |cons z xs ih =>
  cases j with
  |zero=>simp at hd;subst hd;simp[Xs,he]
  |succ j =>
   have h0:z≠y:=hn 0 z Om rfl;have:=ih (j:=j) (fun i d hi h=>hn (i+1) d Om (by simpa using h)) (by simpa using hd);simp only[Xs,Ng h0,this];rw[Ng Om];simp
theorem Q4j {y:α} {xs:List α} (hn:Q6d y xs xs.length):Xs y xs = -1:=by
 induction xs with
 |nil=>rfl
 |cons x xs ih =>
  have h0:x≠y:=hn 0 x Sm rfl;have:=ih (fun i d hi h=>hn (i+1) d So (by simpa using h));simp[Xs,Ng h0,this]
end
theorem Qee (v:Value) (xs:List ByteArray) (y:ByteArray) (w:World) (hv:Q0g w v xs) :
  Calls prog 118 #[v,.string y] w fun e w'=>e=.returned (.int .i64 (Xs y xs))∧w=w':=by
 obtain⟨A,b,o,c,rfl,hl,hlc,hA,hc⟩:=hv;have HC:=Hh hc;clear hc;go_enter func118,ntmps118;go_wp2;go_loop [5,8] (fun u i=>∃j:Nat,j≤xs.length∧i=.int .i64 j∧Q6d y xs j) (fun _ i=>xs.length-(intOf i).toNat)
 case atStart=>exact⟨0,Nat.zero_le _,rfl,fun i d hi _=>absurd hi Om⟩
 case round =>
  obtain⟨j,hj,rfl,hno⟩:=hrel;have HNO:=Hh hno;clear hno
  by_cases hlt:j<xs.length
  ·obtain⟨x,hx⟩:=Q4 hlt
   have HX:=Hh hx;have c0:=HC.o j x hx;obtain rfl:=hA Om;clear hx hA;go_wp2
   ·have hy:=Q04 (by assumption:(y.toList==x.toList)=true)
    go_ret;exact⟨Jo (Q52 HNO.o HX.o hy.symm).symm,rfl⟩
   ·have hy:=Q1p (by assumption:(y.toList==x.toList)=false)
    go_round
    case rel=>exact⟨j+1,Om,Gm,Q56 HNO.o HX.o (fun e=>hy e.symm)⟩
    case measure=>exact Me
  ·go_wp2
   go_ret;obtain rfl:j=xs.length:=Om
   exact⟨Jo (Q4j HNO.o).symm,rfl⟩
theorem Ye (v:Value) (xs:List ByteArray) (y:ByteArray) (w:World) (hv:Q0g w v xs) :
  Calls prog 86 #[v,.string y] w fun e w'=>e=.returned (.bool (Zr y xs))∧w=w':=by
 go_enter func86,ntmps86;go_wp2_with (go_at_call 118;refine (Qee _ xs _ _ hv).mono ?_;rintro e w1 ⟨rfl,rfl⟩);go_ret;exact⟨Q7 rfl,rfl⟩
theorem Qds (v:Value) (xs:List Int) (y:Int) (w:World) (hv:Qf w v xs) :
  Calls prog 114 #[v,.int .i64 y] w fun e w'=>e=.returned (.int .i64 (Xs y xs))∧w=w':=by
 obtain⟨A,b,o,c,rfl,hl,hlc,hA,hc⟩:=hv;have HC:=Hh hc;clear hc;go_enter func114,ntmps114;go_wp2;go_loop [5,8] (fun u i=>∃j:Nat,j≤xs.length∧i=.int .i64 j∧Q6d y xs j) (fun _ i=>xs.length-(intOf i).toNat)
 case atStart=>exact⟨0,Nat.zero_le _,rfl,fun i d hi _=>absurd hi Om⟩
 case round =>
  obtain⟨j,hj,rfl,hno⟩:=hrel;have HNO:=Hh hno;clear hno
  by_cases hlt:j<xs.length
  ·obtain⟨x,hx⟩:=Q4 hlt
   have HX:=Hh hx;have c0:=HC.o j x hx;obtain rfl:=hA Om;clear hx hA;go_wp2
   ·have hy:y=x:=by simpa using (by assumption:(y==x)=true)
    go_ret;exact⟨Jo (Q52 HNO.o HX.o hy.symm).symm,rfl⟩
   ·have hy:y≠x:=by simpa using (by assumption:(y==x)=false)
    go_round
    case rel=>exact⟨j+1,Om,Gm,Q56 HNO.o HX.o (fun e=>hy e.symm)⟩
    case measure=>exact Me
  ·go_wp2
   go_ret;obtain rfl:j=xs.length:=Om
   exact⟨Jo (Q4j HNO.o).symm,rfl⟩
theorem Zp (v:Value) (xs:List Int) (y:Int) (w:World) (hv:Qf w v xs) :
  Calls prog 78 #[v,.int .i64 y] w fun e w'=>e=.returned (.bool (Zr y xs))∧w=w':=by
 go_enter func78,ntmps78;go_wp2_with (go_at_call 114;refine (Qds _ xs _ _ hv).mono ?_;rintro e w1 ⟨rfl,rfl⟩);go_ret;exact⟨Q7 rfl,rfl⟩
namespace Go
section
variable (P:Program) (w:World) (a:Addr) (m:Mode)
@[go_sem] theorem run_store_float (k:FloatKind) (b:Nat):(store a (.float k b) m).run P w=stored P w a (.float k b) m:=run_store P w a _ m rfl
end
end Go
structure Val where
 kind:Int
 i:Int
 x:Nat
 y:Nat
def Val.v (a:Val):Value:=.agg #[.int .i64 a.kind,.int .i64 a.i,.float .f64 a.x,.float .f64 a.y]
def Qla:Val:=⟨0,0,0,0⟩
def Q3c (k:Int):Val:=if Q9 k 1 4 then ⟨k,0,0,0⟩ else Qla
theorem Q8h (x:Nat) (w:World):(callFunc 237 #[.float .f64 x]).run prog w=.ok (.value (.int .u64 x)) w:=by
 rw[run_callFunc_extern (fn:=f237) (e:=Extern.MathFloatBits.float64bits) Kf Kf Kf Kf Kf];rfl
theorem Q0s (x:Nat) (w:World):Calls prog 235 #[.float .f64 x] w fun e w'=>e=.returned (.bool (x==0))∧w=w':=by
 have hb:=Q8h x;go_enter func235,ntmps235;go_wp2;go_returns;refine⟨Q7 ?_,rfl⟩;rw[Bool.eq_iff_iff];simp
theorem Q64 (k:Int) (w:World):Calls prog 215 #[.int .i64 k] w fun e w'=>e=.returned (Q3c k).v∧Q0 nob w w':=by
 cases hk:Q9 k 1 4 with
 |true =>
  go_enter func215,ntmps215;go_wp2_with (go_at_call 87;refine (Q1n _ _).mono ?_;rintro e w1 ⟨rfl,rfl⟩);go_returns;refine⟨?_,(Kr _ _).alloc _⟩;simp[Q3c,hk,Val.v]
 |false =>
  go_enter func215,ntmps215;go_wp2_with (go_at_call 87;refine (Q1n _ _).mono ?_;rintro e w1 ⟨rfl,rfl⟩);go_returns;refine⟨?_,(Kr _ _).alloc _⟩;simp[Q3c,hk,Val.v,Qla]
theorem J1 (b:Bool) (w:World):Calls prog 229 #[.bool b] w fun e w'=>∃i:Int,i=(if b then 1 else 0)∧e=.returned (.tuple #[.agg #[.int .i64 4,.int .i64 i,.float .f64 0,.float .f64 0],.int .i64 0])∧w.alloc (.cells #[.int .i64 4,.int .i64 i,.float .f64 0,.float .f64 0] 106 (0,0))=w':=by
 cases b with
 |true =>
  go_enter func229,ntmps229;go_wp2;go_returns;exact⟨rfl,rfl⟩
 |false =>
  go_enter func229,ntmps229;go_wp2;go_returns;exact⟨rfl,rfl⟩
theorem Je (x:Nat) (w:World):Calls prog 228 #[.float .f64 x] w fun e w'=>e=.returned (.tuple #[.agg #[.int .i64 2,.int .i64 0,.float .f64 x,.float .f64 0],.int .i64 0])∧w.alloc (.cells #[.int .i64 2,.int .i64 0,.float .f64 x,.float .f64 0] 106 (0,0))=w':=by
 go_enter func228,ntmps228;go_wp2;go_returns;exact⟨rfl,rfl⟩
def Q5d (kc:Int×Int) (w:World) (e:Ending) (w':World):Prop:=∃(i:Int) (x y:Nat),e=.returned (.tuple #[.agg #[.int .i64 kc.1,.int .i64 i,.float .f64 x,.float .f64 y],.int .i64 kc.2])∧Q0 nob w w'
def Q8g (op:Int) (z:Bool):Int×Int :=
 if op=1∨op=2∨op=3 then (1,0) else if op=4∨op=5 then (if z then (0,2) else (1,0)) else if op=6∨op=7 then (4,0) else (0,1)
theorem Qj7 (op a b:Int) (w:World):Calls prog 224 #[.int .i64 op,.int .i64 a,.int .i64 b] w (Q5d (Q8g op (b==0)) w):=by
 by_cases h1:op=1
 ·subst h1
  exact K02
 by_cases h2:op=2
 ·subst h2
  exact K02
 by_cases h3:op=3
 ·subst h3
  exact K02
 by_cases h4:op=4
 ·subst h4
  cases hb:(b==0) with
  |true =>
   exact K02
  |false =>
   have hb0:¬ b=0:=by simpa using hb
   exact K02
 by_cases h5:op=5
 ·subst h5
  cases hb:(b==0) with
  |true =>
   exact K02
  |false =>
   have hb0:¬ b=0:=by simpa using hb
   exact K02
 by_cases h6:op=6
 ·subst h6
  exact K02
 by_cases h7:op=7
 ·subst h7
  exact K02
 have hK:Q8g op (b==0)=(0,1):=by simp[Q8g,h1,h2,h3,h4,h5,h6,h7]
 rw[hK];go_enter func224,ntmps224;go_wp2_with (first|(go_at_call 229;refine (J1 _ _).mono ?_;rintro e w1 ⟨i,hi,rfl,rfl⟩;clear hi)|(go_at_call 228;refine (Je _ _).mono ?_;rintro e w1 ⟨rfl,rfl⟩));go_returns;exact⟨_,_,_,rfl,by first|exact (Kr _ _).alloc _|exact ((Kr _ _).alloc _).alloc _|exact (((Kr _ _).alloc _).alloc _).alloc _|exact (((Kr _ _).alloc _).drew).alloc _⟩
def Q5x (op:Int):Int×Int:=if op=7∨op=8∨op=9 then (4,0) else (0,1)
def Q4t (op:Int):Int×Int:=if op=1∨op=2∨op=3∨op=4 then (2,0) else if op=6∨op=7 then (4,0) else (0,1)
def Q4u (op:Int):Int×Int:=if op=1∨op=2∨op=3 then (3,0) else if op=7 then (4,0) else (0,1)
theorem Qap (w:World):(binOp .add 104 (.float .f64 0) (.float .f64 0)).run prog w=.ok (.float .f64 0) w:=run_float_arith w .add _ .f64 0 0 0 (by decide +kernel)
theorem Qgk (w:World):(binOp .sub 104 (.float .f64 0) (.float .f64 0)).run prog w=.ok (.float .f64 0) w:=run_float_arith w .sub _ .f64 0 0 0 (by decide +kernel)
theorem Qbj (w:World):(binOp .mul 104 (.float .f64 0) (.float .f64 0)).run prog w=.ok (.float .f64 0) w:=run_float_arith w .mul _ .f64 0 0 0 (by decide +kernel)
theorem Qms:∃f:World→Nat,∀w:World,(binOp .quo 104 (.float .f64 0) (.float .f64 0)).run prog w=.ok (.float .f64 (f w)) w.drew:=by
 have h:FloatKind.f64.format.div 0 0=none:=by decide +kernel
 refine⟨fun w=>Question.cut (.nanBits .f64 0 0) (w.tape w.drawn (.nanBits .f64 0 0)),fun w=>?_⟩
 simp[binOp,Op.floatArith,h,Question.forced]
theorem Qhw (op a b:Int) (w:World):Calls prog 227 #[.int .i64 op,.int .i64 a,.int .i64 b] w (Q5d (Q5x op) w):=by
 by_cases h7:op=7
 ·subst h7
  exact K06
 by_cases h8:op=8
 ·subst h8
  exact K06
 by_cases h9:op=9
 ·subst h9
  exact K06
 have hK:Q5x op=(0,1):=by simp[Q5x,h7,h8,h9]
 rw[hK];go_enter func227,ntmps227;go_wp2_with (first|(go_at_call 229;refine (J1 _ _).mono ?_;rintro e w1 ⟨i,hi,rfl,rfl⟩;clear hi)|(go_at_call 228;refine (Je _ _).mono ?_;rintro e w1 ⟨rfl,rfl⟩));go_returns;exact⟨_,_,_,rfl,by first|exact (Kr _ _).alloc _|exact ((Kr _ _).alloc _).alloc _|exact (((Kr _ _).alloc _).alloc _).alloc _|exact (((Kr _ _).alloc _).drew).alloc _⟩
theorem Qhj (op:Int) (w:World):Calls prog 225 #[.int .i64 op,.float .f64 0,.float .f64 0] w (Q5d (Q4t op) w):=by
 have ha:=Qap;have hs:=Qgk;have hm:=Qbj;obtain⟨fq,hq⟩:=Qms
 by_cases h1:op=1
 ·subst h1
  exact K03
 by_cases h2:op=2
 ·subst h2
  exact K03
 by_cases h3:op=3
 ·subst h3
  exact K03
 by_cases h4:op=4
 ·subst h4
  exact K03
 by_cases h6:op=6
 ·subst h6
  exact K03
 by_cases h7:op=7
 ·subst h7
  exact K03
 have hK:Q4t op=(0,1):=by simp[Q4t,h1,h2,h3,h4,h6,h7]
 rw[hK];go_enter func225,ntmps225;go_wp2_with (first|(go_at_call 229;refine (J1 _ _).mono ?_;rintro e w1 ⟨i,hi,rfl,rfl⟩;clear hi)|(go_at_call 228;refine (Je _ _).mono ?_;rintro e w1 ⟨rfl,rfl⟩));go_returns;exact⟨_,_,_,rfl,by first|exact (Kr _ _).alloc _|exact ((Kr _ _).alloc _).alloc _|exact (((Kr _ _).alloc _).alloc _).alloc _|exact (((Kr _ _).alloc _).drew).alloc _⟩
def okZ (k i:Int):Bool:=if k=1 then true else if k=2∨k=3 then i==0 else if k=4 then Q9 i 0 1 else false
theorem Jd (k i:Int) (w:World):Calls prog 223 #[.agg #[.int .i64 k,.int .i64 i,.float .f64 0,.float .f64 0]] w fun e w'=>e=.returned (.bool (okZ k i))∧w.alloc (.cells #[.int .i64 k,.int .i64 i,.float .f64 0,.float .f64 0] 106 (0,0))=w':=by
 have hk0:Q0 nob w (w.alloc (.cells #[.int .i64 k,.int .i64 i,.float .f64 0,.float .f64 0] 106)):=(Kr _ _).alloc _;have hbl:=Blk.new w [.int .i64 k,.int .i64 i,.float .f64 0,.float .f64 0] 106;generalize hW0:w.alloc (.cells #[.int .i64 k,.int .i64 i,.float .f64 0,.float .f64 0] 106)=W0 at hk0;have c0:W0.cell? ⟨w.heap.size,0,none⟩=some (.int .i64 k):=hW0▸hbl.cell 0 _ rfl;have c1:W0.cell? ⟨w.heap.size,1,none⟩=some (.int .i64 i):=hW0▸hbl.cell 1 _ rfl;have c2:W0.cell? ⟨w.heap.size,2,none⟩=some (.float .f64 0):=hW0▸hbl.cell 2 _ rfl;have c3:W0.cell? ⟨w.heap.size,3,none⟩=some (.float .f64 0):=hW0▸hbl.cell 3 _ rfl;clear hbl
 by_cases h1:k=1
 ·subst h1
  go_enter func223,ntmps223;go_wp2_with (first|(go_at_call 235;refine (Q0s _ _).mono ?_;rintro e w1 ⟨rfl,rfl⟩)|(go_at_call 89;refine (Jk _ _ _ _).mono ?_;rintro e w1 ⟨rfl,rfl⟩));go_returns;exact⟨Q7 (by simp[okZ]),by first|exact hW0|rfl|rw[← hW0,hi0]⟩
 by_cases h2:k=2
 ·subst h2
  cases hi:(i==0) with
  |true =>
   have hi0:i=0:=by simpa using hi
   exact K05
  |false =>
   have hi0:¬ i=0:=by simpa using hi
   exact K05
 by_cases h3:k=3
 ·subst h3
  cases hi:(i==0) with
  |true =>
   have hi0:i=0:=by simpa using hi
   exact K05
  |false =>
   have hi0:¬ i=0:=by simpa using hi
   exact K05
 by_cases h4:k=4
 ·subst h4
  cases hi:Q9 i 0 1 with
  |true =>
   exact K05
  |false =>
   exact K05
 ·go_enter func223,ntmps223
  go_wp2_with (first|(go_at_call 235;refine (Q0s _ _).mono ?_;rintro e w1 ⟨rfl,rfl⟩)|(go_at_call 89;refine (Jk _ _ _ _).mono ?_;rintro e w1 ⟨rfl,rfl⟩));go_returns;exact⟨Q7 (by simp[okZ,h1,h2,h3,h4]),by first|exact hW0|rfl|rw[← hW0,hi0]⟩
def Z5 (ka ia kb ib:Int):Bool:=okZ ka ia&&okZ kb ib&&(ka==2)&&(kb==2)
def Qgp (p:Bool) (w:World) (e:Ending) (w':World):Prop:=∃(i:Int) (x y:Nat),e=.returned (.tuple #[.agg #[.int .i64 (if p then 3 else 0),.int .i64 i,.float .f64 x,.float .f64 y],.bool p])∧Q0 nob w w'
theorem Qf0 (ka ia kb ib:Int) (w:World):Calls prog 218 #[.agg #[.int .i64 ka,.int .i64 ia,.float .f64 0,.float .f64 0],.agg #[.int .i64 kb,.int .i64 ib,.float .f64 0,.float .f64 0]] w (Qgp (Z5 ka ia kb ib) w):=by
 cases ho:okZ ka ia with
 |false =>
  have hK:Z5 ka ia kb ib=false:=by simp[Z5,ho]
  exact K04
 |true =>
 cases ho2:okZ kb ib with
 |false =>
  have hK:Z5 ka ia kb ib=false:=by simp[Z5,ho2]
  exact K04
 |true =>
 by_cases k1:ka=2
 ·subst k1
  by_cases k2:kb=2
  ·subst k2
   have hK:Z5 2 ia 2 ib=true:=by simp[Z5,ho,ho2]
   exact K04
  have hK:Z5 2 ia kb ib=false:=by simp[Z5,k2]
  exact K04
 have hK:Z5 ka ia kb ib=false:=by simp[Z5,k1]
 exact K04
end Go.Proofs.YtkgkafjachjafaaGreat
