/- Part 1 of: FnExactEffects answers true; no condition. -/
import Derived.Laws.FloatArith
import Derived.Test.YtkgkafjachjafaaGreatY00
set_option linter.unusedVariables false
set_option maxHeartbeats 400000
open Go Go.RowKit
namespace Go.Proofs.YtkgkafjachjafaaGreat
open Tryz
section
variable {P:Program} {ops:Array Oper} {Q:Exit→Act→World→Prop} {md:Region.Mode} {S:World→Prop} {fuel:Nat} {listed:Array Bool} {a:Act} {w:World} {v:Value}
theorem Qe2 {i:Nat} {oi:Oper} {tl:List Oper} (h:ops.toList.drop i=oi::tl):ops[i]?=some oi:=by
 have h2:(ops.toList.drop i)[0]?=some oi:=by rw[h];rfl
 rw[List.getElem?_drop] at h2;simpa using h2
theorem rtk (i:Nat) {oi:Oper} {tl:List Oper} {g:Prop} (h:g) (hi:ops.toList.drop i=oi::tl:=by rfl) (hs:Region.noSelect ops=true:=by kernel_rfl) (hf:Region.free md ops listed i=true:=by kernel_rfl) (hr:(Region.ready md ops listed).contains i=true:=by kernel_rfl)
  (hQ:∀c a w,Q (.panic c) (a.put oi.dst v) w→Q (.panic c) a w:=by exact fun _ _ _ h=>h) (hw:Region.wanted oi (yielded ops a.tmps)=true:=by rfl) (hS:S w:=by assumption) (hy:∀w,S w→(execOp a.eval oi).run P w=.ok (.value v) w:=by intro w h;(try dsimp only at h);go_simp;try (with_reducible rfl))
  (hg:wpAnyH P md ops Q S fuel (listed.setIfInBounds i true) (a.put oi.dst v) w=g:=by (try simp only[Act.put,List.setIfInBounds_toArray,List.set_cons_zero,List.set_cons_succ]);rfl):wpAnyH P md ops Q S (fuel+1) listed a w:=wpAnyH_take (Qe2 hi) hs hf hr hQ (.inl ⟨hw,hy⟩) hS (hg▸h)
theorem rtg (i:Nat) {oi:Oper} {tl:List Oper} {g:Prop} (h:g) (hi:ops.toList.drop i=oi::tl:=by rfl) (hw:Region.wanted oi (yielded ops a.tmps)=false:=by rfl) (hs:Region.noSelect ops=true:=by kernel_rfl) (hf:Region.free md ops listed i=true:=by kernel_rfl) (hr:(Region.ready md ops listed).contains i=true:=by kernel_rfl)
  (hQ:∀c a w,Q (.panic c) (a.put oi.dst undef) w→Q (.panic c) a w:=by exact fun _ _ _ h=>h) (hS:S w:=by assumption)
  (hg:wpAnyH P md ops Q S fuel (listed.setIfInBounds i true) (a.put oi.dst undef) w=g:=by (try simp only[Act.put,List.setIfInBounds_toArray,List.set_cons_zero,List.set_cons_succ]);rfl):wpAnyH P md ops Q S (fuel+1) listed a w:=wpAnyH_take (Qe2 hi) hs hf hr hQ (.inr ⟨hw,rfl⟩) hS (hg▸h)
theorem rr1 (i:Nat) {o:Oper} {tl:List Oper}
  (h:∀K':Act→World→Prop,Shut (∀a w,S w→(S w→wpAnyH P md ops Q S fuel (listed.setIfInBounds i true) a w)→K' a w)→if Region.wanted o (yielded ops a.tmps)=true then Oper.wp P o a w K' Q else K' (a.put o.dst undef) w)
  (ho:ops.toList.drop i=o::tl:=by rfl) (hr:Region.ready md ops listed=[i]:=by kernel_rfl):wpAnyH P md ops Q S (fuel+1) listed a w :=
 wpAnyH_ready hr (by simp) (AllReadyH.cons (Qe2 ho) h AllReadyH.nil)
theorem rr2 (i j:Nat) {o o2:Oper} {tl tl2:List Oper}
  (h:∀K':Act→World→Prop,Shut (∀a w,S w→(S w→wpAnyH P md ops Q S fuel (listed.setIfInBounds i true) a w)→K' a w)→if Region.wanted o (yielded ops a.tmps)=true then Oper.wp P o a w K' Q else K' (a.put o.dst undef) w)
  (h2:∀K':Act→World→Prop,Shut (∀a w,S w→(S w→wpAnyH P md ops Q S fuel (listed.setIfInBounds j true) a w)→K' a w)→if Region.wanted o2 (yielded ops a.tmps)=true then Oper.wp P o2 a w K' Q else K' (a.put o2.dst undef) w)
  (ho:ops.toList.drop i=o::tl:=by rfl) (ho2:ops.toList.drop j=o2::tl2:=by rfl) (hr:Region.ready md ops listed=[i,j]:=by kernel_rfl):wpAnyH P md ops Q S (fuel+1) listed a w :=
 wpAnyH_ready hr (by simp) (AllReadyH.cons (Qe2 ho) h (AllReadyH.cons (Qe2 ho2) h2 AllReadyH.nil))
theorem rko {K:Act→World→Prop} {g:Prop} (hK:Shut (∀a w,S w→(S w→wpAnyH P md ops Q S fuel listed a w)→K a w)) (h:S w) (k:S w→g)
  (hg:wpAnyH P md ops Q S fuel listed a w=g:=by (try simp only[Act.put,List.setIfInBounds_toArray,List.set_cons_zero,List.set_cons_succ]);rfl):K a w:=hK.out _ _ h fun x=>hg▸k x
end
def Q9 (x lo hi:Int):Bool:=decide (lo≤x)&&decide (x≤hi)
def Qa:List Zt→ByteArray→Int
 |[],_=>-1
 |d::ds,s=>if d.name=s then 0 else if Qa ds s = -1 then -1 else Qa ds s+1
def Reg.list (r:Reg) (sort:Int):List Zt:=if sort=1 then r.comps else if sort=2 then r.ress else if sort=3 then r.evts else []
def Reg.find (r:Reg) (sort:Int) (s:ByteArray):Int:=Qa (r.list sort) s
def Reg.kindOf (r:Reg) (sort:Int) (i:Int):Int:=if 0≤i then (match (r.list sort)[i.toNat]? with|some d=>d.kind|none=>0) else 0
theorem Q9t (ds:List Zt) (s:ByteArray):-1≤Qa ds s:=by
 induction ds with
 |nil=>simp[Qa]
 |cons d ds ih=>simp only[Qa];split<;>first|omega|(split<;>omega)
theorem Qfp (ds:List Zt) (s:ByteArray):Qa ds s<ds.length:=by
 induction ds with
 |nil=>simp[Qa]
 |cons d ds ih=>simp only[Qa,List.length_cons];split<;>first|omega|(split<;>omega)
def Q2t (ds:List Zt) (s:ByteArray) (j:Nat):Prop:=∀i d,i<j→ds[i]?=some d→d.name≠s
theorem Q3j {ds:List Zt} {s:ByteArray} {j:Nat} {d:Zt} (h:Q2t ds s j) (hd:ds[j]?=some d) (he:d.name≠s):Q2t ds s (j+1):=by
 intro i x hi hx
 by_cases e:i=j
 ·subst e;rw[hd] at hx;cases hx;exact he
 ·exact h i x Om hx
theorem Q5g {ds:List Zt} {s:ByteArray} {j:Nat} {d:Zt} (hn:Q2t ds s j) (hd:ds[j]?=some d) (he:d.name=s):Qa ds s=j:=by
 induction ds generalizing j with
 |nil=>simp at hd
 |cons x xs ih =>
  cases j with
  |zero=>simp at hd;subst hd;simp[Qa,he]
  |succ j =>
   have h0:x.name≠s:=hn 0 x Om rfl;have:=ih (j:=j) (fun i d hi h=>hn (i+1) d Om (by simpa using h)) (by simpa using hd);simp only[Qa,Ng h0,this];rw[Ng Om];simp
theorem Q49 {ds:List Zt} {s:ByteArray} (hn:Q2t ds s ds.length):Qa ds s = -1:=by
 induction ds with
 |nil=>rfl
 |cons x xs ih =>
  have h0:x.name≠s:=hn 0 x Sm rfl;have:=ih (fun i d hi h=>hn (i+1) d So (by simpa using h));simp[Qa,Ng h0,this]
theorem Qkf (a0:ByteArray) (a1:Int) (nb:Nat) (nm:ByteArray) (w:World) (hn:w.cell? ⟨nb,0,none⟩=some (.string nm)) :
  Calls prog 175 #[.agg #[.string a0,.int .i64 a1],.pointer (some ⟨nb,0,none⟩)] w
   fun e w'=>e=.returned (.bool (a0.toList==nm.toList))∧Q0 nob w w':=by
 have hb:=World.block_lt_of_cell? w _ hn;go_enter func175,ntmps175;go_wp2;go_ret;exact⟨rfl,(Kr _ _).alloc _⟩
theorem Qcn (v:Value) (ds:List Zt) (nb:Nat) (nm:ByteArray) (w:World) (hv:Ji w v ds) (hn:w.cell? ⟨nb,0,none⟩=some (.string nm)) :
  Calls prog 173 #[v,.func (.func 175) #[] #[.pointer (some ⟨nb,0,none⟩)]] w
   fun e w'=>e=.returned (.int .i64 (Qa ds nm))∧Q0 nob w w':=by
 obtain⟨A,b,o,c,rfl,hl,hlc,hA,hc⟩:=hv;have HC:=Hh hc;clear hc;go_enter func173,ntmps173;go_wp2;go_loopw [5,8] (fun u i wr=>∃j:Nat,j≤ds.length∧i=.int .i64 j∧Q2t ds nm j∧Q0 nob w wr) (fun _ i _=>ds.length-(intOf i).toNat)
 case atStart=>exact⟨0,Nat.zero_le _,rfl,fun i d hi _=>absurd hi Om,Kr _ _⟩
 case round =>
  obtain⟨j,hj,rfl,hno,hk⟩:=hrel;have HNO:=Hh hno;clear hno
  by_cases hlt:j<ds.length
  ·obtain⟨d,hd⟩:=Q4 hlt
   have HD:=Hh hd;obtain⟨c0,c1⟩:=HC.o j d hd;obtain rfl:=hA Om;have c0':=hk.cell (fun h=>h) c0;have c1':=hk.cell (fun h=>h) c1;have hn':=hk.cell (fun h=>h) hn;clear hd hA;go_wp2_with (go_at_call 175;refine (Qkf _ _ nb nm _ hn').mono ?_;rintro e w1 ⟨rfl,hk1⟩)
   ·have hy:=Q04 ‹_›
    go_ret;exact⟨Jo (Q5g HNO.o HD.o hy).symm,hk.thenNob hk1⟩
   ·have hy:=Q1p ‹_›
    go_roundw
    case rel=>exact⟨j+1,Om,Gm,Q3j HNO.o HD.o hy,hk.thenNob hk1⟩
    case measure=>exact Me
  ·go_wp2
   go_ret;obtain rfl:j=ds.length:=Om
   exact⟨Jo (Q49 HNO.o).symm,hk⟩
theorem Q9n (b o:Nat) (r:Reg) (sort:Int) (w:World) (hr:Xa w b o r) :
  Calls prog 174 #[.pointer (some ⟨b,o,none⟩),.int .i64 sort] w
   fun e w'=>∃v,e=.returned v∧Ji w v (r.list sort)∧w=w':=by
 obtain⟨v0,v1,v2,h0,h1,h2,h3,h4,h5⟩:=hr
 by_cases e1:sort=1
 ·have e1':(sort==1)=true:=by simpa using e1
  go_enter func174,ntmps174;go_wp2;go_ret;exact⟨_,rfl,by simpa[Reg.list,e1] using h3,rfl⟩
 have e1':(sort==1)=false:=by simpa using e1
 by_cases e2:sort=2
 ·have e2':(sort==2)=true:=by simpa using e2
  go_enter func174,ntmps174;go_wp2;go_ret;exact⟨_,rfl,by simpa[Reg.list,e1,e2] using h4,rfl⟩
 have e2':(sort==2)=false:=by simpa using e2
 by_cases e3:sort=3
 ·have e3':(sort==3)=true:=by simpa using e3
  go_enter func174,ntmps174;go_wp2;go_ret;exact⟨_,rfl,by simpa[Reg.list,e1,e2,e3] using h5,rfl⟩
 have e3':(sort==3)=false:=by simpa using e3
 go_enter func174,ntmps174;go_wp2;go_ret;exact⟨_,rfl,by simp only[Reg.list,Ng e1,Ng e2,Ng e3];exact⟨none,0,0,0,rfl,Sm,Sm,Sm,Sm⟩,rfl⟩
theorem Yi (b o:Nat) (r:Reg) (sort:Int) (nm:ByteArray) (w:World) (hr:Xa w b o r) :
  Calls prog 126 #[.pointer (some ⟨b,o,none⟩),.int .i64 sort,.string nm] w
   fun e w'=>e=.returned (.int .i64 (r.find sort nm))∧Q0 nob w w':=by
 have hr':Xa (w.alloc (.cells #[.string nm] 9)) b o r:=hr.old ((Kr nob w).alloc _).old;have HR:=Hh hr';have Qt1:(w.alloc (.cells #[.string nm] 9)).cell? ⟨w.heap.size,0,none⟩=some (.string nm):=(Blk.new w [.string nm] 9).cell 0 _ rfl;go_enter func126,ntmps126;go_wp2_with (first|(go_at_call 174;refine (Q9n b o r sort _ HR.o).mono ?_;rintro e w1 ⟨v,rfl,hv,rfl⟩)|(go_at_call 173;refine (Qcn _ _ _ nm _ ‹_› Qt1).mono ?_;rintro e w1 ⟨rfl,hk1⟩));go_ret;exact⟨rfl,((Kr _ _).alloc _).thenNob hk1⟩
theorem Jk (x lo hi:Int) (w:World):Calls prog 89 #[.int .i64 x,.int .i64 lo,.int .i64 hi] w fun e w'=>e=.returned (.bool (Q9 x lo hi))∧w=w':=by
 by_cases h1:lo≤x<;>by_cases h2:x≤hi
 all_goals
  go_enter func89,ntmps89;go_wp2;go_ret;exact⟨Q7 (by simp[Q9,h1,h2]),rfl⟩
theorem Q1n (x:Int) (w:World):Calls prog 87 #[.int .i64 x] w fun e w'=>e=.returned (.bool (Q9 x 1 4))∧w=w':=by
 go_enter func87,ntmps87;go_wp2_with (go_at_call 89;refine (Jk _ _ _ _).mono ?_;rintro e w' ⟨rfl,rfl⟩);go_ret;exact⟨rfl,rfl⟩
theorem Q8i (b o:Nat) (r:Reg) (sort i:Int) (w:World) (hr:Xa w b o r) :
  Calls prog 214 #[.pointer (some ⟨b,o,none⟩),.int .i64 sort,.int .i64 i] w
   fun e w'=>e=.returned (.int .i64 (r.kindOf sort i))∧w=w':=by
 have HR:=Hh hr;clear hr
 by_cases h:0≤i∧i<(r.list sort).length
 ·obtain⟨g0,g1⟩:=h
  obtain⟨m,rfl⟩:=En g0;obtain⟨d,hd⟩:=Q4 (xs:=r.list sort) (j:=m) Om;have HE:Hi (r.kindOf sort m=d.kind):=Hh (by simp[Reg.kindOf,hd]);have HD:=Hh hd;have hw:Q9 (m:Int) 0 (((r.list sort).length:Int)-1)=true:=by simp[Q9];omega
  clear hd;go_enter func214,ntmps214;go_wp2_with (first|(go_at_call 174;refine (Q9n b o r sort _ HR.o).mono ?_;rintro e w1 ⟨v,rfl,⟨A,b',o',c',rfl,hl,hlc,hA,hc⟩,rfl⟩;obtain rfl:=hA Om;obtain⟨q0,q1⟩:=hc m d HD.o;clear hc hA)|(go_at_call 89;refine (Jk _ _ _ _).mono ?_;rintro e w' ⟨rfl,rfl⟩));go_ret;exact⟨Jo HE.o.symm,rfl⟩
 ·have HE:Hi (r.kindOf sort i=0):=Hh (by
   unfold Reg.kindOf;split
   ·rw[List.getElem?_eq_none Om]
   ·rfl)
  have hw:Q9 i 0 (((r.list sort).length:Int)-1)=false:=by simp[Q9];omega
  go_enter func214,ntmps214;go_wp2_with (first|(go_at_call 174;refine (Q9n b o r sort _ HR.o).mono ?_;rintro e w1 ⟨v,rfl,⟨A,b',o',c',rfl,hl,hlc,hA,hc⟩,rfl⟩;clear hc hA)|(go_at_call 89;refine (Jk _ _ _ _).mono ?_;rintro e w' ⟨rfl,rfl⟩));go_ret;exact⟨Jo HE.o.symm,rfl⟩
def Yy (b:Int):Bool:=decide (97≤b)&&decide (b≤122) ||decide (65≤b)&&decide (b≤90)
def Qg (b:Int):Bool:=decide (48≤b)&&decide (b≤57)
def Qf5:List (List UInt8) :=
 [[115,121,115,116,101,109],[102,110],[108,101,116],[105,102],[101,108,115,101],[108,111,111,112],[101,97,99,104],[119,105,116,104],[119,105,116,104,111,117,116],[101,109,105,116],[104,101,97,114],[97,115],[115,112,97,119,110],[107,105,108,108],[112,117,116],[100,114,111,112],[100,111],[114,101,116,117,114,110],[112,105,99,107],[111,102],[121,101,115],[110,111],[97,110,100],[111,114],[110,111,116],[105,110,116],[114,101,97,108],[112,97,105,114],[98,111,111,108],[114,101],[105,109],[115,105,122,101]]
def Q7w (s:ByteArray):Bool:=Qf5.any (fun u=>s.toList==u)
def Q2k (s:ByteArray) (i:Nat):Int:=if h:i<s.size then ((s[i]'h).toNat:Int) else 0
def Q2y (s:ByteArray):Bool:=(s.data.toList.map fun b=>(b.toNat:Int)).all Yy
def Q15 (s:ByteArray):Bool:=decide (1≤s.size)&&decide (s.size≤12)&&Q2y s&&!Q7w s
theorem Q6o {s:ByteArray} (h:∀i (hi:i<s.size),Yy ((s[i]'hi).toNat:Int)=true):Q2y s=true:=by
 unfold Q2y;rw[List.all_eq_true];intro x hx;simp only[List.mem_map] at hx;obtain⟨b,hb,rfl⟩:=hx;obtain⟨i,hi,rfl⟩:=List.mem_iff_getElem.1 hb;exact h i (by simpa using hi)
theorem Q8a {s:ByteArray} {i:Nat} (hi:i<s.size) (h:Yy ((s[i]'hi).toNat:Int)=false):Q2y s=false:=by
 unfold Q2y;rw[List.all_eq_false];refine⟨((s[i]'hi).toNat:Int),List.mem_map.2 ⟨s[i]'hi,?_,rfl⟩,by simp[h]⟩;have:s[i]'hi=s.data.toList[i]'(by simpa using hi):=rfl;rw[this];exact List.getElem_mem _
def J5 (s:ByteArray):List Int:=s.data.toList.map fun b=>(b.toNat:Int)
theorem Z2 (s:ByteArray):(J5 s).length=s.size:=by unfold J5;rw[List.length_map,Array.length_toList];rfl
theorem Q1q (s:ByteArray) (i:Nat) (h:i<s.size):(J5 s)[i]?=some ((s[i]'h).toNat:Int):=by
 have:s[i]'h=s.data.toList[i]'(by simpa using h):=rfl;unfold J5;rw[List.getElem?_map,List.getElem?_eq_getElem (by simpa using h),this];rfl
def Q3l (p:Int→Bool):List Int→Nat
 |[]=>0
 |b::bs=>if p b then Q3l p bs+1 else 0
def Jt (p:Int→Bool) (s:ByteArray) (at_:Nat):Nat:=at_+Q3l p ((J5 s).drop at_)
theorem Qmm (p:Int→Bool) (l:List Int):Q3l p l≤l.length:=by
 induction l with
 |nil=>simp[Q3l]
 |cons b bs ih=>simp only[Q3l,List.length_cons];split<;>omega
theorem Q5p (p:Int→Bool) (s:ByteArray) (a:Nat) (h:a≤s.size):Jt p s a≤s.size:=by
 have:=Qmm p ((J5 s).drop a);rw[List.length_drop,Z2] at this;unfold Jt;omega
theorem Qas {p:Int→Bool} {s:ByteArray} {a:Nat} (h:a<s.size) (hp:p ((s[a]'h).toNat:Int)=true):Jt p s a=Jt p s (a+1):=by
 unfold Jt;rw[Qh (Q1q s a h)];simp[Q3l,hp];omega
theorem Qbc {p:Int→Bool} {s:ByteArray} {a:Nat} (h:a<s.size) (hp:p ((s[a]'h).toNat:Int)=false):Jt p s a=a:=by
 unfold Jt;rw[Qh (Q1q s a h)];simp[Q3l,hp]
theorem Qd0 {p:Int→Bool} {s:ByteArray} {a:Nat} (h:s.size≤a):Jt p s a=a:=by
 unfold Jt;rw[Dn (by rw[Z2];exact h)];simp[Q3l]
def Q10 (l:List Int):Int:=l.foldl (fun n b=>10*n+(b-48)) 0
theorem Qal (l:List Int) (b:Int):Q10 (l++[b])=10*Q10 l+(b-48):=by simp[Q10]
theorem Qjr:∀(l:List Int) (n:Int) (k:Nat),(∀b∈l,Qg b=true)→0≤n→n<(10 ^ k:Nat) →
  0≤l.foldl (fun n b=>10*n+(b-48)) n∧l.foldl (fun n b=>10*n+(b-48)) n<(10 ^ (k+l.length):Nat):=by
 intro l
 induction l with
 |nil=>intro n k _ h0 h1;simpa using ⟨h0,h1⟩
 |cons b l ih =>
  intro n k h h0 h1;have hb:=h b Sm;simp[Qg] at hb;rw[List.foldl_cons,List.length_cons,show k+(l.length+1)=(k+1)+l.length from by omega];have e:((10 ^ (k+1):Nat):Int)=10*((10 ^ k:Nat):Int):=by rw[Nat.pow_succ,Int.natCast_mul,Int.mul_comm];rfl
  exact ih _ _ (fun c hc=>h c (by simp[hc])) Om (by rw[e];omega)
theorem Qck (l:List Int) (h:∀b∈l,Qg b=true):0≤Q10 l∧Q10 l<(10 ^ l.length:Nat):=by
 have:=Qjr l 0 0 h Om Dc
 rwa [Nat.zero_add] at this
theorem Q79 (l:List Int) (h:∀b∈l,Qg b=true) (hl:l.length≤15):0≤Q10 l∧Q10 l≤999999999999999:=by
 obtain⟨h0,h1⟩:=Qck l h;have:=Nat.pow_le_pow_right (show 0<10 by omega) hl;have h2:(10 ^ 15:Nat)=1000000000000000:=Dc
 rw[h2] at this;exact⟨h0,Om⟩
theorem Qke {p:Int→Bool} {l:List Int} (h:Q3l p l=l.length):∀b∈l,p b=true:=by
 induction l with
 |nil=>intro b hb;cases hb
 |cons x xs ih =>
  simp only[Q3l,List.length_cons] at h;split at h
  ·rename_i hx
   intro b hb;cases hb with
   |head=>exact hx
   |tail _ hb=>exact ih Om b hb
  ·omega
theorem Qdw {p:Int→Bool} {s:ByteArray} (h:Jt p s 0=s.size):∀b∈J5 s,p b=true:=by
 refine Qke ?_;unfold Jt at h;rw[Z2];simpa using h
def Q8s (s:ByteArray):Int:=match J5 s with|[]=>0|b::_=>b
def Y8 (s:ByteArray) (most:Int):Bool :=
 (withinBs s.size 1 most&&decide (Jt Qg s 0=s.size))&&(decide (s.size=1) ||decide (Q8s s≠48))
where withinBs (x:Nat) (lo hi:Int):Bool:=decide (lo≤(x:Int))&&decide ((x:Int)≤hi)
def Q18:Nat→Nat
 |0=>4607182418800017408
 |k+1=>(Ieee.double.mul 4621819117588971520 (Q18 k)).getD 0
theorem Qdi (k:Nat) (h:k<6):floatBits .mul .f64 4621819117588971520 (Q18 k)=some (Q18 (k+1)):=by
 match k,h with
 |0,_|1,_|2,_|3,_|4,_|5,_=>decide +kernel
def Q02 (s:ByteArray):Option (ByteArray×ByteArray) :=
 if h:Jt Qg s 0<s.size then
  if ((s[Jt Qg s 0]'h).toNat:Int)=46∧Y8 (s.extract 0 (Jt Qg s 0)) 9=true∧1≤(s.extract (Jt Qg s 0+1) s.size).size∧(s.extract (Jt Qg s 0+1) s.size).size≤6 ∧
    Jt Qg (s.extract (Jt Qg s 0+1) s.size) 0=(s.extract (Jt Qg s 0+1) s.size).size then
   some (s.extract 0 (Jt Qg s 0),s.extract (Jt Qg s 0+1) s.size)
  else none
 else none
def Q26 (s:ByteArray):Bool:=(Q02 s).isSome
def Q06 (s:ByteArray):Nat:=match Q02 s with
 |some (a,b)=>(Ieee.double.div (floatOfInt .f64 (Q10 (J5 (a++b)))) (Q18 b.size)).getD 0
 |none=>0
theorem Qfn (f:Ieee.Format) (m:Nat) (p:Int):f.nearest false m p≤f.infRung:=by
 unfold Ieee.Format.nearest Ieee.Format.word;simp only[Bool.false_eq_true,if_false];split
 ·exact Nat.zero_le _
 ·exact Nat.min_le_right _ _
theorem Qco (f:Ieee.Format) (x:Nat) (h:x≤f.infRung) (hlt:f.infRung<f.signWeight) (sg:Bool) (t:Nat):f.read x≠.nan sg t:=by
 unfold Ieee.Format.read;have hm:x % f.signWeight=x:=Nat.mod_eq_of_lt Om;simp only[hm];split
 ·simp
 ·split
  ·simp
  ·split
   ·simp
   ·omega
theorem Qah (n:Int) (hn:0≤n):floatOfInt .f64 n=Ieee.double.nearest false n.natAbs 0:=by
 have Qx3:decide (n<0)=false:=So
 unfold floatOfInt FloatKind.nearest FloatKind.encode Ieee.Format.write;simp only[Qx3];rfl
def Qbz (x:Nat):Bool:=match Ieee.double.read x with|.number _ m _=>decide (0<m)|_=>false
theorem Qm1 (k:Nat) (h:k≤6):Qbz (Q18 k)=true:=by
 match k,h with
 |0,_|1,_|2,_|3,_|4,_|5,_|6,_=>decide +kernel
theorem Qn1:Ieee.double.infRung<Ieee.double.signWeight:=by decide +kernel
theorem Qcy (n:Int) (hn:0≤n) (y:Nat) (hy:Qbz y=true):∃r,Ieee.double.div (floatOfInt .f64 n) y=some r:=by
 unfold Qbz at hy;have hd:∀sg t,Ieee.double.read (floatOfInt .f64 n)≠.nan sg t:=fun sg t=>Qco Ieee.double _ (by rw[Qah n hn];exact Qfn _ _ _) Qn1 sg t
 generalize floatOfInt .f64 n=x at *;unfold Ieee.Format.div;cases hr:Ieee.double.read x with
 |nan sg t=>exact absurd hr (hd sg t)
 |infinity sg =>
  cases he:Ieee.double.read y with
  |nan _ _=>rw[he] at hy;cases hy
  |infinity _=>rw[he] at hy;cases hy
  |number s m e=>exact⟨_,rfl⟩
 |number sg mm ee =>
  cases he:Ieee.double.read y with
  |nan _ _=>rw[he] at hy;cases hy
  |infinity _=>rw[he] at hy;cases hy
  |number s m e =>
   rw[he] at hy;have h0:0<m:=by simpa using hy
   simp only[Ieee.Datum.quotient];rw[Ng Om];exact⟨_,rfl⟩
theorem Qlk (n:Int) (k:Nat) (h:k≤6) (hn:0≤n):floatBits .quo .f64 (floatOfInt .f64 n) (Q18 k)=some ((Ieee.double.div (floatOfInt .f64 n) (Q18 k)).getD 0):=by
 obtain⟨r,hr⟩:=Qcy n hn (Q18 k) (Qm1 k h);generalize floatOfInt .f64 n=x at *;generalize Q18 k=y at *
 show Ieee.double.div x y=_
 rw[hr];rfl
def Qfc:Qn:=⟨0,ByteArray.empty,0,[]⟩
def Q1.at (t:Q1) (k:Int):Qn:=(t.nodes[k.toNat]?).getD Qfc
theorem Q1.at_of {t:Q1} {j:Nat} {n:Qn} (h:t.nodes[j]?=some n):t.at j=n:=by simp[Q1.at,h]
def Qu (k:Int):Bool:=Q9 k 1 11
def Zs (k:Int):Bool:=Q9 k 12 26
def isK (a:Int) (k:Int):Bool:=k==a
def Q25 (t:Q1) (kids:List Int) (p:Int→Bool):Bool:=kids.all fun k=>p (t.at k).kind
def Qo (t:Q1):List Int→List (Int→Bool)→Bool
 |[],[]=>true
 |k::ks,p::ps=>p (t.at k).kind&&Qo t ks ps
 |_,_=>false
def Q1c (n:Qn):Bool :=
 if n.kind=2 then Q26 n.text
 else if n.kind=4∨n.kind=5∨n.kind=6∨n.kind=7∨n.kind=12∨n.kind=13∨n.kind=14∨n.kind=15∨n.kind=19∨n.kind=20∨n.kind=23∨n.kind=24∨n.kind=28∨n.kind=31∨n.kind=32∨n.kind=33∨n.kind=34 then Q15 n.text
 else n.text.toList.isEmpty
def Xk (n:Qn):Bool :=
 if n.kind=1 then Q9 n.i 0 999999999999999
 else if n.kind=3 then Q9 n.i 0 1
 else if n.kind=8 then Q9 n.i 1 9
 else if n.kind=9 then Q9 n.i 1 6
 else if n.kind=32∨n.kind=33 then Q9 n.i 1 4
 else n.i==0
def X9 (t:Q1) (n:Qn):Bool :=
 if n.kind=1∨n.kind=2∨n.kind=3∨n.kind=4∨n.kind=5∨n.kind=6 then n.kids.isEmpty
 else if n.kind=7 then Q25 t n.kids Qu
 else if n.kind=8∨n.kind=10 then Qo t n.kids [Qu,Qu]
 else if n.kind=9 then Qo t n.kids [Qu]
 else match n.kids with
  |k::k2::ks=>Qu (t.at k).kind&&Q25 t (k2::ks) (isK 31)
  |_=>false
def Z3 (t:Q1) (n:Qn):Bool :=
 if n.kind=12∨n.kind=13∨n.kind=14∨n.kind=15∨n.kind=19∨n.kind=23∨n.kind=26 then Qo t n.kids [Qu]
 else if n.kind=16 then Qo t n.kids [Qu,isK 27] ||Qo t n.kids [Qu,isK 27,isK 27]
 else if n.kind=17 then Qo t n.kids [Qu,isK 27]
 else if n.kind=18 then Qo t n.kids [isK 29,isK 30,isK 27]
 else if n.kind=20 then Qo t n.kids [isK 31,isK 27]
 else if n.kind=21 then Q25 t n.kids (isK 28)
 else if n.kind=25 then Qo t n.kids [isK 7]
 else n.kids.isEmpty
def Jf (t:Q1) (n:Qn):Bool :=
 if n.kind=27 then Q25 t n.kids Zs
 else if n.kind=28 then Qo t n.kids [Qu]
 else if n.kind=29 then !n.kids.isEmpty&&Q25 t n.kids (isK 31)
 else if n.kind=30 then Q25 t n.kids (isK 31)
 else if n.kind=31∨n.kind=32 then n.kids.isEmpty
 else if n.kind=33 then (match n.kids.getLast? with|none=>false|some l=>Q25 t n.kids.dropLast (isK 32)&&isK 27 (t.at l).kind)
 else if n.kind=34 then Qo t n.kids [isK 27]
 else false
def Yf (t:Q1) (i:Int) (n:Qn):Bool :=
 n.kids.all (fun k=>Q9 k 0 (i-1))&&(Q1c n&&Xk n)&&(if Qu n.kind then X9 t n else if Zs n.kind then Z3 t n else Jf t n)
def Qv (t:Q1):Nat→Int→Int→Int
 |0,_,_=>-1
 |f+1,i,n=>let m:=(t.at i).kids.foldl (fun m k=>if m<0 then -1 else Qv t f k m) n
  if m<0 then -1 else if i=m then m+1 else -1
def Q0o (t:Q1):List Int→Int→Option Int
 |[],m=>some m
 |i::is,m=>if Q9 i 0 ((t.nodes.length:Int)-1)&&decide (33≤(t.at i).kind) then
   (if Qv t (i.toNat+1) i m<0 then none else Q0o t is (Qv t (i.toNat+1) i m)) else none
def Qs (t:Q1):Bool:=(List.range t.nodes.length).all fun j=>Yf t j (t.at j)
def Q00 (t:Q1):Bool:=decide (t.nodes.length≤4000)&&Qs t&&(Q0o t t.tops 0==some (t.nodes.length:Int))
end Go.Proofs.YtkgkafjachjafaaGreat
