/- Part 1 of: FnExactPrune answers true; no condition. -/
import Derived.Laws.FloatArith
import Derived.Deep.AppendLies
import Derived.Test.YtkgkafjachjafaaGreatZ00
set_option linter.unusedVariables false
set_option maxHeartbeats 1000000
open Go Go.RowKit
namespace Go.Proofs.YtkgkafjachjafaaGreat
open Tryz
def Q9 (x lo hi:Int):Bool:=decide (lo≤x)&&decide (x≤hi)
def Zt:List Zw→ByteArray→Int
 |[],_=>-1
 |d::ds,s=>if d.name=s then 0 else if Zt ds s = -1 then -1 else Zt ds s+1
def Reg.list (r:Reg) (sort:Int):List Zw:=if sort=1 then r.comps else if sort=2 then r.ress else if sort=3 then r.evts else []
def Reg.find (r:Reg) (sort:Int) (s:ByteArray):Int:=Zt (r.list sort) s
def Reg.kindOf (r:Reg) (sort:Int) (i:Int):Int:=if 0≤i then (match (r.list sort)[i.toNat]? with|some d=>d.kind|none=>0) else 0
theorem Qez (ds:List Zw) (s:ByteArray):-1≤Zt ds s:=by
 induction ds with
 |nil=>simp[Zt]
 |cons d ds ih=>simp only[Zt];split<;>first|omega|(split<;>omega)
theorem Qm9 (ds:List Zw) (s:ByteArray):Zt ds s<ds.length:=by
 induction ds with
 |nil=>simp[Zt]
 |cons d ds ih=>simp only[Zt,List.length_cons];split<;>first|omega|(split<;>omega)
def Q3i (ds:List Zw) (s:ByteArray) (j:Nat):Prop:=∀i d,i<j→ds[i]?=some d→d.name≠s
theorem Q5b {ds:List Zw} {s:ByteArray} {j:Nat} {d:Zw} (h:Q3i ds s j) (hd:ds[j]?=some d) (he:d.name≠s):Q3i ds s (j+1):=by
 intro i x hi hx
 by_cases e:i=j
 ·subst e;rw[hd] at hx;cases hx;exact he
 ·exact h i x (by omega) hx
theorem Q7o {ds:List Zw} {s:ByteArray} {j:Nat} {d:Zw} (hn:Q3i ds s j) (hd:ds[j]?=some d) (he:d.name=s):Zt ds s=j:=by
 induction ds generalizing j with
 |nil=>simp at hd
 |cons x xs ih =>
  cases j with
  |zero=>simp at hd;subst hd;simp[Zt,he]
  |succ j =>
   have h0:x.name≠s:=hn 0 x (by omega) rfl;have:=ih (j:=j) (fun i d hi h=>hn (i+1) d (by omega) (by simpa using h)) (by simpa using hd);simp only[Zt,Ng h0,this];rw[Ng (by omega)];simp
theorem Q6g {ds:List Zw} {s:ByteArray} (hn:Q3i ds s ds.length):Zt ds s = -1:=by
 induction ds with
 |nil=>rfl
 |cons x xs ih =>
  have h0:x.name≠s:=hn 0 x (by simp) rfl;have:=ih (fun i d hi h=>hn (i+1) d (by simp;omega) (by simpa using h));simp[Zt,Ng h0,this]
theorem Qiu (a0:ByteArray) (a1:Int) (nb:Nat) (nm:ByteArray) (w:World) (hn:w.cell? ⟨nb,0,none⟩=some (.string nm)) :
  Calls prog 175 #[.agg #[.string a0,.int .i64 a1],.pointer (some ⟨nb,0,none⟩)] w
   fun e w'=>e=.returned (.bool (a0.toList==nm.toList))∧Q0 nob w w':=by
 have hb:=World.block_lt_of_cell? w _ hn;go_enter func175,ntmps175;go_wp2;go_ret;exact⟨rfl,(Kr _ _).alloc _⟩
theorem Qby (v:Value) (ds:List Zw) (nb:Nat) (nm:ByteArray) (w:World) (hv:Z1 w v ds) (hn:w.cell? ⟨nb,0,none⟩=some (.string nm)) :
  Calls prog 173 #[v,.func (.func 175) #[] #[.pointer (some ⟨nb,0,none⟩)]] w
   fun e w'=>e=.returned (.int .i64 (Zt ds nm))∧Q0 nob w w':=by
 obtain⟨A,b,o,c,rfl,hl,hlc,hA,hc⟩:=hv;have HC:=Hh hc;clear hc;go_enter func173,ntmps173;go_wp2;go_loopw [5,8] (fun u i wr=>∃j:Nat,j≤ds.length∧i=.int .i64 j∧Q3i ds nm j∧Q0 nob w wr) (fun _ i _=>ds.length-(intOf i).toNat)
 case atStart=>exact⟨0,Nat.zero_le _,rfl,fun i d hi _=>absurd hi (by omega),Kr _ _⟩
 case round =>
  obtain⟨j,hj,rfl,hno,hk⟩:=hrel;have HNO:=Hh hno;clear hno
  by_cases hlt:j<ds.length
  ·obtain⟨d,hd⟩:=Q3 hlt
   have HD:=Hh hd;obtain⟨c0,c1⟩:=HC.o j d hd;obtain rfl:=hA (by omega);have c0':=hk.cell (fun h=>h) c0;have c1':=hk.cell (fun h=>h) c1;have hn':=hk.cell (fun h=>h) hn;clear hd hA;go_wp2_with (go_at_call 175;refine (Qiu _ _ nb nm _ hn').mono ?_;rintro e w1 ⟨rfl,hk1⟩)
   ·have hy:=Q0c ‹_›
    go_ret;exact⟨Jn (Q7o HNO.o HD.o hy).symm,hk.thenNob hk1⟩
   ·have hy:=Q1s ‹_›
    go_roundw
    case rel=>exact⟨j+1,by omega,by go_num,Q5b HNO.o HD.o hy,hk.thenNob hk1⟩
    case measure=>simp[intOf];omega
  ·go_wp2
   go_ret;obtain rfl:j=ds.length:=by omega
   exact⟨Jn (Q6g HNO.o).symm,hk⟩
theorem Q8c (b o:Nat) (r:Reg) (sort:Int) (w:World) (hr:Xy w b o r) :
  Calls prog 174 #[.pointer (some ⟨b,o,none⟩),.int .i64 sort] w
   fun e w'=>∃v,e=.returned v∧Z1 w v (r.list sort)∧w=w':=by
 obtain⟨v0,v1,v2,h0,h1,h2,h3,h4,h5⟩:=hr
 by_cases e1:sort=1
 ·have e1':(sort==1)=true:=by simpa using e1
  go_enter func174,ntmps174;go_wp2;go_ret;exact⟨_,rfl,by simpa[Reg.list,e1] using h3,rfl⟩
 have e1':(sort==1)=false:=by simpa using e1
 by_cases e2:sort=2
 ·have e2':(sort==2)=true:=by simpa using e2
  go_enter func174,ntmps174;go_wp2;go_ret;exact⟨_,rfl,by simpa[Reg.list,e1,e2] using h4,rfl⟩
 have e2':(sort==2)=false:=by simpa using e2
 by_cases e3:sort=3
 ·have e3':(sort==3)=true:=by simpa using e3
  go_enter func174,ntmps174;go_wp2;go_ret;exact⟨_,rfl,by simpa[Reg.list,e1,e2,e3] using h5,rfl⟩
 have e3':(sort==3)=false:=by simpa using e3
 go_enter func174,ntmps174;go_wp2;go_ret;exact⟨_,rfl,by simp only[Reg.list,Ng e1,Ng e2,Ng e3];exact⟨none,0,0,0,rfl,by simp,by simp,by simp,by simp⟩,rfl⟩
theorem Q54 (b o:Nat) (r:Reg) (sort:Int) (nm:ByteArray) (w:World) (hr:Xy w b o r) :
  Calls prog 126 #[.pointer (some ⟨b,o,none⟩),.int .i64 sort,.string nm] w
   fun e w'=>e=.returned (.int .i64 (r.find sort nm))∧Q0 nob w w':=by
 have hr':Xy (w.alloc (.cells #[.string nm] 9)) b o r:=hr.old ((Kr nob w).alloc _).old;have HR:=Hh hr';have Qpw:(w.alloc (.cells #[.string nm] 9)).cell? ⟨w.heap.size,0,none⟩=some (.string nm):=(Blk.new w [.string nm] 9).cell 0 _ rfl;go_enter func126,ntmps126;go_wp2_with (first|(go_at_call 174;refine (Q8c b o r sort _ HR.o).mono ?_;rintro e w1 ⟨v,rfl,hv,rfl⟩)|(go_at_call 173;refine (Qby _ _ _ nm _ ‹_› Qpw).mono ?_;rintro e w1 ⟨rfl,hk1⟩));go_ret;exact⟨rfl,((Kr _ _).alloc _).thenNob hk1⟩
theorem Jj (x lo hi:Int) (w:World):Calls prog 89 #[.int .i64 x,.int .i64 lo,.int .i64 hi] w fun e w'=>e=.returned (.bool (Q9 x lo hi))∧w=w':=by
 by_cases h1:lo≤x<;>by_cases h2:x≤hi
 all_goals
  go_enter func89,ntmps89;go_wp2;go_ret;exact⟨Q6 (by simp[Q9,h1,h2]),rfl⟩
theorem Q1g (x:Int) (w:World):Calls prog 87 #[.int .i64 x] w fun e w'=>e=.returned (.bool (Q9 x 1 4))∧w=w':=by
 go_enter func87,ntmps87;go_wp2_with (go_at_call 89;refine (Jj _ _ _ _).mono ?_;rintro e w' ⟨rfl,rfl⟩);go_ret;exact⟨rfl,rfl⟩
theorem Q86 (b o:Nat) (r:Reg) (sort i:Int) (w:World) (hr:Xy w b o r) :
  Calls prog 214 #[.pointer (some ⟨b,o,none⟩),.int .i64 sort,.int .i64 i] w
   fun e w'=>e=.returned (.int .i64 (r.kindOf sort i))∧w=w':=by
 have HR:=Hh hr;clear hr
 by_cases h:0≤i∧i<(r.list sort).length
 ·obtain⟨g0,g1⟩:=h
  obtain⟨m,rfl⟩:=En g0;obtain⟨d,hd⟩:=Q3 (xs:=r.list sort) (j:=m) (by omega);have HE:Hi (r.kindOf sort m=d.kind):=Hh (by simp[Reg.kindOf,hd]);have HD:=Hh hd;have hw:Q9 (m:Int) 0 (((r.list sort).length:Int)-1)=true:=by simp[Q9];omega
  clear hd;go_enter func214,ntmps214;go_wp2_with (first|(go_at_call 174;refine (Q8c b o r sort _ HR.o).mono ?_;rintro e w1 ⟨v,rfl,⟨A,b',o',c',rfl,hl,hlc,hA,hc⟩,rfl⟩;obtain rfl:=hA (by omega);obtain⟨q0,q1⟩:=hc m d HD.o;clear hc hA)|(go_at_call 89;refine (Jj _ _ _ _).mono ?_;rintro e w' ⟨rfl,rfl⟩));go_ret;exact⟨Jn HE.o.symm,rfl⟩
 ·have HE:Hi (r.kindOf sort i=0):=Hh (by
   unfold Reg.kindOf;split
   ·rw[List.getElem?_eq_none (by omega)]
   ·rfl)
  have hw:Q9 i 0 (((r.list sort).length:Int)-1)=false:=by simp[Q9];omega
  go_enter func214,ntmps214;go_wp2_with (first|(go_at_call 174;refine (Q8c b o r sort _ HR.o).mono ?_;rintro e w1 ⟨v,rfl,⟨A,b',o',c',rfl,hl,hlc,hA,hc⟩,rfl⟩;clear hc hA)|(go_at_call 89;refine (Jj _ _ _ _).mono ?_;rintro e w' ⟨rfl,rfl⟩));go_ret;exact⟨Jn HE.o.symm,rfl⟩
def Yr (b:Int):Bool:=decide (97≤b)&&decide (b≤122) ||decide (65≤b)&&decide (b≤90)
def Qg (b:Int):Bool:=decide (48≤b)&&decide (b≤57)
def Qe5:List (List UInt8) :=
 [[115,121,115,116,101,109],[102,110],[108,101,116],[105,102],[101,108,115,101],[108,111,111,112],[101,97,99,104],[119,105,116,104],[119,105,116,104,111,117,116],[101,109,105,116],[104,101,97,114],[97,115],[115,112,97,119,110],[107,105,108,108],[112,117,116],[100,114,111,112],[100,111],[114,101,116,117,114,110],[112,105,99,107],[111,102],[121,101,115],[110,111],[97,110,100],[111,114],[110,111,116],[105,110,116],[114,101,97,108],[112,97,105,114],[98,111,111,108],[114,101],[105,109],[115,105,122,101]]
def Q7n (s:ByteArray):Bool:=Qe5.any (fun u=>s.toList==u)
def Q28 (s:ByteArray) (i:Nat):Int:=if h:i<s.size then ((s[i]'h).toNat:Int) else 0
def Q2p (s:ByteArray):Bool:=(s.data.toList.map fun b=>(b.toNat:Int)).all Yr
def Q0k (s:ByteArray):Bool:=decide (1≤s.size)&&decide (s.size≤12)&&Q2p s&&!Q7n s
theorem Q6j {s:ByteArray} (h:∀i (hi:i<s.size),Yr ((s[i]'hi).toNat:Int)=true):Q2p s=true:=by
 unfold Q2p;rw[List.all_eq_true];intro x hx;simp only[List.mem_map] at hx;obtain⟨b,hb,rfl⟩:=hx;obtain⟨i,hi,rfl⟩:=List.mem_iff_getElem.1 hb;exact h i (by simpa using hi)
theorem Q7v {s:ByteArray} {i:Nat} (hi:i<s.size) (h:Yr ((s[i]'hi).toNat:Int)=false):Q2p s=false:=by
 unfold Q2p;rw[List.all_eq_false];refine⟨((s[i]'hi).toNat:Int),List.mem_map.2 ⟨s[i]'hi,?_,rfl⟩,by simp[h]⟩;have:s[i]'hi=s.data.toList[i]'(by simpa using hi):=rfl;rw[this];exact List.getElem_mem _
def J5 (s:ByteArray):List Int:=s.data.toList.map fun b=>(b.toNat:Int)
theorem Z2 (s:ByteArray):(J5 s).length=s.size:=by unfold J5;rw[List.length_map,Array.length_toList];rfl
theorem Q1c (s:ByteArray) (i:Nat) (h:i<s.size):(J5 s)[i]?=some ((s[i]'h).toNat:Int):=by
 have:s[i]'h=s.data.toList[i]'(by simpa using h):=rfl;unfold J5;rw[List.getElem?_map,List.getElem?_eq_getElem (by simpa using h),this];rfl
def Q3c (p:Int→Bool):List Int→Nat
 |[]=>0
 |b::bs=>if p b then Q3c p bs+1 else 0
def Jq (p:Int→Bool) (s:ByteArray) (at_:Nat):Nat:=at_+Q3c p ((J5 s).drop at_)
theorem Qkt (p:Int→Bool) (l:List Int):Q3c p l≤l.length:=by
 induction l with
 |nil=>simp[Q3c]
 |cons b bs ih=>simp only[Q3c,List.length_cons];split<;>omega
theorem Q57 (p:Int→Bool) (s:ByteArray) (a:Nat) (h:a≤s.size):Jq p s a≤s.size:=by
 have:=Qkt p ((J5 s).drop a);rw[List.length_drop,Z2] at this;unfold Jq;omega
theorem Qa5 {p:Int→Bool} {s:ByteArray} {a:Nat} (h:a<s.size) (hp:p ((s[a]'h).toNat:Int)=true):Jq p s a=Jq p s (a+1):=by
 unfold Jq;rw[Qd (Q1c s a h)];simp[Q3c,hp];omega
theorem Qag {p:Int→Bool} {s:ByteArray} {a:Nat} (h:a<s.size) (hp:p ((s[a]'h).toNat:Int)=false):Jq p s a=a:=by
 unfold Jq;rw[Qd (Q1c s a h)];simp[Q3c,hp]
theorem Qcn {p:Int→Bool} {s:ByteArray} {a:Nat} (h:s.size≤a):Jq p s a=a:=by
 unfold Jq;rw[Dn (by rw[Z2];exact h)];simp[Q3c]
def Q0s (l:List Int):Int:=l.foldl (fun n b=>10*n+(b-48)) 0
theorem Qa4 (l:List Int) (b:Int):Q0s (l++[b])=10*Q0s l+(b-48):=by simp[Q0s]
theorem Qig:∀(l:List Int) (n:Int) (k:Nat),(∀b∈l,Qg b=true)→0≤n→n<(10 ^ k:Nat) →
  0≤l.foldl (fun n b=>10*n+(b-48)) n∧l.foldl (fun n b=>10*n+(b-48)) n<(10 ^ (k+l.length):Nat):=by
 intro l
 induction l with
 |nil=>intro n k _ h0 h1;simpa using ⟨h0,h1⟩
 |cons b l ih =>
  intro n k h h0 h1;have hb:=h b (by simp);simp[Qg] at hb;rw[List.foldl_cons,List.length_cons,show k+(l.length+1)=(k+1)+l.length from by omega];have e:((10 ^ (k+1):Nat):Int)=10*((10 ^ k:Nat):Int):=by rw[Nat.pow_succ,Int.natCast_mul,Int.mul_comm];rfl
  exact ih _ _ (fun c hc=>h c (by simp[hc])) (by omega) (by rw[e];omega)
theorem Qav (l:List Int) (h:∀b∈l,Qg b=true):0≤Q0s l∧Q0s l<(10 ^ l.length:Nat):=by
 have:=Qig l 0 0 h (by omega) (by decide)
 rwa [Nat.zero_add] at this
theorem Q6c (l:List Int) (h:∀b∈l,Qg b=true) (hl:l.length≤15):0≤Q0s l∧Q0s l≤999999999999999:=by
 obtain⟨h0,h1⟩:=Qav l h;have:=Nat.pow_le_pow_right (show 0<10 by omega) hl;have h2:(10 ^ 15:Nat)=1000000000000000:=by decide
 rw[h2] at this;exact⟨h0,by omega⟩
theorem Qjo {p:Int→Bool} {l:List Int} (h:Q3c p l=l.length):∀b∈l,p b=true:=by
 induction l with
 |nil=>intro b hb;cases hb
 |cons x xs ih =>
  simp only[Q3c,List.length_cons] at h;split at h
  ·rename_i hx
   intro b hb;cases hb with
   |head=>exact hx
   |tail _ hb=>exact ih (by omega) b hb
  ·omega
theorem Qcy {p:Int→Bool} {s:ByteArray} (h:Jq p s 0=s.size):∀b∈J5 s,p b=true:=by
 refine Qjo ?_;unfold Jq at h;rw[Z2];simpa using h
def Q9c (s:ByteArray):Int:=match J5 s with|[]=>0|b::_=>b
def Ya (s:ByteArray) (most:Int):Bool :=
 (withinBs s.size 1 most&&decide (Jq Qg s 0=s.size))&&(decide (s.size=1) ||decide (Q9c s≠48))
where withinBs (x:Nat) (lo hi:Int):Bool:=decide (lo≤(x:Int))&&decide ((x:Int)≤hi)
def Q0y:Nat→Nat
 |0=>4607182418800017408
 |k+1=>(Ieee.double.mul 4621819117588971520 (Q0y k)).getD 0
theorem Qcz (k:Nat) (h:k<6):floatBits .mul .f64 4621819117588971520 (Q0y k)=some (Q0y (k+1)):=by
 match k,h with
 |0,_|1,_|2,_|3,_|4,_|5,_=>decide +kernel
def Yy (s:ByteArray):Option (ByteArray×ByteArray) :=
 if h:Jq Qg s 0<s.size then
  if ((s[Jq Qg s 0]'h).toNat:Int)=46∧Ya (s.extract 0 (Jq Qg s 0)) 9=true∧1≤(s.extract (Jq Qg s 0+1) s.size).size∧(s.extract (Jq Qg s 0+1) s.size).size≤6 ∧
    Jq Qg (s.extract (Jq Qg s 0+1) s.size) 0=(s.extract (Jq Qg s 0+1) s.size).size then
   some (s.extract 0 (Jq Qg s 0),s.extract (Jq Qg s 0+1) s.size)
  else none
 else none
def Q1n (s:ByteArray):Bool:=(Yy s).isSome
def Yz (s:ByteArray):Nat:=match Yy s with
 |some (a,b)=>(Ieee.double.div (floatOfInt .f64 (Q0s (J5 (a++b)))) (Q0y b.size)).getD 0
 |none=>0
theorem Qel (f:Ieee.Format) (m:Nat) (p:Int):f.nearest false m p≤f.infRung:=by
 unfold Ieee.Format.nearest Ieee.Format.word;simp only[Bool.false_eq_true,if_false];split
 ·exact Nat.zero_le _
 ·exact Nat.min_le_right _ _
theorem Qb8 (f:Ieee.Format) (x:Nat) (h:x≤f.infRung) (hlt:f.infRung<f.signWeight) (sg:Bool) (t:Nat):f.read x≠.nan sg t:=by
 unfold Ieee.Format.read;have hm:x % f.signWeight=x:=Nat.mod_eq_of_lt (by omega);simp only[hm];split
 ·simp
 ·split
  ·simp
  ·split
   ·simp
   ·omega
theorem Q9t (n:Int) (hn:0≤n):floatOfInt .f64 n=Ieee.double.nearest false n.natAbs 0:=by
 have Qwg:decide (n<0)=false:=by simp;omega
 unfold floatOfInt FloatKind.nearest FloatKind.encode Ieee.Format.write;simp only[Qwg];rfl
def Qaw (x:Nat):Bool:=match Ieee.double.read x with|.number _ m _=>decide (0<m)|_=>false
theorem Qkq (k:Nat) (h:k≤6):Qaw (Q0y k)=true:=by
 match k,h with
 |0,_|1,_|2,_|3,_|4,_|5,_|6,_=>decide +kernel
theorem Qlt:Ieee.double.infRung<Ieee.double.signWeight:=by decide +kernel
theorem Qdi (n:Int) (hn:0≤n) (y:Nat) (hy:Qaw y=true):∃r,Ieee.double.div (floatOfInt .f64 n) y=some r:=by
 unfold Qaw at hy;have hd:∀sg t,Ieee.double.read (floatOfInt .f64 n)≠.nan sg t:=fun sg t=>Qb8 Ieee.double _ (by rw[Q9t n hn];exact Qel _ _ _) Qlt sg t
 generalize floatOfInt .f64 n=x at *;unfold Ieee.Format.div;cases hr:Ieee.double.read x with
 |nan sg t=>exact absurd hr (hd sg t)
 |infinity sg =>
  cases he:Ieee.double.read y with
  |nan _ _=>rw[he] at hy;cases hy
  |infinity _=>rw[he] at hy;cases hy
  |number s m e=>exact⟨_,rfl⟩
 |number sg mm ee =>
  cases he:Ieee.double.read y with
  |nan _ _=>rw[he] at hy;cases hy
  |infinity _=>rw[he] at hy;cases hy
  |number s m e =>
   rw[he] at hy;have h0:0<m:=by simpa using hy
   simp only[Ieee.Datum.quotient];rw[Ng (by omega)];exact⟨_,rfl⟩
theorem Qlj (n:Int) (k:Nat) (h:k≤6) (hn:0≤n):floatBits .quo .f64 (floatOfInt .f64 n) (Q0y k)=some ((Ieee.double.div (floatOfInt .f64 n) (Q0y k)).getD 0):=by
 obtain⟨r,hr⟩:=Qdi n hn (Q0y k) (Qkq k h);generalize floatOfInt .f64 n=x at *;generalize Q0y k=y at *
 show Ieee.double.div x y=_
 rw[hr];rfl
def Qex:Qc:=⟨0,ByteArray.empty,0,[]⟩
def Q1.at (t:Q1) (k:Int):Qc:=(t.nodes[k.toNat]?).getD Qex
theorem Q1.at_of {t:Q1} {j:Nat} {n:Qc} (h:t.nodes[j]?=some n):t.at j=n:=by simp[Q1.at,h]
def Qs (k:Int):Bool:=Q9 k 1 11
def Zp (k:Int):Bool:=Q9 k 12 26
def isK (a:Int) (k:Int):Bool:=k==a
def Q1t (t:Q1) (kids:List Int) (p:Int→Bool):Bool:=kids.all fun k=>p (t.at k).kind
def Qo (t:Q1):List Int→List (Int→Bool)→Bool
 |[],[]=>true
 |k::ks,p::ps=>p (t.at k).kind&&Qo t ks ps
 |_,_=>false
def Yq (n:Qc):Bool :=
 if n.kind=2 then Q1n n.text
 else if n.kind=4∨n.kind=5∨n.kind=6∨n.kind=7∨n.kind=12∨n.kind=13∨n.kind=14∨n.kind=15∨n.kind=19∨n.kind=20∨n.kind=23∨n.kind=24∨n.kind=28∨n.kind=31∨n.kind=32∨n.kind=33∨n.kind=34 then Q0k n.text
 else n.text.toList.isEmpty
def Xn (n:Qc):Bool :=
 if n.kind=1 then Q9 n.i 0 999999999999999
 else if n.kind=3 then Q9 n.i 0 1
 else if n.kind=8 then Q9 n.i 1 9
 else if n.kind=9 then Q9 n.i 1 6
 else if n.kind=32∨n.kind=33 then Q9 n.i 1 4
 else n.i==0
def Xb (t:Q1) (n:Qc):Bool :=
 if n.kind=1∨n.kind=2∨n.kind=3∨n.kind=4∨n.kind=5∨n.kind=6 then n.kids.isEmpty
 else if n.kind=7 then Q1t t n.kids Qs
 else if n.kind=8∨n.kind=10 then Qo t n.kids [Qs,Qs]
 else if n.kind=9 then Qo t n.kids [Qs]
 else match n.kids with
  |k::k2::ks=>Qs (t.at k).kind&&Q1t t (k2::ks) (isK 31)
  |_=>false
def Z5 (t:Q1) (n:Qc):Bool :=
 if n.kind=12∨n.kind=13∨n.kind=14∨n.kind=15∨n.kind=19∨n.kind=23∨n.kind=26 then Qo t n.kids [Qs]
 else if n.kind=16 then Qo t n.kids [Qs,isK 27] ||Qo t n.kids [Qs,isK 27,isK 27]
 else if n.kind=17 then Qo t n.kids [Qs,isK 27]
 else if n.kind=18 then Qo t n.kids [isK 29,isK 30,isK 27]
 else if n.kind=20 then Qo t n.kids [isK 31,isK 27]
 else if n.kind=21 then Q1t t n.kids (isK 28)
 else if n.kind=25 then Qo t n.kids [isK 7]
 else n.kids.isEmpty
def Je (t:Q1) (n:Qc):Bool :=
 if n.kind=27 then Q1t t n.kids Zp
 else if n.kind=28 then Qo t n.kids [Qs]
 else if n.kind=29 then !n.kids.isEmpty&&Q1t t n.kids (isK 31)
 else if n.kind=30 then Q1t t n.kids (isK 31)
 else if n.kind=31∨n.kind=32 then n.kids.isEmpty
 else if n.kind=33 then (match n.kids.getLast? with|none=>false|some l=>Q1t t n.kids.dropLast (isK 32)&&isK 27 (t.at l).kind)
 else if n.kind=34 then Qo t n.kids [isK 27]
 else false
def Yb (t:Q1) (i:Int) (n:Qc):Bool :=
 n.kids.all (fun k=>Q9 k 0 (i-1))&&(Yq n&&Xn n)&&(if Qs n.kind then Xb t n else if Zp n.kind then Z5 t n else Je t n)
def Qr (t:Q1):Nat→Int→Int→Int
 |0,_,_=>-1
 |f+1,i,n=>let m:=(t.at i).kids.foldl (fun m k=>if m<0 then -1 else Qr t f k m) n
  if m<0 then -1 else if i=m then m+1 else -1
def Q0m (t:Q1):List Int→Int→Option Int
 |[],m=>some m
 |i::is,m=>if Q9 i 0 ((t.nodes.length:Int)-1)&&decide (33≤(t.at i).kind) then
   (if Qr t (i.toNat+1) i m<0 then none else Q0m t is (Qr t (i.toNat+1) i m)) else none
def Qt (t:Q1):Bool:=(List.range t.nodes.length).all fun j=>Yb t j (t.at j)
def Yi (t:Q1):Bool:=decide (t.nodes.length≤4000)&&Qt t&&(Q0m t t.tops 0==some (t.nodes.length:Int))
def Qf (S:Nat→Prop) (e:TypeId) (w:World) (v:Value) (xs:List Value):Prop:=w.ownsRow 0 e 1 v xs.length xs∧∀k,v.ownBlock=some k→S k
def Jl (S:Nat→Prop) (w:World):Prop:=∀k,w.heap.size≤k→S k
theorem Jl.mono {S:Nat→Prop} {w w':World} (h:Jl S w) (hl:w.heap.size≤w'.heap.size):Jl S w':=fun k hk=>h k (Nat.le_trans hl hk)
theorem Jl.kept {S S':Nat→Prop} {w w':World} (h:Jl S w) (k:Q0 S' w w'):Jl S w':=h.mono k.size
theorem Jl.alloc {S:Nat→Prop} {w:World} (h:Jl S w) (o:Obj):Jl S (w.alloc o):=h.mono (by simp)
theorem Jl.set {S:Nat→Prop} {w:World} (h:Jl S w) (a:Addr) (u:Value):Jl S (w.setCell a u):=h.mono (by simp[World.setCell])
namespace Qf
variable {S S':Nat→Prop} {e:TypeId} {w w':World} {v:Value} {xs:List Value}
theorem nil (S:Nat→Prop) (e:TypeId) (w:World):Qf S e w (.slice none 0 0) []:=⟨⟨by simp,.inl ⟨rfl,rfl⟩⟩,fun k h=>by simp[Value.ownBlock] at h⟩
theorem mono (h:Qf S e w v xs) (hs:∀k,S k→S' k):Qf S' e w v xs:=⟨h.1,fun k hk=>hs k (h.2 k hk)⟩
theorem lt (h:Qf S e w v xs) (k:Nat) (hk:v.ownBlock=some k):k<w.heap.size:=by
 rcases h.1.2 with ⟨rfl,_⟩|⟨g,cap,cur,rfl,hb,hh,_⟩
 ·simp[Value.ownBlock] at hk
 ·have:g=k:=by simpa[Value.ownBlock] using hk
  subst this;exact (Array.getElem?_eq_some_iff.1 hh).1
theorem same (h:Qf S e w v xs) (hb:∀k,v.ownBlock=some k→w'.heap[k]?=w.heap[k]?):Qf S e w' v xs:=by
 refine⟨⟨h.1.1,?_⟩,h.2⟩;rcases h.1.2 with h1|⟨g,cap,cur,rfl,h0,hh,r⟩
 ·exact .inl h1
 ·exact .inr ⟨g,cap,cur,rfl,h0,(hb g rfl).trans hh,r⟩
theorem kept (h:Qf S e w v xs) (k:Q0 S' w w') (hn:∀k,v.ownBlock=some k→¬ S' k):Qf S e w' v xs:=h.same fun b hb=>k.block b (h.lt b hb) (hn b hb)
theorem nobk (h:Qf S e w v xs) (k:Q0 nob w w'):Qf S e w' v xs:=h.kept k (fun _ _ h=>h)
theorem alloc (h:Qf S e w v xs) (o:Obj):Qf S e (w.alloc o) v xs:=h.same fun b hb=>Below.heap_alloc _ _ _ (h.lt b hb)
theorem drew (h:Qf S e w v xs):Qf S e w.drew v xs:=h.same fun _ _=>rfl
theorem drewN (h:Qf S e w v xs) (n:Nat):Qf S e (w.drewN n) v xs:=h.same fun _ _=>rfl
theorem other (h:Qf S e w v xs) {p:Addr} (hp:v.ownBlock≠some p.block) (u:Value):Qf S e (w.setCell p u) v xs:=h.same fun b hb=>Below.heap_setCell _ _ _ _ (fun e=>hp (by rw[hb,e]))
theorem lit (S:Nat→Prop) (e:TypeId) (w:World) (xs:List Value) (hS:S w.heap.size) (hm:xs.length≤140737488355328) {b n c:Nat} (hb:b=w.heap.size) (hn:n=xs.length) (hc:c=xs.length) :
  Qf S e (w.alloc (.cells xs.toArray e (0,0))) (.slice (some ⟨b,0,none⟩) n c) xs:=by
 subst hb;subst hn;subst hc
 refine⟨⟨by simp,.inr ⟨w.heap.size,xs.length,xs.toArray,rfl,Nat.zero_le _,Blk.new w xs e,Nat.le_refl _,by simp only[maxLen];omega,by simp,by simp⟩⟩,fun k hk=>?_⟩
 have:w.heap.size=k:=by simpa[Value.ownBlock] using hk
 subst this;exact hS
theorem len (h:Qf S e w v xs):∃A c,v=.slice A xs.length c:=by
 rcases h.1.2 with ⟨rfl,h0⟩|⟨g,cap,cur,rfl,_⟩
 ·exact⟨none,0,by rw[h0]⟩
 ·exact⟨_,_,rfl⟩
theorem opened (h:Qf S e w v xs):∃A b c,v=.slice A xs.length c∧xs.length≤9223372036854775807∧xs.length≤c∧(0<xs.length→A=some ⟨b,0,none⟩∧S b∧v.ownBlock=some b) ∧
  ∀j x,xs[j]?=some x→w.cell? ⟨b,j,none⟩=some x∧w.frozen? ⟨b,j,none⟩=false:=by
 rcases h.1.2 with ⟨rfl,h0⟩|⟨g,cap,cur,rfl,hb,hh,hnc,hcm,hcs,ht⟩
 ·have:xs=[]:=List.eq_nil_of_length_eq_zero h0
  subst this;exact⟨none,0,0,rfl,by simp,by simp,fun h=>absurd h (by simp),fun j x hx=>by simp at hx⟩
 ·refine⟨_,g,cap,rfl,by simp only[maxLen] at hcm;omega,hnc,fun _=>⟨rfl,h.2 g rfl,rfl⟩,fun j x hx=>?_⟩
  have hj:j<xs.length:=(Gs hx).1
  have Qqy:cur[j]?=some x:=by
   rw[← ht,List.getElem?_take] at hx;simp at hx;exact hx.2
  constructor
  ·simp[World.cell?,hh,Qqy]
  ·simp[World.frozen?,hh]
end Qf
section
variable {P:Program} {ops:Array Oper} {rest:List Oper} {o:Oper} {a:Act} {Q:Exit→Act→World→Prop}
theorem J1 {W:World} (S:Nat→Prop) (hgd:o.guard=none) (s x:Operand) (t e:TypeId) (z:Value) (bytes:Nat)
  (ho:o.op=.call {callee:=.builtin .append,args:=#[s,x],argTypes:=#[t,t]})
  (ht:P.underlying t=some (.slice e)) (Qnh:(P.info? e).map (fun i=>(i.zero,i.size,i.bytes))=some (some z,1,bytes)) (hz:z.cells.size=1)
  (v:Value) (xs:List Value) (y:Value) (hs:a.eval s=v) {bx:Nat} (hx:a.eval x=.slice (some ⟨bx,0,none⟩) 1 1) (hbx:bx=W.heap.size) (h1:y.oneCell'=true)
  (HO:Qf S e W v xs) (HF:Jl S W) (hl:(xs.length+1)*bytes≤140737488355328) (hl2:xs.length+1≤140737488355328)
  (h:∀v1 w1,Qf S e w1 v1 (xs++[y])→Q0 (fun k=>v.ownBlock=some k) W w1→(v1.ownBlock=v.ownBlock∨∃b,v1.ownBlock=some b∧W.heap.size≤b)→wpList P ops Q rest (a.put o.dst v1) w1) :
  wpList P ops Q (o::rest) a (W.alloc (.cells #[y] e)):=by
 subst hbx;obtain⟨i0,hi,hzz⟩:=Option.map_eq_some_iff.1 Qnh;simp only[Prod.mk.injEq] at hzz;obtain⟨hz0,hz1,hz2⟩:=hzz
 refine wpList_append_own_at (W.alloc (.cells #[y] e)) hgd s x t ho 0 e i0 z 1 bytes ht hi hz0 hz1 hz2 hz (by omega) v xs.length xs hs (HO.alloc _).1 ⟨W.heap.size,0,none⟩ 1 1 [y] hx rfl
  (World.news_of_block (cs:=#[y]) (t:=e) (fr:=(0,0)) (heap_alloc_new W _)) (by simpa using h1) (by simp only[maxLen];omega) hl (Nat.zero_le _) ?_
 intro v1 w1 Qmy hg _ hat
 have hat':v1.ownBlock=v.ownBlock∨∃b,v1.ownBlock=some b∧W.heap.size≤b:=by
  rcases hat with hat|hat
  ·exact .inl hat
  ·exact .inr ⟨_,hat,by simp⟩
 refine h v1 w1 ⟨by simpa using Qmy,fun k hk=>?_⟩ (((Kr _ W).alloc _).grown hg (fun k hk=>.inl hk)) hat'
 rcases hat' with e1|⟨b,e1,hb⟩
 ·exact HO.2 k (e1▸hk)
 ·rw[e1] at hk;cases hk;exact HF _ hb
end
def Xs {α:Type} [DecidableEq α] (y:α):List α→Int
 |[]=>-1
 |x::xs=>if x=y then 0 else if Xs y xs = -1 then -1 else Xs y xs+1
section
variable {α:Type} [DecidableEq α]
theorem Qds (y:α) (xs:List α):-1≤Xs y xs:=by
 induction xs with
 |nil=>simp[Xs]
 |cons x xs ih=>simp only[Xs];split<;>first|omega|(split<;>omega)
theorem Qd3 (y:α) (xs:List α):0≤Xs y xs↔y∈xs:=by
 induction xs with
 |nil=>simp[Xs]
 |cons x xs ih =>
  simp only[Xs,List.mem_cons];have:=Qds y xs
  by_cases h:x=y
  ·simp[h]
  ·rw[Ng h]
   have hne:¬ y=x:=fun e=>h e.symm
   by_cases h2:Xs y xs = -1
   ·rw[Ps h2]
    rw[h2] at ih;constructor
    ·intro h;omega
    ·rintro (h|h)
     ·exact absurd h hne
     ·have:=ih.2 h;omega
   ·rw[Ng h2]
    exact⟨fun _=>.inr (ih.1 (by omega)),fun _=>by omega⟩
def Z9 (y:α) (xs:List α):Bool:=decide (0≤Xs y xs)
theorem X6 (y:α) (xs:List α):Z9 y xs=true↔y∈xs:=by rw[Z9,decide_eq_true_iff,Qd3]
omit [DecidableEq α] in
def Q5m (y:α) (xs:List α) (j:Nat):Prop:=∀i x,i<j→xs[i]?=some x→x≠y
omit [DecidableEq α] in
theorem Q4k {y:α} {xs:List α} {j:Nat} {x:α} (h:Q5m y xs j) (hx:xs[j]?=some x) (hne:x≠y):Q5m y xs (j+1):=by
 intro i z hi hz
 by_cases e:i=j
 ·subst e;rw[hx] at hz;cases hz;exact hne
 ·exact h i z (by omega) hz
theorem Q4s {y:α} {xs:List α} {j:Nat} {x:α} (hn:Q5m y xs j) (hd:xs[j]?=some x) (he:x=y):Xs y xs=j:=by
 induction xs generalizing j with
 |nil=>simp at hd
 |cons z xs ih =>
  cases j with
  |zero=>simp at hd;subst hd;simp[Xs,he]
  |succ j =>
   have h0:z≠y:=hn 0 z (by omega) rfl;have:=ih (j:=j) (fun i d hi h=>hn (i+1) d (by omega) (by simpa using h)) (by simpa using hd);simp only[Xs,Ng h0,this];rw[Ng (by omega)];simp
theorem Q46 {y:α} {xs:List α} (hn:Q5m y xs xs.length):Xs y xs = -1:=by
 induction xs with
 |nil=>rfl
 |cons x xs ih =>
  have h0:x≠y:=hn 0 x (by simp) rfl;have:=ih (fun i d hi h=>hn (i+1) d (by simp;omega) (by simpa using h));simp[Xs,Ng h0,this]
end
theorem Qdk (v:Value) (xs:List ByteArray) (y:ByteArray) (w:World) (hv:Yv w v xs) :
  Calls prog 118 #[v,.string y] w fun e w'=>e=.returned (.int .i64 (Xs y xs))∧w=w':=by
 obtain⟨A,b,o,c,rfl,hl,hlc,hA,hc⟩:=hv;have HC:=Hh hc;clear hc;go_enter func118,ntmps118;go_wp2;go_loop [5,8] (fun u i=>∃j:Nat,j≤xs.length∧i=.int .i64 j∧Q5m y xs j) (fun _ i=>xs.length-(intOf i).toNat)
 case atStart=>exact⟨0,Nat.zero_le _,rfl,fun i d hi _=>absurd hi (by omega)⟩
 case round =>
  obtain⟨j,hj,rfl,hno⟩:=hrel;have HNO:=Hh hno;clear hno
  by_cases hlt:j<xs.length
  ·obtain⟨x,hx⟩:=Q3 hlt
   have HX:=Hh hx;have c0:=HC.o j x hx;obtain rfl:=hA (by omega);clear hx hA;go_wp2
   ·have hy:=Q0c (by assumption:(y.toList==x.toList)=true)
    go_ret;exact⟨Jn (Q4s HNO.o HX.o hy.symm).symm,rfl⟩
   ·have hy:=Q1s (by assumption:(y.toList==x.toList)=false)
    go_round
    case rel=>exact⟨j+1,by omega,by go_num,Q4k HNO.o HX.o (fun e=>hy e.symm)⟩
    case measure=>simp[intOf];omega
  ·go_wp2
   go_ret;obtain rfl:j=xs.length:=by omega
   exact⟨Jn (Q46 HNO.o).symm,rfl⟩
theorem Y4 (v:Value) (xs:List ByteArray) (y:ByteArray) (w:World) (hv:Yv w v xs) :
  Calls prog 86 #[v,.string y] w fun e w'=>e=.returned (.bool (Z9 y xs))∧w=w':=by
 go_enter func86,ntmps86;go_wp2_with (go_at_call 118;refine (Qdk _ xs _ _ hv).mono ?_;rintro e w1 ⟨rfl,rfl⟩);go_ret;exact⟨Q6 rfl,rfl⟩
theorem Qc8 (v:Value) (xs:List Int) (y:Int) (w:World) (hv:Qi w v xs) :
  Calls prog 114 #[v,.int .i64 y] w fun e w'=>e=.returned (.int .i64 (Xs y xs))∧w=w':=by
 obtain⟨A,b,o,c,rfl,hl,hlc,hA,hc⟩:=hv;have HC:=Hh hc;clear hc;go_enter func114,ntmps114;go_wp2;go_loop [5,8] (fun u i=>∃j:Nat,j≤xs.length∧i=.int .i64 j∧Q5m y xs j) (fun _ i=>xs.length-(intOf i).toNat)
 case atStart=>exact⟨0,Nat.zero_le _,rfl,fun i d hi _=>absurd hi (by omega)⟩
 case round =>
  obtain⟨j,hj,rfl,hno⟩:=hrel;have HNO:=Hh hno;clear hno
  by_cases hlt:j<xs.length
  ·obtain⟨x,hx⟩:=Q3 hlt
   have HX:=Hh hx;have c0:=HC.o j x hx;obtain rfl:=hA (by omega);clear hx hA;go_wp2
   ·have hy:y=x:=by simpa using (by assumption:(y==x)=true)
    go_ret;exact⟨Jn (Q4s HNO.o HX.o hy.symm).symm,rfl⟩
   ·have hy:y≠x:=by simpa using (by assumption:(y==x)=false)
    go_round
    case rel=>exact⟨j+1,by omega,by go_num,Q4k HNO.o HX.o (fun e=>hy e.symm)⟩
    case measure=>simp[intOf];omega
  ·go_wp2
   go_ret;obtain rfl:j=xs.length:=by omega
   exact⟨Jn (Q46 HNO.o).symm,rfl⟩
theorem Zk (v:Value) (xs:List Int) (y:Int) (w:World) (hv:Qi w v xs) :
  Calls prog 78 #[v,.int .i64 y] w fun e w'=>e=.returned (.bool (Z9 y xs))∧w=w':=by
 go_enter func78,ntmps78;go_wp2_with (go_at_call 114;refine (Qc8 _ xs _ _ hv).mono ?_;rintro e w1 ⟨rfl,rfl⟩);go_ret;exact⟨Q6 rfl,rfl⟩
end Go.Proofs.YtkgkafjachjafaaGreat
