/- Part 6 of: FnExactPrune answers true; no condition. -/
import Derived.Handy
import Derived.Test.YtkgkafjachjafaaGreatZ01
import Derived.Test.YtkgkafjachjafaaGreatZ04
import Derived.Test.YtkgkafjachjafaaGreatZ05
set_option linter.unusedVariables false
set_option maxHeartbeats 1000000
open Go Go.RowKit
namespace Go.Proofs.YtkgkafjachjafaaGreat
open Tryz
def Xa (names:List ByteArray):List Zw→Option (List ByteArray)
 |[]=>some names
 |d::ds=>if (Q0k d.name&&!Z9 d.name names)&&Q9 d.kind 1 4 then Xa (names++[d.name]) ds else none
def Q1v:List (List Zw)→List ByteArray→Bool
 |[],_=>true
 |l::ls,names=>if l.length≤12 then (match Xa names l with|some n=>Q1v ls n|none=>false) else false
def Q69 (r:Reg):Bool:=Q1v [r.comps,r.ress,r.evts] []
def strs (xs:List ByteArray):List Value:=xs.map Value.string
theorem Q3r (xs:List ByteArray) (x:ByteArray):strs xs++[.string x]=strs (xs++[x]):=by simp[strs]
theorem Qf.strs {S:Nat→Prop} {e:TypeId} {w:World} {v:Value} {xs:List ByteArray} (h:Qf S e w v (strs xs)) (hl:xs.length≤140737488355328):Yv w v xs:=by
 obtain⟨A,b,c,rfl,h1,h2,h3,h4⟩:=h.opened;have Qmr:(YtkgkafjachjafaaGreat.strs xs).length=xs.length:=by simp[YtkgkafjachjafaaGreat.strs]
 rw[Qmr] at h1 h2 h3 ⊢
 refine⟨A,b,0,c,rfl,hl,h2,fun hp=>(h3 hp).1,fun j x hx=>?_⟩
 rw[Nat.zero_add];exact (h4 j (.string x) (by simp[YtkgkafjachjafaaGreat.strs,hx])).1
def Q1k (r:Reg):Prop:=∀d,d∈r.comps∨d∈r.ress∨d∈r.evts→d.name.size≤140737488355328
theorem Q8o (r:Reg) (v:Value) (w:World) (hv:Q1d w v r) (hx:Q1k r) :
  Calls prog 52 #[v] w fun e w'=>e=.returned (.bool (Q69 r))∧Q0 nob w w':=by
 obtain⟨v0,v1,v2,rfl,hd0,hd1,hd2⟩:=hv;have Qn5:∀(u:Value) (ds:List Zw),Z1 w u ds→∃A c,u=.slice A ds.length c:=fun u ds ⟨A,b,o,c,h,_⟩=>⟨A,c,h⟩
 obtain⟨A0,c0,rfl⟩:=Qn5 _ _ hd0;obtain⟨A1,c1,rfl⟩:=Qn5 _ _ hd1;obtain⟨A2,c2,rfl⟩:=Qn5 _ _ hd2
 have HD:Hi (∀(j:Nat) (ds:List Zw),[r.comps,r.ress,r.evts][j]?=some ds→∃u,[Value.slice A0 r.comps.length c0,.slice A1 r.ress.length c1,.slice A2 r.evts.length c2][j]?=some u∧Z1 w u ds∧(∀d∈ds,d.name.size≤140737488355328)):=Hh (by
  intro j ds hj
  match j,hj with
  |0,hj=>cases hj;exact⟨_,rfl,hd0,fun d hd=>hx d (.inl hd)⟩
  |1,hj=>cases hj;exact⟨_,rfl,hd1,fun d hd=>hx d (.inr (.inl hd))⟩
  |2,hj=>cases hj;exact⟨_,rfl,hd2,fun d hd=>hx d (.inr (.inr hd))⟩)
 clear Qn5 hd0 hd1 hd2 hx;generalize hB:w.heap.size=B;generalize hS:(fun k=>B+1≤k∧k≠B+2)=S;have HS:=Hh hS;have HBB:=Hh hB;clear hS;go_enter func52,ntmps52;go_wp2_with fail
 go_loopw [3,5,7,17] (fun nv u5 u7 i wr=>∃(j:Nat) (names:List ByteArray),j≤3∧i=.int .i64 j∧Qf S 9 wr nv (strs names)∧names.length≤12*j∧Q0 nob w wr∧B+3≤wr.heap.size ∧
  Blk wr (B+2) [.slice A0 r.comps.length c0,.slice A1 r.ress.length c1,.slice A2 r.evts.length c2] 36∧Q1v [r.comps,r.ress,r.evts] []=Q1v ([r.comps,r.ress,r.evts].drop j) names) (fun _ _ _ i _=>3-(intOf i).toNat)
 case atStart =>
  refine⟨0,[],by omega,rfl,?_,by simp,(((Kr _ _).alloc _).alloc _).alloc _,by simp;omega,Blk.new_of _ _ _ (by simp;omega),rfl⟩;refine Qf.alloc (Qf.lit _ _ _ [] ?_ (by simp) (by simp;omega) rfl rfl) _;rw[← HS.o];simp;omega
 case round =>
  obtain⟨j,names,hj,rfl,Qmy,hnl,hk,hsz,hbl,hr⟩:=hrel;obtain⟨wo,rfl⟩:∃wo:World,wo=wr:=⟨_,rfl⟩;have HR:=Hh hr;have HBL:=Hh hbl;have Qnm:=Hh Qmy;clear hr hbl Qmy
  by_cases hlt:j<3
  ·obtain⟨ds,hds⟩:=Q3 (xs:=[r.comps,r.ress,r.evts]) (j:=j) hlt
   obtain⟨u,hu,hrd,htx⟩:=HD.o j ds hds;have cL:=HBL.o.cell j u hu;obtain⟨A,b,o,c,rfl,hl,hlc,hA,hc⟩:=hrd;have HDS:=Hh hds;have HC:=Hh hc;have HTX:=Hh htx;have HE:Hi (Q1v [r.comps,r.ress,r.evts] []=Q1v (ds::[r.comps,r.ress,r.evts].drop (j+1)) names):=Hh (by rw[HR.o,Qd hds]);clear hds hu hc htx
   by_cases h12:ds.length≤12
   ·have Qyw:decide ((12:Int)<(ds.length:Int))=false:=Df (by omega)
    have hd3:decide ((j:Int)<3)=true:=Dt (by omega);go_wp2_with fail
    go_loopw [3,7,26] (fun nv u7 i wr'=>∃(m:Nat) (names':List ByteArray),m≤ds.length∧i=.int .i64 m∧Qf S 9 wr' nv (strs names')∧names'.length≤12*j+m∧Q0 nob w wr'∧B+3≤wr'.heap.size ∧
     Blk wr' (B+2) [.slice A0 r.comps.length c0,.slice A1 r.ress.length c1,.slice A2 r.evts.length c2] 36∧Xa names ds=Xa names' (ds.drop m)) (fun _ _ i _=>ds.length-(intOf i).toNat)
    case atStart=>exact⟨0,names,Nat.zero_le _,rfl,Qnm.o,by omega,hk,hsz,HBL.o,rfl⟩
    case round =>
     obtain⟨m,names',hm,rfl,Qqz,hnl',hk',hsz',hbl',hr'⟩:=hrel;have HR':=Hh hr';have HBL':=Hh hbl';have Qnk:=Hh Qqz;clear hr' hbl' Qqz
     by_cases hmt:m<ds.length
     ·obtain⟨d,hd⟩:=Q3 hmt
      obtain⟨q0,q1⟩:=HC.o m d hd;have e0:=hk'.cell (fun h=>h) q0;have e1:=hk'.cell (fun h=>h) q1;obtain rfl:=hA (by omega);have hts:=HTX.o d (Mg hd);have HDR:Hi (ds.drop m=d::ds.drop (m+1)):=Hh (Qd hd);have lt0:=World.block_lt_of_cell? _ _ e0;clear hd q0 q1 hA;have HFR:Hi (Jl S wr):=Hh (fun k hk=>by rw[← HS.o];simp only;omega);have HNO:Hi (Xa names ds=none→Q69 r=false):=Hh (fun h=>by rw[Q69,HE.o,Q1v,Ps h12,h]);cases h1:Q0k d.name with
      |false =>
       have HF:=Hh (HNO.o (by rw[HR'.o,HDR.o,Xa,h1];rfl));go_wp2_with (first|(go_at_call 85;refine (Q3w _ _ hts).mono ?_;rintro e w1 ⟨rfl,rfl⟩)|(go_at_call 86;refine (Y4 _ names' _ _ ((Qf.strs (Qnk.o.alloc _) (by omega)))).mono ?_;rintro e w1 ⟨rfl,rfl⟩)|(go_at_call 87;refine (Q1g _ _).mono ?_;rintro e w1 ⟨rfl,rfl⟩)|(at_builtin;refine J1 S rfl _ _ 66 9 (.string ByteArray.empty) 16 rfl underlying66 (by kernel_rfl) rfl _ (strs names') (.string d.name) rfl rfl (by simp) rfl (Qnk.o.alloc _) (HFR.o.alloc _) (by simp[strs];omega) (by simp[strs];omega) ?_;intro nv1 w2 Qmv hk2 hat));go_ret;exact⟨Q6 HF.o.symm,hk'.alloc _⟩
      |true =>
      cases h2:Z9 d.name names' with
      |true =>
       have HF:=Hh (HNO.o (by rw[HR'.o,HDR.o,Xa,h1,h2];rfl));go_wp2_with (first|(go_at_call 85;refine (Q3w _ _ hts).mono ?_;rintro e w1 ⟨rfl,rfl⟩)|(go_at_call 86;refine (Y4 _ names' _ _ ((Qf.strs (Qnk.o.alloc _) (by omega)))).mono ?_;rintro e w1 ⟨rfl,rfl⟩)|(go_at_call 87;refine (Q1g _ _).mono ?_;rintro e w1 ⟨rfl,rfl⟩)|(at_builtin;refine J1 S rfl _ _ 66 9 (.string ByteArray.empty) 16 rfl underlying66 (by kernel_rfl) rfl _ (strs names') (.string d.name) rfl rfl (by simp) rfl (Qnk.o.alloc _) (HFR.o.alloc _) (by simp[strs];omega) (by simp[strs];omega) ?_;intro nv1 w2 Qmv hk2 hat));go_ret;exact⟨Q6 HF.o.symm,hk'.alloc _⟩
      |false =>
      cases h3:Q9 d.kind 1 4 with
      |false =>
       have HF:=Hh (HNO.o (by rw[HR'.o,HDR.o,Xa,h1,h2,h3];rfl));go_wp2_with (first|(go_at_call 85;refine (Q3w _ _ hts).mono ?_;rintro e w1 ⟨rfl,rfl⟩)|(go_at_call 86;refine (Y4 _ names' _ _ ((Qf.strs (Qnk.o.alloc _) (by omega)))).mono ?_;rintro e w1 ⟨rfl,rfl⟩)|(go_at_call 87;refine (Q1g _ _).mono ?_;rintro e w1 ⟨rfl,rfl⟩)|(at_builtin;refine J1 S rfl _ _ 66 9 (.string ByteArray.empty) 16 rfl underlying66 (by kernel_rfl) rfl _ (strs names') (.string d.name) rfl rfl (by simp) rfl (Qnk.o.alloc _) (HFR.o.alloc _) (by simp[strs];omega) (by simp[strs];omega) ?_;intro nv1 w2 Qmv hk2 hat));go_ret;exact⟨Q6 HF.o.symm,hk'.alloc _⟩
      |true =>
       have HF:Hi (Xa names ds=Xa (names'++[d.name]) (ds.drop (m+1))):=Hh (by rw[HR'.o,HDR.o,Xa,h1,h2,h3];rfl);go_wp2_with (first|(go_at_call 85;refine (Q3w _ _ hts).mono ?_;rintro e w1 ⟨rfl,rfl⟩)|(go_at_call 86;refine (Y4 _ names' _ _ ((Qf.strs (Qnk.o.alloc _) (by omega)))).mono ?_;rintro e w1 ⟨rfl,rfl⟩)|(go_at_call 87;refine (Q1g _ _).mono ?_;rintro e w1 ⟨rfl,rfl⟩)|(at_builtin;refine J1 S rfl _ _ 66 9 (.string ByteArray.empty) 16 rfl underlying66 (by kernel_rfl) rfl _ (strs names') (.string d.name) rfl rfl (by simp) rfl (Qnk.o.alloc _) (HFR.o.alloc _) (by simp[strs];omega) (by simp[strs];omega) ?_;intro nv1 w2 Qmv hk2 hat))
       have hkk:Q0 nob w w2:=(hk'.alloc _).then_ hk2 (fun k hk=>.inr (by
        have:=Qnk.o.2 k hk;rw[← HS.o] at this;(try simp only at this);omega))
       have Qwi:Blk w2 (B+2) _ _:=(HBL'.o.alloc _).kept hk2 (fun hk=>by
        have:=Qnk.o.2 _ hk;rw[← HS.o] at this;(try simp only at this);omega)
       rw[Q3r] at Qmv;have Qng:B+3≤w2.heap.size:=Nat.le_trans (by simp;omega) hk2.size;go_roundw
       case rel=>exact⟨m+1,names'++[d.name],by omega,by go_num,Qmv,by simp;omega,hkk,Qng,Qwi,HF.o⟩
       case measure=>simp[intOf];omega
     ·have HF:Hi (Xa names ds=some names'):=Hh (by rw[HR'.o,Dn (by omega)];rfl)
      go_wp2_with fail;go_roundw
      case rel=>exact⟨j+1,names',by omega,by go_num,Qnk.o,by omega,hk',hsz',HBL'.o,by rw[HE.o,Q1v,Ps h12,HF.o]⟩
      case measure=>simp[intOf];omega
   ·have HF:Hi (Q69 r=false):=Hh (by rw[Q69,HE.o,Q1v,Ng h12])
    go_wp2_with fail;go_ret;exact⟨Q6 HF.o.symm,hk⟩
  ·obtain rfl:j=3:=by omega
   have HF:Hi (Q69 r=true):=Hh (by rw[Q69,HR.o];rfl);go_wp2_with fail;go_ret;exact⟨Q6 HF.o.symm,hk⟩
structure CS where
 code:Int
 node:Int
 kinds:List Int
 bind:List Int
 locals:List Int
 tops:List Int
 top:Int
 withs:List Int
 inEach:Bool
 inHear:Bool
namespace CS
def fail (s:CS) (code node:Int):CS:=if s.code=0 then {s with code:=code,node:=node} else s
def kindAt (s:CS) (k:Int):Int:=(s.kinds[k.toNat]?).getD 0
def setKind (s:CS) (i x:Int):CS:={s with kinds:=s.kinds.set i.toNat x}
def setBind (s:CS) (i x:Int):CS:={s with bind:=s.bind.set i.toNat x}
def addLocal (s:CS) (k:Int):CS:={s with locals:=s.locals++[k]}
end CS
def Q2 (t:Q1) (l:List Int) (name:ByteArray):Int:=match l with
 |[]=>-1
 |k::ks=>if (t.at k).text=name then k else Q2 t ks name
def kidAt (n:Qc) (j:Nat):Int:=(n.kids[j]?).getD 0
def Qq (s:CS) (kid kind node:Int):CS:=if s.kindAt kid=kind then s else s.fail 4 node
def Qh (r:Reg) (s:CS) (name:ByteArray) (node:Int):Int×CS :=
 if r.find 1 name<0 then (0,s.fail 3 node) else if Z9 (r.find 1 name) s.withs then (r.kindOf 1 (r.find 1 name),s) else (0,s.fail 5 node)
def J4 (r:Reg) (s:CS) (sort:Int) (name:ByteArray) (node:Int):Int×CS :=
 if r.find sort name<0 then (0,s.fail 3 node) else (r.kindOf sort (r.find sort name),s)
def Yl (t:Q1) (s:CS) (kind:Int):Bool :=
 if kind=5∨kind=11∨kind=14∨kind=22∨kind=23∨kind=24 then s.inEach
 else if kind=18∨kind=20 then ((t.at s.top).kind==34)&&!s.inEach&&!s.inHear
 else kind != 26
def J9 (k:Int):Int:=if Q9 k 1 4 then k else 0
def Q0h (s:CS) (n:Qc):Int×Int :=
 if n.kind=8 then
  (if (opK n.i (J9 (s.kindAt (kidAt n 0))) 0 (s.kindAt (kidAt n 1)) 0).2=2 then (J9 (s.kindAt (kidAt n 0)),0) else opK n.i (J9 (s.kindAt (kidAt n 0))) 0 (s.kindAt (kidAt n 1)) 0)
 else if n.kind=9 then J6 n.i (J9 (s.kindAt (kidAt n 0))) 0
 else if n.kind=10 then (if Z8 (J9 (s.kindAt (kidAt n 0))) 0 (s.kindAt (kidAt n 1)) 0 then (3,0) else (0,1))
 else (0,1)
def Yt (s:CS) (i:Int) (n:Qc):Int×CS:=((Q0h s n).1,if (Q0h s n).2=0 then s else s.fail 4 i)
def Yc (t:Q1) (i:Int):List Int→List Int→CS→CS
 |k::ks,p::ps,s=>Yc t i ks ps (Qq s k (t.at p).i i)
 |_,_,s=>s
def Q37 (t:Q1) (s:CS) (i:Int) (n:Qc):Int×CS :=
 let k:=Q2 t s.tops n.text
 if k<0∨(t.at k).kind≠33 then (0,s.fail 3 i)
 else if (t.at k).kids.length≠n.kids.length+1 then (0,s.fail 6 i)
 else ((t.at k).i,(Yc t i n.kids (t.at k).kids s).setBind i k)
def Zx (r:Reg) (t:Q1) (s:CS) (i:Int) (n:Qc):Int×CS :=
 if n.kind=1 then (1,s) else if n.kind=2 then (2,s) else if n.kind=3 then (4,s)
 else if n.kind=4 then (if Q2 t s.locals n.text<0 then (0,s.fail 3 i) else (s.kindAt (Q2 t s.locals n.text),s.setBind i (Q2 t s.locals n.text)))
 else if n.kind=5 then Qh r s n.text i
 else if n.kind=6 then J4 r s 2 n.text i
 else if n.kind=7 then Q37 t s i n
 else Yt s i n
def Qz (r:Reg) (t:Q1) (s:CS) (i:Int) (n:Qc):CS :=
 if n.kind=12 then (if 0≤Q2 t s.locals n.text then s.fail 2 i else (s.setKind i (s.kindAt (kidAt n 0))).addLocal i)
 else if n.kind=13 then (if Q2 t s.locals n.text<0 then s.fail 3 i else Qq (s.setBind i (Q2 t s.locals n.text)) (kidAt n 0) (s.kindAt (Q2 t s.locals n.text)) i)
 else if n.kind=14 then Qq (Qh r s n.text i).2 (kidAt n 0) (Qh r s n.text i).1 i
 else if n.kind=15 then Qq (J4 r s 2 n.text i).2 (kidAt n 0) (J4 r s 2 n.text i).1 i
 else if n.kind=19 then Qq (J4 r s 3 n.text i).2 (kidAt n 0) (J4 r s 3 n.text i).1 i
 else if n.kind=23 then Qq (J4 r s 1 n.text i).2 (kidAt n 0) (J4 r s 1 n.text i).1 i
 else if n.kind=24 then (J4 r s 1 n.text i).2
 else s
def Qa (W:CS→Int→CS) (s:CS) (l:List Int):CS:=l.foldl (fun s k=>if s.code=0 then W s k else s) s
def pickStep (r:Reg) (t:Q1) (i k1:Int) (s:CS) (k:Int):CS :=
 let c:=Qh r s (t.at k).text k
 let s1:=if k=k1 then c.2.setKind i c.1 else c.2
 if c.1=s1.kindAt i then s1 else s1.fail 4 k
def Q4v (r:Reg) (t:Q1) (W:CS→Int→CS) (s:CS) (i:Int) (n:Qc):CS :=
 (n.kids.drop 1).foldl (pickStep r t i (kidAt n 1)) (Qq (W s (kidAt n 0)) (kidAt n 0) 1 i)
def Q00 (W:CS→Int→CS) (s:CS) (i:Int) (n:Qc):CS :=
 Qa W (Qq (W s (kidAt n 0)) (kidAt n 0) (if n.kind=17 then 1 else 4) i) (n.kids.drop 1)
def eachL (r:Reg) (t:Q1):List Int→CS×List Int→CS×List Int
 |[],x=>x
 |k::ks,(s,all) =>
  let c:=r.find 1 (t.at k).text
  eachL r t ks (if c<0 then s.fail 3 k else if Z9 c all then s.fail 2 k else s,all++[c])
def Q3f (r:Reg) (t:Q1) (W:CS→Int→CS) (s:CS) (n:Qc):CS :=
 let a:=eachL r t (t.at (kidAt n 0)).kids (s,[])
 let b:=eachL r t (t.at (kidAt n 1)).kids a
 {Qa W {b.1 with withs:=a.2,inEach:=true} (n.kids.drop 2) with withs:=[],inEach:=false}
def Qy (t:Q1) (s:CS) (k:Int):CS:=if 0≤Q2 t s.locals (t.at k).text then s.fail 2 k else s
def Q3n (r:Reg) (t:Q1) (W:CS→Int→CS) (s:CS) (i:Int) (n:Qc):CS :=
 let k:=kidAt n 0
 let c:=J4 r s 3 n.text i
 let s1:=(Qy t (c.2.setKind k c.1) k).addLocal k
 let s2:=Qa W {s1 with inHear:=true} (n.kids.drop 1)
 {s2 with inHear:=false,locals:=s2.locals.dropLast}
def Xj (r:Reg) (t:Q1) (W:CS→Int→CS):List Int→List ByteArray→CS→CS
 |[],_,s=>s
 |k::ks,names,s =>
  let x:=t.at k
  let s1:=Qa W s x.kids
  if s1.code≠0 then s1 else
  let c:=J4 r s1 1 x.text k
  let s2:=if Z9 x.text names then c.2.fail 2 k else c.2
  Xj r t W ks (names++[x.text]) (Qq s2 (kidAt x 0) c.1 k)
def Jk (t:Q1) (s:CS) (k:Int):CS:=((Qy t s k).setKind k (t.at k).i).addLocal k
def Q31 (t:Q1) (body:List Int):Bool:=match body.getLast? with
 |none=>false
 |some l=>(t.at l).kind==26
def fnF (t:Q1) (W:CS→Int→CS) (s:CS) (i:Int) (n:Qc):CS :=
 let s1:=n.kids.dropLast.foldl (Jk t) s
 let body:=(t.at (n.kids.getLast?.getD 0)).kids
 if Q31 t body then
  let e:=kidAt (t.at (body.getLast?.getD 0)) 0
  Qq (Qa W (Qa W s1 body.dropLast) [e]) e n.i i
 else (Qa W s1 body).fail 5 i
def Q8 (r:Reg) (t:Q1):Nat→CS→Int→CS
 |0,s,_=>s
 |f+1,s,i =>
  let n:=t.at i
  let W:=Q8 r t f
  if Yl t s n.kind then
   if n.kind=33 then fnF t W s i n
   else if n.kind=34 then Qa W s n.kids
   else if n.kind=11 then Q4v r t W s i n
   else if n.kind=16∨n.kind=17 then Q00 W s i n
   else if n.kind=18 then Q3f r t W s n
   else if n.kind=20 then Q3n r t W s i n
   else if n.kind=21 then Xj r t W n.kids [] s
   else if n.kind=27 then {Qa W s n.kids with locals:=(Qa W s n.kids).locals.take s.locals.length}
   else
    let s1:=Qa W s n.kids
    if s1.code≠0 then s1
    else if Qs n.kind then (Zx r t s1 i n).2.setKind i (Zx r t s1 i n).1
    else Qz r t s1 i n
  else s.fail 5 i
def Yh (r:Reg) (t:Q1) (s:CS) (i:Int):CS :=
 let s1:=if 0≤Q2 t s.tops (t.at i).text then s.fail 2 i else s
 let s2:=Qa (Q8 r t t.nodes.length) {s1 with top:=i,locals:=[]} [i]
 {s2 with tops:=s2.tops++[i]}
def Z7 (t:Q1):CS:=⟨0,-1,List.replicate t.nodes.length 0,List.replicate t.nodes.length 0,[],[],0,[],false,false⟩
def Q0b (r:Reg) (t:Q1):CS:=t.tops.foldl (Yh r t) (Z7 t)
def Zf (r:Reg) (t:Q1):Int×Int:=if Q69 r&&Yi t then ((Q0b r t).code,(Q0b r t).node) else (1,-1)
namespace Qf
variable {S S':Nat→Prop} {e:TypeId} {w w':World} {v:Value} {xs:List Value}
theorem set (h:Qf S e w v xs) {b:Nat} (hv:v.ownBlock=some b) (i:Nat) (u:Value):Qf S e (w.setCell ⟨b,i,none⟩ u) v (xs.set i u):=by
 rcases h.1.2 with ⟨rfl,h0⟩|⟨g,cap,cur,rfl,hb,hh,hnc,hcm,hcs,ht⟩
 ·simp[Value.ownBlock] at hv
 ·have:g=b:=by simpa[Value.ownBlock] using hv
  subst this;refine⟨⟨by simp,.inr ⟨g,cap,cur.setIfInBounds i u,by simp,hb,?_,by simpa using hnc,hcm,by simpa using hcs,?_⟩⟩,h.2⟩
  ·simp only[World.setCell,Array.getElem?_modify,hh]
   simp
  ·simp only[Array.toList_setIfInBounds,List.take_set,List.length_set]
   rw[ht]
theorem take (h:Qf S e w v xs) {A:Option Addr} {c:Nat} (hv:v=.slice A xs.length c) (n:Nat) (hn:n≤xs.length):Qf S e w (.slice A n c) (xs.take n):=by
 subst hv;rcases h.1.2 with ⟨h0,hl⟩|⟨g,cap,cur,h0,hb,hh,hnc,hcm,hcs,ht⟩
 ·injection h0 with h1 h2 h3
  subst h1;subst h3;have:xs=[]:=List.eq_nil_of_length_eq_zero hl;subst this;have:n=0:=by simpa using hn
  subst this;exact⟨⟨by simp,.inl ⟨rfl,by simp⟩⟩,fun k hk=>by simp[Value.ownBlock] at hk⟩
 ·cases h0
  refine⟨⟨by simp,.inr ⟨g,c,cur,by simp[Nat.min_eq_left hn],hb,hh,by rw[List.length_take];omega,hcm,hcs,?_⟩⟩,fun k hk=>h.2 k (by simpa[Value.ownBlock] using hk)⟩
  have:=congrArg (List.take n) ht;rw[List.take_take] at this;simp only[Nat.mul_one] at this ⊢;rw[List.length_take];exact this
theorem ints {xs':List Int} (h:Qf S e w v (Q4 xs')) (hm:xs'.length≤140737488355328):Qi w v xs':=by
 obtain⟨A,b,c,hv,_,hlc,hA,hc⟩:=h.opened
 refine⟨A,b,0,c,by simpa[Q4] using hv,hm,by simpa[Q4] using hlc,fun h0=>(hA (by simpa[Q4] using h0)).1,fun j x hx=>?_⟩
 have:=(hc j (.int .i64 x) (by simp[Q4,hx])).1;simpa using this
end Qf
def sep (a b:Option Nat):Prop:=∀k,a=some k→b≠some k
def Qbk (ra ta:Addr) (s:CS) (kv bv lv tv wv:Value):List Value :=
 [.pointer (some ra),.pointer (some ta),.int .i64 s.code,.int .i64 s.node,kv,bv,lv,tv,.int .i64 s.top,wv,.bool s.inEach,.bool s.inHear]
structure J0 (S:Nat→Prop) (w:World) (cb:Nat) (ra ta:Addr) (s:CS) (kv bv lv tv wv:Value):Prop where
 blk:Blk w cb (Qbk ra ta s kv bv lv tv wv) 94
 inS:S cb
 k:Qf S 3 w kv (Q4 s.kinds)
 b:Qf S 3 w bv (Q4 s.bind)
 l:Qf S 3 w lv (Q4 s.locals)
 t:Qf S 3 w tv (Q4 s.tops)
 w:Qf S 3 w wv (Q4 s.withs)
 dis:[some cb,kv.ownBlock,bv.ownBlock,lv.ownBlock,tv.ownBlock,wv.ownBlock].Pairwise sep
def Chk (S:Nat→Prop) (w:World) (cb:Nat) (ra ta:Addr) (s:CS):Prop:=∃kv bv lv tv wv,J0 S w cb ra ta s kv bv lv tv wv
theorem Qf.below {S S':Nat→Prop} {e:TypeId} {w:World} {v:Value} {xs:List Value} (h:Qf S e w v xs) (hs:∀k,k<w.heap.size→S k→S' k):Qf S' e w v xs:=⟨h.1,fun k hk=>hs k (h.lt k hk) (h.2 k hk)⟩
namespace J0
variable {S S':Nat→Prop} {w w':World} {cb:Nat} {ra ta:Addr} {s s':CS} {kv bv lv tv wv:Value}
theorem mono (h:J0 S w cb ra ta s kv bv lv tv wv) (hs:∀k,k<w.heap.size→S k→S' k):J0 S' w cb ra ta s kv bv lv tv wv :=
 ⟨h.blk,hs cb h.blk.lt h.inS,h.k.below hs,h.b.below hs,h.l.below hs,h.t.below hs,h.w.below hs,h.dis⟩
theorem nobk (h:J0 S w cb ra ta s kv bv lv tv wv) (k:Q0 nob w w'):J0 S w' cb ra ta s kv bv lv tv wv :=
 ⟨h.blk.kept k id,h.inS,h.k.nobk k,h.b.nobk k,h.l.nobk k,h.t.nobk k,h.w.nobk k,h.dis⟩
theorem alloc (h:J0 S w cb ra ta s kv bv lv tv wv) (o:Obj):J0 S (w.alloc o) cb ra ta s kv bv lv tv wv:=h.nobk ((Kr _ _).alloc o)
theorem drew (h:J0 S w cb ra ta s kv bv lv tv wv):J0 S w.drew cb ra ta s kv bv lv tv wv:=h.nobk (Kr _ _).drew
theorem drewN (h:J0 S w cb ra ta s kv bv lv tv wv) (n:Nat):J0 S (w.drewN n) cb ra ta s kv bv lv tv wv:=h.nobk ((Kr _ _).drewN n)
theorem noCb (h:J0 S w cb ra ta s kv bv lv tv wv):kv.ownBlock≠some cb∧bv.ownBlock≠some cb∧lv.ownBlock≠some cb∧tv.ownBlock≠some cb∧wv.ownBlock≠some cb:=by
 have:=h.dis;simp only[List.pairwise_cons] at this;have h1:=this.1;exact⟨h1 _ (by simp) cb rfl,h1 _ (by simp) cb rfl,h1 _ (by simp) cb rfl,h1 _ (by simp) cb rfl,h1 _ (by simp) cb rfl⟩
theorem setc (h:J0 S w cb ra ta s kv bv lv tv wv) (i:Nat) (u:Value) (s':CS) (hcs:Qbk ra ta s' kv bv lv tv wv=(Qbk ra ta s kv bv lv tv wv).set i u)
  (hk:s'.kinds=s.kinds) (hb:s'.bind=s.bind) (hl:s'.locals=s.locals) (ht:s'.tops=s.tops) (hw:s'.withs=s.withs):J0 S (w.setCell ⟨cb,i,none⟩ u) cb ra ta s' kv bv lv tv wv:=by
 obtain⟨n1,n2,n3,n4,n5⟩:=h.noCb;refine⟨hcs▸h.blk.set i u,h.inS,?_,?_,?_,?_,?_,h.dis⟩
 ·rw[hk];exact h.k.other n1 u
 ·rw[hb];exact h.b.other n2 u
 ·rw[hl];exact h.l.other n3 u
 ·rw[ht];exact h.t.other n4 u
 ·rw[hw];exact h.w.other n5 u
theorem setCode (h:J0 S w cb ra ta s kv bv lv tv wv) (c:Int):J0 S (w.setCell ⟨cb,2,none⟩ (.int .i64 c)) cb ra ta {s with code:=c} kv bv lv tv wv:=h.setc 2 _ _ rfl rfl rfl rfl rfl rfl
theorem setNode (h:J0 S w cb ra ta s kv bv lv tv wv) (c:Int):J0 S (w.setCell ⟨cb,3,none⟩ (.int .i64 c)) cb ra ta {s with node:=c} kv bv lv tv wv:=h.setc 3 _ _ rfl rfl rfl rfl rfl rfl
theorem setTop (h:J0 S w cb ra ta s kv bv lv tv wv) (c:Int):J0 S (w.setCell ⟨cb,8,none⟩ (.int .i64 c)) cb ra ta {s with top:=c} kv bv lv tv wv:=h.setc 8 _ _ rfl rfl rfl rfl rfl rfl
theorem setEach (h:J0 S w cb ra ta s kv bv lv tv wv) (c:Bool):J0 S (w.setCell ⟨cb,10,none⟩ (.bool c)) cb ra ta {s with inEach:=c} kv bv lv tv wv:=h.setc 10 _ _ rfl rfl rfl rfl rfl rfl
theorem setHear (h:J0 S w cb ra ta s kv bv lv tv wv) (c:Bool):J0 S (w.setCell ⟨cb,11,none⟩ (.bool c)) cb ra ta {s with inHear:=c} kv bv lv tv wv:=h.setc 11 _ _ rfl rfl rfl rfl rfl rfl
theorem sepAll (h:J0 S w cb ra ta s kv bv lv tv wv):sep kv.ownBlock bv.ownBlock∧sep kv.ownBlock lv.ownBlock∧sep kv.ownBlock tv.ownBlock∧sep kv.ownBlock wv.ownBlock∧sep bv.ownBlock lv.ownBlock∧sep bv.ownBlock tv.ownBlock∧sep bv.ownBlock wv.ownBlock
  ∧sep lv.ownBlock tv.ownBlock∧sep lv.ownBlock wv.ownBlock∧sep tv.ownBlock wv.ownBlock:=by
 have:=h.dis;simp only[List.pairwise_cons,List.mem_cons,List.not_mem_nil,or_false,forall_eq_or_imp,forall_eq] at this;obtain⟨_,⟨a,b,c,d⟩,⟨e,f,g⟩,⟨p,q⟩,x,_⟩:=this;exact⟨a,b,c,d,e,f,g,p,q,x⟩
theorem sep_symm {a b:Option Nat} (h:sep a b):sep b a:=fun k hb ha=>h k ha hb
theorem setK (h:J0 S w cb ra ta s kv bv lv tv wv) {g:Nat} (hg:kv.ownBlock=some g) (i x:Int) (hi:0≤i):J0 S (w.setCell ⟨g,i.toNat,none⟩ (.int .i64 x)) cb ra ta (s.setKind i x) kv bv lv tv wv:=by
 obtain⟨n1,n2,n3,n4,n5⟩:=h.noCb;obtain⟨a,b,c,d,e,f,g',p,q,z⟩:=h.sepAll;refine⟨?_,h.inS,?_,h.b.other (p:=⟨g,i.toNat,none⟩) (a g hg) _,h.l.other (p:=⟨g,i.toNat,none⟩) (b g hg) _,h.t.other (p:=⟨g,i.toNat,none⟩) (c g hg) _,h.w.other (p:=⟨g,i.toNat,none⟩) (d g hg) _,h.dis⟩
 ·exact h.blk.other (fun e=>n1 (by rw[hg,e])) _
 ·have:=h.k.set hg i.toNat (.int .i64 x)
  rwa [show (Q4 s.kinds).set i.toNat (.int .i64 x)=Q4 (s.setKind i x).kinds from by simp[Q4,CS.setKind,List.map_set]] at this
theorem setB (h:J0 S w cb ra ta s kv bv lv tv wv) {g:Nat} (hg:bv.ownBlock=some g) (i x:Int) (hi:0≤i):J0 S (w.setCell ⟨g,i.toNat,none⟩ (.int .i64 x)) cb ra ta (s.setBind i x) kv bv lv tv wv:=by
 obtain⟨n1,n2,n3,n4,n5⟩:=h.noCb;obtain⟨a,b,c,d,e,f,g',p,q,z⟩:=h.sepAll;refine⟨?_,h.inS,h.k.other (p:=⟨g,i.toNat,none⟩) (sep_symm a g hg) _,?_,h.l.other (p:=⟨g,i.toNat,none⟩) (e g hg) _,h.t.other (p:=⟨g,i.toNat,none⟩) (f g hg) _,h.w.other (p:=⟨g,i.toNat,none⟩) (g' g hg) _,h.dis⟩
 ·exact h.blk.other (fun e=>n2 (by rw[hg,e])) _
 ·have:=h.b.set hg i.toNat (.int .i64 x)
  rwa [show (Q4 s.bind).set i.toNat (.int .i64 x)=Q4 (s.setBind i x).bind from by simp[Q4,CS.setBind,List.map_set]] at this
theorem swapL (h:J0 S w cb ra ta s kv bv lv tv wv) {w1:World} {u:Value} {l1:List Int} (hl:Qf S 3 w1 u (Q4 l1)) (hk:Q0 (fun k=>lv.ownBlock=some k) w w1)
  (hat:u.ownBlock=lv.ownBlock∨u.ownBlock=none∨∃b,u.ownBlock=some b∧w.heap.size≤b):J0 S (w1.setCell ⟨cb,6,none⟩ u) cb ra ta {s with locals:=l1} kv bv u tv wv:=by
 obtain⟨n1,n2,n3,n4,n5⟩:=h.noCb;obtain⟨a,b,c,d,e,f,g,p,q,z⟩:=h.sepAll
 have hcu:u.ownBlock≠some cb:=by
  rcases hat with hat|hat|⟨x,hat,hx⟩
  ·rw[hat];exact n3
  ·rw[hat];simp
  ·rw[hat];have:=h.blk.lt;simp;omega
 have o0:sep kv.ownBlock u.ownBlock:=by
  rcases hat with hat|hat|⟨x,hat,hx⟩
  ·rw[hat];exact b
  ·rw[hat];intro k _;simp
  ·rw[hat];intro k hk hc;have h1:=h.k.lt k hk;cases hc;omega
 have o1:sep bv.ownBlock u.ownBlock:=by
  rcases hat with hat|hat|⟨x,hat,hx⟩
  ·rw[hat];exact e
  ·rw[hat];intro k _;simp
  ·rw[hat];intro k hk hc;have h1:=h.b.lt k hk;cases hc;omega
 have o3:sep tv.ownBlock u.ownBlock:=by
  rcases hat with hat|hat|⟨x,hat,hx⟩
  ·rw[hat];exact (sep_symm p)
  ·rw[hat];intro k _;simp
  ·rw[hat];intro k hk hc;have h1:=h.t.lt k hk;cases hc;omega
 have o4:sep wv.ownBlock u.ownBlock:=by
  rcases hat with hat|hat|⟨x,hat,hx⟩
  ·rw[hat];exact (sep_symm q)
  ·rw[hat];intro k _;simp
  ·rw[hat];intro k hk hc;have h1:=h.w.lt k hk;cases hc;omega
 refine⟨?_,h.inS,(h.k.kept hk (fun k hk=>fun hv=>b k hk hv)).other (p:=⟨cb,6,none⟩) n1 _,(h.b.kept hk (fun k hk=>fun hv=>e k hk hv)).other (p:=⟨cb,6,none⟩) n2 _,hl.other (p:=⟨cb,6,none⟩) hcu _,(h.t.kept hk (fun k hk=>fun hv=>(sep_symm p) k hk hv)).other (p:=⟨cb,6,none⟩) n4 _,(h.w.kept hk (fun k hk=>fun hv=>(sep_symm q) k hk hv)).other (p:=⟨cb,6,none⟩) n5 _,?_⟩
 ·exact (h.blk.kept hk n3).set 6 u
 ·simp only[List.pairwise_cons,List.mem_cons,List.not_mem_nil,or_false,forall_eq_or_imp,forall_eq]
  have cbs:∀x:Option Nat,x≠some cb→sep (some cb) x:=fun x hx k hk hc=>hx (by cases hk;exact hc)
  exact⟨⟨cbs _ n1,cbs _ n2,cbs _ hcu,cbs _ n4,cbs _ n5⟩,⟨a,o0,c,d⟩,⟨o1,f,g⟩,⟨sep_symm o3,sep_symm o4⟩,z,fun _ h=>h.elim,List.Pairwise.nil⟩
theorem swapT (h:J0 S w cb ra ta s kv bv lv tv wv) {w1:World} {u:Value} {l1:List Int} (hl:Qf S 3 w1 u (Q4 l1)) (hk:Q0 (fun k=>tv.ownBlock=some k) w w1)
  (hat:u.ownBlock=tv.ownBlock∨u.ownBlock=none∨∃b,u.ownBlock=some b∧w.heap.size≤b):J0 S (w1.setCell ⟨cb,7,none⟩ u) cb ra ta {s with tops:=l1} kv bv lv u wv:=by
 obtain⟨n1,n2,n3,n4,n5⟩:=h.noCb;obtain⟨a,b,c,d,e,f,g,p,q,z⟩:=h.sepAll
 have hcu:u.ownBlock≠some cb:=by
  rcases hat with hat|hat|⟨x,hat,hx⟩
  ·rw[hat];exact n4
  ·rw[hat];simp
  ·rw[hat];have:=h.blk.lt;simp;omega
 have o0:sep kv.ownBlock u.ownBlock:=by
  rcases hat with hat|hat|⟨x,hat,hx⟩
  ·rw[hat];exact c
  ·rw[hat];intro k _;simp
  ·rw[hat];intro k hk hc;have h1:=h.k.lt k hk;cases hc;omega
 have o1:sep bv.ownBlock u.ownBlock:=by
  rcases hat with hat|hat|⟨x,hat,hx⟩
  ·rw[hat];exact f
  ·rw[hat];intro k _;simp
  ·rw[hat];intro k hk hc;have h1:=h.b.lt k hk;cases hc;omega
 have o2:sep lv.ownBlock u.ownBlock:=by
  rcases hat with hat|hat|⟨x,hat,hx⟩
  ·rw[hat];exact p
  ·rw[hat];intro k _;simp
  ·rw[hat];intro k hk hc;have h1:=h.l.lt k hk;cases hc;omega
 have o4:sep wv.ownBlock u.ownBlock:=by
  rcases hat with hat|hat|⟨x,hat,hx⟩
  ·rw[hat];exact (sep_symm z)
  ·rw[hat];intro k _;simp
  ·rw[hat];intro k hk hc;have h1:=h.w.lt k hk;cases hc;omega
 refine⟨?_,h.inS,(h.k.kept hk (fun k hk=>fun hv=>c k hk hv)).other (p:=⟨cb,7,none⟩) n1 _,(h.b.kept hk (fun k hk=>fun hv=>f k hk hv)).other (p:=⟨cb,7,none⟩) n2 _,(h.l.kept hk (fun k hk=>fun hv=>p k hk hv)).other (p:=⟨cb,7,none⟩) n3 _,hl.other (p:=⟨cb,7,none⟩) hcu _,(h.w.kept hk (fun k hk=>fun hv=>(sep_symm z) k hk hv)).other (p:=⟨cb,7,none⟩) n5 _,?_⟩
 ·exact (h.blk.kept hk n4).set 7 u
 ·simp only[List.pairwise_cons,List.mem_cons,List.not_mem_nil,or_false,forall_eq_or_imp,forall_eq]
  have cbs:∀x:Option Nat,x≠some cb→sep (some cb) x:=fun x hx k hk hc=>hx (by cases hk;exact hc)
  exact⟨⟨cbs _ n1,cbs _ n2,cbs _ n3,cbs _ hcu,cbs _ n5⟩,⟨a,b,o0,d⟩,⟨e,o1,g⟩,⟨o2,q⟩,sep_symm o4,fun _ h=>h.elim,List.Pairwise.nil⟩
theorem swapW (h:J0 S w cb ra ta s kv bv lv tv wv) {w1:World} {u:Value} {l1:List Int} (hl:Qf S 3 w1 u (Q4 l1)) (hk:Q0 (fun k=>wv.ownBlock=some k) w w1)
  (hat:u.ownBlock=wv.ownBlock∨u.ownBlock=none∨∃b,u.ownBlock=some b∧w.heap.size≤b):J0 S (w1.setCell ⟨cb,9,none⟩ u) cb ra ta {s with withs:=l1} kv bv lv tv u:=by
 obtain⟨n1,n2,n3,n4,n5⟩:=h.noCb;obtain⟨a,b,c,d,e,f,g,p,q,z⟩:=h.sepAll
 have hcu:u.ownBlock≠some cb:=by
  rcases hat with hat|hat|⟨x,hat,hx⟩
  ·rw[hat];exact n5
  ·rw[hat];simp
  ·rw[hat];have:=h.blk.lt;simp;omega
 have o0:sep kv.ownBlock u.ownBlock:=by
  rcases hat with hat|hat|⟨x,hat,hx⟩
  ·rw[hat];exact d
  ·rw[hat];intro k _;simp
  ·rw[hat];intro k hk hc;have h1:=h.k.lt k hk;cases hc;omega
 have o1:sep bv.ownBlock u.ownBlock:=by
  rcases hat with hat|hat|⟨x,hat,hx⟩
  ·rw[hat];exact g
  ·rw[hat];intro k _;simp
  ·rw[hat];intro k hk hc;have h1:=h.b.lt k hk;cases hc;omega
 have o2:sep lv.ownBlock u.ownBlock:=by
  rcases hat with hat|hat|⟨x,hat,hx⟩
  ·rw[hat];exact q
  ·rw[hat];intro k _;simp
  ·rw[hat];intro k hk hc;have h1:=h.l.lt k hk;cases hc;omega
 have o3:sep tv.ownBlock u.ownBlock:=by
  rcases hat with hat|hat|⟨x,hat,hx⟩
  ·rw[hat];exact z
  ·rw[hat];intro k _;simp
  ·rw[hat];intro k hk hc;have h1:=h.t.lt k hk;cases hc;omega
 refine⟨?_,h.inS,(h.k.kept hk (fun k hk=>fun hv=>d k hk hv)).other (p:=⟨cb,9,none⟩) n1 _,(h.b.kept hk (fun k hk=>fun hv=>g k hk hv)).other (p:=⟨cb,9,none⟩) n2 _,(h.l.kept hk (fun k hk=>fun hv=>q k hk hv)).other (p:=⟨cb,9,none⟩) n3 _,(h.t.kept hk (fun k hk=>fun hv=>z k hk hv)).other (p:=⟨cb,9,none⟩) n4 _,hl.other (p:=⟨cb,9,none⟩) hcu _,?_⟩
 ·exact (h.blk.kept hk n5).set 9 u
 ·simp only[List.pairwise_cons,List.mem_cons,List.not_mem_nil,or_false,forall_eq_or_imp,forall_eq]
  have cbs:∀x:Option Nat,x≠some cb→sep (some cb) x:=fun x hx k hk hc=>hx (by cases hk;exact hc)
  exact⟨⟨cbs _ n1,cbs _ n2,cbs _ n3,cbs _ n4,cbs _ hcu⟩,⟨a,b,c,o0⟩,⟨e,f,o1⟩,⟨p,o2⟩,o3,fun _ h=>h.elim,List.Pairwise.nil⟩
end J0
theorem Q0.cb {cb:Nat} {w0 w:World} (h:Q0 (fun k=>k=cb) w0 w) (i:Nat) (u:Value):Q0 (fun k=>k=cb) w0 (w.setCell ⟨cb,i,none⟩ u):=h.setCell (p:=⟨cb,i,none⟩) (Or.inl rfl) u
theorem Qf.openI {S:Nat→Prop} {w:World} {v:Value} {xs:List Int} (h:Qf S 3 w v (Q4 xs)) :
  ∃A g c,v=.slice A xs.length c∧xs.length≤9223372036854775807∧xs.length≤c∧(0<xs.length→A=some ⟨g,0,none⟩∧S g∧v.ownBlock=some g) ∧
   ∀j x,xs[j]?=some x→w.cell? ⟨g,j,none⟩=some (.int .i64 x)∧w.frozen? ⟨g,j,none⟩=false:=by
 obtain⟨A,b,c,hv,h1,h2,h3,h4⟩:=h.opened;exact⟨A,b,c,by simpa[Q4] using hv,by simpa[Q4] using h1,by simpa[Q4] using h2,by simpa[Q4] using h3,fun j x hx=>h4 j _ (by simp[Q4,hx])⟩
theorem CS.kindAt_of {s:CS} {j:Nat} {x:Int} (h:s.kinds[j]?=some x):s.kindAt (j:Int)=x:=by simp[CS.kindAt,h]
section
variable {S:Nat→Prop} {w:World} {cb rb ro tb to:Nat} {s:CS} {kv bv lv tv wv:Value}
def Q2t (S:Nat→Prop) (w:World) (cb:Nat) (ra ta:Addr) (s:CS) (kv bv lv tv wv:Value) (w':World):Prop:=J0 S w' cb ra ta s kv bv lv tv wv∧Q0 (fun k=>k=cb) w w'
theorem Zd {ra ta:Addr} (h:J0 S w cb ra ta s kv bv lv tv wv) (code node:Int) :
  Calls prog 92 #[.pointer (some ⟨cb,0,none⟩),.int .i64 code,.int .i64 node] w fun e w'=>e=.returned (.tuple #[])∧Q2t S w cb ra ta (s.fail code node) kv bv lv tv wv w':=by
 have c2:w.cell? ⟨cb,2,none⟩=some (.int .i64 s.code):=h.blk.cell 2 _ rfl;have c3:w.cell? ⟨cb,3,none⟩=some (.int .i64 s.node):=h.blk.cell 3 _ rfl;have q2:=h.blk.free 2;have q3:=h.blk.free 3;have H:=Hh h;clear h
 by_cases hc:s.code=0
 ·go_enter func92,ntmps92
  go_wp2;go_returns;refine⟨rfl,?_,((Kr _ _).cb _ _).cb _ _⟩;have:=(H.o.setCode code).setNode node;simpa[CS.fail,hc] using this
 ·go_enter func92,ntmps92
  go_wp2;go_returns;refine⟨rfl,?_,Kr _ _⟩;simpa[CS.fail,hc] using H.o
theorem Xq {ra ta:Addr} (h:J0 S w cb ra ta s kv bv lv tv wv) (kid kind node:Int) (h0:0≤kid) (h1:kid<s.kinds.length) :
  Calls prog 197 #[.pointer (some ⟨cb,0,none⟩),.int .i64 kid,.int .i64 kind,.int .i64 node] w fun e w'=>e=.returned (.tuple #[])∧Q2t S w cb ra ta (Qq s kid kind node) kv bv lv tv wv w':=by
 obtain⟨m,rfl⟩:=En h0;obtain⟨x,hx⟩:=Q3 (xs:=s.kinds) (j:=m) (by omega);have hxk:=CS.kindAt_of hx;have c4:w.cell? ⟨cb,4,none⟩=some kv:=h.blk.cell 4 _ rfl;obtain⟨A,g,c,hv,hl,hlc,hA,hc⟩:=h.k.openI;obtain⟨k0,k1⟩:=hc m x hx;obtain⟨rfl,_,_⟩:=hA (by omega);have H:=Hh h;have HX:=Hh hxk;clear h hc hx hxk;subst hv
 by_cases hk:x=kind
 ·have t1:(x != kind)=false:=by simp[hk]
  have HK:=Hh hk;clear hk;go_enter func197,ntmps197;go_wp2_with fail;go_returns;refine⟨rfl,?_,Kr _ _⟩;rw[Qq,HX.o,Ps HK.o];exact H.o
 ·have t1:(x != kind)=true:=by simp[hk]
  have HK:=Hh hk;clear hk;go_enter func197,ntmps197;go_wp2_with (go_at_call 92;refine (Zd H.o _ _).mono ?_;rintro e w1 ⟨rfl,hat⟩);go_returns;refine⟨rfl,?_⟩;rw[Qq,HX.o,Ng HK.o];exact hat
theorem Q2m {ta:Addr} (h:J0 S w cb ⟨rb,ro,none⟩ ta s kv bv lv tv wv) (r:Reg) (hr:Xy w rb ro r) (sort:Int) (name:ByteArray) (node:Int) :
  Calls prog 199 #[.pointer (some ⟨cb,0,none⟩),.int .i64 sort,.string name,.int .i64 node] w fun e w'=>e=.returned (.int .i64 (J4 r s sort name node).1)∧Q2t S w cb ⟨rb,ro,none⟩ ta (J4 r s sort name node).2 kv bv lv tv wv w':=by
 have H:=Hh h;have HR:=Hh hr;have c0:w.cell? ⟨cb,0,none⟩=some (.pointer (some ⟨rb,ro,none⟩)):=h.blk.cell 0 _ rfl;have HS0:Hi (∀W,Q0 nob w W→W.cell? ⟨cb,0,none⟩=some (.pointer (some ⟨rb,ro,none⟩))):=Hh fun W hk=>hk.cell (fun h=>h) c0
 clear h hr
 by_cases hk:r.find sort name<0
 ·have t1:decide (r.find sort name<0)=true:=by simpa using hk
  have HK:=Hh hk;clear hk;go_enter func199,ntmps199;go_wp2_with (first|(go_at_call 126;refine (Q54 rb ro r _ _ _ HR.o).mono ?_;rintro e w1 ⟨rfl,hk1⟩)|(go_at_call 92;refine (Zd (H.o.nobk hk1) _ _).mono ?_;rintro e w2 ⟨rfl,hat⟩));go_returns;rw[J4,Ps HK.o];exact⟨rfl,hat.1,(hk1.ofNob _).trans hat.2⟩
 ·have t1:decide (r.find sort name<0)=false:=by simpa using hk
  have HK:=Hh hk;clear hk;go_enter func199,ntmps199;go_wp2_with (first|(go_at_call 126;refine (Q54 rb ro r _ _ _ HR.o).mono ?_;rintro e w1 ⟨rfl,hk1⟩;have c1:=HS0.o w1 hk1)|(go_at_call 214;refine (Q86 rb ro r _ _ _ (HR.o.old hk1.old)).mono ?_;rintro e w2 ⟨rfl,rfl⟩));go_returns;rw[J4,Ng (by have:=HK.o;omega)];exact⟨rfl,H.o.nobk hk1,hk1.ofNob _⟩
theorem Q6v {ta:Addr} (h:J0 S w cb ⟨rb,ro,none⟩ ta s kv bv lv tv wv) (r:Reg) (hr:Xy w rb ro r) (hm:s.withs.length≤140737488355328) (name:ByteArray) (node:Int) :
  Calls prog 198 #[.pointer (some ⟨cb,0,none⟩),.string name,.int .i64 node] w fun e w'=>e=.returned (.int .i64 (Qh r s name node).1)∧Q2t S w cb ⟨rb,ro,none⟩ ta (Qh r s name node).2 kv bv lv tv wv w':=by
 have H:=Hh h;have HR:=Hh hr;have c0:w.cell? ⟨cb,0,none⟩=some (.pointer (some ⟨rb,ro,none⟩)):=h.blk.cell 0 _ rfl;have c9:w.cell? ⟨cb,9,none⟩=some wv:=h.blk.cell 9 _ rfl;have HS0:Hi (∀W,Q0 nob w W→W.cell? ⟨cb,0,none⟩=some (.pointer (some ⟨rb,ro,none⟩))∧W.cell? ⟨cb,9,none⟩=some wv):=Hh fun W hk=>⟨hk.cell (fun h=>h) c0,hk.cell (fun h=>h) c9⟩
 have HW:=Hh (h.w.ints hm);clear h hr
 by_cases hk:r.find 1 name<0
 ·have t1:decide (r.find 1 name<0)=true:=by simpa using hk
  have HK:=Hh hk;clear hk;go_enter func198,ntmps198;go_wp2_with (first|(go_at_call 126;refine (Q54 rb ro r _ _ _ HR.o).mono ?_;rintro e w1 ⟨rfl,hk1⟩;obtain⟨d0,d9⟩:=HS0.o w1 hk1)|(go_at_call 92;refine (Zd (H.o.nobk hk1) _ _).mono ?_;rintro e w2 ⟨rfl,hat⟩)|(go_at_call 78;refine (Zk _ s.withs _ _ (HW.o.old hk1.old)).mono ?_;rintro e w3 ⟨rfl,rfl⟩)|(go_at_call 214;refine (Q86 rb ro r _ _ _ (HR.o.old hk1.old)).mono ?_;rintro e w2 ⟨rfl,rfl⟩));go_returns;rw[Qh,Ps HK.o];exact⟨rfl,hat.1,(hk1.ofNob _).trans hat.2⟩
 ·have t1:decide (r.find 1 name<0)=false:=by simpa using hk
  have HK:=Hh hk;clear hk;cases t2:Z9 (r.find 1 name) s.withs with
  |false =>
   go_enter func198,ntmps198;go_wp2_with (first|(go_at_call 126;refine (Q54 rb ro r _ _ _ HR.o).mono ?_;rintro e w1 ⟨rfl,hk1⟩;obtain⟨d0,d9⟩:=HS0.o w1 hk1)|(go_at_call 92;refine (Zd (H.o.nobk hk1) _ _).mono ?_;rintro e w2 ⟨rfl,hat⟩)|(go_at_call 78;refine (Zk _ s.withs _ _ (HW.o.old hk1.old)).mono ?_;rintro e w3 ⟨rfl,rfl⟩)|(go_at_call 214;refine (Q86 rb ro r _ _ _ (HR.o.old hk1.old)).mono ?_;rintro e w2 ⟨rfl,rfl⟩));go_returns;rw[Qh,Ng (by have:=HK.o;omega),Ng (by rw[t2];simp)];exact⟨rfl,hat.1,(hk1.ofNob _).trans hat.2⟩
  |true =>
   go_enter func198,ntmps198;go_wp2_with (first|(go_at_call 126;refine (Q54 rb ro r _ _ _ HR.o).mono ?_;rintro e w1 ⟨rfl,hk1⟩;obtain⟨d0,d9⟩:=HS0.o w1 hk1)|(go_at_call 92;refine (Zd (H.o.nobk hk1) _ _).mono ?_;rintro e w2 ⟨rfl,hat⟩)|(go_at_call 78;refine (Zk _ s.withs _ _ (HW.o.old hk1.old)).mono ?_;rintro e w3 ⟨rfl,rfl⟩)|(go_at_call 214;refine (Q86 rb ro r _ _ _ (HR.o.old hk1.old)).mono ?_;rintro e w2 ⟨rfl,rfl⟩));go_returns;rw[Qh,Ng (by have:=HK.o;omega),Ps t2];exact⟨rfl,H.o.nobk hk1,hk1.ofNob _⟩
end
theorem Q66 {t:Q1} {l:List Int} {name:ByteArray} {j:Nat} {k:Int} (hj:l[j]?=some k) (hno:∀i x,i<j→l[i]?=some x→(t.at x).text≠name) (he:(t.at k).text=name):Q2 t l name=k:=by
 induction l generalizing j with
 |nil=>simp at hj
 |cons y ys ih =>
  cases j with
  |zero=>simp at hj;subst hj;simp[Q2,he]
  |succ j =>
   have h0:=hno 0 y (by omega) rfl;simp only[Q2,Ng h0];exact ih (j:=j) (by simpa using hj) (fun i x hi hx=>hno (i+1) x (by omega) (by simpa using hx))
theorem Q63 {t:Q1} {l:List Int} {name:ByteArray} (hno:∀i x,i<l.length→l[i]?=some x→(t.at x).text≠name):Q2 t l name = -1:=by
 induction l with
 |nil=>rfl
 |cons y ys ih =>
  have h0:=hno 0 y (by simp) rfl;simp only[Q2,Ng h0];exact ih (fun i x hi hx=>hno (i+1) x (by simp;omega) (by simpa using hx))
section
variable {S:Nat→Prop} {w:World} {cb tb to:Nat} {s:CS} {kv bv lv tv wv:Value}
theorem Q0a {ra:Addr} (h:J0 S w cb ra ⟨tb,to,none⟩ s kv bv lv tv wv) (t:Q1) (ht:J7 w tb to t) (hin:∀k∈s.locals,0≤k∧k<t.nodes.length) (name:ByteArray) :
  Calls prog 196 #[.pointer (some ⟨cb,0,none⟩),.string name] w fun e w'=>e=.returned (.int .i64 (Q2 t s.locals name))∧w=w':=by
 have c1:w.cell? ⟨cb,1,none⟩=some (.pointer (some ⟨tb,to,none⟩)):=h.blk.cell 1 _ rfl;have c6:w.cell? ⟨cb,6,none⟩=some lv:=h.blk.cell 6 _ rfl;have Qqj:=h.l.openI;obtain⟨A,g,c,hv,hl,hlc,hA,hc⟩:=Qqj;obtain⟨nv,tv2,n0,n1,hnv,_⟩:=ht;obtain⟨nA,nb,no,nc,rfl,hnl,Qom,hnA,hnc⟩:=hnv;have HC:=Hh hc;have HNC:=Hh hnc;have HL:=Hh hin;subst hv;clear hc hnc hin h;go_enter func196,ntmps196;go_wp2_with fail;go_loop [6,12] (fun u i=>∃j:Nat,j≤s.locals.length∧i=.int .i64 j∧Hi (∀i x,i<j→s.locals[i]?=some x→(t.at x).text≠name)) (fun _ i=>s.locals.length-(intOf i).toNat)
 case atStart=>exact⟨0,Nat.zero_le _,rfl,Hh fun i x hi _=>absurd hi (by omega)⟩
 case round =>
  obtain⟨j,hj,rfl,HNO⟩:=hrel
  by_cases hlt:j<s.locals.length
  ·obtain⟨x,hx⟩:=Q3 hlt
   have hxb:=HL.o x (Mg hx);obtain⟨m,rfl⟩:=En hxb.1;obtain⟨nd,hnd⟩:=Q3 (xs:=t.nodes) (j:=m) (by omega);obtain⟨e0,_⟩:=HC.o j _ hx;obtain⟨kx,_,e1,_⟩:=HNC.o m nd hnd;have hat:=Q1.at_of hnd;have HX:=Hh hx;have HAT:=Hh hat;obtain⟨rfl,_,_⟩:=hA (by omega);obtain rfl:=hnA (by omega);have hml:(m:Int)<t.nodes.length:=hxb.2;clear hx hnd hat hxb hA hnA;cases ty:(nd.text.toList==name.toList) with
   |true =>
    go_wp2_with fail;go_ret
    refine⟨Jn (Q66 HX.o (fun i x hi hx=>HNO.o i x hi hx) (by rw[HAT.o];exact Q0c ty)).symm,rfl⟩
   |false =>
    go_wp2_with fail;go_round
    case rel =>
     refine⟨j+1,by omega,by go_num,Hh fun i x hi hx=>?_⟩
     by_cases e:i=j
     ·subst e;rw[HX.o] at hx;cases hx;rw[HAT.o];exact Q1s ty
     ·exact HNO.o i x (by omega) hx
    case measure=>simp[intOf];omega
  ·go_wp2_with fail
   go_ret;obtain rfl:j=s.locals.length:=by omega
   exact⟨Jn (Q63 HNO.o).symm,rfl⟩
theorem Q3e {ra:Addr} (h:J0 S w cb ra ⟨tb,to,none⟩ s kv bv lv tv wv) (t:Q1) (ht:J7 w tb to t) (hin:∀k∈s.tops,0≤k∧k<t.nodes.length) (name:ByteArray) :
  Calls prog 91 #[.pointer (some ⟨cb,0,none⟩),.string name] w fun e w'=>e=.returned (.int .i64 (Q2 t s.tops name))∧w=w':=by
 have c1:w.cell? ⟨cb,1,none⟩=some (.pointer (some ⟨tb,to,none⟩)):=h.blk.cell 1 _ rfl;have c7:w.cell? ⟨cb,7,none⟩=some tv:=h.blk.cell 7 _ rfl;have Qqj:=h.t.openI;obtain⟨A,g,c,hv,hl,hlc,hA,hc⟩:=Qqj;obtain⟨nv,tv2,n0,n1,hnv,_⟩:=ht;obtain⟨nA,nb,no,nc,rfl,hnl,Qom,hnA,hnc⟩:=hnv;have HC:=Hh hc;have HNC:=Hh hnc;have HL:=Hh hin;subst hv;clear hc hnc hin h;go_enter func91,ntmps91;go_wp2_with fail;go_loop [6,12] (fun u i=>∃j:Nat,j≤s.tops.length∧i=.int .i64 j∧Hi (∀i x,i<j→s.tops[i]?=some x→(t.at x).text≠name)) (fun _ i=>s.tops.length-(intOf i).toNat)
 case atStart=>exact⟨0,Nat.zero_le _,rfl,Hh fun i x hi _=>absurd hi (by omega)⟩
 case round =>
  obtain⟨j,hj,rfl,HNO⟩:=hrel
  by_cases hlt:j<s.tops.length
  ·obtain⟨x,hx⟩:=Q3 hlt
   have hxb:=HL.o x (Mg hx);obtain⟨m,rfl⟩:=En hxb.1;obtain⟨nd,hnd⟩:=Q3 (xs:=t.nodes) (j:=m) (by omega);obtain⟨e0,_⟩:=HC.o j _ hx;obtain⟨kx,_,e1,_⟩:=HNC.o m nd hnd;have hat:=Q1.at_of hnd;have HX:=Hh hx;have HAT:=Hh hat;obtain⟨rfl,_,_⟩:=hA (by omega);obtain rfl:=hnA (by omega);have hml:(m:Int)<t.nodes.length:=hxb.2;clear hx hnd hat hxb hA hnA;cases ty:(nd.text.toList==name.toList) with
   |true =>
    go_wp2_with fail;go_ret
    refine⟨Jn (Q66 HX.o (fun i x hi hx=>HNO.o i x hi hx) (by rw[HAT.o];exact Q0c ty)).symm,rfl⟩
   |false =>
    go_wp2_with fail;go_round
    case rel =>
     refine⟨j+1,by omega,by go_num,Hh fun i x hi hx=>?_⟩
     by_cases e:i=j
     ·subst e;rw[HX.o] at hx;cases hx;rw[HAT.o];exact Q1s ty
     ·exact HNO.o i x (by omega) hx
    case measure=>simp[intOf];omega
  ·go_wp2_with fail
   go_ret;obtain rfl:j=s.tops.length:=by omega
   exact⟨Jn (Q63 HNO.o).symm,rfl⟩
end
end Go.Proofs.YtkgkafjachjafaaGreat
