/- Part 44 of y_holds; no condition. -/
import Derived.Laws.IdiomStrings
import Derived.Test.YtkgkafjachjafaaGreatY23
import Derived.Test.YtkgkafjachjafaaGreatY37
import Derived.Test.YtkgkafjachjafaaGreatY41
import Derived.Test.YtkgkafjachjafaaGreatY42
import Derived.Test.YtkgkafjachjafaaGreatY43
set_option linter.unusedVariables false
set_option maxHeartbeats 2000000
set_option maxRecDepth 100000
open Go Go.RowKit
namespace Go.Proofs.YtkgkafjachjafaaGreat
open Tryz
def Q58:Nat→Nat→ByteArray→ByteArray
 |0,_,out=>out
 |f+1,k,out=>if k=0 then out else Q58 f (k / 10) (⟨#[48+UInt8.ofNat (k % 10)]⟩++out)
def Q4s (k:Nat):ByteArray:=if k=0 then ⟨#[109,48]⟩ else ⟨#[109]⟩++Q58 19 k ⟨#[]⟩
theorem Qj5 (w:World) (q:Nat) (hq:q<256):(convert 163 9 (.slice (some ⟨w.heap.size,0,none⟩) 1 1)).run prog (w.alloc (.cells #[.int .u8 (q:Int)] 5 (0,0)))=.ok (.string ⟨#[UInt8.ofNat q]⟩) (w.alloc (.cells #[.int .u8 (q:Int)] 5 (0,0))):=by
 have h:=run_convert_bytes_back (P:=prog) (w.alloc (.cells #[.int .u8 (q:Int)] 5 (0,0))) 163 9 5 ⟨w.heap.size,0,none⟩ 1 [UInt8.ofNat q] Kf Kf Kf (fun j hj=>by
  have hj0:j=0:=by simp at hj;exact hj
  subst hj0;have:=(Blk.new w [.int .u8 (q:Int)] 5).cell 0 _ rfl;have e:(UInt8.ofNat q).toNat=q:=So
  simp only[List.getElem_cons_zero];rw[e];exact this)
 exact h
theorem Q7z (k:Nat) (w:World) (hk:k≤1000000000000000000) :
  Calls prog 81 #[.int .i64 (k:Int)] w fun e w'=>e=.returned (.string (Q4s k))∧Q0 nob w w':=by
 by_cases h0:k=0
 ·subst h0
  go_enter func81,ntmps81;go_wp2_with fail;go_ret;exact⟨rfl,Kr _ _⟩
 ·have t1:decide ((k:Int)≤0)=false:=Df Om
  have HX:Hi (Q4s k =⟨#[109]⟩++Q58 19 k ⟨#[]⟩):=Hh (by unfold Q4s;rw[Ng h0]);obtain⟨D,hD⟩:∃D,D=Q58 19 k ⟨#[]⟩:=⟨_,rfl⟩;have HD:Hi (D=Q58 19 k ⟨#[]⟩):=Hh hD;rw[HX.o,← hD];clear hD HX;go_enter func81,ntmps81;go_wp2_with fail;go_loopw [0,3] (fun a s wr=>∃(f q:Nat) (out:ByteArray),a=.int .i64 (q:Int)∧s=.string out∧Hi (D=Q58 f q out∧q<10 ^ f∧f≤19∧out.size≤19-f∧Q0 nob w wr)) (fun a _ _=>(intOf a).toNat)
  case atStart=>exact⟨19,k,⟨#[]⟩,rfl,rfl,Hh ⟨HD.o,Om,Nat.le_refl _,Nat.zero_le _,Kr _ _⟩⟩
  case round =>
   obtain⟨f,q,out,rfl,rfl,HR⟩:=hrel;obtain⟨wo,rfl⟩:∃wo:World,wo=wr:=⟨_,rfl⟩
   by_cases hq:q=0
   ·subst hq
    have HE:Hi (D=out∧out.size≤20):=Hh ⟨by rw[HR.o.1];cases f<;>rfl,by have:=HR.o.2.2.2.1;omega⟩;go_wp2_with fail
    case isTrue hs=>exfalso;have:=HE.o.2;have e:(⟨#[109]⟩: ByteArray).size=1:=rfl;omega
    go_returns;exact⟨by rw[HE.o.1];rfl,HR.o.2.2.2.2⟩
   ·have t2:decide (0<q)=true:=Dt Om
    have hc:=Qj5 wo (48+q % 10) Om;rw[show ((48+q % 10:Nat):Int)=48+(q:Int) % 10 by omega] at hc
    obtain⟨f',hf⟩:∃f',f=f'+1:=by
     cases f with
     |zero=>have:=HR.o.2.1;omega
     |succ f'=>exact⟨f',rfl⟩
    subst hf;have h19:q / 10<10 ^ f':=by have:=HR.o.2.1;rw[Nat.pow_succ] at this;omega
    have hw2:wrap64 ((q:Int) / 10)=((q / 10:Nat):Int):=by
     have:q<10 ^ 19:=Nat.lt_of_lt_of_le HR.o.2.1 (Nat.pow_le_pow_right Om HR.o.2.2.1);unfold wrap64;omega
    have HD2:Hi (D=Q58 f' (q / 10) (⟨#[48+UInt8.ofNat (q % 10)]⟩++out)):=Hh (by rw[HR.o.1];simp only[Q58];rw[Ng hq]);go_wp2_with fail
    case isTrue hs=>exfalso;have:=HR.o.2.2.2.1;have e:(⟨#[48+UInt8.ofNat (q % 10)]⟩: ByteArray).size=1:=rfl;omega
    go_roundw
    case rel=>exact⟨f',q / 10,_,by rw[hw2],rfl,Hh ⟨HD2.o,h19,by have:=HR.o.2.2.1;omega,by have:=HR.o.2.2.2.1;have:=HR.o.2.2.1;have e:(⟨#[48+UInt8.ofNat (q % 10)]⟩: ByteArray).size=1:=rfl;rw[ByteArray.size_append];omega,HR.o.2.2.2.2.alloc _⟩⟩
    case measure=>rw[hw2];simp[intOf];omega
theorem Y5.blk {S:Nat→Prop} {e:TypeId} {m n:Nat} {w:World} {v:Value} {xs:List Value} (h:Y5 S e m w v n xs) (hn:0<n) :
  ∃g cap,v=.slice (some ⟨g,0,none⟩) n cap∧S g∧g<w.heap.size∧(∀i x,xs[i]?=some x→w.cell? ⟨g,i,none⟩=some x∧w.frozen? ⟨g,i,none⟩=false):=by
 obtain⟨⟨hl,h1⟩,h2⟩:=h;rcases h1 with ⟨_,h0⟩|⟨g,cap,cur,rfl,hb,hh,hnc,hcm,hcs,ht⟩
 ·omega
 ·refine⟨g,cap,rfl,h2 g rfl,(Array.getElem?_eq_some_iff.1 hh).1,fun i x hx=>?_⟩
  have Qrs:cur[i]?=some x:=by
   rw[← ht,List.getElem?_take] at hx;simp at hx;exact hx.2
  exact⟨by simp[World.cell?,hh,Qrs],by simp[World.frozen?,hh]⟩
theorem Y5.put {S:Nat→Prop} {e:TypeId} {m n c g:Nat} {w:World} {xs:List Value} (h:Y5 S e m w (.slice (some ⟨g,0,none⟩) n c) n xs) {i:Nat} (hi:i<n*m) (u:Value) :
  Y5 S e m (w.setCell ⟨g,i,none⟩ u) (.slice (some ⟨g,0,none⟩) n c) n (xs.set i u):=by
 obtain⟨⟨hl,h1⟩,h2⟩:=h;refine⟨⟨by rw[List.length_set];exact hl,?_⟩,h2⟩;rcases h1 with ⟨h0,_⟩|⟨g',cap,cur,e0,hb,hh,hnc,hcm,hcs,ht⟩
 ·cases h0
 ·injection e0 with e1 _ e3
  injection e1 with e1
  injection e1 with e1 _ _
  subst e1;subst e3;have hB:Blk w g cur.toList e:=by simpa[Blk] using hh
  have hB2:=hB.set i u;have e5:(cur.toList.set i u).toArray=cur.setIfInBounds i u:=by rw[← Array.toList_setIfInBounds]
  refine .inr ⟨g,c,cur.setIfInBounds i u,rfl,hb,by rw[← e5];exact hB2,hnc,hcm,by simpa using hcs,?_⟩;rw[Array.toList_setIfInBounds,← ht,List.take_set]
theorem Q4p {S:Nat→Prop} (v:Value) (ds:List Zt) (k:Nat) (w:World) (h:Y5 S 128 2 w v ds.length (decls ds)) (hl:ds.length≤1048576) (hk:k≤100000000000000000) :
  Calls prog 46 #[v,.int .i64 (k:Int)] w fun e w'=>e=.returned (.int .i64 ((k+2*ds.length:Nat):Int))∧Q0 (own v) w w':=by
 obtain⟨A,cap,rfl⟩:=h.len;have HO:=Hh h;have hdl:=Q5s ds;have HDL:=Hh hdl;generalize decls ds=cs0 at *;clear h hdl;generalize hn:ds.length=n at *;obtain⟨R,hR⟩:∃R:Int,R=((k+2*n:Nat):Int):=⟨_,rfl⟩;have HRR:=Hh hR;rw[← hR];clear hn hR;go_enter func46,ntmps46;go_wp2_with fail;go_loopw [1,5] (fun m i wr=>∃(j q:Nat),j≤n∧i=.int .i64 j∧m=.int .i64 (q:Int)∧Hi (q=k+2*j∧Q0 (own (.slice A n cap)) w wr∧∃cs,Y5 S 128 2 wr (.slice A n cap) n cs)) (fun _ i _=>n-(intOf i).toNat)
 case atStart=>exact⟨0,k,Nat.zero_le _,rfl,rfl,Hh ⟨Om,Kr _ _,_,HO.o⟩⟩
 case round =>
  obtain⟨j,q,hj,rfl,rfl,HR⟩:=hrel;obtain⟨wo,rfl⟩:∃wo:World,wo=wr:=⟨_,rfl⟩
  by_cases hlt:j<n
  ·obtain⟨hq,hkw,cs,hcs⟩:=HR.o
   obtain⟨g,cap',eA,_⟩:=hcs.blk Om;obtain rfl:A=some ⟨g,0,none⟩:=by injection eA
   clear eA;have hjn:(j:Int)<(n:Int):=Om
   have hqb:q≤200000000000000000:=Om
   have hw1:IntKind.i64.wrap ((q:Int)+1)=(q:Int)+1:=by rw[IntKind.wrap_i64];omega
   have hw2:wrap64 ((q:Int)+1)=(q:Int)+1:=by unfold wrap64;omega
   have hw3:wrap64 ((q:Int)+1+1)=(q:Int)+1+1:=by unfold wrap64;omega
   have hcl:=hcs.1.1
   have HP:Hi (∀W,Q0 nob wo W→(∀i x,cs[i]?=some x→W.cell? ⟨g,i,none⟩=some x∧W.frozen? ⟨g,i,none⟩=false)∧Y5 S 128 2 W (.slice (some ⟨g,0,none⟩) n cap) n cs):=Hh fun W hW=>by
    have h1:=hcs.nobk hW;obtain⟨g',cap',e,_,_,h2⟩:=h1.blk Om;cases e;exact⟨h2,h1⟩
   obtain⟨y0,hy0⟩:=Q4 (xs:=cs) (j:=j*2) Om;obtain⟨y1,hy1⟩:=Q4 (xs:=cs) (j:=j*2+1) Om;have HY0:=Hh hy0;have HY1:=Hh hy1;have HQ:=Hh hq;have HKW:=Hh hkw;clear hcs hcl hy0 hy1 HR hkw hq;go_wp2_with (go_at_call 81;refine (Q7z q _ Om).mono ?_;rintro e w3 ⟨rfl,hk3⟩;obtain⟨s0,f0⟩:=(HP.o _ hk3).1 _ _ HY0.o;obtain⟨s1,f1⟩:=(HP.o _ hk3).1 _ _ HY1.o;have HK3:=Hh hk3;clear hk3);go_roundw
   case rel=>exact⟨j+1,q+2,Om,Gm,Gm,Hh ⟨by have:=HQ.o;omega,((HKW.o.trans (HK3.o.ofNob _)).setCell (p:=⟨g,j*2,none⟩) (.inl rfl) _).setCell (p:=⟨g,j*2+1,none⟩) (.inl rfl) _,_,((HP.o _ HK3.o).2.put Om _).put Om _⟩⟩
   case measure=>exact Me
  ·have hjn:¬ (j:Int)<(n:Int):=Om
   have HE:Hi ((q:Int)=R):=Hh (by have:=HR.o.1;rw[HRR.o];omega);go_wp2_with fail;go_returns;exact⟨by rw[← HE.o];rfl,HR.o.2.1⟩
theorem Q6i {x:Int} (h:0≤x∧x≤1000000000000000000):wrap64 x=x:=by unfold wrap64;omega
theorem Qnb {q:Nat} (h:q≤2000000000000000):q+1≤1000000000000000000∧IntKind.i64.wrap ((q:Int)+1)=(q:Int)+1∧wrap64 ((q:Int)+1)=(q:Int)+1∧wrap64 ((q:Int)+1+1)=(q:Int)+1+1∧wrap64 ((q:Int)+1+1+1)=(q:Int)+1+1+1∧(0≤(q:Int)+1+1+1∧(q:Int)+1+1+1≤1000000000000000000) :=
 ⟨Om,by rw[IntKind.wrap_i64];omega,Q6i Om,Q6i Om,Q6i Om,Om⟩
def mk1 (n:Qn) (k:Nat):Qn:=⟨(k:Int),Q4s (k+1),((k+2:Nat):Int),Yx n.kids.length ((k+3:Nat):Int)⟩
def Xn:List (Qn×Value)→Nat→List (Qn×Value)
 |[],_=>[]
 |p::l,k=>(mk1 p.1 k,p.2)::Xn l (k+3+p.1.kids.length)
def cnt:List (Qn×Value)→Nat
 |[]=>0
 |p::l=>3+p.1.kids.length+cnt l
theorem Qff (l:List (Qn×Value)) (k:Nat):(Xn l k).length=l.length:=by
 induction l generalizing k with
 |nil=>rfl
 |cons p l ih=>simp[Xn,ih]
theorem Qmo (a b:List (Qn×Value)):cnt (a++b)=cnt a+cnt b:=by
 induction a with
 |nil=>simp[cnt]
 |cons p a ih=>simp only[List.cons_append,cnt,ih];omega
theorem Qf7 (a b:List (Qn×Value)) (k:Nat):Xn (a++b) k=Xn a k++Xn b (k+cnt a):=by
 induction a generalizing k with
 |nil=>simp[Xn,cnt]
 |cons p a ih=>simp only[List.cons_append,Xn,cnt,ih];congr 3;omega
theorem Qkk {l:List (Qn×Value)} (h:∀p∈l,p.1.kids.length≤1048576):cnt l≤l.length*1048579:=by
 induction l with
 |nil=>simp[cnt]
 |cons p l ih =>
  have h1:=ih (fun q hq=>h q (List.mem_cons_of_mem _ hq));have h2:=h p (List.mem_cons_self ..);simp only[cnt,List.length_cons];omega
theorem Qdg {a b:List (Qn×Value)} {p:Qn×Value} {k q:Nat} (hq:q=k+cnt a):Xn (a++[p]) k++b=Xn a k++(mk1 p.1 q,p.2)::b:=by
 rw[Qf7,hq];simp[Xn]
namespace Zi
variable {S:Nat→Prop} {w w':World} {v kv:Value} {a b:List (Qn×Value)} {nd nd':Qn} {g n c:Nat}
theorem mid {p:Qn×Value} (hp:p∈a++(nd',kv)::b):p=(nd',kv)∨p∈a++(nd,kv)::b:=by
 rcases List.mem_append.1 hp with h|h
 ·exact .inr (List.mem_append_left _ h)
 ·rcases List.mem_cons.1 h with h|h
  ·exact .inl h
  ·exact .inr (List.mem_append_right _ (List.mem_cons_of_mem _ h))
theorem sepN (h:Zi S w v (a++(nd,kv)::b)):(a++(nd',kv)::b).Pairwise fun p q=>sep p.2.ownBlock q.2.ownBlock:=by
 have h1:=h.sep1;rw[List.pairwise_append,List.pairwise_cons] at h1 ⊢;obtain⟨h2,⟨h3,h4⟩,h5⟩:=h1
 refine⟨h2,⟨h3,h4⟩,fun x hx y hy=>?_⟩
 rcases List.mem_cons.1 hy with e|hy
 ·subst e;exact h5 x hx (nd,kv) (List.mem_cons_self ..)
 ·exact h5 x hx y (List.mem_cons_of_mem _ hy)
theorem here (nd:Qn):(nd,kv)∈a++(nd,kv)::b:=List.mem_append_right _ (List.mem_cons_self ..)
theorem put (h:Zi S w (.slice (some ⟨g,0,none⟩) n c) (a++(nd,kv)::b)) (hk:nd'.kids=nd.kids) {q:Nat} (hq:q<4) {u:Value} (hc:(Q38 nd kv).set q u=Q38 nd' kv) {i:Nat} (hi:i=a.length*4+q) :
  Zi S (w.setCell ⟨g,i,none⟩ u) (.slice (some ⟨g,0,none⟩) n c) (a++(nd',kv)::b):=by
 subst hi;have hK:Q0 (own (.slice (some ⟨g,0,none⟩) n c)) w (w.setCell ⟨g,a.length*4+q,none⟩ u):=(Kr (own (.slice (some ⟨g,0,none⟩) n c)) w).setCell (p:=⟨g,a.length*4+q,none⟩) (.inl rfl) u;have Qwq:∀p∈a++(nd,kv)::b,Qc S 3 (w.setCell ⟨g,a.length*4+q,none⟩ u) p.2 (Q5 p.1.kids):=fun p hp=>(h.kid p hp).kept hK (fun x hx hx2=>h.sep0 p hp x hx2 hx)
 refine⟨?_,fun p hp=>?_,fun p hp=>?_,h.sepN⟩
 ·obtain⟨A,c',e⟩:=h.row.len
  injection e with _ e2 _
  subst e2;have h1:=h.row.put (i:=a.length*4+q) So u
  have e3:(Q0h (a++(nd,kv)::b)).set (a.length*4+q) u=Q0h (a++(nd',kv)::b):=by
   rw[← Q48,← Q48,List.set_append_right _ _ (by rw[Qb5];omega),Qb5,Nat.add_sub_cancel_left]
   show Q0h a++(Q38 nd kv++Q0h b).set q u=Q0h a++(Q38 nd' kv++Q0h b)
   rw[List.set_append_left _ _ (by show q<4;exact hq),hc]
  rw[e3] at h1;have e4:(a++(nd',kv)::b).length=(a++(nd,kv)::b).length:=Sm
  rw[e4];exact h1
 ·rcases mid (nd:=nd) hp with rfl|hp
  ·have:=Qwq _ (here nd)
   dsimp only at this ⊢;rw[hk];exact this
  ·exact Qwq p hp
 ·rcases mid (nd:=nd) hp with rfl|hp
  ·exact h.sep0 (nd,kv) (here nd)
  ·exact h.sep0 p hp
theorem putKids (h:Zi S w v (a++(nd,kv)::b)) (hc:Q38 nd' kv=Q38 nd kv) (ho:Qc S 3 w' kv (Q5 nd'.kids)) (hk:Q0 (own kv) w w'):Zi S w' v (a++(nd',kv)::b):=by
 have h1:=h.sep1;rw[List.pairwise_append,List.pairwise_cons] at h1;obtain⟨h2,⟨h3,h4⟩,h5⟩:=h1
 refine⟨?_,fun p hp=>?_,fun p hp=>?_,h.sepN⟩
 ·have h6:=h.row.kept hk (fun x hx hx2=>h.sep0 _ (here nd) x hx hx2)
  have e3:Q0h (a++(nd',kv)::b)=Q0h (a++(nd,kv)::b):=by
   rw[← Q48,← Q48]
   show Q0h a++(Q38 nd' kv++Q0h b)=Q0h a++(Q38 nd kv++Q0h b)
   rw[hc]
  have e4:(a++(nd',kv)::b).length=(a++(nd,kv)::b).length:=Sm
  rw[e3,e4];exact h6
 ·rcases List.mem_append.1 hp with hp|hp
  ·exact (h.kid p (List.mem_append_left _ hp)).kept hk (fun x hx hx2=>h5 p hp _ (List.mem_cons_self ..) x hx hx2)
  ·rcases List.mem_cons.1 hp with rfl|hp
   ·exact ho
   ·exact (h.kid p (List.mem_append_right _ (List.mem_cons_of_mem _ hp))).kept hk (fun x hx hx2=>h3 p hp x hx2 hx)
 ·rcases mid (nd:=nd) hp with rfl|hp
  ·exact h.sep0 (nd,kv) (here nd)
  ·exact h.sep0 p hp
theorem cells (h:Zi S w (.slice (some ⟨g,0,none⟩) n c) (a++(nd,kv)::b)) {j:Nat} (hj:a.length=j) :
  (w.cell? ⟨g,j*4,none⟩=some (.int .i64 nd.kind)∧w.frozen? ⟨g,j*4,none⟩=false)∧(w.cell? ⟨g,j*4+1,none⟩=some (.string nd.text)∧w.frozen? ⟨g,j*4+1,none⟩=false) ∧
  (w.cell? ⟨g,j*4+2,none⟩=some (.int .i64 nd.i)∧w.frozen? ⟨g,j*4+2,none⟩=false)∧w.cell? ⟨g,j*4+3,none⟩=some kv:=by
 subst hj;obtain⟨g',c',e,_,_,h1⟩:=h.row.blk So;cases e;have hg:=fun k (hk:k<4)=>Q4x (f:=fun p:Qn×Value=>Q38 p.1 p.2) (m:=4) (fun _=>rfl) (l:=a++(nd,kv)::b) (i:=a.length) (x:=(nd,kv)) Sm hk
 exact⟨h1 _ _ (hg 0 Om),h1 _ _ (hg 1 Om),h1 _ _ (hg 2 Om),(h1 _ _ (hg 3 Om)).1⟩
end Zi
theorem Qcb {S:Nat→Prop} (v:Value) (l:List (Qn×Value)) (k:Nat) (w:World) (h:Zi S w v l) (hl:l.length≤100000000) (hkl:∀p∈l,p.1.kids.length≤1048576) (hk:k≤1000000000000000) :
  Calls prog 47 #[v,.int .i64 (k:Int)] w fun e w'=>e=.returned (.int .i64 ((k+cnt l:Nat):Int))∧Zi S w' v (Xn l k)∧Q0 S w w':=by
 obtain⟨A,cap,rfl⟩:=h.row.len;have HO:=Hh h;have HKL:=Hh hkl;clear h hkl;obtain⟨n,hn⟩:∃n,n=l.length:=⟨_,rfl⟩;rw[← hn] at hl ⊢;rw[← hn] at HO;have HNL:=Hh hn;clear hn;obtain⟨R,hR⟩:∃R:Int,R=((k+cnt l:Nat):Int):=⟨_,rfl⟩;have HRR:=Hh hR;rw[← hR];clear hR;go_enter func47,ntmps47;go_wp2_with fail;go_loopw [1,5] (fun m i wr=>∃(j q:Nat),j≤n∧i=.int .i64 j∧m=.int .i64 (q:Int)∧Hi (∃a b,l=a++b∧a.length=j∧q=k+cnt a∧Q0 S w wr∧Zi S wr (.slice A n cap) (Xn a k++b))) (fun _ i _=>n-(intOf i).toNat)
 case atStart=>exact⟨0,k,Nat.zero_le _,rfl,rfl,Hh ⟨[],l,rfl,rfl,rfl,Kr _ _,HO.o⟩⟩
 case round =>
  obtain⟨j,q,hj,rfl,rfl,HR⟩:=hrel;obtain⟨wo,rfl⟩:∃wo:World,wo=wr:=⟨_,rfl⟩
  by_cases hlt:j<n
  ·obtain⟨a,b,hab,haj,hq,hkw,hon⟩:=HR.o
   match b,hab,hon with
   |[],hab,_=>exfalso;have:=HNL.o;rw[hab] at this;simp at this;omega
   |(nd,kv)::b,hab,hon =>
   obtain⟨g,cap',eA,hSg,_⟩:=hon.row.blk So;obtain rfl:A=some ⟨g,0,none⟩:=by injection eA
   clear eA;have hjn:(j:Int)<(n:Int):=Om
   have hal:∀p∈a,p.1.kids.length≤1048576:=fun p hp=>HKL.o p (by rw[hab];exact List.mem_append_left _ hp)
   have hkd:nd.kids.length≤1048576:=HKL.o (nd,kv) (by rw[hab];exact Zi.here nd);have hqb:q≤2000000000000000:=by have:=Qkk hal;omega
   have Qtc:(Xn a k).length=j:=by rw[Qff];exact haj
   obtain⟨hq1,hw1,hw2,hw3,hw4,hq3⟩:=Qnb hqb;obtain⟨⟨s0,f0⟩,_⟩:=hon.cells Qtc;have HQ3:=Hh hq3;have HAB:=Hh hab;have HAJ:=Hh haj;have Qsr:=Hh Qtc;have HQ:=Hh hq;have HKD:=Hh hkd;have HN1:Hi (Zi S (wo.setCell ⟨g,j*4,none⟩ (.int .i64 (q:Int))) (.slice (some ⟨g,0,none⟩) n cap) (Xn a k++(⟨(q:Int),nd.text,nd.i,nd.kids⟩,kv)::b)):=Hh (hon.put (a:=Xn a k) (nd':=⟨(q:Int),nd.text,nd.i,nd.kids⟩) (q:=0) (i:=j*4) rfl Om rfl (by rw[Qtc];rfl));have HK1:Hi (Q0 S w (wo.setCell ⟨g,j*4,none⟩ (.int .i64 (q:Int)))):=Hh (hkw.setCell (p:=⟨g,j*4,none⟩) (.inl hSg) _)
   have HMT:Hi (∀W,Calls prog 81 #[.int .i64 ((q:Int)+1)] W fun e w'=>e=.returned (.string (Q4s (q+1)))∧Q0 nob W w'):=Hh fun W=>by
    have:=Q7z (q+1) W hq1;push_cast at this;exact this
   have HSG:=Hh hSg;clear hab haj Qtc hq hal hkd hon hkw HR hSg hq1 hq3;go_upto_region 5 with fail
   generalize wo.setCell ⟨g,j*4,none⟩ (.int .i64 (q:Int))=W1 at *;clear s0 f0;go_upto_region 7 with (go_at_call 81;refine (HMT.o _).mono ?_;rintro e w2 ⟨rfl,hk2⟩;obtain⟨_,⟨s1,f1⟩,_⟩:=(HN1.o.nobk hk2).cells Qsr.o;have HK2:=Hh hk2;clear hk2)
   have HN2:Hi (Zi S (w2.setCell ⟨g,j*4+1,none⟩ (.string (Q4s (q+1)))) (.slice (some ⟨g,0,none⟩) n cap) (Xn a k++(⟨(q:Int),Q4s (q+1),nd.i,nd.kids⟩,kv)::b)):=Hh ((HN1.o.nobk HK2.o).put (a:=Xn a k) (nd':=⟨(q:Int),Q4s (q+1),nd.i,nd.kids⟩) (q:=1) (i:=j*4+1) rfl Om rfl (by rw[Qsr.o]));have HK3:Hi (Q0 S w (w2.setCell ⟨g,j*4+1,none⟩ (.string (Q4s (q+1))))):=Hh ((HK1.o.trans (HK2.o.ofNob _)).setCell (p:=⟨g,j*4+1,none⟩) (.inl HSG.o) _);generalize w2.setCell ⟨g,j*4+1,none⟩ (.string (Q4s (q+1)))=W2 at *;clear s1 f1 HK2 HN1 HK1;obtain⟨_,_,⟨s2,f2⟩,_⟩:=HN2.o.cells Qsr.o;go_upto_region 9 with fail
   have HN3:Hi (Zi S (W2.setCell ⟨g,j*4+2,none⟩ (.int .i64 ((q:Int)+1+1))) (.slice (some ⟨g,0,none⟩) n cap) (Xn a k++(⟨(q:Int),Q4s (q+1),(q:Int)+1+1,nd.kids⟩,kv)::b)):=Hh (HN2.o.put (a:=Xn a k) (nd':=⟨(q:Int),Q4s (q+1),(q:Int)+1+1,nd.kids⟩) (q:=2) (i:=j*4+2) rfl Om rfl (by rw[Qsr.o]));have HK4:Hi (Q0 S w (W2.setCell ⟨g,j*4+2,none⟩ (.int .i64 ((q:Int)+1+1)))):=Hh (HK3.o.setCell (p:=⟨g,j*4+2,none⟩) (.inl HSG.o) _);generalize W2.setCell ⟨g,j*4+2,none⟩ (.int .i64 ((q:Int)+1+1))=W3 at *;clear s2 f2 HN2 HK3;obtain⟨_,_,_,s3⟩:=HN3.o.cells Qsr.o;go_wp2_with (go_at_call 48;refine (Q57 (HN3.o.kid _ (Zi.here _)) (Nat.le_trans HKD.o Dc) HQ3.o).mono ?_;rintro e w4 ⟨rfl,ho4,hk4⟩;dsimp only at ho4 hk4 ⊢;have HO4:=Hh ho4;have HK5:=Hh hk4;clear ho4 hk4);go_roundw
   case rel=>exact⟨j+1,q+3+nd.kids.length,Om,Gm,by first|(congr 1;done)|(congr 1;push_cast;omega),Hh ⟨a++[(nd,kv)],b,by rw[HAB.o];simp,by rw[List.length_append,HAJ.o];rfl,by rw[HQ.o,Qmo];simp[cnt];omega,HK4.o.then_ HK5.o (fun x hx=>.inl ((HN3.o.kid _ (Zi.here _)).2 x hx)),by
    rw[Qdg HQ.o];exact HN3.o.putKids (nd':=mk1 nd q) (by simp[mk1,Q38];omega) (by show Qc S 3 w4 kv (Q5 (Yx nd.kids.length ((q+3:Nat):Int)));rw[show ((q+3:Nat):Int)=(q:Int)+1+1+1 by omega];exact HO4.o) HK5.o⟩⟩
   case measure=>exact Me
  ·have hjn:¬ (j:Int)<(n:Int):=Om
   obtain⟨a,b,hab,haj,hq,hkw,hon⟩:=HR.o
   have hb:b=[]:=by
    have:=HNL.o;rw[hab,List.length_append] at this;exact List.eq_nil_of_length_eq_zero Om
   subst hb;rw[List.append_nil] at hab hon;subst hab;have HE:Hi ((q:Int)=R):=Hh (by rw[HRR.o,hq]);have HON:=Hh hon;have HKW:=Hh hkw;clear hon hkw HR hq;go_wp2_with fail;go_returns;exact⟨by rw[← HE.o];rfl,HON.o,HKW.o⟩
theorem Qk6 {r:Reg} {l:Int} (hl:0≤l∧l≤1048576) (h:0≤szR r l):(r.comps.length≤1048576∧r.ress.length≤1048576∧r.evts.length≤1048576)∧(∀d,d∈r.comps∨d∈r.ress∨d∈r.evts→d.name.size≤1048576)∧szR r l≤l:=by
 unfold szR at h ⊢;have h1:=Q1x Q5h r.comps l hl.1
 by_cases c1:J9 szD r.comps l<0
 ·rw[Ps c1] at h;omega
 ·rw[Ng c1] at h ⊢
  have h2:=Q1x Q5h r.ress (J9 szD r.comps l) Om
  by_cases c2:J9 szD r.ress (J9 szD r.comps l)<0
  ·rw[Ps c2] at h;omega
  ·rw[Ng c2] at h ⊢
   have h3:=Q1x Q5h r.evts (J9 szD r.ress (J9 szD r.comps l)) Om;have r1:=Q9o hl (by omega:0≤J9 szD r.comps l);have r2:=Q9o (l:=J9 szD r.comps l) Om (by omega:0≤J9 szD r.ress (J9 szD r.comps l));have r3:=Q9o (l:=J9 szD r.ress (J9 szD r.comps l)) Om h
   refine⟨⟨r1.1,r2.1,r3.1⟩,fun d hd=>?_,Om⟩
   rcases hd with hd|hd|hd
   ·exact r1.2 d hd
   ·exact r2.2 d hd
   ·exact r3.2 d hd
theorem Qjj {t:Q1} {l:Int} (hl:0≤l∧l≤1048576) (h:0≤szT t l):(t.nodes.length≤1048576∧t.tops.length≤1048576)∧∀n∈t.nodes,n.text.size≤1048576∧n.kids.length≤1048576:=by
 unfold szT at h;have h1:=Q1x Qcc t.nodes l hl.1
 by_cases c1:J9 szN t.nodes l<0
 ·rw[Ps c1] at h;omega
 ·rw[Ng c1] at h
  have r1:=Ql8 hl (by omega:0≤J9 szN t.nodes l);have r2:=(Q1l t.tops.length (J9 szN t.nodes l) Om Om).2.2 h;exact⟨⟨r1.1,Om⟩,r1.2⟩
theorem Qlj {t:Q1} (h:∀n∈t.nodes,n.text.size≤1048576∧n.kids.length≤1048576):Z1 t:=by
 intro i
 by_cases hi:i.toNat<t.nodes.length
 ·obtain⟨n,hn⟩:=Q4 hi
  have e:t.at i=n:=by simp[Q1.at,hn]
  rw[e];exact (h n (Mg hn)).2
 ·have e:t.at i=Qfc:=by simp[Q1.at,List.getElem?_eq_none (Nat.le_of_not_lt hi)]
  rw[e];show (0:Nat)≤_;omega
theorem Za (v:Value) (ds:List Zt) (s:ByteArray) (w:World) (hv:Ji w v ds) :
  Calls prog 100 #[v,.string s] w fun e w'=>e=.returned (.int .i64 (Qa ds s))∧w=w':=by
 obtain⟨A,b,o,c,rfl,hn,_,hA,hc⟩:=hv;have HC:=Hh hc;clear hc;obtain⟨R,hR⟩:∃R,R=Qa ds s:=⟨_,rfl⟩;have HR:=Hh hR;rw[← hR];clear hR;go_enter func100,ntmps100;go_wp2_with fail;go_loop [5] (fun i=>∃j:Nat,j≤ds.length∧i=.int .i64 j∧Hi (Q2t ds s j)) (fun i=>ds.length-(intOf i).toNat)
 case atStart=>exact⟨0,Nat.zero_le _,rfl,Hh (fun i d hi=>absurd hi (Nat.not_lt_zero _))⟩
 case round =>
  obtain⟨j,hj,rfl,HN⟩:=hrel
  by_cases hlt:j<ds.length
  ·obtain⟨x,hx⟩:=Q4 hlt
   obtain⟨c0,_⟩:=HC.o j x hx;obtain rfl:=hA Om;have hjn:(j:Int)<(ds.length:Int):=Om
   have HX:=Hh hx;clear hx;cases ty:(x.name.toList==s.toList) with
   |true =>
    have HE:Hi ((j:Int)=R):=Hh (by rw[HR.o,Q5g HN.o HX.o (Q04 ty)]);go_wp2_with fail;go_ret;exact⟨by rw[← HE.o];rfl,rfl⟩
   |false =>
    have HE:=Hh (Q1p ty);go_wp2_with fail;go_round
    case rel=>exact⟨j+1,Om,Gm,Hh (Q3j HN.o HX.o HE.o)⟩
    case measure=>exact Me
  ·have hjn:¬ (j:Int)<(ds.length:Int):=Om
   obtain rfl:j=ds.length:=Om
   have HE:Hi ((-1:Int)=R):=Hh (by rw[HR.o,Q49 HN.o]);go_wp2_with fail;go_ret;exact⟨by rw[← HE.o];rfl,rfl⟩
theorem Q0w (xs:List Int):∀u∈Q5 xs,u.oneCell'=true:=by
 intro u hu;simp only[Q5,List.mem_map] at hu;obtain⟨x,_,rfl⟩:=hu;rfl
theorem Q1v {w:World} {b q:Nat} {xs:List Int} (h:∀j x,xs[j]?=some x→w.cell? ⟨b,q+j,none⟩=some (.int .i64 x)):∀j u,(Q5 xs)[j]?=some u→w.cell? ⟨b,q+j,none⟩=some u:=by
 intro j u hj;simp only[Q5,List.getElem?_map,Option.map_eq_some_iff] at hj;obtain⟨x,hx,rfl⟩:=hj;exact h j x hx
theorem Qcp (v:Value) (xs:List Int) (w:World) (hv:Qf w v xs) (hl:xs.length≤17000000000000) :
  Calls prog 178 #[v] w fun e w'=>∃v',e=.returned v'∧Qc (Q6 w.heap.size) 3 w' v' (Q5 xs)∧Q0 nob w w':=by
 obtain⟨A,b,o,c,rfl,_,_,hA,hc⟩:=hv;have HA:=Hh hA;have HC:=Hh hc;clear hA hc;go_enter func178,ntmps178;go_wp2_with (at_builtin;refine Yw rfl (fun K hK=>?_);refine Xf (Q6 w.heap.size) _ _ 26 3 (.int .i64 0) 8 rfl underlying26 Kf rfl (.slice none 0 0) [] (Q5 xs) rfl A b o _ c rfl (Q2 _).symm (fun h0=>HA.o (by rw[Q2] at h0;exact h0)) (Q1v fun j x hx=>HC.o j x hx) (Q0w _) (Qc.nil _ _ _) (fun k hk=>hk) (by rw[Q2];simp;omega) (by rw[Q2];simp;omega) ?_;intro v1 w1 ho1 hk1;refine hK _ _ ?_;clear hK;have HO1:=Hh ho1;have HK1:=Hh (hk1.mono (S':=nob) (fun k _ h=>by cases h));clear ho1 hk1);go_ret;exact⟨_,rfl,by have:=HO1.o;rwa [List.nil_append] at this,HK1.o⟩
theorem Qml (v u:Value) (xs ys:List Int) (w:World) (hv:Qf w v xs) (hu:Qf w u ys) (hl:xs.length+ys.length≤17000000000000) :
  Calls prog 130 #[v,u] w fun e w'=>∃v',e=.returned v'∧Qc (Q6 w.heap.size) 3 w' v' (Q5 (Lib.compact (X3 (xs++ys))))∧Q0 nob w w':=by
 have hu':=hu;obtain⟨A,b,o,c,rfl,_,_,hA,hc⟩:=hu;have HA:=Hh hA;have HC:=Hh hc;have HV:=Hh hv;clear hA hc hv hu';go_enter func130,ntmps130;go_wp2_with (first|(go_at_call 178;refine (Qcp _ xs _ HV.o Om).mono ?_;rintro e w1 ⟨v1,rfl,ho,hk⟩;have HO1:=Hh ho;have HK1:=Hh hk;clear ho hk)|(at_builtin;refine Yw rfl (fun K hK=>?_);refine Xf (Q6 w.heap.size) _ _ 26 3 (.int .i64 0) 8 rfl underlying26 Kf rfl v1 (Q5 xs) (Q5 ys) rfl A b o _ c rfl (Q2 _).symm (fun h0=>HA.o (by rw[Q2] at h0;exact h0)) (Q1v fun j x hx=>HK1.o.cell id (HC.o j x hx)) (Q0w _) HO1.o (fun k hk=>Nat.le_trans HK1.o.size hk) (by rw[Q2,Q2];omega) (by rw[Q2,Q2];omega) ?_;intro v2 w2 ho2 hk2;refine hK _ _ ?_;clear hK;have HO2:Hi (Qc (Q6 w.heap.size) 3 w2 v2 (Q5 (xs++ys))):=Hh (by have:=ho2;rwa [show Q5 xs++Q5 ys=Q5 (xs++ys) by simp[Q5]] at this);have HK2:=Hh (HK1.o.then_ hk2 (fun q hq=>.inr (HO1.o.2 q hq)));clear ho2 hk2)|(go_at_call 40;refine (Qc9 HO2.o (by rw[List.length_append];exact hl)).mono ?_;rintro e w3 ⟨v3,rfl,ho3,hk3⟩;have HO3:=Hh ho3;have HK3:=Hh (HK2.o.then_ hk3 (fun q hq=>.inr hq));clear ho3 hk3));go_ret;exact⟨_,rfl,HO3.o,HK3.o⟩
def Q4l (x:Int):List Int→Nat
 |[]=>0
 |y::ys=>if y<x then Q4l x ys+1 else 0
def Q1m (x:Int) (xs:List Int):List Int:=if xs[Q4l x xs]?=some x then xs else xs.take (Q4l x xs)++x::xs.drop (Q4l x xs)
theorem Qgm {x:Int} {xs:List Int} {j:Nat} (hj:j≤xs.length) (h:∀i y,i<j→xs[i]?=some y→y<x) (h2:∀y,xs[j]?=some y→¬ y<x):Q4l x xs=j:=by
 induction xs generalizing j with
 |nil=>simp at hj;subst hj;rfl
 |cons a l ih =>
  cases j with
  |zero=>simp only[Q4l];rw[Ng (h2 a rfl)]
  |succ j =>
   simp only[Q4l];rw[Ps (h 0 a Om rfl),ih (j:=j) (by simp at hj;omega) (fun i y hi hy=>h (i+1) y Om (by simpa using hy)) (fun y hy=>h2 y (by simpa using hy))]
theorem Qk0 (v:Value) (xs:List Int) (x:Int) (w:World) (hv:Qf w v xs) (hl:xs.length≤17000000000000) :
  Calls prog 101 #[v,.int .i64 x] w fun e w'=>∃v',e=.returned v'∧((v'=v∧Q1m x xs=xs)∨Qc (Q6 w.heap.size) 3 w' v' (Q5 (Q1m x xs)))∧Q0 nob w w':=by
 have HV:=Hh hv;obtain⟨A,b,o,c,rfl,_,hnc,hA,hc⟩:=hv;have HA:=Hh hA;have HC:=Hh hc;clear hA hc;obtain⟨R,hR⟩:∃R,R=Q1m x xs:=⟨_,rfl⟩;have HR:=Hh hR;rw[← hR];clear hR;obtain⟨n,hn⟩:∃n,n=xs.length:=⟨_,rfl⟩;rw[← hn] at HV hl hnc HA ⊢;have HN:=Hh hn;clear hn;go_enter func101,ntmps101;go_wp2_with fail;go_loop [5] (fun i=>∃j:Nat,j≤n∧i=.int .i64 j∧Hi (∀i y,i<j→xs[i]?=some y→y<x)) (fun i=>n-(intOf i).toNat)
 case atStart=>exact⟨0,Nat.zero_le _,rfl,Hh (fun i y hi=>absurd hi (Nat.not_lt_zero _))⟩
 case round =>
  obtain⟨j,hj,rfl,HL⟩:=hrel
  by_cases hlt:j<n
  ·obtain⟨y,hy⟩:=Q4 (xs:=xs) (j:=j) (by have:=HN.o;omega)
   have c0:=HC.o j y hy;obtain rfl:=HA.o Om;have hjn:(j:Int)<(n:Int):=Om
   have HY:=Hh hy;clear hy
   by_cases hyx:y<x
   ·go_wp2_with fail
    go_round
    case rel=>exact⟨j+1,Om,Gm,Hh (fun i z hi hz=>by
     by_cases e:i=j
     ·subst e;rw[HY.o] at hz;cases hz;exact hyx
     ·exact HL.o i z Om hz)⟩
    case measure=>exact Me
   ·have HK:Hi (Q4l x xs=j):=Hh (Qgm (by have:=HN.o;omega) HL.o (fun z hz=>by rw[HY.o] at hz;cases hz;exact hyx))
    by_cases hex:y=x
    ·have hb:(y==x)=true:=by simp[hex]
     have HE:Hi (R=xs):=Hh (by rw[HR.o];unfold Q1m;rw[HK.o,Ps (by rw[HY.o,hex])]);clear hex;go_wp2_with fail;go_ret;exact⟨_,rfl,.inl ⟨rfl,HE.o⟩,Kr _ _⟩
    ·have hb:(y==x)=false:=by simp[hex]
     have HE:Hi (R=xs.take j++x::xs.drop j):=Hh (by rw[HR.o];unfold Q1m;rw[HK.o,Ng (by rw[HY.o];intro e;cases e;exact hex rfl)]);clear hex;go_wp2_with (first|(at_builtin;refine Yw rfl (fun K hK=>?_);refine Xf (Q6 w.heap.size) _ _ 26 3 (.int .i64 0) 8 rfl underlying26 Kf rfl (.slice (some ⟨w.heap.size,0,none⟩) 1 1) (Q5 [x]) (Q5 (xs.drop j)) rfl (some ⟨b,o+j,none⟩) b (o+j) _ _ rfl (by rw[Q2,List.length_drop,← HN.o]) (fun _=>rfl) (Q1v fun q z hz=>by have h1:=HC.o (j+q) z (by rw[List.getElem?_drop] at hz;exact hz);rw[Nat.add_assoc];exact ((Kr nob w).alloc _).cell id h1) (Q0w _) (Qbw _ (Nat.le_refl _) (Jv rfl Sm) Sm) (fun k hk=>by simp[Q6] at hk ⊢;omega) (by rw[Q2,Q2,List.length_drop,← HN.o];simp;omega) (by rw[Q2,Q2,List.length_drop,← HN.o];simp;omega) ?_;intro v5 w5 ho5 hk5;refine hK _ _ ?_;clear hK;obtain⟨A5,c5,hv5⟩:=ho5.len;have HO5:Hi (Qc (Q6 w.heap.size) 3 w5 v5 (Q5 (x::xs.drop j))):=Hh (by have:=ho5;rwa [show Q5 [x]++Q5 (xs.drop j)=Q5 (x::xs.drop j) by simp[Q5]] at this);have HK5:Hi (Q0 nob w w5):=Hh (Q0.then_ ((Kr nob w).alloc _) hk5 (fun q hq=>.inr (by cases hq;exact Nat.le_refl _)));rw[show (Q5 [x]++Q5 (xs.drop j)).length=n-j+1 from by rw[List.length_append,Q2,Q2,List.length_drop,← HN.o];simp;omega] at hv5;subst hv5;clear ho5 hk5)|(at_builtin;refine Yw rfl (fun K hK=>?_);refine Y3 w5 Kz _ _ 26 3 (.int .i64 0) 8 rfl underlying26 Kf rfl _ (Q5 (xs.take j)) rfl (Jv rfl Sm) (by first|exact Nat.le_refl _|simp) (some ⟨b,o,none⟩) b o _ _ rfl (by rw[Q2,List.length_take,← HN.o];omega) (fun _=>rfl) (Q1v fun q z hz=>((HK5.o.alloc _)).cell id (HC.o q z (by rw[List.getElem?_take] at hz;split at hz<;>first|exact hz|cases hz))) (Q0w _) (by rw[Q2,List.length_take,← HN.o];omega) (by rw[Q2,List.length_take,← HN.o];omega) ?_;intro v6 w6 ho6 hk6 Qqa;refine hK _ _ ?_;clear hK;have Qyl:=HK5.o.size;have HO6:Hi (Qc (Q6 w.heap.size) 3 w6 v6 (Q5 (xs.take j))):=Hh (ho6.mono (fun k hk=>by simp[Q3k,Q6] at hk ⊢;omega));have HK6:Hi (Q0 nob w w6):=Hh (HK5.o.trans Qqa);have Quf:=Hh (HO5.o.nobk Qqa);obtain⟨A5',b5,c5',e5,_,_,h5A,h5c⟩:=(HO5.o.nobk Qqa).opened;injection e5 with e5a _ _;subst e5a;have H5C:=Hh h5c;have H5A:=Hh (h5A (by rw[Q2];simp)).1;clear ho6 hk6 Qqa h5A h5c)|(at_builtin;refine Yw rfl (fun K hK=>?_);refine Xf (Q6 w.heap.size) _ _ 26 3 (.int .i64 0) 8 rfl underlying26 Kf rfl v6 (Q5 (xs.take j)) (Q5 (x::xs.drop j)) rfl _ b5 0 _ _ rfl (by rw[Q2,List.length_cons,List.length_drop,← HN.o];first|done|omega) (fun _=>H5A.o) (fun q u hq=>by rw[Nat.zero_add];exact (H5C.o q u hq).1) (Q0w _) HO6.o (fun k hk=>Nat.le_trans HK6.o.size hk) (by rw[Q2,Q2,List.length_cons,List.length_take,List.length_drop,← HN.o];omega) (by rw[Q2,Q2,List.length_cons,List.length_take,List.length_drop,← HN.o];omega) ?_;intro v7 w7 ho7 hk7;refine hK _ _ ?_;clear hK;have HO7:Hi (Qc (Q6 w.heap.size) 3 w7 v7 (Q5 (xs.take j++x::xs.drop j))):=Hh (by have:=ho7;rwa [show Q5 (xs.take j)++Q5 (x::xs.drop j)=Q5 (xs.take j++x::xs.drop j) by simp[Q5]] at this);have HK7:Hi (Q0 nob w w7):=Hh (HK6.o.then_ hk7 (fun q hq=>.inr (HO6.o.2 q hq)));clear ho7 hk7))
     go_returns;exact⟨_,rfl,by rw[HE.o];exact .inr HO7.o,HK7.o⟩
  ·have hjn:¬ (j:Int)<(n:Int):=Om
   have Qpe:j=n:=Om
   have HK:Hi (Q4l x xs=j):=Hh (Qgm (by have:=HN.o;omega) HL.o (fun z hz=>by have:=(Gs hz).1;have:=HN.o;omega));have HE:Hi (R=xs.take j++x::xs.drop j):=Hh (by rw[HR.o];unfold Q1m;rw[HK.o,Ng (by intro e;have:=(Gs e).1;have:=HN.o;omega)]);go_wp2_with (first|(at_builtin;refine Yw rfl (fun K hK=>?_);refine Xf (Q6 w.heap.size) _ _ 26 3 (.int .i64 0) 8 rfl underlying26 Kf rfl (.slice (some ⟨w.heap.size,0,none⟩) 1 1) (Q5 [x]) (Q5 (xs.drop j)) rfl _ 0 0 _ _ rfl (by rw[Q2,List.length_drop,← HN.o];omega) (fun h0=>by rw[Q2,List.length_drop,← HN.o] at h0;omega) (fun q u hq=>by rw[Dn (by rw[← HN.o];omega)] at hq;cases hq) (Q0w _) (Qbw _ (Nat.le_refl _) (Jv rfl Sm) Sm) (fun k hk=>by simp[Q6] at hk ⊢;omega) (by rw[Q2,Q2,List.length_drop,← HN.o];simp;omega) (by rw[Q2,Q2,List.length_drop,← HN.o];simp;omega) ?_;intro v5 w5 ho5 hk5;refine hK _ _ ?_;clear hK;obtain⟨A5,c5,hv5⟩:=ho5.len;have HO5:Hi (Qc (Q6 w.heap.size) 3 w5 v5 (Q5 (x::xs.drop j))):=Hh (by have:=ho5;rwa [show Q5 [x]++Q5 (xs.drop j)=Q5 (x::xs.drop j) by simp[Q5]] at this);have HK5:Hi (Q0 nob w w5):=Hh (Q0.then_ ((Kr nob w).alloc _) hk5 (fun q hq=>.inr (by cases hq;exact Nat.le_refl _)));rw[show (Q5 [x]++Q5 (xs.drop j)).length=n-j+1 from by rw[List.length_append,Q2,Q2,List.length_drop,← HN.o];simp;omega] at hv5;subst hv5;clear ho5 hk5)|(at_builtin;refine Yw rfl (fun K hK=>?_);refine Y3 w5 Kz _ _ 26 3 (.int .i64 0) 8 rfl underlying26 Kf rfl _ (Q5 (xs.take j)) rfl (Jv rfl Sm) (by first|exact Nat.le_refl _|simp) _ b o _ _ rfl (by rw[Q2,List.length_take,← HN.o];omega) (fun h0=>HA.o (by rw[Q2,List.length_take,← HN.o] at h0;omega)) (Q1v fun q z hz=>((HK5.o.alloc _)).cell id (HC.o q z (by rw[List.getElem?_take] at hz;split at hz<;>first|exact hz|cases hz))) (Q0w _) (by rw[Q2,List.length_take,← HN.o];omega) (by rw[Q2,List.length_take,← HN.o];omega) ?_;intro v6 w6 ho6 hk6 Qqa;refine hK _ _ ?_;clear hK;have Qyl:=HK5.o.size;have HO6:Hi (Qc (Q6 w.heap.size) 3 w6 v6 (Q5 (xs.take j))):=Hh (ho6.mono (fun k hk=>by simp[Q3k,Q6] at hk ⊢;omega));have HK6:Hi (Q0 nob w w6):=Hh (HK5.o.trans Qqa);have Quf:=Hh (HO5.o.nobk Qqa);obtain⟨A5',b5,c5',e5,_,_,h5A,h5c⟩:=(HO5.o.nobk Qqa).opened;injection e5 with e5a _ _;subst e5a;have H5C:=Hh h5c;have H5A:=Hh (h5A (by rw[Q2];simp)).1;clear ho6 hk6 Qqa h5A h5c)|(at_builtin;refine Yw rfl (fun K hK=>?_);refine Xf (Q6 w.heap.size) _ _ 26 3 (.int .i64 0) 8 rfl underlying26 Kf rfl v6 (Q5 (xs.take j)) (Q5 (x::xs.drop j)) rfl _ b5 0 _ _ rfl (by rw[Q2,List.length_cons,List.length_drop,← HN.o];first|done|omega) (fun _=>H5A.o) (fun q u hq=>by rw[Nat.zero_add];exact (H5C.o q u hq).1) (Q0w _) HO6.o (fun k hk=>Nat.le_trans HK6.o.size hk) (by rw[Q2,Q2,List.length_cons,List.length_take,List.length_drop,← HN.o];omega) (by rw[Q2,Q2,List.length_cons,List.length_take,List.length_drop,← HN.o];omega) ?_;intro v7 w7 ho7 hk7;refine hK _ _ ?_;clear hK;have HO7:Hi (Qc (Q6 w.heap.size) 3 w7 v7 (Q5 (xs.take j++x::xs.drop j))):=Hh (by have:=ho7;rwa [show Q5 (xs.take j)++Q5 (x::xs.drop j)=Q5 (xs.take j++x::xs.drop j) by simp[Q5]] at this);have HK7:Hi (Q0 nob w w7):=Hh (HK6.o.then_ hk7 (fun q hq=>.inr (HO6.o.2 q hq)));clear ho7 hk7))
   all_goals go_returns
   all_goals exact⟨_,rfl,by rw[HE.o];exact .inr HO7.o,HK7.o⟩
theorem Qid (x y:Int) (ys:List Int):Q1m x (y::ys)=if y<x then y::Q1m x ys else if y=x then y::ys else x::y::ys:=by
 by_cases h:y<x
 ·have e:Q4l x (y::ys)=Q4l x ys+1:=by simp only[Q4l];rw[Ps h]
  unfold Q1m;simp only[e,Ps h,List.getElem?_cons_succ,List.take_succ_cons,List.drop_succ_cons,List.cons_append];split<;>rfl
 ·have e:Q4l x (y::ys)=0:=by simp only[Q4l];rw[Ng h]
  unfold Q1m;simp only[e,Ng h,List.getElem?_cons_zero,List.take_zero,List.drop_zero,List.nil_append,Option.some.injEq]
theorem Qlv {x:Int} {xs:List Int} (h:xs.Pairwise (·<·)):(Q1m x xs).Pairwise (·<·)∧∀z,z∈Q1m x xs↔z=x∨z∈xs:=by
 induction xs with
 |nil=>exact⟨by simp[Q1m,Q4l],fun z=>by simp[Q1m,Q4l]⟩
 |cons y ys ih =>
  obtain⟨h1,h2⟩:=List.pairwise_cons.1 h;obtain⟨i1,i2⟩:=ih h2;rw[Qid]
  by_cases c:y<x
  ·rw[Ps c]
   refine⟨List.pairwise_cons.2 ⟨fun z hz=>?_,i1⟩,fun z=>?_⟩
   ·rcases (i2 z).1 hz with rfl|hz
    ·exact c
    ·exact h1 z hz
   ·rw[List.mem_cons,i2 z,List.mem_cons]
    constructor
    ·rintro (h|h|h)
     ·exact .inr (.inl h)
     ·exact .inl h
     ·exact .inr (.inr h)
    ·rintro (h|h|h)
     ·exact .inr (.inl h)
     ·exact .inl h
     ·exact .inr (.inr h)
  ·rw[Ng c]
   by_cases e:y=x
   ·rw[Ps e]
    refine⟨h,fun z=>?_⟩
    subst e;simp
   ·rw[Ng e]
    refine⟨List.pairwise_cons.2 ⟨fun z hz=>?_,h⟩,fun z=>by simp⟩
    rcases List.mem_cons.1 hz with rfl|hz
    ·omega
    ·have:=h1 z hz;omega
def Zf (l:List Int):List Int:=l.foldl (fun a x=>Q1m x a) []
theorem Qih (l:List Int):(Zf l).Pairwise (·<·)∧∀z,z∈Zf l↔z∈l:=by
 have key:∀(l acc:List Int),acc.Pairwise (·<·)→(l.foldl (fun a x=>Q1m x a) acc).Pairwise (·<·)∧∀z,z∈l.foldl (fun a x=>Q1m x a) acc↔z∈acc∨z∈l:=by
  intro l
  induction l with
  |nil=>intro acc h;exact⟨h,fun z=>by simp⟩
  |cons x l ih =>
   intro acc h;obtain⟨a1,a2⟩:=Qlv (x:=x) h;obtain⟨b1,b2⟩:=ih (Q1m x acc) a1
   refine⟨b1,fun z=>?_⟩
   rw[List.foldl_cons,b2 z,a2 z,List.mem_cons];constructor
   ·rintro ((h|h)|h)
    ·exact .inr (.inl h)
    ·exact .inl h
    ·exact .inr (.inr h)
   ·rintro (h|h|h)
    ·exact .inl (.inr h)
    ·exact .inl (.inl h)
    ·exact .inr h
 obtain⟨h1,h2⟩:=key l [] List.Pairwise.nil;exact⟨h1,fun z=>by rw[Zf,h2 z];simp⟩
theorem Qm5 {l m:List Int} (h:∀z,z∈l↔z∈m):Lib.compact (X3 l)=Zf m:=by
 have h1:=Q8u (Qau l);have h2:=Qih m
 refine Qne _ _ h1.1 h2.1 fun z=>?_
 rw[h1.2 z,Q9u,h2.2 z];exact h z
section
variable {α:Type} [DecidableEq α]
def Jq (C:α→List α) (a:α):Nat→List α
 |0=>[a]
 |i+1=>match (Jq C a i)[i]? with
  |some x=>grow (Jq C a i) (C x)
  |none=>Jq C a i
theorem Q8n (C:α→List α) (a:α) (i:Nat):(Jq C a i).Nodup:=by
 induction i with
 |zero=>simp[Jq]
 |succ i ih =>
  simp only[Jq];split
  ·exact Q8q ih _
  ·exact ih
theorem Q3v (C:α→List α) (a:α) (i:Nat):∃m,Jq C a (i+1)=Jq C a i++m:=by
 simp only[Jq];split
 ·exact Qjm _ _
 ·exact⟨[],Sm⟩
theorem Q7i (C:α→List α) (a:α) {i:Nat} {x:α} (h:(Jq C a i)[i]?=some x):Jq C a (i+1)=grow (Jq C a i) (C x):=by
 simp only[Jq];rw[h]
theorem Qdq (C:α→List α) (a:α) {i:Nat} (h:(Jq C a i).length≤i) (j:Nat) (hj:i≤j):Jq C a j=Jq C a i:=by
 induction j with
 |zero=>rw[show i=0 by omega]
 |succ j ih =>
  by_cases e:i=j+1
  ·rw[e]
  ·have hs:=ih Om
   simp only[Jq];rw[hs,List.getElem?_eq_none Om]
theorem Qar (C:α→List α) (a:α) (i:Nat):a∈Jq C a i:=by
 induction i with
 |zero=>simp[Jq]
 |succ i ih=>obtain⟨m,hm⟩:=Q3v C a i;rw[hm];simp[ih]
theorem Qhl (C:α→List α) (a:α) (i:Nat):∀j,j<i→∀y,(Jq C a i)[j]?=some y→∀x∈C y,x∈Jq C a i:=by
 induction i with
 |zero=>intro j hj;omega
 |succ i ih =>
  intro j hj y hy x hx;obtain⟨m,hm⟩:=Q3v C a i;cases hc:(Jq C a i)[i]? with
  |none =>
   have e:Jq C a (i+1)=Jq C a i:=by simp only[Jq];rw[hc]
   rw[e] at hy ⊢
   by_cases e2:j=i
   ·subst e2;rw[hc] at hy;cases hy
   ·exact ih j Om y hy x hx
  |some z =>
   have e:=Q7i C a hc;have hl:i<(Jq C a i).length:=(Gs hc).1;have hy2:(Jq C a i)[j]?=some y:=by rw[← hy,hm,List.getElem?_append_left Om]
   rw[e]
   by_cases e2:j=i
   ·subst e2;rw[hc] at hy2;cases hy2
    exact (Q74 _ _ _).2 (.inr hx)
   ·exact (Q74 _ _ _).2 (.inl (ih j Om y hy2 x hx))
theorem Q4d (C:α→List α) (a:α) {P:α→Prop} (h0:P a) (h1:∀y,P y→∀x∈C y,P x) (i:Nat):∀x∈Jq C a i,P x:=by
 induction i with
 |zero=>intro x hx;simp[Jq] at hx;rw[hx];exact h0
 |succ i ih =>
  intro x hx;simp only[Jq] at hx;split at hx
  ·rename_i z hz
   rcases (Q74 _ _ _).1 hx with h|h
   ·exact ih x h
   ·exact h1 z (ih z (Mg hz)) x h
  ·exact ih x hx
theorem Q8f (C:α→List α) (a:α) {N:Nat} (h:(Jq C a N).length≤N):∀y∈Jq C a N,∀x∈C y,x∈Jq C a N:=by
 intro y hy x hx;obtain⟨j,hj,e⟩:=List.mem_iff_getElem.1 hy;exact Qhl C a N j Om y (by rw[List.getElem?_eq_getElem hj,e]) x hx
end
def J7 (r:Reg) (t:Q1) (n:Qn):List (Nat×Int) :=
 if n.kind=5 then [(0,Qa r.comps n.text)]
 else if n.kind=11 then (n.kids.drop 1).map fun k=>(0,Qa r.comps (t.at k).text)
 else if n.kind=14 then [(1,Qa r.comps n.text)]
 else if n.kind=29∨n.kind=30 then n.kids.map fun k=>(2,Qa r.comps (t.at k).text)
 else if n.kind=6 then [(3,Qa r.ress n.text)]
 else if n.kind=15 then [(4,Qa r.ress n.text)]
 else if n.kind=19 then [(5,Qa r.evts n.text)]
 else if n.kind=20 then [(6,Qa r.evts n.text)]
 else if n.kind=28∨n.kind=23∨n.kind=24 then [(7,Qa r.comps n.text)]
 else if n.kind=21 then [(8,0)]
 else if n.kind=22 then [(9,0)]
 else []
def Jm (r:Reg) (t:Q1) (row:Nat) (ks:List Int) (j:Nat):List (Nat×Int):=(ks.take j).map fun k=>(row,Qa r.comps (t.at k).text)
theorem Q0m (r:Reg) (t:Q1) (row:Nat) (ks:List Int):Jm r t row ks 0=[]:=by simp[Jm]
theorem Q0x {r:Reg} {t:Q1} {row:Nat} {ks:List Int} {j:Nat} {x:Int} (h:ks[j]?=some x):Jm r t row ks (j+1)=Jm r t row ks j++[(row,Qa r.comps (t.at x).text)]:=by
 unfold Jm;rw[Js h,List.map_append];rfl
theorem Q1g (r:Reg) (t:Q1) (row:Nat) (ks:List Int) {j:Nat} (h:ks.length≤j):Jm r t row ks j=ks.map fun k=>(row,Qa r.comps (t.at k).text):=by unfold Jm;rw[List.take_of_length_le h]
theorem Q1o (r:Reg) (t:Q1) (row:Nat) (ks:List Int) (j:Nat):(Jm r t row ks j).length≤ks.length:=by unfold Jm;rw[List.length_map,List.length_take];omega
def Zb (k:Nat) (A:List (Nat×Int)):List Int:=A.filterMap fun a=>if a.1=k then some a.2 else none
def Ju (k:Nat) (A:List (Nat×Int)):Bool:=A.any fun a=>a.1==k
theorem Qde (k:Nat) (A B:List (Nat×Int)):Zb k (A++B)=Zb k A++Zb k B:=List.filterMap_append
theorem Qdz (k:Nat) (A:List (Nat×Int)) (x:Int):Zb k (A++[(k,x)])=Zb k A++[x]:=by rw[Qde];simp[Zb]
theorem Q5q {k j:Nat} (h:j≠k) (A:List (Nat×Int)) (x:Int):Zb k (A++[(j,x)])=Zb k A:=by rw[Qde];simp[Zb,h]
theorem Zk (k:Nat) (A:List (Nat×Int)):(Zb k A).length≤A.length:=List.length_filterMap_le _ _
theorem Q8y {k:Nat} {A:List (Nat×Int)} {z:Int}:z∈Zb k A↔(k,z)∈A:=by
 unfold Zb;rw[List.mem_filterMap];constructor
 ·rintro⟨⟨j,x⟩,h1,h2⟩
  dsimp only at h2;split at h2
  ·rename_i e;cases h2;subst e;exact h1
  ·cases h2
 ·intro h;exact⟨(k,z),h,Sm⟩
theorem Qdf (k:Nat) (A B:List (Nat×Int)):Ju k (A++B)=(Ju k A ||Ju k B):=List.any_append
theorem Q78 (k:Nat) (A:List (Nat×Int)) (x:Int):Ju k (A++[(k,x)])=true:=by rw[Qdf];simp[Ju]
theorem Q0l {k j:Nat} (h:j≠k) (A:List (Nat×Int)) (x:Int):Ju k (A++[(j,x)])=Ju k A:=by rw[Qdf];simp[Ju,h]
theorem Qdb {k:Nat} {A:List (Nat×Int)}:Ju k A=true↔∃z,(k,z)∈A:=by
 unfold Ju;rw[List.any_eq_true];constructor
 ·rintro⟨⟨j,x⟩,h1,h2⟩
  have:j=k:=by simpa using h2
  subst this;exact⟨x,h1⟩
 ·rintro⟨z,h⟩;exact⟨_,h,Sm⟩
theorem Qfz {A B:List (Nat×Int)} (h:∀a,a∈A↔a∈B) (k:Nat):Lib.compact (X3 (Zb k A))=Zf (Zb k B):=Qm5 fun z=>by rw[Q8y,Q8y];exact h _
theorem Qat {A B:List (Nat×Int)} (h:∀a,a∈A↔a∈B) (k:Nat):Ju k A=Ju k B:=by
 rw[Bool.eq_iff_iff,Qdb,Qdb];exact⟨fun⟨z,hz⟩=>⟨z,(h _).1 hz⟩,fun⟨z,hz⟩=>⟨z,(h _).2 hz⟩⟩
def Q1i (r:Reg) (t:Q1):Nat→Int→List (Nat×Int)
 |0,_=>[]
 |n+1,i=>J7 r t (t.at i)++Q1i r t n (i+1)
def Qfu (r:Reg) (t:Q1) (k:Int):List (Nat×Int):=Q1i r t (k-X4 t k).toNat (X4 t k)
def Y4 (r:Reg) (t:Q1):Nat→Int→List (Nat×Int)
 |0,_=>[]
 |f+1,i=>J7 r t (t.at i)++(t.at i).kids.flatMap (Y4 r t f)
theorem Q98 {r:Reg} {t:Q1} (a:Nat×Int):∀(n:Nat) (i:Int),a∈Q1i r t n i↔∃j,i≤j∧j<i+n∧a∈J7 r t (t.at j):=by
 intro n
 induction n with
 |zero=>intro i;simp[Q1i];intro j h1 h2;omega
 |succ n ih =>
  intro i;simp only[Q1i];rw[List.mem_append,ih (i+1)];constructor
  ·rintro (hx|⟨j,a,b,c⟩)
   ·exact⟨i,Int.le_refl _,Om,hx⟩
   ·exact⟨j,Om,Om,c⟩
  ·rintro⟨j,a,b,c⟩
   by_cases hj:j=i
   ·subst hj;exact .inl c
   ·exact .inr ⟨j,Om,Om,c⟩
theorem Qh4 {r:Reg} {t:Q1}:∀(f:Nat) (i lo:Int) (a:Nat×Int),Q1b t lo i→i<f→(a∈Y4 r t f i↔∃j,lo≤j∧j≤i∧a∈J7 r t (t.at j)):=by
 intro f
 induction f with
 |zero=>intro i lo a h hi;have:=h.2.1;omega
 |succ f ih =>
  intro i lo x h hi
  have key:∀(l:List Int) (lo e:Int),Zu t lo l e→e≤f→(x∈l.flatMap (Y4 r t f)↔∃j,lo≤j∧j<e∧x∈J7 r t (t.at j)):=by
   intro l
   induction l with
   |nil=>intro lo e h _;have h:lo=e:=h;subst h;simp;intro j h1 h2;omega
   |cons k l ihl =>
    intro lo e h he;obtain⟨h1,h2⟩:=h;have hle:=h2.le;have hlk:=h1.le;rw[List.flatMap_cons,List.mem_append,ihl (k+1) e h2 he,ih k lo x h1 Om];constructor
    ·rintro (⟨j,a,b,c⟩|⟨j,a,b,c⟩)
     ·exact⟨j,a,Om,c⟩
     ·exact⟨j,Om,b,c⟩
    ·rintro⟨j,a,b,c⟩
     by_cases hj:j≤k
     ·exact .inl ⟨j,a,hj,c⟩
     ·exact .inr ⟨j,Om,b,c⟩
  simp only[Y4];rw[List.mem_append,key _ lo i h.kids Om];have hle:=h.le;constructor
  ·rintro (hx|⟨j,a,b,c⟩)
   ·exact⟨i,hle,Int.le_refl _,hx⟩
   ·exact⟨j,a,Om,c⟩
  ·rintro⟨j,a,b,c⟩
   by_cases hj:j=i
   ·subst hj;exact .inl c
   ·exact .inr ⟨j,a,Om,c⟩
def Qe1 (t:Q1) (top:Int):List Int:=Jq (Jc t) top 4001
def Qe9 (t:Q1) (name:ByteArray):List ByteArray:=Jq (Q08 t) name 4001
def Q61 (r:Reg) (t:Q1) (top:Int):List (Nat×Int):=(Qe1 t top).flatMap (Qfu r t)
def Qg9 (r:Reg) (t:Q1) (name:ByteArray):List (Nat×Int):=(Qe9 t name).flatMap fun x=>Y4 r t t.nodes.length (Q3 t t.tops x)
theorem Q71 {t:Q1} (hC:Q2d t) (ht:∀i∈t.tops,InT t i) {top:Int} (hk:top∈t.tops) (j:Nat):Q7b t (Jq (Jc t) top j) :=
 ⟨Q8n _ _ _,Q4d (Jc t) top (P:=fun x=>x∈t.tops) hk (fun y hy=>Qef hC ht (ht y hy)) j⟩
theorem Q7r {t:Q1} (hK:Qk t) (hC:Q2d t) (htk:∀i∈t.tops,InT t i) {name:ByteArray} (hn:0≤Q3 t t.tops name) (j:Nat):∀x∈Jq (Q08 t) name j,0≤Q3 t t.tops x∧Q6f t x:=by
 refine Q4d (Q08 t) name (P:=fun x=>0≤Q3 t t.tops x∧Q6f t x) ⟨hn,_,htk _ (Zc hn).1,(Zc hn).2⟩ (fun y hy x hx=>?_) j
 obtain⟨i,hi,h7,rfl⟩:=Q72 hK _ _ (htk _ (Zc hy.1).1) x hx;exact⟨hC i hi h7,i,hi,rfl⟩
theorem Q3b {t:Q1} (hK:Qk t) (hC:Q2d t) (htk:∀i∈t.tops,InT t i) {name:ByteArray} (hn:0≤Q3 t t.tops name) (j:Nat):Q4n t (Jq (Q08 t) name j) :=
 ⟨Q8n _ _ _,fun x hx=>(Q7r hK hC htk hn j x hx).2⟩
section
variable {r:Reg} {t:Q1} {name:ByteArray}
theorem Qk8 (h:(Zo r t).1=0) (hn:0≤Q3 t t.tops name):(∀x∈Qe9 t name,0≤Q3 t t.tops x∧Q3 t t.tops x∈Qe1 t (Q3 t t.tops name))∧∀k∈Qe1 t (Q3 t t.tops name),k∈t.tops∧(t.at k).text∈Qe9 t name∧Q3 t t.tops (t.at k).text=k:=by
 obtain⟨hB,hC⟩:=Q30 h;have hnd:=Qhp h;obtain⟨q1,q2,q3,q4,q5,q6⟩:=Yg hB;have ht:∀i∈t.tops,InT t i:=fun i hi=>(q4 i hi).1
 have Qst:=Qes t.tops hnd;have Qwr:=(Zc hn).1;have span:∀m∈t.tops,Q1b t (X4 t m) m:=fun m hm=>Q62 t.tops 0 _ m (Int.le_refl 0) q6 hm
 have down:∀m∈t.tops,∀x∈Z0 t t.nodes.length m,Q3 t t.tops x∈Jc t m:=fun m hm x hx=>by
  obtain⟨j,a,b,c,d⟩:=(Q8d _ _ _ _ (span m hm) (ht m hm).2).1 hx;have hle:=(span m hm).le;have hjm:j≠m:=fun e=>by rw[e] at c;have:=(q4 m hm).2;omega
  exact (Qbd _ _ _).2 ⟨j,a,Om,c,by rw[d]⟩
 have up:∀m∈t.tops,∀y∈Jc t m,y∈t.tops∧(t.at y).text∈Z0 t t.nodes.length m:=fun m hm y hy=>by
  obtain⟨j,a,b,c,d⟩:=(Qbd _ _ _).1 hy;have hle:=(span m hm).le;have h0:0≤X4 t m:=(span m hm).1;have hm2:=(ht m hm).2;have hin:=hC j ⟨Om,Om⟩ c;obtain⟨e1,e2⟩:=Zc hin;rw[d] at e1 e2;exact⟨e1,(Q8d _ _ _ _ (span m hm) hm2).2 ⟨j,a,Om,c,e2.symm⟩⟩
 have Qym:=(Q3b q2 hC ht hn 4001).few;have Qyn:=(Q71 hC ht Qwr 4001).few;have htl:t.tops.length≤4000:=q5;constructor
 ·refine Q4d (Q08 t) name (P:=fun x=>0≤Q3 t t.tops x∧Q3 t t.tops x∈Qe1 t (Q3 t t.tops name)) ⟨hn,Qar _ _ _⟩ (fun y hy x hx=>?_) 4001
  have hym:=(Zc hy.1).1;obtain⟨j,hj,h7,rfl⟩:=Q72 q2 _ _ (ht _ hym) x hx;exact⟨hC j hj h7,Q8f (Jc t) _ Om _ hy.2 _ (down _ hym _ hx)⟩
 ·intro k hk
  have:=Q4d (Jc t) (Q3 t t.tops name) (P:=fun y=>y∈t.tops∧(t.at y).text∈Qe9 t name)
   ⟨Qwr,by rw[(Zc hn).2];exact Qar _ _ _⟩
   (fun m hm y hy=>⟨(up m hm.1 y hy).1,Q8f (Q08 t) name Om _ hm.2 _ (by
    show _∈Z0 t t.nodes.length (Q3 t t.tops (t.at m).text)
    rw[Qst m hm.1];exact (up m hm.1 y hy).2)⟩) 4001 _ hk
  exact⟨this.1,this.2,Qst k this.1⟩
theorem Qmk (h:(Zo r t).1=0) (hn:0≤Q3 t t.tops name) (a:Nat×Int):a∈Q61 r t (Q3 t t.tops name)↔a∈Qg9 r t name:=by
 obtain⟨h1,h2⟩:=Qk8 h hn;obtain⟨hB,hC⟩:=Q30 h;obtain⟨q1,q2,q3,q4,q5,q6⟩:=Yg hB;have span:∀m∈t.tops,Q1b t (X4 t m) m:=fun m hm=>Q62 t.tops 0 _ m (Int.le_refl 0) q6 hm
 have one:∀m∈t.tops,(a∈Qfu r t m↔a∈Y4 r t t.nodes.length m):=fun m hm=>by
  rw[Qh4 _ _ _ _ (span m hm) (q4 m hm).1.2];unfold Qfu;rw[Q98];have hle:=(span m hm).le;constructor
  ·rintro⟨j,h1,h2,h3⟩;exact⟨j,h1,Om,h3⟩
  ·rintro⟨j,h1,h2,h3⟩
   have hjm:j≠m:=fun e=>by
    subst e;have:=(q4 j hm).2;unfold J7 at h3;rw[Ng Om,Ng Om,Ng Om,Ng Om,Ng Om,Ng Om,Ng Om,Ng Om,Ng Om,Ng Om,Ng Om] at h3;cases h3
   exact⟨j,h1,Om,h3⟩
 unfold Q61 Qg9;rw[List.mem_flatMap,List.mem_flatMap];constructor
 ·rintro⟨k,hk,ha⟩
  obtain⟨g1,g2,g3⟩:=h2 k hk;exact⟨_,g2,by rw[g3];exact (one k g1).1 ha⟩
 ·rintro⟨x,hx,ha⟩
  obtain⟨g1,g2⟩:=h1 x hx;exact⟨_,g2,(one _ (Zc g1).1).2 ha⟩
end
end Go.Proofs.YtkgkafjachjafaaGreat
