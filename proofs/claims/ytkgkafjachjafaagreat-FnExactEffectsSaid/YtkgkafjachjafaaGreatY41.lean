/- Part 41 of: FnExactEffects answers true; no condition. -/
import Derived.Lib.SortBridge
import Derived.Test.YtkgkafjachjafaaGreatY03
import Derived.Test.YtkgkafjachjafaaGreatY06
import Derived.Test.YtkgkafjachjafaaGreatY39
import Derived.Test.YtkgkafjachjafaaGreatY40
set_option linter.unusedVariables false
set_option maxHeartbeats 4000000
set_option maxRecDepth 100000
open Go Go.RowKit
namespace Go.Proofs.YtkgkafjachjafaaGreat
open Tryz
def Q08 (t:Q1) (x:ByteArray):List ByteArray:=Z0 t t.nodes.length (Q3 t t.tops x)
def Q2d (t:Q1):Prop:=∀i,InT t i→(t.at i).kind=7→0≤Q3 t t.tops (t.at i).text
def Q5v (r:Reg) (t:Q1) (name:ByteArray):Bool:=decide ((Zo r t).1=0)&&decide (0≤Zq t name)
theorem Zc {t:Q1} {l:List Int} {x:ByteArray} (h:0≤Q3 t l x):Q3 t l x∈l∧(t.at (Q3 t l x)).text=x:=by
 induction l with
 |nil=>simp[Q3] at h
 |cons k ks ih =>
  simp only[Q3] at h ⊢;split
  ·rename_i e;exact⟨Sm,e⟩
  ·rename_i e
   rw[Ng e] at h;have:=ih h;exact⟨by simp[this.1],this.2⟩
theorem Q72 {t:Q1} (hK:Qk t):∀(f:Nat) (i:Int),InT t i→∀x∈Z0 t f i,∃j,InT t j∧(t.at j).kind=7∧(t.at j).text=x:=by
 intro f
 induction f with
 |zero=>intro i _ x hx;cases hx
 |succ f ih =>
  intro i hi x hx;simp only[Z0,List.mem_append,List.mem_flatMap] at hx;rcases hx with hx|⟨k,hk,hx⟩
  ·split at hx
   ·rename_i h;simp at hx;exact⟨i,hi,h,hx.symm⟩
   ·cases hx
  ·exact ih k (hi.kid hK hk) x hx
def Q38 (n:Qn) (kv:Value):List Value:=[.int .i64 n.kind,.string n.text,.int .i64 n.i,kv]
def Q0h (l:List (Qn×Value)):List Value:=l.flatMap fun p=>Q38 p.1 p.2
theorem Qb5 (l:List (Qn×Value)):(Q0h l).length=l.length*4:=Q9y (f:=fun p:Qn×Value=>Q38 p.1 p.2) (fun _=>rfl) l
theorem Q48 (a b:List (Qn×Value)):Q0h a++Q0h b=Q0h (a++b):=by simp[Q0h]
structure Zi (S:Nat→Prop) (w:World) (v:Value) (l:List (Qn×Value)):Prop where
 row:Y5 S 70 4 w v l.length (Q0h l)
 kid:∀p∈l,Qc S 3 w p.2 (Q5 p.1.kids)
 sep0:∀p∈l,sep v.ownBlock p.2.ownBlock
 sep1:l.Pairwise fun p q=>sep p.2.ownBlock q.2.ownBlock
namespace Zi
variable {S S':Nat→Prop} {w w':World} {v:Value} {l:List (Qn×Value)}
theorem nil (S:Nat→Prop) (w:World):Zi S w (.slice none 0 0) []:=⟨Y5.nil _ _ _ _,Sm,Sm,Sm⟩
theorem mono (h:Zi S w v l) (hs:∀k,k<w.heap.size→S k→S' k):Zi S' w v l :=
 ⟨⟨h.row.1,fun k hk=>hs k (h.row.lt k hk) (h.row.2 k hk)⟩,fun p hp=>⟨(h.kid p hp).1,fun k hk=>hs k ((h.kid p hp).lt k hk) ((h.kid p hp).2 k hk)⟩,h.sep0,h.sep1⟩
theorem kept (h:Zi S w v l) (k:Q0 S' w w') (hn:∀k,S k→¬ S' k):Zi S w' v l :=
 ⟨h.row.kept k (fun b hb=>hn b (h.row.2 b hb)),fun p hp=>(h.kid p hp).kept k (fun b hb=>hn b ((h.kid p hp).2 b hb)),h.sep0,h.sep1⟩
theorem nobk (h:Zi S w v l) (k:Q0 nob w w'):Zi S w' v l:=h.kept k (fun _ _ h=>h)
theorem lt (h:Zi S w v l):∀k,own v k→k<w.heap.size:=fun k hk=>h.row.lt k hk
theorem nodes (h:Zi S w v l) (hl:l.length≤140737488355328) (hk:∀p∈l,p.1.kids.length≤140737488355328):Xg w v (l.map Prod.fst):=by
 obtain⟨A,b,c,rfl,hn,hnc,hA,hc⟩:=h.row.opened
 refine⟨A,b,0,c,by rw[List.length_map],by rw[List.length_map];exact hl,by rw[List.length_map];exact hnc,fun h0=>(hA (by rwa [List.length_map] at h0)).1,fun j x hx=>?_⟩
 rw[List.getElem?_map,Option.map_eq_some_iff] at hx;obtain⟨p,hp,rfl⟩:=hx;have hg:=fun k (hk:k<4)=>Q4x (f:=fun p:Qn×Value=>Q38 p.1 p.2) (m:=4) (fun _=>rfl) hp hk
 refine⟨p.2,?_,?_,?_,?_,(h.kid p (Mg hp)).ints (hk p (Mg hp))⟩
 ·rw[Nat.zero_add];exact hc _ _ (hg 0 Om)
 ·rw[Nat.zero_add];exact hc _ _ (hg 1 Om)
 ·rw[Nat.zero_add];exact hc _ _ (hg 2 Om)
 ·rw[Nat.zero_add];exact hc _ _ (hg 3 Om)
end Zi
def Zy (top:Int):List Int→Int→Int
 |[],a=>a
 |i::l,a=>Zy top l (if i<top then i+1 else a)
def X4 (t:Q1) (top:Int):Int:=Zy top t.tops 0
theorem Qjk (t:Q1) (b o:Nat) (top:Int) (w:World) (h:J8 w b o t) (ht:∀i∈t.tops,InT t i) :
  Calls prog 42 #[.pointer (some ⟨b,o,none⟩),.int .i64 top] w fun e w'=>e=.returned (.int .i64 (X4 t top))∧w=w':=by
 obtain⟨v0,v1,h0,h1,⟨_,_,_,_,_,hnl,_⟩,⟨A,tb,tq,c,rfl,hl,hlc,hA,hc⟩⟩:=h;have HC:=Hh hc;have HT:=Hh ht;obtain⟨X,hX⟩:∃X,X=X4 t top:=⟨_,rfl⟩;have HX:Hi (X=Zy top (t.tops.drop 0) 0):=Hh hX;rw[← hX];clear hc hX ht;go_enter func42,ntmps42;go_wp2_with fail;go_loop [5,7,13] (fun a _ k=>∃(j:Nat) (x:Int),j≤t.tops.length∧k=.int .i64 j∧a=.int .i64 x∧Hi (X=Zy top (t.tops.drop j) x)) (fun _ _ k=>t.tops.length-(intOf k).toNat)
 case atStart=>exact⟨0,0,Nat.zero_le _,rfl,rfl,HX⟩
 case round =>
  obtain⟨j,x,hj,rfl,rfl,HR⟩:=hrel
  by_cases hlt:j<t.tops.length
  ·obtain⟨i,hi⟩:=Q4 hlt
   have c0:=HC.o j i hi;obtain rfl:=hA Om;have hjn:(j:Int)<(t.tops.length:Int):=Om
   obtain⟨hi0,hi1⟩:=HT.o i (Mg hi);have hw:IntKind.i64.wrap (i+1)=i+1:=by rw[IntKind.wrap_i64];omega
   have hw2:wrap64 (i+1)=i+1:=by unfold wrap64;omega
   have HN:Hi (X=Zy top (t.tops.drop (j+1)) (if i<top then i+1 else x)):=Hh (by rw[HR.o,Qh hi];rfl);clear hi;cases tc:decide (i<top) with
   |true =>
    go_wp2_with fail;go_round
    case rel=>exact⟨j+1,i+1,Om,Gm,rfl,Hh (by rw[HN.o,Ps (of_decide_eq_true tc)])⟩
    case measure=>exact Me
   |false =>
    go_wp2_with fail;go_round
    case rel=>exact⟨j+1,x,Om,Gm,rfl,Hh (by rw[HN.o,Ng (of_decide_eq_false tc)])⟩
    case measure=>exact Me
  ·have hjn:¬ (j:Int)<(t.tops.length:Int):=Om
   go_wp2_with fail;go_ret;exact⟨Jo (by rw[HR.o,Dn Om];rfl),rfl⟩
theorem Q7m (t:Q1) (b o:Nat) (name:ByteArray) (w:World) (h:J8 w b o t) (ht:∀i∈t.tops,InT t i) :
  Calls prog 39 #[.pointer (some ⟨b,o,none⟩),.string name] w fun e w'=>e=.returned (.int .i64 (Q3 t t.tops name))∧w=w':=by
 obtain⟨v0,v1,h0,h1,⟨nA,nb,no,nc,rfl,hnl,Qpf,hnA,hnc⟩,⟨A,tb,tq,c,rfl,hl,hlc,hA,hc⟩⟩:=h;have HC:=Hh hc;have HT:=Hh ht;have HNC:=Hh hnc;obtain⟨X,hX⟩:∃X,X=Q3 t t.tops name:=⟨_,rfl⟩;have HX:Hi (X=Q3 t (t.tops.drop 0) name):=Hh hX;rw[← hX];clear hc hX ht hnc;go_enter func39,ntmps39;go_wp2_with fail;go_loop [6,12] (fun _ k=>∃j:Nat,j≤t.tops.length∧k=.int .i64 j∧Hi (X=Q3 t (t.tops.drop j) name)) (fun _ k=>t.tops.length-(intOf k).toNat)
 case atStart=>exact⟨0,Nat.zero_le _,rfl,HX⟩
 case round =>
  obtain⟨j,hj,rfl,HR⟩:=hrel
  by_cases hlt:j<t.tops.length
  ·obtain⟨i,hi⟩:=Q4 hlt
   have c0:=HC.o j i hi;obtain rfl:=hA Om;have hjn:(j:Int)<(t.tops.length:Int):=Om
   obtain⟨mi,rfl,hn⟩:=Q1.at_lt (HT.o i (Mg hi));have hmn:(mi:Int)<t.nodes.length:=(HT.o _ (Mg hi)).2;obtain⟨kv,_,d1,_⟩:=HNC.o mi _ hn;obtain rfl:=hnA Om;have HN:Hi (X=(if (t.at (mi:Int)).text=name then (mi:Int) else Q3 t (t.tops.drop (j+1)) name)):=Hh (by rw[HR.o,Qh hi];rfl);generalize t.at (mi:Int)=nd at *;clear hi hn;cases ty:(nd.text.toList==name.toList) with
   |true =>
    go_wp2_with fail;go_ret;exact⟨Jo (by rw[HN.o,Ps (Q04 ty)]),rfl⟩
   |false =>
    go_wp2_with fail;go_round
    case rel=>exact⟨j+1,Om,Gm,Hh (by rw[HN.o,Ng (Q1p ty)])⟩
    case measure=>exact Me
  ·have hjn:¬ (j:Int)<(t.tops.length:Int):=Om
   go_wp2_with fail;go_ret;exact⟨Jo (by rw[HR.o,Dn Om];rfl),rfl⟩
theorem Qce {b T:Nat}:∀(vs:List Value) (o:Nat) (w:World) (cs:List Value),Blk w b cs T→o+vs.length≤cs.length →
  ∃cs',Blk (w.setCells b o vs) b cs' T∧cs'.length=cs.length∧(∀i,i<o→cs'[i]?=cs[i]?)∧∀j,j<vs.length→cs'[o+j]?=vs[j]?:=by
 intro vs
 induction vs with
 |nil=>intro o w cs h _;exact⟨cs,h,rfl,fun _ _=>rfl,fun j hj=>by simp at hj⟩
 |cons v vs ih =>
  intro o w cs h hl;simp only[List.length_cons] at hl;obtain⟨cs',h1,h2,h3,h4⟩:=ih (o+1) _ _ (h.set o v) So
  refine⟨cs',h1,by rw[h2];simp,fun i hi=>by rw[h3 i Om,List.getElem?_set_ne Om],fun j hj=>?_⟩
  cases j with
  |zero=>rw[Nat.add_zero,h3 o Om,List.getElem?_set_self Om];rfl
  |succ j=>have:=h4 j (by simpa using hj);rw[show o+(j+1)=o+1+j by omega,this];rfl
theorem Qab {b:Nat}:∀(vs:List Value) (o:Nat) (w:World),Q0 (fun k=>k=b) w (w.setCells b o vs):=by
 intro vs
 induction vs with
 |nil=>intro o w;exact Kr _ _
 |cons v vs ih=>intro o w;exact ((Kr (fun k=>k=b) w).setCell (p:=⟨b,o,none⟩) (.inl rfl) v).trans (ih _ _)
theorem Qb2 (w:World) (os:Array Obj):Q0 nob w (Go.Sort.grow w os):=⟨rfl,rfl,rfl,by simp[Go.Sort.grow],fun k hk _=>by simp only[Go.Sort.grow];rw[Array.getElem?_append_left hk]⟩
theorem Qc.laid {S:Nat→Prop} {e:TypeId} {w:World} {g cap:Nat} {xs ys:List Value} (h:Qc S e w (.slice (some ⟨g,0,none⟩) xs.length cap) xs) (hl:ys.length=xs.length) (q:Nat) (os:Array Obj) :
  Qc S e (Go.Sort.grow ((w.drewN q).setCells g 0 ys) os) (.slice (some ⟨g,0,none⟩) xs.length cap) ys∧Q0 (fun k=>k=g) w (Go.Sort.grow ((w.drewN q).setCells g 0 ys) os):=by
 have hk:Q0 (fun k=>k=g) w (Go.Sort.grow ((w.drewN q).setCells g 0 ys) os):=(((Kr _ w).drewN q).trans (Qab ys 0 _)).trans ((Qb2 _ os).ofNob _);refine⟨?_,hk⟩;rcases h.1.2 with ⟨h1,_⟩|⟨g',cap',cur,h1,h0,hh,hnc,hcm,hcs,ht⟩
 ·cases h1
 ·cases h1
  have hb:Blk w g cur.toList e:=by simpa[Blk] using hh
  have Qnm:xs.length≤cur.toList.length:=by simp[hcs];omega
  obtain⟨cs',b1,b2,_,b4⟩:=Qce ys 0 (w.drewN q) cur.toList (hb.drewN q) Om;have b5:=b1.kept (Qb2 _ os) id;refine⟨⟨by rw[hl];simp,.inr ⟨g,cap,cs'.toArray,by rw[hl],h0,b5,Om,hcm,by simp[b2,hcs],?_⟩⟩,h.2⟩;apply List.ext_getElem?;intro j;rw[List.getElem?_take]
  by_cases hj:j<ys.length
  ·rw[Ps Om]
   have:=b4 j hj
   rwa [Nat.zero_add] at this
  ·rw[Ng Om,List.getElem?_eq_none Om]
theorem Qc.holds {S:Nat→Prop} {w:World} {g cap:Nat} {zs:List Int} (h:Qc S 3 w (.slice (some ⟨g,0,none⟩) zs.length cap) (Q5 zs)):Go.Sort.Holds (Value.int .i64) w g 0 zs.toArray∧g<w.heap.size∧zs.length≤cap∧zs.length≤9223372036854775807:=by
 obtain⟨A,b,c,hv,hl,hlc,hA,hc⟩:=h.opened;injection hv with h1 h2 h3
 rw[Q2] at hl hlc hA
 refine⟨fun j hj=>?_,h.lt g rfl,by rw[h3];exact hlc,hl⟩
 have hj':j<zs.length:=by simpa using hj
 have h4:=(hA Om).1;rw[← h1] at h4;cases h4;obtain⟨c1,c2⟩:=hc j (.int .i64 zs[j]) (by simp[Q5,hj']);rw[Nat.zero_add];exact⟨by rw[c1];simp[hj'],c2⟩
def X3 (zs:List Int):List Int:=zs.mergeSort fun x y=>decide (x≤y)
theorem Qmg {S:Nat→Prop} {w:World} {v:Value} {zs:List Int} (h:Qc S 3 w v (Q5 zs)) (hz:zs.length≤17000000000000) :
  Calls prog 76 #[v] w fun e w'=>e=.returned (.tuple #[])∧Qc S 3 w' v (Q5 (X3 zs))∧Q0 (own v) w w':=by
 have hsl:(X3 zs).length=zs.length:=by unfold X3;exact List.length_mergeSort _
 rcases h.1.2 with ⟨rfl,h0⟩|⟨g,cap,cur,rfl,_⟩
 ·rw[Q2] at h0
  have hzs:zs=[]:=List.eq_nil_of_length_eq_zero h0;subst hzs;refine (Any.slices_Sort_int_none Qgs none 0 w).mono ?_;rintro e w' ⟨rfl,rfl⟩;exact⟨rfl,by rw[List.eq_nil_of_length_eq_zero (l:=X3 []) hsl];exact Qc.nil _ _ _,Kr _ _⟩
 ·rw[Q2] at h ⊢
  obtain⟨h1,h2,h3,h4⟩:=h.holds;refine (Any.slices_Sort_int Qgs g 0 cap zs w h1 h2 Om).mono ?_;rintro e w' ⟨rfl,q,os,rfl⟩;have e9:=Lib.sorted_world (Value.int .i64) w g 0 q zs.toArray (zs.mergeSort fun x y=>decide (x≤y)) os h1 Sm;have h':=h;rw[show zs.length=(Q5 zs).length from (Q2 _).symm] at h';obtain⟨k1,k2⟩:=h'.laid (ys:=Q5 (X3 zs)) (by rw[Q2,Q2,hsl]) q os;rw[e9];rw[Q2] at k1;exact⟨rfl,k1,k2.mono fun k _ e=>by show some g=some k;rw[e]⟩
def LeUp (zs:List Int):Prop:=zs.Pairwise (·≤·)
theorem Qau (zs:List Int):LeUp (X3 zs):=by
 have h:=List.pairwise_mergeSort (le:=fun x y:Int=>decide (x≤y)) (fun a b c h1 h2=>by simp at h1 h2 ⊢;omega) (fun a b=>by simp;omega) zs;exact h.imp (fun h=>by simpa using h)
theorem Q9u (zs:List Int) (x:Int):x∈X3 zs↔x∈zs:=List.mem_mergeSort
theorem Q8u {zs:List Int} (h:LeUp zs):(Lib.compact zs).Pairwise (·<·)∧∀x,x∈Lib.compact zs↔x∈zs:=by
 have hp:=List.pairwise_iff_getElem.1 h
 have hle:∀i j (hi:i<zs.length) (hj:j<zs.length),i≤j→zs[i]≤zs[j]:=fun i j hi hj hij=>by
  by_cases e:i=j
  ·subst e;exact Int.le_refl _
  ·exact hp i j hi hj Om
 have hg:∀j (hj:j<zs.length),zs.toArray[j]! = zs[j]:=fun j hj=>by rw[List.getElem!_toArray,getElem!_pos zs j hj]
 unfold Lib.compact Lib.compactUpTo;constructor
 ·rw[List.pairwise_map,List.pairwise_filter]
  refine (List.pairwise_lt_range).imp_of_mem fun {i j} hi hj hij k1 k2=>?_
  have hi:=List.mem_range.1 hi;have hj:=List.mem_range.1 hj;unfold Lib.keeps at k2;rw[decide_eq_true_iff] at k2;rcases k2 with k2|k2
  ·omega
  ·rw[hg j hj,hg (j-1) Om] at k2
   rw[hg i hi,hg j hj];have h1:=hle i (j-1) hi Om Om;have h2:=hle (j-1) j Om hj Om;omega
 ·intro x
  simp only[List.mem_map,List.mem_filter,List.mem_range];constructor
  ·rintro⟨j,⟨hj,_⟩,rfl⟩
   rw[hg j hj];exact List.getElem_mem _
  ·intro hx
   obtain⟨j,hj,rfl⟩:=List.mem_iff_getElem.1 hx
   have key:∀m (hm:m<zs.length),∃i,(i<zs.length∧Lib.keeps zs.toArray i=true)∧zs.toArray[i]! = zs[m]:=by
    intro m
    induction m with
    |zero=>intro hm;exact⟨0,⟨hm,by simp[Lib.keeps]⟩,hg 0 hm⟩
    |succ m ih =>
     intro hm
     by_cases e:zs[m+1]=zs[m]
     ·obtain⟨i,h1,h2⟩:=ih Om
      exact⟨i,h1,by rw[h2,e]⟩
     ·refine⟨m+1,⟨hm,?_⟩,hg _ hm⟩
      unfold Lib.keeps;rw[decide_eq_true_iff];right;rw[hg _ hm,hg (m+1-1) Om];exact e
   exact key j hj
theorem Qdo (zs:List Int):(Lib.compact zs).length≤zs.length:=by
 unfold Lib.compact Lib.compactUpTo;rw[List.length_map];refine Nat.le_trans (List.length_filter_le _ _) ?_;simp
theorem Qgh {S:Nat→Prop} {w:World} {v:Value} {zs:List Int} (h:Qc S 3 w v (Q5 zs)) :
  Calls prog 77 #[v] w fun e w'=>∃v',e=.returned v'∧Qc S 3 w' v' (Q5 (Lib.compact zs))∧Q0 (own v) w w':=by
 rcases h.1.2 with ⟨rfl,h0⟩|⟨g,cap,cur,rfl,_⟩
 ·rw[Q2] at h0
  have hzs:zs=[]:=List.eq_nil_of_length_eq_zero h0;subst hzs;refine (Any.slices_Compact_int_empty Qba none 0 w).mono ?_;rintro e w' ⟨rfl,rfl⟩;exact⟨_,rfl,Qc.nil _ _ _,Kr _ _⟩
 ·rw[Q2] at h ⊢
  obtain⟨h1,h2,h3,h4⟩:=h.holds;have hcl:=Qdo zs;refine (Any.slices_Compact_int Qba g 0 cap zs w h1 h4 h3).mono ?_;rintro e w' ⟨rfl,q,rfl⟩;have e9:=Lib.sorted_world (Value.int .i64) w g 0 q zs.toArray (Lib.compact zs++List.replicate (zs.length-(Lib.compact zs).length) 0) #[] h1 So;have h':=h;rw[show zs.length=(Q5 zs).length from (Q2 _).symm] at h';obtain⟨k1,k2⟩:=h'.laid (ys:=Q5 (Lib.compact zs++List.replicate (zs.length-(Lib.compact zs).length) 0)) (by rw[Q2,Q2];simp;omega) q #[];rw[Go.Sort.grow_empty,Go.Sort.grow_empty] at e9;rw[Go.Sort.grow_empty] at k1 k2;have e7:(Q5 zs).length=(Q5 (Lib.compact zs++List.replicate (zs.length-(Lib.compact zs).length) 0)).length:=by rw[Q2,Q2];simp;omega
  have k3:=k1.take (A:=some ⟨g,0,none⟩) (c:=cap) (by rw[e7]) (Lib.compact zs).length (by rw[Q2];simp);rw[show (Q5 (Lib.compact zs++List.replicate (zs.length-(Lib.compact zs).length) 0)).take (Lib.compact zs).length=Q5 (Lib.compact zs) by simp[Q5]] at k3;rw[e9];exact⟨_,rfl,k3,k2.mono fun k _ e=>by show some g=some k;rw[e]⟩
theorem Qc9 {S:Nat→Prop} {w:World} {v:Value} {zs:List Int} (h:Qc S 3 w v (Q5 zs)) (hz:zs.length≤17000000000000) :
  Calls prog 40 #[v] w fun e w'=>∃v',e=.returned v'∧Qc S 3 w' v' (Q5 (Lib.compact (X3 zs)))∧Q0 S w w':=by
 have H:=Hh h;go_enter func40,ntmps40;go_wp2_with (first|(go_at_call 76;refine (Qmg H.o hz).mono ?_;rintro e w1 ⟨rfl,ho1,hk1⟩;have HO1:=Hh ho1;have HK1:=Hh hk1;clear ho1 hk1)|(go_at_call 77;refine (Qgh HO1.o).mono ?_;rintro e w2 ⟨v2,rfl,ho2,hk2⟩;have HO2:=Hh ho2;have HK2:=Hh hk2;clear ho2 hk2));go_returns;exact⟨_,rfl,HO2.o,(HK1.o.mono fun k _ e=>H.o.2 k e).trans (HK2.o.mono fun k _ e=>H.o.2 k e)⟩
def Jr (s s':CS):Prop:=s'.tops=s.tops∧(s'.code=0→s.code=0)
namespace Jr
theorem rfl' (s:CS):Jr s s:=⟨rfl,id⟩
theorem trans {s s1 s2:CS} (h:Jr s s1) (k:Jr s1 s2):Jr s s2:=⟨k.1.trans h.1,fun c=>h.2 (k.2 c)⟩
theorem fail (s:CS) (c n:Int):Jr s (s.fail c n):=by unfold CS.fail;split;exact⟨rfl,fun _=>by assumption⟩;exact rfl' s
theorem kindIs (s:CS) (a b c:Int):Jr s (Qp s a b c):=by unfold Qp;split;exact rfl' s;exact fail _ _ _
theorem column (r:Reg) (s:CS) (a:ByteArray) (b:Int):Jr s (Qi r s a b).2:=by
 unfold Qi;split;exact fail _ _ _;split;exact rfl' s;exact fail _ _ _
theorem named (r:Reg) (s:CS) (o:Int) (a:ByteArray) (b:Int):Jr s (J4 r s o a b).2:=by unfold J4;split;exact fail _ _ _;exact rfl' s
theorem twice (t:Q1) (s:CS) (k:Int):Jr s (Qx t s k):=by unfold Qx;split;exact fail _ _ _;exact rfl' s
theorem args (t:Q1) (i:Int) (ks ps:List Int) (s:CS):Jr s (Yl t i ks ps s):=by
 induction ks generalizing ps s with
 |nil=>exact rfl' s
 |cons k ks ih=>cases ps with
  |nil=>exact rfl' s
  |cons p ps=>exact (kindIs _ _ _ _).trans (ih ps _)
theorem expr (r:Reg) (t:Q1) (s:CS) (i:Int) (n:Qn):Jr s (Zw r t s i n).2:=by
 unfold Zw;split;exact rfl' s;split;exact rfl' s;split;exact rfl' s;split
 ·split;exact fail _ _ _;exact⟨rfl,id⟩
 split;exact column _ _ _ _;split;exact named _ _ _ _ _;split
 ·unfold Q36
  dsimp only;split;exact fail _ _ _;split;exact fail _ _ _;exact (args t i n.kids (t.at (Q3 t s.tops n.text)).kids s).trans ⟨rfl,id⟩
 ·unfold Yv;dsimp only;split;exact rfl' s;exact fail _ _ _
theorem stmt (r:Reg) (t:Q1) (s:CS) (i:Int) (n:Qn):Jr s (Qy r t s i n):=by
 unfold Qy;split
 ·split;exact fail _ _ _;exact⟨rfl,id⟩
 split
 ·split;exact fail _ _ _;exact Jr.trans (s1:=s.setBind i _) ⟨rfl,id⟩ (kindIs _ _ _ _)
 split;exact (column _ _ _ _).trans (kindIs _ _ _ _);split;exact (named _ _ _ _ _).trans (kindIs _ _ _ _);split;exact (named _ _ _ _ _).trans (kindIs _ _ _ _);split;exact (named _ _ _ _ _).trans (kindIs _ _ _ _);split;exact named _ _ _ _ _;exact rfl' s
theorem pick (r:Reg) (t:Q1) (i k1:Int) (s:CS) (k:Int):Jr s (pickStep r t i k1 s k):=by
 unfold pickStep;dsimp only
 have h1:Jr s (if k=k1 then (Qi r s (t.at k).text k).2.setKind i (Qi r s (t.at k).text k).1 else (Qi r s (t.at k).text k).2):=by
  split
  ·exact (column r s (t.at k).text k).trans ⟨rfl,id⟩
  ·exact column r s (t.at k).text k
 generalize (if k=k1 then (Qi r s (t.at k).text k).2.setKind i (Qi r s (t.at k).text k).1 else (Qi r s (t.at k).text k).2)=s1 at h1 ⊢;split
 ·exact h1
 ·exact h1.trans (fail _ _ _)
theorem picks (r:Reg) (t:Q1) (i k1:Int) (l:List Int) (s:CS):Jr s (l.foldl (pickStep r t i k1) s):=by
 induction l generalizing s with
 |nil=>exact rfl' s
 |cons k l ih=>exact (pick r t i k1 s k).trans (ih _)
theorem each (r:Reg) (t:Q1) (l:List Int) (s:CS) (all:List Int):Jr s (eachL r t l (s,all)).1:=by
 induction l generalizing s all with
 |nil=>exact rfl' s
 |cons k l ih =>
  simp only[eachL];refine Jr.trans ?_ (ih _ _);split;exact fail _ _ _;split;exact fail _ _ _;exact rfl' s
theorem param (t:Q1) (s:CS) (k:Int):Jr s (Jl t s k):=(twice t s k).trans ⟨rfl,id⟩
theorem params (t:Q1) (l:List Int) (s:CS):Jr s (l.foldl (Jl t) s):=by
 induction l generalizing s with
 |nil=>exact rfl' s
 |cons k l ih=>exact (param t s k).trans (ih _)
end Jr
def Q09 (t:Q1) (T:List Int) (lo e:Int):Prop:=∀j,lo≤j→j<e→(t.at j).kind=7→0≤Q3 t T (t.at j).text
theorem Q09.app {t:Q1} {T:List Int} {a b c:Int} (h:Q09 t T a b) (k:Q09 t T b c):Q09 t T a c:=fun j h1 h2=>by
 by_cases hj:j<b
 ·exact h j h1 hj
 ·exact k j Om h2
theorem Q09.one {t:Q1} {T:List Int} {i:Int} (h:(t.at i).kind≠7):Q09 t T i (i+1):=fun j h1 h2 h7=>absurd (show (t.at i).kind=7 by rw[show i=j by omega];exact h7) h
theorem Q09.nil {t:Q1} {T:List Int} {a:Int}:Q09 t T a a:=fun j h1 h2=>by omega
theorem Q3i {t:Q1} {T:List Int}:∀(l:List Int) (lo e:Int),Zu t lo l e→(∀k∈l,(t.at k).kids=[]∧(t.at k).kind≠7)→Q09 t T lo e:=by
 intro l
 induction l with
 |nil=>intro lo e h _;have h:lo=e:=h;subst h;exact Q09.nil
 |cons k l ih =>
  intro lo e h hl;obtain⟨h1,h2⟩:=h;obtain⟨k1,k2⟩:=hl k Sm;have h3:=h1.kids;rw[k1] at h3;have h3:lo=k:=h3;subst h3;exact (Q09.one k2).app (ih _ _ h2 (fun x hx=>hl x (by simp[hx])))
def Q8p (t:Q1) (W:CS→Int→CS) (i:Int):Prop:=∀s,Jr s (W s i)∧∀lo,Q1b t lo i→(W s i).code=0→Q09 t s.tops lo (i+1)
theorem Q0n {t:Q1} {W:CS→Int→CS}:∀(l:List Int),(∀k∈l,Q8p t W k)→∀s,Jr s (Qb W s l)∧∀lo e,Zu t lo l e→(Qb W s l).code=0→Q09 t s.tops lo e:=by
 intro l
 induction l with
 |nil=>intro _ s;exact⟨Jr.rfl' s,fun lo e h _=>by have h:lo=e:=h;subst h;exact Q09.nil⟩
 |cons k l ih =>
  intro hl s;have hc:Qb W s (k::l)=Qb W (if s.code=0 then W s k else s) l:=rfl;rw[hc];obtain⟨h1,h2⟩:=hl k Sm s
  by_cases h0:s.code=0
  ·rw[Ps h0]
   obtain⟨h3,h4⟩:=ih (fun x hx=>hl x (by simp[hx])) (W s k)
   refine⟨h1.trans h3,fun lo e hch hco=>?_⟩
   have h5:=h4 (k+1) e hch.2 hco;rw[h1.1] at h5;exact (h2 lo hch.1 (h3.2 hco)).app h5
  ·rw[Ng h0]
   obtain⟨h3,_⟩:=ih (fun x hx=>hl x (by simp[hx])) s;exact⟨h3,fun lo e _ hco=>absurd (h3.2 hco) h0⟩
theorem Q6s {t:Q1} (hn:Qs t=true) {k:Int} (hk:InT t k) (h:(t.at k).kind=31∨(t.at k).kind=32):(t.at k).kids=[]∧(t.at k).kind≠7:=by
 have hs:=Q13 hn hk Om;unfold Jf at hs;rw[Ng Om,Ng Om,Ng Om,Ng Om,Ps h] at hs;exact⟨by simpa using hs,Om⟩
theorem Q8z {t:Q1} {T:List Int} (hn:Qs t=true) (hK:Qk t) {k lo:Int} (hk:InT t k) (h:(t.at k).kind=29∨(t.at k).kind=30) (hsp:Q1b t lo k):Q09 t T lo (k+1):=by
 have hs:=Q13 hn hk Om;unfold Jf at hs;rw[Ng Om,Ng Om] at hs
 have Qoz:∀x∈(t.at k).kids,(t.at x).kind=31:=by
  intro x hx;rcases h with h|h
  ·rw[Ps h] at hs
   simp only[Bool.and_eq_true] at hs;exact Yq (Ym hs.2 hx)
  ·rw[Ng Om,Ps h] at hs
   exact Yq (Ym hs hx)
 exact (Q3i _ _ _ hsp.kids (fun x hx=>Q6s hn (hk.kid hK hx) (.inl (Qoz x hx)))).app (Q09.one Om)
theorem Qg0 {r:Reg} {t:Q1} {W:CS→Int→CS}:∀(l:List Int) (names:List ByteArray),(∀k∈l,(t.at k).kind≠7∧∀x∈(t.at k).kids,Q8p t W x)→∀s,Jr s (Xe r t W l names s)∧∀lo e,Zu t lo l e→(Xe r t W l names s).code=0→Q09 t s.tops lo e:=by
 intro l
 induction l with
 |nil=>intro names _ s;exact⟨Jr.rfl' s,fun lo e h _=>by have h:lo=e:=h;subst h;exact Q09.nil⟩
 |cons k l ih =>
  intro names hl s;obtain⟨h7,hk⟩:=hl k Sm;obtain⟨h1,h2⟩:=Q0n (t:=t) (W:=W) (t.at k).kids hk s;simp only[Xe]
  by_cases h0:(Qb W s (t.at k).kids).code≠0
  ·rw[Ps h0];exact⟨h1,fun lo e _ hc=>absurd hc h0⟩
  ·rw[Ng h0]
   have h3:=Jr.named r (Qb W s (t.at k).kids) 1 (t.at k).text k;generalize J4 r (Qb W s (t.at k).kids) 1 (t.at k).text k=c at h3 ⊢
   have h4:Jr c.2 (if Zr (t.at k).text names=true then c.2.fail 2 k else c.2):=by
    split
    ·exact Jr.fail _ _ _
    ·exact Jr.rfl' _
   generalize (if Zr (t.at k).text names=true then c.2.fail 2 k else c.2)=s2 at h4 ⊢;have h5:=Jr.kindIs s2 (kidAt (t.at k) 0) c.1 k;obtain⟨h6,h8⟩:=ih (names++[(t.at k).text]) (fun x hx=>hl x (by simp[hx])) (Qp s2 (kidAt (t.at k) 0) c.1 k);have h9:=h3.trans (h4.trans h5)
   refine⟨h1.trans (h9.trans h6),fun lo e hch hco=>?_⟩
   obtain⟨c1,c2⟩:=hch;have q1:=h2 lo k c1.kids (h9.2 (h6.2 hco));have q2:=h8 (k+1) e c2 hco;rw[h9.1,h1.1] at q2;exact (q1.app (Q09.one h7)).app q2
theorem Q09.tops {t:Q1} {T T':List Int} {lo e:Int} (h:Q09 t T lo e) (e9:T'=T):Q09 t T' lo e:=by rw[e9];exact h
theorem Q7f {r:Reg} {t:Q1} (hn:Qs t=true) (hK:Qk t):∀(f:Nat) (i:Int),InT t i→i<f→Q8p t (Q8 r t f) i:=by
 intro f
 induction f with
 |zero=>intro i hi h;have:=hi.1;omega
 |succ f ih =>
  intro i hi hif s;have kid:∀k∈(t.at i).kids,InT t k∧Q8p t (Q8 r t f) k:=fun k hk=>⟨hi.kid hK hk,ih k (hi.kid hK hk) (by have:=(hK.mem hi hk).2;omega)⟩
  have kids:=fun (l:List Int) (hl:∀k∈l,k∈(t.at i).kids) s=>Q0n (t:=t) (W:=Q8 r t f) l (fun k hk=>(kid k (hl k hk)).2) s
  generalize hW:Q8 r t f=W at *;cases hm:Yt t s (t.at i).kind with
  |false =>
   rw[Q45 hm]
   refine⟨Jr.fail _ _ _,fun lo _ hc=>?_⟩
   exfalso;unfold CS.fail at hc;split at hc
   ·cases hc
   ·rename_i h;exact h hc
  |true =>
  by_cases h33:(t.at i).kind=33
  ·have e:Q8 r t (f+1) s i=fnF t W s i (t.at i):=by unfold Q8;dsimp only;rw[hm,hW];rw[Ps rfl,Ps h33]
   rw[e];obtain⟨ps,b,Qoy⟩:=Q9e hn hK hi Om;have Qnf:=Qoy.kids
   have Qyi:(t.at b).kind=27:=by
    have hs:=Q13 hn hi Om;unfold Jf at hs;rw[Ng Om,Ng Om,Ng Om,Ng Om,Ng Om,Ps h33,Qnf] at hs;simp only[List.getLast?_append,List.getLast?_singleton,Option.some_or,Bool.and_eq_true] at hs;exact Yq hs.2
   have hps:∀k∈ps,k∈(t.at i).kids:=fun k hk=>by rw[Qnf];simp[hk]
   have hbm:b∈(t.at i).kids:=by rw[Qnf];simp
   have hbi:=(kid b hbm).1
   have hpk:∀k∈ps,(t.at k).kids=[]∧(t.at k).kind≠7:=fun k hk=>by
    have hs:=Q13 hn hi Om;unfold Jf at hs;rw[Ng Om,Ng Om,Ng Om,Ng Om,Ng Om,Ps h33,Qnf] at hs;simp only[List.getLast?_append,List.getLast?_singleton,Option.some_or,List.dropLast_concat,Bool.and_eq_true] at hs;exact Q6s hn (kid k (hps k hk)).1 (.inr (Yq (Ym hs.1 hk)))
   have hgl:(t.at i).kids.getLast?.getD 0=b:=by rw[Qnf];simp
   have hdl:(t.at i).kids.dropLast=ps:=by rw[Qnf];simp
   unfold fnF;dsimp only;rw[hgl,hdl];have h1:=Jr.params t ps s;generalize ps.foldl (Jl t) s=s1 at h1 ⊢;cases he:Q32 t (t.at b).kids with
   |false =>
    rw[Ng Sm]
    refine⟨h1.trans ((Q0n (t:=t) (W:=W) (t.at b).kids (fun k hk=>?_) s1).1.trans (Jr.fail _ _ _)),fun lo _ hc=>?_⟩
    ·exact ih k (hbi.kid hK hk) (by have:=(hK.mem hbi hk).2;have:=(hK.mem hi hbm).2;omega)
    ·exfalso
     unfold CS.fail at hc;split at hc
     ·cases hc
     ·rename_i h;exact h hc
   |true =>
    rw[Ps rfl];unfold Q32 at he;cases hl:(t.at b).kids.getLast? with
    |none=>rw[hl] at he;cases he
    |some l =>
     rw[hl] at he;have h26:(t.at l).kind=26:=by simpa using he
     have hne:(t.at b).kids≠[]:=by intro h9;rw[h9] at hl;cases hl
     have hbk:(t.at b).kids=(t.at b).kids.dropLast++[l]:=by
      have h9:=hl;rw[List.getLast?_eq_some_getLast hne] at h9;cases h9;exact (List.dropLast_concat_getLast hne).symm
     have hli:InT t l:=hbi.kid hK (by rw[hbk];simp);have hs9:=Yr hn hli (by rw[h26];rfl);unfold Z3 at hs9;rw[h26,Ps Dc] at hs9;obtain⟨x,hx,_⟩:=Xc hs9;have hka:kidAt (t.at ((some l).getD 0)) 0=x:=by simp[kidAt,hx]
     rw[hka];have hb2:=(hK.mem hi hbm).2;have hl2:=(hK.mem hbi (by rw[hbk];simp:l∈(t.at b).kids)).2;have hxm:x∈(t.at l).kids:=by rw[hx];simp
     have hx2:=(hK.mem hli hxm).2;obtain⟨a1,a2⟩:=Q0n (t:=t) (W:=W) (t.at b).kids.dropLast (fun k hk=>ih k (hbi.kid hK (List.dropLast_subset _ hk)) (by have:=(hK.mem hbi (List.dropLast_subset _ hk)).2;omega)) s1;obtain⟨c1,c2⟩:=Q0n (t:=t) (W:=W) [x] (fun k hk=>by simp at hk;subst hk;exact ih k (hli.kid hK hxm) Om) (Qb W s1 (t.at b).kids.dropLast);have c3:=Jr.kindIs (Qb W (Qb W s1 (t.at b).kids.dropLast) [x]) x (t.at i).i i
     refine⟨h1.trans (a1.trans (c1.trans c3)),fun lo hsp hc=>?_⟩
     have hch:=hsp.kids;rw[Qnf] at hch;obtain⟨m,hm1,hm2⟩:=hch.app;obtain⟨hsb,Qp3⟩:=hm2;have Qp3:b+1=i:=Qp3;have hcb:=hsb.kids;rw[hbk] at hcb;obtain⟨m2,hd1,hd2⟩:=hcb.app;obtain⟨hsl,Qph⟩:=hd2;have Qph:l+1=b:=Qph;have hcl:=hsl.kids;rw[hx] at hcl;have Qyj:x+1=l:=hcl.2;have q1:=Q3i (T:=s.tops) ps lo m hm1 hpk;have q2:=(a2 m m2 hd1 (c1.2 (c3.2 hc))).tops h1.1.symm;have q3:=(c2 m2 l hcl (c3.2 hc)).tops ((a1.1.trans h1.1).symm);have q4:Q09 t s.tops l (l+1):=Q09.one Om;have q5:Q09 t s.tops b (b+1):=Q09.one (by rw[Qyi];decide);have q6:Q09 t s.tops i (i+1):=Q09.one Om;rw[Qph] at q4;rw[Qp3] at q5;exact ((((q1.app q2).app q3).app q4).app q5).app q6
  have one:(t.at i).kind≠7→Q09 t s.tops i (i+1):=Q09.one
  by_cases h34:(t.at i).kind=34
  ·have e:Q8 r t (f+1) s i=Qb W s (t.at i).kids:=by unfold Q8;dsimp only;rw[hm,hW];rw[Ps rfl,Ng h33,Ps h34]
   rw[e];obtain⟨h1,h2⟩:=kids _ (fun _ h=>h) s;exact⟨h1,fun lo hsp hc=>(h2 lo i hsp.kids hc).app (one Om)⟩
  by_cases h11:(t.at i).kind=11
  ·rw[Q6j hm h11,hW]
   obtain⟨a,b,ks,hk,_⟩:=Q51 hn hi h11
   have hnm:∀x∈b::ks,(t.at x).kids=[]∧(t.at x).kind≠7:=fun x hx=>by
    have hs:=Qc5 hn hi (by rw[h11];rfl);unfold X9 at hs;rw[h11,Ng Dc,Ng Dc,Ng Dc,Ng Dc,hk] at hs;simp only[Bool.and_eq_true] at hs;exact Q6s hn (kid x (by rw[hk];simp at hx ⊢;exact .inr hx)).1 (.inl (Yq (Ym hs.2 hx)))
   obtain⟨h1,h2⟩:=(kid a (by rw[hk];simp)).2 s;unfold Q4y;have ha:kidAt (t.at i) 0=a:=by simp[kidAt,hk]
   rw[ha];have h3:=(Jr.kindIs (W s a) a 1 i).trans (Jr.picks r t i (kidAt (t.at i) 1) ((t.at i).kids.drop 1) _)
   refine⟨h1.trans h3,fun lo hsp hc=>?_⟩
   have hch:=hsp.kids;rw[hk] at hch;exact ((h2 lo hch.1 (h3.2 hc)).app (Q3i _ _ _ hch.2 hnm)).app (one Om)
  by_cases h16:(t.at i).kind=16∨(t.at i).kind=17
  ·rw[Q2b hm h16,hW]
   obtain⟨a,ks,hk⟩:∃a ks,(t.at i).kids=a::ks:=by
    have hs:=Yr hn hi (by simp[Zs,Q9];omega);unfold Z3 at hs;rw[Ng Om] at hs;rcases h16 with h|h
    ·rw[Ps h,Bool.or_eq_true] at hs
     rcases hs with hs|hs
     ·obtain⟨a,b,e,_⟩:=Y9 hs;exact⟨a,_,e⟩
     ·obtain⟨a,b,c,e,_⟩:=Q22 hs;exact⟨a,_,e⟩
    ·rw[Ng Om,Ps h] at hs
     obtain⟨a,b,e,_⟩:=Y9 hs;exact⟨a,_,e⟩
   unfold Q05;have ha:kidAt (t.at i) 0=a:=by simp[kidAt,hk]
   rw[ha];obtain⟨h1,h2⟩:=(kid a (by rw[hk];simp)).2 s;have h3:=Jr.kindIs (W s a) a (if (t.at i).kind=17 then 1 else 4) i;obtain⟨h4,h5⟩:=kids ((t.at i).kids.drop 1) (fun x hx=>List.mem_of_mem_drop hx) (Qp (W s a) a (if (t.at i).kind=17 then 1 else 4) i)
   refine⟨h1.trans (h3.trans h4),fun lo hsp hc=>?_⟩
   have hch:=hsp.kids;rw[hk] at hch;rw[hk] at h5 h4 hc;exact ((h2 lo hch.1 (h3.2 (h4.2 hc))).app ((h5 (a+1) i hch.2 hc).tops ((h3.1.trans h1.1).symm))).app (one Om)
  by_cases h18:(t.at i).kind=18
  ·rw[Q6b hm h18,hW]
   have hs:=Yr hn hi (by rw[h18];rfl);unfold Z3 at hs;rw[Ng Om,Ng Om,Ng Om,Ps h18] at hs;obtain⟨a,b,c,hk,ka,kb,kc⟩:=Q22 hs;unfold Q40;dsimp only;rw[hk];have h1:=Jr.each r t (t.at (kidAt (t.at i) 0)).kids s [];generalize eachL r t (t.at (kidAt (t.at i) 0)).kids (s,[])=x1 at h1 ⊢;have h2:=Jr.each r t (t.at (kidAt (t.at i) 1)).kids x1.1 x1.2;generalize eachL r t (t.at (kidAt (t.at i) 1)).kids x1=x2 at h2 ⊢;obtain⟨h3,h4⟩:=kids [c] (fun x hx=>by rw[hk];simp at hx ⊢;exact .inr (.inr hx)) {x2.1 with withs:=x1.2,inEach:=true};have h12:Jr s x2.1:=h1.trans h2
   refine⟨⟨h3.1.trans h12.1,fun hc=>h12.2 (h3.2 hc)⟩,fun lo hsp hc=>?_⟩
   have hch:=hsp.kids;rw[hk] at hch;obtain⟨c1,c2,c3⟩:=hch;exact (((Q8z hn hK (kid a (by rw[hk];simp)).1 (.inl (Yq ka)) c1).app (Q8z hn hK (kid b (by rw[hk];simp)).1 (.inr (Yq kb)) c2)).app ((h4 (b+1) i c3 hc).tops h12.1.symm)).app (one Om)
  by_cases h20:(t.at i).kind=20
  ·rw[Q5z hm h20,hW]
   have hs:=Yr hn hi (by rw[h20];rfl);unfold Z3 at hs;rw[Ng Om,Ng Om,Ng Om,Ng Om,Ps h20] at hs;obtain⟨a,b,hk,ka,kb⟩:=Y9 hs;unfold Q3y;dsimp only
   have h1:Jr s ((Qx t ((J4 r s 3 (t.at i).text i).2.setKind (kidAt (t.at i) 0) (J4 r s 3 (t.at i).text i).1) (kidAt (t.at i) 0)).addLocal (kidAt (t.at i) 0)) :=
    (Jr.named r s 3 (t.at i).text i).trans (Jr.trans (s1:=(J4 r s 3 (t.at i).text i).2.setKind (kidAt (t.at i) 0) (J4 r s 3 (t.at i).text i).1) ⟨rfl,id⟩ ((Jr.twice _ _ _).trans ⟨rfl,id⟩))
   generalize (Qx t ((J4 r s 3 (t.at i).text i).2.setKind (kidAt (t.at i) 0) (J4 r s 3 (t.at i).text i).1) (kidAt (t.at i) 0)).addLocal (kidAt (t.at i) 0)=s1 at h1 ⊢;obtain⟨h3,h4⟩:=kids ((t.at i).kids.drop 1) (fun x hx=>List.mem_of_mem_drop hx) {s1 with inHear:=true}
   refine⟨⟨h3.1.trans h1.1,fun hc=>h1.2 (h3.2 hc)⟩,fun lo hsp hc=>?_⟩
   have hch:=hsp.kids;rw[hk] at hch h4;obtain⟨c1,c2⟩:=hch;have hl:=Q6s hn (kid a (by rw[hk];simp)).1 (.inl (Yq ka));have q1:Q09 t s.tops lo (a+1):=Q3i [a] lo (a+1) ⟨c1,rfl⟩ (fun x hx=>by simp at hx;subst hx;exact hl);have hc':(Qb W {s1 with inHear:=true} [b]).code=0:=by rw[hk] at hc;exact hc
   exact (q1.app ((h4 (a+1) i c2 hc').tops h1.1.symm)).app (one Om)
  by_cases h21:(t.at i).kind=21
  ·rw[Q5a hm h21,hW]
   have hs:=Yr hn hi (by rw[h21];rfl);unfold Z3 at hs;rw[Ng Om,Ng Om,Ng Om,Ng Om,Ng Om,Ps h21] at hs;obtain⟨h1,h2⟩:=Qg0 (r:=r) (t:=t) (W:=W) (t.at i).kids [] (fun k hk=>⟨by rw[Yq (Ym hs hk)];decide,fun x hx=>ih x ((kid k hk).1.kid hK hx) (by have:=(hK.mem (kid k hk).1 hx).2;have:=(hK.mem hi hk).2;omega)⟩) s;exact⟨h1,fun lo hsp hc=>(h2 lo i hsp.kids hc).app (one Om)⟩
  obtain⟨h1,h2⟩:=kids (t.at i).kids (fun _ h=>h) s
  by_cases h27:(t.at i).kind=27
  ·have e:Q8 r t (f+1) s i={Qb W s (t.at i).kids with locals:=(Qb W s (t.at i).kids).locals.take s.locals.length}:=by
    unfold Q8;dsimp only;rw[hm,hW];rw[Ps rfl,Ng h33,Ng h34,Ng h11,Ng h16,Ng h18,Ng h20,Ng h21,Ps h27]
   rw[e];exact⟨h1,fun lo hsp hc=>(h2 lo i hsp.kids hc).app (one Om)⟩
  have e:Q8 r t (f+1) s i=(if (Qb W s (t.at i).kids).code≠0 then Qb W s (t.at i).kids else if Qu (t.at i).kind then (Zw r t (Qb W s (t.at i).kids) i (t.at i)).2.setKind i (Zw r t (Qb W s (t.at i).kids) i (t.at i)).1 else Qy r t (Qb W s (t.at i).kids) i (t.at i)):=by
   unfold Q8;dsimp only;rw[hm,hW];rw[Ps rfl,Ng h33,Ng h34,Ng h11,Ng h16,Ng h18,Ng h20,Ng h21,Ng h27]
  rw[e]
  by_cases h0:(Qb W s (t.at i).kids).code≠0
  ·rw[Ps h0];exact⟨h1,fun lo _ hc=>absurd hc h0⟩
  rw[Ng h0];generalize Qb W s (t.at i).kids=s1 at h0 h1 h2 ⊢;have h00:s1.code=0:=by simpa using h0
  split
  ·have h3:=Jr.expr r t s1 i (t.at i)
   refine⟨h1.trans (h3.trans ⟨rfl,id⟩),fun lo hsp hc=>(h2 lo i hsp.kids h00).app fun j hj1 hj2 hj7=>?_⟩
   obtain rfl:j=i:=Om
   have hc:(Zw r t s1 j (t.at j)).2.code=0:=hc;unfold Zw at hc;rw[hj7,Ng Dc,Ng Dc,Ng Dc,Ng Dc,Ng Dc,Ng Dc,Ps rfl] at hc;unfold Q36 at hc;dsimp only at hc;split at hc
   ·exfalso
    unfold CS.fail at hc;rw[Ps h00] at hc;cases hc
   ·rename_i h
    rw[← h1.1];omega
  ·have h3:=Jr.stmt r t s1 i (t.at i)
   rename_i hne
   exact⟨h1.trans h3,fun lo hsp hc=>(h2 lo i hsp.kids h00).app (one (fun h=>hne (by rw[h];rfl)))⟩
end Go.Proofs.YtkgkafjachjafaaGreat
