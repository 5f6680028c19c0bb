/- Part 43 of: FnExactEffects answers true; no condition. -/
import Derived.Deep.RegionHeld3
import Derived.Deep.DeepCutAuto
import Derived.Test.YtkgkafjachjafaaGreatY42
set_option linter.unusedVariables false
set_option maxHeartbeats 2000000
set_option maxRecDepth 100000
open Go Go.RowKit
namespace Go.Proofs.YtkgkafjachjafaaGreat
open Tryz
theorem K0z {p:Prop} (h:p:=by have HXE:Hi (X=rest):=Hh (by rw[HR.o.1,Dn Om];rfl);go_wp2_with fail;go_returns;exact⟨by rw[HXE.o];rfl,HR.o.2.2⟩):p:=h
theorem K10 {p:Prop} (h:p:=by have HE:Hi (X = -1):=Hh (by rw[HX.o,Ps z0]);go_wp2_with fail;go_ret;exact⟨by rw[HE.o];rfl,HK0.o.trans HK1.o⟩):p:=h
theorem Qi1 (n:Qn) (kv:Value) (w:World) (hv:Qf w kv n.kids) (hl:n.kids.length≤1048576) :
  Calls prog 75 #[.agg #[.int .i64 n.kind,.string n.text,.int .i64 n.i,kv]] w fun e w'=>∃u,e=.returned (.agg #[.int .i64 n.kind,.string n.text,.int .i64 n.i,u])∧Qc (Q6 w.heap.size) 3 w' u (Q5 n.kids)∧Q0 nob w w':=by
 have hv':=hv;obtain⟨A0,b0,o0,c0,rfl,_⟩:=hv;obtain⟨kd,tx,i,ks⟩:=n;dsimp only at *;have hk0:Q0 nob w (((w.alloc (.cells #[.int .i64 kd,.string tx,.int .i64 i,.slice A0 ks.length c0] 120 (0,0))).alloc (.cells #[.int .i64 0,.string ⟨#[]⟩,.int .i64 0,.slice none 0 0] 70 (0,0))).alloc (.cells #[.int .i64 kd,.string tx,.int .i64 i,.slice none 0 0] 70 (0,0))):=(((Kr _ _).alloc _).alloc _).alloc _;have hB:Blk (((w.alloc (.cells #[.int .i64 kd,.string tx,.int .i64 i,.slice A0 ks.length c0] 120 (0,0))).alloc (.cells #[.int .i64 0,.string ⟨#[]⟩,.int .i64 0,.slice none 0 0] 70 (0,0))).alloc (.cells #[.int .i64 kd,.string tx,.int .i64 i,.slice none 0 0] 70 (0,0))) w.heap.size [.int .i64 kd,.string tx,.int .i64 i,.slice A0 ks.length c0] 120:=((Blk.new_of _ _ _ rfl).alloc _).alloc _;have hO:Blk (((w.alloc (.cells #[.int .i64 kd,.string tx,.int .i64 i,.slice A0 ks.length c0] 120 (0,0))).alloc (.cells #[.int .i64 0,.string ⟨#[]⟩,.int .i64 0,.slice none 0 0] 70 (0,0))).alloc (.cells #[.int .i64 kd,.string tx,.int .i64 i,.slice none 0 0] 70 (0,0))) (w.heap.size+1) [.int .i64 0,.string ⟨#[]⟩,.int .i64 0,.slice none 0 0] 70:=(Blk.new_of _ _ _ Sm).alloc _;have hL:Blk (((w.alloc (.cells #[.int .i64 kd,.string tx,.int .i64 i,.slice A0 ks.length c0] 120 (0,0))).alloc (.cells #[.int .i64 0,.string ⟨#[]⟩,.int .i64 0,.slice none 0 0] 70 (0,0))).alloc (.cells #[.int .i64 kd,.string tx,.int .i64 i,.slice none 0 0] 70 (0,0))) (w.heap.size+1+1) [.int .i64 kd,.string tx,.int .i64 i,.slice none 0 0] 70:=Blk.new_of _ _ _ Sm;have hst:((((w.alloc (.cells #[.int .i64 kd,.string tx,.int .i64 i,.slice A0 ks.length c0] 120 (0,0))).alloc (.cells #[.int .i64 0,.string ⟨#[]⟩,.int .i64 0,.slice none 0 0] 70 (0,0))).alloc (.cells #[.int .i64 kd,.string tx,.int .i64 i,.slice none 0 0] 70 (0,0)))).heap.size=w.heap.size+3:=Sm
 generalize hW0:(((w.alloc (.cells #[.int .i64 kd,.string tx,.int .i64 i,.slice A0 ks.length c0] 120 (0,0))).alloc (.cells #[.int .i64 0,.string ⟨#[]⟩,.int .i64 0,.slice none 0 0] 70 (0,0))).alloc (.cells #[.int .i64 kd,.string tx,.int .i64 i,.slice none 0 0] 70 (0,0)))=W0 at hk0 hB hO hL hst;have HRD:Hi (Qf W0 (.slice A0 ks.length c0) ks):=Hh (hv'.old hk0.old);have HK0:=Hh hk0;have HL:=Hh hL;have HO:=Hh hO;have HST:=Hh hst;have HLN:=Hh hl;have g0:=hB.cell 3 _ rfl;clear hk0 hO hst hl hB hL hv';go_enter func75,ntmps75;go_upto_region 5 with fail
 clear hW0;go_upto_region 6 with (go_at_call 37;refine (Qbi _ ks _ HRD.o HLN.o).mono ?_;rintro e w1 ⟨u0,rfl,ho,hk⟩;obtain⟨B0,d0,hu⟩:=ho.len;rw[Q2] at hu;subst hu;have hl:=HL.o.kept hk id;have q1:=hl.cell 3 _ rfl;have f1:=hl.free 3;have HL1:=Hh (hl.set 3 (.slice B0 ks.length d0));have HK1:=Hh ((hk.ofNob (fun k=>k=w.heap.size+1+1)).setCell (p:=⟨w.heap.size+1+1,3,none⟩) (.inl rfl) (.slice B0 ks.length d0));have HO1:=Hh (ho.other (p:=⟨w.heap.size+1+1,3,none⟩) (fun e=>by have h:W0.heap.size≤w.heap.size+1+1:=ho.2 _ e;have:=HST.o;omega) (.slice B0 ks.length d0));clear hl ho hk)
 generalize w1.setCell ⟨w.heap.size+1+1,3,none⟩ (.slice B0 ks.length d0)=W1 at *;clear q1 f1 g0;have e0:=HL1.o.cell 0 _ rfl;have e1:=HL1.o.cell 1 _ rfl;have e2:=HL1.o.cell 2 _ rfl;have e3:=HL1.o.cell 3 _ rfl;have hr:=HO.o.kept HK1.o Om;have r0:=hr.cell 0 _ rfl;have r1:=hr.cell 1 _ rfl;have r2:=hr.cell 2 _ rfl;have r3:=hr.cell 3 _ rfl;have f0:=hr.free 0;have f1:=hr.free 1;have f2:=hr.free 2;have f3:=hr.free 3;have hR:=(((hr.set 0 (.int .i64 kd)).set 1 (.string tx)).set 2 (.int .i64 i)).set 3 (.slice B0 ks.length d0);have x0:=hR.cell 0 _ rfl;have x1:=hR.cell 1 _ rfl;have x2:=hR.cell 2 _ rfl;have x3:=hR.cell 3 _ rfl;have HKK:=Hh ((((Kr (fun k=>k=w.heap.size+1) W1).setCell (p:=⟨w.heap.size+1,0,none⟩) (.inl rfl) (.int .i64 kd)).setCell (p:=⟨w.heap.size+1,1,none⟩) (.inl rfl) (.string tx)).setCell (p:=⟨w.heap.size+1,2,none⟩) (.inl rfl) (.int .i64 i) |>.setCell (p:=⟨w.heap.size+1,3,none⟩) (.inl rfl) (.slice B0 ks.length d0));clear hr hR;go_wp2_with fail;have hw0:=HST.o;refine bodyPost_ret (v:=.agg #[.int .i64 kd,.string tx,.int .i64 i,.slice B0 ks.length d0]) (by simp[results,results75,go_sem,x0,x1,x2,x3]) rfl ⟨_,rfl,?_,?_⟩
 ·exact (HO1.o.kept HKK.o (fun k hk e=>by have h:W0.heap.size≤k:=HO1.o.2 k hk;omega)).mono fun k hk=>by have hk:W0.heap.size≤k:=hk;show w.heap.size≤k;omega
 ·exact (HK0.o.then_ HK1.o (fun k e=>.inr Om)).then_ HKK.o (fun k e=>.inr Om)
theorem Qhe {α:Type} {cs:List α} {j:Nat} {p:List α} (h:cs.take (j*4)=p) (hj:j*4+3<cs.length) (a b c d:α):((((cs.set (j*4) a).set (j*4+1) b).set (j*4+2) c).set (j*4+3) d).take ((j+1)*4)=p++[a,b,c,d]:=by
 have h:=take_set (take_set (take_set (take_set h Om a) (by rw[List.length_set];omega) b) (by rw[List.length_set,List.length_set];omega) c) (by rw[List.length_set,List.length_set,List.length_set];omega) d;simp only[List.append_assoc,List.cons_append,List.nil_append] at h;rw[show (j+1)*4=j*4+3+1 by omega];exact h
structure Qgq (w1:World) (p:Nat) (ns:List Qn) (j:Nat) (wr:World) (cs:List Value) (l:List (Qn×Value)):Prop where
 b:Blk wr p cs 70
 n:cs.length=ns.length*4
 t:cs.take (j*4)=Q0h l
 m:l.map Prod.fst=ns.take j
 k:∀q∈l,Qc (Q6 w1.heap.size) 3 wr q.2 (Q5 q.1.kids)
 s:l.Pairwise fun p q=>sep p.2.ownBlock q.2.ownBlock
 h:Q0 (fun k=>k=p) w1 wr
theorem Qgq.next {w1 wr w3:World} {p j:Nat} {ns:List Qn} {cs:List Value} {l:List (Qn×Value)} (h:Qgq w1 p ns j wr cs l) (hp:p<w1.heap.size) {n:Qn} (hn:ns[j]?=some n) {u:Value}
  (hu:Qc (Q6 wr.heap.size) 3 w3 u (Q5 n.kids)) (hk:Q0 nob wr w3) :
  Qgq w1 p ns (j+1) ((((w3.setCell ⟨p,j*4,none⟩ (.int .i64 n.kind)).setCell ⟨p,j*4+1,none⟩ (.string n.text)).setCell ⟨p,j*4+2,none⟩ (.int .i64 n.i)).setCell ⟨p,j*4+3,none⟩ u)
   ((((cs.set (j*4) (.int .i64 n.kind)).set (j*4+1) (.string n.text)).set (j*4+2) (.int .i64 n.i)).set (j*4+3) u) (l++[(n,u)]):=by
 have hj:=(Gs hn).1;have hsz:=h.h.size
 have hst:Q0 (fun k=>k=p) w3 ((((w3.setCell ⟨p,j*4,none⟩ (.int .i64 n.kind)).setCell ⟨p,j*4+1,none⟩ (.string n.text)).setCell ⟨p,j*4+2,none⟩ (.int .i64 n.i)).setCell ⟨p,j*4+3,none⟩ u) :=
  ((((Kr (fun k=>k=p) w3).setCell (p:=⟨p,j*4,none⟩) (.inl rfl) _).setCell (p:=⟨p,j*4+1,none⟩) (.inl rfl) _).setCell (p:=⟨p,j*4+2,none⟩) (.inl rfl) _).setCell (p:=⟨p,j*4+3,none⟩) (.inl rfl) _
 refine⟨((((h.b.kept hk id).set _ _).set _ _).set _ _).set _ _,by simp only[List.length_set];exact h.n,?_,?_,?_,?_,(h.h.trans (hk.ofNob _)).trans hst⟩
 ·rw[Qhe h.t (by rw[h.n];omega),← Q48];simp[Q0h,Q38]
 ·rw[List.map_append,h.m,Js hn];rfl
 ·intro q hq
  rcases List.mem_append.1 hq with hq|hq
  ·exact ((h.k q hq).nobk hk).kept hst (fun k e e2=>by have:=(h.k q hq).2 k e;have h2:w1.heap.size≤k:=this;have e2:k=p:=e2;omega)
  ·simp at hq;subst hq
   exact (hu.mono fun k e=>by have e:wr.heap.size≤k:=e;show w1.heap.size≤k;omega).kept hst (fun k e e2=>by have e:wr.heap.size≤k:=hu.2 k e;have e2:k=p:=e2;omega)
 ·rw[List.pairwise_append]
  refine⟨h.s,Sm,fun a ha b hb=>?_⟩
  simp at hb;subst hb;intro k hk1 hk2;have h1:=(h.k a ha).lt k hk1;have h2:wr.heap.size≤k:=hu.2 k hk2;omega
theorem Qen (v:Value) (ns:List Qn) (w:World) (hv:Xg w v ns) (hl:ns.length≤1048576) (hkl:∀n∈ns,n.kids.length≤1048576) :
  Calls prog 36 #[v] w fun e w'=>∃u l,e=.returned u∧Zi (Q6 w.heap.size) w' u l∧l.map Prod.fst=ns∧Q0 nob w w':=by
 obtain⟨A,b,o,c,rfl,hn,_,hA,hc⟩:=hv;have HC:=Hh hc;have HKL:=Hh hkl;have hmk:=Q9b (T:=31) (e:=70) underlying31 (z:=.agg #[.int .i64 0,.string ByteArray.empty,.int .i64 0,.slice none 0 0]) (m:=4) (bytes:=56) Kf ns.length hl Om (zc:=#[.int .i64 0,.string ByteArray.empty,.int .i64 0,.slice none 0 0]) rfl rfl;obtain⟨hb,hbl⟩:=Q96 w #[.int .i64 0,.string ByteArray.empty,.int .i64 0,.slice none 0 0] (ns.length*4) 70;have HB:=Hh hb;have HBL:=Hh hbl;clear hc hb hbl hkl;go_enter func36,ntmps36;go_wp2_with fail;clear hmk;have hkw:Q0 nob w (w.alloc (.cells (madeCells #[.int .i64 0,.string ByteArray.empty,.int .i64 0,.slice none 0 0] (ns.length*4)) 70 (0,0))):=(Kr _ _).alloc _;have hsz:(w.alloc (.cells (madeCells #[.int .i64 0,.string ByteArray.empty,.int .i64 0,.slice none 0 0] (ns.length*4)) 70 (0,0))).heap.size=w.heap.size+1:=Sm
 have HKW:=Hh hkw;have HSZ:=Hh hsz;clear hkw hsz;generalize hw1:w.alloc (.cells (madeCells #[.int .i64 0,.string ByteArray.empty,.int .i64 0,.slice none 0 0] (ns.length*4)) 70 (0,0))=w1 at *;clear hw1;generalize (madeCells #[.int .i64 0,.string ByteArray.empty,.int .i64 0,.slice none 0 0] (ns.length*4)).toList=cs0 at *;go_loopw [4] (fun i wr=>∃j:Nat,j≤ns.length∧i=.int .i64 j∧Hi (∃cs l,Qgq w1 w.heap.size ns j wr cs l)) (fun i _=>ns.length-(intOf i).toNat)
 case atStart=>exact⟨0,Nat.zero_le _,rfl,Hh ⟨cs0,[],HB.o,HBL.o,by simp[Q0h],rfl,Sm,Sm,Kr _ _⟩⟩
 case round =>
  obtain⟨j,hj,rfl,HR⟩:=hrel;obtain⟨cs,l,hR⟩:=HR.o;have HN:=Hh hR;obtain⟨wo,rfl⟩:∃wo:World,wo=wr:=⟨_,rfl⟩
  by_cases hlt:j<ns.length
  ·obtain⟨x,hx⟩:=Q4 hlt
   obtain⟨kv,c0,c1,c2,c3,hkv⟩:=HC.o j x hx;have hne:b≠w.heap.size:=fun e=>by have:=World.block_lt_of_cell? w _ c0;simp at this;omega
   have Qop:Xi w wo:=(HKW.o.trans (Kr _ _)).oldS (fun _ _ h=>h) |> fun h=>by
    have h2:=(HKW.o.ofNob (fun k=>k=w.heap.size)).trans hR.h;exact h2.oldS fun k hk e=>by have e:k=w.heap.size:=e;omega
   have HKV:Hi (Qf wo kv x.kids):=Hh (hkv.old Qop);replace c0:=Qop.cell c0;replace c1:=Qop.cell c1;replace c2:=Qop.cell c2;replace c3:=Qop.cell c3;obtain⟨KA,_,_,kc,rfl,_⟩:=hkv;obtain rfl:=hA Om;have hjn:(j:Int)<(ns.length:Int):=Om
   have hcl:=hR.n;obtain⟨y0,hy0⟩:=Q4 (xs:=cs) (j:=j*4) Om;obtain⟨y1,hy1⟩:=Q4 (xs:=cs) (j:=j*4+1) Om;obtain⟨y2,hy2⟩:=Q4 (xs:=cs) (j:=j*4+2) Om;obtain⟨y3,hy3⟩:=Q4 (xs:=cs) (j:=j*4+3) Om
   have HY:Hi (∀W,Q0 nob wo W→(W.cell? ⟨w.heap.size,j*4,none⟩=some y0∧W.cell? ⟨w.heap.size,j*4+1,none⟩=some y1∧W.cell? ⟨w.heap.size,j*4+2,none⟩=some y2∧W.cell? ⟨w.heap.size,j*4+3,none⟩=some y3)∧∀i,W.frozen? ⟨w.heap.size,i,none⟩=false):=Hh fun W hW =>
    ⟨⟨(hR.b.kept hW id).cell _ _ hy0,(hR.b.kept hW id).cell _ _ hy1,(hR.b.kept hW id).cell _ _ hy2,(hR.b.kept hW id).cell _ _ hy3⟩,(hR.b.kept hW id).free⟩
   have HX:=Hh hx;clear hx hR hy0 hy1 hy2 hy3 HR Qop hne hcl;go_wp2_with (go_at_call 75;refine (Qi1 x _ _ HKV.o (HKL.o x (Mg HX.o))).mono ?_;rintro e w3 ⟨u,rfl,hou,hk3⟩;obtain⟨UB,ud,huv⟩:=hou.len;rw[Q2] at huv;subst huv;obtain⟨⟨s0,s1,s2,s3⟩,f0⟩:=HY.o _ hk3;have f1:=f0 (j*4);have f2:=f0 (j*4+1);have f3:=f0 (j*4+2);have f4:=f0 (j*4+3);have HN2:=Hh (HN.o.next (by have:=HSZ.o;omega) HX.o hou hk3);clear f0 hou hk3);go_roundw
   case rel=>exact⟨j+1,Om,Gm,Hh ⟨_,_,HN2.o⟩⟩
   case measure=>exact Me
  ·have hjn:¬ (j:Int)<(ns.length:Int):=Om
   obtain rfl:j=ns.length:=Om
   clear hR;go_wp2_with fail;go_returns;have hR:=HN.o;have h1:=hR.t;have h2:=hR.m;rw[List.take_of_length_le (by rw[hR.n];omega)] at h1;rw[List.take_of_length_le (Nat.le_refl _)] at h2;have hll:l.length=ns.length:=by rw[← h2,List.length_map]
   have hz:=HSZ.o
   refine⟨_,rfl,l,⟨?_,fun p hp=>(hR.k p hp).mono fun k hk=>by have hk:w1.heap.size≤k:=hk;show w.heap.size≤k;omega,fun p hp k hk1 hk2=>?_,hR.s⟩,h2,HKW.o.then_ hR.h (fun k e=>.inr Om)⟩
   ·rw[← h1,hll]
    exact hR.b.own hR.n hl (Nat.le_refl _)
   ·have h3:w1.heap.size≤k:=(hR.k p hp).2 k hk2
    simp[Value.ownBlock] at hk1;omega
theorem Qis (v:Value) (t:Q1) (w:World) (hv:Xt w v t) (hl:t.nodes.length≤1048576∧t.tops.length≤1048576) (hkl:∀n∈t.nodes,n.kids.length≤1048576) :
  Calls prog 10 #[v] w fun e w'=>∃nv tv l,e=.returned (.agg #[nv,tv])∧Q3g (Q6 w.heap.size) w' nv tv l t.tops∧l.map Prod.fst=t.nodes∧Q0 nob w w':=by
 have hv':=hv;obtain⟨v0,v1,rfl,⟨A0,b0,o0,c0,rfl,_⟩,⟨A1,b1,o1,c1,rfl,_⟩⟩:=hv;have hk0:Q0 nob w (((w.alloc (.cells #[.slice A0 t.nodes.length c0,.slice A1 t.tops.length c1] 28 (0,0))).alloc (.cells #[.slice none 0 0,.slice none 0 0] 33 (0,0))).alloc (.cells #[.slice none 0 0,.slice none 0 0] 33 (0,0))):=(((Kr _ _).alloc _).alloc _).alloc _;have hB:Blk (((w.alloc (.cells #[.slice A0 t.nodes.length c0,.slice A1 t.tops.length c1] 28 (0,0))).alloc (.cells #[.slice none 0 0,.slice none 0 0] 33 (0,0))).alloc (.cells #[.slice none 0 0,.slice none 0 0] 33 (0,0))) w.heap.size [.slice A0 t.nodes.length c0,.slice A1 t.tops.length c1] 28:=((Blk.new_of _ _ _ rfl).alloc _).alloc _;have hO:Blk (((w.alloc (.cells #[.slice A0 t.nodes.length c0,.slice A1 t.tops.length c1] 28 (0,0))).alloc (.cells #[.slice none 0 0,.slice none 0 0] 33 (0,0))).alloc (.cells #[.slice none 0 0,.slice none 0 0] 33 (0,0))) (w.heap.size+1) [.slice none 0 0,.slice none 0 0] 33:=(Blk.new_of _ _ _ Sm).alloc _;have hL:Blk (((w.alloc (.cells #[.slice A0 t.nodes.length c0,.slice A1 t.tops.length c1] 28 (0,0))).alloc (.cells #[.slice none 0 0,.slice none 0 0] 33 (0,0))).alloc (.cells #[.slice none 0 0,.slice none 0 0] 33 (0,0))) (w.heap.size+1+1) [.slice none 0 0,.slice none 0 0] 33:=Blk.new_of _ _ _ Sm;have hst:((((w.alloc (.cells #[.slice A0 t.nodes.length c0,.slice A1 t.tops.length c1] 28 (0,0))).alloc (.cells #[.slice none 0 0,.slice none 0 0] 33 (0,0))).alloc (.cells #[.slice none 0 0,.slice none 0 0] 33 (0,0)))).heap.size=w.heap.size+3:=Sm
 generalize hW0:(((w.alloc (.cells #[.slice A0 t.nodes.length c0,.slice A1 t.tops.length c1] 28 (0,0))).alloc (.cells #[.slice none 0 0,.slice none 0 0] 33 (0,0))).alloc (.cells #[.slice none 0 0,.slice none 0 0] 33 (0,0)))=W0 at hk0 hB hO hL hst
 have HRD:Hi (∀W,Q0 (fun k=>k=w.heap.size+1+1) W0 W→Xg W (.slice A0 t.nodes.length c0) t.nodes∧Qf W (.slice A1 t.tops.length c1) t.tops):=Hh fun W hW=>by
  obtain⟨x0,x1,e,h0,h1⟩:=hv'.old (((hk0.ofNob _).trans hW).oldS fun k hk e=>by have e:k=w.heap.size+1+1:=e;omega);cases e;exact⟨h0,h1⟩
 have HL:=Hh hl;have HKL:=Hh hkl;have HKN:=Hh hk0;have HB0:=Hh hB;have HL0:=Hh hL;have HOO:=Hh hO;have HST:=Hh hst;have g0:=hB.cell 0 _ rfl;clear hO hst hv' hl hk0 hB hL hkl;go_enter func10,ntmps10;go_upto_region 2 with fail
 clear hW0;go_upto_region 3 with (go_at_call 36;refine (Qen _ t.nodes _ (HRD.o _ (Kr _ _)).1 HL.o.1 HKL.o).mono ?_;rintro e w1 ⟨u0,l,rfl,ho,hm,hk⟩;obtain⟨B0,d0,hu⟩:=ho.row.len;subst hu;have hb:=HB0.o.kept hk id;have hl:=HL0.o.kept hk id;have q1:=hl.cell 0 _ rfl;have f1:=hl.free 0;have HN1:=Hh (ho.kept ((Kr (fun k=>k=w.heap.size+1+1) _).setCell (p:=⟨w.heap.size+1+1,0,none⟩) (.inl rfl) (.slice B0 l.length d0)) (fun k h e=>by have h:W0.heap.size≤k:=h;have e:k=w.heap.size+1+1:=e;have:=HST.o;omega));have HM:=Hh hm;have HK1:=Hh ((hk.ofNob (fun k=>k=w.heap.size+1+1)).setCell (p:=⟨w.heap.size+1+1,0,none⟩) (.inl rfl) (.slice B0 l.length d0));have HL1:=Hh (hl.set 0 (.slice B0 l.length d0));have HB1:=Hh (hb.other (p:=⟨w.heap.size+1+1,0,none⟩) So (.slice B0 l.length d0));clear ho hk hm hb hl)
 generalize w1.setCell ⟨w.heap.size+1+1,0,none⟩ (.slice B0 l.length d0)=W1 at *;clear g0 q1 f1 HB0 HL0;have g1:=HB1.o.cell 1 _ rfl;go_upto_region 4 with (go_at_call 37;refine (Qbi _ t.tops _ (HRD.o _ HK1.o).2 HL.o.2).mono ?_;rintro e w2 ⟨u1,rfl,ho,hk⟩;obtain⟨B1,d1,hu⟩:=ho.len;rw[Q2] at hu;subst hu;have hl:=HL1.o.kept hk id;have q1:=hl.cell 1 _ rfl;have f1:=hl.free 1;have HN2:=Hh (((HN1.o.mono (S':=fun k=>W0.heap.size≤k∧¬ own (.slice B1 t.tops.length d1) k) (fun k hk h=>⟨h,fun e=>by have h1:W1.heap.size≤k:=ho.2 k e;omega⟩)).nobk hk).kept ((Kr (fun k=>k=w.heap.size+1+1) _).setCell (p:=⟨w.heap.size+1+1,1,none⟩) (.inl rfl) (.slice B1 t.tops.length d1)) (fun k h e=>by have h:W0.heap.size≤k:=h.1;have e:k=w.heap.size+1+1:=e;have:=HST.o;omega));have HO2:=Hh (ho.other (p:=⟨w.heap.size+1+1,1,none⟩) (fun e=>by have h:W1.heap.size≤w.heap.size+1+1:=ho.2 _ e;have:=HK1.o.size;have:=HST.o;omega) (.slice B1 t.tops.length d1));have HK2:=Hh ((HK1.o.trans (hk.ofNob _)).setCell (p:=⟨w.heap.size+1+1,1,none⟩) (.inl rfl) (.slice B1 t.tops.length d1));have HL2:=Hh (hl.set 1 (.slice B1 t.tops.length d1));clear ho hk hl)
 generalize w2.setCell ⟨w.heap.size+1+1,1,none⟩ (.slice B1 t.tops.length d1)=W2 at *;clear g1 q1 f1 HL1 HB1;have e0:=HL2.o.cell 0 _ rfl;have e1:=HL2.o.cell 1 _ rfl;have hr:=HOO.o.kept HK2.o Om;have r0:=hr.cell 0 _ rfl;have r1:=hr.cell 1 _ rfl;have f0:=hr.free 0;have f1:=hr.free 1;have hR:=(hr.set 0 (.slice B0 l.length d0)).set 1 (.slice B1 t.tops.length d1);have x0:=hR.cell 0 _ rfl;have x1:=hR.cell 1 _ rfl;have HKK:=Hh (((Kr (fun k=>k=w.heap.size+1) W2).setCell (p:=⟨w.heap.size+1,0,none⟩) (.inl rfl) (.slice B0 l.length d0)).setCell (p:=⟨w.heap.size+1,1,none⟩) (.inl rfl) (.slice B1 t.tops.length d1));clear hr hR;go_wp2_with fail;have hw0:=HST.o;have hz1:=HK1.o.size;refine bodyPost_ret (v:=.agg #[.slice B0 l.length d0,.slice B1 t.tops.length d1]) (by simp[results,results10,go_sem,x0,x1]) rfl ⟨_,_,l,rfl,⟨?_,?_⟩,HM.o,?_⟩
 ·exact (HN2.o.kept HKK.o (fun k h e=>by have h:W0.heap.size≤k:=h.1;have e:k=w.heap.size+1:=e;omega)).mono fun k _ h=>⟨by have h:W0.heap.size≤k:=h.1;show w.heap.size≤k;omega,h.2⟩
 ·exact (HO2.o.kept HKK.o (fun k h e=>by have h:W1.heap.size≤k:=HO2.o.2 k h;have e:k=w.heap.size+1:=e;omega)).mono fun k h=>by have h:W1.heap.size≤k:=h;show w.heap.size≤k;omega
 ·exact (HKN.o.then_ HK2.o (fun k e=>.inr Om)).then_ HKK.o (fun k e=>.inr Om)
def Q2p {α:Type} (f:α→Int→Int):List α→Int→Int
 |[],l=>l
 |x::xs,l=>if f x l<0 then -1 else Q2p f xs (f x l)
def J9 {α:Type} (f:α→Int→Int) (xs:List α) (l:Int):Int:=if szL xs.length l<0 then -1 else Q2p f xs (szL xs.length l)
def szD (d:Zt) (l:Int):Int:=szL d.name.size l
def szN (n:Qn) (l:Int):Int:=if szL n.text.size l<0 then -1 else szL n.kids.length (szL n.text.size l)
def szR (r:Reg) (l:Int):Int :=
 if J9 szD r.comps l<0 then -1 else
 if J9 szD r.ress (J9 szD r.comps l)<0 then -1 else
 J9 szD r.evts (J9 szD r.ress (J9 szD r.comps l))
def szT (t:Q1) (l:Int):Int:=if J9 szN t.nodes l<0 then -1 else szL t.tops.length (J9 szN t.nodes l)
theorem Q1l (n l:Int) (hn:0≤n) (hl:0≤l):-1≤szL n l∧szL n l≤l∧(0≤szL n l→n≤l∧szL n l=l-n):=by unfold szL;split<;>omega
def Sz {α:Type} (f:α→Int→Int):Prop:=∀x l,0≤l→-1≤f x l∧f x l≤l
theorem Q5h:Sz szD:=fun d l hl=>by have:=Q1l d.name.size l Om hl;unfold szD;omega
theorem Qcc:Sz szN:=fun n l hl=>by
 have h1:=Q1l n.text.size l Om hl;unfold szN;split
 ·omega
 ·have h2:=Q1l n.kids.length (szL n.text.size l) Om Om
  omega
theorem Qje {α:Type} {f:α→Int→Int} (hf:Sz f):Sz (Q2p f):=by
 intro xs
 induction xs with
 |nil=>intro l hl;simp[Q2p];omega
 |cons x xs ih =>
  intro l hl;have h:=hf x l hl;simp only[Q2p];split
  ·omega
  ·have:=ih (f x l) Om;omega
theorem Q1x {α:Type} {f:α→Int→Int} (hf:Sz f):Sz (J9 f):=by
 intro xs l hl;have h:=Q1l xs.length l Om hl;unfold J9;split
 ·omega
 ·have:=Qje hf xs (szL xs.length l) Om;omega
theorem Qey {α:Type} {f:α→Int→Int} (hf:Sz f) {xs:List α} {l:Int} (hl:0≤l) (h:0≤Q2p f xs l):∀x∈xs,∃l',0≤l'∧l'≤l∧0≤f x l':=by
 induction xs generalizing l with
 |nil=>simp
 |cons x xs ih =>
  simp only[Q2p] at h;split at h
  ·omega
  ·have h0:=hf x l hl
   intro y hy;rcases List.mem_cons.1 hy with rfl|hy
   ·exact⟨l,hl,Int.le_refl _,Om⟩
   ·obtain⟨l',h1,h2,h3⟩:=ih Om h y hy
    exact⟨l',h1,Om,h3⟩
theorem Q90 {α:Type} {f:α→Int→Int} (hf:Sz f) {xs:List α} {l:Int} (hl:0≤l) (h:0≤J9 f xs l):(xs.length:Int)≤l∧∀x∈xs,∃l',0≤l'∧l'≤l∧0≤f x l':=by
 have h0:=Q1l xs.length l Om hl;unfold J9 at h;split at h
 ·omega
 ·refine⟨(h0.2.2 Om).1,fun x hx=>?_⟩
  obtain⟨l',h1,h2,h3⟩:=Qey hf Om h x hx;exact⟨l',h1,Om,h3⟩
theorem Q9o {ds:List Zt} {l:Int} (hl:0≤l∧l≤1048576) (h:0≤J9 szD ds l):ds.length≤1048576∧∀d∈ds,d.name.size≤1048576:=by
 obtain⟨h1,h2⟩:=Q90 Q5h hl.1 h
 refine⟨Om,fun d hd=>?_⟩
 obtain⟨l',h3,h4,h5⟩:=h2 d hd;have:=(Q1l d.name.size l' Om h3).2.2 h5;omega
theorem Ql8 {ns:List Qn} {l:Int} (hl:0≤l∧l≤1048576) (h:0≤J9 szN ns l):ns.length≤1048576∧∀n∈ns,n.text.size≤1048576∧n.kids.length≤1048576:=by
 obtain⟨h1,h2⟩:=Q90 Qcc hl.1 h
 refine⟨Om,fun n hn=>?_⟩
 obtain⟨l',h3,h4,h5⟩:=h2 n hn;unfold szN at h5;split at h5
 ·omega
 ·have h6:=Q1l n.text.size l' Om h3
  have h7:=Q1l n.kids.length (szL n.text.size l') Om Om;have:=h6.2.2 Om;have:=h7.2.2 h5;omega
theorem Qak (d:Zt) (left:Int) (w:World) (hn:d.name.size≤140737488355328) (hl:0≤left∧left≤1048576) :
  Calls prog 67 #[.agg #[.string d.name,.int .i64 d.kind],.int .i64 left] w fun e w'=>e=.returned (.int .i64 (szD d left))∧Q0 nob w w':=by
 obtain⟨nm,kd⟩:=d;dsimp only at *;have hw1:IntKind.i64.wrap (left-(nm.size:Int))=left-(nm.size:Int):=by rw[IntKind.wrap_i64];omega
 have hw2:wrap64 (left-(nm.size:Int))=left-(nm.size:Int):=by unfold wrap64;omega
 by_cases h:(nm.size:Int)≤left
 ·have t1:decide (left-(nm.size:Int)<0)=false:=Df Om
  go_enter func67,ntmps67;go_wp2_with fail;go_ret;exact⟨Jo (by show _=szL nm.size left;unfold szL;rw[Ps h]),(Kr _ _).alloc _⟩
 ·have t1:decide (left-(nm.size:Int)<0)=true:=Dt Om
  go_enter func67,ntmps67;go_wp2_with fail;go_ret;exact⟨Jo (by show _=szL nm.size left;unfold szL;rw[Ng Om]),(Kr _ _).alloc _⟩
theorem Q6g (v:Value) (xs:List Zt) (left:Int) (w:World) (hv:Ji w v xs) (hn:∀d∈xs,d.name.size≤140737488355328) (hl:0≤left∧left≤1048576) :
  Calls prog 27 #[v,.int .i64 left] w fun e w'=>e=.returned (.int .i64 (J9 szD xs left))∧Q0 nob w w':=by
 obtain⟨A,b,o,c,rfl,hln,_,hA,hc⟩:=hv;have HC:=Hh hc;have HN:=Hh hn;have hw1:IntKind.i64.wrap (left-(xs.length:Int))=left-(xs.length:Int):=by rw[IntKind.wrap_i64];omega
 have hw2:wrap64 (left-(xs.length:Int))=left-(xs.length:Int):=by unfold wrap64;omega
 have h0:=Q1l xs.length left Om hl.1;clear hc hn
 by_cases h:(xs.length:Int)≤left
 ·have e0:left-(xs.length:Int)=szL xs.length left:=by unfold szL;rw[Ps h]
  have t1:decide (left-(xs.length:Int)<0)=false:=Df Om;obtain⟨X,hX⟩:∃X,X=J9 szD xs left:=⟨_,rfl⟩;have HX:Hi (X=Q2p szD xs (left-(xs.length:Int))):=Hh (by rw[hX,J9,Ng Om,e0]);have HB:Hi (0≤left-(xs.length:Int)∧left-(xs.length:Int)≤1048576):=Hh Om;rw[← hX];clear hX h0 e0;go_enter func27,ntmps27;go_upto_region 5 with fail
  generalize hr:left-(xs.length:Int)=rest at *;clear hr hw1 hw2 t1 h;go_loopw [1,5] (fun m i wr=>∃(j:Nat) (rest:Int),j≤xs.length∧i=.int .i64 j∧m=.int .i64 rest∧Hi (X=Q2p szD (xs.drop j) rest∧(0≤rest∧rest≤1048576)∧Q0 nob w wr)) (fun _ i _=>xs.length-(intOf i).toNat)
  case atStart=>exact⟨0,rest,Nat.zero_le _,rfl,rfl,Hh ⟨HX.o,HB.o,Kr _ _⟩⟩
  case round =>
   obtain⟨j,rest,hj,rfl,rfl,HR⟩:=hrel;obtain⟨wo,rfl⟩:∃wo:World,wo=wr:=⟨_,rfl⟩
   by_cases hlt:j<xs.length
   ·obtain⟨x,hx⟩:=Q4 hlt
    have c0:=HR.o.2.2.cell id (HC.o j x hx).1;have c1:=HR.o.2.2.cell id (HC.o j x hx).2;obtain rfl:=hA Om;have hjn:(j:Int)<(xs.length:Int):=Om
    have HMX:=Hh (Mg hx);have hsz:=Q5h x rest HR.o.2.1.1;have HXS:Hi (X=if szD x rest<0 then -1 else Q2p szD (xs.drop (j+1)) (szD x rest)):=Hh (by rw[HR.o.1,Qh hx];rfl);clear hx
    by_cases hz:szD x rest<0
    ·have t2:decide (szD x rest<0)=true:=Dt hz
     have HXE:Hi (X = -1):=Hh (by rw[HXS.o,Ps hz]);generalize hq:szD x rest=q at *;clear hsz HXS;go_wp2_with (go_at_call 67;refine (Qak x rest _ (HN.o x HMX.o) HR.o.2.1).mono ?_;rw[hq];rintro e w3 ⟨rfl,hk3⟩;have HK3:=Hh hk3;clear hk3);go_returns;exact⟨by rw[HXE.o];rfl,HR.o.2.2.trans HK3.o⟩
    ·have t2:decide (szD x rest<0)=false:=Df hz
     have HXE:Hi (X=Q2p szD (xs.drop (j+1)) (szD x rest)):=Hh (by rw[HXS.o,Ng hz]);have HBE:Hi (0≤szD x rest∧szD x rest≤1048576):=Hh (by have:=HR.o.2.1;omega);clear hsz HXS;generalize hq:szD x rest=q at *;go_wp2_with (go_at_call 67;refine (Qak x rest _ (HN.o x HMX.o) HR.o.2.1).mono ?_;rw[hq];rintro e w3 ⟨rfl,hk3⟩;have HK3:=Hh hk3;clear hk3);go_roundw
     case rel=>exact⟨j+1,q,Om,Gm,rfl,Hh ⟨HXE.o,HBE.o,HR.o.2.2.trans HK3.o⟩⟩
     case measure=>exact Me
   ·have hjn:¬ (j:Int)<(xs.length:Int):=Om
    exact K0z
 ·have t1:decide (left-(xs.length:Int)<0)=true:=Dt Om
  have HXE:Hi (J9 szD xs left = -1):=Hh (by unfold J9 szL;rw[Ng h];rfl);rw[HXE.o];go_enter func27,ntmps27;go_wp2_with fail;go_ret;exact⟨rfl,Kr _ _⟩
theorem Qb6 (n:Qn) (kv:Value) (left:Int) (w:World) (hv:Qf w kv n.kids) (hn:n.text.size≤140737488355328) (hl:0≤left∧left≤1048576) :
  Calls prog 68 #[.agg #[.int .i64 n.kind,.string n.text,.int .i64 n.i,kv],.int .i64 left] w fun e w'=>e=.returned (.int .i64 (szN n left))∧Q0 nob w w':=by
 obtain⟨kd,tx,i,ks⟩:=n;dsimp only at *;have hv':=hv;obtain⟨A0,b0,o0,c0,rfl,_⟩:=hv;have hw1:IntKind.i64.wrap (left-(tx.size:Int))=left-(tx.size:Int):=by rw[IntKind.wrap_i64];omega
 have hw2:wrap64 (left-(tx.size:Int))=left-(tx.size:Int):=by unfold wrap64;omega
 by_cases h:(tx.size:Int)≤left
 ·have t1:decide (left-(tx.size:Int)<0)=false:=Df Om
  have hb:=Blk.new w [.int .i64 kd,.string tx,.int .i64 i,.slice A0 ks.length c0] 120;have hk0:Q0 nob w (w.alloc (.cells #[.int .i64 kd,.string tx,.int .i64 i,.slice A0 ks.length c0] 120 (0,0))):=(Kr _ _).alloc _
  have hX:szN ⟨kd,tx,i,ks⟩ left=szL ks.length (left-(tx.size:Int)):=by
   show (if szL tx.size left<0 then -1 else szL ks.length (szL tx.size left))=_
   rw[show szL tx.size left=left-(tx.size:Int) by unfold szL;rw[Ps h],Ng Om]
  have Qnr:∀W,Q0 nob w W→Calls prog 29 #[.slice A0 ks.length c0,.int .i64 (left-(tx.size:Int))] W fun e w'=>e=.returned (.int .i64 (szL ks.length (left-(tx.size:Int))))∧W=w':=fun W hW=>Qb0 _ ks _ _ (hv'.old hW.old) Om
  have HC:=Hh Qnr;have HK0:=Hh hk0;rw[hX];clear Qnr hX hk0 hv';generalize hq:szL ks.length (left-(tx.size:Int))=q at *
  by_cases hz:q<0
  ·have t2:decide (q<0)=true:=Dt hz
   have HQ:Hi (q = -1):=Hh (by have:=Q1l ks.length (left-(tx.size:Int)) Om Om;omega);clear hb hq;go_enter func68,ntmps68;go_wp2_with (go_at_call 29;refine (HC.o _ HK0.o).mono ?_;rintro e w3 ⟨rfl,rfl⟩);go_ret;exact⟨by rw[HQ.o];rfl,HK0.o⟩
  ·have t2:decide (q<0)=false:=Df hz
   clear hb hq;go_enter func68,ntmps68;go_wp2_with (go_at_call 29;refine (HC.o _ HK0.o).mono ?_;rintro e w3 ⟨rfl,rfl⟩);go_ret;exact⟨rfl,HK0.o⟩
 ·have t1:decide (left-(tx.size:Int)<0)=true:=Dt Om
  have HX:Hi (szN ⟨kd,tx,i,ks⟩ left = -1):=Hh (by show (if szL tx.size left<0 then -1 else szL ks.length (szL tx.size left))=_;rw[show szL tx.size left = -1 by unfold szL;rw[Ng h]];rfl);rw[HX.o];go_enter func68,ntmps68;go_wp2_with fail;go_ret;exact⟨rfl,(Kr _ _).alloc _⟩
theorem Qet (v:Value) (xs:List Qn) (left:Int) (w:World) (hv:Xg w v xs) (hn:∀d∈xs,d.text.size≤140737488355328) (hl:0≤left∧left≤1048576) :
  Calls prog 28 #[v,.int .i64 left] w fun e w'=>e=.returned (.int .i64 (J9 szN xs left))∧Q0 nob w w':=by
 obtain⟨A,b,o,c,rfl,hln,_,hA,hc⟩:=hv;have HC:=Hh hc;have HN:=Hh hn;have hw1:IntKind.i64.wrap (left-(xs.length:Int))=left-(xs.length:Int):=by rw[IntKind.wrap_i64];omega
 have hw2:wrap64 (left-(xs.length:Int))=left-(xs.length:Int):=by unfold wrap64;omega
 have h0:=Q1l xs.length left Om hl.1;clear hc hn
 by_cases h:(xs.length:Int)≤left
 ·have e0:left-(xs.length:Int)=szL xs.length left:=by unfold szL;rw[Ps h]
  have t1:decide (left-(xs.length:Int)<0)=false:=Df Om;obtain⟨X,hX⟩:∃X,X=J9 szN xs left:=⟨_,rfl⟩;have HX:Hi (X=Q2p szN xs (left-(xs.length:Int))):=Hh (by rw[hX,J9,Ng Om,e0]);have HB:Hi (0≤left-(xs.length:Int)∧left-(xs.length:Int)≤1048576):=Hh Om;rw[← hX];clear hX h0 e0;go_enter func28,ntmps28;go_upto_region 5 with fail
  generalize hr:left-(xs.length:Int)=rest at *;clear hr hw1 hw2 t1 h;go_loopw [1,5] (fun m i wr=>∃(j:Nat) (rest:Int),j≤xs.length∧i=.int .i64 j∧m=.int .i64 rest∧Hi (X=Q2p szN (xs.drop j) rest∧(0≤rest∧rest≤1048576)∧Q0 nob w wr)) (fun _ i _=>xs.length-(intOf i).toNat)
  case atStart=>exact⟨0,rest,Nat.zero_le _,rfl,rfl,Hh ⟨HX.o,HB.o,Kr _ _⟩⟩
  case round =>
   obtain⟨j,rest,hj,rfl,rfl,HR⟩:=hrel;obtain⟨wo,rfl⟩:∃wo:World,wo=wr:=⟨_,rfl⟩
   by_cases hlt:j<xs.length
   ·obtain⟨x,hx⟩:=Q4 hlt
    obtain⟨kv,c0,c1,c2,c3,hkv⟩:=HC.o j x hx;have HKV:=Hh (hkv.old HR.o.2.2.old);replace c0:=HR.o.2.2.cell id c0;replace c1:=HR.o.2.2.cell id c1;replace c2:=HR.o.2.2.cell id c2;replace c3:=HR.o.2.2.cell id c3;clear hkv;obtain rfl:=hA Om;have hjn:(j:Int)<(xs.length:Int):=Om
    have HMX:=Hh (Mg hx);have hsz:=Qcc x rest HR.o.2.1.1;have HXS:Hi (X=if szN x rest<0 then -1 else Q2p szN (xs.drop (j+1)) (szN x rest)):=Hh (by rw[HR.o.1,Qh hx];rfl);clear hx
    by_cases hz:szN x rest<0
    ·have t2:decide (szN x rest<0)=true:=Dt hz
     have HXE:Hi (X = -1):=Hh (by rw[HXS.o,Ps hz]);generalize hq:szN x rest=q at *;clear hsz HXS;go_wp2_with (go_at_call 68;refine (Qb6 x _ rest _ HKV.o (HN.o x HMX.o) HR.o.2.1).mono ?_;rw[hq];rintro e w3 ⟨rfl,hk3⟩;have HK3:=Hh hk3;clear hk3);go_returns;exact⟨by rw[HXE.o];rfl,HR.o.2.2.trans HK3.o⟩
    ·have t2:decide (szN x rest<0)=false:=Df hz
     have HXE:Hi (X=Q2p szN (xs.drop (j+1)) (szN x rest)):=Hh (by rw[HXS.o,Ng hz]);have HBE:Hi (0≤szN x rest∧szN x rest≤1048576):=Hh (by have:=HR.o.2.1;omega);clear hsz HXS;generalize hq:szN x rest=q at *;go_wp2_with (go_at_call 68;refine (Qb6 x _ rest _ HKV.o (HN.o x HMX.o) HR.o.2.1).mono ?_;rw[hq];rintro e w3 ⟨rfl,hk3⟩;have HK3:=Hh hk3;clear hk3);go_roundw
     case rel=>exact⟨j+1,q,Om,Gm,rfl,Hh ⟨HXE.o,HBE.o,HR.o.2.2.trans HK3.o⟩⟩
     case measure=>exact Me
   ·have hjn:¬ (j:Int)<(xs.length:Int):=Om
    exact K0z
 ·have t1:decide (left-(xs.length:Int)<0)=true:=Dt Om
  have HXE:Hi (J9 szN xs left = -1):=Hh (by unfold J9 szL;rw[Ng h];rfl);rw[HXE.o];go_enter func28,ntmps28;go_wp2_with fail;go_ret;exact⟨rfl,Kr _ _⟩
theorem Qlc (v:Value) (r:Reg) (left:Int) (w:World) (hv:Q20 w v r) (hn:Q2e r) (hl:0≤left∧left≤1048576) :
  Calls prog 6 #[v,.int .i64 left] w fun e w'=>e=.returned (.int .i64 (szR r left))∧Q0 nob w w':=by
 have hv':=hv;obtain⟨v0,v1,v2,rfl,⟨A0,b0,o0,c0,rfl,_⟩,⟨A1,b1,o1,c1,rfl,_⟩,⟨A2,b2,o2,c2,rfl,_⟩⟩:=hv;have hb:Blk (w.alloc (.cells #[.slice A0 r.comps.length c0,.slice A1 r.ress.length c1,.slice A2 r.evts.length c2] 24 (0,0))) w.heap.size [.slice A0 r.comps.length c0,.slice A1 r.ress.length c1,.slice A2 r.evts.length c2] 24:=Blk.new _ _ _;have hk0:Q0 nob w (w.alloc (.cells #[.slice A0 r.comps.length c0,.slice A1 r.ress.length c1,.slice A2 r.evts.length c2] 24 (0,0))):=(Kr _ _).alloc _;generalize hW0:(w.alloc (.cells #[.slice A0 r.comps.length c0,.slice A1 r.ress.length c1,.slice A2 r.evts.length c2] 24 (0,0)))=W0 at hb hk0
 have hrd:∀W,Q0 nob W0 W→Ji W (.slice A0 r.comps.length c0) r.comps∧Ji W (.slice A1 r.ress.length c1) r.ress∧Ji W (.slice A2 r.evts.length c2) r.evts:=fun W hW=>by
  obtain⟨x0,x1,x2,e,h0,h1,h2⟩:=hv'.old (hk0.trans hW).old;cases e;exact⟨h0,h1,h2⟩
 have HG:Hi (∀W,Q0 nob W0 W→W.cell? ⟨w.heap.size,1,none⟩=some (.slice A1 r.ress.length c1)∧W.cell? ⟨w.heap.size,2,none⟩=some (.slice A2 r.evts.length c2)):=Hh fun W hW=>⟨(hb.kept hW id).cell 1 _ rfl,(hb.kept hW id).cell 2 _ rfl⟩
 have g0:=hb.cell 0 _ rfl;have hs0:=Q1x Q5h r.comps left hl.1;have C0:Hi (∀W,Q0 nob W0 W→Calls prog 27 #[.slice A0 r.comps.length c0,.int .i64 left] W fun e w'=>e=.returned (.int .i64 (J9 szD r.comps left))∧Q0 nob W w'):=Hh fun W hW=>Q6g _ _ _ _ (hrd W hW).1 (fun d hd=>hn d (.inl hd)) hl
 have C1:Hi (0≤J9 szD r.comps left→∀W,Q0 nob W0 W→Calls prog 27 #[.slice A1 r.ress.length c1,.int .i64 (J9 szD r.comps left)] W fun e w'=>e=.returned (.int .i64 (J9 szD r.ress (J9 szD r.comps left)))∧Q0 nob W w'):=Hh fun h0 W hW=>Q6g _ _ _ _ (hrd W hW).2.1 (fun d hd=>hn d (.inr (.inl hd))) Om
 have HS1:Hi (0≤J9 szD r.comps left→-1≤J9 szD r.ress (J9 szD r.comps left)∧J9 szD r.ress (J9 szD r.comps left)≤1048576):=Hh fun h0=>by have:=Q1x Q5h r.ress _ h0;omega
 have HX:Hi (szR r left=if J9 szD r.comps left<0 then -1 else if J9 szD r.ress (J9 szD r.comps left)<0 then -1 else J9 szD r.evts (J9 szD r.ress (J9 szD r.comps left))):=Hh rfl;generalize szR r left=X at *;generalize J9 szD r.comps left=a0 at *;have C2:Hi (0≤J9 szD r.ress a0→J9 szD r.ress a0≤1048576→∀W,Q0 nob W0 W→Calls prog 27 #[.slice A2 r.evts.length c2,.int .i64 (J9 szD r.ress a0)] W fun e w'=>e=.returned (.int .i64 (J9 szD r.evts (J9 szD r.ress a0)))∧Q0 nob W w'):=Hh fun h0 h1 W hW=>Q6g _ _ _ _ (hrd W hW).2.2 (fun d hd=>hn d (.inr (.inr hd))) ⟨h0,h1⟩
 have HS2:Hi (0≤J9 szD r.ress a0→-1≤J9 szD r.evts (J9 szD r.ress a0)):=Hh fun h0=>(Q1x Q5h r.evts _ h0).1
 generalize J9 szD r.ress a0=a1 at *;generalize J9 szD r.evts a1=a2 at *;have HK0:=Hh hk0;clear hb hk0 hrd hv' hs0 hn hl;go_enter func6,ntmps6;go_upto_region 2 with (go_at_call 27;refine (C0.o _ (Kr _ _)).mono ?_;rintro e w1 ⟨rfl,hk⟩;have HK1:=Hh hk;obtain⟨g1,_⟩:=HG.o _ hk;clear hk)
 clear g0
 by_cases z0:a0<0
 ·have t0:decide (a0<0)=true:=Dt z0
  exact K10
 have t0:decide (a0<0)=false:=Df z0;go_upto_region 5 with (go_at_call 27;refine (C1.o Om _ HK1.o).mono ?_;rintro e w2 ⟨rfl,hk⟩;have HK2:=Hh (HK1.o.trans hk);obtain⟨_,g2⟩:=HG.o _ HK2.o;clear hk)
 clear g1
 by_cases z1:a1<0
 ·have t1:decide (a1<0)=true:=Dt z1
  have HE:Hi (X = -1):=Hh (by rw[HX.o,Ng Om,Ps z1]);go_wp2_with fail;go_ret;exact⟨by rw[HE.o];rfl,HK0.o.trans HK2.o⟩
 have t1:decide (a1<0)=false:=Df z1;have HE:Hi (X=a2):=Hh (by rw[HX.o,Ng Om,Ng Om]);go_upto_region 8 with (go_at_call 27;refine (C2.o Om (HS1.o Om).2 _ HK2.o).mono ?_;rintro e w3 ⟨rfl,hk⟩;have HK3:=Hh (HK2.o.trans hk);clear hk)
 clear g2
 by_cases z2:a2<0
 ·have t2:decide (a2<0)=true:=Dt z2
  have HF:Hi (a2 = -1):=Hh (by have:=HS2.o Om;omega);go_wp2_with fail;go_ret;exact⟨by rw[HE.o,HF.o];rfl,HK0.o.trans HK3.o⟩
 ·have t2:decide (a2<0)=false:=Df z2
  go_wp2_with fail;go_ret;exact⟨by rw[HE.o];rfl,HK0.o.trans HK3.o⟩
theorem Qgt (v:Value) (t:Q1) (left:Int) (w:World) (hv:Xt w v t) (hn:Q0i t) (hl:0≤left∧left≤1048576) :
  Calls prog 7 #[v,.int .i64 left] w fun e w'=>e=.returned (.int .i64 (szT t left))∧Q0 nob w w':=by
 have hv':=hv;obtain⟨v0,v1,rfl,⟨A0,b0,o0,c0,rfl,_⟩,⟨A1,b1,o1,c1,rfl,_⟩⟩:=hv;have hb:Blk (w.alloc (.cells #[.slice A0 t.nodes.length c0,.slice A1 t.tops.length c1] 28 (0,0))) w.heap.size [.slice A0 t.nodes.length c0,.slice A1 t.tops.length c1] 28:=Blk.new _ _ _;have hk0:Q0 nob w (w.alloc (.cells #[.slice A0 t.nodes.length c0,.slice A1 t.tops.length c1] 28 (0,0))):=(Kr _ _).alloc _;generalize hW0:(w.alloc (.cells #[.slice A0 t.nodes.length c0,.slice A1 t.tops.length c1] 28 (0,0)))=W0 at hb hk0
 have hrd:∀W,Q0 nob W0 W→Xg W (.slice A0 t.nodes.length c0) t.nodes∧Qf W (.slice A1 t.tops.length c1) t.tops:=fun W hW=>by
  obtain⟨x0,x1,e,h0,h1⟩:=hv'.old (hk0.trans hW).old;cases e;exact⟨h0,h1⟩
 have HG:Hi (∀W,Q0 nob W0 W→W.cell? ⟨w.heap.size,1,none⟩=some (.slice A1 t.tops.length c1)):=Hh fun W hW=>(hb.kept hW id).cell 1 _ rfl
 have g0:=hb.cell 0 _ rfl;have hs0:=Q1x Qcc t.nodes left hl.1;have C0:Hi (∀W,Q0 nob W0 W→Calls prog 28 #[.slice A0 t.nodes.length c0,.int .i64 left] W fun e w'=>e=.returned (.int .i64 (J9 szN t.nodes left))∧Q0 nob W w'):=Hh fun W hW=>Qet _ _ _ _ (hrd W hW).1 hn hl
 have C1:Hi (0≤J9 szN t.nodes left→∀W,Q0 nob W0 W→Calls prog 29 #[.slice A1 t.tops.length c1,.int .i64 (J9 szN t.nodes left)] W fun e w'=>e=.returned (.int .i64 (szL t.tops.length (J9 szN t.nodes left)))∧W=w'):=Hh fun h0 W hW=>Qb0 _ _ _ _ (hrd W hW).2 Om
 have HS1:Hi (0≤J9 szN t.nodes left→-1≤szL t.tops.length (J9 szN t.nodes left)):=Hh fun h0=>(Q1l _ _ Om h0).1
 have HX:Hi (szT t left=if J9 szN t.nodes left<0 then -1 else szL t.tops.length (J9 szN t.nodes left)):=Hh rfl;generalize szT t left=X at *;generalize J9 szN t.nodes left=a0 at *;generalize szL t.tops.length a0=a1 at *;have HK0:=Hh hk0;clear hb hk0 hrd hv' hs0 hn hl;go_enter func7,ntmps7;go_upto_region 2 with (go_at_call 28;refine (C0.o _ (Kr _ _)).mono ?_;rintro e w1 ⟨rfl,hk⟩;have HK1:=Hh hk;have g1:=HG.o _ hk;clear hk)
 clear g0
 by_cases z0:a0<0
 ·have t0:decide (a0<0)=true:=Dt z0
  exact K10
 have t0:decide (a0<0)=false:=Df z0;have HE:Hi (X=a1):=Hh (by rw[HX.o,Ng Om]);go_upto_region 5 with (go_at_call 29;refine (C1.o Om _ HK1.o).mono ?_;rintro e w2 ⟨rfl,rfl⟩)
 clear g1
 by_cases z1:a1<0
 ·have t1:decide (a1<0)=true:=Dt z1
  have HF:Hi (a1 = -1):=Hh (by have:=HS1.o Om;omega);go_wp2_with fail;go_ret;exact⟨by rw[HE.o,HF.o];rfl,HK0.o.trans HK1.o⟩
 ·have t1:decide (a1<0)=false:=Df z1
  go_wp2_with fail;go_ret;exact⟨by rw[HE.o];rfl,HK0.o.trans HK1.o⟩
theorem Qhu (d:Zt) (w:World) :
  Calls prog 80 #[.agg #[.string d.name,.int .i64 d.kind],.agg #[.string d.name,.int .i64 d.kind]] w fun e w'=>e=.returned (.bool true)∧Q0 nob w w':=by
 obtain⟨nm,kd⟩:=d;go_enter func80,ntmps80;go_wp2_with fail;go_ret;exact⟨rfl,((Kr _ _).alloc _).alloc _⟩
theorem Q6c (v u:Value) (ds:List Zt) (w:World) (hv:Ji w v ds) (hu:Ji w u ds) :
  Calls prog 45 #[v,u] w fun e w'=>e=.returned (.bool true)∧Q0 nob w w':=by
 obtain⟨A,b,o,c,rfl,hn,_,hA,hc⟩:=hv;obtain⟨B,b',o',c',rfl,_,_,hB,hd⟩:=hu;have HC:=Hh hc;have HD:=Hh hd;clear hc hd;go_enter func45,ntmps45;go_wp2_with fail;go_loopw [5] (fun k wr=>∃j:Nat,j≤ds.length∧k=.int .i64 j∧Hi (Q0 nob w wr)) (fun k _=>ds.length-(intOf k).toNat)
 case atStart=>exact⟨0,Nat.zero_le _,rfl,Hh (Kr _ _)⟩
 case round =>
  obtain⟨j,hj,rfl,HR⟩:=hrel;obtain⟨wo,rfl⟩:∃wo:World,wo=wr:=⟨_,rfl⟩
  by_cases hlt:j<ds.length
  ·obtain⟨x,hx⟩:=Q4 hlt
   have q0:∀W,Q0 nob wo W→W.cell? ⟨b,o+j*2,none⟩=some (.string x.name):=fun W hW=>(HR.o.trans hW).cell id (HC.o j x hx).1
   have q1:∀W,Q0 nob wo W→W.cell? ⟨b,o+j*2+1,none⟩=some (.int .i64 x.kind):=fun W hW=>(HR.o.trans hW).cell id (HC.o j x hx).2
   have q2:∀W,Q0 nob wo W→W.cell? ⟨b',o'+j*2,none⟩=some (.string x.name):=fun W hW=>(HR.o.trans hW).cell id (HD.o j x hx).1
   have q3:∀W,Q0 nob wo W→W.cell? ⟨b',o'+j*2+1,none⟩=some (.int .i64 x.kind):=fun W hW=>(HR.o.trans hW).cell id (HD.o j x hx).2
   have hr0:Q0 nob wo wo:=Kr _ _;obtain rfl:=hA Om;obtain rfl:=hB Om;have hjn:(j:Int)<(ds.length:Int):=Om
   clear hx;go_upto_region 6 with fail
   go_region_held3 (fun W=>Q0 nob wo W) (first|assumption|exact hr0.drew|exact Kd ‹_›|exact Ka (Ku ‹_›) _|exact Ka ‹_› _) ((go_at_call 80;refine (Qhu x _).mono ?_;rintro e w3 ⟨rfl,hk3⟩;have hk4:=Kt ‹_› hk3;dsimp only))
   all_goals go_wp2_with fail
   all_goals go_roundw
   all_goals first
    |exact⟨j+1,Om,Gm,Hh (HR.o.trans hk4)⟩
    |(simp[intOf];omega)
  ·have hjn:¬ (j:Int)<(ds.length:Int):=Om
   go_wp2_with fail;go_returns;exact⟨rfl,HR.o⟩
theorem Qiv (n:Qn) (kv ku:Value) (w:World) (hv:Qf w kv n.kids) (hu:Qf w ku n.kids) :
  Calls prog 79 #[.agg #[.int .i64 n.kind,.string n.text,.int .i64 n.i,kv],.agg #[.int .i64 n.kind,.string n.text,.int .i64 n.i,ku]] w fun e w'=>e=.returned (.bool true)∧Q0 nob w w':=by
 obtain⟨kd,tx,i,ks⟩:=n;dsimp only at *;have hc:∀W,Q0 nob w W→Calls prog 44 #[kv,ku] W fun e w'=>e=.returned (.bool true)∧Q0 nob W w':=fun W hW=>Q7c _ _ ks _ (hv.old hW.old) (hu.old hW.old)
 obtain⟨A0,b0,o0,c0,rfl,_⟩:=hv;obtain⟨A1,b1,o1,c1,rfl,_⟩:=hu;have HC:=Hh hc;clear hc;go_enter func79,ntmps79;go_wp2_with (go_at_call 44;refine (HC.o _ (((Kr _ _).alloc _).alloc _)).mono ?_;rintro e w3 ⟨rfl,hk3⟩;have HK3:=Hh ((((Kr _ w).alloc _).alloc _).trans hk3);clear hk3);go_ret;exact⟨rfl,HK3.o⟩
theorem Qej (v u:Value) (ns:List Qn) (w:World) (hv:Xg w v ns) (hu:Xg w u ns) :
  Calls prog 43 #[v,u] w fun e w'=>e=.returned (.bool true)∧Q0 nob w w':=by
 obtain⟨A,b,o,c,rfl,hn,_,hA,hc⟩:=hv;obtain⟨B,b',o',c',rfl,_,_,hB,hd⟩:=hu;have HC:=Hh hc;have HD:=Hh hd;clear hc hd;go_enter func43,ntmps43;go_wp2_with fail;go_loopw [5] (fun k wr=>∃j:Nat,j≤ns.length∧k=.int .i64 j∧Hi (Q0 nob w wr)) (fun k _=>ns.length-(intOf k).toNat)
 case atStart=>exact⟨0,Nat.zero_le _,rfl,Hh (Kr _ _)⟩
 case round =>
  obtain⟨j,hj,rfl,HR⟩:=hrel;obtain⟨wo,rfl⟩:∃wo:World,wo=wr:=⟨_,rfl⟩
  by_cases hlt:j<ns.length
  ·obtain⟨x,hx⟩:=Q4 hlt
   obtain⟨kv,a0,a1,a2,a3,hkv⟩:=HC.o j x hx;obtain⟨ku,d0,d1,d2,d3,hku⟩:=HD.o j x hx;have HEQ:Hi (∀W,Q0 nob wo W→Calls prog 79 #[.agg #[.int .i64 x.kind,.string x.text,.int .i64 x.i,kv],.agg #[.int .i64 x.kind,.string x.text,.int .i64 x.i,ku]] W fun e w'=>e=.returned (.bool true)∧Q0 nob W w'):=Hh fun W hW=>Qiv x kv ku W (hkv.old (HR.o.trans hW).old) (hku.old (HR.o.trans hW).old)
   have q0:∀W,Q0 nob wo W→W.cell? ⟨b,o+j*4,none⟩=some (.int .i64 x.kind):=fun W hW=>(HR.o.trans hW).cell id a0
   have q1:∀W,Q0 nob wo W→W.cell? ⟨b,o+j*4+1,none⟩=some (.string x.text):=fun W hW=>(HR.o.trans hW).cell id a1
   have q2:∀W,Q0 nob wo W→W.cell? ⟨b,o+j*4+2,none⟩=some (.int .i64 x.i):=fun W hW=>(HR.o.trans hW).cell id a2
   have q3:∀W,Q0 nob wo W→W.cell? ⟨b,o+j*4+3,none⟩=some kv:=fun W hW=>(HR.o.trans hW).cell id a3
   have p0:∀W,Q0 nob wo W→W.cell? ⟨b',o'+j*4,none⟩=some (.int .i64 x.kind):=fun W hW=>(HR.o.trans hW).cell id d0
   have p1:∀W,Q0 nob wo W→W.cell? ⟨b',o'+j*4+1,none⟩=some (.string x.text):=fun W hW=>(HR.o.trans hW).cell id d1
   have p2:∀W,Q0 nob wo W→W.cell? ⟨b',o'+j*4+2,none⟩=some (.int .i64 x.i):=fun W hW=>(HR.o.trans hW).cell id d2
   have p3:∀W,Q0 nob wo W→W.cell? ⟨b',o'+j*4+3,none⟩=some ku:=fun W hW=>(HR.o.trans hW).cell id d3
   obtain⟨KA,_,_,kc,rfl,_⟩:=hkv;obtain⟨KB,_,_,kd,rfl,_⟩:=hku;have hr0:Q0 nob wo wo:=Kr _ _;obtain rfl:=hA Om;obtain rfl:=hB Om;have hjn:(j:Int)<(ns.length:Int):=Om
   clear hx a0 a1 a2 a3 d0 d1 d2 d3;go_upto_region 6 with fail
   go_region_held3 (fun W=>Q0 nob wo W) (first|assumption|exact hr0.drew|exact Kd ‹_›|exact Ka (Ku ‹_›) _|exact Ka ‹_› _) ((go_at_call 79;refine (HEQ.o _ (by first|assumption|exact hr0.drew|exact Kd ‹_›)).mono ?_;rintro e w3 ⟨rfl,hk3⟩;have hk4:=Kt ‹_› hk3;dsimp only))
   all_goals go_wp2_with fail
   all_goals go_roundw
   all_goals first
    |exact⟨j+1,Om,Gm,Hh (HR.o.trans hk4)⟩
    |(simp[intOf];omega)
  ·have hjn:¬ (j:Int)<(ns.length:Int):=Om
   go_wp2_with fail;go_returns;exact⟨rfl,HR.o⟩
theorem Qjy (v u:Value) (r:Reg) (w:World) (hv:Q20 w v r) (hu:Q20 w u r) :
  Calls prog 13 #[v,u] w fun e w'=>e=.returned (.bool true)∧Q0 nob w w':=by
 obtain⟨v0,v1,v2,rfl,h0,h1,h2⟩:=hv;obtain⟨u0,u1,u2,rfl,k0,k1,k2⟩:=hu;have C0:Hi (∀W,Q0 nob w W→Calls prog 45 #[v0,u0] W fun e w'=>e=.returned (.bool true)∧Q0 nob W w'):=Hh fun W hW=>Q6c _ _ _ _ (h0.old hW.old) (k0.old hW.old)
 have C1:Hi (∀W,Q0 nob w W→Calls prog 45 #[v1,u1] W fun e w'=>e=.returned (.bool true)∧Q0 nob W w'):=Hh fun W hW=>Q6c _ _ _ _ (h1.old hW.old) (k1.old hW.old)
 have C2:Hi (∀W,Q0 nob w W→Calls prog 45 #[v2,u2] W fun e w'=>e=.returned (.bool true)∧Q0 nob W w'):=Hh fun W hW=>Q6c _ _ _ _ (h2.old hW.old) (k2.old hW.old)
 obtain⟨A0,b0,o0,c0,rfl,_⟩:=h0;obtain⟨A1,b1,o1,c1,rfl,_⟩:=h1;obtain⟨A2,b2,o2,c2,rfl,_⟩:=h2;obtain⟨B0,e0,p0,d0,rfl,_⟩:=k0;obtain⟨B1,e1,p1,d1,rfl,_⟩:=k1;obtain⟨B2,e2,p2,d2,rfl,_⟩:=k2;have hb:Blk ((w.alloc (.cells #[.slice A0 r.comps.length c0,.slice A1 r.ress.length c1,.slice A2 r.evts.length c2] 38 (0,0))).alloc (.cells #[.slice B0 r.comps.length d0,.slice B1 r.ress.length d1,.slice B2 r.evts.length d2] 38 (0,0))) w.heap.size [.slice A0 r.comps.length c0,.slice A1 r.ress.length c1,.slice A2 r.evts.length c2] 38:=(Blk.new_of _ _ _ rfl).alloc _;have hd:Blk ((w.alloc (.cells #[.slice A0 r.comps.length c0,.slice A1 r.ress.length c1,.slice A2 r.evts.length c2] 38 (0,0))).alloc (.cells #[.slice B0 r.comps.length d0,.slice B1 r.ress.length d1,.slice B2 r.evts.length d2] 38 (0,0))) (w.heap.size+1) [.slice B0 r.comps.length d0,.slice B1 r.ress.length d1,.slice B2 r.evts.length d2] 38:=Blk.new_of _ _ _ Sm;have hk0:Q0 nob w ((w.alloc (.cells #[.slice A0 r.comps.length c0,.slice A1 r.ress.length c1,.slice A2 r.evts.length c2] 38 (0,0))).alloc (.cells #[.slice B0 r.comps.length d0,.slice B1 r.ress.length d1,.slice B2 r.evts.length d2] 38 (0,0))):=((Kr _ _).alloc _).alloc _;generalize hW0:((w.alloc (.cells #[.slice A0 r.comps.length c0,.slice A1 r.ress.length c1,.slice A2 r.evts.length c2] 38 (0,0))).alloc (.cells #[.slice B0 r.comps.length d0,.slice B1 r.ress.length d1,.slice B2 r.evts.length d2] 38 (0,0)))=W0 at hb hd hk0
 have HG:Hi (∀W,Q0 nob W0 W→(W.cell? ⟨w.heap.size,1,none⟩=some (.slice A1 r.ress.length c1)∧W.cell? ⟨w.heap.size,2,none⟩=some (.slice A2 r.evts.length c2))∧W.cell? ⟨w.heap.size+1,1,none⟩=some (.slice B1 r.ress.length d1)∧W.cell? ⟨w.heap.size+1,2,none⟩=some (.slice B2 r.evts.length d2)):=Hh fun W hW =>
  ⟨⟨(hb.kept hW id).cell 1 _ rfl,(hb.kept hW id).cell 2 _ rfl⟩,(hd.kept hW id).cell 1 _ rfl,(hd.kept hW id).cell 2 _ rfl⟩
 have g0:=hb.cell 0 _ rfl;have g1:=hd.cell 0 _ rfl;have HK0:=Hh hk0;clear hb hd hk0;go_enter func13,ntmps13;go_upto_region 3 with (go_at_call 45;refine (C0.o _ HK0.o).mono ?_;rintro e w1 ⟨rfl,hk⟩;have HK1:=Hh hk;obtain⟨⟨x1,x2⟩,y1,y2⟩:=HG.o _ hk;clear hk)
 go_upto_region 5 with (go_at_call 45;refine (C1.o _ (HK0.o.trans HK1.o)).mono ?_;rintro e w2 ⟨rfl,hk⟩;have HK2:=Hh (HK1.o.trans hk);clear hk x1 x2 y1 y2;obtain⟨⟨x1,x2⟩,y1,y2⟩:=HG.o _ HK2.o)
 go_wp2_with (go_at_call 45;refine (C2.o _ (HK0.o.trans HK2.o)).mono ?_;rintro e w3 ⟨rfl,hk⟩;have HK3:=Hh (HK2.o.trans hk);clear hk x1 x2 y1 y2);go_ret;exact⟨rfl,HK0.o.trans HK3.o⟩
theorem Qhb (v u:Value) (t:Q1) (w:World) (hv:Xt w v t) (hu:Xt w u t) :
  Calls prog 12 #[v,u] w fun e w'=>e=.returned (.bool true)∧Q0 nob w w':=by
 obtain⟨v0,v1,rfl,h0,h1⟩:=hv;obtain⟨u0,u1,rfl,k0,k1⟩:=hu;have C0:Hi (∀W,Q0 nob w W→Calls prog 43 #[v0,u0] W fun e w'=>e=.returned (.bool true)∧Q0 nob W w'):=Hh fun W hW=>Qej _ _ _ _ (h0.old hW.old) (k0.old hW.old)
 have C1:Hi (∀W,Q0 nob w W→Calls prog 44 #[v1,u1] W fun e w'=>e=.returned (.bool true)∧Q0 nob W w'):=Hh fun W hW=>Q7c _ _ _ _ (h1.old hW.old) (k1.old hW.old)
 obtain⟨A0,b0,o0,c0,rfl,_⟩:=h0;obtain⟨A1,b1,o1,c1,rfl,_⟩:=h1;obtain⟨B0,e0,p0,d0,rfl,_⟩:=k0;obtain⟨B1,e1,p1,d1,rfl,_⟩:=k1;have hb:Blk ((w.alloc (.cells #[.slice A0 t.nodes.length c0,.slice A1 t.tops.length c1] 33 (0,0))).alloc (.cells #[.slice B0 t.nodes.length d0,.slice B1 t.tops.length d1] 33 (0,0))) w.heap.size [.slice A0 t.nodes.length c0,.slice A1 t.tops.length c1] 33:=(Blk.new_of _ _ _ rfl).alloc _;have hd:Blk ((w.alloc (.cells #[.slice A0 t.nodes.length c0,.slice A1 t.tops.length c1] 33 (0,0))).alloc (.cells #[.slice B0 t.nodes.length d0,.slice B1 t.tops.length d1] 33 (0,0))) (w.heap.size+1) [.slice B0 t.nodes.length d0,.slice B1 t.tops.length d1] 33:=Blk.new_of _ _ _ Sm;have hk0:Q0 nob w ((w.alloc (.cells #[.slice A0 t.nodes.length c0,.slice A1 t.tops.length c1] 33 (0,0))).alloc (.cells #[.slice B0 t.nodes.length d0,.slice B1 t.tops.length d1] 33 (0,0))):=((Kr _ _).alloc _).alloc _;generalize hW0:((w.alloc (.cells #[.slice A0 t.nodes.length c0,.slice A1 t.tops.length c1] 33 (0,0))).alloc (.cells #[.slice B0 t.nodes.length d0,.slice B1 t.tops.length d1] 33 (0,0)))=W0 at hb hd hk0
 have HG:Hi (∀W,Q0 nob W0 W→W.cell? ⟨w.heap.size,1,none⟩=some (.slice A1 t.tops.length c1)∧W.cell? ⟨w.heap.size+1,1,none⟩=some (.slice B1 t.tops.length d1)):=Hh fun W hW =>
  ⟨(hb.kept hW id).cell 1 _ rfl,(hd.kept hW id).cell 1 _ rfl⟩
 have g0:=hb.cell 0 _ rfl;have g1:=hd.cell 0 _ rfl;have HK0:=Hh hk0;clear hb hd hk0;go_enter func12,ntmps12;go_upto_region 3 with (go_at_call 43;refine (C0.o _ HK0.o).mono ?_;rintro e w1 ⟨rfl,hk⟩;have HK1:=Hh hk;obtain⟨x1,y1⟩:=HG.o _ hk;clear hk)
 go_wp2_with (go_at_call 44;refine (C1.o _ (HK0.o.trans HK1.o)).mono ?_;rintro e w2 ⟨rfl,hk⟩;have HK2:=Hh (HK1.o.trans hk);clear hk x1 y1);go_ret;exact⟨rfl,HK0.o.trans HK2.o⟩
end Go.Proofs.YtkgkafjachjafaaGreat
