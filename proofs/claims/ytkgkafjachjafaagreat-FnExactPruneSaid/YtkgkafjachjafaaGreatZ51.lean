/- Part 51 of x_holds; no condition. -/
import Derived.Test.YtkgkafjachjafaaGreatZ50
set_option linter.unusedVariables false
set_option maxHeartbeats 4000000
set_option maxRecDepth 100000
open Go Go.RowKit
namespace Go.Proofs.YtkgkafjachjafaaGreat
open Tryz
theorem Qep {S:Nat→Prop} (v:Value) (r:Reg) (k:Nat) (w:World) (h:Q71 S w v r) (hl:r.comps.length≤1048576∧r.ress.length≤1048576∧r.evts.length≤1048576) (hk:k≤1000000) :
  Calls prog 14 #[v,.int .i64 (k:Int)] w fun e w'=>e=.returned (.int .i64 ((k+2*r.comps.length+2*r.ress.length+2*r.evts.length:Nat):Int))∧Q0 (fun q=>S q∧q<w.heap.size) w w':=by
 obtain⟨v0,v1,v2,rfl,⟨h0,h1,h2⟩,s01,s02,s12⟩:=h;obtain⟨A0,c0,rfl⟩:=h0.len;obtain⟨A1,c1,rfl⟩:=h1.len;obtain⟨A2,c2,rfl⟩:=h2.len
 have HT:Hi (∀b,(fun b=>own (.slice A0 r.comps.length c0) b∨own (.slice A1 r.ress.length c1) b∨own (.slice A2 r.evts.length c2) b) b→S b∧b<w.heap.size):=Hh fun b hb=>by
  rcases hb with hb|hb|hb
  ·exact⟨h0.2 b hb,h0.lt b hb⟩
  ·exact⟨h1.2 b hb,h1.lt b hb⟩
  ·exact⟨h2.2 b hb,h2.lt b hb⟩
 have hb:Blk (w.alloc (.cells #[.slice A0 r.comps.length c0,.slice A1 r.ress.length c1,.slice A2 r.evts.length c2] 38 (0,0))) w.heap.size [.slice A0 r.comps.length c0,.slice A1 r.ress.length c1,.slice A2 r.evts.length c2] 38:=Blk.new_of _ _ _ rfl;have hk0:Q0 nob w (w.alloc (.cells #[.slice A0 r.comps.length c0,.slice A1 r.ress.length c1,.slice A2 r.evts.length c2] 38 (0,0))):=(Kr _ _).alloc _;generalize hW0:(w.alloc (.cells #[.slice A0 r.comps.length c0,.slice A1 r.ress.length c1,.slice A2 r.evts.length c2] 38 (0,0)))=W0 at hb hk0
 have HG:Hi (∀W,Q0 (fun b=>own (.slice A0 r.comps.length c0) b∨own (.slice A1 r.ress.length c1) b∨own (.slice A2 r.evts.length c2) b) W0 W→W.cell? ⟨w.heap.size,1,none⟩=some (.slice A1 r.ress.length c1)∧W.cell? ⟨w.heap.size,2,none⟩=some (.slice A2 r.evts.length c2)):=Hh fun W hW =>
  have hn:¬ (fun b=>own (.slice A0 r.comps.length c0) b∨own (.slice A1 r.ress.length c1) b∨own (.slice A2 r.evts.length c2) b) w.heap.size:=fun hb=>by have:=(HT.o _ hb).2;omega
  ⟨(hb.kept hW hn).cell 1 _ rfl,(hb.kept hW hn).cell 2 _ rfl⟩
 have g0:=hb.cell 0 _ rfl;obtain⟨k1,hk1⟩:∃k1:Nat,k1=k+2*r.comps.length:=⟨_,rfl⟩;obtain⟨k2,hk2⟩:∃k2:Nat,k2=k1+2*r.ress.length:=⟨_,rfl⟩;obtain⟨k3,hk3⟩:∃k3:Nat,k3=k2+2*r.evts.length:=⟨_,rfl⟩
 have C0:Hi (Calls prog 46 #[.slice A0 r.comps.length c0,.int .i64 (k:Int)] W0 fun e w'=>e=.returned (.int .i64 (k1:Int))∧Q0 (own (.slice A0 r.comps.length c0)) W0 w'):=Hh (by
  rw[hk1];exact Q45 _ r.comps k W0 (h0.nobk hk0) hl.1 (by omega))
 have C1:Hi (∀W,Q0 (own (.slice A0 r.comps.length c0)) W0 W→Calls prog 46 #[.slice A1 r.ress.length c1,.int .i64 (k1:Int)] W fun e w'=>e=.returned (.int .i64 (k2:Int))∧Q0 (own (.slice A1 r.ress.length c1)) W w'):=Hh fun W hW=>by
  rw[hk2];exact Q45 _ r.ress k1 W ((h1.nobk hk0).kept hW (fun b hb hb2=>s01 b hb2 hb)) hl.2.1 (by omega)
 have C2:Hi (∀W1 W,Q0 (own (.slice A0 r.comps.length c0)) W0 W1→Q0 (own (.slice A1 r.ress.length c1)) W1 W→Calls prog 46 #[.slice A2 r.evts.length c2,.int .i64 (k2:Int)] W fun e w'=>e=.returned (.int .i64 (k3:Int))∧Q0 (own (.slice A2 r.evts.length c2)) W w'):=Hh fun W1 W hW1 hW=>by
  rw[hk3];exact Q45 _ r.evts k2 W (((h2.nobk hk0).kept hW1 (fun b hb hb2=>s02 b hb2 hb)).kept hW (fun b hb hb2=>s12 b hb2 hb)) hl.2.2 (by omega)
 have HE:Hi ((k3:Int)=((k+2*r.comps.length+2*r.ress.length+2*r.evts.length:Nat):Int)):=Hh (by omega);have HK0:=Hh hk0;clear hb hk0 h0 h1 h2 s01 s02 s12 hk1 hk2 hk3 hl hk;rw[← HE.o];go_enter func14,ntmps14;go_upto_region 2 with (go_at_call 46;refine C0.o.mono ?_;rintro e w1 ⟨rfl,hk⟩;have HK1:=Hh hk;have HA1:=Hh (hk.mono (S':=(fun b=>own (.slice A0 r.comps.length c0) b∨own (.slice A1 r.ress.length c1) b∨own (.slice A2 r.evts.length c2) b)) (fun _ _ h=>.inl h));obtain⟨x1,x2⟩:=HG.o _ HA1.o;clear hk)
 go_upto_region 3 with (go_at_call 46;refine (C1.o _ HK1.o).mono ?_;rintro e w2 ⟨rfl,hk⟩;have HK2:=Hh hk;have HA2:=Hh (HA1.o.trans (hk.mono (S':=(fun b=>own (.slice A0 r.comps.length c0) b∨own (.slice A1 r.ress.length c1) b∨own (.slice A2 r.evts.length c2) b)) (fun _ _ h=>.inr (.inl h))));clear hk x1 x2;obtain⟨x1,x2⟩:=HG.o _ HA2.o)
 go_wp2_with (go_at_call 46;refine (C2.o _ _ HK1.o HK2.o).mono ?_;rintro e w3 ⟨rfl,hk⟩;have HA3:=Hh (HA2.o.trans (hk.mono (S':=(fun b=>own (.slice A0 r.comps.length c0) b∨own (.slice A1 r.ress.length c1) b∨own (.slice A2 r.evts.length c2) b)) (fun _ _ h=>.inr (.inr h))));clear hk x1 x2);go_ret;exact⟨rfl,(HK0.o.ofNob _).then_ HA3.o (fun b hb=>.inl (HT.o b hb))⟩
theorem Q7i {S:Nat→Prop} (nv tv:Value) (l:List (Qc×Value)) (tops:List Int) (k:Nat) (w:World) (h:Q07 S w nv tv l tops) (hl:l.length≤100000000) (hkl:∀p∈l,p.1.kids.length≤1048576) (ht:tops.length≤100000000) (hk:k≤100000000) :
  Calls prog 15 #[.agg #[nv,tv],.int .i64 (k:Int)] w fun e w'=>e=.returned (.int .i64 ((k+cnt l+tops.length:Nat):Int))∧Q07 S w' nv tv (Zm l k) (Q06 tops.length ((k+cnt l:Nat):Int))∧Q0 (fun q=>S q∧q<w.heap.size) w w':=by
 have ho:=h.o.mono (S':=fun q=>(S q∧¬ own tv q)∧q<w.heap.size) (fun q hq hS=>⟨hS,hq⟩);have hv:=h.k;obtain⟨A0,c0,rfl⟩:=ho.row.len;obtain⟨A1,b1,c1,rfl,_⟩:=hv.opened;rw[Q5] at ho hv ⊢;have hb:Blk (w.alloc (.cells #[.slice A0 l.length c0,.slice A1 tops.length c1] 33 (0,0))) w.heap.size [.slice A0 l.length c0,.slice A1 tops.length c1] 33:=Blk.new_of _ _ _ rfl;have hk0:Q0 nob w (w.alloc (.cells #[.slice A0 l.length c0,.slice A1 tops.length c1] 33 (0,0))):=(Kr _ _).alloc _;generalize hW0:(w.alloc (.cells #[.slice A0 l.length c0,.slice A1 tops.length c1] 33 (0,0)))=W0 at hb hk0
 have HG:Hi (∀W,Q0 (fun q=>(S q∧¬ own (.slice A1 tops.length c1) q)∧q<w.heap.size) W0 W→W.cell? ⟨w.heap.size,1,none⟩=some (.slice A1 tops.length c1)):=Hh fun W hW =>
  (hb.kept hW (fun h=>Nat.lt_irrefl _ h.2)).cell 1 _ rfl
 have g0:=hb.cell 0 _ rfl;obtain⟨k1,hk1⟩:∃k1:Nat,k1=k+cnt l:=⟨_,rfl⟩;have hc:=Qc0 hkl;obtain⟨k2,hk2⟩:∃k2:Nat,k2=k1+tops.length:=⟨_,rfl⟩
 have C0:Hi (Calls prog 47 #[.slice A0 l.length c0,.int .i64 (k:Int)] W0 fun e w'=>e=.returned (.int .i64 (k1:Int))∧Jc (fun q=>(S q∧¬ own (.slice A1 tops.length c1) q)∧q<w.heap.size) w' (.slice A0 l.length c0) (Zm l k)∧Q0 (fun q=>(S q∧¬ own (.slice A1 tops.length c1) q)∧q<w.heap.size) W0 w'):=Hh (by
  rw[hk1];exact Qbg _ l k W0 (ho.nobk hk0) hl hkl (by omega))
 have C1:Hi (∀W,Q0 (fun q=>(S q∧¬ own (.slice A1 tops.length c1) q)∧q<w.heap.size) W0 W→Calls prog 48 #[.slice A1 tops.length c1,.int .i64 (k1:Int)] W fun e w'=>e=.returned (.int .i64 (k2:Int))∧Qf S 3 w' (.slice A1 tops.length c1) (Q4 (Q06 tops.length (k1:Int)))∧Q0 (own (.slice A1 tops.length c1)) W w'):=Hh fun W hW=>by
  have h1:=(hv.nobk hk0).kept hW (fun b hb hb2=>hb2.1.2 hb);have h2:=Q7m (k:=(k1:Int)) h1 (by omega) (by omega);rw[hk2];push_cast;exact h2
 have HL:Hi (∀b,own (.slice A1 tops.length c1) b→S b∧b<w.heap.size):=Hh fun b hb=>⟨hv.2 b hb,hv.lt b hb⟩
 have HE:Hi ((k2:Int)=((k+cnt l+tops.length:Nat):Int)∧k1=k+cnt l):=Hh ⟨by omega,hk1⟩;have HK0:=Hh hk0;clear hb hk0 ho hv hk1 hk2 h hl hkl ht hk hc;rw[← HE.o.1,← HE.o.2];go_enter func15,ntmps15;go_upto_region 2 with (go_at_call 47;refine C0.o.mono ?_;rintro e w1 ⟨rfl,ho,hk⟩;have HK1:=Hh hk;have HO1:=Hh ho;have x1:=HG.o _ hk;clear hk ho)
 go_wp2_with (go_at_call 48;refine (C1.o _ HK1.o).mono ?_;rintro e w2 ⟨rfl,ho,hk⟩;have HK2:=Hh hk;have HO2:=Hh ho;clear hk ho x1);go_ret
 refine⟨rfl,⟨(HO1.o.kept HK2.o (fun b hb hb2=>hb.1.2 hb2)).mono (fun _ _ h=>h.1),HO2.o⟩,((HK0.o.ofNob _).then_ HK1.o (fun b hb=>.inl ⟨hb.1.1,hb.2⟩)).then_ HK2.o (fun b hb=>.inl (HL.o b hb))⟩
theorem Qm6 (q m:Nat):decide ((q:Int)+1+1+1+(m:Int)<0)=false:=Df (by omega)
theorem Qb3 (v:Value) (l:List (Qc×Value)) (k:Nat) (w:World) (hv:X4 w v ((Zm l k).map Prod.fst)) (hl:l.length≤100000000) (hkl:∀p∈l,p.1.kids.length≤1048576) (hk:k≤1000000000000000) :
  Calls prog 49 #[v,.int .i64 (k:Int)] w fun e w'=>e=.returned (.int .i64 ((k+cnt l:Nat):Int))∧Q0 nob w w':=by
 obtain⟨A,b,o,c,rfl,hn,_,hA,hc⟩:=hv;have HC:=Hh hc;have HKL:=Hh hkl;have HKB:=Hh hk;clear hc hkl hk;rw[List.length_map,Q1f] at hn hA ⊢;obtain⟨n,hnn⟩:∃n,n=l.length:=⟨_,rfl⟩;rw[← hnn] at hl hA ⊢;have HNL:=Hh hnn;clear hnn;obtain⟨R,hR⟩:∃R:Int,R=((k+cnt l:Nat):Int):=⟨_,rfl⟩;have HRR:=Hh hR;rw[← hR];clear hR;go_enter func49,ntmps49;go_wp2_with fail;go_loopw [1,5] (fun m i wr=>∃(j q:Nat),j≤n∧i=.int .i64 j∧m=.int .i64 (q:Int)∧Hi (∃a b,l=a++b∧a.length=j∧q=k+cnt a∧Q0 nob w wr)) (fun _ i _=>n-(intOf i).toNat)
 case atStart=>exact⟨0,k,Nat.zero_le _,rfl,rfl,Hh ⟨[],l,rfl,rfl,rfl,Kr _ _⟩⟩
 case round =>
  obtain⟨j,q,hj,rfl,rfl,HR⟩:=hrel;obtain⟨wo,rfl⟩:∃wo:World,wo=wr:=⟨_,rfl⟩
  by_cases hlt:j<n
  ·obtain⟨a,bb,hab,haj,hq,hkw⟩:=HR.o
   match bb,hab with
   |[],hab=>exfalso;have:=HNL.o;rw[hab] at this;simp at this;omega
   |(nd,kv0)::bb,hab =>
   have hjn:(j:Int)<(n:Int):=by omega
   have hal:∀p∈a,p.1.kids.length≤1048576:=fun p hp=>HKL.o p (by rw[hab];exact List.mem_append_left _ hp)
   have hkd:nd.kids.length≤1048576:=HKL.o (nd,kv0) (by rw[hab];exact Jc.here nd);have hqb:q≤2000000000000000:=by have:=Qc0 hal;have:=HKB.o;omega
   have hx:=Qgt (a:=a) (b:=bb) (p:=(nd,kv0)) hq;rw[haj,← hab] at hx;obtain⟨kv,d0,d1,d2,d3,hki⟩:=HC.o j _ hx;simp only[mk1] at d0 d1 d2 hki;push_cast at d2 hki;have HKW:=Hh hkw;have p0:∀W,Q0 nob wo W→W.cell? ⟨b,o+j*4,none⟩=some (.int .i64 (q:Int)):=fun W hW=>(HKW.o.trans hW).cell id d0
   have p1:∀W,Q0 nob wo W→W.cell? ⟨b,o+j*4+1,none⟩=some (.string (Q2y (q+1))):=fun W hW=>(HKW.o.trans hW).cell id d1
   have p2:∀W,Q0 nob wo W→W.cell? ⟨b,o+j*4+2,none⟩=some (.int .i64 ((q:Int)+1+1)):=fun W hW=>(HKW.o.trans hW).cell id d2
   have p3:∀W,Q0 nob wo W→W.cell? ⟨b,o+j*4+3,none⟩=some kv:=fun W hW=>(HKW.o.trans hW).cell id d3
   have p0':=p0 wo (Kr _ _);obtain⟨hq1,hw1,hw2,hw3,hw4,hq3⟩:=Qlo hqb;clear hqb
   have HMT:Hi (∀W,Calls prog 81 #[.int .i64 ((q:Int)+1)] W fun e w'=>e=.returned (.string (Q2y (q+1)))∧Q0 nob W w'):=Hh fun W=>by
    have:=Q4m (q+1) W hq1;push_cast at this;exact this
   have HHI:Hi (∀W,Q0 nob wo W→Calls prog 50 #[kv,.int .i64 ((q:Int)+1+1+1)] W fun e w'=>e=.returned (.int .i64 ((q:Int)+1+1+1+nd.kids.length))∧W=w'):=Hh fun W hW =>
    Q7x kv _ _ W (hki.old (HKW.o.trans hW).old) hq3
   have t14:=Qm6 q nd.kids.length;obtain rfl:=hA (by omega);have hr0:Q0 nob wo wo:=Kr _ _;have HAB:=Hh hab;have HAJ:=Hh haj;have HQ:=Hh hq;obtain⟨KA,_,_,kc,rfl,_⟩:=hki;clear hab haj hq hal hkw HR hx d0 d1 d2 d3 hq1 hq3;go_upto_region 7 with fail
   go_region_held3 (fun W=>Q0 nob wo W) (first|assumption|exact hr0.drew|exact Kd ‹_›|exact Ka (Ku ‹_›) _|exact Ka ‹_› _) ((go_at_call 81;refine (HMT.o _).mono ?_;rintro e w3 ⟨rfl,hk3⟩;have hk4:=Kt ‹_› hk3;dsimp only))
   all_goals have hp2:=p2 _ (by first|assumption|exact Kd ‹_›)
   all_goals have hp3:=p3 _ (by first|assumption|exact Kd ‹_›)
   all_goals go_wp2_with (go_at_call 50;refine (HHI.o _ (by first|assumption|exact Kd ‹_›)).mono ?_;rintro e w5 ⟨rfl,rfl⟩)
   all_goals go_roundw
   all_goals first
    |exact⟨j+1,q+3+nd.kids.length,by omega,by go_num,by first|(congr 1;done)|(congr 1;push_cast;omega),Hh ⟨a++[(nd,kv0)],bb,by rw[HAB.o];simp,by rw[List.length_append,HAJ.o];rfl,by rw[HQ.o,Qfk];simp[cnt];omega,HKW.o.trans hk4⟩⟩
    |(simp[intOf];omega)
  ·have hjn:¬ (j:Int)<(n:Int):=by omega
   obtain⟨a,bb,hab,haj,hq,hkw⟩:=HR.o
   have hb:bb=[]:=by
    have:=HNL.o;rw[hab,List.length_append] at this;exact List.eq_nil_of_length_eq_zero (by omega)
   subst hb;rw[List.append_nil] at hab;subst hab;have HE:Hi ((q:Int)=R):=Hh (by rw[HRR.o,hq]);have HKW:=Hh hkw;clear hkw HR hq;go_wp2_with fail;go_returns;exact⟨by rw[← HE.o];rfl,HKW.o⟩
theorem Qcg (nv tv:Value) (l:List (Qc×Value)) (tl k:Nat) (w:World) (hv:X4 w nv ((Zm l k).map Prod.fst)) (hu:Qi w tv (Q06 tl ((k+cnt l:Nat):Int))) (hl:l.length≤100000000) (hkl:∀p∈l,p.1.kids.length≤1048576) (ht:tl≤100000000) (hk:k≤100000000) :
  Calls prog 16 #[.agg #[nv,tv],.int .i64 (k:Int)] w fun e w'=>e=.returned (.int .i64 ((k+cnt l+tl:Nat):Int))∧Q0 nob w w':=by
 have hv':=hv;have hu':=hu;obtain⟨A0,b0,o0,c0,rfl,_⟩:=hv;obtain⟨A1,b1,o1,c1,rfl,_⟩:=hu;rw[List.length_map,Q1f] at hv' ⊢;rw[Xg] at hu' ⊢;have hb:Blk (w.alloc (.cells #[.slice A0 l.length c0,.slice A1 tl c1] 33 (0,0))) w.heap.size [.slice A0 l.length c0,.slice A1 tl c1] 33:=Blk.new_of _ _ _ rfl;have hk0:Q0 nob w (w.alloc (.cells #[.slice A0 l.length c0,.slice A1 tl c1] 33 (0,0))):=(Kr _ _).alloc _;generalize hW0:(w.alloc (.cells #[.slice A0 l.length c0,.slice A1 tl c1] 33 (0,0)))=W0 at hb hk0;have HG:Hi (∀W,Q0 nob W0 W→W.cell? ⟨w.heap.size,1,none⟩=some (.slice A1 tl c1)):=Hh fun W hW=>(hb.kept hW id).cell 1 _ rfl
 have g0:=hb.cell 0 _ rfl;obtain⟨k1,hk1⟩:∃k1:Nat,k1=k+cnt l:=⟨_,rfl⟩;have hc:=Qc0 hkl;obtain⟨k2,hk2⟩:∃k2:Nat,k2=k1+tl:=⟨_,rfl⟩
 have C0:Hi (Calls prog 49 #[.slice A0 l.length c0,.int .i64 (k:Int)] W0 fun e w'=>e=.returned (.int .i64 (k1:Int))∧Q0 nob W0 w'):=Hh (by
  rw[hk1];exact Qb3 _ l k W0 (hv'.old hk0.old) hl hkl (by omega))
 have C1:Hi (∀W,Q0 nob W0 W→Calls prog 50 #[.slice A1 tl c1,.int .i64 (k1:Int)] W fun e w'=>e=.returned (.int .i64 (k2:Int))∧W=w'):=Hh fun W hW=>by
  have h2:=Q7x _ tl (k1:Int) W (by rw[hk1];exact hu'.old (hk0.trans hW).old) (by omega);rw[hk2];push_cast;exact h2
 have HE:Hi ((k2:Int)=((k+cnt l+tl:Nat):Int)):=Hh (by omega);have t1:decide ((k1:Int)<0)=false:=Df (by omega);have t2:decide ((k2:Int)<0)=false:=Df (by omega);have HK0:=Hh hk0;clear hb hk0 hv' hu' hk1 hk2 hl hkl ht hk hc;rw[← HE.o];go_enter func16,ntmps16;go_upto_region 2 with (go_at_call 49;refine C0.o.mono ?_;rintro e w1 ⟨rfl,hk⟩;have HK1:=Hh hk;have x1:=HG.o _ hk;clear hk)
 go_wp2_with (go_at_call 50;refine (C1.o _ HK1.o).mono ?_;rintro e w2 ⟨rfl,rfl⟩);go_ret;exact⟨rfl,HK0.o.trans HK1.o⟩
section
variable {w W:World} {v:Value} {p:Nat}
theorem Qi.but {xs:List Int} (h:Qi w v xs) (hp:∀i (k:Int),w.cell? ⟨p,i,none⟩≠some (.int .i64 k)) (hW:∀q,q≠p→W.heap[q]?=w.heap[q]?):Qi W v xs:=by
 obtain⟨A,b,o,c,hv,hl,hc,hA,hx⟩:=h
 refine⟨A,b,o,c,hv,hl,hc,hA,fun j x hj=>?_⟩
 have h1:=hx j x hj;have hb:b≠p:=fun e=>hp _ _ (e▸h1)
 have h2:=hW b hb;simpa[World.cell?,h2] using h1
theorem Z3.but {T:Q1} (h:Z3 w v T) (hp:∀i (k:Int),w.cell? ⟨p,i,none⟩≠some (.int .i64 k)) (hW:∀q,q≠p→W.heap[q]?=w.heap[q]?):Z3 W v T:=by
 obtain⟨v0,v1,rfl,⟨A,b,o,c,hv,hl,hc,hA,hx⟩,h1⟩:=h
 refine⟨v0,v1,rfl,⟨A,b,o,c,hv,hl,hc,hA,fun j x hj=>?_⟩,h1.but hp hW⟩
 obtain⟨kv,k0,k1,k2,k3,k4⟩:=hx j x hj;have hb:b≠p:=fun e=>hp _ _ (e▸k0)
 have h2:=hW b hb;have Qmq:∀(i:Nat) (y:Value),w.cell? ⟨b,i,none⟩=some y→W.cell? ⟨b,i,none⟩=some y:=fun i y hy=>by simpa[World.cell?,h2] using hy
 exact⟨kv,Qmq _ _ k0,Qmq _ _ k1,Qmq _ _ k2,Qmq _ _ k3,k4.but hp hW⟩
theorem Blk.noInt (h:Blk w p [.slice none 0 0,.slice none 0 0] 33):∀i (k:Int),w.cell? ⟨p,i,none⟩≠some (.int .i64 k):=by
 intro i k e
 match i with
 |0=>rw[h.cell 0 _ rfl] at e;cases e
 |1=>rw[h.cell 1 _ rfl] at e;cases e
 |i+2=>simp[World.cell?,show w.heap[p]?=_ from h] at e
theorem Z3.set2 {T:Q1} (h:Z3 w v T) (hb:Blk w p [.slice none 0 0,.slice none 0 0] 33) (x y:Value):Z3 ((w.setCell ⟨p,0,none⟩ x).setCell ⟨p,1,none⟩ y) v T :=
 h.but hb.noInt fun q hq=>(Below.heap_setCell _ _ _ _ hq).trans (Below.heap_setCell _ _ _ _ hq)
end
theorem Qdu {l:List (Qc×Value)} {B:Nat} (h:∀p∈l,p.1.kids.length≤B):∀(k:Nat),∀p∈Zm l k,p.1.kids.length≤B:=by
 induction l with
 |nil=>intro k p hp;cases hp
 |cons x l ih =>
  intro k p hp;rcases List.mem_cons.1 hp with rfl|hp
  ·simp only[mk1,Xg];exact h x (List.mem_cons_self ..)
  ·exact ih (fun q hq=>h q (List.mem_cons_of_mem _ hq)) _ p hp
theorem Q71.mono {S S':Nat→Prop} {w:World} {v:Value} {r:Reg} (h:Q71 S w v r) (hs:∀k,k<w.heap.size→S k→S' k):Q71 S' w v r:=by
 obtain⟨v0,v1,v2,rfl,⟨h0,h1,h2⟩,hs3⟩:=h;exact⟨v0,v1,v2,rfl,⟨⟨h0.1,fun k hk=>hs k (h0.lt k hk) (h0.2 k hk)⟩,⟨h1.1,fun k hk=>hs k (h1.lt k hk) (h1.2 k hk)⟩,⟨h2.1,fun k hk=>hs k (h2.lt k hk) (h2.2 k hk)⟩⟩,hs3⟩
theorem Q71.kept {S S':Nat→Prop} {w w':World} {v:Value} {r:Reg} (h:Q71 S w v r) (k:Q0 S' w w') (hn:∀q,S q→¬ S' q):Q71 S w' v r:=by
 obtain⟨v0,v1,v2,rfl,⟨h0,h1,h2⟩,hs3⟩:=h;exact⟨v0,v1,v2,rfl,⟨h0.kept k (fun b hb=>hn b (h0.2 b hb)),h1.kept k (fun b hb=>hn b (h1.2 b hb)),h2.kept k (fun b hb=>hn b (h2.2 b hb))⟩,hs3⟩
theorem Q07.mono {S S':Nat→Prop} {w:World} {nv tv:Value} {l:List (Qc×Value)} {ts:List Int} (h:Q07 S w nv tv l ts) (hs:∀k,k<w.heap.size→S k→S' k):Q07 S' w nv tv l ts :=
 ⟨h.o.mono (fun k hk hS=>⟨hs k hk hS.1,hS.2⟩),⟨h.k.1,fun k hk=>hs k (h.k.lt k hk) (h.k.2 k hk)⟩⟩
theorem Q07.kept {S S':Nat→Prop} {w w':World} {nv tv:Value} {l:List (Qc×Value)} {ts:List Int} (h:Q07 S w nv tv l ts) (k:Q0 S' w w') (hn:∀q,S q→¬ S' q):Q07 S w' nv tv l ts :=
 ⟨h.o.kept k (fun q hq=>hn q hq.1),h.k.kept k (fun q hq=>hn q (h.k.2 q hq))⟩
theorem Q07.tree {S:Nat→Prop} {w:World} {nv tv:Value} {l:List (Qc×Value)} {T:Q1} (h:Q07 S w nv tv l T.tops) (hm:l.map Prod.fst=T.nodes) (hl:l.length≤100000000) (hk:∀p∈l,p.1.kids.length≤1048576) (ht:T.tops.length≤100000000):Z3 w (.agg #[nv,tv]) T:=by
 refine⟨nv,tv,rfl,?_,h.k.ints (by omega)⟩;have h1:=h.o.nodes (by omega) (fun p hp=>by have:=hk p hp;omega);rw[hm] at h1;exact h1
theorem Qlu (r:Reg) (t:Q1) (name:ByteArray) (rv tv:Value) (w:World) (hr:Q1d w rv r) (ht:Z3 w tv t) (hN:Q1k r) (hX:Q04 t) :
  Calls prog 3 #[rv,tv,.string name] w fun e w'=>e=.returned (.bool true)∧Q0 nob w w':=by
 have hr':=hr;have ht':=ht;obtain⟨v0,v1,v2,rfl,⟨A0,b0,o0,c0,rfl,_⟩,⟨A1,b1,o1,c1,rfl,_⟩,⟨A2,b2,o2,c2,rfl,_⟩⟩:=hr;obtain⟨u0,u1,rfl,⟨A3,b3,o3,c3,rfl,_⟩,⟨A4,b4,o4,c4,rfl,_⟩⟩:=ht;have hk0:Q0 nob w ((w.alloc (.cells #[.slice A0 r.comps.length c0,.slice A1 r.ress.length c1,.slice A2 r.evts.length c2] 24 (0,0))).alloc (.cells #[.slice A3 t.nodes.length c3,.slice A4 t.tops.length c4] 28 (0,0))):=((Kr _ _).alloc _).alloc _;have hb1:Blk ((w.alloc (.cells #[.slice A0 r.comps.length c0,.slice A1 r.ress.length c1,.slice A2 r.evts.length c2] 24 (0,0))).alloc (.cells #[.slice A3 t.nodes.length c3,.slice A4 t.tops.length c4] 28 (0,0))) w.heap.size [.slice A0 r.comps.length c0,.slice A1 r.ress.length c1,.slice A2 r.evts.length c2] 24:=(Blk.new_of _ _ _ rfl).alloc _;have hb2:Blk ((w.alloc (.cells #[.slice A0 r.comps.length c0,.slice A1 r.ress.length c1,.slice A2 r.evts.length c2] 24 (0,0))).alloc (.cells #[.slice A3 t.nodes.length c3,.slice A4 t.tops.length c4] 28 (0,0))) (w.heap.size+1) [.slice A3 t.nodes.length c3,.slice A4 t.tops.length c4] 28:=Blk.new_of _ _ _ (by simp);have hst:(((w.alloc (.cells #[.slice A0 r.comps.length c0,.slice A1 r.ress.length c1,.slice A2 r.evts.length c2] 24 (0,0))).alloc (.cells #[.slice A3 t.nodes.length c3,.slice A4 t.tops.length c4] 28 (0,0)))).heap.size=w.heap.size+2:=by simp
 generalize hW0:((w.alloc (.cells #[.slice A0 r.comps.length c0,.slice A1 r.ress.length c1,.slice A2 r.evts.length c2] 24 (0,0))).alloc (.cells #[.slice A3 t.nodes.length c3,.slice A4 t.tops.length c4] 28 (0,0)))=W0 at hk0 hb1 hb2 hst
 have HV:Hi (∀W,Q0 (Q7 W0.heap.size) W0 W→Q1d W (.agg #[.slice A0 r.comps.length c0,.slice A1 r.ress.length c1,.slice A2 r.evts.length c2]) r∧Z3 W (.agg #[.slice A3 t.nodes.length c3,.slice A4 t.tops.length c4]) t):=Hh fun W hW=>by
  have h:=((hk0.ofNob _).trans hW).oldS (fun k hk e=>by have e:W0.heap.size≤k:=e;omega);exact⟨hr'.old h,ht'.old h⟩
 have HBX:Hi (∀W,Q0 (Q7 W0.heap.size) W0 W→(W.cell? ⟨w.heap.size,0,none⟩=some (.slice A0 r.comps.length c0)∧W.cell? ⟨w.heap.size,1,none⟩=some (.slice A1 r.ress.length c1)∧W.cell? ⟨w.heap.size,2,none⟩=some (.slice A2 r.evts.length c2)) ∧
   W.cell? ⟨w.heap.size+1,0,none⟩=some (.slice A3 t.nodes.length c3)∧W.cell? ⟨w.heap.size+1,1,none⟩=some (.slice A4 t.tops.length c4)):=Hh fun W hW=>by
  have n1:¬ Q7 W0.heap.size w.heap.size:=fun e=>by have e:W0.heap.size≤w.heap.size:=e;omega
  have n2:¬ Q7 W0.heap.size (w.heap.size+1):=fun e=>by have e:W0.heap.size≤w.heap.size+1:=e;omega
  exact⟨⟨(hb1.kept hW n1).cell 0 _ rfl,(hb1.kept hW n1).cell 1 _ rfl,(hb1.kept hW n1).cell 2 _ rfl⟩,(hb2.kept hW n2).cell 0 _ rfl,(hb2.kept hW n2).cell 1 _ rfl⟩
 have HK0:=Hh hk0;have HST:=Hh hst;have HNM:=Hh hN;have HXT:=Hh hX;obtain⟨⟨g0,g1,g2⟩,g3,g4⟩:=HBX.o W0 (Kr _ _);clear hb1 hb2 hk0 hst hr' ht' hN hX
 by_cases Qmr:1048576<name.size
 ·have hl:(1048576:Int)<(name.size:Int):=by omega
  go_enter func3,ntmps3;go_wp2_with fail;go_ret;exact⟨rfl,HK0.o⟩
 have hl:¬ (1048576:Int)<(name.size:Int):=by omega
 have CZ:Hi (Calls prog 6 #[.agg #[.slice A0 r.comps.length c0,.slice A1 r.ress.length c1,.slice A2 r.evts.length c2],.int .i64 1048576] W0 fun e w'=>e=.returned (.int .i64 (szR r 1048576))∧Q0 nob W0 w'):=Hh (Qkc _ r 1048576 _ (HV.o _ (Kr _ _)).1 HNM.o (by omega))
 by_cases hz:szR r 1048576<0
 ·obtain⟨l1,hl1⟩:∃l1,l1=szR r 1048576:=⟨_,rfl⟩
  rw[← hl1] at CZ hz;clear hl1;go_enter func3,ntmps3;go_upto_region 5 with (go_at_call 6;refine CZ.o.mono ?_;rintro e w1 ⟨rfl,hk⟩;have HK1:=Hh hk;clear hk g0 g1 g2 g3 g4)
  go_wp2_with fail;go_ret;exact⟨rfl,HK0.o.trans HK1.o⟩
 obtain⟨hrl,hrn,hrz⟩:=Qi3 (r:=r) (l:=1048576) (by omega) (by omega);have CT:Hi (∀W,Q0 nob W0 W→Calls prog 7 #[.agg #[.slice A3 t.nodes.length c3,.slice A4 t.tops.length c4],.int .i64 (szR r 1048576)] W fun e w'=>e=.returned (.int .i64 (szT t (szR r 1048576)))∧Q0 nob W w'):=Hh fun W hW=>Qhs _ t _ _ (HV.o _ (hW.ofNob _)).2 HXT.o (by omega)
 have HZ:Hi (0≤szT t (szR r 1048576)→(t.nodes.length≤1048576∧t.tops.length≤1048576)∧∀n∈t.nodes,n.text.size≤1048576∧n.kids.length≤1048576):=Hh fun h=>Qit (by omega) h
 generalize szR r 1048576=l1 at *
 by_cases hz2:szT t l1<0
 ·generalize szT t l1=l2 at *
  go_enter func3,ntmps3;go_upto_region 5 with (go_at_call 6;refine CZ.o.mono ?_;rintro e w1 ⟨rfl,hk⟩;have HK1:=Hh hk;clear g0 g1 g2 g3 g4;obtain⟨_,g3,g4⟩:=HBX.o _ (hk.ofNob _);clear hk)
  go_upto_region 8 with (go_at_call 7;refine (CT.o _ HK1.o).mono ?_;rintro e w2 ⟨rfl,hk⟩;have HK2:=Hh (HK1.o.trans hk);clear hk g3 g4)
  go_wp2_with fail;go_ret;exact⟨rfl,HK0.o.trans HK2.o⟩
 obtain⟨htl,htn⟩:=HZ.o (by omega);have HRL:=Hh hrl;have HTL:=Hh htl;have HTN:=Hh (fun n hn=>(htn n hn).2:∀n∈t.nodes,n.kids.length≤1048576);have HSM:=Hh (Qjb htn);have HCA:=Hh (fun h=>Q2s (r:=r) (t:=t) h);clear hrl htl hrn hrz htn HZ;generalize szT t l1=l2 at *;obtain⟨P,hP⟩:∃P,P=Q2k r t name:=⟨_,rfl⟩;have HPI:Hi (Q0x r t name=P):=Hh (by rw[hP];exact Qjp);have HPS:=Hh hP;clear hP;obtain⟨PT,PB⟩:=P;have CR:Hi (∀W,Q0 (Q7 W0.heap.size) W0 W→Calls prog 9 #[.agg #[.slice A0 r.comps.length c0,.slice A1 r.ress.length c1,.slice A2 r.evts.length c2]] W fun e w'=>∃u,e=.returned u∧Q71 (Q7 W.heap.size) w' u r∧Q0 nob W w'):=Hh fun W hW=>Qka _ r _ (HV.o _ hW).1 HRL.o
 have CTR:Hi (∀W,Q0 (Q7 W0.heap.size) W0 W→Calls prog 10 #[.agg #[.slice A3 t.nodes.length c3,.slice A4 t.tops.length c4]] W fun e w'=>∃nv tv l,e=.returned (.agg #[nv,tv])∧Q07 (Q7 W.heap.size) w' nv tv l t.tops∧l.map Prod.fst=t.nodes∧Q0 nob W w'):=Hh fun W hW=>Qfy _ t _ (HV.o _ hW).2 HTL.o HTN.o
 have CPS:Hi (∀W u n,Q1d W u r→Z3 W n t→Calls prog 8 #[u,n,.string name] W fun e w'=>∃B0 d0 B1 d1,e=.returned (.tuple #[.agg #[.slice B0 PT.nodes.length d0,.slice B1 PT.tops.length d1],.bool PB])∧Z3 w' (.agg #[.slice B0 PT.nodes.length d0,.slice B1 PT.tops.length d1]) PT∧Q0 nob W w'):=Hh fun W u n hu hn=>by
  refine (Qf0 r t name u n W hu hn HNM.o HXT.o HSM.o (fun h=>(HCA.o h).2)).mono ?_
  rintro e w' ⟨v,rfl,hv,hk⟩;rw[← HPS.o] at hv ⊢;obtain⟨y0,y1,rfl,h0,h1⟩:=hv;have h0':=h0;have h1':=h1;obtain⟨B0,_,_,d0,rfl,_⟩:=h0;obtain⟨B1,_,_,d1,rfl,_⟩:=h1;exact⟨B0,d0,B1,d1,rfl,⟨_,_,rfl,h0',h1'⟩,hk⟩
 have CPI:Hi (∀W u n,Q1d W u r→Z3 W n t→Calls prog 11 #[u,n,.string name] W fun e w'=>∃nv tv l,e=.returned (.tuple #[.agg #[nv,tv],.bool PB])∧Q07 (Q7 W.heap.size) w' nv tv l PT.tops∧l.map Prod.fst=PT.nodes∧(∀p∈l,p.1.kids.length≤1048576)∧l.length≤100000000∧PT.tops.length≤100000000∧Q0 nob W w'):=Hh fun W u n hu hn=>by
  refine (Qj8 r t name u n W hu hn HNM.o HXT.o HSM.o HCA.o).mono ?_;rintro e w' ⟨nv,tv,l,rfl,ho,hm,hf,hl,htp,hk⟩;rw[HPI.o] at ho hm hf htp ⊢;exact⟨nv,tv,l,rfl,ho,hm,fun p hp=>hf p.1 (by rw[← hm];exact List.mem_map.2 ⟨p,hp,rfl⟩),hl,htp,hk⟩
 have HTT:Hi (∀(S:Nat→Prop) W nv tv l,Q07 S W nv tv l t.tops→l.map Prod.fst=t.nodes→Z3 W (.agg #[nv,tv]) t):=Hh fun S W nv tv l ho hm=>by
  refine⟨nv,tv,rfl,?_,ho.k.ints (by have:=HTL.o;omega)⟩;have Qmr:l.length=t.nodes.length:=by rw[← hm,List.length_map]
  have h:=ho.o.nodes (by have:=HTL.o;omega) (fun p hp=>by have:=HTN.o p.1 (by rw[← hm];exact List.mem_map.2 ⟨p,hp,rfl⟩);omega);rw[hm] at h;exact h
 go_enter func3,ntmps3;go_upto_region 5 with (go_at_call 6;refine CZ.o.mono ?_;rintro e w1 ⟨rfl,hk⟩;have HK1:=Hh hk;clear g0 g1 g2 g3 g4;obtain⟨_,g3,g4⟩:=HBX.o _ (hk.ofNob _);clear hk)
 go_upto_region 8 with (go_at_call 7;refine (CT.o _ HK1.o).mono ?_;rintro e w2 ⟨rfl,hk⟩;have HK2:=Hh (HK1.o.trans hk);clear hk g3 g4)
 go_upto_region 10 with fail
 clear CZ CT HK1 hl Qmr hz hz2 hW0;obtain⟨wb,rfl⟩:∃wb:World,wb=w2:=⟨_,rfl⟩;have HKB:Hi (Q0 (Q7 W0.heap.size) W0 wb):=Hh (HK2.o.ofNob _);go_cut [8,9] (fun u8 u9 wx=>∃(p:Nat) (B0:Option Addr) (d0:Nat) (B1:Option Addr) (d1:Nat),u8=.pointer (some ⟨p,0,none⟩)∧u9=.bool PB∧Blk wx p [.slice B0 PT.nodes.length d0,.slice B1 PT.tops.length d1] 33∧Z3 wx (.agg #[.slice B0 PT.nodes.length d0,.slice B1 PT.tops.length d1]) PT∧Q0 nob wb wx∧wb.heap.size≤p)
 case first =>
  have hbx:∀W,Q0 nob wb W→Q0 (Q7 W0.heap.size) W0 W:=fun W hW=>HKB.o.trans (hW.ofNob _)
  have q0:∀W,Q0 nob wb W→W.cell? ⟨w.heap.size,0,none⟩=some (.slice A0 r.comps.length c0):=fun W hW=>(HBX.o _ (hbx W hW)).1.1
  have q1:∀W,Q0 nob wb W→W.cell? ⟨w.heap.size,1,none⟩=some (.slice A1 r.ress.length c1):=fun W hW=>(HBX.o _ (hbx W hW)).1.2.1
  have q2:∀W,Q0 nob wb W→W.cell? ⟨w.heap.size,2,none⟩=some (.slice A2 r.evts.length c2):=fun W hW=>(HBX.o _ (hbx W hW)).1.2.2
  have q3:∀W,Q0 nob wb W→W.cell? ⟨w.heap.size+1,0,none⟩=some (.slice A3 t.nodes.length c3):=fun W hW=>(HBX.o _ (hbx W hW)).2.1
  have q4:∀W,Q0 nob wb W→W.cell? ⟨w.heap.size+1,1,none⟩=some (.slice A4 t.tops.length c4):=fun W hW=>(HBX.o _ (hbx W hW)).2.2
  have hr0:Q0 nob wb wb:=Kr _ _;go_region_held3 (fun W=>Q0 nob wb W) (first|assumption|exact Kd ‹_›|exact Ka (Kd ‹_›) _|exact Ka ‹_› _|(refine Q0.setCell (Q0.setCell ?_ (Or.inr (by first|exact Nat.le_refl _|exact Qo4.size|exact Qo5.size|exact hk6.size)) _) (Or.inr (by first|exact Nat.le_refl _|exact Qo4.size|exact Qo5.size|exact hk6.size)) _;first|assumption|exact Kd ‹_›)) ((first|(go_at_call 9;refine (CR.o _ (HKB.o.trans (((by first|assumption|exact Kd ‹_›|exact Ka (Kd ‹_›) _|exact Ka ‹_› _):Q0 nob wb _).ofNob _))).mono ?_;rintro e wr ⟨ru,rfl,hor,hkr⟩;have hvr:=hor.reg HRL.o;have Qo4:=Kt ((by first|assumption|exact Kd ‹_›|exact Ka (Kd ‹_›) _|exact Ka ‹_› _):Q0 nob wb _) hkr;clear hor;(try (first|have bA:Blk wr _ [.slice none 0 0,.slice none 0 0] 33:=Blk.kept (Blk.new_of _ _ _ rfl) (Ku hkr) id|have bA:Blk wr _ [.slice none 0 0,.slice none 0 0] 33:=Blk.kept (Blk.new_of _ _ _ rfl) hkr id));dsimp only)|(go_at_call 10;refine (CTR.o _ (HKB.o.trans (((by first|assumption|exact Kd ‹_›|exact Ka (Kd ‹_›) _|exact Ka ‹_› _):Q0 nob wb _).ofNob _))).mono ?_;rintro e wt ⟨nv,tv,l,rfl,hot,hmt,hkt⟩;have hvt:=HTT.o _ _ _ _ _ hot hmt;have Qo5:=Kt ((by first|assumption|exact Kd ‹_›|exact Ka (Kd ‹_›) _|exact Ka ‹_› _):Q0 nob wb _) hkt;clear hot hmt;(try (first|have bA:Blk wt _ [.slice none 0 0,.slice none 0 0] 33:=Blk.kept bA hkt id|have bA:Blk wt _ [.slice none 0 0,.slice none 0 0] 33:=Blk.kept (Blk.new_of _ _ _ rfl) hkt id));dsimp only)|(go_at_call 8;refine (CPS.o _ _ _ (by first|assumption|exact hvr.old (Q0.old hkt)|exact hvr.old (Q0.old (hkt.alloc _))|exact hvr.old (Q0.old (Kt ((Kr _ _).alloc _) hkt))) (by first|assumption|exact hvt.old (Q0.old ((Kr _ _).alloc _)))).mono ?_;rintro e wp ⟨B0,d0,B1,d1,rfl,hv5,hk5⟩;have hk6:=Kt ((by first|assumption|exact Kd ‹_›|exact Ka (Kd ‹_›) _|exact Ka ‹_› _):Q0 nob wb _) hk5;(try (first|(have bB:Blk wp _ [.slice none 0 0,.slice none 0 0] 33:=Blk.kept bA hk5 id;have z0:=bB.cell 0 _ rfl;have z1:=bB.cell 1 _ rfl;have z2:=bB.free 0;have z3:=bB.free 1)|(have bB:Blk wp _ [.slice none 0 0,.slice none 0 0] 33:=Blk.kept (Blk.new_of _ _ _ rfl) hk5 id;have z0:=bB.cell 0 _ rfl;have z1:=bB.cell 1 _ rfl;have z2:=bB.free 0;have z3:=bB.free 1)));dsimp only)))
  all_goals go_wp2_with fail
  all_goals go_meet
  all_goals exact⟨_,B0,d0,B1,d1,rfl,rfl,(by first|exact Blk.new_of _ _ _ rfl|exact (bB.set 0 _).set 1 _),(by first|exact hv5.old (Q0.old ((Kr _ _).alloc _))|exact hv5.set2 bB _ _),(by (first|assumption|exact Kd ‹_›|exact Ka (Kd ‹_›) _|exact Ka ‹_› _|(refine Q0.setCell (Q0.setCell ?_ (Or.inr (by first|exact Nat.le_refl _|exact Qo4.size|exact Qo5.size|exact hk6.size)) _) (Or.inr (by first|exact Nat.le_refl _|exact Qo4.size|exact Qo5.size|exact hk6.size)) _;first|assumption|exact Kd ‹_›))),(by first|exact Nat.le_refl _|exact Qo4.size|exact Qo5.size|exact hk6.size)⟩
 case rest =>
  obtain⟨p8,B0,d0,B1,d1,rfl,rfl,hb8,hv8,hk8,hp8⟩:=hcut;obtain⟨wa,rfl⟩:∃wa:World,wa=wc:=⟨_,rfl⟩;have HKA:Hi (Q0 (Q7 W0.heap.size) W0 wa):=Hh (HKB.o.trans (hk8.ofNob _));have hpW:W0.heap.size≤p8:=Nat.le_trans HKB.o.size hp8;have hpa:=hb8.lt
  have CRO:Hi (∀W,Q0 (Q7 W0.heap.size) W0 W→Calls prog 9 #[.agg #[.slice A0 r.comps.length c0,.slice A1 r.ress.length c1,.slice A2 r.evts.length c2]] W fun e w'=>∃X0 e0 X1 e1 X2 e2,e=.returned (.agg #[.slice X0 r.comps.length e0,.slice X1 r.ress.length e1,.slice X2 r.evts.length e2])∧Q71 (Q7 W.heap.size) w' (.agg #[.slice X0 r.comps.length e0,.slice X1 r.ress.length e1,.slice X2 r.evts.length e2]) r∧Q0 nob W w'):=Hh fun W hW=>by
   refine (CR.o W hW).mono ?_;rintro e w' ⟨u,rfl,ho,hk⟩;obtain⟨x0,x1,x2,rfl,⟨h0,h1,h2⟩,hs⟩:=ho;have h0':=h0;have h1':=h1;have h2':=h2;obtain⟨X0,e0,rfl⟩:=h0.len;obtain⟨X1,e1,rfl⟩:=h1.len;obtain⟨X2,e2,rfl⟩:=h2.len;exact⟨X0,e0,X1,e1,X2,e2,rfl,⟨_,_,_,rfl,⟨h0',h1',h2'⟩,hs⟩,hk⟩
  have CTO:Hi (∀W,Q0 (Q7 W0.heap.size) W0 W→Calls prog 10 #[.agg #[.slice A3 t.nodes.length c3,.slice A4 t.tops.length c4]] W fun e w'=>∃Y0 f0 Y1 f1 l,e=.returned (.agg #[.slice Y0 t.nodes.length f0,.slice Y1 t.tops.length f1])∧Q07 (Q7 W.heap.size) w' (.slice Y0 t.nodes.length f0) (.slice Y1 t.tops.length f1) l t.tops∧l.map Prod.fst=t.nodes∧Q0 nob W w'):=Hh fun W hW=>by
   refine (CTR.o W hW).mono ?_;rintro e w' ⟨nv,tv,l,rfl,ho,hm,hk⟩;have ho':=ho;obtain⟨Y0,f0,rfl⟩:=ho.o.row.len;obtain⟨Y1,_,f1,rfl,_⟩:=ho.k.opened;have Qmr:l.length=t.nodes.length:=by rw[← hm,List.length_map]
   rw[Q5,Qmr] at ho';rw[Q5,Qmr];exact⟨Y0,f0,Y1,f1,l,rfl,ho',hm,hk⟩
  have CPO:Hi (∀W u n,Q1d W u r→Z3 W n t→Calls prog 11 #[u,n,.string name] W fun e w'=>∃G0 h0 G1 h1 l,e=.returned (.tuple #[.agg #[.slice G0 PT.nodes.length h0,.slice G1 PT.tops.length h1],.bool PB])∧Q07 (Q7 W.heap.size) w' (.slice G0 PT.nodes.length h0) (.slice G1 PT.tops.length h1) l PT.tops∧l.map Prod.fst=PT.nodes∧(∀p∈l,p.1.kids.length≤1048576)∧l.length≤100000000∧PT.tops.length≤100000000∧Q0 nob W w'):=Hh fun W u n hu hn=>by
   refine (CPI.o W u n hu hn).mono ?_;rintro e w' ⟨nv,tv,l,rfl,ho,hm,hkl,hl,htp,hk⟩;have ho':=ho;obtain⟨G0,h0,rfl⟩:=ho.o.row.len;obtain⟨G1,_,h1,rfl,_⟩:=ho.k.opened;have Qmr:l.length=PT.nodes.length:=by rw[← hm,List.length_map]
   rw[Q5,Qmr] at ho';rw[Q5,Qmr];exact⟨G0,h0,G1,h1,l,rfl,ho',hm,hkl,hl,htp,hk⟩
  obtain⟨⟨g0,g1,g2⟩,g3,g4⟩:=HBX.o wa HKA.o;have HB8:=Hh hb8;have HV8:=Hh hv8;have HPO:=Hh (And.intro hpW hpa);clear hb8 hv8 hk8 hp8 hpW hpa;go_upto_region 12 with (go_at_call 9;refine (CRO.o _ HKA.o).mono ?_;rintro e w3 ⟨X0,e0,X1,e1,X2,e2,rfl,ho,hk⟩;have HO3:=Hh ho;have HK3:=Hh hk;clear ho hk g0 g1 g2 g3 g4)
  have Qyi:Hi (Blk (w3.alloc (.cells #[.slice X0 r.comps.length e0,.slice X1 r.ress.length e1,.slice X2 r.evts.length e2] 38 (0,0))) w3.heap.size [.slice X0 r.comps.length e0,.slice X1 r.ress.length e1,.slice X2 r.evts.length e2] 38):=Hh (Blk.new_of _ _ _ rfl);have Qtp:Hi (Q0 nob w3 (w3.alloc (.cells #[.slice X0 r.comps.length e0,.slice X1 r.ress.length e1,.slice X2 r.evts.length e2] 38 (0,0)))):=Hh ((Kr _ _).alloc _);have HSX:Hi (((w3.alloc (.cells #[.slice X0 r.comps.length e0,.slice X1 r.ress.length e1,.slice X2 r.evts.length e2] 38 (0,0)))).heap.size=w3.heap.size+1):=Hh (by simp);generalize (w3.alloc (.cells #[.slice X0 r.comps.length e0,.slice X1 r.ress.length e1,.slice X2 r.evts.length e2] 38 (0,0)))=WB at *;have HKX:Hi (Q0 (Q7 W0.heap.size) W0 WB):=Hh (HKA.o.trans ((HK3.o.trans Qtp.o).ofNob _));obtain⟨_,g3,g4⟩:=HBX.o WB HKX.o;go_upto_region 13 with (go_at_call 10;refine (CTO.o _ HKX.o).mono ?_;rintro e w4 ⟨Y0,f0,Y1,f1,lx,rfl,ho,hm,hk⟩;have HO4:=Hh ho;have HM4:=Hh hm;have HK4:=Hh hk;clear ho hm hk g3 g4)
  have Qtq:Hi (Blk (w4.alloc (.cells #[.slice Y0 t.nodes.length f0,.slice Y1 t.tops.length f1] 33 (0,0))) w4.heap.size [.slice Y0 t.nodes.length f0,.slice Y1 t.tops.length f1] 33):=Hh (Blk.new_of _ _ _ rfl);have Qw7:Hi (Q0 nob w4 (w4.alloc (.cells #[.slice Y0 t.nodes.length f0,.slice Y1 t.tops.length f1] 33 (0,0)))):=Hh ((Kr _ _).alloc _);have HSY:Hi (((w4.alloc (.cells #[.slice Y0 t.nodes.length f0,.slice Y1 t.tops.length f1] 33 (0,0)))).heap.size=w4.heap.size+1):=Hh (by simp);generalize (w4.alloc (.cells #[.slice Y0 t.nodes.length f0,.slice Y1 t.tops.length f1] 33 (0,0)))=WC at *;have hbY:=Qtq.o;have hkY:=Qw7.o;have Qry:Q0 nob WB WC:=HK4.o.trans hkY;have HKY:Hi (Q0 (Q7 W0.heap.size) W0 WC):=Hh (HKX.o.trans (Qry.ofNob _));have Qrz:=Qyi.o.kept Qry id;have s10:=Qrz.cell 0 _ rfl;have s11:=Qrz.cell 1 _ rfl;have s12:=Qrz.cell 2 _ rfl;have s13:=hbY.cell 0 _ rfl;have s14:=hbY.cell 1 _ rfl;have Qyj:=Hh Qrz;have J00:=Hh Qry.size;have HX0:Hi (Q71 (fun q=>wa.heap.size≤q∧q<w3.heap.size) WC (.agg #[.slice X0 r.comps.length e0,.slice X1 r.ress.length e1,.slice X2 r.evts.length e2]) r):=Hh ((HO3.o.mono (S':=fun q=>wa.heap.size≤q∧q<w3.heap.size) (fun k h1 h2=>⟨h2,h1⟩)).kept (Qtp.o.trans Qry) (fun _ _ h=>h));have HX1:Hi (Q07 (fun q=>WB.heap.size≤q∧q<w4.heap.size) WC (.slice Y0 t.nodes.length f0) (.slice Y1 t.tops.length f1) lx t.tops):=Hh ((HO4.o.mono (S':=fun q=>WB.heap.size≤q∧q<w4.heap.size) (fun k h1 h2=>⟨h2,h1⟩)).kept hkY (fun _ _ h=>h));clear hbY hkY Qry Qrz;go_upto_region 14 with (go_at_call 11;refine (CPO.o _ _ _ (HX0.o.reg HRL.o) (HTT.o _ _ _ _ _ HX1.o HM4.o)).mono ?_;rintro e w5 ⟨G0,h0,G1,h1,lg,rfl,ho,hm,hkl,hlg,htg,hk⟩;have HO5:=Hh ho;have HM5:=Hh hm;have HKL:=Hh hkl;have HLG:=Hh hlg;have HTG:=Hh htg;have HK5:=Hh hk;clear ho hm hkl hlg htg hk s10 s11 s12 s13 s14)
  have Qyk:Hi (Blk (w5.alloc (.cells #[.slice G0 PT.nodes.length h0,.slice G1 PT.tops.length h1] 33 (0,0))) w5.heap.size [.slice G0 PT.nodes.length h0,.slice G1 PT.tops.length h1] 33):=Hh (Blk.new_of _ _ _ rfl);have Qsf:Hi (Q0 nob w5 (w5.alloc (.cells #[.slice G0 PT.nodes.length h0,.slice G1 PT.tops.length h1] 33 (0,0)))):=Hh ((Kr _ _).alloc _);generalize (w5.alloc (.cells #[.slice G0 PT.nodes.length h0,.slice G1 PT.tops.length h1] 33 (0,0)))=WD at *;have n1:=HK3.o.size;have n2:=HSX.o;have n3:=HK4.o.size;have n4:=HSY.o;have n5:=HK5.o.size;have n6:=HPO.o;have Qs0:Q0 nob WC WD:=HK5.o.trans Qsf.o;have Qw8:Q0 nob wa WD:=((HK3.o.trans Qtp.o).trans (HK4.o.trans Qw7.o)).trans Qs0
  have HM:Hi (∀W,Q0 (fun q=>wa.heap.size≤q∧q<w5.heap.size) WD W→((W.cell? ⟨p8,0,none⟩=some (.slice B0 PT.nodes.length d0)∧W.cell? ⟨p8,1,none⟩=some (.slice B1 PT.tops.length d1))∧W.cell? ⟨w5.heap.size,0,none⟩=some (.slice G0 PT.nodes.length h0)∧W.cell? ⟨w5.heap.size,1,none⟩=some (.slice G1 PT.tops.length h1))∧Z3 W (.agg #[.slice B0 PT.nodes.length d0,.slice B1 PT.tops.length d1]) PT∧Q0 (Q7 W0.heap.size) W0 W):=Hh fun W hW=>by
   have hka:Q0 (fun q=>wa.heap.size≤q∧q<w5.heap.size) wa W:=(Qw8.ofNob _).trans hW;have h8:=HB8.o.kept hka (fun h=>by have:=h.1;omega);have h12:=Qyk.o.kept hW (fun h=>Nat.lt_irrefl _ h.2);exact⟨⟨⟨h8.cell 0 _ rfl,h8.cell 1 _ rfl⟩,h12.cell 0 _ rfl,h12.cell 1 _ rfl⟩,HV8.o.old (hka.oldS (fun k hk h=>by have:=h.1;omega)),HKA.o.trans (hka.mono (fun q hq h=>by have:=h.1;show W0.heap.size≤q;omega))⟩
  have HA:Hi (∀W,Q0 nob WD W→((W.cell? ⟨w3.heap.size,0,none⟩=some (.slice X0 r.comps.length e0)∧W.cell? ⟨w3.heap.size,1,none⟩=some (.slice X1 r.ress.length e1)∧W.cell? ⟨w3.heap.size,2,none⟩=some (.slice X2 r.evts.length e2))∧W.cell? ⟨w4.heap.size,0,none⟩=some (.slice Y0 t.nodes.length f0)∧W.cell? ⟨w4.heap.size,1,none⟩=some (.slice Y1 t.tops.length f1))∧Q1d W (.agg #[.slice X0 r.comps.length e0,.slice X1 r.ress.length e1,.slice X2 r.evts.length e2]) r∧Z3 W (.agg #[.slice Y0 t.nodes.length f0,.slice Y1 t.tops.length f1]) t∧Z3 W (.agg #[.slice G0 PT.nodes.length h0,.slice G1 PT.tops.length h1]) PT):=Hh fun W hW=>by
   have hkC:=Qs0.trans hW;have h10:=Qyj.o.kept hkC id;have h11:=Qtq.o.kept hkC id;exact⟨⟨⟨h10.cell 0 _ rfl,h10.cell 1 _ rfl,h10.cell 2 _ rfl⟩,h11.cell 0 _ rfl,h11.cell 1 _ rfl⟩,(HX0.o.kept hkC (fun _ _ h=>h)).reg HRL.o,HTT.o _ _ _ _ _ (HX1.o.kept hkC (fun _ _ h=>h)) HM4.o,(HO5.o.kept (Qsf.o.trans hW) (fun _ _ h=>h)).tree HM5.o HLG.o HKL.o HTG.o⟩
  have HB1:Hi (∀W,Q0 (fun q=>wa.heap.size≤q∧q<w3.heap.size) WD W→(W.cell? ⟨w4.heap.size,0,none⟩=some (.slice Y0 t.nodes.length f0)∧W.cell? ⟨w4.heap.size,1,none⟩=some (.slice Y1 t.tops.length f1))∧Q07 (fun q=>WB.heap.size≤q∧q<w4.heap.size) W (.slice Y0 t.nodes.length f0) (.slice Y1 t.tops.length f1) lx t.tops):=Hh fun W hW=>by
   have h11:=(Qtq.o.kept Qs0 id).kept hW (fun h=>by have:=h.2;omega);exact⟨⟨h11.cell 0 _ rfl,h11.cell 1 _ rfl⟩,(HX1.o.kept Qs0 (fun _ _ h=>h)).kept hW (fun q h h2=>by have:=h.1;have:=h2.2;omega)⟩
  have HC1:Hi (∀W,Q0 (fun q=>wa.heap.size≤q∧q<w4.heap.size) WD W→Z3 W (.agg #[.slice G0 PT.nodes.length h0,.slice G1 PT.tops.length h1]) PT∧Q07 (fun q=>WC.heap.size≤q∧q<w5.heap.size) W (.slice G0 PT.nodes.length h0) (.slice G1 PT.tops.length h1) lg PT.tops):=Hh fun W hW=>by
   have ho:=((HO5.o.mono (S':=(fun q=>WC.heap.size≤q∧q<w5.heap.size)) (fun k h1 h2=>⟨h2,h1⟩)).kept Qsf.o (fun _ _ h=>h)).kept hW (fun q h h2=>by have:=h.1;have:=h2.2;omega);exact⟨ho.tree HM5.o HLG.o HKL.o HTG.o,ho⟩
  have HI0:Hi (∀q,(fun q=>wa.heap.size≤q∧q<w3.heap.size) q→(fun q=>wa.heap.size≤q∧q<w4.heap.size) q):=Hh fun q h=>⟨h.1,by have:=h.2;omega⟩
  have HI1:Hi (∀q,(fun q=>WB.heap.size≤q∧q<w4.heap.size) q→(fun q=>wa.heap.size≤q∧q<w4.heap.size) q):=Hh fun q h=>⟨by have:=h.1;omega,h.2⟩
  have HI2:Hi (∀q,(fun q=>wa.heap.size≤q∧q<w4.heap.size) q→(fun q=>wa.heap.size≤q∧q<w5.heap.size) q):=Hh fun q h=>⟨h.1,by have:=h.2;omega⟩
  have HI3:Hi (∀q,(fun q=>WC.heap.size≤q∧q<w5.heap.size) q→(fun q=>wa.heap.size≤q∧q<w5.heap.size) q):=Hh fun q h=>⟨by have:=h.1;omega,h.2⟩
  clear n1 n2 n3 n4 n5 n6 Qs0 Qw8;obtain⟨K1,hK1⟩:∃K1:Nat,K1=1+2*r.comps.length+2*r.ress.length+2*r.evts.length:=⟨_,rfl⟩;obtain⟨K2,hK2⟩:∃K2:Nat,K2=K1+cnt lx+t.tops.length:=⟨_,rfl⟩;obtain⟨M,hM⟩:∃M:Nat,M=1+cnt lg+PT.tops.length:=⟨_,rfl⟩
  have CMR:Hi (∀W,Q0 nob WD W→Calls prog 14 #[(.agg #[.slice X0 r.comps.length e0,.slice X1 r.ress.length e1,.slice X2 r.evts.length e2]),.int .i64 1] W fun e w'=>e=.returned (.int .i64 (K1:Int))∧Q0 (fun q=>wa.heap.size≤q∧q<w3.heap.size) W w'):=Hh fun W hW=>by
   have ho:=(HX0.o.kept (HK5.o.trans Qsf.o) (fun _ _ h=>h)).kept hW (fun _ _ h=>h);rw[hK1];exact (Qep _ r 1 W ho HRL.o (by decide)).mono fun e w' h=>⟨h.1,h.2.mono (fun q _ h=>h.1)⟩
  have CMT:Hi (∀W,Q0 (fun q=>wa.heap.size≤q∧q<w3.heap.size) WD W→Calls prog 15 #[(.agg #[.slice Y0 t.nodes.length f0,.slice Y1 t.tops.length f1]),.int .i64 (K1:Int)] W fun e w'=>e=.returned (.int .i64 (K2:Int))∧Q0 (fun q=>WB.heap.size≤q∧q<w4.heap.size) W w'):=Hh fun W hW=>by
   have hlx:lx.length≤100000000:=by have h1:lx.length=t.nodes.length:=by {rw[← HM4.o,List.length_map]};have:=HTL.o.1;omega
   have hkx:∀p∈lx,p.1.kids.length≤1048576:=fun p hp=>HTN.o p.1 (by rw[← HM4.o];exact List.mem_map.2 ⟨p,hp,rfl⟩)
   rw[hK2];exact (Q7i _ _ lx t.tops K1 W (HB1.o W hW).2 hlx hkx (by have:=HTL.o.2;omega) (by have:=HRL.o;omega)).mono fun e w' h=>⟨h.1,h.2.2.mono (fun q _ h=>h.1)⟩
  have CMG:Hi (∀W,Q0 (fun q=>wa.heap.size≤q∧q<w4.heap.size) WD W→Calls prog 15 #[(.agg #[.slice G0 PT.nodes.length h0,.slice G1 PT.tops.length h1]),.int .i64 1] W fun e w'=>e=.returned (.int .i64 (M:Int))∧Q07 (fun q=>WC.heap.size≤q∧q<w5.heap.size) w' (.slice G0 PT.nodes.length h0) (.slice G1 PT.tops.length h1) (Zm lg 1) (Q06 PT.tops.length ((1+cnt lg:Nat):Int))∧Q0 (fun q=>WC.heap.size≤q∧q<w5.heap.size) W w'):=Hh fun W hW=>by
   rw[hM];exact (Q7i _ _ lg PT.tops 1 W (HC1.o W hW).2 HLG.o HKL.o HTG.o (by decide)).mono fun e w' h=>⟨h.1,h.2.1,h.2.2.mono (fun q _ h=>h.1)⟩
  have CH:Hi (∀W',Q07 (fun q=>WC.heap.size≤q∧q<w5.heap.size) W' (.slice G0 PT.nodes.length h0) (.slice G1 PT.tops.length h1) (Zm lg 1) (Q06 PT.tops.length ((1+cnt lg:Nat):Int))→∀W,Q0 nob W' W→Calls prog 16 #[(.agg #[.slice G0 PT.nodes.length h0,.slice G1 PT.tops.length h1]),.int .i64 1] W fun e w'=>e=.returned (.int .i64 (M:Int))∧Q0 nob W w'):=Hh fun W' ho W hW=>by
   have ho2:=ho.kept hW (fun _ _ h=>h);rw[hM];exact Qcg _ _ lg PT.tops.length 1 W (ho2.o.nodes (by rw[Q1f];have:=HLG.o;omega) (fun p hp=>by have:=Qdu HKL.o _ p hp;omega)) (ho2.k.ints (by rw[Xg];have:=HTG.o;omega)) HLG.o HKL.o HTG.o (by decide)
  have tK2:decide ((K2:Int)<0)=false:=Df (by omega);have tM:decide ((M:Int)<0)=false:=Df (by omega);have tPB:(PB != PB)=false:=by cases PB<;>rfl
  clear hK1 hK2 hM;have Qw9:Hi (Q0 (fun q=>wa.heap.size≤q∧q<w5.heap.size) WD WD):=Hh (Kr _ _);obtain⟨⟨⟨s0,s1⟩,s2,s3⟩,_⟩:=HM.o WD Qw9.o;go_upto_region 16 with (go_at_call 12;refine (Q51 _ _ PT _ (HA.o _ (Kr _ _)).2.2.2 (HM.o _ Qw9.o).2.1).mono ?_;rintro e w6 ⟨rfl,hk⟩;have HK6:=Hh hk;clear hk s0 s1 s2 s3)
  obtain⟨wb,rfl⟩:∃wb:World,wb=w6:=⟨_,rfl⟩;have HKB:Hi (Q0 (Q7 W0.heap.size) W0 wb):=Hh (HM.o _ (HK6.o.ofNob _)).2.2;have hbx:∀W,Q0 nob wb W→Q0 (Q7 W0.heap.size) W0 W:=fun W hW=>HKB.o.trans (hW.ofNob _)
  have q0:∀W,Q0 nob wb W→W.cell? ⟨w.heap.size,0,none⟩=some (.slice A0 r.comps.length c0):=fun W hW=>(HBX.o _ (hbx W hW)).1.1
  have q1:∀W,Q0 nob wb W→W.cell? ⟨w.heap.size,1,none⟩=some (.slice A1 r.ress.length c1):=fun W hW=>(HBX.o _ (hbx W hW)).1.2.1
  have q2:∀W,Q0 nob wb W→W.cell? ⟨w.heap.size,2,none⟩=some (.slice A2 r.evts.length c2):=fun W hW=>(HBX.o _ (hbx W hW)).1.2.2
  have hr0:Q0 nob wb wb:=Kr _ _;have q5:∀W,Q0 nob wb W→W.cell? ⟨w3.heap.size,0,none⟩=some (.slice X0 r.comps.length e0):=fun W hW=>(HA.o _ (HK6.o.trans hW)).1.1.1
  have q6:∀W,Q0 nob wb W→W.cell? ⟨w3.heap.size,1,none⟩=some (.slice X1 r.ress.length e1):=fun W hW=>(HA.o _ (HK6.o.trans hW)).1.1.2.1
  have q7:∀W,Q0 nob wb W→W.cell? ⟨w3.heap.size,2,none⟩=some (.slice X2 r.evts.length e2):=fun W hW=>(HA.o _ (HK6.o.trans hW)).1.1.2.2
  go_region_held3 (fun W=>Q0 nob wb W) (first|assumption|exact Kd ‹_›|exact Ka (Kd ‹_›) _|exact Ka ‹_› _) ((first|(go_at_call 9;refine (CR.o _ (HKB.o.trans (((by first|assumption|exact Kd ‹_›|exact Ka (Kd ‹_›) _|exact Ka ‹_› _):Q0 nob wb _).ofNob _))).mono ?_;rintro e wr ⟨ru,rfl,hor,hkr⟩;have hvr:=hor.reg HRL.o;have Qo4:=Kt ((by first|assumption|exact Kd ‹_›|exact Ka (Kd ‹_›) _|exact Ka ‹_› _):Q0 nob wb _) hkr;clear hor;(try (first|have bA:Blk wr _ [.slice none 0 0,.slice none 0 0] 33:=Blk.kept (Blk.new_of _ _ _ rfl) (Ku hkr) id|have bA:Blk wr _ [.slice none 0 0,.slice none 0 0] 33:=Blk.kept (Blk.new_of _ _ _ rfl) hkr id));dsimp only)|(go_at_call 13;refine (Qir _ _ r _ (HA.o _ (HK6.o.trans ((by first|assumption|exact Kd ‹_›|exact Ka (Kd ‹_›) _|exact Ka ‹_› _):Q0 nob wb _))).2.1 (by first|assumption|exact hvr.old (Q0.old hkr))).mono ?_;rintro e w7 ⟨rfl,hk7⟩;have HK7:=Hh (HK6.o.trans (Kt ((by first|assumption|exact Kd ‹_›|exact Ka (Kd ‹_›) _|exact Ka ‹_› _):Q0 nob wb _) hk7));have Qyl:=Kt ((by first|assumption|exact Kd ‹_›|exact Ka (Kd ‹_›) _|exact Ka ‹_› _):Q0 nob wb _) hk7;dsimp only)));go_upto_region 18 with fail
  clear q0 q1 q2 q5 q6 q7 hr0 hbx;clear hkr Qo4 hvr hk7 Qyl;obtain⟨wb,rfl⟩:∃wb:World,wb=w7:=⟨_,rfl⟩;have HKB:Hi (Q0 (Q7 W0.heap.size) W0 wb):=Hh (HM.o _ (HK7.o.ofNob _)).2.2;have hbx:∀W,Q0 nob wb W→Q0 (Q7 W0.heap.size) W0 W:=fun W hW=>HKB.o.trans (hW.ofNob _)
  have q3:∀W,Q0 nob wb W→W.cell? ⟨w.heap.size+1,0,none⟩=some (.slice A3 t.nodes.length c3):=fun W hW=>(HBX.o _ (hbx W hW)).2.1
  have q4:∀W,Q0 nob wb W→W.cell? ⟨w.heap.size+1,1,none⟩=some (.slice A4 t.tops.length c4):=fun W hW=>(HBX.o _ (hbx W hW)).2.2
  have hr0:Q0 nob wb wb:=Kr _ _;have q5:∀W,Q0 nob wb W→W.cell? ⟨w4.heap.size,0,none⟩=some (.slice Y0 t.nodes.length f0):=fun W hW=>(HA.o _ (HK7.o.trans hW)).1.2.1
  have q6:∀W,Q0 nob wb W→W.cell? ⟨w4.heap.size,1,none⟩=some (.slice Y1 t.tops.length f1):=fun W hW=>(HA.o _ (HK7.o.trans hW)).1.2.2
  go_region_held3 (fun W=>Q0 nob wb W) (first|assumption|exact Kd ‹_›|exact Ka (Kd ‹_›) _|exact Ka ‹_› _) ((first|(go_at_call 10;refine (CTR.o _ (HKB.o.trans (((by first|assumption|exact Kd ‹_›|exact Ka (Kd ‹_›) _|exact Ka ‹_› _):Q0 nob wb _).ofNob _))).mono ?_;rintro e wt ⟨nv,tv,l,rfl,hot,hmt,hkt⟩;have hvt:=HTT.o _ _ _ _ _ hot hmt;have Qo5:=Kt ((by first|assumption|exact Kd ‹_›|exact Ka (Kd ‹_›) _|exact Ka ‹_› _):Q0 nob wb _) hkt;clear hot hmt;dsimp only)|(go_at_call 12;refine (Q51 _ _ t _ (HA.o _ (HK7.o.trans ((by first|assumption|exact Kd ‹_›|exact Ka (Kd ‹_›) _|exact Ka ‹_› _):Q0 nob wb _))).2.2.1 ‹_›).mono ?_;rintro e w8 ⟨rfl,hk8⟩;have HK8:=Hh (HK7.o.trans (Kt ((by first|assumption|exact Kd ‹_›|exact Ka (Kd ‹_›) _|exact Ka ‹_› _):Q0 nob wb _) hk8));have Qym:=Kt ((by first|assumption|exact Kd ‹_›|exact Ka (Kd ‹_›) _|exact Ka ‹_› _):Q0 nob wb _) hk8;dsimp only)));go_upto_region 21 with fail
  clear q3 q4 q5 q6 hr0 hbx hkt Qo5 hvt hk8 Qym;obtain⟨⟨⟨s0,s1,s2⟩,_⟩,_⟩:=HA.o _ HK8.o;go_upto_region 22 with (go_at_call 14;refine (CMR.o _ HK8.o).mono ?_;rintro e w9 ⟨rfl,hk⟩;have HK9:=Hh ((HK8.o.ofNob _).trans hk);clear hk s0 s1 s2)
  obtain⟨⟨s0,s1⟩,_⟩:=HB1.o _ HK9.o;have HX9:=Hh (HK9.o.mono (S':=(fun q=>wa.heap.size≤q∧q<w4.heap.size)) (fun q _ h=>HI0.o q h));go_upto_region 23 with (go_at_call 15;refine (CMT.o _ HK9.o).mono ?_;rintro e w10 ⟨rfl,hk⟩;have Qtr:=Hh (HX9.o.trans (hk.mono (S':=(fun q=>wa.heap.size≤q∧q<w4.heap.size)) (fun q _ h=>HI1.o q h)));clear hk s0 s1)
  have Qts:=Hh (Qtr.o.mono (S':=(fun q=>wa.heap.size≤q∧q<w5.heap.size)) (fun q _ h=>HI2.o q h));obtain⟨⟨⟨s0,s1⟩,s2,s3⟩,_⟩:=HM.o _ Qts.o;go_upto_region 25 with (go_at_call 12;refine (Q51 _ _ PT _ (HC1.o _ Qtr.o).1 (HM.o _ Qts.o).2.1).mono ?_;rintro e w11 ⟨rfl,hk⟩;have Qyn:=Hh (Qtr.o.trans (hk.ofNob _));have Qwa:=Hh (Qts.o.trans (hk.ofNob _));clear hk s0 s1 s2 s3)
  obtain⟨⟨_,s2,s3⟩,_⟩:=HM.o _ Qwa.o;go_upto_region 27 with (go_at_call 15;refine (CMG.o _ Qyn.o).mono ?_;rintro e w12 ⟨rfl,ho,hk⟩;have Qwb:=Hh ho;have Qpg:=Hh (Qwa.o.trans (hk.mono (S':=(fun q=>wa.heap.size≤q∧q<w5.heap.size)) (fun q _ h=>HI3.o q h)));clear hk ho s2 s3)
  obtain⟨⟨_,s2,s3⟩,_⟩:=HM.o _ Qpg.o;go_upto_region 29 with (go_at_call 16;refine (CH.o _ Qwb.o _ (Kr _ _)).mono ?_;rintro e w13 ⟨rfl,hk⟩;have Qyo:=Hh hk;have Qsd:=Hh (Qpg.o.trans (hk.ofNob _));clear hk s2 s3)
  go_upto_region 33 with fail
  go_cut [17,18] (fun u17 u18 wx=>∃(p:Nat) (B0:Option Addr) (d0:Nat) (B1:Option Addr) (d1:Nat),u17=.pointer (some ⟨p,0,none⟩)∧u18=.bool PB∧Blk wx p [.slice B0 PT.nodes.length d0,.slice B1 PT.tops.length d1] 33∧Z3 wx (.agg #[.slice B0 PT.nodes.length d0,.slice B1 PT.tops.length d1]) PT∧Q0 nob w13 wx)
  case first =>
   obtain⟨wb,rfl⟩:∃wb:World,wb=w13:=⟨_,rfl⟩;have HKB:Hi (Q0 (Q7 W0.heap.size) W0 wb):=Hh (HM.o _ Qsd.o).2.2;have hbx:∀W,Q0 nob wb W→Q0 (Q7 W0.heap.size) W0 W:=fun W hW=>HKB.o.trans (hW.ofNob _)
   have q0:∀W,Q0 nob wb W→W.cell? ⟨w.heap.size,0,none⟩=some (.slice A0 r.comps.length c0):=fun W hW=>(HBX.o _ (hbx W hW)).1.1
   have q1:∀W,Q0 nob wb W→W.cell? ⟨w.heap.size,1,none⟩=some (.slice A1 r.ress.length c1):=fun W hW=>(HBX.o _ (hbx W hW)).1.2.1
   have q2:∀W,Q0 nob wb W→W.cell? ⟨w.heap.size,2,none⟩=some (.slice A2 r.evts.length c2):=fun W hW=>(HBX.o _ (hbx W hW)).1.2.2
   have q3:∀W,Q0 nob wb W→W.cell? ⟨w.heap.size+1,0,none⟩=some (.slice A3 t.nodes.length c3):=fun W hW=>(HBX.o _ (hbx W hW)).2.1
   have q4:∀W,Q0 nob wb W→W.cell? ⟨w.heap.size+1,1,none⟩=some (.slice A4 t.tops.length c4):=fun W hW=>(HBX.o _ (hbx W hW)).2.2
   have hr0:Q0 nob wb wb:=Kr _ _;go_region_held3 (fun W=>Q0 nob wb W) (first|assumption|exact Kd ‹_›|exact Ka (Kd ‹_›) _|exact Ka ‹_› _|(refine Q0.setCell (Q0.setCell ?_ (Or.inr (by first|exact Nat.le_refl _|exact Qo4.size|exact Qo5.size|exact hk6.size)) _) (Or.inr (by first|exact Nat.le_refl _|exact Qo4.size|exact Qo5.size|exact hk6.size)) _;first|assumption|exact Kd ‹_›)) ((first|(go_at_call 9;refine (CR.o _ (HKB.o.trans (((by first|assumption|exact Kd ‹_›|exact Ka (Kd ‹_›) _|exact Ka ‹_› _):Q0 nob wb _).ofNob _))).mono ?_;rintro e wr ⟨ru,rfl,hor,hkr⟩;have hvr:=hor.reg HRL.o;have Qo4:=Kt ((by first|assumption|exact Kd ‹_›|exact Ka (Kd ‹_›) _|exact Ka ‹_› _):Q0 nob wb _) hkr;clear hor;(try (first|have bA:Blk wr _ [.slice none 0 0,.slice none 0 0] 33:=Blk.kept (Blk.new_of _ _ _ rfl) (Ku hkr) id|have bA:Blk wr _ [.slice none 0 0,.slice none 0 0] 33:=Blk.kept (Blk.new_of _ _ _ rfl) hkr id));dsimp only)|(go_at_call 10;refine (CTR.o _ (HKB.o.trans (((by first|assumption|exact Kd ‹_›|exact Ka (Kd ‹_›) _|exact Ka ‹_› _):Q0 nob wb _).ofNob _))).mono ?_;rintro e wt ⟨nv,tv,l,rfl,hot,hmt,hkt⟩;have hvt:=HTT.o _ _ _ _ _ hot hmt;have Qo5:=Kt ((by first|assumption|exact Kd ‹_›|exact Ka (Kd ‹_›) _|exact Ka ‹_› _):Q0 nob wb _) hkt;clear hot hmt;(try (first|have bA:Blk wt _ [.slice none 0 0,.slice none 0 0] 33:=Blk.kept bA hkt id|have bA:Blk wt _ [.slice none 0 0,.slice none 0 0] 33:=Blk.kept (Blk.new_of _ _ _ rfl) hkt id));dsimp only)|(go_at_call 11;refine (CPO.o _ _ _ (by first|assumption|exact hvr.old (Q0.old hkt)|exact hvr.old (Q0.old (hkt.alloc _))|exact hvr.old (Q0.old (Kt ((Kr _ _).alloc _) hkt))) (by first|assumption|exact hvt.old (Q0.old ((Kr _ _).alloc _)))).mono ?_;rintro e wp ⟨B0,d0,B1,d1,lh,rfl,ho5,hm5,Qwc,hl5,ht5,hk5⟩;have hv5:=ho5.tree hm5 hl5 Qwc ht5;clear ho5 hm5 Qwc hl5 ht5;have hk6:=Kt ((by first|assumption|exact Kd ‹_›|exact Ka (Kd ‹_›) _|exact Ka ‹_› _):Q0 nob wb _) hk5;(try (first|(have bB:Blk wp _ [.slice none 0 0,.slice none 0 0] 33:=Blk.kept bA hk5 id;have z0:=bB.cell 0 _ rfl;have z1:=bB.cell 1 _ rfl;have z2:=bB.free 0;have z3:=bB.free 1)|(have bB:Blk wp _ [.slice none 0 0,.slice none 0 0] 33:=Blk.kept (Blk.new_of _ _ _ rfl) hk5 id;have z0:=bB.cell 0 _ rfl;have z1:=bB.cell 1 _ rfl;have z2:=bB.free 0;have z3:=bB.free 1)));dsimp only)))
   all_goals go_wp2_with fail
   all_goals go_meet
   all_goals exact⟨_,B0,d0,B1,d1,rfl,rfl,(by first|exact Blk.new_of _ _ _ rfl|exact (bB.set 0 _).set 1 _),(by first|exact hv5.old (Q0.old ((Kr _ _).alloc _))|exact hv5.set2 bB _ _),(by (first|assumption|exact Kd ‹_›|exact Ka (Kd ‹_›) _|exact Ka ‹_› _|(refine Q0.setCell (Q0.setCell ?_ (Or.inr (by first|exact Nat.le_refl _|exact Qo4.size|exact Qo5.size|exact hk6.size)) _) (Or.inr (by first|exact Nat.le_refl _|exact Qo4.size|exact Qo5.size|exact hk6.size)) _;first|assumption|exact Kd ‹_›)))⟩
  case rest =>
   obtain⟨p17,C0,c0',C1,c1',rfl,rfl,Qtt,Qwd,Qtu⟩:=hcut;obtain⟨w14,rfl⟩:∃w14:World,w14=wc:=⟨_,rfl⟩;have Qyp:=Hh Qwd;have Qyq:=Hh (Qyo.o.trans Qtu);have Qtv:=Hh (Qsd.o.trans (Qtu.ofNob _));have s4:=Qtt.cell 0 _ rfl;have s5:=Qtt.cell 1 _ rfl;obtain⟨⟨⟨s0,s1⟩,s2,s3⟩,_⟩:=HM.o _ Qtv.o;clear Qtt Qwd Qtu;go_upto_region 36 with (go_at_call 12;refine (Q51 _ _ PT _ Qyp.o (HM.o _ Qtv.o).2.1).mono ?_;rintro e w15 ⟨rfl,hk⟩;have Qyr:=Hh (Qyq.o.trans hk);have Qwe:=Hh (Qtv.o.trans (hk.ofNob _));clear hk s0 s1 s2 s3 s4 s5)
   obtain⟨⟨_,s2,s3⟩,_⟩:=HM.o _ Qwe.o;go_wp2_with (go_at_call 16;refine (CH.o _ Qwb.o _ Qyr.o).mono ?_;rintro e w16 ⟨rfl,hk⟩;have Qys:=Hh (Qwe.o.trans (hk.ofNob _));clear hk s2 s3);go_ret;exact⟨rfl,(HK0.o.then_ ((HM.o _ Qys.o).2.2) (fun q hq=>.inr (by have h1:W0.heap.size≤q:=hq;have:=HST.o;omega)))⟩
end Go.Proofs.YtkgkafjachjafaaGreat
