/- Part 46 of y_holds; no condition. -/
import Derived.Deep.CutBlock
import Derived.Test.YtkgkafjachjafaaGreatY01
import Derived.Test.YtkgkafjachjafaaGreatY44
import Derived.Test.YtkgkafjachjafaaGreatY45
set_option linter.unusedVariables false
set_option maxHeartbeats 80000000
set_option maxRecDepth 100000
open Go Go.RowKit
namespace Go.Proofs.YtkgkafjachjafaaGreat
open Tryz
theorem K11 {p:Prop} (h:p:=by (try dsimp only);((first|exact hr5|exact hr5.setCell (.inl rfl) _|exact hr0.drew))):p:=h
theorem K12 {p:Prop} (h:p:=by rw[HDE.o,Ng Dc,List.append_nil];rw[← Q1g r t 2 ks (j:=q) (by have:=HJQ.o;omega)];exact HR.o.1):p:=h
def Qjs (r:Reg) (t:Q1) (f:Nat):Prop :=
 ∀(S:Nat→Prop) (w:World) (rv nv tv:Value) (P:Nat→Option Addr) (N C:Nat→Nat) (A:List (Nat×Int)) (lv:Value) (L:List ByteArray) (i:Int),(Qj S w fun w=>Q20 w rv r)→TB S w t nv tv →
  (∀k,k<8→Qc S 3 w (slv P N C k) (Q5 (Zf (Zb k A))))→Qc S 9 w lv (strs L)→(∀k,k<8→sep lv.ownBlock (slv P N C k).ownBlock)→Jh S w→InT t i→i<f →
  A.length+(Y4 r t f i).length≤16000000000000→L.length+(Z0 t f i).length≤1000000000 →
  Calls prog 65 #[rv,.agg #[nv,tv],.int .i64 i,.agg #[.slice (P 0) (N 0) (C 0),.slice (P 1) (N 1) (C 1),.slice (P 2) (N 2) (C 2),.slice (P 3) (N 3) (C 3),.slice (P 4) (N 4) (C 4),.slice (P 5) (N 5) (C 5),.slice (P 6) (N 6) (C 6),.slice (P 7) (N 7) (C 7),.bool (Ju 8 A),.bool (Ju 9 A)],lv] w fun e w'=>∃P1 N1 C1 lA ln lc,e=.returned (.tuple #[.agg #[.slice (P1 0) (N1 0) (C1 0),.slice (P1 1) (N1 1) (C1 1),.slice (P1 2) (N1 2) (C1 2),.slice (P1 3) (N1 3) (C1 3),.slice (P1 4) (N1 4) (C1 4),.slice (P1 5) (N1 5) (C1 5),.slice (P1 6) (N1 6) (C1 6),.slice (P1 7) (N1 7) (C1 7),.bool (Ju 8 (A++Y4 r t f i)),.bool (Ju 9 (A++Y4 r t f i))],.slice lA ln lc]) ∧
   (∀k,k<8→Qc S 3 w' (slv P1 N1 C1 k) (Q5 (Zf (Zb k (A++Y4 r t f i)))))∧Qc S 9 w' (.slice lA ln lc) (strs (L++Z0 t f i))∧(∀k,k<8→sep (Value.slice lA ln lc).ownBlock (slv P1 N1 C1 k).ownBlock)∧Q0 (own lv) w w'∧Q07 w lv (.slice lA ln lc)
theorem Qed {r:Reg} {t:Q1} {f:Nat} (hK:Qk t) (hsz:t.nodes.length≤4000) (hsm:Z1 t) (hF:Qjs r t f):Qjs r t (f+1):=by
 intro S w rv nv tv P N C A lv L i hR hT hE hL hD hS hi hif hbA hbL;obtain⟨X,hX⟩:∃X,X=A++Y4 r t (f+1) i:=⟨_,rfl⟩;obtain⟨Y,hY⟩:∃Y,Y=L++Z0 t (f+1) i:=⟨_,rfl⟩;have hXl:X.length≤16000000000000:=by rw[hX,List.length_append];exact hbA
 have hYl:Y.length≤1000000000:=by rw[hY,List.length_append];exact hbL
 rw[← hX,← hY];have HXX:Hi (X=(A++J7 r t (t.at i))++(t.at i).kids.flatMap (Y4 r t f)):=Hh (by rw[hX,List.append_assoc];rfl);have HYY:Hi (Y=(L++(if (t.at i).kind=7 then [(t.at i).text] else []))++(t.at i).kids.flatMap (Z0 t f)):=Hh (by rw[hY,List.append_assoc];rfl);clear hX hY hbA hbL;obtain⟨mi,rfl,hnd⟩:=Q1.at_lt hi;obtain⟨tA,tc,B,bc,htl,rfl⟩:=hT.len;clear htl tA tc;obtain⟨nb,no,nc,KA,kb,ko,kc,rfl,hml,Qni,kl,klc,hKA,hkc⟩:=hT.node hnd;have hkm:=hsm (mi:Int);have HKI:Hi (∀k∈(t.at (mi:Int)).kids,InT t k∧k<mi):=Hh fun k hk=>⟨hi.kid hK hk,(hK.mem hi hk).2⟩
 have Qyp:=hR.now;obtain⟨v0,v1,v2,rfl,d0,d1,d2⟩:=Qyp;have Qny:∀(u:Value) (ds:List Zt),Ji w u ds→∃A c,u=.slice A ds.length c:=fun u ds ⟨A,b,o,c,h,_⟩=>⟨A,c,h⟩
 obtain⟨R0,e0,rfl⟩:=Qny _ _ d0;obtain⟨R1,e1,rfl⟩:=Qny _ _ d1;obtain⟨R2,e2,rfl⟩:=Qny _ _ d2;obtain⟨lA,lc,hlv⟩:=hL.len;rw[Qr] at hlv;subst hlv
 have HTN:Hi (∀(m:Nat) nd,t.nodes[m]?=some nd→∀W,Q0 S w W→W.cell? ⟨nb,no+m*4+1,none⟩=some (.string nd.text)):=Hh fun m nd hm W hW=>by
  obtain⟨nb',no',nc',_,_,_,_,e,_,hc,_⟩:=hT.node hm;cases e;exact (hc W hW).2.1
 generalize hnn:t.at (mi:Int)=n at *;have hk0:Q0 nob w ((((w.alloc (.cells #[.slice R0 r.comps.length e0,.slice R1 r.ress.length e1,.slice R2 r.evts.length e2] 38 (0,0))).alloc (.cells #[.slice (some ⟨nb,no,none⟩) t.nodes.length nc,.slice B t.tops.length bc] 33 (0,0))).alloc (.cells #[.slice (P 0) (N 0) (C 0),.slice (P 1) (N 1) (C 1),.slice (P 2) (N 2) (C 2),.slice (P 3) (N 3) (C 3),.slice (P 4) (N 4) (C 4),.slice (P 5) (N 5) (C 5),.slice (P 6) (N 6) (C 6),.slice (P 7) (N 7) (C 7),.bool (Ju 8 A),.bool (Ju 9 A)] 55 (0,0))).alloc (.cells #[.slice none 0 0,.slice none 0 0,.slice none 0 0,.slice none 0 0,.slice none 0 0,.slice none 0 0,.slice none 0 0,.slice none 0 0,.bool false,.bool false] 55 (0,0))):=((((Kr _ _).alloc _).alloc _).alloc _).alloc _;have hb5:Blk ((((w.alloc (.cells #[.slice R0 r.comps.length e0,.slice R1 r.ress.length e1,.slice R2 r.evts.length e2] 38 (0,0))).alloc (.cells #[.slice (some ⟨nb,no,none⟩) t.nodes.length nc,.slice B t.tops.length bc] 33 (0,0))).alloc (.cells #[.slice (P 0) (N 0) (C 0),.slice (P 1) (N 1) (C 1),.slice (P 2) (N 2) (C 2),.slice (P 3) (N 3) (C 3),.slice (P 4) (N 4) (C 4),.slice (P 5) (N 5) (C 5),.slice (P 6) (N 6) (C 6),.slice (P 7) (N 7) (C 7),.bool (Ju 8 A),.bool (Ju 9 A)] 55 (0,0))).alloc (.cells #[.slice none 0 0,.slice none 0 0,.slice none 0 0,.slice none 0 0,.slice none 0 0,.slice none 0 0,.slice none 0 0,.slice none 0 0,.bool false,.bool false] 55 (0,0))) w.heap.size [.slice R0 r.comps.length e0,.slice R1 r.ress.length e1,.slice R2 r.evts.length e2] 38:=(((Blk.new_of _ _ _ rfl).alloc _).alloc _).alloc _;have hb6:Blk ((((w.alloc (.cells #[.slice R0 r.comps.length e0,.slice R1 r.ress.length e1,.slice R2 r.evts.length e2] 38 (0,0))).alloc (.cells #[.slice (some ⟨nb,no,none⟩) t.nodes.length nc,.slice B t.tops.length bc] 33 (0,0))).alloc (.cells #[.slice (P 0) (N 0) (C 0),.slice (P 1) (N 1) (C 1),.slice (P 2) (N 2) (C 2),.slice (P 3) (N 3) (C 3),.slice (P 4) (N 4) (C 4),.slice (P 5) (N 5) (C 5),.slice (P 6) (N 6) (C 6),.slice (P 7) (N 7) (C 7),.bool (Ju 8 A),.bool (Ju 9 A)] 55 (0,0))).alloc (.cells #[.slice none 0 0,.slice none 0 0,.slice none 0 0,.slice none 0 0,.slice none 0 0,.slice none 0 0,.slice none 0 0,.slice none 0 0,.bool false,.bool false] 55 (0,0))) (w.heap.size+1) [.slice (some ⟨nb,no,none⟩) t.nodes.length nc,.slice B t.tops.length bc] 33:=((Blk.new_of _ _ _ Sm).alloc _).alloc _;have hb8:Blk ((((w.alloc (.cells #[.slice R0 r.comps.length e0,.slice R1 r.ress.length e1,.slice R2 r.evts.length e2] 38 (0,0))).alloc (.cells #[.slice (some ⟨nb,no,none⟩) t.nodes.length nc,.slice B t.tops.length bc] 33 (0,0))).alloc (.cells #[.slice (P 0) (N 0) (C 0),.slice (P 1) (N 1) (C 1),.slice (P 2) (N 2) (C 2),.slice (P 3) (N 3) (C 3),.slice (P 4) (N 4) (C 4),.slice (P 5) (N 5) (C 5),.slice (P 6) (N 6) (C 6),.slice (P 7) (N 7) (C 7),.bool (Ju 8 A),.bool (Ju 9 A)] 55 (0,0))).alloc (.cells #[.slice none 0 0,.slice none 0 0,.slice none 0 0,.slice none 0 0,.slice none 0 0,.slice none 0 0,.slice none 0 0,.slice none 0 0,.bool false,.bool false] 55 (0,0))) (w.heap.size+1+1) (Q14 (slv P N C) (Ju 8 A) (Ju 9 A)) 55:=(Blk.new_of _ [.slice (P 0) (N 0) (C 0),.slice (P 1) (N 1) (C 1),.slice (P 2) (N 2) (C 2),.slice (P 3) (N 3) (C 3),.slice (P 4) (N 4) (C 4),.slice (P 5) (N 5) (C 5),.slice (P 6) (N 6) (C 6),.slice (P 7) (N 7) (C 7),.bool (Ju 8 A),.bool (Ju 9 A)] _ Sm).alloc _;have Qui:Blk ((((w.alloc (.cells #[.slice R0 r.comps.length e0,.slice R1 r.ress.length e1,.slice R2 r.evts.length e2] 38 (0,0))).alloc (.cells #[.slice (some ⟨nb,no,none⟩) t.nodes.length nc,.slice B t.tops.length bc] 33 (0,0))).alloc (.cells #[.slice (P 0) (N 0) (C 0),.slice (P 1) (N 1) (C 1),.slice (P 2) (N 2) (C 2),.slice (P 3) (N 3) (C 3),.slice (P 4) (N 4) (C 4),.slice (P 5) (N 5) (C 5),.slice (P 6) (N 6) (C 6),.slice (P 7) (N 7) (C 7),.bool (Ju 8 A),.bool (Ju 9 A)] 55 (0,0))).alloc (.cells #[.slice none 0 0,.slice none 0 0,.slice none 0 0,.slice none 0 0,.slice none 0 0,.slice none 0 0,.slice none 0 0,.slice none 0 0,.bool false,.bool false] 55 (0,0))) (w.heap.size+1+1+1) [.slice none 0 0,.slice none 0 0,.slice none 0 0,.slice none 0 0,.slice none 0 0,.slice none 0 0,.slice none 0 0,.slice none 0 0,.bool false,.bool false] 55:=Blk.new_of _ _ _ Sm;have hst:(((((w.alloc (.cells #[.slice R0 r.comps.length e0,.slice R1 r.ress.length e1,.slice R2 r.evts.length e2] 38 (0,0))).alloc (.cells #[.slice (some ⟨nb,no,none⟩) t.nodes.length nc,.slice B t.tops.length bc] 33 (0,0))).alloc (.cells #[.slice (P 0) (N 0) (C 0),.slice (P 1) (N 1) (C 1),.slice (P 2) (N 2) (C 2),.slice (P 3) (N 3) (C 3),.slice (P 4) (N 4) (C 4),.slice (P 5) (N 5) (C 5),.slice (P 6) (N 6) (C 6),.slice (P 7) (N 7) (C 7),.bool (Ju 8 A),.bool (Ju 9 A)] 55 (0,0))).alloc (.cells #[.slice none 0 0,.slice none 0 0,.slice none 0 0,.slice none 0 0,.slice none 0 0,.slice none 0 0,.slice none 0 0,.slice none 0 0,.bool false,.bool false] 55 (0,0)))).heap.size=w.heap.size+4:=Sm
 generalize hW0:((((w.alloc (.cells #[.slice R0 r.comps.length e0,.slice R1 r.ress.length e1,.slice R2 r.evts.length e2] 38 (0,0))).alloc (.cells #[.slice (some ⟨nb,no,none⟩) t.nodes.length nc,.slice B t.tops.length bc] 33 (0,0))).alloc (.cells #[.slice (P 0) (N 0) (C 0),.slice (P 1) (N 1) (C 1),.slice (P 2) (N 2) (C 2),.slice (P 3) (N 3) (C 3),.slice (P 4) (N 4) (C 4),.slice (P 5) (N 5) (C 5),.slice (P 6) (N 6) (C 6),.slice (P 7) (N 7) (C 7),.bool (Ju 8 A),.bool (Ju 9 A)] 55 (0,0))).alloc (.cells #[.slice none 0 0,.slice none 0 0,.slice none 0 0,.slice none 0 0,.slice none 0 0,.slice none 0 0,.slice none 0 0,.slice none 0 0,.bool false,.bool false] 55 (0,0)))=W0 at hk0 hb5 hb6 hb8 Qui hst;obtain⟨S',hS'⟩:∃S':Nat→Prop,S'=fun k=>S k∧(k<w.heap.size∨w.heap.size+5≤k):=⟨_,rfl⟩
 have hS1:∀k,S' k→S k∧(k<w.heap.size∨w.heap.size+5≤k):=fun k h=>by rw[hS'] at h;exact h
 have hS2:∀k,S k→(k<w.heap.size∨w.heap.size+5≤k)→S' k:=fun k h h2=>by rw[hS'];exact⟨h,h2⟩
 clear hS'
 have hIn:Xm S' W0 (w.heap.size+1+1) (slv P N C) A (.slice lA L.length lc) L :=
  ⟨hb8,fun h=>by have:=(hS1 _ h).2;omega,fun k hk=>⟨((hE k hk).nobk hk0).1,fun b hb=>hS2 b ((hE k hk).2 b hb) (.inl ((hE k hk).lt b hb))⟩,⟨(hL.nobk hk0).1,fun b hb=>hS2 b (hL.2 b hb) (.inl (hL.lt b hb))⟩,hD⟩
 have HT9:Hi (∀W,Q0 (fun b=>b=w.heap.size+1+1∨S' b) W0 W→Q0 S w W):=Hh fun W hW=>(hk0.ofNob S).then_ hW (fun k h=>h.elim (fun e=>.inr Om) (fun h=>.inl (hS1 k h).1))
 have HS3:Hi (∀W,Q0 (fun b=>b=w.heap.size+1+1∨S' b) W0 W→(W.cell? ⟨w.heap.size,0,none⟩=some (.slice R0 r.comps.length e0)∧W.cell? ⟨w.heap.size,1,none⟩=some (.slice R1 r.ress.length e1)∧W.cell? ⟨w.heap.size,2,none⟩=some (.slice R2 r.evts.length e2)) ∧
   W.cell? ⟨w.heap.size+1,0,none⟩=some (.slice (some ⟨nb,no,none⟩) t.nodes.length nc)∧W.cell? ⟨w.heap.size+1,1,none⟩=some (.slice B t.tops.length bc)):=Hh fun W hW=>by
  have m0:¬ (w.heap.size=w.heap.size+1+1∨S' w.heap.size):=fun h=>h.elim (fun h=>by omega) (fun h=>by have:=(hS1 _ h).2;omega)
  have m1:¬ (w.heap.size+1=w.heap.size+1+1∨S' (w.heap.size+1)):=fun h=>h.elim (fun h=>by omega) (fun h=>by have:=(hS1 _ h).2;omega)
  exact⟨⟨(hb5.kept hW m0).cell 0 _ rfl,(hb5.kept hW m0).cell 1 _ rfl,(hb5.kept hW m0).cell 2 _ rfl⟩,(hb6.kept hW m1).cell 0 _ rfl,(hb6.kept hW m1).cell 1 _ rfl⟩
 have Qyq:Hi (∀W,Q0 (fun b=>b=w.heap.size+1+1∨S' b) W0 W→Blk W (w.heap.size+1+1+1) [.slice none 0 0,.slice none 0 0,.slice none 0 0,.slice none 0 0,.slice none 0 0,.slice none 0 0,.slice none 0 0,.slice none 0 0,.bool false,.bool false] 55):=Hh fun W hW=>Qui.kept hW (fun h=>h.elim (fun h=>by omega) (fun h=>by have:=(hS1 _ h).2;omega))
 have HRD:Hi (∀W,Q0 S w W→Ji W (.slice R0 r.comps.length e0) r.comps∧Ji W (.slice R1 r.ress.length e1) r.ress∧Ji W (.slice R2 r.evts.length e2) r.evts):=Hh fun W hW=>by
  obtain⟨_,_,_,e,q0,q1,q2⟩:=hR W hW;cases e;exact⟨q0,q1,q2⟩
 have HF1:Hi (∀W:World,w.heap.size+5≤W.heap.size→Jh S' W):=Hh fun W hW k hk=>hS2 k (hS k Om) (.inr Om)
 have HLT:Hi (∀k,own (.slice lA L.length lc) k→k<w.heap.size):=Hh fun k hk=>hL.lt k hk
 have HK0:=Hh hk0;have HIN:=Hh hIn;have HRV:=Hh hR;have HT:=Hh hT;have HF:=Hh hF;have HKA:=Hh hKA;have HKC:=Hh hkc;have HS1:=Hh hS1;have HST:=Hh hst;have HNN:=Hh hnn;have hr0:Q0 (fun b=>b=w.heap.size+1+1∨S' b) W0 W0:=Kr _ _;obtain⟨⟨g0,g1,g2⟩,g3,g4⟩:=HS3.o W0 hr0;obtain⟨q0,q1,q2,q3⟩:=Qni W0 (hk0.ofNob _);clear hS1 hS2 hb5 hb6 hb8 Qui hk0 hIn hR hT hE hL hD hS hF hKA hkc Qny d0 d1 d2 Qni hnd hst hnn hi;go_enter func65,ntmps65;go_upto_region 1 with fail
 go_cut [12] (fun s12 wx=>s12=.pointer (some ⟨w.heap.size+4,0,none⟩)∧Blk wx (w.heap.size+4) [.int .i64 n.kind,.string n.text,.int .i64 n.i,.slice KA n.kids.length kc] 70∧Q0 nob W0 wx)
 case first =>
  go_wp2_with fail;go_meet;exact⟨by rw[HST.o],Blk.new_of _ [_,_,_,_] _ HST.o.symm,(Kr _ _).alloc _⟩
 case rest =>
 obtain⟨rfl,hbn,hk1⟩:=hcut;obtain⟨w1,rfl⟩:∃w1:World,w1=wc:=⟨_,rfl⟩;have hz1:w.heap.size+5≤w1.heap.size:=by have:=hbn.lt;omega
 have HZ1:=Hh hz1;have HI1:=Hh (HIN.o.nobk hk1);have HK1:=Hh hk1
 have HBN:Hi (∀W,Q0 (fun b=>b=w.heap.size+1+1∨S' b) w1 W→W.cell? ⟨w.heap.size+4,0,none⟩=some (.int .i64 n.kind)∧W.cell? ⟨w.heap.size+4,1,none⟩=some (.string n.text)∧W.cell? ⟨w.heap.size+4,3,none⟩=some (.slice KA n.kids.length kc)):=Hh fun W hW=>by
  have m0:¬ (w.heap.size+4=w.heap.size+1+1∨S' (w.heap.size+4)):=fun h=>h.elim (fun h=>by omega) (fun h=>by have:=(HS1.o _ h).2;omega)
  exact⟨(hbn.kept hW m0).cell 0 _ rfl,(hbn.kept hW m0).cell 1 _ rfl,(hbn.kept hW m0).cell 3 _ rfl⟩
 have HW1:Hi (∀W,Q0 (fun b=>b=w.heap.size+1+1∨S' b) w1 W→Q0 (fun b=>b=w.heap.size+1+1∨S' b) W0 W):=Hh fun W hW=>(HK1.o.ofNob _).trans hW
 obtain⟨b0,b1,b3⟩:=HBN.o w1 (Kr _ _);obtain⟨⟨a0,a1,a2⟩,a3,a4⟩:=HS3.o w1 (HW1.o w1 (Kr _ _));clear q0 q1 q2 q3 g0 g1 g2 g3 g4 hr0 hbn hk1 hW0;have HR1:Hi (∀W,Q0 nob w1 W→Ji W (.slice R0 r.comps.length e0) r.comps∧Ji W (.slice R1 r.ress.length e1) r.ress∧Ji W (.slice R2 r.evts.length e2) r.evts):=Hh fun W hW=>HRD.o W (HT9.o W (HW1.o W (hW.ofNob _)))
 go_upto_block 0 with (go_at_call 100;refine (Za _ r.comps n.text _ (HR1.o _ (Kr _ _)).1).mono ?_;rintro e w3 ⟨rfl,rfl⟩)
 go_cut [4] (fun s4 wx=>∃us,Xm S' wx (w.heap.size+1+1) us (A++J7 r t n) s4 (L++(if n.kind=7 then [n.text] else []))∧Q0 (fun b=>b=w.heap.size+1+1∨own (.slice lA L.length lc) b) w1 wx∧Q07 w1 (.slice lA L.length lc) s4)
 case first =>
  have hlA:A.length+(J7 r t n).length≤16000000000000:=by
   have:=congrArg List.length HXX.o;rw[List.length_append,List.length_append] at this;omega
  have hlL:L.length+1≤1000000001:=by
   have:=congrArg List.length HYY.o;rw[List.length_append,List.length_append] at this;omega
  have hFW:=HF1.o w1 HZ1.o;have HFW:=Hh hFW;clear hFW;obtain⟨kd,tx,ni,ks⟩:=n;dsimp only at *
  by_cases h5:kd=5
  ·as_aux_lemma =>
   subst h5;have HDE:Hi (J7 r t ⟨5,tx,ni,ks⟩=[(0,Qa r.comps tx)]):=Hh (by unfold J7;simp);have x0:=HI1.o.blk.cell 0 _ rfl;go_wp2_with (go_at_call 101;refine (Xr (S:=S') _ (Zf (Zb 0 A)) (Qa r.comps tx) _ (HI1.o.own 0 Dc) HFW.o (HI1.o.len 0 Om)).mono ?_;rintro e w5 ⟨uA,un,uc,rfl,ho,hg,hk⟩;have hb5:=(HI1.o).blk.kept hk id;have c5:=hb5.cell 0 _ rfl;have f5:=hb5.free 0;have HN5:=Hh ((HI1.o).add (k:=0) Dc ho hg hk);have HK5:=Hh hk;clear ho hg hk hb5);go_meet;refine⟨_,by show Xm S' _ _ _ (A++J7 r t ⟨5,tx,ni,ks⟩) _ (L++if (5:Int)=7 then [tx] else []);rw[HDE.o,Ng Dc,List.append_nil];exact HN5.o,?_,Q07.refl _ _⟩;exact (HK5.o.ofNob _).setCell (.inl (.inl rfl)) _
  have t5:(kd==5)=false:=by simpa using h5
  go_upto_if 36 with fail
  by_cases h11:kd=11
  ·as_aux_lemma =>
   subst h11;obtain⟨kt,hkt⟩:∃kt,kt=ks.drop 1:=⟨_,rfl⟩;have HDE:Hi (J7 r t ⟨11,tx,ni,ks⟩=(kt.map fun k=>((0:Nat),Qa r.comps (t.at k).text))):=Hh (by rw[hkt];unfold J7;simp);have Quj:=Hh hkt;clear hkt;have HA0:Hi (Xm S' w1 (w.heap.size+1+1) (slv P N C) (A++Jm r t 0 kt 0) (.slice lA L.length lc) L∧Q0 (fun b=>b=w.heap.size+1+1) w1 w1):=Hh ⟨by rw[Q0m,List.append_nil];exact HI1.o,Kr _ _⟩;go_wp2_with fail;go_loopw [14] (fun i wr=>∃(j q:Nat) (us:Nat→Value),j=q+1∧j≤ks.length+1∧i=.int .i64 j∧Hi (Xm S' wr (w.heap.size+1+1) us (A++Jm r t 0 kt q) (.slice lA L.length lc) L∧Q0 (fun b=>b=w.heap.size+1+1) w1 wr)) (fun i _=>ks.length+1-(intOf i).toNat)
   case atStart=>exact⟨1,0,_,rfl,Om,rfl,HA0⟩
   case round =>
    obtain⟨j,q,us,hjq,hj,rfl,HR⟩:=hrel;have HJQ:=Hh hjq;clear hjq;obtain⟨wi,rfl⟩:∃wi:World,wi=wr:=⟨_,rfl⟩;have HKT:Hi (∀W,Q0 nob wi W→Q0 (fun b=>b=w.heap.size+1+1∨S' b) w1 W):=Hh fun W hW=>(HR.o.2.mono (fun b _ e=>.inl e)).trans (hW.ofNob _)
    have Qsu:=(HBN.o wi (HKT.o wi (Kr _ _))).2.2
    by_cases hlt:j<ks.length
    ·obtain⟨x,hx⟩:=Q4 hlt
     have HTK:=Hh (Q0x (r:=r) (t:=t) (row:=0) (ks:=kt) (j:=q) (x:=x) (by rw[Quj.o,List.getElem?_drop,show 1+q=j by have:=HJQ.o;omega];exact hx));have hin:=(HKI.o x (Mg hx)).1;obtain rfl:=HKA.o Om;obtain⟨mx,rfl,hnd⟩:=Q1.at_lt hin;have hmn:(mx:Int)<t.nodes.length:=hin.2;obtain⟨P',N',C',hO⟩:=HR.o.1.sl;have HO:=Hh hO;obtain⟨nd,Qoh⟩:∃nd,nd=t.at (mx:Int):=⟨_,rfl⟩;rw[← Qoh] at hnd;have HND:Hi (A++Jm r t 0 kt (q+1)=(A++Jm r t 0 kt q)++[(0,Qa r.comps nd.text)]):=Hh (by rw[HTK.o,List.append_assoc,Qoh])
     have Qpb:(A++Jm r t 0 kt q).length≤16100000000000:=by
      have h1:=Q1o r t 0 kt q;have h2:kt.length≤ks.length:=by rw[Quj.o,List.length_drop];omega
      rw[List.length_append];omega
     generalize A++Jm r t 0 kt q=Aj at *;have hjn:(j:Int)<(ks.length:Int):=Om
     have HKE:Hi (∀W,Q0 (fun b=>b=w.heap.size+1+1) wi W→Q0 (fun b=>b=w.heap.size+1+1∨S' b) w1 W):=Hh fun W hW=>(HR.o.2.trans hW).mono (fun b _ e=>.inl e)
     have HRR:Hi (∀W,Q0 (fun b=>b=w.heap.size+1+1) wi W→Ji W (.slice R0 r.comps.length e0) r.comps):=Hh fun W hW=>(HRD.o W (HT9.o W (HW1.o W (HKE.o W hW)))).1
     have x0:=HO.o.blk.cell 0 _ rfl;have hx1:∀W,Q0 (fun b=>b=w.heap.size+1+1) wi W→W.cell? ⟨w.heap.size,0,none⟩=some (.slice R0 r.comps.length e0):=fun W hW=>(HS3.o W (HW1.o W (HKE.o W hW))).1.1
     have hx2:∀W,Q0 (fun b=>b=w.heap.size+1+1) wi W→W.cell? ⟨w.heap.size+4,3,none⟩=some (.slice (some ⟨kb,ko,none⟩) ks.length kc):=fun W hW=>(HBN.o W (HKE.o W hW)).2.2
     have hx3:∀W,Q0 (fun b=>b=w.heap.size+1+1) wi W→W.cell? ⟨w.heap.size+1,0,none⟩=some (.slice (some ⟨nb,no,none⟩) t.nodes.length nc):=fun W hW=>(HS3.o W (HW1.o W (HKE.o W hW))).2.1
     have hx4:∀W,Q0 (fun b=>b=w.heap.size+1+1) wi W→W.cell? ⟨kb,ko+j,none⟩=some (.int .i64 (mx:Int)):=fun W hW=>HKC.o j _ hx W (HT9.o W (HW1.o W (HKE.o W hW)))
     have hx5:∀W,Q0 (fun b=>b=w.heap.size+1+1) wi W→W.cell? ⟨nb,no+mx*4+1,none⟩=some (.string nd.text):=fun W hW=>HTN.o mx nd hnd W (HT9.o W (HW1.o W (HKE.o W hW)))
     have hr0:Q0 (fun b=>b=w.heap.size+1+1) wi wi:=Kr _ _;have hn0:Q0 nob wi wi:=Kr _ _;have HFI:Hi (Jh S' wi):=Hh (HF1.o wi (by have:=HZ1.o;have:=HR.o.2.size;omega));clear hnd Qoh hin HTK hO;go_upto_region 10 with fail
     clear Qsu
     refine wp_region_held_drew (S:=(fun W=>Q0 (fun b=>b=w.heap.size+1+1) wi W)) Kf ?_ (fun hHeld=>?_)
     ·exact K11
     refine rtk 0 ?_;refine rtk 2 ?_;refine rtk 3 ?_;refine rtk 4 ?_;refine rtk 5 ?_;refine rtk 6 ?_;refine rtk 7 ?_;refine rtk 8 ?_;refine rtk 9 ?_;refine rtk 10 ?_;refine rtk 11 ?_;refine rtk 12 ?_;refine rtk 13 ?_
     refine rr2 1 14 (fun K hK=>?_) fun K hK=>?_
     go_simp
     refine rko hK ?_ fun hHeld=>?_
     ·exact K11
     clear hK K
     refine rr1 14 fun K hK=>?_
     go_simp
     (go_at_call 100;refine (Za _ r.comps nd.text _ (HRR.o _ hr0.drew)).mono ?_;rintro e w4 ⟨rfl,rfl⟩;dsimp only)
     refine rko hK ?_ fun hHeld=>?_
     ·exact K11
     clear hK K
     rotate_left
     go_simp
     (go_at_call 100;refine (Za _ r.comps nd.text _ (HRR.o _ hr0.drew)).mono ?_;rintro e w4 ⟨rfl,rfl⟩;dsimp only)
     refine rko hK ?_ fun hHeld=>?_
     ·exact K11
     clear hK K
     refine rr1 1 fun K hK=>?_
     go_simp
     refine rko hK ?_ fun hHeld=>?_
     ·exact K11
     clear hK K
     rotate_left
     all_goals
      refine rr1 15 fun K hK=>?_
      go_simp
      (go_at_call 101;refine (Xr (S:=S') _ (Zf (Zb 0 Aj)) (Qa r.comps nd.text) _ ((HO.o.nobk hn0.drew).own 0 Dc) (HFI.o.kept hn0.drew) ((HO.o.nobk hn0.drew).len 0 Om)).mono ?_;rintro e w5 ⟨uA,un,uc,rfl,ho,hg,hk⟩;have hb5:=((HO.o.nobk hn0.drew)).blk.kept hk id;have c5:=hb5.cell 0 _ rfl;have f5:=hb5.free 0;have HN5:=Hh (((HO.o.nobk hn0.drew)).add (k:=0) Dc ho hg hk);have HK5:=Hh hk;clear ho hg hk hb5;have hr5:=(hn0.drew.trans HK5.o).ofNob (fun b=>b=w.heap.size+1+1);dsimp only)
      refine rko hK ?_ fun hHeld=>?_
      ·exact K11
      clear hK K;refine rtk 16 ?_
      refine rr1 17 fun K hK=>?_
      go_simp
      refine rko hK ?_ fun hHeld=>?_
      ·exact K11
      clear hK K;refine wpAnyH_done Kf ?_ _
     all_goals go_wp2_with fail
     all_goals go_roundw
     all_goals first
      |exact⟨j+1,q+1,upd (slv P' N' C') 0 (.slice uA un uc),(by first|go_num|(have:=HJQ.o;omega)),(by first|go_num|(have:=HJQ.o;omega)),(by first|go_num|(have:=HJQ.o;omega)),Hh ⟨by rw[HND.o];exact HN5.o,HR.o.2.trans (hr5.setCell (.inl rfl) _)⟩⟩
      |exact⟨j+1,q+1,(by first|go_num|(have:=HJQ.o;omega)),(by first|go_num|(have:=HJQ.o;omega)),(by first|go_num|(have:=HJQ.o;omega)),upd (slv P' N' C') 0 (.slice uA un uc),Hh ⟨by rw[HND.o];exact HN5.o,HR.o.2.trans (hr5.setCell (.inl rfl) _)⟩⟩
      |exact⟨q+1,upd (slv P' N' C') 0 (.slice uA un uc),(by first|go_num|(have:=HJQ.o;omega)),(by first|go_num|(have:=HJQ.o;omega)),Hh ⟨by rw[HND.o];exact HN5.o,HR.o.2.trans (hr5.setCell (.inl rfl) _)⟩⟩
      |exact⟨q+1,(by first|go_num|(have:=HJQ.o;omega)),(by first|go_num|(have:=HJQ.o;omega)),upd (slv P' N' C') 0 (.slice uA un uc),Hh ⟨by rw[HND.o];exact HN5.o,HR.o.2.trans (hr5.setCell (.inl rfl) _)⟩⟩
      |(simp[intOf];omega)
    ·have hjn:¬ (j:Int)<(ks.length:Int):=Om
     go_wp2_with fail;go_meet
     refine⟨us,?_,HR.o.2.mono (fun b _ e=>.inl e),Q07.refl _ _⟩
     show Xm S' _ _ _ (A++J7 r t ⟨11,tx,ni,ks⟩) _ (L++if (11:Int)=7 then [tx] else [])
     rw[HDE.o,Ng Dc,List.append_nil];rw[← Q1g r t 0 kt (j:=q) (by have:=HJQ.o;rw[Quj.o,List.length_drop];omega)];exact HR.o.1
  have t11:(kd==11)=false:=by simpa using h11
  go_upto_if 62 with fail
  by_cases h14:kd=14
  ·as_aux_lemma =>
   subst h14;have HDE:Hi (J7 r t ⟨14,tx,ni,ks⟩=[(1,Qa r.comps tx)]):=Hh (by unfold J7;simp);have x0:=HI1.o.blk.cell 1 _ rfl;go_wp2_with (go_at_call 101;refine (Xr (S:=S') _ (Zf (Zb 1 A)) (Qa r.comps tx) _ (HI1.o.own 1 Dc) HFW.o (HI1.o.len 1 Om)).mono ?_;rintro e w5 ⟨uA,un,uc,rfl,ho,hg,hk⟩;have hb5:=(HI1.o).blk.kept hk id;have c5:=hb5.cell 1 _ rfl;have f5:=hb5.free 1;have HN5:=Hh ((HI1.o).add (k:=1) Dc ho hg hk);have HK5:=Hh hk;clear ho hg hk hb5);go_meet;refine⟨_,by show Xm S' _ _ _ (A++J7 r t ⟨14,tx,ni,ks⟩) _ (L++if (14:Int)=7 then [tx] else []);rw[HDE.o,Ng Dc,List.append_nil];exact HN5.o,?_,Q07.refl _ _⟩;exact (HK5.o.ofNob _).setCell (.inl (.inl rfl)) _
  have t14:(kd==14)=false:=by simpa using h14
  by_cases h29:kd=29
  ·as_aux_lemma =>
   subst h29;have HDE:Hi (J7 r t ⟨29,tx,ni,ks⟩=(ks.map fun k=>((2:Nat),Qa r.comps (t.at k).text))):=Hh (by unfold J7;simp)
   skip
   have HA0:Hi (Xm S' w1 (w.heap.size+1+1) (slv P N C) (A++Jm r t 2 ks 0) (.slice lA L.length lc) L∧Q0 (fun b=>b=w.heap.size+1+1) w1 w1):=Hh ⟨by rw[Q0m,List.append_nil];exact HI1.o,Kr _ _⟩;go_wp2_with fail;go_loopw [15] (fun i wr=>∃(j q:Nat) (us:Nat→Value),j=q+0∧j≤ks.length+1∧i=.int .i64 j∧Hi (Xm S' wr (w.heap.size+1+1) us (A++Jm r t 2 ks q) (.slice lA L.length lc) L∧Q0 (fun b=>b=w.heap.size+1+1) w1 wr)) (fun i _=>ks.length+1-(intOf i).toNat)
   case atStart=>exact⟨0,0,_,rfl,Om,rfl,HA0⟩
   case round =>
    obtain⟨j,q,us,hjq,hj,rfl,HR⟩:=hrel;have HJQ:=Hh hjq;clear hjq;obtain⟨wi,rfl⟩:∃wi:World,wi=wr:=⟨_,rfl⟩;have HKT:Hi (∀W,Q0 nob wi W→Q0 (fun b=>b=w.heap.size+1+1∨S' b) w1 W):=Hh fun W hW=>(HR.o.2.mono (fun b _ e=>.inl e)).trans (hW.ofNob _)
    have Qsu:=(HBN.o wi (HKT.o wi (Kr _ _))).2.2
    by_cases hlt:j<ks.length
    ·obtain⟨x,hx⟩:=Q4 hlt
     have HTK:=Hh (Q0x (r:=r) (t:=t) (row:=2) (ks:=ks) (j:=q) (x:=x) (by rw[show q=j by have:=HJQ.o;omega];exact hx));have hin:=(HKI.o x (Mg hx)).1;obtain rfl:=HKA.o Om;obtain⟨mx,rfl,hnd⟩:=Q1.at_lt hin;have hmn:(mx:Int)<t.nodes.length:=hin.2;obtain⟨P',N',C',hO⟩:=HR.o.1.sl;have HO:=Hh hO;obtain⟨nd,Qoh⟩:∃nd,nd=t.at (mx:Int):=⟨_,rfl⟩;rw[← Qoh] at hnd;have HND:Hi (A++Jm r t 2 ks (q+1)=(A++Jm r t 2 ks q)++[(2,Qa r.comps nd.text)]):=Hh (by rw[HTK.o,List.append_assoc,Qoh])
     have Qpb:(A++Jm r t 2 ks q).length≤16100000000000:=by
      have h1:=Q1o r t 2 ks q;have h2:ks.length≤ks.length:=by exact Nat.le_refl _
      rw[List.length_append];omega
     generalize A++Jm r t 2 ks q=Aj at *;have hjn:(j:Int)<(ks.length:Int):=Om
     have HKE:Hi (∀W,Q0 (fun b=>b=w.heap.size+1+1) wi W→Q0 (fun b=>b=w.heap.size+1+1∨S' b) w1 W):=Hh fun W hW=>(HR.o.2.trans hW).mono (fun b _ e=>.inl e)
     have HRR:Hi (∀W,Q0 (fun b=>b=w.heap.size+1+1) wi W→Ji W (.slice R0 r.comps.length e0) r.comps):=Hh fun W hW=>(HRD.o W (HT9.o W (HW1.o W (HKE.o W hW)))).1
     have x0:=HO.o.blk.cell 2 _ rfl;have hx1:∀W,Q0 (fun b=>b=w.heap.size+1+1) wi W→W.cell? ⟨w.heap.size,0,none⟩=some (.slice R0 r.comps.length e0):=fun W hW=>(HS3.o W (HW1.o W (HKE.o W hW))).1.1
     have hx2:∀W,Q0 (fun b=>b=w.heap.size+1+1) wi W→W.cell? ⟨w.heap.size+4,3,none⟩=some (.slice (some ⟨kb,ko,none⟩) ks.length kc):=fun W hW=>(HBN.o W (HKE.o W hW)).2.2
     have hx3:∀W,Q0 (fun b=>b=w.heap.size+1+1) wi W→W.cell? ⟨w.heap.size+1,0,none⟩=some (.slice (some ⟨nb,no,none⟩) t.nodes.length nc):=fun W hW=>(HS3.o W (HW1.o W (HKE.o W hW))).2.1
     have hx4:∀W,Q0 (fun b=>b=w.heap.size+1+1) wi W→W.cell? ⟨kb,ko+j,none⟩=some (.int .i64 (mx:Int)):=fun W hW=>HKC.o j _ hx W (HT9.o W (HW1.o W (HKE.o W hW)))
     have hx5:∀W,Q0 (fun b=>b=w.heap.size+1+1) wi W→W.cell? ⟨nb,no+mx*4+1,none⟩=some (.string nd.text):=fun W hW=>HTN.o mx nd hnd W (HT9.o W (HW1.o W (HKE.o W hW)))
     have hr0:Q0 (fun b=>b=w.heap.size+1+1) wi wi:=Kr _ _;have hn0:Q0 nob wi wi:=Kr _ _;have HFI:Hi (Jh S' wi):=Hh (HF1.o wi (by have:=HZ1.o;have:=HR.o.2.size;omega));clear hnd Qoh hin HTK hO;go_upto_region 18 with fail
     clear Qsu
     refine wp_region_held_drew (S:=(fun W=>Q0 (fun b=>b=w.heap.size+1+1) wi W)) Kf ?_ (fun hHeld=>?_)
     ·exact K11
     refine rtk 0 ?_;refine rtk 2 ?_;refine rtk 3 ?_;refine rtk 4 ?_;refine rtk 5 ?_;refine rtk 6 ?_;refine rtk 7 ?_;refine rtk 8 ?_;refine rtk 9 ?_;refine rtk 10 ?_;refine rtk 11 ?_;refine rtk 12 ?_;refine rtk 13 ?_
     refine rr2 1 14 (fun K hK=>?_) fun K hK=>?_
     go_simp
     refine rko hK ?_ fun hHeld=>?_
     ·exact K11
     clear hK K
     refine rr1 14 fun K hK=>?_
     go_simp
     (go_at_call 100;refine (Za _ r.comps nd.text _ (HRR.o _ hr0.drew)).mono ?_;rintro e w4 ⟨rfl,rfl⟩;dsimp only)
     refine rko hK ?_ fun hHeld=>?_
     ·exact K11
     clear hK K
     rotate_left
     go_simp
     (go_at_call 100;refine (Za _ r.comps nd.text _ (HRR.o _ hr0.drew)).mono ?_;rintro e w4 ⟨rfl,rfl⟩;dsimp only)
     refine rko hK ?_ fun hHeld=>?_
     ·exact K11
     clear hK K
     refine rr1 1 fun K hK=>?_
     go_simp
     refine rko hK ?_ fun hHeld=>?_
     ·exact K11
     clear hK K
     rotate_left
     all_goals
      refine rr1 15 fun K hK=>?_
      go_simp
      (go_at_call 101;refine (Xr (S:=S') _ (Zf (Zb 2 Aj)) (Qa r.comps nd.text) _ ((HO.o.nobk hn0.drew).own 2 Dc) (HFI.o.kept hn0.drew) ((HO.o.nobk hn0.drew).len 2 Om)).mono ?_;rintro e w5 ⟨uA,un,uc,rfl,ho,hg,hk⟩;have hb5:=((HO.o.nobk hn0.drew)).blk.kept hk id;have c5:=hb5.cell 2 _ rfl;have f5:=hb5.free 2;have HN5:=Hh (((HO.o.nobk hn0.drew)).add (k:=2) Dc ho hg hk);have HK5:=Hh hk;clear ho hg hk hb5;have hr5:=(hn0.drew.trans HK5.o).ofNob (fun b=>b=w.heap.size+1+1);dsimp only)
      refine rko hK ?_ fun hHeld=>?_
      ·exact K11
      clear hK K;refine rtk 16 ?_
      refine rr1 17 fun K hK=>?_
      go_simp
      refine rko hK ?_ fun hHeld=>?_
      ·exact K11
      clear hK K;refine wpAnyH_done Kf ?_ _
     all_goals go_wp2_with fail
     all_goals go_roundw
     all_goals first
      |exact⟨j+1,q+1,upd (slv P' N' C') 2 (.slice uA un uc),(by first|go_num|(have:=HJQ.o;omega)),(by first|go_num|(have:=HJQ.o;omega)),(by first|go_num|(have:=HJQ.o;omega)),Hh ⟨by rw[HND.o];exact HN5.o,HR.o.2.trans (hr5.setCell (.inl rfl) _)⟩⟩
      |exact⟨j+1,q+1,(by first|go_num|(have:=HJQ.o;omega)),(by first|go_num|(have:=HJQ.o;omega)),(by first|go_num|(have:=HJQ.o;omega)),upd (slv P' N' C') 2 (.slice uA un uc),Hh ⟨by rw[HND.o];exact HN5.o,HR.o.2.trans (hr5.setCell (.inl rfl) _)⟩⟩
      |exact⟨q+1,upd (slv P' N' C') 2 (.slice uA un uc),(by first|go_num|(have:=HJQ.o;omega)),(by first|go_num|(have:=HJQ.o;omega)),Hh ⟨by rw[HND.o];exact HN5.o,HR.o.2.trans (hr5.setCell (.inl rfl) _)⟩⟩
      |exact⟨q+1,(by first|go_num|(have:=HJQ.o;omega)),(by first|go_num|(have:=HJQ.o;omega)),upd (slv P' N' C') 2 (.slice uA un uc),Hh ⟨by rw[HND.o];exact HN5.o,HR.o.2.trans (hr5.setCell (.inl rfl) _)⟩⟩
      |(simp[intOf];omega)
    ·have hjn:¬ (j:Int)<(ks.length:Int):=Om
     go_wp2_with fail;go_meet
     refine⟨us,?_,HR.o.2.mono (fun b _ e=>.inl e),Q07.refl _ _⟩
     show Xm S' _ _ _ (A++J7 r t ⟨29,tx,ni,ks⟩) _ (L++if (29:Int)=7 then [tx] else [])
     exact K12
  have t29:(kd==29)=false:=by simpa using h29
  by_cases h30:kd=30
  ·as_aux_lemma =>
   subst h30;have HDE:Hi (J7 r t ⟨30,tx,ni,ks⟩=(ks.map fun k=>((2:Nat),Qa r.comps (t.at k).text))):=Hh (by unfold J7;simp)
   skip
   have HA0:Hi (Xm S' w1 (w.heap.size+1+1) (slv P N C) (A++Jm r t 2 ks 0) (.slice lA L.length lc) L∧Q0 (fun b=>b=w.heap.size+1+1) w1 w1):=Hh ⟨by rw[Q0m,List.append_nil];exact HI1.o,Kr _ _⟩;go_wp2_with fail;go_loopw [15] (fun i wr=>∃(j q:Nat) (us:Nat→Value),j=q+0∧j≤ks.length+1∧i=.int .i64 j∧Hi (Xm S' wr (w.heap.size+1+1) us (A++Jm r t 2 ks q) (.slice lA L.length lc) L∧Q0 (fun b=>b=w.heap.size+1+1) w1 wr)) (fun i _=>ks.length+1-(intOf i).toNat)
   case atStart=>exact⟨0,0,_,rfl,Om,rfl,HA0⟩
   case round =>
    obtain⟨j,q,us,hjq,hj,rfl,HR⟩:=hrel;have HJQ:=Hh hjq;clear hjq;obtain⟨wi,rfl⟩:∃wi:World,wi=wr:=⟨_,rfl⟩;have HKT:Hi (∀W,Q0 nob wi W→Q0 (fun b=>b=w.heap.size+1+1∨S' b) w1 W):=Hh fun W hW=>(HR.o.2.mono (fun b _ e=>.inl e)).trans (hW.ofNob _)
    have Qsu:=(HBN.o wi (HKT.o wi (Kr _ _))).2.2
    by_cases hlt:j<ks.length
    ·obtain⟨x,hx⟩:=Q4 hlt
     have HTK:=Hh (Q0x (r:=r) (t:=t) (row:=2) (ks:=ks) (j:=q) (x:=x) (by rw[show q=j by have:=HJQ.o;omega];exact hx));have hin:=(HKI.o x (Mg hx)).1;obtain rfl:=HKA.o Om;obtain⟨mx,rfl,hnd⟩:=Q1.at_lt hin;have hmn:(mx:Int)<t.nodes.length:=hin.2;obtain⟨P',N',C',hO⟩:=HR.o.1.sl;have HO:=Hh hO;obtain⟨nd,Qoh⟩:∃nd,nd=t.at (mx:Int):=⟨_,rfl⟩;rw[← Qoh] at hnd;have HND:Hi (A++Jm r t 2 ks (q+1)=(A++Jm r t 2 ks q)++[(2,Qa r.comps nd.text)]):=Hh (by rw[HTK.o,List.append_assoc,Qoh])
     have Qpb:(A++Jm r t 2 ks q).length≤16100000000000:=by
      have h1:=Q1o r t 2 ks q;have h2:ks.length≤ks.length:=by exact Nat.le_refl _
      rw[List.length_append];omega
     generalize A++Jm r t 2 ks q=Aj at *;have hjn:(j:Int)<(ks.length:Int):=Om
     have HKE:Hi (∀W,Q0 (fun b=>b=w.heap.size+1+1) wi W→Q0 (fun b=>b=w.heap.size+1+1∨S' b) w1 W):=Hh fun W hW=>(HR.o.2.trans hW).mono (fun b _ e=>.inl e)
     have HRR:Hi (∀W,Q0 (fun b=>b=w.heap.size+1+1) wi W→Ji W (.slice R0 r.comps.length e0) r.comps):=Hh fun W hW=>(HRD.o W (HT9.o W (HW1.o W (HKE.o W hW)))).1
     have x0:=HO.o.blk.cell 2 _ rfl;have hx1:∀W,Q0 (fun b=>b=w.heap.size+1+1) wi W→W.cell? ⟨w.heap.size,0,none⟩=some (.slice R0 r.comps.length e0):=fun W hW=>(HS3.o W (HW1.o W (HKE.o W hW))).1.1
     have hx2:∀W,Q0 (fun b=>b=w.heap.size+1+1) wi W→W.cell? ⟨w.heap.size+4,3,none⟩=some (.slice (some ⟨kb,ko,none⟩) ks.length kc):=fun W hW=>(HBN.o W (HKE.o W hW)).2.2
     have hx3:∀W,Q0 (fun b=>b=w.heap.size+1+1) wi W→W.cell? ⟨w.heap.size+1,0,none⟩=some (.slice (some ⟨nb,no,none⟩) t.nodes.length nc):=fun W hW=>(HS3.o W (HW1.o W (HKE.o W hW))).2.1
     have hx4:∀W,Q0 (fun b=>b=w.heap.size+1+1) wi W→W.cell? ⟨kb,ko+j,none⟩=some (.int .i64 (mx:Int)):=fun W hW=>HKC.o j _ hx W (HT9.o W (HW1.o W (HKE.o W hW)))
     have hx5:∀W,Q0 (fun b=>b=w.heap.size+1+1) wi W→W.cell? ⟨nb,no+mx*4+1,none⟩=some (.string nd.text):=fun W hW=>HTN.o mx nd hnd W (HT9.o W (HW1.o W (HKE.o W hW)))
     have hr0:Q0 (fun b=>b=w.heap.size+1+1) wi wi:=Kr _ _;have hn0:Q0 nob wi wi:=Kr _ _;have HFI:Hi (Jh S' wi):=Hh (HF1.o wi (by have:=HZ1.o;have:=HR.o.2.size;omega));clear hnd Qoh hin HTK hO;go_upto_region 18 with fail
     clear Qsu
     refine wp_region_held_drew (S:=(fun W=>Q0 (fun b=>b=w.heap.size+1+1) wi W)) Kf ?_ (fun hHeld=>?_)
     ·exact K11
     refine rtk 0 ?_;refine rtk 2 ?_;refine rtk 3 ?_;refine rtk 4 ?_;refine rtk 5 ?_;refine rtk 6 ?_;refine rtk 7 ?_;refine rtk 8 ?_;refine rtk 9 ?_;refine rtk 10 ?_;refine rtk 11 ?_;refine rtk 12 ?_;refine rtk 13 ?_
     refine rr2 1 14 (fun K hK=>?_) fun K hK=>?_
     go_simp
     refine rko hK ?_ fun hHeld=>?_
     ·exact K11
     clear hK K
     refine rr1 14 fun K hK=>?_
     go_simp
     (go_at_call 100;refine (Za _ r.comps nd.text _ (HRR.o _ hr0.drew)).mono ?_;rintro e w4 ⟨rfl,rfl⟩;dsimp only)
     refine rko hK ?_ fun hHeld=>?_
     ·exact K11
     clear hK K
     rotate_left
     go_simp
     (go_at_call 100;refine (Za _ r.comps nd.text _ (HRR.o _ hr0.drew)).mono ?_;rintro e w4 ⟨rfl,rfl⟩;dsimp only)
     refine rko hK ?_ fun hHeld=>?_
     ·exact K11
     clear hK K
     refine rr1 1 fun K hK=>?_
     go_simp
     refine rko hK ?_ fun hHeld=>?_
     ·exact K11
     clear hK K
     rotate_left
     all_goals
      refine rr1 15 fun K hK=>?_
      go_simp
      (go_at_call 101;refine (Xr (S:=S') _ (Zf (Zb 2 Aj)) (Qa r.comps nd.text) _ ((HO.o.nobk hn0.drew).own 2 Dc) (HFI.o.kept hn0.drew) ((HO.o.nobk hn0.drew).len 2 Om)).mono ?_;rintro e w5 ⟨uA,un,uc,rfl,ho,hg,hk⟩;have hb5:=((HO.o.nobk hn0.drew)).blk.kept hk id;have c5:=hb5.cell 2 _ rfl;have f5:=hb5.free 2;have HN5:=Hh (((HO.o.nobk hn0.drew)).add (k:=2) Dc ho hg hk);have HK5:=Hh hk;clear ho hg hk hb5;have hr5:=(hn0.drew.trans HK5.o).ofNob (fun b=>b=w.heap.size+1+1);dsimp only)
      refine rko hK ?_ fun hHeld=>?_
      ·exact K11
      clear hK K;refine rtk 16 ?_
      refine rr1 17 fun K hK=>?_
      go_simp
      refine rko hK ?_ fun hHeld=>?_
      ·exact K11
      clear hK K;refine wpAnyH_done Kf ?_ _
     all_goals go_wp2_with fail
     all_goals go_roundw
     all_goals first
      |exact⟨j+1,q+1,upd (slv P' N' C') 2 (.slice uA un uc),(by first|go_num|(have:=HJQ.o;omega)),(by first|go_num|(have:=HJQ.o;omega)),(by first|go_num|(have:=HJQ.o;omega)),Hh ⟨by rw[HND.o];exact HN5.o,HR.o.2.trans (hr5.setCell (.inl rfl) _)⟩⟩
      |exact⟨j+1,q+1,(by first|go_num|(have:=HJQ.o;omega)),(by first|go_num|(have:=HJQ.o;omega)),(by first|go_num|(have:=HJQ.o;omega)),upd (slv P' N' C') 2 (.slice uA un uc),Hh ⟨by rw[HND.o];exact HN5.o,HR.o.2.trans (hr5.setCell (.inl rfl) _)⟩⟩
      |exact⟨q+1,upd (slv P' N' C') 2 (.slice uA un uc),(by first|go_num|(have:=HJQ.o;omega)),(by first|go_num|(have:=HJQ.o;omega)),Hh ⟨by rw[HND.o];exact HN5.o,HR.o.2.trans (hr5.setCell (.inl rfl) _)⟩⟩
      |exact⟨q+1,(by first|go_num|(have:=HJQ.o;omega)),(by first|go_num|(have:=HJQ.o;omega)),upd (slv P' N' C') 2 (.slice uA un uc),Hh ⟨by rw[HND.o];exact HN5.o,HR.o.2.trans (hr5.setCell (.inl rfl) _)⟩⟩
      |(simp[intOf];omega)
    ·have hjn:¬ (j:Int)<(ks.length:Int):=Om
     go_wp2_with fail;go_meet
     refine⟨us,?_,HR.o.2.mono (fun b _ e=>.inl e),Q07.refl _ _⟩
     show Xm S' _ _ _ (A++J7 r t ⟨30,tx,ni,ks⟩) _ (L++if (30:Int)=7 then [tx] else [])
     exact K12
  have t30:(kd==30)=false:=by simpa using h30
  go_upto_if 96 with fail
  by_cases h6:kd=6
  ·as_aux_lemma =>
   subst h6;have HDE:Hi (J7 r t ⟨6,tx,ni,ks⟩=[(3,Qa r.ress tx)]):=Hh (by unfold J7;simp);have x0:=HI1.o.blk.cell 3 _ rfl;have HKE:Hi (∀W,Q0 (fun b=>b=w.heap.size+1+1) w1 W→Q0 (fun b=>b=w.heap.size+1+1∨S' b) w1 W):=Hh fun W hW=>hW.mono (fun b _ e=>.inl e)
   have hx1:∀W,Q0 (fun b=>b=w.heap.size+1+1) w1 W→W.cell? ⟨w.heap.size,1,none⟩=some (.slice R1 r.ress.length e1):=fun W hW=>(HS3.o W (HW1.o W (HKE.o W hW))).1.2.1
   have hx2:∀W,Q0 (fun b=>b=w.heap.size+1+1) w1 W→W.cell? ⟨w.heap.size+4,1,none⟩=some (.string tx):=fun W hW=>(HBN.o W (HKE.o W hW)).2.1
   have hr0:Q0 (fun b=>b=w.heap.size+1+1) w1 w1:=Kr _ _;have hn0:Q0 nob w1 w1:=Kr _ _;go_upto_region 20 with fail
   refine wp_region_held_drew (S:=(fun W=>Q0 (fun b=>b=w.heap.size+1+1) w1 W)) Kf ?_ (fun hHeld=>?_)
   ·exact K11
   refine rtk 0 ?_;refine rtk 2 ?_;refine rtk 3 ?_;refine rtk 4 ?_;refine rtk 5 ?_
   refine rr2 1 6 (fun K hK=>?_) fun K hK=>?_
   go_simp
   refine rko hK ?_ fun hHeld=>?_
   ·exact K11
   clear hK K
   refine rr1 6 fun K hK=>?_
   go_simp
   (go_at_call 100;refine (Za _ r.ress tx _ (HR1.o _ hn0.drew).2.1).mono ?_;rintro e w4 ⟨rfl,rfl⟩;dsimp only)
   refine rko hK ?_ fun hHeld=>?_
   ·exact K11
   clear hK K
   rotate_left
   go_simp
   (go_at_call 100;refine (Za _ r.ress tx _ (HR1.o _ hn0.drew).2.1).mono ?_;rintro e w4 ⟨rfl,rfl⟩;dsimp only)
   refine rko hK ?_ fun hHeld=>?_
   ·exact K11
   clear hK K
   refine rr1 1 fun K hK=>?_
   go_simp
   refine rko hK ?_ fun hHeld=>?_
   ·exact K11
   clear hK K
   rotate_left
   all_goals
    refine rr1 7 fun K hK=>?_
    go_simp
    (go_at_call 101;refine (Xr (S:=S') _ (Zf (Zb 3 A)) (Qa r.ress tx) _ ((HI1.o.nobk hn0.drew).own 3 Dc) (HFW.o.kept hn0.drew) ((HI1.o.nobk hn0.drew).len 3 Om)).mono ?_;rintro e w5 ⟨uA,un,uc,rfl,ho,hg,hk⟩;have hb5:=((HI1.o.nobk hn0.drew)).blk.kept hk id;have c5:=hb5.cell 3 _ rfl;have f5:=hb5.free 3;have HN5:=Hh (((HI1.o.nobk hn0.drew)).add (k:=3) Dc ho hg hk);have HK5:=Hh hk;clear ho hg hk hb5;have hr5:=(hn0.drew.trans HK5.o).ofNob (fun b=>b=w.heap.size+1+1);dsimp only)
    refine rko hK ?_ fun hHeld=>?_
    ·exact K11
    clear hK K;refine rtk 8 ?_
    refine rr1 9 fun K hK=>?_
    go_simp
    refine rko hK ?_ fun hHeld=>?_
    ·exact K11
    clear hK K;refine wpAnyH_done Kf ?_ _
   all_goals go_wp2_with fail
   all_goals go_meet
   all_goals exact⟨_,by show Xm S' _ _ _ (A++J7 r t ⟨6,tx,ni,ks⟩) _ (L++if (6:Int)=7 then [tx] else []);rw[HDE.o,Ng Dc,List.append_nil];exact HN5.o,(hr5.mono (fun b _ e=>.inl e)).setCell (.inl (.inl rfl)) _,Q07.refl _ _⟩
  have t6:(kd==6)=false:=by simpa using h6
  go_upto_if 107 with fail
  by_cases h15:kd=15
  ·as_aux_lemma =>
   subst h15;have HDE:Hi (J7 r t ⟨15,tx,ni,ks⟩=[(4,Qa r.ress tx)]):=Hh (by unfold J7;simp);have x0:=HI1.o.blk.cell 4 _ rfl;have HKE:Hi (∀W,Q0 (fun b=>b=w.heap.size+1+1) w1 W→Q0 (fun b=>b=w.heap.size+1+1∨S' b) w1 W):=Hh fun W hW=>hW.mono (fun b _ e=>.inl e)
   have hx1:∀W,Q0 (fun b=>b=w.heap.size+1+1) w1 W→W.cell? ⟨w.heap.size,1,none⟩=some (.slice R1 r.ress.length e1):=fun W hW=>(HS3.o W (HW1.o W (HKE.o W hW))).1.2.1
   have hx2:∀W,Q0 (fun b=>b=w.heap.size+1+1) w1 W→W.cell? ⟨w.heap.size+4,1,none⟩=some (.string tx):=fun W hW=>(HBN.o W (HKE.o W hW)).2.1
   have hr0:Q0 (fun b=>b=w.heap.size+1+1) w1 w1:=Kr _ _;have hn0:Q0 nob w1 w1:=Kr _ _;go_upto_region 22 with fail
   refine wp_region_held_drew (S:=(fun W=>Q0 (fun b=>b=w.heap.size+1+1) w1 W)) Kf ?_ (fun hHeld=>?_)
   ·exact K11
   refine rtk 0 ?_;refine rtk 2 ?_;refine rtk 3 ?_;refine rtk 4 ?_;refine rtk 5 ?_
   refine rr2 1 6 (fun K hK=>?_) fun K hK=>?_
   go_simp
   refine rko hK ?_ fun hHeld=>?_
   ·exact K11
   clear hK K
   refine rr1 6 fun K hK=>?_
   go_simp
   (go_at_call 100;refine (Za _ r.ress tx _ (HR1.o _ hn0.drew).2.1).mono ?_;rintro e w4 ⟨rfl,rfl⟩;dsimp only)
   refine rko hK ?_ fun hHeld=>?_
   ·exact K11
   clear hK K
   rotate_left
   go_simp
   (go_at_call 100;refine (Za _ r.ress tx _ (HR1.o _ hn0.drew).2.1).mono ?_;rintro e w4 ⟨rfl,rfl⟩;dsimp only)
   refine rko hK ?_ fun hHeld=>?_
   ·exact K11
   clear hK K
   refine rr1 1 fun K hK=>?_
   go_simp
   refine rko hK ?_ fun hHeld=>?_
   ·exact K11
   clear hK K
   rotate_left
   all_goals
    refine rr1 7 fun K hK=>?_
    go_simp
    (go_at_call 101;refine (Xr (S:=S') _ (Zf (Zb 4 A)) (Qa r.ress tx) _ ((HI1.o.nobk hn0.drew).own 4 Dc) (HFW.o.kept hn0.drew) ((HI1.o.nobk hn0.drew).len 4 Om)).mono ?_;rintro e w5 ⟨uA,un,uc,rfl,ho,hg,hk⟩;have hb5:=((HI1.o.nobk hn0.drew)).blk.kept hk id;have c5:=hb5.cell 4 _ rfl;have f5:=hb5.free 4;have HN5:=Hh (((HI1.o.nobk hn0.drew)).add (k:=4) Dc ho hg hk);have HK5:=Hh hk;clear ho hg hk hb5;have hr5:=(hn0.drew.trans HK5.o).ofNob (fun b=>b=w.heap.size+1+1);dsimp only)
    refine rko hK ?_ fun hHeld=>?_
    ·exact K11
    clear hK K;refine rtk 8 ?_
    refine rr1 9 fun K hK=>?_
    go_simp
    refine rko hK ?_ fun hHeld=>?_
    ·exact K11
    clear hK K;refine wpAnyH_done Kf ?_ _
   all_goals go_wp2_with fail
   all_goals go_meet
   all_goals exact⟨_,by show Xm S' _ _ _ (A++J7 r t ⟨15,tx,ni,ks⟩) _ (L++if (15:Int)=7 then [tx] else []);rw[HDE.o,Ng Dc,List.append_nil];exact HN5.o,(hr5.mono (fun b _ e=>.inl e)).setCell (.inl (.inl rfl)) _,Q07.refl _ _⟩
  have t15:(kd==15)=false:=by simpa using h15
  go_upto_if 118 with fail
  by_cases h19:kd=19
  ·as_aux_lemma =>
   subst h19;have HDE:Hi (J7 r t ⟨19,tx,ni,ks⟩=[(5,Qa r.evts tx)]):=Hh (by unfold J7;simp);have x0:=HI1.o.blk.cell 5 _ rfl;have HKE:Hi (∀W,Q0 (fun b=>b=w.heap.size+1+1) w1 W→Q0 (fun b=>b=w.heap.size+1+1∨S' b) w1 W):=Hh fun W hW=>hW.mono (fun b _ e=>.inl e)
   have hx1:∀W,Q0 (fun b=>b=w.heap.size+1+1) w1 W→W.cell? ⟨w.heap.size,2,none⟩=some (.slice R2 r.evts.length e2):=fun W hW=>(HS3.o W (HW1.o W (HKE.o W hW))).1.2.2
   have hx2:∀W,Q0 (fun b=>b=w.heap.size+1+1) w1 W→W.cell? ⟨w.heap.size+4,1,none⟩=some (.string tx):=fun W hW=>(HBN.o W (HKE.o W hW)).2.1
   have hr0:Q0 (fun b=>b=w.heap.size+1+1) w1 w1:=Kr _ _;have hn0:Q0 nob w1 w1:=Kr _ _;go_upto_region 24 with fail
   refine wp_region_held_drew (S:=(fun W=>Q0 (fun b=>b=w.heap.size+1+1) w1 W)) Kf ?_ (fun hHeld=>?_)
   ·exact K11
   refine rtk 0 ?_;refine rtk 2 ?_;refine rtk 3 ?_;refine rtk 4 ?_;refine rtk 5 ?_
   refine rr2 1 6 (fun K hK=>?_) fun K hK=>?_
   go_simp
   refine rko hK ?_ fun hHeld=>?_
   ·exact K11
   clear hK K
   refine rr1 6 fun K hK=>?_
   go_simp
   (go_at_call 100;refine (Za _ r.evts tx _ (HR1.o _ hn0.drew).2.2).mono ?_;rintro e w4 ⟨rfl,rfl⟩;dsimp only)
   refine rko hK ?_ fun hHeld=>?_
   ·exact K11
   clear hK K
   rotate_left
   go_simp
   (go_at_call 100;refine (Za _ r.evts tx _ (HR1.o _ hn0.drew).2.2).mono ?_;rintro e w4 ⟨rfl,rfl⟩;dsimp only)
   refine rko hK ?_ fun hHeld=>?_
   ·exact K11
   clear hK K
   refine rr1 1 fun K hK=>?_
   go_simp
   refine rko hK ?_ fun hHeld=>?_
   ·exact K11
   clear hK K
   rotate_left
   all_goals
    refine rr1 7 fun K hK=>?_
    go_simp
    (go_at_call 101;refine (Xr (S:=S') _ (Zf (Zb 5 A)) (Qa r.evts tx) _ ((HI1.o.nobk hn0.drew).own 5 Dc) (HFW.o.kept hn0.drew) ((HI1.o.nobk hn0.drew).len 5 Om)).mono ?_;rintro e w5 ⟨uA,un,uc,rfl,ho,hg,hk⟩;have hb5:=((HI1.o.nobk hn0.drew)).blk.kept hk id;have c5:=hb5.cell 5 _ rfl;have f5:=hb5.free 5;have HN5:=Hh (((HI1.o.nobk hn0.drew)).add (k:=5) Dc ho hg hk);have HK5:=Hh hk;clear ho hg hk hb5;have hr5:=(hn0.drew.trans HK5.o).ofNob (fun b=>b=w.heap.size+1+1);dsimp only)
    refine rko hK ?_ fun hHeld=>?_
    ·exact K11
    clear hK K;refine rtk 8 ?_
    refine rr1 9 fun K hK=>?_
    go_simp
    refine rko hK ?_ fun hHeld=>?_
    ·exact K11
    clear hK K;refine wpAnyH_done Kf ?_ _
   all_goals go_wp2_with fail
   all_goals go_meet
   all_goals exact⟨_,by show Xm S' _ _ _ (A++J7 r t ⟨19,tx,ni,ks⟩) _ (L++if (19:Int)=7 then [tx] else []);rw[HDE.o,Ng Dc,List.append_nil];exact HN5.o,(hr5.mono (fun b _ e=>.inl e)).setCell (.inl (.inl rfl)) _,Q07.refl _ _⟩
  have t19:(kd==19)=false:=by simpa using h19
  go_upto_if 129 with fail
  by_cases h20:kd=20
  ·as_aux_lemma =>
   subst h20;have HDE:Hi (J7 r t ⟨20,tx,ni,ks⟩=[(6,Qa r.evts tx)]):=Hh (by unfold J7;simp);have x0:=HI1.o.blk.cell 6 _ rfl;have HKE:Hi (∀W,Q0 (fun b=>b=w.heap.size+1+1) w1 W→Q0 (fun b=>b=w.heap.size+1+1∨S' b) w1 W):=Hh fun W hW=>hW.mono (fun b _ e=>.inl e)
   have hx1:∀W,Q0 (fun b=>b=w.heap.size+1+1) w1 W→W.cell? ⟨w.heap.size,2,none⟩=some (.slice R2 r.evts.length e2):=fun W hW=>(HS3.o W (HW1.o W (HKE.o W hW))).1.2.2
   have hx2:∀W,Q0 (fun b=>b=w.heap.size+1+1) w1 W→W.cell? ⟨w.heap.size+4,1,none⟩=some (.string tx):=fun W hW=>(HBN.o W (HKE.o W hW)).2.1
   have hr0:Q0 (fun b=>b=w.heap.size+1+1) w1 w1:=Kr _ _;have hn0:Q0 nob w1 w1:=Kr _ _;go_upto_region 26 with fail
   refine wp_region_held_drew (S:=(fun W=>Q0 (fun b=>b=w.heap.size+1+1) w1 W)) Kf ?_ (fun hHeld=>?_)
   ·exact K11
   refine rtk 0 ?_;refine rtk 2 ?_;refine rtk 3 ?_;refine rtk 4 ?_;refine rtk 5 ?_
   refine rr2 1 6 (fun K hK=>?_) fun K hK=>?_
   go_simp
   refine rko hK ?_ fun hHeld=>?_
   ·exact K11
   clear hK K
   refine rr1 6 fun K hK=>?_
   go_simp
   (go_at_call 100;refine (Za _ r.evts tx _ (HR1.o _ hn0.drew).2.2).mono ?_;rintro e w4 ⟨rfl,rfl⟩;dsimp only)
   refine rko hK ?_ fun hHeld=>?_
   ·exact K11
   clear hK K
   rotate_left
   go_simp
   (go_at_call 100;refine (Za _ r.evts tx _ (HR1.o _ hn0.drew).2.2).mono ?_;rintro e w4 ⟨rfl,rfl⟩;dsimp only)
   refine rko hK ?_ fun hHeld=>?_
   ·exact K11
   clear hK K
   refine rr1 1 fun K hK=>?_
   go_simp
   refine rko hK ?_ fun hHeld=>?_
   ·exact K11
   clear hK K
   rotate_left
   all_goals
    refine rr1 7 fun K hK=>?_
    go_simp
    (go_at_call 101;refine (Xr (S:=S') _ (Zf (Zb 6 A)) (Qa r.evts tx) _ ((HI1.o.nobk hn0.drew).own 6 Dc) (HFW.o.kept hn0.drew) ((HI1.o.nobk hn0.drew).len 6 Om)).mono ?_;rintro e w5 ⟨uA,un,uc,rfl,ho,hg,hk⟩;have hb5:=((HI1.o.nobk hn0.drew)).blk.kept hk id;have c5:=hb5.cell 6 _ rfl;have f5:=hb5.free 6;have HN5:=Hh (((HI1.o.nobk hn0.drew)).add (k:=6) Dc ho hg hk);have HK5:=Hh hk;clear ho hg hk hb5;have hr5:=(hn0.drew.trans HK5.o).ofNob (fun b=>b=w.heap.size+1+1);dsimp only)
    refine rko hK ?_ fun hHeld=>?_
    ·exact K11
    clear hK K;refine rtk 8 ?_
    refine rr1 9 fun K hK=>?_
    go_simp
    refine rko hK ?_ fun hHeld=>?_
    ·exact K11
    clear hK K;refine wpAnyH_done Kf ?_ _
   all_goals go_wp2_with fail
   all_goals go_meet
   all_goals exact⟨_,by show Xm S' _ _ _ (A++J7 r t ⟨20,tx,ni,ks⟩) _ (L++if (20:Int)=7 then [tx] else []);rw[HDE.o,Ng Dc,List.append_nil];exact HN5.o,(hr5.mono (fun b _ e=>.inl e)).setCell (.inl (.inl rfl)) _,Q07.refl _ _⟩
  have t20:(kd==20)=false:=by simpa using h20
  by_cases h28:kd=28
  ·as_aux_lemma =>
   subst h28;have HDE:Hi (J7 r t ⟨28,tx,ni,ks⟩=[(7,Qa r.comps tx)]):=Hh (by unfold J7;simp);have x0:=HI1.o.blk.cell 7 _ rfl;go_wp2_with (go_at_call 101;refine (Xr (S:=S') _ (Zf (Zb 7 A)) (Qa r.comps tx) _ (HI1.o.own 7 Dc) HFW.o (HI1.o.len 7 Om)).mono ?_;rintro e w5 ⟨uA,un,uc,rfl,ho,hg,hk⟩;have hb5:=(HI1.o).blk.kept hk id;have c5:=hb5.cell 7 _ rfl;have f5:=hb5.free 7;have HN5:=Hh ((HI1.o).add (k:=7) Dc ho hg hk);have HK5:=Hh hk;clear ho hg hk hb5);go_meet;refine⟨_,by show Xm S' _ _ _ (A++J7 r t ⟨28,tx,ni,ks⟩) _ (L++if (28:Int)=7 then [tx] else []);rw[HDE.o,Ng Dc,List.append_nil];exact HN5.o,?_,Q07.refl _ _⟩;exact (HK5.o.ofNob _).setCell (.inl (.inl rfl)) _
  have t28:(kd==28)=false:=by simpa using h28
  by_cases h23:kd=23
  ·as_aux_lemma =>
   subst h23;have HDE:Hi (J7 r t ⟨23,tx,ni,ks⟩=[(7,Qa r.comps tx)]):=Hh (by unfold J7;simp);have x0:=HI1.o.blk.cell 7 _ rfl;go_wp2_with (go_at_call 101;refine (Xr (S:=S') _ (Zf (Zb 7 A)) (Qa r.comps tx) _ (HI1.o.own 7 Dc) HFW.o (HI1.o.len 7 Om)).mono ?_;rintro e w5 ⟨uA,un,uc,rfl,ho,hg,hk⟩;have hb5:=(HI1.o).blk.kept hk id;have c5:=hb5.cell 7 _ rfl;have f5:=hb5.free 7;have HN5:=Hh ((HI1.o).add (k:=7) Dc ho hg hk);have HK5:=Hh hk;clear ho hg hk hb5);go_meet;refine⟨_,by show Xm S' _ _ _ (A++J7 r t ⟨23,tx,ni,ks⟩) _ (L++if (23:Int)=7 then [tx] else []);rw[HDE.o,Ng Dc,List.append_nil];exact HN5.o,?_,Q07.refl _ _⟩;exact (HK5.o.ofNob _).setCell (.inl (.inl rfl)) _
  have t23:(kd==23)=false:=by simpa using h23
  by_cases h24:kd=24
  ·as_aux_lemma =>
   subst h24;have HDE:Hi (J7 r t ⟨24,tx,ni,ks⟩=[(7,Qa r.comps tx)]):=Hh (by unfold J7;simp);have x0:=HI1.o.blk.cell 7 _ rfl;go_wp2_with (go_at_call 101;refine (Xr (S:=S') _ (Zf (Zb 7 A)) (Qa r.comps tx) _ (HI1.o.own 7 Dc) HFW.o (HI1.o.len 7 Om)).mono ?_;rintro e w5 ⟨uA,un,uc,rfl,ho,hg,hk⟩;have hb5:=(HI1.o).blk.kept hk id;have c5:=hb5.cell 7 _ rfl;have f5:=hb5.free 7;have HN5:=Hh ((HI1.o).add (k:=7) Dc ho hg hk);have HK5:=Hh hk;clear ho hg hk hb5);go_meet;refine⟨_,by show Xm S' _ _ _ (A++J7 r t ⟨24,tx,ni,ks⟩) _ (L++if (24:Int)=7 then [tx] else []);rw[HDE.o,Ng Dc,List.append_nil];exact HN5.o,?_,Q07.refl _ _⟩;exact (HK5.o.ofNob _).setCell (.inl (.inl rfl)) _
  have t24:(kd==24)=false:=by simpa using h24
  go_upto_if 149 with fail
  by_cases h21:kd=21
  ·as_aux_lemma =>
   subst h21;have HDE:Hi (J7 r t ⟨21,tx,ni,ks⟩=[(8,0)]):=Hh (by unfold J7;simp);have x0:=HI1.o.blk.cell 8 _ rfl;have y0:=HI1.o.blk.free 8;go_wp2_with fail;go_meet;exact⟨_,by show Xm S' _ _ _ (A++J7 r t ⟨21,tx,ni,ks⟩) _ (L++if (21:Int)=7 then [tx] else []);rw[HDE.o,Ng Dc,List.append_nil];exact HI1.o.flag Dc,(Kr _ _).setCell (.inl (.inl rfl)) _,Q07.refl _ _⟩
  have t21:(kd==21)=false:=by simpa using h21
  go_upto_if 152 with fail
  by_cases h22:kd=22
  ·as_aux_lemma =>
   subst h22;have HDE:Hi (J7 r t ⟨22,tx,ni,ks⟩=[(9,0)]):=Hh (by unfold J7;simp);have x0:=HI1.o.blk.cell 9 _ rfl;have y0:=HI1.o.blk.free 9;go_wp2_with fail;go_meet;exact⟨_,by show Xm S' _ _ _ (A++J7 r t ⟨22,tx,ni,ks⟩) _ (L++if (22:Int)=7 then [tx] else []);rw[HDE.o,Ng Dc,List.append_nil];exact HI1.o.flag Dc,(Kr _ _).setCell (.inl (.inl rfl)) _,Q07.refl _ _⟩
  have t22:(kd==22)=false:=by simpa using h22
  go_upto_if 155 with fail
  have HDE:Hi (J7 r t ⟨kd,tx,ni,ks⟩=[]):=Hh (by unfold J7;simp[h5,h11,h14,h29,h30,h6,h15,h19,h20,h28,h23,h24,h21,h22])
  by_cases h7:kd=7
  ·subst h7
   go_wp2_with (at_builtin;refine Qt S' rfl _ _ 66 9 (.string ByteArray.empty) 16 rfl underlying66 Kf rfl (.slice lA L.length lc) (strs L) (.string tx) rfl rfl Sm rfl HI1.o.l HFW.o (by rw[Qr];omega) (by rw[Qr];omega) ?_;intro nv1 w5 Qnk hk5 Qnp;have H5:=Hh (And.intro Qnk (And.intro hk5 Qnp));clear Qnk hk5 Qnp);go_meet;exact⟨_,by show Xm S' _ _ _ (A++J7 r t ⟨7,tx,ni,ks⟩) _ (L++if (7:Int)=7 then [tx] else []);rw[HDE.o,Ps rfl,List.append_nil];exact HI1.o.call H5.o.1 H5.o.2.1 H5.o.2.2,H5.o.2.1.mono (fun b _ e=>.inr e),H5.o.2.2⟩
  ·have t7:(kd==7)=false:=by simpa using h7
   go_wp2_with fail;go_meet;exact⟨_,by show Xm S' _ _ _ (A++J7 r t ⟨kd,tx,ni,ks⟩) _ (L++if kd=7 then [tx] else []);rw[HDE.o,Ng h7,List.append_nil,List.append_nil];exact HI1.o,Kr _ _,Q07.refl _ _⟩
 case rest =>
 obtain⟨us,hI2,hk2,hg2⟩:=hcut;obtain⟨P1,N1,C1,hI2⟩:=hI2.sl;obtain⟨A1,n1,c1,rfl⟩:=hI2.l.isSlice;obtain⟨wq,rfl⟩:∃wq:World,wq=wc:=⟨_,rfl⟩;have HT2:Hi (∀W,Q0 (fun b=>b=w.heap.size+1+1∨S' b) wq W→Q0 (fun b=>b=w.heap.size+1+1∨S' b) w1 W):=Hh fun W hW=>(hk2.mono (fun b _ e=>e.elim .inl (fun e=>.inr (HIN.o.l.2 b e)))).trans hW
 have HKL:Hi (Q0 (own (.slice lA L.length lc)) w wq):=Hh (((HK0.o.trans HK1.o).ofNob _).then_ hk2 (fun b e=>e.elim (fun e=>.inr Om) .inl));have HG2:Hi (Q07 w (.slice lA L.length lc) (.slice A1 n1 c1)):=Hh (hg2.le (HK0.o.trans HK1.o).size);have HI2:=Hh hI2;have HZ2:Hi (w.heap.size+5≤wq.heap.size):=Hh (by have:=hk2.size;have:=HZ1.o;omega);clear hI2 hk2 hg2 b0 b1 b3 a0 a1 a2 a3 a4 hz1;go_wp2_with fail;go_loopw [4,16] (fun lv k wr=>∃(j:Nat) (us:Nat→Value) (Aj:List (Nat×Int)) (Lj:List ByteArray),j≤n.kids.length∧k=.int .i64 j∧Hi (Xm S' wr (w.heap.size+1+1) us Aj lv Lj∧Q0 (fun b=>b=w.heap.size+1+1∨S' b) wq wr∧Q0 (own (.slice lA L.length lc)) w wr∧Q07 w (.slice lA L.length lc) lv∧X=Aj++(n.kids.drop j).flatMap (Y4 r t f)∧Y=Lj++(n.kids.drop j).flatMap (Z0 t f))) (fun _ k _=>n.kids.length-(intOf k).toNat)
 case atStart=>exact⟨0,_,_,_,Nat.zero_le _,rfl,Hh ⟨HI2.o,Kr _ _,HKL.o,HG2.o,HXX.o,HYY.o⟩⟩
 case round =>
  obtain⟨j,us,Aj,Lj,hj,rfl,HR⟩:=hrel;obtain⟨wo,rfl⟩:∃wo:World,wo=wr:=⟨_,rfl⟩;have HRI:=Hh HR.o.1;obtain⟨P2,N2,C2,hI3⟩:=HR.o.1.sl;have HI3:=Hh hI3;obtain⟨A2,n2,c2,hl2⟩:=hI3.l.isSlice;subst hl2;have HKT:Hi (∀W,Q0 (fun b=>b=w.heap.size+1+1∨S' b) wo W→Q0 (fun b=>b=w.heap.size+1+1∨S' b) w1 W):=Hh fun W hW=>HT2.o W (HR.o.2.1.trans hW)
  have hx3:=(HBN.o wo (HKT.o wo (Kr _ _))).2.2;clear hI3 HRI
  by_cases hlt:j<n.kids.length
  ·obtain⟨k,hk⟩:=Q4 hlt
   obtain rfl:=HKA.o Om;have hjn:(j:Int)<(n.kids.length:Int):=Om
   obtain⟨hki,hkf⟩:=HKI.o k (Mg hk);have HSX:=HKT;have HXN:Hi (X=(Aj++Y4 r t f k)++(n.kids.drop (j+1)).flatMap (Y4 r t f)∧Y=(Lj++Z0 t f k)++(n.kids.drop (j+1)).flatMap (Z0 t f)):=Hh ⟨by rw[HR.o.2.2.2.2.1,Qh hk,List.flatMap_cons,List.append_assoc],by rw[HR.o.2.2.2.2.2,Qh hk,List.flatMap_cons,List.append_assoc]⟩
   have hbA:Aj.length+(Y4 r t f k).length≤16000000000000:=by
    have:=congrArg List.length HXN.o.1;rw[List.length_append,List.length_append] at this;omega
   have hbL:Lj.length+(Z0 t f k).length≤1000000000:=by
    have:=congrArg List.length HXN.o.2;rw[List.length_append,List.length_append] at this;omega
   have hFo:Jh S' wo:=HF1.o wo (by have:=HZ2.o;have:=HR.o.2.1.size;omega);have hw9:Q0 S w wo:=HT9.o _ (HW1.o _ (HKT.o _ (Kr _ _)));have hVR:Qj S' wo fun w=>Q20 w (.agg #[.slice R0 r.comps.length e0,.slice R1 r.ress.length e1,.slice R2 r.evts.length e2]) r:=(HRV.o.kept hw9).mono (fun b _ h=>(HS1.o b h).1)
   have hTB:TB S' wo t (.slice (some ⟨nb,no,none⟩) t.nodes.length nc) (.slice B t.tops.length bc):=(HT.o.kept hw9).mono (fun b _ h=>(HS1.o b h).1)
   have Qnh:Hi (∀W,Q0 nob wo W→Calls prog 65 #[.agg #[.slice R0 r.comps.length e0,.slice R1 r.ress.length e1,.slice R2 r.evts.length e2],.agg #[.slice (some ⟨nb,no,none⟩) t.nodes.length nc,.slice B t.tops.length bc],.int .i64 k,.agg #[.slice (P2 0) (N2 0) (C2 0),.slice (P2 1) (N2 1) (C2 1),.slice (P2 2) (N2 2) (C2 2),.slice (P2 3) (N2 3) (C2 3),.slice (P2 4) (N2 4) (C2 4),.slice (P2 5) (N2 5) (C2 5),.slice (P2 6) (N2 6) (C2 6),.slice (P2 7) (N2 7) (C2 7),.bool (Ju 8 Aj),.bool (Ju 9 Aj)],.slice A2 n2 c2] W fun e w'=>∃P3 N3 C3 lA3 ln3 lc3,e=.returned (.tuple #[.agg #[.slice (P3 0) (N3 0) (C3 0),.slice (P3 1) (N3 1) (C3 1),.slice (P3 2) (N3 2) (C3 2),.slice (P3 3) (N3 3) (C3 3),.slice (P3 4) (N3 4) (C3 4),.slice (P3 5) (N3 5) (C3 5),.slice (P3 6) (N3 6) (C3 6),.slice (P3 7) (N3 7) (C3 7),.bool (Ju 8 (Aj++Y4 r t f k)),.bool (Ju 9 (Aj++Y4 r t f k))],.slice lA3 ln3 lc3]) ∧
     (∀q,q<8→Qc S' 3 w' (slv P3 N3 C3 q) (Q5 (Zf (Zb q (Aj++Y4 r t f k)))))∧Qc S' 9 w' (.slice lA3 ln3 lc3) (strs (Lj++Z0 t f k))∧(∀q,q<8→sep (Value.slice lA3 ln3 lc3).ownBlock (slv P3 N3 C3 q).ownBlock)∧Q0 (own (.slice A2 n2 c2)) W w'∧Q07 W (.slice A2 n2 c2) (.slice lA3 ln3 lc3)):=Hh fun W hW =>
    HF.o S' W _ _ _ P2 N2 C2 Aj _ Lj k (hVR.kept (hW.ofNob _)) (hTB.nobk hW) (fun q hq=>(HI3.o.own q hq).nobk hW) (HI3.o.l.nobk hW) HI3.o.dis (hFo.kept hW) hki Om hbA hbL
   have hs0:∀W,Q0 (fun b=>b=w.heap.size+1+1∨S' b) wo W→W.cell? ⟨w.heap.size,0,none⟩=some (.slice R0 r.comps.length e0):=fun W hW=>(HS3.o W (HW1.o W (HSX.o W hW))).1.1
   have hs1:∀W,Q0 (fun b=>b=w.heap.size+1+1∨S' b) wo W→W.cell? ⟨w.heap.size,1,none⟩=some (.slice R1 r.ress.length e1):=fun W hW=>(HS3.o W (HW1.o W (HSX.o W hW))).1.2.1
   have hs2:∀W,Q0 (fun b=>b=w.heap.size+1+1∨S' b) wo W→W.cell? ⟨w.heap.size,2,none⟩=some (.slice R2 r.evts.length e2):=fun W hW=>(HS3.o W (HW1.o W (HSX.o W hW))).1.2.2
   have hs3:∀W,Q0 (fun b=>b=w.heap.size+1+1∨S' b) wo W→W.cell? ⟨w.heap.size+1,0,none⟩=some (.slice (some ⟨nb,no,none⟩) t.nodes.length nc):=fun W hW=>(HS3.o W (HW1.o W (HSX.o W hW))).2.1
   have hs4:∀W,Q0 (fun b=>b=w.heap.size+1+1∨S' b) wo W→W.cell? ⟨w.heap.size+1,1,none⟩=some (.slice B t.tops.length bc):=fun W hW=>(HS3.o W (HW1.o W (HSX.o W hW))).2.2
   have hs5:∀W,Q0 (fun b=>b=w.heap.size+1+1∨S' b) wo W→W.cell? ⟨w.heap.size+4,3,none⟩=some (.slice (some ⟨kb,ko,none⟩) n.kids.length kc):=fun W hW=>(HBN.o W (HSX.o W hW)).2.2
   have hs6:∀W,Q0 (fun b=>b=w.heap.size+1+1∨S' b) wo W→W.cell? ⟨kb,ko+j,none⟩=some (.int .i64 k):=fun W hW=>HKC.o j k hk W (HT9.o W (HW1.o W (HSX.o W hW)))
   obtain⟨xv0,xv1,xv2,xv3,xv4,xv5,xv6,xv7,xv8,xv9⟩:=Q5m HI3.o.blk;have hr0:Q0 (fun b=>b=w.heap.size+1+1∨S' b) wo wo:=Kr _ _;have hn0:Q0 nob wo wo:=Kr _ _;clear hk hki hkf hbA hbL hFo hw9 hVR hTB;go_upto_region 40 with fail
   clear hx3
   refine wp_region_held_drew (S:=(fun W=>Q0 (fun b=>b=w.heap.size+1+1∨S' b) wo W)) Kf ?_ (fun hHeld=>?_)
   ·(try dsimp only);(exact hr0.drew)
   refine rtk 0 ?_;refine rtk 1 ?_;refine rtk 2 ?_;refine rtk 3 ?_;refine rtk 4 ?_;refine rtk 5 ?_;refine rtk 6 ?_;refine rtk 8 ?_
   refine rr1 7 fun K hK=>?_
   go_simp
   refine rko hK ?_ fun hHeld=>?_
   ·(try dsimp only);(exact hr0.drew)
   clear hK
   refine rr1 9 fun K hK=>?_
   go_simp
   (go_at_call 65;refine (Qnh.o _ hn0.drew).mono ?_;rintro e w5 ⟨P3,N3,C3,A3,n3,c3,rfl,ho3,hl3,hd3,hk3,hg3⟩;have hkx:=(Kr S' wo).drew.trans (hk3.mono fun b _ h=>HI3.o.l.2 b h);have hkt:=hkx.mono (S':=(fun b=>b=w.heap.size+1+1∨S' b)) (fun b _ h=>.inr h);have hb5:=HI3.o.blk.kept hkx HI3.o.nS;have z0:=hb5.cell 0 _ rfl;have y0:=hb5.free 0;have z1:=hb5.cell 1 _ rfl;have y1:=hb5.free 1;have z2:=hb5.cell 2 _ rfl;have y2:=hb5.free 2;have z3:=hb5.cell 3 _ rfl;have y3:=hb5.free 3;have z4:=hb5.cell 4 _ rfl;have y4:=hb5.free 4;have z5:=hb5.cell 5 _ rfl;have y5:=hb5.free 5;have z6:=hb5.cell 6 _ rfl;have y6:=hb5.free 6;have z7:=hb5.cell 7 _ rfl;have y7:=hb5.free 7;have z8:=hb5.cell 8 _ rfl;have y8:=hb5.free 8;have z9:=hb5.cell 9 _ rfl;have y9:=hb5.free 9;have HO3:=Hh ho3;have HL3:=Hh hl3;have HD3:=Hh hd3;have HK3:=Hh hk3;have HG3:=Hh hg3;have HB5:=Hh hb5;have HKX:=Hh hkx;clear ho3 hl3 hd3 hg3 hb5;dsimp only)
   refine rko hK ?_ fun hHeld=>?_
   ·(try dsimp only);(exact hkt)
   clear hK;refine rtk 10 ?_;refine rtk 11 ?_;refine rtk 12 ?_
   refine rr1 13 fun K hK=>?_
   go_simp
   refine rko hK ?_ fun hHeld=>?_
   ·(try dsimp only);(exact Q50 hkt (.inl (.inl rfl)))
   clear hK;refine rtk 14 ?_;refine wpAnyH_done Kf ?_ _;go_wp2_with fail;go_roundw
   case rel =>
    refine⟨j+1,slv P3 N3 C3,_,_,Om,Gm,Hh ⟨HI3.o.renew HKX.o HO3.o HL3.o HD3.o (Qkp HB5.o) Xz,?_,?_,?_,HXN.o.1,HXN.o.2⟩⟩
    ·exact HR.o.2.1.trans ((HKX.o.mono (fun b _ h=>.inr h)).trans (Xz.mono (fun b _ h=>.inl h)))
    ·have h1:Q0 (own (.slice lA L.length lc)) w w5:=HR.o.2.2.1.grew HR.o.2.2.2.1 (by first|exact HK3.o|exact HK3.o.undrew)
     exact h1.then_ Xz (fun b h=>.inr Om)
    ·exact HR.o.2.2.2.1.trans (by first|exact HG3.o|exact HG3.o) HR.o.2.2.1.size
   case measure=>exact Me
  ·have hjn:¬ (j:Int)<(n.kids.length:Int):=Om
   have HXE:Hi (X=Aj∧Y=Lj):=Hh ⟨by rw[HR.o.2.2.2.2.1,Dn Om];simp,by rw[HR.o.2.2.2.2.2,Dn Om];simp⟩;have HBZ:=Hh (Qyq.o wo (HW1.o wo (HKT.o wo (Kr _ _))));have z0:=HBZ.o.cell 0 _ rfl;have y0:=HBZ.o.free 0;have z1:=HBZ.o.cell 1 _ rfl;have y1:=HBZ.o.free 1;have z2:=HBZ.o.cell 2 _ rfl;have y2:=HBZ.o.free 2;have z3:=HBZ.o.cell 3 _ rfl;have y3:=HBZ.o.free 3;have z4:=HBZ.o.cell 4 _ rfl;have y4:=HBZ.o.free 4;have z5:=HBZ.o.cell 5 _ rfl;have y5:=HBZ.o.free 5;have z6:=HBZ.o.cell 6 _ rfl;have y6:=HBZ.o.free 6;have z7:=HBZ.o.cell 7 _ rfl;have y7:=HBZ.o.free 7;have z8:=HBZ.o.cell 8 _ rfl;have y8:=HBZ.o.free 8;have z9:=HBZ.o.cell 9 _ rfl;have y9:=HBZ.o.free 9;obtain⟨x0,x1,x2,x3,x4,x5,x6,x7,x8,x9⟩:=Q5m HI3.o.blk;obtain⟨e0,e1,e2,e3,e4,e5,e6,e7,e8,e9⟩:=Qa5 HBZ.o;go_wp2_with fail;refine bodyPost_ret (v:=.tuple #[.agg #[.slice (P2 0) (N2 0) (C2 0),.slice (P2 1) (N2 1) (C2 1),.slice (P2 2) (N2 2) (C2 2),.slice (P2 3) (N2 3) (C2 3),.slice (P2 4) (N2 4) (C2 4),.slice (P2 5) (N2 5) (C2 5),.slice (P2 6) (N2 6) (C2 6),.slice (P2 7) (N2 7) (C2 7),.bool (Ju 8 Aj),.bool (Ju 9 Aj)],.slice A2 n2 c2]) (by simp[results,results65,go_sem,e0,e1,e2,e3,e4,e5,e6,e7,e8,e9]) rfl ?_;obtain⟨rfl,rfl⟩:=HXE.o;have hns:∀b,S' b→¬ b=w.heap.size+1+1+1:=fun b h e=>by have:=(HS1.o b h).2;omega
   exact⟨P2,N2,C2,A2,n2,c2,rfl,fun q hq=>((HI3.o.own q hq).kept Xz (fun b hb=>hns b ((HI3.o.own q hq).2 b hb))).mono (fun b h=>(HS1.o b h).1),(HI3.o.l.kept Xz (fun b hb=>hns b (HI3.o.l.2 b hb))).mono (fun b h=>(HS1.o b h).1),HI3.o.dis,HR.o.2.2.1.then_ Xz (fun b h=>.inr Om),HR.o.2.2.2.1⟩
theorem Qhc {r:Reg} {t:Q1} (hK:Qk t) (hsz:t.nodes.length≤4000) (hsm:Z1 t):∀f,Qjs r t f:=by
 intro f
 induction f with
 |zero=>intro S w rv nv tv P N C A lv L i _ _ _ _ _ _ hi hif;have:=hi.1;omega
 |succ f ih=>exact Qed hK hsz hsm ih
end Go.Proofs.YtkgkafjachjafaaGreat
