/- Part 48 of y_holds; no condition. -/
import Derived.Test.YtkgkafjachjafaaGreatY01
import Derived.Test.YtkgkafjachjafaaGreatY41
import Derived.Test.YtkgkafjachjafaaGreatY45
set_option linter.unusedVariables false
set_option maxHeartbeats 80000000
set_option maxRecDepth 100000
open Go Go.RowKit
namespace Go.Proofs.YtkgkafjachjafaaGreat
open Tryz
theorem K13 {p:Prop} (h:p:=by (try dsimp only);((first|exact hr5|exact hr5.setCell (.inl (.inl rfl)) _|exact hr4.alloc _|exact hr4|exact hr0.drew))):p:=h
theorem K14 {p:Prop} (h:p:=by have HXE:Hi (X=[(7,Qa r.comps tx)]):=Hh (by rw[HX.o];unfold J7;simp);have e0:=HE.o.cell 7 _ rfl;go_wp2_with (at_builtin;refine Qt S rfl _ _ 26 3 (.int .i64 0) 8 rfl underlying26 Kf rfl (.slice (P 7) (N 7) (C 7)) (Q5 (Zb 7 A)) (.int .i64 (Qa r.comps tx)) rfl rfl Sm rfl (HE.o.own 7 Dc) HF.o (by rw[Q2];have:=Zk 7 A;omega) (by rw[Q2];have:=Zk 7 A;omega) ?_;intro nv w5 ho hk hat;obtain⟨nA,nn,nc,rfl⟩:=ho.isSlice;have hb5:=HE.o.blk.kept hk (HE.o.off 7 Dc);have c5:=hb5.cell 7 _ rfl;have f5:=hb5.free 7;have HP:=Hh (HE.o.put Dc ho hk hat);have HQ:=Hh (HE.o.keptS (k:=7) Dc hk (.slice nA nn nc));clear ho hk hat hb5);go_returns;exact⟨rfl,_,by rw[HXE.o];exact HP.o,HK.o.trans HQ.o⟩):p:=h
theorem K15 {p:Prop} (h:p:=by (try dsimp only);((first|exact hq3|exact hq2|exact hq1|exact hr0.drew))):p:=h
theorem K16 {p:Prop} (h:p:=by refine Nat.le_trans (Zk _ _) ?_;have:=Q1o r t 2 ks j;rw[List.length_append];omega):p:=h
theorem Qle {S:Nat→Prop} {w:World} {eb rb ro tb tq:Nat} {vs:Nat→Value} {A:List (Nat×Int)} {r:Reg} {t:Q1} (h:Q0a S w eb vs A) (hr:Qj S w fun w=>Xa w rb ro r) (ht:Qj S w fun w=>J8 w tb tq t)
  (n:Qn) (nk:Value) (hnk:Qj S w fun w=>Qf w nk n.kids) (hk:∀k∈n.kids,InT t k) (h11:n.kind=11→n.kids≠[]) (hF:Jh S w) (hl:A.length+n.kids.length+1≤17000000000000) :
  Calls prog 102 #[.pointer (some ⟨eb,0,none⟩),.pointer (some ⟨rb,ro,none⟩),.pointer (some ⟨tb,tq,none⟩),.agg #[.int .i64 n.kind,.string n.text,.int .i64 n.i,nk]] w fun e w'=>e=.returned (.tuple #[])∧∃vs',Q0a S w' eb vs' (A++J7 r t n)∧Q0 S w w':=by
 obtain⟨P,N,C,h⟩:=h.sl;obtain⟨kd,tx,ni,ks⟩:=n;dsimp only at *;obtain⟨KA,kb,ko,kc,rfl,kl,klc,hKA,hkc⟩:=hnk.ints;obtain⟨tA,nb,no,nc,hc0,hl0,hl1,htb,hA,_,hn⟩:=ht.tree;have hk0:Q0 nob w (w.alloc (.cells #[.int .i64 kd,.string tx,.int .i64 ni,.slice KA ks.length kc] 70)):=(Kr _ _).alloc _;have hb:=Blk.new w [.int .i64 kd,.string tx,.int .i64 ni,.slice KA ks.length kc] 70;generalize hW0:w.alloc (.cells #[.int .i64 kd,.string tx,.int .i64 ni,.slice KA ks.length kc] 70)=W0 at hk0;replace hb:Blk W0 w.heap.size [.int .i64 kd,.string tx,.int .i64 ni,.slice KA ks.length kc] 70:=hW0▸hb;obtain⟨X,hX⟩:∃X,X=J7 r t ⟨kd,tx,ni,ks⟩:=⟨_,rfl⟩;have HX:=Hh hX;have HRR:=Hh (hr.kept (hk0.ofNob S));have HE0:=Hh (h.nobk hk0);have HF0:=Hh (hF.kept hk0);have HK0:=Hh (hk0.ofNob S);have HKC:=Hh hkc;have HKI:=Hh hk;have HKA:=Hh hKA;have H11:=Hh h11;have HBX:=Hh hb;have HTC:=Hh hc0;have HTA:=Hh hA;have HTN:=Hh hn;have hsn:∀W,Q0 nob W0 W→W.cell? ⟨w.heap.size,1,none⟩=some (.string tx):=fun W hW=>(hb.kept hW id).cell 1 _ rfl
 have hr0:Q0 nob W0 W0:=Kr _ _;have hlA:=hl;rw[← hX];clear hX h hr ht hnk hk hF hk0 hb hKA hkc h11 hc0 hA hn;go_enter func102,ntmps102;go_upto_region 1 with fail
 refine wp_region_held_drew (S:=(fun W=>Q0 nob W0 W)) Kf ?_ (fun hHeld=>?_)
 ·exact K15
 refine rtk 0 ?_;refine rtk 1 ?_;refine rtk 2 ?_;refine rtk 4 ?_;refine rtk 5 ?_;refine rtk 6 ?_;refine rtk 8 ?_;refine rtk 9 ?_;refine rtk 10 ?_
 refine rr1 3 fun K hK=>?_
 go_simp
 (go_at_call 126;refine (Yi rb ro r 1 tx _ (HRR.o.now.old (Q0.old hr0.drew))).mono ?_;rintro e w1 ⟨rfl,hk1⟩;have hq1:=hr0.drew.trans hk1;clear hk1;dsimp only)
 refine rko hK ?_ fun hHeld=>?_
 ·exact K15
 clear hK
 refine rr1 7 fun K hK=>?_
 go_simp
 (go_at_call 126;refine (Yi rb ro r 2 tx _ (HRR.o.now.old (Q0.old hq1))).mono ?_;rintro e w2 ⟨rfl,hk2⟩;have hq2:=hq1.trans hk2;clear hk2;dsimp only)
 refine rko hK ?_ fun hHeld=>?_
 ·exact K15
 clear hK
 refine rr1 11 fun K hK=>?_
 go_simp
 (go_at_call 126;refine (Yi rb ro r 3 tx _ (HRR.o.now.old (Q0.old hq2))).mono ?_;rintro e w3 ⟨rfl,hk3⟩;have hq3:=hq2.trans hk3;clear hk3;dsimp only)
 refine rko hK ?_ fun hHeld=>?_
 ·exact K15
 clear hK;refine rtk 12 ?_;refine rtk 13 ?_;refine rtk 14 ?_;refine wpAnyH_done Kf ?_ _;obtain⟨wo,rfl⟩:∃wo:World,wo=w3:=⟨_,rfl⟩;have HK:=Hh (HK0.o.trans (hq3.ofNob S));have HE:=Hh (HE0.o.nobk hq3);have HF:=Hh (HF0.o.kept hq3);have hbn:=HBX.o.kept hq3 id;have b0:=hbn.cell 0 _ rfl;have b3:=hbn.cell 3 _ rfl;have HQ3:=Hh hq3;clear hbn hq1 hq2 hq3 hsn hr0 hW0
 by_cases h5:kd=5
 ·subst h5
  have HXE:Hi (X=[(0,Qa r.comps tx)]):=Hh (by rw[HX.o];unfold J7;simp);have e0:=HE.o.cell 0 _ rfl;go_wp2_with (at_builtin;refine Qt S rfl _ _ 26 3 (.int .i64 0) 8 rfl underlying26 Kf rfl (.slice (P 0) (N 0) (C 0)) (Q5 (Zb 0 A)) (.int .i64 (Qa r.comps tx)) rfl rfl Sm rfl (HE.o.own 0 Dc) HF.o (by rw[Q2];have:=Zk 0 A;omega) (by rw[Q2];have:=Zk 0 A;omega) ?_;intro nv w5 ho hk hat;obtain⟨nA,nn,nc,rfl⟩:=ho.isSlice;have hb5:=HE.o.blk.kept hk (HE.o.off 0 Dc);have c5:=hb5.cell 0 _ rfl;have f5:=hb5.free 0;have HP:=Hh (HE.o.put Dc ho hk hat);have HQ:=Hh (HE.o.keptS (k:=0) Dc hk (.slice nA nn nc));clear ho hk hat hb5);go_returns;exact⟨rfl,_,by rw[HXE.o];exact HP.o,HK.o.trans HQ.o⟩
 have t5:(kd==5)=false:=by simpa using h5
 go_upto_if 41 with fail
 by_cases h11:kd=11
 ·subst h11
  obtain⟨k0,ks,rfl⟩:∃k0 ks',ks=k0::ks':=by
   cases ks with
   |nil=>exact absurd rfl (H11.o rfl)
   |cons a l=>exact⟨a,l,rfl⟩
  rw[List.length_cons] at *;obtain rfl:=(HKA.o Om).1;have hlk:(1:Int)≤((ks.length+1:Nat):Int):=Om
  have hck:(1:Int)≤(kc:Int):=Om
  obtain⟨B,hB,hB2⟩:∃B:Addr,(if kc=1 then some (⟨kb,ko,none⟩: Addr) else some ⟨kb,ko+1,none⟩)=some B∧(1<kc→B =⟨kb,ko+1,none⟩):=by
   by_cases h1:kc=1
   ·exact⟨_,Ps h1,fun h=>by omega⟩
   ·exact⟨_,Ng h1,fun _=>rfl⟩
  have HB2:=Hh hB2;clear hB2;have HXE:Hi (X=ks.map fun k=>(0,Qa r.comps (t.at k).text)):=Hh (by rw[HX.o];unfold J7;simp)
  have HCC:Hi (∀j x,ks[j]?=some x→∀W,Q0 S wo W→W.cell? ⟨kb,ko+1+j,none⟩=some (.int .i64 x)):=Hh fun j x hx W hW=>by
   have:=HKC.o (j+1) x (by simpa using hx) W (HK.o.trans hW)
   rwa [show ko+(j+1)=ko+1+j by omega] at this
  have HIN:Hi (∀k∈ks,InT t k):=Hh fun k hk=>HKI.o k (List.mem_cons_of_mem _ hk)
  have HS0:Hi (Q0a S wo eb (slv P N C) (A++Jm r t 0 ks 0)∧Q0 S wo wo):=Hh ⟨by rw[Q0m,List.append_nil];exact HE.o,Kr _ _⟩;go_wp2_with fail;go_loopw [12,47] (fun _ i wr=>∃(j:Nat) (us:Nat→Value),j≤ks.length∧i=.int .i64 j∧Hi (Q0a S wr eb us (A++Jm r t 0 ks j)∧Q0 S wo wr)) (fun _ i _=>ks.length-(intOf i).toNat)
  case atStart=>exact⟨0,_,Nat.zero_le _,rfl,HS0⟩
  case round =>
   obtain⟨j,us,hj,rfl,HR⟩:=hrel;obtain⟨wi,rfl⟩:∃wi:World,wi=wr:=⟨_,rfl⟩
   by_cases hlt:j<ks.length
   ·obtain⟨x,hx⟩:=Q4 hlt
    have HTK:=Hh (Q0x (r:=r) (t:=t) (row:=0) hx);have hin:=HIN.o x (Mg hx);have c0:=HCC.o j x hx wi HR.o.2;obtain rfl:=HB2.o Om;obtain⟨mx,rfl,hnd⟩:=Q1.at_lt hin;have hmn:(mx:Int)<t.nodes.length:=hin.2;obtain⟨kv,Qni,_⟩:=HTN.o mx _ hnd;obtain⟨rfl,_⟩:=HTA.o Om;obtain⟨P',N',C',hO⟩:=HR.o.1.sl;have HO:=Hh hO;have HKR:=Hh (HK.o.trans HR.o.2);obtain⟨nd,Qoh⟩:∃nd,nd=t.at (mx:Int):=⟨_,rfl⟩;rw[← Qoh] at Qni;have HTX:=Hh Qni;have HND:Hi (A++Jm r t 0 ks (j+1)=(A++Jm r t 0 ks j)++[(0,Qa r.comps nd.text)]):=Hh (by rw[HTK.o,List.append_assoc,Qoh])
    have Qpb:(Zb 0 (A++Jm r t 0 ks j)).length≤A.length+ks.length:=by
     refine Nat.le_trans (Zk _ _) ?_;have:=Q1o r t 0 ks j;rw[List.length_append];omega
    generalize A++Jm r t 0 ks j=Aj at *;have hjn:(j:Int)<(ks.length:Int):=Om
    have hE0:wi.cell? ⟨eb,0,none⟩=some (.slice (P' 0) (N' 0) (C' 0)):=HO.o.cell 0 _ rfl;have HWS:Hi (∀W,Q0 (fun b=>b=eb∨(slv P' N' C' 0).ownBlock=some b) wi W→Q0 S w W):=Hh fun W hW=>HKR.o.trans (hW.mono fun b _ e=>e.elim (fun e=>by rw[e];exact HO.o.inS) (fun e=>(HO.o.own 0 Dc).2 b e))
    have hT0:∀W,Q0 (fun b=>b=eb∨(slv P' N' C' 0).ownBlock=some b) wi W→W.cell? ⟨tb,tq,none⟩=some (.slice (some ⟨nb,no,none⟩) t.nodes.length nc):=fun W hW=>HTC.o W (HWS.o W hW)
    have hT1:∀W,Q0 (fun b=>b=eb∨(slv P' N' C' 0).ownBlock=some b) wi W→W.cell? ⟨nb,no+mx*4+1,none⟩=some (.string nd.text):=fun W hW=>(HTX.o W (HWS.o W hW)).2.1
    have hr0:Q0 (fun b=>b=eb∨(slv P' N' C' 0).ownBlock=some b) wi wi:=Kr _ _;have hn0:Q0 nob wi wi:=Kr _ _;have HRW:Hi (∀W,Q0 nob wi W→Xa W rb ro r):=Hh fun W hW=>HRR.o W (((HQ3.o.ofNob S).trans HR.o.2).trans (hW.ofNob S))
    clear hx hnd Qoh Qni hin HTK hO;go_upto_region 9 with fail
    refine wp_region_held_drew (S:=(fun W=>Q0 (fun b=>b=eb∨(slv P' N' C' 0).ownBlock=some b) wi W)) Kf ?_ (fun hHeld=>?_)
    ·exact K13
    refine rtk 0 ?_;refine rtk 1 ?_;refine rtk 2 ?_;refine rtk 3 ?_;refine rtk 5 ?_;refine rtk 6 ?_;refine rtk 7 ?_;refine rtk 8 ?_;refine rtk 9 ?_;refine rtk 10 ?_;refine rtk 11 ?_;refine rtk 12 ?_;refine rtk 13 ?_
    refine rr2 4 14 (fun K hK=>?_) fun K hK=>?_
    go_simp
    refine rko hK ?_ fun hHeld=>?_
    ·exact K13
    clear hK K
    refine rr1 14 fun K hK=>?_
    go_simp
    (go_at_call 126;refine (Yi rb ro r 1 nd.text _ (HRW.o _ hn0.drew)).mono ?_;rintro e w4 ⟨rfl,hk4⟩;have hn4:=hn0.drew.trans hk4;have hr4:=hn4.ofNob (fun b=>b=eb∨(slv P' N' C' 0).ownBlock=some b);have x4:w4.cell? ⟨eb,0,none⟩=some (.slice (P' 0) (N' 0) (C' 0)):=(HO.o.nobk hn4).cell 0 _ rfl;have x6:(w4.alloc (.cells #[.int .i64 (r.find 1 nd.text)] 3 (0,0))).cell? ⟨eb,0,none⟩=some (.slice (P' 0) (N' 0) (C' 0)):=(HO.o.nobk (hn4.alloc _)).cell 0 _ rfl;clear hk4;dsimp only)
    refine rko hK ?_ fun hHeld=>?_
    ·exact K13
    clear hK K
    refine rr1 15 fun K hK=>?_
    go_simp
    refine rko hK ?_ fun hHeld=>?_
    ·exact K13
    clear hK K
    rotate_left
    go_simp
    (go_at_call 126;refine (Yi rb ro r 1 nd.text _ (HRW.o _ hn0.drew)).mono ?_;rintro e w4 ⟨rfl,hk4⟩;have hn4:=hn0.drew.trans hk4;have hr4:=hn4.ofNob (fun b=>b=eb∨(slv P' N' C' 0).ownBlock=some b);have x4:w4.cell? ⟨eb,0,none⟩=some (.slice (P' 0) (N' 0) (C' 0)):=(HO.o.nobk hn4).cell 0 _ rfl;have x6:(w4.alloc (.cells #[.int .i64 (r.find 1 nd.text)] 3 (0,0))).cell? ⟨eb,0,none⟩=some (.slice (P' 0) (N' 0) (C' 0)):=(HO.o.nobk (hn4.alloc _)).cell 0 _ rfl;clear hk4;dsimp only)
    refine rko hK ?_ fun hHeld=>?_
    ·exact K13
    clear hK K
    refine rr2 4 15 (fun K hK=>?_) fun K hK=>?_
    go_simp
    refine rko hK ?_ fun hHeld=>?_
    ·exact K13
    clear hK K
    refine rr1 15 fun K hK=>?_
    go_simp
    refine rko hK ?_ fun hHeld=>?_
    ·exact K13
    clear hK K
    rotate_left
    go_simp
    refine rko hK ?_ fun hHeld=>?_
    ·exact K13
    clear hK K
    refine rr1 4 fun K hK=>?_
    go_simp
    refine rko hK ?_ fun hHeld=>?_
    ·exact K13
    clear hK K
    rotate_left
    all_goals
     refine rr1 16 fun K hK=>?_
     (refine Q54 S _ _ 26 3 (.int .i64 0) 8 rfl underlying26 Kf rfl (.slice (P' 0) (N' 0) (C' 0)) (Q5 (Zb 0 Aj)) (.int .i64 (Qa r.comps nd.text)) rfl _ rfl (Jv rfl Sm) rfl ((HO.o.own 0 Dc).nobk (hn4.alloc _)) (((HF.o.kept HR.o.2).kept hn4).alloc _) (by rw[Q2];omega) (by rw[Q2];omega) ?_;intro nv w5 ho hk hat;obtain⟨nA,nn,nc',rfl⟩:=ho.isSlice;have hO5:=HO.o.nobk (hn4.alloc (.cells #[.int .i64 (Qa r.comps nd.text)] 3 (0,0)));have hb5:=hO5.blk.kept hk (hO5.off 0 Dc);have c5:=hb5.cell 0 _ rfl;have f5:=hb5.free 0;have hr5:=(hr4.alloc (.cells #[.int .i64 (Qa r.comps nd.text)] 3 (0,0))).trans (hk.mono (S':=fun b=>b=eb∨(slv P' N' C' 0).ownBlock=some b) (fun b _ e=>.inr e));have HP:=Hh (hO5.put Dc ho hk hat);have HQ:=Hh (((hn4.alloc (.cells #[.int .i64 (Qa r.comps nd.text)] 3 (0,0))).ofNob S).trans (hO5.keptS (k:=0) Dc hk (.slice nA nn nc')));clear ho hk hat hb5 hO5;(try dsimp only))
     refine rko hK ?_ fun hHeld=>?_
     ·exact K13
     clear hK K;refine rtk 17 ?_;refine rtk 18 ?_
     refine rr1 19 fun K hK=>?_
     go_simp
     refine rko hK ?_ fun hHeld=>?_
     ·exact K13
     clear hK K;refine wpAnyH_done Kf ?_ _
    all_goals go_wp2_with fail
    all_goals go_roundw
    all_goals first
     |exact⟨j+1,upd (slv P' N' C') 0 (.slice nA nn nc'),Om,Gm,Hh ⟨by rw[HND.o];exact HP.o,HR.o.2.trans HQ.o⟩⟩
     |exact⟨j+1,Om,Gm,upd (slv P' N' C') 0 (.slice nA nn nc'),Hh ⟨by rw[HND.o];exact HP.o,HR.o.2.trans HQ.o⟩⟩
     |(simp[intOf];omega)
   ·have hjn:¬ (j:Int)<(ks.length:Int):=Om
    obtain rfl:j=ks.length:=Om
    go_wp2_with fail;go_returns
    first|refine⟨rfl,⟨us,?_⟩,HK.o.trans HR.o.2⟩|refine⟨rfl,us,?_,HK.o.trans HR.o.2⟩
    rw[HXE.o];rw[← Q1g r t 0 ks (Nat.le_refl _)];exact HR.o.1
 have t11:(kd==11)=false:=by simpa using h11
 go_upto_if 71 with fail
 by_cases h14:kd=14
 ·subst h14
  have HXE:Hi (X=[(1,Qa r.comps tx)]):=Hh (by rw[HX.o];unfold J7;simp);have e0:=HE.o.cell 1 _ rfl;go_wp2_with (at_builtin;refine Qt S rfl _ _ 26 3 (.int .i64 0) 8 rfl underlying26 Kf rfl (.slice (P 1) (N 1) (C 1)) (Q5 (Zb 1 A)) (.int .i64 (Qa r.comps tx)) rfl rfl Sm rfl (HE.o.own 1 Dc) HF.o (by rw[Q2];have:=Zk 1 A;omega) (by rw[Q2];have:=Zk 1 A;omega) ?_;intro nv w5 ho hk hat;obtain⟨nA,nn,nc,rfl⟩:=ho.isSlice;have hb5:=HE.o.blk.kept hk (HE.o.off 1 Dc);have c5:=hb5.cell 1 _ rfl;have f5:=hb5.free 1;have HP:=Hh (HE.o.put Dc ho hk hat);have HQ:=Hh (HE.o.keptS (k:=1) Dc hk (.slice nA nn nc));clear ho hk hat hb5);go_returns;exact⟨rfl,_,by rw[HXE.o];exact HP.o,HK.o.trans HQ.o⟩
 have t14:(kd==14)=false:=by simpa using h14
 by_cases h29:kd=29
 ·subst h29
  have HXE:Hi (X=ks.map fun k=>(2,Qa r.comps (t.at k).text)):=Hh (by rw[HX.o];unfold J7;simp);have HCC:Hi (∀j x,ks[j]?=some x→∀W,Q0 S wo W→W.cell? ⟨kb,ko+j,none⟩=some (.int .i64 x)):=Hh fun j x hx W hW=>HKC.o j x hx W (HK.o.trans hW)
  have HIN:Hi (∀k∈ks,InT t k):=Hh HKI.o;have HS0:Hi (Q0a S wo eb (slv P N C) (A++Jm r t 2 ks 0)∧Q0 S wo wo):=Hh ⟨by rw[Q0m,List.append_nil];exact HE.o,Kr _ _⟩;go_wp2_with fail;go_loopw [14,89] (fun _ i wr=>∃(j:Nat) (us:Nat→Value),j≤ks.length∧i=.int .i64 j∧Hi (Q0a S wr eb us (A++Jm r t 2 ks j)∧Q0 S wo wr)) (fun _ i _=>ks.length-(intOf i).toNat)
  case atStart=>exact⟨0,_,Nat.zero_le _,rfl,HS0⟩
  case round =>
   obtain⟨j,us,hj,rfl,HR⟩:=hrel;obtain⟨wi,rfl⟩:∃wi:World,wi=wr:=⟨_,rfl⟩
   by_cases hlt:j<ks.length
   ·obtain⟨x,hx⟩:=Q4 hlt
    have HTK:=Hh (Q0x (r:=r) (t:=t) (row:=2) hx);have hin:=HIN.o x (Mg hx);have c0:=HCC.o j x hx wi HR.o.2;obtain rfl:=(HKA.o Om).1;obtain⟨mx,rfl,hnd⟩:=Q1.at_lt hin;have hmn:(mx:Int)<t.nodes.length:=hin.2;obtain⟨kv,Qni,_⟩:=HTN.o mx _ hnd;obtain⟨rfl,_⟩:=HTA.o Om;obtain⟨P',N',C',hO⟩:=HR.o.1.sl;have HO:=Hh hO;have HKR:=Hh (HK.o.trans HR.o.2);obtain⟨nd,Qoh⟩:∃nd,nd=t.at (mx:Int):=⟨_,rfl⟩;rw[← Qoh] at Qni;have HTX:=Hh Qni;have HND:Hi (A++Jm r t 2 ks (j+1)=(A++Jm r t 2 ks j)++[(2,Qa r.comps nd.text)]):=Hh (by rw[HTK.o,List.append_assoc,Qoh])
    have Qpb:(Zb 2 (A++Jm r t 2 ks j)).length≤A.length+ks.length:=by
     exact K16
    generalize A++Jm r t 2 ks j=Aj at *;have hjn:(j:Int)<(ks.length:Int):=Om
    have hE0:wi.cell? ⟨eb,2,none⟩=some (.slice (P' 2) (N' 2) (C' 2)):=HO.o.cell 2 _ rfl;have HWS:Hi (∀W,Q0 (fun b=>b=eb∨(slv P' N' C' 2).ownBlock=some b) wi W→Q0 S w W):=Hh fun W hW=>HKR.o.trans (hW.mono fun b _ e=>e.elim (fun e=>by rw[e];exact HO.o.inS) (fun e=>(HO.o.own 2 Dc).2 b e))
    have hT0:∀W,Q0 (fun b=>b=eb∨(slv P' N' C' 2).ownBlock=some b) wi W→W.cell? ⟨tb,tq,none⟩=some (.slice (some ⟨nb,no,none⟩) t.nodes.length nc):=fun W hW=>HTC.o W (HWS.o W hW)
    have hT1:∀W,Q0 (fun b=>b=eb∨(slv P' N' C' 2).ownBlock=some b) wi W→W.cell? ⟨nb,no+mx*4+1,none⟩=some (.string nd.text):=fun W hW=>(HTX.o W (HWS.o W hW)).2.1
    have hr0:Q0 (fun b=>b=eb∨(slv P' N' C' 2).ownBlock=some b) wi wi:=Kr _ _;have hn0:Q0 nob wi wi:=Kr _ _;have HRW:Hi (∀W,Q0 nob wi W→Xa W rb ro r):=Hh fun W hW=>HRR.o W (((HQ3.o.ofNob S).trans HR.o.2).trans (hW.ofNob S))
    clear hx hnd Qoh Qni hin HTK hO;go_upto_region 18 with fail
    refine wp_region_held_drew (S:=(fun W=>Q0 (fun b=>b=eb∨(slv P' N' C' 2).ownBlock=some b) wi W)) Kf ?_ (fun hHeld=>?_)
    ·exact K13
    refine rtk 0 ?_;refine rtk 1 ?_;refine rtk 2 ?_;refine rtk 3 ?_;refine rtk 5 ?_;refine rtk 6 ?_;refine rtk 7 ?_;refine rtk 8 ?_;refine rtk 9 ?_;refine rtk 10 ?_;refine rtk 11 ?_;refine rtk 12 ?_;refine rtk 13 ?_
    refine rr2 4 14 (fun K hK=>?_) fun K hK=>?_
    go_simp
    refine rko hK ?_ fun hHeld=>?_
    ·exact K13
    clear hK K
    refine rr1 14 fun K hK=>?_
    go_simp
    (go_at_call 126;refine (Yi rb ro r 1 nd.text _ (HRW.o _ hn0.drew)).mono ?_;rintro e w4 ⟨rfl,hk4⟩;have hn4:=hn0.drew.trans hk4;have hr4:=hn4.ofNob (fun b=>b=eb∨(slv P' N' C' 2).ownBlock=some b);have x4:w4.cell? ⟨eb,2,none⟩=some (.slice (P' 2) (N' 2) (C' 2)):=(HO.o.nobk hn4).cell 2 _ rfl;have x6:(w4.alloc (.cells #[.int .i64 (r.find 1 nd.text)] 3 (0,0))).cell? ⟨eb,2,none⟩=some (.slice (P' 2) (N' 2) (C' 2)):=(HO.o.nobk (hn4.alloc _)).cell 2 _ rfl;clear hk4;dsimp only)
    refine rko hK ?_ fun hHeld=>?_
    ·exact K13
    clear hK K
    refine rr1 15 fun K hK=>?_
    go_simp
    refine rko hK ?_ fun hHeld=>?_
    ·exact K13
    clear hK K
    rotate_left
    go_simp
    (go_at_call 126;refine (Yi rb ro r 1 nd.text _ (HRW.o _ hn0.drew)).mono ?_;rintro e w4 ⟨rfl,hk4⟩;have hn4:=hn0.drew.trans hk4;have hr4:=hn4.ofNob (fun b=>b=eb∨(slv P' N' C' 2).ownBlock=some b);have x4:w4.cell? ⟨eb,2,none⟩=some (.slice (P' 2) (N' 2) (C' 2)):=(HO.o.nobk hn4).cell 2 _ rfl;have x6:(w4.alloc (.cells #[.int .i64 (r.find 1 nd.text)] 3 (0,0))).cell? ⟨eb,2,none⟩=some (.slice (P' 2) (N' 2) (C' 2)):=(HO.o.nobk (hn4.alloc _)).cell 2 _ rfl;clear hk4;dsimp only)
    refine rko hK ?_ fun hHeld=>?_
    ·exact K13
    clear hK K
    refine rr2 4 15 (fun K hK=>?_) fun K hK=>?_
    go_simp
    refine rko hK ?_ fun hHeld=>?_
    ·exact K13
    clear hK K
    refine rr1 15 fun K hK=>?_
    go_simp
    refine rko hK ?_ fun hHeld=>?_
    ·exact K13
    clear hK K
    rotate_left
    go_simp
    refine rko hK ?_ fun hHeld=>?_
    ·exact K13
    clear hK K
    refine rr1 4 fun K hK=>?_
    go_simp
    refine rko hK ?_ fun hHeld=>?_
    ·exact K13
    clear hK K
    rotate_left
    all_goals
     refine rr1 16 fun K hK=>?_
     (refine Q54 S _ _ 26 3 (.int .i64 0) 8 rfl underlying26 Kf rfl (.slice (P' 2) (N' 2) (C' 2)) (Q5 (Zb 2 Aj)) (.int .i64 (Qa r.comps nd.text)) rfl _ rfl (Jv rfl Sm) rfl ((HO.o.own 2 Dc).nobk (hn4.alloc _)) (((HF.o.kept HR.o.2).kept hn4).alloc _) (by rw[Q2];omega) (by rw[Q2];omega) ?_;intro nv w5 ho hk hat;obtain⟨nA,nn,nc',rfl⟩:=ho.isSlice;have hO5:=HO.o.nobk (hn4.alloc (.cells #[.int .i64 (Qa r.comps nd.text)] 3 (0,0)));have hb5:=hO5.blk.kept hk (hO5.off 2 Dc);have c5:=hb5.cell 2 _ rfl;have f5:=hb5.free 2;have hr5:=(hr4.alloc (.cells #[.int .i64 (Qa r.comps nd.text)] 3 (0,0))).trans (hk.mono (S':=fun b=>b=eb∨(slv P' N' C' 2).ownBlock=some b) (fun b _ e=>.inr e));have HP:=Hh (hO5.put Dc ho hk hat);have HQ:=Hh (((hn4.alloc (.cells #[.int .i64 (Qa r.comps nd.text)] 3 (0,0))).ofNob S).trans (hO5.keptS (k:=2) Dc hk (.slice nA nn nc')));clear ho hk hat hb5 hO5;(try dsimp only))
     refine rko hK ?_ fun hHeld=>?_
     ·exact K13
     clear hK K;refine rtk 17 ?_;refine rtk 18 ?_
     refine rr1 19 fun K hK=>?_
     go_simp
     refine rko hK ?_ fun hHeld=>?_
     ·exact K13
     clear hK K;refine wpAnyH_done Kf ?_ _
    all_goals go_wp2_with fail
    all_goals go_roundw
    all_goals first
     |exact⟨j+1,upd (slv P' N' C') 2 (.slice nA nn nc'),Om,Gm,Hh ⟨by rw[HND.o];exact HP.o,HR.o.2.trans HQ.o⟩⟩
     |exact⟨j+1,Om,Gm,upd (slv P' N' C') 2 (.slice nA nn nc'),Hh ⟨by rw[HND.o];exact HP.o,HR.o.2.trans HQ.o⟩⟩
     |(simp[intOf];omega)
   ·have hjn:¬ (j:Int)<(ks.length:Int):=Om
    obtain rfl:j=ks.length:=Om
    go_wp2_with fail;go_returns
    first|refine⟨rfl,⟨us,?_⟩,HK.o.trans HR.o.2⟩|refine⟨rfl,us,?_,HK.o.trans HR.o.2⟩
    rw[HXE.o];rw[← Q1g r t 2 ks (Nat.le_refl _)];exact HR.o.1
 have t29:(kd==29)=false:=by simpa using h29
 by_cases h30:kd=30
 ·subst h30
  have HXE:Hi (X=ks.map fun k=>(2,Qa r.comps (t.at k).text)):=Hh (by rw[HX.o];unfold J7;simp);have HCC:Hi (∀j x,ks[j]?=some x→∀W,Q0 S wo W→W.cell? ⟨kb,ko+j,none⟩=some (.int .i64 x)):=Hh fun j x hx W hW=>HKC.o j x hx W (HK.o.trans hW)
  have HIN:Hi (∀k∈ks,InT t k):=Hh HKI.o;have HS0:Hi (Q0a S wo eb (slv P N C) (A++Jm r t 2 ks 0)∧Q0 S wo wo):=Hh ⟨by rw[Q0m,List.append_nil];exact HE.o,Kr _ _⟩;go_wp2_with fail;go_loopw [14,89] (fun _ i wr=>∃(j:Nat) (us:Nat→Value),j≤ks.length∧i=.int .i64 j∧Hi (Q0a S wr eb us (A++Jm r t 2 ks j)∧Q0 S wo wr)) (fun _ i _=>ks.length-(intOf i).toNat)
  case atStart=>exact⟨0,_,Nat.zero_le _,rfl,HS0⟩
  case round =>
   obtain⟨j,us,hj,rfl,HR⟩:=hrel;obtain⟨wi,rfl⟩:∃wi:World,wi=wr:=⟨_,rfl⟩
   by_cases hlt:j<ks.length
   ·obtain⟨x,hx⟩:=Q4 hlt
    have HTK:=Hh (Q0x (r:=r) (t:=t) (row:=2) hx);have hin:=HIN.o x (Mg hx);have c0:=HCC.o j x hx wi HR.o.2;obtain rfl:=(HKA.o Om).1;obtain⟨mx,rfl,hnd⟩:=Q1.at_lt hin;have hmn:(mx:Int)<t.nodes.length:=hin.2;obtain⟨kv,Qni,_⟩:=HTN.o mx _ hnd;obtain⟨rfl,_⟩:=HTA.o Om;obtain⟨P',N',C',hO⟩:=HR.o.1.sl;have HO:=Hh hO;have HKR:=Hh (HK.o.trans HR.o.2);obtain⟨nd,Qoh⟩:∃nd,nd=t.at (mx:Int):=⟨_,rfl⟩;rw[← Qoh] at Qni;have HTX:=Hh Qni;have HND:Hi (A++Jm r t 2 ks (j+1)=(A++Jm r t 2 ks j)++[(2,Qa r.comps nd.text)]):=Hh (by rw[HTK.o,List.append_assoc,Qoh])
    have Qpb:(Zb 2 (A++Jm r t 2 ks j)).length≤A.length+ks.length:=by
     exact K16
    generalize A++Jm r t 2 ks j=Aj at *;have hjn:(j:Int)<(ks.length:Int):=Om
    have hE0:wi.cell? ⟨eb,2,none⟩=some (.slice (P' 2) (N' 2) (C' 2)):=HO.o.cell 2 _ rfl;have HWS:Hi (∀W,Q0 (fun b=>b=eb∨(slv P' N' C' 2).ownBlock=some b) wi W→Q0 S w W):=Hh fun W hW=>HKR.o.trans (hW.mono fun b _ e=>e.elim (fun e=>by rw[e];exact HO.o.inS) (fun e=>(HO.o.own 2 Dc).2 b e))
    have hT0:∀W,Q0 (fun b=>b=eb∨(slv P' N' C' 2).ownBlock=some b) wi W→W.cell? ⟨tb,tq,none⟩=some (.slice (some ⟨nb,no,none⟩) t.nodes.length nc):=fun W hW=>HTC.o W (HWS.o W hW)
    have hT1:∀W,Q0 (fun b=>b=eb∨(slv P' N' C' 2).ownBlock=some b) wi W→W.cell? ⟨nb,no+mx*4+1,none⟩=some (.string nd.text):=fun W hW=>(HTX.o W (HWS.o W hW)).2.1
    have hr0:Q0 (fun b=>b=eb∨(slv P' N' C' 2).ownBlock=some b) wi wi:=Kr _ _;have hn0:Q0 nob wi wi:=Kr _ _;have HRW:Hi (∀W,Q0 nob wi W→Xa W rb ro r):=Hh fun W hW=>HRR.o W (((HQ3.o.ofNob S).trans HR.o.2).trans (hW.ofNob S))
    clear hx hnd Qoh Qni hin HTK hO;go_upto_region 18 with fail
    refine wp_region_held_drew (S:=(fun W=>Q0 (fun b=>b=eb∨(slv P' N' C' 2).ownBlock=some b) wi W)) Kf ?_ (fun hHeld=>?_)
    ·exact K13
    refine rtk 0 ?_;refine rtk 1 ?_;refine rtk 2 ?_;refine rtk 3 ?_;refine rtk 5 ?_;refine rtk 6 ?_;refine rtk 7 ?_;refine rtk 8 ?_;refine rtk 9 ?_;refine rtk 10 ?_;refine rtk 11 ?_;refine rtk 12 ?_;refine rtk 13 ?_
    refine rr2 4 14 (fun K hK=>?_) fun K hK=>?_
    go_simp
    refine rko hK ?_ fun hHeld=>?_
    ·exact K13
    clear hK K
    refine rr1 14 fun K hK=>?_
    go_simp
    (go_at_call 126;refine (Yi rb ro r 1 nd.text _ (HRW.o _ hn0.drew)).mono ?_;rintro e w4 ⟨rfl,hk4⟩;have hn4:=hn0.drew.trans hk4;have hr4:=hn4.ofNob (fun b=>b=eb∨(slv P' N' C' 2).ownBlock=some b);have x4:w4.cell? ⟨eb,2,none⟩=some (.slice (P' 2) (N' 2) (C' 2)):=(HO.o.nobk hn4).cell 2 _ rfl;have x6:(w4.alloc (.cells #[.int .i64 (r.find 1 nd.text)] 3 (0,0))).cell? ⟨eb,2,none⟩=some (.slice (P' 2) (N' 2) (C' 2)):=(HO.o.nobk (hn4.alloc _)).cell 2 _ rfl;clear hk4;dsimp only)
    refine rko hK ?_ fun hHeld=>?_
    ·exact K13
    clear hK K
    refine rr1 15 fun K hK=>?_
    go_simp
    refine rko hK ?_ fun hHeld=>?_
    ·exact K13
    clear hK K
    rotate_left
    go_simp
    (go_at_call 126;refine (Yi rb ro r 1 nd.text _ (HRW.o _ hn0.drew)).mono ?_;rintro e w4 ⟨rfl,hk4⟩;have hn4:=hn0.drew.trans hk4;have hr4:=hn4.ofNob (fun b=>b=eb∨(slv P' N' C' 2).ownBlock=some b);have x4:w4.cell? ⟨eb,2,none⟩=some (.slice (P' 2) (N' 2) (C' 2)):=(HO.o.nobk hn4).cell 2 _ rfl;have x6:(w4.alloc (.cells #[.int .i64 (r.find 1 nd.text)] 3 (0,0))).cell? ⟨eb,2,none⟩=some (.slice (P' 2) (N' 2) (C' 2)):=(HO.o.nobk (hn4.alloc _)).cell 2 _ rfl;clear hk4;dsimp only)
    refine rko hK ?_ fun hHeld=>?_
    ·exact K13
    clear hK K
    refine rr2 4 15 (fun K hK=>?_) fun K hK=>?_
    go_simp
    refine rko hK ?_ fun hHeld=>?_
    ·exact K13
    clear hK K
    refine rr1 15 fun K hK=>?_
    go_simp
    refine rko hK ?_ fun hHeld=>?_
    ·exact K13
    clear hK K
    rotate_left
    go_simp
    refine rko hK ?_ fun hHeld=>?_
    ·exact K13
    clear hK K
    refine rr1 4 fun K hK=>?_
    go_simp
    refine rko hK ?_ fun hHeld=>?_
    ·exact K13
    clear hK K
    rotate_left
    all_goals
     refine rr1 16 fun K hK=>?_
     (refine Q54 S _ _ 26 3 (.int .i64 0) 8 rfl underlying26 Kf rfl (.slice (P' 2) (N' 2) (C' 2)) (Q5 (Zb 2 Aj)) (.int .i64 (Qa r.comps nd.text)) rfl _ rfl (Jv rfl Sm) rfl ((HO.o.own 2 Dc).nobk (hn4.alloc _)) (((HF.o.kept HR.o.2).kept hn4).alloc _) (by rw[Q2];omega) (by rw[Q2];omega) ?_;intro nv w5 ho hk hat;obtain⟨nA,nn,nc',rfl⟩:=ho.isSlice;have hO5:=HO.o.nobk (hn4.alloc (.cells #[.int .i64 (Qa r.comps nd.text)] 3 (0,0)));have hb5:=hO5.blk.kept hk (hO5.off 2 Dc);have c5:=hb5.cell 2 _ rfl;have f5:=hb5.free 2;have hr5:=(hr4.alloc (.cells #[.int .i64 (Qa r.comps nd.text)] 3 (0,0))).trans (hk.mono (S':=fun b=>b=eb∨(slv P' N' C' 2).ownBlock=some b) (fun b _ e=>.inr e));have HP:=Hh (hO5.put Dc ho hk hat);have HQ:=Hh (((hn4.alloc (.cells #[.int .i64 (Qa r.comps nd.text)] 3 (0,0))).ofNob S).trans (hO5.keptS (k:=2) Dc hk (.slice nA nn nc')));clear ho hk hat hb5 hO5;(try dsimp only))
     refine rko hK ?_ fun hHeld=>?_
     ·exact K13
     clear hK K;refine rtk 17 ?_;refine rtk 18 ?_
     refine rr1 19 fun K hK=>?_
     go_simp
     refine rko hK ?_ fun hHeld=>?_
     ·exact K13
     clear hK K;refine wpAnyH_done Kf ?_ _
    all_goals go_wp2_with fail
    all_goals go_roundw
    all_goals first
     |exact⟨j+1,upd (slv P' N' C') 2 (.slice nA nn nc'),Om,Gm,Hh ⟨by rw[HND.o];exact HP.o,HR.o.2.trans HQ.o⟩⟩
     |exact⟨j+1,Om,Gm,upd (slv P' N' C') 2 (.slice nA nn nc'),Hh ⟨by rw[HND.o];exact HP.o,HR.o.2.trans HQ.o⟩⟩
     |(simp[intOf];omega)
   ·have hjn:¬ (j:Int)<(ks.length:Int):=Om
    obtain rfl:j=ks.length:=Om
    go_wp2_with fail;go_returns
    first|refine⟨rfl,⟨us,?_⟩,HK.o.trans HR.o.2⟩|refine⟨rfl,us,?_,HK.o.trans HR.o.2⟩
    rw[HXE.o];rw[← Q1g r t 2 ks (Nat.le_refl _)];exact HR.o.1
 have t30:(kd==30)=false:=by simpa using h30
 go_upto_if 113 with fail
 by_cases h6:kd=6
 ·subst h6
  have HXE:Hi (X=[(3,Qa r.ress tx)]):=Hh (by rw[HX.o];unfold J7;simp);have e0:=HE.o.cell 3 _ rfl;go_wp2_with (at_builtin;refine Qt S rfl _ _ 26 3 (.int .i64 0) 8 rfl underlying26 Kf rfl (.slice (P 3) (N 3) (C 3)) (Q5 (Zb 3 A)) (.int .i64 (Qa r.ress tx)) rfl rfl Sm rfl (HE.o.own 3 Dc) HF.o (by rw[Q2];have:=Zk 3 A;omega) (by rw[Q2];have:=Zk 3 A;omega) ?_;intro nv w5 ho hk hat;obtain⟨nA,nn,nc,rfl⟩:=ho.isSlice;have hb5:=HE.o.blk.kept hk (HE.o.off 3 Dc);have c5:=hb5.cell 3 _ rfl;have f5:=hb5.free 3;have HP:=Hh (HE.o.put Dc ho hk hat);have HQ:=Hh (HE.o.keptS (k:=3) Dc hk (.slice nA nn nc));clear ho hk hat hb5);go_returns;exact⟨rfl,_,by rw[HXE.o];exact HP.o,HK.o.trans HQ.o⟩
 have t6:(kd==6)=false:=by simpa using h6
 go_upto_if 125 with fail
 by_cases h15:kd=15
 ·subst h15
  have HXE:Hi (X=[(4,Qa r.ress tx)]):=Hh (by rw[HX.o];unfold J7;simp);have e0:=HE.o.cell 4 _ rfl;go_wp2_with (at_builtin;refine Qt S rfl _ _ 26 3 (.int .i64 0) 8 rfl underlying26 Kf rfl (.slice (P 4) (N 4) (C 4)) (Q5 (Zb 4 A)) (.int .i64 (Qa r.ress tx)) rfl rfl Sm rfl (HE.o.own 4 Dc) HF.o (by rw[Q2];have:=Zk 4 A;omega) (by rw[Q2];have:=Zk 4 A;omega) ?_;intro nv w5 ho hk hat;obtain⟨nA,nn,nc,rfl⟩:=ho.isSlice;have hb5:=HE.o.blk.kept hk (HE.o.off 4 Dc);have c5:=hb5.cell 4 _ rfl;have f5:=hb5.free 4;have HP:=Hh (HE.o.put Dc ho hk hat);have HQ:=Hh (HE.o.keptS (k:=4) Dc hk (.slice nA nn nc));clear ho hk hat hb5);go_returns;exact⟨rfl,_,by rw[HXE.o];exact HP.o,HK.o.trans HQ.o⟩
 have t15:(kd==15)=false:=by simpa using h15
 go_upto_if 137 with fail
 by_cases h19:kd=19
 ·subst h19
  have HXE:Hi (X=[(5,Qa r.evts tx)]):=Hh (by rw[HX.o];unfold J7;simp);have e0:=HE.o.cell 5 _ rfl;go_wp2_with (at_builtin;refine Qt S rfl _ _ 26 3 (.int .i64 0) 8 rfl underlying26 Kf rfl (.slice (P 5) (N 5) (C 5)) (Q5 (Zb 5 A)) (.int .i64 (Qa r.evts tx)) rfl rfl Sm rfl (HE.o.own 5 Dc) HF.o (by rw[Q2];have:=Zk 5 A;omega) (by rw[Q2];have:=Zk 5 A;omega) ?_;intro nv w5 ho hk hat;obtain⟨nA,nn,nc,rfl⟩:=ho.isSlice;have hb5:=HE.o.blk.kept hk (HE.o.off 5 Dc);have c5:=hb5.cell 5 _ rfl;have f5:=hb5.free 5;have HP:=Hh (HE.o.put Dc ho hk hat);have HQ:=Hh (HE.o.keptS (k:=5) Dc hk (.slice nA nn nc));clear ho hk hat hb5);go_returns;exact⟨rfl,_,by rw[HXE.o];exact HP.o,HK.o.trans HQ.o⟩
 have t19:(kd==19)=false:=by simpa using h19
 go_upto_if 149 with fail
 by_cases h20:kd=20
 ·subst h20
  have HXE:Hi (X=[(6,Qa r.evts tx)]):=Hh (by rw[HX.o];unfold J7;simp);have e0:=HE.o.cell 6 _ rfl;go_wp2_with (at_builtin;refine Qt S rfl _ _ 26 3 (.int .i64 0) 8 rfl underlying26 Kf rfl (.slice (P 6) (N 6) (C 6)) (Q5 (Zb 6 A)) (.int .i64 (Qa r.evts tx)) rfl rfl Sm rfl (HE.o.own 6 Dc) HF.o (by rw[Q2];have:=Zk 6 A;omega) (by rw[Q2];have:=Zk 6 A;omega) ?_;intro nv w5 ho hk hat;obtain⟨nA,nn,nc,rfl⟩:=ho.isSlice;have hb5:=HE.o.blk.kept hk (HE.o.off 6 Dc);have c5:=hb5.cell 6 _ rfl;have f5:=hb5.free 6;have HP:=Hh (HE.o.put Dc ho hk hat);have HQ:=Hh (HE.o.keptS (k:=6) Dc hk (.slice nA nn nc));clear ho hk hat hb5);go_returns;exact⟨rfl,_,by rw[HXE.o];exact HP.o,HK.o.trans HQ.o⟩
 have t20:(kd==20)=false:=by simpa using h20
 by_cases h28:kd=28
 ·subst h28
  exact K14
 have t28:(kd==28)=false:=by simpa using h28
 by_cases h23:kd=23
 ·subst h23
  exact K14
 have t23:(kd==23)=false:=by simpa using h23
 by_cases h24:kd=24
 ·subst h24
  exact K14
 have t24:(kd==24)=false:=by simpa using h24
 go_upto_if 175 with fail
 by_cases h21:kd=21
 ·subst h21
  have HXE:Hi (X=[(8,0)]):=Hh (by rw[HX.o];unfold J7;simp);have e0:=HE.o.cell 8 _ rfl;have f0:=HE.o.blk.free 8;go_wp2_with fail;go_returns;exact⟨rfl,_,by rw[HXE.o];exact HE.o.flag Dc,HK.o.trans ((Kr _ _).setCell (.inl HE.o.inS) _)⟩
 have t21:(kd==21)=false:=by simpa using h21
 go_upto_if 180 with fail
 by_cases h22:kd=22
 ·subst h22
  have HXE:Hi (X=[(9,0)]):=Hh (by rw[HX.o];unfold J7;simp);have e0:=HE.o.cell 9 _ rfl;have f0:=HE.o.blk.free 9;go_wp2_with fail;go_returns;exact⟨rfl,_,by rw[HXE.o];exact HE.o.flag Dc,HK.o.trans ((Kr _ _).setCell (.inl HE.o.inS) _)⟩
 have t22:(kd==22)=false:=by simpa using h22
 have HXE:Hi (X=[]):=Hh (by rw[HX.o];unfold J7;simp[h5,h11,h14,h29,h30,h6,h15,h19,h20,h28,h23,h24,h21,h22]);go_wp2_with fail;go_returns;exact⟨rfl,_,by rw[HXE.o,List.append_nil];exact HE.o,HK.o⟩
end Go.Proofs.YtkgkafjachjafaaGreat
