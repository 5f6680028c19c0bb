/- Part 38 of y_holds; no condition. -/
import Derived.Deep.RegionHeld3
import Derived.Deep.DeepCutAuto
import Derived.Test.YtkgkafjachjafaaGreatY13
import Derived.Test.YtkgkafjachjafaaGreatY21
import Derived.Test.YtkgkafjachjafaaGreatY23
import Derived.Test.YtkgkafjachjafaaGreatY28
import Derived.Test.YtkgkafjachjafaaGreatY35
import Derived.Test.YtkgkafjachjafaaGreatY37
set_option linter.unusedVariables false
set_option maxHeartbeats 4000000
set_option maxRecDepth 100000
open Go Go.RowKit
namespace Go.Proofs.YtkgkafjachjafaaGreat
open Tryz
def Q8c:List ByteArray→List Zt→Bool
 |_,[]=>true
 |names,d::ds=>Q15 d.name&&(Q9 d.kind 1 4&&(!Zr d.name names&&Q8c (names++[d.name]) ds))
theorem Qcq (names:List ByteArray) (l:List Zt):Q8c names l=(X8 names l).isSome:=by
 induction l generalizing names with
 |nil=>rfl
 |cons d ds ih =>
  simp only[Q8c,X8,ih];cases Q15 d.name<;>cases Q9 d.kind 1 4<;>cases Zr d.name names<;>simp
theorem Qa2 (names:List ByteArray) (a b:List Zt):X8 names (a++b)=(X8 names a).bind (fun n=>X8 n b):=by
 induction a generalizing names with
 |nil=>rfl
 |cons d ds ih =>
  simp only[List.cons_append,X8];split
  ·exact ih _
  ·rfl
def Q9p (r:Reg):Bool:=(decide (r.comps.length≤12)&&(decide (r.ress.length≤12)&&decide (r.evts.length≤12)))&&Q8c [] (r.comps++r.ress++r.evts)
theorem Qc6 (r:Reg):Q9p r=Q6t r:=by
 unfold Q9p Q6t;rw[Qcq,Qa2,Qa2];simp only[Q24]
 by_cases h1:r.comps.length≤12
 ·rw[Ps h1,Dt h1]
  cases hd1:X8 [] r.comps with
  |none=>simp
  |some n1 =>
   simp only[Option.bind_some]
   by_cases h2:r.ress.length≤12
   ·rw[Ps h2,Dt h2]
    cases hd2:X8 n1 r.ress with
    |none=>simp
    |some n2 =>
     simp only[Option.bind_some]
     by_cases h3:r.evts.length≤12
     ·rw[Ps h3,Dt h3]
      cases hd3:X8 n2 r.evts<;>simp
     ·rw[Ng h3,Df h3];simp
   ·rw[Ng h2,Df h2];simp
 ·rw[Ng h1,Df h1];simp
section
variable {r:Reg} {w:World} {rv:Value}
theorem Q5y (r:Reg) (rv:Value) (w:World) (hr:Q20 w rv r) (hN:Q2e r) :
  Calls prog 69 #[rv] w fun e w'=>e=.returned (.bool (Q9p r))∧Q0 nob w w':=by
 obtain⟨v0,v1,v2,rfl,d0,d1,d2⟩:=hr;obtain⟨A0,b0,o0,c0,rfl,l0,lc0,hA0,hc0⟩:=d0;obtain⟨A1,b1,o1,c1,rfl,l1,lc1,hA1,hc1⟩:=d1;obtain⟨A2,b2,o2,c2,rfl,l2,lc2,hA2,hc2⟩:=d2;have hk0:Q0 nob w (w.alloc (.cells #[.slice A0 r.comps.length c0,.slice A1 r.ress.length c1,.slice A2 r.evts.length c2] 38)):=(Kr _ _).alloc _;have hb:=Blk.new w [.slice A0 r.comps.length c0,.slice A1 r.ress.length c1,.slice A2 r.evts.length c2] 38;generalize hW0:w.alloc (.cells #[.slice A0 r.comps.length c0,.slice A1 r.ress.length c1,.slice A2 r.evts.length c2] 38)=W0 at hk0;replace hb:Blk W0 w.heap.size [.slice A0 r.comps.length c0,.slice A1 r.ress.length c1,.slice A2 r.evts.length c2] 38:=hW0▸hb;have s0:∀W,Q0 nob W0 W→W.cell? ⟨w.heap.size,0,none⟩=some (.slice A0 r.comps.length c0):=fun W hW=>hW.cell (fun h=>h) (hb.cell 0 _ rfl)
 have s1:∀W,Q0 nob W0 W→W.cell? ⟨w.heap.size,1,none⟩=some (.slice A1 r.ress.length c1):=fun W hW=>hW.cell (fun h=>h) (hb.cell 1 _ rfl)
 have s2:∀W,Q0 nob W0 W→W.cell? ⟨w.heap.size,2,none⟩=some (.slice A2 r.evts.length c2):=fun W hW=>hW.cell (fun h=>h) (hb.cell 2 _ rfl)
 have hr0:Q0 nob W0 W0:=Kr _ _;have g0:=s0 W0 hr0;have g1:=s1 W0 hr0;have g2:=s2 W0 hr0;have HK0:=Hh hk0;have HA0:=Hh hA0;have HA1:=Hh hA1;have HA2:=Hh hA2;have HC0:Hi (∀j x,r.comps[j]?=some x→∀W,Q0 nob W0 W→W.cell? ⟨b0,o0+j*2,none⟩=some (.string x.name)∧W.cell? ⟨b0,o0+j*2+1,none⟩=some (.int .i64 x.kind)):=Hh fun j x hx W hW=>⟨(hk0.trans hW).cell (fun h=>h) (hc0 j x hx).1,(hk0.trans hW).cell (fun h=>h) (hc0 j x hx).2⟩
 have HC1:Hi (∀j x,r.ress[j]?=some x→∀W,Q0 nob W0 W→W.cell? ⟨b1,o1+j*2,none⟩=some (.string x.name)∧W.cell? ⟨b1,o1+j*2+1,none⟩=some (.int .i64 x.kind)):=Hh fun j x hx W hW=>⟨(hk0.trans hW).cell (fun h=>h) (hc1 j x hx).1,(hk0.trans hW).cell (fun h=>h) (hc1 j x hx).2⟩
 have HC2:Hi (∀j x,r.evts[j]?=some x→∀W,Q0 nob W0 W→W.cell? ⟨b2,o2+j*2,none⟩=some (.string x.name)∧W.cell? ⟨b2,o2+j*2+1,none⟩=some (.int .i64 x.kind)):=Hh fun j x hx W hW=>⟨(hk0.trans hW).cell (fun h=>h) (hc2 j x hx).1,(hk0.trans hW).cell (fun h=>h) (hc2 j x hx).2⟩
 have HNM:=Hh hN;clear hA0 hA1 hA2 hc0 hc1 hc2 hk0 hb hN
 by_cases h0:r.comps.length≤12
 case neg =>
  have t1:decide ((r.comps.length:Int)>12)=true:=Dt Om;have t2:decide ((12:Int)<(r.comps.length:Int))=true:=Dt Om;have t3:decide (12<r.comps.length)=true:=Dt Om;have hX:Q9p r=false:=by unfold Q9p;rw[Df h0];rfl
  rw[hX];clear h0 hX;go_enter func69,ntmps69;go_wp2_with fail;go_returns;exact⟨rfl,HK0.o.trans Kz⟩
 have t1:decide ((r.comps.length:Int)>12)=false:=Df Om;have t2:decide ((12:Int)<(r.comps.length:Int))=false:=Df Om;have t3:decide (12<r.comps.length)=false:=Df Om
 by_cases h1:r.ress.length≤12
 case neg =>
  have u1:decide ((r.ress.length:Int)>12)=true:=Dt Om;have u2:decide ((12:Int)<(r.ress.length:Int))=true:=Dt Om;have u3:decide (12<r.ress.length)=true:=Dt Om;have hX:Q9p r=false:=by unfold Q9p;rw[Df h1];simp
  rw[hX];clear h0 h1 hX;go_enter func69,ntmps69;go_wp2_with fail;go_returns;exact⟨rfl,HK0.o.trans Kz⟩
 have u1:decide ((r.ress.length:Int)>12)=false:=Df Om;have u2:decide ((12:Int)<(r.ress.length:Int))=false:=Df Om;have u3:decide (12<r.ress.length)=false:=Df Om
 by_cases h2:r.evts.length≤12
 case neg =>
  have v1:decide ((r.evts.length:Int)>12)=true:=Dt Om;have v2:decide ((12:Int)<(r.evts.length:Int))=true:=Dt Om;have v3:decide (12<r.evts.length)=true:=Dt Om;have hX:Q9p r=false:=by unfold Q9p;rw[Df h2];simp
  rw[hX];clear h0 h1 h2 hX;go_enter func69,ntmps69;go_wp2_with fail;go_returns;exact⟨rfl,HK0.o.trans Kz⟩
 have v1:decide ((r.evts.length:Int)>12)=false:=Df Om;have v2:decide ((12:Int)<(r.evts.length:Int))=false:=Df Om;have v3:decide (12<r.evts.length)=false:=Df Om;obtain⟨X,hX⟩:∃X,X=Q8c [] (r.comps++r.ress++r.evts):=⟨_,rfl⟩;have hX2:Q9p r=X:=by unfold Q9p;rw[Dt h0,Dt h1,Dt h2,hX];rfl
 rw[hX2]
 have HNA:Hi (∀d∈r.comps++r.ress++r.evts,d.name.size≤140737488355328):=Hh fun d hd=>by
  rw[List.mem_append,List.mem_append] at hd;exact HNM.o d (by rcases hd with (h|h)|h<;>simp[h])
 have hal:(r.comps++r.ress++r.evts).length≤36:=by rw[List.length_append,List.length_append];omega
 clear hX2;go_enter func69,ntmps69;go_upto_region 3 with fail
 go_cut [3] (fun s3 wx=>Y5 (Q6 W0.heap.size) 128 2 wx s3 (r.comps++r.ress++r.evts).length (decls (r.comps++r.ress++r.evts))∧Q0 nob W0 wx)
 case first =>
  go_region_held3 (fun W=>Q0 nob W0 W) (first|assumption|exact hr0.drew|exact Kd ‹_›|exact Ka (Ku ‹_›) _|exact Ka ‹_› _) ((first|(refine Q2f rfl (Q6e (Q6 W0.heap.size) _ _ 36 128 2 (.agg #[.string ByteArray.empty,.int .i64 0]) 24 rfl underlying36 Kf rfl Om _ 0 r.comps.length [] (decls r.comps) rfl A0 b0 o0 c0 rfl (Q5s _) HA0.o (Q4w fun j x hx=>HC0.o j x hx _ ‹_›) (Q7p _) (Y5.lit0 _ _ _ (by simp[Q6]) (Jv rfl Sm)) (fun k hk=>by simp[Q6] at hk ⊢;omega) Om Om ?_);intro y0 Y0 ho0 hk0 ha0;have Qyf:Q0 nob W0 Y0:=Q0.then_ ‹_› hk0 (fun q hq=>.inr (Nat.le_of_eq (Option.some.inj hq)));dsimp only)|(refine Q2f rfl (Q6e (Q6 W0.heap.size) _ _ 36 128 2 (.agg #[.string ByteArray.empty,.int .i64 0]) 24 rfl underlying36 Kf rfl Om y0 _ r.ress.length _ (decls r.ress) rfl A1 b1 o1 c1 rfl (Q5s _) HA1.o (Q4w fun j x hx=>HC1.o j x hx _ ‹_›) (Q7p _) ho0 (fun k hk=>Nat.le_trans Qyf.size hk) Om Om ?_);intro y1 Y1 ho1 hk1 ha1;have Qq6:Q0 nob W0 Y1:=Q0.then_ ‹_› hk1 (fun q hq=>.inr (ho0.2 q hq));dsimp only)|(refine Q2f rfl (Q6e (Q6 W0.heap.size) _ _ 36 128 2 (.agg #[.string ByteArray.empty,.int .i64 0]) 24 rfl underlying36 Kf rfl Om y1 _ r.evts.length _ (decls r.evts) rfl A2 b2 o2 c2 rfl (Q5s _) HA2.o (Q4w fun j x hx=>HC2.o j x hx _ ‹_›) (Q7p _) ho1 (fun k hk=>Nat.le_trans Qq6.size hk) Om Om ?_);intro y2 Y2 ho2 hk2 ha2;have Qq7:Q0 nob W0 Y2:=Q0.then_ ‹_› hk2 (fun q hq=>.inr (ho1.2 q hq));dsimp only)))
  all_goals go_wp2_with fail
  all_goals go_meet
  all_goals exact⟨by have h9:=ho2;rw[List.nil_append,Q7j,Q7j] at h9;simpa[Nat.add_assoc] using h9,by assumption⟩
 case rest =>
  obtain⟨Qwm,hk3⟩:=hcut;obtain⟨W1,rfl⟩:∃W1:World,W1=wc:=⟨_,rfl⟩;generalize hAL:r.comps++r.ress++r.evts=all at *;obtain⟨QA,qb,qc,hq3,_,hqc,hQA,Qni⟩:=Qwm.opened;subst hq3
  have HRD:Hi (∀(j:Nat) d,all[j]?=some d→QA=some ⟨qb,0,none⟩∧∀W,Q0 nob W1 W→W.cell? ⟨qb,j*2,none⟩=some (.string d.name)∧W.cell? ⟨qb,j*2+1,none⟩=some (.int .i64 d.kind)):=Hh fun j d hd=>by
   have hp:0<all.length:=by have:=(Gs hd).1;omega
   exact⟨(hQA hp).1,fun W hW=>⟨hW.cell (fun h=>h) (Q6a Qni hd).1,hW.cell (fun h=>h) (Q6a Qni hd).2⟩⟩
  have HX:=Hh hX;have HK3:=Hh (HK0.o.trans hk3);clear Qwm hk3 hQA Qni hX s0 s1 s2 g0 g1 g2 hr0 hAL;go_wp2_with fail;go_loopw [4,5] (fun i _ wr=>∃j:Nat,j≤all.length∧i=.int .i64 j∧Hi (Q0 nob W1 wr∧X=Q8c ((all.take j).map (·.name)) (all.drop j))) (fun i _ _=>all.length-(intOf i).toNat)
  case atStart=>exact⟨0,Nat.zero_le _,rfl,Hh ⟨Kr _ _,HX.o⟩⟩
  case round =>
   obtain⟨j,hj,rfl,HR⟩:=hrel;obtain⟨wo,rfl⟩:∃wo:World,wo=wr:=⟨_,rfl⟩
   by_cases hlt:j<all.length
   ·obtain⟨d,hd⟩:=Q4 hlt
    obtain⟨rfl,hrd⟩:=HRD.o j d hd;obtain⟨e0,e1⟩:=hrd wo HR.o.1;have HE:=Hh hrd;have HXJ:Hi (X=(Q15 d.name&&(Q9 d.kind 1 4&&(!Zr d.name ((all.take j).map (·.name))&&Q8c ((all.take j).map (·.name)++[d.name]) (all.drop (j+1)))))):=Hh (by rw[HR.o.2,Qh hd];rfl)
    have hsz:=HNA.o d (Mg hd);have HD:=Hh hd;have HKR:=Hh HR.o.1;clear hrd hd HR;cases hnb:Q15 d.name with
    |false =>
     have HNB:=Hh hnb;have HXX:Hi (X=false):=Hh (by rw[HXJ.o,hnb];rfl);clear hnb;go_wp2_with (first|(go_at_call 104;refine (Q3a d.name _ hsz).mono ?_;rw[HNB.o];rintro e w2 ⟨rfl,hk2⟩;have HK2:=Hh (HKR.o.trans hk2);obtain⟨f0,f1⟩:=HE.o w2 HK2.o;clear hk2)|(go_at_call 105;refine (Zl _ _ _ _).mono ?_;rw[HWI.o];rintro e w3 ⟨rfl,rfl⟩));go_returns;rw[HXX.o];exact⟨rfl,HK3.o.trans (HK2.o.trans Kz)⟩
    |true =>
    have HNB:=Hh hnb;rw[hnb] at HXJ;clear hnb;cases hwi:Q9 d.kind 1 4 with
    |false =>
     have HWI:=Hh hwi;have HXX:Hi (X=false):=Hh (by rw[HXJ.o,hwi];rfl);clear hwi;go_wp2_with (first|(go_at_call 104;refine (Q3a d.name _ hsz).mono ?_;rw[HNB.o];rintro e w2 ⟨rfl,hk2⟩;have HK2:=Hh (HKR.o.trans hk2);obtain⟨f0,f1⟩:=HE.o w2 HK2.o;clear hk2)|(go_at_call 105;refine (Zl _ _ _ _).mono ?_;rw[HWI.o];rintro e w3 ⟨rfl,rfl⟩));go_returns;rw[HXX.o];exact⟨rfl,HK3.o.trans (HK2.o.trans Kz)⟩
    |true =>
     have HWI:=Hh hwi;rw[hwi] at HXJ;clear hwi;go_wp2_with (first|(go_at_call 104;refine (Q3a d.name _ hsz).mono ?_;rw[HNB.o];rintro e w2 ⟨rfl,hk2⟩;have HK2:=Hh (HKR.o.trans hk2);obtain⟨f0,f1⟩:=HE.o w2 HK2.o;clear hk2)|(go_at_call 105;refine (Zl _ _ _ _).mono ?_;rw[HWI.o];rintro e w3 ⟨rfl,rfl⟩));go_loopw [5] (fun k wr=>∃m:Nat,m≤j∧k=.int .i64 m∧Hi (Q0 nob W1 wr∧∀(q:Nat) x,q<m→all[q]?=some x→x.name≠d.name)) (fun k _=>j-(intOf k).toNat)
     case atStart=>exact⟨0,Nat.zero_le _,rfl,Hh ⟨HK2.o,fun q x hq=>absurd hq Om⟩⟩
     case round =>
      obtain⟨m,hm,rfl,HRI⟩:=hrel;obtain⟨wp,rfl⟩:∃wp:World,wp=wr:=⟨_,rfl⟩;obtain⟨f0,f1⟩:=HE.o wp HRI.o.1
      by_cases hlm:m<j
      ·obtain⟨x,hx⟩:=Q4 (xs:=all) (j:=m) Om
       obtain⟨k0,k1⟩:=(HRD.o m x hx).2 wp HRI.o.1;have HXM:=Hh hx;have hmj:(m:Int)<(j:Int):=Om
       have hma:(m:Int)<(all.length:Int):=Om
       have hja:(j:Int)<(all.length:Int):=Om
       clear hx;cases ty:(x.name.toList==d.name.toList) with
       |true =>
        have HTY:=Hh ty
        have HXX:Hi (X=false):=Hh (by
         rw[HXJ.o,(Xu d.name _).2 (List.mem_map.2 ⟨x,Mg (i:=m) (by rw[List.getElem?_take_of_lt hlm];exact HXM.o),Q04 ty⟩)];rfl)
        go_upto_region 12 with fail
        go_quiet (fail);go_wp2_with fail;go_returns;rw[HXX.o];exact⟨rfl,HK3.o.trans (HRI.o.1.trans Kz)⟩
       |false =>
        have HTY:=Hh ty;go_upto_region 12 with fail
        go_quiet (fail);go_wp2_with fail;go_round
        case rel=>exact⟨m+1,Om,Gm,Hh ⟨HRI.o.1.trans Kz,fun q y hq hy=>by
         by_cases e:q=m
         ·subst e;rw[HXM.o] at hy;cases hy;exact Q1p HTY.o
         ·exact HRI.o.2 q y Om hy⟩⟩
        case measure=>exact Me
      ·have hmj:¬ (m:Int)<(j:Int):=Om
       have HXX:Hi (X=Q8c ((all.take (j+1)).map (·.name)) (all.drop (j+1))):=Hh (by
        have hno:Zr d.name ((all.take j).map (·.name))=false:=by
         cases hh:Zr d.name ((all.take j).map (·.name)) with
         |false=>rfl
         |true =>
          obtain⟨x,hx,he⟩:=List.mem_map.1 ((Xu _ _).1 hh);obtain⟨q,hq⟩:=List.mem_iff_getElem?.1 hx;have hqj:q<j:=by have:=(Gs hq).1;rw[List.length_take] at this;omega
          rw[List.getElem?_take_of_lt hqj] at hq;exact absurd he (HRI.o.2 q x Om hq)
        rw[HXJ.o,hno,Js HD.o,List.map_append];rfl)
       go_wp2_with fail;go_round
       case rel=>exact⟨j+1,Om,Gm,Hh ⟨HRI.o.1,HXX.o⟩⟩
       case measure=>exact Me
   ·have hjn:¬ (j:Int)<(all.length:Int):=Om
    have HXX:Hi (X=true):=Hh (by rw[HR.o.2,Dn Om];rfl);go_wp2_with fail;go_returns;rw[HXX.o];exact⟨rfl,HK3.o.trans (HR.o.1.trans Kz)⟩
end
theorem Qaf (p:Int→Bool) (l:List Int):Q3l p (l.take (Q3l p l))=Q3l p l:=by
 induction l with
 |nil=>rfl
 |cons y ys ih =>
  simp only[Q3l];split
  ·rename_i h
   rw[List.take_succ_cons];simp only[Q3l,h,if_true,ih]
  ·rfl
theorem Q9w (s:ByteArray) (i j:Nat) (h:j≤s.size):(s.extract i j).size=j-i:=by
 rw[← Z2,Y7,List.length_take,List.length_drop,Z2];omega
theorem Qjd (s:ByteArray) (h:0<s.size):Q8s s=Q2k s 0:=by
 have:=Q1q s 0 h;unfold Q8s;rw[Q3r h];cases hb:J5 s with
 |nil=>rw[hb] at this;cases this
 |cons x xs=>rw[hb] at this;simp at this;exact this
theorem Qhq (s:ByteArray) {d:Nat} (hd:d=Jt Qg s 0) (h0:1≤d) (hs:d≤s.size):Y8 (s.extract 0 d) 9=(decide (d≤9)&&(decide (d=1) ||decide (Q2k s 0≠48))):=by
 have h1:(s.extract 0 d).size=d:=by rw[Q9w s 0 d hs];omega
 have h2:Jt Qg (s.extract 0 d) 0=d:=by
  have e:d=Q3l Qg (J5 s):=by rw[hd];simp[Jt]
  have:J5 (s.extract 0 d)=(J5 s).take d:=by rw[Y7];simp
  show 0+Q3l Qg ((J5 (s.extract 0 d)).drop 0)=d
  rw[List.drop_zero,Nat.zero_add,this,e,Qaf]
 have h3:Q8s (s.extract 0 d)=Q2k s 0:=by
  have:J5 (s.extract 0 d)=(J5 s).take d:=by rw[Y7];simp
  have hb:=Qjd s Om;rw[← hb];unfold Q8s;rw[this];cases hx:J5 s with
  |nil=>simp
  |cons x xs=>obtain⟨m,rfl⟩:∃m,d=m+1:=⟨d-1,Om⟩;rfl
 unfold Y8;rw[h1,h2,h3];unfold Y8.withinBs;have e1:decide ((1:Int)≤(d:Int))=true:=Dt Om;have e2:decide ((d:Int)≤9)=decide (d≤9):=by apply decide_eq_decide.2;omega
 rw[e1,e2];simp
theorem Qj8 (s:ByteArray) (d:Nat) (h:d+1≤s.size):Jt Qg (s.extract (d+1) s.size) 0=Jt Qg s (d+1)-(d+1):=by
 have:J5 (s.extract (d+1) s.size)=(J5 s).drop (d+1):=by
  rw[Y7,List.take_of_length_le (by rw[List.length_drop,Z2];omega)]
 unfold Jt;rw[List.drop_zero,Nat.zero_add,this];omega
theorem Qmf (s:ByteArray):Q1d s=Q26 s:=by
 unfold Q1d Q26 Q02;have hle:=Q5p Qg s 0 Om;generalize hd:Jt Qg s 0=d at *
 by_cases h1:d<s.size
 ·rw[dif_pos h1]
  by_cases h2:1≤d
  ·rw[Qhq s hd.symm h2 hle,Q9w s (d+1) s.size (Nat.le_refl _),Qj8 s d Om,Q3r h1]
   have h3:=Q5p Qg s (d+1) Om;have h4:d+1≤Jt Qg s (d+1):=by unfold Jt;omega
   generalize Jt Qg s (d+1)=e at *
   by_cases c1:d≤9
   ·rw[Ps ⟨h2,c1⟩,Ng (show ¬ s.size≤d by omega)]
    by_cases c2:1<d∧Q2k s 0=48
    ·rw[Ps c2,Ng (fun h=>by have:=h.2.1;simp[c2.2] at this;omega)];rfl
    ·rw[Ng c2]
     by_cases c3:((s[d]'h1).toNat:Int)=46
     ·rw[Ng (show ¬ ((s[d]'h1).toNat:Int)≠46 by simpa using c3)]
      have hp:(decide (d≤9)&&(decide (d=1) ||decide (Q2k s 0≠48)))=true:=by
       by_cases c4:d=1
       ·simp[c4]
       ·have:Q2k s 0≠48:=fun h=>c2 ⟨Om,h⟩
        simp[c1,this]
      by_cases c5:e=s.size∧d+2≤s.size∧s.size≤d+7
      ·rw[Ps ⟨c3,hp,Om,Om,Om⟩];simp[c5.1,c5.2.1,c5.2.2]
      ·rw[Ng (fun h=>c5 ⟨by have:=h.2.2.2.2;omega,by have:=h.2.2.1;omega,by have:=h.2.2.2.1;omega⟩)]
       show _=false
       rcases Bool.eq_false_or_eq_true (decide (e=s.size)&&(decide (d+2≤s.size)&&decide (s.size≤d+7))) with h|h
       ·simp at h;exact absurd h c5
       ·exact h
     ·rw[Ps (show ((s[d]'h1).toNat:Int)≠46 from c3),Ng (fun h=>c3 h.1)];rfl
   ·rw[Ng (fun h=>c1 h.2),Ng (fun h=>by have:=h.2.1;simp at this;omega)];rfl
  ·rw[Ng (fun h=>h2 h.1)]
   have h0:d=0:=Om
   subst h0
   rw[Ng (fun h=>by
    have:=h.2.1;unfold Y8 at this;have e:(s.extract 0 0).size=0:=by rw[Q9w s 0 0 Om]
    rw[e] at this;simp[Y8.withinBs] at this)]
   rfl
 ·rw[dif_neg h1,Ps (show s.size≤d by omega)]
  split
  ·split<;>rfl
  ·rfl
def Xj (seen:List Bool) (i:Int):Bool:=(seen[i.toNat]?).getD false
def Jb (class_ kind:Int):Bool:=if class_=10 then kind==7 else (Ya kind==class_&&class_ != 0)
def Q4a (n:Qn) (class_:Int):Bool:=Jb class_ n.kind&&(((Yu n.kind n.kids.length).length:Int)==(n.kids.length:Int))&&Q2l n
def Xv (F:Int→Int→Int→List Bool→Int×Bool×List Bool) (i:Int):List (Int×Int)→Int→List Bool→Int×Bool×List Bool
 |[],next,seen=>(next,true,seen)
 |(k,c)::l,next,seen=>if i≤k then (0,false,seen) else if (F k c next seen).2.1 then Xv F i l (F k c next seen).1 (F k c next seen).2.2 else (0,false,(F k c next seen).2.2)
def Q2c (i:Int) (r:Int×Bool×List Bool):Int×Bool×List Bool:=if r.2.1 then (r.1+1,r.1==i,r.2.2) else (0,false,r.2.2)
def Q3m (n:Qn):List (Int×Int):=n.kids.zip (Yu n.kind n.kids.length)
def Z9 (t:Q1):Nat→Int→Int→Int→List Bool→Int×Bool×List Bool
 |0,_,_,_,seen=>(0,false,seen)
 |f+1,i,class_,next,seen =>
  if (0≤i∧i<t.nodes.length)∧Xj seen i=false then
   if Q4a (t.at i) class_=true then
    Q2c i (Xv (Z9 t f) i (Q3m (t.at i)) next (seen.set i.toNat true))
   else (0,false,seen.set i.toNat true)
  else (0,false,seen)
theorem Qc7 (F:Int→Int→Int→List Bool→Int×Bool×List Bool) (hF:∀k c n s,(F k c n s).2.2.length=s.length) (i:Int) (l:List (Int×Int)) (next:Int) (seen:List Bool):(Xv F i l next seen).2.2.length=seen.length:=by
 induction l generalizing next seen with
 |nil=>rfl
 |cons p l ih =>
  obtain⟨k,c⟩:=p;simp only[Xv];split;· rfl
  split
  ·rw[ih,hF]
  ·exact hF _ _ _ _
theorem Q6r (i:Int) (r:Int×Bool×List Bool):(Q2c i r).2.2=r.2.2:=by unfold Q2c;split<;>rfl
theorem Qam (t:Q1) (f:Nat):∀i c n s,(Z9 t f i c n s).2.2.length=s.length:=by
 induction f with
 |zero=>intro i c n s;rfl
 |succ f ih =>
  intro i c n s;simp only[Z9];split
  ·split
   ·rw[Q6r,Qc7 _ ih];simp
   ·simp
  ·rfl
theorem Q87 {t:Q1} {f:Nat} {i c n:Int} {s:List Bool} (h:(Z9 t f i c n s).2.1=true):0≤i∧i<t.nodes.length∧(Z9 t f i c n s).1=i+1:=by
 cases f with
 |zero=>cases h
 |succ f =>
  simp only[Z9] at h ⊢;split at h
  ·rename_i h1
   rw[Ps h1];split at h
   ·rename_i h2
    rw[Ps h2];unfold Q2c at h ⊢;split at h
    ·rename_i h3
     rw[Ps h3];refine⟨h1.1.1,h1.1.2,?_⟩;have:(Xv (Z9 t f) i (Q3m (t.at i)) n (s.set i.toNat true)).1=i:=by simpa using h
     show (Xv (Z9 t f) i (Q3m (t.at i)) n (s.set i.toNat true)).1+1=i+1
     rw[this]
    ·cases h
   ·cases h
  ·cases h
def Q2s (t:Q1):List Int→Int→List Bool→Bool
 |[],next,_=>next==(t.nodes.length:Int)
 |i::l,next,seen=>if (Z9 t (i.toNat+1) i 9 next seen).2.1 then Q2s t l (Z9 t (i.toNat+1) i 9 next seen).1 (Z9 t (i.toNat+1) i 9 next seen).2.2 else false
def Q6x (t:Q1):Bool:=decide (t.nodes.length≤4000)&&(decide (t.tops.length≤4000)&&Q2s t t.tops 0 (List.replicate t.nodes.length false))
def Q2v (F:Int→Int→Int→Option Int) (i:Int):List (Int×Int)→Int→Option Int
 |[],next=>some next
 |(k,c)::l,next=>if i≤k then none else match F k c next with
  |none=>none
  |some n=>Q2v F i l n
def Qe0 (i:Int):Option Int→Option Int
 |none=>none
 |some m=>if m=i then some (i+1) else none
def okS (t:Q1):Nat→Int→Int→Int→Option Int
 |0,_,_,_=>none
 |f+1,i,class_,next =>
  if 0≤i∧i<t.nodes.length then (if Q4a (t.at i) class_=true then Qe0 i (Q2v (okS t f) i (Q3m (t.at i)) next) else none) else none
theorem Q4o {i m:Int} {o:Option Int} (h:Qe0 i o=some m):m=i+1∧o=some i:=by
 cases o with
 |none=>cases h
 |some x =>
  simp only[Qe0] at h;split at h
  ·rename_i e;cases h;exact⟨rfl,by rw[e]⟩
  ·cases h
theorem Q7n {F:Int→Int→Int→Option Int} (hF:∀k c n m,F k c n=some m→n≤m) {i:Int}:∀(l:List (Int×Int)) (n m:Int),Q2v F i l n=some m→n≤m:=by
 intro l
 induction l with
 |nil=>intro n m h;cases h;omega
 |cons p l ih =>
  obtain⟨k,c⟩:=p;intro n m h;simp only[Q2v] at h;split at h
  ·cases h
  ·cases hf:F k c n with
   |none=>rw[hf] at h;cases h
   |some x=>rw[hf] at h;have:=hF _ _ _ _ hf;have:=ih _ _ h;omega
theorem Qlh (t:Q1):∀(f:Nat) (i c n m:Int),okS t f i c n=some m→n≤m:=by
 intro f
 induction f with
 |zero=>intro i c n m h;cases h
 |succ f ih =>
  intro i c n m h;simp only[okS] at h;split at h
  ·split at h
   ·obtain⟨rfl,h2⟩:=Q4o h
    have:=Q7n ih _ _ _ h2;omega
   ·cases h
  ·cases h
theorem Q6z {t:Q1} {f:Nat} {i c n m:Int} (h:okS t f i c n=some m):0≤i∧i<t.nodes.length∧m=i+1∧n≤i∧Q4a (t.at i) c=true:=by
 cases f with
 |zero=>cases h
 |succ f =>
  simp only[okS] at h;split at h
  ·rename_i h1
   split at h
   ·rename_i h2
    obtain⟨rfl,h3⟩:=Q4o h;exact⟨h1.1,h1.2,rfl,Q7n (Qlh t f) _ _ _ h3,h2⟩
   ·cases h
  ·cases h
theorem Q4v {s:List Bool} {i j:Int} (hi:0≤i) (hj:0≤j) (hn:i≠j):Xj (s.set i.toNat true) j=Xj s j:=by
 unfold Xj;rw[List.getElem?_set_ne Om]
theorem Q9c {F:Int→Int→Int→List Bool→Int×Bool×List Bool} (hF:∀k c n s j,0≤j→k<j→Xj (F k c n s).2.2 j=Xj s j) {i:Int}:∀(l:List (Int×Int)) (n:Int) (s:List Bool) (j:Int),0≤j→i≤j→Xj (Xv F i l n s).2.2 j=Xj s j:=by
 intro l
 induction l with
 |nil=>intro n s j _ _;rfl
 |cons p l ih =>
  obtain⟨k,c⟩:=p;intro n s j h0 hj;simp only[Xv];split;· rfl
  split
  ·rw[ih _ _ _ h0 hj,hF _ _ _ _ _ h0 Om]
  ·exact hF _ _ _ _ _ h0 Om
theorem Q88 (t:Q1):∀(f:Nat) (i c n:Int) (s:List Bool) (j:Int),0≤j→i<j→Xj (Z9 t f i c n s).2.2 j=Xj s j:=by
 intro f
 induction f with
 |zero=>intro i c n s j _ _;rfl
 |succ f ih =>
  intro i c n s j h0 hj;simp only[Z9];split
  ·rename_i h
   split
   ·rw[Q6r,Q9c ih _ _ _ _ h0 Om,Q4v h.1.1 h0 Om]
   ·exact Q4v h.1.1 h0 Om
  ·rfl
def Like (r:Int×Bool×List Bool) (o:Option Int):Prop:=(o=none→r.2.1=false)∧∀m,o=some m→r.2.1=true∧r.1=m
theorem Qmi (t:Q1):∀(f:Nat) (i c n:Int) (s:List Bool),0≤n→(∀j,n≤j→j≤i→Xj s j=false)→Like (Z9 t f i c n s) (okS t f i c n):=by
 intro f
 induction f with
 |zero=>intro i c n s _ _;exact⟨fun _=>rfl,fun m h=>by cases h⟩
 |succ f ih =>
  intro i c n s hn hs
  have kids:∀(l:List (Int×Int)) (n:Int) (s:List Bool),0≤n→(∀j,n≤j→j<i→Xj s j=false)→Like (Xv (Z9 t f) i l n s) (Q2v (okS t f) i l n):=by
   intro l
   induction l with
   |nil=>intro n s _ _;exact⟨(by intro h;cases h),(by intro m h;cases h;exact⟨rfl,rfl⟩)⟩
   |cons p l ihl =>
    obtain⟨k,c⟩:=p;intro n s hn hs;simp only[Xv,Q2v]
    by_cases hk:i≤k
    ·rw[Ps hk,Ps hk];exact⟨fun _=>rfl,fun m h=>by cases h⟩
    ·rw[Ng hk,Ng hk]
     obtain⟨h1,h2⟩:=ih k c n s hn (fun j a b=>hs j a Om);cases ho:okS t f k c n with
     |none =>
      rw[h1 ho,Ng Sm];exact⟨fun _=>rfl,fun m h=>by cases h⟩
     |some m =>
      obtain⟨g1,g2⟩:=h2 m ho;obtain⟨e0,_,e1,e2,_⟩:=Q6z ho;rw[Ps g1,g2];exact ihl m _ Om (fun j a b=>by rw[Q88 t f k c n s j Om Om];exact hs j Om b)
  simp only[Z9,okS]
  by_cases hi:0≤i∧i<t.nodes.length
  ·rw[Ps hi]
   cases hg:Xj s i with
   |true =>
    rw[Ng (fun h=>by cases h.2)]
    refine⟨fun _=>rfl,fun m h=>?_⟩
    exfalso;split at h
    ·obtain⟨_,h2⟩:=Q4o h
     have:=Q7n (Qlh t f) _ _ _ h2;rw[hs i this (Int.le_refl _)] at hg;cases hg
    ·cases h
   |false =>
    rw[Ps ⟨hi,rfl⟩]
    by_cases hl:Q4a (t.at i) c=true
    ·rw[Ps hl,Ps hl]
     obtain⟨h1,h2⟩:=kids (Q3m (t.at i)) n (s.set i.toNat true) hn (fun j a b=>by rw[Q4v hi.1 Om Om];exact hs j a Om);unfold Q2c;cases ho:Q2v (okS t f) i (Q3m (t.at i)) n with
     |none=>rw[h1 ho,Ng Sm];exact⟨fun _=>rfl,fun m h=>by cases h⟩
     |some m =>
      obtain⟨g1,g2⟩:=h2 m ho;rw[Ps g1,g2];simp only[Qe0]
      by_cases e:m=i
      ·rw[Ps e];exact⟨(by intro h;cases h),(by intro x h;cases h;exact⟨by simpa using e,by rw[e]⟩)⟩
      ·rw[Ng e];exact⟨fun _=>by simpa using e,fun x h=>by cases h⟩
    ·rw[Ng hl,Ng hl];exact⟨fun _=>rfl,fun m h=>by cases h⟩
  ·rw[Ng hi,Ng (fun h=>hi h.1)];exact⟨fun _=>rfl,fun m h=>by cases h⟩
def Q3n (t:Q1):List Int→Int→Bool
 |[],next=>next==(t.nodes.length:Int)
 |i::l,next=>match okS t (i.toNat+1) i 9 next with
  |none=>false
  |some m=>Q3n t l m
theorem Qda (t:Q1):∀(l:List Int) (n:Int) (s:List Bool),0≤n→(∀j,n≤j→Xj s j=false)→Q2s t l n s=Q3n t l n:=by
 intro l
 induction l with
 |nil=>intro n s _ _;rfl
 |cons i l ih =>
  intro n s hn hs;obtain⟨h1,h2⟩:=Qmi t (i.toNat+1) i 9 n s hn (fun j a _=>hs j a);simp only[Q2s,Q3n];cases ho:okS t (i.toNat+1) i 9 n with
  |none=>rw[h1 ho,Ng Sm]
  |some m =>
   obtain⟨g1,g2⟩:=h2 m ho;obtain⟨e0,_,e1,e2,_⟩:=Q6z ho;rw[Ps g1,g2];exact ih m _ Om (fun j a=>by rw[Q88 t _ i 9 n s j Om Om];exact hs j Om)
def Qbk (t:Q1) (n:Qn):Bool:=if Qu n.kind then X9 t n else if Zs n.kind then Z3 t n else Jf t n
theorem Q5c:Jb 1=Qu:=by
 funext k;unfold Jb Ya;rw[Ng Dc];unfold Qu Q9
 by_cases h:1≤k∧k≤11
 ·rw[Ps h];simp[h.1,h.2]
 ·rw[Ng h]
  have e:(decide (1≤k)&&decide (k≤11))=false:=by simpa using h
  rw[e];split<;>(try split)<;>(try split)<;>(try split)<;>(try split)<;>(try split)<;>(try split)<;>(try split)<;>rfl
theorem Qn8:Jb 2=Zs:=by
 funext k;unfold Jb Ya;rw[Ng Dc];unfold Zs Q9
 by_cases h1:1≤k∧k≤11
 ·rw[Ps h1]
  have e:(decide (12≤k)&&decide (k≤26))=false:=So
  rw[e];rfl
 rw[Ng h1]
 by_cases h:12≤k∧k≤26
 ·rw[Ps h];simp[h.1,h.2]
 ·rw[Ng h]
  have e:(decide (12≤k)&&decide (k≤26))=false:=by simpa using h
  rw[e];split<;>(try split)<;>(try split)<;>(try split)<;>(try split)<;>(try split)<;>(try split)<;>rfl
theorem Q7o:Jb 3=isK 27:=by
 funext k;unfold Jb Ya;rw[Ng Dc];unfold isK;apply Bool.eq_iff_iff.2;simp;constructor
 ·intro h;split at h<;>(try split at h)<;>(try split at h)<;>(try split at h)<;>(try split at h)<;>(try split at h)<;>(try split at h)<;>(try split at h)<;>(try split at h)<;>omega
 ·intro h;subst h;rfl
theorem Qmu:Jb 4=isK 29:=by
 funext k;unfold Jb Ya;rw[Ng Dc];unfold isK;apply Bool.eq_iff_iff.2;simp;constructor
 ·intro h;split at h<;>(try split at h)<;>(try split at h)<;>(try split at h)<;>(try split at h)<;>(try split at h)<;>(try split at h)<;>(try split at h)<;>(try split at h)<;>omega
 ·intro h;subst h;rfl
theorem Qmz:Jb 5=isK 30:=by
 funext k;unfold Jb Ya;rw[Ng Dc];unfold isK;apply Bool.eq_iff_iff.2;simp;constructor
 ·intro h;split at h<;>(try split at h)<;>(try split at h)<;>(try split at h)<;>(try split at h)<;>(try split at h)<;>(try split at h)<;>(try split at h)<;>(try split at h)<;>omega
 ·intro h;subst h;rfl
theorem Qbl:Jb 6=isK 31:=by
 funext k;unfold Jb Ya;rw[Ng Dc];unfold isK;apply Bool.eq_iff_iff.2;simp;constructor
 ·intro h;split at h<;>(try split at h)<;>(try split at h)<;>(try split at h)<;>(try split at h)<;>(try split at h)<;>(try split at h)<;>(try split at h)<;>(try split at h)<;>omega
 ·intro h;subst h;rfl
theorem Qn2:Jb 7=isK 32:=by
 funext k;unfold Jb Ya;rw[Ng Dc];unfold isK;apply Bool.eq_iff_iff.2;simp;constructor
 ·intro h;split at h<;>(try split at h)<;>(try split at h)<;>(try split at h)<;>(try split at h)<;>(try split at h)<;>(try split at h)<;>(try split at h)<;>(try split at h)<;>omega
 ·intro h;subst h;rfl
theorem Qmy:Jb 8=isK 28:=by
 funext k;unfold Jb Ya;rw[Ng Dc];unfold isK;apply Bool.eq_iff_iff.2;simp;constructor
 ·intro h;split at h<;>(try split at h)<;>(try split at h)<;>(try split at h)<;>(try split at h)<;>(try split at h)<;>(try split at h)<;>(try split at h)<;>(try split at h)<;>omega
 ·intro h;subst h;rfl
theorem Qmd:Jb 10=isK 7:=by funext k;rfl
theorem Qli {k:Int}:Jb 9 k=true↔k=33∨k=34:=by
 unfold Jb Ya;rw[Ng Dc];simp;constructor
 ·intro h;split at h<;>(try split at h)<;>(try split at h)<;>(try split at h)<;>(try split at h)<;>(try split at h)<;>(try split at h)<;>(try split at h)<;>(try split at h)<;>omega
 ·intro h;rcases h with rfl|rfl<;>rfl
theorem Q80 {c k:Int} (h:Jb c k=true):1≤k∧k≤34:=by
 unfold Jb at h;split at h
 ·simp at h;omega
 ·simp only[Bool.and_eq_true,beq_iff_eq,bne_iff_ne] at h
  obtain⟨h1,h2⟩:=h;unfold Ya at h1;split at h1;· omega
  split at h1;· omega
  split at h1;· omega
  split at h1;· omega
  split at h1;· omega
  split at h1;· omega
  split at h1;· omega
  split at h1;· omega
  split at h1
  ·omega
  ·omega
def Q77 (t:Q1) (l cs:List Int):Bool:=(((cs.length:Int)==(l.length:Int))&&(l.zip cs).all fun p=>Jb p.2 (t.at p.1).kind)
theorem Xh (t:Q1) (l cs:List Int):Qo t l (cs.map Jb)=Q77 t l cs:=by
 unfold Q77
 induction l generalizing cs with
 |nil=>cases cs with
  |nil=>rfl
  |cons c cs=>simp only[List.map_cons,Qo,List.length_cons,List.length_nil,List.zip_nil_left,List.all_nil,Bool.and_true];symm;rw[beq_eq_false_iff_ne];omega
 |cons k ks ih =>
  cases cs with
  |nil=>simp only[List.map_nil,Qo,List.length_nil,List.length_cons,List.zip_nil_right,List.all_nil,Bool.and_true];symm;rw[beq_eq_false_iff_ne];omega
  |cons c cs =>
   simp only[List.map_cons,Qo,ih,List.length_cons,List.zip_cons_cons,List.all_cons]
   have e:(((cs.length+1:Nat):Int)==((ks.length+1:Nat):Int))=((cs.length:Int)==(ks.length:Int)):=by
    apply Bool.eq_iff_iff.2;simp only[beq_iff_eq];omega
   rw[e];cases Jb c (t.at k).kind<;>simp
theorem Q4c (t:Q1) (l:List Int) (c:Int):Q25 t l (Jb c)=Q77 t l (List.replicate l.length c):=by
 rw[← Xh,List.map_replicate];unfold Q25
 induction l with
 |nil=>rfl
 |cons k ks ih=>simp only[List.all_cons,List.length_cons,List.replicate_succ,Qo,ih]
theorem Q9i (t:Q1) (l:List Int):l.isEmpty=Q77 t l []:=by
 rw[← Xh];cases l<;>rfl
theorem Q73 {t:Q1} {l cs:List Int} (h:cs.length≠l.length):Q77 t l cs=false:=by
 unfold Q77;have:(((cs.length:Int)==(l.length:Int)))=false:=by rw[beq_eq_false_iff_ne];omega
 rw[this];rfl
theorem Qkn (t:Q1) (k c:Int) (l cs:List Int):Q77 t (k::l) (c::cs)=(Jb c (t.at k).kind&&Q77 t l cs):=by rw[← Xh,← Xh];rfl
theorem Qkx (t:Q1) (k c:Int) (l cs:List Int) (h:cs.length=l.length):Q77 t (l++[k]) (cs++[c])=(Q77 t l cs&&Jb c (t.at k).kind):=by
 unfold Q77;rw[List.zip_append h.symm,List.all_append,List.length_append,List.length_append,h];simp
theorem Ql2 (t:Q1) (n:Qn) (hk:1≤n.kind∧n.kind≤34):Qbk t n=Q77 t n.kids (Yu n.kind n.kids.length):=by
 obtain⟨k,s,i,l⟩:=n;dsimp only at hk ⊢;unfold Qbk;dsimp only
 by_cases c1:k≤11
 ·rw[Ps (show Qu k=true by simp[Qu,Q9];omega)]
  unfold X9 Yu;dsimp only
  by_cases a1:k=1∨k=2∨k=3∨k=4∨k=5∨k=6
  ·rw[Ps a1]
   have e:Yu k l.length=[]:=by rcases a1 with h|h|h|h|h|h<;>subst h<;>rfl
   rw[show Yu k l.length=_ from rfl] at e;unfold Yu at e;rw[e];exact Q9i t l
  rw[Ng a1]
  by_cases a7:k=7
  ·rw[Ps a7,Ps a7,← Q5c];exact Q4c t l 1
  rw[Ng a7,Ng a7]
  by_cases a8:k=8∨k=10
  ·rw[Ps a8,Ps a8,← Q5c];exact Xh t l [1,1]
  rw[Ng a8,Ng a8]
  by_cases a9:k=9
  ·rw[Ps a9,Ps (.inl a9),← Q5c];exact Xh t l [1]
  rw[Ng a9,Ng (show ¬ (k=9∨k=12∨k=13∨k=14∨k=15∨k=19∨k=23∨k=26∨k=28) by omega),Ps (show k=11 by omega),← Q5c,← Qbl]
  match l with
  |[]=>rw[Q73 Sm]
  |[x]=>rw[Q73 Sm]
  |x::y::r =>
   show (Jb 1 (t.at x).kind&&Q25 t (y::r) (Jb 6))=Q77 t (x::y::r) (1::6::List.replicate ((r.length+1+1)-2) 6)
   rw[Qkn,Q4c];rfl
 rw[Ng (show ¬ Qu k=true by simp[Qu,Q9];omega)]
 by_cases c2:k≤26
 ·rw[Ps (show Zs k=true by simp[Zs,Q9];omega)]
  unfold Z3 Yu;dsimp only;rw[Ng (show ¬ k=7 by omega),Ng (show ¬ (k=8∨k=10) by omega)]
  by_cases a1:k=12∨k=13∨k=14∨k=15∨k=19∨k=23∨k=26
  ·rw[Ps a1,Ps (show (k=9∨k=12∨k=13∨k=14∨k=15∨k=19∨k=23∨k=26∨k=28) by omega),← Q5c];exact Xh t l [1]
  rw[Ng a1,Ng (show ¬ (k=9∨k=12∨k=13∨k=14∨k=15∨k=19∨k=23∨k=26∨k=28) by omega),Ng (show ¬ k=11 by omega)]
  by_cases a16:k=16
  ·rw[Ps a16,Ps a16,← Q5c,← Q7o]
   rw[show ([Jb 1,Jb 3]:List (Int→Bool))=[1,3].map Jb from rfl,show ([Jb 1,Jb 3,Jb 3]:List (Int→Bool))=[1,3,3].map Jb from rfl,Xh,Xh]
   by_cases h3:l.length=3
   ·rw[Ps h3,Q73 (cs:=[1,3]) (by rw[h3];decide),Bool.false_or]
   ·rw[Ng h3,Q73 (cs:=[1,3,3]) (fun h=>h3 h.symm),Bool.or_false]
  rw[Ng a16,Ng a16]
  by_cases a17:k=17
  ·rw[Ps a17,Ps a17,← Q5c,← Q7o];exact Xh t l [1,3]
  rw[Ng a17,Ng a17]
  by_cases a18:k=18
  ·rw[Ps a18,Ps a18,← Q7o,← Qmu,← Qmz];exact Xh t l [4,5,3]
  rw[Ng a18,Ng a18]
  by_cases a20:k=20
  ·rw[Ps a20,Ps a20,← Q7o,← Qbl];exact Xh t l [6,3]
  rw[Ng a20,Ng a20]
  by_cases a21:k=21
  ·rw[Ps a21,Ps a21,← Qmy];exact Q4c t l 8
  rw[Ng a21,Ng a21]
  by_cases a25:k=25
  ·rw[Ps a25,Ps a25,← Qmd];exact Xh t l [10]
  rw[Ng a25,Ng a25,Ng (show ¬ k=27 by omega),Ng (show ¬ k=29 by omega),Ng (show ¬ k=30 by omega),Ng (show ¬ k=33 by omega),Ng (show ¬ k=34 by omega)];exact Q9i t l
 rw[Ng (show ¬ Zs k=true by simp[Zs,Q9];omega)];unfold Jf Yu;dsimp only;rw[Ng (show ¬ k=7 by omega),Ng (show ¬ (k=8∨k=10) by omega)]
 by_cases a28:k=28
 ·rw[Ng (show ¬ k=27 by omega),Ps a28,Ps (show (k=9∨k=12∨k=13∨k=14∨k=15∨k=19∨k=23∨k=26∨k=28) by omega),← Q5c];exact Xh t l [1]
 rw[Ng a28,Ng (show ¬ (k=9∨k=12∨k=13∨k=14∨k=15∨k=19∨k=23∨k=26∨k=28) by omega),Ng (show ¬ k=11 by omega),Ng (show ¬ k=16 by omega),Ng (show ¬ k=17 by omega),Ng (show ¬ k=18 by omega),Ng (show ¬ k=20 by omega),Ng (show ¬ k=21 by omega),Ng (show ¬ k=25 by omega)]
 by_cases a27:k=27
 ·rw[Ps a27,Ps a27,← Qn8];exact Q4c t l 2
 rw[Ng a27,Ng a27]
 by_cases a29:k=29
 ·rw[Ps a29,Ps a29,← Qbl]
  cases l with
  |nil=>rw[Q73 Sm];rfl
  |cons x r=>rw[Q4c];rfl
 rw[Ng a29,Ng a29]
 by_cases a30:k=30
 ·rw[Ps a30,Ps a30,← Qbl];exact Q4c t l 6
 rw[Ng a30,Ng a30]
 by_cases a31:k=31∨k=32
 ·rw[Ps a31,Ng (show ¬ k=33 by omega),Ng (show ¬ k=34 by omega)];exact Q9i t l
 rw[Ng a31]
 by_cases a33:k=33
 ·rw[Ps a33,Ps a33,← Qn2,← Q7o]
  cases hg:l.getLast? with
  |none =>
   have:l=[]:=by simpa using hg
   subst this;rfl
  |some b =>
   dsimp only;have hne:l≠[]:=by intro h9;rw[h9] at hg;cases hg
   have hl:l=l.dropLast++[b]:=by
    have h9:=hg;rw[List.getLast?_eq_some_getLast hne] at h9;cases h9;exact (List.dropLast_concat_getLast hne).symm
   have e:=Qkx t b 3 l.dropLast (List.replicate (l.length-1) 7) Sm;rw[← hl] at e;rw[e,Q4c];simp
 rw[Ng a33,Ng a33,Ps (show k=34 by omega),Ps (show k=34 by omega),← Q7o];exact Xh t l [3]
theorem Qn4 (n:Qn):Q2l n=(Q1c n&&Xk n):=by
 unfold Q2l
 by_cases h:n.kind=2
 ·rw[Ps h,Qmf]
  unfold Q1c Xk;rw[Ps h,Ng Om,Ng Om,Ng Om,Ng Om,Ng Om]
 ·rw[Ng h]
theorem Qdk {n:Qn} {c:Int} (t:Q1):(Q4a n c&&(Q3m n).all fun p=>Jb p.2 (t.at p.1).kind)=(Jb c n.kind&&((Q1c n&&Xk n)&&Qbk t n)):=by
 unfold Q4a;rw[Qn4];cases hr:Jb c n.kind with
 |false=>simp
 |true =>
  rw[Ql2 t n (Q80 hr)];unfold Q77 Q3m;cases (((Yu n.kind n.kids.length).length:Int)==(n.kids.length:Int))<;>cases (Q1c n&&Xk n)<;>simp
theorem Q5r {n:Qn} {c:Int} (h:Q4a n c=true):(Q3m n).map Prod.fst=n.kids:=by
 unfold Q4a at h;simp only[Bool.and_eq_true,beq_iff_eq] at h;unfold Q3m;exact List.map_fst_zip Om
theorem Qi6 {t:Q1} {i:Int} {c:Int} (h:Q4a (t.at i) c=true) (hk:∀p∈Q3m (t.at i),(0≤p.1∧p.1<i)∧Jb p.2 (t.at p.1).kind=true):Yf t i (t.at i)=true:=by
 have e:=Qdk (n:=t.at i) (c:=c) t;have ha:((Q3m (t.at i)).all fun p=>Jb p.2 (t.at p.1).kind)=true:=by rw[List.all_eq_true];exact fun p hp=>(hk p hp).2
 rw[h,ha] at e;simp only[Bool.and_self] at e;have e2:=e.symm;simp only[Bool.and_eq_true] at e2;obtain⟨_,e3,e4⟩:=e2;unfold Yf;simp only[Bool.and_eq_true];refine⟨⟨?_,e3⟩,e4⟩;rw[← Q5r h,List.all_eq_true];intro x hx;obtain⟨p,hp,rfl⟩:=List.mem_map.1 hx;have:=(hk p hp).1;simp[Q9];omega
theorem Qkv {t:Q1} {i:Int} {c:Int} (h:Yf t i (t.at i)=true) (hc:Jb c (t.at i).kind=true):Q4a (t.at i) c=true∧∀p∈Q3m (t.at i),(0≤p.1∧p.1<i)∧Jb p.2 (t.at p.1).kind=true:=by
 unfold Yf at h;simp only[Bool.and_eq_true] at h;obtain⟨⟨h1,h2⟩,h3⟩:=h;have e:=Qdk (n:=t.at i) (c:=c) t;have h4:Qbk t (t.at i)=true:=h3;have h5:(Q1c (t.at i)&&Xk (t.at i))=true:=by simp[h2.1,h2.2]
 rw[hc,h4,h5] at e;have e2:(Q4a (t.at i) c&&(Q3m (t.at i)).all fun p=>Jb p.2 (t.at p.1).kind)=true:=e;simp only[Bool.and_eq_true] at e2
 refine⟨e2.1,fun p hp=>⟨?_,List.all_eq_true.1 e2.2 p hp⟩⟩
 have:p.1∈(t.at i).kids:=by rw[← Q5r e2.1];exact List.mem_map.2 ⟨p,hp,rfl⟩
 have:=List.all_eq_true.1 h1 _ this;simp[Q9] at this;omega
def Q35 (t:Q1) (f:Nat) (l:List Int) (n:Int):Int:=l.foldl (fun m k=>if m<0 then -1 else Qv t f k m) n
theorem Qbu (t:Q1):∀(f:Nat) (i c n m:Int),0≤n→okS t f i c n=some m→Qv t f i n=m∧∀j,n≤j→j≤i→Yf t j (t.at j)=true:=by
 intro f
 induction f with
 |zero=>intro i c n m _ h;cases h
 |succ f ih =>
  intro i c n m hn h
  have kids:∀(l:List (Int×Int)) (n m:Int),0≤n→Q2v (okS t f) i l n=some m→Q35 t f (l.map Prod.fst) n=m∧(∀p∈l,(0≤p.1∧p.1<i)∧Jb p.2 (t.at p.1).kind=true)∧∀j,n≤j→j<m→Yf t j (t.at j)=true:=by
   intro l
   induction l with
   |nil=>intro n m hn h;cases h;exact⟨rfl,Sm,fun j a b=>by omega⟩
   |cons p l ihl =>
    obtain⟨k,c⟩:=p;intro n m hn h;simp only[Q2v] at h
    by_cases hk:i≤k
    ·rw[Ps hk] at h;cases h
    rw[Ng hk] at h;cases ho:okS t f k c n with
    |none=>rw[ho] at h;cases h
    |some x =>
     rw[ho] at h;obtain⟨e0,_,e1,e2,e3⟩:=Q6z ho;obtain⟨g1,g2⟩:=ih k c n x hn ho;obtain⟨q1,q2,q3⟩:=ihl x m Om h;refine⟨?_,?_,?_⟩
     ·show Q35 t f (l.map Prod.fst) (if n<0 then -1 else Qv t f k n)=m
      rw[Ng Om,g1];exact q1
     ·intro p hp
      rcases List.mem_cons.1 hp with rfl|hp
      ·refine⟨⟨e0,by dsimp only;omega⟩,?_⟩
       unfold Q4a at e3;simp only[Bool.and_eq_true] at e3;exact e3.1.1
      ·exact q2 p hp
     ·intro j a b
      by_cases hj:j≤k
      ·exact g2 j a hj
      ·exact q3 j Om b
  simp only[okS] at h
  by_cases hi:0≤i∧i<t.nodes.length
  ·rw[Ps hi] at h
   by_cases hl:Q4a (t.at i) c=true
   ·rw[Ps hl] at h
    obtain⟨rfl,h2⟩:=Q4o h;obtain⟨q1,q2,q3⟩:=kids _ _ _ hn h2;rw[Q5r hl] at q1;refine⟨?_,?_⟩
    ·show (let m:=Q35 t f (t.at i).kids n;if m<0 then -1 else if i=m then m+1 else -1)=i+1
     dsimp only;rw[q1,Ng Om,Ps rfl]
    ·intro j a b
     by_cases hj:j=i
     ·subst hj;exact Qi6 hl q2
     ·exact q3 j a Om
   ·rw[Ng hl] at h;cases h
  ·rw[Ng hi] at h;cases h
theorem Qaw {t:Q1} (h:Qs t=true) {i:Int} (hi:InT t i):Yf t i (t.at i)=true:=by
 obtain⟨h0,h1⟩:=hi;obtain⟨m,rfl⟩:=En h0;exact List.all_eq_true.1 h m (List.mem_range.2 Om)
theorem Qcj {t:Q1} (hN:Qs t=true):∀(f:Nat) (i c n:Int),0≤n→InT t i→Jb c (t.at i).kind=true→0≤Qv t f i n→okS t f i c n=some (Qv t f i n):=by
 intro f
 induction f with
 |zero=>intro i c n _ _ _ h;simp[Qv] at h
 |succ f ih =>
  intro i c n hn hi hc h
  have kids:∀(l:List (Int×Int)) (n:Int),0≤n→(∀p∈l,(0≤p.1∧p.1<i)∧Jb p.2 (t.at p.1).kind=true)→0≤Q35 t f (l.map Prod.fst) n→Q2v (okS t f) i l n=some (Q35 t f (l.map Prod.fst) n):=by
   intro l
   induction l with
   |nil=>intro n _ _ _;rfl
   |cons p l ihl =>
    obtain⟨k,c⟩:=p;intro n hn hp hf;obtain⟨hk,hr⟩:=hp (k,c) Sm;dsimp only at hk hr
    have e:Q35 t f (((k,c)::l).map Prod.fst) n=Q35 t f (l.map Prod.fst) (Qv t f k n):=by
     show Q35 t f (l.map Prod.fst) (if n<0 then -1 else Qv t f k n)=_
     rw[Ng Om]
    rw[e] at hf ⊢
    have h0:0≤Qv t f k n:=by
     rcases Q3h t f k n with e2|e2
     ·rw[e2] at hf
      unfold Q35 at hf;rw[Q75] at hf;omega
     ·omega
    simp only[Q2v];rw[Ng Om,ih k c n hn ⟨hk.1,by have:=hi.2;omega⟩ hr h0];exact ihl _ h0 (fun p hq=>hp p (by simp[hq])) hf
  have e:Qv t (f+1) i n=(if Q35 t f (t.at i).kids n<0 then -1 else if i=Q35 t f (t.at i).kids n then Q35 t f (t.at i).kids n+1 else -1):=rfl;obtain⟨hl,hz⟩:=Qkv (Qaw hN hi) hc;have hl2:=Q5r hl;rw[e] at h ⊢;simp only[okS];rw[Ps (show 0≤i∧i<t.nodes.length from hi),Ps hl]
  by_cases h1:Q35 t f (t.at i).kids n<0
  ·rw[Ps h1] at h;omega
  by_cases h2:i=Q35 t f (t.at i).kids n
  ·rw[Ng h1,Ps h2]
   have:=kids _ n hn hz (by rw[hl2];omega);rw[hl2,← h2] at this;rw[this];simp only[Qe0,if_true];rw[← h2]
  ·rw[Ng h1,Ng h2] at h;omega
theorem Qcs (t:Q1):∀(l:List Int) (n:Int),0≤n→Q3n t l n=true→Q0o t l n=some (t.nodes.length:Int)∧∀j,n≤j→j<t.nodes.length→Yf t j (t.at j)=true:=by
 intro l
 induction l with
 |nil=>intro n hn h;simp[Q3n] at h;subst h;exact⟨rfl,fun j a b=>by omega⟩
 |cons i l ih =>
  intro n hn h;simp only[Q3n] at h;cases ho:okS t (i.toNat+1) i 9 n with
  |none=>rw[ho] at h;cases h
  |some m =>
   rw[ho] at h;obtain⟨e0,e4,e1,e2,e3⟩:=Q6z ho;obtain⟨g1,g2⟩:=Qbu t _ _ _ _ _ hn ho;obtain⟨q1,q2⟩:=ih m Om h;have hk:Jb 9 (t.at i).kind=true:=by unfold Q4a at e3;simp only[Bool.and_eq_true] at e3;exact e3.1.1
   have hk:=Qli.1 hk
   refine⟨?_,fun j a b=>?_⟩
   ·simp only[Q0o]
    rw[Ps (by simp[Q9];omega),g1,Ng Om];exact q1
   ·by_cases hj:j≤i
    ·exact g2 j a hj
    ·exact q2 j Om b
theorem Q5b {t:Q1} (hN:Qs t=true):∀(l:List Int) (n:Int),0≤n→Q0o t l n=some (t.nodes.length:Int)→Q3n t l n=true∧n+l.length≤t.nodes.length:=by
 intro l
 induction l with
 |nil=>intro n _ h;simp[Q0o] at h;subst h;exact⟨by simp[Q3n],Sm⟩
 |cons i l ih =>
  intro n hn h;simp only[Q0o] at h;split at h
  ·rename_i hw
   simp[Q9] at hw;split at h
   ·cases h
   ·rename_i h0
    have hi:InT t i:=⟨Om,Om⟩
    have hkk:Jb 9 (t.at i).kind=true:=by
     have hs:=Qaw hN hi;unfold Yf at hs;simp only[Bool.and_eq_true] at hs;have h3:=hs.2;rw[Ng (by simp[Qu,Q9];omega),Ng (by simp[Zs,Q9];omega)] at h3;unfold Jf at h3;rw[Ng Om,Ng Om,Ng Om,Ng Om,Ng Om] at h3;apply Qli.2
     by_cases a:(t.at i).kind=33
     ·exact .inl a
     ·rw[Ng a] at h3
      by_cases b:(t.at i).kind=34
      ·exact .inr b
      ·rw[Ng b] at h3;cases h3
    have ho:=Qcj hN (i.toNat+1) i 9 n hn hi hkk Om;obtain⟨e0,e4,e1,e2,e3⟩:=Q6z ho;obtain⟨q1,q2⟩:=ih _ Om h;refine⟨?_,?_⟩
    ·simp only[Q3n];rw[ho];exact q1
    ·rw[List.length_cons];omega
  ·cases h
theorem Q6m (t:Q1):Q6x t=Q00 t:=by
 have hs:∀j:Int,0≤j→Xj (List.replicate t.nodes.length false) j=false:=by
  intro j _;unfold Xj;cases h:(List.replicate t.nodes.length false)[j.toNat]? with
  |none=>rfl
  |some b=>have:=Mg h;simp at this;rw[this.2];rfl
 have hf:=Qda t t.tops 0 _ (Int.le_refl 0) hs;unfold Q6x Q00;rw[hf]
 by_cases h1:t.nodes.length≤4000
 ·rw[Dt h1]
  simp only[Bool.true_and];cases ho:Q3n t t.tops 0 with
  |true =>
   obtain⟨q1,q2⟩:=Qcs t _ _ (Int.le_refl 0) ho
   have hN:Qs t=true:=by
    unfold Qs;rw[List.all_eq_true];intro j hj;exact q2 j Om (by have:=List.mem_range.1 hj;omega)
   obtain⟨_,hl⟩:=Q5b hN _ _ (Int.le_refl 0) q1;rw[hN,q1];simp;omega
  |false =>
   rw[Bool.and_false];symm;cases hN:Qs t with
   |false=>rfl
   |true =>
    rw[Bool.true_and,beq_eq_false_iff_ne];intro h;have:=(Q5b hN _ _ (Int.le_refl 0) h).1;rw[this] at ho;cases ho
 ·rw[Df h1];rfl
def Q1a (l:List Bool):List Value:=l.map Value.bool
def Q6v (w:World) (sb:Nat) (r:Int×Bool×List Bool) (e:Ending) (w':World):Prop:=e=.returned (.tuple #[.int .i64 r.1,.bool r.2.1])∧Blk w' sb (Q1a r.2.2) 4∧Q0 (fun k=>k=sb) w w'
def Qk3 (t:Q1) (A3 A4:Option Addr) (c3 c4 f:Nat):Prop :=
 ∀(w:World) (sb:Nat) (seen:List Bool) (i class_ next:Int),(Qj (fun k=>k=sb) w fun w=>Xg w (.slice A3 t.nodes.length c3) t.nodes)→Blk w sb (Q1a seen) 4→seen.length=t.nodes.length→i<f→0≤next→next≤t.nodes.length →
  Calls prog 106 #[.agg #[.slice A3 t.nodes.length c3,.slice A4 t.tops.length c4],.int .i64 i,.int .i64 class_,.int .i64 next,.slice (some ⟨sb,0,none⟩) t.nodes.length t.nodes.length] w (Q6v w sb (Z9 t f i class_ next seen))
section
variable {t:Q1} {A3 A4:Option Addr} {c3 c4 f:Nat}
theorem Q97 (hsz:t.nodes.length≤4000) {w:World} {sb:Nat} {seen:List Bool} {i class_ next:Int} (hb:Blk w sb (Q1a seen) 4) (hi:¬ (0≤i∧i<t.nodes.length)) :
  Calls prog 106 #[.agg #[.slice A3 t.nodes.length c3,.slice A4 t.tops.length c4],.int .i64 i,.int .i64 class_,.int .i64 next,.slice (some ⟨sb,0,none⟩) t.nodes.length t.nodes.length] w (Q6v w sb (0,false,seen)):=by
 have hw1:IntKind.i64.wrap ((t.nodes.length:Int)-1)=(t.nodes.length:Int)-1:=by rw[IntKind.wrap_i64];omega
 have hw2:wrap64 ((t.nodes.length:Int)-1)=(t.nodes.length:Int)-1:=by unfold wrap64;omega
 have hwi:Q9 i 0 ((t.nodes.length:Int)-1)=false:=by
  cases h:Q9 i 0 ((t.nodes.length:Int)-1) with
  |false=>rfl
  |true=>simp[Q9] at h;omega
 have HB:=Hh hb;have HWI:=Hh hwi;clear hb hwi hi;go_enter func106,ntmps106;go_wp2_with (go_at_call 105;refine (Zl _ _ _ _).mono ?_;rw[HWI.o];rintro e w3 ⟨rfl,rfl⟩);go_returns;exact⟨rfl,HB.o.kept (S:=nob) Kz id,Q0.ofNob Kz _⟩
theorem Q86 (hsz:t.nodes.length≤4000) (hsm:Z1 t) (hX:Q0i t) (hF:Qk3 t A3 A4 c3 c4 f):Qk3 t A3 A4 c3 c4 (f+1):=by
 intro w sb seen i class_ next hN hb Qnm hif hn0 hn1
 by_cases hi:0≤i∧i<t.nodes.length
 case neg =>
  rw[show Z9 t (f+1) i class_ next seen=(0,false,seen) from by simp only[Z9];rw[Ng (fun h=>hi h.1)]];exact Q97 hsz hb hi
 obtain⟨mi,rfl,hnd⟩:=Q1.at_lt hi;have hml:(mi:Int)<t.nodes.length:=hi.2;obtain⟨sv,hsv⟩:=Q4 (xs:=seen) (j:=mi) Om;have hgs:Xj seen (mi:Int)=sv:=by simp[Xj,hsv]
 have hw1:IntKind.i64.wrap ((t.nodes.length:Int)-1)=(t.nodes.length:Int)-1:=by rw[IntKind.wrap_i64];omega
 have hw2:wrap64 ((t.nodes.length:Int)-1)=(t.nodes.length:Int)-1:=by unfold wrap64;omega
 have hwi:Q9 (mi:Int) 0 ((t.nodes.length:Int)-1)=true:=by simp[Q9];omega
 have HWI:=Hh hwi;have hkt:Q0 nob w (w.alloc (.cells #[.slice A3 t.nodes.length c3,.slice A4 t.tops.length c4] 33)):=(Kr _ _).alloc _;have hbt:=Blk.new w [.slice A3 t.nodes.length c3,.slice A4 t.tops.length c4] 33;have hst:(w.alloc (.cells #[.slice A3 t.nodes.length c3,.slice A4 t.tops.length c4] 33)).heap.size=w.heap.size+1:=Sm
 generalize hWT:w.alloc (.cells #[.slice A3 t.nodes.length c3,.slice A4 t.tops.length c4] 33)=WT at hkt hst;replace hbt:Blk WT w.heap.size [.slice A3 t.nodes.length c3,.slice A4 t.tops.length c4] 33:=hWT▸hbt;have hsb:=hb.lt;have hbs:=hb.kept hkt id;have g0:=hbt.cell 0 _ rfl;have e0:WT.cell? ⟨sb,mi,none⟩=some (.bool sv):=hbs.cell mi (.bool sv) (by simp[Q1a,hsv]);have e1:=hbs.free mi;have HKT:=Hh hkt;have HBT:=Hh hbt;have HBS:=Hh hbs;have HN:=Hh hN;have HF:=Hh hF;have HSV:=Hh hsv;cases sv with
 |true =>
  rw[show Z9 t (f+1) (mi:Int) class_ next seen=(0,false,seen) from by simp only[Z9];rw[Ng (fun h=>by rw[hgs] at h;cases h.2)]];clear hkt hbt hb hbs hN hF hnd hi hgs hsv hwi;go_enter func106,ntmps106;go_wp2_with (go_at_call 105;refine (Zl _ _ _ _).mono ?_;rw[HWI.o];rintro e w3 ⟨rfl,rfl⟩);go_returns;exact⟨rfl,HBS.o.kept (S:=nob) Kz id,HKT.o.ofNob _⟩
 |false =>
 have hX0:Z9 t (f+1) (mi:Int) class_ next seen=(if Q4a (t.at mi) class_=true then Q2c mi (Xv (Z9 t f) mi (Q3m (t.at mi)) next (seen.set mi true)) else (0,false,seen.set mi true)):=by
  simp only[Z9];rw[Ps ⟨hi,hgs⟩];rfl
 generalize Z9 t (f+1) (mi:Int) class_ next seen=X at hX0 ⊢;have hk1:Q0 (fun k=>k=sb) w (WT.setCell ⟨sb,mi,none⟩ (.bool true)):=Q0.setCell (S:=fun k=>k=sb) (hkt.ofNob _) (p:=⟨sb,mi,none⟩) (.inl rfl) _
 have Qwn:Blk (WT.setCell ⟨sb,mi,none⟩ (.bool true)) sb (Q1a (seen.set mi true)) 4:=by
  have:=hbs.set mi (.bool true);rwa [show (Q1a seen).set mi (.bool true)=Q1a (seen.set mi true) from by simp[Q1a,List.map_set]] at this
 have Quh:=hbt.other (p:=⟨sb,mi,none⟩) (by show w.heap.size≠sb;omega) (.bool true);obtain⟨A,nb,no,nc,hv3,_,_,hA,hc⟩:=hN.nodes;injection hv3 with hv4 _ hv5
 subst hv4;subst hv5;obtain rfl:=hA Om;obtain⟨nk,Qni,Qnf⟩:=hc mi _ hnd;obtain⟨KA,kb,ko,kc,rfl,kl,klc,hKA,hkc⟩:=Qnf.ints;have Qrh:(WT.setCell ⟨sb,mi,none⟩ (.bool true)).heap.size=w.heap.size+1:=by simp[World.setCell,hst]
 obtain⟨d0,d1,d2,d3⟩:=Qni _ hk1;have g0':=Quh.cell 0 _ rfl;have HX1:=Hh (hX _ (Mg hnd));have hkm:(t.at mi).kids.length≤1048576:=hsm mi;clear Qni Qnf hc hA hnd hgs hsv hbt hb hbs hN hkt hi hwi;generalize t.at (mi:Int)=n at *;have HXX:=Hh hX0;have HK1:=Hh hk1;have Qyg:=Hh Qwn;have Qyh:=Hh Quh;have HKC:=Hh hkc;have HKA:=Hh hKA;clear hk1 Qwn Quh hkc hKA hF hX0;go_enter func106,ntmps106;go_upto_region 4 with (go_at_call 105;refine (Zl _ _ _ _).mono ?_;rw[HWI.o];rintro e w3 ⟨rfl,rfl⟩)
 generalize hW1:WT.setCell ⟨sb,mi,none⟩ (.bool true)=W1 at *;go_cut [12] (fun s12 wx=>∃p:Nat,s12=.pointer (some ⟨p,0,none⟩)∧Blk wx p [.int .i64 n.kind,.string n.text,.int .i64 n.i,.slice KA n.kids.length kc] 70∧Q0 nob W1 wx∧w.heap.size<p)
 case first =>
  go_wp2_with fail;go_meet;exact⟨_,rfl,Blk.new_of _ [_,_,_,_] _ Qrh.symm,(Kr _ _).alloc _,Om⟩
 case rest =>
 obtain⟨p,rfl,hb,hkx,hpl⟩:=hcut;obtain⟨wo,rfl⟩:∃wo:World,wo=wc:=⟨_,rfl⟩;have HKX:=Hh hkx;have y0:=hb.cell 0 _ rfl;have y1:=hb.cell 1 _ rfl;have y2:=hb.cell 2 _ rfl;have y3:=hb.cell 3 _ rfl;have HB:=Hh hb;clear hb hkx d0 d1 d2 d3 g0 g0' e0 e1 hW1;go_upto_region 5 with fail
 go_cut [13] (fun s13 wx=>s13=.bool (Ya n.kind==class_&&class_ != 0)∧wx=wo)
 case first =>
  cases t1:(Ya n.kind==class_) with
  |true=>go_wp2_with (go_at_call 133;refine (Q9v _ _).mono ?_;rintro e w3 ⟨rfl,rfl⟩);go_meet;exact⟨by rw[t1];rfl,rfl⟩
  |false=>go_wp2_with (go_at_call 133;refine (Q9v _ _).mono ?_;rintro e w3 ⟨rfl,rfl⟩);go_meet;exact⟨by rw[t1];rfl,rfl⟩
 case rest =>
 obtain⟨rfl,rfl⟩:=hcut;go_upto_if 50 with fail
 go_cut [13] (fun s13 wx=>s13=.bool (Jb class_ n.kind)∧wx=wc)
 case first =>
  cases t1:(class_==10) with
  |true =>
   go_wp2_with fail;go_meet;refine⟨?_,rfl⟩;unfold Jb;rw[Ps (by simpa using t1)]
  |false =>
   go_wp2_with fail;go_meet;refine⟨?_,rfl⟩;unfold Jb;rw[Ng (by simpa using t1)]
 case rest =>
 obtain⟨rfl,rfl⟩:=hcut;have hKW:Q0 (fun k=>k=sb) w wc:=HK1.o.trans (HKX.o.ofNob _);have Qwo:Blk wc sb (Q1a (seen.set mi true)) 4:=Qyg.o.kept HKX.o id;have HKW:=Hh hKW;have Qsq:=Hh Qwo;have HTB:=Hh (Qyh.o.kept HKX.o id);clear hKW Qwo;cases hr:Jb class_ n.kind with
 |false =>
  have HXF:Hi (X=(0,false,seen.set mi true)):=Hh (by rw[HXX.o,Ng (by unfold Q4a;rw[hr];simp)]);go_wp2_with (go_at_call 134;refine (Q4m n.kind hkm).mono ?_;rintro e w4 ⟨v,rfl,hst,hk4⟩;have HST:=Hh hst;have HK4:=Hh hk4;have HB4:=Hh (HB.o.kept hk4 id);have y0':=HB4.o.cell 0 _ rfl;have y1':=HB4.o.cell 1 _ rfl;have y2':=HB4.o.cell 2 _ rfl;have y3':=HB4.o.cell 3 _ rfl;clear hst hk4);go_returns;rw[HXF.o];exact⟨rfl,Qsq.o.kept (HK4.o.trans Kz) id,HKW.o.trans ((HK4.o.trans Kz).ofNob _)⟩
 |true =>
 have Qqn:=Q80 hr;cases hsl:(((Yu n.kind n.kids.length).length:Int)==(n.kids.length:Int)) with
 |false =>
  have HXF:Hi (X=(0,false,seen.set mi true)):=Hh (by rw[HXX.o,Ng (by unfold Q4a;rw[hsl];simp)]);go_wp2_with (go_at_call 134;refine (Q4m n.kind hkm).mono ?_;rintro e w4 ⟨v,he,hst,hk4⟩;rw[hsl] at he;subst he;have HST:=Hh hst;have HK4:=Hh hk4;clear hst hk4);go_returns;rw[HXF.o];exact⟨rfl,Qsq.o.kept (HK4.o.trans Kz) id,HKW.o.trans ((HK4.o.trans Kz).ofNob _)⟩
 |true =>
 have hlz:(Yu n.kind n.kids.length).length=n.kids.length:=by have h9:=hsl;rw[beq_iff_eq] at h9;omega
 have Qwp:sb<wc.heap.size:=Qsq.o.lt;cases hhs:Q2l n with
 |false =>
  have HXF:Hi (X=(0,false,seen.set mi true)):=Hh (by rw[HXX.o,Ng (by unfold Q4a;rw[hhs];simp)]);go_wp2_with (first|(go_at_call 134;refine (Q4m n.kind hkm).mono ?_;rintro e w4 ⟨v,he,hst,hk4⟩;rw[hsl] at he;subst he;obtain⟨SA,vb,vo,vc,rfl,sl,slc,hSA,hsc⟩:=(hst (fun k=>k=sb) (fun k e=>by rw[e];exact Qwp)).ints;have HSC:=Hh hsc;have HSA:=Hh hSA;have HK4:=Hh hk4;have HB4:=Hh (HB.o.kept hk4 id);have y0':=HB4.o.cell 0 _ rfl;have y1':=HB4.o.cell 1 _ rfl;have y2':=HB4.o.cell 2 _ rfl;have y3':=HB4.o.cell 3 _ rfl;clear hst hk4 hsc hSA)|(go_at_call 135;refine (Qe4 Qqn HX1.o n.kids).mono ?_;rw[show Q2l (⟨n.kind,n.text,n.i,n.kids⟩: Qn)=_ from hhs];rintro e w5 ⟨rfl,hk5⟩;have HK5:=Hh hk5;clear hk5));go_returns;rw[HXF.o];exact⟨rfl,Qsq.o.kept (HK4.o.trans (HK5.o.trans Kz)) id,HKW.o.trans ((HK4.o.trans (HK5.o.trans Kz)).ofNob _)⟩
 |true =>
 have HXK:Hi (X=Q2c mi (Xv (Z9 t f) mi (Q3m n) next (seen.set mi true))):=Hh (by rw[HXX.o,Ps (by unfold Q4a;rw[hr,hsl,hhs];rfl)]);go_wp2_with (first|(go_at_call 134;refine (Q4m n.kind hkm).mono ?_;rintro e w4 ⟨v,he,hst,hk4⟩;rw[hsl] at he;subst he;obtain⟨SA,vb,vo,vc,rfl,sl,slc,hSA,hsc⟩:=(hst (fun k=>k=sb) (fun k e=>by rw[e];exact Qwp)).ints;have HSC:=Hh hsc;have HSA:=Hh hSA;have HK4:=Hh hk4;have HB4:=Hh (HB.o.kept hk4 id);have y0':=HB4.o.cell 0 _ rfl;have y1':=HB4.o.cell 1 _ rfl;have y2':=HB4.o.cell 2 _ rfl;have y3':=HB4.o.cell 3 _ rfl;clear hst hk4 hsc hSA)|(go_at_call 135;refine (Qe4 Qqn HX1.o n.kids).mono ?_;rw[show Q2l (⟨n.kind,n.text,n.i,n.kids⟩: Qn)=_ from hhs];rintro e w5 ⟨rfl,hk5⟩;have HK5:=Hh hk5;clear hk5));have Qta:Q0 nob wc w5:=HK4.o.trans HK5.o;have hb5:=HB4.o.kept HK5.o id;have ht5:=HTB.o.kept Qta id;have hlp:sb≠p:=Om
 have Qtf:sb≠w.heap.size:=Om
 have HS3:Hi (∀W,Q0 (fun k=>k=sb) w5 W→W.cell? ⟨p,3,none⟩=some (.slice KA n.kids.length kc)∧W.cell? ⟨w.heap.size,0,none⟩=some (.slice (some ⟨nb,no,none⟩) t.nodes.length c3)∧W.cell? ⟨w.heap.size,1,none⟩=some (.slice A4 t.tops.length c4)):=Hh fun W hW =>
  ⟨hW.cell (fun e=>hlp e.symm) (hb5.cell 3 _ rfl),hW.cell (fun e=>Qtf e.symm) (ht5.cell 0 _ rfl),hW.cell (fun e=>Qtf e.symm) (ht5.cell 1 _ rfl)⟩
 have Qrn:Hi (Q0 (fun k=>k=sb) w w5):=Hh (HKW.o.trans (Qta.ofNob _));have HB5:Hi (Blk w5 sb (Q1a (seen.set mi true)) 4):=Hh (Qsq.o.kept Qta id);have HKK:=Hh (HK5.o.ofNob (fun k=>k=sb));clear Qta hb5 ht5 y0 y1 y2 y3 y0' y1' y2' y3';go_loopw [3,16] (fun nx k wr=>∃(j:Nat) (m:Int) (sj:List Bool),j≤n.kids.length∧k=.int .i64 j∧nx=.int .i64 m∧0≤m∧m≤t.nodes.length∧Hi (Q0 (fun k=>k=sb) w5 wr∧Blk wr sb (Q1a sj) 4∧sj.length=t.nodes.length∧X=Q2c mi (Xv (Z9 t f) mi ((Q3m n).drop j) m sj))) (fun _ k _=>n.kids.length-(intOf k).toNat)
 case atStart=>exact⟨0,next,seen.set mi true,Nat.zero_le _,rfl,rfl,hn0,hn1,Hh ⟨Kr _ _,HB5.o,by rw[List.length_set];exact Qnm,HXK.o⟩⟩
 case round =>
  obtain⟨j,m,sj,hj,rfl,rfl,hm0,hm1,HR⟩:=hrel;obtain⟨wo,rfl⟩:∃wo:World,wo=wr:=⟨_,rfl⟩;obtain⟨p3,q0,q1⟩:=HS3.o wo HR.o.1
  by_cases hlt:j<n.kids.length
  ·obtain⟨k,hk⟩:=Q4 hlt
   obtain⟨c,hc⟩:=Q4 (xs:=Yu n.kind n.kids.length) (j:=j) Om;obtain⟨rfl,_⟩:=HKA.o Om;obtain⟨rfl,_⟩:=HSA.o Om;have x1:=HKC.o j k hk wo (Qrn.o.trans HR.o.1);have x2:=HSC.o j c hc wo (HKK.o.trans HR.o.1)
   have HXJ:Hi (X=Q2c mi (if (mi:Int)≤k then (0,false,sj) else if (Z9 t f k c m sj).2.1 then Xv (Z9 t f) mi ((Q3m n).drop (j+1)) (Z9 t f k c m sj).1 (Z9 t f k c m sj).2.2 else (0,false,(Z9 t f k c m sj).2.2))):=Hh (by
    rw[HR.o.2.2.2,Qh (xs:=Q3m n) (j:=j) (x:=(k,c)) (by unfold Q3m;rw[List.getElem?_zip_eq_some];exact⟨hk,hc⟩)];rfl)
   have hjn:(j:Int)<(n.kids.length:Int):=Om
   have hjl:(j:Int)<((Yu n.kind n.kids.length).length:Int):=Om
   by_cases hki:(mi:Int)≤k
   ·have tk1:decide ((mi:Int)≤k)=true:=Dt hki
    have tk2:decide (k≥(mi:Int))=true:=Dt hki;have HXF:Hi (X=(0,false,sj)):=Hh (by rw[HXJ.o,Ps hki];rfl);clear hki hk hc;go_wp2_with fail;go_returns;rw[HXF.o];exact⟨rfl,HR.o.2.1,Qrn.o.trans HR.o.1⟩
   ·have tk1:decide ((mi:Int)≤k)=false:=Df hki
    have tk2:decide (k≥(mi:Int))=false:=Df hki;rw[Ng hki] at HXJ
    have Qnh:Hi (∀W,Q0 nob wo W→Calls prog 106 #[.agg #[.slice (some ⟨nb,no,none⟩) t.nodes.length c3,.slice A4 t.tops.length c4],.int .i64 k,.int .i64 c,.int .i64 m,.slice (some ⟨sb,0,none⟩) t.nodes.length t.nodes.length] W (Q6v W sb (Z9 t f k c m sj))):=Hh fun W hW =>
     HF.o W sb sj k c m (HN.o.kept (Qrn.o.trans (HR.o.1.trans (hW.ofNob _)))) (HR.o.2.1.kept hW id) HR.o.2.2.1 Om hm0 hm1
    have HAF:Hi ((Z9 t f k c m sj).2.1=true→0≤(Z9 t f k c m sj).1∧(Z9 t f k c m sj).1≤t.nodes.length):=Hh fun h=>by have:=Q87 h;omega
    have HLN:Hi ((Z9 t f k c m sj).2.2.length=t.nodes.length):=Hh (by rw[Qam];exact HR.o.2.2.1);generalize Z9 t f k c m sj=q at Qnh HXJ HAF HLN;obtain⟨m',ok,s'⟩:=q;dsimp only at HXJ HAF HLN;have HKR:=Hh HR.o.1;have hs:=fun W (hW:Q0 (fun k=>k=sb) wo W)=>HS3.o W (HKR.o.trans hW)
    have hs3:∀W,Q0 (fun k=>k=sb) wo W→W.cell? ⟨p,3,none⟩=some (.slice (some ⟨kb,ko,none⟩) n.kids.length kc):=fun W hW=>(hs W hW).1
    have hs4:∀W,Q0 (fun k=>k=sb) wo W→W.cell? ⟨w.heap.size,0,none⟩=some (.slice (some ⟨nb,no,none⟩) t.nodes.length c3):=fun W hW=>(hs W hW).2.1
    have hs5:∀W,Q0 (fun k=>k=sb) wo W→W.cell? ⟨w.heap.size,1,none⟩=some (.slice A4 t.tops.length c4):=fun W hW=>(hs W hW).2.2
    have hs6:∀W,Q0 (fun k=>k=sb) wo W→W.cell? ⟨kb,ko+j,none⟩=some (.int .i64 k):=fun W hW=>HKC.o j k hk W (Qrn.o.trans (HKR.o.trans hW))
    have hs7:∀W,Q0 (fun k=>k=sb) wo W→W.cell? ⟨vb,vo+j,none⟩=some (.int .i64 c):=fun W hW=>HSC.o j c hc W (HKK.o.trans (HKR.o.trans hW))
    have hr0:Q0 (fun k=>k=sb) wo wo:=Kr _ _;clear hki hk hc hs HR;go_upto_region 16 with fail
    go_region_held3 (fun W=>Q0 (fun k=>k=sb) wo W) (first|assumption|exact hr0.drew|exact Kd ‹_›) ((go_at_call 106;refine (Qnh.o _ (Kr _ _).drew).mono ?_;rintro e w2 ⟨rfl,hb2,hk2⟩;have HB2:=Hh hb2;have hkx:=hr0.drew.trans hk2;clear hb2 hk2;dsimp only));cases ok with
    |false =>
     go_wp2_with fail;go_returns;have HXF:X=(0,false,s'):=by rw[HXJ.o];rfl
     rw[HXF];exact⟨rfl,HB2.o,Qrn.o.trans (HKR.o.trans hkx)⟩
    |true =>
     go_wp2_with fail;go_roundw
     case rel=>exact⟨j+1,m',s',Om,Gm,rfl,(HAF.o rfl).1,(HAF.o rfl).2,Hh ⟨HKR.o.trans hkx,HB2.o,HLN.o,HXJ.o⟩⟩
     case measure=>exact Me
  ·have hjn:¬ (j:Int)<(n.kids.length:Int):=Om
   have HXE:Hi (X=(m+1,m==(mi:Int),sj)):=Hh (by
    rw[HR.o.2.2.2,Dn (by unfold Q3m;rw[List.length_zip];omega)];rfl)
   go_wp2_with fail;go_returns;rw[HXE.o];exact⟨rfl,HR.o.2.1,Qrn.o.trans HR.o.1⟩
end
end Go.Proofs.YtkgkafjachjafaaGreat
