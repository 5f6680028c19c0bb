/- Part 39 of y_holds; no condition. -/
import Derived.Test.YtkgkafjachjafaaGreatY31
import Derived.Test.YtkgkafjachjafaaGreatY36
import Derived.Test.YtkgkafjachjafaaGreatY38
set_option linter.unusedVariables false
set_option maxHeartbeats 4000000
set_option maxRecDepth 100000
open Go Go.RowKit
namespace Go.Proofs.YtkgkafjachjafaaGreat
open Tryz
theorem Q9e {t:Q1} (hn:Qs t=true) (hK:Qk t) {i:Int} (hi:InT t i) (hk:33≤(t.at i).kind):∃ps b,Qgj t i ps b:=by
 have hs:=Q13 hn hi Om;unfold Jf at hs;rw[Ng Om,Ng Om,Ng Om,Ng Om,Ng Om] at hs
 obtain⟨ps,b,Qnf,hbk⟩:∃ps b,(t.at i).kids=ps++[b]∧(t.at b).kind=27:=by
  by_cases h33:(t.at i).kind=33
  ·rw[Ps h33] at hs
   cases hg:(t.at i).kids.getLast? with
   |none=>rw[hg] at hs;cases hs
   |some b =>
    rw[hg] at hs;simp only[Bool.and_eq_true] at hs;have hne:(t.at i).kids≠[]:=by intro h9;rw[h9] at hg;cases hg
    rw[List.getLast?_eq_some_getLast hne] at hg;cases hg;exact⟨_,_,(List.dropLast_concat_getLast hne).symm,by simpa[isK] using hs.2⟩
  ·rw[Ng h33] at hs
   by_cases h34:(t.at i).kind=34
   ·rw[Ps h34] at hs
    obtain⟨b,hb,h2⟩:=Xc hs;exact⟨[],b,by rw[hb];rfl,Yq h2⟩
   ·rw[Ng h34] at hs;cases hs
 have hb9:InT t b:=hi.kid hK (by rw[Qnf];simp)
 refine⟨ps,b,Qnf,Q1h hn hb9 hbk,fun l hl h26=>?_⟩
 have hli:=hb9.kid hK (List.mem_of_getLast? hl);have hs9:=Yr hn hli (by rw[h26];rfl);unfold Z3 at hs9;rw[h26,Ps Dc] at hs9;obtain⟨e,he,_⟩:=Xc hs9;exact⟨e,[],he⟩
def Q47 (r:Reg) (t:Q1) (s:SS) (k:Nat):SS:=if s.code=0 then topS r t s k else s
theorem Qbs {r:Reg} {t:Q1} (l:List Nat) {s:SS} (h:s.code≠0):l.foldl (Q47 r t) s=s:=by
 induction l with
 |nil=>rfl
 |cons k l ih=>rw[List.foldl_cons];unfold Q47;rw[Ng h];exact ih
theorem Qil (t:Q1) (W:World) (r0 r1 r2 t0 t1:Value) (hN:t.nodes.length≤4000) {W1:World} (hW1:W1=W.alloc (.cells (Q5 (List.replicate t.nodes.length 0)).toArray 3 (0,0))) :
  SpR (W1.alloc (.cells (Qcg r0 r1 r2 t0 t1 (.slice (some ⟨W.heap.size,0,none⟩) t.nodes.length t.nodes.length) (Q0j t) (.slice none 0 0) (.slice none 0 0) (.slice none 0 0)).toArray 124 (0,0))) W1.heap.size W.heap.size
   r0 r1 r2 t0 t1 (.slice (some ⟨W.heap.size,0,none⟩) t.nodes.length t.nodes.length) (Q0j t) (.slice none 0 0) (.slice none 0 0) (.slice none 0 0):=by
 have hl:(Q5 (List.replicate t.nodes.length 0)).length=t.nodes.length:=by simp[Q5]
 have h1:W1.heap.size=W.heap.size+1:=by rw[hW1];simp
 have hO:Qc (fun k=>k=W.heap.size) 3 W1 (.slice (some ⟨W.heap.size,0,none⟩) t.nodes.length t.nodes.length) (Q5 (List.replicate t.nodes.length 0)):=by
  rw[hW1];exact Qc.lit (fun k=>k=W.heap.size) _ W _ rfl (by rw[hl];omega) rfl hl.symm hl.symm
 refine⟨Blk.new_of _ _ _ rfl,Om,So,hO.alloc _,Q6n _ _,Qcl _ _,Q6n _ _⟩
def Ql9 (w:World) (z:SS) (e:Ending) (w':World):Prop:=∃wb gb r0 r1 r2 t0 t1 ov nv kv wv,e=.returned (.pointer (some ⟨wb,0,none⟩))∧SpR w' wb gb r0 r1 r2 t0 t1 ov z nv kv wv∧Q0 nob w w'
section
variable {r:Reg} {t:Q1} {w:World} {rv tv:Value}
theorem Qik (hn:Qs t=true) (hK:Qk t) (hsm:Z1 t) (hsz:t.nodes.length≤4000) (htk:∀i∈t.tops,InT t i∧33≤(t.at i).kind) (htl:t.tops.length≤4000) (hr:Q20 w rv r) (ht:Xt w tv t) :
  Calls prog 71 #[rv,tv] w (Ql9 w (Q6w r t)):=by
 obtain⟨X,hX⟩:∃X,X=Q6w r t:=⟨_,rfl⟩;have HX:Hi (X=(List.range t.tops.length).foldl (Q47 r t) (Q0j t)):=Hh (by rw[hX];rfl);rw[← hX];clear hX;obtain⟨v0,v1,v2,rfl,d0,d1,d2⟩:=hr;obtain⟨u0,u1,rfl,e0,e1⟩:=ht;have Qny:∀(u:Value) (ds:List Zt),Ji w u ds→∃A c,u=.slice A ds.length c:=fun u ds ⟨A,b,o,c,h,_⟩=>⟨A,c,h⟩
 obtain⟨A0,c0,rfl⟩:=Qny _ _ d0;obtain⟨A1,c1,rfl⟩:=Qny _ _ d1;obtain⟨A2,c2,rfl⟩:=Qny _ _ d2;obtain⟨A3,c3,rfl⟩:∃A c,u0=.slice A t.nodes.length c:=by obtain⟨A,b,o,c,h,_⟩:=e0;exact⟨A,c,h⟩
 obtain⟨A4,c4,rfl⟩:∃A c,u1=.slice A t.tops.length c:=by obtain⟨A,b,o,c,h,_⟩:=e1;exact⟨A,c,h⟩
 clear Qny;have hk0:Q0 nob w ((w.alloc (.cells #[.slice A0 r.comps.length c0,.slice A1 r.ress.length c1,.slice A2 r.evts.length c2] 38)).alloc (.cells #[.slice A3 t.nodes.length c3,.slice A4 t.tops.length c4] 33)):=((Kr _ _).alloc _).alloc _;have hb1:Blk ((w.alloc (.cells #[.slice A0 r.comps.length c0,.slice A1 r.ress.length c1,.slice A2 r.evts.length c2] 38)).alloc (.cells #[.slice A3 t.nodes.length c3,.slice A4 t.tops.length c4] 33)) w.heap.size [.slice A0 r.comps.length c0,.slice A1 r.ress.length c1,.slice A2 r.evts.length c2] 38:=(Blk.new_of _ _ _ rfl).alloc _;have hb2:Blk ((w.alloc (.cells #[.slice A0 r.comps.length c0,.slice A1 r.ress.length c1,.slice A2 r.evts.length c2] 38)).alloc (.cells #[.slice A3 t.nodes.length c3,.slice A4 t.tops.length c4] 33)) (w.heap.size+1) [.slice A3 t.nodes.length c3,.slice A4 t.tops.length c4] 33:=Blk.new_of _ _ _ Sm;have hs0:((w.alloc (.cells #[.slice A0 r.comps.length c0,.slice A1 r.ress.length c1,.slice A2 r.evts.length c2] 38)).alloc (.cells #[.slice A3 t.nodes.length c3,.slice A4 t.tops.length c4] 33)).heap.size=w.heap.size+2:=Sm
 generalize hW0:(w.alloc (.cells #[.slice A0 r.comps.length c0,.slice A1 r.ress.length c1,.slice A2 r.evts.length c2] 38)).alloc (.cells #[.slice A3 t.nodes.length c3,.slice A4 t.tops.length c4] 33)=W0 at hk0 hb1 hb2 hs0;have g0:=hb1.cell 0 _ rfl;have g1:=hb1.cell 1 _ rfl;have g2:=hb1.cell 2 _ rfl;have g3:=hb2.cell 0 _ rfl;have g4:=hb2.cell 1 _ rfl;have hmk:=Qay t.nodes.length hsz;have hka:Q0 nob W0 (W0.alloc (.cells (Q5 (List.replicate t.nodes.length 0)).toArray 3)):=(Kr _ _).alloc _;have g0':=hka.cell (fun h=>h) g0;have g1':=hka.cell (fun h=>h) g1;have g2':=hka.cell (fun h=>h) g2;have g3':=hka.cell (fun h=>h) g3;have g4':=hka.cell (fun h=>h) g4;have HG4:=Hh (fun W (hW:Q0 (Q6 W0.heap.size) W0 W)=>hW.cell (a:=⟨w.heap.size+1,1,none⟩) (fun e=>by have:W0.heap.size≤w.heap.size+1:=e;omega) g4);have HK0:=Hh hk0
 have HFX:Hi (∀W wb gb,W0.heap.size≤wb→W0.heap.size≤gb→Q0 nob W0 W→Xl (at2 wb gb) W r t (.slice A0 r.comps.length c0) (.slice A1 r.ress.length c1) (.slice A2 r.evts.length c2) (.slice A3 t.nodes.length c3) (.slice A4 t.tops.length c4)):=Hh fun W wb gb h1 h2 hk=>by
  have Qop:∀W',Q0 (at2 wb gb) W W'→Xi w W':=fun W' hk'=>(((hk0.trans hk).ofNob _).trans hk').oldS (fun k hk e=>by rcases e with e|e<;>omega)
  exact⟨fun W' hk'=>d0.old (Qop W' hk'),fun W' hk'=>d1.old (Qop W' hk'),fun W' hk'=>d2.old (Qop W' hk'),fun W' hk'=>e0.old (Qop W' hk'),fun W' hk'=>e1.old (Qop W' hk')⟩
 have HMK:=Hh hsz;have Qr1:Hi (∀i∈t.tops,InT t i):=Hh fun i hi=>(htk i hi).1
 have HTK:=Hh htk;have HN:=Hh hn;have HKO:=Hh hK;have HSM:=Hh hsm;have Qwl:Qz t (Q0j t):=⟨by simp[Q0j],rfl,by simp[Q0j],by simp[Q0j],by simp[Q0j]⟩;have Qyd:=Hh Qwl;clear hb1 hb2 hka hk0 d0 d1 d2 e0 e1 htk hn hK hsm Qwl;go_enter func71,ntmps71;go_upto_region 1 with fail
 go_cut [5] (fun s5 wx=>∃wb gb ov,s5=.pointer (some ⟨wb,0,none⟩)∧SpR wx wb gb (.slice A0 r.comps.length c0) (.slice A1 r.ress.length c1) (.slice A2 r.evts.length c2) (.slice A3 t.nodes.length c3) (.slice A4 t.tops.length c4) ov (Q0j t) (.slice none 0 0) (.slice none 0 0) (.slice none 0 0)∧W0.heap.size≤wb∧W0.heap.size≤gb∧Q0 nob W0 wx)
 case first =>
  go_region
  all_goals go_wp2_with fail
  all_goals go_meet
  have h9:=(Qil t W0 (.slice A0 r.comps.length c0) (.slice A1 r.ress.length c1) (.slice A2 r.evts.length c2) (.slice A3 t.nodes.length c3) (.slice A4 t.tops.length c4) hsz rfl).drew;have e9:(W0.alloc (.cells (Q5 (List.replicate t.nodes.length 0)).toArray 3 (0,0))).heap.size=w.heap.size+2+1:=by simp[hs0]
  rw[e9,hs0] at h9;exact⟨_,_,_,rfl,h9,Om,Om,(((Kr _ _).alloc _).alloc _).drew⟩
 case rest =>
  obtain⟨wb,gb,ov,rfl,hsp,hwb,hgb,hk1⟩:=hcut;obtain⟨W1,rfl⟩:∃W1,W1=wc:=⟨_,rfl⟩;have Qye:=Hh (HFX.o W1 wb gb hwb hgb hk1);have HSP:=Hh hsp;have HK1:=Hh hk1;clear g0 g1 g2 g3 g4 g0' g1' g2' g3' g4' hsp hk1 hmk;go_wp2_with fail;go_loopw [6] (fun m wr=>∃(j:Nat) (z:SS) (nv kv wv:Value),j≤t.tops.length∧m=.int .i64 j∧Hi (AtW W1 wb gb (.slice A0 r.comps.length c0) (.slice A1 r.ress.length c1) (.slice A2 r.evts.length c2) (.slice A3 t.nodes.length c3) (.slice A4 t.tops.length c4) ov z nv kv wv wr∧Qz t z∧X=((List.range t.tops.length).drop j).foldl (Q47 r t) z)) (fun m _=>t.tops.length-(intOf m).toNat)
  case atStart=>exact⟨0,Q0j t,_,_,_,Nat.zero_le _,rfl,Hh ⟨⟨HSP.o,Kr _ _⟩,Qyd.o,HX.o⟩⟩
  case round =>
   obtain⟨j,z,nv,kv,wv,hj,rfl,HR⟩:=hrel;obtain⟨wo,rfl⟩:∃wo:World,wo=wr:=⟨_,rfl⟩;have x13:wo.cell? ⟨wb,13,none⟩=some (.int .i64 z.code):=HR.o.1.1.blk.cell 13 _ rfl;have hkw:Q0 (Q6 W0.heap.size) W0 wo:=((HK1.o.ofNob _).trans (HR.o.1.2.mono (fun k _ e=>by show W0.heap.size≤k;rcases e with e|e<;>omega)));have x4:=HG4.o wo hkw;have HKW:Hi (Q0 nob w wo):=Hh ((HK0.o.trans HK1.o).then_ HR.o.1.2 (fun k e=>.inr (by rcases e with e|e<;>omega)));clear hkw
   by_cases hlt:j<t.tops.length
   ·have hjn:(j:Int)<(t.tops.length:Int):=Om
    cases hc:(z.code==0) with
    |false =>
     have HXE:Hi (X=z):=Hh (by rw[HR.o.2.2,Qbs _ (by simpa using hc)]);go_wp2_with fail;go_returns;rw[HXE.o];exact⟨wb,gb,_,_,_,_,_,ov,nv,kv,wv,rfl,HR.o.1.1,HKW.o⟩
    |true =>
     have hz0:z.code=0:=by simpa using hc
     obtain⟨i,hx⟩:=Q4 hlt;obtain⟨hi,h33⟩:=HTK.o i (Mg hx);obtain⟨ps,b,Qoy⟩:=Q9e HN.o HKO.o hi h33;have Qnh:=Hh (Qkw (r:=r) HN.o HKO.o HSM.o Qr1.o hsz HR.o.1.1 (Qye.o.kept HR.o.1.2) HR.o.2.1 hz0 hx Qoy)
     have HXJ:Hi (X=((List.range t.tops.length).drop (j+1)).foldl (Q47 r t) (topS r t z j)):=Hh (by
      rw[HR.o.2.2,Qh (xs:=List.range t.tops.length) (x:=j) (by simp[hlt]),List.foldl_cons];unfold Q47;rw[Ps hz0])
     have Qnx:=Hh (Qz.topS HKO.o Qr1.o r HR.o.2.1 hlt);have HKR:=Hh HR.o.1.2;clear hz0 hx hi h33 Qoy HR;generalize topS r t z j=z1 at Qnh HXJ Qnx;go_wp2_with (go_at_call 107;refine Qnh.o.mono ?_;rintro e w9 ⟨rfl,hat⟩);go_round
     case rel =>
      obtain⟨nv9,kv9,wv9,h9,k9⟩:=hat;exact⟨j+1,z1,nv9,kv9,wv9,Om,Gm,Hh ⟨⟨h9,HKR.o.trans k9⟩,Qnx.o,HXJ.o⟩⟩
     case measure=>exact Me
   ·have hje:j=t.tops.length:=Om
    have hjn:¬ (j:Int)<(t.tops.length:Int):=Om
    have HXE:Hi (X=z):=Hh (by rw[HR.o.2.2,Dn So];rfl);clear hje;go_wp2_with fail;go_returns;rw[HXE.o];exact⟨wb,gb,_,_,_,_,_,ov,nv,kv,wv,rfl,HR.o.1.1,HKW.o⟩
end
section
variable {t:Q1} {A3 A4:Option Addr} {c3 c4:Nat}
theorem Qh7 (hsz:t.nodes.length≤4000) (hsm:Z1 t) (hX:Q0i t) (f:Nat):Qk3 t A3 A4 c3 c4 (f+1):=by
 induction f with
 |zero =>
  intro w sb seen i class_ next hN hb Qnm hif hn0 hn1
  exact Q86 hsz hsm hX (f:=0) (fun w sb seen i class_ next hN hb Qnm hif hn0 hn1=>by
   have:=Q97 (class_:=class_) (next:=next) (A3:=A3) (A4:=A4) (c3:=c3) (c4:=c4) hsz hb (i:=i) Om;exact this) w sb seen i class_ next hN hb Qnm hif hn0 hn1
 |succ f ih=>exact Q86 hsz hsm hX ih
end
theorem Qgg (N:Nat) (hN:N≤4000) (w:World):(Instr.makeSlice 150 (.int .i64 (N:Int)) (.int .i64 (N:Int))).run prog w=.ok (.slice (some ⟨w.heap.size,0,none⟩) N N) (w.alloc (.cells (Q1a (List.replicate N false)).toArray 4 (0,0))):=by
 have hi:(prog.info? 4).map (fun i=>(i.zero,i.size,i.bytes))=some (some (.bool false),1,1):=Kf
 obtain⟨i0,hi0,hzz⟩:=Option.map_eq_some_iff.1 hi;simp only[Prod.mk.injEq] at hzz;obtain⟨hz0,hz1,hz2⟩:=hzz;have h:=run_make (P:=prog) w 150 4 i0 (.bool false) underlying150 hi0 hz0 .i64 .i64 (N:Int) (N:Int) Om Om (by rw[hz2];omega) Om;rw[h,hz1];simp only[Int.toNat_natCast,Nat.mul_one]
 rw[show Value.cells (.bool false)=#[.bool false] from rfl,show madeCells #[.bool false] N=(Q1a (List.replicate N false)).toArray from by
  apply Array.toList_inj.1;rw[toList_madeCells_one];simp[Q1a]]
theorem Q33 (t:Q1) (v:Value) (w:World) (hv:Xt w v t) (hx:Q0i t) (hsm:Z1 t) :
  Calls prog 70 #[v] w fun e w'=>e=.returned (.bool (Q6x t))∧Q0 nob w w':=by
 obtain⟨u0,u1,rfl,e0,e1⟩:=hv;obtain⟨A3,c3,rfl⟩:∃A c,u0=.slice A t.nodes.length c:=by obtain⟨A,b,o,c,h,_⟩:=e0;exact⟨A,c,h⟩
 obtain⟨A4,tb,tq,c4,rfl,tl,tlc,htA,htc⟩:=e1;have hk0:Q0 nob w (w.alloc (.cells #[.slice A3 t.nodes.length c3,.slice A4 t.tops.length c4] 33)):=(Kr _ _).alloc _;have hb:=Blk.new w [.slice A3 t.nodes.length c3,.slice A4 t.tops.length c4] 33;have hst:(w.alloc (.cells #[.slice A3 t.nodes.length c3,.slice A4 t.tops.length c4] 33)).heap.size=w.heap.size+1:=Sm
 generalize hW0:w.alloc (.cells #[.slice A3 t.nodes.length c3,.slice A4 t.tops.length c4] 33)=W0 at hk0 hst;replace hb:Blk W0 w.heap.size [.slice A3 t.nodes.length c3,.slice A4 t.tops.length c4] 33:=hW0▸hb;have g0:=hb.cell 0 _ rfl;have g1:=hb.cell 1 _ rfl;have HK0:=Hh hk0
 by_cases h1:t.nodes.length≤4000
 case neg =>
  have t1:decide ((t.nodes.length:Int)>4000)=true:=Dt Om;have t2:decide ((4000:Int)<(t.nodes.length:Int))=true:=Dt Om;have HX:Hi (Q6x t=false):=Hh (by unfold Q6x;rw[Df h1];rfl);clear h1 hb e0 htc hk0;go_enter func70,ntmps70;go_wp2_with fail;go_returns;rw[HX.o];exact⟨rfl,HK0.o⟩
 have t1:decide ((t.nodes.length:Int)>4000)=false:=Df Om;have t2:decide ((4000:Int)<(t.nodes.length:Int))=false:=Df Om
 by_cases h2:t.tops.length≤4000
 case neg =>
  have t3:decide ((t.tops.length:Int)>4000)=true:=Dt Om;have t4:decide ((4000:Int)<(t.tops.length:Int))=true:=Dt Om;have HX:Hi (Q6x t=false):=Hh (by unfold Q6x;rw[Df h2];simp);clear h1 h2 hb e0 htc hk0;go_enter func70,ntmps70;go_wp2_with fail;go_returns;rw[HX.o];exact⟨rfl,HK0.o⟩
 have t3:decide ((t.tops.length:Int)>4000)=false:=Df Om;have t4:decide ((4000:Int)<(t.tops.length:Int))=false:=Df Om;obtain⟨X,hX⟩:∃X,X=Q2s t t.tops 0 (List.replicate t.nodes.length false):=⟨_,rfl⟩;rw[show Q6x t=X from by unfold Q6x;rw[Dt h1,Dt h2,hX];rfl];have HX:=Hh hX;have hmk:=Qgg t.nodes.length h1;have hka:Q0 nob W0 (W0.alloc (.cells (Q1a (List.replicate t.nodes.length false)).toArray 4)):=(Kr _ _).alloc _;have hbs:=Blk.new_of W0 (Q1a (List.replicate t.nodes.length false)) 4 hst.symm;have hb1:=hb.kept hka id
 have HN:Hi (∀W,Q0 (Q6 W0.heap.size) W0 W→Qj (fun k=>k=w.heap.size+1) W fun w=>Xg w (.slice A3 t.nodes.length c3) t.nodes):=Hh fun W hW W' hW' =>
  e0.old ((((hk0.ofNob (Q6 (w.heap.size+1))).trans (hW.mono fun k _ h=>by rw[← hst];exact h)).trans (hW'.mono fun k _ h=>by show w.heap.size+1≤k;omega)).oldS fun k hk h=>by have:w.heap.size+1≤k:=h;omega)
 have HTC:Hi (∀j x,t.tops[j]?=some x→∀W,Q0 (Q6 W0.heap.size) W0 W→W.cell? ⟨tb,tq+j,none⟩=some (.int .i64 x)):=Hh fun j x hx W hW=>by
  have hc:=hk0.cell (fun h=>h) (htc j x hx);exact hW.cell (fun e=>by have:=World.block_lt_of_cell? W0 _ hc;have e2:W0.heap.size≤tb:=e;simp at this;omega) hc
 have HTA:=Hh htA
 have HS:Hi (∀W,Q0 (fun k=>k=w.heap.size+1) (W0.alloc (.cells (Q1a (List.replicate t.nodes.length false)).toArray 4)) W→Q0 (Q6 W0.heap.size) W0 W∧W.cell? ⟨w.heap.size,0,none⟩=some (.slice A3 t.nodes.length c3)∧W.cell? ⟨w.heap.size,1,none⟩=some (.slice A4 t.tops.length c4)):=Hh fun W hW =>
  ⟨(hka.ofNob _).trans (hW.mono fun k _ h=>by show W0.heap.size≤k;omega),hW.cell Sm (hb1.cell 0 _ rfl),hW.cell Sm (hb1.cell 1 _ rfl)⟩
 have HBS:=Hh hbs;have HSM:=Hh hsm;have HXT:=Hh hx;clear hb hb1 hbs e0 htc htA hk0 hX hsm hx;go_enter func70,ntmps70;go_wp2_with fail;generalize hW1:W0.alloc (.cells (Q1a (List.replicate t.nodes.length false)).toArray 4)=W1 at *;clear hmk g0 g1;go_loopw [4,5] (fun nx k wr=>∃(j:Nat) (m:Int) (sj:List Bool),j≤t.tops.length∧k=.int .i64 j∧nx=.int .i64 m∧0≤m∧m≤t.nodes.length∧Hi (Q0 (fun k=>k=w.heap.size+1) W1 wr∧Blk wr (w.heap.size+1) (Q1a sj) 4∧sj.length=t.nodes.length∧X=Q2s t (t.tops.drop j) m sj)) (fun _ k _=>t.tops.length-(intOf k).toNat)
 case atStart=>exact⟨0,0,_,Nat.zero_le _,rfl,rfl,Int.le_refl _,Om,Hh ⟨Kr _ _,HBS.o,Sm,HX.o⟩⟩
 case round =>
  obtain⟨j,m,sj,hj,rfl,rfl,hm0,hm1,HR⟩:=hrel;obtain⟨wo,rfl⟩:∃wo:World,wo=wr:=⟨_,rfl⟩;obtain⟨hks,q0,q1⟩:=HS.o wo HR.o.1
  by_cases hlt:j<t.tops.length
  ·obtain⟨k,hk⟩:=Q4 hlt
   obtain rfl:=HTA.o Om;have x1:=HTC.o j k hk wo hks;have HXJ:Hi (X=(if (Z9 t (k.toNat+1) k 9 m sj).2.1 then Q2s t (t.tops.drop (j+1)) (Z9 t (k.toNat+1) k 9 m sj).1 (Z9 t (k.toNat+1) k 9 m sj).2.2 else false)):=Hh (by rw[HR.o.2.2.2,Qh hk];rfl);have hjn:(j:Int)<(t.tops.length:Int):=Om
   have Qnh:Hi (∀W,Q0 nob wo W→Calls prog 106 #[.agg #[.slice A3 t.nodes.length c3,.slice (some ⟨tb,tq,none⟩) t.tops.length c4],.int .i64 k,.int .i64 9,.int .i64 m,.slice (some ⟨w.heap.size+1,0,none⟩) t.nodes.length t.nodes.length] W (Q6v W (w.heap.size+1) (Z9 t (k.toNat+1) k 9 m sj))):=Hh fun W hW =>
    Qh7 h1 HSM.o HXT.o k.toNat W (w.heap.size+1) sj k 9 m (HN.o W (hks.trans (hW.ofNob _))) (HR.o.2.1.kept hW id) HR.o.2.2.1 Om hm0 hm1
   have HAF:Hi ((Z9 t (k.toNat+1) k 9 m sj).2.1=true→0≤(Z9 t (k.toNat+1) k 9 m sj).1∧(Z9 t (k.toNat+1) k 9 m sj).1≤t.nodes.length):=Hh fun h=>by have:=Q87 h;omega
   have HLN:Hi ((Z9 t (k.toNat+1) k 9 m sj).2.2.length=t.nodes.length):=Hh (by rw[Qam];exact HR.o.2.2.1);generalize Z9 t (k.toNat+1) k 9 m sj=q at Qnh HXJ HAF HLN;obtain⟨m',ok,s'⟩:=q;dsimp only at HXJ HAF HLN;have HKR:=Hh HR.o.1;have hs4:∀W,Q0 (fun k=>k=w.heap.size+1) wo W→W.cell? ⟨w.heap.size,0,none⟩=some (.slice A3 t.nodes.length c3):=fun W hW=>(HS.o W (HKR.o.trans hW)).2.1
   have hs5:∀W,Q0 (fun k=>k=w.heap.size+1) wo W→W.cell? ⟨w.heap.size,1,none⟩=some (.slice (some ⟨tb,tq,none⟩) t.tops.length c4):=fun W hW=>(HS.o W (HKR.o.trans hW)).2.2
   have hs6:∀W,Q0 (fun k=>k=w.heap.size+1) wo W→W.cell? ⟨tb,tq+j,none⟩=some (.int .i64 k):=fun W hW=>HTC.o j k hk W (HS.o W (HKR.o.trans hW)).1
   have hr0:Q0 (fun k=>k=w.heap.size+1) wo wo:=Kr _ _;clear hk HR hks;go_upto_region 8 with fail
   go_region_held3 (fun W=>Q0 (fun k=>k=w.heap.size+1) wo W) (first|assumption|exact hr0.drew|exact Kd ‹_›) ((go_at_call 106;refine (Qnh.o _ (Kr _ _).drew).mono ?_;rintro e w2 ⟨rfl,hb2,hk2⟩;have HB2:=Hh hb2;have hkx:=hr0.drew.trans hk2;clear hb2 hk2;dsimp only));cases ok with
   |false =>
    go_wp2_with fail;go_returns;rw[show X=false from by rw[HXJ.o];rfl];exact⟨rfl,HK0.o.then_ (HS.o _ (HKR.o.trans hkx)).1 (fun k h=>.inr (by have:W0.heap.size≤k:=h;omega))⟩
   |true =>
    go_wp2_with fail;go_roundw
    case rel=>exact⟨j+1,m',s',Om,Gm,rfl,(HAF.o rfl).1,(HAF.o rfl).2,Hh ⟨HKR.o.trans hkx,HB2.o,HLN.o,HXJ.o⟩⟩
    case measure=>exact Me
  ·have hjn:¬ (j:Int)<(t.tops.length:Int):=Om
   have HXE:Hi (X=(m==(t.nodes.length:Int))):=Hh (by rw[HR.o.2.2.2,Dn Om];rfl);go_wp2_with fail;go_returns;rw[HXE.o];exact⟨rfl,HK0.o.then_ hks (fun k h=>.inr (by have:W0.heap.size≤k:=h;omega))⟩
theorem Yg {t:Q1} (h:Q00 t=true):Qs t=true∧Qk t∧t.nodes.length≤4000∧(∀i∈t.tops,InT t i∧33≤(t.at i).kind)∧t.tops.length≤4000∧Zu t 0 t.tops t.nodes.length:=by
 unfold Q00 at h;simp only[Bool.and_eq_true,decide_eq_true_eq,beq_iff_eq] at h;obtain⟨⟨h1,hn⟩,htp⟩:=h;obtain⟨hch,htk⟩:=Q63 (Int.le_refl 0) htp;have:=(Q5b hn _ _ (Int.le_refl 0) htp).2;exact⟨hn,Q5n hn,h1,htk,Om,hch⟩
theorem Q9j (r:Reg) (t:Q1) (rv tv:Value) (w:World) (hr:Q20 w rv r) (ht:Xt w tv t) (hN:Q2e r) (hX:Q0i t) (hSm:Z1 t) :
  Calls prog 30 #[rv,tv] w fun e w'=>e=.returned (.tuple #[.int .i64 (Zo r t).1,.int .i64 (Zo r t).2])∧Q0 nob w w':=by
 have hr':=hr;have ht':=ht;obtain⟨v0,v1,v2,rfl,d0,d1,d2⟩:=hr;obtain⟨u0,u1,rfl,e0,e1⟩:=ht;have Qny:∀(u:Value) (ds:List Zt),Ji w u ds→∃A c,u=.slice A ds.length c:=fun u ds ⟨A,b,o,c,h,_⟩=>⟨A,c,h⟩
 obtain⟨A0,c0,rfl⟩:=Qny _ _ d0;obtain⟨A1,c1,rfl⟩:=Qny _ _ d1;obtain⟨A2,c2,rfl⟩:=Qny _ _ d2;obtain⟨A3,c3,rfl⟩:∃A c,u0=.slice A t.nodes.length c:=by obtain⟨A,b,o,c,h,_⟩:=e0;exact⟨A,c,h⟩
 obtain⟨A4,c4,rfl⟩:∃A c,u1=.slice A t.tops.length c:=by obtain⟨A,b,o,c,h,_⟩:=e1;exact⟨A,c,h⟩
 have hk0:Q0 nob w ((w.alloc (.cells #[.slice A0 r.comps.length c0,.slice A1 r.ress.length c1,.slice A2 r.evts.length c2] 38)).alloc (.cells #[.slice A3 t.nodes.length c3,.slice A4 t.tops.length c4] 33)):=((Kr _ _).alloc _).alloc _;have hb1:Blk ((w.alloc (.cells #[.slice A0 r.comps.length c0,.slice A1 r.ress.length c1,.slice A2 r.evts.length c2] 38)).alloc (.cells #[.slice A3 t.nodes.length c3,.slice A4 t.tops.length c4] 33)) w.heap.size [.slice A0 r.comps.length c0,.slice A1 r.ress.length c1,.slice A2 r.evts.length c2] 38:=(Blk.new_of _ _ _ rfl).alloc _;have hb2:Blk ((w.alloc (.cells #[.slice A0 r.comps.length c0,.slice A1 r.ress.length c1,.slice A2 r.evts.length c2] 38)).alloc (.cells #[.slice A3 t.nodes.length c3,.slice A4 t.tops.length c4] 33)) (w.heap.size+1) [.slice A3 t.nodes.length c3,.slice A4 t.tops.length c4] 33:=Blk.new_of _ _ _ Sm;generalize hW0:(w.alloc (.cells #[.slice A0 r.comps.length c0,.slice A1 r.ress.length c1,.slice A2 r.evts.length c2] 38)).alloc (.cells #[.slice A3 t.nodes.length c3,.slice A4 t.tops.length c4] 33)=W0 at hk0 hb1 hb2
 have HS:Hi (∀W,Q0 nob W0 W→(W.cell? ⟨w.heap.size,0,none⟩=some (.slice A0 r.comps.length c0)∧W.cell? ⟨w.heap.size,1,none⟩=some (.slice A1 r.ress.length c1)∧W.cell? ⟨w.heap.size,2,none⟩=some (.slice A2 r.evts.length c2))∧W.cell? ⟨w.heap.size+1,0,none⟩=some (.slice A3 t.nodes.length c3)∧W.cell? ⟨w.heap.size+1,1,none⟩=some (.slice A4 t.tops.length c4)):=Hh fun W hW =>
  ⟨⟨hW.cell id (hb1.cell 0 _ rfl),hW.cell id (hb1.cell 1 _ rfl),hW.cell id (hb1.cell 2 _ rfl)⟩,hW.cell id (hb2.cell 0 _ rfl),hW.cell id (hb2.cell 1 _ rfl)⟩
 have HR:Hi (∀W,Q0 nob W0 W→Q20 W (.agg #[.slice A0 r.comps.length c0,.slice A1 r.ress.length c1,.slice A2 r.evts.length c2]) r∧Xt W (.agg #[.slice A3 t.nodes.length c3,.slice A4 t.tops.length c4]) t):=Hh fun W hW=>⟨hr'.old (hk0.trans hW).old,ht'.old (hk0.trans hW).old⟩
 obtain⟨⟨g0,g1,g2⟩,g3,g4⟩:=HS.o W0 (Kr _ _);have HK0:=Hh hk0;have HNM:=Hh hN;have HXT:=Hh hX;have HSM:=Hh hSm;clear hb1 hb2 hk0 d0 d1 d2 e0 e1 hr' ht' Qny hN hX hSm;cases hrb:Q6t r with
 |false =>
  have HRB:=Hh hrb;have HX:Hi (Zo r t=(1,-1)):=Hh (by unfold Zo;rw[hrb];rfl);go_enter func30,ntmps30;go_wp2_with (go_at_call 69;refine (Q5y r _ _ (HR.o _ (Kr _ _)).1 HNM.o).mono ?_;rw[Qc6,HRB.o];rintro e w1 ⟨rfl,hk1⟩;have HK1:=Hh hk1;clear hk1;(obtain⟨⟨g0',g1',g2'⟩,g3',g4'⟩:=HS.o _ HK1.o));go_returns;rw[HX.o];exact⟨rfl,HK0.o.trans HK1.o⟩
 |true =>
 have HRB:=Hh hrb;cases htb:Q00 t with
 |false =>
  have HTB:=Hh htb;have HX:Hi (Zo r t=(1,-1)):=Hh (by unfold Zo;rw[hrb,htb];rfl);go_enter func30,ntmps30;go_wp2_with (first|(go_at_call 69;refine (Q5y r _ _ (HR.o _ (Kr _ _)).1 HNM.o).mono ?_;rw[Qc6,HRB.o];rintro e w1 ⟨rfl,hk1⟩;have HK1:=Hh hk1;clear hk1;(obtain⟨⟨g0',g1',g2'⟩,g3',g4'⟩:=HS.o _ HK1.o))|(go_at_call 70;refine (Q33 t _ _ (HR.o _ HK1.o).2 HXT.o HSM.o).mono ?_;rw[Q6m,HTB.o];rintro e w2 ⟨rfl,hk2⟩;have HK2:=Hh (HK1.o.trans hk2);clear hk2;obtain⟨⟨g0'',g1'',g2''⟩,g3'',g4''⟩:=HS.o _ HK2.o));go_returns;rw[HX.o];exact⟨rfl,HK0.o.trans HK2.o⟩
 |true =>
 have HTB:=Hh htb;have HX:Hi (Zo r t=((Q6w r t).code,(Q6w r t).node)):=Hh (by unfold Zo;rw[hrb,htb,Qkd hrb htb HSM.o];rfl);obtain⟨p1,p2,p3,p4,p5,_⟩:=Yg htb;have HW:=Hh fun W hW=>Qik (w:=W) p1 p2 HSM.o p3 p4 p5 (HR.o W hW).1 (HR.o W hW).2
 clear p1 p2 p3 p4 p5 hrb htb;go_enter func30,ntmps30;go_wp2_with (first|(go_at_call 69;refine (Q5y r _ _ (HR.o _ (Kr _ _)).1 HNM.o).mono ?_;rw[Qc6,HRB.o];rintro e w1 ⟨rfl,hk1⟩;have HK1:=Hh hk1;clear hk1;(obtain⟨⟨g0',g1',g2'⟩,g3',g4'⟩:=HS.o _ HK1.o))|(go_at_call 70;refine (Q33 t _ _ (HR.o _ HK1.o).2 HXT.o HSM.o).mono ?_;rw[Q6m,HTB.o];rintro e w2 ⟨rfl,hk2⟩;have HK2:=Hh (HK1.o.trans hk2);clear hk2;obtain⟨⟨g0'',g1'',g2''⟩,g3'',g4''⟩:=HS.o _ HK2.o)|(go_at_call 71;refine (HW.o _ HK2.o).mono ?_;rintro e w3 ⟨wb,gb,r0,r1,r2,t0,t1,ov,nv,kv,wv,rfl,hsp,hk3⟩;have HK3:=Hh (HK2.o.trans hk3);have y13:w3.cell? ⟨wb,13,none⟩=some (.int .i64 (Q6w r t).code):=hsp.blk.cell 13 _ rfl;have y14:w3.cell? ⟨wb,14,none⟩=some (.int .i64 (Q6w r t).node):=hsp.blk.cell 14 _ rfl;clear hsp hk3));go_quiet (fail);go_wp2_with fail;go_returns;rw[HX.o];exact⟨rfl,HK0.o.trans (HK3.o.trans Kz)⟩
def Zq (t:Q1) (name:ByteArray):Int:=if Q00 t then Q3 t t.tops name else -1
theorem Qa1 (t:Q1) (name:ByteArray) (tv:Value) (w:World) (ht:Xt w tv t) (hX:Q0i t) (hSm:Z1 t) :
  Calls prog 31 #[tv,.string name] w fun e w'=>e=.returned (.int .i64 (Zq t name))∧Q0 nob w w':=by
 have ht':=ht;obtain⟨u0,u1,rfl,e0,e1⟩:=ht;obtain⟨A3,nb,no,c3,rfl,nl,nlc,hnA,hnc⟩:=e0;obtain⟨A4,tb,tq,c4,rfl,tl,tlc,htA,htc⟩:=e1;have hk0:Q0 nob w (w.alloc (.cells #[.slice A3 t.nodes.length c3,.slice A4 t.tops.length c4] 33)):=(Kr _ _).alloc _;have hb:=Blk.new w [.slice A3 t.nodes.length c3,.slice A4 t.tops.length c4] 33;generalize hW0:w.alloc (.cells #[.slice A3 t.nodes.length c3,.slice A4 t.tops.length c4] 33)=W0 at hk0;replace hb:Blk W0 w.heap.size [.slice A3 t.nodes.length c3,.slice A4 t.tops.length c4] 33:=hW0▸hb;have HS:Hi (∀W,Q0 nob W0 W→W.cell? ⟨w.heap.size,0,none⟩=some (.slice A3 t.nodes.length c3)∧W.cell? ⟨w.heap.size,1,none⟩=some (.slice A4 t.tops.length c4)):=Hh fun W hW=>⟨hW.cell id (hb.cell 0 _ rfl),hW.cell id (hb.cell 1 _ rfl)⟩
 have HV:Hi (Xt W0 (.agg #[.slice A3 t.nodes.length c3,.slice A4 t.tops.length c4]) t):=Hh (ht'.old hk0.old);have HTC:Hi (∀j x,t.tops[j]?=some x→∀W,Q0 nob W0 W→W.cell? ⟨tb,tq+j,none⟩=some (.int .i64 x)):=Hh fun j x hx W hW=>(hk0.trans hW).cell id (htc j x hx)
 have HNC:Hi (∀j x,t.nodes[j]?=some x→∀W,Q0 nob W0 W→W.cell? ⟨nb,no+j*4+1,none⟩=some (.string x.text)):=Hh fun j x hx W hW=>by
  obtain⟨kv,_,h1,_⟩:=hnc j x hx;exact (hk0.trans hW).cell id h1
 obtain⟨g0,g1⟩:=HS.o W0 (Kr _ _);have HK0:=Hh hk0;have HTA:=Hh htA;have HNA:=Hh hnA;clear hb ht' hk0 htc hnc htA hnA;cases htb:Q00 t with
 |false =>
  have HTB:=Hh htb;have HX:Hi (Zq t name = -1):=Hh (by unfold Zq;rw[htb];rfl);go_enter func31,ntmps31;go_wp2_with (go_at_call 70;refine (Q33 t _ _ HV.o hX hSm).mono ?_;rw[Q6m,HTB.o];rintro e w1 ⟨rfl,hk1⟩;have HK1:=Hh hk1;clear hk1);go_returns;rw[HX.o];exact⟨rfl,HK0.o.trans HK1.o⟩
 |true =>
 have HTB:=Hh htb;have HX:Hi (Zq t name=Q3 t t.tops name):=Hh (by unfold Zq;rw[htb];rfl);have HTK:=Hh (Yg htb).2.2.2.1;generalize Zq t name=X at *;clear htb;go_enter func31,ntmps31;go_wp2_with (go_at_call 70;refine (Q33 t _ _ HV.o hX hSm).mono ?_;rw[Q6m,HTB.o];rintro e w1 ⟨rfl,hk1⟩;have HK1:=Hh hk1;clear hk1);go_loopw [5] (fun k wr=>∃j:Nat,j≤t.tops.length∧k=.int .i64 j∧Hi (Q0 nob W0 wr∧X=Q3 t (t.tops.drop j) name)) (fun k _=>t.tops.length-(intOf k).toNat)
 case atStart=>exact⟨0,Nat.zero_le _,rfl,Hh ⟨HK1.o,HX.o⟩⟩
 case round =>
  obtain⟨j,hj,rfl,HR⟩:=hrel;obtain⟨wo,rfl⟩:∃wo:World,wo=wr:=⟨_,rfl⟩;obtain⟨q0,q1⟩:=HS.o wo HR.o.1
  by_cases hlt:j<t.tops.length
  ·obtain⟨i,hx⟩:=Q4 hlt
   obtain⟨mk,rfl,hn⟩:=Q1.at_lt (HTK.o i (Mg hx)).1;have hmk:(mk:Int)<t.nodes.length:=(HTK.o _ (Mg hx)).1.2;have x0:=HTC.o j _ hx wo HR.o.1;have x1:=HNC.o mk _ hn wo HR.o.1;obtain rfl:=HTA.o Om;obtain rfl:=HNA.o Om;have hjn:(j:Int)<(t.tops.length:Int):=Om
   have HXJ:Hi (X=(if (t.at (mk:Int)).text=name then (mk:Int) else Q3 t (t.tops.drop (j+1)) name)):=Hh (by rw[HR.o.2,Qh hx];rfl);generalize hat:t.at (mk:Int)=nd at *;have HKR:=Hh HR.o.1;clear hx hn hat HR;cases ty:(nd.text.toList==name.toList) with
   |true =>
    have HXE:Hi (X=(mk:Int)):=Hh (by rw[HXJ.o,Ps (Q04 ty)]);go_upto_region 6 with fail
    go_quiet (fail);go_wp2_with fail;go_returns;rw[HXE.o];exact⟨rfl,HK0.o.trans (HKR.o.trans Kz)⟩
   |false =>
    have HXE:Hi (X=Q3 t (t.tops.drop (j+1)) name):=Hh (by rw[HXJ.o,Ng (Q1p ty)]);go_upto_region 6 with fail
    go_quiet (fail);go_wp2_with fail;go_roundw
    case rel=>exact⟨j+1,Om,Gm,Hh ⟨HKR.o.trans Kz,HXE.o⟩⟩
    case measure=>exact Me
  ·have HXE:Hi (X = -1):=Hh (by rw[HR.o.2,Dn Om];rfl)
   go_wp2_with fail;go_returns;rw[HXE.o];exact⟨rfl,HK0.o.trans HR.o.1⟩
def own (v:Value):Nat→Prop:=fun k=>v.ownBlock=some k
def Q07 (w:World) (v v':Value):Prop:=v'.ownBlock=v.ownBlock∨∃b,v'.ownBlock=some b∧w.heap.size≤b
theorem Q07.refl (w:World) (v:Value):Q07 w v v:=.inl rfl
theorem Q07.le {w w0:World} {v v':Value} (h:Q07 w v v') (hs:w0.heap.size≤w.heap.size):Q07 w0 v v':=h.imp id (fun⟨b,e,hb⟩=>⟨b,e,Om⟩)
theorem Q07.trans {w0 w1:World} {v0 v1 v2:Value} (h:Q07 w0 v0 v1) (k:Q07 w1 v1 v2) (hs:w0.heap.size≤w1.heap.size):Q07 w0 v0 v2:=by
 rcases k with e|⟨b,e,hb⟩
 ·rcases h with e2|⟨b,e2,hb⟩
  ·exact .inl (e.trans e2)
  ·exact .inr ⟨b,e.trans e2,hb⟩
 ·exact .inr ⟨b,e,Om⟩
theorem Q0.grew {w0 w1 w2:World} {v0 v1:Value} (h:Q0 (own v0) w0 w1) (g:Q07 w0 v0 v1) (k:Q0 (own v1) w1 w2):Q0 (own v0) w0 w2 :=
 h.then_ k fun q hq=>by
  have hq:v1.ownBlock=some q:=hq;rcases g with e|⟨b,e,hb⟩
  ·exact .inl (e.symm.trans hq)
  ·rw[e] at hq;cases hq;exact .inr hb
theorem Qc.grew {S S':Nat→Prop} {e:TypeId} {w:World} {v:Value} {xs:List Value} (h:Qc S e w v xs):∀k,own v k→S k:=h.2
structure TB (S:Nat→Prop) (w:World) (t:Q1) (nv tv:Value):Prop where
 ns:Qj S w fun w=>Xg w nv t.nodes
 ts:Qj S w fun w=>Qf w tv t.tops
theorem TB.kept {S:Nat→Prop} {w w':World} {t:Q1} {nv tv:Value} (h:TB S w t nv tv) (k:Q0 S w w'):TB S w' t nv tv:=⟨h.ns.kept k,h.ts.kept k⟩
theorem TB.nobk {S:Nat→Prop} {w w':World} {t:Q1} {nv tv:Value} (h:TB S w t nv tv) (k:Q0 nob w w'):TB S w' t nv tv:=h.kept (k.ofNob _)
theorem TB.mono {S S':Nat→Prop} {w:World} {t:Q1} {nv tv:Value} (h:TB S w t nv tv) (hs:∀k,k<w.heap.size→S' k→S k):TB S' w t nv tv:=⟨h.ns.mono hs,h.ts.mono hs⟩
theorem TB.of {w w':World} {t:Q1} {nv tv:Value} (h:Xt w (.agg #[nv,tv]) t) (k:Q0 nob w w'):TB (Q6 w.heap.size) w' t nv tv:=by
 obtain⟨a,b,e,h0,h1⟩:=h;cases e;have ho:∀W,Q0 (Q6 w.heap.size) w' W→Xi w W:=fun W hW=>((k.ofNob _).trans hW).oldS fun q hq hs=>by have:w.heap.size≤q:=hs;omega
 exact⟨fun W hW=>h0.old (ho W hW),fun W hW=>h1.old (ho W hW)⟩
theorem TB.node {S:Nat→Prop} {w:World} {t:Q1} {nv tv:Value} (h:TB S w t nv tv) {mi:Nat} {n:Qn} (hn:t.nodes[mi]?=some n) :
  ∃nb no nc A kb ko kc,nv=.slice (some ⟨nb,no,none⟩) t.nodes.length nc∧(mi:Int)<t.nodes.length∧(∀W,Q0 S w W→W.cell? ⟨nb,no+mi*4,none⟩=some (.int .i64 n.kind)∧W.cell? ⟨nb,no+mi*4+1,none⟩=some (.string n.text)∧W.cell? ⟨nb,no+mi*4+2,none⟩=some (.int .i64 n.i)∧W.cell? ⟨nb,no+mi*4+3,none⟩=some (.slice A n.kids.length kc)) ∧
   n.kids.length≤140737488355328∧n.kids.length≤kc∧(0<n.kids.length→A=some ⟨kb,ko,none⟩)∧(∀j x,n.kids[j]?=some x→∀W,Q0 S w W→W.cell? ⟨kb,ko+j,none⟩=some (.int .i64 x)):=by
 obtain⟨A,nb,no,nc,rfl,hl,hlc,hA,hc⟩:=h.ns.nodes;obtain⟨hlt,_⟩:=Gs hn;obtain rfl:=hA Om;obtain⟨nk,Qni,Qnf⟩:=hc mi n hn;obtain⟨KA,kb,ko,kc,rfl,kl,klc,hKA,hkc⟩:=Qnf.ints;exact⟨nb,no,nc,KA,kb,ko,kc,rfl,Om,Qni,kl,klc,fun h0=>(hKA h0).1,hkc⟩
theorem TB.len {S:Nat→Prop} {w:World} {t:Q1} {nv tv:Value} (h:TB S w t nv tv):∃A c B d,nv=.slice A t.nodes.length c∧tv=.slice B t.tops.length d:=by
 obtain⟨A,b,o,c,h0,_⟩:=h.ns.now;obtain⟨B,b',o',d,h1,_⟩:=h.ts.now;exact⟨A,c,B,d,h0,h1⟩
section
variable {α:Type} [DecidableEq α]
def grow (l xs:List α):List α:=xs.foldl (fun l x=>if x∈l then l else l++[x]) l
theorem Qgr {l:List α} {x:α} (h:x∈l):grow l [x]=l:=by show (if x∈l then l else l++[x])=l;rw[Ps h]
theorem Qdt {l:List α} {x:α} (h:x∉l):grow l [x]=l++[x]:=by show (if x∈l then l else l++[x])=_;rw[Ng h]
theorem Q8x (l a b:List α):grow l (a++b)=grow (grow l a) b:=by unfold grow;rw[List.foldl_append]
theorem Q74 (l xs:List α) (x:α):x∈grow l xs↔x∈l∨x∈xs:=by
 induction xs generalizing l with
 |nil=>simp[grow]
 |cons y ys ih =>
  show x∈grow (if y∈l then l else l++[y]) ys↔_
  rw[ih];split
  ·rename_i h
   constructor
   ·rintro (h1|h1);exact .inl h1;exact .inr (by simp[h1])
   ·rintro (h1|h1);exact .inl h1
    rcases List.mem_cons.1 h1 with rfl|h2;exact .inl h;exact .inr h2
  ·simp[or_assoc]
theorem Q8q {l:List α} (h:l.Nodup) (xs:List α):(grow l xs).Nodup:=by
 induction xs generalizing l with
 |nil=>exact h
 |cons y ys ih =>
  show (grow (if y∈l then l else l++[y]) ys).Nodup
  apply ih;split
  ·exact h
  ·rename_i hy
   rw[List.nodup_append];exact⟨h,Sm,fun a ha b hb e=>hy (by simp at hb;rw[← hb,← e];exact ha)⟩
theorem Qjm (l xs:List α):∃m,grow l xs=l++m:=by
 induction xs generalizing l with
 |nil=>exact⟨[],by simp[grow]⟩
 |cons y ys ih =>
  obtain⟨m,hm⟩:=ih (if y∈l then l else l++[y]);have e:grow l (y::ys)=grow (if y∈l then l else l++[y]) ys:=rfl;rw[e,hm];split
  ·exact⟨m,rfl⟩
  ·exact⟨[y]++m,Sm⟩
end
def Z0 (t:Q1):Nat→Int→List ByteArray
 |0,_=>[]
 |f+1,i=>(if (t.at i).kind=7 then [(t.at i).text] else [])++(t.at i).kids.flatMap (Z0 t f)
def Q6f (t:Q1) (x:ByteArray):Prop:=∃i,InT t i∧(t.at i).text=x
def Q4n (t:Q1) (l:List ByteArray):Prop:=l.Nodup∧∀x∈l,Q6f t x
theorem Q4n.few {t:Q1} {l:List ByteArray} (h:Q4n t l):l.length≤t.nodes.length:=by
 have:=Q5e h.1 (m:=t.nodes.map (·.text)) (fun x hx=>by
  obtain⟨i,hi,rfl⟩:=h.2 x hx;obtain⟨m,rfl,hm⟩:=Q1.at_lt hi;exact List.mem_map.2 ⟨_,Mg hm,rfl⟩)
 rwa [List.length_map] at this
theorem Qez {t:Q1} (hK:Qk t):∀(f:Nat) (i:Int),InT t i→∀x∈Z0 t f i,Q6f t x:=by
 intro f
 induction f with
 |zero=>intro i _ x hx;cases hx
 |succ f ih =>
  intro i hi x hx;simp only[Z0,List.mem_append,List.mem_flatMap] at hx;rcases hx with hx|⟨k,hk,hx⟩
  ·split at hx
   ·simp at hx;exact⟨i,hi,hx.symm⟩
   ·cases hx
  ·exact ih k (hi.kid hK hk) x hx
theorem Q4n.grow {t:Q1} {l:List ByteArray} (h:Q4n t l) {xs:List ByteArray} (hx:∀x∈xs,Q6f t x):Q4n t (grow l xs) :=
 ⟨Q8q h.1 xs,fun x hm=>((Q74 _ _ _).1 hm).elim (h.2 x) (hx x)⟩
end Go.Proofs.YtkgkafjachjafaaGreat
