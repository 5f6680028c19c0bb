/- Part 42 of x_holds; no condition. -/
import Derived.Test.YtkgkafjachjafaaGreatZ33
import Derived.Test.YtkgkafjachjafaaGreatZ38
import Derived.Test.YtkgkafjachjafaaGreatZ40
import Derived.Test.YtkgkafjachjafaaGreatZ41
set_option linter.unusedVariables false
set_option maxHeartbeats 4000000
set_option maxRecDepth 100000
open Go Go.RowKit
namespace Go.Proofs.YtkgkafjachjafaaGreat
open Tryz
theorem Q95 {t:Q1} (hn:Qt t=true) (hK:Qj t) {i:Int} (hi:InT t i) (hk:33≤(t.at i).kind):∃ps b,Qfl t i ps b:=by
 have hs:=Q0t hn hi (by omega);unfold Je at hs;rw[Ng (by omega),Ng (by omega),Ng (by omega),Ng (by omega),Ng (by omega)] at hs
 obtain⟨ps,b,Qmk,hbk⟩:∃ps b,(t.at i).kids=ps++[b]∧(t.at b).kind=27:=by
  by_cases h33:(t.at i).kind=33
  ·rw[Ps h33] at hs
   cases hg:(t.at i).kids.getLast? with
   |none=>rw[hg] at hs;cases hs
   |some b =>
    rw[hg] at hs;simp only[Bool.and_eq_true] at hs;have hne:(t.at i).kids≠[]:=by intro h9;rw[h9] at hg;cases hg
    rw[List.getLast?_eq_some_getLast hne] at hg;cases hg;exact⟨_,_,(List.dropLast_concat_getLast hne).symm,by simpa[isK] using hs.2⟩
  ·rw[Ng h33] at hs
   by_cases h34:(t.at i).kind=34
   ·rw[Ps h34] at hs
    obtain⟨b,hb,h2⟩:=Xh hs;exact⟨[],b,by rw[hb];rfl,Yp h2⟩
   ·rw[Ng h34] at hs;cases hs
 have hb9:InT t b:=hi.kid hK (by rw[Qmk];simp)
 refine⟨ps,b,Qmk,Q17 hn hb9 hbk,fun l hl h26=>?_⟩
 have hli:=hb9.kid hK (List.mem_of_getLast? hl);have hs9:=Yo hn hli (by rw[h26];rfl);unfold Z5 at hs9;rw[h26,Ps (by decide)] at hs9;obtain⟨e,he,_⟩:=Xh hs9;exact⟨e,[],he⟩
def Q3q (r:Reg) (t:Q1) (s:SS) (k:Nat):SS:=if s.code=0 then topS r t s k else s
theorem Qbp {r:Reg} {t:Q1} (l:List Nat) {s:SS} (h:s.code≠0):l.foldl (Q3q r t) s=s:=by
 induction l with
 |nil=>rfl
 |cons k l ih=>rw[List.foldl_cons];unfold Q3q;rw[Ng h];exact ih
theorem Qgc (t:Q1) (W:World) (r0 r1 r2 t0 t1:Value) (hN:t.nodes.length≤4000) {W1:World} (hW1:W1=W.alloc (.cells (Q4 (List.replicate t.nodes.length 0)).toArray 3 (0,0))) :
  SpR (W1.alloc (.cells (Qb9 r0 r1 r2 t0 t1 (.slice (some ⟨W.heap.size,0,none⟩) t.nodes.length t.nodes.length) (Q0f t) (.slice none 0 0) (.slice none 0 0) (.slice none 0 0)).toArray 124 (0,0))) W1.heap.size W.heap.size
   r0 r1 r2 t0 t1 (.slice (some ⟨W.heap.size,0,none⟩) t.nodes.length t.nodes.length) (Q0f t) (.slice none 0 0) (.slice none 0 0) (.slice none 0 0):=by
 have hl:(Q4 (List.replicate t.nodes.length 0)).length=t.nodes.length:=by simp[Q4]
 have h1:W1.heap.size=W.heap.size+1:=by rw[hW1];simp
 have hO:Qf (fun k=>k=W.heap.size) 3 W1 (.slice (some ⟨W.heap.size,0,none⟩) t.nodes.length t.nodes.length) (Q4 (List.replicate t.nodes.length 0)):=by
  rw[hW1];exact Qf.lit (fun k=>k=W.heap.size) _ W _ rfl (by rw[hl];omega) rfl hl.symm hl.symm
 refine⟨Blk.new_of _ _ _ rfl,by omega,by simp;omega,hO.alloc _,Q6m _ _,Qbw _ _,Q6m _ _⟩
def Qic (w:World) (z:SS) (e:Ending) (w':World):Prop:=∃wb gb r0 r1 r2 t0 t1 ov nv kv wv,e=.returned (.pointer (some ⟨wb,0,none⟩))∧SpR w' wb gb r0 r1 r2 t0 t1 ov z nv kv wv∧Q0 nob w w'
section
variable {r:Reg} {t:Q1} {w:World} {rv tv:Value}
theorem Qhp (hn:Qt t=true) (hK:Qj t) (hsm:Jz t) (hsz:t.nodes.length≤4000) (htk:∀i∈t.tops,InT t i∧33≤(t.at i).kind) (htl:t.tops.length≤4000) (hr:Q1d w rv r) (ht:Z3 w tv t) :
  Calls prog 71 #[rv,tv] w (Qic w (Q6b r t)):=by
 obtain⟨X,hX⟩:∃X,X=Q6b r t:=⟨_,rfl⟩;have HX:Hi (X=(List.range t.tops.length).foldl (Q3q r t) (Q0f t)):=Hh (by rw[hX];rfl);rw[← hX];clear hX;obtain⟨v0,v1,v2,rfl,d0,d1,d2⟩:=hr;obtain⟨u0,u1,rfl,e0,e1⟩:=ht;have Qn5:∀(u:Value) (ds:List Zw),Z1 w u ds→∃A c,u=.slice A ds.length c:=fun u ds ⟨A,b,o,c,h,_⟩=>⟨A,c,h⟩
 obtain⟨A0,c0,rfl⟩:=Qn5 _ _ d0;obtain⟨A1,c1,rfl⟩:=Qn5 _ _ d1;obtain⟨A2,c2,rfl⟩:=Qn5 _ _ d2;obtain⟨A3,c3,rfl⟩:∃A c,u0=.slice A t.nodes.length c:=by obtain⟨A,b,o,c,h,_⟩:=e0;exact⟨A,c,h⟩
 obtain⟨A4,c4,rfl⟩:∃A c,u1=.slice A t.tops.length c:=by obtain⟨A,b,o,c,h,_⟩:=e1;exact⟨A,c,h⟩
 clear Qn5;have hk0:Q0 nob w ((w.alloc (.cells #[.slice A0 r.comps.length c0,.slice A1 r.ress.length c1,.slice A2 r.evts.length c2] 38)).alloc (.cells #[.slice A3 t.nodes.length c3,.slice A4 t.tops.length c4] 33)):=((Kr _ _).alloc _).alloc _;have hb1:Blk ((w.alloc (.cells #[.slice A0 r.comps.length c0,.slice A1 r.ress.length c1,.slice A2 r.evts.length c2] 38)).alloc (.cells #[.slice A3 t.nodes.length c3,.slice A4 t.tops.length c4] 33)) w.heap.size [.slice A0 r.comps.length c0,.slice A1 r.ress.length c1,.slice A2 r.evts.length c2] 38:=(Blk.new_of _ _ _ rfl).alloc _;have hb2:Blk ((w.alloc (.cells #[.slice A0 r.comps.length c0,.slice A1 r.ress.length c1,.slice A2 r.evts.length c2] 38)).alloc (.cells #[.slice A3 t.nodes.length c3,.slice A4 t.tops.length c4] 33)) (w.heap.size+1) [.slice A3 t.nodes.length c3,.slice A4 t.tops.length c4] 33:=Blk.new_of _ _ _ (by simp);have hs0:((w.alloc (.cells #[.slice A0 r.comps.length c0,.slice A1 r.ress.length c1,.slice A2 r.evts.length c2] 38)).alloc (.cells #[.slice A3 t.nodes.length c3,.slice A4 t.tops.length c4] 33)).heap.size=w.heap.size+2:=by simp
 generalize hW0:(w.alloc (.cells #[.slice A0 r.comps.length c0,.slice A1 r.ress.length c1,.slice A2 r.evts.length c2] 38)).alloc (.cells #[.slice A3 t.nodes.length c3,.slice A4 t.tops.length c4] 33)=W0 at hk0 hb1 hb2 hs0;have g0:=hb1.cell 0 _ rfl;have g1:=hb1.cell 1 _ rfl;have g2:=hb1.cell 2 _ rfl;have g3:=hb2.cell 0 _ rfl;have g4:=hb2.cell 1 _ rfl;have hmk:=Qac t.nodes.length hsz;have hka:Q0 nob W0 (W0.alloc (.cells (Q4 (List.replicate t.nodes.length 0)).toArray 3)):=(Kr _ _).alloc _;have g0':=hka.cell (fun h=>h) g0;have g1':=hka.cell (fun h=>h) g1;have g2':=hka.cell (fun h=>h) g2;have g3':=hka.cell (fun h=>h) g3;have g4':=hka.cell (fun h=>h) g4;have HG4:=Hh (fun W (hW:Q0 (Q7 W0.heap.size) W0 W)=>hW.cell (a:=⟨w.heap.size+1,1,none⟩) (fun e=>by have:W0.heap.size≤w.heap.size+1:=e;omega) g4);have HK0:=Hh hk0
 have HFX:Hi (∀W wb gb,W0.heap.size≤wb→W0.heap.size≤gb→Q0 nob W0 W→Zb (at2 wb gb) W r t (.slice A0 r.comps.length c0) (.slice A1 r.ress.length c1) (.slice A2 r.evts.length c2) (.slice A3 t.nodes.length c3) (.slice A4 t.tops.length c4)):=Hh fun W wb gb h1 h2 hk=>by
  have Qn8:∀W',Q0 (at2 wb gb) W W'→Zu w W':=fun W' hk'=>(((hk0.trans hk).ofNob _).trans hk').oldS (fun k hk e=>by rcases e with e|e<;>omega)
  exact⟨fun W' hk'=>d0.old (Qn8 W' hk'),fun W' hk'=>d1.old (Qn8 W' hk'),fun W' hk'=>d2.old (Qn8 W' hk'),fun W' hk'=>e0.old (Qn8 W' hk'),fun W' hk'=>e1.old (Qn8 W' hk')⟩
 have HMK:=Hh hsz;have Qq8:Hi (∀i∈t.tops,InT t i):=Hh fun i hi=>(htk i hi).1
 have HTK:=Hh htk;have HN:=Hh hn;have HKO:=Hh hK;have HSM:=Hh hsm;have Qvp:Qx t (Q0f t):=⟨by simp[Q0f],rfl,by simp[Q0f],by simp[Q0f],by simp[Q0f]⟩;have Qxr:=Hh Qvp;clear hb1 hb2 hka hk0 d0 d1 d2 e0 e1 htk hn hK hsm Qvp;go_enter func71,ntmps71;go_upto_region 1 with fail
 go_cut [5] (fun s5 wx=>∃wb gb ov,s5=.pointer (some ⟨wb,0,none⟩)∧SpR wx wb gb (.slice A0 r.comps.length c0) (.slice A1 r.ress.length c1) (.slice A2 r.evts.length c2) (.slice A3 t.nodes.length c3) (.slice A4 t.tops.length c4) ov (Q0f t) (.slice none 0 0) (.slice none 0 0) (.slice none 0 0)∧W0.heap.size≤wb∧W0.heap.size≤gb∧Q0 nob W0 wx)
 case first =>
  go_region
  all_goals go_wp2_with fail
  all_goals go_meet
  have h9:=(Qgc t W0 (.slice A0 r.comps.length c0) (.slice A1 r.ress.length c1) (.slice A2 r.evts.length c2) (.slice A3 t.nodes.length c3) (.slice A4 t.tops.length c4) hsz rfl).drew;have e9:(W0.alloc (.cells (Q4 (List.replicate t.nodes.length 0)).toArray 3 (0,0))).heap.size=w.heap.size+2+1:=by simp[hs0]
  rw[e9,hs0] at h9;exact⟨_,_,_,rfl,h9,by omega,by omega,(((Kr _ _).alloc _).alloc _).drew⟩
 case rest =>
  obtain⟨wb,gb,ov,rfl,hsp,hwb,hgb,hk1⟩:=hcut;obtain⟨W1,rfl⟩:∃W1,W1=wc:=⟨_,rfl⟩;have Qxs:=Hh (HFX.o W1 wb gb hwb hgb hk1);have HSP:=Hh hsp;have HK1:=Hh hk1;clear g0 g1 g2 g3 g4 g0' g1' g2' g3' g4' hsp hk1 hmk;go_wp2_with fail;go_loopw [6] (fun m wr=>∃(j:Nat) (z:SS) (nv kv wv:Value),j≤t.tops.length∧m=.int .i64 j∧Hi (AtW W1 wb gb (.slice A0 r.comps.length c0) (.slice A1 r.ress.length c1) (.slice A2 r.evts.length c2) (.slice A3 t.nodes.length c3) (.slice A4 t.tops.length c4) ov z nv kv wv wr∧Qx t z∧X=((List.range t.tops.length).drop j).foldl (Q3q r t) z)) (fun m _=>t.tops.length-(intOf m).toNat)
  case atStart=>exact⟨0,Q0f t,_,_,_,Nat.zero_le _,rfl,Hh ⟨⟨HSP.o,Kr _ _⟩,Qxr.o,HX.o⟩⟩
  case round =>
   obtain⟨j,z,nv,kv,wv,hj,rfl,HR⟩:=hrel;obtain⟨wo,rfl⟩:∃wo:World,wo=wr:=⟨_,rfl⟩;have x13:wo.cell? ⟨wb,13,none⟩=some (.int .i64 z.code):=HR.o.1.1.blk.cell 13 _ rfl;have hkw:Q0 (Q7 W0.heap.size) W0 wo:=((HK1.o.ofNob _).trans (HR.o.1.2.mono (fun k _ e=>by show W0.heap.size≤k;rcases e with e|e<;>omega)));have x4:=HG4.o wo hkw;have HKW:Hi (Q0 nob w wo):=Hh ((HK0.o.trans HK1.o).then_ HR.o.1.2 (fun k e=>.inr (by rcases e with e|e<;>omega)));clear hkw
   by_cases hlt:j<t.tops.length
   ·have hjn:(j:Int)<(t.tops.length:Int):=by omega
    cases hc:(z.code==0) with
    |false =>
     have HXE:Hi (X=z):=Hh (by rw[HR.o.2.2,Qbp _ (by simpa using hc)]);go_wp2_with fail;go_returns;rw[HXE.o];exact⟨wb,gb,_,_,_,_,_,ov,nv,kv,wv,rfl,HR.o.1.1,HKW.o⟩
    |true =>
     have hz0:z.code=0:=by simpa using hc
     obtain⟨i,hx⟩:=Q3 hlt;obtain⟨hi,h33⟩:=HTK.o i (Mg hx);obtain⟨ps,b,Qo0⟩:=Q95 HN.o HKO.o hi h33;have Qmm:=Hh (Qia (r:=r) HN.o HKO.o HSM.o Qq8.o hsz HR.o.1.1 (Qxs.o.kept HR.o.1.2) HR.o.2.1 hz0 hx Qo0)
     have HXJ:Hi (X=((List.range t.tops.length).drop (j+1)).foldl (Q3q r t) (topS r t z j)):=Hh (by
      rw[HR.o.2.2,Qd (xs:=List.range t.tops.length) (x:=j) (by simp[hlt]),List.foldl_cons];unfold Q3q;rw[Ps hz0])
     have Qn4:=Hh (Qx.topS HKO.o Qq8.o r HR.o.2.1 hlt);have HKR:=Hh HR.o.1.2;clear hz0 hx hi h33 Qo0 HR;generalize topS r t z j=z1 at Qmm HXJ Qn4;go_wp2_with (go_at_call 107;refine Qmm.o.mono ?_;rintro e w9 ⟨rfl,hat⟩);go_round
     case rel =>
      obtain⟨nv9,kv9,wv9,h9,k9⟩:=hat;exact⟨j+1,z1,nv9,kv9,wv9,by omega,by go_num,Hh ⟨⟨h9,HKR.o.trans k9⟩,Qn4.o,HXJ.o⟩⟩
     case measure=>simp[intOf];omega
   ·have hje:j=t.tops.length:=by omega
    have hjn:¬ (j:Int)<(t.tops.length:Int):=by omega
    have HXE:Hi (X=z):=Hh (by rw[HR.o.2.2,Dn (by simp;omega)];rfl);clear hje;go_wp2_with fail;go_returns;rw[HXE.o];exact⟨wb,gb,_,_,_,_,_,ov,nv,kv,wv,rfl,HR.o.1.1,HKW.o⟩
end
section
variable {t:Q1} {A3 A4:Option Addr} {c3 c4:Nat}
theorem Qgd (hsz:t.nodes.length≤4000) (hsm:Jz t) (hX:Q04 t) (f:Nat):Qjd t A3 A4 c3 c4 (f+1):=by
 induction f with
 |zero =>
  intro w sb seen i class_ next hN hb Qmr hif hn0 hn1
  exact Q7w hsz hsm hX (f:=0) (fun w sb seen i class_ next hN hb Qmr hif hn0 hn1=>by
   have:=Q8n (class_:=class_) (next:=next) (A3:=A3) (A4:=A4) (c3:=c3) (c4:=c4) hsz hb (i:=i) (by omega);exact this) w sb seen i class_ next hN hb Qmr hif hn0 hn1
 |succ f ih=>exact Q7w hsz hsm hX ih
end
theorem Qlz (t:Q1):∀(f f':Nat) (i c n:Int) (s:List Bool),i<f→i<f'→Ju t f i c n s=Ju t f' i c n s:=by
 intro f
 induction f with
 |zero =>
  intro f' i c n s h h';cases f' with
  |zero=>rfl
  |succ f'=>simp only[Ju];rw[Ng (fun h9=>by omega)]
 |succ f ih =>
  intro f' i c n s h h';cases f' with
  |zero=>simp only[Ju];rw[Ng (fun h9=>by omega)]
  |succ f' =>
   simp only[Ju]
   have key:∀(l:List (Int×Int)) (n:Int) (s:List Bool),Zy (Ju t f) i l n s=Zy (Ju t f') i l n s:=by
    intro l
    induction l with
    |nil=>intro n s;rfl
    |cons p l ihl =>
     obtain⟨k,c⟩:=p;intro n s;simp only[Zy];split
     ·rfl
     ·rw[ih f' k c n s (by omega) (by omega),ihl]
   rw[key]
theorem Qfc (N:Nat) (hN:N≤4000) (w:World):(Instr.makeSlice 150 (.int .i64 (N:Int)) (.int .i64 (N:Int))).run prog w=.ok (.slice (some ⟨w.heap.size,0,none⟩) N N) (w.alloc (.cells (Q0u (List.replicate N false)).toArray 4 (0,0))):=by
 have hi:(prog.info? 4).map (fun i=>(i.zero,i.size,i.bytes))=some (some (.bool false),1,1):=by kernel_rfl
 obtain⟨i0,hi0,hzz⟩:=Option.map_eq_some_iff.1 hi;simp only[Prod.mk.injEq] at hzz;obtain⟨hz0,hz1,hz2⟩:=hzz;have h:=run_make (P:=prog) w 150 4 i0 (.bool false) underlying150 hi0 hz0 .i64 .i64 (N:Int) (N:Int) (by omega) (by omega) (by rw[hz2];omega) (by omega);rw[h,hz1];simp only[Int.toNat_natCast,Nat.mul_one]
 rw[show Value.cells (.bool false)=#[.bool false] from rfl,show madeCells #[.bool false] N=(Q0u (List.replicate N false)).toArray from by
  apply Array.toList_inj.1;rw[toList_madeCells_one];simp[Q0u]]
theorem Q2z (t:Q1) (v:Value) (w:World) (hv:Z3 w v t) (hx:Q04 t) (hsm:Jz t) :
  Calls prog 70 #[v] w fun e w'=>e=.returned (.bool (Q68 t))∧Q0 nob w w':=by
 obtain⟨u0,u1,rfl,e0,e1⟩:=hv;obtain⟨A3,c3,rfl⟩:∃A c,u0=.slice A t.nodes.length c:=by obtain⟨A,b,o,c,h,_⟩:=e0;exact⟨A,c,h⟩
 obtain⟨A4,tb,tq,c4,rfl,tl,tlc,htA,htc⟩:=e1;have hk0:Q0 nob w (w.alloc (.cells #[.slice A3 t.nodes.length c3,.slice A4 t.tops.length c4] 33)):=(Kr _ _).alloc _;have hb:=Blk.new w [.slice A3 t.nodes.length c3,.slice A4 t.tops.length c4] 33;have hst:(w.alloc (.cells #[.slice A3 t.nodes.length c3,.slice A4 t.tops.length c4] 33)).heap.size=w.heap.size+1:=by simp
 generalize hW0:w.alloc (.cells #[.slice A3 t.nodes.length c3,.slice A4 t.tops.length c4] 33)=W0 at hk0 hst;replace hb:Blk W0 w.heap.size [.slice A3 t.nodes.length c3,.slice A4 t.tops.length c4] 33:=hW0▸hb;have g0:=hb.cell 0 _ rfl;have g1:=hb.cell 1 _ rfl;have HK0:=Hh hk0
 by_cases h1:t.nodes.length≤4000
 case neg =>
  have t1:decide ((t.nodes.length:Int)>4000)=true:=Dt (by omega);have t2:decide ((4000:Int)<(t.nodes.length:Int))=true:=Dt (by omega);have HX:Hi (Q68 t=false):=Hh (by unfold Q68;rw[Df h1];rfl);clear h1 hb e0 htc hk0;go_enter func70,ntmps70;go_wp2_with fail;go_returns;rw[HX.o];exact⟨rfl,HK0.o⟩
 have t1:decide ((t.nodes.length:Int)>4000)=false:=Df (by omega);have t2:decide ((4000:Int)<(t.nodes.length:Int))=false:=Df (by omega)
 by_cases h2:t.tops.length≤4000
 case neg =>
  have t3:decide ((t.tops.length:Int)>4000)=true:=Dt (by omega);have t4:decide ((4000:Int)<(t.tops.length:Int))=true:=Dt (by omega);have HX:Hi (Q68 t=false):=Hh (by unfold Q68;rw[Df h2];simp);clear h1 h2 hb e0 htc hk0;go_enter func70,ntmps70;go_wp2_with fail;go_returns;rw[HX.o];exact⟨rfl,HK0.o⟩
 have t3:decide ((t.tops.length:Int)>4000)=false:=Df (by omega);have t4:decide ((4000:Int)<(t.tops.length:Int))=false:=Df (by omega);obtain⟨X,hX⟩:∃X,X=Q2a t t.tops 0 (List.replicate t.nodes.length false):=⟨_,rfl⟩;rw[show Q68 t=X from by unfold Q68;rw[Dt h1,Dt h2,hX];rfl];have HX:=Hh hX;have hmk:=Qfc t.nodes.length h1;have hka:Q0 nob W0 (W0.alloc (.cells (Q0u (List.replicate t.nodes.length false)).toArray 4)):=(Kr _ _).alloc _;have hbs:=Blk.new_of W0 (Q0u (List.replicate t.nodes.length false)) 4 hst.symm;have hb1:=hb.kept hka id
 have HN:Hi (∀W,Q0 (Q7 W0.heap.size) W0 W→Qm (fun k=>k=w.heap.size+1) W fun w=>X4 w (.slice A3 t.nodes.length c3) t.nodes):=Hh fun W hW W' hW' =>
  e0.old ((((hk0.ofNob (Q7 (w.heap.size+1))).trans (hW.mono fun k _ h=>by rw[← hst];exact h)).trans (hW'.mono fun k _ h=>by show w.heap.size+1≤k;omega)).oldS fun k hk h=>by have:w.heap.size+1≤k:=h;omega)
 have HTC:Hi (∀j x,t.tops[j]?=some x→∀W,Q0 (Q7 W0.heap.size) W0 W→W.cell? ⟨tb,tq+j,none⟩=some (.int .i64 x)):=Hh fun j x hx W hW=>by
  have hc:=hk0.cell (fun h=>h) (htc j x hx);exact hW.cell (fun e=>by have:=World.block_lt_of_cell? W0 _ hc;have e2:W0.heap.size≤tb:=e;simp at this;omega) hc
 have HTA:=Hh htA
 have HS:Hi (∀W,Q0 (fun k=>k=w.heap.size+1) (W0.alloc (.cells (Q0u (List.replicate t.nodes.length false)).toArray 4)) W→Q0 (Q7 W0.heap.size) W0 W∧W.cell? ⟨w.heap.size,0,none⟩=some (.slice A3 t.nodes.length c3)∧W.cell? ⟨w.heap.size,1,none⟩=some (.slice A4 t.tops.length c4)):=Hh fun W hW =>
  ⟨(hka.ofNob _).trans (hW.mono fun k _ h=>by show W0.heap.size≤k;omega),hW.cell (by simp) (hb1.cell 0 _ rfl),hW.cell (by simp) (hb1.cell 1 _ rfl)⟩
 have HBS:=Hh hbs;have HSM:=Hh hsm;have HXT:=Hh hx;clear hb hb1 hbs e0 htc htA hk0 hX hsm hx;go_enter func70,ntmps70;go_wp2_with fail;generalize hW1:W0.alloc (.cells (Q0u (List.replicate t.nodes.length false)).toArray 4)=W1 at *;clear hmk g0 g1;go_loopw [4,5] (fun nx k wr=>∃(j:Nat) (m:Int) (sj:List Bool),j≤t.tops.length∧k=.int .i64 j∧nx=.int .i64 m∧0≤m∧m≤t.nodes.length∧Hi (Q0 (fun k=>k=w.heap.size+1) W1 wr∧Blk wr (w.heap.size+1) (Q0u sj) 4∧sj.length=t.nodes.length∧X=Q2a t (t.tops.drop j) m sj)) (fun _ k _=>t.tops.length-(intOf k).toNat)
 case atStart=>exact⟨0,0,_,Nat.zero_le _,rfl,rfl,Int.le_refl _,by omega,Hh ⟨Kr _ _,HBS.o,by simp,HX.o⟩⟩
 case round =>
  obtain⟨j,m,sj,hj,rfl,rfl,hm0,hm1,HR⟩:=hrel;obtain⟨wo,rfl⟩:∃wo:World,wo=wr:=⟨_,rfl⟩;obtain⟨hks,q0,q1⟩:=HS.o wo HR.o.1
  by_cases hlt:j<t.tops.length
  ·obtain⟨k,hk⟩:=Q3 hlt
   obtain rfl:=HTA.o (by omega);have x1:=HTC.o j k hk wo hks;have HXJ:Hi (X=(if (Ju t (k.toNat+1) k 9 m sj).2.1 then Q2a t (t.tops.drop (j+1)) (Ju t (k.toNat+1) k 9 m sj).1 (Ju t (k.toNat+1) k 9 m sj).2.2 else false)):=Hh (by rw[HR.o.2.2.2,Qd hk];rfl);have hjn:(j:Int)<(t.tops.length:Int):=by omega
   have Qmm:Hi (∀W,Q0 nob wo W→Calls prog 106 #[.agg #[.slice A3 t.nodes.length c3,.slice (some ⟨tb,tq,none⟩) t.tops.length c4],.int .i64 k,.int .i64 9,.int .i64 m,.slice (some ⟨w.heap.size+1,0,none⟩) t.nodes.length t.nodes.length] W (Q6s W (w.heap.size+1) (Ju t (k.toNat+1) k 9 m sj))):=Hh fun W hW =>
    Qgd h1 HSM.o HXT.o k.toNat W (w.heap.size+1) sj k 9 m (HN.o W (hks.trans (hW.ofNob _))) (HR.o.2.1.kept hW id) HR.o.2.2.1 (by omega) hm0 hm1
   have HAF:Hi ((Ju t (k.toNat+1) k 9 m sj).2.1=true→0≤(Ju t (k.toNat+1) k 9 m sj).1∧(Ju t (k.toNat+1) k 9 m sj).1≤t.nodes.length):=Hh fun h=>by have:=Q7q h;omega
   have HLN:Hi ((Ju t (k.toNat+1) k 9 m sj).2.2.length=t.nodes.length):=Hh (by rw[Qat];exact HR.o.2.2.1);generalize Ju t (k.toNat+1) k 9 m sj=q at Qmm HXJ HAF HLN;obtain⟨m',ok,s'⟩:=q;dsimp only at HXJ HAF HLN;have HKR:=Hh HR.o.1;have hs4:∀W,Q0 (fun k=>k=w.heap.size+1) wo W→W.cell? ⟨w.heap.size,0,none⟩=some (.slice A3 t.nodes.length c3):=fun W hW=>(HS.o W (HKR.o.trans hW)).2.1
   have hs5:∀W,Q0 (fun k=>k=w.heap.size+1) wo W→W.cell? ⟨w.heap.size,1,none⟩=some (.slice (some ⟨tb,tq,none⟩) t.tops.length c4):=fun W hW=>(HS.o W (HKR.o.trans hW)).2.2
   have hs6:∀W,Q0 (fun k=>k=w.heap.size+1) wo W→W.cell? ⟨tb,tq+j,none⟩=some (.int .i64 k):=fun W hW=>HTC.o j k hk W (HS.o W (HKR.o.trans hW)).1
   have hr0:Q0 (fun k=>k=w.heap.size+1) wo wo:=Kr _ _;clear hk HR hks;go_upto_region 8 with fail
   go_region_held3 (fun W=>Q0 (fun k=>k=w.heap.size+1) wo W) (first|assumption|exact hr0.drew|exact Kd ‹_›) ((go_at_call 106;refine (Qmm.o _ (Kr _ _).drew).mono ?_;rintro e w2 ⟨rfl,hb2,hk2⟩;have HB2:=Hh hb2;have hkx:=hr0.drew.trans hk2;clear hb2 hk2;dsimp only));cases ok with
   |false =>
    go_wp2_with fail;go_returns;rw[show X=false from by rw[HXJ.o];rfl];exact⟨rfl,HK0.o.then_ (HS.o _ (HKR.o.trans hkx)).1 (fun k h=>.inr (by have:W0.heap.size≤k:=h;omega))⟩
   |true =>
    go_wp2_with fail;go_roundw
    case rel=>exact⟨j+1,m',s',by omega,by go_num,rfl,(HAF.o rfl).1,(HAF.o rfl).2,Hh ⟨HKR.o.trans hkx,HB2.o,HLN.o,HXJ.o⟩⟩
    case measure=>simp[intOf];omega
  ·have hjn:¬ (j:Int)<(t.tops.length:Int):=by omega
   have HXE:Hi (X=(m==(t.nodes.length:Int))):=Hh (by rw[HR.o.2.2.2,Dn (by omega)];rfl);go_wp2_with fail;go_returns;rw[HXE.o];exact⟨rfl,HK0.o.then_ hks (fun k h=>.inr (by have:W0.heap.size≤k:=h;omega))⟩
theorem Xc {t:Q1} (h:Yi t=true):Qt t=true∧Qj t∧t.nodes.length≤4000∧(∀i∈t.tops,InT t i∧33≤(t.at i).kind)∧t.tops.length≤4000∧Zo t 0 t.tops t.nodes.length:=by
 unfold Yi at h;simp only[Bool.and_eq_true,decide_eq_true_eq,beq_iff_eq] at h;obtain⟨⟨h1,hn⟩,htp⟩:=h;obtain⟨hch,htk⟩:=Q62 (Int.le_refl 0) htp;have:=(Q4p hn _ _ (Int.le_refl 0) htp).2;exact⟨hn,Q4y hn,h1,htk,by omega,hch⟩
theorem Q18 (r:Reg) (t:Q1) (rv tv:Value) (w:World) (hr:Q1d w rv r) (ht:Z3 w tv t) (hN:Q1k r) (hX:Q04 t) (hSm:Jz t) :
  Calls prog 30 #[rv,tv] w fun e w'=>e=.returned (.tuple #[.int .i64 (Zf r t).1,.int .i64 (Zf r t).2])∧Q0 nob w w':=by
 have hr':=hr;have ht':=ht;obtain⟨v0,v1,v2,rfl,d0,d1,d2⟩:=hr;obtain⟨u0,u1,rfl,e0,e1⟩:=ht;have Qn5:∀(u:Value) (ds:List Zw),Z1 w u ds→∃A c,u=.slice A ds.length c:=fun u ds ⟨A,b,o,c,h,_⟩=>⟨A,c,h⟩
 obtain⟨A0,c0,rfl⟩:=Qn5 _ _ d0;obtain⟨A1,c1,rfl⟩:=Qn5 _ _ d1;obtain⟨A2,c2,rfl⟩:=Qn5 _ _ d2;obtain⟨A3,c3,rfl⟩:∃A c,u0=.slice A t.nodes.length c:=by obtain⟨A,b,o,c,h,_⟩:=e0;exact⟨A,c,h⟩
 obtain⟨A4,c4,rfl⟩:∃A c,u1=.slice A t.tops.length c:=by obtain⟨A,b,o,c,h,_⟩:=e1;exact⟨A,c,h⟩
 have hk0:Q0 nob w ((w.alloc (.cells #[.slice A0 r.comps.length c0,.slice A1 r.ress.length c1,.slice A2 r.evts.length c2] 38)).alloc (.cells #[.slice A3 t.nodes.length c3,.slice A4 t.tops.length c4] 33)):=((Kr _ _).alloc _).alloc _;have hb1:Blk ((w.alloc (.cells #[.slice A0 r.comps.length c0,.slice A1 r.ress.length c1,.slice A2 r.evts.length c2] 38)).alloc (.cells #[.slice A3 t.nodes.length c3,.slice A4 t.tops.length c4] 33)) w.heap.size [.slice A0 r.comps.length c0,.slice A1 r.ress.length c1,.slice A2 r.evts.length c2] 38:=(Blk.new_of _ _ _ rfl).alloc _;have hb2:Blk ((w.alloc (.cells #[.slice A0 r.comps.length c0,.slice A1 r.ress.length c1,.slice A2 r.evts.length c2] 38)).alloc (.cells #[.slice A3 t.nodes.length c3,.slice A4 t.tops.length c4] 33)) (w.heap.size+1) [.slice A3 t.nodes.length c3,.slice A4 t.tops.length c4] 33:=Blk.new_of _ _ _ (by simp);generalize hW0:(w.alloc (.cells #[.slice A0 r.comps.length c0,.slice A1 r.ress.length c1,.slice A2 r.evts.length c2] 38)).alloc (.cells #[.slice A3 t.nodes.length c3,.slice A4 t.tops.length c4] 33)=W0 at hk0 hb1 hb2
 have HS:Hi (∀W,Q0 nob W0 W→(W.cell? ⟨w.heap.size,0,none⟩=some (.slice A0 r.comps.length c0)∧W.cell? ⟨w.heap.size,1,none⟩=some (.slice A1 r.ress.length c1)∧W.cell? ⟨w.heap.size,2,none⟩=some (.slice A2 r.evts.length c2))∧W.cell? ⟨w.heap.size+1,0,none⟩=some (.slice A3 t.nodes.length c3)∧W.cell? ⟨w.heap.size+1,1,none⟩=some (.slice A4 t.tops.length c4)):=Hh fun W hW =>
  ⟨⟨hW.cell id (hb1.cell 0 _ rfl),hW.cell id (hb1.cell 1 _ rfl),hW.cell id (hb1.cell 2 _ rfl)⟩,hW.cell id (hb2.cell 0 _ rfl),hW.cell id (hb2.cell 1 _ rfl)⟩
 have HR:Hi (∀W,Q0 nob W0 W→Q1d W (.agg #[.slice A0 r.comps.length c0,.slice A1 r.ress.length c1,.slice A2 r.evts.length c2]) r∧Z3 W (.agg #[.slice A3 t.nodes.length c3,.slice A4 t.tops.length c4]) t):=Hh fun W hW=>⟨hr'.old (hk0.trans hW).old,ht'.old (hk0.trans hW).old⟩
 obtain⟨⟨g0,g1,g2⟩,g3,g4⟩:=HS.o W0 (Kr _ _);have HK0:=Hh hk0;have HNM:=Hh hN;have HXT:=Hh hX;have HSM:=Hh hSm;clear hb1 hb2 hk0 d0 d1 d2 e0 e1 hr' ht' Qn5 hN hX hSm;cases hrb:Q69 r with
 |false =>
  have HRB:=Hh hrb;have HX:Hi (Zf r t=(1,-1)):=Hh (by unfold Zf;rw[hrb];rfl);go_enter func30,ntmps30;go_wp2_with (go_at_call 69;refine (Q5f r _ _ (HR.o _ (Kr _ _)).1 HNM.o).mono ?_;rw[Qbn,HRB.o];rintro e w1 ⟨rfl,hk1⟩;have HK1:=Hh hk1;clear hk1;(obtain⟨⟨g0',g1',g2'⟩,g3',g4'⟩:=HS.o _ HK1.o));go_returns;rw[HX.o];exact⟨rfl,HK0.o.trans HK1.o⟩
 |true =>
 have HRB:=Hh hrb;cases htb:Yi t with
 |false =>
  have HTB:=Hh htb;have HX:Hi (Zf r t=(1,-1)):=Hh (by unfold Zf;rw[hrb,htb];rfl);go_enter func30,ntmps30;go_wp2_with (first|(go_at_call 69;refine (Q5f r _ _ (HR.o _ (Kr _ _)).1 HNM.o).mono ?_;rw[Qbn,HRB.o];rintro e w1 ⟨rfl,hk1⟩;have HK1:=Hh hk1;clear hk1;(obtain⟨⟨g0',g1',g2'⟩,g3',g4'⟩:=HS.o _ HK1.o))|(go_at_call 70;refine (Q2z t _ _ (HR.o _ HK1.o).2 HXT.o HSM.o).mono ?_;rw[Q6u,HTB.o];rintro e w2 ⟨rfl,hk2⟩;have HK2:=Hh (HK1.o.trans hk2);clear hk2;obtain⟨⟨g0'',g1'',g2''⟩,g3'',g4''⟩:=HS.o _ HK2.o));go_returns;rw[HX.o];exact⟨rfl,HK0.o.trans HK2.o⟩
 |true =>
 have HTB:=Hh htb;have HX:Hi (Zf r t=((Q6b r t).code,(Q6b r t).node)):=Hh (by unfold Zf;rw[hrb,htb,Qkd hrb htb HSM.o];rfl);obtain⟨p1,p2,p3,p4,p5,_⟩:=Xc htb;have HW:=Hh fun W hW=>Qhp (w:=W) p1 p2 HSM.o p3 p4 p5 (HR.o W hW).1 (HR.o W hW).2
 clear p1 p2 p3 p4 p5 hrb htb;go_enter func30,ntmps30;go_wp2_with (first|(go_at_call 69;refine (Q5f r _ _ (HR.o _ (Kr _ _)).1 HNM.o).mono ?_;rw[Qbn,HRB.o];rintro e w1 ⟨rfl,hk1⟩;have HK1:=Hh hk1;clear hk1;(obtain⟨⟨g0',g1',g2'⟩,g3',g4'⟩:=HS.o _ HK1.o))|(go_at_call 70;refine (Q2z t _ _ (HR.o _ HK1.o).2 HXT.o HSM.o).mono ?_;rw[Q6u,HTB.o];rintro e w2 ⟨rfl,hk2⟩;have HK2:=Hh (HK1.o.trans hk2);clear hk2;obtain⟨⟨g0'',g1'',g2''⟩,g3'',g4''⟩:=HS.o _ HK2.o)|(go_at_call 71;refine (HW.o _ HK2.o).mono ?_;rintro e w3 ⟨wb,gb,r0,r1,r2,t0,t1,ov,nv,kv,wv,rfl,hsp,hk3⟩;have HK3:=Hh (HK2.o.trans hk3);have y13:w3.cell? ⟨wb,13,none⟩=some (.int .i64 (Q6b r t).code):=hsp.blk.cell 13 _ rfl;have y14:w3.cell? ⟨wb,14,none⟩=some (.int .i64 (Q6b r t).node):=hsp.blk.cell 14 _ rfl;clear hsp hk3));go_quiet (fail);go_wp2_with fail;go_returns;rw[HX.o];exact⟨rfl,HK0.o.trans (HK3.o.trans (by repeat' first|exact Kr _ _|apply Ka|apply Kd|apply Kn))⟩
def Xx (t:Q1) (name:ByteArray):Int:=if Yi t then Q2 t t.tops name else -1
theorem Q0g (t:Q1) (name:ByteArray) (tv:Value) (w:World) (ht:Z3 w tv t) (hX:Q04 t) (hSm:Jz t) :
  Calls prog 31 #[tv,.string name] w fun e w'=>e=.returned (.int .i64 (Xx t name))∧Q0 nob w w':=by
 have ht':=ht;obtain⟨u0,u1,rfl,e0,e1⟩:=ht;obtain⟨A3,nb,no,c3,rfl,nl,nlc,hnA,hnc⟩:=e0;obtain⟨A4,tb,tq,c4,rfl,tl,tlc,htA,htc⟩:=e1;have hk0:Q0 nob w (w.alloc (.cells #[.slice A3 t.nodes.length c3,.slice A4 t.tops.length c4] 33)):=(Kr _ _).alloc _;have hb:=Blk.new w [.slice A3 t.nodes.length c3,.slice A4 t.tops.length c4] 33;generalize hW0:w.alloc (.cells #[.slice A3 t.nodes.length c3,.slice A4 t.tops.length c4] 33)=W0 at hk0;replace hb:Blk W0 w.heap.size [.slice A3 t.nodes.length c3,.slice A4 t.tops.length c4] 33:=hW0▸hb;have HS:Hi (∀W,Q0 nob W0 W→W.cell? ⟨w.heap.size,0,none⟩=some (.slice A3 t.nodes.length c3)∧W.cell? ⟨w.heap.size,1,none⟩=some (.slice A4 t.tops.length c4)):=Hh fun W hW=>⟨hW.cell id (hb.cell 0 _ rfl),hW.cell id (hb.cell 1 _ rfl)⟩
 have HV:Hi (Z3 W0 (.agg #[.slice A3 t.nodes.length c3,.slice A4 t.tops.length c4]) t):=Hh (ht'.old hk0.old);have HTC:Hi (∀j x,t.tops[j]?=some x→∀W,Q0 nob W0 W→W.cell? ⟨tb,tq+j,none⟩=some (.int .i64 x)):=Hh fun j x hx W hW=>(hk0.trans hW).cell id (htc j x hx)
 have HNC:Hi (∀j x,t.nodes[j]?=some x→∀W,Q0 nob W0 W→W.cell? ⟨nb,no+j*4+1,none⟩=some (.string x.text)):=Hh fun j x hx W hW=>by
  obtain⟨kv,_,h1,_⟩:=hnc j x hx;exact (hk0.trans hW).cell id h1
 obtain⟨g0,g1⟩:=HS.o W0 (Kr _ _);have HK0:=Hh hk0;have HTA:=Hh htA;have HNA:=Hh hnA;clear hb ht' hk0 htc hnc htA hnA;cases htb:Yi t with
 |false =>
  have HTB:=Hh htb;have HX:Hi (Xx t name = -1):=Hh (by unfold Xx;rw[htb];rfl);go_enter func31,ntmps31;go_wp2_with (go_at_call 70;refine (Q2z t _ _ HV.o hX hSm).mono ?_;rw[Q6u,HTB.o];rintro e w1 ⟨rfl,hk1⟩;have HK1:=Hh hk1;clear hk1);go_returns;rw[HX.o];exact⟨rfl,HK0.o.trans HK1.o⟩
 |true =>
 have HTB:=Hh htb;have HX:Hi (Xx t name=Q2 t t.tops name):=Hh (by unfold Xx;rw[htb];rfl);have HTK:=Hh (Xc htb).2.2.2.1;generalize Xx t name=X at *;clear htb;go_enter func31,ntmps31;go_wp2_with (go_at_call 70;refine (Q2z t _ _ HV.o hX hSm).mono ?_;rw[Q6u,HTB.o];rintro e w1 ⟨rfl,hk1⟩;have HK1:=Hh hk1;clear hk1);go_loopw [5] (fun k wr=>∃j:Nat,j≤t.tops.length∧k=.int .i64 j∧Hi (Q0 nob W0 wr∧X=Q2 t (t.tops.drop j) name)) (fun k _=>t.tops.length-(intOf k).toNat)
 case atStart=>exact⟨0,Nat.zero_le _,rfl,Hh ⟨HK1.o,HX.o⟩⟩
 case round =>
  obtain⟨j,hj,rfl,HR⟩:=hrel;obtain⟨wo,rfl⟩:∃wo:World,wo=wr:=⟨_,rfl⟩;obtain⟨q0,q1⟩:=HS.o wo HR.o.1
  by_cases hlt:j<t.tops.length
  ·obtain⟨i,hx⟩:=Q3 hlt
   obtain⟨mk,rfl,hn⟩:=Q1.at_lt (HTK.o i (Mg hx)).1;have hmk:(mk:Int)<t.nodes.length:=(HTK.o _ (Mg hx)).1.2;have x0:=HTC.o j _ hx wo HR.o.1;have x1:=HNC.o mk _ hn wo HR.o.1;obtain rfl:=HTA.o (by omega);obtain rfl:=HNA.o (by omega);have hjn:(j:Int)<(t.tops.length:Int):=by omega
   have HXJ:Hi (X=(if (t.at (mk:Int)).text=name then (mk:Int) else Q2 t (t.tops.drop (j+1)) name)):=Hh (by rw[HR.o.2,Qd hx];rfl);generalize hat:t.at (mk:Int)=nd at *;have HKR:=Hh HR.o.1;clear hx hn hat HR;cases ty:(nd.text.toList==name.toList) with
   |true =>
    have HXE:Hi (X=(mk:Int)):=Hh (by rw[HXJ.o,Ps (Q0c ty)]);go_upto_region 6 with fail
    go_quiet (fail);go_wp2_with fail;go_returns;rw[HXE.o];exact⟨rfl,HK0.o.trans (HKR.o.trans (by repeat' first|exact Kr _ _|apply Ka|apply Kd|apply Kn))⟩
   |false =>
    have HXE:Hi (X=Q2 t (t.tops.drop (j+1)) name):=Hh (by rw[HXJ.o,Ng (Q1s ty)]);go_upto_region 6 with fail
    go_quiet (fail);go_wp2_with fail;go_roundw
    case rel=>exact⟨j+1,by omega,by go_num,Hh ⟨HKR.o.trans (by repeat' first|exact Kr _ _|apply Ka|apply Kd|apply Kn),HXE.o⟩⟩
    case measure=>simp[intOf];omega
  ·have HXE:Hi (X = -1):=Hh (by rw[HR.o.2,Dn (by omega)];rfl)
   go_wp2_with fail;go_returns;rw[HXE.o];exact⟨rfl,HK0.o.trans HR.o.1⟩
def own (v:Value):Nat→Prop:=fun k=>v.ownBlock=some k
def Q2j (w:World) (v v':Value):Prop:=v'.ownBlock=v.ownBlock∨∃b,v'.ownBlock=some b∧w.heap.size≤b
theorem Q2j.refl (w:World) (v:Value):Q2j w v v:=.inl rfl
theorem Q2j.le {w w0:World} {v v':Value} (h:Q2j w v v') (hs:w0.heap.size≤w.heap.size):Q2j w0 v v':=h.imp id (fun⟨b,e,hb⟩=>⟨b,e,by omega⟩)
theorem Q2j.trans {w0 w1:World} {v0 v1 v2:Value} (h:Q2j w0 v0 v1) (k:Q2j w1 v1 v2) (hs:w0.heap.size≤w1.heap.size):Q2j w0 v0 v2:=by
 rcases k with e|⟨b,e,hb⟩
 ·rcases h with e2|⟨b,e2,hb⟩
  ·exact .inl (e.trans e2)
  ·exact .inr ⟨b,e.trans e2,hb⟩
 ·exact .inr ⟨b,e,by omega⟩
theorem Q0.grew {w0 w1 w2:World} {v0 v1:Value} (h:Q0 (own v0) w0 w1) (g:Q2j w0 v0 v1) (k:Q0 (own v1) w1 w2):Q0 (own v0) w0 w2 :=
 h.then_ k fun q hq=>by
  have hq:v1.ownBlock=some q:=hq;rcases g with e|⟨b,e,hb⟩
  ·exact .inl (e.symm.trans hq)
  ·rw[e] at hq;cases hq;exact .inr hb
theorem Qf.grew {S S':Nat→Prop} {e:TypeId} {w:World} {v:Value} {xs:List Value} (h:Qf S e w v xs):∀k,own v k→S k:=h.2
structure TB (S:Nat→Prop) (w:World) (t:Q1) (nv tv:Value):Prop where
 ns:Qm S w fun w=>X4 w nv t.nodes
 ts:Qm S w fun w=>Qi w tv t.tops
theorem TB.kept {S:Nat→Prop} {w w':World} {t:Q1} {nv tv:Value} (h:TB S w t nv tv) (k:Q0 S w w'):TB S w' t nv tv:=⟨h.ns.kept k,h.ts.kept k⟩
theorem TB.nobk {S:Nat→Prop} {w w':World} {t:Q1} {nv tv:Value} (h:TB S w t nv tv) (k:Q0 nob w w'):TB S w' t nv tv:=h.kept (k.ofNob _)
theorem TB.mono {S S':Nat→Prop} {w:World} {t:Q1} {nv tv:Value} (h:TB S w t nv tv) (hs:∀k,k<w.heap.size→S' k→S k):TB S' w t nv tv:=⟨h.ns.mono hs,h.ts.mono hs⟩
theorem TB.vtree {S:Nat→Prop} {w:World} {t:Q1} {nv tv:Value} (h:TB S w t nv tv):Z3 w (.agg #[nv,tv]) t:=⟨nv,tv,rfl,h.ns.now,h.ts.now⟩
theorem TB.of {w w':World} {t:Q1} {nv tv:Value} (h:Z3 w (.agg #[nv,tv]) t) (k:Q0 nob w w'):TB (Q7 w.heap.size) w' t nv tv:=by
 obtain⟨a,b,e,h0,h1⟩:=h;cases e;have ho:∀W,Q0 (Q7 w.heap.size) w' W→Zu w W:=fun W hW=>((k.ofNob _).trans hW).oldS fun q hq hs=>by have:w.heap.size≤q:=hs;omega
 exact⟨fun W hW=>h0.old (ho W hW),fun W hW=>h1.old (ho W hW)⟩
theorem TB.node {S:Nat→Prop} {w:World} {t:Q1} {nv tv:Value} (h:TB S w t nv tv) {mi:Nat} {n:Qc} (hn:t.nodes[mi]?=some n) :
  ∃nb no nc A kb ko kc,nv=.slice (some ⟨nb,no,none⟩) t.nodes.length nc∧(mi:Int)<t.nodes.length∧(∀W,Q0 S w W→W.cell? ⟨nb,no+mi*4,none⟩=some (.int .i64 n.kind)∧W.cell? ⟨nb,no+mi*4+1,none⟩=some (.string n.text)∧W.cell? ⟨nb,no+mi*4+2,none⟩=some (.int .i64 n.i)∧W.cell? ⟨nb,no+mi*4+3,none⟩=some (.slice A n.kids.length kc)) ∧
   n.kids.length≤140737488355328∧n.kids.length≤kc∧(0<n.kids.length→A=some ⟨kb,ko,none⟩)∧(∀j x,n.kids[j]?=some x→∀W,Q0 S w W→W.cell? ⟨kb,ko+j,none⟩=some (.int .i64 x)):=by
 obtain⟨A,nb,no,nc,rfl,hl,hlc,hA,hc⟩:=h.ns.nodes;obtain⟨hlt,_⟩:=Gs hn;obtain rfl:=hA (by omega);obtain⟨nk,Qmq,Qmk⟩:=hc mi n hn;obtain⟨KA,kb,ko,kc,rfl,kl,klc,hKA,hkc⟩:=Qmk.ints;exact⟨nb,no,nc,KA,kb,ko,kc,rfl,by omega,Qmq,kl,klc,fun h0=>(hKA h0).1,hkc⟩
theorem TB.len {S:Nat→Prop} {w:World} {t:Q1} {nv tv:Value} (h:TB S w t nv tv):∃A c B d,nv=.slice A t.nodes.length c∧tv=.slice B t.tops.length d:=by
 obtain⟨A,b,o,c,h0,_⟩:=h.ns.now;obtain⟨B,b',o',d,h1,_⟩:=h.ts.now;exact⟨A,c,B,d,h0,h1⟩
section
variable {α:Type} [DecidableEq α]
def grow (l xs:List α):List α:=xs.foldl (fun l x=>if x∈l then l else l++[x]) l
theorem Qfj {l:List α} {x:α} (h:x∈l):grow l [x]=l:=by show (if x∈l then l else l++[x])=l;rw[Ps h]
theorem Qd4 {l:List α} {x:α} (h:x∉l):grow l [x]=l++[x]:=by show (if x∈l then l else l++[x])=_;rw[Ng h]
theorem Q6r (l a b:List α):grow l (a++b)=grow (grow l a) b:=by unfold grow;rw[List.foldl_append]
theorem Q29 (l xs:List α) (x:α):x∈grow l xs↔x∈l∨x∈xs:=by
 induction xs generalizing l with
 |nil=>simp[grow]
 |cons y ys ih =>
  show x∈grow (if y∈l then l else l++[y]) ys↔_
  rw[ih];split
  ·rename_i h
   constructor
   ·rintro (h1|h1);exact .inl h1;exact .inr (by simp[h1])
   ·rintro (h1|h1);exact .inl h1
    rcases List.mem_cons.1 h1 with rfl|h2;exact .inl h;exact .inr h2
  ·simp[or_assoc]
theorem Q5s {l:List α} (h:l.Nodup) (xs:List α):(grow l xs).Nodup:=by
 induction xs generalizing l with
 |nil=>exact h
 |cons y ys ih =>
  show (grow (if y∈l then l else l++[y]) ys).Nodup
  apply ih;split
  ·exact h
  ·rename_i hy
   rw[List.nodup_append];exact⟨h,by simp,fun a ha b hb e=>hy (by simp at hb;rw[← hb,← e];exact ha)⟩
theorem Qiz (l xs:List α):∃m,grow l xs=l++m:=by
 induction xs generalizing l with
 |nil=>exact⟨[],by simp[grow]⟩
 |cons y ys ih =>
  obtain⟨m,hm⟩:=ih (if y∈l then l else l++[y]);have e:grow l (y::ys)=grow (if y∈l then l else l++[y]) ys:=rfl;rw[e,hm];split
  ·exact⟨m,rfl⟩
  ·exact⟨[y]++m,by simp⟩
def Jh (C:α→List α) (a:α):Nat→List α
 |0=>grow [] (C a)
 |i+1=>match (Jh C a i)[i]? with
  |some x=>grow (Jh C a i) (C x)
  |none=>Jh C a i
theorem Q65 (C:α→List α) (a:α) (i:Nat):(Jh C a i).Nodup:=by
 induction i with
 |zero=>exact Q5s (by simp) _
 |succ i ih =>
  simp only[Jh];split
  ·exact Q5s ih _
  ·exact ih
theorem Q5g (C:α→List α) (a:α) (i:Nat):∃m,Jh C a (i+1)=Jh C a i++m:=by
 simp only[Jh];split
 ·exact Qiz _ _
 ·exact⟨[],by simp⟩
theorem Q9b (C:α→List α) (a:α) {i:Nat} (h:(Jh C a i).length≤i) (j:Nat) (hj:i≤j):Jh C a j=Jh C a i:=by
 induction j with
 |zero=>rw[show i=0 by omega]
 |succ j ih =>
  by_cases e:i=j+1
  ·rw[e]
  ·have hs:=ih (by omega)
   simp only[Jh];rw[hs,List.getElem?_eq_none (by omega)]
theorem Q64 (C:α→List α) (a:α) (i:Nat) {x:α} (h:x∈C a):x∈Jh C a i:=by
 induction i with
 |zero=>exact (Q29 _ _ _).2 (.inr h)
 |succ i ih=>obtain⟨m,hm⟩:=Q5g C a i;rw[hm];simp[ih]
theorem Qcv (C:α→List α) (a:α) (i:Nat):∀j,j<i→∀y,(Jh C a i)[j]?=some y→∀x∈C y,x∈Jh C a i:=by
 induction i with
 |zero=>intro j hj;omega
 |succ i ih =>
  intro j hj y hy x hx;obtain⟨m,hm⟩:=Q5g C a i;cases hc:(Jh C a i)[i]? with
  |none =>
   have e:Jh C a (i+1)=Jh C a i:=by simp only[Jh];rw[hc]
   rw[e] at hy ⊢
   by_cases e2:j=i
   ·subst e2;rw[hc] at hy;cases hy
   ·exact ih j (by omega) y hy x hx
  |some z =>
   have e:Jh C a (i+1)=grow (Jh C a i) (C z):=by simp only[Jh];rw[hc]
   have hl:i<(Jh C a i).length:=(Gs hc).1;have hy2:(Jh C a i)[j]?=some y:=by rw[← hy,hm,List.getElem?_append_left (by omega)]
   rw[e]
   by_cases e2:j=i
   ·subst e2;rw[hc] at hy2;cases hy2
    exact (Q29 _ _ _).2 (.inr hx)
   ·exact (Q29 _ _ _).2 (.inl (ih j (by omega) y hy2 x hx))
theorem Q21 (C:α→List α) (a:α) {P:α→Prop} (h0:∀x∈C a,P x) (h1:∀y,P y→∀x∈C y,P x) (i:Nat):∀x∈Jh C a i,P x:=by
 induction i with
 |zero =>
  intro x hx;rcases (Q29 _ _ _).1 hx with h|h
  ·cases h
  ·exact h0 x h
 |succ i ih =>
  intro x hx;simp only[Jh] at hx;split at hx
  ·rename_i z hz
   rcases (Q29 _ _ _).1 hx with h|h
   ·exact ih x h
   ·exact h1 z (ih z (Mg hz)) x h
  ·exact ih x hx
end
def Zs (t:Q1):Nat→Int→List ByteArray
 |0,_=>[]
 |f+1,i=>(if (t.at i).kind=7 then [(t.at i).text] else [])++(t.at i).kids.flatMap (Zs t f)
def Q5o (t:Q1) (x:ByteArray):Prop:=∃i,InT t i∧(t.at i).text=x
def Q0z (t:Q1) (l:List ByteArray):Prop:=l.Nodup∧∀x∈l,Q5o t x
theorem Q0z.few {t:Q1} {l:List ByteArray} (h:Q0z t l):l.length≤t.nodes.length:=by
 have:=Q6p h.1 (m:=t.nodes.map (·.text)) (fun x hx=>by
  obtain⟨i,hi,rfl⟩:=h.2 x hx;obtain⟨m,rfl,hm⟩:=Q1.at_lt hi;exact List.mem_map.2 ⟨_,Mg hm,rfl⟩)
 rwa [List.length_map] at this
theorem Qdn {t:Q1} (hK:Qj t):∀(f:Nat) (i:Int),InT t i→∀x∈Zs t f i,Q5o t x:=by
 intro f
 induction f with
 |zero=>intro i _ x hx;cases hx
 |succ f ih =>
  intro i hi x hx;simp only[Zs,List.mem_append,List.mem_flatMap] at hx;rcases hx with hx|⟨k,hk,hx⟩
  ·split at hx
   ·simp at hx;exact⟨i,hi,hx.symm⟩
   ·cases hx
  ·exact ih k (hi.kid hK hk) x hx
theorem Q0z.grow {t:Q1} {l:List ByteArray} (h:Q0z t l) {xs:List ByteArray} (hx:∀x∈xs,Q5o t x):Q0z t (grow l xs) :=
 ⟨Q5s h.1 xs,fun x hm=>((Q29 _ _ _).1 hm).elim (h.2 x) (hx x)⟩
def Qew (t:Q1) (f:Nat):Prop :=
 ∀(S:Nat→Prop) (w:World) (nv tv lv:Value) (l:List ByteArray) (i:Int),TB S w t nv tv→Qf S 9 w lv (strs l)→Jl S w→InT t i→i<f→Q0z t l →
  Calls prog 72 #[.agg #[nv,tv],.int .i64 i,lv] w fun e w'=>∃v,e=.returned v∧Qf S 9 w' v (strs (grow l (Zs t f i)))∧Q0 (own lv) w w'∧Q2j w lv v
theorem Qbe {t:Q1} {f:Nat} (hK:Qj t) (hsz:t.nodes.length≤4000) (hsm:Jz t) (hF:Qew t f):Qew t (f+1):=by
 intro S w nv tv lv l i hT hL hS hi hif hl;obtain⟨X,hX⟩:∃X,X=grow l (Zs t (f+1) i):=⟨_,rfl⟩;rw[← hX];have HXX:Hi (X=grow (grow l (if (t.at i).kind=7 then [(t.at i).text] else [])) ((t.at i).kids.flatMap (Zs t f))):=Hh (by rw[hX,← Q6r];rfl);clear hX;obtain⟨mi,rfl,hnd⟩:=Q1.at_lt hi;obtain⟨tA,tc,B,bc,htl,rfl⟩:=hT.len;clear htl tA tc;obtain⟨nb,no,nc,A,kb,ko,kc,rfl,hml,Qmq,kl,klc,hA,hkc⟩:=hT.node hnd;have hkm:=hsm (mi:Int);have HKI:Hi (∀k∈(t.at (mi:Int)).kids,InT t k∧k<mi):=Hh fun k hk=>⟨hi.kid hK hk,(hK.mem hi hk).2⟩
 have HTX:Hi (Q5o t (t.at (mi:Int)).text):=Hh ⟨mi,hi,rfl⟩;generalize t.at (mi:Int)=n at *;have hk0:Q0 nob w (w.alloc (.cells #[.slice (some ⟨nb,no,none⟩) t.nodes.length nc,.slice B t.tops.length bc] 33)):=(Kr _ _).alloc _;have hb:=Blk.new w [.slice (some ⟨nb,no,none⟩) t.nodes.length nc,.slice B t.tops.length bc] 33;have hst:(w.alloc (.cells #[.slice (some ⟨nb,no,none⟩) t.nodes.length nc,.slice B t.tops.length bc] 33)).heap.size=w.heap.size+1:=by simp
 generalize hW0:w.alloc (.cells #[.slice (some ⟨nb,no,none⟩) t.nodes.length nc,.slice B t.tops.length bc] 33)=W0 at hk0 hst;replace hb:Blk W0 w.heap.size [.slice (some ⟨nb,no,none⟩) t.nodes.length nc,.slice B t.tops.length bc] 33:=hW0▸hb;have g0:=hb.cell 0 _ rfl;obtain⟨d0,d1,d2,d3⟩:=Qmq W0 (hk0.ofNob _);obtain⟨lA,lc,hlv⟩:=hL.len;rw[Qk] at hlv;subst hlv;have HLT:Hi (∀k,own (.slice lA l.length lc) k→k<w.heap.size):=Hh fun k hk=>hL.lt k hk
 have HB:=Hh hb;have HK0:=Hh hk0;have HL:=Hh hL;have HT:=Hh hT;have HF:=Hh hF;have HS:=Hh hS;have HA:=Hh hA;have HKC:=Hh hkc;have HNI:=Hh hl;have HKO:=Hh hK;have Qo8:=hl.few;clear hb hk0 hL hT hF hS hA hkc hl hK hnd hi Qmq;go_enter func72,ntmps72;go_upto_region 1 with fail
 go_cut [7] (fun s7 wx=>∃p:Nat,s7=.pointer (some ⟨p,0,none⟩)∧Blk wx p [.int .i64 n.kind,.string n.text,.int .i64 n.i,.slice A n.kids.length kc] 70∧Q0 nob W0 wx∧w.heap.size<p)
 case first =>
  go_wp2_with fail;go_meet;exact⟨_,rfl,Blk.new_of _ [_,_,_,_] _ hst.symm,(Kr _ _).alloc _,by omega⟩
 case rest =>
 obtain⟨p,rfl,hb,hkx,hpl⟩:=hcut;obtain⟨wo,rfl⟩:∃wo:World,wo=wc:=⟨_,rfl⟩;have y0:=hb.cell 0 _ rfl;have y1:=hb.cell 1 _ rfl;have HBX:=Hh hb;have HKX:=Hh hkx;have HKW:=Hh (HK0.o.trans hkx);clear d0 d1 d2 d3 g0 hb hkx;go_upto_region 2 with fail
 go_cut [23] (fun s23 wx=>s23=.bool ((n.kind==7)&&!Z9 n.text l)∧wx=wo)
 case first =>
  cases tk:(n.kind==7) with
  |false=>go_wp2_with fail;go_meet;exact⟨by rw[tk];rfl,rfl⟩
  |true=>go_wp2_with (go_at_call 33;refine (Ji _ _ l n.text ((HL.o.nobk HKW.o).strs (by omega))).mono ?_;rintro e w3 ⟨rfl,rfl⟩);go_meet;exact⟨by rw[tk];rfl,rfl⟩
 case rest =>
 obtain⟨rfl,rfl⟩:=hcut
 have HG:Hi (grow l (if n.kind=7 then [n.text] else [])=if ((n.kind==7)&&!Z9 n.text l)=true then l++[n.text] else l):=Hh (by
  by_cases h7:n.kind=7
  ·rw[Ps h7,h7]
   cases hh:Z9 n.text l with
   |true=>rw[Qfj ((X6 _ _).1 hh),Ng (by simp)]
   |false=>rw[Qd4 (fun hm=>by rw[(X6 _ _).2 hm] at hh;cases hh),Ps (by rfl)]
  ·rw[Ng h7,Ng (by simp[h7])];rfl)
 have HN1:Hi (Q0z t (grow l (if n.kind=7 then [n.text] else []))):=Hh (HNI.o.grow fun x hx=>by
  split at hx
  ·simp at hx;rw[hx];exact HTX.o
  ·cases hx)
 generalize grow l (if n.kind=7 then [n.text] else [])=l1 at HXX HG HN1;go_upto_if 23 with fail
 go_cut [2] (fun s2 wx=>Qf S 9 wx s2 (strs l1)∧Q0 (own (.slice lA l.length lc)) wc wx∧Q2j wc (.slice lA l.length lc) s2)
 case first =>
  cases tb:((n.kind==7)&&!Z9 n.text l) with
  |false =>
   go_wp2_with fail;go_meet;rw[HG.o,Ng (by rw[tb];simp)];exact⟨HL.o.nobk HKW.o,Kr _ _,.inl rfl⟩
  |true =>
   have HL1:=Hh (HL.o.nobk HKW.o);have HS1:=Hh (HS.o.kept HKW.o);go_wp2_with (at_builtin;refine J1 S rfl _ _ 66 9 (.string ByteArray.empty) 16 rfl underlying66 (by kernel_rfl) rfl (.slice lA l.length lc) (strs l) (.string n.text) rfl rfl (by simp) rfl HL1.o HS1.o (by rw[Qk];omega) (by rw[Qk];omega) ?_;intro nv1 w5 Qmn hk5 Qmt;have H5:=Hh (And.intro Qmn (And.intro hk5 Qmt));clear Qmn hk5 Qmt);go_meet;rw[HG.o,Ps (by rw[tb])];exact⟨by rw[← Q3r];exact H5.o.1,H5.o.2.1,H5.o.2.2⟩
 case rest =>
 obtain⟨hl1,hk1,hg1⟩:=hcut;obtain⟨wq,rfl⟩:∃wq:World,wq=wc:=⟨_,rfl⟩;have Qxw:W0.heap.size≤wc.heap.size:=HKX.o.size;have Qxx:wc.heap.size≤wq.heap.size:=hk1.size;have hpc:p<wc.heap.size:=HBX.o.lt;obtain⟨S',hS'⟩:∃S':Nat→Prop,S'=fun k=>S k∧k≠w.heap.size∧k≠p:=⟨_,rfl⟩
 have hS1:∀k,S' k→S k∧k≠w.heap.size∧k≠p:=fun k h=>by rw[hS'] at h;exact h
 have hS2:∀k,S k→k<w.heap.size∨wc.heap.size≤k→S' k:=fun k h h2=>by rw[hS'];exact⟨h,by omega,by omega⟩
 have hT1:Q0 (own (.slice lA l.length lc)) w wq:=(HKW.o.ofNob _).trans hk1;have hg1':Q2j w (.slice lA l.length lc) u2:=hg1.le HKW.o.size
 have HO1:Hi (Qf S' 9 wq u2 (strs l1)):=Hh ⟨hl1.1,fun k hk=>by
  rcases hg1 with e|⟨b,e,hb⟩
  ·have h9:own (.slice lA l.length lc) k:=e.symm.trans hk
   exact hS2 k (HL.o.2 k h9) (.inl (HLT.o k h9))
  ·rw[e] at hk;cases hk
   exact hS2 _ (HS.o.kept HKW.o _ hb) (.inr hb)⟩
 have HT1:Hi (TB S' wq t (.slice (some ⟨nb,no,none⟩) t.nodes.length nc) (.slice B t.tops.length bc)):=Hh ((HT.o.kept (hT1.mono fun k _ h=>HL.o.2 k h)).mono fun k _ h=>(hS1 k h).1)
 have HS3:Hi (∀W,Q0 S' wq W→W.cell? ⟨p,3,none⟩=some (.slice A n.kids.length kc)∧W.cell? ⟨w.heap.size,0,none⟩=some (.slice (some ⟨nb,no,none⟩) t.nodes.length nc)∧W.cell? ⟨w.heap.size,1,none⟩=some (.slice B t.tops.length bc)):=Hh fun W hW=>by
  have h1:=HBX.o.kept hk1 (fun e=>by have:=HLT.o p e;omega);have h2:=(HB.o.kept HKX.o id).kept hk1 (fun e=>by have:=HLT.o _ e;omega);exact⟨hW.cell (fun e=>(hS1 _ e).2.2 rfl) (h1.cell 3 _ rfl),hW.cell (fun e=>(hS1 _ e).2.1 rfl) (h2.cell 0 _ rfl),hW.cell (fun e=>(hS1 _ e).2.1 rfl) (h2.cell 1 _ rfl)⟩
 have Qru:Hi (∀j x,n.kids[j]?=some x→∀W,Q0 S' wq W→W.cell? ⟨kb,ko+j,none⟩=some (.int .i64 x)):=Hh fun j x hx W hW=>HKC.o j x hx W ((hT1.mono fun k _ h=>HL.o.2 k h).trans (hW.mono fun k _ h=>(hS1 k h).1))
 have HS1:=Hh hS1;have HFR:Hi (Jl S' wq):=Hh fun k hk=>hS2 k (HS.o k (by have:=hT1.size;omega)) (.inr (by omega))
 have HT:=Hh hT1;have HG1:=Hh hg1';have HX1:=HXX;clear hS' hS1 hS2 hT1 hg1' hl1 hk1 hg1 y0 y1;go_wp2_with fail;go_loopw [2,8] (fun lv k wr=>∃(j:Nat) (lj:List ByteArray),j≤n.kids.length∧k=.int .i64 j∧Hi (Qf S' 9 wr lv (strs lj)∧Q0z t lj∧Q0 S' wq wr∧Q0 (own (.slice lA l.length lc)) w wr∧Q2j w (.slice lA l.length lc) lv∧X=grow lj ((n.kids.drop j).flatMap (Zs t f)))) (fun _ k _=>n.kids.length-(intOf k).toNat)
 case atStart=>exact⟨0,l1,Nat.zero_le _,rfl,Hh ⟨HO1.o,HN1.o,Kr _ _,HT.o,HG1.o,HX1.o⟩⟩
 case round =>
  obtain⟨j,lj,hj,rfl,HR⟩:=hrel;obtain⟨wo,rfl⟩:∃wo:World,wo=wr:=⟨_,rfl⟩;obtain⟨p3,q0,q1⟩:=HS3.o wo HR.o.2.2.1
  by_cases hlt:j<n.kids.length
  ·obtain⟨k,hk⟩:=Q3 hlt
   obtain rfl:=HA.o (by omega);have x1:=Qru.o j k hk wo HR.o.2.2.1;have hjn:(j:Int)<(n.kids.length:Int):=by omega
   have HKR:=Hh HR.o.2.2.1;have hs3:∀W,Q0 S' wo W→W.cell? ⟨p,3,none⟩=some (.slice (some ⟨kb,ko,none⟩) n.kids.length kc):=fun W hW=>(HS3.o W (HKR.o.trans hW)).1
   have hs4:∀W,Q0 S' wo W→W.cell? ⟨w.heap.size,0,none⟩=some (.slice (some ⟨nb,no,none⟩) t.nodes.length nc):=fun W hW=>(HS3.o W (HKR.o.trans hW)).2.1
   have hs5:∀W,Q0 S' wo W→W.cell? ⟨w.heap.size,1,none⟩=some (.slice B t.tops.length bc):=fun W hW=>(HS3.o W (HKR.o.trans hW)).2.2
   have hs6:∀W,Q0 S' wo W→W.cell? ⟨kb,ko+j,none⟩=some (.int .i64 k):=fun W hW=>Qru.o j k hk W (HKR.o.trans hW)
   obtain⟨hki,hkf⟩:=HKI.o k (Mg hk)
   have Qmm:Hi (∀W,Q0 nob wo W→Calls prog 72 #[.agg #[.slice (some ⟨nb,no,none⟩) t.nodes.length nc,.slice B t.tops.length bc],.int .i64 k,u2] W fun e w'=>∃v,e=.returned v∧Qf S' 9 w' v (strs (grow lj (Zs t f k)))∧Q0 (own u2) W w'∧Q2j W u2 v):=Hh fun W hW =>
    HF.o S' W _ _ u2 lj k ((HT1.o.kept HKR.o).nobk hW) (HR.o.1.nobk hW) ((HFR.o.kept HKR.o).kept hW) hki (by omega) HR.o.2.1
   have hr0:Q0 S' wo wo:=Kr _ _;have HNX:Hi (Q0z t (grow lj (Zs t f k))∧X=grow (grow lj (Zs t f k)) ((n.kids.drop (j+1)).flatMap (Zs t f))):=Hh ⟨HR.o.2.1.grow (Qdn HKO.o f k hki),by rw[HR.o.2.2.2.2.2,Qd hk,List.flatMap_cons,Q6r]⟩;clear hk hki hkf;go_upto_region 7 with fail
   go_region_held3 (fun W=>Q0 S' wo W) (first|assumption|exact hr0.drew|exact Kd ‹_›) ((go_at_call 72;refine (Qmm.o _ (Kr _ _).drew).mono ?_;rintro e w2 ⟨v2,rfl,ho2,hk2,hg2⟩;have HO2:=Hh ho2;have HK2:=Hh hk2;have HG2:=Hh hg2;have hkx:=hr0.drew.trans (hk2.mono fun k _ h=>HR.o.1.2 k h);clear ho2 hk2 hg2;dsimp only));go_wp2_with fail;go_roundw
   case rel=>exact⟨j+1,_,by omega,by go_num,Hh ⟨HO2.o,HNX.o.1,HKR.o.trans hkx,HR.o.2.2.2.1.grew HR.o.2.2.2.2.1 HK2.o.undrew,HR.o.2.2.2.2.1.trans HG2.o HR.o.2.2.2.1.size,HNX.o.2⟩⟩
   case measure=>simp[intOf];omega
  ·have hjn:¬ (j:Int)<(n.kids.length:Int):=by omega
   have HXE:Hi (X=lj):=Hh (by rw[HR.o.2.2.2.2.2,Dn (by omega)];rfl);go_wp2_with fail;go_returns;rw[HXE.o];exact⟨_,rfl,⟨HR.o.1.1,fun k hk=>(HS1.o k (HR.o.1.2 k hk)).1⟩,HR.o.2.2.2.1,HR.o.2.2.2.2.1⟩
end Go.Proofs.YtkgkafjachjafaaGreat
