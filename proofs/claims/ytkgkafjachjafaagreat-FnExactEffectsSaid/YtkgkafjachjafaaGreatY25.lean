/- Part 25 of: FnExactEffects answers true; no condition. -/
import Derived.Test.YtkgkafjachjafaaGreatY21
import Derived.Test.YtkgkafjachjafaaGreatY23
set_option linter.unusedVariables false
set_option maxHeartbeats 2000000
set_option maxRecDepth 100000
open Go Go.RowKit
namespace Go.Proofs.YtkgkafjachjafaaGreat
open Tryz
def AtX (w:World) (wb gb:Nat) (r0 r1 r2 t0 t1 ov:Value) (s:SS) (w':World):Prop:=∃nv kv wv,AtW w wb gb r0 r1 r2 t0 t1 ov s nv kv wv w'
def Q7y (r:Reg) (t:Q1) (f:Nat) (W:SS→Int→SS):Prop :=
 ∀(w:World) (wb gb:Nat) (r0 r1 r2 t0 t1 ov:Value) (s:SS) (nv kv wv:Value) (i:Int),SpR w wb gb r0 r1 r2 t0 t1 ov s nv kv wv→Xl (at2 wb gb) w r t r0 r1 r2 t0 t1→Qz t s→InT t i→i<f→Zs (t.at i).kind=true→s.code=0 →
  Calls prog 181 #[.pointer (some ⟨wb,0,none⟩),.int .i64 i] w fun e w'=>e=.returned (.tuple #[])∧AtX w wb gb r0 r1 r2 t0 t1 ov (W s i) w'
theorem Q8b {W:SS→Int→SS} {k:Int} {l:List Int} {s:SS}:Zm W (k::l) s=Zm W l (if s.code=0 then W s k else s):=rfl
theorem Qeq {W:SS→Int→SS} {l:List Int} {s:SS} (h:s.code≠0):Zm W l s=s:=by
 induction l with
 |nil=>rfl
 |cons k l ih=>rw[Q8b,Ng h,ih]
theorem Qeo {t:Q1} {W:SS→Int→SS} {s:SS} {i:Int} {m:List ByteArray} {k:List Int} (h:s.code≠0):Jg t W s i m k=s:=by unfold Jg;rw[Ps h]
theorem Qh9 {t:Q1} {W:SS→Int→SS} {s:SS} {i:Int} {m:List ByteArray} {k:List Int} (h:s.code=0) :
  Jg t W s i m k={Zm W (t.at i).kids {s with names:=s.names++m,kinds:=s.kinds++k} with names:=s.names,kinds:=s.kinds}:=by unfold Jg;rw[Ng (by simpa using h)]
theorem Qe7 (a b:List ByteArray):strs a++strs b=strs (a++b):=by simp[strs]
theorem Qa4 (a b:List Int):Q5 a++Q5 b=Q5 (a++b):=by simp[Q5]
theorem Qr (a:List ByteArray):(strs a).length=a.length:=by simp[strs]
theorem Q2 (a:List Int):(Q5 a).length=a.length:=by simp[Q5]
section
variable {w:World} {wb gb:Nat} {r0 r1 r2 t0 t1 ov:Value} {s:SS} {nv kv wv:Value} {r:Reg} {t:Q1} {E:SS→Int→Int×SS} {W:SS→Int→SS} {f:Nat}
theorem Q69 (hW:Q7y r t f W) (hO:∀s i,InT t i→Qz t s→Qz t (W s i)) (h:SpR w wb gb r0 r1 r2 t0 t1 ov s nv kv wv) (F:Xl (at2 wb gb) w r t r0 r1 r2 t0 t1) (hok:Qz t s) (hK:Qk t)
  {i:Int} (hi:InT t i) (hif:i≤f) (hst:∀k∈(t.at i).kids,Zs (t.at k).kind=true) (mv qv:Value) (more:List ByteArray) (kinds:List Int)
  (hmv:Qj (at2 wb gb) w fun w=>Q0g w mv more) (hqv:Qj (at2 wb gb) w fun w=>Qf w qv kinds) (Qnm:more.length=kinds.length) (hnd:(s.names++more).Nodup) (Qor:∀x∈more,∃i,InT t i∧(t.at i).text=x) (hbd:s.names.length+more.length≤4194304) :
  Calls prog 137 #[.pointer (some ⟨wb,0,none⟩),.int .i64 i,mv,qv] w fun e w'=>e=.returned (.tuple #[])∧AtX w wb gb r0 r1 r2 t0 t1 ov (Jg t W s i more kinds) w':=by
 have p13:w.cell? ⟨wb,13,none⟩=some (.int .i64 s.code):=h.blk.cell 13 _ rfl
 by_cases h00:s.code=0
 case neg =>
  have tc:(s.code != 0)=true:=by simpa using h00
  rw[Qeo h00];have HH:=Hh h;clear h F hok hi hif hst hmv hqv hW hO hK h00 hnd Qor;go_enter func137,ntmps137;go_wp2_with fail;go_returns;exact⟨rfl,_,_,_,HH.o.nobk Kz,Kz⟩
 rw[h00] at p13;rw[Qh9 h00];obtain⟨nA,nbk,nq,ncap,rfl,nl,nlc,hnA,hnc⟩:=h.n.strs;obtain⟨kA,kbk,kq,kcap,rfl,kl,klc,hkA,hkc⟩:=h.k.ints;obtain⟨mA,mbk,mq,mcap,rfl,ml,mlc,hmA,hmc⟩:=hmv.strs;obtain⟨qA,qbk,qq,qcap,rfl,ql,qlc,hqA,hqc⟩:=hqv.ints;have hnk:=hok.nk;have hq6:∀W,Q0 nob w W→W.cell? ⟨wb,6,none⟩=some (.slice nA s.names.length ncap):=fun W hk=>hk.cell (fun h=>h) (h.blk.cell 6 _ rfl)
 have hq7:∀W,Q0 nob w W→W.cell? ⟨wb,7,none⟩=some (.slice kA s.kinds.length kcap):=fun W hk=>hk.cell (fun h=>h) (h.blk.cell 7 _ rfl)
 have p6:=hq6 w (Kr _ _);have hr0:Q0 nob w w:=Kr _ _;have HNA:=Hh fun h0=>(hnA h0).1
 have HNC:=Hh hnc;have HKA:=Hh hkA;have HKC:=Hh hkc;have HMA:=Hh fun h0=>(hmA h0).1
 have HMC:=Hh hmc;have HQA:=Hh hqA;have HQC:=Hh hqc;have HH:=Hh h;have HF:=Hh F;have HOK:=Hh hok;have HK:=Hh hK;have HI:=Hh hi;have HIF:=Hh hif;have HST:=Hh hst;have HW:=Hh hW;have HO:=Hh hO;have Qof:=Hh Qnm;have HND:=Hh hnd;have Qxw:=Hh Qor;have HNK:=Hh hnk;have H00:=Hh h00;have hbn:s.names.length≤4194304:=Om
 have hbk:s.kinds.length≤4194304:=Om
 have hbq:s.kinds.length+kinds.length≤4194304:=Om
 have hwl:=h.wl;have hgl:=h.gl;clear hnA hnc hkA hkc hmA hmc hqA hqc h F hok hi hif hst hmv hqv hW hO hK h00 hnd Qor Qnm hnk;go_enter func137,ntmps137;go_upto_region 2 with fail
 go_cut [9,10] (fun u9 u10 wx=>Qc (Q6 w.heap.size) 9 wx u9 (strs s.names)∧Qc (Q6 w.heap.size) 3 wx u10 (Q5 s.kinds)∧Q0 nob w wx)
 case first =>
  go_region_held3 (fun W=>Q0 nob w W) (first|assumption|exact hr0.drew|exact Kd ‹_›|exact Ka (Ku ‹_›) _|exact Ka ‹_› _) ((first|(refine Q2f rfl (Y3 w ‹_› _ _ 66 9 (.string ByteArray.empty) 16 rfl underlying66 Kf rfl _ (strs s.names) rfl (by first|exact Jv rfl (by simp)|exact Q0k rfl (by simp)|exact Q3s hk1 (Jv rfl Sm) (by simp)|exact Q3s hk1 (Q0k rfl Sm) Sm) (by first|exact Nat.le_refl _|simp|omega) nA nbk nq _ ncap rfl (Qr _).symm (fun h0=>HNA.o (by rw[Qr] at h0;exact h0)) (Q65 fun j x hx=>HNC.o j x hx _ (Q0.ofNob ‹_› _)) (Q3z _) (by rw[Qr];omega) (by rw[Qr];omega) ?_);intro v1 w1 ho1 hk1 Qq6;dsimp only)|(refine Q2f rfl (Y3 w ‹_› _ _ 26 3 (.int .i64 0) 8 rfl underlying26 Kf rfl _ (Q5 s.kinds) rfl (by first|exact Jv rfl (by simp)|exact Q0k rfl (by simp)|exact Q3s hk1 (Jv rfl Sm) (by simp)|exact Q3s hk1 (Q0k rfl Sm) Sm) (by first|exact Nat.le_refl _|simp|omega|(have:=Qq6.size;omega)) kA kbk kq _ kcap rfl (Q2 _).symm (fun h0=>(HKA.o (by rw[Q2] at h0;exact h0)).1) (Q2q fun j x hx=>HKC.o j x hx _ (Q0.ofNob ‹_› _)) (Q44 _) (by rw[Q2];omega) (by rw[Q2];omega) ?_);intro v2 w2 ho2 hk2 Qq7;dsimp only)))
  all_goals go_wp2_with fail
  all_goals go_meet
  ·exact⟨((ho1.alloc _).kept hk2 (fun k hk e=>by have:=ho1.lt k hk;have e':k=w1.heap.size:=e;omega)).mono (fun k hk=>by have:=Qq6.size;simp[Q3k,Q6] at hk ⊢;omega),ho2.mono (fun k hk=>by have:=Qq6.size;simp[Q3k,Q6] at hk ⊢;omega),Qq7⟩
  ·exact⟨(ho1.kept hk2 (fun k hk e=>by have:=ho1.2 k hk;have e':k=w.heap.size+1:=e;simp[Q3k] at this;omega)).mono (fun k hk=>by have:=Qq6.size;simp[Q3k,Q6] at hk ⊢;omega),ho2.mono (fun k hk=>by have:=Qq6.size;simp[Q3k,Q6] at hk ⊢;omega),Qq7⟩
  ·exact⟨(ho1.kept hk2 (fun k hk e=>by have:=ho1.2 k hk;have e':k=w.heap.size:=e;simp[Q3k] at this;omega)).mono (fun k hk=>by have:=Qq6.size;simp[Q3k,Q6] at hk ⊢;omega),ho2.mono (fun k hk=>by have:=Qq6.size;simp[Q3k,Q6] at hk ⊢;omega),Qq7⟩
 case rest =>
  obtain⟨hn9,Qqy,hkc⟩:=hcut;obtain⟨wo,rfl⟩:∃wo:World,wo=wc:=⟨_,rfl⟩;have hcn:=hn9.opened;obtain⟨A9,b9,c9,e9,_,l9,hA9,hc9⟩:=hcn;rw[Qr] at e9 l9;obtain⟨A10,b10,c10,e10,_,l10,Qu7,Qvx⟩:=Qqy.opened;rw[Q2] at e10 l10;subst e9 e10;have HN9:=Hh hn9;have Qq3:=Hh Qqy;have HA9:=Hh hA9;have Qxx:=Hh Qu7;have hsN:∀k,Q6 w.heap.size k→¬ at2 wb gb k:=fun k hk e=>by have:w.heap.size≤k:=hk;rcases e with e|e<;>omega
  have HSN:=Hh hsN;have HSO:Hi (∀k,Q6 wo.heap.size k→¬ at2 wb gb k):=Hh fun k hk=>hsN k (Nat.le_trans hkc.size hk)
  have Qvy:∀j u,(strs s.names)[j]?=some u→∀W,Q0 (at2 wb gb) wo W→W.cell? ⟨b9,0+j,none⟩=some u:=fun j u hu W hk=>by
   rw[Nat.zero_add];exact hk.cell (hsN _ (hA9 (by have:=(Gs hu).1;omega)).2.1) (hc9 j u hu).1
  have Qsn:∀j u,(Q5 s.kinds)[j]?=some u→∀W,Q0 (at2 wb gb) wo W→W.cell? ⟨b10,0+j,none⟩=some u:=fun j u hu W hk=>by
   rw[Nat.zero_add];exact hk.cell (hsN _ (Qu7 (by have:=(Gs hu).1;omega)).2.1) (Qvx j u hu).1
  have HC9:=Hh Qvy;have Qpd:=Hh Qsn;have Qr2:=Hh hkc;have H1:=Hh (HH.o.nobk hkc);have hkb:Q0 nob wo wo:=Kr _ _;have q6:wo.cell? ⟨wb,6,none⟩=some (.slice nA s.names.length ncap):=hq6 wo hkc;have q7:wo.cell? ⟨wb,7,none⟩=some (.slice kA s.kinds.length kcap):=hq7 wo hkc;have Qvz:=hkc.size;clear hn9 Qqy hA9 Qu7 hc9 Qvx hkc hq6 hq7 p13 p6 hr0 hsN Qvy Qsn;obtain⟨mi,rfl,hnd⟩:=Q1.at_lt HI.o;obtain⟨A,nb,no,nc,rfl,hl,hlc,hA,_⟩:=HF.o.t0.nodes;have hml:(mi:Int)<t.nodes.length:=HI.o.2;obtain rfl:=hA Om;obtain⟨dA,dkb,dko,dkc,hd,dl,dlc,hdA,hdc⟩:=HF.o.cells hnd;have HD:=Hh hd;have HDA:=Hh hdA;have HDC:=Hh hdc;clear hA hd hdA hdc hnd hlc;generalize hN:t.at (mi:Int)=n at *;have HNN:=Hh hN;clear hN;go_wp2_with (first|(at_builtin;refine Yw rfl (fun K hK=>?_);refine Y3 wo Kz _ _ 66 9 (.string ByteArray.empty) 16 rfl underlying66 Kf rfl _ (strs s.names) rfl (Jv rfl (by first|rfl|simp)) (by first|exact Nat.le_refl _|simp|omega) A9 b9 0 _ c9 rfl (Qr _).symm (fun h0=>(HA9.o h0).1) (fun j u hu=>HC9.o j u hu _ (Q0.ofNob Kz _)) (Q3z _) (by rw[Qr];omega) (by rw[Qr];omega) ?_;intro v3 w3 ho3 hk3 Qpo;refine hK _ _ ?_;clear hK;have HO3:=Hh (ho3.mono (fun k hk=>by simp[Q3k,Q6] at hk ⊢;omega):Qc (Q6 wo.heap.size) _ _ _ _);have Qu8:=Hh Qpo;clear ho3 hk3 Qpo)|(at_builtin;refine Yw rfl (fun K hK=>?_);refine Xf (Q6 wo.heap.size) _ _ 66 9 (.string ByteArray.empty) 16 rfl underlying66 Kf rfl v3 (strs s.names) (strs more) rfl mA mbk mq _ mcap rfl (Qr _).symm (fun h0=>HMA.o (by rw[Qr] at h0;exact h0)) (Q65 fun j x hx=>HMC.o j x hx _ (Q0.ofNob (Qr2.o.trans Qu8.o) _)) (Q3z _) HO3.o (fun k hk=>Nat.le_trans Qu8.o.size hk) (by rw[Qr,Qr];omega) (by rw[Qr,Qr];omega) ?_;intro v4 w4 ho4 hk4;refine hK _ _ ?_;clear hK;obtain⟨vA4,vc4,hv4⟩:=ho4.len;rw[show (strs s.names++strs more).length=s.names.length+more.length from by rw[List.length_append,Qr,Qr]] at hv4;subst hv4;have Qso:=Hh (Qu8.o.then_ hk4 (fun q hq=>.inr (HO3.o.2 q hq)));have y6:=Qso.o.cell (fun h=>h) q6;have f6:=(H1.o.nobk Qso.o).blk.free 6;have HS4:=Hh ((H1.o.nobk Qso.o).setNames (u:=.slice vA4 (s.names.length+more.length) vc4) (l:=s.names++more) (Q0z (by rw[← Qe7];exact ho4) HSO.o (by rw[List.length_append];omega)));have Qt9:=Hh ((Qso.o.ofNob (at2 wb gb)).wb 6 (.slice vA4 (s.names.length+more.length) vc4));have hs4:=Qso.o.size;clear ho4 hk4)|(at_builtin;refine Yw rfl (fun K hK=>?_);refine Y3 (w4.setCell ⟨wb,6,none⟩ (.slice vA4 (s.names.length+more.length) vc4)) Kz _ _ 26 3 (.int .i64 0) 8 rfl underlying26 Kf rfl _ (Q5 s.kinds) rfl (Jv rfl (by first|rfl|simp)) (by first|exact Nat.le_refl _|simp|omega) A10 b10 0 _ c10 rfl (Q2 _).symm (fun h0=>(Qxx.o h0).1) (fun j u hu=>Qpd.o j u hu _ (Qt9.o.trans (Q0.ofNob Kz _))) (Q44 _) (by rw[Q2];omega) (by rw[Q2];omega) ?_;intro v5 w5 ho5 hk5 Qpp;refine hK _ _ ?_;clear hK;have HO5:=Hh (ho5.mono (fun k hk=>by simp[Q3k,Q6] at hk ⊢;omega):Qc (Q6 (w4.setCell ⟨wb,6,none⟩ (.slice vA4 (s.names.length+more.length) vc4)).heap.size) _ _ _ _);have Qrj:=Hh Qpp;clear ho5 hk5 Qpp)|(at_builtin;refine Yw rfl (fun K hK=>?_);refine Xf (Q6 (w4.setCell ⟨wb,6,none⟩ (.slice vA4 (s.names.length+more.length) vc4)).heap.size) _ _ 26 3 (.int .i64 0) 8 rfl underlying26 Kf rfl v5 (Q5 s.kinds) (Q5 kinds) rfl qA qbk qq _ qcap rfl (Q2 _).symm (fun h0=>(HQA.o (by rw[Q2] at h0;exact h0)).1) (Q2q fun j x hx=>HQC.o j x hx _ ((Qr2.o.ofNob _).trans (Qt9.o.trans (Qrj.o.ofNob _)))) (Q44 _) HO5.o (fun k hk=>Nat.le_trans Qrj.o.size hk) (by rw[Q2,Q2];omega) (by rw[Q2,Q2];omega) ?_;intro v6 w6 ho6 hk6;refine hK _ _ ?_;clear hK;obtain⟨vA6,vc6,hv6⟩:=ho6.len;rw[show (Q5 s.kinds++Q5 kinds).length=s.kinds.length+kinds.length from by rw[List.length_append,Q2,Q2]] at hv6;subst hv6;have Qq8:=Hh (Qrj.o.then_ hk6 (fun q hq=>.inr (HO5.o.2 q hq)));have y7:=(HS4.o.nobk Qq8.o).blk.cell 7 _ rfl;have f7:=(HS4.o.nobk Qq8.o).blk.free 7;have HS6:=Hh ((HS4.o.nobk Qq8.o).setKinds (u:=.slice vA6 (s.kinds.length+kinds.length) vc6) (l:=s.kinds++kinds) (Q0u (by rw[← Qa4];exact ho6) (fun k hk=>HSO.o k (Nat.le_trans Qt9.o.size hk)) (by rw[List.length_append];omega)));have Qw0:=Hh ((Qt9.o.trans (Qq8.o.ofNob (at2 wb gb))).wb 7 (.slice vA6 (s.kinds.length+kinds.length) vc6));have p3:=HS6.o.blk.cell 3 _ rfl;have dd:=HD.o _ ((Qr2.o.ofNob _).trans Qw0.o);obtain⟨d0,d1,d2,d3⟩:=dd;clear ho6 hk6));have hbx:=Blk.new (w6.setCell ⟨wb,7,none⟩ (.slice vA6 (s.kinds.length+kinds.length) vc6)) [.int .i64 n.kind,.string n.text,.int .i64 n.i,.slice dA n.kids.length dkc] 70;have hsb:(w6.setCell ⟨wb,7,none⟩ (.slice vA6 (s.kinds.length+kinds.length) vc6)).heap.size=w6.heap.size:=by simp[World.setCell]
  have hk6:Q0 nob (w6.setCell ⟨wb,7,none⟩ (.slice vA6 (s.kinds.length+kinds.length) vc6)) ((w6.setCell ⟨wb,7,none⟩ (.slice vA6 (s.kinds.length+kinds.length) vc6)).alloc (.cells #[.int .i64 n.kind,.string n.text,.int .i64 n.i,.slice dA n.kids.length dkc] 70)):=(Kr _ _).alloc _;have hgt:¬ at2 wb gb (w6.setCell ⟨wb,7,none⟩ (.slice vA6 (s.kinds.length+kinds.length) vc6)).heap.size:=fun e=>by have h1:=HS6.o.wl;have h2:=HS6.o.gl;rcases e with e|e<;>omega
  generalize hWX:(w6.setCell ⟨wb,7,none⟩ (.slice vA6 (s.kinds.length+kinds.length) vc6)).alloc (.cells #[.int .i64 n.kind,.string n.text,.int .i64 n.i,.slice dA n.kids.length dkc] 70)=wX at hk6;replace hbx:Blk wX (w6.setCell ⟨wb,7,none⟩ (.slice vA6 (s.kinds.length+kinds.length) vc6)).heap.size [.int .i64 n.kind,.string n.text,.int .i64 n.i,.slice dA n.kids.length dkc] 70:=hWX▸hbx;rw[hsb] at hbx hgt;have HBX:Hi (∀W,Q0 (at2 wb gb) wX W→W.cell? ⟨w6.heap.size,3,none⟩=some (.slice dA n.kids.length dkc)):=Hh fun W hk=>hk.cell hgt (hbx.cell 3 _ rfl)
  have HX0:=Hh (HS6.o.nobk hk6);have HKX:=Hh (Qw0.o.trans (hk6.ofNob _));have hb3:=HBX.o wX (Kr _ _)
  have Qo0:Hi (Qz t {s with names:=s.names++more,kinds:=s.kinds++kinds}):=Hh (HOK.o.put (by rw[List.length_append,List.length_append,HNK.o,Qof.o]) HND.o (fun x hx=>by
   rcases List.mem_append.1 hx with hx|hx
   ·exact HOK.o.sub x hx
   ·exact Qxw.o x hx))
  clear hWX hk6 hgt hbx hsb p3 d0 d1 d2 d3 y6 f6 y7 f7;obtain⟨X,hX⟩:∃X,X=Zm W n.kids {s with names:=s.names++more,kinds:=s.kinds++kinds}:=⟨_,rfl⟩;have HXX:=Hh hX;have HGO:Hi (∀w',AtX w wb gb r0 r1 r2 (.slice (some ⟨nb,no,none⟩) t.nodes.length nc) t1 ov {X with names:=s.names,kinds:=s.kinds} w'→AtX w wb gb r0 r1 r2 (.slice (some ⟨nb,no,none⟩) t.nodes.length nc) t1 ov {Zm W (t.at (mi:Int)).kids {s with names:=s.names++more,kinds:=s.kinds++kinds} with names:=s.names,kinds:=s.kinds} w'):=Hh (fun w' hh=>by rw[HNN.o,← hX];exact hh);clear hX
  have Qxy:Hi (∀k∈n.kids,InT t k∧k<f∧Zs (t.at k).kind=true):=Hh fun k hk=>by
   rw[← HNN.o] at hk;have hst:=HST.o k (by first|exact hk|(rw[← HNN.o];exact hk)|(rw[HNN.o] at hk;exact hk));exact⟨HI.o.kid HK.o hk,by have:=(HK.o.mem HI.o hk).2;have:=HIF.o;omega,hst⟩
  have Qzk:s.names.length≤c9:=l9;have Qzl:s.kinds.length≤c10:=l10;have Qzm:s.names.length≤c10:=by rw[HNK.o];exact l10
  go_loopw [12] (fun u12 wr=>∃(j:Nat) (z:SS) (nv' kv' wv':Value),j≤n.kids.length∧u12=.int .i64 j∧Hi (AtW wX wb gb r0 r1 r2 (.slice (some ⟨nb,no,none⟩) t.nodes.length nc) t1 ov z nv' kv' wv' wr∧Qz t z∧X=Zm W (n.kids.drop j) z)) (fun u12 _=>n.kids.length-(intOf u12).toNat)
  case atStart=>exact⟨0,_,_,_,_,Nat.zero_le _,rfl,Hh ⟨⟨HX0.o,Kr _ _⟩,Qo0.o,HXX.o⟩⟩
  case round =>
   obtain⟨j,z,nv',kv',wv',hj,rfl,HR⟩:=hrel;obtain⟨wp,rfl⟩:∃wp:World,wp=wr:=⟨_,rfl⟩;have x3:=HBX.o wp HR.o.1.2;have x13:wp.cell? ⟨wb,13,none⟩=some (.int .i64 z.code):=HR.o.1.1.blk.cell 13 _ rfl
   by_cases hlt:j<n.kids.length
   ·cases hc:(z.code==0) with
    |false =>
     have hjn:(j:Int)<(n.kids.length:Int):=Om
     have HXE:Hi (X=z):=Hh (by rw[HR.o.2.2,Qeq (by simpa using hc)]);have HKP:=Hh (HKX.o.trans HR.o.1.2);have Qpq:=HN9.o.kept HKP.o (fun k hk=>HSN.o k (HN9.o.2 k hk));have Qox:=Qq3.o.kept HKP.o (fun k hk=>HSN.o k (Qq3.o.2 k hk));have s6:=HR.o.1.1.setNames (u:=.slice A9 s.names.length c9) (l:=s.names) (Q0z Qpq HSN.o Om);have k6:Q0 (at2 wb gb) wp (wp.setCell ⟨wb,6,none⟩ (.slice A9 s.names.length c9)):=(Kr _ _).wb 6 _;have s7:=s6.setKinds (u:=.slice A10 s.names.length c10) (l:=s.kinds) (by rw[show Value.slice A10 s.names.length c10=.slice A10 s.kinds.length c10 from by rw[HNK.o]];exact Q0u (Qox.kept k6 (fun k hk=>HSN.o k (Qq3.o.2 k hk))) HSN.o Om);have c6:=HR.o.1.1.blk.cell 6 _ rfl;have g6:=HR.o.1.1.blk.free 6;have c7:=s6.blk.cell 7 _ rfl;have g7:=s6.blk.free 7;have HS7:=Hh s7;have HK7:=Hh (k6.wb 7 (.slice A10 s.names.length c10));clear Qpq Qox s6 s7 k6 HR;go_wp2_with fail;go_returns;refine⟨rfl,HGO.o _ ?_⟩;rw[HXE.o];exact⟨_,_,_,HS7.o,((Qr2.o.ofNob _).trans HKP.o).trans HK7.o⟩
    |true =>
     obtain⟨k,hk⟩:=Q4 hlt;obtain⟨hki,hkf,hks⟩:=Qxy.o k (Mg hk);obtain rfl:=HDA.o Om;have hz0:z.code=0:=by simpa using hc
     have e0:=HDC.o j k hk wp (((Qr2.o.ofNob _).trans HKX.o).trans HR.o.1.2);have hjn:(j:Int)<(n.kids.length:Int):=Om
     have Qnh:=Hh (HW.o wp wb gb _ _ _ _ _ _ z nv' kv' wv' k HR.o.1.1 (HF.o.kept (((Qr2.o.ofNob _).trans HKX.o).trans HR.o.1.2)) HR.o.2.1 hki hkf hks hz0);have HXJ:Hi (X=Zm W (n.kids.drop (j+1)) (W z k)):=Hh (by rw[HR.o.2.2,Qh hk,Q8b,Ps hz0]);have Qnx:=Hh (HO.o z k hki HR.o.2.1);have HKR:=Hh HR.o.1.2;clear hk hki hkf hks hz0 HR;generalize W z k=z1 at Qnh HXJ Qnx;go_wp2_with (go_at_call 181;refine Qnh.o.mono ?_;rintro e w9 ⟨rfl,hat⟩);go_round
     case rel =>
      obtain⟨nv9,kv9,wv9,h9,k9⟩:=hat;exact⟨j+1,z1,nv9,kv9,wv9,Om,Gm,Hh ⟨⟨h9,HKR.o.trans k9⟩,Qnx.o,HXJ.o⟩⟩
     case measure=>exact Me
   ·have hje:j=n.kids.length:=Om
    have hjn:¬ (j:Int)<(n.kids.length:Int):=Om
    have Qpe:decide (j<n.kids.length)=false:=Df hlt;have Qqk:n.kids.length≤j:=Om
    have HXE:Hi (X=z):=Hh (by rw[HR.o.2.2,Dn Om];rfl);clear hje;have HKP:=Hh (HKX.o.trans HR.o.1.2);have Qpq:=HN9.o.kept HKP.o (fun k hk=>HSN.o k (HN9.o.2 k hk));have Qox:=Qq3.o.kept HKP.o (fun k hk=>HSN.o k (Qq3.o.2 k hk));have s6:=HR.o.1.1.setNames (u:=.slice A9 s.names.length c9) (l:=s.names) (Q0z Qpq HSN.o Om);have k6:Q0 (at2 wb gb) wp (wp.setCell ⟨wb,6,none⟩ (.slice A9 s.names.length c9)):=(Kr _ _).wb 6 _;have s7:=s6.setKinds (u:=.slice A10 s.names.length c10) (l:=s.kinds) (by rw[show Value.slice A10 s.names.length c10=.slice A10 s.kinds.length c10 from by rw[HNK.o]];exact Q0u (Qox.kept k6 (fun k hk=>HSN.o k (Qq3.o.2 k hk))) HSN.o Om);have c6:=HR.o.1.1.blk.cell 6 _ rfl;have g6:=HR.o.1.1.blk.free 6;have c7:=s6.blk.cell 7 _ rfl;have g7:=s6.blk.free 7;have HS7:=Hh s7;have HK7:=Hh (k6.wb 7 (.slice A10 s.names.length c10));clear Qpq Qox s6 s7 k6 HR;go_wp2_with fail;go_returns;refine⟨rfl,HGO.o _ ?_⟩;rw[HXE.o];exact⟨_,_,_,HS7.o,((Qr2.o.ofNob _).trans HKP.o).trans HK7.o⟩
end
theorem Q6n (S:Nat→Prop) (w:World):Qj S w fun w=>Q0g w (.slice none 0 0) []:=fun W hk=>⟨none,0,0,0,rfl,Sm,Sm,fun h=>absurd h Sm,fun j x hx=>by simp at hx⟩
theorem Qcl (S:Nat→Prop) (w:World):Qj S w fun w=>Qf w (.slice none 0 0) []:=fun W hk=>⟨none,0,0,0,rfl,Sm,Sm,fun h=>absurd h Sm,fun j x hx=>by simp at hx⟩
theorem Qc0 {t:Q1} {W:SS→Int→SS} {k:Int} {l:List Int} {s:SS}:Xx t W (k::l) s=Xx t W l (Jg t W s k [] []):=rfl
def Q4q (t:Q1) (k:Int):Prop:=∀x∈(t.at k).kids,Zs (t.at x).kind=true
section
variable {w:World} {wb gb:Nat} {r0 r1 r2 t0 t1 ov:Value} {s:SS} {nv kv wv:Value} {r:Reg} {t:Q1} {E:SS→Int→Int×SS} {W:SS→Int→SS} {f:Nat}
theorem Q84 (hW:Q7y r t f W) (hO:∀s i,InT t i→Qz t s→Qz t (W s i)) (h:SpR w wb gb r0 r1 r2 t0 t1 ov s nv kv wv) (F:Xl (at2 wb gb) w r t r0 r1 r2 t0 t1) (hok:Qz t s) (hK:Qk t) (hsz:t.nodes.length≤4000)
  {i:Int} (hi:InT t i) (hif:i≤f) (hst:Q4q t i) :
  Calls prog 137 #[.pointer (some ⟨wb,0,none⟩),.int .i64 i,.slice none 0 0,.slice none 0 0] w fun e w'=>e=.returned (.tuple #[])∧AtX w wb gb r0 r1 r2 t0 t1 ov (Jg t W s i [] []) w' :=
 Q69 hW hO h F hok hK hi hif hst _ _ [] [] (Q6n _ _) (Qcl _ _) rfl (by simpa using hok.nd) Sm (by have:=hok.few;simp;omega)
theorem Q7x (hE:Q3d r t f E) (hQ:∀s i,EqX s (E s i).2) (hW:Q7y r t f W) (hO:∀s i,InT t i→Qz t s→Qz t (W s i)) (h:SpR w wb gb r0 r1 r2 t0 t1 ov s nv kv wv) (F:Xl (at2 wb gb) w r t r0 r1 r2 t0 t1) (hok:Qz t s) (hK:Qk t) (hsz:t.nodes.length≤4000)
  {i:Int} (hi:InT t i) (hif:i≤f) (want:Int) {a:Int} {ks:List Int} (Qnf:(t.at i).kids=a::ks) (hea:Qu (t.at a).kind=true) (hbl:∀k∈ks,Q4q t k) :
  Calls prog 207 #[.pointer (some ⟨wb,0,none⟩),.int .i64 i,.int .i64 want] w fun e w'=>e=.returned (.tuple #[])∧AtX w wb gb r0 r1 r2 t0 t1 ov (Y6 t E W s i (t.at i) want) w':=by
 obtain⟨mi,rfl,hnd,nb,no,nc,A,kb,ko,kc,rfl,hl,hml,⟨c0,c1,c2,c3⟩,kl,klc,hA,W0,hW0,h0,F0,hk0,hbx,hkc,cw3,H0,HF0,HK0,HBX,HKC⟩:=h.nodeH F hi;have HOK:=Hh hok;have HI:=Hh hi;have hka:kidAt (t.at (mi:Int)) 0=a:=by simp[kidAt,Qnf]
 have hai:InT t a:=hi.kid hK (by rw[Qnf];simp);have haf:a<f:=by have:=(hK.mem hi (k:=a) (by rw[Qnf];simp)).2;omega
 have hx:Y6 t E W s (mi:Int) (t.at (mi:Int)) want=(if (E s a).2.code≠0 then (E s a).2 else if (E s a).1≠want then (E s a).2.fail 4 mi else Xx t W ks (E s a).2):=by
  unfold Y6;rw[hka,Qnf];rfl
 have HX:=Hh hx;clear hx;generalize Y6 t E W s (mi:Int) (t.at (mi:Int)) want=X at HX ⊢;obtain⟨z0,z1,z2,z3⟩:=hbx W0 (Kr _ _);have ze:=hkc 0 a (by rw[Qnf];rfl) W0 (Kr _ _);rw[Nat.add_zero] at ze;have Qo7:0<(t.at (mi:Int)).kids.length:=by rw[Qnf];simp
 have Qof:=Hh (show (t.at (mi:Int)).kids.length=ks.length+1 by rw[Qnf];rfl);have HKJ:Hi (∀(j:Nat) k,ks[j]?=some k→∀W,Q0 (at2 wb gb) W0 W→W.cell? ⟨kb,ko+(1+j),none⟩=some (.int .i64 k)):=Hh fun j k hk W hW=>hkc (1+j) k (by rw[Qnf,Nat.add_comm];exact hk) W hW
 have Qqj:Hi (∀k∈ks,InT t k∧k≤f∧Q4q t k):=Hh fun k hk=>⟨hi.kid hK (by rw[Qnf];simp[hk]),by have:=(hK.mem hi (k:=k) (by rw[Qnf];simp[hk])).2;omega,hbl k hk⟩
 obtain rfl:=hA Qo7;have Qnr:=hE W0 wb gb _ _ _ _ _ _ s nv kv wv a h0 F0 hok hai haf hea;have Qnh:=Hh Qnr;have Qo0:=Hh (hok.of (hQ s a));have HKO:=Hh hK;have HW:=Hh hW;have HO:=Hh hO;clear hkc hbx hk0 F0 h0 hok hi hK Qnf hE hQ F h hai haf hea hka hif hA hnd Qnr hbl hW hO;generalize hN:t.at (mi:Int)=n at *;clear hN;generalize E s a=q at Qnh HX Qo0;obtain⟨k1,s1⟩:=q;dsimp only at Qnh HX Qo0;cases hc:(s1.code != 0) with
 |true =>
  have HC:=Hh hc;go_enter func207,ntmps207;go_wp2_with (go_at_call 212;refine Qnh.o.mono ?_;rintro e w1 ⟨rfl,Qng⟩;have H1:=Hh Qng.1;have HK1:=Hh Qng.2;have pc:w1.cell? ⟨wb,13,none⟩=some (.int .i64 s1.code):=Qng.1.blk.cell 13 _ rfl;obtain⟨y0,y1,y2,y3⟩:=HBX.o w1 Qng.2;clear Qng);go_returns;rw[HX.o,Ps (by simpa using HC.o)];exact⟨rfl,_,_,_,H1.o,HK0.o.trans HK1.o⟩
 |false =>
 have HC:=Hh hc;rw[Ng (by simpa using hc)] at HX;cases hq:(k1 != want) with
 |true =>
  have HQQ:=Hh hq;go_enter func207,ntmps207;go_wp2_with (first|(go_at_call 212;refine Qnh.o.mono ?_;rintro e w1 ⟨rfl,Qng⟩;have H1:=Hh Qng.1;have HK1:=Hh Qng.2;have pc:w1.cell? ⟨wb,13,none⟩=some (.int .i64 s1.code):=Qng.1.blk.cell 13 _ rfl;obtain⟨y0,y1,y2,y3⟩:=HBX.o w1 Qng.2;clear Qng)|(go_at_call 136;refine (Qw H1.o _ _).mono ?_;rintro e w2 ⟨rfl,hat⟩));go_returns;rw[HX.o,Ps (by simpa using HQQ.o)];exact⟨rfl,_,_,_,hat.1,(HK0.o.trans HK1.o).trans hat.2⟩
 |false =>
 have HQQ:=Hh hq;rw[Ng (by simpa using hq)] at HX;go_enter func207,ntmps207;go_wp2_with (go_at_call 212;refine Qnh.o.mono ?_;rintro e w1 ⟨rfl,Qng⟩;have H1:=Hh Qng.1;have HK1:=Hh Qng.2;have pc:w1.cell? ⟨wb,13,none⟩=some (.int .i64 s1.code):=Qng.1.blk.cell 13 _ rfl;obtain⟨y0,y1,y2,y3⟩:=HBX.o w1 Qng.2;clear Qng);go_loopw [8] (fun m wr=>∃(j:Nat) (z:SS) (nv' kv' wv':Value),j≤ks.length∧m=.int .i64 ((1+j:Nat):Int)∧Hi (AtW W0 wb gb r0 r1 r2 (.slice (some ⟨nb,no,none⟩) t.nodes.length nc) t1 ov z nv' kv' wv' wr∧Qz t z∧X=Xx t W (ks.drop j) z)) (fun m _=>ks.length+1-(intOf m).toNat)
 case atStart=>exact⟨0,s1,_,_,_,Nat.zero_le _,rfl,Hh ⟨⟨H1.o,HK1.o⟩,Qo0.o,HX.o⟩⟩
 case round =>
  obtain⟨j,z,nv',kv',wv',hj,rfl,HR⟩:=hrel;obtain⟨wo,rfl⟩:∃wo:World,wo=wr:=⟨_,rfl⟩;obtain⟨jm,hjm⟩:∃jm,1+j=jm:=⟨_,rfl⟩;rw[hjm];have HJM:=Hh hjm;obtain⟨x0,x1,x2,x3⟩:=HBX.o wo HR.o.1.2
  by_cases hlt:j<ks.length
  ·obtain⟨k,hk⟩:=Q4 hlt
   obtain⟨hki,hkf,hkb⟩:=Qqj.o k (Mg hk);have e0:wo.cell? ⟨kb,ko+jm,none⟩=some (.int .i64 k):=HJM.o▸HKJ.o j _ hk wo HR.o.1.2;have hjn:(jm:Int)<(n.kids.length:Int):=by have:=Qof.o;omega
   have Qxu:jm≤140737488355328:=Om
   have HCB:=Hh (Q84 HW.o HO.o HR.o.1.1 (HF0.o.kept HR.o.1.2) HR.o.2.1 HKO.o hsz hki hkf hkb);have HXJ:Hi (X=Xx t W (ks.drop (j+1)) (Jg t W z k [] [])):=Hh (by rw[HR.o.2.2,Qh hk,Qc0]);have Qnx:Hi (Qz t (Jg t W z k [] [])):=Hh (Qz.block0 HKO.o HO.o HR.o.2.1 hki);have HKR:=Hh HR.o.1.2;clear hk hki hkf hkb HR hjm;generalize Jg t W z k [] []=z1 at HCB HXJ Qnx;go_wp2_with (go_at_call 137;refine HCB.o.mono ?_;rintro e w9 ⟨rfl,hat⟩);go_round
   case rel =>
    obtain⟨nv9,kv9,wv9,h9,k9⟩:=hat;exact⟨j+1,z1,nv9,kv9,wv9,Om,(by have:=HJM.o;congr 1;omega),Hh ⟨⟨h9,HKR.o.trans k9⟩,Qnx.o,HXJ.o⟩⟩
   case measure=>have:=HJM.o;simp[intOf];omega
  ·have hje:j=ks.length:=Om
   have hjn':decide ((jm:Int)<(n.kids.length:Int))=false:=Df (by have:=Qof.o;omega);have Qpe:decide (jm<n.kids.length)=false:=Df (by have:=Qof.o;omega);have Qqk:n.kids.length≤jm:=by have:=Qof.o;omega
   have HXE:Hi (X=z):=Hh (by rw[HR.o.2.2,Dn Om];rfl);clear hje hjm hlt;go_wp2_with fail;go_returns;rw[HXE.o];exact⟨rfl,_,_,_,HR.o.1.1,HK0.o.trans HR.o.1.2⟩
end
theorem Qmn {S:Nat→Prop} {w:World} {b n c:Nat} {xs:List ByteArray} (h:Blk w b (strs xs) 9) (hS:¬ S b) (hn:n=xs.length) (hc:xs.length≤c) (hl:xs.length≤140737488355328):Qj S w fun w=>Q0g w (.slice (some ⟨b,0,none⟩) n c) xs :=
 fun W hk=>⟨_,b,0,c,by rw[hn],hl,hc,fun _=>rfl,fun j x hx=>by
  rw[Nat.zero_add];exact (h.kept hk hS).cell j (.string x) (by simp[strs,hx])⟩
theorem Qgo {S:Nat→Prop} {w:World} {b n c:Nat} {xs:List Int} (h:Blk w b (Q5 xs) 3) (hS:¬ S b) (hn:n=xs.length) (hc:xs.length≤c) (hl:xs.length≤140737488355328):Qj S w fun w=>Qf w (.slice (some ⟨b,0,none⟩) n c) xs :=
 fun W hk=>⟨_,b,0,c,by rw[hn],hl,hc,fun _=>rfl,fun j x hx=>by
  rw[Nat.zero_add];exact (h.kept hk hS).cell j (.int .i64 x) (by simp[Q5,hx])⟩
section
variable {w:World} {wb gb:Nat} {r0 r1 r2 t0 t1 ov:Value} {s:SS} {nv kv wv:Value} {r:Reg} {t:Q1} {E:SS→Int→Int×SS} {W:SS→Int→SS} {f:Nat}
theorem Qhv (hW:Q7y r t f W) (hO:∀s i,InT t i→Qz t s→Qz t (W s i)) (h:SpR w wb gb r0 r1 r2 t0 t1 ov s nv kv wv) (F:Xl (at2 wb gb) w r t r0 r1 r2 t0 t1) (hok:Qz t s) (hK:Qk t) (hsz:t.nodes.length≤4000)
  {i:Int} (hi:InT t i) (hif:i≤f) {a b:Int} (Qnf:(t.at i).kids=[a,b]) (hbl:Q4q t b) :
  Calls prog 209 #[.pointer (some ⟨wb,0,none⟩),.int .i64 i] w fun e w'=>e=.returned (.tuple #[])∧AtX w wb gb r0 r1 r2 t0 t1 ov (Q41 r t W s i (t.at i)) w':=by
 obtain⟨mi,rfl,hnd,nb,no,nc,A,kb,ko,kc,rfl,hl,hml,⟨c0,c1,c2,c3⟩,kl,klc,hA,W0,hW0,h0,F0,hk0,hbx,hkc,cw3,H0,HF0,HK0,HBX,HKC⟩:=h.nodeH F hi;have HOK:=Hh hok;have HI:=Hh hi;have hka:kidAt (t.at (mi:Int)) 0=a:=by simp[kidAt,Qnf]
 have hkb:kidAt (t.at (mi:Int)) 1=b:=by simp[kidAt,Qnf]
 have hai:InT t a:=hi.kid hK (by rw[Qnf];simp);have hbi:InT t b:=hi.kid hK (by rw[Qnf];simp);have hbf:b≤f:=by have:=(hK.mem hi (k:=b) (by rw[Qnf];simp)).2;omega
 have hx:Q41 r t W s (mi:Int) (t.at (mi:Int))=(if J2 r 3 (t.at (mi:Int)).text=0 then s.fail 3 mi else if 0≤J3 (t.at a).text s.names then s.fail 2 a else
   {Jg t W {s with inner:=true} b [(t.at a).text] [J2 r 3 (t.at (mi:Int)).text] with inner:=false}):=by
  unfold Q41;rw[hka,hkb]
 have HX:=Hh hx;clear hx hka hkb;generalize Q41 r t W s (mi:Int) (t.at (mi:Int))=X at HX ⊢;obtain⟨z0,z1,z2,z3⟩:=hbx W0 (Kr _ _);have Qo7:1<(t.at (mi:Int)).kids.length:=by rw[Qnf];simp
 have hea:∀W,Q0 (at2 wb gb) W0 W→W.cell? ⟨kb,ko,none⟩=some (.int .i64 a):=fun W hW=>by have:=hkc 0 a (by rw[Qnf];rfl) W hW;rwa [Nat.add_zero] at this
 have heb:∀W,Q0 (at2 wb gb) W0 W→W.cell? ⟨kb,ko+1,none⟩=some (.int .i64 b):=fun W hW=>hkc 1 b (by rw[Qnf];rfl) W hW
 obtain rfl:=hA Om;obtain⟨ma,rfl,hna⟩:=Q1.at_lt hai;have Qxz:(ma:Int)<t.nodes.length:=hai.2;obtain⟨_,_,_,_,hd,_,_,_,_⟩:=F0.cells hna;have HEA:=Hh hea;have HEB:=Hh heb;have HDA:=Hh (fun W hW=>(hd W hW).2.1);have hwl:=h0.wl;have hgl:=h0.gl;have HKO:=Hh hK;have HW:=Hh hW;have HO:=Hh hO;have HAI:=Hh hai;have HBI:=Hh hbi;have HBF:=Hh hbf;have HBL:=Hh hbl;clear hkc hbx hk0 F0 h0 hok hi hK Qnf F h hai hea heb hif hA hnd hbl hW hO hbi hbf hd hna;generalize hN:t.at (mi:Int)=n at *;clear hN;generalize hT:(t.at (ma:Int)).text=tx at HX HDA;have HTX:=Hh hT;clear hT;generalize hd:J2 r 3 n.text=d at HX;have HD:=Hh hd;clear hd;cases hd0:(d==0) with
 |true =>
  have HD0:=Hh hd0;go_enter func209,ntmps209;go_wp2_with (first|(go_at_call 211;refine (Zd H0.o HF0.o 3 n.text).mono ?_;rw[HD.o];rintro e w2 ⟨rfl,hk2⟩;have H2:=Hh (H0.o.nobk hk2);have HK2:=Hh (hk2.ofNob (at2 wb gb));obtain⟨x0,x1,x2,x3⟩:=HBX.o w2 HK2.o;have ya:=HEA.o w2 HK2.o;have yb:=HEB.o w2 HK2.o;have yt:=HDA.o w2 HK2.o;have p3:w2.cell? ⟨wb,3,none⟩=some (.slice (some ⟨nb,no,none⟩) t.nodes.length nc):=H2.o.blk.cell 3 _ rfl;have p9:=H2.o.blk.cell 9 _ rfl;have g9:=H2.o.blk.free 9;have Qoa:=hk2.size;clear hk2)|(go_at_call 136;refine (Qw (H2.o.nobk Kz) _ _).mono ?_;rintro e w4 ⟨rfl,hat⟩));go_returns;rw[HX.o,Ps (by simpa using HD0.o)];exact⟨rfl,_,_,_,hat.1,(HK0.o.trans HK2.o).trans hat.2⟩
 |false =>
 rw[Ng (by simpa using hd0)] at HX;generalize hli:J3 tx s.names=li at HX;have HLI:=Hh hli;clear hli
 by_cases hl0:0≤li
 ·have tl:decide (li≥0)=true:=Dt hl0
  have tl':decide (0≤li)=true:=Dt hl0;rw[Ps hl0] at HX;go_enter func209,ntmps209;go_upto_region 4 with (first|(go_at_call 211;refine (Zd H0.o HF0.o 3 n.text).mono ?_;rw[HD.o];rintro e w2 ⟨rfl,hk2⟩;have H2:=Hh (H0.o.nobk hk2);have HK2:=Hh (hk2.ofNob (at2 wb gb));obtain⟨x0,x1,x2,x3⟩:=HBX.o w2 HK2.o;have ya:=HEA.o w2 HK2.o;have yb:=HEB.o w2 HK2.o;have yt:=HDA.o w2 HK2.o;have p3:w2.cell? ⟨wb,3,none⟩=some (.slice (some ⟨nb,no,none⟩) t.nodes.length nc):=H2.o.blk.cell 3 _ rfl;have p9:=H2.o.blk.cell 9 _ rfl;have g9:=H2.o.blk.free 9;have Qoa:=hk2.size;clear hk2))
  go_quiet (fail);go_wp2_with (first|(go_at_call 220;refine (Q0t (H2.o.nobk Kz) tx).mono ?_;rw[HLI.o];rintro e w3 ⟨rfl,rfl⟩)|(go_at_call 136;refine (Qw (H2.o.nobk Kz) _ _).mono ?_;rintro e w4 ⟨rfl,hat⟩));go_returns;rw[HX.o];exact⟨rfl,_,_,_,hat.1,(HK0.o.trans (HK2.o.trans Kz)).trans hat.2⟩
 ·have tl:decide (li≥0)=false:=Df hl0
  have tl':decide (0≤li)=false:=Df hl0;rw[Ng hl0] at HX;have HNM:Hi (tx∉s.names):=Hh (Q5f (by rw[HLI.o];omega));have HO2:Hi (Qz t {s with inner:=true}):=Hh ⟨HOK.o.ko,HOK.o.nk,HOK.o.nd,HOK.o.sub,HOK.o.top⟩;have Qp7:=HOK.o.few;clear hl0;go_enter func209,ntmps209;go_upto_region 4 with (first|(go_at_call 211;refine (Zd H0.o HF0.o 3 n.text).mono ?_;rw[HD.o];rintro e w2 ⟨rfl,hk2⟩;have H2:=Hh (H0.o.nobk hk2);have HK2:=Hh (hk2.ofNob (at2 wb gb));obtain⟨x0,x1,x2,x3⟩:=HBX.o w2 HK2.o;have ya:=HEA.o w2 HK2.o;have yb:=HEB.o w2 HK2.o;have yt:=HDA.o w2 HK2.o;have p3:w2.cell? ⟨wb,3,none⟩=some (.slice (some ⟨nb,no,none⟩) t.nodes.length nc):=H2.o.blk.cell 3 _ rfl;have p9:=H2.o.blk.cell 9 _ rfl;have g9:=H2.o.blk.free 9;have Qoa:=hk2.size;clear hk2))
  go_quiet (fail);have hk9:∀m,Q0 (at2 wb gb) W0 ((w2.drewN m).setCell ⟨wb,9,none⟩ (.bool true)):=fun m=>(HK2.o.drewN m).wb 9 _
  have yb9:=fun m=>HEB.o _ (hk9 m)
  have x39:=fun m=>(HBX.o _ (hk9 m)).2.2.2
  go_wp2_with (first|(go_at_call 220;refine (Q0t (H2.o.nobk Kz) tx).mono ?_;rw[HLI.o];rintro e w3 ⟨rfl,rfl⟩)|(go_at_call 137;refine (Q69 HW.o HO.o (((H2.o.drewN _).setInner true).nobk Kz) (HF0.o.kept ((hk9 _).trans (Q0.ofNob Kz _))) HO2.o HKO.o HBI.o HBF.o HBL.o _ _ [tx] [d] (Qmn (Q0k rfl (by simp[World.setCell])) (by intro e;simp[at2] at e;omega) rfl Sm Sm) (Qgo (Jv rfl (by simp[World.setCell])) (by intro e;simp[at2] at e;omega) rfl Sm Sm) rfl (by rw[List.nodup_append];exact⟨HOK.o.nd,Sm,by rintro x hx y hy rfl;simp at hy;subst hy;exact HNM.o hx⟩) (by intro x hx;simp at hx;subst hx;exact⟨_,HAI.o,HTX.o⟩) So).mono ?_;rintro e w5 ⟨rfl,Qnp⟩;obtain⟨nv9,kv9,wv9,h9,k9⟩:=Qnp;have H9:=Hh h9;have HK9:=Hh (Q0.trans (w0:=W0) ((hk9 _).trans (Q0.ofNob Kz _)) k9);have c9:=h9.blk.cell 9 _ rfl;have f9:=h9.blk.free 9;clear h9 k9));go_returns;rw[HX.o];exact⟨rfl,_,_,_,H9.o.setInner false,(HK0.o.trans HK9.o).wb 9 _⟩
end
end Go.Proofs.YtkgkafjachjafaaGreat
