/- Part 36 of y_holds; no condition. -/
import Derived.Test.YtkgkafjachjafaaGreatY23
import Derived.Test.YtkgkafjachjafaaGreatY34
set_option linter.unusedVariables false
set_option maxHeartbeats 8000000
set_option maxRecDepth 100000
open Go Go.RowKit
namespace Go.Proofs.YtkgkafjachjafaaGreat
open Tryz
theorem K0x {p:Prop} (h:p:=by have HC:=Hh hc;go_wp2_with (go_at_call 137;refine (HCB.o _ HSL.o (Qqm.o.trans HKL.o)).mono ?_;rintro e w6 ⟨rfl,Qo1⟩;obtain⟨nv6,kv6,wv6,h6,k6⟩:=Qo1;have H6:=Hh h6;have HK6:=Hh ((HKX.o.trans HKL.o).trans k6);have p11:=h6.blk.cell 11 _ rfl;have p13:=h6.blk.cell 13 _ rfl;have p12:=h6.blk.cell 12 _ rfl;have p36:=h6.blk.cell 3 _ rfl;have p15:=h6.blk.cell 15 _ rfl;have x26:=(HBX.o w6 HK6.o).2.2.1;rw[HFN.o,hf] at p11;rw[HLS.o] at p12;clear h6 k6);go_returns;rw[HS3.o (.inr (by simpa using HC.o))];exact⟨rfl,_,_,_,H6.o,HK0.o.trans HK6.o⟩):p:=h
theorem K0y {p:Prop} (h:p:=by go_wp2_with (go_at_call 137;refine (HCB.o _ HSL.o (Qqm.o.trans HKL.o)).mono ?_;rintro e w6 ⟨rfl,Qo1⟩;obtain⟨nv6,kv6,wv6,h6,k6⟩:=Qo1;have H6:=Hh h6;have HK6:=Hh ((HKX.o.trans HKL.o).trans k6);have p11:=h6.blk.cell 11 _ rfl;have p13:=h6.blk.cell 13 _ rfl;have p12:=h6.blk.cell 12 _ rfl;have p36:=h6.blk.cell 3 _ rfl;have p15:=h6.blk.cell 15 _ rfl;have x26:=(HBX.o w6 HK6.o).2.2.1;rw[HFN.o,hf] at p11;rw[HLS.o] at p12;clear h6 k6);go_returns;rw[HS3.o (.inl (by rw[HFN.o,hf]))];exact⟨rfl,_,_,_,H6.o,HK0.o.trans HK6.o⟩):p:=h
theorem Qko {a a' b:Value} {m:Nat} (hd:∀q,a.ownBlock=some q→b.ownBlock≠some q) (hat:a'.ownBlock=a.ownBlock∨∃x,a'.ownBlock=some x∧m≤x) (hlt:∀q,b.ownBlock=some q→q<m):∀q,a'.ownBlock=some q→b.ownBlock≠some q:=by
 intro q hq e;rcases hat with h|⟨x,h,hx⟩
 ·rw[h] at hq;exact hd q hq e
 ·rw[h] at hq;cases hq;have:=hlt _ e;omega
theorem Qgy {a b b':Value} {m:Nat} (hd:∀q,a.ownBlock=some q→b.ownBlock≠some q) (hat:b'.ownBlock=b.ownBlock∨∃x,b'.ownBlock=some x∧m≤x) (hlt:∀q,a.ownBlock=some q→q<m):∀q,a.ownBlock=some q→b'.ownBlock≠some q:=by
 intro q hq e;rcases hat with h|⟨x,h,hx⟩
 ·rw[h] at e;exact hd q hq e
 ·rw[h] at e;cases e;have:=hlt _ hq;omega
structure Qgj (t:Q1) (i:Int) (ps:List Int) (b:Int):Prop where
 kids:(t.at i).kids=ps++[b]
 blk:Q4q t b
 ends:∀l,(t.at b).kids.getLast?=some l→(t.at l).kind=26→∃e es,(t.at l).kids=e::es
section
variable {w:World} {wb gb:Nat} {r0 r1 r2 t0 t1 ov:Value} {s:SS} {nv kv wv:Value} {r:Reg} {t:Q1}
theorem Qkw (hn:Qs t=true) (hK:Qk t) (hsm:Z1 t) (Qoc:∀k∈t.tops,InT t k) (hsz:t.nodes.length≤4000) (h:SpR w wb gb r0 r1 r2 t0 t1 ov s nv kv wv) (F:Xl (at2 wb gb) w r t r0 r1 r2 t0 t1) (hok:Qz t s) (h00:s.code=0)
  {k:Nat} {i:Int} (hti:t.tops[k]?=some i) {ps:List Int} {b:Int} (Qoy:Qgj t i ps b) :
  Calls prog 107 #[.pointer (some ⟨wb,0,none⟩),.int .i64 (k:Int)] w fun e w'=>e=.returned (.tuple #[])∧AtX w wb gb r0 r1 r2 t0 t1 ov (topS r t s k) w':=by
 have hi:=Qoc i (Mg hti);have hkt:k<t.tops.length:=(Gs hti).1;rw[Q8t r t s k i (by simp[Z7,hti])];obtain⟨oc,rfl,hog⟩:=h.kindRow (by rw[hok.ko];have:=hi.1;have:=hi.2;omega);obtain⟨B,tb,tq,tc,rfl,tl,tlc,hB,htd⟩:=F.t1.ints;obtain⟨rfl,_⟩:=hB Om;have ct:=htd k i hti w (Kr _ _);have c4:w.cell? ⟨wb,4,none⟩=some (.slice (some ⟨tb,tq,none⟩) t.tops.length tc):=h.blk.cell 4 _ rfl;have Qzr:(k:Int)<(t.tops.length:Int):=Om
 obtain⟨mi,rfl,hnd,nb,no,nc,A,kb,ko,kc,rfl,hl,hml,⟨c0,c1,c2,c3⟩,kl,klc,hA,W0,hW0,h0,F0,hk0,hbx,hkc,cw3,H0,HF0,HK0,HBX,HKC⟩:=h.nodeH F hi;have HOK:=Hh hok;have HI:=Hh hi;have Qnf:=Qoy.kids;have hdl:(t.at (mi:Int)).kids.dropLast=ps:=by rw[Qnf,List.dropLast_concat]
 have hgl:(t.at (mi:Int)).kids.getLast?.getD 0=b:=by rw[Qnf,List.getLast?_concat];rfl
 rw[hdl,hgl]
 obtain⟨X,hx⟩:∃X,X=(if (t.tops.take k).any (fun j=>decide ((t.at j).text=(t.at (mi:Int)).text)) then ({s with top:=(k:Int),names:=[],kinds:=[]}:SS).fail 2 (mi:Int) else
   Q1r r t (mi:Int) (t.at (mi:Int)) b (Z4 t ps [] [] {s with top:=(k:Int),names:=[],kinds:=[],fn:=(t.at (mi:Int)).kind==33})):=⟨_,rfl⟩
 have HX:=Hh hx;rw[← hx];clear hx hdl hgl;have hbi:InT t b:=hi.kid hK (by rw[Qnf];simp);have HBI:=Hh hbi;have HPS:Hi (∀x∈ps,InT t x):=Hh fun x hx=>hi.kid hK (by rw[Qnf];simp[hx])
 have Qof:Hi ((t.at (mi:Int)).kids.length=ps.length+1):=Hh (by rw[Qnf];simp);have hpl:ps.length≤1048576:=by have:=hsm (mi:Int);rw[Qnf] at this;simp at this;omega
 obtain rfl:=hA (by rw[Qnf];simp);have HEB:Hi (∀W,Q0 (at2 wb gb) W0 W→W.cell? ⟨kb,ko+ps.length,none⟩=some (.int .i64 b)):=Hh fun W hW=>hkc ps.length b (by rw[Qnf];simp) W hW
 have HEP:Hi (∀(j:Nat) x,ps[j]?=some x→∀W,Q0 (at2 wb gb) W0 W→W.cell? ⟨kb,ko+j,none⟩=some (.int .i64 x)):=Hh fun j x hx W hW=>hkc j x (by rw[Qnf,List.getElem?_append_left (Gs hx).1];exact hx) W hW
 have HTD:Hi (∀(j:Nat) x,t.tops[j]?=some x→∀W,Q0 (at2 wb gb) W0 W→W.cell? ⟨tb,tq+j,none⟩=some (.int .i64 x)):=Hh fun j x hx W hW=>htd j x hx W (hk0.trans hW)
 have Qr1:=Hh Qoc;have HN:=Hh hn;have HKO:=Hh hK;have HSM:=Hh hsm;have Qsp:=Hh Qoy;have H00:=Hh h00;have hwl:=h0.wl;have hgl:=h0.gl;have HOG:=Hh hog;have hc5:=h0.blk.cell 5 _ rfl;have hf5:=h0.blk.free 5;have s5:=h0.setTop (k:Int);have hc6:=s5.blk.cell 6 _ rfl;have hf6:=s5.blk.free 6;have s6:=s5.setNames (u:=.slice none 0 0) (l:=[]) (Q6n _ _);have hc7:=s6.blk.cell 7 _ rfl;have hf7:=s6.blk.free 7;have s7:=s6.setKinds (u:=.slice none 0 0) (l:=[]) (Qcl _ _);have hk7:Q0 (at2 wb gb) W0 (((W0.setCell ⟨wb,5,none⟩ (.int .i64 (k:Int))).setCell ⟨wb,6,none⟩ (.slice none 0 0)).setCell ⟨wb,7,none⟩ (.slice none 0 0)):=(((Kr _ _).wb 5 _).wb 6 _).wb 7 _;clear hkc hbx hk0 F0 h0 F h hok hi hnd Qnf hbi htd Qoy h00 hK hn hsm Qoc hti hB hog s5 s6;generalize hN:t.at (mi:Int)=n at *;have HNN:=Hh hN;clear hN;go_enter func107,ntmps107;go_wp2_with fail;generalize hW1:((W0.setCell ⟨wb,5,none⟩ (.int .i64 (k:Int))).setCell ⟨wb,6,none⟩ (.slice none 0 0)).setCell ⟨wb,7,none⟩ (.slice none 0 0)=W1 at s7 hk7;have HS7:=Hh s7;have HK7:=Hh hk7;have hs7:W0.heap.size≤W1.heap.size:=hk7.size;clear hW1 s7 hk7 hc5 hf5 hc6 hf6 hc7 hf7;go_loopw [6] (fun m wr=>∃j:Nat,j≤k∧m=.int .i64 j∧Hi ((∀(q:Nat) x,q<j→t.tops[q]?=some x→(t.at x).text≠n.text)∧Q0 nob W1 wr)) (fun m _=>k-(intOf m).toNat)
 case atStart=>exact⟨0,Nat.zero_le _,rfl,Hh ⟨fun q x hq=>absurd hq Om,Kr _ _⟩⟩
 case round =>
  obtain⟨j,hj,rfl,HR⟩:=hrel;obtain⟨wo,rfl⟩:∃wo:World,wo=wr:=⟨_,rfl⟩;have HKR:=Hh (HK7.o.trans (HR.o.2.ofNob _));have HSR:=Hh (HS7.o.nobk HR.o.2)
  by_cases hlt:j<k
  ·obtain⟨x,hx⟩:=Q4 (xs:=t.tops) (j:=j) Om
   have hxi:=Qr1.o x (Mg hx);obtain⟨mx,rfl,hnx⟩:=Q1.at_lt hxi;have hmx:(mx:Int)<t.nodes.length:=hxi.2;have e0:=HTD.o j _ hx wo HKR.o;obtain⟨_,_,_,_,hd,_,_,_,_⟩:=HF0.o.cells hnx;have d1:=(hd wo HKR.o).2.1;have p3:wo.cell? ⟨wb,3,none⟩=some (.slice (some ⟨nb,no,none⟩) t.nodes.length nc):=HSR.o.blk.cell 3 _ rfl;have p4:wo.cell? ⟨wb,4,none⟩=some (.slice (some ⟨tb,tq,none⟩) t.tops.length tc):=HSR.o.blk.cell 4 _ rfl;have x1:=(HBX.o wo HKR.o).2.1;have hjt:(j:Int)<(t.tops.length:Int):=Om
   have hjk:(j:Int)<(k:Int):=Om
   have HXT:=Hh hx;generalize hat:(t.at (mx:Int)).text=tx at *;have HTX:=Hh hat;clear hx hxi hnx hd hat;cases ty:(tx.toList==n.text.toList) with
   |true =>
    have HTY:=Hh ty
    have HXX:Hi (X=({s with top:=(k:Int),names:=[],kinds:=[]}:SS).fail 2 (mi:Int)):=Hh (by
     rw[HX.o,Ps];rw[List.any_eq_true];exact⟨_,Mg (i:=j) (by rw[List.getElem?_take_of_lt hlt];exact HXT.o),by rw[HTX.o];exact Dt (Q04 ty)⟩)
    go_upto_region 8 with fail
    go_quiet (fail);go_wp2_with (go_at_call 136;refine (Qw (HSR.o.nobk Kz) _ _).mono ?_;rintro e w4 ⟨rfl,hat⟩);go_returns;rw[HXX.o];exact⟨rfl,_,_,_,hat.1,(HK0.o.trans (HKR.o.trans (Q0.ofNob Kz _))).trans hat.2⟩
   |false =>
    have HTY:=Hh ty;go_upto_region 8 with fail
    go_quiet (fail);go_wp2_with fail;go_round
    case rel=>exact⟨j+1,Om,Gm,Hh ⟨fun q y hq hy=>by
     by_cases e:q=j
     ·subst e;rw[HXT.o] at hy;cases hy;rw[HTX.o];exact Q1p HTY.o
     ·exact HR.o.1 q y Om hy,HR.o.2.trans Kz⟩⟩
    case measure=>exact Me
  ·have hjk:j=k:=Om
   have HXX:Hi (X=Q1r r t (mi:Int) n b (Z4 t ps [] [] {s with top:=(k:Int),names:=[],kinds:=[],fn:=n.kind==33})):=Hh (by
    rw[HX.o,Ng];intro e;rw[List.any_eq_true] at e;obtain⟨x,hx,hd⟩:=e;obtain⟨q,hq⟩:=List.mem_iff_getElem?.1 hx;have hqk:q<k:=by have:=(Gs hq).1;rw[List.length_take] at this;omega
    rw[List.getElem?_take_of_lt hqk] at hq;exact HR.o.1 q x Om hq (by simpa using hd))
   have Qzs:¬ ((j:Int)<(k:Int)):=Om
   have x0:=(HBX.o wo HKR.o).1;have p11:=HSR.o.blk.cell 11 _ rfl;have g11:=HSR.o.blk.free 11;have hso:W0.heap.size≤wo.heap.size:=HKR.o.size;clear HR HX hjk;have s11:=HSR.o.setFn (n.kind==33);have k11:Q0 (at2 wb gb) W0 (wo.setCell ⟨wb,11,none⟩ (.bool (n.kind==33))):=HKR.o.wb 11 _;obtain⟨s2,hs2⟩:∃s2,s2=({s with top:=(k:Int),names:=[],kinds:=[],fn:=n.kind==33}:SS):=⟨_,rfl⟩;have Qy5:Hi (X=Q1r r t (mi:Int) n b (Z4 t ps [] [] s2)):=Hh (by rw[hs2];exact HXX.o);have s11':SpR (wo.setCell ⟨wb,11,none⟩ (.bool (n.kind==33))) wb gb r0 r1 r2 (.slice (some ⟨nb,no,none⟩) t.nodes.length nc) (.slice (some ⟨tb,tq,none⟩) t.tops.length tc) (.slice (some ⟨gb,0,none⟩) s.kindOf.length oc) s2 (.slice none 0 0) (.slice none 0 0) wv:=by rw[hs2];exact s11
   have HS2:=Hh hs2;have Qwc:Hi (s2.code=0):=Hh (by rw[hs2];exact H00.o);clear s11 hs2 HXX HSR;go_wp2_with fail;generalize hWF:wo.setCell ⟨wb,11,none⟩ (.bool (n.kind==33))=wF at s11' k11;have hsF:wF.heap.size=wo.heap.size:=by rw[← hWF];simp[World.setCell]
   have hFs:(wF.alloc (.cells #[] 9 (0,0))).heap.size=wF.heap.size+1:=Sm
   have hn0:Qc (Q6 wF.heap.size) 9 ((wF.alloc (.cells #[] 9 (0,0))).alloc (.cells #[] 3 (0,0))) (.slice (some ⟨wF.heap.size,0,none⟩) 0 0) (strs []):=(Q9a wF).alloc _;have hq0:Qc (Q6 wF.heap.size) 3 ((wF.alloc (.cells #[] 9 (0,0))).alloc (.cells #[] 3 (0,0))) (.slice (some ⟨(wF.alloc (.cells #[] 9 (0,0))).heap.size,0,none⟩) 0 0) (Q5 []):=(Yp (wF.alloc (.cells #[] 9 (0,0)))).mono (fun k hk=>by have:(wF.alloc (.cells #[] 9 (0,0))).heap.size≤k:=hk;show wF.heap.size≤k;omega);rw[hFs] at hq0;have hkF:Q0 nob wF ((wF.alloc (.cells #[] 9 (0,0))).alloc (.cells #[] 3 (0,0))):=Kz;rw[← hsF];generalize hW2:(wF.alloc (.cells #[] 9 (0,0))).alloc (.cells #[] 3 (0,0))=W2 at hn0 hq0 hkF;have HSF:=Hh s11';have Qy6:=Hh (s11'.nobk hkF);have Qy7:=Hh k11;have Qy8:=Hh (hkF.ofNob (at2 wb gb));have HN0:=Hh hn0;have HQ0:=Hh hq0;have HNS:Hi (∀q,Q6 wF.heap.size q→¬ at2 wb gb q):=Hh fun q hq e=>by have:wF.heap.size≤q:=hq;rcases e with e|e<;>omega
   have Qzt:W0.heap.size≤wF.heap.size:=Om
   clear hsF hWF hW2 s11' k11 hkF hn0 hq0 hFs p11 g11 x0;go_loopw [7,8,9,10] (fun un uk m _ wr=>∃(j:Nat) (names:List ByteArray) (kinds:List Int),j≤ps.length∧m=.int .i64 j∧Hi (names.length=j∧kinds.length=j∧Qc (Q6 wF.heap.size) 9 wr un (strs names)∧Qc (Q6 wF.heap.size) 3 wr uk (Q5 kinds)∧(∀q,un.ownBlock=some q→uk.ownBlock≠some q)∧SpR wr wb gb r0 r1 r2 (.slice (some ⟨nb,no,none⟩) t.nodes.length nc) (.slice (some ⟨tb,tq,none⟩) t.tops.length tc) (.slice (some ⟨gb,0,none⟩) s.kindOf.length oc) s2 (.slice none 0 0) (.slice none 0 0) wv∧Q0 (at2 wb gb) wF wr∧(X=Q1r r t (mi:Int) n b (Z4 t (ps.drop j) names kinds s2)∧names.Nodup∧∀x∈names,∃i,InT t i∧(t.at i).text=x))) (fun _ _ m _ _=>ps.length-(intOf m).toNat)
   case atStart=>exact⟨0,[],[],Nat.zero_le _,rfl,Hh ⟨rfl,rfl,HN0.o,HQ0.o,fun q hq e=>by simp[Value.ownBlock] at hq e;omega,Qy6.o,Qy8.o,Qy5.o,Sm,Sm⟩⟩
   case round =>
    obtain⟨j,names,kinds,hj,rfl,HR⟩:=hrel;obtain⟨wp,rfl⟩:∃wp:World,wp=wr:=⟨_,rfl⟩;have HKW:=Hh (Qy7.o.trans HR.o.2.2.2.2.2.2.1);have Qud:=Hh HR.o.2.2.2.2.2.2.1;have HSW:=Hh HR.o.2.2.2.2.2.1;have HRN:=Hh HR.o.2.2.1;have HRK:=Hh HR.o.2.2.2.1;have Qwd:=Hh HR.o.2.2.2.2.1;have HNL:Hi (names.length=j∧kinds.length=j):=Hh ⟨HR.o.1,HR.o.2.1⟩;have hnl:names.length≤1048576:=by have:=HNL.o.1;omega
    have hkl:kinds.length≤1048576:=by have:=HNL.o.2;omega
    obtain⟨nA,nc2,hun⟩:=HRN.o.len;rw[Qr] at hun;subst hun;obtain⟨kA,kc2,huk⟩:=HRK.o.len;rw[Q2] at huk;subst huk;have x3:=(HBX.o wp HKW.o).2.2.2;have Qzu:wF.heap.size≤wp.heap.size:=Qud.o.size
    by_cases hlt:j<ps.length
    ·obtain⟨x,hx⟩:=Q4 hlt
     have hxi:=HPS.o x (Mg hx);obtain⟨mx,rfl,hnx⟩:=Q1.at_lt hxi;have hmx:(mx:Int)<t.nodes.length:=hxi.2;have e0:=HEP.o j _ hx wp HKW.o;have HE0:Hi (∀W,Q0 (at2 wb gb) W0 W→W.cell? ⟨kb,ko+j,none⟩=some (.int .i64 (mx:Int))):=Hh fun W hW=>HEP.o j _ hx W hW
     obtain⟨PA,pb,po,pc,hd,_,_,_,_⟩:=HF0.o.cells hnx;obtain⟨d0,d1,d2,d3⟩:=hd wp HKW.o;have p3:wp.cell? ⟨wb,3,none⟩=some (.slice (some ⟨nb,no,none⟩) t.nodes.length nc):=HSW.o.blk.cell 3 _ rfl;have hjn:(j:Int)+1<(n.kids.length:Int):=by have:=Qof.o;omega
     have Qw9:(j:Int)<(n.kids.length:Int):=Om
     have HXJ:Hi (X=Q1r r t (mi:Int) n b (if Zr (t.at (mx:Int)).text names then (names,kinds,s2.fail 2 (mx:Int)) else Z4 t (ps.drop (j+1)) (names++[(t.at (mx:Int)).text]) (kinds++[(t.at (mx:Int)).i]) s2)):=Hh (by rw[HR.o.2.2.2.2.2.2.2.1,Qh hx];rfl);have Qr6:=Hh HR.o.2.2.2.2.2.2.2.2;have HXI:=Hh hxi;generalize hat:t.at (mx:Int)=nd at *;have Qy9:=Hh hat;have hka:Q0 nob wp (wp.alloc (.cells #[.int .i64 0,.string ⟨#[]⟩,.int .i64 0,.slice none 0 0] 70)):=(Kr _ _).alloc _;have p3':=hka.cell id p3;have x3':=hka.cell id x3;have e0':=hka.cell id e0;have d0':=hka.cell id d0;have d1':=hka.cell id d1;have d2':=hka.cell id d2;have d3':=hka.cell id d3;clear hka hx hxi hnx hd HR;go_upto_region 16 with fail
     go_cut [10] from 73 to 113 (fun s10 wx=>∃p:Nat,s10=.pointer (some ⟨p,0,none⟩)∧Blk wx p [.int .i64 nd.kind,.string nd.text,.int .i64 nd.i,.slice PA nd.kids.length pc] 70∧Q0 nob wp wx∧wp.heap.size≤p)
     case first =>
      go_region
      all_goals go_wp2_with fail
      all_goals go_meet
      all_goals exact⟨_,rfl,(Blk.new _ [_,_,_,_] _).drew,((Kr _ _).alloc _).drew,Sm⟩
     case rest =>
      obtain⟨p,rfl,hb,hkx,hpl⟩:=hcut;have y1:=hb.cell 1 _ rfl;have y2:=hb.cell 2 _ rfl;have HB:=Hh hb;have HKX:=Hh (HKW.o.trans (hkx.ofNob _));have Qwe:=Hh (Qud.o.trans (hkx.ofNob _));have HSX:=Hh (HSW.o.nobk hkx);have Qrm:=Hh (HRN.o.nobk hkx);have Qwf:=Hh (HRK.o.nobk hkx);have x3x:=(HBX.o wc HKX.o).2.2.2;have e0x:=HE0.o wc HKX.o;have Qvz:wp.heap.size≤wc.heap.size:=hkx.size;clear hkx p3 x3 e0 d0 d1 d2 d3 p3' x3' e0' d0' d1' d2' d3';cases hw:Zr nd.text names with
      |true =>
       have HWI:=Hh hw;have HXF:Hi (X=s2.fail 2 (mx:Int)):=Hh (by rw[HXJ.o,Ps hw];unfold Q1r;rw[Ps (fail_code Qwc.o Dc)]);clear hw;go_wp2_with (first|(go_at_call 33;refine (Jy _ _ names nd.text (Qc.strs Qrm.o Om)).mono ?_;rw[HWI.o];rintro e w4 ⟨rfl,rfl⟩)|(go_at_call 136;refine (Qw HSX.o _ _).mono ?_;rintro e w4 ⟨rfl,hat⟩));go_returns;rw[HXF.o];exact⟨rfl,_,_,_,hat.1,(HK0.o.trans HKX.o).trans hat.2⟩
      |false =>
       have HWI:=Hh hw;rw[Ng (by rw[hw];simp)] at HXJ;clear hw;go_wp2_with (first|(go_at_call 33;refine (Jy _ _ names nd.text (Qc.strs Qrm.o Om)).mono ?_;rw[HWI.o];rintro e w4 ⟨rfl,rfl⟩)|(at_builtin;refine Qt (Q6 wF.heap.size) rfl _ _ 66 9 (.string ByteArray.empty) 16 rfl underlying66 Kf rfl (.slice nA names.length nc2) (strs names) (.string nd.text) rfl rfl Sm rfl Qrm.o (fun q hq=>by show wF.heap.size≤q;omega) (by rw[Qr];omega) (by rw[Qr];omega) ?_;intro nv5 w5 Qnk hk5 Qnp;have Qwg:=Hh (Q16 Qwe.o hk5 (fun q hq=>Qrm.o.2 q hq));have HS5:=Hh (HSX.o.row hk5 (fun q hq=>HNS.o q (Qrm.o.2 q hq)) HSF.o Qwg.o (EqX.refl s2));have HO5:=Hh Qnk;have Que:=Hh (Qwf.o.kept hk5 (fun q hq e=>Qwd.o q e hq));have HD5:Hi (∀q,nv5.ownBlock=some q→(Value.slice kA kinds.length kc2).ownBlock≠some q):=Hh (Qko Qwd.o Qnp (fun q e=>Qwf.o.lt q e));have hs5:wc.heap.size≤w5.heap.size:=hk5.size;have z2:=(HB.o.kept hk5 (fun e=>by have:=Qrm.o.lt _ e;have:=HRN.o.lt _ e;omega)).cell 2 _ rfl;clear Qnk hk5 Qnp)|(at_builtin;refine Qt (Q6 wF.heap.size) rfl _ _ 26 3 (.int .i64 0) 8 rfl underlying26 Kf rfl (.slice kA kinds.length kc2) (Q5 kinds) (.int .i64 nd.i) rfl rfl Sm rfl Que.o (fun q hq=>by show wF.heap.size≤q;omega) (by rw[Q2];omega) (by rw[Q2];omega) ?_;intro nv6 w6 Qog hk6 Qo1;have Qwh:=Hh (Q16 Qwg.o hk6 (fun q hq=>Que.o.2 q hq));have HS6:=Hh (HS5.o.row hk6 (fun q hq=>HNS.o q (Que.o.2 q hq)) HSF.o Qwh.o (EqX.refl s2));have HO6:=Hh Qog;have Quf:=Hh (HO5.o.kept hk6 (fun q hq e=>HD5.o q hq e));have HD6:Hi (∀q,nv5.ownBlock=some q→nv6.ownBlock≠some q):=Hh (Qgy HD5.o Qo1 (fun q e=>HO5.o.lt q e));clear Qog hk6 Qo1));go_round
       case rel=>exact⟨j+1,names++[nd.text],kinds++[nd.i],Om,Gm,Hh ⟨by have:=HNL.o.1;simp;omega,by have:=HNL.o.2;simp;omega,by have:=Quf.o;simpa[strs] using this,by have:=HO6.o;simpa[Q5] using this,HD6.o,HS6.o,Qwh.o,HXJ.o,by
        rw[List.nodup_append]
        exact⟨Qr6.o.1,Sm,fun a ha b hb=>by
         simp at hb;subst hb;intro e;have:=(Xu nd.text names).2 (e▸ha);rw[HWI.o] at this;cases this⟩,fun y hy=>by
        rcases List.mem_append.1 hy with hy|hy
        ·exact Qr6.o.2 y hy
        ·simp at hy;subst hy;exact⟨_,HXI.o,by rw[Qy9.o]⟩⟩⟩
       case measure=>exact Me
    ·have hje:j=ps.length:=Om
     have hjn:¬ ((j:Int)+1<(n.kids.length:Int)):=by have:=Qof.o;omega
     obtain⟨lv,hlv⟩:∃lv,lv=(t.at b).kids.getLast?.getD (-1):=⟨_,rfl⟩
     have HXE:Hi (X=topEnd t (mi:Int) n lv (Jg t (Qq r t t.nodes.length) {s2 with last:=lv} b names kinds)):=Hh (by
      rw[HR.o.2.2.2.2.2.2.2.1,Dn Om];unfold Z4 Q1r;rw[Ng (by simp[Qwc.o]),← hlv])
     have Qr6:=Hh HR.o.2.2.2.2.2.2.2.2;have hO:∀s i,InT t i→Qz t s→Qz t (Qq r t t.nodes.length s i):=Qz.stmt HKO.o r t.nodes.length;have HO:=Hh hO;have HWW:=Hh (Qn0 (r:=r) HN.o HKO.o HSM.o Qr1.o hsz t.nodes.length);have hlf:=LF.block (t:=t) (LF.stmt r t t.nodes.length) {s2 with last:=lv} b names kinds
     have Qou:Qz t {s2 with last:=lv}:=by
      rw[HS2.o];exact⟨HOK.o.ko,rfl,Sm,Sm,by show (0:Int)≤(k:Int)∧(k:Int)≤_;omega⟩
     have hn2:s2.names=[]:=by rw[HS2.o]
     have Qwi:Qz t (Jg t (Qq r t t.nodes.length) {s2 with last:=lv} b names kinds):=Qz.block HKO.o hO Qou HBI.o (by rw[HNL.o.1,HNL.o.2]) (by show (s2.names++names).Nodup;rw[hn2,List.nil_append];exact Qr6.o.1) Qr6.o.2;have Qya:=Hh Qou;have HN2:=Hh hn2;have HFN:Hi ((Jg t (Qq r t t.nodes.length) {s2 with last:=lv} b names kinds).fn=(n.kind==33)):=Hh (by rw[hlf.2];rw[HS2.o]);have HLS:Hi ((Jg t (Qq r t t.nodes.length) {s2 with last:=lv} b names kinds).last=lv):=Hh (by rw[hlf.1]);have Qwj:=Hh Qwi.ko;obtain⟨mb,rfl,Qu9⟩:=Q1.at_lt HBI.o;have hmb:(mb:Int)<t.nodes.length:=HBI.o.2;obtain⟨PA,pb,po,pc,hd,dl,dlc,hPA,hdc⟩:=HF0.o.cells Qu9;obtain⟨d0,d1,d2,d3⟩:=hd wp HKW.o;have eb:=HEB.o wp HKW.o;have p3:wp.cell? ⟨wb,3,none⟩=some (.slice (some ⟨nb,no,none⟩) t.nodes.length nc):=HSW.o.blk.cell 3 _ rfl;have Qok:Hi (∀x∈(t.at (mb:Int)).kids,InT t x):=Hh fun x hx=>HBI.o.kid HKO.o hx
     have Qpl:=Hh Qsp.o.ends;have HBK:=Hh Qsp.o.blk;have HBC:=Hh hdc;have HPA:=Hh hPA;have Qyb:=HSM.o (mb:Int);generalize hat:t.at (mb:Int)=nd at d0 d1 d2 d3 dl dlc Qyb HBC HPA Qok Qpl hlv;have HND:=Hh hat;have hka:Q0 nob wp (wp.alloc (.cells #[.int .i64 0,.string ⟨#[]⟩,.int .i64 0,.slice none 0 0] 70)):=(Kr _ _).alloc _;have p3':=hka.cell id p3;have x3':=hka.cell id x3;have eb':=hka.cell id eb;have d0':=hka.cell id d0;have d1':=hka.cell id d1;have d2':=hka.cell id d2;have d3':=hka.cell id d3;have hw1:IntKind.i64.wrap ((n.kids.length:Int)-1)=(ps.length:Int):=by rw[IntKind.wrap_i64];have:=Qof.o;omega
     have hw2:wrap64 ((n.kids.length:Int)-1)=(ps.length:Int):=by unfold wrap64;have:=Qof.o;omega
     have hw3:(ps.length:Int)<(n.kids.length:Int):=by have:=Qof.o;omega
     clear hka Qu9 hd hdc hPA hje HR hat hO hlf Qou Qwi hn2;go_upto_region 21 with fail
     go_cut [11] (fun s11 wx=>∃p:Nat,s11=.pointer (some ⟨p,0,none⟩)∧Blk wx p [.int .i64 nd.kind,.string nd.text,.int .i64 nd.i,.slice PA nd.kids.length pc] 70∧Q0 nob wp wx∧wp.heap.size≤p)
     case first =>
      go_region
      all_goals go_wp2_with fail
      all_goals go_meet
      all_goals exact⟨_,rfl,(Blk.new _ [_,_,_,_] _).drew,((Kr _ _).alloc _).drew,Sm⟩
     case rest =>
      obtain⟨p,rfl,hb,hkx,Qzv⟩:=hcut;have hpn:¬ at2 wb gb p:=fun e=>by rcases e with e|e<;>omega
      have HB:=Hh hb;have HPN:=Hh hpn;have HSX:=Hh (HSW.o.nobk hkx);have HKX:=Hh (HKW.o.trans (hkx.ofNob _));have Qwe:=Hh (Qud.o.trans (hkx.ofNob _));have Qzw:=HSX.o.blk.cell 12 _ rfl;have Qzx:=HSX.o.blk.free 12;have s12:=HSX.o.setLast (-1);have k12:Q0 (at2 wb gb) wc (wc.setCell ⟨wb,12,none⟩ (.int .i64 (-1))):=(Kr _ _).wb 12 _;have q3:=(hb.kept k12 hpn).cell 3 _ rfl;have x39:=(HBX.o _ (HKX.o.trans k12)).2.2.2;have eb9:=HEB.o _ (HKX.o.trans k12);have Qq9:=Hh s12;have Qug:=Hh k12;have Qqm:=Hh (hkx.ofNob (at2 wb gb))
      have hcb:∀wL,SpR wL wb gb r0 r1 r2 (.slice (some ⟨nb,no,none⟩) t.nodes.length nc) (.slice (some ⟨tb,tq,none⟩) t.tops.length tc) (.slice (some ⟨gb,0,none⟩) s.kindOf.length oc) {s2 with last:=lv} (.slice none 0 0) (.slice none 0 0) wv→Q0 (at2 wb gb) wp wL→Calls prog 137 #[.pointer (some ⟨wb,0,none⟩),.int .i64 (mb:Int),.slice nA names.length nc2,.slice kA kinds.length kc2] wL fun e w'=>e=.returned (.tuple #[])∧AtX wL wb gb r0 r1 r2 (.slice (some ⟨nb,no,none⟩) t.nodes.length nc) (.slice (some ⟨tb,tq,none⟩) t.tops.length tc) (.slice (some ⟨gb,0,none⟩) s.kindOf.length oc) (Jg t (Qq r t t.nodes.length) {s2 with last:=lv} (mb:Int) names kinds) w':=fun wL hL hk =>
       Q69 HWW.o HO.o hL (HF0.o.kept (HKW.o.trans hk)) Qya.o HKO.o HBI.o Om HBK.o _ _ names kinds (Q0z (HRN.o.kept hk (fun q hq=>HNS.o q (HRN.o.2 q hq))) HNS.o Om) (Q0u (HRK.o.kept hk (fun q hq=>HNS.o q (HRK.o.2 q hq))) HNS.o Om) (by rw[HNL.o.1,HNL.o.2]) (by show (s2.names++names).Nodup;rw[HN2.o,List.nil_append];exact Qr6.o.1) Qr6.o.2 (by show s2.names.length+_≤_;rw[HN2.o];simp;omega)
      have HCB:=Hh hcb;clear hcb;generalize Jg t (Qq r t t.nodes.length) {s2 with last:=lv} (mb:Int) names kinds=S3 at HXE HFN HLS Qwj HCB;clear hb hpn hkx s12 k12 p3 x3 eb d0 d1 d2 d3 p3' x3' eb' d0' d1' d2' d3';have hS3:∀(h:S3.fn=false∨S3.code≠0),X=S3:=fun h=>by rw[HXE.o];unfold topEnd;rw[Ps h]
      have HS3:=Hh hS3;clear hS3
      by_cases hb0:nd.kids.length=0
      ·have t1:decide ((nd.kids.length:Int)>0)=false:=Df Om
       have t2:decide ((0:Int)<(nd.kids.length:Int))=false:=Df Om;have t3:decide (0<nd.kids.length)=false:=Df Om;have hl1:lv = -1:=by rw[hlv,List.eq_nil_of_length_eq_zero hb0];rfl
       subst hl1;have HSL:=Qq9;have HKL:=Qug;clear hb0 hlv;cases hf:(n.kind==33) with
       |false =>
        exact K0y
       |true =>
       cases hc:(S3.code != 0) with
       |true =>
        exact K0x
       |false =>
        have HC:=Hh hc
        have HX5:Hi (X=S3.fail 5 (mi:Int)):=Hh (by
         rw[HXE.o];unfold topEnd;rw[Ng (by rw[HFN.o,hf];simpa using hc),Ps (.inl Dc)])
        go_upto_region 27 with (go_at_call 137;refine (HCB.o _ HSL.o (Qqm.o.trans HKL.o)).mono ?_;rintro e w6 ⟨rfl,Qo1⟩;obtain⟨nv6,kv6,wv6,h6,k6⟩:=Qo1;have H6:=Hh h6;have HK6:=Hh ((HKX.o.trans HKL.o).trans k6);have p11:=h6.blk.cell 11 _ rfl;have p13:=h6.blk.cell 13 _ rfl;have p12:=h6.blk.cell 12 _ rfl;have p36:=h6.blk.cell 3 _ rfl;have p15:=h6.blk.cell 15 _ rfl;have x26:=(HBX.o w6 HK6.o).2.2.1;rw[HFN.o,hf] at p11;rw[HLS.o] at p12;clear h6 k6)
        go_quiet (fail);go_wp2_with (go_at_call 136;refine (Qw (H6.o.nobk Kz) _ _).mono ?_;rintro e w9 ⟨rfl,hat⟩);go_returns;rw[HX5.o];exact⟨rfl,_,_,_,hat.1,(HK0.o.trans (HK6.o.trans (Q0.ofNob Kz _))).trans hat.2⟩
      ·obtain⟨l,hl9⟩:∃l,nd.kids.getLast?=some l:=by
        cases hg:nd.kids.getLast? with
        |none=>rw[List.getLast?_eq_none_iff] at hg;rw[hg] at hb0;simp at hb0
        |some l=>exact⟨l,rfl⟩
       obtain⟨ml,Qvd⟩:∃ml:Nat,nd.kids.length=ml+1:=⟨nd.kids.length-1,Om⟩;have hlm:nd.kids[ml]?=some l:=by rw[List.getLast?_eq_getElem?] at hl9;rw[show ml=nd.kids.length-1 by omega];exact hl9
       have hli:=Qok.o l (Mg hlm);have Qow:=Qpl.o l hl9;rw[hl9] at hlv;have hl1:lv=l:=hlv;subst hl1;obtain⟨lm,rfl,hln⟩:=Q1.at_lt hli;have hll:(lm:Int)<t.nodes.length:=hli.2;have t1:decide ((nd.kids.length:Int)>0)=true:=Dt Om;have t2:decide ((0:Int)<(nd.kids.length:Int))=true:=Dt Om;have t3:decide (0<nd.kids.length)=true:=Dt Om;have hv1:IntKind.i64.wrap ((nd.kids.length:Int)-1)=(ml:Int):=by rw[IntKind.wrap_i64];omega
       have hv2:wrap64 ((nd.kids.length:Int)-1)=(ml:Int):=by unfold wrap64;omega
       have hv3:(ml:Int)<(nd.kids.length:Int):=Om
       have Qzy:decide ((lm:Int)<0)=false:=Df Om;obtain rfl:=HPA.o Om;have ql:=HBC.o ml _ hlm _ (HKX.o.trans Qug.o);obtain⟨QA,lb9,lo9,lc9,hld,_,_,hQA,Qwk⟩:=HF0.o.cells hln;have HLD:=Hh hld;have Qzz:=Qq9.o.blk.cell 12 _ rfl;have J00:=Qq9.o.blk.free 12;have HSL:=Hh (Qq9.o.setLast (lm:Int));have HKL:=Hh (Qug.o.wb 12 (.int .i64 (lm:Int)));have x38:=(HBX.o _ (HKX.o.trans HKL.o)).2.2.2;have eb8:=HEB.o _ (HKX.o.trans HKL.o);have HQA:=Hh hQA;have Qyc:=Hh Qwk;have HEN:=Hh Qow;have HLI:=Hh hli;clear hb0 Qvd hl9 hlm hli Qow hln hld hQA Qwk hlv;cases hf:(n.kind==33) with
       |false =>
        exact K0y
       |true =>
       cases hc:(S3.code != 0) with
       |true =>
        exact K0x
       |false =>
       have HC:=Hh hc
       have HX5:Hi (X=(if (t.at (lm:Int)).kind≠26 then S3.fail 5 (mi:Int) else if Z7 S3.kindOf (kidAt (t.at (lm:Int)) 0).toNat≠n.i then S3.fail 4 (mi:Int) else S3)):=Hh (by
        rw[HXE.o];unfold topEnd;rw[Ng (by rw[HFN.o,hf];simpa using hc)]
        by_cases e:(t.at (lm:Int)).kind≠26
        ·rw[Ps (.inr e),Ps e]
        ·rw[Ng (fun h=>h.elim (fun h=>by omega) e),Ng e])
       cases h26:((t.at (lm:Int)).kind==26) with
       |false =>
        have t26:((t.at (lm:Int)).kind != 26)=true:=by simpa using h26
        have HX6:Hi (X=S3.fail 5 (mi:Int)):=Hh (by rw[HX5.o,Ps (by simpa using h26)]);go_upto_region 27 with ((go_at_call 137;refine (HCB.o _ HSL.o (Qqm.o.trans HKL.o)).mono ?_;rintro e w6 ⟨rfl,Qo1⟩;obtain⟨nv6,kv6,wv6,h6,k6⟩:=Qo1;have H6:=Hh h6;have HK6:=Hh ((HKX.o.trans HKL.o).trans k6);have p11:=h6.blk.cell 11 _ rfl;have p13:=h6.blk.cell 13 _ rfl;have p12:=h6.blk.cell 12 _ rfl;have p36:=h6.blk.cell 3 _ rfl;have p15:=h6.blk.cell 15 _ rfl;have x26:=(HBX.o w6 HK6.o).2.2.1;rw[HFN.o,hf] at p11;rw[HLS.o] at p12;clear h6 k6);have l0:=(HLD.o w6 HK6.o).1)
        go_quiet (fail);go_wp2_with (go_at_call 136;refine (Qw (H6.o.nobk Kz) _ _).mono ?_;rintro e w9 ⟨rfl,hat⟩);go_returns;rw[HX6.o];exact⟨rfl,_,_,_,hat.1,(HK0.o.trans (HK6.o.trans (Q0.ofNob Kz _))).trans hat.2⟩
       |true =>
        have t26:((t.at (lm:Int)).kind != 26)=false:=by simpa using h26
        have h26':(t.at (lm:Int)).kind=26:=by simpa using h26
        obtain⟨e0,es,hek⟩:=HEN.o h26';have hei:=HLI.o.kid HKO.o (k:=e0) (by rw[hek];simp);have hk0:kidAt (t.at (lm:Int)) 0=e0:=by simp[kidAt,hek]
        rw[hk0,Ng (by rw[h26'];decide)] at HX5;obtain⟨me,rfl,_⟩:=Q1.at_lt hei;have hme:me<S3.kindOf.length:=by rw[Qwj.o];have:=hei.2;omega
        obtain⟨x,hx⟩:=Q4 hme;rw[show Z7 S3.kindOf ((me:Nat):Int).toNat=x from by simp[Z7,hx]] at HX5;have hmo:(me:Int)<(s.kindOf.length:Int):=by rw[HOK.o.ko];exact hei.2
        have hlk:0<(t.at (lm:Int)).kids.length:=by rw[hek];simp
        have HZE:Hi (∀W,Q0 (at2 wb gb) W0 W→W.cell? ⟨lb9,lo9,none⟩=some (.int .i64 (me:Int))):=Hh fun W hW=>by
         have:=Qyc.o 0 _ (by rw[hek];rfl) W hW;rwa [Nat.add_zero] at this
        obtain rfl:=HQA.o hlk;have HXK:=Hh hx;generalize J01:t.at (lm:Int)=ln at *;clear hx hek hei hk0 h26';cases hq:(x != n.i) with
        |true =>
         have HQQ:=Hh hq;go_upto_region 27 with (go_at_call 137;refine (HCB.o _ HSL.o (Qqm.o.trans HKL.o)).mono ?_;rintro e w6 ⟨rfl,Qo1⟩;obtain⟨nv6,kv6,wv6,h6,k6⟩:=Qo1;have H6:=Hh h6;have HK6:=Hh ((HKX.o.trans HKL.o).trans k6);have p11:=h6.blk.cell 11 _ rfl;have p13:=h6.blk.cell 13 _ rfl;have p12:=h6.blk.cell 12 _ rfl;have p36:=h6.blk.cell 3 _ rfl;have p15:=h6.blk.cell 15 _ rfl;have x26:=(HBX.o w6 HK6.o).2.2.1;rw[HFN.o,hf] at p11;rw[HLS.o] at p12;clear h6 k6;obtain⟨l0,l1,l2,l3⟩:=HLD.o w6 HK6.o;have ze:=HZE.o w6 HK6.o;have xk:=(H6.o.kindCell HXK.o).1)
         go_quiet (fail);go_upto_region 29 with fail
         go_quiet (fail);go_wp2_with (go_at_call 136;refine (Qw (H6.o.nobk Kz) _ _).mono ?_;rintro e w9 ⟨rfl,hat⟩);go_returns;rw[HX5.o,Ps (by simpa using HQQ.o)];exact⟨rfl,_,_,_,hat.1,(HK0.o.trans (HK6.o.trans (Q0.ofNob Kz _))).trans hat.2⟩
        |false =>
         have HQQ:=Hh hq;go_upto_region 27 with (go_at_call 137;refine (HCB.o _ HSL.o (Qqm.o.trans HKL.o)).mono ?_;rintro e w6 ⟨rfl,Qo1⟩;obtain⟨nv6,kv6,wv6,h6,k6⟩:=Qo1;have H6:=Hh h6;have HK6:=Hh ((HKX.o.trans HKL.o).trans k6);have p11:=h6.blk.cell 11 _ rfl;have p13:=h6.blk.cell 13 _ rfl;have p12:=h6.blk.cell 12 _ rfl;have p36:=h6.blk.cell 3 _ rfl;have p15:=h6.blk.cell 15 _ rfl;have x26:=(HBX.o w6 HK6.o).2.2.1;rw[HFN.o,hf] at p11;rw[HLS.o] at p12;clear h6 k6;obtain⟨l0,l1,l2,l3⟩:=HLD.o w6 HK6.o;have ze:=HZE.o w6 HK6.o;have xk:=(H6.o.kindCell HXK.o).1)
         go_quiet (fail);go_upto_region 29 with fail
         go_quiet (fail);go_wp2_with fail;go_returns;rw[HX5.o,Ng (by simpa using HQQ.o)];exact⟨rfl,_,_,_,H6.o.nobk Kz,HK0.o.trans (HK6.o.trans (Q0.ofNob Kz _))⟩
end
end Go.Proofs.YtkgkafjachjafaaGreat
