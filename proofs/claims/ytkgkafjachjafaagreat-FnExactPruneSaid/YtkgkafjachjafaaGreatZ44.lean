/- Part 44 of x_holds; no condition. -/
import Derived.Lib.SortBridge
import Derived.ArgAppend
import Derived.Test.YtkgkafjachjafaaGreatZ01
import Derived.Test.YtkgkafjachjafaaGreatZ06
import Derived.Test.YtkgkafjachjafaaGreatZ42
import Derived.Test.YtkgkafjachjafaaGreatZ43
set_option linter.unusedVariables false
set_option maxHeartbeats 4000000
set_option maxRecDepth 100000
open Go Go.RowKit
namespace Go.Proofs.YtkgkafjachjafaaGreat
open Tryz
def Ys (n:Qc) (kv:Value):List Value:=[.int .i64 n.kind,.string n.text,.int .i64 n.i,kv]
def Xo (l:List (Qc×Value)):List Value:=l.flatMap fun p=>Ys p.1 p.2
theorem Qa1 (l:List (Qc×Value)):(Xo l).length=l.length*4:=Q9l (f:=fun p:Qc×Value=>Ys p.1 p.2) (fun _=>rfl) l
theorem Q26 (a b:List (Qc×Value)):Xo a++Xo b=Xo (a++b):=by simp[Xo]
structure Jc (S:Nat→Prop) (w:World) (v:Value) (l:List (Qc×Value)):Prop where
 row:X5 S 70 4 w v l.length (Xo l)
 kid:∀p∈l,Qf S 3 w p.2 (Q4 p.1.kids)
 sep0:∀p∈l,sep v.ownBlock p.2.ownBlock
 sep1:l.Pairwise fun p q=>sep p.2.ownBlock q.2.ownBlock
namespace Jc
variable {S S':Nat→Prop} {w w':World} {v:Value} {l:List (Qc×Value)}
theorem nil (S:Nat→Prop) (w:World):Jc S w (.slice none 0 0) []:=⟨X5.nil _ _ _ _,by simp,by simp,by simp⟩
theorem mono (h:Jc S w v l) (hs:∀k,k<w.heap.size→S k→S' k):Jc S' w v l :=
 ⟨⟨h.row.1,fun k hk=>hs k (h.row.lt k hk) (h.row.2 k hk)⟩,fun p hp=>⟨(h.kid p hp).1,fun k hk=>hs k ((h.kid p hp).lt k hk) ((h.kid p hp).2 k hk)⟩,h.sep0,h.sep1⟩
theorem kept (h:Jc S w v l) (k:Q0 S' w w') (hn:∀k,S k→¬ S' k):Jc S w' v l :=
 ⟨h.row.kept k (fun b hb=>hn b (h.row.2 b hb)),fun p hp=>(h.kid p hp).kept k (fun b hb=>hn b ((h.kid p hp).2 b hb)),h.sep0,h.sep1⟩
theorem nobk (h:Jc S w v l) (k:Q0 nob w w'):Jc S w' v l:=h.kept k (fun _ _ h=>h)
theorem lt (h:Jc S w v l):∀k,own v k→k<w.heap.size:=fun k hk=>h.row.lt k hk
theorem snoc (h:Jc S w v l) {n:Qc} {kv:Value} (hk:Qf S 3 w kv (Q4 n.kids)) (h0:sep v.ownBlock kv.ownBlock) (h1:∀p∈l,sep p.2.ownBlock kv.ownBlock)
  {w1:World} {v1:Value} (hr:X5 S 70 4 w1 v1 (l.length+1) (Xo l++Ys n kv)) (hkp:Q0 (own v) w w1) (hg:Q2j w v v1):Jc S w1 v1 (l++[(n,kv)]):=by
 have Qn8:∀(k:Nat) (u:Value),(∀b,u.ownBlock=some b→b<w.heap.size)→sep v.ownBlock u.ownBlock→sep v1.ownBlock u.ownBlock:=fun k u hu hs b hb hb2=>by
  rcases hg with e|⟨b',e,hb'⟩
  ·exact hs b (e▸hb) hb2
  ·rw[e] at hb;cases hb;have:=hu _ hb2;omega
 refine⟨?_,?_,?_,?_⟩
 ·have e:Xo (l++[(n,kv)])=Xo l++Ys n kv:=by rw[← Q26];simp[Xo]
  rw[e,List.length_append];exact hr
 ·intro p hp
  rcases List.mem_append.1 hp with hp|hp
  ·exact (h.kid p hp).kept hkp (fun b hb hb2=>h.sep0 p hp b hb2 hb)
  ·simp at hp;subst hp
   exact hk.kept hkp (fun b hb hb2=>h0 b hb2 hb)
 ·intro p hp
  rcases List.mem_append.1 hp with hp|hp
  ·exact Qn8 0 p.2 (fun b hb=>(h.kid p hp).lt b hb) (h.sep0 p hp)
  ·simp at hp;subst hp
   exact Qn8 0 kv (fun b hb=>hk.lt b hb) h0
 ·rw[List.pairwise_append]
  exact⟨h.sep1,by simp,fun a ha b hb=>by simp at hb;subst hb;exact h1 a ha⟩
theorem nodes (h:Jc S w v l) (hl:l.length≤140737488355328) (hk:∀p∈l,p.1.kids.length≤140737488355328):X4 w v (l.map Prod.fst):=by
 obtain⟨A,b,c,rfl,hn,hnc,hA,hc⟩:=h.row.opened
 refine⟨A,b,0,c,by rw[List.length_map],by rw[List.length_map];exact hl,by rw[List.length_map];exact hnc,fun h0=>(hA (by rwa [List.length_map] at h0)).1,fun j x hx=>?_⟩
 rw[List.getElem?_map,Option.map_eq_some_iff] at hx;obtain⟨p,hp,rfl⟩:=hx;have hg:=fun k (hk:k<4)=>Q3k (f:=fun p:Qc×Value=>Ys p.1 p.2) (m:=4) (fun _=>rfl) hp hk
 refine⟨p.2,?_,?_,?_,?_,(h.kid p (Mg hp)).ints (hk p (Mg hp))⟩
 ·rw[Nat.zero_add];exact hc _ _ (hg 0 (by omega))
 ·rw[Nat.zero_add];exact hc _ _ (hg 1 (by omega))
 ·rw[Nat.zero_add];exact hc _ _ (hg 2 (by omega))
 ·rw[Nat.zero_add];exact hc _ _ (hg 3 (by omega))
end Jc
theorem Q7a (n:Qc) (A:Option Addr) (m c:Nat):∀u∈Ys n (.slice A m c),u.oneCell'=true:=by
 intro u hu;simp[Ys] at hu;rcases hu with rfl|rfl|rfl|rfl<;>rfl
def Jg (F:Int→List Qc→List Qc):List Int→List Qc→List Int→List Qc×List Int
 |[],out,ks=>(out,ks)
 |k::l,out,ks=>Jg F l (F k out) (ks++[((F k out).length:Int)-1])
def Q55 (n:Qc) (p:List Qc×List Int):List Qc:=p.1++[⟨n.kind,n.text,n.i,p.2⟩]
def Xd (t:Q1):Nat→Int→List Qc→List Qc
 |0,_,out=>out
 |f+1,i,out=>Q55 (t.at i) (Jg (Xd t f) (t.at i).kids out [])
theorem Qcd {t:Q1}:∀(f:Nat) (i lo:Int) (out:List Qc),Q11 t lo i→i<f→((Xd t f i out).length:Int)=out.length+(i+1-lo):=by
 intro f
 induction f with
 |zero=>intro i lo out h hi;have:=h.2.1;omega
 |succ f ih =>
  intro i lo out h hi
  have key:∀(l:List Int) (lo e:Int) (out:List Qc) (ks:List Int),Zo t lo l e→(e≤f)→((Jg (Xd t f) l out ks).1.length:Int)=out.length+(e-lo):=by
   intro l
   induction l with
   |nil=>intro lo e out ks h _;have h:lo=e:=h;subst h;simp[Jg]
   |cons k l ihl =>
    intro lo e out ks h he;obtain⟨h1,h2⟩:=h;have:=h2.le;simp only[Jg];rw[ihl (k+1) e _ _ h2 he,ih k lo out h1 (by omega)];omega
  simp only[Xd,Q55];have:=key _ lo i out [] h.kids (by omega);rw[List.length_append];simp only[List.length_cons,List.length_nil];omega
def Qj0 (t:Q1) (f:Nat):Prop :=
 ∀(S:Nat→Prop) (w:World) (nv tv ov:Value) (l:List (Qc×Value)) (i lo:Int),TB S w t nv tv→Jc S w ov l→Jl S w→InT t i→i<f→Q11 t lo i→(l.length:Int)+(i+1-lo)≤8000 →
  Calls prog 34 #[.agg #[nv,tv],.int .i64 i,ov,.bool false] w fun e w'=>∃v l',e=.returned v∧Jc S w' v l'∧l'.map Prod.fst=Xd t f i (l.map Prod.fst)∧Q0 (own ov) w w'∧Q2j w ov v
structure CInv (t:Q1) (f:Nat) (n:Qc) (X:List Qc) (S1:Nat→Prop) (wq w:World) (ov0:Value) (mi:Int) (ov ku lu:Value) (wr:World) (j:Nat) (l':List (Qc×Value)) (ks:List Int) (lcs:List Value) (lo':Int):Prop where
 o:Jc (fun q=>S1 q∧¬ own ku q∧¬ own lu q) wr ov l'
 k:Qf (Q7 wq.heap.size) 3 wr ku (Q4 ks)
 l:X5 (Q7 wq.heap.size) 70 4 wr lu j lcs
 s:sep ku.ownBlock lu.ownBlock
 ksn:ks.length=j
 kq:Q0 S1 wq wr
 kw:Q0 (own ov0) w wr
 g:Q2j w ov0 ov
 x:X=Q55 n (Jg (Xd t f) (n.kids.drop j) (l'.map Prod.fst) ks)
 c:Zo t lo' (n.kids.drop j) mi
 b:(l'.length:Int)+(mi+1-lo')≤8000
theorem Qd1 {t:Q1} {f:Nat} (hK:Qj t) (hsz:t.nodes.length≤4000) (hsm:Jz t) (hF:Qj0 t f):Qj0 t (f+1):=by
 intro S w nv tv ov l i lo hT hO hS hi hif hsp hbd;obtain⟨X,hX⟩:∃X,X=Xd t (f+1) i (l.map Prod.fst):=⟨_,rfl⟩;rw[← hX];have HXX:Hi (X=Q55 (t.at i) (Jg (Xd t f) (t.at i).kids (l.map Prod.fst) [])):=Hh hX;clear hX;have HCH:=Hh hsp.kids;have hlo:=hsp.le;obtain⟨mi,rfl,hnd⟩:=Q1.at_lt hi;obtain⟨tA,tc,B,bc,htl,rfl⟩:=hT.len;clear htl tA tc;obtain⟨nb,no,nc,A,kb,ko,kc,rfl,hml,Qmq,kl,klc,hA,hkc⟩:=hT.node hnd;have hkm:=hsm (mi:Int);have HKI:Hi (∀k∈(t.at (mi:Int)).kids,InT t k∧k<mi):=Hh fun k hk=>⟨hi.kid hK hk,(hK.mem hi hk).2⟩
 generalize t.at (mi:Int)=n at *;have hk0:Q0 nob w (w.alloc (.cells #[.slice (some ⟨nb,no,none⟩) t.nodes.length nc,.slice B t.tops.length bc] 33)):=(Kr _ _).alloc _;have hb:=Blk.new w [.slice (some ⟨nb,no,none⟩) t.nodes.length nc,.slice B t.tops.length bc] 33;have hst:(w.alloc (.cells #[.slice (some ⟨nb,no,none⟩) t.nodes.length nc,.slice B t.tops.length bc] 33)).heap.size=w.heap.size+1:=by simp
 generalize hW0:w.alloc (.cells #[.slice (some ⟨nb,no,none⟩) t.nodes.length nc,.slice B t.tops.length bc] 33)=W0 at hk0 hst;replace hb:Blk W0 w.heap.size [.slice (some ⟨nb,no,none⟩) t.nodes.length nc,.slice B t.tops.length bc] 33:=hW0▸hb;have g0:=hb.cell 0 _ rfl;obtain⟨d0,d1,d2,d3⟩:=Qmq W0 (hk0.ofNob _);obtain⟨oA,oc,hov⟩:=hO.row.len;subst hov;have HLT:Hi (∀k,own (.slice oA l.length oc) k→k<w.heap.size):=Hh hO.lt;have HB:=Hh hb;have HK0:=Hh hk0;have HO:=Hh hO;have HT:=Hh hT;have HF:=Hh hF;have HS:=Hh hS;have HA:=Hh hA;have HKC:=Hh hkc;clear hb hk0 hO hT hF hS hA hkc hK hnd hi Qmq hsp;go_enter func34,ntmps34;go_upto_region 1 with fail
 go_cut [9] (fun s9 wx=>∃p:Nat,s9=.pointer (some ⟨p,0,none⟩)∧Blk wx p [.int .i64 n.kind,.string n.text,.int .i64 n.i,.slice A n.kids.length kc] 70∧Q0 nob W0 wx∧w.heap.size<p)
 case first =>
  go_wp2_with fail;go_meet;exact⟨_,rfl,Blk.new_of _ [_,_,_,_] _ hst.symm,(Kr _ _).alloc _,by omega⟩
 case rest =>
 obtain⟨p,rfl,hb,hkx,hpl⟩:=hcut;obtain⟨wq,rfl⟩:∃wq:World,wq=wc:=⟨_,rfl⟩;have hpc:p<wq.heap.size:=hb.lt;have Qxw:W0.heap.size≤wq.heap.size:=hkx.size;obtain⟨S1,hS'⟩:∃S1:Nat→Prop,S1=fun k=>S k∧k≠w.heap.size∧k≠p:=⟨_,rfl⟩
 have hS1:∀k,S1 k→S k∧k≠w.heap.size∧k≠p:=fun k h=>by rw[hS'] at h;exact h
 have hS2:∀k,S k→k<w.heap.size∨wq.heap.size≤k→S1 k:=fun k h h2=>by rw[hS'];exact⟨h,by omega,by omega⟩
 have HKW:=Hh (HK0.o.trans hkx);have HO1:Hi (Jc S1 wq (.slice oA l.length oc) l):=Hh ((HO.o.mono fun k hk h=>hS2 k h (.inl hk)).nobk HKW.o);have HT1:Hi (TB S1 wq t (.slice (some ⟨nb,no,none⟩) t.nodes.length nc) (.slice B t.tops.length bc)):=Hh ((HT.o.nobk HKW.o).mono fun k _ h=>(hS1 k h).1)
 have HS3:Hi (∀W,Q0 S1 wq W→(W.cell? ⟨p,0,none⟩=some (.int .i64 n.kind)∧W.cell? ⟨p,1,none⟩=some (.string n.text)∧W.cell? ⟨p,2,none⟩=some (.int .i64 n.i)∧W.cell? ⟨p,3,none⟩=some (.slice A n.kids.length kc))∧W.cell? ⟨w.heap.size,0,none⟩=some (.slice (some ⟨nb,no,none⟩) t.nodes.length nc)∧W.cell? ⟨w.heap.size,1,none⟩=some (.slice B t.tops.length bc)):=Hh fun W hW=>by
  have h2:=HB.o.kept hkx id;have n1:¬ S1 p:=fun e=>(hS1 _ e).2.2 rfl
  have n2:¬ S1 w.heap.size:=fun e=>(hS1 _ e).2.1 rfl
  exact⟨⟨hW.cell n1 (hb.cell 0 _ rfl),hW.cell n1 (hb.cell 1 _ rfl),hW.cell n1 (hb.cell 2 _ rfl),hW.cell n1 (hb.cell 3 _ rfl)⟩,hW.cell n2 (h2.cell 0 _ rfl),hW.cell n2 (h2.cell 1 _ rfl)⟩
 have Qru:Hi (∀j x,n.kids[j]?=some x→∀W,Q0 S1 wq W→W.cell? ⟨kb,ko+j,none⟩=some (.int .i64 x)):=Hh fun j x hx W hW=>HKC.o j x hx W ((HKW.o.ofNob _).trans (hW.mono fun k _ h=>(hS1 k h).1))
 have HFR:Hi (Jl S1 wq):=Hh fun k hk=>hS2 k (HS.o k (by have:=HKW.o.size;omega)) (.inr hk)
 have HS1:=Hh hS1;have HS2:=Hh hS2;have hsq:∀k,own (.slice oA l.length oc) k→S1 k:=HO1.o.row.2
 have HL1:Hi (Qf (Q7 wq.heap.size) 3 ((wq.alloc (.cells #[] 3 (0,0))).alloc (.cells #[] 70 (0,0))) (.slice (some ⟨wq.heap.size,0,none⟩) 0 0) (Q4 [])):=Hh (by
  have:=(Qf.lit (Q7 wq.heap.size) 3 wq [] (Nat.le_refl _) (by simp) rfl (n:=0) (c:=0) rfl rfl).alloc (.cells #[] 70 (0,0));simpa[Q4] using this)
 have HL2:Hi (X5 (Q7 wq.heap.size) 70 4 ((wq.alloc (.cells #[] 3 (0,0))).alloc (.cells #[] 70 (0,0))) (.slice (some ⟨wq.heap.size+1,0,none⟩) 0 0) 0 []):=Hh (X5.lit0 _ _ _ (by simp[Q7]) (Z0 rfl (by simp)));clear hS' hS1 hS2 d0 d1 d2 d3 g0 hb hkx;have g3:=(HS3.o wq (Kr _ _)).1.2.2.2;go_wp2_with fail;have hwb:w.heap.size≤wq.heap.size:=HKW.o.size;go_loopw [2,10,11,13] (fun ov ku lu k wr=>∃(j:Nat) (l':List (Qc×Value)) (ks:List Int) (lcs:List Value) (lo':Int),j≤n.kids.length∧k=.int .i64 j∧Hi (CInv t f n X S1 wq w (.slice oA l.length oc) mi ov ku lu wr j l' ks lcs lo')) (fun _ _ _ k _=>n.kids.length-(intOf k).toNat)
 case atStart =>
  refine⟨0,l,[],[],lo,Nat.zero_le _,rfl,Hh ⟨?_,HL1.o,HL2.o,?_,rfl,(by repeat' first|exact Kr _ _|apply Ka|apply Kd|apply Kn),(HKW.o.ofNob _).trans (by repeat' first|exact Kr _ _|apply Ka|apply Kd|apply Kn),.inl rfl,HXX.o,HCH.o,by omega⟩⟩
  ·refine (HO1.o.mono fun q hq h=>⟨h,fun e=>?_,fun e=>?_⟩).nobk (by repeat' first|exact Kr _ _|apply Ka|apply Kd|apply Kn)
   ·simp[own,Value.ownBlock] at e;omega
   ·simp[own,Value.ownBlock] at e;omega
  ·intro q h1 h2;simp[Value.ownBlock] at h1 h2;omega
 case round =>
  obtain⟨j,l',ks,lcs,lo',hj,rfl,HR⟩:=hrel;obtain⟨wo,rfl⟩:∃wo:World,wo=wr:=⟨_,rfl⟩;obtain⟨⟨p0,p1,p2,p3⟩,q0,q1⟩:=HS3.o wo HR.o.kq;have hwo:wq.heap.size≤wo.heap.size:=HR.o.kq.size
  by_cases hlt:j<n.kids.length
  ·obtain⟨k,hk⟩:=Q3 hlt
   obtain rfl:=HA.o (by omega);have x1:=Qru.o j k hk wo HR.o.kq;have hjn:(j:Int)<(n.kids.length:Int):=by omega
   obtain⟨hki,hkf⟩:=HKI.o k (Mg hk);have hch:=HR.o.c;rw[Qd hk] at hch;obtain⟨Qpu,Qqf⟩:=hch;have Qxz:=Qqf.le;have Qy0:=Qpu.le;have Qzo:=HR.o.b;have hs3:∀W,Q0 S1 wo W→W.cell? ⟨p,3,none⟩=some (.slice (some ⟨kb,ko,none⟩) n.kids.length kc):=fun W hW=>(HS3.o W (HR.o.kq.trans hW)).1.2.2.2
   have hs4:∀W,Q0 S1 wo W→W.cell? ⟨w.heap.size,0,none⟩=some (.slice (some ⟨nb,no,none⟩) t.nodes.length nc):=fun W hW=>(HS3.o W (HR.o.kq.trans hW)).2.1
   have hs5:∀W,Q0 S1 wo W→W.cell? ⟨w.heap.size,1,none⟩=some (.slice B t.tops.length bc):=fun W hW=>(HS3.o W (HR.o.kq.trans hW)).2.2
   have hs6:∀W,Q0 S1 wo W→W.cell? ⟨kb,ko+j,none⟩=some (.int .i64 k):=fun W hW=>Qru.o j k hk W (HR.o.kq.trans hW)
   have Qmm:Hi (∀W,Q0 nob wo W→Calls prog 34 #[.agg #[.slice (some ⟨nb,no,none⟩) t.nodes.length nc,.slice B t.tops.length bc],.int .i64 k,u2,.bool false] W fun e w'=>∃v l2,e=.returned v∧Jc (fun q=>S1 q∧¬ own u10 q∧¬ own u11 q) w' v l2∧l2.map Prod.fst=Xd t f k (l'.map Prod.fst)∧Q0 (own u2) W w'∧Q2j W u2 v):=Hh fun W hW =>
    HF.o (fun q=>S1 q∧¬ own u10 q∧¬ own u11 q) W _ _ u2 l' k lo' (((HT1.o.kept HR.o.kq).nobk hW).mono fun q _ h=>h.1) (HR.o.o.nobk hW) (fun q hq=>⟨HFR.o q (by have:=hW.size;omega),fun e=>by have:=HR.o.k.lt q e;have:=hW.size;omega,fun e=>by have:=HR.o.l.lt q e;have:=hW.size;omega⟩) hki (by omega) Qpu (by omega)
   have hr0:Q0 S1 wo wo:=Kr _ _;have Qnf:Hi (((Xd t f k (l'.map Prod.fst)).length:Int)=l'.length+(k+1-lo')):=Hh (by rw[Qcd f k lo' _ Qpu (by omega),List.length_map]);have HXJ:Hi (X=Q55 n (Jg (Xd t f) (n.kids.drop (j+1)) (Xd t f k (l'.map Prod.fst)) (ks++[((Xd t f k (l'.map Prod.fst)).length:Int)-1]))):=Hh (by rw[HR.o.x,Qd hk];rfl);have HC2:=Hh Qqf;have Qy1:=HR.o.ksn;clear hk hki Qpu Qqf;go_upto_region 8 with fail
   go_region_held3 (fun W=>Q0 S1 wo W) (first|assumption|exact hr0.drew|exact Kd ‹_›) ((go_at_call 34;refine (Qmm.o _ (Kr _ _).drew).mono ?_;rintro e w2 ⟨v2,l2,rfl,ho2,hm2,hk2,hg2⟩;have HO2:=Hh ho2;have HM2:=Hh hm2;have HK2:=Hh hk2.undrew;have HG2:=Hh hg2;have hkx:=hr0.drew.trans (hk2.mono fun k _ h=>(HR.o.o.row.2 k h).1);clear ho2 hm2 hk2 hg2;dsimp only));clear hs3 hs4 hs5 hs6;obtain⟨oB,oD,Qy2⟩:=HO2.o.row.len;subst Qy2;have hl2:(l2.length:Int)=l'.length+(k+1-lo'):=by rw[← Qnf.o,← HM2.o,List.length_map]
   obtain⟨m,hm⟩:∃m,l2.length=m+1:=⟨l2.length-1,by omega⟩;obtain⟨⟨nd,kv⟩,Qoc⟩:=Q3 (xs:=l2) (j:=m) (by omega);have hw1:IntKind.i64.wrap ((l2.length:Int)-1)=(m:Int):=by rw[IntKind.wrap_i64];omega
   have hw2:wrap64 ((l2.length:Int)-1)=(m:Int):=by unfold wrap64;omega
   have Qsm:(m:Int)<(l2.length:Int):=by omega
   have HR2:Hi (Qf (Q7 wq.heap.size) 3 w2 u10 (Q4 ks)):=Hh (HR.o.k.kept HK2.o fun q hq e=>(HR.o.o.row.2 q e).2.1 hq);have HL2':Hi (X5 (Q7 wq.heap.size) 70 4 w2 u11 j lcs):=Hh (HR.o.l.kept HK2.o fun q hq e=>(HR.o.o.row.2 q e).2.2 hq);have Qng:wo.heap.size≤w2.heap.size:=HK2.o.size;obtain⟨S2,hS2⟩:∃S2:Nat→Prop,S2=fun q=>(S1 q∧¬ own u10 q∧¬ own u11 q)∧q<w2.heap.size:=⟨_,rfl⟩
   have Qrv:Hi (∀q,S2 q↔(S1 q∧¬ own u10 q∧¬ own u11 q)∧q<w2.heap.size):=Hh fun q=>by rw[hS2]
   have HOS:Hi (Jc S2 w2 (.slice oB l2.length oD) l2):=Hh (HO2.o.mono fun q hq h=>(Qrv.o q).2 ⟨h,hq⟩);obtain⟨QA,qb,qc,hqv,_,_,hQA,hqc⟩:=HOS.o.row.opened;injection hqv with Qy3 _ Qy4
   subst Qy3;subst Qy4;obtain⟨rfl,hqS,hqo,_⟩:=hQA (by omega);obtain⟨kvA,kvc,hkv⟩:=(HOS.o.kid _ (Mg Qoc)).len;rw[Q5] at hkv;dsimp only at hkv;subst hkv;have hgl:=fun i (hi:i<4)=>Q3k (f:=fun p:Qc×Value=>Ys p.1 p.2) (m:=4) (fun _=>rfl) Qoc hi
   have HE:Hi (∀W,Q0 (own u10) w2 W→W.cell? ⟨qb,m*4,none⟩=some (.int .i64 nd.kind)∧W.cell? ⟨qb,m*4+1,none⟩=some (.string nd.text)∧W.cell? ⟨qb,m*4+2,none⟩=some (.int .i64 nd.i)∧W.cell? ⟨qb,m*4+3,none⟩=some (.slice kvA nd.kids.length kvc)):=Hh fun W hW=>by
    have hno:¬ own u10 qb:=fun e=>((Qrv.o qb).1 hqS).1.2.1 e
    exact⟨hW.cell hno (hqc _ _ (hgl 0 (by omega))),hW.cell hno (hqc _ _ (hgl 1 (by omega))),hW.cell hno (hqc _ _ (hgl 2 (by omega))),hW.cell hno (hqc _ _ (hgl 3 (by omega)))⟩
   have HKB:Hi (ks.length=j):=Hh Qy1;have hfr:∀q,w2.heap.size≤q→Q7 wq.heap.size q:=fun q hq=>by show wq.heap.size≤q;omega
   have HFQ:=Hh hfr;have hjk:j≤1048576:=by omega
   clear hgl hqc Qoc hS2 hfr hQA hqo;go_wp2_with (first|(at_builtin;refine J1 (Q7 wq.heap.size) rfl _ _ 26 3 (.int .i64 0) 8 rfl underlying26 (by kernel_rfl) rfl u10 (Q4 ks) (.int .i64 (m:Int)) rfl rfl (by simp) rfl HR2.o HFQ.o (by rw[Q5,HKB.o];omega) (by rw[Q5,HKB.o];omega) ?_;intro nv1 w3 ho3 hk3 Qn0;have HO3:=Hh ho3;have HK3:=Hh hk3;have HA3:=Hh Qn0;obtain⟨z0,z1,z2,z3⟩:=HE.o w3 hk3;have Qqb:w2.heap.size≤w3.heap.size:=hk3.size;clear ho3 hk3 Qn0)|(at_builtin;refine Q1h rfl (fun K hK=>?_);refine Q1e (Q7 wq.heap.size) _ _ 31 70 4 (.agg #[.int .i64 0,.string ByteArray.empty,.int .i64 0,.slice none 0 0]) 56 rfl underlying31 (by kernel_rfl) rfl (by omega) u11 j 1 lcs (Ys nd (.slice kvA nd.kids.length kvc)) rfl (some ⟨_,0,none⟩) _ 0 1 rfl rfl (fun _=>rfl) (Q3j (Z0 rfl (by first|rfl|simp))) (Q7a _ _ _ _) ((HL2'.o.kept HK3.o (fun q hq e=>HR.o.s q e hq)).alloc _) (fun q hq=>HFQ.o q (by simp at hq;omega)) (by omega) (by omega) ?_;intro nv2 w5 ho5 hk5 Qmt;have HO5:=Hh ho5;have HK5:=Hh (((Kr (own u11) w3).alloc _).trans hk5);have HA5:Hi (nv2.ownBlock=u11.ownBlock∨∃b,nv2.ownBlock=some b∧w3.heap.size≤b):=Hh (Qmt.imp id fun⟨b,e,hb⟩=>⟨b,e,by simp at hb;omega⟩);refine hK _ _ ?_;clear hK ho5 hk5 Qmt));go_roundw
   case measure=>simp[intOf];omega
   case rel =>
    have Qy5:∀q,own u10 q→q<w2.heap.size:=fun q e=>HR2.o.lt q e
    have Qvw:∀q,own u11 q→q<w2.heap.size:=fun q e=>HL2'.o.lt q e
    have h35:w3.heap.size≤w5.heap.size:=HK5.o.size
    have hn1:∀q,own nv1 q→own u10 q∨w2.heap.size≤q:=fun q e=>by
     rcases HA3.o with h|⟨b,h,hb⟩
     ·exact .inl (h.symm.trans e)
     ·have e:nv1.ownBlock=some q:=e
      rw[h] at e;cases e;exact .inr hb
    have hn2:∀q,own nv2 q→own u11 q∨w3.heap.size≤q:=fun q e=>by
     rcases HA5.o with h|⟨b,h,hb⟩
     ·exact .inl (h.symm.trans e)
     ·have e:nv2.ownBlock=some q:=e
      rw[h] at e;cases e;exact .inr hb
    refine⟨j+1,l2,ks++[(m:Int)],_,k+1,by omega,by go_num,Hh ⟨?_,?_,HO5.o,?_,?_,?_,?_,?_,?_,HC2.o,by omega⟩⟩
    ·rw[← hm]
     exact ((HOS.o.kept HK3.o fun q hq e=>((Qrv.o q).1 hq).1.2.1 e).kept HK5.o fun q hq e=>((Qrv.o q).1 hq).1.2.2 e).mono fun q _ h=>by
      obtain⟨⟨a,b,c⟩,d⟩:=(Qrv.o q).1 h;exact⟨a,fun e=>(hn1 q e).elim b (fun h=>by omega),fun e=>(hn2 q e).elim c (fun h=>by omega)⟩
    ·have h:=HO3.o.kept HK5.o (fun q hq e=>(hn1 q hq).elim (fun h=>HR.o.s q h e) (fun h=>by have:=Qvw q e;omega))
     rw[Xe] at h;exact h
    ·intro q h1 h2
     rcases hn1 q h1 with a|a<;>rcases hn2 q h2 with b|b
     ·exact HR.o.s q a b
     ·have:=Qy5 q a;omega
     ·have:=Qvw q b;omega
     ·have:=HO3.o.lt q h1;omega
    ·rw[List.length_append,HKB.o];rfl
    ·exact (HR.o.kq.trans (HK2.o.mono fun q _ h=>(HR.o.o.row.2 q h).1)).trans ((HK3.o.mono fun q _ h=>HFR.o q (HR.o.k.2 q h)).trans (HK5.o.mono fun q _ h=>HFR.o q (HR.o.l.2 q h)))
    ·exact ((HR.o.kw.grew HR.o.g HK2.o).then_ HK3.o fun q h=>.inr (by have:wq.heap.size≤q:=HR.o.k.2 q h;omega)).then_ HK5.o fun q h=>.inr (by have:wq.heap.size≤q:=HR.o.l.2 q h;omega)
    ·exact HR.o.g.trans HG2.o HR.o.kw.size
    ·rw[HXJ.o,HM2.o]
     have e:((Xd t f k (l'.map Prod.fst)).length:Int)-1=m:=by rw[Qnf.o];omega
     rw[e]
  ·have hjn:¬ (j:Int)<(n.kids.length:Int):=by omega
   have HXE:Hi (X=l'.map Prod.fst++[⟨n.kind,n.text,n.i,ks⟩]):=Hh (by rw[HR.o.x,Dn (by omega)];rfl);obtain rfl:ks.length=j:=HR.o.ksn;obtain⟨kA,kcap,hkv⟩:=HR.o.k.len;rw[Q5] at hkv;obtain⟨vA,vcap,hvv⟩:=HR.o.o.row.len;subst hkv;subst hvv;have hb9:=HR.o.b;have hc9:=HR.o.c.le;have Qzp:w.heap.size≤wo.heap.size:=HR.o.kw.size;have HOE:Hi (Jc S wo (.slice vA l'.length vcap) l'):=Hh (HR.o.o.mono fun q _ h=>(HS1.o q h.1).1);have Qp3:Hi (Qf S 3 wo (.slice kA ks.length kcap) (Q4 ks)):=Hh (HR.o.k.mono fun q h=>HS.o q (by have:wq.heap.size≤q:=h;omega));have Qvx:Hi (sep (Value.slice vA l'.length vcap).ownBlock (Value.slice kA ks.length kcap).ownBlock∧∀p∈l',sep p.2.ownBlock (Value.slice kA ks.length kcap).ownBlock):=Hh ⟨fun q h1 h2=>(HR.o.o.row.2 q h1).2.1 h2,fun p hp q h1 h2=>((HR.o.o.kid p hp).2 q h1).2.1 h2⟩;have Qvy:=Hh HR.o.kw;have HG9:=Hh HR.o.g;clear HR;go_wp2_with (at_builtin;refine Q1h rfl (fun K hK=>?_);refine Q1e S _ _ 31 70 4 (.agg #[.int .i64 0,.string ByteArray.empty,.int .i64 0,.slice none 0 0]) 56 rfl underlying31 (by kernel_rfl) rfl (by omega) (.slice vA l'.length vcap) l'.length 1 (Xo l') (Ys ⟨n.kind,n.text,n.i,ks⟩ (.slice kA ks.length kcap)) rfl (some ⟨_,0,none⟩) _ 0 1 rfl rfl (fun _=>rfl) (Q3j (Z0 rfl (by first|rfl|simp))) (Q7a _ _ _ _) (HOE.o.row.alloc _) (fun q hq=>HS.o q (by simp at hq;omega)) (by omega) (by omega) ?_;intro v6 w6 ho6 hk6 Qmz;have HO6:=Hh ho6;have HK6:=Hh (((Kr (own (.slice vA l'.length vcap)) wo).alloc _).trans hk6);have HA6:Hi (Q2j wo (.slice vA l'.length vcap) v6):=Hh (Qmz.imp id fun⟨b,e,hb⟩=>⟨b,e,by simp at hb;omega⟩);refine hK _ _ ?_;clear hK ho6 hk6 Qmz);go_returns;refine⟨v6,rfl,l'++[(⟨n.kind,n.text,n.i,ks⟩,.slice kA ks.length kcap)],HOE.o.snoc Qp3.o Qvx.o.1 Qvx.o.2 HO6.o HK6.o HA6.o,?_,Qvy.o.grew HG9.o HK6.o,HG9.o.trans HA6.o Qvy.o.size⟩;rw[HXE.o,List.map_append];rfl
theorem Qc1 {b T:Nat}:∀(vs:List Value) (o:Nat) (w:World) (cs:List Value),Blk w b cs T→o+vs.length≤cs.length →
  ∃cs',Blk (w.setCells b o vs) b cs' T∧cs'.length=cs.length∧(∀i,i<o→cs'[i]?=cs[i]?)∧∀j,j<vs.length→cs'[o+j]?=vs[j]?:=by
 intro vs
 induction vs with
 |nil=>intro o w cs h _;exact⟨cs,h,rfl,fun _ _=>rfl,fun j hj=>by simp at hj⟩
 |cons v vs ih =>
  intro o w cs h hl;simp only[List.length_cons] at hl;obtain⟨cs',h1,h2,h3,h4⟩:=ih (o+1) _ _ (h.set o v) (by simp;omega)
  refine⟨cs',h1,by rw[h2];simp,fun i hi=>by rw[h3 i (by omega),List.getElem?_set_ne (by omega)],fun j hj=>?_⟩
  cases j with
  |zero=>rw[Nat.add_zero,h3 o (by omega),List.getElem?_set_self (by omega)];rfl
  |succ j=>have:=h4 j (by simpa using hj);rw[show o+(j+1)=o+1+j by omega,this];rfl
theorem Q9x {b:Nat}:∀(vs:List Value) (o:Nat) (w:World),Q0 (fun k=>k=b) w (w.setCells b o vs):=by
 intro vs
 induction vs with
 |nil=>intro o w;exact Kr _ _
 |cons v vs ih=>intro o w;exact ((Kr (fun k=>k=b) w).setCell (p:=⟨b,o,none⟩) (.inl rfl) v).trans (ih _ _)
theorem Qak (w:World) (os:Array Obj):Q0 nob w (Go.Sort.grow w os):=⟨rfl,rfl,rfl,by simp[Go.Sort.grow],fun k hk _=>by simp only[Go.Sort.grow];rw[Array.getElem?_append_left hk]⟩
theorem Qf.laid {S:Nat→Prop} {e:TypeId} {w:World} {g cap:Nat} {xs ys:List Value} (h:Qf S e w (.slice (some ⟨g,0,none⟩) xs.length cap) xs) (hl:ys.length=xs.length) (q:Nat) (os:Array Obj) :
  Qf S e (Go.Sort.grow ((w.drewN q).setCells g 0 ys) os) (.slice (some ⟨g,0,none⟩) xs.length cap) ys∧Q0 (fun k=>k=g) w (Go.Sort.grow ((w.drewN q).setCells g 0 ys) os):=by
 have hk:Q0 (fun k=>k=g) w (Go.Sort.grow ((w.drewN q).setCells g 0 ys) os):=(((Kr _ w).drewN q).trans (Q9x ys 0 _)).trans ((Qak _ os).ofNob _);refine⟨?_,hk⟩;rcases h.1.2 with ⟨h1,_⟩|⟨g',cap',cur,h1,h0,hh,hnc,hcm,hcs,ht⟩
 ·cases h1
 ·cases h1
  have hb:Blk w g cur.toList e:=by simpa[Blk] using hh
  have Qmr:xs.length≤cur.toList.length:=by simp[hcs];omega
  obtain⟨cs',b1,b2,_,b4⟩:=Qc1 ys 0 (w.drewN q) cur.toList (hb.drewN q) (by omega);have b5:=b1.kept (Qak _ os) id;refine⟨⟨by rw[hl];simp,.inr ⟨g,cap,cs'.toArray,by rw[hl],h0,b5,by omega,hcm,by simp[b2,hcs],?_⟩⟩,h.2⟩;apply List.ext_getElem?;intro j;rw[List.getElem?_take]
  by_cases hj:j<ys.length
  ·rw[Ps (by omega)]
   have:=b4 j hj
   rwa [Nat.zero_add] at this
  ·rw[Ng (by omega),List.getElem?_eq_none (by omega)]
theorem Qf.holds {S:Nat→Prop} {w:World} {g cap:Nat} {zs:List Int} (h:Qf S 3 w (.slice (some ⟨g,0,none⟩) zs.length cap) (Q4 zs)):Go.Sort.Holds (Value.int .i64) w g 0 zs.toArray∧g<w.heap.size∧zs.length≤cap∧zs.length≤9223372036854775807:=by
 obtain⟨A,b,c,hv,hl,hlc,hA,hc⟩:=h.opened;injection hv with h1 h2 h3
 rw[Q5] at hl hlc hA
 refine⟨fun j hj=>?_,h.lt g rfl,by rw[h3];exact hlc,hl⟩
 have hj':j<zs.length:=by simpa using hj
 have h4:=(hA (by omega)).1;rw[← h1] at h4;cases h4;obtain⟨c1,c2⟩:=hc j (.int .i64 zs[j]) (by simp[Q4,hj']);rw[Nat.zero_add];exact⟨by rw[c1];simp[hj'],c2⟩
def Zr (zs:List Int):List Int:=zs.mergeSort fun x y=>decide (x≤y)
theorem Qfi {S:Nat→Prop} {w:World} {v:Value} {zs:List Int} (h:Qf S 3 w v (Q4 zs)) (hz:zs.length≤1000000) :
  Calls prog 76 #[v] w fun e w'=>e=.returned (.tuple #[])∧Qf S 3 w' v (Q4 (Zr zs))∧Q0 (own v) w w':=by
 have hsl:(Zr zs).length=zs.length:=by unfold Zr;exact List.length_mergeSort _
 rcases h.1.2 with ⟨rfl,h0⟩|⟨g,cap,cur,rfl,_⟩
 ·rw[Q5] at h0
  have hzs:zs=[]:=List.eq_nil_of_length_eq_zero h0;subst hzs;refine (Any.slices_Sort_int_none Qfo none 0 w).mono ?_;rintro e w' ⟨rfl,rfl⟩;exact⟨rfl,by rw[List.eq_nil_of_length_eq_zero (l:=Zr []) hsl];exact Qf.nil _ _ _,Kr _ _⟩
 ·rw[Q5] at h ⊢
  obtain⟨h1,h2,h3,h4⟩:=h.holds;refine (Any.slices_Sort_int Qfo g 0 cap zs w h1 h2 (by omega)).mono ?_;rintro e w' ⟨rfl,q,os,rfl⟩;have e9:=Lib.sorted_world (Value.int .i64) w g 0 q zs.toArray (zs.mergeSort fun x y=>decide (x≤y)) os h1 (by simp);have h':=h;rw[show zs.length=(Q4 zs).length from (Q5 _).symm] at h';obtain⟨k1,k2⟩:=h'.laid (ys:=Q4 (Zr zs)) (by rw[Q5,Q5,hsl]) q os;rw[e9];rw[Q5] at k1;exact⟨rfl,k1,k2.mono fun k _ e=>by show some g=some k;rw[e]⟩
def LeUp (zs:List Int):Prop:=zs.Pairwise (·≤·)
theorem Q76 (zs:List Int):LeUp (Zr zs):=by
 have h:=List.pairwise_mergeSort (le:=fun x y:Int=>decide (x≤y)) (fun a b c h1 h2=>by simp at h1 h2 ⊢;omega) (fun a b=>by simp;omega) zs;exact h.imp (fun h=>by simpa using h)
theorem Q48 (zs:List Int) (x:Int):x∈Zr zs↔x∈zs:=List.mem_mergeSort
theorem Q5w {zs:List Int} (h:LeUp zs):(Lib.compact zs).Pairwise (·<·)∧∀x,x∈Lib.compact zs↔x∈zs:=by
 have hp:=List.pairwise_iff_getElem.1 h
 have hle:∀i j (hi:i<zs.length) (hj:j<zs.length),i≤j→zs[i]≤zs[j]:=fun i j hi hj hij=>by
  by_cases e:i=j
  ·subst e;exact Int.le_refl _
  ·exact hp i j hi hj (by omega)
 have hg:∀j (hj:j<zs.length),zs.toArray[j]! = zs[j]:=fun j hj=>by rw[List.getElem!_toArray,getElem!_pos zs j hj]
 unfold Lib.compact Lib.compactUpTo;constructor
 ·rw[List.pairwise_map,List.pairwise_filter]
  refine (List.pairwise_lt_range).imp_of_mem fun {i j} hi hj hij k1 k2=>?_
  have hi:=List.mem_range.1 hi;have hj:=List.mem_range.1 hj;unfold Lib.keeps at k2;rw[decide_eq_true_iff] at k2;rcases k2 with k2|k2
  ·omega
  ·rw[hg j hj,hg (j-1) (by omega)] at k2
   rw[hg i hi,hg j hj];have h1:=hle i (j-1) hi (by omega) (by omega);have h2:=hle (j-1) j (by omega) hj (by omega);omega
 ·intro x
  simp only[List.mem_map,List.mem_filter,List.mem_range];constructor
  ·rintro⟨j,⟨hj,_⟩,rfl⟩
   rw[hg j hj];exact List.getElem_mem _
  ·intro hx
   obtain⟨j,hj,rfl⟩:=List.mem_iff_getElem.1 hx
   have key:∀m (hm:m<zs.length),∃i,(i<zs.length∧Lib.keeps zs.toArray i=true)∧zs.toArray[i]! = zs[m]:=by
    intro m
    induction m with
    |zero=>intro hm;exact⟨0,⟨hm,by simp[Lib.keeps]⟩,hg 0 hm⟩
    |succ m ih =>
     intro hm
     by_cases e:zs[m+1]=zs[m]
     ·obtain⟨i,h1,h2⟩:=ih (by omega)
      exact⟨i,h1,by rw[h2,e]⟩
     ·refine⟨m+1,⟨hm,?_⟩,hg _ hm⟩
      unfold Lib.keeps;rw[decide_eq_true_iff];right;rw[hg _ hm,hg (m+1-1) (by omega)];exact e
   exact key j hj
theorem Q7u (zs:List Int):(Lib.compact zs).length≤zs.length:=by
 unfold Lib.compact Lib.compactUpTo;rw[List.length_map];refine Nat.le_trans (List.length_filter_le _ _) ?_;simp
theorem Qef {S:Nat→Prop} {w:World} {v:Value} {zs:List Int} (h:Qf S 3 w v (Q4 zs)) :
  Calls prog 77 #[v] w fun e w'=>∃v',e=.returned v'∧Qf S 3 w' v' (Q4 (Lib.compact zs))∧Q0 (own v) w w':=by
 rcases h.1.2 with ⟨rfl,h0⟩|⟨g,cap,cur,rfl,_⟩
 ·rw[Q5] at h0
  have hzs:zs=[]:=List.eq_nil_of_length_eq_zero h0;subst hzs;refine (Any.slices_Compact_int_empty Q9z none 0 w).mono ?_;rintro e w' ⟨rfl,rfl⟩;exact⟨_,rfl,Qf.nil _ _ _,Kr _ _⟩
 ·rw[Q5] at h ⊢
  obtain⟨h1,h2,h3,h4⟩:=h.holds;have hcl:=Q7u zs;refine (Any.slices_Compact_int Q9z g 0 cap zs w h1 h4 h3).mono ?_;rintro e w' ⟨rfl,q,rfl⟩;have e9:=Lib.sorted_world (Value.int .i64) w g 0 q zs.toArray (Lib.compact zs++List.replicate (zs.length-(Lib.compact zs).length) 0) #[] h1 (by simp;omega);have h':=h;rw[show zs.length=(Q4 zs).length from (Q5 _).symm] at h';obtain⟨k1,k2⟩:=h'.laid (ys:=Q4 (Lib.compact zs++List.replicate (zs.length-(Lib.compact zs).length) 0)) (by rw[Q5,Q5];simp;omega) q #[];rw[Go.Sort.grow_empty,Go.Sort.grow_empty] at e9;rw[Go.Sort.grow_empty] at k1 k2;have e7:(Q4 zs).length=(Q4 (Lib.compact zs++List.replicate (zs.length-(Lib.compact zs).length) 0)).length:=by rw[Q5,Q5];simp;omega
  have k3:=k1.take (A:=some ⟨g,0,none⟩) (c:=cap) (by rw[e7]) (Lib.compact zs).length (by rw[Q5];simp);rw[show (Q4 (Lib.compact zs++List.replicate (zs.length-(Lib.compact zs).length) 0)).take (Lib.compact zs).length=Q4 (Lib.compact zs) by simp[Q4]] at k3;rw[e9];exact⟨_,rfl,k3,k2.mono fun k _ e=>by show some g=some k;rw[e]⟩
theorem Qb2 {S:Nat→Prop} {w:World} {v:Value} {zs:List Int} (h:Qf S 3 w v (Q4 zs)) (hz:zs.length≤1000000) :
  Calls prog 40 #[v] w fun e w'=>∃v',e=.returned v'∧Qf S 3 w' v' (Q4 (Lib.compact (Zr zs)))∧Q0 S w w':=by
 have H:=Hh h;go_enter func40,ntmps40;go_wp2_with (first|(go_at_call 76;refine (Qfi H.o hz).mono ?_;rintro e w1 ⟨rfl,ho1,hk1⟩;have HO1:=Hh ho1;have HK1:=Hh hk1;clear ho1 hk1)|(go_at_call 77;refine (Qef HO1.o).mono ?_;rintro e w2 ⟨v2,rfl,ho2,hk2⟩;have HO2:=Hh ho2;have HK2:=Hh hk2;clear ho2 hk2));go_returns;exact⟨_,rfl,HO2.o,(HK1.o.mono fun k _ e=>H.o.2 k e).trans (HK2.o.mono fun k _ e=>H.o.2 k e)⟩
structure OwnQ (w:World) (v:Value) (xs:List Int) (g o cap:Nat) (A:Addr) (cs:List Value):Prop where
 v:v=.slice (some A) xs.length cap
 a:0<cap→A =⟨g,o,none⟩
 b:Blk w g cs 3
 le:xs.length≤cap
 sz:o+cap=cs.length
 t:(cs.drop o).take xs.length=Q4 xs
def IsQ (w:World) (v:Value) (xs:List Int) (g:Nat):Prop:=∃o cap A cs,OwnQ w v xs g o cap A cs
namespace IsQ
variable {w w':World} {v:Value} {xs:List Int} {g:Nat} {S:Nat→Prop}
theorem kept (h:IsQ w v xs g) (k:Q0 S w w') (hn:¬ S g):IsQ w' v xs g:=by
 obtain⟨o,cap,A,cs,h⟩:=h;exact⟨o,cap,A,cs,h.v,h.a,h.b.kept k hn,h.le,h.sz,h.t⟩
theorem lt (h:IsQ w v xs g):g<w.heap.size:=by obtain⟨o,cap,A,cs,h⟩:=h;exact h.b.lt
theorem one (w:World) (x:Int):IsQ (w.alloc (.cells #[.int .i64 x] 3 (0,0))) (.slice (some ⟨w.heap.size,0,none⟩) 1 1) [x] w.heap.size :=
 ⟨0,1,_,[.int .i64 x],rfl,fun _=>rfl,Blk.new w [.int .i64 x] _,by simp,rfl,rfl⟩
end IsQ
section
variable {P:Program} {ops:Array Oper} {rest:List Oper} {o:Oper} {a:Act} {Q:Exit→Act→World→Prop}
theorem Qd6 {w:World} (t ty e:TypeId) (z:Value) (bytes:Nat) (ht:P.underlying t=some (.slice e)) (he:e=3) (Qnh:(P.info? e).map (fun i=>(i.zero,i.size,i.bytes))=some (some z,1,bytes)) (hz:z.cells.size=1)
  (v:Value) (xs:List Int) (g:Nat) (y:Int) (HQ:IsQ w v xs g) {bx:Nat} (Qpw:∀j u,[Value.int .i64 y][j]?=some u→w.cell? ⟨bx,0+j,none⟩=some u) (hl:(xs.length+1)*bytes≤140737488355328) (hl2:xs.length+1≤140737488355328) :
  ∃v1 w1 g1,(Builtin.append_ #[t,t] ty #[v,.slice (some ⟨bx,0,none⟩) 1 1]).run P w=.ok v1 w1∧IsQ w1 v1 (xs++[y]) g1∧Q0 (fun k=>k=g) w w1∧(g1=g∨w.heap.size≤g1):=by
 subst he;obtain⟨i0,hi,hzz⟩:=Option.map_eq_some_iff.1 Qnh;simp only[Prod.mk.injEq] at hzz;obtain⟨hz0,hz1,hz2⟩:=hzz;obtain⟨o,cap,A,cs,h⟩:=HQ;obtain⟨rfl,hA,hb,hle,hsz,htk⟩:=h;have Qq9:∀(b q j:Nat),(⟨b,q,none⟩: Addr).add j =⟨b,q+j,none⟩:=fun b q j=>by unfold Addr.add;split<;>simp_all
 by_cases hr:xs.length+1≤cap
 ·obtain rfl:=hA (by omega)
  have hin:o+xs.length<cs.length:=by omega
  have Qoe:=run_append_room_cells (P:=P) w t ty 3 i0 ht hi g o xs.length cap ⟨bx,0,none⟩ 1 1 [.int .i64 y] (by rw[hz1];rfl) (fun j u hj=>by rw[Qq9];exact Qpw j u hj) (by simp[Value.oneCell']) hr
   (fun j hj=>by
    have:j=0:=by simpa using hj
    subst this;rw[hz1,Nat.mul_one,Nat.add_zero,hb.cell (o+xs.length) _ (List.getElem?_eq_getElem hin)];rfl)
   (fun j hj=>hb.free _)
  rw[hz1,Nat.mul_one] at Qoe
  refine⟨_,_,g,Qoe,⟨o,cap,_,cs.set (o+xs.length) (.int .i64 y),by rw[List.length_append];rfl,fun _=>rfl,?_,by simpa using hr,by simpa using hsz,?_⟩,?_,.inl rfl⟩
  ·exact hb.set (o+xs.length) (.int .i64 y)
  ·rw[List.drop_set,Ng (by omega),show o+xs.length-o=xs.length by omega,List.length_append]
   show ((cs.drop o).set xs.length (.int .i64 y)).take (xs.length+1)=_
   have hd:xs.length<(cs.drop o).length:=by rw[List.length_drop];omega
   rw[List.take_add_one,List.take_set_of_le (Nat.le_refl _),htk];simp[Q4];rw[List.getElem?_set_self hd]
  ·exact (Kr (fun k=>k=g) w).setCell (p:=⟨g,o+xs.length,none⟩) (.inl rfl) _
 ·have holds:∀j u,(Q4 xs)[j]?=some u→w.cell? (A.add j)=some u:=by
   intro j u hj;have hjl:=(Gs hj).1;simp[Q4] at hjl;obtain rfl:=hA (by omega);rw[Qq9];refine hb.cell (o+j) u ?_;rw[← htk,List.getElem?_take,Ps hjl,List.getElem?_drop] at hj;exact hj
  obtain⟨v',w',Qoe,Qmy,hg⟩:=run_append_arg_grows (P:=P) w t ty 3 i0 z 1 bytes ht hi hz0 hz1 hz2 hz (by omega) A xs.length cap (Q4 xs) (by simp[Q4]) holds ⟨bx,0,none⟩ 1 1 [.int .i64 y] rfl (fun j u hj=>by rw[Qq9];exact Qpw j u hj) (by omega) (by simp only[maxLen];omega) hl;rcases Qmy.2 with ⟨_,h0⟩|⟨g',cap',cur,rfl,hbg,hh,hnc,hcm,hcs,ht9⟩
  ·omega
  ·refine⟨_,w',g',Qoe,⟨0,cap',_,cur.toList,by rw[List.length_append];rfl,fun _=>rfl,by simpa[Blk] using hh,by simpa using hnc,by simp[hcs],?_⟩,((Kr nob w).grown hg (fun k hk=>by cases hk)).ofNob _,.inr hbg⟩
   simpa[Q4] using ht9
theorem Ql6 {W:World} (hgd:o.guard=none) (s x:Operand) (t e:TypeId) (z:Value) (bytes:Nat)
  (ho:o.op=.call {callee:=.builtin .append,args:=#[s,x],argTypes:=#[t,t]})
  (ht:P.underlying t=some (.slice e)) (he:e=3) (Qnh:(P.info? e).map (fun i=>(i.zero,i.size,i.bytes))=some (some z,1,bytes)) (hz:z.cells.size=1)
  (v:Value) (xs:List Int) (g:Nat) (y:Int) (hs:a.eval s=v) {bx:Nat} (hx:a.eval x=.slice (some ⟨bx,0,none⟩) 1 1) (hbx:bx=W.heap.size)
  (HQ:IsQ W v xs g) (hl:(xs.length+1)*bytes≤140737488355328) (hl2:xs.length+1≤140737488355328)
  (h:∀v1 w1 g1,IsQ w1 v1 (xs++[y]) g1→Q0 (fun k=>k=g) W w1→(g1=g∨W.heap.size≤g1)→wpList P ops Q rest (a.put o.dst v1) w1) :
  wpList P ops Q (o::rest) a (W.alloc (.cells #[.int .i64 y] e)):=by
 subst hbx
 refine wpList_plain hgd fun K hK=>?_
 obtain⟨v1,w1,g1,Qoe,h1,h2,h3⟩:=Qd6 (P:=P) (w:=W.alloc (.cells #[.int .i64 y] e)) t o.type e z bytes ht he Qnh hz v xs g y (HQ.kept ((Kr nob W).alloc _) id) (bx:=W.heap.size) (Q3j (cs:=[.int .i64 y]) (Z0 rfl rfl)) hl hl2;unfold Oper.wp execOp;simp only[ho,resolve,invoke,builtin,Sem.run_bind,Sem.run_pure,Result.andThen_ok,List.map_toArray,List.map_cons,List.map_nil,hs,hx,Qoe];exact hK _ _ (h v1 w1 g1 h1 (((Kr _ W).alloc _).trans h2) (h3.imp id fun hh=>by simp at hh;omega))
end
end Go.Proofs.YtkgkafjachjafaaGreat
