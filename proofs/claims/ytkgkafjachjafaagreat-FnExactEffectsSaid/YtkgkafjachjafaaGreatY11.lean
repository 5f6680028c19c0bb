/- Part 11 of: FnExactEffects answers true; no condition. -/
import Derived.StillTailTactics
import Derived.Test.YtkgkafjachjafaaGreatY10
set_option linter.unusedVariables false
set_option maxHeartbeats 1000000
open Go Go.RowKit
namespace Go.Proofs.YtkgkafjachjafaaGreat
open Tryz
def AtS (S:Nat→Prop) (w:World) (cb:Nat) (ra ta:Addr) (s:CS) (kv bv tv:Value) (w':World):Prop:=(∃lv wv,J0 S w' cb ra ta s kv bv lv tv wv)∧Q0 S w w'
theorem Q31.s {S:Nat→Prop} {w w':World} {cb:Nat} {ra ta:Addr} {s:CS} {kv bv lv tv wv:Value} (h:Q31 S w cb ra ta s kv bv lv tv wv w'):AtS S w cb ra ta s kv bv tv w' :=
 ⟨⟨lv,wv,h.1⟩,h.2.mono fun k _ hk=>hk▸h.1.inS⟩
section
variable {S:Nat→Prop} {w:World} {cb rb ro tb to:Nat} {s:CS} {kv bv lv tv wv:Value}
theorem Qm8 (h:J0 S w cb ⟨rb,ro,none⟩ ⟨tb,to,none⟩ s kv bv lv tv wv) (t:Q1) (ht:Qj S w fun w=>J8 w tb to t) (hok:Qe t s) (Qp7:s.locals.length≤4000)
  (i:Int) (hi:InT t i) (n:Qn) (nk:Value) (hnk:Qj S w fun w=>Qf w nk n.kids) (k:Int) (ks:List Int) (Qnf:n.kids=k::ks) (hk:0≤k∧k<t.nodes.length) (h12:n.kind=12) (hS:Jh S w) :
  Calls prog 172 #[.pointer (some ⟨cb,0,none⟩),.int .i64 i,.agg #[.int .i64 n.kind,.string n.text,.int .i64 n.i,nk]] w fun e w'=>e=.returned (.tuple #[]) ∧
   AtS S w cb ⟨rb,ro,none⟩ ⟨tb,to,none⟩ (if 0≤Q3 t s.locals n.text then s.fail 2 i else (s.setKind i (s.kindAt (kidAt n 0))).addLocal i) kv bv tv w':=by
 have hke:kidAt n 0=k:=by rw[kidAt,Qnf];rfl
 rw[hke];clear hke;have hk0:Q0 nob w (w.alloc (.cells #[.int .i64 n.kind,.string n.text,.int .i64 n.i,nk] 70)):=(Kr _ _).alloc _;have hbl:=Blk.new w [.int .i64 n.kind,.string n.text,.int .i64 n.i,nk] 70;have Qpi:=(hnk.now).old hk0.old;obtain⟨A,b,o,c,rfl,hl,hlc,hA,hc⟩:=Qpi;obtain rfl:=hA (by rw[Qnf];simp);have e0:=hc 0 k (by rw[Qnf];rfl);have Qnm:0<n.kids.length:=by rw[Qnf];simp
 rw[h12] at hbl hk0 hc e0 ⊢;have hF0:Jh S (w.alloc (.cells #[.int .i64 12,.string n.text,.int .i64 n.i,.slice (some ⟨b,o,none⟩) n.kids.length c] 70)):=hS.alloc _;generalize hW0:w.alloc (.cells #[.int .i64 12,.string n.text,.int .i64 n.i,.slice (some ⟨b,o,none⟩) n.kids.length c] 70)=W0 at hk0 hc e0 hF0;have hb0:Blk W0 w.heap.size [.int .i64 12,.string n.text,.int .i64 n.i,.slice (some ⟨b,o,none⟩) n.kids.length c] 70:=hW0▸hbl;have h0:=h.nobk hk0;have c0:=hb0.cell 0 _ rfl;have c1:=hb0.cell 1 _ rfl;have c3:=hb0.cell 3 _ rfl;have c4:W0.cell? ⟨cb,4,none⟩=some kv:=h0.blk.cell 4 _ rfl;have c6:W0.cell? ⟨cb,6,none⟩=some lv:=h0.blk.cell 6 _ rfl;have f6:=h0.blk.free 6;obtain⟨kA,g,kc,hkv,kl,klc,hkA,hkc⟩:=h0.k.openI;have hkl:0<s.kinds.length:=by rw[hok.kinds];have:=hk.1;have:=hk.2;omega
 obtain⟨rfl,hSg,Qnt⟩:=hkA hkl;obtain⟨m,rfl⟩:=En hk.1;obtain⟨mi,rfl⟩:=En hi.1;have hmk:m<s.kinds.length:=by rw[hok.kinds];have:=hk.2;omega
 have hik:mi<s.kinds.length:=by rw[hok.kinds];have:=hi.2;omega
 obtain⟨x,hx⟩:=Q4 hmk;obtain⟨y,hy⟩:=Q4 hik;obtain⟨k0,_⟩:=hkc m x hx;obtain⟨k2,k3⟩:=hkc mi y hy;have hxk:s.kindAt (m:Int)=x:=CS.kindAt_of hx;have h1:=(h0.setK Qnt (mi:Int) x hi.1).drew;rw[Int.toNat_natCast] at h1;have hgc:g≠cb:=fun e=>h0.noCb.1 (by rw[Qnt,e])
 have hgw:g≠w.heap.size:=by have:=h.k.lt g Qnt;omega
 have hbg:b≠g:=fun e=>(hnk.apart rfl (by rw[Qnf];simp)) (e▸hSg)
 have hrg:Q0 (fun k=>k=g) W0 (W0.setCell ⟨g,mi,none⟩ (.int .i64 x)).drew:=(Q0.cb (cb:=g) (Kr _ W0) mi _).drew;have hr1:Q0 S W0 (W0.setCell ⟨g,mi,none⟩ (.int .i64 x)).drew:=hrg.mono (fun k _ hk=>hk▸hSg);have e0':W0.cell? ⟨b,o,none⟩=some (.int .i64 (m:Int)):=by simpa using e0
 have z4:(W0.setCell ⟨g,mi,none⟩ (.int .i64 x)).drew.cell? ⟨cb,4,none⟩=some kv:=h1.blk.cell 4 _ rfl;have z3:(W0.setCell ⟨g,mi,none⟩ (.int .i64 x)).drew.cell? ⟨w.heap.size,3,none⟩=some (.slice (some ⟨b,o,none⟩) n.kids.length c):=hrg.cell (fun e=>hgw e.symm) c3;have z0:(W0.setCell ⟨g,mi,none⟩ (.int .i64 x)).drew.cell? ⟨b,o,none⟩=some (.int .i64 (m:Int)):=hrg.cell hbg e0'
 have zk:(W0.setCell ⟨g,mi,none⟩ (.int .i64 x)).drew.cell? ⟨g,m,none⟩=some (.int .i64 x):=by
  obtain⟨_,g',_,hv',_,_,h3',h4'⟩:=h1.k.openI;have Qrz:0<(s.setKind (mi:Int) x).kinds.length:=by simpa[CS.setKind] using hkl
  obtain⟨_,_,ho'⟩:=h3' Qrz;have:g'=g:=by rw[Qnt] at ho';cases ho';rfl
  subst this;refine (h4' m x ?_).1
  show (s.kinds.set (mi:Int).toNat x)[m]?=some x
  rw[List.getElem?_set,Int.toNat_natCast]
  by_cases e9:mi=m
  ·rw[Ps e9,Ps hik]
  ·rw[Ng e9];exact hx
 have c6':(W0.setCell ⟨g,mi,none⟩ (.int .i64 x)).drew.cell? ⟨cb,6,none⟩=some lv:=h1.blk.cell 6 _ rfl;have H0:=Hh h0;have H1:=Hh h1;have HT:=Hh ((ht.kept (hk0.ofNob S)).now);have HIN:=Hh hok.locals;have HX:=Hh hxk;have HKA:=Hh (h1.l);have HF:=Hh (hF0.kept hr1);have Qpz:=Hh Qp7;clear Qp7;clear hc hb0 hbl hnk h h0 h1 ht hok Qnf hxk hkc hx hy hl hF0 hS hkA;subst hkv
 by_cases hn:0≤Q3 t s.locals n.text
 ·have t1:decide (0≤Q3 t s.locals n.text)=true:=by simpa using hn
  rw[Ps hn];clear hn;go_enter func172,ntmps172;go_wp2_with (first|(go_at_call 196;refine (Q0f H0.o t HT.o HIN.o _).mono ?_;rintro e w1 ⟨rfl,rfl⟩)|(go_at_call 92;refine (Ze H0.o _ _).mono ?_;rintro e w1 ⟨rfl,hat⟩));go_returns;exact⟨rfl,hat.s.1,(hk0.ofNob _).trans hat.s.2⟩
 ·have t1:decide (0≤Q3 t s.locals n.text)=false:=by simpa using hn
  rw[Ng hn,HX.o];obtain⟨hk1,hk2⟩:=hk;obtain⟨hi1,hi2⟩:=hi;have hmk':(m:Int)<s.kinds.length:=Om
  have hik':(mi:Int)<s.kinds.length:=Om
  have HR1:=Hh hr1;clear hn hr1 hrg h12 kl hgc Qnt hSg hi2 hk2 hgw hbg;go_enter func172,ntmps172;go_wp2_with (first|(go_at_call 196;refine (Q0f H0.o t HT.o HIN.o _).mono ?_;rintro e w1 ⟨rfl,rfl⟩));go_region_held3 (fun W=>W.cell? ⟨cb,4,none⟩=some (.slice (some ⟨g,0,none⟩) s.kinds.length kc)∧W.cell? ⟨w.heap.size,3,none⟩=some (.slice (some ⟨b,o,none⟩) n.kids.length c)∧W.cell? ⟨b,o,none⟩=some (.int .i64 (m:Int))∧W.cell? ⟨g,m,none⟩=some (.int .i64 x)) (first|exact⟨c4,c3,e0',k0⟩|exact⟨z4,z3,z0,zk⟩) (fail);go_wp2_with (at_builtin;refine Qt S rfl _ _ 26 3 (.int .i64 0) 8 rfl underlying26 Kf rfl lv (Q5 s.locals) (.int .i64 (mi:Int)) rfl rfl Sm rfl HKA.o HF.o (by have:=Qpz.o;simp[Q5];omega) (by have:=Qpz.o;simp[Q5];omega) ?_;intro nv1 w2 Qnq hk2 hat;obtain⟨nA2,nc2,rfl⟩:=Qnq.len;rw[show (Q5 s.locals++[Value.int .i64 (mi:Int)]).length=(Q5 s.locals).length+1 from by simp] at Qnq hat;have hb2:=H1.o.blk.kept hk2 (H1.o.noCb.2.2.1);have c62:=hb2.cell 6 _ rfl;have f62:=hb2.free 6);go_returns;have hh:=H1.o.swapL (l1:=s.locals++[(mi:Int)]) (by have:=Qnq;rwa [show Q5 s.locals++[.int .i64 (mi:Int)]=Q5 (s.locals++[(mi:Int)]) from by simp[Q5]] at this) hk2 (hat.elim .inl fun h=>.inr (.inr h));refine⟨rfl,⟨_,wv,hh⟩,?_⟩
  ·have k1:=(hk0.ofNob S).trans HR1.o
   have k2:Q0 S _ w2:=k1.trans (hk2.mono fun k _ hk=>H1.o.l.2 k hk);exact k2.setCell (p:=⟨cb,6,none⟩) (Or.inl H0.o.inS) _
end
theorem Q5j {t:Q1} {l:List Int} {name:ByteArray} (h:0≤Q3 t l name):Q3 t l name∈l:=by
 induction l with
 |nil=>simp[Q3] at h
 |cons k ks ih =>
  unfold Q3 at h ⊢;split
  ·simp
  ·rename_i hne
   rw[Ng hne] at h;exact List.mem_cons_of_mem _ (ih h)
section
variable {S:Nat→Prop} {w:World} {cb rb ro tb to:Nat} {s:CS} {kv bv lv tv wv:Value}
theorem Qm6 (h:J0 S w cb ⟨rb,ro,none⟩ ⟨tb,to,none⟩ s kv bv lv tv wv) (r:Reg) (t:Q1) (ht:Qj S w fun w=>J8 w tb to t) (hok:Qe t s)
  (i:Int) (hi:InT t i) (n:Qn) (nk:Value) (hnk:Qj S w fun w=>Qf w nk n.kids) (k:Int) (ks:List Int) (Qnf:n.kids=k::ks) (hk:0≤k∧k<t.nodes.length) (h13:n.kind=13) :
  Calls prog 172 #[.pointer (some ⟨cb,0,none⟩),.int .i64 i,.agg #[.int .i64 n.kind,.string n.text,.int .i64 n.i,nk]] w fun e w'=>e=.returned (.tuple #[]) ∧
   J0 S w' cb ⟨rb,ro,none⟩ ⟨tb,to,none⟩ (if Q3 t s.locals n.text<0 then s.fail 3 i else Qp (s.setBind i (Q3 t s.locals n.text)) (kidAt n 0) (s.kindAt (Q3 t s.locals n.text)) i) kv bv lv tv wv∧Q0 S w w':=by
 have hke:kidAt n 0=k:=by rw[kidAt,Qnf];rfl
 rw[hke];clear hke;have hk0:Q0 nob w (w.alloc (.cells #[.int .i64 n.kind,.string n.text,.int .i64 n.i,nk] 70)):=(Kr _ _).alloc _;have hbl:=Blk.new w [.int .i64 n.kind,.string n.text,.int .i64 n.i,nk] 70;have Qpi:=(hnk.now).old hk0.old;obtain⟨A,b,o,c,rfl,hl,hlc,hA,hc⟩:=Qpi;obtain rfl:=hA (by rw[Qnf];simp);have e0:=hc 0 k (by rw[Qnf];rfl);have Qnm:0<n.kids.length:=by rw[Qnf];simp
 rw[h13] at hbl hk0 hc e0 ⊢;generalize hW0:w.alloc (.cells #[.int .i64 13,.string n.text,.int .i64 n.i,.slice (some ⟨b,o,none⟩) n.kids.length c] 70)=W0 at hk0 hc e0;have hb0:Blk W0 w.heap.size [.int .i64 13,.string n.text,.int .i64 n.i,.slice (some ⟨b,o,none⟩) n.kids.length c] 70:=hW0▸hbl;have h0:=h.nobk hk0;have c0:=hb0.cell 0 _ rfl;have c1:=hb0.cell 1 _ rfl;have H0:=Hh h0;have HT:=Hh ((ht.kept (hk0.ofNob S)).now);have HIN:=Hh hok.locals
 by_cases hn:Q3 t s.locals n.text<0
 ·have t1:decide (Q3 t s.locals n.text<0)=true:=by simpa using hn
  rw[Ps hn];clear hn hc e0 hb0 hbl hnk h h0 ht hok Qnf hl hA hi;go_enter func172,ntmps172;go_wp2_with (first|(go_at_call 196;refine (Q0f H0.o t HT.o HIN.o _).mono ?_;rintro e w1 ⟨rfl,rfl⟩)|(go_at_call 92;refine (Ze H0.o _ _).mono ?_;rintro e w1 ⟨rfl,hat⟩));go_returns;exact⟨rfl,hat.1,(hk0.ofNob _).trans (hat.2.mono fun k _ hk=>hk▸hat.1.inS)⟩
 ·have t1:decide (Q3 t s.locals n.text<0)=false:=by simpa using hn
  rw[Ng hn];have hm0:=hok.locals _ (Q5j (by omega:0≤Q3 t s.locals n.text));generalize hj:Q3 t s.locals n.text=j at hn t1 hm0 ⊢;obtain⟨mj,rfl⟩:=En hm0.1;obtain⟨m,rfl⟩:=En hk.1;obtain⟨mi,rfl⟩:=En hi.1;have hjk:mj<s.kinds.length:=by rw[hok.kinds];have:=hm0.2;omega
  have hik:mi<s.bind.length:=by rw[hok.bind];have:=hi.2;omega
  obtain⟨kA,g,kc,hkv,kl,klc,hkA,hkc⟩:=h0.k.openI;obtain⟨rfl,hSg,Qnt⟩:=hkA Om;obtain⟨bA,gb,bc,hbv,bl,blc,hbA,hbc⟩:=h0.b.openI;obtain⟨rfl,hSb,Qo9⟩:=hbA Om;obtain⟨x,hx⟩:=Q4 hjk;obtain⟨y,hy⟩:=Q4 hik;obtain⟨k2,k3⟩:=hbc mi y hy;have hxj:s.kindAt (mj:Int)=x:=CS.kindAt_of hx;have h1:=h0.setB Qo9 (mi:Int) (mj:Int) hi.1;rw[Int.toNat_natCast] at h1;have hrg:Q0 (fun k=>k=gb) W0 (W0.setCell ⟨gb,mi,none⟩ (.int .i64 (mj:Int))):=Q0.cb (cb:=gb) (Kr _ W0) mi _;have hr1:Q0 S W0 (W0.setCell ⟨gb,mi,none⟩ (.int .i64 (mj:Int))):=hrg.mono (fun k _ hk=>hk▸hSb);have hbg:b≠gb:=fun e=>(hnk.apart rfl (by rw[Qnf];simp)) (e▸hSb)
  have hgw:gb≠w.heap.size:=by have:=h.b.lt gb Qo9;omega
  have hbc':b≠cb:=fun e=>(hnk.apart rfl (by rw[Qnf];simp)) (e▸h.inS)
  have hcw:w.heap.size≠cb:=by have:=h.blk.lt;omega
  have Qs0:g≠gb:=fun e=>(h0.sepAll.1) g Qnt (by rw[Qo9,e])
  have hgc:g≠cb:=fun e=>h0.noCb.1 (by rw[Qnt,e])
  have c5:W0.cell? ⟨cb,5,none⟩=some bv:=h0.blk.cell 5 _ rfl;have e0':W0.cell? ⟨b,o,none⟩=some (.int .i64 (m:Int)):=by simpa using e0
  generalize hW1:W0.setCell ⟨gb,mi,none⟩ (.int .i64 (mj:Int))=W1 at h1 hrg hr1;have z4:W1.cell? ⟨cb,4,none⟩=some kv:=h1.blk.cell 4 _ rfl;have z3:W1.cell? ⟨w.heap.size,3,none⟩=some (.slice (some ⟨b,o,none⟩) n.kids.length c):=hrg.cell (fun e=>hgw e.symm) (hb0.cell 3 _ rfl);have z0:W1.cell? ⟨b,o,none⟩=some (.int .i64 (m:Int)):=hrg.cell hbg e0';have zk:W1.cell? ⟨g,mj,none⟩=some (.int .i64 x):=hrg.cell Qs0 (hkc mj x hx).1
  have hst:∀W,Q0 (fun k=>k=cb) W1 W→W.cell? ⟨w.heap.size,3,none⟩=some (.slice (some ⟨b,o,none⟩) n.kids.length c)∧W.cell? ⟨b,o,none⟩=some (.int .i64 (m:Int))∧W.cell? ⟨g,mj,none⟩=some (.int .i64 x) :=
   fun W hk=>⟨hk.cell hcw z3,hk.cell hbc' z0,hk.cell hgc zk⟩
  have HST:=Hh hst;have H1:=Hh h1;have HX:=Hh hxj;have HR1:=Hh hr1;have HB:Hi ((0:Int)≤(m:Int)∧(m:Int)<((s.setBind (mi:Int) (mj:Int)).kinds.length:Int)):=Hh ⟨hk.1,by show (m:Int)<(s.kinds.length:Int);rw[hok.kinds];exact hk.2⟩;have hjk':(mj:Int)<s.kinds.length:=Om
  have hik':(mi:Int)<s.bind.length:=Om
  clear hc e0 hb0 hbl hnk h h0 h1 ht hok Qnf hl hA hi hn hrg hr1 hst hxj hkc hbc hx hy hkA hbA hm0 hk kl bl h13 hSg hSb Qnt Qo9 hbg hgw hbc' hcw Qs0 hgc e0';subst hkv hbv;go_enter func172,ntmps172;go_wp2_with (first|(go_at_call 196;refine (Q0f H0.o t HT.o HIN.o _).mono ?_;rw[hj];rintro e w1 ⟨rfl,rfl⟩));go_region_held3 (fun W=>W.cell? ⟨cb,4,none⟩=some (.slice (some ⟨g,0,none⟩) s.kinds.length kc)∧W.cell? ⟨w.heap.size,3,none⟩=some (.slice (some ⟨b,o,none⟩) n.kids.length c)∧W.cell? ⟨b,o,none⟩=some (.int .i64 (m:Int))∧W.cell? ⟨g,mj,none⟩=some (.int .i64 x)) (first|exact⟨z4,z3,z0,zk⟩|exact⟨hat.1.blk.cell 4 _ rfl,HST.o _ hat.2⟩) ((first|(go_at_call 197;refine (Xp (H1.o.drew) _ _ _ HB.o.1 HB.o.2).mono ?_;rintro e w2 ⟨rfl,Qov⟩;have hat:Q31 S W1 cb ⟨rb,ro,none⟩ ⟨tb,to,none⟩ (Qp (s.setBind (mi:Int) (mj:Int)) (m:Int) x (mi:Int)) (.slice (some ⟨g,0,none⟩) s.kinds.length kc) (.slice (some ⟨gb,0,none⟩) s.bind.length bc) lv tv wv w2:=⟨Qov.1,Qov.2.undrew⟩;dsimp only)));go_wp2_with fail;go_returns;rw[HX.o];exact⟨rfl,hat.1,((hk0.ofNob _).trans HR1.o).trans (hat.2.mono fun k _ hk=>hk▸hat.1.inS)⟩
theorem Qlx (h:J0 S w cb ⟨rb,ro,none⟩ ⟨tb,to,none⟩ s kv bv lv tv wv) (r:Reg) (hr:Qj S w fun w=>Xa w rb ro r)
  (i:Int) (n:Qn) (nk:Value) (h24:n.kind=24) :
  Calls prog 172 #[.pointer (some ⟨cb,0,none⟩),.int .i64 i,.agg #[.int .i64 n.kind,.string n.text,.int .i64 n.i,nk]] w fun e w'=>e=.returned (.tuple #[])∧Q31 S w cb ⟨rb,ro,none⟩ ⟨tb,to,none⟩ (J4 r s 1 n.text i).2 kv bv lv tv wv w':=by
 have hk0:Q0 nob w (w.alloc (.cells #[.int .i64 n.kind,.string n.text,.int .i64 n.i,nk] 70)):=(Kr _ _).alloc _;have H0:=Hh (h.nobk hk0);have HR:=Hh (hr.kept (hk0.ofNob S));rw[h24] at hk0 H0 HR ⊢;clear h hr h24;go_enter func172,ntmps172;go_wp2_with (go_at_call 199;refine (Q2z H0.o r HR.o.now _ _ _).mono ?_;rintro e w1 ⟨rfl,hat⟩);go_returns;exact⟨rfl,hat.1,(hk0.ofNob _).trans hat.2⟩
theorem Qhd (h:J0 S w cb ⟨rb,ro,none⟩ ⟨tb,to,none⟩ s kv bv lv tv wv)
  (i:Int) (n:Qn) (nk:Value) (h1:(n.kind==12)=false) (h2:(n.kind==13)=false) (h3:(n.kind==14)=false) (h4:(n.kind==15)=false) (h5:(n.kind==19)=false) (h6:(n.kind==23)=false) (h7:(n.kind==24)=false) :
  Calls prog 172 #[.pointer (some ⟨cb,0,none⟩),.int .i64 i,.agg #[.int .i64 n.kind,.string n.text,.int .i64 n.i,nk]] w fun e w'=>e=.returned (.tuple #[])∧Q31 S w cb ⟨rb,ro,none⟩ ⟨tb,to,none⟩ s kv bv lv tv wv w':=by
 have hk0:Q0 nob w (w.alloc (.cells #[.int .i64 n.kind,.string n.text,.int .i64 n.i,nk] 70)):=(Kr _ _).alloc _;have H0:=Hh (h.nobk hk0);clear h;go_enter func172,ntmps172;go_wp2_with fail;go_returns;exact⟨rfl,H0.o,hk0.ofNob _⟩
end
end Go.Proofs.YtkgkafjachjafaaGreat
