/- Part 5 of: FnExactPrune answers true; no condition. -/
import Derived.Test.YtkgkafjachjafaaGreatZ02
set_option linter.unusedVariables false
set_option maxHeartbeats 1000000
open Go Go.RowKit
namespace Go.Proofs.YtkgkafjachjafaaGreat
open Tryz
theorem Qcq {α:Type} (l:List α):l.isEmpty=((l.length:Int)==0):=by
 cases l with
 |nil=>rfl
 |cons a l=>rw[List.isEmpty_cons];symm;rw[beq_eq_false_iff_ne];simp only[List.length_cons];omega
section
variable {b o:Nat} {t:Q1} {n:Qc} {kv:Value} {w:World}
theorem Qg4 (ht:J7 w b o t) (hk:Qi w kv n.kids) (hb:∀k∈n.kids,0≤k∧k<t.nodes.length) (h:n.kind=27):Calls prog 123 #[.pointer (some ⟨b,o,none⟩),.agg #[.int .i64 n.kind,.string n.text,.int .i64 n.i,kv]] w fun e w'=>e=.returned (.bool (Je t n))∧Q0 nob w w':=by
 have HE:Hi (Je t n=Q1t t n.kids Zp):=Hh (by rw[Je,Ps h]);obtain⟨kA,kc,W0,rfl,hW0,hk0,HT,HK,HB,hr0,hkl,Qnd,s0,s1,s2,s3⟩:=Q1w ht hk hb;clear ht hk hb;generalize n.kind=K at *;subst h;go_enter func123,ntmps123;go_wp2_with (go_at_call 161;refine (Q41 b o t _ _ n.kids Zp _ HT.o HK.o (Qhi _) HB.o).mono ?_;rintro e w1 ⟨rfl,hk1⟩);go_ret;exact⟨Q6 HE.o.symm,hk0.trans hk1⟩
theorem Qgj (ht:J7 w b o t) (hk:Qi w kv n.kids) (hb:∀k∈n.kids,0≤k∧k<t.nodes.length) (h:n.kind=28):Calls prog 123 #[.pointer (some ⟨b,o,none⟩),.agg #[.int .i64 n.kind,.string n.text,.int .i64 n.i,kv]] w fun e w'=>e=.returned (.bool (Je t n))∧Q0 nob w w':=by
 have HE:Hi (Je t n=Qo t n.kids [Qs]):=Hh (by rw[Je,Ng (by omega),Ps h]);obtain⟨kA,kc,W0,rfl,hW0,hk0,HT,HK,HB,hr0,hkl,Qnd,s0,s1,s2,s3⟩:=Q1w ht hk hb;clear ht hk hb;generalize n.kind=K at *;subst h;go_enter func123,ntmps123;go_wp2_with (first|(go_at_call 163;refine (Zv _ _).mono ?_;rintro e w1 ⟨fv,rfl,Qn1,hk1⟩;obtain⟨ff,fcap,rfl,fhe,fhc⟩:=id Qn1;clear fhe fhc;dsimp only)|(go_at_call 162;refine (X3 b o t _ _ _ _ _ n.kids [_] _ (HT.o.old (Q0.old (by first|assumption|exact (Kr _ _).alloc _|exact Ka ‹_› _|exact Ka (Ku ‹_›) _|exact Ka (Kt ‹_› ‹_›) _|exact Ka (Kt (Ku ‹_›) ‹_›) _))) (HK.o.old (Q0.old (by first|assumption|exact (Kr _ _).alloc _|exact Ka ‹_› _|exact Ka (Ku ‹_›) _|exact Ka (Kt ‹_› ‹_›) _|exact Ka (Kt (Ku ‹_›) ‹_›) _))) (Qjg _ _ _ _ _ _ (Blk.new_of _ _ _ (by first|rfl|simp)) (by first|exact Jx _|exact Q01.old ‹_› (by first|assumption|exact (Kr _ _).alloc _|exact Ka ‹_› _|exact Ka (Ku ‹_›) _|exact Ka (Kt ‹_› ‹_›) _|exact Ka (Kt (Ku ‹_›) ‹_›) _))) HB.o).mono ?_;rintro e w1 ⟨rfl,hk1⟩;dsimp only));go_ret;exact⟨Q6 HE.o.symm,hk0.trans (Kt ((Kr _ _).alloc _) ‹_›)⟩
theorem Qgs (ht:J7 w b o t) (hk:Qi w kv n.kids) (hb:∀k∈n.kids,0≤k∧k<t.nodes.length) (h:n.kind=29) (hne:0<n.kids.length):Calls prog 123 #[.pointer (some ⟨b,o,none⟩),.agg #[.int .i64 n.kind,.string n.text,.int .i64 n.i,kv]] w fun e w'=>e=.returned (.bool (Je t n))∧Q0 nob w w':=by
 have HE:Hi (Je t n=Q1t t n.kids (isK 31)):=Hh (by rw[Je,Ng (by omega),Ng (by omega),Ps h];cases hh:n.kids<;>simp_all);have hd:decide ((0:Int)<(n.kids.length:Int))=true:=by simp;omega
 obtain⟨kA,kc,W0,rfl,hW0,hk0,HT,HK,HB,hr0,hkl,Qnd,s0,s1,s2,s3⟩:=Q1w ht hk hb;clear ht hk hb;generalize n.kind=K at *;subst h;go_enter func123,ntmps123;go_wp2;go_region_held3 (fun W=>Q0 nob W0 W) (first|assumption|exact hr0.drew|exact Kd ‹_›|exact Kt ‹_› ‹_›|exact Ka ‹_› _|exact Kt (Ka ‹_› _) ‹_›) (first|(go_at_call 163;refine (Zv _ _).mono ?_;rintro e w1 ⟨fv,rfl,Qn1,hk1⟩;obtain⟨ff,fcap,rfl,fhe,fhc⟩:=id Qn1;clear fhe fhc;dsimp only)|(go_at_call 161;refine (Q41 b o t _ _ n.kids _ _ (HT.o.old (Q0.old ‹_›)) (HK.o.old (Q0.old ‹_›)) ‹_› HB.o).mono ?_;rintro e w1 ⟨rfl,hk1⟩;dsimp only))
 all_goals
  go_wp2;go_ret;exact⟨Q6 HE.o.symm,hk0.trans ‹_›⟩
theorem Qdw (ht:J7 w b o t) (hk:Qi w kv n.kids) (hb:∀k∈n.kids,0≤k∧k<t.nodes.length) (h:n.kind=29) (hne:¬ 0<n.kids.length):Calls prog 123 #[.pointer (some ⟨b,o,none⟩),.agg #[.int .i64 n.kind,.string n.text,.int .i64 n.i,kv]] w fun e w'=>e=.returned (.bool (Je t n))∧Q0 nob w w':=by
 have HE:Hi (Je t n=false):=Hh (by rw[Je,Ng (by omega),Ng (by omega),Ps h];cases hh:n.kids<;>simp_all);have hd:decide ((0:Int)<(n.kids.length:Int))=false:=Df (by omega);obtain⟨kA,kc,W0,rfl,hW0,hk0,HT,HK,HB,hr0,hkl,Qnd,s0,s1,s2,s3⟩:=Q1w ht hk hb;clear ht hk hb;generalize n.kind=K at *;subst h;go_enter func123,ntmps123;go_wp2;go_quiet (fail);go_wp2;go_ret;exact⟨Q6 HE.o.symm,hk0.drewN _⟩
theorem Qfr (ht:J7 w b o t) (hk:Qi w kv n.kids) (hb:∀k∈n.kids,0≤k∧k<t.nodes.length) (h:n.kind=30):Calls prog 123 #[.pointer (some ⟨b,o,none⟩),.agg #[.int .i64 n.kind,.string n.text,.int .i64 n.i,kv]] w fun e w'=>e=.returned (.bool (Je t n))∧Q0 nob w w':=by
 have HE:Hi (Je t n=Q1t t n.kids (isK 31)):=Hh (by rw[Je,Ng (by omega),Ng (by omega),Ng (by omega),Ps h]);obtain⟨kA,kc,W0,rfl,hW0,hk0,HT,HK,HB,hr0,hkl,Qnd,s0,s1,s2,s3⟩:=Q1w ht hk hb;clear ht hk hb;generalize n.kind=K at *;subst h;go_enter func123,ntmps123;go_wp2;go_region_held3 (fun W=>Q0 nob W0 W) (first|assumption|exact hr0.drew|exact Kd ‹_›|exact Kt ‹_› ‹_›|exact Ka ‹_› _|exact Kt (Ka ‹_› _) ‹_›) (first|(go_at_call 163;refine (Zv _ _).mono ?_;rintro e w1 ⟨fv,rfl,Qn1,hk1⟩;obtain⟨ff,fcap,rfl,fhe,fhc⟩:=id Qn1;clear fhe fhc;dsimp only)|(go_at_call 161;refine (Q41 b o t _ _ n.kids _ _ (HT.o.old (Q0.old ‹_›)) (HK.o.old (Q0.old ‹_›)) ‹_› HB.o).mono ?_;rintro e w1 ⟨rfl,hk1⟩;dsimp only))
 all_goals
  go_wp2;go_ret;exact⟨Q6 HE.o.symm,hk0.trans ‹_›⟩
theorem Qam (ht:J7 w b o t) (hk:Qi w kv n.kids) (hb:∀k∈n.kids,0≤k∧k<t.nodes.length) (h:n.kind=31∨n.kind=32):Calls prog 123 #[.pointer (some ⟨b,o,none⟩),.agg #[.int .i64 n.kind,.string n.text,.int .i64 n.i,kv]] w fun e w'=>e=.returned (.bool (Je t n))∧Q0 nob w w':=by
 have HE:Hi (Je t n=((n.kids.length:Int)==0)):=Hh (by rw[Je,Ng (by omega),Ng (by omega),Ng (by omega),Ng (by omega),Ps h];exact Qcq _);obtain⟨kA,kc,W0,rfl,hW0,hk0,HT,HK,HB,hr0,hkl,Qnd,s0,s1,s2,s3⟩:=Q1w ht hk hb;clear ht hk hb;generalize n.kind=K at *;rcases h with h|h<;>subst h
 all_goals
  go_enter func123,ntmps123;go_wp2;go_ret;exact⟨Q6 HE.o.symm,hk0⟩
theorem Qg8 (ht:J7 w b o t) (hk:Qi w kv n.kids) (hb:∀k∈n.kids,0≤k∧k<t.nodes.length) (h:n.kind=34):Calls prog 123 #[.pointer (some ⟨b,o,none⟩),.agg #[.int .i64 n.kind,.string n.text,.int .i64 n.i,kv]] w fun e w'=>e=.returned (.bool (Je t n))∧Q0 nob w w':=by
 have HE:Hi (Je t n=Qo t n.kids [isK 27]):=Hh (by rw[Je,Ng (by omega),Ng (by omega),Ng (by omega),Ng (by omega),Ng (by omega),Ng (by omega),Ps h]);obtain⟨kA,kc,W0,rfl,hW0,hk0,HT,HK,HB,hr0,hkl,Qnd,s0,s1,s2,s3⟩:=Q1w ht hk hb;clear ht hk hb;generalize n.kind=K at *;subst h;go_enter func123,ntmps123;go_wp2;go_region_held3 (fun W=>Q0 nob W0 W) (first|assumption|exact hr0.drew|exact Kd ‹_›|exact Kt ‹_› ‹_›|exact Ka ‹_› _|exact Kt (Ka ‹_› _) ‹_›) (first|(go_at_call 163;refine (Zv _ _).mono ?_;rintro e w1 ⟨fv,rfl,Qn1,hk1⟩;obtain⟨ff,fcap,rfl,fhe,fhc⟩:=id Qn1;clear fhe fhc;dsimp only)|(go_at_call 162;refine (X3 b o t _ _ _ _ _ n.kids [_] _ (HT.o.old (Q0.old (by first|assumption|exact (Kr _ _).alloc _|exact Ka ‹_› _|exact Ka (Ku ‹_›) _|exact Ka (Kt ‹_› ‹_›) _|exact Ka (Kt (Ku ‹_›) ‹_›) _))) (HK.o.old (Q0.old (by first|assumption|exact (Kr _ _).alloc _|exact Ka ‹_› _|exact Ka (Ku ‹_›) _|exact Ka (Kt ‹_› ‹_›) _|exact Ka (Kt (Ku ‹_›) ‹_›) _))) (Qjg _ _ _ _ _ _ (Blk.new_of _ _ _ (by first|rfl|simp)) (by first|exact Jx _|exact Q01.old ‹_› (by first|assumption|exact (Kr _ _).alloc _|exact Ka ‹_› _|exact Ka (Ku ‹_›) _|exact Ka (Kt ‹_› ‹_›) _|exact Ka (Kt (Ku ‹_›) ‹_›) _))) HB.o).mono ?_;rintro e w1 ⟨rfl,hk1⟩;dsimp only))
 all_goals
  go_wp2;go_ret;exact⟨Q6 HE.o.symm,hk0.trans ‹_›⟩
theorem Qh8 (ht:J7 w b o t) (hk:Qi w kv n.kids) (hb:∀k∈n.kids,0≤k∧k<t.nodes.length) (h1:n.kind≠27) (h2:n.kind≠28) (h3:n.kind≠29) (h4:n.kind≠30) (h5:n.kind≠31) (h6:n.kind≠32) (h7:n.kind≠33) (h8:n.kind≠34):Calls prog 123 #[.pointer (some ⟨b,o,none⟩),.agg #[.int .i64 n.kind,.string n.text,.int .i64 n.i,kv]] w fun e w'=>e=.returned (.bool (Je t n))∧Q0 nob w w':=by
 have HE:Hi (Je t n=false):=Hh (by rw[Je,Ng (by omega),Ng (by omega),Ng (by omega),Ng (by omega),Ng (by omega),Ng (by omega),Ng (by omega)]);have g1:(n.kind==27)=false:=by simpa using h1
 have g2:(n.kind==28)=false:=by simpa using h2
 have g3:(n.kind==29)=false:=by simpa using h3
 have g4:(n.kind==30)=false:=by simpa using h4
 have g5:(n.kind==31)=false:=by simpa using h5
 have g6:(n.kind==32)=false:=by simpa using h6
 have g7:(n.kind==33)=false:=by simpa using h7
 have g8:(n.kind==34)=false:=by simpa using h8
 obtain⟨kA,kc,W0,rfl,hW0,hk0,HT,HK,HB,hr0,hkl,Qnd,s0,s1,s2,s3⟩:=Q1w ht hk hb;clear ht hk hb;generalize n.kind=K at *;go_enter func123,ntmps123;go_wp2;go_ret;exact⟨Q6 HE.o.symm,hk0⟩
theorem Qdr (ht:J7 w b o t) (hk:Qi w kv n.kids) (hb:∀k∈n.kids,0≤k∧k<t.nodes.length) (h:n.kind=33) (hne:n.kids=[]):Calls prog 123 #[.pointer (some ⟨b,o,none⟩),.agg #[.int .i64 n.kind,.string n.text,.int .i64 n.i,kv]] w fun e w'=>e=.returned (.bool (Je t n))∧Q0 nob w w':=by
 have HE:Hi (Je t n=false):=Hh (by rw[Je,Ng (by omega),Ng (by omega),Ng (by omega),Ng (by omega),Ng (by omega),Ps h,hne];rfl);have hl:n.kids.length=0:=by rw[hne];rfl
 have HL:=Hh hl;have hd:decide ((0:Int)≤(n.kids.length:Int)-1)=false:=by rw[hl];rfl
 have hd2:decide ((1:Int)≤(n.kids.length:Int))=false:=by rw[hl];rfl
 clear hl hne;obtain⟨kA,kc,W0,rfl,hW0,hk0,HT,HK,HB,hr0,hkl,Qnd,s0,s1,s2,s3⟩:=Q1w ht hk hb;clear ht hk hb;generalize n.kind=K at *;subst h;go_enter func123,ntmps123;go_wp2;go_quiet (fail);go_wp2;go_ret;exact⟨Q6 HE.o.symm,hk0.drewN _⟩
theorem Qhv (ht:J7 w b o t) (l:Int) (ks:List Int) (hks:n.kids=ks++[l]) (hk:Qi w kv n.kids) (hb:∀k∈n.kids,0≤k∧k<t.nodes.length) (h:n.kind=33) (pa:Bool) (hpa:Q1t t ks (isK 32)=pa) :
  Calls prog 123 #[.pointer (some ⟨b,o,none⟩),.agg #[.int .i64 n.kind,.string n.text,.int .i64 n.i,kv]] w fun e w'=>e=.returned (.bool (Je t n))∧Q0 nob w w':=by
 obtain⟨g1,g2⟩:=hb l (by rw[hks];simp);obtain⟨m,rfl⟩:=En g1;obtain⟨n0,hn⟩:=Q3 (xs:=t.nodes) (j:=m) (by omega)
 have HE:Hi (Je t n=(pa&&(n0.kind==27))):=Hh (by
  rw[Je,Ng (by omega),Ng (by omega),Ng (by omega),Ng (by omega),Ng (by omega),Ps h,hks];simp[hpa,Q1.at_of hn,isK])
 have HPA:=Hh hpa;have Qmr:n.kids.length=ks.length+1:=by rw[hks];simp
 have HB2:Hi (∀k∈ks,0≤k∧k<t.nodes.length):=Hh (fun k hk=>hb k (by rw[hks];exact List.mem_append_left _ hk));clear hpa;obtain⟨nv,tv,h0,h1,⟨nA,nb,no,nc,rfl,hnl,Qom,hnA,hnc⟩,h3⟩:=id ht;obtain⟨kA,kb,ko,kc,rfl,hkl,Qnd,hkA,hkc⟩:=id hk;obtain rfl:=hnA (by omega);obtain rfl:=hkA (by omega);obtain⟨nkv,q0,-⟩:=hnc m n0 hn;have c0:=hkc ks.length m (by rw[hks];simp)
 have HR:Hi (Qi w (.slice (some ⟨kb,ko,none⟩) ks.length kc) ks):=Hh
  ⟨_,kb,ko,kc,rfl,by omega,by omega,fun _=>rfl,fun j x hj=>hkc j x (by
   rw[hks,List.getElem?_append_left (Gs hj).1];exact hj)⟩
 have HL:=Hh Qmr;generalize n.kids.length=L at *;generalize ks.length=L1 at *;obtain rfl:=Qmr;generalize hW0:w.alloc (.cells #[.int .i64 n.kind,.string n.text,.int .i64 n.i,.slice (some ⟨kb,ko,none⟩) (L1+1) kc] 70)=W0;have hk0:Q0 nob w W0:=hW0▸(Kr _ _).alloc _;have hbl:Blk W0 w.heap.size [.int .i64 n.kind,.string n.text,.int .i64 n.i,.slice (some ⟨kb,ko,none⟩) (L1+1) kc] 70:=hW0▸Blk.new _ _ _;have HT:=Hh (ht.old hk0.old);have HK:=Hh (Qi.old HR.o hk0.old);have hr0:=Kr nob W0;have s0:∀W,Q0 nob W0 W→W.cell? ⟨w.heap.size,0,none⟩=some (.int .i64 n.kind):=fun W h=>h.cell (fun h=>h) (hbl.cell 0 _ rfl)
 have s3:∀W,Q0 nob W0 W→W.cell? ⟨w.heap.size,3,none⟩=some (.slice (some ⟨kb,ko,none⟩) (L1+1) kc):=fun W h=>h.cell (fun h=>h) (hbl.cell 3 _ rfl)
 have s4:∀W,Q0 nob W0 W→W.cell? ⟨b,o,none⟩=some (.slice (some ⟨nb,no,none⟩) t.nodes.length nc):=fun W h=>h.cell (fun h=>h) (hk0.cell (fun h=>h) h0)
 have s5:∀W,Q0 nob W0 W→W.cell? ⟨kb,ko+L1,none⟩=some (.int .i64 (m:Int)):=fun W h=>h.cell (fun h=>h) (hk0.cell (fun h=>h) c0)
 have s6:∀W,Q0 nob W0 W→W.cell? ⟨nb,no+m*4,none⟩=some (.int .i64 n0.kind):=fun W h=>h.cell (fun h=>h) (hk0.cell (fun h=>h) q0)
 have hd:decide ((0:Int)≤(L1:Int))=true:=by simp
 have hm0:(0:Int)≤(m:Int):=by omega
 have hl0:(0:Int)≤(L1:Int):=by omega
 have hl1:(L1:Int)<(L1:Int)+1:=by omega
 have hl2:(L1:Int)≤(kc:Int):=by omega
 have HQ:Hi (W0.cell? ⟨b,o,none⟩=some (.slice (some ⟨nb,no,none⟩) t.nodes.length nc)):=Hh (s4 _ hr0);clear ht hk hb hbl hkc hnc h3 h1 hn hks hkA hnA h0 q0 c0;generalize n.kind=K at *;subst h;cases pa with
 |true =>
  go_enter func123,ntmps123;go_wp2;go_region_held3 (fun W=>Q0 nob W0 W) (first|assumption|exact hr0.drew|exact Kd ‹_›|exact Kt ‹_› ‹_›|exact Ka ‹_› _|exact Kt (Ka ‹_› _) ‹_›) (first|(go_at_call 163;refine (Zv _ _).mono ?_;rintro e w1 ⟨fv,rfl,Qn1,hk1⟩;obtain⟨ff,fcap,rfl,fhe,fhc⟩:=id Qn1;clear fhe fhc;dsimp only)|(go_at_call 161;refine (Q41 b o t _ _ ks _ _ (HT.o.old (Q0.old ‹_›)) (HK.o.old (Q0.old ‹_›)) ‹_› HB2.o).mono ?_;rw[HPA.o];rintro e w1 ⟨rfl,hk1⟩;dsimp only))
  all_goals
   go_wp2;go_ret;exact⟨Q6 HE.o.symm,hk0.trans ‹_›⟩
 |false =>
  go_enter func123,ntmps123;go_wp2
  refine wp_region_held_drew (S:=(fun W=>Q0 nob W0 W)) (by kernel_rfl) ?_ (fun hHeld=>?_)
  ·(try dsimp only);((first|assumption|exact hr0.drew|exact Kd ‹_›|exact Kt ‹_› ‹_›|exact Ka ‹_› _|exact Kt (Ka ‹_› _) ‹_›))
  refine wpAnyH_take (i:=0) (oi:={dst:=some 53,op:=Go.Op.move (Go.Operand.tmp 5),type:=3,pos:= "l08_parse.go:658",after:=#[],guard:=none}) (v:=?_) rfl (by kernel_rfl) (by kernel_rfl) (by kernel_rfl) (fun _ _ _ h=>h) (Or.inl ⟨by rfl,?_⟩) ‹_› ?_;rotate_left;· (intro w hSw;(try dsimp only at hSw);go_simp;try (with_reducible rfl))
  try simp only[Act.put,List.setIfInBounds_toArray,List.set_cons_zero,List.set_cons_succ]
  refine wpAnyH_take (i:=1) (oi:={dst:=some 54,op:=Go.Op.binOp Go.BinOp.geq 3 (Go.Operand.tmp 53) (Go.Operand.const (Go.Value.int Go.IntKind.i64 0)) 3,type:=4,pos:= "l08_parse.go:658",after:=#[{on:=0,ground:=Go.Ground.data}],guard:=none}) (v:=?_) rfl (by kernel_rfl) (by kernel_rfl) (by kernel_rfl) (fun _ _ _ h=>h) (Or.inl ⟨by rfl,?_⟩) ‹_› ?_;rotate_left;· (intro w hSw;(try dsimp only at hSw);go_simp;try (with_reducible rfl))
  try simp only[Act.put,List.setIfInBounds_toArray,List.set_cons_zero,List.set_cons_succ]
  refine wpAnyH_take (i:=2) (oi:={dst:=some 55,op:=Go.Op.move (Go.Operand.tmp 54),type:=4,pos:= "l08_parse.go:658",after:=#[{on:=1,ground:=Go.Ground.data}],guard:=none}) (v:=?_) rfl (by kernel_rfl) (by kernel_rfl) (by kernel_rfl) (fun _ _ _ h=>h) (Or.inl ⟨by rfl,?_⟩) ‹_› ?_;rotate_left;· (intro w hSw;(try dsimp only at hSw);go_simp;try (with_reducible rfl))
  try simp only[Act.put,List.setIfInBounds_toArray,List.set_cons_zero,List.set_cons_succ]
  first
   |(refine wpAnyH_take (i:=3) (oi:={dst:=some 56,op:=Go.Op.move (Go.Operand.tmp 0),type:=77,pos:= "l08_parse.go:658",after:=#[{on:=2,ground:=Go.Ground.guard}],guard:=some (2,true)}) (v:=undef) rfl (by kernel_rfl) (by kernel_rfl) (by kernel_rfl) (fun _ _ _ h=>h) (Or.inr ⟨by rfl,rfl⟩) ‹_› ?_)
   |(refine wpAnyH_take (i:=3) (oi:={dst:=some 56,op:=Go.Op.move (Go.Operand.tmp 0),type:=77,pos:= "l08_parse.go:658",after:=#[{on:=2,ground:=Go.Ground.guard}],guard:=some (2,true)}) (v:=?_) rfl (by kernel_rfl) (by kernel_rfl) (by kernel_rfl) (fun _ _ _ h=>h) (Or.inl ⟨by rfl,?_⟩) ‹_› ?_;rotate_left;· (intro w hSw;(try dsimp only at hSw);go_simp;try (with_reducible rfl)))
  try simp only[Act.put,List.setIfInBounds_toArray,List.set_cons_zero,List.set_cons_succ]
  first
   |(refine wpAnyH_take (i:=4) (oi:={dst:=some 57,op:=Go.Op.fieldAddr 70 (Go.Operand.tmp 3) 3,type:=0,pos:= "l08_parse.go:658",after:=#[{on:=2,ground:=Go.Ground.guard}],guard:=some (2,true)}) (v:=undef) rfl (by kernel_rfl) (by kernel_rfl) (by kernel_rfl) (fun _ _ _ h=>h) (Or.inr ⟨by rfl,rfl⟩) ‹_› ?_)
   |(refine wpAnyH_take (i:=4) (oi:={dst:=some 57,op:=Go.Op.fieldAddr 70 (Go.Operand.tmp 3) 3,type:=0,pos:= "l08_parse.go:658",after:=#[{on:=2,ground:=Go.Ground.guard}],guard:=some (2,true)}) (v:=?_) rfl (by kernel_rfl) (by kernel_rfl) (by kernel_rfl) (fun _ _ _ h=>h) (Or.inl ⟨by rfl,?_⟩) ‹_› ?_;rotate_left;· (intro w hSw;(try dsimp only at hSw);go_simp;try (with_reducible rfl)))
  try simp only[Act.put,List.setIfInBounds_toArray,List.set_cons_zero,List.set_cons_succ]
  first
   |(refine wpAnyH_take (i:=5) (oi:={dst:=some 58,op:=Go.Op.load 26 (Go.Operand.tmp 57),type:=26,pos:= "l08_parse.go:658",after:=#[{on:=4,ground:=Go.Ground.data},{on:=2,ground:=Go.Ground.guard}],guard:=some (2,true)}) (v:=undef) rfl (by kernel_rfl) (by kernel_rfl) (by kernel_rfl) (fun _ _ _ h=>h) (Or.inr ⟨by rfl,rfl⟩) ‹_› ?_)
   |(refine wpAnyH_take (i:=5) (oi:={dst:=some 58,op:=Go.Op.load 26 (Go.Operand.tmp 57),type:=26,pos:= "l08_parse.go:658",after:=#[{on:=4,ground:=Go.Ground.data},{on:=2,ground:=Go.Ground.guard}],guard:=some (2,true)}) (v:=?_) rfl (by kernel_rfl) (by kernel_rfl) (by kernel_rfl) (fun _ _ _ h=>h) (Or.inl ⟨by rfl,?_⟩) ‹_› ?_;rotate_left;· (intro w hSw;(try dsimp only at hSw);go_simp;try (with_reducible rfl)))
  try simp only[Act.put,List.setIfInBounds_toArray,List.set_cons_zero,List.set_cons_succ]
  first
   |(refine wpAnyH_take (i:=6) (oi:={dst:=some 59,op:=Go.Op.move (Go.Operand.tmp 5),type:=3,pos:= "l08_parse.go:658",after:=#[{on:=2,ground:=Go.Ground.guard}],guard:=some (2,true)}) (v:=undef) rfl (by kernel_rfl) (by kernel_rfl) (by kernel_rfl) (fun _ _ _ h=>h) (Or.inr ⟨by rfl,rfl⟩) ‹_› ?_)
   |(refine wpAnyH_take (i:=6) (oi:={dst:=some 59,op:=Go.Op.move (Go.Operand.tmp 5),type:=3,pos:= "l08_parse.go:658",after:=#[{on:=2,ground:=Go.Ground.guard}],guard:=some (2,true)}) (v:=?_) rfl (by kernel_rfl) (by kernel_rfl) (by kernel_rfl) (fun _ _ _ h=>h) (Or.inl ⟨by rfl,?_⟩) ‹_› ?_;rotate_left;· (intro w hSw;(try dsimp only at hSw);go_simp;try (with_reducible rfl)))
  try simp only[Act.put,List.setIfInBounds_toArray,List.set_cons_zero,List.set_cons_succ]
  first
   |(refine wpAnyH_take (i:=7) (oi:={dst:=some 60,op:=Go.Op.slice 26 (Go.Operand.tmp 58) none (some (Go.Operand.tmp 59)) none,type:=26,pos:= "l08_parse.go:658",after:=#[{on:=5,ground:=Go.Ground.data},{on:=6,ground:=Go.Ground.data},{on:=2,ground:=Go.Ground.guard}],guard:=some (2,true)}) (v:=undef) rfl (by kernel_rfl) (by kernel_rfl) (by kernel_rfl) (fun _ _ _ h=>h) (Or.inr ⟨by rfl,rfl⟩) ‹_› ?_)
   |(refine wpAnyH_take (i:=7) (oi:={dst:=some 60,op:=Go.Op.slice 26 (Go.Operand.tmp 58) none (some (Go.Operand.tmp 59)) none,type:=26,pos:= "l08_parse.go:658",after:=#[{on:=5,ground:=Go.Ground.data},{on:=6,ground:=Go.Ground.data},{on:=2,ground:=Go.Ground.guard}],guard:=some (2,true)}) (v:=?_) rfl (by kernel_rfl) (by kernel_rfl) (by kernel_rfl) (fun _ _ _ h=>h) (Or.inl ⟨by rfl,?_⟩) ‹_› ?_;rotate_left;· (intro w hSw;(try dsimp only at hSw);go_simp;try (with_reducible rfl)))
  try simp only[Act.put,List.setIfInBounds_toArray,List.set_cons_zero,List.set_cons_succ]
  refine wpAnyH_ready (rs:=[8]) (by kernel_rfl) (by simp) ?_
  refine AllReadyH.cons (o:={dst:=some 61,op:=Go.Op.call {callee:=Go.Callee.value (Go.Operand.func 163),args:=#[Go.Operand.const (Go.Value.int Go.IntKind.i64 32)],argTypes:=#[3]},type:=140,pos:= "l08_parse.go:658",after:=#[{on:=2,ground:=Go.Ground.chain},{on:=2,ground:=Go.Ground.guard}],guard:=some (2,true)}) rfl (fun K hK=>?_) AllReadyH.nil
  go_simp
  (first|(go_at_call 163;refine (Zv _ _).mono ?_;rintro e w1 ⟨fv,rfl,Qn1,hk1⟩;obtain⟨ff,fcap,rfl,fhe,fhc⟩:=id Qn1;clear fhe fhc;dsimp only)|(go_at_call 161;refine (Q41 b o t _ _ ks _ _ (HT.o.old (Q0.old ‹_›)) (HK.o.old (Q0.old ‹_›)) ‹_› HB2.o).mono ?_;rw[HPA.o];rintro e w1 ⟨rfl,hk1⟩;dsimp only))
  refine hK.out _ _ ?_ (fun hHeld=>?_)
  ·(try dsimp only);((first|assumption|exact hr0.drew|exact Kd ‹_›|exact Kt ‹_› ‹_›|exact Ka ‹_› _|exact Kt (Ka ‹_› _) ‹_›))
  clear hK;refine wpAnyH_ready (rs:=[9]) (by kernel_rfl) (by simp) ?_
  refine AllReadyH.cons (o:={dst:=some 62,op:=Go.Op.call {callee:=Go.Callee.value (Go.Operand.func 161),args:=#[Go.Operand.tmp 56,Go.Operand.tmp 60,Go.Operand.tmp 61],argTypes:=#[77,26,140]},type:=4,pos:= "l08_parse.go:658",after:=#[{on:=3,ground:=Go.Ground.data},{on:=7,ground:=Go.Ground.data},{on:=8,ground:=Go.Ground.data},{on:=8,ground:=Go.Ground.chain},{on:=2,ground:=Go.Ground.guard}],guard:=some (2,true)}) rfl (fun K hK=>?_) AllReadyH.nil
  go_simp
  (first|(go_at_call 163;refine (Zv _ _).mono ?_;rintro e w1 ⟨fv,rfl,Qn1,hk1⟩;obtain⟨ff,fcap,rfl,fhe,fhc⟩:=id Qn1;clear fhe fhc;dsimp only)|(go_at_call 161;refine (Q41 b o t _ _ ks _ _ (HT.o.old (Q0.old ‹_›)) (HK.o.old (Q0.old ‹_›)) ‹_› HB2.o).mono ?_;rw[HPA.o];rintro e w1 ⟨rfl,hk1⟩;dsimp only))
  refine hK.out _ _ ?_ (fun hHeld=>?_)
  ·(try dsimp only);((first|assumption|exact hr0.drew|exact Kd ‹_›|exact Kt ‹_› ‹_›|exact Ka ‹_› _|exact Kt (Ka ‹_› _) ‹_›))
  clear hK
  refine wpAnyH_take (i:=10) (oi:={dst:=some 63,op:=Go.Op.pick (Go.Operand.tmp 55) (Go.Operand.tmp 62) (Go.Operand.const (Go.Value.bool false)),type:=4,pos:= "l08_parse.go:658",after:=#[{on:=2,ground:=Go.Ground.data},{on:=9,ground:=Go.Ground.data}],guard:=none}) (v:=?_) rfl (by kernel_rfl) (by kernel_rfl) (by kernel_rfl) (fun _ _ _ h=>h) (Or.inl ⟨by rfl,?_⟩) ‹_› ?_;rotate_left;· (intro w hSw;(try dsimp only at hSw);go_simp;try (with_reducible rfl))
  try simp only[Act.put,List.setIfInBounds_toArray,List.set_cons_zero,List.set_cons_succ]
  refine wpAnyH_take (i:=11) (oi:={dst:=some 64,op:=Go.Op.move (Go.Operand.tmp 63),type:=4,pos:= "l08_parse.go:658",after:=#[{on:=10,ground:=Go.Ground.data},{on:=9,ground:=Go.Ground.chain}],guard:=none}) (v:=?_) rfl (by kernel_rfl) (by kernel_rfl) (by kernel_rfl) (fun _ _ _ h=>h) (Or.inl ⟨by rfl,?_⟩) ‹_› ?_;rotate_left;· (intro w hSw;(try dsimp only at hSw);go_simp;try (with_reducible rfl))
  try simp only[Act.put,List.setIfInBounds_toArray,List.set_cons_zero,List.set_cons_succ]
  first
   |(refine wpAnyH_take (i:=12) (oi:={dst:=some 65,op:=Go.Op.move (Go.Operand.tmp 0),type:=77,pos:= "l08_parse.go:658",after:=#[{on:=11,ground:=Go.Ground.guard}],guard:=some (11,true)}) (v:=undef) rfl (by kernel_rfl) (by kernel_rfl) (by kernel_rfl) (fun _ _ _ h=>h) (Or.inr ⟨by rfl,rfl⟩) ‹_› ?_)
   |(refine wpAnyH_take (i:=12) (oi:={dst:=some 65,op:=Go.Op.move (Go.Operand.tmp 0),type:=77,pos:= "l08_parse.go:658",after:=#[{on:=11,ground:=Go.Ground.guard}],guard:=some (11,true)}) (v:=?_) rfl (by kernel_rfl) (by kernel_rfl) (by kernel_rfl) (fun _ _ _ h=>h) (Or.inl ⟨by rfl,?_⟩) ‹_› ?_;rotate_left;· (intro w hSw;(try dsimp only at hSw);go_simp;try (with_reducible rfl)))
  try simp only[Act.put,List.setIfInBounds_toArray,List.set_cons_zero,List.set_cons_succ]
  first
   |(refine wpAnyH_take (i:=13) (oi:={dst:=some 66,op:=Go.Op.nilCheck (Go.Operand.tmp 65),type:=0,pos:= "l08_parse.go:658",after:=#[{on:=12,ground:=Go.Ground.data},{on:=11,ground:=Go.Ground.guard}],guard:=some (11,true)}) (v:=undef) rfl (by kernel_rfl) (by kernel_rfl) (by kernel_rfl) (fun _ _ _ h=>h) (Or.inr ⟨by rfl,rfl⟩) ‹_› ?_)
   |(refine wpAnyH_take (i:=13) (oi:={dst:=some 66,op:=Go.Op.nilCheck (Go.Operand.tmp 65),type:=0,pos:= "l08_parse.go:658",after:=#[{on:=12,ground:=Go.Ground.data},{on:=11,ground:=Go.Ground.guard}],guard:=some (11,true)}) (v:=?_) rfl (by kernel_rfl) (by kernel_rfl) (by kernel_rfl) (fun _ _ _ h=>h) (Or.inl ⟨by rfl,?_⟩) ‹_› ?_;rotate_left;· (intro w hSw;(try dsimp only at hSw);go_simp;try (with_reducible rfl)))
  try simp only[Act.put,List.setIfInBounds_toArray,List.set_cons_zero,List.set_cons_succ]
  first
   |(refine wpAnyH_take (i:=14) (oi:={dst:=some 67,op:=Go.Op.fieldAddr 33 (Go.Operand.tmp 66) 0,type:=0,pos:= "l08_parse.go:658",after:=#[{on:=13,ground:=Go.Ground.data},{on:=11,ground:=Go.Ground.guard}],guard:=some (11,true)}) (v:=undef) rfl (by kernel_rfl) (by kernel_rfl) (by kernel_rfl) (fun _ _ _ h=>h) (Or.inr ⟨by rfl,rfl⟩) ‹_› ?_)
   |(refine wpAnyH_take (i:=14) (oi:={dst:=some 67,op:=Go.Op.fieldAddr 33 (Go.Operand.tmp 66) 0,type:=0,pos:= "l08_parse.go:658",after:=#[{on:=13,ground:=Go.Ground.data},{on:=11,ground:=Go.Ground.guard}],guard:=some (11,true)}) (v:=?_) rfl (by kernel_rfl) (by kernel_rfl) (by kernel_rfl) (fun _ _ _ h=>h) (Or.inl ⟨by rfl,?_⟩) ‹_› ?_;rotate_left;· (intro w hSw;(try dsimp only at hSw);go_simp;try (with_reducible rfl)))
  try simp only[Act.put,List.setIfInBounds_toArray,List.set_cons_zero,List.set_cons_succ]
  first
   |(refine wpAnyH_take (i:=15) (oi:={dst:=some 68,op:=Go.Op.load 31 (Go.Operand.tmp 67),type:=31,pos:= "l08_parse.go:658",after:=#[{on:=14,ground:=Go.Ground.data},{on:=11,ground:=Go.Ground.guard}],guard:=some (11,true)}) (v:=undef) rfl (by kernel_rfl) (by kernel_rfl) (by kernel_rfl) (fun _ _ _ h=>h) (Or.inr ⟨by rfl,rfl⟩) ‹_› ?_)
   |(refine wpAnyH_take (i:=15) (oi:={dst:=some 68,op:=Go.Op.load 31 (Go.Operand.tmp 67),type:=31,pos:= "l08_parse.go:658",after:=#[{on:=14,ground:=Go.Ground.data},{on:=11,ground:=Go.Ground.guard}],guard:=some (11,true)}) (v:=?_) rfl (by kernel_rfl) (by kernel_rfl) (by kernel_rfl) (fun _ _ _ h=>h) (Or.inl ⟨by rfl,?_⟩) ‹_› ?_;rotate_left;· (intro w hSw;(try dsimp only at hSw);go_simp;try (with_reducible rfl)))
  try simp only[Act.put,List.setIfInBounds_toArray,List.set_cons_zero,List.set_cons_succ]
  first
   |(refine wpAnyH_take (i:=16) (oi:={dst:=some 69,op:=Go.Op.fieldAddr 70 (Go.Operand.tmp 3) 3,type:=0,pos:= "l08_parse.go:658",after:=#[{on:=11,ground:=Go.Ground.guard}],guard:=some (11,true)}) (v:=undef) rfl (by kernel_rfl) (by kernel_rfl) (by kernel_rfl) (fun _ _ _ h=>h) (Or.inr ⟨by rfl,rfl⟩) ‹_› ?_)
   |(refine wpAnyH_take (i:=16) (oi:={dst:=some 69,op:=Go.Op.fieldAddr 70 (Go.Operand.tmp 3) 3,type:=0,pos:= "l08_parse.go:658",after:=#[{on:=11,ground:=Go.Ground.guard}],guard:=some (11,true)}) (v:=?_) rfl (by kernel_rfl) (by kernel_rfl) (by kernel_rfl) (fun _ _ _ h=>h) (Or.inl ⟨by rfl,?_⟩) ‹_› ?_;rotate_left;· (intro w hSw;(try dsimp only at hSw);go_simp;try (with_reducible rfl)))
  try simp only[Act.put,List.setIfInBounds_toArray,List.set_cons_zero,List.set_cons_succ]
  first
   |(refine wpAnyH_take (i:=17) (oi:={dst:=some 70,op:=Go.Op.load 26 (Go.Operand.tmp 69),type:=26,pos:= "l08_parse.go:658",after:=#[{on:=16,ground:=Go.Ground.data},{on:=11,ground:=Go.Ground.guard}],guard:=some (11,true)}) (v:=undef) rfl (by kernel_rfl) (by kernel_rfl) (by kernel_rfl) (fun _ _ _ h=>h) (Or.inr ⟨by rfl,rfl⟩) ‹_› ?_)
   |(refine wpAnyH_take (i:=17) (oi:={dst:=some 70,op:=Go.Op.load 26 (Go.Operand.tmp 69),type:=26,pos:= "l08_parse.go:658",after:=#[{on:=16,ground:=Go.Ground.data},{on:=11,ground:=Go.Ground.guard}],guard:=some (11,true)}) (v:=?_) rfl (by kernel_rfl) (by kernel_rfl) (by kernel_rfl) (fun _ _ _ h=>h) (Or.inl ⟨by rfl,?_⟩) ‹_› ?_;rotate_left;· (intro w hSw;(try dsimp only at hSw);go_simp;try (with_reducible rfl)))
  try simp only[Act.put,List.setIfInBounds_toArray,List.set_cons_zero,List.set_cons_succ]
  first
   |(refine wpAnyH_take (i:=18) (oi:={dst:=some 71,op:=Go.Op.move (Go.Operand.tmp 5),type:=3,pos:= "l08_parse.go:658",after:=#[{on:=11,ground:=Go.Ground.guard}],guard:=some (11,true)}) (v:=undef) rfl (by kernel_rfl) (by kernel_rfl) (by kernel_rfl) (fun _ _ _ h=>h) (Or.inr ⟨by rfl,rfl⟩) ‹_› ?_)
   |(refine wpAnyH_take (i:=18) (oi:={dst:=some 71,op:=Go.Op.move (Go.Operand.tmp 5),type:=3,pos:= "l08_parse.go:658",after:=#[{on:=11,ground:=Go.Ground.guard}],guard:=some (11,true)}) (v:=?_) rfl (by kernel_rfl) (by kernel_rfl) (by kernel_rfl) (fun _ _ _ h=>h) (Or.inl ⟨by rfl,?_⟩) ‹_› ?_;rotate_left;· (intro w hSw;(try dsimp only at hSw);go_simp;try (with_reducible rfl)))
  try simp only[Act.put,List.setIfInBounds_toArray,List.set_cons_zero,List.set_cons_succ]
  first
   |(refine wpAnyH_take (i:=19) (oi:={dst:=some 72,op:=Go.Op.indexAddr 26 (Go.Operand.tmp 70) (Go.Operand.tmp 71),type:=0,pos:= "l08_parse.go:658",after:=#[{on:=17,ground:=Go.Ground.data},{on:=18,ground:=Go.Ground.data},{on:=11,ground:=Go.Ground.guard}],guard:=some (11,true)}) (v:=undef) rfl (by kernel_rfl) (by kernel_rfl) (by kernel_rfl) (fun _ _ _ h=>h) (Or.inr ⟨by rfl,rfl⟩) ‹_› ?_)
   |(refine wpAnyH_take (i:=19) (oi:={dst:=some 72,op:=Go.Op.indexAddr 26 (Go.Operand.tmp 70) (Go.Operand.tmp 71),type:=0,pos:= "l08_parse.go:658",after:=#[{on:=17,ground:=Go.Ground.data},{on:=18,ground:=Go.Ground.data},{on:=11,ground:=Go.Ground.guard}],guard:=some (11,true)}) (v:=?_) rfl (by kernel_rfl) (by kernel_rfl) (by kernel_rfl) (fun _ _ _ h=>h) (Or.inl ⟨by rfl,?_⟩) ‹_› ?_;rotate_left;· (intro w hSw;(try dsimp only at hSw);go_simp;try (with_reducible rfl)))
  try simp only[Act.put,List.setIfInBounds_toArray,List.set_cons_zero,List.set_cons_succ]
  first
   |(refine wpAnyH_take (i:=20) (oi:={dst:=some 73,op:=Go.Op.load 3 (Go.Operand.tmp 72),type:=3,pos:= "l08_parse.go:658",after:=#[{on:=19,ground:=Go.Ground.data},{on:=11,ground:=Go.Ground.guard}],guard:=some (11,true)}) (v:=undef) rfl (by kernel_rfl) (by kernel_rfl) (by kernel_rfl) (fun _ _ _ h=>h) (Or.inr ⟨by rfl,rfl⟩) ‹_› ?_)
   |(refine wpAnyH_take (i:=20) (oi:={dst:=some 73,op:=Go.Op.load 3 (Go.Operand.tmp 72),type:=3,pos:= "l08_parse.go:658",after:=#[{on:=19,ground:=Go.Ground.data},{on:=11,ground:=Go.Ground.guard}],guard:=some (11,true)}) (v:=?_) rfl (by kernel_rfl) (by kernel_rfl) (by kernel_rfl) (fun _ _ _ h=>h) (Or.inl ⟨by rfl,?_⟩) ‹_› ?_;rotate_left;· (intro w hSw;(try dsimp only at hSw);go_simp;try (with_reducible rfl)))
  try simp only[Act.put,List.setIfInBounds_toArray,List.set_cons_zero,List.set_cons_succ]
  first
   |(refine wpAnyH_take (i:=21) (oi:={dst:=some 74,op:=Go.Op.indexAddr 31 (Go.Operand.tmp 68) (Go.Operand.tmp 73),type:=0,pos:= "l08_parse.go:658",after:=#[{on:=15,ground:=Go.Ground.data},{on:=20,ground:=Go.Ground.data},{on:=11,ground:=Go.Ground.guard}],guard:=some (11,true)}) (v:=undef) rfl (by kernel_rfl) (by kernel_rfl) (by kernel_rfl) (fun _ _ _ h=>h) (Or.inr ⟨by rfl,rfl⟩) ‹_› ?_)
   |(refine wpAnyH_take (i:=21) (oi:={dst:=some 74,op:=Go.Op.indexAddr 31 (Go.Operand.tmp 68) (Go.Operand.tmp 73),type:=0,pos:= "l08_parse.go:658",after:=#[{on:=15,ground:=Go.Ground.data},{on:=20,ground:=Go.Ground.data},{on:=11,ground:=Go.Ground.guard}],guard:=some (11,true)}) (v:=?_) rfl (by kernel_rfl) (by kernel_rfl) (by kernel_rfl) (fun _ _ _ h=>h) (Or.inl ⟨by rfl,?_⟩) ‹_› ?_;rotate_left;· (intro w hSw;(try dsimp only at hSw);go_simp;try (with_reducible rfl)))
  try simp only[Act.put,List.setIfInBounds_toArray,List.set_cons_zero,List.set_cons_succ]
  first
   |(refine wpAnyH_take (i:=22) (oi:={dst:=some 75,op:=Go.Op.fieldAddr 70 (Go.Operand.tmp 74) 0,type:=0,pos:= "l08_parse.go:658",after:=#[{on:=21,ground:=Go.Ground.data},{on:=11,ground:=Go.Ground.guard}],guard:=some (11,true)}) (v:=undef) rfl (by kernel_rfl) (by kernel_rfl) (by kernel_rfl) (fun _ _ _ h=>h) (Or.inr ⟨by rfl,rfl⟩) ‹_› ?_)
   |(refine wpAnyH_take (i:=22) (oi:={dst:=some 75,op:=Go.Op.fieldAddr 70 (Go.Operand.tmp 74) 0,type:=0,pos:= "l08_parse.go:658",after:=#[{on:=21,ground:=Go.Ground.data},{on:=11,ground:=Go.Ground.guard}],guard:=some (11,true)}) (v:=?_) rfl (by kernel_rfl) (by kernel_rfl) (by kernel_rfl) (fun _ _ _ h=>h) (Or.inl ⟨by rfl,?_⟩) ‹_› ?_;rotate_left;· (intro w hSw;(try dsimp only at hSw);go_simp;try (with_reducible rfl)))
  try simp only[Act.put,List.setIfInBounds_toArray,List.set_cons_zero,List.set_cons_succ]
  first
   |(refine wpAnyH_take (i:=23) (oi:={dst:=some 76,op:=Go.Op.load 3 (Go.Operand.tmp 75),type:=3,pos:= "l08_parse.go:658",after:=#[{on:=22,ground:=Go.Ground.data},{on:=11,ground:=Go.Ground.guard}],guard:=some (11,true)}) (v:=undef) rfl (by kernel_rfl) (by kernel_rfl) (by kernel_rfl) (fun _ _ _ h=>h) (Or.inr ⟨by rfl,rfl⟩) ‹_› ?_)
   |(refine wpAnyH_take (i:=23) (oi:={dst:=some 76,op:=Go.Op.load 3 (Go.Operand.tmp 75),type:=3,pos:= "l08_parse.go:658",after:=#[{on:=22,ground:=Go.Ground.data},{on:=11,ground:=Go.Ground.guard}],guard:=some (11,true)}) (v:=?_) rfl (by kernel_rfl) (by kernel_rfl) (by kernel_rfl) (fun _ _ _ h=>h) (Or.inl ⟨by rfl,?_⟩) ‹_› ?_;rotate_left;· (intro w hSw;(try dsimp only at hSw);go_simp;try (with_reducible rfl)))
  try simp only[Act.put,List.setIfInBounds_toArray,List.set_cons_zero,List.set_cons_succ]
  first
   |(refine wpAnyH_take (i:=24) (oi:={dst:=some 77,op:=Go.Op.binOp Go.BinOp.eql 3 (Go.Operand.tmp 76) (Go.Operand.const (Go.Value.int Go.IntKind.i64 27)) 3,type:=4,pos:= "l08_parse.go:658",after:=#[{on:=23,ground:=Go.Ground.data},{on:=11,ground:=Go.Ground.guard}],guard:=some (11,true)}) (v:=undef) rfl (by kernel_rfl) (by kernel_rfl) (by kernel_rfl) (fun _ _ _ h=>h) (Or.inr ⟨by rfl,rfl⟩) ‹_› ?_)
   |(refine wpAnyH_take (i:=24) (oi:={dst:=some 77,op:=Go.Op.binOp Go.BinOp.eql 3 (Go.Operand.tmp 76) (Go.Operand.const (Go.Value.int Go.IntKind.i64 27)) 3,type:=4,pos:= "l08_parse.go:658",after:=#[{on:=23,ground:=Go.Ground.data},{on:=11,ground:=Go.Ground.guard}],guard:=some (11,true)}) (v:=?_) rfl (by kernel_rfl) (by kernel_rfl) (by kernel_rfl) (fun _ _ _ h=>h) (Or.inl ⟨by rfl,?_⟩) ‹_› ?_;rotate_left;· (intro w hSw;(try dsimp only at hSw);go_simp;try (with_reducible rfl)))
  try simp only[Act.put,List.setIfInBounds_toArray,List.set_cons_zero,List.set_cons_succ]
  refine wpAnyH_take (i:=25) (oi:={dst:=some 78,op:=Go.Op.pick (Go.Operand.tmp 64) (Go.Operand.tmp 77) (Go.Operand.const (Go.Value.bool false)),type:=4,pos:= "l08_parse.go:658",after:=#[{on:=11,ground:=Go.Ground.data},{on:=24,ground:=Go.Ground.data}],guard:=none}) (v:=?_) rfl (by kernel_rfl) (by kernel_rfl) (by kernel_rfl) (fun _ _ _ h=>h) (Or.inl ⟨by rfl,?_⟩) ‹_› ?_;rotate_left;· (intro w hSw;(try dsimp only at hSw);go_simp;try (with_reducible rfl))
  try simp only[Act.put,List.setIfInBounds_toArray,List.set_cons_zero,List.set_cons_succ]
  refine wpAnyH_take (i:=26) (oi:={dst:=some 4,op:=Go.Op.assign (Go.Operand.tmp 78),type:=4,pos:= "l08_parse.go:658",after:=#[{on:=25,ground:=Go.Ground.data},{on:=11,ground:=Go.Ground.chain},{on:=0,ground:=Go.Ground.phase},{on:=1,ground:=Go.Ground.phase},{on:=2,ground:=Go.Ground.phase},{on:=3,ground:=Go.Ground.phase},{on:=4,ground:=Go.Ground.phase},{on:=5,ground:=Go.Ground.phase},{on:=6,ground:=Go.Ground.phase},{on:=7,ground:=Go.Ground.phase},{on:=8,ground:=Go.Ground.phase},{on:=9,ground:=Go.Ground.phase},{on:=10,ground:=Go.Ground.phase},{on:=11,ground:=Go.Ground.phase},{on:=12,ground:=Go.Ground.phase},{on:=13,ground:=Go.Ground.phase},{on:=14,ground:=Go.Ground.phase},{on:=15,ground:=Go.Ground.phase},{on:=16,ground:=Go.Ground.phase},{on:=17,ground:=Go.Ground.phase},{on:=18,ground:=Go.Ground.phase},{on:=19,ground:=Go.Ground.phase},{on:=20,ground:=Go.Ground.phase},{on:=21,ground:=Go.Ground.phase},{on:=22,ground:=Go.Ground.phase},{on:=23,ground:=Go.Ground.phase},{on:=24,ground:=Go.Ground.phase},{on:=25,ground:=Go.Ground.phase}],guard:=none}) (v:=?_) rfl (by kernel_rfl) (by kernel_rfl) (by kernel_rfl) (fun _ _ _ h=>h) (Or.inl ⟨by rfl,?_⟩) ‹_› ?_;rotate_left;· (intro w hSw;(try dsimp only at hSw);go_simp;try (with_reducible rfl))
  try simp only[Act.put,List.setIfInBounds_toArray,List.set_cons_zero,List.set_cons_succ]
  refine wpAnyH_done (by kernel_rfl) ?_ _;go_wp2;go_ret;exact⟨Q6 HE.o.symm,hk0.trans ‹_›⟩
end
section
variable {b o:Nat} {t:Q1} {n:Qc} {kv:Value} {w:World}
theorem Qea (ht:J7 w b o t) (hk:Qi w kv n.kids) (hb:∀k∈n.kids,0≤k∧k<t.nodes.length) :
  Calls prog 123 #[.pointer (some ⟨b,o,none⟩),.agg #[.int .i64 n.kind,.string n.text,.int .i64 n.i,kv]] w fun e w'=>e=.returned (.bool (Je t n))∧Q0 nob w w':=by
 by_cases h1:n.kind=27
 ·exact Qg4 ht hk hb h1
 by_cases h2:n.kind=28
 ·exact Qgj ht hk hb h2
 by_cases h3:n.kind=29
 ·by_cases hl:0<n.kids.length
  ·exact Qgs ht hk hb h3 hl
  ·exact Qdw ht hk hb h3 hl
 by_cases h4:n.kind=30
 ·exact Qfr ht hk hb h4
 by_cases h5:n.kind=31
 ·exact Qam ht hk hb (.inl h5)
 by_cases h6:n.kind=32
 ·exact Qam ht hk hb (.inr h6)
 by_cases h7:n.kind=33
 ·rcases List.eq_nil_or_concat n.kids with h|⟨ks,l,h⟩
  ·exact Qdr ht hk hb h7 h
  ·exact Qhv ht l ks (by simpa using h) hk hb h7 _ rfl
 by_cases h8:n.kind=34
 ·exact Qg8 ht hk hb h8
 exact Qh8 ht hk hb h1 h2 h3 h4 h5 h6 h7 h8
def Xf (t:Q1) (n:Qc):Bool:=(Yq n&&Xn n)&&(if Qs n.kind then Xb t n else if Zp n.kind then Z5 t n else Je t n)
theorem Qhj (j:Nat) (ht:J7 w b o t) (hn:t.nodes[j]?=some n) (hx:n.text.size≤140737488355328) (hj:j<4611686018427387904) :
  Calls prog 88 #[.pointer (some ⟨b,o,none⟩),.int .i64 j] w fun e w'=>e=.returned (.bool (Yb t j n))∧Q0 nob w w':=by
 have hjl:j<t.nodes.length:=(Gs hn).1;obtain⟨nv,tv,h0,h1,⟨nA,nb,no,nc,rfl,hnl,Qom,hnA,hnc⟩,h3⟩:=id ht;obtain rfl:=hnA (by omega);obtain⟨kv,q0,q1,q2,q3,hk⟩:=hnc j n hn;obtain⟨kA,kb,ko,kc,rfl,hkl,Qnd,hkA,hkc⟩:=id hk;have HKC:=Hh hkc;have HT:=Hh ht;have HK:=Hh hk;have Qqw:Hi (Yb t j n=(n.kids.all (fun k=>Q9 k 0 ((j:Int)-1))&&Xf t n)):=Hh (by rw[Yb,Xf,Bool.and_assoc]);have b0:=World.block_lt_of_cell? w _ h0;have b1:=World.block_lt_of_cell? w _ q0;have hjj:(j:Int)<(t.nodes.length:Int):=by omega
 have hj0:(0:Int)≤(j:Int):=by omega
 clear hnc hkc h3 h1 hk ht hn;go_enter func88,ntmps88;go_wp2
 go_loopw [7,18] (fun u i wr=>∃m:Nat,m≤n.kids.length∧i=.int .i64 m∧n.kids.all (fun k=>Q9 k 0 ((j:Int)-1))=(n.kids.drop m).all (fun k=>Q9 k 0 ((j:Int)-1))∧Q0 nob w wr ∧
  Blk wr w.heap.size [.int .i64 n.kind,.string n.text,.int .i64 n.i,.slice kA n.kids.length kc] 70∧(∀k∈n.kids.take m,Q9 k 0 ((j:Int)-1)=true)) (fun _ i _=>n.kids.length-(intOf i).toNat)
 case atStart=>exact⟨0,Nat.zero_le _,rfl,rfl,(Kr _ _).alloc _,Blk.new _ _ _,fun k hk=>by simp at hk⟩
 case round =>
  obtain⟨m,hm,rfl,hr,hk,hbl,hal⟩:=hrel
  by_cases hlt:m<n.kids.length
  ·obtain⟨k,hkm⟩:=Q3 hlt
   have HE:Hi (n.kids.all (fun k=>Q9 k 0 ((j:Int)-1))=(Q9 k 0 ((j:Int)-1)&&(n.kids.drop (m+1)).all (fun k=>Q9 k 0 ((j:Int)-1)))):=Hh (by rw[hr,Qd hkm,List.all_cons]);have c0:=hk.cell (fun h=>h) (HKC.o m _ hkm);have c1:=hbl.cell 3 _ rfl;obtain rfl:=hkA (by omega);have HKM:=Hh hkm;have HAL:=Hh hal;have HBL:=Hh hbl;clear hr hkm hal hbl;go_wp2_with (go_at_call 89;refine (Jj _ _ _ _).mono ?_;rintro e w1 ⟨rfl,rfl⟩)
   ·have hp:Q9 k 0 ((j:Int)-1)=false:=by simpa using ‹(!Q9 _ _ _)=true›
    go_ret;exact⟨Q6 (by rw[Qqw.o,HE.o,hp];rfl),hk⟩
   ·have hp:Q9 k 0 ((j:Int)-1)=true:=by simpa using ‹(!Q9 _ _ _)=false›
    go_roundw
    case rel=>exact⟨m+1,by omega,by go_num,by rw[HE.o,hp];rfl,hk,HBL.o,by
     rw[Jy HKM.o];intro x hx';rcases List.mem_append.1 hx' with h|h
     ·exact HAL.o x h
     ·simp at h;subst h;exact hp⟩
    case measure=>simp[intOf];omega
  ·have Qo1:n.kids.all (fun k=>Q9 k 0 ((j:Int)-1))=true:=by rw[hr,Dn (by omega)];rfl
   have hB:Hi (∀k∈n.kids,0≤k∧k<t.nodes.length):=Hh (fun k hk=>by
    have:=List.all_eq_true.1 Qo1 k hk;simp[Q9] at this;omega)
   have HN:Hi (Yb t j n=Xf t n):=Hh (by rw[Qqw.o,Qo1];rfl);have HTR:=Hh (HT.o.old hk.old);have HKR:=Hh (HK.o.old hk.old);have r0:∀W,Q0 nob wr W→W.cell? ⟨w.heap.size,0,none⟩=some (.int .i64 n.kind):=fun W h=>h.cell (fun h=>h) (hbl.cell 0 _ rfl)
   have r1:∀W,Q0 nob wr W→W.cell? ⟨w.heap.size,1,none⟩=some (.string n.text):=fun W h=>h.cell (fun h=>h) (hbl.cell 1 _ rfl)
   have r2:∀W,Q0 nob wr W→W.cell? ⟨w.heap.size,2,none⟩=some (.int .i64 n.i):=fun W h=>h.cell (fun h=>h) (hbl.cell 2 _ rfl)
   have r3:∀W,Q0 nob wr W→W.cell? ⟨w.heap.size,3,none⟩=some (.slice kA n.kids.length kc):=fun W h=>h.cell (fun h=>h) (hbl.cell 3 _ rfl)
   have hr0:=Kr nob wr;clear hr hal Qo1 hbl hkA;cases hx1:Yq n with
   |false =>
    have HE:Hi (Xf t n=false):=Hh (by rw[Xf,hx1];rfl);go_wp2_with (go_at_call 119;refine (Q3u n _ _ hx).mono ?_;rintro e w1 ⟨rfl,hk1⟩);go_ret;exact⟨Q6 (by rw[HN.o,HE.o]),hk.thenNob hk1⟩
   |true =>
   cases hx2:Xn n with
   |false =>
    have HE:Hi (Xf t n=false):=Hh (by rw[Xf,hx1,hx2];rfl);go_wp2_with (first|(go_at_call 119;refine (Q3u n _ _ hx).mono ?_;rintro e w1 ⟨rfl,hk1⟩)|(go_at_call 120;refine (Q2v n _ _).mono ?_;rintro e w2 ⟨rfl,hk2⟩));go_ret;exact⟨Q6 (by rw[HN.o,HE.o]),(hk.thenNob hk1).thenNob hk2⟩
   |true =>
   cases hx3:Qs n.kind with
   |true =>
    have HE:Hi (Xf t n=Xb t n):=Hh (by rw[Xf,hx1,hx2,Ps hx3];rfl);go_wp2_with (first|(go_at_call 119;refine (Q3u n _ _ hx).mono ?_;rintro e w1 ⟨rfl,hk1⟩)|(go_at_call 120;refine (Q2v n _ _).mono ?_;rintro e w2 ⟨rfl,hk2⟩;have hk3:=hk1.trans hk2)|(go_at_call 94;refine (Q0i _ _).mono ?_;rintro e w3 ⟨rfl,rfl⟩)|(go_at_call 121;refine (Qft (HTR.o.old hk3.old) (HKR.o.old hk3.old) hB.o hx3).mono ?_;rintro e w4 ⟨rfl,hk4⟩));go_ret;exact⟨Q6 (by rw[HN.o,HE.o]),(hk.thenNob hk3).thenNob hk4⟩
   |false =>
   cases hx4:Zp n.kind with
   |true =>
    have HE:Hi (Xf t n=Z5 t n):=Hh (by rw[Xf,hx1,hx2,Ng (by simp[hx3]),Ps hx4];rfl);go_wp2_with (first|(go_at_call 119;refine (Q3u n _ _ hx).mono ?_;rintro e w1 ⟨rfl,hk1⟩)|(go_at_call 120;refine (Q2v n _ _).mono ?_;rintro e w2 ⟨rfl,hk2⟩;have hk3:=hk1.trans hk2)|(go_at_call 94;refine (Q0i _ _).mono ?_;rintro e w3 ⟨rfl,rfl⟩)|(go_at_call 96;refine (Q2b _ _).mono ?_;rintro e w3 ⟨rfl,rfl⟩)|(go_at_call 122;refine (Qh6 (HTR.o.old hk3.old) (HKR.o.old hk3.old) hB.o hx4).mono ?_;rintro e w4 ⟨rfl,hk4⟩));go_ret;exact⟨Q6 (by rw[HN.o,HE.o]),(hk.thenNob hk3).thenNob hk4⟩
   |false =>
    have HE:Hi (Xf t n=Je t n):=Hh (by rw[Xf,hx1,hx2,Ng (by simp[hx3]),Ng (by simp[hx4])];rfl);go_wp2_with (first|(go_at_call 119;refine (Q3u n _ _ hx).mono ?_;rintro e w1 ⟨rfl,hk1⟩)|(go_at_call 120;refine (Q2v n _ _).mono ?_;rintro e w2 ⟨rfl,hk2⟩;have hk3:=hk1.trans hk2)|(go_at_call 94;refine (Q0i _ _).mono ?_;rintro e w3 ⟨rfl,rfl⟩)|(go_at_call 96;refine (Q2b _ _).mono ?_;rintro e w3 ⟨rfl,rfl⟩)|(go_at_call 123;refine (Qea (HTR.o.old hk3.old) (HKR.o.old hk3.old) hB.o).mono ?_;rintro e w4 ⟨rfl,hk4⟩));go_ret;exact⟨Q6 (by rw[HN.o,HE.o]),(hk.thenNob hk3).thenNob hk4⟩
end
def Qj (t:Q1):Prop:=∀(j:Nat) (n:Qc),t.nodes[j]?=some n→∀k∈n.kids,(0:Int)≤k∧k<(j:Int)
theorem Q36 (t:Q1) (f:Nat) (i m:Int):Qr t f i m = -1∨Qr t f i m=i+1:=by
 cases f with
 |zero=>exact .inl rfl
 |succ f =>
  unfold Qr;dsimp only;split
  ·exact .inl rfl
  ·split
   ·rename_i h;exact .inr (by rw[← h])
   ·exact .inl rfl
theorem Q6n (t:Q1) (f:Nat) (ks:List Int):ks.foldl (fun m k=>if m<0 then -1 else Qr t f k m) (-1) = -1:=by
 induction ks with
 |nil=>rfl
 |cons k ks ih=>rw[List.foldl_cons,Ps (by omega)];exact ih
theorem Q7t (b o:Nat) (t:Q1) (w:World) (ht:J7 w b o t) (hK:Qj t) (hsz:t.nodes.length≤140737488355328):∀(f i:Nat) (m:Int),i<f→i<t.nodes.length→0≤m→m≤140737488355328 →
  Calls prog 90 #[.pointer (some ⟨b,o,none⟩),.int .i64 i,.int .i64 m] w fun e w'=>e=.returned (.int .i64 (Qr t f i m))∧w=w':=by
 intro f
 induction f with
 |zero=>intro i m h;omega
 |succ f ih =>
  intro i m hif hil hm0 hm1;obtain⟨n,hn⟩:=Q3 hil;obtain⟨nv,tv,h0,h1,⟨nA,nb,no,nc,rfl,hnl,Qom,hnA,hnc⟩,h3⟩:=id ht;obtain rfl:=hnA (by omega);obtain⟨kv,q0,q1,q2,q3,hk⟩:=hnc i n hn;obtain⟨kA,kb,ko,kc,rfl,hkl,Qnd,hkA,hkc⟩:=id hk;have HKC:=Hh hkc;have HN:=Hh hn;have HKS:=Hh (hK i n hn);have HIH:=Hh ih
  have HF:Hi (Qr t (f+1) i m=(let x:=n.kids.foldl (fun m k=>if m<0 then -1 else Qr t f k m) m;if x<0 then -1 else if (i:Int)=x then x+1 else -1)):=Hh (by
   rw[Qr,Q1.at_of hn])
  have hii:(i:Int)<(t.nodes.length:Int):=by omega
  have hi0:(0:Int)≤(i:Int):=by omega
  clear hkc hnc h3 h1 hk ht hn ih hK;go_enter func90,ntmps90;go_wp2
  go_loop [2,8,18] (fun c u x=>∃(j:Nat) (cur:Int),j≤n.kids.length∧x=.int .i64 j∧c=.int .i64 cur∧0≤cur∧cur≤140737488355328 ∧
   n.kids.foldl (fun m k=>if m<0 then -1 else Qr t f k m) m=(n.kids.drop j).foldl (fun m k=>if m<0 then -1 else Qr t f k m) cur) (fun _ _ x=>n.kids.length-(intOf x).toNat)
  case atStart=>exact⟨0,m,Nat.zero_le _,rfl,rfl,hm0,hm1,rfl⟩
  case round =>
   obtain⟨j,cur,hj,rfl,rfl,hc0,hc1,hr⟩:=hrel
   by_cases hlt:j<n.kids.length
   ·obtain⟨k,hkj⟩:=Q3 hlt
    obtain⟨g1,g2⟩:=HKS.o k (Mg hkj);obtain⟨p,rfl⟩:=En g1
    have HE:Hi (n.kids.foldl (fun m k=>if m<0 then -1 else Qr t f k m) m=(n.kids.drop (j+1)).foldl (fun m k=>if m<0 then -1 else Qr t f k m) (Qr t f p cur)):=Hh (by
     rw[hr,Qd hkj,List.foldl_cons,Ng (by omega)])
    have c0:=HKC.o j _ hkj;have hor:=Q36 t f p cur;obtain rfl:=hkA (by omega);have hpf:p<f:=by omega
    have hpl:p<t.nodes.length:=by omega
    clear hr hkj hkA;rcases hor with hor|hor
    ·have HOR:=Hh hor
     clear hor;go_wp2_with (go_at_call 90;refine (HIH.o p cur hpf hpl hc0 hc1).mono ?_;rw[HOR.o];rintro e w1 ⟨rfl,rfl⟩);go_ret;refine⟨Jn ?_,rfl⟩;rw[HF.o,HE.o,HOR.o,Q6n];rfl
    ·have HOR:=Hh hor
     clear hor;have hp0:(0:Int)≤(p:Int)+1:=by omega
     have hpn:¬ ((p:Int)+1<0):=by omega
     go_wp2_with (go_at_call 90;refine (HIH.o p cur hpf hpl hc0 hc1).mono ?_;rw[HOR.o];rintro e w1 ⟨rfl,rfl⟩);go_round
     case rel=>exact⟨j+1,(p:Int)+1,by omega,by go_num,rfl,by omega,by omega,by rw[HE.o,HOR.o]⟩
     case measure=>simp[intOf];omega
   ·have Qqx:n.kids.foldl (fun m k=>if m<0 then -1 else Qr t f k m) m=cur:=by rw[hr,Dn (by omega)];rfl
    have Qs1:=Hh Qqx;clear hr Qqx
    by_cases hic:(i:Int)=cur
    ·have t1:((i:Int) != cur)=false:=by simp[hic]
     have HIC:=Hh hic;clear hic;go_wp2;go_ret;refine⟨Jn ?_,rfl⟩;rw[HF.o,Qs1.o];rw[Ng (by omega),Ps HIC.o]
    ·have t1:((i:Int) != cur)=true:=by simp[hic]
     have HIC:=Hh hic;clear hic;go_wp2;go_ret;refine⟨Jn ?_,rfl⟩;rw[HF.o,Qs1.o];rw[Ng (by omega),Ng HIC.o]
theorem Qh7 {t:Q1} {j:Nat} (hj:j<t.nodes.length) (h:Yb t j (t.at j)=false):Qt t=false:=by
 unfold Qt;rw[List.all_eq_false];exact⟨j,List.mem_range.2 hj,by simp[h]⟩
theorem Qf3 {t:Q1} (h:∀j,j<t.nodes.length→Yb t j (t.at j)=true):Qt t=true:=by
 unfold Qt;rw[List.all_eq_true]
 exact fun j hj=>h j (List.mem_range.1 hj)
theorem Q4y {t:Q1} (h:Qt t=true):Qj t:=by
 intro j n hn k hk;unfold Qt at h;rw[List.all_eq_true] at h;have:=h j (List.mem_range.2 (Gs hn).1);rw[Q1.at_of hn,Yb] at this;simp only[Bool.and_eq_true] at this;have:=List.all_eq_true.1 this.1.1 k hk;simp[Q9] at this;omega
def Q04 (t:Q1):Prop:=∀n∈t.nodes,n.text.size≤140737488355328
theorem Qaf (t:Q1) (v:Value) (w:World) (hv:Z3 w v t) (hx:Q04 t) :
  Calls prog 53 #[v] w fun e w'=>e=.returned (.bool (Yi t))∧Q0 nob w w':=by
 obtain⟨nv,tv,rfl,hnv,htv⟩:=hv;have hN:=hnv;have hT:=htv;obtain⟨nA,nb,no,nc,rfl,hnl,Qom,hnA,hnc⟩:=hnv;obtain⟨tA,tb,to,tc,rfl,htl,Qyv,htA,htc⟩:=htv;have HNC:=Hh hnc;have HTC:=Hh htc;clear hnc htc;generalize hW0:w.alloc (.cells #[.slice nA t.nodes.length nc,.slice tA t.tops.length tc] 33)=W0;have hk0:Q0 nob w W0:=hW0▸(Kr _ _).alloc _;have hbl:Blk W0 w.heap.size [.slice nA t.nodes.length nc,.slice tA t.tops.length tc] 33:=hW0▸Blk.new _ _ _;have HT:Hi (J7 W0 w.heap.size 0 t):=Hh ⟨_,_,hbl.cell 0 _ rfl,hbl.cell 1 _ rfl,hN.old hk0.old,hT.old hk0.old⟩;have hr0:=Kr nob W0;have s0:∀W,Q0 nob W0 W→W.cell? ⟨w.heap.size,0,none⟩=some (.slice nA t.nodes.length nc):=fun W h=>h.cell (fun h=>h) (hbl.cell 0 _ rfl)
 have s1:∀W,Q0 nob W0 W→W.cell? ⟨w.heap.size,1,none⟩=some (.slice tA t.tops.length tc):=fun W h=>h.cell (fun h=>h) (hbl.cell 1 _ rfl)
 have HX:=Hh hx;clear hN hT hbl hx
 by_cases Qtx:t.nodes.length≤4000
 ·go_enter func53,ntmps53
  go_wp2;go_loopw [3,14] (fun u i wr=>∃j:Nat,j≤t.nodes.length∧i=.int .i64 j∧(∀m,m<j→Yb t m (t.at m)=true)∧Q0 nob W0 wr) (fun _ i _=>t.nodes.length-(intOf i).toNat)
  case atStart=>exact⟨0,Nat.zero_le _,rfl,fun m h=>absurd h (by omega),hr0⟩
  case round =>
   obtain⟨j,hj,rfl,Qo1,hk⟩:=hrel;have Qp1:=Hh Qo1;clear Qo1
   by_cases hlt:j<t.nodes.length
   ·obtain⟨n,hn⟩:=Q3 hlt
    have HN:=Hh hn;have HNX:=Hh (HX.o n (Mg hn));have hat:=Q1.at_of hn;have HAT:=Hh hat;clear hn hat;go_wp2_with (go_at_call 88;refine (Qhj j (HT.o.old hk.old) HN.o HNX.o (by omega)).mono ?_;rintro e w1 ⟨rfl,hk1⟩)
    ·have hp:Yb t j n=false:=by simpa using ‹(!Yb _ _ _)=true›
     go_ret;exact⟨Q6 (by rw[Yi,Qh7 hlt (by rw[HAT.o];exact hp)];simp),hk0.trans (hk.trans hk1)⟩
    ·have hp:Yb t j n=true:=by simpa using ‹(!Yb _ _ _)=false›
     go_roundw
     case rel=>exact⟨j+1,by omega,by go_num,fun m hm=>by
      by_cases e:m=j
      ·subst e;rw[HAT.o];exact hp
      ·exact Qp1.o m (by omega),hk.trans hk1⟩
     case measure=>simp[intOf];omega
   ·have hnb:Qt t=true:=Qf3 fun m hm=>Qp1.o m (by omega)
    have HNB:=Hh hnb;have HKO:=Hh (Q4y hnb);clear hnb;go_wp2;go_loopw [4,6,24] (fun fr u i wr'=>∃(j:Nat) (m:Int),j≤t.tops.length∧i=.int .i64 j∧fr=.int .i64 m∧0≤m∧m≤140737488355328∧Q0m t t.tops 0=Q0m t (t.tops.drop j) m∧wr'=wr) (fun _ _ i _=>t.tops.length-(intOf i).toNat)
    case atStart=>exact⟨0,0,Nat.zero_le _,rfl,rfl,by omega,by omega,rfl,rfl⟩
    case round =>
     obtain⟨q,m,hq,rfl,rfl,hm0,hm1,hr,rfl⟩:=hrel;have HR:=Hh hr;clear hr
     by_cases hqt:q<t.tops.length
     ·obtain⟨x,hx⟩:=Q3 hqt
      have c0:=hk.cell (fun h=>h) (hk0.cell (fun h=>h) (HTC.o q x hx));obtain rfl:=htA (by omega);have HXX:=Hh hx;clear hx htA;cases hw:Q9 x 0 ((t.nodes.length:Int)-1) with
      |false =>
       have HE:Hi (Q0m t t.tops 0=none):=Hh (by rw[HR.o,Qd HXX.o,Q0m,hw];rfl);go_wp2_with (go_at_call 89;refine (Jj _ _ _ _).mono ?_;rintro e w1 ⟨rfl,rfl⟩);go_ret;exact⟨Q6 (by rw[Yi,HE.o];simp),hk0.trans hk⟩
      |true =>
       obtain⟨p,rfl⟩:=En (show 0≤x by simp[Q9] at hw;omega);have hpl:p<t.nodes.length:=by simp[Q9] at hw;omega
       obtain⟨np,hnp⟩:=Q3 hpl;obtain⟨pkv,q0,-⟩:=HNC.o p np hnp;have d0:=hk.cell (fun h=>h) (hk0.cell (fun h=>h) q0);obtain rfl:=hnA (by omega);have HAT:=Hh (Q1.at_of hnp);have hpp:(p:Int)<(t.nodes.length:Int):=by omega
       have hp0:(0:Int)≤(p:Int):=by omega
       clear hnp q0 hnA
       by_cases hkd:np.kind<33
       ·have HE:Hi (Q0m t t.tops 0=none):=Hh (by rw[HR.o,Qd HXX.o,Q0m,HAT.o,Df (by omega)];simp)
        go_wp2_with (go_at_call 89;refine (Jj _ _ _ _).mono ?_;rintro e w1 ⟨rfl,rfl⟩);go_ret;exact⟨Q6 (by rw[Yi,HE.o];simp),hk0.trans hk⟩
       ·have HE:Hi (Q0m t t.tops 0=if Qr t (p+1) p m<0 then none else Q0m t (t.tops.drop (q+1)) (Qr t (p+1) p m)):=Hh (by
         rw[HR.o,Qd HXX.o,Q0m,HAT.o,hw,Dt (by omega)];rfl)
        have hor:=Q36 t (p+1) p m;rcases hor with hor|hor
        ·have HOR:=Hh hor
         clear hor;go_wp2_with (first|(go_at_call 89;refine (Jj _ _ _ _).mono ?_;rintro e w1 ⟨rfl,rfl⟩)|(go_at_call 90;refine (Q7t _ _ t _ (HT.o.old hk.old) HKO.o hnl (p+1) p m (by omega) hpl hm0 hm1).mono ?_;rw[HOR.o];rintro e w1 ⟨rfl,rfl⟩));go_ret;exact⟨Q6 (by rw[Yi,HE.o,HOR.o];simp),hk0.trans hk⟩
        ·have HOR:=Hh hor
         clear hor;have hpn:¬ ((p:Int)+1<0):=by omega
         go_wp2_with (first|(go_at_call 89;refine (Jj _ _ _ _).mono ?_;rintro e w1 ⟨rfl,rfl⟩)|(go_at_call 90;refine (Q7t _ _ t _ (HT.o.old hk.old) HKO.o hnl (p+1) p m (by omega) hpl hm0 hm1).mono ?_;rw[HOR.o];rintro e w1 ⟨rfl,rfl⟩));go_roundw
         case rel=>exact⟨q+1,(p:Int)+1,by omega,by go_num,rfl,by omega,by omega,by rw[HE.o,HOR.o,Ng (by omega)],by first|rfl|trivial⟩
         case measure=>simp[intOf];omega
     ·have HE:Hi (Q0m t t.tops 0=some m):=Hh (by rw[HR.o,Dn (by omega)];rfl)
      go_wp2;go_ret;exact⟨Q6 (by rw[Yi,HE.o,HNB.o,Dt Qtx,Bool.true_and,Bool.true_and];rw[Bool.eq_iff_iff];simp),hk0.trans hk⟩
 ·go_enter func53,ntmps53
  go_wp2;go_ret;exact⟨Q6 (by rw[Yi,Df Qtx];rfl),hk0⟩
end Go.Proofs.YtkgkafjachjafaaGreat
