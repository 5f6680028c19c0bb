/- Part 52 of y_holds; no condition. -/
import Derived.Deep.Slices
import Derived.Lib.SmallJoins
import Derived.SizedLaws
import Derived.Test.YtkgkafjachjafaaGreatY44
set_option linter.unusedVariables false
set_option maxRecDepth 100000
open Go Go.RowKit Go.Deep Go.ChangeShapes Go.Joins
namespace Go.Proofs.YtkgkafjachjafaaGreat
open Tryz
section
variable {H:Type} {enc:TypeId×Value→H} {w:World} {base:Nat} {sp:Nat→Bool} {Qr7:Bool} {fuel:Nat} {v:Value} {x:DataW H×List MemPlace}
def Fit (t:TypeId) (d:DataW H):Prop:=∀n∈d.weights prog t,n≤reachBytes
theorem Q8l {e:TypeId} {l:List (DataW H)} {d:DataW H} (hd:d∈l) {n:Nat} (hn:n∈d.weights prog e):n∈DataW.weightsAll prog e l:=by
 induction l with
 |nil=>cases hd
 |cons y l ih =>
  simp only[DataW.weightsAll,List.mem_append];rcases List.mem_cons.1 hd with rfl|hd
  ·exact .inl hn
  ·exact .inr (ih hd)
theorem Fit.row {t e:TypeId} (hu:prog.underlying t=some (.slice e)) {xs ys:List (DataW H)} (h:Fit t (.slice xs ys)) (hb:1≤prog.bytesOf e):xs.length≤140737488355328∧∀d∈xs,Fit e d:=by
 have h0:(xs.length+ys.length)*prog.bytesOf e≤reachBytes:=h _ (by simp[DataW.weights,hu]);have h1:(xs.length+ys.length)*1≤(xs.length+ys.length)*prog.bytesOf e:=Nat.mul_le_mul_left _ hb;have h2:reachBytes≤140737488355328:=Dc
 exact⟨Om,fun d hd n hn=>h n (by simp only[DataW.weights,hu,List.mem_cons,List.mem_append];exact .inr (.inl (Q8l hd hn)))⟩
theorem Fit.part {t:TypeId} {fs:Array Field} (hu:prog.underlying t=some (.struct fs)) {ds:List (DataW H)} (h:Fit t (.agg ds)) {j:Nat} {f:Field} {d:DataW H} (hf:fs[j]?=some f) (hd:ds[j]?=some d):Fit f.type d :=
 fun n hn=>h n (by
  simp only[DataW.weights,hu];exact DataW.weights_mem_each (t:=f.type) (by simp[hf]) hd n hn)
theorem Fit.text {t:TypeId} {s:ByteArray} (h:Fit t (.lit (.string s.data.toList):DataW H)):s.size≤140737488355328:=by
 have h0:=h s.data.toList.length (by simp[DataW.weights]);have h2:reachBytes≤140737488355328:=Dc
 have e:s.size=s.data.toList.length:=rfl;omega
theorem Q9m {t e:TypeId} (ht:prog.underlying t=some (.slice e)) {c:Nat} (hc:prog.cellsOf e=c) (h:DataW.trod enc prog w base sp Qr7 fuel t [v]=some x) :
  ∃(A:Option Addr) (b o len cap k:Nat) (D:Nat→DataW H),v=.slice A len cap∧len≤cap∧(0<len→c≠0→A=some ⟨b,o,none⟩) ∧
   (x.1=.nil∧len=0∨∃ys,x.1=.slice ((List.range len).map D) ys) ∧
   ∀i,i<len→c≠0→∃cs Pl,cs.length=c∧(∀q,q<c→w.cell? ⟨b,o+i*c+q,none⟩=cs[q]?)∧DataW.trod enc prog w base sp Qr7 k e cs=some (D i,Pl):=by
 rcases open_slice ht h with ⟨h1,rfl⟩|⟨a,len,cap,m,n,D,Pl,hcs,hb,hl,hm,hmm,rfl,hx⟩
 ·cases h1
  exact⟨none,0,0,0,0,0,fun _=>.nil,rfl,Nat.le_refl _,Sm,.inl ⟨rfl,rfl⟩,fun i hi=>absurd hi (Nat.not_lt_zero _)⟩
 ·cases hcs
  have hlm:len≤m:=by rw[hmm];split<;>omega
  obtain⟨b,o,spot⟩:=a
  have Qss:0<len→c≠0→spot=none:=fun h0 hc0=>by
   obtain⟨cs',h1,_⟩:=hx 0 Om;rw[hc] at h1;obtain⟨_,Qnm,Qni⟩:=World.cells?_some h1;have h2:=Qni 0 Om;rw[Nat.zero_mul,add_add,Nat.add_zero] at h2;have h3:cs'[0]?=some (cs'[0]'(by omega)):=List.getElem?_eq_getElem Om;rw[h3] at h2;simpa[Addr.add] using World.cell?_spot h2
  refine⟨some ⟨b,o,spot⟩,b,o,len,cap,n,D,rfl,hl,fun h0 hc0=>by rw[Qss h0 hc0],.inr ⟨_,rfl⟩,fun i hi hc0=>?_⟩
  obtain⟨cs',h1,h2⟩:=hx i Om;rw[hc] at h1;obtain⟨_,Qnm,Qni⟩:=World.cells?_some h1
  refine⟨cs',Pl i,Qnm,fun q hq=>?_,h2⟩
  have h4:=Qni q hq;rw[add_add,Qss Om hc0,Go.WideShapes.add_plain,← Nat.add_assoc] at h4;exact h4
theorem Fit.rows {t e:TypeId} (hu:prog.underlying t=some (.slice e)) (hb:1≤prog.bytesOf e) {d:DataW H} (h:Fit t d) {len:Nat} {D:Nat→DataW H} (hx:d=.nil∧len=0∨∃ys,d=.slice ((List.range len).map D) ys) :
  len≤140737488355328∧∀i,i<len→Fit e (D i):=by
 rcases hx with ⟨_,rfl⟩|⟨ys,rfl⟩
 ·exact⟨Om,fun i hi=>absurd hi (Nat.not_lt_zero _)⟩
 ·obtain⟨h1,h2⟩:=h.row hu hb
  refine⟨by simpa using h1,fun i hi=>h2 _ (List.mem_map.2 ⟨i,List.mem_range.2 hi,rfl⟩)⟩
theorem Qci {α:Type} [Inhabited α] {n:Nat} {p:Nat→α→Prop} (h:∀i,i<n→∃y,p i y):∃l:List α,l.length=n∧∀j y,l[j]?=some y→p j y:=by
 obtain⟨F,hF⟩:=choose_lt h
 refine⟨(List.range n).map F,Sm,fun j y hj=>?_⟩
 rw[List.getElem?_map,Option.map_eq_some_iff] at hj;obtain⟨i,hi,rfl⟩:=hj;have hlt:=(Gs hi).1;simp at hlt;obtain rfl:j=i:=by simpa[hlt] using hi
 exact hF j hlt
theorem Qbg (h:DataW.trod enc prog w base sp Qr7 fuel 26 [v]=some x) (hz:Fit 26 x.1):∃xs,Qf w v xs:=by
 obtain⟨A,b,o,len,cap,k,D,rfl,hlc,hA,hd,hx⟩:=Q9m underlying26 (c:=1) Kf h;obtain⟨hl,_⟩:=hz.rows underlying26 (by rw[(by kernel_rfl:prog.bytesOf 3=8)];decide) hd
 obtain⟨xs,rfl,hxs⟩:=Qci (α:=Int) (p:=fun i y=>w.cell? ⟨b,o+i,none⟩=some (.int .i64 y)) (fun i hi=>by
  obtain⟨cs,Pl,Qnm,hc,ht⟩:=hx i hi Om;obtain⟨n,rfl,_,_⟩:=DataW.trod_int underlying3 ht;exact⟨n,by simpa using hc 0 Om⟩)
 exact⟨xs,A,b,o,cap,rfl,hl,hlc,fun h0=>hA h0 Om,hxs⟩
instance:Inhabited Zt:=⟨⟨⟨#[]⟩,0⟩⟩
instance:Inhabited Qn:=⟨Qfc⟩
theorem Q66 (h:DataW.trod enc prog w base sp Qr7 fuel 22 [v]=some x) (hz:Fit 22 x.1):∃ds,Ji w v ds∧∀d∈ds,d.name.size≤140737488355328:=by
 obtain⟨A,b,o,len,cap,k,D,rfl,hlc,hA,hd,hx⟩:=Q9m underlying22 (c:=2) Kf h;obtain⟨hl,hD⟩:=hz.rows underlying22 (by rw[(by kernel_rfl:prog.bytesOf 118=24)];decide) hd
 obtain⟨ds,rfl,hds⟩:=Qci (α:=Zt) (p:=fun i y=>(w.cell? ⟨b,o+i*2,none⟩=some (.string y.name)∧w.cell? ⟨b,o+i*2+1,none⟩=some (.int .i64 y.kind))∧y.name.size≤140737488355328) (fun i hi=>by
  obtain⟨cs,Pl,Qnm,hc,ht⟩:=hx i hi Om
  match cs,Qnm with
  |[u0,u1],_ =>
   obtain⟨y0,y1,n,hy,_,h0,h1⟩:=trod_struct2 underlying118 ht;obtain⟨s,e0,rfl,_⟩:=DataW.trod_string underlying9 h0;obtain⟨m,e1,rfl,_⟩:=DataW.trod_int underlying3 h1;have hDi:D i=.agg [.lit (.string s.data.toList),.lit (.int .i64 m)]:=(Prod.mk.inj hy).1;have hf:=hD i hi;rw[hDi] at hf;have hs:s.size≤140737488355328:=(hf.part underlying118 (j:=0) rfl rfl).text;have c1:prog.cellsOf 9=1:=Kf
   have c2:prog.cellsOf 3=1:=Kf
   simp[c1] at e0;simp[c2] at e1;subst e0;subst e1;exact⟨⟨s,m⟩,⟨hc 0 Om,hc 1 Om⟩,hs⟩)
 refine⟨ds,⟨A,b,o,cap,rfl,hl,hlc,fun h0=>hA h0 Om,fun j y hy=>(hds j y hy).1⟩,fun d hd=>?_⟩
 obtain⟨j,hj⟩:=List.mem_iff_getElem?.1 hd;exact (hds j d hj).2
theorem Qfw (h:DataW.trod enc prog w base sp Qr7 fuel 25 [v]=some x) (hz:Fit 25 x.1):∃ns,Xg w v ns∧∀n∈ns,n.text.size≤140737488355328:=by
 obtain⟨A,b,o,len,cap,k,D,rfl,hlc,hA,hd,hx⟩:=Q9m underlying25 (c:=4) Kf h;obtain⟨hl,hD⟩:=hz.rows underlying25 (by rw[(by kernel_rfl:prog.bytesOf 120=56)];decide) hd
 obtain⟨ns,rfl,hns⟩:=Qci (α:=Qn) (p:=fun i y=>(∃kv,w.cell? ⟨b,o+i*4,none⟩=some (.int .i64 y.kind)∧w.cell? ⟨b,o+i*4+1,none⟩=some (.string y.text)∧w.cell? ⟨b,o+i*4+2,none⟩=some (.int .i64 y.i)∧w.cell? ⟨b,o+i*4+3,none⟩=some kv∧Qf w kv y.kids)∧y.text.size≤140737488355328) (fun i hi=>by
  obtain⟨cs,Pl,Qnm,hc,ht⟩:=hx i hi Om
  match cs,Qnm with
  |[u0,u1,u2,u3],_ =>
   obtain⟨y0,y1,y2,y3,n,hy,_,h0,h1,h2,h3⟩:=trod_struct4 underlying120 ht;have c1:prog.cellsOf 9=1:=Kf
   have c2:prog.cellsOf 3=1:=Kf
   have c3:prog.cellsOf 26=1:=Kf
   obtain⟨m0,e0,rfl,_⟩:=DataW.trod_int underlying3 h0;obtain⟨s,e1,rfl,_⟩:=DataW.trod_string underlying9 h1;obtain⟨m2,e2,rfl,_⟩:=DataW.trod_int underlying3 h2;simp[c2] at e0;simp[c1] at e1;simp[c2] at e2;simp[c3] at h3;have hDi:D i=.agg [.lit (.int .i64 m0),.lit (.string s.data.toList),.lit (.int .i64 m2),y3.1]:=(Prod.mk.inj hy).1;have hf:=hD i hi;rw[hDi] at hf;have hs:s.size≤140737488355328:=(hf.part underlying120 (j:=1) rfl rfl).text;obtain⟨ks,hk⟩:=Qbg h3 (hf.part underlying120 (j:=3) rfl rfl);subst e0;subst e1;subst e2;exact⟨⟨m0,s,m2,ks⟩,⟨u3,hc 0 Om,hc 1 Om,hc 2 Om,hc 3 Om,hk⟩,hs⟩)
 refine⟨ns,⟨A,b,o,cap,rfl,hl,hlc,fun h0=>hA h0 Om,fun j y hy=>(hns j y hy).1⟩,fun d hd=>?_⟩
 obtain⟨j,hj⟩:=List.mem_iff_getElem?.1 hd;exact (hns j d hj).2
theorem Qki {r:Reach} {b0:Nat} {d:DataW H} {p:List MemPlace} (hv:Value.okWide prog w r b0 24 v) (h:DataW.Trod enc prog w base sp Qr7 24 v d p) (hz:Fit 24 d):∃rr,Q20 w v rr∧Q2e rr:=by
 obtain⟨v0,v1,v2,y0,y1,y2,n,rfl,rfl,_,h0,h1,h2⟩:=open_agg3 underlying24 Kf Kf hv h;obtain⟨l0,r0,z0⟩:=Q66 h0 (hz.part underlying24 (j:=0) rfl rfl);obtain⟨l1,r1,z1⟩:=Q66 h1 (hz.part underlying24 (j:=1) rfl rfl);obtain⟨l2,r2,z2⟩:=Q66 h2 (hz.part underlying24 (j:=2) rfl rfl);exact⟨⟨l0,l1,l2⟩,⟨v0,v1,v2,rfl,r0,r1,r2⟩,fun d hd=>hd.elim (z0 d) (fun hd=>hd.elim (z1 d) (z2 d))⟩
theorem Qi5 {r:Reach} {b0:Nat} {d:DataW H} {p:List MemPlace} (hv:Value.okWide prog w r b0 28 v) (h:DataW.Trod enc prog w base sp Qr7 28 v d p) (hz:Fit 28 d):∃tt,Xt w v tt∧Q0i tt:=by
 obtain⟨v0,v1,y0,y1,n,rfl,rfl,_,h0,h1⟩:=open_agg2 underlying28 Kf Kf hv h;obtain⟨l0,r0,z0⟩:=Qfw h0 (hz.part underlying28 (j:=0) rfl rfl);obtain⟨l1,r1⟩:=Qbg h1 (hz.part underlying28 (j:=1) rfl rfl);exact⟨⟨l0,l1⟩,⟨v0,v1,rfl,r0,r1⟩,z0⟩
end
end Go.Proofs.YtkgkafjachjafaaGreat
