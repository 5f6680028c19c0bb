/- Part 7 of: FnExactPrune answers true; no condition. -/
import Derived.BigQuiet
import Derived.Test.YtkgkafjachjafaaGreatZ06
set_option linter.unusedVariables false
set_option maxHeartbeats 1000000
open Go Go.RowKit
namespace Go.Proofs.YtkgkafjachjafaaGreat
open Tryz
section
variable {S:Nat→Prop} {w:World} {cb tb to:Nat} {s:CS} {kv bv lv tv wv:Value}
theorem Zg {ra:Addr} (h:J0 S w cb ra ⟨tb,to,none⟩ s kv bv lv tv wv) (t:Q1) (ht:J7 w tb to t) (h0:0≤s.top) (h1:s.top<t.nodes.length) (kind:Int) :
  Calls prog 164 #[.pointer (some ⟨cb,0,none⟩),.int .i64 kind] w fun e w'=>e=.returned (.bool (Yl t s kind))∧Q0 nob w w':=by
 obtain⟨E,hE⟩:∃E,s.inEach=E:=⟨_,rfl⟩;obtain⟨I,hI⟩:∃I,s.inHear=I:=⟨_,rfl⟩;obtain⟨m,hm⟩:=En h0;have c1:w.cell? ⟨cb,1,none⟩=some (.pointer (some ⟨tb,to,none⟩)):=h.blk.cell 1 _ rfl;have c8:w.cell? ⟨cb,8,none⟩=some (.int .i64 (m:Int)):=hm▸h.blk.cell 8 _ rfl;have c10:w.cell? ⟨cb,10,none⟩=some (.bool E):=hE▸h.blk.cell 10 _ rfl;have c11:w.cell? ⟨cb,11,none⟩=some (.bool I):=hI▸h.blk.cell 11 _ rfl;obtain⟨nd,hnd⟩:=Q3 (xs:=t.nodes) (j:=m) (by omega);have hat:=Q1.at_of hnd;obtain⟨nv,tv2,n0,n1,hnv,_⟩:=ht;obtain⟨nA,nb,no,nc,rfl,hnl,Qom,hnA,hnc⟩:=hnv;obtain⟨kx,e0,_⟩:=hnc m nd hnd;obtain rfl:=hnA (by omega);have hml:m<t.nodes.length:=by omega
 have HT:=Hh hm;have HE:=Hh hE;have HI:=Hh hI;have HAT:=Hh hat;clear h hnc hnd hat hnA hE hI hm h0 h1
 by_cases k1:kind=5∨kind=11∨kind=14∨kind=22∨kind=23∨kind=24
 ·rcases k1 with rfl|rfl|rfl|rfl|rfl|rfl
  all_goals
   go_enter func164,ntmps164;go_wp2_with fail;go_ret;exact⟨Q6 (by simp[Yl,HE.o]),by first|exact Kr _ _|exact (Kr _ _).drewN _⟩
 by_cases k2:kind=18∨kind=20
 ·obtain⟨K,hK⟩:∃K,nd.kind=K:=⟨_,rfl⟩
  rw[hK] at e0;have HK:=Hh hK;clear hK
  by_cases k34:K=34
  ·subst k34
   rcases k2 with rfl|rfl<;>cases E<;>cases I
   all_goals
    go_enter func164,ntmps164;go_wp2_with fail;go_quiet (fail);go_wp2_with fail;go_ret;exact⟨Q6 (by simp[Yl,HT.o,HE.o,HI.o,HAT.o,HK.o]),by first|exact Kr _ _|exact (Kr _ _).drewN _⟩
  ·have t34:(K==34)=false:=by simp[k34]
   rcases k2 with rfl|rfl
   all_goals
    go_enter func164,ntmps164;go_wp2_with fail;go_quiet (fail);go_wp2_with fail;go_ret;exact⟨Q6 (by simp[Yl,HT.o,HE.o,HI.o,HAT.o,HK.o,k34]),by first|exact Kr _ _|exact (Kr _ _).drewN _⟩
 have HM:Hi (Yl t s kind=(kind != 26)):=Hh (by unfold Yl;rw[Ng k1,Ng k2]);simp only[not_or] at k1 k2;obtain⟨a1,a2,a3,a4,a5,a6⟩:=k1;obtain⟨b1,b2⟩:=k2;go_enter func164,ntmps164;go_wp2_with fail;go_ret;exact⟨Q6 HM.o.symm,by first|exact Kr _ _|exact (Kr _ _).drewN _⟩
end
end Go.Proofs.YtkgkafjachjafaaGreat
