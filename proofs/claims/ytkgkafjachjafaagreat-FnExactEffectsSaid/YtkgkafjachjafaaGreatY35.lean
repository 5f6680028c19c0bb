/- Part 35 of: FnExactEffects answers true; no condition. -/
import Derived.Test.YtkgkafjachjafaaGreatY30
set_option linter.unusedVariables false
set_option maxHeartbeats 2000000
set_option maxRecDepth 100000
open Go Go.RowKit
namespace Go.Proofs.YtkgkafjachjafaaGreat
open Tryz
theorem Qdu (s:ByteArray):(s.toList==(⟨#[]⟩: ByteArray).toList)=s.toList.isEmpty:=by
 rw[show (⟨#[]⟩: ByteArray).toList=[] from by rw[ByteArray.toList_eq]];cases s.toList<;>rfl
def Q2l (n:Qn):Bool:=if n.kind=2 then Q1d n.text&&(n.i==0) else Q1c n&&Xk n
section
variable {s:ByteArray} {i k:Int} {A:Option Addr} {m c:Nat} {w:World}
theorem Qlp (hs:s.size≤140737488355328) (hk:k=2):Calls prog 135 #[.agg #[.int .i64 k,.string s,.int .i64 i,.slice A m c]] w fun e w'=>e=.returned (.bool (Q1d s&&(i==0)))∧Q0 nob w w':=by
 subst hk;have hb:=Blk.new w [.int .i64 2,.string s,.int .i64 i,.slice A m c] 70;have hk0:Q0 nob w (w.alloc (.cells #[.int .i64 2,.string s,.int .i64 i,.slice A m c] 70)):=(Kr _ _).alloc _;generalize hW0:w.alloc (.cells #[.int .i64 2,.string s,.int .i64 i,.slice A m c] 70)=W0 at hk0;replace hb:Blk W0 w.heap.size [.int .i64 2,.string s,.int .i64 i,.slice A m c] 70:=hW0▸hb;have g0:=hb.cell 0 _ rfl;have g1:=hb.cell 1 _ rfl;have g2:=hb.cell 2 _ rfl;have HK0:=Hh hk0;have HRO:=Hh (Qeg s W0 hs);cases hq:Q1d s
 all_goals
  have HB:=Hh hq;go_enter func135,ntmps135;go_wp2_with (go_at_call 180;refine HRO.o.mono ?_;rw[HB.o];rintro e w2 ⟨⟨v,rfl⟩,hk2⟩;have d2:=(hb.kept hk2 id).cell 2 _ rfl);go_returns;exact⟨Q7 Sm,HK0.o.trans hk2⟩
theorem Q81 {x:Bool} (hs:s.size≤140737488355328) (hk:(k=4∨k=5∨k=6∨k=7∨k=12∨k=13∨k=14∨k=15∨k=19∨k=20∨k=23∨k=24∨k=28∨k=31∨k=34)∧x=(i==0)∨(k=32∨k=33)∧x=Q9 i 1 4):Calls prog 135 #[.agg #[.int .i64 k,.string s,.int .i64 i,.slice A m c]] w fun e w'=>e=.returned (.bool (Q15 s&&x))∧Q0 nob w w':=by
 have hb:=Blk.new w [.int .i64 k,.string s,.int .i64 i,.slice A m c] 70;have hk0:Q0 nob w (w.alloc (.cells #[.int .i64 k,.string s,.int .i64 i,.slice A m c] 70)):=(Kr _ _).alloc _;generalize hW0:w.alloc (.cells #[.int .i64 k,.string s,.int .i64 i,.slice A m c] 70)=W0 at hk0;replace hb:Blk W0 w.heap.size [.int .i64 k,.string s,.int .i64 i,.slice A m c] 70:=hW0▸hb;have g0:=hb.cell 0 _ rfl;have g1:=hb.cell 1 _ rfl;have g2:=hb.cell 2 _ rfl;have HK0:=Hh hk0;rcases hk with ⟨rfl|rfl|rfl|rfl|rfl|rfl|rfl|rfl|rfl|rfl|rfl|rfl|rfl|rfl|rfl,rfl⟩|⟨rfl|rfl,rfl⟩
 all_goals
  cases hq:Q15 s
  all_goals
   have HB:=Hh hq;go_enter func135,ntmps135;go_wp2_with (first|(go_at_call 104;refine (Q3a s _ hs).mono ?_;rw[HB.o];rintro e w2 ⟨rfl,hk2⟩;have HK2:=Hh (HK0.o.trans hk2);have c0:=hb.kept hk2 id;have d0:=c0.cell 0 _ rfl;have d1:=c0.cell 1 _ rfl;have d2:=c0.cell 2 _ rfl;clear c0)|(go_at_call 105;refine (Zl _ _ _ _).mono ?_;rintro e w3 ⟨rfl,rfl⟩));go_returns;exact⟨Q7 Sm,HK2.o⟩
theorem Q34 {x:Bool} (hk:(k=10∨k=11∨k=16∨k=17∨k=18∨k=21∨k=22∨k=25∨k=26∨k=27∨k=29∨k=30)∧x=(i==0)∨k=1∧x=Q9 i 0 999999999999999∨k=8∧x=Q9 i 1 9∨k=9∧x=Q9 i 1 6):Calls prog 135 #[.agg #[.int .i64 k,.string s,.int .i64 i,.slice A m c]] w fun e w'=>e=.returned (.bool (s.toList.isEmpty&&x))∧Q0 nob w w':=by
 have ht:=Qdu s;have hb:=Blk.new w [.int .i64 k,.string s,.int .i64 i,.slice A m c] 70;have hk0:Q0 nob w (w.alloc (.cells #[.int .i64 k,.string s,.int .i64 i,.slice A m c] 70)):=(Kr _ _).alloc _;generalize hW0:w.alloc (.cells #[.int .i64 k,.string s,.int .i64 i,.slice A m c] 70)=W0 at hk0;replace hb:Blk W0 w.heap.size [.int .i64 k,.string s,.int .i64 i,.slice A m c] 70:=hW0▸hb;have g0:=hb.cell 0 _ rfl;have g1:=hb.cell 1 _ rfl;have g2:=hb.cell 2 _ rfl;have HK0:=Hh hk0;rcases hk with ⟨rfl|rfl|rfl|rfl|rfl|rfl|rfl|rfl|rfl|rfl|rfl|rfl,rfl⟩|⟨rfl,rfl⟩|⟨rfl,rfl⟩|⟨rfl,rfl⟩
 all_goals
  cases hq:s.toList.isEmpty
  all_goals
   rw[hq] at ht;go_enter func135,ntmps135;go_wp2_with (go_at_call 105;refine (Zl _ _ _ _).mono ?_;rintro e w3 ⟨rfl,rfl⟩);go_returns;exact⟨Q7 (by first|rfl|simp[hq]),HK0.o⟩
theorem Qlr (hk:k=3):Calls prog 135 #[.agg #[.int .i64 k,.string s,.int .i64 i,.slice A m c]] w fun e w'=>e=.returned (.bool (s.toList.isEmpty&&Q9 i 0 1))∧Q0 nob w w':=by
 subst hk;have hb:=Blk.new w [.int .i64 3,.string s,.int .i64 i,.slice A m c] 70;have hk0:Q0 nob w (w.alloc (.cells #[.int .i64 3,.string s,.int .i64 i,.slice A m c] 70)):=(Kr _ _).alloc _;generalize hW0:w.alloc (.cells #[.int .i64 3,.string s,.int .i64 i,.slice A m c] 70)=W0 at hk0;replace hb:Blk W0 w.heap.size [.int .i64 3,.string s,.int .i64 i,.slice A m c] 70:=hW0▸hb;have g0:=hb.cell 0 _ rfl;have g1:=hb.cell 1 _ rfl;have g2:=hb.cell 2 _ rfl;have HK0:=Hh hk0;have ht:=Qdu s;cases hq:s.toList.isEmpty with
 |false =>
  rw[hq] at ht;go_enter func135,ntmps135;go_wp2_with fail;go_returns;exact⟨Q7 Sm,HK0.o⟩
 |true =>
  rw[hq] at ht;cases h0:(i==0) with
  |true =>
   have e0:Hi (i=0):=Hh (by simpa using h0);go_enter func135,ntmps135;go_wp2_with fail;go_returns;exact⟨Q7 (by rw[e0.o];simp[Q9]),HK0.o⟩
  |false =>
   have e0:Hi (¬ i=0):=Hh (by simpa using h0);go_enter func135,ntmps135;go_wp2_with fail;go_returns;exact⟨Q7 (by simp[Q9];rw[Bool.eq_iff_iff];simp;have:=e0.o;omega),HK0.o⟩
theorem Qe4 (h1:1≤k∧k≤34) (hs:s.size≤140737488355328) (kids:List Int):Calls prog 135 #[.agg #[.int .i64 k,.string s,.int .i64 i,.slice A m c]] w fun e w'=>e=.returned (.bool (Q2l ⟨k,s,i,kids⟩))∧Q0 nob w w':=by
 rcases (by omega:(k=4∨k=5∨k=6∨k=7∨k=12∨k=13∨k=14∨k=15∨k=19∨k=20∨k=23∨k=24∨k=28∨k=31∨k=34)∨(k=32∨k=33)∨(k=10∨k=11∨k=16∨k=17∨k=18∨k=21∨k=22∨k=25∨k=26∨k=27∨k=29∨k=30)∨k=1∨k=8∨k=9∨k=2∨k=3) with h|h|h|h|h|h|h|h
 ·rw[show Q2l ⟨k,s,i,kids⟩=(Q15 s&&(i==0)) from by rcases h with rfl|rfl|rfl|rfl|rfl|rfl|rfl|rfl|rfl|rfl|rfl|rfl|rfl|rfl|rfl<;>simp[Q2l,Q1c,Xk]]
  exact Q81 hs (.inl ⟨h,rfl⟩)
 ·rw[show Q2l ⟨k,s,i,kids⟩=(Q15 s&&Q9 i 1 4) from by rcases h with rfl|rfl<;>simp[Q2l,Q1c,Xk]]
  exact Q81 hs (.inr ⟨h,rfl⟩)
 ·rw[show Q2l ⟨k,s,i,kids⟩=(s.toList.isEmpty&&(i==0)) from by rcases h with rfl|rfl|rfl|rfl|rfl|rfl|rfl|rfl|rfl|rfl|rfl|rfl<;>simp[Q2l,Q1c,Xk]]
  exact Q34 (.inl ⟨h,rfl⟩)
 ·rw[show Q2l ⟨k,s,i,kids⟩=(s.toList.isEmpty&&Q9 i 0 999999999999999) from by subst h;simp[Q2l,Q1c,Xk]]
  exact Q34 (.inr (.inl ⟨h,rfl⟩))
 ·rw[show Q2l ⟨k,s,i,kids⟩=(s.toList.isEmpty&&Q9 i 1 9) from by subst h;simp[Q2l,Q1c,Xk]]
  exact Q34 (.inr (.inr (.inl ⟨h,rfl⟩)))
 ·rw[show Q2l ⟨k,s,i,kids⟩=(s.toList.isEmpty&&Q9 i 1 6) from by subst h;simp[Q2l,Q1c,Xk]]
  exact Q34 (.inr (.inr (.inr ⟨h,rfl⟩)))
 ·rw[show Q2l ⟨k,s,i,kids⟩=(Q1d s&&(i==0)) from by subst h;simp[Q2l]]
  exact Qlp hs h
 ·rw[show Q2l ⟨k,s,i,kids⟩=(s.toList.isEmpty&&Q9 i 0 1) from by subst h;simp[Q2l,Q1c,Xk]]
  exact Qlr h
end
end Go.Proofs.YtkgkafjachjafaaGreat
