/- Part 0 of: FnExactEffects answers true; no condition. -/
import Derived.Test.YtkgkafjachjafaaGreatProg
import Derived.WalkKit
import Derived.KernelRfl
import Derived.Lib.Hide
import Derived.Maps.AppendAt
import Derived.BigQuiet
import Derived.Deep.QuietTactic
import Derived.Deep.RegionHeld3
set_option linter.unusedVariables false
open Go Go.RowKit
namespace Go.Proofs.YtkgkafjachjafaaGreat
open Tryz
def Hi (p:Prop):Prop:=p
theorem Hi.o {p:Prop} (h:Hi p):p:=h
theorem Hh {p:Prop} (h:p):Hi p:=h
theorem Ng.{u} {c:Prop} {h:Decidable c} (n:¬c) {α:Sort u} {a b:α}:(ite c a b)=b:=if_neg n
theorem Ps.{u} {c:Prop} {h:Decidable c} (n:c) {α:Sort u} {a b:α}:(ite c a b)=a:=if_pos n
theorem Df {p:Prop} [h:Decidable p] (n:¬p):decide p=false:=decide_eq_false n
theorem Dt {p:Prop} [h:Decidable p] (n:p):decide p=true:=decide_eq_true n
theorem Mg {α:Type} {l:List α} {i:Nat} {a:α} (h:l[i]?=some a):a∈l:=List.mem_of_getElem? h
theorem Gs {α:Type} {l:List α} {i:Nat} {a:α} (h:l[i]?=some a):∃h:i<l.length,l[i]=a:=List.getElem?_eq_some_iff.1 h
theorem En {a:Int} (h:0≤a):∃n:Nat,a=n:=Int.eq_ofNat_of_zero_le h
theorem Om {p:Prop} (h:p:=by omega):p:=h
theorem Dc {p:Prop} (h:p:=by decide):p:=h
theorem Kf {p:Prop} (h:p:=by kernel_rfl):p:=h
theorem Sm {p:Prop} (h:p:=by simp):p:=h
theorem So {p:Prop} (h:p:=by simp;omega):p:=h
theorem Gm {p:Prop} (h:p:=by go_num):p:=h
theorem Dn {α:Type} {l:List α} {i:Nat} (h:l.length≤i):l.drop i=[]:=List.drop_eq_nil_of_le h
structure Q0 (S:Nat→Prop) (w w':World):Prop where
 os:w'.os=w.os
 tape:w'.tape=w.tape
 output:w'.output=w.output
 size:w.heap.size≤w'.heap.size
 block:∀k,k<w.heap.size→¬ S k→w'.heap[k]?=w.heap[k]?
def nob:Nat→Prop:=fun _=>False
def Q6 (B:Nat):Nat→Prop:=fun k=>B≤k
namespace Q0
variable {S S':Nat→Prop} {w w0 w1 w':World}
theorem refl (S:Nat→Prop) (w:World):Q0 S w w:=⟨rfl,rfl,rfl,Nat.le_refl _,fun _ _ _=>rfl⟩
theorem mono (h:Q0 S w w') (hs:∀k,k<w.heap.size→S k→S' k):Q0 S' w w':=⟨h.os,h.tape,h.output,h.size,fun k hk hn=>h.block k hk (fun hS=>hn (hs k hk hS))⟩
theorem ofNob (h:Q0 YtkgkafjachjafaaGreat.nob w w') (S:Nat→Prop):Q0 S w w':=h.mono (fun _ _ h=>h.elim)
theorem trans (h:Q0 S w0 w) (k:Q0 S w w1):Q0 S w0 w1 :=
 ⟨k.os.trans h.os,k.tape.trans h.tape,k.output.trans h.output,Nat.le_trans h.size k.size,fun i hi hn=>(k.block i (Nat.lt_of_lt_of_le hi h.size) hn).trans (h.block i hi hn)⟩
theorem then_ (h:Q0 S w0 w) (k:Q0 S' w w1) (hs:∀k,S' k→S k∨w0.heap.size≤k):Q0 S w0 w1 :=
 ⟨k.os.trans h.os,k.tape.trans h.tape,k.output.trans h.output,Nat.le_trans h.size k.size,fun i hi hn =>
  (k.block i (Nat.lt_of_lt_of_le hi h.size) (fun hS=>(hs i hS).elim hn (fun hle=>by omega))).trans (h.block i hi hn)⟩
theorem thenNob (h:Q0 S w0 w) (k:Q0 YtkgkafjachjafaaGreat.nob w w1):Q0 S w0 w1:=h.then_ k (fun _ h=>h.elim)
theorem below (h:Q0 YtkgkafjachjafaaGreat.nob w w'):Below w.heap.size w w':=⟨h.os,h.tape,h.output,h.size,fun k hk=>h.block k hk (fun h=>h)⟩
theorem alloc (h:Q0 S w0 w) (o:Obj):Q0 S w0 (w.alloc o) :=
 h.then_ (S':=YtkgkafjachjafaaGreat.nob) ⟨rfl,rfl,rfl,Sm,fun k hk _=>Below.heap_alloc _ _ _ hk⟩ (fun _ h=>h.elim)
theorem drew (h:Q0 S w0 w):Q0 S w0 w.drew:=⟨h.os,h.tape,h.output,h.size,h.block⟩
theorem drewN (h:Q0 S w0 w) (n:Nat):Q0 S w0 (w.drewN n):=⟨h.os,h.tape,h.output,h.size,h.block⟩
theorem undrew (h:Q0 S w.drew w'):Q0 S w w':=⟨h.os,h.tape,h.output,h.size,h.block⟩
theorem setCell (h:Q0 S w0 w) {p:Addr} (hp:S p.block∨w0.heap.size≤p.block) (u:Value):Q0 S w0 (w.setCell p u) :=
 h.then_ (S':=fun k=>k=p.block) ⟨rfl,rfl,rfl,by simp[World.setCell],fun k hk hn=>Below.heap_setCell _ _ _ _ hn⟩ (fun k hk=>by rw[hk];exact hp)
theorem grown (h:Q0 S w0 w) {row:Option Nat} (hg:w.grownBy w1 row) (hr:∀k,row=some k→S k∨w0.heap.size≤k):Q0 S w0 w1 :=
 h.then_ (S':=fun k=>row=some k) ⟨hg.os,hg.tape,hg.output,hg.size,fun k hk hn=>hg.block k hk (fun e=>hn e.symm)⟩ hr
theorem cell (h:Q0 S w w') {a:Addr} {v:Value} (hn:¬ S a.block) (hc:w.cell? a=some v):w'.cell? a=some v:=by
 have:=h.block a.block (World.block_lt_of_cell? w a hc) hn;simpa[World.cell?,this] using hc
end Q0
theorem Kr (S:Nat→Prop) (w:World):Q0 S w w:=.refl S w
theorem Ka {S:Nat→Prop} {w v:World} (h:Q0 S w v) (o:Obj):Q0 S w (v.alloc o):=h.alloc o
theorem Kd {S:Nat→Prop} {w v:World} (h:Q0 S w v):Q0 S w v.drew:=h.drew
theorem Kn {S:Nat→Prop} {w v:World} (h:Q0 S w v) (n:Nat):Q0 S w (v.drewN n):=h.drewN n
theorem Ku {S:Nat→Prop} {w v:World} (h:Q0 S w.drew v):Q0 S w v:=h.undrew
theorem Kt {S:Nat→Prop} {u w v:World} (h:Q0 S u w) (k:Q0 S w v):Q0 S u v:=h.trans k
theorem Kz {p:Prop} (h:p:=by repeat' first|exact Kr _ _|apply Ka|apply Kd|apply Kn):p:=h
theorem Ke {p:Prop} (h:p:=by first|assumption|exact (Kr _ _).alloc _|exact Ka ‹_› _|exact Ka (Ku ‹_›) _|exact Ka (Kt ‹_› ‹_›) _|exact Ka (Kt (Ku ‹_›) ‹_›) _):p:=h
theorem Kg {p:Prop} (h:p:=by first|exact Q5t _|exact Q5u.old ‹_› Ke):p:=h
theorem Ki {p:Prop} (h:p:=by first|assumption|exact Kd ‹_›|exact Ka (Kd ‹_›) _|exact Ka ‹_› _):p:=h
theorem Me {p:Prop} (h:p:=by simp[intOf];omega):p:=h
theorem Ky {p:Prop} (h:p:=by repeat' first|assumption|exact Kr _ _|apply Ka|apply Kd|apply Kn):p:=h
theorem Kx {p:Prop} (h:p:=by repeat' first|exact Kr _ _|apply Ka|apply Kd|apply Kn|assumption):p:=h
def Blk (w:World) (b:Nat) (cs:List Value) (T:Nat):Prop:=w.heap[b]?=some (.cells cs.toArray T (0,0))
namespace Blk
variable {w w':World} {b T:Nat} {cs:List Value} {S:Nat→Prop}
theorem lt (h:Blk w b cs T):b<w.heap.size:=by
 rcases Nat.lt_or_ge b w.heap.size with h'|h'
 ·exact h'
 ·rw[Blk,Array.getElem?_eq_none h'] at h;cases h
theorem cell (h:Blk w b cs T) (i:Nat) (v:Value) (hi:cs[i]?=some v):w.cell? ⟨b,i,none⟩=some v:=by
 simp[World.cell?,show w.heap[b]?=_ from h,hi]
theorem free (h:Blk w b cs T) (i:Nat):w.frozen? ⟨b,i,none⟩=false:=by
 simp[World.frozen?,show w.heap[b]?=_ from h]
theorem kept (h:Blk w b cs T) (k:Q0 S w w') (hn:¬ S b):Blk w' b cs T:=(k.block b h.lt hn).trans h
theorem alloc (h:Blk w b cs T) (o:Obj):Blk (w.alloc o) b cs T:=(Below.heap_alloc w o b h.lt).trans h
theorem drew (h:Blk w b cs T):Blk w.drew b cs T:=h
theorem drewN (h:Blk w b cs T) (n:Nat):Blk (w.drewN n) b cs T:=h
theorem other (h:Blk w b cs T) {p:Addr} (hp:b≠p.block) (u:Value):Blk (w.setCell p u) b cs T:=(Below.heap_setCell w p u b hp).trans h
theorem set (h:Blk w b cs T) (i:Nat) (u:Value):Blk (w.setCell ⟨b,i,none⟩ u) b (cs.set i u) T:=by
 have hl:=h.lt
 show (w.heap.modify b _)[b]?=_
 rw[Array.getElem?_modify,Ps rfl,show w.heap[b]?=_ from h];simp
theorem new (w:World) (cs:List Value) (T:Nat):Blk (w.alloc (.cells cs.toArray T (0,0))) w.heap.size cs T:=by
 show (w.heap.push _)[w.heap.size]?=_
 simp
theorem new_of (w:World) (cs:List Value) (T:Nat) {b:Nat} (hb:b=w.heap.size):Blk (w.alloc (.cells cs.toArray T (0,0))) b cs T:=hb▸new w cs T
end Blk
def Xi (w w':World):Prop:=∀k,k<w.heap.size→w'.heap[k]?=w.heap[k]?
theorem Xi.cell {w w':World} (h:Xi w w') {a:Addr} {v:Value} (hc:w.cell? a=some v):w'.cell? a=some v:=by
 have:=h a.block (World.block_lt_of_cell? w a hc);simpa[World.cell?,this] using hc
theorem Q0.old {w w':World} (h:Q0 nob w w'):Xi w w':=fun k hk=>h.block k hk (fun h=>h)
theorem Q0.oldS {S:Nat→Prop} {w w':World} (h:Q0 S w w') (hs:∀k,k<w.heap.size→¬ S k):Xi w w':=fun k hk=>h.block k hk (hs k hk)
def Qj (S:Nat→Prop) (w:World) (φ:World→Prop):Prop:=∀w',Q0 S w w'→φ w'
theorem Qj.now {S:Nat→Prop} {w:World} {φ:World→Prop} (h:Qj S w φ):φ w:=h w (Kr S w)
theorem Qj.kept {S:Nat→Prop} {w w':World} {φ:World→Prop} (h:Qj S w φ) (k:Q0 S w w'):Qj S w' φ:=fun w2 k2=>h w2 (k.trans k2)
theorem Qj.mono {S S':Nat→Prop} {w:World} {φ:World→Prop} (h:Qj S w φ) (hs:∀k,k<w.heap.size→S' k→S k):Qj S' w φ:=fun w2 k2=>h w2 (k2.mono hs)
structure Zt where
 name:ByteArray
 kind:Int
structure Reg where
 comps:List Zt
 ress:List Zt
 evts:List Zt
structure Qn where
 kind:Int
 text:ByteArray
 i:Int
 kids:List Int
structure Q1 where
 nodes:List Qn
 tops:List Int
def Qf (w:World) (v:Value) (xs:List Int):Prop :=
 ∃A b o c,v=.slice A xs.length c∧xs.length≤140737488355328∧xs.length≤c∧(0<xs.length→A=some ⟨b,o,none⟩) ∧
  ∀j x,xs[j]?=some x→w.cell? ⟨b,o+j,none⟩=some (.int .i64 x)
def Q0g (w:World) (v:Value) (xs:List ByteArray):Prop :=
 ∃A b o c,v=.slice A xs.length c∧xs.length≤140737488355328∧xs.length≤c∧(0<xs.length→A=some ⟨b,o,none⟩) ∧
  ∀j x,xs[j]?=some x→w.cell? ⟨b,o+j,none⟩=some (.string x)
def Ji (w:World) (v:Value) (xs:List Zt):Prop :=
 ∃A b o c,v=.slice A xs.length c∧xs.length≤140737488355328∧xs.length≤c∧(0<xs.length→A=some ⟨b,o,none⟩) ∧
  ∀j x,xs[j]?=some x→w.cell? ⟨b,o+j*2,none⟩=some (.string x.name)∧w.cell? ⟨b,o+j*2+1,none⟩=some (.int .i64 x.kind)
def Xg (w:World) (v:Value) (xs:List Qn):Prop :=
 ∃A b o c,v=.slice A xs.length c∧xs.length≤140737488355328∧xs.length≤c∧(0<xs.length→A=some ⟨b,o,none⟩) ∧
  ∀j x,xs[j]?=some x→∃kv,w.cell? ⟨b,o+j*4,none⟩=some (.int .i64 x.kind)∧w.cell? ⟨b,o+j*4+1,none⟩=some (.string x.text) ∧
   w.cell? ⟨b,o+j*4+2,none⟩=some (.int .i64 x.i)∧w.cell? ⟨b,o+j*4+3,none⟩=some kv∧Qf w kv x.kids
def Xa (w:World) (b o:Nat) (r:Reg):Prop :=
 ∃v0 v1 v2,w.cell? ⟨b,o,none⟩=some v0∧w.cell? ⟨b,o+1,none⟩=some v1∧w.cell? ⟨b,o+2,none⟩=some v2∧Ji w v0 r.comps∧Ji w v1 r.ress∧Ji w v2 r.evts
def Q20 (w:World) (v:Value) (r:Reg):Prop:=∃v0 v1 v2,v=.agg #[v0,v1,v2]∧Ji w v0 r.comps∧Ji w v1 r.ress∧Ji w v2 r.evts
def J8 (w:World) (b o:Nat) (t:Q1):Prop :=
 ∃v0 v1,w.cell? ⟨b,o,none⟩=some v0∧w.cell? ⟨b,o+1,none⟩=some v1∧Xg w v0 t.nodes∧Qf w v1 t.tops
def Xt (w:World) (v:Value) (t:Q1):Prop:=∃v0 v1,v=.agg #[v0,v1]∧Xg w v0 t.nodes∧Qf w v1 t.tops
section
variable {w w':World} {v:Value} {b o:Nat}
theorem Qf.old {xs:List Int} (h:Qf w v xs) (k:Xi w w'):Qf w' v xs:=by
 obtain⟨A,b,o,c,hv,hl,hlc,hA,hc⟩:=h;exact⟨A,b,o,c,hv,hl,hlc,hA,fun j x hx=>k.cell (hc j x hx)⟩
theorem Q0g.old {xs:List ByteArray} (h:Q0g w v xs) (k:Xi w w'):Q0g w' v xs:=by
 obtain⟨A,b,o,c,hv,hl,hlc,hA,hc⟩:=h;exact⟨A,b,o,c,hv,hl,hlc,hA,fun j x hx=>k.cell (hc j x hx)⟩
theorem Ji.old {xs:List Zt} (h:Ji w v xs) (k:Xi w w'):Ji w' v xs:=by
 obtain⟨A,b,o,c,hv,hl,hlc,hA,hc⟩:=h;exact⟨A,b,o,c,hv,hl,hlc,hA,fun j x hx=>⟨k.cell (hc j x hx).1,k.cell (hc j x hx).2⟩⟩
theorem Xg.old {xs:List Qn} (h:Xg w v xs) (k:Xi w w'):Xg w' v xs:=by
 obtain⟨A,b,o,c,hv,hl,hlc,hA,hc⟩:=h
 refine⟨A,b,o,c,hv,hl,hlc,hA,fun j x hx=>?_⟩
 obtain⟨kv,h0,h1,h2,h3,h4⟩:=hc j x hx;exact⟨kv,k.cell h0,k.cell h1,k.cell h2,k.cell h3,h4.old k⟩
theorem Xa.old {r:Reg} (h:Xa w b o r) (k:Xi w w'):Xa w' b o r:=by
 obtain⟨v0,v1,v2,h0,h1,h2,h3,h4,h5⟩:=h;exact⟨v0,v1,v2,k.cell h0,k.cell h1,k.cell h2,h3.old k,h4.old k,h5.old k⟩
theorem Q20.old {r:Reg} (h:Q20 w v r) (k:Xi w w'):Q20 w' v r:=by
 obtain⟨v0,v1,v2,h0,h3,h4,h5⟩:=h;exact⟨v0,v1,v2,h0,h3.old k,h4.old k,h5.old k⟩
theorem J8.old {t:Q1} (h:J8 w b o t) (k:Xi w w'):J8 w' b o t:=by
 obtain⟨v0,v1,h0,h1,h2,h3⟩:=h;exact⟨v0,v1,k.cell h0,k.cell h1,h2.old k,h3.old k⟩
theorem Xt.old {t:Q1} (h:Xt w v t) (k:Xi w w'):Xt w' v t:=by
 obtain⟨v0,v1,h0,h2,h3⟩:=h;exact⟨v0,v1,h0,h2.old k,h3.old k⟩
end
def Q5 (xs:List Int):List Value:=xs.map fun x=>.int .i64 x
def Q5u (k:IntKind) (fv:Value) (p:Int→Bool) (w:World):Prop :=
 ∃f cap,fv=.func (.func f) #[] cap∧(∀args w',(callFunc f args).run prog w'=.ok (.enter f args) w')∧∀x w',Q0 nob w w'→Calls prog f (#[.int k x]++cap) w' fun e w''=>e=.returned (.bool (p x))∧w'=w''
theorem Q5u.old {k:IntKind} {fv:Value} {p:Int→Bool} {w w':World} (h:Q5u k fv p w) (hk:Q0 nob w w'):Q5u k fv p w':=by
 obtain⟨f,cap,e,he,hc⟩:=h;exact⟨f,cap,e,he,fun x w2 k2=>hc x w2 (hk.trans k2)⟩
theorem Yh {P:Program} {f:FuncId} {args:Array Value} {w:World} {n:Nat} {v:Value}
  (h:Calls P f args (w.drewN n) fun e w'=>e=.returned v∧w.drewN n=w'):Calls P f args (w.drewN n) fun e w''=>e=.returned v∧∃m,w''=w.drewN m :=
 h.mono fun _ _ ⟨he,hm⟩=>⟨he,n,hm.symm⟩
theorem Jo {k:IntKind} {a b:Int} (h:a=b):Ending.returned (.int k a)=.returned (.int k b):=by rw[h]
theorem Q7 {a b:Bool} (h:a=b):Ending.returned (.bool a)=.returned (.bool b):=by rw[h]
theorem Qh {α:Type} {xs:List α} {j:Nat} {x:α} (h:xs[j]?=some x):xs.drop j=x::xs.drop (j+1):=by
 obtain⟨hj,rfl⟩:=Gs h;exact List.drop_eq_getElem_cons hj
theorem Js {α:Type} {xs:List α} {j:Nat} {x:α} (h:xs[j]?=some x):xs.take (j+1)=xs.take j++[x]:=by
 rw[List.take_add_one,h];rfl
theorem Q4 {α:Type} {xs:List α} {j:Nat} (h:j<xs.length):∃x,xs[j]?=some x:=⟨_,List.getElem?_eq_getElem h⟩
theorem Qgl (a b:ByteArray):(a.toList==b.toList)=decide (a=b):=by
 have h:a.toList=b.toList↔a=b:=⟨fun h=>by
  rw[ByteArray.toList_eq,ByteArray.toList_eq] at h;cases a;cases b;simp at h;subst h;rfl,fun h=>by rw[h]⟩
 by_cases e:a=b
 ·simp[e]
 ·simp only[e,decide_false];rw[beq_eq_false_iff_ne];exact fun h'=>e (h.1 h')
theorem Q04 {a b:ByteArray} (h:(a.toList==b.toList)=true):a=b:=by rw[Qgl] at h;simpa using h
theorem Q1p {a b:ByteArray} (h:(a.toList==b.toList)=false):a≠b:=by rw[Qgl] at h;simpa using h
end Go.Proofs.YtkgkafjachjafaaGreat
