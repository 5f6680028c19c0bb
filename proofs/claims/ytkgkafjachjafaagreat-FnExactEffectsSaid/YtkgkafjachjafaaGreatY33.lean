/- Part 33 of: FnExactEffects answers true; no condition. -/
import Derived.Test.YtkgkafjachjafaaGreatY29
import Derived.Test.YtkgkafjachjafaaGreatY30
set_option linter.unusedVariables false
set_option maxHeartbeats 20000000
set_option maxRecDepth 100000
open Go Go.RowKit
namespace Go.Proofs.YtkgkafjachjafaaGreat
open Tryz
section
variable {w:World} {wb gb:Nat} {r0 r1 r2 t0 t1 ov:Value} {s:SS} {nv kv wv:Value} {r:Reg} {t:Q1} {X:SS} {i:Int}
theorem Qhz (h:SpR w wb gb r0 r1 r2 t0 t1 ov s nv kv wv) (F:Xl (at2 wb gb) w r t r0 r1 r2 t0 t1) (hi:InT t i) (hst:Zx t s i=false):Calls prog 181 #[.pointer (some ⟨wb,0,none⟩),.int .i64 i] w fun e w'=>e=.returned (.tuple #[])∧AtX w wb gb r0 r1 r2 t0 t1 ov (s.fail 5 i) w':=by
 have hsd:=Q1y h F hi;rw[hst] at hsd;have HSD:=Hh hsd;have HH:=Hh h;clear hsd h F hi hst;go_enter func181,ntmps181;go_wp2_with (first|(go_at_call 204;refine HSD.o.mono ?_;rintro e w1 ⟨rfl,rfl⟩)|(go_at_call 136;refine (Qw HH.o _ _).mono ?_;rintro e w2 ⟨rfl,hat⟩));go_returns;exact⟨rfl,_,_,_,hat⟩
theorem Xd (h:SpR w wb gb r0 r1 r2 t0 t1 ov s nv kv wv) (F:Xl (at2 wb gb) w r t r0 r1 r2 t0 t1) (hi:InT t i) (hst:Zx t s i=true) {k:Int} (hkd:(t.at i).kind=k) {fn:Nat} {ex:List Value}
  (hm:(k,fn,ex)∈[(12,205,[]),(13,205,[]),(14,206,[.int .i64 1]),(23,206,[.int .i64 1]),(15,206,[.int .i64 2]),(19,206,[.int .i64 3]),(16,207,[.int .i64 4]),(17,207,[.int .i64 1]),(18,208,[]),(20,209,[]),(21,210,[])])
  (hC:∀W0 t0',SpR W0 wb gb r0 r1 r2 t0' t1 ov s nv kv wv→Xl (at2 wb gb) W0 r t r0 r1 r2 t0' t1→Calls prog fn (.pointer (some ⟨wb,0,none⟩)::.int .i64 i::ex).toArray W0 fun e w'=>e=.returned (.tuple #[])∧AtX W0 wb gb r0 r1 r2 t0' t1 ov X w'):Calls prog 181 #[.pointer (some ⟨wb,0,none⟩),.int .i64 i] w fun e w'=>e=.returned (.tuple #[])∧AtX w wb gb r0 r1 r2 t0 t1 ov X w':=by
 obtain⟨mi,rfl,hnd,nb,no,nc,A,kb,ko,kc,rfl,hl,hml,⟨c0,c1,c2,c3⟩,kl,klc,hA,W0,hW0,h0,F0,hk0,hbx,hkc,cw3,H0,HF0,HK0,HBX,HKC⟩:=h.nodeH F hi;have hsd:=Q1y h F hi;rw[hst] at hsd;have HSD:=Hh hsd;have HC:=Hh (hC W0 _ h0 F0);clear hC;obtain⟨z0,z1,z2,z3⟩:=hbx W0 (Kr _ _);clear hbx hkc hk0 F0 h0 F h hi hnd hst hsd;generalize hN:t.at (mi:Int)=n at *;clear hN;obtain⟨kd,tx,ni,ks⟩:=n;dsimp only at *;subst hkd;simp only[List.mem_cons,Prod.mk.injEq,List.not_mem_nil,or_false] at hm;rcases hm with ⟨rfl,rfl,rfl⟩|⟨rfl,rfl,rfl⟩|⟨rfl,rfl,rfl⟩|⟨rfl,rfl,rfl⟩|⟨rfl,rfl,rfl⟩|⟨rfl,rfl,rfl⟩|⟨rfl,rfl,rfl⟩|⟨rfl,rfl,rfl⟩|⟨rfl,rfl,rfl⟩|⟨rfl,rfl,rfl⟩|⟨rfl,rfl,rfl⟩
 all_goals
  go_enter func181,ntmps181;go_wp2_with (first|(go_at_call 204;refine HSD.o.mono ?_;rintro e w1 ⟨rfl,rfl⟩)|((first|go_at_call 205|go_at_call 206|go_at_call 207|go_at_call 208|go_at_call 209|go_at_call 210);refine HC.o.mono ?_;rintro e w2 ⟨rfl,hat⟩));go_returns;obtain⟨nv9,kv9,wv9,h9,k9⟩:=hat;exact⟨rfl,nv9,kv9,wv9,h9,HK0.o.trans k9⟩
theorem Qim (h:SpR w wb gb r0 r1 r2 t0 t1 ov s nv kv wv) (F:Xl (at2 wb gb) w r t r0 r1 r2 t0 t1) (hi:InT t i) (hst:Zx t s i=true) (hkd:(t.at i).kind=22):Calls prog 181 #[.pointer (some ⟨wb,0,none⟩),.int .i64 i] w fun e w'=>e=.returned (.tuple #[])∧AtX w wb gb r0 r1 r2 t0 t1 ov s w':=by
 obtain⟨mi,rfl,hnd,nb,no,nc,A,kb,ko,kc,rfl,hl,hml,⟨c0,c1,c2,c3⟩,kl,klc,hA,W0,hW0,h0,F0,hk0,hbx,hkc,cw3,H0,HF0,HK0,HBX,HKC⟩:=h.nodeH F hi;have hsd:=Q1y h F hi;rw[hst] at hsd;have HSD:=Hh hsd;obtain⟨z0,z1,z2,z3⟩:=hbx W0 (Kr _ _);clear hbx hkc hk0 F0 h0 F h hi hnd hst hsd;generalize hN:t.at (mi:Int)=n at *;clear hN;obtain⟨kd,tx,ni,ks⟩:=n;dsimp only at *;subst hkd;go_enter func181,ntmps181;go_wp2_with (go_at_call 204;refine HSD.o.mono ?_;rintro e w1 ⟨rfl,rfl⟩);go_returns;exact⟨rfl,_,_,_,H0.o,HK0.o⟩
theorem Qbe (h:SpR w wb gb r0 r1 r2 t0 t1 ov s nv kv wv) (F:Xl (at2 wb gb) w r t r0 r1 r2 t0 t1) (hi:InT t i) (hst:Zx t s i=true) (hkd:(t.at i).kind=24) {q:Bool} (hd:(J2 r 1 (t.at i).text==0)=q):Calls prog 181 #[.pointer (some ⟨wb,0,none⟩),.int .i64 i] w fun e w'=>e=.returned (.tuple #[])∧AtX w wb gb r0 r1 r2 t0 t1 ov (if q then s.fail 3 i else s) w':=by
 obtain⟨mi,rfl,hnd,nb,no,nc,A,kb,ko,kc,rfl,hl,hml,⟨c0,c1,c2,c3⟩,kl,klc,hA,W0,hW0,h0,F0,hk0,hbx,hkc,cw3,H0,HF0,HK0,HBX,HKC⟩:=h.nodeH F hi;have hsd:=Q1y h F hi;rw[hst] at hsd;have HSD:=Hh hsd;have HD:=Hh (Zd h0 F0 1 (t.at (mi:Int)).text);generalize J2 r 1 (t.at (mi:Int)).text=d at HD hd;obtain⟨z0,z1,z2,z3⟩:=hbx W0 (Kr _ _);clear hbx hkc hk0 F0 h0 F h hi hnd hst hsd;generalize hN:t.at (mi:Int)=n at *;clear hN;obtain⟨kd,tx,ni,ks⟩:=n;dsimp only at *;subst hkd;cases q
 all_goals
  go_enter func181,ntmps181;go_wp2_with (first|(go_at_call 204;refine HSD.o.mono ?_;rintro e w1 ⟨rfl,rfl⟩)|(go_at_call 211;refine HD.o.mono ?_;rintro e w2 ⟨rfl,hk2⟩;have H2:=Hh (H0.o.nobk hk2);have HK2:=Hh (hk2.ofNob (at2 wb gb));clear hk2)|(go_at_call 136;refine (Qw H2.o _ _).mono ?_;rintro e w3 ⟨rfl,hat⟩));go_returns
 ·exact⟨rfl,_,_,_,H2.o,HK0.o.trans HK2.o⟩
 ·exact⟨rfl,_,_,_,hat.1,(HK0.o.trans HK2.o).trans hat.2⟩
theorem Qao (h:SpR w wb gb r0 r1 r2 t0 t1 ov s nv kv wv) (F:Xl (at2 wb gb) w r t r0 r1 r2 t0 t1) (hi:InT t i) (hst:Zx t s i=true) (hkd:(t.at i).kind=25∨(t.at i).kind=26) {a:Int} {ks:List Int} (Qnf:(t.at i).kids=a::ks) {q:Int}
  (hC:∀W0 t0',SpR W0 wb gb r0 r1 r2 t0' t1 ov s nv kv wv→Xl (at2 wb gb) W0 r t r0 r1 r2 t0' t1→Calls prog 212 #[.pointer (some ⟨wb,0,none⟩),.int .i64 a] W0 fun e w'=>e=.returned (.int .i64 q)∧AtW W0 wb gb r0 r1 r2 t0' t1 ov X nv kv wv w'):Calls prog 181 #[.pointer (some ⟨wb,0,none⟩),.int .i64 i] w fun e w'=>e=.returned (.tuple #[])∧AtX w wb gb r0 r1 r2 t0 t1 ov X w':=by
 obtain⟨mi,rfl,hnd,nb,no,nc,A,kb,ko,kc,rfl,hl,hml,⟨c0,c1,c2,c3⟩,kl,klc,hA,W0,hW0,h0,F0,hk0,hbx,hkc,cw3,H0,HF0,HK0,HBX,HKC⟩:=h.nodeH F hi;have hsd:=Q1y h F hi;rw[hst] at hsd;have HSD:=Hh hsd;have HC:=Hh (hC W0 _ h0 F0);clear hC;have ze:=hkc 0 a (by rw[Qnf];rfl) W0 (Kr _ _);rw[Nat.add_zero] at ze;have Qo7:0<(t.at (mi:Int)).kids.length:=by rw[Qnf];simp
 obtain rfl:=hA Qo7;clear Qnf hA;obtain⟨z0,z1,z2,z3⟩:=hbx W0 (Kr _ _);clear hbx hkc hk0 F0 h0 F h hi hnd hst hsd;generalize hN:t.at (mi:Int)=n at *;clear hN;obtain⟨kd,tx,ni,ks⟩:=n;dsimp only at *;rcases hkd with rfl|rfl
 all_goals
  go_enter func181,ntmps181;go_wp2_with (first|(go_at_call 204;refine HSD.o.mono ?_;rintro e w1 ⟨rfl,rfl⟩)|(go_at_call 212;refine HC.o.mono ?_;rintro e w2 ⟨rfl,hat⟩));go_returns;exact⟨rfl,_,_,_,hat.1,HK0.o.trans hat.2⟩
end
end Go.Proofs.YtkgkafjachjafaaGreat
