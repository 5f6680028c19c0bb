/- Part 36 of x_holds; no condition. -/
import Derived.Test.YtkgkafjachjafaaGreatZ30
import Derived.Test.YtkgkafjachjafaaGreatZ32
set_option linter.unusedVariables false
set_option maxHeartbeats 2000000
set_option maxRecDepth 100000
open Go Go.RowKit
namespace Go.Proofs.YtkgkafjachjafaaGreat
open Tryz
section
variable {w:World} {wb gb:Nat} {r0 r1 r2 t0 t1 ov:Value} {s:SS} {nv kv wv:Value} {r:Reg} {t:Q1} {X:SS}
theorem Qh3 (h:SpR w wb gb r0 r1 r2 t0 t1 ov s nv kv wv) (F:Zb (at2 wb gb) w r t r0 r1 r2 t0 t1) {i:Int} (hi:InT t i) (hst:Jt t s i=false) :
  Calls prog 181 #[.pointer (some ⟨wb,0,none⟩),.int .i64 i] w fun e w'=>e=.returned (.tuple #[])∧AtX w wb gb r0 r1 r2 t0 t1 ov (s.fail 5 i) w':=by
 have hsd:=Jw h F hi;rw[hst] at hsd;have HSD:=Hh hsd;have HH:=Hh h;clear hsd h F hi hst;go_enter func181,ntmps181;go_wp2_with (first|(go_at_call 204;refine HSD.o.mono ?_;rintro e w1 ⟨rfl,rfl⟩)|(go_at_call 136;refine (Qu HH.o _ _).mono ?_;rintro e w2 ⟨rfl,hat⟩));go_returns;exact⟨rfl,_,_,_,hat⟩
theorem Qhb (h:SpR w wb gb r0 r1 r2 t0 t1 ov s nv kv wv) (F:Zb (at2 wb gb) w r t r0 r1 r2 t0 t1) {i:Int} (hi:InT t i) (hst:Jt t s i=true) (hkd:(t.at i).kind=12) (hC:∀W0 t0',SpR W0 wb gb r0 r1 r2 t0' t1 ov s nv kv wv→Zb (at2 wb gb) W0 r t r0 r1 r2 t0' t1→Calls prog 205 #[.pointer (some ⟨wb,0,none⟩),.int .i64 i] W0 fun e w'=>e=.returned (.tuple #[])∧AtX W0 wb gb r0 r1 r2 t0' t1 ov X w') :
  Calls prog 181 #[.pointer (some ⟨wb,0,none⟩),.int .i64 i] w fun e w'=>e=.returned (.tuple #[])∧AtX w wb gb r0 r1 r2 t0 t1 ov X w':=by
 obtain⟨mi,rfl,hnd⟩:=Q1.at_lt hi;obtain⟨nb,no,nc,A,kb,ko,kc,rfl,hl,hml,⟨c0,c1,c2,c3⟩,kl,klc,hA,W0,hW0,h0,F0,hk0,hbx,hkc⟩:=h.node F hnd;have cw3:w.cell? ⟨wb,3,none⟩=some (.slice (some ⟨nb,no,none⟩) t.nodes.length nc):=h.blk.cell 3 _ rfl;have H0:=Hh h0;have HF0:=Hh F0;have HK0:=Hh hk0;have HBX:=Hh hbx;have HKC:=Hh hkc;have HI:=Hh hi;have hsd:=Jw h F hi;rw[hst] at hsd;have HSD:=Hh hsd;have HC:=Hh (hC W0 _ h0 F0);clear hC;have tk12:((t.at (mi:Int)).kind==12)=true:=by rw[hkd];rfl
 have tk13:((t.at (mi:Int)).kind==13)=false:=by rw[hkd];rfl
 have tk14:((t.at (mi:Int)).kind==14)=false:=by rw[hkd];rfl
 have tk23:((t.at (mi:Int)).kind==23)=false:=by rw[hkd];rfl
 have tk15:((t.at (mi:Int)).kind==15)=false:=by rw[hkd];rfl
 have tk19:((t.at (mi:Int)).kind==19)=false:=by rw[hkd];rfl
 have tk16:((t.at (mi:Int)).kind==16)=false:=by rw[hkd];rfl
 have tk17:((t.at (mi:Int)).kind==17)=false:=by rw[hkd];rfl
 have tk18:((t.at (mi:Int)).kind==18)=false:=by rw[hkd];rfl
 have tk20:((t.at (mi:Int)).kind==20)=false:=by rw[hkd];rfl
 have tk21:((t.at (mi:Int)).kind==21)=false:=by rw[hkd];rfl
 have tk24:((t.at (mi:Int)).kind==24)=false:=by rw[hkd];rfl
 have tk25:((t.at (mi:Int)).kind==25)=false:=by rw[hkd];rfl
 have tk26:((t.at (mi:Int)).kind==26)=false:=by rw[hkd];rfl
 obtain⟨z0,z1,z2,z3⟩:=hbx W0 (Kr _ _);clear hkd hbx hkc hk0 F0 h0 F h hi hnd hst hsd hA;generalize hN:t.at (mi:Int)=n at *;clear hN;go_enter func181,ntmps181;go_wp2_with (first|(go_at_call 204;refine HSD.o.mono ?_;rintro e w1 ⟨rfl,rfl⟩)|(go_at_call 205;refine HC.o.mono ?_;rintro e w2 ⟨rfl,hat⟩));go_returns;obtain⟨nv9,kv9,wv9,h9,k9⟩:=hat;exact⟨rfl,nv9,kv9,wv9,h9,HK0.o.trans k9⟩
theorem Qht (h:SpR w wb gb r0 r1 r2 t0 t1 ov s nv kv wv) (F:Zb (at2 wb gb) w r t r0 r1 r2 t0 t1) {i:Int} (hi:InT t i) (hst:Jt t s i=true) (hkd:(t.at i).kind=13) (hC:∀W0 t0',SpR W0 wb gb r0 r1 r2 t0' t1 ov s nv kv wv→Zb (at2 wb gb) W0 r t r0 r1 r2 t0' t1→Calls prog 205 #[.pointer (some ⟨wb,0,none⟩),.int .i64 i] W0 fun e w'=>e=.returned (.tuple #[])∧AtX W0 wb gb r0 r1 r2 t0' t1 ov X w') :
  Calls prog 181 #[.pointer (some ⟨wb,0,none⟩),.int .i64 i] w fun e w'=>e=.returned (.tuple #[])∧AtX w wb gb r0 r1 r2 t0 t1 ov X w':=by
 obtain⟨mi,rfl,hnd⟩:=Q1.at_lt hi;obtain⟨nb,no,nc,A,kb,ko,kc,rfl,hl,hml,⟨c0,c1,c2,c3⟩,kl,klc,hA,W0,hW0,h0,F0,hk0,hbx,hkc⟩:=h.node F hnd;have cw3:w.cell? ⟨wb,3,none⟩=some (.slice (some ⟨nb,no,none⟩) t.nodes.length nc):=h.blk.cell 3 _ rfl;have H0:=Hh h0;have HF0:=Hh F0;have HK0:=Hh hk0;have HBX:=Hh hbx;have HKC:=Hh hkc;have HI:=Hh hi;have hsd:=Jw h F hi;rw[hst] at hsd;have HSD:=Hh hsd;have HC:=Hh (hC W0 _ h0 F0);clear hC;have tk12:((t.at (mi:Int)).kind==12)=false:=by rw[hkd];rfl
 have tk13:((t.at (mi:Int)).kind==13)=true:=by rw[hkd];rfl
 have tk14:((t.at (mi:Int)).kind==14)=false:=by rw[hkd];rfl
 have tk23:((t.at (mi:Int)).kind==23)=false:=by rw[hkd];rfl
 have tk15:((t.at (mi:Int)).kind==15)=false:=by rw[hkd];rfl
 have tk19:((t.at (mi:Int)).kind==19)=false:=by rw[hkd];rfl
 have tk16:((t.at (mi:Int)).kind==16)=false:=by rw[hkd];rfl
 have tk17:((t.at (mi:Int)).kind==17)=false:=by rw[hkd];rfl
 have tk18:((t.at (mi:Int)).kind==18)=false:=by rw[hkd];rfl
 have tk20:((t.at (mi:Int)).kind==20)=false:=by rw[hkd];rfl
 have tk21:((t.at (mi:Int)).kind==21)=false:=by rw[hkd];rfl
 have tk24:((t.at (mi:Int)).kind==24)=false:=by rw[hkd];rfl
 have tk25:((t.at (mi:Int)).kind==25)=false:=by rw[hkd];rfl
 have tk26:((t.at (mi:Int)).kind==26)=false:=by rw[hkd];rfl
 obtain⟨z0,z1,z2,z3⟩:=hbx W0 (Kr _ _);clear hkd hbx hkc hk0 F0 h0 F h hi hnd hst hsd hA;generalize hN:t.at (mi:Int)=n at *;clear hN;go_enter func181,ntmps181;go_wp2_with (first|(go_at_call 204;refine HSD.o.mono ?_;rintro e w1 ⟨rfl,rfl⟩)|(go_at_call 205;refine HC.o.mono ?_;rintro e w2 ⟨rfl,hat⟩));go_returns;obtain⟨nv9,kv9,wv9,h9,k9⟩:=hat;exact⟨rfl,nv9,kv9,wv9,h9,HK0.o.trans k9⟩
theorem Qgb (h:SpR w wb gb r0 r1 r2 t0 t1 ov s nv kv wv) (F:Zb (at2 wb gb) w r t r0 r1 r2 t0 t1) {i:Int} (hi:InT t i) (hst:Jt t s i=true) (hkd:(t.at i).kind=14) (hC:∀W0 t0',SpR W0 wb gb r0 r1 r2 t0' t1 ov s nv kv wv→Zb (at2 wb gb) W0 r t r0 r1 r2 t0' t1→Calls prog 206 #[.pointer (some ⟨wb,0,none⟩),.int .i64 i,.int .i64 1] W0 fun e w'=>e=.returned (.tuple #[])∧AtX W0 wb gb r0 r1 r2 t0' t1 ov X w') :
  Calls prog 181 #[.pointer (some ⟨wb,0,none⟩),.int .i64 i] w fun e w'=>e=.returned (.tuple #[])∧AtX w wb gb r0 r1 r2 t0 t1 ov X w':=by
 obtain⟨mi,rfl,hnd⟩:=Q1.at_lt hi;obtain⟨nb,no,nc,A,kb,ko,kc,rfl,hl,hml,⟨c0,c1,c2,c3⟩,kl,klc,hA,W0,hW0,h0,F0,hk0,hbx,hkc⟩:=h.node F hnd;have cw3:w.cell? ⟨wb,3,none⟩=some (.slice (some ⟨nb,no,none⟩) t.nodes.length nc):=h.blk.cell 3 _ rfl;have H0:=Hh h0;have HF0:=Hh F0;have HK0:=Hh hk0;have HBX:=Hh hbx;have HKC:=Hh hkc;have HI:=Hh hi;have hsd:=Jw h F hi;rw[hst] at hsd;have HSD:=Hh hsd;have HC:=Hh (hC W0 _ h0 F0);clear hC;have tk12:((t.at (mi:Int)).kind==12)=false:=by rw[hkd];rfl
 have tk13:((t.at (mi:Int)).kind==13)=false:=by rw[hkd];rfl
 have tk14:((t.at (mi:Int)).kind==14)=true:=by rw[hkd];rfl
 have tk23:((t.at (mi:Int)).kind==23)=false:=by rw[hkd];rfl
 have tk15:((t.at (mi:Int)).kind==15)=false:=by rw[hkd];rfl
 have tk19:((t.at (mi:Int)).kind==19)=false:=by rw[hkd];rfl
 have tk16:((t.at (mi:Int)).kind==16)=false:=by rw[hkd];rfl
 have tk17:((t.at (mi:Int)).kind==17)=false:=by rw[hkd];rfl
 have tk18:((t.at (mi:Int)).kind==18)=false:=by rw[hkd];rfl
 have tk20:((t.at (mi:Int)).kind==20)=false:=by rw[hkd];rfl
 have tk21:((t.at (mi:Int)).kind==21)=false:=by rw[hkd];rfl
 have tk24:((t.at (mi:Int)).kind==24)=false:=by rw[hkd];rfl
 have tk25:((t.at (mi:Int)).kind==25)=false:=by rw[hkd];rfl
 have tk26:((t.at (mi:Int)).kind==26)=false:=by rw[hkd];rfl
 obtain⟨z0,z1,z2,z3⟩:=hbx W0 (Kr _ _);clear hkd hbx hkc hk0 F0 h0 F h hi hnd hst hsd hA;generalize hN:t.at (mi:Int)=n at *;clear hN;go_enter func181,ntmps181;go_wp2_with (first|(go_at_call 204;refine HSD.o.mono ?_;rintro e w1 ⟨rfl,rfl⟩)|(go_at_call 206;refine HC.o.mono ?_;rintro e w2 ⟨rfl,hat⟩));go_returns;obtain⟨nv9,kv9,wv9,h9,k9⟩:=hat;exact⟨rfl,nv9,kv9,wv9,h9,HK0.o.trans k9⟩
theorem Qgm (h:SpR w wb gb r0 r1 r2 t0 t1 ov s nv kv wv) (F:Zb (at2 wb gb) w r t r0 r1 r2 t0 t1) {i:Int} (hi:InT t i) (hst:Jt t s i=true) (hkd:(t.at i).kind=23) (hC:∀W0 t0',SpR W0 wb gb r0 r1 r2 t0' t1 ov s nv kv wv→Zb (at2 wb gb) W0 r t r0 r1 r2 t0' t1→Calls prog 206 #[.pointer (some ⟨wb,0,none⟩),.int .i64 i,.int .i64 1] W0 fun e w'=>e=.returned (.tuple #[])∧AtX W0 wb gb r0 r1 r2 t0' t1 ov X w') :
  Calls prog 181 #[.pointer (some ⟨wb,0,none⟩),.int .i64 i] w fun e w'=>e=.returned (.tuple #[])∧AtX w wb gb r0 r1 r2 t0 t1 ov X w':=by
 obtain⟨mi,rfl,hnd⟩:=Q1.at_lt hi;obtain⟨nb,no,nc,A,kb,ko,kc,rfl,hl,hml,⟨c0,c1,c2,c3⟩,kl,klc,hA,W0,hW0,h0,F0,hk0,hbx,hkc⟩:=h.node F hnd;have cw3:w.cell? ⟨wb,3,none⟩=some (.slice (some ⟨nb,no,none⟩) t.nodes.length nc):=h.blk.cell 3 _ rfl;have H0:=Hh h0;have HF0:=Hh F0;have HK0:=Hh hk0;have HBX:=Hh hbx;have HKC:=Hh hkc;have HI:=Hh hi;have hsd:=Jw h F hi;rw[hst] at hsd;have HSD:=Hh hsd;have HC:=Hh (hC W0 _ h0 F0);clear hC;have tk12:((t.at (mi:Int)).kind==12)=false:=by rw[hkd];rfl
 have tk13:((t.at (mi:Int)).kind==13)=false:=by rw[hkd];rfl
 have tk14:((t.at (mi:Int)).kind==14)=false:=by rw[hkd];rfl
 have tk23:((t.at (mi:Int)).kind==23)=true:=by rw[hkd];rfl
 have tk15:((t.at (mi:Int)).kind==15)=false:=by rw[hkd];rfl
 have tk19:((t.at (mi:Int)).kind==19)=false:=by rw[hkd];rfl
 have tk16:((t.at (mi:Int)).kind==16)=false:=by rw[hkd];rfl
 have tk17:((t.at (mi:Int)).kind==17)=false:=by rw[hkd];rfl
 have tk18:((t.at (mi:Int)).kind==18)=false:=by rw[hkd];rfl
 have tk20:((t.at (mi:Int)).kind==20)=false:=by rw[hkd];rfl
 have tk21:((t.at (mi:Int)).kind==21)=false:=by rw[hkd];rfl
 have tk24:((t.at (mi:Int)).kind==24)=false:=by rw[hkd];rfl
 have tk25:((t.at (mi:Int)).kind==25)=false:=by rw[hkd];rfl
 have tk26:((t.at (mi:Int)).kind==26)=false:=by rw[hkd];rfl
 obtain⟨z0,z1,z2,z3⟩:=hbx W0 (Kr _ _);clear hkd hbx hkc hk0 F0 h0 F h hi hnd hst hsd hA;generalize hN:t.at (mi:Int)=n at *;clear hN;go_enter func181,ntmps181;go_wp2_with (first|(go_at_call 204;refine HSD.o.mono ?_;rintro e w1 ⟨rfl,rfl⟩)|(go_at_call 206;refine HC.o.mono ?_;rintro e w2 ⟨rfl,hat⟩));go_returns;obtain⟨nv9,kv9,wv9,h9,k9⟩:=hat;exact⟨rfl,nv9,kv9,wv9,h9,HK0.o.trans k9⟩
theorem Qh1 (h:SpR w wb gb r0 r1 r2 t0 t1 ov s nv kv wv) (F:Zb (at2 wb gb) w r t r0 r1 r2 t0 t1) {i:Int} (hi:InT t i) (hst:Jt t s i=true) (hkd:(t.at i).kind=15) (hC:∀W0 t0',SpR W0 wb gb r0 r1 r2 t0' t1 ov s nv kv wv→Zb (at2 wb gb) W0 r t r0 r1 r2 t0' t1→Calls prog 206 #[.pointer (some ⟨wb,0,none⟩),.int .i64 i,.int .i64 2] W0 fun e w'=>e=.returned (.tuple #[])∧AtX W0 wb gb r0 r1 r2 t0' t1 ov X w') :
  Calls prog 181 #[.pointer (some ⟨wb,0,none⟩),.int .i64 i] w fun e w'=>e=.returned (.tuple #[])∧AtX w wb gb r0 r1 r2 t0 t1 ov X w':=by
 obtain⟨mi,rfl,hnd⟩:=Q1.at_lt hi;obtain⟨nb,no,nc,A,kb,ko,kc,rfl,hl,hml,⟨c0,c1,c2,c3⟩,kl,klc,hA,W0,hW0,h0,F0,hk0,hbx,hkc⟩:=h.node F hnd;have cw3:w.cell? ⟨wb,3,none⟩=some (.slice (some ⟨nb,no,none⟩) t.nodes.length nc):=h.blk.cell 3 _ rfl;have H0:=Hh h0;have HF0:=Hh F0;have HK0:=Hh hk0;have HBX:=Hh hbx;have HKC:=Hh hkc;have HI:=Hh hi;have hsd:=Jw h F hi;rw[hst] at hsd;have HSD:=Hh hsd;have HC:=Hh (hC W0 _ h0 F0);clear hC;have tk12:((t.at (mi:Int)).kind==12)=false:=by rw[hkd];rfl
 have tk13:((t.at (mi:Int)).kind==13)=false:=by rw[hkd];rfl
 have tk14:((t.at (mi:Int)).kind==14)=false:=by rw[hkd];rfl
 have tk23:((t.at (mi:Int)).kind==23)=false:=by rw[hkd];rfl
 have tk15:((t.at (mi:Int)).kind==15)=true:=by rw[hkd];rfl
 have tk19:((t.at (mi:Int)).kind==19)=false:=by rw[hkd];rfl
 have tk16:((t.at (mi:Int)).kind==16)=false:=by rw[hkd];rfl
 have tk17:((t.at (mi:Int)).kind==17)=false:=by rw[hkd];rfl
 have tk18:((t.at (mi:Int)).kind==18)=false:=by rw[hkd];rfl
 have tk20:((t.at (mi:Int)).kind==20)=false:=by rw[hkd];rfl
 have tk21:((t.at (mi:Int)).kind==21)=false:=by rw[hkd];rfl
 have tk24:((t.at (mi:Int)).kind==24)=false:=by rw[hkd];rfl
 have tk25:((t.at (mi:Int)).kind==25)=false:=by rw[hkd];rfl
 have tk26:((t.at (mi:Int)).kind==26)=false:=by rw[hkd];rfl
 obtain⟨z0,z1,z2,z3⟩:=hbx W0 (Kr _ _);clear hkd hbx hkc hk0 F0 h0 F h hi hnd hst hsd hA;generalize hN:t.at (mi:Int)=n at *;clear hN;go_enter func181,ntmps181;go_wp2_with (first|(go_at_call 204;refine HSD.o.mono ?_;rintro e w1 ⟨rfl,rfl⟩)|(go_at_call 206;refine HC.o.mono ?_;rintro e w2 ⟨rfl,hat⟩));go_returns;obtain⟨nv9,kv9,wv9,h9,k9⟩:=hat;exact⟨rfl,nv9,kv9,wv9,h9,HK0.o.trans k9⟩
theorem Qgh (h:SpR w wb gb r0 r1 r2 t0 t1 ov s nv kv wv) (F:Zb (at2 wb gb) w r t r0 r1 r2 t0 t1) {i:Int} (hi:InT t i) (hst:Jt t s i=true) (hkd:(t.at i).kind=19) (hC:∀W0 t0',SpR W0 wb gb r0 r1 r2 t0' t1 ov s nv kv wv→Zb (at2 wb gb) W0 r t r0 r1 r2 t0' t1→Calls prog 206 #[.pointer (some ⟨wb,0,none⟩),.int .i64 i,.int .i64 3] W0 fun e w'=>e=.returned (.tuple #[])∧AtX W0 wb gb r0 r1 r2 t0' t1 ov X w') :
  Calls prog 181 #[.pointer (some ⟨wb,0,none⟩),.int .i64 i] w fun e w'=>e=.returned (.tuple #[])∧AtX w wb gb r0 r1 r2 t0 t1 ov X w':=by
 obtain⟨mi,rfl,hnd⟩:=Q1.at_lt hi;obtain⟨nb,no,nc,A,kb,ko,kc,rfl,hl,hml,⟨c0,c1,c2,c3⟩,kl,klc,hA,W0,hW0,h0,F0,hk0,hbx,hkc⟩:=h.node F hnd;have cw3:w.cell? ⟨wb,3,none⟩=some (.slice (some ⟨nb,no,none⟩) t.nodes.length nc):=h.blk.cell 3 _ rfl;have H0:=Hh h0;have HF0:=Hh F0;have HK0:=Hh hk0;have HBX:=Hh hbx;have HKC:=Hh hkc;have HI:=Hh hi;have hsd:=Jw h F hi;rw[hst] at hsd;have HSD:=Hh hsd;have HC:=Hh (hC W0 _ h0 F0);clear hC;have tk12:((t.at (mi:Int)).kind==12)=false:=by rw[hkd];rfl
 have tk13:((t.at (mi:Int)).kind==13)=false:=by rw[hkd];rfl
 have tk14:((t.at (mi:Int)).kind==14)=false:=by rw[hkd];rfl
 have tk23:((t.at (mi:Int)).kind==23)=false:=by rw[hkd];rfl
 have tk15:((t.at (mi:Int)).kind==15)=false:=by rw[hkd];rfl
 have tk19:((t.at (mi:Int)).kind==19)=true:=by rw[hkd];rfl
 have tk16:((t.at (mi:Int)).kind==16)=false:=by rw[hkd];rfl
 have tk17:((t.at (mi:Int)).kind==17)=false:=by rw[hkd];rfl
 have tk18:((t.at (mi:Int)).kind==18)=false:=by rw[hkd];rfl
 have tk20:((t.at (mi:Int)).kind==20)=false:=by rw[hkd];rfl
 have tk21:((t.at (mi:Int)).kind==21)=false:=by rw[hkd];rfl
 have tk24:((t.at (mi:Int)).kind==24)=false:=by rw[hkd];rfl
 have tk25:((t.at (mi:Int)).kind==25)=false:=by rw[hkd];rfl
 have tk26:((t.at (mi:Int)).kind==26)=false:=by rw[hkd];rfl
 obtain⟨z0,z1,z2,z3⟩:=hbx W0 (Kr _ _);clear hkd hbx hkc hk0 F0 h0 F h hi hnd hst hsd hA;generalize hN:t.at (mi:Int)=n at *;clear hN;go_enter func181,ntmps181;go_wp2_with (first|(go_at_call 204;refine HSD.o.mono ?_;rintro e w1 ⟨rfl,rfl⟩)|(go_at_call 206;refine HC.o.mono ?_;rintro e w2 ⟨rfl,hat⟩));go_returns;obtain⟨nv9,kv9,wv9,h9,k9⟩:=hat;exact⟨rfl,nv9,kv9,wv9,h9,HK0.o.trans k9⟩
theorem Qhc (h:SpR w wb gb r0 r1 r2 t0 t1 ov s nv kv wv) (F:Zb (at2 wb gb) w r t r0 r1 r2 t0 t1) {i:Int} (hi:InT t i) (hst:Jt t s i=true) (hkd:(t.at i).kind=16) (hC:∀W0 t0',SpR W0 wb gb r0 r1 r2 t0' t1 ov s nv kv wv→Zb (at2 wb gb) W0 r t r0 r1 r2 t0' t1→Calls prog 207 #[.pointer (some ⟨wb,0,none⟩),.int .i64 i,.int .i64 4] W0 fun e w'=>e=.returned (.tuple #[])∧AtX W0 wb gb r0 r1 r2 t0' t1 ov X w') :
  Calls prog 181 #[.pointer (some ⟨wb,0,none⟩),.int .i64 i] w fun e w'=>e=.returned (.tuple #[])∧AtX w wb gb r0 r1 r2 t0 t1 ov X w':=by
 obtain⟨mi,rfl,hnd⟩:=Q1.at_lt hi;obtain⟨nb,no,nc,A,kb,ko,kc,rfl,hl,hml,⟨c0,c1,c2,c3⟩,kl,klc,hA,W0,hW0,h0,F0,hk0,hbx,hkc⟩:=h.node F hnd;have cw3:w.cell? ⟨wb,3,none⟩=some (.slice (some ⟨nb,no,none⟩) t.nodes.length nc):=h.blk.cell 3 _ rfl;have H0:=Hh h0;have HF0:=Hh F0;have HK0:=Hh hk0;have HBX:=Hh hbx;have HKC:=Hh hkc;have HI:=Hh hi;have hsd:=Jw h F hi;rw[hst] at hsd;have HSD:=Hh hsd;have HC:=Hh (hC W0 _ h0 F0);clear hC;have tk12:((t.at (mi:Int)).kind==12)=false:=by rw[hkd];rfl
 have tk13:((t.at (mi:Int)).kind==13)=false:=by rw[hkd];rfl
 have tk14:((t.at (mi:Int)).kind==14)=false:=by rw[hkd];rfl
 have tk23:((t.at (mi:Int)).kind==23)=false:=by rw[hkd];rfl
 have tk15:((t.at (mi:Int)).kind==15)=false:=by rw[hkd];rfl
 have tk19:((t.at (mi:Int)).kind==19)=false:=by rw[hkd];rfl
 have tk16:((t.at (mi:Int)).kind==16)=true:=by rw[hkd];rfl
 have tk17:((t.at (mi:Int)).kind==17)=false:=by rw[hkd];rfl
 have tk18:((t.at (mi:Int)).kind==18)=false:=by rw[hkd];rfl
 have tk20:((t.at (mi:Int)).kind==20)=false:=by rw[hkd];rfl
 have tk21:((t.at (mi:Int)).kind==21)=false:=by rw[hkd];rfl
 have tk24:((t.at (mi:Int)).kind==24)=false:=by rw[hkd];rfl
 have tk25:((t.at (mi:Int)).kind==25)=false:=by rw[hkd];rfl
 have tk26:((t.at (mi:Int)).kind==26)=false:=by rw[hkd];rfl
 obtain⟨z0,z1,z2,z3⟩:=hbx W0 (Kr _ _);clear hkd hbx hkc hk0 F0 h0 F h hi hnd hst hsd hA;generalize hN:t.at (mi:Int)=n at *;clear hN;go_enter func181,ntmps181;go_wp2_with (first|(go_at_call 204;refine HSD.o.mono ?_;rintro e w1 ⟨rfl,rfl⟩)|(go_at_call 207;refine HC.o.mono ?_;rintro e w2 ⟨rfl,hat⟩));go_returns;obtain⟨nv9,kv9,wv9,h9,k9⟩:=hat;exact⟨rfl,nv9,kv9,wv9,h9,HK0.o.trans k9⟩
theorem Qhh (h:SpR w wb gb r0 r1 r2 t0 t1 ov s nv kv wv) (F:Zb (at2 wb gb) w r t r0 r1 r2 t0 t1) {i:Int} (hi:InT t i) (hst:Jt t s i=true) (hkd:(t.at i).kind=17) (hC:∀W0 t0',SpR W0 wb gb r0 r1 r2 t0' t1 ov s nv kv wv→Zb (at2 wb gb) W0 r t r0 r1 r2 t0' t1→Calls prog 207 #[.pointer (some ⟨wb,0,none⟩),.int .i64 i,.int .i64 1] W0 fun e w'=>e=.returned (.tuple #[])∧AtX W0 wb gb r0 r1 r2 t0' t1 ov X w') :
  Calls prog 181 #[.pointer (some ⟨wb,0,none⟩),.int .i64 i] w fun e w'=>e=.returned (.tuple #[])∧AtX w wb gb r0 r1 r2 t0 t1 ov X w':=by
 obtain⟨mi,rfl,hnd⟩:=Q1.at_lt hi;obtain⟨nb,no,nc,A,kb,ko,kc,rfl,hl,hml,⟨c0,c1,c2,c3⟩,kl,klc,hA,W0,hW0,h0,F0,hk0,hbx,hkc⟩:=h.node F hnd;have cw3:w.cell? ⟨wb,3,none⟩=some (.slice (some ⟨nb,no,none⟩) t.nodes.length nc):=h.blk.cell 3 _ rfl;have H0:=Hh h0;have HF0:=Hh F0;have HK0:=Hh hk0;have HBX:=Hh hbx;have HKC:=Hh hkc;have HI:=Hh hi;have hsd:=Jw h F hi;rw[hst] at hsd;have HSD:=Hh hsd;have HC:=Hh (hC W0 _ h0 F0);clear hC;have tk12:((t.at (mi:Int)).kind==12)=false:=by rw[hkd];rfl
 have tk13:((t.at (mi:Int)).kind==13)=false:=by rw[hkd];rfl
 have tk14:((t.at (mi:Int)).kind==14)=false:=by rw[hkd];rfl
 have tk23:((t.at (mi:Int)).kind==23)=false:=by rw[hkd];rfl
 have tk15:((t.at (mi:Int)).kind==15)=false:=by rw[hkd];rfl
 have tk19:((t.at (mi:Int)).kind==19)=false:=by rw[hkd];rfl
 have tk16:((t.at (mi:Int)).kind==16)=false:=by rw[hkd];rfl
 have tk17:((t.at (mi:Int)).kind==17)=true:=by rw[hkd];rfl
 have tk18:((t.at (mi:Int)).kind==18)=false:=by rw[hkd];rfl
 have tk20:((t.at (mi:Int)).kind==20)=false:=by rw[hkd];rfl
 have tk21:((t.at (mi:Int)).kind==21)=false:=by rw[hkd];rfl
 have tk24:((t.at (mi:Int)).kind==24)=false:=by rw[hkd];rfl
 have tk25:((t.at (mi:Int)).kind==25)=false:=by rw[hkd];rfl
 have tk26:((t.at (mi:Int)).kind==26)=false:=by rw[hkd];rfl
 obtain⟨z0,z1,z2,z3⟩:=hbx W0 (Kr _ _);clear hkd hbx hkc hk0 F0 h0 F h hi hnd hst hsd hA;generalize hN:t.at (mi:Int)=n at *;clear hN;go_enter func181,ntmps181;go_wp2_with (first|(go_at_call 204;refine HSD.o.mono ?_;rintro e w1 ⟨rfl,rfl⟩)|(go_at_call 207;refine HC.o.mono ?_;rintro e w2 ⟨rfl,hat⟩));go_returns;obtain⟨nv9,kv9,wv9,h9,k9⟩:=hat;exact⟨rfl,nv9,kv9,wv9,h9,HK0.o.trans k9⟩
theorem Qhk (h:SpR w wb gb r0 r1 r2 t0 t1 ov s nv kv wv) (F:Zb (at2 wb gb) w r t r0 r1 r2 t0 t1) {i:Int} (hi:InT t i) (hst:Jt t s i=true) (hkd:(t.at i).kind=18) (hC:∀W0 t0',SpR W0 wb gb r0 r1 r2 t0' t1 ov s nv kv wv→Zb (at2 wb gb) W0 r t r0 r1 r2 t0' t1→Calls prog 208 #[.pointer (some ⟨wb,0,none⟩),.int .i64 i] W0 fun e w'=>e=.returned (.tuple #[])∧AtX W0 wb gb r0 r1 r2 t0' t1 ov X w') :
  Calls prog 181 #[.pointer (some ⟨wb,0,none⟩),.int .i64 i] w fun e w'=>e=.returned (.tuple #[])∧AtX w wb gb r0 r1 r2 t0 t1 ov X w':=by
 obtain⟨mi,rfl,hnd⟩:=Q1.at_lt hi;obtain⟨nb,no,nc,A,kb,ko,kc,rfl,hl,hml,⟨c0,c1,c2,c3⟩,kl,klc,hA,W0,hW0,h0,F0,hk0,hbx,hkc⟩:=h.node F hnd;have cw3:w.cell? ⟨wb,3,none⟩=some (.slice (some ⟨nb,no,none⟩) t.nodes.length nc):=h.blk.cell 3 _ rfl;have H0:=Hh h0;have HF0:=Hh F0;have HK0:=Hh hk0;have HBX:=Hh hbx;have HKC:=Hh hkc;have HI:=Hh hi;have hsd:=Jw h F hi;rw[hst] at hsd;have HSD:=Hh hsd;have HC:=Hh (hC W0 _ h0 F0);clear hC;have tk12:((t.at (mi:Int)).kind==12)=false:=by rw[hkd];rfl
 have tk13:((t.at (mi:Int)).kind==13)=false:=by rw[hkd];rfl
 have tk14:((t.at (mi:Int)).kind==14)=false:=by rw[hkd];rfl
 have tk23:((t.at (mi:Int)).kind==23)=false:=by rw[hkd];rfl
 have tk15:((t.at (mi:Int)).kind==15)=false:=by rw[hkd];rfl
 have tk19:((t.at (mi:Int)).kind==19)=false:=by rw[hkd];rfl
 have tk16:((t.at (mi:Int)).kind==16)=false:=by rw[hkd];rfl
 have tk17:((t.at (mi:Int)).kind==17)=false:=by rw[hkd];rfl
 have tk18:((t.at (mi:Int)).kind==18)=true:=by rw[hkd];rfl
 have tk20:((t.at (mi:Int)).kind==20)=false:=by rw[hkd];rfl
 have tk21:((t.at (mi:Int)).kind==21)=false:=by rw[hkd];rfl
 have tk24:((t.at (mi:Int)).kind==24)=false:=by rw[hkd];rfl
 have tk25:((t.at (mi:Int)).kind==25)=false:=by rw[hkd];rfl
 have tk26:((t.at (mi:Int)).kind==26)=false:=by rw[hkd];rfl
 obtain⟨z0,z1,z2,z3⟩:=hbx W0 (Kr _ _);clear hkd hbx hkc hk0 F0 h0 F h hi hnd hst hsd hA;generalize hN:t.at (mi:Int)=n at *;clear hN;go_enter func181,ntmps181;go_wp2_with (first|(go_at_call 204;refine HSD.o.mono ?_;rintro e w1 ⟨rfl,rfl⟩)|(go_at_call 208;refine HC.o.mono ?_;rintro e w2 ⟨rfl,hat⟩));go_returns;obtain⟨nv9,kv9,wv9,h9,k9⟩:=hat;exact⟨rfl,nv9,kv9,wv9,h9,HK0.o.trans k9⟩
theorem Qgw (h:SpR w wb gb r0 r1 r2 t0 t1 ov s nv kv wv) (F:Zb (at2 wb gb) w r t r0 r1 r2 t0 t1) {i:Int} (hi:InT t i) (hst:Jt t s i=true) (hkd:(t.at i).kind=20) (hC:∀W0 t0',SpR W0 wb gb r0 r1 r2 t0' t1 ov s nv kv wv→Zb (at2 wb gb) W0 r t r0 r1 r2 t0' t1→Calls prog 209 #[.pointer (some ⟨wb,0,none⟩),.int .i64 i] W0 fun e w'=>e=.returned (.tuple #[])∧AtX W0 wb gb r0 r1 r2 t0' t1 ov X w') :
  Calls prog 181 #[.pointer (some ⟨wb,0,none⟩),.int .i64 i] w fun e w'=>e=.returned (.tuple #[])∧AtX w wb gb r0 r1 r2 t0 t1 ov X w':=by
 obtain⟨mi,rfl,hnd⟩:=Q1.at_lt hi;obtain⟨nb,no,nc,A,kb,ko,kc,rfl,hl,hml,⟨c0,c1,c2,c3⟩,kl,klc,hA,W0,hW0,h0,F0,hk0,hbx,hkc⟩:=h.node F hnd;have cw3:w.cell? ⟨wb,3,none⟩=some (.slice (some ⟨nb,no,none⟩) t.nodes.length nc):=h.blk.cell 3 _ rfl;have H0:=Hh h0;have HF0:=Hh F0;have HK0:=Hh hk0;have HBX:=Hh hbx;have HKC:=Hh hkc;have HI:=Hh hi;have hsd:=Jw h F hi;rw[hst] at hsd;have HSD:=Hh hsd;have HC:=Hh (hC W0 _ h0 F0);clear hC;have tk12:((t.at (mi:Int)).kind==12)=false:=by rw[hkd];rfl
 have tk13:((t.at (mi:Int)).kind==13)=false:=by rw[hkd];rfl
 have tk14:((t.at (mi:Int)).kind==14)=false:=by rw[hkd];rfl
 have tk23:((t.at (mi:Int)).kind==23)=false:=by rw[hkd];rfl
 have tk15:((t.at (mi:Int)).kind==15)=false:=by rw[hkd];rfl
 have tk19:((t.at (mi:Int)).kind==19)=false:=by rw[hkd];rfl
 have tk16:((t.at (mi:Int)).kind==16)=false:=by rw[hkd];rfl
 have tk17:((t.at (mi:Int)).kind==17)=false:=by rw[hkd];rfl
 have tk18:((t.at (mi:Int)).kind==18)=false:=by rw[hkd];rfl
 have tk20:((t.at (mi:Int)).kind==20)=true:=by rw[hkd];rfl
 have tk21:((t.at (mi:Int)).kind==21)=false:=by rw[hkd];rfl
 have tk24:((t.at (mi:Int)).kind==24)=false:=by rw[hkd];rfl
 have tk25:((t.at (mi:Int)).kind==25)=false:=by rw[hkd];rfl
 have tk26:((t.at (mi:Int)).kind==26)=false:=by rw[hkd];rfl
 obtain⟨z0,z1,z2,z3⟩:=hbx W0 (Kr _ _);clear hkd hbx hkc hk0 F0 h0 F h hi hnd hst hsd hA;generalize hN:t.at (mi:Int)=n at *;clear hN;go_enter func181,ntmps181;go_wp2_with (first|(go_at_call 204;refine HSD.o.mono ?_;rintro e w1 ⟨rfl,rfl⟩)|(go_at_call 209;refine HC.o.mono ?_;rintro e w2 ⟨rfl,hat⟩));go_returns;obtain⟨nv9,kv9,wv9,h9,k9⟩:=hat;exact⟨rfl,nv9,kv9,wv9,h9,HK0.o.trans k9⟩
theorem Qhz (h:SpR w wb gb r0 r1 r2 t0 t1 ov s nv kv wv) (F:Zb (at2 wb gb) w r t r0 r1 r2 t0 t1) {i:Int} (hi:InT t i) (hst:Jt t s i=true) (hkd:(t.at i).kind=21) (hC:∀W0 t0',SpR W0 wb gb r0 r1 r2 t0' t1 ov s nv kv wv→Zb (at2 wb gb) W0 r t r0 r1 r2 t0' t1→Calls prog 210 #[.pointer (some ⟨wb,0,none⟩),.int .i64 i] W0 fun e w'=>e=.returned (.tuple #[])∧AtX W0 wb gb r0 r1 r2 t0' t1 ov X w') :
  Calls prog 181 #[.pointer (some ⟨wb,0,none⟩),.int .i64 i] w fun e w'=>e=.returned (.tuple #[])∧AtX w wb gb r0 r1 r2 t0 t1 ov X w':=by
 obtain⟨mi,rfl,hnd⟩:=Q1.at_lt hi;obtain⟨nb,no,nc,A,kb,ko,kc,rfl,hl,hml,⟨c0,c1,c2,c3⟩,kl,klc,hA,W0,hW0,h0,F0,hk0,hbx,hkc⟩:=h.node F hnd;have cw3:w.cell? ⟨wb,3,none⟩=some (.slice (some ⟨nb,no,none⟩) t.nodes.length nc):=h.blk.cell 3 _ rfl;have H0:=Hh h0;have HF0:=Hh F0;have HK0:=Hh hk0;have HBX:=Hh hbx;have HKC:=Hh hkc;have HI:=Hh hi;have hsd:=Jw h F hi;rw[hst] at hsd;have HSD:=Hh hsd;have HC:=Hh (hC W0 _ h0 F0);clear hC;have tk12:((t.at (mi:Int)).kind==12)=false:=by rw[hkd];rfl
 have tk13:((t.at (mi:Int)).kind==13)=false:=by rw[hkd];rfl
 have tk14:((t.at (mi:Int)).kind==14)=false:=by rw[hkd];rfl
 have tk23:((t.at (mi:Int)).kind==23)=false:=by rw[hkd];rfl
 have tk15:((t.at (mi:Int)).kind==15)=false:=by rw[hkd];rfl
 have tk19:((t.at (mi:Int)).kind==19)=false:=by rw[hkd];rfl
 have tk16:((t.at (mi:Int)).kind==16)=false:=by rw[hkd];rfl
 have tk17:((t.at (mi:Int)).kind==17)=false:=by rw[hkd];rfl
 have tk18:((t.at (mi:Int)).kind==18)=false:=by rw[hkd];rfl
 have tk20:((t.at (mi:Int)).kind==20)=false:=by rw[hkd];rfl
 have tk21:((t.at (mi:Int)).kind==21)=true:=by rw[hkd];rfl
 have tk24:((t.at (mi:Int)).kind==24)=false:=by rw[hkd];rfl
 have tk25:((t.at (mi:Int)).kind==25)=false:=by rw[hkd];rfl
 have tk26:((t.at (mi:Int)).kind==26)=false:=by rw[hkd];rfl
 obtain⟨z0,z1,z2,z3⟩:=hbx W0 (Kr _ _);clear hkd hbx hkc hk0 F0 h0 F h hi hnd hst hsd hA;generalize hN:t.at (mi:Int)=n at *;clear hN;go_enter func181,ntmps181;go_wp2_with (first|(go_at_call 204;refine HSD.o.mono ?_;rintro e w1 ⟨rfl,rfl⟩)|(go_at_call 210;refine HC.o.mono ?_;rintro e w2 ⟨rfl,hat⟩));go_returns;obtain⟨nv9,kv9,wv9,h9,k9⟩:=hat;exact⟨rfl,nv9,kv9,wv9,h9,HK0.o.trans k9⟩
theorem Qhu (h:SpR w wb gb r0 r1 r2 t0 t1 ov s nv kv wv) (F:Zb (at2 wb gb) w r t r0 r1 r2 t0 t1) {i:Int} (hi:InT t i) (hst:Jt t s i=true) (hkd:(t.at i).kind=22) :
  Calls prog 181 #[.pointer (some ⟨wb,0,none⟩),.int .i64 i] w fun e w'=>e=.returned (.tuple #[])∧AtX w wb gb r0 r1 r2 t0 t1 ov s w':=by
 obtain⟨mi,rfl,hnd⟩:=Q1.at_lt hi;obtain⟨nb,no,nc,A,kb,ko,kc,rfl,hl,hml,⟨c0,c1,c2,c3⟩,kl,klc,hA,W0,hW0,h0,F0,hk0,hbx,hkc⟩:=h.node F hnd;have cw3:w.cell? ⟨wb,3,none⟩=some (.slice (some ⟨nb,no,none⟩) t.nodes.length nc):=h.blk.cell 3 _ rfl;have H0:=Hh h0;have HF0:=Hh F0;have HK0:=Hh hk0;have HBX:=Hh hbx;have HKC:=Hh hkc;have HI:=Hh hi;have hsd:=Jw h F hi;rw[hst] at hsd;have HSD:=Hh hsd;have tk12:((t.at (mi:Int)).kind==12)=false:=by rw[hkd];rfl
 have tk13:((t.at (mi:Int)).kind==13)=false:=by rw[hkd];rfl
 have tk14:((t.at (mi:Int)).kind==14)=false:=by rw[hkd];rfl
 have tk23:((t.at (mi:Int)).kind==23)=false:=by rw[hkd];rfl
 have tk15:((t.at (mi:Int)).kind==15)=false:=by rw[hkd];rfl
 have tk19:((t.at (mi:Int)).kind==19)=false:=by rw[hkd];rfl
 have tk16:((t.at (mi:Int)).kind==16)=false:=by rw[hkd];rfl
 have tk17:((t.at (mi:Int)).kind==17)=false:=by rw[hkd];rfl
 have tk18:((t.at (mi:Int)).kind==18)=false:=by rw[hkd];rfl
 have tk20:((t.at (mi:Int)).kind==20)=false:=by rw[hkd];rfl
 have tk21:((t.at (mi:Int)).kind==21)=false:=by rw[hkd];rfl
 have tk24:((t.at (mi:Int)).kind==24)=false:=by rw[hkd];rfl
 have tk25:((t.at (mi:Int)).kind==25)=false:=by rw[hkd];rfl
 have tk26:((t.at (mi:Int)).kind==26)=false:=by rw[hkd];rfl
 obtain⟨z0,z1,z2,z3⟩:=hbx W0 (Kr _ _);clear hkd hbx hkc hk0 F0 h0 F h hi hnd hst hsd hA;generalize hN:t.at (mi:Int)=n at *;clear hN;go_enter func181,ntmps181;go_wp2_with (first|(go_at_call 204;refine HSD.o.mono ?_;rintro e w1 ⟨rfl,rfl⟩));go_returns;exact⟨rfl,_,_,_,H0.o,HK0.o⟩
theorem Q92 (h:SpR w wb gb r0 r1 r2 t0 t1 ov s nv kv wv) (F:Zb (at2 wb gb) w r t r0 r1 r2 t0 t1) {i:Int} (hi:InT t i) (hst:Jt t s i=true) (hkd:(t.at i).kind=24) (hd:(J3 r 1 (t.at i).text==0)=true) :
  Calls prog 181 #[.pointer (some ⟨wb,0,none⟩),.int .i64 i] w fun e w'=>e=.returned (.tuple #[])∧AtX w wb gb r0 r1 r2 t0 t1 ov (s.fail 3 i) w':=by
 obtain⟨mi,rfl,hnd⟩:=Q1.at_lt hi;obtain⟨nb,no,nc,A,kb,ko,kc,rfl,hl,hml,⟨c0,c1,c2,c3⟩,kl,klc,hA,W0,hW0,h0,F0,hk0,hbx,hkc⟩:=h.node F hnd;have cw3:w.cell? ⟨wb,3,none⟩=some (.slice (some ⟨nb,no,none⟩) t.nodes.length nc):=h.blk.cell 3 _ rfl;have H0:=Hh h0;have HF0:=Hh F0;have HK0:=Hh hk0;have HBX:=Hh hbx;have HKC:=Hh hkc;have HI:=Hh hi;have hsd:=Jw h F hi;rw[hst] at hsd;have HSD:=Hh hsd;have HD:=Hh (Za h0 F0 1 (t.at (mi:Int)).text);generalize J3 r 1 (t.at (mi:Int)).text=d at HD hd;have tk12:((t.at (mi:Int)).kind==12)=false:=by rw[hkd];rfl
 have tk13:((t.at (mi:Int)).kind==13)=false:=by rw[hkd];rfl
 have tk14:((t.at (mi:Int)).kind==14)=false:=by rw[hkd];rfl
 have tk23:((t.at (mi:Int)).kind==23)=false:=by rw[hkd];rfl
 have tk15:((t.at (mi:Int)).kind==15)=false:=by rw[hkd];rfl
 have tk19:((t.at (mi:Int)).kind==19)=false:=by rw[hkd];rfl
 have tk16:((t.at (mi:Int)).kind==16)=false:=by rw[hkd];rfl
 have tk17:((t.at (mi:Int)).kind==17)=false:=by rw[hkd];rfl
 have tk18:((t.at (mi:Int)).kind==18)=false:=by rw[hkd];rfl
 have tk20:((t.at (mi:Int)).kind==20)=false:=by rw[hkd];rfl
 have tk21:((t.at (mi:Int)).kind==21)=false:=by rw[hkd];rfl
 have tk24:((t.at (mi:Int)).kind==24)=true:=by rw[hkd];rfl
 have tk25:((t.at (mi:Int)).kind==25)=false:=by rw[hkd];rfl
 have tk26:((t.at (mi:Int)).kind==26)=false:=by rw[hkd];rfl
 obtain⟨z0,z1,z2,z3⟩:=hbx W0 (Kr _ _);clear hkd hbx hkc hk0 F0 h0 F h hi hnd hst hsd hA;generalize hN:t.at (mi:Int)=n at *;clear hN;go_enter func181,ntmps181;go_wp2_with (first|(go_at_call 204;refine HSD.o.mono ?_;rintro e w1 ⟨rfl,rfl⟩)|(go_at_call 211;refine HD.o.mono ?_;rintro e w2 ⟨rfl,hk2⟩;have H2:=Hh (H0.o.nobk hk2);have HK2:=Hh (hk2.ofNob (at2 wb gb));clear hk2)|(go_at_call 136;refine (Qu H2.o _ _).mono ?_;rintro e w3 ⟨rfl,hat⟩));go_returns;exact⟨rfl,_,_,_,hat.1,(HK0.o.trans HK2.o).trans hat.2⟩
theorem Q83 (h:SpR w wb gb r0 r1 r2 t0 t1 ov s nv kv wv) (F:Zb (at2 wb gb) w r t r0 r1 r2 t0 t1) {i:Int} (hi:InT t i) (hst:Jt t s i=true) (hkd:(t.at i).kind=24) (hd:(J3 r 1 (t.at i).text==0)=false) :
  Calls prog 181 #[.pointer (some ⟨wb,0,none⟩),.int .i64 i] w fun e w'=>e=.returned (.tuple #[])∧AtX w wb gb r0 r1 r2 t0 t1 ov s w':=by
 obtain⟨mi,rfl,hnd⟩:=Q1.at_lt hi;obtain⟨nb,no,nc,A,kb,ko,kc,rfl,hl,hml,⟨c0,c1,c2,c3⟩,kl,klc,hA,W0,hW0,h0,F0,hk0,hbx,hkc⟩:=h.node F hnd;have cw3:w.cell? ⟨wb,3,none⟩=some (.slice (some ⟨nb,no,none⟩) t.nodes.length nc):=h.blk.cell 3 _ rfl;have H0:=Hh h0;have HF0:=Hh F0;have HK0:=Hh hk0;have HBX:=Hh hbx;have HKC:=Hh hkc;have HI:=Hh hi;have hsd:=Jw h F hi;rw[hst] at hsd;have HSD:=Hh hsd;have HD:=Hh (Za h0 F0 1 (t.at (mi:Int)).text);generalize J3 r 1 (t.at (mi:Int)).text=d at HD hd;have tk12:((t.at (mi:Int)).kind==12)=false:=by rw[hkd];rfl
 have tk13:((t.at (mi:Int)).kind==13)=false:=by rw[hkd];rfl
 have tk14:((t.at (mi:Int)).kind==14)=false:=by rw[hkd];rfl
 have tk23:((t.at (mi:Int)).kind==23)=false:=by rw[hkd];rfl
 have tk15:((t.at (mi:Int)).kind==15)=false:=by rw[hkd];rfl
 have tk19:((t.at (mi:Int)).kind==19)=false:=by rw[hkd];rfl
 have tk16:((t.at (mi:Int)).kind==16)=false:=by rw[hkd];rfl
 have tk17:((t.at (mi:Int)).kind==17)=false:=by rw[hkd];rfl
 have tk18:((t.at (mi:Int)).kind==18)=false:=by rw[hkd];rfl
 have tk20:((t.at (mi:Int)).kind==20)=false:=by rw[hkd];rfl
 have tk21:((t.at (mi:Int)).kind==21)=false:=by rw[hkd];rfl
 have tk24:((t.at (mi:Int)).kind==24)=true:=by rw[hkd];rfl
 have tk25:((t.at (mi:Int)).kind==25)=false:=by rw[hkd];rfl
 have tk26:((t.at (mi:Int)).kind==26)=false:=by rw[hkd];rfl
 obtain⟨z0,z1,z2,z3⟩:=hbx W0 (Kr _ _);clear hkd hbx hkc hk0 F0 h0 F h hi hnd hst hsd hA;generalize hN:t.at (mi:Int)=n at *;clear hN;go_enter func181,ntmps181;go_wp2_with (first|(go_at_call 204;refine HSD.o.mono ?_;rintro e w1 ⟨rfl,rfl⟩)|(go_at_call 211;refine HD.o.mono ?_;rintro e w2 ⟨rfl,hk2⟩;have H2:=Hh (H0.o.nobk hk2);have HK2:=Hh (hk2.ofNob (at2 wb gb));clear hk2));go_returns;exact⟨rfl,_,_,_,H2.o,HK0.o.trans HK2.o⟩
theorem Qhg (h:SpR w wb gb r0 r1 r2 t0 t1 ov s nv kv wv) (F:Zb (at2 wb gb) w r t r0 r1 r2 t0 t1) {i:Int} (hi:InT t i) (hst:Jt t s i=true) (hkd:(t.at i).kind=25) {a:Int} {ks:List Int} (Qmk:(t.at i).kids=a::ks) {q:Int} (hC:∀W0 t0',SpR W0 wb gb r0 r1 r2 t0' t1 ov s nv kv wv→Zb (at2 wb gb) W0 r t r0 r1 r2 t0' t1→Calls prog 212 #[.pointer (some ⟨wb,0,none⟩),.int .i64 a] W0 fun e w'=>e=.returned (.int .i64 q)∧AtW W0 wb gb r0 r1 r2 t0' t1 ov X nv kv wv w') :
  Calls prog 181 #[.pointer (some ⟨wb,0,none⟩),.int .i64 i] w fun e w'=>e=.returned (.tuple #[])∧AtX w wb gb r0 r1 r2 t0 t1 ov X w':=by
 obtain⟨mi,rfl,hnd⟩:=Q1.at_lt hi;obtain⟨nb,no,nc,A,kb,ko,kc,rfl,hl,hml,⟨c0,c1,c2,c3⟩,kl,klc,hA,W0,hW0,h0,F0,hk0,hbx,hkc⟩:=h.node F hnd;have cw3:w.cell? ⟨wb,3,none⟩=some (.slice (some ⟨nb,no,none⟩) t.nodes.length nc):=h.blk.cell 3 _ rfl;have H0:=Hh h0;have HF0:=Hh F0;have HK0:=Hh hk0;have HBX:=Hh hbx;have HKC:=Hh hkc;have HI:=Hh hi;have hsd:=Jw h F hi;rw[hst] at hsd;have HSD:=Hh hsd;have HC:=Hh (hC W0 _ h0 F0);clear hC;have tk12:((t.at (mi:Int)).kind==12)=false:=by rw[hkd];rfl
 have tk13:((t.at (mi:Int)).kind==13)=false:=by rw[hkd];rfl
 have tk14:((t.at (mi:Int)).kind==14)=false:=by rw[hkd];rfl
 have tk23:((t.at (mi:Int)).kind==23)=false:=by rw[hkd];rfl
 have tk15:((t.at (mi:Int)).kind==15)=false:=by rw[hkd];rfl
 have tk19:((t.at (mi:Int)).kind==19)=false:=by rw[hkd];rfl
 have tk16:((t.at (mi:Int)).kind==16)=false:=by rw[hkd];rfl
 have tk17:((t.at (mi:Int)).kind==17)=false:=by rw[hkd];rfl
 have tk18:((t.at (mi:Int)).kind==18)=false:=by rw[hkd];rfl
 have tk20:((t.at (mi:Int)).kind==20)=false:=by rw[hkd];rfl
 have tk21:((t.at (mi:Int)).kind==21)=false:=by rw[hkd];rfl
 have tk24:((t.at (mi:Int)).kind==24)=false:=by rw[hkd];rfl
 have tk25:((t.at (mi:Int)).kind==25)=true:=by rw[hkd];rfl
 have tk26:((t.at (mi:Int)).kind==26)=false:=by rw[hkd];rfl
 obtain⟨z0,z1,z2,z3⟩:=hbx W0 (Kr _ _);have ze:=hkc 0 a (by rw[Qmk];rfl) W0 (Kr _ _);rw[Nat.add_zero] at ze;have Qna:0<(t.at (mi:Int)).kids.length:=by rw[Qmk];simp
 obtain rfl:=hA Qna;clear hkd hbx hkc hk0 F0 h0 F h hi hnd hst hsd hA Qmk;generalize hN:t.at (mi:Int)=n at *;clear hN;go_enter func181,ntmps181;go_wp2_with (first|(go_at_call 204;refine HSD.o.mono ?_;rintro e w1 ⟨rfl,rfl⟩)|(go_at_call 212;refine HC.o.mono ?_;rintro e w2 ⟨rfl,hat⟩));go_returns;exact⟨rfl,_,_,_,hat.1,HK0.o.trans hat.2⟩
theorem Qgy (h:SpR w wb gb r0 r1 r2 t0 t1 ov s nv kv wv) (F:Zb (at2 wb gb) w r t r0 r1 r2 t0 t1) {i:Int} (hi:InT t i) (hst:Jt t s i=true) (hkd:(t.at i).kind=26) {a:Int} {ks:List Int} (Qmk:(t.at i).kids=a::ks) {q:Int} (hC:∀W0 t0',SpR W0 wb gb r0 r1 r2 t0' t1 ov s nv kv wv→Zb (at2 wb gb) W0 r t r0 r1 r2 t0' t1→Calls prog 212 #[.pointer (some ⟨wb,0,none⟩),.int .i64 a] W0 fun e w'=>e=.returned (.int .i64 q)∧AtW W0 wb gb r0 r1 r2 t0' t1 ov X nv kv wv w') :
  Calls prog 181 #[.pointer (some ⟨wb,0,none⟩),.int .i64 i] w fun e w'=>e=.returned (.tuple #[])∧AtX w wb gb r0 r1 r2 t0 t1 ov X w':=by
 obtain⟨mi,rfl,hnd⟩:=Q1.at_lt hi;obtain⟨nb,no,nc,A,kb,ko,kc,rfl,hl,hml,⟨c0,c1,c2,c3⟩,kl,klc,hA,W0,hW0,h0,F0,hk0,hbx,hkc⟩:=h.node F hnd;have cw3:w.cell? ⟨wb,3,none⟩=some (.slice (some ⟨nb,no,none⟩) t.nodes.length nc):=h.blk.cell 3 _ rfl;have H0:=Hh h0;have HF0:=Hh F0;have HK0:=Hh hk0;have HBX:=Hh hbx;have HKC:=Hh hkc;have HI:=Hh hi;have hsd:=Jw h F hi;rw[hst] at hsd;have HSD:=Hh hsd;have HC:=Hh (hC W0 _ h0 F0);clear hC;have tk12:((t.at (mi:Int)).kind==12)=false:=by rw[hkd];rfl
 have tk13:((t.at (mi:Int)).kind==13)=false:=by rw[hkd];rfl
 have tk14:((t.at (mi:Int)).kind==14)=false:=by rw[hkd];rfl
 have tk23:((t.at (mi:Int)).kind==23)=false:=by rw[hkd];rfl
 have tk15:((t.at (mi:Int)).kind==15)=false:=by rw[hkd];rfl
 have tk19:((t.at (mi:Int)).kind==19)=false:=by rw[hkd];rfl
 have tk16:((t.at (mi:Int)).kind==16)=false:=by rw[hkd];rfl
 have tk17:((t.at (mi:Int)).kind==17)=false:=by rw[hkd];rfl
 have tk18:((t.at (mi:Int)).kind==18)=false:=by rw[hkd];rfl
 have tk20:((t.at (mi:Int)).kind==20)=false:=by rw[hkd];rfl
 have tk21:((t.at (mi:Int)).kind==21)=false:=by rw[hkd];rfl
 have tk24:((t.at (mi:Int)).kind==24)=false:=by rw[hkd];rfl
 have tk25:((t.at (mi:Int)).kind==25)=false:=by rw[hkd];rfl
 have tk26:((t.at (mi:Int)).kind==26)=true:=by rw[hkd];rfl
 obtain⟨z0,z1,z2,z3⟩:=hbx W0 (Kr _ _);have ze:=hkc 0 a (by rw[Qmk];rfl) W0 (Kr _ _);rw[Nat.add_zero] at ze;have Qna:0<(t.at (mi:Int)).kids.length:=by rw[Qmk];simp
 obtain rfl:=hA Qna;clear hkd hbx hkc hk0 F0 h0 F h hi hnd hst hsd hA Qmk;generalize hN:t.at (mi:Int)=n at *;clear hN;go_enter func181,ntmps181;go_wp2_with (first|(go_at_call 204;refine HSD.o.mono ?_;rintro e w1 ⟨rfl,rfl⟩)|(go_at_call 212;refine HC.o.mono ?_;rintro e w2 ⟨rfl,hat⟩));go_returns;exact⟨rfl,_,_,_,hat.1,HK0.o.trans hat.2⟩
end
end Go.Proofs.YtkgkafjachjafaaGreat
