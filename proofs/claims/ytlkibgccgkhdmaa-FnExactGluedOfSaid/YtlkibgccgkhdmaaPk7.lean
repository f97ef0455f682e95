/- 1 texts of this seat joined: walks, and the laws of what they compute. -/
import Derived.Test.YtlkibgccgkhdmaaPk5
import Derived.Test.YtlkibgccgkhdmaaPk4
import Derived.Test.YtlkibgccgkhdmaaPk2
import Derived.Test.YtlkibgccgkhdmaaPk6
namespace Go.Proofs.Ytlkibgccgkhdmaa.P
open Go.RowKit Go.Proofs.YtlkibgccgkhdmaaW.PrintWords Go.Proofs.YtlkibgccgkhdmaaW.PrintLast Go.Proofs.YtlkibgccgkhdmaaW.PrintMore Go.Proofs.Cl
set_option linter.unusedVariables false
set_option linter.unusedSimpArgs false
set_option maxHeartbeats 8000000 in
set_option maxRecDepth 100000 in
theorem FnExactGluedOf_neg0 (w:World) (A0:Option Addr) (c0:Nat) (u0:List (List Int)) (B0:Option Addr) (e0:Nat) (n0:List Int) (hr0:Kd.C (Kd.slice 3 (Kd.int .i64)) w A0 u0.length u0) (hc0:u0.length≤c0) (hs0:Kd.C (Kd.int .i64) w B0 n0.length n0) (hd0:n0.length≤e0) (A1:Option Addr) (c1:Nat) (u1:List (List Int)) (B1:Option Addr) (e1:Nat) (n1:List Int) (hr1:Kd.C (Kd.slice 3 (Kd.int .i64)) w A1 u1.length u1) (hc1:u1.length≤c1) (hs1:Kd.C (Kd.int .i64) w B1 n1.length n1) (hd1:n1.length≤e1)  (x0:Int) (ks0:Nat) (hks0:laws_szLogic.f ks0 u0 n0 1048576=some x0) (hxs0:x0<0):Calls Try.prog 14 #[.agg #[.slice A0 u0.length c0,.slice B0 n0.length e0],.agg #[.slice A1 u1.length c1,.slice B1 n1.length e1]] w fun e w'=>e = .returned (.bool true)∧Below w.heap.size w w':=by
 have HR0:=Aside0.mk hr0
 have HC0:=Aside0.mk hc0
 have HS0:=Aside0.mk hs0
 have HD0:=Aside0.mk hd0
 clear hr0 hc0 hs0 hd0
 have HR1:=Aside0.mk hr1
 have HC1:=Aside0.mk hc1
 have HS1:=Aside0.mk hs1
 have HD1:=Aside0.mk hd1
 clear hr1 hc1 hs1 hd1
 have HKs0:=Aside0.mk hks0
 clear hks0
 have hx0:decide (x0<0)=true:=decide_eq_true hxs0
 clear hxs0
 have HL:=Aside0.mk (Live.start w)
 have s0:=Aside0.mk True.intro
 go_enter Try.func14,Try.ntmps14
 go_wp2_with (first
  | (clear s0;(with_reducible refine gate_dst (N:=2) rfl ?_);refine armb_ (rs':=[]) HL (fun HL_=>?_);refine bx_ (N:=2) (cs:=#[.slice A0 u0.length c0,.slice B0 n0.length e0]) (t:=25) ?_;intro g1 hg w1 hbox hb;have HL1:Aside0 (Live w w1 [.box g1 #[.slice A0 u0.length c0,.slice B0 n0.length e0] 25]):=⟨HL_.out.box hb hg hbox⟩;clear HL HL_ hb hg hbox;have HL:=HL1;clear HL1;have hcw1g10:w1.cell? ⟨g1,0,none⟩=some (.slice A0 u0.length c0):=Live.cell [] HL.out 0 rfl;have hcw1g11:w1.cell? ⟨g1,1,none⟩=some (.slice B0 n0.length e0):=Live.cell [] HL.out 1 rfl;have hfw1g10:=Live.frozen [] HL.out 0;have hfw1g11:=Live.frozen [] HL.out 1;have s1:=Aside0.mk True.intro)
  | (clear s1;(with_reducible refine gate_dst (N:=3) rfl ?_);refine armb_ (rs':=[.box g1 #[.slice A0 u0.length c0,.slice B0 n0.length e0] 25]) HL (fun HL_=>?_);refine bx_ (N:=3) (cs:=#[.slice A1 u1.length c1,.slice B1 n1.length e1]) (t:=25) ?_;intro g2 hg w2 hbox hb;have HL1:Aside0 (Live w w2 [.box g2 #[.slice A1 u1.length c1,.slice B1 n1.length e1] 25,.box g1 #[.slice A0 u0.length c0,.slice B0 n0.length e0] 25]):=⟨HL_.out.box hb hg hbox⟩;clear HL HL_ hb hg hbox;have HL:=HL1;clear HL1;have hng2g1:g2≠g1:=Live.ne_ [] HL.out;have hmg2g1:g1≠g2:=Ne.symm hng2g1;have hcw2g20:w2.cell? ⟨g2,0,none⟩=some (.slice A1 u1.length c1):=Live.cell [] HL.out 0 rfl;have hcw2g21:w2.cell? ⟨g2,1,none⟩=some (.slice B1 n1.length e1):=Live.cell [] HL.out 1 rfl;have hfw2g20:=Live.frozen [] HL.out 0;have hfw2g21:=Live.frozen [] HL.out 1;have hcw2g10:w2.cell? ⟨g1,0,none⟩=some (.slice A0 u0.length c0):=Live.cell [_] HL.out 0 rfl;have hcw2g11:w2.cell? ⟨g1,1,none⟩=some (.slice B0 n0.length e0):=Live.cell [_] HL.out 1 rfl;have s2:=Aside0.mk True.intro)
  | (clear s2;go_at_call 15;refine arm_ (rs':=[.box g2 #[.slice A1 u1.length c1,.slice B1 n1.length e1] 25,.box g1 #[.slice A0 u0.length c0,.slice B0 n0.length e0] 25]) HL ?_;clear HL;intro HL;(with_reducible refine (laws_szLogic.calls ks0 _ _ u0 _ _ n0 1048576 x0 _ ?q1 ?q2 ?q3 ?q4 HKs0.out).mono ?_);(case q1=>exact Live.came HL.out HR0.out);(case q2=>exact HC0.out);(case q3=>exact Live.came HL.out HS0.out);(case q4=>exact HD0.out);rintro e w3 ⟨rfl,hD⟩;have HL1:Aside0 (Live w w3 [.box g2 #[.slice A1 u1.length c1,.slice B1 n1.length e1] 25,.box g1 #[.slice A0 u0.length c0,.slice B0 n0.length e0] 25]):=⟨HL.out.step hD⟩;clear HL hD;have HL:=HL1;clear HL1;have hcw3g20:w3.cell? ⟨g2,0,none⟩=some (.slice A1 u1.length c1):=Live.cell [] HL.out 0 rfl;have hcw3g21:w3.cell? ⟨g2,1,none⟩=some (.slice B1 n1.length e1):=Live.cell [] HL.out 1 rfl;have hcw3g10:w3.cell? ⟨g1,0,none⟩=some (.slice A0 u0.length c0):=Live.cell [_] HL.out 0 rfl;have hcw3g11:w3.cell? ⟨g1,1,none⟩=some (.slice B0 n0.length e0):=Live.cell [_] HL.out 1 rfl;have s3:=Aside0.mk True.intro))
 go_ret
 exact ⟨rfl,by repeat (first|exact HL.out.below|apply pw_below_drewN|apply below_drew1)⟩
set_option maxHeartbeats 8000000 in
set_option maxRecDepth 100000 in
theorem FnExactGluedOf_neg1 (w:World) (A0:Option Addr) (c0:Nat) (u0:List (List Int)) (B0:Option Addr) (e0:Nat) (n0:List Int) (hr0:Kd.C (Kd.slice 3 (Kd.int .i64)) w A0 u0.length u0) (hc0:u0.length≤c0) (hs0:Kd.C (Kd.int .i64) w B0 n0.length n0) (hd0:n0.length≤e0) (A1:Option Addr) (c1:Nat) (u1:List (List Int)) (B1:Option Addr) (e1:Nat) (n1:List Int) (hr1:Kd.C (Kd.slice 3 (Kd.int .i64)) w A1 u1.length u1) (hc1:u1.length≤c1) (hs1:Kd.C (Kd.int .i64) w B1 n1.length n1) (hd1:n1.length≤e1) (x0:Int) (ks0:Nat) (hks0:laws_szLogic.f ks0 u0 n0 1048576=some x0) (hxs0 : ¬x0<0) (x1:Int) (ks1:Nat) (hks1:laws_szLogic.f ks1 u1 n1 x0=some x1) (hxs1:x1<0):Calls Try.prog 14 #[.agg #[.slice A0 u0.length c0,.slice B0 n0.length e0],.agg #[.slice A1 u1.length c1,.slice B1 n1.length e1]] w fun e w'=>e = .returned (.bool true)∧Below w.heap.size w w':=by
 have HR0:=Aside0.mk hr0
 have HC0:=Aside0.mk hc0
 have HS0:=Aside0.mk hs0
 have HD0:=Aside0.mk hd0
 clear hr0 hc0 hs0 hd0
 have HR1:=Aside0.mk hr1
 have HC1:=Aside0.mk hc1
 have HS1:=Aside0.mk hs1
 have HD1:=Aside0.mk hd1
 clear hr1 hc1 hs1 hd1
 have HKs0:=Aside0.mk hks0
 clear hks0
 have hx0:decide (x0<0)=false:=decide_eq_false hxs0
 clear hxs0
 have HKs1:=Aside0.mk hks1
 clear hks1
 have hx1:decide (x1<0)=true:=decide_eq_true hxs1
 clear hxs1
 have HL:=Aside0.mk (Live.start w)
 have s0:=Aside0.mk True.intro
 go_enter Try.func14,Try.ntmps14
 go_wp2_with (first
  | (clear s0;(with_reducible refine gate_dst (N:=2) rfl ?_);refine armb_ (rs':=[]) HL (fun HL_=>?_);refine bx_ (N:=2) (cs:=#[.slice A0 u0.length c0,.slice B0 n0.length e0]) (t:=25) ?_;intro g1 hg w1 hbox hb;have HL1:Aside0 (Live w w1 [.box g1 #[.slice A0 u0.length c0,.slice B0 n0.length e0] 25]):=⟨HL_.out.box hb hg hbox⟩;clear HL HL_ hb hg hbox;have HL:=HL1;clear HL1;have hcw1g10:w1.cell? ⟨g1,0,none⟩=some (.slice A0 u0.length c0):=Live.cell [] HL.out 0 rfl;have hcw1g11:w1.cell? ⟨g1,1,none⟩=some (.slice B0 n0.length e0):=Live.cell [] HL.out 1 rfl;have hfw1g10:=Live.frozen [] HL.out 0;have hfw1g11:=Live.frozen [] HL.out 1;have s1:=Aside0.mk True.intro)
  | (clear s1;(with_reducible refine gate_dst (N:=3) rfl ?_);refine armb_ (rs':=[.box g1 #[.slice A0 u0.length c0,.slice B0 n0.length e0] 25]) HL (fun HL_=>?_);refine bx_ (N:=3) (cs:=#[.slice A1 u1.length c1,.slice B1 n1.length e1]) (t:=25) ?_;intro g2 hg w2 hbox hb;have HL1:Aside0 (Live w w2 [.box g2 #[.slice A1 u1.length c1,.slice B1 n1.length e1] 25,.box g1 #[.slice A0 u0.length c0,.slice B0 n0.length e0] 25]):=⟨HL_.out.box hb hg hbox⟩;clear HL HL_ hb hg hbox;have HL:=HL1;clear HL1;have hng2g1:g2≠g1:=Live.ne_ [] HL.out;have hmg2g1:g1≠g2:=Ne.symm hng2g1;have hcw2g20:w2.cell? ⟨g2,0,none⟩=some (.slice A1 u1.length c1):=Live.cell [] HL.out 0 rfl;have hcw2g21:w2.cell? ⟨g2,1,none⟩=some (.slice B1 n1.length e1):=Live.cell [] HL.out 1 rfl;have hfw2g20:=Live.frozen [] HL.out 0;have hfw2g21:=Live.frozen [] HL.out 1;have hcw2g10:w2.cell? ⟨g1,0,none⟩=some (.slice A0 u0.length c0):=Live.cell [_] HL.out 0 rfl;have hcw2g11:w2.cell? ⟨g1,1,none⟩=some (.slice B0 n0.length e0):=Live.cell [_] HL.out 1 rfl;have s2:=Aside0.mk True.intro)
  | (clear s2;go_at_call 15;refine arm_ (rs':=[.box g2 #[.slice A1 u1.length c1,.slice B1 n1.length e1] 25,.box g1 #[.slice A0 u0.length c0,.slice B0 n0.length e0] 25]) HL ?_;clear HL;intro HL;(with_reducible refine (laws_szLogic.calls ks0 _ _ u0 _ _ n0 1048576 x0 _ ?q1 ?q2 ?q3 ?q4 HKs0.out).mono ?_);(case q1=>exact Live.came HL.out HR0.out);(case q2=>exact HC0.out);(case q3=>exact Live.came HL.out HS0.out);(case q4=>exact HD0.out);rintro e w3 ⟨rfl,hD⟩;have HL1:Aside0 (Live w w3 [.box g2 #[.slice A1 u1.length c1,.slice B1 n1.length e1] 25,.box g1 #[.slice A0 u0.length c0,.slice B0 n0.length e0] 25]):=⟨HL.out.step hD⟩;clear HL hD;have HL:=HL1;clear HL1;have hcw3g20:w3.cell? ⟨g2,0,none⟩=some (.slice A1 u1.length c1):=Live.cell [] HL.out 0 rfl;have hcw3g21:w3.cell? ⟨g2,1,none⟩=some (.slice B1 n1.length e1):=Live.cell [] HL.out 1 rfl;have hcw3g10:w3.cell? ⟨g1,0,none⟩=some (.slice A0 u0.length c0):=Live.cell [_] HL.out 0 rfl;have hcw3g11:w3.cell? ⟨g1,1,none⟩=some (.slice B0 n0.length e0):=Live.cell [_] HL.out 1 rfl;have s3:=Aside0.mk True.intro)
  | (clear s3;go_at_call 15;refine arm_ (rs':=[.box g2 #[.slice A1 u1.length c1,.slice B1 n1.length e1] 25,.box g1 #[.slice A0 u0.length c0,.slice B0 n0.length e0] 25]) HL ?_;clear HL;intro HL;(with_reducible refine (laws_szLogic.calls ks1 _ _ u1 _ _ n1 x0 x1 _ ?q1 ?q2 ?q3 ?q4 HKs1.out).mono ?_);(case q1=>exact Live.came HL.out HR1.out);(case q2=>exact HC1.out);(case q3=>exact Live.came HL.out HS1.out);(case q4=>exact HD1.out);rintro e w4 ⟨rfl,hD⟩;have HL1:Aside0 (Live w w4 [.box g2 #[.slice A1 u1.length c1,.slice B1 n1.length e1] 25,.box g1 #[.slice A0 u0.length c0,.slice B0 n0.length e0] 25]):=⟨HL.out.step hD⟩;clear HL hD;have HL:=HL1;clear HL1;have hcw4g20:w4.cell? ⟨g2,0,none⟩=some (.slice A1 u1.length c1):=Live.cell [] HL.out 0 rfl;have hcw4g21:w4.cell? ⟨g2,1,none⟩=some (.slice B1 n1.length e1):=Live.cell [] HL.out 1 rfl;have hcw4g10:w4.cell? ⟨g1,0,none⟩=some (.slice A0 u0.length c0):=Live.cell [_] HL.out 0 rfl;have hcw4g11:w4.cell? ⟨g1,1,none⟩=some (.slice B0 n0.length e0):=Live.cell [_] HL.out 1 rfl;have s4:=Aside0.mk True.intro))
 go_ret
 exact ⟨rfl,by repeat (first|exact HL.out.below|apply pw_below_drewN|apply below_drew1)⟩
set_option maxHeartbeats 8000000 in
set_option maxRecDepth 100000 in
theorem FnExactGluedOf_all (w:World) (A0:Option Addr) (c0:Nat) (u0:List (List Int)) (B0:Option Addr) (e0:Nat) (n0:List Int) (hr0:Kd.C (Kd.slice 3 (Kd.int .i64)) w A0 u0.length u0) (hc0:u0.length≤c0) (hs0:Kd.C (Kd.int .i64) w B0 n0.length n0) (hd0:n0.length≤e0) (A1:Option Addr) (c1:Nat) (u1:List (List Int)) (B1:Option Addr) (e1:Nat) (n1:List Int) (hr1:Kd.C (Kd.slice 3 (Kd.int .i64)) w A1 u1.length u1) (hc1:u1.length≤c1) (hs1:Kd.C (Kd.int .i64) w B1 n1.length n1) (hd1:n1.length≤e1) (x0:Int) (ks0:Nat) (hks0:laws_szLogic.f ks0 u0 n0 1048576=some x0) (hxs0 : ¬x0<0) (x1:Int) (ks1:Nat) (hks1:laws_szLogic.f ks1 u1 n1 x0=some x1) (hxs1 : ¬x1<0) (hl0:u0.length≤1048576) (hz0 : ∀ i (k:i<u0.length),u0[i].length≤1048576) (hn0:n0.length≤1048576) (hl1:u1.length≤1048576) (hz1 : ∀ i (k:i<u1.length),u1[i].length≤1048576) (hn1:n1.length≤1048576)  (r1:List (List Int)) (r2:List Int) (r3:Bool) (hR:gluedF u0 n0 u1 n1=(r1,r2,r3)) (hfew:Q.Few r1 r2):Calls Try.prog 14 #[.agg #[.slice A0 u0.length c0,.slice B0 n0.length e0],.agg #[.slice A1 u1.length c1,.slice B1 n1.length e1]] w fun e w'=>e = .returned (.bool true)∧Below w.heap.size w w':=by
 have HR0:=Aside0.mk hr0
 have HC0:=Aside0.mk hc0
 have HS0:=Aside0.mk hs0
 have HD0:=Aside0.mk hd0
 clear hr0 hc0 hs0 hd0
 have HR1:=Aside0.mk hr1
 have HC1:=Aside0.mk hc1
 have HS1:=Aside0.mk hs1
 have HD1:=Aside0.mk hd1
 clear hr1 hc1 hs1 hd1
 have HKs0:=Aside0.mk hks0
 clear hks0
 have hx0:decide (x0<0)=false:=decide_eq_false hxs0
 clear hxs0
 have HKs1:=Aside0.mk hks1
 clear hks1
 have hx1:decide (x1<0)=false:=decide_eq_false hxs1
 clear hxs1
 have ht0:=Q.tot_le2 u0 hl0 hz0
 have ht1:=Q.tot_le2 u1 hl1 hz1
 have htg:=Q.tot_le2 r1 hfew.1 hfew.2.1
 have hfg:=hfew.2.2
 obtain ⟨M1,e1⟩ : ∃ M:Int,(1:Int)+(Q.tot u0:Nat)+(n0.length:Nat)=M:=⟨_,rfl⟩
 obtain ⟨M2,e2⟩ : ∃ M:Int,(M1:Int)+(Q.tot u1:Nat)+(n1.length:Nat)=M:=⟨_,rfl⟩
 obtain ⟨M3,e3⟩ : ∃ M:Int,(1:Int)+(Q.tot r1:Nat)+(r2.length:Nat)=M:=⟨_,rfl⟩
 have HB1:=Aside0.mk (show (1:Int)+(Q.tot u0:Nat)+(n0.length:Nat)≤9223372036854775807 by omega)
 have hM1:decide (M1<0)=false:=decide_eq_false (by omega)
 have HP1:=Aside0.mk (show (0:Int)≤M1 by omega)
 have HL1:=Aside0.mk hl0
 have HB2:=Aside0.mk (show (M1:Int)+(Q.tot u1:Nat)+(n1.length:Nat)≤9223372036854775807 by omega)
 have hM2:decide (M2<0)=false:=decide_eq_false (by omega)
 have HP2:=Aside0.mk (show (0:Int)≤M2 by omega)
 have HL2:=Aside0.mk hl1
 have HB3:=Aside0.mk (show (1:Int)+(Q.tot r1:Nat)+(r2.length:Nat)≤9223372036854775807 by omega)
 have hM3:decide (M3<0)=false:=decide_eq_false (by omega)
 have HP3:=Aside0.mk (show (0:Int)≤M3 by omega)
 have HL3:=Aside0.mk hfew.1
 have E1:=Aside0.mk e1
 have E2:=Aside0.mk e2
 have E3:=Aside0.mk e3
 clear e1 e2 e3
 obtain ⟨k1,hk1⟩:=Ev.rounds (Q.copyL (u:=u0) (nt:=n0) hl0 hz0 hn0)
 have HK1:=Aside0.mk hk1
 clear hk1
 obtain ⟨k2,hk2⟩:=Ev.rounds (Q.copyL (u:=u1) (nt:=n1) hl1 hz1 hn1)
 have HK2:=Aside0.mk hk2
 clear hk2
 have hk3:(if n0.length≤1048576∧n1.length≤1048576 then some (gluedF u0 n0 u1 n1) else none)=some (r1,r2,r3):=(if_pos ⟨hn0,hn1⟩).trans (congrArg some hR)
 have HK3:=Aside0.mk hk3
 clear hk3
 obtain ⟨k4,hk4⟩:=Ev.rounds (Q.copyL (u:=u0) (nt:=n0) hl0 hz0 hn0)
 have HK4:=Aside0.mk hk4
 clear hk4
 obtain ⟨k5,hk5⟩:=Ev.rounds (Q.copyL (u:=u1) (nt:=n1) hl1 hz1 hn1)
 have HK5:=Aside0.mk hk5
 clear hk5
 have HK6:=Aside0.mk (show impl_GluedOf.f u0 n0 u1 n1=some (r1,r2,r3) from congrArg some hR)
 obtain ⟨k7,hk7⟩:=Ev.rounds (Q.sameL (u:=r1) (nt:=r2) hfew.1 hfew.2.1 hfew.2.2)
 have HK7:=Aside0.mk hk7
 clear hk7
 obtain ⟨k8,hk8⟩:=Ev.rounds (Q.copyL (u:=u0) (nt:=n0) hl0 hz0 hn0)
 have HK8:=Aside0.mk hk8
 clear hk8
 obtain ⟨k9,hk9⟩:=Ev.rounds (Q.sameL (u:=u0) (nt:=n0) hl0 hz0 hn0)
 have HK9:=Aside0.mk hk9
 clear hk9
 obtain ⟨k10,hk10⟩:=Ev.rounds (Q.copyL (u:=u1) (nt:=n1) hl1 hz1 hn1)
 have HK10:=Aside0.mk hk10
 clear hk10
 obtain ⟨k11,hk11⟩:=Ev.rounds (Q.sameL (u:=u1) (nt:=n1) hl1 hz1 hn1)
 have HK11:=Aside0.mk hk11
 clear hk11
 obtain ⟨k12,hk12⟩:=Ev.rounds (Q.sameL (u:=r1) (nt:=r2) hfew.1 hfew.2.1 hfew.2.2)
 have HK12:=Aside0.mk hk12
 clear hk12
 obtain ⟨k13,hk13⟩:=Ev.rounds (Q.copyL (u:=u0) (nt:=n0) hl0 hz0 hn0)
 have HK13:=Aside0.mk hk13
 clear hk13
 obtain ⟨k14,hk14⟩:=Ev.rounds (Q.copyL (u:=u1) (nt:=n1) hl1 hz1 hn1)
 have HK14:=Aside0.mk hk14
 clear hk14
 have HK15:=Aside0.mk (show impl_GluedOf.f u0 n0 u1 n1=some (r1,r2,r3) from congrArg some hR)
 obtain ⟨k16,hk16⟩:=Ev.rounds (Q.sameL (u:=r1) (nt:=r2) hfew.1 hfew.2.1 hfew.2.2)
 have HK16:=Aside0.mk hk16
 clear hk16
 have HL:=Aside0.mk (Live.start w)
 have s0:=Aside0.mk True.intro
 go_enter Try.func14,Try.ntmps14
 go_wp2_with (first
  | (clear s0;(with_reducible refine gate_dst (N:=2) rfl ?_);refine armb_ (rs':=[]) HL (fun HL_=>?_);refine bx_ (N:=2) (cs:=#[.slice A0 u0.length c0,.slice B0 n0.length e0]) (t:=25) ?_;intro g1 hg w1 hbox hb;have HL1:Aside0 (Live w w1 [.box g1 #[.slice A0 u0.length c0,.slice B0 n0.length e0] 25]):=⟨HL_.out.box hb hg hbox⟩;clear HL HL_ hb hg hbox;have HL:=HL1;clear HL1;have hcw1g10:w1.cell? ⟨g1,0,none⟩=some (.slice A0 u0.length c0):=Live.cell [] HL.out 0 rfl;have hcw1g11:w1.cell? ⟨g1,1,none⟩=some (.slice B0 n0.length e0):=Live.cell [] HL.out 1 rfl;have hfw1g10:=Live.frozen [] HL.out 0;have hfw1g11:=Live.frozen [] HL.out 1;have s1:=Aside0.mk True.intro)
  | (clear s1;(with_reducible refine gate_dst (N:=3) rfl ?_);refine armb_ (rs':=[.box g1 #[.slice A0 u0.length c0,.slice B0 n0.length e0] 25]) HL (fun HL_=>?_);refine bx_ (N:=3) (cs:=#[.slice A1 u1.length c1,.slice B1 n1.length e1]) (t:=25) ?_;intro g2 hg w2 hbox hb;have HL1:Aside0 (Live w w2 [.box g2 #[.slice A1 u1.length c1,.slice B1 n1.length e1] 25,.box g1 #[.slice A0 u0.length c0,.slice B0 n0.length e0] 25]):=⟨HL_.out.box hb hg hbox⟩;clear HL HL_ hb hg hbox;have HL:=HL1;clear HL1;have hng2g1:g2≠g1:=Live.ne_ [] HL.out;have hmg2g1:g1≠g2:=Ne.symm hng2g1;have hcw2g20:w2.cell? ⟨g2,0,none⟩=some (.slice A1 u1.length c1):=Live.cell [] HL.out 0 rfl;have hcw2g21:w2.cell? ⟨g2,1,none⟩=some (.slice B1 n1.length e1):=Live.cell [] HL.out 1 rfl;have hfw2g20:=Live.frozen [] HL.out 0;have hfw2g21:=Live.frozen [] HL.out 1;have hcw2g10:w2.cell? ⟨g1,0,none⟩=some (.slice A0 u0.length c0):=Live.cell [_] HL.out 0 rfl;have hcw2g11:w2.cell? ⟨g1,1,none⟩=some (.slice B0 n0.length e0):=Live.cell [_] HL.out 1 rfl;have s2:=Aside0.mk True.intro)
  | (clear s2;go_at_call 15;refine arm_ (rs':=[.box g2 #[.slice A1 u1.length c1,.slice B1 n1.length e1] 25,.box g1 #[.slice A0 u0.length c0,.slice B0 n0.length e0] 25]) HL ?_;clear HL;intro HL;(with_reducible refine (laws_szLogic.calls ks0 _ _ u0 _ _ n0 1048576 x0 _ ?q1 ?q2 ?q3 ?q4 HKs0.out).mono ?_);(case q1=>exact Live.came HL.out HR0.out);(case q2=>exact HC0.out);(case q3=>exact Live.came HL.out HS0.out);(case q4=>exact HD0.out);rintro e w3 ⟨rfl,hD⟩;have HL1:Aside0 (Live w w3 [.box g2 #[.slice A1 u1.length c1,.slice B1 n1.length e1] 25,.box g1 #[.slice A0 u0.length c0,.slice B0 n0.length e0] 25]):=⟨HL.out.step hD⟩;clear HL hD;have HL:=HL1;clear HL1;have hcw3g20:w3.cell? ⟨g2,0,none⟩=some (.slice A1 u1.length c1):=Live.cell [] HL.out 0 rfl;have hcw3g21:w3.cell? ⟨g2,1,none⟩=some (.slice B1 n1.length e1):=Live.cell [] HL.out 1 rfl;have hcw3g10:w3.cell? ⟨g1,0,none⟩=some (.slice A0 u0.length c0):=Live.cell [_] HL.out 0 rfl;have hcw3g11:w3.cell? ⟨g1,1,none⟩=some (.slice B0 n0.length e0):=Live.cell [_] HL.out 1 rfl;have s3:=Aside0.mk True.intro)
  | (clear s3;go_at_call 15;refine arm_ (rs':=[.box g2 #[.slice A1 u1.length c1,.slice B1 n1.length e1] 25,.box g1 #[.slice A0 u0.length c0,.slice B0 n0.length e0] 25]) HL ?_;clear HL;intro HL;(with_reducible refine (laws_szLogic.calls ks1 _ _ u1 _ _ n1 x0 x1 _ ?q1 ?q2 ?q3 ?q4 HKs1.out).mono ?_);(case q1=>exact Live.came HL.out HR1.out);(case q2=>exact HC1.out);(case q3=>exact Live.came HL.out HS1.out);(case q4=>exact HD1.out);rintro e w4 ⟨rfl,hD⟩;have HL1:Aside0 (Live w w4 [.box g2 #[.slice A1 u1.length c1,.slice B1 n1.length e1] 25,.box g1 #[.slice A0 u0.length c0,.slice B0 n0.length e0] 25]):=⟨HL.out.step hD⟩;clear HL hD;have HL:=HL1;clear HL1;have hcw4g20:w4.cell? ⟨g2,0,none⟩=some (.slice A1 u1.length c1):=Live.cell [] HL.out 0 rfl;have hcw4g21:w4.cell? ⟨g2,1,none⟩=some (.slice B1 n1.length e1):=Live.cell [] HL.out 1 rfl;have hcw4g10:w4.cell? ⟨g1,0,none⟩=some (.slice A0 u0.length c0):=Live.cell [_] HL.out 0 rfl;have hcw4g11:w4.cell? ⟨g1,1,none⟩=some (.slice B0 n0.length e0):=Live.cell [_] HL.out 1 rfl;have s4:=Aside0.mk True.intro))
 refine armc_ (rs':=[.box g2 #[.slice A1 u1.length c1,.slice B1 n1.length e1] 25,.box g1 #[.slice A0 u0.length c0,.slice B0 n0.length e0] 25]) HL (fun HL_=>?_)
 clear HL
 have HL:=Aside0.mk (HL_.out.drew)
 clear HL_
 refine start_ (n:=11) (S:=fun w'=>w'.cell? ⟨g1,0,none⟩=some (.slice A0 u0.length c0)∧w'.cell? ⟨g1,1,none⟩=some (.slice B0 n0.length e0)∧w'.cell? ⟨g2,0,none⟩=some (.slice A1 u1.length c1)∧w'.cell? ⟨g2,1,none⟩=some (.slice B1 n1.length e1)) (ds:=[9]) #[false,false,false,false,false,false,false,false,false,false,false] (by kernel_rfl) rfl rfl ⟨Live.cell [_] HL.out 0 rfl,Live.cell [_] HL.out 1 rfl,Live.cell [] HL.out 0 rfl,Live.cell [] HL.out 1 rfl⟩ (fun hHeld=>?_)
 refine take_ (i:=0) (N:=some 28) (v:=?_) (a':=?_) #[true,false,false,false,false,false,false,false,false,false,false] rfl rfl (by kernel_rfl) (fun _ _ _ h=>h) (Or.inl ⟨by rfl,?_⟩) hHeld ?_ ?_
 rotate_left
 ·rintro w' ⟨s0,s1,s2,s3⟩
  go_simp
  with_reducible rfl
 rotate_left
 ·simp only [Act.put,List.setIfInBounds_toArray,List.set_cons_zero,List.set_cons_succ,i64_w,i32_w]
  rfl
 refine take_ (i:=2) (N:=some 30) (v:=?_) (a':=?_) #[true,false,true,false,false,false,false,false,false,false,false] rfl rfl (by kernel_rfl) (fun _ _ _ h=>h) (Or.inl ⟨by rfl,?_⟩) hHeld ?_ ?_
 rotate_left
 ·rintro w' ⟨s0,s1,s2,s3⟩
  go_simp
  with_reducible rfl
 rotate_left
 ·simp only [Act.put,List.setIfInBounds_toArray,List.set_cons_zero,List.set_cons_succ,i64_w,i32_w]
  rfl
 refine join_ (σ:=(Option Addr × Nat × Option Addr × Nat) × (Option Addr × Nat × Option Addr × Nat) × (Option Addr × Nat × Option Addr × Nat) × Nat) 2 #[true,true,true,true,true,true,true,true,true,false,false] (fun s=>[(29,.agg #[.slice s.1.1 u0.length s.1.2.1,.slice s.1.2.2.1 n0.length s.1.2.2.2]),(31,.agg #[.slice s.2.1.1 u1.length s.2.1.2.1,.slice s.2.1.2.2.1 n1.length s.2.1.2.2.2]),(32,.tuple #[.agg #[.slice s.2.2.1.1 r1.length s.2.2.1.2.1,.slice s.2.2.1.2.2.1 r2.length s.2.2.1.2.2.2],.bool r3]),(6,.pointer (some ⟨s.2.2.2,0,none⟩)),(27,.tuple #[.agg #[.slice s.2.2.1.1 r1.length s.2.2.1.2.1,.slice s.2.2.1.2.2.1 r2.length s.2.2.1.2.2.2],.bool r3]),(33,.agg #[.slice s.2.2.1.1 r1.length s.2.2.1.2.1,.slice s.2.2.1.2.2.1 r2.length s.2.2.1.2.2.2]),(34,.bool r3)]) (fun s W=>Ins w W [.logic (.slice s.2.2.1.1 r1.length s.2.2.1.2.1) (.slice s.2.2.1.2.2.1 r2.length s.2.2.1.2.2.2) r1 r2,.logic (.slice s.2.1.1 u1.length s.2.1.2.1) (.slice s.2.1.2.2.1 n1.length s.2.1.2.2.2) u1 n1,.logic (.slice s.1.1 u0.length s.1.2.1) (.slice s.1.2.2.1 n0.length s.1.2.2.2) u0 n0,.box g2 #[.slice A1 u1.length c1,.slice B1 n1.length e1] 25,.box g1 #[.slice A0 u0.length c0,.slice B0 n0.length e0] 25] (some (.box (s.2.2.2) #[.slice none 0 0,.slice none 0 0] 29))) ?_ ?_
 rotate_left
 ·intro hJ1_3_4_8
  refine join_ (σ:=(Option Addr × Nat × Option Addr × Nat) × (Option Addr × Nat × Option Addr × Nat) × (Option Addr × Nat × Option Addr × Nat) × Nat) 3 #[true,true,true,true,true,true,true,true,false,false,false] (fun s=>[(29,.agg #[.slice s.1.1 u0.length s.1.2.1,.slice s.1.2.2.1 n0.length s.1.2.2.2]),(31,.agg #[.slice s.2.1.1 u1.length s.2.1.2.1,.slice s.2.1.2.2.1 n1.length s.2.1.2.2.2]),(32,.tuple #[.agg #[.slice s.2.2.1.1 r1.length s.2.2.1.2.1,.slice s.2.2.1.2.2.1 r2.length s.2.2.1.2.2.2],.bool r3]),(27,.tuple #[.agg #[.slice s.2.2.1.1 r1.length s.2.2.1.2.1,.slice s.2.2.1.2.2.1 r2.length s.2.2.1.2.2.2],.bool r3]),(33,.agg #[.slice s.2.2.1.1 r1.length s.2.2.1.2.1,.slice s.2.2.1.2.2.1 r2.length s.2.2.1.2.2.2]),(34,.bool r3)]) (fun s W=>Ins w W [.logic (.slice s.2.2.1.1 r1.length s.2.2.1.2.1) (.slice s.2.2.1.2.2.1 r2.length s.2.2.1.2.2.2) r1 r2,.logic (.slice s.2.1.1 u1.length s.2.1.2.1) (.slice s.2.1.2.2.1 n1.length s.2.1.2.2.2) u1 n1,.logic (.slice s.1.1 u0.length s.1.2.1) (.slice s.1.2.2.1 n0.length s.1.2.2.2) u0 n0,.box g2 #[.slice A1 u1.length c1,.slice B1 n1.length e1] 25,.box g1 #[.slice A0 u0.length c0,.slice B0 n0.length e0] 25] (none)) ?_ ?_
  rotate_left
  ·intro hJ1_3_4
   refine join_ (σ:=(Option Addr × Nat × Option Addr × Nat) × (Option Addr × Nat × Option Addr × Nat) × (Option Addr × Nat × Option Addr × Nat) × Nat) 6 #[true,true,true,true,false,false,false,false,true,false,false] (fun s=>[(29,.agg #[.slice s.1.1 u0.length s.1.2.1,.slice s.1.2.2.1 n0.length s.1.2.2.2]),(31,.agg #[.slice s.2.1.1 u1.length s.2.1.2.1,.slice s.2.1.2.2.1 n1.length s.2.1.2.2.2]),(6,.pointer (some ⟨s.2.2.2,0,none⟩))]) (fun s W=>Ins w W [.logic (.slice s.2.1.1 u1.length s.2.1.2.1) (.slice s.2.1.2.2.1 n1.length s.2.1.2.2.2) u1 n1,.logic (.slice s.1.1 u0.length s.1.2.1) (.slice s.1.2.2.1 n0.length s.1.2.2.2) u0 n0,.box g2 #[.slice A1 u1.length c1,.slice B1 n1.length e1] 25,.box g1 #[.slice A0 u0.length c0,.slice B0 n0.length e0] 25] (some (.box (s.2.2.2) #[.slice none 0 0,.slice none 0 0] 29))) ?_ ?_
   rotate_left
   ·intro hJ1_3_8
    refine join_ (σ:=(Option Addr × Nat × Option Addr × Nat) × (Option Addr × Nat × Option Addr × Nat) × (Option Addr × Nat × Option Addr × Nat) × Nat) 7 #[true,true,true,true,false,false,false,false,false,false,false] (fun s=>[(29,.agg #[.slice s.1.1 u0.length s.1.2.1,.slice s.1.2.2.1 n0.length s.1.2.2.2]),(31,.agg #[.slice s.2.1.1 u1.length s.2.1.2.1,.slice s.2.1.2.2.1 n1.length s.2.1.2.2.2])]) (fun s W=>Ins w W [.logic (.slice s.2.1.1 u1.length s.2.1.2.1) (.slice s.2.1.2.2.1 n1.length s.2.1.2.2.2) u1 n1,.logic (.slice s.1.1 u0.length s.1.2.1) (.slice s.1.2.2.1 n0.length s.1.2.2.2) u0 n0,.box g2 #[.slice A1 u1.length c1,.slice B1 n1.length e1] 25,.box g1 #[.slice A0 u0.length c0,.slice B0 n0.length e0] 25] (none)) ?_ ?_
    rotate_left
    ·intro hJ1_3
     refine join_ (σ:=(Option Addr × Nat × Option Addr × Nat) × (Option Addr × Nat × Option Addr × Nat) × (Option Addr × Nat × Option Addr × Nat) × Nat) 7 #[true,true,true,false,false,false,false,false,true,false,false] (fun s=>[(29,.agg #[.slice s.1.1 u0.length s.1.2.1,.slice s.1.2.2.1 n0.length s.1.2.2.2]),(6,.pointer (some ⟨s.2.2.2,0,none⟩))]) (fun s W=>Ins w W [.logic (.slice s.1.1 u0.length s.1.2.1) (.slice s.1.2.2.1 n0.length s.1.2.2.2) u0 n0,.box g2 #[.slice A1 u1.length c1,.slice B1 n1.length e1] 25,.box g1 #[.slice A0 u0.length c0,.slice B0 n0.length e0] 25] (some (.box (s.2.2.2) #[.slice none 0 0,.slice none 0 0] 29))) ?_ ?_
     rotate_left
     ·intro hJ1_8
      refine join_ (σ:=(Option Addr × Nat × Option Addr × Nat) × (Option Addr × Nat × Option Addr × Nat) × (Option Addr × Nat × Option Addr × Nat) × Nat) 8 #[true,true,true,false,false,false,false,false,false,false,false] (fun s=>[(29,.agg #[.slice s.1.1 u0.length s.1.2.1,.slice s.1.2.2.1 n0.length s.1.2.2.2])]) (fun s W=>Ins w W [.logic (.slice s.1.1 u0.length s.1.2.1) (.slice s.1.2.2.1 n0.length s.1.2.2.2) u0 n0,.box g2 #[.slice A1 u1.length c1,.slice B1 n1.length e1] 25,.box g1 #[.slice A0 u0.length c0,.slice B0 n0.length e0] 25] (none)) ?_ ?_
      rotate_left
      ·intro hJ1
       refine join_ (σ:=(Option Addr × Nat × Option Addr × Nat) × (Option Addr × Nat × Option Addr × Nat) × (Option Addr × Nat × Option Addr × Nat) × Nat) 8 #[true,false,true,false,false,false,false,false,true,false,false] (fun s=>[(6,.pointer (some ⟨s.2.2.2,0,none⟩))]) (fun s W=>Ins w W [.box g2 #[.slice A1 u1.length c1,.slice B1 n1.length e1] 25,.box g1 #[.slice A0 u0.length c0,.slice B0 n0.length e0] 25] (some (.box (s.2.2.2) #[.slice none 0 0,.slice none 0 0] 29))) ?_ ?_
       rotate_left
       ·intro hJ8
        refine two_ (i:=1) (j:=8) (Ni:=some 29) (Nj:=some 6) #[true,true,true,false,false,false,false,false,false,false,false] #[true,false,true,false,false,false,false,false,true,false,false] rfl rfl rfl rfl (by kernel_rfl) (by decide) (by decide) (fun K hK=>?_) (fun K hK=>?_)
        ·skip
         have HG:Ins w _ [.box g2 #[.slice A1 u1.length c1,.slice B1 n1.length e1] 25,.box g1 #[.slice A0 u0.length c0,.slice B0 n0.length e0] 25] none:=HL.out
         refine ge_ Try.func17 #[.agg #[.slice A0 u0.length c0,.slice B0 n0.length e0]] ?_
         with_reducible refine (laws_toLogic.calls k1 _ _ u0 _ _ n0 u0 n0 _ (Kd.C_below HR0.out HG.below) (HC0.out) (Kd.C_below HS0.out HG.below) (HD0.out) HK1.out).mono ?_
         rintro e W1 ⟨v_,x_,rfl,hs,ht,hb⟩
         obtain ⟨A_3,c_3,ev⟩:=Kd.S_slice hs
         subst ev
         obtain ⟨B_3,e_3,ev⟩:=Kd.R_slice ht
         subst ev
         have HG1:=Ins.logic HG hs ht hb
         refine ⟨_,rfl,?_⟩
         refine hK.out _ _ ⟨Ins.cell HG1 (List.Mem.tail _ (List.Mem.tail _ (List.Mem.head _))) 0 rfl,Ins.cell HG1 (List.Mem.tail _ (List.Mem.tail _ (List.Mem.head _))) 1 rfl,Ins.cell HG1 (List.Mem.tail _ (List.Mem.head _)) 0 rfl,Ins.cell HG1 (List.Mem.tail _ (List.Mem.head _)) 1 rfl⟩ (fun hHeld=>?_)
         clear hK K
         refine norm_ (a':=?_) ?_ ?_
         rotate_left
         ·show Act.put _ (some 29) _=_
          simp only [Act.put,List.setIfInBounds_toArray,List.set_cons_zero,List.set_cons_succ,i64_w,i32_w]
          rfl
         exact norm_ (by first|(simp only [putAll,Act.put,List.setIfInBounds_toArray,List.set_cons_zero,List.set_cons_succ];done)|(simp only [putAll,Act.put,List.setIfInBounds_toArray,List.set_cons_zero,List.set_cons_succ];rfl)) (hJ1 ((A_3,c_3,B_3,e_3),(none,0,none,0),(none,0,none,0),0) _ HG1)
        ·skip
         have HG:Ins w _ [.box g2 #[.slice A1 u1.length c1,.slice B1 n1.length e1] 25,.box g1 #[.slice A0 u0.length c0,.slice B0 n0.length e0] 25] none:=HL.out
         refine value_ (w1:=?_) (v:=?_) (by rfl) rfl ?_ ?_
         rotate_left 2
         ·go_simp
          constructor
          ·rfl
          ·rfl
         have HG1:=Ins.new HG #[.slice none 0 0,.slice none 0 0] 29
         refine hK.out _ _ ⟨Ins.cell HG1 (List.Mem.tail _ (List.Mem.head _)) 0 rfl,Ins.cell HG1 (List.Mem.tail _ (List.Mem.head _)) 1 rfl,Ins.cell HG1 (List.Mem.head _) 0 rfl,Ins.cell HG1 (List.Mem.head _) 1 rfl⟩ (fun hHeld=>?_)
         clear hK K
         refine norm_ (a':=?_) ?_ ?_
         rotate_left
         ·show Act.put _ (some 6) _=_
          simp only [Act.put,List.setIfInBounds_toArray,List.set_cons_zero,List.set_cons_succ,i64_w,i32_w]
          rfl
         exact norm_ (by first|(simp only [putAll,Act.put,List.setIfInBounds_toArray,List.set_cons_zero,List.set_cons_succ];done)|(simp only [putAll,Act.put,List.setIfInBounds_toArray,List.set_cons_zero,List.set_cons_succ];rfl)) (hJ8 ((none,0,none,0),(none,0,none,0),(none,0,none,0),_) _ HG1)
       ·skip
        rintro ⟨⟨A_3,c_3,B_3,e_3⟩,⟨A_4,c_4,B_4,e_4⟩,⟨A_5,c_5,B_5,e_5⟩,g6⟩ W HG
        refine norm_ (a':=?_) ?_ ?_
        rotate_left
        ·simp only [putAll,Act.put,List.setIfInBounds_toArray,List.set_cons_zero,List.set_cons_succ]
         rfl
        refine one_ (i:=1) (N:=some 29) #[true,true,true,false,false,false,false,false,true,false,false] rfl rfl (by kernel_rfl) (by decide) (fun K hK=>?_)
        refine ge_ Try.func17 #[.agg #[.slice A0 u0.length c0,.slice B0 n0.length e0]] ?_
        with_reducible refine (laws_toLogic.calls k1 _ _ u0 _ _ n0 u0 n0 _ (Kd.C_below HR0.out HG.below) (HC0.out) (Kd.C_below HS0.out HG.below) (HD0.out) HK1.out).mono ?_
        rintro e W1 ⟨v_,x_,rfl,hs,ht,hb⟩
        obtain ⟨A_3,c_3,ev⟩:=Kd.S_slice hs
        subst ev
        obtain ⟨B_3,e_3,ev⟩:=Kd.R_slice ht
        subst ev
        have HG1:=Ins.logic HG hs ht hb
        refine ⟨_,rfl,?_⟩
        refine hK.out _ _ ⟨Ins.cell HG1 (List.Mem.tail _ (List.Mem.tail _ (List.Mem.head _))) 0 rfl,Ins.cell HG1 (List.Mem.tail _ (List.Mem.tail _ (List.Mem.head _))) 1 rfl,Ins.cell HG1 (List.Mem.tail _ (List.Mem.head _)) 0 rfl,Ins.cell HG1 (List.Mem.tail _ (List.Mem.head _)) 1 rfl⟩ (fun hHeld=>?_)
        clear hK K
        refine norm_ (a':=?_) ?_ ?_
        rotate_left
        ·show Act.put _ (some 29) _=_
         simp only [Act.put,List.setIfInBounds_toArray,List.set_cons_zero,List.set_cons_succ,i64_w,i32_w]
         rfl
        exact norm_ (by first|(simp only [putAll,Act.put,List.setIfInBounds_toArray,List.set_cons_zero,List.set_cons_succ];done)|(simp only [putAll,Act.put,List.setIfInBounds_toArray,List.set_cons_zero,List.set_cons_succ];rfl)) (hJ1_8 ((A_3,c_3,B_3,e_3),(A_4,c_4,B_4,e_4),(A_5,c_5,B_5,e_5),g6) _ HG1)
      ·skip
       rintro ⟨⟨A_3,c_3,B_3,e_3⟩,⟨A_4,c_4,B_4,e_4⟩,⟨A_5,c_5,B_5,e_5⟩,g6⟩ W HG
       refine norm_ (a':=?_) ?_ ?_
       rotate_left
       ·simp only [putAll,Act.put,List.setIfInBounds_toArray,List.set_cons_zero,List.set_cons_succ]
        rfl
       refine two_ (i:=3) (j:=8) (Ni:=some 31) (Nj:=some 6) #[true,true,true,true,false,false,false,false,false,false,false] #[true,true,true,false,false,false,false,false,true,false,false] rfl rfl rfl rfl (by kernel_rfl) (by decide) (by decide) (fun K hK=>?_) (fun K hK=>?_)
       ·skip
        refine ge_ Try.func17 #[.agg #[.slice A1 u1.length c1,.slice B1 n1.length e1]] ?_
        with_reducible refine (laws_toLogic.calls k2 _ _ u1 _ _ n1 u1 n1 _ (Kd.C_below HR1.out HG.below) (HC1.out) (Kd.C_below HS1.out HG.below) (HD1.out) HK2.out).mono ?_
        rintro e W1 ⟨v_,x_,rfl,hs,ht,hb⟩
        obtain ⟨A_4,c_4,ev⟩:=Kd.S_slice hs
        subst ev
        obtain ⟨B_4,e_4,ev⟩:=Kd.R_slice ht
        subst ev
        have HG1:=Ins.logic HG hs ht hb
        refine ⟨_,rfl,?_⟩
        refine hK.out _ _ ⟨Ins.cell HG1 (List.Mem.tail _ (List.Mem.tail _ (List.Mem.tail _ (List.Mem.head _)))) 0 rfl,Ins.cell HG1 (List.Mem.tail _ (List.Mem.tail _ (List.Mem.tail _ (List.Mem.head _)))) 1 rfl,Ins.cell HG1 (List.Mem.tail _ (List.Mem.tail _ (List.Mem.head _))) 0 rfl,Ins.cell HG1 (List.Mem.tail _ (List.Mem.tail _ (List.Mem.head _))) 1 rfl⟩ (fun hHeld=>?_)
        clear hK K
        refine norm_ (a':=?_) ?_ ?_
        rotate_left
        ·show Act.put _ (some 31) _=_
         simp only [Act.put,List.setIfInBounds_toArray,List.set_cons_zero,List.set_cons_succ,i64_w,i32_w]
         rfl
        exact norm_ (by first|(simp only [putAll,Act.put,List.setIfInBounds_toArray,List.set_cons_zero,List.set_cons_succ];done)|(simp only [putAll,Act.put,List.setIfInBounds_toArray,List.set_cons_zero,List.set_cons_succ];rfl)) (hJ1_3 ((A_3,c_3,B_3,e_3),(A_4,c_4,B_4,e_4),(A_5,c_5,B_5,e_5),g6) _ HG1)
       ·skip
        refine value_ (w1:=?_) (v:=?_) (by rfl) rfl ?_ ?_
        rotate_left 2
        ·go_simp
         constructor
         ·rfl
         ·rfl
        have HG1:=Ins.new HG #[.slice none 0 0,.slice none 0 0] 29
        refine hK.out _ _ ⟨Ins.cell HG1 (List.Mem.tail _ (List.Mem.tail _ (List.Mem.head _))) 0 rfl,Ins.cell HG1 (List.Mem.tail _ (List.Mem.tail _ (List.Mem.head _))) 1 rfl,Ins.cell HG1 (List.Mem.tail _ (List.Mem.head _)) 0 rfl,Ins.cell HG1 (List.Mem.tail _ (List.Mem.head _)) 1 rfl⟩ (fun hHeld=>?_)
        clear hK K
        refine norm_ (a':=?_) ?_ ?_
        rotate_left
        ·show Act.put _ (some 6) _=_
         simp only [Act.put,List.setIfInBounds_toArray,List.set_cons_zero,List.set_cons_succ,i64_w,i32_w]
         rfl
        exact norm_ (by first|(simp only [putAll,Act.put,List.setIfInBounds_toArray,List.set_cons_zero,List.set_cons_succ];done)|(simp only [putAll,Act.put,List.setIfInBounds_toArray,List.set_cons_zero,List.set_cons_succ];rfl)) (hJ1_8 ((A_3,c_3,B_3,e_3),(A_4,c_4,B_4,e_4),(A_5,c_5,B_5,e_5),_) _ HG1)
     ·skip
      rintro ⟨⟨A_3,c_3,B_3,e_3⟩,⟨A_4,c_4,B_4,e_4⟩,⟨A_5,c_5,B_5,e_5⟩,g6⟩ W HG
      refine norm_ (a':=?_) ?_ ?_
      rotate_left
      ·simp only [putAll,Act.put,List.setIfInBounds_toArray,List.set_cons_zero,List.set_cons_succ]
       rfl
      refine one_ (i:=3) (N:=some 31) #[true,true,true,true,false,false,false,false,true,false,false] rfl rfl (by kernel_rfl) (by decide) (fun K hK=>?_)
      refine ge_ Try.func17 #[.agg #[.slice A1 u1.length c1,.slice B1 n1.length e1]] ?_
      with_reducible refine (laws_toLogic.calls k2 _ _ u1 _ _ n1 u1 n1 _ (Kd.C_below HR1.out HG.below) (HC1.out) (Kd.C_below HS1.out HG.below) (HD1.out) HK2.out).mono ?_
      rintro e W1 ⟨v_,x_,rfl,hs,ht,hb⟩
      obtain ⟨A_4,c_4,ev⟩:=Kd.S_slice hs
      subst ev
      obtain ⟨B_4,e_4,ev⟩:=Kd.R_slice ht
      subst ev
      have HG1:=Ins.logic HG hs ht hb
      refine ⟨_,rfl,?_⟩
      refine hK.out _ _ ⟨Ins.cell HG1 (List.Mem.tail _ (List.Mem.tail _ (List.Mem.tail _ (List.Mem.head _)))) 0 rfl,Ins.cell HG1 (List.Mem.tail _ (List.Mem.tail _ (List.Mem.tail _ (List.Mem.head _)))) 1 rfl,Ins.cell HG1 (List.Mem.tail _ (List.Mem.tail _ (List.Mem.head _))) 0 rfl,Ins.cell HG1 (List.Mem.tail _ (List.Mem.tail _ (List.Mem.head _))) 1 rfl⟩ (fun hHeld=>?_)
      clear hK K
      refine norm_ (a':=?_) ?_ ?_
      rotate_left
      ·show Act.put _ (some 31) _=_
       simp only [Act.put,List.setIfInBounds_toArray,List.set_cons_zero,List.set_cons_succ,i64_w,i32_w]
       rfl
      exact norm_ (by first|(simp only [putAll,Act.put,List.setIfInBounds_toArray,List.set_cons_zero,List.set_cons_succ];done)|(simp only [putAll,Act.put,List.setIfInBounds_toArray,List.set_cons_zero,List.set_cons_succ];rfl)) (hJ1_3_8 ((A_3,c_3,B_3,e_3),(A_4,c_4,B_4,e_4),(A_5,c_5,B_5,e_5),g6) _ HG1)
    ·skip
     rintro ⟨⟨A_3,c_3,B_3,e_3⟩,⟨A_4,c_4,B_4,e_4⟩,⟨A_5,c_5,B_5,e_5⟩,g6⟩ W HG
     refine norm_ (a':=?_) ?_ ?_
     rotate_left
     ·simp only [putAll,Act.put,List.setIfInBounds_toArray,List.set_cons_zero,List.set_cons_succ]
      rfl
     refine two_ (i:=4) (j:=8) (Ni:=some 32) (Nj:=some 6) #[true,true,true,true,true,false,false,false,false,false,false] #[true,true,true,true,false,false,false,false,true,false,false] rfl rfl rfl rfl (by kernel_rfl) (by decide) (by decide) (fun K hK=>?_) (fun K hK=>?_)
     ·skip
      refine ge_ Try.func46 #[.agg #[.slice A_3 u0.length c_3,.slice B_3 n0.length e_3],.agg #[.slice A_4 u1.length c_4,.slice B_4 n1.length e_4]] ?_
      with_reducible refine (specGlued_core _ _ u0 _ _ n0 _ _ u1 _ _ n1 _ ((Ins.log0 HG (List.Mem.tail _ (List.Mem.head _))).1) ((Ins.log0 HG (List.Mem.tail _ (List.Mem.head _))).2) ((Ins.log1 HG (List.Mem.tail _ (List.Mem.head _))).1) ((Ins.log1 HG (List.Mem.tail _ (List.Mem.head _))).2) ((Ins.log0 HG (List.Mem.head _)).1) ((Ins.log0 HG (List.Mem.head _)).2) ((Ins.log1 HG (List.Mem.head _)).1) ((Ins.log1 HG (List.Mem.head _)).2) r1 r2 r3 HK3.out).mono ?_
      rintro e W1 ⟨v_,x_,rfl,hs,ht,hb⟩
      obtain ⟨A_5,c_5,ev⟩:=Kd.S_slice hs
      subst ev
      obtain ⟨B_5,e_5,ev⟩:=Kd.R_slice ht
      subst ev
      have HG1:=Ins.logic HG hs ht hb
      refine ⟨_,rfl,?_⟩
      refine hK.out _ _ ⟨Ins.cell HG1 (List.Mem.tail _ (List.Mem.tail _ (List.Mem.tail _ (List.Mem.tail _ (List.Mem.head _))))) 0 rfl,Ins.cell HG1 (List.Mem.tail _ (List.Mem.tail _ (List.Mem.tail _ (List.Mem.tail _ (List.Mem.head _))))) 1 rfl,Ins.cell HG1 (List.Mem.tail _ (List.Mem.tail _ (List.Mem.tail _ (List.Mem.head _)))) 0 rfl,Ins.cell HG1 (List.Mem.tail _ (List.Mem.tail _ (List.Mem.tail _ (List.Mem.head _)))) 1 rfl⟩ (fun hHeld=>?_)
      clear hK K
      refine norm_ (a':=?_) ?_ ?_
      rotate_left
      ·show Act.put _ (some 32) _=_
       simp only [Act.put,List.setIfInBounds_toArray,List.set_cons_zero,List.set_cons_succ,i64_w,i32_w]
       rfl
      refine pure_ (i:=5) (N:=some 27) (v:=?_) (a':=?_) #[true,true,true,true,true,true,false,false,false,false,false] rfl rfl (by kernel_rfl) (fun _ _ _ h=>h) (Or.inl ⟨by rfl,?_⟩) ?_ ?_
      rotate_left
      ·intro w'
       go_simp
       with_reducible rfl
      rotate_left
      ·simp only [Act.put,List.setIfInBounds_toArray,List.set_cons_zero,List.set_cons_succ,i64_w,i32_w]
       rfl
      refine pure_ (i:=6) (N:=some 33) (v:=?_) (a':=?_) #[true,true,true,true,true,true,true,false,false,false,false] rfl rfl (by kernel_rfl) (fun _ _ _ h=>h) (Or.inl ⟨by rfl,?_⟩) ?_ ?_
      rotate_left
      ·intro w'
       go_simp
       with_reducible rfl
      rotate_left
      ·simp only [Act.put,List.setIfInBounds_toArray,List.set_cons_zero,List.set_cons_succ,i64_w,i32_w]
       rfl
      refine pure_ (i:=7) (N:=some 34) (v:=?_) (a':=?_) #[true,true,true,true,true,true,true,true,false,false,false] rfl rfl (by kernel_rfl) (fun _ _ _ h=>h) (Or.inl ⟨by rfl,?_⟩) ?_ ?_
      rotate_left
      ·intro w'
       go_simp
       with_reducible rfl
      rotate_left
      ·simp only [Act.put,List.setIfInBounds_toArray,List.set_cons_zero,List.set_cons_succ,i64_w,i32_w]
       rfl
      exact norm_ (by first|(simp only [putAll,Act.put,List.setIfInBounds_toArray,List.set_cons_zero,List.set_cons_succ];done)|(simp only [putAll,Act.put,List.setIfInBounds_toArray,List.set_cons_zero,List.set_cons_succ];rfl)) (hJ1_3_4 ((A_3,c_3,B_3,e_3),(A_4,c_4,B_4,e_4),(A_5,c_5,B_5,e_5),g6) _ HG1)
     ·skip
      refine value_ (w1:=?_) (v:=?_) (by rfl) rfl ?_ ?_
      rotate_left 2
      ·go_simp
       constructor
       ·rfl
       ·rfl
      have HG1:=Ins.new HG #[.slice none 0 0,.slice none 0 0] 29
      refine hK.out _ _ ⟨Ins.cell HG1 (List.Mem.tail _ (List.Mem.tail _ (List.Mem.tail _ (List.Mem.head _)))) 0 rfl,Ins.cell HG1 (List.Mem.tail _ (List.Mem.tail _ (List.Mem.tail _ (List.Mem.head _)))) 1 rfl,Ins.cell HG1 (List.Mem.tail _ (List.Mem.tail _ (List.Mem.head _))) 0 rfl,Ins.cell HG1 (List.Mem.tail _ (List.Mem.tail _ (List.Mem.head _))) 1 rfl⟩ (fun hHeld=>?_)
      clear hK K
      refine norm_ (a':=?_) ?_ ?_
      rotate_left
      ·show Act.put _ (some 6) _=_
       simp only [Act.put,List.setIfInBounds_toArray,List.set_cons_zero,List.set_cons_succ,i64_w,i32_w]
       rfl
      exact norm_ (by first|(simp only [putAll,Act.put,List.setIfInBounds_toArray,List.set_cons_zero,List.set_cons_succ];done)|(simp only [putAll,Act.put,List.setIfInBounds_toArray,List.set_cons_zero,List.set_cons_succ];rfl)) (hJ1_3_8 ((A_3,c_3,B_3,e_3),(A_4,c_4,B_4,e_4),(A_5,c_5,B_5,e_5),_) _ HG1)
   ·skip
    rintro ⟨⟨A_3,c_3,B_3,e_3⟩,⟨A_4,c_4,B_4,e_4⟩,⟨A_5,c_5,B_5,e_5⟩,g6⟩ W HG
    refine norm_ (a':=?_) ?_ ?_
    rotate_left
    ·simp only [putAll,Act.put,List.setIfInBounds_toArray,List.set_cons_zero,List.set_cons_succ]
     rfl
    refine one_ (i:=4) (N:=some 32) #[true,true,true,true,true,false,false,false,true,false,false] rfl rfl (by kernel_rfl) (by decide) (fun K hK=>?_)
    refine ge_ Try.func46 #[.agg #[.slice A_3 u0.length c_3,.slice B_3 n0.length e_3],.agg #[.slice A_4 u1.length c_4,.slice B_4 n1.length e_4]] ?_
    with_reducible refine (specGlued_core _ _ u0 _ _ n0 _ _ u1 _ _ n1 _ ((Ins.log0 HG (List.Mem.tail _ (List.Mem.head _))).1) ((Ins.log0 HG (List.Mem.tail _ (List.Mem.head _))).2) ((Ins.log1 HG (List.Mem.tail _ (List.Mem.head _))).1) ((Ins.log1 HG (List.Mem.tail _ (List.Mem.head _))).2) ((Ins.log0 HG (List.Mem.head _)).1) ((Ins.log0 HG (List.Mem.head _)).2) ((Ins.log1 HG (List.Mem.head _)).1) ((Ins.log1 HG (List.Mem.head _)).2) r1 r2 r3 HK3.out).mono ?_
    rintro e W1 ⟨v_,x_,rfl,hs,ht,hb⟩
    obtain ⟨A_5,c_5,ev⟩:=Kd.S_slice hs
    subst ev
    obtain ⟨B_5,e_5,ev⟩:=Kd.R_slice ht
    subst ev
    have HG1:=Ins.logic HG hs ht hb
    refine ⟨_,rfl,?_⟩
    refine hK.out _ _ ⟨Ins.cell HG1 (List.Mem.tail _ (List.Mem.tail _ (List.Mem.tail _ (List.Mem.tail _ (List.Mem.head _))))) 0 rfl,Ins.cell HG1 (List.Mem.tail _ (List.Mem.tail _ (List.Mem.tail _ (List.Mem.tail _ (List.Mem.head _))))) 1 rfl,Ins.cell HG1 (List.Mem.tail _ (List.Mem.tail _ (List.Mem.tail _ (List.Mem.head _)))) 0 rfl,Ins.cell HG1 (List.Mem.tail _ (List.Mem.tail _ (List.Mem.tail _ (List.Mem.head _)))) 1 rfl⟩ (fun hHeld=>?_)
    clear hK K
    refine norm_ (a':=?_) ?_ ?_
    rotate_left
    ·show Act.put _ (some 32) _=_
     simp only [Act.put,List.setIfInBounds_toArray,List.set_cons_zero,List.set_cons_succ,i64_w,i32_w]
     rfl
    refine pure_ (i:=5) (N:=some 27) (v:=?_) (a':=?_) #[true,true,true,true,true,true,false,false,true,false,false] rfl rfl (by kernel_rfl) (fun _ _ _ h=>h) (Or.inl ⟨by rfl,?_⟩) ?_ ?_
    rotate_left
    ·intro w'
     go_simp
     with_reducible rfl
    rotate_left
    ·simp only [Act.put,List.setIfInBounds_toArray,List.set_cons_zero,List.set_cons_succ,i64_w,i32_w]
     rfl
    refine pure_ (i:=6) (N:=some 33) (v:=?_) (a':=?_) #[true,true,true,true,true,true,true,false,true,false,false] rfl rfl (by kernel_rfl) (fun _ _ _ h=>h) (Or.inl ⟨by rfl,?_⟩) ?_ ?_
    rotate_left
    ·intro w'
     go_simp
     with_reducible rfl
    rotate_left
    ·simp only [Act.put,List.setIfInBounds_toArray,List.set_cons_zero,List.set_cons_succ,i64_w,i32_w]
     rfl
    refine pure_ (i:=7) (N:=some 34) (v:=?_) (a':=?_) #[true,true,true,true,true,true,true,true,true,false,false] rfl rfl (by kernel_rfl) (fun _ _ _ h=>h) (Or.inl ⟨by rfl,?_⟩) ?_ ?_
    rotate_left
    ·intro w'
     go_simp
     with_reducible rfl
    rotate_left
    ·simp only [Act.put,List.setIfInBounds_toArray,List.set_cons_zero,List.set_cons_succ,i64_w,i32_w]
     rfl
    exact norm_ (by first|(simp only [putAll,Act.put,List.setIfInBounds_toArray,List.set_cons_zero,List.set_cons_succ];done)|(simp only [putAll,Act.put,List.setIfInBounds_toArray,List.set_cons_zero,List.set_cons_succ];rfl)) (hJ1_3_4_8 ((A_3,c_3,B_3,e_3),(A_4,c_4,B_4,e_4),(A_5,c_5,B_5,e_5),g6) _ HG1)
  ·skip
   rintro ⟨⟨A_3,c_3,B_3,e_3⟩,⟨A_4,c_4,B_4,e_4⟩,⟨A_5,c_5,B_5,e_5⟩,g6⟩ W HG
   refine norm_ (a':=?_) ?_ ?_
   rotate_left
   ·simp only [putAll,Act.put,List.setIfInBounds_toArray,List.set_cons_zero,List.set_cons_succ]
    rfl
   refine one_ (i:=8) (N:=some 6) #[true,true,true,true,true,true,true,true,true,false,false] rfl rfl (by kernel_rfl) (by decide) (fun K hK=>?_)
   refine value_ (w1:=?_) (v:=?_) (by rfl) rfl ?_ ?_
   rotate_left 2
   ·go_simp
    constructor
    ·rfl
    ·rfl
   have HG1:=Ins.new HG #[.slice none 0 0,.slice none 0 0] 29
   refine hK.out _ _ ⟨Ins.cell HG1 (List.Mem.tail _ (List.Mem.tail _ (List.Mem.tail _ (List.Mem.tail _ (List.Mem.head _))))) 0 rfl,Ins.cell HG1 (List.Mem.tail _ (List.Mem.tail _ (List.Mem.tail _ (List.Mem.tail _ (List.Mem.head _))))) 1 rfl,Ins.cell HG1 (List.Mem.tail _ (List.Mem.tail _ (List.Mem.tail _ (List.Mem.head _)))) 0 rfl,Ins.cell HG1 (List.Mem.tail _ (List.Mem.tail _ (List.Mem.tail _ (List.Mem.head _)))) 1 rfl⟩ (fun hHeld=>?_)
   clear hK K
   refine norm_ (a':=?_) ?_ ?_
   rotate_left
   ·show Act.put _ (some 6) _=_
    simp only [Act.put,List.setIfInBounds_toArray,List.set_cons_zero,List.set_cons_succ,i64_w,i32_w]
    rfl
   exact norm_ (by first|(simp only [putAll,Act.put,List.setIfInBounds_toArray,List.set_cons_zero,List.set_cons_succ];done)|(simp only [putAll,Act.put,List.setIfInBounds_toArray,List.set_cons_zero,List.set_cons_succ];rfl)) (hJ1_3_4_8 ((A_3,c_3,B_3,e_3),(A_4,c_4,B_4,e_4),(A_5,c_5,B_5,e_5),_) _ HG1)
 rintro ⟨⟨A_3,c_3,B_3,e_3⟩,⟨A_4,c_4,B_4,e_4⟩,⟨A_5,c_5,B_5,e_5⟩,g6⟩ W HG
 have k6:=Ins.newblk HG
 have c60:W.cell? ⟨g6,0,none⟩=some (.slice none 0 0):=(blk_cell k6 0).trans rfl
 have c61:W.cell? ⟨g6,1,none⟩=some (.slice none 0 0):=(blk_cell k6 1).trans rfl
 have z60:W.frozen? ⟨g6,0,none⟩=false:=blk_frozen k6 0
 have z61:W.frozen? ⟨g6,1,none⟩=false:=blk_frozen k6 1
 refine norm_ (a':=?_) ?_ ?_
 rotate_left
 ·simp only [putAll,Act.put,List.setIfInBounds_toArray,List.set_cons_zero,List.set_cons_succ]
  rfl
 refine last_ (i:=9) (N:=none) #[true,true,true,true,true,true,true,true,true,true,false] rfl rfl (by kernel_rfl) (by decide) (fun K hK=>?_)
 refine skip_ (w1:=?_) (by rfl) rfl ?_ ?_
 rotate_left
 ·go_simp
  rfl
 refine hK.out _ _ ?_
 clear hK K
 refine pure_ (i:=10) (N:=some 7) (v:=?_) (a':=?_) #[true,true,true,true,true,true,true,true,true,true,true] rfl rfl (by kernel_rfl) (fun _ _ _ h=>h) (Or.inl ⟨by rfl,?_⟩) ?_ ?_
 rotate_left
 ·intro w'
  go_simp
  with_reducible rfl
 rotate_left
 ·simp only [Act.put,List.setIfInBounds_toArray,List.set_cons_zero,List.set_cons_succ,i64_w,i32_w]
  rfl
 refine done_ (by kernel_rfl) ?_
 have HP:=Ins.put (Ins.put HG 0 (.slice A_5 r1.length c_5) rfl) 1 (.slice B_5 r2.length e_5) rfl
 clear k6 c60 c61 z60 z61 HG
 generalize (World.setCell (World.setCell W ⟨g6,0,none⟩ (.slice A_5 r1.length c_5)) ⟨g6,1,none⟩ (.slice B_5 r2.length e_5))=wz1 at HP ⊢
 have HBz1:=Aside0.mk (HP.below)
 have Hz_:=Aside0.mk (Kd.C_below HR0.out HP.below)
 clear HR0
 have HR0:=Hz_
 clear Hz_
 have Hz_:=Aside0.mk (Kd.C_below HS0.out HP.below)
 clear HS0
 have HS0:=Hz_
 clear Hz_
 have Hz_:=Aside0.mk (Kd.C_below HR1.out HP.below)
 clear HR1
 have HR1:=Hz_
 clear Hz_
 have Hz_:=Aside0.mk (Kd.C_below HS1.out HP.below)
 clear HS1
 have HS1:=Hz_
 clear Hz_
 have KBg2:=Aside0.mk (Ins.blk HP (List.Mem.tail _ (List.Mem.tail _ (List.Mem.tail _ (List.Mem.head _)))))
 have KBg1:=Aside0.mk (Ins.blk HP (List.Mem.tail _ (List.Mem.tail _ (List.Mem.tail _ (List.Mem.tail _ (List.Mem.head _))))))
 have HQ5a:=Aside0.mk (Ins.log0 HP (List.Mem.head _)).1
 have HQ5b:=Aside0.mk (Ins.log0 HP (List.Mem.head _)).2
 have HQ5c:=Aside0.mk (Ins.log1 HP (List.Mem.head _)).1
 have HQ5d:=Aside0.mk (Ins.log1 HP (List.Mem.head _)).2
 have KBg6:=Aside0.mk (Ins.newblk HP)
 clear HP HL
 have HL:=Aside0.mk (Live.start wz1)
 have hcwz1g20:wz1.cell? ⟨g2,0,none⟩=some (.slice A1 u1.length c1):=(blk_cell (blk_below KBg2.out HL.out.below) 0).trans rfl
 have hcwz1g21:wz1.cell? ⟨g2,1,none⟩=some (.slice B1 n1.length e1):=(blk_cell (blk_below KBg2.out HL.out.below) 1).trans rfl
 have hcwz1g10:wz1.cell? ⟨g1,0,none⟩=some (.slice A0 u0.length c0):=(blk_cell (blk_below KBg1.out HL.out.below) 0).trans rfl
 have hcwz1g11:wz1.cell? ⟨g1,1,none⟩=some (.slice B0 n0.length e0):=(blk_cell (blk_below KBg1.out HL.out.below) 1).trans rfl
 have hcwz1g60:wz1.cell? ⟨g6,0,none⟩=some (.slice A_5 r1.length c_5):=(blk_cell (blk_below KBg6.out HL.out.below) 0).trans rfl
 have hcwz1g61:wz1.cell? ⟨g6,1,none⟩=some (.slice B_5 r2.length e_5):=(blk_cell (blk_below KBg6.out HL.out.below) 1).trans rfl
 go_wp2_with (first
  | (clear s4;go_at_call 17;refine arm_ (rs':=[]) HL ?_;clear HL;intro HL;(with_reducible refine (laws_toLogic.calls k4 _ _ u0 _ _ n0 u0 n0 _ ?q1 ?q2 ?q3 ?q4 HK4.out).mono ?_);(case q1=>exact Live.came HL.out HR0.out);(case q2=>exact HC0.out);(case q3=>exact Live.came HL.out HS0.out);(case q4=>exact HD0.out);rintro e w5 ⟨v7,x7,rfl,hs,ht,hb⟩;obtain ⟨A_7,c_7,ev⟩:=Kd.S_slice hs;subst ev;obtain ⟨B_7,e_7,ev⟩:=Kd.R_slice ht;subst ev;have HL1:Aside0 (Live wz1 w5 [.logic (.slice A_7 u0.length c_7) (.slice B_7 n0.length e_7) u0 n0]):=⟨HL.out.logic hs ht hb⟩;clear HL hs ht hb;have HL:=HL1;clear HL1;have hcw5g20:w5.cell? ⟨g2,0,none⟩=some (.slice A1 u1.length c1):=(blk_cell (blk_below KBg2.out HL.out.below) 0).trans rfl;have hcw5g21:w5.cell? ⟨g2,1,none⟩=some (.slice B1 n1.length e1):=(blk_cell (blk_below KBg2.out HL.out.below) 1).trans rfl;have hcw5g10:w5.cell? ⟨g1,0,none⟩=some (.slice A0 u0.length c0):=(blk_cell (blk_below KBg1.out HL.out.below) 0).trans rfl;have hcw5g11:w5.cell? ⟨g1,1,none⟩=some (.slice B0 n0.length e0):=(blk_cell (blk_below KBg1.out HL.out.below) 1).trans rfl;have hcw5g60:w5.cell? ⟨g6,0,none⟩=some (.slice A_5 r1.length c_5):=(blk_cell (blk_below KBg6.out HL.out.below) 0).trans rfl;have hcw5g61:w5.cell? ⟨g6,1,none⟩=some (.slice B_5 r2.length e_5):=(blk_cell (blk_below KBg6.out HL.out.below) 1).trans rfl;have s5:=Aside0.mk True.intro)
  | (clear s5;(with_reducible refine gate_dst (N:=8) rfl ?_);refine armb_ (rs':=[.logic (.slice A_7 u0.length c_7) (.slice B_7 n0.length e_7) u0 n0]) HL (fun HL_=>?_);refine bx_ (N:=8) (cs:=#[.slice none 0 0,.slice none 0 0]) (t:=29) ?_;intro g8 hg w6 hbox hb;have HL1:Aside0 (Live wz1 w6 [.box g8 #[.slice none 0 0,.slice none 0 0] 29,.logic (.slice A_7 u0.length c_7) (.slice B_7 n0.length e_7) u0 n0]):=⟨HL_.out.box hb hg hbox⟩;clear HL HL_ hb hg hbox;have HL:=HL1;clear HL1;have hng8g2:g8≠g2:=Nat.ne_of_gt (Nat.lt_of_lt_of_le (blk_lt KBg2.out) (Live.high [] HL.out));have hmg8g2:g2≠g8:=Ne.symm hng8g2;have hng8g1:g8≠g1:=Nat.ne_of_gt (Nat.lt_of_lt_of_le (blk_lt KBg1.out) (Live.high [] HL.out));have hmg8g1:g1≠g8:=Ne.symm hng8g1;have hng8g6:g8≠g6:=Nat.ne_of_gt (Nat.lt_of_lt_of_le (blk_lt KBg6.out) (Live.high [] HL.out));have hmg8g6:g6≠g8:=Ne.symm hng8g6;have hcw6g20:w6.cell? ⟨g2,0,none⟩=some (.slice A1 u1.length c1):=(blk_cell (blk_below KBg2.out HL.out.below) 0).trans rfl;have hcw6g21:w6.cell? ⟨g2,1,none⟩=some (.slice B1 n1.length e1):=(blk_cell (blk_below KBg2.out HL.out.below) 1).trans rfl;have hcw6g10:w6.cell? ⟨g1,0,none⟩=some (.slice A0 u0.length c0):=(blk_cell (blk_below KBg1.out HL.out.below) 0).trans rfl;have hcw6g11:w6.cell? ⟨g1,1,none⟩=some (.slice B0 n0.length e0):=(blk_cell (blk_below KBg1.out HL.out.below) 1).trans rfl;have hcw6g60:w6.cell? ⟨g6,0,none⟩=some (.slice A_5 r1.length c_5):=(blk_cell (blk_below KBg6.out HL.out.below) 0).trans rfl;have hcw6g61:w6.cell? ⟨g6,1,none⟩=some (.slice B_5 r2.length e_5):=(blk_cell (blk_below KBg6.out HL.out.below) 1).trans rfl;have hcw6g80:w6.cell? ⟨g8,0,none⟩=some (.slice none 0 0):=Live.cell [] HL.out 0 rfl;have hcw6g81:w6.cell? ⟨g8,1,none⟩=some (.slice none 0 0):=Live.cell [] HL.out 1 rfl;have hfw6g80:=Live.frozen [] HL.out 0;have hfw6g81:=Live.frozen [] HL.out 1;have s6:=Aside0.mk True.intro)
  | (clear s6;go_at_call 17;refine arm_ (rs':=[.box g8 #[.slice A_7 u0.length c_7,.slice B_7 n0.length e_7] 29,.logic (.slice A_7 u0.length c_7) (.slice B_7 n0.length e_7) u0 n0]) HL ?_;clear HL;intro HL;(with_reducible refine (laws_toLogic.calls k5 _ _ u1 _ _ n1 u1 n1 _ ?q1 ?q2 ?q3 ?q4 HK5.out).mono ?_);(case q1=>exact Live.came HL.out HR1.out);(case q2=>exact HC1.out);(case q3=>exact Live.came HL.out HS1.out);(case q4=>exact HD1.out);rintro e w7 ⟨v9,x9,rfl,hs,ht,hb⟩;obtain ⟨A_9,c_9,ev⟩:=Kd.S_slice hs;subst ev;obtain ⟨B_9,e_9,ev⟩:=Kd.R_slice ht;subst ev;have HL1:Aside0 (Live wz1 w7 [.logic (.slice A_9 u1.length c_9) (.slice B_9 n1.length e_9) u1 n1,.box g8 #[.slice A_7 u0.length c_7,.slice B_7 n0.length e_7] 29,.logic (.slice A_7 u0.length c_7) (.slice B_7 n0.length e_7) u0 n0]):=⟨HL.out.logic hs ht hb⟩;clear HL hs ht hb;have HL:=HL1;clear HL1;have hcw7g20:w7.cell? ⟨g2,0,none⟩=some (.slice A1 u1.length c1):=(blk_cell (blk_below KBg2.out HL.out.below) 0).trans rfl;have hcw7g21:w7.cell? ⟨g2,1,none⟩=some (.slice B1 n1.length e1):=(blk_cell (blk_below KBg2.out HL.out.below) 1).trans rfl;have hcw7g10:w7.cell? ⟨g1,0,none⟩=some (.slice A0 u0.length c0):=(blk_cell (blk_below KBg1.out HL.out.below) 0).trans rfl;have hcw7g11:w7.cell? ⟨g1,1,none⟩=some (.slice B0 n0.length e0):=(blk_cell (blk_below KBg1.out HL.out.below) 1).trans rfl;have hcw7g60:w7.cell? ⟨g6,0,none⟩=some (.slice A_5 r1.length c_5):=(blk_cell (blk_below KBg6.out HL.out.below) 0).trans rfl;have hcw7g61:w7.cell? ⟨g6,1,none⟩=some (.slice B_5 r2.length e_5):=(blk_cell (blk_below KBg6.out HL.out.below) 1).trans rfl;have hcw7g80:w7.cell? ⟨g8,0,none⟩=some (.slice A_7 u0.length c_7):=Live.cell [_] HL.out 0 rfl;have hcw7g81:w7.cell? ⟨g8,1,none⟩=some (.slice B_7 n0.length e_7):=Live.cell [_] HL.out 1 rfl;have s7:=Aside0.mk True.intro)
  | (clear s7;(with_reducible refine gate_dst (N:=9) rfl ?_);refine armb_ (rs':=[.logic (.slice A_9 u1.length c_9) (.slice B_9 n1.length e_9) u1 n1,.box g8 #[.slice A_7 u0.length c_7,.slice B_7 n0.length e_7] 29,.logic (.slice A_7 u0.length c_7) (.slice B_7 n0.length e_7) u0 n0]) HL (fun HL_=>?_);refine bx_ (N:=9) (cs:=#[.slice none 0 0,.slice none 0 0]) (t:=29) ?_;intro g10 hg w8 hbox hb;have HL1:Aside0 (Live wz1 w8 [.box g10 #[.slice none 0 0,.slice none 0 0] 29,.logic (.slice A_9 u1.length c_9) (.slice B_9 n1.length e_9) u1 n1,.box g8 #[.slice A_7 u0.length c_7,.slice B_7 n0.length e_7] 29,.logic (.slice A_7 u0.length c_7) (.slice B_7 n0.length e_7) u0 n0]):=⟨HL_.out.box hb hg hbox⟩;clear HL HL_ hb hg hbox;have HL:=HL1;clear HL1;have hng10g8:g10≠g8:=Live.ne_ [_] HL.out;have hmg10g8:g8≠g10:=Ne.symm hng10g8;have hng10g2:g10≠g2:=Nat.ne_of_gt (Nat.lt_of_lt_of_le (blk_lt KBg2.out) (Live.high [] HL.out));have hmg10g2:g2≠g10:=Ne.symm hng10g2;have hng10g1:g10≠g1:=Nat.ne_of_gt (Nat.lt_of_lt_of_le (blk_lt KBg1.out) (Live.high [] HL.out));have hmg10g1:g1≠g10:=Ne.symm hng10g1;have hng10g6:g10≠g6:=Nat.ne_of_gt (Nat.lt_of_lt_of_le (blk_lt KBg6.out) (Live.high [] HL.out));have hmg10g6:g6≠g10:=Ne.symm hng10g6;have hcw8g20:w8.cell? ⟨g2,0,none⟩=some (.slice A1 u1.length c1):=(blk_cell (blk_below KBg2.out HL.out.below) 0).trans rfl;have hcw8g21:w8.cell? ⟨g2,1,none⟩=some (.slice B1 n1.length e1):=(blk_cell (blk_below KBg2.out HL.out.below) 1).trans rfl;have hcw8g10:w8.cell? ⟨g1,0,none⟩=some (.slice A0 u0.length c0):=(blk_cell (blk_below KBg1.out HL.out.below) 0).trans rfl;have hcw8g11:w8.cell? ⟨g1,1,none⟩=some (.slice B0 n0.length e0):=(blk_cell (blk_below KBg1.out HL.out.below) 1).trans rfl;have hcw8g60:w8.cell? ⟨g6,0,none⟩=some (.slice A_5 r1.length c_5):=(blk_cell (blk_below KBg6.out HL.out.below) 0).trans rfl;have hcw8g61:w8.cell? ⟨g6,1,none⟩=some (.slice B_5 r2.length e_5):=(blk_cell (blk_below KBg6.out HL.out.below) 1).trans rfl;have hcw8g100:w8.cell? ⟨g10,0,none⟩=some (.slice none 0 0):=Live.cell [] HL.out 0 rfl;have hcw8g101:w8.cell? ⟨g10,1,none⟩=some (.slice none 0 0):=Live.cell [] HL.out 1 rfl;have hfw8g100:=Live.frozen [] HL.out 0;have hfw8g101:=Live.frozen [] HL.out 1;have hcw8g80:w8.cell? ⟨g8,0,none⟩=some (.slice A_7 u0.length c_7):=Live.cell [_,_] HL.out 0 rfl;have hcw8g81:w8.cell? ⟨g8,1,none⟩=some (.slice B_7 n0.length e_7):=Live.cell [_,_] HL.out 1 rfl;have s8:=Aside0.mk True.intro)
  | (clear s8;go_at_call 47;refine arm_ (rs':=[.box g10 #[.slice A_9 u1.length c_9,.slice B_9 n1.length e_9] 29,.logic (.slice A_9 u1.length c_9) (.slice B_9 n1.length e_9) u1 n1,.box g8 #[.slice A_7 u0.length c_7,.slice B_7 n0.length e_7] 29,.logic (.slice A_7 u0.length c_7) (.slice B_7 n0.length e_7) u0 n0]) HL ?_;clear HL;intro HL;(with_reducible refine (impl_GluedOf.calls _ _ u0 _ _ n0 _ _ u1 _ _ n1 r1 r2 r3 _ ?q1 ?q2 ?q3 ?q4 ?q5 ?q6 ?q7 ?q8 HK6.out).mono ?_);(case q1=>exact (Live.logC0 [_,_,_] HL.out).1);(case q2=>exact (Live.logC0 [_,_,_] HL.out).2);(case q3=>exact (Live.logC1 [_,_,_] HL.out).1);(case q4=>exact (Live.logC1 [_,_,_] HL.out).2);(case q5=>exact (Live.logC0 [_] HL.out).1);(case q6=>exact (Live.logC0 [_] HL.out).2);(case q7=>exact (Live.logC1 [_] HL.out).1);(case q8=>exact (Live.logC1 [_] HL.out).2);rintro e w9 ⟨v11,x11,rfl,hs,ht,hb⟩;obtain ⟨A_11,c_11,ev⟩:=Kd.S_slice hs;subst ev;obtain ⟨B_11,e_11,ev⟩:=Kd.R_slice ht;subst ev;have HL1:Aside0 (Live wz1 w9 [.logic (.slice A_11 r1.length c_11) (.slice B_11 r2.length e_11) r1 r2,.box g10 #[.slice A_9 u1.length c_9,.slice B_9 n1.length e_9] 29,.logic (.slice A_9 u1.length c_9) (.slice B_9 n1.length e_9) u1 n1,.box g8 #[.slice A_7 u0.length c_7,.slice B_7 n0.length e_7] 29,.logic (.slice A_7 u0.length c_7) (.slice B_7 n0.length e_7) u0 n0]):=⟨HL.out.logic hs ht hb⟩;clear HL hs ht hb;have HL:=HL1;clear HL1;have hcw9g20:w9.cell? ⟨g2,0,none⟩=some (.slice A1 u1.length c1):=(blk_cell (blk_below KBg2.out HL.out.below) 0).trans rfl;have hcw9g21:w9.cell? ⟨g2,1,none⟩=some (.slice B1 n1.length e1):=(blk_cell (blk_below KBg2.out HL.out.below) 1).trans rfl;have hcw9g10:w9.cell? ⟨g1,0,none⟩=some (.slice A0 u0.length c0):=(blk_cell (blk_below KBg1.out HL.out.below) 0).trans rfl;have hcw9g11:w9.cell? ⟨g1,1,none⟩=some (.slice B0 n0.length e0):=(blk_cell (blk_below KBg1.out HL.out.below) 1).trans rfl;have hcw9g60:w9.cell? ⟨g6,0,none⟩=some (.slice A_5 r1.length c_5):=(blk_cell (blk_below KBg6.out HL.out.below) 0).trans rfl;have hcw9g61:w9.cell? ⟨g6,1,none⟩=some (.slice B_5 r2.length e_5):=(blk_cell (blk_below KBg6.out HL.out.below) 1).trans rfl;have hcw9g100:w9.cell? ⟨g10,0,none⟩=some (.slice A_9 u1.length c_9):=Live.cell [_] HL.out 0 rfl;have hcw9g101:w9.cell? ⟨g10,1,none⟩=some (.slice B_9 n1.length e_9):=Live.cell [_] HL.out 1 rfl;have hcw9g80:w9.cell? ⟨g8,0,none⟩=some (.slice A_7 u0.length c_7):=Live.cell [_,_,_] HL.out 0 rfl;have hcw9g81:w9.cell? ⟨g8,1,none⟩=some (.slice B_7 n0.length e_7):=Live.cell [_,_,_] HL.out 1 rfl;have s9:=Aside0.mk True.intro)
  | (clear s9;(with_reducible refine gate_dst (N:=10) rfl ?_);refine armb_ (rs':=[.logic (.slice A_11 r1.length c_11) (.slice B_11 r2.length e_11) r1 r2,.box g10 #[.slice A_9 u1.length c_9,.slice B_9 n1.length e_9] 29,.logic (.slice A_9 u1.length c_9) (.slice B_9 n1.length e_9) u1 n1,.box g8 #[.slice A_7 u0.length c_7,.slice B_7 n0.length e_7] 29,.logic (.slice A_7 u0.length c_7) (.slice B_7 n0.length e_7) u0 n0]) HL (fun HL_=>?_);refine bx_ (N:=10) (cs:=#[.slice none 0 0,.slice none 0 0]) (t:=29) ?_;intro g12 hg w10 hbox hb;have HL1:Aside0 (Live wz1 w10 [.box g12 #[.slice none 0 0,.slice none 0 0] 29,.logic (.slice A_11 r1.length c_11) (.slice B_11 r2.length e_11) r1 r2,.box g10 #[.slice A_9 u1.length c_9,.slice B_9 n1.length e_9] 29,.logic (.slice A_9 u1.length c_9) (.slice B_9 n1.length e_9) u1 n1,.box g8 #[.slice A_7 u0.length c_7,.slice B_7 n0.length e_7] 29,.logic (.slice A_7 u0.length c_7) (.slice B_7 n0.length e_7) u0 n0]):=⟨HL_.out.box hb hg hbox⟩;clear HL HL_ hb hg hbox;have HL:=HL1;clear HL1;have hng12g10:g12≠g10:=Live.ne_ [_] HL.out;have hmg12g10:g10≠g12:=Ne.symm hng12g10;have hng12g8:g12≠g8:=Live.ne_ [_,_,_] HL.out;have hmg12g8:g8≠g12:=Ne.symm hng12g8;have hng12g2:g12≠g2:=Nat.ne_of_gt (Nat.lt_of_lt_of_le (blk_lt KBg2.out) (Live.high [] HL.out));have hmg12g2:g2≠g12:=Ne.symm hng12g2;have hng12g1:g12≠g1:=Nat.ne_of_gt (Nat.lt_of_lt_of_le (blk_lt KBg1.out) (Live.high [] HL.out));have hmg12g1:g1≠g12:=Ne.symm hng12g1;have hng12g6:g12≠g6:=Nat.ne_of_gt (Nat.lt_of_lt_of_le (blk_lt KBg6.out) (Live.high [] HL.out));have hmg12g6:g6≠g12:=Ne.symm hng12g6;have hcw10g20:w10.cell? ⟨g2,0,none⟩=some (.slice A1 u1.length c1):=(blk_cell (blk_below KBg2.out HL.out.below) 0).trans rfl;have hcw10g21:w10.cell? ⟨g2,1,none⟩=some (.slice B1 n1.length e1):=(blk_cell (blk_below KBg2.out HL.out.below) 1).trans rfl;have hcw10g10:w10.cell? ⟨g1,0,none⟩=some (.slice A0 u0.length c0):=(blk_cell (blk_below KBg1.out HL.out.below) 0).trans rfl;have hcw10g11:w10.cell? ⟨g1,1,none⟩=some (.slice B0 n0.length e0):=(blk_cell (blk_below KBg1.out HL.out.below) 1).trans rfl;have hcw10g60:w10.cell? ⟨g6,0,none⟩=some (.slice A_5 r1.length c_5):=(blk_cell (blk_below KBg6.out HL.out.below) 0).trans rfl;have hcw10g61:w10.cell? ⟨g6,1,none⟩=some (.slice B_5 r2.length e_5):=(blk_cell (blk_below KBg6.out HL.out.below) 1).trans rfl;have hcw10g120:w10.cell? ⟨g12,0,none⟩=some (.slice none 0 0):=Live.cell [] HL.out 0 rfl;have hcw10g121:w10.cell? ⟨g12,1,none⟩=some (.slice none 0 0):=Live.cell [] HL.out 1 rfl;have hfw10g120:=Live.frozen [] HL.out 0;have hfw10g121:=Live.frozen [] HL.out 1;have hcw10g100:w10.cell? ⟨g10,0,none⟩=some (.slice A_9 u1.length c_9):=Live.cell [_,_] HL.out 0 rfl;have hcw10g101:w10.cell? ⟨g10,1,none⟩=some (.slice B_9 n1.length e_9):=Live.cell [_,_] HL.out 1 rfl;have hcw10g80:w10.cell? ⟨g8,0,none⟩=some (.slice A_7 u0.length c_7):=Live.cell [_,_,_,_] HL.out 0 rfl;have hcw10g81:w10.cell? ⟨g8,1,none⟩=some (.slice B_7 n0.length e_7):=Live.cell [_,_,_,_] HL.out 1 rfl;have s10:=Aside0.mk True.intro)
  | (clear s10;go_at_call 19;refine arm_ (rs':=[.box g12 #[.slice A_11 r1.length c_11,.slice B_11 r2.length e_11] 29,.logic (.slice A_11 r1.length c_11) (.slice B_11 r2.length e_11) r1 r2,.box g10 #[.slice A_9 u1.length c_9,.slice B_9 n1.length e_9] 29,.logic (.slice A_9 u1.length c_9) (.slice B_9 n1.length e_9) u1 n1,.box g8 #[.slice A_7 u0.length c_7,.slice B_7 n0.length e_7] 29,.logic (.slice A_7 u0.length c_7) (.slice B_7 n0.length e_7) u0 n0]) HL ?_;clear HL;intro HL;(with_reducible refine (laws_eqLogic.calls k7 _ _ r1 _ _ r2 _ _ r1 _ _ r2 true _ ?q1 ?q2 ?q3 ?q4 ?q5 ?q6 ?q7 ?q8 HK7.out).mono ?_);(case q1=>exact (Live.logC0 [_] HL.out).1);(case q2=>exact (Live.logC0 [_] HL.out).2);(case q3=>exact (Live.logC1 [_] HL.out).1);(case q4=>exact (Live.logC1 [_] HL.out).2);(case q5=>exact Live.came HL.out HQ5a.out);(case q6=>exact HQ5b.out);(case q7=>exact Live.came HL.out HQ5c.out);(case q8=>exact HQ5d.out);rintro e w11 ⟨rfl,hD⟩;have HL1:Aside0 (Live wz1 w11 [.box g12 #[.slice A_11 r1.length c_11,.slice B_11 r2.length e_11] 29,.logic (.slice A_11 r1.length c_11) (.slice B_11 r2.length e_11) r1 r2,.box g10 #[.slice A_9 u1.length c_9,.slice B_9 n1.length e_9] 29,.logic (.slice A_9 u1.length c_9) (.slice B_9 n1.length e_9) u1 n1,.box g8 #[.slice A_7 u0.length c_7,.slice B_7 n0.length e_7] 29,.logic (.slice A_7 u0.length c_7) (.slice B_7 n0.length e_7) u0 n0]):=⟨HL.out.step hD⟩;clear HL hD;have HL:=HL1;clear HL1;have hcw11g20:w11.cell? ⟨g2,0,none⟩=some (.slice A1 u1.length c1):=(blk_cell (blk_below KBg2.out HL.out.below) 0).trans rfl;have hcw11g21:w11.cell? ⟨g2,1,none⟩=some (.slice B1 n1.length e1):=(blk_cell (blk_below KBg2.out HL.out.below) 1).trans rfl;have hcw11g10:w11.cell? ⟨g1,0,none⟩=some (.slice A0 u0.length c0):=(blk_cell (blk_below KBg1.out HL.out.below) 0).trans rfl;have hcw11g11:w11.cell? ⟨g1,1,none⟩=some (.slice B0 n0.length e0):=(blk_cell (blk_below KBg1.out HL.out.below) 1).trans rfl;have hcw11g60:w11.cell? ⟨g6,0,none⟩=some (.slice A_5 r1.length c_5):=(blk_cell (blk_below KBg6.out HL.out.below) 0).trans rfl;have hcw11g61:w11.cell? ⟨g6,1,none⟩=some (.slice B_5 r2.length e_5):=(blk_cell (blk_below KBg6.out HL.out.below) 1).trans rfl;have hcw11g120:w11.cell? ⟨g12,0,none⟩=some (.slice A_11 r1.length c_11):=Live.cell [] HL.out 0 rfl;have hcw11g121:w11.cell? ⟨g12,1,none⟩=some (.slice B_11 r2.length e_11):=Live.cell [] HL.out 1 rfl;have hcw11g100:w11.cell? ⟨g10,0,none⟩=some (.slice A_9 u1.length c_9):=Live.cell [_,_] HL.out 0 rfl;have hcw11g101:w11.cell? ⟨g10,1,none⟩=some (.slice B_9 n1.length e_9):=Live.cell [_,_] HL.out 1 rfl;have hcw11g80:w11.cell? ⟨g8,0,none⟩=some (.slice A_7 u0.length c_7):=Live.cell [_,_,_,_] HL.out 0 rfl;have hcw11g81:w11.cell? ⟨g8,1,none⟩=some (.slice B_7 n0.length e_7):=Live.cell [_,_,_,_] HL.out 1 rfl;have s11:=Aside0.mk True.intro))
 refine armc_ (rs':=[.box g12 #[.slice A_11 r1.length c_11,.slice B_11 r2.length e_11] 29,.logic (.slice A_11 r1.length c_11) (.slice B_11 r2.length e_11) r1 r2,.box g10 #[.slice A_9 u1.length c_9,.slice B_9 n1.length e_9] 29,.logic (.slice A_9 u1.length c_9) (.slice B_9 n1.length e_9) u1 n1,.box g8 #[.slice A_7 u0.length c_7,.slice B_7 n0.length e_7] 29,.logic (.slice A_7 u0.length c_7) (.slice B_7 n0.length e_7) u0 n0]) HL (fun HL_=>?_)
 clear HL
 have HL:=Aside0.mk (HL_.out.drew)
 clear HL_
 refine start_ (n:=5) (S:=fun w'=>w'.cell? ⟨g8,0,none⟩=some (.slice A_7 u0.length c_7)∧w'.cell? ⟨g8,1,none⟩=some (.slice B_7 n0.length e_7)∧w'.cell? ⟨g1,0,none⟩=some (.slice A0 u0.length c0)∧w'.cell? ⟨g1,1,none⟩=some (.slice B0 n0.length e0)) (ds:=[]) (bA 5 0) (by kernel_rfl) rfl rfl ⟨Live.cell [_,_,_,_] HL.out 0 rfl,Live.cell [_,_,_,_] HL.out 1 rfl,(blk_cell (blk_below KBg1.out HL.out.below) 0).trans rfl,(blk_cell (blk_below KBg1.out HL.out.below) 1).trans rfl⟩ (fun hHeld=>?_)
 refine tk_ (i:=0) (N:=some 54) (bA 5 1) ?_
 refine tk_ (i:=1) (N:=some 55) (bA 5 3) ?_
 refine one_ (i:=2) (N:=some 56) (bA 5 7) rfl rfl (by kernel_rfl) (by decide) (fun K hK=>?_)
 refine ge_ Try.func17 #[.agg #[.slice A0 u0.length c0,.slice B0 n0.length e0]] ?_
 with_reducible refine (laws_toLogic.calls k8 _ _ u0 _ _ n0 u0 n0 _ ?q1 ?q2 ?q3 ?q4 HK8.out).mono ?_
 (case q1=>exact Live.came HL.out HR0.out)
 (case q2=>exact HC0.out)
 (case q3=>exact Live.came HL.out HS0.out)
 (case q4=>exact HD0.out)
 rintro e w12 ⟨v13,x13,rfl,hs,ht,hb⟩
 refine ⟨_,rfl,?_⟩
 obtain ⟨A_13,c_13,ev⟩:=Kd.S_slice hs
 subst ev
 obtain ⟨B_13,e_13,ev⟩:=Kd.R_slice ht
 subst ev
 have HL1:Aside0 (Live wz1 w12 [.logic (.slice A_13 u0.length c_13) (.slice B_13 n0.length e_13) u0 n0,.box g12 #[.slice A_11 r1.length c_11,.slice B_11 r2.length e_11] 29,.logic (.slice A_11 r1.length c_11) (.slice B_11 r2.length e_11) r1 r2,.box g10 #[.slice A_9 u1.length c_9,.slice B_9 n1.length e_9] 29,.logic (.slice A_9 u1.length c_9) (.slice B_9 n1.length e_9) u1 n1,.box g8 #[.slice A_7 u0.length c_7,.slice B_7 n0.length e_7] 29,.logic (.slice A_7 u0.length c_7) (.slice B_7 n0.length e_7) u0 n0]):=⟨HL.out.logic hs ht hb⟩
 clear HL hs ht hb
 have HL:=HL1
 clear HL1
 have hcw12g20:w12.cell? ⟨g2,0,none⟩=some (.slice A1 u1.length c1):=(blk_cell (blk_below KBg2.out HL.out.below) 0).trans rfl
 have hcw12g21:w12.cell? ⟨g2,1,none⟩=some (.slice B1 n1.length e1):=(blk_cell (blk_below KBg2.out HL.out.below) 1).trans rfl
 have hcw12g10:w12.cell? ⟨g1,0,none⟩=some (.slice A0 u0.length c0):=(blk_cell (blk_below KBg1.out HL.out.below) 0).trans rfl
 have hcw12g11:w12.cell? ⟨g1,1,none⟩=some (.slice B0 n0.length e0):=(blk_cell (blk_below KBg1.out HL.out.below) 1).trans rfl
 have hcw12g60:w12.cell? ⟨g6,0,none⟩=some (.slice A_5 r1.length c_5):=(blk_cell (blk_below KBg6.out HL.out.below) 0).trans rfl
 have hcw12g61:w12.cell? ⟨g6,1,none⟩=some (.slice B_5 r2.length e_5):=(blk_cell (blk_below KBg6.out HL.out.below) 1).trans rfl
 have hcw12g120:w12.cell? ⟨g12,0,none⟩=some (.slice A_11 r1.length c_11):=Live.cell [_] HL.out 0 rfl
 have hcw12g121:w12.cell? ⟨g12,1,none⟩=some (.slice B_11 r2.length e_11):=Live.cell [_] HL.out 1 rfl
 have hcw12g100:w12.cell? ⟨g10,0,none⟩=some (.slice A_9 u1.length c_9):=Live.cell [_,_,_] HL.out 0 rfl
 have hcw12g101:w12.cell? ⟨g10,1,none⟩=some (.slice B_9 n1.length e_9):=Live.cell [_,_,_] HL.out 1 rfl
 have hcw12g80:w12.cell? ⟨g8,0,none⟩=some (.slice A_7 u0.length c_7):=Live.cell [_,_,_,_,_] HL.out 0 rfl
 have hcw12g81:w12.cell? ⟨g8,1,none⟩=some (.slice B_7 n0.length e_7):=Live.cell [_,_,_,_,_] HL.out 1 rfl
 refine hK.out _ _ ⟨Live.cell [_,_,_,_,_] HL.out 0 rfl,Live.cell [_,_,_,_,_] HL.out 1 rfl,(blk_cell (blk_below KBg1.out HL.out.below) 0).trans rfl,(blk_cell (blk_below KBg1.out HL.out.below) 1).trans rfl⟩ (fun hHeld=>?_)
 clear hK K
 refine no_ (N:=some 56) ?_
 refine one_ (i:=3) (N:=some 57) (bA 5 15) rfl rfl (by kernel_rfl) (by decide) (fun K hK=>?_)
 refine ge_ Try.func19 #[.agg #[.slice A_7 u0.length c_7,.slice B_7 n0.length e_7],.agg #[.slice A_13 u0.length c_13,.slice B_13 n0.length e_13]] ?_
 with_reducible refine (laws_eqLogic.calls k9 _ _ u0 _ _ n0 _ _ u0 _ _ n0 true _ ?q1 ?q2 ?q3 ?q4 ?q5 ?q6 ?q7 ?q8 HK9.out).mono ?_
 (case q1=>exact (Live.logC0 [_,_,_,_,_,_] HL.out).1)
 (case q2=>exact (Live.logC0 [_,_,_,_,_,_] HL.out).2)
 (case q3=>exact (Live.logC1 [_,_,_,_,_,_] HL.out).1)
 (case q4=>exact (Live.logC1 [_,_,_,_,_,_] HL.out).2)
 (case q5=>exact (Live.logC0 [] HL.out).1)
 (case q6=>exact (Live.logC0 [] HL.out).2)
 (case q7=>exact (Live.logC1 [] HL.out).1)
 (case q8=>exact (Live.logC1 [] HL.out).2)
 rintro e w13 ⟨rfl,hD⟩
 refine ⟨_,rfl,?_⟩
 have HL1:Aside0 (Live wz1 w13 [.logic (.slice A_13 u0.length c_13) (.slice B_13 n0.length e_13) u0 n0,.box g12 #[.slice A_11 r1.length c_11,.slice B_11 r2.length e_11] 29,.logic (.slice A_11 r1.length c_11) (.slice B_11 r2.length e_11) r1 r2,.box g10 #[.slice A_9 u1.length c_9,.slice B_9 n1.length e_9] 29,.logic (.slice A_9 u1.length c_9) (.slice B_9 n1.length e_9) u1 n1,.box g8 #[.slice A_7 u0.length c_7,.slice B_7 n0.length e_7] 29,.logic (.slice A_7 u0.length c_7) (.slice B_7 n0.length e_7) u0 n0]):=⟨HL.out.step hD⟩
 clear HL hD
 have HL:=HL1
 clear HL1
 have hcw13g20:w13.cell? ⟨g2,0,none⟩=some (.slice A1 u1.length c1):=(blk_cell (blk_below KBg2.out HL.out.below) 0).trans rfl
 have hcw13g21:w13.cell? ⟨g2,1,none⟩=some (.slice B1 n1.length e1):=(blk_cell (blk_below KBg2.out HL.out.below) 1).trans rfl
 have hcw13g10:w13.cell? ⟨g1,0,none⟩=some (.slice A0 u0.length c0):=(blk_cell (blk_below KBg1.out HL.out.below) 0).trans rfl
 have hcw13g11:w13.cell? ⟨g1,1,none⟩=some (.slice B0 n0.length e0):=(blk_cell (blk_below KBg1.out HL.out.below) 1).trans rfl
 have hcw13g60:w13.cell? ⟨g6,0,none⟩=some (.slice A_5 r1.length c_5):=(blk_cell (blk_below KBg6.out HL.out.below) 0).trans rfl
 have hcw13g61:w13.cell? ⟨g6,1,none⟩=some (.slice B_5 r2.length e_5):=(blk_cell (blk_below KBg6.out HL.out.below) 1).trans rfl
 have hcw13g120:w13.cell? ⟨g12,0,none⟩=some (.slice A_11 r1.length c_11):=Live.cell [_] HL.out 0 rfl
 have hcw13g121:w13.cell? ⟨g12,1,none⟩=some (.slice B_11 r2.length e_11):=Live.cell [_] HL.out 1 rfl
 have hcw13g100:w13.cell? ⟨g10,0,none⟩=some (.slice A_9 u1.length c_9):=Live.cell [_,_,_] HL.out 0 rfl
 have hcw13g101:w13.cell? ⟨g10,1,none⟩=some (.slice B_9 n1.length e_9):=Live.cell [_,_,_] HL.out 1 rfl
 have hcw13g80:w13.cell? ⟨g8,0,none⟩=some (.slice A_7 u0.length c_7):=Live.cell [_,_,_,_,_] HL.out 0 rfl
 have hcw13g81:w13.cell? ⟨g8,1,none⟩=some (.slice B_7 n0.length e_7):=Live.cell [_,_,_,_,_] HL.out 1 rfl
 refine hK.out _ _ ⟨Live.cell [_,_,_,_,_] HL.out 0 rfl,Live.cell [_,_,_,_,_] HL.out 1 rfl,(blk_cell (blk_below KBg1.out HL.out.below) 0).trans rfl,(blk_cell (blk_below KBg1.out HL.out.below) 1).trans rfl⟩ (fun hHeld=>?_)
 clear hK K
 refine no_ (N:=some 57) ?_
 refine pu_ (i:=4) (N:=some 58) (bA 5 31) ?_
 refine done_ (by kernel_rfl) ?_
 go_wp2
 refine armc_ (rs':=[.logic (.slice A_13 u0.length c_13) (.slice B_13 n0.length e_13) u0 n0,.box g12 #[.slice A_11 r1.length c_11,.slice B_11 r2.length e_11] 29,.logic (.slice A_11 r1.length c_11) (.slice B_11 r2.length e_11) r1 r2,.box g10 #[.slice A_9 u1.length c_9,.slice B_9 n1.length e_9] 29,.logic (.slice A_9 u1.length c_9) (.slice B_9 n1.length e_9) u1 n1,.box g8 #[.slice A_7 u0.length c_7,.slice B_7 n0.length e_7] 29,.logic (.slice A_7 u0.length c_7) (.slice B_7 n0.length e_7) u0 n0]) HL (fun HL_=>?_)
 clear HL
 have HL:=Aside0.mk (HL_.out.drew)
 clear HL_
 refine start_ (n:=5) (S:=fun w'=>w'.cell? ⟨g10,0,none⟩=some (.slice A_9 u1.length c_9)∧w'.cell? ⟨g10,1,none⟩=some (.slice B_9 n1.length e_9)∧w'.cell? ⟨g2,0,none⟩=some (.slice A1 u1.length c1)∧w'.cell? ⟨g2,1,none⟩=some (.slice B1 n1.length e1)) (ds:=[]) (bA 5 0) (by kernel_rfl) rfl rfl ⟨Live.cell [_,_,_] HL.out 0 rfl,Live.cell [_,_,_] HL.out 1 rfl,(blk_cell (blk_below KBg2.out HL.out.below) 0).trans rfl,(blk_cell (blk_below KBg2.out HL.out.below) 1).trans rfl⟩ (fun hHeld=>?_)
 refine tk_ (i:=0) (N:=some 59) (bA 5 1) ?_
 refine tk_ (i:=1) (N:=some 60) (bA 5 3) ?_
 refine one_ (i:=2) (N:=some 61) (bA 5 7) rfl rfl (by kernel_rfl) (by decide) (fun K hK=>?_)
 refine ge_ Try.func17 #[.agg #[.slice A1 u1.length c1,.slice B1 n1.length e1]] ?_
 with_reducible refine (laws_toLogic.calls k10 _ _ u1 _ _ n1 u1 n1 _ ?q1 ?q2 ?q3 ?q4 HK10.out).mono ?_
 (case q1=>exact Live.came HL.out HR1.out)
 (case q2=>exact HC1.out)
 (case q3=>exact Live.came HL.out HS1.out)
 (case q4=>exact HD1.out)
 rintro e w14 ⟨v14,x14,rfl,hs,ht,hb⟩
 refine ⟨_,rfl,?_⟩
 obtain ⟨A_14,c_14,ev⟩:=Kd.S_slice hs
 subst ev
 obtain ⟨B_14,e_14,ev⟩:=Kd.R_slice ht
 subst ev
 have HL1:Aside0 (Live wz1 w14 [.logic (.slice A_14 u1.length c_14) (.slice B_14 n1.length e_14) u1 n1,.logic (.slice A_13 u0.length c_13) (.slice B_13 n0.length e_13) u0 n0,.box g12 #[.slice A_11 r1.length c_11,.slice B_11 r2.length e_11] 29,.logic (.slice A_11 r1.length c_11) (.slice B_11 r2.length e_11) r1 r2,.box g10 #[.slice A_9 u1.length c_9,.slice B_9 n1.length e_9] 29,.logic (.slice A_9 u1.length c_9) (.slice B_9 n1.length e_9) u1 n1,.box g8 #[.slice A_7 u0.length c_7,.slice B_7 n0.length e_7] 29,.logic (.slice A_7 u0.length c_7) (.slice B_7 n0.length e_7) u0 n0]):=⟨HL.out.logic hs ht hb⟩
 clear HL hs ht hb
 have HL:=HL1
 clear HL1
 have hcw14g20:w14.cell? ⟨g2,0,none⟩=some (.slice A1 u1.length c1):=(blk_cell (blk_below KBg2.out HL.out.below) 0).trans rfl
 have hcw14g21:w14.cell? ⟨g2,1,none⟩=some (.slice B1 n1.length e1):=(blk_cell (blk_below KBg2.out HL.out.below) 1).trans rfl
 have hcw14g10:w14.cell? ⟨g1,0,none⟩=some (.slice A0 u0.length c0):=(blk_cell (blk_below KBg1.out HL.out.below) 0).trans rfl
 have hcw14g11:w14.cell? ⟨g1,1,none⟩=some (.slice B0 n0.length e0):=(blk_cell (blk_below KBg1.out HL.out.below) 1).trans rfl
 have hcw14g60:w14.cell? ⟨g6,0,none⟩=some (.slice A_5 r1.length c_5):=(blk_cell (blk_below KBg6.out HL.out.below) 0).trans rfl
 have hcw14g61:w14.cell? ⟨g6,1,none⟩=some (.slice B_5 r2.length e_5):=(blk_cell (blk_below KBg6.out HL.out.below) 1).trans rfl
 have hcw14g120:w14.cell? ⟨g12,0,none⟩=some (.slice A_11 r1.length c_11):=Live.cell [_,_] HL.out 0 rfl
 have hcw14g121:w14.cell? ⟨g12,1,none⟩=some (.slice B_11 r2.length e_11):=Live.cell [_,_] HL.out 1 rfl
 have hcw14g100:w14.cell? ⟨g10,0,none⟩=some (.slice A_9 u1.length c_9):=Live.cell [_,_,_,_] HL.out 0 rfl
 have hcw14g101:w14.cell? ⟨g10,1,none⟩=some (.slice B_9 n1.length e_9):=Live.cell [_,_,_,_] HL.out 1 rfl
 have hcw14g80:w14.cell? ⟨g8,0,none⟩=some (.slice A_7 u0.length c_7):=Live.cell [_,_,_,_,_,_] HL.out 0 rfl
 have hcw14g81:w14.cell? ⟨g8,1,none⟩=some (.slice B_7 n0.length e_7):=Live.cell [_,_,_,_,_,_] HL.out 1 rfl
 refine hK.out _ _ ⟨Live.cell [_,_,_,_] HL.out 0 rfl,Live.cell [_,_,_,_] HL.out 1 rfl,(blk_cell (blk_below KBg2.out HL.out.below) 0).trans rfl,(blk_cell (blk_below KBg2.out HL.out.below) 1).trans rfl⟩ (fun hHeld=>?_)
 clear hK K
 refine no_ (N:=some 61) ?_
 refine one_ (i:=3) (N:=some 62) (bA 5 15) rfl rfl (by kernel_rfl) (by decide) (fun K hK=>?_)
 refine ge_ Try.func19 #[.agg #[.slice A_9 u1.length c_9,.slice B_9 n1.length e_9],.agg #[.slice A_14 u1.length c_14,.slice B_14 n1.length e_14]] ?_
 with_reducible refine (laws_eqLogic.calls k11 _ _ u1 _ _ n1 _ _ u1 _ _ n1 true _ ?q1 ?q2 ?q3 ?q4 ?q5 ?q6 ?q7 ?q8 HK11.out).mono ?_
 (case q1=>exact (Live.logC0 [_,_,_,_,_] HL.out).1)
 (case q2=>exact (Live.logC0 [_,_,_,_,_] HL.out).2)
 (case q3=>exact (Live.logC1 [_,_,_,_,_] HL.out).1)
 (case q4=>exact (Live.logC1 [_,_,_,_,_] HL.out).2)
 (case q5=>exact (Live.logC0 [] HL.out).1)
 (case q6=>exact (Live.logC0 [] HL.out).2)
 (case q7=>exact (Live.logC1 [] HL.out).1)
 (case q8=>exact (Live.logC1 [] HL.out).2)
 rintro e w15 ⟨rfl,hD⟩
 refine ⟨_,rfl,?_⟩
 have HL1:Aside0 (Live wz1 w15 [.logic (.slice A_14 u1.length c_14) (.slice B_14 n1.length e_14) u1 n1,.logic (.slice A_13 u0.length c_13) (.slice B_13 n0.length e_13) u0 n0,.box g12 #[.slice A_11 r1.length c_11,.slice B_11 r2.length e_11] 29,.logic (.slice A_11 r1.length c_11) (.slice B_11 r2.length e_11) r1 r2,.box g10 #[.slice A_9 u1.length c_9,.slice B_9 n1.length e_9] 29,.logic (.slice A_9 u1.length c_9) (.slice B_9 n1.length e_9) u1 n1,.box g8 #[.slice A_7 u0.length c_7,.slice B_7 n0.length e_7] 29,.logic (.slice A_7 u0.length c_7) (.slice B_7 n0.length e_7) u0 n0]):=⟨HL.out.step hD⟩
 clear HL hD
 have HL:=HL1
 clear HL1
 have hcw15g20:w15.cell? ⟨g2,0,none⟩=some (.slice A1 u1.length c1):=(blk_cell (blk_below KBg2.out HL.out.below) 0).trans rfl
 have hcw15g21:w15.cell? ⟨g2,1,none⟩=some (.slice B1 n1.length e1):=(blk_cell (blk_below KBg2.out HL.out.below) 1).trans rfl
 have hcw15g10:w15.cell? ⟨g1,0,none⟩=some (.slice A0 u0.length c0):=(blk_cell (blk_below KBg1.out HL.out.below) 0).trans rfl
 have hcw15g11:w15.cell? ⟨g1,1,none⟩=some (.slice B0 n0.length e0):=(blk_cell (blk_below KBg1.out HL.out.below) 1).trans rfl
 have hcw15g60:w15.cell? ⟨g6,0,none⟩=some (.slice A_5 r1.length c_5):=(blk_cell (blk_below KBg6.out HL.out.below) 0).trans rfl
 have hcw15g61:w15.cell? ⟨g6,1,none⟩=some (.slice B_5 r2.length e_5):=(blk_cell (blk_below KBg6.out HL.out.below) 1).trans rfl
 have hcw15g120:w15.cell? ⟨g12,0,none⟩=some (.slice A_11 r1.length c_11):=Live.cell [_,_] HL.out 0 rfl
 have hcw15g121:w15.cell? ⟨g12,1,none⟩=some (.slice B_11 r2.length e_11):=Live.cell [_,_] HL.out 1 rfl
 have hcw15g100:w15.cell? ⟨g10,0,none⟩=some (.slice A_9 u1.length c_9):=Live.cell [_,_,_,_] HL.out 0 rfl
 have hcw15g101:w15.cell? ⟨g10,1,none⟩=some (.slice B_9 n1.length e_9):=Live.cell [_,_,_,_] HL.out 1 rfl
 have hcw15g80:w15.cell? ⟨g8,0,none⟩=some (.slice A_7 u0.length c_7):=Live.cell [_,_,_,_,_,_] HL.out 0 rfl
 have hcw15g81:w15.cell? ⟨g8,1,none⟩=some (.slice B_7 n0.length e_7):=Live.cell [_,_,_,_,_,_] HL.out 1 rfl
 refine hK.out _ _ ⟨Live.cell [_,_,_,_] HL.out 0 rfl,Live.cell [_,_,_,_] HL.out 1 rfl,(blk_cell (blk_below KBg2.out HL.out.below) 0).trans rfl,(blk_cell (blk_below KBg2.out HL.out.below) 1).trans rfl⟩ (fun hHeld=>?_)
 clear hK K
 refine no_ (N:=some 62) ?_
 refine pu_ (i:=4) (N:=some 63) (bA 5 31) ?_
 refine done_ (by kernel_rfl) ?_
 go_wp2_with (first
  | (clear s11;go_at_call 25;refine arm_ (rs':=[.logic (.slice A_14 u1.length c_14) (.slice B_14 n1.length e_14) u1 n1,.logic (.slice A_13 u0.length c_13) (.slice B_13 n0.length e_13) u0 n0,.box g12 #[.slice A_11 r1.length c_11,.slice B_11 r2.length e_11] 29,.logic (.slice A_11 r1.length c_11) (.slice B_11 r2.length e_11) r1 r2,.box g10 #[.slice A_9 u1.length c_9,.slice B_9 n1.length e_9] 29,.logic (.slice A_9 u1.length c_9) (.slice B_9 n1.length e_9) u1 n1,.box g8 #[.slice A_7 u0.length c_7,.slice B_7 n0.length e_7] 29,.logic (.slice A_7 u0.length c_7) (.slice B_7 n0.length e_7) u0 n0]) HL ?_;clear HL;intro HL;obtain ⟨b_,e_,hbe,hs_,ht_,hput⟩:=Live.logicAt [_,_,_,_,_,_,_] HL.out;(with_reducible refine (markL_calls (w0:=wz1) (fun k=>b_≤k∧k<e_) _ _ u0 _ _ n0 1 (by decide) HB1.out HL1.out (fun k q=>Nat.lt_of_lt_of_le q.2 hbe.2) HL.out.below hs_ ht_).mono ?_);rw [E1.out];rintro e w16 ⟨rfl,hs,ht,hb,hk⟩;have HL1:Aside0 (Live wz1 w16 [.logic (.slice A_14 u1.length c_14) (.slice B_14 n1.length e_14) u1 n1,.logic (.slice A_13 u0.length c_13) (.slice B_13 n0.length e_13) u0 n0,.box g12 #[.slice A_11 r1.length c_11,.slice B_11 r2.length e_11] 29,.logic (.slice A_11 r1.length c_11) (.slice B_11 r2.length e_11) r1 r2,.box g10 #[.slice A_9 u1.length c_9,.slice B_9 n1.length e_9] 29,.logic (.slice A_9 u1.length c_9) (.slice B_9 n1.length e_9) u1 n1,.box g8 #[.slice A_7 u0.length c_7,.slice B_7 n0.length e_7] 29,.logic (.slice A_7 u0.length c_7) (.slice B_7 n0.length e_7) (Q.mk2 u0 1) (Q.mk1 n0.length (1+Q.tot u0))]):=⟨hput _ _ _ hb hk hs ht⟩;clear HL hput hs hb hk hbe hs_ ht ht_;have HL:=HL1;clear HL1;have hcw16g20:w16.cell? ⟨g2,0,none⟩=some (.slice A1 u1.length c1):=(blk_cell (blk_below KBg2.out HL.out.below) 0).trans rfl;have hcw16g21:w16.cell? ⟨g2,1,none⟩=some (.slice B1 n1.length e1):=(blk_cell (blk_below KBg2.out HL.out.below) 1).trans rfl;have hcw16g10:w16.cell? ⟨g1,0,none⟩=some (.slice A0 u0.length c0):=(blk_cell (blk_below KBg1.out HL.out.below) 0).trans rfl;have hcw16g11:w16.cell? ⟨g1,1,none⟩=some (.slice B0 n0.length e0):=(blk_cell (blk_below KBg1.out HL.out.below) 1).trans rfl;have hcw16g60:w16.cell? ⟨g6,0,none⟩=some (.slice A_5 r1.length c_5):=(blk_cell (blk_below KBg6.out HL.out.below) 0).trans rfl;have hcw16g61:w16.cell? ⟨g6,1,none⟩=some (.slice B_5 r2.length e_5):=(blk_cell (blk_below KBg6.out HL.out.below) 1).trans rfl;have hcw16g120:w16.cell? ⟨g12,0,none⟩=some (.slice A_11 r1.length c_11):=Live.cell [_,_] HL.out 0 rfl;have hcw16g121:w16.cell? ⟨g12,1,none⟩=some (.slice B_11 r2.length e_11):=Live.cell [_,_] HL.out 1 rfl;have hcw16g100:w16.cell? ⟨g10,0,none⟩=some (.slice A_9 u1.length c_9):=Live.cell [_,_,_,_] HL.out 0 rfl;have hcw16g101:w16.cell? ⟨g10,1,none⟩=some (.slice B_9 n1.length e_9):=Live.cell [_,_,_,_] HL.out 1 rfl;have hcw16g80:w16.cell? ⟨g8,0,none⟩=some (.slice A_7 u0.length c_7):=Live.cell [_,_,_,_,_,_] HL.out 0 rfl;have hcw16g81:w16.cell? ⟨g8,1,none⟩=some (.slice B_7 n0.length e_7):=Live.cell [_,_,_,_,_,_] HL.out 1 rfl;have s12:=Aside0.mk True.intro)
  | (clear s12;go_at_call 25;refine arm_ (rs':=[.logic (.slice A_14 u1.length c_14) (.slice B_14 n1.length e_14) u1 n1,.logic (.slice A_13 u0.length c_13) (.slice B_13 n0.length e_13) u0 n0,.box g12 #[.slice A_11 r1.length c_11,.slice B_11 r2.length e_11] 29,.logic (.slice A_11 r1.length c_11) (.slice B_11 r2.length e_11) r1 r2,.box g10 #[.slice A_9 u1.length c_9,.slice B_9 n1.length e_9] 29,.logic (.slice A_9 u1.length c_9) (.slice B_9 n1.length e_9) u1 n1,.box g8 #[.slice A_7 u0.length c_7,.slice B_7 n0.length e_7] 29,.logic (.slice A_7 u0.length c_7) (.slice B_7 n0.length e_7) (Q.mk2 u0 1) (Q.mk1 n0.length (1+Q.tot u0))]) HL ?_;clear HL;intro HL;obtain ⟨b_,e_,hbe,hs_,ht_,hput⟩:=Live.logicAt [_,_,_,_,_] HL.out;(with_reducible refine (markL_calls (w0:=wz1) (fun k=>b_≤k∧k<e_) _ _ u1 _ _ n1 M1 (HP1.out) HB2.out HL2.out (fun k q=>Nat.lt_of_lt_of_le q.2 hbe.2) HL.out.below hs_ ht_).mono ?_);rw [E2.out];rintro e w17 ⟨rfl,hs,ht,hb,hk⟩;have HL1:Aside0 (Live wz1 w17 [.logic (.slice A_14 u1.length c_14) (.slice B_14 n1.length e_14) u1 n1,.logic (.slice A_13 u0.length c_13) (.slice B_13 n0.length e_13) u0 n0,.box g12 #[.slice A_11 r1.length c_11,.slice B_11 r2.length e_11] 29,.logic (.slice A_11 r1.length c_11) (.slice B_11 r2.length e_11) r1 r2,.box g10 #[.slice A_9 u1.length c_9,.slice B_9 n1.length e_9] 29,.logic (.slice A_9 u1.length c_9) (.slice B_9 n1.length e_9) (Q.mk2 u1 M1) (Q.mk1 n1.length (M1+Q.tot u1)),.box g8 #[.slice A_7 u0.length c_7,.slice B_7 n0.length e_7] 29,.logic (.slice A_7 u0.length c_7) (.slice B_7 n0.length e_7) (Q.mk2 u0 1) (Q.mk1 n0.length (1+Q.tot u0))]):=⟨hput _ _ _ hb hk hs ht⟩;clear HL hput hs hb hk hbe hs_ ht ht_;have HL:=HL1;clear HL1;have hcw17g20:w17.cell? ⟨g2,0,none⟩=some (.slice A1 u1.length c1):=(blk_cell (blk_below KBg2.out HL.out.below) 0).trans rfl;have hcw17g21:w17.cell? ⟨g2,1,none⟩=some (.slice B1 n1.length e1):=(blk_cell (blk_below KBg2.out HL.out.below) 1).trans rfl;have hcw17g10:w17.cell? ⟨g1,0,none⟩=some (.slice A0 u0.length c0):=(blk_cell (blk_below KBg1.out HL.out.below) 0).trans rfl;have hcw17g11:w17.cell? ⟨g1,1,none⟩=some (.slice B0 n0.length e0):=(blk_cell (blk_below KBg1.out HL.out.below) 1).trans rfl;have hcw17g60:w17.cell? ⟨g6,0,none⟩=some (.slice A_5 r1.length c_5):=(blk_cell (blk_below KBg6.out HL.out.below) 0).trans rfl;have hcw17g61:w17.cell? ⟨g6,1,none⟩=some (.slice B_5 r2.length e_5):=(blk_cell (blk_below KBg6.out HL.out.below) 1).trans rfl;have hcw17g120:w17.cell? ⟨g12,0,none⟩=some (.slice A_11 r1.length c_11):=Live.cell [_,_] HL.out 0 rfl;have hcw17g121:w17.cell? ⟨g12,1,none⟩=some (.slice B_11 r2.length e_11):=Live.cell [_,_] HL.out 1 rfl;have hcw17g100:w17.cell? ⟨g10,0,none⟩=some (.slice A_9 u1.length c_9):=Live.cell [_,_,_,_] HL.out 0 rfl;have hcw17g101:w17.cell? ⟨g10,1,none⟩=some (.slice B_9 n1.length e_9):=Live.cell [_,_,_,_] HL.out 1 rfl;have hcw17g80:w17.cell? ⟨g8,0,none⟩=some (.slice A_7 u0.length c_7):=Live.cell [_,_,_,_,_,_] HL.out 0 rfl;have hcw17g81:w17.cell? ⟨g8,1,none⟩=some (.slice B_7 n0.length e_7):=Live.cell [_,_,_,_,_,_] HL.out 1 rfl;have s13:=Aside0.mk True.intro)
  | (clear s13;go_at_call 19;refine arm_ (rs':=[.logic (.slice A_14 u1.length c_14) (.slice B_14 n1.length e_14) u1 n1,.logic (.slice A_13 u0.length c_13) (.slice B_13 n0.length e_13) u0 n0,.box g12 #[.slice A_11 r1.length c_11,.slice B_11 r2.length e_11] 29,.logic (.slice A_11 r1.length c_11) (.slice B_11 r2.length e_11) r1 r2,.box g10 #[.slice A_9 u1.length c_9,.slice B_9 n1.length e_9] 29,.logic (.slice A_9 u1.length c_9) (.slice B_9 n1.length e_9) (Q.mk2 u1 M1) (Q.mk1 n1.length (M1+Q.tot u1)),.box g8 #[.slice A_7 u0.length c_7,.slice B_7 n0.length e_7] 29,.logic (.slice A_7 u0.length c_7) (.slice B_7 n0.length e_7) (Q.mk2 u0 1) (Q.mk1 n0.length (1+Q.tot u0))]) HL ?_;clear HL;intro HL;(with_reducible refine (laws_eqLogic.calls k12 _ _ r1 _ _ r2 _ _ r1 _ _ r2 true _ ?q1 ?q2 ?q3 ?q4 ?q5 ?q6 ?q7 ?q8 HK12.out).mono ?_);(case q1=>exact (Live.logC0 [_,_,_] HL.out).1);(case q2=>exact (Live.logC0 [_,_,_] HL.out).2);(case q3=>exact (Live.logC1 [_,_,_] HL.out).1);(case q4=>exact (Live.logC1 [_,_,_] HL.out).2);(case q5=>exact Live.came HL.out HQ5a.out);(case q6=>exact HQ5b.out);(case q7=>exact Live.came HL.out HQ5c.out);(case q8=>exact HQ5d.out);rintro e w18 ⟨rfl,hD⟩;have HL1:Aside0 (Live wz1 w18 [.logic (.slice A_14 u1.length c_14) (.slice B_14 n1.length e_14) u1 n1,.logic (.slice A_13 u0.length c_13) (.slice B_13 n0.length e_13) u0 n0,.box g12 #[.slice A_11 r1.length c_11,.slice B_11 r2.length e_11] 29,.logic (.slice A_11 r1.length c_11) (.slice B_11 r2.length e_11) r1 r2,.box g10 #[.slice A_9 u1.length c_9,.slice B_9 n1.length e_9] 29,.logic (.slice A_9 u1.length c_9) (.slice B_9 n1.length e_9) (Q.mk2 u1 M1) (Q.mk1 n1.length (M1+Q.tot u1)),.box g8 #[.slice A_7 u0.length c_7,.slice B_7 n0.length e_7] 29,.logic (.slice A_7 u0.length c_7) (.slice B_7 n0.length e_7) (Q.mk2 u0 1) (Q.mk1 n0.length (1+Q.tot u0))]):=⟨HL.out.step hD⟩;clear HL hD;have HL:=HL1;clear HL1;have hcw18g20:w18.cell? ⟨g2,0,none⟩=some (.slice A1 u1.length c1):=(blk_cell (blk_below KBg2.out HL.out.below) 0).trans rfl;have hcw18g21:w18.cell? ⟨g2,1,none⟩=some (.slice B1 n1.length e1):=(blk_cell (blk_below KBg2.out HL.out.below) 1).trans rfl;have hcw18g10:w18.cell? ⟨g1,0,none⟩=some (.slice A0 u0.length c0):=(blk_cell (blk_below KBg1.out HL.out.below) 0).trans rfl;have hcw18g11:w18.cell? ⟨g1,1,none⟩=some (.slice B0 n0.length e0):=(blk_cell (blk_below KBg1.out HL.out.below) 1).trans rfl;have hcw18g60:w18.cell? ⟨g6,0,none⟩=some (.slice A_5 r1.length c_5):=(blk_cell (blk_below KBg6.out HL.out.below) 0).trans rfl;have hcw18g61:w18.cell? ⟨g6,1,none⟩=some (.slice B_5 r2.length e_5):=(blk_cell (blk_below KBg6.out HL.out.below) 1).trans rfl;have hcw18g120:w18.cell? ⟨g12,0,none⟩=some (.slice A_11 r1.length c_11):=Live.cell [_,_] HL.out 0 rfl;have hcw18g121:w18.cell? ⟨g12,1,none⟩=some (.slice B_11 r2.length e_11):=Live.cell [_,_] HL.out 1 rfl;have hcw18g100:w18.cell? ⟨g10,0,none⟩=some (.slice A_9 u1.length c_9):=Live.cell [_,_,_,_] HL.out 0 rfl;have hcw18g101:w18.cell? ⟨g10,1,none⟩=some (.slice B_9 n1.length e_9):=Live.cell [_,_,_,_] HL.out 1 rfl;have hcw18g80:w18.cell? ⟨g8,0,none⟩=some (.slice A_7 u0.length c_7):=Live.cell [_,_,_,_,_,_] HL.out 0 rfl;have hcw18g81:w18.cell? ⟨g8,1,none⟩=some (.slice B_7 n0.length e_7):=Live.cell [_,_,_,_,_,_] HL.out 1 rfl;have s14:=Aside0.mk True.intro)
  | (clear s14;go_at_call 25;refine arm_ (rs':=[.logic (.slice A_14 u1.length c_14) (.slice B_14 n1.length e_14) u1 n1,.logic (.slice A_13 u0.length c_13) (.slice B_13 n0.length e_13) u0 n0,.box g12 #[.slice A_11 r1.length c_11,.slice B_11 r2.length e_11] 29,.logic (.slice A_11 r1.length c_11) (.slice B_11 r2.length e_11) r1 r2,.box g10 #[.slice A_9 u1.length c_9,.slice B_9 n1.length e_9] 29,.logic (.slice A_9 u1.length c_9) (.slice B_9 n1.length e_9) (Q.mk2 u1 M1) (Q.mk1 n1.length (M1+Q.tot u1)),.box g8 #[.slice A_7 u0.length c_7,.slice B_7 n0.length e_7] 29,.logic (.slice A_7 u0.length c_7) (.slice B_7 n0.length e_7) (Q.mk2 u0 1) (Q.mk1 n0.length (1+Q.tot u0))]) HL ?_;clear HL;intro HL;obtain ⟨b_,e_,hbe,hs_,ht_,hput⟩:=Live.logicAt [_,_,_] HL.out;(with_reducible refine (markL_calls (w0:=wz1) (fun k=>b_≤k∧k<e_) _ _ r1 _ _ r2 1 (by decide) HB3.out HL3.out (fun k q=>Nat.lt_of_lt_of_le q.2 hbe.2) HL.out.below hs_ ht_).mono ?_);rw [E3.out];rintro e w19 ⟨rfl,hs,ht,hb,hk⟩;have HL1:Aside0 (Live wz1 w19 [.logic (.slice A_14 u1.length c_14) (.slice B_14 n1.length e_14) u1 n1,.logic (.slice A_13 u0.length c_13) (.slice B_13 n0.length e_13) u0 n0,.box g12 #[.slice A_11 r1.length c_11,.slice B_11 r2.length e_11] 29,.logic (.slice A_11 r1.length c_11) (.slice B_11 r2.length e_11) (Q.mk2 r1 1) (Q.mk1 r2.length (1+Q.tot r1)),.box g10 #[.slice A_9 u1.length c_9,.slice B_9 n1.length e_9] 29,.logic (.slice A_9 u1.length c_9) (.slice B_9 n1.length e_9) (Q.mk2 u1 M1) (Q.mk1 n1.length (M1+Q.tot u1)),.box g8 #[.slice A_7 u0.length c_7,.slice B_7 n0.length e_7] 29,.logic (.slice A_7 u0.length c_7) (.slice B_7 n0.length e_7) (Q.mk2 u0 1) (Q.mk1 n0.length (1+Q.tot u0))]):=⟨hput _ _ _ hb hk hs ht⟩;clear HL hput hs hb hk hbe hs_ ht ht_;have HL:=HL1;clear HL1;have hcw19g20:w19.cell? ⟨g2,0,none⟩=some (.slice A1 u1.length c1):=(blk_cell (blk_below KBg2.out HL.out.below) 0).trans rfl;have hcw19g21:w19.cell? ⟨g2,1,none⟩=some (.slice B1 n1.length e1):=(blk_cell (blk_below KBg2.out HL.out.below) 1).trans rfl;have hcw19g10:w19.cell? ⟨g1,0,none⟩=some (.slice A0 u0.length c0):=(blk_cell (blk_below KBg1.out HL.out.below) 0).trans rfl;have hcw19g11:w19.cell? ⟨g1,1,none⟩=some (.slice B0 n0.length e0):=(blk_cell (blk_below KBg1.out HL.out.below) 1).trans rfl;have hcw19g60:w19.cell? ⟨g6,0,none⟩=some (.slice A_5 r1.length c_5):=(blk_cell (blk_below KBg6.out HL.out.below) 0).trans rfl;have hcw19g61:w19.cell? ⟨g6,1,none⟩=some (.slice B_5 r2.length e_5):=(blk_cell (blk_below KBg6.out HL.out.below) 1).trans rfl;have hcw19g120:w19.cell? ⟨g12,0,none⟩=some (.slice A_11 r1.length c_11):=Live.cell [_,_] HL.out 0 rfl;have hcw19g121:w19.cell? ⟨g12,1,none⟩=some (.slice B_11 r2.length e_11):=Live.cell [_,_] HL.out 1 rfl;have hcw19g100:w19.cell? ⟨g10,0,none⟩=some (.slice A_9 u1.length c_9):=Live.cell [_,_,_,_] HL.out 0 rfl;have hcw19g101:w19.cell? ⟨g10,1,none⟩=some (.slice B_9 n1.length e_9):=Live.cell [_,_,_,_] HL.out 1 rfl;have hcw19g80:w19.cell? ⟨g8,0,none⟩=some (.slice A_7 u0.length c_7):=Live.cell [_,_,_,_,_,_] HL.out 0 rfl;have hcw19g81:w19.cell? ⟨g8,1,none⟩=some (.slice B_7 n0.length e_7):=Live.cell [_,_,_,_,_,_] HL.out 1 rfl;have s15:=Aside0.mk True.intro)
  | (clear s15;go_at_call 36;refine arm_ (rs':=[.logic (.slice A_14 u1.length c_14) (.slice B_14 n1.length e_14) u1 n1,.logic (.slice A_13 u0.length c_13) (.slice B_13 n0.length e_13) u0 n0,.box g12 #[.slice A_11 r1.length c_11,.slice B_11 r2.length e_11] 29,.logic (.slice A_11 r1.length c_11) (.slice B_11 r2.length e_11) (Q.mk2 r1 1) (Q.mk1 r2.length (1+Q.tot r1)),.box g10 #[.slice A_9 u1.length c_9,.slice B_9 n1.length e_9] 29,.logic (.slice A_9 u1.length c_9) (.slice B_9 n1.length e_9) (Q.mk2 u1 M1) (Q.mk1 n1.length (M1+Q.tot u1)),.box g8 #[.slice A_7 u0.length c_7,.slice B_7 n0.length e_7] 29,.logic (.slice A_7 u0.length c_7) (.slice B_7 n0.length e_7) (Q.mk2 u0 1) (Q.mk1 n0.length (1+Q.tot u0))]) HL ?_;clear HL;intro HL;(with_reducible refine (heldL_calls _ _ r1 _ _ r2.length 1 (by decide) HB3.out HL3.out ?q1 ?q2 ?q3 ?q4).mono ?_);(case q1=>exact (Live.logC0 [_,_,_] HL.out).1);(case q2=>exact (Live.logC0 [_,_,_] HL.out).2);(case q3=>exact (Live.logC1 [_,_,_] HL.out).1);(case q4=>exact (Live.logC1 [_,_,_] HL.out).2);rw [E3.out];rintro e w20 ⟨rfl,hD⟩;have HL1:Aside0 (Live wz1 w20 [.logic (.slice A_14 u1.length c_14) (.slice B_14 n1.length e_14) u1 n1,.logic (.slice A_13 u0.length c_13) (.slice B_13 n0.length e_13) u0 n0,.box g12 #[.slice A_11 r1.length c_11,.slice B_11 r2.length e_11] 29,.logic (.slice A_11 r1.length c_11) (.slice B_11 r2.length e_11) (Q.mk2 r1 1) (Q.mk1 r2.length (1+Q.tot r1)),.box g10 #[.slice A_9 u1.length c_9,.slice B_9 n1.length e_9] 29,.logic (.slice A_9 u1.length c_9) (.slice B_9 n1.length e_9) (Q.mk2 u1 M1) (Q.mk1 n1.length (M1+Q.tot u1)),.box g8 #[.slice A_7 u0.length c_7,.slice B_7 n0.length e_7] 29,.logic (.slice A_7 u0.length c_7) (.slice B_7 n0.length e_7) (Q.mk2 u0 1) (Q.mk1 n0.length (1+Q.tot u0))]):=⟨HL.out.step hD⟩;clear HL hD;have HL:=HL1;clear HL1;have hcw20g20:w20.cell? ⟨g2,0,none⟩=some (.slice A1 u1.length c1):=(blk_cell (blk_below KBg2.out HL.out.below) 0).trans rfl;have hcw20g21:w20.cell? ⟨g2,1,none⟩=some (.slice B1 n1.length e1):=(blk_cell (blk_below KBg2.out HL.out.below) 1).trans rfl;have hcw20g10:w20.cell? ⟨g1,0,none⟩=some (.slice A0 u0.length c0):=(blk_cell (blk_below KBg1.out HL.out.below) 0).trans rfl;have hcw20g11:w20.cell? ⟨g1,1,none⟩=some (.slice B0 n0.length e0):=(blk_cell (blk_below KBg1.out HL.out.below) 1).trans rfl;have hcw20g60:w20.cell? ⟨g6,0,none⟩=some (.slice A_5 r1.length c_5):=(blk_cell (blk_below KBg6.out HL.out.below) 0).trans rfl;have hcw20g61:w20.cell? ⟨g6,1,none⟩=some (.slice B_5 r2.length e_5):=(blk_cell (blk_below KBg6.out HL.out.below) 1).trans rfl;have hcw20g120:w20.cell? ⟨g12,0,none⟩=some (.slice A_11 r1.length c_11):=Live.cell [_,_] HL.out 0 rfl;have hcw20g121:w20.cell? ⟨g12,1,none⟩=some (.slice B_11 r2.length e_11):=Live.cell [_,_] HL.out 1 rfl;have hcw20g100:w20.cell? ⟨g10,0,none⟩=some (.slice A_9 u1.length c_9):=Live.cell [_,_,_,_] HL.out 0 rfl;have hcw20g101:w20.cell? ⟨g10,1,none⟩=some (.slice B_9 n1.length e_9):=Live.cell [_,_,_,_] HL.out 1 rfl;have hcw20g80:w20.cell? ⟨g8,0,none⟩=some (.slice A_7 u0.length c_7):=Live.cell [_,_,_,_,_,_] HL.out 0 rfl;have hcw20g81:w20.cell? ⟨g8,1,none⟩=some (.slice B_7 n0.length e_7):=Live.cell [_,_,_,_,_,_] HL.out 1 rfl;have s16:=Aside0.mk True.intro))
 refine armc_ (rs':=[.logic (.slice A_14 u1.length c_14) (.slice B_14 n1.length e_14) u1 n1,.logic (.slice A_13 u0.length c_13) (.slice B_13 n0.length e_13) u0 n0,.box g12 #[.slice A_11 r1.length c_11,.slice B_11 r2.length e_11] 29,.logic (.slice A_11 r1.length c_11) (.slice B_11 r2.length e_11) (Q.mk2 r1 1) (Q.mk1 r2.length (1+Q.tot r1)),.box g10 #[.slice A_9 u1.length c_9,.slice B_9 n1.length e_9] 29,.logic (.slice A_9 u1.length c_9) (.slice B_9 n1.length e_9) (Q.mk2 u1 M1) (Q.mk1 n1.length (M1+Q.tot u1)),.box g8 #[.slice A_7 u0.length c_7,.slice B_7 n0.length e_7] 29,.logic (.slice A_7 u0.length c_7) (.slice B_7 n0.length e_7) (Q.mk2 u0 1) (Q.mk1 n0.length (1+Q.tot u0))]) HL (fun HL_=>?_)
 clear HL
 have HL:=Aside0.mk (HL_.out.drew)
 clear HL_
 refine start_ (n:=11) (S:=fun w'=>w'.cell? ⟨g1,0,none⟩=some (.slice A0 u0.length c0)∧w'.cell? ⟨g1,1,none⟩=some (.slice B0 n0.length e0)∧w'.cell? ⟨g2,0,none⟩=some (.slice A1 u1.length c1)∧w'.cell? ⟨g2,1,none⟩=some (.slice B1 n1.length e1)) (ds:=[9]) #[false,false,false,false,false,false,false,false,false,false,false] (by kernel_rfl) rfl rfl ⟨(blk_cell (blk_below KBg1.out HL.out.below) 0).trans rfl,(blk_cell (blk_below KBg1.out HL.out.below) 1).trans rfl,(blk_cell (blk_below KBg2.out HL.out.below) 0).trans rfl,(blk_cell (blk_below KBg2.out HL.out.below) 1).trans rfl⟩ (fun hHeld=>?_)
 refine take_ (i:=0) (N:=some 95) (v:=?_) (a':=?_) #[true,false,false,false,false,false,false,false,false,false,false] rfl rfl (by kernel_rfl) (fun _ _ _ h=>h) (Or.inl ⟨by rfl,?_⟩) hHeld ?_ ?_
 rotate_left
 ·rintro w' ⟨s0,s1,s2,s3⟩
  go_simp
  with_reducible rfl
 rotate_left
 ·simp only [Act.put,List.setIfInBounds_toArray,List.set_cons_zero,List.set_cons_succ,i64_w,i32_w]
  rfl
 refine take_ (i:=2) (N:=some 97) (v:=?_) (a':=?_) #[true,false,true,false,false,false,false,false,false,false,false] rfl rfl (by kernel_rfl) (fun _ _ _ h=>h) (Or.inl ⟨by rfl,?_⟩) hHeld ?_ ?_
 rotate_left
 ·rintro w' ⟨s0,s1,s2,s3⟩
  go_simp
  with_reducible rfl
 rotate_left
 ·simp only [Act.put,List.setIfInBounds_toArray,List.set_cons_zero,List.set_cons_succ,i64_w,i32_w]
  rfl
 refine join_ (σ:=(Option Addr × Nat × Option Addr × Nat) × (Option Addr × Nat × Option Addr × Nat) × (Option Addr × Nat × Option Addr × Nat) × Nat) 2 #[true,true,true,true,true,true,true,true,true,false,false] (fun s=>[(96,.agg #[.slice s.1.1 u0.length s.1.2.1,.slice s.1.2.2.1 n0.length s.1.2.2.2]),(98,.agg #[.slice s.2.1.1 u1.length s.2.1.2.1,.slice s.2.1.2.2.1 n1.length s.2.1.2.2.2]),(99,.tuple #[.agg #[.slice s.2.2.1.1 r1.length s.2.2.1.2.1,.slice s.2.2.1.2.2.1 r2.length s.2.2.1.2.2.2],.bool r3]),(15,.pointer (some ⟨s.2.2.2,0,none⟩)),(94,.tuple #[.agg #[.slice s.2.2.1.1 r1.length s.2.2.1.2.1,.slice s.2.2.1.2.2.1 r2.length s.2.2.1.2.2.2],.bool r3]),(100,.agg #[.slice s.2.2.1.1 r1.length s.2.2.1.2.1,.slice s.2.2.1.2.2.1 r2.length s.2.2.1.2.2.2]),(101,.bool r3)]) (fun s W=>Ins wz1 W [.logic (.slice s.2.2.1.1 r1.length s.2.2.1.2.1) (.slice s.2.2.1.2.2.1 r2.length s.2.2.1.2.2.2) r1 r2,.logic (.slice s.2.1.1 u1.length s.2.1.2.1) (.slice s.2.1.2.2.1 n1.length s.2.1.2.2.2) u1 n1,.logic (.slice s.1.1 u0.length s.1.2.1) (.slice s.1.2.2.1 n0.length s.1.2.2.2) u0 n0,.logic (.slice A_14 u1.length c_14) (.slice B_14 n1.length e_14) u1 n1,.logic (.slice A_13 u0.length c_13) (.slice B_13 n0.length e_13) u0 n0,.box g12 #[.slice A_11 r1.length c_11,.slice B_11 r2.length e_11] 29,.logic (.slice A_11 r1.length c_11) (.slice B_11 r2.length e_11) (Q.mk2 r1 1) (Q.mk1 r2.length (1+Q.tot r1)),.box g10 #[.slice A_9 u1.length c_9,.slice B_9 n1.length e_9] 29,.logic (.slice A_9 u1.length c_9) (.slice B_9 n1.length e_9) (Q.mk2 u1 M1) (Q.mk1 n1.length (M1+Q.tot u1)),.box g8 #[.slice A_7 u0.length c_7,.slice B_7 n0.length e_7] 29,.logic (.slice A_7 u0.length c_7) (.slice B_7 n0.length e_7) (Q.mk2 u0 1) (Q.mk1 n0.length (1+Q.tot u0))] (some (.box (s.2.2.2) #[.slice none 0 0,.slice none 0 0] 29))) ?_ ?_
 rotate_left
 ·intro hJ1_3_4_8
  refine join_ (σ:=(Option Addr × Nat × Option Addr × Nat) × (Option Addr × Nat × Option Addr × Nat) × (Option Addr × Nat × Option Addr × Nat) × Nat) 3 #[true,true,true,true,true,true,true,true,false,false,false] (fun s=>[(96,.agg #[.slice s.1.1 u0.length s.1.2.1,.slice s.1.2.2.1 n0.length s.1.2.2.2]),(98,.agg #[.slice s.2.1.1 u1.length s.2.1.2.1,.slice s.2.1.2.2.1 n1.length s.2.1.2.2.2]),(99,.tuple #[.agg #[.slice s.2.2.1.1 r1.length s.2.2.1.2.1,.slice s.2.2.1.2.2.1 r2.length s.2.2.1.2.2.2],.bool r3]),(94,.tuple #[.agg #[.slice s.2.2.1.1 r1.length s.2.2.1.2.1,.slice s.2.2.1.2.2.1 r2.length s.2.2.1.2.2.2],.bool r3]),(100,.agg #[.slice s.2.2.1.1 r1.length s.2.2.1.2.1,.slice s.2.2.1.2.2.1 r2.length s.2.2.1.2.2.2]),(101,.bool r3)]) (fun s W=>Ins wz1 W [.logic (.slice s.2.2.1.1 r1.length s.2.2.1.2.1) (.slice s.2.2.1.2.2.1 r2.length s.2.2.1.2.2.2) r1 r2,.logic (.slice s.2.1.1 u1.length s.2.1.2.1) (.slice s.2.1.2.2.1 n1.length s.2.1.2.2.2) u1 n1,.logic (.slice s.1.1 u0.length s.1.2.1) (.slice s.1.2.2.1 n0.length s.1.2.2.2) u0 n0,.logic (.slice A_14 u1.length c_14) (.slice B_14 n1.length e_14) u1 n1,.logic (.slice A_13 u0.length c_13) (.slice B_13 n0.length e_13) u0 n0,.box g12 #[.slice A_11 r1.length c_11,.slice B_11 r2.length e_11] 29,.logic (.slice A_11 r1.length c_11) (.slice B_11 r2.length e_11) (Q.mk2 r1 1) (Q.mk1 r2.length (1+Q.tot r1)),.box g10 #[.slice A_9 u1.length c_9,.slice B_9 n1.length e_9] 29,.logic (.slice A_9 u1.length c_9) (.slice B_9 n1.length e_9) (Q.mk2 u1 M1) (Q.mk1 n1.length (M1+Q.tot u1)),.box g8 #[.slice A_7 u0.length c_7,.slice B_7 n0.length e_7] 29,.logic (.slice A_7 u0.length c_7) (.slice B_7 n0.length e_7) (Q.mk2 u0 1) (Q.mk1 n0.length (1+Q.tot u0))] (none)) ?_ ?_
  rotate_left
  ·intro hJ1_3_4
   refine join_ (σ:=(Option Addr × Nat × Option Addr × Nat) × (Option Addr × Nat × Option Addr × Nat) × (Option Addr × Nat × Option Addr × Nat) × Nat) 6 #[true,true,true,true,false,false,false,false,true,false,false] (fun s=>[(96,.agg #[.slice s.1.1 u0.length s.1.2.1,.slice s.1.2.2.1 n0.length s.1.2.2.2]),(98,.agg #[.slice s.2.1.1 u1.length s.2.1.2.1,.slice s.2.1.2.2.1 n1.length s.2.1.2.2.2]),(15,.pointer (some ⟨s.2.2.2,0,none⟩))]) (fun s W=>Ins wz1 W [.logic (.slice s.2.1.1 u1.length s.2.1.2.1) (.slice s.2.1.2.2.1 n1.length s.2.1.2.2.2) u1 n1,.logic (.slice s.1.1 u0.length s.1.2.1) (.slice s.1.2.2.1 n0.length s.1.2.2.2) u0 n0,.logic (.slice A_14 u1.length c_14) (.slice B_14 n1.length e_14) u1 n1,.logic (.slice A_13 u0.length c_13) (.slice B_13 n0.length e_13) u0 n0,.box g12 #[.slice A_11 r1.length c_11,.slice B_11 r2.length e_11] 29,.logic (.slice A_11 r1.length c_11) (.slice B_11 r2.length e_11) (Q.mk2 r1 1) (Q.mk1 r2.length (1+Q.tot r1)),.box g10 #[.slice A_9 u1.length c_9,.slice B_9 n1.length e_9] 29,.logic (.slice A_9 u1.length c_9) (.slice B_9 n1.length e_9) (Q.mk2 u1 M1) (Q.mk1 n1.length (M1+Q.tot u1)),.box g8 #[.slice A_7 u0.length c_7,.slice B_7 n0.length e_7] 29,.logic (.slice A_7 u0.length c_7) (.slice B_7 n0.length e_7) (Q.mk2 u0 1) (Q.mk1 n0.length (1+Q.tot u0))] (some (.box (s.2.2.2) #[.slice none 0 0,.slice none 0 0] 29))) ?_ ?_
   rotate_left
   ·intro hJ1_3_8
    refine join_ (σ:=(Option Addr × Nat × Option Addr × Nat) × (Option Addr × Nat × Option Addr × Nat) × (Option Addr × Nat × Option Addr × Nat) × Nat) 7 #[true,true,true,true,false,false,false,false,false,false,false] (fun s=>[(96,.agg #[.slice s.1.1 u0.length s.1.2.1,.slice s.1.2.2.1 n0.length s.1.2.2.2]),(98,.agg #[.slice s.2.1.1 u1.length s.2.1.2.1,.slice s.2.1.2.2.1 n1.length s.2.1.2.2.2])]) (fun s W=>Ins wz1 W [.logic (.slice s.2.1.1 u1.length s.2.1.2.1) (.slice s.2.1.2.2.1 n1.length s.2.1.2.2.2) u1 n1,.logic (.slice s.1.1 u0.length s.1.2.1) (.slice s.1.2.2.1 n0.length s.1.2.2.2) u0 n0,.logic (.slice A_14 u1.length c_14) (.slice B_14 n1.length e_14) u1 n1,.logic (.slice A_13 u0.length c_13) (.slice B_13 n0.length e_13) u0 n0,.box g12 #[.slice A_11 r1.length c_11,.slice B_11 r2.length e_11] 29,.logic (.slice A_11 r1.length c_11) (.slice B_11 r2.length e_11) (Q.mk2 r1 1) (Q.mk1 r2.length (1+Q.tot r1)),.box g10 #[.slice A_9 u1.length c_9,.slice B_9 n1.length e_9] 29,.logic (.slice A_9 u1.length c_9) (.slice B_9 n1.length e_9) (Q.mk2 u1 M1) (Q.mk1 n1.length (M1+Q.tot u1)),.box g8 #[.slice A_7 u0.length c_7,.slice B_7 n0.length e_7] 29,.logic (.slice A_7 u0.length c_7) (.slice B_7 n0.length e_7) (Q.mk2 u0 1) (Q.mk1 n0.length (1+Q.tot u0))] (none)) ?_ ?_
    rotate_left
    ·intro hJ1_3
     refine join_ (σ:=(Option Addr × Nat × Option Addr × Nat) × (Option Addr × Nat × Option Addr × Nat) × (Option Addr × Nat × Option Addr × Nat) × Nat) 7 #[true,true,true,false,false,false,false,false,true,false,false] (fun s=>[(96,.agg #[.slice s.1.1 u0.length s.1.2.1,.slice s.1.2.2.1 n0.length s.1.2.2.2]),(15,.pointer (some ⟨s.2.2.2,0,none⟩))]) (fun s W=>Ins wz1 W [.logic (.slice s.1.1 u0.length s.1.2.1) (.slice s.1.2.2.1 n0.length s.1.2.2.2) u0 n0,.logic (.slice A_14 u1.length c_14) (.slice B_14 n1.length e_14) u1 n1,.logic (.slice A_13 u0.length c_13) (.slice B_13 n0.length e_13) u0 n0,.box g12 #[.slice A_11 r1.length c_11,.slice B_11 r2.length e_11] 29,.logic (.slice A_11 r1.length c_11) (.slice B_11 r2.length e_11) (Q.mk2 r1 1) (Q.mk1 r2.length (1+Q.tot r1)),.box g10 #[.slice A_9 u1.length c_9,.slice B_9 n1.length e_9] 29,.logic (.slice A_9 u1.length c_9) (.slice B_9 n1.length e_9) (Q.mk2 u1 M1) (Q.mk1 n1.length (M1+Q.tot u1)),.box g8 #[.slice A_7 u0.length c_7,.slice B_7 n0.length e_7] 29,.logic (.slice A_7 u0.length c_7) (.slice B_7 n0.length e_7) (Q.mk2 u0 1) (Q.mk1 n0.length (1+Q.tot u0))] (some (.box (s.2.2.2) #[.slice none 0 0,.slice none 0 0] 29))) ?_ ?_
     rotate_left
     ·intro hJ1_8
      refine join_ (σ:=(Option Addr × Nat × Option Addr × Nat) × (Option Addr × Nat × Option Addr × Nat) × (Option Addr × Nat × Option Addr × Nat) × Nat) 8 #[true,true,true,false,false,false,false,false,false,false,false] (fun s=>[(96,.agg #[.slice s.1.1 u0.length s.1.2.1,.slice s.1.2.2.1 n0.length s.1.2.2.2])]) (fun s W=>Ins wz1 W [.logic (.slice s.1.1 u0.length s.1.2.1) (.slice s.1.2.2.1 n0.length s.1.2.2.2) u0 n0,.logic (.slice A_14 u1.length c_14) (.slice B_14 n1.length e_14) u1 n1,.logic (.slice A_13 u0.length c_13) (.slice B_13 n0.length e_13) u0 n0,.box g12 #[.slice A_11 r1.length c_11,.slice B_11 r2.length e_11] 29,.logic (.slice A_11 r1.length c_11) (.slice B_11 r2.length e_11) (Q.mk2 r1 1) (Q.mk1 r2.length (1+Q.tot r1)),.box g10 #[.slice A_9 u1.length c_9,.slice B_9 n1.length e_9] 29,.logic (.slice A_9 u1.length c_9) (.slice B_9 n1.length e_9) (Q.mk2 u1 M1) (Q.mk1 n1.length (M1+Q.tot u1)),.box g8 #[.slice A_7 u0.length c_7,.slice B_7 n0.length e_7] 29,.logic (.slice A_7 u0.length c_7) (.slice B_7 n0.length e_7) (Q.mk2 u0 1) (Q.mk1 n0.length (1+Q.tot u0))] (none)) ?_ ?_
      rotate_left
      ·intro hJ1
       refine join_ (σ:=(Option Addr × Nat × Option Addr × Nat) × (Option Addr × Nat × Option Addr × Nat) × (Option Addr × Nat × Option Addr × Nat) × Nat) 8 #[true,false,true,false,false,false,false,false,true,false,false] (fun s=>[(15,.pointer (some ⟨s.2.2.2,0,none⟩))]) (fun s W=>Ins wz1 W [.logic (.slice A_14 u1.length c_14) (.slice B_14 n1.length e_14) u1 n1,.logic (.slice A_13 u0.length c_13) (.slice B_13 n0.length e_13) u0 n0,.box g12 #[.slice A_11 r1.length c_11,.slice B_11 r2.length e_11] 29,.logic (.slice A_11 r1.length c_11) (.slice B_11 r2.length e_11) (Q.mk2 r1 1) (Q.mk1 r2.length (1+Q.tot r1)),.box g10 #[.slice A_9 u1.length c_9,.slice B_9 n1.length e_9] 29,.logic (.slice A_9 u1.length c_9) (.slice B_9 n1.length e_9) (Q.mk2 u1 M1) (Q.mk1 n1.length (M1+Q.tot u1)),.box g8 #[.slice A_7 u0.length c_7,.slice B_7 n0.length e_7] 29,.logic (.slice A_7 u0.length c_7) (.slice B_7 n0.length e_7) (Q.mk2 u0 1) (Q.mk1 n0.length (1+Q.tot u0))] (some (.box (s.2.2.2) #[.slice none 0 0,.slice none 0 0] 29))) ?_ ?_
       rotate_left
       ·intro hJ8
        refine two_ (i:=1) (j:=8) (Ni:=some 96) (Nj:=some 15) #[true,true,true,false,false,false,false,false,false,false,false] #[true,false,true,false,false,false,false,false,true,false,false] rfl rfl rfl rfl (by kernel_rfl) (by decide) (by decide) (fun K hK=>?_) (fun K hK=>?_)
        ·skip
         have HG:Ins wz1 _ [.logic (.slice A_14 u1.length c_14) (.slice B_14 n1.length e_14) u1 n1,.logic (.slice A_13 u0.length c_13) (.slice B_13 n0.length e_13) u0 n0,.box g12 #[.slice A_11 r1.length c_11,.slice B_11 r2.length e_11] 29,.logic (.slice A_11 r1.length c_11) (.slice B_11 r2.length e_11) (Q.mk2 r1 1) (Q.mk1 r2.length (1+Q.tot r1)),.box g10 #[.slice A_9 u1.length c_9,.slice B_9 n1.length e_9] 29,.logic (.slice A_9 u1.length c_9) (.slice B_9 n1.length e_9) (Q.mk2 u1 M1) (Q.mk1 n1.length (M1+Q.tot u1)),.box g8 #[.slice A_7 u0.length c_7,.slice B_7 n0.length e_7] 29,.logic (.slice A_7 u0.length c_7) (.slice B_7 n0.length e_7) (Q.mk2 u0 1) (Q.mk1 n0.length (1+Q.tot u0))] none:=HL.out
         refine ge_ Try.func17 #[.agg #[.slice A0 u0.length c0,.slice B0 n0.length e0]] ?_
         with_reducible refine (laws_toLogic.calls k13 _ _ u0 _ _ n0 u0 n0 _ (Kd.C_below HR0.out HG.below) (HC0.out) (Kd.C_below HS0.out HG.below) (HD0.out) HK13.out).mono ?_
         rintro e W1 ⟨v_,x_,rfl,hs,ht,hb⟩
         obtain ⟨A_15,c_15,ev⟩:=Kd.S_slice hs
         subst ev
         obtain ⟨B_15,e_15,ev⟩:=Kd.R_slice ht
         subst ev
         have HG1:=Ins.logic HG hs ht hb
         refine ⟨_,rfl,?_⟩
         refine hK.out _ _ ⟨(blk_cell (blk_below KBg1.out HG1.below) 0).trans rfl,(blk_cell (blk_below KBg1.out HG1.below) 1).trans rfl,(blk_cell (blk_below KBg2.out HG1.below) 0).trans rfl,(blk_cell (blk_below KBg2.out HG1.below) 1).trans rfl⟩ (fun hHeld=>?_)
         clear hK K
         refine norm_ (a':=?_) ?_ ?_
         rotate_left
         ·show Act.put _ (some 96) _=_
          simp only [Act.put,List.setIfInBounds_toArray,List.set_cons_zero,List.set_cons_succ,i64_w,i32_w]
          rfl
         exact norm_ (by first|(simp only [putAll,Act.put,List.setIfInBounds_toArray,List.set_cons_zero,List.set_cons_succ];done)|(simp only [putAll,Act.put,List.setIfInBounds_toArray,List.set_cons_zero,List.set_cons_succ];rfl)) (hJ1 ((A_15,c_15,B_15,e_15),(none,0,none,0),(none,0,none,0),0) _ HG1)
        ·skip
         have HG:Ins wz1 _ [.logic (.slice A_14 u1.length c_14) (.slice B_14 n1.length e_14) u1 n1,.logic (.slice A_13 u0.length c_13) (.slice B_13 n0.length e_13) u0 n0,.box g12 #[.slice A_11 r1.length c_11,.slice B_11 r2.length e_11] 29,.logic (.slice A_11 r1.length c_11) (.slice B_11 r2.length e_11) (Q.mk2 r1 1) (Q.mk1 r2.length (1+Q.tot r1)),.box g10 #[.slice A_9 u1.length c_9,.slice B_9 n1.length e_9] 29,.logic (.slice A_9 u1.length c_9) (.slice B_9 n1.length e_9) (Q.mk2 u1 M1) (Q.mk1 n1.length (M1+Q.tot u1)),.box g8 #[.slice A_7 u0.length c_7,.slice B_7 n0.length e_7] 29,.logic (.slice A_7 u0.length c_7) (.slice B_7 n0.length e_7) (Q.mk2 u0 1) (Q.mk1 n0.length (1+Q.tot u0))] none:=HL.out
         refine value_ (w1:=?_) (v:=?_) (by rfl) rfl ?_ ?_
         rotate_left 2
         ·go_simp
          constructor
          ·rfl
          ·rfl
         have HG1:=Ins.new HG #[.slice none 0 0,.slice none 0 0] 29
         refine hK.out _ _ ⟨(blk_cell (blk_below KBg1.out HG1.below) 0).trans rfl,(blk_cell (blk_below KBg1.out HG1.below) 1).trans rfl,(blk_cell (blk_below KBg2.out HG1.below) 0).trans rfl,(blk_cell (blk_below KBg2.out HG1.below) 1).trans rfl⟩ (fun hHeld=>?_)
         clear hK K
         refine norm_ (a':=?_) ?_ ?_
         rotate_left
         ·show Act.put _ (some 15) _=_
          simp only [Act.put,List.setIfInBounds_toArray,List.set_cons_zero,List.set_cons_succ,i64_w,i32_w]
          rfl
         exact norm_ (by first|(simp only [putAll,Act.put,List.setIfInBounds_toArray,List.set_cons_zero,List.set_cons_succ];done)|(simp only [putAll,Act.put,List.setIfInBounds_toArray,List.set_cons_zero,List.set_cons_succ];rfl)) (hJ8 ((none,0,none,0),(none,0,none,0),(none,0,none,0),_) _ HG1)
       ·skip
        rintro ⟨⟨A_15,c_15,B_15,e_15⟩,⟨A_16,c_16,B_16,e_16⟩,⟨A_17,c_17,B_17,e_17⟩,g18⟩ W HG
        refine norm_ (a':=?_) ?_ ?_
        rotate_left
        ·simp only [putAll,Act.put,List.setIfInBounds_toArray,List.set_cons_zero,List.set_cons_succ]
         rfl
        refine one_ (i:=1) (N:=some 96) #[true,true,true,false,false,false,false,false,true,false,false] rfl rfl (by kernel_rfl) (by decide) (fun K hK=>?_)
        refine ge_ Try.func17 #[.agg #[.slice A0 u0.length c0,.slice B0 n0.length e0]] ?_
        with_reducible refine (laws_toLogic.calls k13 _ _ u0 _ _ n0 u0 n0 _ (Kd.C_below HR0.out HG.below) (HC0.out) (Kd.C_below HS0.out HG.below) (HD0.out) HK13.out).mono ?_
        rintro e W1 ⟨v_,x_,rfl,hs,ht,hb⟩
        obtain ⟨A_15,c_15,ev⟩:=Kd.S_slice hs
        subst ev
        obtain ⟨B_15,e_15,ev⟩:=Kd.R_slice ht
        subst ev
        have HG1:=Ins.logic HG hs ht hb
        refine ⟨_,rfl,?_⟩
        refine hK.out _ _ ⟨(blk_cell (blk_below KBg1.out HG1.below) 0).trans rfl,(blk_cell (blk_below KBg1.out HG1.below) 1).trans rfl,(blk_cell (blk_below KBg2.out HG1.below) 0).trans rfl,(blk_cell (blk_below KBg2.out HG1.below) 1).trans rfl⟩ (fun hHeld=>?_)
        clear hK K
        refine norm_ (a':=?_) ?_ ?_
        rotate_left
        ·show Act.put _ (some 96) _=_
         simp only [Act.put,List.setIfInBounds_toArray,List.set_cons_zero,List.set_cons_succ,i64_w,i32_w]
         rfl
        exact norm_ (by first|(simp only [putAll,Act.put,List.setIfInBounds_toArray,List.set_cons_zero,List.set_cons_succ];done)|(simp only [putAll,Act.put,List.setIfInBounds_toArray,List.set_cons_zero,List.set_cons_succ];rfl)) (hJ1_8 ((A_15,c_15,B_15,e_15),(A_16,c_16,B_16,e_16),(A_17,c_17,B_17,e_17),g18) _ HG1)
      ·skip
       rintro ⟨⟨A_15,c_15,B_15,e_15⟩,⟨A_16,c_16,B_16,e_16⟩,⟨A_17,c_17,B_17,e_17⟩,g18⟩ W HG
       refine norm_ (a':=?_) ?_ ?_
       rotate_left
       ·simp only [putAll,Act.put,List.setIfInBounds_toArray,List.set_cons_zero,List.set_cons_succ]
        rfl
       refine two_ (i:=3) (j:=8) (Ni:=some 98) (Nj:=some 15) #[true,true,true,true,false,false,false,false,false,false,false] #[true,true,true,false,false,false,false,false,true,false,false] rfl rfl rfl rfl (by kernel_rfl) (by decide) (by decide) (fun K hK=>?_) (fun K hK=>?_)
       ·skip
        refine ge_ Try.func17 #[.agg #[.slice A1 u1.length c1,.slice B1 n1.length e1]] ?_
        with_reducible refine (laws_toLogic.calls k14 _ _ u1 _ _ n1 u1 n1 _ (Kd.C_below HR1.out HG.below) (HC1.out) (Kd.C_below HS1.out HG.below) (HD1.out) HK14.out).mono ?_
        rintro e W1 ⟨v_,x_,rfl,hs,ht,hb⟩
        obtain ⟨A_16,c_16,ev⟩:=Kd.S_slice hs
        subst ev
        obtain ⟨B_16,e_16,ev⟩:=Kd.R_slice ht
        subst ev
        have HG1:=Ins.logic HG hs ht hb
        refine ⟨_,rfl,?_⟩
        refine hK.out _ _ ⟨(blk_cell (blk_below KBg1.out HG1.below) 0).trans rfl,(blk_cell (blk_below KBg1.out HG1.below) 1).trans rfl,(blk_cell (blk_below KBg2.out HG1.below) 0).trans rfl,(blk_cell (blk_below KBg2.out HG1.below) 1).trans rfl⟩ (fun hHeld=>?_)
        clear hK K
        refine norm_ (a':=?_) ?_ ?_
        rotate_left
        ·show Act.put _ (some 98) _=_
         simp only [Act.put,List.setIfInBounds_toArray,List.set_cons_zero,List.set_cons_succ,i64_w,i32_w]
         rfl
        exact norm_ (by first|(simp only [putAll,Act.put,List.setIfInBounds_toArray,List.set_cons_zero,List.set_cons_succ];done)|(simp only [putAll,Act.put,List.setIfInBounds_toArray,List.set_cons_zero,List.set_cons_succ];rfl)) (hJ1_3 ((A_15,c_15,B_15,e_15),(A_16,c_16,B_16,e_16),(A_17,c_17,B_17,e_17),g18) _ HG1)
       ·skip
        refine value_ (w1:=?_) (v:=?_) (by rfl) rfl ?_ ?_
        rotate_left 2
        ·go_simp
         constructor
         ·rfl
         ·rfl
        have HG1:=Ins.new HG #[.slice none 0 0,.slice none 0 0] 29
        refine hK.out _ _ ⟨(blk_cell (blk_below KBg1.out HG1.below) 0).trans rfl,(blk_cell (blk_below KBg1.out HG1.below) 1).trans rfl,(blk_cell (blk_below KBg2.out HG1.below) 0).trans rfl,(blk_cell (blk_below KBg2.out HG1.below) 1).trans rfl⟩ (fun hHeld=>?_)
        clear hK K
        refine norm_ (a':=?_) ?_ ?_
        rotate_left
        ·show Act.put _ (some 15) _=_
         simp only [Act.put,List.setIfInBounds_toArray,List.set_cons_zero,List.set_cons_succ,i64_w,i32_w]
         rfl
        exact norm_ (by first|(simp only [putAll,Act.put,List.setIfInBounds_toArray,List.set_cons_zero,List.set_cons_succ];done)|(simp only [putAll,Act.put,List.setIfInBounds_toArray,List.set_cons_zero,List.set_cons_succ];rfl)) (hJ1_8 ((A_15,c_15,B_15,e_15),(A_16,c_16,B_16,e_16),(A_17,c_17,B_17,e_17),_) _ HG1)
     ·skip
      rintro ⟨⟨A_15,c_15,B_15,e_15⟩,⟨A_16,c_16,B_16,e_16⟩,⟨A_17,c_17,B_17,e_17⟩,g18⟩ W HG
      refine norm_ (a':=?_) ?_ ?_
      rotate_left
      ·simp only [putAll,Act.put,List.setIfInBounds_toArray,List.set_cons_zero,List.set_cons_succ]
       rfl
      refine one_ (i:=3) (N:=some 98) #[true,true,true,true,false,false,false,false,true,false,false] rfl rfl (by kernel_rfl) (by decide) (fun K hK=>?_)
      refine ge_ Try.func17 #[.agg #[.slice A1 u1.length c1,.slice B1 n1.length e1]] ?_
      with_reducible refine (laws_toLogic.calls k14 _ _ u1 _ _ n1 u1 n1 _ (Kd.C_below HR1.out HG.below) (HC1.out) (Kd.C_below HS1.out HG.below) (HD1.out) HK14.out).mono ?_
      rintro e W1 ⟨v_,x_,rfl,hs,ht,hb⟩
      obtain ⟨A_16,c_16,ev⟩:=Kd.S_slice hs
      subst ev
      obtain ⟨B_16,e_16,ev⟩:=Kd.R_slice ht
      subst ev
      have HG1:=Ins.logic HG hs ht hb
      refine ⟨_,rfl,?_⟩
      refine hK.out _ _ ⟨(blk_cell (blk_below KBg1.out HG1.below) 0).trans rfl,(blk_cell (blk_below KBg1.out HG1.below) 1).trans rfl,(blk_cell (blk_below KBg2.out HG1.below) 0).trans rfl,(blk_cell (blk_below KBg2.out HG1.below) 1).trans rfl⟩ (fun hHeld=>?_)
      clear hK K
      refine norm_ (a':=?_) ?_ ?_
      rotate_left
      ·show Act.put _ (some 98) _=_
       simp only [Act.put,List.setIfInBounds_toArray,List.set_cons_zero,List.set_cons_succ,i64_w,i32_w]
       rfl
      exact norm_ (by first|(simp only [putAll,Act.put,List.setIfInBounds_toArray,List.set_cons_zero,List.set_cons_succ];done)|(simp only [putAll,Act.put,List.setIfInBounds_toArray,List.set_cons_zero,List.set_cons_succ];rfl)) (hJ1_3_8 ((A_15,c_15,B_15,e_15),(A_16,c_16,B_16,e_16),(A_17,c_17,B_17,e_17),g18) _ HG1)
    ·skip
     rintro ⟨⟨A_15,c_15,B_15,e_15⟩,⟨A_16,c_16,B_16,e_16⟩,⟨A_17,c_17,B_17,e_17⟩,g18⟩ W HG
     refine norm_ (a':=?_) ?_ ?_
     rotate_left
     ·simp only [putAll,Act.put,List.setIfInBounds_toArray,List.set_cons_zero,List.set_cons_succ]
      rfl
     refine two_ (i:=4) (j:=8) (Ni:=some 99) (Nj:=some 15) #[true,true,true,true,true,false,false,false,false,false,false] #[true,true,true,true,false,false,false,false,true,false,false] rfl rfl rfl rfl (by kernel_rfl) (by decide) (by decide) (fun K hK=>?_) (fun K hK=>?_)
     ·skip
      refine ge_ Try.func47 #[.agg #[.slice A_15 u0.length c_15,.slice B_15 n0.length e_15],.agg #[.slice A_16 u1.length c_16,.slice B_16 n1.length e_16]] ?_
      with_reducible refine (impl_GluedOf.calls _ _ u0 _ _ n0 _ _ u1 _ _ n1 r1 r2 r3 _ ((Ins.log0 HG (List.Mem.tail _ (List.Mem.head _))).1) ((Ins.log0 HG (List.Mem.tail _ (List.Mem.head _))).2) ((Ins.log1 HG (List.Mem.tail _ (List.Mem.head _))).1) ((Ins.log1 HG (List.Mem.tail _ (List.Mem.head _))).2) ((Ins.log0 HG (List.Mem.head _)).1) ((Ins.log0 HG (List.Mem.head _)).2) ((Ins.log1 HG (List.Mem.head _)).1) ((Ins.log1 HG (List.Mem.head _)).2) HK15.out).mono ?_
      rintro e W1 ⟨v_,x_,rfl,hs,ht,hb⟩
      obtain ⟨A_17,c_17,ev⟩:=Kd.S_slice hs
      subst ev
      obtain ⟨B_17,e_17,ev⟩:=Kd.R_slice ht
      subst ev
      have HG1:=Ins.logic HG hs ht hb
      refine ⟨_,rfl,?_⟩
      refine hK.out _ _ ⟨(blk_cell (blk_below KBg1.out HG1.below) 0).trans rfl,(blk_cell (blk_below KBg1.out HG1.below) 1).trans rfl,(blk_cell (blk_below KBg2.out HG1.below) 0).trans rfl,(blk_cell (blk_below KBg2.out HG1.below) 1).trans rfl⟩ (fun hHeld=>?_)
      clear hK K
      refine norm_ (a':=?_) ?_ ?_
      rotate_left
      ·show Act.put _ (some 99) _=_
       simp only [Act.put,List.setIfInBounds_toArray,List.set_cons_zero,List.set_cons_succ,i64_w,i32_w]
       rfl
      refine pure_ (i:=5) (N:=some 94) (v:=?_) (a':=?_) #[true,true,true,true,true,true,false,false,false,false,false] rfl rfl (by kernel_rfl) (fun _ _ _ h=>h) (Or.inl ⟨by rfl,?_⟩) ?_ ?_
      rotate_left
      ·intro w'
       go_simp
       with_reducible rfl
      rotate_left
      ·simp only [Act.put,List.setIfInBounds_toArray,List.set_cons_zero,List.set_cons_succ,i64_w,i32_w]
       rfl
      refine pure_ (i:=6) (N:=some 100) (v:=?_) (a':=?_) #[true,true,true,true,true,true,true,false,false,false,false] rfl rfl (by kernel_rfl) (fun _ _ _ h=>h) (Or.inl ⟨by rfl,?_⟩) ?_ ?_
      rotate_left
      ·intro w'
       go_simp
       with_reducible rfl
      rotate_left
      ·simp only [Act.put,List.setIfInBounds_toArray,List.set_cons_zero,List.set_cons_succ,i64_w,i32_w]
       rfl
      refine pure_ (i:=7) (N:=some 101) (v:=?_) (a':=?_) #[true,true,true,true,true,true,true,true,false,false,false] rfl rfl (by kernel_rfl) (fun _ _ _ h=>h) (Or.inl ⟨by rfl,?_⟩) ?_ ?_
      rotate_left
      ·intro w'
       go_simp
       with_reducible rfl
      rotate_left
      ·simp only [Act.put,List.setIfInBounds_toArray,List.set_cons_zero,List.set_cons_succ,i64_w,i32_w]
       rfl
      exact norm_ (by first|(simp only [putAll,Act.put,List.setIfInBounds_toArray,List.set_cons_zero,List.set_cons_succ];done)|(simp only [putAll,Act.put,List.setIfInBounds_toArray,List.set_cons_zero,List.set_cons_succ];rfl)) (hJ1_3_4 ((A_15,c_15,B_15,e_15),(A_16,c_16,B_16,e_16),(A_17,c_17,B_17,e_17),g18) _ HG1)
     ·skip
      refine value_ (w1:=?_) (v:=?_) (by rfl) rfl ?_ ?_
      rotate_left 2
      ·go_simp
       constructor
       ·rfl
       ·rfl
      have HG1:=Ins.new HG #[.slice none 0 0,.slice none 0 0] 29
      refine hK.out _ _ ⟨(blk_cell (blk_below KBg1.out HG1.below) 0).trans rfl,(blk_cell (blk_below KBg1.out HG1.below) 1).trans rfl,(blk_cell (blk_below KBg2.out HG1.below) 0).trans rfl,(blk_cell (blk_below KBg2.out HG1.below) 1).trans rfl⟩ (fun hHeld=>?_)
      clear hK K
      refine norm_ (a':=?_) ?_ ?_
      rotate_left
      ·show Act.put _ (some 15) _=_
       simp only [Act.put,List.setIfInBounds_toArray,List.set_cons_zero,List.set_cons_succ,i64_w,i32_w]
       rfl
      exact norm_ (by first|(simp only [putAll,Act.put,List.setIfInBounds_toArray,List.set_cons_zero,List.set_cons_succ];done)|(simp only [putAll,Act.put,List.setIfInBounds_toArray,List.set_cons_zero,List.set_cons_succ];rfl)) (hJ1_3_8 ((A_15,c_15,B_15,e_15),(A_16,c_16,B_16,e_16),(A_17,c_17,B_17,e_17),_) _ HG1)
   ·skip
    rintro ⟨⟨A_15,c_15,B_15,e_15⟩,⟨A_16,c_16,B_16,e_16⟩,⟨A_17,c_17,B_17,e_17⟩,g18⟩ W HG
    refine norm_ (a':=?_) ?_ ?_
    rotate_left
    ·simp only [putAll,Act.put,List.setIfInBounds_toArray,List.set_cons_zero,List.set_cons_succ]
     rfl
    refine one_ (i:=4) (N:=some 99) #[true,true,true,true,true,false,false,false,true,false,false] rfl rfl (by kernel_rfl) (by decide) (fun K hK=>?_)
    refine ge_ Try.func47 #[.agg #[.slice A_15 u0.length c_15,.slice B_15 n0.length e_15],.agg #[.slice A_16 u1.length c_16,.slice B_16 n1.length e_16]] ?_
    with_reducible refine (impl_GluedOf.calls _ _ u0 _ _ n0 _ _ u1 _ _ n1 r1 r2 r3 _ ((Ins.log0 HG (List.Mem.tail _ (List.Mem.head _))).1) ((Ins.log0 HG (List.Mem.tail _ (List.Mem.head _))).2) ((Ins.log1 HG (List.Mem.tail _ (List.Mem.head _))).1) ((Ins.log1 HG (List.Mem.tail _ (List.Mem.head _))).2) ((Ins.log0 HG (List.Mem.head _)).1) ((Ins.log0 HG (List.Mem.head _)).2) ((Ins.log1 HG (List.Mem.head _)).1) ((Ins.log1 HG (List.Mem.head _)).2) HK15.out).mono ?_
    rintro e W1 ⟨v_,x_,rfl,hs,ht,hb⟩
    obtain ⟨A_17,c_17,ev⟩:=Kd.S_slice hs
    subst ev
    obtain ⟨B_17,e_17,ev⟩:=Kd.R_slice ht
    subst ev
    have HG1:=Ins.logic HG hs ht hb
    refine ⟨_,rfl,?_⟩
    refine hK.out _ _ ⟨(blk_cell (blk_below KBg1.out HG1.below) 0).trans rfl,(blk_cell (blk_below KBg1.out HG1.below) 1).trans rfl,(blk_cell (blk_below KBg2.out HG1.below) 0).trans rfl,(blk_cell (blk_below KBg2.out HG1.below) 1).trans rfl⟩ (fun hHeld=>?_)
    clear hK K
    refine norm_ (a':=?_) ?_ ?_
    rotate_left
    ·show Act.put _ (some 99) _=_
     simp only [Act.put,List.setIfInBounds_toArray,List.set_cons_zero,List.set_cons_succ,i64_w,i32_w]
     rfl
    refine pure_ (i:=5) (N:=some 94) (v:=?_) (a':=?_) #[true,true,true,true,true,true,false,false,true,false,false] rfl rfl (by kernel_rfl) (fun _ _ _ h=>h) (Or.inl ⟨by rfl,?_⟩) ?_ ?_
    rotate_left
    ·intro w'
     go_simp
     with_reducible rfl
    rotate_left
    ·simp only [Act.put,List.setIfInBounds_toArray,List.set_cons_zero,List.set_cons_succ,i64_w,i32_w]
     rfl
    refine pure_ (i:=6) (N:=some 100) (v:=?_) (a':=?_) #[true,true,true,true,true,true,true,false,true,false,false] rfl rfl (by kernel_rfl) (fun _ _ _ h=>h) (Or.inl ⟨by rfl,?_⟩) ?_ ?_
    rotate_left
    ·intro w'
     go_simp
     with_reducible rfl
    rotate_left
    ·simp only [Act.put,List.setIfInBounds_toArray,List.set_cons_zero,List.set_cons_succ,i64_w,i32_w]
     rfl
    refine pure_ (i:=7) (N:=some 101) (v:=?_) (a':=?_) #[true,true,true,true,true,true,true,true,true,false,false] rfl rfl (by kernel_rfl) (fun _ _ _ h=>h) (Or.inl ⟨by rfl,?_⟩) ?_ ?_
    rotate_left
    ·intro w'
     go_simp
     with_reducible rfl
    rotate_left
    ·simp only [Act.put,List.setIfInBounds_toArray,List.set_cons_zero,List.set_cons_succ,i64_w,i32_w]
     rfl
    exact norm_ (by first|(simp only [putAll,Act.put,List.setIfInBounds_toArray,List.set_cons_zero,List.set_cons_succ];done)|(simp only [putAll,Act.put,List.setIfInBounds_toArray,List.set_cons_zero,List.set_cons_succ];rfl)) (hJ1_3_4_8 ((A_15,c_15,B_15,e_15),(A_16,c_16,B_16,e_16),(A_17,c_17,B_17,e_17),g18) _ HG1)
  ·skip
   rintro ⟨⟨A_15,c_15,B_15,e_15⟩,⟨A_16,c_16,B_16,e_16⟩,⟨A_17,c_17,B_17,e_17⟩,g18⟩ W HG
   refine norm_ (a':=?_) ?_ ?_
   rotate_left
   ·simp only [putAll,Act.put,List.setIfInBounds_toArray,List.set_cons_zero,List.set_cons_succ]
    rfl
   refine one_ (i:=8) (N:=some 15) #[true,true,true,true,true,true,true,true,true,false,false] rfl rfl (by kernel_rfl) (by decide) (fun K hK=>?_)
   refine value_ (w1:=?_) (v:=?_) (by rfl) rfl ?_ ?_
   rotate_left 2
   ·go_simp
    constructor
    ·rfl
    ·rfl
   have HG1:=Ins.new HG #[.slice none 0 0,.slice none 0 0] 29
   refine hK.out _ _ ⟨(blk_cell (blk_below KBg1.out HG1.below) 0).trans rfl,(blk_cell (blk_below KBg1.out HG1.below) 1).trans rfl,(blk_cell (blk_below KBg2.out HG1.below) 0).trans rfl,(blk_cell (blk_below KBg2.out HG1.below) 1).trans rfl⟩ (fun hHeld=>?_)
   clear hK K
   refine norm_ (a':=?_) ?_ ?_
   rotate_left
   ·show Act.put _ (some 15) _=_
    simp only [Act.put,List.setIfInBounds_toArray,List.set_cons_zero,List.set_cons_succ,i64_w,i32_w]
    rfl
   exact norm_ (by first|(simp only [putAll,Act.put,List.setIfInBounds_toArray,List.set_cons_zero,List.set_cons_succ];done)|(simp only [putAll,Act.put,List.setIfInBounds_toArray,List.set_cons_zero,List.set_cons_succ];rfl)) (hJ1_3_4_8 ((A_15,c_15,B_15,e_15),(A_16,c_16,B_16,e_16),(A_17,c_17,B_17,e_17),_) _ HG1)
 rintro ⟨⟨A_15,c_15,B_15,e_15⟩,⟨A_16,c_16,B_16,e_16⟩,⟨A_17,c_17,B_17,e_17⟩,g18⟩ W HG
 have k6:=Ins.newblk HG
 have c60:W.cell? ⟨g18,0,none⟩=some (.slice none 0 0):=(blk_cell k6 0).trans rfl
 have c61:W.cell? ⟨g18,1,none⟩=some (.slice none 0 0):=(blk_cell k6 1).trans rfl
 have z60:W.frozen? ⟨g18,0,none⟩=false:=blk_frozen k6 0
 have z61:W.frozen? ⟨g18,1,none⟩=false:=blk_frozen k6 1
 refine norm_ (a':=?_) ?_ ?_
 rotate_left
 ·simp only [putAll,Act.put,List.setIfInBounds_toArray,List.set_cons_zero,List.set_cons_succ]
  rfl
 refine last_ (i:=9) (N:=none) #[true,true,true,true,true,true,true,true,true,true,false] rfl rfl (by kernel_rfl) (by decide) (fun K hK=>?_)
 refine skip_ (w1:=?_) (by rfl) rfl ?_ ?_
 rotate_left
 ·go_simp
  rfl
 refine hK.out _ _ ?_
 clear hK K
 refine pure_ (i:=10) (N:=some 16) (v:=?_) (a':=?_) #[true,true,true,true,true,true,true,true,true,true,true] rfl rfl (by kernel_rfl) (fun _ _ _ h=>h) (Or.inl ⟨by rfl,?_⟩) ?_ ?_
 rotate_left
 ·intro w'
  go_simp
  with_reducible rfl
 rotate_left
 ·simp only [Act.put,List.setIfInBounds_toArray,List.set_cons_zero,List.set_cons_succ,i64_w,i32_w]
  rfl
 refine done_ (by kernel_rfl) ?_
 have HP:=Ins.put (Ins.put HG 0 (.slice A_17 r1.length c_17) rfl) 1 (.slice B_17 r2.length e_17) rfl
 clear k6 c60 c61 z60 z61 HG
 generalize (World.setCell (World.setCell W ⟨g18,0,none⟩ (.slice A_17 r1.length c_17)) ⟨g18,1,none⟩ (.slice B_17 r2.length e_17))=wz2 at HP ⊢
 have HBz2:=Aside0.mk (below_step HBz1.out HP.below)
 have Hz_:=Aside0.mk (Kd.C_below HR0.out HP.below)
 clear HR0
 have HR0:=Hz_
 clear Hz_
 have Hz_:=Aside0.mk (Kd.C_below HS0.out HP.below)
 clear HS0
 have HS0:=Hz_
 clear Hz_
 have Hz_:=Aside0.mk (Kd.C_below HR1.out HP.below)
 clear HR1
 have HR1:=Hz_
 clear Hz_
 have Hz_:=Aside0.mk (Kd.C_below HS1.out HP.below)
 clear HS1
 have HS1:=Hz_
 clear Hz_
 have Hz_:=Aside0.mk (blk_below KBg2.out HP.below)
 clear KBg2
 have KBg2:=Hz_
 clear Hz_
 have Hz_:=Aside0.mk (blk_below KBg1.out HP.below)
 clear KBg1
 have KBg1:=Hz_
 clear Hz_
 have Hz_:=Aside0.mk (blk_below KBg6.out HP.below)
 clear KBg6
 have KBg6:=Hz_
 clear Hz_
 have Hz_:=Aside0.mk (Kd.C_below HQ5a.out HP.below)
 clear HQ5a
 have HQ5a:=Hz_
 clear Hz_
 have Hz_:=Aside0.mk (Kd.C_below HQ5c.out HP.below)
 clear HQ5c
 have HQ5c:=Hz_
 clear Hz_
 have HQ14a:=Aside0.mk (Ins.log0 HP (List.Mem.tail _ (List.Mem.tail _ (List.Mem.tail _ (List.Mem.head _))))).1
 have HQ14b:=Aside0.mk (Ins.log0 HP (List.Mem.tail _ (List.Mem.tail _ (List.Mem.tail _ (List.Mem.head _))))).2
 have HQ14c:=Aside0.mk (Ins.log1 HP (List.Mem.tail _ (List.Mem.tail _ (List.Mem.tail _ (List.Mem.head _))))).1
 have HQ14d:=Aside0.mk (Ins.log1 HP (List.Mem.tail _ (List.Mem.tail _ (List.Mem.tail _ (List.Mem.head _))))).2
 have HQ13a:=Aside0.mk (Ins.log0 HP (List.Mem.tail _ (List.Mem.tail _ (List.Mem.tail _ (List.Mem.tail _ (List.Mem.head _)))))).1
 have HQ13b:=Aside0.mk (Ins.log0 HP (List.Mem.tail _ (List.Mem.tail _ (List.Mem.tail _ (List.Mem.tail _ (List.Mem.head _)))))).2
 have HQ13c:=Aside0.mk (Ins.log1 HP (List.Mem.tail _ (List.Mem.tail _ (List.Mem.tail _ (List.Mem.tail _ (List.Mem.head _)))))).1
 have HQ13d:=Aside0.mk (Ins.log1 HP (List.Mem.tail _ (List.Mem.tail _ (List.Mem.tail _ (List.Mem.tail _ (List.Mem.head _)))))).2
 have KBg12:=Aside0.mk (Ins.blk HP (List.Mem.tail _ (List.Mem.tail _ (List.Mem.tail _ (List.Mem.tail _ (List.Mem.tail _ (List.Mem.head _)))))))
 have HQ11a:=Aside0.mk (Ins.log0 HP (List.Mem.tail _ (List.Mem.tail _ (List.Mem.tail _ (List.Mem.tail _ (List.Mem.tail _ (List.Mem.tail _ (List.Mem.head _)))))))).1
 have HQ11b:=Aside0.mk (Ins.log0 HP (List.Mem.tail _ (List.Mem.tail _ (List.Mem.tail _ (List.Mem.tail _ (List.Mem.tail _ (List.Mem.tail _ (List.Mem.head _)))))))).2
 have HQ11c:=Aside0.mk (Ins.log1 HP (List.Mem.tail _ (List.Mem.tail _ (List.Mem.tail _ (List.Mem.tail _ (List.Mem.tail _ (List.Mem.tail _ (List.Mem.head _)))))))).1
 have HQ11d:=Aside0.mk (Ins.log1 HP (List.Mem.tail _ (List.Mem.tail _ (List.Mem.tail _ (List.Mem.tail _ (List.Mem.tail _ (List.Mem.tail _ (List.Mem.head _)))))))).2
 have KBg10:=Aside0.mk (Ins.blk HP (List.Mem.tail _ (List.Mem.tail _ (List.Mem.tail _ (List.Mem.tail _ (List.Mem.tail _ (List.Mem.tail _ (List.Mem.tail _ (List.Mem.head _)))))))))
 have HQ9a:=Aside0.mk (Ins.log0 HP (List.Mem.tail _ (List.Mem.tail _ (List.Mem.tail _ (List.Mem.tail _ (List.Mem.tail _ (List.Mem.tail _ (List.Mem.tail _ (List.Mem.tail _ (List.Mem.head _)))))))))).1
 have HQ9b:=Aside0.mk (Ins.log0 HP (List.Mem.tail _ (List.Mem.tail _ (List.Mem.tail _ (List.Mem.tail _ (List.Mem.tail _ (List.Mem.tail _ (List.Mem.tail _ (List.Mem.tail _ (List.Mem.head _)))))))))).2
 have HQ9c:=Aside0.mk (Ins.log1 HP (List.Mem.tail _ (List.Mem.tail _ (List.Mem.tail _ (List.Mem.tail _ (List.Mem.tail _ (List.Mem.tail _ (List.Mem.tail _ (List.Mem.tail _ (List.Mem.head _)))))))))).1
 have HQ9d:=Aside0.mk (Ins.log1 HP (List.Mem.tail _ (List.Mem.tail _ (List.Mem.tail _ (List.Mem.tail _ (List.Mem.tail _ (List.Mem.tail _ (List.Mem.tail _ (List.Mem.tail _ (List.Mem.head _)))))))))).2
 have KBg8:=Aside0.mk (Ins.blk HP (List.Mem.tail _ (List.Mem.tail _ (List.Mem.tail _ (List.Mem.tail _ (List.Mem.tail _ (List.Mem.tail _ (List.Mem.tail _ (List.Mem.tail _ (List.Mem.tail _ (List.Mem.head _)))))))))))
 have HQ7a:=Aside0.mk (Ins.log0 HP (List.Mem.tail _ (List.Mem.tail _ (List.Mem.tail _ (List.Mem.tail _ (List.Mem.tail _ (List.Mem.tail _ (List.Mem.tail _ (List.Mem.tail _ (List.Mem.tail _ (List.Mem.tail _ (List.Mem.head _)))))))))))).1
 have HQ7b:=Aside0.mk (Ins.log0 HP (List.Mem.tail _ (List.Mem.tail _ (List.Mem.tail _ (List.Mem.tail _ (List.Mem.tail _ (List.Mem.tail _ (List.Mem.tail _ (List.Mem.tail _ (List.Mem.tail _ (List.Mem.tail _ (List.Mem.head _)))))))))))).2
 have HQ7c:=Aside0.mk (Ins.log1 HP (List.Mem.tail _ (List.Mem.tail _ (List.Mem.tail _ (List.Mem.tail _ (List.Mem.tail _ (List.Mem.tail _ (List.Mem.tail _ (List.Mem.tail _ (List.Mem.tail _ (List.Mem.tail _ (List.Mem.head _)))))))))))).1
 have HQ7d:=Aside0.mk (Ins.log1 HP (List.Mem.tail _ (List.Mem.tail _ (List.Mem.tail _ (List.Mem.tail _ (List.Mem.tail _ (List.Mem.tail _ (List.Mem.tail _ (List.Mem.tail _ (List.Mem.tail _ (List.Mem.tail _ (List.Mem.head _)))))))))))).2
 have HQ17a:=Aside0.mk (Ins.log0 HP (List.Mem.head _)).1
 have HQ17b:=Aside0.mk (Ins.log0 HP (List.Mem.head _)).2
 have HQ17c:=Aside0.mk (Ins.log1 HP (List.Mem.head _)).1
 have HQ17d:=Aside0.mk (Ins.log1 HP (List.Mem.head _)).2
 have KBg18:=Aside0.mk (Ins.newblk HP)
 clear HP HL
 have HL:=Aside0.mk (Live.start wz2)
 have hcwz2g20:wz2.cell? ⟨g2,0,none⟩=some (.slice A1 u1.length c1):=(blk_cell (blk_below KBg2.out HL.out.below) 0).trans rfl
 have hcwz2g21:wz2.cell? ⟨g2,1,none⟩=some (.slice B1 n1.length e1):=(blk_cell (blk_below KBg2.out HL.out.below) 1).trans rfl
 have hcwz2g10:wz2.cell? ⟨g1,0,none⟩=some (.slice A0 u0.length c0):=(blk_cell (blk_below KBg1.out HL.out.below) 0).trans rfl
 have hcwz2g11:wz2.cell? ⟨g1,1,none⟩=some (.slice B0 n0.length e0):=(blk_cell (blk_below KBg1.out HL.out.below) 1).trans rfl
 have hcwz2g60:wz2.cell? ⟨g6,0,none⟩=some (.slice A_5 r1.length c_5):=(blk_cell (blk_below KBg6.out HL.out.below) 0).trans rfl
 have hcwz2g61:wz2.cell? ⟨g6,1,none⟩=some (.slice B_5 r2.length e_5):=(blk_cell (blk_below KBg6.out HL.out.below) 1).trans rfl
 have hcwz2g120:wz2.cell? ⟨g12,0,none⟩=some (.slice A_11 r1.length c_11):=(blk_cell (blk_below KBg12.out HL.out.below) 0).trans rfl
 have hcwz2g121:wz2.cell? ⟨g12,1,none⟩=some (.slice B_11 r2.length e_11):=(blk_cell (blk_below KBg12.out HL.out.below) 1).trans rfl
 have hcwz2g100:wz2.cell? ⟨g10,0,none⟩=some (.slice A_9 u1.length c_9):=(blk_cell (blk_below KBg10.out HL.out.below) 0).trans rfl
 have hcwz2g101:wz2.cell? ⟨g10,1,none⟩=some (.slice B_9 n1.length e_9):=(blk_cell (blk_below KBg10.out HL.out.below) 1).trans rfl
 have hcwz2g80:wz2.cell? ⟨g8,0,none⟩=some (.slice A_7 u0.length c_7):=(blk_cell (blk_below KBg8.out HL.out.below) 0).trans rfl
 have hcwz2g81:wz2.cell? ⟨g8,1,none⟩=some (.slice B_7 n0.length e_7):=(blk_cell (blk_below KBg8.out HL.out.below) 1).trans rfl
 have hcwz2g180:wz2.cell? ⟨g18,0,none⟩=some (.slice A_17 r1.length c_17):=(blk_cell (blk_below KBg18.out HL.out.below) 0).trans rfl
 have hcwz2g181:wz2.cell? ⟨g18,1,none⟩=some (.slice B_17 r2.length e_17):=(blk_cell (blk_below KBg18.out HL.out.below) 1).trans rfl
 go_wp2_with (first
  | (clear s16;go_at_call 19;refine arm_ (rs':=[]) HL ?_;clear HL;intro HL;(with_reducible refine (laws_eqLogic.calls k16 _ _ r1 _ _ r2 _ _ r1 _ _ r2 true _ ?q1 ?q2 ?q3 ?q4 ?q5 ?q6 ?q7 ?q8 HK16.out).mono ?_);(case q1=>exact Live.came HL.out HQ17a.out);(case q2=>exact HQ17b.out);(case q3=>exact Live.came HL.out HQ17c.out);(case q4=>exact HQ17d.out);(case q5=>exact Live.came HL.out HQ5a.out);(case q6=>exact HQ5b.out);(case q7=>exact Live.came HL.out HQ5c.out);(case q8=>exact HQ5d.out);rintro e w21 ⟨rfl,hD⟩;have HL1:Aside0 (Live wz2 w21 []):=⟨HL.out.step hD⟩;clear HL hD;have HL:=HL1;clear HL1;have hcw21g20:w21.cell? ⟨g2,0,none⟩=some (.slice A1 u1.length c1):=(blk_cell (blk_below KBg2.out HL.out.below) 0).trans rfl;have hcw21g21:w21.cell? ⟨g2,1,none⟩=some (.slice B1 n1.length e1):=(blk_cell (blk_below KBg2.out HL.out.below) 1).trans rfl;have hcw21g10:w21.cell? ⟨g1,0,none⟩=some (.slice A0 u0.length c0):=(blk_cell (blk_below KBg1.out HL.out.below) 0).trans rfl;have hcw21g11:w21.cell? ⟨g1,1,none⟩=some (.slice B0 n0.length e0):=(blk_cell (blk_below KBg1.out HL.out.below) 1).trans rfl;have hcw21g60:w21.cell? ⟨g6,0,none⟩=some (.slice A_5 r1.length c_5):=(blk_cell (blk_below KBg6.out HL.out.below) 0).trans rfl;have hcw21g61:w21.cell? ⟨g6,1,none⟩=some (.slice B_5 r2.length e_5):=(blk_cell (blk_below KBg6.out HL.out.below) 1).trans rfl;have hcw21g120:w21.cell? ⟨g12,0,none⟩=some (.slice A_11 r1.length c_11):=(blk_cell (blk_below KBg12.out HL.out.below) 0).trans rfl;have hcw21g121:w21.cell? ⟨g12,1,none⟩=some (.slice B_11 r2.length e_11):=(blk_cell (blk_below KBg12.out HL.out.below) 1).trans rfl;have hcw21g100:w21.cell? ⟨g10,0,none⟩=some (.slice A_9 u1.length c_9):=(blk_cell (blk_below KBg10.out HL.out.below) 0).trans rfl;have hcw21g101:w21.cell? ⟨g10,1,none⟩=some (.slice B_9 n1.length e_9):=(blk_cell (blk_below KBg10.out HL.out.below) 1).trans rfl;have hcw21g80:w21.cell? ⟨g8,0,none⟩=some (.slice A_7 u0.length c_7):=(blk_cell (blk_below KBg8.out HL.out.below) 0).trans rfl;have hcw21g81:w21.cell? ⟨g8,1,none⟩=some (.slice B_7 n0.length e_7):=(blk_cell (blk_below KBg8.out HL.out.below) 1).trans rfl;have hcw21g180:w21.cell? ⟨g18,0,none⟩=some (.slice A_17 r1.length c_17):=(blk_cell (blk_below KBg18.out HL.out.below) 0).trans rfl;have hcw21g181:w21.cell? ⟨g18,1,none⟩=some (.slice B_17 r2.length e_17):=(blk_cell (blk_below KBg18.out HL.out.below) 1).trans rfl;have s17:=Aside0.mk True.intro)
  | (clear s17;go_at_call 36;refine arm_ (rs':=[]) HL ?_;clear HL;intro HL;(with_reducible refine (heldL_calls _ _ r1 _ _ r2.length 1 (by decide) HB3.out HL3.out ?q1 ?q2 ?q3 ?q4).mono ?_);(case q1=>exact Live.came HL.out HQ11a.out);(case q2=>exact HQ11b.out);(case q3=>exact Live.came HL.out HQ11c.out);(case q4=>exact HQ11d.out);rw [E3.out];rintro e w22 ⟨rfl,hD⟩;have HL1:Aside0 (Live wz2 w22 []):=⟨HL.out.step hD⟩;clear HL hD;have HL:=HL1;clear HL1;have hcw22g20:w22.cell? ⟨g2,0,none⟩=some (.slice A1 u1.length c1):=(blk_cell (blk_below KBg2.out HL.out.below) 0).trans rfl;have hcw22g21:w22.cell? ⟨g2,1,none⟩=some (.slice B1 n1.length e1):=(blk_cell (blk_below KBg2.out HL.out.below) 1).trans rfl;have hcw22g10:w22.cell? ⟨g1,0,none⟩=some (.slice A0 u0.length c0):=(blk_cell (blk_below KBg1.out HL.out.below) 0).trans rfl;have hcw22g11:w22.cell? ⟨g1,1,none⟩=some (.slice B0 n0.length e0):=(blk_cell (blk_below KBg1.out HL.out.below) 1).trans rfl;have hcw22g60:w22.cell? ⟨g6,0,none⟩=some (.slice A_5 r1.length c_5):=(blk_cell (blk_below KBg6.out HL.out.below) 0).trans rfl;have hcw22g61:w22.cell? ⟨g6,1,none⟩=some (.slice B_5 r2.length e_5):=(blk_cell (blk_below KBg6.out HL.out.below) 1).trans rfl;have hcw22g120:w22.cell? ⟨g12,0,none⟩=some (.slice A_11 r1.length c_11):=(blk_cell (blk_below KBg12.out HL.out.below) 0).trans rfl;have hcw22g121:w22.cell? ⟨g12,1,none⟩=some (.slice B_11 r2.length e_11):=(blk_cell (blk_below KBg12.out HL.out.below) 1).trans rfl;have hcw22g100:w22.cell? ⟨g10,0,none⟩=some (.slice A_9 u1.length c_9):=(blk_cell (blk_below KBg10.out HL.out.below) 0).trans rfl;have hcw22g101:w22.cell? ⟨g10,1,none⟩=some (.slice B_9 n1.length e_9):=(blk_cell (blk_below KBg10.out HL.out.below) 1).trans rfl;have hcw22g80:w22.cell? ⟨g8,0,none⟩=some (.slice A_7 u0.length c_7):=(blk_cell (blk_below KBg8.out HL.out.below) 0).trans rfl;have hcw22g81:w22.cell? ⟨g8,1,none⟩=some (.slice B_7 n0.length e_7):=(blk_cell (blk_below KBg8.out HL.out.below) 1).trans rfl;have hcw22g180:w22.cell? ⟨g18,0,none⟩=some (.slice A_17 r1.length c_17):=(blk_cell (blk_below KBg18.out HL.out.below) 0).trans rfl;have hcw22g181:w22.cell? ⟨g18,1,none⟩=some (.slice B_17 r2.length e_17):=(blk_cell (blk_below KBg18.out HL.out.below) 1).trans rfl;have s18:=Aside0.mk True.intro))
 go_ret
 exact ⟨rfl,below_step HBz2.out (by repeat (first|exact HL.out.below|apply pw_below_drewN|apply below_drew1))⟩
theorem FnExactGluedOf_calls (w:World) (A0:Option Addr) (c0:Nat) (u0:List (List Int)) (B0:Option Addr) (e0:Nat) (n0:List Int) (hr0:Kd.C (Kd.slice 3 (Kd.int .i64)) w A0 u0.length u0) (hc0:u0.length≤c0) (hs0:Kd.C (Kd.int .i64) w B0 n0.length n0) (hd0:n0.length≤e0) (A1:Option Addr) (c1:Nat) (u1:List (List Int)) (B1:Option Addr) (e1:Nat) (n1:List Int) (hr1:Kd.C (Kd.slice 3 (Kd.int .i64)) w A1 u1.length u1) (hc1:u1.length≤c1) (hs1:Kd.C (Kd.int .i64) w B1 n1.length n1) (hd1:n1.length≤e1) (hin0:(u0.length≤9223372036854775807∧∀ i (k:i<u0.length),u0[i].length≤9223372036854775807)∧n0.length≤9223372036854775807) (hin1:(u1.length≤9223372036854775807∧∀ i (k:i<u1.length),u1[i].length≤9223372036854775807)∧n1.length≤9223372036854775807):Calls Try.prog 14 #[.agg #[.slice A0 u0.length c0,.slice B0 n0.length e0],.agg #[.slice A1 u1.length c1,.slice B1 n1.length e1]] w fun e w'=>e = .returned (.bool true)∧Below w.heap.size w w':=by
 obtain ⟨x0,hev0,hle0,hof0⟩:=Q.szL_ev u0 n0 1048576 (by omega) (by omega) hin0
 obtain ⟨ks0,hks0⟩:=Ev.rounds hev0
 by_cases hxs0:x0<0
 ·exact FnExactGluedOf_neg0 w A0 c0 u0 B0 e0 n0 hr0 hc0 hs0 hd0 A1 c1 u1 B1 e1 n1 hr1 hc1 hs1 hd1  x0 ks0 hks0 hxs0
 obtain ⟨hl0,hz0,hn0⟩:=hof0 (by omega)
 obtain ⟨x1,hev1,hle1,hof1⟩:=Q.szL_ev u1 n1 x0 (by omega) (by omega) hin1
 obtain ⟨ks1,hks1⟩:=Ev.rounds hev1
 by_cases hxs1:x1<0
 ·exact FnExactGluedOf_neg1 w A0 c0 u0 B0 e0 n0 hr0 hc0 hs0 hd0 A1 c1 u1 B1 e1 n1 hr1 hc1 hs1 hd1  x0 ks0 hks0 hxs0 x1 ks1 hks1 hxs1
 obtain ⟨hl1,hz1,hn1⟩:=hof1 (by omega)
 exact FnExactGluedOf_all w A0 c0 u0 B0 e0 n0 hr0 hc0 hs0 hd0 A1 c1 u1 B1 e1 n1 hr1 hc1 hs1 hd1  x0 ks0 hks0 hxs0 x1 ks1 hks1 hxs1 hl0 hz0 hn0 hl1 hz1 hn1  (gluedF u0 n0 u1 n1).1 (gluedF u0 n0 u1 n1).2.1 (gluedF u0 n0 u1 n1).2.2 rfl (Q.few_glued u0 n0 u1 n1)
end Go.Proofs.Ytlkibgccgkhdmaa.P
