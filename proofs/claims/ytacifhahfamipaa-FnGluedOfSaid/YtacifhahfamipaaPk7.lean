/- 4 texts of this seat joined: walks, and the laws of what they compute. -/
import Derived.Test.YtacifhahfamipaaPk2
import Derived.Test.YtacifhahfamipaaPk6
import Derived.Test.YtacifhahfamipaaPk5
import Derived.Test.YtacifhahfamipaaPk4
import Derived.Test.YtacifhahfamipaaPk3
namespace Go.Proofs.Ytacifhahfamipaa.P
open Go.RowKit Go.Proofs.YtacifhahfamipaaW.PrintWords Go.Proofs.YtacifhahfamipaaW.PrintLast Go.Proofs.YtacifhahfamipaaW.PrintMore
set_option linter.unusedVariables false
set_option linter.unusedSimpArgs false
theorem sets_and : ∀ a:Nat,a<8→∀ b:Nat,b<8→(Go.bits .andNot .i64 (a:Int) (b:Int)==0)=decide (a &&& b=a):=by decide +kernel
theorem sets_not : ∀ t:Nat,t<4→∀ a:Nat,a<2 ^ t→Go.bits .andNot .i64 ((2 ^ t-1:Nat):Int) (a:Int)=((2 ^ t-1-a:Nat):Int):=by decide +kernel
set_option maxHeartbeats 4000000 in
set_option maxRecDepth 100000 in
theorem sets1 (a b:Nat) (ha:a<8) (hb:b<8) (w:World):Calls Try.prog 70 (#[.int .i64 a,.int .i64 b] ++ #[]) w fun e w2=>e = .returned (.bool (decide (a &&& b=a)))∧Drawn0 w w2:=by
 have H:=ak (sets_and a ha b hb)
 clear ha hb
 go_enter Try.func70,Try.ntmps70
 go_wp2
 go_ret
 exact ⟨(by rw [← H.out];rfl),Drawn0.refl _⟩
set_option maxHeartbeats 4000000 in
set_option maxRecDepth 100000 in
theorem sets2 {w:World} (t:Nat) (ht:t<4) (g a:Nat) (ha:a<2 ^ t) (hg:w.cell? ⟨g,0,none⟩=some (.int .i64 ((2 ^ t-1:Nat):Int))):Calls Try.prog 71 (#[.int .i64 a] ++ #[.pointer (some ⟨g,0,none⟩)]) w fun e w2=>e = .returned (.int .i64 ((2 ^ t-1-a:Nat):Int))∧Drawn0 w w2:=by
 have H:=ak (sets_not t ht a ha)
 clear ha ht
 generalize ((2 ^ t-1:Nat):Int)=m at H hg
 generalize ((2 ^ t-1-a:Nat):Int)=r at H ⊢
 go_enter Try.func71,Try.ntmps71
 go_wp2
 go_ret
 exact ⟨(by rw [← H.out];rfl),Drawn0.refl _⟩
set_option maxHeartbeats 8000000 in
set_option maxRecDepth 100000 in
theorem sets_at0 (w:World):Calls Try.prog 23 #[.int .i64 0] w fun e w'=>∃ v0_ v1_:Value,e = .returned (.tuple #[.agg #[v0_,v1_],.bool true])∧Kd.S (Kd.slice 3 (Kd.int .i64)) 25 w' w.heap.size (fun k_=>some k_≠(v1_:Value).ownBlock) v0_ (madeU 1 fun a b=>decide (a &&& b=a))∧Kd.R (Kd.int .i64) 3 w' w.heap.size (fun _=>True) v1_ (madeN 1 fun a=>((2 ^ 0-1-a:Nat):Int))∧Below w.heap.size w w':=by
 have hul:=Try.underlying27
 have HL:=ak (Live.start w)
 have s0:=ak True.intro
 go_enter Try.func23,Try.ntmps23
 go_wp2_with (first
  | (clear s0;(with_reducible refine gate_dst (N:=2) rfl ?_);refine armb_ (rs':=[]) HL (fun HL_=>?_);refine bx_ (N:=2) (cs:=#[.slice none 0 0,.slice none 0 0]) (t:=27) ?_;intro g0 hg w1 hbox hb;have HL1:Aside0 (Live w w1 [.box g0 #[.slice none 0 0,.slice none 0 0] 27]):=⟨HL_.out.box hb hg hbox⟩;clear HL HL_ hb hg hbox;have HL:=HL1;clear HL1;have hp0:w1.cell? ⟨g0,0,none⟩=some (.slice none 0 0):=Live.cell [] HL.out 0 rfl;have hp1:w1.cell? ⟨g0,1,none⟩=some (.slice none 0 0):=Live.cell [] HL.out 1 rfl;have hz0:=Live.frozen [] HL.out 0;have hz1:=Live.frozen [] HL.out 1;have s1:=ak True.intro)
  | (clear s1;(with_reducible refine gate_dst (N:=4) rfl ?_);refine armb_ (rs':=[.box g0 #[.slice none 0 0,.slice none 0 0] 27]) HL (fun HL_=>?_);refine box_event ?hg (N:=4) ?hd (cs:=#[.int .i64 0]) (t:=3) ?hr ?_;(case hd=>rfl);(case hg=>rfl);(case hr=>first|(go_simp;done)|(go_simp;rfl));intro g1 hg w2 hbox hb;have HL1:Aside0 (Live w w2 [.box g1 #[.int .i64 0] 3,.box g0 #[.slice none 0 0,.slice none 0 0] 27]):=⟨HL_.out.box hb hg hbox⟩;clear HL HL_ hb hg hbox;have HL:=HL1;clear HL1;have hq0:w2.cell? ⟨g1,0,none⟩=some (.int .i64 0):=Live.cell [] HL.out 0 rfl;have hy0:=Live.frozen [] HL.out 0;have s2:=ak True.intro)
  | (clear s2;go_at_call 63;refine arm_ (rs':=[.box g1 #[.int .i64 0] 3,.box g0 #[.slice none 0 0,.slice none 0 0] 27]) HL ?_;clear HL;intro HL;have HC:=ak (Live.cell [] HL.out 0 rfl);(with_reducible refine (made_int 1 1 rfl (by omega) 70 71 #[] #[.pointer (some ⟨g1,0,none⟩)] (enters_of Try.func70 (by kernel_rfl) rfl) (enters_of Try.func71 (by kernel_rfl) rfl) (fun a b=>decide (a &&& b=a)) (fun a=>((2 ^ 0-1-a:Nat):Int)) ?u1 ?u2).mono ?_);(case u1=>exact fun w' a b _ ha hb=>sets1 a b (by omega) (by omega) w');(case u2=>exact fun w' a hw ha=>sets2 0 (by omega) g1 a (by simpa using ha) ((hw.cell (World.block_lt_of_cell? _ _ HC.out)).trans HC.out));rintro e w3 ⟨v0,v1,rfl,hS,hR,hb⟩;obtain ⟨A0,c0,e0⟩:=Kd.S_slice hS;subst e0;obtain ⟨A1,c1,e1⟩:=Kd.R_slice hR;subst e1;have HL1:=ak (HL.out.logic hS hR hb);clear HL HC hS hR hb;have HL:=HL1;clear HL1;have hr0:w3.cell? ⟨g0,0,none⟩=some (.slice none 0 0):=Live.cell [_,_] HL.out 0 rfl;have hr1:w3.cell? ⟨g0,1,none⟩=some (.slice none 0 0):=Live.cell [_,_] HL.out 1 rfl;have hx0:=Live.frozen [_,_] HL.out 0;have hx1:=Live.frozen [_,_] HL.out 1;have s3:=ak True.intro))
 have HP:=Live.put [_,_] (Live.put [_,_] HL.out 0 (.slice A0 (madeU 1 fun a b=>decide (a &&& b=a)).length c0) rfl) 1 (.slice A1 (madeN 1 fun a=>((2 ^ 0-1-a:Nat):Int)).length c1) rfl
 refine bodyPost_ret (results_ct rfl _ _ g0 27 #[.slice A0 (madeU 1 fun a b=>decide (a &&& b=a)).length c0,.slice A1 (madeN 1 fun a=>((2 ^ 0-1-a:Nat):Int)).length c1] (0,0) _ rfl (Live.cells [_,_] HP) hul rfl (by kernel_rfl)) rfl ?_
 obtain ⟨q1,q2,q3⟩:=Live.ret HP
 exact ⟨_,_,rfl,q1,q2,q3⟩
set_option maxHeartbeats 8000000 in
set_option maxRecDepth 100000 in
theorem sets_at1 (w:World):Calls Try.prog 23 #[.int .i64 1] w fun e w'=>∃ v0_ v1_:Value,e = .returned (.tuple #[.agg #[v0_,v1_],.bool true])∧Kd.S (Kd.slice 3 (Kd.int .i64)) 25 w' w.heap.size (fun k_=>some k_≠(v1_:Value).ownBlock) v0_ (madeU 2 fun a b=>decide (a &&& b=a))∧Kd.R (Kd.int .i64) 3 w' w.heap.size (fun _=>True) v1_ (madeN 2 fun a=>((2 ^ 1-1-a:Nat):Int))∧Below w.heap.size w w':=by
 have hul:=Try.underlying27
 have HL:=ak (Live.start w)
 have s0:=ak True.intro
 go_enter Try.func23,Try.ntmps23
 go_wp2_with (first
  | (clear s0;(with_reducible refine gate_dst (N:=2) rfl ?_);refine armb_ (rs':=[]) HL (fun HL_=>?_);refine bx_ (N:=2) (cs:=#[.slice none 0 0,.slice none 0 0]) (t:=27) ?_;intro g0 hg w1 hbox hb;have HL1:Aside0 (Live w w1 [.box g0 #[.slice none 0 0,.slice none 0 0] 27]):=⟨HL_.out.box hb hg hbox⟩;clear HL HL_ hb hg hbox;have HL:=HL1;clear HL1;have hp0:w1.cell? ⟨g0,0,none⟩=some (.slice none 0 0):=Live.cell [] HL.out 0 rfl;have hp1:w1.cell? ⟨g0,1,none⟩=some (.slice none 0 0):=Live.cell [] HL.out 1 rfl;have hz0:=Live.frozen [] HL.out 0;have hz1:=Live.frozen [] HL.out 1;have s1:=ak True.intro)
  | (clear s1;(with_reducible refine gate_dst (N:=4) rfl ?_);refine armb_ (rs':=[.box g0 #[.slice none 0 0,.slice none 0 0] 27]) HL (fun HL_=>?_);refine box_event ?hg (N:=4) ?hd (cs:=#[.int .i64 0]) (t:=3) ?hr ?_;(case hd=>rfl);(case hg=>rfl);(case hr=>first|(go_simp;done)|(go_simp;rfl));intro g1 hg w2 hbox hb;have HL1:Aside0 (Live w w2 [.box g1 #[.int .i64 0] 3,.box g0 #[.slice none 0 0,.slice none 0 0] 27]):=⟨HL_.out.box hb hg hbox⟩;clear HL HL_ hb hg hbox;have HL:=HL1;clear HL1;have hq0:w2.cell? ⟨g1,0,none⟩=some (.int .i64 0):=Live.cell [] HL.out 0 rfl;have hy0:=Live.frozen [] HL.out 0;have s2:=ak True.intro)
  | (clear s2;go_at_call 63;refine arm_ (rs':=[.box g1 #[.int .i64 1] 3,.box g0 #[.slice none 0 0,.slice none 0 0] 27]) HL ?_;clear HL;intro HL;have HC:=ak (Live.cell [] HL.out 0 rfl);(with_reducible refine (made_int 2 2 rfl (by omega) 70 71 #[] #[.pointer (some ⟨g1,0,none⟩)] (enters_of Try.func70 (by kernel_rfl) rfl) (enters_of Try.func71 (by kernel_rfl) rfl) (fun a b=>decide (a &&& b=a)) (fun a=>((2 ^ 1-1-a:Nat):Int)) ?u1 ?u2).mono ?_);(case u1=>exact fun w' a b _ ha hb=>sets1 a b (by omega) (by omega) w');(case u2=>exact fun w' a hw ha=>sets2 1 (by omega) g1 a (by simpa using ha) ((hw.cell (World.block_lt_of_cell? _ _ HC.out)).trans HC.out));rintro e w3 ⟨v0,v1,rfl,hS,hR,hb⟩;obtain ⟨A0,c0,e0⟩:=Kd.S_slice hS;subst e0;obtain ⟨A1,c1,e1⟩:=Kd.R_slice hR;subst e1;have HL1:=ak (HL.out.logic hS hR hb);clear HL HC hS hR hb;have HL:=HL1;clear HL1;have hr0:w3.cell? ⟨g0,0,none⟩=some (.slice none 0 0):=Live.cell [_,_] HL.out 0 rfl;have hr1:w3.cell? ⟨g0,1,none⟩=some (.slice none 0 0):=Live.cell [_,_] HL.out 1 rfl;have hx0:=Live.frozen [_,_] HL.out 0;have hx1:=Live.frozen [_,_] HL.out 1;have s3:=ak True.intro))
 have HP:=Live.put [_,_] (Live.put [_,_] HL.out 0 (.slice A0 (madeU 2 fun a b=>decide (a &&& b=a)).length c0) rfl) 1 (.slice A1 (madeN 2 fun a=>((2 ^ 1-1-a:Nat):Int)).length c1) rfl
 refine bodyPost_ret (results_ct rfl _ _ g0 27 #[.slice A0 (madeU 2 fun a b=>decide (a &&& b=a)).length c0,.slice A1 (madeN 2 fun a=>((2 ^ 1-1-a:Nat):Int)).length c1] (0,0) _ rfl (Live.cells [_,_] HP) hul rfl (by kernel_rfl)) rfl ?_
 obtain ⟨q1,q2,q3⟩:=Live.ret HP
 exact ⟨_,_,rfl,q1,q2,q3⟩
set_option maxHeartbeats 8000000 in
set_option maxRecDepth 100000 in
theorem sets_at2 (w:World):Calls Try.prog 23 #[.int .i64 2] w fun e w'=>∃ v0_ v1_:Value,e = .returned (.tuple #[.agg #[v0_,v1_],.bool true])∧Kd.S (Kd.slice 3 (Kd.int .i64)) 25 w' w.heap.size (fun k_=>some k_≠(v1_:Value).ownBlock) v0_ (madeU 4 fun a b=>decide (a &&& b=a))∧Kd.R (Kd.int .i64) 3 w' w.heap.size (fun _=>True) v1_ (madeN 4 fun a=>((2 ^ 2-1-a:Nat):Int))∧Below w.heap.size w w':=by
 have hul:=Try.underlying27
 have HL:=ak (Live.start w)
 have s0:=ak True.intro
 go_enter Try.func23,Try.ntmps23
 go_wp2_with (first
  | (clear s0;(with_reducible refine gate_dst (N:=2) rfl ?_);refine armb_ (rs':=[]) HL (fun HL_=>?_);refine bx_ (N:=2) (cs:=#[.slice none 0 0,.slice none 0 0]) (t:=27) ?_;intro g0 hg w1 hbox hb;have HL1:Aside0 (Live w w1 [.box g0 #[.slice none 0 0,.slice none 0 0] 27]):=⟨HL_.out.box hb hg hbox⟩;clear HL HL_ hb hg hbox;have HL:=HL1;clear HL1;have hp0:w1.cell? ⟨g0,0,none⟩=some (.slice none 0 0):=Live.cell [] HL.out 0 rfl;have hp1:w1.cell? ⟨g0,1,none⟩=some (.slice none 0 0):=Live.cell [] HL.out 1 rfl;have hz0:=Live.frozen [] HL.out 0;have hz1:=Live.frozen [] HL.out 1;have s1:=ak True.intro)
  | (clear s1;(with_reducible refine gate_dst (N:=4) rfl ?_);refine armb_ (rs':=[.box g0 #[.slice none 0 0,.slice none 0 0] 27]) HL (fun HL_=>?_);refine box_event ?hg (N:=4) ?hd (cs:=#[.int .i64 0]) (t:=3) ?hr ?_;(case hd=>rfl);(case hg=>rfl);(case hr=>first|(go_simp;done)|(go_simp;rfl));intro g1 hg w2 hbox hb;have HL1:Aside0 (Live w w2 [.box g1 #[.int .i64 0] 3,.box g0 #[.slice none 0 0,.slice none 0 0] 27]):=⟨HL_.out.box hb hg hbox⟩;clear HL HL_ hb hg hbox;have HL:=HL1;clear HL1;have hq0:w2.cell? ⟨g1,0,none⟩=some (.int .i64 0):=Live.cell [] HL.out 0 rfl;have hy0:=Live.frozen [] HL.out 0;have s2:=ak True.intro)
  | (clear s2;go_at_call 63;refine arm_ (rs':=[.box g1 #[.int .i64 3] 3,.box g0 #[.slice none 0 0,.slice none 0 0] 27]) HL ?_;clear HL;intro HL;have HC:=ak (Live.cell [] HL.out 0 rfl);(with_reducible refine (made_int 4 4 rfl (by omega) 70 71 #[] #[.pointer (some ⟨g1,0,none⟩)] (enters_of Try.func70 (by kernel_rfl) rfl) (enters_of Try.func71 (by kernel_rfl) rfl) (fun a b=>decide (a &&& b=a)) (fun a=>((2 ^ 2-1-a:Nat):Int)) ?u1 ?u2).mono ?_);(case u1=>exact fun w' a b _ ha hb=>sets1 a b (by omega) (by omega) w');(case u2=>exact fun w' a hw ha=>sets2 2 (by omega) g1 a (by simpa using ha) ((hw.cell (World.block_lt_of_cell? _ _ HC.out)).trans HC.out));rintro e w3 ⟨v0,v1,rfl,hS,hR,hb⟩;obtain ⟨A0,c0,e0⟩:=Kd.S_slice hS;subst e0;obtain ⟨A1,c1,e1⟩:=Kd.R_slice hR;subst e1;have HL1:=ak (HL.out.logic hS hR hb);clear HL HC hS hR hb;have HL:=HL1;clear HL1;have hr0:w3.cell? ⟨g0,0,none⟩=some (.slice none 0 0):=Live.cell [_,_] HL.out 0 rfl;have hr1:w3.cell? ⟨g0,1,none⟩=some (.slice none 0 0):=Live.cell [_,_] HL.out 1 rfl;have hx0:=Live.frozen [_,_] HL.out 0;have hx1:=Live.frozen [_,_] HL.out 1;have s3:=ak True.intro))
 have HP:=Live.put [_,_] (Live.put [_,_] HL.out 0 (.slice A0 (madeU 4 fun a b=>decide (a &&& b=a)).length c0) rfl) 1 (.slice A1 (madeN 4 fun a=>((2 ^ 2-1-a:Nat):Int)).length c1) rfl
 refine bodyPost_ret (results_ct rfl _ _ g0 27 #[.slice A0 (madeU 4 fun a b=>decide (a &&& b=a)).length c0,.slice A1 (madeN 4 fun a=>((2 ^ 2-1-a:Nat):Int)).length c1] (0,0) _ rfl (Live.cells [_,_] HP) hul rfl (by kernel_rfl)) rfl ?_
 obtain ⟨q1,q2,q3⟩:=Live.ret HP
 exact ⟨_,_,rfl,q1,q2,q3⟩
set_option maxHeartbeats 8000000 in
set_option maxRecDepth 100000 in
theorem sets_at3 (w:World):Calls Try.prog 23 #[.int .i64 3] w fun e w'=>∃ v0_ v1_:Value,e = .returned (.tuple #[.agg #[v0_,v1_],.bool true])∧Kd.S (Kd.slice 3 (Kd.int .i64)) 25 w' w.heap.size (fun k_=>some k_≠(v1_:Value).ownBlock) v0_ (madeU 8 fun a b=>decide (a &&& b=a))∧Kd.R (Kd.int .i64) 3 w' w.heap.size (fun _=>True) v1_ (madeN 8 fun a=>((2 ^ 3-1-a:Nat):Int))∧Below w.heap.size w w':=by
 have hul:=Try.underlying27
 have HL:=ak (Live.start w)
 have s0:=ak True.intro
 go_enter Try.func23,Try.ntmps23
 go_wp2_with (first
  | (clear s0;(with_reducible refine gate_dst (N:=2) rfl ?_);refine armb_ (rs':=[]) HL (fun HL_=>?_);refine bx_ (N:=2) (cs:=#[.slice none 0 0,.slice none 0 0]) (t:=27) ?_;intro g0 hg w1 hbox hb;have HL1:Aside0 (Live w w1 [.box g0 #[.slice none 0 0,.slice none 0 0] 27]):=⟨HL_.out.box hb hg hbox⟩;clear HL HL_ hb hg hbox;have HL:=HL1;clear HL1;have hp0:w1.cell? ⟨g0,0,none⟩=some (.slice none 0 0):=Live.cell [] HL.out 0 rfl;have hp1:w1.cell? ⟨g0,1,none⟩=some (.slice none 0 0):=Live.cell [] HL.out 1 rfl;have hz0:=Live.frozen [] HL.out 0;have hz1:=Live.frozen [] HL.out 1;have s1:=ak True.intro)
  | (clear s1;(with_reducible refine gate_dst (N:=4) rfl ?_);refine armb_ (rs':=[.box g0 #[.slice none 0 0,.slice none 0 0] 27]) HL (fun HL_=>?_);refine box_event ?hg (N:=4) ?hd (cs:=#[.int .i64 0]) (t:=3) ?hr ?_;(case hd=>rfl);(case hg=>rfl);(case hr=>first|(go_simp;done)|(go_simp;rfl));intro g1 hg w2 hbox hb;have HL1:Aside0 (Live w w2 [.box g1 #[.int .i64 0] 3,.box g0 #[.slice none 0 0,.slice none 0 0] 27]):=⟨HL_.out.box hb hg hbox⟩;clear HL HL_ hb hg hbox;have HL:=HL1;clear HL1;have hq0:w2.cell? ⟨g1,0,none⟩=some (.int .i64 0):=Live.cell [] HL.out 0 rfl;have hy0:=Live.frozen [] HL.out 0;have s2:=ak True.intro)
  | (clear s2;go_at_call 63;refine arm_ (rs':=[.box g1 #[.int .i64 7] 3,.box g0 #[.slice none 0 0,.slice none 0 0] 27]) HL ?_;clear HL;intro HL;have HC:=ak (Live.cell [] HL.out 0 rfl);(with_reducible refine (made_int 8 8 rfl (by omega) 70 71 #[] #[.pointer (some ⟨g1,0,none⟩)] (enters_of Try.func70 (by kernel_rfl) rfl) (enters_of Try.func71 (by kernel_rfl) rfl) (fun a b=>decide (a &&& b=a)) (fun a=>((2 ^ 3-1-a:Nat):Int)) ?u1 ?u2).mono ?_);(case u1=>exact fun w' a b _ ha hb=>sets1 a b (by omega) (by omega) w');(case u2=>exact fun w' a hw ha=>sets2 3 (by omega) g1 a (by simpa using ha) ((hw.cell (World.block_lt_of_cell? _ _ HC.out)).trans HC.out));rintro e w3 ⟨v0,v1,rfl,hS,hR,hb⟩;obtain ⟨A0,c0,e0⟩:=Kd.S_slice hS;subst e0;obtain ⟨A1,c1,e1⟩:=Kd.R_slice hR;subst e1;have HL1:=ak (HL.out.logic hS hR hb);clear HL HC hS hR hb;have HL:=HL1;clear HL1;have hr0:w3.cell? ⟨g0,0,none⟩=some (.slice none 0 0):=Live.cell [_,_] HL.out 0 rfl;have hr1:w3.cell? ⟨g0,1,none⟩=some (.slice none 0 0):=Live.cell [_,_] HL.out 1 rfl;have hx0:=Live.frozen [_,_] HL.out 0;have hx1:=Live.frozen [_,_] HL.out 1;have s3:=ak True.intro))
 have HP:=Live.put [_,_] (Live.put [_,_] HL.out 0 (.slice A0 (madeU 8 fun a b=>decide (a &&& b=a)).length c0) rfl) 1 (.slice A1 (madeN 8 fun a=>((2 ^ 3-1-a:Nat):Int)).length c1) rfl
 refine bodyPost_ret (results_ct rfl _ _ g0 27 #[.slice A0 (madeU 8 fun a b=>decide (a &&& b=a)).length c0,.slice A1 (madeN 8 fun a=>((2 ^ 3-1-a:Nat):Int)).length c1] (0,0) _ rfl (Live.cells [_,_] HP) hul rfl (by kernel_rfl)) rfl ?_
 obtain ⟨q1,q2,q3⟩:=Live.ret HP
 exact ⟨_,_,rfl,q1,q2,q3⟩
set_option maxHeartbeats 8000000 in
set_option maxRecDepth 100000 in
theorem sets_none (n:Int) (hn : ¬(0≤n∧n≤3)) (w:World):Calls Try.prog 23 #[.int .i64 n] w fun e w'=>∃ v0_ v1_:Value,e = .returned (.tuple #[.agg #[v0_,v1_],.bool false])∧Kd.S (Kd.slice 3 (Kd.int .i64)) 25 w' w.heap.size (fun k_=>some k_≠(v1_:Value).ownBlock) v0_ []∧Kd.R (Kd.int .i64) 3 w' w.heap.size (fun _=>True) v1_ []∧Below w.heap.size w w':=by
 have hul:=Try.underlying27
 have HL:=ak (Live.start w)
 have s0:=ak True.intro
 by_cases k:n<0
 ·
  have k1:decide (n<0)=true:=dT_ k
  clear hn k
  go_enter Try.func23,Try.ntmps23
  go_wp2_with (first
   | (clear s0;(with_reducible refine gate_dst (N:=2) rfl ?_);refine armb_ (rs':=[]) HL (fun HL_=>?_);refine bx_ (N:=2) (cs:=#[.slice none 0 0,.slice none 0 0]) (t:=27) ?_;intro g0 hg w1 hbox hb;have HL1:Aside0 (Live w w1 [.box g0 #[.slice none 0 0,.slice none 0 0] 27]):=⟨HL_.out.box hb hg hbox⟩;clear HL HL_ hb hg hbox;have HL:=HL1;clear HL1;have hp0:w1.cell? ⟨g0,0,none⟩=some (.slice none 0 0):=Live.cell [] HL.out 0 rfl;have hp1:w1.cell? ⟨g0,1,none⟩=some (.slice none 0 0):=Live.cell [] HL.out 1 rfl;have hz0:=Live.frozen [] HL.out 0;have hz1:=Live.frozen [] HL.out 1;have s1:=ak True.intro))
  have HP:=Live.put [] (Live.put [] HL.out 0 (.slice none 0 0) rfl) 1 (.slice none 0 0) rfl
  refine bodyPost_ret (results_ct rfl _ _ g0 27 #[.slice none 0 0,.slice none 0 0] (0,0) _ rfl (Live.cells [] HP) hul rfl (by kernel_rfl)) rfl ?_
  exact ⟨_,_,rfl,Kd.S_nil _ _ _ _ _,Kd.R_nil _ _ _ _ _,HP.below⟩
 have k1:decide (n<0)=false:=dF_ k
 have k2:decide (n>3)=true:=dT_ (by omega)
 have k3:decide (3<n)=true:=dT_ (by omega)
 clear hn k
 go_enter Try.func23,Try.ntmps23
 go_wp2_with (first
  | (clear s0;(with_reducible refine gate_dst (N:=2) rfl ?_);refine armb_ (rs':=[]) HL (fun HL_=>?_);refine bx_ (N:=2) (cs:=#[.slice none 0 0,.slice none 0 0]) (t:=27) ?_;intro g0 hg w1 hbox hb;have HL1:Aside0 (Live w w1 [.box g0 #[.slice none 0 0,.slice none 0 0] 27]):=⟨HL_.out.box hb hg hbox⟩;clear HL HL_ hb hg hbox;have HL:=HL1;clear HL1;have hp0:w1.cell? ⟨g0,0,none⟩=some (.slice none 0 0):=Live.cell [] HL.out 0 rfl;have hp1:w1.cell? ⟨g0,1,none⟩=some (.slice none 0 0):=Live.cell [] HL.out 1 rfl;have hz0:=Live.frozen [] HL.out 0;have hz1:=Live.frozen [] HL.out 1;have s1:=ak True.intro))
 have HP:=Live.put [] (Live.put [] HL.out 0 (.slice none 0 0) rfl) 1 (.slice none 0 0) rfl
 refine bodyPost_ret (results_ct rfl _ _ g0 27 #[.slice none 0 0,.slice none 0 0] (0,0) _ rfl (Live.cells [] HP) hul rfl (by kernel_rfl)) rfl ?_
 exact ⟨_,_,rfl,Kd.S_nil _ _ _ _ _,Kd.R_nil _ _ _ _ _,HP.below⟩
theorem setsOf_core (n:Int) (w:World) (r1:List (List Int)) (r2:List Int) (r3:Bool) (h:setsF n=(r1,r2,r3)) :
 Calls Try.prog 23 #[.int .i64 n] w fun e w'=>∃ v0_ v1_:Value,e = .returned (.tuple #[.agg #[v0_,v1_],.bool r3])∧Kd.S (Kd.slice 3 (Kd.int .i64)) 25 w' w.heap.size (fun k_=>some k_≠(v1_:Value).ownBlock) v0_ r1∧Kd.R (Kd.int .i64) 3 w' w.heap.size (fun _=>True) v1_ r2∧Below w.heap.size w w':=by
 by_cases hn:0≤n∧n≤3
 ·
  unfold setsF at h
  rw [if_pos hn] at h
  obtain ⟨e1,e23⟩:=Prod.mk.inj h
  obtain ⟨e2,e3⟩:=Prod.mk.inj e23
  subst e1
  subst e2
  subst e3
  have:n=0∨n=1∨n=2∨n=3:=by omega
  rcases this with rfl|rfl|rfl|rfl
  ·
   exact sets_at0 w
  ·
   exact sets_at1 w
  ·
   exact sets_at2 w
  exact sets_at3 w
 unfold setsF at h
 rw [if_neg hn] at h
 obtain ⟨e1,e23⟩:=Prod.mk.inj h
 obtain ⟨e2,e3⟩:=Prod.mk.inj e23
 subst e1
 subst e2
 subst e3
 exact sets_none n hn w
end Go.Proofs.Ytacifhahfamipaa.P

namespace Go.Proofs.Ytacifhahfamipaa.P
open Go.RowKit Go.Proofs.YtacifhahfamipaaW.PrintWords Go.Proofs.YtacifhahfamipaaW.PrintLast Go.Proofs.YtacifhahfamipaaW.PrintMore Go.Proofs.Cl
set_option linter.unusedVariables false
theorem impl_SetsOf.calls (a0:Int) (r1:List (List Int)) (r2:List Int) (r3:Bool) (w:World) (h:impl_SetsOf.f a0=some (r1,r2,r3)) :
    Calls Try.prog 23 #[.int .i64 a0] w fun e w'=>∃ v0_ v1_:Value,e = .returned (.tuple #[.agg #[v0_,v1_],.bool r3])∧Kd.S (Kd.slice 3 (Kd.int .i64)) 25 w' w.heap.size (fun k_=>some k_≠(v1_:Value).ownBlock) v0_ r1∧Kd.R (Kd.int .i64) 3 w' w.heap.size (fun _=>True) v1_ r2∧Below w.heap.size w w':=setsOf_core a0 w  r1 r2 r3 (Option.some.inj h)
set_option linter.unusedSimpArgs false
structure GsSt (w W:World) (g:Nat) (cu cn vu vn:Value) (u:List (List Int)) (nt:List Int):Prop where
 below:Below w.heap.size w W
 ge:w.heap.size≤g
 box:W.heap[g]?=some (.cells #[cu,cn] 27 (0,0))
 A:Kd.S (Kd.slice 3 (Kd.int .i64)) 25 W w.heap.size (fun k=>some k≠vn.ownBlock) vu u
 B:Kd.R (Kd.int .i64) 3 W w.heap.size (fun _=>True) vn nt
namespace GsSt
variable {w W w1:World} {g:Nat} {cu cn vu vn:Value} {u:List (List Int)} {nt:List Int}
theorem up (G:GsSt w W g cu cn vu vn u nt) (h:Below W.heap.size W w1):GsSt w w1 g cu cn vu vn u nt:=⟨below_step G.below h,G.ge,blk_below G.box h,Kd.S_below G.A h,Kd.R_below G.B h⟩
theorem alloc (G:GsSt w W g cu cn vu vn u nt) (x:Obj):GsSt w (W.alloc x) g cu cn vu vn u nt:=G.up (below_alloc (Below.refl _ _) x)
theorem setU (G:GsSt w W g cu cn vu vn u nt) (x:Value):GsSt w (W.setCell ⟨g,0,none⟩ x) g x cn vu vn u nt:=⟨below_set G.below G.ge,G.ge,blk_put G.box 0 _ rfl,Kd.S_set G.A G.box (by decide) 0 _,Kd.R_set G.B G.box (by decide) 0 _⟩
theorem setN (G:GsSt w W g cu cn vu vn u nt) (x:Value):GsSt w (W.setCell ⟨g,1,none⟩ x) g cu x vu vn u nt:=⟨below_set G.below G.ge,G.ge,blk_put G.box 1 _ rfl,Kd.S_set G.A G.box (by decide) 1 _,Kd.R_set G.B G.box (by decide) 1 _⟩
theorem grownU {v1:Value} {u1:List (List Int)} (G:GsSt w W g cu cn vu vn u nt) (hS:Kd.S (Kd.slice 3 (Kd.int .i64)) 25 w1 w.heap.size (fun k=>some k≠vn.ownBlock) v1 u1) (hB:Below w.heap.size w w1)
 (hg:W.grownBy w1 vu.ownBlock) (hat:v1.ownBlock=vu.ownBlock∨∃ b,v1.ownBlock=some b∧W.heap.size≤b):GsSt w w1 g cu cn v1 vn u1 nt :=
 ⟨hB,G.ge,blk_grown G.box hg (Kd.S_ne G.A G.box (by decide)),hS,Kd.R_mono (Kd.R_after (ok:=fun _=>True) (Kd.R_apart' G.B (Kd.S_typed G.A) (by decide)) hg hat) (fun _ _=>trivial)⟩
theorem grownN {v1:Value} {n1:List Int} (G:GsSt w W g cu cn vu vn u nt) (hR:Kd.R (Kd.int .i64) 3 w1 w.heap.size (fun _=>True) v1 n1) (hB:Below w.heap.size w w1)
 (hg:W.grownBy w1 vn.ownBlock) (hat:v1.ownBlock=vn.ownBlock∨∃ b,v1.ownBlock=some b∧W.heap.size≤b):GsSt w w1 g cu cn vu v1 u n1 :=
 ⟨hB,G.ge,blk_grown G.box hg (Kd.R_ne G.B G.box (by decide)),Kd.S_mono (Kd.S_after (ok:=fun _=>True) (Kd.S_mono G.A (fun _ hk=>⟨trivial,hk⟩)) hg hat) (fun _ hk=>hk.2),hR⟩
theorem cell0 (G:GsSt w W g cu cn vu vn u nt):W.cell? ⟨g,0,none⟩=some cu:=(blk_cell G.box 0).trans rfl
theorem cell1 (G:GsSt w W g cu cn vu vn u nt):W.cell? ⟨g,1,none⟩=some cn:=(blk_cell G.box 1).trans rfl
end GsSt
theorem sum3_w {a b:Nat} (ha:a≤1048576) (hb:b≤1048576):wrap64 (wrap64 ((a:Int)+(b:Int))+2)=((a+b+2:Nat):Int)∧wrap64 ((a:Int)+(b:Int)+2)=((a+b+2:Nat):Int):=by
 have e:wrap64 ((a:Int)+(b:Int))=(a:Int)+(b:Int):=Q.wrap_of _ (by omega) (by omega)
 have e2:wrap64 ((a:Int)+(b:Int)+2)=((a+b+2:Nat):Int):=by
  rw [Q.wrap_of _ (by omega) (by omega)]
  omega
 exact ⟨(by rw [e];exact e2),e2⟩
structure GlW (W:World) (b:Nat) (A:Option Addr) (cA:Nat) (F:List Int) (Au:Option Addr) (cu:Nat) (u:List (List Int)) (An:Option Addr) (cn:Nat) (nt:List Int):Prop where
 c0:W.cell? ⟨b,0,none⟩=some (.slice Au u.length cu)
 c1:W.cell? ⟨b,1,none⟩=some (.slice An nt.length cn)
 F_:Kd.C (Kd.int .i64) W A F.length F
 U:Kd.C (Kd.slice 3 (Kd.int .i64)) W Au u.length u
 N:Kd.C (Kd.int .i64) W An nt.length nt
namespace GlW
variable {W W1:World} {b cA cu cn:Nat} {A Au An:Option Addr} {F nt:List Int} {u:List (List Int)}
theorem cell_ {a:Addr} {x:Value} (h:W.cell? a=some x) (hb:Below W.heap.size W W1):W1.cell? a=some x:=(hb.cell (World.block_lt_of_cell? _ _ h)).trans h
theorem below (R:GlW W b A cA F Au cu u An cn nt) (hb:Below W.heap.size W W1):GlW W1 b A cA F Au cu u An cn nt:=⟨cell_ R.c0 hb,cell_ R.c1 hb,Kd.C_below R.F_ hb,Kd.C_below R.U hb,Kd.C_below R.N hb⟩
theorem reads (R:GlW W b A cA F Au cu u An cn nt) (hl:OL u nt) {p q X Y:Nat} (hp:p<F.length) (hq:q<F.length) (eX:F.getD p 0=(X:Int)) (eY:F.getD q 0=(Y:Int)) (hX:X<u.length) (hY:Y<u.length) :
 ∃ (al ad ar an:Addr) (c1:Nat) (v z:Int),A=some al∧Au=some ad∧An=some an∧rdN u X Y=v∧rd nt (X:Int)=z∧W.cell? (al.add p)=some (.int .i64 (X:Int))∧W.cell? (al.add q)=some (.int .i64 (Y:Int))∧W.cell? (ad.add X)=some (.slice (some ar) u.length c1)∧W.cell? (ar.add Y)=some (.int .i64 v)∧W.cell? (an.add X)=some (.int .i64 z):=by
 obtain ⟨al,e0,k0⟩:=Kd.at_int R.F_ (p:Int) (by omega) (by omega)
 obtain ⟨al2,e0',k1⟩:=Kd.at_int R.F_ (q:Int) (by omega) (by omega)
 rw [e0] at e0'
 injection e0' with e0'
 subst e0'
 obtain ⟨ad,A0,c1,e1,k2,k3,k4⟩:=at_L1 R.U (X:Int) (by omega) (by omega)
 have hr:(rd_L1 u (X:Int)).length=u.length:=by rw [Q.row_nat];exact hl.1.1.row hX
 rw [hr] at k2 k4
 obtain ⟨ar,e2,k5⟩:=Kd.at_int k4 (Y:Int) (by omega) (by omega)
 obtain ⟨an,e3,k6⟩:=Kd.at_int R.N (X:Int) (by omega) (by rw [hl.2.1];omega)
 subst e2
 have q0:rd F (p:Int)=(X:Int):=(Q.rd_nat F p).trans eX
 have q1:rd F (q:Int)=(Y:Int):=(Q.rd_nat F q).trans eY
 rw [q0,Int.toNat_natCast] at k0
 rw [q1,Int.toNat_natCast] at k1
 rw [Int.toNat_natCast] at k2 k5 k6
 exact ⟨al,ad,ar,an,c1,_,_,e0,e1,e3,rfl,rfl,k0,k1,k2,(by rw [k5,Q.at_nat]),k6⟩
end GlW
theorem wr_sub {a b:Nat} (h:b≤a) (ha:a≤1000):wrap64 ((a:Int)-(b:Int))=((a-b:Nat):Int):=by
 rw [Q.wrap_of _ (by omega) (by omega)]
 omega
theorem l1In_t {a b c:Int} (h:b≤a∧a≤c):spec_l1In.f a b c=some true:=(Q.l1In_eq a b c).trans (congrArg some (dT_ h))
theorem l1In_f {a b c:Int} (h : ¬(b≤a∧a≤c)):spec_l1In.f a b c=some false:=(Q.l1In_eq a b c).trans (congrArg some (dF_ h))
theorem z23_5 {p:Prop} (h:p:=by kernel_rfl):p:=h
theorem z23_4 {p:Prop} (h:p:=by repeat (first|exact HO.out|(with_reducible first|apply Kd.R_drewN|apply Kd.R_drew))):p:=h
theorem z23_3 {p:Prop} (h:p:=by repeat (first|exact HB.out|(with_reducible first|apply pw_below_drewN|apply below_drew1|apply below_drew))):p:=h
theorem z23_2 {p:Prop} (h:p:=by omega):p:=h
theorem z23_1 {p:Prop} (h:p:=by repeat (first|exact HRc2.out|(with_reducible first|apply Kd.R_drewN|apply Kd.R_drew))):p:=h
theorem z23_0 {p:Prop} (h:p:=by repeat (first|exact HBc2.out|(with_reducible first|apply pw_below_drewN|apply below_drew1|apply below_drew))):p:=h
set_option maxHeartbeats 8000000 in
set_option maxRecDepth 100000 in
theorem specGlued_core (Au:Option Addr) (cu:Nat) (u:List (List Int)) (An:Option Addr) (cn:Nat) (nt:List Int) (Av:Option Addr) (cv:Nat) (v:List (List Int)) (Am:Option Addr) (cm:Nat) (mtt:List Int) (w:World)
 (hu:Kd.C (Kd.slice 3 (Kd.int .i64)) w Au u.length u) (hcu:u.length≤cu) (hn_:Kd.C (Kd.int .i64) w An nt.length nt) (hcn:nt.length≤cn)
 (hv:Kd.C (Kd.slice 3 (Kd.int .i64)) w Av v.length v) (hcv:v.length≤cv) (hm:Kd.C (Kd.int .i64) w Am mtt.length mtt) (hcm:mtt.length≤cm) (r1:List (List Int)) (r2:List Int) (r3:Bool) (h:(if nt.length≤1048576∧mtt.length≤1048576 then some (gluedF u nt v mtt) else none)=some (r1,r2,r3)) :
 Calls Try.prog 53 #[.agg #[.slice Au u.length cu,.slice An nt.length cn],.agg #[.slice Av v.length cv,.slice Am mtt.length cm]] w fun e w'=>∃ v0_ v1_:Value,e = .returned (.tuple #[.agg #[v0_,v1_],.bool r3])∧Kd.S (Kd.slice 3 (Kd.int .i64)) 25 w' w.heap.size (fun k_=>some k_≠(v1_:Value).ownBlock) v0_ r1∧Kd.R (Kd.int .i64) 3 w' w.heap.size (fun _=>True) v1_ r2∧Below w.heap.size w w':=by
 have hlen:nt.length≤1048576∧mtt.length≤1048576:=by
  by_cases q:nt.length≤1048576∧mtt.length≤1048576
  ·
   exact q
  rw [if_neg q] at h;cases h
 rw [if_pos hlen] at h
 replace h:=Option.some.inj h
 obtain ⟨hlen1,hlen2⟩:=hlen
 have hul:=Try.underlying27
 obtain ⟨kA,hkA⟩:=Ev.rounds (Q.inner_ev u nt hlen1)
 obtain ⟨kB,hkB⟩:=Ev.rounds (Q.inner_ev v mtt hlen2)
 obtain ⟨kC,hkC⟩:=Ev.rounds (Q.spec_logic_ev u nt)
 obtain ⟨kD,hkD⟩:=Ev.rounds (Q.spec_logic_ev v mtt)
 have lA:=Nat.le_trans (Q.innS_len u nt nt.length) hlen1
 have lB:=Nat.le_trans (Q.innS_len v mtt mtt.length) hlen2
 have HIA:Aside0 (OL u nt→Q.innS u nt nt.length=innerL u nt):=⟨Q.innS_ol⟩
 have HIB:Aside0 (OL v mtt→Q.innS v mtt mtt.length=innerL v mtt):=⟨Q.innS_ol⟩
 obtain ⟨FA,hFA⟩ : ∃ l,Q.innS u nt nt.length=l:=⟨_,rfl⟩
 obtain ⟨FB,hFB⟩ : ∃ l,Q.innS v mtt mtt.length=l:=⟨_,rfl⟩
 rw [hFA] at hkA lA HIA
 rw [hFB] at hkB lB HIB
 have HKkA:=ak hkA
 have HKkB:=ak hkB
 have HKkC:=ak hkC
 have HKkD:=ak hkD
 have LA:=ak lA
 have LB:=ak lB
 obtain ⟨v1_,v2_⟩:=sum3_w lA lB
 obtain ⟨n,hn⟩ : ∃ n,FA.length+FB.length+2=n:=⟨_,rfl⟩
 rw [hn] at v1_ v2_
 have HNn:=ak hn
 have HU:=ak hu
 have HC:=ak hcu
 have HN:=ak hn_
 have HCN:=ak hcn
 have HV:=ak hv
 have HCV:=ak hcv
 have HMt:=ak hm
 have HCM:=ak hcm
 have HRES:=ak h
 have HL:=ak (Live.start w)
 have s0:=ak True.intro
 clear hu hcu hn_ hcn hv hcv hm hcm h hkA hkB hkC hkD hFA hFB lA lB hn hlen1 hlen2
 go_enter Try.func53,Try.ntmps53
 go_wp2_with (first
  | (clear s0;(with_reducible refine gate_dst (N:=2) rfl ?_);refine armb_ (rs':=[]) HL (fun HL_=>?_);refine bx_ (N:=2) (cs:=#[.slice Au u.length cu,.slice An nt.length cn]) (t:=27) ?_;intro b2 hg w1 hbox hb;have HL1:Aside0 (Live w w1 [.box b2 #[.slice Au u.length cu,.slice An nt.length cn] 27]):=⟨HL_.out.box hb hg hbox⟩;clear HL HL_ hb hg hbox ; have HL:=HL1;clear HL1;have s1:=ak True.intro)
  | (clear s1;(with_reducible refine gate_dst (N:=3) rfl ?_);refine armb_ (rs':=[.box b2 #[.slice Au u.length cu,.slice An nt.length cn] 27]) HL (fun HL_=>?_);refine bx_ (N:=3) (cs:=#[.slice Av v.length cv,.slice Am mtt.length cm]) (t:=27) ?_;intro b3 hg w2 hbox hb;have HL1:Aside0 (Live w w2 [.box b3 #[.slice Av v.length cv,.slice Am mtt.length cm] 27,.box b2 #[.slice Au u.length cu,.slice An nt.length cn] 27]):=⟨HL_.out.box hb hg hbox⟩;clear HL HL_ hb hg hbox ; have HL:=HL1;clear HL1;have s2:=ak True.intro)
  | (clear s2;(with_reducible refine gate_dst (N:=4) rfl ?_);refine armb_ (rs':=[.box b3 #[.slice Av v.length cv,.slice Am mtt.length cm] 27,.box b2 #[.slice Au u.length cu,.slice An nt.length cn] 27]) HL (fun HL_=>?_);refine bx_ (N:=4) (cs:=#[.slice none 0 0,.slice none 0 0]) (t:=27) ?_;intro b4 hg w3 hbox hb;have HL1:Aside0 (Live w w3 [.box b4 #[.slice none 0 0,.slice none 0 0] 27,.box b3 #[.slice Av v.length cv,.slice Am mtt.length cm] 27,.box b2 #[.slice Au u.length cu,.slice An nt.length cn] 27]):=⟨HL_.out.box hb hg hbox⟩;clear HL HL_ hb hg hbox ; have HL:=HL1;clear HL1;have hc0:w3.cell? ⟨b2,0,none⟩=some (.slice Au u.length cu):=Live.cell [_,_] HL.out 0 rfl;have hc1:w3.cell? ⟨b2,1,none⟩=some (.slice An nt.length cn):=Live.cell [_,_] HL.out 1 rfl;have hd0:w3.cell? ⟨b3,0,none⟩=some (.slice Av v.length cv):=Live.cell [_] HL.out 0 rfl;have hd1:w3.cell? ⟨b3,1,none⟩=some (.slice Am mtt.length cm):=Live.cell [_] HL.out 1 rfl;have s3:=ak True.intro)
  | (clear s3;go_at_call 99;refine arm_ (rs':=[.box b4 #[.slice none 0 0,.slice none 0 0] 27,.box b3 #[.slice Av v.length cv,.slice Am mtt.length cm] 27,.box b2 #[.slice Au u.length cu,.slice An nt.length cn] 27]) HL ?_;clear HL;intro HL;(with_reducible refine (spec_l3Inner.calls kA _ _ u _ _ nt FA _ ?s1 ?s2 ?s3 ?s4 HKkA.out).mono ?_);(case s1=>exact HL.out.came HU.out);(case s2=>exact HC.out);(case s3=>exact HL.out.came HN.out);(case s4=>exact HCN.out);rintro e w5 ⟨v_,rfl,hR,hb⟩;obtain ⟨A6,c6,e_⟩:=Kd.R_slice hR;subst e_;have HL1:Aside0 (Live w w5 [.ints (.slice A6 FA.length c6) FA,.box b4 #[.slice none 0 0,.slice none 0 0] 27,.box b3 #[.slice Av v.length cv,.slice Am mtt.length cm] 27,.box b2 #[.slice Au u.length cu,.slice An nt.length cn] 27]):=⟨HL.out.ints hR hb⟩;clear HL hR hb;have HL:=HL1;clear HL1;have gc30:w5.cell? ⟨b2,0,none⟩=some (.slice Au u.length cu):=Live.cell [_,_,_] HL.out 0 rfl;have gc31:w5.cell? ⟨b2,1,none⟩=some (.slice An nt.length cn):=Live.cell [_,_,_] HL.out 1 rfl;have gd30:w5.cell? ⟨b3,0,none⟩=some (.slice Av v.length cv):=Live.cell [_,_] HL.out 0 rfl;have gd31:w5.cell? ⟨b3,1,none⟩=some (.slice Am mtt.length cm):=Live.cell [_,_] HL.out 1 rfl;have s4:=ak True.intro)
  | (clear s4;go_at_call 99;refine arm_ (rs':=[.ints (.slice A6 FA.length c6) FA,.box b4 #[.slice none 0 0,.slice none 0 0] 27,.box b3 #[.slice Av v.length cv,.slice Am mtt.length cm] 27,.box b2 #[.slice Au u.length cu,.slice An nt.length cn] 27]) HL ?_;clear HL;intro HL;(with_reducible refine (spec_l3Inner.calls kB _ _ v _ _ mtt FB _ ?s1 ?s2 ?s3 ?s4 HKkB.out).mono ?_);(case s1=>exact HL.out.came HV.out);(case s2=>exact HCV.out);(case s3=>exact HL.out.came HMt.out);(case s4=>exact HCM.out);rintro e w6 ⟨v_,rfl,hR,hb⟩;obtain ⟨A7,c7,e_⟩:=Kd.R_slice hR;subst e_;have HL1:Aside0 (Live w w6 [.ints (.slice A7 FB.length c7) FB,.ints (.slice A6 FA.length c6) FA,.box b4 #[.slice none 0 0,.slice none 0 0] 27,.box b3 #[.slice Av v.length cv,.slice Am mtt.length cm] 27,.box b2 #[.slice Au u.length cu,.slice An nt.length cn] 27]):=⟨HL.out.ints hR hb⟩;clear HL hR hb;have HL:=HL1;clear HL1;have gc40:w6.cell? ⟨b2,0,none⟩=some (.slice Au u.length cu):=Live.cell [_,_,_,_] HL.out 0 rfl;have gc41:w6.cell? ⟨b2,1,none⟩=some (.slice An nt.length cn):=Live.cell [_,_,_,_] HL.out 1 rfl;have gd40:w6.cell? ⟨b3,0,none⟩=some (.slice Av v.length cv):=Live.cell [_,_,_] HL.out 0 rfl;have gd41:w6.cell? ⟨b3,1,none⟩=some (.slice Am mtt.length cm):=Live.cell [_,_,_] HL.out 1 rfl;have s5:=ak True.intro))
 refine arm_ (rs':=[.ints (.slice A7 FB.length c7) FB,.ints (.slice A6 FA.length c6) FA,.box b4 #[.slice none 0 0,.slice none 0 0] 27,.box b3 #[.slice Av v.length cv,.slice Am mtt.length cm] 27,.box b2 #[.slice Au u.length cu,.slice An nt.length cn] 27]) HL ?_
 clear HL
 intro HL
 with_reducible refine (spec_LogicOk.calls kC _ _ u _ _ nt (logicF u nt) _ ?s1 ?s2 ?s3 ?s4 HKkC.out).mono ?_
 case s1=>exact HL.out.came HU.out
 case s2=>exact HC.out
 case s3=>exact HL.out.came HN.out
 case s4=>exact HCN.out
 rintro e w7 ⟨rfl,hb⟩
 have HL1:Aside0 (Live w w7 [.ints (.slice A7 FB.length c7) FB,.ints (.slice A6 FA.length c6) FA,.box b4 #[.slice none 0 0,.slice none 0 0] 27,.box b3 #[.slice Av v.length cv,.slice Am mtt.length cm] 27,.box b2 #[.slice Au u.length cu,.slice An nt.length cn] 27]):=⟨HL.out.step hb⟩
 clear HL hb
 have HL:=HL1
 clear HL1
 have kc0:w7.cell? ⟨b2,0,none⟩=some (.slice Au u.length cu):=Live.cell [_,_,_,_] HL.out 0 rfl
 have kc1:w7.cell? ⟨b2,1,none⟩=some (.slice An nt.length cn):=Live.cell [_,_,_,_] HL.out 1 rfl
 have kd0:w7.cell? ⟨b3,0,none⟩=some (.slice Av v.length cv):=Live.cell [_,_,_] HL.out 0 rfl
 have kd1:w7.cell? ⟨b3,1,none⟩=some (.slice Am mtt.length cm):=Live.cell [_,_,_] HL.out 1 rfl
 have hr0:w7.cell? ⟨b4,0,none⟩=some (.slice none 0 0):=Live.cell [_,_] HL.out 0 rfl
 have hr1:w7.cell? ⟨b4,1,none⟩=some (.slice none 0 0):=Live.cell [_,_] HL.out 1 rfl
 have hx0:=Live.frozen [_,_] HL.out 0
 have hx1:=Live.frozen [_,_] HL.out 1
 cases hB1:logicF u nt with
 | false =>
  have hl1 : ¬OL u nt:=of_decide_eq_false hB1
  have er:gluedF u nt v mtt=([],[],false):=if_neg (fun q=>hl1 q.1)
  rw [er] at HRES
  obtain ⟨e1,e23⟩:=Prod.mk.inj HRES.out
  obtain ⟨e2,e3⟩:=Prod.mk.inj e23
  clear HRES er e23
  subst e1
  subst e2
  subst e3
  clear hl1 hB1
  go_wp2
  have HP:=Live.put [_,_] (Live.put [_,_] HL.out 0 (.slice none 0 0) rfl) 1 (.slice none 0 0) rfl
  refine bodyPost_ret (results_ct rfl _ _ b4 27 #[.slice none 0 0,.slice none 0 0] (0,0) _ rfl (Live.cells [_,_] HP) hul rfl z23_5) rfl ?_
  exact ⟨_,_,rfl,Kd.S_nil _ _ _ _ _,Kd.R_nil _ _ _ _ _,HP.below⟩
 | true =>
  have hl1:OL u nt:=oe_ hB1
  clear hB1 hr0 hr1 hx0 hx1 s5
  have s6:=ak True.intro
  cases hB2:logicF v mtt with
  | false =>
   have hl2 : ¬OL v mtt:=of_decide_eq_false hB2
   have er:gluedF u nt v mtt=([],[],false):=if_neg (fun q=>hl2 q.2.1)
   rw [er] at HRES
   obtain ⟨e1,e23⟩:=Prod.mk.inj HRES.out
   obtain ⟨e2,e3⟩:=Prod.mk.inj e23
   clear HRES er e23
   subst e1
   subst e2
   subst e3
   clear hl1 hl2
   have HKf:=ak (HKkD.out.trans (congrArg some hB2))
   clear hB2
   go_wp2_with (clear s6;go_at_call 30;refine arm_ (rs':=[.ints (.slice A7 FB.length c7) FB,.ints (.slice A6 FA.length c6) FA,.box b4 #[.slice none 0 0,.slice none 0 0] 27,.box b3 #[.slice Av v.length cv,.slice Am mtt.length cm] 27,.box b2 #[.slice Au u.length cu,.slice An nt.length cn] 27]) HL ?_;clear HL;intro HL;(with_reducible refine (spec_LogicOk.calls kD _ _ v _ _ mtt false _ ?s1 ?s2 ?s3 ?s4 HKf.out).mono ?_);(case s1=>exact HL.out.came HV.out);(case s2=>exact HCV.out);(case s3=>exact HL.out.came HMt.out);(case s4=>exact HCM.out);rintro e w8 ⟨rfl,hb⟩;have HL1:Aside0 (Live w w8 [.ints (.slice A7 FB.length c7) FB,.ints (.slice A6 FA.length c6) FA,.box b4 #[.slice none 0 0,.slice none 0 0] 27,.box b3 #[.slice Av v.length cv,.slice Am mtt.length cm] 27,.box b2 #[.slice Au u.length cu,.slice An nt.length cn] 27]):=⟨HL.out.step hb⟩;clear HL hb;have HL:=HL1;clear HL1;have lc0:w8.cell? ⟨b2,0,none⟩=some (.slice Au u.length cu):=Live.cell [_,_,_,_] HL.out 0 rfl;have lc1:w8.cell? ⟨b2,1,none⟩=some (.slice An nt.length cn):=Live.cell [_,_,_,_] HL.out 1 rfl;have ld0:w8.cell? ⟨b3,0,none⟩=some (.slice Av v.length cv):=Live.cell [_,_,_] HL.out 0 rfl;have ld1:w8.cell? ⟨b3,1,none⟩=some (.slice Am mtt.length cm):=Live.cell [_,_,_] HL.out 1 rfl;have hr0:w8.cell? ⟨b4,0,none⟩=some (.slice none 0 0):=Live.cell [_,_] HL.out 0 rfl;have hr1:w8.cell? ⟨b4,1,none⟩=some (.slice none 0 0):=Live.cell [_,_] HL.out 1 rfl;have hx0:=Live.frozen [_,_] HL.out 0;have hx1:=Live.frozen [_,_] HL.out 1)
   have HP:=Live.put [_,_] (Live.put [_,_] HL.out 0 (.slice none 0 0) rfl) 1 (.slice none 0 0) rfl
   refine bodyPost_ret (results_ct rfl _ _ b4 27 #[.slice none 0 0,.slice none 0 0] (0,0) _ rfl (Live.cells [_,_] HP) hul rfl z23_5) rfl ?_
   exact ⟨_,_,rfl,Kd.S_nil _ _ _ _ _,Kd.R_nil _ _ _ _ _,HP.below⟩
  | true =>
   have hl2:OL v mtt:=oe_ hB2
   have HKf:=ak (HKkD.out.trans (congrArg some hB2))
   clear hB2
   have eA:=HIA.out hl1
   have eB:=HIB.out hl2
   have n1:=hl1.2.1
   have n2:=hl2.2.1
   have u12:=hl1.1.1.le12
   have a1:=hl2.1.1.le12
   have a2:=ak hl1
   have a3:=ak hl2
   by_cases k1:2≤u.length
   ·
    have d1:decide ((nt.length:Int)<2)=false:=dF_ z23_2
    have d1b:decide (nt.length<2)=false:=dF_ z23_2
    by_cases k2:2≤v.length
    ·
     have d2:decide ((mtt.length:Int)<2)=false:=dF_ z23_2
     have d2b:decide (mtt.length<2)=false:=dF_ z23_2
     have gn:=Q.glue_n hl1 hl2 k1 k2
     have gl:=Q.glue_len u nt v mtt
     rw [← eA,← eB,HNn.out] at gl
     by_cases k3:n≤12
     ·
      have d3:decide ((n:Int)>12)=false:=dF_ z23_2
      have d3b:decide (12<n)=false:=dF_ z23_2
      have d3c:decide (12<(n:Int))=false:=d3
      have hg:(glueL u nt v mtt).length=n:=gl
      have S:=ak (Q.GlS.mk hl1 hl2 hg k3)
      have HGn:=ak hg
      have HK3:=ak k3
      have HRZ:=ak (show gluedF u nt v mtt=_ from (if_pos ⟨hl1,hl2,k1,k2,z23_2⟩))
      obtain ⟨m1,hm1⟩ : ∃ m,n-1=m:=⟨_,rfl⟩
      have hn2:2≤n:=by omega
      have hab:FA.length+FB.length+2=n:=HNn.out
      have HM1:=ak hm1
      clear eA eB hl1 hl2 n1 n2 u12 a1 gn gl hg k1 k2
      have EA:=ak (HIA.out a2.out)
      have EB:=ak (HIB.out a3.out)
      go_wp2_with (first
       | (clear s6;go_at_call 30;refine arm_ (rs':=[.ints (.slice A7 FB.length c7) FB,.ints (.slice A6 FA.length c6) FA,.box b4 #[.slice none 0 0,.slice none 0 0] 27,.box b3 #[.slice Av v.length cv,.slice Am mtt.length cm] 27,.box b2 #[.slice Au u.length cu,.slice An nt.length cn] 27]) HL ?_;clear HL;intro HL;(with_reducible refine (spec_LogicOk.calls kD _ _ v _ _ mtt true _ ?s1 ?s2 ?s3 ?s4 HKf.out).mono ?_);(case s1=>exact HL.out.came HV.out);(case s2=>exact HCV.out);(case s3=>exact HL.out.came HMt.out);(case s4=>exact HCM.out);rintro e w8 ⟨rfl,hb⟩;have HL1:Aside0 (Live w w8 [.ints (.slice A7 FB.length c7) FB,.ints (.slice A6 FA.length c6) FA,.box b4 #[.slice none 0 0,.slice none 0 0] 27,.box b3 #[.slice Av v.length cv,.slice Am mtt.length cm] 27,.box b2 #[.slice Au u.length cu,.slice An nt.length cn] 27]):=⟨HL.out.step hb⟩;clear HL hb;have HL:=HL1;clear HL1;have lc0:w8.cell? ⟨b2,0,none⟩=some (.slice Au u.length cu):=Live.cell [_,_,_,_] HL.out 0 rfl;have lc1:w8.cell? ⟨b2,1,none⟩=some (.slice An nt.length cn):=Live.cell [_,_,_,_] HL.out 1 rfl;have ld0:w8.cell? ⟨b3,0,none⟩=some (.slice Av v.length cv):=Live.cell [_,_,_] HL.out 0 rfl;have ld1:w8.cell? ⟨b3,1,none⟩=some (.slice Am mtt.length cm):=Live.cell [_,_,_] HL.out 1 rfl;have hr0:w8.cell? ⟨b4,0,none⟩=some (.slice none 0 0):=Live.cell [_,_] HL.out 0 rfl;have hr1:w8.cell? ⟨b4,1,none⟩=some (.slice none 0 0):=Live.cell [_,_] HL.out 1 rfl;have hx0:=Live.frozen [_,_] HL.out 0;have hx1:=Live.frozen [_,_] HL.out 1;have HM:=ak (Live.start w8);have s0:=ak True.intro)
       | (clear s0;(with_reducible refine gate_dst (N:=9) rfl ?_);refine armb_ (rs':=[]) HM (fun HM_=>?_);refine bx_ (N:=9) (cs:=#[.slice none 0 0,.slice none 0 0]) (t:=27) ?_;intro g9 hg w9 hbox hb;have HM1:Aside0 (Live w8 w9 [.box g9 #[.slice none 0 0,.slice none 0 0] 27]):=⟨HM_.out.box hb hg hbox⟩;clear HM HM_ hb hg hbox ; have HM:=HM1;clear HM1;have y90:w9.cell? ⟨g9,0,none⟩=some (.slice none 0 0):=Live.cell [] HM.out 0 rfl;have y91:w9.cell? ⟨g9,1,none⟩=some (.slice none 0 0):=Live.cell [] HM.out 1 rfl;have z90:=Live.frozen [] HM.out 0;have z91:=Live.frozen [] HM.out 1;have s1:=ak True.intro))
      have HMs:=ak (Live.set1 (Live.set0 HM.out (x:=.slice none 0 0)) (x:=.slice none 0 0))
      generalize (World.setCell (World.setCell w9 ⟨g9,0,none⟩ (.slice none 0 0)) ⟨g9,1,none⟩ (.slice none 0 0))=ws at HMs ⊢
      have HG0:Aside0 (GsSt w8 ws g9 (.slice none 0 0) (.slice none 0 0) (.slice none 0 0) (.slice none 0 0) (Q.rowsG u v (glueL u nt v mtt) 0) (Q.notsG nt mtt (glueL u nt v mtt) 0)):=⟨⟨HMs.out.below,Live.high [] HMs.out,Live.cells [] HMs.out,Kd.S_nil _ _ _ _ _,Kd.R_nil _ _ _ _ _⟩⟩
      clear HM HMs y90 y91 z90 z91 d1 d1b d2 d2b d3 d3b d3c v1_ v2_ s1
      have HWA:Aside0 (GlW w8 b2 A6 c6 FA Au cu u An cn nt):=⟨⟨lc0,lc1,(Live.intsC [_] HL.out).1,HL.out.came HU.out,HL.out.came HN.out⟩⟩
      have HWB:Aside0 (GlW w8 b3 A7 c7 FB Av cv v Am cm mtt):=⟨⟨ld0,ld1,(Live.intsC [] HL.out).1,HL.out.came HV.out,HL.out.came HMt.out⟩⟩
      have w1_:=wr_sub (a:=n) (b:=1) z23_2 z23_2
      rw [hm1] at w1_
      go_loopw [10] (fun a4 wr=>∃ (i:Nat) (vu vn:Value),i≤n∧a4 = .int .i64 i∧Aside0 (GsSt w8 wr g9 vu vn vu vn (Q.rowsG u v (glueL u nt v mtt) i) (Q.notsG nt mtt (glueL u nt v mtt) i))) (fun a4 _=>n-(intOf a4).toNat)
      case atStart=>exact ⟨0,_,_,Nat.zero_le _,rfl,HG0⟩
      case round =>
       clear HG0
       obtain ⟨i,vu,vn,hi,rfl,G⟩:=hrel
       by_cases hlt:i<n
       ·
        obtain ⟨W1,hW1⟩ : ∃ W1,W1=wr:=⟨_,rfl⟩
        subst hW1
        have w2_:=wr_sub (a:=m1) (b:=i) z23_2 z23_2
        go_wp2_with ((with_reducible refine gate_dst (N:=56) rfl ?_);refine Kd.R_make (Kd.int .i64) _ 3 rfl (N:=56) rfl 25 _ _ rfl (n:Int) rfl rfl Try.underlying25 (.int .i64 0) 8 info3 rfl (by decide) z23_2 0 (ok:=fun _=>True) (okp:=fun _=>True) rfl (fun _ hk=>hk) trivial z23_2 z23_2 (Below.refl _ _) (Nat.le_refl _) ?_;intro a8 w4 ho hb hg_ hnew_;clear hg_ hnew_;rw [Int.toNat_natCast] at ho;obtain ⟨g11,a0,rfl,hg11,hl11,cl11,hc11⟩:=Kd.R_form ho (by rw [List.length_replicate];omega);rw [List.length_replicate] at ho ⊢;clear hl11 hc11;obtain ⟨x1,f1_⟩:=Kd.R_celln 0 ho (i:Int) z23_2 z23_2;have ho2:=(Kd.R_putg ho (i:Int) 1).1;rw [Int.toNat_natCast] at x1 f1_ ho2;obtain ⟨x2,f2_⟩:=Kd.R_celln 0 ho2 (m1:Int) z23_2 z23_2;have ho3:=(Kd.R_putg ho2 (m1:Int) 1).1;rw [Int.toNat_natCast] at x2 f2_ ho3;have a5:=ak ho3;have HB3:=ak (below_set (j:=m1) (v:=.int .i64 1) (below_set (j:=i) (v:=.int .i64 1) hb hg11) hg11);have HG11:=ak hg11;clear ho ho2 ho3 hb hg11;generalize rdOf 0 (List.replicate n (0:Int)) (i:Int)=q1_ at x1;generalize rdOf 0 ((List.replicate n (0:Int)).set i 1) (m1:Int)=q2_ at x2)
        generalize (World.setCell (World.setCell w4 ⟨g11,i,none⟩ (.int .i64 1)) ⟨g11,m1,none⟩ (.int .i64 1))=a7 at a5 HB3 ⊢
        clear x1 x2 f1_ f2_
        have HOs:Aside0 (Kd.R (Kd.int .i64) 3 a7 W1.heap.size (fun _=>True) (.slice (some ⟨g11,0,none⟩) n a0) (Q.rowG u v (glueL u nt v mtt) i 0)):=⟨(by rw [Q.rowG_zero (by rw [HGn.out];exact hlt),HGn.out,HM1.out];exact a5.out)⟩
        go_loopw [12,13] (fun a1 a6 wr=>∃ (c:Nat) (x:Int),c≤n∧a1 = .int .i64 x∧a6 = .int .i64 c∧Aside0 (x=Q.notG nt mtt (glueL u nt v mtt) i c)∧Aside0 (Kd.R (Kd.int .i64) 3 wr W1.heap.size (fun _=>True) (.slice (some ⟨g11,0,none⟩) n a0) (Q.rowG u v (glueL u nt v mtt) i c))∧Aside0 (Below W1.heap.size W1 wr)) (fun _ a6 _=>n-(intOf a6).toNat)
        case atStart=>exact ⟨0,_,Nat.zero_le _,rfl,rfl,⟨(by rw [Q.notG_zero,HGn.out,HM1.out];have:=HM1.out;omega)⟩,HOs,HB3⟩
        case round =>
         clear HOs HB3 a5 w1_ w2_
         obtain ⟨c,x,hc,rfl,rfl,HX,HO,HB⟩:=hrel
         by_cases hct:c<n
         ·
          have s0:=ak True.intro
          by_cases k0:i=0
          ·
           have E0:=ak (S.out.top_ (c:=c) k0 hct)
           have J1:Aside0 (¬((1:Int)≤(i:Int)∧(i:Int)≤(FA.length:Int))):=⟨z23_2⟩
           have J2:Aside0 (¬((FA.length:Int)+1≤(i:Int)∧(i:Int)≤(n:Int)-2)):=⟨z23_2⟩
           have z1:((i:Int)==0)=true:=beq_iff_eq.mpr z23_2
           clear k0
           obtain ⟨x9,f9⟩:=Kd.R_celln 0 HO.out (c:Int) z23_2 z23_2
           rw [Int.toNat_natCast] at x9 f9
           generalize rdOf 0 (Q.rowG u v (glueL u nt v mtt) i c) (c:Int)=q9 at x9
           have C0:(0:Int)≤c:=by omega
           have C1:(c:Int)<(n:Int):=by omega
           have HRc:Aside0 (Kd.R (Kd.int .i64) 3 (wr.setCell ⟨g11,c,none⟩ (.int .i64 1)) W1.heap.size (fun _=>True) (.slice (some ⟨g11,0,none⟩) n a0) (Q.rowG u v (glueL u nt v mtt) i (c+1))):=⟨(by have h:=(Kd.R_putg HO.out (c:Int) 1).1;rw [Int.toNat_natCast] at h;rw [← E0.out.1];exact h)⟩
           have HBc:=ak (below_set (j:=c) (v:=.int .i64 1) HB.out HG11.out)
           clear HO HB
           go_wp2_with (first
            | (clear s0;go_at_call 72;(with_reducible refine (spec_l1In.calls _ _ _ false _ ?q).mono ?_);(case q=>exact l1In_f J1.out);rintro e w5 ⟨rfl,hD⟩;obtain ⟨nd0,rfl⟩:=hD;have s1:=ak True.intro)
            | (clear s1;go_at_call 72;(with_reducible refine (spec_l1In.calls _ _ _ false _ ?q).mono ?_);(case q=>exact l1In_f J2.out);rintro e w5 ⟨rfl,hD⟩;obtain ⟨nd1,rfl⟩:=hD;have s2:=ak True.intro))
           generalize wr.setCell ⟨g11,c,none⟩ (.int .i64 1)=wc at HRc HBc ⊢
           go_roundw
           case rel=>exact ⟨c+1,_,z23_2,rfl,(by go_num),⟨HX.out.trans E0.out.2.symm⟩,⟨(by repeat (first|exact HRc.out|(with_reducible first|apply Kd.R_drewN|apply Kd.R_drew)))⟩,⟨(by repeat (first|exact HBc.out|(with_reducible first|apply pw_below_drewN|apply below_drew1|apply below_drew)))⟩⟩
           case measure=>simp [intOf];omega
          by_cases k1:i=n-1
          ·
           have z1:((i:Int)==0)=false:=beq_eq_false_iff_ne.mpr z23_2
           have E0:=ak (S.out.bot_ (c:=c) z23_2 k1)
           have J1:Aside0 (¬((1:Int)≤(i:Int)∧(i:Int)≤(FA.length:Int))):=⟨z23_2⟩
           have J2:Aside0 (¬((FA.length:Int)+1≤(i:Int)∧(i:Int)≤(n:Int)-2)):=⟨z23_2⟩
           rw [E0.out.1] at HO
           have K1:=ak k1
           clear k1
           go_wp2_with (first
            | (clear s0;go_at_call 72;(with_reducible refine (spec_l1In.calls _ _ _ false _ ?q).mono ?_);(case q=>exact l1In_f J1.out);rintro e w5 ⟨rfl,hD⟩;obtain ⟨nd0,rfl⟩:=hD;have s1:=ak True.intro)
            | (clear s1;go_at_call 72;(with_reducible refine (spec_l1In.calls _ _ _ false _ ?q).mono ?_);(case q=>exact l1In_f J2.out);rintro e w5 ⟨rfl,hD⟩;obtain ⟨nd1,rfl⟩:=hD;have s2:=ak True.intro))
           go_roundw
           case rel=>exact ⟨c+1,_,z23_2,rfl,(by go_num),⟨HX.out.trans E0.out.2.symm⟩,⟨z23_4⟩,⟨z23_3⟩⟩
           case measure=>simp [intOf];omega
          by_cases h1:i≤FA.length
          ·
           obtain ⟨X,eX,hX,hinX,gi⟩:=S.out.left EA.out z23_2 h1
           by_cases h2:1≤c∧c≤FA.length
           ·
            obtain ⟨Y,eY,hY,hinY,gc⟩:=S.out.left EA.out h2.1 h2.2
            have E0:=ak (S.out.in_ gi gc z23_2 z23_2 z23_2 z23_2 hX hY (if_pos rfl) (if_pos rfl) a2.out.1.1 (by decide) hinX)
            clear hinX hinY gi gc
            have GR:=ak (HWA.out.below G.out.below)
            obtain ⟨p,hp⟩ : ∃ p,i-1=p:=⟨_,rfl⟩
            obtain ⟨q,hq⟩ : ∃ q,c-1=q:=⟨_,rfl⟩
            rw [hp] at eX
            rw [hq] at eY
            obtain ⟨al,ad,ar,an,d1,vv,zz,rA,rU,rN,ev,ez,f1,f2,f3,f4,f5⟩:=GR.out.reads a2.out z23_2 z23_2 eX eY hX hY
            subst rA
            subst rU
            subst rN
            have F0:=ak GR.out.c0
            have F6:=ak GR.out.c1
            have F1:=ak (f1)
            have F2:=ak (f2)
            have F3:=ak (f3)
            have F4:=ak (f4)
            have F5:=ak (f5)
            have EV:=ak ev
            have EZ:=ak ez
            clear GR f1 f2 f3 f4 f5 ev ez eX eY
            have hnl:=a2.out.2.1
            have C0:(0:Int)≤c:=by omega
            have C1:(c:Int)<(n:Int):=by omega
            have X0:(0:Int)≤X:=by omega
            have X1:(X:Int)<(u.length:Int):=by omega
            have X2:(X:Int)<(nt.length:Int):=by omega
            have Y0:(0:Int)≤Y:=by omega
            have Y1:(Y:Int)<(u.length:Int):=by omega
            have p0:(0:Int)≤p:=by omega
            have p1:(p:Int)<(FA.length:Int):=by omega
            have q0:(0:Int)≤q:=by omega
            have q1:(q:Int)<(FA.length:Int):=by omega
            have J1:Aside0 ((1:Int)≤(i:Int)∧(i:Int)≤(FA.length:Int)):=⟨z23_2⟩
            have J2:Aside0 ((1:Int)≤(c:Int)∧(c:Int)≤(FA.length:Int)):=⟨z23_2⟩
            have J3:Aside0 (¬((FA.length:Int)+1≤(i:Int)∧(i:Int)≤(n:Int)-2)):=⟨z23_2⟩
            have wp:wrap64 ((i:Int)-1)=(p:Int):=hp▸wr_sub (b:=1) z23_2 z23_2
            have wq:wrap64 ((c:Int)-1)=(q:Int):=hq▸wr_sub (b:=1) z23_2 z23_2
            clear hp hq h1 h2 hX hY hnl
            go_wp2_with (first
             | (clear s0;go_at_call 72;(with_reducible refine (spec_l1In.calls _ _ _ true _ ?q).mono ?_);(case q=>exact l1In_t J1.out);rintro e w5 ⟨rfl,hD⟩;obtain ⟨nd0,rfl⟩:=hD;have s1:=ak True.intro)
             | (clear s1;go_at_call 72;(with_reducible refine (spec_l1In.calls _ _ _ true _ ?q).mono ?_);(case q=>exact l1In_t J2.out);rintro e w5 ⟨rfl,hD⟩;obtain ⟨nd1,rfl⟩:=hD;have s2:=ak True.intro))
            have HRa2:=ak (Kd.R_drew (Kd.R_drewN HO.out (nd0+nd1)))
            have HBa2:=ak (below_drew (pw_below_drewN HB.out (nd0+nd1)))
            refine start_ (n:=20) (S:=fun w'=>w'.cell? ⟨b2,0,none⟩=some (.slice (some ad) u.length cu)∧w'.cell? (al.add p)=some (.int .i64 (X:Int))∧w'.cell? (ad.add X)=some (.slice (some ar) u.length d1)∧w'.cell? (al.add q)=some (.int .i64 (Y:Int))∧w'.cell? (ar.add Y)=some (.int .i64 vv)) (ds:=[19]) (bA 20 0) z23_5 rfl rfl ⟨GlW.cell_ F0.out HBa2.out,GlW.cell_ F1.out HBa2.out,GlW.cell_ F3.out HBa2.out,GlW.cell_ F2.out HBa2.out,GlW.cell_ F4.out HBa2.out⟩ (fun hHeld=>?_)
            generalize (wr.drewN (nd0+nd1)).drew=wb at HRa2 HBa2 hHeld ⊢
            clear HO HB
            refine pu_ (i:=0) (N:=some 88) (bA 20 1) ?_
            refine pu_ (i:=1) (N:=some 89) (bA 20 3) ?_
            refine pu_ (i:=2) (N:=some 90) (bA 20 7) ?_
            refine tk_ (i:=3) (N:=some 91) (bA 20 15) ?_
            refine pu_ (i:=4) (N:=some 92) (bA 20 31) ?_
            refine pu_ (i:=5) (N:=some 93) (bA 20 63) ?_
            refine pu_ (i:=6) (N:=some 94) (bA 20 127) ?_
            refine pu_ (i:=7) (N:=some 95) (bA 20 255) ?_
            refine tk_ (i:=8) (N:=some 96) (bA 20 511) ?_
            refine pu_ (i:=9) (N:=some 97) (bA 20 1023) ?_
            refine tk_ (i:=10) (N:=some 98) (bA 20 2047) ?_
            refine pu_ (i:=11) (N:=some 99) (bA 20 4095) ?_
            refine pu_ (i:=12) (N:=some 100) (bA 20 8191) ?_
            refine pu_ (i:=13) (N:=some 101) (bA 20 16383) ?_
            refine pu_ (i:=14) (N:=some 102) (bA 20 32767) ?_
            refine tk_ (i:=15) (N:=some 103) (bA 20 65535) ?_
            refine pu_ (i:=16) (N:=some 104) (bA 20 131071) ?_
            refine tk_ (i:=17) (N:=some 105) (bA 20 262143) ?_
            refine pu_ (i:=18) (N:=some 106) (bA 20 524287) ?_
            obtain ⟨x9,f9⟩:=Kd.R_celln 0 HRa2.out (c:Int) z23_2 z23_2
            rw [Int.toNat_natCast] at x9 f9
            generalize rdOf 0 (Q.rowG u v (glueL u nt v mtt) i c) (c:Int)=q9 at x9
            refine last_ (i:=19) (N:=none) (bA 20 1048575) rfl rfl z23_5 (by decide) (fun K hK=>?_)
            refine skip_ (w1:=?_) (by rfl) rfl ?_ ?_
            rotate_left
            ·
             go_simp
             rfl
            refine hK.out _ _ ?_
            clear hK K
            refine done_ z23_5 ?_
            have HRc:Aside0 (Kd.R (Kd.int .i64) 3 (wb.setCell ⟨g11,c,none⟩ (.int .i64 vv)) W1.heap.size (fun _=>True) (.slice (some ⟨g11,0,none⟩) n a0) (Q.rowG u v (glueL u nt v mtt) i (c+1))):=⟨(by have h:=(Kd.R_putg HRa2.out (c:Int) vv).1;rw [Int.toNat_natCast] at h;rw [← E0.out.1,EV.out];exact h)⟩
            have HBc:=ak (below_set (j:=c) (v:=.int .i64 vv) HBa2.out HG11.out)
            generalize wb.setCell ⟨g11,c,none⟩ (.int .i64 vv)=wc at HRc HBc ⊢
            clear x9 f9 hHeld HRa2 HBa2
            try go_wp2
            have HRc2:=ak (Kd.R_drew HRc.out)
            have HBc2:=ak (below_drew HBc.out)
            refine start_ (n:=15) (S:=fun w'=>w'.cell? ⟨b2,1,none⟩=some (.slice (some an) nt.length cn)∧w'.cell? (al.add p)=some (.int .i64 (X:Int))∧w'.cell? (an.add X)=some (.int .i64 zz)∧w'.cell? (al.add q)=some (.int .i64 (Y:Int))) (ds:=[]) (bA 15 0) z23_5 rfl rfl ⟨GlW.cell_ F6.out HBc2.out,GlW.cell_ F1.out HBc2.out,GlW.cell_ F5.out HBc2.out,GlW.cell_ F2.out HBc2.out⟩ (fun hHeld=>?_)
            generalize (wc).drew=wd at HRc2 HBc2 hHeld ⊢
            refine pu_ (i:=0) (N:=some 107) (bA 15 1) ?_
            refine tk_ (i:=1) (N:=some 108) (bA 15 3) ?_
            refine pu_ (i:=2) (N:=some 109) (bA 15 7) ?_
            refine pu_ (i:=3) (N:=some 110) (bA 15 15) ?_
            refine pu_ (i:=4) (N:=some 111) (bA 15 31) ?_
            refine pu_ (i:=5) (N:=some 112) (bA 15 63) ?_
            refine tk_ (i:=6) (N:=some 113) (bA 15 127) ?_
            refine pu_ (i:=7) (N:=some 114) (bA 15 255) ?_
            refine tk_ (i:=8) (N:=some 115) (bA 15 511) ?_
            refine pu_ (i:=9) (N:=some 116) (bA 15 1023) ?_
            refine pu_ (i:=10) (N:=some 117) (bA 15 2047) ?_
            refine pu_ (i:=11) (N:=some 118) (bA 15 4095) ?_
            refine pu_ (i:=12) (N:=some 119) (bA 15 8191) ?_
            refine tk_ (i:=13) (N:=some 120) (bA 15 16383) ?_
            refine pu_ (i:=14) (N:=some 121) (bA 15 32767) ?_
            refine done_ z23_5 ?_
            clear hHeld HRc HBc
            have s0:=ak True.intro
            by_cases e:zz=(Y:Int)
            ·
             have e1:=bt_ e
             have E1:=ak (E0.out.2.1 (EZ.out.trans e))
             clear e
             go_wp2_with (first
              | (clear s0;go_at_call 72;(with_reducible refine (spec_l1In.calls _ _ _ false _ ?q).mono ?_);(case q=>exact l1In_f J3.out);rintro e w5 ⟨rfl,hD⟩;obtain ⟨nd0,rfl⟩:=hD;have s1:=ak True.intro))
             go_roundw
             case rel=>exact ⟨c+1,_,z23_2,rfl,(by go_num),⟨E1.out.symm⟩,⟨z23_1⟩,⟨z23_0⟩⟩
             case measure=>simp [intOf];omega
            have e1:=bv_ e
            have E1:=ak (E0.out.2.2 (fun q=>e (EZ.out.symm.trans q)))
            clear e
            go_wp2_with (first
             | (clear s0;go_at_call 72;(with_reducible refine (spec_l1In.calls _ _ _ false _ ?q).mono ?_);(case q=>exact l1In_f J3.out);rintro e w5 ⟨rfl,hD⟩;obtain ⟨nd0,rfl⟩:=hD;have s1:=ak True.intro))
            go_roundw
            case rel=>exact ⟨c+1,_,z23_2,rfl,(by go_num),⟨HX.out.trans E1.out.symm⟩,⟨z23_1⟩,⟨z23_0⟩⟩
            case measure=>simp [intOf];omega
           have E0:=ak (S.out.out_ gi z23_2 z23_2 hct (if_pos rfl) hinX (S.out.nleft EA.out hct h2))
           clear hinX gi eX hX
           rw [E0.out.1] at HO
           have J1:Aside0 ((1:Int)≤(i:Int)∧(i:Int)≤(FA.length:Int)):=⟨z23_2⟩
           have J2:Aside0 (¬((1:Int)≤(c:Int)∧(c:Int)≤(FA.length:Int))):=⟨z23_2⟩
           have J3:Aside0 (¬((FA.length:Int)+1≤(i:Int)∧(i:Int)≤(n:Int)-2)):=⟨z23_2⟩
           clear h1 h2
           go_wp2_with (first
            | (clear s0;go_at_call 72;(with_reducible refine (spec_l1In.calls _ _ _ true _ ?q).mono ?_);(case q=>exact l1In_t J1.out);rintro e w5 ⟨rfl,hD⟩;obtain ⟨nd0,rfl⟩:=hD;have s1:=ak True.intro)
            | (clear s1;go_at_call 72;(with_reducible refine (spec_l1In.calls _ _ _ false _ ?q).mono ?_);(case q=>exact l1In_f J2.out);rintro e w5 ⟨rfl,hD⟩;obtain ⟨nd1,rfl⟩:=hD;have s2:=ak True.intro)
            | (clear s2;go_at_call 72;(with_reducible refine (spec_l1In.calls _ _ _ false _ ?q).mono ?_);(case q=>exact l1In_f J3.out);rintro e w5 ⟨rfl,hD⟩;obtain ⟨nd2,rfl⟩:=hD;have s3:=ak True.intro))
           go_roundw
           case rel=>exact ⟨c+1,_,z23_2,rfl,(by go_num),⟨HX.out.trans E0.out.2.symm⟩,⟨z23_4⟩,⟨z23_3⟩⟩
           case measure=>simp [intOf];omega
          have h1:FA.length+1≤i∧i≤FA.length+FB.length:=by omega
          obtain ⟨X,eX,hX,hinX,gi⟩:=S.out.right EA.out EB.out h1.1 h1.2
          by_cases h2:FA.length+1≤c∧c≤FA.length+FB.length
          ·
           obtain ⟨Y,eY,hY,hinY,gc⟩:=S.out.right EA.out EB.out h2.1 h2.2
           have E0:=ak (S.out.in_ gi gc z23_2 z23_2 z23_2 z23_2 hX hY (if_neg (by decide)) (if_neg (by decide)) a3.out.1.1 (by decide) hinX)
           clear hinX hinY gi gc
           have GR:=ak (HWB.out.below G.out.below)
           obtain ⟨p,hp⟩ : ∃ p,i-FA.length-1=p:=⟨_,rfl⟩
           obtain ⟨q,hq⟩ : ∃ q,c-FA.length-1=q:=⟨_,rfl⟩
           rw [hp] at eX
           rw [hq] at eY
           obtain ⟨al,ad,ar,an,d1,vv,zz,rA,rU,rN,ev,ez,f1,f2,f3,f4,f5⟩:=GR.out.reads a3.out z23_2 z23_2 eX eY hX hY
           subst rA
           subst rU
           subst rN
           have F0:=ak GR.out.c0
           have F6:=ak GR.out.c1
           have F1:=ak (f1)
           have F2:=ak (f2)
           have F3:=ak (f3)
           have F4:=ak (f4)
           have F5:=ak (f5)
           have EV:=ak ev
           have EZ:=ak ez
           clear GR f1 f2 f3 f4 f5 ev ez eX eY
           have hnl:=a3.out.2.1
           have C0:(0:Int)≤c:=by omega
           have C1:(c:Int)<(n:Int):=by omega
           have X0:(0:Int)≤X:=by omega
           have X1:(X:Int)<(v.length:Int):=by omega
           have X2:(X:Int)<(mtt.length:Int):=by omega
           have Y0:(0:Int)≤Y:=by omega
           have Y1:(Y:Int)<(v.length:Int):=by omega
           have p0:(0:Int)≤p:=by omega
           have p1:(p:Int)<(FB.length:Int):=by omega
           have q0:(0:Int)≤q:=by omega
           have q1:(q:Int)<(FB.length:Int):=by omega
           have J1:Aside0 (¬((1:Int)≤(i:Int)∧(i:Int)≤(FA.length:Int))):=⟨z23_2⟩
           have J2:Aside0 ((FA.length:Int)+1≤(i:Int)∧(i:Int)≤(n:Int)-2):=⟨z23_2⟩
           have J3:Aside0 ((FA.length:Int)+1≤(c:Int)∧(c:Int)≤(n:Int)-2):=⟨z23_2⟩
           obtain ⟨pa,hpa⟩ : ∃ x,i-FA.length=x:=⟨_,rfl⟩
           obtain ⟨qa,hqa⟩ : ∃ x,c-FA.length=x:=⟨_,rfl⟩
           rw [hpa] at hp
           rw [hqa] at hq
           have wpa:wrap64 ((i:Int)-(FA.length:Int))=(pa:Int):=hpa▸wr_sub z23_2 z23_2
           have wqa:wrap64 ((c:Int)-(FA.length:Int))=(qa:Int):=hqa▸wr_sub z23_2 z23_2
           have wp:wrap64 ((pa:Int)-1)=(p:Int):=hp▸wr_sub (b:=1) z23_2 z23_2
           have wq:wrap64 ((qa:Int)-1)=(q:Int):=hq▸wr_sub (b:=1) z23_2 z23_2
           clear hp hq h1 h2 hX hY hnl hpa hqa
           go_wp2_with (first
            | (clear s0;go_at_call 72;(with_reducible refine (spec_l1In.calls _ _ _ false _ ?q).mono ?_);(case q=>exact l1In_f J1.out);rintro e w5 ⟨rfl,hD⟩;obtain ⟨nd0,rfl⟩:=hD;have s1:=ak True.intro)
            | (clear s1;go_at_call 72;(with_reducible refine (spec_l1In.calls _ _ _ true _ ?q).mono ?_);(case q=>exact l1In_t J2.out);rintro e w5 ⟨rfl,hD⟩;obtain ⟨nd1,rfl⟩:=hD;have s2:=ak True.intro)
            | (clear s2;go_at_call 72;(with_reducible refine (spec_l1In.calls _ _ _ true _ ?q).mono ?_);(case q=>exact l1In_t J3.out);rintro e w5 ⟨rfl,hD⟩;obtain ⟨nd2,rfl⟩:=hD;have s3:=ak True.intro))
           have HRa2:=ak (Kd.R_drew (Kd.R_drewN HO.out (nd0+nd1+nd2)))
           have HBa2:=ak (below_drew (pw_below_drewN HB.out (nd0+nd1+nd2)))
           refine start_ (n:=26) (S:=fun w'=>w'.cell? ⟨b3,0,none⟩=some (.slice (some ad) v.length cv)∧w'.cell? (al.add p)=some (.int .i64 (X:Int))∧w'.cell? (ad.add X)=some (.slice (some ar) v.length d1)∧w'.cell? (al.add q)=some (.int .i64 (Y:Int))∧w'.cell? (ar.add Y)=some (.int .i64 vv)) (ds:=[25]) (bA 26 0) z23_5 rfl rfl ⟨GlW.cell_ F0.out HBa2.out,GlW.cell_ F1.out HBa2.out,GlW.cell_ F3.out HBa2.out,GlW.cell_ F2.out HBa2.out,GlW.cell_ F4.out HBa2.out⟩ (fun hHeld=>?_)
           generalize (wr.drewN (nd0+nd1+nd2)).drew=wb at HRa2 HBa2 hHeld ⊢
           clear HO HB
           refine pu_ (i:=0) (N:=some 139) (bA 26 1) ?_
           refine pu_ (i:=1) (N:=some 140) (bA 26 3) ?_
           refine pu_ (i:=2) (N:=some 141) (bA 26 7) ?_
           refine tk_ (i:=3) (N:=some 142) (bA 26 15) ?_
           refine pu_ (i:=4) (N:=some 143) (bA 26 31) ?_
           refine pu_ (i:=5) (N:=some 144) (bA 26 63) ?_
           refine pu_ (i:=6) (N:=some 145) (bA 26 127) ?_
           refine pu_ (i:=7) (N:=some 146) (bA 26 255) ?_
           refine pu_ (i:=8) (N:=some 147) (bA 26 511) ?_
           refine pu_ (i:=9) (N:=some 148) (bA 26 1023) ?_
           refine pu_ (i:=10) (N:=some 149) (bA 26 2047) ?_
           refine tk_ (i:=11) (N:=some 150) (bA 26 4095) ?_
           refine pu_ (i:=12) (N:=some 151) (bA 26 8191) ?_
           refine tk_ (i:=13) (N:=some 152) (bA 26 16383) ?_
           refine pu_ (i:=14) (N:=some 153) (bA 26 32767) ?_
           refine pu_ (i:=15) (N:=some 154) (bA 26 65535) ?_
           refine pu_ (i:=16) (N:=some 155) (bA 26 131071) ?_
           refine pu_ (i:=17) (N:=some 156) (bA 26 262143) ?_
           refine pu_ (i:=18) (N:=some 157) (bA 26 524287) ?_
           refine pu_ (i:=19) (N:=some 158) (bA 26 1048575) ?_
           refine pu_ (i:=20) (N:=some 159) (bA 26 2097151) ?_
           refine tk_ (i:=21) (N:=some 160) (bA 26 4194303) ?_
           refine pu_ (i:=22) (N:=some 161) (bA 26 8388607) ?_
           refine tk_ (i:=23) (N:=some 162) (bA 26 16777215) ?_
           refine pu_ (i:=24) (N:=some 163) (bA 26 33554431) ?_
           obtain ⟨x9,f9⟩:=Kd.R_celln 0 HRa2.out (c:Int) z23_2 z23_2
           rw [Int.toNat_natCast] at x9 f9
           generalize rdOf 0 (Q.rowG u v (glueL u nt v mtt) i c) (c:Int)=q9 at x9
           refine last_ (i:=25) (N:=none) (bA 26 67108863) rfl rfl z23_5 (by decide) (fun K hK=>?_)
           refine skip_ (w1:=?_) (by rfl) rfl ?_ ?_
           rotate_left
           ·
            go_simp
            rfl
           refine hK.out _ _ ?_
           clear hK K
           refine done_ z23_5 ?_
           have HRc:Aside0 (Kd.R (Kd.int .i64) 3 (wb.setCell ⟨g11,c,none⟩ (.int .i64 vv)) W1.heap.size (fun _=>True) (.slice (some ⟨g11,0,none⟩) n a0) (Q.rowG u v (glueL u nt v mtt) i (c+1))):=⟨(by have h:=(Kd.R_putg HRa2.out (c:Int) vv).1;rw [Int.toNat_natCast] at h;rw [← E0.out.1,EV.out];exact h)⟩
           have HBc:=ak (below_set (j:=c) (v:=.int .i64 vv) HBa2.out HG11.out)
           generalize wb.setCell ⟨g11,c,none⟩ (.int .i64 vv)=wc at HRc HBc ⊢
           clear x9 f9 hHeld HRa2 HBa2
           try go_wp2
           have HRc2:=ak (Kd.R_drew HRc.out)
           have HBc2:=ak (below_drew HBc.out)
           refine start_ (n:=21) (S:=fun w'=>w'.cell? ⟨b3,1,none⟩=some (.slice (some an) mtt.length cm)∧w'.cell? (al.add p)=some (.int .i64 (X:Int))∧w'.cell? (an.add X)=some (.int .i64 zz)∧w'.cell? (al.add q)=some (.int .i64 (Y:Int))) (ds:=[]) (bA 21 0) z23_5 rfl rfl ⟨GlW.cell_ F6.out HBc2.out,GlW.cell_ F1.out HBc2.out,GlW.cell_ F5.out HBc2.out,GlW.cell_ F2.out HBc2.out⟩ (fun hHeld=>?_)
           generalize (wc).drew=wd at HRc2 HBc2 hHeld ⊢
           refine pu_ (i:=0) (N:=some 164) (bA 21 1) ?_
           refine tk_ (i:=1) (N:=some 165) (bA 21 3) ?_
           refine pu_ (i:=2) (N:=some 166) (bA 21 7) ?_
           refine pu_ (i:=3) (N:=some 167) (bA 21 15) ?_
           refine pu_ (i:=4) (N:=some 168) (bA 21 31) ?_
           refine pu_ (i:=5) (N:=some 169) (bA 21 63) ?_
           refine pu_ (i:=6) (N:=some 170) (bA 21 127) ?_
           refine pu_ (i:=7) (N:=some 171) (bA 21 255) ?_
           refine pu_ (i:=8) (N:=some 172) (bA 21 511) ?_
           refine tk_ (i:=9) (N:=some 173) (bA 21 1023) ?_
           refine pu_ (i:=10) (N:=some 174) (bA 21 2047) ?_
           refine tk_ (i:=11) (N:=some 175) (bA 21 4095) ?_
           refine pu_ (i:=12) (N:=some 176) (bA 21 8191) ?_
           refine pu_ (i:=13) (N:=some 177) (bA 21 16383) ?_
           refine pu_ (i:=14) (N:=some 178) (bA 21 32767) ?_
           refine pu_ (i:=15) (N:=some 179) (bA 21 65535) ?_
           refine pu_ (i:=16) (N:=some 180) (bA 21 131071) ?_
           refine pu_ (i:=17) (N:=some 181) (bA 21 262143) ?_
           refine pu_ (i:=18) (N:=some 182) (bA 21 524287) ?_
           refine tk_ (i:=19) (N:=some 183) (bA 21 1048575) ?_
           refine pu_ (i:=20) (N:=some 184) (bA 21 2097151) ?_
           refine done_ z23_5 ?_
           clear hHeld HRc HBc
           skip
           by_cases e:zz=(Y:Int)
           ·
            have e1:=bt_ e
            have E1:=ak (E0.out.2.1 (EZ.out.trans e))
            clear e
            try go_wp2
            go_roundw
            case rel=>exact ⟨c+1,_,z23_2,rfl,(by go_num),⟨E1.out.symm⟩,⟨z23_1⟩,⟨z23_0⟩⟩
            case measure=>simp [intOf];omega
           have e1:=bv_ e
           have E1:=ak (E0.out.2.2 (fun q=>e (EZ.out.symm.trans q)))
           clear e
           try go_wp2
           go_roundw
           case rel=>exact ⟨c+1,_,z23_2,rfl,(by go_num),⟨HX.out.trans E1.out.symm⟩,⟨z23_1⟩,⟨z23_0⟩⟩
           case measure=>simp [intOf];omega
          have E0:=ak (S.out.out_ gi z23_2 z23_2 hct (if_neg (by decide)) hinX (S.out.nright EA.out EB.out hct h2))
          clear hinX gi eX hX
          rw [E0.out.1] at HO
          have J1:Aside0 (¬((1:Int)≤(i:Int)∧(i:Int)≤(FA.length:Int))):=⟨z23_2⟩
          have J2:Aside0 ((FA.length:Int)+1≤(i:Int)∧(i:Int)≤(n:Int)-2):=⟨z23_2⟩
          have J3:Aside0 (¬((FA.length:Int)+1≤(c:Int)∧(c:Int)≤(n:Int)-2)):=⟨z23_2⟩
          clear h1 h2
          go_wp2_with (first
           | (clear s0;go_at_call 72;(with_reducible refine (spec_l1In.calls _ _ _ false _ ?q).mono ?_);(case q=>exact l1In_f J1.out);rintro e w5 ⟨rfl,hD⟩;obtain ⟨nd0,rfl⟩:=hD;have s1:=ak True.intro)
           | (clear s1;go_at_call 72;(with_reducible refine (spec_l1In.calls _ _ _ true _ ?q).mono ?_);(case q=>exact l1In_t J2.out);rintro e w5 ⟨rfl,hD⟩;obtain ⟨nd1,rfl⟩:=hD;have s2:=ak True.intro)
           | (clear s2;go_at_call 72;(with_reducible refine (spec_l1In.calls _ _ _ false _ ?q).mono ?_);(case q=>exact l1In_f J3.out);rintro e w5 ⟨rfl,hD⟩;obtain ⟨nd2,rfl⟩:=hD;have s3:=ak True.intro))
          go_roundw
          case rel=>exact ⟨c+1,_,z23_2,rfl,(by go_num),⟨HX.out.trans E0.out.2.symm⟩,⟨z23_4⟩,⟨z23_3⟩⟩
          case measure=>simp [intOf];omega
         have s0:=ak True.intro
         have ec:n=c:=by omega
         subst ec
         have HBW:=ak (below_step G.out.below HB.out)
         have GA:=ak (G.out.up HB.out)
         have hq0:=GA.out.cell0
         have r1_:=Q.rowsG_succ u v (glueL u nt v mtt) i
         have r2_:=Q.notsG_succ nt mtt (glueL u nt v mtt) i
         rw [HGn.out] at r1_ r2_
         have RS1:=ak r1_
         have RS2:=ak r2_
         clear r1_ r2_
         have hrl:=Q.rowG_len (u:=u) (v:=v) (G:=(glueL u nt v mtt)) i n
         rw [HGn.out] at hrl
         generalize hrow:Q.rowG u v (glueL u nt v mtt) i n=row at HO hrl RS1
         clear hrow
         rw [← HX.out] at RS2
         have hl1_:=ak (Q.rowsG_len u v (glueL u nt v mtt) i)
         have hl2_:=ak (Q.notsG_len nt mtt (glueL u nt v mtt) i)
         have HRL:=ak hrl
         clear hrl HX
         generalize Q.rowsG u v (glueL u nt v mtt) i=rows_ at G GA RS1 hl1_
         generalize Q.notsG nt mtt (glueL u nt v mtt) i=nots_ at G GA RS2 hl2_
         go_wp2_with (first
          | (clear s0;(with_reducible refine gate_builtin (b:=.append) (xs:=#[.tmp 187,.tmp 189]) rfl ?_);at_builtin;refine Kd.S_append (Kd.slice 3 (Kd.int .i64)) (w0:=w8) w8.heap.size rfl (.tmp 187) (.tmp 189) 24 25 (.slice none 0 0) 24 rfl Try.underlying24 info25 rfl (by decide) z23_2 vu rows_ row [.slice (some ⟨g11,0,none⟩) n a0] (fun k=>some k≠vn.ownBlock) (fun k=>some k=(Value.slice (some ⟨g11,0,none⟩) n a0).ownBlock) rfl rfl ?aP ?aK ?aF ?aO ?aB ?aS ?aL ?_;(case aP=>exact Kd.M_row (Kd.R_mono (Kd.R_tight rfl (Kd.R_lower HO.out (below_size G.out.below))) (fun _ h_=>h_)));(case aK=>exact fun k hk=>⟨fun e=>by have h1:=Kd.R_base HO.out k hk.symm;have h2:=Kd.R_lt G.out.B k e.symm;omega,fun e=>by have h1:=Kd.R_base HO.out k hk.symm;have h2:=Kd.S_lt G.out.A k e.symm;omega⟩);(case aF=>exact fun k hk e=>by have h2:=Kd.R_lt GA.out.B k e.symm;omega);(case aO=>exact Kd.S_mono (Kd.S_below (Kd.S_bound G.out.A) HB.out) (fun k hk=>⟨hk.1,fun e=>by have h1:=Kd.R_base HO.out k e.symm;have h2:=hk.2.2.1;omega⟩));(case aB=>exact GA.out.below);(case aS=>exact below_size GA.out.below);(case aL=>have:=hl1_.out;omega);intro v1 w4 ho hb_ hg hat;have GB:=ak (GA.out.grownU ho hb_ hg hat);rw [← RS1.out] at GB;clear ho hb_ hg hat GA hq0;obtain ⟨A4,c4,e4⟩:=Kd.S_slice GB.out.A;subst e4;have GC:=ak (GB.out.setU (.slice A4 (Q.rowsG u v (glueL u nt v mtt) (i+1)).length c4));have hq1:=GB.out.cell0;have hz1:=blk_frozen GB.out.box 0;have hq2:=GC.out.cell1;have s1:=ak True.intro)
          | (clear s1;(with_reducible refine gate_builtin (b:=.append) (xs:=#[.tmp 193,.tmp 195]) rfl ?_);at_builtin;refine Kd.R_append (Kd.int .i64) (w0:=w8) w8.heap.size rfl (.tmp 193) (.tmp 195) 25 3 (.int .i64 0) 8 rfl Try.underlying25 info3 rfl (by decide) z23_2 vn nots_ x [.int .i64 x] (fun _=>True) (fun _=>False) rfl (by first|rfl|(go_simp;done)|(go_simp;rfl)) rfl (fun _ hk=>hk.elim) (fun _ _=>trivial) GC.out.B GC.out.below (below_size GC.out.below) (by have:=hl2_.out;omega) ?_;intro v2 w5 ho hb_ hg hat;have GE:=ak (GC.out.grownN ho hb_ hg hat);rw [← RS2.out] at GE;clear ho hb_ hg hat GC GB hq1 hz1 hq2;obtain ⟨A5,c5,e5⟩:=Kd.R_slice GE.out.B;subst e5;have GF:=ak (GE.out.setN (.slice A5 (Q.notsG nt mtt (glueL u nt v mtt) (i+1)).length c5));have hq3:=GE.out.cell1;have hz3:=blk_frozen GE.out.box 1;have s2:=ak True.intro))
         go_roundw
         case rel=>exact ⟨i+1,_,_,z23_2,(by go_num),GF⟩
         case measure=>simp [intOf];omega
       have ei:n=i:=by omega
       subst ei
       have HLf:=ak (HL.out.step G.out.below)
       have hq0:=G.out.cell0
       have hq1:=G.out.cell1
       have hr0:wr.cell? ⟨b4,0,none⟩=some (.slice none 0 0):=Live.cell [_,_] HLf.out 0 rfl
       have hr1:wr.cell? ⟨b4,1,none⟩=some (.slice none 0 0):=Live.cell [_,_] HLf.out 1 rfl
       have hx0:=Live.frozen [_,_] HLf.out 0
       have hx1:=Live.frozen [_,_] HLf.out 1
       have e0:=Q.rowsG_all u v (glueL u nt v mtt)
       have e0b:=S.out.nots_
       rw [HGn.out] at e0 e0b
       have er:=HRES.out
       rw [HRZ.out,HGn.out,← e0,← e0b] at er
       obtain ⟨e1,e23⟩:=Prod.mk.inj er
       obtain ⟨e2,e3⟩:=Prod.mk.inj e23
       rw [e1,e2] at G
       clear HRES HRZ er e23 e1 e2 e0 e0b
       subst e3
       obtain ⟨A4,c4,e4⟩:=Kd.S_slice G.out.A
       obtain ⟨A5,c5,e5⟩:=Kd.R_slice G.out.B
       subst e4
       subst e5
       go_wp2
       have HP:=Live.put [_,_] (Live.put [_,_] HLf.out 0 (.slice A4 r1.length c4) rfl) 1 (.slice A5 r2.length c5) rfl
       refine bodyPost_ret (results_ct rfl _ _ b4 27 #[.slice A4 r1.length c4,.slice A5 r2.length c5] (0,0) _ rfl (Live.cells [_,_] HP) hul rfl z23_5) rfl ?_
       have hb4:=Live.cells [_,_] HLf.out
       have hz:=below_size HL.out.below
       exact ⟨_,_,rfl,Kd.S_lower (Kd.S_set (Kd.S_set G.out.A hb4 (by decide) 0 _) (blk_put hb4 0 _ rfl) (by decide) 1 _) hz,Kd.R_lower (Kd.R_set (Kd.R_set G.out.B hb4 (by decide) 0 _) (blk_put hb4 0 _ rfl) (by decide) 1 _) hz,HP.below⟩
     have d3:decide ((n:Int)>12)=true:=dT_ z23_2
     have d3b:decide (12<n)=true:=dT_ z23_2
     have d3c:decide (12<(n:Int))=true:=d3
     have er:gluedF u nt v mtt=([],[],false):=if_neg (fun q=>by have:=q.2.2.2.2;omega)
     rw [er] at HRES
     obtain ⟨e1,e23⟩:=Prod.mk.inj HRES.out
     obtain ⟨e2,e3⟩:=Prod.mk.inj e23
     clear HRES er e23
     subst e1
     subst e2
     subst e3
     clear hl1 hl2 k1 k2 k3 eA eB n1 n2 u12 a1 gn gl
     go_wp2_with (clear s6;go_at_call 30;refine arm_ (rs':=[.ints (.slice A7 FB.length c7) FB,.ints (.slice A6 FA.length c6) FA,.box b4 #[.slice none 0 0,.slice none 0 0] 27,.box b3 #[.slice Av v.length cv,.slice Am mtt.length cm] 27,.box b2 #[.slice Au u.length cu,.slice An nt.length cn] 27]) HL ?_;clear HL;intro HL;(with_reducible refine (spec_LogicOk.calls kD _ _ v _ _ mtt true _ ?s1 ?s2 ?s3 ?s4 HKf.out).mono ?_);(case s1=>exact HL.out.came HV.out);(case s2=>exact HCV.out);(case s3=>exact HL.out.came HMt.out);(case s4=>exact HCM.out);rintro e w8 ⟨rfl,hb⟩;have HL1:Aside0 (Live w w8 [.ints (.slice A7 FB.length c7) FB,.ints (.slice A6 FA.length c6) FA,.box b4 #[.slice none 0 0,.slice none 0 0] 27,.box b3 #[.slice Av v.length cv,.slice Am mtt.length cm] 27,.box b2 #[.slice Au u.length cu,.slice An nt.length cn] 27]):=⟨HL.out.step hb⟩;clear HL hb;have HL:=HL1;clear HL1;have lc0:w8.cell? ⟨b2,0,none⟩=some (.slice Au u.length cu):=Live.cell [_,_,_,_] HL.out 0 rfl;have lc1:w8.cell? ⟨b2,1,none⟩=some (.slice An nt.length cn):=Live.cell [_,_,_,_] HL.out 1 rfl;have ld0:w8.cell? ⟨b3,0,none⟩=some (.slice Av v.length cv):=Live.cell [_,_,_] HL.out 0 rfl;have ld1:w8.cell? ⟨b3,1,none⟩=some (.slice Am mtt.length cm):=Live.cell [_,_,_] HL.out 1 rfl;have hr0:w8.cell? ⟨b4,0,none⟩=some (.slice none 0 0):=Live.cell [_,_] HL.out 0 rfl;have hr1:w8.cell? ⟨b4,1,none⟩=some (.slice none 0 0):=Live.cell [_,_] HL.out 1 rfl;have hx0:=Live.frozen [_,_] HL.out 0;have hx1:=Live.frozen [_,_] HL.out 1)
     have HP:=Live.put [_,_] (Live.put [_,_] HL.out 0 (.slice none 0 0) rfl) 1 (.slice none 0 0) rfl
     refine bodyPost_ret (results_ct rfl _ _ b4 27 #[.slice none 0 0,.slice none 0 0] (0,0) _ rfl (Live.cells [_,_] HP) hul rfl z23_5) rfl ?_
     exact ⟨_,_,rfl,Kd.S_nil _ _ _ _ _,Kd.R_nil _ _ _ _ _,HP.below⟩
    have d2:decide ((mtt.length:Int)<2)=true:=dT_ z23_2
    have d2b:decide (mtt.length<2)=true:=dT_ z23_2
    have er:gluedF u nt v mtt=([],[],false):=if_neg (fun q=>k2 q.2.2.2.1)
    rw [er] at HRES
    obtain ⟨e1,e23⟩:=Prod.mk.inj HRES.out
    obtain ⟨e2,e3⟩:=Prod.mk.inj e23
    clear HRES er e23
    subst e1
    subst e2
    subst e3
    clear hl1 hl2 k1 k2 eA eB n1 n2 u12 a1
    go_wp2_with (clear s6;go_at_call 30;refine arm_ (rs':=[.ints (.slice A7 FB.length c7) FB,.ints (.slice A6 FA.length c6) FA,.box b4 #[.slice none 0 0,.slice none 0 0] 27,.box b3 #[.slice Av v.length cv,.slice Am mtt.length cm] 27,.box b2 #[.slice Au u.length cu,.slice An nt.length cn] 27]) HL ?_;clear HL;intro HL;(with_reducible refine (spec_LogicOk.calls kD _ _ v _ _ mtt true _ ?s1 ?s2 ?s3 ?s4 HKf.out).mono ?_);(case s1=>exact HL.out.came HV.out);(case s2=>exact HCV.out);(case s3=>exact HL.out.came HMt.out);(case s4=>exact HCM.out);rintro e w8 ⟨rfl,hb⟩;have HL1:Aside0 (Live w w8 [.ints (.slice A7 FB.length c7) FB,.ints (.slice A6 FA.length c6) FA,.box b4 #[.slice none 0 0,.slice none 0 0] 27,.box b3 #[.slice Av v.length cv,.slice Am mtt.length cm] 27,.box b2 #[.slice Au u.length cu,.slice An nt.length cn] 27]):=⟨HL.out.step hb⟩;clear HL hb;have HL:=HL1;clear HL1;have lc0:w8.cell? ⟨b2,0,none⟩=some (.slice Au u.length cu):=Live.cell [_,_,_,_] HL.out 0 rfl;have lc1:w8.cell? ⟨b2,1,none⟩=some (.slice An nt.length cn):=Live.cell [_,_,_,_] HL.out 1 rfl;have ld0:w8.cell? ⟨b3,0,none⟩=some (.slice Av v.length cv):=Live.cell [_,_,_] HL.out 0 rfl;have ld1:w8.cell? ⟨b3,1,none⟩=some (.slice Am mtt.length cm):=Live.cell [_,_,_] HL.out 1 rfl;have hr0:w8.cell? ⟨b4,0,none⟩=some (.slice none 0 0):=Live.cell [_,_] HL.out 0 rfl;have hr1:w8.cell? ⟨b4,1,none⟩=some (.slice none 0 0):=Live.cell [_,_] HL.out 1 rfl;have hx0:=Live.frozen [_,_] HL.out 0;have hx1:=Live.frozen [_,_] HL.out 1)
    have HP:=Live.put [_,_] (Live.put [_,_] HL.out 0 (.slice none 0 0) rfl) 1 (.slice none 0 0) rfl
    refine bodyPost_ret (results_ct rfl _ _ b4 27 #[.slice none 0 0,.slice none 0 0] (0,0) _ rfl (Live.cells [_,_] HP) hul rfl z23_5) rfl ?_
    exact ⟨_,_,rfl,Kd.S_nil _ _ _ _ _,Kd.R_nil _ _ _ _ _,HP.below⟩
   have d1:decide ((nt.length:Int)<2)=true:=dT_ z23_2
   have d1b:decide (nt.length<2)=true:=dT_ z23_2
   have er:gluedF u nt v mtt=([],[],false):=if_neg (fun q=>k1 q.2.2.1)
   rw [er] at HRES
   obtain ⟨e1,e23⟩:=Prod.mk.inj HRES.out
   obtain ⟨e2,e3⟩:=Prod.mk.inj e23
   clear HRES er e23
   subst e1
   subst e2
   subst e3
   clear hl1 hl2 k1 eA eB n1 n2 u12 a1
   go_wp2_with (clear s6;go_at_call 30;refine arm_ (rs':=[.ints (.slice A7 FB.length c7) FB,.ints (.slice A6 FA.length c6) FA,.box b4 #[.slice none 0 0,.slice none 0 0] 27,.box b3 #[.slice Av v.length cv,.slice Am mtt.length cm] 27,.box b2 #[.slice Au u.length cu,.slice An nt.length cn] 27]) HL ?_;clear HL;intro HL;(with_reducible refine (spec_LogicOk.calls kD _ _ v _ _ mtt true _ ?s1 ?s2 ?s3 ?s4 HKf.out).mono ?_);(case s1=>exact HL.out.came HV.out);(case s2=>exact HCV.out);(case s3=>exact HL.out.came HMt.out);(case s4=>exact HCM.out);rintro e w8 ⟨rfl,hb⟩;have HL1:Aside0 (Live w w8 [.ints (.slice A7 FB.length c7) FB,.ints (.slice A6 FA.length c6) FA,.box b4 #[.slice none 0 0,.slice none 0 0] 27,.box b3 #[.slice Av v.length cv,.slice Am mtt.length cm] 27,.box b2 #[.slice Au u.length cu,.slice An nt.length cn] 27]):=⟨HL.out.step hb⟩;clear HL hb;have HL:=HL1;clear HL1;have lc0:w8.cell? ⟨b2,0,none⟩=some (.slice Au u.length cu):=Live.cell [_,_,_,_] HL.out 0 rfl;have lc1:w8.cell? ⟨b2,1,none⟩=some (.slice An nt.length cn):=Live.cell [_,_,_,_] HL.out 1 rfl;have ld0:w8.cell? ⟨b3,0,none⟩=some (.slice Av v.length cv):=Live.cell [_,_,_] HL.out 0 rfl;have ld1:w8.cell? ⟨b3,1,none⟩=some (.slice Am mtt.length cm):=Live.cell [_,_,_] HL.out 1 rfl;have hr0:w8.cell? ⟨b4,0,none⟩=some (.slice none 0 0):=Live.cell [_,_] HL.out 0 rfl;have hr1:w8.cell? ⟨b4,1,none⟩=some (.slice none 0 0):=Live.cell [_,_] HL.out 1 rfl;have hx0:=Live.frozen [_,_] HL.out 0;have hx1:=Live.frozen [_,_] HL.out 1)
   have HP:=Live.put [_,_] (Live.put [_,_] HL.out 0 (.slice none 0 0) rfl) 1 (.slice none 0 0) rfl
   refine bodyPost_ret (results_ct rfl _ _ b4 27 #[.slice none 0 0,.slice none 0 0] (0,0) _ rfl (Live.cells [_,_] HP) hul rfl z23_5) rfl ?_
   exact ⟨_,_,rfl,Kd.S_nil _ _ _ _ _,Kd.R_nil _ _ _ _ _,HP.below⟩
theorem spec_GluedOf.calls (A0_0:Option Addr) (c0_0:Nat) (l0_0:List (List Int)) (A0_1:Option Addr) (c0_1:Nat) (l0_1:List Int) (A1_0:Option Addr) (c1_0:Nat) (l1_0:List (List Int)) (A1_1:Option Addr) (c1_1:Nat) (l1_1:List Int) (r1:List (List Int)) (r2:List Int) (r3:Bool) (w:World) (hr0_0:Kd.C (Kd.slice 3 (Kd.int .i64)) w A0_0 l0_0.length l0_0) (hc0_0:l0_0.length≤c0_0) (hr0_1:Kd.C (Kd.int .i64) w A0_1 l0_1.length l0_1) (hc0_1:l0_1.length≤c0_1) (hr1_0:Kd.C (Kd.slice 3 (Kd.int .i64)) w A1_0 l1_0.length l1_0) (hc1_0:l1_0.length≤c1_0) (hr1_1:Kd.C (Kd.int .i64) w A1_1 l1_1.length l1_1) (hc1_1:l1_1.length≤c1_1) (h:spec_GluedOf.f l0_0 l0_1 l1_0 l1_1=some (r1,r2,r3)) :
    Calls Try.prog 53 #[.agg #[.slice A0_0 l0_0.length c0_0,.slice A0_1 l0_1.length c0_1],.agg #[.slice A1_0 l1_0.length c1_0,.slice A1_1 l1_1.length c1_1]] w fun e w'=>∃ v0_ v1_:Value,e = .returned (.tuple #[.agg #[v0_,v1_],.bool r3])∧Kd.S (Kd.slice 3 (Kd.int .i64)) 25 w' w.heap.size (fun k_=>some k_≠(v1_:Value).ownBlock) v0_ r1∧Kd.R (Kd.int .i64) 3 w' w.heap.size (fun _=>True) v1_ r2∧Below w.heap.size w w':=specGlued_core A0_0 c0_0 l0_0 A0_1 c0_1 l0_1 A1_0 c1_0 l1_0 A1_1 c1_1 l1_1 w hr0_0 hc0_0 hr0_1 hc0_1 hr1_0 hc1_0 hr1_1 hc1_1 r1 r2 r3 h
end Go.Proofs.Ytacifhahfamipaa.P
