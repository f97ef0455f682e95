-- written by gen.py (a program of this session) out of the kit's print of this seat's translation
import Derived.Test.YtacifhahfamipaaPk2
namespace Go.Proofs.Ytacifhahfamipaa.P
open Go.RowKit Go.Proofs.YtacifhahfamipaaW.PrintWords Go.Proofs.YtacifhahfamipaaW.PrintLast Go.Proofs.YtacifhahfamipaaW.PrintMore
attribute [local go_sem] max2_int min2_int max_two min_two max_three min_three max_four min_four
set_option linter.unusedVariables false
set_option linter.unusedSimpArgs false
theorem zk_1 {p : Prop} (h : p := by first | rfl | (simp; done) | (simp [*]; done)) : p := h
theorem zk_0 {p : Prop} (h : p := by repeat (first | exact Drawn0.refl _ | apply Drawn0.step)) : p := h
set_option maxHeartbeats 8000000 in
set_option maxRecDepth 100000 in
theorem laws_hasInt.calls (k : Nat) (A0 : Option Addr) (c0 : Nat) (l0 : List Int) (a1 : Int) (r : Bool) (w : World) (hr0 : Kd.C (Kd.int .i64) w A0 l0.length l0) (hc0 : l0.length ≤ c0) (h : laws_hasInt.f k l0 a1 = some r) :
 Calls Try.prog 60 #[.slice A0 l0.length c0, .int .i64 a1] w fun e w' => e = .returned (.bool r) ∧ Drawn0 w w' := by
 have HR0 := ak hr0
 have a7 := ak hc0
 clear hr0 hc0
 have H : (laws_hasInt.l0 k l0 a1 0) = some r := h
 clear h
 have H' := ak H
 clear H
 go_enter Try.func60, Try.ntmps60
 go_wp2
 go_loopg [5] k (fun kq v5 w' => ∃ (a0 : Int), v5 = .int .i64 a0 ∧ Aside0 (laws_hasInt.l0 kq l0 a1 a0 = some r) ∧ Aside0 (kq ≤ k) ∧ Drawn0 w w')
 case atStart => exact ⟨(0), zk_1, H', ⟨Nat.le_refl _⟩, zk_0⟩
 case round =>
  clear H'
  obtain ⟨a0, rfl, HA, HK1, ⟨m1, rfl⟩⟩ := hrel
  cases gk with
  | zero => exact absurd HA.out (by simp [laws_hasInt.l0])
  | succ k1 =>
   have H := HA.out
   clear HA
   simp only [laws_hasInt.l0] at H
   replace H := os_ H
   rcases H with ⟨a3, H⟩ | ⟨a3, H⟩
   ·
    replace H := od_ H
    obtain ⟨a6, H⟩ := H
    replace H := oe2 H
    rcases H with ⟨⟨-, a4, a5⟩, H⟩ | ⟨⟨c5, a4, a5⟩, H⟩
    ·
     obtain rfl := Option.some.inj H
     obtain ⟨ad1282, e1282, hx1282_0, a2, q1282⟩ := ai_ HR0.out a0
     cases e1282
     go_wp2
     go_ret
     exact ⟨zk_1, zk_0⟩
    have H' := ak H
    clear H
    obtain ⟨ad1282, e1282, hx1282_0, a2, q1282⟩ := ai_ HR0.out a0
    cases e1282
    go_wp2
    go_roundg k1
    case measure => have := HK1.out; omega
    case rel => exact ⟨(wrap64 (a0 + 1)), zk_1, H', ⟨(by have := HK1.out; omega)⟩, zk_0⟩
   obtain rfl := Option.some.inj H
   go_wp2
   go_ret
   exact ⟨zk_1, zk_0⟩

end Go.Proofs.Ytacifhahfamipaa.P
