import Derived.Test.YtlkibgccgkhdmaaPk8
import Derived.Test.YtlkibgccgkhdmaaPk7
import Derived.Test.YtlkibgccgkhdmaaPk6
import Derived.Test.YtlkibgccgkhdmaaFImplHas
import Derived.Deep.RegionWith
namespace Go.Proofs.Ytlkibgccgkhdmaa.P
open Go.RowKit Go.Proofs.YtlkibgccgkhdmaaW.PrintWords Go.Proofs.YtlkibgccgkhdmaaW.PrintLast Go.Proofs.YtlkibgccgkhdmaaW.PrintMore Go.Proofs.Cl
set_option linter.unusedVariables false
set_option linter.unusedSimpArgs false
set_option maxHeartbeats 4000000 in
set_option maxRecDepth 100000 in
theorem isSet_nil (s : Int) (w : World) : Calls Try.prog 68 #[.pointer none, .int .i64 s] w fun e w' => e = .returned (.bool false) ∧ Drawn0 w w' := by
  go_enter Try.func68, Try.ntmps68
  go_wp2
  go_ret
  exact ⟨rfl, Drawn0.refl _⟩
set_option maxHeartbeats 4000000 in
set_option maxRecDepth 100000 in
theorem isSet_calls {w : World} {g : Nat} {u a o : List (List Int)} {nt : List Int} {no yes : Int} (h : AlgAt w g u a o nt no yes) (hn : u.length ≤ 12) (s : Int) :
    Calls Try.prog 68 #[.pointer (some ⟨g, 0, none⟩), .int .i64 s] w fun e w' => e = .returned (.bool (isSetB u.length s)) ∧ Drawn0 w w' := by
  obtain ⟨Bu, bu, _, _, _, _, _, _, hz, _⟩ := h
  have hq : w.cell? ⟨g, 0, none⟩ = some (.slice Bu u.length bu) := (blk_cell hz 0).trans rfl
  clear hz
  by_cases h0 : 0 < s
  · have HR := Aside0.mk (Q.isSet_wrap hn h0)
    go_enter Try.func68, Try.ntmps68
    go_wp2
    go_ret
    exact ⟨by rw [HR.out]; rfl, Drawn0.refl _⟩
  · have HR : Aside0 (isSetB u.length s = false) := ⟨decide_eq_false (fun q => h0 q.1)⟩
    go_enter Try.func68, Try.ntmps68
    go_wp2
    go_ret
    exact ⟨by rw [HR.out]; rfl, Drawn0.refl _⟩
end Go.Proofs.Ytlkibgccgkhdmaa.P

