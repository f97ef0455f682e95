import Derived.Test.YtacifhahfamipaaPk2
import Derived.Deep.RegionWith
import Derived.Shelf.Abstract
namespace Go.Proofs.Ytacifhahfamipaa.P
open Go.RowKit Go.Proofs.YtacifhahfamipaaW.PrintWords Go.Proofs.YtacifhahfamipaaW.PrintLast Go.Proofs.YtacifhahfamipaaW.PrintMore
set_option linter.unusedVariables false
set_option linter.unusedSimpArgs false
structure MadeSt (w W : World) (cu cn vu vn : Value) (u : List (List Int)) (nt : List Int) : Prop where
  below : Below w.heap.size w W
  res : W.heap[w.heap.size]? = some (.cells #[.slice none 0 0, .slice none 0 0] 27 (0, 0))
  box : W.heap[w.heap.size + 1]? = some (.cells #[cu, cn] 27 (0, 0))
  A : Kd.S (Kd.slice 3 (Kd.int .i64)) 25 W w.heap.size (fun k => some k ≠ vn.ownBlock) vu u
  B : Kd.R (Kd.int .i64) 3 W w.heap.size (fun _ => True) vn nt
namespace MadeSt
variable {w W w1 : World} {cu cn vu vn : Value} {u : List (List Int)} {nt : List Int}
theorem up (G : MadeSt w W cu cn vu vn u nt) (h : Below W.heap.size W w1) : MadeSt w w1 cu cn vu vn u nt :=
 ⟨below_step G.below h, blk_below G.res h, blk_below G.box h, Kd.S_below G.A h, Kd.R_below G.B h⟩
theorem alloc (G : MadeSt w W cu cn vu vn u nt) (x : Obj) : MadeSt w (W.alloc x) cu cn vu vn u nt := G.up (below_alloc (Below.refl _ _) x)
theorem drew (G : MadeSt w W cu cn vu vn u nt) : MadeSt w W.drew cu cn vu vn u nt := G.up (below_drew (Below.refl _ _))
theorem drewN (G : MadeSt w W cu cn vu vn u nt) (n : Nat) : MadeSt w (W.drewN n) cu cn vu vn u nt := G.up (pw_below_drewN (Below.refl _ _) n)
theorem ge (G : MadeSt w W cu cn vu vn u nt) : w.heap.size ≤ w.heap.size + 1 := Nat.le_succ _
theorem setU (G : MadeSt w W cu cn vu vn u nt) (x : Value) : MadeSt w (W.setCell ⟨w.heap.size + 1, 0, none⟩ x) x cn vu vn u nt :=
 ⟨below_set G.below (Nat.le_succ _), blk_far G.res (by show w.heap.size ≠ w.heap.size + 1; omega) _, blk_put G.box 0 _ rfl, Kd.S_set G.A G.box (by decide) 0 _, Kd.R_set G.B G.box (by decide) 0 _⟩
theorem setN (G : MadeSt w W cu cn vu vn u nt) (x : Value) : MadeSt w (W.setCell ⟨w.heap.size + 1, 1, none⟩ x) cu x vu vn u nt :=
 ⟨below_set G.below (Nat.le_succ _), blk_far G.res (by show w.heap.size ≠ w.heap.size + 1; omega) _, blk_put G.box 1 _ rfl, Kd.S_set G.A G.box (by decide) 1 _, Kd.R_set G.B G.box (by decide) 1 _⟩
theorem grownU {v1 : Value} {u1 : List (List Int)} (G : MadeSt w W cu cn vu vn u nt) (hS : Kd.S (Kd.slice 3 (Kd.int .i64)) 25 w1 w.heap.size (fun k => some k ≠ vn.ownBlock) v1 u1) (hB : Below w.heap.size w w1)
 (hg : W.grownBy w1 vu.ownBlock) (hat : v1.ownBlock = vu.ownBlock ∨ ∃ b, v1.ownBlock = some b ∧ W.heap.size ≤ b) : MadeSt w w1 cu cn v1 vn u1 nt :=
 ⟨hB, blk_grown G.res hg (Kd.S_ne G.A G.res (by decide)), blk_grown G.box hg (Kd.S_ne G.A G.box (by decide)), hS,
  Kd.R_mono (Kd.R_after (ok := fun _ => True) (Kd.R_apart' G.B (Kd.S_typed G.A) (by decide)) hg hat) (fun _ _ => trivial)⟩
theorem grownN {v1 : Value} {n1 : List Int} (G : MadeSt w W cu cn vu vn u nt) (hR : Kd.R (Kd.int .i64) 3 w1 w.heap.size (fun _ => True) v1 n1) (hB : Below w.heap.size w w1)
 (hg : W.grownBy w1 vn.ownBlock) (hat : v1.ownBlock = vn.ownBlock ∨ ∃ b, v1.ownBlock = some b ∧ W.heap.size ≤ b) : MadeSt w w1 cu cn vu v1 u n1 :=
 ⟨hB, blk_grown G.res hg (Kd.R_ne G.B G.res (by decide)), blk_grown G.box hg (Kd.R_ne G.B G.box (by decide)),
  Kd.S_mono (Kd.S_after (ok := fun _ => True) (Kd.S_mono G.A (fun _ hk => ⟨trivial, hk⟩)) hg hat) (fun _ hk => hk.2), hR⟩
theorem cell0 (G : MadeSt w W cu cn vu vn u nt) : W.cell? ⟨w.heap.size + 1, 0, none⟩ = some cu := (blk_cell G.box 0).trans rfl
theorem cell1 (G : MadeSt w W cu cn vu vn u nt) : W.cell? ⟨w.heap.size + 1, 1, none⟩ = some cn := (blk_cell G.box 1).trans rfl
end MadeSt
def rowB (n : Nat) (U : Nat → Nat → Bool) (a b : Nat) : List Int := ((List.range b).map fun c => if U a c = true then 1 else 0) ++ List.replicate (n - b) 0
theorem rowB_len (n : Nat) (U : Nat → Nat → Bool) (a b : Nat) (h : b ≤ n) : (rowB n U a b).length = n := by simp [rowB]; omega
theorem rowB_zero (n : Nat) (U : Nat → Nat → Bool) (a : Nat) : rowB n U a 0 = List.replicate n 0 := by simp [rowB]
theorem rowB_full (n : Nat) (U : Nat → Nat → Bool) (a : Nat) : rowB n U a n = (List.range n).map fun c => if U a c = true then 1 else 0 := by simp [rowB]
theorem rowB_one (n : Nat) (U : Nat → Nat → Bool) (a b : Nat) (h : b < n) (hU : U a b = true) : (rowB n U a b).set b 1 = rowB n U a (b + 1) := by
 unfold rowB
 rw [List.set_append, if_neg (by simp), List.length_map, List.length_range, Nat.sub_self, show n - b = (n - (b + 1)) + 1 by omega, List.replicate_succ, List.set_cons_zero, List.range_succ, List.map_append, List.append_assoc]
 simp [hU]
theorem rowB_no (n : Nat) (U : Nat → Nat → Bool) (a b : Nat) (h : b < n) (hU : U a b = false) : rowB n U a b = rowB n U a (b + 1) := by
 unfold rowB
 rw [show n - b = (n - (b + 1)) + 1 by omega, List.replicate_succ, List.range_succ, List.map_append, List.append_assoc]
 simp [hU]
def rowsB (n : Nat) (U : Nat → Nat → Bool) (i : Nat) : List (List Int) := (List.range i).map fun a => (List.range n).map fun b => if U a b = true then 1 else 0
theorem rowsB_succ (n : Nat) (U : Nat → Nat → Bool) (i : Nat) : rowsB n U (i + 1) = rowsB n U i ++ [(List.range n).map fun b => if U i b = true then 1 else 0] := by simp [rowsB, List.range_succ]
theorem rowsB_len (n : Nat) (U : Nat → Nat → Bool) (i : Nat) : (rowsB n U i).length = i := by simp [rowsB]
theorem madeN_succ (N : Nat → Int) (i : Nat) : madeN (i + 1) N = madeN i N ++ [N i] := by simp [madeN, List.range_succ]
theorem madeN_len (N : Nat → Int) (i : Nat) : (madeN i N).length = i := by simp [madeN]
set_option maxHeartbeats 8000000 in
set_option maxRecDepth 100000 in
theorem made_calls {w : World} (n : Nat) (hn : n ≤ 12) (k1 k2 : Nat) (cap1 cap2 : Array Value) (hk1 : Enters Try.prog k1) (hk2 : Enters Try.prog k2) (U : Nat → Nat → Bool) (N : Nat → Int)
 (h1 : ∀ w' (a b : Nat), Below w.heap.size w w' → a < n → b < n → Calls Try.prog k1 (#[.int .i64 a, .int .i64 b] ++ cap1) w' fun e w2 => e = .returned (.bool (U a b)) ∧ Drawn0 w' w2)
 (h2 : ∀ w' (a : Nat), Below w.heap.size w w' → a < n → Calls Try.prog k2 (#[.int .i64 a] ++ cap2) w' fun e w2 => e = .returned (.int .i64 (N a)) ∧ Drawn0 w' w2) :
 Calls Try.prog 63 #[.int .i64 n, .func (.func k1) #[] cap1, .func (.func k2) #[] cap2] w fun e w' => ∃ v0_ v1_ : Value, e = .returned (.agg #[v0_, v1_]) ∧ Kd.S (Kd.slice 3 (Kd.int .i64)) 25 w' w.heap.size (fun k_ => some k_ ≠ (v1_ : Value).ownBlock) v0_ (madeU n U) ∧ Kd.R (Kd.int .i64) 3 w' w.heap.size (fun _ => True) v1_ (madeN n N) ∧ Below w.heap.size w w' := by
 have eg1 : ∀ (args : Array Value) (w : World), (callFunc k1 args).run Try.prog w = .ok (.enter k1 args) w := hk1
 have eg2 : ∀ (args : Array Value) (w : World), (callFunc k2 args).run Try.prog w = .ok (.enter k2 args) w := hk2
 have hul := Try.underlying27
 have H1 := ak h1
 have H2 := ak h2
 clear h1 h2 hk1 hk2
 go_enter Try.func63, Try.ntmps63
 go_wp2
 go_loopw [12] (fun a0 wr => ∃ (i : Nat) (vu vn : Value), i ≤ n ∧ a0 = .int .i64 i ∧ Aside0 (MadeSt w wr vu vn vu vn (rowsB n U i) (madeN i N))) (fun a0 _ => n - (intOf a0).toNat)
 case atStart => exact ⟨0, .slice none 0 0, .slice none 0 0, Nat.zero_le _, rfl, ⟨⟨below_alloc (below_alloc (Below.refl _ _) _) _, blk_alloc (blk_new w _) _, (by have := blk_new (w.alloc (.cells #[.slice none 0 0, .slice none 0 0] 27)) (.cells #[.slice none 0 0, .slice none 0 0] 27); rw [show (w.alloc (.cells #[.slice none 0 0, .slice none 0 0] 27)).heap.size = w.heap.size + 1 by simp] at this; exact this), Kd.S_nil _ _ _ _ _, Kd.R_nil _ _ _ _ _⟩⟩⟩
 case round =>
  obtain ⟨i, vu, vn, hi, rfl, G⟩ := hrel
  by_cases hlt : i < n
  ·
   obtain ⟨W1, hW1⟩ : ∃ W1, W1 = wr := ⟨_, rfl⟩
   subst hW1
   go_wp2_with ((with_reducible refine gate_dst (N := 16) rfl ?_); refine Kd.R_make (Kd.int .i64) _ 3 rfl (N := 16) rfl 25 _ _ rfl (n : Int) rfl rfl Try.underlying25 (.int .i64 0) 8 info3 rfl (by decide) (by omega) 0 (ok := fun _ => True) (okp := fun _ => True) rfl (fun _ hk => hk) trivial (by omega) (by omega) (Below.refl _ _) (Nat.le_refl _) ?_; intro v9 w4 ho hb hg_ hnew_; clear hg_ hnew_; rw [Int.toNat_natCast] at ho; have HO := ak ho; have HB := ak hb; clear ho hb)
   go_loopw [18] (fun a1 wr => ∃ (b : Nat), b ≤ n ∧ a1 = .int .i64 b ∧ Aside0 (Kd.R (Kd.int .i64) 3 wr W1.heap.size (fun _ => True) v9 (rowB n U i b)) ∧ Aside0 (Below W1.heap.size W1 wr)) (fun a1 _ => n - (intOf a1).toNat)
   case atStart => exact ⟨0, Nat.zero_le _, rfl, ⟨(by rw [rowB_zero]; exact HO.out)⟩, HB⟩
   case round =>
    clear HO HB
    obtain ⟨b, hb, rfl, HO, HB⟩ := hrel
    by_cases hbt : b < n
    ·
     cases hU : U i b with
     | true =>
      have HU := ak hU
      clear hU
      have HL := ak (rowB_len n U i b hb)
      obtain ⟨g9, c9, rfl, hg9, hl9, cl9, hc9⟩ := Kd.R_form HO.out (by rw [HL.out]; omega)
      obtain ⟨hx9, hf9⟩ := Kd.R_celln 0 HO.out (b : Int) (by omega) (by rw [HL.out]; omega)
      rw [Int.toNat_natCast] at hx9 hf9
      generalize rdOf 0 (rowB n U i b) (b : Int) = x9 at hx9
      rw [HL.out] at HO ⊢
      have a2 := ak hg9
      clear hc9 cl9 hg9 hl9
      go_wp2_with (go_at_fn k1; (with_reducible refine (H1.out _ i b (below_step G.out.below HB.out) hlt hbt).mono ?_); rw [HU.out]; rintro e w5 ⟨rfl, hD⟩; obtain ⟨nd, rfl⟩ := hD)
      go_roundw
      case rel => exact ⟨b + 1, (by omega), (by go_num), ⟨(by have := (Kd.R_putg (Kd.R_drewN HO.out nd) (b : Int) 1).1; rw [Int.toNat_natCast, rowB_one n U i b hbt HU.out] at this; exact this)⟩, ⟨below_set (pw_below_drewN HB.out nd) a2.out⟩⟩
      case measure => simp [intOf]; omega
     | false =>
      have HU := ak hU
      clear hU
      go_wp2_with (go_at_fn k1; (with_reducible refine (H1.out _ i b (below_step G.out.below HB.out) hlt hbt).mono ?_); rw [HU.out]; rintro e w5 ⟨rfl, hD⟩; obtain ⟨nd, rfl⟩ := hD)
      go_roundw
      case rel => exact ⟨b + 1, (by omega), (by go_num), ⟨(by rw [← rowB_no n U i b hbt HU.out]; exact Kd.R_drewN HO.out nd)⟩, ⟨pw_below_drewN HB.out nd⟩⟩
      case measure => simp [intOf]; omega
    have eb : n = b := by omega
    subst eb
    rw [rowB_full] at HO
    have GA := ak (G.out.up HB.out)
    have hq0 := GA.out.cell0
    obtain ⟨Ax, cx, ex⟩ := Kd.R_slice HO.out
    rw [List.length_map, List.length_range] at ex
    subst ex
    generalize hrow : ((List.range n).map fun c => if U i c = true then (1 : Int) else 0) = row at HO
    have HROW := ak hrow
    clear hrow
    have HR := HO
    clear HO
    go_wp2_with (first
     | ((with_reducible refine gate_builtin (b := .append) (xs := #[.tmp 30, .tmp 32]) rfl ?_); at_builtin; refine Kd.S_append (Kd.slice 3 (Kd.int .i64)) (w0 := w) w.heap.size rfl (.tmp 30) (.tmp 32) 24 25 (.slice none 0 0) 24 rfl Try.underlying24 info25 rfl (by decide) (by omega) vu (rowsB n U i) row [.slice Ax n cx] (fun k => some k ≠ vn.ownBlock) (fun k => some k = (Value.slice Ax n cx).ownBlock) rfl rfl ?aP ?aK ?aF ?aO ?aB ?aS ?aL ?_; (case aP => exact Kd.M_row (Kd.R_mono (Kd.R_tight rfl (Kd.R_lower HR.out (below_size G.out.below))) (fun _ h_ => h_))); (case aK => exact fun k hk => ⟨fun e => by have h1 := Kd.R_base HR.out k hk.symm; have h2 := Kd.R_lt G.out.B k e.symm; omega, fun e => by have h1 := Kd.R_base HR.out k hk.symm; have h2 := Kd.S_lt G.out.A k e.symm; omega⟩); (case aF => exact fun k hk e => by have h2 := Kd.R_lt GA.out.B k e.symm; omega); (case aO => exact Kd.S_mono (Kd.S_below (Kd.S_bound G.out.A) HB.out) (fun k hk => ⟨hk.1, fun e => by have h1 := Kd.R_base HR.out k e.symm; have h2 := hk.2.2.1; omega⟩)); (case aB => exact GA.out.below); (case aS => exact below_size GA.out.below); (case aL => rw [rowsB_len]; omega); intro v1 w4 ho hb_ hg hat; have GB := ak (GA.out.grownU ho hb_ hg hat); rw [← HROW.out, ← rowsB_succ] at GB; clear ho hb_ hg hat GA hq0; obtain ⟨A4, c4, e4⟩ := Kd.S_slice GB.out.A; subst e4; have hq1 := GB.out.cell0; have hz1 := blk_frozen GB.out.box 0))
    have GC := ak (GB.out.setU (.slice A4 (rowsB n U (i + 1)).length c4))
    clear GB hq1 hz1 HR HROW G
    generalize w4.setCell ⟨w.heap.size + 1, 0, none⟩ (.slice A4 (rowsB n U (i + 1)).length c4) = w5 at GC ⊢
    have hs1 := GC.out.cell1
    refine start_ (n := 9) (S := fun w' => w'.cell? ⟨w.heap.size + 1, 1, none⟩ = some vn) (ds := [8]) (bA 9 0) (by kernel_rfl) rfl rfl hs1 (fun hHeld => ?_)
    have GD := ak GC.out.drew
    clear GC hs1
    generalize w5.drew = wd at GD hHeld ⊢
    refine pu_ (i := 0) (N := some 35) (bA 9 1) ?_
    refine tk_ (i := 1) (N := some 36) (bA 9 3) ?_
    refine pu_ (i := 2) (N := some 37) (bA 9 7) ?_
    refine pu_ (i := 3) (N := some 38) (bA 9 15) ?_
    refine one_ (i := 4) (N := some 39) (bA 9 31) rfl rfl (by kernel_rfl) (by decide) (fun K hK => ?_)
    go_simp
    go_wp2_with (go_at_fn k2; (with_reducible refine (H2.out _ i GD.out.below hlt).mono ?_); rintro e w' ⟨rfl, hD⟩; obtain ⟨nd, rfl⟩ := hD)
    refine hK.out _ _ hHeld (fun hHeld => ?_)
    clear hK K
    have GE := ak (GD.out.drewN nd)
    clear GD
    generalize wd.drewN nd = we at GE hHeld ⊢
    refine one_ (i := 5) (N := some 40) (bA 9 63) rfl rfl (by kernel_rfl) (by decide) (fun K hK => ?_)
    refine value_ (w1 := ?_) (v := ?_) (by rfl) rfl ?_ ?_
    rotate_left 2
    ·
     go_simp
     constructor
     ·
      rfl
     rfl
    refine hK.out _ _ (GE.out.alloc _).cell1 (fun hHeld => ?_)
    clear hK K
    refine no_ (N := some 40) ?_
    refine one_ (i := 6) (N := some 41) (bA 9 127) rfl rfl (by kernel_rfl) (by decide) (fun K hK => ?_)
    refine Kd.R_append_step (Kd.int .i64) (w0 := w) w.heap.size (by rfl) (.tmp 36) (.tmp 40) 25 3 (.int .i64 0) 8 rfl Try.underlying25 info3 rfl (by decide) (by omega) vn (madeN i N) (N i) [.int .i64 (N i)] (fun _ => True) (fun _ => False) rfl rfl ?aP (fun _ hk => hk.elim) ?aF ?aO ?aB ?aS ?aL ?_
    case aP => exact rfl
    case aF => exact (fun _ _ => trivial)
    case aO => exact GE.out.B
    case aB => exact GE.out.below
    case aS => exact below_size GE.out.below
    case aL => rw [madeN_len]; omega
    intro v2 w7 ho hb hg hat
    have GF := ak (GE.out.grownN ho hb hg hat)
    clear GE ho hb hg hat
    rw [← madeN_succ] at GF
    obtain ⟨A6, c6, e6⟩ := Kd.R_slice GF.out.B
    subst e6
    refine hK.out _ _ GF.out.cell1 (fun hHeld => ?_)
    clear hK K
    refine no_ (N := some 41) ?_
    refine pu_ (i := 7) (N := some 42) (bA 9 255) ?_
    have hs2 := GF.out.cell1
    have hz2 := blk_frozen GF.out.box 1
    refine last_ (i := 8) (N := none) (bA 9 511) rfl rfl (by kernel_rfl) (by decide) (fun K hK => ?_)
    refine skip_ (w1 := ?_) (by rfl) rfl ?_ ?_
    rotate_left
    ·
     go_simp
     rfl
    refine hK.out _ _ ?_
    clear hK K
    refine done_ (by kernel_rfl) ?_
    go_wp2
    go_roundw
    case rel => exact ⟨i + 1, _, _, (by omega), (by go_num), ⟨GF.out.setN _⟩⟩
    case measure => simp [intOf]; omega
  have ei : n = i := by omega
  subst ei
  have hq0 := G.out.cell0
  have hq1 := G.out.cell1
  have hz0 := blk_frozen G.out.res 0
  have hz1 := blk_frozen G.out.res 1
  have hr0 : wr.cell? ⟨w.heap.size, 0, none⟩ = some (.slice none 0 0) := (blk_cell G.out.res 0).trans rfl
  have hr1 : wr.cell? ⟨w.heap.size, 1, none⟩ = some (.slice none 0 0) := (blk_cell G.out.res 1).trans rfl
  obtain ⟨Au, cu, eu⟩ := Kd.S_slice G.out.A
  obtain ⟨An, cn, en⟩ := Kd.R_slice G.out.B
  subst eu
  subst en
  go_wp2
  refine bodyPost_ret (results_cell_row rfl _ _ w.heap.size 27 #[.slice Au (rowsB n U n).length cu, .slice An (madeN n N).length cn] (0, 0) _ rfl (blk_put (cs := #[.slice Au (rowsB n U n).length cu, .slice none 0 0]) (blk_put (cs := #[.slice none 0 0, .slice none 0 0]) G.out.res 0 _ rfl) 1 _ rfl) hul rfl (by kernel_rfl)) rfl ?_
  exact ⟨_, _, rfl, Kd.S_set (Kd.S_set G.out.A G.out.res (by decide) 0 _) (blk_put G.out.res 0 _ rfl) (by decide) 1 _, Kd.R_set (Kd.R_set G.out.B G.out.res (by decide) 0 _) (blk_put G.out.res 0 _ rfl) (by decide) 1 _, below_set (below_set G.out.below (Nat.le_refl _)) (Nat.le_refl _)⟩
theorem made_int {w : World} (n : Nat) (m : Int) (hm : m = n) (hn : n ≤ 12) (k1 k2 : Nat) (cap1 cap2 : Array Value) (hk1 : Enters Try.prog k1) (hk2 : Enters Try.prog k2) (U : Nat → Nat → Bool) (N : Nat → Int)
 (h1 : ∀ w' (a b : Nat), Below w.heap.size w w' → a < n → b < n → Calls Try.prog k1 (#[.int .i64 a, .int .i64 b] ++ cap1) w' fun e w2 => e = .returned (.bool (U a b)) ∧ Drawn0 w' w2)
 (h2 : ∀ w' (a : Nat), Below w.heap.size w w' → a < n → Calls Try.prog k2 (#[.int .i64 a] ++ cap2) w' fun e w2 => e = .returned (.int .i64 (N a)) ∧ Drawn0 w' w2) :
 Calls Try.prog 63 #[.int .i64 m, .func (.func k1) #[] cap1, .func (.func k2) #[] cap2] w fun e w' => ∃ v0_ v1_ : Value, e = .returned (.agg #[v0_, v1_]) ∧ Kd.S (Kd.slice 3 (Kd.int .i64)) 25 w' w.heap.size (fun k_ => some k_ ≠ (v1_ : Value).ownBlock) v0_ (madeU n U) ∧ Kd.R (Kd.int .i64) 3 w' w.heap.size (fun _ => True) v1_ (madeN n N) ∧ Below w.heap.size w w' := by
 subst hm
 exact made_calls n hn k1 k2 cap1 cap2 hk1 hk2 U N h1 h2
end Go.Proofs.Ytacifhahfamipaa.P

