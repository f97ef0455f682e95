/- 13 texts of this seat joined: walks, and the laws of what they compute. -/
import Derived.Test.YtacifhahfamipaaPk2
import Derived.Test.YtacifhahfamipaaPk4
import Derived.Test.YtacifhahfamipaaPk5
import Derived.Lib.Hide
import Derived.Shelf.Abstract
import Derived.Deep.AppendLies
import Derived.Deep.RegionHeldLaw
import Derived.Deep.RegionWith
namespace Go.Proofs.Ytacifhahfamipaa.P
open Go.RowKit Go.Proofs.YtacifhahfamipaaW.PrintWords Go.Proofs.YtacifhahfamipaaW.PrintLast Go.Proofs.YtacifhahfamipaaW.PrintMore
set_option linter.unusedVariables false
set_option linter.unusedSimpArgs false
def ints (xs : List Int) : List Value := xs.map fun n => .int .i64 n
theorem R_blk {W : World} {g base : Nat} {xs : List Int} (h : W.heap[g]? = some (.cells (ints xs).toArray 3 (0, 0))) (hb : base ≤ g) (hm : xs.length ≤ maxLen) :
 Kd.R (Kd.int .i64) 3 W base (fun k => k = g) (.slice (some ⟨g, 0, none⟩) xs.length xs.length) xs := by
 have hl : (ints xs).length = xs.length := by simp [ints]
 refine ⟨fun k hk => ?_, ints xs, ⟨?_, .inr ⟨g, xs.length, _, rfl, hb, h, Nat.le_refl _, hm, ?_, ?_⟩⟩, ?_, fun j p hj => ?_⟩
 ·
  simpa [Value.ownBlock] using hk.symm
 ·
  show (ints xs).length = xs.length * 1
  omega
 ·
  show (ints xs).toArray.size = xs.length * 1
  simp [hl]
 ·
  show ((ints xs).toArray.toList).take (xs.length * 1) = ints xs
  exact List.take_of_length_le (by simp [hl])
 ·
  show (ints xs).length = xs.length * 1
  omega
 show ((ints xs).drop (j * 1)).take 1 = [.int .i64 p]
 have hj2 : (ints xs)[j]? = some (.int .i64 p) := by simp [ints, hj]
 rw [Nat.mul_one]
 obtain ⟨hlt, e⟩ := List.getElem?_eq_some_iff.1 hj2
 rw [List.drop_eq_getElem_cons hlt, e]
 rfl
def rowsAt (b : Nat) (u : List (List Int)) : List Value := u.zipIdx.map fun p => .slice (some ⟨b + p.2, 0, none⟩) p.1.length p.1.length
theorem S_blk {W : World} {g b base : Nat} {u : List (List Int)} (h : W.heap[g]? = some (.cells (rowsAt b u).toArray 25 (0, 0))) (hb : base ≤ b) (hg : base ≤ g) (hm : u.length ≤ maxLen) (hne : ∀ j, j < u.length → b + j ≠ g)
 (hr : ∀ j x, u[j]? = some x → W.heap[b + j]? = some (.cells (ints x).toArray 3 (0, 0)) ∧ x.length ≤ maxLen) :
 Kd.S (Kd.slice 3 (Kd.int .i64)) 25 W base (fun k => k = g ∨ (b ≤ k ∧ k < b + u.length)) (.slice (some ⟨g, 0, none⟩) u.length u.length) u := by
 have hl : (rowsAt b u).length = u.length := by simp [rowsAt]
 have hat : ∀ j x, u[j]? = some x → ((rowsAt b u).drop (j * 1)).take 1 = [.slice (some ⟨b + j, 0, none⟩) x.length x.length] := by
  intro j x hj
  have hj2 : (rowsAt b u)[j]? = some (.slice (some ⟨b + j, 0, none⟩) x.length x.length) := by simp [rowsAt, hj]
  obtain ⟨hlt, e⟩ := List.getElem?_eq_some_iff.1 hj2
  rw [Nat.mul_one, List.drop_eq_getElem_cons hlt, e]
  rfl
 obtain ⟨f, hf⟩ := Kd.reps_tag (d := Kd.slice 3 (Kd.int .i64)) (w := W) (base := base) (ok := fun k => (k = g ∨ (b ≤ k ∧ k < b + u.length)) ∧ some k ≠ (Value.slice (some ⟨g, 0, none⟩) u.length u.length).ownBlock) (xs := u) (inner := rowsAt b u) (fun j k => k = b + j ∧ j < u.length)
  (fun i j k hi hj => by omega) (fun j k hk => ⟨.inr ⟨(by omega), (by omega)⟩, (by have := hne j hk.2; simp [Value.ownBlock]; omega)⟩) (by show _ = u.length * 1; omega)
  (fun j x hj => by
   have q := hr j x hj
   have hlt : j < u.length := (List.getElem?_eq_some_iff.1 hj).1
   rw [show (Kd.slice 3 (Kd.int .i64)).sz = 1 from rfl, hat j x hj]
   exact ⟨_, rfl, Kd.R_mono (R_blk q.1 (by omega) q.2) (fun k hk => ⟨hk, hlt⟩)⟩)
 refine ⟨f, fun k hk => .inl (by simpa [Value.ownBlock] using hk.symm), rowsAt b u, ?_, hf⟩
 rw [List.length_zipIdx]
 refine ⟨?_, .inr ⟨g, u.length, _, rfl, hg, h, Nat.le_refl _, hm, ?_, ?_⟩⟩
 ·
  show (rowsAt b u).length = u.length * 1
  omega
 ·
  show (rowsAt b u).toArray.size = u.length * 1
  simp [hl]
 show ((rowsAt b u).toArray.toList).take (u.length * 1) = rowsAt b u
 exact List.take_of_length_le (by simp [hl])
theorem allocs_below : ∀ (xs : List Obj) (w : World), Below w.heap.size w (xs.foldl World.alloc w)
 | [], w => Below.refl _ _
 | x :: xs, w => below_step (below_alloc (Below.refl _ _) x) (allocs_below xs (w.alloc x))
theorem allocs_at : ∀ (xs : List Obj) (w : World) (i : Nat) (cs : Array Value) (t : Nat), xs[i]? = some (.cells cs t (0, 0)) → (xs.foldl World.alloc w).heap[w.heap.size + i]? = some (.cells cs t (0, 0))
 | [], w, i, cs, t, h => by simp at h
 | x :: xs, w, 0, cs, t, h => by
  have e : x = .cells cs t (0, 0) := by simpa using h
  subst e
  exact blk_below (blk_new w _) (allocs_below xs _)
 | x :: xs, w, i + 1, cs, t, h => by
  have q := allocs_at xs (w.alloc x) i cs t (by simpa using h)
  have e : (w.alloc x).heap.size = w.heap.size + 1 := by simp
  rw [e, Nat.add_assoc, Nat.add_comm 1 i] at q
  exact q
set_option maxHeartbeats 8000000 in
set_option maxRecDepth 100000 in
theorem six_calls (w : World) :
 Calls Try.prog 109 #[] w fun e w' => ∃ v0_ v1_ : Value, e = .returned (.agg #[v0_, v1_]) ∧ Kd.S (Kd.slice 3 (Kd.int .i64)) 25 w' w.heap.size (fun k_ => some k_ ≠ (v1_ : Value).ownBlock) v0_ sixU ∧ Kd.R (Kd.int .i64) 3 w' w.heap.size (fun _ => True) v1_ sixN ∧ Below w.heap.size w w' := by
 have hul := Try.underlying27
 go_enter Try.func109, Try.ntmps109
 go_wp2
 obtain ⟨W, hW⟩ : ∃ W, W = [Obj.cells #[.slice (some ⟨w.heap.size + 7, 0, none⟩) 6 6, .slice (some ⟨w.heap.size + 8, 0, none⟩) 6 6] 27, .cells (ints [1, 1, 1, 1, 1, 1]).toArray 3, .cells (ints [0, 1, 1, 0, 0, 1]).toArray 3, .cells (ints [0, 0, 1, 0, 0, 1]).toArray 3, .cells (ints [0, 0, 0, 1, 1, 1]).toArray 3, .cells (ints [0, 0, 0, 0, 1, 1]).toArray 3, .cells (ints [0, 0, 0, 0, 0, 1]).toArray 3, .cells (rowsAt (w.heap.size + 1) sixU).toArray 25, .cells (ints sixN).toArray 3].foldl World.alloc w := ⟨_, rfl⟩
 have HB : Below w.heap.size w W := by rw [hW]; exact allocs_below _ _
 have HA : ∀ i cs t, _ → W.heap[w.heap.size + i]? = some (.cells cs t (0, 0)) := fun i cs t h => by rw [hW]; exact allocs_at _ w i cs t h
 show bodyPost _ _ _ _ _ ([Obj.cells #[.slice (some ⟨w.heap.size + 7, 0, none⟩) 6 6, .slice (some ⟨w.heap.size + 8, 0, none⟩) 6 6] 27, .cells (ints [1, 1, 1, 1, 1, 1]).toArray 3, .cells (ints [0, 1, 1, 0, 0, 1]).toArray 3, .cells (ints [0, 0, 1, 0, 0, 1]).toArray 3, .cells (ints [0, 0, 0, 1, 1, 1]).toArray 3, .cells (ints [0, 0, 0, 0, 1, 1]).toArray 3, .cells (ints [0, 0, 0, 0, 0, 1]).toArray 3, .cells (rowsAt (w.heap.size + 1) sixU).toArray 25, .cells (ints sixN).toArray 3].foldl World.alloc w)
 rw [← hW]
 clear hW
 refine bodyPost_ret (results_cell_row rfl _ _ w.heap.size 27 #[.slice (some ⟨w.heap.size + 7, 0, none⟩) 6 6, .slice (some ⟨w.heap.size + 8, 0, none⟩) 6 6] (0, 0) _ rfl (HA 0 _ _ rfl) hul rfl (by kernel_rfl)) rfl ?_
 refine ⟨_, _, rfl, Kd.S_mono (S_blk (g := w.heap.size + 7) (b := w.heap.size + 1) (u := sixU) (HA 7 _ _ rfl) (by omega) (by omega) (by decide) (fun j hj => by simp [sixU] at hj; omega) ?_) ?_, Kd.R_mono (R_blk (g := w.heap.size + 8) (xs := sixN) (HA 8 _ _ rfl) (by omega) (by decide)) (fun _ _ => trivial), HB⟩
 ·
  intro j x hj
  have hlt : j < 6 := (List.getElem?_eq_some_iff.1 hj).1
  rcases j with _ | _ | _ | _ | _ | _ | j
  all_goals first | omega | skip
  all_goals
   obtain rfl := (Option.some.inj hj)
   exact ⟨HA _ _ _ rfl, (by decide)⟩
 intro k hk
 simp [Value.ownBlock, sixU] at hk ⊢
 omega
end Go.Proofs.Ytacifhahfamipaa.P


namespace Go.Proofs.Ytacifhahfamipaa.P
open Go.RowKit Go.Proofs.YtacifhahfamipaaW.PrintWords Go.Proofs.YtacifhahfamipaaW.PrintLast Go.Proofs.YtacifhahfamipaaW.PrintMore Go.Proofs.Cl
set_option linter.unusedVariables false
theorem spec_l20Six.calls  (r1 : List (List Int)) (r2 : List Int) (w : World) (h : spec_l20Six.f  = some (r1, r2)) :
    Calls Try.prog 109 #[] w fun e w' => ∃ v0_ v1_ : Value, e = .returned (.agg #[v0_, v1_]) ∧ Kd.S (Kd.slice 3 (Kd.int .i64)) 25 w' w.heap.size (fun k_ => some k_ ≠ (v1_ : Value).ownBlock) v0_ r1 ∧ Kd.R (Kd.int .i64) 3 w' w.heap.size (fun _ => True) v1_ r2 ∧ Below w.heap.size w w' := by
  obtain ⟨e1, e2⟩ := Prod.mk.inj (Option.some.inj h)
  subst e1
  subst e2
  exact six_calls w
end Go.Proofs.Ytacifhahfamipaa.P


namespace Go.Proofs.Ytacifhahfamipaa.P
open Go.RowKit Go.Proofs.YtacifhahfamipaaW.PrintWords Go.Proofs.YtacifhahfamipaaW.PrintLast Go.Proofs.YtacifhahfamipaaW.PrintMore
set_option linter.unusedVariables false
set_option linter.unusedSimpArgs false

def AlgAt (w : World) (g : Nat) (u a o : List (List Int)) (nt : List Int) (no yes : Int) : Prop :=
  ∃ Au cu Aa ca Ao co An cn, w.heap[g]? = some (.cells #[.slice Au u.length cu, .slice Aa a.length ca, .slice Ao o.length co, .slice An nt.length cn, .int .i64 no, .int .i64 yes] 69 (0, 0)) ∧
    Kd.C (Kd.slice 3 (Kd.int .i64)) w Au u.length u ∧ u.length ≤ cu ∧ Kd.C (Kd.slice 3 (Kd.int .i64)) w Aa a.length a ∧ a.length ≤ ca ∧ Kd.C (Kd.slice 3 (Kd.int .i64)) w Ao o.length o ∧ o.length ≤ co ∧ Kd.C (Kd.int .i64) w An nt.length nt ∧ nt.length ≤ cn
set_option maxHeartbeats 1000000 in
set_option maxRecDepth 100000 in
theorem knows_nil (v : Value) (w : World) : Calls Try.prog 94 #[.pointer none, v] w fun e w' => e = .returned (.bool false) ∧ Drawn0 w w' := by
 go_enter Try.func94, Try.ntmps94
 go_wp2
 go_ret
 exact ⟨rfl, Drawn0.refl _⟩

theorem AlgAt.drewN {w : World} {g : Nat} {u a o : List (List Int)} {nt : List Int} {no yes : Int} (h : AlgAt w g u a o nt no yes) (n : Nat) : AlgAt (w.drewN n) g u a o nt no yes := by
 obtain ⟨Au, cu, Aa, ca, Ao, co, An, cn, h0, h1, h2, h3, h4, h5, h6, h7, h8⟩ := h
 have hb : Below w.heap.size w (w.drewN n) := pw_below_drewN (Below.refl _ _) n
 exact ⟨Au, cu, Aa, ca, Ao, co, An, cn, h0, Kd.C_below h1 hb, h2, Kd.C_below h3 hb, h4, Kd.C_below h5 hb, h6, Kd.C_below h7 hb, h8⟩
theorem AlgAt.below {w w1 : World} {g : Nat} {u a o : List (List Int)} {nt : List Int} {no yes : Int} (h : AlgAt w g u a o nt no yes) (hb : Below w.heap.size w w1) : AlgAt w1 g u a o nt no yes := by
 obtain ⟨Au, cu, Aa, ca, Ao, co, An, cn, h0, h1, h2, h3, h4, h5, h6, h7, h8⟩ := h
 have hg : g < w.heap.size := (Array.getElem?_eq_some_iff.1 h0).1
 exact ⟨Au, cu, Aa, ca, Ao, co, An, cn, (hb.block g hg).trans h0, Kd.C_below h1 hb, h2, Kd.C_below h3 hb, h4, Kd.C_below h5 hb, h6, Kd.C_below h7 hb, h8⟩
theorem okAll_step (n : Nat) (xs : List Int) (i : Nat) (hi : i < xs.length) : okAll n (xs.take (i + 1)) = (okAll n (xs.take i) && decide (0 ≤ rd xs i ∧ rd xs i < n)) := by
 unfold okAll
 rw [List.take_succ_eq_append_getElem hi, List.all_append]
 have : rd xs (i : Int) = xs[i] := by
  show xs.getD i 0 = xs[i]
  rw [List.getD_eq_getElem?_getD, List.getElem?_eq_getElem hi, Option.getD_some]
 rw [this]
 simp
set_option maxHeartbeats 1000000 in
set_option maxRecDepth 100000 in
theorem knows_calls {w : World} {g : Nat} {u a o : List (List Int)} {nt : List Int} {no yes : Int} (h : AlgAt w g u a o nt no yes) (A : Option Addr) (c : Nat) (xs : List Int) (hx : Kd.C (Kd.int .i64) w A xs.length xs) (hl : xs.length ≤ 1000) :
 Calls Try.prog 94 #[.pointer (some ⟨g, 0, none⟩), .slice A xs.length c] w fun e w' => e = .returned (.bool (okAll u.length xs)) ∧ Drawn0 w w' := by
 have hg := ak h
 have HX := ak hx
 clear h hx
 go_enter Try.func94, Try.ntmps94
 go_wp2
 go_loopw [11, 6] (fun a0 v6 wr => ∃ i : Nat, i ≤ xs.length ∧ a0 = .int .i64 i ∧ Aside0 (okAll u.length (xs.take i) = true) ∧ Aside0 (Drawn0 w wr)) (fun a0 _ _ => xs.length - (intOf a0).toNat)
 case atStart => exact ⟨0, Nat.zero_le _, rfl, ⟨rfl⟩, ⟨Drawn0.refl _⟩⟩
 case round =>
  obtain ⟨i, hi, rfl, HO, ⟨HD⟩⟩ := hrel
  obtain ⟨m, rfl⟩ := HD
  by_cases hlt : i < xs.length
  ·
   obtain ⟨ad, eA, hc⟩ := Kd.at_int HX.out (i : Int) (by omega) (by omega)
   subst eA
   rw [Int.toNat_natCast] at hc
   obtain ⟨Au, cu, Aa, ca, Ao, co, An, cn, h0, h1, h2, _⟩ := hg.out
   have hcell : w.cell? ⟨g, 0, none⟩ = some (.slice Au u.length cu) := (blk_cell h0 0).trans rfl
   have HU := ak h1
   have HU2 := ak h2
   clear h0 h1 h2
   have hstep := ak (okAll_step u.length xs i hlt)
   generalize hx : rd xs (i : Int) = x at hc hstep
   clear hx
   cases hb : decide (0 ≤ x ∧ x < u.length) with
   | true =>
    have HA := ak (Q.isAnswer_eq u x)
    rw [hb] at HA hstep
    clear hb
    go_wp2_with (go_at_call 107; refine (impl_isAnswer.calls _ _ u x true _ (Kd.C_below HU.out (pw_below_drewN (Below.refl _ _) _)) HU2.out HA.out).mono ?_; rintro e w2 ⟨rfl, hD⟩; obtain ⟨nd, rfl⟩ := hD)
    go_roundw
    case rel => exact ⟨i + 1, (by omega), (by go_num), ⟨(by rw [hstep.out, HO.out]; rfl)⟩, ⟨⟨_, rfl⟩⟩⟩
    case measure => simp [intOf]; omega
   | false =>
    have HA := ak (Q.isAnswer_eq u x)
    rw [hb] at HA hstep
    clear hb
    go_wp2_with (go_at_call 107; refine (impl_isAnswer.calls _ _ u x false _ (Kd.C_below HU.out (pw_below_drewN (Below.refl _ _) _)) HU2.out HA.out).mono ?_; rintro e w2 ⟨rfl, hD⟩; obtain ⟨nd, rfl⟩ := hD)
    go_ret
    refine ⟨?_, ⟨_, rfl⟩⟩
    have hf : okAll u.length xs = false := by
     have hs := hstep.out
     rw [Bool.and_false] at hs
     unfold okAll at hs ⊢
     rw [List.all_eq_false] at hs ⊢
     obtain ⟨y, hy, k⟩ := hs
     exact ⟨y, List.mem_of_mem_take hy, k⟩
    rw [hf]; rfl
  go_wp2
  go_ret
  have e : i = xs.length := by omega
  refine ⟨?_, ⟨_, rfl⟩⟩
  have := HO.out
  rw [e, List.take_length] at this
  rw [this]; rfl
end Go.Proofs.Ytacifhahfamipaa.P


namespace Go.Proofs.Ytacifhahfamipaa.P
open Go.RowKit Go.Proofs.YtacifhahfamipaaW.PrintWords Go.Proofs.YtacifhahfamipaaW.PrintLast Go.Proofs.YtacifhahfamipaaW.PrintMore
set_option linter.unusedVariables false
set_option linter.unusedSimpArgs false
set_option maxHeartbeats 4000000 in
set_option maxRecDepth 100000 in
theorem every_inv {w : World} {g n c : Nat} {A : Option Addr} (k : Nat) (cap : Array Value) (hk : Enters Try.prog k) (I : Nat → Nat → World → Prop) (Out : World → Prop)
 (hg : ∀ i j w', I i j w' → w'.cell? ⟨g, 0, none⟩ = some (.slice A n c)) (hn : n ≤ 1000) (h0 : I 0 0 w) (hrow : ∀ i w', i < n → I i n w' → I (i + 1) 0 w')
 (hstep : ∀ i j w', i < n → j < n → I i j w' → Calls Try.prog k (#[.int .i64 i, .int .i64 j] ++ cap) w' fun e w'' => ∃ b, e = .returned (.bool b) ∧ (b = true → I i (j + 1) w'') ∧ (b = false → Out w'')) :
 Calls Try.prog 74 #[.pointer (some ⟨g, 0, none⟩), .func (.func k) #[] cap] w fun e w' => (e = .returned (.bool true) ∧ I n 0 w') ∨ (e = .returned (.bool false) ∧ Out w') := by
 have eg : ∀ (args : Array Value) (w : World), (callFunc k args).run Try.prog w = .ok (.enter k args) w := hk
 have HG := ak hg
 have HS := ak hstep
 have HR := ak hrow
 have hc0 := hg 0 0 w h0
 have H0 := ak h0
 clear hg hstep hrow hk h0
 go_enter Try.func74, Try.ntmps74
 go_wp2
 go_loopw [12] (fun a0 wr => ∃ i : Nat, i ≤ n ∧ a0 = .int .i64 i ∧ Aside0 (I i 0 wr)) (fun a0 _ => n - (intOf a0).toNat)
 case atStart => exact ⟨0, Nat.zero_le _, rfl, H0⟩
 case round =>
  obtain ⟨i, hi, rfl, HI⟩ := hrel
  by_cases hlt : i < n
  ·
   have hc1 := HG.out i 0 _ HI.out
   go_wp2
   obtain ⟨W1, hW1⟩ : ∃ W1, W1 = wr := ⟨_, rfl⟩
   go_loopw [20] (fun a1 wr => ∃ j : Nat, j ≤ n ∧ a1 = .int .i64 j ∧ Aside0 (I i j wr)) (fun a1 _ => n - (intOf a1).toNat)
   case atStart => exact ⟨0, Nat.zero_le _, rfl, HI⟩
   case round =>
    obtain ⟨j, hj, rfl, HJ⟩ := hrel
    by_cases hlj : j < n
    ·
     have HC := ak (HS.out i j _ hlt hlj HJ.out)
     go_wp2_with (go_at_fn k; refine HC.out.mono ?_; rintro e w2 ⟨b, rfl, hT, hF⟩; have HT := ak hT; have HF := ak hF; clear hT hF; cases b)
     ·
      go_ret
      exact Or.inr ⟨rfl, HF.out (by first | trivial | rfl)⟩
     go_roundw
     case rel => exact ⟨j + 1, (by omega), (by go_num), ⟨HT.out (by first | trivial | rfl)⟩⟩
     case measure => simp [intOf]; omega
    have e : j = n := by omega
    subst e
    have HN := ak (HR.out i _ hlt HJ.out)
    go_wp2
    go_roundw
    case rel => exact ⟨i + 1, (by omega), (by go_num), HN⟩
    case measure => simp [intOf]; omega
  have e : i = n := by omega
  subst e
  go_wp2
  go_ret
  exact Or.inl ⟨rfl, HI.out⟩
theorem pure_every {W : World} {g n c B : Nat} {A : Option Addr} (k : Nat) (hk : Enters Try.prog k) (P : Nat → Nat → Prop) [∀ a b, Decidable (P a b)] (hc : W.cell? ⟨g, 0, none⟩ = some (.slice A n c)) (hn : n ≤ 1000)
 (hF : ∀ w' (i j : Nat), Drawn0 W w' → i < n → j < n → Calls Try.prog k #[.int .i64 i, .int .i64 j, .pointer (some ⟨B, 0, none⟩)] w' fun e w2 => e = .returned (.bool (decide (P i j))) ∧ Drawn0 w' w2) :
 Calls Try.prog 74 #[.pointer (some ⟨g, 0, none⟩), .func (.func k) #[] #[.pointer (some ⟨B, 0, none⟩)]] W fun e w' => e = .returned (.bool (decide (∀ a, a < n → ∀ b, b < n → P a b))) ∧ Drawn0 W w' := by
 have tr : ∀ {w1 w2 : World}, Drawn0 W w1 → Drawn0 w1 w2 → Drawn0 W w2 := by
  rintro w1 w2 ⟨a, rfl⟩ ⟨b, rfl⟩
  exact ⟨⟨a + b, World.drewN_drewN ..⟩⟩
 refine (every_inv (g := g) (n := n) (c := c) (A := A) k _ hk (fun i j w' => Drawn0 W w' ∧ ∀ a b, (a < i ∧ b < n ∨ a = i ∧ b < j) → P a b) (fun w' => Drawn0 W w' ∧ ¬ ∀ a, a < n → ∀ b, b < n → P a b) ?_ hn ?_ ?_ ?_).mono ?_
 ·
  rintro i j w' ⟨⟨m, rfl⟩, _⟩
  exact hc
 ·
  exact ⟨Drawn0.refl _, fun a b h => by omega⟩
 ·
  rintro i w' hi ⟨hD, h⟩
  exact ⟨hD, fun a b q => h a b (by omega)⟩
 ·
  rintro i j w' hi hj ⟨hD, h⟩
  refine (hF w' i j hD hi hj).mono ?_
  rintro e w2 ⟨rfl, hD2⟩
  refine ⟨_, rfl, fun q => ⟨tr hD hD2, fun a b r => ?_⟩, fun q => ⟨tr hD hD2, fun r => absurd (r i hi j hj) (of_decide_eq_false q)⟩⟩
  by_cases e : a = i ∧ b = j
  ·
   obtain ⟨rfl, rfl⟩ := e
   exact oe_ q
  exact h a b (by omega)
 rintro e w' (⟨rfl, hD, h⟩ | ⟨rfl, hD, h⟩)
 ·
  exact ⟨(by rw [dT_ (fun a ha b hb => h a b (by omega))]), hD⟩
 exact ⟨(by rw [dF_ h]), hD⟩
end Go.Proofs.Ytacifhahfamipaa.P


namespace Go.Proofs.Ytacifhahfamipaa.P
open Go.RowKit Go.Proofs.YtacifhahfamipaaW.PrintWords Go.Proofs.YtacifhahfamipaaW.PrintLast Go.Proofs.YtacifhahfamipaaW.PrintMore Go.Proofs.Cl
set_option linter.unusedVariables false
set_option linter.unusedSimpArgs false
set_option maxHeartbeats 4000000 in
set_option maxRecDepth 100000 in
theorem told_nolat (Au : Option Addr) (cu : Nat) (u : List (List Int)) (An : Option Addr) (cn : Nat) (nt : List Int) (w : World)
    (hu : Kd.C (Kd.slice 3 (Kd.int .i64)) w Au u.length u) (hcu : u.length ≤ cu) (h : ¬ Lat u) :
    Calls Try.prog 68 #[.agg #[.slice Au u.length cu, .slice An nt.length cn]] w fun e w' => e = .returned (.pointer none) ∧ Below w.heap.size w w' := by
  have HU := Aside0.mk hu
  have HC := Aside0.mk hcu
  clear hu hcu
  have HB := Aside0.mk (Below.refl w.heap.size w)
  obtain ⟨kk, hk⟩ := Q.impl_lat_ev u
  have HL : Aside0 (impl_LatticeOk.f kk u = some false) := ⟨by rw [← decide_eq_false h]; exact hk kk (Nat.le_refl _)⟩
  clear hk
  go_enter Try.func68, Try.ntmps68
  go_wp2_with (first
    | ((with_reducible refine gate_dst (N := 1) rfl ?_); refine box_event ?hg (N := 1) ?hd (cs := #[.slice Au u.length cu, .slice An nt.length cn]) (t := 27) ?hr ?_; (case hd => rfl); (case hg => rfl); (case hr => first | (go_simp; done) | (go_simp; rfl)); intro gb hg w4 hbox hb; have hc0 : w4.cell? ⟨gb, 0, none⟩ = some (.slice Au u.length cu) := (blk_cell hbox 0).trans rfl; have hc1 : w4.cell? ⟨gb, 1, none⟩ = some (.slice An nt.length cn) := (blk_cell hbox 1).trans rfl; have HB4 := Aside0.mk hb; have HX := Aside0.mk hbox; have HG := Aside0.mk hg; clear hb hg hbox)
    | (go_at_call 104; refine (impl_LatticeOk.calls kk _ _ u false _ (by repeat (first | exact (Kd.C_below HU.out HB4.out) | (with_reducible refine Kd.C_alloc ?_ _) | (with_reducible refine Kd.C_drewN ?_ _) | (with_reducible refine Kd.C_drew ?_))) HC.out HL.out).mono ?_; rintro e w2 ⟨rfl, hD⟩; have HB5 := Aside0.mk (below_step HB4.out hD); clear hD))
  go_ret
  exact ⟨rfl, (by repeat (first | (with_reducible first | exact HB5.out | apply below_alloc | apply pw_below_drewN | apply below_drew1) | exact HB5.out))⟩
end Go.Proofs.Ytacifhahfamipaa.P


namespace Go.Proofs.Ytacifhahfamipaa.P
open Go.RowKit Go.Proofs.YtacifhahfamipaaW.PrintWords Go.Proofs.YtacifhahfamipaaW.PrintLast Go.Proofs.YtacifhahfamipaaW.PrintMore Go.Proofs.Cl
set_option linter.unusedVariables false
set_option linter.unusedSimpArgs false

structure Grow (w W : World) (gb g : Nat) (LU LN ca co va vo vv : Value) (tu a o : List (List Int)) (no yes : Int) : Prop where
  below : Below w.heap.size w W
  ne : gb ≠ g
  geb : w.heap.size ≤ gb
  geg : w.heap.size ≤ g
  box : W.heap[gb]? = some (.cells #[LU, LN] 27 (0, 0))
  alg : W.heap[g]? = some (.cells #[LU, ca, co, LN, .int .i64 no, .int .i64 yes] 69 (0, 0))
  A : Kd.R (Kd.slice 3 (Kd.int .i64)) 25 W w.heap.size (fun k => some k ≠ vo.ownBlock) va a
  O : Kd.R (Kd.slice 3 (Kd.int .i64)) 25 W w.heap.size (fun k => some k ≠ va.ownBlock) vo o
  V : Kd.R (Kd.slice 3 (Kd.int .i64)) 25 W w.heap.size (fun k => some k ≠ va.ownBlock ∧ some k ≠ vo.ownBlock) vv tu

namespace Grow
variable {w W w1 : World} {gb g : Nat} {LU LN ca co va vo vv : Value} {tu a o : List (List Int)} {no yes : Int}
theorem up (G : Grow w W gb g LU LN ca co va vo vv tu a o no yes) (h : Below W.heap.size W w1) : Grow w w1 gb g LU LN ca co va vo vv tu a o no yes :=
  ⟨below_step G.below h, G.ne, G.geb, G.geg, blk_below G.box h, blk_below G.alg h, Kd.R_below G.A h, Kd.R_below G.O h, Kd.R_below G.V h⟩
theorem alloc (G : Grow w W gb g LU LN ca co va vo vv tu a o no yes) (x : Obj) : Grow w (W.alloc x) gb g LU LN ca co va vo vv tu a o no yes := G.up (below_alloc (Below.refl _ _) x)
theorem drewN (G : Grow w W gb g LU LN ca co va vo vv tu a o no yes) (n : Nat) : Grow w (W.drewN n) gb g LU LN ca co va vo vv tu a o no yes := G.up (pw_below_drewN (Below.refl _ _) n)
theorem drew (G : Grow w W gb g LU LN ca co va vo vv tu a o no yes) : Grow w W.drew gb g LU LN ca co va vo vv tu a o no yes := G.up (below_drew (Below.refl _ _))
theorem neA (G : Grow w W gb g LU LN ca co va vo vv tu a o no yes) : some g ≠ va.ownBlock := Kd.R_ne G.A G.alg (by decide)
theorem neO (G : Grow w W gb g LU LN ca co va vo vv tu a o no yes) : some g ≠ vo.ownBlock := Kd.R_ne G.O G.alg (by decide)
theorem setA (G : Grow w W gb g LU LN ca co va vo vv tu a o no yes) : Grow w (W.setCell ⟨g, 1, none⟩ va) gb g LU LN va co va vo vv tu a o no yes :=
  ⟨below_set G.below G.geg, G.ne, G.geb, G.geg, blk_far G.box G.ne _, blk_put G.alg 1 _ rfl, Kd.R_set G.A G.alg (by decide) 1 _, Kd.R_set G.O G.alg (by decide) 1 _, Kd.R_set G.V G.alg (by decide) 1 _⟩
theorem setO (G : Grow w W gb g LU LN ca co va vo vv tu a o no yes) : Grow w (W.setCell ⟨g, 2, none⟩ vo) gb g LU LN ca vo va vo vv tu a o no yes :=
  ⟨below_set G.below G.geg, G.ne, G.geb, G.geg, blk_far G.box G.ne _, blk_put G.alg 2 _ rfl, Kd.R_set G.A G.alg (by decide) 2 _, Kd.R_set G.O G.alg (by decide) 2 _, Kd.R_set G.V G.alg (by decide) 2 _⟩
theorem setNo (G : Grow w W gb g LU LN ca co va vo vv tu a o no yes) (x : Int) : Grow w (W.setCell ⟨g, 4, none⟩ (.int .i64 x)) gb g LU LN ca co va vo vv tu a o x yes :=
  ⟨below_set G.below G.geg, G.ne, G.geb, G.geg, blk_far G.box G.ne _, blk_put G.alg 4 _ rfl, Kd.R_set G.A G.alg (by decide) 4 _, Kd.R_set G.O G.alg (by decide) 4 _, Kd.R_set G.V G.alg (by decide) 4 _⟩
theorem setYes (G : Grow w W gb g LU LN ca co va vo vv tu a o no yes) (x : Int) : Grow w (W.setCell ⟨g, 5, none⟩ (.int .i64 x)) gb g LU LN ca co va vo vv tu a o no x :=
  ⟨below_set G.below G.geg, G.ne, G.geb, G.geg, blk_far G.box G.ne _, blk_put G.alg 5 _ rfl, Kd.R_set G.A G.alg (by decide) 5 _, Kd.R_set G.O G.alg (by decide) 5 _, Kd.R_set G.V G.alg (by decide) 5 _⟩
theorem grownA {va1 : Value} {row : List Int} (G : Grow w W gb g LU LN ca co va vo vv tu a o no yes)
    (hR : Kd.R (Kd.slice 3 (Kd.int .i64)) 25 w1 w.heap.size (fun k => some k ≠ vo.ownBlock) va1 (a ++ [row])) (hB : Below w.heap.size w w1)
    (hg : W.grownBy w1 va.ownBlock) (hat : va1.ownBlock = va.ownBlock ∨ ∃ b, va1.ownBlock = some b ∧ W.heap.size ≤ b) : Grow w w1 gb g LU LN ca co va1 vo vv tu (a ++ [row]) o no yes :=
  ⟨hB, G.ne, G.geb, G.geg, blk_grown G.box hg (Kd.R_ne G.A G.box (by decide)), blk_grown G.alg hg G.neA, hR,
    Kd.R_mono (Kd.R_after (ok := fun _ => True) (Kd.R_mono G.O (fun _ hk => ⟨trivial, hk⟩)) hg hat) (fun _ hk => hk.2),
    Kd.R_mono (Kd.R_after (ok := fun k => some k ≠ vo.ownBlock) (Kd.R_mono G.V (fun _ hk => ⟨hk.2, hk.1⟩)) hg hat) (fun _ hk => ⟨hk.2, hk.1⟩)⟩
theorem grownO {vo1 : Value} {row : List Int} (G : Grow w W gb g LU LN ca co va vo vv tu a o no yes)
    (hR : Kd.R (Kd.slice 3 (Kd.int .i64)) 25 w1 w.heap.size (fun k => some k ≠ va.ownBlock) vo1 (o ++ [row])) (hB : Below w.heap.size w w1)
    (hg : W.grownBy w1 vo.ownBlock) (hat : vo1.ownBlock = vo.ownBlock ∨ ∃ b, vo1.ownBlock = some b ∧ W.heap.size ≤ b) : Grow w w1 gb g LU LN ca co va vo1 vv tu a (o ++ [row]) no yes :=
  ⟨hB, G.ne, G.geb, G.geg, blk_grown G.box hg (Kd.R_ne G.O G.box (by decide)), blk_grown G.alg hg G.neO,
    Kd.R_mono (Kd.R_after (ok := fun _ => True) (Kd.R_mono G.A (fun _ hk => ⟨trivial, hk⟩)) hg hat) (fun _ hk => hk.2), hR,
    Kd.R_after (ok := fun k => some k ≠ va.ownBlock) G.V hg hat⟩
end Grow

theorem step_append_row {P : Program} {ops : Array Oper} {op : Oper} {act : Act} {K : Act → World → Prop} {Q : Exit → Act → World → Prop} {E : Prop} {w W : World} {v x0 : Value} {a : List (List Int)} {row : List Int} {B b' : Nat} {ok okx : Nat → Prop}
    (hgd : op.guard = none) (s x : Operand) (ho : op.op = .call { callee := .builtin .append, args := #[s, x], argTypes := #[24, 24] })
    (ht : P.underlying 24 = some (.slice 25)) (hinfo : (P.info? 25).map (fun i => (i.zero, i.size, i.bytes)) = some (some (.slice none 0 0), 1, 24))
    (hA : Kd.R (Kd.slice 3 (Kd.int .i64)) 25 W w.heap.size ok v a) (hfresh : ∀ k, W.heap.size ≤ k → ok k)
    (hX : Kd.R (Kd.int .i64) 3 W b' okx x0 row) (hb' : w.heap.size ≤ b') (hok : ∀ k, x0.ownBlock = some k → ok k)
    (hB : W.heap[B]? = some (.cells #[x0] 25 (0, 0))) (hbel : Below w.heap.size w W) (hl : a.length ≤ 1000000)
    (hs : act.eval s = v) (hx : act.eval x = .slice (some ⟨B, 0, none⟩) 1 1)
    (h : ∀ v1 w1, Kd.R (Kd.slice 3 (Kd.int .i64)) 25 w1 w.heap.size ok v1 (a ++ [row]) → Below w.heap.size w w1 → W.grownBy w1 v.ownBlock → (v1.ownBlock = v.ownBlock ∨ ∃ b, v1.ownBlock = some b ∧ W.heap.size ≤ b) → K (act.put op.dst v1) w1) :
    if Region.wanted op (yielded ops act.tmps) = true then Oper.wp P op act W K Q else E := by
  obtain ⟨h0, inner, hown, hr⟩ := hA
  obtain ⟨i0, hi, hzz⟩ := Option.map_eq_some_iff.1 hinfo
  simp only [Prod.mk.injEq] at hzz
  obtain ⟨hz0, hz1, hz2⟩ := hzz
  have hM : (Kd.slice 3 (Kd.int .i64)).M W w.heap.size (fun k => some k = x0.ownBlock) row [x0] := by
    obtain ⟨Ao, co, eo⟩ := Kd.R_slice hX
    subst eo
    exact Kd.M_row (Kd.R_lower (Kd.R_mono (Kd.R_tight rfl hX) (fun _ h_ => h_)) hb')
  have hxt : ∀ k, x0.ownBlock = some k → some k ≠ v.ownBlock := by
    intro k hk hv
    obtain ⟨c1, e1⟩ := Kd.R_typed hX k hk
    obtain ⟨c2, e2⟩ := own_typed hown k hv.symm
    rw [e1] at e2
    simp at e2
  refine step_append_lies W hgd s x _ ho w.heap.size 25 i0 (.slice none 0 0) 1 24 ht hi hz0 hz1 hz2 rfl (by decide) v a.length inner hs hown ⟨B, 0, none⟩ 1 1 [x0] hx rfl
    (by simpa using World.news_of_block (cs := #[x0]) hB) (by intro y hy; simp only [List.mem_singleton] at hy; subst hy; exact (Kd.R_val hX).2) (by decide) (by simp only [maxLen]; omega) (by omega) (below_size hbel) W.heap.size rfl ?_
  intro g cap w1 h2 h3 h4 h5
  have hat : (Value.slice (some ⟨g, 0, none⟩) (a.length + 1) cap).ownBlock = v.ownBlock ∨ ∃ b, (Value.slice (some ⟨g, 0, none⟩) (a.length + 1) cap).ownBlock = some b ∧ W.heap.size ≤ b := by
    rcases h4 with h4 | h4
    · exact .inl (by rw [h4]; rfl)
    · exact .inr ⟨g, rfl, by omega⟩
  exact h _ w1 (Kd.R_appended h0 hr hM (fun k hk => ⟨hok k hk.symm, hxt k hk.symm⟩) hfresh h2 h3 hat) (hbel.grown h3 (below_size hbel) (own_base hown)) h3 hat
theorem blk_new' (w : World) (o : Obj) (n : Nat) (h : n = w.heap.size) : (w.alloc o).heap[n]? = some o := by subst h; exact blk_new w o
theorem row_grown {W w1 : World} {va x0 : Value} {a : List (List Int)} {row : List Int} {base b : Nat} {ok okx : Nat → Prop} (hA : Kd.R (Kd.slice 3 (Kd.int .i64)) 25 W base ok va a) (hg : W.grownBy w1 va.ownBlock) (hX : Kd.R (Kd.int .i64) 3 W b okx x0 row) : Kd.R (Kd.int .i64) 3 w1 b okx x0 row := by
  refine Kd.R_mono (Kd.R_grown (Kd.R_mono (Kd.R_tight rfl hX) (fun _ h => h)) hg ?_) (fun k hk => hX.1 k hk.symm)
  intro k hk hv
  obtain ⟨c1, e1⟩ := Kd.R_typed hX k hk.symm
  obtain ⟨c2, e2⟩ := Kd.R_typed hA k hv.symm
  rw [e1] at e2
  simp at e2
theorem own_apart {W : World} {va x0 : Value} {a : List (List Int)} {row : List Int} {base b : Nat} {ok okx : Nat → Prop} (hA : Kd.R (Kd.slice 3 (Kd.int .i64)) 25 W base ok va a) (hX : Kd.R (Kd.int .i64) 3 W b okx x0 row) : ∀ k, x0.ownBlock = some k → some k ≠ va.ownBlock := by
  intro k hk hv
  obtain ⟨c1, e1⟩ := Kd.R_typed hX k hk
  obtain ⟨c2, e2⟩ := Kd.R_typed hA k hv.symm
  rw [e1] at e2
  simp at e2
section
variable {P : Program} {ops : Array Oper} {op : Oper} {act : Act} {K : Act → World → Prop} {Q : Exit → Act → World → Prop} {E : Prop} {w W0 W : World} {gb g : Nat} {LU LN ca co va vo vv x0 : Value} {tu a o : List (List Int)} {no yes : Int} {row : List Int} {B b' : Nat} {okx : Nat → Prop}
theorem step_appA (G : Grow w W0 gb g LU LN ca co va vo vv tu a o no yes) (hX : Kd.R (Kd.int .i64) 3 W0 b' okx x0 row) (hb' : w.heap.size ≤ b') (hl : a.length ≤ 1000000)
    (hgd : op.guard = none) (s x : Operand) (ho : op.op = .call { callee := .builtin .append, args := #[s, x], argTypes := #[24, 24] })
    (ht : P.underlying 24 = some (.slice 25)) (hinfo : (P.info? 25).map (fun i => (i.zero, i.size, i.bytes)) = some (some (.slice none 0 0), 1, 24))
    (hs : act.eval s = va) (hx : act.eval x = .slice (some ⟨B, 0, none⟩) 1 1) (hW : Below W0.heap.size W0 W) (hB : W.heap[B]? = some (.cells #[x0] 25 (0, 0)))
    (h : ∀ v1 w1, Grow w w1 gb g LU LN ca co v1 vo vv tu (a ++ [row]) o no yes → (∀ b ok x row, Kd.R (Kd.int .i64) 3 W0 b ok x row → Kd.R (Kd.int .i64) 3 w1 b ok x row) → (∀ k ob, W0.heap.size ≤ k → W.heap[k]? = some ob → w1.heap[k]? = some ob) → K (act.put op.dst v1) w1) :
    if Region.wanted op (yielded ops act.tmps) = true then Oper.wp P op act W K Q else E := by
  have G1 := G.up hW
  have hX1 := Kd.R_below hX hW
  refine step_append_row hgd s x ho ht hinfo G1.A (fun k hk => Kd.fresh' (Kd.R_lt G1.O) k hk) hX1 hb' (own_apart G1.O hX1) hB G1.below hl hs hx ?_
  intro v1 w1 h1 h2 h3 h4
  exact h v1 w1 (G1.grownA h1 h2 h3 h4) (fun b ok x row k => row_grown G1.A h3 (Kd.R_below k hW)) (fun k ob hk hh => blk_grown hh h3 (fun e => absurd (Kd.R_lt G.A k e.symm) (by omega)))
theorem step_appO (G : Grow w W0 gb g LU LN ca co va vo vv tu a o no yes) (hX : Kd.R (Kd.int .i64) 3 W0 b' okx x0 row) (hb' : w.heap.size ≤ b') (hl : o.length ≤ 1000000)
    (hgd : op.guard = none) (s x : Operand) (ho : op.op = .call { callee := .builtin .append, args := #[s, x], argTypes := #[24, 24] })
    (ht : P.underlying 24 = some (.slice 25)) (hinfo : (P.info? 25).map (fun i => (i.zero, i.size, i.bytes)) = some (some (.slice none 0 0), 1, 24))
    (hs : act.eval s = vo) (hx : act.eval x = .slice (some ⟨B, 0, none⟩) 1 1) (hW : Below W0.heap.size W0 W) (hB : W.heap[B]? = some (.cells #[x0] 25 (0, 0)))
    (h : ∀ v1 w1, Grow w w1 gb g LU LN ca co va v1 vv tu a (o ++ [row]) no yes → K (act.put op.dst v1) w1) :
    if Region.wanted op (yielded ops act.tmps) = true then Oper.wp P op act W K Q else E := by
  have G1 := G.up hW
  have hX1 := Kd.R_below hX hW
  refine step_append_row hgd s x ho ht hinfo G1.O (fun k hk => Kd.fresh' (Kd.R_lt G1.A) k hk) hX1 hb' (own_apart G1.A hX1) hB G1.below hl hs hx ?_
  intro v1 w1 h1 h2 h3 h4
  exact h v1 w1 (G1.grownO h1 h2 h3 h4)
end
end Go.Proofs.Ytacifhahfamipaa.P


namespace Go.Proofs.Ytacifhahfamipaa.P
open Go.RowKit Go.Proofs.YtacifhahfamipaaW.PrintWords Go.Proofs.YtacifhahfamipaaW.PrintLast Go.Proofs.YtacifhahfamipaaW.PrintMore Go.Proofs.Cl
set_option linter.unusedVariables false
set_option linter.unusedSimpArgs false
theorem Ev.get {α : Type} {f : Nat → Option α} {r : α} (h : Ev f r) : ∃ k, f k = some r := by
 obtain ⟨k, hk⟩ := h
 exact ⟨k, hk k (Nat.le_refl _)⟩
theorem z28_10 {p : Prop} (h : p := by repeat (first | (with_reducible first | exact HBj.out | apply below_alloc | apply pw_below_drewN | apply below_drew1) | exact HBj.out)) : p := h
theorem z28_9 {p : Prop} (h : p := by repeat (first | (with_reducible first | exact HBk.out | apply below_alloc | apply pw_below_drewN | apply below_drew1) | exact HBk.out)) : p := h
theorem z28_8 {p : Prop} (h : p := by first | exact blk_new' _ _ _ (by simp) | exact HKA.out _ _ (by simp) z28_4) : p := h
theorem z28_7 {p : Prop} (h : p := by kernel_rfl) : p := h
theorem z28_6 {p : Prop} (h : p := by simp only [List.length_map, List.length_range]; omega) : p := h
theorem z28_5 {p : Prop} (h : p := by rw [List.range_succ, List.map_append, List.map_append]; have q := GCO.out.setA.setO; simp only [List.length_append, List.length_map, List.length_range, List.length_singleton] at q; exact q) : p := h
theorem z28_4 {p : Prop} (h : p := by first | exact blk_new' _ _ _ (by simp) | exact blk_alloc (blk_new' _ _ _ (by simp)) _) : p := h
theorem z28_3 {p : Prop} (h : p := by (with_reducible repeat (first | refine blk_drewN ?_ _ | refine blk_drew ?_ | refine blk_alloc ?_ _)); exact GCO.out.alg) : p := h
theorem z28_2 {p : Prop} (h : p := by repeat (first | exact Below.refl _ _ | (with_reducible first | apply below_alloc | apply pw_below_drewN | apply below_drew1))) : p := h
theorem z28_1 {p : Prop} (h : p := by (with_reducible repeat (first | refine blk_drewN ?_ _ | refine blk_drew ?_ | refine blk_alloc ?_ _)); exact GC0.out.alg) : p := h
theorem z28_0 {p : Prop} (h : p := by (with_reducible repeat (first | refine blk_drewN ?_ _ | refine blk_drew ?_ | refine blk_alloc ?_ _)); exact GCA.out.alg) : p := h
set_option maxHeartbeats 8000000 in
set_option maxRecDepth 100000 in
theorem told_lat (Au : Option Addr) (cu : Nat) (u : List (List Int)) (An : Option Addr) (cn : Nat) (nt : List Int) (w : World)
 (hu : Kd.C (Kd.slice 3 (Kd.int .i64)) w Au u.length u) (hcu : u.length ≤ cu) (hn : Kd.C (Kd.int .i64) w An nt.length nt) (hcn : nt.length ≤ cn) (h : Lat u) (hlen : nt.length = u.length) :
 Calls Try.prog 68 #[.agg #[.slice Au u.length cu, .slice An nt.length cn]] w fun e w' => Below w.heap.size w w' ∧
  ((¬ OL u nt ∧ e = .returned (.pointer none)) ∨ (OL u nt ∧ ∃ g, e = .returned (.pointer (some ⟨g, 0, none⟩)) ∧ w.heap.size ≤ g ∧ AlgAt w' g u (mtab u) (jtab u) nt (leastI u) (rd nt (leastI u)))) := by
 have HU := ak hu
 have HC := ak hcu
 have HN := ak hn
 have HCN := ak hcn
 have HL := ak h
 have HE := ak hlen
 have h12 : u.length ≤ 12 := h.1.le12
 clear hu hcu hn hcn h
 obtain ⟨k1, hk1⟩ := Ev.get (Q.impl_lat_ev u)
 rw [dT_ HL.out] at hk1
 obtain ⟨k2, hk2⟩ := Ev.get (Q.turned_ev HL.out.1)
 obtain ⟨tu, htu⟩ : ∃ tu, tu = turn u := ⟨_, rfl⟩
 rw [← htu] at hk2
 have HTU := ak htu
 clear htu
 have E1 := ak hk1
 have E2 := ak hk2
 clear hk1 hk2
 go_enter Try.func68, Try.ntmps68
 go_wp2_with (first
  | ((with_reducible refine gate_dst (N := 1) rfl ?_); refine bx_ (N := 1) (cs := #[.slice Au u.length cu, .slice An nt.length cn]) (t := 27) ?_; intro gb hg w4 hbox hb; have hc0 : w4.cell? ⟨gb, 0, none⟩ = some (.slice Au u.length cu) := (blk_cell hbox 0).trans rfl; have hc1 : w4.cell? ⟨gb, 1, none⟩ = some (.slice An nt.length cn) := (blk_cell hbox 1).trans rfl; have HB4 := ak hb; have HX4 := ak hbox; have HGE := ak (Nat.le_of_eq hg.symm); clear hb hg hbox)
  | (go_at_call 104; (with_reducible refine (impl_LatticeOk.calls k1 _ _ u true _ ?s1 ?s2 E1.out).mono ?_); (case s1 => repeat (first | exact (Kd.C_below HU.out HB4.out) | (with_reducible refine Kd.C_alloc ?_ _) | (with_reducible refine Kd.C_drewN ?_ _) | (with_reducible refine Kd.C_drew ?_))); (case s2 => exact HC.out); rintro e w5 ⟨rfl, hD⟩; have HX5 := ak (blk_below HX4.out hD); have HB5 := ak (below_step HB4.out hD); have hd0 : w5.cell? ⟨gb, 0, none⟩ = some (.slice Au u.length cu) := (blk_cell HX5.out 0).trans rfl; have hd1 : w5.cell? ⟨gb, 1, none⟩ = some (.slice An nt.length cn) := (blk_cell HX5.out 1).trans rfl; clear hD)
  | ((with_reducible refine gate_dst (N := 33) rfl ?_); refine bx_ (N := 33) (cs := #[.slice Au u.length cu, .slice none 0 0, .slice none 0 0, .slice An nt.length cn, .int .i64 0, .int .i64 0]) (t := 69) ?_; intro g hg w6 hbox hb; have HNE : Aside0 (gb ≠ g) := ⟨(by rw [hg]; exact Nat.ne_of_lt (blk_lt HX5.out))⟩; have HGG : Aside0 (w.heap.size ≤ g) := ⟨(by rw [hg]; exact (below_size HB5.out))⟩; have HX6 := ak (blk_below HX5.out hb); have HB6 := ak (below_step HB5.out hb); have HG6 := ak hbox; have he0 : w6.cell? ⟨gb, 0, none⟩ = some (.slice Au u.length cu) := (blk_cell HX6.out 0).trans rfl; clear hb hg hbox)
  | (go_at_call 105; (with_reducible refine (impl_turned.calls k2 _ _ u tu _ ?s1 ?s2 E2.out).mono ?_); (case s1 => repeat (first | exact (Kd.C_below HU.out HB6.out) | (with_reducible refine Kd.C_alloc ?_ _) | (with_reducible refine Kd.C_drewN ?_ _) | (with_reducible refine Kd.C_drew ?_))); (case s2 => exact HC.out); rintro e w7 ⟨vv, rfl, hS, hD⟩; have G7 : Aside0 (Grow w w7 gb g (.slice Au u.length cu) (.slice An nt.length cn) (.slice none 0 0) (.slice none 0 0) (.slice none 0 0) (.slice none 0 0) vv tu [] [] 0 0) := ⟨⟨below_step HB6.out hD, HNE.out, HGE.out, HGG.out, blk_below HX6.out hD, blk_below HG6.out hD, Kd.R_nil _ _ _ _ _, Kd.R_nil _ _ _ _ _, Kd.R_lower (Kd.R_mono (Kd.S_R hS) (fun k _ => by simp [Value.ownBlock])) (below_size HB6.out)⟩⟩; have hf0 : w7.cell? ⟨gb, 0, none⟩ = some (.slice Au u.length cu) := (blk_cell G7.out.box 0).trans rfl; clear hS hD hlen HX4 HB4 HX5 HB5 HX6 HB6 HG6))
 go_loopw [40] (fun a3 wr => ∃ (i : Nat) (va vo : Value), i ≤ u.length ∧ a3 = .int .i64 i ∧ Aside0 (Grow w wr gb g (.slice Au u.length cu) (.slice An nt.length cn) va vo va vo vv tu ((List.range i).map (mrow u)) ((List.range i).map (jrow u)) 0 0)) (fun a3 _ => u.length - (intOf a3).toNat)
 case atStart => exact ⟨0, _, _, Nat.zero_le _, rfl, G7⟩
 case round =>
  obtain ⟨i, va, vo, hi, rfl, ⟨G⟩⟩ := hrel
  clear G7 hf0
  obtain ⟨W1, hW1⟩ : ∃ W1, W1 = wr := ⟨_, rfl⟩
  subst hW1
  obtain ⟨Av, cv, ev⟩ := Kd.R_slice G.V
  subst ev
  by_cases hlt : i < u.length
  ·
   have hf0 : W1.cell? ⟨gb, 0, none⟩ = some (.slice Au u.length cu) := (blk_cell G.box 0).trans rfl
   have GA := ak G
   clear G
   go_wp2_with (first
    | ((with_reducible refine gate_dst (N := 43) rfl ?_); refine Kd.R_lit (Kd.int .i64) _ 3 ?hg (N := 43) ?hd (xs := ([] : List Int)) (inner := []) (ok := fun _ => True) (okp := fun _ => True) ?hr ?hp (fun _ hk => hk) trivial (Below.refl _ _) (Nat.le_refl _) (by simp) ?_; (case hd => rfl); (case hg => rfl); (case hr => first | (go_simp; done) | (go_simp; rfl)); (case hp => exact (Reps.none _ _)); intro vx wa ho5 hb hg_ hnew_; clear hg_ hnew_; have HX1 := ak ho5; have HBa := ak hb; clear ho5 hb)
    | ((with_reducible refine gate_dst (N := 44) rfl ?_); refine Kd.R_lit (Kd.int .i64) _ 3 ?hg (N := 44) ?hd (xs := ([] : List Int)) (inner := []) (ok := fun _ => True) (okp := fun _ => True) ?hr ?hp (fun _ hk => hk) trivial (Below.refl _ _) (Nat.le_refl _) (by simp) ?_; (case hd => rfl); (case hg => rfl); (case hr => first | (go_simp; done) | (go_simp; rfl)); (case hp => exact (Reps.none _ _)); intro vy wb ho5 hb hg_ hnew_; clear hg_ hnew_; have HY1 := ak ho5; have HX2 : Aside0 (Kd.R (Kd.int .i64) 3 wb W1.heap.size (fun k => some k ≠ vy.ownBlock) vx []) := ⟨Kd.R_mono (Kd.R_below (Kd.R_bound HX1.out) hb) (fun k hk e => absurd (Kd.R_base HY1.out k e.symm) (by have := hk.2.2.1; omega))⟩; have HY2 : Aside0 (Kd.R (Kd.int .i64) 3 wb W1.heap.size (fun k => some k ≠ vx.ownBlock) vy []) := ⟨Kd.R_lower (Kd.R_mono (Kd.R_bound HY1.out) (fun k hk e => absurd (Kd.R_lt HX1.out k e.symm) (by have := hk.2.1; omega))) (below_size HBa.out)⟩; have HBb := ak (below_step HBa.out hb); have hf1 : wb.cell? ⟨gb, 0, none⟩ = some (.slice Au u.length cu) := (blk_cell (GA.out.up HBb.out).box 0).trans rfl; clear ho5 hb HX1 HY1 HBa))
   go_loopw [48, 6, 7] (fun a4 v6 v7 wj => ∃ (j : Nat), j ≤ u.length ∧ a4 = .int .i64 j ∧ Aside0 (Kd.R (Kd.int .i64) 3 wj W1.heap.size (fun k => some k ≠ v7.ownBlock) v6 ((List.range j).map fun b => meetI u i b)) ∧ Aside0 (Kd.R (Kd.int .i64) 3 wj W1.heap.size (fun k => some k ≠ v6.ownBlock) v7 ((List.range j).map fun b => joinI u i b)) ∧ Aside0 (Below W1.heap.size W1 wj)) (fun a4 _ _ _ => u.length - (intOf a4).toNat)
   case atStart => exact ⟨0, Nat.zero_le _, rfl, HX2, HY2, HBb⟩
   case round =>
    obtain ⟨j, hj, rfl, HXj, HYj, HBj⟩ := hrel
    clear HX2 HY2 HBb hf1
    by_cases hjt : j < u.length
    ·
     have hf2 : wr.cell? ⟨gb, 0, none⟩ = some (.slice Au u.length cu) := (blk_cell (GA.out.up HBj.out).box 0).trans rfl
     obtain ⟨k3, hk3⟩ := Ev.get (Q.impl_meet_ev HL.out.1 hlt hjt)
     obtain ⟨k4, hk4⟩ := Ev.get (Q.impl_meet_ev (u := turn u) (turn_ord HL.out.1) (by rw [turn_len]; exact hlt) (by rw [turn_len]; exact hjt))
     rw [meetI_turn hlt hjt, ← HTU.out] at hk4
     have E3 := ak hk3
     have E4 := ak hk4
     clear hk3 hk4
     go_wp2_with (first
      | (go_at_call 106; (with_reducible refine (impl_meet.calls k3 _ _ u i j (meetI u i j) _ ?s1 ?s2 E3.out).mono ?_); (case s1 => repeat (first | exact (Kd.C_below HU.out (below_step GA.out.below HBj.out)) | (with_reducible refine Kd.C_alloc ?_ _) | (with_reducible refine Kd.C_drewN ?_ _) | (with_reducible refine Kd.C_drew ?_))); (case s2 => exact HC.out); rintro e w2 ⟨rfl, hD⟩; obtain ⟨nd, rfl⟩ := hD)
      | ((with_reducible refine gate_builtin (b := .append) (xs := #[.tmp 51, .tmp 57]) rfl ?_); at_builtin; refine Kd.R_append (Kd.int .i64) (w0 := W1) W1.heap.size rfl (.tmp 51) (.tmp 57) 25 3 (.int .i64 0) 8 rfl Try.underlying25 info3 rfl (by decide) (by omega) u6 ((List.range j).map fun b => meetI u i b) (meetI u i j) [.int .i64 (meetI u i j)] (fun k => some k ≠ u7.ownBlock) (fun _ => False) rfl rfl rfl (fun _ hk => hk.elim) (fun k hk => Kd.fresh' (Kd.R_lt (xR HYj.out)) k hk) (xR HXj.out) z28_10 (below_size z28_10) z28_6 ?_; intro vx1 wk ho hb hg hat; have HBk := ak hb; have HXk := ak ho; have HYk : Aside0 (Kd.R (Kd.int .i64) 3 wk W1.heap.size (fun k => some k ≠ vx1.ownBlock) u7 _) := ak (Kd.R_mono (Kd.R_after (ok := fun _ => True) (Kd.R_mono (xR HYj.out) (fun _ hk => ⟨trivial, hk⟩)) hg hat) (fun _ hk => hk.2)); clear hb ho hg hat)
      | (go_at_call 106; (with_reducible refine (impl_meet.calls k4 _ _ tu i j (joinI u i j) _ ?s1 ?s2 E4.out).mono ?_); (case s1 => repeat (first | exact (Kd.C_below (Kd.R_reads' GA.out.V).2.2 HBk.out) | (with_reducible refine Kd.C_alloc ?_ _) | (with_reducible refine Kd.C_drewN ?_ _) | (with_reducible refine Kd.C_drew ?_))); (case s2 => exact (Kd.R_reads' GA.out.V).2.1); rintro e w2 ⟨rfl, hD⟩; obtain ⟨nd2, rfl⟩ := hD)
      | ((with_reducible refine gate_builtin (b := .append) (xs := #[.tmp 59, .tmp 64]) rfl ?_); at_builtin; refine Kd.R_append (Kd.int .i64) (w0 := W1) W1.heap.size rfl (.tmp 59) (.tmp 64) 25 3 (.int .i64 0) 8 rfl Try.underlying25 info3 rfl (by decide) (by omega) u7 ((List.range j).map fun b => joinI u i b) (joinI u i j) [.int .i64 (joinI u i j)] (fun k => some k ≠ vx1.ownBlock) (fun _ => False) rfl rfl rfl (fun _ hk => hk.elim) (fun k hk => Kd.fresh' (Kd.R_lt (xR HXk.out)) k hk) (xR HYk.out) z28_9 (below_size z28_9) z28_6 ?_; intro vy1 wl ho hb hg hat; have HBl := ak hb; have HYl := ak ho; have HXl : Aside0 (Kd.R (Kd.int .i64) 3 wl W1.heap.size (fun k => some k ≠ vy1.ownBlock) vx1 _) := ak (Kd.R_mono (Kd.R_after (ok := fun _ => True) (Kd.R_mono (xR HXk.out) (fun _ hk => ⟨trivial, hk⟩)) hg hat) (fun _ hk => hk.2)); clear hb ho hg hat))
     go_roundw
     case rel => exact ⟨j + 1, (by omega), (by go_num), ⟨(by rw [List.range_succ, List.map_append]; exact HXl.out)⟩, ⟨(by rw [List.range_succ, List.map_append]; exact HYl.out)⟩, HBl⟩
     case measure => simp [intOf]; omega
    have ej : j = u.length := by omega
    have HX : Aside0 (Kd.R (Kd.int .i64) 3 wr W1.heap.size (fun k => some k ≠ u7.ownBlock) u6 (mrow u i)) := ⟨(by have := HXj.out; rw [ej] at this; exact this)⟩
    have HY : Aside0 (Kd.R (Kd.int .i64) 3 wr W1.heap.size (fun k => some k ≠ u6.ownBlock) u7 (jrow u i)) := ⟨(by have := HYj.out; rw [ej] at this; exact this)⟩
    have GB := ak (GA.out.up HBj.out)
    have HBB := HBj
    have hs1 : wr.cell? ⟨g, 1, none⟩ = some va := (blk_cell GB.out.alg 1).trans rfl
    have hs2 : wr.cell? ⟨g, 2, none⟩ = some vo := (blk_cell GB.out.alg 2).trans rfl
    clear HXj HYj HBj ej
    obtain ⟨Ax, cx, ex⟩ := Kd.R_slice HX.out
    subst ex
    obtain ⟨Ay, cy, ey⟩ := Kd.R_slice HY.out
    subst ey
    go_wp2
    refine start_ (n := 22) (S := (fun w' => w'.cell? ⟨g, 1, none⟩ = some va ∧ w'.cell? ⟨g, 2, none⟩ = some vo)) (ds := [18, 21]) (bA 22 0) z28_7 rfl rfl ⟨hs1, hs2⟩ (fun hHeld => ?_)
    have GC0 := ak (GB.out.drew)
    have HX0 := ak (Kd.R_drew HX.out)
    have HY0 := ak (Kd.R_drew HY.out)
    clear GB HX HY hs1 hs2 HBB
    generalize wr.drew = wd at GC0 HX0 HY0 hHeld ⊢
    refine pu_ (i := 0) (N := some 67) (bA 22 1) ?_
    refine pu_ (i := 1) (N := some 68) (bA 22 3) ?_
    refine pu_ (i := 2) (N := some 69) (bA 22 7) ?_
    refine pu_ (i := 3) (N := some 70) (bA 22 15) ?_
    refine pu_ (i := 4) (N := some 71) (bA 22 31) ?_
    refine tk_ (i := 5) (N := some 72) (bA 22 63) ?_
    refine pu_ (i := 6) (N := some 73) (bA 22 127) ?_
    refine pu_ (i := 9) (N := some 76) (bA 22 639) ?_
    refine pu_ (i := 10) (N := some 77) (bA 22 1663) ?_
    refine pu_ (i := 11) (N := some 78) (bA 22 3711) ?_
    refine tk_ (i := 12) (N := some 79) (bA 22 7807) ?_
    refine pu_ (i := 13) (N := some 80) (bA 22 15999) ?_
    refine two_ (i := 7) (j := 14) (Ni := some 74) (Nj := some 81) (bA 22 16127) (bA 22 32383) rfl rfl rfl rfl z28_7 (by decide) (by decide) (fun K hK => ?_) (fun K hK => ?_)
    ·
     refine value_ (w1 := ?_) (v := ?_) (by rfl) rfl ?_ ?_
     rotate_left 2
     ·
      go_simp
      constructor
      ·
       rfl
      rfl
     refine hK.out _ _ ⟨(blk_cell z28_1 1).trans rfl, (blk_cell z28_1 2).trans rfl⟩ (fun hHeld => ?_)
     clear hK K
     refine no_ (N := some 74) ?_
     refine two_ (i := 8) (j := 14) (Ni := some 75) (Nj := some 81) (bA 22 16383) (bA 22 32511) rfl rfl rfl rfl z28_7 (by decide) (by decide) (fun K hK => ?_) (fun K hK => ?_)
     ·
      refine step_appA GC0.out HX0.out (below_size GA.out.below) z28_6 (by rfl) (.tmp 72) (.tmp 74) (by rfl) Try.underlying24 info25 (by rfl) (by rfl) z28_2 z28_4 ?_
      intro va1 wA g1 g2 g3
      obtain ⟨Ap, cp, ep⟩ := Kd.R_slice g1.A
      subst ep
      have GCA := ak g1
      have HRA := ak g2
      have HKA := ak g3
      clear g1 g2 g3
      refine hK.out _ _ ⟨(blk_cell z28_0 1).trans rfl, (blk_cell z28_0 2).trans rfl⟩ (fun hHeld => ?_)
      clear hK K
      refine no_ (N := some 75) ?_
      refine one_ (i := 14) (N := some 81) (bA 22 32767) rfl rfl z28_7 (by decide) (fun K hK => ?_)
      refine value_ (w1 := ?_) (v := ?_) (by rfl) rfl ?_ ?_
      rotate_left 2
      ·
       go_simp
       constructor
       ·
        rfl
       rfl
      refine hK.out _ _ ⟨(blk_cell z28_0 1).trans rfl, (blk_cell z28_0 2).trans rfl⟩ (fun hHeld => ?_)
      clear hK K
      refine no_ (N := some 81) ?_
      refine one_ (i := 15) (N := some 82) (bA 22 65535) rfl rfl z28_7 (by decide) (fun K hK => ?_)
      refine step_appO GCA.out (HRA.out _ _ _ _ HY0.out) (below_size GA.out.below) z28_6 (by rfl) (.tmp 79) (.tmp 81) (by rfl) Try.underlying24 info25 (by rfl) (by rfl) z28_2 z28_8 ?_
      intro vo1 wO g1
      obtain ⟨Aq, cq, eq_⟩ := Kd.R_slice g1.O
      subst eq_
      have GCO := ak g1
      have hq1 : wO.cell? ⟨g, 1, none⟩ = some va := (blk_cell g1.alg 1).trans rfl
      have hq2 : wO.cell? ⟨g, 2, none⟩ = some vo := (blk_cell g1.alg 2).trans rfl
      have hz1 := blk_frozen g1.alg 1
      have hz2 := blk_frozen g1.alg 2
      clear g1
      refine hK.out _ _ ⟨(blk_cell z28_3 1).trans rfl, (blk_cell z28_3 2).trans rfl⟩ (fun hHeld => ?_)
      clear hK K
      refine no_ (N := some 82) ?_
      refine pu_ (i := 16) (N := some 83) (bA 22 131071) ?_
      refine pu_ (i := 17) (N := some 84) (bA 22 262143) ?_
      refine last_ (i := 18) (N := none) (bA 22 524287) rfl rfl z28_7 (by decide) (fun K hK => ?_)
      refine skip_ (w1 := ?_) (by rfl) rfl ?_ ?_
      rotate_left
      ·
       go_simp
       rfl
      refine hK.out _ _ ?_
      clear hK K
      refine pu_ (i := 19) (N := some 85) (bA 22 1048575) ?_
      refine pu_ (i := 20) (N := some 86) (bA 22 2097151) ?_
      refine last_ (i := 21) (N := none) (bA 22 4194303) rfl rfl z28_7 (by decide) (fun K hK => ?_)
      refine skip_ (w1 := ?_) (by rfl) rfl ?_ ?_
      rotate_left
      ·
       go_simp
       rfl
      refine hK.out _ _ ?_
      clear hK K
      refine done_ z28_7 ?_
      go_wp2
      go_roundw
      case rel => exact ⟨i + 1, _, _, (by omega), (by go_num), ⟨z28_5⟩⟩
      case measure => simp [intOf]; omega
     refine value_ (w1 := ?_) (v := ?_) (by rfl) rfl ?_ ?_
     rotate_left 2
     ·
      go_simp
      constructor
      ·
       rfl
      rfl
     refine hK.out _ _ ⟨(blk_cell z28_1 1).trans rfl, (blk_cell z28_1 2).trans rfl⟩ (fun hHeld => ?_)
     clear hK K
     refine no_ (N := some 81) ?_
     refine one_ (i := 8) (N := some 75) (bA 22 32767) rfl rfl z28_7 (by decide) (fun K hK => ?_)
     refine step_appA GC0.out HX0.out (below_size GA.out.below) z28_6 (by rfl) (.tmp 72) (.tmp 74) (by rfl) Try.underlying24 info25 (by rfl) (by rfl) z28_2 z28_4 ?_
     intro va1 wA g1 g2 g3
     obtain ⟨Ap, cp, ep⟩ := Kd.R_slice g1.A
     subst ep
     have GCA := ak g1
     have HRA := ak g2
     have HKA := ak g3
     clear g1 g2 g3
     refine hK.out _ _ ⟨(blk_cell z28_0 1).trans rfl, (blk_cell z28_0 2).trans rfl⟩ (fun hHeld => ?_)
     clear hK K
     refine no_ (N := some 75) ?_
     refine one_ (i := 15) (N := some 82) (bA 22 65535) rfl rfl z28_7 (by decide) (fun K hK => ?_)
     refine step_appO GCA.out (HRA.out _ _ _ _ HY0.out) (below_size GA.out.below) z28_6 (by rfl) (.tmp 79) (.tmp 81) (by rfl) Try.underlying24 info25 (by rfl) (by rfl) z28_2 z28_8 ?_
     intro vo1 wO g1
     obtain ⟨Aq, cq, eq_⟩ := Kd.R_slice g1.O
     subst eq_
     have GCO := ak g1
     have hq1 : wO.cell? ⟨g, 1, none⟩ = some va := (blk_cell g1.alg 1).trans rfl
     have hq2 : wO.cell? ⟨g, 2, none⟩ = some vo := (blk_cell g1.alg 2).trans rfl
     have hz1 := blk_frozen g1.alg 1
     have hz2 := blk_frozen g1.alg 2
     clear g1
     refine hK.out _ _ ⟨(blk_cell z28_3 1).trans rfl, (blk_cell z28_3 2).trans rfl⟩ (fun hHeld => ?_)
     clear hK K
     refine no_ (N := some 82) ?_
     refine pu_ (i := 16) (N := some 83) (bA 22 131071) ?_
     refine pu_ (i := 17) (N := some 84) (bA 22 262143) ?_
     refine last_ (i := 18) (N := none) (bA 22 524287) rfl rfl z28_7 (by decide) (fun K hK => ?_)
     refine skip_ (w1 := ?_) (by rfl) rfl ?_ ?_
     rotate_left
     ·
      go_simp
      rfl
     refine hK.out _ _ ?_
     clear hK K
     refine pu_ (i := 19) (N := some 85) (bA 22 1048575) ?_
     refine pu_ (i := 20) (N := some 86) (bA 22 2097151) ?_
     refine last_ (i := 21) (N := none) (bA 22 4194303) rfl rfl z28_7 (by decide) (fun K hK => ?_)
     refine skip_ (w1 := ?_) (by rfl) rfl ?_ ?_
     rotate_left
     ·
      go_simp
      rfl
     refine hK.out _ _ ?_
     clear hK K
     refine done_ z28_7 ?_
     go_wp2
     go_roundw
     case rel => exact ⟨i + 1, _, _, (by omega), (by go_num), ⟨z28_5⟩⟩
     case measure => simp [intOf]; omega
    refine value_ (w1 := ?_) (v := ?_) (by rfl) rfl ?_ ?_
    rotate_left 2
    ·
     go_simp
     constructor
     ·
      rfl
     rfl
    refine hK.out _ _ ⟨(blk_cell z28_1 1).trans rfl, (blk_cell z28_1 2).trans rfl⟩ (fun hHeld => ?_)
    clear hK K
    refine no_ (N := some 81) ?_
    refine one_ (i := 7) (N := some 74) (bA 22 32511) rfl rfl z28_7 (by decide) (fun K hK => ?_)
    refine value_ (w1 := ?_) (v := ?_) (by rfl) rfl ?_ ?_
    rotate_left 2
    ·
     go_simp
     constructor
     ·
      rfl
     rfl
    refine hK.out _ _ ⟨(blk_cell z28_1 1).trans rfl, (blk_cell z28_1 2).trans rfl⟩ (fun hHeld => ?_)
    clear hK K
    refine no_ (N := some 74) ?_
    refine one_ (i := 8) (N := some 75) (bA 22 32767) rfl rfl z28_7 (by decide) (fun K hK => ?_)
    refine step_appA GC0.out HX0.out (below_size GA.out.below) z28_6 (by rfl) (.tmp 72) (.tmp 74) (by rfl) Try.underlying24 info25 (by rfl) (by rfl) z28_2 z28_4 ?_
    intro va1 wA g1 g2 g3
    obtain ⟨Ap, cp, ep⟩ := Kd.R_slice g1.A
    subst ep
    have GCA := ak g1
    have HRA := ak g2
    have HKA := ak g3
    clear g1 g2 g3
    refine hK.out _ _ ⟨(blk_cell z28_0 1).trans rfl, (blk_cell z28_0 2).trans rfl⟩ (fun hHeld => ?_)
    clear hK K
    refine no_ (N := some 75) ?_
    refine one_ (i := 15) (N := some 82) (bA 22 65535) rfl rfl z28_7 (by decide) (fun K hK => ?_)
    refine step_appO GCA.out (HRA.out _ _ _ _ HY0.out) (below_size GA.out.below) z28_6 (by rfl) (.tmp 79) (.tmp 81) (by rfl) Try.underlying24 info25 (by rfl) (by rfl) z28_2 z28_8 ?_
    intro vo1 wO g1
    obtain ⟨Aq, cq, eq_⟩ := Kd.R_slice g1.O
    subst eq_
    have GCO := ak g1
    have hq1 : wO.cell? ⟨g, 1, none⟩ = some va := (blk_cell g1.alg 1).trans rfl
    have hq2 : wO.cell? ⟨g, 2, none⟩ = some vo := (blk_cell g1.alg 2).trans rfl
    have hz1 := blk_frozen g1.alg 1
    have hz2 := blk_frozen g1.alg 2
    clear g1
    refine hK.out _ _ ⟨(blk_cell z28_3 1).trans rfl, (blk_cell z28_3 2).trans rfl⟩ (fun hHeld => ?_)
    clear hK K
    refine no_ (N := some 82) ?_
    refine pu_ (i := 16) (N := some 83) (bA 22 131071) ?_
    refine pu_ (i := 17) (N := some 84) (bA 22 262143) ?_
    refine last_ (i := 18) (N := none) (bA 22 524287) rfl rfl z28_7 (by decide) (fun K hK => ?_)
    refine skip_ (w1 := ?_) (by rfl) rfl ?_ ?_
    rotate_left
    ·
     go_simp
     rfl
    refine hK.out _ _ ?_
    clear hK K
    refine pu_ (i := 19) (N := some 85) (bA 22 1048575) ?_
    refine pu_ (i := 20) (N := some 86) (bA 22 2097151) ?_
    refine last_ (i := 21) (N := none) (bA 22 4194303) rfl rfl z28_7 (by decide) (fun K hK => ?_)
    refine skip_ (w1 := ?_) (by rfl) rfl ?_ ?_
    rotate_left
    ·
     go_simp
     rfl
    refine hK.out _ _ ?_
    clear hK K
    refine done_ z28_7 ?_
    go_wp2
    go_roundw
    case rel => exact ⟨i + 1, _, _, (by omega), (by go_num), ⟨z28_5⟩⟩
    case measure => simp [intOf]; omega
  have ei : i = u.length := by omega
  have GT : Grow w W1 gb g (.slice Au u.length cu) (.slice An nt.length cn) va vo va vo (.slice Av tu.length cv) tu (mtab u) (jtab u) 0 0 := by have q := G; rw [ei] at q; exact q
  obtain ⟨Aa, ca, ea⟩ := Kd.R_slice GT.A
  subst ea
  obtain ⟨Ao, co, eo⟩ := Kd.R_slice GT.O
  subst eo
  obtain ⟨k5, hk5⟩ := Ev.get (Q.impl_least_ev u)
  have E5 : Aside0 (impl_LeastOf.f k5 u = some (leastI u, true)) := ⟨(by obtain ⟨ml, hml, hmlt, hmle⟩ := HL.out.least; rw [hk5]; unfold leastOfP; rw [if_pos HL.out.1, hml]; simp)⟩
  have GA := ak GT
  clear G GT ei hk5
  have hf0 : W1.cell? ⟨gb, 0, none⟩ = some (.slice Au u.length cu) := (blk_cell GA.out.box 0).trans rfl
  go_wp2_with (go_at_call 69; (with_reducible refine (impl_LeastOf.calls k5 _ _ u (leastI u) true _ ?s1 ?s2 E5.out).mono ?_); (case s1 => repeat (first | exact (Kd.C_below HU.out GA.out.below) | (with_reducible refine Kd.C_alloc ?_ _) | (with_reducible refine Kd.C_drewN ?_ _) | (with_reducible refine Kd.C_drew ?_))); (case s2 => exact HC.out); rintro e w2 ⟨rfl, hD⟩; obtain ⟨nd, rfl⟩ := hD; have hst : (W1.drewN nd).cell? ⟨g, 4, none⟩ = some (.int .i64 0) := (blk_cell GA.out.alg 4).trans rfl; have hfz := blk_frozen (blk_drewN GA.out.alg nd) 4; have hn1 := HNE.out; have hn2 := Ne.symm HNE.out; have hm1 : (W1.drewN nd).cell? ⟨gb, 1, none⟩ = some (.slice An nt.length cn) := (blk_cell GA.out.box 1).trans rfl)
  go_loopw [100] (fun a0 wr => ∃ c, c ≤ nt.length ∧ a0 = .int .i64 (c : Nat) ∧ Aside0 (∀ d, d < c → OppAt u nt d) ∧ Aside0 (Grow w wr gb g (.slice Au u.length cu) (.slice An nt.length cn) (.slice Aa (mtab u).length ca) (.slice Ao (jtab u).length co) (.slice Aa (mtab u).length ca) (.slice Ao (jtab u).length co) (.slice Av tu.length cv) tu (mtab u) (jtab u) (leastI u) 0)) (fun a0 _ => nt.length - (intOf a0).toNat)
  case atStart => exact ⟨0, Nat.zero_le _, rfl, ⟨fun d h => absurd h (Nat.not_lt_zero _)⟩, ⟨(GA.out.drewN _).setNo _⟩⟩
  case round =>
   clear hf0 hst hfz hm1 hc0 hc1 hd0 hd1 he0
   obtain ⟨c, hc, rfl, HP, GP⟩ := hrel
   have hn12 : nt.length ≤ 12 := by rw [HE.out]; exact h12
   by_cases hct : c < nt.length
   ·
    obtain ⟨adn, eA, hcN⟩ := Kd.at_int (Kd.C_below HN.out GP.out.below) (c : Int) (by omega) (by omega)
    subst eA
    rw [Int.toNat_natCast] at hcN
    have hg0 : wr.cell? ⟨gb, 0, none⟩ = some (.slice Au u.length cu) := (blk_cell GP.out.box 0).trans rfl
    have hg1 : wr.cell? ⟨gb, 1, none⟩ = some (.slice (some adn) nt.length cn) := (blk_cell GP.out.box 1).trans rfl
    generalize hx : rd nt (c : Int) = x at hcN
    have HXE := ak hx
    clear hx
    by_cases hok : 0 ≤ x ∧ x < u.length
    ·
     have EA : Aside0 (impl_isAnswer.f u x = some true) := ⟨(by rw [Q.isAnswer_eq, dT_ hok])⟩
     have hx0 : 0 ≤ x := hok.1
     have hx1 : x < (nt.length : Int) := by have := HE.out; omega
     obtain ⟨ad2, e2, hcX⟩ := Kd.at_int (Kd.C_below HN.out GP.out.below) x hx0 hx1
     obtain rfl : adn = ad2 := by injection e2
     generalize hy : rd nt x = y at hcX
     have HYE := ak hy
     clear hy e2
     by_cases hyc : y = c
     ·
      have hy1 := bt_ hyc
      have hy2 : (y != (c : Int)) = false := by rw [hyc]; simp
      have HYC := ak hyc
      clear hyc
      have hcm : (c : Int) < (mtab u).length := by have := HE.out; simp only [mtab, List.length_map, List.length_range]; omega
      have hc0 : (0 : Int) ≤ (c : Int) := by omega
      obtain ⟨adr, Ar, cr, er, hr1, hr2, hr3⟩ := at_L1 (Kd.R_reads' GP.out.A).2.2 (c : Int) hc0 hcm
      subst er
      rw [Int.toNat_natCast] at hr1
      have hrow : rd_L1 (mtab u) (c : Int) = mrow u c := by rw [Q.row_nat]; exact getD_map_range _ _ (by have := HE.out; omega)
      have hxr : x < ((rd_L1 (mtab u) (c : Int)).length : Int) := by rw [hrow]; simp only [mrow, List.length_map, List.length_range]; exact hok.2
      obtain ⟨adx, ex, hm1⟩ := Kd.at_int hr3 x hx0 hxr
      subst ex
      generalize hm : rd (rd_L1 (mtab u) (c : Int)) x = m at hm1
      have HM : Aside0 (m = meetI u c x.toNat) := ⟨(by rw [← hm, hrow]; obtain ⟨xn, rfl, hxn⟩ := Q.nat_of hok; rw [Int.toNat_natCast, Q.rd_nat]; exact getD_map_range _ _ hxn)⟩
      have hgA : wr.cell? ⟨g, 1, none⟩ = some (.slice (some adr) (mtab u).length ca) := (blk_cell GP.out.alg 1).trans rfl
      have hg4 : wr.cell? ⟨g, 4, none⟩ = some (.int .i64 (leastI u)) := (blk_cell GP.out.alg 4).trans rfl
      have HOK := ak hok
      clear hm hrow hr2 hr3 hok
      by_cases hml : m = leastI u
      ·
       have hm2 : (m != leastI u) = false := by rw [hml]; simp
       have hm3 := bt_ hml
       have HPC : Aside0 (OppAt u nt c) := ⟨(by refine ⟨?_, ?_, ?_⟩ <;> rw [HXE.out]; exact HOK.out; rw [HYE.out]; exact HYC.out; rw [← HM.out]; exact hml)⟩
       clear hml
       go_wp2
       refine start_ (n := 31) (S := fun w' => w'.cell? ⟨gb, 0, none⟩ = some (.slice Au u.length cu) ∧ w'.cell? ⟨gb, 1, none⟩ = some (.slice (some adn) nt.length cn) ∧ w'.cell? (adn.add x.toNat) = some (.int .i64 y) ∧ w'.cell? ⟨g, 1, none⟩ = some (.slice (some adr) (mtab u).length ca) ∧ w'.cell? (adr.add c) = some (.slice (some adx) (rd_L1 (mtab u) c).length cr) ∧ w'.cell? (adx.add x.toNat) = some (.int .i64 m) ∧ w'.cell? ⟨g, 4, none⟩ = some (.int .i64 (leastI u))) (ds := []) (bA 31 0) z28_7 rfl rfl ⟨hg0, hg1, hcX, hgA, hr1, hm1, hg4⟩ (fun hHeld => ?_)
       have GQ := ak GP.out.drew
       clear GP hg0 hg1 hcX hgA hr1 hm1 hg4 hcN
       generalize wr.drew = wd at GQ hHeld ⊢
       refine pu_ (i := 0) (N := some 105) (bA 31 1) ?_
       refine tk_ (i := 1) (N := some 106) (bA 31 3) ?_
       refine pu_ (i := 2) (N := some 107) (bA 31 7) ?_
       refine one_ (i := 3) (N := some 108) (bA 31 15) rfl rfl z28_7 (by decide) (fun K hK => ?_)
       refine ge_ Try.func107 #[.slice Au u.length cu, .int .i64 x] ?_
       with_reducible refine (impl_isAnswer.calls _ _ u x true _ ?s1 ?s2 EA.out).mono ?_
       (case s1 => repeat (first | exact (Kd.C_below HU.out GQ.out.below) | (with_reducible refine Kd.C_alloc ?_ _) | (with_reducible refine Kd.C_drewN ?_ _) | (with_reducible refine Kd.C_drew ?_)))
       (case s2 => exact HC.out)
       rintro e w' ⟨rfl, ⟨nd2, rfl⟩⟩
       refine ⟨_, rfl, ?_⟩
       refine hK.out _ _ hHeld (fun hHeld => ?_)
       clear hK K
       refine no_ (N := some 108) ?_
       refine pu_ (i := 4) (N := some 109) (bA 31 31) ?_
       refine pu_ (i := 5) (N := some 110) (bA 31 63) ?_
       refine pu_ (i := 6) (N := some 111) (bA 31 127) ?_
       refine tk_ (i := 7) (N := some 112) (bA 31 255) ?_
       refine pu_ (i := 8) (N := some 113) (bA 31 511) ?_
       refine pu_ (i := 9) (N := some 114) (bA 31 1023) ?_
       refine tk_ (i := 10) (N := some 115) (bA 31 2047) ?_
       refine pu_ (i := 11) (N := some 116) (bA 31 4095) ?_
       refine pu_ (i := 12) (N := some 117) (bA 31 8191) ?_
       refine pu_ (i := 13) (N := some 118) (bA 31 16383) ?_
       refine pu_ (i := 14) (N := some 119) (bA 31 32767) ?_
       refine pu_ (i := 15) (N := some 120) (bA 31 65535) ?_
       refine pu_ (i := 16) (N := some 121) (bA 31 131071) ?_
       refine pu_ (i := 17) (N := some 122) (bA 31 262143) ?_
       refine tk_ (i := 18) (N := some 123) (bA 31 524287) ?_
       refine pu_ (i := 19) (N := some 124) (bA 31 1048575) ?_
       refine pu_ (i := 20) (N := some 125) (bA 31 2097151) ?_
       refine tk_ (i := 21) (N := some 126) (bA 31 4194303) ?_
       refine pu_ (i := 22) (N := some 127) (bA 31 8388607) ?_
       refine pu_ (i := 23) (N := some 128) (bA 31 16777215) ?_
       refine tk_ (i := 24) (N := some 129) (bA 31 33554431) ?_
       refine pu_ (i := 25) (N := some 130) (bA 31 67108863) ?_
       refine pu_ (i := 26) (N := some 131) (bA 31 134217727) ?_
       refine pu_ (i := 27) (N := some 132) (bA 31 268435455) ?_
       refine tk_ (i := 28) (N := some 133) (bA 31 536870911) ?_
       refine pu_ (i := 29) (N := some 134) (bA 31 1073741823) ?_
       refine pu_ (i := 30) (N := some 135) (bA 31 2147483647) ?_
       refine done_ z28_7 ?_
       go_wp2
       go_roundw
       case rel => exact ⟨c + 1, (by omega), (by go_num), ⟨fun d hd => if h : d < c then HP.out d h else (show d = c by omega) ▸ HPC.out⟩, ⟨GQ.out.drewN _⟩⟩
       case measure => simp [intOf]; omega
      have hm2 := bw_ hml
      have hm3 := bv_ hml
      have HNO : Aside0 (¬ OL u nt) := ⟨fun h => hml (by have q := (h.2.2.1 c (by have := HE.out; omega)).2.2; rw [HXE.out] at q; rw [HM.out]; exact q)⟩
      clear hml
      go_wp2
      refine start_ (n := 31) (S := fun w' => w'.cell? ⟨gb, 0, none⟩ = some (.slice Au u.length cu) ∧ w'.cell? ⟨gb, 1, none⟩ = some (.slice (some adn) nt.length cn) ∧ w'.cell? (adn.add x.toNat) = some (.int .i64 y) ∧ w'.cell? ⟨g, 1, none⟩ = some (.slice (some adr) (mtab u).length ca) ∧ w'.cell? (adr.add c) = some (.slice (some adx) (rd_L1 (mtab u) c).length cr) ∧ w'.cell? (adx.add x.toNat) = some (.int .i64 m) ∧ w'.cell? ⟨g, 4, none⟩ = some (.int .i64 (leastI u))) (ds := []) (bA 31 0) z28_7 rfl rfl ⟨hg0, hg1, hcX, hgA, hr1, hm1, hg4⟩ (fun hHeld => ?_)
      have GQ := ak GP.out.drew
      clear GP hg0 hg1 hcX hgA hr1 hm1 hg4 hcN
      generalize wr.drew = wd at GQ hHeld ⊢
      refine pu_ (i := 0) (N := some 105) (bA 31 1) ?_
      refine tk_ (i := 1) (N := some 106) (bA 31 3) ?_
      refine pu_ (i := 2) (N := some 107) (bA 31 7) ?_
      refine one_ (i := 3) (N := some 108) (bA 31 15) rfl rfl z28_7 (by decide) (fun K hK => ?_)
      refine ge_ Try.func107 #[.slice Au u.length cu, .int .i64 x] ?_
      with_reducible refine (impl_isAnswer.calls _ _ u x true _ ?s1 ?s2 EA.out).mono ?_
      (case s1 => repeat (first | exact (Kd.C_below HU.out GQ.out.below) | (with_reducible refine Kd.C_alloc ?_ _) | (with_reducible refine Kd.C_drewN ?_ _) | (with_reducible refine Kd.C_drew ?_)))
      (case s2 => exact HC.out)
      rintro e w' ⟨rfl, ⟨nd2, rfl⟩⟩
      refine ⟨_, rfl, ?_⟩
      refine hK.out _ _ hHeld (fun hHeld => ?_)
      clear hK K
      refine no_ (N := some 108) ?_
      refine pu_ (i := 4) (N := some 109) (bA 31 31) ?_
      refine pu_ (i := 5) (N := some 110) (bA 31 63) ?_
      refine pu_ (i := 6) (N := some 111) (bA 31 127) ?_
      refine tk_ (i := 7) (N := some 112) (bA 31 255) ?_
      refine pu_ (i := 8) (N := some 113) (bA 31 511) ?_
      refine pu_ (i := 9) (N := some 114) (bA 31 1023) ?_
      refine tk_ (i := 10) (N := some 115) (bA 31 2047) ?_
      refine pu_ (i := 11) (N := some 116) (bA 31 4095) ?_
      refine pu_ (i := 12) (N := some 117) (bA 31 8191) ?_
      refine pu_ (i := 13) (N := some 118) (bA 31 16383) ?_
      refine pu_ (i := 14) (N := some 119) (bA 31 32767) ?_
      refine pu_ (i := 15) (N := some 120) (bA 31 65535) ?_
      refine pu_ (i := 16) (N := some 121) (bA 31 131071) ?_
      refine pu_ (i := 17) (N := some 122) (bA 31 262143) ?_
      refine tk_ (i := 18) (N := some 123) (bA 31 524287) ?_
      refine pu_ (i := 19) (N := some 124) (bA 31 1048575) ?_
      refine pu_ (i := 20) (N := some 125) (bA 31 2097151) ?_
      refine tk_ (i := 21) (N := some 126) (bA 31 4194303) ?_
      refine pu_ (i := 22) (N := some 127) (bA 31 8388607) ?_
      refine pu_ (i := 23) (N := some 128) (bA 31 16777215) ?_
      refine tk_ (i := 24) (N := some 129) (bA 31 33554431) ?_
      refine pu_ (i := 25) (N := some 130) (bA 31 67108863) ?_
      refine pu_ (i := 26) (N := some 131) (bA 31 134217727) ?_
      refine pu_ (i := 27) (N := some 132) (bA 31 268435455) ?_
      refine tk_ (i := 28) (N := some 133) (bA 31 536870911) ?_
      refine pu_ (i := 29) (N := some 134) (bA 31 1073741823) ?_
      refine pu_ (i := 30) (N := some 135) (bA 31 2147483647) ?_
      refine done_ z28_7 ?_
      go_wp2
      go_ret
      exact ⟨pw_below_drewN GQ.out.below _, .inl ⟨HNO.out, rfl⟩⟩
     have hy1 := bv_ hyc
     have hy2 := bw_ hyc
     have HNO : Aside0 (¬ OL u nt) := ⟨fun h => hyc (by have q := (h.2.2.1 c (by have := HE.out; omega)).2.1; rw [HXE.out, HYE.out] at q; exact q)⟩
     have HOK := ak hok
     clear hyc hok
     go_wp2
     refine start_ (n := 31) (S := fun w' => w'.cell? ⟨gb, 0, none⟩ = some (.slice Au u.length cu) ∧ w'.cell? ⟨gb, 1, none⟩ = some (.slice (some adn) nt.length cn) ∧ w'.cell? (adn.add x.toNat) = some (.int .i64 y)) (ds := []) (bA 31 0) z28_7 rfl rfl ⟨hg0, hg1, hcX⟩ (fun hHeld => ?_)
     have GQ := ak GP.out.drew
     clear GP hg0 hg1 hcX hcN
     generalize wr.drew = wd at GQ hHeld ⊢
     refine pu_ (i := 0) (N := some 105) (bA 31 1) ?_
     refine tk_ (i := 1) (N := some 106) (bA 31 3) ?_
     refine pu_ (i := 2) (N := some 107) (bA 31 7) ?_
     refine one_ (i := 3) (N := some 108) (bA 31 15) rfl rfl z28_7 (by decide) (fun K hK => ?_)
     refine ge_ Try.func107 #[.slice Au u.length cu, .int .i64 x] ?_
     with_reducible refine (impl_isAnswer.calls _ _ u x true _ ?s1 ?s2 EA.out).mono ?_
     (case s1 => repeat (first | exact (Kd.C_below HU.out GQ.out.below) | (with_reducible refine Kd.C_alloc ?_ _) | (with_reducible refine Kd.C_drewN ?_ _) | (with_reducible refine Kd.C_drew ?_)))
     (case s2 => exact HC.out)
     rintro e w' ⟨rfl, ⟨nd2, rfl⟩⟩
     refine ⟨_, rfl, ?_⟩
     refine hK.out _ _ hHeld (fun hHeld => ?_)
     clear hK K
     refine no_ (N := some 108) ?_
     refine pu_ (i := 4) (N := some 109) (bA 31 31) ?_
     refine pu_ (i := 5) (N := some 110) (bA 31 63) ?_
     refine pu_ (i := 6) (N := some 111) (bA 31 127) ?_
     refine tk_ (i := 7) (N := some 112) (bA 31 255) ?_
     refine pu_ (i := 8) (N := some 113) (bA 31 511) ?_
     refine pu_ (i := 9) (N := some 114) (bA 31 1023) ?_
     refine tk_ (i := 10) (N := some 115) (bA 31 2047) ?_
     refine pu_ (i := 11) (N := some 116) (bA 31 4095) ?_
     refine pu_ (i := 12) (N := some 117) (bA 31 8191) ?_
     refine pu_ (i := 13) (N := some 118) (bA 31 16383) ?_
     refine pu_ (i := 14) (N := some 119) (bA 31 32767) ?_
     refine of_ (i := 15) (N := some 120) (bA 31 65535) ?_
     refine of_ (i := 16) (N := some 121) (bA 31 131071) ?_
     refine of_ (i := 17) (N := some 122) (bA 31 262143) ?_
     refine of_ (i := 18) (N := some 123) (bA 31 524287) ?_
     refine of_ (i := 19) (N := some 124) (bA 31 1048575) ?_
     refine of_ (i := 20) (N := some 125) (bA 31 2097151) ?_
     refine of_ (i := 21) (N := some 126) (bA 31 4194303) ?_
     refine of_ (i := 22) (N := some 127) (bA 31 8388607) ?_
     refine of_ (i := 23) (N := some 128) (bA 31 16777215) ?_
     refine of_ (i := 24) (N := some 129) (bA 31 33554431) ?_
     refine of_ (i := 25) (N := some 130) (bA 31 67108863) ?_
     refine of_ (i := 26) (N := some 131) (bA 31 134217727) ?_
     refine of_ (i := 27) (N := some 132) (bA 31 268435455) ?_
     refine of_ (i := 28) (N := some 133) (bA 31 536870911) ?_
     refine of_ (i := 29) (N := some 134) (bA 31 1073741823) ?_
     refine pu_ (i := 30) (N := some 135) (bA 31 2147483647) ?_
     refine done_ z28_7 ?_
     go_wp2
     go_ret
     exact ⟨pw_below_drewN GQ.out.below _, .inl ⟨HNO.out, rfl⟩⟩
    have EA : Aside0 (impl_isAnswer.f u x = some false) := ⟨(by rw [Q.isAnswer_eq, dF_ hok])⟩
    have HNO : Aside0 (¬ OL u nt) := ⟨fun h => hok (HXE.out ▸ (h.2.2.1 c (by have := HE.out; omega)).1)⟩
    clear hok
    go_wp2
    refine start_ (n := 31) (S := fun w' => w'.cell? ⟨gb, 0, none⟩ = some (.slice Au u.length cu) ∧ w'.cell? ⟨gb, 1, none⟩ = some (.slice (some adn) nt.length cn)) (ds := []) (bA 31 0) z28_7 rfl rfl ⟨hg0, hg1⟩ (fun hHeld => ?_)
    have GQ := ak GP.out.drew
    clear GP hg0 hg1 hcN
    generalize wr.drew = wd at GQ hHeld ⊢
    refine pu_ (i := 0) (N := some 105) (bA 31 1) ?_
    refine tk_ (i := 1) (N := some 106) (bA 31 3) ?_
    refine pu_ (i := 2) (N := some 107) (bA 31 7) ?_
    refine one_ (i := 3) (N := some 108) (bA 31 15) rfl rfl z28_7 (by decide) (fun K hK => ?_)
    refine ge_ Try.func107 #[.slice Au u.length cu, .int .i64 x] ?_
    with_reducible refine (impl_isAnswer.calls _ _ u x false _ ?s1 ?s2 EA.out).mono ?_
    (case s1 => repeat (first | exact (Kd.C_below HU.out GQ.out.below) | (with_reducible refine Kd.C_alloc ?_ _) | (with_reducible refine Kd.C_drewN ?_ _) | (with_reducible refine Kd.C_drew ?_)))
    (case s2 => exact HC.out)
    rintro e w' ⟨rfl, ⟨nd2, rfl⟩⟩
    refine ⟨_, rfl, ?_⟩
    refine hK.out _ _ hHeld (fun hHeld => ?_)
    clear hK K
    refine no_ (N := some 108) ?_
    refine pu_ (i := 4) (N := some 109) (bA 31 31) ?_
    refine pu_ (i := 5) (N := some 110) (bA 31 63) ?_
    refine of_ (i := 6) (N := some 111) (bA 31 127) ?_
    refine of_ (i := 7) (N := some 112) (bA 31 255) ?_
    refine of_ (i := 8) (N := some 113) (bA 31 511) ?_
    refine of_ (i := 9) (N := some 114) (bA 31 1023) ?_
    refine of_ (i := 10) (N := some 115) (bA 31 2047) ?_
    refine of_ (i := 11) (N := some 116) (bA 31 4095) ?_
    refine of_ (i := 12) (N := some 117) (bA 31 8191) ?_
    refine pu_ (i := 13) (N := some 118) (bA 31 16383) ?_
    refine pu_ (i := 14) (N := some 119) (bA 31 32767) ?_
    refine of_ (i := 15) (N := some 120) (bA 31 65535) ?_
    refine of_ (i := 16) (N := some 121) (bA 31 131071) ?_
    refine of_ (i := 17) (N := some 122) (bA 31 262143) ?_
    refine of_ (i := 18) (N := some 123) (bA 31 524287) ?_
    refine of_ (i := 19) (N := some 124) (bA 31 1048575) ?_
    refine of_ (i := 20) (N := some 125) (bA 31 2097151) ?_
    refine of_ (i := 21) (N := some 126) (bA 31 4194303) ?_
    refine of_ (i := 22) (N := some 127) (bA 31 8388607) ?_
    refine of_ (i := 23) (N := some 128) (bA 31 16777215) ?_
    refine of_ (i := 24) (N := some 129) (bA 31 33554431) ?_
    refine of_ (i := 25) (N := some 130) (bA 31 67108863) ?_
    refine of_ (i := 26) (N := some 131) (bA 31 134217727) ?_
    refine of_ (i := 27) (N := some 132) (bA 31 268435455) ?_
    refine of_ (i := 28) (N := some 133) (bA 31 536870911) ?_
    refine of_ (i := 29) (N := some 134) (bA 31 1073741823) ?_
    refine pu_ (i := 30) (N := some 135) (bA 31 2147483647) ?_
    refine done_ z28_7 ?_
    go_wp2
    go_ret
    exact ⟨pw_below_drewN GQ.out.below _, .inl ⟨HNO.out, rfl⟩⟩
   have HP2 : Aside0 (∀ d, d < u.length → OppAt u nt d) := ⟨fun d hd => HP.out d (by have := HE.out; omega)⟩
   clear HP
   have hg0 : wr.cell? ⟨gb, 0, none⟩ = some (.slice Au u.length cu) := (blk_cell GP.out.box 0).trans rfl
   go_wp2
   go_loopw [140] (fun a1 wr => ∃ p, p ≤ u.length ∧ a1 = .int .i64 (p : Nat) ∧ Aside0 (∀ a, a < p → ∀ b, b < u.length → OppTo u nt a b) ∧ Aside0 (Grow w wr gb g (.slice Au u.length cu) (.slice An nt.length cn) (.slice Aa (mtab u).length ca) (.slice Ao (jtab u).length co) (.slice Aa (mtab u).length ca) (.slice Ao (jtab u).length co) (.slice Av tu.length cv) tu (mtab u) (jtab u) (leastI u) 0)) (fun a1 _ => u.length - (intOf a1).toNat)
   case atStart => exact ⟨0, Nat.zero_le _, rfl, ⟨fun d h => absurd h (Nat.not_lt_zero _)⟩, GP⟩
   case round =>
    clear hg0 GP
    obtain ⟨p, hp, rfl, HQ, GP⟩ := hrel
    by_cases hpt : p < u.length
    ·
     obtain ⟨adu, Ar, cr, eu, hru, hrl, hrc⟩ := at_L1 (Kd.C_below HU.out GP.out.below) (p : Int) (by omega) (by omega)
     subst eu
     rw [Int.toNat_natCast] at hru
     have HRL : Aside0 ((rd_L1 u (p : Int)).length = u.length) := ⟨(by rw [Q.row_nat]; exact HL.out.1.row hpt)⟩
     rw [HRL.out] at hru hrl hrc
     have HRC := ak hrc
     clear hrl hrc
     go_wp2
     obtain ⟨W2, hW2⟩ : ∃ W2, W2 = wr := ⟨_, rfl⟩
     subst hW2
     have GP0 := GP
     go_loopw [147] (fun a2 wr => ∃ q, q ≤ u.length ∧ a2 = .int .i64 (q : Nat) ∧ Aside0 (∀ b, b < q → OppTo u nt p b) ∧ Aside0 (Below W2.heap.size W2 wr)) (fun a2 _ => u.length - (intOf a2).toNat)
     case atStart => exact ⟨0, Nat.zero_le _, rfl, ⟨fun d h => absurd h (Nat.not_lt_zero _)⟩, ⟨Below.refl _ _⟩⟩
     case round =>
      clear hru
      obtain ⟨q, hq, rfl, HR, HBW⟩ := hrel
      have GP : Aside0 (Grow w wr gb g _ _ _ _ _ _ _ _ _ _ _ _) := ⟨GP0.out.up HBW.out⟩
      by_cases hqt : q < u.length
      ·
       obtain ⟨adr, er, hel⟩ := Kd.at_int (Kd.C_below HRC.out HBW.out) (q : Int) (by omega) (by omega)
       subst er
       rw [Int.toNat_natCast] at hel
       generalize hz : rd (rd_L1 u (p : Int)) (q : Int) = z at hel
       have HZ : Aside0 (rdN u p q = z) := ⟨(by rw [← hz, Q.at_nat])⟩
       clear hz
       by_cases hz1 : z = 1
       ·
        have hb1 := bt_ hz1
        have HZ1 := ak hz1
        clear hz1
        obtain ⟨adn, eA, hnq⟩ := Kd.at_int (Kd.C_below HN.out GP.out.below) (q : Int) (by omega) (by have := HE.out; omega)
        subst eA
        obtain ⟨ad2, e2, hnp⟩ := Kd.at_int (Kd.C_below HN.out GP.out.below) (p : Int) (by omega) (by have := HE.out; omega)
        obtain rfl : adn = ad2 := by injection e2
        clear e2
        rw [Int.toNat_natCast] at hnq hnp
        have hqn : (q : Int) < nt.length := by have := HE.out; omega
        have hpn : (p : Int) < nt.length := by have := HE.out; omega
        have hoq := (HP2.out q hqt).1
        have hop := (HP2.out p hpt).1
        generalize hx : rd nt (q : Int) = x at hnq hoq
        generalize hy : rd nt (p : Int) = y at hnp hop
        have HX := ak hx
        have HY := ak hy
        clear hx hy
        have hx0 : 0 ≤ x := hoq.1
        have hx1 : x < (u.length : Int) := hoq.2
        have hy0 : 0 ≤ y := hop.1
        have hy1 : y < (u.length : Int) := hop.2
        obtain ⟨ad3, Aw, cw, e3, hw1, hwl, hwc⟩ := at_L1 (Kd.C_below HU.out GP.out.below) x hx0 hx1
        obtain rfl : adu = ad3 := by injection e3
        have HWL : Aside0 ((rd_L1 u x).length = u.length) := ⟨(by obtain ⟨xn, rfl, hxn⟩ := Q.nat_of hoq; rw [Q.row_nat]; exact HL.out.1.row hxn)⟩
        rw [HWL.out] at hw1 hwc
        obtain ⟨adw, ew, hw2⟩ := Kd.at_int hwc y hy0 hy1
        subst ew
        generalize hv : rd (rd_L1 u x) y = v at hw2
        have HV : Aside0 (rdN u (rd nt q).toNat (rd nt p).toNat = v) := ⟨(by rw [← hv, HX.out, HY.out]; obtain ⟨xn, rfl, hxn⟩ := Q.nat_of hoq; obtain ⟨yn, rfl, hyn⟩ := Q.nat_of hop; rw [Int.toNat_natCast, Int.toNat_natCast, Q.at_nat])⟩
        clear hv hwl hwc e3 hoq hop
        have hg0 : wr.cell? ⟨gb, 0, none⟩ = some (.slice (some adu) u.length cu) := (blk_cell GP.out.box 0).trans rfl
        have hg1 : wr.cell? ⟨gb, 1, none⟩ = some (.slice (some adn) nt.length cn) := (blk_cell GP.out.box 1).trans rfl
        by_cases hv1 : v = 1
        ·
         have hb2 : (v != 1) = false := by rw [hv1]; rfl
         have hb3 := bt_ hv1
         have HT : Aside0 (OppTo u nt p q) := ⟨fun _ => by rw [HV.out]; exact hv1⟩
         clear hv1
         go_wp2
         refine start_ (n := 21) (S := fun w' => w'.cell? ⟨gb, 0, none⟩ = some (.slice (some adu) u.length cu) ∧ w'.cell? ⟨gb, 1, none⟩ = some (.slice (some adn) nt.length cn) ∧ w'.cell? (adn.add q) = some (.int .i64 x) ∧ w'.cell? (adn.add p) = some (.int .i64 y) ∧ w'.cell? (adu.add x.toNat) = some (.slice (some adw) u.length cw) ∧ w'.cell? (adw.add y.toNat) = some (.int .i64 v)) (ds := []) (bA 21 0) z28_7 rfl rfl ⟨hg0, hg1, hnq, hnp, hw1, hw2⟩ (fun hHeld => ?_)
         refine pu_ (i := 0) (N := some 152) (bA 21 1) ?_
         refine pu_ (i := 1) (N := some 153) (bA 21 3) ?_
         refine pu_ (i := 2) (N := some 154) (bA 21 7) ?_
         refine pu_ (i := 3) (N := some 155) (bA 21 15) ?_
         refine tk_ (i := 4) (N := some 156) (bA 21 31) ?_
         refine pu_ (i := 5) (N := some 157) (bA 21 63) ?_
         refine tk_ (i := 6) (N := some 158) (bA 21 127) ?_
         refine pu_ (i := 7) (N := some 159) (bA 21 255) ?_
         refine pu_ (i := 8) (N := some 160) (bA 21 511) ?_
         refine tk_ (i := 9) (N := some 161) (bA 21 1023) ?_
         refine pu_ (i := 10) (N := some 162) (bA 21 2047) ?_
         refine tk_ (i := 11) (N := some 163) (bA 21 4095) ?_
         refine pu_ (i := 12) (N := some 164) (bA 21 8191) ?_
         refine tk_ (i := 13) (N := some 165) (bA 21 16383) ?_
         refine pu_ (i := 14) (N := some 166) (bA 21 32767) ?_
         refine pu_ (i := 15) (N := some 167) (bA 21 65535) ?_
         refine tk_ (i := 16) (N := some 168) (bA 21 131071) ?_
         refine pu_ (i := 17) (N := some 169) (bA 21 262143) ?_
         refine tk_ (i := 18) (N := some 170) (bA 21 524287) ?_
         refine pu_ (i := 19) (N := some 171) (bA 21 1048575) ?_
         refine pu_ (i := 20) (N := some 172) (bA 21 2097151) ?_
         refine done_ z28_7 ?_
         go_wp2
         go_roundw
         case rel => exact ⟨q + 1, (by omega), (by go_num), ⟨fun d hd => if h : d < q then HR.out d h else (show d = q by omega) ▸ HT.out⟩, ⟨pw_below_drewN HBW.out 1⟩⟩
         case measure => simp [intOf]; omega
        have hb2 := bw_ hv1
        have hb3 := bv_ hv1
        have HNO : Aside0 (¬ OL u nt) := ⟨fun h => hv1 (by have k := h.2.2.2 p hpt q hqt (HZ.out.trans HZ1.out); rw [HV.out] at k; exact k)⟩
        clear hv1
        go_wp2
        refine start_ (n := 21) (S := fun w' => w'.cell? ⟨gb, 0, none⟩ = some (.slice (some adu) u.length cu) ∧ w'.cell? ⟨gb, 1, none⟩ = some (.slice (some adn) nt.length cn) ∧ w'.cell? (adn.add q) = some (.int .i64 x) ∧ w'.cell? (adn.add p) = some (.int .i64 y) ∧ w'.cell? (adu.add x.toNat) = some (.slice (some adw) u.length cw) ∧ w'.cell? (adw.add y.toNat) = some (.int .i64 v)) (ds := []) (bA 21 0) z28_7 rfl rfl ⟨hg0, hg1, hnq, hnp, hw1, hw2⟩ (fun hHeld => ?_)
        refine pu_ (i := 0) (N := some 152) (bA 21 1) ?_
        refine pu_ (i := 1) (N := some 153) (bA 21 3) ?_
        refine pu_ (i := 2) (N := some 154) (bA 21 7) ?_
        refine pu_ (i := 3) (N := some 155) (bA 21 15) ?_
        refine tk_ (i := 4) (N := some 156) (bA 21 31) ?_
        refine pu_ (i := 5) (N := some 157) (bA 21 63) ?_
        refine tk_ (i := 6) (N := some 158) (bA 21 127) ?_
        refine pu_ (i := 7) (N := some 159) (bA 21 255) ?_
        refine pu_ (i := 8) (N := some 160) (bA 21 511) ?_
        refine tk_ (i := 9) (N := some 161) (bA 21 1023) ?_
        refine pu_ (i := 10) (N := some 162) (bA 21 2047) ?_
        refine tk_ (i := 11) (N := some 163) (bA 21 4095) ?_
        refine pu_ (i := 12) (N := some 164) (bA 21 8191) ?_
        refine tk_ (i := 13) (N := some 165) (bA 21 16383) ?_
        refine pu_ (i := 14) (N := some 166) (bA 21 32767) ?_
        refine pu_ (i := 15) (N := some 167) (bA 21 65535) ?_
        refine tk_ (i := 16) (N := some 168) (bA 21 131071) ?_
        refine pu_ (i := 17) (N := some 169) (bA 21 262143) ?_
        refine tk_ (i := 18) (N := some 170) (bA 21 524287) ?_
        refine pu_ (i := 19) (N := some 171) (bA 21 1048575) ?_
        refine pu_ (i := 20) (N := some 172) (bA 21 2097151) ?_
        refine done_ z28_7 ?_
        go_wp2
        go_ret
        exact ⟨pw_below_drewN GP.out.below 1, .inl ⟨HNO.out, rfl⟩⟩
       have hb1 := bv_ hz1
       have HT : Aside0 (OppTo u nt p q) := ⟨fun h => absurd (HZ.out.symm.trans h) hz1⟩
       clear hz1
       go_wp2
       refine start_ (n := 21) (S := fun w' => w'.cell? (adr.add q) = some (.int .i64 z)) (ds := []) (bA 21 0) z28_7 rfl rfl hel (fun hHeld => ?_)
       refine pu_ (i := 0) (N := some 152) (bA 21 1) ?_
       refine pu_ (i := 1) (N := some 153) (bA 21 3) ?_
       refine pu_ (i := 2) (N := some 154) (bA 21 7) ?_
       refine of_ (i := 3) (N := some 155) (bA 21 15) ?_
       refine of_ (i := 4) (N := some 156) (bA 21 31) ?_
       refine of_ (i := 5) (N := some 157) (bA 21 63) ?_
       refine of_ (i := 6) (N := some 158) (bA 21 127) ?_
       refine of_ (i := 7) (N := some 159) (bA 21 255) ?_
       refine of_ (i := 8) (N := some 160) (bA 21 511) ?_
       refine of_ (i := 9) (N := some 161) (bA 21 1023) ?_
       refine of_ (i := 10) (N := some 162) (bA 21 2047) ?_
       refine of_ (i := 11) (N := some 163) (bA 21 4095) ?_
       refine of_ (i := 12) (N := some 164) (bA 21 8191) ?_
       refine of_ (i := 13) (N := some 165) (bA 21 16383) ?_
       refine of_ (i := 14) (N := some 166) (bA 21 32767) ?_
       refine of_ (i := 15) (N := some 167) (bA 21 65535) ?_
       refine of_ (i := 16) (N := some 168) (bA 21 131071) ?_
       refine of_ (i := 17) (N := some 169) (bA 21 262143) ?_
       refine of_ (i := 18) (N := some 170) (bA 21 524287) ?_
       refine of_ (i := 19) (N := some 171) (bA 21 1048575) ?_
       refine pu_ (i := 20) (N := some 172) (bA 21 2097151) ?_
       refine done_ z28_7 ?_
       go_wp2
       go_roundw
       case rel => exact ⟨q + 1, (by omega), (by go_num), ⟨fun d hd => if h : d < q then HR.out d h else (show d = q by omega) ▸ HT.out⟩, ⟨pw_below_drewN HBW.out 1⟩⟩
       case measure => simp [intOf]; omega
      have HT : Aside0 (∀ b, b < u.length → OppTo u nt p b) := ⟨fun b hb => HR.out b (by omega)⟩
      clear HR
      go_wp2
      go_roundw
      case rel => exact ⟨p + 1, (by omega), (by go_num), ⟨fun d hd => if h : d < p then HQ.out d h else (show d = p by omega) ▸ HT.out⟩, GP⟩
      case measure => simp [intOf]; omega
    have HOL : Aside0 (OL u nt) := ⟨HL.out, HE.out, HP2.out, fun a ha => HQ.out a (by omega)⟩
    clear HQ HP2
    obtain ⟨ml, hml, hmlt, hmle⟩ := HL.out.least
    have hl0 : 0 ≤ leastI u := by omega
    have hl1 : leastI u < (nt.length : Int) := by have := HE.out; omega
    have hl2 : leastI u < (u.length : Int) := by omega
    clear hml hmlt hmle
    obtain ⟨adn, eA, hnl⟩ := Kd.at_int (Kd.C_below HN.out GP.out.below) (leastI u) hl0 hl1
    subst eA
    have hg1 : wr.cell? ⟨gb, 1, none⟩ = some (.slice (some adn) nt.length cn) := (blk_cell GP.out.box 1).trans rfl
    have hg4 : wr.cell? ⟨g, 4, none⟩ = some (.int .i64 (leastI u)) := (blk_cell GP.out.alg 4).trans rfl
    have hq5 : wr.cell? ⟨g, 5, none⟩ = some (.int .i64 0) := (blk_cell GP.out.alg 5).trans rfl
    have hz5 := blk_frozen GP.out.alg 5
    go_wp2
    refine start_ (n := 12) (S := fun w' => w'.cell? ⟨gb, 1, none⟩ = some (.slice (some adn) nt.length cn) ∧ w'.cell? ⟨g, 4, none⟩ = some (.int .i64 (leastI u)) ∧ w'.cell? (adn.add (leastI u).toNat) = some (.int .i64 (rd nt (leastI u)))) (ds := [11]) (bA 12 0) z28_7 rfl rfl ⟨hg1, hg4, hnl⟩ (fun hHeld => ?_)
    refine pu_ (i := 0) (N := some 175) (bA 12 1) ?_
    refine pu_ (i := 1) (N := some 176) (bA 12 3) ?_
    refine tk_ (i := 2) (N := some 177) (bA 12 7) ?_
    refine pu_ (i := 3) (N := some 178) (bA 12 15) ?_
    refine pu_ (i := 4) (N := some 179) (bA 12 31) ?_
    refine pu_ (i := 5) (N := some 180) (bA 12 63) ?_
    refine tk_ (i := 6) (N := some 181) (bA 12 127) ?_
    refine pu_ (i := 7) (N := some 182) (bA 12 255) ?_
    refine tk_ (i := 8) (N := some 183) (bA 12 511) ?_
    refine pu_ (i := 9) (N := some 184) (bA 12 1023) ?_
    refine pu_ (i := 10) (N := some 185) (bA 12 2047) ?_
    have hq6 : wr.drew.cell? ⟨g, 5, none⟩ = some (.int .i64 0) := hq5
    have hz6 : wr.drew.frozen? ⟨g, 5, none⟩ = false := hz5
    refine last_ (i := 11) (N := none) (bA 12 4095) rfl rfl z28_7 (by decide) (fun K hK => ?_)
    refine skip_ (w1 := ?_) (by rfl) rfl ?_ ?_
    rotate_left
    ·
     go_simp
     rfl
    refine hK.out _ _ ?_
    clear hK K
    refine done_ z28_7 ?_
    go_wp2
    go_ret
    have GZ := (GP.out.drewN 1).setYes (rd nt (leastI u))
    refine ⟨GZ.below, .inr ⟨HOL.out, g, rfl, HGG.out, _, _, _, _, _, _, _, _, GZ.alg, Kd.C_below HU.out GZ.below, HC.out, (Kd.R_reads' GZ.A).2.2, (Kd.R_reads' GZ.A).2.1, (Kd.R_reads' GZ.O).2.2, (Kd.R_reads' GZ.O).2.1, Kd.C_below HN.out GZ.below, HCN.out⟩⟩
end Go.Proofs.Ytacifhahfamipaa.P


namespace Go.Proofs.Ytacifhahfamipaa.P
open Go.RowKit Go.Proofs.YtacifhahfamipaaW.PrintWords Go.Proofs.YtacifhahfamipaaW.PrintLast Go.Proofs.YtacifhahfamipaaW.PrintMore Go.Proofs.Cl
set_option linter.unusedVariables false
set_option linter.unusedSimpArgs false
set_option maxHeartbeats 4000000 in
set_option maxRecDepth 100000 in
theorem told_len (Au : Option Addr) (cu : Nat) (u : List (List Int)) (An : Option Addr) (cn : Nat) (nt : List Int) (w : World)
 (hu : Kd.C (Kd.slice 3 (Kd.int .i64)) w Au u.length u) (hcu : u.length ≤ cu) (h : Lat u) (hlen : nt.length ≠ u.length) :
 Calls Try.prog 68 #[.agg #[.slice Au u.length cu, .slice An nt.length cn]] w fun e w' => e = .returned (.pointer none) ∧ Below w.heap.size w w' := by
 have HU := ak hu
 have HC := ak hcu
 clear hu hcu
 have HB := ak (Below.refl w.heap.size w)
 have hb1 : ((nt.length : Int) == (u.length : Int)) = false := by
  rw [beq_eq_false_iff_ne]
  omega
 have hb2 : ((nt.length : Int) != (u.length : Int)) = true := by
  rw [bne_iff_ne]
  omega
 clear hlen
 obtain ⟨kk, hk⟩ := Ev.get (Q.impl_lat_ev u)
 rw [dT_ h] at hk
 have HL := ak hk
 clear hk h
 go_enter Try.func68, Try.ntmps68
 go_wp2_with (first
  | ((with_reducible refine gate_dst (N := 1) rfl ?_); refine bx_ (N := 1) (cs := #[.slice Au u.length cu, .slice An nt.length cn]) (t := 27) ?_; intro gb hg w4 hbox hb; have hc0 : w4.cell? ⟨gb, 0, none⟩ = some (.slice Au u.length cu) := (blk_cell hbox 0).trans rfl; have hc1 : w4.cell? ⟨gb, 1, none⟩ = some (.slice An nt.length cn) := (blk_cell hbox 1).trans rfl; have HB4 := ak hb; have HX := ak hbox; have HG := ak hg; clear hb hg hbox)
  | (go_at_call 104; (with_reducible refine (impl_LatticeOk.calls kk _ _ u true _ ?s1 ?s2 HL.out).mono ?_); (case s1 => repeat (first | exact (Kd.C_below HU.out HB4.out) | (with_reducible refine Kd.C_alloc ?_ _) | (with_reducible refine Kd.C_drewN ?_ _) | (with_reducible refine Kd.C_drew ?_))); (case s2 => exact HC.out); rintro e w5 ⟨rfl, hD⟩; have HX5 := ak (blk_below HX.out hD); have HB5 := ak (below_step HB4.out hD); have hd0 : w5.cell? ⟨gb, 0, none⟩ = some (.slice Au u.length cu) := (blk_cell HX5.out 0).trans rfl; have hd1 : w5.cell? ⟨gb, 1, none⟩ = some (.slice An nt.length cn) := (blk_cell HX5.out 1).trans rfl; clear hD))
 go_ret
 exact ⟨rfl, (by repeat (first | (with_reducible first | exact HB5.out | apply below_alloc | apply pw_below_drewN | apply below_drew1) | exact HB5.out))⟩
theorem told_calls (Au : Option Addr) (cu : Nat) (u : List (List Int)) (An : Option Addr) (cn : Nat) (nt : List Int) (w : World)
 (hu : Kd.C (Kd.slice 3 (Kd.int .i64)) w Au u.length u) (hcu : u.length ≤ cu) (hn : Kd.C (Kd.int .i64) w An nt.length nt) (hcn : nt.length ≤ cn) :
 Calls Try.prog 68 #[.agg #[.slice Au u.length cu, .slice An nt.length cn]] w fun e w' => Below w.heap.size w w' ∧
  ((¬ OL u nt ∧ e = .returned (.pointer none)) ∨ (OL u nt ∧ ∃ g, e = .returned (.pointer (some ⟨g, 0, none⟩)) ∧ w.heap.size ≤ g ∧ AlgAt w' g u (mtab u) (jtab u) nt (leastI u) (rd nt (leastI u)))) := by
 by_cases h : Lat u
 ·
  by_cases hlen : nt.length = u.length
  ·
   exact told_lat Au cu u An cn nt w hu hcu hn hcn h hlen
  exact (told_len Au cu u An cn nt w hu hcu h hlen).mono fun e w' k => ⟨k.2, .inl ⟨fun o => hlen o.2.1, k.1⟩⟩
 exact (told_nolat Au cu u An cn nt w hu hcu h).mono fun e w' k => ⟨k.2, .inl ⟨fun o => h o.1, k.1⟩⟩
theorem told_none (Au : Option Addr) (cu : Nat) (u : List (List Int)) (An : Option Addr) (cn : Nat) (nt : List Int) (w : World)
 (hu : Kd.C (Kd.slice 3 (Kd.int .i64)) w Au u.length u) (hcu : u.length ≤ cu) (hn : Kd.C (Kd.int .i64) w An nt.length nt) (hcn : nt.length ≤ cn) (h : ¬ OL u nt) :
 Calls Try.prog 68 #[.agg #[.slice Au u.length cu, .slice An nt.length cn]] w fun e w' => e = .returned (.pointer none) ∧ Below w.heap.size w w' :=
 (told_calls Au cu u An cn nt w hu hcu hn hcn).mono fun e w' k => ⟨(k.2.resolve_right fun q => h q.1).2, k.1⟩
theorem told_some (Au : Option Addr) (cu : Nat) (u : List (List Int)) (An : Option Addr) (cn : Nat) (nt : List Int) (w : World)
 (hu : Kd.C (Kd.slice 3 (Kd.int .i64)) w Au u.length u) (hcu : u.length ≤ cu) (hn : Kd.C (Kd.int .i64) w An nt.length nt) (hcn : nt.length ≤ cn) (h : OL u nt) :
 Calls Try.prog 68 #[.agg #[.slice Au u.length cu, .slice An nt.length cn]] w fun e w' => ∃ g, e = .returned (.pointer (some ⟨g, 0, none⟩)) ∧ w.heap.size ≤ g ∧ AlgAt w' g u (mtab u) (jtab u) nt (leastI u) (rd nt (leastI u)) ∧ Below w.heap.size w w' :=
 (told_calls Au cu u An cn nt w hu hcu hn hcn).mono fun e w' k => by
  obtain ⟨hb, ⟨h1, _⟩ | ⟨_, g, h1, h2, h3⟩⟩ := k
  ·
   exact absurd h h1
  exact ⟨g, h1, h2, h3, hb⟩
end Go.Proofs.Ytacifhahfamipaa.P


namespace Go.Proofs.Ytacifhahfamipaa.P
open Go.RowKit Go.Proofs.YtacifhahfamipaaW.PrintWords Go.Proofs.YtacifhahfamipaaW.PrintLast Go.Proofs.YtacifhahfamipaaW.PrintMore Go.Proofs.Cl
set_option linter.unusedVariables false
set_option linter.unusedSimpArgs false
theorem knows_n {w : World} {g : Nat} {u a o : List (List Int)} {nt : List Int} {no yes : Int} (h : AlgAt w g u a o nt no yes) (A : Option Addr) (c : Nat) (xs : List Int) (n : Nat) (hn : n = xs.length) (hx : Kd.C (Kd.int .i64) w A xs.length xs) (hl : xs.length ≤ 1000) :
 Calls Try.prog 94 #[.pointer (some ⟨g, 0, none⟩), .slice A n c] w fun e w' => e = .returned (.bool (okAll u.length xs)) ∧ Drawn0 w w' := by
 subst hn
 exact knows_calls h A c xs hx hl
theorem okAll_two {n : Nat} {a b : Int} (h : okAll n [a, b] = true) : (0 ≤ a ∧ a < n) ∧ (0 ≤ b ∧ b < n) := by simpa [okAll] using h
theorem tab_at {w : World} {A : Option Addr} {u : List (List Int)} {f : Nat → Nat → Int} {T : List (List Int)} (hT : T = (List.range u.length).map fun a => (List.range u.length).map fun b => f a b)
 (h : Kd.C (Kd.slice 3 (Kd.int .i64)) w A T.length T) {a b : Int} (ha : 0 ≤ a ∧ a < u.length) (hb : 0 ≤ b ∧ b < u.length) :
 ∃ ad ad2 c, A = some ad ∧ a < (T.length : Int) ∧ w.cell? (ad.add a.toNat) = some (.slice (some ad2) u.length c) ∧ w.cell? (ad2.add b.toNat) = some (.int .i64 (f a.toNat b.toNat)) := by
 have hl : T.length = u.length := by rw [hT]; simp
 obtain ⟨ad, A0, c0, e, h1, h2, h3⟩ := at_L1 h a ha.1 (by rw [hl]; exact ha.2)
 have hr : rd_L1 T a = (List.range u.length).map fun b => f a.toNat b := by
  obtain ⟨n, rfl, hn⟩ := Q.nat_of ha
  rw [Q.row_nat, hT, getD_map_range _ _ hn, Int.toNat_natCast]
 have hrl : (rd_L1 T a).length = u.length := by rw [hr]; simp
 rw [hrl] at h1 h3
 obtain ⟨ad2, rfl, h4⟩ := Kd.at_int h3 b hb.1 hb.2
 refine ⟨ad, ad2, c0, e, (by rw [hl]; exact ha.2), h1, ?_⟩
 rw [h4, hr]
 obtain ⟨m, rfl, hm⟩ := Q.nat_of hb
 rw [Int.toNat_natCast, Q.rd_nat, getD_map_range _ _ hm]
end Go.Proofs.Ytacifhahfamipaa.P


namespace Go.Proofs.Ytacifhahfamipaa.P
open Go.RowKit Go.Proofs.YtacifhahfamipaaW.PrintWords Go.Proofs.YtacifhahfamipaaW.PrintLast Go.Proofs.YtacifhahfamipaaW.PrintMore Go.Proofs.Cl
set_option linter.unusedVariables false
set_option linter.unusedSimpArgs false
theorem mt_in {u : List (List Int)} (h : Lat u) {a b : Int} (ha : 0 ≤ a ∧ a < u.length) (hb : 0 ≤ b ∧ b < u.length) : 0 ≤ mt u a b ∧ mt u a b < u.length := by
 obtain ⟨c, hc, hm⟩ := h.meet (a := a.toNat) (b := b.toNat) (by omega) (by omega)
 have := hm.1
 unfold mt
 omega
theorem jn_in {u : List (List Int)} (h : Lat u) {a b : Int} (ha : 0 ≤ a ∧ a < u.length) (hb : 0 ≤ b ∧ b < u.length) : 0 ≤ jn u a b ∧ jn u a b < u.length := by
 obtain ⟨c, hc, hm⟩ := h.join (a := a.toNat) (b := b.toNat) (by omega) (by omega)
 have := hm.1
 unfold jn
 omega
theorem ng_in {u : List (List Int)} {nt : List Int} (h : OL u nt) {a : Int} (ha : 0 ≤ a ∧ a < u.length) : 0 ≤ rd nt a ∧ rd nt a < u.length := by
 obtain ⟨n, rfl, hn⟩ := Q.nat_of ha
 exact (h.2.2.1 n hn).1
theorem tab_row {w : World} {A : Option Addr} {u : List (List Int)} {f : Nat → Nat → Int} {T : List (List Int)} (hT : T = (List.range u.length).map fun a => (List.range u.length).map fun b => f a b)
 (h : Kd.C (Kd.slice 3 (Kd.int .i64)) w A T.length T) {a : Int} (ha : 0 ≤ a ∧ a < u.length) :
 ∃ ad ad2 c, A = some ad ∧ w.cell? (ad.add a.toNat) = some (.slice (some ad2) u.length c) ∧ ∀ b : Int, (0 ≤ b ∧ b < (u.length : Int)) → w.cell? (ad2.add b.toNat) = some (.int .i64 (f a.toNat b.toNat)) := by
 obtain ⟨ad, ad2, c, e, _, h1, h2⟩ := tab_at hT h ha ha
 refine ⟨ad, ad2, c, e, h1, fun b hb => ?_⟩
 obtain ⟨ad', ad2', c', e', _, h1', h2'⟩ := tab_at hT h ha hb
 obtain rfl : ad = ad' := by rw [e] at e'; injection e'
 rw [h1] at h1'
 obtain rfl : ad2 = ad2' := by injection h1' with q; injection q with q1; injection q1
 exact h2'
set_option maxHeartbeats 4000000 in
set_option maxRecDepth 100000 in
theorem with_calls {w : World} {g : Nat} {u : List (List Int)} {nt : List Int} {no yes : Int} (h : AlgAt w g u (mtab u) (jtab u) nt no yes) (hl : OL u nt) {a b : Int} (ha : 0 ≤ a ∧ a < u.length) (hb : 0 ≤ b ∧ b < u.length) :
 Calls Try.prog 115 #[.pointer (some ⟨g, 0, none⟩), .int .i64 a, .int .i64 b] w fun e w' => e = .returned (.bool (decide (withB u nt a b))) ∧ Drawn0 w w' := by
 obtain ⟨Bu, bu, Ba, ba, Bo, bo, Bn, bn, h0, h1, h2, h3, h4, h5, h6, h7, h8⟩ := h
 have hy := ng_in hl hb
 have hx := mt_in hl.1 ha hb
 have hz := mt_in hl.1 ha hy
 obtain ⟨ad, ad2, c2, e1, hr1, hr2⟩ := tab_row (f := meetI u) rfl h3 ha
 subst e1
 have hr3 := hr2 b hb
 have hr4 := hr2 _ hy
 obtain ⟨ae, ae2, c3, e2, hs1, hs2⟩ := tab_row (f := joinI u) rfl h5 hx
 subst e2
 have hs3 := hs2 _ hz
 obtain ⟨an, e3, ht⟩ := Kd.at_int h7 b hb.1 (by rw [hl.2.1]; exact hb.2)
 subst e3
 have hlm : (mtab u).length = u.length := by simp [mtab]
 have hlj : (jtab u).length = u.length := by simp [jtab]
 have hW : withB u nt a b ↔ joinI u (meetI u a.toNat b.toNat).toNat (meetI u a.toNat (rd nt b).toNat).toNat = a := Iff.rfl
 have hdW : decide (withB u nt a b) = (joinI u (meetI u a.toNat b.toNat).toNat (meetI u a.toNat (rd nt b).toNat).toNat == a) := by
  rw [Bool.eq_iff_iff, decide_eq_true_iff, beq_iff_eq]; exact hW
 rw [hdW]
 clear hW hdW hr2 hs2
 rw [hlm, hlj, hl.2.1] at h0
 have hg1 : w.cell? ⟨g, 1, none⟩ = some (.slice (some ad) u.length ba) := (blk_cell h0 1).trans rfl
 have hg2 : w.cell? ⟨g, 2, none⟩ = some (.slice (some ae) u.length bo) := (blk_cell h0 2).trans rfl
 have hg3 : w.cell? ⟨g, 3, none⟩ = some (.slice (some an) u.length bn) := (blk_cell h0 3).trans rfl
 clear h0 h1 h2 h3 h4 h5 h6 h7 h8 hl hlm hlj
 unfold mt at hx hz hs1 hs3
 generalize rd nt b = y at *
 generalize meetI u a.toNat b.toNat = x at *
 generalize meetI u a.toNat y.toNat = z at *
 generalize joinI u x.toNat z.toNat = v at *
 obtain ⟨ha0, ha1⟩ := ha
 obtain ⟨hb0, hb1⟩ := hb
 obtain ⟨hx0, hx1⟩ := hx
 obtain ⟨hy0, hy1⟩ := hy
 obtain ⟨hz0, hz1⟩ := hz
 go_enter Try.func115, Try.ntmps115
 go_wp2
 repeat (go_quiet (fail); try go_wp2)
 go_ret
 exact ⟨rfl, ⟨_, rfl⟩⟩
end Go.Proofs.Ytacifhahfamipaa.P


namespace Go.Proofs.Ytacifhahfamipaa.P
open Go.RowKit Go.Proofs.YtacifhahfamipaaW.PrintWords Go.Proofs.YtacifhahfamipaaW.PrintLast Go.Proofs.YtacifhahfamipaaW.PrintMore
set_option linter.unusedVariables false
set_option linter.unusedSimpArgs false
set_option maxHeartbeats 4000000 in
set_option maxRecDepth 100000 in
theorem has_raw (a0 a1 : Int) (h0 : 0 ≤ a1) (w : World) : Calls Try.prog 88 #[.int .i64 a0, .int .i64 a1] w fun e w' => e = .returned (.bool ((Go.bits .and .i64 (shr .i64 a0 a1) 1) == 1)) ∧ Drawn0 w w' := by
 have a2 := eq_true h0
 have a3 : decide (0 ≤ a1) = true := dT_ h0
 clear h0
 obtain ⟨ji4, hji4⟩ : ∃ j_ : Int, (shr .i64 a0 a1) = j_ := ⟨_, rfl⟩
 rw [hji4]
 have hji4_ : (a0 / 2 ^ min a1.toNat 64) = ji4 := hji4
 have hji4z : a1 ≤ 64 → (a0 / 2 ^ a1.toNat) = ji4 := shr_small hji4
 go_enter Try.func88, Try.ntmps88
 go_wp2
 go_ret
 exact ⟨(by first | rfl | (simp; done) | (simp only [← hji4] <;> (first | rfl | simp)) | (simp [*]; done)), (by repeat (first | exact Drawn0.refl _ | apply Drawn0.step))⟩
theorem has_calls {n S a : Nat} (hn : n ≤ 12) (hS : S < 2 ^ n) (ha : a < n) (w : World) : Calls Try.prog 88 #[.int .i64 (S : Int), .int .i64 (a : Int)] w fun e w' => e = .returned (.bool (S.testBit a)) ∧ Drawn0 w w' := by
 have e : ((Go.bits .and .i64 (shr .i64 (S : Int) (a : Int)) 1) == 1) = S.testBit a := by
  rw [Q.shr_set hn hS ha]
  cases S.testBit a <;> rfl
 rw [← e]
 exact has_raw _ _ (by omega) w
end Go.Proofs.Ytacifhahfamipaa.P


namespace Go.Proofs.Ytacifhahfamipaa.P
open Go.RowKit Go.Proofs.YtacifhahfamipaaW.PrintWords Go.Proofs.YtacifhahfamipaaW.PrintLast Go.Proofs.YtacifhahfamipaaW.PrintMore Go.Proofs.Cl
set_option linter.unusedVariables false
set_option linter.unusedSimpArgs false
theorem z24_0 {p : Prop} (h : p := by repeat (first | exact HB5.out | (with_reducible first | apply below_alloc | apply pw_below_drewN | apply below_drew1))) : p := h
set_option maxHeartbeats 4000000 in
set_option maxRecDepth 100000 in
theorem isSet_nil (s : Int) (w : World) : Calls Try.prog 83 #[.pointer none, .int .i64 s] w fun e w' => e = .returned (.bool false) ∧ Drawn0 w w' := by
 go_enter Try.func83, Try.ntmps83
 go_wp2
 go_ret
 exact ⟨rfl, Drawn0.refl _⟩
set_option maxHeartbeats 4000000 in
set_option maxRecDepth 100000 in
theorem isSet_calls {w : World} {g : Nat} {u a o : List (List Int)} {nt : List Int} {no yes : Int} (h : AlgAt w g u a o nt no yes) (hn : u.length ≤ 12) (s : Int) :
 Calls Try.prog 83 #[.pointer (some ⟨g, 0, none⟩), .int .i64 s] w fun e w' => e = .returned (.bool (isSetB u.length s)) ∧ Drawn0 w w' := by
 obtain ⟨Bu, bu, _, _, _, _, _, _, hz, _⟩ := h
 have hq : w.cell? ⟨g, 0, none⟩ = some (.slice Bu u.length bu) := (blk_cell hz 0).trans rfl
 clear hz
 by_cases h0 : 0 < s
 ·
  have HR := ak (Q.isSet_wrap hn h0)
  go_enter Try.func83, Try.ntmps83
  go_wp2
  go_ret
  exact ⟨(by rw [HR.out]; rfl), Drawn0.refl _⟩
 have HR : Aside0 (isSetB u.length s = false) := ⟨dF_ (fun q => h0 q.1)⟩
 go_enter Try.func83, Try.ntmps83
 go_wp2
 go_ret
 exact ⟨(by rw [HR.out]; rfl), Drawn0.refl _⟩
theorem three_reads {w : World} {g : Nat} {u : List (List Int)} {nt : List Int} {no yes : Int} (h : AlgAt w g u (mtab u) (jtab u) nt no yes) (hl : OL u nt) {i j : Nat} (hi : i < u.length) (hj : j < u.length) :
 ∃ (m l y : Nat) (am an2 ao ar2 an : Addr) (ba bo bn c3 c4 : Nat), mt u i j = m ∧ jn u i j = l ∧ rd nt i = y ∧ m < u.length ∧ l < u.length ∧ y < u.length ∧
  w.cell? ⟨g, 1, none⟩ = some (.slice (some am) u.length ba) ∧ w.cell? (am.add i) = some (.slice (some an2) u.length c3) ∧ w.cell? (an2.add j) = some (.int .i64 m) ∧
  w.cell? ⟨g, 2, none⟩ = some (.slice (some ao) u.length bo) ∧ w.cell? (ao.add i) = some (.slice (some ar2) u.length c4) ∧ w.cell? (ar2.add j) = some (.int .i64 l) ∧
  w.cell? ⟨g, 3, none⟩ = some (.slice (some an) u.length bn) ∧ w.cell? (an.add i) = some (.int .i64 y) := by
 obtain ⟨Bu, bu, Ba, ba, Bo, bo, Bn, bn, h0, h1, h2, h3, h4, h5, h6, h7, h8⟩ := h
 have ha : 0 ≤ (i : Int) ∧ (i : Int) < u.length := by omega
 have hb : 0 ≤ (j : Int) ∧ (j : Int) < u.length := by omega
 have hy := ng_in hl ha
 have hm := mt_in hl.1 ha hb
 have hj2 := jn_in hl.1 ha hb
 have hlm : (mtab u).length = u.length := by simp [mtab]
 have hlj : (jtab u).length = u.length := by simp [jtab]
 rw [hlm, hlj, hl.2.1] at h0
 obtain ⟨am, an2, c3, e4, k7, k8⟩ := tab_row (f := meetI u) rfl h3 ha
 obtain ⟨ao, ar2, c4, e6, k9, k10⟩ := tab_row (f := joinI u) rfl h5 ha
 obtain ⟨an, e5, k11⟩ := Kd.at_int h7 i ha.1 (by rw [hl.2.1]; exact ha.2)
 subst e4
 subst e5
 subst e6
 have q1 := k8 _ hb
 have q2 := k10 _ hb
 simp only [Int.toNat_natCast] at k7 k9 k11 q1 q2
 obtain ⟨m, em⟩ := Int.eq_ofNat_of_zero_le hm.1
 obtain ⟨l, el⟩ := Int.eq_ofNat_of_zero_le hj2.1
 obtain ⟨y, ey⟩ := Int.eq_ofNat_of_zero_le hy.1
 have em2 : meetI u i j = m := em
 have el2 : joinI u i j = l := el
 rw [em2] at q1
 rw [el2] at q2
 rw [ey] at k11
 exact ⟨m, l, y, am, an2, ao, ar2, an, ba, bo, bn, c3, c4, em, el, ey, (by omega), (by omega), (by omega), (blk_cell h0 1).trans rfl, k7, q1, (blk_cell h0 2).trans rfl, k9, q2, (blk_cell h0 3).trans rfl, k11⟩
set_option maxHeartbeats 8000000 in
set_option maxRecDepth 100000 in
theorem closed1_yes {w0 wr : World} {g Bb Bs Bg : Nat} {u : List (List Int)} {nt : List Int} {no yes : Int} (h : AlgAt w0 g u (mtab u) (jtab u) nt no yes) (hl : OL u nt) (hb : Below w0.heap.size w0 wr) {S v i j : Nat} (hi : i < u.length) (hj : j < u.length) (hS : S < 2 ^ u.length) (hv : v < 2 ^ u.length)
 (b1 : wr.heap[Bb]? = some (.cells #[.int .i64 (S : Int)] 3 (0, 0))) (b2 : wr.heap[Bs]? = some (.cells #[.int .i64 (v : Int)] 3 (0, 0))) (b3 : wr.heap[Bg]? = some (.cells #[.pointer (some ⟨g, 0, none⟩)] 61 (0, 0)))
 (ka : S.testBit i = true) (kb : S.testBit j = true) :
 Calls Try.prog 113 #[.int .i64 i, .int .i64 j, .pointer (some ⟨Bb, 0, none⟩), .pointer (some ⟨Bs, 0, none⟩), .pointer (some ⟨Bg, 0, none⟩)] wr fun e w' => e = .returned (.bool true) ∧
  ∃ n, w' = (wr.drewN n).setCell ⟨Bs, 0, none⟩ (.int .i64 ((v ||| (2 ^ (mt u i j).toNat ||| 2 ^ (jn u i j).toNat ||| 2 ^ (rd nt i).toNat) : Nat) : Int)) := by
 have h12 := hl.1.1.le12
 have E1 := ak (fun w_ => has_calls h12 hS hi w_)
 have E2 := ak (fun w_ => has_calls h12 hS hj w_)
 rw [ka] at E1
 rw [kb] at E2
 obtain ⟨m, l, y, am, an2, ao, ar2, an, ba, bo, bn, c3, c4, em, el, ey, hm, hj2, hy, f2, f3, f4, f5, f6, f7, f8, f9⟩ := three_reads (h.below hb) hl hi hj
 rw [em, el, ey]
 simp only [Int.toNat_natCast]
 have HE := ak (Q.or4_set (v := v) h12 hv hm hj2 hy)
 have f0 : wr.cell? ⟨Bs, 0, none⟩ = some (.int .i64 (v : Int)) := (blk_cell b2 0).trans rfl
 have f1 : wr.cell? ⟨Bg, 0, none⟩ = some (.pointer (some ⟨g, 0, none⟩)) := (blk_cell b3 0).trans rfl
 have hq : wr.cell? ⟨Bb, 0, none⟩ = some (.int .i64 (S : Int)) := (blk_cell b1 0).trans rfl
 have HB := ak hb
 have HX := ak b2
 have hi1 : (i : Int) < (u.length : Int) := by omega
 have hj1 : (j : Int) < (u.length : Int) := by omega
 clear h hl b1 b2 b3 em el ey hb ka kb
 go_enter Try.func113, Try.ntmps113
 go_wp2_with (first
  | (go_at_call 88; (with_reducible refine (E1.out _).mono ?_); rintro e w2 ⟨rfl, ⟨nd, rfl⟩⟩)
  | (go_at_call 88; (with_reducible refine (E2.out _).mono ?_); rintro e w2 ⟨rfl, ⟨nd2, rfl⟩⟩))
 refine start_ (n := 35) (S := fun w' => w'.cell? ⟨Bs, 0, none⟩ = some (.int .i64 (v : Int)) ∧ w'.cell? ⟨Bg, 0, none⟩ = some (.pointer (some ⟨g, 0, none⟩)) ∧ w'.cell? ⟨g, 1, none⟩ = some (.slice (some am) u.length ba) ∧ w'.cell? (am.add i) = some (.slice (some an2) u.length c3) ∧ w'.cell? (an2.add j) = some (.int .i64 (m : Int)) ∧ w'.cell? ⟨g, 2, none⟩ = some (.slice (some ao) u.length bo) ∧ w'.cell? (ao.add i) = some (.slice (some ar2) u.length c4) ∧ w'.cell? (ar2.add j) = some (.int .i64 (l : Int)) ∧ w'.cell? ⟨g, 3, none⟩ = some (.slice (some an) u.length bn) ∧ w'.cell? (an.add i) = some (.int .i64 (y : Int))) (ds := [34]) (bA 35 0) (by kernel_rfl) rfl rfl ⟨f0, f1, f2, f3, f4, f5, f6, f7, f8, f9⟩ (fun hHeld => ?_)
 refine tk_ (i := 0) (N := some 16) (bA 35 1) ?_
 refine tk_ (i := 1) (N := some 17) (bA 35 3) ?_
 refine pu_ (i := 2) (N := some 18) (bA 35 7) ?_
 refine pu_ (i := 3) (N := some 19) (bA 35 15) ?_
 refine tk_ (i := 4) (N := some 20) (bA 35 31) ?_
 refine pu_ (i := 5) (N := some 21) (bA 35 63) ?_
 refine pu_ (i := 6) (N := some 22) (bA 35 127) ?_
 refine tk_ (i := 7) (N := some 23) (bA 35 255) ?_
 refine pu_ (i := 8) (N := some 24) (bA 35 511) ?_
 refine pu_ (i := 9) (N := some 25) (bA 35 1023) ?_
 refine tk_ (i := 10) (N := some 26) (bA 35 2047) ?_
 refine pu_ (i := 11) (N := some 27) (bA 35 4095) ?_
 refine tk_ (i := 12) (N := some 28) (bA 35 8191) ?_
 refine pu_ (i := 13) (N := some 29) (bA 35 16383) ?_
 refine pu_ (i := 14) (N := some 30) (bA 35 32767) ?_
 refine tk_ (i := 15) (N := some 31) (bA 35 65535) ?_
 refine pu_ (i := 16) (N := some 32) (bA 35 131071) ?_
 refine pu_ (i := 17) (N := some 33) (bA 35 262143) ?_
 refine tk_ (i := 18) (N := some 34) (bA 35 524287) ?_
 refine pu_ (i := 19) (N := some 35) (bA 35 1048575) ?_
 refine pu_ (i := 20) (N := some 36) (bA 35 2097151) ?_
 refine tk_ (i := 21) (N := some 37) (bA 35 4194303) ?_
 refine pu_ (i := 22) (N := some 38) (bA 35 8388607) ?_
 refine pu_ (i := 23) (N := some 39) (bA 35 16777215) ?_
 refine tk_ (i := 24) (N := some 40) (bA 35 33554431) ?_
 refine pu_ (i := 25) (N := some 41) (bA 35 67108863) ?_
 refine pu_ (i := 26) (N := some 42) (bA 35 134217727) ?_
 refine tk_ (i := 27) (N := some 43) (bA 35 268435455) ?_
 refine pu_ (i := 28) (N := some 44) (bA 35 536870911) ?_
 refine pu_ (i := 29) (N := some 45) (bA 35 1073741823) ?_
 refine tk_ (i := 30) (N := some 46) (bA 35 2147483647) ?_
 refine pu_ (i := 31) (N := some 47) (bA 35 4294967295) ?_
 refine pu_ (i := 32) (N := some 48) (bA 35 8589934591) ?_
 refine pu_ (i := 33) (N := some 49) (bA 35 17179869183) ?_
 have hs2 : wr.cell? ⟨Bs, 0, none⟩ = some (.int .i64 (v : Int)) := (blk_cell HX.out 0).trans rfl
 have hz2 : wr.frozen? ⟨Bs, 0, none⟩ = false := blk_frozen HX.out 0
 refine last_ (i := 34) (N := none) (bA 35 34359738367) rfl rfl (by kernel_rfl) (by decide) (fun K hK => ?_)
 refine skip_ (w1 := ?_) (by rfl) rfl ?_ ?_
 rotate_left
 ·
  go_simp
  rfl
 refine hK.out _ _ ?_
 clear hK K
 refine done_ (by kernel_rfl) ?_
 go_wp2
 go_ret
 exact ⟨rfl, _, (by rw [HE.out.1])⟩
set_option maxHeartbeats 8000000 in
set_option maxRecDepth 100000 in
theorem closed1_no {wr : World} {n Bb Bs Bg : Nat} {S i j : Nat} (h12 : n ≤ 12) (hi : i < n) (hj : j < n) (hS : S < 2 ^ n)
 (b1 : wr.heap[Bb]? = some (.cells #[.int .i64 (S : Int)] 3 (0, 0))) (kab : ¬ (S.testBit i = true ∧ S.testBit j = true)) :
 Calls Try.prog 113 #[.int .i64 i, .int .i64 j, .pointer (some ⟨Bb, 0, none⟩), .pointer (some ⟨Bs, 0, none⟩), .pointer (some ⟨Bg, 0, none⟩)] wr fun e w' => e = .returned (.bool true) ∧ Drawn0 wr w' := by
 have E1 := ak (fun w_ => has_calls h12 hS hi w_)
 have E2 := ak (fun w_ => has_calls h12 hS hj w_)
 have hq : wr.cell? ⟨Bb, 0, none⟩ = some (.int .i64 (S : Int)) := (blk_cell b1 0).trans rfl
 clear b1
 cases k1 : S.testBit i with
 | false =>
  rw [k1] at E1
  clear k1 kab
  go_enter Try.func113, Try.ntmps113
  go_wp2_with (go_at_call 88; (with_reducible refine (E1.out _).mono ?_); rintro e w2 ⟨rfl, ⟨nd, rfl⟩⟩)
  go_ret
  exact ⟨rfl, ⟨_, rfl⟩⟩
 | true =>
  have k2 : S.testBit j = false := by
   cases q : S.testBit j with
   | false => rfl
   | true => exact absurd ⟨k1, q⟩ kab
  rw [k1] at E1
  rw [k2] at E2
  clear k1 k2 kab
  go_enter Try.func113, Try.ntmps113
  go_wp2_with (first
   | (go_at_call 88; (with_reducible refine (E1.out _).mono ?_); rintro e w2 ⟨rfl, ⟨nd, rfl⟩⟩)
   | (go_at_call 88; (with_reducible refine (E2.out _).mono ?_); rintro e w2 ⟨rfl, ⟨nd2, rfl⟩⟩))
  go_ret
  exact ⟨rfl, ⟨_, rfl⟩⟩
def Pass (u : List (List Int)) (nt : List Int) (g Bb Bs Bg : Nat) (w0 : World) (S : Nat) (i j : Nat) (w' : World) : Prop :=
  ∃ v : Nat, Below w0.heap.size w0 w' ∧ w'.heap[Bb]? = some (.cells #[.int .i64 (S : Int)] 3 (0, 0)) ∧ w'.heap[Bs]? = some (.cells #[.int .i64 (v : Int)] 3 (0, 0)) ∧ w'.heap[Bg]? = some (.cells #[.pointer (some ⟨g, 0, none⟩)] 61 (0, 0)) ∧ v < 2 ^ u.length ∧ SubS u.length S v ∧
    (∀ T, T < 2 ^ u.length → Cls u nt T → SubS u.length S T → SubS u.length v T) ∧
    ∀ a b, a < u.length → b < u.length → (a < i ∨ a = i ∧ b < j) → S.testBit a = true → S.testBit b = true → v.testBit (mt u a b).toNat = true ∧ v.testBit (jn u a b).toNat = true ∧ v.testBit (rd nt a).toNat = true
theorem pass_step {w0 w' : World} {g Bb Bs Bg : Nat} {u : List (List Int)} {nt : List Int} {no yes : Int} (h : AlgAt w0 g u (mtab u) (jtab u) nt no yes) (hl : OL u nt) (h1 : Bb ≠ Bs) (h2 : w0.heap.size ≤ Bs) {S : Nat} (hS : S < 2 ^ u.length) {i j : Nat} (hi : i < u.length) (hj : j < u.length) (I : Pass u nt g Bb Bs Bg w0 S i j w') :
 Calls Try.prog 113 #[.int .i64 i, .int .i64 j, .pointer (some ⟨Bb, 0, none⟩), .pointer (some ⟨Bs, 0, none⟩), .pointer (some ⟨Bg, 0, none⟩)] w' fun e w'' => ∃ b, e = .returned (.bool b) ∧ (b = true → Pass u nt g Bb Bs Bg w0 S i (j + 1) w'') ∧ (b = false → False) := by
 obtain ⟨v, hB, b1, b2, b3, hv, hsub, hmin, hdone⟩ := I
 have h12 := hl.1.1.le12
 have split : ∀ a b, (a < i ∨ a = i ∧ b < j + 1) → (a < i ∨ a = i ∧ b < j) ∨ a = i ∧ b = j := fun a b q => by omega
 by_cases k : S.testBit i = true ∧ S.testBit j = true
 ·
  refine (closed1_yes h hl hB hi hj hS hv b1 b2 b3 k.1 k.2).mono ?_
  rintro e w'' ⟨rfl, n, rfl⟩
  refine ⟨true, rfl, fun _ => ?_, fun q => by cases q⟩
  have hm := mt_in hl.1 (a := (i : Int)) (b := (j : Int)) ⟨(by omega), (by omega)⟩ ⟨(by omega), (by omega)⟩
  have hj2 := jn_in hl.1 (a := (i : Int)) (b := (j : Int)) ⟨(by omega), (by omega)⟩ ⟨(by omega), (by omega)⟩
  have hy := ng_in hl (a := (i : Int)) ⟨(by omega), (by omega)⟩
  have hE := (Q.or4_set (v := v) (m := (mt u i j).toNat) (l := (jn u i j).toNat) (y := (rd nt i).toNat) h12 hv (by omega) (by omega) (by omega)).2
  have hbit := Q.or_bits v (mt u i j).toNat (jn u i j).toNat (rd nt i).toNat
  have old : ∀ a, v.testBit a = true → (v ||| (2 ^ (mt u i j).toNat ||| 2 ^ (jn u i j).toNat ||| 2 ^ (rd nt i).toNat)).testBit a = true := fun a q => by rw [hbit, q]; rfl
  have hne : Bg ≠ Bs := fun e => by
   rw [e, b2] at b3
   cases b3
  refine ⟨_, below_set (pw_below_drewN hB n) h2, blk_far (blk_drewN b1 n) h1 _, blk_put (blk_drewN b2 n) 0 _ rfl, blk_far (blk_drewN b3 n) hne _, hE, fun a ha q => old a (hsub a ha q), fun T hT hc hs a ha q => ?_, fun a b ha hb q ka kb => ?_⟩
  ·
   rw [hbit] at q
   rcases Bool.or_eq_true_iff.1 q with q | q
   ·
    exact hmin T hT hc hs a ha q
   have c1 := hc i hi (hs i hi k.1)
   have c2 := c1.2 j hj (hs j hj k.2)
   rcases Bool.or_eq_true_iff.1 q with q | q
   ·
    rcases Bool.or_eq_true_iff.1 q with q | q
    ·
     rw [← oe_ q]; exact c2.1
    rw [← oe_ q]; exact c2.2
   rw [← oe_ q]; exact c1.1
  rcases split a b q with q | ⟨rfl, rfl⟩
  ·
   have := hdone a b ha hb q ka kb
   exact ⟨old _ this.1, old _ this.2.1, old _ this.2.2⟩
  rw [hbit, hbit, hbit]
  simp
 refine (closed1_no (Bs := Bs) (Bg := Bg) h12 hi hj hS b1 k).mono ?_
 rintro e w'' ⟨rfl, ⟨n, rfl⟩⟩
 refine ⟨true, rfl, fun _ => ⟨v, pw_below_drewN hB n, blk_drewN b1 n, blk_drewN b2 n, blk_drewN b3 n, hv, hsub, hmin, fun a b ha hb q ka kb => ?_⟩, fun q => by cases q⟩
 rcases split a b q with q | ⟨rfl, rfl⟩
 ·
  exact hdone a b ha hb q ka kb
 exact absurd ⟨ka, kb⟩ k
set_option maxHeartbeats 4000000 in
set_option maxRecDepth 100000 in
theorem pass_every {w0 w' : World} {g Bb Bs Bg : Nat} {u : List (List Int)} {nt : List Int} {no yes : Int} (h : AlgAt w0 g u (mtab u) (jtab u) nt no yes) (hl : OL u nt) (h1 : Bb ≠ Bs) (h2 : w0.heap.size ≤ Bs) {S : Nat} (hS : S < 2 ^ u.length) (I : Pass u nt g Bb Bs Bg w0 S 0 0 w') :
 Calls Try.prog 74 #[.pointer (some ⟨g, 0, none⟩), .func (.func 113) #[] #[.pointer (some ⟨Bb, 0, none⟩), .pointer (some ⟨Bs, 0, none⟩), .pointer (some ⟨Bg, 0, none⟩)]] w' fun e w'' => e = .returned (.bool true) ∧ Pass u nt g Bb Bs Bg w0 S u.length 0 w'' := by
 obtain ⟨Bu, bu, _, _, _, _, _, _, hz, _⟩ := id h
 refine (every_inv (g := g) (n := u.length) (c := bu) (A := Bu) 113 _ (enters_of Try.func113 (by kernel_rfl) rfl) (Pass u nt g Bb Bs Bg w0 S) (fun _ => False) ?_ (by have := hl.1.1.2.1; omega) I ?_ (fun i j w2 hi hj J => by rw [show (#[Value.int .i64 (i : Int), .int .i64 (j : Int)] ++ #[Value.pointer (some ⟨Bb, 0, none⟩), .pointer (some ⟨Bs, 0, none⟩), .pointer (some ⟨Bg, 0, none⟩)] : Array Value) = #[.int .i64 i, .int .i64 j, .pointer (some ⟨Bb, 0, none⟩), .pointer (some ⟨Bs, 0, none⟩), .pointer (some ⟨Bg, 0, none⟩)] from by simp]; exact pass_step h hl h1 h2 hS hi hj J)).mono ?_
 ·
  rintro i j w2 ⟨v, hB, _⟩
  exact (blk_cell (blk_below hz hB) 0).trans rfl
 ·
  rintro i w2 hi ⟨v, hB, b1, b2, b3, hv, hs, hm, hd⟩
  exact ⟨v, hB, b1, b2, b3, hv, hs, hm, fun a b ha hb q => hd a b ha hb (by omega)⟩
 rintro e w2 (⟨rfl, hP⟩ | ⟨_, hF⟩)
 ·
  exact ⟨rfl, hP⟩
 exact hF.elim
def cellN (w : World) (b : Nat) : Nat := match w.cell? ⟨b, 0, none⟩ with
  | some (.int _ n) => n.toNat
  | _ => 0
theorem cellN_of {w : World} {b v : Nat} {t : Nat} (h : w.heap[b]? = some (.cells #[.int .i64 (v : Int)] t (0, 0))) : cellN w b = v := by
 unfold cellN
 rw [show w.cell? ⟨b, 0, none⟩ = some (.int .i64 (v : Int)) from (blk_cell h 0).trans rfl]
 rfl
set_option maxHeartbeats 8000000 in
set_option maxRecDepth 100000 in
theorem closed_calls {w : World} {g : Nat} {u : List (List Int)} {nt : List Int} {no yes : Int} (h : AlgAt w g u (mtab u) (jtab u) nt no yes) (hl : OL u nt) {S : Nat} (hS : S < 2 ^ u.length) :
 Calls Try.prog 84 #[.pointer (some ⟨g, 0, none⟩), .int .i64 S] w fun e w' => e = .returned (.int .i64 (closN u nt S)) ∧ Below w.heap.size w w' := by
 have HL := ak hl
 have HA := ak h
 have HS0 := ak hS
 have HP12 := ak (Q.pow_le12 hl.1.1.le12)
 clear h hl hS
 go_enter Try.func84, Try.ntmps84
 go_wp2_with (first
  | ((with_reducible refine gate_dst (N := 2) rfl ?_); refine bx_ (N := 2) (cs := #[.pointer (some ⟨g, 0, none⟩)]) (t := 61) ?_; intro Bg hg w1 hbox hb; have HG := ak hbox; have HB1 := ak hb; clear hb hg hbox)
  | ((with_reducible refine gate_dst (N := 3) rfl ?_); refine bx_ (N := 3) (cs := #[.int .i64 (S : Int)]) (t := 3) ?_; intro Bs hg w2 hbox hb; have HS2 := ak hbox; have HG2 := ak (blk_below HG.out hb); have HB2 := ak (below_step HB1.out hb); have HGE : Aside0 (w.heap.size ≤ Bs) := ⟨(by rw [hg]; exact below_size HB1.out)⟩; clear hb hg hbox HG HB1))
 go_loopw [] (fun wr => ∃ v : Nat, Aside0 (Below w.heap.size w wr) ∧ Aside0 (wr.heap[Bs]? = some (.cells #[.int .i64 (v : Int)] 3 (0, 0))) ∧ Aside0 (wr.heap[Bg]? = some (.cells #[.pointer (some ⟨g, 0, none⟩)] 61 (0, 0))) ∧ Aside0 (v < 2 ^ u.length) ∧ Aside0 (SubS u.length S v) ∧ Aside0 (∀ T, T < 2 ^ u.length → Cls u nt T → SubS u.length S T → SubS u.length v T)) (fun wr => 4096 - cellN wr Bs)
 case atStart => exact ⟨S, HB2, HS2, HG2, HS0, ⟨fun _ _ q => q⟩, ⟨fun T _ _ q => q⟩⟩
 case round =>
  clear HS2 HG2 HB2
  obtain ⟨v, HB, HX, HG, HV, HSS, HM⟩ := hrel
  have hq3 : wr.cell? ⟨Bs, 0, none⟩ = some (.int .i64 (v : Int)) := (blk_cell HX.out 0).trans rfl
  have hq2 : wr.cell? ⟨Bg, 0, none⟩ = some (.pointer (some ⟨g, 0, none⟩)) := (blk_cell HG.out 0).trans rfl
  obtain ⟨W1, hW1⟩ : ∃ W1, W1 = wr := ⟨_, rfl⟩
  have HW1 := ak hW1
  clear hW1
  go_wp2_with (first
   | ((with_reducible refine gate_dst (N := 5) rfl ?_); refine bx_ (N := 5) (cs := #[.int .i64 0]) (t := 3) ?_; intro Bb hg w4 hbox hb; have HX4 := ak (blk_below HX.out hb); have HG4 := ak (blk_below HG.out hb); have HB4 := ak (below_step HB.out hb); have HN4 := ak hbox; have HNE : Aside0 (Bb ≠ Bs) := ⟨(by have := blk_lt HX.out; omega)⟩; have HGB : Aside0 (w.heap.size ≤ Bb) := ⟨(by rw [hg]; exact below_size HB.out)⟩; have hq4 : w4.cell? ⟨Bb, 0, none⟩ = some (.int .i64 0) := (blk_cell hbox 0).trans rfl; have hz4 := blk_frozen hbox 0; have hq5 : w4.cell? ⟨Bs, 0, none⟩ = some (.int .i64 (v : Int)) := (blk_cell HX4.out 0).trans rfl; have hq6 : w4.cell? ⟨Bg, 0, none⟩ = some (.pointer (some ⟨g, 0, none⟩)) := (blk_cell HG4.out 0).trans rfl; have HNG : Aside0 (Bg ≠ Bb) := ⟨(by have := blk_lt HG.out; omega)⟩; have hng := HNG.out; clear hb hg hbox)
   | (go_at_call 74; (with_reducible refine (pass_every (w0 := w) (g := g) (Bb := Bb) (Bs := Bs) (Bg := Bg) (S := v) HA.out HL.out HNE.out HGE.out HV.out ?s1).mono ?_); (case s1 => exact ⟨v, below_set HB4.out HGB.out, blk_put HN4.out 0 _ rfl, blk_far HX4.out (fun e => HNE.out e.symm) _, blk_far HG4.out HNG.out _, HV.out, fun _ _ q => q, fun T _ _ q => q, fun a b _ _ q => absurd q (by omega)⟩); rintro e w6 ⟨rfl, hP⟩; obtain ⟨v2, hB6, b1, b2, b3, hv2, hsub, hmin, hdone⟩ := hP; have hr1 : w6.cell? ⟨Bb, 0, none⟩ = some (.int .i64 (v : Int)) := (blk_cell b1 0).trans rfl; have hr2 : w6.cell? ⟨Bs, 0, none⟩ = some (.int .i64 (v2 : Int)) := (blk_cell b2 0).trans rfl; have HB6 := ak hB6; have HX6 := ak b2; have HG6 := ak b3; have HV2 := ak hv2; have HSU := ak hsub; have HMI := ak hmin; have HDO := ak hdone; clear hB6 b1 b2 b3 hv2 hsub hmin hdone; rcases Q.eq_or v2 v with hvv | hvv))
  ·
   have HE : Aside0 (v2 = v) := ⟨(by have := eq_of_beq hvv; omega)⟩
   go_ret
   refine ⟨?_, HB6.out⟩
   have e : v2 = closN u nt S := by
    have e2 := HE.out
    refine Q.clos_end HV2.out (by rw [e2]; exact HSS.out) (by rw [e2]; exact HM.out) (fun a b ha hb ka kb => ?_)
    have := HDO.out a b ha hb (Or.inl ha)
    rw [e2] at ka kb
    exact this ka kb
   rw [← e]
   rfl
  have HLT : Aside0 (v < v2) := ⟨Q.sub_lt HV.out HV2.out HSU.out (fun e => by rw [e] at hvv; simp at hvv)⟩
  go_roundw
  case rel => exact ⟨v2, HB6, HX6, HG6, HV2, ⟨fun a ha k => HSU.out a ha (HSS.out a ha k)⟩, ⟨fun T hT hc hs => HMI.out T hT hc (HM.out T hT hc hs)⟩⟩
  case measure =>
   have := HLT.out
   have := HV2.out
   have := HP12.out
   rw [cellN_of HX6.out, cellN_of HX.out]
   omega
set_option maxHeartbeats 4000000 in
set_option maxRecDepth 100000 in
theorem subOk_core (Au : Option Addr) (cu : Nat) (u : List (List Int)) (An : Option Addr) (cn : Nat) (nt : List Int) (s : Int) (w : World)
 (hu : Kd.C (Kd.slice 3 (Kd.int .i64)) w Au u.length u) (hcu : u.length ≤ cu) (hn : Kd.C (Kd.int .i64) w An nt.length nt) (hcn : nt.length ≤ cn) :
 Calls Try.prog 34 #[.agg #[.slice Au u.length cu, .slice An nt.length cn], .int .i64 s] w fun e w' => e = .returned (.bool (subF u nt s)) ∧ Below w.heap.size w w' := by
 have hul := Try.underlying27
 have HU := ak hu
 have HC := ak hcu
 have HN := ak hn
 have HCN := ak hcn
 clear hu hcu hn hcn
 by_cases hl : OL u nt
 ·
  have HL := ak hl
  have h12 := hl.1.1.le12
  clear hl
  cases hk : isSetB u.length s with
  | true =>
   obtain ⟨S, rfl, hS, hS0⟩ := Q.set_of hk
   have HK := ak hk
   have HS := ak hS
   clear hk hS
   go_enter Try.func34, Try.ntmps34
   go_wp2_with (first
    | ((with_reducible refine gate_dst (N := 2) rfl ?_); refine bx_ (N := 2) (cs := #[.slice Au u.length cu, .slice An nt.length cn]) (t := 27) ?_; intro gb hg w4 hbox hb; have hc0 : w4.cell? ⟨gb, 0, none⟩ = some (.slice Au u.length cu) := (blk_cell hbox 0).trans rfl; have hc1 : w4.cell? ⟨gb, 1, none⟩ = some (.slice An nt.length cn) := (blk_cell hbox 1).trans rfl; have HB4 := ak hb; clear hb hg hbox)
    | (go_at_call 68; (with_reducible refine (told_some _ _ u _ _ nt _ ?s1 ?s2 ?s3 ?s4 HL.out).mono ?_); (case s1 => repeat (first | exact (Kd.C_below HU.out HB4.out) | (with_reducible refine Kd.C_alloc ?_ _) | (with_reducible refine Kd.C_drewN ?_ _) | (with_reducible refine Kd.C_drew ?_))); (case s2 => exact HC.out); (case s3 => repeat (first | exact (Kd.C_below HN.out HB4.out) | (with_reducible refine Kd.C_alloc ?_ _) | (with_reducible refine Kd.C_drewN ?_ _) | (with_reducible refine Kd.C_drew ?_))); (case s4 => exact HCN.out); rintro e w5 ⟨g, rfl, hge, hAl, hD⟩; have HB5 := ak (below_step HB4.out hD); have HA := ak hAl; clear hD hge hAl; skip)
    | (go_at_call 83; (with_reducible refine (isSet_calls HA.out h12 _).mono ?_); rw [HK.out]; rintro e w6 ⟨rfl, hD⟩; obtain ⟨nd, rfl⟩ := hD)
    | (go_at_call 84; (with_reducible refine (closed_calls (S := S) (HA.out.drewN nd) HL.out HS.out).mono ?_); rintro e w7 ⟨rfl, hb⟩; have HB7 := ak (below_step (pw_below_drewN HB5.out nd) hb); clear hb))
   go_ret
   exact ⟨(by rw [Q.sub_eq HL.out HS.out HK.out]; rfl), (by repeat (first | exact HB7.out | (with_reducible first | apply below_alloc | apply pw_below_drewN | apply below_drew1)))⟩
  | false =>
   have HK := ak hk
   clear hk
   go_enter Try.func34, Try.ntmps34
   go_wp2_with (first
    | ((with_reducible refine gate_dst (N := 2) rfl ?_); refine bx_ (N := 2) (cs := #[.slice Au u.length cu, .slice An nt.length cn]) (t := 27) ?_; intro gb hg w4 hbox hb; have hc0 : w4.cell? ⟨gb, 0, none⟩ = some (.slice Au u.length cu) := (blk_cell hbox 0).trans rfl; have hc1 : w4.cell? ⟨gb, 1, none⟩ = some (.slice An nt.length cn) := (blk_cell hbox 1).trans rfl; have HB4 := ak hb; clear hb hg hbox)
    | (go_at_call 68; (with_reducible refine (told_some _ _ u _ _ nt _ ?s1 ?s2 ?s3 ?s4 HL.out).mono ?_); (case s1 => repeat (first | exact (Kd.C_below HU.out HB4.out) | (with_reducible refine Kd.C_alloc ?_ _) | (with_reducible refine Kd.C_drewN ?_ _) | (with_reducible refine Kd.C_drew ?_))); (case s2 => exact HC.out); (case s3 => repeat (first | exact (Kd.C_below HN.out HB4.out) | (with_reducible refine Kd.C_alloc ?_ _) | (with_reducible refine Kd.C_drewN ?_ _) | (with_reducible refine Kd.C_drew ?_))); (case s4 => exact HCN.out); rintro e w5 ⟨g, rfl, hge, hAl, hD⟩; have HB5 := ak (below_step HB4.out hD); have HA := ak hAl; clear hD hge hAl; skip)
    | (go_at_call 83; (with_reducible refine (isSet_calls HA.out h12 _).mono ?_); rw [HK.out]; rintro e w6 ⟨rfl, hD⟩; obtain ⟨nd, rfl⟩ := hD))
   go_ret
   exact ⟨(by unfold subF; rw [HK.out, dF_ (fun q => Bool.false_ne_true q.2.1)]; rfl), z24_0⟩
 have HL := ak hl
 clear hl
 go_enter Try.func34, Try.ntmps34
 go_wp2_with (first
  | ((with_reducible refine gate_dst (N := 2) rfl ?_); refine bx_ (N := 2) (cs := #[.slice Au u.length cu, .slice An nt.length cn]) (t := 27) ?_; intro gb hg w4 hbox hb; have hc0 : w4.cell? ⟨gb, 0, none⟩ = some (.slice Au u.length cu) := (blk_cell hbox 0).trans rfl; have hc1 : w4.cell? ⟨gb, 1, none⟩ = some (.slice An nt.length cn) := (blk_cell hbox 1).trans rfl; have HB4 := ak hb; clear hb hg hbox)
  | (go_at_call 68; (with_reducible refine (told_none _ _ u _ _ nt _ ?s1 ?s2 ?s3 ?s4 HL.out).mono ?_); (case s1 => repeat (first | exact (Kd.C_below HU.out HB4.out) | (with_reducible refine Kd.C_alloc ?_ _) | (with_reducible refine Kd.C_drewN ?_ _) | (with_reducible refine Kd.C_drew ?_))); (case s2 => exact HC.out); (case s3 => repeat (first | exact (Kd.C_below HN.out HB4.out) | (with_reducible refine Kd.C_alloc ?_ _) | (with_reducible refine Kd.C_drewN ?_ _) | (with_reducible refine Kd.C_drew ?_))); (case s4 => exact HCN.out); rintro e w5 ⟨rfl, hD⟩; have HB5 := ak (below_step HB4.out hD); clear hD)
  | (go_at_call 83; (with_reducible refine (isSet_nil _ _).mono ?_); rintro e w6 ⟨rfl, hD⟩; obtain ⟨nd, rfl⟩ := hD))
 go_ret
 exact ⟨(by unfold subF; rw [dF_ (fun q => HL.out q.1)]; rfl), z24_0⟩
set_option maxHeartbeats 4000000 in
set_option maxRecDepth 100000 in
theorem madeBy_core (Au : Option Addr) (cu : Nat) (u : List (List Int)) (An : Option Addr) (cn : Nat) (nt : List Int) (s : Int) (w : World)
 (hu : Kd.C (Kd.slice 3 (Kd.int .i64)) w Au u.length u) (hcu : u.length ≤ cu) (hn : Kd.C (Kd.int .i64) w An nt.length nt) (hcn : nt.length ≤ cn) :
 Calls Try.prog 32 #[.agg #[.slice Au u.length cu, .slice An nt.length cn], .int .i64 s] w fun e w' => e = .returned (.int .i64 (madeByF u nt s)) ∧ Below w.heap.size w w' := by
 have hul := Try.underlying27
 have HU := ak hu
 have HC := ak hcu
 have HN := ak hn
 have HCN := ak hcn
 clear hu hcu hn hcn
 by_cases hl : OL u nt
 ·
  have HL := ak hl
  have h12 := hl.1.1.le12
  clear hl
  cases hk : isSetB u.length s with
  | true =>
   obtain ⟨S, rfl, hS, hS0⟩ := Q.set_of hk
   have HK := ak hk
   have HS := ak hS
   clear hk hS
   go_enter Try.func32, Try.ntmps32
   go_wp2_with (first
    | ((with_reducible refine gate_dst (N := 2) rfl ?_); refine bx_ (N := 2) (cs := #[.slice Au u.length cu, .slice An nt.length cn]) (t := 27) ?_; intro gb hg w4 hbox hb; have hc0 : w4.cell? ⟨gb, 0, none⟩ = some (.slice Au u.length cu) := (blk_cell hbox 0).trans rfl; have hc1 : w4.cell? ⟨gb, 1, none⟩ = some (.slice An nt.length cn) := (blk_cell hbox 1).trans rfl; have HB4 := ak hb; clear hb hg hbox)
    | (go_at_call 68; (with_reducible refine (told_some _ _ u _ _ nt _ ?s1 ?s2 ?s3 ?s4 HL.out).mono ?_); (case s1 => repeat (first | exact (Kd.C_below HU.out HB4.out) | (with_reducible refine Kd.C_alloc ?_ _) | (with_reducible refine Kd.C_drewN ?_ _) | (with_reducible refine Kd.C_drew ?_))); (case s2 => exact HC.out); (case s3 => repeat (first | exact (Kd.C_below HN.out HB4.out) | (with_reducible refine Kd.C_alloc ?_ _) | (with_reducible refine Kd.C_drewN ?_ _) | (with_reducible refine Kd.C_drew ?_))); (case s4 => exact HCN.out); rintro e w5 ⟨g, rfl, hge, hAl, hD⟩; have HB5 := ak (below_step HB4.out hD); have HA := ak hAl; clear hD hge hAl; skip)
    | (go_at_call 83; (with_reducible refine (isSet_calls HA.out h12 _).mono ?_); rw [HK.out]; rintro e w6 ⟨rfl, hD⟩; obtain ⟨nd, rfl⟩ := hD)
    | (go_at_call 84; (with_reducible refine (closed_calls (S := S) (HA.out.drewN nd) HL.out HS.out).mono ?_); rintro e w7 ⟨rfl, hb⟩; have HB7 := ak (below_step (pw_below_drewN HB5.out nd) hb); clear hb))
   go_ret
   exact ⟨(by unfold madeByF; rw [if_pos ⟨HL.out, HK.out⟩]; rfl), (by repeat (first | exact HB7.out | (with_reducible first | apply below_alloc | apply pw_below_drewN | apply below_drew1)))⟩
  | false =>
   have HK := ak hk
   clear hk
   go_enter Try.func32, Try.ntmps32
   go_wp2_with (first
    | ((with_reducible refine gate_dst (N := 2) rfl ?_); refine bx_ (N := 2) (cs := #[.slice Au u.length cu, .slice An nt.length cn]) (t := 27) ?_; intro gb hg w4 hbox hb; have hc0 : w4.cell? ⟨gb, 0, none⟩ = some (.slice Au u.length cu) := (blk_cell hbox 0).trans rfl; have hc1 : w4.cell? ⟨gb, 1, none⟩ = some (.slice An nt.length cn) := (blk_cell hbox 1).trans rfl; have HB4 := ak hb; clear hb hg hbox)
    | (go_at_call 68; (with_reducible refine (told_some _ _ u _ _ nt _ ?s1 ?s2 ?s3 ?s4 HL.out).mono ?_); (case s1 => repeat (first | exact (Kd.C_below HU.out HB4.out) | (with_reducible refine Kd.C_alloc ?_ _) | (with_reducible refine Kd.C_drewN ?_ _) | (with_reducible refine Kd.C_drew ?_))); (case s2 => exact HC.out); (case s3 => repeat (first | exact (Kd.C_below HN.out HB4.out) | (with_reducible refine Kd.C_alloc ?_ _) | (with_reducible refine Kd.C_drewN ?_ _) | (with_reducible refine Kd.C_drew ?_))); (case s4 => exact HCN.out); rintro e w5 ⟨g, rfl, hge, hAl, hD⟩; have HB5 := ak (below_step HB4.out hD); have HA := ak hAl; clear hD hge hAl; skip)
    | (go_at_call 83; (with_reducible refine (isSet_calls HA.out h12 _).mono ?_); rw [HK.out]; rintro e w6 ⟨rfl, hD⟩; obtain ⟨nd, rfl⟩ := hD))
   go_ret
   exact ⟨(by unfold madeByF; rw [HK.out, if_neg (fun q => Bool.false_ne_true q.2)]; rfl), z24_0⟩
 have HL := ak hl
 clear hl
 go_enter Try.func32, Try.ntmps32
 go_wp2_with (first
  | ((with_reducible refine gate_dst (N := 2) rfl ?_); refine bx_ (N := 2) (cs := #[.slice Au u.length cu, .slice An nt.length cn]) (t := 27) ?_; intro gb hg w4 hbox hb; have hc0 : w4.cell? ⟨gb, 0, none⟩ = some (.slice Au u.length cu) := (blk_cell hbox 0).trans rfl; have hc1 : w4.cell? ⟨gb, 1, none⟩ = some (.slice An nt.length cn) := (blk_cell hbox 1).trans rfl; have HB4 := ak hb; clear hb hg hbox)
  | (go_at_call 68; (with_reducible refine (told_none _ _ u _ _ nt _ ?s1 ?s2 ?s3 ?s4 HL.out).mono ?_); (case s1 => repeat (first | exact (Kd.C_below HU.out HB4.out) | (with_reducible refine Kd.C_alloc ?_ _) | (with_reducible refine Kd.C_drewN ?_ _) | (with_reducible refine Kd.C_drew ?_))); (case s2 => exact HC.out); (case s3 => repeat (first | exact (Kd.C_below HN.out HB4.out) | (with_reducible refine Kd.C_alloc ?_ _) | (with_reducible refine Kd.C_drewN ?_ _) | (with_reducible refine Kd.C_drew ?_))); (case s4 => exact HCN.out); rintro e w5 ⟨rfl, hD⟩; have HB5 := ak (below_step HB4.out hD); clear hD)
  | (go_at_call 83; (with_reducible refine (isSet_nil _ _).mono ?_); rintro e w6 ⟨rfl, hD⟩; obtain ⟨nd, rfl⟩ := hD))
 go_ret
 exact ⟨(by unfold madeByF; rw [if_neg (fun q => HL.out q.1)]; rfl), z24_0⟩
end Go.Proofs.Ytacifhahfamipaa.P


namespace Go.Proofs.Ytacifhahfamipaa.P
open Go.RowKit Go.Proofs.YtacifhahfamipaaW.PrintWords Go.Proofs.YtacifhahfamipaaW.PrintLast Go.Proofs.YtacifhahfamipaaW.PrintMore Go.Proofs.Cl
set_option linter.unusedVariables false
theorem impl_MadeBy.calls (A0_0 : Option Addr) (c0_0 : Nat) (l0_0 : List (List Int)) (A0_1 : Option Addr) (c0_1 : Nat) (l0_1 : List Int) (a1 : Int) (r : Int) (w : World) (hr0_0 : Kd.C (Kd.slice 3 (Kd.int .i64)) w A0_0 l0_0.length l0_0) (hc0_0 : l0_0.length ≤ c0_0) (hr0_1 : Kd.C (Kd.int .i64) w A0_1 l0_1.length l0_1) (hc0_1 : l0_1.length ≤ c0_1) (h : impl_MadeBy.f l0_0 l0_1 a1 = some r) :
    Calls Try.prog 32 #[.agg #[.slice A0_0 l0_0.length c0_0, .slice A0_1 l0_1.length c0_1], .int .i64 a1] w fun e w' => e = .returned (.int .i64 r) ∧ Below w.heap.size w w' := by
  have e := Option.some.inj h
  subst e
  exact madeBy_core A0_0 c0_0 l0_0 A0_1 c0_1 l0_1 a1 w hr0_0 hc0_0 hr0_1 hc0_1
theorem impl_SubOk.calls (A0_0 : Option Addr) (c0_0 : Nat) (l0_0 : List (List Int)) (A0_1 : Option Addr) (c0_1 : Nat) (l0_1 : List Int) (a1 : Int) (r : Bool) (w : World) (hr0_0 : Kd.C (Kd.slice 3 (Kd.int .i64)) w A0_0 l0_0.length l0_0) (hc0_0 : l0_0.length ≤ c0_0) (hr0_1 : Kd.C (Kd.int .i64) w A0_1 l0_1.length l0_1) (hc0_1 : l0_1.length ≤ c0_1) (h : impl_SubOk.f l0_0 l0_1 a1 = some r) :
    Calls Try.prog 34 #[.agg #[.slice A0_0 l0_0.length c0_0, .slice A0_1 l0_1.length c0_1], .int .i64 a1] w fun e w' => e = .returned (.bool r) ∧ Below w.heap.size w w' := by
  have e := Option.some.inj h
  subst e
  exact subOk_core A0_0 c0_0 l0_0 A0_1 c0_1 l0_1 a1 w hr0_0 hc0_0 hr0_1 hc0_1
end Go.Proofs.Ytacifhahfamipaa.P

