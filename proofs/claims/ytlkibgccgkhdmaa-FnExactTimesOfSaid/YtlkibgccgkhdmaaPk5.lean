/- 16 texts of this seat joined: walks, and the laws of what they compute. -/
import Derived.Test.YtlkibgccgkhdmaaPk2
import Derived.Test.YtlkibgccgkhdmaaPk4
import Derived.Test.YtlkibgccgkhdmaaPk3
import Derived.Maps.Own
import Derived.Maps.OwnSet
import Derived.Maps.OwnOps
import Derived.Maps.Views
import Derived.Carry
import Derived.Deep.RegionWith
import Derived.Shelf.Abstract
import Derived.Lib.Hide
import Derived.Deep.AppendLies
import Derived.Deep.RegionHeldLaw
namespace Go.Proofs.Ytlkibgccgkhdmaa.P
open Go.RowKit Go.Proofs.YtlkibgccgkhdmaaW.PrintWords Go.Proofs.YtlkibgccgkhdmaaW.PrintLast Go.Proofs.YtlkibgccgkhdmaaW.PrintMore
set_option linter.unusedVariables false
set_option linter.unusedSimpArgs false
structure Res where
 At : Nat → World → Nat → Nat → Prop
 mv : ∀ {B : Nat} {W W1 : World} {b e : Nat} {ok : Nat → Prop}, At B W b e → Kept W W1 ok → (∀ k, ok k → k < b ∨ e ≤ k) → At B W1 b e
 up : ∀ {B : Nat} {W : World} {b e e' : Nat}, At B W b e → e ≤ e' → At B W b e'
namespace Res
def box (g : Nat) (cs : Array Value) (t : Nat) : Res where
 At := fun _ W b e => (b ≤ g ∧ g < e) ∧ W.heap[g]? = some (.cells cs t (0, 0))
 mv := fun h hk hn => ⟨h.1, blk_kept h.2 hk (fun q => by have := hn g q; have := h.1; omega)⟩
 up := fun h he => ⟨⟨h.1.1, Nat.lt_of_lt_of_le h.1.2 he⟩, h.2⟩
def rows (v : Value) (u : List (List Int)) : Res where
 At := fun B W b e => Kd.S (Kd.slice 3 (Kd.int .i64)) 23 W B (fun k => b ≤ k ∧ k < e) v u
 mv := fun h hk hn => Kd.S_kept h hk (fun k q r => by have := hn k r; omega)
 up := fun h he => Kd.S_mono h (fun k q => ⟨q.1, Nat.lt_of_lt_of_le q.2 he⟩)
def logic (v0 v1 : Value) (u : List (List Int)) (n : List Int) : Res where
 At := fun B W b e => Kd.S (Kd.slice 3 (Kd.int .i64)) 23 W B (fun k => (b ≤ k ∧ k < e) ∧ some k ≠ v1.ownBlock) v0 u ∧ Kd.R (Kd.int .i64) 3 W B (fun k => (b ≤ k ∧ k < e) ∧ some k = v1.ownBlock) v1 n
 mv := fun h hk hn => ⟨Kd.S_kept h.1 hk (fun k q r => by have := hn k r; have := q.1; omega), Kd.R_kept h.2 hk (fun k q r => by have := hn k r; have := q.1; omega)⟩
 up := fun h he => ⟨Kd.S_mono h.1 (fun k q => ⟨⟨q.1.1, Nat.lt_of_lt_of_le q.1.2 he⟩, q.2⟩), Kd.R_mono h.2 (fun k q => ⟨⟨q.1.1, Nat.lt_of_lt_of_le q.1.2 he⟩, q.2⟩)⟩
end Res
def LiveTo (B : Nat) (W : World) : Nat → List Res → Prop
 | e, [] => B ≤ e
 | e, r :: rs => ∃ b, b ≤ e ∧ r.At B W b e ∧ LiveTo B W b rs
namespace LiveTo
variable {B : Nat} {W W1 : World} {e e' : Nat} {r : Res} {rs post : List Res}
theorem up (h : LiveTo B W e rs) (he : e ≤ e') : LiveTo B W e' rs := by
 cases rs with
 | nil => exact Nat.le_trans h he
 | cons r rs =>
  obtain ⟨b, hb, hr, hs⟩ := h
  exact ⟨b, Nat.le_trans hb he, r.up hr he, hs⟩
theorem ge (h : LiveTo B W e rs) : B ≤ e := by
 induction rs generalizing e with
 | nil => exact h
 | cons r rs ih =>
  obtain ⟨b, hb, _, hs⟩ := h
  exact Nat.le_trans (ih hs) hb
theorem mv {ok : Nat → Prop} (h : LiveTo B W e rs) (hk : Kept W W1 ok) (hn : ∀ k, ok k → e ≤ k) : LiveTo B W1 e rs := by
 induction rs generalizing e with
 | nil => exact h
 | cons r rs ih =>
  obtain ⟨b, hb, hr, hs⟩ := h
  exact ⟨b, hb, r.mv hr hk (fun k q => .inr (hn k q)), ih hs (fun k q => Nat.le_trans hb (hn k q))⟩
theorem at_ (pre : List Res) (h : LiveTo B W e (pre ++ r :: post)) : ∃ b e1, e1 ≤ e ∧ B ≤ b ∧ r.At B W b e1 ∧ ∀ W1 r', Kept W W1 (fun k => b ≤ k ∧ k < e1) → r'.At B W1 b e1 → LiveTo B W1 e (pre ++ r' :: post) := by
 induction pre generalizing e with
 | nil =>
  obtain ⟨b, hb, hr, hs⟩ := h
  exact ⟨b, e, Nat.le_refl _, hs.ge, hr, fun W1 r' hk hr' => ⟨b, hb, hr', hs.mv hk (fun k q => q.1)⟩⟩
 | cons x pre ih =>
  obtain ⟨b0, hb, hx, hs⟩ := h
  obtain ⟨b, e1, he, hB, hr, hput⟩ := ih hs
  exact ⟨b, e1, Nat.le_trans he hb, hB, hr, fun W1 r' hk hr' => ⟨b0, hb, x.mv hx hk (fun k q => .inl (Nat.lt_of_lt_of_le q.2 he)), hput W1 r' hk hr'⟩⟩
end LiveTo
structure Live (w W : World) (rs : List Res) : Prop where
 below : Below w.heap.size w W
 its : LiveTo w.heap.size W W.heap.size rs
namespace Live
variable {w W W1 : World} {r : Res} {rs post : List Res} {g t : Nat} {cs : Array Value} {v v0 v1 : Value} {u : List (List Int)} {n : List Int} {ok : Nat → Prop}
theorem start (w : World) : Live w w [] := ⟨Below.refl _ _, Nat.le_refl _⟩
theorem mv_ (h : Live w W rs) (hb : Below W.heap.size W W1) : LiveTo w.heap.size W1 W.heap.size rs := h.its.mv (Kept.of_below hb (fun _ => False)) (fun _ q => q.elim)
theorem step (h : Live w W rs) (hb : Below W.heap.size W W1) : Live w W1 rs := ⟨below_step h.below hb, (h.mv_ hb).up hb.size⟩
theorem drewN (h : Live w W rs) (m : Nat) : Live w (W.drewN m) rs := h.step (pw_below_drewN (Below.refl _ _) m)
theorem drew (h : Live w W rs) : Live w W.drew rs := h.step (below_drew (Below.refl _ _))
theorem box (h : Live w W rs) (hb : Below W.heap.size W W1) (hg : g = W.heap.size) (hc : W1.heap[g]? = some (.cells cs t (0, 0))) : Live w W1 (.box g cs t :: rs) :=
 ⟨below_step h.below hb, W.heap.size, hb.size, ⟨⟨Nat.le_of_eq hg.symm, blk_lt hc⟩, hc⟩, h.mv_ hb⟩
theorem rows (h : Live w W rs) (hs : Kd.S (Kd.slice 3 (Kd.int .i64)) 23 W1 W.heap.size ok v u) (hb : Below W.heap.size W W1) : Live w W1 (.rows v u :: rs) :=
 ⟨below_step h.below hb, W.heap.size, hb.size, Kd.S_mono (Kd.S_lower (Kd.S_bound hs) h.its.ge) (fun k q => ⟨q.2.1, q.2.2.1⟩), h.mv_ hb⟩
theorem logic (h : Live w W rs) (hs : Kd.S (Kd.slice 3 (Kd.int .i64)) 23 W1 W.heap.size (fun k => some k ≠ v1.ownBlock) v0 u) (hr : Kd.R (Kd.int .i64) 3 W1 W.heap.size ok v1 n) (hb : Below W.heap.size W W1) : Live w W1 (.logic v0 v1 u n :: rs) :=
 ⟨below_step h.below hb, W.heap.size, hb.size, ⟨Kd.S_mono (Kd.S_lower (Kd.S_bound hs) h.its.ge) (fun k q => ⟨⟨q.2.1, q.2.2.1⟩, q.1⟩), Kd.R_mono (Kd.R_lower (Kd.R_bound (Kd.R_tight rfl hr)) h.its.ge) (fun k q => ⟨⟨q.2.1, q.2.2.1⟩, q.1⟩)⟩, h.mv_ hb⟩
theorem at_ (pre : List Res) (h : Live w W (pre ++ r :: post)) : ∃ b e, w.heap.size ≤ b ∧ e ≤ W.heap.size ∧ r.At w.heap.size W b e ∧ ∀ W1 r', Below w.heap.size w W1 → Kept W W1 (fun k => b ≤ k ∧ k < e) → r'.At w.heap.size W1 b e → Live w W1 (pre ++ r' :: post) := by
 obtain ⟨b, e, he, hb, hr, hput⟩ := h.its.at_ pre
 exact ⟨b, e, hb, he, hr, fun W1 r' h1 hk hr' => ⟨h1, (hput W1 r' hk hr').up hk.1⟩⟩
theorem put (pre : List Res) (h : Live w W (pre ++ .box g cs t :: post)) (j : Nat) (x : Value) {cs' : Array Value} (hc : cs.setIfInBounds j x = cs') : Live w (W.setCell ⟨g, j, none⟩ x) (pre ++ .box g cs' t :: post) := by
 obtain ⟨b, e, hb, he, hr, hput⟩ := h.at_ pre
 exact hput _ _ (below_set h.below (Nat.le_trans hb hr.1.1)) ((Kept.refl W _).setCell (.inl hr.1) x) ⟨hr.1, blk_put hr.2 j x hc⟩
theorem set0 {a b x : Value} (h : Live w W (.box g #[a, b] t :: post)) : Live w (W.setCell ⟨g, 0, none⟩ x) (.box g #[x, b] t :: post) := put [] h 0 x rfl
theorem set1 {a b x : Value} (h : Live w W (.box g #[a, b] t :: post)) : Live w (W.setCell ⟨g, 1, none⟩ x) (.box g #[a, x] t :: post) := put [] h 1 x rfl
theorem seti {a x : Value} (h : Live w W (.box g #[a] t :: post)) : Live w (W.setCell ⟨g, 0, none⟩ x) (.box g #[x] t :: post) := put [] h 0 x rfl
theorem cells (pre : List Res) (h : Live w W (pre ++ .box g cs t :: post)) : W.heap[g]? = some (.cells cs t (0, 0)) := by
 obtain ⟨b, e, hb, he, hr, hput⟩ := h.at_ pre
 exact hr.2
theorem cell (pre : List Res) (h : Live w W (pre ++ .box g cs t :: post)) (j : Nat) {x : Value} (hx : cs[j]? = some x) : W.cell? ⟨g, j, none⟩ = some x := (blk_cell (cells pre h) j).trans hx
theorem frozen (pre : List Res) (h : Live w W (pre ++ .box g cs t :: post)) (j : Nat) : W.frozen? ⟨g, j, none⟩ = false := blk_frozen (cells pre h) j
variable {A A1 : Option Addr} {c c1 m m1 : Nat}
theorem logicAt (pre : List Res) (h : Live w W (pre ++ .logic v0 v1 u n :: post)) : ∃ b e, (w.heap.size ≤ b ∧ e ≤ W.heap.size) ∧ Kd.S (Kd.slice 3 (Kd.int .i64)) 23 W w.heap.size (fun k => (b ≤ k ∧ k < e) ∧ some k ≠ v1.ownBlock) v0 u ∧ Kd.R (Kd.int .i64) 3 W w.heap.size (fun k => (b ≤ k ∧ k < e) ∧ some k = v1.ownBlock) v1 n ∧
    ∀ W1 u' n', Below w.heap.size w W1 → Kept W W1 (fun k => b ≤ k ∧ k < e) → Kd.S (Kd.slice 3 (Kd.int .i64)) 23 W1 w.heap.size (fun k => (b ≤ k ∧ k < e) ∧ some k ≠ v1.ownBlock) v0 u' → Kd.R (Kd.int .i64) 3 W1 w.heap.size (fun k => (b ≤ k ∧ k < e) ∧ some k = v1.ownBlock) v1 n' → Live w W1 (pre ++ .logic v0 v1 u' n' :: post) := by
  obtain ⟨b, e, hb, he, hr, hput⟩ := h.at_ pre
  exact ⟨b, e, ⟨hb, he⟩, hr.1, hr.2, fun W1 u' n' h1 hk hs ht => hput W1 (.logic v0 v1 u' n') h1 hk ⟨hs, ht⟩⟩
theorem rC_ {B : Nat} (h : Kd.S (Kd.slice 3 (Kd.int .i64)) 23 W B ok (.slice A m c) u) : Kd.C (Kd.slice 3 (Kd.int .i64)) W A m u ∧ m ≤ c := by
 obtain ⟨h1, h2, h3⟩ := Kd.S_reads' h
 exact ⟨by rw [h1]; exact h3, h2⟩
theorem iC_ {B : Nat} (h : Kd.R (Kd.int .i64) 3 W B ok (.slice A m c) n) : Kd.C (Kd.int .i64) W A m n ∧ m ≤ c := by
 obtain ⟨h1, h2, h3⟩ := Kd.R_reads' h
 exact ⟨by rw [h1]; exact h3, h2⟩
theorem logC0 (pre : List Res) (h : Live w W (pre ++ .logic (.slice A m c) v1 u n :: post)) : Kd.C (Kd.slice 3 (Kd.int .i64)) W A m u ∧ m ≤ c := by
 obtain ⟨b, e, hb, hr, ht, hput⟩ := h.logicAt pre
 exact rC_ hr
theorem logC1 (pre : List Res) (h : Live w W (pre ++ .logic v0 (.slice A m c) u n :: post)) : Kd.C (Kd.int .i64) W A m n ∧ m ≤ c := by
 obtain ⟨b, e, hb, hr, ht, hput⟩ := h.logicAt pre
 exact iC_ ht
theorem ret (h : Live w W (.logic v0 v1 u n :: rs)) : Kd.S (Kd.slice 3 (Kd.int .i64)) 23 W w.heap.size (fun k_ => some k_ ≠ v1.ownBlock) v0 u ∧ Kd.R (Kd.int .i64) 3 W w.heap.size (fun _ => True) v1 n ∧ Below w.heap.size w W := by
 obtain ⟨b, e, hb, hr, ht, hput⟩ := logicAt [] h
 exact ⟨Kd.S_mono hr (fun k q => q.2), Kd.R_mono ht (fun k q => trivial), h.below⟩
theorem came {α : Type} {d : Kd α} {xs : List α} (h : Live w W rs) (hc : d.C w A m xs) : d.C W A m xs := Kd.C_below hc h.below
end Live
theorem arm_ {P : Program} {f : FuncId} {args : Array Value} {K : Ending → World → Prop} {w W W' : World} {rs rs' : List Res} (HL : Aside0 (Live w W rs)) (h : Aside0 (Live w W' rs') → Calls P f args W' K)
    (k : Live w W rs → Live w W' rs' := by intro y0_; repeat (first | exact y0_ | (with_reducible apply Live.drewN) | (with_reducible apply Live.drew) | apply Live.set1 | apply Live.set0 | apply Live.seti)) : Calls P f args W' K := h ⟨k HL.out⟩
theorem armb_ {P : Program} {ops : Array Oper} {l : List Oper} {Q : Exit → Act → World → Prop} {a : Act} {w W W' : World} {rs rs' : List Res} (HL : Aside0 (Live w W rs)) (h : Aside0 (Live w W' rs') → wpList P ops Q l a W')
    (k : Live w W rs → Live w W' rs' := by intro y0_; repeat (first | exact y0_ | (with_reducible apply Live.drewN) | (with_reducible apply Live.drew) | apply Live.set1 | apply Live.set0 | apply Live.seti)) : wpList P ops Q l a W' := h ⟨k HL.out⟩
theorem Live.ne_ {w W : World} {g g1 t t1 : Nat} {cs cs1 : Array Value} {post : List Res} (pre : List Res) (h : Live w W (.box g cs t :: (pre ++ .box g1 cs1 t1 :: post))) : g ≠ g1 := by
 obtain ⟨b, hb, hr, hs⟩ := h.its
 obtain ⟨b1, e1, he, hB, hr1, _⟩ := hs.at_ pre
 have q1 := hr.1.1
 have q2 := hr1.1.2
 omega
theorem armc_ {P : Program} {c : Code} {Q : Exit → Act → World → Prop} {a : Act} {w W W' : World} {rs rs' : List Res} (HL : Aside0 (Live w W rs)) (h : Aside0 (Live w W' rs') → Code.wp P c Q a W')
    (k : Live w W rs → Live w W' rs' := by intro y0_; repeat (first | exact y0_ | (with_reducible apply Live.drewN) | (with_reducible apply Live.drew) | apply Live.set1 | apply Live.set0 | apply Live.seti)) : Code.wp P c Q a W' := h ⟨k HL.out⟩
end Go.Proofs.Ytlkibgccgkhdmaa.P

namespace Go.Proofs.Ytlkibgccgkhdmaa.P
open Go.RowKit Go.Proofs.YtlkibgccgkhdmaaW.PrintWords Go.Proofs.YtlkibgccgkhdmaaW.PrintLast Go.Proofs.YtlkibgccgkhdmaaW.PrintMore Go.Proofs.Cl
set_option linter.unusedVariables false
set_option linter.unusedSimpArgs false
set_option maxHeartbeats 4000000 in
set_option maxRecDepth 100000 in
theorem marks_calls {w0 w : World} (ok : Nat → Prop) (A : Option Addr) (c : Nat) (u : List (List Int)) (a : Int) (h0 : 0 ≤ a) (hm : a + Q.tot u ≤ 9223372036854775807) (hl : u.length ≤ 1048576)
    (hB : Below w0.heap.size w0 w) (ho : Kd.S (Kd.slice 3 (Kd.int .i64)) 23 w w0.heap.size ok (.slice A u.length c) u) :
    Calls Try.prog 65 #[.slice A u.length c, .int .i64 a] w fun e w' => e = .returned (.int .i64 (a + Q.tot u)) ∧ Kd.S (Kd.slice 3 (Kd.int .i64)) 23 w' w0.heap.size ok (.slice A u.length c) (Q.mk2 u a) ∧ Below w0.heap.size w0 w' ∧ Kept w w' ok := by
  have HO := Aside0.mk ho
  have HB := Aside0.mk hB
  have HM := Aside0.mk hm
  have H0 := Aside0.mk h0
  clear ho hB hm h0
  go_enter Try.func65, Try.ntmps65
  go_wp2
  go_loopw [1, 5] (fun v1 v5 wr => ∃ i : Nat, i ≤ u.length ∧ v1 = .int .i64 (a + Q.tot (u.take i)) ∧ v5 = .int .i64 i ∧ Aside0 (Kd.S (Kd.slice 3 (Kd.int .i64)) 23 wr w0.heap.size ok (.slice A u.length c) (Q.cur u a i)) ∧ Aside0 (Below w0.heap.size w0 wr) ∧ Aside0 (Kept w wr ok)) (fun _ v5 _ => u.length - (intOf v5).toNat)
  case atStart => exact ⟨0, Nat.zero_le _, by simp [Q.tot], rfl, ⟨by rw [Q.cur_zero]; exact Kd.S_step HO.out (fun k _ _ => rfl)⟩, ⟨(by repeat (first | (with_reducible first | exact HB.out | apply below_alloc | apply pw_below_drewN | apply below_drew1) | exact HB.out))⟩, ⟨Kept.refl _ _⟩⟩
  case round =>
    obtain ⟨i, hi, rfl, rfl, HS, HB1, HK⟩ := hrel
    by_cases hlt : i < u.length
    · have hcl := Q.cur_len u a hi
      obtain ⟨ad, A1, c1, eA, _, _, _⟩ := at_L1 (Kd.S_reads' HS.out).2.2 (i : Int) (by omega) (by rw [hcl]; omega)
      clear hcl
      subst eA
      obtain ⟨g, eg⟩ := Kd.R_head (Kd.S_R HS.out)
      subst eg
      obtain ⟨oki, cl, hcl, hMM, hcc, hoki, hH⟩ := Kd.S_lend HS.out ([] : List Int) (i : Int) (by omega) (by omega)
      obtain ⟨v, ev, hR⟩ := hMM
      subst ev
      have e1 : (Q.cur u a i).getD (i : Int).toNat [] = u[i] := Q.cur_at u a hlt
      rw [e1] at hR
      clear e1
      obtain ⟨A2, c2, e2⟩ := Kd.R_slice hR
      subst e2
      have hcell : wr.cell? ⟨g, i, none⟩ = some (.slice A2 u[i].length c2) := by
        have q := hcc 0 _ rfl
        simpa [Kd.slice] using q
      have HH := Aside0.mk hH
      have HR := Aside0.mk hR
      have e3 := Q.tot_take u hlt
      have e4 := Q.tot_take_le u (i + 1)
      have hm := HM.out
      have h0 := H0.out
      obtain ⟨km, hkm⟩ := Ev.rounds (Q.markIntS_ev u[i] (a + Q.tot (u.take i)) (by omega) (by omega))
      rw [show a + (Q.tot (u.take i) : Int) + (u[i].length : Nat) = a + (Q.tot (u.take (i + 1)) : Nat) by omega] at hkm
      have HKM := Aside0.mk hkm
      have HI := Aside0.mk hlt
      clear hcc hoki hH hR hkm e3 e4 hm h0 hcl
      go_wp2_with (go_at_call 26; (with_reducible refine (laws_markIntS.calls km oki _ u[i] _ _ _ w0 _ (by repeat (first | (with_reducible first | exact HB1.out | apply below_alloc | apply pw_below_drewN | apply below_drew1) | exact HB1.out)) (xR HR.out) HKM.out).mono ?_); rintro e w2 ⟨rfl, hr, hb, hk⟩; have HR2 := Aside0.mk hr; have HB2 := Aside0.mk hb; have HK2 := Aside0.mk hk; have HH2 := Aside0.mk (Kd.H_kept (by repeat (first | exact HH.out | apply Kd.H_drewN | apply Kd.H_drew)) hk (fun k _ hn hs => hn hs)); have HKK := Aside0.mk (Kept.then_ (by repeat (first | exact HK.out | apply Kept.drewN | apply Kept.drew)) hk (fun k hs => .inl (HH.out.1 k hs))); clear hr hb hk HH HK)
      go_roundw
      case rel =>
        refine ⟨i + 1, by omega, rfl, by go_num, ⟨?_⟩, ⟨(by repeat (first | (with_reducible first | exact HB2.out | apply below_alloc | apply pw_below_drewN | apply below_drew1) | exact HB2.out))⟩, ⟨by repeat (first | exact HKK.out | apply Kept.drewN | apply Kept.drew)⟩⟩
        have q := Kd.H_back HH2.out (okp := fun k => some k = (Value.slice A2 u[i].length c2).ownBlock) (x' := Q.mk1 u[i].length (a + Q.tot (u.take i))) ⟨_, rfl, Kd.R_tight rfl HR2.out⟩ (fun k hk => HR.out.1 k hk.symm)
        rw [Int.toNat_natCast, Q.cur_set u a HI.out] at q
        exact xS q
      case measure => simp [intOf]; omega
    · have e : i = u.length := by omega
      subst e
      go_wp2
      go_ret
      refine ⟨by rw [List.take_length]; rfl, ?_, (by repeat (first | (with_reducible first | exact HB1.out | apply below_alloc | apply pw_below_drewN | apply below_drew1) | exact HB1.out)), by repeat (first | exact HK.out | apply Kept.drewN | apply Kept.drew)⟩
      have q := HS.out
      rw [Q.cur_full] at q
      exact xS q
theorem mark1_calls {w0 w : World} (ok : Nat → Prop) (A : Option Addr) (c : Nat) (n : List Int) (a : Int) (h0 : 0 ≤ a) (hm : a + n.length ≤ 9223372036854775807)
    (hB : Below w0.heap.size w0 w) (ho : Kd.R (Kd.int .i64) 3 w w0.heap.size ok (.slice A n.length c) n) :
    Calls Try.prog 26 #[.slice A n.length c, .int .i64 a] w fun e w' => e = .returned (.int .i64 (a + n.length)) ∧ Kd.R (Kd.int .i64) 3 w' w0.heap.size ok (.slice A n.length c) (Q.mk1 n.length a) ∧ Below w0.heap.size w0 w' ∧ Kept w w' ok := by
  obtain ⟨km, hkm⟩ := Ev.rounds (Q.markIntS_ev n a h0 hm)
  refine (laws_markIntS.calls km ok _ n a _ _ w0 w hB ho hkm).mono ?_
  rintro e w' ⟨rfl, hr, hb, hk⟩
  exact ⟨rfl, Kd.R_mono (Kd.R_tight rfl hr) (fun k hk => ho.1 k hk.symm), hb, hk⟩
set_option maxHeartbeats 4000000 in
set_option maxRecDepth 100000 in
theorem markL_calls {w0 w : World} (ok : Nat → Prop) (A : Option Addr) (c : Nat) (u : List (List Int)) (B : Option Addr) (cc : Nat) (n : List Int) (a : Int) (h0 : 0 ≤ a) (hm : a + Q.tot u + n.length ≤ 9223372036854775807) (hl : u.length ≤ 1048576) (hlt : ∀ k, ok k → k < w.heap.size)
    (hB : Below w0.heap.size w0 w) (hs : Kd.S (Kd.slice 3 (Kd.int .i64)) 23 w w0.heap.size (fun k => ok k ∧ some k ≠ (Value.slice B n.length cc).ownBlock) (.slice A u.length c) u)
    (ht : Kd.R (Kd.int .i64) 3 w w0.heap.size (fun k => ok k ∧ some k = (Value.slice B n.length cc).ownBlock) (.slice B n.length cc) n) :
    Calls Try.prog 25 #[.agg #[.slice A u.length c, .slice B n.length cc], .int .i64 a] w fun e w' => e = .returned (.int .i64 (a + Q.tot u + n.length)) ∧ Kd.S (Kd.slice 3 (Kd.int .i64)) 23 w' w0.heap.size (fun k => ok k ∧ some k ≠ (Value.slice B n.length cc).ownBlock) (.slice A u.length c) (Q.mk2 u a) ∧
      Kd.R (Kd.int .i64) 3 w' w0.heap.size (fun k => ok k ∧ some k = (Value.slice B n.length cc).ownBlock) (.slice B n.length cc) (Q.mk1 n.length (a + Q.tot u)) ∧ Below w0.heap.size w0 w' ∧ Kept w w' ok := by
  have HS := Aside0.mk hs
  have HT := Aside0.mk ht
  have HB := Aside0.mk hB
  have HLT := Aside0.mk hlt
  have H1 := Aside0.mk (show a + Q.tot u ≤ 9223372036854775807 by omega)
  have H2 := Aside0.mk (show 0 ≤ a + Q.tot u by omega)
  have H3 := Aside0.mk (show a + Q.tot u + n.length ≤ 9223372036854775807 from hm)
  have H0 := Aside0.mk h0
  have s0 := Aside0.mk True.intro
  clear hs ht hB hlt hm h0
  go_enter Try.func25, Try.ntmps25
  go_wp2_with (first
    | (clear s0; (with_reducible refine gate_dst (N := 2) rfl ?_); refine bx_ (N := 2) (cs := #[.slice A u.length c, .slice B n.length cc]) (t := 29) ?_; intro g hg w1 hbox hb; have HS1 := Aside0.mk (Kd.S_below HS.out hb); have HT1 := Aside0.mk (Kd.R_below HT.out hb); have HB1 := Aside0.mk (below_step HB.out hb); have HX := Aside0.mk hbox; have HG := Aside0.mk (Nat.le_of_eq hg.symm); have HK := Aside0.mk (Kept.of_below hb ok); clear HS HT HB hg hb hbox; have hc0 : w1.cell? ⟨g, 0, none⟩ = some (.slice A u.length c) := (blk_cell HX.out 0).trans rfl; have hc1 : w1.cell? ⟨g, 1, none⟩ = some (.slice B n.length cc) := (blk_cell HX.out 1).trans rfl; have s1 := Aside0.mk True.intro)
    | (clear s1; go_at_call 65; (with_reducible refine (marks_calls (w0 := w0) (fun k => ok k ∧ some k ≠ (Value.slice B n.length cc).ownBlock) A c u a H0.out H1.out hl (by repeat (first | (with_reducible first | exact HB1.out | apply below_alloc | apply pw_below_drewN | apply below_drew1) | exact HB1.out)) (xS HS1.out)).mono ?_); rintro e w2 ⟨rfl, hs2, hb2, hk2⟩; have HS2 := Aside0.mk hs2; have HB2 := Aside0.mk hb2; have HT2 := Aside0.mk (Kd.R_kept (xR HT1.out) hk2 (fun k (q : ok k ∧ some k = (Value.slice B n.length cc).ownBlock) r => r.2 q.2)); have HX2 := Aside0.mk (blk_kept (xb HX.out) hk2 (fun q => Nat.lt_irrefl _ (Nat.lt_of_lt_of_le (HLT.out g q.1) HG.out))); have HK2 := Aside0.mk (Kept.then_ (by repeat (first | exact HK.out | apply Kept.drewN | apply Kept.drew)) hk2 (fun k q => .inl q.1)); clear HS1 HT1 HB1 HX HK hs2 hb2 hk2; have hd1 : w2.cell? ⟨g, 1, none⟩ = some (.slice B n.length cc) := (blk_cell HX2.out 1).trans rfl; have s2 := Aside0.mk True.intro)
    | (clear s2; go_at_call 26; (with_reducible refine (mark1_calls (w0 := w0) (fun k => ok k ∧ some k = (Value.slice B n.length cc).ownBlock) B cc n (a + Q.tot u) H2.out H3.out (by repeat (first | (with_reducible first | exact HB2.out | apply below_alloc | apply pw_below_drewN | apply below_drew1) | exact HB2.out)) (xR HT2.out)).mono ?_); rintro e w3 ⟨rfl, hs2, hb2, hk2⟩; have HT3 := Aside0.mk hs2; have HB3 := Aside0.mk hb2; have HS3 := Aside0.mk (Kd.S_kept (xS HS2.out) hk2 (fun k (q : ok k ∧ some k ≠ (Value.slice B n.length cc).ownBlock) r => q.2 r.2)); have HK3 := Aside0.mk (Kept.then_ (by repeat (first | exact HK2.out | apply Kept.drewN | apply Kept.drew)) hk2 (fun k q => .inl q.1)); clear HS2 HT2 HB2 HK2 hs2 hb2 hk2; have s3 := Aside0.mk True.intro))
  go_ret
  exact ⟨rfl, xS HS3.out, xR HT3.out, (by repeat (first | (with_reducible first | exact HB3.out | apply below_alloc | apply pw_below_drewN | apply below_drew1) | exact HB3.out)), by repeat (first | exact HK3.out | apply Kept.drewN | apply Kept.drew)⟩
theorem heldL_calls {w : World} (A : Option Addr) (c : Nat) (u : List (List Int)) (B : Option Addr) (cc m : Nat) (a : Int) (h0 : 0 ≤ a) (hm : a + Q.tot u + m ≤ 9223372036854775807) (hl : u.length ≤ 1048576) (hr : Kd.C (Kd.slice 3 (Kd.int .i64)) w A u.length (Q.mk2 u a)) (hc : u.length ≤ c) (hs : Kd.C (Kd.int .i64) w B m (Q.mk1 m (a + Q.tot u))) (hd : m ≤ cc) :
    Calls Try.prog 36 #[.agg #[.slice A u.length c, .slice B m cc], .int .i64 a] w fun e w' => e = .returned (.int .i64 (a + Q.tot u + m)) ∧ Below w.heap.size w w' := by
  obtain ⟨k, hk⟩ := Ev.rounds (Q.heldLogic_ev u m a h0 hm (by omega))
  have q := laws_heldLogic.calls k A c (Q.mk2 u a) B cc (Q.mk1 m (a + Q.tot u)) a (a + Q.tot u + m) w
  rw [Q.mk2_len, Q.mk1_len] at q
  exact q hr hc hs hd hk
end Go.Proofs.Ytlkibgccgkhdmaa.P

namespace Go.Proofs.Ytlkibgccgkhdmaa.P
open Go.RowKit Go.Proofs.YtlkibgccgkhdmaaW.PrintWords Go.Proofs.YtlkibgccgkhdmaaW.PrintLast Go.Proofs.YtlkibgccgkhdmaaW.PrintMore
set_option linter.unusedVariables false
set_option linter.unusedSimpArgs false
theorem key_lit (x : Int) : WideAt.IsKeyLit (.int .i64 x) := by unfold WideAt.IsKeyLit; exact True.intro
structure MapIs (l : List Int) (k : Nat) (D : DataW Unit) : Prop where
 tidy : Maps.Tidy D
 at_ : ∀ x, D.atKey (.int .i64 x) (.lit (.int .i64 0)) = .lit (.int .i64 (lastP l k x))
 has_ : ∀ x, Maps.has D (.int .i64 x) = inP l k x
 size_ : Maps.size D = szP l k
theorem MapIs.none (l : List Int) : MapIs l 0 (.map []) := ⟨Maps.tidy_empty, fun _ => rfl, fun _ => rfl, rfl⟩
theorem MapIs.step {l : List Int} {k : Nat} {D : DataW Unit} (h : MapIs l k D) : MapIs l (k + 1) (D.put (.int .i64 (l.getD k 0)) (.lit (.int .i64 k))) := by
 refine ⟨h.tidy.put (key_lit _) _, fun x => ?_, fun x => ?_, ?_⟩
 ·unfold lastP
  by_cases q : x = l.getD k 0
  ·subst q
   rw [if_pos rfl]
   exact Maps.atKey_put_same h.tidy.isMap (key_lit _) _ _
  ·rw [if_neg q, Maps.atKey_put_other (fun e => q (by injection e)) _ _]
   exact h.at_ x
 ·unfold inP
  by_cases q : x = l.getD k 0
  ·subst q
   rw [if_pos rfl]
   exact Maps.has_put_same h.tidy.isMap (key_lit _) _
  ·rw [if_neg q, Maps.has_put_other (fun e => q (by injection e)) _]
   exact h.has_ x
 ·rw [Maps.size_put h.tidy, h.has_, h.size_]
  rfl
def MapAt (w : World) (g : Nat) (l : List Int) (k : Nat) : Prop := ∃ D : DataW Unit, w.ownsMap Try.prog 3 (plainElem Try.prog 3) g k D ∧ MapIs l k D
theorem MapAt.lt {w : World} {g : Nat} {l : List Int} {k : Nat} (h : MapAt w g l k) : g < w.heap.size := by obtain ⟨D, h1, h2⟩ := h; exact h1.lt
theorem MapAt.of {w w1 : World} {g : Nat} {l : List Int} {k : Nat} (h : MapAt w g l k) (he : w1.heap[g]? = w.heap[g]?) : MapAt w1 g l k := by
 obtain ⟨D, ⟨es, clock, hb, F, hs, hD⟩, h2⟩ := h
 exact ⟨D, ⟨es, clock, he.trans hb, F, hs, hD⟩, h2⟩
theorem MapAt.below {w w1 : World} {g : Nat} {l : List Int} {k : Nat} (h : MapAt w g l k) (hb : Below w.heap.size w w1) : MapAt w1 g l k := h.of (hb.block g h.lt)
theorem MapAt.len {w : World} {g : Nat} {l : List Int} {k : Nat} (h : MapAt w g l k) (ty : TypeId) : (Builtin.len_ #[65] ty #[.map (some g)]).run Try.prog w = .ok (.int .i64 (szP l k)) w := by
 obtain ⟨D, h1, h2⟩ := h
 rw [← h2.size_]
 exact h1.len Try.underlying65 ty
namespace Res
def map (g : Nat) (l : List Int) (k : Nat) : Res where
 At := fun _ W b e => (b ≤ g ∧ g < e) ∧ MapAt W g l k
 mv := fun h hk hn => ⟨h.1, h.2.of (hk.2 g h.2.lt (fun q => by have := hn g q; have := h.1; omega))⟩
 up := fun h he => ⟨⟨h.1.1, Nat.lt_of_lt_of_le h.1.2 he⟩, h.2⟩
end Res
namespace Live
variable {w W W1 : World} {rs post : List Res} {g t k : Nat} {l : List Int}
theorem low {cs : Array Value} (pre : List Res) (h : Live w W (pre ++ .box g cs t :: post)) : g < W.heap.size := blk_lt (Live.cells pre h)
theorem high {cs : Array Value} (pre : List Res) (h : Live w W (pre ++ .box g cs t :: post)) : w.heap.size ≤ g := by
 obtain ⟨b, e, hb, he, hr, hput⟩ := h.at_ pre
 have := hr.1
 omega
end Live
def Ins (w W : World) (rs : List Res) : Option Res → Prop
 | none => Live w W rs
 | some r => ∃ pre post, pre ++ post = rs ∧ Live w W (pre ++ r :: post)
namespace Ins
variable {w W W1 : World} {r : Res} {rs : List Res} {b : Option Res} {g t : Nat} {cs cs' : Array Value} {v v0 v1 : Value} {u : List (List Int)} {n : List Int} {ok : Nat → Prop} {A : Option Addr} {m c : Nat}
theorem has (h : Ins w W rs b) (hr : r ∈ rs) : ∃ pre post, Live w W (pre ++ r :: post) := by
 cases b with
 | none =>
  obtain ⟨p, q, e⟩ := List.append_of_mem hr
  refine ⟨p, q, ?_⟩
  rw [← e]
  exact h
 | some x =>
  obtain ⟨p, q, e, hl⟩ := h
  have hm : r ∈ p ++ x :: q := by
   rw [← e] at hr
   rcases List.mem_append.1 hr with k | k
   ·exact List.mem_append.2 (.inl k)
   ·exact List.mem_append.2 (.inr (List.mem_cons_of_mem _ k))
  obtain ⟨p2, q2, e2⟩ := List.append_of_mem hm
  refine ⟨p2, q2, ?_⟩
  rw [← e2]
  exact hl
theorem below (h : Ins w W rs b) : Below w.heap.size w W := by
 cases b with
 | none => exact Live.below h
 | some x => obtain ⟨p, q, e, hl⟩ := h; exact hl.below
theorem blk (h : Ins w W rs b) (hr : Res.box g cs t ∈ rs) : W.heap[g]? = some (.cells cs t (0, 0)) := by
 obtain ⟨p, q, hl⟩ := h.has hr
 exact Live.cells p hl
theorem cell (h : Ins w W rs b) (hr : Res.box g cs t ∈ rs) (j : Nat) {x : Value} (hx : cs[j]? = some x) : W.cell? ⟨g, j, none⟩ = some x := by
 obtain ⟨p, q, hl⟩ := h.has hr
 exact Live.cell p hl j hx
theorem log0 (h : Ins w W rs b) (hr : Res.logic (.slice A m c) v1 u n ∈ rs) : Kd.C (Kd.slice 3 (Kd.int .i64)) W A m u ∧ m ≤ c := by
 obtain ⟨p, q, hl⟩ := h.has hr
 exact Live.logC0 p hl
theorem log1 (h : Ins w W rs b) (hr : Res.logic v0 (.slice A m c) u n ∈ rs) : Kd.C (Kd.int .i64) W A m n ∧ m ≤ c := by
 obtain ⟨p, q, hl⟩ := h.has hr
 exact Live.logC1 p hl
theorem logic (h : Ins w W rs b) (hs : Kd.S (Kd.slice 3 (Kd.int .i64)) 23 W1 W.heap.size (fun k => some k ≠ v1.ownBlock) v0 u) (hr : Kd.R (Kd.int .i64) 3 W1 W.heap.size ok v1 n) (hb : Below W.heap.size W W1) : Ins w W1 (.logic v0 v1 u n :: rs) b := by
 cases b with
 | none => exact Live.logic h hs hr hb
 | some x =>
  obtain ⟨p, q, e, hl⟩ := h
  exact ⟨.logic v0 v1 u n :: p, q, by rw [← e]; rfl, Live.logic hl hs hr hb⟩
theorem new (h : Ins w W rs none) (cs : Array Value) (t : Nat) : Ins w (W.alloc (.cells cs t (0, 0))) rs (some (.box W.heap.size cs t)) :=
 ⟨[], rs, rfl, Live.box h (below_alloc (Below.refl _ _) _) rfl (blk_new _ _)⟩
theorem newblk (h : Ins w W rs (some (.box g cs t))) : W.heap[g]? = some (.cells cs t (0, 0)) := by
 obtain ⟨p, q, e, hl⟩ := h
 exact Live.cells p hl
theorem put (h : Ins w W rs (some (.box g cs t))) (j : Nat) (x : Value) (hc : cs.setIfInBounds j x = cs') : Ins w (W.setCell ⟨g, j, none⟩ x) rs (some (.box g cs' t)) := by
 obtain ⟨p, q, e, hl⟩ := h
 exact ⟨p, q, e, Live.put p hl j x hc⟩
end Ins
structure MadeSt (w W : World) (cu cn vu vn : Value) (u : List (List Int)) (nt : List Int) : Prop where
 below : Below w.heap.size w W
 res : W.heap[w.heap.size]? = some (.cells #[.slice none 0 0, .slice none 0 0] 29 (0, 0))
 box : W.heap[w.heap.size + 1]? = some (.cells #[cu, cn] 29 (0, 0))
 A : Kd.S (Kd.slice 3 (Kd.int .i64)) 23 W w.heap.size (fun k => some k ≠ vn.ownBlock) vu u
 B : Kd.R (Kd.int .i64) 3 W w.heap.size (fun _ => True) vn nt
namespace MadeSt
variable {w W w1 : World} {cu cn vu vn : Value} {u : List (List Int)} {nt : List Int}
theorem up (G : MadeSt w W cu cn vu vn u nt) (h : Below W.heap.size W w1) : MadeSt w w1 cu cn vu vn u nt :=
 ⟨below_step G.below h, blk_below G.res h, blk_below G.box h, Kd.S_below G.A h, Kd.R_below G.B h⟩
theorem alloc (G : MadeSt w W cu cn vu vn u nt) (x : Obj) : MadeSt w (W.alloc x) cu cn vu vn u nt := G.up (below_alloc (Below.refl _ _) x)
theorem drew (G : MadeSt w W cu cn vu vn u nt) : MadeSt w W.drew cu cn vu vn u nt := G.up (below_drew (Below.refl _ _))
theorem drewN (G : MadeSt w W cu cn vu vn u nt) (n : Nat) : MadeSt w (W.drewN n) cu cn vu vn u nt := G.up (pw_below_drewN (Below.refl _ _) n)
theorem ge (G : MadeSt w W cu cn vu vn u nt) : w.heap.size ≤ w.heap.size + 1 := Nat.le_succ _
theorem setU (G : MadeSt w W cu cn vu vn u nt) (x : Value) : MadeSt w (W.setCell ⟨w.heap.size + 1, 0, none⟩ x) x cn vu vn u nt :=
 ⟨below_set G.below (Nat.le_succ _), blk_far G.res (by show w.heap.size ≠ w.heap.size + 1; omega) _, blk_put G.box 0 _ rfl, Kd.S_set G.A G.box (by decide) 0 _, Kd.R_set G.B G.box (by decide) 0 _⟩
theorem setN (G : MadeSt w W cu cn vu vn u nt) (x : Value) : MadeSt w (W.setCell ⟨w.heap.size + 1, 1, none⟩ x) cu x vu vn u nt :=
 ⟨below_set G.below (Nat.le_succ _), blk_far G.res (by show w.heap.size ≠ w.heap.size + 1; omega) _, blk_put G.box 1 _ rfl, Kd.S_set G.A G.box (by decide) 1 _, Kd.R_set G.B G.box (by decide) 1 _⟩
theorem grownU {v1 : Value} {u1 : List (List Int)} (G : MadeSt w W cu cn vu vn u nt) (hS : Kd.S (Kd.slice 3 (Kd.int .i64)) 23 w1 w.heap.size (fun k => some k ≠ vn.ownBlock) v1 u1) (hB : Below w.heap.size w w1)
 (hg : W.grownBy w1 vu.ownBlock) (hat : v1.ownBlock = vu.ownBlock ∨ ∃ b, v1.ownBlock = some b ∧ W.heap.size ≤ b) : MadeSt w w1 cu cn v1 vn u1 nt :=
 ⟨hB, blk_grown G.res hg (Kd.S_ne G.A G.res (by decide)), blk_grown G.box hg (Kd.S_ne G.A G.box (by decide)), hS,
  Kd.R_mono (Kd.R_after (ok := fun _ => True) (Kd.R_apart' G.B (Kd.S_typed G.A) (by decide)) hg hat) (fun _ _ => trivial)⟩
theorem grownN {v1 : Value} {n1 : List Int} (G : MadeSt w W cu cn vu vn u nt) (hR : Kd.R (Kd.int .i64) 3 w1 w.heap.size (fun _ => True) v1 n1) (hB : Below w.heap.size w w1)
 (hg : W.grownBy w1 vn.ownBlock) (hat : v1.ownBlock = vn.ownBlock ∨ ∃ b, v1.ownBlock = some b ∧ W.heap.size ≤ b) : MadeSt w w1 cu cn vu v1 u n1 :=
 ⟨hB, blk_grown G.res hg (Kd.R_ne G.B G.res (by decide)), blk_grown G.box hg (Kd.R_ne G.B G.box (by decide)),
  Kd.S_mono (Kd.S_after (ok := fun _ => True) (Kd.S_mono G.A (fun _ hk => ⟨trivial, hk⟩)) hg hat) (fun _ hk => hk.2), hR⟩
theorem cell0 (G : MadeSt w W cu cn vu vn u nt) : W.cell? ⟨w.heap.size + 1, 0, none⟩ = some cu := (blk_cell G.box 0).trans rfl
theorem cell1 (G : MadeSt w W cu cn vu vn u nt) : W.cell? ⟨w.heap.size + 1, 1, none⟩ = some cn := (blk_cell G.box 1).trans rfl
end MadeSt
def rowB (n : Nat) (U : Nat → Nat → Bool) (a b : Nat) : List Int := ((List.range b).map fun c => if U a c = true then 1 else 0) ++ List.replicate (n - b) 0
theorem rowB_len (n : Nat) (U : Nat → Nat → Bool) (a b : Nat) (h : b ≤ n) : (rowB n U a b).length = n := by simp [rowB]; omega
theorem rowB_zero (n : Nat) (U : Nat → Nat → Bool) (a : Nat) : rowB n U a 0 = List.replicate n 0 := by simp [rowB]
theorem rowB_full (n : Nat) (U : Nat → Nat → Bool) (a : Nat) : rowB n U a n = (List.range n).map fun c => if U a c = true then 1 else 0 := by simp [rowB]
theorem rowB_one (n : Nat) (U : Nat → Nat → Bool) (a b : Nat) (h : b < n) (hU : U a b = true) : (rowB n U a b).set b 1 = rowB n U a (b + 1) := by
 unfold rowB
 rw [List.set_append, if_neg (by simp), List.length_map, List.length_range, Nat.sub_self, show n - b = (n - (b + 1)) + 1 by omega, List.replicate_succ, List.set_cons_zero, List.range_succ, List.map_append, List.append_assoc]
 simp [hU]
theorem rowB_no (n : Nat) (U : Nat → Nat → Bool) (a b : Nat) (h : b < n) (hU : U a b = false) : rowB n U a b = rowB n U a (b + 1) := by
 unfold rowB
 rw [show n - b = (n - (b + 1)) + 1 by omega, List.replicate_succ, List.range_succ, List.map_append, List.append_assoc]
 simp [hU]
def rowsB (n : Nat) (U : Nat → Nat → Bool) (i : Nat) : List (List Int) := (List.range i).map fun a => (List.range n).map fun b => if U a b = true then 1 else 0
theorem rowsB_succ (n : Nat) (U : Nat → Nat → Bool) (i : Nat) : rowsB n U (i + 1) = rowsB n U i ++ [(List.range n).map fun b => if U i b = true then 1 else 0] := by simp [rowsB, List.range_succ]
theorem rowsB_len (n : Nat) (U : Nat → Nat → Bool) (i : Nat) : (rowsB n U i).length = i := by simp [rowsB]
theorem madeN_succ (N : Nat → Int) (i : Nat) : madeN (i + 1) N = madeN i N ++ [N i] := by simp [madeN, List.range_succ]
theorem madeN_len (N : Nat → Int) (i : Nat) : (madeN i N).length = i := by simp [madeN]
set_option maxHeartbeats 8000000 in
set_option maxRecDepth 100000 in
theorem made_calls {w : World} (n : Nat) (hn : n ≤ 12) (k1 k2 : Nat) (cap1 cap2 : Array Value) (hk1 : Enters Try.prog k1) (hk2 : Enters Try.prog k2) (U : Nat → Nat → Bool) (N : Nat → Int)
 (h1 : ∀ w' (a b : Nat), Below w.heap.size w w' → a < n → b < n → Calls Try.prog k1 (#[.int .i64 a, .int .i64 b] ++ cap1) w' fun e w2 => e = .returned (.bool (U a b)) ∧ Drawn0 w' w2)
 (h2 : ∀ w' (a : Nat), Below w.heap.size w w' → a < n → Calls Try.prog k2 (#[.int .i64 a] ++ cap2) w' fun e w2 => e = .returned (.int .i64 (N a)) ∧ Drawn0 w' w2) :
 Calls Try.prog 74 #[.int .i64 n, .func (.func k1) #[] cap1, .func (.func k2) #[] cap2] w fun e w' => ∃ v0_ v1_ : Value, e = .returned (.agg #[v0_, v1_]) ∧ Kd.S (Kd.slice 3 (Kd.int .i64)) 23 w' w.heap.size (fun k_ => some k_ ≠ (v1_ : Value).ownBlock) v0_ (madeU n U) ∧ Kd.R (Kd.int .i64) 3 w' w.heap.size (fun _ => True) v1_ (madeN n N) ∧ Below w.heap.size w w' := by
 have eg1 : ∀ (args : Array Value) (w : World), (callFunc k1 args).run Try.prog w = .ok (.enter k1 args) w := hk1
 have eg2 : ∀ (args : Array Value) (w : World), (callFunc k2 args).run Try.prog w = .ok (.enter k2 args) w := hk2
 have hul := Try.underlying29
 have H1 := ak h1
 have H2 := ak h2
 clear h1 h2 hk1 hk2
 go_enter Try.func74, Try.ntmps74
 go_wp2
 go_loopw [12] (fun a0 wr => ∃ (i : Nat) (vu vn : Value), i ≤ n ∧ a0 = .int .i64 i ∧ Aside0 (MadeSt w wr vu vn vu vn (rowsB n U i) (madeN i N))) (fun a0 _ => n - (intOf a0).toNat)
 case atStart => exact ⟨0, .slice none 0 0, .slice none 0 0, Nat.zero_le _, rfl, ⟨⟨below_alloc (below_alloc (Below.refl _ _) _) _, blk_alloc (blk_new w _) _, (by have := blk_new (w.alloc (.cells #[.slice none 0 0, .slice none 0 0] 29)) (.cells #[.slice none 0 0, .slice none 0 0] 29); rw [show (w.alloc (.cells #[.slice none 0 0, .slice none 0 0] 29)).heap.size = w.heap.size + 1 by simp] at this; exact this), Kd.S_nil _ _ _ _ _, Kd.R_nil _ _ _ _ _⟩⟩⟩
 case round =>
  obtain ⟨i, vu, vn, hi, rfl, G⟩ := hrel
  by_cases hlt : i < n
  ·
   obtain ⟨W1, hW1⟩ : ∃ W1, W1 = wr := ⟨_, rfl⟩
   subst hW1
   go_wp2_with ((with_reducible refine gate_dst (N := 16) rfl ?_); refine Kd.R_make (Kd.int .i64) _ 3 rfl (N := 16) rfl 23 _ _ rfl (n : Int) rfl rfl Try.underlying23 (.int .i64 0) 8 info3 rfl (by decide) (by omega) 0 (ok := fun _ => True) (okp := fun _ => True) rfl (fun _ hk => hk) trivial (by omega) (by omega) (Below.refl _ _) (Nat.le_refl _) ?_; intro v9 w4 ho hb hg_ hnew_; clear hg_ hnew_; rw [Int.toNat_natCast] at ho; have HO := ak ho; have HB := ak hb; clear ho hb)
   go_loopw [18] (fun a1 wr => ∃ (b : Nat), b ≤ n ∧ a1 = .int .i64 b ∧ Aside0 (Kd.R (Kd.int .i64) 3 wr W1.heap.size (fun _ => True) v9 (rowB n U i b)) ∧ Aside0 (Below W1.heap.size W1 wr)) (fun a1 _ => n - (intOf a1).toNat)
   case atStart => exact ⟨0, Nat.zero_le _, rfl, ⟨(by rw [rowB_zero]; exact HO.out)⟩, HB⟩
   case round =>
    clear HO HB
    obtain ⟨b, hb, rfl, HO, HB⟩ := hrel
    by_cases hbt : b < n
    ·
     cases hU : U i b with
     | true =>
      have HU := ak hU
      clear hU
      have HL := ak (rowB_len n U i b hb)
      obtain ⟨g9, c9, rfl, hg9, hl9, cl9, hc9⟩ := Kd.R_form HO.out (by rw [HL.out]; omega)
      obtain ⟨hx9, hf9⟩ := Kd.R_celln 0 HO.out (b : Int) (by omega) (by rw [HL.out]; omega)
      rw [Int.toNat_natCast] at hx9 hf9
      generalize rdOf 0 (rowB n U i b) (b : Int) = x9 at hx9
      rw [HL.out] at HO ⊢
      have a2 := ak hg9
      clear hc9 cl9 hg9 hl9
      go_wp2_with (go_at_fn k1; (with_reducible refine (H1.out _ i b (below_step G.out.below HB.out) hlt hbt).mono ?_); rw [HU.out]; rintro e w5 ⟨rfl, hD⟩; obtain ⟨nd, rfl⟩ := hD)
      go_roundw
      case rel => exact ⟨b + 1, (by omega), (by go_num), ⟨(by have := (Kd.R_putg (Kd.R_drewN HO.out nd) (b : Int) 1).1; rw [Int.toNat_natCast, rowB_one n U i b hbt HU.out] at this; exact this)⟩, ⟨below_set (pw_below_drewN HB.out nd) a2.out⟩⟩
      case measure => simp [intOf]; omega
     | false =>
      have HU := ak hU
      clear hU
      go_wp2_with (go_at_fn k1; (with_reducible refine (H1.out _ i b (below_step G.out.below HB.out) hlt hbt).mono ?_); rw [HU.out]; rintro e w5 ⟨rfl, hD⟩; obtain ⟨nd, rfl⟩ := hD)
      go_roundw
      case rel => exact ⟨b + 1, (by omega), (by go_num), ⟨(by rw [← rowB_no n U i b hbt HU.out]; exact Kd.R_drewN HO.out nd)⟩, ⟨pw_below_drewN HB.out nd⟩⟩
      case measure => simp [intOf]; omega
    have eb : n = b := by omega
    subst eb
    rw [rowB_full] at HO
    have GA := ak (G.out.up HB.out)
    have hq0 := GA.out.cell0
    obtain ⟨Ax, cx, ex⟩ := Kd.R_slice HO.out
    rw [List.length_map, List.length_range] at ex
    subst ex
    generalize hrow : ((List.range n).map fun c => if U i c = true then (1 : Int) else 0) = row at HO
    have HROW := ak hrow
    clear hrow
    have HR := HO
    clear HO
    go_wp2_with (first
     | ((with_reducible refine gate_builtin (b := .append) (xs := #[.tmp 30, .tmp 32]) rfl ?_); at_builtin; refine Kd.S_append (Kd.slice 3 (Kd.int .i64)) (w0 := w) w.heap.size rfl (.tmp 30) (.tmp 32) 22 23 (.slice none 0 0) 24 rfl Try.underlying22 info23 rfl (by decide) (by omega) vu (rowsB n U i) row [.slice Ax n cx] (fun k => some k ≠ vn.ownBlock) (fun k => some k = (Value.slice Ax n cx).ownBlock) rfl rfl ?aP ?aK ?aF ?aO ?aB ?aS ?aL ?_; (case aP => exact Kd.M_row (Kd.R_mono (Kd.R_tight rfl (Kd.R_lower HR.out (below_size G.out.below))) (fun _ h_ => h_))); (case aK => exact fun k hk => ⟨fun e => by have h1 := Kd.R_base HR.out k hk.symm; have h2 := Kd.R_lt G.out.B k e.symm; omega, fun e => by have h1 := Kd.R_base HR.out k hk.symm; have h2 := Kd.S_lt G.out.A k e.symm; omega⟩); (case aF => exact fun k hk e => by have h2 := Kd.R_lt GA.out.B k e.symm; omega); (case aO => exact Kd.S_mono (Kd.S_below (Kd.S_bound G.out.A) HB.out) (fun k hk => ⟨hk.1, fun e => by have h1 := Kd.R_base HR.out k e.symm; have h2 := hk.2.2.1; omega⟩)); (case aB => exact GA.out.below); (case aS => exact below_size GA.out.below); (case aL => rw [rowsB_len]; omega); intro v1 w4 ho hb_ hg hat; have GB := ak (GA.out.grownU ho hb_ hg hat); rw [← HROW.out, ← rowsB_succ] at GB; clear ho hb_ hg hat GA hq0; obtain ⟨A4, c4, e4⟩ := Kd.S_slice GB.out.A; subst e4; have hq1 := GB.out.cell0; have hz1 := blk_frozen GB.out.box 0))
    have GC := ak (GB.out.setU (.slice A4 (rowsB n U (i + 1)).length c4))
    clear GB hq1 hz1 HR HROW G
    generalize w4.setCell ⟨w.heap.size + 1, 0, none⟩ (.slice A4 (rowsB n U (i + 1)).length c4) = w5 at GC ⊢
    have hs1 := GC.out.cell1
    refine start_ (n := 9) (S := fun w' => w'.cell? ⟨w.heap.size + 1, 1, none⟩ = some vn) (ds := [8]) (bA 9 0) (by kernel_rfl) rfl rfl hs1 (fun hHeld => ?_)
    have GD := ak GC.out.drew
    clear GC hs1
    generalize w5.drew = wd at GD hHeld ⊢
    refine pu_ (i := 0) (N := some 35) (bA 9 1) ?_
    refine tk_ (i := 1) (N := some 36) (bA 9 3) ?_
    refine pu_ (i := 2) (N := some 37) (bA 9 7) ?_
    refine pu_ (i := 3) (N := some 38) (bA 9 15) ?_
    refine one_ (i := 4) (N := some 39) (bA 9 31) rfl rfl (by kernel_rfl) (by decide) (fun K hK => ?_)
    go_simp
    go_wp2_with (go_at_fn k2; (with_reducible refine (H2.out _ i GD.out.below hlt).mono ?_); rintro e w' ⟨rfl, hD⟩; obtain ⟨nd, rfl⟩ := hD)
    refine hK.out _ _ hHeld (fun hHeld => ?_)
    clear hK K
    have GE := ak (GD.out.drewN nd)
    clear GD
    generalize wd.drewN nd = we at GE hHeld ⊢
    refine one_ (i := 5) (N := some 40) (bA 9 63) rfl rfl (by kernel_rfl) (by decide) (fun K hK => ?_)
    refine value_ (w1 := ?_) (v := ?_) (by rfl) rfl ?_ ?_
    rotate_left 2
    ·
     go_simp
     constructor
     ·
      rfl
     rfl
    refine hK.out _ _ (GE.out.alloc _).cell1 (fun hHeld => ?_)
    clear hK K
    refine no_ (N := some 40) ?_
    refine one_ (i := 6) (N := some 41) (bA 9 127) rfl rfl (by kernel_rfl) (by decide) (fun K hK => ?_)
    refine Kd.R_append_step (Kd.int .i64) (w0 := w) w.heap.size (by rfl) (.tmp 36) (.tmp 40) 23 3 (.int .i64 0) 8 rfl Try.underlying23 info3 rfl (by decide) (by omega) vn (madeN i N) (N i) [.int .i64 (N i)] (fun _ => True) (fun _ => False) rfl rfl ?aP (fun _ hk => hk.elim) ?aF ?aO ?aB ?aS ?aL ?_
    case aP => exact rfl
    case aF => exact (fun _ _ => trivial)
    case aO => exact GE.out.B
    case aB => exact GE.out.below
    case aS => exact below_size GE.out.below
    case aL => rw [madeN_len]; omega
    intro v2 w7 ho hb hg hat
    have GF := ak (GE.out.grownN ho hb hg hat)
    clear GE ho hb hg hat
    rw [← madeN_succ] at GF
    obtain ⟨A6, c6, e6⟩ := Kd.R_slice GF.out.B
    subst e6
    refine hK.out _ _ GF.out.cell1 (fun hHeld => ?_)
    clear hK K
    refine no_ (N := some 41) ?_
    refine pu_ (i := 7) (N := some 42) (bA 9 255) ?_
    have hs2 := GF.out.cell1
    have hz2 := blk_frozen GF.out.box 1
    refine last_ (i := 8) (N := none) (bA 9 511) rfl rfl (by kernel_rfl) (by decide) (fun K hK => ?_)
    refine skip_ (w1 := ?_) (by rfl) rfl ?_ ?_
    rotate_left
    ·
     go_simp
     rfl
    refine hK.out _ _ ?_
    clear hK K
    refine done_ (by kernel_rfl) ?_
    go_wp2
    go_roundw
    case rel => exact ⟨i + 1, _, _, (by omega), (by go_num), ⟨GF.out.setN _⟩⟩
    case measure => simp [intOf]; omega
  have ei : n = i := by omega
  subst ei
  have hq0 := G.out.cell0
  have hq1 := G.out.cell1
  have hz0 := blk_frozen G.out.res 0
  have hz1 := blk_frozen G.out.res 1
  have hr0 : wr.cell? ⟨w.heap.size, 0, none⟩ = some (.slice none 0 0) := (blk_cell G.out.res 0).trans rfl
  have hr1 : wr.cell? ⟨w.heap.size, 1, none⟩ = some (.slice none 0 0) := (blk_cell G.out.res 1).trans rfl
  obtain ⟨Au, cu, eu⟩ := Kd.S_slice G.out.A
  obtain ⟨An, cn, en⟩ := Kd.R_slice G.out.B
  subst eu
  subst en
  go_wp2
  refine bodyPost_ret (results_cell_row rfl _ _ w.heap.size 29 #[.slice Au (rowsB n U n).length cu, .slice An (madeN n N).length cn] (0, 0) _ rfl (blk_put (cs := #[.slice Au (rowsB n U n).length cu, .slice none 0 0]) (blk_put (cs := #[.slice none 0 0, .slice none 0 0]) G.out.res 0 _ rfl) 1 _ rfl) hul rfl (by kernel_rfl)) rfl ?_
  exact ⟨_, _, rfl, Kd.S_set (Kd.S_set G.out.A G.out.res (by decide) 0 _) (blk_put G.out.res 0 _ rfl) (by decide) 1 _, Kd.R_set (Kd.R_set G.out.B G.out.res (by decide) 0 _) (blk_put G.out.res 0 _ rfl) (by decide) 1 _, below_set (below_set G.out.below (Nat.le_refl _)) (Nat.le_refl _)⟩
theorem made_int {w : World} (n : Nat) (m : Int) (hm : m = n) (hn : n ≤ 12) (k1 k2 : Nat) (cap1 cap2 : Array Value) (hk1 : Enters Try.prog k1) (hk2 : Enters Try.prog k2) (U : Nat → Nat → Bool) (N : Nat → Int)
 (h1 : ∀ w' (a b : Nat), Below w.heap.size w w' → a < n → b < n → Calls Try.prog k1 (#[.int .i64 a, .int .i64 b] ++ cap1) w' fun e w2 => e = .returned (.bool (U a b)) ∧ Drawn0 w' w2)
 (h2 : ∀ w' (a : Nat), Below w.heap.size w w' → a < n → Calls Try.prog k2 (#[.int .i64 a] ++ cap2) w' fun e w2 => e = .returned (.int .i64 (N a)) ∧ Drawn0 w' w2) :
 Calls Try.prog 74 #[.int .i64 m, .func (.func k1) #[] cap1, .func (.func k2) #[] cap2] w fun e w' => ∃ v0_ v1_ : Value, e = .returned (.agg #[v0_, v1_]) ∧ Kd.S (Kd.slice 3 (Kd.int .i64)) 23 w' w.heap.size (fun k_ => some k_ ≠ (v1_ : Value).ownBlock) v0_ (madeU n U) ∧ Kd.R (Kd.int .i64) 3 w' w.heap.size (fun _ => True) v1_ (madeN n N) ∧ Below w.heap.size w w' := by
 subst hm
 exact made_calls n hn k1 k2 cap1 cap2 hk1 hk2 U N h1 h2

def AlgAt (w : World) (g : Nat) (u a o : List (List Int)) (nt : List Int) (no yes : Int) : Prop :=
 ∃ Au cu Aa ca Ao co An cn, w.heap[g]? = some (.cells #[.slice Au u.length cu, .slice Aa a.length ca, .slice Ao o.length co, .slice An nt.length cn, .int .i64 no, .int .i64 yes] 55 (0, 0)) ∧
  Kd.C (Kd.slice 3 (Kd.int .i64)) w Au u.length u ∧ u.length ≤ cu ∧ Kd.C (Kd.slice 3 (Kd.int .i64)) w Aa a.length a ∧ a.length ≤ ca ∧ Kd.C (Kd.slice 3 (Kd.int .i64)) w Ao o.length o ∧ o.length ≤ co ∧ Kd.C (Kd.int .i64) w An nt.length nt ∧ nt.length ≤ cn
theorem AlgAt.drewN {w : World} {g : Nat} {u a o : List (List Int)} {nt : List Int} {no yes : Int} (h : AlgAt w g u a o nt no yes) (n : Nat) : AlgAt (w.drewN n) g u a o nt no yes := by
 obtain ⟨Au, cu, Aa, ca, Ao, co, An, cn, h0, h1, h2, h3, h4, h5, h6, h7, h8⟩ := h
 have hb : Below w.heap.size w (w.drewN n) := pw_below_drewN (Below.refl _ _) n
 exact ⟨Au, cu, Aa, ca, Ao, co, An, cn, h0, Kd.C_below h1 hb, h2, Kd.C_below h3 hb, h4, Kd.C_below h5 hb, h6, Kd.C_below h7 hb, h8⟩
theorem AlgAt.below {w w1 : World} {g : Nat} {u a o : List (List Int)} {nt : List Int} {no yes : Int} (h : AlgAt w g u a o nt no yes) (hb : Below w.heap.size w w1) : AlgAt w1 g u a o nt no yes := by
 obtain ⟨Au, cu, Aa, ca, Ao, co, An, cn, h0, h1, h2, h3, h4, h5, h6, h7, h8⟩ := h
 have hg : g < w.heap.size := (Array.getElem?_eq_some_iff.1 h0).1
 exact ⟨Au, cu, Aa, ca, Ao, co, An, cn, (hb.block g hg).trans h0, Kd.C_below h1 hb, h2, Kd.C_below h3 hb, h4, Kd.C_below h5 hb, h6, Kd.C_below h7 hb, h8⟩
end Go.Proofs.Ytlkibgccgkhdmaa.P

namespace Go.Proofs.Ytlkibgccgkhdmaa.P
open Go.RowKit Go.Proofs.YtlkibgccgkhdmaaW.PrintWords Go.Proofs.YtlkibgccgkhdmaaW.PrintLast Go.Proofs.YtlkibgccgkhdmaaW.PrintMore Go.Proofs.Cl
set_option linter.unusedVariables false
set_option linter.unusedSimpArgs false
set_option maxHeartbeats 4000000 in
set_option maxRecDepth 100000 in
theorem told_nolat (Au : Option Addr) (cu : Nat) (u : List (List Int)) (An : Option Addr) (cn : Nat) (nt : List Int) (w : World)
    (hu : Kd.C (Kd.slice 3 (Kd.int .i64)) w Au u.length u) (hcu : u.length ≤ cu) (h : ¬ Lat u) :
    Calls Try.prog 53 #[.agg #[.slice Au u.length cu, .slice An nt.length cn]] w fun e w' => e = .returned (.pointer none) ∧ Below w.heap.size w w' := by
  have HU := Aside0.mk hu
  have HC := Aside0.mk hcu
  clear hu hcu
  have HB := Aside0.mk (Below.refl w.heap.size w)
  obtain ⟨kk, hk⟩ := Q.impl_lat_ev u
  have HL : Aside0 (impl_LatticeOk.f kk u = some false) := ⟨by rw [← decide_eq_false h]; exact hk kk (Nat.le_refl _)⟩
  clear hk
  go_enter Try.func53, Try.ntmps53
  go_wp2_with (first
    | ((with_reducible refine gate_dst (N := 1) rfl ?_); refine box_event ?hg (N := 1) ?hd (cs := #[.slice Au u.length cu, .slice An nt.length cn]) (t := 29) ?hr ?_; (case hd => rfl); (case hg => rfl); (case hr => first | (go_simp; done) | (go_simp; rfl)); intro gb hg w4 hbox hb; have hc0 : w4.cell? ⟨gb, 0, none⟩ = some (.slice Au u.length cu) := (blk_cell hbox 0).trans rfl; have hc1 : w4.cell? ⟨gb, 1, none⟩ = some (.slice An nt.length cn) := (blk_cell hbox 1).trans rfl; have HB4 := Aside0.mk hb; have HX := Aside0.mk hbox; have HG := Aside0.mk hg; clear hb hg hbox)
    | (go_at_call 92; refine (impl_LatticeOk.calls kk _ _ u false _ (by repeat (first | exact (Kd.C_below HU.out HB4.out) | (with_reducible refine Kd.C_alloc ?_ _) | (with_reducible refine Kd.C_drewN ?_ _) | (with_reducible refine Kd.C_drew ?_))) HC.out HL.out).mono ?_; rintro e w2 ⟨rfl, hD⟩; have HB5 := Aside0.mk (below_step HB4.out hD); clear hD))
  go_ret
  exact ⟨rfl, (by repeat (first | (with_reducible first | exact HB5.out | apply below_alloc | apply pw_below_drewN | apply below_drew1) | exact HB5.out))⟩

structure Grow (w W : World) (gb g : Nat) (LU LN ca co va vo vv : Value) (tu a o : List (List Int)) (no yes : Int) : Prop where
 below : Below w.heap.size w W
 ne : gb ≠ g
 geb : w.heap.size ≤ gb
 geg : w.heap.size ≤ g
 box : W.heap[gb]? = some (.cells #[LU, LN] 29 (0, 0))
 alg : W.heap[g]? = some (.cells #[LU, ca, co, LN, .int .i64 no, .int .i64 yes] 55 (0, 0))
 A : Kd.R (Kd.slice 3 (Kd.int .i64)) 23 W w.heap.size (fun k => some k ≠ vo.ownBlock) va a
 O : Kd.R (Kd.slice 3 (Kd.int .i64)) 23 W w.heap.size (fun k => some k ≠ va.ownBlock) vo o
 V : Kd.R (Kd.slice 3 (Kd.int .i64)) 23 W w.heap.size (fun k => some k ≠ va.ownBlock ∧ some k ≠ vo.ownBlock) vv tu

namespace Grow
variable {w W w1 : World} {gb g : Nat} {LU LN ca co va vo vv : Value} {tu a o : List (List Int)} {no yes : Int}
theorem up (G : Grow w W gb g LU LN ca co va vo vv tu a o no yes) (h : Below W.heap.size W w1) : Grow w w1 gb g LU LN ca co va vo vv tu a o no yes :=
 ⟨below_step G.below h, G.ne, G.geb, G.geg, blk_below G.box h, blk_below G.alg h, Kd.R_below G.A h, Kd.R_below G.O h, Kd.R_below G.V h⟩
theorem alloc (G : Grow w W gb g LU LN ca co va vo vv tu a o no yes) (x : Obj) : Grow w (W.alloc x) gb g LU LN ca co va vo vv tu a o no yes := G.up (below_alloc (Below.refl _ _) x)
theorem drewN (G : Grow w W gb g LU LN ca co va vo vv tu a o no yes) (n : Nat) : Grow w (W.drewN n) gb g LU LN ca co va vo vv tu a o no yes := G.up (pw_below_drewN (Below.refl _ _) n)
theorem drew (G : Grow w W gb g LU LN ca co va vo vv tu a o no yes) : Grow w W.drew gb g LU LN ca co va vo vv tu a o no yes := G.up (below_drew (Below.refl _ _))
theorem neA (G : Grow w W gb g LU LN ca co va vo vv tu a o no yes) : some g ≠ va.ownBlock := Kd.R_ne G.A G.alg (by decide)
theorem neO (G : Grow w W gb g LU LN ca co va vo vv tu a o no yes) : some g ≠ vo.ownBlock := Kd.R_ne G.O G.alg (by decide)
theorem setA (G : Grow w W gb g LU LN ca co va vo vv tu a o no yes) : Grow w (W.setCell ⟨g, 1, none⟩ va) gb g LU LN va co va vo vv tu a o no yes :=
 ⟨below_set G.below G.geg, G.ne, G.geb, G.geg, blk_far G.box G.ne _, blk_put G.alg 1 _ rfl, Kd.R_set G.A G.alg (by decide) 1 _, Kd.R_set G.O G.alg (by decide) 1 _, Kd.R_set G.V G.alg (by decide) 1 _⟩
theorem setO (G : Grow w W gb g LU LN ca co va vo vv tu a o no yes) : Grow w (W.setCell ⟨g, 2, none⟩ vo) gb g LU LN ca vo va vo vv tu a o no yes :=
 ⟨below_set G.below G.geg, G.ne, G.geb, G.geg, blk_far G.box G.ne _, blk_put G.alg 2 _ rfl, Kd.R_set G.A G.alg (by decide) 2 _, Kd.R_set G.O G.alg (by decide) 2 _, Kd.R_set G.V G.alg (by decide) 2 _⟩
theorem setNo (G : Grow w W gb g LU LN ca co va vo vv tu a o no yes) (x : Int) : Grow w (W.setCell ⟨g, 4, none⟩ (.int .i64 x)) gb g LU LN ca co va vo vv tu a o x yes :=
 ⟨below_set G.below G.geg, G.ne, G.geb, G.geg, blk_far G.box G.ne _, blk_put G.alg 4 _ rfl, Kd.R_set G.A G.alg (by decide) 4 _, Kd.R_set G.O G.alg (by decide) 4 _, Kd.R_set G.V G.alg (by decide) 4 _⟩
theorem setYes (G : Grow w W gb g LU LN ca co va vo vv tu a o no yes) (x : Int) : Grow w (W.setCell ⟨g, 5, none⟩ (.int .i64 x)) gb g LU LN ca co va vo vv tu a o no x :=
 ⟨below_set G.below G.geg, G.ne, G.geb, G.geg, blk_far G.box G.ne _, blk_put G.alg 5 _ rfl, Kd.R_set G.A G.alg (by decide) 5 _, Kd.R_set G.O G.alg (by decide) 5 _, Kd.R_set G.V G.alg (by decide) 5 _⟩
theorem grownA {va1 : Value} {row : List Int} (G : Grow w W gb g LU LN ca co va vo vv tu a o no yes)
    (hR : Kd.R (Kd.slice 3 (Kd.int .i64)) 23 w1 w.heap.size (fun k => some k ≠ vo.ownBlock) va1 (a ++ [row])) (hB : Below w.heap.size w w1)
    (hg : W.grownBy w1 va.ownBlock) (hat : va1.ownBlock = va.ownBlock ∨ ∃ b, va1.ownBlock = some b ∧ W.heap.size ≤ b) : Grow w w1 gb g LU LN ca co va1 vo vv tu (a ++ [row]) o no yes :=
  ⟨hB, G.ne, G.geb, G.geg, blk_grown G.box hg (Kd.R_ne G.A G.box (by decide)), blk_grown G.alg hg G.neA, hR,
    Kd.R_mono (Kd.R_after (ok := fun _ => True) (Kd.R_mono G.O (fun _ hk => ⟨trivial, hk⟩)) hg hat) (fun _ hk => hk.2),
    Kd.R_mono (Kd.R_after (ok := fun k => some k ≠ vo.ownBlock) (Kd.R_mono G.V (fun _ hk => ⟨hk.2, hk.1⟩)) hg hat) (fun _ hk => ⟨hk.2, hk.1⟩)⟩
theorem grownO {vo1 : Value} {row : List Int} (G : Grow w W gb g LU LN ca co va vo vv tu a o no yes)
    (hR : Kd.R (Kd.slice 3 (Kd.int .i64)) 23 w1 w.heap.size (fun k => some k ≠ va.ownBlock) vo1 (o ++ [row])) (hB : Below w.heap.size w w1)
    (hg : W.grownBy w1 vo.ownBlock) (hat : vo1.ownBlock = vo.ownBlock ∨ ∃ b, vo1.ownBlock = some b ∧ W.heap.size ≤ b) : Grow w w1 gb g LU LN ca co va vo1 vv tu a (o ++ [row]) no yes :=
  ⟨hB, G.ne, G.geb, G.geg, blk_grown G.box hg (Kd.R_ne G.O G.box (by decide)), blk_grown G.alg hg G.neO,
    Kd.R_mono (Kd.R_after (ok := fun _ => True) (Kd.R_mono G.A (fun _ hk => ⟨trivial, hk⟩)) hg hat) (fun _ hk => hk.2), hR,
    Kd.R_after (ok := fun k => some k ≠ va.ownBlock) G.V hg hat⟩
end Grow

theorem step_append_row {P : Program} {ops : Array Oper} {op : Oper} {act : Act} {K : Act → World → Prop} {Q : Exit → Act → World → Prop} {E : Prop} {w W : World} {v x0 : Value} {a : List (List Int)} {row : List Int} {B b' : Nat} {ok okx : Nat → Prop}
    (hgd : op.guard = none) (s x : Operand) (ho : op.op = .call { callee := .builtin .append, args := #[s, x], argTypes := #[22, 22] })
    (ht : P.underlying 22 = some (.slice 23)) (hinfo : (P.info? 23).map (fun i => (i.zero, i.size, i.bytes)) = some (some (.slice none 0 0), 1, 24))
    (hA : Kd.R (Kd.slice 3 (Kd.int .i64)) 23 W w.heap.size ok v a) (hfresh : ∀ k, W.heap.size ≤ k → ok k)
    (hX : Kd.R (Kd.int .i64) 3 W b' okx x0 row) (hb' : w.heap.size ≤ b') (hok : ∀ k, x0.ownBlock = some k → ok k)
    (hB : W.heap[B]? = some (.cells #[x0] 23 (0, 0))) (hbel : Below w.heap.size w W) (hl : a.length ≤ 1000000)
    (hs : act.eval s = v) (hx : act.eval x = .slice (some ⟨B, 0, none⟩) 1 1)
    (h : ∀ v1 w1, Kd.R (Kd.slice 3 (Kd.int .i64)) 23 w1 w.heap.size ok v1 (a ++ [row]) → Below w.heap.size w w1 → W.grownBy w1 v.ownBlock → (v1.ownBlock = v.ownBlock ∨ ∃ b, v1.ownBlock = some b ∧ W.heap.size ≤ b) → K (act.put op.dst v1) w1) :
    if Region.wanted op (yielded ops act.tmps) = true then Oper.wp P op act W K Q else E := by
  obtain ⟨h0, inner, hown, hr⟩ := hA
  obtain ⟨i0, hi, hzz⟩ := Option.map_eq_some_iff.1 hinfo
  simp only [Prod.mk.injEq] at hzz
  obtain ⟨hz0, hz1, hz2⟩ := hzz
  have hM : (Kd.slice 3 (Kd.int .i64)).M W w.heap.size (fun k => some k = x0.ownBlock) row [x0] := by
    obtain ⟨Ao, co, eo⟩ := Kd.R_slice hX
    subst eo
    exact Kd.M_row (Kd.R_lower (Kd.R_mono (Kd.R_tight rfl hX) (fun _ h_ => h_)) hb')
  have hxt : ∀ k, x0.ownBlock = some k → some k ≠ v.ownBlock := by
    intro k hk hv
    obtain ⟨c1, e1⟩ := Kd.R_typed hX k hk
    obtain ⟨c2, e2⟩ := own_typed hown k hv.symm
    rw [e1] at e2
    simp at e2
  refine step_append_lies W hgd s x _ ho w.heap.size 23 i0 (.slice none 0 0) 1 24 ht hi hz0 hz1 hz2 rfl (by decide) v a.length inner hs hown ⟨B, 0, none⟩ 1 1 [x0] hx rfl
    (by simpa using World.news_of_block (cs := #[x0]) hB) (by intro y hy; simp only [List.mem_singleton] at hy; subst hy; exact (Kd.R_val hX).2) (by decide) (by simp only [maxLen]; omega) (by omega) (below_size hbel) W.heap.size rfl ?_
  intro g cap w1 h2 h3 h4 h5
  have hat : (Value.slice (some ⟨g, 0, none⟩) (a.length + 1) cap).ownBlock = v.ownBlock ∨ ∃ b, (Value.slice (some ⟨g, 0, none⟩) (a.length + 1) cap).ownBlock = some b ∧ W.heap.size ≤ b := by
    rcases h4 with h4 | h4
    · exact .inl (by rw [h4]; rfl)
    · exact .inr ⟨g, rfl, by omega⟩
  exact h _ w1 (Kd.R_appended h0 hr hM (fun k hk => ⟨hok k hk.symm, hxt k hk.symm⟩) hfresh h2 h3 hat) (hbel.grown h3 (below_size hbel) (own_base hown)) h3 hat
theorem blk_new' (w : World) (o : Obj) (n : Nat) (h : n = w.heap.size) : (w.alloc o).heap[n]? = some o := by subst h; exact blk_new w o
theorem row_grown {W w1 : World} {va x0 : Value} {a : List (List Int)} {row : List Int} {base b : Nat} {ok okx : Nat → Prop} (hA : Kd.R (Kd.slice 3 (Kd.int .i64)) 23 W base ok va a) (hg : W.grownBy w1 va.ownBlock) (hX : Kd.R (Kd.int .i64) 3 W b okx x0 row) : Kd.R (Kd.int .i64) 3 w1 b okx x0 row := by
 refine Kd.R_mono (Kd.R_grown (Kd.R_mono (Kd.R_tight rfl hX) (fun _ h => h)) hg ?_) (fun k hk => hX.1 k hk.symm)
 intro k hk hv
 obtain ⟨c1, e1⟩ := Kd.R_typed hX k hk.symm
 obtain ⟨c2, e2⟩ := Kd.R_typed hA k hv.symm
 rw [e1] at e2
 simp at e2
theorem own_apart {W : World} {va x0 : Value} {a : List (List Int)} {row : List Int} {base b : Nat} {ok okx : Nat → Prop} (hA : Kd.R (Kd.slice 3 (Kd.int .i64)) 23 W base ok va a) (hX : Kd.R (Kd.int .i64) 3 W b okx x0 row) : ∀ k, x0.ownBlock = some k → some k ≠ va.ownBlock := by
 intro k hk hv
 obtain ⟨c1, e1⟩ := Kd.R_typed hX k hk
 obtain ⟨c2, e2⟩ := Kd.R_typed hA k hv.symm
 rw [e1] at e2
 simp at e2
section
variable {P : Program} {ops : Array Oper} {op : Oper} {act : Act} {K : Act → World → Prop} {Q : Exit → Act → World → Prop} {E : Prop} {w W0 W : World} {gb g : Nat} {LU LN ca co va vo vv x0 : Value} {tu a o : List (List Int)} {no yes : Int} {row : List Int} {B b' : Nat} {okx : Nat → Prop}
theorem step_appA (G : Grow w W0 gb g LU LN ca co va vo vv tu a o no yes) (hX : Kd.R (Kd.int .i64) 3 W0 b' okx x0 row) (hb' : w.heap.size ≤ b') (hl : a.length ≤ 1000000)
    (hgd : op.guard = none) (s x : Operand) (ho : op.op = .call { callee := .builtin .append, args := #[s, x], argTypes := #[22, 22] })
    (ht : P.underlying 22 = some (.slice 23)) (hinfo : (P.info? 23).map (fun i => (i.zero, i.size, i.bytes)) = some (some (.slice none 0 0), 1, 24))
    (hs : act.eval s = va) (hx : act.eval x = .slice (some ⟨B, 0, none⟩) 1 1) (hW : Below W0.heap.size W0 W) (hB : W.heap[B]? = some (.cells #[x0] 23 (0, 0)))
    (h : ∀ v1 w1, Grow w w1 gb g LU LN ca co v1 vo vv tu (a ++ [row]) o no yes → (∀ b ok x row, Kd.R (Kd.int .i64) 3 W0 b ok x row → Kd.R (Kd.int .i64) 3 w1 b ok x row) → (∀ k ob, W0.heap.size ≤ k → W.heap[k]? = some ob → w1.heap[k]? = some ob) → K (act.put op.dst v1) w1) :
    if Region.wanted op (yielded ops act.tmps) = true then Oper.wp P op act W K Q else E := by
  have G1 := G.up hW
  have hX1 := Kd.R_below hX hW
  refine step_append_row hgd s x ho ht hinfo G1.A (fun k hk => Kd.fresh' (Kd.R_lt G1.O) k hk) hX1 hb' (own_apart G1.O hX1) hB G1.below hl hs hx ?_
  intro v1 w1 h1 h2 h3 h4
  exact h v1 w1 (G1.grownA h1 h2 h3 h4) (fun b ok x row k => row_grown G1.A h3 (Kd.R_below k hW)) (fun k ob hk hh => blk_grown hh h3 (fun e => absurd (Kd.R_lt G.A k e.symm) (by omega)))
theorem step_appO (G : Grow w W0 gb g LU LN ca co va vo vv tu a o no yes) (hX : Kd.R (Kd.int .i64) 3 W0 b' okx x0 row) (hb' : w.heap.size ≤ b') (hl : o.length ≤ 1000000)
    (hgd : op.guard = none) (s x : Operand) (ho : op.op = .call { callee := .builtin .append, args := #[s, x], argTypes := #[22, 22] })
    (ht : P.underlying 22 = some (.slice 23)) (hinfo : (P.info? 23).map (fun i => (i.zero, i.size, i.bytes)) = some (some (.slice none 0 0), 1, 24))
    (hs : act.eval s = vo) (hx : act.eval x = .slice (some ⟨B, 0, none⟩) 1 1) (hW : Below W0.heap.size W0 W) (hB : W.heap[B]? = some (.cells #[x0] 23 (0, 0)))
    (h : ∀ v1 w1, Grow w w1 gb g LU LN ca co va v1 vv tu a (o ++ [row]) no yes → K (act.put op.dst v1) w1) :
    if Region.wanted op (yielded ops act.tmps) = true then Oper.wp P op act W K Q else E := by
  have G1 := G.up hW
  have hX1 := Kd.R_below hX hW
  refine step_append_row hgd s x ho ht hinfo G1.O (fun k hk => Kd.fresh' (Kd.R_lt G1.A) k hk) hX1 hb' (own_apart G1.A hX1) hB G1.below hl hs hx ?_
  intro v1 w1 h1 h2 h3 h4
  exact h v1 w1 (G1.grownO h1 h2 h3 h4)
end
theorem Ev.get {α : Type} {f : Nat → Option α} {r : α} (h : Ev f r) : ∃ k, f k = some r := by
 obtain ⟨k, hk⟩ := h
 exact ⟨k, hk k (Nat.le_refl _)⟩
theorem zq_10 {p : Prop} (h : p := by repeat (first | (with_reducible first | exact HBj.out | apply below_alloc | apply pw_below_drewN | apply below_drew1) | exact HBj.out)) : p := h
theorem zq_9 {p : Prop} (h : p := by repeat (first | (with_reducible first | exact HBk.out | apply below_alloc | apply pw_below_drewN | apply below_drew1) | exact HBk.out)) : p := h
theorem zq_8 {p : Prop} (h : p := by first | exact blk_new' _ _ _ (by simp) | exact HKA.out _ _ (by simp) zq_4) : p := h
theorem zq_7 {p : Prop} (h : p := by kernel_rfl) : p := h
theorem zq_6 {p : Prop} (h : p := by simp only [List.length_map, List.length_range]; omega) : p := h
theorem zq_5 {p : Prop} (h : p := by rw [List.range_succ, List.map_append, List.map_append]; have q := GCO.out.setA.setO; simp only [List.length_append, List.length_map, List.length_range, List.length_singleton] at q; exact q) : p := h
theorem zq_4 {p : Prop} (h : p := by first | exact blk_new' _ _ _ (by simp) | exact blk_alloc (blk_new' _ _ _ (by simp)) _) : p := h
theorem zq_3 {p : Prop} (h : p := by (with_reducible repeat (first | refine blk_drewN ?_ _ | refine blk_drew ?_ | refine blk_alloc ?_ _)); exact GCO.out.alg) : p := h
theorem zq_2 {p : Prop} (h : p := by repeat (first | exact Below.refl _ _ | (with_reducible first | apply below_alloc | apply pw_below_drewN | apply below_drew1))) : p := h
theorem zq_1 {p : Prop} (h : p := by (with_reducible repeat (first | refine blk_drewN ?_ _ | refine blk_drew ?_ | refine blk_alloc ?_ _)); exact GC0.out.alg) : p := h
theorem zq_0 {p : Prop} (h : p := by (with_reducible repeat (first | refine blk_drewN ?_ _ | refine blk_drew ?_ | refine blk_alloc ?_ _)); exact GCA.out.alg) : p := h
set_option maxHeartbeats 8000000 in
set_option maxRecDepth 100000 in
theorem told_lat (Au : Option Addr) (cu : Nat) (u : List (List Int)) (An : Option Addr) (cn : Nat) (nt : List Int) (w : World)
 (hu : Kd.C (Kd.slice 3 (Kd.int .i64)) w Au u.length u) (hcu : u.length ≤ cu) (hn : Kd.C (Kd.int .i64) w An nt.length nt) (hcn : nt.length ≤ cn) (h : Lat u) (hlen : nt.length = u.length) :
 Calls Try.prog 53 #[.agg #[.slice Au u.length cu, .slice An nt.length cn]] w fun e w' => Below w.heap.size w w' ∧
  ((¬ OL u nt ∧ e = .returned (.pointer none)) ∨ (OL u nt ∧ ∃ g, e = .returned (.pointer (some ⟨g, 0, none⟩)) ∧ w.heap.size ≤ g ∧ AlgAt w' g u (mtab u) (jtab u) nt (leastI u) (rd nt (leastI u)))) := by
 have HU := ak hu
 have HC := ak hcu
 have HN := ak hn
 have HCN := ak hcn
 have HL := ak h
 have HE := ak hlen
 have h12 : u.length ≤ 12 := h.1.le12
 clear hu hcu hn hcn h
 obtain ⟨k1, hk1⟩ := Ev.get (Q.impl_lat_ev u)
 rw [dT_ HL.out] at hk1
 obtain ⟨k2, hk2⟩ := Ev.get (Q.turned_ev HL.out.1)
 obtain ⟨tu, htu⟩ : ∃ tu, tu = turn u := ⟨_, rfl⟩
 rw [← htu] at hk2
 have HTU := ak htu
 clear htu
 have E1 := ak hk1
 have E2 := ak hk2
 clear hk1 hk2
 go_enter Try.func53, Try.ntmps53
 go_wp2_with (first
  | ((with_reducible refine gate_dst (N := 1) rfl ?_); refine bx_ (N := 1) (cs := #[.slice Au u.length cu, .slice An nt.length cn]) (t := 29) ?_; intro gb hg w4 hbox hb; have hc0 : w4.cell? ⟨gb, 0, none⟩ = some (.slice Au u.length cu) := (blk_cell hbox 0).trans rfl; have hc1 : w4.cell? ⟨gb, 1, none⟩ = some (.slice An nt.length cn) := (blk_cell hbox 1).trans rfl; have HB4 := ak hb; have HX4 := ak hbox; have HGE := ak (Nat.le_of_eq hg.symm); clear hb hg hbox)
  | (go_at_call 92; (with_reducible refine (impl_LatticeOk.calls k1 _ _ u true _ ?s1 ?s2 E1.out).mono ?_); (case s1 => repeat (first | exact (Kd.C_below HU.out HB4.out) | (with_reducible refine Kd.C_alloc ?_ _) | (with_reducible refine Kd.C_drewN ?_ _) | (with_reducible refine Kd.C_drew ?_))); (case s2 => exact HC.out); rintro e w5 ⟨rfl, hD⟩; have HX5 := ak (blk_below HX4.out hD); have HB5 := ak (below_step HB4.out hD); have hd0 : w5.cell? ⟨gb, 0, none⟩ = some (.slice Au u.length cu) := (blk_cell HX5.out 0).trans rfl; have hd1 : w5.cell? ⟨gb, 1, none⟩ = some (.slice An nt.length cn) := (blk_cell HX5.out 1).trans rfl; clear hD)
  | ((with_reducible refine gate_dst (N := 33) rfl ?_); refine bx_ (N := 33) (cs := #[.slice Au u.length cu, .slice none 0 0, .slice none 0 0, .slice An nt.length cn, .int .i64 0, .int .i64 0]) (t := 55) ?_; intro g hg w6 hbox hb; have HNE : Aside0 (gb ≠ g) := ⟨(by rw [hg]; exact Nat.ne_of_lt (blk_lt HX5.out))⟩; have HGG : Aside0 (w.heap.size ≤ g) := ⟨(by rw [hg]; exact (below_size HB5.out))⟩; have HX6 := ak (blk_below HX5.out hb); have HB6 := ak (below_step HB5.out hb); have HG6 := ak hbox; have he0 : w6.cell? ⟨gb, 0, none⟩ = some (.slice Au u.length cu) := (blk_cell HX6.out 0).trans rfl; clear hb hg hbox)
  | (go_at_call 93; (with_reducible refine (impl_turned.calls k2 _ _ u tu _ ?s1 ?s2 E2.out).mono ?_); (case s1 => repeat (first | exact (Kd.C_below HU.out HB6.out) | (with_reducible refine Kd.C_alloc ?_ _) | (with_reducible refine Kd.C_drewN ?_ _) | (with_reducible refine Kd.C_drew ?_))); (case s2 => exact HC.out); rintro e w7 ⟨vv, rfl, hS, hD⟩; have G7 : Aside0 (Grow w w7 gb g (.slice Au u.length cu) (.slice An nt.length cn) (.slice none 0 0) (.slice none 0 0) (.slice none 0 0) (.slice none 0 0) vv tu [] [] 0 0) := ⟨⟨below_step HB6.out hD, HNE.out, HGE.out, HGG.out, blk_below HX6.out hD, blk_below HG6.out hD, Kd.R_nil _ _ _ _ _, Kd.R_nil _ _ _ _ _, Kd.R_lower (Kd.R_mono (Kd.S_R hS) (fun k _ => by simp [Value.ownBlock])) (below_size HB6.out)⟩⟩; have hf0 : w7.cell? ⟨gb, 0, none⟩ = some (.slice Au u.length cu) := (blk_cell G7.out.box 0).trans rfl; clear hS hD hlen HX4 HB4 HX5 HB5 HX6 HB6 HG6))
 go_loopw [40] (fun a3 wr => ∃ (i : Nat) (va vo : Value), i ≤ u.length ∧ a3 = .int .i64 i ∧ Aside0 (Grow w wr gb g (.slice Au u.length cu) (.slice An nt.length cn) va vo va vo vv tu ((List.range i).map (mrow u)) ((List.range i).map (jrow u)) 0 0)) (fun a3 _ => u.length - (intOf a3).toNat)
 case atStart => exact ⟨0, _, _, Nat.zero_le _, rfl, G7⟩
 case round =>
  obtain ⟨i, va, vo, hi, rfl, ⟨G⟩⟩ := hrel
  clear G7 hf0
  obtain ⟨W1, hW1⟩ : ∃ W1, W1 = wr := ⟨_, rfl⟩
  subst hW1
  obtain ⟨Av, cv, ev⟩ := Kd.R_slice G.V
  subst ev
  by_cases hlt : i < u.length
  ·
   have hf0 : W1.cell? ⟨gb, 0, none⟩ = some (.slice Au u.length cu) := (blk_cell G.box 0).trans rfl
   have GA := ak G
   clear G
   go_wp2_with (first
    | ((with_reducible refine gate_dst (N := 43) rfl ?_); refine Kd.R_lit (Kd.int .i64) _ 3 ?hg (N := 43) ?hd (xs := ([] : List Int)) (inner := []) (ok := fun _ => True) (okp := fun _ => True) ?hr ?hp (fun _ hk => hk) trivial (Below.refl _ _) (Nat.le_refl _) (by simp) ?_; (case hd => rfl); (case hg => rfl); (case hr => first | (go_simp; done) | (go_simp; rfl)); (case hp => exact (Reps.none _ _)); intro vx wa ho5 hb hg_ hnew_; clear hg_ hnew_; have HX1 := ak ho5; have HBa := ak hb; clear ho5 hb)
    | ((with_reducible refine gate_dst (N := 44) rfl ?_); refine Kd.R_lit (Kd.int .i64) _ 3 ?hg (N := 44) ?hd (xs := ([] : List Int)) (inner := []) (ok := fun _ => True) (okp := fun _ => True) ?hr ?hp (fun _ hk => hk) trivial (Below.refl _ _) (Nat.le_refl _) (by simp) ?_; (case hd => rfl); (case hg => rfl); (case hr => first | (go_simp; done) | (go_simp; rfl)); (case hp => exact (Reps.none _ _)); intro vy wb ho5 hb hg_ hnew_; clear hg_ hnew_; have HY1 := ak ho5; have HX2 : Aside0 (Kd.R (Kd.int .i64) 3 wb W1.heap.size (fun k => some k ≠ vy.ownBlock) vx []) := ⟨Kd.R_mono (Kd.R_below (Kd.R_bound HX1.out) hb) (fun k hk e => absurd (Kd.R_base HY1.out k e.symm) (by have := hk.2.2.1; omega))⟩; have HY2 : Aside0 (Kd.R (Kd.int .i64) 3 wb W1.heap.size (fun k => some k ≠ vx.ownBlock) vy []) := ⟨Kd.R_lower (Kd.R_mono (Kd.R_bound HY1.out) (fun k hk e => absurd (Kd.R_lt HX1.out k e.symm) (by have := hk.2.1; omega))) (below_size HBa.out)⟩; have HBb := ak (below_step HBa.out hb); have hf1 : wb.cell? ⟨gb, 0, none⟩ = some (.slice Au u.length cu) := (blk_cell (GA.out.up HBb.out).box 0).trans rfl; clear ho5 hb HX1 HY1 HBa))
   go_loopw [48, 6, 7] (fun a4 v6 v7 wj => ∃ (j : Nat), j ≤ u.length ∧ a4 = .int .i64 j ∧ Aside0 (Kd.R (Kd.int .i64) 3 wj W1.heap.size (fun k => some k ≠ v7.ownBlock) v6 ((List.range j).map fun b => meetI u i b)) ∧ Aside0 (Kd.R (Kd.int .i64) 3 wj W1.heap.size (fun k => some k ≠ v6.ownBlock) v7 ((List.range j).map fun b => joinI u i b)) ∧ Aside0 (Below W1.heap.size W1 wj)) (fun a4 _ _ _ => u.length - (intOf a4).toNat)
   case atStart => exact ⟨0, Nat.zero_le _, rfl, HX2, HY2, HBb⟩
   case round =>
    obtain ⟨j, hj, rfl, HXj, HYj, HBj⟩ := hrel
    clear HX2 HY2 HBb hf1
    by_cases hjt : j < u.length
    ·
     have hf2 : wr.cell? ⟨gb, 0, none⟩ = some (.slice Au u.length cu) := (blk_cell (GA.out.up HBj.out).box 0).trans rfl
     obtain ⟨k3, hk3⟩ := Ev.get (Q.impl_meet_ev HL.out.1 hlt hjt)
     obtain ⟨k4, hk4⟩ := Ev.get (Q.impl_meet_ev (u := turn u) (turn_ord HL.out.1) (by rw [turn_len]; exact hlt) (by rw [turn_len]; exact hjt))
     rw [meetI_turn hlt hjt, ← HTU.out] at hk4
     have E3 := ak hk3
     have E4 := ak hk4
     clear hk3 hk4
     go_wp2_with (first
      | (go_at_call 94; (with_reducible refine (impl_meet.calls k3 _ _ u i j (meetI u i j) _ ?s1 ?s2 E3.out).mono ?_); (case s1 => repeat (first | exact (Kd.C_below HU.out (below_step GA.out.below HBj.out)) | (with_reducible refine Kd.C_alloc ?_ _) | (with_reducible refine Kd.C_drewN ?_ _) | (with_reducible refine Kd.C_drew ?_))); (case s2 => exact HC.out); rintro e w2 ⟨rfl, hD⟩; obtain ⟨nd, rfl⟩ := hD)
      | ((with_reducible refine gate_builtin (b := .append) (xs := #[.tmp 51, .tmp 57]) rfl ?_); at_builtin; refine Kd.R_append (Kd.int .i64) (w0 := W1) W1.heap.size rfl (.tmp 51) (.tmp 57) 23 3 (.int .i64 0) 8 rfl Try.underlying23 info3 rfl (by decide) (by omega) u6 ((List.range j).map fun b => meetI u i b) (meetI u i j) [.int .i64 (meetI u i j)] (fun k => some k ≠ u7.ownBlock) (fun _ => False) rfl rfl rfl (fun _ hk => hk.elim) (fun k hk => Kd.fresh' (Kd.R_lt (xR HYj.out)) k hk) (xR HXj.out) zq_10 (below_size zq_10) zq_6 ?_; intro vx1 wk ho hb hg hat; have HBk := ak hb; have HXk := ak ho; have HYk : Aside0 (Kd.R (Kd.int .i64) 3 wk W1.heap.size (fun k => some k ≠ vx1.ownBlock) u7 _) := ak (Kd.R_mono (Kd.R_after (ok := fun _ => True) (Kd.R_mono (xR HYj.out) (fun _ hk => ⟨trivial, hk⟩)) hg hat) (fun _ hk => hk.2)); clear hb ho hg hat)
      | (go_at_call 94; (with_reducible refine (impl_meet.calls k4 _ _ tu i j (joinI u i j) _ ?s1 ?s2 E4.out).mono ?_); (case s1 => repeat (first | exact (Kd.C_below (Kd.R_reads' GA.out.V).2.2 HBk.out) | (with_reducible refine Kd.C_alloc ?_ _) | (with_reducible refine Kd.C_drewN ?_ _) | (with_reducible refine Kd.C_drew ?_))); (case s2 => exact (Kd.R_reads' GA.out.V).2.1); rintro e w2 ⟨rfl, hD⟩; obtain ⟨nd2, rfl⟩ := hD)
      | ((with_reducible refine gate_builtin (b := .append) (xs := #[.tmp 59, .tmp 64]) rfl ?_); at_builtin; refine Kd.R_append (Kd.int .i64) (w0 := W1) W1.heap.size rfl (.tmp 59) (.tmp 64) 23 3 (.int .i64 0) 8 rfl Try.underlying23 info3 rfl (by decide) (by omega) u7 ((List.range j).map fun b => joinI u i b) (joinI u i j) [.int .i64 (joinI u i j)] (fun k => some k ≠ vx1.ownBlock) (fun _ => False) rfl rfl rfl (fun _ hk => hk.elim) (fun k hk => Kd.fresh' (Kd.R_lt (xR HXk.out)) k hk) (xR HYk.out) zq_9 (below_size zq_9) zq_6 ?_; intro vy1 wl ho hb hg hat; have HBl := ak hb; have HYl := ak ho; have HXl : Aside0 (Kd.R (Kd.int .i64) 3 wl W1.heap.size (fun k => some k ≠ vy1.ownBlock) vx1 _) := ak (Kd.R_mono (Kd.R_after (ok := fun _ => True) (Kd.R_mono (xR HXk.out) (fun _ hk => ⟨trivial, hk⟩)) hg hat) (fun _ hk => hk.2)); clear hb ho hg hat))
     go_roundw
     case rel => exact ⟨j + 1, (by omega), (by go_num), ⟨(by rw [List.range_succ, List.map_append]; exact HXl.out)⟩, ⟨(by rw [List.range_succ, List.map_append]; exact HYl.out)⟩, HBl⟩
     case measure => simp [intOf]; omega
    have ej : j = u.length := by omega
    have HX : Aside0 (Kd.R (Kd.int .i64) 3 wr W1.heap.size (fun k => some k ≠ u7.ownBlock) u6 (mrow u i)) := ⟨(by have := HXj.out; rw [ej] at this; exact this)⟩
    have HY : Aside0 (Kd.R (Kd.int .i64) 3 wr W1.heap.size (fun k => some k ≠ u6.ownBlock) u7 (jrow u i)) := ⟨(by have := HYj.out; rw [ej] at this; exact this)⟩
    have GB := ak (GA.out.up HBj.out)
    have HBB := HBj
    have hs1 : wr.cell? ⟨g, 1, none⟩ = some va := (blk_cell GB.out.alg 1).trans rfl
    have hs2 : wr.cell? ⟨g, 2, none⟩ = some vo := (blk_cell GB.out.alg 2).trans rfl
    clear HXj HYj HBj ej
    obtain ⟨Ax, cx, ex⟩ := Kd.R_slice HX.out
    subst ex
    obtain ⟨Ay, cy, ey⟩ := Kd.R_slice HY.out
    subst ey
    go_wp2
    refine start_ (n := 22) (S := (fun w' => w'.cell? ⟨g, 1, none⟩ = some va ∧ w'.cell? ⟨g, 2, none⟩ = some vo)) (ds := [18, 21]) (bA 22 0) zq_7 rfl rfl ⟨hs1, hs2⟩ (fun hHeld => ?_)
    have GC0 := ak (GB.out.drew)
    have HX0 := ak (Kd.R_drew HX.out)
    have HY0 := ak (Kd.R_drew HY.out)
    clear GB HX HY hs1 hs2 HBB
    generalize wr.drew = wd at GC0 HX0 HY0 hHeld ⊢
    refine pu_ (i := 0) (N := some 67) (bA 22 1) ?_
    refine pu_ (i := 1) (N := some 68) (bA 22 3) ?_
    refine pu_ (i := 2) (N := some 69) (bA 22 7) ?_
    refine pu_ (i := 3) (N := some 70) (bA 22 15) ?_
    refine pu_ (i := 4) (N := some 71) (bA 22 31) ?_
    refine tk_ (i := 5) (N := some 72) (bA 22 63) ?_
    refine pu_ (i := 6) (N := some 73) (bA 22 127) ?_
    refine pu_ (i := 9) (N := some 76) (bA 22 639) ?_
    refine pu_ (i := 10) (N := some 77) (bA 22 1663) ?_
    refine pu_ (i := 11) (N := some 78) (bA 22 3711) ?_
    refine tk_ (i := 12) (N := some 79) (bA 22 7807) ?_
    refine pu_ (i := 13) (N := some 80) (bA 22 15999) ?_
    refine two_ (i := 7) (j := 14) (Ni := some 74) (Nj := some 81) (bA 22 16127) (bA 22 32383) rfl rfl rfl rfl zq_7 (by decide) (by decide) (fun K hK => ?_) (fun K hK => ?_)
    ·
     refine value_ (w1 := ?_) (v := ?_) (by rfl) rfl ?_ ?_
     rotate_left 2
     ·
      go_simp
      constructor
      ·
       rfl
      rfl
     refine hK.out _ _ ⟨(blk_cell zq_1 1).trans rfl, (blk_cell zq_1 2).trans rfl⟩ (fun hHeld => ?_)
     clear hK K
     refine no_ (N := some 74) ?_
     refine two_ (i := 8) (j := 14) (Ni := some 75) (Nj := some 81) (bA 22 16383) (bA 22 32511) rfl rfl rfl rfl zq_7 (by decide) (by decide) (fun K hK => ?_) (fun K hK => ?_)
     ·
      refine step_appA GC0.out HX0.out (below_size GA.out.below) zq_6 (by rfl) (.tmp 72) (.tmp 74) (by rfl) Try.underlying22 info23 (by rfl) (by rfl) zq_2 zq_4 ?_
      intro va1 wA g1 g2 g3
      obtain ⟨Ap, cp, ep⟩ := Kd.R_slice g1.A
      subst ep
      have GCA := ak g1
      have HRA := ak g2
      have HKA := ak g3
      clear g1 g2 g3
      refine hK.out _ _ ⟨(blk_cell zq_0 1).trans rfl, (blk_cell zq_0 2).trans rfl⟩ (fun hHeld => ?_)
      clear hK K
      refine no_ (N := some 75) ?_
      refine one_ (i := 14) (N := some 81) (bA 22 32767) rfl rfl zq_7 (by decide) (fun K hK => ?_)
      refine value_ (w1 := ?_) (v := ?_) (by rfl) rfl ?_ ?_
      rotate_left 2
      ·
       go_simp
       constructor
       ·
        rfl
       rfl
      refine hK.out _ _ ⟨(blk_cell zq_0 1).trans rfl, (blk_cell zq_0 2).trans rfl⟩ (fun hHeld => ?_)
      clear hK K
      refine no_ (N := some 81) ?_
      refine one_ (i := 15) (N := some 82) (bA 22 65535) rfl rfl zq_7 (by decide) (fun K hK => ?_)
      refine step_appO GCA.out (HRA.out _ _ _ _ HY0.out) (below_size GA.out.below) zq_6 (by rfl) (.tmp 79) (.tmp 81) (by rfl) Try.underlying22 info23 (by rfl) (by rfl) zq_2 zq_8 ?_
      intro vo1 wO g1
      obtain ⟨Aq, cq, eq_⟩ := Kd.R_slice g1.O
      subst eq_
      have GCO := ak g1
      have hq1 : wO.cell? ⟨g, 1, none⟩ = some va := (blk_cell g1.alg 1).trans rfl
      have hq2 : wO.cell? ⟨g, 2, none⟩ = some vo := (blk_cell g1.alg 2).trans rfl
      have hz1 := blk_frozen g1.alg 1
      have hz2 := blk_frozen g1.alg 2
      clear g1
      refine hK.out _ _ ⟨(blk_cell zq_3 1).trans rfl, (blk_cell zq_3 2).trans rfl⟩ (fun hHeld => ?_)
      clear hK K
      refine no_ (N := some 82) ?_
      refine pu_ (i := 16) (N := some 83) (bA 22 131071) ?_
      refine pu_ (i := 17) (N := some 84) (bA 22 262143) ?_
      refine last_ (i := 18) (N := none) (bA 22 524287) rfl rfl zq_7 (by decide) (fun K hK => ?_)
      refine skip_ (w1 := ?_) (by rfl) rfl ?_ ?_
      rotate_left
      ·
       go_simp
       rfl
      refine hK.out _ _ ?_
      clear hK K
      refine pu_ (i := 19) (N := some 85) (bA 22 1048575) ?_
      refine pu_ (i := 20) (N := some 86) (bA 22 2097151) ?_
      refine last_ (i := 21) (N := none) (bA 22 4194303) rfl rfl zq_7 (by decide) (fun K hK => ?_)
      refine skip_ (w1 := ?_) (by rfl) rfl ?_ ?_
      rotate_left
      ·
       go_simp
       rfl
      refine hK.out _ _ ?_
      clear hK K
      refine done_ zq_7 ?_
      go_wp2
      go_roundw
      case rel => exact ⟨i + 1, _, _, (by omega), (by go_num), ⟨zq_5⟩⟩
      case measure => simp [intOf]; omega
     refine value_ (w1 := ?_) (v := ?_) (by rfl) rfl ?_ ?_
     rotate_left 2
     ·
      go_simp
      constructor
      ·
       rfl
      rfl
     refine hK.out _ _ ⟨(blk_cell zq_1 1).trans rfl, (blk_cell zq_1 2).trans rfl⟩ (fun hHeld => ?_)
     clear hK K
     refine no_ (N := some 81) ?_
     refine one_ (i := 8) (N := some 75) (bA 22 32767) rfl rfl zq_7 (by decide) (fun K hK => ?_)
     refine step_appA GC0.out HX0.out (below_size GA.out.below) zq_6 (by rfl) (.tmp 72) (.tmp 74) (by rfl) Try.underlying22 info23 (by rfl) (by rfl) zq_2 zq_4 ?_
     intro va1 wA g1 g2 g3
     obtain ⟨Ap, cp, ep⟩ := Kd.R_slice g1.A
     subst ep
     have GCA := ak g1
     have HRA := ak g2
     have HKA := ak g3
     clear g1 g2 g3
     refine hK.out _ _ ⟨(blk_cell zq_0 1).trans rfl, (blk_cell zq_0 2).trans rfl⟩ (fun hHeld => ?_)
     clear hK K
     refine no_ (N := some 75) ?_
     refine one_ (i := 15) (N := some 82) (bA 22 65535) rfl rfl zq_7 (by decide) (fun K hK => ?_)
     refine step_appO GCA.out (HRA.out _ _ _ _ HY0.out) (below_size GA.out.below) zq_6 (by rfl) (.tmp 79) (.tmp 81) (by rfl) Try.underlying22 info23 (by rfl) (by rfl) zq_2 zq_8 ?_
     intro vo1 wO g1
     obtain ⟨Aq, cq, eq_⟩ := Kd.R_slice g1.O
     subst eq_
     have GCO := ak g1
     have hq1 : wO.cell? ⟨g, 1, none⟩ = some va := (blk_cell g1.alg 1).trans rfl
     have hq2 : wO.cell? ⟨g, 2, none⟩ = some vo := (blk_cell g1.alg 2).trans rfl
     have hz1 := blk_frozen g1.alg 1
     have hz2 := blk_frozen g1.alg 2
     clear g1
     refine hK.out _ _ ⟨(blk_cell zq_3 1).trans rfl, (blk_cell zq_3 2).trans rfl⟩ (fun hHeld => ?_)
     clear hK K
     refine no_ (N := some 82) ?_
     refine pu_ (i := 16) (N := some 83) (bA 22 131071) ?_
     refine pu_ (i := 17) (N := some 84) (bA 22 262143) ?_
     refine last_ (i := 18) (N := none) (bA 22 524287) rfl rfl zq_7 (by decide) (fun K hK => ?_)
     refine skip_ (w1 := ?_) (by rfl) rfl ?_ ?_
     rotate_left
     ·
      go_simp
      rfl
     refine hK.out _ _ ?_
     clear hK K
     refine pu_ (i := 19) (N := some 85) (bA 22 1048575) ?_
     refine pu_ (i := 20) (N := some 86) (bA 22 2097151) ?_
     refine last_ (i := 21) (N := none) (bA 22 4194303) rfl rfl zq_7 (by decide) (fun K hK => ?_)
     refine skip_ (w1 := ?_) (by rfl) rfl ?_ ?_
     rotate_left
     ·
      go_simp
      rfl
     refine hK.out _ _ ?_
     clear hK K
     refine done_ zq_7 ?_
     go_wp2
     go_roundw
     case rel => exact ⟨i + 1, _, _, (by omega), (by go_num), ⟨zq_5⟩⟩
     case measure => simp [intOf]; omega
    refine value_ (w1 := ?_) (v := ?_) (by rfl) rfl ?_ ?_
    rotate_left 2
    ·
     go_simp
     constructor
     ·
      rfl
     rfl
    refine hK.out _ _ ⟨(blk_cell zq_1 1).trans rfl, (blk_cell zq_1 2).trans rfl⟩ (fun hHeld => ?_)
    clear hK K
    refine no_ (N := some 81) ?_
    refine one_ (i := 7) (N := some 74) (bA 22 32511) rfl rfl zq_7 (by decide) (fun K hK => ?_)
    refine value_ (w1 := ?_) (v := ?_) (by rfl) rfl ?_ ?_
    rotate_left 2
    ·
     go_simp
     constructor
     ·
      rfl
     rfl
    refine hK.out _ _ ⟨(blk_cell zq_1 1).trans rfl, (blk_cell zq_1 2).trans rfl⟩ (fun hHeld => ?_)
    clear hK K
    refine no_ (N := some 74) ?_
    refine one_ (i := 8) (N := some 75) (bA 22 32767) rfl rfl zq_7 (by decide) (fun K hK => ?_)
    refine step_appA GC0.out HX0.out (below_size GA.out.below) zq_6 (by rfl) (.tmp 72) (.tmp 74) (by rfl) Try.underlying22 info23 (by rfl) (by rfl) zq_2 zq_4 ?_
    intro va1 wA g1 g2 g3
    obtain ⟨Ap, cp, ep⟩ := Kd.R_slice g1.A
    subst ep
    have GCA := ak g1
    have HRA := ak g2
    have HKA := ak g3
    clear g1 g2 g3
    refine hK.out _ _ ⟨(blk_cell zq_0 1).trans rfl, (blk_cell zq_0 2).trans rfl⟩ (fun hHeld => ?_)
    clear hK K
    refine no_ (N := some 75) ?_
    refine one_ (i := 15) (N := some 82) (bA 22 65535) rfl rfl zq_7 (by decide) (fun K hK => ?_)
    refine step_appO GCA.out (HRA.out _ _ _ _ HY0.out) (below_size GA.out.below) zq_6 (by rfl) (.tmp 79) (.tmp 81) (by rfl) Try.underlying22 info23 (by rfl) (by rfl) zq_2 zq_8 ?_
    intro vo1 wO g1
    obtain ⟨Aq, cq, eq_⟩ := Kd.R_slice g1.O
    subst eq_
    have GCO := ak g1
    have hq1 : wO.cell? ⟨g, 1, none⟩ = some va := (blk_cell g1.alg 1).trans rfl
    have hq2 : wO.cell? ⟨g, 2, none⟩ = some vo := (blk_cell g1.alg 2).trans rfl
    have hz1 := blk_frozen g1.alg 1
    have hz2 := blk_frozen g1.alg 2
    clear g1
    refine hK.out _ _ ⟨(blk_cell zq_3 1).trans rfl, (blk_cell zq_3 2).trans rfl⟩ (fun hHeld => ?_)
    clear hK K
    refine no_ (N := some 82) ?_
    refine pu_ (i := 16) (N := some 83) (bA 22 131071) ?_
    refine pu_ (i := 17) (N := some 84) (bA 22 262143) ?_
    refine last_ (i := 18) (N := none) (bA 22 524287) rfl rfl zq_7 (by decide) (fun K hK => ?_)
    refine skip_ (w1 := ?_) (by rfl) rfl ?_ ?_
    rotate_left
    ·
     go_simp
     rfl
    refine hK.out _ _ ?_
    clear hK K
    refine pu_ (i := 19) (N := some 85) (bA 22 1048575) ?_
    refine pu_ (i := 20) (N := some 86) (bA 22 2097151) ?_
    refine last_ (i := 21) (N := none) (bA 22 4194303) rfl rfl zq_7 (by decide) (fun K hK => ?_)
    refine skip_ (w1 := ?_) (by rfl) rfl ?_ ?_
    rotate_left
    ·
     go_simp
     rfl
    refine hK.out _ _ ?_
    clear hK K
    refine done_ zq_7 ?_
    go_wp2
    go_roundw
    case rel => exact ⟨i + 1, _, _, (by omega), (by go_num), ⟨zq_5⟩⟩
    case measure => simp [intOf]; omega
  have ei : i = u.length := by omega
  have GT : Grow w W1 gb g (.slice Au u.length cu) (.slice An nt.length cn) va vo va vo (.slice Av tu.length cv) tu (mtab u) (jtab u) 0 0 := by have q := G; rw [ei] at q; exact q
  obtain ⟨Aa, ca, ea⟩ := Kd.R_slice GT.A
  subst ea
  obtain ⟨Ao, co, eo⟩ := Kd.R_slice GT.O
  subst eo
  obtain ⟨k5, hk5⟩ := Ev.get (Q.impl_least_ev u)
  have E5 : Aside0 (impl_LeastOf.f k5 u = some (leastI u, true)) := ⟨(by obtain ⟨ml, hml, hmlt, hmle⟩ := HL.out.least; rw [hk5]; unfold leastOfP; rw [if_pos HL.out.1, hml]; simp)⟩
  have GA := ak GT
  clear G GT ei hk5
  have hf0 : W1.cell? ⟨gb, 0, none⟩ = some (.slice Au u.length cu) := (blk_cell GA.out.box 0).trans rfl
  go_wp2_with (go_at_call 95; (with_reducible refine (impl_LeastOf.calls k5 _ _ u (leastI u) true _ ?s1 ?s2 E5.out).mono ?_); (case s1 => repeat (first | exact (Kd.C_below HU.out GA.out.below) | (with_reducible refine Kd.C_alloc ?_ _) | (with_reducible refine Kd.C_drewN ?_ _) | (with_reducible refine Kd.C_drew ?_))); (case s2 => exact HC.out); rintro e w2 ⟨rfl, hD⟩; obtain ⟨nd, rfl⟩ := hD; have hst : (W1.drewN nd).cell? ⟨g, 4, none⟩ = some (.int .i64 0) := (blk_cell GA.out.alg 4).trans rfl; have hfz := blk_frozen (blk_drewN GA.out.alg nd) 4; have hn1 := HNE.out; have hn2 := Ne.symm HNE.out; have hm1 : (W1.drewN nd).cell? ⟨gb, 1, none⟩ = some (.slice An nt.length cn) := (blk_cell GA.out.box 1).trans rfl)
  go_loopw [100] (fun a0 wr => ∃ c, c ≤ nt.length ∧ a0 = .int .i64 (c : Nat) ∧ Aside0 (∀ d, d < c → OppAt u nt d) ∧ Aside0 (Grow w wr gb g (.slice Au u.length cu) (.slice An nt.length cn) (.slice Aa (mtab u).length ca) (.slice Ao (jtab u).length co) (.slice Aa (mtab u).length ca) (.slice Ao (jtab u).length co) (.slice Av tu.length cv) tu (mtab u) (jtab u) (leastI u) 0)) (fun a0 _ => nt.length - (intOf a0).toNat)
  case atStart => exact ⟨0, Nat.zero_le _, rfl, ⟨fun d h => absurd h (Nat.not_lt_zero _)⟩, ⟨(GA.out.drewN _).setNo _⟩⟩
  case round =>
   clear hf0 hst hfz hm1 hc0 hc1 hd0 hd1 he0
   obtain ⟨c, hc, rfl, HP, GP⟩ := hrel
   have hn12 : nt.length ≤ 12 := by rw [HE.out]; exact h12
   by_cases hct : c < nt.length
   ·
    obtain ⟨adn, eA, hcN⟩ := Kd.at_int (Kd.C_below HN.out GP.out.below) (c : Int) (by omega) (by omega)
    subst eA
    rw [Int.toNat_natCast] at hcN
    have hg0 : wr.cell? ⟨gb, 0, none⟩ = some (.slice Au u.length cu) := (blk_cell GP.out.box 0).trans rfl
    have hg1 : wr.cell? ⟨gb, 1, none⟩ = some (.slice (some adn) nt.length cn) := (blk_cell GP.out.box 1).trans rfl
    generalize hx : rd nt (c : Int) = x at hcN
    have HXE := ak hx
    clear hx
    by_cases hok : 0 ≤ x ∧ x < u.length
    ·
     have EA : Aside0 (impl_isAnswer.f u x = some true) := ⟨(by rw [Q.isAnswer_eq, dT_ hok])⟩
     have hx0 : 0 ≤ x := hok.1
     have hx1 : x < (nt.length : Int) := by have := HE.out; omega
     obtain ⟨ad2, e2, hcX⟩ := Kd.at_int (Kd.C_below HN.out GP.out.below) x hx0 hx1
     obtain rfl : adn = ad2 := by injection e2
     generalize hy : rd nt x = y at hcX
     have HYE := ak hy
     clear hy e2
     by_cases hyc : y = c
     ·
      have hy1 := bt_ hyc
      have hy2 : (y != (c : Int)) = false := by rw [hyc]; simp
      have HYC := ak hyc
      clear hyc
      have hcm : (c : Int) < (mtab u).length := by have := HE.out; simp only [mtab, List.length_map, List.length_range]; omega
      have hc0 : (0 : Int) ≤ (c : Int) := by omega
      obtain ⟨adr, Ar, cr, er, hr1, hr2, hr3⟩ := at_L1 (Kd.R_reads' GP.out.A).2.2 (c : Int) hc0 hcm
      subst er
      rw [Int.toNat_natCast] at hr1
      have hrow : rd_L1 (mtab u) (c : Int) = mrow u c := by rw [Q.row_nat]; exact getD_map_range _ _ (by have := HE.out; omega)
      have hxr : x < ((rd_L1 (mtab u) (c : Int)).length : Int) := by rw [hrow]; simp only [mrow, List.length_map, List.length_range]; exact hok.2
      obtain ⟨adx, ex, hm1⟩ := Kd.at_int hr3 x hx0 hxr
      subst ex
      generalize hm : rd (rd_L1 (mtab u) (c : Int)) x = m at hm1
      have HM : Aside0 (m = meetI u c x.toNat) := ⟨(by rw [← hm, hrow]; obtain ⟨xn, rfl, hxn⟩ := Q.nat_of hok; rw [Int.toNat_natCast, Q.rd_nat]; exact getD_map_range _ _ hxn)⟩
      have hgA : wr.cell? ⟨g, 1, none⟩ = some (.slice (some adr) (mtab u).length ca) := (blk_cell GP.out.alg 1).trans rfl
      have hg4 : wr.cell? ⟨g, 4, none⟩ = some (.int .i64 (leastI u)) := (blk_cell GP.out.alg 4).trans rfl
      have HOK := ak hok
      clear hm hrow hr2 hr3 hok
      by_cases hml : m = leastI u
      ·
       have hm2 : (m != leastI u) = false := by rw [hml]; simp
       have hm3 := bt_ hml
       have HPC : Aside0 (OppAt u nt c) := ⟨(by refine ⟨?_, ?_, ?_⟩ <;> rw [HXE.out]; exact HOK.out; rw [HYE.out]; exact HYC.out; rw [← HM.out]; exact hml)⟩
       clear hml
       go_wp2
       refine start_ (n := 31) (S := fun w' => w'.cell? ⟨gb, 0, none⟩ = some (.slice Au u.length cu) ∧ w'.cell? ⟨gb, 1, none⟩ = some (.slice (some adn) nt.length cn) ∧ w'.cell? (adn.add x.toNat) = some (.int .i64 y) ∧ w'.cell? ⟨g, 1, none⟩ = some (.slice (some adr) (mtab u).length ca) ∧ w'.cell? (adr.add c) = some (.slice (some adx) (rd_L1 (mtab u) c).length cr) ∧ w'.cell? (adx.add x.toNat) = some (.int .i64 m) ∧ w'.cell? ⟨g, 4, none⟩ = some (.int .i64 (leastI u))) (ds := []) (bA 31 0) zq_7 rfl rfl ⟨hg0, hg1, hcX, hgA, hr1, hm1, hg4⟩ (fun hHeld => ?_)
       have GQ := ak GP.out.drew
       clear GP hg0 hg1 hcX hgA hr1 hm1 hg4 hcN
       generalize wr.drew = wd at GQ hHeld ⊢
       refine pu_ (i := 0) (N := some 105) (bA 31 1) ?_
       refine tk_ (i := 1) (N := some 106) (bA 31 3) ?_
       refine pu_ (i := 2) (N := some 107) (bA 31 7) ?_
       refine one_ (i := 3) (N := some 108) (bA 31 15) rfl rfl zq_7 (by decide) (fun K hK => ?_)
       refine ge_ Try.func96 #[.slice Au u.length cu, .int .i64 x] ?_
       with_reducible refine (impl_isAnswer.calls _ _ u x true _ ?s1 ?s2 EA.out).mono ?_
       (case s1 => repeat (first | exact (Kd.C_below HU.out GQ.out.below) | (with_reducible refine Kd.C_alloc ?_ _) | (with_reducible refine Kd.C_drewN ?_ _) | (with_reducible refine Kd.C_drew ?_)))
       (case s2 => exact HC.out)
       rintro e w' ⟨rfl, ⟨nd2, rfl⟩⟩
       refine ⟨_, rfl, ?_⟩
       refine hK.out _ _ hHeld (fun hHeld => ?_)
       clear hK K
       refine no_ (N := some 108) ?_
       refine pu_ (i := 4) (N := some 109) (bA 31 31) ?_
       refine pu_ (i := 5) (N := some 110) (bA 31 63) ?_
       refine pu_ (i := 6) (N := some 111) (bA 31 127) ?_
       refine tk_ (i := 7) (N := some 112) (bA 31 255) ?_
       refine pu_ (i := 8) (N := some 113) (bA 31 511) ?_
       refine pu_ (i := 9) (N := some 114) (bA 31 1023) ?_
       refine tk_ (i := 10) (N := some 115) (bA 31 2047) ?_
       refine pu_ (i := 11) (N := some 116) (bA 31 4095) ?_
       refine pu_ (i := 12) (N := some 117) (bA 31 8191) ?_
       refine pu_ (i := 13) (N := some 118) (bA 31 16383) ?_
       refine pu_ (i := 14) (N := some 119) (bA 31 32767) ?_
       refine pu_ (i := 15) (N := some 120) (bA 31 65535) ?_
       refine pu_ (i := 16) (N := some 121) (bA 31 131071) ?_
       refine pu_ (i := 17) (N := some 122) (bA 31 262143) ?_
       refine tk_ (i := 18) (N := some 123) (bA 31 524287) ?_
       refine pu_ (i := 19) (N := some 124) (bA 31 1048575) ?_
       refine pu_ (i := 20) (N := some 125) (bA 31 2097151) ?_
       refine tk_ (i := 21) (N := some 126) (bA 31 4194303) ?_
       refine pu_ (i := 22) (N := some 127) (bA 31 8388607) ?_
       refine pu_ (i := 23) (N := some 128) (bA 31 16777215) ?_
       refine tk_ (i := 24) (N := some 129) (bA 31 33554431) ?_
       refine pu_ (i := 25) (N := some 130) (bA 31 67108863) ?_
       refine pu_ (i := 26) (N := some 131) (bA 31 134217727) ?_
       refine pu_ (i := 27) (N := some 132) (bA 31 268435455) ?_
       refine tk_ (i := 28) (N := some 133) (bA 31 536870911) ?_
       refine pu_ (i := 29) (N := some 134) (bA 31 1073741823) ?_
       refine pu_ (i := 30) (N := some 135) (bA 31 2147483647) ?_
       refine done_ zq_7 ?_
       go_wp2
       go_roundw
       case rel => exact ⟨c + 1, (by omega), (by go_num), ⟨fun d hd => if h : d < c then HP.out d h else (show d = c by omega) ▸ HPC.out⟩, ⟨GQ.out.drewN _⟩⟩
       case measure => simp [intOf]; omega
      have hm2 := bw_ hml
      have hm3 := bv_ hml
      have HNO : Aside0 (¬ OL u nt) := ⟨fun h => hml (by have q := (h.2.2.1 c (by have := HE.out; omega)).2.2; rw [HXE.out] at q; rw [HM.out]; exact q)⟩
      clear hml
      go_wp2
      refine start_ (n := 31) (S := fun w' => w'.cell? ⟨gb, 0, none⟩ = some (.slice Au u.length cu) ∧ w'.cell? ⟨gb, 1, none⟩ = some (.slice (some adn) nt.length cn) ∧ w'.cell? (adn.add x.toNat) = some (.int .i64 y) ∧ w'.cell? ⟨g, 1, none⟩ = some (.slice (some adr) (mtab u).length ca) ∧ w'.cell? (adr.add c) = some (.slice (some adx) (rd_L1 (mtab u) c).length cr) ∧ w'.cell? (adx.add x.toNat) = some (.int .i64 m) ∧ w'.cell? ⟨g, 4, none⟩ = some (.int .i64 (leastI u))) (ds := []) (bA 31 0) zq_7 rfl rfl ⟨hg0, hg1, hcX, hgA, hr1, hm1, hg4⟩ (fun hHeld => ?_)
      have GQ := ak GP.out.drew
      clear GP hg0 hg1 hcX hgA hr1 hm1 hg4 hcN
      generalize wr.drew = wd at GQ hHeld ⊢
      refine pu_ (i := 0) (N := some 105) (bA 31 1) ?_
      refine tk_ (i := 1) (N := some 106) (bA 31 3) ?_
      refine pu_ (i := 2) (N := some 107) (bA 31 7) ?_
      refine one_ (i := 3) (N := some 108) (bA 31 15) rfl rfl zq_7 (by decide) (fun K hK => ?_)
      refine ge_ Try.func96 #[.slice Au u.length cu, .int .i64 x] ?_
      with_reducible refine (impl_isAnswer.calls _ _ u x true _ ?s1 ?s2 EA.out).mono ?_
      (case s1 => repeat (first | exact (Kd.C_below HU.out GQ.out.below) | (with_reducible refine Kd.C_alloc ?_ _) | (with_reducible refine Kd.C_drewN ?_ _) | (with_reducible refine Kd.C_drew ?_)))
      (case s2 => exact HC.out)
      rintro e w' ⟨rfl, ⟨nd2, rfl⟩⟩
      refine ⟨_, rfl, ?_⟩
      refine hK.out _ _ hHeld (fun hHeld => ?_)
      clear hK K
      refine no_ (N := some 108) ?_
      refine pu_ (i := 4) (N := some 109) (bA 31 31) ?_
      refine pu_ (i := 5) (N := some 110) (bA 31 63) ?_
      refine pu_ (i := 6) (N := some 111) (bA 31 127) ?_
      refine tk_ (i := 7) (N := some 112) (bA 31 255) ?_
      refine pu_ (i := 8) (N := some 113) (bA 31 511) ?_
      refine pu_ (i := 9) (N := some 114) (bA 31 1023) ?_
      refine tk_ (i := 10) (N := some 115) (bA 31 2047) ?_
      refine pu_ (i := 11) (N := some 116) (bA 31 4095) ?_
      refine pu_ (i := 12) (N := some 117) (bA 31 8191) ?_
      refine pu_ (i := 13) (N := some 118) (bA 31 16383) ?_
      refine pu_ (i := 14) (N := some 119) (bA 31 32767) ?_
      refine pu_ (i := 15) (N := some 120) (bA 31 65535) ?_
      refine pu_ (i := 16) (N := some 121) (bA 31 131071) ?_
      refine pu_ (i := 17) (N := some 122) (bA 31 262143) ?_
      refine tk_ (i := 18) (N := some 123) (bA 31 524287) ?_
      refine pu_ (i := 19) (N := some 124) (bA 31 1048575) ?_
      refine pu_ (i := 20) (N := some 125) (bA 31 2097151) ?_
      refine tk_ (i := 21) (N := some 126) (bA 31 4194303) ?_
      refine pu_ (i := 22) (N := some 127) (bA 31 8388607) ?_
      refine pu_ (i := 23) (N := some 128) (bA 31 16777215) ?_
      refine tk_ (i := 24) (N := some 129) (bA 31 33554431) ?_
      refine pu_ (i := 25) (N := some 130) (bA 31 67108863) ?_
      refine pu_ (i := 26) (N := some 131) (bA 31 134217727) ?_
      refine pu_ (i := 27) (N := some 132) (bA 31 268435455) ?_
      refine tk_ (i := 28) (N := some 133) (bA 31 536870911) ?_
      refine pu_ (i := 29) (N := some 134) (bA 31 1073741823) ?_
      refine pu_ (i := 30) (N := some 135) (bA 31 2147483647) ?_
      refine done_ zq_7 ?_
      go_wp2
      go_ret
      exact ⟨pw_below_drewN GQ.out.below _, .inl ⟨HNO.out, rfl⟩⟩
     have hy1 := bv_ hyc
     have hy2 := bw_ hyc
     have HNO : Aside0 (¬ OL u nt) := ⟨fun h => hyc (by have q := (h.2.2.1 c (by have := HE.out; omega)).2.1; rw [HXE.out, HYE.out] at q; exact q)⟩
     have HOK := ak hok
     clear hyc hok
     go_wp2
     refine start_ (n := 31) (S := fun w' => w'.cell? ⟨gb, 0, none⟩ = some (.slice Au u.length cu) ∧ w'.cell? ⟨gb, 1, none⟩ = some (.slice (some adn) nt.length cn) ∧ w'.cell? (adn.add x.toNat) = some (.int .i64 y)) (ds := []) (bA 31 0) zq_7 rfl rfl ⟨hg0, hg1, hcX⟩ (fun hHeld => ?_)
     have GQ := ak GP.out.drew
     clear GP hg0 hg1 hcX hcN
     generalize wr.drew = wd at GQ hHeld ⊢
     refine pu_ (i := 0) (N := some 105) (bA 31 1) ?_
     refine tk_ (i := 1) (N := some 106) (bA 31 3) ?_
     refine pu_ (i := 2) (N := some 107) (bA 31 7) ?_
     refine one_ (i := 3) (N := some 108) (bA 31 15) rfl rfl zq_7 (by decide) (fun K hK => ?_)
     refine ge_ Try.func96 #[.slice Au u.length cu, .int .i64 x] ?_
     with_reducible refine (impl_isAnswer.calls _ _ u x true _ ?s1 ?s2 EA.out).mono ?_
     (case s1 => repeat (first | exact (Kd.C_below HU.out GQ.out.below) | (with_reducible refine Kd.C_alloc ?_ _) | (with_reducible refine Kd.C_drewN ?_ _) | (with_reducible refine Kd.C_drew ?_)))
     (case s2 => exact HC.out)
     rintro e w' ⟨rfl, ⟨nd2, rfl⟩⟩
     refine ⟨_, rfl, ?_⟩
     refine hK.out _ _ hHeld (fun hHeld => ?_)
     clear hK K
     refine no_ (N := some 108) ?_
     refine pu_ (i := 4) (N := some 109) (bA 31 31) ?_
     refine pu_ (i := 5) (N := some 110) (bA 31 63) ?_
     refine pu_ (i := 6) (N := some 111) (bA 31 127) ?_
     refine tk_ (i := 7) (N := some 112) (bA 31 255) ?_
     refine pu_ (i := 8) (N := some 113) (bA 31 511) ?_
     refine pu_ (i := 9) (N := some 114) (bA 31 1023) ?_
     refine tk_ (i := 10) (N := some 115) (bA 31 2047) ?_
     refine pu_ (i := 11) (N := some 116) (bA 31 4095) ?_
     refine pu_ (i := 12) (N := some 117) (bA 31 8191) ?_
     refine pu_ (i := 13) (N := some 118) (bA 31 16383) ?_
     refine pu_ (i := 14) (N := some 119) (bA 31 32767) ?_
     refine of_ (i := 15) (N := some 120) (bA 31 65535) ?_
     refine of_ (i := 16) (N := some 121) (bA 31 131071) ?_
     refine of_ (i := 17) (N := some 122) (bA 31 262143) ?_
     refine of_ (i := 18) (N := some 123) (bA 31 524287) ?_
     refine of_ (i := 19) (N := some 124) (bA 31 1048575) ?_
     refine of_ (i := 20) (N := some 125) (bA 31 2097151) ?_
     refine of_ (i := 21) (N := some 126) (bA 31 4194303) ?_
     refine of_ (i := 22) (N := some 127) (bA 31 8388607) ?_
     refine of_ (i := 23) (N := some 128) (bA 31 16777215) ?_
     refine of_ (i := 24) (N := some 129) (bA 31 33554431) ?_
     refine of_ (i := 25) (N := some 130) (bA 31 67108863) ?_
     refine of_ (i := 26) (N := some 131) (bA 31 134217727) ?_
     refine of_ (i := 27) (N := some 132) (bA 31 268435455) ?_
     refine of_ (i := 28) (N := some 133) (bA 31 536870911) ?_
     refine of_ (i := 29) (N := some 134) (bA 31 1073741823) ?_
     refine pu_ (i := 30) (N := some 135) (bA 31 2147483647) ?_
     refine done_ zq_7 ?_
     go_wp2
     go_ret
     exact ⟨pw_below_drewN GQ.out.below _, .inl ⟨HNO.out, rfl⟩⟩
    have EA : Aside0 (impl_isAnswer.f u x = some false) := ⟨(by rw [Q.isAnswer_eq, dF_ hok])⟩
    have HNO : Aside0 (¬ OL u nt) := ⟨fun h => hok (HXE.out ▸ (h.2.2.1 c (by have := HE.out; omega)).1)⟩
    clear hok
    go_wp2
    refine start_ (n := 31) (S := fun w' => w'.cell? ⟨gb, 0, none⟩ = some (.slice Au u.length cu) ∧ w'.cell? ⟨gb, 1, none⟩ = some (.slice (some adn) nt.length cn)) (ds := []) (bA 31 0) zq_7 rfl rfl ⟨hg0, hg1⟩ (fun hHeld => ?_)
    have GQ := ak GP.out.drew
    clear GP hg0 hg1 hcN
    generalize wr.drew = wd at GQ hHeld ⊢
    refine pu_ (i := 0) (N := some 105) (bA 31 1) ?_
    refine tk_ (i := 1) (N := some 106) (bA 31 3) ?_
    refine pu_ (i := 2) (N := some 107) (bA 31 7) ?_
    refine one_ (i := 3) (N := some 108) (bA 31 15) rfl rfl zq_7 (by decide) (fun K hK => ?_)
    refine ge_ Try.func96 #[.slice Au u.length cu, .int .i64 x] ?_
    with_reducible refine (impl_isAnswer.calls _ _ u x false _ ?s1 ?s2 EA.out).mono ?_
    (case s1 => repeat (first | exact (Kd.C_below HU.out GQ.out.below) | (with_reducible refine Kd.C_alloc ?_ _) | (with_reducible refine Kd.C_drewN ?_ _) | (with_reducible refine Kd.C_drew ?_)))
    (case s2 => exact HC.out)
    rintro e w' ⟨rfl, ⟨nd2, rfl⟩⟩
    refine ⟨_, rfl, ?_⟩
    refine hK.out _ _ hHeld (fun hHeld => ?_)
    clear hK K
    refine no_ (N := some 108) ?_
    refine pu_ (i := 4) (N := some 109) (bA 31 31) ?_
    refine pu_ (i := 5) (N := some 110) (bA 31 63) ?_
    refine of_ (i := 6) (N := some 111) (bA 31 127) ?_
    refine of_ (i := 7) (N := some 112) (bA 31 255) ?_
    refine of_ (i := 8) (N := some 113) (bA 31 511) ?_
    refine of_ (i := 9) (N := some 114) (bA 31 1023) ?_
    refine of_ (i := 10) (N := some 115) (bA 31 2047) ?_
    refine of_ (i := 11) (N := some 116) (bA 31 4095) ?_
    refine of_ (i := 12) (N := some 117) (bA 31 8191) ?_
    refine pu_ (i := 13) (N := some 118) (bA 31 16383) ?_
    refine pu_ (i := 14) (N := some 119) (bA 31 32767) ?_
    refine of_ (i := 15) (N := some 120) (bA 31 65535) ?_
    refine of_ (i := 16) (N := some 121) (bA 31 131071) ?_
    refine of_ (i := 17) (N := some 122) (bA 31 262143) ?_
    refine of_ (i := 18) (N := some 123) (bA 31 524287) ?_
    refine of_ (i := 19) (N := some 124) (bA 31 1048575) ?_
    refine of_ (i := 20) (N := some 125) (bA 31 2097151) ?_
    refine of_ (i := 21) (N := some 126) (bA 31 4194303) ?_
    refine of_ (i := 22) (N := some 127) (bA 31 8388607) ?_
    refine of_ (i := 23) (N := some 128) (bA 31 16777215) ?_
    refine of_ (i := 24) (N := some 129) (bA 31 33554431) ?_
    refine of_ (i := 25) (N := some 130) (bA 31 67108863) ?_
    refine of_ (i := 26) (N := some 131) (bA 31 134217727) ?_
    refine of_ (i := 27) (N := some 132) (bA 31 268435455) ?_
    refine of_ (i := 28) (N := some 133) (bA 31 536870911) ?_
    refine of_ (i := 29) (N := some 134) (bA 31 1073741823) ?_
    refine pu_ (i := 30) (N := some 135) (bA 31 2147483647) ?_
    refine done_ zq_7 ?_
    go_wp2
    go_ret
    exact ⟨pw_below_drewN GQ.out.below _, .inl ⟨HNO.out, rfl⟩⟩
   have HP2 : Aside0 (∀ d, d < u.length → OppAt u nt d) := ⟨fun d hd => HP.out d (by have := HE.out; omega)⟩
   clear HP
   have hg0 : wr.cell? ⟨gb, 0, none⟩ = some (.slice Au u.length cu) := (blk_cell GP.out.box 0).trans rfl
   go_wp2
   go_loopw [140] (fun a1 wr => ∃ p, p ≤ u.length ∧ a1 = .int .i64 (p : Nat) ∧ Aside0 (∀ a, a < p → ∀ b, b < u.length → OppTo u nt a b) ∧ Aside0 (Grow w wr gb g (.slice Au u.length cu) (.slice An nt.length cn) (.slice Aa (mtab u).length ca) (.slice Ao (jtab u).length co) (.slice Aa (mtab u).length ca) (.slice Ao (jtab u).length co) (.slice Av tu.length cv) tu (mtab u) (jtab u) (leastI u) 0)) (fun a1 _ => u.length - (intOf a1).toNat)
   case atStart => exact ⟨0, Nat.zero_le _, rfl, ⟨fun d h => absurd h (Nat.not_lt_zero _)⟩, GP⟩
   case round =>
    clear hg0 GP
    obtain ⟨p, hp, rfl, HQ, GP⟩ := hrel
    by_cases hpt : p < u.length
    ·
     obtain ⟨adu, Ar, cr, eu, hru, hrl, hrc⟩ := at_L1 (Kd.C_below HU.out GP.out.below) (p : Int) (by omega) (by omega)
     subst eu
     rw [Int.toNat_natCast] at hru
     have HRL : Aside0 ((rd_L1 u (p : Int)).length = u.length) := ⟨(by rw [Q.row_nat]; exact HL.out.1.row hpt)⟩
     rw [HRL.out] at hru hrl hrc
     have HRC := ak hrc
     clear hrl hrc
     go_wp2
     obtain ⟨W2, hW2⟩ : ∃ W2, W2 = wr := ⟨_, rfl⟩
     subst hW2
     have GP0 := GP
     go_loopw [147] (fun a2 wr => ∃ q, q ≤ u.length ∧ a2 = .int .i64 (q : Nat) ∧ Aside0 (∀ b, b < q → OppTo u nt p b) ∧ Aside0 (Below W2.heap.size W2 wr)) (fun a2 _ => u.length - (intOf a2).toNat)
     case atStart => exact ⟨0, Nat.zero_le _, rfl, ⟨fun d h => absurd h (Nat.not_lt_zero _)⟩, ⟨Below.refl _ _⟩⟩
     case round =>
      clear hru
      obtain ⟨q, hq, rfl, HR, HBW⟩ := hrel
      have GP : Aside0 (Grow w wr gb g _ _ _ _ _ _ _ _ _ _ _ _) := ⟨GP0.out.up HBW.out⟩
      by_cases hqt : q < u.length
      ·
       obtain ⟨adr, er, hel⟩ := Kd.at_int (Kd.C_below HRC.out HBW.out) (q : Int) (by omega) (by omega)
       subst er
       rw [Int.toNat_natCast] at hel
       generalize hz : rd (rd_L1 u (p : Int)) (q : Int) = z at hel
       have HZ : Aside0 (rdN u p q = z) := ⟨(by rw [← hz, Q.at_nat])⟩
       clear hz
       by_cases hz1 : z = 1
       ·
        have hb1 := bt_ hz1
        have HZ1 := ak hz1
        clear hz1
        obtain ⟨adn, eA, hnq⟩ := Kd.at_int (Kd.C_below HN.out GP.out.below) (q : Int) (by omega) (by have := HE.out; omega)
        subst eA
        obtain ⟨ad2, e2, hnp⟩ := Kd.at_int (Kd.C_below HN.out GP.out.below) (p : Int) (by omega) (by have := HE.out; omega)
        obtain rfl : adn = ad2 := by injection e2
        clear e2
        rw [Int.toNat_natCast] at hnq hnp
        have hqn : (q : Int) < nt.length := by have := HE.out; omega
        have hpn : (p : Int) < nt.length := by have := HE.out; omega
        have hoq := (HP2.out q hqt).1
        have hop := (HP2.out p hpt).1
        generalize hx : rd nt (q : Int) = x at hnq hoq
        generalize hy : rd nt (p : Int) = y at hnp hop
        have HX := ak hx
        have HY := ak hy
        clear hx hy
        have hx0 : 0 ≤ x := hoq.1
        have hx1 : x < (u.length : Int) := hoq.2
        have hy0 : 0 ≤ y := hop.1
        have hy1 : y < (u.length : Int) := hop.2
        obtain ⟨ad3, Aw, cw, e3, hw1, hwl, hwc⟩ := at_L1 (Kd.C_below HU.out GP.out.below) x hx0 hx1
        obtain rfl : adu = ad3 := by injection e3
        have HWL : Aside0 ((rd_L1 u x).length = u.length) := ⟨(by obtain ⟨xn, rfl, hxn⟩ := Q.nat_of hoq; rw [Q.row_nat]; exact HL.out.1.row hxn)⟩
        rw [HWL.out] at hw1 hwc
        obtain ⟨adw, ew, hw2⟩ := Kd.at_int hwc y hy0 hy1
        subst ew
        generalize hv : rd (rd_L1 u x) y = v at hw2
        have HV : Aside0 (rdN u (rd nt q).toNat (rd nt p).toNat = v) := ⟨(by rw [← hv, HX.out, HY.out]; obtain ⟨xn, rfl, hxn⟩ := Q.nat_of hoq; obtain ⟨yn, rfl, hyn⟩ := Q.nat_of hop; rw [Int.toNat_natCast, Int.toNat_natCast, Q.at_nat])⟩
        clear hv hwl hwc e3 hoq hop
        have hg0 : wr.cell? ⟨gb, 0, none⟩ = some (.slice (some adu) u.length cu) := (blk_cell GP.out.box 0).trans rfl
        have hg1 : wr.cell? ⟨gb, 1, none⟩ = some (.slice (some adn) nt.length cn) := (blk_cell GP.out.box 1).trans rfl
        by_cases hv1 : v = 1
        ·
         have hb2 : (v != 1) = false := by rw [hv1]; rfl
         have hb3 := bt_ hv1
         have HT : Aside0 (OppTo u nt p q) := ⟨fun _ => by rw [HV.out]; exact hv1⟩
         clear hv1
         go_wp2
         refine start_ (n := 21) (S := fun w' => w'.cell? ⟨gb, 0, none⟩ = some (.slice (some adu) u.length cu) ∧ w'.cell? ⟨gb, 1, none⟩ = some (.slice (some adn) nt.length cn) ∧ w'.cell? (adn.add q) = some (.int .i64 x) ∧ w'.cell? (adn.add p) = some (.int .i64 y) ∧ w'.cell? (adu.add x.toNat) = some (.slice (some adw) u.length cw) ∧ w'.cell? (adw.add y.toNat) = some (.int .i64 v)) (ds := []) (bA 21 0) zq_7 rfl rfl ⟨hg0, hg1, hnq, hnp, hw1, hw2⟩ (fun hHeld => ?_)
         refine pu_ (i := 0) (N := some 152) (bA 21 1) ?_
         refine pu_ (i := 1) (N := some 153) (bA 21 3) ?_
         refine pu_ (i := 2) (N := some 154) (bA 21 7) ?_
         refine pu_ (i := 3) (N := some 155) (bA 21 15) ?_
         refine tk_ (i := 4) (N := some 156) (bA 21 31) ?_
         refine pu_ (i := 5) (N := some 157) (bA 21 63) ?_
         refine tk_ (i := 6) (N := some 158) (bA 21 127) ?_
         refine pu_ (i := 7) (N := some 159) (bA 21 255) ?_
         refine pu_ (i := 8) (N := some 160) (bA 21 511) ?_
         refine tk_ (i := 9) (N := some 161) (bA 21 1023) ?_
         refine pu_ (i := 10) (N := some 162) (bA 21 2047) ?_
         refine tk_ (i := 11) (N := some 163) (bA 21 4095) ?_
         refine pu_ (i := 12) (N := some 164) (bA 21 8191) ?_
         refine tk_ (i := 13) (N := some 165) (bA 21 16383) ?_
         refine pu_ (i := 14) (N := some 166) (bA 21 32767) ?_
         refine pu_ (i := 15) (N := some 167) (bA 21 65535) ?_
         refine tk_ (i := 16) (N := some 168) (bA 21 131071) ?_
         refine pu_ (i := 17) (N := some 169) (bA 21 262143) ?_
         refine tk_ (i := 18) (N := some 170) (bA 21 524287) ?_
         refine pu_ (i := 19) (N := some 171) (bA 21 1048575) ?_
         refine pu_ (i := 20) (N := some 172) (bA 21 2097151) ?_
         refine done_ zq_7 ?_
         go_wp2
         go_roundw
         case rel => exact ⟨q + 1, (by omega), (by go_num), ⟨fun d hd => if h : d < q then HR.out d h else (show d = q by omega) ▸ HT.out⟩, ⟨pw_below_drewN HBW.out 1⟩⟩
         case measure => simp [intOf]; omega
        have hb2 := bw_ hv1
        have hb3 := bv_ hv1
        have HNO : Aside0 (¬ OL u nt) := ⟨fun h => hv1 (by have k := h.2.2.2 p hpt q hqt (HZ.out.trans HZ1.out); rw [HV.out] at k; exact k)⟩
        clear hv1
        go_wp2
        refine start_ (n := 21) (S := fun w' => w'.cell? ⟨gb, 0, none⟩ = some (.slice (some adu) u.length cu) ∧ w'.cell? ⟨gb, 1, none⟩ = some (.slice (some adn) nt.length cn) ∧ w'.cell? (adn.add q) = some (.int .i64 x) ∧ w'.cell? (adn.add p) = some (.int .i64 y) ∧ w'.cell? (adu.add x.toNat) = some (.slice (some adw) u.length cw) ∧ w'.cell? (adw.add y.toNat) = some (.int .i64 v)) (ds := []) (bA 21 0) zq_7 rfl rfl ⟨hg0, hg1, hnq, hnp, hw1, hw2⟩ (fun hHeld => ?_)
        refine pu_ (i := 0) (N := some 152) (bA 21 1) ?_
        refine pu_ (i := 1) (N := some 153) (bA 21 3) ?_
        refine pu_ (i := 2) (N := some 154) (bA 21 7) ?_
        refine pu_ (i := 3) (N := some 155) (bA 21 15) ?_
        refine tk_ (i := 4) (N := some 156) (bA 21 31) ?_
        refine pu_ (i := 5) (N := some 157) (bA 21 63) ?_
        refine tk_ (i := 6) (N := some 158) (bA 21 127) ?_
        refine pu_ (i := 7) (N := some 159) (bA 21 255) ?_
        refine pu_ (i := 8) (N := some 160) (bA 21 511) ?_
        refine tk_ (i := 9) (N := some 161) (bA 21 1023) ?_
        refine pu_ (i := 10) (N := some 162) (bA 21 2047) ?_
        refine tk_ (i := 11) (N := some 163) (bA 21 4095) ?_
        refine pu_ (i := 12) (N := some 164) (bA 21 8191) ?_
        refine tk_ (i := 13) (N := some 165) (bA 21 16383) ?_
        refine pu_ (i := 14) (N := some 166) (bA 21 32767) ?_
        refine pu_ (i := 15) (N := some 167) (bA 21 65535) ?_
        refine tk_ (i := 16) (N := some 168) (bA 21 131071) ?_
        refine pu_ (i := 17) (N := some 169) (bA 21 262143) ?_
        refine tk_ (i := 18) (N := some 170) (bA 21 524287) ?_
        refine pu_ (i := 19) (N := some 171) (bA 21 1048575) ?_
        refine pu_ (i := 20) (N := some 172) (bA 21 2097151) ?_
        refine done_ zq_7 ?_
        go_wp2
        go_ret
        exact ⟨pw_below_drewN GP.out.below 1, .inl ⟨HNO.out, rfl⟩⟩
       have hb1 := bv_ hz1
       have HT : Aside0 (OppTo u nt p q) := ⟨fun h => absurd (HZ.out.symm.trans h) hz1⟩
       clear hz1
       go_wp2
       refine start_ (n := 21) (S := fun w' => w'.cell? (adr.add q) = some (.int .i64 z)) (ds := []) (bA 21 0) zq_7 rfl rfl hel (fun hHeld => ?_)
       refine pu_ (i := 0) (N := some 152) (bA 21 1) ?_
       refine pu_ (i := 1) (N := some 153) (bA 21 3) ?_
       refine pu_ (i := 2) (N := some 154) (bA 21 7) ?_
       refine of_ (i := 3) (N := some 155) (bA 21 15) ?_
       refine of_ (i := 4) (N := some 156) (bA 21 31) ?_
       refine of_ (i := 5) (N := some 157) (bA 21 63) ?_
       refine of_ (i := 6) (N := some 158) (bA 21 127) ?_
       refine of_ (i := 7) (N := some 159) (bA 21 255) ?_
       refine of_ (i := 8) (N := some 160) (bA 21 511) ?_
       refine of_ (i := 9) (N := some 161) (bA 21 1023) ?_
       refine of_ (i := 10) (N := some 162) (bA 21 2047) ?_
       refine of_ (i := 11) (N := some 163) (bA 21 4095) ?_
       refine of_ (i := 12) (N := some 164) (bA 21 8191) ?_
       refine of_ (i := 13) (N := some 165) (bA 21 16383) ?_
       refine of_ (i := 14) (N := some 166) (bA 21 32767) ?_
       refine of_ (i := 15) (N := some 167) (bA 21 65535) ?_
       refine of_ (i := 16) (N := some 168) (bA 21 131071) ?_
       refine of_ (i := 17) (N := some 169) (bA 21 262143) ?_
       refine of_ (i := 18) (N := some 170) (bA 21 524287) ?_
       refine of_ (i := 19) (N := some 171) (bA 21 1048575) ?_
       refine pu_ (i := 20) (N := some 172) (bA 21 2097151) ?_
       refine done_ zq_7 ?_
       go_wp2
       go_roundw
       case rel => exact ⟨q + 1, (by omega), (by go_num), ⟨fun d hd => if h : d < q then HR.out d h else (show d = q by omega) ▸ HT.out⟩, ⟨pw_below_drewN HBW.out 1⟩⟩
       case measure => simp [intOf]; omega
      have HT : Aside0 (∀ b, b < u.length → OppTo u nt p b) := ⟨fun b hb => HR.out b (by omega)⟩
      clear HR
      go_wp2
      go_roundw
      case rel => exact ⟨p + 1, (by omega), (by go_num), ⟨fun d hd => if h : d < p then HQ.out d h else (show d = p by omega) ▸ HT.out⟩, GP⟩
      case measure => simp [intOf]; omega
    have HOL : Aside0 (OL u nt) := ⟨HL.out, HE.out, HP2.out, fun a ha => HQ.out a (by omega)⟩
    clear HQ HP2
    obtain ⟨ml, hml, hmlt, hmle⟩ := HL.out.least
    have hl0 : 0 ≤ leastI u := by omega
    have hl1 : leastI u < (nt.length : Int) := by have := HE.out; omega
    have hl2 : leastI u < (u.length : Int) := by omega
    clear hml hmlt hmle
    obtain ⟨adn, eA, hnl⟩ := Kd.at_int (Kd.C_below HN.out GP.out.below) (leastI u) hl0 hl1
    subst eA
    have hg1 : wr.cell? ⟨gb, 1, none⟩ = some (.slice (some adn) nt.length cn) := (blk_cell GP.out.box 1).trans rfl
    have hg4 : wr.cell? ⟨g, 4, none⟩ = some (.int .i64 (leastI u)) := (blk_cell GP.out.alg 4).trans rfl
    have hq5 : wr.cell? ⟨g, 5, none⟩ = some (.int .i64 0) := (blk_cell GP.out.alg 5).trans rfl
    have hz5 := blk_frozen GP.out.alg 5
    go_wp2
    refine start_ (n := 12) (S := fun w' => w'.cell? ⟨gb, 1, none⟩ = some (.slice (some adn) nt.length cn) ∧ w'.cell? ⟨g, 4, none⟩ = some (.int .i64 (leastI u)) ∧ w'.cell? (adn.add (leastI u).toNat) = some (.int .i64 (rd nt (leastI u)))) (ds := [11]) (bA 12 0) zq_7 rfl rfl ⟨hg1, hg4, hnl⟩ (fun hHeld => ?_)
    refine pu_ (i := 0) (N := some 175) (bA 12 1) ?_
    refine pu_ (i := 1) (N := some 176) (bA 12 3) ?_
    refine tk_ (i := 2) (N := some 177) (bA 12 7) ?_
    refine pu_ (i := 3) (N := some 178) (bA 12 15) ?_
    refine pu_ (i := 4) (N := some 179) (bA 12 31) ?_
    refine pu_ (i := 5) (N := some 180) (bA 12 63) ?_
    refine tk_ (i := 6) (N := some 181) (bA 12 127) ?_
    refine pu_ (i := 7) (N := some 182) (bA 12 255) ?_
    refine tk_ (i := 8) (N := some 183) (bA 12 511) ?_
    refine pu_ (i := 9) (N := some 184) (bA 12 1023) ?_
    refine pu_ (i := 10) (N := some 185) (bA 12 2047) ?_
    have hq6 : wr.drew.cell? ⟨g, 5, none⟩ = some (.int .i64 0) := hq5
    have hz6 : wr.drew.frozen? ⟨g, 5, none⟩ = false := hz5
    refine last_ (i := 11) (N := none) (bA 12 4095) rfl rfl zq_7 (by decide) (fun K hK => ?_)
    refine skip_ (w1 := ?_) (by rfl) rfl ?_ ?_
    rotate_left
    ·
     go_simp
     rfl
    refine hK.out _ _ ?_
    clear hK K
    refine done_ zq_7 ?_
    go_wp2
    go_ret
    have GZ := (GP.out.drewN 1).setYes (rd nt (leastI u))
    refine ⟨GZ.below, .inr ⟨HOL.out, g, rfl, HGG.out, _, _, _, _, _, _, _, _, GZ.alg, Kd.C_below HU.out GZ.below, HC.out, (Kd.R_reads' GZ.A).2.2, (Kd.R_reads' GZ.A).2.1, (Kd.R_reads' GZ.O).2.2, (Kd.R_reads' GZ.O).2.1, Kd.C_below HN.out GZ.below, HCN.out⟩⟩
set_option maxHeartbeats 4000000 in
set_option maxRecDepth 100000 in
theorem told_len (Au : Option Addr) (cu : Nat) (u : List (List Int)) (An : Option Addr) (cn : Nat) (nt : List Int) (w : World)
    (hu : Kd.C (Kd.slice 3 (Kd.int .i64)) w Au u.length u) (hcu : u.length ≤ cu) (h : Lat u) (hlen : nt.length ≠ u.length) :
    Calls Try.prog 53 #[.agg #[.slice Au u.length cu, .slice An nt.length cn]] w fun e w' => e = .returned (.pointer none) ∧ Below w.heap.size w w' := by
  have HU := Aside0.mk hu
  have HC := Aside0.mk hcu
  clear hu hcu
  have HB := Aside0.mk (Below.refl w.heap.size w)
  have hb1 : ((nt.length : Int) == (u.length : Int)) = false := by
    rw [beq_eq_false_iff_ne]
    omega
  have hb2 : ((nt.length : Int) != (u.length : Int)) = true := by
    rw [bne_iff_ne]
    omega
  clear hlen
  obtain ⟨kk, hk⟩ := Ev.get (Q.impl_lat_ev u)
  rw [decide_eq_true h] at hk
  have HL := Aside0.mk hk
  clear hk h
  go_enter Try.func53, Try.ntmps53
  go_wp2_with (first
    | ((with_reducible refine gate_dst (N := 1) rfl ?_); refine box_event ?hg (N := 1) ?hd (cs := #[.slice Au u.length cu, .slice An nt.length cn]) (t := 29) ?hr ?_; (case hd => rfl); (case hg => rfl); (case hr => first | (go_simp; done) | (go_simp; rfl)); intro gb hg w4 hbox hb; have hc0 : w4.cell? ⟨gb, 0, none⟩ = some (.slice Au u.length cu) := (blk_cell hbox 0).trans rfl; have hc1 : w4.cell? ⟨gb, 1, none⟩ = some (.slice An nt.length cn) := (blk_cell hbox 1).trans rfl; have HB4 := Aside0.mk hb; have HX := Aside0.mk hbox; have HG := Aside0.mk hg; clear hb hg hbox)
    | (go_at_call 92; (with_reducible refine (impl_LatticeOk.calls kk _ _ u true _ ?s1 ?s2 HL.out).mono ?_); (case s1 => repeat (first | exact (Kd.C_below HU.out HB4.out) | (with_reducible refine Kd.C_alloc ?_ _) | (with_reducible refine Kd.C_drewN ?_ _) | (with_reducible refine Kd.C_drew ?_))); (case s2 => exact HC.out); rintro e w5 ⟨rfl, hD⟩; have HX5 := Aside0.mk (blk_below HX.out hD); have HB5 := Aside0.mk (below_step HB4.out hD); have hd0 : w5.cell? ⟨gb, 0, none⟩ = some (.slice Au u.length cu) := (blk_cell HX5.out 0).trans rfl; have hd1 : w5.cell? ⟨gb, 1, none⟩ = some (.slice An nt.length cn) := (blk_cell HX5.out 1).trans rfl; clear hD))
  go_ret
  exact ⟨rfl, (by repeat (first | (with_reducible first | exact HB5.out | apply below_alloc | apply pw_below_drewN | apply below_drew1) | exact HB5.out))⟩
theorem told_calls (Au : Option Addr) (cu : Nat) (u : List (List Int)) (An : Option Addr) (cn : Nat) (nt : List Int) (w : World)
    (hu : Kd.C (Kd.slice 3 (Kd.int .i64)) w Au u.length u) (hcu : u.length ≤ cu) (hn : Kd.C (Kd.int .i64) w An nt.length nt) (hcn : nt.length ≤ cn) :
    Calls Try.prog 53 #[.agg #[.slice Au u.length cu, .slice An nt.length cn]] w fun e w' => Below w.heap.size w w' ∧
      ((¬ OL u nt ∧ e = .returned (.pointer none)) ∨ (OL u nt ∧ ∃ g, e = .returned (.pointer (some ⟨g, 0, none⟩)) ∧ w.heap.size ≤ g ∧ AlgAt w' g u (mtab u) (jtab u) nt (leastI u) (rd nt (leastI u)))) := by
  by_cases h : Lat u
  · by_cases hlen : nt.length = u.length
    · exact told_lat Au cu u An cn nt w hu hcu hn hcn h hlen
    · exact (told_len Au cu u An cn nt w hu hcu h hlen).mono fun e w' k => ⟨k.2, .inl ⟨fun o => hlen o.2.1, k.1⟩⟩
  · exact (told_nolat Au cu u An cn nt w hu hcu h).mono fun e w' k => ⟨k.2, .inl ⟨fun o => h o.1, k.1⟩⟩
theorem told_none (Au : Option Addr) (cu : Nat) (u : List (List Int)) (An : Option Addr) (cn : Nat) (nt : List Int) (w : World)
    (hu : Kd.C (Kd.slice 3 (Kd.int .i64)) w Au u.length u) (hcu : u.length ≤ cu) (hn : Kd.C (Kd.int .i64) w An nt.length nt) (hcn : nt.length ≤ cn) (h : ¬ OL u nt) :
    Calls Try.prog 53 #[.agg #[.slice Au u.length cu, .slice An nt.length cn]] w fun e w' => e = .returned (.pointer none) ∧ Below w.heap.size w w' :=
  (told_calls Au cu u An cn nt w hu hcu hn hcn).mono fun e w' k => ⟨(k.2.resolve_right fun q => h q.1).2, k.1⟩
theorem told_some (Au : Option Addr) (cu : Nat) (u : List (List Int)) (An : Option Addr) (cn : Nat) (nt : List Int) (w : World)
    (hu : Kd.C (Kd.slice 3 (Kd.int .i64)) w Au u.length u) (hcu : u.length ≤ cu) (hn : Kd.C (Kd.int .i64) w An nt.length nt) (hcn : nt.length ≤ cn) (h : OL u nt) :
    Calls Try.prog 53 #[.agg #[.slice Au u.length cu, .slice An nt.length cn]] w fun e w' => ∃ g, e = .returned (.pointer (some ⟨g, 0, none⟩)) ∧ w.heap.size ≤ g ∧ AlgAt w' g u (mtab u) (jtab u) nt (leastI u) (rd nt (leastI u)) ∧ Below w.heap.size w w' :=
  (told_calls Au cu u An cn nt w hu hcu hn hcn).mono fun e w' k => by
    obtain ⟨hb, ⟨h1, _⟩ | ⟨_, g, h1, h2, h3⟩⟩ := k
    · exact absurd h h1
    · exact ⟨g, h1, h2, h3, hb⟩
set_option linter.unusedSimpArgs false
theorem ng_in {u : List (List Int)} {nt : List Int} (h : OL u nt) {a : Int} (ha : 0 ≤ a ∧ a < u.length) : 0 ≤ rd nt a ∧ rd nt a < u.length := by
 obtain ⟨n, rfl, hn⟩ := Q.nat_of ha
 exact (h.2.2.1 n hn).1
theorem cell_np {w : World} {B : Nat} {t : TypeId} {q : Option Addr} (hB : w.heap[B]? = some (.cells #[.pointer q] t (0, 0))) (y : Value) {p : Addr} {v : Value} (h : w.cell? p = some v) (hv : ∀ r, v ≠ .pointer r) : (w.setCell ⟨B, 0, none⟩ y).cell? p = some v := by
 by_cases e : p.block = B
 ·
  exfalso
  unfold World.cell? at h
  rw [e, hB] at h
  simp only at h
  split at h
  ·
   cases h
  rcases Nat.eq_zero_or_pos p.off with z | z
  ·
   rw [z] at h
   simp at h
   exact hv q h.symm
  have : (#[Value.pointer q] : Array Value)[p.off]? = none := by simp; omega
  rw [this] at h
  cases h
 have h2 : (w.setCell ⟨B, 0, none⟩ y).heap[p.block]? = w.heap[p.block]? := Below.heap_setCell w ⟨B, 0, none⟩ y p.block e
 unfold World.cell? at h ⊢
 rw [h2]
 exact h
theorem ints_np {w w1 : World} (hc : ∀ {p v}, w.cell? p = some v → (∀ r, v ≠ .pointer r) → w1.cell? p = some v) {A : Option Addr} {n : Nat} {xs : List Int} (h : Kd.C (Kd.int .i64) w A n xs) : Kd.C (Kd.int .i64) w1 A n xs := by
 refine ⟨h.1, h.2.1, fun hn => ?_⟩
 obtain ⟨ad, e, q⟩ := h.2.2 hn
 refine ⟨ad, e, fun j p hj => ?_⟩
 obtain ⟨c, hs, hr, hcell⟩ := q j p hj
 refine ⟨c, hs, hr, fun i u hu => hc (hcell i u hu) (fun r e2 => ?_)⟩
 have : c = [Value.int .i64 p] := hr
 subst this
 subst e2
 cases i with
 | zero => simp at hu
 | succ i => simp at hu
theorem rows_np {w w1 : World} (hc : ∀ {p v}, w.cell? p = some v → (∀ r, v ≠ .pointer r) → w1.cell? p = some v) {A : Option Addr} {n : Nat} {xs : List (List Int)} (h : Kd.C (Kd.slice 3 (Kd.int .i64)) w A n xs) : Kd.C (Kd.slice 3 (Kd.int .i64)) w1 A n xs := by
 refine ⟨h.1, h.2.1, fun hn => ?_⟩
 obtain ⟨ad, e, q⟩ := h.2.2 hn
 refine ⟨ad, e, fun j p hj => ?_⟩
 obtain ⟨c, hs, hr, hcell⟩ := q j p hj
 obtain ⟨A1, c1, e1, hl, hi⟩ := hr
 refine ⟨c, hs, ⟨A1, c1, e1, hl, ints_np hc hi⟩, fun i u hu => hc (hcell i u hu) (fun r e2 => ?_)⟩
 subst e1
 subst e2
 cases i with
 | zero => simp at hu
 | succ i => simp at hu
theorem AlgAt.setPtr {w : World} {g B : Nat} {u a o : List (List Int)} {nt : List Int} {no yes : Int} (h : AlgAt w g u a o nt no yes) {q : Option Addr} (hB : w.heap[B]? = some (.cells #[.pointer q] 52 (0, 0))) (y : Value) : AlgAt (w.setCell ⟨B, 0, none⟩ y) g u a o nt no yes := by
 obtain ⟨Au, cu, Aa, ca, Ao, co, An, cn, h0, h1, h2, h3, h4, h5, h6, h7, h8⟩ := h
 have hc : ∀ {p v}, w.cell? p = some v → (∀ r, v ≠ .pointer r) → (w.setCell ⟨B, 0, none⟩ y).cell? p = some v := fun k l => cell_np hB y k l
 exact ⟨Au, cu, Aa, ca, Ao, co, An, cn, blk_far h0 (p := ⟨B, 0, none⟩) (blk_ne h0 hB (by decide)) y, rows_np hc h1, h2, rows_np hc h3, h4, rows_np hc h5, h6, ints_np hc h7, h8⟩
def Tl (u : List (List Int)) (nt : List Int) (x : Value) (W : World) : Prop := (OL u nt ∧ ∃ g, x = .pointer (some ⟨g, 0, none⟩) ∧ AlgAt W g u (mtab u) (jtab u) nt (leastI u) (rd nt (leastI u))) ∨ (¬ OL u nt ∧ x = .pointer none)
theorem Tl.below {u : List (List Int)} {nt : List Int} {x : Value} {W W1 : World} (h : Tl u nt x W) (hb : Below W.heap.size W W1) : Tl u nt x W1 := by
 rcases h with ⟨h1, g, e, h2⟩ | h
 ·
  exact .inl ⟨h1, g, e, h2.below hb⟩
 exact .inr h
theorem Tl.setPtr {u : List (List Int)} {nt : List Int} {x : Value} {W : World} (h : Tl u nt x W) {B : Nat} {q : Option Addr} (hB : W.heap[B]? = some (.cells #[.pointer q] 52 (0, 0))) (y : Value) : Tl u nt x (W.setCell ⟨B, 0, none⟩ y) := by
 rcases h with ⟨h1, g, e, h2⟩ | h
 ·
  exact .inl ⟨h1, g, e, h2.setPtr hB y⟩
 exact .inr h
theorem told_tl (Au : Option Addr) (cu : Nat) (u : List (List Int)) (An : Option Addr) (cn : Nat) (nt : List Int) (w : World)
 (hu : Kd.C (Kd.slice 3 (Kd.int .i64)) w Au u.length u) (hcu : u.length ≤ cu) (hn : Kd.C (Kd.int .i64) w An nt.length nt) (hcn : nt.length ≤ cn) :
 Calls Try.prog 53 #[.agg #[.slice Au u.length cu, .slice An nt.length cn]] w fun e w' => ∃ x, e = .returned x ∧ Tl u nt x w' ∧ Below w.heap.size w w' := by
 by_cases hl : OL u nt
 ·
  refine (told_some Au cu u An cn nt w hu hcu hn hcn hl).mono ?_
  rintro e w' ⟨g, rfl, _, hA, hb⟩
  exact ⟨_, rfl, .inl ⟨hl, g, rfl, hA⟩, hb⟩
 refine (told_none Au cu u An cn nt w hu hcu hn hcn hl).mono ?_
 rintro e w' ⟨rfl, hb⟩
 exact ⟨_, rfl, .inr ⟨hl, rfl⟩, hb⟩
theorem Tl.ptr {u : List (List Int)} {nt : List Int} {x : Value} {W : World} (h : Tl u nt x W) : ∃ p, x = .pointer p := by
 rcases h with ⟨_, g, e, _⟩ | ⟨_, e⟩
 ·
  exact ⟨_, e⟩
 exact ⟨_, e⟩
def TmF (u : List (List Int)) (nt : List Int) (v : List (List Int)) (mtt : List Int) (w3 : World) (p1 p2 s6 s7 : Bool) (s : Value × Value × Nat × Nat) (W : World) : Prop :=
 Below w3.heap.size w3 W ∧ (p1 = true → Tl u nt s.1 W) ∧ (p2 = true → Tl v mtt s.2.1 W) ∧ (s6 = true → W.heap[s.2.2.1]? = some (.cells #[.pointer none] 52 (0, 0)) ∧ w3.heap.size ≤ s.2.2.1) ∧ (s7 = true → W.heap[s.2.2.2]? = some (.cells #[.pointer none] 52 (0, 0)) ∧ w3.heap.size ≤ s.2.2.2) ∧ (s6 = true → s7 = true → s.2.2.1 ≠ s.2.2.2)
section
variable {u : List (List Int)} {nt : List Int} {v : List (List Int)} {mtt : List Int} {w3 W W1 : World} {p1 p2 s6 s7 : Bool} {s : Value × Value × Nat × Nat}
theorem TmF.start (W : World) (s : Value × Value × Nat × Nat) : TmF u nt v mtt W false false false false s W := ⟨Below.refl _ _, fun h => (by cases h), fun h => (by cases h), fun h => (by cases h), fun h => (by cases h), fun h => (by cases h)⟩
theorem TmF.below (h : TmF u nt v mtt w3 p1 p2 s6 s7 s W) : Below w3.heap.size w3 W := h.1
theorem TmF.call1 (h : TmF u nt v mtt w3 p1 p2 s6 s7 s W) (hb : Below W.heap.size W W1) {x : Value} (hx : Tl u nt x W1) : TmF u nt v mtt w3 true p2 s6 s7 (x, s.2) W1 :=
 ⟨below_step h.1 hb, fun _ => hx, fun k => (h.2.2.1 k).below hb, fun k => ⟨blk_below (h.2.2.2.1 k).1 hb, (h.2.2.2.1 k).2⟩, fun k => ⟨blk_below (h.2.2.2.2.1 k).1 hb, (h.2.2.2.2.1 k).2⟩, h.2.2.2.2.2⟩
theorem TmF.call2 (h : TmF u nt v mtt w3 p1 p2 s6 s7 s W) (hb : Below W.heap.size W W1) {x : Value} (hx : Tl v mtt x W1) : TmF u nt v mtt w3 p1 true s6 s7 (s.1, x, s.2.2) W1 :=
 ⟨below_step h.1 hb, fun k => (h.2.1 k).below hb, fun _ => hx, fun k => ⟨blk_below (h.2.2.2.1 k).1 hb, (h.2.2.2.1 k).2⟩, fun k => ⟨blk_below (h.2.2.2.2.1 k).1 hb, (h.2.2.2.2.1 k).2⟩, h.2.2.2.2.2⟩
theorem TmF.new6 (h : TmF u nt v mtt w3 p1 p2 s6 s7 s W) : TmF u nt v mtt w3 p1 p2 true s7 (s.1, s.2.1, W.heap.size, s.2.2.2) (W.alloc (.cells #[.pointer none] 52 (0, 0))) :=
 have hb := below_alloc (Below.refl W.heap.size W) (.cells #[.pointer none] 52 (0, 0))
 ⟨below_step h.1 hb, fun k => (h.2.1 k).below hb, fun k => (h.2.2.1 k).below hb, fun _ => ⟨blk_new _ _, below_size h.1⟩, fun k => ⟨blk_below (h.2.2.2.2.1 k).1 hb, (h.2.2.2.2.1 k).2⟩, fun _ k => (Nat.ne_of_lt (blk_lt (h.2.2.2.2.1 k).1)).symm⟩
theorem TmF.new7 (h : TmF u nt v mtt w3 p1 p2 s6 s7 s W) : TmF u nt v mtt w3 p1 p2 s6 true (s.1, s.2.1, s.2.2.1, W.heap.size) (W.alloc (.cells #[.pointer none] 52 (0, 0))) :=
 have hb := below_alloc (Below.refl W.heap.size W) (.cells #[.pointer none] 52 (0, 0))
 ⟨below_step h.1 hb, fun k => (h.2.1 k).below hb, fun k => (h.2.2.1 k).below hb, fun k => ⟨blk_below (h.2.2.2.1 k).1 hb, (h.2.2.2.1 k).2⟩, fun _ => ⟨blk_new _ _, below_size h.1⟩, fun k _ => Nat.ne_of_lt (blk_lt (h.2.2.2.1 k).1)⟩
end
theorem under_reads {w : World} {g : Nat} {u : List (List Int)} {nt : List Int} {no yes : Int} (h : AlgAt w g u (mtab u) (jtab u) nt no yes) (hl : OL u nt) {a b : Nat} (ha : a < u.length) (hb : b < u.length) :
 ∃ (v : Int) (ad ar : Addr) (bu c1 : Nat), rdN u a b = v ∧ w.cell? ⟨g, 0, none⟩ = some (.slice (some ad) u.length bu) ∧ w.cell? (ad.add a) = some (.slice (some ar) u.length c1) ∧ w.cell? (ar.add b) = some (.int .i64 v) := by
 obtain ⟨Bu, bu, Ba, ba, Bo, be, Bn, bn, h0, h1, h2, h3, h4, h5, h6, h7, h8⟩ := h
 obtain ⟨ad, A0, c1, e1, k1, k2, k3⟩ := at_L1 h1 (a : Int) (by omega) (by omega)
 have hr : (rd_L1 u (a : Int)).length = u.length := by rw [Q.row_nat]; exact hl.1.1.row ha
 rw [hr] at k1 k3
 obtain ⟨ar, e2, k4⟩ := Kd.at_int k3 (b : Int) (by omega) (by omega)
 subst e1
 subst e2
 rw [Q.at_nat] at k4
 simp only [Int.toNat_natCast] at k1 k4
 exact ⟨_, ad, ar, bu, c1, rfl, (blk_cell h0 0).trans rfl, k1, k4⟩
theorem not_reads {w : World} {g : Nat} {u : List (List Int)} {nt : List Int} {no yes : Int} (h : AlgAt w g u (mtab u) (jtab u) nt no yes) (hl : OL u nt) {a : Nat} (ha : a < u.length) :
 ∃ (z : Int) (an : Addr) (bn : Nat), rd nt (a : Int) = z ∧ (0 ≤ z ∧ z < (u.length : Int)) ∧ w.cell? ⟨g, 3, none⟩ = some (.slice (some an) u.length bn) ∧ w.cell? (an.add a) = some (.int .i64 z) := by
 obtain ⟨Bu, bu, Ba, ba, Bo, be, Bn, bn, h0, h1, h2, h3, h4, h5, h6, h7, h8⟩ := h
 have hz := ng_in hl (a := (a : Int)) ⟨(by omega), (by omega)⟩
 rw [hl.2.1] at h0
 obtain ⟨an, e5, k9⟩ := Kd.at_int h7 (a : Int) (by omega) (by rw [hl.2.1]; omega)
 subst e5
 rw [Int.toNat_natCast] at k9
 exact ⟨_, an, bn, rfl, hz, (blk_cell h0 3).trans rfl, k9⟩
theorem qa_ {i n q : Nat} (e : i / n = q) : Int.tdiv (i : Int) (n : Int) = (q : Int) := by
 rw [Int.tdiv_eq_ediv_of_nonneg (Int.natCast_nonneg _), ← e]
 exact (Int.natCast_ediv i n).symm
theorem qb_ {i n q : Nat} (e : i / n = q) (h : q < 200) : wrap64 (Int.tdiv (i : Int) (n : Int)) = (q : Int) := by
 rw [qa_ e]
 clear e
 exact Q.wrap_of _ (by omega) (by omega)
theorem qc_ {i n q : Nat} (e : i / n = q) (h : q < 200) : IntKind.i64.wrap (Int.tdiv (i : Int) (n : Int)) = (q : Int) := (i64_w _).trans (qb_ e h)
theorem qd_ {i n q : Nat} (e : i / n = q) : (i : Int) / (n : Int) = (q : Int) := by rw [← e]; exact (Int.natCast_ediv i n).symm
theorem pa_ {i n p : Nat} (e : i % n = p) : Int.tmod (i : Int) (n : Int) = (p : Int) := by
 rw [Int.tmod_eq_emod_of_nonneg (Int.natCast_nonneg _), ← e]
 exact (Int.natCast_emod i n).symm
theorem pd_ {i n p : Nat} (e : i % n = p) : (i : Int) % (n : Int) = (p : Int) := by rw [← e]; exact (Int.natCast_emod i n).symm
theorem qe_ {i n q : Nat} (e : i / n = q) (h : q < 200) : IntKind.i64.wrap ((i : Int) / (n : Int)) = (q : Int) := by
 rw [qd_ e, i64_w]
 clear e
 exact Q.wrap_of _ (by omega) (by omega)
theorem pe_ {i n p : Nat} (e : i % n = p) (h : p < 200) : IntKind.i64.wrap ((i : Int) % (n : Int)) = (p : Int) := by
 rw [pd_ e, i64_w]
 clear e
 exact Q.wrap_of _ (by omega) (by omega)
theorem n0_ {n : Nat} (h : 0 < n) : ¬ n = 0 := by omega
theorem na_ {n : Nat} (h : 0 < n) : ¬ (n : Int) = 0 := by omega
theorem nb_ {n : Nat} (h : 0 < n) : ((n : Int) == 0) = false := by rw [beq_eq_false_iff_ne]; exact na_ h
theorem nc_ {n : Nat} (h : 0 < n) : decide ((n : Int) = 0) = false := dF_ (na_ h)
theorem r0_ (q : Nat) : (0 : Int) ≤ (q : Int) := Int.natCast_nonneg _
theorem r1_ {q n : Nat} (h : q < n) : (q : Int) < (n : Int) := Int.ofNat_lt.2 h
theorem lt200_ {q n : Nat} (h : q < n) (h2 : n ≤ 12) : q < 200 := by omega
theorem mul_small {x : Int} {n m : Nat} (h0 : 0 ≤ x) (h1 : x < (m : Int)) (hm : m ≤ 12) (hn : n ≤ 12) : 0 ≤ x * (n : Int) ∧ x * (n : Int) ≤ 200 :=
 ⟨Int.mul_nonneg h0 (by omega), Int.le_trans (Int.mul_le_mul (show x ≤ 12 by omega) (show (n : Int) ≤ 12 by omega) (by omega) (by omega)) (by decide)⟩
theorem wrap_sm {x : Int} (h : 0 ≤ x ∧ x ≤ 1000) : wrap64 x = x := Q.wrap_of _ (by omega) (by omega)
theorem div_lt_ {i n m q : Nat} (h : i < m * n) (e : i / n = q) : q < m := by rw [← e]; exact Nat.div_lt_of_lt_mul (by rw [Nat.mul_comm]; exact h)
theorem mod_lt_ {i n p : Nat} (h : 0 < n) (e : i % n = p) : p < n := by rw [← e]; exact Nat.mod_lt _ h
theorem sum_sm {x y : Int} {n : Nat} (h : 0 ≤ x ∧ x ≤ 200) (h0 : 0 ≤ y) (h1 : y < (n : Int)) (hn : n ≤ 12) : 0 ≤ x + y ∧ x + y ≤ 1000 := by omega
set_option maxHeartbeats 8000000 in
set_option maxRecDepth 100000 in
theorem times1y {w : World} {gx gy Bx By Bn : Nat} {u : List (List Int)} {nt : List Int} {v : List (List Int)} {mtt : List Int} {no1 yes1 no2 yes2 : Int} (hx : AlgAt w gx u (mtab u) (jtab u) nt no1 yes1) (hy : AlgAt w gy v (mtab v) (jtab v) mtt no2 yes2) (hl1 : OL u nt) (hl2 : OL v mtt)
 (bx : w.cell? ⟨Bx, 0, none⟩ = some (.pointer (some ⟨gx, 0, none⟩))) (by_ : w.cell? ⟨By, 0, none⟩ = some (.pointer (some ⟨gy, 0, none⟩))) {n : Nat} (hn : v.length = n) (bn_ : w.cell? ⟨Bn, 0, none⟩ = some (.int .i64 (n : Int))) {i k : Nat} (hi : i < u.length * n) (hk : k < u.length * n) (hfirst :  rdN u (i / n) (k / n) = 1) :
 Calls Try.prog 78 (#[.int .i64 i, .int .i64 k] ++ #[.pointer (some ⟨Bx, 0, none⟩), .pointer (some ⟨Bn, 0, none⟩), .pointer (some ⟨By, 0, none⟩)]) w fun e w2 => e = .returned (.bool (timesB u v n i k)) ∧ Drawn0 w w2 := by
 obtain ⟨q1, eq1⟩ : ∃ q, i / n = q := ⟨_, rfl⟩
 obtain ⟨p1, ep1⟩ : ∃ p, i % n = p := ⟨_, rfl⟩
 have hn0 : 0 < n := hn ▸ hl2.1.1.pos
 have hq1 : q1 < u.length := div_lt_ hi eq1
 have hp1 : p1 < n := mod_lt_ hn0 ep1
 have hn12 : n ≤ 12 := hn ▸ hl2.1.1.le12
 have hu12 := hl1.1.1.le12
 obtain ⟨q2, eq2⟩ : ∃ q, k / n = q := ⟨_, rfl⟩
 obtain ⟨p2, ep2⟩ : ∃ p, k % n = p := ⟨_, rfl⟩
 have hq2 : q2 < u.length := div_lt_ hk eq2
 have hp2 : p2 < n := mod_lt_ hn0 ep2
 unfold timesB
 rw [eq1, eq2] at hfirst
 rw [eq1, eq2, ep1, ep2]
 obtain ⟨x, adu, aru, bu, c1, ex, f1, f3, f4⟩ := under_reads hx hl1 hq1 hq2
 obtain ⟨y, adv, arv, bv, c2, ey, f6, f7, f8⟩ := under_reads hy hl2 (a := p1) (b := p2) (hn ▸ hp1) (hn ▸ hp2)
 rw [hn] at f6 f7
 rw [ex] at hfirst
 subst hfirst
 rw [ex, ey]
 rw [show decide ((1 : Int) = 1 ∧ y = 1) = (y == 1) by rw [Bool.eq_iff_iff, decide_eq_true_iff, beq_iff_eq]; exact ⟨fun q => q.2, fun q => ⟨rfl, q⟩⟩]
 obtain ⟨R, eR⟩ : ∃ R, (y == 1) = R := ⟨_, rfl⟩
 rw [eR]
 have HR := ak eR
 clear eR
 have f5 := by_
 have f0 := bx
 have f2 := bn_
 have hq1b : wrap64 (Int.tdiv (i : Int) (n : Int)) = (q1 : Int) := qb_ eq1 (lt200_ hq1 hu12)
 have hq1c : IntKind.i64.wrap (Int.tdiv (i : Int) (n : Int)) = (q1 : Int) := qc_ eq1 (lt200_ hq1 hu12)
 have hq1e : IntKind.i64.wrap ((i : Int) / (n : Int)) = (q1 : Int) := qe_ eq1 (lt200_ hq1 hu12)
 have hp1a : Int.tmod (i : Int) (n : Int) = (p1 : Int) := pa_ ep1
 have hp1e : IntKind.i64.wrap ((i : Int) % (n : Int)) = (p1 : Int) := pe_ ep1 (lt200_ hp1 hn12)
 have hp1d : (i : Int) % (n : Int) = (p1 : Int) := pd_ ep1
 have hq2b : wrap64 (Int.tdiv (k : Int) (n : Int)) = (q2 : Int) := qb_ eq2 (lt200_ hq2 hu12)
 have hq2c : IntKind.i64.wrap (Int.tdiv (k : Int) (n : Int)) = (q2 : Int) := qc_ eq2 (lt200_ hq2 hu12)
 have hq2e : IntKind.i64.wrap ((k : Int) / (n : Int)) = (q2 : Int) := qe_ eq2 (lt200_ hq2 hu12)
 have hp2a : Int.tmod (k : Int) (n : Int) = (p2 : Int) := pa_ ep2
 have hp2e : IntKind.i64.wrap ((k : Int) % (n : Int)) = (p2 : Int) := pe_ ep2 (lt200_ hp2 hn12)
 have hp2d : (k : Int) % (n : Int) = (p2 : Int) := pd_ ep2
 have hn00 : ¬ n = 0 := n0_ hn0
 have hna : ¬ (n : Int) = 0 := na_ hn0
 have hnb : ((n : Int) == 0) = false := nb_ hn0
 have hnc : decide ((n : Int) = 0) = false := nc_ hn0
 have r0q1 : (0 : Int) ≤ q1 := r0_ q1
 have r1q1 : (q1 : Int) < (u.length : Int) := r1_ hq1
 have r0q2 : (0 : Int) ≤ q2 := r0_ q2
 have r1q2 : (q2 : Int) < (u.length : Int) := r1_ hq2
 have r0p1 : (0 : Int) ≤ p1 := r0_ p1
 have r1p1 : (p1 : Int) < (n : Int) := r1_ hp1
 have r0p2 : (0 : Int) ≤ p2 := r0_ p2
 have r1p2 : (p2 : Int) < (n : Int) := r1_ hp2
 clear hx hy hl1 hl2 bx by_ bn_ hn ex hi hk eq1 eq2 ep1 ep2 hq1 hq2 hp1 hp2 hn0 hn12 hu12 ey
 go_enter Try.func78, Try.ntmps78
 try go_wp2
 refine start_ (n := 33) (S := fun w' => w'.cell? ⟨Bx, 0, none⟩ = some (.pointer (some ⟨gx, 0, none⟩)) ∧ w'.cell? ⟨gx, 0, none⟩ = some (.slice (some adu) u.length bu) ∧ w'.cell? ⟨Bn, 0, none⟩ = some (.int .i64 (n : Int)) ∧ w'.cell? (adu.add q1) = some (.slice (some aru) u.length c1) ∧ w'.cell? (aru.add q2) = some (.int .i64 1) ∧ w'.cell? ⟨By, 0, none⟩ = some (.pointer (some ⟨gy, 0, none⟩)) ∧ w'.cell? ⟨gy, 0, none⟩ = some (.slice (some adv) n bv) ∧ w'.cell? (adv.add p1) = some (.slice (some arv) n c2) ∧ w'.cell? (arv.add p2) = some (.int .i64 y)) (ds := []) (bA 33 0) (by kernel_rfl) rfl rfl ⟨f0, f1, f2, f3, f4, f5, f6, f7, f8⟩ (fun hHeld => ?_)
 refine tk_ (i := 0) (N := some 8) (bA 33 1) ?_
 refine pu_ (i := 1) (N := some 9) (bA 33 3) ?_
 refine pu_ (i := 2) (N := some 10) (bA 33 7) ?_
 refine tk_ (i := 3) (N := some 11) (bA 33 15) ?_
 refine pu_ (i := 4) (N := some 12) (bA 33 31) ?_
 refine tk_ (i := 5) (N := some 13) (bA 33 63) ?_
 refine pu_ (i := 6) (N := some 14) (bA 33 127) ?_
 refine pu_ (i := 7) (N := some 15) (bA 33 255) ?_
 refine tk_ (i := 8) (N := some 16) (bA 33 511) ?_
 refine pu_ (i := 9) (N := some 17) (bA 33 1023) ?_
 refine tk_ (i := 10) (N := some 18) (bA 33 2047) ?_
 refine pu_ (i := 11) (N := some 19) (bA 33 4095) ?_
 refine pu_ (i := 12) (N := some 20) (bA 33 8191) ?_
 refine tk_ (i := 13) (N := some 21) (bA 33 16383) ?_
 refine pu_ (i := 14) (N := some 22) (bA 33 32767) ?_
 refine pu_ (i := 15) (N := some 23) (bA 33 65535) ?_
 refine tk_ (i := 16) (N := some 24) (bA 33 131071) ?_
 refine pu_ (i := 17) (N := some 25) (bA 33 262143) ?_
 refine pu_ (i := 18) (N := some 26) (bA 33 524287) ?_
 refine tk_ (i := 19) (N := some 27) (bA 33 1048575) ?_
 refine pu_ (i := 20) (N := some 28) (bA 33 2097151) ?_
 refine tk_ (i := 21) (N := some 29) (bA 33 4194303) ?_
 refine pu_ (i := 22) (N := some 30) (bA 33 8388607) ?_
 refine pu_ (i := 23) (N := some 31) (bA 33 16777215) ?_
 refine tk_ (i := 24) (N := some 32) (bA 33 33554431) ?_
 refine pu_ (i := 25) (N := some 33) (bA 33 67108863) ?_
 refine tk_ (i := 26) (N := some 34) (bA 33 134217727) ?_
 refine pu_ (i := 27) (N := some 35) (bA 33 268435455) ?_
 refine pu_ (i := 28) (N := some 36) (bA 33 536870911) ?_
 refine tk_ (i := 29) (N := some 37) (bA 33 1073741823) ?_
 refine pu_ (i := 30) (N := some 38) (bA 33 2147483647) ?_
 refine pu_ (i := 31) (N := some 39) (bA 33 4294967295) ?_
 refine pu_ (i := 32) (N := some 7) (bA 33 8589934591) ?_
 refine done_ (by kernel_rfl) ?_
 try go_wp2
 go_ret
 exact ⟨(by rw [← HR.out]; rfl), ⟨_, rfl⟩⟩
set_option maxHeartbeats 8000000 in
set_option maxRecDepth 100000 in
theorem times1n {w : World} {gx gy Bx By Bn : Nat} {u : List (List Int)} {nt : List Int} {v : List (List Int)} {mtt : List Int} {no1 yes1 no2 yes2 : Int} (hx : AlgAt w gx u (mtab u) (jtab u) nt no1 yes1) (hy : AlgAt w gy v (mtab v) (jtab v) mtt no2 yes2) (hl1 : OL u nt) (hl2 : OL v mtt)
 (bx : w.cell? ⟨Bx, 0, none⟩ = some (.pointer (some ⟨gx, 0, none⟩))) (by_ : w.cell? ⟨By, 0, none⟩ = some (.pointer (some ⟨gy, 0, none⟩))) {n : Nat} (hn : v.length = n) (bn_ : w.cell? ⟨Bn, 0, none⟩ = some (.int .i64 (n : Int))) {i k : Nat} (hi : i < u.length * n) (hk : k < u.length * n) (hfirst : ¬ rdN u (i / n) (k / n) = 1) :
 Calls Try.prog 78 (#[.int .i64 i, .int .i64 k] ++ #[.pointer (some ⟨Bx, 0, none⟩), .pointer (some ⟨Bn, 0, none⟩), .pointer (some ⟨By, 0, none⟩)]) w fun e w2 => e = .returned (.bool (timesB u v n i k)) ∧ Drawn0 w w2 := by
 obtain ⟨q1, eq1⟩ : ∃ q, i / n = q := ⟨_, rfl⟩
 obtain ⟨p1, ep1⟩ : ∃ p, i % n = p := ⟨_, rfl⟩
 have hn0 : 0 < n := hn ▸ hl2.1.1.pos
 have hq1 : q1 < u.length := div_lt_ hi eq1
 have hp1 : p1 < n := mod_lt_ hn0 ep1
 have hn12 : n ≤ 12 := hn ▸ hl2.1.1.le12
 have hu12 := hl1.1.1.le12
 obtain ⟨q2, eq2⟩ : ∃ q, k / n = q := ⟨_, rfl⟩
 obtain ⟨p2, ep2⟩ : ∃ p, k % n = p := ⟨_, rfl⟩
 have hq2 : q2 < u.length := div_lt_ hk eq2
 have hp2 : p2 < n := mod_lt_ hn0 ep2
 unfold timesB
 rw [eq1, eq2] at hfirst
 rw [eq1, eq2, ep1, ep2]
 obtain ⟨x, adu, aru, bu, c1, ex, f1, f3, f4⟩ := under_reads hx hl1 hq1 hq2
 rw [ex] at hfirst ⊢
 have hxb : (x == 1) = false := by rw [beq_eq_false_iff_ne]; exact hfirst
 have hxc : decide (x = 1) = false := dF_ hfirst
 have HR : Aside0 (decide (x = 1 ∧ rdN v p1 p2 = 1) = false) := ⟨dF_ (fun q => hfirst q.1)⟩
 have f0 := bx
 have f2 := bn_
 have hq1b : wrap64 (Int.tdiv (i : Int) (n : Int)) = (q1 : Int) := qb_ eq1 (lt200_ hq1 hu12)
 have hq1c : IntKind.i64.wrap (Int.tdiv (i : Int) (n : Int)) = (q1 : Int) := qc_ eq1 (lt200_ hq1 hu12)
 have hq1e : IntKind.i64.wrap ((i : Int) / (n : Int)) = (q1 : Int) := qe_ eq1 (lt200_ hq1 hu12)
 have hp1a : Int.tmod (i : Int) (n : Int) = (p1 : Int) := pa_ ep1
 have hp1e : IntKind.i64.wrap ((i : Int) % (n : Int)) = (p1 : Int) := pe_ ep1 (lt200_ hp1 hn12)
 have hp1d : (i : Int) % (n : Int) = (p1 : Int) := pd_ ep1
 have hq2b : wrap64 (Int.tdiv (k : Int) (n : Int)) = (q2 : Int) := qb_ eq2 (lt200_ hq2 hu12)
 have hq2c : IntKind.i64.wrap (Int.tdiv (k : Int) (n : Int)) = (q2 : Int) := qc_ eq2 (lt200_ hq2 hu12)
 have hq2e : IntKind.i64.wrap ((k : Int) / (n : Int)) = (q2 : Int) := qe_ eq2 (lt200_ hq2 hu12)
 have hp2a : Int.tmod (k : Int) (n : Int) = (p2 : Int) := pa_ ep2
 have hp2e : IntKind.i64.wrap ((k : Int) % (n : Int)) = (p2 : Int) := pe_ ep2 (lt200_ hp2 hn12)
 have hp2d : (k : Int) % (n : Int) = (p2 : Int) := pd_ ep2
 have hn00 : ¬ n = 0 := n0_ hn0
 have hna : ¬ (n : Int) = 0 := na_ hn0
 have hnb : ((n : Int) == 0) = false := nb_ hn0
 have hnc : decide ((n : Int) = 0) = false := nc_ hn0
 have r0q1 : (0 : Int) ≤ q1 := r0_ q1
 have r1q1 : (q1 : Int) < (u.length : Int) := r1_ hq1
 have r0q2 : (0 : Int) ≤ q2 := r0_ q2
 have r1q2 : (q2 : Int) < (u.length : Int) := r1_ hq2
 have r0p1 : (0 : Int) ≤ p1 := r0_ p1
 have r1p1 : (p1 : Int) < (n : Int) := r1_ hp1
 have r0p2 : (0 : Int) ≤ p2 := r0_ p2
 have r1p2 : (p2 : Int) < (n : Int) := r1_ hp2
 clear hx hy hl1 hl2 bx by_ bn_ hn ex hi hk eq1 eq2 ep1 ep2 hq1 hq2 hp1 hp2 hn0 hn12 hu12
 go_enter Try.func78, Try.ntmps78
 try go_wp2
 refine start_ (n := 33) (S := fun w' => w'.cell? ⟨Bx, 0, none⟩ = some (.pointer (some ⟨gx, 0, none⟩)) ∧ w'.cell? ⟨gx, 0, none⟩ = some (.slice (some adu) u.length bu) ∧ w'.cell? ⟨Bn, 0, none⟩ = some (.int .i64 (n : Int)) ∧ w'.cell? (adu.add q1) = some (.slice (some aru) u.length c1) ∧ w'.cell? (aru.add q2) = some (.int .i64 x)) (ds := []) (bA 33 0) (by kernel_rfl) rfl rfl ⟨f0, f1, f2, f3, f4⟩ (fun hHeld => ?_)
 refine tk_ (i := 0) (N := some 8) (bA 33 1) ?_
 refine pu_ (i := 1) (N := some 9) (bA 33 3) ?_
 refine pu_ (i := 2) (N := some 10) (bA 33 7) ?_
 refine tk_ (i := 3) (N := some 11) (bA 33 15) ?_
 refine pu_ (i := 4) (N := some 12) (bA 33 31) ?_
 refine tk_ (i := 5) (N := some 13) (bA 33 63) ?_
 refine pu_ (i := 6) (N := some 14) (bA 33 127) ?_
 refine pu_ (i := 7) (N := some 15) (bA 33 255) ?_
 refine tk_ (i := 8) (N := some 16) (bA 33 511) ?_
 refine pu_ (i := 9) (N := some 17) (bA 33 1023) ?_
 refine tk_ (i := 10) (N := some 18) (bA 33 2047) ?_
 refine pu_ (i := 11) (N := some 19) (bA 33 4095) ?_
 refine pu_ (i := 12) (N := some 20) (bA 33 8191) ?_
 refine tk_ (i := 13) (N := some 21) (bA 33 16383) ?_
 refine pu_ (i := 14) (N := some 22) (bA 33 32767) ?_
 refine pu_ (i := 15) (N := some 23) (bA 33 65535) ?_
 refine of_ (i := 16) (N := some 24) (bA 33 131071) ?_
 refine of_ (i := 17) (N := some 25) (bA 33 262143) ?_
 refine of_ (i := 18) (N := some 26) (bA 33 524287) ?_
 refine of_ (i := 19) (N := some 27) (bA 33 1048575) ?_
 refine of_ (i := 20) (N := some 28) (bA 33 2097151) ?_
 refine of_ (i := 21) (N := some 29) (bA 33 4194303) ?_
 refine of_ (i := 22) (N := some 30) (bA 33 8388607) ?_
 refine of_ (i := 23) (N := some 31) (bA 33 16777215) ?_
 refine of_ (i := 24) (N := some 32) (bA 33 33554431) ?_
 refine of_ (i := 25) (N := some 33) (bA 33 67108863) ?_
 refine of_ (i := 26) (N := some 34) (bA 33 134217727) ?_
 refine of_ (i := 27) (N := some 35) (bA 33 268435455) ?_
 refine of_ (i := 28) (N := some 36) (bA 33 536870911) ?_
 refine of_ (i := 29) (N := some 37) (bA 33 1073741823) ?_
 refine of_ (i := 30) (N := some 38) (bA 33 2147483647) ?_
 refine pu_ (i := 31) (N := some 39) (bA 33 4294967295) ?_
 refine pu_ (i := 32) (N := some 7) (bA 33 8589934591) ?_
 refine done_ (by kernel_rfl) ?_
 try go_wp2
 go_ret
 exact ⟨(by rw [HR.out]; rfl), ⟨_, rfl⟩⟩
set_option maxHeartbeats 8000000 in
set_option maxRecDepth 100000 in
theorem times2 {w : World} {gx gy Bx By Bn : Nat} {u : List (List Int)} {nt : List Int} {v : List (List Int)} {mtt : List Int} {no1 yes1 no2 yes2 : Int} (hx : AlgAt w gx u (mtab u) (jtab u) nt no1 yes1) (hy : AlgAt w gy v (mtab v) (jtab v) mtt no2 yes2) (hl1 : OL u nt) (hl2 : OL v mtt)
 (bx : w.cell? ⟨Bx, 0, none⟩ = some (.pointer (some ⟨gx, 0, none⟩))) (by_ : w.cell? ⟨By, 0, none⟩ = some (.pointer (some ⟨gy, 0, none⟩))) {n : Nat} (hn : v.length = n) (bn_ : w.cell? ⟨Bn, 0, none⟩ = some (.int .i64 (n : Int))) {i : Nat} (hi : i < u.length * n) :
 Calls Try.prog 79 (#[.int .i64 i] ++ #[.pointer (some ⟨Bx, 0, none⟩), .pointer (some ⟨Bn, 0, none⟩), .pointer (some ⟨By, 0, none⟩)]) w fun e w2 => e = .returned (.int .i64 (rd nt ((i / n : Nat) : Int) * (n : Int) + rd mtt ((i % n : Nat) : Int))) ∧ Drawn0 w w2 := by
 obtain ⟨q1, eq1⟩ : ∃ q, i / n = q := ⟨_, rfl⟩
 obtain ⟨p1, ep1⟩ : ∃ p, i % n = p := ⟨_, rfl⟩
 have hn0 : 0 < n := hn ▸ hl2.1.1.pos
 have hq1 : q1 < u.length := div_lt_ hi eq1
 have hp1 : p1 < n := mod_lt_ hn0 ep1
 have hn12 : n ≤ 12 := hn ▸ hl2.1.1.le12
 have hu12 := hl1.1.1.le12
 rw [eq1, ep1]
 obtain ⟨x, anu, bu, ex, ⟨hx0, hx1⟩, f1, f3⟩ := not_reads hx hl1 hq1
 obtain ⟨y, anv, bv, ey, ⟨hy0, hy1⟩, f5, f6⟩ := not_reads hy hl2 (a := p1) (hn ▸ hp1)
 rw [hn] at f5
 rw [ex, ey]
 have hxn := mul_small hx0 hx1 hu12 hn12
 obtain ⟨xn, exn⟩ : ∃ m, x * (n : Int) = m := ⟨_, rfl⟩
 rw [exn] at hxn
 have hxa : wrap64 (x * (n : Int)) = xn := by rw [exn]; exact wrap_sm ⟨hxn.1, Int.le_trans hxn.2 (by decide)⟩
 have hxb : IntKind.i64.wrap (x * (n : Int)) = xn := (i64_w _).trans hxa
 rw [exn]
 obtain ⟨s, es⟩ : ∃ s, xn + y = s := ⟨_, rfl⟩
 have hsa : wrap64 (xn + y) = s := by rw [es]; exact wrap_sm (es ▸ sum_sm hxn hy0 (hn ▸ hy1) hn12)
 have HR : Aside0 (wrap64 (wrap64 xn + y) = s) := ⟨(by rw [show wrap64 xn = xn from wrap_sm ⟨hxn.1, Int.le_trans hxn.2 (by decide)⟩]; exact hsa)⟩
 have hsb : IntKind.i64.wrap (xn + y) = s := (i64_w _).trans hsa
 rw [es]
 have f0 := bx
 have f2 := bn_
 have f4 := by_
 have hq1b : wrap64 (Int.tdiv (i : Int) (n : Int)) = (q1 : Int) := qb_ eq1 (lt200_ hq1 hu12)
 have hq1c : IntKind.i64.wrap (Int.tdiv (i : Int) (n : Int)) = (q1 : Int) := qc_ eq1 (lt200_ hq1 hu12)
 have hq1e : IntKind.i64.wrap ((i : Int) / (n : Int)) = (q1 : Int) := qe_ eq1 (lt200_ hq1 hu12)
 have hp1a : Int.tmod (i : Int) (n : Int) = (p1 : Int) := pa_ ep1
 have hp1e : IntKind.i64.wrap ((i : Int) % (n : Int)) = (p1 : Int) := pe_ ep1 (lt200_ hp1 hn12)
 have hp1d : (i : Int) % (n : Int) = (p1 : Int) := pd_ ep1
 have hn00 : ¬ n = 0 := n0_ hn0
 have hna : ¬ (n : Int) = 0 := na_ hn0
 have hnb : ((n : Int) == 0) = false := nb_ hn0
 have hnc : decide ((n : Int) = 0) = false := nc_ hn0
 have r0q1 : (0 : Int) ≤ q1 := r0_ q1
 have r1q1 : (q1 : Int) < (u.length : Int) := r1_ hq1
 have r0p1 : (0 : Int) ≤ p1 := r0_ p1
 have r1p1 : (p1 : Int) < (n : Int) := r1_ hp1
 clear hx hy hl1 hl2 bx by_ bn_ hn ex ey hi eq1 ep1 hq1 hp1 hn0 hn12 hu12 hxn
 go_enter Try.func79, Try.ntmps79
 try go_wp2
 refine start_ (n := 22) (S := fun w' => w'.cell? ⟨Bx, 0, none⟩ = some (.pointer (some ⟨gx, 0, none⟩)) ∧ w'.cell? ⟨gx, 3, none⟩ = some (.slice (some anu) u.length bu) ∧ w'.cell? ⟨Bn, 0, none⟩ = some (.int .i64 (n : Int)) ∧ w'.cell? (anu.add q1) = some (.int .i64 x) ∧ w'.cell? ⟨By, 0, none⟩ = some (.pointer (some ⟨gy, 0, none⟩)) ∧ w'.cell? ⟨gy, 3, none⟩ = some (.slice (some anv) n bv) ∧ w'.cell? (anv.add p1) = some (.int .i64 y)) (ds := []) (bA 22 0) (by kernel_rfl) rfl rfl ⟨f0, f1, f2, f3, f4, f5, f6⟩ (fun hHeld => ?_)
 refine tk_ (i := 0) (N := some 6) (bA 22 1) ?_
 refine pu_ (i := 1) (N := some 7) (bA 22 3) ?_
 refine pu_ (i := 2) (N := some 8) (bA 22 7) ?_
 refine tk_ (i := 3) (N := some 9) (bA 22 15) ?_
 refine pu_ (i := 4) (N := some 10) (bA 22 31) ?_
 refine tk_ (i := 5) (N := some 11) (bA 22 63) ?_
 refine pu_ (i := 6) (N := some 12) (bA 22 127) ?_
 refine pu_ (i := 7) (N := some 13) (bA 22 255) ?_
 refine tk_ (i := 8) (N := some 14) (bA 22 511) ?_
 refine tk_ (i := 9) (N := some 15) (bA 22 1023) ?_
 refine pu_ (i := 10) (N := some 16) (bA 22 2047) ?_
 refine tk_ (i := 11) (N := some 17) (bA 22 4095) ?_
 refine pu_ (i := 12) (N := some 18) (bA 22 8191) ?_
 refine pu_ (i := 13) (N := some 19) (bA 22 16383) ?_
 refine tk_ (i := 14) (N := some 20) (bA 22 32767) ?_
 refine pu_ (i := 15) (N := some 21) (bA 22 65535) ?_
 refine tk_ (i := 16) (N := some 22) (bA 22 131071) ?_
 refine pu_ (i := 17) (N := some 23) (bA 22 262143) ?_
 refine pu_ (i := 18) (N := some 24) (bA 22 524287) ?_
 refine tk_ (i := 19) (N := some 25) (bA 22 1048575) ?_
 refine pu_ (i := 20) (N := some 26) (bA 22 2097151) ?_
 refine pu_ (i := 21) (N := some 5) (bA 22 4194303) ?_
 refine done_ (by kernel_rfl) ?_
 try go_wp2
 go_ret
 exact ⟨(by rw [← HR.out]; rfl), ⟨_, rfl⟩⟩
theorem times1 {w : World} {gx gy Bx By Bn : Nat} {u : List (List Int)} {nt : List Int} {v : List (List Int)} {mtt : List Int} {no1 yes1 no2 yes2 : Int} (hx : AlgAt w gx u (mtab u) (jtab u) nt no1 yes1) (hy : AlgAt w gy v (mtab v) (jtab v) mtt no2 yes2) (hl1 : OL u nt) (hl2 : OL v mtt)
 (bx : w.cell? ⟨Bx, 0, none⟩ = some (.pointer (some ⟨gx, 0, none⟩))) (by_ : w.cell? ⟨By, 0, none⟩ = some (.pointer (some ⟨gy, 0, none⟩))) {n : Nat} (hn : v.length = n) (bn_ : w.cell? ⟨Bn, 0, none⟩ = some (.int .i64 (n : Int))) {i k : Nat} (hi : i < u.length * n) (hk : k < u.length * n) :
 Calls Try.prog 78 (#[.int .i64 i, .int .i64 k] ++ #[.pointer (some ⟨Bx, 0, none⟩), .pointer (some ⟨Bn, 0, none⟩), .pointer (some ⟨By, 0, none⟩)]) w fun e w2 => e = .returned (.bool (timesB u v n i k)) ∧ Drawn0 w w2 := by
 by_cases q : rdN u (i / n) (k / n) = 1
 ·
  exact times1y hx hy hl1 hl2 bx by_ hn bn_ hi hk q
 exact times1n hx hy hl1 hl2 bx by_ hn bn_ hi hk q
theorem prod_w {a b N : Nat} (h : a * b = N) (ha : a ≤ 12) (hb : b ≤ 12) : wrap64 ((a : Int) * (b : Int)) = (N : Int) := by
 have h1 : a * b ≤ 12 * 12 := Nat.mul_le_mul ha hb
 rw [← Int.natCast_mul, h]
 rw [h] at h1
 exact Q.wrap_of _ (by omega) (by omega)
theorem prod_c {a b N : Nat} (h : a * b = N) : (a : Int) * (b : Int) = (N : Int) := by rw [← Int.natCast_mul, h]
theorem zl_1 {p : Prop} (h : p := by kernel_rfl) : p := h
theorem zl_0 {p : Prop} (h : p := by first | (simp only [putAll, Act.put, List.setIfInBounds_toArray, List.set_cons_zero, List.set_cons_succ]; done) | (simp only [putAll, Act.put, List.setIfInBounds_toArray, List.set_cons_zero, List.set_cons_succ]; rfl)) : p := h
set_option maxHeartbeats 8000000 in
set_option maxRecDepth 100000 in
theorem timesOf_core (Au : Option Addr) (cu : Nat) (u : List (List Int)) (An : Option Addr) (cn : Nat) (nt : List Int) (Av : Option Addr) (cv : Nat) (v : List (List Int)) (Am : Option Addr) (cm : Nat) (mtt : List Int) (w : World)
 (hu : Kd.C (Kd.slice 3 (Kd.int .i64)) w Au u.length u) (hcu : u.length ≤ cu) (hn : Kd.C (Kd.int .i64) w An nt.length nt) (hcn : nt.length ≤ cn)
 (hv : Kd.C (Kd.slice 3 (Kd.int .i64)) w Av v.length v) (hcv : v.length ≤ cv) (hm : Kd.C (Kd.int .i64) w Am mtt.length mtt) (hcm : mtt.length ≤ cm) (r1 : List (List Int)) (r2 : List Int) (r3 : Bool) (h : timesF u nt v mtt = (r1, r2, r3)) :
 Calls Try.prog 38 #[.agg #[.slice Au u.length cu, .slice An nt.length cn], .agg #[.slice Av v.length cv, .slice Am mtt.length cm]] w fun e w' => ∃ v0_ v1_ : Value, e = .returned (.tuple #[.agg #[v0_, v1_], .bool r3]) ∧ Kd.S (Kd.slice 3 (Kd.int .i64)) 23 w' w.heap.size (fun k_ => some k_ ≠ (v1_ : Value).ownBlock) v0_ r1 ∧ Kd.R (Kd.int .i64) 3 w' w.heap.size (fun _ => True) v1_ r2 ∧ Below w.heap.size w w' := by
 have hul := Try.underlying29
 have HU := ak hu
 have HC := ak hcu
 have HN := ak hn
 have HCN := ak hcn
 have HV := ak hv
 have HCV := ak hcv
 have HMt := ak hm
 have HCM := ak hcm
 have HRES := ak h
 have HL := ak (Live.start w)
 have s0 := ak True.intro
 clear hu hcu hn hcn hv hcv hm hcm h
 go_enter Try.func38, Try.ntmps38
 go_wp2_with (first
  | (clear s0; (with_reducible refine gate_dst (N := 2) rfl ?_); refine armb_ (rs' := []) HL (fun HL_ => ?_); refine bx_ (N := 2) (cs := #[.slice Au u.length cu, .slice An nt.length cn]) (t := 29) ?_; intro b2 hg w1 hbox hb; have HL1 : Aside0 (Live w w1 [.box b2 #[.slice Au u.length cu, .slice An nt.length cn] 29]) := ⟨HL_.out.box hb hg hbox⟩; clear HL HL_ hb hg hbox ; have HL := HL1; clear HL1; have s1 := ak True.intro)
  | (clear s1; (with_reducible refine gate_dst (N := 3) rfl ?_); refine armb_ (rs' := [.box b2 #[.slice Au u.length cu, .slice An nt.length cn] 29]) HL (fun HL_ => ?_); refine bx_ (N := 3) (cs := #[.slice Av v.length cv, .slice Am mtt.length cm]) (t := 29) ?_; intro b3 hg w2 hbox hb; have HL1 : Aside0 (Live w w2 [.box b3 #[.slice Av v.length cv, .slice Am mtt.length cm] 29, .box b2 #[.slice Au u.length cu, .slice An nt.length cn] 29]) := ⟨HL_.out.box hb hg hbox⟩; clear HL HL_ hb hg hbox ; have HL := HL1; clear HL1; have s2 := ak True.intro)
  | (clear s2; (with_reducible refine gate_dst (N := 4) rfl ?_); refine armb_ (rs' := [.box b3 #[.slice Av v.length cv, .slice Am mtt.length cm] 29, .box b2 #[.slice Au u.length cu, .slice An nt.length cn] 29]) HL (fun HL_ => ?_); refine bx_ (N := 4) (cs := #[.slice none 0 0, .slice none 0 0]) (t := 29) ?_; intro b4 hg w3 hbox hb; have HL1 : Aside0 (Live w w3 [.box b4 #[.slice none 0 0, .slice none 0 0] 29, .box b3 #[.slice Av v.length cv, .slice Am mtt.length cm] 29, .box b2 #[.slice Au u.length cu, .slice An nt.length cn] 29]) := ⟨HL_.out.box hb hg hbox⟩; clear HL HL_ hb hg hbox ; have HL := HL1; clear HL1; have s3 := ak True.intro))
 have HD := ak (Live.drew HL.out)
 refine start_ (n := 8) (S := fun w' => w'.cell? ⟨b2, 0, none⟩ = some (.slice Au u.length cu) ∧ w'.cell? ⟨b2, 1, none⟩ = some (.slice An nt.length cn) ∧ w'.cell? ⟨b3, 0, none⟩ = some (.slice Av v.length cv) ∧ w'.cell? ⟨b3, 1, none⟩ = some (.slice Am mtt.length cm)) (ds := [6, 7]) (bA 8 0) zl_1 rfl rfl ⟨Live.cell [_, _] HD.out 0 rfl, Live.cell [_, _] HD.out 1 rfl, Live.cell [_] HD.out 0 rfl, Live.cell [_] HD.out 1 rfl⟩ (fun hHeld => ?_)
 refine tk_ (i := 0) (N := some 9) (bA 8 1) ?_
 refine tk_ (i := 2) (N := some 11) (bA 8 5) ?_
 refine join_ (σ := Value × Value × Nat × Nat) 2 (bA 8 63) (fun s => [(10, s.1), (12, s.2.1), (6, .pointer (some ⟨s.2.2.1, 0, none⟩)), (7, .pointer (some ⟨s.2.2.2, 0, none⟩))]) (fun s W => TmF u nt v mtt (World.drew w3) true true true true s W) ?_ ?_
 rotate_left
 ·
  intro hJ1_3_4_5
  refine join_ (σ := Value × Value × Nat × Nat) 3 (bA 8 31) (fun s => [(10, s.1), (12, s.2.1), (6, .pointer (some ⟨s.2.2.1, 0, none⟩))]) (fun s W => TmF u nt v mtt (World.drew w3) true true true false s W) ?_ ?_
  rotate_left
  ·
   intro hJ1_3_4
   refine join_ (σ := Value × Value × Nat × Nat) 3 (bA 8 47) (fun s => [(10, s.1), (12, s.2.1), (7, .pointer (some ⟨s.2.2.2, 0, none⟩))]) (fun s W => TmF u nt v mtt (World.drew w3) true true false true s W) ?_ ?_
   rotate_left
   ·
    intro hJ1_3_5
    refine join_ (σ := Value × Value × Nat × Nat) 3 (bA 8 55) (fun s => [(10, s.1), (6, .pointer (some ⟨s.2.2.1, 0, none⟩)), (7, .pointer (some ⟨s.2.2.2, 0, none⟩))]) (fun s W => TmF u nt v mtt (World.drew w3) true false true true s W) ?_ ?_
    rotate_left
    ·
     intro hJ1_4_5
     refine join_ (σ := Value × Value × Nat × Nat) 4 (bA 8 15) (fun s => [(10, s.1), (12, s.2.1)]) (fun s W => TmF u nt v mtt (World.drew w3) true true false false s W) ?_ ?_
     rotate_left
     ·
      intro hJ1_3
      refine join_ (σ := Value × Value × Nat × Nat) 4 (bA 8 23) (fun s => [(10, s.1), (6, .pointer (some ⟨s.2.2.1, 0, none⟩))]) (fun s W => TmF u nt v mtt (World.drew w3) true false true false s W) ?_ ?_
      rotate_left
      ·
       intro hJ1_4
       refine join_ (σ := Value × Value × Nat × Nat) 4 (bA 8 39) (fun s => [(10, s.1), (7, .pointer (some ⟨s.2.2.2, 0, none⟩))]) (fun s W => TmF u nt v mtt (World.drew w3) true false false true s W) ?_ ?_
       rotate_left
       ·
        intro hJ1_5
        refine join_ (σ := Value × Value × Nat × Nat) 4 (bA 8 53) (fun s => [(6, .pointer (some ⟨s.2.2.1, 0, none⟩)), (7, .pointer (some ⟨s.2.2.2, 0, none⟩))]) (fun s W => TmF u nt v mtt (World.drew w3) false false true true s W) ?_ ?_
        rotate_left
        ·
         intro hJ4_5
         refine join_ (σ := Value × Value × Nat × Nat) 5 (bA 8 7) (fun s => [(10, s.1)]) (fun s W => TmF u nt v mtt (World.drew w3) true false false false s W) ?_ ?_
         rotate_left
         ·
          intro hJ1
          refine join_ (σ := Value × Value × Nat × Nat) 5 (bA 8 21) (fun s => [(6, .pointer (some ⟨s.2.2.1, 0, none⟩))]) (fun s W => TmF u nt v mtt (World.drew w3) false false true false s W) ?_ ?_
          rotate_left
          ·
           intro hJ4
           refine join_ (σ := Value × Value × Nat × Nat) 5 (bA 8 37) (fun s => [(7, .pointer (some ⟨s.2.2.2, 0, none⟩))]) (fun s W => TmF u nt v mtt (World.drew w3) false false false true s W) ?_ ?_
           rotate_left
           ·
            intro hJ5
            refine three_ (i := 1) (j := 4) (k := 5) (Ni := some 10) (Nj := some 6) (Nk := some 7) (bA 8 7) (bA 8 21) (bA 8 37) rfl rfl rfl rfl rfl rfl zl_1 (by decide) (by decide) (by decide) (fun K hK => ?_) (fun K hK => ?_) (fun K hK => ?_)
            ·
             skip
             have HG := TmF.start (u := u) (nt := nt) (v := v) (mtt := mtt) (World.drew w3) ((.pointer none, .pointer none, 0, 0) : Value × Value × Nat × Nat)
             refine ge_ Try.func53 #[.agg #[.slice Au u.length cu, .slice An nt.length cn]] ?_
             with_reducible refine (told_tl Au cu u An cn nt _ ((HD.out.step HG.below).came HU.out) HC.out ((HD.out.step HG.below).came HN.out) HCN.out).mono ?_
             rintro e W1 ⟨x1, rfl, hTl, hb⟩
             have HG1 := TmF.call1 HG hb hTl
             refine ⟨_, rfl, ?_⟩
             refine hK.out _ _ ⟨Live.cell [_, _] (HD.out.step HG1.below) 0 rfl, Live.cell [_, _] (HD.out.step HG1.below) 1 rfl, Live.cell [_] (HD.out.step HG1.below) 0 rfl, Live.cell [_] (HD.out.step HG1.below) 1 rfl⟩ (fun hHeld => ?_)
             clear hK K
             refine no_ (N := some 10) ?_
             exact norm_ zl_0 (hJ1 (x1, .pointer none, 0, 0) _ HG1)
            ·
             skip
             have HG := TmF.start (u := u) (nt := nt) (v := v) (mtt := mtt) (World.drew w3) ((.pointer none, .pointer none, 0, 0) : Value × Value × Nat × Nat)
             refine value_ (w1 := ?_) (v := ?_) (by rfl) rfl ?_ ?_
             rotate_left 2
             ·
              go_simp
              constructor
              ·
               rfl
              rfl
             have HG1 := TmF.new6 HG
             refine hK.out _ _ ⟨Live.cell [_, _] (HD.out.step HG1.below) 0 rfl, Live.cell [_, _] (HD.out.step HG1.below) 1 rfl, Live.cell [_] (HD.out.step HG1.below) 0 rfl, Live.cell [_] (HD.out.step HG1.below) 1 rfl⟩ (fun hHeld => ?_)
             clear hK K
             refine no_ (N := some 6) ?_
             exact norm_ zl_0 (hJ4 (.pointer none, .pointer none, (World.drew w3).heap.size, 0) _ HG1)
            skip
            have HG := TmF.start (u := u) (nt := nt) (v := v) (mtt := mtt) (World.drew w3) ((.pointer none, .pointer none, 0, 0) : Value × Value × Nat × Nat)
            refine value_ (w1 := ?_) (v := ?_) (by rfl) rfl ?_ ?_
            rotate_left 2
            ·
             go_simp
             constructor
             ·
              rfl
             rfl
            have HG1 := TmF.new7 HG
            refine hK.out _ _ ⟨Live.cell [_, _] (HD.out.step HG1.below) 0 rfl, Live.cell [_, _] (HD.out.step HG1.below) 1 rfl, Live.cell [_] (HD.out.step HG1.below) 0 rfl, Live.cell [_] (HD.out.step HG1.below) 1 rfl⟩ (fun hHeld => ?_)
            clear hK K
            refine no_ (N := some 7) ?_
            exact norm_ zl_0 (hJ5 (.pointer none, .pointer none, 0, (World.drew w3).heap.size) _ HG1)
           skip
           rintro ⟨x, y, g6, g7⟩ W HG
           refine norm_ (a' := ?_) ?_ ?_
           rotate_left
           ·
            simp only [putAll, Act.put, List.setIfInBounds_toArray, List.set_cons_zero, List.set_cons_succ]
            rfl
           refine two_ (i := 1) (j := 4) (Ni := some 10) (Nj := some 6) (bA 8 39) (bA 8 53) rfl rfl rfl rfl zl_1 (by decide) (by decide) (fun K hK => ?_) (fun K hK => ?_)
           ·
            skip
            refine ge_ Try.func53 #[.agg #[.slice Au u.length cu, .slice An nt.length cn]] ?_
            with_reducible refine (told_tl Au cu u An cn nt _ ((HD.out.step HG.below).came HU.out) HC.out ((HD.out.step HG.below).came HN.out) HCN.out).mono ?_
            rintro e W1 ⟨x1, rfl, hTl, hb⟩
            have HG1 := TmF.call1 HG hb hTl
            refine ⟨_, rfl, ?_⟩
            refine hK.out _ _ ⟨Live.cell [_, _] (HD.out.step HG1.below) 0 rfl, Live.cell [_, _] (HD.out.step HG1.below) 1 rfl, Live.cell [_] (HD.out.step HG1.below) 0 rfl, Live.cell [_] (HD.out.step HG1.below) 1 rfl⟩ (fun hHeld => ?_)
            clear hK K
            refine no_ (N := some 10) ?_
            exact norm_ zl_0 (hJ1_5 (x1, y, g6, g7) _ HG1)
           skip
           refine value_ (w1 := ?_) (v := ?_) (by rfl) rfl ?_ ?_
           rotate_left 2
           ·
            go_simp
            constructor
            ·
             rfl
            rfl
           have HG1 := TmF.new6 HG
           refine hK.out _ _ ⟨Live.cell [_, _] (HD.out.step HG1.below) 0 rfl, Live.cell [_, _] (HD.out.step HG1.below) 1 rfl, Live.cell [_] (HD.out.step HG1.below) 0 rfl, Live.cell [_] (HD.out.step HG1.below) 1 rfl⟩ (fun hHeld => ?_)
           clear hK K
           refine no_ (N := some 6) ?_
           exact norm_ zl_0 (hJ4_5 (x, y, W.heap.size, g7) _ HG1)
          skip
          rintro ⟨x, y, g6, g7⟩ W HG
          refine norm_ (a' := ?_) ?_ ?_
          rotate_left
          ·
           simp only [putAll, Act.put, List.setIfInBounds_toArray, List.set_cons_zero, List.set_cons_succ]
           rfl
          refine two_ (i := 1) (j := 5) (Ni := some 10) (Nj := some 7) (bA 8 23) (bA 8 53) rfl rfl rfl rfl zl_1 (by decide) (by decide) (fun K hK => ?_) (fun K hK => ?_)
          ·
           skip
           refine ge_ Try.func53 #[.agg #[.slice Au u.length cu, .slice An nt.length cn]] ?_
           with_reducible refine (told_tl Au cu u An cn nt _ ((HD.out.step HG.below).came HU.out) HC.out ((HD.out.step HG.below).came HN.out) HCN.out).mono ?_
           rintro e W1 ⟨x1, rfl, hTl, hb⟩
           have HG1 := TmF.call1 HG hb hTl
           refine ⟨_, rfl, ?_⟩
           refine hK.out _ _ ⟨Live.cell [_, _] (HD.out.step HG1.below) 0 rfl, Live.cell [_, _] (HD.out.step HG1.below) 1 rfl, Live.cell [_] (HD.out.step HG1.below) 0 rfl, Live.cell [_] (HD.out.step HG1.below) 1 rfl⟩ (fun hHeld => ?_)
           clear hK K
           refine no_ (N := some 10) ?_
           exact norm_ zl_0 (hJ1_4 (x1, y, g6, g7) _ HG1)
          skip
          refine value_ (w1 := ?_) (v := ?_) (by rfl) rfl ?_ ?_
          rotate_left 2
          ·
           go_simp
           constructor
           ·
            rfl
           rfl
          have HG1 := TmF.new7 HG
          refine hK.out _ _ ⟨Live.cell [_, _] (HD.out.step HG1.below) 0 rfl, Live.cell [_, _] (HD.out.step HG1.below) 1 rfl, Live.cell [_] (HD.out.step HG1.below) 0 rfl, Live.cell [_] (HD.out.step HG1.below) 1 rfl⟩ (fun hHeld => ?_)
          clear hK K
          refine no_ (N := some 7) ?_
          exact norm_ zl_0 (hJ4_5 (x, y, g6, W.heap.size) _ HG1)
         skip
         rintro ⟨x, y, g6, g7⟩ W HG
         refine norm_ (a' := ?_) ?_ ?_
         rotate_left
         ·
          simp only [putAll, Act.put, List.setIfInBounds_toArray, List.set_cons_zero, List.set_cons_succ]
          rfl
         refine three_ (i := 3) (j := 4) (k := 5) (Ni := some 12) (Nj := some 6) (Nk := some 7) (bA 8 15) (bA 8 23) (bA 8 39) rfl rfl rfl rfl rfl rfl zl_1 (by decide) (by decide) (by decide) (fun K hK => ?_) (fun K hK => ?_) (fun K hK => ?_)
         ·
          skip
          refine ge_ Try.func53 #[.agg #[.slice Av v.length cv, .slice Am mtt.length cm]] ?_
          with_reducible refine (told_tl Av cv v Am cm mtt _ ((HD.out.step HG.below).came HV.out) HCV.out ((HD.out.step HG.below).came HMt.out) HCM.out).mono ?_
          rintro e W1 ⟨x1, rfl, hTl, hb⟩
          have HG1 := TmF.call2 HG hb hTl
          refine ⟨_, rfl, ?_⟩
          refine hK.out _ _ ⟨Live.cell [_, _] (HD.out.step HG1.below) 0 rfl, Live.cell [_, _] (HD.out.step HG1.below) 1 rfl, Live.cell [_] (HD.out.step HG1.below) 0 rfl, Live.cell [_] (HD.out.step HG1.below) 1 rfl⟩ (fun hHeld => ?_)
          clear hK K
          refine no_ (N := some 12) ?_
          exact norm_ zl_0 (hJ1_3 (x, x1, g6, g7) _ HG1)
         ·
          skip
          refine value_ (w1 := ?_) (v := ?_) (by rfl) rfl ?_ ?_
          rotate_left 2
          ·
           go_simp
           constructor
           ·
            rfl
           rfl
          have HG1 := TmF.new6 HG
          refine hK.out _ _ ⟨Live.cell [_, _] (HD.out.step HG1.below) 0 rfl, Live.cell [_, _] (HD.out.step HG1.below) 1 rfl, Live.cell [_] (HD.out.step HG1.below) 0 rfl, Live.cell [_] (HD.out.step HG1.below) 1 rfl⟩ (fun hHeld => ?_)
          clear hK K
          refine no_ (N := some 6) ?_
          exact norm_ zl_0 (hJ1_4 (x, y, W.heap.size, g7) _ HG1)
         skip
         refine value_ (w1 := ?_) (v := ?_) (by rfl) rfl ?_ ?_
         rotate_left 2
         ·
          go_simp
          constructor
          ·
           rfl
          rfl
         have HG1 := TmF.new7 HG
         refine hK.out _ _ ⟨Live.cell [_, _] (HD.out.step HG1.below) 0 rfl, Live.cell [_, _] (HD.out.step HG1.below) 1 rfl, Live.cell [_] (HD.out.step HG1.below) 0 rfl, Live.cell [_] (HD.out.step HG1.below) 1 rfl⟩ (fun hHeld => ?_)
         clear hK K
         refine no_ (N := some 7) ?_
         exact norm_ zl_0 (hJ1_5 (x, y, g6, W.heap.size) _ HG1)
        skip
        rintro ⟨x, y, g6, g7⟩ W HG
        refine norm_ (a' := ?_) ?_ ?_
        rotate_left
        ·
         simp only [putAll, Act.put, List.setIfInBounds_toArray, List.set_cons_zero, List.set_cons_succ]
         rfl
        refine one_ (i := 1) (N := some 10) (bA 8 55) rfl rfl zl_1 (by decide) (fun K hK => ?_)
        refine ge_ Try.func53 #[.agg #[.slice Au u.length cu, .slice An nt.length cn]] ?_
        with_reducible refine (told_tl Au cu u An cn nt _ ((HD.out.step HG.below).came HU.out) HC.out ((HD.out.step HG.below).came HN.out) HCN.out).mono ?_
        rintro e W1 ⟨x1, rfl, hTl, hb⟩
        have HG1 := TmF.call1 HG hb hTl
        refine ⟨_, rfl, ?_⟩
        refine hK.out _ _ ⟨Live.cell [_, _] (HD.out.step HG1.below) 0 rfl, Live.cell [_, _] (HD.out.step HG1.below) 1 rfl, Live.cell [_] (HD.out.step HG1.below) 0 rfl, Live.cell [_] (HD.out.step HG1.below) 1 rfl⟩ (fun hHeld => ?_)
        clear hK K
        refine no_ (N := some 10) ?_
        exact norm_ zl_0 (hJ1_4_5 (x1, y, g6, g7) _ HG1)
       skip
       rintro ⟨x, y, g6, g7⟩ W HG
       refine norm_ (a' := ?_) ?_ ?_
       rotate_left
       ·
        simp only [putAll, Act.put, List.setIfInBounds_toArray, List.set_cons_zero, List.set_cons_succ]
        rfl
       refine two_ (i := 3) (j := 4) (Ni := some 12) (Nj := some 6) (bA 8 47) (bA 8 55) rfl rfl rfl rfl zl_1 (by decide) (by decide) (fun K hK => ?_) (fun K hK => ?_)
       ·
        skip
        refine ge_ Try.func53 #[.agg #[.slice Av v.length cv, .slice Am mtt.length cm]] ?_
        with_reducible refine (told_tl Av cv v Am cm mtt _ ((HD.out.step HG.below).came HV.out) HCV.out ((HD.out.step HG.below).came HMt.out) HCM.out).mono ?_
        rintro e W1 ⟨x1, rfl, hTl, hb⟩
        have HG1 := TmF.call2 HG hb hTl
        refine ⟨_, rfl, ?_⟩
        refine hK.out _ _ ⟨Live.cell [_, _] (HD.out.step HG1.below) 0 rfl, Live.cell [_, _] (HD.out.step HG1.below) 1 rfl, Live.cell [_] (HD.out.step HG1.below) 0 rfl, Live.cell [_] (HD.out.step HG1.below) 1 rfl⟩ (fun hHeld => ?_)
        clear hK K
        refine no_ (N := some 12) ?_
        exact norm_ zl_0 (hJ1_3_5 (x, x1, g6, g7) _ HG1)
       skip
       refine value_ (w1 := ?_) (v := ?_) (by rfl) rfl ?_ ?_
       rotate_left 2
       ·
        go_simp
        constructor
        ·
         rfl
        rfl
       have HG1 := TmF.new6 HG
       refine hK.out _ _ ⟨Live.cell [_, _] (HD.out.step HG1.below) 0 rfl, Live.cell [_, _] (HD.out.step HG1.below) 1 rfl, Live.cell [_] (HD.out.step HG1.below) 0 rfl, Live.cell [_] (HD.out.step HG1.below) 1 rfl⟩ (fun hHeld => ?_)
       clear hK K
       refine no_ (N := some 6) ?_
       exact norm_ zl_0 (hJ1_4_5 (x, y, W.heap.size, g7) _ HG1)
      skip
      rintro ⟨x, y, g6, g7⟩ W HG
      refine norm_ (a' := ?_) ?_ ?_
      rotate_left
      ·
       simp only [putAll, Act.put, List.setIfInBounds_toArray, List.set_cons_zero, List.set_cons_succ]
       rfl
      refine two_ (i := 3) (j := 5) (Ni := some 12) (Nj := some 7) (bA 8 31) (bA 8 55) rfl rfl rfl rfl zl_1 (by decide) (by decide) (fun K hK => ?_) (fun K hK => ?_)
      ·
       skip
       refine ge_ Try.func53 #[.agg #[.slice Av v.length cv, .slice Am mtt.length cm]] ?_
       with_reducible refine (told_tl Av cv v Am cm mtt _ ((HD.out.step HG.below).came HV.out) HCV.out ((HD.out.step HG.below).came HMt.out) HCM.out).mono ?_
       rintro e W1 ⟨x1, rfl, hTl, hb⟩
       have HG1 := TmF.call2 HG hb hTl
       refine ⟨_, rfl, ?_⟩
       refine hK.out _ _ ⟨Live.cell [_, _] (HD.out.step HG1.below) 0 rfl, Live.cell [_, _] (HD.out.step HG1.below) 1 rfl, Live.cell [_] (HD.out.step HG1.below) 0 rfl, Live.cell [_] (HD.out.step HG1.below) 1 rfl⟩ (fun hHeld => ?_)
       clear hK K
       refine no_ (N := some 12) ?_
       exact norm_ zl_0 (hJ1_3_4 (x, x1, g6, g7) _ HG1)
      skip
      refine value_ (w1 := ?_) (v := ?_) (by rfl) rfl ?_ ?_
      rotate_left 2
      ·
       go_simp
       constructor
       ·
        rfl
       rfl
      have HG1 := TmF.new7 HG
      refine hK.out _ _ ⟨Live.cell [_, _] (HD.out.step HG1.below) 0 rfl, Live.cell [_, _] (HD.out.step HG1.below) 1 rfl, Live.cell [_] (HD.out.step HG1.below) 0 rfl, Live.cell [_] (HD.out.step HG1.below) 1 rfl⟩ (fun hHeld => ?_)
      clear hK K
      refine no_ (N := some 7) ?_
      exact norm_ zl_0 (hJ1_4_5 (x, y, g6, W.heap.size) _ HG1)
     skip
     rintro ⟨x, y, g6, g7⟩ W HG
     refine norm_ (a' := ?_) ?_ ?_
     rotate_left
     ·
      simp only [putAll, Act.put, List.setIfInBounds_toArray, List.set_cons_zero, List.set_cons_succ]
      rfl
     refine two_ (i := 4) (j := 5) (Ni := some 6) (Nj := some 7) (bA 8 31) (bA 8 47) rfl rfl rfl rfl zl_1 (by decide) (by decide) (fun K hK => ?_) (fun K hK => ?_)
     ·
      skip
      refine value_ (w1 := ?_) (v := ?_) (by rfl) rfl ?_ ?_
      rotate_left 2
      ·
       go_simp
       constructor
       ·
        rfl
       rfl
      have HG1 := TmF.new6 HG
      refine hK.out _ _ ⟨Live.cell [_, _] (HD.out.step HG1.below) 0 rfl, Live.cell [_, _] (HD.out.step HG1.below) 1 rfl, Live.cell [_] (HD.out.step HG1.below) 0 rfl, Live.cell [_] (HD.out.step HG1.below) 1 rfl⟩ (fun hHeld => ?_)
      clear hK K
      refine no_ (N := some 6) ?_
      exact norm_ zl_0 (hJ1_3_4 (x, y, W.heap.size, g7) _ HG1)
     skip
     refine value_ (w1 := ?_) (v := ?_) (by rfl) rfl ?_ ?_
     rotate_left 2
     ·
      go_simp
      constructor
      ·
       rfl
      rfl
     have HG1 := TmF.new7 HG
     refine hK.out _ _ ⟨Live.cell [_, _] (HD.out.step HG1.below) 0 rfl, Live.cell [_, _] (HD.out.step HG1.below) 1 rfl, Live.cell [_] (HD.out.step HG1.below) 0 rfl, Live.cell [_] (HD.out.step HG1.below) 1 rfl⟩ (fun hHeld => ?_)
     clear hK K
     refine no_ (N := some 7) ?_
     exact norm_ zl_0 (hJ1_3_5 (x, y, g6, W.heap.size) _ HG1)
    skip
    rintro ⟨x, y, g6, g7⟩ W HG
    refine norm_ (a' := ?_) ?_ ?_
    rotate_left
    ·
     simp only [putAll, Act.put, List.setIfInBounds_toArray, List.set_cons_zero, List.set_cons_succ]
     rfl
    refine one_ (i := 3) (N := some 12) (bA 8 63) rfl rfl zl_1 (by decide) (fun K hK => ?_)
    refine ge_ Try.func53 #[.agg #[.slice Av v.length cv, .slice Am mtt.length cm]] ?_
    with_reducible refine (told_tl Av cv v Am cm mtt _ ((HD.out.step HG.below).came HV.out) HCV.out ((HD.out.step HG.below).came HMt.out) HCM.out).mono ?_
    rintro e W1 ⟨x1, rfl, hTl, hb⟩
    have HG1 := TmF.call2 HG hb hTl
    refine ⟨_, rfl, ?_⟩
    refine hK.out _ _ ⟨Live.cell [_, _] (HD.out.step HG1.below) 0 rfl, Live.cell [_, _] (HD.out.step HG1.below) 1 rfl, Live.cell [_] (HD.out.step HG1.below) 0 rfl, Live.cell [_] (HD.out.step HG1.below) 1 rfl⟩ (fun hHeld => ?_)
    clear hK K
    refine no_ (N := some 12) ?_
    exact norm_ zl_0 (hJ1_3_4_5 (x, x1, g6, g7) _ HG1)
   skip
   rintro ⟨x, y, g6, g7⟩ W HG
   refine norm_ (a' := ?_) ?_ ?_
   rotate_left
   ·
    simp only [putAll, Act.put, List.setIfInBounds_toArray, List.set_cons_zero, List.set_cons_succ]
    rfl
   refine one_ (i := 4) (N := some 6) (bA 8 63) rfl rfl zl_1 (by decide) (fun K hK => ?_)
   refine value_ (w1 := ?_) (v := ?_) (by rfl) rfl ?_ ?_
   rotate_left 2
   ·
    go_simp
    constructor
    ·
     rfl
    rfl
   have HG1 := TmF.new6 HG
   refine hK.out _ _ ⟨Live.cell [_, _] (HD.out.step HG1.below) 0 rfl, Live.cell [_, _] (HD.out.step HG1.below) 1 rfl, Live.cell [_] (HD.out.step HG1.below) 0 rfl, Live.cell [_] (HD.out.step HG1.below) 1 rfl⟩ (fun hHeld => ?_)
   clear hK K
   refine no_ (N := some 6) ?_
   exact norm_ zl_0 (hJ1_3_4_5 (x, y, W.heap.size, g7) _ HG1)
  skip
  rintro ⟨x, y, g6, g7⟩ W HG
  refine norm_ (a' := ?_) ?_ ?_
  rotate_left
  ·
   simp only [putAll, Act.put, List.setIfInBounds_toArray, List.set_cons_zero, List.set_cons_succ]
   rfl
  refine one_ (i := 5) (N := some 7) (bA 8 63) rfl rfl zl_1 (by decide) (fun K hK => ?_)
  refine value_ (w1 := ?_) (v := ?_) (by rfl) rfl ?_ ?_
  rotate_left 2
  ·
   go_simp
   constructor
   ·
    rfl
   rfl
  have HG1 := TmF.new7 HG
  refine hK.out _ _ ⟨Live.cell [_, _] (HD.out.step HG1.below) 0 rfl, Live.cell [_, _] (HD.out.step HG1.below) 1 rfl, Live.cell [_] (HD.out.step HG1.below) 0 rfl, Live.cell [_] (HD.out.step HG1.below) 1 rfl⟩ (fun hHeld => ?_)
  clear hK K
  refine no_ (N := some 7) ?_
  exact norm_ zl_0 (hJ1_3_4_5 (x, y, g6, W.heap.size) _ HG1)
 rintro ⟨x, y, g6, g7⟩ W HG
 obtain ⟨q1, q2, q3, q4, q5, q6⟩ := HG
 have HTx : Tl u nt x W := q2 rfl
 have HTy : Tl v mtt y W := q3 rfl
 obtain ⟨px, rfl⟩ := HTx.ptr
 obtain ⟨py, rfl⟩ := HTy.ptr
 have k6 : W.heap[g6]? = some (.cells #[.pointer none] 52 (0, 0)) := (q4 rfl).1
 have k7 : W.heap[g7]? = some (.cells #[.pointer none] 52 (0, 0)) := (q5 rfl).1
 have n67 : g6 ≠ g7 := q6 rfl rfl
 have ge6 : (World.drew w3).heap.size ≤ g6 := (q4 rfl).2
 have ge7 : (World.drew w3).heap.size ≤ g7 := (q5 rfl).2
 have k6b := blk_put k6 0 (.pointer px) (cs' := #[.pointer px]) rfl
 have k7b := blk_far k7 (p := ⟨g6, 0, none⟩) (fun e => n67 e.symm) (.pointer px)
 have k7c := blk_put k7b 0 (.pointer py) (cs' := #[.pointer py]) rfl
 have k6c := blk_far k6b (p := ⟨g7, 0, none⟩) n67 (.pointer py)
 have HTx2 := ak ((HTx.setPtr k6 (.pointer px)).setPtr k7b (.pointer py))
 have HTy2 := ak ((HTy.setPtr k6 (.pointer px)).setPtr k7b (.pointer py))
 have HF := ak (HD.out.step (below_set (j := 0) (v := .pointer py) (below_set (j := 0) (v := .pointer px) q1 ge6) ge7))
 have c6 : W.cell? ⟨g6, 0, none⟩ = some (.pointer none) := (blk_cell k6 0).trans rfl
 have z6 : W.frozen? ⟨g6, 0, none⟩ = false := blk_frozen k6 0
 have c7 : (W.setCell ⟨g6, 0, none⟩ (.pointer px)).cell? ⟨g7, 0, none⟩ = some (.pointer none) := (blk_cell k7b 0).trans rfl
 have z7 : (W.setCell ⟨g6, 0, none⟩ (.pointer px)).frozen? ⟨g7, 0, none⟩ = false := blk_frozen k7b 0
 have K6 := ak k6c
 have K7 := ak k7c
 clear HTx HTy k6 k7 k6b k7b k7c k6c q1 q2 q3 q4 q5 q6 ge6 ge7
 refine norm_ (a' := ?_) ?_ ?_
 rotate_left
 ·
  simp only [putAll, Act.put, List.setIfInBounds_toArray, List.set_cons_zero, List.set_cons_succ]
  rfl
 refine last_ (i := 6) (N := none) (bA 8 127) rfl rfl zl_1 (by decide) (fun K hK => ?_)
 refine skip_ (w1 := ?_) (by rfl) rfl ?_ ?_
 rotate_left
 ·
  go_simp
  rfl
 refine hK.out _ _ ?_
 clear hK K
 refine last_ (i := 7) (N := none) (bA 8 255) rfl rfl zl_1 (by decide) (fun K hK => ?_)
 refine skip_ (w1 := ?_) (by rfl) rfl ?_ ?_
 rotate_left
 ·
  go_simp
  rfl
 refine hK.out _ _ ?_
 clear hK K
 refine done_ zl_1 ?_
 clear c6 c7 z6 z7 hHeld
 generalize ((W.setCell ⟨g6, 0, none⟩ (.pointer px)).setCell ⟨g7, 0, none⟩ (.pointer py)) = wf at K6 K7 HTx2 HTy2 HF ⊢
 have hr0 : wf.cell? ⟨b4, 0, none⟩ = some (.slice none 0 0) := Live.cell [] HF.out 0 rfl
 have hr1 : wf.cell? ⟨b4, 1, none⟩ = some (.slice none 0 0) := Live.cell [] HF.out 1 rfl
 have hx0 := Live.frozen [] HF.out 0
 have hx1 := Live.frozen [] HF.out 1
 rcases HTx2.out with ⟨hl1, gx, ex, hAx⟩ | ⟨hl1, ex⟩
 ·
  injection ex with ex
  subst ex
  rcases HTy2.out with ⟨hl2, gy, ey, hAy⟩ | ⟨hl2, ey⟩
  ·
   injection ey with ey
   subst ey
   have HAx := ak hAx
   have HAy := ak hAy
   have a1 := ak hl1
   have a2 := ak hl2
   have EN1 := ak hl1.2.1
   have EN2 := ak hl2.2.1
   have u12 := hl1.1.1.le12
   have a0 := hl2.1.1.le12
   have c6 : wf.cell? ⟨g6, 0, none⟩ = some (.pointer (some ⟨gx, 0, none⟩)) := (blk_cell K6.out 0).trans rfl
   have c7 : wf.cell? ⟨g7, 0, none⟩ = some (.pointer (some ⟨gy, 0, none⟩)) := (blk_cell K7.out 0).trans rfl
   have hb1 : wf.cell? ⟨b2, 1, none⟩ = some (.slice An u.length cn) := (Live.cell [_, _] HF.out 1 rfl).trans (congrArg (fun n => some (Value.slice An n cn)) EN1.out)
   have hb3 : wf.cell? ⟨b3, 1, none⟩ = some (.slice Am v.length cm) := (Live.cell [_] HF.out 1 rfl).trans (congrArg (fun n => some (Value.slice Am n cm)) EN2.out)
   obtain ⟨NN, hNN⟩ : ∃ NN, u.length * v.length = NN := ⟨_, rfl⟩
   have hw1 := prod_w hNN u12 a0
   have hN144 : NN ≤ 144 := hNN ▸ Nat.mul_le_mul u12 a0
   have hw2 : IntKind.i64.wrap ((u.length : Int) * (v.length : Int)) = (NN : Int) := (i64_w _).trans hw1
   have hw3 := prod_c hNN
   clear hAx hAy HTx2 HTy2 u12 a0
   by_cases hbig : NN ≤ 12
   ·
    have k2 : decide ((NN : Int) > 12) = false := dF_ (by omega)
    have k3 : decide (12 < (NN : Int)) = false := dF_ (by omega)
    have k4 : decide (12 < wrap64 (NN : Int)) = false := by rw [Q.wrap_of _ (by omega) (by omega)]; exact k3
    have HNN := ak hbig
    have HE := ak hNN.symm
    have HW := ak hw1
    have HW2 : Aside0 (wrap64 (NN : Int) = (NN : Int)) := ⟨Q.wrap_of _ (by omega) (by omega)⟩
    have er : timesF u nt v mtt = ((madeU NN (timesB u v v.length)), (madeN NN (fun i => rd nt ((i / v.length : Nat) : Int) * (v.length : Int) + rd mtt ((i % v.length : Nat) : Int))), true) := by unfold timesF; rw [if_pos ⟨hl1, hl2, (by omega)⟩, hNN]
    rw [er] at HRES
    obtain ⟨e1, e23⟩ := Prod.mk.inj HRES.out
    obtain ⟨e2, e3⟩ := Prod.mk.inj e23
    clear HRES er e23
    subst e3
    have E1 := ak e1
    have E2 := ak e2
    clear e1 e2 hNN hbig hl1 hl2 s3
    have HM := ak (Live.start wf)
    have s0 := ak True.intro
    go_wp2_with (first
     | (clear s0; (with_reducible refine gate_dst (N := 8) rfl ?_); refine armb_ (rs' := []) HM (fun HM_ => ?_); refine bx_ (N := 8) (cs := #[.int .i64 0]) (t := 3) ?_; intro b8 hg w8 hbox hb; have HM1 : Aside0 (Live wf w8 [.box b8 #[.int .i64 0] 3]) := ⟨HM_.out.box hb hg hbox⟩; clear HM HM_ hb hg hbox ; have HM := HM1; clear HM1; have hg0 : w8.cell? ⟨b8, 0, none⟩ = some (.int .i64 0) := Live.cell [] HM.out 0 rfl; have hy0 := Live.frozen [] HM.out 0; have hb5 : w8.cell? ⟨b2, 1, none⟩ = some (.slice An u.length cn) := (Live.cell [_, _] (HF.out.step HM.out.below) 1 rfl).trans (congrArg (fun n => some (Value.slice An n cn)) EN1.out); have hn_b2 : b2 ≠ b8 := Nat.ne_of_lt (Nat.lt_of_lt_of_le (Live.low [_, _] HF.out) (Live.high [] HM.out)); have hm_b2 : b8 ≠ b2 := fun e => hn_b2 e.symm; have s1 := ak True.intro)
     | (clear s1; go_at_call 74; refine arm_ (rs' := [.box b8 #[.int .i64 v.length] 3]) HM ?_; clear HM; intro HM; (with_reducible refine (made_int NN _ ?u0 HNN.out 78 79 #[.pointer (some ⟨g6, 0, none⟩), .pointer (some ⟨b8, 0, none⟩), .pointer (some ⟨g7, 0, none⟩)] #[.pointer (some ⟨g6, 0, none⟩), .pointer (some ⟨b8, 0, none⟩), .pointer (some ⟨g7, 0, none⟩)] (enters_of Try.func78 zl_1 rfl) (enters_of Try.func79 zl_1 rfl) (timesB u v v.length) (fun i => rd nt ((i / v.length : Nat) : Int) * (v.length : Int) + rd mtt ((i % v.length : Nat) : Int)) ?u1 ?u2).mono ?_); (case u0 => first | rfl | exact HW.out | exact HW2.out); (case u1 => exact fun w' i k hw hi hk => times1 (HAx.out.below (HM.out.step hw).below) (HAy.out.below (HM.out.step hw).below) a1.out a2.out ((blk_cell (blk_below K6.out (HM.out.step hw).below) 0).trans rfl) ((blk_cell (blk_below K7.out (HM.out.step hw).below) 0).trans rfl) rfl (Live.cell [] (HM.out.step hw) 0 rfl) (HE.out ▸ hi) (HE.out ▸ hk)); (case u2 => exact fun w' i hw hi => times2 (HAx.out.below (HM.out.step hw).below) (HAy.out.below (HM.out.step hw).below) a1.out a2.out ((blk_cell (blk_below K6.out (HM.out.step hw).below) 0).trans rfl) ((blk_cell (blk_below K7.out (HM.out.step hw).below) 0).trans rfl) rfl (Live.cell [] (HM.out.step hw) 0 rfl) (HE.out ▸ hi)); rintro e wc ⟨v0, v1, rfl, hS, hR, hb⟩; obtain ⟨A0, c0, e0⟩ := Kd.S_slice hS; subst e0; obtain ⟨A1, c1, e1⟩ := Kd.R_slice hR; subst e1; have HX := ak ((HF.out.step HM.out.below).logic hS hR hb); clear HM hS hR hb; have hr0 : wc.cell? ⟨b4, 0, none⟩ = some (.slice none 0 0) := Live.cell [_] HX.out 0 rfl; have hr1 : wc.cell? ⟨b4, 1, none⟩ = some (.slice none 0 0) := Live.cell [_] HX.out 1 rfl; have hx0 := Live.frozen [_] HX.out 0; have hx1 := Live.frozen [_] HX.out 1; have s2 := ak True.intro))
    have HP := Live.put [_] (Live.put [_] HX.out 0 (.slice A0 (madeU NN (timesB u v v.length)).length c0) rfl) 1 (.slice A1 (madeN NN (fun i => rd nt ((i / v.length : Nat) : Int) * (v.length : Int) + rd mtt ((i % v.length : Nat) : Int))).length c1) rfl
    refine bodyPost_ret (results_ct rfl _ _ b4 29 #[.slice A0 (madeU NN (timesB u v v.length)).length c0, .slice A1 (madeN NN (fun i => rd nt ((i / v.length : Nat) : Int) * (v.length : Int) + rd mtt ((i % v.length : Nat) : Int))).length c1] (0, 0) _ rfl (Live.cells [_] HP) hul rfl zl_1) rfl ?_
    obtain ⟨q1, q2, q3⟩ := Live.ret HP
    rw [← E1.out, ← E2.out]
    exact ⟨_, _, rfl, q1, q2, q3⟩
   have k2 : decide ((NN : Int) > 12) = true := dT_ (by omega)
   have k3 : decide (12 < (NN : Int)) = true := dT_ (by omega)
   have k4 : decide (12 < wrap64 (NN : Int)) = true := by rw [Q.wrap_of _ (by have := hN144; omega) (by have := hN144; omega)]; exact k3
   have er : timesF u nt v mtt = ([], [], false) := if_neg (fun q => hbig (hNN ▸ q.2.2))
   rw [er] at HRES
   obtain ⟨e1, e23⟩ := Prod.mk.inj HRES.out
   obtain ⟨e2, e3⟩ := Prod.mk.inj e23
   clear HRES er e23
   subst e1
   subst e2
   subst e3
   clear hNN hbig hl1 hl2
   go_wp2
   have HP := Live.put [] (Live.put [] HF.out 0 (.slice none 0 0) rfl) 1 (.slice none 0 0) rfl
   refine bodyPost_ret (results_ct rfl _ _ b4 29 #[.slice none 0 0, .slice none 0 0] (0, 0) _ rfl (Live.cells [] HP) hul rfl zl_1) rfl ?_
   exact ⟨_, _, rfl, Kd.S_nil _ _ _ _ _, Kd.R_nil _ _ _ _ _, HP.below⟩
  injection ey with ey
  subst ey
  have c6 : wf.cell? ⟨g6, 0, none⟩ = some (.pointer (some ⟨gx, 0, none⟩)) := (blk_cell K6.out 0).trans rfl
  have c7 : wf.cell? ⟨g7, 0, none⟩ = some (.pointer none) := (blk_cell K7.out 0).trans rfl
  have er : timesF u nt v mtt = ([], [], false) := if_neg (fun q => hl2 q.2.1)
  rw [er] at HRES
  obtain ⟨e1, e23⟩ := Prod.mk.inj HRES.out
  obtain ⟨e2, e3⟩ := Prod.mk.inj e23
  clear HRES er e23
  subst e1
  subst e2
  subst e3
  clear hl1 hl2 hAx HTx2 HTy2
  go_wp2
  have HP := Live.put [] (Live.put [] HF.out 0 (.slice none 0 0) rfl) 1 (.slice none 0 0) rfl
  refine bodyPost_ret (results_ct rfl _ _ b4 29 #[.slice none 0 0, .slice none 0 0] (0, 0) _ rfl (Live.cells [] HP) hul rfl zl_1) rfl ?_
  exact ⟨_, _, rfl, Kd.S_nil _ _ _ _ _, Kd.R_nil _ _ _ _ _, HP.below⟩
 injection ex with ex
 subst ex
 have c6 : wf.cell? ⟨g6, 0, none⟩ = some (.pointer none) := (blk_cell K6.out 0).trans rfl
 have er : timesF u nt v mtt = ([], [], false) := if_neg (fun q => hl1 q.1)
 rw [er] at HRES
 obtain ⟨e1, e23⟩ := Prod.mk.inj HRES.out
 obtain ⟨e2, e3⟩ := Prod.mk.inj e23
 clear HRES er e23
 subst e1
 subst e2
 subst e3
 clear hl1 HTx2 HTy2
 go_wp2
 have HP := Live.put [] (Live.put [] HF.out 0 (.slice none 0 0) rfl) 1 (.slice none 0 0) rfl
 refine bodyPost_ret (results_ct rfl _ _ b4 29 #[.slice none 0 0, .slice none 0 0] (0, 0) _ rfl (Live.cells [] HP) hul rfl zl_1) rfl ?_
 exact ⟨_, _, rfl, Kd.S_nil _ _ _ _ _, Kd.R_nil _ _ _ _ _, HP.below⟩
theorem impl_TimesOf.calls (A0_0 : Option Addr) (c0_0 : Nat) (l0_0 : List (List Int)) (A0_1 : Option Addr) (c0_1 : Nat) (l0_1 : List Int) (A1_0 : Option Addr) (c1_0 : Nat) (l1_0 : List (List Int)) (A1_1 : Option Addr) (c1_1 : Nat) (l1_1 : List Int) (r1 : List (List Int)) (r2 : List Int) (r3 : Bool) (w : World) (hr0_0 : Kd.C (Kd.slice 3 (Kd.int .i64)) w A0_0 l0_0.length l0_0) (hc0_0 : l0_0.length ≤ c0_0) (hr0_1 : Kd.C (Kd.int .i64) w A0_1 l0_1.length l0_1) (hc0_1 : l0_1.length ≤ c0_1) (hr1_0 : Kd.C (Kd.slice 3 (Kd.int .i64)) w A1_0 l1_0.length l1_0) (hc1_0 : l1_0.length ≤ c1_0) (hr1_1 : Kd.C (Kd.int .i64) w A1_1 l1_1.length l1_1) (hc1_1 : l1_1.length ≤ c1_1) (h : impl_TimesOf.f l0_0 l0_1 l1_0 l1_1 = some (r1, r2, r3)) :
    Calls Try.prog 38 #[.agg #[.slice A0_0 l0_0.length c0_0, .slice A0_1 l0_1.length c0_1], .agg #[.slice A1_0 l1_0.length c1_0, .slice A1_1 l1_1.length c1_1]] w fun e w' => ∃ v0_ v1_ : Value, e = .returned (.tuple #[.agg #[v0_, v1_], .bool r3]) ∧ Kd.S (Kd.slice 3 (Kd.int .i64)) 23 w' w.heap.size (fun k_ => some k_ ≠ (v1_ : Value).ownBlock) v0_ r1 ∧ Kd.R (Kd.int .i64) 3 w' w.heap.size (fun _ => True) v1_ r2 ∧ Below w.heap.size w w' := timesOf_core A0_0 c0_0 l0_0 A0_1 c0_1 l0_1 A1_0 c1_0 l1_0 A1_1 c1_1 l1_1 w hr0_0 hc0_0 hr0_1 hc0_1 hr1_0 hc1_0 hr1_1 hc1_1 r1 r2 r3 (Option.some.inj h)
end Go.Proofs.Ytlkibgccgkhdmaa.P
