import Derived.Test.YtacifhahfamipaaPk5
import Derived.Test.YtacifhahfamipaaOh
import Derived.Test.YtacifhahfamipaaLi
namespace Go.Proofs.Ytacifhahfamipaa.Q
open Go.RowKit Go.Proofs.YtacifhahfamipaaW.PrintWords Go.Proofs.YtacifhahfamipaaW.PrintLast Go.Proofs.YtacifhahfamipaaW.PrintMore Go.Proofs.Ytacifhahfamipaa.P Go.Proofs.Cl
set_option linter.unusedVariables false
theorem Ev.det2 {α : Type} {f : Nat → Option α} {a b : α} (n : Nat) (h : Ev f a) (k : ∀ m, f (m + n) = some b) : a = b := by
  obtain ⟨K, hK⟩ := h
  have h1 := hK (K + n) (by omega)
  rw [k K] at h1
  exact (Option.some.inj h1).symm
theorem sets3_centre : centreF (setsF 3).1 (setsF 3).2.1 = [0, 1, 2, 3, 4, 5, 6, 7] := Ev.det2 3000 (spec_centre_ev _ _) (fun m => by kernel_rfl)
section
variable {u : List (List Int)} {nt : List Int}
theorem om_of (h : OL u nt) (q : keepsF u nt = true) : (toF h).OM := (keeps_F h).1 (of_decide_eq_true q).2
theorem centre_iff (h : OL u nt) {a : Int} (ka : 0 ≤ a ∧ a < u.length) : centreB u nt a.toNat = true ↔ ∀ x : Fin u.length, (toF h).C (fi a ka) x ∧ (toF h).C x (fi a ka) := by
  unfold centreB
  rw [decide_eq_true_iff]
  have e : ((a.toNat : Nat) : Int) = a := Int.toNat_of_nonneg ka.1
  rw [e]
  constructor
  · intro q x
    have kx : 0 ≤ ((x : Nat) : Int) ∧ ((x : Nat) : Int) < u.length := by have := x.2; omega
    have := q x x.2
    rw [with_F h ka kx, with_F h kx ka, fi_self x kx] at this
    exact this
  · intro q b hb
    have kb : 0 ≤ (b : Int) ∧ (b : Int) < u.length := by omega
    rw [with_F h ka kb, with_F h kb ka]
    exact q _
theorem centre_cls (h : OL u nt) (q : keepsF u nt = true) : Cls u nt (mkN (centreB u nt) u.length) := by
  have om := om_of h q
  have bit : ∀ x : Nat, x < u.length → ((mkN (centreB u nt) u.length).testBit x = true ↔ centreB u nt x = true) := by
    intro x hx
    rw [mkN_bit, decide_eq_true hx, Bool.true_and]
  have inn : ∀ {x : Int} (kx : 0 ≤ x ∧ x < u.length), (∀ y : Fin u.length, (toF h).C (fi x kx) y ∧ (toF h).C y (fi x kx)) → (mkN (centreB u nt) u.length).testBit x.toNat = true := by
    intro x kx q
    exact (bit _ (by omega)).2 ((centre_iff h kx).2 q)
  intro a ha ka
  have ia : 0 ≤ (a : Int) ∧ (a : Int) < u.length := by omega
  have qa := (centre_iff h ia).1 (by rw [Int.toNat_natCast]; exact (bit a ha).1 ka)
  refine ⟨inn (ng_in h ia) (fun y => ?_), fun b hb kb => ?_⟩
  · rw [fi_ng h ia]
    exact ⟨om.neg_l (qa y).1, (toF h).C_neg.2 (qa y).2⟩
  · have ib : 0 ≤ (b : Int) ∧ (b : Int) < u.length := by omega
    have qb := (centre_iff h ib).1 (by rw [Int.toNat_natCast]; exact (bit b hb).1 kb)
    refine ⟨inn (mt_in h ia ib) (fun y => ?_), inn (jn_in h ia ib) (fun y => ?_)⟩
    · rw [fi_mt h ia ib]
      have := om.C_meet (qa y).2 (qb y).2
      exact ⟨om.symm this, this⟩
    · rw [fi_jn h ia ib]
      have := om.C_join (qa y).2 (qb y).2
      exact ⟨om.symm this, this⟩
theorem centre_no (h : OL u nt) : centreB u nt (leastI u).toNat = true := by
  refine (centre_iff h (no_in h)).2 (fun x => ?_)
  rw [fi_no h]
  exact ⟨(toF h).bot_C x, (toF h).C_bot x⟩
theorem centre_yes (h : OL u nt) : centreB u nt (rd nt (leastI u)).toNat = true := by
  refine (centre_iff h (yes_in h)).2 (fun x => ?_)
  rw [fi_yes h]
  refine ⟨?_, (toF h).C_top x⟩
  show (toF h).join ((toF h).meet (toF h).top x) ((toF h).meet (toF h).top ((toF h).neg x)) = (toF h).top
  rw [(toF h).meet_comm _ x, (toF h).meet_top, (toF h).meet_comm _ ((toF h).neg x), (toF h).meet_top, (toF h).join_neg]
end
def powS (l : List Nat) : Nat := (l.map (2 ^ ·)).sum
theorem powS_append (a b : List Nat) : powS (a ++ b) = powS a + powS b := by simp [powS]
theorem powS_filter (p : Nat → Bool) : ∀ n, powS ((List.range n).filter p) = mkN p n
  | 0 => rfl
  | n + 1 => by
    rw [List.range_succ, List.filter_append, powS_append, powS_filter p n, mkN]
    by_cases h : p n = true
    · simp [h, powS]
    · simp [h, powS]
theorem powS_take (l : List Nat) (i : Nat) : powS (l.take i) ≤ powS l := by
  have := powS_append (l.take i) (l.drop i)
  rw [List.take_append_drop] at this
  omega
theorem powS_succ (l : List Nat) {i : Nat} (h : i < l.length) : powS (l.take (i + 1)) = powS (l.take i) + 2 ^ l[i] := by
  rw [List.take_succ_eq_append_getElem h, powS_append]
  simp [powS]
theorem hasInt_ev {l : List Int} (hl : l.length ≤ 100) {x : Int} (h : x ∈ l) : Ev (fun k => laws_hasInt.f k l x) true := by
  unfold laws_hasInt.f
  obtain ⟨j, hj, e⟩ := List.getElem_of_mem h
  have key : ∀ i, i ≤ j → Ev (fun k => laws_hasInt.l0 k l x i) true := by
    intro i hi
    refine down j (fun i => Ev (fun k => laws_hasInt.l0 k l x i) true) ?_ ?_ i hi
    · refine Ev.step (fun k => laws_hasInt.l0.eq_2 ..) (Ev.pos (by omega) (Ev.pos (by omega) (Ev.pos ?_ (Ev.ret rfl))))
      rw [rd_lt l hj, e]
    · intro i hi ih
      refine Ev.step (fun k => laws_hasInt.l0.eq_2 ..) (Ev.pos (by omega) (Ev.pos (by omega) ?_))
      by_cases q : rd l (i : Int) = x
      · exact Ev.pos q (Ev.ret rfl)
      · refine Ev.neg q ?_
        rw [wrap_succ i (by omega)]
        exact ih
  exact key 0 (Nat.zero_le _)
theorem FnCentreOf_pure : laws_FnCentreOf.Pure := by
  intro code _ _ hw
  refine Ev.rounds ?_
  unfold laws_FnCentreOf.f
  by_cases hl : (code.length : Int) > 1048576
  · exact Ev.pos hl (Ev.ret rfl)
  · refine Ev.neg hl ?_
    obtain ⟨⟨u, nt⟩, hu, d1, _⟩ := drawLogic_ev (bytes_of_wf hw) 9
    simp only at d1
    have hle := centreF_le u nt
    refine Ev.bind hu (Ev.bindc (a := centreF u nt) rfl (Ev.bind (spec_centre_ev u nt) (Ev.bind (sameInts_ev _ (by omega)) (Ev.pos rfl ?_))))
    by_cases h : OL u nt
    · have h12 := h.1.1.le12
      have k0 := no_in h
      have k1 := yes_in h
      have eL : centreF u nt = castL ((List.range u.length).filter (centreB u nt)) := if_pos h
      have mem : ∀ {x : Int}, 0 ≤ x ∧ x < u.length → centreB u nt x.toNat = true → x ∈ centreF u nt := by
        intro x kx q
        rw [eL]
        refine List.mem_map.2 ⟨x.toNat, List.mem_filter.2 ⟨List.mem_range.2 (by omega), q⟩, ?_⟩
        omega
      have m0 := mem k0 (centre_no h)
      have m1 := mem k1 (centre_yes h)
      have hpos : 0 < (centreF u nt).length := List.length_pos_of_mem m0
      refine Ev.neg (by omega) ?_
      obtain ⟨L, hL⟩ : ∃ L, L = (List.range u.length).filter (centreB u nt) := ⟨_, rfl⟩
      have hS : powS L = mkN (centreB u nt) u.length := by rw [hL]; exact powS_filter _ _
      have hlt := mkN_lt (centreB u nt) u.length
      have hp12 := pow_le12 h12
      have eC : centreF u nt = castL L := by rw [eL, hL]
      have hlen : (centreF u nt).length = L.length := by rw [eC, castL_len]
      have hsub : ∀ x ∈ L, x < u.length := by
        rw [hL]
        exact fun x hx => List.mem_range.1 (List.mem_filter.1 hx).1
      have at_ : ∀ i (hi : i < L.length), rd (centreF u nt) (i : Int) = ((L[i] : Nat) : Int) ∧ L[i] < u.length := by
        intro i hi
        refine ⟨?_, hsub _ (List.getElem_mem hi)⟩
        rw [rd_lt _ (by rw [hlen]; exact hi)]
        simp only [eC]
        simp [castL]
      have fin : Ev (fun k => laws_FnCentreOf.l0 k (centreF u nt) (powS L : Int) (L.length : Int) u nt) true := by
        refine Ev.step (fun k => laws_FnCentreOf.l0.eq_2 ..) (Ev.neg (by omega) ?_)
        refine Ev.bindc (a := setsF 3) rfl (Ev.bindc (a := keepsF u nt) rfl ?_)
        have e0 : impl_NoOf.f u nt = some (leastI u) := congrArg some (if_pos h)
        have e1 : impl_YesOf.f u nt = some (rd nt (leastI u)) := congrArg some (yesF_in h)
        have hh0 := hasInt_ev (l := centreF u nt) (by omega) m0
        have hh1 := hasInt_ev (l := centreF u nt) (by omega) m1
        have e8 : impl_CentreOf.f (setsF 3).1 (setsF 3).2.1 = some [0, 1, 2, 3, 4, 5, 6, 7] := congrArg some sets3_centre
        have rest : Ev (fun k => (impl_NoOf.f u nt).bind fun t1312 => ((laws_hasInt.f k (centreF u nt) t1312).bind fun t1313 => (if t1313 = true then ((impl_YesOf.f u nt).bind fun t1314 => ((laws_hasInt.f k (centreF u nt) t1314).bind fun t1315 => (if t1315 = true then (if (setsF 3).2.2 = true then ((impl_CentreOf.f (setsF 3).1 (setsF 3).2.1).bind fun t1316 => (some ((t1316.length : Int) == 8))) else (some false)) else (some false)))) else (some false)))) true :=
          Ev.bindc e0 (Ev.bind hh0 (Ev.pos rfl (Ev.bindc e1 (Ev.bind hh1 (Ev.pos rfl (Ev.pos (by kernel_rfl) (Ev.bindc e8 (Ev.ret rfl))))))))
        cases hk : keepsF u nt with
        | true =>
          refine Ev.pos rfl (Ev.bindc (a := true) ?_ (Ev.pos rfl rest))
          show some (subF u nt (powS L : Int)) = some true
          have hS0 : 0 < powS L := by
            have h7 := powS_take L (0 + 1)
            have hL1 : 0 < L.length := by omega
            have h3 := powS_succ L hL1
            have h4 := Nat.two_pow_pos L[0]
            omega
          rw [hS] at hS0 ⊢
          exact congrArg some (subF_of h hS0 hlt (centre_cls h hk))
        | false => exact Ev.neg Bool.false_ne_true rest
      have key := down L.length (fun i => Ev (fun k => laws_FnCentreOf.l0 k (centreF u nt) (powS (L.take i) : Int) i u nt) true) ?_ ?_ 0 (Nat.zero_le _)
      · have e : powS (L.take 0) = 0 := by simp [powS]
        rw [e] at key
        exact key
      · rw [List.take_length]
        exact fin
      · intro i hi ih
        obtain ⟨ha, hb⟩ := at_ i hi
        refine Ev.step (fun k => laws_FnCentreOf.l0.eq_2 ..) (Ev.pos (by omega) (Ev.pos (by omega) ?_))
        rw [ha]
        refine Ev.neg (by omega) (Ev.neg (by omega) (Ev.pos (by omega) ?_))
        have h5 := powS_succ L hi
        have h6 := powS_take L (i + 1)
        rw [shl_nat (show L[i] ≤ 12 by omega), wrap_succ i (by omega), show wrap64 ((powS (L.take i) : Int) + ((2 ^ L[i] : Nat) : Int)) = (powS (L.take (i + 1)) : Int) by rw [wrap_of _ (by omega) (by omega)]; omega]
        exact ih
    · have e : centreF u nt = [] := if_neg h
      rw [e]
      refine Ev.pos rfl (Ev.bindc (a := false) (congrArg some (decide_eq_false h)) (Ev.neg Bool.false_ne_true (Ev.bind alive_ev (Ev.ret rfl))))
end Go.Proofs.Ytacifhahfamipaa.Q

