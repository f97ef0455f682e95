/- 42 texts of this seat joined: walks, and the laws of what they compute. -/
import Derived.Test.YtacifhahfamipaaPk2
namespace Go.Proofs.Ytacifhahfamipaa.Q
open Go.RowKit Go.Proofs.YtacifhahfamipaaW.PrintWords Go.Proofs.YtacifhahfamipaaW.PrintLast Go.Proofs.YtacifhahfamipaaW.PrintMore Go.Proofs.Ytacifhahfamipaa.P Go.Proofs.Cl
set_option linter.unusedVariables false

theorem Ev.pos {α:Type} {c:Prop} [Decidable c] {f g:Nat→Option α} {r:α} (h:c) (H:Ev f r):Ev (fun k=>if c then f k else g k) r:=by
 simp only [if_pos h]
 exact H
theorem Ev.neg {α:Type} {c:Prop} [Decidable c] {f g:Nat→Option α} {r:α} (h : ¬c) (H:Ev g r):Ev (fun k=>if c then f k else g k) r:=by
 simp only [if_neg h]
 exact H
theorem Ev.tt {α:Type} {b:Bool} {f g:Nat→Option α} {r:α} (h:b=true) (H:Ev f r):Ev (fun k=>if b=true then f k else g k) r:=Ev.pos h H
theorem Ev.ff {α:Type} {b:Bool} {f g:Nat→Option α} {r:α} (h:b=false) (H:Ev g r):Ev (fun k=>if b=true then f k else g k) r:=Ev.neg (by rw [h];exact Bool.false_ne_true) H
theorem Ev.ret {α:Type} {a r:α} (h:a=r):Ev (fun _=>some a) r:=h▸Ev.now a
theorem Ev.bindc {α β:Type} {o:Option α} {f:Nat→α→Option β} {a:α} {r:β} (h:o=some a) (k:Ev (fun n=>f n a) r):Ev (fun n=>o.bind (f n)) r:=by
 subst h
 exact k
theorem Ev.to {α:Type} {f:Nat→Option α} {a r:α} (H:Ev f a) (h:a=r):Ev f r:=h▸H
theorem wrap_of (x:Int) (h0 : -9223372036854775808≤x) (h1:x≤9223372036854775807):wrap64 x=x:=by
 unfold wrap64
 omega
theorem wrap_succ (i:Nat) (h:i<4611686018427387904):wrap64 ((i:Int)+1)=((i+1:Nat):Int):=by
 rw [wrap_of _ (by omega) (by omega)]
 omega
theorem rd_nat (xs:List Int) (i:Nat):rd xs (i:Int)=xs.getD i 0:=rfl
theorem row_nat (u:List (List Int)) (i:Nat):rd_L1 u (i:Int)=u.getD i []:=rfl
theorem at_nat (u:List (List Int)) (i j:Nat):rd (rd_L1 u (i:Int)) (j:Int)=rdN u i j:=rfl
theorem set_step {α:Type} (xs:List α) (z:α) (i:Nat) (h:i<xs.length):(xs.take i++List.replicate (xs.length-i) z).set i xs[i]=xs.take (i+1)++List.replicate (xs.length-(i+1)) z:=by
 rw [show xs.length-i=(xs.length-(i+1))+1 by omega,List.replicate_succ,List.set_append,if_neg (by rw [List.length_take];omega)]
 rw [List.length_take,show i-min i xs.length=0 by omega,List.set_cons_zero,List.take_succ_eq_append_getElem h,List.append_assoc]
 rfl
theorem nat_of {a:Int} {n:Nat} (h:0≤a∧a<n) : ∃ m:Nat,a=m∧m<n:=⟨a.toNat,by omega,by omega⟩
theorem row_lt (u:List (List Int)) {i:Nat} (h:i<u.length):rd_L1 u (i:Int)=u[i]:=by
 rw [row_nat,List.getD_eq_getElem?_getD,List.getElem?_eq_getElem h,Option.getD_some]
theorem wrap_succ' (i:Nat) (h:i<9223372036854775807):wrap64 ((i:Int)+1)=((i+1:Nat):Int):=by
 rw [wrap_of _ (by omega) (by omega)]
 omega

theorem l1In_eq (a b c:Int):spec_l1In.f a b c=some (decide (b≤a∧a≤c)):=by
 unfold spec_l1In.f
 by_cases h:a≥b
 ·rw [if_pos h]
  congr 1
  rw [decide_eq_decide]
  exact ⟨fun k=>⟨h,k⟩,fun k=>k.2⟩
 ·rw [if_neg h]
  congr 1
  symm
  rw [decide_eq_false_iff_not]
  exact fun k=>h k.1

section
variable (u:List (List Int))
def p4 (a b c:Nat):Bool := !(decide (rdN u a b=1)&&decide (rdN u b c=1)&&decide (rdN u a c=0))
def p3 (a b:Nat):Bool := !(if a=b then decide (rdN u a b=0) else (decide (rdN u a b=1)&&decide (rdN u b a=1)))&&allF u.length (p4 u a b) 0
def p1 (a b:Nat):Bool:=decide (0≤rdN u a b∧rdN u a b≤1)
def p0 (a:Nat):Bool:=decide ((u.getD a []).length=u.length)&&allF u.length (p1 u a) 0
variable {u}
variable (hn:u.length≤12)
theorem so_l4 (hn:u.length≤12) (HR : ∀ a,a<u.length→(rd_L1 u (a:Int)).length=u.length) {a b:Nat} (ha:a<u.length) (hb:b<u.length) {r:Bool}
    (H:Ev (fun k=>spec_OrderOk.l3 k u u.length a ((b+1:Nat):Int)) r) (c:Nat) (hc:c≤u.length) :
    Ev (fun k=>spec_OrderOk.l4 k u u.length a b c) (allF u.length (p4 u a b) c&&r):=by
  refine down u.length (fun c=>Ev (fun k=>spec_OrderOk.l4 k u u.length a b c) (allF u.length (p4 u a b) c&&r)) ?_ ?_ c hc
  · refine Ev.step (fun k=>spec_OrderOk.l4.eq_2 ..) ?_
    refine Ev.neg (by omega) ?_
    rw [allF_end (Nat.le_refl _),Bool.true_and,wrap_succ b (by omega)]
    exact H
  · intro c hc ih
    have h1:=HR a ha
    have h2:=HR b hb
    refine Ev.step (fun k=>spec_OrderOk.l4.eq_2 ..) ?_
    repeat (refine Ev.pos (by omega) ?_)
    rw [allF_step hc,wrap_succ c (by omega)]
    by_cases k1:rdN u a b=1
    · refine Ev.pos k1 ?_
      repeat (refine Ev.pos (by omega) ?_)
      by_cases k2:rdN u b c=1
      · refine Ev.pos k2 ?_
        repeat (refine Ev.pos (by omega) ?_)
        by_cases k3:rdN u a c=0
        · refine Ev.pos k3 ?_
          exact Ev.ret (by simp [p4,k1,k2,k3])
        · refine Ev.neg k3 ?_
          exact Ev.to ih (by simp [p4,k3])
      · refine Ev.neg k2 ?_
        exact Ev.to ih (by simp [p4,k2])
    · refine Ev.neg k1 ?_
      exact Ev.to ih (by simp [p4,k1])
theorem so_l3 (hn:u.length≤12) (HR : ∀ a,a<u.length→(rd_L1 u (a:Int)).length=u.length) {a:Nat} (ha:a<u.length) {r:Bool}
    (H:Ev (fun k=>spec_OrderOk.l2 k u u.length ((a+1:Nat):Int)) r) (b:Nat) (hb:b≤u.length) :
    Ev (fun k=>spec_OrderOk.l3 k u u.length a b) (allF u.length (p3 u a) b&&r):=by
  refine down u.length (fun b=>Ev (fun k=>spec_OrderOk.l3 k u u.length a b) (allF u.length (p3 u a) b&&r)) ?_ ?_ b hb
  · refine Ev.step (fun k=>spec_OrderOk.l3.eq_2 ..) ?_
    refine Ev.neg (by omega) ?_
    rw [allF_end (Nat.le_refl _),Bool.true_and,wrap_succ a (by omega)]
    exact H
  · intro b hb ih
    have h1:=HR a ha
    have h2:=HR b hb
    have key : ∀ x:Bool,Ev (fun k=>spec_OrderOk.j4 k u u.length a b x) (!x&&allF u.length (p4 u a b) 0&&allF u.length (p3 u a) (b+1)&&r):=by
      intro x
      refine Ev.step (fun k=>spec_OrderOk.j4.eq_2 ..) ?_
      cases x with
      | true=>exact Ev.pos rfl (Ev.ret (by simp))
      | false =>
        refine Ev.neg Bool.false_ne_true ?_
        exact Ev.to (so_l4 hn HR ha hb ih 0 (Nat.zero_le _)) (by simp [Bool.and_assoc])
    refine Ev.step (fun k=>spec_OrderOk.l3.eq_2 ..) ?_
    refine Ev.pos (by omega) ?_
    rw [allF_step hb]
    by_cases e:a=b
    · refine Ev.pos (by omega) ?_
      repeat (refine Ev.pos (by omega) ?_)
      by_cases k1:rdN u a b=0
      · exact Ev.pos k1 (Ev.to (key true) (by rw [p3,if_pos e,decide_eq_true k1]))
      · exact Ev.neg k1 (Ev.to (key false) (by rw [p3,if_pos e,decide_eq_false k1]))
    · refine Ev.neg (by omega) ?_
      repeat (refine Ev.pos (by omega) ?_)
      by_cases k1:rdN u a b=1
      · refine Ev.pos k1 ?_
        repeat (refine Ev.pos (by omega) ?_)
        refine Ev.to (key _) ?_
        rw [p3,if_neg e,decide_eq_true k1,Bool.true_and]
        rfl
      · refine Ev.neg k1 (Ev.to (key false) ?_)
        rw [p3,if_neg e,decide_eq_false k1,Bool.false_and]
theorem so_l2 (hn:u.length≤12) (HR : ∀ a,a<u.length→(rd_L1 u (a:Int)).length=u.length) (a:Nat) (ha:a≤u.length) :
    Ev (fun k=>spec_OrderOk.l2 k u u.length a) (allF u.length (fun a=>allF u.length (p3 u a) 0) a):=by
  refine down u.length (fun a=>Ev (fun k=>spec_OrderOk.l2 k u u.length a) (allF u.length (fun a=>allF u.length (p3 u a) 0) a)) ?_ ?_ a ha
  · refine Ev.step (fun k=>spec_OrderOk.l2.eq_2 ..) ?_
    refine Ev.neg (by omega) ?_
    exact Ev.ret (allF_end (Nat.le_refl _)).symm
  · intro a ha ih
    refine Ev.step (fun k=>spec_OrderOk.l2.eq_2 ..) ?_
    refine Ev.pos (by omega) ?_
    rw [allF_step ha]
    exact so_l3 hn HR ha ih 0 (Nat.zero_le _)
theorem so_l1 (hn:u.length≤12) {a:Nat} (ha:a<u.length) (HR:(rd_L1 u (a:Int)).length=u.length) {r:Bool}
    (H:Ev (fun k=>spec_OrderOk.l0 k u u.length ((a+1:Nat):Int)) r) (b:Nat) (hb:b≤u.length) :
    Ev (fun k=>spec_OrderOk.l1 k u u.length a b) (allF u.length (p1 u a) b&&r):=by
  refine down u.length (fun b=>Ev (fun k=>spec_OrderOk.l1 k u u.length a b) (allF u.length (p1 u a) b&&r)) ?_ ?_ b hb
  · refine Ev.step (fun k=>spec_OrderOk.l1.eq_2 ..) ?_
    refine Ev.neg (by omega) ?_
    rw [allF_end (Nat.le_refl _),Bool.true_and,wrap_succ a (by omega)]
    exact H
  · intro b hb ih
    refine Ev.step (fun k=>spec_OrderOk.l1.eq_2 ..) ?_
    repeat (refine Ev.pos (by omega) ?_)
    refine Ev.bindc (l1In_eq _ _ _) ?_
    rw [allF_step hb,wrap_succ b (by omega)]
    cases hp:p1 u a b with
    | true=>exact Ev.tt hp (Ev.to ih (by simp))
    | false=>exact Ev.ff hp (Ev.ret (by simp))
theorem so_l0 (hn:u.length≤12) (a:Nat) (ha:a≤u.length):(∀ c,c<a→(rd_L1 u (c:Int)).length=u.length) →
    Ev (fun k=>spec_OrderOk.l0 k u u.length a) (allF u.length (p0 u) a&&allF u.length (fun a=>allF u.length (p3 u a) 0) 0):=by
  refine down u.length (fun a=>(∀ c,c<a→(rd_L1 u (c:Int)).length=u.length) →
    Ev (fun k=>spec_OrderOk.l0 k u u.length a) (allF u.length (p0 u) a&&allF u.length (fun a=>allF u.length (p3 u a) 0) 0)) ?_ ?_ a ha
  · intro HR
    refine Ev.step (fun k=>spec_OrderOk.l0.eq_2 ..) ?_
    refine Ev.neg (by omega) ?_
    rw [allF_end (Nat.le_refl _),Bool.true_and]
    exact so_l2 hn HR 0 (Nat.zero_le _)
  · intro a ha ih HR
    refine Ev.step (fun k=>spec_OrderOk.l0.eq_2 ..) ?_
    repeat (refine Ev.pos (by omega) ?_)
    rw [allF_step ha]
    by_cases e:(rd_L1 u (a:Int)).length=u.length
    · refine Ev.pos (by omega) ?_
      have k:=so_l1 hn ha e (ih (fun c hc=>by
        by_cases e2:c=a
        · rw [e2];exact e
        · exact HR c (by omega))) 0 (Nat.zero_le _)
      refine Ev.to k ?_
      rw [p0,decide_eq_true (show (u.getD a []).length=u.length from e),Bool.true_and,Bool.and_assoc]
    · refine Ev.neg (by omega) ?_
      refine Ev.ret ?_
      rw [p0,decide_eq_false (show ¬(u.getD a []).length=u.length from e)]
      simp
end
theorem ord_of_loops (u:List (List Int)) (h1:1≤u.length) (h2:u.length≤12) :
    (allF u.length (p0 u) 0&&allF u.length (fun a=>allF u.length (p3 u a) 0) 0)=decide (Ord u):=by
  rw [Bool.eq_iff_iff,Bool.and_eq_true,allF0,allF0,decide_eq_true_iff]
  constructor
  · intro ⟨k0,k3⟩
    have rows : ∀ a,a<u.length→(u.getD a []).length=u.length:=fun a ha=>by
      have:=k0 a ha
      rw [p0,Bool.and_eq_true] at this
      exact of_decide_eq_true this.1
    have bits : ∀ a,a<u.length→∀ b,b<u.length→rdN u a b=0∨rdN u a b=1:=fun a ha b hb=>by
      have:=k0 a ha
      rw [p0,Bool.and_eq_true,allF0] at this
      have:=of_decide_eq_true (this.2 b hb)
      omega
    have ps : ∀ a,a<u.length→∀ b,b<u.length→p3 u a b=true:=fun a ha b hb=>allF0.1 (k3 a ha) b hb
    refine ⟨h1,h2,rows,bits,?_,?_,?_⟩
    · intro a ha
      have:=ps a ha a ha
      rw [p3,if_pos rfl,Bool.and_eq_true,Bool.not_eq_true',decide_eq_false_iff_not] at this
      rcases bits a ha a ha with k|k
      · exact absurd k this.1
      · exact k
    · intro a ha b hb k l
      have:=ps a ha b hb
      by_cases e:a=b
      · exact e
      · rw [p3,if_neg e,k,l] at this
        simp at this
    · intro a ha b hb c hc k l
      have:=ps a ha b hb
      rw [p3,Bool.and_eq_true,allF0] at this
      have:=this.2 c hc
      rcases bits a ha c hc with m|m
      · rw [p4,k,l,m] at this
        simp at this
      · exact m
  · intro h
    refine ⟨fun a ha=>?_,fun a ha=>allF0.2 fun b hb=>?_⟩
    · rw [p0,Bool.and_eq_true,allF0]
      refine ⟨decide_eq_true (h.row ha),fun b hb=>decide_eq_true ?_⟩
      have:=h.bit ha hb
      omega
    · rw [p3, Bool.and_eq_true,allF0]
      constructor
      · by_cases e:a=b
        · subst e
          rw [if_pos rfl,h.refl ha]
          rfl
        · rw [if_neg e,Bool.not_eq_true',Bool.and_eq_false_iff,decide_eq_false_iff_not,decide_eq_false_iff_not]
          by_cases k:rdN u a b=1
          · exact .inr fun l=>e (h.anti ha hb k l)
          · exact .inl k
      · intro c hc
        rw [p4,Bool.not_eq_true']
        by_cases k:rdN u a b=1
        · by_cases l:rdN u b c=1
          · rw [h.trans ha hb hc k l]
            simp
          · simp [l]
        · simp [k]
theorem spec_ord (u:List (List Int)):Ev (fun k=>spec_OrderOk.f k u) (decide (Ord u)):=by
 unfold spec_OrderOk.f
 refine Ev.bindc (l1In_eq _ _ _) ?_
 by_cases h:1≤u.length∧u.length≤12
 ·refine Ev.tt (decide_eq_true (by omega)) ?_
  exact Ev.to (so_l0 h.2 0 (Nat.zero_le _) (fun c hc=>by omega)) (ord_of_loops u h.1 h.2)
 ·refine Ev.ff (decide_eq_false (by omega)) ?_
  exact Ev.ret (decide_eq_false (fun k=>h ⟨k.1,k.2.1⟩)).symm

section
variable (u:List (List Int))
def q4 (a b c:Nat):Bool := !(decide (rdN u a b=1)&&decide (rdN u b c=1) && !decide (rdN u a c=1))
def q1 (a b:Nat):Bool:=(decide (rdN u a b=0)||decide (rdN u a b=1))&&decide ((u.getD b []).length=u.length) && !(decide (rdN u a b=1) && !decide (a=b)&&decide (rdN u b a=1))
def q0 (a:Nat):Bool:=decide ((u.getD a []).length=u.length)&&decide (rdN u a a=1)&&allF u.length (q1 u a) 0
variable {u}
theorem io_l4 (hn:u.length≤12) (HR : ∀ a,a<u.length→(rd_L1 u (a:Int)).length=u.length) {a b:Nat} (ha:a<u.length) (hb:b<u.length) {r:Bool}
    (H:Ev (fun k=>impl_OrderOk.l3 k u u.length a u.length a u.length ((b+1:Nat):Int)) r) (c:Nat) (hc:c≤u.length) :
    Ev (fun k=>impl_OrderOk.l4 k u u.length a b u.length a u.length b u.length c) (allF u.length (q4 u a b) c&&r):=by
  refine down u.length (fun c=>Ev (fun k=>impl_OrderOk.l4 k u u.length a b u.length a u.length b u.length c) (allF u.length (q4 u a b) c&&r)) ?_ ?_ c hc
  · refine Ev.step (fun k=>impl_OrderOk.l4.eq_2 ..) ?_
    refine Ev.neg (by omega) ?_
    rw [allF_end (Nat.le_refl _),Bool.true_and,wrap_succ b (by omega)]
    exact H
  · intro c hc ih
    have h1:=HR a ha
    have h2:=HR b hb
    refine Ev.step (fun k=>impl_OrderOk.l4.eq_2 ..) ?_
    repeat (refine Ev.pos (by omega) ?_)
    rw [allF_step hc,wrap_succ c (by omega)]
    by_cases k1:rdN u a b=1
    · refine Ev.pos k1 ?_
      repeat (refine Ev.pos (by omega) ?_)
      by_cases k2:rdN u b c=1
      · refine Ev.pos k2 ?_
        repeat (refine Ev.pos (by omega) ?_)
        by_cases k3:rdN u a c=1
        · refine Ev.pos k3 ?_
          exact Ev.to ih (by simp [q4,k3])
        · refine Ev.neg k3 ?_
          exact Ev.ret (by simp [q4,k1,k2,k3])
      · refine Ev.neg k2 ?_
        exact Ev.to ih (by simp [q4,k2])
    · refine Ev.neg k1 ?_
      exact Ev.to ih (by simp [q4,k1])
theorem io_l3 (hn:u.length≤12) (HR : ∀ a,a<u.length→(rd_L1 u (a:Int)).length=u.length) {a:Nat} (ha:a<u.length) {r:Bool}
    (H:Ev (fun k=>impl_OrderOk.l2 k u u.length u.length ((a+1:Nat):Int)) r) (b:Nat) (hb:b≤u.length) :
    Ev (fun k=>impl_OrderOk.l3 k u u.length a u.length a u.length b) (allF u.length (fun b=>allF u.length (q4 u a b) 0) b&&r):=by
  refine down u.length (fun b=>Ev (fun k=>impl_OrderOk.l3 k u u.length a u.length a u.length b) (allF u.length (fun b=>allF u.length (q4 u a b) 0) b&&r)) ?_ ?_ b hb
  · refine Ev.step (fun k=>impl_OrderOk.l3.eq_2 ..) ?_
    refine Ev.neg (by omega) ?_
    rw [allF_end (Nat.le_refl _),Bool.true_and,wrap_succ a (by omega)]
    exact H
  · intro b hb ih
    refine Ev.step (fun k=>impl_OrderOk.l3.eq_2 ..) ?_
    refine Ev.pos (by omega) ?_
    rw [allF_step hb,Bool.and_assoc]
    exact io_l4 hn HR ha hb ih 0 (Nat.zero_le _)
theorem io_l2 (hn:u.length≤12) (HR : ∀ a,a<u.length→(rd_L1 u (a:Int)).length=u.length) (a:Nat) (ha:a≤u.length) :
    Ev (fun k=>impl_OrderOk.l2 k u u.length u.length a) (allF u.length (fun a=>allF u.length (fun b=>allF u.length (q4 u a b) 0) 0) a):=by
  refine down u.length (fun a=>Ev (fun k=>impl_OrderOk.l2 k u u.length u.length a) (allF u.length (fun a=>allF u.length (fun b=>allF u.length (q4 u a b) 0) 0) a)) ?_ ?_ a ha
  · refine Ev.step (fun k=>impl_OrderOk.l2.eq_2 ..) ?_
    refine Ev.neg (by omega) ?_
    exact Ev.ret (allF_end (Nat.le_refl _)).symm
  · intro a ha ih
    refine Ev.step (fun k=>impl_OrderOk.l2.eq_2 ..) ?_
    refine Ev.pos (by omega) ?_
    rw [allF_step ha]
    exact io_l3 hn HR ha ih 0 (Nat.zero_le _)
theorem io_l1 (hn:u.length≤12) {a:Nat} (ha:a<u.length) (h1:(rd_L1 u (a:Int)).length=u.length) {r:Bool}
    (H:Ev (fun k=>impl_OrderOk.l0 k u u.length u u.length ((a+1:Nat):Int)) r) (b:Nat) (hb:b≤u.length) :
    Ev (fun k=>impl_OrderOk.l1 k u u.length a u u.length a (rd_L1 u (a:Int)) u.length b) (allF u.length (q1 u a) b&&r):=by
  refine down u.length (fun b=>Ev (fun k=>impl_OrderOk.l1 k u u.length a u u.length a (rd_L1 u (a:Int)) u.length b) (allF u.length (q1 u a) b&&r)) ?_ ?_ b hb
  · refine Ev.step (fun k=>impl_OrderOk.l1.eq_2 ..) ?_
    refine Ev.neg (by omega) ?_
    rw [allF_end (Nat.le_refl _),Bool.true_and,wrap_succ a (by omega)]
    exact H
  · intro b hb ih
    have key : ∀ x:Bool,x = !(decide (rdN u a b=0)||decide (rdN u a b=1))→Ev (fun k=>impl_OrderOk.j4 k u u.length a b (rd (rd_L1 u (a:Int)) (b:Int)) u u.length a (rd_L1 u (a:Int)) u.length b x) (q1 u a b&&allF u.length (q1 u a) (b+1)&&r):=by
      intro x hx
      refine Ev.step (fun k=>impl_OrderOk.j4.eq_2 ..) ?_
      have hx':(decide (rdN u a b=0)||decide (rdN u a b=1)) = !x:=by rw [hx,Bool.not_not]
      cases x with
      | true=>exact Ev.pos rfl (Ev.ret (by simp [q1,hx']))
      | false =>
        refine Ev.neg Bool.false_ne_true ?_
        repeat (refine Ev.pos (by omega) ?_)
        by_cases k1:(rd_L1 u (b:Int)).length=u.length
        · refine Ev.pos (by omega) ?_
          have k1':(u.getD b []).length=u.length:=k1
          rw [wrap_succ b (by omega)]
          by_cases k2:rdN u a b=1
          · refine Ev.pos k2 ?_
            by_cases e:a=b
            · refine Ev.pos (by omega) ?_
              exact Ev.to ih (by rw [q1,hx',decide_eq_true k1',decide_eq_true e];simp)
            · refine Ev.neg (by omega) ?_
              repeat (refine Ev.pos (by omega) ?_)
              by_cases k3:rdN u b a=1
              · exact Ev.pos k3 (Ev.ret (by rw [q1,hx',decide_eq_true k1',decide_eq_true k2,decide_eq_true k3,decide_eq_false e];simp))
              · exact Ev.neg k3 (Ev.to ih (by rw [q1,hx',decide_eq_true k1',decide_eq_false k3];simp))
          · exact Ev.neg k2 (Ev.to ih (by rw [q1,hx',decide_eq_true k1',decide_eq_false k2];simp))
        · refine Ev.neg (by omega) ?_
          have k1' : ¬(u.getD b []).length=u.length:=k1
          exact Ev.ret (by rw [q1,decide_eq_false k1'];simp)
    refine Ev.step (fun k=>impl_OrderOk.l1.eq_2 ..) ?_
    rw [h1]
    repeat (refine Ev.pos (by omega) ?_)
    rw [allF_step hb]
    by_cases k1:rdN u a b=0
    · exact Ev.pos k1 (key false (by rw [decide_eq_true k1];rfl))
    · refine Ev.neg k1 (key _ ?_)
      rw [decide_eq_false k1,Bool.false_or]
      rfl
theorem io_l0 (hn:u.length≤12) (a:Nat) (ha:a≤u.length):(∀ c,c<a→(rd_L1 u (c:Int)).length=u.length) →
    Ev (fun k=>impl_OrderOk.l0 k u u.length u u.length a) (allF u.length (q0 u) a&&allF u.length (fun a=>allF u.length (fun b=>allF u.length (q4 u a b) 0) 0) 0):=by
  refine down u.length (fun a=>(∀ c,c<a→(rd_L1 u (c:Int)).length=u.length) →
    Ev (fun k=>impl_OrderOk.l0 k u u.length u u.length a) (allF u.length (q0 u) a&&allF u.length (fun a=>allF u.length (fun b=>allF u.length (q4 u a b) 0) 0) 0)) ?_ ?_ a ha
  · intro HR
    refine Ev.step (fun k=>impl_OrderOk.l0.eq_2 ..) ?_
    refine Ev.neg (by omega) ?_
    rw [allF_end (Nat.le_refl _),Bool.true_and]
    exact io_l2 hn HR 0 (Nat.zero_le _)
  · intro a ha ih HR
    refine Ev.step (fun k=>impl_OrderOk.l0.eq_2 ..) ?_
    repeat (refine Ev.pos (by omega) ?_)
    rw [allF_step ha]
    by_cases e:(rd_L1 u (a:Int)).length=u.length
    · refine Ev.pos (by omega) ?_
      refine Ev.pos (by omega) ?_
      have e':(u.getD a []).length=u.length:=e
      refine Ev.step (fun k=>impl_OrderOk.j2.eq_2 ..) ?_
      by_cases k1:rdN u a a=1
      · refine Ev.ff (show (rd (rd_L1 u (a:Int)) (a:Int) != 1)=false from bne_eq_false_iff_eq.2 k1) ?_
        rw [e]
        refine Ev.to (io_l1 hn ha e (ih (fun c hc=>by
          by_cases e2:c=a
          · rw [e2];exact e
          · exact HR c (by omega))) 0 (Nat.zero_le _)) ?_
        rw [q0,decide_eq_true e',decide_eq_true k1,Bool.true_and,Bool.true_and,Bool.and_assoc]
      · refine Ev.tt (show (rd (rd_L1 u (a:Int)) (a:Int) != 1)=true from bne_iff_ne.2 k1) ?_
        exact Ev.ret (by rw [q0,decide_eq_false k1];simp)
    · refine Ev.neg (by omega) ?_
      refine Ev.step (fun k=>impl_OrderOk.j2.eq_2 ..) ?_
      refine Ev.pos rfl (Ev.ret ?_)
      rw [q0,decide_eq_false (show ¬(u.getD a []).length=u.length from e)]
      simp
end
theorem ord_of_loops' (u:List (List Int)) (h1:1≤u.length) (h2:u.length≤12) :
    (allF u.length (q0 u) 0&&allF u.length (fun a=>allF u.length (fun b=>allF u.length (q4 u a b) 0) 0) 0)=decide (Ord u):=by
  rw [Bool.eq_iff_iff,Bool.and_eq_true,allF0,allF0,decide_eq_true_iff]
  constructor
  · intro ⟨k0,k4⟩
    have all0 : ∀ a,a<u.length→(u.getD a []).length=u.length∧rdN u a a=1∧∀ b,b<u.length→q1 u a b=true:=fun a ha=>by
      have:=k0 a ha
      rw [q0,Bool.and_eq_true,Bool.and_eq_true,decide_eq_true_iff,decide_eq_true_iff,allF0] at this
      exact ⟨this.1.1,this.1.2,this.2⟩
    refine ⟨h1,h2,fun a ha=>(all0 a ha).1,?_,fun a ha=>(all0 a ha).2.1,?_,?_⟩
    · intro a ha b hb
      have:=(all0 a ha).2.2 b hb
      simp only [q1,Bool.and_eq_true,Bool.or_eq_true,decide_eq_true_iff] at this
      exact this.1.1
    · intro a ha b hb k l
      have:=(all0 a ha).2.2 b hb
      by_cases e:a=b
      · exact e
      · simp [q1,k,l,e] at this
    · intro a ha b hb c hc k l
      have:=allF0.1 (allF0.1 (k4 a ha) b hb) c hc
      simpa [q4,k,l] using this
  · intro h
    refine ⟨fun a ha=>?_,fun a ha=>allF0.2 fun b hb=>allF0.2 fun c hc=>?_⟩
    · rw [q0,Bool.and_eq_true,Bool.and_eq_true,decide_eq_true_iff,decide_eq_true_iff,allF0]
      refine ⟨⟨h.row ha,h.refl ha⟩,fun b hb=>?_⟩
      rw [q1,Bool.and_eq_true,Bool.and_eq_true,Bool.or_eq_true,decide_eq_true_iff,decide_eq_true_iff,decide_eq_true_iff,Bool.not_eq_true']
      refine ⟨⟨h.bit ha hb,h.row hb⟩,?_⟩
      by_cases k:rdN u a b=1
      · by_cases l:rdN u b a=1
        · simp [h.anti ha hb k l]
        · simp [l]
      · simp [k]
    · rw [q4,Bool.not_eq_true']
      by_cases k:rdN u a b=1
      · by_cases l:rdN u b c=1
        · simp [h.trans ha hb hc k l]
        · simp [l]
      · simp [k]
theorem impl_ord (u:List (List Int)):Ev (fun k=>impl_OrderOk.f k u) (decide (Ord u)):=by
 unfold impl_OrderOk.f
 by_cases h1:1≤u.length
 ·refine Ev.neg (by omega) ?_
  refine Ev.step (fun k=>impl_OrderOk.j0.eq_2 ..) ?_
  by_cases h2:u.length≤12
  ·refine Ev.ff (decide_eq_false (by omega)) ?_
   exact Ev.to (io_l0 h2 0 (Nat.zero_le _) (fun c hc=>by omega)) (ord_of_loops' u h1 h2)
  ·refine Ev.tt (decide_eq_true (by omega)) ?_
   exact Ev.ret (decide_eq_false (fun k=>h2 k.2.1)).symm
 ·refine Ev.pos (by omega) ?_
  refine Ev.step (fun k=>impl_OrderOk.j0.eq_2 ..) ?_
  exact Ev.pos rfl (Ev.ret (decide_eq_false (fun k=>h1 k.1)).symm)
theorem isAnswer_eq (u:List (List Int)) (a:Int):impl_isAnswer.f u a=some (decide (0≤a∧a<u.length)):=by
 unfold impl_isAnswer.f
 by_cases h:a≥0
 ·rw [if_pos h]
  congr 1
  rw [decide_eq_decide]
  exact ⟨fun k=>⟨h,k⟩,fun k=>k.2⟩
 ·rw [if_neg h]
  congr 1
  symm
  rw [decide_eq_false_iff_not]
  exact fun k=>h k.1
theorem len_pred {u:List (List Int)} (h:Ord u):wrap64 ((u.length:Int)-1)=(u.length:Int)-1:=by
 have:=h.le12
 exact wrap_of _ (by omega) (by omega)

theorem pow62':(2:Nat) ^ 62=4611686018427387904:=by decide
theorem bits_small (op:BinOp) (x y:Nat) (hx:x<2 ^ 62) (hy:y<2 ^ 62) :
    Go.bits .xor .i64 x y=((x ^^^ y:Nat):Int)∧Go.bits .and .i64 x y=((x &&& y:Nat):Int)∧Go.bits .or .i64 x y=((x ||| y:Nat):Int):=by
  have e64:IntKind.i64.bits=64:=rfl
  have hp:(2:Nat) ^ 62≤2 ^ 64:=Nat.pow_le_pow_right (by decide) (by decide)
  have hx':x%2 ^ 64=x:=Nat.mod_eq_of_lt (Nat.lt_of_lt_of_le hx hp)
  have hy':y%2 ^ 64=y:=Nat.mod_eq_of_lt (Nat.lt_of_lt_of_le hy hp)
  have w : ∀ n:Nat,n<2 ^ 62→IntKind.i64.wrap (n:Int)=n:=by
    intro n h
    rw [pow62'] at h
    rw [IntKind.wrap_i64]
    omega
  refine ⟨?_,?_,?_⟩
  · simp only [Go.bits,e64,BitVec.ofInt_natCast,BitVec.toNat_xor,BitVec.toNat_ofNat,hx',hy']
    exact w _ (Nat.xor_lt_two_pow hx hy)
  · simp only [Go.bits,e64,BitVec.ofInt_natCast,BitVec.toNat_and,BitVec.toNat_ofNat,hx',hy']
    exact w _ (Nat.and_lt_two_pow _ hy)
  · simp only [Go.bits,e64,BitVec.ofInt_natCast,BitVec.toNat_or,BitVec.toNat_ofNat,hx',hy']
    exact w _ (Nat.or_lt_two_pow hx hy)
theorem xor_nonneg (x y:Int) (hx0:0≤x) (hx:x<4611686018427387904) (hy0:0≤y) (hy:y<4611686018427387904):0≤Go.bits .xor .i64 x y:=by
 obtain ⟨a,rfl⟩:=Int.eq_ofNat_of_zero_le hx0
 obtain ⟨b,rfl⟩:=Int.eq_ofNat_of_zero_le hy0
 have:=(bits_small .xor a b (by rw [pow62'];omega) (by rw [pow62'];omega)).1
 rw [this]
 omega
theorem tmod_in (x n:Int) (hx:0≤x) (hn:0<n):0≤Int.tmod x n∧Int.tmod x n<n:=⟨Int.tmod_nonneg _ hx,Int.tmod_lt_of_pos _ hn⟩
theorem tdiv_in (x n:Int) (hx:0≤x) (hn:0<n):0≤Int.tdiv x n∧Int.tdiv x n≤x:=by
 rw [Int.tdiv_eq_ediv_of_nonneg hx]
 exact ⟨Int.ediv_nonneg hx (by omega),Int.ediv_le_self _ hx⟩
def Bytes (b:List Int):Prop:=∀ x,x∈b→0≤x∧x≤255
theorem Bytes.at_ {b:List Int} (h:Bytes b) {i:Int} (h0:0≤i) (h1:i<b.length):0≤rd b i∧rd b i≤255:=by
 obtain ⟨j,rfl⟩:=Int.eq_ofNat_of_zero_le h0
 have hj:j<b.length:=by omega
 have:rd b (j:Int)=b[j]:=by
  show b.getD j 0=b[j]
  rw [List.getD_eq_getElem?_getD,List.getElem?_eq_getElem hj]
  rfl
 rw [this]
 exact h _ (List.getElem_mem hj)
theorem pick_ev {b:List Int} (hb:Bytes b) (hl:b.length≤2000) {p:Int} (h0:0≤p) (h1:p<1000000) (n:Int) :
    ∃ v,Ev (fun k=>spec_l20Rd_pick.f k b p n) (v,p+1)∧0≤v∧(1≤n→v<n):=by
  unfold spec_l20Rd_pick.f
  have w1:wrap64 (p+1)=p+1:=wrap_of _ (by omega) (by omega)
  have w2:wrap64 (p+1-1)=p:=by rw [wrap_of _ (by omega) (by omega)];omega
  rw [w1]
  by_cases hn:n<1
  · refine ⟨0,?_,by omega,fun h=>by omega⟩
    refine Ev.pos hn ?_
    refine Ev.step (fun k=>spec_l20Rd_pick.j0.eq_2 ..) ?_
    exact Ev.pos rfl (Ev.ret rfl)
  · by_cases he:(b.length:Int)=0
    · refine ⟨0,?_,by omega,fun h=>by omega⟩
      refine Ev.neg hn ?_
      refine Ev.step (fun k=>spec_l20Rd_pick.j0.eq_2 ..) ?_
      exact Ev.tt (beq_iff_eq.2 he) (Ev.ret rfl)
    · by_cases hk:p<(b.length:Int)
      · have hr:=hb.at_ h0 hk
        have ht:=tmod_in (wrap64 (rd b p)) n (by rw [wrap_of _ (by omega) (by omega)];exact hr.1) (by omega)
        refine ⟨_,?_,ht.1,fun _=>ht.2⟩
        refine Ev.neg hn ?_
        refine Ev.step (fun k=>spec_l20Rd_pick.j0.eq_2 ..) ?_
        refine Ev.ff (beq_eq_false_iff_ne.2 he) ?_
        rw [w2]
        exact Ev.pos hk (Ev.pos h0 (Ev.neg (by omega) (Ev.ret rfl)))
      · have i1:=tmod_in p (b.length:Int) h0 (by omega)
        have w3:wrap64 (wrap64 (p*7)+3)=p*7+3:=by
          rw [wrap_of (p*7) (by omega) (by omega),wrap_of _ (by omega) (by omega)]
        have i2:=tmod_in (p*7+3) (b.length:Int) (by omega) (by omega)
        have r1:=hb.at_ i1.1 i1.2
        have r2:=hb.at_ i2.1 i2.2
        have d1:=tdiv_in p (b.length:Int) h0 (by omega)
        have hX : ∃ X,wrap64 ((wrap64 ((wrap64 ((wrap64 ((wrap64 (rd b (Int.tmod p (b.length:Int))))*131))+(wrap64 ((wrap64 (rd b (Int.tmod (p*7+3) (b.length:Int))))*1117))))+(wrap64 (p*29))))+(wrap64 ((wrap64 (Int.tdiv p (b.length:Int)))*53)))=X∧0≤X∧X<1000000000:=by
          generalize rd b (Int.tmod p (b.length:Int))=y1 at *
          generalize rd b (Int.tmod (p*7+3) (b.length:Int))=y2 at *
          generalize Int.tdiv p (b.length:Int)=y3 at *
          refine ⟨_,rfl,?_⟩
          rw [wrap_of y1 (by omega) (by omega),wrap_of y2 (by omega) (by omega),wrap_of y3 (by omega) (by omega),wrap_of (y1*131) (by omega) (by omega),wrap_of (y2*1117) (by omega) (by omega),wrap_of (y3*53) (by omega) (by omega),wrap_of (p*29) (by omega) (by omega),wrap_of (y1*131+y2*1117) (by omega) (by omega),wrap_of (y1*131+y2*1117+p*29) (by omega) (by omega),wrap_of _ (by omega) (by omega)]
          omega
        obtain ⟨X,hX,x0,x1⟩:=hX
        have hY:0≤wrap64 (Int.tdiv X 64)∧wrap64 (Int.tdiv X 64)<4611686018427387904:=by
          have:=tdiv_in X 64 x0 (by omega)
          rw [wrap_of _ (by omega) (by omega)]
          omega
        have ht:=tmod_in (Go.bits .xor .i64 X (wrap64 (Int.tdiv X 64))) n (xor_nonneg _ _ x0 (by omega) hY.1 hY.2) (by omega)
        refine ⟨_,?_,ht.1,fun _=>ht.2⟩
        refine Ev.neg hn ?_
        refine Ev.step (fun k=>spec_l20Rd_pick.j0.eq_2 ..) ?_
        refine Ev.ff (beq_eq_false_iff_ne.2 he) ?_
        rw [w2,w3,hX]
        exact Ev.neg hk (Ev.neg he (Ev.pos i1.1 (Ev.pos i1.2 (Ev.pos i2.1 (Ev.pos i2.2 (Ev.neg (by omega) (Ev.ret rfl)))))))
theorem odd_ev {b:List Int} (hb:Bytes b) (hl:b.length≤2000) {p:Int} (h0:0≤p) (h1:p<1000000) (n:Int) :
    ∃ (v:Bool) (q:Int),Ev (fun k=>spec_l20Rd_odd.f k b p n) (v,q)∧p≤q∧q≤p+1:=by
  unfold spec_l20Rd_odd.f
  by_cases hn:n>0
  · obtain ⟨v,hv,_⟩:=pick_ev hb hl h0 h1 n
    exact ⟨_,p+1,Ev.pos hn (Ev.bind hv (Ev.ret rfl)),by omega,by omega⟩
  · exact ⟨false,p,Ev.neg hn (Ev.ret rfl),by omega,by omega⟩
theorem open_eq {code:List Int} (h:Bytes code) : ∃ b,spec_l20Open.f code=some (b,0)∧Bytes b∧b.length≤2000:=by
 unfold spec_l20Open.f
 by_cases k:(code.length:Int)>2000
 ·refine ⟨code.take 2000,?_,fun x hx=>h x (List.mem_of_mem_take hx),by rw [List.length_take];omega⟩
  rw [if_pos k,if_pos (by omega)]
 ·exact ⟨code,by rw [if_neg k],h,by omega⟩
theorem bytes_of_wf {code:List Int} (h : ∀ x∈code,(Lit.int .u8 x).wf=true):Bytes code:=by
 intro x hx
 have:=h x hx
 simp [Lit.wf] at this
 exact this

def Sqr (m:Nat) (u:List (List Int)):Prop:=u.length=m∧∀ a,a<m→(u.getD a []).length=m
theorem Sqr.set {m:Nat} {u:List (List Int)} (h:Sqr m u) (a c:Nat) (x:Int):Sqr m (u.set a ((u.getD a []).set c x)):=by
 refine ⟨by rw [List.length_set];exact h.1,fun d hd=>?_⟩
 rw [List.getD_eq_getElem?_getD,List.getElem?_set]
 by_cases e:a=d
 ·subst e
  have:a<u.length:=by rw [h.1];exact hd
  simp only [this,if_true,Option.getD_some,List.length_set]
  exact h.2 a hd
 ·rw [if_neg e,← List.getD_eq_getElem?_getD]
  exact h.2 d hd
theorem Ev_bindP {α β:Type} {g:Nat→Option α} {f:Nat→α→Option β} {a:α} {P:β→Prop} (h:Ev g a) (k : ∃ r,Ev (fun n=>f n a) r∧P r) : ∃ r,Ev (fun n=>(g n).bind (f n)) r∧P r:=by
 obtain ⟨r,k1,k2⟩:=k
 exact ⟨r,Ev.bind h k1,k2⟩
theorem Ev_posP {α:Type} {c:Prop} [Decidable c] {f g:Nat→Option α} {P:α→Prop} (h:c) (H : ∃ r,Ev f r∧P r) : ∃ r,Ev (fun k=>if c then f k else g k) r∧P r:=by
 obtain ⟨r,k1,k2⟩:=H
 exact ⟨r,Ev.pos h k1,k2⟩
theorem Ev_negP {α:Type} {c:Prop} [Decidable c] {f g:Nat→Option α} {P:α→Prop} (h : ¬c) (H : ∃ r,Ev g r∧P r) : ∃ r,Ev (fun k=>if c then f k else g k) r∧P r:=by
 obtain ⟨r,k1,k2⟩:=H
 exact ⟨r,Ev.neg h k1,k2⟩
theorem Ev_stepP {α:Type} {g f:Nat→Option α} {P:α→Prop} (h : ∀ k,g (k+1)=f k) (H : ∃ r,Ev f r∧P r) : ∃ r,Ev g r∧P r:=by
 obtain ⟨r,k1,k2⟩:=H
 exact ⟨r,Ev.step h k1,k2⟩
theorem Ev_retP {α:Type} {a:α} {P:α→Prop} (h:P a) : ∃ r,Ev (fun _=>some a) r∧P r:=⟨a,Ev.now a,h⟩
section
variable {b:List Int} (hb:Bytes b) (hl:b.length≤2000)
def Rows_ (m a:Nat) (u:List (List Int)):Prop:=u.length=a∧∀ c,c<a→(u.getD c []).length=m
theorem Rows_.snoc {m a:Nat} {u:List (List Int)} (h:Rows_ m a u) {row:List Int} (hr:row.length=m):Rows_ m (a+1) (u ++ [row]):=by
 refine ⟨by simp [h.1],fun c hc=>?_⟩
 by_cases e:c=a
 ·subst e
  rw [List.getD_eq_getElem?_getD,List.getElem?_append_right (by rw [h.1];omega),h.1]
  simpa using hr
 ·rw [List.getD_eq_getElem?_getD,List.getElem?_append_left (by rw [h.1];omega),← List.getD_eq_getElem?_getD]
  exact h.2 c (by omega)
end

theorem Ev.clos {α:Type} {f:Nat→Option α} {r:α} (n:Nat) (h : ∀ k,f (k+n)=some r):Ev f r :=
 ⟨n,fun k hk=>by obtain ⟨j,rfl⟩:=Nat.exists_eq_add_of_le' hk;exact h j⟩
def InRL (m:Nat) (x:List Int):Prop:=∀ y∈x,∃ v:Nat,y=v∧v<m
theorem InRL.get {m:Nat} {x:List Int} (h:InRL m x) {i:Nat} (hi:i<x.length) : ∃ v:Nat,rd x (i:Int)=v∧v<m:=by
 have:rd x (i:Int)=x[i]:=by
  show x.getD i 0=x[i]
  rw [List.getD_eq_getElem?_getD,List.getElem?_eq_getElem hi,Option.getD_some]
 rw [this]
 exact h _ (List.getElem_mem hi)
theorem InRL.set {m:Nat} {x:List Int} (h:InRL m x) (i:Nat) {y:Nat} (hy:y<m):InRL m (x.set i (y:Int)):=by
 intro z hz
 rcases List.mem_or_eq_of_mem_set hz with h1|h1
 ·exact h z h1
 ·exact ⟨y,h1,hy⟩
theorem InRL.snoc {m:Nat} {x:List Int} (h:InRL m x) {y:Nat} (hy:y<m):InRL m (x ++ [(y:Int)]):=by
 intro z hz
 rcases List.mem_append.mp hz with h1|h1
 ·exact h z h1
 ·exact ⟨y,by simpa using h1,hy⟩
def Shape (m:Nat) (r:List (List Int) × List Int):Prop:=1≤m∧m≤12∧Sqr m r.1∧r.2.length=m∧InRL m r.2
def shapeB (m:Nat) (r:List (List Int) × List Int):Bool :=
 Nat.ble 1 m&&Nat.ble m 12&&(r.1.length==m)&&r.1.all (fun x=>x.length==m)&&(r.2.length==m)&&r.2.all (fun y=>decide (0≤y)&&decide (y<m))
theorem shape_of {m:Nat} {r:List (List Int) × List Int} (h:shapeB m r=true):Shape m r:=by
 simp only [shapeB,Bool.and_eq_true,beq_iff_eq,List.all_eq_true,decide_eq_true_eq,Nat.ble_eq] at h
 obtain ⟨⟨⟨⟨⟨h1,h2⟩,h3⟩,h4⟩,h5⟩,h6⟩:=h
 refine ⟨h1,h2,⟨h3,fun a ha=>?_⟩,h5,fun y hy=>?_⟩
 ·have:r.1.getD a []=r.1[a]:=by rw [List.getD_eq_getElem?_getD,List.getElem?_eq_getElem (by omega),Option.getD_some]
  rw [this]
  exact h4 _ (List.getElem_mem _)
 ·obtain ⟨q1,q2⟩:=h6 y hy
  exact ⟨y.toNat,by omega,by omega⟩
def boole (t:Nat):List (List Int) × List Int:=(spec_l20Boole.f 200 t).getD ([],[])
theorem boole_ev {t:Nat} (h:t≤3):Ev (fun k=>spec_l20Boole.f k t) (boole t)∧∃ m,Shape m (boole t):=by
 have:t=0∨t=1∨t=2∨t=3:=by omega
 rcases this with rfl|rfl|rfl|rfl
 ·exact ⟨Ev.clos 200 (fun k=>by kernel_rfl),1,shape_of (by kernel_rfl)⟩
 ·exact ⟨Ev.clos 200 (fun k=>by kernel_rfl),2,shape_of (by kernel_rfl)⟩
 ·exact ⟨Ev.clos 200 (fun k=>by kernel_rfl),4,shape_of (by kernel_rfl)⟩
 ·exact ⟨Ev.clos 200 (fun k=>by kernel_rfl),8,shape_of (by kernel_rfl)⟩
def glue (a b:List (List Int) × List Int):List (List Int) × List Int:=(spec_l20Glued.f 1500 a.1 a.2 b.1 b.2).getD ([],[])
theorem glue22:Ev (fun k=>spec_l20Glued.f k (boole 2).1 (boole 2).2 (boole 2).1 (boole 2).2) (glue (boole 2) (boole 2))∧Shape 6 (glue (boole 2) (boole 2)) :=
 ⟨Ev.clos 1500 (fun k=>by kernel_rfl),shape_of (by kernel_rfl)⟩
theorem glue23:Ev (fun k=>spec_l20Glued.f k (boole 2).1 (boole 2).2 (boole 3).1 (boole 3).2) (glue (boole 2) (boole 3))∧Shape 10 (glue (boole 2) (boole 3)) :=
 ⟨Ev.clos 1500 (fun k=>by kernel_rfl),shape_of (by kernel_rfl)⟩
theorem glue222:Ev (fun k=>spec_l20Glued.f k (glue (boole 2) (boole 2)).1 (glue (boole 2) (boole 2)).2 (boole 2).1 (boole 2).2) (glue (glue (boole 2) (boole 2)) (boole 2))∧Shape 8 (glue (glue (boole 2) (boole 2)) (boole 2)) :=
 ⟨Ev.clos 1500 (fun k=>by kernel_rfl),shape_of (by kernel_rfl)⟩
def six:List (List Int) × List Int:=(spec_l20Six.f).getD ([],[])
theorem six_ev:spec_l20Six.f=some six∧Shape 6 six:=⟨rfl,shape_of (by kernel_rfl)⟩
theorem glue62:Ev (fun k=>spec_l20Glued.f k six.1 six.2 (boole 2).1 (boole 2).2) (glue six (boole 2))∧Shape 8 (glue six (boole 2)) :=
 ⟨Ev.clos 1500 (fun k=>by kernel_rfl),shape_of (by kernel_rfl)⟩
def pasted:List (List Int) × List Int:=(spec_l20Pasted.f 1500).getD ([],[])
theorem pasted_ev:Ev (fun k=>spec_l20Pasted.f k) pasted∧Shape 12 pasted :=
 ⟨Ev.clos 1500 (fun k=>by kernel_rfl),shape_of (by kernel_rfl)⟩

section
variable {m:Nat} (h12:m≤12) {o nt:List Int} {u:List (List Int)} (ho:o.length=m) (hoI:InRL m o) (hu:Sqr m u) (hn:nt.length=m) (hnI:InRL m nt)
theorem rn_l2 (h12:m≤12) (ho:o.length=m) (hoI:InRL m o) (hu:Sqr m u) (hn:nt.length=m) (hnI:InRL m nt) {back:List Int} (hb:back.length=m) {a:Nat} (ha:a<m) {us:List (List Int)} {ns:List Int} (hus:us.length=a) (hns:ns.length=a)
    {P:List (List Int) × List Int→Prop} (H : ∀ row y,row.length=m→∃ r,Ev (fun k=>spec_l20Rename.l1 k o back ((a+1:Nat):Int) u nt (us ++ [row]) (ns ++ [y])) r∧P r) (c:Nat) (hc:c≤m) :
    ∀ row:List Int,row.length=c→∃ r,Ev (fun k=>spec_l20Rename.l2 k o back a row c u nt us ns) r∧P r:=by
  obtain ⟨v,hv,hvm⟩:=hoI.get (i:=a) (by omega)
  obtain ⟨w,hw,hwm⟩:=hnI.get (i:=v) (by omega)
  have hu1:=hu.1
  refine down m (fun c=>∀ row:List Int,row.length=c→∃ r,Ev (fun k=>spec_l20Rename.l2 k o back a row c u nt us ns) r∧P r) ?_ ?_ c hc
  · intro row hr
    refine Ev_stepP (fun k=>spec_l20Rename.l2.eq_2 ..) ?_
    refine Ev_negP (by omega) ?_
    rw [hv,hw,wrap_succ a (by omega)]
    repeat (refine Ev_posP (by omega) ?_)
    exact H row _ hr
  · intro c hc ih row hr
    obtain ⟨z,hz,hzm⟩:=hoI.get (i:=c) (by omega)
    have rl:(rd_L1 u (v:Int)).length=m:=hu.2 v hvm
    refine Ev_stepP (fun k=>spec_l20Rename.l2.eq_2 ..) ?_
    rw [hv,hz,wrap_succ c (by omega)]
    repeat (refine Ev_posP (by omega) ?_)
    exact ih _ (by simp [hr])
theorem rn_l1 (h12:m≤12) (ho:o.length=m) (hoI:InRL m o) (hu:Sqr m u) (hn:nt.length=m) (hnI:InRL m nt) {back:List Int} (hb:back.length=m) (a:Nat) (ha:a≤m) :
    ∀ us ns,Rows_ m a us→ns.length=a→∃ r,Ev (fun k=>spec_l20Rename.l1 k o back a u nt us ns) r∧(Sqr m r.1∧r.2.length=m):=by
  refine down m (fun a=>∀ us ns,Rows_ m a us→ns.length=a→∃ r,Ev (fun k=>spec_l20Rename.l1 k o back a u nt us ns) r∧(Sqr m r.1∧r.2.length=m)) ?_ ?_ a ha
  · intro us ns h1 h2
    refine Ev_stepP (fun k=>spec_l20Rename.l1.eq_2 ..) ?_
    exact Ev_negP (by omega) (Ev_retP ⟨h1,h2⟩)
  · intro a ha ih us ns h1 h2
    refine Ev_stepP (fun k=>spec_l20Rename.l1.eq_2 ..) ?_
    refine Ev_posP (by omega) ?_
    exact rn_l2 h12 ho hoI hu hn hnI hb ha h1.1 h2 (fun row y hr=>ih _ _ (h1.snoc hr) (by simp [h2])) 0 (Nat.zero_le _) [] rfl
theorem rn_l0 (h12:m≤12) (ho:o.length=m) (hoI:InRL m o) (hu:Sqr m u) (hn:nt.length=m) (hnI:InRL m nt) (a:Nat) (ha:a≤m) :
    ∀ back:List Int,back.length=m→∃ r,Ev (fun k=>spec_l20Rename.l0 k o back a u nt) r∧(Sqr m r.1∧r.2.length=m):=by
  refine down m (fun a=>∀ back:List Int,back.length=m→∃ r,Ev (fun k=>spec_l20Rename.l0 k o back a u nt) r∧(Sqr m r.1∧r.2.length=m)) ?_ ?_ a ha
  · intro back hb
    refine Ev_stepP (fun k=>spec_l20Rename.l0.eq_2 ..) ?_
    refine Ev_negP (by omega) ?_
    exact rn_l1 h12 ho hoI hu hn hnI hb 0 (Nat.zero_le _) [] [] ⟨rfl,fun c hc=>by omega⟩ rfl
  · intro a ha ih back hb
    obtain ⟨v,hv,hvm⟩:=hoI.get (i:=a) (by omega)
    refine Ev_stepP (fun k=>spec_l20Rename.l0.eq_2 ..) ?_
    rw [hv,wrap_succ a (by omega)]
    repeat (refine Ev_posP (by omega) ?_)
    exact ih _ (by rw [List.length_set];exact hb)
theorem rename_ev (h12:m≤12) (ho:o.length=m) (hoI:InRL m o) (hu:Sqr m u) (hn:nt.length=m) (hnI:InRL m nt) :
    ∃ r,Ev (fun k=>spec_l20Rename.f k u nt o) r∧(Sqr m r.1∧r.2.length=m):=by
  unfold spec_l20Rename.f
  refine Ev_posP (by omega) (Ev_posP (by omega) ?_)
  exact rn_l0 h12 ho hoI hu hn hnI 0 (Nat.zero_le _) _ (by simp [ho])
end

def Drawn (r:List (List Int) × List Int × Int):Prop:=r.1.length≤12∧r.2.1.length≤12∧0≤r.2.2∧r.2.2≤1000
section
variable {b:List Int}
theorem dl_j5 (hb:Bytes b) (hl:b.length≤2000) {m:Nat} (h1:1≤m) (h12:m≤12) {u:List (List Int)} {nt:List Int} (hu:Sqr m u) (hn:nt.length=m) {p:Int} (p0:0≤p) (p1:p≤900) (n:Int) :
    ∃ r,Ev (fun k=>spec_l20Logic.j5 k n b p u nt) r∧Drawn r:=by
  refine Ev_stepP (fun k=>spec_l20Logic.j5.eq_2 ..) ?_
  obtain ⟨v,q,hv,q0,q1⟩:=odd_ev hb hl p0 (by omega) n
  refine Ev_bindP hv ?_
  have hu1:=hu.1
  cases v with
  | false=>exact Ev_negP Bool.false_ne_true (Ev_retP ⟨by show u.length≤12;omega,by show nt.length≤12;omega,by show 0≤q;omega,by show q≤1000;omega⟩)
  | true =>
    refine Ev_posP rfl ?_
    obtain ⟨v,hv,v0,v1⟩:=pick_ev hb hl (show 0≤q by omega) (by omega) 4
    refine Ev_bindP hv ?_
    by_cases e0:v=0
    · exact Ev_posP e0 (Ev_retP ⟨by simp,by simp,by show 0≤q+1;omega,by show q+1≤1000;omega⟩)
    · refine Ev_negP e0 ?_
      by_cases e1:v=1
      · refine Ev_posP e1 (Ev_posP (by omega) (Ev_retP ⟨by show u.length≤12;omega,by show (nt.drop _).length≤12;rw [List.length_drop];omega,by show 0≤q+1;omega,by show q+1≤1000;omega⟩))
      · refine Ev_negP e1 ?_
        by_cases e2:v=2
        · refine Ev_posP e2 ?_
          obtain ⟨v2,hv2,w0,w1⟩:=pick_ev hb hl (show 0≤q+1 by omega) (by omega) (nt.length:Int)
          have w2:=w1 (by omega)
          refine Ev_bindP hv2 ?_
          obtain ⟨v3,hv3,_⟩:=pick_ev hb hl (show 0≤q+1+1 by omega) (by omega) (wrap64 ((nt.length:Int)+1))
          refine Ev_bindP hv3 (Ev_posP w0 (Ev_posP w2 (Ev_retP ⟨by show u.length≤12;omega,?_,by show 0≤q+1+1+1;omega,by show q+1+1+1≤1000;omega⟩)))
          show (nt.set _ _).length≤12
          rw [List.length_set]
          omega
        · refine Ev_negP e2 ?_
          have w:wrap64 ((u.length:Int)-1)=((m-1:Nat):Int):=by
            rw [wrap_of _ (by omega) (by omega)]
            omega
          rw [w]
          have rm:(rd_L1 u ((m-1:Nat):Int)).length=m:=hu.2 (m-1) (by omega)
          refine Ev_posP (by omega) (Ev_posP (by omega) (Ev_posP (by omega) (Ev_retP ⟨?_,by show nt.length≤12;omega,by show 0≤q+1;omega,by show q+1≤1000;omega⟩)))
          show (u.set _ _).length≤12
          rw [List.length_set]
          omega
theorem dl_l1 {m:Nat} (h12:m≤12) {a:Nat} (ha:a<m) {t:Nat} (ht:t≤a) {u:List (List Int)} {nt:List Int} {n p:Int} {P:List (List Int) × List Int × Int→Prop}
    (H : ∀ x,x.length=a+1→InRL m x→∃ r,Ev (fun k=>spec_l20Logic.l0 k n x ((a+1:Nat):Int) b p u nt) r∧P r) :
    ∀ j:Nat,j≤a→∀ x,x.length=a+1→InRL m x→∃ r,Ev (fun k=>spec_l20Logic.l1 k n x a t j b p u nt) r∧P r:=by
  intro j
  induction j with
  | zero =>
    intro _ x hx hi
    refine Ev_stepP (fun k=>spec_l20Logic.l1.eq_2 ..) ?_
    refine Ev_negP (by omega) (Ev_posP (by omega) (Ev_posP (by omega) ?_))
    rw [wrap_succ a (by omega)]
    exact H _ (by simp [hx]) (hi.set _ ha)
  | succ j ih =>
    intro hj x hx hi
    refine Ev_stepP (fun k=>spec_l20Logic.l1.eq_2 ..) ?_
    have w:wrap64 (((j+1:Nat):Int)-1)=(j:Int):=by
      rw [wrap_of _ (by omega) (by omega)]
      omega
    by_cases e:((j+1:Nat):Int)>(t:Int)
    · refine Ev_posP e ?_
      obtain ⟨v,hv,hvm⟩:=hi.get (i:=j) (by omega)
      rw [w,hv]
      repeat (refine Ev_posP (by omega) ?_)
      exact ih (by omega) _ (by simp [hx]) (hi.set _ hvm)
    · refine Ev_negP e (Ev_posP (by omega) (Ev_posP (by omega) ?_))
      rw [wrap_succ a (by omega)]
      exact H _ (by simp [hx]) (hi.set _ ha)
theorem dl_l0 (hb:Bytes b) (hl:b.length≤2000) {m:Nat} (h1:1≤m) (h12:m≤12) {u:List (List Int)} {nt:List Int} (hu:Sqr m u) (hn:nt.length=m) (hnI:InRL m nt) (n:Int) (a:Nat) (ha:a≤m) :
    ∀ (x:List Int) (p:Int),x.length=a→InRL m x→0≤p→p≤100+a→∃ r,Ev (fun k=>spec_l20Logic.l0 k n x a b p u nt) r∧Drawn r:=by
  refine down m (fun a=>∀ (x:List Int) (p:Int),x.length=a→InRL m x→0≤p→p≤100+a→∃ r,Ev (fun k=>spec_l20Logic.l0 k n x a b p u nt) r∧Drawn r) ?_ ?_ a ha
  · intro x p hx hi p0 p1
    refine Ev_stepP (fun k=>spec_l20Logic.l0.eq_2 ..) ?_
    refine Ev_negP (by omega) ?_
    obtain ⟨v,hv,_⟩:=pick_ev hb hl p0 (by omega) 2
    refine Ev_bindP hv ?_
    by_cases e:v=0
    · refine Ev_posP e ?_
      obtain ⟨⟨u',nt'⟩,hr,g1,g2⟩:=rename_ev h12 hx hi hu hn hnI
      exact Ev_bindP hr (dl_j5 hb hl h1 h12 g1 g2 (by omega) (by omega) n)
    · exact Ev_negP e (dl_j5 hb hl h1 h12 hu hn (by omega) (by omega) n)
  · intro a ha ih x p hx hi p0 p1
    refine Ev_stepP (fun k=>spec_l20Logic.l0.eq_2 ..) ?_
    refine Ev_posP (by omega) ?_
    rw [wrap_succ a (by omega)]
    obtain ⟨v,hv,v0,v1⟩:=pick_ev hb hl p0 (by omega) ((a+1:Nat):Int)
    refine Ev_bindP hv (Ev_posP (by omega) ?_)
    have v2:=v1 (by omega)
    obtain ⟨t,rfl⟩:=Int.eq_ofNat_of_zero_le v0
    exact dl_l1 h12 ha (t:=t) (by omega) (fun y hy hyi=>ih y (p+1) hy hyi (by omega) (by omega)) a (Nat.le_refl _) _ (by simp [hx]) (hi.snoc ha)
theorem dl_j2 (hb:Bytes b) (hl:b.length≤2000) {m:Nat} {u:List (List Int)} {nt:List Int} (h:Shape m (u,nt)) {p:Int} (p0:0≤p) (p1:p≤100) (n:Int) :
    ∃ r,Ev (fun k=>spec_l20Logic.j2 k n b p u nt) r∧Drawn r:=by
  obtain ⟨h1,h12,hu,hn,hnI⟩:=h
  refine Ev_stepP (fun k=>spec_l20Logic.j2.eq_2 ..) ?_
  exact dl_l0 hb hl h1 h12 hu hn hnI n 0 (Nat.zero_le _) [] p rfl (fun y hy=>by simp at hy) p0 (by omega)
theorem dl_j1 (hb:Bytes b) (hl:b.length≤2000) {p:Int} (p0:0≤p) (p1:p≤90) (n v:Int) (c:Bool) :
    ∃ r,Ev (fun k=>spec_l20Logic.j1 k n v c b p) r∧Drawn r:=by
  refine Ev_stepP (fun k=>spec_l20Logic.j1.eq_2 ..) ?_
  have b2:=(boole_ev (t:=2) (by omega)).1
  have b3:=(boole_ev (t:=3) (by omega)).1
  by_cases hc:c=true
  · exact Ev_posP hc (Ev_bindP b2 (Ev_bindP b2 (Ev_bindP glue22.1 (dl_j2 hb hl glue22.2 p0 (by omega) n))))
  · refine Ev_negP hc ?_
    by_cases e4:v=4
    · exact Ev_posP e4 (Ev_bindP b2 (Ev_bindP b3 (Ev_bindP glue23.1 (dl_j2 hb hl glue23.2 p0 (by omega) n))))
    · refine Ev_negP e4 ?_
      by_cases e5:v=5
      · exact Ev_posP e5 (Ev_bindP b2 (Ev_bindP b2 (Ev_bindP glue22.1 (Ev_bindP b2 (Ev_bindP glue222.1 (dl_j2 hb hl glue222.2 p0 (by omega) n))))))
      · refine Ev_negP e5 ?_
        by_cases e6:v=6
        · exact Ev_posP e6 (Ev_bindP (six_ev.1▸Ev.now _) (dl_j2 hb hl six_ev.2 p0 (by omega) n))
        · refine Ev_negP e6 ?_
          by_cases e7:v=7
          · exact Ev_posP e7 (Ev_bindP (six_ev.1▸Ev.now _) (Ev_bindP b2 (Ev_bindP glue62.1 (dl_j2 hb hl glue62.2 p0 (by omega) n))))
          · exact Ev_negP e7 (Ev_bindP pasted_ev.1 (dl_j2 hb hl pasted_ev.2 p0 (by omega) n))
theorem dl_j0 (hb:Bytes b) (hl:b.length≤2000) {p:Int} (p0:0≤p) (p1:p≤80) (n v:Int) (c:Bool) :
    ∃ r,Ev (fun k=>spec_l20Logic.j0 k n v c b p) r∧Drawn r:=by
  refine Ev_stepP (fun k=>spec_l20Logic.j0.eq_2 ..) ?_
  by_cases hc:c=true
  · refine Ev_posP hc ?_
    obtain ⟨t,ht,t0,t1⟩:=pick_ev hb hl p0 (by omega) 4
    refine Ev_bindP ht ?_
    obtain ⟨t,rfl⟩:=Int.eq_ofNat_of_zero_le t0
    have t3:=t1 (by omega)
    obtain ⟨h1,m,h2⟩:=boole_ev (t:=t) (by omega)
    exact Ev_bindP h1 (dl_j2 hb hl h2 (by omega) (by omega) n)
  · refine Ev_negP hc ?_
    by_cases e2:v=2
    · exact Ev_posP e2 (dl_j1 hb hl p0 (by omega) n v _)
    · exact Ev_negP e2 (dl_j1 hb hl p0 (by omega) n v _)
theorem logic20_ev (hb:Bytes b) (hl:b.length≤2000) {p:Int} (p0:0≤p) (p1:p≤50) (n:Int) : ∃ r,Ev (fun k=>spec_l20Logic.f k b p n) r∧Drawn r:=by
 unfold spec_l20Logic.f
 obtain ⟨v,hv,_⟩:=pick_ev hb hl p0 (by omega) 9
 refine Ev_bindP hv ?_
 by_cases e:v=0
 ·exact Ev_posP e (dl_j0 hb hl (by omega) (by omega) n v _)
 ·exact Ev_negP e (dl_j0 hb hl (by omega) (by omega) n v _)
end
def DrawnQ (r:List (List Int) × List Int × Int):Prop:=r.1.length≤12∧r.2.1.length≤12∧0≤r.2.2∧r.2.2≤6000
section
variable {b:List Int}
theorem dq_j5 (hb:Bytes b) (hl:b.length≤2000) {m:Nat} (h1:1≤m) (h12:m≤12) {u:List (List Int)} {nt:List Int} (hu:Sqr m u) (hn:nt.length=m) {p:Int} (p0:0≤p) (p1:p≤5900) (n:Int) :
    ∃ r,Ev (fun k=>spec_l20Logic.j5 k n b p u nt) r∧DrawnQ r:=by
  refine Ev_stepP (fun k=>spec_l20Logic.j5.eq_2 ..) ?_
  obtain ⟨v,q,hv,q0,q1⟩:=odd_ev hb hl p0 (by omega) n
  refine Ev_bindP hv ?_
  have hu1:=hu.1
  cases v with
  | false=>exact Ev_negP Bool.false_ne_true (Ev_retP ⟨by show u.length≤12;omega,by show nt.length≤12;omega,by show 0≤q;omega,by show q≤6000;omega⟩)
  | true =>
    refine Ev_posP rfl ?_
    obtain ⟨v,hv,v0,v1⟩:=pick_ev hb hl (show 0≤q by omega) (by omega) 4
    refine Ev_bindP hv ?_
    by_cases e0:v=0
    · exact Ev_posP e0 (Ev_retP ⟨by simp,by simp,by show 0≤q+1;omega,by show q+1≤6000;omega⟩)
    · refine Ev_negP e0 ?_
      by_cases e1:v=1
      · refine Ev_posP e1 (Ev_posP (by omega) (Ev_retP ⟨by show u.length≤12;omega,by show (nt.drop _).length≤12;rw [List.length_drop];omega,by show 0≤q+1;omega,by show q+1≤6000;omega⟩))
      · refine Ev_negP e1 ?_
        by_cases e2:v=2
        · refine Ev_posP e2 ?_
          obtain ⟨v2,hv2,w0,w1⟩:=pick_ev hb hl (show 0≤q+1 by omega) (by omega) (nt.length:Int)
          have w2:=w1 (by omega)
          refine Ev_bindP hv2 ?_
          obtain ⟨v3,hv3,_⟩:=pick_ev hb hl (show 0≤q+1+1 by omega) (by omega) (wrap64 ((nt.length:Int)+1))
          refine Ev_bindP hv3 (Ev_posP w0 (Ev_posP w2 (Ev_retP ⟨by show u.length≤12;omega,?_,by show 0≤q+1+1+1;omega,by show q+1+1+1≤6000;omega⟩)))
          show (nt.set _ _).length≤12
          rw [List.length_set]
          omega
        · refine Ev_negP e2 ?_
          have w:wrap64 ((u.length:Int)-1)=((m-1:Nat):Int):=by
            rw [wrap_of _ (by omega) (by omega)]
            omega
          rw [w]
          have rm:(rd_L1 u ((m-1:Nat):Int)).length=m:=hu.2 (m-1) (by omega)
          refine Ev_posP (by omega) (Ev_posP (by omega) (Ev_posP (by omega) (Ev_retP ⟨?_,by show nt.length≤12;omega,by show 0≤q+1;omega,by show q+1≤6000;omega⟩)))
          show (u.set _ _).length≤12
          rw [List.length_set]
          omega
theorem dq_l1 {m:Nat} (h12:m≤12) {a:Nat} (ha:a<m) {t:Nat} (ht:t≤a) {u:List (List Int)} {nt:List Int} {n p:Int} {P:List (List Int) × List Int × Int→Prop}
    (H : ∀ x,x.length=a+1→InRL m x→∃ r,Ev (fun k=>spec_l20Logic.l0 k n x ((a+1:Nat):Int) b p u nt) r∧P r) :
    ∀ j:Nat,j≤a→∀ x,x.length=a+1→InRL m x→∃ r,Ev (fun k=>spec_l20Logic.l1 k n x a t j b p u nt) r∧P r:=by
  intro j
  induction j with
  | zero =>
    intro _ x hx hi
    refine Ev_stepP (fun k=>spec_l20Logic.l1.eq_2 ..) ?_
    refine Ev_negP (by omega) (Ev_posP (by omega) (Ev_posP (by omega) ?_))
    rw [wrap_succ a (by omega)]
    exact H _ (by simp [hx]) (hi.set _ ha)
  | succ j ih =>
    intro hj x hx hi
    refine Ev_stepP (fun k=>spec_l20Logic.l1.eq_2 ..) ?_
    have w:wrap64 (((j+1:Nat):Int)-1)=(j:Int):=by
      rw [wrap_of _ (by omega) (by omega)]
      omega
    by_cases e:((j+1:Nat):Int)>(t:Int)
    · refine Ev_posP e ?_
      obtain ⟨v,hv,hvm⟩:=hi.get (i:=j) (by omega)
      rw [w,hv]
      repeat (refine Ev_posP (by omega) ?_)
      exact ih (by omega) _ (by simp [hx]) (hi.set _ hvm)
    · refine Ev_negP e (Ev_posP (by omega) (Ev_posP (by omega) ?_))
      rw [wrap_succ a (by omega)]
      exact H _ (by simp [hx]) (hi.set _ ha)
theorem dq_l0 (hb:Bytes b) (hl:b.length≤2000) {m:Nat} (h1:1≤m) (h12:m≤12) {u:List (List Int)} {nt:List Int} (hu:Sqr m u) (hn:nt.length=m) (hnI:InRL m nt) (n:Int) (a:Nat) (ha:a≤m) :
    ∀ (x:List Int) (p:Int),x.length=a→InRL m x→0≤p→p≤5100+a→∃ r,Ev (fun k=>spec_l20Logic.l0 k n x a b p u nt) r∧DrawnQ r:=by
  refine down m (fun a=>∀ (x:List Int) (p:Int),x.length=a→InRL m x→0≤p→p≤5100+a→∃ r,Ev (fun k=>spec_l20Logic.l0 k n x a b p u nt) r∧DrawnQ r) ?_ ?_ a ha
  · intro x p hx hi p0 p1
    refine Ev_stepP (fun k=>spec_l20Logic.l0.eq_2 ..) ?_
    refine Ev_negP (by omega) ?_
    obtain ⟨v,hv,_⟩:=pick_ev hb hl p0 (by omega) 2
    refine Ev_bindP hv ?_
    by_cases e:v=0
    · refine Ev_posP e ?_
      obtain ⟨⟨u',nt'⟩,hr,g1,g2⟩:=rename_ev h12 hx hi hu hn hnI
      exact Ev_bindP hr (dq_j5 hb hl h1 h12 g1 g2 (by omega) (by omega) n)
    · exact Ev_negP e (dq_j5 hb hl h1 h12 hu hn (by omega) (by omega) n)
  · intro a ha ih x p hx hi p0 p1
    refine Ev_stepP (fun k=>spec_l20Logic.l0.eq_2 ..) ?_
    refine Ev_posP (by omega) ?_
    rw [wrap_succ a (by omega)]
    obtain ⟨v,hv,v0,v1⟩:=pick_ev hb hl p0 (by omega) ((a+1:Nat):Int)
    refine Ev_bindP hv (Ev_posP (by omega) ?_)
    have v2:=v1 (by omega)
    obtain ⟨t,rfl⟩:=Int.eq_ofNat_of_zero_le v0
    exact dq_l1 h12 ha (t:=t) (by omega) (fun y hy hyi=>ih y (p+1) hy hyi (by omega) (by omega)) a (Nat.le_refl _) _ (by simp [hx]) (hi.snoc ha)
theorem dq_j2 (hb:Bytes b) (hl:b.length≤2000) {m:Nat} {u:List (List Int)} {nt:List Int} (h:Shape m (u,nt)) {p:Int} (p0:0≤p) (p1:p≤5100) (n:Int) :
    ∃ r,Ev (fun k=>spec_l20Logic.j2 k n b p u nt) r∧DrawnQ r:=by
  obtain ⟨h1,h12,hu,hn,hnI⟩:=h
  refine Ev_stepP (fun k=>spec_l20Logic.j2.eq_2 ..) ?_
  exact dq_l0 hb hl h1 h12 hu hn hnI n 0 (Nat.zero_le _) [] p rfl (fun y hy=>by simp at hy) p0 (by omega)
theorem dq_j1 (hb:Bytes b) (hl:b.length≤2000) {p:Int} (p0:0≤p) (p1:p≤5090) (n v:Int) (c:Bool) :
    ∃ r,Ev (fun k=>spec_l20Logic.j1 k n v c b p) r∧DrawnQ r:=by
  refine Ev_stepP (fun k=>spec_l20Logic.j1.eq_2 ..) ?_
  have b2:=(boole_ev (t:=2) (by omega)).1
  have b3:=(boole_ev (t:=3) (by omega)).1
  by_cases hc:c=true
  · exact Ev_posP hc (Ev_bindP b2 (Ev_bindP b2 (Ev_bindP glue22.1 (dq_j2 hb hl glue22.2 p0 (by omega) n))))
  · refine Ev_negP hc ?_
    by_cases e4:v=4
    · exact Ev_posP e4 (Ev_bindP b2 (Ev_bindP b3 (Ev_bindP glue23.1 (dq_j2 hb hl glue23.2 p0 (by omega) n))))
    · refine Ev_negP e4 ?_
      by_cases e5:v=5
      · exact Ev_posP e5 (Ev_bindP b2 (Ev_bindP b2 (Ev_bindP glue22.1 (Ev_bindP b2 (Ev_bindP glue222.1 (dq_j2 hb hl glue222.2 p0 (by omega) n))))))
      · refine Ev_negP e5 ?_
        by_cases e6:v=6
        · exact Ev_posP e6 (Ev_bindP (six_ev.1▸Ev.now _) (dq_j2 hb hl six_ev.2 p0 (by omega) n))
        · refine Ev_negP e6 ?_
          by_cases e7:v=7
          · exact Ev_posP e7 (Ev_bindP (six_ev.1▸Ev.now _) (Ev_bindP b2 (Ev_bindP glue62.1 (dq_j2 hb hl glue62.2 p0 (by omega) n))))
          · exact Ev_negP e7 (Ev_bindP pasted_ev.1 (dq_j2 hb hl pasted_ev.2 p0 (by omega) n))
theorem dq_j0 (hb:Bytes b) (hl:b.length≤2000) {p:Int} (p0:0≤p) (p1:p≤5080) (n v:Int) (c:Bool) :
    ∃ r,Ev (fun k=>spec_l20Logic.j0 k n v c b p) r∧DrawnQ r:=by
  refine Ev_stepP (fun k=>spec_l20Logic.j0.eq_2 ..) ?_
  by_cases hc:c=true
  · refine Ev_posP hc ?_
    obtain ⟨t,ht,t0,t1⟩:=pick_ev hb hl p0 (by omega) 4
    refine Ev_bindP ht ?_
    obtain ⟨t,rfl⟩:=Int.eq_ofNat_of_zero_le t0
    have t3:=t1 (by omega)
    obtain ⟨h1,m,h2⟩:=boole_ev (t:=t) (by omega)
    exact Ev_bindP h1 (dq_j2 hb hl h2 (by omega) (by omega) n)
  · refine Ev_negP hc ?_
    by_cases e2:v=2
    · exact Ev_posP e2 (dq_j1 hb hl p0 (by omega) n v _)
    · exact Ev_negP e2 (dq_j1 hb hl p0 (by omega) n v _)
theorem logic20_any (hb:Bytes b) (hl:b.length≤2000) {p:Int} (p0:0≤p) (p1:p≤5050) (n:Int) : ∃ r,Ev (fun k=>spec_l20Logic.f k b p n) r∧DrawnQ r:=by
 unfold spec_l20Logic.f
 obtain ⟨v,hv,_⟩:=pick_ev hb hl p0 (by omega) 9
 refine Ev_bindP hv ?_
 by_cases e:v=0
 ·exact Ev_posP e (dq_j0 hb hl (by omega) (by omega) n v _)
 ·exact Ev_negP e (dq_j0 hb hl (by omega) (by omega) n v _)
end
end Go.Proofs.Ytacifhahfamipaa.Q

namespace Go.Proofs.OlT

structure OL (α:Type) where
 le:α→α→Prop
 meet:α→α→α
 join:α→α→α
 neg:α→α
 bot:α
 refl : ∀ a,le a a
 trans : ∀ {a b c},le a b→le b c→le a c
 anti : ∀ {a b},le a b→le b a→a=b
 ml : ∀ a b,le (meet a b) a
 mr : ∀ a b,le (meet a b) b
 mg : ∀ {a b c},le c a→le c b→le c (meet a b)
 jl : ∀ a b,le a (join a b)
 jr : ∀ a b,le b (join a b)
 jg : ∀ {a b c},le a c→le b c→le (join a b) c
 nn : ∀ a,neg (neg a)=a
 na : ∀ {a b},le a b→le (neg b) (neg a)
 bl : ∀ a,le bot a
 mn : ∀ a,meet a (neg a)=bot

namespace OL
variable {α:Type} (L:OL α)

def top:α:=L.neg L.bot

theorem na_l {a b:α} (h:L.le (L.neg a) b):L.le (L.neg b) a:=by
 have h:=L.na h
 rwa [L.nn] at h
theorem na_r {a b:α} (h:L.le a (L.neg b)):L.le b (L.neg a):=by
 have h:=L.na h
 rwa [L.nn] at h
theorem meet_comm (a b:α):L.meet a b=L.meet b a :=
 L.anti (L.mg (L.mr a b) (L.ml a b)) (L.mg (L.mr b a) (L.ml b a))
theorem meet_mono {a b c d:α} (h:L.le a c) (k:L.le b d):L.le (L.meet a b) (L.meet c d) :=
 L.mg (L.trans (L.ml _ _) h) (L.trans (L.mr _ _) k)
theorem neg_meet (a b:α):L.neg (L.meet a b)=L.join (L.neg a) (L.neg b):=by
 refine L.anti ?_ (L.jg (L.na (L.ml _ _)) (L.na (L.mr _ _)))
 exact L.na_l (L.mg (L.na_l (L.jl _ _)) (L.na_l (L.jr _ _)))
theorem neg_join (a b:α):L.neg (L.join a b)=L.meet (L.neg a) (L.neg b):=by
 refine L.anti (L.mg (L.na (L.jl _ _)) (L.na (L.jr _ _))) ?_
 exact L.na_r (L.jg (L.na_r (L.ml _ _)) (L.na_r (L.mr _ _)))
def C (a b:α):Prop:=L.join (L.meet a b) (L.meet a (L.neg b))=a
def OM:Prop:=∀ a b,L.le a b→L.join a (L.meet b (L.neg a))=b
variable {L}
theorem OM.symm (h:L.OM) {a b:α} (hc:L.C a b):L.C b a:=by
 have e:L.neg a=L.meet (L.join (L.neg a) (L.neg b)) (L.join (L.neg a) b):=by
  have h1:=congrArg L.neg hc
  rw [L.neg_join,L.neg_meet,L.neg_meet,L.nn] at h1
  exact h1.symm
 have e2:L.meet b (L.neg a)=L.meet b (L.neg (L.meet a b)):=by
  rw [L.neg_meet]
  refine L.anti (L.meet_mono (L.refl _) (L.jl _ _)) ?_
  refine L.mg (L.ml _ _) ?_
  have k:L.le (L.meet b (L.join (L.neg a) (L.neg b))) (L.meet (L.join (L.neg a) (L.neg b)) (L.join (L.neg a) b)):=L.mg (L.mr _ _) (L.trans (L.ml _ _) (L.jr _ _))
  rw [← e] at k
  exact k
 have h2:=h (L.meet a b) b (L.mr _ _)
 rw [← e2] at h2
 unfold C
 rw [L.meet_comm b a]
 exact h2
end OL
end Go.Proofs.OlT

namespace Go.Proofs.Ytacifhahfamipaa.Q
open Go.RowKit Go.Proofs.YtacifhahfamipaaW.PrintWords Go.Proofs.YtacifhahfamipaaW.PrintLast Go.Proofs.YtacifhahfamipaaW.PrintMore Go.Proofs.Ytacifhahfamipaa.P Go.Proofs.Cl Go.Proofs.OlT
set_option linter.unusedVariables false
section
variable {u:List (List Int)} {nt:List Int}
def toF (h:Go.Proofs.Ytacifhahfamipaa.P.OL u nt):OlT.OL (Fin u.length) where
 le a b:=rdN u a b=1
 meet a b:=⟨(meetI u a b).toNat,by obtain ⟨c,e,k⟩:=h.1.meet a.2 b.2;rw [e];exact k.1⟩
 join a b:=⟨(joinI u a b).toNat,by obtain ⟨c,e,k⟩:=h.1.join a.2 b.2;rw [e];exact k.1⟩
 neg a:=⟨(rd nt (a:Nat)).toNat,by have:=(h.2.2.1 a a.2).1;omega⟩
 bot:=⟨(leastI u).toNat,by obtain ⟨m,e,k,_⟩:=h.1.least;rw [e];exact k⟩
 refl a:=h.1.1.refl a.2
 trans {a b c} k l:=h.1.1.trans a.2 b.2 c.2 k l
 anti {a b} k l:=Fin.ext (h.1.1.anti a.2 b.2 k l)
 ml a b:=by obtain ⟨c,e,k⟩:=h.1.meet a.2 b.2;show rdN u (meetI u a b).toNat a=1;rw [e];exact k.2.1
 mr a b:=by obtain ⟨c,e,k⟩:=h.1.meet a.2 b.2;show rdN u (meetI u a b).toNat b=1;rw [e];exact k.2.2.1
 mg {a b c} k l:=by obtain ⟨d,e,m⟩:=h.1.meet a.2 b.2;show rdN u c (meetI u a b).toNat=1;rw [e];exact m.2.2.2 c c.2 k l
 jl a b:=by obtain ⟨c,e,k⟩:=h.1.join a.2 b.2;show rdN u a (joinI u a b).toNat=1;rw [e];exact k.2.1
 jr a b:=by obtain ⟨c,e,k⟩:=h.1.join a.2 b.2;show rdN u b (joinI u a b).toNat=1;rw [e];exact k.2.2.1
 jg {a b c} k l:=by obtain ⟨d,e,m⟩:=h.1.join a.2 b.2;show rdN u (joinI u a b).toNat c=1;rw [e];exact m.2.2.2 c c.2 k l
 nn a:=by
  have k:=h.2.2.1 a a.2
  refine Fin.ext ?_
  show (rd nt (((rd nt (a:Nat)).toNat:Nat):Int)).toNat=a
  rw [Int.toNat_of_nonneg k.1.1,k.2.1]
  rfl
 na {a b} k:=h.2.2.2 a a.2 b b.2 k
 bl a:=by obtain ⟨m,e,k,l⟩:=h.1.least;show rdN u (leastI u).toNat a=1;rw [e];exact l a a.2
 mn a:=Fin.ext (by show (meetI u a (rd nt (a:Nat)).toNat).toNat=(leastI u).toNat;rw [(h.2.2.1 a a.2).2.2])
def fi (a:Int) (k:0≤a∧a<u.length):Fin u.length:=⟨a.toNat,by omega⟩
variable (h:Go.Proofs.Ytacifhahfamipaa.P.OL u nt)
theorem ng_F {a:Int} (ka:0≤a∧a<u.length):rd nt a=(((toF h).neg (fi a ka):Fin u.length):Int):=by
 have k:=(h.2.2.1 a.toNat (by omega)).1
 show rd nt a=((rd nt ((a.toNat:Nat):Int)).toNat:Int)
 rw [Int.toNat_of_nonneg ka.1] at k ⊢
 omega
theorem no_F:leastI u=(((toF h).bot:Fin u.length):Int):=by
 obtain ⟨m,e,k,_⟩:=h.1.least
 show leastI u=((leastI u).toNat:Int)
 omega
theorem ng_in (h:Go.Proofs.Ytacifhahfamipaa.P.OL u nt) {a:Int} (ka:0≤a∧a<u.length):0≤rd nt a∧rd nt a<u.length:=by
 rw [ng_F h ka];have:=((toF h).neg (fi a ka)).2;omega
theorem no_in (h:Go.Proofs.Ytacifhahfamipaa.P.OL u nt):0≤leastI u∧leastI u<u.length:=by
 rw [no_F h];have:=((toF h).bot).2;omega
end
end Go.Proofs.Ytacifhahfamipaa.Q

namespace Go.Proofs.Ytacifhahfamipaa.Q
open Go.RowKit Go.Proofs.YtacifhahfamipaaW.PrintWords Go.Proofs.YtacifhahfamipaaW.PrintLast Go.Proofs.YtacifhahfamipaaW.PrintMore Go.Proofs.Ytacifhahfamipaa.P Go.Proofs.Cl
set_option linter.unusedVariables false

section
variable (u:List (List Int))
def pm (a b c d:Nat):Bool:=decide (rdN u d a=0)||decide (rdN u d b=0)||decide (rdN u d c=1)
variable {u}
theorem row_len (h:Ord u) {a:Nat} (ha:a<u.length):(rd_L1 u (a:Int)).length=u.length:=h.row ha
theorem isMeet_iff (h:Ord u) {a b c:Nat} (ha:a<u.length) (hb:b<u.length) (hc:c<u.length) :
    IsMeet u a b c↔rdN u c a=1∧rdN u c b=1∧allF u.length (pm u a b c) 0=true:=by
  unfold IsMeet
  rw [allF0]
  constructor
  · intro ⟨_,k1,k2,k3⟩
    refine ⟨k1,k2,fun d hd=>?_⟩
    simp only [pm,Bool.or_eq_true,decide_eq_true_iff]
    rcases h.bit hd ha with m|m
    · exact .inl (.inl m)
    · rcases h.bit hd hb with l|l
      · exact .inl (.inr l)
      · exact .inr (k3 d hd m l)
  · intro ⟨k1,k2,k3⟩
    refine ⟨hc,k1,k2,fun d hd m l=>?_⟩
    have:=k3 d hd
    simp only [pm,Bool.or_eq_true,decide_eq_true_iff] at this
    rcases this with (z|z)|z
    · omega
    · omega
    · exact z

theorem im_l1 (h:Ord u) {a b c:Nat} (ha:a<u.length) (hb:b<u.length) (hc:c<u.length) {r:Int}
    (H:Ev (fun k=>impl_meet.l0 k u a b u.length ((c+1:Nat):Int)) r) (d:Nat) (hd:d≤u.length) :
    ∀ g:Bool,Ev (fun k=>impl_meet.l1 k u a b c g u.length c u.length d) (if (g&&allF u.length (pm u a b c) d)=true then (c:Int) else r):=by
  have hn:=h.le12
  refine down u.length (fun d=>∀ g:Bool,Ev (fun k=>impl_meet.l1 k u a b c g u.length c u.length d) (if (g&&allF u.length (pm u a b c) d)=true then (c:Int) else r)) ?_ ?_ d hd
  · intro g
    refine Ev.step (fun k=>impl_meet.l1.eq_2 ..) ?_
    refine Ev.neg (by omega) ?_
    rw [allF_end (Nat.le_refl _),Bool.and_true]
    cases g with
    | true=>exact Ev.pos rfl (Ev.ret (by simp))
    | false =>
      refine Ev.neg Bool.false_ne_true ?_
      rw [wrap_succ c (by omega)]
      exact Ev.to H (by simp)
  · intro d hd ih g
    have h1:=row_len h hd
    refine Ev.step (fun k=>impl_meet.l1.eq_2 ..) ?_
    refine Ev.pos (by omega) ?_
    rw [allF_step hd,wrap_succ d (by omega)]
    cases g with
    | false =>
      refine Ev.neg Bool.false_ne_true ?_
      exact Ev.to (ih false) (by simp)
    | true =>
      refine Ev.pos rfl ?_
      repeat (refine Ev.pos (by omega) ?_)
      by_cases k1:rdN u d a=0
      · exact Ev.pos k1 (Ev.to (ih true) (by simp [pm,k1]))
      · refine Ev.neg k1 ?_
        repeat (refine Ev.pos (by omega) ?_)
        by_cases k2:rdN u d b=0
        · exact Ev.pos k2 (Ev.to (ih true) (by simp [pm,k2]))
        · refine Ev.neg k2 ?_
          repeat (refine Ev.pos (by omega) ?_)
          refine Ev.to (ih _) ?_
          rw [pm,decide_eq_false k1,decide_eq_false k2]
          rfl
theorem im_l0 (h:Ord u) {a b:Nat} (ha:a<u.length) (hb:b<u.length) (c:Nat) (hc:c≤u.length) :
    Ev (fun k=>impl_meet.l0 k u a b u.length c) (firstF u.length (fun c=>decide (IsMeet u a b c)) c):=by
  have hn:=h.le12
  refine down u.length (fun c=>Ev (fun k=>impl_meet.l0 k u a b u.length c) (firstF u.length (fun c=>decide (IsMeet u a b c)) c)) ?_ ?_ c hc
  · refine Ev.step (fun k=>impl_meet.l0.eq_2 ..) ?_
    refine Ev.neg (by omega) ?_
    exact Ev.ret (firstF_end (Nat.le_refl _)).symm
  · intro c hc ih
    have h1:=row_len h hc
    have key : ∀ x:Bool,x=(decide (rdN u c a=0)||decide (rdN u c b=0))→Ev (fun k=>impl_meet.j1 k u a b c u.length c x) (firstF u.length (fun c=>decide (IsMeet u a b c)) c):=by
      intro x hx
      refine Ev.step (fun k=>impl_meet.j1.eq_2 ..) ?_
      rw [firstF_step hc]
      cases x with
      | true =>
        refine Ev.pos rfl ?_
        rw [wrap_succ c (by omega)]
        refine Ev.to ih ?_
        rw [if_neg]
        rw [decide_eq_true_iff,isMeet_iff h ha hb hc]
        simp only [Bool.true_eq,Bool.or_eq_true,decide_eq_true_iff] at hx
        omega
      | false =>
        refine Ev.neg Bool.false_ne_true ?_
        refine Ev.to (im_l1 h ha hb hc ih 0 (Nat.zero_le _) true) ?_
        simp only [Bool.false_eq,Bool.or_eq_false_iff,decide_eq_false_iff_not] at hx
        have z1:=(h.ne0 hc ha).1 hx.1
        have z2:=(h.ne0 hc hb).1 hx.2
        by_cases e:allF u.length (pm u a b c) 0=true
        · rw [if_pos (by rw [e];rfl),if_pos (by rw [decide_eq_true_iff,isMeet_iff h ha hb hc];exact ⟨z1,z2,e⟩)]
        · rw [if_neg (by rw [Bool.true_and];exact e),if_neg (by rw [decide_eq_true_iff,isMeet_iff h ha hb hc];exact fun k=>e k.2.2)]
    refine Ev.step (fun k=>impl_meet.l0.eq_2 ..) ?_
    repeat (refine Ev.pos (by omega) ?_)
    by_cases k1:rdN u c a=0
    · exact Ev.pos k1 (key true (by rw [decide_eq_true k1];rfl))
    · refine Ev.neg k1 ?_
      repeat (refine Ev.pos (by omega) ?_)
      refine key _ ?_
      rw [decide_eq_false k1,Bool.false_or]
      rfl
theorem impl_meet_ev (h:Ord u) {a b:Nat} (ha:a<u.length) (hb:b<u.length):Ev (fun k=>impl_meet.f k u a b) (meetI u a b):=by
 unfold impl_meet.f
 exact im_l0 h ha hb 0 (Nat.zero_le _)

theorem sm_l1 (h:Ord u) {a b m:Nat} (ha:a<u.length) (hb:b<u.length) (hm:m<u.length) (d:Nat) (hd:d≤u.length) :
    Ev (fun k=>spec_l1Meet.l1 k u a b m d) (if allF u.length (pm u a b m) d=true then (m:Int) else -1):=by
  have hn:=h.le12
  refine down u.length (fun d=>Ev (fun k=>spec_l1Meet.l1 k u a b m d) (if allF u.length (pm u a b m) d=true then (m:Int) else -1)) ?_ ?_ d hd
  · refine Ev.step (fun k=>spec_l1Meet.l1.eq_2 ..) ?_
    refine Ev.neg (by omega) ?_
    rw [allF_end (Nat.le_refl _)]
    exact Ev.ret (by simp)
  · intro d hd ih
    have h1:=row_len h hd
    refine Ev.step (fun k=>spec_l1Meet.l1.eq_2 ..) ?_
    repeat (refine Ev.pos (by omega) ?_)
    rw [allF_step hd,wrap_succ d (by omega)]
    by_cases k1:rdN u d a=1
    · refine Ev.pos k1 ?_
      repeat (refine Ev.pos (by omega) ?_)
      by_cases k2:rdN u d b=1
      · refine Ev.pos k2 ?_
        repeat (refine Ev.pos (by omega) ?_)
        by_cases k3:rdN u d m=0
        · exact Ev.pos k3 (Ev.ret (by simp [pm,k1,k2,k3]))
        · exact Ev.neg k3 (Ev.to ih (by simp [pm,(h.ne0 hd hm).1 k3]))
      · exact Ev.neg k2 (Ev.to ih (by simp [pm,(h.ne1 hd hb).1 k2]))
    · exact Ev.neg k1 (Ev.to ih (by simp [pm,(h.ne1 hd ha).1 k1]))
theorem sm_l1' (h:Ord u) {a b:Nat} (ha:a<u.length) (hb:b<u.length) (no : ∀ d,d<u.length→¬(rdN u d a=1∧rdN u d b=1)) (d:Nat) (hd:d≤u.length) :
    Ev (fun k=>spec_l1Meet.l1 k u a b (-1) d) (-1):=by
  have hn:=h.le12
  refine down u.length (fun d=>Ev (fun k=>spec_l1Meet.l1 k u a b (-1) d) (-1)) ?_ ?_ d hd
  · refine Ev.step (fun k=>spec_l1Meet.l1.eq_2 ..) ?_
    exact Ev.neg (by omega) (Ev.ret rfl)
  · intro d hd ih
    have h1:=row_len h hd
    refine Ev.step (fun k=>spec_l1Meet.l1.eq_2 ..) ?_
    repeat (refine Ev.pos (by omega) ?_)
    rw [wrap_succ d (by omega)]
    by_cases k1:rdN u d a=1
    · refine Ev.pos k1 ?_
      repeat (refine Ev.pos (by omega) ?_)
      exact Ev.neg (fun k2=>no d hd ⟨k1,k2⟩) ih
    · exact Ev.neg k1 ih
theorem sm_l0 (h:Ord u) {a b:Nat} (ha:a<u.length) (hb:b<u.length) (c:Nat) (hc:c≤u.length) :
    ∀ β:Int,((β = -1∧∀ d,d<c→¬(rdN u d a=1∧rdN u d b=1))∨∃ m:Nat,β=m∧m<u.length∧rdN u m a=1∧rdN u m b=1∧∀ g,IsMeet u a b g→g<c→m=g) →
    Ev (fun k=>spec_l1Meet.l0 k u a b β c) (meetI u a b):=by
  have hn:=h.le12
  refine down u.length (fun c=>∀ β:Int,((β = -1∧∀ d,d<c→¬(rdN u d a=1∧rdN u d b=1))∨∃ m:Nat,β=m∧m<u.length∧rdN u m a=1∧rdN u m b=1∧∀ g,IsMeet u a b g→g<c→m=g) →
    Ev (fun k=>spec_l1Meet.l0 k u a b β c) (meetI u a b)) ?_ ?_ c hc
  · intro β hβ
    refine Ev.step (fun k=>spec_l1Meet.l0.eq_2 ..) ?_
    refine Ev.neg (by omega) ?_
    rcases hβ with ⟨rfl,no⟩|⟨m,rfl,hm,m1,m2,hg⟩
    · refine Ev.to (sm_l1' h ha hb no 0 (Nat.zero_le _)) ?_
      rcases meetI_cases u a b with ⟨e,_⟩|⟨c,_,hc⟩
      · exact e.symm
      · exact absurd ⟨hc.2.1,hc.2.2.1⟩ (no c hc.1)
    · refine Ev.to (sm_l1 h ha hb hm 0 (Nat.zero_le _)) ?_
      by_cases e:allF u.length (pm u a b m) 0=true
      · rw [if_pos e,meetI_of h ((isMeet_iff h ha hb hm).2 ⟨m1,m2,e⟩)]
      · rw [if_neg e]
        rcases meetI_cases u a b with ⟨e',_⟩|⟨c,_,hc⟩
        · exact e'.symm
        · have:=hg c hc hc.1
          subst this
          exact absurd ((isMeet_iff h ha hb hm).1 hc).2.2 e
  · intro c hc ih β hβ
    have h1:=row_len h hc
    refine Ev.step (fun k=>spec_l1Meet.l0.eq_2 ..) ?_
    repeat (refine Ev.pos (by omega) ?_)
    rw [wrap_succ c (by omega)]
    have stay : ¬(rdN u c a=1∧rdN u c b=1)→Ev (fun k=>spec_l1Meet.l0 k u a b β ((c+1:Nat):Int)) (meetI u a b):=by
      intro no
      refine ih β ?_
      rcases hβ with ⟨rfl,k⟩|⟨m,rfl,hm,m1,m2,hg⟩
      · refine .inl ⟨rfl,fun d hd=>?_⟩
        by_cases e:d=c
        · rw [e];exact no
        · exact k d (by omega)
      · refine .inr ⟨m,rfl,hm,m1,m2,fun g gm hgc=>?_⟩
        by_cases e:g=c
        · subst e
          exact absurd ⟨gm.2.1,gm.2.2.1⟩ no
        · exact hg g gm (by omega)
    by_cases k1:rdN u c a=1
    · refine Ev.pos k1 ?_
      repeat (refine Ev.pos (by omega) ?_)
      by_cases k2:rdN u c b=1
      · refine Ev.pos k2 ?_
        rcases hβ with ⟨rfl,k⟩|⟨m,rfl,hm,m1,m2,hg⟩
        · refine Ev.pos (by omega) (ih c (.inr ⟨c,rfl,hc,k1,k2,fun g gm hgc=>?_⟩))
          by_cases e:g=c
          · exact e.symm
          · exact absurd ⟨gm.2.1,gm.2.2.1⟩ (k g (by omega))
        · have h2:=row_len h hm
          refine Ev.neg (by omega) ?_
          repeat (refine Ev.pos (by omega) ?_)
          by_cases k3:rdN u m c=1
          · refine Ev.pos k3 (ih c (.inr ⟨c,rfl,hc,k1,k2,fun g gm hgc=>?_⟩))
            by_cases e:g=c
            · exact e.symm
            · have:=hg g gm (by omega)
              subst this
              exact (h.anti hm hc k3 (gm.2.2.2 c hc k1 k2)).symm
          · refine Ev.neg k3 (ih m (.inr ⟨m,rfl,hm,m1,m2,fun g gm hgc=>?_⟩))
            by_cases e:g=c
            · subst e
              exact absurd (gm.2.2.2 m hm m1 m2) k3
            · exact hg g gm (by omega)
      · exact Ev.neg k2 (stay (fun k=>k2 k.2))
    · exact Ev.neg k1 (stay (fun k=>k1 k.1))
theorem spec_meet_ev (h:Ord u) {a b:Nat} (ha:a<u.length) (hb:b<u.length):Ev (fun k=>spec_l1Meet.f k u a b) (meetI u a b):=by
 unfold spec_l1Meet.f
 exact sm_l0 h ha hb 0 (Nat.zero_le _) (-1) (.inl ⟨rfl,fun d hd=>by omega⟩)

variable (u) in
def pj (a b c d:Nat):Bool:=decide (rdN u a d=0)||decide (rdN u b d=0)||decide (rdN u c d=1)
theorem isJoin_iff (h:Ord u) {a b c:Nat} (ha:a<u.length) (hb:b<u.length) (hc:c<u.length) :
    IsJoin u a b c↔rdN u a c=1∧rdN u b c=1∧allF u.length (pj u a b c) 0=true:=by
  unfold IsJoin
  rw [allF0]
  constructor
  · intro ⟨_,k1,k2,k3⟩
    refine ⟨k1,k2,fun d hd=>?_⟩
    simp only [pj,Bool.or_eq_true,decide_eq_true_iff]
    rcases h.bit ha hd with m|m
    · exact .inl (.inl m)
    · rcases h.bit hb hd with l|l
      · exact .inl (.inr l)
      · exact .inr (k3 d hd m l)
  · intro ⟨k1,k2,k3⟩
    refine ⟨hc,k1,k2,fun d hd m l=>?_⟩
    have:=k3 d hd
    simp only [pj,Bool.or_eq_true,decide_eq_true_iff] at this
    rcases this with (z|z)|z
    · omega
    · omega
    · exact z
theorem sj_l1 (h:Ord u) {a b m:Nat} (ha:a<u.length) (hb:b<u.length) (hm:m<u.length) (d:Nat) (hd:d≤u.length) :
    Ev (fun k=>spec_l1Join.l1 k u a b m d) (if allF u.length (pj u a b m) d=true then (m:Int) else -1):=by
  have hn:=h.le12
  have h1:=row_len h ha
  have h2:=row_len h hb
  have h3:=row_len h hm
  refine down u.length (fun d=>Ev (fun k=>spec_l1Join.l1 k u a b m d) (if allF u.length (pj u a b m) d=true then (m:Int) else -1)) ?_ ?_ d hd
  · refine Ev.step (fun k=>spec_l1Join.l1.eq_2 ..) ?_
    refine Ev.neg (by omega) ?_
    rw [allF_end (Nat.le_refl _)]
    exact Ev.ret (by simp)
  · intro d hd ih
    refine Ev.step (fun k=>spec_l1Join.l1.eq_2 ..) ?_
    repeat (refine Ev.pos (by omega) ?_)
    rw [allF_step hd,wrap_succ d (by omega)]
    by_cases k1:rdN u a d=1
    · refine Ev.pos k1 ?_
      repeat (refine Ev.pos (by omega) ?_)
      by_cases k2:rdN u b d=1
      · refine Ev.pos k2 ?_
        repeat (refine Ev.pos (by omega) ?_)
        by_cases k3:rdN u m d=0
        · exact Ev.pos k3 (Ev.ret (by simp [pj,k1,k2,k3]))
        · exact Ev.neg k3 (Ev.to ih (by simp [pj,(h.ne0 hm hd).1 k3]))
      · exact Ev.neg k2 (Ev.to ih (by simp [pj,(h.ne1 hb hd).1 k2]))
    · exact Ev.neg k1 (Ev.to ih (by simp [pj,(h.ne1 ha hd).1 k1]))
theorem sj_l1' (h:Ord u) {a b:Nat} (ha:a<u.length) (hb:b<u.length) (no : ∀ d,d<u.length→¬(rdN u a d=1∧rdN u b d=1)) (d:Nat) (hd:d≤u.length) :
    Ev (fun k=>spec_l1Join.l1 k u a b (-1) d) (-1):=by
  have hn:=h.le12
  have h1:=row_len h ha
  have h2:=row_len h hb
  refine down u.length (fun d=>Ev (fun k=>spec_l1Join.l1 k u a b (-1) d) (-1)) ?_ ?_ d hd
  · refine Ev.step (fun k=>spec_l1Join.l1.eq_2 ..) ?_
    exact Ev.neg (by omega) (Ev.ret rfl)
  · intro d hd ih
    refine Ev.step (fun k=>spec_l1Join.l1.eq_2 ..) ?_
    repeat (refine Ev.pos (by omega) ?_)
    rw [wrap_succ d (by omega)]
    by_cases k1:rdN u a d=1
    · refine Ev.pos k1 ?_
      repeat (refine Ev.pos (by omega) ?_)
      exact Ev.neg (fun k2=>no d hd ⟨k1,k2⟩) ih
    · exact Ev.neg k1 ih
theorem sj_l0 (h:Ord u) {a b:Nat} (ha:a<u.length) (hb:b<u.length) (c:Nat) (hc:c≤u.length) :
    ∀ β:Int,((β = -1∧∀ d,d<c→¬(rdN u a d=1∧rdN u b d=1))∨∃ m:Nat,β=m∧m<u.length∧rdN u a m=1∧rdN u b m=1∧∀ g,IsJoin u a b g→g<c→m=g) →
    Ev (fun k=>spec_l1Join.l0 k u a b β c) (joinI u a b):=by
  have hn:=h.le12
  have h1:=row_len h ha
  have h2:=row_len h hb
  refine down u.length (fun c=>∀ β:Int,((β = -1∧∀ d,d<c→¬(rdN u a d=1∧rdN u b d=1))∨∃ m:Nat,β=m∧m<u.length∧rdN u a m=1∧rdN u b m=1∧∀ g,IsJoin u a b g→g<c→m=g) →
    Ev (fun k=>spec_l1Join.l0 k u a b β c) (joinI u a b)) ?_ ?_ c hc
  · intro β hβ
    refine Ev.step (fun k=>spec_l1Join.l0.eq_2 ..) ?_
    refine Ev.neg (by omega) ?_
    rcases hβ with ⟨rfl,no⟩|⟨m,rfl,hm,m1,m2,hg⟩
    · refine Ev.to (sj_l1' h ha hb no 0 (Nat.zero_le _)) ?_
      rcases joinI_cases u a b with ⟨e,_⟩|⟨c,_,hc⟩
      · exact e.symm
      · exact absurd ⟨hc.2.1,hc.2.2.1⟩ (no c hc.1)
    · refine Ev.to (sj_l1 h ha hb hm 0 (Nat.zero_le _)) ?_
      by_cases e:allF u.length (pj u a b m) 0=true
      · rw [if_pos e,joinI_of h ((isJoin_iff h ha hb hm).2 ⟨m1,m2,e⟩)]
      · rw [if_neg e]
        rcases joinI_cases u a b with ⟨e',_⟩|⟨c,_,hc⟩
        · exact e'.symm
        · have:=hg c hc hc.1
          subst this
          exact absurd ((isJoin_iff h ha hb hm).1 hc).2.2 e
  · intro c hc ih β hβ
    have h3:=row_len h hc
    refine Ev.step (fun k=>spec_l1Join.l0.eq_2 ..) ?_
    repeat (refine Ev.pos (by omega) ?_)
    rw [wrap_succ c (by omega)]
    have stay : ¬(rdN u a c=1∧rdN u b c=1)→Ev (fun k=>spec_l1Join.l0 k u a b β ((c+1:Nat):Int)) (joinI u a b):=by
      intro no
      refine ih β ?_
      rcases hβ with ⟨rfl,k⟩|⟨m,rfl,hm,m1,m2,hg⟩
      · refine .inl ⟨rfl,fun d hd=>?_⟩
        by_cases e:d=c
        · rw [e];exact no
        · exact k d (by omega)
      · refine .inr ⟨m,rfl,hm,m1,m2,fun g gm hgc=>?_⟩
        by_cases e:g=c
        · subst e
          exact absurd ⟨gm.2.1,gm.2.2.1⟩ no
        · exact hg g gm (by omega)
    by_cases k1:rdN u a c=1
    · refine Ev.pos k1 ?_
      repeat (refine Ev.pos (by omega) ?_)
      by_cases k2:rdN u b c=1
      · refine Ev.pos k2 ?_
        rcases hβ with ⟨rfl,k⟩|⟨m,rfl,hm,m1,m2,hg⟩
        · refine Ev.pos (by omega) (ih c (.inr ⟨c,rfl,hc,k1,k2,fun g gm hgc=>?_⟩))
          by_cases e:g=c
          · exact e.symm
          · exact absurd ⟨gm.2.1,gm.2.2.1⟩ (k g (by omega))
        · refine Ev.neg (by omega) ?_
          repeat (refine Ev.pos (by omega) ?_)
          by_cases k3:rdN u c m=1
          · refine Ev.pos k3 (ih c (.inr ⟨c,rfl,hc,k1,k2,fun g gm hgc=>?_⟩))
            by_cases e:g=c
            · exact e.symm
            · have:=hg g gm (by omega)
              subst this
              exact h.anti hc hm k3 (gm.2.2.2 c hc k1 k2)
          · refine Ev.neg k3 (ih m (.inr ⟨m,rfl,hm,m1,m2,fun g gm hgc=>?_⟩))
            by_cases e:g=c
            · subst e
              exact absurd (gm.2.2.2 m hm m1 m2) k3
            · exact hg g gm (by omega)
      · exact Ev.neg k2 (stay (fun k=>k2 k.2))
    · exact Ev.neg k1 (stay (fun k=>k1 k.1))
theorem spec_join_ev (h:Ord u) {a b:Nat} (ha:a<u.length) (hb:b<u.length):Ev (fun k=>spec_l1Join.f k u a b) (joinI u a b):=by
 unfold spec_l1Join.f
 exact sj_l0 h ha hb 0 (Nat.zero_le _) (-1) (.inl ⟨rfl,fun d hd=>by omega⟩)
end

def trow (u:List (List Int)) (a:Nat):List Int:=(List.range u.length).map fun b=>rdN u b a
def mid (u:List (List Int)) (a:Nat) (row:List Int):List (List Int):=(List.range a).map (trow u)++row::List.replicate (u.length-(a+1)) []
theorem mid_len {u:List (List Int)} {a:Nat} (ha:a<u.length) (row:List Int):(mid u a row).length=u.length:=by
 simp [mid]
 omega
theorem mid_row {u:List (List Int)} {a:Nat} (row:List Int):rd_L1 (mid u a row) (a:Int)=row:=by
 rw [row_nat,List.getD_eq_getElem?_getD,mid,List.getElem?_append_right (by simp)]
 simp
theorem mid_set {u:List (List Int)} {a:Nat} (row row':List Int):(mid u a row).set a row'=mid u a row':=by
 unfold mid
 rw [List.set_append,if_neg (by simp)]
 simp
theorem it_l1 {u:List (List Int)} (h:Ord u) {a:Nat} (ha:a<u.length) {r:List (List Int)} (H:Ev (fun k=>impl_turned.l0 k u (mid u a (trow u a)) u.length ((a+1:Nat):Int)) r) (b:Nat) (hb:b≤u.length) :
    Ev (fun k=>impl_turned.l1 k u (mid u a ((trow u a).take b++List.replicate (u.length-b) 0)) a u.length a u.length b) r:=by
  have hn:=h.le12
  have ht:(trow u a).length=u.length:=by simp [trow]
  refine down u.length (fun b=>Ev (fun k=>impl_turned.l1 k u (mid u a ((trow u a).take b++List.replicate (u.length-b) 0)) a u.length a u.length b) r) ?_ ?_ b hb
  · refine Ev.step (fun k=>impl_turned.l1.eq_2 ..) (Ev.neg (by omega) ?_)
    rw [wrap_succ a (by omega),Nat.sub_self,List.take_of_length_le (by omega)]
    simpa using H
  · intro b hb ih
    have r1:=row_len h hb
    have hr:((trow u a).take b++List.replicate (u.length-b) (0:Int)).length=u.length:=by simp [ht];omega
    refine Ev.step (fun k=>impl_turned.l1.eq_2 ..) ?_
    rw [mid_row,mid_len ha,hr]
    repeat (refine Ev.pos (by omega) ?_)
    rw [wrap_succ b (by omega),show ((b:Int)).toNat=b from rfl,show ((a:Int)).toNat=a from rfl,mid_set]
    have e:rd (rd_L1 u (b:Int)) (a:Int)=(trow u a)[b]'(by omega):=by
      rw [at_nat]
      simp [trow]
    have st:=set_step (trow u a) (0:Int) b (by omega)
    simp only [ht] at st
    rw [e,st]
    exact ih
theorem it_l0 {u:List (List Int)} (h:Ord u) (a:Nat) (ha:a≤u.length) :
    Ev (fun k=>impl_turned.l0 k u ((List.range a).map (trow u)++List.replicate (u.length-a) []) u.length a) (turn u):=by
  have hn:=h.le12
  refine down u.length (fun a=>Ev (fun k=>impl_turned.l0 k u ((List.range a).map (trow u)++List.replicate (u.length-a) []) u.length a) (turn u)) ?_ ?_ a ha
  · refine Ev.step (fun k=>impl_turned.l0.eq_2 ..) (Ev.neg (by omega) (Ev.ret ?_))
    rw [Nat.sub_self]
    simp [turn,trow]
  · intro a ha ih
    refine Ev.step (fun k=>impl_turned.l0.eq_2 ..) ?_
    refine Ev.pos (by omega) (Ev.pos (by omega) (Ev.pos (by omega) (Ev.pos (by omega) (Ev.pos (by simp;omega) ?_))))
    have e:((List.range a).map (trow u)++List.replicate (u.length-a) ([]:List Int)).set ((a:Int)).toNat (List.replicate ((u.length:Int)).toNat 0)=mid u a ((trow u a).take 0++List.replicate (u.length-0) 0):=by
      rw [show ((a:Int)).toNat=a from rfl,show ((u.length:Int)).toNat=u.length from rfl,show u.length-a=(u.length-(a+1))+1 by omega,List.replicate_succ]
      exact mid_set [] _
    rw [e]
    refine it_l1 h ha ?_ 0 (Nat.zero_le _)
    have e2:(List.range (a+1)).map (trow u)++List.replicate (u.length-(a+1)) []=mid u a (trow u a):=by
      rw [List.range_succ,List.map_append,mid,List.append_assoc]
      rfl
    rw [e2] at ih
    exact ih
theorem turned_ev {u:List (List Int)} (h:Ord u):Ev (fun k=>impl_turned.f k u) (turn u):=by
 have hn:=h.le12
 unfold impl_turned.f
 refine Ev.pos (by omega) (Ev.pos (by omega) ?_)
 have:=it_l0 h 0 (Nat.zero_le _)
 simpa using this
theorem sl_l1 {u:List (List Int)} (h:Ord u) {a:Nat} (ha:a<u.length) {r:Int × Bool} (H:Ev (fun k=>spec_LeastOf.l0 k u ((a+1:Nat):Int)) r) (b:Nat) (hb:b≤u.length) :
    ∀ g:Bool,Ev (fun k=>spec_LeastOf.l1 k u a g b) (if (g&&allF u.length (fun b=>decide (rdN u a b=1)) b)=true then ((a:Int),true) else r):=by
  have hn:=h.le12
  have h1:=row_len h ha
  refine down u.length (fun b=>∀ g:Bool,Ev (fun k=>spec_LeastOf.l1 k u a g b) (if (g&&allF u.length (fun b=>decide (rdN u a b=1)) b)=true then ((a:Int),true) else r)) ?_ ?_ b hb
  · intro g
    refine Ev.step (fun k=>spec_LeastOf.l1.eq_2 ..) ?_
    refine Ev.neg (by omega) ?_
    rw [allF_end (Nat.le_refl _),wrap_succ a (by omega)]
    cases g with
    | true=>exact Ev.pos rfl (Ev.ret (by simp))
    | false=>exact Ev.neg Bool.false_ne_true (Ev.to H (by simp))
  · intro b hb ih g
    refine Ev.step (fun k=>spec_LeastOf.l1.eq_2 ..) ?_
    refine Ev.pos (by omega) ?_
    rw [allF_step hb,wrap_succ b (by omega)]
    cases g with
    | true =>
      refine Ev.pos rfl ?_
      repeat (refine Ev.pos (by omega) ?_)
      exact Ev.to (ih _) (by rw [Bool.true_and];rfl)
    | false=>exact Ev.neg Bool.false_ne_true (Ev.to (ih false) (by simp))
theorem sl_l0 {u:List (List Int)} (h:Ord u) (a:Nat) (ha:a≤u.length) :
    Ev (fun k=>spec_LeastOf.l0 k u a) (let i:=firstF u.length (fun a=>decide (IsLeast u a)) a;(i,decide (0≤i))):=by
  have hn:=h.le12
  refine down u.length (fun a=>Ev (fun k=>spec_LeastOf.l0 k u a) (let i:=firstF u.length (fun a=>decide (IsLeast u a)) a;(i,decide (0≤i)))) ?_ ?_ a ha
  · refine Ev.step (fun k=>spec_LeastOf.l0.eq_2 ..) ?_
    refine Ev.neg (by omega) ?_
    refine Ev.step (fun k=>spec_LeastOf.j1.eq_2 ..) ?_
    exact Ev.neg Bool.false_ne_true (Ev.ret (by rw [firstF_end (Nat.le_refl _)];rfl))
  · intro a ha ih
    refine Ev.step (fun k=>spec_LeastOf.l0.eq_2 ..) ?_
    refine Ev.pos (by omega) ?_
    refine Ev.bind (spec_ord u) ?_
    refine Ev.step (fun k=>spec_LeastOf.j1.eq_2 ..) ?_
    refine Ev.tt (decide_eq_true h) ?_
    refine Ev.to (sl_l1 h ha ih 0 (Nat.zero_le _) true) ?_
    rw [firstF_step ha]
    by_cases e:IsLeast u a
    · rw [if_pos (by rw [Bool.true_and,allF0];exact fun c hc=>decide_eq_true (e c hc)),if_pos (decide_eq_true e)]
      simp
    · rw [if_neg (by rw [Bool.true_and,allF0];exact fun k=>e fun c hc=>of_decide_eq_true (k c hc)),if_neg (by rw [decide_eq_true_iff];exact e)]
theorem spec_least_ev (u:List (List Int)):Ev (fun k=>spec_LeastOf.f k u) (leastOfP u):=by
 unfold spec_LeastOf.f
 by_cases h:Ord u
 ·exact Ev.to (sl_l0 h 0 (Nat.zero_le _)) (by rw [leastOfP,if_pos h];rfl)
 ·rw [leastOfP,if_neg h]
  refine Ev.step (fun k=>spec_LeastOf.l0.eq_2 ..) ?_
  by_cases e:(0:Int)<u.length
  ·refine Ev.pos e ?_
   refine Ev.bind (spec_ord u) ?_
   refine Ev.step (fun k=>spec_LeastOf.j1.eq_2 ..) ?_
   exact Ev.ff (decide_eq_false h) (Ev.ret rfl)
  ·refine Ev.neg e ?_
   refine Ev.step (fun k=>spec_LeastOf.j1.eq_2 ..) ?_
   exact Ev.neg Bool.false_ne_true (Ev.ret rfl)
theorem il_l1 {u:List (List Int)} (h:Ord u) {a:Nat} (ha:a<u.length) {r:Int × Bool} (H:Ev (fun k=>impl_LeastOf.l0 k u u.length ((a+1:Nat):Int)) r) (b:Nat) (hb:b≤u.length) :
    ∀ g:Bool,Ev (fun k=>impl_LeastOf.l1 k a g u u.length a (rd_L1 u (a:Int)) u.length b) (if (g&&allF u.length (fun b=>decide (rdN u a b=1)) b)=true then ((a:Int),true) else r):=by
  have hn:=h.le12
  have h1:=row_len h ha
  refine down u.length (fun b=>∀ g:Bool,Ev (fun k=>impl_LeastOf.l1 k a g u u.length a (rd_L1 u (a:Int)) u.length b) (if (g&&allF u.length (fun b=>decide (rdN u a b=1)) b)=true then ((a:Int),true) else r)) ?_ ?_ b hb
  · intro g
    refine Ev.step (fun k=>impl_LeastOf.l1.eq_2 ..) ?_
    refine Ev.neg (by omega) ?_
    rw [allF_end (Nat.le_refl _),wrap_succ a (by omega)]
    cases g with
    | true=>exact Ev.pos rfl (Ev.ret (by simp))
    | false=>exact Ev.neg Bool.false_ne_true (Ev.to H (by simp))
  · intro b hb ih g
    refine Ev.step (fun k=>impl_LeastOf.l1.eq_2 ..) ?_
    repeat (refine Ev.pos (by omega) ?_)
    rw [allF_step hb,wrap_succ b (by omega)]
    cases g with
    | true =>
      refine Ev.pos rfl ?_
      exact Ev.to (ih _) (by rw [Bool.true_and];rfl)
    | false=>exact Ev.neg Bool.false_ne_true (Ev.to (ih false) (by simp))
theorem il_l0 {u:List (List Int)} (h:Ord u) (a:Nat) (ha:a≤u.length) :
    Ev (fun k=>impl_LeastOf.l0 k u u.length a) (let i:=firstF u.length (fun a=>decide (IsLeast u a)) a;(i,decide (0≤i))):=by
  have hn:=h.le12
  refine down u.length (fun a=>Ev (fun k=>impl_LeastOf.l0 k u u.length a) (let i:=firstF u.length (fun a=>decide (IsLeast u a)) a;(i,decide (0≤i)))) ?_ ?_ a ha
  · refine Ev.step (fun k=>impl_LeastOf.l0.eq_2 ..) ?_
    refine Ev.neg (by omega) ?_
    exact Ev.ret (by rw [firstF_end (Nat.le_refl _)];rfl)
  · intro a ha ih
    refine Ev.step (fun k=>impl_LeastOf.l0.eq_2 ..) ?_
    repeat (refine Ev.pos (by omega) ?_)
    rw [row_len h ha]
    refine Ev.to (il_l1 h ha ih 0 (Nat.zero_le _) true) ?_
    rw [firstF_step ha]
    by_cases e:IsLeast u a
    · rw [if_pos (by rw [Bool.true_and,allF0];exact fun c hc=>decide_eq_true (e c hc)),if_pos (decide_eq_true e)]
      simp
    · rw [if_neg (by rw [Bool.true_and,allF0];exact fun k=>e fun c hc=>of_decide_eq_true (k c hc)),if_neg (by rw [decide_eq_true_iff];exact e)]
theorem impl_least_ev (u:List (List Int)):Ev (fun k=>impl_LeastOf.f k u) (leastOfP u):=by
 unfold impl_LeastOf.f
 refine Ev.bind (impl_ord u) ?_
 by_cases h:Ord u
 ·refine Ev.tt (decide_eq_true h) ?_
  exact Ev.to (il_l0 h 0 (Nat.zero_le _)) (by rw [leastOfP,if_pos h];rfl)
 ·exact Ev.ff (decide_eq_false h) (Ev.ret (by rw [leastOfP,if_neg h]))

def pl (u:List (List Int)) (a b:Nat):Bool:=decide (0≤meetI u a b)&&decide (0≤joinI u a b)
theorem sa_l1 {u:List (List Int)} (h:Ord u) {a:Nat} (ha:a<u.length) {r:Bool} (H:Ev (fun k=>spec_LatticeOk.l0 k u ((a+1:Nat):Int)) r) (b:Nat) (hb:b≤a) :
    Ev (fun k=>spec_LatticeOk.l1 k u a b) (allF a (pl u a) b&&r):=by
  have hn:=h.le12
  refine down a (fun b=>Ev (fun k=>spec_LatticeOk.l1 k u a b) (allF a (pl u a) b&&r)) ?_ ?_ b hb
  · refine Ev.step (fun k=>spec_LatticeOk.l1.eq_2 ..) ?_
    refine Ev.neg (by omega) ?_
    rw [allF_end (Nat.le_refl _),wrap_succ a (by omega)]
    exact Ev.to H (by simp)
  · intro b hb ih
    refine Ev.step (fun k=>spec_LatticeOk.l1.eq_2 ..) ?_
    refine Ev.pos (by omega) ?_
    rw [allF_step hb,wrap_succ b (by omega)]
    refine Ev.bind (spec_meet_ev h ha (by omega)) ?_
    by_cases k1:0≤meetI u a b
    · refine Ev.neg (by omega) ?_
      refine Ev.bind (spec_join_ev h ha (by omega)) ?_
      by_cases k2:0≤joinI u a b
      · exact Ev.neg (by omega) (Ev.to ih (by simp [pl,k1,k2]))
      · exact Ev.pos (by omega) (Ev.ret (by simp [pl,k2]))
    · exact Ev.pos (by omega) (Ev.ret (by simp [pl,k1]))
theorem sa_l0 {u:List (List Int)} (h:Ord u) (a:Nat) (ha:a≤u.length) :
    Ev (fun k=>spec_LatticeOk.l0 k u a) (allF u.length (fun a=>allF a (pl u a) 0) a):=by
  have hn:=h.le12
  refine down u.length (fun a=>Ev (fun k=>spec_LatticeOk.l0 k u a) (allF u.length (fun a=>allF a (pl u a) 0) a)) ?_ ?_ a ha
  · refine Ev.step (fun k=>spec_LatticeOk.l0.eq_2 ..) ?_
    refine Ev.neg (by omega) ?_
    refine Ev.step (fun k=>spec_LatticeOk.j1.eq_2 ..) ?_
    refine Ev.neg Bool.false_ne_true ?_
    refine Ev.bind (spec_ord u) ?_
    exact Ev.ret (by rw [allF_end (Nat.le_refl _),decide_eq_true h])
  · intro a ha ih
    refine Ev.step (fun k=>spec_LatticeOk.l0.eq_2 ..) ?_
    refine Ev.pos (by omega) ?_
    refine Ev.bind (spec_ord u) ?_
    refine Ev.step (fun k=>spec_LatticeOk.j1.eq_2 ..) ?_
    refine Ev.tt (decide_eq_true h) ?_
    exact Ev.to (sa_l1 h ha ih 0 (Nat.zero_le _)) (by rw [allF_step ha])
theorem spec_lat_ev (u:List (List Int)):Ev (fun k=>spec_LatticeOk.f k u) (decide (Lat u)):=by
 unfold spec_LatticeOk.f
 by_cases h:Ord u
 ·refine Ev.to (sa_l0 h 0 (Nat.zero_le _)) ?_
  rw [Bool.eq_iff_iff,allF0,decide_eq_true_iff]
  constructor
  ·intro k
   have half : ∀ a,a<u.length→∀ b,b<a→0≤meetI u a b∧0≤joinI u a b:=fun a ha b hb=>by
    have:=allF0.1 (k a ha) b hb
    simpa [pl] using this
   refine ⟨h,fun a ha b hb=>?_⟩
   rcases Nat.lt_trichotomy a b with e|e|e
   ·rw [meetI_comm h,joinI_comm h]
    exact half b hb a e
   ·subst e
    rw [meetI_of h (isMeet_self h ha ha (h.refl ha)),joinI_of h (isJoin_self h ha ha (h.refl ha))]
    omega
   ·exact half a ha b e
  ·intro k a ha
   rw [allF0]
   intro b hb
   have:=k.2 a ha b (by omega)
   simp [pl,this.1,this.2]
 ·rw [decide_eq_false (fun k=>h k.1)]
  refine Ev.step (fun k=>spec_LatticeOk.l0.eq_2 ..) ?_
  have fin : ∀ x:Bool,x=false→Ev (fun k=>spec_LatticeOk.j1 k u 0 x) false:=by
   rintro x rfl
   refine Ev.step (fun k=>spec_LatticeOk.j1.eq_2 ..) ?_
   refine Ev.neg Bool.false_ne_true ?_
   refine Ev.bind (spec_ord u) ?_
   exact Ev.ret (decide_eq_false h)
  by_cases e:(0:Int)<u.length
  ·refine Ev.pos e ?_
   refine Ev.bind (spec_ord u) ?_
   exact fin _ (decide_eq_false h)
  ·exact Ev.neg e (fin _ rfl)
theorem ia_l1 {u:List (List Int)} (h:Ord u) {a:Nat} (ha:a<u.length) {r:Bool} (H:Ev (fun k=>impl_LatticeOk.l0 k u (turn u) u.length ((a+1:Nat):Int)) r) (b:Nat) (hb:b≤u.length) :
    Ev (fun k=>impl_LatticeOk.l1 k u (turn u) a u.length a u.length b) (allF u.length (pl u a) b&&r):=by
  have hn:=h.le12
  refine down u.length (fun b=>Ev (fun k=>impl_LatticeOk.l1 k u (turn u) a u.length a u.length b) (allF u.length (pl u a) b&&r)) ?_ ?_ b hb
  · refine Ev.step (fun k=>impl_LatticeOk.l1.eq_2 ..) ?_
    refine Ev.neg (by omega) ?_
    rw [allF_end (Nat.le_refl _),wrap_succ a (by omega)]
    exact Ev.to H (by simp)
  · intro b hb ih
    refine Ev.step (fun k=>impl_LatticeOk.l1.eq_2 ..) ?_
    refine Ev.pos (by omega) ?_
    rw [allF_step hb,wrap_succ b (by omega)]
    refine Ev.bind (impl_meet_ev h ha hb) ?_
    by_cases k1:0≤meetI u a b
    · refine Ev.neg (by omega) ?_
      refine Ev.bind (impl_meet_ev (turn_ord h) (by rw [turn_len];exact ha) (by rw [turn_len];exact hb)) ?_
      rw [meetI_turn ha hb]
      by_cases k2:0≤joinI u a b
      · exact Ev.neg (by omega) (Ev.to ih (by simp [pl,k1,k2]))
      · exact Ev.pos (by omega) (Ev.ret (by simp [pl,k2]))
    · exact Ev.pos (by omega) (Ev.ret (by simp [pl,k1]))
theorem ia_l0 {u:List (List Int)} (h:Ord u) (a:Nat) (ha:a≤u.length) :
    Ev (fun k=>impl_LatticeOk.l0 k u (turn u) u.length a) (allF u.length (fun a=>allF u.length (pl u a) 0) a):=by
  have hn:=h.le12
  refine down u.length (fun a=>Ev (fun k=>impl_LatticeOk.l0 k u (turn u) u.length a) (allF u.length (fun a=>allF u.length (pl u a) 0) a)) ?_ ?_ a ha
  · refine Ev.step (fun k=>impl_LatticeOk.l0.eq_2 ..) ?_
    exact Ev.neg (by omega) (Ev.ret (by rw [allF_end (Nat.le_refl _)]))
  · intro a ha ih
    refine Ev.step (fun k=>impl_LatticeOk.l0.eq_2 ..) ?_
    refine Ev.pos (by omega) ?_
    exact Ev.to (ia_l1 h ha ih 0 (Nat.zero_le _)) (by rw [allF_step ha])
theorem impl_lat_ev (u:List (List Int)):Ev (fun k=>impl_LatticeOk.f k u) (decide (Lat u)):=by
 unfold impl_LatticeOk.f
 refine Ev.bind (impl_ord u) ?_
 by_cases h:Ord u
 ·refine Ev.tt (decide_eq_true h) ?_
  refine Ev.bind (turned_ev h) ?_
  refine Ev.to (ia_l0 h 0 (Nat.zero_le _)) ?_
  rw [Bool.eq_iff_iff,allF0,decide_eq_true_iff]
  constructor
  ·intro k
   refine ⟨h,fun a ha b hb=>?_⟩
   have:=allF0.1 (k a ha) b hb
   simpa [pl] using this
  ·intro k a ha
   rw [allF0]
   intro b hb
   have:=k.2 a ha b hb
   simp [pl,this.1,this.2]
 ·exact Ev.ff (decide_eq_false h) (Ev.ret (decide_eq_false (fun k=>h k.1)).symm)
section
variable {u:List (List Int)} {nt:List Int}
def lp0 (u:List (List Int)) (nt:List Int) (c:Nat):Bool:=decide (0≤rd nt c∧rd nt c<u.length)
def lp2 (u:List (List Int)) (nt:List Int) (c d:Nat):Bool:=decide (OppTo u nt c d)
def lp1 (u:List (List Int)) (nt:List Int) (c:Nat):Bool:=decide (rd nt (rd nt c)=c)&&decide (meetI u c (rd nt c).toNat=leastI u)&&allF u.length (lp2 u nt c) 0
theorem lg_l2 (h:Lat u) (hl:nt.length=u.length) (H0 : ∀ c,c<u.length→0≤rd nt c∧rd nt c<u.length) {a:Nat} (ha:a<u.length) {le:Int} {r:Bool}
    (H:Ev (fun k=>spec_LogicOk.l1 k u.length le ((a+1:Nat):Int) u nt) r) (b:Nat) (hb:b≤u.length) :
    Ev (fun k=>spec_LogicOk.l2 k u.length le a b u nt) (allF u.length (lp2 u nt a) b&&r):=by
  have h12:=h.1.le12
  refine down u.length (fun b=>Ev (fun k=>spec_LogicOk.l2 k u.length le a b u nt) (allF u.length (lp2 u nt a) b&&r)) ?_ ?_ b hb
  · refine Ev.step (fun k=>spec_LogicOk.l2.eq_2 ..) ?_
    refine Ev.neg (by omega) ?_
    rw [wrap_succ a (by omega),allF_end (Nat.le_refl _),Bool.true_and]
    exact H
  · intro b hb ih
    have hra:(rd_L1 u (a:Int)).length=u.length:=row_len h.1 ha
    have hb0:=H0 b hb
    have ha0:=H0 a ha
    have hrb:(rd_L1 u (rd nt (b:Int))).length=u.length:=by
      obtain ⟨m,hm,hm2⟩:=nat_of hb0
      rw [hm]
      exact row_len h.1 hm2
    refine Ev.step (fun k=>spec_LogicOk.l2.eq_2 ..) ?_
    repeat (refine Ev.pos (by omega) ?_)
    rw [at_nat]
    rw [wrap_succ b (by omega)]
    by_cases k1:rdN u a b=1
    · refine Ev.pos k1 ?_
      repeat (refine Ev.pos (by omega) ?_)
      have hv:rd (rd_L1 u (rd nt (b:Int))) (rd nt (a:Int))=rdN u (rd nt b).toNat (rd nt a).toNat:=by
        obtain ⟨m,hm,hm2⟩:=nat_of hb0
        obtain ⟨l,hl,hl2⟩:=nat_of ha0
        rw [hm,hl,Int.toNat_natCast,Int.toNat_natCast,at_nat]
      rw [hv]
      have hbit:=h.1.bit (a:=(rd nt b).toNat) (b:=(rd nt a).toNat) (by omega) (by omega)
      by_cases k2:rdN u (rd nt b).toNat (rd nt a).toNat=0
      · refine Ev.pos k2 (Ev.ret ?_)
        rw [allF_step hb]
        have:lp2 u nt a b=false:=decide_eq_false (fun q=>by have:=q k1;omega)
        rw [this,Bool.false_and,Bool.false_and]
      · refine Ev.neg k2 ?_
        have:lp2 u nt a b=true:=decide_eq_true (fun _=>by omega)
        rw [allF_step hb,this,Bool.true_and]
        exact ih
    · refine Ev.neg k1 ?_
      have:lp2 u nt a b=true:=decide_eq_true (fun q=>absurd q k1)
      rw [allF_step hb,this,Bool.true_and]
      exact ih
theorem lg_l1 (h:Lat u) (hl:nt.length=u.length) (H0 : ∀ c,c<u.length→0≤rd nt c∧rd nt c<u.length) (a:Nat) (ha:a≤u.length) :
    Ev (fun k=>spec_LogicOk.l1 k u.length (leastI u) a u nt) (allF u.length (lp1 u nt) a):=by
  have h12:=h.1.le12
  refine down u.length (fun a=>Ev (fun k=>spec_LogicOk.l1 k u.length (leastI u) a u nt) (allF u.length (lp1 u nt) a)) ?_ ?_ a ha
  · refine Ev.step (fun k=>spec_LogicOk.l1.eq_2 ..) ?_
    refine Ev.neg (by omega) (Ev.ret ?_)
    rw [allF_end (Nat.le_refl _)]
  · intro a ha ih
    have ha0:=H0 a ha
    refine Ev.step (fun k=>spec_LogicOk.l1.eq_2 ..) ?_
    repeat (refine Ev.pos (by omega) ?_)
    by_cases k1:rd nt (rd nt (a:Int))=a
    · refine Ev.pos k1 ?_
      obtain ⟨m,hm,hm2⟩:=nat_of ha0
      have hme:Ev (fun k=>spec_l1Meet.f k u a (rd nt (a:Int))) (meetI u a m):=by rw [hm];exact spec_meet_ev h.1 ha hm2
      refine Ev.bind hme ?_
      refine Ev.step (fun k=>spec_LogicOk.j3.eq_2 ..) ?_
      by_cases k2:meetI u a m=leastI u
      · refine Ev.ff (by rw [k2];simp) ?_
        refine Ev.to (lg_l2 h hl H0 ha ih 0 (Nat.zero_le _)) ?_
        rw [allF_step ha]
        have:lp1 u nt a=allF u.length (lp2 u nt a) 0:=by unfold lp1;rw [decide_eq_true k1,hm,Int.toNat_natCast,decide_eq_true k2];rfl
        rw [this]
      · refine Ev.tt (bne_iff_ne.mpr k2) (Ev.ret ?_)
        rw [allF_step ha]
        have:lp1 u nt a=false:=by unfold lp1;rw [hm,Int.toNat_natCast,decide_eq_false k2,Bool.and_false,Bool.false_and]
        rw [this,Bool.false_and]
    · refine Ev.neg k1 ?_
      refine Ev.step (fun k=>spec_LogicOk.j3.eq_2 ..) ?_
      refine Ev.tt rfl (Ev.ret ?_)
      rw [allF_step ha]
      have:lp1 u nt a=false:=by unfold lp1;rw [decide_eq_false k1,Bool.false_and,Bool.false_and]
      rw [this,Bool.false_and]
theorem lg_l0 (h:Lat u) (hl:nt.length=u.length) (a:Nat) (ha:a≤u.length):(∀ c,c<a→0≤rd nt (c:Int)∧rd nt (c:Int)<u.length) →
    Ev (fun k=>spec_LogicOk.l0 k u.length a u nt) (allF u.length (lp0 u nt) a&&allF u.length (lp1 u nt) 0):=by
  have h12:=h.1.le12
  refine down u.length (fun a=>(∀ c,c<a→0≤rd nt (c:Int)∧rd nt (c:Int)<u.length)→Ev (fun k=>spec_LogicOk.l0 k u.length a u nt) (allF u.length (lp0 u nt) a&&allF u.length (lp1 u nt) 0)) ?_ ?_ a ha
  · intro H
    refine Ev.step (fun k=>spec_LogicOk.l0.eq_2 ..) ?_
    refine Ev.neg (by omega) ?_
    refine Ev.bind (spec_least_ev u) ?_
    rw [allF_end (Nat.le_refl _),Bool.true_and]
    have hle:(leastOfP u).1=leastI u:=by unfold leastOfP;rw [if_pos h.1]
    rw [hle]
    exact lg_l1 h hl H 0 (Nat.zero_le _)
  · intro a ha ih H
    refine Ev.step (fun k=>spec_LogicOk.l0.eq_2 ..) ?_
    repeat (refine Ev.pos (by omega) ?_)
    rw [len_pred h.1]
    refine Ev.bindc (l1In_eq _ _ _) ?_
    by_cases k:0≤rd nt (a:Int)∧rd nt (a:Int)<u.length
    · refine Ev.tt (decide_eq_true (by omega)) ?_
      rw [wrap_succ a (by omega),allF_step ha]
      have:lp0 u nt a=true:=decide_eq_true k
      rw [this,Bool.true_and]
      exact ih (fun c hc=>if q:c<a then H c q else (show c=a by omega)▸k)
    · refine Ev.ff (decide_eq_false (by omega)) (Ev.ret ?_)
      have:lp0 u nt a=false:=decide_eq_false k
      rw [allF_step ha,this,Bool.false_and,Bool.false_and]
theorem logic_of_loops (h:Lat u) (hl:nt.length=u.length):(allF u.length (lp0 u nt) 0&&allF u.length (lp1 u nt) 0)=logicF u nt:=by
 unfold logicF
 rw [Bool.eq_iff_iff,Bool.and_eq_true,allF0,allF0,decide_eq_true_iff]
 constructor
 ·rintro ⟨q0,q1⟩
  have r0:=fun c hc=>of_decide_eq_true (q0 c hc)
  have r1 : ∀ c,c<u.length→(rd nt (rd nt c)=c∧meetI u c (rd nt c).toNat=leastI u)∧∀ d,d<u.length→OppTo u nt c d:=by
   intro c hc
   have:=q1 c hc
   unfold lp1 at this
   rw [Bool.and_eq_true,Bool.and_eq_true,decide_eq_true_iff,decide_eq_true_iff,allF0] at this
   exact ⟨this.1,fun d hd=>of_decide_eq_true (this.2 d hd)⟩
  exact ⟨h,hl,fun c hc=>⟨r0 c hc,(r1 c hc).1.1,(r1 c hc).1.2⟩,fun c hc d hd=>(r1 c hc).2 d hd⟩
 ·rintro ⟨_,_,q0,q1⟩
  refine ⟨fun c hc=>decide_eq_true (q0 c hc).1,fun c hc=>?_⟩
  unfold lp1
  rw [Bool.and_eq_true,Bool.and_eq_true,decide_eq_true_iff,decide_eq_true_iff,allF0]
  exact ⟨⟨(q0 c hc).2.1,(q0 c hc).2.2⟩,fun d hd=>decide_eq_true (q1 c hc d hd)⟩
end
theorem spec_logic_ev (u:List (List Int)) (nt:List Int):Ev (fun k=>spec_LogicOk.f k u nt) (logicF u nt):=by
 unfold spec_LogicOk.f
 refine Ev.bind (spec_lat_ev u) ?_
 by_cases h:Lat u
 ·refine Ev.tt (decide_eq_true h) ?_
  refine Ev.step (fun k=>spec_LogicOk.j0.eq_2 ..) ?_
  by_cases hl:nt.length=u.length
  ·refine Ev.ff (by rw [hl];simp) ?_
   exact Ev.to (lg_l0 h hl 0 (Nat.zero_le _) (fun c hc=>absurd hc (Nat.not_lt_zero _))) (logic_of_loops h hl)
  ·refine Ev.tt (bne_iff_ne.mpr (by omega)) (Ev.ret ?_)
   exact (decide_eq_false (fun q=>hl q.2.1)).symm
 ·refine Ev.ff (decide_eq_false h) ?_
  refine Ev.step (fun k=>spec_LogicOk.j0.eq_2 ..) ?_
  refine Ev.tt rfl (Ev.ret ?_)
  exact (decide_eq_false (fun q=>h q.1)).symm
section
variable (u:List (List Int)) (nt:List Int)
theorem ok2 {n:Nat} {a b:Int}:okAll n [a,b]=true↔(0≤a∧a<n)∧(0≤b∧b<n):=by simp [okAll]
theorem ok1 {n:Nat} {a:Int}:okAll n [a]=true↔(0≤a∧a<n):=by simp [okAll]
theorem both_ev (a b:Int):Ev (fun k=>spec_l2Both.f k u nt a b) (decide (OL u nt∧okAll u.length [a,b]=true)):=by
 unfold spec_l2Both.f
 refine Ev.bind (spec_logic_ev u nt) ?_
 unfold logicF
 by_cases h:OL u nt
 ·refine Ev.tt (decide_eq_true h) ?_
  rw [h.2.1,len_pred h.1.1]
  refine Ev.bindc (l1In_eq _ _ _) ?_
  by_cases ka:0≤a∧a<u.length
  ·refine Ev.tt (decide_eq_true (by omega)) ?_
   refine Ev.bindc (l1In_eq _ _ _) (Ev.ret ?_)
   rw [Bool.eq_iff_iff,decide_eq_true_iff,decide_eq_true_iff,ok2]
   exact ⟨fun q=>⟨h,ka,by omega⟩,fun q=>by omega⟩
  ·refine Ev.ff (decide_eq_false (by omega)) (Ev.ret ?_)
   exact (decide_eq_false (fun q=>ka (ok2.1 q.2).1)).symm
 ·refine Ev.ff (decide_eq_false h) (Ev.ret ?_)
  exact (decide_eq_false (fun q=>h q.1)).symm
theorem no_ev:Ev (fun k=>spec_NoOf.f k u nt) (noF u nt):=by
 unfold spec_NoOf.f
 refine Ev.bind (spec_logic_ev u nt) ?_
 unfold logicF noF
 by_cases h:OL u nt
 ·refine Ev.tt (decide_eq_true h) ?_
  refine Ev.bind (spec_least_ev u) (Ev.ret ?_)
  rw [if_pos h]
  unfold leastOfP
  rw [if_pos h.1.1]
 ·refine Ev.ff (decide_eq_false h) (Ev.ret ?_)
  rw [if_neg h]
theorem not_ev (a:Int):Ev (fun k=>spec_NotOf.f k u nt a) (notF u nt a):=by
 unfold spec_NotOf.f
 refine Ev.bind (both_ev u nt a a) ?_
 unfold notF
 by_cases h:OL u nt∧okAll u.length [a]=true
 ·have k:=ok1.1 h.2
  have hl:=h.1.2.1
  refine Ev.tt (decide_eq_true ⟨h.1,ok2.2 ⟨k,k⟩⟩) ?_
  repeat (refine Ev.pos (by omega) ?_)
  exact Ev.ret (by rw [if_pos h])
 ·refine Ev.ff (decide_eq_false (fun q=>h ⟨q.1,ok1.2 (ok2.1 q.2).1⟩)) (Ev.ret ?_)
  rw [if_neg h]
theorem yes_ev:Ev (fun k=>spec_YesOf.f k u nt) (yesF u nt):=by
 unfold spec_YesOf.f
 refine Ev.bind (no_ev u nt) (Ev.bind (not_ev u nt _) (Ev.ret ?_))
 unfold notF yesF noF
 by_cases h:OL u nt
 ·obtain ⟨m,hm,hm2,_⟩:=h.1.least
  rw [if_pos h,if_pos h,if_pos ⟨h,ok1.2 ⟨by omega,by omega⟩⟩]
 ·rw [if_neg (fun q=>h q.1),if_neg h]
end
section
variable {u:List (List Int)} {nt:List Int}
end

theorem alive_ev:Ev (fun k=>laws_alive.f k) true:=by
 unfold laws_alive.f
 refine Ev.bind (impl_ord _) ?_
 refine Ev.tt (by decide) ?_
 refine Ev.bind (impl_ord _) ?_
 exact Ev.ret (by decide)
section
variable {u:List (List Int)} {nt:List Int}
end
section
variable {u:List (List Int)} {nt:List Int}
end
section
variable {u:List (List Int)} {nt:List Int}
end
end Go.Proofs.Ytacifhahfamipaa.Q

namespace Go.Proofs.Ytacifhahfamipaa.P
open Go.RowKit Go.Proofs.YtacifhahfamipaaW.PrintWords Go.Proofs.YtacifhahfamipaaW.PrintLast Go.Proofs.YtacifhahfamipaaW.PrintMore Go.Proofs.Cl
set_option linter.unusedVariables false
end Go.Proofs.Ytacifhahfamipaa.P

namespace Go.Proofs.Ytacifhahfamipaa.Q
open Go.RowKit Go.Proofs.YtacifhahfamipaaW.PrintWords Go.Proofs.YtacifhahfamipaaW.PrintLast Go.Proofs.YtacifhahfamipaaW.PrintMore Go.Proofs.Ytacifhahfamipaa.P Go.Proofs.Cl
set_option linter.unusedVariables false
theorem pow_cast (m:Nat):(2:Int) ^ m=((2 ^ m:Nat):Int):=by norm_cast
theorem set_of {n:Nat} {s:Int} (h:isSetB n s=true) : ∃ S:Nat,s=S∧S<2 ^ n∧0<S:=by
 have h:=of_decide_eq_true h
 rw [pow_cast] at h
 exact ⟨s.toNat,by omega,by omega,by omega⟩
section
variable {u:List (List Int)} {nt:List Int}
end
section
variable {u:List (List Int)} {nt:List Int}
end
section
variable {u:List (List Int)} {nt:List Int}
end
section
variable {u:List (List Int)} {nt:List Int}
end
section
variable {u:List (List Int)} {nt:List Int}
end
section
variable {u:List (List Int)} {nt:List Int}
def agP (u:List (List Int)) (nt:List Int) (a b:Nat):Prop:=withB u nt a b∧withB u nt b a
instance (a b:Nat):Decidable (agP u nt a b):=by unfold agP;infer_instance
end
section
variable {u:List (List Int)} {nt:List Int}
end
section
variable {u:List (List Int)} {nt:List Int}
end
section
variable {u:List (List Int)} {nt:List Int}
end
section
variable {u:List (List Int)} {nt:List Int}
end
section
variable {u:List (List Int)} {nt:List Int}
def cp (u:List (List Int)) (nt:List Int) (a b:Nat):Bool:=decide (withB u nt a b∧withB u nt b a)
end
end Go.Proofs.Ytacifhahfamipaa.Q

namespace Go.Proofs.Ytacifhahfamipaa.P
open Go.RowKit Go.Proofs.YtacifhahfamipaaW.PrintWords Go.Proofs.YtacifhahfamipaaW.PrintLast Go.Proofs.YtacifhahfamipaaW.PrintMore Go.Proofs.Cl
set_option linter.unusedVariables false
def lastP (l:List Int):Nat→Int→Int
 | 0,_=>0
 | k+1,x=>if x=l.getD k 0 then (k:Int) else lastP l k x
def inP (l:List Int):Nat→Int→Bool
 | 0,_=>false
 | k+1,x=>if x=l.getD k 0 then true else inP l k x
def szP (l:List Int):Nat→Nat
 | 0=>0
 | k+1=>if inP l k (l.getD k 0)=true then szP l k else szP l k+1
theorem getD_get {l:List Int} {i:Nat} (h:i<l.length):l.getD i 0=l[i]:=by
 rw [List.getD_eq_getElem?_getD,List.getElem?_eq_getElem h,Option.getD_some]
theorem getD_mem {l:List Int} {i:Nat} (h:i<l.length):l.getD i 0∈l:=by
 rw [getD_get h]
 exact List.getElem_mem h
end Go.Proofs.Ytacifhahfamipaa.P

namespace Go.Proofs.Ytacifhahfamipaa.Q
open Go.RowKit Go.Proofs.YtacifhahfamipaaW.PrintWords Go.Proofs.YtacifhahfamipaaW.PrintLast Go.Proofs.YtacifhahfamipaaW.PrintMore Go.Proofs.Ytacifhahfamipaa.P Go.Proofs.Cl
set_option linter.unusedVariables false
section
variable {u:List (List Int)} {nt l:List Int}
end
end Go.Proofs.Ytacifhahfamipaa.Q

namespace Go.Proofs.Cl
set_option linter.unusedVariables false

section
variable {u:List (List Int)} (h:Ord u) {l:Nat} (hl:l<u.length) (least:IsLeast u l)
end
end Go.Proofs.Cl

namespace Go.Proofs.Ytacifhahfamipaa.Q
open Go.RowKit Go.Proofs.YtacifhahfamipaaW.PrintWords Go.Proofs.YtacifhahfamipaaW.PrintLast Go.Proofs.YtacifhahfamipaaW.PrintMore Go.Proofs.Ytacifhahfamipaa.P Go.Proofs.Cl
set_option linter.unusedVariables false

theorem sameInts_ev (xs:List Int) (h:xs.length<9223372036854775807):Ev (fun k=>laws_sameInts.f k xs xs) true:=by
 unfold laws_sameInts.f
 refine Ev.pos rfl ?_
 refine down xs.length (fun i=>Ev (fun k=>laws_sameInts.l0 k xs xs i) true) ?_ ?_ 0 (Nat.zero_le _)
 ·refine Ev.step (fun k=>laws_sameInts.l0.eq_2 ..) ?_
  exact Ev.neg (by omega) (Ev.ret rfl)
 ·intro i hi ih
  refine Ev.step (fun k=>laws_sameInts.l0.eq_2 ..) ?_
  refine Ev.pos (by omega) (Ev.pos (by omega) (Ev.pos (by omega) (Ev.pos rfl ?_)))
  rw [wrap_succ' i (by omega)]
  exact ih
theorem sameRows_ev (u:List (List Int)) (h:u.length<9223372036854775807) (hr : ∀ i (k:i<u.length),u[i].length<9223372036854775807):Ev (fun k=>laws_sameRows.f k u u) true:=by
 unfold laws_sameRows.f
 refine Ev.pos rfl ?_
 refine down u.length (fun i=>Ev (fun k=>laws_sameRows.l0 k u u i) true) ?_ ?_ 0 (Nat.zero_le _)
 ·refine Ev.step (fun k=>laws_sameRows.l0.eq_2 ..) ?_
  exact Ev.neg (by omega) (Ev.ret rfl)
 ·intro i hi ih
  refine Ev.step (fun k=>laws_sameRows.l0.eq_2 ..) ?_
  refine Ev.pos (by omega) (Ev.pos (by omega) (Ev.pos (by omega) ?_))
  rw [row_lt u hi]
  refine Ev.bind (sameInts_ev _ (hr i hi)) (Ev.pos rfl ?_)
  rw [wrap_succ' i (by omega)]
  exact ih
end Go.Proofs.Ytacifhahfamipaa.Q

namespace Go.Proofs.Ytacifhahfamipaa.P
open Go.RowKit Go.Proofs.YtacifhahfamipaaW.PrintWords Go.Proofs.YtacifhahfamipaaW.PrintLast Go.Proofs.YtacifhahfamipaaW.PrintMore Go.Proofs.Cl
set_option linter.unusedVariables false
theorem nodup_sub_len : ∀ (m l:List Int),m.Nodup→(∀ x∈m,x∈l)→m.length≤l.length
  | [],l,_,_=>Nat.zero_le _
  | x :: t,l,hn,h=>by
    have hx:x∈l:=h x (List.mem_cons_self ..)
    have hn2:=List.nodup_cons.1 hn
    have ih:=nodup_sub_len t (l.erase x) hn2.2 (fun y hy=>by
      have hne:y≠x:=fun e=>hn2.1 (e▸hy)
      exact (List.mem_erase_of_ne hne).2 (h y (List.mem_cons_of_mem _ hy)))
    have h1:=List.length_erase_of_mem hx
    have h2:=List.length_pos_of_mem hx
    simp only [List.length_cons]
    omega
theorem range_mem {n:Nat} {x:Int}:x∈castL (List.range n)↔0≤x∧x<(n:Int):=by
 unfold castL
 simp only [List.mem_map,List.mem_range]
 exact ⟨fun ⟨a,h1,h2⟩=>by omega,fun h=>⟨x.toNat,by omega,by omega⟩⟩
theorem range_len (n:Nat):(castL (List.range n)).length=n:=by simp [castL]
theorem range_nodup (n:Nat):(castL (List.range n)).Nodup:=by
 unfold castL List.Nodup
 rw [List.pairwise_map]
 refine List.Pairwise.imp ?_ (List.nodup_range (n:=n))
 intro a b h e
 exact h (Int.ofNat.inj e)
end Go.Proofs.Ytacifhahfamipaa.P

namespace Go.Proofs.Ytacifhahfamipaa.Q
open Go.RowKit Go.Proofs.YtacifhahfamipaaW.PrintWords Go.Proofs.YtacifhahfamipaaW.PrintLast Go.Proofs.YtacifhahfamipaaW.PrintMore Go.Proofs.Ytacifhahfamipaa.P Go.Proofs.Cl
set_option linter.unusedVariables false
structure Mdl (n:Nat) (U:Nat→Nat→Bool) (ng:Nat→Nat) (m j:Nat→Nat→Nat) (z:Nat):Prop where
 hz:z<n
 h12:n≤12
 hng : ∀ a,a<n→ng a<n
 hm : ∀ a,a<n→∀ b,b<n→m a b<n
 hj : ∀ a,a<n→∀ b,b<n→j a b<n
 refl : ∀ a,a<n→U a a=true
 anti : ∀ a,a<n→∀ b,b<n→U a b=true→U b a=true→a=b
 trans : ∀ a,a<n→∀ b,b<n→∀ c,c<n→U a b=true→U b c=true→U a c=true
 ml : ∀ a,a<n→∀ b,b<n→U (m a b) a=true
 mr : ∀ a,a<n→∀ b,b<n→U (m a b) b=true
 mg : ∀ a,a<n→∀ b,b<n→∀ c,c<n→U c a=true→U c b=true→U c (m a b)=true
 jl : ∀ a,a<n→∀ b,b<n→U a (j a b)=true
 jr : ∀ a,a<n→∀ b,b<n→U b (j a b)=true
 jg : ∀ a,a<n→∀ b,b<n→∀ c,c<n→U a c=true→U b c=true→U (j a b) c=true
 bot : ∀ a,a<n→U z a=true
 nn : ∀ a,a<n→ng (ng a)=a
 na : ∀ a,a<n→∀ b,b<n→U a b=true→U (ng b) (ng a)=true
 mn : ∀ a,a<n→m a (ng a)=z
theorem madeU_len (n:Nat) (U:Nat→Nat→Bool):(madeU n U).length=n:=by simp [madeU]
theorem madeN_len (n:Nat) (N:Nat→Int):(madeN n N).length=n:=by simp [madeN]
theorem rdN_made {n:Nat} (U:Nat→Nat→Bool) {a b:Nat} (ha:a<n) (hb:b<n):rdN (madeU n U) a b=if U a b=true then 1 else 0:=by
 unfold rdN madeU
 rw [getD_map_range _ _ ha,getD_map_range _ _ hb]
theorem rd_made {n:Nat} (N:Nat→Int) {a:Nat} (ha:a<n):rd (madeN n N) (a:Int)=N a:=by
 rw [rd_nat]
 unfold madeN
 exact getD_map_range _ _ ha
namespace Mdl
variable {n:Nat} {U:Nat→Nat→Bool} {ng:Nat→Nat} {m j:Nat→Nat→Nat} {z:Nat} {N:Nat→Int}
theorem one {a b:Nat} (ha:a<n) (hb:b<n):rdN (madeU n U) a b=1↔U a b=true:=by
 rw [rdN_made U ha hb]
 by_cases h:U a b=true
 ·simp [h]
 ·simp [h]
theorem ord (M:Mdl n U ng m j z):Ord (madeU n U):=by
 unfold Cl.Ord
 rw [madeU_len]
 refine ⟨Nat.lt_of_le_of_lt (Nat.zero_le _) M.hz,M.h12,fun a ha=>?_,fun a ha b hb=>?_,fun a ha=>(one ha ha).2 (M.refl a ha),fun a ha b hb k l=>M.anti a ha b hb ((one ha hb).1 k) ((one hb ha).1 l),fun a ha b hb c hc k l=>(one ha hc).2 (M.trans a ha b hb c hc ((one ha hb).1 k) ((one hb hc).1 l))⟩
 ·unfold madeU
  rw [getD_map_range _ _ ha]
  simp
 ·rw [rdN_made U ha hb]
  split
  ·exact .inr rfl
  ·exact .inl rfl
theorem isMeet (M:Mdl n U ng m j z) {a b:Nat} (ha:a<n) (hb:b<n):IsMeet (madeU n U) a b (m a b):=by
 unfold IsMeet
 rw [madeU_len]
 have q:=M.hm a ha b hb
 exact ⟨q,(one q ha).2 (M.ml a ha b hb),(one q hb).2 (M.mr a ha b hb),fun d hd k l=>(one hd q).2 (M.mg a ha b hb d hd ((one hd ha).1 k) ((one hd hb).1 l))⟩
theorem isJoin (M:Mdl n U ng m j z) {a b:Nat} (ha:a<n) (hb:b<n):IsJoin (madeU n U) a b (j a b):=by
 unfold IsJoin
 rw [madeU_len]
 have q:=M.hj a ha b hb
 exact ⟨q,(one ha q).2 (M.jl a ha b hb),(one hb q).2 (M.jr a ha b hb),fun d hd k l=>(one q hd).2 (M.jg a ha b hb d hd ((one ha hd).1 k) ((one hb hd).1 l))⟩
theorem mI (M:Mdl n U ng m j z) {a b:Nat} (ha:a<n) (hb:b<n):meetI (madeU n U) a b=m a b:=meetI_of M.ord (M.isMeet ha hb)
theorem lI (M:Mdl n U ng m j z):leastI (madeU n U)=z:=leastI_of M.ord (by rw [madeU_len];exact M.hz) (fun b hb=>by
 rw [madeU_len] at hb
 exact (one M.hz hb).2 (M.bot b hb))
theorem ol (M:Mdl n U ng m j z) (hN : ∀ a,a<n→N a=(ng a:Int)):P.OL (madeU n U) (madeN n N):=by
 refine ⟨lat_of M.ord (fun a ha b hb=>?_) (fun a ha b hb=>?_),by rw [madeU_len,madeN_len],fun c hc=>?_,fun c hc d hd k=>?_⟩
 ·rw [madeU_len] at ha hb
  exact ⟨_,M.isMeet ha hb⟩
 ·rw [madeU_len] at ha hb
  exact ⟨_,M.isJoin ha hb⟩
 ·rw [madeU_len] at hc
  have q:=M.hng c hc
  unfold OppAt
  rw [rd_made N hc,hN c hc,rd_made N q,hN _ q,M.nn c hc,madeU_len,Int.toNat_natCast,M.mI hc q,M.mn c hc,M.lI]
  exact ⟨by omega,rfl,rfl⟩
 ·rw [madeU_len] at hc hd
  have q:=M.hng c hc
  have q2:=M.hng d hd
  rw [rd_made N hc,hN c hc,rd_made N hd,hN d hd,Int.toNat_natCast,Int.toNat_natCast]
  exact (one q2 q).2 (M.na c hc d hd ((one hc hd).1 k))
end Mdl
def aN (l:List Int) (i:Nat):Nat:=(l.getD i 0).toNat
def pN (l:List Int) (a:Int):Nat:=placeN l a
structure Sb (u:List (List Int)) (nt l:List Int):Prop where
 nd:l.Nodup
 mem : ∀ x∈l,0≤x∧x<(u.length:Int)
 ng : ∀ x∈l,rd nt x∈l
 mt : ∀ x∈l,∀ y∈l,P.mt u x y∈l
 jn : ∀ x∈l,∀ y∈l,P.jn u x y∈l
 no:leastI u∈l
section
variable {u:List (List Int)} {nt l:List Int}
theorem Sb.lt (s:Sb u nt l) {i:Nat} (hi:i<l.length):aN l i<u.length:=by have:=s.mem _ (getD_mem hi);unfold aN;omega
theorem Sb.cast (s:Sb u nt l) {i:Nat} (hi:i<l.length):(aN l i:Int)=l.getD i 0:=by have:=s.mem _ (getD_mem hi);unfold aN;omega
theorem Sb.in_ (s:Sb u nt l) {i:Nat} (hi:i<l.length):(aN l i:Int)∈l:=by rw [s.cast hi];exact getD_mem hi
theorem pN_lt {x:Int} (h:x∈l):pN l x<l.length:=List.idxOf_lt_length_iff.2 h
theorem getD_pN {x:Int} (h:x∈l):l.getD (pN l x) 0=x:=by
 rw [getD_get (pN_lt h)]
 exact List.getElem_idxOf (pN_lt h)
theorem Sb.aN_pN (s:Sb u nt l) {x:Int} (h:x∈l):(aN l (pN l x):Int)=x:=by rw [s.cast (pN_lt h),getD_pN h]
theorem Sb.le12 (h:P.OL u nt) (s:Sb u nt l):l.length≤12:=by
 have:=nodup_sub_len l (castL (List.range u.length)) s.nd (fun x hx=>range_mem.2 (s.mem x hx))
 rw [range_len] at this
 exact Nat.le_trans this h.1.1.le12
theorem Sb.at (s:Sb u nt l) {x:Int} {c:Nat} (h:x∈l) (e:x=(c:Int)):aN l (pN l x)=c:=by
 have:=s.aN_pN h
 omega
end
theorem same_made {n:Nat} (h:n≤200) (U:Nat→Nat→Bool) (N:Nat→Int):Ev (fun k=>laws_sameLogic.f k (madeU n U) (madeN n N) (madeU n U) (madeN n N)) true:=by
 unfold laws_sameLogic.f
 exact Ev.bind (sameRows_ev _ (by rw [madeU_len];omega) (fun i k=>by simp [madeU];omega)) (Ev.pos rfl (Ev.bind (sameInts_ev _ (by rw [madeN_len];omega)) (Ev.ret rfl)))
theorem same_nil:Ev (fun k=>laws_sameLogic.f k [] [] [] []) true:=Ev.clos 1500 (fun k=>by kernel_rfl)
section
variable {u:List (List Int)} {nt:List Int}
end
theorem Ev.det {α:Type} {f:Nat→Option α} {a b:α} (n:Nat) (h:Ev f a) (k : ∀ m,f (m+n)=some b):a=b:=by
 obtain ⟨K,hK⟩:=h
 have h1:=hK (K+n) (by omega)
 rw [k K] at h1
 exact (Option.some.inj h1).symm
theorem sets_logic1:logicF (setsF 1).1 (setsF 1).2.1=true:=Ev.det 1500 (spec_logic_ev _ _) (fun m=>by kernel_rfl)
set_option linter.unusedVariables false
section
variable {u v:List (List Int)} {nt mtt:List Int}
theorem inn_mem {x:Int}:x∈innerL u nt↔(0≤x∧x<(u.length:Int))∧x≠leastI u∧x≠rd nt (leastI u):=by
 unfold innerL castL
 simp only [List.mem_map,List.mem_filter,List.mem_range,decide_eq_true_iff]
 constructor
 ·rintro ⟨a,⟨h1,h2,h3⟩,rfl⟩
  exact ⟨⟨by omega,by omega⟩,h2,h3⟩
 ·rintro ⟨⟨h0,h1⟩,h2,h3⟩
  refine ⟨x.toNat,⟨by omega,?_,?_⟩,by omega⟩
  ·rw [Int.toNat_of_nonneg h0];exact h2
  ·rw [Int.toNat_of_nonneg h0];exact h3
theorem ng_ng (h:P.OL u nt) {x:Int} (k:0≤x∧x<(u.length:Int)):rd nt (rd nt x)=x:=by
 have:=(h.2.2.1 x.toNat (by omega)).2.1
 rw [Int.toNat_of_nonneg k.1] at this
 exact this
theorem inn_ng (h:P.OL u nt) {x:Int} (k:x∈innerL u nt):rd nt x∈innerL u nt:=by
 obtain ⟨k0,k1,k2⟩:=inn_mem.1 k
 have q:=ng_in h k0
 have z:=no_in h
 refine inn_mem.2 ⟨q,fun e=>k2 ?_,fun e=>k1 ?_⟩
 ·rw [← e,ng_ng h k0]
 ·rw [← ng_ng h k0,e,ng_ng h z]
theorem no_yes (h:P.OL u nt) (h2:2≤u.length):leastI u≠rd nt (leastI u):=by
 intro e
 obtain ⟨z,ez,hz,least⟩:=h.1.least
 have key : ∀ a:Nat,a<u.length→a=z:=by
  intro a ha
  have q:=(h.2.2.1 a ha)
  have r:=h.2.2.2 z hz a ha (least a ha)
  rw [← ez,← e,ez,Int.toNat_natCast] at r
  obtain ⟨n,en⟩:=Int.eq_ofNat_of_zero_le q.1.1
  have hn:n<u.length:=by have:=q.1.2;omega
  rw [en] at r
  have r2:rdN u n z=1:=r
  have:=h.1.1.anti hn hz r2 (least n hn)
  have e3:=q.2.1
  rw [en,show ((n:Nat):Int)=leastI u by rw [this,ez],← e,ez] at e3
  have:z=a:=by
   have:((z:Nat):Int)=(a:Int):=e3
   omega
  exact this.symm
 have a0:=key 0 (by omega)
 have a1:=key 1 (by omega)
 omega
theorem inn_nodup:(innerL u nt).Nodup:=by
 unfold innerL castL List.Nodup
 rw [List.pairwise_map]
 refine List.Pairwise.imp ?_ (List.Pairwise.filter _ (List.nodup_range (n:=u.length)))
 intro a b h e
 exact h (Int.ofNat.inj e)
theorem inn_len (h:P.OL u nt) (h2:2≤u.length):(innerL u nt).length+2=u.length:=by
 have z:=no_in h
 have y:=ng_in h z
 have ne:=no_yes h h2
 have a:=nodup_sub_len (leastI u::rd nt (leastI u)::innerL u nt) (castL (List.range u.length)) (by
  simp only [List.nodup_cons,List.mem_cons,not_or]
  exact ⟨⟨ne,fun k=>(inn_mem.1 k).2.1 rfl⟩,fun k=>(inn_mem.1 k).2.2 rfl,inn_nodup⟩) (fun x hx=>by
  rcases List.mem_cons.1 hx with e|hx
  ·rw [e];exact range_mem.2 z
  ·rcases List.mem_cons.1 hx with e|hx
   ·rw [e];exact range_mem.2 y
   ·exact range_mem.2 (inn_mem.1 hx).1)
 have b:=nodup_sub_len (castL (List.range u.length)) (leastI u::rd nt (leastI u)::innerL u nt) (range_nodup _) (fun x hx=>by
  have k:=range_mem.1 hx
  by_cases e1:x=leastI u
  ·exact List.mem_cons.2 (.inl e1)
  ·by_cases e2:x=rd nt (leastI u)
   ·exact List.mem_cons_of_mem _ (List.mem_cons.2 (.inl e2))
   ·exact List.mem_cons_of_mem _ (List.mem_cons_of_mem _ (inn_mem.2 ⟨k,e1,e2⟩)))
 rw [range_len] at a b
 simp only [List.length_cons] at a b
 omega
def midL (u:List (List Int)) (nt:List Int) (v:List (List Int)) (mtt:List Int):List (Nat × Int):=((innerL u nt).map fun k=>(1,k))++((innerL v mtt).map fun k=>(2,k))
theorem glue_eq (u:List (List Int)) (nt:List Int) (v:List (List Int)) (mtt:List Int):glueL u nt v mtt=(0,0)::(midL u nt v mtt ++ [(0,0)]):=by
 unfold glueL midL
 simp
theorem mids_len (u:List (List Int)) (nt:List Int) (v:List (List Int)) (mtt:List Int):(midL u nt v mtt).length=(innerL u nt).length+(innerL v mtt).length:=by simp [midL]
theorem glue_len (u:List (List Int)) (nt:List Int) (v:List (List Int)) (mtt:List Int):(glueL u nt v mtt).length=(innerL u nt).length+(innerL v mtt).length+2:=by
 rw [glue_eq,List.length_cons,List.length_append,mids_len]
 rfl
theorem glue_n (h1:P.OL u nt) (h2:P.OL v mtt) (k1:2≤u.length) (k2:2≤v.length):(glueL u nt v mtt).length=u.length+v.length-2:=by
 have a:=inn_len h1 k1
 have b:=inn_len h2 k2
 rw [glue_len]
 omega
theorem glue_mid {i:Nat} (h0:0<i) (h1:i<(glueL u nt v mtt).length-1):(glueL u nt v mtt).getD i (0,0)∈midL u nt v mtt:=by
 rw [glue_len] at h1
 rw [glue_eq]
 obtain ⟨j,rfl⟩ : ∃ j,i=j+1:=⟨i-1,by omega⟩
 have hj:j<(midL u nt v mtt).length:=by rw [mids_len];omega
 rw [List.getD_cons_succ,List.getD_eq_getElem?_getD,List.getElem?_append_left hj,List.getElem?_eq_getElem hj,Option.getD_some]
 exact List.getElem_mem hj
theorem glue_0:(glueL u nt v mtt).getD 0 (0,0)=(0,0):=by
 rw [glue_eq]
 rfl
theorem glue_last:(glueL u nt v mtt).getD ((glueL u nt v mtt).length-1) (0,0)=(0,0):=by
 have e:(glueL u nt v mtt).length-1=(midL u nt v mtt).length+1:=by rw [glue_len,mids_len];omega
 rw [e,glue_eq,List.getD_cons_succ,List.getD_eq_getElem?_getD,List.getElem?_append_right (Nat.le_refl _),Nat.sub_self]
 rfl
theorem mids_mem {p:Nat × Int}:p∈midL u nt v mtt↔(p.1=1∧p.2∈innerL u nt)∨(p.1=2∧p.2∈innerL v mtt):=by
 obtain ⟨a,x⟩:=p
 unfold midL
 simp only [List.mem_append,List.mem_map,Prod.mk.injEq]
 constructor
 ·rintro (⟨y,hy,rfl,rfl⟩|⟨y,hy,rfl,rfl⟩)
  ·exact .inl ⟨rfl,hy⟩
  ·exact .inr ⟨rfl,hy⟩
 ·rintro (⟨rfl,h⟩|⟨rfl,h⟩)
  ·exact .inl ⟨x,h,rfl,rfl⟩
  ·exact .inr ⟨x,h,rfl,rfl⟩
theorem glue_has {p:Nat × Int} (h:p∈midL u nt v mtt):p∈glueL u nt v mtt:=by
 rw [glue_eq]
 exact List.mem_cons_of_mem _ (List.mem_append.2 (.inl h))
theorem glue_in {i:Nat} (h:i<(glueL u nt v mtt).length):(i=0∧(glueL u nt v mtt).getD i (0,0)=(0,0))∨(i=(glueL u nt v mtt).length-1∧(glueL u nt v mtt).getD i (0,0)=(0,0))∨(0<i∧i<(glueL u nt v mtt).length-1∧(glueL u nt v mtt).getD i (0,0)∈midL u nt v mtt):=by
 by_cases e:i=0
 ·subst e;exact .inl ⟨rfl,glue_0⟩
 ·by_cases e2:i=(glueL u nt v mtt).length-1
  ·refine .inr (.inl ⟨e2,?_⟩)
   rw [e2]
   exact glue_last
  ·exact .inr (.inr ⟨by omega,by omega,glue_mid (by omega) (by omega)⟩)
end
theorem idx_at {α:Type} [BEq α] [LawfulBEq α] {l:List α} {x d:α} (h:x∈l):l.idxOf x<l.length∧l.getD (l.idxOf x) d=x:=by
 have hl:=List.idxOf_lt_length_iff.2 h
 exact ⟨hl,by rw [List.getD_eq_getElem?_getD,List.getElem?_eq_getElem hl,Option.getD_some];exact List.getElem_idxOf hl⟩
theorem idx_first {α:Type} [BEq α] [LawfulBEq α] {l:List α} {x d:α} {j:Nat} (hj:j<l.idxOf x):l.getD j d≠x:=by
 have hl:j<l.length:=Nat.lt_of_lt_of_le hj List.idxOf_le_length
 rw [List.getD_eq_getElem?_getD,List.getElem?_eq_getElem hl,Option.getD_some]
 intro e
 have h1:l.idxOf x=l.findIdx (· == x):=rfl
 rw [h1] at hj
 have:=List.not_of_lt_findIdx hj
 rw [e] at this
 simp at this
def innS (u:List (List Int)) (nt:List Int) (k:Nat):List Int:=castL ((List.range k).filter fun a=>decide ((a:Int)≠noF u nt∧(a:Int)≠yesF u nt))
theorem innS_len (u:List (List Int)) (nt:List Int) (k:Nat):(innS u nt k).length≤k:=by
 unfold innS castL
 rw [List.length_map]
 exact Nat.le_trans (List.length_filter_le _ _) (by rw [List.length_range];exact Nat.le_refl _)
theorem innS_yes {u:List (List Int)} {nt:List Int} {k:Nat} (h1:(k:Int)≠noF u nt) (h2:(k:Int)≠yesF u nt):innS u nt (k+1)=innS u nt k ++ [(k:Int)]:=by
 unfold innS castL
 rw [List.range_succ,List.filter_append,List.map_append]
 simp [h1,h2]
theorem innS_no {u:List (List Int)} {nt:List Int} {k:Nat} (h:(k:Int)=noF u nt∨(k:Int)=yesF u nt):innS u nt (k+1)=innS u nt k:=by
 unfold innS castL
 rw [List.range_succ,List.filter_append,List.map_append]
 have:decide ((k:Int)≠noF u nt∧(k:Int)≠yesF u nt)=false:=decide_eq_false (fun q=>h.elim q.1 q.2)
 simp only [List.filter_cons,this,List.filter_nil]
 simp
theorem innS_ol {u:List (List Int)} {nt:List Int} (h:P.OL u nt):innS u nt nt.length=innerL u nt:=by
 have e1:noF u nt=leastI u:=if_pos h
 have e2:yesF u nt=rd nt (leastI u):=if_pos h
 unfold innS innerL
 rw [h.2.1,e1,e2]
theorem inner_ev (u:List (List Int)) (nt:List Int) (hn:nt.length≤1048576):Ev (fun k=>spec_l3Inner.f k u nt) (innS u nt nt.length):=by
 unfold spec_l3Inner.f
 have key:=down nt.length (fun i=>Ev (fun k=>spec_l3Inner.l0 k (innS u nt i) i u nt) (innS u nt nt.length)) ?_ ?_ 0 (Nat.zero_le _)
 ·exact key
 ·exact Ev.step (fun k=>spec_l3Inner.l0.eq_2 ..) (Ev.neg (by omega) (Ev.ret rfl))
 ·intro i hi ih
  refine Ev.step (fun k=>spec_l3Inner.l0.eq_2 ..) (Ev.pos (by omega) (Ev.bind (no_ev u nt) ?_))
  rw [wrap_succ i (by omega)]
  by_cases e1:(i:Int)=noF u nt
  ·refine Ev.pos e1 ?_
   rw [← innS_no (.inl e1)]
   exact ih
  ·refine Ev.neg e1 (Ev.bind (yes_ev u nt) ?_)
   by_cases e2:(i:Int)=yesF u nt
   ·refine Ev.pos e2 ?_
    rw [← innS_no (.inr e2)]
    exact ih
   ·have:=innS_len u nt i
    refine Ev.neg e2 (Ev.pos (by omega) ?_)
    rw [← innS_yes e1 e2]
    exact ih
section
variable {u v:List (List Int)} {nt mtt:List Int}
theorem glue_left {i:Nat} (h1:1≤i) (h2:i≤(innerL u nt).length):(glueL u nt v mtt).getD i (0,0)=(1,(innerL u nt).getD (i-1) 0):=by
 obtain ⟨j,rfl⟩ : ∃ j,i=j+1:=⟨i-1,by omega⟩
 have hj:j<(innerL u nt).length:=by omega
 rw [glue_eq,List.getD_cons_succ,List.getD_eq_getElem?_getD,List.getElem?_append_left (by rw [mids_len];omega)]
 unfold midL
 rw [List.getElem?_append_left (by rw [List.length_map];exact hj),List.getElem?_map,List.getElem?_eq_getElem hj,Nat.add_sub_cancel,List.getD_eq_getElem?_getD,List.getElem?_eq_getElem hj]
 rfl
theorem glue_right {i:Nat} (h1:(innerL u nt).length+1≤i) (h2:i≤(innerL u nt).length+(innerL v mtt).length):(glueL u nt v mtt).getD i (0,0)=(2,(innerL v mtt).getD (i-(innerL u nt).length-1) 0):=by
 obtain ⟨j,rfl⟩ : ∃ j,i=j+1:=⟨i-1,by omega⟩
 have hj:j-(innerL u nt).length<(innerL v mtt).length:=by omega
 rw [glue_eq,List.getD_cons_succ,List.getD_eq_getElem?_getD,List.getElem?_append_left (by rw [mids_len];omega)]
 unfold midL
 rw [List.getElem?_append_right (by rw [List.length_map];omega),List.length_map,List.getElem?_map,List.getElem?_eq_getElem hj,show j+1-(innerL u nt).length-1=j-(innerL u nt).length by omega,List.getD_eq_getElem?_getD,List.getElem?_eq_getElem hj]
 rfl
theorem mids_nodup:(midL u nt v mtt).Nodup:=by
 unfold midL
 rw [List.nodup_append]
 refine ⟨?_,?_,?_⟩
 ·unfold List.Nodup
  rw [List.pairwise_map]
  exact List.Pairwise.imp (fun {a b} h e=>h (by injection e)) (inn_nodup (u:=u) (nt:=nt))
 ·unfold List.Nodup
  rw [List.pairwise_map]
  exact List.Pairwise.imp (fun {a b} h e=>h (by injection e)) (inn_nodup (u:=v) (nt:=mtt))
 ·intro a ha b hb e
  obtain ⟨x,_,rfl⟩:=List.mem_map.1 ha
  obtain ⟨y,_,rfl⟩:=List.mem_map.1 hb
  injection e with e1 _
  cases e1
theorem glue_inj {c d:Nat} (c0:0<c) (c1:c<(glueL u nt v mtt).length-1) (d0:0<d) (d1:d<(glueL u nt v mtt).length-1) (e:(glueL u nt v mtt).getD c (0,0)=(glueL u nt v mtt).getD d (0,0)):c=d:=by
 rw [glue_len] at c1 d1
 obtain ⟨c,rfl⟩ : ∃ j,c=j+1:=⟨c-1,by omega⟩
 obtain ⟨d,rfl⟩ : ∃ j,d=j+1:=⟨d-1,by omega⟩
 have hc:c<(midL u nt v mtt).length:=by rw [mids_len];omega
 have hd:d<(midL u nt v mtt).length:=by rw [mids_len];omega
 rw [glue_eq,List.getD_cons_succ,List.getD_cons_succ,List.getD_eq_getElem?_getD,List.getD_eq_getElem?_getD,List.getElem?_append_left hc,List.getElem?_append_left hd,List.getElem?_eq_getElem hc,List.getElem?_eq_getElem hd,Option.getD_some,Option.getD_some] at e
 have key:=List.pairwise_iff_getElem.1 (mids_nodup (u:=u) (nt:=nt) (v:=v) (mtt:=mtt))
 by_cases q:c<d
 ·exact absurd e (key c d hc hd q)
 ·by_cases q2:d<c
  ·exact absurd e.symm (key d c hd hc q2)
  ·omega
end
def finG (u v:List (List Int)) (G:List (Nat × Int)) (i c:Nat):Int:=if glueB u v G i c=true then 1 else 0
theorem finG_t {u v:List (List Int)} {G:List (Nat × Int)} {i c n:Nat} (hn:G.length=n) (h:i=0∨c=n-1∨i=c):finG u v G i c=1:=by
 have e:glueB u v G i c=true:=by
  unfold glueB
  rw [hn]
  exact if_pos h
 unfold finG
 exact if_pos e
theorem finG_f {u v:List (List Int)} {G:List (Nat × Int)} {i c n:Nat} (hn:G.length=n) (h : ¬(i=0∨c=n-1∨i=c)) (h2:i=n-1∨c=0):finG u v G i c=0:=by
 have e:glueB u v G i c=false:=by
  unfold glueB
  rw [hn]
  exact (if_neg h).trans (if_pos h2)
 unfold finG
 rw [e]
 rfl
theorem finG_d {u v:List (List Int)} {G:List (Nat × Int)} {i c n:Nat} (hn:G.length=n) (h : ¬(i=0∨c=n-1∨i=c)) (h2 : ¬(i=n-1∨c=0)):finG u v G i c=if decide ((G.getD i (0,0)).1=(G.getD c (0,0)).1∧rdN (if (G.getD i (0,0)).1=1 then u else v) (G.getD i (0,0)).2.toNat (G.getD c (0,0)).2.toNat=1)=true then 1 else 0:=by
 have e:glueB u v G i c=decide ((G.getD i (0,0)).1=(G.getD c (0,0)).1∧rdN (if (G.getD i (0,0)).1=1 then u else v) (G.getD i (0,0)).2.toNat (G.getD c (0,0)).2.toNat=1):=by
  unfold glueB
  rw [hn]
  exact (if_neg h).trans (if_neg h2)
 unfold finG
 rw [e]
def iniG (n i c:Nat):Int:=if c=i∨c=n-1 then 1 else 0
def rowG (u v:List (List Int)) (G:List (Nat × Int)) (i j:Nat):List Int:=(List.range G.length).map fun c=>if c<j then finG u v G i c else iniG G.length i c
def nidx (nt mtt:List Int) (G:List (Nat × Int)) (i:Nat):Nat:=G.idxOf ((G.getD i (0,0)).1,rd (if (G.getD i (0,0)).1=1 then nt else mtt) (G.getD i (0,0)).2)
def notG (nt mtt:List Int) (G:List (Nat × Int)) (i j:Nat):Int:=if 0<i∧i<G.length-1∧nidx nt mtt G i<j then (nidx nt mtt G i:Int) else ((G.length-1-i:Nat):Int)
section
variable {u v:List (List Int)} {nt mtt:List Int} {G:List (Nat × Int)}
theorem rowG_len (i j:Nat):(rowG u v G i j).length=G.length:=by simp [rowG]
theorem rowG_zero {i:Nat} (hi:i<G.length):rowG u v G i 0=((List.replicate G.length 0).set i 1).set (G.length-1) 1:=by
 refine List.ext_getElem (by simp [rowG]) (fun c h1 h2=>?_)
 simp only [rowG,List.getElem_map,List.getElem_range,List.getElem_set,List.getElem_replicate]
 rw [if_neg (Nat.not_lt_zero _)]
 unfold iniG
 by_cases a:G.length-1=c
 ·rw [if_pos a,if_pos (.inr a.symm)]
 ·rw [if_neg a]
  by_cases b:i=c
  ·rw [if_pos b,if_pos (.inl b.symm)]
  ·rw [if_neg b,if_neg (fun q=>q.elim (fun e=>b e.symm) (fun e=>a e.symm))]
theorem rowG_set {i c:Nat} (hc:c<G.length):(rowG u v G i c).set c (finG u v G i c)=rowG u v G i (c+1):=by
 refine List.ext_getElem (by simp [rowG]) (fun d h1 h2=>?_)
 simp only [rowG,List.getElem_map,List.getElem_range,List.getElem_set]
 by_cases a:c=d
 ·subst a
  rw [if_pos rfl,if_pos (by omega)]
 ·rw [if_neg a]
  by_cases b:d<c
  ·rw [if_pos b,if_pos (by omega)]
  ·rw [if_neg b,if_neg (by omega)]
theorem rowG_same {i c:Nat} (h:finG u v G i c=iniG G.length i c):rowG u v G i c=rowG u v G i (c+1):=by
 unfold rowG
 refine List.map_congr_left (fun d hd=>?_)
 by_cases a:d=c
 ·subst a
  rw [if_neg (by omega),if_pos (by omega),h]
 ·by_cases b:d<c
  ·rw [if_pos b,if_pos (by omega)]
  ·rw [if_neg b,if_neg (by omega)]
theorem notG_zero (i:Nat):notG nt mtt G i 0=((G.length-1-i:Nat):Int):=if_neg (fun q=>Nat.not_lt_zero _ q.2.2)
theorem notG_same {i c:Nat} (h:0<i→i<G.length-1→nidx nt mtt G i≠c):notG nt mtt G i (c+1)=notG nt mtt G i c:=by
 unfold notG
 by_cases a:0<i∧i<G.length-1∧nidx nt mtt G i<c
 ·rw [if_pos a,if_pos ⟨a.1,a.2.1,by omega⟩]
 ·rw [if_neg a,if_neg (fun q=>a ⟨q.1,q.2.1,by have:=h q.1 q.2.1;omega⟩)]
theorem notG_hit {i c:Nat} (h1:0<i) (h2:i<G.length-1) (h:nidx nt mtt G i=c):notG nt mtt G i (c+1)=(c:Int):=by
 unfold notG
 rw [if_pos ⟨h1,h2,by omega⟩,h]
end
def rowsG (u v:List (List Int)) (G:List (Nat × Int)) (i:Nat):List (List Int):=(List.range i).map fun a=>rowG u v G a G.length
def notsG (nt mtt:List Int) (G:List (Nat × Int)) (i:Nat):List Int:=(List.range i).map fun a=>notG nt mtt G a G.length
theorem rowsG_len (u v:List (List Int)) (G:List (Nat × Int)) (i:Nat):(rowsG u v G i).length=i:=by simp [rowsG]
theorem notsG_len (nt mtt:List Int) (G:List (Nat × Int)) (i:Nat):(notsG nt mtt G i).length=i:=by simp [notsG]
theorem rowsG_succ (u v:List (List Int)) (G:List (Nat × Int)) (i:Nat):rowsG u v G (i+1)=rowsG u v G i ++ [rowG u v G i G.length]:=by simp [rowsG,List.range_succ]
theorem notsG_succ (nt mtt:List Int) (G:List (Nat × Int)) (i:Nat):notsG nt mtt G (i+1)=notsG nt mtt G i ++ [notG nt mtt G i G.length]:=by simp [notsG,List.range_succ]
theorem rowsG_all (u v:List (List Int)) (G:List (Nat × Int)):rowsG u v G G.length=madeU G.length (glueB u v G):=by
 unfold rowsG madeU
 refine List.map_congr_left (fun a ha=>?_)
 unfold rowG
 refine List.map_congr_left (fun c hc=>?_)
 rw [if_pos (List.mem_range.1 hc)]
 rfl
structure GlS (u:List (List Int)) (nt:List Int) (v:List (List Int)) (mtt:List Int) (n:Nat):Prop where
 h1:P.OL u nt
 h2:P.OL v mtt
 hn:(glueL u nt v mtt).length=n
 h12:n≤12
namespace GlS
variable {u v:List (List Int)} {nt mtt:List Int} {n:Nat}
theorem ab (S:GlS u nt v mtt n):n=(innerL u nt).length+(innerL v mtt).length+2:=by rw [← S.hn,glue_len]
theorem at_inn {u:List (List Int)} {nt:List Int} {j:Nat} (h:j<(innerL u nt).length) : ∃ X:Nat,(innerL u nt).getD j 0=(X:Int)∧X<u.length∧(X:Int)∈innerL u nt:=by
 have hm:=getD_mem h
 obtain ⟨⟨h0,h1⟩,_⟩:=inn_mem.1 hm
 obtain ⟨X,e⟩:=Int.eq_ofNat_of_zero_le h0
 rw [e] at hm h1
 exact ⟨X,e,by omega,hm⟩
theorem opp (S:GlS u nt v mtt n) {i t:Nat} {x:Int} (hg:(glueL u nt v mtt).getD i (0,0)=(t,x)) (ht:t≠0) (hin:(t,rd (if t=1 then nt else mtt) x)∈glueL u nt v mtt) {c:Nat} {y:Int} (hgc:(glueL u nt v mtt).getD c (0,0)=(t,y)) (hc0:0<c) (hc1:c<n-1) :
    rd (if t=1 then nt else mtt) x=y↔nidx nt mtt (glueL u nt v mtt) i=c:=by
  have hn:=S.hn
  have e:nidx nt mtt (glueL u nt v mtt) i=(glueL u nt v mtt).idxOf (t,rd (if t=1 then nt else mtt) x):=by unfold nidx;rw [hg]
  obtain ⟨m1,m2⟩:=idx_at (d:=(0,0)) hin
  rw [← e] at m1 m2
  constructor
  · intro q
    rw [q] at m2
    rcases glue_in m1 with ⟨_,k⟩|⟨_,k⟩|⟨k0,k1,_⟩
    · rw [m2] at k;injection k with k;exact absurd k ht
    · rw [m2] at k;injection k with k;exact absurd k ht
    · exact glue_inj k0 k1 hc0 (by rw [hn];exact hc1) (m2.trans hgc.symm)
  · intro q
    rw [q,hgc] at m2
    injection m2 with _ m2
    exact m2.symm
theorem opp_not (S:GlS u nt v mtt n) {i t:Nat} {x:Int} (hg:(glueL u nt v mtt).getD i (0,0)=(t,x)) (hin:(t,rd (if t=1 then nt else mtt) x)∈glueL u nt v mtt) {c:Nat} (hc:((glueL u nt v mtt).getD c (0,0)).1≠t):nidx nt mtt (glueL u nt v mtt) i≠c:=by
 intro q
 have e:nidx nt mtt (glueL u nt v mtt) i=(glueL u nt v mtt).idxOf (t,rd (if t=1 then nt else mtt) x):=by unfold nidx;rw [hg]
 obtain ⟨m1,m2⟩:=idx_at (d:=(0,0)) hin
 rw [← e,q] at m2
 rw [m2] at hc
 exact hc rfl
theorem fin_out (S:GlS u nt v mtt n) {i c:Nat} (hi0:0<i) (hi1:i<n-1) (hc:c<n) (ht:((glueL u nt v mtt).getD c (0,0)).1≠((glueL u nt v mtt).getD i (0,0)).1):finG u v (glueL u nt v mtt) i c=iniG n i c:=by
 have hn:=S.hn
 by_cases a:c=n-1
 ·rw [finG_t hn (.inr (.inl a))]
  unfold iniG
  rw [if_pos (.inr a)]
 ·have b : ¬i=c:=fun e=>ht (by rw [e])
  have e0:iniG n i c=0:=if_neg (by omega)
  rw [e0]
  by_cases d:i=n-1∨c=0
  ·exact finG_f hn (by omega) d
  ·rw [finG_d hn (by omega) d,decide_eq_false (fun q=>ht q.1.symm)];rfl
theorem fin_in (S:GlS u nt v mtt n) {i c t X Y:Nat} (w:List (List Int)) (hw:Ord w) (hi0:0<i) (hi1:i<n-1) (hc0:0<c) (hc1:c<n-1) (gi:(glueL u nt v mtt).getD i (0,0)=(t,(X:Int))) (gc:(glueL u nt v mtt).getD c (0,0)=(t,(Y:Int))) (ew:(if t=1 then u else v)=w) (hX:X<w.length) (hY:Y<w.length):finG u v (glueL u nt v mtt) i c=rdN w X Y:=by
 have hn:=S.hn
 by_cases b:i=c
 ·subst b
  rw [gi] at gc
  injection gc with _ gc
  have:X=Y:=by omega
  subst this
  rw [finG_t hn (.inr (.inr rfl)),hw.refl hX]
 ·rw [finG_d hn (by omega) (by omega),gi,gc]
  show (if decide (t=t∧rdN (if t=1 then u else v) (Int.toNat (X:Int)) (Int.toNat (Y:Int))=1)=true then (1:Int) else 0)=_
  rw [ew,Int.toNat_natCast,Int.toNat_natCast]
  rcases hw.bit hX hY with q|q
  ·rw [q];simp
  ·rw [q];simp
theorem in_ (S:GlS u nt v mtt n) {i c t X Y:Nat} {uu:List (List Int)} {ntt:List Int} (gi:(glueL u nt v mtt).getD i (0,0)=(t,(X:Int))) (gc:(glueL u nt v mtt).getD c (0,0)=(t,(Y:Int))) (hi0:0<i) (hi1:i<n-1) (hc0:0<c) (hc1:c<n-1) (hX:X<uu.length) (hY:Y<uu.length)
    (ew:(if t=1 then u else v)=uu) (en:(if t=1 then nt else mtt)=ntt) (hw:Ord uu) (ht:t≠0) (hin:(t,rd ntt (X:Int))∈glueL u nt v mtt) :
    (rowG u v (glueL u nt v mtt) i c).set c (rdN uu X Y)=rowG u v (glueL u nt v mtt) i (c+1)∧(rd ntt (X:Int)=(Y:Int)→notG nt mtt (glueL u nt v mtt) i (c+1)=(c:Int))∧(¬rd ntt (X:Int)=(Y:Int)→notG nt mtt (glueL u nt v mtt) i (c+1)=notG nt mtt (glueL u nt v mtt) i c):=by
  have hn:=S.hn
  subst en
  have op:=S.opp gi ht hin gc hc0 hc1
  refine ⟨?_,fun e=>notG_hit hi0 (by rw [hn];exact hi1) (op.1 e),fun e=>notG_same (fun _ _ k=>e (op.2 k))⟩
  rw [← S.fin_in uu hw hi0 hi1 hc0 hc1 gi gc ew hX hY]
  exact rowG_set (by rw [hn];omega)
theorem out_ (S:GlS u nt v mtt n) {i c t X:Nat} {ntt:List Int} (gi:(glueL u nt v mtt).getD i (0,0)=(t,(X:Int))) (hi0:0<i) (hi1:i<n-1) (hc:c<n) (en:(if t=1 then nt else mtt)=ntt) (hin:(t,rd ntt (X:Int))∈glueL u nt v mtt) (gt:((glueL u nt v mtt).getD c (0,0)).1≠t) :
    rowG u v (glueL u nt v mtt) i c=rowG u v (glueL u nt v mtt) i (c+1)∧notG nt mtt (glueL u nt v mtt) i (c+1)=notG nt mtt (glueL u nt v mtt) i c:=by
  subst en
  exact ⟨rowG_same (by rw [S.hn];exact S.fin_out hi0 hi1 hc (by rw [gi];exact gt)),notG_same (fun _ _=>S.opp_not gi hin gt)⟩
variable {FA FB:List Int}
theorem left (S:GlS u nt v mtt n) (eA:FA=innerL u nt) {i:Nat} (h1:1≤i) (h2:i≤FA.length) : ∃ X:Nat,FA.getD (i-1) 0=(X:Int)∧X<u.length∧(1,rd nt (X:Int))∈glueL u nt v mtt∧(glueL u nt v mtt).getD i (0,0)=(1,(X:Int)):=by
 subst eA
 have gi:=glue_left (v:=v) (mtt:=mtt) h1 h2
 obtain ⟨X,eX,hX,mX⟩:=at_inn (u:=u) (nt:=nt) (j:=i-1) (by omega)
 rw [eX] at gi
 exact ⟨X,eX,hX,glue_has (mids_mem.2 (.inl ⟨rfl,inn_ng S.h1 mX⟩)),gi⟩
theorem right (S:GlS u nt v mtt n) (eA:FA=innerL u nt) (eB:FB=innerL v mtt) {i:Nat} (h1:FA.length+1≤i) (h2:i≤FA.length+FB.length) : ∃ X:Nat,FB.getD (i-FA.length-1) 0=(X:Int)∧X<v.length∧(2,rd mtt (X:Int))∈glueL u nt v mtt∧(glueL u nt v mtt).getD i (0,0)=(2,(X:Int)):=by
 subst eA
 subst eB
 have gi:=glue_right (u:=u) (nt:=nt) (v:=v) (mtt:=mtt) h1 h2
 obtain ⟨X,eX,hX,mX⟩:=at_inn (u:=v) (nt:=mtt) (j:=i-(innerL u nt).length-1) (by omega)
 rw [eX] at gi
 exact ⟨X,eX,hX,glue_has (mids_mem.2 (.inr ⟨rfl,inn_ng S.h2 mX⟩)),gi⟩
theorem nleft (S:GlS u nt v mtt n) (eA:FA=innerL u nt) {c:Nat} (hc:c<n) (h : ¬(1≤c∧c≤FA.length)):((glueL u nt v mtt).getD c (0,0)).1≠1:=by
 subst eA
 have q:=S.ab
 by_cases a:c=0
 ·rw [a,glue_0];decide
 ·by_cases b:c=n-1
  ·rw [b,← S.hn,glue_last];decide
  ·rw [glue_right (by omega) (by omega)];show 2≠1;decide
theorem nright (S:GlS u nt v mtt n) (eA:FA=innerL u nt) (eB:FB=innerL v mtt) {c:Nat} (hc:c<n) (h : ¬(FA.length+1≤c∧c≤FA.length+FB.length)):((glueL u nt v mtt).getD c (0,0)).1≠2:=by
 subst eA
 subst eB
 have q:=S.ab
 by_cases a:c=0
 ·rw [a,glue_0];decide
 ·by_cases b:c=n-1
  ·rw [b,← S.hn,glue_last];decide
  ·rw [glue_left (by omega) (by omega)];show 1≠2;decide
theorem top_ (S:GlS u nt v mtt n) {i c:Nat} (hi:i=0) (hc:c<n):(rowG u v (glueL u nt v mtt) i c).set c 1=rowG u v (glueL u nt v mtt) i (c+1)∧notG nt mtt (glueL u nt v mtt) i (c+1)=notG nt mtt (glueL u nt v mtt) i c:=by
 have e1:finG u v (glueL u nt v mtt) i c=1:=finG_t S.hn (.inl hi)
 refine ⟨?_,notG_same (fun k _=>by omega)⟩
 rw [← e1]
 exact rowG_set (by rw [S.hn];exact hc)
theorem bot_ (S:GlS u nt v mtt n) {i c:Nat} (h0:0<i) (hi:i=n-1):rowG u v (glueL u nt v mtt) i c=rowG u v (glueL u nt v mtt) i (c+1)∧notG nt mtt (glueL u nt v mtt) i (c+1)=notG nt mtt (glueL u nt v mtt) i c:=by
 have hn:=S.hn
 have e1:finG u v (glueL u nt v mtt) i c=iniG (glueL u nt v mtt).length i c:=by
  rw [hn]
  by_cases d:c=n-1
  ·rw [finG_t hn (.inr (.inl d))]
   unfold iniG
   rw [if_pos (.inr d)]
  ·rw [finG_f hn (by omega) (.inl hi)]
   unfold iniG
   rw [if_neg (by omega)]
 exact ⟨rowG_same e1,notG_same (fun _ k=>by rw [hn] at k;omega)⟩
theorem nots_ (S:GlS u nt v mtt n):notsG nt mtt (glueL u nt v mtt) (glueL u nt v mtt).length=madeN (glueL u nt v mtt).length (glueO nt mtt (glueL u nt v mtt)):=by
 have hn:=S.hn
 unfold notsG madeN
 refine List.map_congr_left (fun i hi=>?_)
 have hi:=List.mem_range.1 hi
 unfold notG glueO
 by_cases a:i=0∨i=(glueL u nt v mtt).length-1
 ·rw [if_pos a,if_neg (by omega)]
 ·rw [if_neg a]
  have hm:=glue_mid (u:=u) (nt:=nt) (v:=v) (mtt:=mtt) (i:=i) (by omega) (by omega)
  obtain ⟨⟨t,x⟩,e⟩ : ∃ p,(glueL u nt v mtt).getD i (0,0)=p:=⟨_,rfl⟩
  have hin:(t,rd (if t=1 then nt else mtt) x)∈glueL u nt v mtt:=by
   rw [e] at hm
   rcases mids_mem.1 hm with ⟨k1,k2⟩|⟨k1,k2⟩
   ·have k1:t=1:=k1
    subst k1
    exact glue_has (mids_mem.2 (.inl ⟨rfl,inn_ng S.h1 k2⟩))
   ·have k1:t=2:=k1
    subst k1
    exact glue_has (mids_mem.2 (.inr ⟨rfl,inn_ng S.h2 k2⟩))
  have hlt:=(idx_at (d:=(0,0)) hin).1
  have en:nidx nt mtt (glueL u nt v mtt) i=(glueL u nt v mtt).idxOf (t,rd (if t=1 then nt else mtt) x):=by unfold nidx;rw [e]
  rw [if_pos ⟨by omega,by omega,by rw [en];exact hlt⟩]
  rfl
end GlS
theorem Mdl.of_view {V:Type} {good:V→Prop} {vw:Nat→V} {ix:V→Nat} {N:Nat} (h12:N≤12) (z:V) {LE:V→V→Prop} {NG:V→V} {MT:V→V→V}
    (g1 : ∀ i,i<N→good (vw i)) (g2 : ∀ i,i<N→ix (vw i)=i) (g3 : ∀ x,good x→ix x<N∧vw (ix x)=x) {U:Nat→Nat→Bool} (hU : ∀ i,i<N→∀ k,k<N→(U i k=true↔LE (vw i) (vw k)))
    (gz:good z) (gn : ∀ x,good x→good (NG x)) (gm : ∀ x y,good x→good y→good (MT x y)) (refl : ∀ x,good x→LE x x) (anti : ∀ x y,good x→good y→LE x y→LE y x→x=y) (trans : ∀ x y w,good x→good y→good w→LE x y→LE y w→LE x w)
    (ml : ∀ x y,good x→good y→LE (MT x y) x) (mr : ∀ x y,good x→good y→LE (MT x y) y) (mg : ∀ x y w,good x→good y→good w→LE w x→LE w y→LE w (MT x y)) (bot : ∀ x,good x→LE z x)
    (nn : ∀ x,good x→NG (NG x)=x) (na : ∀ x y,good x→good y→LE x y→LE (NG y) (NG x)) (mn : ∀ x,good x→MT x (NG x)=z) :
    Mdl N U (fun i=>ix (NG (vw i))) (fun i k=>ix (MT (vw i) (vw k))) (fun i k=>ix (NG (MT (NG (vw i)) (NG (vw k))))) (ix z) where
  hz:=(g3 z gz).1
  h12:=h12
  hng a ha:=(g3 _ (gn _ (g1 a ha))).1
  hm a ha b hb:=(g3 _ (gm _ _ (g1 a ha) (g1 b hb))).1
  hj a ha b hb:=(g3 _ (gn _ (gm _ _ (gn _ (g1 a ha)) (gn _ (g1 b hb))))).1
  refl a ha:=(hU a ha a ha).2 (refl _ (g1 a ha))
  anti a ha b hb k l:=by rw [← g2 a ha,← g2 b hb,anti _ _ (g1 a ha) (g1 b hb) ((hU a ha b hb).1 k) ((hU b hb a ha).1 l)]
  trans a ha b hb c hc k l:=(hU a ha c hc).2 (trans _ _ _ (g1 a ha) (g1 b hb) (g1 c hc) ((hU a ha b hb).1 k) ((hU b hb c hc).1 l))
  ml a ha b hb:=by
    have q:=g3 _ (gm _ _ (g1 a ha) (g1 b hb))
    refine (hU _ q.1 a ha).2 ?_
    rw [q.2]
    exact ml _ _ (g1 a ha) (g1 b hb)
  mr a ha b hb:=by
    have q:=g3 _ (gm _ _ (g1 a ha) (g1 b hb))
    refine (hU _ q.1 b hb).2 ?_
    rw [q.2]
    exact mr _ _ (g1 a ha) (g1 b hb)
  mg a ha b hb c hc k l:=by
    have q:=g3 _ (gm _ _ (g1 a ha) (g1 b hb))
    refine (hU c hc _ q.1).2 ?_
    rw [q.2]
    exact mg _ _ _ (g1 a ha) (g1 b hb) (g1 c hc) ((hU c hc a ha).1 k) ((hU c hc b hb).1 l)
  jl a ha b hb:=by
    have m:=gm _ _ (gn _ (g1 a ha)) (gn _ (g1 b hb))
    have q:=g3 _ (gn _ m)
    refine (hU a ha _ q.1).2 ?_
    rw [q.2]
    have r:=na _ _ m (gn _ (g1 a ha)) (ml _ _ (gn _ (g1 a ha)) (gn _ (g1 b hb)))
    rw [nn _ (g1 a ha)] at r
    exact r
  jr a ha b hb:=by
    have m:=gm _ _ (gn _ (g1 a ha)) (gn _ (g1 b hb))
    have q:=g3 _ (gn _ m)
    refine (hU b hb _ q.1).2 ?_
    rw [q.2]
    have r:=na _ _ m (gn _ (g1 b hb)) (mr _ _ (gn _ (g1 a ha)) (gn _ (g1 b hb)))
    rw [nn _ (g1 b hb)] at r
    exact r
  jg a ha b hb c hc k l:=by
    have m:=gm _ _ (gn _ (g1 a ha)) (gn _ (g1 b hb))
    have q:=g3 _ (gn _ m)
    refine (hU _ q.1 c hc).2 ?_
    rw [q.2]
    have r:=mg _ _ _ (gn _ (g1 a ha)) (gn _ (g1 b hb)) (gn _ (g1 c hc)) (na _ _ (g1 a ha) (g1 c hc) ((hU a ha c hc).1 k)) (na _ _ (g1 b hb) (g1 c hc) ((hU b hb c hc).1 l))
    have r2:=na _ _ (gn _ (g1 c hc)) m r
    rw [nn _ (g1 c hc)] at r2
    exact r2
  bot a ha:=by
    have q:=g3 z gz
    refine (hU _ q.1 a ha).2 ?_
    rw [q.2]
    exact bot _ (g1 a ha)
  nn a ha:=by
    show ix (NG (vw (ix (NG (vw a)))))=a
    rw [(g3 _ (gn _ (g1 a ha))).2,nn _ (g1 a ha),g2 a ha]
  na a ha b hb k:=by
    have qa:=g3 _ (gn _ (g1 a ha))
    have qb:=g3 _ (gn _ (g1 b hb))
    refine (hU _ qb.1 _ qa.1).2 ?_
    rw [qa.2,qb.2]
    exact na _ _ (g1 a ha) (g1 b hb) ((hU a ha b hb).1 k)
  mn a ha:=by
    show ix (MT (vw a) (vw (ix (NG (vw a)))))=ix z
    rw [(g3 _ (gn _ (g1 a ha))).2,mn _ (g1 a ha)]
inductive Vw where
 | bot:Vw
 | top:Vw
 | el (t x:Nat):Vw
def pk {α:Type} (a b:α) (t:Nat):α:=if t=1 then a else b
def goodV (u:List (List Int)) (nt:List Int) (v:List (List Int)) (mtt:List Int):Vw→Prop
 | .bot=>True
 | .top=>True
 | .el t x=>(t=1∨t=2)∧x<(pk u v t).length∧(x:Int)∈innerL (pk u v t) (pk nt mtt t)
def leV (u v:List (List Int)):Vw→Vw→Prop
 | .bot,_=>True
 | _,.top=>True
 | .el t x,.el s y=>t=s∧rdN (pk u v t) x y=1
 | _,_=>False
def ngV (nt mtt:List Int):Vw→Vw
 | .bot=>.top
 | .top=>.bot
 | .el t x=>.el t (rd (pk nt mtt t) (x:Int)).toNat
def mtV (u v:List (List Int)):Vw→Vw→Vw
 | .bot,_=>.bot
 | _,.bot=>.bot
 | .top,y=>y
 | x,.top=>x
 | .el t x,.el s y=>if t=s then (if meetI (pk u v t) x y=leastI (pk u v t) then .bot else .el t (meetI (pk u v t) x y).toNat) else .bot
theorem mtV_el (u v:List (List Int)) (t x s y:Nat):mtV u v (.el t x) (.el s y)=if t=s then (if meetI (pk u v t) x y=leastI (pk u v t) then .bot else .el t (meetI (pk u v t) x y).toNat) else .bot:=rfl
def ixV (G:List (Nat × Int)):Vw→Nat
 | .bot=>0
 | .top=>G.length-1
 | .el t x=>G.idxOf (t,(x:Int))
def vwV (G:List (Nat × Int)) (i:Nat):Vw:=if i=0 then .bot else if i=G.length-1 then .top else .el (G.getD i (0,0)).1 (G.getD i (0,0)).2.toNat
section
variable {u v:List (List Int)} {nt mtt:List Int}
theorem pk_ol (h1:P.OL u nt) (h2:P.OL v mtt) (t:Nat):P.OL (pk u v t) (pk nt mtt t):=by
 unfold pk
 by_cases q:t=1
 ·rw [if_pos q,if_pos q];exact h1
 ·rw [if_neg q,if_neg q];exact h2
theorem top_is (h:P.OL u nt) {a:Nat} (ha:a<u.length):rdN u a (rd nt (leastI u)).toNat=1:=by
 obtain ⟨z,ez,hz,least⟩:=h.1.least
 have q:=(h.2.2.1 a ha)
 obtain ⟨n,en⟩:=Int.eq_ofNat_of_zero_le q.1.1
 have hn:n<u.length:=by have:=q.1.2;omega
 have r:=h.2.2.2 z hz n hn (least n hn)
 rw [← en,q.2.1,← ez] at r
 exact r
theorem mtV_good (h1:P.OL u nt) (h2:P.OL v mtt) : ∀ x y,goodV u nt v mtt x→goodV u nt v mtt y→goodV u nt v mtt (mtV u v x y)
  | .bot,_,_,_=>trivial
  | .top,.bot,_,_=>trivial
  | .top,.top,_,_=>trivial
  | .top,.el _ _,_,h=>h
  | .el _ _,.bot,_,_=>trivial
  | .el _ _,.top,h,_=>h
  | .el t x,.el s y,hx,hy=>by
    rw [mtV_el]
    by_cases q:t=s
    · subst q
      rw [if_pos rfl]
      by_cases e:meetI (pk u v t) x y=leastI (pk u v t)
      · rw [if_pos e];trivial
      · rw [if_neg e]
        have h:=pk_ol h1 h2 t
        obtain ⟨c,ec,hm⟩:=h.1.meet hx.2.1 hy.2.1
        rw [ec,Int.toNat_natCast]
        refine ⟨hx.1,hm.1,inn_mem.2 ⟨⟨by omega,by have:=hm.1;omega⟩,by rw [← ec];exact e,fun e2=>?_⟩⟩
        have mx:=inn_mem.1 hx.2.2
        have r:=top_is h hx.2.1
        rw [← e2,Int.toNat_natCast] at r
        have:x=c:=h.1.1.anti hx.2.1 hm.1 r hm.2.1
        exact mx.2.2 (by rw [this];exact e2)
    · rw [if_neg q];trivial
theorem ngV_good (h1:P.OL u nt) (h2:P.OL v mtt) : ∀ x,goodV u nt v mtt x→goodV u nt v mtt (ngV nt mtt x)
  | .bot,_=>trivial
  | .top,_=>trivial
  | .el t x,hx=>by
    have h:=pk_ol h1 h2 t
    have k:=inn_ng h hx.2.2
    have m:=(inn_mem.1 k).1
    refine ⟨hx.1,by omega,?_⟩
    rw [Int.toNat_of_nonneg m.1]
    exact k
theorem leV_refl (h1:P.OL u nt) (h2:P.OL v mtt) : ∀ x,goodV u nt v mtt x→leV u v x x
 | .bot,_=>trivial
 | .top,_=>trivial
 | .el t x,hx=>⟨rfl,(pk_ol h1 h2 t).1.1.refl hx.2.1⟩
theorem leV_anti (h1:P.OL u nt) (h2:P.OL v mtt) : ∀ x y,goodV u nt v mtt x→goodV u nt v mtt y→leV u v x y→leV u v y x→x=y
  | .bot,.bot,_,_,_,_=>rfl
  | .top,.top,_,_,_,_=>rfl
  | .bot,.top,_,_,_,k=>k.elim
  | .bot,.el _ _,_,_,_,k=>k.elim
  | .top,.bot,_,_,k,_=>k.elim
  | .top,.el _ _,_,_,k,_=>k.elim
  | .el _ _,.bot,_,_,k,_=>k.elim
  | .el _ _,.top,_,_,_,k=>k.elim
  | .el t x,.el s y,hx,hy,k,l=>by
    obtain ⟨e,k⟩:=k
    subst e
    rw [(pk_ol h1 h2 t).1.1.anti hx.2.1 hy.2.1 k l.2]
theorem leV_top : ∀ x,leV u v x .top
 | .bot=>trivial
 | .top=>trivial
 | .el _ _=>trivial
theorem leV_trans (h1:P.OL u nt) (h2:P.OL v mtt) : ∀ x y w,goodV u nt v mtt x→goodV u nt v mtt y→goodV u nt v mtt w→leV u v x y→leV u v y w→leV u v x w
  | .bot,_,_,_,_,_,_,_=>trivial
  | x,_,.top,_,_,_,_,_=>leV_top x
  | .top,.bot,_,_,_,_,k,_=>k.elim
  | .top,.el _ _,_,_,_,_,k,_=>k.elim
  | .top,.top,.bot,_,_,_,_,l=>l.elim
  | .top,.top,.el _ _,_,_,_,_,l=>l.elim
  | .el _ _,.bot,_,_,_,_,k,_=>k.elim
  | .el _ _,.top,.bot,_,_,_,_,l=>l.elim
  | .el _ _,.top,.el _ _,_,_,_,_,l=>l.elim
  | .el _ _,.el _ _,.bot,_,_,_,_,l=>l.elim
  | .el t x,.el s y,.el r z,hx,hy,hz,k,l=>by
    obtain ⟨e,k⟩:=k
    obtain ⟨e2,l⟩:=l
    subst e
    subst e2
    exact ⟨rfl,(pk_ol h1 h2 t).1.1.trans hx.2.1 hy.2.1 hz.2.1 k l⟩
theorem mtV_l (h1:P.OL u nt) (h2:P.OL v mtt) : ∀ x y,goodV u nt v mtt x→goodV u nt v mtt y→leV u v (mtV u v x y) x
  | .bot,_,_,_=>trivial
  | .top,.bot,_,_=>trivial
  | .top,.top,_,_=>trivial
  | .top,.el _ _,_,_=>trivial
  | .el _ _,.bot,_,_=>trivial
  | .el t x,.top,hx,_=>leV_refl h1 h2 (.el t x) hx
  | .el t x,.el s y,hx,hy=>by
    rw [mtV_el]
    by_cases q:t=s
    · subst q
      rw [if_pos rfl]
      by_cases e:meetI (pk u v t) x y=leastI (pk u v t)
      · rw [if_pos e];trivial
      · rw [if_neg e]
        obtain ⟨c,ec,hm⟩:=(pk_ol h1 h2 t).1.meet hx.2.1 hy.2.1
        rw [ec,Int.toNat_natCast]
        exact ⟨rfl,hm.2.1⟩
    · rw [if_neg q];trivial
theorem mtV_r (h1:P.OL u nt) (h2:P.OL v mtt) : ∀ x y,goodV u nt v mtt x→goodV u nt v mtt y→leV u v (mtV u v x y) y
  | .bot,_,_,_=>trivial
  | .top,.bot,_,_=>trivial
  | .top,.top,_,_=>trivial
  | .top,.el t x,_,hx=>leV_refl h1 h2 (.el t x) hx
  | .el _ _,.bot,_,_=>trivial
  | .el _ _,.top,_,_=>trivial
  | .el t x,.el s y,hx,hy=>by
    rw [mtV_el]
    by_cases q:t=s
    · subst q
      rw [if_pos rfl]
      by_cases e:meetI (pk u v t) x y=leastI (pk u v t)
      · rw [if_pos e];trivial
      · rw [if_neg e]
        obtain ⟨c,ec,hm⟩:=(pk_ol h1 h2 t).1.meet hx.2.1 hy.2.1
        rw [ec,Int.toNat_natCast]
        exact ⟨rfl,hm.2.2.1⟩
    · rw [if_neg q];trivial
theorem mtV_g (h1:P.OL u nt) (h2:P.OL v mtt) : ∀ x y w,goodV u nt v mtt x→goodV u nt v mtt y→goodV u nt v mtt w→leV u v w x→leV u v w y→leV u v w (mtV u v x y)
  | _,_,.bot,_,_,_,_,_=>trivial
  | .top,.top,.top,_,_,_,_,_=>trivial
  | .bot,_,.top,_,_,_,k,_=>k.elim
  | .el _ _,_,.top,_,_,_,k,_=>k.elim
  | .top,.bot,.top,_,_,_,_,l=>l.elim
  | .top,.el _ _,.top,_,_,_,_,l=>l.elim
  | .bot,_,.el _ _,_,_,_,k,_=>k.elim
  | .top,.bot,.el _ _,_,_,_,_,l=>l.elim
  | .top,.top,.el _ _,_,_,_,_,_=>trivial
  | .top,.el _ _,.el _ _,_,_,_,_,l=>l
  | .el _ _,.bot,.el _ _,_,_,_,_,l=>l.elim
  | .el _ _,.top,.el _ _,_,_,_,k,_=>k
  | .el t x,.el s y,.el r z,hx,hy,hz,k,l=>by
    obtain ⟨e,k⟩:=k
    obtain ⟨e2,l⟩:=l
    subst e
    subst e2
    have h:=pk_ol h1 h2 r
    obtain ⟨c,ec,hm⟩:=h.1.meet hx.2.1 hy.2.1
    have hzc:=hm.2.2.2 z hz.2.1 k l
    rw [mtV_el]
    rw [if_pos rfl]
    by_cases e:meetI (pk u v r) x y=leastI (pk u v r)
    · exfalso
      obtain ⟨b,eb,hb,least⟩:=h.1.least
      rw [ec,eb] at e
      have:c=b:=by omega
      subst this
      have e2:=h.1.1.anti hz.2.1 hb hzc (least z hz.2.1)
      exact (inn_mem.1 hz.2.2).2.1 (by rw [eb,e2])
    · rw [if_neg e,ec,Int.toNat_natCast]
      exact ⟨rfl,hzc⟩
theorem ngV_n (h1:P.OL u nt) (h2:P.OL v mtt) : ∀ x,goodV u nt v mtt x→ngV nt mtt (ngV nt mtt x)=x
  | .bot,_=>rfl
  | .top,_=>rfl
  | .el t x,hx=>by
    have h:=pk_ol h1 h2 t
    have q:=(h.2.2.1 x hx.2.1)
    show Vw.el t (rd (pk nt mtt t) (((rd (pk nt mtt t) (x:Int)).toNat:Nat):Int)).toNat=_
    rw [Int.toNat_of_nonneg q.1.1,q.2.1,Int.toNat_natCast]
theorem ngV_a (h1:P.OL u nt) (h2:P.OL v mtt) : ∀ x y,goodV u nt v mtt x→goodV u nt v mtt y→leV u v x y→leV u v (ngV nt mtt y) (ngV nt mtt x)
  | .bot,y,_,_,_=>leV_top _
  | .top,.top,_,_,_=>trivial
  | .el _ _,.top,_,_,_=>trivial
  | .top,.bot,_,_,k=>k.elim
  | .top,.el _ _,_,_,k=>k.elim
  | .el _ _,.bot,_,_,k=>k.elim
  | .el t x,.el s y,hx,hy,k=>by
    obtain ⟨e,k⟩:=k
    subst e
    exact ⟨rfl,(pk_ol h1 h2 t).2.2.2 x hx.2.1 y hy.2.1 k⟩
theorem mnV (h1:P.OL u nt) (h2:P.OL v mtt) : ∀ x,goodV u nt v mtt x→mtV u v x (ngV nt mtt x) = .bot
  | .bot,_=>rfl
  | .top,_=>rfl
  | .el t x,hx=>by
    have q:=((pk_ol h1 h2 t).2.2.1 x hx.2.1).2.2
    show mtV u v (.el t x) (.el t (rd (pk nt mtt t) (x:Int)).toNat)=_
    rw [mtV_el]
    rw [if_pos rfl,if_pos q]
theorem vw_in {i:Nat} (h0:0<i) (h1:i<(glueL u nt v mtt).length-1) : ∃ t x:Nat,(glueL u nt v mtt).getD i (0,0)=(t,(x:Int))∧vwV (glueL u nt v mtt) i = .el t x∧goodV u nt v mtt (.el t x):=by
 have hm:=glue_mid h0 h1
 obtain ⟨⟨t,x⟩,e⟩ : ∃ p,(glueL u nt v mtt).getD i (0,0)=p:=⟨_,rfl⟩
 rw [e] at hm
 have ev:vwV (glueL u nt v mtt) i = .el t x.toNat:=by
  unfold vwV
  rw [if_neg (by omega),if_neg (by omega),e]
 rcases mids_mem.1 hm with ⟨k1,k2⟩|⟨k1,k2⟩
 ·have k1:t=1:=k1
  subst k1
  obtain ⟨n,en⟩:=Int.eq_ofNat_of_zero_le (inn_mem.1 k2).1.1
  have en:x=(n:Int):=en
  subst en
  exact ⟨1,n,e,ev,.inl rfl,by have:=(inn_mem.1 k2).1.2;show n<u.length;have:((n:Nat):Int)<(u.length:Int):=this;omega,k2⟩
 ·have k1:t=2:=k1
  subst k1
  obtain ⟨n,en⟩:=Int.eq_ofNat_of_zero_le (inn_mem.1 k2).1.1
  have en:x=(n:Int):=en
  subst en
  exact ⟨2,n,e,ev,.inr rfl,by have:=(inn_mem.1 k2).1.2;show n<v.length;have:((n:Nat):Int)<(v.length:Int):=this;omega,k2⟩
theorem vw_0:vwV (glueL u nt v mtt) 0 = .bot:=rfl
theorem vw_last:vwV (glueL u nt v mtt) ((glueL u nt v mtt).length-1) = .top:=by
 have h:=glue_len u nt v mtt
 unfold vwV
 rw [if_neg (by omega),if_pos rfl]
theorem vw_good {i:Nat} (hi:i<(glueL u nt v mtt).length):goodV u nt v mtt (vwV (glueL u nt v mtt) i):=by
 rcases glue_in hi with ⟨e,_⟩|⟨e,_⟩|⟨a,b,_⟩
 ·rw [e,vw_0];trivial
 ·rw [e,vw_last];trivial
 ·obtain ⟨t,x,_,e,g⟩:=vw_in (u:=u) (nt:=nt) (v:=v) (mtt:=mtt) a b
  rw [e]
  exact g
theorem good_in {t x:Nat} (h:goodV u nt v mtt (.el t x)):(t,(x:Int))∈midL u nt v mtt:=by
 obtain ⟨k,_,m⟩:=h
 rcases k with rfl|rfl
 ·exact mids_mem.2 (.inl ⟨rfl,m⟩)
 ·exact mids_mem.2 (.inr ⟨rfl,m⟩)
theorem ix_good : ∀ x,goodV u nt v mtt x→ixV (glueL u nt v mtt) x<(glueL u nt v mtt).length∧vwV (glueL u nt v mtt) (ixV (glueL u nt v mtt) x)=x
  | .bot,_=>⟨by have:=glue_len u nt v mtt;show 0<_;omega,rfl⟩
  | .top,_=>⟨by have:=glue_len u nt v mtt;show _-1<_;omega,vw_last⟩
  | .el t x,h=>by
    obtain ⟨m1,m2⟩:=idx_at (d:=(0,0)) (glue_has (good_in h))
    refine ⟨m1,?_⟩
    have ht:t≠0:=by rcases h.1 with e|e <;> omega
    show vwV (glueL u nt v mtt) ((glueL u nt v mtt).idxOf (t,(x:Int)))=_
    rcases glue_in m1 with ⟨_,k⟩|⟨_,k⟩|⟨k0,k1,_⟩
    · rw [m2] at k;injection k with k;exact absurd k ht
    · rw [m2] at k;injection k with k;exact absurd k ht
    · unfold vwV
      rw [if_neg (by omega),if_neg (by omega),m2]
      rfl
end
theorem gl_inj {u v:List (List Int)} {nt mtt:List Int} {c d:Nat} (c0:0<c) (c1:c<(glueL u nt v mtt).length-1) (d0:0<d) (d1:d<(glueL u nt v mtt).length-1) (e:(glueL u nt v mtt).getD c (0,0)=(glueL u nt v mtt).getD d (0,0)):c=d:=by
 have nd:(midL u nt v mtt).Nodup:=by
  unfold midL
  rw [List.nodup_append]
  refine ⟨?_,?_,?_⟩
  ·unfold List.Nodup
   rw [List.pairwise_map]
   exact List.Pairwise.imp (fun {a b} h e=>h (by injection e)) (inn_nodup (u:=u) (nt:=nt))
  ·unfold List.Nodup
   rw [List.pairwise_map]
   exact List.Pairwise.imp (fun {a b} h e=>h (by injection e)) (inn_nodup (u:=v) (nt:=mtt))
  ·intro a ha b hb e
   obtain ⟨x,_,rfl⟩:=List.mem_map.1 ha
   obtain ⟨y,_,rfl⟩:=List.mem_map.1 hb
   injection e with e1 _
   cases e1
 rw [glue_len] at c1 d1
 obtain ⟨c,rfl⟩ : ∃ j,c=j+1:=⟨c-1,by omega⟩
 obtain ⟨d,rfl⟩ : ∃ j,d=j+1:=⟨d-1,by omega⟩
 have hc:c<(midL u nt v mtt).length:=by rw [mids_len];omega
 have hd:d<(midL u nt v mtt).length:=by rw [mids_len];omega
 rw [glue_eq,List.getD_cons_succ,List.getD_cons_succ,List.getD_eq_getElem?_getD,List.getD_eq_getElem?_getD,List.getElem?_append_left hc,List.getElem?_append_left hd,List.getElem?_eq_getElem hc,List.getElem?_eq_getElem hd,Option.getD_some,Option.getD_some] at e
 have key:=List.pairwise_iff_getElem.1 nd
 by_cases q:c<d
 ·exact absurd e (key c d hc hd q)
 ·by_cases q2:d<c
  ·exact absurd e.symm (key d c hd hc q2)
  ·omega
section
variable {u v:List (List Int)} {nt mtt:List Int}
theorem ix_vw {i:Nat} (hi:i<(glueL u nt v mtt).length):ixV (glueL u nt v mtt) (vwV (glueL u nt v mtt) i)=i:=by
 rcases glue_in hi with ⟨e,_⟩|⟨e,_⟩|⟨a,b,_⟩
 ·rw [e,vw_0];rfl
 ·rw [e,vw_last];rfl
 ·obtain ⟨t,x,e,ev,g⟩:=vw_in (u:=u) (nt:=nt) (v:=v) (mtt:=mtt) a b
  rw [ev]
  show (glueL u nt v mtt).idxOf (t,(x:Int))=i
  obtain ⟨m1,m2⟩:=idx_at (d:=(0,0)) (glue_has (good_in g))
  have ht:t≠0:=by rcases g.1 with e|e <;> omega
  rcases glue_in m1 with ⟨_,k⟩|⟨_,k⟩|⟨k0,k1,_⟩
  ·rw [m2] at k;injection k with k;exact absurd k ht
  ·rw [m2] at k;injection k with k;exact absurd k ht
  ·exact gl_inj k0 k1 a b (m2.trans e.symm)
theorem glueB_le (h1:P.OL u nt) (h2:P.OL v mtt) {i k:Nat} (hi:i<(glueL u nt v mtt).length) (hk:k<(glueL u nt v mtt).length):glueB u v (glueL u nt v mtt) i k=true↔leV u v (vwV (glueL u nt v mtt) i) (vwV (glueL u nt v mtt) k):=by
 have hl:=glue_len u nt v mtt
 unfold glueB
 by_cases c1:i=0∨k=(glueL u nt v mtt).length-1∨i=k
 ·rw [if_pos c1]
  refine ⟨fun _=>?_,fun _=>rfl⟩
  rcases c1 with e|e|e
  ·rw [e,vw_0];trivial
  ·rw [e,vw_last];exact leV_top _
  ·rw [e];exact leV_refl h1 h2 _ (vw_good hk)
 ·rw [if_neg c1]
  by_cases c2:i=(glueL u nt v mtt).length-1∨k=0
  ·rw [if_pos c2]
   refine ⟨fun q=>by simp at q,fun q=>?_⟩
   rcases c2 with e|e
   ·rw [e,vw_last] at q
    by_cases k0:k=0
    ·rw [k0,vw_0] at q;exact q.elim
    ·obtain ⟨s,y,_,ev,_⟩:=vw_in (u:=u) (nt:=nt) (v:=v) (mtt:=mtt) (i:=k) (by omega) (by omega)
     rw [ev] at q
     exact q.elim
   ·rw [e,vw_0] at q
    by_cases i1:i=(glueL u nt v mtt).length-1
    ·rw [i1,vw_last] at q;exact q.elim
    ·obtain ⟨s,y,_,ev,_⟩:=vw_in (u:=u) (nt:=nt) (v:=v) (mtt:=mtt) (i:=i) (by omega) (by omega)
     rw [ev] at q
     exact q.elim
  ·rw [if_neg c2]
   obtain ⟨t,x,e,ev,_⟩:=vw_in (u:=u) (nt:=nt) (v:=v) (mtt:=mtt) (i:=i) (by omega) (by omega)
   obtain ⟨s,y,e',ev',_⟩:=vw_in (u:=u) (nt:=nt) (v:=v) (mtt:=mtt) (i:=k) (by omega) (by omega)
   rw [e,e',ev,ev',decide_eq_true_iff]
   show (t=s∧rdN (if t=1 then u else v) (Int.toNat (x:Int)) (Int.toNat (y:Int))=1)↔(t=s∧rdN (pk u v t) x y=1)
   rw [Int.toNat_natCast,Int.toNat_natCast]
   rfl
theorem glueO_ng (h1:P.OL u nt) (h2:P.OL v mtt) {i:Nat} (hi:i<(glueL u nt v mtt).length):glueO nt mtt (glueL u nt v mtt) i=((ixV (glueL u nt v mtt) (ngV nt mtt (vwV (glueL u nt v mtt) i)):Nat):Int):=by
 have hl:=glue_len u nt v mtt
 unfold glueO
 by_cases c1:i=0∨i=(glueL u nt v mtt).length-1
 ·rw [if_pos c1]
  rcases c1 with e|e
  ·rw [e,vw_0];rfl
  ·rw [e,vw_last,Nat.sub_self];rfl
 ·rw [if_neg c1]
  obtain ⟨t,x,e,ev,g⟩:=vw_in (u:=u) (nt:=nt) (v:=v) (mtt:=mtt) (i:=i) (by omega) (by omega)
  rw [e,ev]
  have q:=((pk_ol h1 h2 t).2.2.1 x g.2.1).1
  show (((glueL u nt v mtt).idxOf (t,rd (if t=1 then nt else mtt) (x:Int)):Nat):Int)=(((glueL u nt v mtt).idxOf (t,(((rd (pk nt mtt t) (x:Int)).toNat:Nat):Int)):Nat):Int)
  rw [Int.toNat_of_nonneg q.1]
  rfl
theorem glue_mdl (h1:P.OL u nt) (h2:P.OL v mtt) (h12:(glueL u nt v mtt).length≤12) :
    Mdl (glueL u nt v mtt).length (glueB u v (glueL u nt v mtt)) (fun i=>ixV (glueL u nt v mtt) (ngV nt mtt (vwV (glueL u nt v mtt) i))) (fun i k=>ixV (glueL u nt v mtt) (mtV u v (vwV (glueL u nt v mtt) i) (vwV (glueL u nt v mtt) k))) (fun i k=>ixV (glueL u nt v mtt) (ngV nt mtt (mtV u v (ngV nt mtt (vwV (glueL u nt v mtt) i)) (ngV nt mtt (vwV (glueL u nt v mtt) k))))) 0 :=
  Mdl.of_view h12 Vw.bot (fun i hi=>vw_good hi) (fun i hi=>ix_vw hi) ix_good (fun i hi k hk=>glueB_le h1 h2 hi hk) trivial (ngV_good h1 h2) (mtV_good h1 h2) (leV_refl h1 h2) (leV_anti h1 h2) (leV_trans h1 h2) (mtV_l h1 h2) (mtV_r h1 h2) (mtV_g h1 h2) (fun x _=>trivial) (ngV_n h1 h2) (ngV_a h1 h2) (mnV h1 h2)
end
theorem drawGlued_ev {code:List Int} (h:Bytes code) : ∃ r:List (List Int) × List Int × List (List Int) × List Int,Ev (fun k=>spec_DrawGluedOf.f k code) r∧r.2.1.length≤12∧r.2.2.2.length≤12:=by
 obtain ⟨b,ho,hb,hl⟩:=open_eq h
 unfold spec_DrawGluedOf.f
 rw [ho]
 obtain ⟨⟨u,nt,q⟩,hr,d1,d2,q0,q1⟩:=logic20_ev hb hl (show (0:Int)≤0 by omega) (by omega) 14
 simp only at d1 d2 q0 q1
 refine Ev_bindP (Ev.now _) (Ev_bindP hr ?_)
 obtain ⟨⟨v,mtt,p⟩,hr2,_,e2,_⟩:=logic20_any hb hl (p:=q) q0 (by omega) 14
 exact Ev_bindP hr2 (Ev_retP ⟨d2,e2⟩)
section
variable {u:List (List Int)} {nt:List Int} {v:List (List Int)} {mtt:List Int}
theorem glued_yes (h1:P.OL u nt) (h2:P.OL v mtt) (k1:2≤u.length) (k2:2≤v.length) (k3:u.length+v.length-2≤12):gluedF u nt v mtt=(madeU (glueL u nt v mtt).length (glueB u v (glueL u nt v mtt)),madeN (glueL u nt v mtt).length (glueO nt mtt (glueL u nt v mtt)),true):=if_pos ⟨h1,h2,k1,k2,k3⟩
theorem glued_j2 {U:List (List Int)} {N:List Int} (b:Bool) (H:b=true→logicF U N=true∧(N.length:Int)=wrap64 (wrap64 ((nt.length:Int)+(mtt.length:Int))-2)) (H0:b=false→U = []∧N = []):Ev (fun k=>laws_FnGluedOf.j2 k b u nt v mtt U N) true:=by
 cases b with
 | true =>
  obtain ⟨e1,e2⟩:=H rfl
  refine Ev.step (fun k=>laws_FnGluedOf.j2.eq_2 ..) (Ev.pos rfl (Ev.bindc (a:=true) (congrArg some e1) (Ev.pos rfl (Ev.ret ?_))))
  rw [e2]
  exact beq_self_eq_true _
 | false =>
  obtain ⟨rfl,rfl⟩:=H0 rfl
  refine Ev.step (fun k=>laws_FnGluedOf.j2.eq_2 ..) (Ev.neg Bool.false_ne_true ?_)
  exact Ev.bind (a:=true) (Ev.clos 1500 (fun k=>by kernel_rfl)) (Ev.pos rfl (Ev.bind alive_ev (Ev.ret rfl)))
theorem glued_j0 {U:List (List Int)} {N:List Int} {b:Bool} (H:Ev (fun k=>laws_FnGluedOf.j2 k b u nt v mtt U N) true):Ev (fun k=>laws_FnGluedOf.j0 k b false u nt v mtt U N) true:=by
 have o1:P.OL (setsF 1).1 (setsF 1).2.1:=of_decide_eq_true sets_logic1
 have s2:(setsF 1).1.length=2:=by kernel_rfl
 refine Ev.step (fun k=>laws_FnGluedOf.j0.eq_2 ..) (Ev.neg Bool.false_ne_true ?_)
 refine Ev.bindc (a:=setsF 1) rfl (Ev.bindc (a:=gluedF u nt (setsF 1).1 (setsF 1).2.1) rfl (Ev.bind (spec_logic_ev u nt) ?_))
 have skip : ∀ (a c:Bool) (X:List (List Int)) (Y:List Int),Ev (fun k=>laws_FnGluedOf.j1 k b a c false u nt v mtt U N X Y) true:=fun a c X Y=>Ev.step (fun k=>laws_FnGluedOf.j1.eq_2 ..) (Ev.neg Bool.false_ne_true H)
 by_cases h:P.OL u nt
 ·refine Ev.tt (decide_eq_true h) ?_
  have u12:=h.1.1.le12
  have hn:=h.2.1
  by_cases k:2≤u.length
  ·rw [decide_eq_true (show (nt.length:Int)≥2 by omega),glued_yes h o1 k (by omega) (by omega)]
   have hl:=glue_n h o1 k (by omega)
   have hl2:(glueL u nt (setsF 1).1 (setsF 1).2.1).length=u.length:=by rw [hl,s2];omega
   have M:=glue_mdl h o1 (by omega)
   have G : ∀ a,a<(glueL u nt (setsF 1).1 (setsF 1).2.1).length→glueO nt (setsF 1).2.1 (glueL u nt (setsF 1).1 (setsF 1).2.1) a=_:=fun a ha=>glueO_ng h o1 ha
   have ol:=M.ol G
   have e1:impl_NoOf.f (madeU (glueL u nt (setsF 1).1 (setsF 1).2.1).length (glueB u (setsF 1).1 (glueL u nt (setsF 1).1 (setsF 1).2.1))) (madeN (glueL u nt (setsF 1).1 (setsF 1).2.1).length (glueO nt (setsF 1).2.1 (glueL u nt (setsF 1).1 (setsF 1).2.1)))=some 0:=congrArg some ((if_pos ol).trans M.lI)
   have e2:impl_YesOf.f (madeU (glueL u nt (setsF 1).1 (setsF 1).2.1).length (glueB u (setsF 1).1 (glueL u nt (setsF 1).1 (setsF 1).2.1))) (madeN (glueL u nt (setsF 1).1 (setsF 1).2.1).length (glueO nt (setsF 1).2.1 (glueL u nt (setsF 1).1 (setsF 1).2.1)))=some ((u.length-1:Nat):Int):=by
    refine congrArg some ((if_pos ol).trans ?_)
    rw [M.lI,rd_made _ (by omega)]
    unfold glueO
    rw [if_pos (.inl rfl),hl2]
    rfl
   refine Ev.step (fun k=>laws_FnGluedOf.j1.eq_2 ..) (Ev.pos rfl (Ev.pos (by kernel_rfl) (Ev.pos rfl (Ev.pos ?_ (Ev.bindc e1 (Ev.pos rfl (Ev.bindc e2 (Ev.pos ?_ H))))))))
   ·rw [madeN_len,hl2,hn]
   ·rw [hn,wrap_of _ (by omega) (by omega)]
    omega
  ·rw [decide_eq_false (show ¬(nt.length:Int)≥2 by omega)]
   exact skip _ _ _ _
 ·exact Ev.ff (decide_eq_false h) (skip _ _ _ _)
end
theorem FnGluedOf_pure:laws_FnGluedOf.Pure:=by
 intro code _ _ hw
 refine Ev.rounds ?_
 unfold laws_FnGluedOf.f
 by_cases hl:(code.length:Int)>1048576
 ·exact Ev.pos hl (Ev.ret rfl)
 ·refine Ev.neg hl ?_
  obtain ⟨⟨u,nt,v,mtt⟩,hu,d1,d2⟩:=drawGlued_ev (bytes_of_wf hw)
  simp only at d1 d2
  refine Ev.bind hu (Ev.bindc (a:=gluedF u nt v mtt) rfl (Ev.bindc (show spec_GluedOf.f u nt v mtt=some (gluedF u nt v mtt) from if_pos ⟨by omega,by omega⟩) ?_))
  by_cases q:P.OL u nt∧P.OL v mtt∧2≤u.length∧2≤v.length∧u.length+v.length-2≤12
  ·obtain ⟨h1,h2,k1,k2,k3⟩:=q
   have hn:=glue_n h1 h2 k1 k2
   rw [glued_yes h1 h2 k1 k2 k3]
   refine Ev.bind (same_made (by omega) _ _) (Ev.pos rfl (glued_j0 (glued_j2 true (fun _=>⟨?_,?_⟩) (fun e=>by cases e))))
   ·exact decide_eq_true ((glue_mdl h1 h2 (by omega)).ol (fun a ha=>glueO_ng h1 h2 ha))
   ·have e1:=h1.2.1
    have e2:=h2.2.1
    rw [madeN_len,hn,e1,e2,wrap_of ((u.length:Int)+(v.length:Int)) (by omega) (by omega),wrap_of _ (by omega) (by omega)]
    omega
  ·have e:gluedF u nt v mtt=([],[],false):=if_neg q
   rw [e]
   exact Ev.bind same_nil (Ev.pos rfl (glued_j0 (glued_j2 false (fun e=>by cases e) (fun _=>⟨rfl,rfl⟩))))
end Go.Proofs.Ytacifhahfamipaa.Q
