/- 31 texts of this seat joined: walks, and the laws of what they compute. -/
import Derived.Test.YtlkibgccgkhdmaaPk2
import Derived.Deep.Matrix
import Derived.SizedLaws
namespace Go.Proofs.OlT

structure OL (α:Type) where
 le:α→α→Prop
 meet:α→α→α
 join:α→α→α
 neg:α→α
 bot:α
 refl : ∀ a,le a a
 trans : ∀ {a b c},le a b→le b c→le a c
 anti : ∀ {a b},le a b→le b a→a=b
 ml : ∀ a b,le (meet a b) a
 mr : ∀ a b,le (meet a b) b
 mg : ∀ {a b c},le c a→le c b→le c (meet a b)
 jl : ∀ a b,le a (join a b)
 jr : ∀ a b,le b (join a b)
 jg : ∀ {a b c},le a c→le b c→le (join a b) c
 nn : ∀ a,neg (neg a)=a
 na : ∀ {a b},le a b→le (neg b) (neg a)
 bl : ∀ a,le bot a
 mn : ∀ a,meet a (neg a)=bot

namespace OL
variable {α:Type} (L:OL α)

theorem na_l {a b:α} (h:L.le (L.neg a) b):L.le (L.neg b) a:=by
 have h:=L.na h
 rwa [L.nn] at h
theorem na_r {a b:α} (h:L.le a (L.neg b)):L.le b (L.neg a):=by
 have h:=L.na h
 rwa [L.nn] at h
theorem meet_comm (a b:α):L.meet a b=L.meet b a :=
 L.anti (L.mg (L.mr a b) (L.ml a b)) (L.mg (L.mr b a) (L.ml b a))
theorem meet_mono {a b c d:α} (h:L.le a c) (k:L.le b d):L.le (L.meet a b) (L.meet c d) :=
 L.mg (L.trans (L.ml _ _) h) (L.trans (L.mr _ _) k)
theorem neg_meet (a b:α):L.neg (L.meet a b)=L.join (L.neg a) (L.neg b):=by
 refine L.anti ?_ (L.jg (L.na (L.ml _ _)) (L.na (L.mr _ _)))
 exact L.na_l (L.mg (L.na_l (L.jl _ _)) (L.na_l (L.jr _ _)))
theorem neg_join (a b:α):L.neg (L.join a b)=L.meet (L.neg a) (L.neg b):=by
 refine L.anti (L.mg (L.na (L.jl _ _)) (L.na (L.jr _ _))) ?_
 exact L.na_r (L.jg (L.na_r (L.ml _ _)) (L.na_r (L.mr _ _)))
def C (a b:α):Prop:=L.join (L.meet a b) (L.meet a (L.neg b))=a
def OM:Prop:=∀ a b,L.le a b→L.join a (L.meet b (L.neg a))=b
variable {L}
theorem OM.symm (h:L.OM) {a b:α} (hc:L.C a b):L.C b a:=by
 have e:L.neg a=L.meet (L.join (L.neg a) (L.neg b)) (L.join (L.neg a) b):=by
  have h1:=congrArg L.neg hc
  rw [L.neg_join,L.neg_meet,L.neg_meet,L.nn] at h1
  exact h1.symm
 have e2:L.meet b (L.neg a)=L.meet b (L.neg (L.meet a b)):=by
  rw [L.neg_meet]
  refine L.anti (L.meet_mono (L.refl _) (L.jl _ _)) ?_
  refine L.mg (L.ml _ _) ?_
  have k:L.le (L.meet b (L.join (L.neg a) (L.neg b))) (L.meet (L.join (L.neg a) (L.neg b)) (L.join (L.neg a) b)):=L.mg (L.mr _ _) (L.trans (L.ml _ _) (L.jr _ _))
  rw [← e] at k
  exact k
 have h2:=h (L.meet a b) b (L.mr _ _)
 rw [← e2] at h2
 unfold C
 rw [L.meet_comm b a]
 exact h2
end OL
end Go.Proofs.OlT

namespace Go.Proofs.Ytlkibgccgkhdmaa.Q
open Go.RowKit Go.Proofs.YtlkibgccgkhdmaaW.PrintWords Go.Proofs.YtlkibgccgkhdmaaW.PrintLast Go.Proofs.YtlkibgccgkhdmaaW.PrintMore Go.Proofs.Ytlkibgccgkhdmaa.P Go.Proofs.Cl Go.Proofs.OlT
set_option linter.unusedVariables false
section
variable {u:List (List Int)} {nt:List Int}
def toF (h:Go.Proofs.Ytlkibgccgkhdmaa.P.OL u nt):OlT.OL (Fin u.length) where
 le a b:=rdN u a b=1
 meet a b:=⟨(meetI u a b).toNat,by obtain ⟨c,e,k⟩:=h.1.meet a.2 b.2;rw [e];exact k.1⟩
 join a b:=⟨(joinI u a b).toNat,by obtain ⟨c,e,k⟩:=h.1.join a.2 b.2;rw [e];exact k.1⟩
 neg a:=⟨(rd nt (a:Nat)).toNat,by have:=(h.2.2.1 a a.2).1;omega⟩
 bot:=⟨(leastI u).toNat,by obtain ⟨m,e,k,_⟩:=h.1.least;rw [e];exact k⟩
 refl a:=h.1.1.refl a.2
 trans {a b c} k l:=h.1.1.trans a.2 b.2 c.2 k l
 anti {a b} k l:=Fin.ext (h.1.1.anti a.2 b.2 k l)
 ml a b:=by obtain ⟨c,e,k⟩:=h.1.meet a.2 b.2;show rdN u (meetI u a b).toNat a=1;rw [e];exact k.2.1
 mr a b:=by obtain ⟨c,e,k⟩:=h.1.meet a.2 b.2;show rdN u (meetI u a b).toNat b=1;rw [e];exact k.2.2.1
 mg {a b c} k l:=by obtain ⟨d,e,m⟩:=h.1.meet a.2 b.2;show rdN u c (meetI u a b).toNat=1;rw [e];exact m.2.2.2 c c.2 k l
 jl a b:=by obtain ⟨c,e,k⟩:=h.1.join a.2 b.2;show rdN u a (joinI u a b).toNat=1;rw [e];exact k.2.1
 jr a b:=by obtain ⟨c,e,k⟩:=h.1.join a.2 b.2;show rdN u b (joinI u a b).toNat=1;rw [e];exact k.2.2.1
 jg {a b c} k l:=by obtain ⟨d,e,m⟩:=h.1.join a.2 b.2;show rdN u (joinI u a b).toNat c=1;rw [e];exact m.2.2.2 c c.2 k l
 nn a:=by
  have k:=h.2.2.1 a a.2
  refine Fin.ext ?_
  show (rd nt (((rd nt (a:Nat)).toNat:Nat):Int)).toNat=a
  rw [Int.toNat_of_nonneg k.1.1,k.2.1]
  rfl
 na {a b} k:=h.2.2.2 a a.2 b b.2 k
 bl a:=by obtain ⟨m,e,k,l⟩:=h.1.least;show rdN u (leastI u).toNat a=1;rw [e];exact l a a.2
 mn a:=Fin.ext (by show (meetI u a (rd nt (a:Nat)).toNat).toNat=(leastI u).toNat;rw [(h.2.2.1 a a.2).2.2])
def fi (a:Int) (k:0≤a∧a<u.length):Fin u.length:=⟨a.toNat,by omega⟩
variable (h:Go.Proofs.Ytlkibgccgkhdmaa.P.OL u nt)
theorem ng_F {a:Int} (ka:0≤a∧a<u.length):rd nt a=(((toF h).neg (fi a ka):Fin u.length):Int):=by
 have k:=(h.2.2.1 a.toNat (by omega)).1
 show rd nt a=((rd nt ((a.toNat:Nat):Int)).toNat:Int)
 rw [Int.toNat_of_nonneg ka.1] at k ⊢
 omega
theorem no_F:leastI u=(((toF h).bot:Fin u.length):Int):=by
 obtain ⟨m,e,k,_⟩:=h.1.least
 show leastI u=((leastI u).toNat:Int)
 omega
theorem ng_in (h:Go.Proofs.Ytlkibgccgkhdmaa.P.OL u nt) {a:Int} (ka:0≤a∧a<u.length):0≤rd nt a∧rd nt a<u.length:=by
 rw [ng_F h ka];have:=((toF h).neg (fi a ka)).2;omega
theorem no_in (h:Go.Proofs.Ytlkibgccgkhdmaa.P.OL u nt):0≤leastI u∧leastI u<u.length:=by
 rw [no_F h];have:=((toF h).bot).2;omega
end
end Go.Proofs.Ytlkibgccgkhdmaa.Q

namespace Go.Proofs.Ytlkibgccgkhdmaa.Q
open Go.RowKit Go.Proofs.YtlkibgccgkhdmaaW.PrintWords Go.Proofs.YtlkibgccgkhdmaaW.PrintLast Go.Proofs.YtlkibgccgkhdmaaW.PrintMore Go.Proofs.Ytlkibgccgkhdmaa.P Go.Proofs.Cl
set_option linter.unusedVariables false

theorem Ev.pos {α:Type} {c:Prop} [Decidable c] {f g:Nat→Option α} {r:α} (h:c) (H:Ev f r):Ev (fun k=>if c then f k else g k) r:=by
 simp only [if_pos h]
 exact H
theorem Ev.neg {α:Type} {c:Prop} [Decidable c] {f g:Nat→Option α} {r:α} (h : ¬c) (H:Ev g r):Ev (fun k=>if c then f k else g k) r:=by
 simp only [if_neg h]
 exact H
theorem Ev.tt {α:Type} {b:Bool} {f g:Nat→Option α} {r:α} (h:b=true) (H:Ev f r):Ev (fun k=>if b=true then f k else g k) r:=Ev.pos h H
theorem Ev.ff {α:Type} {b:Bool} {f g:Nat→Option α} {r:α} (h:b=false) (H:Ev g r):Ev (fun k=>if b=true then f k else g k) r:=Ev.neg (by rw [h];exact Bool.false_ne_true) H
theorem Ev.ret {α:Type} {a r:α} (h:a=r):Ev (fun _=>some a) r:=h▸Ev.now a
theorem Ev.bindc {α β:Type} {o:Option α} {f:Nat→α→Option β} {a:α} {r:β} (h:o=some a) (k:Ev (fun n=>f n a) r):Ev (fun n=>o.bind (f n)) r:=by
 subst h
 exact k
theorem Ev.to {α:Type} {f:Nat→Option α} {a r:α} (H:Ev f a) (h:a=r):Ev f r:=h▸H
theorem wrap_of (x:Int) (h0 : -9223372036854775808≤x) (h1:x≤9223372036854775807):wrap64 x=x:=by
 unfold wrap64
 omega
theorem wrap_succ (i:Nat) (h:i<4611686018427387904):wrap64 ((i:Int)+1)=((i+1:Nat):Int):=by
 rw [wrap_of _ (by omega) (by omega)]
 omega
theorem rd_nat (xs:List Int) (i:Nat):rd xs (i:Int)=xs.getD i 0:=rfl
theorem row_nat (u:List (List Int)) (i:Nat):rd_L1 u (i:Int)=u.getD i []:=rfl
theorem at_nat (u:List (List Int)) (i j:Nat):rd (rd_L1 u (i:Int)) (j:Int)=rdN u i j:=rfl
theorem set_step {α:Type} (xs:List α) (z:α) (i:Nat) (h:i<xs.length):(xs.take i++List.replicate (xs.length-i) z).set i xs[i]=xs.take (i+1)++List.replicate (xs.length-(i+1)) z:=by
 rw [show xs.length-i=(xs.length-(i+1))+1 by omega,List.replicate_succ,List.set_append,if_neg (by rw [List.length_take];omega)]
 rw [List.length_take,show i-min i xs.length=0 by omega,List.set_cons_zero,List.take_succ_eq_append_getElem h,List.append_assoc]
 rfl
theorem nat_of {a:Int} {n:Nat} (h:0≤a∧a<n) : ∃ m:Nat,a=m∧m<n:=⟨a.toNat,by omega,by omega⟩
theorem rd_lt (xs:List Int) {i:Nat} (h:i<xs.length):rd xs (i:Int)=xs[i]:=by
 rw [rd_nat,List.getD_eq_getElem?_getD,List.getElem?_eq_getElem h,Option.getD_some]
theorem row_lt (u:List (List Int)) {i:Nat} (h:i<u.length):rd_L1 u (i:Int)=u[i]:=by
 rw [row_nat,List.getD_eq_getElem?_getD,List.getElem?_eq_getElem h,Option.getD_some]
theorem wrap_succ' (i:Nat) (h:i<9223372036854775807):wrap64 ((i:Int)+1)=((i+1:Nat):Int):=by
 rw [wrap_of _ (by omega) (by omega)]
 omega

theorem l1In_eq (a b c:Int):spec_l1In.f a b c=some (decide (b≤a∧a≤c)):=by
 unfold spec_l1In.f
 by_cases h:a≥b
 ·rw [if_pos h]
  congr 1
  rw [decide_eq_decide]
  exact ⟨fun k=>⟨h,k⟩,fun k=>k.2⟩
 ·rw [if_neg h]
  congr 1
  symm
  rw [decide_eq_false_iff_not]
  exact fun k=>h k.1

section
variable (u:List (List Int))
def p4 (a b c:Nat):Bool := !(decide (rdN u a b=1)&&decide (rdN u b c=1)&&decide (rdN u a c=0))
def p3 (a b:Nat):Bool := !(if a=b then decide (rdN u a b=0) else (decide (rdN u a b=1)&&decide (rdN u b a=1)))&&allF u.length (p4 u a b) 0
def p1 (a b:Nat):Bool:=decide (0≤rdN u a b∧rdN u a b≤1)
def p0 (a:Nat):Bool:=decide ((u.getD a []).length=u.length)&&allF u.length (p1 u a) 0
variable {u}
variable (hn:u.length≤12)
theorem so_l4 (hn:u.length≤12) (HR : ∀ a,a<u.length→(rd_L1 u (a:Int)).length=u.length) {a b:Nat} (ha:a<u.length) (hb:b<u.length) {r:Bool}
    (H:Ev (fun k=>spec_OrderOk.l3 k u u.length a ((b+1:Nat):Int)) r) (c:Nat) (hc:c≤u.length) :
    Ev (fun k=>spec_OrderOk.l4 k u u.length a b c) (allF u.length (p4 u a b) c&&r):=by
  refine down u.length (fun c=>Ev (fun k=>spec_OrderOk.l4 k u u.length a b c) (allF u.length (p4 u a b) c&&r)) ?_ ?_ c hc
  · refine Ev.step (fun k=>spec_OrderOk.l4.eq_2 ..) ?_
    refine Ev.neg (by omega) ?_
    rw [allF_end (Nat.le_refl _),Bool.true_and,wrap_succ b (by omega)]
    exact H
  · intro c hc ih
    have h1:=HR a ha
    have h2:=HR b hb
    refine Ev.step (fun k=>spec_OrderOk.l4.eq_2 ..) ?_
    repeat (refine Ev.pos (by omega) ?_)
    rw [allF_step hc,wrap_succ c (by omega)]
    by_cases k1:rdN u a b=1
    · refine Ev.pos k1 ?_
      repeat (refine Ev.pos (by omega) ?_)
      by_cases k2:rdN u b c=1
      · refine Ev.pos k2 ?_
        repeat (refine Ev.pos (by omega) ?_)
        by_cases k3:rdN u a c=0
        · refine Ev.pos k3 ?_
          exact Ev.ret (by simp [p4,k1,k2,k3])
        · refine Ev.neg k3 ?_
          exact Ev.to ih (by simp [p4,k3])
      · refine Ev.neg k2 ?_
        exact Ev.to ih (by simp [p4,k2])
    · refine Ev.neg k1 ?_
      exact Ev.to ih (by simp [p4,k1])
theorem so_l3 (hn:u.length≤12) (HR : ∀ a,a<u.length→(rd_L1 u (a:Int)).length=u.length) {a:Nat} (ha:a<u.length) {r:Bool}
    (H:Ev (fun k=>spec_OrderOk.l2 k u u.length ((a+1:Nat):Int)) r) (b:Nat) (hb:b≤u.length) :
    Ev (fun k=>spec_OrderOk.l3 k u u.length a b) (allF u.length (p3 u a) b&&r):=by
  refine down u.length (fun b=>Ev (fun k=>spec_OrderOk.l3 k u u.length a b) (allF u.length (p3 u a) b&&r)) ?_ ?_ b hb
  · refine Ev.step (fun k=>spec_OrderOk.l3.eq_2 ..) ?_
    refine Ev.neg (by omega) ?_
    rw [allF_end (Nat.le_refl _),Bool.true_and,wrap_succ a (by omega)]
    exact H
  · intro b hb ih
    have h1:=HR a ha
    have h2:=HR b hb
    have key : ∀ x:Bool,Ev (fun k=>spec_OrderOk.j4 k u u.length a b x) (!x&&allF u.length (p4 u a b) 0&&allF u.length (p3 u a) (b+1)&&r):=by
      intro x
      refine Ev.step (fun k=>spec_OrderOk.j4.eq_2 ..) ?_
      cases x with
      | true=>exact Ev.pos rfl (Ev.ret (by simp))
      | false =>
        refine Ev.neg Bool.false_ne_true ?_
        exact Ev.to (so_l4 hn HR ha hb ih 0 (Nat.zero_le _)) (by simp [Bool.and_assoc])
    refine Ev.step (fun k=>spec_OrderOk.l3.eq_2 ..) ?_
    refine Ev.pos (by omega) ?_
    rw [allF_step hb]
    by_cases e:a=b
    · refine Ev.pos (by omega) ?_
      repeat (refine Ev.pos (by omega) ?_)
      by_cases k1:rdN u a b=0
      · exact Ev.pos k1 (Ev.to (key true) (by rw [p3,if_pos e,decide_eq_true k1]))
      · exact Ev.neg k1 (Ev.to (key false) (by rw [p3,if_pos e,decide_eq_false k1]))
    · refine Ev.neg (by omega) ?_
      repeat (refine Ev.pos (by omega) ?_)
      by_cases k1:rdN u a b=1
      · refine Ev.pos k1 ?_
        repeat (refine Ev.pos (by omega) ?_)
        refine Ev.to (key _) ?_
        rw [p3,if_neg e,decide_eq_true k1,Bool.true_and]
        rfl
      · refine Ev.neg k1 (Ev.to (key false) ?_)
        rw [p3,if_neg e,decide_eq_false k1,Bool.false_and]
theorem so_l2 (hn:u.length≤12) (HR : ∀ a,a<u.length→(rd_L1 u (a:Int)).length=u.length) (a:Nat) (ha:a≤u.length) :
    Ev (fun k=>spec_OrderOk.l2 k u u.length a) (allF u.length (fun a=>allF u.length (p3 u a) 0) a):=by
  refine down u.length (fun a=>Ev (fun k=>spec_OrderOk.l2 k u u.length a) (allF u.length (fun a=>allF u.length (p3 u a) 0) a)) ?_ ?_ a ha
  · refine Ev.step (fun k=>spec_OrderOk.l2.eq_2 ..) ?_
    refine Ev.neg (by omega) ?_
    exact Ev.ret (allF_end (Nat.le_refl _)).symm
  · intro a ha ih
    refine Ev.step (fun k=>spec_OrderOk.l2.eq_2 ..) ?_
    refine Ev.pos (by omega) ?_
    rw [allF_step ha]
    exact so_l3 hn HR ha ih 0 (Nat.zero_le _)
theorem so_l1 (hn:u.length≤12) {a:Nat} (ha:a<u.length) (HR:(rd_L1 u (a:Int)).length=u.length) {r:Bool}
    (H:Ev (fun k=>spec_OrderOk.l0 k u u.length ((a+1:Nat):Int)) r) (b:Nat) (hb:b≤u.length) :
    Ev (fun k=>spec_OrderOk.l1 k u u.length a b) (allF u.length (p1 u a) b&&r):=by
  refine down u.length (fun b=>Ev (fun k=>spec_OrderOk.l1 k u u.length a b) (allF u.length (p1 u a) b&&r)) ?_ ?_ b hb
  · refine Ev.step (fun k=>spec_OrderOk.l1.eq_2 ..) ?_
    refine Ev.neg (by omega) ?_
    rw [allF_end (Nat.le_refl _),Bool.true_and,wrap_succ a (by omega)]
    exact H
  · intro b hb ih
    refine Ev.step (fun k=>spec_OrderOk.l1.eq_2 ..) ?_
    repeat (refine Ev.pos (by omega) ?_)
    refine Ev.bindc (l1In_eq _ _ _) ?_
    rw [allF_step hb,wrap_succ b (by omega)]
    cases hp:p1 u a b with
    | true=>exact Ev.tt hp (Ev.to ih (by simp))
    | false=>exact Ev.ff hp (Ev.ret (by simp))
theorem so_l0 (hn:u.length≤12) (a:Nat) (ha:a≤u.length):(∀ c,c<a→(rd_L1 u (c:Int)).length=u.length) →
    Ev (fun k=>spec_OrderOk.l0 k u u.length a) (allF u.length (p0 u) a&&allF u.length (fun a=>allF u.length (p3 u a) 0) 0):=by
  refine down u.length (fun a=>(∀ c,c<a→(rd_L1 u (c:Int)).length=u.length) →
    Ev (fun k=>spec_OrderOk.l0 k u u.length a) (allF u.length (p0 u) a&&allF u.length (fun a=>allF u.length (p3 u a) 0) 0)) ?_ ?_ a ha
  · intro HR
    refine Ev.step (fun k=>spec_OrderOk.l0.eq_2 ..) ?_
    refine Ev.neg (by omega) ?_
    rw [allF_end (Nat.le_refl _),Bool.true_and]
    exact so_l2 hn HR 0 (Nat.zero_le _)
  · intro a ha ih HR
    refine Ev.step (fun k=>spec_OrderOk.l0.eq_2 ..) ?_
    repeat (refine Ev.pos (by omega) ?_)
    rw [allF_step ha]
    by_cases e:(rd_L1 u (a:Int)).length=u.length
    · refine Ev.pos (by omega) ?_
      have k:=so_l1 hn ha e (ih (fun c hc=>by
        by_cases e2:c=a
        · rw [e2];exact e
        · exact HR c (by omega))) 0 (Nat.zero_le _)
      refine Ev.to k ?_
      rw [p0,decide_eq_true (show (u.getD a []).length=u.length from e),Bool.true_and,Bool.and_assoc]
    · refine Ev.neg (by omega) ?_
      refine Ev.ret ?_
      rw [p0,decide_eq_false (show ¬(u.getD a []).length=u.length from e)]
      simp
end
theorem ord_of_loops (u:List (List Int)) (h1:1≤u.length) (h2:u.length≤12) :
    (allF u.length (p0 u) 0&&allF u.length (fun a=>allF u.length (p3 u a) 0) 0)=decide (Ord u):=by
  rw [Bool.eq_iff_iff,Bool.and_eq_true,allF0,allF0,decide_eq_true_iff]
  constructor
  · intro ⟨k0,k3⟩
    have rows : ∀ a,a<u.length→(u.getD a []).length=u.length:=fun a ha=>by
      have:=k0 a ha
      rw [p0,Bool.and_eq_true] at this
      exact of_decide_eq_true this.1
    have bits : ∀ a,a<u.length→∀ b,b<u.length→rdN u a b=0∨rdN u a b=1:=fun a ha b hb=>by
      have:=k0 a ha
      rw [p0,Bool.and_eq_true,allF0] at this
      have:=of_decide_eq_true (this.2 b hb)
      omega
    have ps : ∀ a,a<u.length→∀ b,b<u.length→p3 u a b=true:=fun a ha b hb=>allF0.1 (k3 a ha) b hb
    refine ⟨h1,h2,rows,bits,?_,?_,?_⟩
    · intro a ha
      have:=ps a ha a ha
      rw [p3,if_pos rfl,Bool.and_eq_true,Bool.not_eq_true',decide_eq_false_iff_not] at this
      rcases bits a ha a ha with k|k
      · exact absurd k this.1
      · exact k
    · intro a ha b hb k l
      have:=ps a ha b hb
      by_cases e:a=b
      · exact e
      · rw [p3,if_neg e,k,l] at this
        simp at this
    · intro a ha b hb c hc k l
      have:=ps a ha b hb
      rw [p3,Bool.and_eq_true,allF0] at this
      have:=this.2 c hc
      rcases bits a ha c hc with m|m
      · rw [p4,k,l,m] at this
        simp at this
      · exact m
  · intro h
    refine ⟨fun a ha=>?_,fun a ha=>allF0.2 fun b hb=>?_⟩
    · rw [p0,Bool.and_eq_true,allF0]
      refine ⟨decide_eq_true (h.row ha),fun b hb=>decide_eq_true ?_⟩
      have:=h.bit ha hb
      omega
    · rw [p3, Bool.and_eq_true,allF0]
      constructor
      · by_cases e:a=b
        · subst e
          rw [if_pos rfl,h.refl ha]
          rfl
        · rw [if_neg e,Bool.not_eq_true',Bool.and_eq_false_iff,decide_eq_false_iff_not,decide_eq_false_iff_not]
          by_cases k:rdN u a b=1
          · exact .inr fun l=>e (h.anti ha hb k l)
          · exact .inl k
      · intro c hc
        rw [p4,Bool.not_eq_true']
        by_cases k:rdN u a b=1
        · by_cases l:rdN u b c=1
          · rw [h.trans ha hb hc k l]
            simp
          · simp [l]
        · simp [k]
theorem spec_ord (u:List (List Int)):Ev (fun k=>spec_OrderOk.f k u) (decide (Ord u)):=by
 unfold spec_OrderOk.f
 refine Ev.bindc (l1In_eq _ _ _) ?_
 by_cases h:1≤u.length∧u.length≤12
 ·refine Ev.tt (decide_eq_true (by omega)) ?_
  exact Ev.to (so_l0 h.2 0 (Nat.zero_le _) (fun c hc=>by omega)) (ord_of_loops u h.1 h.2)
 ·refine Ev.ff (decide_eq_false (by omega)) ?_
  exact Ev.ret (decide_eq_false (fun k=>h ⟨k.1,k.2.1⟩)).symm

section
variable (u:List (List Int))
def q4 (a b c:Nat):Bool := !(decide (rdN u a b=1)&&decide (rdN u b c=1) && !decide (rdN u a c=1))
def q1 (a b:Nat):Bool:=(decide (rdN u a b=0)||decide (rdN u a b=1))&&decide ((u.getD b []).length=u.length) && !(decide (rdN u a b=1) && !decide (a=b)&&decide (rdN u b a=1))
def q0 (a:Nat):Bool:=decide ((u.getD a []).length=u.length)&&decide (rdN u a a=1)&&allF u.length (q1 u a) 0
variable {u}
theorem io_l4 (hn:u.length≤12) (HR : ∀ a,a<u.length→(rd_L1 u (a:Int)).length=u.length) {a b:Nat} (ha:a<u.length) (hb:b<u.length) {r:Bool}
    (H:Ev (fun k=>impl_OrderOk.l3 k u u.length a u.length a u.length ((b+1:Nat):Int)) r) (c:Nat) (hc:c≤u.length) :
    Ev (fun k=>impl_OrderOk.l4 k u u.length a b u.length a u.length b u.length c) (allF u.length (q4 u a b) c&&r):=by
  refine down u.length (fun c=>Ev (fun k=>impl_OrderOk.l4 k u u.length a b u.length a u.length b u.length c) (allF u.length (q4 u a b) c&&r)) ?_ ?_ c hc
  · refine Ev.step (fun k=>impl_OrderOk.l4.eq_2 ..) ?_
    refine Ev.neg (by omega) ?_
    rw [allF_end (Nat.le_refl _),Bool.true_and,wrap_succ b (by omega)]
    exact H
  · intro c hc ih
    have h1:=HR a ha
    have h2:=HR b hb
    refine Ev.step (fun k=>impl_OrderOk.l4.eq_2 ..) ?_
    repeat (refine Ev.pos (by omega) ?_)
    rw [allF_step hc,wrap_succ c (by omega)]
    by_cases k1:rdN u a b=1
    · refine Ev.pos k1 ?_
      repeat (refine Ev.pos (by omega) ?_)
      by_cases k2:rdN u b c=1
      · refine Ev.pos k2 ?_
        repeat (refine Ev.pos (by omega) ?_)
        by_cases k3:rdN u a c=1
        · refine Ev.pos k3 ?_
          exact Ev.to ih (by simp [q4,k3])
        · refine Ev.neg k3 ?_
          exact Ev.ret (by simp [q4,k1,k2,k3])
      · refine Ev.neg k2 ?_
        exact Ev.to ih (by simp [q4,k2])
    · refine Ev.neg k1 ?_
      exact Ev.to ih (by simp [q4,k1])
theorem io_l3 (hn:u.length≤12) (HR : ∀ a,a<u.length→(rd_L1 u (a:Int)).length=u.length) {a:Nat} (ha:a<u.length) {r:Bool}
    (H:Ev (fun k=>impl_OrderOk.l2 k u u.length u.length ((a+1:Nat):Int)) r) (b:Nat) (hb:b≤u.length) :
    Ev (fun k=>impl_OrderOk.l3 k u u.length a u.length a u.length b) (allF u.length (fun b=>allF u.length (q4 u a b) 0) b&&r):=by
  refine down u.length (fun b=>Ev (fun k=>impl_OrderOk.l3 k u u.length a u.length a u.length b) (allF u.length (fun b=>allF u.length (q4 u a b) 0) b&&r)) ?_ ?_ b hb
  · refine Ev.step (fun k=>impl_OrderOk.l3.eq_2 ..) ?_
    refine Ev.neg (by omega) ?_
    rw [allF_end (Nat.le_refl _),Bool.true_and,wrap_succ a (by omega)]
    exact H
  · intro b hb ih
    refine Ev.step (fun k=>impl_OrderOk.l3.eq_2 ..) ?_
    refine Ev.pos (by omega) ?_
    rw [allF_step hb,Bool.and_assoc]
    exact io_l4 hn HR ha hb ih 0 (Nat.zero_le _)
theorem io_l2 (hn:u.length≤12) (HR : ∀ a,a<u.length→(rd_L1 u (a:Int)).length=u.length) (a:Nat) (ha:a≤u.length) :
    Ev (fun k=>impl_OrderOk.l2 k u u.length u.length a) (allF u.length (fun a=>allF u.length (fun b=>allF u.length (q4 u a b) 0) 0) a):=by
  refine down u.length (fun a=>Ev (fun k=>impl_OrderOk.l2 k u u.length u.length a) (allF u.length (fun a=>allF u.length (fun b=>allF u.length (q4 u a b) 0) 0) a)) ?_ ?_ a ha
  · refine Ev.step (fun k=>impl_OrderOk.l2.eq_2 ..) ?_
    refine Ev.neg (by omega) ?_
    exact Ev.ret (allF_end (Nat.le_refl _)).symm
  · intro a ha ih
    refine Ev.step (fun k=>impl_OrderOk.l2.eq_2 ..) ?_
    refine Ev.pos (by omega) ?_
    rw [allF_step ha]
    exact io_l3 hn HR ha ih 0 (Nat.zero_le _)
theorem io_l1 (hn:u.length≤12) {a:Nat} (ha:a<u.length) (h1:(rd_L1 u (a:Int)).length=u.length) {r:Bool}
    (H:Ev (fun k=>impl_OrderOk.l0 k u u.length u u.length ((a+1:Nat):Int)) r) (b:Nat) (hb:b≤u.length) :
    Ev (fun k=>impl_OrderOk.l1 k u u.length a u u.length a (rd_L1 u (a:Int)) u.length b) (allF u.length (q1 u a) b&&r):=by
  refine down u.length (fun b=>Ev (fun k=>impl_OrderOk.l1 k u u.length a u u.length a (rd_L1 u (a:Int)) u.length b) (allF u.length (q1 u a) b&&r)) ?_ ?_ b hb
  · refine Ev.step (fun k=>impl_OrderOk.l1.eq_2 ..) ?_
    refine Ev.neg (by omega) ?_
    rw [allF_end (Nat.le_refl _),Bool.true_and,wrap_succ a (by omega)]
    exact H
  · intro b hb ih
    have key : ∀ x:Bool,x = !(decide (rdN u a b=0)||decide (rdN u a b=1))→Ev (fun k=>impl_OrderOk.j4 k u u.length a b (rd (rd_L1 u (a:Int)) (b:Int)) u u.length a (rd_L1 u (a:Int)) u.length b x) (q1 u a b&&allF u.length (q1 u a) (b+1)&&r):=by
      intro x hx
      refine Ev.step (fun k=>impl_OrderOk.j4.eq_2 ..) ?_
      have hx':(decide (rdN u a b=0)||decide (rdN u a b=1)) = !x:=by rw [hx,Bool.not_not]
      cases x with
      | true=>exact Ev.pos rfl (Ev.ret (by simp [q1,hx']))
      | false =>
        refine Ev.neg Bool.false_ne_true ?_
        repeat (refine Ev.pos (by omega) ?_)
        by_cases k1:(rd_L1 u (b:Int)).length=u.length
        · refine Ev.pos (by omega) ?_
          have k1':(u.getD b []).length=u.length:=k1
          rw [wrap_succ b (by omega)]
          by_cases k2:rdN u a b=1
          · refine Ev.pos k2 ?_
            by_cases e:a=b
            · refine Ev.pos (by omega) ?_
              exact Ev.to ih (by rw [q1,hx',decide_eq_true k1',decide_eq_true e];simp)
            · refine Ev.neg (by omega) ?_
              repeat (refine Ev.pos (by omega) ?_)
              by_cases k3:rdN u b a=1
              · exact Ev.pos k3 (Ev.ret (by rw [q1,hx',decide_eq_true k1',decide_eq_true k2,decide_eq_true k3,decide_eq_false e];simp))
              · exact Ev.neg k3 (Ev.to ih (by rw [q1,hx',decide_eq_true k1',decide_eq_false k3];simp))
          · exact Ev.neg k2 (Ev.to ih (by rw [q1,hx',decide_eq_true k1',decide_eq_false k2];simp))
        · refine Ev.neg (by omega) ?_
          have k1' : ¬(u.getD b []).length=u.length:=k1
          exact Ev.ret (by rw [q1,decide_eq_false k1'];simp)
    refine Ev.step (fun k=>impl_OrderOk.l1.eq_2 ..) ?_
    rw [h1]
    repeat (refine Ev.pos (by omega) ?_)
    rw [allF_step hb]
    by_cases k1:rdN u a b=0
    · exact Ev.pos k1 (key false (by rw [decide_eq_true k1];rfl))
    · refine Ev.neg k1 (key _ ?_)
      rw [decide_eq_false k1,Bool.false_or]
      rfl
theorem io_l0 (hn:u.length≤12) (a:Nat) (ha:a≤u.length):(∀ c,c<a→(rd_L1 u (c:Int)).length=u.length) →
    Ev (fun k=>impl_OrderOk.l0 k u u.length u u.length a) (allF u.length (q0 u) a&&allF u.length (fun a=>allF u.length (fun b=>allF u.length (q4 u a b) 0) 0) 0):=by
  refine down u.length (fun a=>(∀ c,c<a→(rd_L1 u (c:Int)).length=u.length) →
    Ev (fun k=>impl_OrderOk.l0 k u u.length u u.length a) (allF u.length (q0 u) a&&allF u.length (fun a=>allF u.length (fun b=>allF u.length (q4 u a b) 0) 0) 0)) ?_ ?_ a ha
  · intro HR
    refine Ev.step (fun k=>impl_OrderOk.l0.eq_2 ..) ?_
    refine Ev.neg (by omega) ?_
    rw [allF_end (Nat.le_refl _),Bool.true_and]
    exact io_l2 hn HR 0 (Nat.zero_le _)
  · intro a ha ih HR
    refine Ev.step (fun k=>impl_OrderOk.l0.eq_2 ..) ?_
    repeat (refine Ev.pos (by omega) ?_)
    rw [allF_step ha]
    by_cases e:(rd_L1 u (a:Int)).length=u.length
    · refine Ev.pos (by omega) ?_
      refine Ev.pos (by omega) ?_
      have e':(u.getD a []).length=u.length:=e
      refine Ev.step (fun k=>impl_OrderOk.j2.eq_2 ..) ?_
      by_cases k1:rdN u a a=1
      · refine Ev.ff (show (rd (rd_L1 u (a:Int)) (a:Int) != 1)=false from bne_eq_false_iff_eq.2 k1) ?_
        rw [e]
        refine Ev.to (io_l1 hn ha e (ih (fun c hc=>by
          by_cases e2:c=a
          · rw [e2];exact e
          · exact HR c (by omega))) 0 (Nat.zero_le _)) ?_
        rw [q0,decide_eq_true e',decide_eq_true k1,Bool.true_and,Bool.true_and,Bool.and_assoc]
      · refine Ev.tt (show (rd (rd_L1 u (a:Int)) (a:Int) != 1)=true from bne_iff_ne.2 k1) ?_
        exact Ev.ret (by rw [q0,decide_eq_false k1];simp)
    · refine Ev.neg (by omega) ?_
      refine Ev.step (fun k=>impl_OrderOk.j2.eq_2 ..) ?_
      refine Ev.pos rfl (Ev.ret ?_)
      rw [q0,decide_eq_false (show ¬(u.getD a []).length=u.length from e)]
      simp
end
theorem ord_of_loops' (u:List (List Int)) (h1:1≤u.length) (h2:u.length≤12) :
    (allF u.length (q0 u) 0&&allF u.length (fun a=>allF u.length (fun b=>allF u.length (q4 u a b) 0) 0) 0)=decide (Ord u):=by
  rw [Bool.eq_iff_iff,Bool.and_eq_true,allF0,allF0,decide_eq_true_iff]
  constructor
  · intro ⟨k0,k4⟩
    have all0 : ∀ a,a<u.length→(u.getD a []).length=u.length∧rdN u a a=1∧∀ b,b<u.length→q1 u a b=true:=fun a ha=>by
      have:=k0 a ha
      rw [q0,Bool.and_eq_true,Bool.and_eq_true,decide_eq_true_iff,decide_eq_true_iff,allF0] at this
      exact ⟨this.1.1,this.1.2,this.2⟩
    refine ⟨h1,h2,fun a ha=>(all0 a ha).1,?_,fun a ha=>(all0 a ha).2.1,?_,?_⟩
    · intro a ha b hb
      have:=(all0 a ha).2.2 b hb
      simp only [q1,Bool.and_eq_true,Bool.or_eq_true,decide_eq_true_iff] at this
      exact this.1.1
    · intro a ha b hb k l
      have:=(all0 a ha).2.2 b hb
      by_cases e:a=b
      · exact e
      · simp [q1,k,l,e] at this
    · intro a ha b hb c hc k l
      have:=allF0.1 (allF0.1 (k4 a ha) b hb) c hc
      simpa [q4,k,l] using this
  · intro h
    refine ⟨fun a ha=>?_,fun a ha=>allF0.2 fun b hb=>allF0.2 fun c hc=>?_⟩
    · rw [q0,Bool.and_eq_true,Bool.and_eq_true,decide_eq_true_iff,decide_eq_true_iff,allF0]
      refine ⟨⟨h.row ha,h.refl ha⟩,fun b hb=>?_⟩
      rw [q1,Bool.and_eq_true,Bool.and_eq_true,Bool.or_eq_true,decide_eq_true_iff,decide_eq_true_iff,decide_eq_true_iff,Bool.not_eq_true']
      refine ⟨⟨h.bit ha hb,h.row hb⟩,?_⟩
      by_cases k:rdN u a b=1
      · by_cases l:rdN u b a=1
        · simp [h.anti ha hb k l]
        · simp [l]
      · simp [k]
    · rw [q4,Bool.not_eq_true']
      by_cases k:rdN u a b=1
      · by_cases l:rdN u b c=1
        · simp [h.trans ha hb hc k l]
        · simp [l]
      · simp [k]
theorem impl_ord (u:List (List Int)):Ev (fun k=>impl_OrderOk.f k u) (decide (Ord u)):=by
 unfold impl_OrderOk.f
 by_cases h1:1≤u.length
 ·refine Ev.neg (by omega) ?_
  refine Ev.step (fun k=>impl_OrderOk.j0.eq_2 ..) ?_
  by_cases h2:u.length≤12
  ·refine Ev.ff (decide_eq_false (by omega)) ?_
   exact Ev.to (io_l0 h2 0 (Nat.zero_le _) (fun c hc=>by omega)) (ord_of_loops' u h1 h2)
  ·refine Ev.tt (decide_eq_true (by omega)) ?_
   exact Ev.ret (decide_eq_false (fun k=>h2 k.2.1)).symm
 ·refine Ev.pos (by omega) ?_
  refine Ev.step (fun k=>impl_OrderOk.j0.eq_2 ..) ?_
  exact Ev.pos rfl (Ev.ret (decide_eq_false (fun k=>h1 k.1)).symm)
theorem isAnswer_eq (u:List (List Int)) (a:Int):impl_isAnswer.f u a=some (decide (0≤a∧a<u.length)):=by
 unfold impl_isAnswer.f
 by_cases h:a≥0
 ·rw [if_pos h]
  congr 1
  rw [decide_eq_decide]
  exact ⟨fun k=>⟨h,k⟩,fun k=>k.2⟩
 ·rw [if_neg h]
  congr 1
  symm
  rw [decide_eq_false_iff_not]
  exact fun k=>h k.1
theorem len_pred {u:List (List Int)} (h:Ord u):wrap64 ((u.length:Int)-1)=(u.length:Int)-1:=by
 have:=h.le12
 exact wrap_of _ (by omega) (by omega)

section
variable (u:List (List Int))
def pm (a b c d:Nat):Bool:=decide (rdN u d a=0)||decide (rdN u d b=0)||decide (rdN u d c=1)
variable {u}
theorem row_len (h:Ord u) {a:Nat} (ha:a<u.length):(rd_L1 u (a:Int)).length=u.length:=h.row ha
theorem isMeet_iff (h:Ord u) {a b c:Nat} (ha:a<u.length) (hb:b<u.length) (hc:c<u.length) :
    IsMeet u a b c↔rdN u c a=1∧rdN u c b=1∧allF u.length (pm u a b c) 0=true:=by
  unfold IsMeet
  rw [allF0]
  constructor
  · intro ⟨_,k1,k2,k3⟩
    refine ⟨k1,k2,fun d hd=>?_⟩
    simp only [pm,Bool.or_eq_true,decide_eq_true_iff]
    rcases h.bit hd ha with m|m
    · exact .inl (.inl m)
    · rcases h.bit hd hb with l|l
      · exact .inl (.inr l)
      · exact .inr (k3 d hd m l)
  · intro ⟨k1,k2,k3⟩
    refine ⟨hc,k1,k2,fun d hd m l=>?_⟩
    have:=k3 d hd
    simp only [pm,Bool.or_eq_true,decide_eq_true_iff] at this
    rcases this with (z|z)|z
    · omega
    · omega
    · exact z

theorem im_l1 (h:Ord u) {a b c:Nat} (ha:a<u.length) (hb:b<u.length) (hc:c<u.length) {r:Int}
    (H:Ev (fun k=>impl_meet.l0 k u a b u.length ((c+1:Nat):Int)) r) (d:Nat) (hd:d≤u.length) :
    ∀ g:Bool,Ev (fun k=>impl_meet.l1 k u a b c g u.length c u.length d) (if (g&&allF u.length (pm u a b c) d)=true then (c:Int) else r):=by
  have hn:=h.le12
  refine down u.length (fun d=>∀ g:Bool,Ev (fun k=>impl_meet.l1 k u a b c g u.length c u.length d) (if (g&&allF u.length (pm u a b c) d)=true then (c:Int) else r)) ?_ ?_ d hd
  · intro g
    refine Ev.step (fun k=>impl_meet.l1.eq_2 ..) ?_
    refine Ev.neg (by omega) ?_
    rw [allF_end (Nat.le_refl _),Bool.and_true]
    cases g with
    | true=>exact Ev.pos rfl (Ev.ret (by simp))
    | false =>
      refine Ev.neg Bool.false_ne_true ?_
      rw [wrap_succ c (by omega)]
      exact Ev.to H (by simp)
  · intro d hd ih g
    have h1:=row_len h hd
    refine Ev.step (fun k=>impl_meet.l1.eq_2 ..) ?_
    refine Ev.pos (by omega) ?_
    rw [allF_step hd,wrap_succ d (by omega)]
    cases g with
    | false =>
      refine Ev.neg Bool.false_ne_true ?_
      exact Ev.to (ih false) (by simp)
    | true =>
      refine Ev.pos rfl ?_
      repeat (refine Ev.pos (by omega) ?_)
      by_cases k1:rdN u d a=0
      · exact Ev.pos k1 (Ev.to (ih true) (by simp [pm,k1]))
      · refine Ev.neg k1 ?_
        repeat (refine Ev.pos (by omega) ?_)
        by_cases k2:rdN u d b=0
        · exact Ev.pos k2 (Ev.to (ih true) (by simp [pm,k2]))
        · refine Ev.neg k2 ?_
          repeat (refine Ev.pos (by omega) ?_)
          refine Ev.to (ih _) ?_
          rw [pm,decide_eq_false k1,decide_eq_false k2]
          rfl
theorem im_l0 (h:Ord u) {a b:Nat} (ha:a<u.length) (hb:b<u.length) (c:Nat) (hc:c≤u.length) :
    Ev (fun k=>impl_meet.l0 k u a b u.length c) (firstF u.length (fun c=>decide (IsMeet u a b c)) c):=by
  have hn:=h.le12
  refine down u.length (fun c=>Ev (fun k=>impl_meet.l0 k u a b u.length c) (firstF u.length (fun c=>decide (IsMeet u a b c)) c)) ?_ ?_ c hc
  · refine Ev.step (fun k=>impl_meet.l0.eq_2 ..) ?_
    refine Ev.neg (by omega) ?_
    exact Ev.ret (firstF_end (Nat.le_refl _)).symm
  · intro c hc ih
    have h1:=row_len h hc
    have key : ∀ x:Bool,x=(decide (rdN u c a=0)||decide (rdN u c b=0))→Ev (fun k=>impl_meet.j1 k u a b c u.length c x) (firstF u.length (fun c=>decide (IsMeet u a b c)) c):=by
      intro x hx
      refine Ev.step (fun k=>impl_meet.j1.eq_2 ..) ?_
      rw [firstF_step hc]
      cases x with
      | true =>
        refine Ev.pos rfl ?_
        rw [wrap_succ c (by omega)]
        refine Ev.to ih ?_
        rw [if_neg]
        rw [decide_eq_true_iff,isMeet_iff h ha hb hc]
        simp only [Bool.true_eq,Bool.or_eq_true,decide_eq_true_iff] at hx
        omega
      | false =>
        refine Ev.neg Bool.false_ne_true ?_
        refine Ev.to (im_l1 h ha hb hc ih 0 (Nat.zero_le _) true) ?_
        simp only [Bool.false_eq,Bool.or_eq_false_iff,decide_eq_false_iff_not] at hx
        have z1:=(h.ne0 hc ha).1 hx.1
        have z2:=(h.ne0 hc hb).1 hx.2
        by_cases e:allF u.length (pm u a b c) 0=true
        · rw [if_pos (by rw [e];rfl),if_pos (by rw [decide_eq_true_iff,isMeet_iff h ha hb hc];exact ⟨z1,z2,e⟩)]
        · rw [if_neg (by rw [Bool.true_and];exact e),if_neg (by rw [decide_eq_true_iff,isMeet_iff h ha hb hc];exact fun k=>e k.2.2)]
    refine Ev.step (fun k=>impl_meet.l0.eq_2 ..) ?_
    repeat (refine Ev.pos (by omega) ?_)
    by_cases k1:rdN u c a=0
    · exact Ev.pos k1 (key true (by rw [decide_eq_true k1];rfl))
    · refine Ev.neg k1 ?_
      repeat (refine Ev.pos (by omega) ?_)
      refine key _ ?_
      rw [decide_eq_false k1,Bool.false_or]
      rfl
theorem impl_meet_ev (h:Ord u) {a b:Nat} (ha:a<u.length) (hb:b<u.length):Ev (fun k=>impl_meet.f k u a b) (meetI u a b):=by
 unfold impl_meet.f
 exact im_l0 h ha hb 0 (Nat.zero_le _)

theorem sm_l1 (h:Ord u) {a b m:Nat} (ha:a<u.length) (hb:b<u.length) (hm:m<u.length) (d:Nat) (hd:d≤u.length) :
    Ev (fun k=>spec_l1Meet.l1 k u a b m d) (if allF u.length (pm u a b m) d=true then (m:Int) else -1):=by
  have hn:=h.le12
  refine down u.length (fun d=>Ev (fun k=>spec_l1Meet.l1 k u a b m d) (if allF u.length (pm u a b m) d=true then (m:Int) else -1)) ?_ ?_ d hd
  · refine Ev.step (fun k=>spec_l1Meet.l1.eq_2 ..) ?_
    refine Ev.neg (by omega) ?_
    rw [allF_end (Nat.le_refl _)]
    exact Ev.ret (by simp)
  · intro d hd ih
    have h1:=row_len h hd
    refine Ev.step (fun k=>spec_l1Meet.l1.eq_2 ..) ?_
    repeat (refine Ev.pos (by omega) ?_)
    rw [allF_step hd,wrap_succ d (by omega)]
    by_cases k1:rdN u d a=1
    · refine Ev.pos k1 ?_
      repeat (refine Ev.pos (by omega) ?_)
      by_cases k2:rdN u d b=1
      · refine Ev.pos k2 ?_
        repeat (refine Ev.pos (by omega) ?_)
        by_cases k3:rdN u d m=0
        · exact Ev.pos k3 (Ev.ret (by simp [pm,k1,k2,k3]))
        · exact Ev.neg k3 (Ev.to ih (by simp [pm,(h.ne0 hd hm).1 k3]))
      · exact Ev.neg k2 (Ev.to ih (by simp [pm,(h.ne1 hd hb).1 k2]))
    · exact Ev.neg k1 (Ev.to ih (by simp [pm,(h.ne1 hd ha).1 k1]))
theorem sm_l1' (h:Ord u) {a b:Nat} (ha:a<u.length) (hb:b<u.length) (no : ∀ d,d<u.length→¬(rdN u d a=1∧rdN u d b=1)) (d:Nat) (hd:d≤u.length) :
    Ev (fun k=>spec_l1Meet.l1 k u a b (-1) d) (-1):=by
  have hn:=h.le12
  refine down u.length (fun d=>Ev (fun k=>spec_l1Meet.l1 k u a b (-1) d) (-1)) ?_ ?_ d hd
  · refine Ev.step (fun k=>spec_l1Meet.l1.eq_2 ..) ?_
    exact Ev.neg (by omega) (Ev.ret rfl)
  · intro d hd ih
    have h1:=row_len h hd
    refine Ev.step (fun k=>spec_l1Meet.l1.eq_2 ..) ?_
    repeat (refine Ev.pos (by omega) ?_)
    rw [wrap_succ d (by omega)]
    by_cases k1:rdN u d a=1
    · refine Ev.pos k1 ?_
      repeat (refine Ev.pos (by omega) ?_)
      exact Ev.neg (fun k2=>no d hd ⟨k1,k2⟩) ih
    · exact Ev.neg k1 ih
theorem sm_l0 (h:Ord u) {a b:Nat} (ha:a<u.length) (hb:b<u.length) (c:Nat) (hc:c≤u.length) :
    ∀ β:Int,((β = -1∧∀ d,d<c→¬(rdN u d a=1∧rdN u d b=1))∨∃ m:Nat,β=m∧m<u.length∧rdN u m a=1∧rdN u m b=1∧∀ g,IsMeet u a b g→g<c→m=g) →
    Ev (fun k=>spec_l1Meet.l0 k u a b β c) (meetI u a b):=by
  have hn:=h.le12
  refine down u.length (fun c=>∀ β:Int,((β = -1∧∀ d,d<c→¬(rdN u d a=1∧rdN u d b=1))∨∃ m:Nat,β=m∧m<u.length∧rdN u m a=1∧rdN u m b=1∧∀ g,IsMeet u a b g→g<c→m=g) →
    Ev (fun k=>spec_l1Meet.l0 k u a b β c) (meetI u a b)) ?_ ?_ c hc
  · intro β hβ
    refine Ev.step (fun k=>spec_l1Meet.l0.eq_2 ..) ?_
    refine Ev.neg (by omega) ?_
    rcases hβ with ⟨rfl,no⟩|⟨m,rfl,hm,m1,m2,hg⟩
    · refine Ev.to (sm_l1' h ha hb no 0 (Nat.zero_le _)) ?_
      rcases meetI_cases u a b with ⟨e,_⟩|⟨c,_,hc⟩
      · exact e.symm
      · exact absurd ⟨hc.2.1,hc.2.2.1⟩ (no c hc.1)
    · refine Ev.to (sm_l1 h ha hb hm 0 (Nat.zero_le _)) ?_
      by_cases e:allF u.length (pm u a b m) 0=true
      · rw [if_pos e,meetI_of h ((isMeet_iff h ha hb hm).2 ⟨m1,m2,e⟩)]
      · rw [if_neg e]
        rcases meetI_cases u a b with ⟨e',_⟩|⟨c,_,hc⟩
        · exact e'.symm
        · have:=hg c hc hc.1
          subst this
          exact absurd ((isMeet_iff h ha hb hm).1 hc).2.2 e
  · intro c hc ih β hβ
    have h1:=row_len h hc
    refine Ev.step (fun k=>spec_l1Meet.l0.eq_2 ..) ?_
    repeat (refine Ev.pos (by omega) ?_)
    rw [wrap_succ c (by omega)]
    have stay : ¬(rdN u c a=1∧rdN u c b=1)→Ev (fun k=>spec_l1Meet.l0 k u a b β ((c+1:Nat):Int)) (meetI u a b):=by
      intro no
      refine ih β ?_
      rcases hβ with ⟨rfl,k⟩|⟨m,rfl,hm,m1,m2,hg⟩
      · refine .inl ⟨rfl,fun d hd=>?_⟩
        by_cases e:d=c
        · rw [e];exact no
        · exact k d (by omega)
      · refine .inr ⟨m,rfl,hm,m1,m2,fun g gm hgc=>?_⟩
        by_cases e:g=c
        · subst e
          exact absurd ⟨gm.2.1,gm.2.2.1⟩ no
        · exact hg g gm (by omega)
    by_cases k1:rdN u c a=1
    · refine Ev.pos k1 ?_
      repeat (refine Ev.pos (by omega) ?_)
      by_cases k2:rdN u c b=1
      · refine Ev.pos k2 ?_
        rcases hβ with ⟨rfl,k⟩|⟨m,rfl,hm,m1,m2,hg⟩
        · refine Ev.pos (by omega) (ih c (.inr ⟨c,rfl,hc,k1,k2,fun g gm hgc=>?_⟩))
          by_cases e:g=c
          · exact e.symm
          · exact absurd ⟨gm.2.1,gm.2.2.1⟩ (k g (by omega))
        · have h2:=row_len h hm
          refine Ev.neg (by omega) ?_
          repeat (refine Ev.pos (by omega) ?_)
          by_cases k3:rdN u m c=1
          · refine Ev.pos k3 (ih c (.inr ⟨c,rfl,hc,k1,k2,fun g gm hgc=>?_⟩))
            by_cases e:g=c
            · exact e.symm
            · have:=hg g gm (by omega)
              subst this
              exact (h.anti hm hc k3 (gm.2.2.2 c hc k1 k2)).symm
          · refine Ev.neg k3 (ih m (.inr ⟨m,rfl,hm,m1,m2,fun g gm hgc=>?_⟩))
            by_cases e:g=c
            · subst e
              exact absurd (gm.2.2.2 m hm m1 m2) k3
            · exact hg g gm (by omega)
      · exact Ev.neg k2 (stay (fun k=>k2 k.2))
    · exact Ev.neg k1 (stay (fun k=>k1 k.1))
theorem spec_meet_ev (h:Ord u) {a b:Nat} (ha:a<u.length) (hb:b<u.length):Ev (fun k=>spec_l1Meet.f k u a b) (meetI u a b):=by
 unfold spec_l1Meet.f
 exact sm_l0 h ha hb 0 (Nat.zero_le _) (-1) (.inl ⟨rfl,fun d hd=>by omega⟩)

variable (u) in
def pj (a b c d:Nat):Bool:=decide (rdN u a d=0)||decide (rdN u b d=0)||decide (rdN u c d=1)
theorem isJoin_iff (h:Ord u) {a b c:Nat} (ha:a<u.length) (hb:b<u.length) (hc:c<u.length) :
    IsJoin u a b c↔rdN u a c=1∧rdN u b c=1∧allF u.length (pj u a b c) 0=true:=by
  unfold IsJoin
  rw [allF0]
  constructor
  · intro ⟨_,k1,k2,k3⟩
    refine ⟨k1,k2,fun d hd=>?_⟩
    simp only [pj,Bool.or_eq_true,decide_eq_true_iff]
    rcases h.bit ha hd with m|m
    · exact .inl (.inl m)
    · rcases h.bit hb hd with l|l
      · exact .inl (.inr l)
      · exact .inr (k3 d hd m l)
  · intro ⟨k1,k2,k3⟩
    refine ⟨hc,k1,k2,fun d hd m l=>?_⟩
    have:=k3 d hd
    simp only [pj,Bool.or_eq_true,decide_eq_true_iff] at this
    rcases this with (z|z)|z
    · omega
    · omega
    · exact z
theorem sj_l1 (h:Ord u) {a b m:Nat} (ha:a<u.length) (hb:b<u.length) (hm:m<u.length) (d:Nat) (hd:d≤u.length) :
    Ev (fun k=>spec_l1Join.l1 k u a b m d) (if allF u.length (pj u a b m) d=true then (m:Int) else -1):=by
  have hn:=h.le12
  have h1:=row_len h ha
  have h2:=row_len h hb
  have h3:=row_len h hm
  refine down u.length (fun d=>Ev (fun k=>spec_l1Join.l1 k u a b m d) (if allF u.length (pj u a b m) d=true then (m:Int) else -1)) ?_ ?_ d hd
  · refine Ev.step (fun k=>spec_l1Join.l1.eq_2 ..) ?_
    refine Ev.neg (by omega) ?_
    rw [allF_end (Nat.le_refl _)]
    exact Ev.ret (by simp)
  · intro d hd ih
    refine Ev.step (fun k=>spec_l1Join.l1.eq_2 ..) ?_
    repeat (refine Ev.pos (by omega) ?_)
    rw [allF_step hd,wrap_succ d (by omega)]
    by_cases k1:rdN u a d=1
    · refine Ev.pos k1 ?_
      repeat (refine Ev.pos (by omega) ?_)
      by_cases k2:rdN u b d=1
      · refine Ev.pos k2 ?_
        repeat (refine Ev.pos (by omega) ?_)
        by_cases k3:rdN u m d=0
        · exact Ev.pos k3 (Ev.ret (by simp [pj,k1,k2,k3]))
        · exact Ev.neg k3 (Ev.to ih (by simp [pj,(h.ne0 hm hd).1 k3]))
      · exact Ev.neg k2 (Ev.to ih (by simp [pj,(h.ne1 hb hd).1 k2]))
    · exact Ev.neg k1 (Ev.to ih (by simp [pj,(h.ne1 ha hd).1 k1]))
theorem sj_l1' (h:Ord u) {a b:Nat} (ha:a<u.length) (hb:b<u.length) (no : ∀ d,d<u.length→¬(rdN u a d=1∧rdN u b d=1)) (d:Nat) (hd:d≤u.length) :
    Ev (fun k=>spec_l1Join.l1 k u a b (-1) d) (-1):=by
  have hn:=h.le12
  have h1:=row_len h ha
  have h2:=row_len h hb
  refine down u.length (fun d=>Ev (fun k=>spec_l1Join.l1 k u a b (-1) d) (-1)) ?_ ?_ d hd
  · refine Ev.step (fun k=>spec_l1Join.l1.eq_2 ..) ?_
    exact Ev.neg (by omega) (Ev.ret rfl)
  · intro d hd ih
    refine Ev.step (fun k=>spec_l1Join.l1.eq_2 ..) ?_
    repeat (refine Ev.pos (by omega) ?_)
    rw [wrap_succ d (by omega)]
    by_cases k1:rdN u a d=1
    · refine Ev.pos k1 ?_
      repeat (refine Ev.pos (by omega) ?_)
      exact Ev.neg (fun k2=>no d hd ⟨k1,k2⟩) ih
    · exact Ev.neg k1 ih
theorem sj_l0 (h:Ord u) {a b:Nat} (ha:a<u.length) (hb:b<u.length) (c:Nat) (hc:c≤u.length) :
    ∀ β:Int,((β = -1∧∀ d,d<c→¬(rdN u a d=1∧rdN u b d=1))∨∃ m:Nat,β=m∧m<u.length∧rdN u a m=1∧rdN u b m=1∧∀ g,IsJoin u a b g→g<c→m=g) →
    Ev (fun k=>spec_l1Join.l0 k u a b β c) (joinI u a b):=by
  have hn:=h.le12
  have h1:=row_len h ha
  have h2:=row_len h hb
  refine down u.length (fun c=>∀ β:Int,((β = -1∧∀ d,d<c→¬(rdN u a d=1∧rdN u b d=1))∨∃ m:Nat,β=m∧m<u.length∧rdN u a m=1∧rdN u b m=1∧∀ g,IsJoin u a b g→g<c→m=g) →
    Ev (fun k=>spec_l1Join.l0 k u a b β c) (joinI u a b)) ?_ ?_ c hc
  · intro β hβ
    refine Ev.step (fun k=>spec_l1Join.l0.eq_2 ..) ?_
    refine Ev.neg (by omega) ?_
    rcases hβ with ⟨rfl,no⟩|⟨m,rfl,hm,m1,m2,hg⟩
    · refine Ev.to (sj_l1' h ha hb no 0 (Nat.zero_le _)) ?_
      rcases joinI_cases u a b with ⟨e,_⟩|⟨c,_,hc⟩
      · exact e.symm
      · exact absurd ⟨hc.2.1,hc.2.2.1⟩ (no c hc.1)
    · refine Ev.to (sj_l1 h ha hb hm 0 (Nat.zero_le _)) ?_
      by_cases e:allF u.length (pj u a b m) 0=true
      · rw [if_pos e,joinI_of h ((isJoin_iff h ha hb hm).2 ⟨m1,m2,e⟩)]
      · rw [if_neg e]
        rcases joinI_cases u a b with ⟨e',_⟩|⟨c,_,hc⟩
        · exact e'.symm
        · have:=hg c hc hc.1
          subst this
          exact absurd ((isJoin_iff h ha hb hm).1 hc).2.2 e
  · intro c hc ih β hβ
    have h3:=row_len h hc
    refine Ev.step (fun k=>spec_l1Join.l0.eq_2 ..) ?_
    repeat (refine Ev.pos (by omega) ?_)
    rw [wrap_succ c (by omega)]
    have stay : ¬(rdN u a c=1∧rdN u b c=1)→Ev (fun k=>spec_l1Join.l0 k u a b β ((c+1:Nat):Int)) (joinI u a b):=by
      intro no
      refine ih β ?_
      rcases hβ with ⟨rfl,k⟩|⟨m,rfl,hm,m1,m2,hg⟩
      · refine .inl ⟨rfl,fun d hd=>?_⟩
        by_cases e:d=c
        · rw [e];exact no
        · exact k d (by omega)
      · refine .inr ⟨m,rfl,hm,m1,m2,fun g gm hgc=>?_⟩
        by_cases e:g=c
        · subst e
          exact absurd ⟨gm.2.1,gm.2.2.1⟩ no
        · exact hg g gm (by omega)
    by_cases k1:rdN u a c=1
    · refine Ev.pos k1 ?_
      repeat (refine Ev.pos (by omega) ?_)
      by_cases k2:rdN u b c=1
      · refine Ev.pos k2 ?_
        rcases hβ with ⟨rfl,k⟩|⟨m,rfl,hm,m1,m2,hg⟩
        · refine Ev.pos (by omega) (ih c (.inr ⟨c,rfl,hc,k1,k2,fun g gm hgc=>?_⟩))
          by_cases e:g=c
          · exact e.symm
          · exact absurd ⟨gm.2.1,gm.2.2.1⟩ (k g (by omega))
        · refine Ev.neg (by omega) ?_
          repeat (refine Ev.pos (by omega) ?_)
          by_cases k3:rdN u c m=1
          · refine Ev.pos k3 (ih c (.inr ⟨c,rfl,hc,k1,k2,fun g gm hgc=>?_⟩))
            by_cases e:g=c
            · exact e.symm
            · have:=hg g gm (by omega)
              subst this
              exact h.anti hc hm k3 (gm.2.2.2 c hc k1 k2)
          · refine Ev.neg k3 (ih m (.inr ⟨m,rfl,hm,m1,m2,fun g gm hgc=>?_⟩))
            by_cases e:g=c
            · subst e
              exact absurd (gm.2.2.2 m hm m1 m2) k3
            · exact hg g gm (by omega)
      · exact Ev.neg k2 (stay (fun k=>k2 k.2))
    · exact Ev.neg k1 (stay (fun k=>k1 k.1))
theorem spec_join_ev (h:Ord u) {a b:Nat} (ha:a<u.length) (hb:b<u.length):Ev (fun k=>spec_l1Join.f k u a b) (joinI u a b):=by
 unfold spec_l1Join.f
 exact sj_l0 h ha hb 0 (Nat.zero_le _) (-1) (.inl ⟨rfl,fun d hd=>by omega⟩)
end

def trow (u:List (List Int)) (a:Nat):List Int:=(List.range u.length).map fun b=>rdN u b a
def mid (u:List (List Int)) (a:Nat) (row:List Int):List (List Int):=(List.range a).map (trow u)++row::List.replicate (u.length-(a+1)) []
theorem mid_len {u:List (List Int)} {a:Nat} (ha:a<u.length) (row:List Int):(mid u a row).length=u.length:=by
 simp [mid]
 omega
theorem mid_row {u:List (List Int)} {a:Nat} (row:List Int):rd_L1 (mid u a row) (a:Int)=row:=by
 rw [row_nat,List.getD_eq_getElem?_getD,mid,List.getElem?_append_right (by simp)]
 simp
theorem mid_set {u:List (List Int)} {a:Nat} (row row':List Int):(mid u a row).set a row'=mid u a row':=by
 unfold mid
 rw [List.set_append,if_neg (by simp)]
 simp
theorem it_l1 {u:List (List Int)} (h:Ord u) {a:Nat} (ha:a<u.length) {r:List (List Int)} (H:Ev (fun k=>impl_turned.l0 k u (mid u a (trow u a)) u.length ((a+1:Nat):Int)) r) (b:Nat) (hb:b≤u.length) :
    Ev (fun k=>impl_turned.l1 k u (mid u a ((trow u a).take b++List.replicate (u.length-b) 0)) a u.length a u.length b) r:=by
  have hn:=h.le12
  have ht:(trow u a).length=u.length:=by simp [trow]
  refine down u.length (fun b=>Ev (fun k=>impl_turned.l1 k u (mid u a ((trow u a).take b++List.replicate (u.length-b) 0)) a u.length a u.length b) r) ?_ ?_ b hb
  · refine Ev.step (fun k=>impl_turned.l1.eq_2 ..) (Ev.neg (by omega) ?_)
    rw [wrap_succ a (by omega),Nat.sub_self,List.take_of_length_le (by omega)]
    simpa using H
  · intro b hb ih
    have r1:=row_len h hb
    have hr:((trow u a).take b++List.replicate (u.length-b) (0:Int)).length=u.length:=by simp [ht];omega
    refine Ev.step (fun k=>impl_turned.l1.eq_2 ..) ?_
    rw [mid_row,mid_len ha,hr]
    repeat (refine Ev.pos (by omega) ?_)
    rw [wrap_succ b (by omega),show ((b:Int)).toNat=b from rfl,show ((a:Int)).toNat=a from rfl,mid_set]
    have e:rd (rd_L1 u (b:Int)) (a:Int)=(trow u a)[b]'(by omega):=by
      rw [at_nat]
      simp [trow]
    have st:=set_step (trow u a) (0:Int) b (by omega)
    simp only [ht] at st
    rw [e,st]
    exact ih
theorem it_l0 {u:List (List Int)} (h:Ord u) (a:Nat) (ha:a≤u.length) :
    Ev (fun k=>impl_turned.l0 k u ((List.range a).map (trow u)++List.replicate (u.length-a) []) u.length a) (turn u):=by
  have hn:=h.le12
  refine down u.length (fun a=>Ev (fun k=>impl_turned.l0 k u ((List.range a).map (trow u)++List.replicate (u.length-a) []) u.length a) (turn u)) ?_ ?_ a ha
  · refine Ev.step (fun k=>impl_turned.l0.eq_2 ..) (Ev.neg (by omega) (Ev.ret ?_))
    rw [Nat.sub_self]
    simp [turn,trow]
  · intro a ha ih
    refine Ev.step (fun k=>impl_turned.l0.eq_2 ..) ?_
    refine Ev.pos (by omega) (Ev.pos (by omega) (Ev.pos (by omega) (Ev.pos (by omega) (Ev.pos (by simp;omega) ?_))))
    have e:((List.range a).map (trow u)++List.replicate (u.length-a) ([]:List Int)).set ((a:Int)).toNat (List.replicate ((u.length:Int)).toNat 0)=mid u a ((trow u a).take 0++List.replicate (u.length-0) 0):=by
      rw [show ((a:Int)).toNat=a from rfl,show ((u.length:Int)).toNat=u.length from rfl,show u.length-a=(u.length-(a+1))+1 by omega,List.replicate_succ]
      exact mid_set [] _
    rw [e]
    refine it_l1 h ha ?_ 0 (Nat.zero_le _)
    have e2:(List.range (a+1)).map (trow u)++List.replicate (u.length-(a+1)) []=mid u a (trow u a):=by
      rw [List.range_succ,List.map_append,mid,List.append_assoc]
      rfl
    rw [e2] at ih
    exact ih
theorem turned_ev {u:List (List Int)} (h:Ord u):Ev (fun k=>impl_turned.f k u) (turn u):=by
 have hn:=h.le12
 unfold impl_turned.f
 refine Ev.pos (by omega) (Ev.pos (by omega) ?_)
 have:=it_l0 h 0 (Nat.zero_le _)
 simpa using this
theorem sl_l1 {u:List (List Int)} (h:Ord u) {a:Nat} (ha:a<u.length) {r:Int × Bool} (H:Ev (fun k=>spec_LeastOf.l0 k u ((a+1:Nat):Int)) r) (b:Nat) (hb:b≤u.length) :
    ∀ g:Bool,Ev (fun k=>spec_LeastOf.l1 k u a g b) (if (g&&allF u.length (fun b=>decide (rdN u a b=1)) b)=true then ((a:Int),true) else r):=by
  have hn:=h.le12
  have h1:=row_len h ha
  refine down u.length (fun b=>∀ g:Bool,Ev (fun k=>spec_LeastOf.l1 k u a g b) (if (g&&allF u.length (fun b=>decide (rdN u a b=1)) b)=true then ((a:Int),true) else r)) ?_ ?_ b hb
  · intro g
    refine Ev.step (fun k=>spec_LeastOf.l1.eq_2 ..) ?_
    refine Ev.neg (by omega) ?_
    rw [allF_end (Nat.le_refl _),wrap_succ a (by omega)]
    cases g with
    | true=>exact Ev.pos rfl (Ev.ret (by simp))
    | false=>exact Ev.neg Bool.false_ne_true (Ev.to H (by simp))
  · intro b hb ih g
    refine Ev.step (fun k=>spec_LeastOf.l1.eq_2 ..) ?_
    refine Ev.pos (by omega) ?_
    rw [allF_step hb,wrap_succ b (by omega)]
    cases g with
    | true =>
      refine Ev.pos rfl ?_
      repeat (refine Ev.pos (by omega) ?_)
      exact Ev.to (ih _) (by rw [Bool.true_and];rfl)
    | false=>exact Ev.neg Bool.false_ne_true (Ev.to (ih false) (by simp))
theorem sl_l0 {u:List (List Int)} (h:Ord u) (a:Nat) (ha:a≤u.length) :
    Ev (fun k=>spec_LeastOf.l0 k u a) (let i:=firstF u.length (fun a=>decide (IsLeast u a)) a;(i,decide (0≤i))):=by
  have hn:=h.le12
  refine down u.length (fun a=>Ev (fun k=>spec_LeastOf.l0 k u a) (let i:=firstF u.length (fun a=>decide (IsLeast u a)) a;(i,decide (0≤i)))) ?_ ?_ a ha
  · refine Ev.step (fun k=>spec_LeastOf.l0.eq_2 ..) ?_
    refine Ev.neg (by omega) ?_
    refine Ev.step (fun k=>spec_LeastOf.j1.eq_2 ..) ?_
    exact Ev.neg Bool.false_ne_true (Ev.ret (by rw [firstF_end (Nat.le_refl _)];rfl))
  · intro a ha ih
    refine Ev.step (fun k=>spec_LeastOf.l0.eq_2 ..) ?_
    refine Ev.pos (by omega) ?_
    refine Ev.bind (spec_ord u) ?_
    refine Ev.step (fun k=>spec_LeastOf.j1.eq_2 ..) ?_
    refine Ev.tt (decide_eq_true h) ?_
    refine Ev.to (sl_l1 h ha ih 0 (Nat.zero_le _) true) ?_
    rw [firstF_step ha]
    by_cases e:IsLeast u a
    · rw [if_pos (by rw [Bool.true_and,allF0];exact fun c hc=>decide_eq_true (e c hc)),if_pos (decide_eq_true e)]
      simp
    · rw [if_neg (by rw [Bool.true_and,allF0];exact fun k=>e fun c hc=>of_decide_eq_true (k c hc)),if_neg (by rw [decide_eq_true_iff];exact e)]
theorem spec_least_ev (u:List (List Int)):Ev (fun k=>spec_LeastOf.f k u) (leastOfP u):=by
 unfold spec_LeastOf.f
 by_cases h:Ord u
 ·exact Ev.to (sl_l0 h 0 (Nat.zero_le _)) (by rw [leastOfP,if_pos h];rfl)
 ·rw [leastOfP,if_neg h]
  refine Ev.step (fun k=>spec_LeastOf.l0.eq_2 ..) ?_
  by_cases e:(0:Int)<u.length
  ·refine Ev.pos e ?_
   refine Ev.bind (spec_ord u) ?_
   refine Ev.step (fun k=>spec_LeastOf.j1.eq_2 ..) ?_
   exact Ev.ff (decide_eq_false h) (Ev.ret rfl)
  ·refine Ev.neg e ?_
   refine Ev.step (fun k=>spec_LeastOf.j1.eq_2 ..) ?_
   exact Ev.neg Bool.false_ne_true (Ev.ret rfl)
theorem il_l1 {u:List (List Int)} (h:Ord u) {a:Nat} (ha:a<u.length) {r:Int × Bool} (H:Ev (fun k=>impl_LeastOf.l0 k u u.length ((a+1:Nat):Int)) r) (b:Nat) (hb:b≤u.length) :
    ∀ g:Bool,Ev (fun k=>impl_LeastOf.l1 k a g u u.length a (rd_L1 u (a:Int)) u.length b) (if (g&&allF u.length (fun b=>decide (rdN u a b=1)) b)=true then ((a:Int),true) else r):=by
  have hn:=h.le12
  have h1:=row_len h ha
  refine down u.length (fun b=>∀ g:Bool,Ev (fun k=>impl_LeastOf.l1 k a g u u.length a (rd_L1 u (a:Int)) u.length b) (if (g&&allF u.length (fun b=>decide (rdN u a b=1)) b)=true then ((a:Int),true) else r)) ?_ ?_ b hb
  · intro g
    refine Ev.step (fun k=>impl_LeastOf.l1.eq_2 ..) ?_
    refine Ev.neg (by omega) ?_
    rw [allF_end (Nat.le_refl _),wrap_succ a (by omega)]
    cases g with
    | true=>exact Ev.pos rfl (Ev.ret (by simp))
    | false=>exact Ev.neg Bool.false_ne_true (Ev.to H (by simp))
  · intro b hb ih g
    refine Ev.step (fun k=>impl_LeastOf.l1.eq_2 ..) ?_
    repeat (refine Ev.pos (by omega) ?_)
    rw [allF_step hb,wrap_succ b (by omega)]
    cases g with
    | true =>
      refine Ev.pos rfl ?_
      exact Ev.to (ih _) (by rw [Bool.true_and];rfl)
    | false=>exact Ev.neg Bool.false_ne_true (Ev.to (ih false) (by simp))
theorem il_l0 {u:List (List Int)} (h:Ord u) (a:Nat) (ha:a≤u.length) :
    Ev (fun k=>impl_LeastOf.l0 k u u.length a) (let i:=firstF u.length (fun a=>decide (IsLeast u a)) a;(i,decide (0≤i))):=by
  have hn:=h.le12
  refine down u.length (fun a=>Ev (fun k=>impl_LeastOf.l0 k u u.length a) (let i:=firstF u.length (fun a=>decide (IsLeast u a)) a;(i,decide (0≤i)))) ?_ ?_ a ha
  · refine Ev.step (fun k=>impl_LeastOf.l0.eq_2 ..) ?_
    refine Ev.neg (by omega) ?_
    exact Ev.ret (by rw [firstF_end (Nat.le_refl _)];rfl)
  · intro a ha ih
    refine Ev.step (fun k=>impl_LeastOf.l0.eq_2 ..) ?_
    repeat (refine Ev.pos (by omega) ?_)
    rw [row_len h ha]
    refine Ev.to (il_l1 h ha ih 0 (Nat.zero_le _) true) ?_
    rw [firstF_step ha]
    by_cases e:IsLeast u a
    · rw [if_pos (by rw [Bool.true_and,allF0];exact fun c hc=>decide_eq_true (e c hc)),if_pos (decide_eq_true e)]
      simp
    · rw [if_neg (by rw [Bool.true_and,allF0];exact fun k=>e fun c hc=>of_decide_eq_true (k c hc)),if_neg (by rw [decide_eq_true_iff];exact e)]
theorem impl_least_ev (u:List (List Int)):Ev (fun k=>impl_LeastOf.f k u) (leastOfP u):=by
 unfold impl_LeastOf.f
 refine Ev.bind (impl_ord u) ?_
 by_cases h:Ord u
 ·refine Ev.tt (decide_eq_true h) ?_
  exact Ev.to (il_l0 h 0 (Nat.zero_le _)) (by rw [leastOfP,if_pos h];rfl)
 ·exact Ev.ff (decide_eq_false h) (Ev.ret (by rw [leastOfP,if_neg h]))

def pl (u:List (List Int)) (a b:Nat):Bool:=decide (0≤meetI u a b)&&decide (0≤joinI u a b)
theorem sa_l1 {u:List (List Int)} (h:Ord u) {a:Nat} (ha:a<u.length) {r:Bool} (H:Ev (fun k=>spec_LatticeOk.l0 k u ((a+1:Nat):Int)) r) (b:Nat) (hb:b≤a) :
    Ev (fun k=>spec_LatticeOk.l1 k u a b) (allF a (pl u a) b&&r):=by
  have hn:=h.le12
  refine down a (fun b=>Ev (fun k=>spec_LatticeOk.l1 k u a b) (allF a (pl u a) b&&r)) ?_ ?_ b hb
  · refine Ev.step (fun k=>spec_LatticeOk.l1.eq_2 ..) ?_
    refine Ev.neg (by omega) ?_
    rw [allF_end (Nat.le_refl _),wrap_succ a (by omega)]
    exact Ev.to H (by simp)
  · intro b hb ih
    refine Ev.step (fun k=>spec_LatticeOk.l1.eq_2 ..) ?_
    refine Ev.pos (by omega) ?_
    rw [allF_step hb,wrap_succ b (by omega)]
    refine Ev.bind (spec_meet_ev h ha (by omega)) ?_
    by_cases k1:0≤meetI u a b
    · refine Ev.neg (by omega) ?_
      refine Ev.bind (spec_join_ev h ha (by omega)) ?_
      by_cases k2:0≤joinI u a b
      · exact Ev.neg (by omega) (Ev.to ih (by simp [pl,k1,k2]))
      · exact Ev.pos (by omega) (Ev.ret (by simp [pl,k2]))
    · exact Ev.pos (by omega) (Ev.ret (by simp [pl,k1]))
theorem sa_l0 {u:List (List Int)} (h:Ord u) (a:Nat) (ha:a≤u.length) :
    Ev (fun k=>spec_LatticeOk.l0 k u a) (allF u.length (fun a=>allF a (pl u a) 0) a):=by
  have hn:=h.le12
  refine down u.length (fun a=>Ev (fun k=>spec_LatticeOk.l0 k u a) (allF u.length (fun a=>allF a (pl u a) 0) a)) ?_ ?_ a ha
  · refine Ev.step (fun k=>spec_LatticeOk.l0.eq_2 ..) ?_
    refine Ev.neg (by omega) ?_
    refine Ev.step (fun k=>spec_LatticeOk.j1.eq_2 ..) ?_
    refine Ev.neg Bool.false_ne_true ?_
    refine Ev.bind (spec_ord u) ?_
    exact Ev.ret (by rw [allF_end (Nat.le_refl _),decide_eq_true h])
  · intro a ha ih
    refine Ev.step (fun k=>spec_LatticeOk.l0.eq_2 ..) ?_
    refine Ev.pos (by omega) ?_
    refine Ev.bind (spec_ord u) ?_
    refine Ev.step (fun k=>spec_LatticeOk.j1.eq_2 ..) ?_
    refine Ev.tt (decide_eq_true h) ?_
    exact Ev.to (sa_l1 h ha ih 0 (Nat.zero_le _)) (by rw [allF_step ha])
theorem spec_lat_ev (u:List (List Int)):Ev (fun k=>spec_LatticeOk.f k u) (decide (Lat u)):=by
 unfold spec_LatticeOk.f
 by_cases h:Ord u
 ·refine Ev.to (sa_l0 h 0 (Nat.zero_le _)) ?_
  rw [Bool.eq_iff_iff,allF0,decide_eq_true_iff]
  constructor
  ·intro k
   have half : ∀ a,a<u.length→∀ b,b<a→0≤meetI u a b∧0≤joinI u a b:=fun a ha b hb=>by
    have:=allF0.1 (k a ha) b hb
    simpa [pl] using this
   refine ⟨h,fun a ha b hb=>?_⟩
   rcases Nat.lt_trichotomy a b with e|e|e
   ·rw [meetI_comm h,joinI_comm h]
    exact half b hb a e
   ·subst e
    rw [meetI_of h (isMeet_self h ha ha (h.refl ha)),joinI_of h (isJoin_self h ha ha (h.refl ha))]
    omega
   ·exact half a ha b e
  ·intro k a ha
   rw [allF0]
   intro b hb
   have:=k.2 a ha b (by omega)
   simp [pl,this.1,this.2]
 ·rw [decide_eq_false (fun k=>h k.1)]
  refine Ev.step (fun k=>spec_LatticeOk.l0.eq_2 ..) ?_
  have fin : ∀ x:Bool,x=false→Ev (fun k=>spec_LatticeOk.j1 k u 0 x) false:=by
   rintro x rfl
   refine Ev.step (fun k=>spec_LatticeOk.j1.eq_2 ..) ?_
   refine Ev.neg Bool.false_ne_true ?_
   refine Ev.bind (spec_ord u) ?_
   exact Ev.ret (decide_eq_false h)
  by_cases e:(0:Int)<u.length
  ·refine Ev.pos e ?_
   refine Ev.bind (spec_ord u) ?_
   exact fin _ (decide_eq_false h)
  ·exact Ev.neg e (fin _ rfl)
theorem ia_l1 {u:List (List Int)} (h:Ord u) {a:Nat} (ha:a<u.length) {r:Bool} (H:Ev (fun k=>impl_LatticeOk.l0 k u (turn u) u.length ((a+1:Nat):Int)) r) (b:Nat) (hb:b≤u.length) :
    Ev (fun k=>impl_LatticeOk.l1 k u (turn u) a u.length a u.length b) (allF u.length (pl u a) b&&r):=by
  have hn:=h.le12
  refine down u.length (fun b=>Ev (fun k=>impl_LatticeOk.l1 k u (turn u) a u.length a u.length b) (allF u.length (pl u a) b&&r)) ?_ ?_ b hb
  · refine Ev.step (fun k=>impl_LatticeOk.l1.eq_2 ..) ?_
    refine Ev.neg (by omega) ?_
    rw [allF_end (Nat.le_refl _),wrap_succ a (by omega)]
    exact Ev.to H (by simp)
  · intro b hb ih
    refine Ev.step (fun k=>impl_LatticeOk.l1.eq_2 ..) ?_
    refine Ev.pos (by omega) ?_
    rw [allF_step hb,wrap_succ b (by omega)]
    refine Ev.bind (impl_meet_ev h ha hb) ?_
    by_cases k1:0≤meetI u a b
    · refine Ev.neg (by omega) ?_
      refine Ev.bind (impl_meet_ev (turn_ord h) (by rw [turn_len];exact ha) (by rw [turn_len];exact hb)) ?_
      rw [meetI_turn ha hb]
      by_cases k2:0≤joinI u a b
      · exact Ev.neg (by omega) (Ev.to ih (by simp [pl,k1,k2]))
      · exact Ev.pos (by omega) (Ev.ret (by simp [pl,k2]))
    · exact Ev.pos (by omega) (Ev.ret (by simp [pl,k1]))
theorem ia_l0 {u:List (List Int)} (h:Ord u) (a:Nat) (ha:a≤u.length) :
    Ev (fun k=>impl_LatticeOk.l0 k u (turn u) u.length a) (allF u.length (fun a=>allF u.length (pl u a) 0) a):=by
  have hn:=h.le12
  refine down u.length (fun a=>Ev (fun k=>impl_LatticeOk.l0 k u (turn u) u.length a) (allF u.length (fun a=>allF u.length (pl u a) 0) a)) ?_ ?_ a ha
  · refine Ev.step (fun k=>impl_LatticeOk.l0.eq_2 ..) ?_
    exact Ev.neg (by omega) (Ev.ret (by rw [allF_end (Nat.le_refl _)]))
  · intro a ha ih
    refine Ev.step (fun k=>impl_LatticeOk.l0.eq_2 ..) ?_
    refine Ev.pos (by omega) ?_
    exact Ev.to (ia_l1 h ha ih 0 (Nat.zero_le _)) (by rw [allF_step ha])
theorem impl_lat_ev (u:List (List Int)):Ev (fun k=>impl_LatticeOk.f k u) (decide (Lat u)):=by
 unfold impl_LatticeOk.f
 refine Ev.bind (impl_ord u) ?_
 by_cases h:Ord u
 ·refine Ev.tt (decide_eq_true h) ?_
  refine Ev.bind (turned_ev h) ?_
  refine Ev.to (ia_l0 h 0 (Nat.zero_le _)) ?_
  rw [Bool.eq_iff_iff,allF0,decide_eq_true_iff]
  constructor
  ·intro k
   refine ⟨h,fun a ha b hb=>?_⟩
   have:=allF0.1 (k a ha) b hb
   simpa [pl] using this
  ·intro k a ha
   rw [allF0]
   intro b hb
   have:=k.2 a ha b hb
   simp [pl,this.1,this.2]
 ·exact Ev.ff (decide_eq_false h) (Ev.ret (decide_eq_false (fun k=>h k.1)).symm)
section
variable {u:List (List Int)} {nt:List Int}
def lp0 (u:List (List Int)) (nt:List Int) (c:Nat):Bool:=decide (0≤rd nt c∧rd nt c<u.length)
def lp2 (u:List (List Int)) (nt:List Int) (c d:Nat):Bool:=decide (OppTo u nt c d)
def lp1 (u:List (List Int)) (nt:List Int) (c:Nat):Bool:=decide (rd nt (rd nt c)=c)&&decide (meetI u c (rd nt c).toNat=leastI u)&&allF u.length (lp2 u nt c) 0
theorem lg_l2 (h:Lat u) (hl:nt.length=u.length) (H0 : ∀ c,c<u.length→0≤rd nt c∧rd nt c<u.length) {a:Nat} (ha:a<u.length) {le:Int} {r:Bool}
    (H:Ev (fun k=>spec_LogicOk.l1 k u.length le ((a+1:Nat):Int) u nt) r) (b:Nat) (hb:b≤u.length) :
    Ev (fun k=>spec_LogicOk.l2 k u.length le a b u nt) (allF u.length (lp2 u nt a) b&&r):=by
  have h12:=h.1.le12
  refine down u.length (fun b=>Ev (fun k=>spec_LogicOk.l2 k u.length le a b u nt) (allF u.length (lp2 u nt a) b&&r)) ?_ ?_ b hb
  · refine Ev.step (fun k=>spec_LogicOk.l2.eq_2 ..) ?_
    refine Ev.neg (by omega) ?_
    rw [wrap_succ a (by omega),allF_end (Nat.le_refl _),Bool.true_and]
    exact H
  · intro b hb ih
    have hra:(rd_L1 u (a:Int)).length=u.length:=row_len h.1 ha
    have hb0:=H0 b hb
    have ha0:=H0 a ha
    have hrb:(rd_L1 u (rd nt (b:Int))).length=u.length:=by
      obtain ⟨m,hm,hm2⟩:=nat_of hb0
      rw [hm]
      exact row_len h.1 hm2
    refine Ev.step (fun k=>spec_LogicOk.l2.eq_2 ..) ?_
    repeat (refine Ev.pos (by omega) ?_)
    rw [at_nat]
    rw [wrap_succ b (by omega)]
    by_cases k1:rdN u a b=1
    · refine Ev.pos k1 ?_
      repeat (refine Ev.pos (by omega) ?_)
      have hv:rd (rd_L1 u (rd nt (b:Int))) (rd nt (a:Int))=rdN u (rd nt b).toNat (rd nt a).toNat:=by
        obtain ⟨m,hm,hm2⟩:=nat_of hb0
        obtain ⟨l,hl,hl2⟩:=nat_of ha0
        rw [hm,hl,Int.toNat_natCast,Int.toNat_natCast,at_nat]
      rw [hv]
      have hbit:=h.1.bit (a:=(rd nt b).toNat) (b:=(rd nt a).toNat) (by omega) (by omega)
      by_cases k2:rdN u (rd nt b).toNat (rd nt a).toNat=0
      · refine Ev.pos k2 (Ev.ret ?_)
        rw [allF_step hb]
        have:lp2 u nt a b=false:=decide_eq_false (fun q=>by have:=q k1;omega)
        rw [this,Bool.false_and,Bool.false_and]
      · refine Ev.neg k2 ?_
        have:lp2 u nt a b=true:=decide_eq_true (fun _=>by omega)
        rw [allF_step hb,this,Bool.true_and]
        exact ih
    · refine Ev.neg k1 ?_
      have:lp2 u nt a b=true:=decide_eq_true (fun q=>absurd q k1)
      rw [allF_step hb,this,Bool.true_and]
      exact ih
theorem lg_l1 (h:Lat u) (hl:nt.length=u.length) (H0 : ∀ c,c<u.length→0≤rd nt c∧rd nt c<u.length) (a:Nat) (ha:a≤u.length) :
    Ev (fun k=>spec_LogicOk.l1 k u.length (leastI u) a u nt) (allF u.length (lp1 u nt) a):=by
  have h12:=h.1.le12
  refine down u.length (fun a=>Ev (fun k=>spec_LogicOk.l1 k u.length (leastI u) a u nt) (allF u.length (lp1 u nt) a)) ?_ ?_ a ha
  · refine Ev.step (fun k=>spec_LogicOk.l1.eq_2 ..) ?_
    refine Ev.neg (by omega) (Ev.ret ?_)
    rw [allF_end (Nat.le_refl _)]
  · intro a ha ih
    have ha0:=H0 a ha
    refine Ev.step (fun k=>spec_LogicOk.l1.eq_2 ..) ?_
    repeat (refine Ev.pos (by omega) ?_)
    by_cases k1:rd nt (rd nt (a:Int))=a
    · refine Ev.pos k1 ?_
      obtain ⟨m,hm,hm2⟩:=nat_of ha0
      have hme:Ev (fun k=>spec_l1Meet.f k u a (rd nt (a:Int))) (meetI u a m):=by rw [hm];exact spec_meet_ev h.1 ha hm2
      refine Ev.bind hme ?_
      refine Ev.step (fun k=>spec_LogicOk.j3.eq_2 ..) ?_
      by_cases k2:meetI u a m=leastI u
      · refine Ev.ff (by rw [k2];simp) ?_
        refine Ev.to (lg_l2 h hl H0 ha ih 0 (Nat.zero_le _)) ?_
        rw [allF_step ha]
        have:lp1 u nt a=allF u.length (lp2 u nt a) 0:=by unfold lp1;rw [decide_eq_true k1,hm,Int.toNat_natCast,decide_eq_true k2];rfl
        rw [this]
      · refine Ev.tt (bne_iff_ne.mpr k2) (Ev.ret ?_)
        rw [allF_step ha]
        have:lp1 u nt a=false:=by unfold lp1;rw [hm,Int.toNat_natCast,decide_eq_false k2,Bool.and_false,Bool.false_and]
        rw [this,Bool.false_and]
    · refine Ev.neg k1 ?_
      refine Ev.step (fun k=>spec_LogicOk.j3.eq_2 ..) ?_
      refine Ev.tt rfl (Ev.ret ?_)
      rw [allF_step ha]
      have:lp1 u nt a=false:=by unfold lp1;rw [decide_eq_false k1,Bool.false_and,Bool.false_and]
      rw [this,Bool.false_and]
theorem lg_l0 (h:Lat u) (hl:nt.length=u.length) (a:Nat) (ha:a≤u.length):(∀ c,c<a→0≤rd nt (c:Int)∧rd nt (c:Int)<u.length) →
    Ev (fun k=>spec_LogicOk.l0 k u.length a u nt) (allF u.length (lp0 u nt) a&&allF u.length (lp1 u nt) 0):=by
  have h12:=h.1.le12
  refine down u.length (fun a=>(∀ c,c<a→0≤rd nt (c:Int)∧rd nt (c:Int)<u.length)→Ev (fun k=>spec_LogicOk.l0 k u.length a u nt) (allF u.length (lp0 u nt) a&&allF u.length (lp1 u nt) 0)) ?_ ?_ a ha
  · intro H
    refine Ev.step (fun k=>spec_LogicOk.l0.eq_2 ..) ?_
    refine Ev.neg (by omega) ?_
    refine Ev.bind (spec_least_ev u) ?_
    rw [allF_end (Nat.le_refl _),Bool.true_and]
    have hle:(leastOfP u).1=leastI u:=by unfold leastOfP;rw [if_pos h.1]
    rw [hle]
    exact lg_l1 h hl H 0 (Nat.zero_le _)
  · intro a ha ih H
    refine Ev.step (fun k=>spec_LogicOk.l0.eq_2 ..) ?_
    repeat (refine Ev.pos (by omega) ?_)
    rw [len_pred h.1]
    refine Ev.bindc (l1In_eq _ _ _) ?_
    by_cases k:0≤rd nt (a:Int)∧rd nt (a:Int)<u.length
    · refine Ev.tt (decide_eq_true (by omega)) ?_
      rw [wrap_succ a (by omega),allF_step ha]
      have:lp0 u nt a=true:=decide_eq_true k
      rw [this,Bool.true_and]
      exact ih (fun c hc=>if q:c<a then H c q else (show c=a by omega)▸k)
    · refine Ev.ff (decide_eq_false (by omega)) (Ev.ret ?_)
      have:lp0 u nt a=false:=decide_eq_false k
      rw [allF_step ha,this,Bool.false_and,Bool.false_and]
theorem logic_of_loops (h:Lat u) (hl:nt.length=u.length):(allF u.length (lp0 u nt) 0&&allF u.length (lp1 u nt) 0)=logicF u nt:=by
 unfold logicF
 rw [Bool.eq_iff_iff,Bool.and_eq_true,allF0,allF0,decide_eq_true_iff]
 constructor
 ·rintro ⟨q0,q1⟩
  have r0:=fun c hc=>of_decide_eq_true (q0 c hc)
  have r1 : ∀ c,c<u.length→(rd nt (rd nt c)=c∧meetI u c (rd nt c).toNat=leastI u)∧∀ d,d<u.length→OppTo u nt c d:=by
   intro c hc
   have:=q1 c hc
   unfold lp1 at this
   rw [Bool.and_eq_true,Bool.and_eq_true,decide_eq_true_iff,decide_eq_true_iff,allF0] at this
   exact ⟨this.1,fun d hd=>of_decide_eq_true (this.2 d hd)⟩
  exact ⟨h,hl,fun c hc=>⟨r0 c hc,(r1 c hc).1.1,(r1 c hc).1.2⟩,fun c hc d hd=>(r1 c hc).2 d hd⟩
 ·rintro ⟨_,_,q0,q1⟩
  refine ⟨fun c hc=>decide_eq_true (q0 c hc).1,fun c hc=>?_⟩
  unfold lp1
  rw [Bool.and_eq_true,Bool.and_eq_true,decide_eq_true_iff,decide_eq_true_iff,allF0]
  exact ⟨⟨(q0 c hc).2.1,(q0 c hc).2.2⟩,fun d hd=>decide_eq_true (q1 c hc d hd)⟩
end
theorem spec_logic_ev (u:List (List Int)) (nt:List Int):Ev (fun k=>spec_LogicOk.f k u nt) (logicF u nt):=by
 unfold spec_LogicOk.f
 refine Ev.bind (spec_lat_ev u) ?_
 by_cases h:Lat u
 ·refine Ev.tt (decide_eq_true h) ?_
  refine Ev.step (fun k=>spec_LogicOk.j0.eq_2 ..) ?_
  by_cases hl:nt.length=u.length
  ·refine Ev.ff (by rw [hl];simp) ?_
   exact Ev.to (lg_l0 h hl 0 (Nat.zero_le _) (fun c hc=>absurd hc (Nat.not_lt_zero _))) (logic_of_loops h hl)
  ·refine Ev.tt (bne_iff_ne.mpr (by omega)) (Ev.ret ?_)
   exact (decide_eq_false (fun q=>hl q.2.1)).symm
 ·refine Ev.ff (decide_eq_false h) ?_
  refine Ev.step (fun k=>spec_LogicOk.j0.eq_2 ..) ?_
  refine Ev.tt rfl (Ev.ret ?_)
  exact (decide_eq_false (fun q=>h q.1)).symm
section
variable (u:List (List Int)) (nt:List Int)
theorem ok2 {n:Nat} {a b:Int}:okAll n [a,b]=true↔(0≤a∧a<n)∧(0≤b∧b<n):=by simp [okAll]
theorem ok1 {n:Nat} {a:Int}:okAll n [a]=true↔(0≤a∧a<n):=by simp [okAll]
theorem both_ev (a b:Int):Ev (fun k=>spec_l2Both.f k u nt a b) (decide (OL u nt∧okAll u.length [a,b]=true)):=by
 unfold spec_l2Both.f
 refine Ev.bind (spec_logic_ev u nt) ?_
 unfold logicF
 by_cases h:OL u nt
 ·refine Ev.tt (decide_eq_true h) ?_
  rw [h.2.1,len_pred h.1.1]
  refine Ev.bindc (l1In_eq _ _ _) ?_
  by_cases ka:0≤a∧a<u.length
  ·refine Ev.tt (decide_eq_true (by omega)) ?_
   refine Ev.bindc (l1In_eq _ _ _) (Ev.ret ?_)
   rw [Bool.eq_iff_iff,decide_eq_true_iff,decide_eq_true_iff,ok2]
   exact ⟨fun q=>⟨h,ka,by omega⟩,fun q=>by omega⟩
  ·refine Ev.ff (decide_eq_false (by omega)) (Ev.ret ?_)
   exact (decide_eq_false (fun q=>ka (ok2.1 q.2).1)).symm
 ·refine Ev.ff (decide_eq_false h) (Ev.ret ?_)
  exact (decide_eq_false (fun q=>h q.1)).symm
theorem no_ev:Ev (fun k=>spec_NoOf.f k u nt) (noF u nt):=by
 unfold spec_NoOf.f
 refine Ev.bind (spec_logic_ev u nt) ?_
 unfold logicF noF
 by_cases h:OL u nt
 ·refine Ev.tt (decide_eq_true h) ?_
  refine Ev.bind (spec_least_ev u) (Ev.ret ?_)
  rw [if_pos h]
  unfold leastOfP
  rw [if_pos h.1.1]
 ·refine Ev.ff (decide_eq_false h) (Ev.ret ?_)
  rw [if_neg h]
theorem not_ev (a:Int):Ev (fun k=>spec_NotOf.f k u nt a) (notF u nt a):=by
 unfold spec_NotOf.f
 refine Ev.bind (both_ev u nt a a) ?_
 unfold notF
 by_cases h:OL u nt∧okAll u.length [a]=true
 ·have k:=ok1.1 h.2
  have hl:=h.1.2.1
  refine Ev.tt (decide_eq_true ⟨h.1,ok2.2 ⟨k,k⟩⟩) ?_
  repeat (refine Ev.pos (by omega) ?_)
  exact Ev.ret (by rw [if_pos h])
 ·refine Ev.ff (decide_eq_false (fun q=>h ⟨q.1,ok1.2 (ok2.1 q.2).1⟩)) (Ev.ret ?_)
  rw [if_neg h]
theorem yes_ev:Ev (fun k=>spec_YesOf.f k u nt) (yesF u nt):=by
 unfold spec_YesOf.f
 refine Ev.bind (no_ev u nt) (Ev.bind (not_ev u nt _) (Ev.ret ?_))
 unfold notF yesF noF
 by_cases h:OL u nt
 ·obtain ⟨m,hm,hm2,_⟩:=h.1.least
  rw [if_pos h,if_pos h,if_pos ⟨h,ok1.2 ⟨by omega,by omega⟩⟩]
 ·rw [if_neg (fun q=>h q.1),if_neg h]
end
section
variable {u:List (List Int)} {nt:List Int}
end
end Go.Proofs.Ytlkibgccgkhdmaa.Q

namespace Go.Proofs.Ytlkibgccgkhdmaa.P
open Go.RowKit Go.Proofs.YtlkibgccgkhdmaaW.PrintWords Go.Proofs.YtlkibgccgkhdmaaW.PrintLast Go.Proofs.YtlkibgccgkhdmaaW.PrintMore Go.Proofs.Cl
set_option linter.unusedVariables false
end Go.Proofs.Ytlkibgccgkhdmaa.P

namespace Go.Proofs.Ytlkibgccgkhdmaa.Q
open Go.RowKit Go.Proofs.YtlkibgccgkhdmaaW.PrintWords Go.Proofs.YtlkibgccgkhdmaaW.PrintLast Go.Proofs.YtlkibgccgkhdmaaW.PrintMore Go.Proofs.Ytlkibgccgkhdmaa.P Go.Proofs.Cl
set_option linter.unusedVariables false

def Bytes (b:List Int):Prop:=∀ x,x∈b→0≤x∧x≤255
theorem Bytes.at_ {b:List Int} (h:Bytes b) {i:Int} (h0:0≤i) (h1:i<b.length):0≤rd b i∧rd b i≤255:=by
 obtain ⟨j,rfl⟩:=Int.eq_ofNat_of_zero_le h0
 have hj:j<b.length:=by omega
 have:rd b (j:Int)=b[j]:=by
  show b.getD j 0=b[j]
  rw [List.getD_eq_getElem?_getD,List.getElem?_eq_getElem hj]
  rfl
 rw [this]
 exact h _ (List.getElem_mem hj)
theorem pow_cast (m:Nat):(2:Int) ^ m=((2 ^ m:Nat):Int):=by norm_cast
theorem set_of {n:Nat} {s:Int} (h:isSetB n s=true) : ∃ S:Nat,s=S∧S<2 ^ n∧0<S:=by
 have h:=of_decide_eq_true h
 rw [pow_cast] at h
 exact ⟨s.toNat,by omega,by omega,by omega⟩
section
variable {u:List (List Int)} {nt:List Int}
end
section
variable {u:List (List Int)} {nt:List Int}
end
section
variable {u:List (List Int)} {nt:List Int}
def cp (u:List (List Int)) (nt:List Int) (a b:Nat):Bool:=decide (withB u nt a b∧withB u nt b a)
end
end Go.Proofs.Ytlkibgccgkhdmaa.Q

namespace Go.Proofs.Ytlkibgccgkhdmaa.P
open Go.RowKit Go.Proofs.YtlkibgccgkhdmaaW.PrintWords Go.Proofs.YtlkibgccgkhdmaaW.PrintLast Go.Proofs.YtlkibgccgkhdmaaW.PrintMore Go.Proofs.Cl
set_option linter.unusedVariables false
def lastP (l:List Int):Nat→Int→Int
 | 0,_=>0
 | k+1,x=>if x=l.getD k 0 then (k:Int) else lastP l k x
def inP (l:List Int):Nat→Int→Bool
 | 0,_=>false
 | k+1,x=>if x=l.getD k 0 then true else inP l k x
def szP (l:List Int):Nat→Nat
 | 0=>0
 | k+1=>if inP l k (l.getD k 0)=true then szP l k else szP l k+1
theorem getD_get {l:List Int} {i:Nat} (h:i<l.length):l.getD i 0=l[i]:=by
 rw [List.getD_eq_getElem?_getD,List.getElem?_eq_getElem h,Option.getD_some]
theorem getD_mem {l:List Int} {i:Nat} (h:i<l.length):l.getD i 0∈l:=by
 rw [getD_get h]
 exact List.getElem_mem h
end Go.Proofs.Ytlkibgccgkhdmaa.P

namespace Go.Proofs.Ytlkibgccgkhdmaa.Q
open Go.RowKit Go.Proofs.YtlkibgccgkhdmaaW.PrintWords Go.Proofs.YtlkibgccgkhdmaaW.PrintLast Go.Proofs.YtlkibgccgkhdmaaW.PrintMore Go.Proofs.Ytlkibgccgkhdmaa.P Go.Proofs.Cl
set_option linter.unusedVariables false
section
variable {u:List (List Int)} {nt l:List Int}
end
section
variable {u v:List (List Int)} {nt mtt:List Int}
end
end Go.Proofs.Ytlkibgccgkhdmaa.Q

namespace Go.Proofs.Ytlkibgccgkhdmaa.P
open Go.RowKit Go.Proofs.YtlkibgccgkhdmaaW.PrintWords Go.Proofs.YtlkibgccgkhdmaaW.PrintLast Go.Proofs.YtlkibgccgkhdmaaW.PrintMore Go.Proofs.Cl
set_option linter.unusedVariables false
theorem nodup_sub_len : ∀ (m l:List Int),m.Nodup→(∀ x∈m,x∈l)→m.length≤l.length
  | [],l,_,_=>Nat.zero_le _
  | x :: t,l,hn,h=>by
    have hx:x∈l:=h x (List.mem_cons_self ..)
    have hn2:=List.nodup_cons.1 hn
    have ih:=nodup_sub_len t (l.erase x) hn2.2 (fun y hy=>by
      have hne:y≠x:=fun e=>hn2.1 (e▸hy)
      exact (List.mem_erase_of_ne hne).2 (h y (List.mem_cons_of_mem _ hy)))
    have h1:=List.length_erase_of_mem hx
    have h2:=List.length_pos_of_mem hx
    simp only [List.length_cons]
    omega
theorem range_mem {n:Nat} {x:Int}:x∈castL (List.range n)↔0≤x∧x<(n:Int):=by
 unfold castL
 simp only [List.mem_map,List.mem_range]
 exact ⟨fun ⟨a,h1,h2⟩=>by omega,fun h=>⟨x.toNat,by omega,by omega⟩⟩
theorem range_len (n:Nat):(castL (List.range n)).length=n:=by simp [castL]
theorem range_nodup (n:Nat):(castL (List.range n)).Nodup:=by
 unfold castL List.Nodup
 rw [List.pairwise_map]
 refine List.Pairwise.imp ?_ (List.nodup_range (n:=n))
 intro a b h e
 exact h (Int.ofNat.inj e)
end Go.Proofs.Ytlkibgccgkhdmaa.P

namespace Go.Proofs.Ytlkibgccgkhdmaa.Q
open Go.RowKit Go.Proofs.YtlkibgccgkhdmaaW.PrintWords Go.Proofs.YtlkibgccgkhdmaaW.PrintLast Go.Proofs.YtlkibgccgkhdmaaW.PrintMore Go.Proofs.Ytlkibgccgkhdmaa.P Go.Proofs.Cl
set_option linter.unusedVariables false
section
variable {u v:List (List Int)} {nt mtt:List Int}
theorem inn_mem {x:Int}:x∈innerL u nt↔(0≤x∧x<(u.length:Int))∧x≠leastI u∧x≠rd nt (leastI u):=by
 unfold innerL castL
 simp only [List.mem_map,List.mem_filter,List.mem_range,decide_eq_true_iff]
 constructor
 ·rintro ⟨a,⟨h1,h2,h3⟩,rfl⟩
  exact ⟨⟨by omega,by omega⟩,h2,h3⟩
 ·rintro ⟨⟨h0,h1⟩,h2,h3⟩
  refine ⟨x.toNat,⟨by omega,?_,?_⟩,by omega⟩
  ·rw [Int.toNat_of_nonneg h0];exact h2
  ·rw [Int.toNat_of_nonneg h0];exact h3
theorem ng_ng (h:P.OL u nt) {x:Int} (k:0≤x∧x<(u.length:Int)):rd nt (rd nt x)=x:=by
 have:=(h.2.2.1 x.toNat (by omega)).2.1
 rw [Int.toNat_of_nonneg k.1] at this
 exact this
theorem inn_ng (h:P.OL u nt) {x:Int} (k:x∈innerL u nt):rd nt x∈innerL u nt:=by
 obtain ⟨k0,k1,k2⟩:=inn_mem.1 k
 have q:=ng_in h k0
 have z:=no_in h
 refine inn_mem.2 ⟨q,fun e=>k2 ?_,fun e=>k1 ?_⟩
 ·rw [← e,ng_ng h k0]
 ·rw [← ng_ng h k0,e,ng_ng h z]
theorem no_yes (h:P.OL u nt) (h2:2≤u.length):leastI u≠rd nt (leastI u):=by
 intro e
 obtain ⟨z,ez,hz,least⟩:=h.1.least
 have key : ∀ a:Nat,a<u.length→a=z:=by
  intro a ha
  have q:=(h.2.2.1 a ha)
  have r:=h.2.2.2 z hz a ha (least a ha)
  rw [← ez,← e,ez,Int.toNat_natCast] at r
  obtain ⟨n,en⟩:=Int.eq_ofNat_of_zero_le q.1.1
  have hn:n<u.length:=by have:=q.1.2;omega
  rw [en] at r
  have r2:rdN u n z=1:=r
  have:=h.1.1.anti hn hz r2 (least n hn)
  have e3:=q.2.1
  rw [en,show ((n:Nat):Int)=leastI u by rw [this,ez],← e,ez] at e3
  have:z=a:=by
   have:((z:Nat):Int)=(a:Int):=e3
   omega
  exact this.symm
 have a0:=key 0 (by omega)
 have a1:=key 1 (by omega)
 omega
theorem inn_nodup:(innerL u nt).Nodup:=by
 unfold innerL castL List.Nodup
 rw [List.pairwise_map]
 refine List.Pairwise.imp ?_ (List.Pairwise.filter _ (List.nodup_range (n:=u.length)))
 intro a b h e
 exact h (Int.ofNat.inj e)
theorem inn_len (h:P.OL u nt) (h2:2≤u.length):(innerL u nt).length+2=u.length:=by
 have z:=no_in h
 have y:=ng_in h z
 have ne:=no_yes h h2
 have a:=nodup_sub_len (leastI u::rd nt (leastI u)::innerL u nt) (castL (List.range u.length)) (by
  simp only [List.nodup_cons,List.mem_cons,not_or]
  exact ⟨⟨ne,fun k=>(inn_mem.1 k).2.1 rfl⟩,fun k=>(inn_mem.1 k).2.2 rfl,inn_nodup⟩) (fun x hx=>by
  rcases List.mem_cons.1 hx with e|hx
  ·rw [e];exact range_mem.2 z
  ·rcases List.mem_cons.1 hx with e|hx
   ·rw [e];exact range_mem.2 y
   ·exact range_mem.2 (inn_mem.1 hx).1)
 have b:=nodup_sub_len (castL (List.range u.length)) (leastI u::rd nt (leastI u)::innerL u nt) (range_nodup _) (fun x hx=>by
  have k:=range_mem.1 hx
  by_cases e1:x=leastI u
  ·exact List.mem_cons.2 (.inl e1)
  ·by_cases e2:x=rd nt (leastI u)
   ·exact List.mem_cons_of_mem _ (List.mem_cons.2 (.inl e2))
   ·exact List.mem_cons_of_mem _ (List.mem_cons_of_mem _ (inn_mem.2 ⟨k,e1,e2⟩)))
 rw [range_len] at a b
 simp only [List.length_cons] at a b
 omega
def midL (u:List (List Int)) (nt:List Int) (v:List (List Int)) (mtt:List Int):List (Nat × Int):=((innerL u nt).map fun k=>(1,k))++((innerL v mtt).map fun k=>(2,k))
theorem glue_eq (u:List (List Int)) (nt:List Int) (v:List (List Int)) (mtt:List Int):glueL u nt v mtt=(0,0)::(midL u nt v mtt ++ [(0,0)]):=by
 unfold glueL midL
 simp
theorem mids_len (u:List (List Int)) (nt:List Int) (v:List (List Int)) (mtt:List Int):(midL u nt v mtt).length=(innerL u nt).length+(innerL v mtt).length:=by simp [midL]
theorem glue_len (u:List (List Int)) (nt:List Int) (v:List (List Int)) (mtt:List Int):(glueL u nt v mtt).length=(innerL u nt).length+(innerL v mtt).length+2:=by
 rw [glue_eq,List.length_cons,List.length_append,mids_len]
 rfl
theorem glue_n (h1:P.OL u nt) (h2:P.OL v mtt) (k1:2≤u.length) (k2:2≤v.length):(glueL u nt v mtt).length=u.length+v.length-2:=by
 have a:=inn_len h1 k1
 have b:=inn_len h2 k2
 rw [glue_len]
 omega
theorem glue_mid {i:Nat} (h0:0<i) (h1:i<(glueL u nt v mtt).length-1):(glueL u nt v mtt).getD i (0,0)∈midL u nt v mtt:=by
 rw [glue_len] at h1
 rw [glue_eq]
 obtain ⟨j,rfl⟩ : ∃ j,i=j+1:=⟨i-1,by omega⟩
 have hj:j<(midL u nt v mtt).length:=by rw [mids_len];omega
 rw [List.getD_cons_succ,List.getD_eq_getElem?_getD,List.getElem?_append_left hj,List.getElem?_eq_getElem hj,Option.getD_some]
 exact List.getElem_mem hj
theorem glue_0:(glueL u nt v mtt).getD 0 (0,0)=(0,0):=by
 rw [glue_eq]
 rfl
theorem glue_last:(glueL u nt v mtt).getD ((glueL u nt v mtt).length-1) (0,0)=(0,0):=by
 have e:(glueL u nt v mtt).length-1=(midL u nt v mtt).length+1:=by rw [glue_len,mids_len];omega
 rw [e,glue_eq,List.getD_cons_succ,List.getD_eq_getElem?_getD,List.getElem?_append_right (Nat.le_refl _),Nat.sub_self]
 rfl
theorem mids_mem {p:Nat × Int}:p∈midL u nt v mtt↔(p.1=1∧p.2∈innerL u nt)∨(p.1=2∧p.2∈innerL v mtt):=by
 obtain ⟨a,x⟩:=p
 unfold midL
 simp only [List.mem_append,List.mem_map,Prod.mk.injEq]
 constructor
 ·rintro (⟨y,hy,rfl,rfl⟩|⟨y,hy,rfl,rfl⟩)
  ·exact .inl ⟨rfl,hy⟩
  ·exact .inr ⟨rfl,hy⟩
 ·rintro (⟨rfl,h⟩|⟨rfl,h⟩)
  ·exact .inl ⟨x,h,rfl,rfl⟩
  ·exact .inr ⟨x,h,rfl,rfl⟩
theorem glue_has {p:Nat × Int} (h:p∈midL u nt v mtt):p∈glueL u nt v mtt:=by
 rw [glue_eq]
 exact List.mem_cons_of_mem _ (List.mem_append.2 (.inl h))
theorem glue_in {i:Nat} (h:i<(glueL u nt v mtt).length):(i=0∧(glueL u nt v mtt).getD i (0,0)=(0,0))∨(i=(glueL u nt v mtt).length-1∧(glueL u nt v mtt).getD i (0,0)=(0,0))∨(0<i∧i<(glueL u nt v mtt).length-1∧(glueL u nt v mtt).getD i (0,0)∈midL u nt v mtt):=by
 by_cases e:i=0
 ·subst e;exact .inl ⟨rfl,glue_0⟩
 ·by_cases e2:i=(glueL u nt v mtt).length-1
  ·refine .inr (.inl ⟨e2,?_⟩)
   rw [e2]
   exact glue_last
  ·exact .inr (.inr ⟨by omega,by omega,glue_mid (by omega) (by omega)⟩)
end
theorem idx_at {α:Type} [BEq α] [LawfulBEq α] {l:List α} {x d:α} (h:x∈l):l.idxOf x<l.length∧l.getD (l.idxOf x) d=x:=by
 have hl:=List.idxOf_lt_length_iff.2 h
 exact ⟨hl,by rw [List.getD_eq_getElem?_getD,List.getElem?_eq_getElem hl,Option.getD_some];exact List.getElem_idxOf hl⟩
theorem idx_first {α:Type} [BEq α] [LawfulBEq α] {l:List α} {x d:α} {j:Nat} (hj:j<l.idxOf x):l.getD j d≠x:=by
 have hl:j<l.length:=Nat.lt_of_lt_of_le hj List.idxOf_le_length
 rw [List.getD_eq_getElem?_getD,List.getElem?_eq_getElem hl,Option.getD_some]
 intro e
 have h1:l.idxOf x=l.findIdx (· == x):=rfl
 rw [h1] at hj
 have:=List.not_of_lt_findIdx hj
 rw [e] at this
 simp at this
def innS (u:List (List Int)) (nt:List Int) (k:Nat):List Int:=castL ((List.range k).filter fun a=>decide ((a:Int)≠noF u nt∧(a:Int)≠yesF u nt))
theorem innS_len (u:List (List Int)) (nt:List Int) (k:Nat):(innS u nt k).length≤k:=by
 unfold innS castL
 rw [List.length_map]
 exact Nat.le_trans (List.length_filter_le _ _) (by rw [List.length_range];exact Nat.le_refl _)
theorem innS_yes {u:List (List Int)} {nt:List Int} {k:Nat} (h1:(k:Int)≠noF u nt) (h2:(k:Int)≠yesF u nt):innS u nt (k+1)=innS u nt k ++ [(k:Int)]:=by
 unfold innS castL
 rw [List.range_succ,List.filter_append,List.map_append]
 simp [h1,h2]
theorem innS_no {u:List (List Int)} {nt:List Int} {k:Nat} (h:(k:Int)=noF u nt∨(k:Int)=yesF u nt):innS u nt (k+1)=innS u nt k:=by
 unfold innS castL
 rw [List.range_succ,List.filter_append,List.map_append]
 have:decide ((k:Int)≠noF u nt∧(k:Int)≠yesF u nt)=false:=decide_eq_false (fun q=>h.elim q.1 q.2)
 simp only [List.filter_cons,this,List.filter_nil]
 simp
theorem innS_ol {u:List (List Int)} {nt:List Int} (h:P.OL u nt):innS u nt nt.length=innerL u nt:=by
 have e1:noF u nt=leastI u:=if_pos h
 have e2:yesF u nt=rd nt (leastI u):=if_pos h
 unfold innS innerL
 rw [h.2.1,e1,e2]
theorem inner_ev (u:List (List Int)) (nt:List Int) (hn:nt.length≤1048576):Ev (fun k=>spec_l3Inner.f k u nt) (innS u nt nt.length):=by
 unfold spec_l3Inner.f
 have key:=down nt.length (fun i=>Ev (fun k=>spec_l3Inner.l0 k (innS u nt i) i u nt) (innS u nt nt.length)) ?_ ?_ 0 (Nat.zero_le _)
 ·exact key
 ·exact Ev.step (fun k=>spec_l3Inner.l0.eq_2 ..) (Ev.neg (by omega) (Ev.ret rfl))
 ·intro i hi ih
  refine Ev.step (fun k=>spec_l3Inner.l0.eq_2 ..) (Ev.pos (by omega) (Ev.bind (no_ev u nt) ?_))
  rw [wrap_succ i (by omega)]
  by_cases e1:(i:Int)=noF u nt
  ·refine Ev.pos e1 ?_
   rw [← innS_no (.inl e1)]
   exact ih
  ·refine Ev.neg e1 (Ev.bind (yes_ev u nt) ?_)
   by_cases e2:(i:Int)=yesF u nt
   ·refine Ev.pos e2 ?_
    rw [← innS_no (.inr e2)]
    exact ih
   ·have:=innS_len u nt i
    refine Ev.neg e2 (Ev.pos (by omega) ?_)
    rw [← innS_yes e1 e2]
    exact ih
section
variable {u v:List (List Int)} {nt mtt:List Int}
theorem glue_left {i:Nat} (h1:1≤i) (h2:i≤(innerL u nt).length):(glueL u nt v mtt).getD i (0,0)=(1,(innerL u nt).getD (i-1) 0):=by
 obtain ⟨j,rfl⟩ : ∃ j,i=j+1:=⟨i-1,by omega⟩
 have hj:j<(innerL u nt).length:=by omega
 rw [glue_eq,List.getD_cons_succ,List.getD_eq_getElem?_getD,List.getElem?_append_left (by rw [mids_len];omega)]
 unfold midL
 rw [List.getElem?_append_left (by rw [List.length_map];exact hj),List.getElem?_map,List.getElem?_eq_getElem hj,Nat.add_sub_cancel,List.getD_eq_getElem?_getD,List.getElem?_eq_getElem hj]
 rfl
theorem glue_right {i:Nat} (h1:(innerL u nt).length+1≤i) (h2:i≤(innerL u nt).length+(innerL v mtt).length):(glueL u nt v mtt).getD i (0,0)=(2,(innerL v mtt).getD (i-(innerL u nt).length-1) 0):=by
 obtain ⟨j,rfl⟩ : ∃ j,i=j+1:=⟨i-1,by omega⟩
 have hj:j-(innerL u nt).length<(innerL v mtt).length:=by omega
 rw [glue_eq,List.getD_cons_succ,List.getD_eq_getElem?_getD,List.getElem?_append_left (by rw [mids_len];omega)]
 unfold midL
 rw [List.getElem?_append_right (by rw [List.length_map];omega),List.length_map,List.getElem?_map,List.getElem?_eq_getElem hj,show j+1-(innerL u nt).length-1=j-(innerL u nt).length by omega,List.getD_eq_getElem?_getD,List.getElem?_eq_getElem hj]
 rfl
theorem mids_nodup:(midL u nt v mtt).Nodup:=by
 unfold midL
 rw [List.nodup_append]
 refine ⟨?_,?_,?_⟩
 ·unfold List.Nodup
  rw [List.pairwise_map]
  exact List.Pairwise.imp (fun {a b} h e=>h (by injection e)) (inn_nodup (u:=u) (nt:=nt))
 ·unfold List.Nodup
  rw [List.pairwise_map]
  exact List.Pairwise.imp (fun {a b} h e=>h (by injection e)) (inn_nodup (u:=v) (nt:=mtt))
 ·intro a ha b hb e
  obtain ⟨x,_,rfl⟩:=List.mem_map.1 ha
  obtain ⟨y,_,rfl⟩:=List.mem_map.1 hb
  injection e with e1 _
  cases e1
theorem glue_inj {c d:Nat} (c0:0<c) (c1:c<(glueL u nt v mtt).length-1) (d0:0<d) (d1:d<(glueL u nt v mtt).length-1) (e:(glueL u nt v mtt).getD c (0,0)=(glueL u nt v mtt).getD d (0,0)):c=d:=by
 rw [glue_len] at c1 d1
 obtain ⟨c,rfl⟩ : ∃ j,c=j+1:=⟨c-1,by omega⟩
 obtain ⟨d,rfl⟩ : ∃ j,d=j+1:=⟨d-1,by omega⟩
 have hc:c<(midL u nt v mtt).length:=by rw [mids_len];omega
 have hd:d<(midL u nt v mtt).length:=by rw [mids_len];omega
 rw [glue_eq,List.getD_cons_succ,List.getD_cons_succ,List.getD_eq_getElem?_getD,List.getD_eq_getElem?_getD,List.getElem?_append_left hc,List.getElem?_append_left hd,List.getElem?_eq_getElem hc,List.getElem?_eq_getElem hd,Option.getD_some,Option.getD_some] at e
 have key:=List.pairwise_iff_getElem.1 (mids_nodup (u:=u) (nt:=nt) (v:=v) (mtt:=mtt))
 by_cases q:c<d
 ·exact absurd e (key c d hc hd q)
 ·by_cases q2:d<c
  ·exact absurd e.symm (key d c hd hc q2)
  ·omega
end
def finG (u v:List (List Int)) (G:List (Nat × Int)) (i c:Nat):Int:=if glueB u v G i c=true then 1 else 0
theorem finG_t {u v:List (List Int)} {G:List (Nat × Int)} {i c n:Nat} (hn:G.length=n) (h:i=0∨c=n-1∨i=c):finG u v G i c=1:=by
 have e:glueB u v G i c=true:=by
  unfold glueB
  rw [hn]
  exact if_pos h
 unfold finG
 exact if_pos e
theorem finG_f {u v:List (List Int)} {G:List (Nat × Int)} {i c n:Nat} (hn:G.length=n) (h : ¬(i=0∨c=n-1∨i=c)) (h2:i=n-1∨c=0):finG u v G i c=0:=by
 have e:glueB u v G i c=false:=by
  unfold glueB
  rw [hn]
  exact (if_neg h).trans (if_pos h2)
 unfold finG
 rw [e]
 rfl
theorem finG_d {u v:List (List Int)} {G:List (Nat × Int)} {i c n:Nat} (hn:G.length=n) (h : ¬(i=0∨c=n-1∨i=c)) (h2 : ¬(i=n-1∨c=0)):finG u v G i c=if decide ((G.getD i (0,0)).1=(G.getD c (0,0)).1∧rdN (if (G.getD i (0,0)).1=1 then u else v) (G.getD i (0,0)).2.toNat (G.getD c (0,0)).2.toNat=1)=true then 1 else 0:=by
 have e:glueB u v G i c=decide ((G.getD i (0,0)).1=(G.getD c (0,0)).1∧rdN (if (G.getD i (0,0)).1=1 then u else v) (G.getD i (0,0)).2.toNat (G.getD c (0,0)).2.toNat=1):=by
  unfold glueB
  rw [hn]
  exact (if_neg h).trans (if_neg h2)
 unfold finG
 rw [e]
def iniG (n i c:Nat):Int:=if c=i∨c=n-1 then 1 else 0
def rowG (u v:List (List Int)) (G:List (Nat × Int)) (i j:Nat):List Int:=(List.range G.length).map fun c=>if c<j then finG u v G i c else iniG G.length i c
def nidx (nt mtt:List Int) (G:List (Nat × Int)) (i:Nat):Nat:=G.idxOf ((G.getD i (0,0)).1,rd (if (G.getD i (0,0)).1=1 then nt else mtt) (G.getD i (0,0)).2)
def notG (nt mtt:List Int) (G:List (Nat × Int)) (i j:Nat):Int:=if 0<i∧i<G.length-1∧nidx nt mtt G i<j then (nidx nt mtt G i:Int) else ((G.length-1-i:Nat):Int)
section
variable {u v:List (List Int)} {nt mtt:List Int} {G:List (Nat × Int)}
theorem rowG_len (i j:Nat):(rowG u v G i j).length=G.length:=by simp [rowG]
theorem rowG_zero {i:Nat} (hi:i<G.length):rowG u v G i 0=((List.replicate G.length 0).set i 1).set (G.length-1) 1:=by
 refine List.ext_getElem (by simp [rowG]) (fun c h1 h2=>?_)
 simp only [rowG,List.getElem_map,List.getElem_range,List.getElem_set,List.getElem_replicate]
 rw [if_neg (Nat.not_lt_zero _)]
 unfold iniG
 by_cases a:G.length-1=c
 ·rw [if_pos a,if_pos (.inr a.symm)]
 ·rw [if_neg a]
  by_cases b:i=c
  ·rw [if_pos b,if_pos (.inl b.symm)]
  ·rw [if_neg b,if_neg (fun q=>q.elim (fun e=>b e.symm) (fun e=>a e.symm))]
theorem rowG_set {i c:Nat} (hc:c<G.length):(rowG u v G i c).set c (finG u v G i c)=rowG u v G i (c+1):=by
 refine List.ext_getElem (by simp [rowG]) (fun d h1 h2=>?_)
 simp only [rowG,List.getElem_map,List.getElem_range,List.getElem_set]
 by_cases a:c=d
 ·subst a
  rw [if_pos rfl,if_pos (by omega)]
 ·rw [if_neg a]
  by_cases b:d<c
  ·rw [if_pos b,if_pos (by omega)]
  ·rw [if_neg b,if_neg (by omega)]
theorem rowG_same {i c:Nat} (h:finG u v G i c=iniG G.length i c):rowG u v G i c=rowG u v G i (c+1):=by
 unfold rowG
 refine List.map_congr_left (fun d hd=>?_)
 by_cases a:d=c
 ·subst a
  rw [if_neg (by omega),if_pos (by omega),h]
 ·by_cases b:d<c
  ·rw [if_pos b,if_pos (by omega)]
  ·rw [if_neg b,if_neg (by omega)]
theorem notG_zero (i:Nat):notG nt mtt G i 0=((G.length-1-i:Nat):Int):=if_neg (fun q=>Nat.not_lt_zero _ q.2.2)
theorem notG_same {i c:Nat} (h:0<i→i<G.length-1→nidx nt mtt G i≠c):notG nt mtt G i (c+1)=notG nt mtt G i c:=by
 unfold notG
 by_cases a:0<i∧i<G.length-1∧nidx nt mtt G i<c
 ·rw [if_pos a,if_pos ⟨a.1,a.2.1,by omega⟩]
 ·rw [if_neg a,if_neg (fun q=>a ⟨q.1,q.2.1,by have:=h q.1 q.2.1;omega⟩)]
theorem notG_hit {i c:Nat} (h1:0<i) (h2:i<G.length-1) (h:nidx nt mtt G i=c):notG nt mtt G i (c+1)=(c:Int):=by
 unfold notG
 rw [if_pos ⟨h1,h2,by omega⟩,h]
end
def rowsG (u v:List (List Int)) (G:List (Nat × Int)) (i:Nat):List (List Int):=(List.range i).map fun a=>rowG u v G a G.length
def notsG (nt mtt:List Int) (G:List (Nat × Int)) (i:Nat):List Int:=(List.range i).map fun a=>notG nt mtt G a G.length
theorem rowsG_len (u v:List (List Int)) (G:List (Nat × Int)) (i:Nat):(rowsG u v G i).length=i:=by simp [rowsG]
theorem notsG_len (nt mtt:List Int) (G:List (Nat × Int)) (i:Nat):(notsG nt mtt G i).length=i:=by simp [notsG]
theorem rowsG_succ (u v:List (List Int)) (G:List (Nat × Int)) (i:Nat):rowsG u v G (i+1)=rowsG u v G i ++ [rowG u v G i G.length]:=by simp [rowsG,List.range_succ]
theorem notsG_succ (nt mtt:List Int) (G:List (Nat × Int)) (i:Nat):notsG nt mtt G (i+1)=notsG nt mtt G i ++ [notG nt mtt G i G.length]:=by simp [notsG,List.range_succ]
theorem rowsG_all (u v:List (List Int)) (G:List (Nat × Int)):rowsG u v G G.length=madeU G.length (glueB u v G):=by
 unfold rowsG madeU
 refine List.map_congr_left (fun a ha=>?_)
 unfold rowG
 refine List.map_congr_left (fun c hc=>?_)
 rw [if_pos (List.mem_range.1 hc)]
 rfl
structure GlS (u:List (List Int)) (nt:List Int) (v:List (List Int)) (mtt:List Int) (n:Nat):Prop where
 h1:P.OL u nt
 h2:P.OL v mtt
 hn:(glueL u nt v mtt).length=n
 h12:n≤12
namespace GlS
variable {u v:List (List Int)} {nt mtt:List Int} {n:Nat}
theorem ab (S:GlS u nt v mtt n):n=(innerL u nt).length+(innerL v mtt).length+2:=by rw [← S.hn,glue_len]
theorem at_inn {u:List (List Int)} {nt:List Int} {j:Nat} (h:j<(innerL u nt).length) : ∃ X:Nat,(innerL u nt).getD j 0=(X:Int)∧X<u.length∧(X:Int)∈innerL u nt:=by
 have hm:=getD_mem h
 obtain ⟨⟨h0,h1⟩,_⟩:=inn_mem.1 hm
 obtain ⟨X,e⟩:=Int.eq_ofNat_of_zero_le h0
 rw [e] at hm h1
 exact ⟨X,e,by omega,hm⟩
theorem opp (S:GlS u nt v mtt n) {i t:Nat} {x:Int} (hg:(glueL u nt v mtt).getD i (0,0)=(t,x)) (ht:t≠0) (hin:(t,rd (if t=1 then nt else mtt) x)∈glueL u nt v mtt) {c:Nat} {y:Int} (hgc:(glueL u nt v mtt).getD c (0,0)=(t,y)) (hc0:0<c) (hc1:c<n-1) :
    rd (if t=1 then nt else mtt) x=y↔nidx nt mtt (glueL u nt v mtt) i=c:=by
  have hn:=S.hn
  have e:nidx nt mtt (glueL u nt v mtt) i=(glueL u nt v mtt).idxOf (t,rd (if t=1 then nt else mtt) x):=by unfold nidx;rw [hg]
  obtain ⟨m1,m2⟩:=idx_at (d:=(0,0)) hin
  rw [← e] at m1 m2
  constructor
  · intro q
    rw [q] at m2
    rcases glue_in m1 with ⟨_,k⟩|⟨_,k⟩|⟨k0,k1,_⟩
    · rw [m2] at k;injection k with k;exact absurd k ht
    · rw [m2] at k;injection k with k;exact absurd k ht
    · exact glue_inj k0 k1 hc0 (by rw [hn];exact hc1) (m2.trans hgc.symm)
  · intro q
    rw [q,hgc] at m2
    injection m2 with _ m2
    exact m2.symm
theorem opp_not (S:GlS u nt v mtt n) {i t:Nat} {x:Int} (hg:(glueL u nt v mtt).getD i (0,0)=(t,x)) (hin:(t,rd (if t=1 then nt else mtt) x)∈glueL u nt v mtt) {c:Nat} (hc:((glueL u nt v mtt).getD c (0,0)).1≠t):nidx nt mtt (glueL u nt v mtt) i≠c:=by
 intro q
 have e:nidx nt mtt (glueL u nt v mtt) i=(glueL u nt v mtt).idxOf (t,rd (if t=1 then nt else mtt) x):=by unfold nidx;rw [hg]
 obtain ⟨m1,m2⟩:=idx_at (d:=(0,0)) hin
 rw [← e,q] at m2
 rw [m2] at hc
 exact hc rfl
theorem fin_out (S:GlS u nt v mtt n) {i c:Nat} (hi0:0<i) (hi1:i<n-1) (hc:c<n) (ht:((glueL u nt v mtt).getD c (0,0)).1≠((glueL u nt v mtt).getD i (0,0)).1):finG u v (glueL u nt v mtt) i c=iniG n i c:=by
 have hn:=S.hn
 by_cases a:c=n-1
 ·rw [finG_t hn (.inr (.inl a))]
  unfold iniG
  rw [if_pos (.inr a)]
 ·have b : ¬i=c:=fun e=>ht (by rw [e])
  have e0:iniG n i c=0:=if_neg (by omega)
  rw [e0]
  by_cases d:i=n-1∨c=0
  ·exact finG_f hn (by omega) d
  ·rw [finG_d hn (by omega) d,decide_eq_false (fun q=>ht q.1.symm)];rfl
theorem fin_in (S:GlS u nt v mtt n) {i c t X Y:Nat} (w:List (List Int)) (hw:Ord w) (hi0:0<i) (hi1:i<n-1) (hc0:0<c) (hc1:c<n-1) (gi:(glueL u nt v mtt).getD i (0,0)=(t,(X:Int))) (gc:(glueL u nt v mtt).getD c (0,0)=(t,(Y:Int))) (ew:(if t=1 then u else v)=w) (hX:X<w.length) (hY:Y<w.length):finG u v (glueL u nt v mtt) i c=rdN w X Y:=by
 have hn:=S.hn
 by_cases b:i=c
 ·subst b
  rw [gi] at gc
  injection gc with _ gc
  have:X=Y:=by omega
  subst this
  rw [finG_t hn (.inr (.inr rfl)),hw.refl hX]
 ·rw [finG_d hn (by omega) (by omega),gi,gc]
  show (if decide (t=t∧rdN (if t=1 then u else v) (Int.toNat (X:Int)) (Int.toNat (Y:Int))=1)=true then (1:Int) else 0)=_
  rw [ew,Int.toNat_natCast,Int.toNat_natCast]
  rcases hw.bit hX hY with q|q
  ·rw [q];simp
  ·rw [q];simp
theorem in_ (S:GlS u nt v mtt n) {i c t X Y:Nat} {uu:List (List Int)} {ntt:List Int} (gi:(glueL u nt v mtt).getD i (0,0)=(t,(X:Int))) (gc:(glueL u nt v mtt).getD c (0,0)=(t,(Y:Int))) (hi0:0<i) (hi1:i<n-1) (hc0:0<c) (hc1:c<n-1) (hX:X<uu.length) (hY:Y<uu.length)
    (ew:(if t=1 then u else v)=uu) (en:(if t=1 then nt else mtt)=ntt) (hw:Ord uu) (ht:t≠0) (hin:(t,rd ntt (X:Int))∈glueL u nt v mtt) :
    (rowG u v (glueL u nt v mtt) i c).set c (rdN uu X Y)=rowG u v (glueL u nt v mtt) i (c+1)∧(rd ntt (X:Int)=(Y:Int)→notG nt mtt (glueL u nt v mtt) i (c+1)=(c:Int))∧(¬rd ntt (X:Int)=(Y:Int)→notG nt mtt (glueL u nt v mtt) i (c+1)=notG nt mtt (glueL u nt v mtt) i c):=by
  have hn:=S.hn
  subst en
  have op:=S.opp gi ht hin gc hc0 hc1
  refine ⟨?_,fun e=>notG_hit hi0 (by rw [hn];exact hi1) (op.1 e),fun e=>notG_same (fun _ _ k=>e (op.2 k))⟩
  rw [← S.fin_in uu hw hi0 hi1 hc0 hc1 gi gc ew hX hY]
  exact rowG_set (by rw [hn];omega)
theorem out_ (S:GlS u nt v mtt n) {i c t X:Nat} {ntt:List Int} (gi:(glueL u nt v mtt).getD i (0,0)=(t,(X:Int))) (hi0:0<i) (hi1:i<n-1) (hc:c<n) (en:(if t=1 then nt else mtt)=ntt) (hin:(t,rd ntt (X:Int))∈glueL u nt v mtt) (gt:((glueL u nt v mtt).getD c (0,0)).1≠t) :
    rowG u v (glueL u nt v mtt) i c=rowG u v (glueL u nt v mtt) i (c+1)∧notG nt mtt (glueL u nt v mtt) i (c+1)=notG nt mtt (glueL u nt v mtt) i c:=by
  subst en
  exact ⟨rowG_same (by rw [S.hn];exact S.fin_out hi0 hi1 hc (by rw [gi];exact gt)),notG_same (fun _ _=>S.opp_not gi hin gt)⟩
variable {FA FB:List Int}
theorem left (S:GlS u nt v mtt n) (eA:FA=innerL u nt) {i:Nat} (h1:1≤i) (h2:i≤FA.length) : ∃ X:Nat,FA.getD (i-1) 0=(X:Int)∧X<u.length∧(1,rd nt (X:Int))∈glueL u nt v mtt∧(glueL u nt v mtt).getD i (0,0)=(1,(X:Int)):=by
 subst eA
 have gi:=glue_left (v:=v) (mtt:=mtt) h1 h2
 obtain ⟨X,eX,hX,mX⟩:=at_inn (u:=u) (nt:=nt) (j:=i-1) (by omega)
 rw [eX] at gi
 exact ⟨X,eX,hX,glue_has (mids_mem.2 (.inl ⟨rfl,inn_ng S.h1 mX⟩)),gi⟩
theorem right (S:GlS u nt v mtt n) (eA:FA=innerL u nt) (eB:FB=innerL v mtt) {i:Nat} (h1:FA.length+1≤i) (h2:i≤FA.length+FB.length) : ∃ X:Nat,FB.getD (i-FA.length-1) 0=(X:Int)∧X<v.length∧(2,rd mtt (X:Int))∈glueL u nt v mtt∧(glueL u nt v mtt).getD i (0,0)=(2,(X:Int)):=by
 subst eA
 subst eB
 have gi:=glue_right (u:=u) (nt:=nt) (v:=v) (mtt:=mtt) h1 h2
 obtain ⟨X,eX,hX,mX⟩:=at_inn (u:=v) (nt:=mtt) (j:=i-(innerL u nt).length-1) (by omega)
 rw [eX] at gi
 exact ⟨X,eX,hX,glue_has (mids_mem.2 (.inr ⟨rfl,inn_ng S.h2 mX⟩)),gi⟩
theorem nleft (S:GlS u nt v mtt n) (eA:FA=innerL u nt) {c:Nat} (hc:c<n) (h : ¬(1≤c∧c≤FA.length)):((glueL u nt v mtt).getD c (0,0)).1≠1:=by
 subst eA
 have q:=S.ab
 by_cases a:c=0
 ·rw [a,glue_0];decide
 ·by_cases b:c=n-1
  ·rw [b,← S.hn,glue_last];decide
  ·rw [glue_right (by omega) (by omega)];show 2≠1;decide
theorem nright (S:GlS u nt v mtt n) (eA:FA=innerL u nt) (eB:FB=innerL v mtt) {c:Nat} (hc:c<n) (h : ¬(FA.length+1≤c∧c≤FA.length+FB.length)):((glueL u nt v mtt).getD c (0,0)).1≠2:=by
 subst eA
 subst eB
 have q:=S.ab
 by_cases a:c=0
 ·rw [a,glue_0];decide
 ·by_cases b:c=n-1
  ·rw [b,← S.hn,glue_last];decide
  ·rw [glue_left (by omega) (by omega)];show 1≠2;decide
theorem top_ (S:GlS u nt v mtt n) {i c:Nat} (hi:i=0) (hc:c<n):(rowG u v (glueL u nt v mtt) i c).set c 1=rowG u v (glueL u nt v mtt) i (c+1)∧notG nt mtt (glueL u nt v mtt) i (c+1)=notG nt mtt (glueL u nt v mtt) i c:=by
 have e1:finG u v (glueL u nt v mtt) i c=1:=finG_t S.hn (.inl hi)
 refine ⟨?_,notG_same (fun k _=>by omega)⟩
 rw [← e1]
 exact rowG_set (by rw [S.hn];exact hc)
theorem bot_ (S:GlS u nt v mtt n) {i c:Nat} (h0:0<i) (hi:i=n-1):rowG u v (glueL u nt v mtt) i c=rowG u v (glueL u nt v mtt) i (c+1)∧notG nt mtt (glueL u nt v mtt) i (c+1)=notG nt mtt (glueL u nt v mtt) i c:=by
 have hn:=S.hn
 have e1:finG u v (glueL u nt v mtt) i c=iniG (glueL u nt v mtt).length i c:=by
  rw [hn]
  by_cases d:c=n-1
  ·rw [finG_t hn (.inr (.inl d))]
   unfold iniG
   rw [if_pos (.inr d)]
  ·rw [finG_f hn (by omega) (.inl hi)]
   unfold iniG
   rw [if_neg (by omega)]
 exact ⟨rowG_same e1,notG_same (fun _ k=>by rw [hn] at k;omega)⟩
theorem nots_ (S:GlS u nt v mtt n):notsG nt mtt (glueL u nt v mtt) (glueL u nt v mtt).length=madeN (glueL u nt v mtt).length (glueO nt mtt (glueL u nt v mtt)):=by
 have hn:=S.hn
 unfold notsG madeN
 refine List.map_congr_left (fun i hi=>?_)
 have hi:=List.mem_range.1 hi
 unfold notG glueO
 by_cases a:i=0∨i=(glueL u nt v mtt).length-1
 ·rw [if_pos a,if_neg (by omega)]
 ·rw [if_neg a]
  have hm:=glue_mid (u:=u) (nt:=nt) (v:=v) (mtt:=mtt) (i:=i) (by omega) (by omega)
  obtain ⟨⟨t,x⟩,e⟩ : ∃ p,(glueL u nt v mtt).getD i (0,0)=p:=⟨_,rfl⟩
  have hin:(t,rd (if t=1 then nt else mtt) x)∈glueL u nt v mtt:=by
   rw [e] at hm
   rcases mids_mem.1 hm with ⟨k1,k2⟩|⟨k1,k2⟩
   ·have k1:t=1:=k1
    subst k1
    exact glue_has (mids_mem.2 (.inl ⟨rfl,inn_ng S.h1 k2⟩))
   ·have k1:t=2:=k1
    subst k1
    exact glue_has (mids_mem.2 (.inr ⟨rfl,inn_ng S.h2 k2⟩))
  have hlt:=(idx_at (d:=(0,0)) hin).1
  have en:nidx nt mtt (glueL u nt v mtt) i=(glueL u nt v mtt).idxOf (t,rd (if t=1 then nt else mtt) x):=by unfold nidx;rw [e]
  rw [if_pos ⟨by omega,by omega,by rw [en];exact hlt⟩]
  rfl
end GlS
section
variable {u:List (List Int)} {nt o:List Int}
end

theorem toIntS_ev (xs:List Int) (h:xs.length≤35184372088832):Ev (fun k=>laws_toIntS.f k xs) xs:=by
 unfold laws_toIntS.f
 refine Ev.pos (by omega) (Ev.pos (by omega) ?_)
 have key : ∀ i,i≤xs.length→Ev (fun k=>laws_toIntS.l0 k xs (xs.take i++List.replicate (xs.length-i) 0) i) xs:=by
  intro i hi
  refine down xs.length (fun i=>Ev (fun k=>laws_toIntS.l0 k xs (xs.take i++List.replicate (xs.length-i) 0) i) xs) ?_ ?_ i hi
  ·refine Ev.step (fun k=>laws_toIntS.l0.eq_2 ..) ?_
   exact Ev.neg (by omega) (Ev.ret (by simp))
  ·intro i hi ih
   refine Ev.step (fun k=>laws_toIntS.l0.eq_2 ..) ?_
   refine Ev.pos (by omega) (Ev.pos (by omega) (Ev.pos (by simp;omega) ?_))
   rw [wrap_succ' i (by omega),rd_lt xs hi,show ((i:Int)).toNat=i from rfl,set_step xs 0 i hi]
   exact ih
 have:=key 0 (Nat.zero_le _)
 simpa using this
theorem toIntSS_ev (u:List (List Int)) (h:u.length≤11728124029610) (hr : ∀ i (k:i<u.length),u[i].length≤35184372088832):Ev (fun k=>laws_toIntSS.f k u) u:=by
 unfold laws_toIntSS.f
 refine Ev.pos (by omega) (Ev.pos (by omega) ?_)
 have key : ∀ i,i≤u.length→Ev (fun k=>laws_toIntSS.l0 k u (u.take i++List.replicate (u.length-i) []) i) u:=by
  intro i hi
  refine down u.length (fun i=>Ev (fun k=>laws_toIntSS.l0 k u (u.take i++List.replicate (u.length-i) []) i) u) ?_ ?_ i hi
  ·refine Ev.step (fun k=>laws_toIntSS.l0.eq_2 ..) ?_
   exact Ev.neg (by omega) (Ev.ret (by simp))
  ·intro i hi ih
   refine Ev.step (fun k=>laws_toIntSS.l0.eq_2 ..) ?_
   refine Ev.pos (by omega) (Ev.pos (by omega) ?_)
   rw [row_lt u hi]
   refine Ev.bind (toIntS_ev _ (hr i hi)) ?_
   refine Ev.pos (by simp;omega) ?_
   rw [wrap_succ' i (by omega),show ((i:Int)).toNat=i from rfl,set_step u [] i hi]
   exact ih
 have:=key 0 (Nat.zero_le _)
 simpa using this
theorem eqIntS_ev (xs:List Int) (h:xs.length<9223372036854775807):Ev (fun k=>laws_eqIntS.f k xs xs) true:=by
 unfold laws_eqIntS.f
 refine Ev.pos rfl ?_
 refine down xs.length (fun i=>Ev (fun k=>laws_eqIntS.l0 k xs xs i) true) ?_ ?_ 0 (Nat.zero_le _)
 ·refine Ev.step (fun k=>laws_eqIntS.l0.eq_2 ..) ?_
  exact Ev.neg (by omega) (Ev.ret rfl)
 ·intro i hi ih
  refine Ev.step (fun k=>laws_eqIntS.l0.eq_2 ..) ?_
  refine Ev.pos (by omega) (Ev.pos (by omega) (Ev.pos (by omega) (Ev.pos rfl ?_)))
  rw [wrap_succ' i (by omega)]
  exact ih
theorem eqIntSS_ev (u:List (List Int)) (h:u.length<9223372036854775807) (hr : ∀ i (k:i<u.length),u[i].length<9223372036854775807):Ev (fun k=>laws_eqIntSS.f k u u) true:=by
 unfold laws_eqIntSS.f
 refine Ev.pos rfl ?_
 refine down u.length (fun i=>Ev (fun k=>laws_eqIntSS.l0 k u u i) true) ?_ ?_ 0 (Nat.zero_le _)
 ·refine Ev.step (fun k=>laws_eqIntSS.l0.eq_2 ..) ?_
  exact Ev.neg (by omega) (Ev.ret rfl)
 ·intro i hi ih
  refine Ev.step (fun k=>laws_eqIntSS.l0.eq_2 ..) ?_
  refine Ev.pos (by omega) (Ev.pos (by omega) (Ev.pos (by omega) ?_))
  rw [row_lt u hi]
  refine Ev.bind (eqIntS_ev _ (hr i hi)) (Ev.pos rfl ?_)
  rw [wrap_succ' i (by omega)]
  exact ih
theorem szIntS_eq (xs:List Int) (a:Int) (h0:0≤a) (h1:a≤1048576) (hx:xs.length≤9223372036854775807):laws_szIntS.f xs a=some (if a-xs.length<0 then -1 else a-xs.length):=by
 unfold laws_szIntS.f
 rw [wrap_of _ (by omega) (by omega)]
 by_cases h:a-xs.length<0
 ·rw [if_pos h,if_pos h]
 ·rw [if_neg h,if_neg h]
theorem szIntSS_ev (u:List (List Int)) (a:Int) (h0:0≤a) (h1:a≤1048576) (hu:u.length≤9223372036854775807) (hr : ∀ i (k:i<u.length),u[i].length≤9223372036854775807) :
    ∃ r,Ev (fun k=>laws_szIntSS.f k u a) r∧r≤1048576∧(0≤r→u.length≤1048576∧∀ i (k:i<u.length),u[i].length≤1048576):=by
  unfold laws_szIntSS.f
  rw [wrap_of _ (by omega) (by omega)]
  by_cases e:a-u.length<0
  · exact ⟨-1,Ev.pos e (Ev.ret rfl),by omega,fun h=>by omega⟩
  · have key : ∀ i,i≤u.length→∀ b:Int,0≤b→b≤1048576→∃ r,Ev (fun k=>laws_szIntSS.l0 k u b i) r∧r≤1048576∧(0≤r→∀ j (k:j<u.length),i≤j→u[j].length≤1048576):=by
      intro i hi
      refine down u.length (fun i=>∀ b:Int,0≤b→b≤1048576→∃ r,Ev (fun k=>laws_szIntSS.l0 k u b i) r∧r≤1048576∧(0≤r→∀ j (k:j<u.length),i≤j→u[j].length≤1048576)) ?_ ?_ i hi
      · intro b b0 b1
        refine ⟨b,Ev.step (fun k=>laws_szIntSS.l0.eq_2 ..) (Ev.neg (by omega) (Ev.ret rfl)),b1,fun _ j hj k=>by omega⟩
      · intro i hi ih b b0 b1
        have hs:=szIntS_eq u[i] b b0 b1 (hr i hi)
        by_cases e2:b-u[i].length<0
        · rw [if_pos e2] at hs
          refine ⟨-1,Ev.step (fun k=>laws_szIntSS.l0.eq_2 ..) ?_,by omega,fun h=>by omega⟩
          refine Ev.pos (by omega) (Ev.pos (by omega) ?_)
          rw [row_lt u hi]
          exact Ev.bindc hs (Ev.pos (by omega) (Ev.ret rfl))
        · rw [if_neg e2] at hs
          obtain ⟨r,k1,k3,k2⟩:=ih (b-u[i].length) (by omega) (by omega)
          refine ⟨r,Ev.step (fun k=>laws_szIntSS.l0.eq_2 ..) ?_,k3,fun h j hj k=>?_⟩
          · refine Ev.pos (by omega) (Ev.pos (by omega) ?_)
            rw [row_lt u hi]
            refine Ev.bindc hs (Ev.neg (by omega) ?_)
            rw [wrap_succ' i (by omega)]
            exact k1
          · by_cases e3:j=i
            · subst e3
              omega
            · exact k2 h j hj (by omega)
    obtain ⟨r,k1,k3,k2⟩:=key 0 (Nat.zero_le _) (a-u.length) (by omega) (by omega)
    exact ⟨r,Ev.neg e k1,k3,fun h=>⟨by omega,fun i hi=>k2 h i hi (Nat.zero_le _)⟩⟩
section
variable {u:List (List Int)} {nt:List Int}
theorem copyL (h1:u.length≤1048576) (h2 : ∀ i (k:i<u.length),u[i].length≤1048576) (h3:nt.length≤1048576):Ev (fun k=>laws_toLogic.f k u nt) (u,nt):=by
 unfold laws_toLogic.f
 exact Ev.bind (toIntSS_ev u (by omega) (fun i k=>by have:=h2 i k;omega)) (Ev.bind (toIntS_ev nt (by omega)) (Ev.ret rfl))
theorem sameL (h1:u.length≤1048576) (h2 : ∀ i (k:i<u.length),u[i].length≤1048576) (h3:nt.length≤1048576):Ev (fun k=>laws_eqLogic.f k u nt u nt) true:=by
 unfold laws_eqLogic.f
 exact Ev.bind (eqIntSS_ev u (by omega) (fun i k=>by have:=h2 i k;omega)) (Ev.pos rfl (Ev.bind (eqIntS_ev nt (by omega)) (Ev.pos rfl (Ev.ret rfl))))
end
def mk1 (n:Nat) (a:Int):List Int:=(List.range n).map fun (i:Nat)=>a+i
def tot (u:List (List Int)):Nat:=(u.map List.length).sum
def mk2:List (List Int)→Int→List (List Int)
 | [],_=>[]
 | x::xs,a=>mk1 x.length a::mk2 xs (a+x.length)
theorem mk1_len (n:Nat) (a:Int):(mk1 n a).length=n:=by simp [mk1]
theorem mk1_at {n:Nat} {a:Int} {i:Nat} (h:i<n):(mk1 n a)[i]'(by rw [mk1_len];exact h)=a+i:=by simp [mk1]
theorem tot_cons (x:List Int) (xs:List (List Int)):tot (x::xs)=x.length+tot xs:=by simp [tot]
theorem tot_append (xs ys:List (List Int)):tot (xs++ys)=tot xs+tot ys:=by simp [tot]
theorem tot_le (M:Nat) : ∀ u:List (List Int),(∀ x∈u,x.length≤M)→tot u≤u.length*M
  | [],_=>by simp [tot]
  | x::xs,h=>by
    have h1:=h x List.mem_cons_self
    have h2:=tot_le M xs (fun y hy=>h y (List.mem_cons_of_mem _ hy))
    rw [tot_cons,List.length_cons,Nat.succ_mul]
    omega
theorem mk2_len (u:List (List Int)) (a:Int):(mk2 u a).length=u.length:=by
 induction u generalizing a with
 | nil=>rfl
 | cons x xs ih=>simp [mk2,ih]
theorem mk2_append (xs ys:List (List Int)) (a:Int):mk2 (xs++ys) a=mk2 xs a++mk2 ys (a+tot xs):=by
 induction xs generalizing a with
 | nil=>simp [mk2,tot]
 | cons x xs ih =>
  rw [List.cons_append,mk2,mk2,ih,tot_cons,List.cons_append]
  congr 3
  omega
theorem take_one (u:List (List Int)) {i:Nat} (h:i<u.length):u.take (i+1)=u.take i ++ [u[i]]:=List.take_succ_eq_append_getElem h
theorem tot_take (u:List (List Int)) {i:Nat} (h:i<u.length):tot (u.take (i+1))=tot (u.take i)+u[i].length:=by
 rw [take_one u h,tot_append]
 simp [tot]
theorem tot_take_le (u:List (List Int)) (i:Nat):tot (u.take i)≤tot u:=by
 have:=tot_append (u.take i) (u.drop i)
 rw [List.take_append_drop] at this
 omega
def cur (u:List (List Int)) (a:Int) (i:Nat):List (List Int):=mk2 (u.take i) a++u.drop i
theorem cur_zero (u:List (List Int)) (a:Int):cur u a 0=u:=by simp [cur,mk2]
theorem cur_full (u:List (List Int)) (a:Int):cur u a u.length=mk2 u a:=by simp [cur]
theorem cur_len (u:List (List Int)) (a:Int) {i:Nat} (h:i≤u.length):(cur u a i).length=u.length:=by
 rw [cur,List.length_append,mk2_len,List.length_take,List.length_drop]
 omega
theorem cur_at (u:List (List Int)) (a:Int) {i:Nat} (h:i<u.length):rd_L1 (cur u a i) (i:Int)=u[i]:=by
 rw [row_nat,cur,List.getD_eq_getElem?_getD,List.getElem?_append_right (by rw [mk2_len,List.length_take];omega),mk2_len,List.length_take,List.getElem?_drop]
 rw [show i+(i-min i u.length)=i by omega,List.getElem?_eq_getElem h,Option.getD_some]
theorem cur_set (u:List (List Int)) (a:Int) {i:Nat} (h:i<u.length):(cur u a i).set i (mk1 u[i].length (a+tot (u.take i)))=cur u a (i+1):=by
 have e:u.drop i=u[i]::u.drop (i+1):=by rw [List.drop_eq_getElem_cons h]
 rw [cur,List.set_append,if_neg (by rw [mk2_len,List.length_take];omega),mk2_len,List.length_take,show i-min i u.length=0 by omega,e,List.set_cons_zero]
 rw [cur,take_one u h,mk2_append,List.append_assoc]
 rfl
theorem markIntS_ev (xs:List Int) (a:Int) (h0:0≤a) (h1:a+xs.length≤9223372036854775807):Ev (fun k=>laws_markIntS.f k xs a) (a+xs.length,mk1 xs.length a):=by
 unfold laws_markIntS.f
 have key:=down xs.length (fun i=>Ev (fun k=>laws_markIntS.l0 k (mk1 i a++xs.drop i) (a+i) i) (a+xs.length,mk1 xs.length a)) ?_ ?_ 0 (Nat.zero_le _)
 ·have e:mk1 0 a++xs.drop 0=xs:=by simp [mk1]
  rw [e] at key
  simpa using key
 ·refine Ev.step (fun k=>laws_markIntS.l0.eq_2 ..) ?_
  have e:mk1 xs.length a++xs.drop xs.length=mk1 xs.length a:=by simp
  rw [e]
  exact Ev.neg (by rw [mk1_len];omega) (Ev.ret rfl)
 ·intro i hi ih
  refine Ev.step (fun k=>laws_markIntS.l0.eq_2 ..) ?_
  refine Ev.pos (by rw [List.length_append,mk1_len,List.length_drop];omega) (Ev.pos (by omega) ?_)
  rw [wrap_succ' i (by omega),Int.toNat_natCast]
  have e1:wrap64 (a+i+1)=a+((i+1:Nat):Int):=by rw [wrap_of _ (by omega) (by omega)];omega
  have e2:(mk1 i a++xs.drop i).set i (a+i)=mk1 (i+1) a++xs.drop (i+1):=by
   rw [List.set_append,if_neg (by rw [mk1_len];omega),mk1_len,Nat.sub_self,List.drop_eq_getElem_cons hi,List.set_cons_zero]
   simp [mk1,List.range_succ]
  rw [e1,e2]
  exact ih
theorem heldIntS_ev (m:Nat) (a:Int) (h0:0≤a) (h1:a+m≤9223372036854775807):Ev (fun k=>laws_heldIntS.f k (mk1 m a) a) (a+m):=by
 unfold laws_heldIntS.f
 have key:=down m (fun i=>Ev (fun k=>laws_heldIntS.l0 k (mk1 m a) (a+i) i) (a+m)) ?_ ?_ 0 (Nat.zero_le _)
 ·simpa using key
 ·refine Ev.step (fun k=>laws_heldIntS.l0.eq_2 ..) ?_
  exact Ev.neg (by rw [mk1_len];omega) (Ev.ret rfl)
 ·intro i hi ih
  refine Ev.step (fun k=>laws_heldIntS.l0.eq_2 ..) ?_
  refine Ev.pos (by rw [mk1_len];omega) (Ev.pos (by omega) (Ev.pos (by rw [rd_lt _ (by rw [mk1_len];exact hi),mk1_at hi]) ?_))
  rw [wrap_succ' i (by omega),show wrap64 (a+i+1)=a+((i+1:Nat):Int) by rw [wrap_of _ (by omega) (by omega)];omega]
  exact ih
theorem mk2_at (u:List (List Int)) (a:Int) {i:Nat} (h:i<u.length):rd_L1 (mk2 u a) (i:Int)=mk1 u[i].length (a+tot (u.take i)):=by
 have e:=cur_set u a h
 have hl:i<(cur u a i).length:=by rw [cur_len u a (Nat.le_of_lt h)];exact h
 have h2:(mk2 u a)[i]?=some (mk1 u[i].length (a+tot (u.take i))):=by
  rw [← cur_full u a,cur,List.take_length,List.drop_length,List.append_nil]
  conv=>lhs;rw [← List.take_append_drop (i+1) u]
  rw [mk2_append,List.getElem?_append_left (by rw [mk2_len,List.length_take];omega),take_one u h,mk2_append,List.getElem?_append_right (by rw [mk2_len,List.length_take];omega),mk2_len,List.length_take,show i-min i u.length=0 by omega]
  rfl
 rw [row_nat,List.getD_eq_getElem?_getD,h2,Option.getD_some]
theorem heldIntSS_ev (u:List (List Int)) (a:Int) (h0:0≤a) (h1:a+tot u≤9223372036854775807) (hl:u.length≤9223372036854775806):Ev (fun k=>laws_heldIntSS.f k (mk2 u a) a) (a+tot u):=by
 unfold laws_heldIntSS.f
 have key:=down u.length (fun i=>Ev (fun k=>laws_heldIntSS.l0 k (mk2 u a) (a+tot (u.take i)) i) (a+tot u)) ?_ ?_ 0 (Nat.zero_le _)
 ·simpa [tot] using key
 ·refine Ev.step (fun k=>laws_heldIntSS.l0.eq_2 ..) ?_
  rw [List.take_length]
  exact Ev.neg (by rw [mk2_len];omega) (Ev.ret rfl)
 ·intro i hi ih
  have e1:=tot_take u hi
  have e2:=tot_take_le u (i+1)
  refine Ev.step (fun k=>laws_heldIntSS.l0.eq_2 ..) ?_
  refine Ev.pos (by rw [mk2_len];omega) (Ev.pos (by omega) ?_)
  rw [mk2_at u a hi]
  refine Ev.bind (heldIntS_ev _ _ (by omega) (by omega)) (Ev.neg (by omega) ?_)
  rw [wrap_succ' i (by omega),show a+(tot (u.take i):Int)+(u[i].length:Nat)=a+(tot (u.take (i+1)):Nat) by omega]
  exact ih
theorem heldLogic_ev (u:List (List Int)) (m:Nat) (a:Int) (h0:0≤a) (h1:a+tot u+m≤9223372036854775807) (hl:u.length≤9223372036854775806):Ev (fun k=>laws_heldLogic.f k (mk2 u a) (mk1 m (a+tot u)) a) (a+tot u+m):=by
 unfold laws_heldLogic.f
 exact Ev.bind (heldIntSS_ev u a h0 (by omega) hl) (Ev.neg (by omega) (Ev.bind (heldIntS_ev m _ (by omega) (by omega)) (Ev.neg (by omega) (Ev.ret rfl))))
theorem tot_le2 (u:List (List Int)) (hl:u.length≤1048576) (hz : ∀ i (k:i<u.length),u[i].length≤1048576):tot u≤1099511627776:=by
 have h1:=tot_le 1048576 u (fun x hx=>by
  obtain ⟨i,hi,rfl⟩:=List.getElem_of_mem hx
  exact hz i hi)
 have h2:u.length*1048576≤1048576*1048576:=Nat.mul_le_mul_right _ hl
 omega
theorem szL_ev (u:List (List Int)) (nt:List Int) (a:Int) (h0:0≤a) (h1:a≤1048576) (h:(u.length≤9223372036854775807∧∀ i (k:i<u.length),u[i].length≤9223372036854775807)∧nt.length≤9223372036854775807) :
    ∃ x,Ev (fun k=>laws_szLogic.f k u nt a) x∧x≤1048576∧(0≤x→u.length≤1048576∧(∀ i (k:i<u.length),u[i].length≤1048576)∧nt.length≤1048576):=by
  obtain ⟨x,hx,hle,h2⟩:=szIntSS_ev u a h0 h1 h.1.1 h.1.2
  unfold laws_szLogic.f
  by_cases e:x<0
  · exact ⟨-1,Ev.bind hx (Ev.pos e (Ev.ret rfl)),by omega,fun q=>by omega⟩
  · by_cases e2:x-nt.length<0
    · refine ⟨-1,Ev.bind hx (Ev.neg e (Ev.bindc (szIntS_eq nt x (by omega) (by omega) h.2) ?_)),by omega,fun q=>by omega⟩
      rw [if_pos e2]
      exact Ev.pos (by omega) (Ev.ret rfl)
    · refine ⟨x-nt.length,Ev.bind hx (Ev.neg e (Ev.bindc (szIntS_eq nt x (by omega) (by omega) h.2) ?_)),by omega,fun q=>⟨(h2 (by omega)).1,(h2 (by omega)).2,by omega⟩⟩
      rw [if_neg e2]
      exact Ev.neg e2 (Ev.ret rfl)
def Few (r1:List (List Int)) (r2:List Int):Prop:=r1.length≤1048576∧(∀ i (k:i<r1.length),r1[i].length≤1048576)∧r2.length≤1048576
theorem few_nil:Few [] []:=⟨Nat.zero_le _,fun i k=>absurd k (Nat.not_lt_zero _),Nat.zero_le _⟩
theorem few_made (n:Nat) (h:n≤1048576) (U:Nat→Nat→Bool) (N:Nat→Int):Few (madeU n U) (madeN n N):=by
 refine ⟨by simp [madeU];exact h,fun i k=>?_,by simp [madeN];exact h⟩
 simp [madeU]
 exact h
end Go.Proofs.Ytlkibgccgkhdmaa.Q

namespace Go.Proofs.Ytlkibgccgkhdmaa.Q
open Go.RowKit Go.ChangeShapes Go.WideShapes Go.Deep Go.Proofs.YtlkibgccgkhdmaaW.PrintWords
set_option linter.unusedVariables false

def IsRows (W:World) (a:Option Addr) (len cap:Nat):Prop :=
 (a = none∧len=0∧cap=0)∨∃ (x:Addr) (A:Nat→Option Addr) (L C:Nat→Nat) (Z:Nat→List Int),a=some x∧len≤cap∧cap≤maxLen ∧
  ∀ r,r<cap→W.cell? (x.add r)=some (.slice (A r) (L r) (C r))∧L r≤C r∧C r≤maxLen∧(Z r).length=C r∧(A r=none→C r=0) ∧
   ∀ a',A r=some a'→∀ c,c<C r→W.cell? (a'.add c)=some (.int .i64 ((Z r).getD c 0))
theorem IsRows.reads {W:World} {a:Option Addr} {len cap:Nat} (h:IsRows W a len cap) (e:Nat) :
    ∃ u:List (List Int),u.length=len∧len≤cap∧Kd.C (Kd.slice e (Kd.int .i64)) W a u.length u∧∀ i (k:i<u.length),u[i].length≤maxLen:=by
  rcases h with ⟨rfl,rfl,rfl⟩|⟨x,A,L,C,Z,rfl,hl,hm,hr⟩
  · exact ⟨[],rfl,Nat.le_refl _,⟨rfl,by simp,fun h=>absurd h (Nat.lt_irrefl 0)⟩,fun i k=>absurd k (by simp)⟩
  · refine ⟨(List.range len).map fun r=>(Z r).take (L r),by simp,hl,⟨rfl,?_,fun _=>⟨x,rfl,fun j p hj=>?_⟩⟩,fun i k=>?_⟩
    · simp only [List.length_map,List.length_range]
      exact Nat.le_trans hl (by unfold maxLen at hm;omega)
    · rw [List.getElem?_map] at hj
      have hjl:j<len:=by
        rcases Nat.lt_or_ge j len with z|z
        · exact z
        · rw [List.getElem?_eq_none (by simpa using z)] at hj
          simp at hj
      rw [List.getElem?_range hjl] at hj
      have hp:(Z j).take (L j)=p:=by simpa using hj
      obtain ⟨hc,h1,h2,h3,h4,h5⟩:=hr j (by omega)
      have hlen:p.length=L j:=by rw [← hp,List.length_take];omega
      refine ⟨[.slice (A j) (L j) (C j)],rfl,⟨A j,C j,by rw [hlen],by rw [hlen];exact h1,?_⟩,fun i w hw=>?_⟩
      · rw [hlen]
        have hn:L j≤9223372036854775807:=by unfold maxLen at h2;omega
        refine Kd.C_of_reads (d:=(0:Int)) (h1:=fun _=>rfl) ⟨hlen,hn,fun h0=>?_⟩
        cases ha:A j with
        | none=>have:=h4 ha;omega
        | some a' =>
          refine ⟨a',rfl,fun c hcl=>?_⟩
          have:=h5 a' ha c (by omega)
          rw [this,← hp,List.getD_eq_getElem?_getD,List.getD_eq_getElem?_getD,List.getElem?_take_of_lt hcl]
      · cases i with
        | zero =>
          have:w = .slice (A j) (L j) (C j):=by simpa using hw.symm
          rw [this]
          simpa [Kd.slice] using hc
        | succ i=>simp at hw
    · simp only [List.length_map,List.length_range] at k
      rw [List.getElem_map,List.getElem_range,List.length_take]
      obtain ⟨_,h1,h2,h3,_⟩:=hr i (by omega)
      omega
theorem rows_of {H:Type} {enc:TypeId × Value→H} {P:Program} {W:World} {base:Nat} {t e q:TypeId} {fuel:Nat} {a:Option Addr} {len cap:Nat} {x:DataW H × List MemPlace}
    (ht:P.underlying t=some (.slice e)) (he:P.underlying e=some (.slice q)) (hq:P.underlying q=some (.int .i64)) (ce:P.cellsOf e=1) (cq:P.cellsOf q=1)
    (h:DataW.trod enc P W base (fun _=>true) true fuel t [.slice a len cap]=some x):IsRows W a len cap:=by
  rcases open_int_rows ht he hq ce cq h with ⟨hcs,_⟩|⟨x,l,c,A,L,C,Z,hcs,_,hl,hm,_,hr⟩
  · simp only [List.cons.injEq,Value.slice.injEq,and_true] at hcs
    exact .inl ⟨hcs.1,hcs.2.1,hcs.2.2⟩
  · simp only [List.cons.injEq,Value.slice.injEq,and_true] at hcs
    obtain ⟨rfl,rfl,rfl⟩:=hcs
    refine .inr ⟨x,A,L,C,Z,rfl,hl,hm,fun r k=>?_⟩
    obtain ⟨h1,h2,h3,h4,_,h6,h7⟩:=hr r k
    exact ⟨h1,h2,h3,h4,h6,fun a' ha c hc=>(h7 a' ha).2 c hc⟩
theorem ints_of {H:Type} {enc:TypeId × Value→H} {P:Program} {W:World} {base:Nat} {t e:TypeId} {fuel:Nat} {v:Value} {x:DataW H × List MemPlace}
    (ht:P.underlying t=some (.slice e)) (he:P.underlying e=some (.int .i64)) (ce:P.cellsOf e=1)
    (h:DataW.trod enc P W base (fun _=>true) true fuel t [v]=some x) : ∃ (b:Option Addr) (cp:Nat) (n:List Int),v = .slice b n.length cp∧n.length≤cp∧Kd.C (Kd.int .i64) W b n.length n∧n.length≤maxLen:=by
  rcases open_ints ht he ce h with ⟨hcs,_⟩|⟨a,l,c,zs,hcs,_,hl,hm,hz,_,hcell,_⟩
  · exact ⟨none,0,[],by simpa using hcs,Nat.le_refl _,Kd.C_nil _ _,Nat.zero_le _⟩
  · have hz':zs.length=c:=by simpa using hz
    have hlen:(zs.take l).length=l:=by rw [List.length_take];omega
    refine ⟨some a,c,zs.take l,by rw [hlen];simpa using hcs,by omega,?_,by omega⟩
    refine Kd.C_of_reads (d:=(0:Int)) ⟨rfl,by rw [hlen];have:=hm;unfold maxLen at this;omega,fun _=>⟨a,rfl,fun j hj=>?_⟩⟩
    rw [hlen] at hj
    rw [hcell j (by omega),List.getD_eq_getElem?_getD,List.getD_eq_getElem?_getD,List.getElem?_take_of_lt hj]
set_option linter.unusedVariables false
end Go.Proofs.Ytlkibgccgkhdmaa.Q

namespace Go.Proofs.Ytlkibgccgkhdmaa.Q
open Go.RowKit Go.Proofs.YtlkibgccgkhdmaaW.PrintWords Go.Proofs.YtlkibgccgkhdmaaW.PrintLast Go.Proofs.YtlkibgccgkhdmaaW.PrintMore Go.Proofs.Ytlkibgccgkhdmaa.P Go.Proofs.Cl
set_option linter.unusedVariables false
set_option linter.unusedVariables false
theorem few_glued (u:List (List Int)) (nt:List Int) (v:List (List Int)) (mtt:List Int):Few (gluedF u nt v mtt).1 (gluedF u nt v mtt).2.1:=by
 unfold gluedF
 split
 ·rename_i h
  have:=glue_n h.1 h.2.1 h.2.2.1 h.2.2.2.1
  have:=h.2.2.2.2
  exact few_made _ (by omega) _ _
 ·exact few_nil
end Go.Proofs.Ytlkibgccgkhdmaa.Q
