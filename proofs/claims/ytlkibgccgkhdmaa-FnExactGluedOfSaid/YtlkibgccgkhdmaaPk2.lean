/- 27 texts of this seat joined: walks, and the laws of what they compute. -/
import Derived.Below
import Derived.Deep.Draws
import Derived.Deep.AppendLies
import Derived.Maps.AppendAt
import Derived.OwnWalk
import Derived.Laws.BytesArg
import Derived.Laws.MakeOwn
import Derived.Laws.OwnMore
import Derived.Deep.OwnRows
import Derived.Tactics
import Derived.Lib.ConvBytes
import Derived.Laws.Slices
import Derived.WalkKit
import Derived.KernelRfl
import Derived.RowKit3
import Derived.Deep.LoopGhost
import Derived.Deep.QuietTactic
import Derived.BigQuiet
import Derived.WideLaws
import Derived.Deep.DeepCutAuto
import Derived.Deep.CutBlock
import Derived.Deep.RegionHeld3
import Derived.Laws.Rows
import Derived.Lib.AppendStr
import Derived.ArgAppend
import Derived.Laws.IdiomCopy
import Derived.OrdersHeld
import Derived.Laws.BitsLemmas
import Derived.RowKit
import Derived.Test.YtlkibgccgkhdmaaPk1
import Derived.Test.YtlkibgccgkhdmaaProg
namespace Go.Proofs.Cl
set_option linter.unusedVariables false

def allG (p:Nat→Bool):Nat→Nat→Bool
 | 0,_=>true
 | d+1,i=>p i&&allG p d (i+1)
def allF (n:Nat) (p:Nat→Bool) (i:Nat):Bool:=allG p (n-i) i
theorem allF_end {n:Nat} {p:Nat→Bool} {i:Nat} (h:n≤i):allF n p i=true:=by
 unfold allF
 rw [show n-i=0 by omega]
 rfl
theorem allF_step {n:Nat} {p:Nat→Bool} {i:Nat} (h:i<n):allF n p i=(p i&&allF n p (i+1)):=by
 unfold allF
 rw [show n-i=(n-(i+1))+1 by omega]
 rfl
theorem allG_iff (p:Nat→Bool) : ∀ d i,allG p d i=true ↔ ∀ c,i≤c→c<i+d→p c=true
  | 0,i=>by simp only [allG,true_iff];intro c h1 h2;omega
  | d + 1,i=>by
    simp only [allG,Bool.and_eq_true,allG_iff p d (i+1)]
    constructor
    · intro ⟨h1,h2⟩ c h3 h4
      by_cases e:c=i
      · rw [e];exact h1
      · exact h2 c (by omega) (by omega)
    · intro h
      exact ⟨h i (by omega) (by omega),fun c h3 h4=>h c (by omega) (by omega)⟩
theorem allF_iff {n:Nat} {p:Nat→Bool} {i:Nat}:allF n p i=true ↔ ∀ c,i≤c→c<n→p c=true:=by
 unfold allF
 rw [allG_iff]
 constructor
 ·intro h c h1 h2
  exact h c h1 (by omega)
 ·intro h c h1 h2
  exact h c h1 (by omega)
theorem allF0 {n:Nat} {p:Nat→Bool}:allF n p 0=true ↔ ∀ c,c<n→p c=true:=by
 rw [allF_iff]
 exact ⟨fun h c=>h c (Nat.zero_le _),fun h c _=>h c⟩
def firstG (p:Nat→Bool):Nat→Nat→Int
 | 0,_ => -1
 | d+1,i=>if p i=true then (i:Int) else firstG p d (i+1)
def firstF (n:Nat) (p:Nat→Bool) (i:Nat):Int:=firstG p (n-i) i
theorem firstF_end {n:Nat} {p:Nat→Bool} {i:Nat} (h:n≤i):firstF n p i = -1:=by
 unfold firstF
 rw [show n-i=0 by omega]
 rfl
theorem firstF_step {n:Nat} {p:Nat→Bool} {i:Nat} (h:i<n):firstF n p i=if p i=true then (i:Int) else firstF n p (i+1):=by
 unfold firstF
 rw [show n-i=(n-(i+1))+1 by omega]
 rfl
theorem down (n:Nat) (P:Nat→Prop) (hend:P n) (hstep : ∀ i,i<n→P (i+1)→P i) (i:Nat) (hi:i≤n):P i:=by
  obtain ⟨d,hd⟩ : ∃ d,n-i=d:=⟨_,rfl⟩
  induction d generalizing i with
  | zero => obtain rfl:i=n:=by omega
            exact hend
  | succ d ih=>exact hstep i (by omega) (ih (i+1) (by omega) (by omega))
theorem firstF_spec {n:Nat} {p:Nat→Bool} : ∀ i,i≤n→(firstF n p i = -1∧∀ c,i≤c→c<n→p c=false)∨(∃ c:Nat,firstF n p i=c∧i≤c∧c<n∧p c=true∧∀ c',i≤c'→c'<c→p c'=false):=by
 intro i hi
 refine down n (fun i=>(firstF n p i = -1∧∀ c,i≤c→c<n→p c=false)∨(∃ c:Nat,firstF n p i=c∧i≤c∧c<n∧p c=true∧∀ c',i≤c'→c'<c→p c'=false)) ?_ ?_ i hi
 ·exact .inl ⟨firstF_end (Nat.le_refl _),fun c h1 h2=>by omega⟩
 ·intro i hi ih
  rw [firstF_step hi]
  cases hp:p i with
  | true=>exact .inr ⟨i,by simp,Nat.le_refl _,hi,hp,fun c' h1 h2=>by omega⟩
  | false =>
   simp only [Bool.false_eq_true,if_false]
   rcases ih with ⟨h1,h2⟩|⟨c,h1,h2,h3,h4,h5⟩
   ·refine .inl ⟨h1,fun c h3 h4=>?_⟩
    by_cases e:c=i
    ·rw [e];exact hp
    ·exact h2 c (by omega) h4
   ·refine .inr ⟨c,h1,by omega,h3,h4,fun c' h6 h7=>?_⟩
    by_cases e:c'=i
    ·rw [e];exact hp
    ·exact h5 c' (by omega) h7

def rdN (u:List (List Int)) (a b:Nat):Int:=(u.getD a []).getD b 0
def Ord (u:List (List Int)):Prop :=
 1≤u.length∧u.length≤12∧(∀ a,a<u.length→(u.getD a []).length=u.length) ∧
 (∀ a,a<u.length→∀ b,b<u.length→rdN u a b=0∨rdN u a b=1) ∧
 (∀ a,a<u.length→rdN u a a=1) ∧
 (∀ a,a<u.length→∀ b,b<u.length→rdN u a b=1→rdN u b a=1→a=b) ∧
 (∀ a,a<u.length→∀ b,b<u.length→∀ c,c<u.length→rdN u a b=1→rdN u b c=1→rdN u a c=1)
instance (u:List (List Int)):Decidable (Ord u):=by
 have d1:Decidable (∀ a,a<u.length→(u.getD a []).length=u.length):=inferInstance
 have d2:Decidable (∀ a,a<u.length→∀ b,b<u.length→rdN u a b=0∨rdN u a b=1):=inferInstance
 have d3:Decidable (∀ a,a<u.length→rdN u a a=1):=inferInstance
 have d4:Decidable (∀ a,a<u.length→∀ b,b<u.length→rdN u a b=1→rdN u b a=1→a=b):=inferInstance
 have d5:Decidable (∀ a,a<u.length→∀ b,b<u.length→∀ c,c<u.length→rdN u a b=1→rdN u b c=1→rdN u a c=1):=inferInstance
 unfold Ord
 exact instDecidableAnd

namespace Ord
variable {u:List (List Int)} (h:Ord u)
theorem pos (h:Ord u):1≤u.length:=h.1
theorem le12 (h:Ord u):u.length≤12:=h.2.1
theorem row (h:Ord u) {a:Nat} (ha:a<u.length):(u.getD a []).length=u.length:=h.2.2.1 a ha
theorem bit (h:Ord u) {a b:Nat} (ha:a<u.length) (hb:b<u.length):rdN u a b=0∨rdN u a b=1:=h.2.2.2.1 a ha b hb
theorem refl (h:Ord u) {a:Nat} (ha:a<u.length):rdN u a a=1:=h.2.2.2.2.1 a ha
theorem anti (h:Ord u) {a b:Nat} (ha:a<u.length) (hb:b<u.length) (k:rdN u a b=1) (l:rdN u b a=1):a=b:=h.2.2.2.2.2.1 a ha b hb k l
theorem trans (h:Ord u) {a b c:Nat} (ha:a<u.length) (hb:b<u.length) (hc:c<u.length) (k:rdN u a b=1) (l:rdN u b c=1):rdN u a c=1:=h.2.2.2.2.2.2 a ha b hb c hc k l
theorem ne0 (h:Ord u) {a b:Nat} (ha:a<u.length) (hb:b<u.length):rdN u a b≠0↔rdN u a b=1:=by
 rcases h.bit ha hb with k|k <;> omega
theorem ne1 (h:Ord u) {a b:Nat} (ha:a<u.length) (hb:b<u.length):rdN u a b≠1↔rdN u a b=0:=by
 rcases h.bit ha hb with k|k <;> omega
end Ord

def IsMeet (u:List (List Int)) (a b c:Nat):Prop :=
 c<u.length∧rdN u c a=1∧rdN u c b=1∧∀ d,d<u.length→rdN u d a=1→rdN u d b=1→rdN u d c=1
def IsJoin (u:List (List Int)) (a b c:Nat):Prop :=
 c<u.length∧rdN u a c=1∧rdN u b c=1∧∀ d,d<u.length→rdN u a d=1→rdN u b d=1→rdN u c d=1
instance (u:List (List Int)) (a b c:Nat):Decidable (IsMeet u a b c):=by unfold IsMeet;infer_instance
instance (u:List (List Int)) (a b c:Nat):Decidable (IsJoin u a b c):=by unfold IsJoin;infer_instance
def meetI (u:List (List Int)) (a b:Nat):Int:=firstF u.length (fun c=>decide (IsMeet u a b c)) 0
def joinI (u:List (List Int)) (a b:Nat):Int:=firstF u.length (fun c=>decide (IsJoin u a b c)) 0
theorem IsMeet.uniq {u:List (List Int)} (h:Ord u) {a b c d:Nat} (hc:IsMeet u a b c) (hd:IsMeet u a b d):c=d :=
 h.anti hc.1 hd.1 (hd.2.2.2 c hc.1 hc.2.1 hc.2.2.1) (hc.2.2.2 d hd.1 hd.2.1 hd.2.2.1)
theorem IsJoin.uniq {u:List (List Int)} (h:Ord u) {a b c d:Nat} (hc:IsJoin u a b c) (hd:IsJoin u a b d):c=d :=
 h.anti hc.1 hd.1 (hc.2.2.2 d hd.1 hd.2.1 hd.2.2.1) (hd.2.2.2 c hc.1 hc.2.1 hc.2.2.1)
theorem meetI_of {u:List (List Int)} (h:Ord u) {a b c:Nat} (hc:IsMeet u a b c):meetI u a b=c:=by
 rcases firstF_spec (n:=u.length) (p:=fun c=>decide (IsMeet u a b c)) 0 (Nat.zero_le _) with ⟨_,k⟩|⟨d,e,_,hd,k,_⟩
 ·have:=k c (Nat.zero_le _) hc.1
  simp [hc] at this
 ·unfold meetI
  rw [e,(of_decide_eq_true k).uniq h hc]
theorem joinI_of {u:List (List Int)} (h:Ord u) {a b c:Nat} (hc:IsJoin u a b c):joinI u a b=c:=by
 rcases firstF_spec (n:=u.length) (p:=fun c=>decide (IsJoin u a b c)) 0 (Nat.zero_le _) with ⟨_,k⟩|⟨d,e,_,hd,k,_⟩
 ·have:=k c (Nat.zero_le _) hc.1
  simp [hc] at this
 ·unfold joinI
  rw [e,(of_decide_eq_true k).uniq h hc]
theorem meetI_cases (u:List (List Int)) (a b:Nat):(meetI u a b = -1∧∀ c,¬IsMeet u a b c)∨∃ c:Nat,meetI u a b=c∧IsMeet u a b c:=by
 rcases firstF_spec (n:=u.length) (p:=fun c=>decide (IsMeet u a b c)) 0 (Nat.zero_le _) with ⟨e,k⟩|⟨d,e,_,hd,k,_⟩
 ·exact .inl ⟨e,fun c hc=>by have:=k c (Nat.zero_le _) hc.1;simp [hc] at this⟩
 ·exact .inr ⟨d,e,of_decide_eq_true k⟩
theorem joinI_cases (u:List (List Int)) (a b:Nat):(joinI u a b = -1∧∀ c,¬IsJoin u a b c)∨∃ c:Nat,joinI u a b=c∧IsJoin u a b c:=by
 rcases firstF_spec (n:=u.length) (p:=fun c=>decide (IsJoin u a b c)) 0 (Nat.zero_le _) with ⟨e,k⟩|⟨d,e,_,hd,k,_⟩
 ·exact .inl ⟨e,fun c hc=>by have:=k c (Nat.zero_le _) hc.1;simp [hc] at this⟩
 ·exact .inr ⟨d,e,of_decide_eq_true k⟩
theorem IsMeet.comm {u:List (List Int)} {a b c:Nat} (h:IsMeet u a b c):IsMeet u b a c:=⟨h.1,h.2.2.1,h.2.1,fun d hd k l=>h.2.2.2 d hd l k⟩
theorem IsJoin.comm {u:List (List Int)} {a b c:Nat} (h:IsJoin u a b c):IsJoin u b a c:=⟨h.1,h.2.2.1,h.2.1,fun d hd k l=>h.2.2.2 d hd l k⟩
theorem meetI_comm {u:List (List Int)} (h:Ord u) (a b:Nat):meetI u a b=meetI u b a:=by
 rcases meetI_cases u b a with ⟨e,k⟩|⟨c,e,k⟩
 ·rcases meetI_cases u a b with ⟨e',_⟩|⟨c,e',k'⟩
  ·rw [e,e']
  ·exact absurd k'.comm (k c)
 ·rw [e,meetI_of h k.comm]
theorem joinI_comm {u:List (List Int)} (h:Ord u) (a b:Nat):joinI u a b=joinI u b a:=by
 rcases joinI_cases u b a with ⟨e,k⟩|⟨c,e,k⟩
 ·rcases joinI_cases u a b with ⟨e',_⟩|⟨c,e',k'⟩
  ·rw [e,e']
  ·exact absurd k'.comm (k c)
 ·rw [e,joinI_of h k.comm]
theorem isMeet_self {u:List (List Int)} (h:Ord u) {a b:Nat} (ha:a<u.length) (hb:b<u.length) (k:rdN u a b=1):IsMeet u a b a:=⟨ha,h.refl ha,k,fun _ _ l _=>l⟩
theorem isJoin_self {u:List (List Int)} (h:Ord u) {a b:Nat} (ha:a<u.length) (hb:b<u.length) (k:rdN u a b=1):IsJoin u a b b:=⟨hb,k,h.refl hb,fun _ _ _ l=>l⟩

def turn (u:List (List Int)):List (List Int):=(List.range u.length).map fun a=>(List.range u.length).map fun b=>rdN u b a
theorem turn_len (u:List (List Int)):(turn u).length=u.length:=by simp [turn]
theorem getD_map_range {α:Type} (f:Nat→α) (z:α) {n a:Nat} (h:a<n):((List.range n).map f).getD a z=f a:=by
 simp [List.getD_eq_getElem?_getD,h]
theorem turn_row (u:List (List Int)) {a:Nat} (ha:a<u.length):(turn u).getD a []=(List.range u.length).map fun b=>rdN u b a:=by
 unfold turn
 rw [getD_map_range _ _ ha]
theorem turn_at (u:List (List Int)) {a b:Nat} (ha:a<u.length) (hb:b<u.length):rdN (turn u) a b=rdN u b a:=by
 unfold rdN
 rw [turn_row u ha,getD_map_range _ _ hb]
 rfl
theorem turn_ord {u:List (List Int)} (h:Ord u):Ord (turn u):=by
 refine ⟨by rw [turn_len];exact h.1,by rw [turn_len];exact h.2.1,?_,?_,?_,?_,?_⟩
 ·intro a ha
  rw [turn_len] at *
  rw [turn_row u ha]
  simp
 ·intro a ha b hb
  rw [turn_len] at *
  rw [turn_at u ha hb]
  exact h.bit hb ha
 ·intro a ha
  rw [turn_len] at *
  rw [turn_at u ha ha]
  exact h.refl ha
 ·intro a ha b hb
  rw [turn_len] at *
  rw [turn_at u ha hb,turn_at u hb ha]
  exact fun k l=>h.anti ha hb l k
 ·intro a ha b hb c hc
  rw [turn_len] at *
  rw [turn_at u ha hb,turn_at u hb hc,turn_at u ha hc]
  exact fun k l=>h.trans hc hb ha l k
theorem isMeet_turn {u:List (List Int)} {a b c:Nat} (ha:a<u.length) (hb:b<u.length):IsMeet (turn u) a b c↔IsJoin u a b c:=by
 unfold IsMeet IsJoin
 rw [turn_len]
 constructor
 ·intro ⟨h1,h2,h3,h4⟩
  rw [turn_at u h1 ha] at h2
  rw [turn_at u h1 hb] at h3
  refine ⟨h1,h2,h3,fun d hd k l=>?_⟩
  have:=h4 d hd (by rw [turn_at u hd ha];exact k) (by rw [turn_at u hd hb];exact l)
  rwa [turn_at u hd h1] at this
 ·intro ⟨h1,h2,h3,h4⟩
  refine ⟨h1,by rw [turn_at u h1 ha];exact h2,by rw [turn_at u h1 hb];exact h3,fun d hd k l=>?_⟩
  rw [turn_at u hd ha] at k
  rw [turn_at u hd hb] at l
  rw [turn_at u hd h1]
  exact h4 d hd k l
theorem firstF_congr {n:Nat} {p q:Nat→Bool} (h : ∀ c,c<n→p c=q c) (i:Nat) (hi:i≤n):firstF n p i=firstF n q i:=by
 refine down n (fun i=>firstF n p i=firstF n q i) ?_ ?_ i hi
 ·rw [firstF_end (Nat.le_refl _),firstF_end (Nat.le_refl _)]
 ·intro i hi ih
  rw [firstF_step hi,firstF_step hi,h i hi,ih]
theorem meetI_turn {u:List (List Int)} {a b:Nat} (ha:a<u.length) (hb:b<u.length):meetI (turn u) a b=joinI u a b:=by
 unfold meetI joinI
 rw [turn_len]
 exact firstF_congr (fun c _=>by rw [decide_eq_decide];exact isMeet_turn ha hb) 0 (Nat.zero_le _)

def Lat (u:List (List Int)):Prop:=Ord u∧∀ a,a<u.length→∀ b,b<u.length→0≤meetI u a b∧0≤joinI u a b
instance (u:List (List Int)):Decidable (Lat u):=by unfold Lat;infer_instance
def IsLeast (u:List (List Int)) (a:Nat):Prop:=∀ b,b<u.length→rdN u a b=1
instance (u:List (List Int)) (a:Nat):Decidable (IsLeast u a):=by unfold IsLeast;infer_instance
def leastI (u:List (List Int)):Int:=firstF u.length (fun a=>decide (IsLeast u a)) 0
theorem leastI_cases (u:List (List Int)):(leastI u = -1∧∀ a,a<u.length→¬IsLeast u a)∨∃ a:Nat,leastI u=a∧a<u.length∧IsLeast u a:=by
 rcases firstF_spec (n:=u.length) (p:=fun a=>decide (IsLeast u a)) 0 (Nat.zero_le _) with ⟨e,k⟩|⟨d,e,_,hd,k,_⟩
 ·exact .inl ⟨e,fun c hc hl=>by have:=k c (Nat.zero_le _) hc;simp [hl] at this⟩
 ·exact .inr ⟨d,e,hd,of_decide_eq_true k⟩
theorem leastI_of {u:List (List Int)} (h:Ord u) {a:Nat} (ha:a<u.length) (hl:IsLeast u a):leastI u=a:=by
 rcases leastI_cases u with ⟨_,k⟩|⟨d,e,hd,k⟩
 ·exact absurd hl (k a ha)
 ·rw [e,h.anti hd ha (k a ha) (hl d hd)]
namespace Lat
variable {u:List (List Int)}
theorem meet (h:Lat u) {a b:Nat} (ha:a<u.length) (hb:b<u.length) : ∃ c:Nat,meetI u a b=c∧IsMeet u a b c:=by
 rcases meetI_cases u a b with ⟨e,_⟩|k
 ·have:=(h.2 a ha b hb).1
  omega
 ·exact k
theorem join (h:Lat u) {a b:Nat} (ha:a<u.length) (hb:b<u.length) : ∃ c:Nat,joinI u a b=c∧IsJoin u a b c:=by
 rcases joinI_cases u a b with ⟨e,_⟩|k
 ·have:=(h.2 a ha b hb).2
  omega
 ·exact k
theorem low (h:Lat u) : ∀ m,m≤u.length→∃ a,a<u.length∧∀ b,b<m→rdN u a b=1
  | 0,_=>⟨0,h.1.pos,fun b hb=>by omega⟩
  | m+1,hm=>by
    obtain ⟨a,ha,k⟩:=low h m (by omega)
    obtain ⟨c,_,hc⟩:=h.meet ha (show m<u.length by omega)
    refine ⟨c,hc.1,fun b hb=>?_⟩
    by_cases e:b=m
    · rw [e];exact hc.2.2.1
    · exact h.1.trans hc.1 ha (by omega) hc.2.1 (k b (by omega))
theorem least (h:Lat u) : ∃ a:Nat,leastI u=a∧a<u.length∧IsLeast u a:=by
 obtain ⟨a,ha,k⟩:=h.low u.length (Nat.le_refl _)
 exact ⟨a,leastI_of h.1 ha k,ha,k⟩
end Lat
def leastOfP (u:List (List Int)):Int × Bool:=if Ord u then (leastI u,decide (0≤leastI u)) else (-1,false)
end Go.Proofs.Cl

namespace Go.Proofs.Ytlkibgccgkhdmaa.P
open Go.RowKit Go.Proofs.YtlkibgccgkhdmaaW.PrintWords Go.Proofs.YtlkibgccgkhdmaaW.PrintLast Go.Proofs.YtlkibgccgkhdmaaW.PrintMore
set_option linter.unusedVariables false
set_option linter.unusedSimpArgs false
def errW:Option Int→Value
 | none=>.nilIface
 | some c=>.iface 0 (.int .i64 c)
theorem errW_none:errW none = .nilIface:=rfl
theorem errW_some (c:Int):errW (some c) = .iface 0 (.int .i64 c):=rfl

def rd_L1 (xs:List (List Int)) (i:Int):(List Int):=xs.getD i.toNat ([]:List Int)
theorem at_L1 {w:World} {A:Option Addr} {n:Nat} {xs:List (List Int)} (h:Kd.C (Kd.slice 3 (Kd.int .i64)) w A n xs) (i:Int) (h0:0≤i) (h1:i<n) : ∃ ad A0 c0,A=some ad∧w.cell? (ad.add i.toNat)=some (.slice A0 (rd_L1 xs i).length c0)∧(rd_L1 xs i).length≤c0∧(Kd.int .i64).C w A0 (rd_L1 xs i).length (rd_L1 xs i):=by
 obtain ⟨ad,c,e,_,hK,hc0⟩:=Kd.C_get h ([]:List Int) i h0 h1
 have hc : ∀ j u,c[j]?=some u→w.cell? (ad.add (i.toNat*1+j))=some u:=hc0
 obtain ⟨A0,c0,rfl,l0,g0⟩:=hK
 exact ⟨ad,A0,c0,e,by have hq:=hc 0 _ rfl;rwa [Nat.mul_one,Nat.add_zero] at hq,l0,g0⟩

def rd_L2 (xs:List (List (List Int))) (i:Int):(List (List Int)):=xs.getD i.toNat ([]:List (List Int))
theorem at_L2 {w:World} {A:Option Addr} {n:Nat} {xs:List (List (List Int))} (h:Kd.C (Kd.slice 23 (Kd.slice 3 (Kd.int .i64))) w A n xs) (i:Int) (h0:0≤i) (h1:i<n) : ∃ ad A0 c0,A=some ad∧w.cell? (ad.add i.toNat)=some (.slice A0 (rd_L2 xs i).length c0)∧(rd_L2 xs i).length≤c0∧(Kd.slice 3 (Kd.int .i64)).C w A0 (rd_L2 xs i).length (rd_L2 xs i):=by
 obtain ⟨ad,c,e,_,hK,hc0⟩:=Kd.C_get h ([]:List (List Int)) i h0 h1
 have hc : ∀ j u,c[j]?=some u→w.cell? (ad.add (i.toNat*1+j))=some u:=hc0
 obtain ⟨A0,c0,rfl,l0,g0⟩:=hK
 exact ⟨ad,A0,c0,e,by have hq:=hc 0 _ rfl;rwa [Nat.mul_one,Nat.add_zero] at hq,l0,g0⟩

structure S29 where
 f0:(List (List Int))
 f1:(List Int)
def z29:S29:=⟨([]:List (List Int)),([]:List Int)⟩
def k29:Kd S29:=Kd.iso (Kd.pair (Kd.slice 23 (Kd.slice 3 (Kd.int .i64))) (Kd.slice 3 (Kd.int .i64))) (fun x:S29=>(x.f0,x.f1))
theorem k29_open {w:World} {x:S29} {cs:List Value} (h:k29.K w x cs) : ∃ A0 c0 A1 c1,cs = [.slice A0 x.f0.length c0,.slice A1 x.f1.length c1]∧x.f0.length≤c0∧(Kd.slice 3 (Kd.int .i64)).C w A0 x.f0.length x.f0∧x.f1.length≤c1∧(Kd.int .i64).C w A1 x.f1.length x.f1:=by
 obtain ⟨_,_,rfl,⟨A0,c0,rfl,l0,g0⟩,⟨A1,c1,rfl,l1,g1⟩⟩:=h
 exact ⟨A0,c0,A1,c1,rfl,l0,g0,l1,g1⟩
theorem k29_openM {w:World} {base:Nat} {ok:Nat→Prop} {x:S29} {cs:List Value} (h:k29.M w base ok x cs) : ∃ v0 v1,cs = [v0,v1]∧(Kd.slice 3 (Kd.int .i64)).R 23 w base ok v0 x.f0∧(Kd.int .i64).R 3 w base ok v1 x.f1:=by
 obtain ⟨_,_,rfl,⟨v0,rfl,g0⟩,⟨v1,rfl,g1⟩⟩:=h
 exact ⟨v0,v1,rfl,g0,g1⟩
theorem k29_mk (w:World) (x:S29) {A0:Option Addr} {c0:Nat} (l0:x.f0.length≤c0) (g0:(Kd.slice 3 (Kd.int .i64)).C w A0 x.f0.length x.f0) {A1:Option Addr} {c1:Nat} (l1:x.f1.length≤c1) (g1:(Kd.int .i64).C w A1 x.f1.length x.f1):k29.K w x [.slice A0 x.f0.length c0,.slice A1 x.f1.length c1]:=⟨[.slice A0 x.f0.length c0],[.slice A1 x.f1.length c1],rfl,⟨A0,c0,rfl,l0,g0⟩,⟨A1,c1,rfl,l1,g1⟩⟩
theorem k29_mkM (w:World) (base:Nat) (ok:Nat→Prop) (x:S29) {v0:Value} (g0:(Kd.slice 3 (Kd.int .i64)).R 23 w base ok v0 x.f0) {v1:Value} (g1:(Kd.int .i64).R 3 w base ok v1 x.f1):k29.M w base ok x [v0,v1]:=⟨[v0],[v1],rfl,⟨v0,rfl,g0⟩,⟨v1,rfl,g1⟩⟩
theorem k29_openF {W:World} {ok:Nat→Prop} {x:S29} {cs:List Value} (h:Kd.FK k29 W ok x cs) : ∃ A0 c0 A1 c1,cs = [.slice A0 x.f0.length c0,.slice A1 x.f1.length c1]∧x.f0.length≤c0∧Kd.F (Kd.slice 3 (Kd.int .i64)) W ok A0 x.f0.length x.f0∧x.f1.length≤c1∧Kd.F (Kd.int .i64) W ok A1 x.f1.length x.f1:=by
 obtain ⟨A0,c0,A1,c1,rfl,l0,_,l1,_⟩:=k29_open (Kd.FK_now h)
 exact ⟨A0,c0,A1,c1,rfl,l0,(fun W' hW=>by obtain ⟨A0_,c0_,A1_,c1_,he,l0_,g0_,l1_,g1_⟩:=k29_open (h W' hW);injection (Option.some.inj (show some (Value.slice A0 x.f0.length c0)=some (Value.slice A0_ x.f0.length c0_) from congrArg (fun l=>l[0]?) he)) with ha_ _ _;rw [ha_];exact g0_),l1,(fun W' hW=>by obtain ⟨A0_,c0_,A1_,c1_,he,l0_,g0_,l1_,g1_⟩:=k29_open (h W' hW);injection (Option.some.inj (show some (Value.slice A1 x.f1.length c1)=some (Value.slice A1_ x.f1.length c1_) from congrArg (fun l=>l[1]?) he)) with ha_ _ _;rw [ha_];exact g1_)⟩
theorem k29_mkF (W:World) (ok:Nat→Prop) (x:S29) {A0:Option Addr} {c0:Nat} (l0:x.f0.length≤c0) (g0:Kd.F (Kd.slice 3 (Kd.int .i64)) W ok A0 x.f0.length x.f0) {A1:Option Addr} {c1:Nat} (l1:x.f1.length≤c1) (g1:Kd.F (Kd.int .i64) W ok A1 x.f1.length x.f1):Kd.FK k29 W ok x [.slice A0 x.f0.length c0,.slice A1 x.f1.length c1]:=fun W2 hW=>k29_mk W2 x l0 (g0 W2 hW) l1 (g1 W2 hW)
def rd_T29 (xs:List S29) (i:Int):S29:=xs.getD i.toNat z29
theorem at_T29 {w:World} {A:Option Addr} {n:Nat} {xs:List S29} (h:Kd.C k29 w A n xs) (i:Int) (h0:0≤i) (h1:i<n) : ∃ ad A0 c0 A1 c1,A=some ad∧w.cell? (ad.add (i.toNat*2))=some (.slice A0 (rd_T29 xs i).f0.length c0)∧w.cell? ⟨(ad.add (i.toNat*2)).block,(ad.add (i.toNat*2)).off+1,none⟩=some (.slice A1 (rd_T29 xs i).f1.length c1)∧(rd_T29 xs i).f0.length≤c0∧(Kd.slice 3 (Kd.int .i64)).C w A0 (rd_T29 xs i).f0.length (rd_T29 xs i).f0∧(rd_T29 xs i).f1.length≤c1∧(Kd.int .i64).C w A1 (rd_T29 xs i).f1.length (rd_T29 xs i).f1:=by
 obtain ⟨ad,c,e,_,hK,hc0⟩:=Kd.C_get h z29 i h0 h1
 have hc : ∀ j u,c[j]?=some u→w.cell? (ad.add (i.toNat*2+j))=some u:=hc0
 obtain ⟨A0,c0,A1,c1,rfl,l0,g0,l1,g1⟩:=k29_open hK
 exact ⟨ad,A0,c0,A1,c1,e,hc 0 _ rfl,by rw [← add_field _ _ 1 (by omega)];exact hc 1 _ rfl,l0,g0,l1,g1⟩
end Go.Proofs.Ytlkibgccgkhdmaa.P

namespace Go.Proofs.Ytlkibgccgkhdmaa.P
open Go.RowKit Go.Proofs.YtlkibgccgkhdmaaW.PrintWords Go.Proofs.YtlkibgccgkhdmaaW.PrintLast Go.Proofs.YtlkibgccgkhdmaaW.PrintMore Go.Proofs.Cl
set_option linter.unusedVariables false
def mrow (u:List (List Int)) (a:Nat):List Int:=(List.range u.length).map fun b=>meetI u a b
def jrow (u:List (List Int)) (a:Nat):List Int:=(List.range u.length).map fun b=>joinI u a b
def mtab (u:List (List Int)):List (List Int):=(List.range u.length).map (mrow u)
def jtab (u:List (List Int)):List (List Int):=(List.range u.length).map (jrow u)
def OppAt (u:List (List Int)) (nt:List Int) (c:Nat):Prop:=(0≤rd nt c∧rd nt c<u.length)∧rd nt (rd nt c)=c∧meetI u c (rd nt c).toNat=leastI u
def OppTo (u:List (List Int)) (nt:List Int) (c d:Nat):Prop:=rdN u c d=1→rdN u (rd nt d).toNat (rd nt c).toNat=1
def OL (u:List (List Int)) (nt:List Int):Prop:=Lat u∧nt.length=u.length∧(∀ c,c<u.length→OppAt u nt c)∧(∀ c,c<u.length→∀ d,d<u.length→OppTo u nt c d)
instance (u:List (List Int)) (nt:List Int) (c:Nat):Decidable (OppAt u nt c):=by unfold OppAt;infer_instance
instance (u:List (List Int)) (nt:List Int) (c d:Nat):Decidable (OppTo u nt c d):=by unfold OppTo;infer_instance
instance (u:List (List Int)) (nt:List Int):Decidable (OL u nt):=by unfold OL;infer_instance
def okAll (n:Nat) (xs:List Int):Bool:=xs.all fun a=>decide (0≤a∧a<n)
abbrev mt (u:List (List Int)) (a b:Int):Int:=meetI u a.toNat b.toNat
abbrev jn (u:List (List Int)) (a b:Int):Int:=joinI u a.toNat b.toNat
def logicF (u:List (List Int)) (nt:List Int):Bool:=decide (OL u nt)
def noF (u:List (List Int)) (nt:List Int):Int:=if OL u nt then leastI u else -1
def yesF (u:List (List Int)) (nt:List Int):Int:=if OL u nt then rd nt (leastI u) else -1
def notF (u:List (List Int)) (nt:List Int) (a:Int):Int:=if OL u nt∧okAll u.length [a]=true then rd nt a else -1
def withB (u:List (List Int)) (nt:List Int) (a b:Int):Prop:=jn u (mt u a b) (mt u a (rd nt b))=a
instance (u:List (List Int)) (nt:List Int) (a b:Int):Decidable (withB u nt a b):=by unfold withB;infer_instance
def Cls (u:List (List Int)) (nt:List Int) (S:Nat):Prop :=
 ∀ a,a<u.length→S.testBit a=true→S.testBit (rd nt a).toNat=true∧∀ b,b<u.length→S.testBit b=true→S.testBit (mt u a b).toNat=true∧S.testBit (jn u a b).toNat=true
instance (u:List (List Int)) (nt:List Int) (S:Nat):Decidable (Cls u nt S):=by unfold Cls;infer_instance
def SubS (n S T:Nat):Prop:=∀ a,a<n→S.testBit a=true→T.testBit a=true
instance (n S T:Nat):Decidable (SubS n S T):=by unfold SubS;infer_instance
def isSetB (n:Nat) (s:Int):Bool:=decide (0<s∧s<2 ^ n)
def AgreeS (u:List (List Int)) (nt:List Int) (S:Nat):Prop:=∀ a,a<u.length→S.testBit a=true→∀ b,b<u.length→S.testBit b=true→withB u nt a b∧withB u nt b a
instance (u:List (List Int)) (nt:List Int) (a b:Int):Decidable (withB u nt a b):=by unfold withB;infer_instance
instance (u:List (List Int)) (nt:List Int) (S:Nat):Decidable (AgreeS u nt S):=by unfold AgreeS;infer_instance
def splitB (u:List (List Int)) (a b c:Int):Prop:=mt u a (jn u b c)=jn u (mt u a b) (mt u a c)
instance (u:List (List Int)) (a b c:Int):Decidable (splitB u a b c):=by unfold splitB;infer_instance
def castL (l:List Nat):List Int:=l.map fun (a:Nat)=>(a:Int)
def madeU (n:Nat) (U:Nat→Nat→Bool):List (List Int):=(List.range n).map fun a=>(List.range n).map fun b=>if U a b=true then 1 else 0
def madeN (n:Nat) (N:Nat→Int):List Int:=(List.range n).map N
def placeN (l:List Int) (x:Int):Nat:=l.idxOf x
def renB (n:Nat) (o:List Int):Prop:=o.length=n∧okAll n o=true∧o.Nodup
instance (n:Nat) (o:List Int):Decidable (renB n o):=by unfold renB;infer_instance
def onU (u:List (List Int)) (o:List Int):List (List Int):=madeU o.length (fun i k=>decide (rdN u (o.getD i 0).toNat (o.getD k 0).toNat=1))
def onN (nt:List Int) (o:List Int):List Int:=madeN o.length (fun i=>(placeN o (rd nt (o.getD i 0)):Int))
def renF (u:List (List Int)) (nt:List Int) (o:List Int):List (List Int) × List Int:=if OL u nt∧renB u.length o then (onU u o,onN nt o) else ([],[])
def innerL (u:List (List Int)) (nt:List Int):List Int:=castL ((List.range u.length).filter fun k=>decide ((k:Int)≠leastI u∧(k:Int)≠rd nt (leastI u)))
def glueL (u:List (List Int)) (nt:List Int) (v:List (List Int)) (mt_:List Int):List (Nat × Int) :=
 (0,0)::((innerL u nt).map fun k=>(1,k))++((innerL v mt_).map fun k=>(2,k)) ++ [(0,0)]
def glueB (u v:List (List Int)) (g:List (Nat × Int)) (i k:Nat):Bool :=
 if i=0∨k=g.length-1∨i=k then true else if i=g.length-1∨k=0 then false else
  decide ((g.getD i (0,0)).1=(g.getD k (0,0)).1∧rdN (if (g.getD i (0,0)).1=1 then u else v) (g.getD i (0,0)).2.toNat (g.getD k (0,0)).2.toNat=1)
def glueO (nt mt_:List Int) (g:List (Nat × Int)) (i:Nat):Int :=
 if i=0∨i=g.length-1 then ((g.length-1-i:Nat):Int) else (g.idxOf ((g.getD i (0,0)).1,rd (if (g.getD i (0,0)).1=1 then nt else mt_) (g.getD i (0,0)).2):Int)
def gluedF (u:List (List Int)) (nt:List Int) (v:List (List Int)) (mt_:List Int):List (List Int) × List Int × Bool :=
 if OL u nt∧OL v mt_∧2≤u.length∧2≤v.length∧u.length+v.length-2≤12 then
  (madeU (glueL u nt v mt_).length (glueB u v (glueL u nt v mt_)),madeN (glueL u nt v mt_).length (glueO nt mt_ (glueL u nt v mt_)),true)
 else ([],[],false)
end Go.Proofs.Ytlkibgccgkhdmaa.P

namespace Go.Proofs.Ytlkibgccgkhdmaa.P
open Go.RowKit Go.Proofs.YtlkibgccgkhdmaaW.PrintWords Go.Proofs.YtlkibgccgkhdmaaW.PrintLast Go.Proofs.YtlkibgccgkhdmaaW.PrintMore
set_option linter.unusedVariables false
set_option linter.unusedSimpArgs false
open Go.Proofs.Cl
def laws_szIntS.f (l0:List Int) (a1:Int):Option (Int):=if (wrap64 (a1-(l0.length:Int)))<0 then (some (-1)) else (some (wrap64 (a1-(l0.length:Int))))
def laws_szIntSS.l0:Nat→List (List Int)→Int→Int→Option (Int)
 | 0,_,_,_=>none
 | k+1,x0,x1,x5=>if x5<(x0.length:Int) then (if 0≤x5 then ((laws_szIntS.f (rd_L1 x0 x5) x1).bind fun t102=>(if t102<0 then (some (-1)) else (laws_szIntSS.l0 k x0 t102 (wrap64 (x5+1))))) else (none)) else (some x1)
def laws_szIntSS.f (k:Nat) (l0:List (List Int)) (a1:Int):Option (Int):=if (wrap64 (a1-(l0.length:Int)))<0 then (some (-1)) else (laws_szIntSS.l0 k l0 (wrap64 (a1-(l0.length:Int))) 0)
def laws_szLogic.f (k:Nat) (l0_0:List (List Int)) (l0_1:List Int) (a1:Int):Option (Int):=(laws_szIntSS.f k l0_0 a1).bind fun t104=>(if t104<0 then (some (-1)) else ((laws_szIntS.f l0_1 t104).bind fun t105=>(if t105<0 then (some (-1)) else (some t105))))
mutual
def spec_l1Meet.l0:Nat→List (List Int)→Int→Int→Int→Int→Option (Int)
 | 0,_,_,_,_,_=>none
 | k+1,x0,x1,x2,x7,x8=>if x8<(x0.length:Int) then (if 0≤x8 then (if 0≤x1 then (if x1<((rd_L1 x0 x8).length:Int) then (if (rd (rd_L1 x0 x8) x1)=1 then (if 0≤x2 then (if x2<((rd_L1 x0 x8).length:Int) then (if (rd (rd_L1 x0 x8) x2)=1 then (if x7<0 then (spec_l1Meet.l0 k x0 x1 x2 x8 (wrap64 (x8+1))) else (if 0≤x7 then (if x7<(x0.length:Int) then (if x8<((rd_L1 x0 x7).length:Int) then (if (rd (rd_L1 x0 x7) x8)=1 then (spec_l1Meet.l0 k x0 x1 x2 x8 (wrap64 (x8+1))) else (spec_l1Meet.l0 k x0 x1 x2 x7 (wrap64 (x8+1)))) else (none)) else (none)) else (none))) else (spec_l1Meet.l0 k x0 x1 x2 x7 (wrap64 (x8+1)))) else (none)) else (none)) else (spec_l1Meet.l0 k x0 x1 x2 x7 (wrap64 (x8+1)))) else (none)) else (none)) else (none)) else (spec_l1Meet.l1 k x0 x1 x2 x7 0)
def spec_l1Meet.l1:Nat→List (List Int)→Int→Int→Int→Int→Option (Int)
 | 0,_,_,_,_,_=>none
 | k+1,x0,x1,x2,x7,x9=>if x9<(x0.length:Int) then (if 0≤x9 then (if 0≤x1 then (if x1<((rd_L1 x0 x9).length:Int) then (if (rd (rd_L1 x0 x9) x1)=1 then (if 0≤x2 then (if x2<((rd_L1 x0 x9).length:Int) then (if (rd (rd_L1 x0 x9) x2)=1 then (if 0≤x7 then (if x7<((rd_L1 x0 x9).length:Int) then (if (rd (rd_L1 x0 x9) x7)=0 then (some (-1)) else (spec_l1Meet.l1 k x0 x1 x2 x7 (wrap64 (x9+1)))) else (none)) else (none)) else (spec_l1Meet.l1 k x0 x1 x2 x7 (wrap64 (x9+1)))) else (none)) else (none)) else (spec_l1Meet.l1 k x0 x1 x2 x7 (wrap64 (x9+1)))) else (none)) else (none)) else (none)) else (some x7)
end
def spec_l1Meet.f (k:Nat) (l0:List (List Int)) (a1:Int) (a2:Int):Option (Int):=spec_l1Meet.l0 k l0 a1 a2 (-1) 0
def spec_l1In.f (a0:Int) (a1:Int) (a2:Int):Option (Bool):=if a0≥a1 then (some (decide (a0≤a2))) else (some false)
mutual
def spec_l1Join.l0:Nat→List (List Int)→Int→Int→Int→Int→Option (Int)
 | 0,_,_,_,_,_=>none
 | k+1,x0,x1,x2,x7,x8=>if x8<(x0.length:Int) then (if 0≤x1 then (if x1<(x0.length:Int) then (if 0≤x8 then (if x8<((rd_L1 x0 x1).length:Int) then (if (rd (rd_L1 x0 x1) x8)=1 then (if 0≤x2 then (if x2<(x0.length:Int) then (if x8<((rd_L1 x0 x2).length:Int) then (if (rd (rd_L1 x0 x2) x8)=1 then (if x7<0 then (spec_l1Join.l0 k x0 x1 x2 x8 (wrap64 (x8+1))) else (if 0≤x7 then (if x7<((rd_L1 x0 x8).length:Int) then (if (rd (rd_L1 x0 x8) x7)=1 then (spec_l1Join.l0 k x0 x1 x2 x8 (wrap64 (x8+1))) else (spec_l1Join.l0 k x0 x1 x2 x7 (wrap64 (x8+1)))) else (none)) else (none))) else (spec_l1Join.l0 k x0 x1 x2 x7 (wrap64 (x8+1)))) else (none)) else (none)) else (none)) else (spec_l1Join.l0 k x0 x1 x2 x7 (wrap64 (x8+1)))) else (none)) else (none)) else (none)) else (none)) else (spec_l1Join.l1 k x0 x1 x2 x7 0)
def spec_l1Join.l1:Nat→List (List Int)→Int→Int→Int→Int→Option (Int)
 | 0,_,_,_,_,_=>none
 | k+1,x0,x1,x2,x7,x9=>if x9<(x0.length:Int) then (if 0≤x1 then (if x1<(x0.length:Int) then (if 0≤x9 then (if x9<((rd_L1 x0 x1).length:Int) then (if (rd (rd_L1 x0 x1) x9)=1 then (if 0≤x2 then (if x2<(x0.length:Int) then (if x9<((rd_L1 x0 x2).length:Int) then (if (rd (rd_L1 x0 x2) x9)=1 then (if 0≤x7 then (if x7<(x0.length:Int) then (if x9<((rd_L1 x0 x7).length:Int) then (if (rd (rd_L1 x0 x7) x9)=0 then (some (-1)) else (spec_l1Join.l1 k x0 x1 x2 x7 (wrap64 (x9+1)))) else (none)) else (none)) else (none)) else (spec_l1Join.l1 k x0 x1 x2 x7 (wrap64 (x9+1)))) else (none)) else (none)) else (none)) else (spec_l1Join.l1 k x0 x1 x2 x7 (wrap64 (x9+1)))) else (none)) else (none)) else (none)) else (none)) else (some x7)
end
def spec_l1Join.f (k:Nat) (l0:List (List Int)) (a1:Int) (a2:Int):Option (Int):=spec_l1Join.l0 k l0 a1 a2 (-1) 0
mutual
def spec_OrderOk.l0:Nat→List (List Int)→Int→Int→Option (Bool)
 | 0,_,_,_=>none
 | k+1,x0,x3,x4=>if x4<x3 then (if 0≤x4 then (if x4<(x0.length:Int) then (if ((rd_L1 x0 x4).length:Int)=x3 then (spec_OrderOk.l1 k x0 x3 x4 0) else (some false)) else (none)) else (none)) else (spec_OrderOk.l2 k x0 x3 0)
def spec_OrderOk.l1:Nat→List (List Int)→Int→Int→Int→Option (Bool)
 | 0,_,_,_,_=>none
 | k+1,x0,x3,x4,x5=>if x5<x3 then (if 0≤x4 then (if x4<(x0.length:Int) then (if 0≤x5 then (if x5<((rd_L1 x0 x4).length:Int) then ((spec_l1In.f (rd (rd_L1 x0 x4) x5) 0 1).bind fun t134=>(if t134=true then (spec_OrderOk.l1 k x0 x3 x4 (wrap64 (x5+1))) else (some false))) else (none)) else (none)) else (none)) else (none)) else (spec_OrderOk.l0 k x0 x3 (wrap64 (x4+1)))
def spec_OrderOk.l2:Nat→List (List Int)→Int→Int→Option (Bool)
 | 0,_,_,_=>none
 | k+1,x0,x3,x6=>if x6<x3 then (spec_OrderOk.l3 k x0 x3 x6 0) else (some true)
def spec_OrderOk.l3:Nat→List (List Int)→Int→Int→Int→Option (Bool)
 | 0,_,_,_,_=>none
 | k+1,x0,x3,x6,x7=>if x7<x3 then (if x6=x7 then (if 0≤x6 then (if x6<(x0.length:Int) then (if 0≤x7 then (if x7<((rd_L1 x0 x6).length:Int) then (if (rd (rd_L1 x0 x6) x7)=0 then (spec_OrderOk.j4 k x0 x3 x6 x7 true) else (spec_OrderOk.j4 k x0 x3 x6 x7 false)) else (none)) else (none)) else (none)) else (none)) else (if 0≤x6 then (if x6<(x0.length:Int) then (if 0≤x7 then (if x7<((rd_L1 x0 x6).length:Int) then (if (rd (rd_L1 x0 x6) x7)=1 then (if x7<(x0.length:Int) then (if x6<((rd_L1 x0 x7).length:Int) then (spec_OrderOk.j4 k x0 x3 x6 x7 ((rd (rd_L1 x0 x7) x6)==1)) else (none)) else (none)) else (spec_OrderOk.j4 k x0 x3 x6 x7 false)) else (none)) else (none)) else (none)) else (none))) else (spec_OrderOk.l2 k x0 x3 (wrap64 (x6+1)))
def spec_OrderOk.j4:Nat→List (List Int)→Int→Int→Int→Bool→Option (Bool)
 | 0,_,_,_,_,_=>none
 | k+1,x0,x3,x6,x7,x87=>if x87=true then (some false) else (spec_OrderOk.l4 k x0 x3 x6 x7 0)
def spec_OrderOk.l4:Nat→List (List Int)→Int→Int→Int→Int→Option (Bool)
 | 0,_,_,_,_,_=>none
 | k+1,x0,x3,x6,x7,x8=>if x8<x3 then (if 0≤x6 then (if x6<(x0.length:Int) then (if 0≤x7 then (if x7<((rd_L1 x0 x6).length:Int) then (if (rd (rd_L1 x0 x6) x7)=1 then (if x7<(x0.length:Int) then (if 0≤x8 then (if x8<((rd_L1 x0 x7).length:Int) then (if (rd (rd_L1 x0 x7) x8)=1 then (if x8<((rd_L1 x0 x6).length:Int) then (if (rd (rd_L1 x0 x6) x8)=0 then (some false) else (spec_OrderOk.l4 k x0 x3 x6 x7 (wrap64 (x8+1)))) else (none)) else (spec_OrderOk.l4 k x0 x3 x6 x7 (wrap64 (x8+1)))) else (none)) else (none)) else (none)) else (spec_OrderOk.l4 k x0 x3 x6 x7 (wrap64 (x8+1)))) else (none)) else (none)) else (none)) else (none)) else (spec_OrderOk.l3 k x0 x3 x6 (wrap64 (x7+1)))
end
def spec_OrderOk.f (k:Nat) (l0:List (List Int)):Option (Bool):=(spec_l1In.f (l0.length:Int) 1 12).bind fun t130=>(if t130=true then (spec_OrderOk.l0 k l0 (l0.length:Int) 0) else (some false))
mutual
def spec_LatticeOk.l0:Nat→List (List Int)→Int→Option (Bool)
 | 0,_,_=>none
 | k+1,x0,x3=>if x3<(x0.length:Int) then ((spec_OrderOk.f k x0).bind fun t147=>(spec_LatticeOk.j1 k x0 x3 t147)) else (spec_LatticeOk.j1 k x0 x3 false)
def spec_LatticeOk.j1:Nat→List (List Int)→Int→Bool→Option (Bool)
 | 0,_,_,_=>none
 | k+1,x0,x3,x12=>if x12=true then (spec_LatticeOk.l1 k x0 x3 0) else ((spec_OrderOk.f k x0).bind fun t148=>(some t148))
def spec_LatticeOk.l1:Nat→List (List Int)→Int→Int→Option (Bool)
 | 0,_,_,_=>none
 | k+1,x0,x3,x4=>if x4<x3 then ((spec_l1Meet.f k x0 x3 x4).bind fun t149=>(if t149<0 then (some false) else ((spec_l1Join.f k x0 x3 x4).bind fun t150=>(if t150<0 then (some false) else (spec_LatticeOk.l1 k x0 x3 (wrap64 (x4+1))))))) else (spec_LatticeOk.l0 k x0 (wrap64 (x3+1)))
end
def spec_LatticeOk.f (k:Nat) (l0:List (List Int)):Option (Bool):=spec_LatticeOk.l0 k l0 0
mutual
def spec_LeastOf.l0:Nat→List (List Int)→Int→Option (Int × Bool)
 | 0,_,_=>none
 | k+1,x0,x4=>if x4<(x0.length:Int) then ((spec_OrderOk.f k x0).bind fun t151=>(spec_LeastOf.j1 k x0 x4 t151)) else (spec_LeastOf.j1 k x0 x4 false)
def spec_LeastOf.j1:Nat→List (List Int)→Int→Bool→Option (Int × Bool)
 | 0,_,_,_=>none
 | k+1,x0,x4,x14=>if x14=true then (spec_LeastOf.l1 k x0 x4 true 0) else (some ((-1),false))
def spec_LeastOf.l1:Nat→List (List Int)→Int→Bool→Int→Option (Int × Bool)
 | 0,_,_,_,_=>none
 | k+1,x0,x4,x5,x6=>if x6<(x0.length:Int) then (if x5=true then (if 0≤x4 then (if x4<(x0.length:Int) then (if 0≤x6 then (if x6<((rd_L1 x0 x4).length:Int) then (spec_LeastOf.l1 k x0 x4 ((rd (rd_L1 x0 x4) x6)==1) (wrap64 (x6+1))) else (none)) else (none)) else (none)) else (none)) else (spec_LeastOf.l1 k x0 x4 false (wrap64 (x6+1)))) else (if x5=true then (some (x4,true)) else (spec_LeastOf.l0 k x0 (wrap64 (x4+1))))
end
def spec_LeastOf.f (k:Nat) (l0:List (List Int)):Option (Int × Bool):=spec_LeastOf.l0 k l0 0
mutual
def spec_LogicOk.j0:Nat→Int→Bool→List (List Int)→List Int→Option (Bool)
 | 0,_,_,_,_=>none
 | k+1,x3,x22,x155000,x155001=>if x22=true then (some false) else (spec_LogicOk.l0 k x3 0 x155000 x155001)
def spec_LogicOk.l0:Nat→Int→Int→List (List Int)→List Int→Option (Bool)
 | 0,_,_,_,_=>none
 | k+1,x3,x4,x155000,x155001=>if x4<x3 then (if 0≤x4 then (if x4<(x155001.length:Int) then ((spec_l1In.f (rd x155001 x4) 0 (wrap64 (x3-1))).bind fun t157=>(if t157=true then (spec_LogicOk.l0 k x3 (wrap64 (x4+1)) x155000 x155001) else (some false))) else (none)) else (none)) else ((spec_LeastOf.f k x155000).bind fun bt158=>(spec_LogicOk.l1 k x3 bt158.1 0 x155000 x155001))
def spec_LogicOk.l1:Nat→Int→Int→Int→List (List Int)→List Int→Option (Bool)
 | 0,_,_,_,_,_=>none
 | k+1,x3,x5,x7,x155000,x155001=>if x7<x3 then (if 0≤x7 then (if x7<(x155001.length:Int) then (if 0≤(rd x155001 x7) then (if (rd x155001 x7)<(x155001.length:Int) then (if (rd x155001 (rd x155001 x7))=x7 then ((spec_l1Meet.f k x155000 x7 (rd x155001 x7)).bind fun t163=>(spec_LogicOk.j3 k x3 x5 x7 (t163 != x5) x155000 x155001)) else (spec_LogicOk.j3 k x3 x5 x7 true x155000 x155001)) else (none)) else (none)) else (none)) else (none)) else (some true)
def spec_LogicOk.j3:Nat→Int→Int→Int→Bool→List (List Int)→List Int→Option (Bool)
 | 0,_,_,_,_,_,_=>none
 | k+1,x3,x5,x7,x71,x155000,x155001=>if x71=true then (some false) else (spec_LogicOk.l2 k x3 x5 x7 0 x155000 x155001)
def spec_LogicOk.l2:Nat→Int→Int→Int→Int→List (List Int)→List Int→Option (Bool)
 | 0,_,_,_,_,_,_=>none
 | k+1,x3,x5,x7,x8,x155000,x155001=>if x8<x3 then (if 0≤x7 then (if x7<(x155000.length:Int) then (if 0≤x8 then (if x8<((rd_L1 x155000 x7).length:Int) then (if (rd (rd_L1 x155000 x7) x8)=1 then (if x8<(x155001.length:Int) then (if 0≤(rd x155001 x8) then (if (rd x155001 x8)<(x155000.length:Int) then (if x7<(x155001.length:Int) then (if 0≤(rd x155001 x7) then (if (rd x155001 x7)<((rd_L1 x155000 (rd x155001 x8)).length:Int) then (if (rd (rd_L1 x155000 (rd x155001 x8)) (rd x155001 x7))=0 then (some false) else (spec_LogicOk.l2 k x3 x5 x7 (wrap64 (x8+1)) x155000 x155001)) else (none)) else (none)) else (none)) else (none)) else (none)) else (none)) else (spec_LogicOk.l2 k x3 x5 x7 (wrap64 (x8+1)) x155000 x155001)) else (none)) else (none)) else (none)) else (none)) else (spec_LogicOk.l1 k x3 x5 (wrap64 (x7+1)) x155000 x155001)
end
def spec_LogicOk.f (k:Nat) (l0_0:List (List Int)) (l0_1:List Int):Option (Bool):=(spec_LatticeOk.f k l0_0).bind fun t155=>(if t155=true then (spec_LogicOk.j0 k (l0_0.length:Int) ((l0_1.length:Int) != (l0_0.length:Int)) l0_0 l0_1) else (spec_LogicOk.j0 k (l0_0.length:Int) true l0_0 l0_1))
mutual
def spec_BreakOf.l0:Nat→Int→List (List Int)→List Int→Option (Int × Int × Bool)
 | 0,_,_,_=>none
 | k+1,x5,x171000,x171001=>if x5<(x171001.length:Int) then ((spec_LogicOk.f k x171000 x171001).bind fun t171=>(spec_BreakOf.j1 k x5 t171 x171000 x171001)) else (spec_BreakOf.j1 k x5 false x171000 x171001)
def spec_BreakOf.j1:Nat→Int→Bool→List (List Int)→List Int→Option (Int × Int × Bool)
 | 0,_,_,_,_=>none
 | k+1,x5,x15,x171000,x171001=>if x15=true then (spec_BreakOf.l1 k x5 0 x171000 x171001) else (some ((-1),(-1),false))
def spec_BreakOf.l1:Nat→Int→Int→List (List Int)→List Int→Option (Int × Int × Bool)
 | 0,_,_,_,_=>none
 | k+1,x5,x6,x171000,x171001=>if x6<(x171001.length:Int) then (if x5=x6 then (spec_BreakOf.l1 k x5 (wrap64 (x6+1)) x171000 x171001) else (if 0≤x5 then (if x5<(x171000.length:Int) then (if 0≤x6 then (if x6<((rd_L1 x171000 x5).length:Int) then (if (rd (rd_L1 x171000 x5) x6)=1 then (if x5<(x171001.length:Int) then ((spec_l1Meet.f k x171000 x6 (rd x171001 x5)).bind fun t175=>((spec_l1Meet.f k x171000 x5 (rd x171001 x5)).bind fun t177=>(if t175=t177 then (some (x5,x6,true)) else (spec_BreakOf.l1 k x5 (wrap64 (x6+1)) x171000 x171001)))) else (none)) else (spec_BreakOf.l1 k x5 (wrap64 (x6+1)) x171000 x171001)) else (none)) else (none)) else (none)) else (none))) else (spec_BreakOf.l0 k (wrap64 (x5+1)) x171000 x171001)
end
def spec_BreakOf.f (k:Nat) (l0_0:List (List Int)) (l0_1:List Int):Option (Int × Int × Bool):=spec_BreakOf.l0 k 0 l0_0 l0_1
def laws_toIntS.l0:Nat→List Int→List Int→Int→Option (List Int)
 | 0,_,_,_=>none
 | k+1,x0,x3,x4=>if x4<(x0.length:Int) then (if 0≤x4 then (if x4<(x3.length:Int) then (laws_toIntS.l0 k x0 (x3.set (x4:Int).toNat (rd x0 x4)) (wrap64 (x4+1))) else (none)) else (none)) else (some x3)
def laws_toIntS.f (k:Nat) (l0:List Int):Option (List Int):=if 0≤(l0.length:Int) then (if ((l0.length:Int):Int).toNat≤35184372088832 then (laws_toIntS.l0 k l0 (List.replicate ((l0.length:Int):Int).toNat 0) 0) else (none)) else (none)
def laws_toIntSS.l0:Nat→List (List Int)→List (List Int)→Int→Option ((List (List Int)))
 | 0,_,_,_=>none
 | k+1,x0,x3,x4=>if x4<(x0.length:Int) then (if 0≤x4 then ((laws_toIntS.f k (rd_L1 x0 x4)).bind fun t187=>(if x4<(x3.length:Int) then (laws_toIntSS.l0 k x0 (x3.set (x4:Int).toNat t187) (wrap64 (x4+1))) else (none))) else (none)) else (some x3)
def laws_toIntSS.f (k:Nat) (l0:List (List Int)):Option ((List (List Int))):=if 0≤(l0.length:Int) then (if ((l0.length:Int):Int).toNat≤11728124029610 then (laws_toIntSS.l0 k l0 (List.replicate ((l0.length:Int):Int).toNat []) 0) else (none)) else (none)
def laws_toLogic.f (k:Nat) (l0_0:List (List Int)) (l0_1:List Int):Option ((List (List Int)) × List Int):=(laws_toIntSS.f k l0_0).bind fun t194=>((laws_toIntS.f k l0_1).bind fun t197=>(some (t194,t197)))
mutual
def impl_turned.l0:Nat→List (List Int)→List (List Int)→Int→Int→Option ((List (List Int)))
 | 0,_,_,_,_=>none
 | k+1,x0,x3,x10,x11=>if x11<x10 then (if 0≤(x0.length:Int) then (if ((x0.length:Int):Int).toNat≤35184372088832 then (if 0≤x11 then (if x11<(x3.length:Int) then (impl_turned.l1 k x0 (x3.set (x11:Int).toNat (List.replicate ((x0.length:Int):Int).toNat 0)) x11 x10 x11 (x0.length:Int) 0) else (none)) else (none)) else (none)) else (none)) else (some x3)
def impl_turned.l1:Nat→List (List Int)→List (List Int)→Int→Int→Int→Int→Int→Option ((List (List Int)))
 | 0,_,_,_,_,_,_,_=>none
 | k+1,x0,x3,x4,x10,x11,x21,x22=>if x22<x21 then (if 0≤x4 then (if x4<(x3.length:Int) then (if 0≤x22 then (if x22<(x0.length:Int) then (if x4<((rd_L1 x0 x22).length:Int) then (if x22<((rd_L1 x3 x4).length:Int) then (impl_turned.l1 k x0 (x3.set (x4:Int).toNat ((rd_L1 x3 x4).set (x22:Int).toNat (rd (rd_L1 x0 x22) x4))) x4 x10 x11 x21 (wrap64 (x22+1))) else (none)) else (none)) else (none)) else (none)) else (none)) else (none)) else (impl_turned.l0 k x0 x3 x10 (wrap64 (x11+1)))
end
def impl_turned.f (k:Nat) (l0:List (List Int)):Option ((List (List Int))):=if 0≤(l0.length:Int) then (if ((l0.length:Int):Int).toNat≤11728124029610 then (impl_turned.l0 k l0 (List.replicate ((l0.length:Int):Int).toNat []) (l0.length:Int) 0) else (none)) else (none)
mutual
def impl_meet.l0:Nat→List (List Int)→Int→Int→Int→Int→Option (Int)
 | 0,_,_,_,_,_=>none
 | k+1,x0,x1,x2,x11,x12=>if x12<x11 then (if 0≤x12 then (if x12<(x0.length:Int) then (if 0≤x1 then (if x1<((rd_L1 x0 x12).length:Int) then (if (rd (rd_L1 x0 x12) x1)=0 then (impl_meet.j1 k x0 x1 x2 x12 x11 x12 true) else (if 0≤x2 then (if x2<((rd_L1 x0 x12).length:Int) then (impl_meet.j1 k x0 x1 x2 x12 x11 x12 ((rd (rd_L1 x0 x12) x2)==0)) else (none)) else (none))) else (none)) else (none)) else (none)) else (none)) else (some (-1))
def impl_meet.j1:Nat→List (List Int)→Int→Int→Int→Int→Int→Bool→Option (Int)
 | 0,_,_,_,_,_,_,_=>none
 | k+1,x0,x1,x2,x7,x11,x12,x32=>if x32=true then (impl_meet.l0 k x0 x1 x2 x11 (wrap64 (x12+1))) else (impl_meet.l1 k x0 x1 x2 x7 true x11 x12 (x0.length:Int) 0)
def impl_meet.l1:Nat→List (List Int)→Int→Int→Int→Bool→Int→Int→Int→Int→Option (Int)
 | 0,_,_,_,_,_,_,_,_,_=>none
 | k+1,x0,x1,x2,x7,x8,x11,x12,x34,x35=>if x35<x34 then (if x8=true then (if 0≤x35 then (if x35<(x0.length:Int) then (if 0≤x1 then (if x1<((rd_L1 x0 x35).length:Int) then (if (rd (rd_L1 x0 x35) x1)=0 then (impl_meet.l1 k x0 x1 x2 x7 true x11 x12 x34 (wrap64 (x35+1))) else (if 0≤x2 then (if x2<((rd_L1 x0 x35).length:Int) then (if (rd (rd_L1 x0 x35) x2)=0 then (impl_meet.l1 k x0 x1 x2 x7 true x11 x12 x34 (wrap64 (x35+1))) else (if 0≤x7 then (if x7<((rd_L1 x0 x35).length:Int) then (impl_meet.l1 k x0 x1 x2 x7 ((rd (rd_L1 x0 x35) x7)==1) x11 x12 x34 (wrap64 (x35+1))) else (none)) else (none))) else (none)) else (none))) else (none)) else (none)) else (none)) else (none)) else (impl_meet.l1 k x0 x1 x2 x7 false x11 x12 x34 (wrap64 (x35+1)))) else (if x8=true then (some x7) else (impl_meet.l0 k x0 x1 x2 x11 (wrap64 (x12+1))))
end
def impl_meet.f (k:Nat) (l0:List (List Int)) (a1:Int) (a2:Int):Option (Int):=impl_meet.l0 k l0 a1 a2 (l0.length:Int) 0
mutual
def impl_OrderOk.j0:Nat→List (List Int)→Int→Bool→Option (Bool)
 | 0,_,_,_=>none
 | k+1,x0,x3,x18=>if x18=true then (some false) else (impl_OrderOk.l0 k x0 x3 x0 (x0.length:Int) 0)
def impl_OrderOk.l0:Nat→List (List Int)→Int→List (List Int)→Int→Int→Option (Bool)
 | 0,_,_,_,_,_=>none
 | k+1,x0,x3,x19,x20,x21=>if x21<x20 then (if 0≤x21 then (if x21<(x19.length:Int) then (if ((rd_L1 x19 x21).length:Int)=x3 then (if x21<((rd_L1 x19 x21).length:Int) then (impl_OrderOk.j2 k x0 x3 x21 (rd_L1 x19 x21) x19 x20 x21 ((rd (rd_L1 x19 x21) x21) != 1)) else (none)) else (impl_OrderOk.j2 k x0 x3 x21 (rd_L1 x19 x21) x19 x20 x21 true)) else (none)) else (none)) else (impl_OrderOk.l2 k x0 x3 x3 0)
def impl_OrderOk.j2:Nat→List (List Int)→Int→Int→List Int→List (List Int)→Int→Int→Bool→Option (Bool)
 | 0,_,_,_,_,_,_,_,_=>none
 | k+1,x0,x3,x4,x5,x19,x20,x21,x36=>if x36=true then (some false) else (impl_OrderOk.l1 k x0 x3 x4 x19 x20 x21 x5 (x5.length:Int) 0)
def impl_OrderOk.l1:Nat→List (List Int)→Int→Int→List (List Int)→Int→Int→List Int→Int→Int→Option (Bool)
 | 0,_,_,_,_,_,_,_,_,_=>none
 | k+1,x0,x3,x4,x19,x20,x21,x37,x38,x39=>if x39<x38 then (if 0≤x39 then (if x39<(x37.length:Int) then (if (rd x37 x39)=0 then (impl_OrderOk.j4 k x0 x3 x4 x39 (rd x37 x39) x19 x20 x21 x37 x38 x39 false) else (impl_OrderOk.j4 k x0 x3 x4 x39 (rd x37 x39) x19 x20 x21 x37 x38 x39 ((rd x37 x39) != 1))) else (none)) else (none)) else (impl_OrderOk.l0 k x0 x3 x19 x20 (wrap64 (x21+1)))
def impl_OrderOk.j4:Nat→List (List Int)→Int→Int→Int→Int→List (List Int)→Int→Int→List Int→Int→Int→Bool→Option (Bool)
 | 0,_,_,_,_,_,_,_,_,_,_,_,_=>none
 | k+1,x0,x3,x4,x6,x7,x19,x20,x21,x37,x38,x39,x49=>if x49=true then (some false) else (if 0≤x6 then (if x6<(x0.length:Int) then (if ((rd_L1 x0 x6).length:Int)=x3 then (if x7=1 then (if x4=x6 then (impl_OrderOk.l1 k x0 x3 x4 x19 x20 x21 x37 x38 (wrap64 (x39+1))) else (if 0≤x4 then (if x4<((rd_L1 x0 x6).length:Int) then (if (rd (rd_L1 x0 x6) x4)=1 then (some false) else (impl_OrderOk.l1 k x0 x3 x4 x19 x20 x21 x37 x38 (wrap64 (x39+1)))) else (none)) else (none))) else (impl_OrderOk.l1 k x0 x3 x4 x19 x20 x21 x37 x38 (wrap64 (x39+1)))) else (some false)) else (none)) else (none))
def impl_OrderOk.l2:Nat→List (List Int)→Int→Int→Int→Option (Bool)
 | 0,_,_,_,_=>none
 | k+1,x0,x3,x78,x79=>if x79<x78 then (impl_OrderOk.l3 k x0 x3 x79 x78 x79 x3 0) else (some true)
def impl_OrderOk.l3:Nat→List (List Int)→Int→Int→Int→Int→Int→Int→Option (Bool)
 | 0,_,_,_,_,_,_,_=>none
 | k+1,x0,x3,x8,x78,x79,x82,x83=>if x83<x82 then (impl_OrderOk.l4 k x0 x3 x8 x83 x78 x79 x82 x83 x3 0) else (impl_OrderOk.l2 k x0 x3 x78 (wrap64 (x79+1)))
def impl_OrderOk.l4:Nat→List (List Int)→Int→Int→Int→Int→Int→Int→Int→Int→Int→Option (Bool)
 | 0,_,_,_,_,_,_,_,_,_,_=>none
 | k+1,x0,x3,x8,x9,x78,x79,x82,x83,x86,x87=>if x87<x86 then (if 0≤x8 then (if x8<(x0.length:Int) then (if 0≤x9 then (if x9<((rd_L1 x0 x8).length:Int) then (if (rd (rd_L1 x0 x8) x9)=1 then (if x9<(x0.length:Int) then (if 0≤x87 then (if x87<((rd_L1 x0 x9).length:Int) then (if (rd (rd_L1 x0 x9) x87)=1 then (if x87<((rd_L1 x0 x8).length:Int) then (if (rd (rd_L1 x0 x8) x87)=1 then (impl_OrderOk.l4 k x0 x3 x8 x9 x78 x79 x82 x83 x86 (wrap64 (x87+1))) else (some false)) else (none)) else (impl_OrderOk.l4 k x0 x3 x8 x9 x78 x79 x82 x83 x86 (wrap64 (x87+1)))) else (none)) else (none)) else (none)) else (impl_OrderOk.l4 k x0 x3 x8 x9 x78 x79 x82 x83 x86 (wrap64 (x87+1)))) else (none)) else (none)) else (none)) else (none)) else (impl_OrderOk.l3 k x0 x3 x8 x78 x79 x82 (wrap64 (x83+1)))
end
def impl_OrderOk.f (k:Nat) (l0:List (List Int)):Option (Bool):=if (l0.length:Int)<1 then (impl_OrderOk.j0 k l0 (l0.length:Int) true) else (impl_OrderOk.j0 k l0 (l0.length:Int) (decide ((l0.length:Int)>12)))
mutual
def impl_LatticeOk.l0:Nat→List (List Int)→List (List Int)→Int→Int→Option (Bool)
 | 0,_,_,_,_=>none
 | k+1,x0,x3,x12,x13=>if x13<x12 then (impl_LatticeOk.l1 k x0 x3 x13 x12 x13 (x0.length:Int) 0) else (some true)
def impl_LatticeOk.l1:Nat→List (List Int)→List (List Int)→Int→Int→Int→Int→Int→Option (Bool)
 | 0,_,_,_,_,_,_,_=>none
 | k+1,x0,x3,x4,x12,x13,x17,x18=>if x18<x17 then ((impl_meet.f k x0 x4 x18).bind fun t239=>(if t239<0 then (some false) else ((impl_meet.f k x3 x4 x18).bind fun t240=>(if t240<0 then (some false) else (impl_LatticeOk.l1 k x0 x3 x4 x12 x13 x17 (wrap64 (x18+1))))))) else (impl_LatticeOk.l0 k x0 x3 x12 (wrap64 (x13+1)))
end
def impl_LatticeOk.f (k:Nat) (l0:List (List Int)):Option (Bool):=(impl_OrderOk.f k l0).bind fun t235=>(if t235=true then ((impl_turned.f k l0).bind fun t236=>(impl_LatticeOk.l0 k l0 t236 (l0.length:Int) 0)) else (some false))
mutual
def impl_LeastOf.l0:Nat→List (List Int)→Int→Int→Option (Int × Bool)
 | 0,_,_,_=>none
 | k+1,x12,x13,x14=>if x14<x13 then (if 0≤x14 then (if x14<(x12.length:Int) then (impl_LeastOf.l1 k x14 true x12 x13 x14 (rd_L1 x12 x14) ((rd_L1 x12 x14).length:Int) 0) else (none)) else (none)) else (some ((-1),false))
def impl_LeastOf.l1:Nat→Int→Bool→List (List Int)→Int→Int→List Int→Int→Int→Option (Int × Bool)
 | 0,_,_,_,_,_,_,_,_=>none
 | k+1,x4,x6,x12,x13,x14,x19,x20,x21=>if x21<x20 then (if 0≤x21 then (if x21<(x19.length:Int) then (if x6=true then (impl_LeastOf.l1 k x4 ((rd x19 x21)==1) x12 x13 x14 x19 x20 (wrap64 (x21+1))) else (impl_LeastOf.l1 k x4 false x12 x13 x14 x19 x20 (wrap64 (x21+1)))) else (none)) else (none)) else (if x6=true then (some (x4,true)) else (impl_LeastOf.l0 k x12 x13 (wrap64 (x14+1))))
end
def impl_LeastOf.f (k:Nat) (l0:List (List Int)):Option (Int × Bool):=(impl_OrderOk.f k l0).bind fun t241=>(if t241=true then (impl_LeastOf.l0 k l0 (l0.length:Int) 0) else (some ((-1),false)))
def impl_isAnswer.f (l0:List (List Int)) (a1:Int):Option (Bool):=if a1≥0 then (some (decide (a1<(l0.length:Int)))) else (some false)
def laws_eqIntS.l0:Nat→List Int→List Int→Int→Option (Bool)
 | 0,_,_,_=>none
 | k+1,x0,x1,x5=>if x5<(x0.length:Int) then (if 0≤x5 then (if x5<(x1.length:Int) then (if (rd x0 x5)=(rd x1 x5) then (laws_eqIntS.l0 k x0 x1 (wrap64 (x5+1))) else (some false)) else (none)) else (none)) else (some true)
def laws_eqIntS.f (k:Nat) (l0:List Int) (l1:List Int):Option (Bool):=if (l0.length:Int)=(l1.length:Int) then (laws_eqIntS.l0 k l0 l1 0) else (some false)
def laws_eqIntSS.l0:Nat→List (List Int)→List (List Int)→Int→Option (Bool)
 | 0,_,_,_=>none
 | k+1,x0,x1,x5=>if x5<(x0.length:Int) then (if 0≤x5 then (if x5<(x1.length:Int) then ((laws_eqIntS.f k (rd_L1 x0 x5) (rd_L1 x1 x5)).bind fun t250=>(if t250=true then (laws_eqIntSS.l0 k x0 x1 (wrap64 (x5+1))) else (some false))) else (none)) else (none)) else (some true)
def laws_eqIntSS.f (k:Nat) (l0:List (List Int)) (l1:List (List Int)):Option (Bool):=if (l0.length:Int)=(l1.length:Int) then (laws_eqIntSS.l0 k l0 l1 0) else (some false)
def laws_eqLogic.f (k:Nat) (l0_0:List (List Int)) (l0_1:List Int) (l1_0:List (List Int)) (l1_1:List Int):Option (Bool):=(laws_eqIntSS.f k l0_0 l1_0).bind fun t253=>(if t253=true then ((laws_eqIntS.f k l0_1 l1_1).bind fun t254=>(if t254=true then (some true) else (some false))) else (some false))
def spec_l5With.f (k:Nat) (l0_0:List (List Int)) (l0_1:List Int) (a1:Int) (a2:Int):Option (Bool):=(spec_l1Meet.f k l0_0 a1 a2).bind fun t317=>(if 0≤a2 then (if a2<(l0_1.length:Int) then ((spec_l1Meet.f k l0_0 a1 (rd l0_1 a2)).bind fun t319=>((spec_l1Join.f k l0_0 t317 t319).bind fun t320=>(some (t320==a1)))) else (none)) else (none))
mutual
def spec_CentreOf.l0:Nat→List Int→Int→List (List Int)→List Int→Option (List Int)
 | 0,_,_,_,_=>none
 | k+1,x3,x4,x322000,x322001=>if x4<(x322001.length:Int) then ((spec_LogicOk.f k x322000 x322001).bind fun t325=>(spec_CentreOf.j1 k x3 x4 t325 x322000 x322001)) else (spec_CentreOf.j1 k x3 x4 false x322000 x322001)
def spec_CentreOf.j1:Nat→List Int→Int→Bool→List (List Int)→List Int→Option (List Int)
 | 0,_,_,_,_,_=>none
 | k+1,x3,x4,x16,x322000,x322001=>if x16=true then (spec_CentreOf.l1 k x3 x4 true 0 x322000 x322001) else (some x3)
def spec_CentreOf.l1:Nat→List Int→Int→Bool→Int→List (List Int)→List Int→Option (List Int)
 | 0,_,_,_,_,_,_=>none
 | k+1,x3,x4,x5,x6,x322000,x322001=>if x6<(x322001.length:Int) then (if x5=true then ((spec_l5With.f k x322000 x322001 x4 x6).bind fun t326=>(if t326=true then ((spec_l5With.f k x322000 x322001 x6 x4).bind fun t327=>(spec_CentreOf.l1 k x3 x4 t327 (wrap64 (x6+1)) x322000 x322001)) else (spec_CentreOf.l1 k x3 x4 false (wrap64 (x6+1)) x322000 x322001))) else (spec_CentreOf.l1 k x3 x4 false (wrap64 (x6+1)) x322000 x322001)) else (if x5=true then (if x3.length<17592186044416 then (spec_CentreOf.l0 k (x3 ++ [x4]) (wrap64 (x4+1)) x322000 x322001) else (none)) else (spec_CentreOf.l0 k x3 (wrap64 (x4+1)) x322000 x322001))
end
def spec_CentreOf.f (k:Nat) (l0_0:List (List Int)) (l0_1:List Int):Option (List Int):=spec_CentreOf.l0 k (([]:List Int)) 0 l0_0 l0_1
def laws_markIntS.l0:Nat→List Int→Int→Int→Option (Int × List Int)
 | 0,_,_,_=>none
 | k+1,x0,x1,x5=>if x5<(x0.length:Int) then (if 0≤x5 then (laws_markIntS.l0 k (x0.set (x5:Int).toNat x1) (wrap64 (x1+1)) (wrap64 (x5+1))) else (none)) else (some (x1,x0))
def laws_markIntS.f (k:Nat) (l0:List Int) (a1:Int):Option (Int × List Int):=laws_markIntS.l0 k l0 a1 0
def laws_heldIntS.l0:Nat→List Int→Int→Int→Option (Int)
 | 0,_,_,_=>none
 | k+1,x0,x1,x5=>if x5<(x0.length:Int) then (if 0≤x5 then (if (rd x0 x5)=x1 then (laws_heldIntS.l0 k x0 (wrap64 (x1+1)) (wrap64 (x5+1))) else (some (-1))) else (none)) else (some x1)
def laws_heldIntS.f (k:Nat) (l0:List Int) (a1:Int):Option (Int):=laws_heldIntS.l0 k l0 a1 0
def impl_has.f (a0:Int) (a1:Int):Option (Bool):=if 0≤a1 then (some ((Go.bits .and .i64 (shr .i64 a0 a1) 1)==1)) else (none)
mutual
def spec_SubOk.j0:Nat→Int→Int→Bool→List (List Int)→List Int→Option (Bool)
 | 0,_,_,_,_,_=>none
 | k+1,x1,x5,x21,x398000,x398001=>if x21=true then (some false) else (spec_SubOk.l0 k x1 x5 0 x398000 x398001)
def spec_SubOk.l0:Nat→Int→Int→Int→List (List Int)→List Int→Option (Bool)
 | 0,_,_,_,_,_=>none
 | k+1,x1,x5,x6,x398000,x398001=>if x6<x5 then (if 0≤x6 then (if (Int.tmod (shr .i64 x1 x6) 2)=0 then (spec_SubOk.l0 k x1 x5 (wrap64 (x6+1)) x398000 x398001) else (spec_SubOk.l1 k x1 x5 x6 0 x398000 x398001)) else (none)) else (some true)
def spec_SubOk.l1:Nat→Int→Int→Int→Int→List (List Int)→List Int→Option (Bool)
 | 0,_,_,_,_,_,_=>none
 | k+1,x1,x5,x6,x7,x398000,x398001=>if x7<x5 then (if 0≤x7 then (if (Int.tmod (shr .i64 x1 x7) 2)=1 then ((spec_l1Meet.f k x398000 x6 x7).bind fun t400=>(if 0≤t400 then (if (Int.tmod (shr .i64 x1 t400) 2)=0 then (some false) else (spec_SubOk.l1 k x1 x5 x6 (wrap64 (x7+1)) x398000 x398001)) else (none))) else (spec_SubOk.l1 k x1 x5 x6 (wrap64 (x7+1)) x398000 x398001)) else (none)) else (if 0≤x6 then (if x6<(x398001.length:Int) then (if 0≤(rd x398001 x6) then (if (Int.tmod (shr .i64 x1 (rd x398001 x6)) 2)=0 then (some false) else (spec_SubOk.l0 k x1 x5 (wrap64 (x6+1)) x398000 x398001)) else (none)) else (none)) else (none))
end
def spec_SubOk.f (k:Nat) (l0_0:List (List Int)) (l0_1:List Int) (a1:Int):Option (Bool):=(spec_LogicOk.f k l0_0 l0_1).bind fun t398=>(if t398=true then ((spec_l1In.f a1 1 (wrap64 ((shl .i64 1 (l0_1.length:Int))-1))).bind fun t399=>(spec_SubOk.j0 k a1 (l0_1.length:Int) (!t399) l0_0 l0_1)) else (spec_SubOk.j0 k a1 (l0_1.length:Int) true l0_0 l0_1))
mutual
def spec_PartOf.l0:Nat→Int→List Int→Int→List (List Int)→List Int→Option ((List (List Int)) × List Int)
 | 0,_,_,_,_,_=>none
 | k+1,x1,x6,x7,x457000,x457001=>if x7<(x457001.length:Int) then (if 0≤x7 then (if (Int.tmod (shr .i64 x1 x7) 2)=1 then (if x6.length<17592186044416 then (spec_PartOf.l0 k x1 (x6 ++ [x7]) (wrap64 (x7+1)) x457000 x457001) else (none)) else (spec_PartOf.l0 k x1 x6 (wrap64 (x7+1)) x457000 x457001)) else (none)) else (spec_PartOf.l1 k x6 0 x457000 x457001 ([]:List (List Int)) ([]:List Int))
def spec_PartOf.l1:Nat→List Int→Int→List (List Int)→List Int→List (List Int)→List Int→Option ((List (List Int)) × List Int)
 | 0,_,_,_,_,_,_=>none
 | k+1,x6,x8,x457000,x457001,x459000,x459001=>if x8<(x6.length:Int) then (spec_PartOf.l2 k x6 x8 (([]:List Int)) 0 x457000 x457001 x459000 x459001) else (some (x459000,x459001))
def spec_PartOf.l2:Nat→List Int→Int→List Int→Int→List (List Int)→List Int→List (List Int)→List Int→Option ((List (List Int)) × List Int)
 | 0,_,_,_,_,_,_,_,_=>none
 | k+1,x6,x8,x9,x10,x457000,x457001,x459000,x459001=>if x10<(x6.length:Int) then (if 0≤x8 then (if x8<(x6.length:Int) then (if 0≤(rd x6 x8) then (if (rd x6 x8)<(x457000.length:Int) then (if 0≤x10 then (if 0≤(rd x6 x10) then (if (rd x6 x10)<((rd_L1 x457000 (rd x6 x8)).length:Int) then (if x9.length<17592186044416 then ((some (x9 ++ [rd (rd_L1 x457000 (rd x6 x8)) (rd x6 x10)]:List Int)).bind fun y473=>(if (rd x6 x8)<(x457001.length:Int) then (if (rd x457001 (rd x6 x8))=(rd x6 x10) then (if x459001.length<17592186044416 then (spec_PartOf.l2 k x6 x8 y473 (wrap64 (x10+1)) x457000 x457001 x459000 (x459001 ++ [x10])) else (none)) else (spec_PartOf.l2 k x6 x8 y473 (wrap64 (x10+1)) x457000 x457001 x459000 x459001)) else (none))) else (none)) else (none)) else (none)) else (none)) else (none)) else (none)) else (none)) else (none)) else (if x459000.length<5864062014805 then (spec_PartOf.l1 k x6 (wrap64 (x8+1)) x457000 x457001 (x459000 ++ [x9]) x459001) else (none))
end
def spec_PartOf.f (k:Nat) (l0_0:List (List Int)) (l0_1:List Int) (a1:Int):Option ((List (List Int)) × List Int):=(spec_SubOk.f k l0_0 l0_1 a1).bind fun t459=>(if t459=true then (spec_PartOf.l0 k a1 (([]:List Int)) 0 l0_0 l0_1) else (some (([]:List (List Int)),([]:List Int))))
def laws_heldIntSS.l0:Nat→List (List Int)→Int→Int→Option (Int)
 | 0,_,_,_=>none
 | k+1,x0,x1,x5=>if x5<(x0.length:Int) then (if 0≤x5 then ((laws_heldIntS.f k (rd_L1 x0 x5) x1).bind fun t486=>(if t486<0 then (some (-1)) else (laws_heldIntSS.l0 k x0 t486 (wrap64 (x5+1))))) else (none)) else (some x1)
def laws_heldIntSS.f (k:Nat) (l0:List (List Int)) (a1:Int):Option (Int):=laws_heldIntSS.l0 k l0 a1 0
def laws_heldLogic.f (k:Nat) (l0_0:List (List Int)) (l0_1:List Int) (a1:Int):Option (Int):=(laws_heldIntSS.f k l0_0 a1).bind fun t488=>(if t488<0 then (some (-1)) else ((laws_heldIntS.f k l0_1 t488).bind fun t489=>(if t489<0 then (some (-1)) else (some t489))))
mutual
def spec_TimesOf.j0:Nat→Int→Int→Bool→List (List Int)→List Int→List (List Int)→List Int→Option ((List (List Int)) × List Int × Bool)
 | 0,_,_,_,_,_,_,_=>none
 | k+1,x6,x7,x31,x528000,x528001,x529000,x529001=>if x31=true then (some (([]:List (List Int)),([]:List Int),false)) else (spec_TimesOf.l0 k x6 x7 0 x528000 x528001 x529000 x529001 ([]:List (List Int)) ([]:List Int))
def spec_TimesOf.l0:Nat→Int→Int→Int→List (List Int)→List Int→List (List Int)→List Int→List (List Int)→List Int→Option ((List (List Int)) × List Int × Bool)
 | 0,_,_,_,_,_,_,_,_,_=>none
 | k+1,x6,x7,x9,x528000,x528001,x529000,x529001,x533000,x533001=>if x9<(wrap64 (x6*x7)) then (spec_TimesOf.l1 k x6 x7 x9 (([]:List Int)) 0 x528000 x528001 x529000 x529001 x533000 x533001) else (some (x533000,x533001,true))
def spec_TimesOf.l1:Nat→Int→Int→Int→List Int→Int→List (List Int)→List Int→List (List Int)→List Int→List (List Int)→List Int→Option ((List (List Int)) × List Int × Bool)
 | 0,_,_,_,_,_,_,_,_,_,_,_=>none
 | k+1,x6,x7,x9,x10,x11,x528000,x528001,x529000,x529001,x533000,x533001=>if x11<(wrap64 (x6*x7)) then (if x7=0 then (none) else (if 0≤(wrap64 (Int.tdiv x9 x7)) then (if (wrap64 (Int.tdiv x9 x7))<(x528000.length:Int) then (if 0≤(wrap64 (Int.tdiv x11 x7)) then (if (wrap64 (Int.tdiv x11 x7))<((rd_L1 x528000 (wrap64 (Int.tdiv x9 x7))).length:Int) then (if 0≤(Int.tmod x9 x7) then (if (Int.tmod x9 x7)<(x529000.length:Int) then (if 0≤(Int.tmod x11 x7) then (if (Int.tmod x11 x7)<((rd_L1 x529000 (Int.tmod x9 x7)).length:Int) then (if x10.length<17592186044416 then (spec_TimesOf.l1 k x6 x7 x9 (x10 ++ [wrap64 ((rd (rd_L1 x528000 (wrap64 (Int.tdiv x9 x7))) (wrap64 (Int.tdiv x11 x7)))*(rd (rd_L1 x529000 (Int.tmod x9 x7)) (Int.tmod x11 x7)))]) (wrap64 (x11+1)) x528000 x528001 x529000 x529001 x533000 x533001) else (none)) else (none)) else (none)) else (none)) else (none)) else (none)) else (none)) else (none)) else (none))) else (if x533000.length<5864062014805 then (if x7=0 then (none) else (if 0≤(wrap64 (Int.tdiv x9 x7)) then (if (wrap64 (Int.tdiv x9 x7))<(x528001.length:Int) then (if 0≤(Int.tmod x9 x7) then (if (Int.tmod x9 x7)<(x529001.length:Int) then (if x533001.length<17592186044416 then (spec_TimesOf.l0 k x6 x7 (wrap64 (x9+1)) x528000 x528001 x529000 x529001 (x533000 ++ [x10]) (x533001 ++ [wrap64 ((wrap64 ((rd x528001 (wrap64 (Int.tdiv x9 x7)))*x7))+(rd x529001 (Int.tmod x9 x7)))])) else (none)) else (none)) else (none)) else (none)) else (none))) else (none))
end
def spec_TimesOf.f (k:Nat) (l0_0:List (List Int)) (l0_1:List Int) (l1_0:List (List Int)) (l1_1:List Int):Option ((List (List Int)) × List Int × Bool):=(spec_LogicOk.f k l0_0 l0_1).bind fun t530=>(if t530=true then ((spec_LogicOk.f k l1_0 l1_1).bind fun t531=>(if t531=true then (spec_TimesOf.j0 k (l0_1.length:Int) (l1_1.length:Int) (decide ((wrap64 ((l0_1.length:Int)*(l1_1.length:Int)))>12)) l0_0 l0_1 l1_0 l1_1) else (spec_TimesOf.j0 k (l0_1.length:Int) (l1_1.length:Int) true l0_0 l0_1 l1_0 l1_1))) else (spec_TimesOf.j0 k (l0_1.length:Int) (l1_1.length:Int) true l0_0 l0_1 l1_0 l1_1))
mutual
def spec_Renamed.j0:Nat→List Int→Bool→List (List Int)→List Int→Option ((List (List Int)) × List Int)
 | 0,_,_,_,_=>none
 | k+1,x1,x23,x613000,x613001=>if x23=true then (some (([]:List (List Int)),([]:List Int))) else (if 0≤(x1.length:Int) then (if ((x1.length:Int):Int).toNat≤35184372088832 then (spec_Renamed.l0 k x1 (List.replicate ((x1.length:Int):Int).toNat 0) 0 0 x613000 x613001) else (none)) else (none))
def spec_Renamed.l0:Nat→List Int→List Int→Int→Int→List (List Int)→List Int→Option ((List (List Int)) × List Int)
 | 0,_,_,_,_,_,_=>none
 | k+1,x1,x6,x7,x8,x613000,x613001=>if x8<(x1.length:Int) then (if 0≤x8 then ((spec_l1In.f (rd x1 x8) 0 (wrap64 ((x1.length:Int)-1))).bind fun t620=>(if t620=true then (if 0≤(rd x1 x8) then (if (rd x1 x8)<(x6.length:Int) then (spec_Renamed.l0 k x1 (x6.set ((rd x1 x8):Int).toNat x8) (Go.bits .or .i64 x7 (shl .i64 1 (rd x1 x8))) (wrap64 (x8+1)) x613000 x613001) else (none)) else (none)) else (some (([]:List (List Int)),([]:List Int))))) else (none)) else (if x7=(wrap64 ((shl .i64 1 (x1.length:Int))-1)) then (spec_Renamed.l1 k x1 x6 0 x613000 x613001 ([]:List (List Int)) ([]:List Int)) else (some (([]:List (List Int)),([]:List Int))))
def spec_Renamed.l1:Nat→List Int→List Int→Int→List (List Int)→List Int→List (List Int)→List Int→Option ((List (List Int)) × List Int)
 | 0,_,_,_,_,_,_,_=>none
 | k+1,x1,x6,x9,x613000,x613001,x615000,x615001=>if x9<(x1.length:Int) then (spec_Renamed.l2 k x1 x6 x9 (([]:List Int)) 0 x613000 x613001 x615000 x615001) else (some (x615000,x615001))
def spec_Renamed.l2:Nat→List Int→List Int→Int→List Int→Int→List (List Int)→List Int→List (List Int)→List Int→Option ((List (List Int)) × List Int)
 | 0,_,_,_,_,_,_,_,_,_=>none
 | k+1,x1,x6,x9,x10,x11,x613000,x613001,x615000,x615001=>if x11<(x1.length:Int) then (if 0≤x9 then (if x9<(x1.length:Int) then (if 0≤(rd x1 x9) then (if (rd x1 x9)<(x613000.length:Int) then (if 0≤x11 then (if 0≤(rd x1 x11) then (if (rd x1 x11)<((rd_L1 x613000 (rd x1 x9)).length:Int) then (if x10.length<17592186044416 then (spec_Renamed.l2 k x1 x6 x9 (x10 ++ [rd (rd_L1 x613000 (rd x1 x9)) (rd x1 x11)]) (wrap64 (x11+1)) x613000 x613001 x615000 x615001) else (none)) else (none)) else (none)) else (none)) else (none)) else (none)) else (none)) else (none)) else (if x615000.length<5864062014805 then (if 0≤x9 then (if x9<(x1.length:Int) then (if 0≤(rd x1 x9) then (if (rd x1 x9)<(x613001.length:Int) then (if 0≤(rd x613001 (rd x1 x9)) then (if (rd x613001 (rd x1 x9))<(x6.length:Int) then (if x615001.length<17592186044416 then (spec_Renamed.l1 k x1 x6 (wrap64 (x9+1)) x613000 x613001 (x615000 ++ [x10]) (x615001 ++ [rd x6 (rd x613001 (rd x1 x9))])) else (none)) else (none)) else (none)) else (none)) else (none)) else (none)) else (none)) else (none))
end
def spec_Renamed.f (k:Nat) (l0_0:List (List Int)) (l0_1:List Int) (l1:List Int):Option ((List (List Int)) × List Int):=(spec_LogicOk.f k l0_0 l0_1).bind fun t615=>(if t615=true then (spec_Renamed.j0 k l1 ((l1.length:Int) != (l0_1.length:Int)) l0_0 l0_1) else (spec_Renamed.j0 k l1 true l0_0 l0_1))
def impl_Renamed.f (l0_0:List (List Int)) (l0_1:List Int) (l1:List Int):Option ((List (List Int)) × List Int):=if (l1.all fun x=>(Lit.int .i64 x).wf)=true then some (renF l0_0 l0_1 l1) else none
def spec_RingOf.f (a0:Int):Option ((List (List Int)) × List Int × Bool):=if a0=6 then (some ((([(([1,1,1,1,1,1]:List Int)),(([0,1,1,0,0,1]:List Int)),(([0,0,1,0,0,1]:List Int)),(([0,0,0,1,1,1]:List Int)),(([0,0,0,0,1,1]:List Int)),(([0,0,0,0,0,1]:List Int))]:List (List Int))),(([5,4,3,2,1,0]:List Int)),true)) else (some (([]:List (List Int)),([]:List Int),false))
mutual
def spec_SetsOf.l0:Nat→Int→Int→List (List Int)→List Int→Option ((List (List Int)) × List Int × Bool)
 | 0,_,_,_,_=>none
 | k+1,x0,x5,x734000,x734001=>if 0≤x0 then (if x5<(shl .i64 1 x0) then (spec_SetsOf.l1 k x0 x5 (([]:List Int)) 0 x734000 x734001) else (some (x734000,x734001,true))) else (none)
def spec_SetsOf.l1:Nat→Int→Int→List Int→Int→List (List Int)→List Int→Option ((List (List Int)) × List Int × Bool)
 | 0,_,_,_,_,_,_=>none
 | k+1,x0,x5,x6,x7,x734000,x734001=>if 0≤x0 then (if x7<(shl .i64 1 x0) then (if (Go.bits .and .i64 x5 x7)=x5 then (if x6.length<17592186044416 then (spec_SetsOf.l1 k x0 x5 (x6 ++ [1]) (wrap64 (x7+1)) x734000 x734001) else (none)) else (if x6.length<17592186044416 then (spec_SetsOf.l1 k x0 x5 (x6 ++ [0]) (wrap64 (x7+1)) x734000 x734001) else (none))) else (if x734000.length<5864062014805 then (if x734001.length<17592186044416 then (spec_SetsOf.l0 k x0 (wrap64 (x5+1)) (x734000 ++ [x6]) (x734001 ++ [wrap64 ((wrap64 ((shl .i64 1 x0)-1))-x5)])) else (none)) else (none))) else (none)
end
def spec_SetsOf.f (k:Nat) (a0:Int):Option ((List (List Int)) × List Int × Bool):=(spec_l1In.f a0 0 3).bind fun t734=>(if t734=true then (spec_SetsOf.l0 k a0 0 ([]:List (List Int)) ([]:List Int)) else (some (([]:List (List Int)),([]:List Int),false)))
def spec_NoOf.f (k:Nat) (l0_0:List (List Int)) (l0_1:List Int):Option (Int):=(spec_LogicOk.f k l0_0 l0_1).bind fun t768=>(if t768=true then ((spec_LeastOf.f k l0_0).bind fun bt769=>(some bt769.1)) else (some (-1)))
def spec_l2Both.f (k:Nat) (l0_0:List (List Int)) (l0_1:List Int) (a1:Int) (a2:Int):Option (Bool):=(spec_LogicOk.f k l0_0 l0_1).bind fun t772=>(if t772=true then ((spec_l1In.f a1 0 (wrap64 ((l0_1.length:Int)-1))).bind fun t773=>(if t773=true then ((spec_l1In.f a2 0 (wrap64 ((l0_1.length:Int)-1))).bind fun t774=>(some t774)) else (some false))) else (some false))
def spec_NotOf.f (k:Nat) (l0_0:List (List Int)) (l0_1:List Int) (a1:Int):Option (Int):=(spec_l2Both.f k l0_0 l0_1 a1 a1).bind fun t776=>(if t776=true then (if 0≤a1 then (if a1<(l0_1.length:Int) then (some (rd l0_1 a1)) else (none)) else (none)) else (some (-1)))
def spec_YesOf.f (k:Nat) (l0_0:List (List Int)) (l0_1:List Int):Option (Int):=(spec_NoOf.f k l0_0 l0_1).bind fun t779=>((spec_NotOf.f k l0_0 l0_1 t779).bind fun t780=>(some t780))
def spec_l3Inner.l0:Nat→List Int→Int→List (List Int)→List Int→Option (List Int)
 | 0,_,_,_,_=>none
 | k+1,x3,x4,x782000,x782001=>if x4<(x782001.length:Int) then ((spec_NoOf.f k x782000 x782001).bind fun t785=>(if x4=t785 then (spec_l3Inner.l0 k x3 (wrap64 (x4+1)) x782000 x782001) else ((spec_YesOf.f k x782000 x782001).bind fun t786=>(if x4=t786 then (spec_l3Inner.l0 k x3 (wrap64 (x4+1)) x782000 x782001) else (if x3.length<17592186044416 then (spec_l3Inner.l0 k (x3 ++ [x4]) (wrap64 (x4+1)) x782000 x782001) else (none)))))) else (some x3)
def spec_l3Inner.f (k:Nat) (l0_0:List (List Int)) (l0_1:List Int):Option (List Int):=spec_l3Inner.l0 k (([]:List Int)) 0 l0_0 l0_1
def spec_GluedOf.f (l0_0:List (List Int)) (l0_1:List Int) (l1_0:List (List Int)) (l1_1:List Int):Option ((List (List Int)) × List Int × Bool):=if l0_1.length≤1048576∧l1_1.length≤1048576 then some (gluedF l0_0 l0_1 l1_0 l1_1) else none
def impl_GluedOf.f (l0_0:List (List Int)) (l0_1:List Int) (l1_0:List (List Int)) (l1_1:List Int):Option ((List (List Int)) × List Int × Bool):=some (gluedF l0_0 l0_1 l1_0 l1_1)
end Go.Proofs.Ytlkibgccgkhdmaa.P

namespace Go.Proofs.Ytlkibgccgkhdmaa.P
open Go.RowKit Go.Proofs.YtlkibgccgkhdmaaW.PrintWords Go.Proofs.YtlkibgccgkhdmaaW.PrintLast Go.Proofs.YtlkibgccgkhdmaaW.PrintMore
attribute [local go_sem] max2_int min2_int max_two min_two max_three min_three max_four min_four
set_option linter.unusedVariables false
set_option linter.unusedSimpArgs false
theorem info3:(Try.prog.info? 3).map (fun i=>(i.zero,i.size,i.bytes))=some (some (.int .i64 0),1,8):=by kernel_rfl
theorem info23:(Try.prog.info? 23).map (fun i=>(i.zero,i.size,i.bytes))=some (some (.slice none 0 0),1,24):=by kernel_rfl
end Go.Proofs.Ytlkibgccgkhdmaa.P

namespace Go.Proofs.Ytlkibgccgkhdmaa.P
open Go.RowKit Go.Proofs.YtlkibgccgkhdmaaW.PrintWords Go.Proofs.YtlkibgccgkhdmaaW.PrintLast Go.Proofs.YtlkibgccgkhdmaaW.PrintMore
set_option linter.unusedVariables false
def bA (n m:Nat):Array Bool:=((List.range n).map fun i=>m.testBit i).toArray
section
variable {P:Program} {md:Region.Mode} {ops:Array Oper} {Q:Exit→Act→World→Prop} {S:World→Prop} {ds:List Nat} {i:Nat} {N:Option Tmp} {oi:Oper} {v:Value} {fuel:Nat} {l:Array Bool} {a a':Act} {w:World}
theorem pu_ (l':Array Bool) (h:wpAnyLast P md ops Q S ds fuel l' a' w) (hi:ops[i]?=some oi:=by rfl) (hN:oi.dst=N:=by rfl) (hc:anyB md ops l l' i=true:=by first|exact any_of HT_.out (by kernel_rfl)|kernel_rfl)
    (hQ : ∀ c a w,Q (.panic c) (a.put oi.dst v) w→Q (.panic c) a w:=by exact fun _ _ _ h=>h)
    (hy:Yields P ops oi v a:=by (refine Or.inl ⟨by rfl,?_⟩;intro w';go_simp;with_reducible rfl))
    (ha:a.put N v=a':=by (simp only [Act.put,List.setIfInBounds_toArray,List.set_cons_zero,List.set_cons_succ,i64_w,i32_w];rfl))
     : wpAnyLast P md ops Q S ds (fuel+1) l a w:=pure_ l' hi hN hc hQ hy ha h
theorem of_ (l':Array Bool) (h:wpAnyLast P md ops Q S ds fuel l' a' w) (hi:ops[i]?=some oi:=by rfl) (hN:oi.dst=N:=by rfl) (hc:anyB md ops l l' i=true:=by first|exact any_of HT_.out (by kernel_rfl)|kernel_rfl)
    (hQ : ∀ c a w,Q (.panic c) (a.put oi.dst undef) w→Q (.panic c) a w:=by exact fun _ _ _ h=>h)
    (hy:Yields P ops oi undef a:=by exact Or.inr ⟨by rfl,rfl⟩)
    (ha:a.put N undef=a':=by (simp only [Act.put,List.setIfInBounds_toArray,List.set_cons_zero,List.set_cons_succ,i64_w,i32_w];rfl))
     : wpAnyLast P md ops Q S ds (fuel+1) l a w:=pure_ l' hi hN hc hQ hy ha h
theorem tk_ (l':Array Bool) (h:wpAnyLast P md ops Q S ds fuel l' a' w) (hi:ops[i]?=some oi:=by rfl) (hN:oi.dst=N:=by rfl) (hc:takeB md ops ds l l' i=true:=by first|exact take_ofW HT_.out HW_.out (by kernel_rfl)|kernel_rfl)
    (hQ : ∀ c a w,Q (.panic c) (a.put oi.dst v) w→Q (.panic c) a w:=by exact fun _ _ _ h=>h)
    (hy:YieldsIf P ops S oi v a:=by (refine Or.inl ⟨by rfl,?_⟩;intro w' hs_;(repeat (obtain ⟨_,hs_⟩:=hs_));go_simp;with_reducible rfl)) (hS:S w:=by exact hHeld)
    (ha:a.put N v=a':=by (simp only [Act.put,List.setIfInBounds_toArray,List.set_cons_zero,List.set_cons_succ,i64_w,i32_w];rfl))
     : wpAnyLast P md ops Q S ds (fuel+1) l a w:=take_ l' hi hN hc hQ hy hS ha h
theorem no_ (h:wpAnyLast P md ops Q S ds fuel l a' w) (h0:a.put N v=a':=by (simp only [Act.put,List.setIfInBounds_toArray,List.set_cons_zero,List.set_cons_succ,i64_w,i32_w];rfl))  : wpAnyLast P md ops Q S ds fuel l (a.put N v) w:=norm_ h0 h
end
section
variable {P:Program} {ops:Array Oper} {rest:List Oper} {o:Oper} {a:Act} {Q:Exit→Act→World→Prop}
theorem bx_ {W:World} {N:Tmp} {cs:Array Value} {t:TypeId} (h : ∀ g,g=W.heap.size→∀ w1,w1.heap[g]?=some (.cells cs t (0,0))→Below W.heap.size W w1→wpList P ops Q rest (a.put o.dst (.pointer (some ⟨g,0,none⟩))) w1) (hd:o.dst=some N:=by rfl) (hgd:o.guard=none:=by rfl)
    (hrun:(execOp a.eval o).run P W = .ok (.value (.pointer (some ⟨W.heap.size,0,none⟩))) (W.alloc (.cells cs t (0,0))):=by first|(go_simp;done)|(go_simp;rfl))
     : wpList P ops Q (o::rest) a W:=box_event hgd hd hrun h
theorem gl_ {w:World} (N:Option Tmp) {f:FuncId} {fn:Func} (hf:P.funcs[f]?=some fn) {as_:Array Operand} {ts:Array TypeId} (args:Array Value) (h:Calls P f args w fun e w'=>∃ v,e = .returned v∧wpList P ops Q rest (a.put N v) w') (hd:o.dst=N:=by rfl) (hg:o.guard=none:=by rfl) (hname:(fn.name == "runtime.NumGoroutine")=false:=by kernel_rfl) (hb:fn.body.isSome=true:=by rfl)
    (hop:o.op = .call { callee:=.value (.func f),args:=as_,argTypes:=ts }:=by rfl) (hargs:as_.map a.eval=args:=by (try simp only [List.map_toArray,List.map_cons,List.map_nil]);first|done|rfl|(simp only [List.length_drop,List.length_take];rfl))
     : wpList P ops Q (o::rest) a w:=goesL_ N hd hg hf hname hb args hop hargs h
theorem ge_ {w:World} {N:Option Tmp} {K:Act→World→Prop} {f:FuncId} {fn:Func} {as_:Array Operand} {ts:Array TypeId} (hf:P.funcs[f]?=some fn) (args:Array Value) (h:Calls P f args w fun e w'=>∃ v,e = .returned v∧K (a.put N v) w') (hname:(fn.name == "runtime.NumGoroutine")=false:=by kernel_rfl) (hb:fn.body.isSome=true:=by rfl)
    (hw:Region.wanted o (yielded ops a.tmps)=true:=by rfl) (hN:o.dst=N:=by rfl) (hop:o.op = .call { callee:=.value (.func f),args:=as_,argTypes:=ts }:=by rfl) (hargs:as_.map a.eval=args:=by (try simp only [List.map_toArray,List.map_cons,List.map_nil]);first|done|rfl|(simp only [List.length_drop,List.length_take];rfl))
     : if Region.wanted o (yielded ops a.tmps)=true then Oper.wp P o a w K Q else K (a.put N undef) w:=goes_ hf hname hb args hw hN hop hargs h
end
theorem cz20 {w:World} {g:Nat} {t:TypeId} {x y:Value} (h:w.heap[g]?=some (.cells #[x,y] t (0,0))):w.cell? ⟨g,0,none⟩=some x:=(blk_cell h 0).trans rfl
theorem cz21 {w:World} {g:Nat} {t:TypeId} {x y:Value} (h:w.heap[g]?=some (.cells #[x,y] t (0,0))):w.cell? ⟨g,1,none⟩=some y:=(blk_cell h 1).trans rfl
theorem y1 {p q:Prop} (h0:p) (h:p→q:=by intro y0_;(repeat (first|exact (Kd.S_reads' y0_).2.2|exact (Kd.Q_reads' y0_).2.2|exact (Kd.R_reads' y0_).2.2|exact (Kd.N_reads' y0_).2.2|(with_reducible refine Kd.C_alloc ?_ _)|(with_reducible refine Kd.C_drewN ?_ _)|(with_reducible refine Kd.C_drew ?_)))):q:=h h0
theorem y2 {p q:Prop} (h0:p) (h:p→q:=by intro y0_;first|exact (Kd.S_reads' y0_).2.1|exact (Kd.Q_reads' y0_).2.1|exact (Kd.R_reads' y0_).2.1|exact (Kd.N_reads' y0_).2.1):q:=h h0
theorem y3 {p r q:Prop} (h0:p) (h1:r) (h:p→r→q:=by intro y0_ y1_;(repeat (first|exact (Kd.C_below y0_ y1_)|(with_reducible refine Kd.C_alloc ?_ _)|(with_reducible refine Kd.C_drewN ?_ _)|(with_reducible refine Kd.C_drew ?_)))):q:=h h0 h1
theorem y4 {p q:Prop} (h0:p) (h:p→q:=by intro y0_;(repeat (first|exact y0_|(with_reducible refine Kd.C_alloc ?_ _)|(with_reducible refine Kd.C_drewN ?_ _)|(with_reducible refine Kd.C_drew ?_)))):q:=h h0
theorem bd_ {α β:Type} {o:Option α} {f:α→Option β} {r:β} (h:o.bind f=some r) : ∃ a,Aside0 (o=some a)∧f a=some r :=
 match Option.bind_eq_some_iff.mp h with|⟨a,h1,h2⟩=>⟨a,⟨h1⟩,h2⟩
theorem nf_ : ¬(false=true):=by decide
section
variable {α:Type} [BEq α] [LawfulBEq α] {a b:α}
theorem bt_ (h:a=b):(a==b)=true:=beq_iff_eq.mpr h
theorem bu_ (h:a=b):(a != b)=false:=bne_eq_false_iff_eq.mpr h
theorem bv_ (h : ¬a=b):(a==b)=false:=beq_eq_false_iff_ne.mpr h
theorem bw_ (h : ¬a=b):(a != b)=true:=bne_iff_ne.mpr h
end
theorem dT_ {p:Prop} [Decidable p] (h:p):decide p=true:=decide_eq_true h
theorem dF_ {p:Prop} [Decidable p] (h : ¬p):decide p=false:=decide_eq_false h
section
variable {α:Type} {p q:Prop}
theorem ok_ [Decidable p] {x:Option α} {r:α} (h:(if p then x else none)=some r):p∧x=some r:=by
 by_cases k:p
 ·rw [if_pos k] at h
  exact ⟨k,h⟩
 ·rw [if_neg k] at h
  exact absurd h (by simp)
theorem od_ [Decidable p] {x:Option α} {r:α} (h:(if p then x else none)=some r):decide p=true∧x=some r:=⟨decide_eq_true (ok_ h).1,(ok_ h).2⟩
theorem oe_ [Decidable p] (h:decide p=true):p:=of_decide_eq_true h
theorem oa_ [Decidable p] (h:decide p=true:=by first|(with_reducible assumption)|assumption):p:=of_decide_eq_true h
theorem xS (h0:p) (h:p→q:=by intro y0_;(with_reducible repeat (first|apply Kd.S_alloc|apply Kd.S_drewN|apply Kd.S_drew));exact y0_):q:=h h0
theorem xR (h0:p) (h:p→q:=by intro y0_;(with_reducible repeat (first|apply Kd.R_alloc|apply Kd.R_drewN|apply Kd.R_drew));exact y0_):q:=h h0
theorem xb (h0:p) (h:p→q:=by intro y0_;(with_reducible repeat (first|refine blk_drewN ?_ _|refine blk_drew ?_|refine blk_alloc ?_ _));exact y0_):q:=h h0
end
theorem al_ {w:World} {A:Option Addr} {n:Nat} {xs:List (List Int)} (h:Kd.C (Kd.slice 3 (Kd.int .i64)) w A n xs) (i:Int) (h0:decide (0≤i)=true:=by first|(with_reducible assumption)|assumption) (h1:decide (i<(n:Int))=true:=by first|(with_reducible assumption)|assumption) :
    ∃ ad A0 c0,A=some ad∧w.cell? (ad.add i.toNat)=some (.slice A0 (rd_L1 xs i).length c0)∧Aside0 ((rd_L1 xs i).length≤c0)∧Aside0 ((Kd.int .i64).C w A0 (rd_L1 xs i).length (rd_L1 xs i))∧((0≤i)=True)∧((i<(n:Int))=True):=by
  obtain ⟨ad,A0,c0,h2,h3,h4,h5⟩:=at_L1 h i (of_decide_eq_true h0) (of_decide_eq_true h1)
  exact ⟨ad,A0,c0,h2,h3,⟨h4⟩,⟨h5⟩,eq_true (of_decide_eq_true h0),eq_true (of_decide_eq_true h1)⟩
theorem ai_ {w:World} {A:Option Addr} {n:Nat} {k:IntKind} {xs:List Int} (h:(Kd.int k).C w A n xs) (i:Int) (h0:decide (0≤i)=true:=by first|(with_reducible assumption)|assumption) (h1:decide (i<(n:Int))=true:=by first|(with_reducible assumption)|assumption) :
    ∃ ad,A=some ad∧w.cell? (ad.add i.toNat)=some (.int k (rd xs i))∧((0≤i)=True)∧((i<(n:Int))=True):=by
  obtain ⟨ad,h2,h3⟩:=Kd.at_int h i (of_decide_eq_true h0) (of_decide_eq_true h1)
  exact ⟨ad,h2,h3,eq_true (of_decide_eq_true h0),eq_true (of_decide_eq_true h1)⟩
theorem ak {p:Prop} (h:p):Aside0 p:=⟨h⟩
theorem ij_ {α:Type} {a b:α} (h:some a=some b):a=b:=Option.some.inj h
theorem is_ {o:Option Value} {A B:Option Addr} {n m c d:Nat} (h:o=some (.slice A n c)) (k:o=some (.slice B m d)):A=B∧c=d:=by
 have e:=Option.some.inj (h.symm.trans k)
 injection e with e1 e2 e3
 exact ⟨e1,e3⟩
section
variable {α:Type} {p p2 p3 p4 p5 p6:Prop} [Decidable p] [Decidable p2] [Decidable p3] [Decidable p4] [Decidable p5] [Decidable p6] {x y:Option α} {r:α}
theorem od2 (h:(if p then if p2 then x else none else none)=some r):decide p=true∧decide p2=true∧x=some r:=⟨(od_ h).1,od_ (od_ h).2⟩
theorem od3 (h:(if p then if p2 then if p3 then x else none else none else none)=some r):decide p=true∧decide p2=true∧decide p3=true∧x=some r:=⟨(od_ h).1,od2 (od_ h).2⟩
theorem od4 (h:(if p then if p2 then if p3 then if p4 then x else none else none else none else none)=some r):decide p=true∧decide p2=true∧decide p3=true∧decide p4=true∧x=some r:=⟨(od_ h).1,od3 (od_ h).2⟩
theorem od5 (h:(if p then if p2 then if p3 then if p4 then if p5 then x else none else none else none else none else none)=some r):decide p=true∧decide p2=true∧decide p3=true∧decide p4=true∧decide p5=true∧x=some r:=⟨(od_ h).1,od4 (od_ h).2⟩
theorem od6 (h:(if p then if p2 then if p3 then if p4 then if p5 then if p6 then x else none else none else none else none else none else none)=some r):decide p=true∧decide p2=true∧decide p3=true∧decide p4=true∧decide p5=true∧decide p6=true∧x=some r:=⟨(od_ h).1,od5 (od_ h).2⟩
theorem os_ (h:(if p then x else y)=some r):decide p=true∧x=some r∨decide p=false∧y=some r:=by
 by_cases k:p
 ·rw [if_pos k] at h
  exact .inl ⟨decide_eq_true k,h⟩
 ·rw [if_neg k] at h
  exact .inr ⟨decide_eq_false k,h⟩
theorem oe2 {β:Type} [BEq β] [LawfulBEq β] {a b:β} [Decidable (a=b)] (h:(if a=b then x else y)=some r):(a=b∧(a==b)=true∧(a != b)=false)∧x=some r∨((¬a=b)∧(a==b)=false∧(a != b)=true)∧y=some r:=by
 by_cases k:a=b
 ·rw [if_pos k] at h
  exact .inl ⟨⟨k,bt_ k,bu_ k⟩,h⟩
 ·rw [if_neg k] at h
  exact .inr ⟨⟨k,bv_ k,bw_ k⟩,h⟩
end
section
variable {α:Type} {p:Prop} {x y:Option α} {r:α}
theorem op_ [Decidable p] (h:(if p then x else y)=some r):p∧x=some r∨¬p∧y=some r:=by
 by_cases k:p
 ·rw [if_pos k] at h
  exact .inl ⟨k,h⟩
 ·rw [if_neg k] at h
  exact .inr ⟨k,h⟩
theorem ox_ {b:Bool} (h:(if b=true then x else y)=some r):b=true∧x=some r∨b=false∧y=some r:=by
 cases b with
 | true=>exact .inl ⟨rfl,by rw [if_pos rfl] at h;exact h⟩
 | false=>exact .inr ⟨rfl,by rw [if_neg nf_] at h;exact h⟩
end
end Go.Proofs.Ytlkibgccgkhdmaa.P

namespace Go.Proofs.Ytlkibgccgkhdmaa.P
open Go.RowKit Go.Proofs.YtlkibgccgkhdmaaW.PrintWords Go.Proofs.YtlkibgccgkhdmaaW.PrintLast Go.Proofs.YtlkibgccgkhdmaaW.PrintMore
attribute [local go_sem] max2_int min2_int max_two min_two max_three min_three max_four min_four
set_option linter.unusedVariables false
set_option linter.unusedSimpArgs false
theorem z1_1 {p:Prop} (h:p:=by first|rfl|(simp;done)|(simp [*];done)):p:=h
theorem z1_0 {p:Prop} (h:p:=by repeat (first|exact Drawn0.refl _|apply Drawn0.step)):p:=h
set_option maxHeartbeats 8000000 in
set_option maxRecDepth 100000 in
theorem laws_eqIntS.calls (k:Nat) (A0:Option Addr) (c0:Nat) (l0:List Int) (A1:Option Addr) (c1:Nat) (l1:List Int) (r:Bool) (w:World) (hr0:Kd.C (Kd.int .i64) w A0 l0.length l0) (hc0:l0.length≤c0) (hr1:Kd.C (Kd.int .i64) w A1 l1.length l1) (hc1:l1.length≤c1) (h:laws_eqIntS.f k l0 l1=some r) :
 Calls Try.prog 24 #[.slice A0 l0.length c0,.slice A1 l1.length c1] w fun e w'=>e = .returned (.bool r)∧Drawn0 w w':=by
 have HR0:=ak hr0
 have b1:=ak hc0
 clear hr0 hc0
 have HR1:=ak hr1
 have b2:=ak hc1
 clear hr1 hc1
 have H:(if (l0.length:Int)=(l1.length:Int) then (laws_eqIntS.l0 k l0 l1 0) else (some false))=some r:=h
 clear h
 replace H:=oe2 H
 rcases H with ⟨⟨c3,a1,a2⟩,H⟩|⟨⟨c3,a1,a2⟩,H⟩
 ·
  have a3:(l0.length==l1.length)=true:=by first|simpa using c3|(simp at c3 ⊢;omega)
  clear c3
  have H':=ak H
  clear H
  go_enter Try.func24,Try.ntmps24
  go_wp2
  repeat (go_quiet (fail);try go_wp2)
  go_loopg [5] k (fun kq v5 w'=>∃ (a0:Int),v5 = .int .i64 a0∧Aside0 (laws_eqIntS.l0 kq l0 l1 a0=some r)∧Aside0 (kq≤k)∧Drawn0 w w')
  case atStart=>exact ⟨(0),z1_1,H',⟨Nat.le_refl _⟩,z1_0⟩
  case round =>
   clear H'
   try clear c1
   try clear c3
   try clear a1
   try clear a2
   try clear a3
   obtain ⟨a0,rfl,HA,HK1,⟨m1,rfl⟩⟩:=hrel
   cases gk with
   | zero=>exact absurd HA.out (by simp [laws_eqIntS.l0])
   | succ k1 =>
    have H:=HA.out
    clear HA
    simp only [laws_eqIntS.l0] at H
    replace H:=os_ H
    rcases H with ⟨a4,H⟩|⟨a4,H⟩
    ·
     replace H:=od2 H
     obtain ⟨a9,b0,H⟩:=H
     replace H:=oe2 H
     rcases H with ⟨⟨-,a5,a6⟩,H⟩|⟨⟨c7,a5,a6⟩,H⟩
     ·
      have H':=ak H
      clear H
      obtain ⟨ad246,e246,hx246_0,a7,q246⟩:=ai_ HR0.out a0
      cases e246
      obtain ⟨ad247,e247,hx247_0,a8,q247⟩:=ai_ HR1.out a0
      cases e247
      go_wp2
      repeat (go_quiet (fail);try go_wp2)
      go_roundg k1
      case measure=>have:=HK1.out;omega
      case rel=>exact ⟨(wrap64 (a0+1)),z1_1,H',⟨(by have:=HK1.out;omega)⟩,z1_0⟩
     obtain rfl:=Option.some.inj H
     obtain ⟨ad246,e246,hx246_0,a7,q246⟩:=ai_ HR0.out a0
     cases e246
     obtain ⟨ad247,e247,hx247_0,a8,q247⟩:=ai_ HR1.out a0
     cases e247
     go_wp2
     repeat (go_quiet (fail);try go_wp2)
     go_ret
     exact ⟨z1_1,z1_0⟩
    obtain rfl:=Option.some.inj H
    go_wp2
    repeat (go_quiet (fail);try go_wp2)
    go_ret
    exact ⟨z1_1,z1_0⟩
 have a3:(l0.length==l1.length)=false:=by first|simpa using c3|(simp at c3 ⊢;omega)
 obtain rfl:=Option.some.inj H
 go_enter Try.func24,Try.ntmps24
 go_wp2
 repeat (go_quiet (fail);try go_wp2)
 go_ret
 exact ⟨z1_1,z1_0⟩

end Go.Proofs.Ytlkibgccgkhdmaa.P

namespace Go.Proofs.Ytlkibgccgkhdmaa.P
open Go.RowKit Go.Proofs.YtlkibgccgkhdmaaW.PrintWords Go.Proofs.YtlkibgccgkhdmaaW.PrintLast Go.Proofs.YtlkibgccgkhdmaaW.PrintMore
attribute [local go_sem] max2_int min2_int max_two min_two max_three min_three max_four min_four
set_option linter.unusedVariables false
set_option linter.unusedSimpArgs false
theorem z2_1 {p:Prop} (h:p:=by first|rfl|(simp;done)|(simp [*];done)):p:=h
theorem z2_0 {p:Prop} (h:p:=by repeat (first|exact Drawn0.refl _|apply Drawn0.step)):p:=h
set_option maxHeartbeats 8000000 in
set_option maxRecDepth 100000 in
theorem laws_eqIntSS.calls (k:Nat) (A0:Option Addr) (c0:Nat) (l0:List (List Int)) (A1:Option Addr) (c1:Nat) (l1:List (List Int)) (r:Bool) (w:World) (hr0:Kd.C (Kd.slice 3 (Kd.int .i64)) w A0 l0.length l0) (hc0:l0.length≤c0) (hr1:Kd.C (Kd.slice 3 (Kd.int .i64)) w A1 l1.length l1) (hc1:l1.length≤c1) (h:laws_eqIntSS.f k l0 l1=some r) :
 Calls Try.prog 54 #[.slice A0 l0.length c0,.slice A1 l1.length c1] w fun e w'=>e = .returned (.bool r)∧Drawn0 w w':=by
 have HR0:=ak hr0
 have b6:=ak hc0
 clear hr0 hc0
 have HR1:=ak hr1
 have b7:=ak hc1
 clear hr1 hc1
 have H:(if (l0.length:Int)=(l1.length:Int) then (laws_eqIntSS.l0 k l0 l1 0) else (some false))=some r:=h
 clear h
 replace H:=oe2 H
 rcases H with ⟨⟨c3,a7,a8⟩,H⟩|⟨⟨c3,a7,a8⟩,H⟩
 ·
  have a9:(l0.length==l1.length)=true:=by first|simpa using c3|(simp at c3 ⊢;omega)
  clear c3
  have H':=ak H
  clear H
  go_enter Try.func54,Try.ntmps54
  go_wp2
  repeat (go_quiet (fail);try go_wp2)
  go_loopg [5] k (fun kq v5 w'=>∃ (a0:Int),v5 = .int .i64 a0∧Aside0 (laws_eqIntSS.l0 kq l0 l1 a0=some r)∧Aside0 (kq≤k)∧Drawn0 w w')
  case atStart=>exact ⟨(0),z2_1,H',⟨Nat.le_refl _⟩,z2_0⟩
  case round =>
   clear H'
   try clear c1
   try clear c3
   try clear a7
   try clear a8
   try clear a9
   obtain ⟨a0,rfl,HA,HK1,⟨m1,rfl⟩⟩:=hrel
   cases gk with
   | zero=>exact absurd HA.out (by simp [laws_eqIntSS.l0])
   | succ k1 =>
    have H:=HA.out
    clear HA
    simp only [laws_eqIntSS.l0] at H
    replace H:=os_ H
    rcases H with ⟨b0,H⟩|⟨b0,H⟩
    ·
     replace H:=od2 H
     obtain ⟨b3,b4,H⟩:=H
     obtain ⟨b5,A7,H⟩:=bd_ H
     try dsimp only at H
     replace H:=ox_ H
     rcases H with ⟨rfl,H⟩|⟨rfl,H⟩
     ·
      have H':=ak H
      clear H
      obtain ⟨ad248,a3,a4,e248,hx248_0,a1,HR248_0,b1,q248⟩:=al_ HR0.out a0
      cases e248
      obtain ⟨ad249,a5,a6,e249,hx249_0,a2,HR249_0,b2,q249⟩:=al_ HR1.out a0
      cases e249
      go_wp2_with (first|(go_at_call 24;(with_reducible refine (laws_eqIntS.calls k1 _ _ (rd_L1 l0 a0) _ _ (rd_L1 l1 a0) true _ (y4 HR248_0.out) a1.out (y4 HR249_0.out) a2.out A7.out).mono ?_);rintro e w' ⟨rfl,⟨nd,rfl⟩⟩;(try first|exact ⟨rfl,_,World.drewN_drewN _ _ _⟩|exact ⟨rfl,_,Eq.trans (World.drewN_drewN _ _ _) (congrArg (World.drewN _) (Nat.add_assoc _ _ _))⟩)))
      repeat (go_quiet (first|(go_at_call 24;(with_reducible refine (laws_eqIntS.calls k1 _ _ (rd_L1 l0 a0) _ _ (rd_L1 l1 a0) true _ (y4 HR248_0.out) a1.out (y4 HR249_0.out) a2.out A7.out).mono ?_);rintro e w' ⟨rfl,⟨nd,rfl⟩⟩;(try first|exact ⟨rfl,_,World.drewN_drewN _ _ _⟩|exact ⟨rfl,_,Eq.trans (World.drewN_drewN _ _ _) (congrArg (World.drewN _) (Nat.add_assoc _ _ _))⟩)));try go_wp2_with (first|(go_at_call 24;(with_reducible refine (laws_eqIntS.calls k1 _ _ (rd_L1 l0 a0) _ _ (rd_L1 l1 a0) true _ (y4 HR248_0.out) a1.out (y4 HR249_0.out) a2.out A7.out).mono ?_);rintro e w' ⟨rfl,⟨nd,rfl⟩⟩;(try first|exact ⟨rfl,_,World.drewN_drewN _ _ _⟩|exact ⟨rfl,_,Eq.trans (World.drewN_drewN _ _ _) (congrArg (World.drewN _) (Nat.add_assoc _ _ _))⟩))))
      go_roundg k1
      case measure=>have:=HK1.out;omega
      case rel=>exact ⟨(wrap64 (a0+1)),z2_1,H',⟨(by have:=HK1.out;omega)⟩,z2_0⟩
     obtain rfl:=Option.some.inj H
     obtain ⟨ad248,a3,a4,e248,hx248_0,a1,HR248_0,b1,q248⟩:=al_ HR0.out a0
     cases e248
     obtain ⟨ad249,a5,a6,e249,hx249_0,a2,HR249_0,b2,q249⟩:=al_ HR1.out a0
     cases e249
     go_wp2_with (first|(go_at_call 24;(with_reducible refine (laws_eqIntS.calls k1 _ _ (rd_L1 l0 a0) _ _ (rd_L1 l1 a0) false _ (y4 HR248_0.out) a1.out (y4 HR249_0.out) a2.out A7.out).mono ?_);rintro e w' ⟨rfl,⟨nd,rfl⟩⟩;(try first|exact ⟨rfl,_,World.drewN_drewN _ _ _⟩|exact ⟨rfl,_,Eq.trans (World.drewN_drewN _ _ _) (congrArg (World.drewN _) (Nat.add_assoc _ _ _))⟩)))
     repeat (go_quiet (first|(go_at_call 24;(with_reducible refine (laws_eqIntS.calls k1 _ _ (rd_L1 l0 a0) _ _ (rd_L1 l1 a0) false _ (y4 HR248_0.out) a1.out (y4 HR249_0.out) a2.out A7.out).mono ?_);rintro e w' ⟨rfl,⟨nd,rfl⟩⟩;(try first|exact ⟨rfl,_,World.drewN_drewN _ _ _⟩|exact ⟨rfl,_,Eq.trans (World.drewN_drewN _ _ _) (congrArg (World.drewN _) (Nat.add_assoc _ _ _))⟩)));try go_wp2_with (first|(go_at_call 24;(with_reducible refine (laws_eqIntS.calls k1 _ _ (rd_L1 l0 a0) _ _ (rd_L1 l1 a0) false _ (y4 HR248_0.out) a1.out (y4 HR249_0.out) a2.out A7.out).mono ?_);rintro e w' ⟨rfl,⟨nd,rfl⟩⟩;(try first|exact ⟨rfl,_,World.drewN_drewN _ _ _⟩|exact ⟨rfl,_,Eq.trans (World.drewN_drewN _ _ _) (congrArg (World.drewN _) (Nat.add_assoc _ _ _))⟩))))
     go_ret
     exact ⟨z2_1,z2_0⟩
    obtain rfl:=Option.some.inj H
    go_wp2
    repeat (go_quiet (fail);try go_wp2)
    go_ret
    exact ⟨z2_1,z2_0⟩
 have a9:(l0.length==l1.length)=false:=by first|simpa using c3|(simp at c3 ⊢;omega)
 obtain rfl:=Option.some.inj H
 go_enter Try.func54,Try.ntmps54
 go_wp2
 repeat (go_quiet (fail);try go_wp2)
 go_ret
 exact ⟨z2_1,z2_0⟩

end Go.Proofs.Ytlkibgccgkhdmaa.P

namespace Go.Proofs.Ytlkibgccgkhdmaa.P
open Go.RowKit Go.Proofs.YtlkibgccgkhdmaaW.PrintWords Go.Proofs.YtlkibgccgkhdmaaW.PrintLast Go.Proofs.YtlkibgccgkhdmaaW.PrintMore
attribute [local go_sem] max2_int min2_int max_two min_two max_three min_three max_four min_four
set_option linter.unusedVariables false
set_option linter.unusedSimpArgs false
theorem z0_5 {p:Prop} (h:p:=by repeat (first|exact (Kd.C_below HR0_1.out z0_1)|(with_reducible refine Kd.C_alloc ?_ _)|(with_reducible refine Kd.C_drewN ?_ _)|(with_reducible refine Kd.C_drew ?_))):p:=h
theorem z0_4 {p:Prop} (h:p:=by repeat (first|exact (Kd.C_below HR1_1.out z0_1)|(with_reducible refine Kd.C_alloc ?_ _)|(with_reducible refine Kd.C_drewN ?_ _)|(with_reducible refine Kd.C_drew ?_))):p:=h
theorem z0_3 {p:Prop} (h:p:=by first|rfl|(simp [errW_none,errW_some] <;> rfl)|(simp [*,errW_none,errW_some] <;> rfl)):p:=h
theorem z0_2 {p:Prop} (h:p:=by repeat (first|(with_reducible first|exact HB.out|apply below_alloc|apply pw_below_drewN|apply below_drew1)|exact HB.out)):p:=h
theorem z0_1 {p:Prop} (h:p:=by repeat (first|(with_reducible first|exact HB.out|apply below_alloc|apply pw_below_drewN|apply below_drew1|refine below_set ?_ b0.out|refine below_set ?_ b1.out)|exact HB.out)):p:=h
theorem z0_0 {p:Prop} (h:p:=by repeat (first|(with_reducible first|exact HB.out|apply below_alloc|apply pw_below_drewN|apply below_drew1|refine below_set ?_ b0.out)|exact HB.out)):p:=h
set_option maxHeartbeats 8000000 in
set_option maxRecDepth 100000 in
theorem laws_eqLogic.calls (k:Nat) (A0_0:Option Addr) (c0_0:Nat) (l0_0:List (List Int)) (A0_1:Option Addr) (c0_1:Nat) (l0_1:List Int) (A1_0:Option Addr) (c1_0:Nat) (l1_0:List (List Int)) (A1_1:Option Addr) (c1_1:Nat) (l1_1:List Int) (r:Bool) (w:World) (hr0_0:Kd.C (Kd.slice 3 (Kd.int .i64)) w A0_0 l0_0.length l0_0) (hc0_0:l0_0.length≤c0_0) (hr0_1:Kd.C (Kd.int .i64) w A0_1 l0_1.length l0_1) (hc0_1:l0_1.length≤c0_1) (hr1_0:Kd.C (Kd.slice 3 (Kd.int .i64)) w A1_0 l1_0.length l1_0) (hc1_0:l1_0.length≤c1_0) (hr1_1:Kd.C (Kd.int .i64) w A1_1 l1_1.length l1_1) (hc1_1:l1_1.length≤c1_1) (h:laws_eqLogic.f k l0_0 l0_1 l1_0 l1_1=some r) :
 Calls Try.prog 19 #[.agg #[.slice A0_0 l0_0.length c0_0,.slice A0_1 l0_1.length c0_1],.agg #[.slice A1_0 l1_0.length c1_0,.slice A1_1 l1_1.length c1_1]] w fun e w'=>e = .returned (.bool r)∧Below w.heap.size w w':=by
 have hu29:=Try.underlying29
 have HR0_0:=ak hr0_0
 have b2:=ak hc0_0
 clear hr0_0 hc0_0
 have HR0_1:=ak hr0_1
 have b4:=ak hc0_1
 clear hr0_1 hc0_1
 have HR1_0:=ak hr1_0
 have b3:=ak hc1_0
 clear hr1_0 hc1_0
 have HR1_1:=ak hr1_1
 have b5:=ak hc1_1
 clear hr1_1 hc1_1
 have HB:=ak (Below.refl w.heap.size w)
 have H:((laws_eqIntSS.f k l0_0 l1_0).bind fun b8=>(if b8=true then ((laws_eqIntS.f k l0_1 l1_1).bind fun b9=>(if b9=true then (some true) else (some false))) else (some false)))=some r:=h
 clear h
 obtain ⟨b8,A3,H⟩:=bd_ H
 try dsimp only at H
 replace H:=ox_ H
 rcases H with ⟨rfl,H⟩|⟨rfl,H⟩
 ·
  obtain ⟨b9,A5,H⟩:=bd_ H
  try dsimp only at H
  replace H:=ox_ H
  rcases H with ⟨rfl,H⟩|⟨rfl,H⟩
  ·
   obtain rfl:=Option.some.inj H
   go_enter Try.func19,Try.ntmps19
   go_wp2_with (first|((with_reducible refine gate_dst (N:=2) rfl ?_);refine bx_ (N:=2) (cs:=#[.slice A0_0 l0_0.length c0_0,.slice A0_1 l0_1.length c0_1]) (t:=29) ?_;intro a1 hg w7 hbox hb;have a0:=ak (hbox);have b6:=ak ((by rw [hg];exact (below_size z0_2):w.heap.size≤a1));have b0:=ak ((by rw [hg];exact (below_size z0_2):w.heap.size≤a1));replace HB:=ak (below_step z0_2 hb);clear hb hbox hg)|((with_reducible refine gate_dst (N:=3) rfl ?_);refine bx_ (N:=3) (cs:=#[.slice A1_0 l1_0.length c1_0,.slice A1_1 l1_1.length c1_1]) (t:=29) ?_;intro a2 hg w8 hbox hb;have a3:=ak (hbox);have b7:=ak ((by rw [hg];exact (below_size z0_0):w.heap.size≤a2));have b1:=ak ((by rw [hg];exact (below_size z0_0):w.heap.size≤a2));replace HB:=ak (below_step z0_0 hb);have a4:=ak ((by rw [hg];exact Nat.ne_of_lt (blk_lt (g:=a1) (o:=.cells #[.slice A0_0 l0_0.length c0_0,.slice A0_1 l0_1.length c0_1] 29 (0,0)) (xb a0.out)):a1≠a2));have a5:=ak ((by rw [hg];exact Nat.ne_of_gt (blk_lt (g:=a1) (o:=.cells #[.slice A0_0 l0_0.length c0_0,.slice A0_1 l0_1.length c0_1] 29 (0,0)) (xb a0.out)):a2≠a1));replace a0:=ak (blk_below (g:=a1) (o:=.cells #[.slice A0_0 l0_0.length c0_0,.slice A0_1 l0_1.length c0_1] 29 (0,0)) (xb a0.out) hb);clear hb hbox hg;have d4:=a4.out;have d5:=a5.out;have a6:=cz20 a0.out;have a7:=cz21 a0.out;have a8:=blk_frozen a0.out 0;have a9:=blk_frozen a0.out 1;have a6:=cz20 a3.out;have a7:=cz21 a3.out;have a8:=blk_frozen a3.out 0;have a9:=blk_frozen a3.out 1)|((with_reducible refine gate_callee (f:=54) rfl ?_);refine gl_ (some 9) Try.func54 #[.slice A0_0 l0_0.length c0_0,.slice A1_0 l1_0.length c1_0] ?_;(with_reducible refine (laws_eqIntSS.calls k _ _ l0_0 _ _ l1_0 true _ (y3 HR0_0.out HB.out) b2.out (y3 HR1_0.out HB.out) b3.out A3.out).mono ?_);rintro e w' ⟨rfl,⟨nd,rfl⟩⟩;refine ⟨_,rfl,?_⟩)|((with_reducible refine gate_callee (f:=24) rfl ?_);refine gl_ (some 15) Try.func24 #[.slice A0_1 l0_1.length c0_1,.slice A1_1 l1_1.length c1_1] ?_;(with_reducible refine (laws_eqIntS.calls k _ _ l0_1 _ _ l1_1 true _ z0_5 b4.out z0_4 b5.out A5.out).mono ?_);rintro e w' ⟨rfl,⟨nd,rfl⟩⟩;refine ⟨_,rfl,?_⟩))
   go_ret
   exact ⟨z0_3,z0_1⟩
  obtain rfl:=Option.some.inj H
  go_enter Try.func19,Try.ntmps19
  go_wp2_with (first|((with_reducible refine gate_dst (N:=2) rfl ?_);refine bx_ (N:=2) (cs:=#[.slice A0_0 l0_0.length c0_0,.slice A0_1 l0_1.length c0_1]) (t:=29) ?_;intro a1 hg d6 hbox hb;have a0:=ak (hbox);have b6:=ak ((by rw [hg];exact (below_size z0_2):w.heap.size≤a1));have b0:=ak ((by rw [hg];exact (below_size z0_2):w.heap.size≤a1));replace HB:=ak (below_step z0_2 hb);clear hb hbox hg)|((with_reducible refine gate_dst (N:=3) rfl ?_);refine bx_ (N:=3) (cs:=#[.slice A1_0 l1_0.length c1_0,.slice A1_1 l1_1.length c1_1]) (t:=29) ?_;intro a2 hg d7 hbox hb;have a3:=ak (hbox);have b7:=ak ((by rw [hg];exact (below_size z0_0):w.heap.size≤a2));have b1:=ak ((by rw [hg];exact (below_size z0_0):w.heap.size≤a2));replace HB:=ak (below_step z0_0 hb);have a4:=ak ((by rw [hg];exact Nat.ne_of_lt (blk_lt (g:=a1) (o:=.cells #[.slice A0_0 l0_0.length c0_0,.slice A0_1 l0_1.length c0_1] 29 (0,0)) (xb a0.out)):a1≠a2));have a5:=ak ((by rw [hg];exact Nat.ne_of_gt (blk_lt (g:=a1) (o:=.cells #[.slice A0_0 l0_0.length c0_0,.slice A0_1 l0_1.length c0_1] 29 (0,0)) (xb a0.out)):a2≠a1));replace a0:=ak (blk_below (g:=a1) (o:=.cells #[.slice A0_0 l0_0.length c0_0,.slice A0_1 l0_1.length c0_1] 29 (0,0)) (xb a0.out) hb);clear hb hbox hg;have d0:=a4.out;have d1:=a5.out;have a6:=cz20 a0.out;have a7:=cz21 a0.out;have a8:=blk_frozen a0.out 0;have a9:=blk_frozen a0.out 1;have a6:=cz20 a3.out;have a7:=cz21 a3.out;have a8:=blk_frozen a3.out 0;have a9:=blk_frozen a3.out 1)|((with_reducible refine gate_callee (f:=54) rfl ?_);refine gl_ (some 9) Try.func54 #[.slice A0_0 l0_0.length c0_0,.slice A1_0 l1_0.length c1_0] ?_;(with_reducible refine (laws_eqIntSS.calls k _ _ l0_0 _ _ l1_0 true _ (y3 HR0_0.out HB.out) b2.out (y3 HR1_0.out HB.out) b3.out A3.out).mono ?_);rintro e w' ⟨rfl,⟨nd,rfl⟩⟩;refine ⟨_,rfl,?_⟩)|((with_reducible refine gate_callee (f:=24) rfl ?_);refine gl_ (some 15) Try.func24 #[.slice A0_1 l0_1.length c0_1,.slice A1_1 l1_1.length c1_1] ?_;(with_reducible refine (laws_eqIntS.calls k _ _ l0_1 _ _ l1_1 false _ z0_5 b4.out z0_4 b5.out A5.out).mono ?_);rintro e w' ⟨rfl,⟨nd,rfl⟩⟩;refine ⟨_,rfl,?_⟩))
  go_ret
  exact ⟨z0_3,z0_1⟩
 obtain rfl:=Option.some.inj H
 go_enter Try.func19,Try.ntmps19
 go_wp2_with (first|((with_reducible refine gate_dst (N:=2) rfl ?_);refine bx_ (N:=2) (cs:=#[.slice A0_0 l0_0.length c0_0,.slice A0_1 l0_1.length c0_1]) (t:=29) ?_;intro a1 hg d8 hbox hb;have a0:=ak (hbox);have b6:=ak ((by rw [hg];exact (below_size z0_2):w.heap.size≤a1));have b0:=ak ((by rw [hg];exact (below_size z0_2):w.heap.size≤a1));replace HB:=ak (below_step z0_2 hb);clear hb hbox hg)|((with_reducible refine gate_dst (N:=3) rfl ?_);refine bx_ (N:=3) (cs:=#[.slice A1_0 l1_0.length c1_0,.slice A1_1 l1_1.length c1_1]) (t:=29) ?_;intro a2 hg d9 hbox hb;have a3:=ak (hbox);have b7:=ak ((by rw [hg];exact (below_size z0_0):w.heap.size≤a2));have b1:=ak ((by rw [hg];exact (below_size z0_0):w.heap.size≤a2));replace HB:=ak (below_step z0_0 hb);have a4:=ak ((by rw [hg];exact Nat.ne_of_lt (blk_lt (g:=a1) (o:=.cells #[.slice A0_0 l0_0.length c0_0,.slice A0_1 l0_1.length c0_1] 29 (0,0)) (xb a0.out)):a1≠a2));have a5:=ak ((by rw [hg];exact Nat.ne_of_gt (blk_lt (g:=a1) (o:=.cells #[.slice A0_0 l0_0.length c0_0,.slice A0_1 l0_1.length c0_1] 29 (0,0)) (xb a0.out)):a2≠a1));replace a0:=ak (blk_below (g:=a1) (o:=.cells #[.slice A0_0 l0_0.length c0_0,.slice A0_1 l0_1.length c0_1] 29 (0,0)) (xb a0.out) hb);clear hb hbox hg;have d2:=a4.out;have d3:=a5.out;have a6:=cz20 a0.out;have a7:=cz21 a0.out;have a8:=blk_frozen a0.out 0;have a9:=blk_frozen a0.out 1;have a6:=cz20 a3.out;have a7:=cz21 a3.out;have a8:=blk_frozen a3.out 0;have a9:=blk_frozen a3.out 1)|((with_reducible refine gate_callee (f:=54) rfl ?_);refine gl_ (some 9) Try.func54 #[.slice A0_0 l0_0.length c0_0,.slice A1_0 l1_0.length c1_0] ?_;(with_reducible refine (laws_eqIntSS.calls k _ _ l0_0 _ _ l1_0 false _ (y3 HR0_0.out HB.out) b2.out (y3 HR1_0.out HB.out) b3.out A3.out).mono ?_);rintro e w' ⟨rfl,⟨nd,rfl⟩⟩;refine ⟨_,rfl,?_⟩))
 go_ret
 exact ⟨z0_3,z0_1⟩

end Go.Proofs.Ytlkibgccgkhdmaa.P

namespace Go.Proofs.Ytlkibgccgkhdmaa.P
open Go.RowKit Go.Proofs.YtlkibgccgkhdmaaW.PrintWords Go.Proofs.YtlkibgccgkhdmaaW.PrintLast Go.Proofs.YtlkibgccgkhdmaaW.PrintMore
attribute [local go_sem] max2_int min2_int max_two min_two max_three min_three max_four min_four
set_option linter.unusedVariables false
set_option linter.unusedSimpArgs false
theorem z4_1 {p:Prop} (h:p:=by repeat (first|exact Drawn0.refl _|apply Drawn0.step)):p:=h
theorem z4_0 {p:Prop} (h:p:=by first|rfl|(simp;done)|(simp [*];done)):p:=h
set_option maxHeartbeats 8000000 in
set_option maxRecDepth 100000 in
theorem laws_heldIntS.calls (k:Nat) (A0:Option Addr) (c0:Nat) (l0:List Int) (a1:Int) (r:Int) (w:World) (hr0:Kd.C (Kd.int .i64) w A0 l0.length l0) (hc0:l0.length≤c0) (h:laws_heldIntS.f k l0 a1=some r) :
 Calls Try.prog 27 #[.slice A0 l0.length c0,.int .i64 a1] w fun e w'=>e = .returned (.int .i64 r)∧Drawn0 w w':=by
 have HR0:=ak hr0
 have a8:=ak hc0
 clear hr0 hc0
 have H:(laws_heldIntS.l0 k l0 a1 0)=some r:=h
 clear h
 have H':=ak H
 clear H
 go_enter Try.func27,Try.ntmps27
 go_wp2
 go_loopg [1,5] k (fun kq v1 v5 w'=>∃ (a2:Int) (a0:Int),v1 = .int .i64 a2∧v5 = .int .i64 a0∧Aside0 (laws_heldIntS.l0 kq l0 a2 a0=some r)∧Aside0 (kq≤k)∧Drawn0 w w')
 case atStart=>exact ⟨(a1),(0),z4_0,z4_0,H',⟨Nat.le_refl _⟩,z4_1⟩
 case round =>
  clear H'
  obtain ⟨a2,a0,rfl,rfl,HA,HK1,⟨m1,rfl⟩⟩:=hrel
  cases gk with
  | zero=>exact absurd HA.out (by simp [laws_heldIntS.l0])
  | succ k1 =>
   have H:=HA.out
   clear HA
   simp only [laws_heldIntS.l0] at H
   replace H:=os_ H
   rcases H with ⟨a3,H⟩|⟨a3,H⟩
   ·
    replace H:=od_ H
    obtain ⟨a7,H⟩:=H
    replace H:=oe2 H
    rcases H with ⟨⟨-,a4,a5⟩,H⟩|⟨⟨c5,a4,a5⟩,H⟩
    ·
     have H':=ak H
     clear H
     obtain ⟨ad334,e334,hx334_0,a6,q334⟩:=ai_ HR0.out a0
     cases e334
     go_wp2
     go_roundg k1
     case measure=>have:=HK1.out;omega
     case rel=>exact ⟨(wrap64 (a2+1)),(wrap64 (a0+1)),z4_0,z4_0,H',⟨(by have:=HK1.out;omega)⟩,z4_1⟩
    obtain rfl:=Option.some.inj H
    obtain ⟨ad334,e334,hx334_0,a6,q334⟩:=ai_ HR0.out a0
    cases e334
    go_wp2
    go_ret
    exact ⟨z4_0,z4_1⟩
   obtain rfl:=Option.some.inj H
   go_wp2
   go_ret
   exact ⟨z4_0,z4_1⟩

end Go.Proofs.Ytlkibgccgkhdmaa.P

namespace Go.Proofs.Ytlkibgccgkhdmaa.P
open Go.RowKit Go.Proofs.YtlkibgccgkhdmaaW.PrintWords Go.Proofs.YtlkibgccgkhdmaaW.PrintLast Go.Proofs.YtlkibgccgkhdmaaW.PrintMore
attribute [local go_sem] max2_int min2_int max_two min_two max_three min_three max_four min_four
set_option linter.unusedVariables false
set_option linter.unusedSimpArgs false
theorem z5_1 {p:Prop} (h:p:=by repeat (first|exact Drawn0.refl _|apply Drawn0.step)):p:=h
theorem z5_0 {p:Prop} (h:p:=by first|rfl|(simp;done)|(simp [*];done)):p:=h
set_option maxHeartbeats 8000000 in
set_option maxRecDepth 100000 in
theorem laws_heldIntSS.calls (k:Nat) (A0:Option Addr) (c0:Nat) (l0:List (List Int)) (a1:Int) (r:Int) (w:World) (hr0:Kd.C (Kd.slice 3 (Kd.int .i64)) w A0 l0.length l0) (hc0:l0.length≤c0) (h:laws_heldIntSS.f k l0 a1=some r) :
 Calls Try.prog 77 #[.slice A0 l0.length c0,.int .i64 a1] w fun e w'=>e = .returned (.int .i64 r)∧Drawn0 w w':=by
 have HR0:=ak hr0
 have b1:=ak hc0
 clear hr0 hc0
 have H:(laws_heldIntSS.l0 k l0 a1 0)=some r:=h
 clear h
 have H':=ak H
 clear H
 go_enter Try.func77,Try.ntmps77
 go_wp2
 go_loopg [1,5] k (fun kq v1 v5 w'=>∃ (a3:Int) (a0:Int),v1 = .int .i64 a3∧v5 = .int .i64 a0∧Aside0 (laws_heldIntSS.l0 kq l0 a3 a0=some r)∧Aside0 (kq≤k)∧Drawn0 w w')
 case atStart=>exact ⟨(a1),(0),z5_0,z5_0,H',⟨Nat.le_refl _⟩,z5_1⟩
 case round =>
  clear H'
  obtain ⟨a3,a0,rfl,rfl,HA,HK1,⟨m1,rfl⟩⟩:=hrel
  cases gk with
  | zero=>exact absurd HA.out (by simp [laws_heldIntSS.l0])
  | succ k1 =>
   have H:=HA.out
   clear HA
   simp only [laws_heldIntSS.l0] at H
   replace H:=os_ H
   rcases H with ⟨a7,H⟩|⟨a7,H⟩
   ·
    replace H:=od_ H
    obtain ⟨b0,H⟩:=H
    obtain ⟨a6,A5,H⟩:=bd_ H
    try dsimp only at H
    replace H:=os_ H
    rcases H with ⟨a8,H⟩|⟨a8,H⟩
    ·
     obtain rfl:=Option.some.inj H
     obtain ⟨ad485,a4,a5,e485,hx485_0,a2,HR485_0,a9,q485⟩:=al_ HR0.out a0
     cases e485
     go_wp2_with (first|((with_reducible refine gate_callee (f:=27) rfl ?_);refine gl_ (some 17) Try.func27 #[.slice a4 (rd_L1 l0 a0).length a5,.int .i64 a3] ?_;(with_reducible refine (laws_heldIntS.calls k1 _ _ (rd_L1 l0 a0) a3 a6 _ (y4 HR485_0.out) a2.out A5.out).mono ?_);rintro e w' ⟨rfl,⟨nd,rfl⟩⟩;refine ⟨_,rfl,?_⟩))
     go_ret
     exact ⟨z5_0,z5_1⟩
    have H':=ak H
    clear H
    obtain ⟨ad485,a4,a5,e485,hx485_0,a2,HR485_0,a9,q485⟩:=al_ HR0.out a0
    cases e485
    go_wp2_with (first|((with_reducible refine gate_callee (f:=27) rfl ?_);refine gl_ (some 17) Try.func27 #[.slice a4 (rd_L1 l0 a0).length a5,.int .i64 a3] ?_;(with_reducible refine (laws_heldIntS.calls k1 _ _ (rd_L1 l0 a0) a3 a6 _ (y4 HR485_0.out) a2.out A5.out).mono ?_);rintro e w' ⟨rfl,⟨nd,rfl⟩⟩;refine ⟨_,rfl,?_⟩))
    go_roundg k1
    case measure=>have:=HK1.out;omega
    case rel=>exact ⟨(a6),(wrap64 (a0+1)),z5_0,z5_0,H',⟨(by have:=HK1.out;omega)⟩,z5_1⟩
   obtain rfl:=Option.some.inj H
   go_wp2
   go_ret
   exact ⟨z5_0,z5_1⟩

end Go.Proofs.Ytlkibgccgkhdmaa.P

namespace Go.Proofs.Ytlkibgccgkhdmaa.P
open Go.RowKit Go.Proofs.YtlkibgccgkhdmaaW.PrintWords Go.Proofs.YtlkibgccgkhdmaaW.PrintLast Go.Proofs.YtlkibgccgkhdmaaW.PrintMore
attribute [local go_sem] max2_int min2_int max_two min_two max_three min_three max_four min_four
set_option linter.unusedVariables false
set_option linter.unusedSimpArgs false
theorem z3_3 {p:Prop} (h:p:=by repeat (first|exact (Kd.C_below HR0_1.out z3_1)|(with_reducible refine Kd.C_alloc ?_ _)|(with_reducible refine Kd.C_drewN ?_ _)|(with_reducible refine Kd.C_drew ?_))):p:=h
theorem z3_2 {p:Prop} (h:p:=by first|rfl|(simp [errW_none,errW_some] <;> rfl)|(simp [*,errW_none,errW_some] <;> rfl)):p:=h
theorem z3_1 {p:Prop} (h:p:=by repeat (first|(with_reducible first|exact HB.out|apply below_alloc|apply pw_below_drewN|apply below_drew1|refine below_set ?_ a4.out)|exact HB.out)):p:=h
theorem z3_0 {p:Prop} (h:p:=by repeat (first|(with_reducible first|exact HB.out|apply below_alloc|apply pw_below_drewN|apply below_drew1)|exact HB.out)):p:=h
set_option maxHeartbeats 8000000 in
set_option maxRecDepth 100000 in
theorem laws_heldLogic.calls (k:Nat) (A0_0:Option Addr) (c0_0:Nat) (l0_0:List (List Int)) (A0_1:Option Addr) (c0_1:Nat) (l0_1:List Int) (a1:Int) (r:Int) (w:World) (hr0_0:Kd.C (Kd.slice 3 (Kd.int .i64)) w A0_0 l0_0.length l0_0) (hc0_0:l0_0.length≤c0_0) (hr0_1:Kd.C (Kd.int .i64) w A0_1 l0_1.length l0_1) (hc0_1:l0_1.length≤c0_1) (h:laws_heldLogic.f k l0_0 l0_1 a1=some r) :
 Calls Try.prog 36 #[.agg #[.slice A0_0 l0_0.length c0_0,.slice A0_1 l0_1.length c0_1],.int .i64 a1] w fun e w'=>e = .returned (.int .i64 r)∧Below w.heap.size w w':=by
 have hu29:=Try.underlying29
 have HR0_0:=ak hr0_0
 have a5:=ak hc0_0
 clear hr0_0 hc0_0
 have HR0_1:=ak hr0_1
 have a7:=ak hc0_1
 clear hr0_1 hc0_1
 have HB:=ak (Below.refl w.heap.size w)
 have H:((laws_heldIntSS.f k l0_0 a1).bind fun a3=>(if a3<0 then (some (-1)) else ((laws_heldIntS.f k l0_1 a3).bind fun a6=>(if a6<0 then (some (-1)) else (some a6)))))=some r:=h
 clear h
 obtain ⟨a3,A3,H⟩:=bd_ H
 try dsimp only at H
 replace H:=os_ H
 rcases H with ⟨b3,H⟩|⟨b3,H⟩
 ·
  obtain rfl:=Option.some.inj H
  go_enter Try.func36,Try.ntmps36
  go_wp2_with (first|((with_reducible refine gate_dst (N:=2) rfl ?_);refine bx_ (N:=2) (cs:=#[.slice A0_0 l0_0.length c0_0,.slice A0_1 l0_1.length c0_1]) (t:=29) ?_;intro a2 hg w5 hbox hb;have a0:=ak (hbox);have a8:=ak ((by rw [hg];exact (below_size z3_0):w.heap.size≤a2));have a4:=ak ((by rw [hg];exact (below_size z3_0):w.heap.size≤a2));replace HB:=ak (below_step z3_0 hb);clear hb hbox hg;have a9:=cz20 a0.out;have b0:=cz21 a0.out;have b1:=blk_frozen a0.out 0;have b2:=blk_frozen a0.out 1)|((with_reducible refine gate_callee (f:=77) rfl ?_);refine gl_ (some 8) Try.func77 #[.slice A0_0 l0_0.length c0_0,.int .i64 a1] ?_;(with_reducible refine (laws_heldIntSS.calls k _ _ l0_0 a1 a3 _ (y3 HR0_0.out HB.out) a5.out A3.out).mono ?_);rintro e w' ⟨rfl,⟨nd,rfl⟩⟩;refine ⟨_,rfl,?_⟩))
  go_ret
  exact ⟨z3_2,z3_1⟩
 obtain ⟨a6,A7,H⟩:=bd_ H
 try dsimp only at H
 replace H:=os_ H
 rcases H with ⟨b4,H⟩|⟨b4,H⟩
 ·
  obtain rfl:=Option.some.inj H
  go_enter Try.func36,Try.ntmps36
  go_wp2_with (first|((with_reducible refine gate_dst (N:=2) rfl ?_);refine bx_ (N:=2) (cs:=#[.slice A0_0 l0_0.length c0_0,.slice A0_1 l0_1.length c0_1]) (t:=29) ?_;intro a2 hg w9 hbox hb;have a0:=ak (hbox);have a8:=ak ((by rw [hg];exact (below_size z3_0):w.heap.size≤a2));have a4:=ak ((by rw [hg];exact (below_size z3_0):w.heap.size≤a2));replace HB:=ak (below_step z3_0 hb);clear hb hbox hg;have a9:=cz20 a0.out;have b0:=cz21 a0.out;have b1:=blk_frozen a0.out 0;have b2:=blk_frozen a0.out 1)|((with_reducible refine gate_callee (f:=77) rfl ?_);refine gl_ (some 8) Try.func77 #[.slice A0_0 l0_0.length c0_0,.int .i64 a1] ?_;(with_reducible refine (laws_heldIntSS.calls k _ _ l0_0 a1 a3 _ (y3 HR0_0.out HB.out) a5.out A3.out).mono ?_);rintro e w' ⟨rfl,⟨nd,rfl⟩⟩;refine ⟨_,rfl,?_⟩)|((with_reducible refine gate_callee (f:=27) rfl ?_);refine gl_ (some 14) Try.func27 #[.slice A0_1 l0_1.length c0_1,.int .i64 a3] ?_;(with_reducible refine (laws_heldIntS.calls k _ _ l0_1 a3 a6 _ z3_3 a7.out A7.out).mono ?_);rintro e w' ⟨rfl,⟨nd,rfl⟩⟩;refine ⟨_,rfl,?_⟩))
  go_ret
  exact ⟨z3_2,z3_1⟩
 obtain rfl:=Option.some.inj H
 go_enter Try.func36,Try.ntmps36
 go_wp2_with (first|((with_reducible refine gate_dst (N:=2) rfl ?_);refine bx_ (N:=2) (cs:=#[.slice A0_0 l0_0.length c0_0,.slice A0_1 l0_1.length c0_1]) (t:=29) ?_;intro a2 hg b5 hbox hb;have a0:=ak (hbox);have a8:=ak ((by rw [hg];exact (below_size z3_0):w.heap.size≤a2));have a4:=ak ((by rw [hg];exact (below_size z3_0):w.heap.size≤a2));replace HB:=ak (below_step z3_0 hb);clear hb hbox hg;have a9:=cz20 a0.out;have b0:=cz21 a0.out;have b1:=blk_frozen a0.out 0;have b2:=blk_frozen a0.out 1)|((with_reducible refine gate_callee (f:=77) rfl ?_);refine gl_ (some 8) Try.func77 #[.slice A0_0 l0_0.length c0_0,.int .i64 a1] ?_;(with_reducible refine (laws_heldIntSS.calls k _ _ l0_0 a1 a3 _ (y3 HR0_0.out HB.out) a5.out A3.out).mono ?_);rintro e w' ⟨rfl,⟨nd,rfl⟩⟩;refine ⟨_,rfl,?_⟩)|((with_reducible refine gate_callee (f:=27) rfl ?_);refine gl_ (some 14) Try.func27 #[.slice A0_1 l0_1.length c0_1,.int .i64 a3] ?_;(with_reducible refine (laws_heldIntS.calls k _ _ l0_1 a3 a6 _ z3_3 a7.out A7.out).mono ?_);rintro e w' ⟨rfl,⟨nd,rfl⟩⟩;refine ⟨_,rfl,?_⟩))
 go_ret
 exact ⟨z3_2,z3_1⟩

end Go.Proofs.Ytlkibgccgkhdmaa.P

namespace Go.Proofs.Ytlkibgccgkhdmaa.P
open Go.RowKit Go.Proofs.YtlkibgccgkhdmaaW.PrintWords Go.Proofs.YtlkibgccgkhdmaaW.PrintLast Go.Proofs.YtlkibgccgkhdmaaW.PrintMore
attribute [local go_sem] max2_int min2_int max_two min_two max_three min_three max_four min_four
set_option linter.unusedVariables false
set_option linter.unusedSimpArgs false
set_option maxHeartbeats 8000000 in
set_option maxRecDepth 100000 in
theorem laws_szIntS.calls (A0:Option Addr) (c0:Nat) (l0:List Int) (a1:Int) (r:Int) (w:World) (hr0:Kd.C (Kd.int .i64) w A0 l0.length l0) (hc0:l0.length≤c0) (h:laws_szIntS.f l0 a1=some r) :
 Calls Try.prog 49 #[.slice A0 l0.length c0,.int .i64 a1] w fun e w'=>e = .returned (.int .i64 r)∧Drawn0 w w':=by
 have HR0:=ak hr0
 have a2:=ak hc0
 clear hr0 hc0
 have H:(if (wrap64 (a1-(l0.length:Int)))<0 then (some (-1)) else (some (wrap64 (a1-(l0.length:Int)))))=some r:=h
 clear h
 replace H:=os_ H
 rcases H with ⟨a0,H⟩|⟨a0,H⟩
 ·
  obtain rfl:=Option.some.inj H
  go_enter Try.func49,Try.ntmps49
  go_wp2
  go_ret
  exact ⟨(by first|rfl|(simp;done)|(simp [*];done)),(by repeat (first|exact Drawn0.refl _|apply Drawn0.step))⟩
 obtain rfl:=Option.some.inj H
 go_enter Try.func49,Try.ntmps49
 go_wp2
 go_ret
 exact ⟨(by first|rfl|(simp;done)|(simp [*];done)),(by repeat (first|exact Drawn0.refl _|apply Drawn0.step))⟩

end Go.Proofs.Ytlkibgccgkhdmaa.P

namespace Go.Proofs.Ytlkibgccgkhdmaa.P
open Go.RowKit Go.Proofs.YtlkibgccgkhdmaaW.PrintWords Go.Proofs.YtlkibgccgkhdmaaW.PrintLast Go.Proofs.YtlkibgccgkhdmaaW.PrintMore
attribute [local go_sem] max2_int min2_int max_two min_two max_three min_three max_four min_four
set_option linter.unusedVariables false
set_option linter.unusedSimpArgs false
theorem z8_1 {p:Prop} (h:p:=by repeat (first|exact Drawn0.refl _|apply Drawn0.step)):p:=h
theorem z8_0 {p:Prop} (h:p:=by first|rfl|(simp;done)|(simp [*];done)):p:=h
set_option maxHeartbeats 8000000 in
set_option maxRecDepth 100000 in
theorem laws_szIntSS.calls (k:Nat) (A0:Option Addr) (c0:Nat) (l0:List (List Int)) (a1:Int) (r:Int) (w:World) (hr0:Kd.C (Kd.slice 3 (Kd.int .i64)) w A0 l0.length l0) (hc0:l0.length≤c0) (h:laws_szIntSS.f k l0 a1=some r) :
 Calls Try.prog 48 #[.slice A0 l0.length c0,.int .i64 a1] w fun e w'=>e = .returned (.int .i64 r)∧Drawn0 w w':=by
 have HR0:=ak hr0
 have b2:=ak hc0
 clear hr0 hc0
 have H:(if (wrap64 (a1-(l0.length:Int)))<0 then (some (-1)) else (laws_szIntSS.l0 k l0 (wrap64 (a1-(l0.length:Int))) 0))=some r:=h
 clear h
 replace H:=os_ H
 rcases H with ⟨a7,H⟩|⟨a7,H⟩
 ·
  obtain rfl:=Option.some.inj H
  go_enter Try.func48,Try.ntmps48
  go_wp2
  go_ret
  exact ⟨z8_0,z8_1⟩
 have H':=ak H
 clear H
 go_enter Try.func48,Try.ntmps48
 go_wp2
 go_loopg [1,5] k (fun kq v1 v5 w'=>∃ (a3:Int) (a0:Int),v1 = .int .i64 a3∧v5 = .int .i64 a0∧Aside0 (laws_szIntSS.l0 kq l0 a3 a0=some r)∧Aside0 (kq≤k)∧Drawn0 w w')
 case atStart=>exact ⟨(wrap64 (a1-(l0.length:Int))),(0),z8_0,z8_0,H',⟨Nat.le_refl _⟩,z8_1⟩
 case round =>
  clear H'
  try clear c3
  try clear a7
  obtain ⟨a3,a0,rfl,rfl,HA,HK1,⟨m1,rfl⟩⟩:=hrel
  cases gk with
  | zero=>exact absurd HA.out (by simp [laws_szIntSS.l0])
  | succ k1 =>
   have H:=HA.out
   clear HA
   simp only [laws_szIntSS.l0] at H
   replace H:=os_ H
   rcases H with ⟨a8,H⟩|⟨a8,H⟩
   ·
    replace H:=od_ H
    obtain ⟨b1,H⟩:=H
    obtain ⟨a6,A6,H⟩:=bd_ H
    try dsimp only at H
    replace H:=os_ H
    rcases H with ⟨a9,H⟩|⟨a9,H⟩
    ·
     obtain rfl:=Option.some.inj H
     obtain ⟨ad101,a4,a5,e101,hx101_0,a2,HR101_0,b0,q101⟩:=al_ HR0.out a0
     cases e101
     go_wp2_with (first|((with_reducible refine gate_callee (f:=49) rfl ?_);refine gl_ (some 23) Try.func49 #[.slice a4 (rd_L1 l0 a0).length a5,.int .i64 a3] ?_;(with_reducible refine (laws_szIntS.calls _ _ (rd_L1 l0 a0) a3 a6 _ (y4 HR101_0.out) a2.out A6.out).mono ?_);rintro e w' ⟨rfl,⟨nd,rfl⟩⟩;refine ⟨_,rfl,?_⟩))
     go_ret
     exact ⟨z8_0,z8_1⟩
    have H':=ak H
    clear H
    obtain ⟨ad101,a4,a5,e101,hx101_0,a2,HR101_0,b0,q101⟩:=al_ HR0.out a0
    cases e101
    go_wp2_with (first|((with_reducible refine gate_callee (f:=49) rfl ?_);refine gl_ (some 23) Try.func49 #[.slice a4 (rd_L1 l0 a0).length a5,.int .i64 a3] ?_;(with_reducible refine (laws_szIntS.calls _ _ (rd_L1 l0 a0) a3 a6 _ (y4 HR101_0.out) a2.out A6.out).mono ?_);rintro e w' ⟨rfl,⟨nd,rfl⟩⟩;refine ⟨_,rfl,?_⟩))
    go_roundg k1
    case measure=>have:=HK1.out;omega
    case rel=>exact ⟨(a6),(wrap64 (a0+1)),z8_0,z8_0,H',⟨(by have:=HK1.out;omega)⟩,z8_1⟩
   obtain rfl:=Option.some.inj H
   go_wp2
   go_ret
   exact ⟨z8_0,z8_1⟩

end Go.Proofs.Ytlkibgccgkhdmaa.P

namespace Go.Proofs.Ytlkibgccgkhdmaa.P
open Go.RowKit Go.Proofs.YtlkibgccgkhdmaaW.PrintWords Go.Proofs.YtlkibgccgkhdmaaW.PrintLast Go.Proofs.YtlkibgccgkhdmaaW.PrintMore
attribute [local go_sem] max2_int min2_int max_two min_two max_three min_three max_four min_four
set_option linter.unusedVariables false
set_option linter.unusedSimpArgs false
theorem z6_3 {p:Prop} (h:p:=by repeat (first|exact (Kd.C_below HR0_1.out z6_1)|(with_reducible refine Kd.C_alloc ?_ _)|(with_reducible refine Kd.C_drewN ?_ _)|(with_reducible refine Kd.C_drew ?_))):p:=h
theorem z6_2 {p:Prop} (h:p:=by first|rfl|(simp [errW_none,errW_some] <;> rfl)|(simp [*,errW_none,errW_some] <;> rfl)):p:=h
theorem z6_1 {p:Prop} (h:p:=by repeat (first|(with_reducible first|exact HB.out|apply below_alloc|apply pw_below_drewN|apply below_drew1|refine below_set ?_ a4.out)|exact HB.out)):p:=h
theorem z6_0 {p:Prop} (h:p:=by repeat (first|(with_reducible first|exact HB.out|apply below_alloc|apply pw_below_drewN|apply below_drew1)|exact HB.out)):p:=h
set_option maxHeartbeats 8000000 in
set_option maxRecDepth 100000 in
theorem laws_szLogic.calls (k:Nat) (A0_0:Option Addr) (c0_0:Nat) (l0_0:List (List Int)) (A0_1:Option Addr) (c0_1:Nat) (l0_1:List Int) (a1:Int) (r:Int) (w:World) (hr0_0:Kd.C (Kd.slice 3 (Kd.int .i64)) w A0_0 l0_0.length l0_0) (hc0_0:l0_0.length≤c0_0) (hr0_1:Kd.C (Kd.int .i64) w A0_1 l0_1.length l0_1) (hc0_1:l0_1.length≤c0_1) (h:laws_szLogic.f k l0_0 l0_1 a1=some r) :
 Calls Try.prog 15 #[.agg #[.slice A0_0 l0_0.length c0_0,.slice A0_1 l0_1.length c0_1],.int .i64 a1] w fun e w'=>e = .returned (.int .i64 r)∧Below w.heap.size w w':=by
 have hu25:=Try.underlying25
 have HR0_0:=ak hr0_0
 have a5:=ak hc0_0
 clear hr0_0 hc0_0
 have HR0_1:=ak hr0_1
 have a7:=ak hc0_1
 clear hr0_1 hc0_1
 have HB:=ak (Below.refl w.heap.size w)
 have H:((laws_szIntSS.f k l0_0 a1).bind fun a3=>(if a3<0 then (some (-1)) else ((laws_szIntS.f l0_1 a3).bind fun a6=>(if a6<0 then (some (-1)) else (some a6)))))=some r:=h
 clear h
 obtain ⟨a3,A3,H⟩:=bd_ H
 try dsimp only at H
 replace H:=os_ H
 rcases H with ⟨b3,H⟩|⟨b3,H⟩
 ·
  obtain rfl:=Option.some.inj H
  go_enter Try.func15,Try.ntmps15
  go_wp2_with (first|((with_reducible refine gate_dst (N:=2) rfl ?_);refine bx_ (N:=2) (cs:=#[.slice A0_0 l0_0.length c0_0,.slice A0_1 l0_1.length c0_1]) (t:=25) ?_;intro a2 hg w5 hbox hb;have a0:=ak (hbox);have a8:=ak ((by rw [hg];exact (below_size z6_0):w.heap.size≤a2));have a4:=ak ((by rw [hg];exact (below_size z6_0):w.heap.size≤a2));replace HB:=ak (below_step z6_0 hb);clear hb hbox hg;have a9:=cz20 a0.out;have b0:=cz21 a0.out;have b1:=blk_frozen a0.out 0;have b2:=blk_frozen a0.out 1)|((with_reducible refine gate_callee (f:=48) rfl ?_);refine gl_ (some 8) Try.func48 #[.slice A0_0 l0_0.length c0_0,.int .i64 a1] ?_;(with_reducible refine (laws_szIntSS.calls k _ _ l0_0 a1 a3 _ (y3 HR0_0.out HB.out) a5.out A3.out).mono ?_);rintro e w' ⟨rfl,⟨nd,rfl⟩⟩;refine ⟨_,rfl,?_⟩))
  go_ret
  exact ⟨z6_2,z6_1⟩
 obtain ⟨a6,A7,H⟩:=bd_ H
 try dsimp only at H
 replace H:=os_ H
 rcases H with ⟨b4,H⟩|⟨b4,H⟩
 ·
  obtain rfl:=Option.some.inj H
  go_enter Try.func15,Try.ntmps15
  go_wp2_with (first|((with_reducible refine gate_dst (N:=2) rfl ?_);refine bx_ (N:=2) (cs:=#[.slice A0_0 l0_0.length c0_0,.slice A0_1 l0_1.length c0_1]) (t:=25) ?_;intro a2 hg w9 hbox hb;have a0:=ak (hbox);have a8:=ak ((by rw [hg];exact (below_size z6_0):w.heap.size≤a2));have a4:=ak ((by rw [hg];exact (below_size z6_0):w.heap.size≤a2));replace HB:=ak (below_step z6_0 hb);clear hb hbox hg;have a9:=cz20 a0.out;have b0:=cz21 a0.out;have b1:=blk_frozen a0.out 0;have b2:=blk_frozen a0.out 1)|((with_reducible refine gate_callee (f:=48) rfl ?_);refine gl_ (some 8) Try.func48 #[.slice A0_0 l0_0.length c0_0,.int .i64 a1] ?_;(with_reducible refine (laws_szIntSS.calls k _ _ l0_0 a1 a3 _ (y3 HR0_0.out HB.out) a5.out A3.out).mono ?_);rintro e w' ⟨rfl,⟨nd,rfl⟩⟩;refine ⟨_,rfl,?_⟩)|((with_reducible refine gate_callee (f:=49) rfl ?_);refine gl_ (some 14) Try.func49 #[.slice A0_1 l0_1.length c0_1,.int .i64 a3] ?_;(with_reducible refine (laws_szIntS.calls _ _ l0_1 a3 a6 _ z6_3 a7.out A7.out).mono ?_);rintro e w' ⟨rfl,⟨nd,rfl⟩⟩;refine ⟨_,rfl,?_⟩))
  go_ret
  exact ⟨z6_2,z6_1⟩
 obtain rfl:=Option.some.inj H
 go_enter Try.func15,Try.ntmps15
 go_wp2_with (first|((with_reducible refine gate_dst (N:=2) rfl ?_);refine bx_ (N:=2) (cs:=#[.slice A0_0 l0_0.length c0_0,.slice A0_1 l0_1.length c0_1]) (t:=25) ?_;intro a2 hg b5 hbox hb;have a0:=ak (hbox);have a8:=ak ((by rw [hg];exact (below_size z6_0):w.heap.size≤a2));have a4:=ak ((by rw [hg];exact (below_size z6_0):w.heap.size≤a2));replace HB:=ak (below_step z6_0 hb);clear hb hbox hg;have a9:=cz20 a0.out;have b0:=cz21 a0.out;have b1:=blk_frozen a0.out 0;have b2:=blk_frozen a0.out 1)|((with_reducible refine gate_callee (f:=48) rfl ?_);refine gl_ (some 8) Try.func48 #[.slice A0_0 l0_0.length c0_0,.int .i64 a1] ?_;(with_reducible refine (laws_szIntSS.calls k _ _ l0_0 a1 a3 _ (y3 HR0_0.out HB.out) a5.out A3.out).mono ?_);rintro e w' ⟨rfl,⟨nd,rfl⟩⟩;refine ⟨_,rfl,?_⟩)|((with_reducible refine gate_callee (f:=49) rfl ?_);refine gl_ (some 14) Try.func49 #[.slice A0_1 l0_1.length c0_1,.int .i64 a3] ?_;(with_reducible refine (laws_szIntS.calls _ _ l0_1 a3 a6 _ z6_3 a7.out A7.out).mono ?_);rintro e w' ⟨rfl,⟨nd,rfl⟩⟩;refine ⟨_,rfl,?_⟩))
 go_ret
 exact ⟨z6_2,z6_1⟩

end Go.Proofs.Ytlkibgccgkhdmaa.P

namespace Go.Proofs.Ytlkibgccgkhdmaa.P
open Go.RowKit Go.Proofs.YtlkibgccgkhdmaaW.PrintWords Go.Proofs.YtlkibgccgkhdmaaW.PrintLast Go.Proofs.YtlkibgccgkhdmaaW.PrintMore
attribute [local go_sem] max2_int min2_int max_two min_two max_three min_three max_four min_four
set_option linter.unusedVariables false
set_option linter.unusedSimpArgs false
theorem za_0 {p:Prop} (h:p:=by repeat (first|(with_reducible first|exact HB.out|apply below_alloc|apply pw_below_drewN|apply below_drew1)|exact HB.out)):p:=h
set_option maxHeartbeats 8000000 in
set_option maxRecDepth 100000 in
theorem laws_toIntS.calls (k:Nat) (A0:Option Addr) (c0:Nat) (l0:List Int) (r:List Int) (w:World) (hr0:Kd.C (Kd.int .i64) w A0 l0.length l0) (hc0:l0.length≤c0) (h:laws_toIntS.f k l0=some r) :
 Calls Try.prog 40 #[.slice A0 l0.length c0] w fun e w'=>∃ v0_:Value,e = .returned (v0_)∧Kd.R (Kd.int .i64) 3 w' w.heap.size (fun _=>True) v0_ r∧Below w.heap.size w w':=by
 have HR0:=ak hr0
 have b7:=ak hc0
 clear hr0 hc0
 have HB:=ak (Below.refl w.heap.size w)
 have H:(if 0≤(l0.length:Int) then (if ((l0.length:Int):Int).toNat≤35184372088832 then (laws_toIntS.l0 k l0 (List.replicate ((l0.length:Int):Int).toNat 0) 0) else (none)) else (none))=some r:=h
 clear h
 replace H:=ok_ H
 obtain ⟨c2,H⟩:=H
 have a5:=eq_true c2
 have a6:decide (0≤(l0.length:Int))=true:=dT_ c2
 clear c2
 replace H:=ok_ H
 obtain ⟨c3,H⟩:=H
 have a7:=eq_true c3
 have a8:decide (((l0.length:Int):Int).toNat≤35184372088832)=true:=dT_ c3
 clear c3
 obtain ⟨y178,hy178⟩ : ∃ y_:List Int,y_=(List.replicate ((l0.length:Int):Int).toNat 0):=⟨_,rfl⟩
 replace H:(laws_toIntS.l0 k l0 y178 0)=some r:=by first|(rw [hy178];with_reducible exact H)|(have H2_:=(Option.bind_some _ _).symm.trans H;rw [hy178];with_reducible exact H2_)|(have H2_:=(Option.bind_some _ _).symm.trans H;with_reducible exact H2_)|with_reducible exact H|(rw [hy178];exact H)|exact H
 have Ny178:=ak hy178
 clear hy178
 have H':=ak H
 clear H
 go_enter Try.func40,Try.ntmps40
 go_wp2_with (first|((with_reducible refine gate_dst (N:=7) rfl ?_);refine Kd.R_make (Kd.int .i64) _ 3 rfl (N:=7) rfl 23 _ _ rfl (l0.length:Int) rfl rfl Try.underlying23 (.int .i64 0) 8 info3 rfl (by decide) (by omega) 0 (ok:=fun _=>True) (okp:=fun _=>True) rfl (fun _ hk=>hk) trivial (oa_) (Nat.le_trans (Nat.mul_le_mul_right _ (oa_:(l0.length:Int).toNat≤35184372088832)) (by omega)) (Below.refl _ _) (Nat.le_refl _) ?_;intro a9 w4 ho5 hb hg_ hnew_;clear hg_ hnew_;(first|rw [← Ny178.out] at ho5|(simp only [Int.reduceToNat] at ho5;rw [← Ny178.out] at ho5));have a4:=ak (Kd.R_lower ho5 (below_size za_0));replace HB:=ak (below_step za_0 hb);clear hb ho5))
 go_loopg [4] k (fun kq v4 w'=>∃ (a1:List Int) (a0:Int),v4 = .int .i64 a0∧Aside0 (laws_toIntS.l0 kq l0 a1 a0=some r)∧Aside0 (kq≤k)∧Aside0 (Kd.R (Kd.int .i64) 3 w' w.heap.size (fun _=>True) a9 a1)∧Aside0 (Below w.heap.size w w'))
 case atStart=>exact ⟨(y178),(0),(by first|rfl|(simp;done)|(simp [*];done)),H',⟨Nat.le_refl _⟩,⟨(xR a4.out)⟩,⟨za_0⟩⟩
 case round =>
  clear H'
  try clear c2
  try clear a5
  try clear a6
  try clear c3
  try clear a7
  try clear a8
  obtain ⟨a1,a0,rfl,HA,HK1,a2,HB⟩:=hrel
  cases gk with
  | zero=>exact absurd HA.out (by simp [laws_toIntS.l0])
  | succ k1 =>
   have H:=HA.out
   clear HA
   simp only [laws_toIntS.l0] at H
   replace H:=os_ H
   rcases H with ⟨b0,H⟩|⟨b0,H⟩
   ·
    replace H:=od2 H
    obtain ⟨b4,b5,H⟩:=H
    obtain ⟨y182,hy182⟩ : ∃ y_:List Int,y_=(a1.set (a0:Int).toNat (rd l0 a0)):=⟨_,rfl⟩
    replace H:(laws_toIntS.l0 k1 l0 y182 (wrap64 (a0+1)))=some r:=by first|(rw [hy182];with_reducible exact H)|(have H2_:=(Option.bind_some _ _).symm.trans H;rw [hy182];with_reducible exact H2_)|(have H2_:=(Option.bind_some _ _).symm.trans H;with_reducible exact H2_)|with_reducible exact H|(rw [hy182];exact H)|exact H
    have Ny182:=ak hy182
    clear hy182
    have H':=ak H
    clear H
    have a3:0≤(a0:Int):=oa_
    have q181:a0<(l0.length:Int):=oa_
    obtain ⟨ad181,e181,hx181_0⟩:=Kd.at_int HR0.out a0 a3 q181
    cases e181
    replace hx181_0:=(HB.out.cell (World.block_lt_of_cell? w _ hx181_0)).trans hx181_0
    replace a3:=eq_true a3
    replace q181:=eq_true q181
    have p9:0≤(a0:Int):=oa_
    have q9:(a0:Int)<((a1.length:Int):Int):=oa_
    obtain ⟨go9,b6,b2,b3,gl9,cl9,HG9⟩:=Kd.R_form a2.out (by omega)
    (first|cases b2|(injection b2 with ea_ en_ ec_;(first|subst ea_|(injection ea_ with ea_;subst ea_));subst ec_;clear en_))
    have GB9:=ak b3
    have GG9:=ak HG9
    clear b3 gl9 HG9
    obtain ⟨hx9_0,hf9_0⟩:=Kd.R_celln 0 a2.out (a0:Int) p9 q9
    replace p9:=eq_true p9
    replace q9:=eq_true q9
    have HP10:=Kd.R_putg a2.out (a0:Int) (rd l0 a0)
    go_wp2_with (first|((with_reducible refine gate_store (t:=3) (p:=20) rfl ?_);refine store_event (t:=3) (p:=20) (v:=?vo_w11) (w1:=(wr.setCell ⟨go9,(a0:Int).toNat,none⟩ (.int .i64 (rd l0 a0)))) ?hg ?ho ?hn ?hr ?_;(case ho=>rfl);(case hg=>rfl);(case hn=>rfl);(case hr=>first|(go_simp;done)|(go_simp;rfl));intro b1 hw;have hg:wr.grownBy b1 (some go9):=(by rw [hw];exact HP10.2);have hp_:Kd.R (Kd.int .i64) 3 b1 w.heap.size (fun _=>True) (.slice (some ⟨go9,0,none⟩) a1.length b6) y182:=(by rw [hw,Ny182.out];exact HP10.1);clear HP10;replace a2:=ak (hp_);replace HB:=ak ((by rw [hw];exact below_set (HB.out) GB9.out:Below w.heap.size w b1));clear hg hw hp_))
    go_roundg k1
    case measure=>have:=HK1.out;omega
    case rel=>exact ⟨(y182),(wrap64 (a0+1)),(by first|rfl|(simp;done)|(simp [*];done)),H',⟨(by have:=HK1.out;omega)⟩,⟨(xR a2.out)⟩,⟨za_0⟩⟩
   obtain rfl:=Option.some.inj H
   go_wp2
   go_ret
   exact ⟨_,(by first|rfl|(simp [errW_none,errW_some] <;> rfl)|(simp [*,errW_none,errW_some] <;> rfl)),(xR a2.out),za_0⟩

end Go.Proofs.Ytlkibgccgkhdmaa.P

namespace Go.Proofs.Ytlkibgccgkhdmaa.P
open Go.RowKit Go.Proofs.YtlkibgccgkhdmaaW.PrintWords Go.Proofs.YtlkibgccgkhdmaaW.PrintLast Go.Proofs.YtlkibgccgkhdmaaW.PrintMore
attribute [local go_sem] max2_int min2_int max_two min_two max_three min_three max_four min_four
set_option linter.unusedVariables false
set_option linter.unusedSimpArgs false
theorem zb_0 {p:Prop} (h:p:=by repeat (first|(with_reducible first|exact HB.out|apply below_alloc|apply pw_below_drewN|apply below_drew1)|exact HB.out)):p:=h
set_option maxHeartbeats 8000000 in
set_option maxRecDepth 100000 in
theorem laws_toIntSS.calls (k:Nat) (A0:Option Addr) (c0:Nat) (l0:List (List Int)) (r:List (List Int)) (w:World) (hr0:Kd.C (Kd.slice 3 (Kd.int .i64)) w A0 l0.length l0) (hc0:l0.length≤c0) (h:laws_toIntSS.f k l0=some r) :
 Calls Try.prog 52 #[.slice A0 l0.length c0] w fun e w'=>∃ v0_:Value,e = .returned (v0_)∧Kd.S (Kd.slice 3 (Kd.int .i64)) 23 w' w.heap.size (fun _=>True) v0_ r∧Below w.heap.size w w':=by
 have HR0:=ak hr0
 have d5:=ak hc0
 clear hr0 hc0
 have HB:=ak (Below.refl w.heap.size w)
 have H:(if 0≤(l0.length:Int) then (if ((l0.length:Int):Int).toNat≤11728124029610 then (laws_toIntSS.l0 k l0 (List.replicate ((l0.length:Int):Int).toNat []) 0) else (none)) else (none))=some r:=h
 clear h
 replace H:=ok_ H
 obtain ⟨c2,H⟩:=H
 have b4:=eq_true c2
 have b5:decide (0≤(l0.length:Int))=true:=dT_ c2
 clear c2
 replace H:=ok_ H
 obtain ⟨c3,H⟩:=H
 have b6:=eq_true c3
 have b7:decide (((l0.length:Int):Int).toNat≤11728124029610)=true:=dT_ c3
 clear c3
 obtain ⟨y183,hy183⟩ : ∃ y_:List (List Int),y_=(List.replicate ((l0.length:Int):Int).toNat []):=⟨_,rfl⟩
 replace H:(laws_toIntSS.l0 k l0 y183 0)=some r:=by first|(rw [hy183];with_reducible exact H)|(have H2_:=(Option.bind_some _ _).symm.trans H;rw [hy183];with_reducible exact H2_)|(have H2_:=(Option.bind_some _ _).symm.trans H;with_reducible exact H2_)|with_reducible exact H|(rw [hy183];exact H)|exact H
 have Ny183:=ak hy183
 clear hy183
 have H':=ak H
 clear H
 go_enter Try.func52,Try.ntmps52
 go_wp2_with (first|((with_reducible refine gate_dst (N:=7) rfl ?_);refine Kd.S_make (Kd.slice 3 (Kd.int .i64)) _ 23 rfl (N:=7) rfl 22 _ _ rfl (l0.length:Int) rfl rfl Try.underlying22 (.slice none 0 0) 24 info23 rfl (by decide) (by omega) [] (ok:=fun _=>True) (okp:=fun _=>True) ⟨_,rfl,Kd.R_nil _ _ _ _ _⟩ (fun _ hk=>hk) trivial (oa_) (Nat.le_trans (Nat.mul_le_mul_right _ (oa_:(l0.length:Int).toNat≤11728124029610)) (by omega)) (Below.refl _ _) (Nat.le_refl _) ?_;intro b8 w4 ho5 hb hg_ hnew_;clear hg_ hnew_;(first|rw [← Ny183.out] at ho5|(simp only [Int.reduceToNat] at ho5;rw [← Ny183.out] at ho5));have b0:=ak (Kd.S_lower ho5 (below_size zb_0));replace HB:=ak (below_step zb_0 hb);clear hb ho5))
 go_loopg [4] k (fun kq v4 w'=>∃ (a2:List (List Int)) (a0:Int),v4 = .int .i64 a0∧Aside0 (laws_toIntSS.l0 kq l0 a2 a0=some r)∧Aside0 (kq≤k)∧Aside0 (Kd.S (Kd.slice 3 (Kd.int .i64)) 23 w' w.heap.size (fun _=>True) b8 a2)∧Aside0 (Below w.heap.size w w'))
 case atStart=>exact ⟨(y183),(0),(by first|rfl|(simp;done)|(simp [*];done)),H',⟨Nat.le_refl _⟩,⟨(xS b0.out)⟩,⟨zb_0⟩⟩
 case round =>
  clear H'
  try clear c2
  try clear b4
  try clear b5
  try clear c3
  try clear b6
  try clear b7
  obtain ⟨a2,a0,rfl,HA,HK1,a1,HB⟩:=hrel
  cases gk with
  | zero=>exact absurd HA.out (by simp [laws_toIntSS.l0])
  | succ k1 =>
   have H:=HA.out
   clear HA
   simp only [laws_toIntSS.l0] at H
   replace H:=os_ H
   rcases H with ⟨b9,H⟩|⟨b9,H⟩
   ·
    replace H:=od_ H
    obtain ⟨d3,H⟩:=H
    obtain ⟨a6,A8,H⟩:=bd_ H
    replace H:=od_ H
    obtain ⟨d4,H⟩:=H
    obtain ⟨y190,hy190⟩ : ∃ y_:List (List Int),y_=(a2.set (a0:Int).toNat a6):=⟨_,rfl⟩
    replace H:(laws_toIntSS.l0 k1 l0 y190 (wrap64 (a0+1)))=some r:=by first|(rw [hy190];with_reducible exact H)|(have H2_:=(Option.bind_some _ _).symm.trans H;rw [hy190];with_reducible exact H2_)|(have H2_:=(Option.bind_some _ _).symm.trans H;with_reducible exact H2_)|with_reducible exact H|(rw [hy190];exact H)|exact H
    have Ny190:=ak hy190
    clear hy190
    have H':=ak H
    clear H
    have a7:0≤(a0:Int):=oa_
    have q186:a0<(l0.length:Int):=oa_
    obtain ⟨ad186,a8,a9,e186,hx186_0,hl186_0,hi186_0⟩:=at_L1 HR0.out a0 a7 q186
    cases e186
    replace hx186_0:=(HB.out.cell (World.block_lt_of_cell? w _ hx186_0)).trans hx186_0
    have HR186_0:=ak hi186_0
    have a4:=ak hl186_0
    clear hi186_0 hl186_0
    replace a7:=eq_true a7
    replace q186:=eq_true q186
    go_wp2_with (first|((with_reducible refine gate_callee (f:=40) rfl ?_);refine gl_ (some 20) Try.func40 #[.slice a8 (rd_L1 l0 a0).length a9] ?_;(with_reducible refine (laws_toIntS.calls k1 _ _ (rd_L1 l0 a0) a6 _ (y3 HR186_0.out HB.out) a4.out A8.out).mono ?_);rintro e d0 ⟨a5,rfl,ho0,hb⟩;refine ⟨_,rfl,?_⟩;replace a1:=ak (Kd.S_elder' (xS a1.out) (Kd.R_base ho0) hb);have a3:=ak (Kd.R_lower ho0 (below_size zb_0));replace HB:=ak (below_step zb_0 hb);(try clear hb);(try clear hb2);(try clear hk);(try clear hi);(try clear ho0);have d1:0≤(a0:Int):=oa_;have q10:(a0:Int)<((a2.length:Int):Int):=oa_;obtain ⟨go10,b1,b2,b3,gl10,cl10,HG10⟩:=Kd.S_form a1.out (by omega);(first|cases b2|(injection b2 with ea_ en_ ec_;(first|subst ea_|(injection ea_ with ea_;subst ea_));subst ec_;clear en_));have GB10:=ak b3;have GG10:=ak HG10;clear b3 gl10 HG10;obtain ⟨_,ce10,hcl10,hM10,hcc10,hfr10,_,_⟩:=Kd.S_elem a1.out [] (a0:Int) d1 q10;obtain ⟨ve10_0,rfl,ge10_0⟩:=hM10;have hx10_0:=hcc10 0 _ rfl;have hf10_0:=hfr10 0;(try simp only [show ((Kd.slice 3 (Kd.int .i64))).sz=1 from rfl,Nat.mul_one,Nat.add_zero] at hx10_0);(try simp only [show ((Kd.slice 3 (Kd.int .i64))).sz=1 from rfl,Nat.mul_one,Nat.add_zero] at hf10_0);clear hcl10 hcc10 hfr10;(try clear hM10);replace d1:=eq_true d1;replace q10:=eq_true q10;have n_:=ak (Kd.S_mono (ok':=(fun k_=>some k_≠(a5:Value).ownBlock)) a1.out (fun k_ hk=>hk.2));clear a1;have a1:=n_;clear n_;have HX12:=ak (show Kd.S (Kd.slice 3 (Kd.int .i64)) 23 d0 w.heap.size (fun k_=>((fun _=>True)) k_∧¬((fun k_=>some k_=(a5:Value).ownBlock)) k_) (.slice (some ⟨go10,0,none⟩) a2.length b1) a2 from (by (with_reducible repeat (first|apply Kd.S_alloc|apply Kd.S_drewN|apply Kd.S_drew));exact Kd.S_mono a1.out (fun k_ hk=>⟨trivial,fun e_=>hk e_⟩)));obtain ⟨oki12,ce12,hcl12,hM12,hcc12,hfr12,hoki12,hH12⟩:=Kd.S_elem HX12.out [] (a0:Int) (oa_) (by have h_:(a0:Int)<((a2.length:Int):Int):=oa_;first|exact h_|(have e_:=(Kd.S_reads' a1.out).1;omega)|simpa using h_);obtain ⟨ve12_0,rfl,ge12_0⟩:=hM12;have HP12:=Kd.S_seg hH12 (oa_) (by have h_:(a0:Int)<((a2.length:Int):Int):=oa_;first|exact h_|(have e_:=(Kd.S_reads' a1.out).1;omega)|simpa using h_) (seg:=[a5]) (j:=0) (show 1≤1 from by decide) (x':=a6) (Kd.M_row (Kd.R_mono (Kd.R_tight rfl (Kd.R_mono (ok':=fun k_=>((fun _=>True)) k_∧k_≠go10) (Kd.R_apart' (a3.out) (Kd.S_typed a1.out) (by decide)) (fun k_ hk=>⟨trivial,fun e_=>(hk.2) (by rw [e_];rfl)⟩))) (fun _ h_=>Or.inr (h_)))) (fun _ hk=>hk) (fun k_ hk_=>((Kd.R_mono (ok':=fun k_=>((fun _=>True)) k_∧k_≠go10) (Kd.R_apart' (a3.out) (Kd.S_typed a1.out) (by decide)) (fun k_ hk=>⟨trivial,fun e_=>(hk.2) (by rw [e_];rfl)⟩))).1 k_ hk_.symm);have hx12_0:=hcc12 0 _ rfl;(try simp only [show ((Kd.slice 3 (Kd.int .i64))).sz=1 from rfl,Nat.mul_one,Nat.add_zero] at hx12_0);have hf12_0:=hfr12 0;(try simp only [show ((Kd.slice 3 (Kd.int .i64))).sz=1 from rfl,Nat.mul_one,Nat.add_zero] at hf12_0);clear hcl12 hcc12 hfr12 hoki12 hH12;(try clear hM12);(try simp only [show ((Kd.slice 3 (Kd.int .i64))).sz=1 from rfl,Nat.mul_one,Nat.add_zero] at HP12))|((with_reducible refine gate_store (t:=23) (p:=21) rfl ?_);refine store_event (t:=23) (p:=21) (v:=?vo_w13) (w1:=(d0.setCell ⟨go10,(a0:Int).toNat,none⟩ (a5))) ?hg ?ho ?hn ?hr ?_;(case ho=>rfl);(case hg=>rfl);(case hn=>rfl);(case hr=>first|(go_simp;done)|(go_simp;rfl)|(obtain ⟨_,_,e_⟩:=Kd.R_slice a3.out;rw [e_];first|(go_simp;done)|(go_simp;rfl)));intro d2 hw;have hg:d0.grownBy d2 (some go10):=(by rw [hw];exact HP12.2);have hp_:Kd.S (Kd.slice 3 (Kd.int .i64)) 23 d2 w.heap.size (fun _=>True) (.slice (some ⟨go10,0,none⟩) a2.length b1) y190:=(by rw [hw,Ny190.out];exact HP12.1);clear HP12;replace a1:=ak (hp_);replace HB:=ak ((by rw [hw];exact below_set (HB.out) GB10.out:Below w.heap.size w d2));clear a3;clear hg hw hp_))
    go_roundg k1
    case measure=>have:=HK1.out;omega
    case rel=>exact ⟨(y190),(wrap64 (a0+1)),(by first|rfl|(simp;done)|(simp [*];done)),H',⟨(by have:=HK1.out;omega)⟩,⟨(xS a1.out)⟩,⟨zb_0⟩⟩
   obtain rfl:=Option.some.inj H
   go_wp2
   go_ret
   exact ⟨_,(by first|rfl|(simp [errW_none,errW_some] <;> rfl)|(simp [*,errW_none,errW_some] <;> rfl)),(xS a1.out),zb_0⟩

end Go.Proofs.Ytlkibgccgkhdmaa.P

namespace Go.Proofs.Ytlkibgccgkhdmaa.P
open Go.RowKit Go.Proofs.YtlkibgccgkhdmaaW.PrintWords Go.Proofs.YtlkibgccgkhdmaaW.PrintLast Go.Proofs.YtlkibgccgkhdmaaW.PrintMore
attribute [local go_sem] max2_int min2_int max_two min_two max_three min_three max_four min_four
set_option linter.unusedVariables false
set_option linter.unusedSimpArgs false
theorem z9_3 {p:Prop} (h:p:=by repeat (first|(with_reducible first|exact HB.out|apply below_alloc|apply pw_below_drewN|apply below_drew1)|exact HB.out)):p:=h
theorem z9_2 {p:Prop} (h:p:=by repeat (first|(with_reducible first|exact HB.out|apply below_alloc|apply pw_below_drewN|apply below_drew1|refine below_set ?_ d1.out)|exact HB.out)):p:=h
theorem z9_1 {p:Prop} (h:p:=by repeat (first|(with_reducible first|exact HB.out|apply below_alloc|apply pw_below_drewN|apply below_drew1|refine below_set ?_ d1.out|refine below_set ?_ d4.out)|exact HB.out)):p:=h
theorem z9_0 {p:Prop} (h:p:=by repeat (first|(with_reducible first|exact HB.out|apply below_alloc|apply pw_below_drewN|apply below_drew1|refine below_set ?_ d1.out|refine below_set ?_ d4.out|refine below_set ?_ d6.out)|exact HB.out)):p:=h
set_option maxHeartbeats 8000000 in
set_option maxRecDepth 100000 in
theorem laws_toLogic.calls (k:Nat) (A0_0:Option Addr) (c0_0:Nat) (l0_0:List (List Int)) (A0_1:Option Addr) (c0_1:Nat) (l0_1:List Int) (r1:List (List Int)) (r2:List Int) (w:World) (hr0_0:Kd.C (Kd.slice 3 (Kd.int .i64)) w A0_0 l0_0.length l0_0) (hc0_0:l0_0.length≤c0_0) (hr0_1:Kd.C (Kd.int .i64) w A0_1 l0_1.length l0_1) (hc0_1:l0_1.length≤c0_1) (h:laws_toLogic.f k l0_0 l0_1=some (r1,r2)) :
 Calls Try.prog 17 #[.agg #[.slice A0_0 l0_0.length c0_0,.slice A0_1 l0_1.length c0_1]] w fun e w'=>∃ v0_ v1_:Value,e = .returned (.agg #[v0_,v1_])∧Kd.S (Kd.slice 3 (Kd.int .i64)) 23 w' w.heap.size (fun k_=>some k_≠(v1_:Value).ownBlock) v0_ r1∧Kd.R (Kd.int .i64) 3 w' w.heap.size (fun _=>True) v1_ r2∧Below w.heap.size w w':=by
 have hu25:=Try.underlying25
 have hu29:=Try.underlying29
 have HR0_0:=ak hr0_0
 have d7:=ak hc0_0
 clear hr0_0 hc0_0
 have HR0_1:=ak hr0_1
 have d8:=ak hc0_1
 clear hr0_1 hc0_1
 have HB:=ak (Below.refl w.heap.size w)
 have H:((laws_toIntSS.f k l0_0).bind fun a8=>((laws_toIntS.f k l0_1).bind fun a9=>(some (a8,a9))))=some (r1,r2):=h
 clear h
 obtain ⟨a8,A2,H⟩:=bd_ H
 obtain ⟨a9,A3,H⟩:=bd_ H
 try dsimp only at H
 simp only [Option.some.injEq,Prod.mk.injEq] at H
 obtain ⟨rfl,rfl⟩:=H
 go_enter Try.func17,Try.ntmps17
 go_wp2_with (first|((with_reducible refine gate_dst (N:=1) rfl ?_);refine bx_ (N:=1) (cs:=#[.slice A0_0 l0_0.length c0_0,.slice A0_1 l0_1.length c0_1]) (t:=25) ?_;intro a4 hg w4 hbox hb;have a0:=ak (hbox);have e1:=ak ((by rw [hg];exact (below_size z9_3):w.heap.size≤a4));have d1:=ak ((by rw [hg];exact (below_size z9_3):w.heap.size≤a4));replace HB:=ak (below_step z9_3 hb);clear hb hbox hg)|((with_reducible refine gate_dst (N:=2) rfl ?_);refine bx_ (N:=2) (cs:=#[.slice none 0 0,.slice none 0 0]) (t:=29) ?_;intro a1 hg w5 hbox hb;have a2:=ak (hbox);have e2:=ak ((by rw [hg];exact (below_size z9_2):w.heap.size≤a1));have d4:=ak ((by rw [hg];exact (below_size z9_2):w.heap.size≤a1));replace HB:=ak (below_step z9_2 hb);have b5:=ak ((by rw [hg];exact Nat.ne_of_lt (blk_lt (g:=a4) (o:=.cells #[.slice A0_0 l0_0.length c0_0,.slice A0_1 l0_1.length c0_1] 25 (0,0)) (xb a0.out)):a4≠a1));have b6:=ak ((by rw [hg];exact Nat.ne_of_gt (blk_lt (g:=a4) (o:=.cells #[.slice A0_0 l0_0.length c0_0,.slice A0_1 l0_1.length c0_1] 25 (0,0)) (xb a0.out)):a1≠a4));replace a0:=ak (blk_below (g:=a4) (o:=.cells #[.slice A0_0 l0_0.length c0_0,.slice A0_1 l0_1.length c0_1] 25 (0,0)) (xb a0.out) hb);clear hb hbox hg)|((with_reducible refine gate_dst (N:=3) rfl ?_);refine bx_ (N:=3) (cs:=#[.slice none 0 0,.slice none 0 0]) (t:=29) ?_;intro a5 hg w6 hbox hb;have a3:=ak (hbox);have e3:=ak ((by rw [hg];exact (below_size z9_1):w.heap.size≤a5));have d6:=ak ((by rw [hg];exact (below_size z9_1):w.heap.size≤a5));replace HB:=ak (below_step z9_1 hb);have a7:=ak ((by rw [hg];exact Nat.ne_of_lt (blk_lt (g:=a4) (o:=.cells #[.slice A0_0 l0_0.length c0_0,.slice A0_1 l0_1.length c0_1] 25 (0,0)) (xb a0.out)):a4≠a5));have b7:=ak ((by rw [hg];exact Nat.ne_of_gt (blk_lt (g:=a4) (o:=.cells #[.slice A0_0 l0_0.length c0_0,.slice A0_1 l0_1.length c0_1] 25 (0,0)) (xb a0.out)):a5≠a4));replace a0:=ak (blk_below (g:=a4) (o:=.cells #[.slice A0_0 l0_0.length c0_0,.slice A0_1 l0_1.length c0_1] 25 (0,0)) (xb a0.out) hb);have a6:=ak ((by rw [hg];exact Nat.ne_of_lt (blk_lt (g:=a1) (o:=.cells #[.slice none 0 0,.slice none 0 0] 29 (0,0)) (xb a2.out)):a1≠a5));have b8:=ak ((by rw [hg];exact Nat.ne_of_gt (blk_lt (g:=a1) (o:=.cells #[.slice none 0 0,.slice none 0 0] 29 (0,0)) (xb a2.out)):a5≠a1));replace a2:=ak (blk_below (g:=a1) (o:=.cells #[.slice none 0 0,.slice none 0 0] 29 (0,0)) (xb a2.out) hb);clear hb hbox hg;have e6:=b5.out;have e7:=b6.out;have e8:=a7.out;have e9:=b7.out;have b0:=cz20 a0.out;have b1:=cz21 a0.out;have b2:=blk_frozen a0.out 0;have b3:=blk_frozen a0.out 1)|((with_reducible refine gate_callee (f:=52) rfl ?_);refine gl_ (some 6) Try.func52 #[.slice A0_0 l0_0.length c0_0] ?_;(with_reducible refine (laws_toIntSS.calls k _ _ l0_0 a8 _ (y3 HR0_0.out HB.out) d7.out A2.out).mono ?_);rintro e w' ⟨f0,rfl,ho0,hb⟩;refine ⟨_,rfl,?_⟩;have b4:=ak (Kd.S_lower ho0 (below_size z9_0));replace a0:=ak (blk_below (g:=a4) (o:=.cells #[.slice A0_0 l0_0.length c0_0,.slice A0_1 l0_1.length c0_1] 25 (0,0)) (xb a0.out) hb);replace a2:=ak (blk_below (g:=a1) (o:=.cells #[.slice none 0 0,.slice none 0 0] 29 (0,0)) (xb a2.out) hb);replace a3:=ak (blk_below (g:=a5) (o:=.cells #[.slice none 0 0,.slice none 0 0] 29 (0,0)) (xb a3.out) hb);replace HB:=ak (below_step z9_0 hb);(try clear hb);(try clear hb2);(try clear hk);(try clear hi);(try clear ho0);obtain ⟨b9,d0,d9⟩:=Kd.S_slice b4.out;subst d9;have e4:=b8.out;have e5:=a6.out;have b0:=cz20 a3.out;have b1:=cz21 a3.out;have b2:=blk_frozen a3.out 0;have b3:=blk_frozen a3.out 1;have b0:=cz20 a0.out;have b1:=cz21 a0.out;have b2:=blk_frozen a0.out 0;have b3:=blk_frozen a0.out 1)|((with_reducible refine gate_callee (f:=40) rfl ?_);refine gl_ (some 10) Try.func40 #[.slice A0_1 l0_1.length c0_1] ?_;(with_reducible refine (laws_toIntS.calls k _ _ l0_1 a9 _ (by exact Kd.C_below HR0_1.out z9_0) d8.out A3.out).mono ?_);rintro e w' ⟨f1,rfl,ho0,hb⟩;refine ⟨_,rfl,?_⟩;replace b4:=ak (Kd.S_elder' (by (with_reducible repeat (first|apply Kd.S_alloc|apply Kd.S_drewN|apply Kd.S_drew));exact (Kd.S_mono (Kd.S_far (p:=⟨a5,0,none⟩) (Kd.S_types b4.out a3.out (by decide)) (fun _ hk=>hk.2) (.slice b9 a8.length d0)) (fun _ h_=>h_.1))) (Kd.R_base ho0) hb);have d5:=ak (Kd.R_lower ho0 (below_size z9_0));replace a0:=ak (blk_below (g:=a4) (o:=.cells #[.slice A0_0 l0_0.length c0_0,.slice A0_1 l0_1.length c0_1] 25 (0,0)) (by (with_reducible repeat (first|refine blk_drewN ?_ _|refine blk_drew ?_|refine blk_alloc ?_ _));refine blk_far ?_ a7.out _;(with_reducible repeat (first|refine blk_drewN ?_ _|refine blk_drew ?_|refine blk_alloc ?_ _));exact a0.out) hb);replace a2:=ak (blk_below (g:=a1) (o:=.cells #[.slice none 0 0,.slice none 0 0] 29 (0,0)) (by (with_reducible repeat (first|refine blk_drewN ?_ _|refine blk_drew ?_|refine blk_alloc ?_ _));refine blk_far ?_ a6.out _;(with_reducible repeat (first|refine blk_drewN ?_ _|refine blk_drew ?_|refine blk_alloc ?_ _));exact a2.out) hb);replace a3:=ak (blk_below (g:=a5) (o:=.cells #[.slice b9 a8.length d0,.slice none 0 0] 29 (0,0)) (by (with_reducible repeat (first|refine blk_drewN ?_ _|refine blk_drew ?_|refine blk_alloc ?_ _));refine blk_put (cs:=#[.slice none 0 0,.slice none 0 0]) ?_ 0 _ rfl;(with_reducible repeat (first|refine blk_drewN ?_ _|refine blk_drew ?_|refine blk_alloc ?_ _));exact a3.out) hb);replace HB:=ak (below_step z9_0 hb);(try clear hb);(try clear hb2);(try clear hk);(try clear hi);(try clear ho0);obtain ⟨d2,d3,e0⟩:=Kd.R_slice d5.out;subst e0;have b0:=cz20 a3.out;have b1:=cz21 a3.out;have b2:=blk_frozen a3.out 0;have b3:=blk_frozen a3.out 1;have b0:=cz20 a2.out;have b1:=cz21 a2.out;have b2:=blk_frozen a2.out 0;have b3:=blk_frozen a2.out 1))
 refine bodyPost_ret (results_cell_row rfl _ _ a1 29 #[.slice b9 a8.length d0,.slice d2 a9.length d3] (0,0) _ rfl (by (with_reducible repeat (first|refine blk_drewN ?_ _|refine blk_drew ?_|refine blk_alloc ?_ _));refine blk_put (cs:=#[.slice b9 a8.length d0,.slice none 0 0]) ?_ 1 _ rfl;(with_reducible repeat (first|refine blk_drewN ?_ _|refine blk_drew ?_|refine blk_alloc ?_ _));refine blk_put (cs:=#[.slice none 0 0,.slice none 0 0]) ?_ 0 _ rfl;(with_reducible repeat (first|refine blk_drewN ?_ _|refine blk_drew ?_|refine blk_alloc ?_ _));refine blk_far ?_ a6.out _;(with_reducible repeat (first|refine blk_drewN ?_ _|refine blk_drew ?_|refine blk_alloc ?_ _));exact a2.out) Try.underlying29 rfl (by kernel_rfl)) rfl ?_
 exact ⟨_,_,(by first|rfl|(simp [errW_none,errW_some] <;> rfl)|(simp [*,errW_none,errW_some] <;> rfl)),(by (with_reducible repeat (first|apply Kd.S_alloc|apply Kd.S_drewN|apply Kd.S_drew));exact Kd.S_mono (Kd.S_far (p:=⟨a1,1,none⟩) (Kd.S_far (p:=⟨a1,0,none⟩) (Kd.S_far (p:=⟨a5,1,none⟩) (Kd.S_types (Kd.S_types b4.out a3.out (by decide)) a2.out (by decide)) (fun _ hk=>hk.1.2) (.slice d2 a9.length d3)) (fun _ hk=>hk.2) (.slice b9 a8.length d0)) (fun _ hk=>hk.2) (.slice d2 a9.length d3)) (fun _ hk=>hk.1.1.2)),(by (with_reducible repeat (first|apply Kd.R_alloc|apply Kd.R_drewN|apply Kd.R_drew));exact Kd.R_mono (Kd.R_far (p:=⟨a1,1,none⟩) (Kd.R_far (p:=⟨a1,0,none⟩) (Kd.R_far (p:=⟨a5,1,none⟩) (Kd.R_types (Kd.R_types d5.out a3.out (by decide)) a2.out (by decide)) (fun _ hk=>hk.1.2) (.slice d2 a9.length d3)) (fun _ hk=>hk.2) (.slice b9 a8.length d0)) (fun _ hk=>hk.2) (.slice d2 a9.length d3)) (fun _ hk=>trivial)),z9_0⟩

end Go.Proofs.Ytlkibgccgkhdmaa.P

namespace Go.Proofs.Ytlkibgccgkhdmaa.P
open Go.RowKit Go.Proofs.YtlkibgccgkhdmaaW.PrintWords Go.Proofs.YtlkibgccgkhdmaaW.PrintLast Go.Proofs.YtlkibgccgkhdmaaW.PrintMore
attribute [local go_sem] max2_int min2_int max_two min_two max_three min_three max_four min_four
set_option linter.unusedVariables false
set_option linter.unusedSimpArgs false
theorem zc_2 {p:Prop} (h:p:=by first|rfl|(simp;done)|(simp [*];done)):p:=h
theorem zc_1 {p:Prop} (h:p:=by repeat (first|(with_reducible first|exact HB.out|apply below_alloc|apply pw_below_drewN|apply below_drew1)|exact HB.out)):p:=h
theorem zc_0 {p:Prop} (h:p:=by repeat (first|(with_reducible first|exact HK.out|apply Kept.alloc|apply Kept.drewN|apply Kept.drew)|exact HK.out)):p:=h
set_option maxHeartbeats 8000000 in
set_option maxRecDepth 100000 in
theorem laws_markIntS.calls (k:Nat) (P0_:Nat→Prop) (u9000_:Value) (l0:List Int) (a1:Int) (r1:Int) (r2:List Int) (w0 w:World) (hB:Below w0.heap.size w0 w) (ho0:Kd.R (Kd.int .i64) 3 w w0.heap.size P0_ u9000_ l0) (h:laws_markIntS.f k l0 a1=some (r1,r2)) :
 Calls Try.prog 26 #[u9000_,.int .i64 a1] w fun e w'=>e = .returned (.int .i64 r1)∧Kd.R (Kd.int .i64) 3 w' w0.heap.size (fun k_=>(P0_ k_∨w.heap.size≤k_)) u9000_ r2∧Below w0.heap.size w0 w'∧Kept w w' (fun k_=>P0_ k_):=by
 have a8:=ak (show Kd.R (Kd.int .i64) 3 w w0.heap.size (fun k_=>(P0_ k_∨w.heap.size≤k_)) u9000_ l0 from Kd.R_mono ho0 (fun k_ hk=>(.inl hk)))
 have HK:=ak (Kept.refl w (fun k_=>P0_ k_))
 have HW0:=ak hB.size
 have HB:=ak hB
 clear hB
 have H:(laws_markIntS.l0 k l0 a1 0)=some (r1,r2):=h
 clear h
 have H':=ak H
 clear H
 go_enter Try.func26,Try.ntmps26
 go_wp2
 go_loopg [1,5] k (fun kq v1 v5 w'=>∃ (a4:List Int) (a3:Int) (a0:Int),v1 = .int .i64 a3∧v5 = .int .i64 a0∧Aside0 (laws_markIntS.l0 kq a4 a3 a0=some (r1,r2))∧Aside0 (kq≤k)∧Aside0 (Kd.R (Kd.int .i64) 3 w' w0.heap.size (fun k_=>(P0_ k_∨w.heap.size≤k_)) u9000_ a4)∧Aside0 (Kept w w' (fun k_=>P0_ k_))∧Aside0 (Below w0.heap.size w0 w'))
 case atStart=>exact ⟨(l0),(a1),(0),zc_2,zc_2,H',⟨Nat.le_refl _⟩,⟨(xR a8.out)⟩,⟨zc_0⟩,⟨zc_1⟩⟩
 case round =>
  clear H'
  obtain ⟨a4,a3,a0,rfl,rfl,HA,HK1,a2,HK,HB⟩:=hrel
  cases gk with
  | zero=>exact absurd HA.out (by simp [laws_markIntS.l0])
  | succ k1 =>
   have H:=HA.out
   clear HA
   simp only [laws_markIntS.l0] at H
   replace H:=os_ H
   rcases H with ⟨a5,H⟩|⟨a5,H⟩
   ·
    replace H:=od_ H
    obtain ⟨a9,H⟩:=H
    obtain ⟨y331,hy331⟩ : ∃ y_:List Int,y_=(a4.set (a0:Int).toNat a3):=⟨_,rfl⟩
    replace H:(laws_markIntS.l0 k1 y331 (wrap64 (a3+1)) (wrap64 (a0+1)))=some (r1,r2):=by first|(rw [hy331];with_reducible exact H)|(have H2_:=(Option.bind_some _ _).symm.trans H;rw [hy331];with_reducible exact H2_)|(have H2_:=(Option.bind_some _ _).symm.trans H;with_reducible exact H2_)|with_reducible exact H|(rw [hy331];exact H)|exact H
    have Ny331:=ak hy331
    clear hy331
    have H':=ak H
    clear H
    obtain ⟨b3,b0,b1⟩:=Kd.R_slice a2.out
    subst b1
    have p5:0≤(a0:Int):=oa_
    have q5:(a0:Int)<((a4.length:Int):Int):=oa_
    obtain ⟨go5,b4,a6,a7,gl5,cl5,HG5⟩:=Kd.R_form a2.out (by omega)
    (first|cases a6|(injection a6 with ea_ en_ ec_;(first|subst ea_|(injection ea_ with ea_;subst ea_));subst ec_;clear en_))
    have GB5:=ak a7
    have GG5:=ak HG5
    clear a7 gl5 HG5
    have HMgo5:=ak (show (P0_ go5∨w.heap.size≤go5) from (a2.out.1 _ rfl))
    obtain ⟨hx5_0,hf5_0⟩:=Kd.R_celln 0 a2.out (a0:Int) p5 q5
    replace p5:=eq_true p5
    replace q5:=eq_true q5
    have HP7:=Kd.R_putg a2.out (a0:Int) a3
    go_wp2_with (first|((with_reducible refine gate_store (t:=3) (p:=15) rfl ?_);refine store_event (t:=3) (p:=15) (v:=?vo_w8) (w1:=(wr.setCell ⟨go5,(a0:Int).toNat,none⟩ (.int .i64 a3))) ?hg ?ho ?hn ?hr ?_;(case ho=>rfl);(case hg=>rfl);(case hn=>rfl);(case hr=>first|(go_simp;done)|(go_simp;rfl));intro w8 hw;have hg:wr.grownBy w8 (some go5):=(by rw [hw];exact HP7.2);have hp_:Kd.R (Kd.int .i64) 3 w8 w0.heap.size (fun k_=>(P0_ k_∨w.heap.size≤k_)) (.slice (some ⟨go5,0,none⟩) a4.length b0) y331:=(by rw [hw,Ny331.out];exact HP7.1);clear HP7;replace HB:=ak ((by rw [hw];exact below_set (HB.out) GB5.out:Below w0.heap.size w0 w8));replace HK:=ak (Kept.of_grown (S:=(fun k_=>P0_ k_)) hg zc_0 (fun k_ e_=>(a2.out.1 k_ e_)));replace a2:=ak (hp_);clear hg hw hp_))
    go_roundg k1
    case measure=>have:=HK1.out;omega
    case rel=>exact ⟨(y331),(wrap64 (a3+1)),(wrap64 (a0+1)),zc_2,zc_2,H',⟨(by have:=HK1.out;omega)⟩,⟨(xR a2.out)⟩,⟨zc_0⟩,⟨zc_1⟩⟩
   simp only [Option.some.injEq,Prod.mk.injEq] at H
   obtain ⟨rfl,rfl⟩:=H
   obtain ⟨b5,b6,b2⟩:=Kd.R_slice a2.out
   subst b2
   go_wp2
   go_ret
   exact ⟨(by first|rfl|(simp [errW_none,errW_some] <;> rfl)|(simp [*,errW_none,errW_some] <;> rfl)),(xR a2.out),zc_1,zc_0⟩

end Go.Proofs.Ytlkibgccgkhdmaa.P

namespace Go.Proofs.Ytlkibgccgkhdmaa.P
open Go.RowKit Go.Proofs.YtlkibgccgkhdmaaW.PrintWords Go.Proofs.YtlkibgccgkhdmaaW.PrintLast Go.Proofs.YtlkibgccgkhdmaaW.PrintMore
attribute [local go_sem] max2_int min2_int max_two min_two max_three min_three max_four min_four
set_option linter.unusedVariables false
set_option linter.unusedSimpArgs false
set_option maxHeartbeats 8000000 in
set_option maxRecDepth 100000 in
theorem impl_isAnswer.calls (A0:Option Addr) (c0:Nat) (l0:List (List Int)) (a1:Int) (r:Bool) (w:World) (hr0:Kd.C (Kd.slice 3 (Kd.int .i64)) w A0 l0.length l0) (hc0:l0.length≤c0) (h:impl_isAnswer.f l0 a1=some r) :
 Calls Try.prog 96 #[.slice A0 l0.length c0,.int .i64 a1] w fun e w'=>e = .returned (.bool r)∧Drawn0 w w':=by
 have HR0:=ak hr0
 have a2:=ak hc0
 clear hr0 hc0
 have H:(if a1≥0 then (some (decide (a1<(l0.length:Int)))) else (some false))=some r:=h
 clear h
 replace H:=op_ H
 rcases H with ⟨c3,H⟩|⟨c3,H⟩
 ·
  have a0:decide (0≤a1)=true:=dT_ c3
  clear c3
  obtain rfl:=Option.some.inj H
  go_enter Try.func96,Try.ntmps96
  go_wp2
  go_ret
  exact ⟨(by first|rfl|(simp;done)|(simp [*];done)),(by repeat (first|exact Drawn0.refl _|apply Drawn0.step))⟩
 have a0:decide (0≤a1)=false:=dF_ c3
 clear c3
 obtain rfl:=Option.some.inj H
 go_enter Try.func96,Try.ntmps96
 go_wp2
 go_ret
 exact ⟨(by first|rfl|(simp;done)|(simp [*];done)),(by repeat (first|exact Drawn0.refl _|apply Drawn0.step))⟩

end Go.Proofs.Ytlkibgccgkhdmaa.P

namespace Go.Proofs.Ytlkibgccgkhdmaa.P
open Go.RowKit Go.Proofs.YtlkibgccgkhdmaaW.PrintWords Go.Proofs.YtlkibgccgkhdmaaW.PrintLast Go.Proofs.YtlkibgccgkhdmaaW.PrintMore
attribute [local go_sem] max2_int min2_int max_two min_two max_three min_three max_four min_four
set_option linter.unusedVariables false
set_option linter.unusedSimpArgs false
theorem zo_2 {p:Prop} (h:p:=by have:=HK1.out;have:=b0.out;have:=HK3.out;omega):p:=h
theorem zo_1 {p:Prop} (h:p:=by repeat (first|exact Drawn0.refl _|apply Drawn0.step)):p:=h
theorem zo_0 {p:Prop} (h:p:=by first|rfl|(simp;done)|(simp [*];done)):p:=h
set_option maxHeartbeats 8000000 in
set_option maxRecDepth 100000 in
theorem impl_meet.calls (k:Nat) (A0:Option Addr) (c0:Nat) (l0:List (List Int)) (a1:Int) (a2:Int) (r:Int) (w:World) (hr0:Kd.C (Kd.slice 3 (Kd.int .i64)) w A0 l0.length l0) (hc0:l0.length≤c0) (h:impl_meet.f k l0 a1 a2=some r) :
 Calls Try.prog 94 #[.slice A0 l0.length c0,.int .i64 a1,.int .i64 a2] w fun e w'=>e = .returned (.int .i64 r)∧Drawn0 w w':=by
 have HR0:=ak hr0
 have g9:=ak hc0
 clear hr0 hc0
 have H:(impl_meet.l0 k l0 a1 a2 (l0.length:Int) 0)=some r:=h
 clear h
 have H':=ak H
 clear H
 go_enter Try.func94,Try.ntmps94
 go_wp2
 go_loopg [12] k (fun kq f9 w'=>∃ (a0:Int),f9 = .int .i64 a0∧Aside0 (impl_meet.l0 kq l0 a1 a2 (l0.length:Int) a0=some r)∧Aside0 (kq≤k)∧Drawn0 w w')
 case atStart=>exact ⟨(0),zo_0,H',⟨Nat.le_refl _⟩,zo_1⟩
 case round =>
  clear H'
  obtain ⟨a0,rfl,HA,HK1,⟨m1,rfl⟩⟩:=hrel
  cases gk with
  | zero=>exact absurd HA.out (by simp [impl_meet.l0])
  | succ k1 =>
   have H:=HA.out
   clear HA
   simp only [impl_meet.l0] at H
   replace H:=os_ H
   rcases H with ⟨b1,H⟩|⟨b1,H⟩
   ·
    have d9:=ak H
    clear H
    go_upto_region 4 with (fail)
    go_cut [32] (fun g0 wc=>∃ (kq:Nat) (a5:Bool),g0 = .bool a5∧Aside0 (impl_meet.j1 kq l0 a1 a2 a0 (l0.length:Int) a0 a5=some r)∧Aside0 (kq≤k1)∧Drawn0 w wc)
    case first =>
     have H:=d9.out
     clear d9
     replace H:=od_ H
     obtain ⟨b7,H⟩:=H
     (first|rw [b7]|(simp only [i64_w,i32_w];rw [b7])|skip)
     replace H:=od3 H
     obtain ⟨g1,g2,g3,H⟩:=H
     replace H:=oe2 H
     rcases H with ⟨⟨-,b8,b9⟩,H⟩|⟨⟨h0,b8,b9⟩,H⟩
     ·
      have H':=ak H
      clear H
      obtain ⟨ad213,b2,b3,e213,hx213_0,a8,HR213_0,e0,q213⟩:=al_ HR0.out a0
      cases e213
      obtain ⟨ad214,e214,hx214_0,e1,q214⟩:=ai_ HR213_0.out a1
      cases e214
      go_wp2
      go_meet
      case rel=>exact ⟨_,(true),zo_0,H',⟨(by have:=HK1.out;first|omega|exact Nat.le_refl _)⟩,zo_1⟩
     replace H:=od2 H
     obtain ⟨e9,f0,H⟩:=H
     have H':=ak H
     clear H
     obtain ⟨ad213,b2,b3,e213,hx213_0,a8,HR213_0,e0,q213⟩:=al_ HR0.out a0
     cases e213
     obtain ⟨ad214,e214,hx214_0,e1,q214⟩:=ai_ HR213_0.out a1
     cases e214
     obtain ⟨ad215,e2,e3,e215,hx215_0,d7,HR215_0,g4,q215⟩:=al_ HR0.out a0
     obtain rfl:=ij_ e215
     obtain ⟨rfl,rfl⟩:=is_ hx213_0 hx215_0
     obtain ⟨ad216,e216,hx216_0,g5,q216⟩:=ai_ HR215_0.out a2
     cases e216
     go_wp2
     go_meet
     case rel=>exact ⟨_,(((rd (rd_L1 l0 a0) a2)==0)),zo_0,H',⟨(by have:=HK1.out;first|omega|exact Nat.le_refl _)⟩,zo_1⟩
    case rest =>
     clear d9
     try clear c4
     try clear b1
     obtain ⟨kq,a5,rfl,HA,b0,⟨mc4,rfl⟩⟩:=hcut
     cases kq with
     | zero=>exact absurd HA.out (by simp [impl_meet.j1])
     | succ e4 =>
      have H:=HA.out
      clear HA
      simp only [impl_meet.j1] at H
      replace H:=ox_ H
      rcases H with ⟨rfl,H⟩|⟨rfl,H⟩
      ·
       have H':=ak H
       clear H
       go_wp2
       go_roundg e4
       case measure=>have:=HK1.out;have:=b0.out;omega
       case rel=>exact ⟨(wrap64 (a0+1)),zo_0,H',⟨(by have:=HK1.out;have:=b0.out;omega)⟩,zo_1⟩
      have H':=ak H
      clear H
      go_wp2
      go_loopg [8,35] e4 (fun kq v8 g6 w'=>∃ (b4:Bool) (a3:Int),v8 = .bool b4∧g6 = .int .i64 a3∧Aside0 (impl_meet.l1 kq l0 a1 a2 a0 b4 (l0.length:Int) a0 (l0.length:Int) a3=some r)∧Aside0 (kq≤e4)∧Drawn0 w w')
      case atStart=>exact ⟨(true),(0),zo_0,zo_0,H',⟨Nat.le_refl _⟩,zo_1⟩
      case round =>
       clear H'
       try clear c4
       try clear b1
       try clear h1
       obtain ⟨b4,a3,rfl,rfl,HA,HK3,⟨m3,rfl⟩⟩:=hrel
       cases gk with
       | zero=>exact absurd HA.out (by simp [impl_meet.l1])
       | succ k3 =>
        have H:=HA.out
        clear HA
        simp only [impl_meet.l1] at H
        replace H:=os_ H
        rcases H with ⟨d0,H⟩|⟨d0,H⟩
        ·
         replace H:=ox_ H
         rcases H with ⟨rfl,H⟩|⟨rfl,H⟩
         ·
          replace H:=od4 H
          obtain ⟨f1,f2,f3,f4,H⟩:=H
          replace H:=oe2 H
          rcases H with ⟨⟨-,d1,d2⟩,H⟩|⟨⟨h2,d1,d2⟩,H⟩
          ·
           have H':=ak H
           clear H
           obtain ⟨ad217,a6,a7,e217,hx217_0,a4,HR217_0,d3,q217⟩:=al_ HR0.out a3
           cases e217
           obtain ⟨ad218,e218,hx218_0,d4,q218⟩:=ai_ HR217_0.out a1
           cases e218
           go_wp2
           go_roundg k3
           case measure=>have:=HK1.out;have:=b0.out;have:=HK3.out;omega
           case rel=>exact ⟨(true),(wrap64 (a3+1)),zo_0,zo_0,H',⟨zo_2⟩,zo_1⟩
          replace H:=od2 H
          obtain ⟨f5,f6,H⟩:=H
          replace H:=oe2 H
          rcases H with ⟨⟨-,d5,d6⟩,H⟩|⟨⟨h3,d5,d6⟩,H⟩
          ·
           have H':=ak H
           clear H
           obtain ⟨ad217,a6,a7,e217,hx217_0,a4,HR217_0,d3,q217⟩:=al_ HR0.out a3
           cases e217
           obtain ⟨ad218,e218,hx218_0,d4,q218⟩:=ai_ HR217_0.out a1
           cases e218
           obtain ⟨ad219,b5,b6,e219,hx219_0,a9,HR219_0,e5,q219⟩:=al_ HR0.out a3
           obtain rfl:=ij_ e219
           obtain ⟨rfl,rfl⟩:=is_ hx217_0 hx219_0
           obtain ⟨ad220,e220,hx220_0,e6,q220⟩:=ai_ HR219_0.out a2
           cases e220
           go_wp2
           go_roundg k3
           case measure=>have:=HK1.out;have:=b0.out;have:=HK3.out;omega
           case rel=>exact ⟨(true),(wrap64 (a3+1)),zo_0,zo_0,H',⟨zo_2⟩,zo_1⟩
          replace H:=od2 H
          obtain ⟨f7,f8,H⟩:=H
          have H':=ak H
          clear H
          obtain ⟨ad217,a6,a7,e217,hx217_0,a4,HR217_0,d3,q217⟩:=al_ HR0.out a3
          cases e217
          obtain ⟨ad218,e218,hx218_0,d4,q218⟩:=ai_ HR217_0.out a1
          cases e218
          obtain ⟨ad219,b5,b6,e219,hx219_0,a9,HR219_0,e5,q219⟩:=al_ HR0.out a3
          obtain rfl:=ij_ e219
          obtain ⟨rfl,rfl⟩:=is_ hx217_0 hx219_0
          obtain ⟨ad220,e220,hx220_0,e6,q220⟩:=ai_ HR219_0.out a2
          cases e220
          obtain ⟨ad221,e7,e8,e221,hx221_0,d8,HR221_0,g7,q221⟩:=al_ HR0.out a3
          obtain rfl:=ij_ e221
          obtain ⟨rfl,rfl⟩:=is_ hx217_0 hx221_0
          obtain ⟨ad222,e222,hx222_0,g8,q222⟩:=ai_ HR221_0.out a0
          cases e222
          go_wp2
          go_roundg k3
          case measure=>have:=HK1.out;have:=b0.out;have:=HK3.out;omega
          case rel=>exact ⟨(((rd (rd_L1 l0 a3) a0)==1)),(wrap64 (a3+1)),zo_0,zo_0,H',⟨zo_2⟩,zo_1⟩
         have H':=ak H
         clear H
         go_wp2
         go_roundg k3
         case measure=>have:=HK1.out;have:=b0.out;have:=HK3.out;omega
         case rel=>exact ⟨(false),(wrap64 (a3+1)),zo_0,zo_0,H',⟨zo_2⟩,zo_1⟩
        replace H:=ox_ H
        rcases H with ⟨rfl,H⟩|⟨rfl,H⟩
        ·
         obtain rfl:=Option.some.inj H
         go_wp2
         go_ret
         exact ⟨zo_0,zo_1⟩
        have H':=ak H
        clear H
        go_wp2
        go_roundg k3
        case measure=>have:=HK1.out;have:=b0.out;have:=HK3.out;omega
        case rel=>exact ⟨(wrap64 (a0+1)),zo_0,H',⟨zo_2⟩,zo_1⟩
   obtain rfl:=Option.some.inj H
   go_wp2
   go_ret
   exact ⟨zo_0,zo_1⟩

end Go.Proofs.Ytlkibgccgkhdmaa.P

namespace Go.Proofs.Ytlkibgccgkhdmaa.P
open Go.RowKit Go.Proofs.YtlkibgccgkhdmaaW.PrintWords Go.Proofs.YtlkibgccgkhdmaaW.PrintLast Go.Proofs.YtlkibgccgkhdmaaW.PrintMore
attribute [local go_sem] max2_int min2_int max_two min_two max_three min_three max_four min_four
set_option linter.unusedVariables false
set_option linter.unusedSimpArgs false
theorem zp_3 {p:Prop} (h:p:=by have:=a9.out;have:=HK2.out;have:=d7.out;have:=HK4.out;have:=d3.out;omega):p:=h
theorem zp_2 {p:Prop} (h:p:=by have:=a9.out;have:=HK2.out;have:=HK3.out;have:=HK4.out;have:=HK5.out;omega):p:=h
theorem zp_1 {p:Prop} (h:p:=by first|rfl|(simp;done)|(simp [*];done)):p:=h
theorem zp_0 {p:Prop} (h:p:=by repeat (first|exact Drawn0.refl _|apply Drawn0.step)):p:=h
set_option maxHeartbeats 8000000 in
set_option maxRecDepth 100000 in
theorem impl_OrderOk.calls (k:Nat) (A0:Option Addr) (c0:Nat) (l0:List (List Int)) (r:Bool) (w:World) (hr0:Kd.C (Kd.slice 3 (Kd.int .i64)) w A0 l0.length l0) (hc0:l0.length≤c0) (h:impl_OrderOk.f k l0=some r) :
 Calls Try.prog 104 #[.slice A0 l0.length c0] w fun e w'=>e = .returned (.bool r)∧Drawn0 w w':=by
 have HR0:=ak hr0
 have m8:=ak hc0
 clear hr0 hc0
 have H:(if (l0.length:Int)<1 then (impl_OrderOk.j0 k l0 (l0.length:Int) true) else (impl_OrderOk.j0 k l0 (l0.length:Int) (decide ((l0.length:Int)>12))))=some r:=h
 clear h
 have h4:=ak H
 clear H
 go_enter Try.func104,Try.ntmps104
 go_upto_region 2 with (fail)
 go_cut [18] (fun k8 wc=>∃ (kq:Nat) (b6:Bool),k8 = .bool b6∧Aside0 (impl_OrderOk.j0 kq l0 (l0.length:Int) b6=some r)∧Aside0 (kq≤k)∧Drawn0 w wc)
 case first =>
  have H:=h4.out
  clear h4
  replace H:=op_ H
  rcases H with ⟨c3,H⟩|⟨c3,H⟩
  ·
   have b7:decide ((l0.length:Int)<1)=true:=dT_ c3
   have h5:decide (l0.length<1)=true:=dT_ (by omega)
   clear c3
   (first|rw [b7]|(simp only [i64_w,i32_w];rw [b7])|skip)
   have H':=ak H
   clear H
   go_wp2
   go_meet
   case rel=>exact ⟨_,(true),zp_1,H',⟨(by first|omega|exact Nat.le_refl _)⟩,zp_0⟩
  have b7:decide ((l0.length:Int)<1)=false:=dF_ c3
  have h5:decide (l0.length<1)=false:=dF_ (by omega)
  clear c3
  (first|rw [b7]|(simp only [i64_w,i32_w];rw [b7])|skip)
  have H':=ak H
  clear H
  go_wp2
  go_meet
  case rel=>exact ⟨_,(decide ((l0.length:Int)>12)),zp_1,H',⟨(by first|omega|exact Nat.le_refl _)⟩,zp_0⟩
 case rest =>
  clear h4
  obtain ⟨kq,b6,rfl,HA,a9,⟨mc1,rfl⟩⟩:=hcut
  cases kq with
  | zero=>exact absurd HA.out (by simp [impl_OrderOk.j0])
  | succ i6 =>
   have H:=HA.out
   clear HA
   simp only [impl_OrderOk.j0] at H
   replace H:=ox_ H
   rcases H with ⟨rfl,H⟩|⟨rfl,H⟩
   ·
    obtain rfl:=Option.some.inj H
    go_wp2
    go_ret
    exact ⟨zp_1,zp_0⟩
   have H':=ak H
   clear H
   go_wp2
   go_loopg [21] i6 (fun kq k9 w'=>∃ (a0:Int),k9 = .int .i64 a0∧Aside0 (impl_OrderOk.l0 kq l0 (l0.length:Int) l0 (l0.length:Int) a0=some r)∧Aside0 (kq≤i6)∧Drawn0 w w')
   case atStart=>exact ⟨(0),zp_1,H',⟨Nat.le_refl _⟩,zp_0⟩
   case round =>
    clear H'
    try clear c4
    obtain ⟨a0,rfl,HA,HK2,⟨m2,rfl⟩⟩:=hrel
    cases gk with
    | zero=>exact absurd HA.out (by simp [impl_OrderOk.l0])
    | succ k2 =>
     have H:=HA.out
     clear HA
     simp only [impl_OrderOk.l0] at H
     replace H:=os_ H
     rcases H with ⟨b1,H⟩|⟨b1,H⟩
     ·
      replace H:=od2 H
      obtain ⟨e0,e1,H⟩:=H
      have h6:=ak H
      clear H
      obtain ⟨ad223,h7,h8,e223,hx223_0,h3,HR223_0,e2,q223⟩:=al_ HR0.out a0
      cases e223
      go_upto_region 7 with (fail)
      go_cut [36] (fun l5 wc=>∃ (kq:Nat) (b8:Bool),l5 = .bool b8∧Aside0 (impl_OrderOk.j2 kq l0 (l0.length:Int) a0 (rd_L1 l0 a0) l0 (l0.length:Int) a0 b8=some r)∧Aside0 (kq≤k2)∧Drawn0 w wc)
      case first =>
       have H:=h6.out
       clear h6
       replace H:=oe2 H
       rcases H with ⟨⟨c9,b9,h9⟩,H⟩|⟨⟨c9,b9,h9⟩,H⟩
       ·
        have i0:((rd_L1 l0 a0).length==l0.length)=true:=by first|simpa using c9|(simp at c9 ⊢;omega)
        clear c9
        (first|rw [b9]|(simp only [i64_w,i32_w];rw [b9])|skip)
        replace H:=od_ H
        obtain ⟨i7,H⟩:=H
        have H':=ak H
        clear H
        obtain ⟨ad224,e224,hx224_0,l6,q224⟩:=ai_ HR223_0.out a0
        cases e224
        go_wp2
        go_meet
        case rel=>exact ⟨_,(((rd (rd_L1 l0 a0) a0) != 1)),zp_1,H',⟨(by have:=a9.out;have:=HK2.out;first|omega|exact Nat.le_refl _)⟩,zp_0⟩
       have i0:((rd_L1 l0 a0).length==l0.length)=false:=by first|simpa using c9|(simp at c9 ⊢;omega)
       (first|rw [b9]|(simp only [i64_w,i32_w];rw [b9])|skip)
       have H':=ak H
       clear H
       go_wp2
       go_meet
       case rel=>exact ⟨_,(true),zp_1,H',⟨(by have:=a9.out;have:=HK2.out;first|omega|exact Nat.le_refl _)⟩,zp_0⟩
      case rest =>
       clear h6
       try clear c4
       try clear c5
       try clear b1
       try clear c6
       try clear e0
       try clear c7
       try clear e1
       try clear hx223_0
       try clear e2
       try clear q223
       obtain ⟨kq,b8,rfl,HA,d7,⟨mc7,rfl⟩⟩:=hcut
       cases kq with
       | zero=>exact absurd HA.out (by simp [impl_OrderOk.j2])
       | succ i8 =>
        have H:=HA.out
        clear HA
        simp only [impl_OrderOk.j2] at H
        replace H:=ox_ H
        rcases H with ⟨rfl,H⟩|⟨rfl,H⟩
        ·
         obtain rfl:=Option.some.inj H
         go_wp2
         go_ret
         exact ⟨zp_1,zp_0⟩
        have H':=ak H
        clear H
        go_wp2
        go_loopg [39] i8 (fun kq l7 w'=>∃ (a1:Int),l7 = .int .i64 a1∧Aside0 (impl_OrderOk.l1 kq l0 (l0.length:Int) a0 l0 (l0.length:Int) a0 (rd_L1 l0 a0) ((rd_L1 l0 a0).length:Int) a1=some r)∧Aside0 (kq≤i8)∧Drawn0 w w')
        case atStart=>exact ⟨(0),zp_1,H',⟨Nat.le_refl _⟩,zp_0⟩
        case round =>
         clear H'
         try clear c4
         try clear c5
         try clear b1
         try clear c6
         try clear e0
         try clear c7
         try clear e1
         try clear l8
         try clear hx223_0
         try clear e2
         try clear q223
         obtain ⟨a1,rfl,HA,HK4,⟨m4,rfl⟩⟩:=hrel
         cases gk with
         | zero=>exact absurd HA.out (by simp [impl_OrderOk.l1])
         | succ k4 =>
          have H:=HA.out
          clear HA
          simp only [impl_OrderOk.l1] at H
          replace H:=os_ H
          rcases H with ⟨d8,H⟩|⟨d8,H⟩
          ·
           replace H:=od2 H
           obtain ⟨f2,f3,H⟩:=H
           have e3:=ak H
           clear H
           obtain ⟨ad225,e225,hx225_0,i1,q225⟩:=ai_ HR223_0.out a1
           cases e225
           go_upto_region 12 with (fail)
           go_cut [49] (fun l9 wc=>∃ (kq:Nat) (b2:Bool),l9 = .bool b2∧Aside0 (impl_OrderOk.j4 kq l0 (l0.length:Int) a0 a1 (rd (rd_L1 l0 a0) a1) l0 (l0.length:Int) a0 (rd_L1 l0 a0) ((rd_L1 l0 a0).length:Int) a1 b2=some r)∧Aside0 (kq≤k4)∧Drawn0 w wc)
           case first =>
            have H:=e3.out
            clear e3
            replace H:=oe2 H
            rcases H with ⟨⟨-,b0,f4⟩,H⟩|⟨⟨m9,b0,f4⟩,H⟩
            ·
             (first|rw [b0]|(simp only [i64_w,i32_w];rw [b0])|skip)
             have H':=ak H
             clear H
             go_wp2
             go_meet
             case rel=>exact ⟨_,(false),zp_1,H',⟨(by have:=a9.out;have:=HK2.out;have:=d7.out;have:=HK4.out;first|omega|exact Nat.le_refl _)⟩,zp_0⟩
            (first|rw [b0]|(simp only [i64_w,i32_w];rw [b0])|skip)
            have H':=ak H
            clear H
            go_wp2
            go_meet
            case rel=>exact ⟨_,(((rd (rd_L1 l0 a0) a1) != 1)),zp_1,H',⟨(by have:=a9.out;have:=HK2.out;have:=d7.out;have:=HK4.out;first|omega|exact Nat.le_refl _)⟩,zp_0⟩
           case rest =>
            clear e3
            try clear c4
            try clear c5
            try clear b1
            try clear c6
            try clear e0
            try clear c7
            try clear e1
            try clear l8
            try clear n0
            try clear d8
            try clear n1
            try clear f2
            try clear n2
            try clear f3
            try clear hx223_0
            try clear hx225_0
            try clear e2
            try clear i1
            try clear q223
            try clear q225
            obtain ⟨kq,b2,rfl,HA,d3,⟨mc14,rfl⟩⟩:=hcut
            cases kq with
            | zero=>exact absurd HA.out (by simp [impl_OrderOk.j4])
            | succ e4 =>
             have H:=HA.out
             clear HA
             simp only [impl_OrderOk.j4] at H
             replace H:=ox_ H
             rcases H with ⟨rfl,H⟩|⟨rfl,H⟩
             ·
              obtain rfl:=Option.some.inj H
              go_wp2
              go_ret
              exact ⟨zp_1,zp_0⟩
             replace H:=od2 H
             obtain ⟨i9,j1,H⟩:=H
             replace H:=oe2 H
             rcases H with ⟨⟨f1,f5,f6⟩,H⟩|⟨⟨f1,f5,f6⟩,H⟩
             ·
              have f7:((rd_L1 l0 a1).length==l0.length)=true:=by first|simpa using f1|(simp at f1 ⊢;omega)
              clear f1
              replace H:=oe2 H
              rcases H with ⟨⟨-,f8,f9⟩,H⟩|⟨⟨n3,f8,f9⟩,H⟩
              ·
               replace H:=oe2 H
               rcases H with ⟨⟨-,g0,g1⟩,H⟩|⟨⟨n4,g0,g1⟩,H⟩
               ·
                have H':=ak H
                clear H
                obtain ⟨ad226,a6,a7,e226,hx226_0,a5,HR226_0,d4,q226⟩:=al_ HR0.out a1
                obtain rfl:=ij_ e226
                go_wp2
                go_roundg e4
                case measure=>have:=a9.out;have:=HK2.out;have:=d7.out;have:=HK4.out;have:=d3.out;omega
                case rel=>exact ⟨(wrap64 (a1+1)),zp_1,H',⟨zp_3⟩,zp_0⟩
               replace H:=od2 H
               obtain ⟨j3,j5,H⟩:=H
               replace H:=oe2 H
               rcases H with ⟨⟨-,g2,g3⟩,H⟩|⟨⟨n5,g2,g3⟩,H⟩
               ·
                obtain rfl:=Option.some.inj H
                obtain ⟨ad226,a6,a7,e226,hx226_0,a5,HR226_0,d4,q226⟩:=al_ HR0.out a1
                obtain rfl:=ij_ e226
                obtain ⟨ad227,e5,e6,e227,hx227_0,d5,HR227_0,i2,q227⟩:=al_ HR0.out a1
                obtain rfl:=ij_ e227
                obtain ⟨rfl,rfl⟩:=is_ hx226_0 hx227_0
                obtain ⟨ad228,e228,hx228_0,i3,q228⟩:=ai_ HR227_0.out a0
                cases e228
                go_wp2
                go_ret
                exact ⟨zp_1,zp_0⟩
               have H':=ak H
               clear H
               obtain ⟨ad226,a6,a7,e226,hx226_0,a5,HR226_0,d4,q226⟩:=al_ HR0.out a1
               obtain rfl:=ij_ e226
               obtain ⟨ad227,e5,e6,e227,hx227_0,d5,HR227_0,i2,q227⟩:=al_ HR0.out a1
               obtain rfl:=ij_ e227
               obtain ⟨rfl,rfl⟩:=is_ hx226_0 hx227_0
               obtain ⟨ad228,e228,hx228_0,i3,q228⟩:=ai_ HR227_0.out a0
               cases e228
               go_wp2
               go_roundg e4
               case measure=>have:=a9.out;have:=HK2.out;have:=d7.out;have:=HK4.out;have:=d3.out;omega
               case rel=>exact ⟨(wrap64 (a1+1)),zp_1,H',⟨zp_3⟩,zp_0⟩
              have H':=ak H
              clear H
              obtain ⟨ad226,a6,a7,e226,hx226_0,a5,HR226_0,d4,q226⟩:=al_ HR0.out a1
              obtain rfl:=ij_ e226
              go_wp2
              go_roundg e4
              case measure=>have:=a9.out;have:=HK2.out;have:=d7.out;have:=HK4.out;have:=d3.out;omega
              case rel=>exact ⟨(wrap64 (a1+1)),zp_1,H',⟨zp_3⟩,zp_0⟩
             have f7:((rd_L1 l0 a1).length==l0.length)=false:=by first|simpa using f1|(simp at f1 ⊢;omega)
             obtain rfl:=Option.some.inj H
             obtain ⟨ad226,a6,a7,e226,hx226_0,a5,HR226_0,d4,q226⟩:=al_ HR0.out a1
             obtain rfl:=ij_ e226
             go_wp2
             go_ret
             exact ⟨zp_1,zp_0⟩
          have H':=ak H
          clear H
          go_wp2
          go_roundg k4
          case measure=>have:=a9.out;have:=HK2.out;have:=d7.out;have:=HK4.out;omega
          case rel=>exact ⟨(wrap64 (a0+1)),zp_1,H',⟨(by have:=a9.out;have:=HK2.out;have:=d7.out;have:=HK4.out;omega)⟩,zp_0⟩
     have H':=ak H
     clear H
     go_wp2
     go_loopg [79] k2 (fun kq m0 w'=>∃ (a2:Int),m0 = .int .i64 a2∧Aside0 (impl_OrderOk.l2 kq l0 (l0.length:Int) (l0.length:Int) a2=some r)∧Aside0 (kq≤k2)∧Drawn0 w w')
     case atStart=>exact ⟨(0),zp_1,H',⟨Nat.le_refl _⟩,zp_0⟩
     case round =>
      clear H'
      try clear c4
      try clear c5
      try clear b1
      obtain ⟨a2,rfl,HA,HK3,⟨m3,rfl⟩⟩:=hrel
      cases gk with
      | zero=>exact absurd HA.out (by simp [impl_OrderOk.l2])
      | succ k3 =>
       have H:=HA.out
       clear HA
       simp only [impl_OrderOk.l2] at H
       replace H:=os_ H
       rcases H with ⟨d0,H⟩|⟨d0,H⟩
       ·
        have H':=ak H
        clear H
        go_wp2
        go_loopg [83] k3 (fun kq m1 w'=>∃ (a3:Int),m1 = .int .i64 a3∧Aside0 (impl_OrderOk.l3 kq l0 (l0.length:Int) a2 (l0.length:Int) a2 (l0.length:Int) a3=some r)∧Aside0 (kq≤k3)∧Drawn0 w w')
        case atStart=>exact ⟨(0),zp_1,H',⟨Nat.le_refl _⟩,zp_0⟩
        case round =>
         clear H'
         try clear c4
         try clear c5
         try clear b1
         try clear m6
         try clear d0
         obtain ⟨a3,rfl,HA,HK4,⟨m4,rfl⟩⟩:=hrel
         cases gk with
         | zero=>exact absurd HA.out (by simp [impl_OrderOk.l3])
         | succ k4 =>
          have H:=HA.out
          clear HA
          simp only [impl_OrderOk.l3] at H
          replace H:=os_ H
          rcases H with ⟨d9,H⟩|⟨d9,H⟩
          ·
           have H':=ak H
           clear H
           go_wp2
           go_loopg [87] k4 (fun kq m7 w'=>∃ (a4:Int),m7 = .int .i64 a4∧Aside0 (impl_OrderOk.l4 kq l0 (l0.length:Int) a2 a3 (l0.length:Int) a2 (l0.length:Int) a3 (l0.length:Int) a4=some r)∧Aside0 (kq≤k4)∧Drawn0 w w')
           case atStart=>exact ⟨(0),zp_1,H',⟨Nat.le_refl _⟩,zp_0⟩
           case round =>
            clear H'
            try clear c4
            try clear c5
            try clear b1
            try clear m6
            try clear d0
            try clear n6
            try clear d9
            obtain ⟨a4,rfl,HA,HK5,⟨m5,rfl⟩⟩:=hrel
            cases gk with
            | zero=>exact absurd HA.out (by simp [impl_OrderOk.l4])
            | succ k5 =>
             have H:=HA.out
             clear HA
             simp only [impl_OrderOk.l4] at H
             replace H:=os_ H
             rcases H with ⟨g4,H⟩|⟨g4,H⟩
             ·
              replace H:=od4 H
              obtain ⟨j6,j7,j8,j9,H⟩:=H
              replace H:=oe2 H
              rcases H with ⟨⟨-,g5,g6⟩,H⟩|⟨⟨n7,g5,g6⟩,H⟩
              ·
               replace H:=od3 H
               obtain ⟨k0,k1,k6,H⟩:=H
               replace H:=oe2 H
               rcases H with ⟨⟨-,g7,g8⟩,H⟩|⟨⟨n8,g7,g8⟩,H⟩
               ·
                replace H:=od_ H
                obtain ⟨k7,H⟩:=H
                replace H:=oe2 H
                rcases H with ⟨⟨-,g9,h0⟩,H⟩|⟨⟨n9,g9,h0⟩,H⟩
                ·
                 have H':=ak H
                 clear H
                 obtain ⟨ad229,b3,b4,e229,hx229_0,a8,HR229_0,e7,q229⟩:=al_ HR0.out a2
                 cases e229
                 obtain ⟨ad230,e230,hx230_0,e8,q230⟩:=ai_ HR229_0.out a3
                 cases e230
                 obtain ⟨ad231,d1,d2,e231,hx231_0,b5,HR231_0,h1,q231⟩:=al_ HR0.out a3
                 obtain rfl:=ij_ e231
                 obtain ⟨ad232,e232,hx232_0,h2,q232⟩:=ai_ HR231_0.out a4
                 cases e232
                 obtain ⟨ad233,e9,f0,e233,hx233_0,d6,HR233_0,i4,q233⟩:=al_ HR0.out a2
                 obtain rfl:=ij_ e233
                 obtain ⟨rfl,rfl⟩:=is_ hx229_0 hx233_0
                 obtain ⟨ad234,e234,hx234_0,i5,q234⟩:=ai_ HR233_0.out a4
                 cases e234
                 go_wp2
                 go_roundg k5
                 case measure=>have:=a9.out;have:=HK2.out;have:=HK3.out;have:=HK4.out;have:=HK5.out;omega
                 case rel=>exact ⟨(wrap64 (a4+1)),zp_1,H',⟨zp_2⟩,zp_0⟩
                obtain rfl:=Option.some.inj H
                obtain ⟨ad229,b3,b4,e229,hx229_0,a8,HR229_0,e7,q229⟩:=al_ HR0.out a2
                cases e229
                obtain ⟨ad230,e230,hx230_0,e8,q230⟩:=ai_ HR229_0.out a3
                cases e230
                obtain ⟨ad231,d1,d2,e231,hx231_0,b5,HR231_0,h1,q231⟩:=al_ HR0.out a3
                obtain rfl:=ij_ e231
                obtain ⟨ad232,e232,hx232_0,h2,q232⟩:=ai_ HR231_0.out a4
                cases e232
                obtain ⟨ad233,e9,f0,e233,hx233_0,d6,HR233_0,i4,q233⟩:=al_ HR0.out a2
                obtain rfl:=ij_ e233
                obtain ⟨rfl,rfl⟩:=is_ hx229_0 hx233_0
                obtain ⟨ad234,e234,hx234_0,i5,q234⟩:=ai_ HR233_0.out a4
                cases e234
                go_wp2
                go_ret
                exact ⟨zp_1,zp_0⟩
               have H':=ak H
               clear H
               obtain ⟨ad229,b3,b4,e229,hx229_0,a8,HR229_0,e7,q229⟩:=al_ HR0.out a2
               cases e229
               obtain ⟨ad230,e230,hx230_0,e8,q230⟩:=ai_ HR229_0.out a3
               cases e230
               obtain ⟨ad231,d1,d2,e231,hx231_0,b5,HR231_0,h1,q231⟩:=al_ HR0.out a3
               obtain rfl:=ij_ e231
               obtain ⟨ad232,e232,hx232_0,h2,q232⟩:=ai_ HR231_0.out a4
               cases e232
               go_wp2
               go_roundg k5
               case measure=>have:=a9.out;have:=HK2.out;have:=HK3.out;have:=HK4.out;have:=HK5.out;omega
               case rel=>exact ⟨(wrap64 (a4+1)),zp_1,H',⟨zp_2⟩,zp_0⟩
              have H':=ak H
              clear H
              obtain ⟨ad229,b3,b4,e229,hx229_0,a8,HR229_0,e7,q229⟩:=al_ HR0.out a2
              cases e229
              obtain ⟨ad230,e230,hx230_0,e8,q230⟩:=ai_ HR229_0.out a3
              cases e230
              go_wp2
              go_roundg k5
              case measure=>have:=a9.out;have:=HK2.out;have:=HK3.out;have:=HK4.out;have:=HK5.out;omega
              case rel=>exact ⟨(wrap64 (a4+1)),zp_1,H',⟨zp_2⟩,zp_0⟩
             have H':=ak H
             clear H
             go_wp2
             go_roundg k5
             case measure=>have:=a9.out;have:=HK2.out;have:=HK3.out;have:=HK4.out;have:=HK5.out;omega
             case rel=>exact ⟨(wrap64 (a3+1)),zp_1,H',⟨zp_2⟩,zp_0⟩
          have H':=ak H
          clear H
          go_wp2
          go_roundg k4
          case measure=>have:=a9.out;have:=HK2.out;have:=HK3.out;have:=HK4.out;omega
          case rel=>exact ⟨(wrap64 (a2+1)),zp_1,H',⟨(by have:=a9.out;have:=HK2.out;have:=HK3.out;have:=HK4.out;omega)⟩,zp_0⟩
       obtain rfl:=Option.some.inj H
       go_wp2
       go_ret
       exact ⟨zp_1,zp_0⟩

end Go.Proofs.Ytlkibgccgkhdmaa.P

namespace Go.Proofs.Ytlkibgccgkhdmaa.P
open Go.RowKit Go.Proofs.YtlkibgccgkhdmaaW.PrintWords Go.Proofs.YtlkibgccgkhdmaaW.PrintLast Go.Proofs.YtlkibgccgkhdmaaW.PrintMore
attribute [local go_sem] max2_int min2_int max_two min_two max_three min_three max_four min_four
set_option linter.unusedVariables false
set_option linter.unusedSimpArgs false
def impl_turned.T9:Bool × List (List Nat × List Nat):=(true,[([],[]),([],[]),([0,1],[0,1]),([2],[2]),([],[]),([],[]),([],[]),([5,6],[5,6]),([7],[7]),([],[]),([8,9],[8,9]),([10],[10]),([3,4,0,1,2,3,4,5,6,7,8,9,10,11],[3,4]),([12,11,0,1,2,3,4,5,6,7,8,9,10,11],[11,12])])
def impl_turned.B9:List Nat:=[0,0,3,7,0,0,0,96,224,0,992,2016,4095,8191]
theorem impl_turned.tab9:rtab .any (opsOf Try.f93 9)=impl_turned.T9:=by kernel_rfl
theorem impl_turned.bits9:waitsOk impl_turned.T9.2 impl_turned.B9=true:=by kernel_rfl
theorem zq_1 {p:Prop} (h:p:=by first|rfl|(simp;done)|(simp [*];done)):p:=h
theorem zq_0 {p:Prop} (h:p:=by repeat (first|(with_reducible first|exact HB.out|apply below_alloc|apply pw_below_drewN|apply below_drew1)|exact HB.out)):p:=h
set_option maxHeartbeats 8000000 in
set_option maxRecDepth 100000 in
theorem impl_turned.calls (k:Nat) (A0:Option Addr) (c0:Nat) (l0:List (List Int)) (r:List (List Int)) (w:World) (hr0:Kd.C (Kd.slice 3 (Kd.int .i64)) w A0 l0.length l0) (hc0:l0.length≤c0) (h:impl_turned.f k l0=some r) :
 Calls Try.prog 93 #[.slice A0 l0.length c0] w fun e w'=>∃ v0_:Value,e = .returned (v0_)∧Kd.S (Kd.slice 3 (Kd.int .i64)) 23 w' w.heap.size (fun _=>True) v0_ r∧Below w.heap.size w w':=by
 have HR0:=ak hr0
 have f8:=ak hc0
 clear hr0 hc0
 have HB:=ak (Below.refl w.heap.size w)
 have H:(if 0≤(l0.length:Int) then (if ((l0.length:Int):Int).toNat≤11728124029610 then (impl_turned.l0 k l0 (List.replicate ((l0.length:Int):Int).toNat []) (l0.length:Int) 0) else (none)) else (none))=some r:=h
 clear h
 replace H:=ok_ H
 obtain ⟨c2,H⟩:=H
 have b3:=eq_true c2
 have b4:decide (0≤(l0.length:Int))=true:=dT_ c2
 clear c2
 replace H:=ok_ H
 obtain ⟨c3,H⟩:=H
 have b5:=eq_true c3
 have b6:decide (((l0.length:Int):Int).toNat≤11728124029610)=true:=dT_ c3
 clear c3
 obtain ⟨y200,hy200⟩ : ∃ y_:List (List Int),y_=(List.replicate ((l0.length:Int):Int).toNat []):=⟨_,rfl⟩
 replace H:(impl_turned.l0 k l0 y200 (l0.length:Int) 0)=some r:=by first|(rw [hy200];with_reducible exact H)|(have H2_:=(Option.bind_some _ _).symm.trans H;rw [hy200];with_reducible exact H2_)|(have H2_:=(Option.bind_some _ _).symm.trans H;with_reducible exact H2_)|with_reducible exact H|(rw [hy200];exact H)|exact H
 have Ny200:=ak hy200
 clear hy200
 have H':=ak H
 clear H
 go_enter Try.func93,Try.ntmps93
 go_wp2_with (first|((with_reducible refine gate_dst (N:=8) rfl ?_);refine Kd.S_make (Kd.slice 3 (Kd.int .i64)) _ 23 rfl (N:=8) rfl 22 _ _ rfl (l0.length:Int) rfl rfl Try.underlying22 (.slice none 0 0) 24 info23 rfl (by decide) (by omega) [] (ok:=fun _=>True) (okp:=fun _=>True) ⟨_,rfl,Kd.R_nil _ _ _ _ _⟩ (fun _ hk=>hk) trivial (oa_) (Nat.le_trans (Nat.mul_le_mul_right _ (oa_:(l0.length:Int).toNat≤11728124029610)) (by omega)) (Below.refl _ _) (Nat.le_refl _) ?_;intro d8 w4 ho5 hb hg_ hnew_;clear hg_ hnew_;(first|rw [← Ny200.out] at ho5|(simp only [Int.reduceToNat] at ho5;rw [← Ny200.out] at ho5));have b7:=ak (Kd.S_lower ho5 (below_size zq_0));replace HB:=ak (below_step zq_0 hb);clear hb ho5))
 go_loopg [11] k (fun kq f5 w'=>∃ (a4:List (List Int)) (a0:Int),f5 = .int .i64 a0∧Aside0 (impl_turned.l0 kq l0 a4 (l0.length:Int) a0=some r)∧Aside0 (kq≤k)∧Aside0 (Kd.S (Kd.slice 3 (Kd.int .i64)) 23 w' w.heap.size (fun _=>True) d8 a4)∧Aside0 (Below w.heap.size w w'))
 case atStart=>exact ⟨(y200),(0),zq_1,H',⟨Nat.le_refl _⟩,⟨(xS b7.out)⟩,⟨zq_0⟩⟩
 case round =>
  clear H'
  try clear c2
  try clear b3
  try clear b4
  try clear c3
  try clear b5
  try clear b6
  obtain ⟨a4,a0,rfl,HA,HK1,a2,HB⟩:=hrel
  cases gk with
  | zero=>exact absurd HA.out (by simp [impl_turned.l0])
  | succ k1 =>
   have H:=HA.out
   clear HA
   simp only [impl_turned.l0] at H
   replace H:=os_ H
   rcases H with ⟨b8,H⟩|⟨b8,H⟩
   ·
    replace H:=ok_ H
    obtain ⟨c7,H⟩:=H
    have d9:=eq_true c7
    have e0:decide (0≤(l0.length:Int))=true:=dT_ c7
    clear c7
    replace H:=ok_ H
    obtain ⟨c8,H⟩:=H
    have e1:=eq_true c8
    have e2:decide (((l0.length:Int):Int).toNat≤35184372088832)=true:=dT_ c8
    clear c8
    obtain ⟨y203,hy203⟩ : ∃ y_:List Int,y_=(List.replicate ((l0.length:Int):Int).toNat 0):=⟨_,rfl⟩
    replace H:(if 0≤a0 then (if a0<(a4.length:Int) then (impl_turned.l1 k1 l0 (a4.set (a0:Int).toNat y203) a0 (l0.length:Int) a0 (l0.length:Int) 0) else (none)) else (none))=some r:=by first|(rw [hy203];with_reducible exact H)|(have H2_:=(Option.bind_some _ _).symm.trans H;rw [hy203];with_reducible exact H2_)|(have H2_:=(Option.bind_some _ _).symm.trans H;with_reducible exact H2_)|with_reducible exact H|(rw [hy203];exact H)|exact H
    have Ny203:=ak hy203
    clear hy203
    replace H:=od2 H
    obtain ⟨e3,b9,H⟩:=H
    obtain ⟨y206,hy206⟩ : ∃ y_:List (List Int),y_=(a4.set (a0:Int).toNat y203):=⟨_,rfl⟩
    replace H:(impl_turned.l1 k1 l0 y206 a0 (l0.length:Int) a0 (l0.length:Int) 0)=some r:=by first|(rw [hy206];with_reducible exact H)|(have H2_:=(Option.bind_some _ _).symm.trans H;rw [hy206];with_reducible exact H2_)|(have H2_:=(Option.bind_some _ _).symm.trans H;with_reducible exact H2_)|with_reducible exact H|(rw [hy206];exact H)|exact H
    have Ny206:=ak hy206
    clear hy206
    have H':=ak H
    clear H
    go_wp2_with (first|((with_reducible refine gate_dst (N:=18) rfl ?_);refine Kd.R_make (Kd.int .i64) _ 3 rfl (N:=18) rfl 23 _ _ rfl (l0.length:Int) rfl rfl Try.underlying23 (.int .i64 0) 8 info3 rfl (by decide) (by omega) 0 (ok:=fun _=>True) (okp:=fun _=>True) rfl (fun _ hk=>hk) trivial (oa_) (Nat.le_trans (Nat.mul_le_mul_right _ (oa_:(l0.length:Int).toNat≤35184372088832)) (by omega)) (Below.refl _ _) (Nat.le_refl _) ?_;intro a6 e4 ho13 hb hg_ hnew_;clear hg_ hnew_;(first|rw [← Ny203.out] at ho13|(simp only [Int.reduceToNat] at ho13;rw [← Ny203.out] at ho13));replace a2:=ak (Kd.S_elder' (xS a2.out) (Kd.R_base ho13) hb);have a5:=ak (Kd.R_lower ho13 (below_size zq_0));replace HB:=ak (below_step zq_0 hb);clear hb ho13;have d5:0≤(a0:Int):=oa_;have q11:(a0:Int)<((a4.length:Int):Int):=oa_;obtain ⟨go11,a8,d0,d1,gl11,cl11,HG11⟩:=Kd.S_form a2.out (by omega);(first|cases d0|(injection d0 with ea_ en_ ec_;(first|subst ea_|(injection ea_ with ea_;subst ea_));subst ec_;clear en_));have GB11:=ak d1;have GG11:=ak HG11;clear d1 gl11 HG11;obtain ⟨_,ce11,hcl11,hM11,hcc11,hfr11,_,_⟩:=Kd.S_elem a2.out [] (a0:Int) d5 q11;obtain ⟨ve11_0,rfl,ge11_0⟩:=hM11;have hx11_0:=hcc11 0 _ rfl;have hf11_0:=hfr11 0;(try simp only [show ((Kd.slice 3 (Kd.int .i64))).sz=1 from rfl,Nat.mul_one,Nat.add_zero] at hx11_0);(try simp only [show ((Kd.slice 3 (Kd.int .i64))).sz=1 from rfl,Nat.mul_one,Nat.add_zero] at hf11_0);clear hcl11 hcc11 hfr11;(try clear hM11);replace d5:=eq_true d5;replace q11:=eq_true q11;have n_:=ak (Kd.S_mono (ok':=(fun k_=>some k_≠(a6:Value).ownBlock)) a2.out (fun k_ hk=>hk.2));clear a2;have a2:=n_;clear n_;have HX14:=ak (show Kd.S (Kd.slice 3 (Kd.int .i64)) 23 e4 w.heap.size (fun k_=>((fun _=>True)) k_∧¬((fun k_=>some k_=(a6:Value).ownBlock)) k_) (.slice (some ⟨go11,0,none⟩) a4.length a8) a4 from (by (with_reducible repeat (first|apply Kd.S_alloc|apply Kd.S_drewN|apply Kd.S_drew));exact Kd.S_mono a2.out (fun k_ hk=>⟨trivial,fun e_=>hk e_⟩)));obtain ⟨oki14,ce14,hcl14,hM14,hcc14,hfr14,hoki14,hH14⟩:=Kd.S_elem HX14.out [] (a0:Int) (oa_) (by have h_:(a0:Int)<((a4.length:Int):Int):=oa_;first|exact h_|(have e_:=(Kd.S_reads' a2.out).1;omega)|simpa using h_);obtain ⟨ve14_0,rfl,ge14_0⟩:=hM14;have HP14:=Kd.S_seg hH14 (oa_) (by have h_:(a0:Int)<((a4.length:Int):Int):=oa_;first|exact h_|(have e_:=(Kd.S_reads' a2.out).1;omega)|simpa using h_) (seg:=[a6]) (j:=0) (show 1≤1 from by decide) (x':=y203) (Kd.M_row (Kd.R_mono (Kd.R_tight rfl (Kd.R_mono (ok':=fun k_=>((fun _=>True)) k_∧k_≠go11) (Kd.R_apart' (a5.out) (Kd.S_typed a2.out) (by decide)) (fun k_ hk=>⟨trivial,fun e_=>(hk.2) (by rw [e_];rfl)⟩))) (fun _ h_=>Or.inr (h_)))) (fun _ hk=>hk) (fun k_ hk_=>((Kd.R_mono (ok':=fun k_=>((fun _=>True)) k_∧k_≠go11) (Kd.R_apart' (a5.out) (Kd.S_typed a2.out) (by decide)) (fun k_ hk=>⟨trivial,fun e_=>(hk.2) (by rw [e_];rfl)⟩))).1 k_ hk_.symm);have hx14_0:=hcc14 0 _ rfl;(try simp only [show ((Kd.slice 3 (Kd.int .i64))).sz=1 from rfl,Nat.mul_one,Nat.add_zero] at hx14_0);have hf14_0:=hfr14 0;(try simp only [show ((Kd.slice 3 (Kd.int .i64))).sz=1 from rfl,Nat.mul_one,Nat.add_zero] at hf14_0);clear hcl14 hcc14 hfr14 hoki14 hH14;(try clear hM14);(try simp only [show ((Kd.slice 3 (Kd.int .i64))).sz=1 from rfl,Nat.mul_one,Nat.add_zero] at HP14))|((with_reducible refine gate_store (t:=23) (p:=19) rfl ?_);refine store_event (t:=23) (p:=19) (v:=?vo_w15) (w1:=(e4.setCell ⟨go11,(a0:Int).toNat,none⟩ (a6))) ?hg ?ho ?hn ?hr ?_;(case ho=>rfl);(case hg=>rfl);(case hn=>rfl);(case hr=>first|(go_simp;done)|(go_simp;rfl)|(obtain ⟨_,_,e_⟩:=Kd.R_slice a5.out;rw [e_];first|(go_simp;done)|(go_simp;rfl)));intro e5 hw;have hg:e4.grownBy e5 (some go11):=(by rw [hw];exact HP14.2);have hp_:Kd.S (Kd.slice 3 (Kd.int .i64)) 23 e5 w.heap.size (fun _=>True) (.slice (some ⟨go11,0,none⟩) a4.length a8) y206:=(by rw [hw,Ny206.out];exact HP14.1);clear HP14;replace a2:=ak (hp_);replace HB:=ak ((by rw [hw];exact below_set (HB.out) GB11.out:Below w.heap.size w e5));clear a5;clear hg hw hp_))
    go_loopg [22] k1 (fun kq f6 w'=>∃ (a3:List (List Int)) (a1:Int),f6 = .int .i64 a1∧Aside0 (impl_turned.l1 kq l0 a3 a0 (l0.length:Int) a0 (l0.length:Int) a1=some r)∧Aside0 (kq≤k1)∧Aside0 (Kd.S (Kd.slice 3 (Kd.int .i64)) 23 w' w.heap.size (fun _=>True) (.slice (some ⟨go11,0,none⟩) a4.length a8) a3)∧Aside0 (Below w.heap.size w w'))
    case atStart=>exact ⟨(y206),(0),zq_1,H',⟨Nat.le_refl _⟩,⟨(xS a2.out)⟩,⟨zq_0⟩⟩
    case round =>
     clear H'
     try clear c2
     try clear b3
     try clear b4
     try clear c3
     try clear b5
     try clear b6
     try clear c6
     try clear b8
     try clear c7
     try clear d9
     try clear e0
     try clear c8
     try clear e1
     try clear e2
     try clear c9
     try clear e3
     try clear f9
     try clear b9
     try clear d5
     try clear q11
     try clear hx11_0
     try clear hx14_0
     obtain ⟨a3,a1,rfl,HA,HK2,a2,HB⟩:=hrel
     have hl3_2:=(Kd.S_reads' a2.out).1
     rw [hl3_2] at a2
     (try simp only [hl3_2])
     cases gk with
     | zero=>exact absurd HA.out (by simp [impl_turned.l1])
     | succ k2 =>
      have H:=HA.out
      clear HA
      simp only [impl_turned.l1] at H
      replace H:=os_ H
      rcases H with ⟨d2,H⟩|⟨d2,H⟩
      ·
       replace H:=od6 H
       obtain ⟨e9,f0,f1,f2,f3,f4,H⟩:=H
       obtain ⟨y210,hy210⟩ : ∃ y_:List Int,y_=((rd_L1 a3 a0).set (a1:Int).toNat (rd (rd_L1 l0 a1) a0)):=⟨_,rfl⟩
       replace H:(impl_turned.l1 k2 l0 (a3.set (a0:Int).toNat y210) a0 (l0.length:Int) a0 (l0.length:Int) (wrap64 (a1+1)))=some r:=by first|(rw [hy210];with_reducible exact H)|(have H2_:=(Option.bind_some _ _).symm.trans H;rw [hy210];with_reducible exact H2_)|(have H2_:=(Option.bind_some _ _).symm.trans H;with_reducible exact H2_)|with_reducible exact H|(rw [hy210];exact H)|exact H
       have Ny210:=ak hy210
       clear hy210
       obtain ⟨y212,hy212⟩ : ∃ y_:List (List Int),y_=(a3.set (a0:Int).toNat y210):=⟨_,rfl⟩
       replace H:(impl_turned.l1 k2 l0 y212 a0 (l0.length:Int) a0 (l0.length:Int) (wrap64 (a1+1)))=some r:=by first|(rw [hy212];with_reducible exact H)|(have H2_:=(Option.bind_some _ _).symm.trans H;rw [hy212];with_reducible exact H2_)|(have H2_:=(Option.bind_some _ _).symm.trans H;with_reducible exact H2_)|with_reducible exact H|(rw [hy212];exact H)|exact H
       have Ny212:=ak hy212
       clear hy212
       have H':=ak H
       clear H
       try go_wp2
       replace a2:=ak (Kd.S_drew a2.out)
       replace HB:=ak (below_drew1 HB.out)
       have a7:0≤(a0:Int):=oa_
       have q207:a0<(a3.length:Int):=oa_
       obtain ⟨ad207,e6,a9,e207,hx207_0,hl207_0,hi207_0⟩:=at_L1 (Kd.S_reads' a2.out).2.2 a0 a7 q207
       obtain rfl:(⟨go11,0,none⟩:Addr)=ad207:=(by injection e207)
       obtain ⟨ce207,hce207,hMe207,hcc207⟩:=Kd.S_get a2.out [] a0 a7 (by first|exact q207|exact oa_|(have e_:=(Kd.S_reads' a2.out).1;omega))
       obtain ⟨ve207_0,rfl,ge207_0⟩:=hMe207
       have hv207_0:=hcc207 0 _ rfl
       rw [Nat.add_zero,show ((Kd.slice 3 (Kd.int .i64))).sz=1 from rfl,Nat.mul_one] at hv207_0
       replace hv207_0:=Option.some.inj (hv207_0.symm.trans hx207_0)
       rw [hv207_0] at ge207_0
       have HL207_0:=ak (show Kd.R (Kd.int .i64) 3 _ _ _ _ (rd_L1 a3 a0) from ge207_0)
       clear hv207_0 ge207_0
       have HX207_0:=ak hx207_0
       clear hcc207 hce207
       (first|simp only [add_plain] at hx207_0|simp only [add_at] at hx207_0|simp only [Addr.add,Nat.zero_add] at hx207_0|skip)
       have HR207_0:=ak hi207_0
       have d6:=ak hl207_0
       clear hi207_0 hl207_0
       replace a7:=eq_true a7
       replace q207:=eq_true q207
       have b0:0≤(a1:Int):=oa_
       have q208:a1<(l0.length:Int):=oa_
       obtain ⟨ad208,e7,b1,e208,hx208_0,hl208_0,hi208_0⟩:=at_L1 HR0.out a1 b0 q208
       have hw208_0:=hx208_0
       cases e208
       replace hx208_0:=(HB.out.cell (World.block_lt_of_cell? w _ hx208_0)).trans hx208_0
       have HR208_0:=ak hi208_0
       have d7:=ak hl208_0
       clear hi208_0 hl208_0
       replace b0:=eq_true b0
       replace q208:=eq_true q208
       have b2:0≤(a0:Int):=oa_
       have q209:a0<((rd_L1 l0 a1).length:Int):=oa_
       obtain ⟨ad209,e209,hx209_0⟩:=Kd.at_int HR208_0.out a0 b2 q209
       have hw209_0:=hx209_0
       cases e209
       replace hx209_0:=(HB.out.cell (World.block_lt_of_cell? w _ hx209_0)).trans hx209_0
       replace b2:=eq_true b2
       replace q209:=eq_true q209
       have e8:0≤(a1:Int):=oa_
       have q23:(a1:Int)<(((rd_L1 a3 a0).length:Int):Int):=oa_
       obtain ⟨go23,f7,d3,d4,gl23,cl23,HG23⟩:=Kd.R_form HL207_0.out (by omega)
       (first|cases d3|(injection d3 with ea_ en_ ec_;(first|subst ea_|(injection ea_ with ea_;subst ea_));subst ec_;clear en_))
       have GB23:=ak d4
       have GG23:=ak HG23
       clear d4 gl23 HG23
       obtain ⟨hx23_0,hf23_0⟩:=Kd.R_celln 0 HL207_0.out (a1:Int) e8 q23
       replace e8:=eq_true e8
       replace q23:=eq_true q23
       have hq25:(a0:Int)<(a3.length:Int):=(by have h_:(a0:Int)<((a3.length:Int):Int):=oa_;first|exact h_|(have e_:=(Kd.S_reads' a2.out).1;omega)|simpa only [List.length_set,List.length_set] using h_)
       obtain ⟨oki25,ce25,hcl25,hM25,hcc25,hok25,hbk25⟩:=Kd.S_borrow a2.out [] (a0:Int) (oa_) hq25
       obtain ⟨ve25_0,rfl,ge25_0⟩:=hM25
       have hv25:=hcc25 0 _ rfl
       rw [Nat.add_zero,show ((Kd.slice 3 (Kd.int .i64))).sz=1 from rfl,Nat.mul_one] at hv25
       replace hv25:=Option.some.inj (hv25.symm.trans HX207_0.out)
       subst hv25
       clear hcc25 hcl25
       replace ge25_0:=(show Kd.R (Kd.int .i64) 3 _ _ _ _ (rd_L1 a3 a0) from ge25_0)
       have HP25:=Kd.R_putg ge25_0 (a1:Int) (rd (rd_L1 l0 a1) a0)
       rw [← Ny210.out] at HP25
       have HS25:=hbk25 HP25.2 (fun k_ e_=>by injection e_ with e_;subst e_;exact ge25_0.1 _ rfl) (x':=y210) (Kd.M_row HP25.1)
       rw [← Ny212.out] at HS25
       have HQ25:=ak HS25
       clear HP25 HS25 hbk25 hok25
       refine start_ (n:=14) (S:=fun w'=>w'.cell? ⟨go11,(a0).toNat,none⟩=some (.slice (some ⟨go23,0,none⟩) (rd_L1 a3 a0).length a9)∧w'.cell? (ad208.add (a1).toNat)=some (.slice (some ad209) (rd_L1 l0 a1).length b1)∧w'.cell? (ad209.add (a0).toNat)=some (.int .i64 (rd (rd_L1 l0 a1) a0))) (ds:=[13]) (bA 14 0) (by kernel_rfl) rfl rfl ⟨hx207_0,((HB.out.cell (World.block_lt_of_cell? w _ hw208_0)).trans hw208_0),((HB.out.cell (World.block_lt_of_cell? w _ hw209_0)).trans hw209_0)⟩ (fun hHeld=>?_);refine with_tabW impl_turned.tab9 impl_turned.bits9 (fun HT_ HW_=>?_)
       generalize wr.drew=g0 at a2 HB GG23 HL207_0 HQ25 HR207_0 HR208_0 HX207_0 hf23_0 hx207_0 hx208_0 hx209_0 hx23_0 hHeld ⊢
       refine pu_ (i:=0) (N:=some 25) (bA 14 1) ?_
       refine pu_ (i:=1) (N:=some 26) (bA 14 3) ?_
       refine pu_ (i:=2) (N:=some 27) (bA 14 7) ?_
       refine pu_ (i:=4) (N:=some 29) (bA 14 23) ?_
       refine pu_ (i:=5) (N:=some 30) (bA 14 55) ?_
       refine pu_ (i:=6) (N:=some 31) (bA 14 119) ?_
       refine pu_ (i:=7) (N:=some 32) (bA 14 247) ?_
       refine pu_ (i:=9) (N:=some 34) (bA 14 759) ?_
       refine tk_ (i:=3) (N:=some 28) (bA 14 767) ?_
       refine tk_ (i:=8) (N:=some 33) (bA 14 1023) ?_
       refine pu_ (i:=10) (N:=some 35) (bA 14 2047) ?_
       refine tk_ (i:=11) (N:=some 36) (bA 14 4095) ?_
       refine pu_ (i:=12) (N:=some 37) (bA 14 8191) ?_
       refine last_ (i:=13) (N:=none) (bA 14 16383) rfl rfl (one_of HT_.out (by kernel_rfl)) (by decide) (fun K hK=>?_)
       refine skip_ (w1:=?_) (by rfl) rfl ?_ ?_
       rotate_left
       ·
        go_simp
        rfl
       refine hK.out _ _ ?_
       clear hK K
       refine done_ (done_of HT_.out (by kernel_rfl)) ?_
       try go_wp2
       (try simp only [← hl3_2])
       go_roundg k2
       case measure=>have:=HK1.out;have:=HK2.out;omega
       case rel=>exact ⟨(y212),(wrap64 (a1+1)),zq_1,H',⟨(by have:=HK1.out;have:=HK2.out;omega)⟩,⟨(by (try simp only [hl3_2]);(with_reducible repeat (first|apply Kd.S_alloc|apply Kd.S_drewN|apply Kd.S_drew));exact HQ25.out)⟩,⟨(by repeat (first|(with_reducible first|exact HB.out|apply below_alloc|apply pw_below_drewN|apply below_drew1|refine below_set ?_ GB23.out)|exact HB.out))⟩⟩
      have H':=ak H
      clear H
      go_wp2
      (try simp only [← hl3_2])
      go_roundg k2
      case measure=>have:=HK1.out;have:=HK2.out;omega
      case rel=>exact ⟨(a3),(wrap64 (a0+1)),zq_1,H',⟨(by have:=HK1.out;have:=HK2.out;omega)⟩,⟨(by (try simp only [hl3_2]);(with_reducible repeat (first|apply Kd.S_alloc|apply Kd.S_drewN|apply Kd.S_drew));exact a2.out)⟩,⟨zq_0⟩⟩
   obtain rfl:=Option.some.inj H
   go_wp2
   go_ret
   exact ⟨_,(by first|rfl|(simp [errW_none,errW_some] <;> rfl)|(simp [*,errW_none,errW_some] <;> rfl)),(xS a2.out),zq_0⟩

end Go.Proofs.Ytlkibgccgkhdmaa.P

namespace Go.Proofs.Ytlkibgccgkhdmaa.P
open Go.RowKit Go.Proofs.YtlkibgccgkhdmaaW.PrintWords Go.Proofs.YtlkibgccgkhdmaaW.PrintLast Go.Proofs.YtlkibgccgkhdmaaW.PrintMore
attribute [local go_sem] max2_int min2_int max_two min_two max_three min_three max_four min_four
set_option linter.unusedVariables false
set_option linter.unusedSimpArgs false
theorem zn_2 {p:Prop} (h:p:=by first|rfl|(simp;done)|(simp [*];done)):p:=h
theorem zn_1 {p:Prop} (h:p:=by first|rfl|(simp [errW_none,errW_some] <;> rfl)|(simp [*,errW_none,errW_some] <;> rfl)):p:=h
theorem zn_0 {p:Prop} (h:p:=by repeat (first|(with_reducible first|exact HB.out|apply below_alloc|apply pw_below_drewN|apply below_drew1)|exact HB.out)):p:=h
set_option maxHeartbeats 8000000 in
set_option maxRecDepth 100000 in
theorem impl_LatticeOk.calls (k:Nat) (A0:Option Addr) (c0:Nat) (l0:List (List Int)) (r:Bool) (w:World) (hr0:Kd.C (Kd.slice 3 (Kd.int .i64)) w A0 l0.length l0) (hc0:l0.length≤c0) (h:impl_LatticeOk.f k l0=some r) :
 Calls Try.prog 92 #[.slice A0 l0.length c0] w fun e w'=>e = .returned (.bool r)∧Below w.heap.size w w':=by
 have HR0:=ak hr0
 have a5:=ak hc0
 clear hr0 hc0
 have HB:=ak (Below.refl w.heap.size w)
 have H:((impl_OrderOk.f k l0).bind fun a6=>(if a6=true then ((impl_turned.f k l0).bind fun a3=>(impl_LatticeOk.l0 k l0 a3 (l0.length:Int) 0)) else (some false)))=some r:=h
 clear h
 obtain ⟨a6,A2,H⟩:=bd_ H
 try dsimp only at H
 replace H:=ox_ H
 rcases H with ⟨rfl,H⟩|⟨rfl,H⟩
 ·
  obtain ⟨a3,A4,H⟩:=bd_ H
  try dsimp only at H
  have H':=ak H
  clear H
  go_enter Try.func92,Try.ntmps92
  go_wp2_with (first|((with_reducible refine gate_callee (f:=104) rfl ?_);refine gl_ (some 7) Try.func104 #[.slice A0 l0.length c0] ?_;(with_reducible refine (impl_OrderOk.calls k _ _ l0 true _ (y4 HR0.out) a5.out A2.out).mono ?_);rintro e w' ⟨rfl,⟨nd,rfl⟩⟩;refine ⟨_,rfl,?_⟩)|((with_reducible refine gate_callee (f:=93) rfl ?_);refine gl_ (some 10) Try.func93 #[.slice A0 l0.length c0] ?_;(with_reducible refine (impl_turned.calls k _ _ l0 a3 _ (y4 HR0.out) a5.out A4.out).mono ?_);rintro e w' ⟨a7,rfl,ho0,hb⟩;refine ⟨_,rfl,?_⟩;have a8:=ak (Kd.S_lower ho0 (below_size zn_0));replace HB:=ak (below_step zn_0 hb);(try clear hb);(try clear hb2);(try clear hk);(try clear hi);(try clear ho0)))
  go_loopg [13] k (fun kq b7 w'=>∃ (a0:Int),b7 = .int .i64 a0∧Aside0 (impl_LatticeOk.l0 kq l0 a3 (l0.length:Int) a0=some r)∧Aside0 (kq≤k)∧Aside0 (Kd.S (Kd.slice 3 (Kd.int .i64)) 23 w' w.heap.size (fun _=>True) a7 a3)∧Aside0 (Below w.heap.size w w'))
  case atStart=>exact ⟨(0),zn_2,H',⟨Nat.le_refl _⟩,⟨(xS a8.out)⟩,⟨zn_0⟩⟩
  case round =>
   clear H'
   try clear c3
   obtain ⟨a0,rfl,HA,HK1,a2,HB⟩:=hrel
   cases gk with
   | zero=>exact absurd HA.out (by simp [impl_LatticeOk.l0])
   | succ k1 =>
    have H:=HA.out
    clear HA
    simp only [impl_LatticeOk.l0] at H
    replace H:=os_ H
    rcases H with ⟨a9,H⟩|⟨a9,H⟩
    ·
     have H':=ak H
     clear H
     go_wp2
     go_loopg [18] k1 (fun kq b8 w'=>∃ (a1:Int),b8 = .int .i64 a1∧Aside0 (impl_LatticeOk.l1 kq l0 a3 a0 (l0.length:Int) a0 (l0.length:Int) a1=some r)∧Aside0 (kq≤k1)∧Aside0 (Kd.S (Kd.slice 3 (Kd.int .i64)) 23 w' w.heap.size (fun _=>True) a7 a3)∧Aside0 (Below w.heap.size w w'))
     case atStart=>exact ⟨(0),zn_2,H',⟨Nat.le_refl _⟩,⟨(xS a2.out)⟩,⟨zn_0⟩⟩
     case round =>
      clear H'
      try clear c3
      try clear c6
      try clear a9
      obtain ⟨a1,rfl,HA,HK2,a2,HB⟩:=hrel
      cases gk with
      | zero=>exact absurd HA.out (by simp [impl_LatticeOk.l1])
      | succ k2 =>
       have H:=HA.out
       clear HA
       simp only [impl_LatticeOk.l1] at H
       replace H:=os_ H
       rcases H with ⟨b2,H⟩|⟨b2,H⟩
       ·
        obtain ⟨a4,A8,H⟩:=bd_ H
        try dsimp only at H
        replace H:=os_ H
        rcases H with ⟨b3,H⟩|⟨b3,H⟩
        ·
         obtain rfl:=Option.some.inj H
         go_wp2_with (first|((with_reducible refine gate_callee (f:=94) rfl ?_);refine gl_ (some 24) Try.func94 #[.slice A0 l0.length c0,.int .i64 a0,.int .i64 a1] ?_;(with_reducible refine (impl_meet.calls k2 _ _ l0 a0 a1 a4 _ (y3 HR0.out HB.out) a5.out A8.out).mono ?_);rintro e w' ⟨rfl,⟨nd,rfl⟩⟩;refine ⟨_,rfl,?_⟩))
         go_ret
         exact ⟨zn_1,zn_0⟩
        obtain ⟨b0,b6,H⟩:=bd_ H
        try dsimp only at H
        replace H:=os_ H
        rcases H with ⟨b1,H⟩|⟨b1,H⟩
        ·
         obtain rfl:=Option.some.inj H
         go_wp2_with (first|((with_reducible refine gate_callee (f:=94) rfl ?_);refine gl_ (some 24) Try.func94 #[.slice A0 l0.length c0,.int .i64 a0,.int .i64 a1] ?_;(with_reducible refine (impl_meet.calls k2 _ _ l0 a0 a1 a4 _ (y3 HR0.out HB.out) a5.out A8.out).mono ?_);rintro e w' ⟨rfl,⟨nd,rfl⟩⟩;refine ⟨_,rfl,?_⟩;obtain ⟨b9,d0,b4⟩:=Kd.S_slice a2.out;subst b4)|(go_at_call 94;(with_reducible refine (impl_meet.calls k2 _ _ a3 a0 a1 b0 _ (y1 a2.out) (y2 a2.out) b6.out).mono ?_);rintro e w' ⟨rfl,⟨nd,rfl⟩⟩))
         go_ret
         exact ⟨zn_1,zn_0⟩
        have H':=ak H
        clear H
        go_wp2_with (first|((with_reducible refine gate_callee (f:=94) rfl ?_);refine gl_ (some 24) Try.func94 #[.slice A0 l0.length c0,.int .i64 a0,.int .i64 a1] ?_;(with_reducible refine (impl_meet.calls k2 _ _ l0 a0 a1 a4 _ (y3 HR0.out HB.out) a5.out A8.out).mono ?_);rintro e w' ⟨rfl,⟨nd,rfl⟩⟩;refine ⟨_,rfl,?_⟩;obtain ⟨d1,d2,b5⟩:=Kd.S_slice a2.out;subst b5)|(go_at_call 94;(with_reducible refine (impl_meet.calls k2 _ _ a3 a0 a1 b0 _ (y1 a2.out) (y2 a2.out) b6.out).mono ?_);rintro e w' ⟨rfl,⟨nd,rfl⟩⟩))
        go_roundg k2
        case measure=>have:=HK1.out;have:=HK2.out;omega
        case rel=>exact ⟨(wrap64 (a1+1)),zn_2,H',⟨(by have:=HK1.out;have:=HK2.out;omega)⟩,⟨(xS a2.out)⟩,⟨zn_0⟩⟩
       have H':=ak H
       clear H
       go_wp2
       go_roundg k2
       case measure=>have:=HK1.out;have:=HK2.out;omega
       case rel=>exact ⟨(wrap64 (a0+1)),zn_2,H',⟨(by have:=HK1.out;have:=HK2.out;omega)⟩,⟨(xS a2.out)⟩,⟨zn_0⟩⟩
    obtain rfl:=Option.some.inj H
    go_wp2
    go_ret
    exact ⟨zn_1,zn_0⟩
 obtain rfl:=Option.some.inj H
 go_enter Try.func92,Try.ntmps92
 go_wp2_with (first|((with_reducible refine gate_callee (f:=104) rfl ?_);refine gl_ (some 7) Try.func104 #[.slice A0 l0.length c0] ?_;(with_reducible refine (impl_OrderOk.calls k _ _ l0 false _ (y4 HR0.out) a5.out A2.out).mono ?_);rintro e w' ⟨rfl,⟨nd,rfl⟩⟩;refine ⟨_,rfl,?_⟩))
 go_ret
 exact ⟨zn_1,zn_0⟩

end Go.Proofs.Ytlkibgccgkhdmaa.P

namespace Go.Proofs.Ytlkibgccgkhdmaa.P
open Go.RowKit Go.Proofs.YtlkibgccgkhdmaaW.PrintWords Go.Proofs.YtlkibgccgkhdmaaW.PrintLast Go.Proofs.YtlkibgccgkhdmaaW.PrintMore
attribute [local go_sem] max2_int min2_int max_two min_two max_three min_three max_four min_four
set_option linter.unusedVariables false
set_option linter.unusedSimpArgs false
theorem zr_1 {p:Prop} (h:p:=by repeat (first|exact Drawn0.refl _|apply Drawn0.step)):p:=h
theorem zr_0 {p:Prop} (h:p:=by first|rfl|(simp;done)|(simp [*];done)):p:=h
set_option maxHeartbeats 8000000 in
set_option maxRecDepth 100000 in
theorem impl_LeastOf.calls (k:Nat) (A0:Option Addr) (c0:Nat) (l0:List (List Int)) (r1:Int) (r2:Bool) (w:World) (hr0:Kd.C (Kd.slice 3 (Kd.int .i64)) w A0 l0.length l0) (hc0:l0.length≤c0) (h:impl_LeastOf.f k l0=some (r1,r2)) :
 Calls Try.prog 95 #[.slice A0 l0.length c0] w fun e w'=>e = .returned (.tuple #[.int .i64 r1,.bool r2])∧Drawn0 w w':=by
 have HR0:=ak hr0
 have b3:=ak hc0
 clear hr0 hc0
 have H:((impl_OrderOk.f k l0).bind fun a3=>(if a3=true then (impl_LeastOf.l0 k l0 (l0.length:Int) 0) else (some ((-1),false))))=some (r1,r2):=h
 clear h
 obtain ⟨a3,A2,H⟩:=bd_ H
 try dsimp only at H
 replace H:=ox_ H
 rcases H with ⟨rfl,H⟩|⟨rfl,H⟩
 ·
  have H':=ak H
  clear H
  go_enter Try.func95,Try.ntmps95
  go_wp2_with (first|((with_reducible refine gate_callee (f:=104) rfl ?_);refine gl_ (some 10) Try.func104 #[.slice A0 l0.length c0] ?_;(with_reducible refine (impl_OrderOk.calls k _ _ l0 true _ (y4 HR0.out) b3.out A2.out).mono ?_);rintro e w' ⟨rfl,⟨nd,rfl⟩⟩;refine ⟨_,rfl,?_⟩))
  go_loopg [14] k (fun kq b4 w'=>∃ (a0:Int),b4 = .int .i64 a0∧Aside0 (impl_LeastOf.l0 kq l0 (l0.length:Int) a0=some (r1,r2))∧Aside0 (kq≤k)∧Drawn0 w w')
  case atStart=>exact ⟨(0),zr_0,H',⟨Nat.le_refl _⟩,zr_1⟩
  case round =>
   clear H'
   try clear c3
   obtain ⟨a0,rfl,HA,HK1,⟨m1,rfl⟩⟩:=hrel
   cases gk with
   | zero=>exact absurd HA.out (by simp [impl_LeastOf.l0])
   | succ k1 =>
    have H:=HA.out
    clear HA
    simp only [impl_LeastOf.l0] at H
    replace H:=os_ H
    rcases H with ⟨a4,H⟩|⟨a4,H⟩
    ·
     replace H:=od2 H
     obtain ⟨a6,a7,H⟩:=H
     have H':=ak H
     clear H
     obtain ⟨ad242,a8,a9,e242,hx242_0,a5,HR242_0,b0,q242⟩:=al_ HR0.out a0
     cases e242
     go_wp2
     go_loopg [6,21] k1 (fun kq v6 b5 w'=>∃ (a2:Bool) (a1:Int),v6 = .bool a2∧b5 = .int .i64 a1∧Aside0 (impl_LeastOf.l1 kq a0 a2 l0 (l0.length:Int) a0 (rd_L1 l0 a0) ((rd_L1 l0 a0).length:Int) a1=some (r1,r2))∧Aside0 (kq≤k1)∧Drawn0 w w')
     case atStart=>exact ⟨(true),(0),zr_0,zr_0,H',⟨Nat.le_refl _⟩,zr_1⟩
     case round =>
      clear H'
      try clear c3
      try clear c4
      try clear a4
      try clear c5
      try clear a6
      try clear c6
      try clear a7
      try clear hx242_0
      try clear b0
      try clear q242
      obtain ⟨a2,a1,rfl,rfl,HA,HK2,⟨m2,rfl⟩⟩:=hrel
      cases gk with
      | zero=>exact absurd HA.out (by simp [impl_LeastOf.l1])
      | succ k2 =>
       have H:=HA.out
       clear HA
       simp only [impl_LeastOf.l1] at H
       replace H:=os_ H
       rcases H with ⟨b1,H⟩|⟨b1,H⟩
       ·
        replace H:=od2 H
        obtain ⟨b6,b7,H⟩:=H
        replace H:=ox_ H
        rcases H with ⟨rfl,H⟩|⟨rfl,H⟩
        ·
         have H':=ak H
         clear H
         obtain ⟨ad243,e243,hx243_0,b2,q243⟩:=ai_ HR242_0.out a1
         cases e243
         go_wp2
         go_roundg k2
         case measure=>have:=HK1.out;have:=HK2.out;omega
         case rel=>exact ⟨(((rd (rd_L1 l0 a0) a1)==1)),(wrap64 (a1+1)),zr_0,zr_0,H',⟨(by have:=HK1.out;have:=HK2.out;omega)⟩,zr_1⟩
        have H':=ak H
        clear H
        obtain ⟨ad243,e243,hx243_0,b2,q243⟩:=ai_ HR242_0.out a1
        cases e243
        go_wp2
        go_roundg k2
        case measure=>have:=HK1.out;have:=HK2.out;omega
        case rel=>exact ⟨(false),(wrap64 (a1+1)),zr_0,zr_0,H',⟨(by have:=HK1.out;have:=HK2.out;omega)⟩,zr_1⟩
       replace H:=ox_ H
       rcases H with ⟨rfl,H⟩|⟨rfl,H⟩
       ·
        simp only [Option.some.injEq,Prod.mk.injEq] at H
        obtain ⟨rfl,rfl⟩:=H
        go_wp2
        go_ret2
        exact ⟨zr_0,zr_1⟩
       have H':=ak H
       clear H
       go_wp2
       go_roundg k2
       case measure=>have:=HK1.out;have:=HK2.out;omega
       case rel=>exact ⟨(wrap64 (a0+1)),zr_0,H',⟨(by have:=HK1.out;have:=HK2.out;omega)⟩,zr_1⟩
    simp only [Option.some.injEq,Prod.mk.injEq] at H
    obtain ⟨rfl,rfl⟩:=H
    go_wp2
    go_ret2
    exact ⟨zr_0,zr_1⟩
 simp only [Option.some.injEq,Prod.mk.injEq] at H
 obtain ⟨rfl,rfl⟩:=H
 go_enter Try.func95,Try.ntmps95
 go_wp2_with (first|((with_reducible refine gate_callee (f:=104) rfl ?_);refine gl_ (some 10) Try.func104 #[.slice A0 l0.length c0] ?_;(with_reducible refine (impl_OrderOk.calls k _ _ l0 false _ (y4 HR0.out) b3.out A2.out).mono ?_);rintro e w' ⟨rfl,⟨nd,rfl⟩⟩;refine ⟨_,rfl,?_⟩))
 go_ret2
 exact ⟨zr_0,zr_1⟩

end Go.Proofs.Ytlkibgccgkhdmaa.P

namespace Go.Proofs.Ytlkibgccgkhdmaa.P
open Go.RowKit Go.Proofs.YtlkibgccgkhdmaaW.PrintWords Go.Proofs.YtlkibgccgkhdmaaW.PrintLast Go.Proofs.YtlkibgccgkhdmaaW.PrintMore
attribute [local go_sem] max2_int min2_int max_two min_two max_three min_three max_four min_four
set_option linter.unusedVariables false
set_option linter.unusedSimpArgs false
set_option maxHeartbeats 8000000 in
set_option maxRecDepth 100000 in
theorem spec_l1In.calls (a0:Int) (a1:Int) (a2:Int) (r:Bool) (w:World) (h:spec_l1In.f a0 a1 a2=some r) :
 Calls Try.prog 66 #[.int .i64 a0,.int .i64 a1,.int .i64 a2] w fun e w'=>e = .returned (.bool r)∧Drawn0 w w':=by
 have H:(if a0≥a1 then (some (decide (a0≤a2))) else (some false))=some r:=h
 clear h
 replace H:=op_ H
 rcases H with ⟨c4,H⟩|⟨c4,H⟩
 ·
  have a3:decide (a1≤a0)=true:=dT_ c4
  clear c4
  obtain rfl:=Option.some.inj H
  go_enter Try.func66,Try.ntmps66
  go_wp2
  go_ret
  exact ⟨(by first|rfl|(simp;done)|(simp [*];done)),(by repeat (first|exact Drawn0.refl _|apply Drawn0.step))⟩
 have a3:decide (a1≤a0)=false:=dF_ c4
 clear c4
 obtain rfl:=Option.some.inj H
 go_enter Try.func66,Try.ntmps66
 go_wp2
 go_ret
 exact ⟨(by first|rfl|(simp;done)|(simp [*];done)),(by repeat (first|exact Drawn0.refl _|apply Drawn0.step))⟩

end Go.Proofs.Ytlkibgccgkhdmaa.P
