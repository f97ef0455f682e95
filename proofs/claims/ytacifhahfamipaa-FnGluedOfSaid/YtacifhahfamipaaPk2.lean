/- 15 texts of this seat joined: walks, and the laws of what they compute. -/
import Derived.Below
import Derived.Deep.Draws
import Derived.Deep.AppendLies
import Derived.Maps.AppendAt
import Derived.OwnWalk
import Derived.Laws.BytesArg
import Derived.Laws.MakeOwn
import Derived.Laws.OwnMore
import Derived.Deep.OwnRows
import Derived.Tactics
import Derived.Lib.ConvBytes
import Derived.Laws.Slices
import Derived.WalkKit
import Derived.KernelRfl
import Derived.RowKit3
import Derived.Deep.LoopGhost
import Derived.Deep.QuietTactic
import Derived.BigQuiet
import Derived.WideLaws
import Derived.Deep.DeepCutAuto
import Derived.Deep.CutBlock
import Derived.Deep.RegionHeld3
import Derived.Laws.Rows
import Derived.Lib.AppendStr
import Derived.ArgAppend
import Derived.Laws.IdiomCopy
import Derived.OrdersHeld
import Derived.Laws.BitsLemmas
import Derived.RowKit
import Derived.Test.YtacifhahfamipaaPk1
import Derived.Test.YtacifhahfamipaaProg
namespace Go.Proofs.Cl
set_option linter.unusedVariables false

def allG (p:Nat→Bool):Nat→Nat→Bool
 | 0,_=>true
 | d+1,i=>p i&&allG p d (i+1)
def allF (n:Nat) (p:Nat→Bool) (i:Nat):Bool:=allG p (n-i) i
theorem allF_end {n:Nat} {p:Nat→Bool} {i:Nat} (h:n≤i):allF n p i=true:=by
 unfold allF
 rw [show n-i=0 by omega]
 rfl
theorem allF_step {n:Nat} {p:Nat→Bool} {i:Nat} (h:i<n):allF n p i=(p i&&allF n p (i+1)):=by
 unfold allF
 rw [show n-i=(n-(i+1))+1 by omega]
 rfl
theorem allG_iff (p:Nat→Bool) : ∀ d i,allG p d i=true ↔ ∀ c,i≤c→c<i+d→p c=true
  | 0,i=>by simp only [allG,true_iff];intro c h1 h2;omega
  | d + 1,i=>by
    simp only [allG,Bool.and_eq_true,allG_iff p d (i+1)]
    constructor
    · intro ⟨h1,h2⟩ c h3 h4
      by_cases e:c=i
      · rw [e];exact h1
      · exact h2 c (by omega) (by omega)
    · intro h
      exact ⟨h i (by omega) (by omega),fun c h3 h4=>h c (by omega) (by omega)⟩
theorem allF_iff {n:Nat} {p:Nat→Bool} {i:Nat}:allF n p i=true ↔ ∀ c,i≤c→c<n→p c=true:=by
 unfold allF
 rw [allG_iff]
 constructor
 ·intro h c h1 h2
  exact h c h1 (by omega)
 ·intro h c h1 h2
  exact h c h1 (by omega)
theorem allF0 {n:Nat} {p:Nat→Bool}:allF n p 0=true ↔ ∀ c,c<n→p c=true:=by
 rw [allF_iff]
 exact ⟨fun h c=>h c (Nat.zero_le _),fun h c _=>h c⟩
def firstG (p:Nat→Bool):Nat→Nat→Int
 | 0,_ => -1
 | d+1,i=>if p i=true then (i:Int) else firstG p d (i+1)
def firstF (n:Nat) (p:Nat→Bool) (i:Nat):Int:=firstG p (n-i) i
theorem firstF_end {n:Nat} {p:Nat→Bool} {i:Nat} (h:n≤i):firstF n p i = -1:=by
 unfold firstF
 rw [show n-i=0 by omega]
 rfl
theorem firstF_step {n:Nat} {p:Nat→Bool} {i:Nat} (h:i<n):firstF n p i=if p i=true then (i:Int) else firstF n p (i+1):=by
 unfold firstF
 rw [show n-i=(n-(i+1))+1 by omega]
 rfl
theorem down (n:Nat) (P:Nat→Prop) (hend:P n) (hstep : ∀ i,i<n→P (i+1)→P i) (i:Nat) (hi:i≤n):P i:=by
  obtain ⟨d,hd⟩ : ∃ d,n-i=d:=⟨_,rfl⟩
  induction d generalizing i with
  | zero => obtain rfl:i=n:=by omega
            exact hend
  | succ d ih=>exact hstep i (by omega) (ih (i+1) (by omega) (by omega))
theorem firstF_spec {n:Nat} {p:Nat→Bool} : ∀ i,i≤n→(firstF n p i = -1∧∀ c,i≤c→c<n→p c=false)∨(∃ c:Nat,firstF n p i=c∧i≤c∧c<n∧p c=true∧∀ c',i≤c'→c'<c→p c'=false):=by
 intro i hi
 refine down n (fun i=>(firstF n p i = -1∧∀ c,i≤c→c<n→p c=false)∨(∃ c:Nat,firstF n p i=c∧i≤c∧c<n∧p c=true∧∀ c',i≤c'→c'<c→p c'=false)) ?_ ?_ i hi
 ·exact .inl ⟨firstF_end (Nat.le_refl _),fun c h1 h2=>by omega⟩
 ·intro i hi ih
  rw [firstF_step hi]
  cases hp:p i with
  | true=>exact .inr ⟨i,by simp,Nat.le_refl _,hi,hp,fun c' h1 h2=>by omega⟩
  | false =>
   simp only [Bool.false_eq_true,if_false]
   rcases ih with ⟨h1,h2⟩|⟨c,h1,h2,h3,h4,h5⟩
   ·refine .inl ⟨h1,fun c h3 h4=>?_⟩
    by_cases e:c=i
    ·rw [e];exact hp
    ·exact h2 c (by omega) h4
   ·refine .inr ⟨c,h1,by omega,h3,h4,fun c' h6 h7=>?_⟩
    by_cases e:c'=i
    ·rw [e];exact hp
    ·exact h5 c' (by omega) h7

def rdN (u:List (List Int)) (a b:Nat):Int:=(u.getD a []).getD b 0
def Ord (u:List (List Int)):Prop :=
 1≤u.length∧u.length≤12∧(∀ a,a<u.length→(u.getD a []).length=u.length) ∧
 (∀ a,a<u.length→∀ b,b<u.length→rdN u a b=0∨rdN u a b=1) ∧
 (∀ a,a<u.length→rdN u a a=1) ∧
 (∀ a,a<u.length→∀ b,b<u.length→rdN u a b=1→rdN u b a=1→a=b) ∧
 (∀ a,a<u.length→∀ b,b<u.length→∀ c,c<u.length→rdN u a b=1→rdN u b c=1→rdN u a c=1)
instance (u:List (List Int)):Decidable (Ord u):=by
 have d1:Decidable (∀ a,a<u.length→(u.getD a []).length=u.length):=inferInstance
 have d2:Decidable (∀ a,a<u.length→∀ b,b<u.length→rdN u a b=0∨rdN u a b=1):=inferInstance
 have d3:Decidable (∀ a,a<u.length→rdN u a a=1):=inferInstance
 have d4:Decidable (∀ a,a<u.length→∀ b,b<u.length→rdN u a b=1→rdN u b a=1→a=b):=inferInstance
 have d5:Decidable (∀ a,a<u.length→∀ b,b<u.length→∀ c,c<u.length→rdN u a b=1→rdN u b c=1→rdN u a c=1):=inferInstance
 unfold Ord
 exact instDecidableAnd

namespace Ord
variable {u:List (List Int)} (h:Ord u)
theorem pos (h:Ord u):1≤u.length:=h.1
theorem le12 (h:Ord u):u.length≤12:=h.2.1
theorem row (h:Ord u) {a:Nat} (ha:a<u.length):(u.getD a []).length=u.length:=h.2.2.1 a ha
theorem bit (h:Ord u) {a b:Nat} (ha:a<u.length) (hb:b<u.length):rdN u a b=0∨rdN u a b=1:=h.2.2.2.1 a ha b hb
theorem refl (h:Ord u) {a:Nat} (ha:a<u.length):rdN u a a=1:=h.2.2.2.2.1 a ha
theorem anti (h:Ord u) {a b:Nat} (ha:a<u.length) (hb:b<u.length) (k:rdN u a b=1) (l:rdN u b a=1):a=b:=h.2.2.2.2.2.1 a ha b hb k l
theorem trans (h:Ord u) {a b c:Nat} (ha:a<u.length) (hb:b<u.length) (hc:c<u.length) (k:rdN u a b=1) (l:rdN u b c=1):rdN u a c=1:=h.2.2.2.2.2.2 a ha b hb c hc k l
theorem ne0 (h:Ord u) {a b:Nat} (ha:a<u.length) (hb:b<u.length):rdN u a b≠0↔rdN u a b=1:=by
 rcases h.bit ha hb with k|k <;> omega
theorem ne1 (h:Ord u) {a b:Nat} (ha:a<u.length) (hb:b<u.length):rdN u a b≠1↔rdN u a b=0:=by
 rcases h.bit ha hb with k|k <;> omega
end Ord

def IsMeet (u:List (List Int)) (a b c:Nat):Prop :=
 c<u.length∧rdN u c a=1∧rdN u c b=1∧∀ d,d<u.length→rdN u d a=1→rdN u d b=1→rdN u d c=1
def IsJoin (u:List (List Int)) (a b c:Nat):Prop :=
 c<u.length∧rdN u a c=1∧rdN u b c=1∧∀ d,d<u.length→rdN u a d=1→rdN u b d=1→rdN u c d=1
instance (u:List (List Int)) (a b c:Nat):Decidable (IsMeet u a b c):=by unfold IsMeet;infer_instance
instance (u:List (List Int)) (a b c:Nat):Decidable (IsJoin u a b c):=by unfold IsJoin;infer_instance
def meetI (u:List (List Int)) (a b:Nat):Int:=firstF u.length (fun c=>decide (IsMeet u a b c)) 0
def joinI (u:List (List Int)) (a b:Nat):Int:=firstF u.length (fun c=>decide (IsJoin u a b c)) 0
theorem IsMeet.uniq {u:List (List Int)} (h:Ord u) {a b c d:Nat} (hc:IsMeet u a b c) (hd:IsMeet u a b d):c=d :=
 h.anti hc.1 hd.1 (hd.2.2.2 c hc.1 hc.2.1 hc.2.2.1) (hc.2.2.2 d hd.1 hd.2.1 hd.2.2.1)
theorem IsJoin.uniq {u:List (List Int)} (h:Ord u) {a b c d:Nat} (hc:IsJoin u a b c) (hd:IsJoin u a b d):c=d :=
 h.anti hc.1 hd.1 (hc.2.2.2 d hd.1 hd.2.1 hd.2.2.1) (hd.2.2.2 c hc.1 hc.2.1 hc.2.2.1)
theorem meetI_of {u:List (List Int)} (h:Ord u) {a b c:Nat} (hc:IsMeet u a b c):meetI u a b=c:=by
 rcases firstF_spec (n:=u.length) (p:=fun c=>decide (IsMeet u a b c)) 0 (Nat.zero_le _) with ⟨_,k⟩|⟨d,e,_,hd,k,_⟩
 ·have:=k c (Nat.zero_le _) hc.1
  simp [hc] at this
 ·unfold meetI
  rw [e,(of_decide_eq_true k).uniq h hc]
theorem joinI_of {u:List (List Int)} (h:Ord u) {a b c:Nat} (hc:IsJoin u a b c):joinI u a b=c:=by
 rcases firstF_spec (n:=u.length) (p:=fun c=>decide (IsJoin u a b c)) 0 (Nat.zero_le _) with ⟨_,k⟩|⟨d,e,_,hd,k,_⟩
 ·have:=k c (Nat.zero_le _) hc.1
  simp [hc] at this
 ·unfold joinI
  rw [e,(of_decide_eq_true k).uniq h hc]
theorem meetI_cases (u:List (List Int)) (a b:Nat):(meetI u a b = -1∧∀ c,¬IsMeet u a b c)∨∃ c:Nat,meetI u a b=c∧IsMeet u a b c:=by
 rcases firstF_spec (n:=u.length) (p:=fun c=>decide (IsMeet u a b c)) 0 (Nat.zero_le _) with ⟨e,k⟩|⟨d,e,_,hd,k,_⟩
 ·exact .inl ⟨e,fun c hc=>by have:=k c (Nat.zero_le _) hc.1;simp [hc] at this⟩
 ·exact .inr ⟨d,e,of_decide_eq_true k⟩
theorem joinI_cases (u:List (List Int)) (a b:Nat):(joinI u a b = -1∧∀ c,¬IsJoin u a b c)∨∃ c:Nat,joinI u a b=c∧IsJoin u a b c:=by
 rcases firstF_spec (n:=u.length) (p:=fun c=>decide (IsJoin u a b c)) 0 (Nat.zero_le _) with ⟨e,k⟩|⟨d,e,_,hd,k,_⟩
 ·exact .inl ⟨e,fun c hc=>by have:=k c (Nat.zero_le _) hc.1;simp [hc] at this⟩
 ·exact .inr ⟨d,e,of_decide_eq_true k⟩
theorem IsMeet.comm {u:List (List Int)} {a b c:Nat} (h:IsMeet u a b c):IsMeet u b a c:=⟨h.1,h.2.2.1,h.2.1,fun d hd k l=>h.2.2.2 d hd l k⟩
theorem IsJoin.comm {u:List (List Int)} {a b c:Nat} (h:IsJoin u a b c):IsJoin u b a c:=⟨h.1,h.2.2.1,h.2.1,fun d hd k l=>h.2.2.2 d hd l k⟩
theorem meetI_comm {u:List (List Int)} (h:Ord u) (a b:Nat):meetI u a b=meetI u b a:=by
 rcases meetI_cases u b a with ⟨e,k⟩|⟨c,e,k⟩
 ·rcases meetI_cases u a b with ⟨e',_⟩|⟨c,e',k'⟩
  ·rw [e,e']
  ·exact absurd k'.comm (k c)
 ·rw [e,meetI_of h k.comm]
theorem joinI_comm {u:List (List Int)} (h:Ord u) (a b:Nat):joinI u a b=joinI u b a:=by
 rcases joinI_cases u b a with ⟨e,k⟩|⟨c,e,k⟩
 ·rcases joinI_cases u a b with ⟨e',_⟩|⟨c,e',k'⟩
  ·rw [e,e']
  ·exact absurd k'.comm (k c)
 ·rw [e,joinI_of h k.comm]
theorem isMeet_self {u:List (List Int)} (h:Ord u) {a b:Nat} (ha:a<u.length) (hb:b<u.length) (k:rdN u a b=1):IsMeet u a b a:=⟨ha,h.refl ha,k,fun _ _ l _=>l⟩
theorem isJoin_self {u:List (List Int)} (h:Ord u) {a b:Nat} (ha:a<u.length) (hb:b<u.length) (k:rdN u a b=1):IsJoin u a b b:=⟨hb,k,h.refl hb,fun _ _ _ l=>l⟩

def turn (u:List (List Int)):List (List Int):=(List.range u.length).map fun a=>(List.range u.length).map fun b=>rdN u b a
theorem turn_len (u:List (List Int)):(turn u).length=u.length:=by simp [turn]
theorem getD_map_range {α:Type} (f:Nat→α) (z:α) {n a:Nat} (h:a<n):((List.range n).map f).getD a z=f a:=by
 simp [List.getD_eq_getElem?_getD,h]
theorem turn_row (u:List (List Int)) {a:Nat} (ha:a<u.length):(turn u).getD a []=(List.range u.length).map fun b=>rdN u b a:=by
 unfold turn
 rw [getD_map_range _ _ ha]
theorem turn_at (u:List (List Int)) {a b:Nat} (ha:a<u.length) (hb:b<u.length):rdN (turn u) a b=rdN u b a:=by
 unfold rdN
 rw [turn_row u ha,getD_map_range _ _ hb]
 rfl
theorem turn_ord {u:List (List Int)} (h:Ord u):Ord (turn u):=by
 refine ⟨by rw [turn_len];exact h.1,by rw [turn_len];exact h.2.1,?_,?_,?_,?_,?_⟩
 ·intro a ha
  rw [turn_len] at *
  rw [turn_row u ha]
  simp
 ·intro a ha b hb
  rw [turn_len] at *
  rw [turn_at u ha hb]
  exact h.bit hb ha
 ·intro a ha
  rw [turn_len] at *
  rw [turn_at u ha ha]
  exact h.refl ha
 ·intro a ha b hb
  rw [turn_len] at *
  rw [turn_at u ha hb,turn_at u hb ha]
  exact fun k l=>h.anti ha hb l k
 ·intro a ha b hb c hc
  rw [turn_len] at *
  rw [turn_at u ha hb,turn_at u hb hc,turn_at u ha hc]
  exact fun k l=>h.trans hc hb ha l k
theorem isMeet_turn {u:List (List Int)} {a b c:Nat} (ha:a<u.length) (hb:b<u.length):IsMeet (turn u) a b c↔IsJoin u a b c:=by
 unfold IsMeet IsJoin
 rw [turn_len]
 constructor
 ·intro ⟨h1,h2,h3,h4⟩
  rw [turn_at u h1 ha] at h2
  rw [turn_at u h1 hb] at h3
  refine ⟨h1,h2,h3,fun d hd k l=>?_⟩
  have:=h4 d hd (by rw [turn_at u hd ha];exact k) (by rw [turn_at u hd hb];exact l)
  rwa [turn_at u hd h1] at this
 ·intro ⟨h1,h2,h3,h4⟩
  refine ⟨h1,by rw [turn_at u h1 ha];exact h2,by rw [turn_at u h1 hb];exact h3,fun d hd k l=>?_⟩
  rw [turn_at u hd ha] at k
  rw [turn_at u hd hb] at l
  rw [turn_at u hd h1]
  exact h4 d hd k l
theorem firstF_congr {n:Nat} {p q:Nat→Bool} (h : ∀ c,c<n→p c=q c) (i:Nat) (hi:i≤n):firstF n p i=firstF n q i:=by
 refine down n (fun i=>firstF n p i=firstF n q i) ?_ ?_ i hi
 ·rw [firstF_end (Nat.le_refl _),firstF_end (Nat.le_refl _)]
 ·intro i hi ih
  rw [firstF_step hi,firstF_step hi,h i hi,ih]
theorem meetI_turn {u:List (List Int)} {a b:Nat} (ha:a<u.length) (hb:b<u.length):meetI (turn u) a b=joinI u a b:=by
 unfold meetI joinI
 rw [turn_len]
 exact firstF_congr (fun c _=>by rw [decide_eq_decide];exact isMeet_turn ha hb) 0 (Nat.zero_le _)

def Lat (u:List (List Int)):Prop:=Ord u∧∀ a,a<u.length→∀ b,b<u.length→0≤meetI u a b∧0≤joinI u a b
instance (u:List (List Int)):Decidable (Lat u):=by unfold Lat;infer_instance
def IsLeast (u:List (List Int)) (a:Nat):Prop:=∀ b,b<u.length→rdN u a b=1
instance (u:List (List Int)) (a:Nat):Decidable (IsLeast u a):=by unfold IsLeast;infer_instance
def leastI (u:List (List Int)):Int:=firstF u.length (fun a=>decide (IsLeast u a)) 0
theorem leastI_cases (u:List (List Int)):(leastI u = -1∧∀ a,a<u.length→¬IsLeast u a)∨∃ a:Nat,leastI u=a∧a<u.length∧IsLeast u a:=by
 rcases firstF_spec (n:=u.length) (p:=fun a=>decide (IsLeast u a)) 0 (Nat.zero_le _) with ⟨e,k⟩|⟨d,e,_,hd,k,_⟩
 ·exact .inl ⟨e,fun c hc hl=>by have:=k c (Nat.zero_le _) hc;simp [hl] at this⟩
 ·exact .inr ⟨d,e,hd,of_decide_eq_true k⟩
theorem leastI_of {u:List (List Int)} (h:Ord u) {a:Nat} (ha:a<u.length) (hl:IsLeast u a):leastI u=a:=by
 rcases leastI_cases u with ⟨_,k⟩|⟨d,e,hd,k⟩
 ·exact absurd hl (k a ha)
 ·rw [e,h.anti hd ha (k a ha) (hl d hd)]
namespace Lat
variable {u:List (List Int)}
theorem ord (h:Lat u):Ord u:=h.1
theorem meet (h:Lat u) {a b:Nat} (ha:a<u.length) (hb:b<u.length) : ∃ c:Nat,meetI u a b=c∧IsMeet u a b c:=by
 rcases meetI_cases u a b with ⟨e,_⟩|k
 ·have:=(h.2 a ha b hb).1
  omega
 ·exact k
theorem join (h:Lat u) {a b:Nat} (ha:a<u.length) (hb:b<u.length) : ∃ c:Nat,joinI u a b=c∧IsJoin u a b c:=by
 rcases joinI_cases u a b with ⟨e,_⟩|k
 ·have:=(h.2 a ha b hb).2
  omega
 ·exact k
theorem low (h:Lat u) : ∀ m,m≤u.length→∃ a,a<u.length∧∀ b,b<m→rdN u a b=1
  | 0,_=>⟨0,h.1.pos,fun b hb=>by omega⟩
  | m+1,hm=>by
    obtain ⟨a,ha,k⟩:=low h m (by omega)
    obtain ⟨c,_,hc⟩:=h.meet ha (show m<u.length by omega)
    refine ⟨c,hc.1,fun b hb=>?_⟩
    by_cases e:b=m
    · rw [e];exact hc.2.2.1
    · exact h.1.trans hc.1 ha (by omega) hc.2.1 (k b (by omega))
theorem least (h:Lat u) : ∃ a:Nat,leastI u=a∧a<u.length∧IsLeast u a:=by
 obtain ⟨a,ha,k⟩:=h.low u.length (Nat.le_refl _)
 exact ⟨a,leastI_of h.1 ha k,ha,k⟩
end Lat
theorem lat_of {u:List (List Int)} (h:Ord u) (hm : ∀ a,a<u.length→∀ b,b<u.length→∃ c,IsMeet u a b c) (hj : ∀ a,a<u.length→∀ b,b<u.length→∃ c,IsJoin u a b c):Lat u:=by
 refine ⟨h,fun a ha b hb=>⟨?_,?_⟩⟩
 ·obtain ⟨c,hc⟩:=hm a ha b hb
  rw [meetI_of h hc]
  omega
 ·obtain ⟨c,hc⟩:=hj a ha b hb
  rw [joinI_of h hc]
  omega
def leastOfP (u:List (List Int)):Int × Bool:=if Ord u then (leastI u,decide (0≤leastI u)) else (-1,false)
end Go.Proofs.Cl

namespace Go.Proofs.Ytacifhahfamipaa.P
open Go.RowKit Go.Proofs.YtacifhahfamipaaW.PrintWords Go.Proofs.YtacifhahfamipaaW.PrintLast Go.Proofs.YtacifhahfamipaaW.PrintMore
set_option linter.unusedVariables false
set_option linter.unusedSimpArgs false
def errW:Option Int→Value
 | none=>.nilIface
 | some c=>.iface 0 (.int .i64 c)
theorem errW_none:errW none = .nilIface:=rfl
theorem errW_some (c:Int):errW (some c) = .iface 0 (.int .i64 c):=rfl

def rd_L1 (xs:List (List Int)) (i:Int):(List Int):=xs.getD i.toNat ([]:List Int)
theorem at_L1 {w:World} {A:Option Addr} {n:Nat} {xs:List (List Int)} (h:Kd.C (Kd.slice 3 (Kd.int .i64)) w A n xs) (i:Int) (h0:0≤i) (h1:i<n) : ∃ ad A0 c0,A=some ad∧w.cell? (ad.add i.toNat)=some (.slice A0 (rd_L1 xs i).length c0)∧(rd_L1 xs i).length≤c0∧(Kd.int .i64).C w A0 (rd_L1 xs i).length (rd_L1 xs i):=by
 obtain ⟨ad,c,e,_,hK,hc0⟩:=Kd.C_get h ([]:List Int) i h0 h1
 have hc : ∀ j u,c[j]?=some u→w.cell? (ad.add (i.toNat*1+j))=some u:=hc0
 obtain ⟨A0,c0,rfl,l0,g0⟩:=hK
 exact ⟨ad,A0,c0,e,by have hq:=hc 0 _ rfl;rwa [Nat.mul_one,Nat.add_zero] at hq,l0,g0⟩

def rd_L3 (xs:List (List (List Int))) (i:Int):(List (List Int)):=xs.getD i.toNat ([]:List (List Int))
theorem at_L3 {w:World} {A:Option Addr} {n:Nat} {xs:List (List (List Int))} (h:Kd.C (Kd.slice 25 (Kd.slice 3 (Kd.int .i64))) w A n xs) (i:Int) (h0:0≤i) (h1:i<n) : ∃ ad A0 c0,A=some ad∧w.cell? (ad.add i.toNat)=some (.slice A0 (rd_L3 xs i).length c0)∧(rd_L3 xs i).length≤c0∧(Kd.slice 3 (Kd.int .i64)).C w A0 (rd_L3 xs i).length (rd_L3 xs i):=by
 obtain ⟨ad,c,e,_,hK,hc0⟩:=Kd.C_get h ([]:List (List Int)) i h0 h1
 have hc : ∀ j u,c[j]?=some u→w.cell? (ad.add (i.toNat*1+j))=some u:=hc0
 obtain ⟨A0,c0,rfl,l0,g0⟩:=hK
 exact ⟨ad,A0,c0,e,by have hq:=hc 0 _ rfl;rwa [Nat.mul_one,Nat.add_zero] at hq,l0,g0⟩

structure S27 where
 f0:(List (List Int))
 f1:(List Int)
def z27:S27:=⟨([]:List (List Int)),([]:List Int)⟩
def k27:Kd S27:=Kd.iso (Kd.pair (Kd.slice 25 (Kd.slice 3 (Kd.int .i64))) (Kd.slice 3 (Kd.int .i64))) (fun x:S27=>(x.f0,x.f1))
theorem k27_open {w:World} {x:S27} {cs:List Value} (h:k27.K w x cs) : ∃ A0 c0 A1 c1,cs = [.slice A0 x.f0.length c0,.slice A1 x.f1.length c1]∧x.f0.length≤c0∧(Kd.slice 3 (Kd.int .i64)).C w A0 x.f0.length x.f0∧x.f1.length≤c1∧(Kd.int .i64).C w A1 x.f1.length x.f1:=by
 obtain ⟨_,_,rfl,⟨A0,c0,rfl,l0,g0⟩,⟨A1,c1,rfl,l1,g1⟩⟩:=h
 exact ⟨A0,c0,A1,c1,rfl,l0,g0,l1,g1⟩
theorem k27_openM {w:World} {base:Nat} {ok:Nat→Prop} {x:S27} {cs:List Value} (h:k27.M w base ok x cs) : ∃ v0 v1,cs = [v0,v1]∧(Kd.slice 3 (Kd.int .i64)).R 25 w base ok v0 x.f0∧(Kd.int .i64).R 3 w base ok v1 x.f1:=by
 obtain ⟨_,_,rfl,⟨v0,rfl,g0⟩,⟨v1,rfl,g1⟩⟩:=h
 exact ⟨v0,v1,rfl,g0,g1⟩
theorem k27_mk (w:World) (x:S27) {A0:Option Addr} {c0:Nat} (l0:x.f0.length≤c0) (g0:(Kd.slice 3 (Kd.int .i64)).C w A0 x.f0.length x.f0) {A1:Option Addr} {c1:Nat} (l1:x.f1.length≤c1) (g1:(Kd.int .i64).C w A1 x.f1.length x.f1):k27.K w x [.slice A0 x.f0.length c0,.slice A1 x.f1.length c1]:=⟨[.slice A0 x.f0.length c0],[.slice A1 x.f1.length c1],rfl,⟨A0,c0,rfl,l0,g0⟩,⟨A1,c1,rfl,l1,g1⟩⟩
theorem k27_mkM (w:World) (base:Nat) (ok:Nat→Prop) (x:S27) {v0:Value} (g0:(Kd.slice 3 (Kd.int .i64)).R 25 w base ok v0 x.f0) {v1:Value} (g1:(Kd.int .i64).R 3 w base ok v1 x.f1):k27.M w base ok x [v0,v1]:=⟨[v0],[v1],rfl,⟨v0,rfl,g0⟩,⟨v1,rfl,g1⟩⟩
theorem k27_openF {W:World} {ok:Nat→Prop} {x:S27} {cs:List Value} (h:Kd.FK k27 W ok x cs) : ∃ A0 c0 A1 c1,cs = [.slice A0 x.f0.length c0,.slice A1 x.f1.length c1]∧x.f0.length≤c0∧Kd.F (Kd.slice 3 (Kd.int .i64)) W ok A0 x.f0.length x.f0∧x.f1.length≤c1∧Kd.F (Kd.int .i64) W ok A1 x.f1.length x.f1:=by
 obtain ⟨A0,c0,A1,c1,rfl,l0,_,l1,_⟩:=k27_open (Kd.FK_now h)
 exact ⟨A0,c0,A1,c1,rfl,l0,(fun W' hW=>by obtain ⟨A0_,c0_,A1_,c1_,he,l0_,g0_,l1_,g1_⟩:=k27_open (h W' hW);injection (Option.some.inj (show some (Value.slice A0 x.f0.length c0)=some (Value.slice A0_ x.f0.length c0_) from congrArg (fun l=>l[0]?) he)) with ha_ _ _;rw [ha_];exact g0_),l1,(fun W' hW=>by obtain ⟨A0_,c0_,A1_,c1_,he,l0_,g0_,l1_,g1_⟩:=k27_open (h W' hW);injection (Option.some.inj (show some (Value.slice A1 x.f1.length c1)=some (Value.slice A1_ x.f1.length c1_) from congrArg (fun l=>l[1]?) he)) with ha_ _ _;rw [ha_];exact g1_)⟩
theorem k27_mkF (W:World) (ok:Nat→Prop) (x:S27) {A0:Option Addr} {c0:Nat} (l0:x.f0.length≤c0) (g0:Kd.F (Kd.slice 3 (Kd.int .i64)) W ok A0 x.f0.length x.f0) {A1:Option Addr} {c1:Nat} (l1:x.f1.length≤c1) (g1:Kd.F (Kd.int .i64) W ok A1 x.f1.length x.f1):Kd.FK k27 W ok x [.slice A0 x.f0.length c0,.slice A1 x.f1.length c1]:=fun W2 hW=>k27_mk W2 x l0 (g0 W2 hW) l1 (g1 W2 hW)
def rd_T27 (xs:List S27) (i:Int):S27:=xs.getD i.toNat z27
theorem at_T27 {w:World} {A:Option Addr} {n:Nat} {xs:List S27} (h:Kd.C k27 w A n xs) (i:Int) (h0:0≤i) (h1:i<n) : ∃ ad A0 c0 A1 c1,A=some ad∧w.cell? (ad.add (i.toNat*2))=some (.slice A0 (rd_T27 xs i).f0.length c0)∧w.cell? ⟨(ad.add (i.toNat*2)).block,(ad.add (i.toNat*2)).off+1,none⟩=some (.slice A1 (rd_T27 xs i).f1.length c1)∧(rd_T27 xs i).f0.length≤c0∧(Kd.slice 3 (Kd.int .i64)).C w A0 (rd_T27 xs i).f0.length (rd_T27 xs i).f0∧(rd_T27 xs i).f1.length≤c1∧(Kd.int .i64).C w A1 (rd_T27 xs i).f1.length (rd_T27 xs i).f1:=by
 obtain ⟨ad,c,e,_,hK,hc0⟩:=Kd.C_get h z27 i h0 h1
 have hc : ∀ j u,c[j]?=some u→w.cell? (ad.add (i.toNat*2+j))=some u:=hc0
 obtain ⟨A0,c0,A1,c1,rfl,l0,g0,l1,g1⟩:=k27_open hK
 exact ⟨ad,A0,c0,A1,c1,e,hc 0 _ rfl,by rw [← add_field _ _ 1 (by omega)];exact hc 1 _ rfl,l0,g0,l1,g1⟩
end Go.Proofs.Ytacifhahfamipaa.P

namespace Go.Proofs.Ytacifhahfamipaa.P
open Go.RowKit Go.Proofs.YtacifhahfamipaaW.PrintWords Go.Proofs.YtacifhahfamipaaW.PrintLast Go.Proofs.YtacifhahfamipaaW.PrintMore Go.Proofs.Cl
set_option linter.unusedVariables false
def mrow (u:List (List Int)) (a:Nat):List Int:=(List.range u.length).map fun b=>meetI u a b
def jrow (u:List (List Int)) (a:Nat):List Int:=(List.range u.length).map fun b=>joinI u a b
def mtab (u:List (List Int)):List (List Int):=(List.range u.length).map (mrow u)
def jtab (u:List (List Int)):List (List Int):=(List.range u.length).map (jrow u)
def OppAt (u:List (List Int)) (nt:List Int) (c:Nat):Prop:=(0≤rd nt c∧rd nt c<u.length)∧rd nt (rd nt c)=c∧meetI u c (rd nt c).toNat=leastI u
def OppTo (u:List (List Int)) (nt:List Int) (c d:Nat):Prop:=rdN u c d=1→rdN u (rd nt d).toNat (rd nt c).toNat=1
def OL (u:List (List Int)) (nt:List Int):Prop:=Lat u∧nt.length=u.length∧(∀ c,c<u.length→OppAt u nt c)∧(∀ c,c<u.length→∀ d,d<u.length→OppTo u nt c d)
instance (u:List (List Int)) (nt:List Int) (c:Nat):Decidable (OppAt u nt c):=by unfold OppAt;infer_instance
instance (u:List (List Int)) (nt:List Int) (c d:Nat):Decidable (OppTo u nt c d):=by unfold OppTo;infer_instance
instance (u:List (List Int)) (nt:List Int):Decidable (OL u nt):=by unfold OL;infer_instance
def okAll (n:Nat) (xs:List Int):Bool:=xs.all fun a=>decide (0≤a∧a<n)
abbrev mt (u:List (List Int)) (a b:Int):Int:=meetI u a.toNat b.toNat
abbrev jn (u:List (List Int)) (a b:Int):Int:=joinI u a.toNat b.toNat
def logicF (u:List (List Int)) (nt:List Int):Bool:=decide (OL u nt)
def noF (u:List (List Int)) (nt:List Int):Int:=if OL u nt then leastI u else -1
def yesF (u:List (List Int)) (nt:List Int):Int:=if OL u nt then rd nt (leastI u) else -1
def notF (u:List (List Int)) (nt:List Int) (a:Int):Int:=if OL u nt∧okAll u.length [a]=true then rd nt a else -1
def withB (u:List (List Int)) (nt:List Int) (a b:Int):Prop:=jn u (mt u a b) (mt u a (rd nt b))=a
instance (u:List (List Int)) (nt:List Int) (a b:Int):Decidable (withB u nt a b):=by unfold withB;infer_instance
def keepsF (u:List (List Int)) (nt:List Int):Bool:=decide (OL u nt∧∀ a,a<u.length→∀ b,b<u.length→rdN u a b=0∨jn u a (mt u b (rd nt a))=b)
def mkN (p:Nat→Bool):Nat→Nat
 | 0=>0
 | n+1=>mkN p n+(if p n=true then 2 ^ n else 0)
def Cls (u:List (List Int)) (nt:List Int) (S:Nat):Prop :=
 ∀ a,a<u.length→S.testBit a=true→S.testBit (rd nt a).toNat=true∧∀ b,b<u.length→S.testBit b=true→S.testBit (mt u a b).toNat=true∧S.testBit (jn u a b).toNat=true
instance (u:List (List Int)) (nt:List Int) (S:Nat):Decidable (Cls u nt S):=by unfold Cls;infer_instance
def SubS (n S T:Nat):Prop:=∀ a,a<n→S.testBit a=true→T.testBit a=true
instance (n S T:Nat):Decidable (SubS n S T):=by unfold SubS;infer_instance
def closN (u:List (List Int)) (nt:List Int) (S:Nat):Nat :=
 mkN (fun a=>decide (∀ T,T<2 ^ u.length→Cls u nt T→SubS u.length S T→T.testBit a=true)) u.length
def isSetB (n:Nat) (s:Int):Bool:=decide (0<s∧s<2 ^ n)
def subF (u:List (List Int)) (nt:List Int) (s:Int):Bool:=decide (OL u nt∧isSetB u.length s=true∧Cls u nt s.toNat)
def madeByF (u:List (List Int)) (nt:List Int) (s:Int):Int:=if OL u nt∧isSetB u.length s=true then (closN u nt s.toNat:Int) else -1
def AgreeS (u:List (List Int)) (nt:List Int) (S:Nat):Prop:=∀ a,a<u.length→S.testBit a=true→∀ b,b<u.length→S.testBit b=true→withB u nt a b∧withB u nt b a
instance (u:List (List Int)) (nt:List Int) (a b:Int):Decidable (withB u nt a b):=by unfold withB;infer_instance
instance (u:List (List Int)) (nt:List Int) (S:Nat):Decidable (AgreeS u nt S):=by unfold AgreeS;infer_instance
def splitB (u:List (List Int)) (a b c:Int):Prop:=mt u a (jn u b c)=jn u (mt u a b) (mt u a c)
instance (u:List (List Int)) (a b c:Int):Decidable (splitB u a b c):=by unfold splitB;infer_instance
def castL (l:List Nat):List Int:=l.map fun (a:Nat)=>(a:Int)
def sixU:List (List Int):=[[1,1,1,1,1,1],[0,1,1,0,0,1],[0,0,1,0,0,1],[0,0,0,1,1,1],[0,0,0,0,1,1],[0,0,0,0,0,1]]
def sixN:List Int:=[5,4,3,2,1,0]
def madeU (n:Nat) (U:Nat→Nat→Bool):List (List Int):=(List.range n).map fun a=>(List.range n).map fun b=>if U a b=true then 1 else 0
def madeN (n:Nat) (N:Nat→Int):List Int:=(List.range n).map N
def setsU (t:Nat):List (List Int):=madeU (2 ^ t) (fun a b=>decide (a &&& b=a))
def setsN (t:Nat):List Int:=madeN (2 ^ t) (fun a=>((2 ^ t-1-a:Nat):Int))
def setsF (t:Int):List (List Int) × List Int × Bool:=if 0≤t∧t≤3 then (setsU t.toNat,setsN t.toNat,true) else ([],[],false)
def ringB (a b:Nat):Bool:=decide (a=b∨a=0∨b=5∨(a=1∧b=2)∨(a=3∧b=4))
def ringF (n:Int):List (List Int) × List Int × Bool:=if n=6 then (madeU 6 ringB,madeN 6 (fun a=>5-(a:Int)),true) else ([],[],false)
def placeN (l:List Int) (x:Int):Nat:=l.idxOf x
def renB (n:Nat) (o:List Int):Prop:=o.length=n∧okAll n o=true∧o.Nodup
instance (n:Nat) (o:List Int):Decidable (renB n o):=by unfold renB;infer_instance
def onU (u:List (List Int)) (o:List Int):List (List Int):=madeU o.length (fun i k=>decide (rdN u (o.getD i 0).toNat (o.getD k 0).toNat=1))
def onN (nt:List Int) (o:List Int):List Int:=madeN o.length (fun i=>(placeN o (rd nt (o.getD i 0)):Int))
def bitsL (n S:Nat):List Int:=castL ((List.range n).filter fun a=>S.testBit a)
def partF (u:List (List Int)) (nt:List Int) (s:Int):List (List Int) × List Int:=if subF u nt s=true then (onU u (bitsL u.length s.toNat),onN nt (bitsL u.length s.toNat)) else ([],[])
def innerL (u:List (List Int)) (nt:List Int):List Int:=castL ((List.range u.length).filter fun k=>decide ((k:Int)≠leastI u∧(k:Int)≠rd nt (leastI u)))
def glueL (u:List (List Int)) (nt:List Int) (v:List (List Int)) (mt_:List Int):List (Nat × Int) :=
 (0,0)::((innerL u nt).map fun k=>(1,k))++((innerL v mt_).map fun k=>(2,k)) ++ [(0,0)]
def glueB (u v:List (List Int)) (g:List (Nat × Int)) (i k:Nat):Bool :=
 if i=0∨k=g.length-1∨i=k then true else if i=g.length-1∨k=0 then false else
  decide ((g.getD i (0,0)).1=(g.getD k (0,0)).1∧rdN (if (g.getD i (0,0)).1=1 then u else v) (g.getD i (0,0)).2.toNat (g.getD k (0,0)).2.toNat=1)
def glueO (nt mt_:List Int) (g:List (Nat × Int)) (i:Nat):Int :=
 if i=0∨i=g.length-1 then ((g.length-1-i:Nat):Int) else (g.idxOf ((g.getD i (0,0)).1,rd (if (g.getD i (0,0)).1=1 then nt else mt_) (g.getD i (0,0)).2):Int)
def gluedF (u:List (List Int)) (nt:List Int) (v:List (List Int)) (mt_:List Int):List (List Int) × List Int × Bool :=
 if OL u nt∧OL v mt_∧2≤u.length∧2≤v.length∧u.length+v.length-2≤12 then
  (madeU (glueL u nt v mt_).length (glueB u v (glueL u nt v mt_)),madeN (glueL u nt v mt_).length (glueO nt mt_ (glueL u nt v mt_)),true)
 else ([],[],false)
end Go.Proofs.Ytacifhahfamipaa.P

namespace Go.Proofs.Ytacifhahfamipaa.P
open Go.RowKit Go.Proofs.YtacifhahfamipaaW.PrintWords Go.Proofs.YtacifhahfamipaaW.PrintLast Go.Proofs.YtacifhahfamipaaW.PrintMore
set_option linter.unusedVariables false
set_option linter.unusedSimpArgs false
open Go.Proofs.Cl
def IsS80 (w0 W:World) (g:Nat) (f0:List Int) (f1:Int):Prop:=∃ A0 c0,W.heap[g]?=some (.cells #[.slice A0 f0.length c0,.int .i64 f1] 80 (0,0))∧w0.heap.size≤g∧Kd.C (Kd.int .u8) w0 A0 f0.length f0
def spec_l20Open.f (l0:List Int):Option (List Int × Int):=if (l0.length:Int)>2000 then (if 2000≤(l0.length:Int) then (some (l0.take 2000,0)) else (none)) else (some (l0,0))
def spec_l20Rd_pick.j0:Nat→Int→Bool→List Int→Int→Option (Int × Int)
 | 0,_,_,_,_=>none
 | k+1,x1,x24,x1000,x1001=>if x24=true then (some (0,x1001)) else (if (wrap64 (x1001-1))<(x1000.length:Int) then (if 0≤(wrap64 (x1001-1)) then (if x1=0 then (none) else (some (Int.tmod (wrap64 (rd x1000 (wrap64 (x1001-1)))) x1,x1001))) else (none)) else (if (x1000.length:Int)=0 then (none) else (if 0≤(Int.tmod (wrap64 (x1001-1)) (x1000.length:Int)) then (if (Int.tmod (wrap64 (x1001-1)) (x1000.length:Int))<(x1000.length:Int) then (if 0≤(Int.tmod (wrap64 ((wrap64 ((wrap64 (x1001-1))*7))+3)) (x1000.length:Int)) then (if (Int.tmod (wrap64 ((wrap64 ((wrap64 (x1001-1))*7))+3)) (x1000.length:Int))<(x1000.length:Int) then (if x1=0 then (none) else (some (Int.tmod (Go.bits .xor .i64 (wrap64 ((wrap64 ((wrap64 ((wrap64 ((wrap64 (rd x1000 (Int.tmod (wrap64 (x1001-1)) (x1000.length:Int))))*131))+(wrap64 ((wrap64 (rd x1000 (Int.tmod (wrap64 ((wrap64 ((wrap64 (x1001-1))*7))+3)) (x1000.length:Int))))*1117))))+(wrap64 ((wrap64 (x1001-1))*29))))+(wrap64 ((wrap64 (Int.tdiv (wrap64 (x1001-1)) (x1000.length:Int)))*53)))) (wrap64 (Int.tdiv (wrap64 ((wrap64 ((wrap64 ((wrap64 ((wrap64 (rd x1000 (Int.tmod (wrap64 (x1001-1)) (x1000.length:Int))))*131))+(wrap64 ((wrap64 (rd x1000 (Int.tmod (wrap64 ((wrap64 ((wrap64 (x1001-1))*7))+3)) (x1000.length:Int))))*1117))))+(wrap64 ((wrap64 (x1001-1))*29))))+(wrap64 ((wrap64 (Int.tdiv (wrap64 (x1001-1)) (x1000.length:Int)))*53)))) 64))) x1,x1001))) else (none)) else (none)) else (none)) else (none))))
def spec_l20Rd_pick.f (k:Nat) (s0_0:List Int) (s0_1:Int) (a1:Int):Option (Int × Int):=if a1<1 then (spec_l20Rd_pick.j0 k a1 true s0_0 (wrap64 (s0_1+1))) else (spec_l20Rd_pick.j0 k a1 ((s0_0.length:Int)==0) s0_0 (wrap64 (s0_1+1)))
def spec_DrawRingOf.f (k:Nat) (l0:List Int):Option (Int):=(spec_l20Open.f l0).bind fun bt107=>((spec_l20Rd_pick.f k bt107.1 bt107.2 4).bind fun bt110=>(some (wrap64 (4+bt110.1))))
def impl_RingOf.f (a0:Int):Option ((List (List Int)) × List Int × Bool):=some (ringF a0)
def spec_RingOf.f (a0:Int):Option ((List (List Int)) × List Int × Bool):=if a0=6 then (some ((([(([1,1,1,1,1,1]:List Int)),(([0,1,1,0,0,1]:List Int)),(([0,0,1,0,0,1]:List Int)),(([0,0,0,1,1,1]:List Int)),(([0,0,0,0,1,1]:List Int)),(([0,0,0,0,0,1]:List Int))]:List (List Int))),(([5,4,3,2,1,0]:List Int)),true)) else (some (([]:List (List Int)),([]:List Int),false))
def laws_sameInts.l0:Nat→List Int→List Int→Int→Option (Bool)
 | 0,_,_,_=>none
 | k+1,x0,x1,x5=>if x5<(x0.length:Int) then (if 0≤x5 then (if x5<(x1.length:Int) then (if (rd x0 x5)=(rd x1 x5) then (laws_sameInts.l0 k x0 x1 (wrap64 (x5+1))) else (some false)) else (none)) else (none)) else (some true)
def laws_sameInts.f (k:Nat) (l0:List Int) (l1:List Int):Option (Bool):=if (l0.length:Int)=(l1.length:Int) then (laws_sameInts.l0 k l0 l1 0) else (some false)
def laws_sameRows.l0:Nat→List (List Int)→List (List Int)→Int→Option (Bool)
 | 0,_,_,_=>none
 | k+1,x0,x1,x5=>if x5<(x0.length:Int) then (if 0≤x5 then (if x5<(x1.length:Int) then ((laws_sameInts.f k (rd_L1 x0 x5) (rd_L1 x1 x5)).bind fun t141=>(if t141=true then (laws_sameRows.l0 k x0 x1 (wrap64 (x5+1))) else (some false))) else (none)) else (none)) else (some true)
def laws_sameRows.f (k:Nat) (l0:List (List Int)) (l1:List (List Int)):Option (Bool):=if (l0.length:Int)=(l1.length:Int) then (laws_sameRows.l0 k l0 l1 0) else (some false)
def laws_sameLogic.f (k:Nat) (l0_0:List (List Int)) (l0_1:List Int) (l1_0:List (List Int)) (l1_1:List Int):Option (Bool):=(laws_sameRows.f k l0_0 l1_0).bind fun t144=>(if t144=true then ((laws_sameInts.f k l0_1 l1_1).bind fun t145=>(some t145)) else (some false))
def laws_noLogic.f (k:Nat) (l0_0:List (List Int)) (l0_1:List Int):Option (Bool):=(laws_sameLogic.f k l0_0 l0_1 ([]:List (List Int)) ([]:List Int)).bind fun t147=>(some t147)
mutual
def impl_OrderOk.j0:Nat→List (List Int)→Int→Bool→Option (Bool)
 | 0,_,_,_=>none
 | k+1,x0,x3,x18=>if x18=true then (some false) else (impl_OrderOk.l0 k x0 x3 x0 (x0.length:Int) 0)
def impl_OrderOk.l0:Nat→List (List Int)→Int→List (List Int)→Int→Int→Option (Bool)
 | 0,_,_,_,_,_=>none
 | k+1,x0,x3,x19,x20,x21=>if x21<x20 then (if 0≤x21 then (if x21<(x19.length:Int) then (if ((rd_L1 x19 x21).length:Int)=x3 then (if x21<((rd_L1 x19 x21).length:Int) then (impl_OrderOk.j2 k x0 x3 x21 (rd_L1 x19 x21) x19 x20 x21 ((rd (rd_L1 x19 x21) x21) != 1)) else (none)) else (impl_OrderOk.j2 k x0 x3 x21 (rd_L1 x19 x21) x19 x20 x21 true)) else (none)) else (none)) else (impl_OrderOk.l2 k x0 x3 x3 0)
def impl_OrderOk.j2:Nat→List (List Int)→Int→Int→List Int→List (List Int)→Int→Int→Bool→Option (Bool)
 | 0,_,_,_,_,_,_,_,_=>none
 | k+1,x0,x3,x4,x5,x19,x20,x21,x36=>if x36=true then (some false) else (impl_OrderOk.l1 k x0 x3 x4 x19 x20 x21 x5 (x5.length:Int) 0)
def impl_OrderOk.l1:Nat→List (List Int)→Int→Int→List (List Int)→Int→Int→List Int→Int→Int→Option (Bool)
 | 0,_,_,_,_,_,_,_,_,_=>none
 | k+1,x0,x3,x4,x19,x20,x21,x37,x38,x39=>if x39<x38 then (if 0≤x39 then (if x39<(x37.length:Int) then (if (rd x37 x39)=0 then (impl_OrderOk.j4 k x0 x3 x4 x39 (rd x37 x39) x19 x20 x21 x37 x38 x39 false) else (impl_OrderOk.j4 k x0 x3 x4 x39 (rd x37 x39) x19 x20 x21 x37 x38 x39 ((rd x37 x39) != 1))) else (none)) else (none)) else (impl_OrderOk.l0 k x0 x3 x19 x20 (wrap64 (x21+1)))
def impl_OrderOk.j4:Nat→List (List Int)→Int→Int→Int→Int→List (List Int)→Int→Int→List Int→Int→Int→Bool→Option (Bool)
 | 0,_,_,_,_,_,_,_,_,_,_,_,_=>none
 | k+1,x0,x3,x4,x6,x7,x19,x20,x21,x37,x38,x39,x49=>if x49=true then (some false) else (if 0≤x6 then (if x6<(x0.length:Int) then (if ((rd_L1 x0 x6).length:Int)=x3 then (if x7=1 then (if x4=x6 then (impl_OrderOk.l1 k x0 x3 x4 x19 x20 x21 x37 x38 (wrap64 (x39+1))) else (if 0≤x4 then (if x4<((rd_L1 x0 x6).length:Int) then (if (rd (rd_L1 x0 x6) x4)=1 then (some false) else (impl_OrderOk.l1 k x0 x3 x4 x19 x20 x21 x37 x38 (wrap64 (x39+1)))) else (none)) else (none))) else (impl_OrderOk.l1 k x0 x3 x4 x19 x20 x21 x37 x38 (wrap64 (x39+1)))) else (some false)) else (none)) else (none))
def impl_OrderOk.l2:Nat→List (List Int)→Int→Int→Int→Option (Bool)
 | 0,_,_,_,_=>none
 | k+1,x0,x3,x78,x79=>if x79<x78 then (impl_OrderOk.l3 k x0 x3 x79 x78 x79 x3 0) else (some true)
def impl_OrderOk.l3:Nat→List (List Int)→Int→Int→Int→Int→Int→Int→Option (Bool)
 | 0,_,_,_,_,_,_,_=>none
 | k+1,x0,x3,x8,x78,x79,x82,x83=>if x83<x82 then (impl_OrderOk.l4 k x0 x3 x8 x83 x78 x79 x82 x83 x3 0) else (impl_OrderOk.l2 k x0 x3 x78 (wrap64 (x79+1)))
def impl_OrderOk.l4:Nat→List (List Int)→Int→Int→Int→Int→Int→Int→Int→Int→Int→Option (Bool)
 | 0,_,_,_,_,_,_,_,_,_,_=>none
 | k+1,x0,x3,x8,x9,x78,x79,x82,x83,x86,x87=>if x87<x86 then (if 0≤x8 then (if x8<(x0.length:Int) then (if 0≤x9 then (if x9<((rd_L1 x0 x8).length:Int) then (if (rd (rd_L1 x0 x8) x9)=1 then (if x9<(x0.length:Int) then (if 0≤x87 then (if x87<((rd_L1 x0 x9).length:Int) then (if (rd (rd_L1 x0 x9) x87)=1 then (if x87<((rd_L1 x0 x8).length:Int) then (if (rd (rd_L1 x0 x8) x87)=1 then (impl_OrderOk.l4 k x0 x3 x8 x9 x78 x79 x82 x83 x86 (wrap64 (x87+1))) else (some false)) else (none)) else (impl_OrderOk.l4 k x0 x3 x8 x9 x78 x79 x82 x83 x86 (wrap64 (x87+1)))) else (none)) else (none)) else (none)) else (impl_OrderOk.l4 k x0 x3 x8 x9 x78 x79 x82 x83 x86 (wrap64 (x87+1)))) else (none)) else (none)) else (none)) else (none)) else (impl_OrderOk.l3 k x0 x3 x8 x78 x79 x82 (wrap64 (x83+1)))
end
def impl_OrderOk.f (k:Nat) (l0:List (List Int)):Option (Bool):=if (l0.length:Int)<1 then (impl_OrderOk.j0 k l0 (l0.length:Int) true) else (impl_OrderOk.j0 k l0 (l0.length:Int) (decide ((l0.length:Int)>12)))
def laws_alive.f (k:Nat)  : Option (Bool):=(impl_OrderOk.f k (([(([1]:List Int))]:List (List Int)))).bind fun t166=>(if t166=true then ((impl_OrderOk.f k (([(([0]:List Int))]:List (List Int)))).bind fun t173=>(some (!t173))) else (some false))
mutual
def impl_LeastOf.l0:Nat→List (List Int)→Int→Int→Option (Int × Bool)
 | 0,_,_,_=>none
 | k+1,x12,x13,x14=>if x14<x13 then (if 0≤x14 then (if x14<(x12.length:Int) then (impl_LeastOf.l1 k x14 true x12 x13 x14 (rd_L1 x12 x14) ((rd_L1 x12 x14).length:Int) 0) else (none)) else (none)) else (some ((-1),false))
def impl_LeastOf.l1:Nat→Int→Bool→List (List Int)→Int→Int→List Int→Int→Int→Option (Int × Bool)
 | 0,_,_,_,_,_,_,_,_=>none
 | k+1,x4,x6,x12,x13,x14,x19,x20,x21=>if x21<x20 then (if 0≤x21 then (if x21<(x19.length:Int) then (if x6=true then (impl_LeastOf.l1 k x4 ((rd x19 x21)==1) x12 x13 x14 x19 x20 (wrap64 (x21+1))) else (impl_LeastOf.l1 k x4 false x12 x13 x14 x19 x20 (wrap64 (x21+1)))) else (none)) else (none)) else (if x6=true then (some (x4,true)) else (impl_LeastOf.l0 k x12 x13 (wrap64 (x14+1))))
end
def impl_LeastOf.f (k:Nat) (l0:List (List Int)):Option (Int × Bool):=(impl_OrderOk.f k l0).bind fun t174=>(if t174=true then (impl_LeastOf.l0 k l0 (l0.length:Int) 0) else (some ((-1),false)))
mutual
def impl_turned.l0:Nat→List (List Int)→List (List Int)→Int→Int→Option ((List (List Int)))
 | 0,_,_,_,_=>none
 | k+1,x0,x3,x10,x11=>if x11<x10 then (if 0≤(x0.length:Int) then (if ((x0.length:Int):Int).toNat≤35184372088832 then (if 0≤x11 then (if x11<(x3.length:Int) then (impl_turned.l1 k x0 (x3.set (x11:Int).toNat (List.replicate ((x0.length:Int):Int).toNat 0)) x11 x10 x11 (x0.length:Int) 0) else (none)) else (none)) else (none)) else (none)) else (some x3)
def impl_turned.l1:Nat→List (List Int)→List (List Int)→Int→Int→Int→Int→Int→Option ((List (List Int)))
 | 0,_,_,_,_,_,_,_=>none
 | k+1,x0,x3,x4,x10,x11,x21,x22=>if x22<x21 then (if 0≤x4 then (if x4<(x3.length:Int) then (if 0≤x22 then (if x22<(x0.length:Int) then (if x4<((rd_L1 x0 x22).length:Int) then (if x22<((rd_L1 x3 x4).length:Int) then (impl_turned.l1 k x0 (x3.set (x4:Int).toNat ((rd_L1 x3 x4).set (x22:Int).toNat (rd (rd_L1 x0 x22) x4))) x4 x10 x11 x21 (wrap64 (x22+1))) else (none)) else (none)) else (none)) else (none)) else (none)) else (none)) else (impl_turned.l0 k x0 x3 x10 (wrap64 (x11+1)))
end
def impl_turned.f (k:Nat) (l0:List (List Int)):Option ((List (List Int))):=if 0≤(l0.length:Int) then (if ((l0.length:Int):Int).toNat≤11728124029610 then (impl_turned.l0 k l0 (List.replicate ((l0.length:Int):Int).toNat []) (l0.length:Int) 0) else (none)) else (none)
mutual
def impl_meet.l0:Nat→List (List Int)→Int→Int→Int→Int→Option (Int)
 | 0,_,_,_,_,_=>none
 | k+1,x0,x1,x2,x11,x12=>if x12<x11 then (if 0≤x12 then (if x12<(x0.length:Int) then (if 0≤x1 then (if x1<((rd_L1 x0 x12).length:Int) then (if (rd (rd_L1 x0 x12) x1)=0 then (impl_meet.j1 k x0 x1 x2 x12 x11 x12 true) else (if 0≤x2 then (if x2<((rd_L1 x0 x12).length:Int) then (impl_meet.j1 k x0 x1 x2 x12 x11 x12 ((rd (rd_L1 x0 x12) x2)==0)) else (none)) else (none))) else (none)) else (none)) else (none)) else (none)) else (some (-1))
def impl_meet.j1:Nat→List (List Int)→Int→Int→Int→Int→Int→Bool→Option (Int)
 | 0,_,_,_,_,_,_,_=>none
 | k+1,x0,x1,x2,x7,x11,x12,x32=>if x32=true then (impl_meet.l0 k x0 x1 x2 x11 (wrap64 (x12+1))) else (impl_meet.l1 k x0 x1 x2 x7 true x11 x12 (x0.length:Int) 0)
def impl_meet.l1:Nat→List (List Int)→Int→Int→Int→Bool→Int→Int→Int→Int→Option (Int)
 | 0,_,_,_,_,_,_,_,_,_=>none
 | k+1,x0,x1,x2,x7,x8,x11,x12,x34,x35=>if x35<x34 then (if x8=true then (if 0≤x35 then (if x35<(x0.length:Int) then (if 0≤x1 then (if x1<((rd_L1 x0 x35).length:Int) then (if (rd (rd_L1 x0 x35) x1)=0 then (impl_meet.l1 k x0 x1 x2 x7 true x11 x12 x34 (wrap64 (x35+1))) else (if 0≤x2 then (if x2<((rd_L1 x0 x35).length:Int) then (if (rd (rd_L1 x0 x35) x2)=0 then (impl_meet.l1 k x0 x1 x2 x7 true x11 x12 x34 (wrap64 (x35+1))) else (if 0≤x7 then (if x7<((rd_L1 x0 x35).length:Int) then (impl_meet.l1 k x0 x1 x2 x7 ((rd (rd_L1 x0 x35) x7)==1) x11 x12 x34 (wrap64 (x35+1))) else (none)) else (none))) else (none)) else (none))) else (none)) else (none)) else (none)) else (none)) else (impl_meet.l1 k x0 x1 x2 x7 false x11 x12 x34 (wrap64 (x35+1)))) else (if x8=true then (some x7) else (impl_meet.l0 k x0 x1 x2 x11 (wrap64 (x12+1))))
end
def impl_meet.f (k:Nat) (l0:List (List Int)) (a1:Int) (a2:Int):Option (Int):=impl_meet.l0 k l0 a1 a2 (l0.length:Int) 0
mutual
def impl_LatticeOk.l0:Nat→List (List Int)→List (List Int)→Int→Int→Option (Bool)
 | 0,_,_,_,_=>none
 | k+1,x0,x3,x12,x13=>if x13<x12 then (impl_LatticeOk.l1 k x0 x3 x13 x12 x13 (x0.length:Int) 0) else (some true)
def impl_LatticeOk.l1:Nat→List (List Int)→List (List Int)→Int→Int→Int→Int→Int→Option (Bool)
 | 0,_,_,_,_,_,_,_=>none
 | k+1,x0,x3,x4,x12,x13,x17,x18=>if x18<x17 then ((impl_meet.f k x0 x4 x18).bind fun t204=>(if t204<0 then (some false) else ((impl_meet.f k x3 x4 x18).bind fun t205=>(if t205<0 then (some false) else (impl_LatticeOk.l1 k x0 x3 x4 x12 x13 x17 (wrap64 (x18+1))))))) else (impl_LatticeOk.l0 k x0 x3 x12 (wrap64 (x13+1)))
end
def impl_LatticeOk.f (k:Nat) (l0:List (List Int)):Option (Bool):=(impl_OrderOk.f k l0).bind fun t200=>(if t200=true then ((impl_turned.f k l0).bind fun t201=>(impl_LatticeOk.l0 k l0 t201 (l0.length:Int) 0)) else (some false))
def impl_isAnswer.f (l0:List (List Int)) (a1:Int):Option (Bool):=if a1≥0 then (some (decide (a1<(l0.length:Int)))) else (some false)
def impl_LogicOk.f (l0_0:List (List Int)) (l0_1:List Int):Option (Bool):=some (logicF l0_0 l0_1)
mutual
def impl_AtomsOf.l0:Nat→List (List Int)→Int→List Int→Int→Int→Option (List Int)
 | 0,_,_,_,_,_=>none
 | k+1,x0,x3,x5,x18,x19=>if x19<x18 then (impl_AtomsOf.l1 k x0 x3 x5 x19 0 x18 x19 (x0.length:Int) 0) else (some x5)
def impl_AtomsOf.l1:Nat→List (List Int)→Int→List Int→Int→Int→Int→Int→Int→Int→Option (List Int)
 | 0,_,_,_,_,_,_,_,_,_=>none
 | k+1,x0,x3,x5,x6,x7,x18,x19,x23,x24=>if x24<x23 then (if 0≤x24 then (if x24<(x0.length:Int) then (if 0≤x6 then (if x6<((rd_L1 x0 x24).length:Int) then (impl_AtomsOf.l1 k x0 x3 x5 x6 (wrap64 (x7+(rd (rd_L1 x0 x24) x6))) x18 x19 x23 (wrap64 (x24+1))) else (none)) else (none)) else (none)) else (none)) else (if x6=x3 then (impl_AtomsOf.l0 k x0 x3 x5 x18 (wrap64 (x19+1))) else (if x7=2 then (if x5.length<17592186044416 then (impl_AtomsOf.l0 k x0 x3 (x5 ++ [x6]) x18 (wrap64 (x19+1))) else (none)) else (impl_AtomsOf.l0 k x0 x3 x5 x18 (wrap64 (x19+1)))))
end
def impl_AtomsOf.f (k:Nat) (l0:List (List Int)):Option (List Int):=(impl_LeastOf.f k l0).bind fun bt208=>(if bt208.2=true then (impl_AtomsOf.l0 k l0 bt208.1 (([]:List Int)) (l0.length:Int) 0) else (some ([]:List Int)))
def laws_FnRingOf.j0:Nat→Bool→Bool→List (List Int)→List Int→Option (Bool)
 | 0,_,_,_,_=>none
 | k+1,x5,x31,x227000,x227001=>if x31=true then (some false) else (if x5=true then ((impl_LogicOk.f x227000 x227001).bind fun t236=>(if t236=true then ((impl_AtomsOf.f k x227000).bind fun t237=>(if (t237.length:Int)=2 then (some ((x227001.length:Int)==6)) else (some false))) else (some false))) else ((laws_noLogic.f k x227000 x227001).bind fun t240=>(if t240=true then ((laws_alive.f k).bind fun t241=>(some t241)) else (some false))))
def laws_FnRingOf.f (k:Nat) (l0:List Int):Option (Bool):=if (l0.length:Int)>1048576 then (some true) else ((spec_DrawRingOf.f k l0).bind fun t218=>((impl_RingOf.f t218).bind fun bt219=>((spec_RingOf.f t218).bind fun bt227=>((laws_sameLogic.f k bt219.1 bt219.2.1 bt227.1 bt227.2.1).bind fun t235=>(if t235=true then (laws_FnRingOf.j0 k bt219.2.2 (bt219.2.2 != bt227.2.2) bt219.1 bt219.2.1) else (laws_FnRingOf.j0 k bt219.2.2 true bt219.1 bt219.2.1))))))
def laws_FnRingOf.Pure:Prop:=∀ (l0:List Int),l0.length≤maxLen→l0.length*1≤140737488351232→(∀ x∈l0,(Lit.int .u8 x).wf=true)→∃ k,laws_FnRingOf.f k l0=some true
def spec_DrawSetsOf.f (k:Nat) (l0:List Int):Option (Int):=(spec_l20Open.f l0).bind fun bt242=>((spec_l20Rd_pick.f k bt242.1 bt242.2 6).bind fun bt245=>(some (wrap64 (bt245.1-1))))
def impl_SetsOf.f (a0:Int):Option ((List (List Int)) × List Int × Bool):=some (setsF a0)
def spec_l1In.f (a0:Int) (a1:Int) (a2:Int):Option (Bool):=if a0≥a1 then (some (decide (a0≤a2))) else (some false)
mutual
def spec_SetsOf.l0:Nat→Int→Int→List (List Int)→List Int→Option ((List (List Int)) × List Int × Bool)
 | 0,_,_,_,_=>none
 | k+1,x0,x5,x249000,x249001=>if 0≤x0 then (if x5<(shl .i64 1 x0) then (spec_SetsOf.l1 k x0 x5 (([]:List Int)) 0 x249000 x249001) else (some (x249000,x249001,true))) else (none)
def spec_SetsOf.l1:Nat→Int→Int→List Int→Int→List (List Int)→List Int→Option ((List (List Int)) × List Int × Bool)
 | 0,_,_,_,_,_,_=>none
 | k+1,x0,x5,x6,x7,x249000,x249001=>if 0≤x0 then (if x7<(shl .i64 1 x0) then (if (Go.bits .and .i64 x5 x7)=x5 then (if x6.length<17592186044416 then (spec_SetsOf.l1 k x0 x5 (x6 ++ [1]) (wrap64 (x7+1)) x249000 x249001) else (none)) else (if x6.length<17592186044416 then (spec_SetsOf.l1 k x0 x5 (x6 ++ [0]) (wrap64 (x7+1)) x249000 x249001) else (none))) else (if x249000.length<5864062014805 then (if x249001.length<17592186044416 then (spec_SetsOf.l0 k x0 (wrap64 (x5+1)) (x249000 ++ [x6]) (x249001 ++ [wrap64 ((wrap64 ((shl .i64 1 x0)-1))-x5)])) else (none)) else (none))) else (none)
end
def spec_SetsOf.f (k:Nat) (a0:Int):Option ((List (List Int)) × List Int × Bool):=(spec_l1In.f a0 0 3).bind fun t249=>(if t249=true then (spec_SetsOf.l0 k a0 0 ([]:List (List Int)) ([]:List Int)) else (some (([]:List (List Int)),([]:List Int),false)))
def laws_FnSetsOf.j0:Nat→Int→Bool→Bool→List (List Int)→List Int→Option (Bool)
 | 0,_,_,_,_,_=>none
 | k+1,x3,x5,x31,x274000,x274001=>if x31=true then (some false) else (if x5=true then ((impl_LogicOk.f x274000 x274001).bind fun t283=>(if t283=true then ((impl_AtomsOf.f k x274000).bind fun t284=>(if (t284.length:Int)=x3 then (if 0≤x3 then (some ((x274001.length:Int)==(shl .i64 1 x3))) else (none)) else (some false))) else (some false))) else ((laws_noLogic.f k x274000 x274001).bind fun t287=>(if t287=true then ((laws_alive.f k).bind fun t288=>(some t288)) else (some false))))
def laws_FnSetsOf.f (k:Nat) (l0:List Int):Option (Bool):=if (l0.length:Int)>1048576 then (some true) else ((spec_DrawSetsOf.f k l0).bind fun t265=>((impl_SetsOf.f t265).bind fun bt266=>((spec_SetsOf.f k t265).bind fun bt274=>((laws_sameLogic.f k bt266.1 bt266.2.1 bt274.1 bt274.2.1).bind fun t282=>(if t282=true then (laws_FnSetsOf.j0 k t265 bt266.2.2 (bt266.2.2 != bt274.2.2) bt266.1 bt266.2.1) else (laws_FnSetsOf.j0 k t265 bt266.2.2 true bt266.1 bt266.2.1))))))
def laws_FnSetsOf.Pure:Prop:=∀ (l0:List Int),l0.length≤maxLen→l0.length*1≤140737488351232→(∀ x∈l0,(Lit.int .u8 x).wf=true)→∃ k,laws_FnSetsOf.f k l0=some true
mutual
def spec_l20Sets.l0:Nat→Int→List (List Int)→Int→Option ((List (List Int)))
 | 0,_,_,_=>none
 | k+1,x0,x3,x4=>if 0≤x0 then (if x4<(shl .i64 1 x0) then (spec_l20Sets.l1 k x0 x3 x4 (([]:List Int)) 0) else (some x3)) else (none)
def spec_l20Sets.l1:Nat→Int→List (List Int)→Int→List Int→Int→Option ((List (List Int)))
 | 0,_,_,_,_,_=>none
 | k+1,x0,x3,x4,x5,x6=>if 0≤x0 then (if x6<(shl .i64 1 x0) then (if (Go.bits .and .i64 x4 x6)=x4 then (if x5.length<17592186044416 then (spec_l20Sets.l1 k x0 x3 x4 (x5 ++ [1]) (wrap64 (x6+1))) else (none)) else (if x5.length<17592186044416 then (spec_l20Sets.l1 k x0 x3 x4 (x5 ++ [0]) (wrap64 (x6+1))) else (none))) else (if x3.length<5864062014805 then (spec_l20Sets.l0 k x0 (x3 ++ [x5]) (wrap64 (x4+1))) else (none))) else (none)
end
def spec_l20Sets.f (k:Nat) (a0:Int):Option ((List (List Int))):=spec_l20Sets.l0 k a0 (([]:List (List Int))) 0
def spec_l20Boole.l0:Nat→Int→Int→List (List Int)→List Int→Option ((List (List Int)) × List Int)
 | 0,_,_,_,_=>none
 | k+1,x0,x4,x309000,x309001=>if 0≤x0 then (if x4<(shl .i64 1 x0) then (if x309001.length<17592186044416 then (spec_l20Boole.l0 k x0 (wrap64 (x4+1)) x309000 (x309001 ++ [wrap64 ((wrap64 ((shl .i64 1 x0)-1))-x4)])) else (none)) else (some (x309000,x309001))) else (none)
def spec_l20Boole.f (k:Nat) (a0:Int):Option ((List (List Int)) × List Int):=(spec_l20Sets.f k a0).bind fun t305=>(spec_l20Boole.l0 k a0 0 t305 ([]:List Int))
def spec_l20Rd_odd.f (k:Nat) (s0_0:List Int) (s0_1:Int) (a1:Int):Option (Bool × Int):=if a1>0 then ((spec_l20Rd_pick.f k s0_0 s0_1 a1).bind fun bt312=>(some ((bt312.1==(wrap64 (a1-1))),bt312.2))) else (some (false,s0_1))
mutual
def spec_l20Glued.l0:Nat→Int→Int→Int→List (List Int)→List Int→List (List Int)→List Int→List (List Int)→List Int→Option ((List (List Int)) × List Int)
 | 0,_,_,_,_,_,_,_,_,_=>none
 | k+1,x5,x6,x8,x315000,x315001,x316000,x316001,x318000,x318001=>if x8<(wrap64 ((wrap64 (x5+x6))-2)) then (spec_l20Glued.l1 k x5 x6 x8 (([]:List Int)) 0 x315000 x315001 x316000 x316001 x318000 x318001) else (some (x318000,x318001))
def spec_l20Glued.l1:Nat→Int→Int→Int→List Int→Int→List (List Int)→List Int→List (List Int)→List Int→List (List Int)→List Int→Option ((List (List Int)) × List Int)
 | 0,_,_,_,_,_,_,_,_,_,_,_=>none
 | k+1,x5,x6,x8,x9,x10,x315000,x315001,x316000,x316001,x318000,x318001=>if x10<(wrap64 ((wrap64 (x5+x6))-2)) then (if x8=0 then (spec_l20Glued.j2 k x5 x6 x8 x9 x10 0 true x315000 x315001 x316000 x316001 x318000 x318001) else (spec_l20Glued.j2 k x5 x6 x8 x9 x10 0 (x10==(wrap64 ((wrap64 (x5+x6))-3))) x315000 x315001 x316000 x316001 x318000 x318001)) else (if x318000.length<5864062014805 then ((some (x318000 ++ [x9]:List (List Int))).bind fun y340=>(if x8=0 then (if x318001.length<17592186044416 then (spec_l20Glued.l0 k x5 x6 (wrap64 (x8+1)) x315000 x315001 x316000 x316001 y340 (x318001 ++ [wrap64 ((wrap64 (x5+x6))-3)])) else (none)) else (if x8=(wrap64 ((wrap64 (x5+x6))-3)) then (if x318001.length<17592186044416 then (spec_l20Glued.l0 k x5 x6 (wrap64 (x8+1)) x315000 x315001 x316000 x316001 y340 (x318001 ++ [0])) else (none)) else (if x8<(wrap64 (x5-1)) then (if 0≤x8 then (if x8<(x315001.length:Int) then (if x318001.length<17592186044416 then (spec_l20Glued.l0 k x5 x6 (wrap64 (x8+1)) x315000 x315001 x316000 x316001 y340 (x318001 ++ [rd x315001 x8])) else (none)) else (none)) else (none)) else (if 0≤(wrap64 ((wrap64 (x8-x5))+2)) then (if (wrap64 ((wrap64 (x8-x5))+2))<(x316001.length:Int) then (if x318001.length<17592186044416 then (spec_l20Glued.l0 k x5 x6 (wrap64 (x8+1)) x315000 x315001 x316000 x316001 y340 (x318001 ++ [wrap64 ((wrap64 ((rd x316001 (wrap64 ((wrap64 (x8-x5))+2)))+x5))-2)])) else (none)) else (none)) else (none)))))) else (none))
def spec_l20Glued.j2:Nat→Int→Int→Int→List Int→Int→Int→Bool→List (List Int)→List Int→List (List Int)→List Int→List (List Int)→List Int→Option ((List (List Int)) × List Int)
 | 0,_,_,_,_,_,_,_,_,_,_,_,_,_=>none
 | k+1,x5,x6,x8,x9,x10,x11,x36,x315000,x315001,x316000,x316001,x318000,x318001=>if x36=true then (if x9.length<17592186044416 then (spec_l20Glued.l1 k x5 x6 x8 (x9 ++ [1]) (wrap64 (x10+1)) x315000 x315001 x316000 x316001 x318000 x318001) else (none)) else (if x8<(wrap64 (x5-1)) then (spec_l20Glued.j3 k x5 x6 x8 x9 x10 x11 (decide (x10<(wrap64 (x5-1)))) x315000 x315001 x316000 x316001 x318000 x318001) else (spec_l20Glued.j3 k x5 x6 x8 x9 x10 x11 false x315000 x315001 x316000 x316001 x318000 x318001))
def spec_l20Glued.j3:Nat→Int→Int→Int→List Int→Int→Int→Bool→List (List Int)→List Int→List (List Int)→List Int→List (List Int)→List Int→Option ((List (List Int)) × List Int)
 | 0,_,_,_,_,_,_,_,_,_,_,_,_,_=>none
 | k+1,x5,x6,x8,x9,x10,x11,x47,x315000,x315001,x316000,x316001,x318000,x318001=>if x47=true then (if 0≤x8 then (if x8<(x315000.length:Int) then (if 0≤x10 then (if x10<((rd_L1 x315000 x8).length:Int) then (if x9.length<17592186044416 then (spec_l20Glued.l1 k x5 x6 x8 (x9 ++ [rd (rd_L1 x315000 x8) x10]) (wrap64 (x10+1)) x315000 x315001 x316000 x316001 x318000 x318001) else (none)) else (none)) else (none)) else (none)) else (none)) else (if x8≥(wrap64 (x5-1)) then (if x10≥(wrap64 (x5-1)) then (spec_l20Glued.j4 k x5 x6 x8 x9 x10 x11 (decide (x8<(wrap64 ((wrap64 (x5+x6))-3)))) x315000 x315001 x316000 x316001 x318000 x318001) else (spec_l20Glued.j4 k x5 x6 x8 x9 x10 x11 false x315000 x315001 x316000 x316001 x318000 x318001)) else (spec_l20Glued.j4 k x5 x6 x8 x9 x10 x11 false x315000 x315001 x316000 x316001 x318000 x318001))
def spec_l20Glued.j4:Nat→Int→Int→Int→List Int→Int→Int→Bool→List (List Int)→List Int→List (List Int)→List Int→List (List Int)→List Int→Option ((List (List Int)) × List Int)
 | 0,_,_,_,_,_,_,_,_,_,_,_,_,_=>none
 | k+1,x5,x6,x8,x9,x10,x11,x66,x315000,x315001,x316000,x316001,x318000,x318001=>if x66=true then (if 0≤(wrap64 ((wrap64 (x8-x5))+2)) then (if (wrap64 ((wrap64 (x8-x5))+2))<(x316000.length:Int) then (if 0≤(wrap64 ((wrap64 (x10-x5))+2)) then (if (wrap64 ((wrap64 (x10-x5))+2))<((rd_L1 x316000 (wrap64 ((wrap64 (x8-x5))+2))).length:Int) then (if x9.length<17592186044416 then (spec_l20Glued.l1 k x5 x6 x8 (x9 ++ [rd (rd_L1 x316000 (wrap64 ((wrap64 (x8-x5))+2))) (wrap64 ((wrap64 (x10-x5))+2))]) (wrap64 (x10+1)) x315000 x315001 x316000 x316001 x318000 x318001) else (none)) else (none)) else (none)) else (none)) else (none)) else (if x8=x10 then (if x9.length<17592186044416 then (spec_l20Glued.l1 k x5 x6 x8 (x9 ++ [1]) (wrap64 (x10+1)) x315000 x315001 x316000 x316001 x318000 x318001) else (none)) else (if x9.length<17592186044416 then (spec_l20Glued.l1 k x5 x6 x8 (x9 ++ [x11]) (wrap64 (x10+1)) x315000 x315001 x316000 x316001 x318000 x318001) else (none)))
end
def spec_l20Glued.f (k:Nat) (l0_0:List (List Int)) (l0_1:List Int) (l1_0:List (List Int)) (l1_1:List Int):Option ((List (List Int)) × List Int):=spec_l20Glued.l0 k (l0_1.length:Int) (l1_1.length:Int) 0 l0_0 l0_1 l1_0 l1_1 ([]:List (List Int)) ([]:List Int)
def spec_l20Six.f  : Option ((List (List Int)) × List Int):=some (sixU,sixN)
mutual
def spec_l20Pasted.l0:Nat→Int→List (List Int)→Option ((List (List Int)) × List Int)
 | 0,_,_=>none
 | k+1,x2,x359000=>if x2<12 then (spec_l20Pasted.l1 k x2 (([]:List Int)) 0 x359000) else (some (x359000,(([11,6,7,8,9,10,1,2,3,4,5,0]:List Int))))
def spec_l20Pasted.l1:Nat→Int→List Int→Int→List (List Int)→Option ((List (List Int)) × List Int)
 | 0,_,_,_,_=>none
 | k+1,x2,x3,x4,x359000=>if x4<12 then (if x2=x4 then (spec_l20Pasted.j2 k x2 x3 x4 0 true x359000) else (if x2=0 then (spec_l20Pasted.j2 k x2 x3 x4 0 true x359000) else (spec_l20Pasted.j2 k x2 x3 x4 0 (x4==11) x359000))) else (if x359000.length<5864062014805 then (spec_l20Pasted.l0 k (wrap64 (x2+1)) (x359000 ++ [x3])) else (none))
def spec_l20Pasted.j2:Nat→Int→List Int→Int→Int→Bool→List (List Int)→Option ((List (List Int)) × List Int)
 | 0,_,_,_,_,_,_=>none
 | k+1,x2,x3,x4,x5,x17,x359000=>if x17=true then (if x3.length<17592186044416 then (spec_l20Pasted.l1 k x2 (x3 ++ [1]) (wrap64 (x4+1)) x359000) else (none)) else ((spec_l1In.f x2 1 5).bind fun t371=>(if t371=true then ((spec_l1In.f x4 6 10).bind fun t372=>(if t372=true then (spec_l20Pasted.j3 k x2 x3 x4 x5 (x2 != (wrap64 (x4-5))) x359000) else (spec_l20Pasted.j3 k x2 x3 x4 x5 false x359000))) else (spec_l20Pasted.j3 k x2 x3 x4 x5 false x359000)))
def spec_l20Pasted.j3:Nat→Int→List Int→Int→Int→Bool→List (List Int)→Option ((List (List Int)) × List Int)
 | 0,_,_,_,_,_,_=>none
 | k+1,x2,x3,x4,x5,x29,x359000=>if x29=true then (if x2≤3 then (if (wrap64 (x4-5))≤3 then (if x3.length<17592186044416 then (spec_l20Pasted.l1 k x2 (x3 ++ [1]) (wrap64 (x4+1)) x359000) else (none)) else (if x2≥3 then (if (wrap64 (x4-5))≥3 then (if x3.length<17592186044416 then (spec_l20Pasted.l1 k x2 (x3 ++ [1]) (wrap64 (x4+1)) x359000) else (none)) else (if x3.length<17592186044416 then (spec_l20Pasted.l1 k x2 (x3 ++ [x5]) (wrap64 (x4+1)) x359000) else (none))) else (if x3.length<17592186044416 then (spec_l20Pasted.l1 k x2 (x3 ++ [x5]) (wrap64 (x4+1)) x359000) else (none)))) else (if x2≥3 then (if (wrap64 (x4-5))≥3 then (if x3.length<17592186044416 then (spec_l20Pasted.l1 k x2 (x3 ++ [1]) (wrap64 (x4+1)) x359000) else (none)) else (if x3.length<17592186044416 then (spec_l20Pasted.l1 k x2 (x3 ++ [x5]) (wrap64 (x4+1)) x359000) else (none))) else (if x3.length<17592186044416 then (spec_l20Pasted.l1 k x2 (x3 ++ [x5]) (wrap64 (x4+1)) x359000) else (none)))) else (if x3.length<17592186044416 then (spec_l20Pasted.l1 k x2 (x3 ++ [x5]) (wrap64 (x4+1)) x359000) else (none))
end
def spec_l20Pasted.f (k:Nat)  : Option ((List (List Int)) × List Int):=spec_l20Pasted.l0 k 0 ([]:List (List Int))
mutual
def spec_l20Rename.l0:Nat→List Int→List Int→Int→List (List Int)→List Int→Option ((List (List Int)) × List Int)
 | 0,_,_,_,_,_=>none
 | k+1,x1,x5,x6,x398000,x398001=>if x6<(x1.length:Int) then (if 0≤x6 then (if 0≤(rd x1 x6) then (if (rd x1 x6)<(x5.length:Int) then (spec_l20Rename.l0 k x1 (x5.set ((rd x1 x6):Int).toNat x6) (wrap64 (x6+1)) x398000 x398001) else (none)) else (none)) else (none)) else (spec_l20Rename.l1 k x1 x5 0 x398000 x398001 ([]:List (List Int)) ([]:List Int))
def spec_l20Rename.l1:Nat→List Int→List Int→Int→List (List Int)→List Int→List (List Int)→List Int→Option ((List (List Int)) × List Int)
 | 0,_,_,_,_,_,_,_=>none
 | k+1,x1,x5,x8,x398000,x398001,x405000,x405001=>if x8<(x1.length:Int) then (spec_l20Rename.l2 k x1 x5 x8 (([]:List Int)) 0 x398000 x398001 x405000 x405001) else (some (x405000,x405001))
def spec_l20Rename.l2:Nat→List Int→List Int→Int→List Int→Int→List (List Int)→List Int→List (List Int)→List Int→Option ((List (List Int)) × List Int)
 | 0,_,_,_,_,_,_,_,_,_=>none
 | k+1,x1,x5,x8,x9,x10,x398000,x398001,x405000,x405001=>if x10<(x1.length:Int) then (if 0≤x8 then (if x8<(x1.length:Int) then (if 0≤(rd x1 x8) then (if (rd x1 x8)<(x398000.length:Int) then (if 0≤x10 then (if 0≤(rd x1 x10) then (if (rd x1 x10)<((rd_L1 x398000 (rd x1 x8)).length:Int) then (if x9.length<17592186044416 then (spec_l20Rename.l2 k x1 x5 x8 (x9 ++ [rd (rd_L1 x398000 (rd x1 x8)) (rd x1 x10)]) (wrap64 (x10+1)) x398000 x398001 x405000 x405001) else (none)) else (none)) else (none)) else (none)) else (none)) else (none)) else (none)) else (none)) else (if x405000.length<5864062014805 then (if 0≤x8 then (if x8<(x1.length:Int) then (if 0≤(rd x1 x8) then (if (rd x1 x8)<(x398001.length:Int) then (if 0≤(rd x398001 (rd x1 x8)) then (if (rd x398001 (rd x1 x8))<(x5.length:Int) then (if x405001.length<17592186044416 then (spec_l20Rename.l1 k x1 x5 (wrap64 (x8+1)) x398000 x398001 (x405000 ++ [x9]) (x405001 ++ [rd x5 (rd x398001 (rd x1 x8))])) else (none)) else (none)) else (none)) else (none)) else (none)) else (none)) else (none)) else (none))
end
def spec_l20Rename.f (k:Nat) (l0_0:List (List Int)) (l0_1:List Int) (l1:List Int):Option ((List (List Int)) × List Int):=if 0≤(l1.length:Int) then (if ((l1.length:Int):Int).toNat≤35184372088832 then (spec_l20Rename.l0 k l1 (List.replicate ((l1.length:Int):Int).toNat 0) 0 l0_0 l0_1) else (none)) else (none)
mutual
def spec_l20Logic.j2:Nat→Int→List Int→Int→List (List Int)→List Int→Option ((List (List Int)) × List Int × Int)
 | 0,_,_,_,_,_=>none
 | k+1,x1,x1000,x1001,x426000,x426001=>spec_l20Logic.l0 k x1 (([]:List Int)) 0 x1000 x1001 x426000 x426001
def spec_l20Logic.l0:Nat→Int→List Int→Int→List Int→Int→List (List Int)→List Int→Option ((List (List Int)) × List Int × Int)
 | 0,_,_,_,_,_,_,_=>none
 | k+1,x1,x6,x7,x1000,x1001,x426000,x426001=>if x7<(x426001.length:Int) then ((spec_l20Rd_pick.f k x1000 x1001 (wrap64 (x7+1))).bind fun bt535=>(if x6.length<17592186044416 then (spec_l20Logic.l1 k x1 (x6 ++ [x7]) x7 bt535.1 x7 x1000 bt535.2 x426000 x426001) else (none))) else ((spec_l20Rd_pick.f k x1000 x1001 2).bind fun bt543=>(if bt543.1=0 then ((spec_l20Rename.f k x426000 x426001 x6).bind fun bt545=>(spec_l20Logic.j5 k x1 x1000 bt543.2 bt545.1 bt545.2)) else (spec_l20Logic.j5 k x1 x1000 bt543.2 x426000 x426001)))
def spec_l20Logic.l1:Nat→Int→List Int→Int→Int→Int→List Int→Int→List (List Int)→List Int→Option ((List (List Int)) × List Int × Int)
 | 0,_,_,_,_,_,_,_,_,_=>none
 | k+1,x1,x6,x7,x8,x9,x1000,x1001,x426000,x426001=>if x9>x8 then (if 0≤(wrap64 (x9-1)) then (if (wrap64 (x9-1))<(x6.length:Int) then (if 0≤x9 then (if x9<(x6.length:Int) then (spec_l20Logic.l1 k x1 (x6.set (x9:Int).toNat (rd x6 (wrap64 (x9-1)))) x7 x8 (wrap64 (x9-1)) x1000 x1001 x426000 x426001) else (none)) else (none)) else (none)) else (none)) else (if 0≤x8 then (if x8<(x6.length:Int) then (spec_l20Logic.l0 k x1 (x6.set (x8:Int).toNat x7) (wrap64 (x7+1)) x1000 x1001 x426000 x426001) else (none)) else (none))
def spec_l20Logic.j5:Nat→Int→List Int→Int→List (List Int)→List Int→Option ((List (List Int)) × List Int × Int)
 | 0,_,_,_,_,_=>none
 | k+1,x1,x1000,x1001,x426000,x426001=>(spec_l20Rd_odd.f k x1000 x1001 x1).bind fun bt551=>(if bt551.1=true then ((spec_l20Rd_pick.f k x1000 bt551.2 4).bind fun bt553=>(if bt553.1=0 then (some (([]:List (List Int)),([]:List Int),bt553.2)) else (if bt553.1=1 then (if 1≤(x426001.length:Int) then (some (x426000,(x426001.drop (1:Int).toNat),bt553.2)) else (none)) else (if bt553.1=2 then ((spec_l20Rd_pick.f k x1000 bt553.2 (x426001.length:Int)).bind fun bt558=>((spec_l20Rd_pick.f k x1000 bt558.2 (wrap64 ((x426001.length:Int)+1))).bind fun bt560=>(if 0≤bt558.1 then (if bt558.1<(x426001.length:Int) then (some (x426000,(x426001.set (bt558.1:Int).toNat bt560.1),bt560.2)) else (none)) else (none)))) else (if 0≤(wrap64 ((x426000.length:Int)-1)) then (if (wrap64 ((x426000.length:Int)-1))<(x426000.length:Int) then (if 0<((rd_L1 x426000 (wrap64 ((x426000.length:Int)-1))).length:Int) then (some ((x426000.set ((wrap64 ((x426000.length:Int)-1)):Int).toNat ((rd_L1 x426000 (wrap64 ((x426000.length:Int)-1))).set (0:Int).toNat 1)),x426001,bt553.2)) else (none)) else (none)) else (none)))))) else (some (x426000,x426001,bt551.2)))
def spec_l20Logic.j0:Nat→Int→Int→Bool→List Int→Int→Option ((List (List Int)) × List Int × Int)
 | 0,_,_,_,_,_=>none
 | k+1,x1,x12,x14,x1000,x1001=>if x14=true then ((spec_l20Rd_pick.f k x1000 x1001 4).bind fun bt428=>((spec_l20Boole.f k bt428.1).bind fun bt430=>(spec_l20Logic.j2 k x1 x1000 bt428.2 bt430.1 bt430.2))) else (if x12=2 then (spec_l20Logic.j1 k x1 x12 (x12==2) x1000 x1001) else (spec_l20Logic.j1 k x1 x12 (x12==3) x1000 x1001))
def spec_l20Logic.j1:Nat→Int→Int→Bool→List Int→Int→Option ((List (List Int)) × List Int × Int)
 | 0,_,_,_,_,_=>none
 | k+1,x1,x12,x20,x1000,x1001=>if x20=true then ((spec_l20Boole.f k 2).bind fun bt436=>((spec_l20Boole.f k 2).bind fun bt442=>((spec_l20Glued.f k bt436.1 bt436.2 bt442.1 bt442.2).bind fun bt448=>(spec_l20Logic.j2 k x1 x1000 x1001 bt448.1 bt448.2)))) else (if x12=4 then ((spec_l20Boole.f k 2).bind fun bt454=>((spec_l20Boole.f k 3).bind fun bt460=>((spec_l20Glued.f k bt454.1 bt454.2 bt460.1 bt460.2).bind fun bt466=>(spec_l20Logic.j2 k x1 x1000 x1001 bt466.1 bt466.2)))) else (if x12=5 then ((spec_l20Boole.f k 2).bind fun bt472=>((spec_l20Boole.f k 2).bind fun bt478=>((spec_l20Glued.f k bt472.1 bt472.2 bt478.1 bt478.2).bind fun bt484=>((spec_l20Boole.f k 2).bind fun bt490=>((spec_l20Glued.f k bt484.1 bt484.2 bt490.1 bt490.2).bind fun bt496=>(spec_l20Logic.j2 k x1 x1000 x1001 bt496.1 bt496.2)))))) else (if x12=6 then ((spec_l20Six.f).bind fun bt502=>(spec_l20Logic.j2 k x1 x1000 x1001 bt502.1 bt502.2)) else (if x12=7 then ((spec_l20Six.f).bind fun bt508=>((spec_l20Boole.f k 2).bind fun bt514=>((spec_l20Glued.f k bt508.1 bt508.2 bt514.1 bt514.2).bind fun bt520=>(spec_l20Logic.j2 k x1 x1000 x1001 bt520.1 bt520.2)))) else ((spec_l20Pasted.f k).bind fun bt526=>(spec_l20Logic.j2 k x1 x1000 x1001 bt526.1 bt526.2))))))
end
def spec_l20Logic.f (k:Nat) (s0_0:List Int) (s0_1:Int) (a1:Int):Option ((List (List Int)) × List Int × Int):=(spec_l20Rd_pick.f k s0_0 s0_1 9).bind fun bt426=>(if bt426.1=0 then (spec_l20Logic.j0 k a1 bt426.1 (bt426.1==0) s0_0 bt426.2) else (spec_l20Logic.j0 k a1 bt426.1 (bt426.1==1) s0_0 bt426.2))
def impl_KeepsOk.f (l0_0:List (List Int)) (l0_1:List Int):Option (Bool):=some (keepsF l0_0 l0_1)
mutual
def spec_l1Meet.l0:Nat→List (List Int)→Int→Int→Int→Int→Option (Int)
 | 0,_,_,_,_,_=>none
 | k+1,x0,x1,x2,x7,x8=>if x8<(x0.length:Int) then (if 0≤x8 then (if 0≤x1 then (if x1<((rd_L1 x0 x8).length:Int) then (if (rd (rd_L1 x0 x8) x1)=1 then (if 0≤x2 then (if x2<((rd_L1 x0 x8).length:Int) then (if (rd (rd_L1 x0 x8) x2)=1 then (if x7<0 then (spec_l1Meet.l0 k x0 x1 x2 x8 (wrap64 (x8+1))) else (if 0≤x7 then (if x7<(x0.length:Int) then (if x8<((rd_L1 x0 x7).length:Int) then (if (rd (rd_L1 x0 x7) x8)=1 then (spec_l1Meet.l0 k x0 x1 x2 x8 (wrap64 (x8+1))) else (spec_l1Meet.l0 k x0 x1 x2 x7 (wrap64 (x8+1)))) else (none)) else (none)) else (none))) else (spec_l1Meet.l0 k x0 x1 x2 x7 (wrap64 (x8+1)))) else (none)) else (none)) else (spec_l1Meet.l0 k x0 x1 x2 x7 (wrap64 (x8+1)))) else (none)) else (none)) else (none)) else (spec_l1Meet.l1 k x0 x1 x2 x7 0)
def spec_l1Meet.l1:Nat→List (List Int)→Int→Int→Int→Int→Option (Int)
 | 0,_,_,_,_,_=>none
 | k+1,x0,x1,x2,x7,x9=>if x9<(x0.length:Int) then (if 0≤x9 then (if 0≤x1 then (if x1<((rd_L1 x0 x9).length:Int) then (if (rd (rd_L1 x0 x9) x1)=1 then (if 0≤x2 then (if x2<((rd_L1 x0 x9).length:Int) then (if (rd (rd_L1 x0 x9) x2)=1 then (if 0≤x7 then (if x7<((rd_L1 x0 x9).length:Int) then (if (rd (rd_L1 x0 x9) x7)=0 then (some (-1)) else (spec_l1Meet.l1 k x0 x1 x2 x7 (wrap64 (x9+1)))) else (none)) else (none)) else (spec_l1Meet.l1 k x0 x1 x2 x7 (wrap64 (x9+1)))) else (none)) else (none)) else (spec_l1Meet.l1 k x0 x1 x2 x7 (wrap64 (x9+1)))) else (none)) else (none)) else (none)) else (some x7)
end
def spec_l1Meet.f (k:Nat) (l0:List (List Int)) (a1:Int) (a2:Int):Option (Int):=spec_l1Meet.l0 k l0 a1 a2 (-1) 0
mutual
def spec_l1Join.l0:Nat→List (List Int)→Int→Int→Int→Int→Option (Int)
 | 0,_,_,_,_,_=>none
 | k+1,x0,x1,x2,x7,x8=>if x8<(x0.length:Int) then (if 0≤x1 then (if x1<(x0.length:Int) then (if 0≤x8 then (if x8<((rd_L1 x0 x1).length:Int) then (if (rd (rd_L1 x0 x1) x8)=1 then (if 0≤x2 then (if x2<(x0.length:Int) then (if x8<((rd_L1 x0 x2).length:Int) then (if (rd (rd_L1 x0 x2) x8)=1 then (if x7<0 then (spec_l1Join.l0 k x0 x1 x2 x8 (wrap64 (x8+1))) else (if 0≤x7 then (if x7<((rd_L1 x0 x8).length:Int) then (if (rd (rd_L1 x0 x8) x7)=1 then (spec_l1Join.l0 k x0 x1 x2 x8 (wrap64 (x8+1))) else (spec_l1Join.l0 k x0 x1 x2 x7 (wrap64 (x8+1)))) else (none)) else (none))) else (spec_l1Join.l0 k x0 x1 x2 x7 (wrap64 (x8+1)))) else (none)) else (none)) else (none)) else (spec_l1Join.l0 k x0 x1 x2 x7 (wrap64 (x8+1)))) else (none)) else (none)) else (none)) else (none)) else (spec_l1Join.l1 k x0 x1 x2 x7 0)
def spec_l1Join.l1:Nat→List (List Int)→Int→Int→Int→Int→Option (Int)
 | 0,_,_,_,_,_=>none
 | k+1,x0,x1,x2,x7,x9=>if x9<(x0.length:Int) then (if 0≤x1 then (if x1<(x0.length:Int) then (if 0≤x9 then (if x9<((rd_L1 x0 x1).length:Int) then (if (rd (rd_L1 x0 x1) x9)=1 then (if 0≤x2 then (if x2<(x0.length:Int) then (if x9<((rd_L1 x0 x2).length:Int) then (if (rd (rd_L1 x0 x2) x9)=1 then (if 0≤x7 then (if x7<(x0.length:Int) then (if x9<((rd_L1 x0 x7).length:Int) then (if (rd (rd_L1 x0 x7) x9)=0 then (some (-1)) else (spec_l1Join.l1 k x0 x1 x2 x7 (wrap64 (x9+1)))) else (none)) else (none)) else (none)) else (spec_l1Join.l1 k x0 x1 x2 x7 (wrap64 (x9+1)))) else (none)) else (none)) else (none)) else (spec_l1Join.l1 k x0 x1 x2 x7 (wrap64 (x9+1)))) else (none)) else (none)) else (none)) else (none)) else (some x7)
end
def spec_l1Join.f (k:Nat) (l0:List (List Int)) (a1:Int) (a2:Int):Option (Int):=spec_l1Join.l0 k l0 a1 a2 (-1) 0
mutual
def spec_OrderOk.l0:Nat→List (List Int)→Int→Int→Option (Bool)
 | 0,_,_,_=>none
 | k+1,x0,x3,x4=>if x4<x3 then (if 0≤x4 then (if x4<(x0.length:Int) then (if ((rd_L1 x0 x4).length:Int)=x3 then (spec_OrderOk.l1 k x0 x3 x4 0) else (some false)) else (none)) else (none)) else (spec_OrderOk.l2 k x0 x3 0)
def spec_OrderOk.l1:Nat→List (List Int)→Int→Int→Int→Option (Bool)
 | 0,_,_,_,_=>none
 | k+1,x0,x3,x4,x5=>if x5<x3 then (if 0≤x4 then (if x4<(x0.length:Int) then (if 0≤x5 then (if x5<((rd_L1 x0 x4).length:Int) then ((spec_l1In.f (rd (rd_L1 x0 x4) x5) 0 1).bind fun t607=>(if t607=true then (spec_OrderOk.l1 k x0 x3 x4 (wrap64 (x5+1))) else (some false))) else (none)) else (none)) else (none)) else (none)) else (spec_OrderOk.l0 k x0 x3 (wrap64 (x4+1)))
def spec_OrderOk.l2:Nat→List (List Int)→Int→Int→Option (Bool)
 | 0,_,_,_=>none
 | k+1,x0,x3,x6=>if x6<x3 then (spec_OrderOk.l3 k x0 x3 x6 0) else (some true)
def spec_OrderOk.l3:Nat→List (List Int)→Int→Int→Int→Option (Bool)
 | 0,_,_,_,_=>none
 | k+1,x0,x3,x6,x7=>if x7<x3 then (if x6=x7 then (if 0≤x6 then (if x6<(x0.length:Int) then (if 0≤x7 then (if x7<((rd_L1 x0 x6).length:Int) then (if (rd (rd_L1 x0 x6) x7)=0 then (spec_OrderOk.j4 k x0 x3 x6 x7 true) else (spec_OrderOk.j4 k x0 x3 x6 x7 false)) else (none)) else (none)) else (none)) else (none)) else (if 0≤x6 then (if x6<(x0.length:Int) then (if 0≤x7 then (if x7<((rd_L1 x0 x6).length:Int) then (if (rd (rd_L1 x0 x6) x7)=1 then (if x7<(x0.length:Int) then (if x6<((rd_L1 x0 x7).length:Int) then (spec_OrderOk.j4 k x0 x3 x6 x7 ((rd (rd_L1 x0 x7) x6)==1)) else (none)) else (none)) else (spec_OrderOk.j4 k x0 x3 x6 x7 false)) else (none)) else (none)) else (none)) else (none))) else (spec_OrderOk.l2 k x0 x3 (wrap64 (x6+1)))
def spec_OrderOk.j4:Nat→List (List Int)→Int→Int→Int→Bool→Option (Bool)
 | 0,_,_,_,_,_=>none
 | k+1,x0,x3,x6,x7,x87=>if x87=true then (some false) else (spec_OrderOk.l4 k x0 x3 x6 x7 0)
def spec_OrderOk.l4:Nat→List (List Int)→Int→Int→Int→Int→Option (Bool)
 | 0,_,_,_,_,_=>none
 | k+1,x0,x3,x6,x7,x8=>if x8<x3 then (if 0≤x6 then (if x6<(x0.length:Int) then (if 0≤x7 then (if x7<((rd_L1 x0 x6).length:Int) then (if (rd (rd_L1 x0 x6) x7)=1 then (if x7<(x0.length:Int) then (if 0≤x8 then (if x8<((rd_L1 x0 x7).length:Int) then (if (rd (rd_L1 x0 x7) x8)=1 then (if x8<((rd_L1 x0 x6).length:Int) then (if (rd (rd_L1 x0 x6) x8)=0 then (some false) else (spec_OrderOk.l4 k x0 x3 x6 x7 (wrap64 (x8+1)))) else (none)) else (spec_OrderOk.l4 k x0 x3 x6 x7 (wrap64 (x8+1)))) else (none)) else (none)) else (none)) else (spec_OrderOk.l4 k x0 x3 x6 x7 (wrap64 (x8+1)))) else (none)) else (none)) else (none)) else (none)) else (spec_OrderOk.l3 k x0 x3 x6 (wrap64 (x7+1)))
end
def spec_OrderOk.f (k:Nat) (l0:List (List Int)):Option (Bool):=(spec_l1In.f (l0.length:Int) 1 12).bind fun t603=>(if t603=true then (spec_OrderOk.l0 k l0 (l0.length:Int) 0) else (some false))
mutual
def spec_LatticeOk.l0:Nat→List (List Int)→Int→Option (Bool)
 | 0,_,_=>none
 | k+1,x0,x3=>if x3<(x0.length:Int) then ((spec_OrderOk.f k x0).bind fun t620=>(spec_LatticeOk.j1 k x0 x3 t620)) else (spec_LatticeOk.j1 k x0 x3 false)
def spec_LatticeOk.j1:Nat→List (List Int)→Int→Bool→Option (Bool)
 | 0,_,_,_=>none
 | k+1,x0,x3,x12=>if x12=true then (spec_LatticeOk.l1 k x0 x3 0) else ((spec_OrderOk.f k x0).bind fun t621=>(some t621))
def spec_LatticeOk.l1:Nat→List (List Int)→Int→Int→Option (Bool)
 | 0,_,_,_=>none
 | k+1,x0,x3,x4=>if x4<x3 then ((spec_l1Meet.f k x0 x3 x4).bind fun t622=>(if t622<0 then (some false) else ((spec_l1Join.f k x0 x3 x4).bind fun t623=>(if t623<0 then (some false) else (spec_LatticeOk.l1 k x0 x3 (wrap64 (x4+1))))))) else (spec_LatticeOk.l0 k x0 (wrap64 (x3+1)))
end
def spec_LatticeOk.f (k:Nat) (l0:List (List Int)):Option (Bool):=spec_LatticeOk.l0 k l0 0
mutual
def spec_LeastOf.l0:Nat→List (List Int)→Int→Option (Int × Bool)
 | 0,_,_=>none
 | k+1,x0,x4=>if x4<(x0.length:Int) then ((spec_OrderOk.f k x0).bind fun t624=>(spec_LeastOf.j1 k x0 x4 t624)) else (spec_LeastOf.j1 k x0 x4 false)
def spec_LeastOf.j1:Nat→List (List Int)→Int→Bool→Option (Int × Bool)
 | 0,_,_,_=>none
 | k+1,x0,x4,x14=>if x14=true then (spec_LeastOf.l1 k x0 x4 true 0) else (some ((-1),false))
def spec_LeastOf.l1:Nat→List (List Int)→Int→Bool→Int→Option (Int × Bool)
 | 0,_,_,_,_=>none
 | k+1,x0,x4,x5,x6=>if x6<(x0.length:Int) then (if x5=true then (if 0≤x4 then (if x4<(x0.length:Int) then (if 0≤x6 then (if x6<((rd_L1 x0 x4).length:Int) then (spec_LeastOf.l1 k x0 x4 ((rd (rd_L1 x0 x4) x6)==1) (wrap64 (x6+1))) else (none)) else (none)) else (none)) else (none)) else (spec_LeastOf.l1 k x0 x4 false (wrap64 (x6+1)))) else (if x5=true then (some (x4,true)) else (spec_LeastOf.l0 k x0 (wrap64 (x4+1))))
end
def spec_LeastOf.f (k:Nat) (l0:List (List Int)):Option (Int × Bool):=spec_LeastOf.l0 k l0 0
mutual
def spec_LogicOk.j0:Nat→Int→Bool→List (List Int)→List Int→Option (Bool)
 | 0,_,_,_,_=>none
 | k+1,x3,x22,x628000,x628001=>if x22=true then (some false) else (spec_LogicOk.l0 k x3 0 x628000 x628001)
def spec_LogicOk.l0:Nat→Int→Int→List (List Int)→List Int→Option (Bool)
 | 0,_,_,_,_=>none
 | k+1,x3,x4,x628000,x628001=>if x4<x3 then (if 0≤x4 then (if x4<(x628001.length:Int) then ((spec_l1In.f (rd x628001 x4) 0 (wrap64 (x3-1))).bind fun t630=>(if t630=true then (spec_LogicOk.l0 k x3 (wrap64 (x4+1)) x628000 x628001) else (some false))) else (none)) else (none)) else ((spec_LeastOf.f k x628000).bind fun bt631=>(spec_LogicOk.l1 k x3 bt631.1 0 x628000 x628001))
def spec_LogicOk.l1:Nat→Int→Int→Int→List (List Int)→List Int→Option (Bool)
 | 0,_,_,_,_,_=>none
 | k+1,x3,x5,x7,x628000,x628001=>if x7<x3 then (if 0≤x7 then (if x7<(x628001.length:Int) then (if 0≤(rd x628001 x7) then (if (rd x628001 x7)<(x628001.length:Int) then (if (rd x628001 (rd x628001 x7))=x7 then ((spec_l1Meet.f k x628000 x7 (rd x628001 x7)).bind fun t636=>(spec_LogicOk.j3 k x3 x5 x7 (t636 != x5) x628000 x628001)) else (spec_LogicOk.j3 k x3 x5 x7 true x628000 x628001)) else (none)) else (none)) else (none)) else (none)) else (some true)
def spec_LogicOk.j3:Nat→Int→Int→Int→Bool→List (List Int)→List Int→Option (Bool)
 | 0,_,_,_,_,_,_=>none
 | k+1,x3,x5,x7,x71,x628000,x628001=>if x71=true then (some false) else (spec_LogicOk.l2 k x3 x5 x7 0 x628000 x628001)
def spec_LogicOk.l2:Nat→Int→Int→Int→Int→List (List Int)→List Int→Option (Bool)
 | 0,_,_,_,_,_,_=>none
 | k+1,x3,x5,x7,x8,x628000,x628001=>if x8<x3 then (if 0≤x7 then (if x7<(x628000.length:Int) then (if 0≤x8 then (if x8<((rd_L1 x628000 x7).length:Int) then (if (rd (rd_L1 x628000 x7) x8)=1 then (if x8<(x628001.length:Int) then (if 0≤(rd x628001 x8) then (if (rd x628001 x8)<(x628000.length:Int) then (if x7<(x628001.length:Int) then (if 0≤(rd x628001 x7) then (if (rd x628001 x7)<((rd_L1 x628000 (rd x628001 x8)).length:Int) then (if (rd (rd_L1 x628000 (rd x628001 x8)) (rd x628001 x7))=0 then (some false) else (spec_LogicOk.l2 k x3 x5 x7 (wrap64 (x8+1)) x628000 x628001)) else (none)) else (none)) else (none)) else (none)) else (none)) else (none)) else (spec_LogicOk.l2 k x3 x5 x7 (wrap64 (x8+1)) x628000 x628001)) else (none)) else (none)) else (none)) else (none)) else (spec_LogicOk.l1 k x3 x5 (wrap64 (x7+1)) x628000 x628001)
end
def spec_LogicOk.f (k:Nat) (l0_0:List (List Int)) (l0_1:List Int):Option (Bool):=(spec_LatticeOk.f k l0_0).bind fun t628=>(if t628=true then (spec_LogicOk.j0 k (l0_0.length:Int) ((l0_1.length:Int) != (l0_0.length:Int)) l0_0 l0_1) else (spec_LogicOk.j0 k (l0_0.length:Int) true l0_0 l0_1))
def impl_GluedOf.f (l0_0:List (List Int)) (l0_1:List Int) (l1_0:List (List Int)) (l1_1:List Int):Option ((List (List Int)) × List Int × Bool):=some (gluedF l0_0 l0_1 l1_0 l1_1)
mutual
def spec_SubOk.j0:Nat→Int→Int→Bool→List (List Int)→List Int→Option (Bool)
 | 0,_,_,_,_,_=>none
 | k+1,x1,x5,x21,x691000,x691001=>if x21=true then (some false) else (spec_SubOk.l0 k x1 x5 0 x691000 x691001)
def spec_SubOk.l0:Nat→Int→Int→Int→List (List Int)→List Int→Option (Bool)
 | 0,_,_,_,_,_=>none
 | k+1,x1,x5,x6,x691000,x691001=>if x6<x5 then (if 0≤x6 then (if (Int.tmod (shr .i64 x1 x6) 2)=0 then (spec_SubOk.l0 k x1 x5 (wrap64 (x6+1)) x691000 x691001) else (spec_SubOk.l1 k x1 x5 x6 0 x691000 x691001)) else (none)) else (some true)
def spec_SubOk.l1:Nat→Int→Int→Int→Int→List (List Int)→List Int→Option (Bool)
 | 0,_,_,_,_,_,_=>none
 | k+1,x1,x5,x6,x7,x691000,x691001=>if x7<x5 then (if 0≤x7 then (if (Int.tmod (shr .i64 x1 x7) 2)=1 then ((spec_l1Meet.f k x691000 x6 x7).bind fun t693=>(if 0≤t693 then (if (Int.tmod (shr .i64 x1 t693) 2)=0 then (some false) else (spec_SubOk.l1 k x1 x5 x6 (wrap64 (x7+1)) x691000 x691001)) else (none))) else (spec_SubOk.l1 k x1 x5 x6 (wrap64 (x7+1)) x691000 x691001)) else (none)) else (if 0≤x6 then (if x6<(x691001.length:Int) then (if 0≤(rd x691001 x6) then (if (Int.tmod (shr .i64 x1 (rd x691001 x6)) 2)=0 then (some false) else (spec_SubOk.l0 k x1 x5 (wrap64 (x6+1)) x691000 x691001)) else (none)) else (none)) else (none))
end
def spec_SubOk.f (k:Nat) (l0_0:List (List Int)) (l0_1:List Int) (a1:Int):Option (Bool):=(spec_LogicOk.f k l0_0 l0_1).bind fun t691=>(if t691=true then ((spec_l1In.f a1 1 (wrap64 ((shl .i64 1 (l0_1.length:Int))-1))).bind fun t692=>(spec_SubOk.j0 k a1 (l0_1.length:Int) (!t692) l0_0 l0_1)) else (spec_SubOk.j0 k a1 (l0_1.length:Int) true l0_0 l0_1))
mutual
def spec_MadeBy.j0:Nat→Int→Int→Bool→List (List Int)→List Int→Option (Int)
 | 0,_,_,_,_,_=>none
 | k+1,x1,x5,x23,x696000,x696001=>if x23=true then (some (-1)) else (spec_MadeBy.l0 k x5 x1 x696000 x696001)
def spec_MadeBy.l0:Nat→Int→Int→List (List Int)→List Int→Option (Int)
 | 0,_,_,_,_=>none
 | k+1,x5,x6,x696000,x696001=>(spec_SubOk.f k x696000 x696001 x6).bind fun t698=>(if t698=true then (some x6) else (spec_MadeBy.l1 k x5 x6 x6 0 x696000 x696001))
def spec_MadeBy.l1:Nat→Int→Int→Int→Int→List (List Int)→List Int→Option (Int)
 | 0,_,_,_,_,_,_=>none
 | k+1,x5,x6,x7,x8,x696000,x696001=>if x8<x5 then (spec_MadeBy.l2 k x5 x6 x7 x8 0 x696000 x696001) else (spec_MadeBy.l0 k x5 x7 x696000 x696001)
def spec_MadeBy.l2:Nat→Int→Int→Int→Int→Int→List (List Int)→List Int→Option (Int)
 | 0,_,_,_,_,_,_,_=>none
 | k+1,x5,x6,x7,x8,x9,x696000,x696001=>if x9<x5 then (if 0≤x8 then (if (Int.tmod (shr .i64 x6 x8) 2)=1 then (if 0≤x9 then (if (Int.tmod (shr .i64 x6 x9) 2)=1 then ((spec_l1Meet.f k x696000 x8 x9).bind fun t699=>(if 0≤t699 then (if x8<(x696001.length:Int) then (if 0≤(rd x696001 x8) then (spec_MadeBy.l2 k x5 x6 (Go.bits .or .i64 (Go.bits .or .i64 x7 (shl .i64 1 t699)) (shl .i64 1 (rd x696001 x8))) x8 (wrap64 (x9+1)) x696000 x696001) else (none)) else (none)) else (none))) else (spec_MadeBy.l2 k x5 x6 x7 x8 (wrap64 (x9+1)) x696000 x696001)) else (none)) else (spec_MadeBy.l2 k x5 x6 x7 x8 (wrap64 (x9+1)) x696000 x696001)) else (none)) else (spec_MadeBy.l1 k x5 x6 x7 (wrap64 (x8+1)) x696000 x696001)
end
def spec_MadeBy.f (k:Nat) (l0_0:List (List Int)) (l0_1:List Int) (a1:Int):Option (Int):=(spec_LogicOk.f k l0_0 l0_1).bind fun t696=>(if t696=true then ((spec_l1In.f a1 1 (wrap64 ((shl .i64 1 (l0_1.length:Int))-1))).bind fun t697=>(spec_MadeBy.j0 k a1 (l0_1.length:Int) (!t697) l0_0 l0_1)) else (spec_MadeBy.j0 k a1 (l0_1.length:Int) true l0_0 l0_1))
mutual
def spec_l20Some.j0:Nat→Int→List Int→Int→List (List Int)→List Int→Option ((List (List Int)) × List Int × Int × Int)
 | 0,_,_,_,_,_=>none
 | k+1,x8,x1000,x1001,x710000,x710001=>(spec_LogicOk.f k x710000 x710001).bind fun t718=>(if t718=true then ((spec_l20Rd_pick.f k x1000 x1001 2).bind fun bt719=>(spec_l20Some.j1 k x8 (bt719.1==0) x1000 bt719.2 x710000 x710001)) else (spec_l20Some.j1 k x8 false x1000 x1001 x710000 x710001))
def spec_l20Some.j1:Nat→Int→Bool→List Int→Int→List (List Int)→List Int→Option ((List (List Int)) × List Int × Int × Int)
 | 0,_,_,_,_,_,_=>none
 | k+1,x8,x40,x1000,x1001,x710000,x710001=>if x40=true then ((spec_MadeBy.f k x710000 x710001 x8).bind fun t721=>((spec_l20Rd_pick.f k x1000 x1001 40).bind fun bt722=>((spec_l20Rd_pick.f k x1000 bt722.2 50).bind fun bt724=>(some (x710000,x710001,wrap64 ((wrap64 (t721+(wrap64 ((wrap64 (Int.tdiv bt722.1 39))*4096))))-(wrap64 ((wrap64 (Int.tdiv bt724.1 49))*9000))),bt724.2))))) else ((spec_l20Rd_pick.f k x1000 x1001 40).bind fun bt726=>((spec_l20Rd_pick.f k x1000 bt726.2 50).bind fun bt728=>(some (x710000,x710001,wrap64 ((wrap64 (x8+(wrap64 ((wrap64 (Int.tdiv bt726.1 39))*4096))))-(wrap64 ((wrap64 (Int.tdiv bt728.1 49))*9000))),bt728.2))))
end
def spec_l20Some.f (k:Nat) (s0_0:List Int) (s0_1:Int) (a1:Int):Option ((List (List Int)) × List Int × Int × Int):=(spec_l20Logic.f k s0_0 s0_1 a1).bind fun bt702=>((spec_l20Rd_pick.f k s0_0 bt702.2.2 (mx (bt702.2.1.length:Int) 1)).bind fun bt710=>(if 0≤bt710.1 then ((spec_l20Rd_pick.f k s0_0 bt710.2 (mx (bt702.2.1.length:Int) 1)).bind fun bt712=>(if 0≤bt712.1 then ((spec_l20Rd_pick.f k s0_0 bt712.2 2).bind fun bt714=>(if bt714.1=0 then ((spec_l20Rd_pick.f k s0_0 bt714.2 (mx (bt702.2.1.length:Int) 1)).bind fun bt716=>(if 0≤bt716.1 then (spec_l20Some.j0 k (Go.bits .or .i64 (Go.bits .or .i64 (shl .i64 1 bt710.1) (shl .i64 1 bt712.1)) (shl .i64 1 bt716.1)) s0_0 bt716.2 bt702.1 bt702.2.1) else (none))) else (spec_l20Some.j0 k (Go.bits .or .i64 (shl .i64 1 bt710.1) (shl .i64 1 bt712.1)) s0_0 bt714.2 bt702.1 bt702.2.1))) else (none))) else (none)))
def spec_DrawMadeBy.f (k:Nat) (l0:List Int):Option ((List (List Int)) × List Int × Int):=(spec_l20Open.f l0).bind fun bt731=>((spec_l20Some.f k bt731.1 bt731.2 12).bind fun bt734=>(some (bt734.1,bt734.2.1,bt734.2.2.1)))
def impl_MadeBy.f (l0_0:List (List Int)) (l0_1:List Int) (a1:Int):Option (Int):=some (madeByF l0_0 l0_1 a1)
def impl_SubOk.f (l0_0:List (List Int)) (l0_1:List Int) (a1:Int):Option (Bool):=some (subF l0_0 l0_1 a1)
def laws_FnMadeBy.l0:Nat→Int→Int→Int→List (List Int)→List Int→Option (Bool)
 | 0,_,_,_,_,_=>none
 | k+1,x4,x5,x6,x750000,x750001=>if x6<(x750001.length:Int) then (if 0≤x6 then ((impl_MadeBy.f x750000 x750001 (shl .i64 1 x6)).bind fun t755=>(if 0≤(rd x750001 x6) then ((impl_MadeBy.f x750000 x750001 (shl .i64 1 (rd x750001 x6))).bind fun t757=>(if t755=t757 then (laws_FnMadeBy.l0 k x4 x5 (wrap64 (x6+1)) x750000 x750001) else (some false))) else (none))) else (none)) else ((impl_SubOk.f x750000 x750001 x5).bind fun t753=>(if t753=true then (if (Go.bits .and .i64 x5 x4)=x4 then ((impl_MadeBy.f x750000 x750001 x5).bind fun t754=>(some (t754==x5))) else (some false)) else (some false)))
def laws_FnMadeBy.f (k:Nat) (l0:List Int):Option (Bool):=if (l0.length:Int)>1048576 then (some true) else ((spec_DrawMadeBy.f k l0).bind fun bt742=>((impl_MadeBy.f bt742.1 bt742.2.1 bt742.2.2).bind fun t750=>((spec_MadeBy.f k bt742.1 bt742.2.1 bt742.2.2).bind fun t751=>(if t750=t751 then (if t750<0 then (if t750=(-1) then ((laws_alive.f k).bind fun t752=>(some t752)) else (some false)) else (laws_FnMadeBy.l0 k bt742.2.2 t750 0 bt742.1 bt742.2.1)) else (some false)))))
def laws_FnMadeBy.Pure:Prop:=∀ (l0:List Int),l0.length≤maxLen→l0.length*1≤140737488351232→(∀ x∈l0,(Lit.int .u8 x).wf=true)→∃ k,laws_FnMadeBy.f k l0=some true
def spec_DrawSubOk.f (k:Nat) (l0:List Int):Option ((List (List Int)) × List Int × Int):=(spec_l20Open.f l0).bind fun bt759=>((spec_l20Some.f k bt759.1 bt759.2 12).bind fun bt762=>(some (bt762.1,bt762.2.1,bt762.2.2.1)))
def spec_NoOf.f (k:Nat) (l0_0:List (List Int)) (l0_1:List Int):Option (Int):=(spec_LogicOk.f k l0_0 l0_1).bind fun t771=>(if t771=true then ((spec_LeastOf.f k l0_0).bind fun bt772=>(some bt772.1)) else (some (-1)))
def spec_l2Both.f (k:Nat) (l0_0:List (List Int)) (l0_1:List Int) (a1:Int) (a2:Int):Option (Bool):=(spec_LogicOk.f k l0_0 l0_1).bind fun t775=>(if t775=true then ((spec_l1In.f a1 0 (wrap64 ((l0_1.length:Int)-1))).bind fun t776=>(if t776=true then ((spec_l1In.f a2 0 (wrap64 ((l0_1.length:Int)-1))).bind fun t777=>(some t777)) else (some false))) else (some false))
def spec_NotOf.f (k:Nat) (l0_0:List (List Int)) (l0_1:List Int) (a1:Int):Option (Int):=(spec_l2Both.f k l0_0 l0_1 a1 a1).bind fun t779=>(if t779=true then (if 0≤a1 then (if a1<(l0_1.length:Int) then (some (rd l0_1 a1)) else (none)) else (none)) else (some (-1)))
def spec_YesOf.f (k:Nat) (l0_0:List (List Int)) (l0_1:List Int):Option (Int):=(spec_NoOf.f k l0_0 l0_1).bind fun t782=>((spec_NotOf.f k l0_0 l0_1 t782).bind fun t783=>(some t783))
def laws_FnSubOk.f (k:Nat) (l0:List Int):Option (Bool):=if (l0.length:Int)>1048576 then (some true) else ((spec_DrawSubOk.f k l0).bind fun bt784=>((impl_SubOk.f bt784.1 bt784.2.1 bt784.2.2).bind fun t792=>((spec_SubOk.f k bt784.1 bt784.2.1 bt784.2.2).bind fun t793=>(if (t792 != t793)=true then (some false) else ((spec_LogicOk.f k bt784.1 bt784.2.1).bind fun t794=>(if t794=true then ((spec_NoOf.f k bt784.1 bt784.2.1).bind fun t796=>(if 0≤t796 then ((spec_YesOf.f k bt784.1 bt784.2.1).bind fun t797=>(if 0≤t797 then (if t792=true then (if (Go.bits .and .i64 bt784.2.2 (Go.bits .or .i64 (shl .i64 1 t796) (shl .i64 1 t797)))=(Go.bits .or .i64 (shl .i64 1 t796) (shl .i64 1 t797)) then ((impl_SubOk.f bt784.1 bt784.2.1 (Go.bits .or .i64 (shl .i64 1 t796) (shl .i64 1 t797))).bind fun t798=>(if t798=true then ((impl_SubOk.f bt784.1 bt784.2.1 (wrap64 ((shl .i64 1 (bt784.2.1.length:Int))-1))).bind fun t799=>(some t799)) else (some false))) else (some false)) else ((impl_SubOk.f bt784.1 bt784.2.1 (Go.bits .or .i64 (shl .i64 1 t796) (shl .i64 1 t797))).bind fun t800=>(if t800=true then ((impl_SubOk.f bt784.1 bt784.2.1 (wrap64 ((shl .i64 1 (bt784.2.1.length:Int))-1))).bind fun t801=>(some t801)) else (some false)))) else (none))) else (none))) else (if t792=true then (some false) else ((laws_alive.f k).bind fun t795=>(some t795)))))))))
def laws_FnSubOk.Pure:Prop:=∀ (l0:List Int),l0.length≤maxLen→l0.length*1≤140737488351232→(∀ x∈l0,(Lit.int .u8 x).wf=true)→∃ k,laws_FnSubOk.f k l0=some true
mutual
def spec_BreakOf.l0:Nat→Int→List (List Int)→List Int→Option (Int × Int × Bool)
 | 0,_,_,_=>none
 | k+1,x5,x814000,x814001=>if x5<(x814001.length:Int) then ((spec_LogicOk.f k x814000 x814001).bind fun t814=>(spec_BreakOf.j1 k x5 t814 x814000 x814001)) else (spec_BreakOf.j1 k x5 false x814000 x814001)
def spec_BreakOf.j1:Nat→Int→Bool→List (List Int)→List Int→Option (Int × Int × Bool)
 | 0,_,_,_,_=>none
 | k+1,x5,x15,x814000,x814001=>if x15=true then (spec_BreakOf.l1 k x5 0 x814000 x814001) else (some ((-1),(-1),false))
def spec_BreakOf.l1:Nat→Int→Int→List (List Int)→List Int→Option (Int × Int × Bool)
 | 0,_,_,_,_=>none
 | k+1,x5,x6,x814000,x814001=>if x6<(x814001.length:Int) then (if x5=x6 then (spec_BreakOf.l1 k x5 (wrap64 (x6+1)) x814000 x814001) else (if 0≤x5 then (if x5<(x814000.length:Int) then (if 0≤x6 then (if x6<((rd_L1 x814000 x5).length:Int) then (if (rd (rd_L1 x814000 x5) x6)=1 then (if x5<(x814001.length:Int) then ((spec_l1Meet.f k x814000 x6 (rd x814001 x5)).bind fun t818=>((spec_l1Meet.f k x814000 x5 (rd x814001 x5)).bind fun t820=>(if t818=t820 then (some (x5,x6,true)) else (spec_BreakOf.l1 k x5 (wrap64 (x6+1)) x814000 x814001)))) else (none)) else (spec_BreakOf.l1 k x5 (wrap64 (x6+1)) x814000 x814001)) else (none)) else (none)) else (none)) else (none))) else (spec_BreakOf.l0 k (wrap64 (x5+1)) x814000 x814001)
end
def spec_BreakOf.f (k:Nat) (l0_0:List (List Int)) (l0_1:List Int):Option (Int × Int × Bool):=spec_BreakOf.l0 k 0 l0_0 l0_1
def impl_PartOf.f (l0_0:List (List Int)) (l0_1:List Int) (a1:Int):Option ((List (List Int)) × List Int):=some (partF l0_0 l0_1 a1)
def spec_DrawPartOf.f (k:Nat) (l0:List Int):Option ((List (List Int)) × List Int × Int):=(spec_l20Open.f l0).bind fun bt851=>((spec_l20Some.f k bt851.1 bt851.2 12).bind fun bt854=>(some (bt854.1,bt854.2.1,bt854.2.2.1)))
mutual
def spec_PartOf.l0:Nat→Int→List Int→Int→List (List Int)→List Int→Option ((List (List Int)) × List Int)
 | 0,_,_,_,_,_=>none
 | k+1,x1,x6,x7,x863000,x863001=>if x7<(x863001.length:Int) then (if 0≤x7 then (if (Int.tmod (shr .i64 x1 x7) 2)=1 then (if x6.length<17592186044416 then (spec_PartOf.l0 k x1 (x6 ++ [x7]) (wrap64 (x7+1)) x863000 x863001) else (none)) else (spec_PartOf.l0 k x1 x6 (wrap64 (x7+1)) x863000 x863001)) else (none)) else (spec_PartOf.l1 k x6 0 x863000 x863001 ([]:List (List Int)) ([]:List Int))
def spec_PartOf.l1:Nat→List Int→Int→List (List Int)→List Int→List (List Int)→List Int→Option ((List (List Int)) × List Int)
 | 0,_,_,_,_,_,_=>none
 | k+1,x6,x8,x863000,x863001,x865000,x865001=>if x8<(x6.length:Int) then (spec_PartOf.l2 k x6 x8 (([]:List Int)) 0 x863000 x863001 x865000 x865001) else (some (x865000,x865001))
def spec_PartOf.l2:Nat→List Int→Int→List Int→Int→List (List Int)→List Int→List (List Int)→List Int→Option ((List (List Int)) × List Int)
 | 0,_,_,_,_,_,_,_,_=>none
 | k+1,x6,x8,x9,x10,x863000,x863001,x865000,x865001=>if x10<(x6.length:Int) then (if 0≤x8 then (if x8<(x6.length:Int) then (if 0≤(rd x6 x8) then (if (rd x6 x8)<(x863000.length:Int) then (if 0≤x10 then (if 0≤(rd x6 x10) then (if (rd x6 x10)<((rd_L1 x863000 (rd x6 x8)).length:Int) then (if x9.length<17592186044416 then ((some (x9 ++ [rd (rd_L1 x863000 (rd x6 x8)) (rd x6 x10)]:List Int)).bind fun y879=>(if (rd x6 x8)<(x863001.length:Int) then (if (rd x863001 (rd x6 x8))=(rd x6 x10) then (if x865001.length<17592186044416 then (spec_PartOf.l2 k x6 x8 y879 (wrap64 (x10+1)) x863000 x863001 x865000 (x865001 ++ [x10])) else (none)) else (spec_PartOf.l2 k x6 x8 y879 (wrap64 (x10+1)) x863000 x863001 x865000 x865001)) else (none))) else (none)) else (none)) else (none)) else (none)) else (none)) else (none)) else (none)) else (none)) else (if x865000.length<5864062014805 then (spec_PartOf.l1 k x6 (wrap64 (x8+1)) x863000 x863001 (x865000 ++ [x9]) x865001) else (none))
end
def spec_PartOf.f (k:Nat) (l0_0:List (List Int)) (l0_1:List Int) (a1:Int):Option ((List (List Int)) × List Int):=(spec_SubOk.f k l0_0 l0_1 a1).bind fun t865=>(if t865=true then (spec_PartOf.l0 k a1 (([]:List Int)) 0 l0_0 l0_1) else (some (([]:List (List Int)),([]:List Int))))
def laws_FnPartOf.f (k:Nat) (l0:List Int):Option (Bool):=if (l0.length:Int)>1048576 then (some true) else ((spec_DrawPartOf.f k l0).bind fun bt891=>((impl_PartOf.f bt891.1 bt891.2.1 bt891.2.2).bind fun bt899=>((spec_PartOf.f k bt891.1 bt891.2.1 bt891.2.2).bind fun bt906=>((laws_sameLogic.f k bt899.1 bt899.2 bt906.1 bt906.2).bind fun t912=>(if t912=true then (if (bt899.2.length:Int)=0 then ((laws_alive.f k).bind fun t913=>(some t913)) else ((impl_LogicOk.f bt899.1 bt899.2).bind fun t914=>(if t914=true then ((impl_KeepsOk.f bt891.1 bt891.2.1).bind fun t915=>(if t915=true then ((impl_KeepsOk.f bt899.1 bt899.2).bind fun t916=>(some t916)) else (some true))) else (some false)))) else (some false))))))
def laws_FnPartOf.Pure:Prop:=∀ (l0:List Int),l0.length≤maxLen→l0.length*1≤140737488351232→(∀ x∈l0,(Lit.int .u8 x).wf=true)→∃ k,laws_FnPartOf.f k l0=some true
def spec_AndOf.f (k:Nat) (l0_0:List (List Int)) (l0_1:List Int) (a1:Int) (a2:Int):Option (Int):=(spec_l2Both.f k l0_0 l0_1 a1 a2).bind fun t1092=>(if t1092=true then ((spec_l1Meet.f k l0_0 a1 a2).bind fun t1093=>(some t1093)) else (some (-1)))
def spec_DrawGluedOf.f (k:Nat) (l0:List Int):Option ((List (List Int)) × List Int × (List (List Int)) × List Int):=(spec_l20Open.f l0).bind fun bt1133=>((spec_l20Logic.f k bt1133.1 bt1133.2 14).bind fun bt1136=>((spec_l20Logic.f k bt1133.1 bt1136.2.2 14).bind fun bt1143=>(some (bt1136.1,bt1136.2.1,bt1143.1,bt1143.2.1))))
def spec_l3Inner.l0:Nat→List Int→Int→List (List Int)→List Int→Option (List Int)
 | 0,_,_,_,_=>none
 | k+1,x3,x4,x1151000,x1151001=>if x4<(x1151001.length:Int) then ((spec_NoOf.f k x1151000 x1151001).bind fun t1154=>(if x4=t1154 then (spec_l3Inner.l0 k x3 (wrap64 (x4+1)) x1151000 x1151001) else ((spec_YesOf.f k x1151000 x1151001).bind fun t1155=>(if x4=t1155 then (spec_l3Inner.l0 k x3 (wrap64 (x4+1)) x1151000 x1151001) else (if x3.length<17592186044416 then (spec_l3Inner.l0 k (x3 ++ [x4]) (wrap64 (x4+1)) x1151000 x1151001) else (none)))))) else (some x3)
def spec_l3Inner.f (k:Nat) (l0_0:List (List Int)) (l0_1:List Int):Option (List Int):=spec_l3Inner.l0 k (([]:List Int)) 0 l0_0 l0_1
def spec_GluedOf.f (l0_0:List (List Int)) (l0_1:List Int) (l1_0:List (List Int)) (l1_1:List Int):Option ((List (List Int)) × List Int × Bool):=if l0_1.length≤1048576∧l1_1.length≤1048576 then some (gluedF l0_0 l0_1 l1_0 l1_1) else none
def impl_NoOf.f (l0_0:List (List Int)) (l0_1:List Int):Option (Int):=some (noF l0_0 l0_1)
def impl_YesOf.f (l0_0:List (List Int)) (l0_1:List Int):Option (Int):=some (yesF l0_0 l0_1)
mutual
def laws_FnGluedOf.j0:Nat→Bool→Bool→List (List Int)→List Int→List (List Int)→List Int→List (List Int)→List Int→Option (Bool)
 | 0,_,_,_,_,_,_,_,_=>none
 | k+1,x6,x41,x1172000,x1172001,x1173000,x1173001,x1181000,x1181001=>if x41=true then (some false) else ((impl_SetsOf.f 1).bind fun bt1190=>((impl_GluedOf.f x1172000 x1172001 bt1190.1 bt1190.2.1).bind fun bt1198=>((spec_LogicOk.f k x1172000 x1172001).bind fun t1206=>(if t1206=true then (laws_FnGluedOf.j1 k x6 bt1190.2.2 bt1198.2.2 (decide ((x1172001.length:Int)≥2)) x1172000 x1172001 x1173000 x1173001 x1181000 x1181001 bt1198.1 bt1198.2.1) else (laws_FnGluedOf.j1 k x6 bt1190.2.2 bt1198.2.2 false x1172000 x1172001 x1173000 x1173001 x1181000 x1181001 bt1198.1 bt1198.2.1)))))
def laws_FnGluedOf.j1:Nat→Bool→Bool→Bool→Bool→List (List Int)→List Int→List (List Int)→List Int→List (List Int)→List Int→List (List Int)→List Int→Option (Bool)
 | 0,_,_,_,_,_,_,_,_,_,_,_,_=>none
 | k+1,x6,x10,x12,x59,x1172000,x1172001,x1173000,x1173001,x1181000,x1181001,x1206000,x1206001=>if x59=true then (if x10=true then (if x12=true then (if (x1206001.length:Int)=(x1172001.length:Int) then ((impl_NoOf.f x1206000 x1206001).bind fun t1207=>(if t1207=0 then ((impl_YesOf.f x1206000 x1206001).bind fun t1208=>(if t1208=(wrap64 ((x1172001.length:Int)-1)) then (laws_FnGluedOf.j2 k x6 x1172000 x1172001 x1173000 x1173001 x1181000 x1181001) else (some false))) else (some false))) else (some false)) else (some false)) else (some false)) else (laws_FnGluedOf.j2 k x6 x1172000 x1172001 x1173000 x1173001 x1181000 x1181001)
def laws_FnGluedOf.j2:Nat→Bool→List (List Int)→List Int→List (List Int)→List Int→List (List Int)→List Int→Option (Bool)
 | 0,_,_,_,_,_,_,_=>none
 | k+1,x6,x1172000,x1172001,x1173000,x1173001,x1181000,x1181001=>if x6=true then ((impl_LogicOk.f x1181000 x1181001).bind fun t1209=>(if t1209=true then (some ((x1181001.length:Int)==(wrap64 ((wrap64 ((x1172001.length:Int)+(x1173001.length:Int)))-2)))) else (some false))) else ((laws_noLogic.f k x1181000 x1181001).bind fun t1210=>(if t1210=true then ((laws_alive.f k).bind fun t1211=>(some t1211)) else (some false)))
end
def laws_FnGluedOf.f (k:Nat) (l0:List Int):Option (Bool):=if (l0.length:Int)>1048576 then (some true) else ((spec_DrawGluedOf.f k l0).bind fun bt1159=>((impl_GluedOf.f bt1159.1 bt1159.2.1 bt1159.2.2.1 bt1159.2.2.2).bind fun bt1173=>((spec_GluedOf.f bt1159.1 bt1159.2.1 bt1159.2.2.1 bt1159.2.2.2).bind fun bt1181=>((laws_sameLogic.f k bt1173.1 bt1173.2.1 bt1181.1 bt1181.2.1).bind fun t1189=>(if t1189=true then (laws_FnGluedOf.j0 k bt1173.2.2 (bt1173.2.2 != bt1181.2.2) bt1159.1 bt1159.2.1 bt1159.2.2.1 bt1159.2.2.2 bt1173.1 bt1173.2.1) else (laws_FnGluedOf.j0 k bt1173.2.2 true bt1159.1 bt1159.2.1 bt1159.2.2.1 bt1159.2.2.2 bt1173.1 bt1173.2.1))))))
def laws_FnGluedOf.Pure:Prop:=∀ (l0:List Int),l0.length≤maxLen→l0.length*1≤140737488351232→(∀ x∈l0,(Lit.int .u8 x).wf=true)→∃ k,laws_FnGluedOf.f k l0=some true
def spec_l5With.f (k:Nat) (l0_0:List (List Int)) (l0_1:List Int) (a1:Int) (a2:Int):Option (Bool):=(spec_l1Meet.f k l0_0 a1 a2).bind fun t1224=>(if 0≤a2 then (if a2<(l0_1.length:Int) then ((spec_l1Meet.f k l0_0 a1 (rd l0_1 a2)).bind fun t1226=>((spec_l1Join.f k l0_0 t1224 t1226).bind fun t1227=>(some (t1227==a1)))) else (none)) else (none))
mutual
def spec_CentreOf.l0:Nat→List Int→Int→List (List Int)→List Int→Option (List Int)
 | 0,_,_,_,_=>none
 | k+1,x3,x4,x1229000,x1229001=>if x4<(x1229001.length:Int) then ((spec_LogicOk.f k x1229000 x1229001).bind fun t1232=>(spec_CentreOf.j1 k x3 x4 t1232 x1229000 x1229001)) else (spec_CentreOf.j1 k x3 x4 false x1229000 x1229001)
def spec_CentreOf.j1:Nat→List Int→Int→Bool→List (List Int)→List Int→Option (List Int)
 | 0,_,_,_,_,_=>none
 | k+1,x3,x4,x16,x1229000,x1229001=>if x16=true then (spec_CentreOf.l1 k x3 x4 true 0 x1229000 x1229001) else (some x3)
def spec_CentreOf.l1:Nat→List Int→Int→Bool→Int→List (List Int)→List Int→Option (List Int)
 | 0,_,_,_,_,_,_=>none
 | k+1,x3,x4,x5,x6,x1229000,x1229001=>if x6<(x1229001.length:Int) then (if x5=true then ((spec_l5With.f k x1229000 x1229001 x4 x6).bind fun t1233=>(if t1233=true then ((spec_l5With.f k x1229000 x1229001 x6 x4).bind fun t1234=>(spec_CentreOf.l1 k x3 x4 t1234 (wrap64 (x6+1)) x1229000 x1229001)) else (spec_CentreOf.l1 k x3 x4 false (wrap64 (x6+1)) x1229000 x1229001))) else (spec_CentreOf.l1 k x3 x4 false (wrap64 (x6+1)) x1229000 x1229001)) else (if x5=true then (if x3.length<17592186044416 then (spec_CentreOf.l0 k (x3 ++ [x4]) (wrap64 (x4+1)) x1229000 x1229001) else (none)) else (spec_CentreOf.l0 k x3 (wrap64 (x4+1)) x1229000 x1229001))
end
def spec_CentreOf.f (k:Nat) (l0_0:List (List Int)) (l0_1:List Int):Option (List Int):=spec_CentreOf.l0 k (([]:List Int)) 0 l0_0 l0_1
end Go.Proofs.Ytacifhahfamipaa.P

namespace Go.Proofs.Ytacifhahfamipaa.P
open Go.RowKit Go.Proofs.YtacifhahfamipaaW.PrintWords Go.Proofs.YtacifhahfamipaaW.PrintLast Go.Proofs.YtacifhahfamipaaW.PrintMore
attribute [local go_sem] max2_int min2_int max_two min_two max_three min_three max_four min_four
set_option linter.unusedVariables false
set_option linter.unusedSimpArgs false
theorem info3:(Try.prog.info? 3).map (fun i=>(i.zero,i.size,i.bytes))=some (some (.int .i64 0),1,8):=by kernel_rfl
theorem info5:(Try.prog.info? 5).map (fun i=>(i.zero,i.size,i.bytes))=some (some (.int .u8 0),1,1):=by kernel_rfl
theorem info25:(Try.prog.info? 25).map (fun i=>(i.zero,i.size,i.bytes))=some (some (.slice none 0 0),1,24):=by kernel_rfl
end Go.Proofs.Ytacifhahfamipaa.P

namespace Go.Proofs.Ytacifhahfamipaa.P
open Go.RowKit Go.Proofs.YtacifhahfamipaaW.PrintWords Go.Proofs.YtacifhahfamipaaW.PrintLast Go.Proofs.YtacifhahfamipaaW.PrintMore
set_option linter.unusedVariables false
def bA (n m:Nat):Array Bool:=((List.range n).map fun i=>m.testBit i).toArray
section
variable {P:Program} {md:Region.Mode} {ops:Array Oper} {Q:Exit→Act→World→Prop} {S:World→Prop} {ds:List Nat} {i:Nat} {N:Option Tmp} {oi:Oper} {v:Value} {fuel:Nat} {l:Array Bool} {a a':Act} {w:World}
theorem pu_ (l':Array Bool) (h:wpAnyLast P md ops Q S ds fuel l' a' w) (hi:ops[i]?=some oi:=by rfl) (hN:oi.dst=N:=by rfl) (hc:anyB md ops l l' i=true:=by first|exact any_of HT_.out (by kernel_rfl)|kernel_rfl)
    (hQ : ∀ c a w,Q (.panic c) (a.put oi.dst v) w→Q (.panic c) a w:=by exact fun _ _ _ h=>h)
    (hy:Yields P ops oi v a:=by (refine Or.inl ⟨by rfl,?_⟩;intro w';go_simp;with_reducible rfl))
    (ha:a.put N v=a':=by (simp only [Act.put,List.setIfInBounds_toArray,List.set_cons_zero,List.set_cons_succ,i64_w,i32_w];rfl))
     : wpAnyLast P md ops Q S ds (fuel+1) l a w:=pure_ l' hi hN hc hQ hy ha h
theorem of_ (l':Array Bool) (h:wpAnyLast P md ops Q S ds fuel l' a' w) (hi:ops[i]?=some oi:=by rfl) (hN:oi.dst=N:=by rfl) (hc:anyB md ops l l' i=true:=by first|exact any_of HT_.out (by kernel_rfl)|kernel_rfl)
    (hQ : ∀ c a w,Q (.panic c) (a.put oi.dst undef) w→Q (.panic c) a w:=by exact fun _ _ _ h=>h)
    (hy:Yields P ops oi undef a:=by exact Or.inr ⟨by rfl,rfl⟩)
    (ha:a.put N undef=a':=by (simp only [Act.put,List.setIfInBounds_toArray,List.set_cons_zero,List.set_cons_succ,i64_w,i32_w];rfl))
     : wpAnyLast P md ops Q S ds (fuel+1) l a w:=pure_ l' hi hN hc hQ hy ha h
theorem tk_ (l':Array Bool) (h:wpAnyLast P md ops Q S ds fuel l' a' w) (hi:ops[i]?=some oi:=by rfl) (hN:oi.dst=N:=by rfl) (hc:takeB md ops ds l l' i=true:=by first|exact take_ofW HT_.out HW_.out (by kernel_rfl)|kernel_rfl)
    (hQ : ∀ c a w,Q (.panic c) (a.put oi.dst v) w→Q (.panic c) a w:=by exact fun _ _ _ h=>h)
    (hy:YieldsIf P ops S oi v a:=by (refine Or.inl ⟨by rfl,?_⟩;intro w' hs_;(repeat (obtain ⟨_,hs_⟩:=hs_));go_simp;with_reducible rfl)) (hS:S w:=by exact hHeld)
    (ha:a.put N v=a':=by (simp only [Act.put,List.setIfInBounds_toArray,List.set_cons_zero,List.set_cons_succ,i64_w,i32_w];rfl))
     : wpAnyLast P md ops Q S ds (fuel+1) l a w:=take_ l' hi hN hc hQ hy hS ha h
theorem no_ (h:wpAnyLast P md ops Q S ds fuel l a' w) (h0:a.put N v=a':=by (simp only [Act.put,List.setIfInBounds_toArray,List.set_cons_zero,List.set_cons_succ,i64_w,i32_w];rfl))  : wpAnyLast P md ops Q S ds fuel l (a.put N v) w:=norm_ h0 h
end
section
variable {P:Program} {ops:Array Oper} {rest:List Oper} {o:Oper} {a:Act} {Q:Exit→Act→World→Prop}
theorem bx_ {W:World} {N:Tmp} {cs:Array Value} {t:TypeId} (h : ∀ g,g=W.heap.size→∀ w1,w1.heap[g]?=some (.cells cs t (0,0))→Below W.heap.size W w1→wpList P ops Q rest (a.put o.dst (.pointer (some ⟨g,0,none⟩))) w1) (hd:o.dst=some N:=by rfl) (hgd:o.guard=none:=by rfl)
    (hrun:(execOp a.eval o).run P W = .ok (.value (.pointer (some ⟨W.heap.size,0,none⟩))) (W.alloc (.cells cs t (0,0))):=by first|(go_simp;done)|(go_simp;rfl))
     : wpList P ops Q (o::rest) a W:=box_event hgd hd hrun h
theorem gl_ {w:World} (N:Option Tmp) {f:FuncId} {fn:Func} (hf:P.funcs[f]?=some fn) {as_:Array Operand} {ts:Array TypeId} (args:Array Value) (h:Calls P f args w fun e w'=>∃ v,e = .returned v∧wpList P ops Q rest (a.put N v) w') (hd:o.dst=N:=by rfl) (hg:o.guard=none:=by rfl) (hname:(fn.name == "runtime.NumGoroutine")=false:=by kernel_rfl) (hb:fn.body.isSome=true:=by rfl)
    (hop:o.op = .call { callee:=.value (.func f),args:=as_,argTypes:=ts }:=by rfl) (hargs:as_.map a.eval=args:=by (try simp only [List.map_toArray,List.map_cons,List.map_nil]);first|done|rfl|(simp only [List.length_drop,List.length_take];rfl))
     : wpList P ops Q (o::rest) a w:=goesL_ N hd hg hf hname hb args hop hargs h
theorem ge_ {w:World} {N:Option Tmp} {K:Act→World→Prop} {f:FuncId} {fn:Func} {as_:Array Operand} {ts:Array TypeId} (hf:P.funcs[f]?=some fn) (args:Array Value) (h:Calls P f args w fun e w'=>∃ v,e = .returned v∧K (a.put N v) w') (hname:(fn.name == "runtime.NumGoroutine")=false:=by kernel_rfl) (hb:fn.body.isSome=true:=by rfl)
    (hw:Region.wanted o (yielded ops a.tmps)=true:=by rfl) (hN:o.dst=N:=by rfl) (hop:o.op = .call { callee:=.value (.func f),args:=as_,argTypes:=ts }:=by rfl) (hargs:as_.map a.eval=args:=by (try simp only [List.map_toArray,List.map_cons,List.map_nil]);first|done|rfl|(simp only [List.length_drop,List.length_take];rfl))
     : if Region.wanted o (yielded ops a.tmps)=true then Oper.wp P o a w K Q else K (a.put N undef) w:=goes_ hf hname hb args hw hN hop hargs h
end
theorem cz20 {w:World} {g:Nat} {t:TypeId} {x y:Value} (h:w.heap[g]?=some (.cells #[x,y] t (0,0))):w.cell? ⟨g,0,none⟩=some x:=(blk_cell h 0).trans rfl
theorem cz21 {w:World} {g:Nat} {t:TypeId} {x y:Value} (h:w.heap[g]?=some (.cells #[x,y] t (0,0))):w.cell? ⟨g,1,none⟩=some y:=(blk_cell h 1).trans rfl
theorem y1 {p q:Prop} (h0:p) (h:p→q:=by intro y0_;(repeat (first|exact (Kd.S_reads' y0_).2.2|exact (Kd.Q_reads' y0_).2.2|exact (Kd.R_reads' y0_).2.2|exact (Kd.N_reads' y0_).2.2|(with_reducible refine Kd.C_alloc ?_ _)|(with_reducible refine Kd.C_drewN ?_ _)|(with_reducible refine Kd.C_drew ?_)))):q:=h h0
theorem y2 {p q:Prop} (h0:p) (h:p→q:=by intro y0_;first|exact (Kd.S_reads' y0_).2.1|exact (Kd.Q_reads' y0_).2.1|exact (Kd.R_reads' y0_).2.1|exact (Kd.N_reads' y0_).2.1):q:=h h0
theorem y3 {p r q:Prop} (h0:p) (h1:r) (h:p→r→q:=by intro y0_ y1_;(repeat (first|exact (Kd.C_below y0_ y1_)|(with_reducible refine Kd.C_alloc ?_ _)|(with_reducible refine Kd.C_drewN ?_ _)|(with_reducible refine Kd.C_drew ?_)))):q:=h h0 h1
theorem y4 {p q:Prop} (h0:p) (h:p→q:=by intro y0_;(repeat (first|exact y0_|(with_reducible refine Kd.C_alloc ?_ _)|(with_reducible refine Kd.C_drewN ?_ _)|(with_reducible refine Kd.C_drew ?_)))):q:=h h0
theorem bd_ {α β:Type} {o:Option α} {f:α→Option β} {r:β} (h:o.bind f=some r) : ∃ a,Aside0 (o=some a)∧f a=some r :=
 match Option.bind_eq_some_iff.mp h with|⟨a,h1,h2⟩=>⟨a,⟨h1⟩,h2⟩
theorem nf_ : ¬(false=true):=by decide
section
variable {α:Type} [BEq α] [LawfulBEq α] {a b:α}
theorem bt_ (h:a=b):(a==b)=true:=beq_iff_eq.mpr h
theorem bu_ (h:a=b):(a != b)=false:=bne_eq_false_iff_eq.mpr h
theorem bv_ (h : ¬a=b):(a==b)=false:=beq_eq_false_iff_ne.mpr h
theorem bw_ (h : ¬a=b):(a != b)=true:=bne_iff_ne.mpr h
end
theorem dT_ {p:Prop} [Decidable p] (h:p):decide p=true:=decide_eq_true h
theorem dF_ {p:Prop} [Decidable p] (h : ¬p):decide p=false:=decide_eq_false h
section
variable {α:Type} {p q:Prop}
theorem ok_ [Decidable p] {x:Option α} {r:α} (h:(if p then x else none)=some r):p∧x=some r:=by
 by_cases k:p
 ·rw [if_pos k] at h
  exact ⟨k,h⟩
 ·rw [if_neg k] at h
  exact absurd h (by simp)
theorem od_ [Decidable p] {x:Option α} {r:α} (h:(if p then x else none)=some r):decide p=true∧x=some r:=⟨decide_eq_true (ok_ h).1,(ok_ h).2⟩
theorem oe_ [Decidable p] (h:decide p=true):p:=of_decide_eq_true h
theorem oa_ [Decidable p] (h:decide p=true:=by first|(with_reducible assumption)|assumption):p:=of_decide_eq_true h
theorem xS (h0:p) (h:p→q:=by intro y0_;(with_reducible repeat (first|apply Kd.S_alloc|apply Kd.S_drewN|apply Kd.S_drew));exact y0_):q:=h h0
theorem xR (h0:p) (h:p→q:=by intro y0_;(with_reducible repeat (first|apply Kd.R_alloc|apply Kd.R_drewN|apply Kd.R_drew));exact y0_):q:=h h0
theorem xQ (h0:p) (h:p→q:=by intro y0_;(with_reducible repeat (first|apply Kd.Q_alloc|apply Kd.Q_drewN|apply Kd.Q_drew));exact y0_):q:=h h0
theorem xN (h0:p) (h:p→q:=by intro y0_;(with_reducible repeat (first|apply Kd.N_alloc|apply Kd.N_drewN|apply Kd.N_drew));exact y0_):q:=h h0
theorem xb (h0:p) (h:p→q:=by intro y0_;(with_reducible repeat (first|refine blk_drewN ?_ _|refine blk_drew ?_|refine blk_alloc ?_ _));exact y0_):q:=h h0
end
theorem al_ {w:World} {A:Option Addr} {n:Nat} {xs:List (List Int)} (h:Kd.C (Kd.slice 3 (Kd.int .i64)) w A n xs) (i:Int) (h0:decide (0≤i)=true:=by first|(with_reducible assumption)|assumption) (h1:decide (i<(n:Int))=true:=by first|(with_reducible assumption)|assumption) :
    ∃ ad A0 c0,A=some ad∧w.cell? (ad.add i.toNat)=some (.slice A0 (rd_L1 xs i).length c0)∧Aside0 ((rd_L1 xs i).length≤c0)∧Aside0 ((Kd.int .i64).C w A0 (rd_L1 xs i).length (rd_L1 xs i))∧((0≤i)=True)∧((i<(n:Int))=True):=by
  obtain ⟨ad,A0,c0,h2,h3,h4,h5⟩:=at_L1 h i (of_decide_eq_true h0) (of_decide_eq_true h1)
  exact ⟨ad,A0,c0,h2,h3,⟨h4⟩,⟨h5⟩,eq_true (of_decide_eq_true h0),eq_true (of_decide_eq_true h1)⟩
theorem ai_ {w:World} {A:Option Addr} {n:Nat} {k:IntKind} {xs:List Int} (h:(Kd.int k).C w A n xs) (i:Int) (h0:decide (0≤i)=true:=by first|(with_reducible assumption)|assumption) (h1:decide (i<(n:Int))=true:=by first|(with_reducible assumption)|assumption) :
    ∃ ad,A=some ad∧w.cell? (ad.add i.toNat)=some (.int k (rd xs i))∧((0≤i)=True)∧((i<(n:Int))=True):=by
  obtain ⟨ad,h2,h3⟩:=Kd.at_int h i (of_decide_eq_true h0) (of_decide_eq_true h1)
  exact ⟨ad,h2,h3,eq_true (of_decide_eq_true h0),eq_true (of_decide_eq_true h1)⟩
theorem ak {p:Prop} (h:p):Aside0 p:=⟨h⟩
theorem ij_ {α:Type} {a b:α} (h:some a=some b):a=b:=Option.some.inj h
theorem is_ {o:Option Value} {A B:Option Addr} {n m c d:Nat} (h:o=some (.slice A n c)) (k:o=some (.slice B m d)):A=B∧c=d:=by
 have e:=Option.some.inj (h.symm.trans k)
 injection e with e1 e2 e3
 exact ⟨e1,e3⟩
section
variable {α:Type} {p p2 p3 p4 p5 p6:Prop} [Decidable p] [Decidable p2] [Decidable p3] [Decidable p4] [Decidable p5] [Decidable p6] {x y:Option α} {r:α}
theorem od2 (h:(if p then if p2 then x else none else none)=some r):decide p=true∧decide p2=true∧x=some r:=⟨(od_ h).1,od_ (od_ h).2⟩
theorem od3 (h:(if p then if p2 then if p3 then x else none else none else none)=some r):decide p=true∧decide p2=true∧decide p3=true∧x=some r:=⟨(od_ h).1,od2 (od_ h).2⟩
theorem od4 (h:(if p then if p2 then if p3 then if p4 then x else none else none else none else none)=some r):decide p=true∧decide p2=true∧decide p3=true∧decide p4=true∧x=some r:=⟨(od_ h).1,od3 (od_ h).2⟩
theorem od5 (h:(if p then if p2 then if p3 then if p4 then if p5 then x else none else none else none else none else none)=some r):decide p=true∧decide p2=true∧decide p3=true∧decide p4=true∧decide p5=true∧x=some r:=⟨(od_ h).1,od4 (od_ h).2⟩
theorem od6 (h:(if p then if p2 then if p3 then if p4 then if p5 then if p6 then x else none else none else none else none else none else none)=some r):decide p=true∧decide p2=true∧decide p3=true∧decide p4=true∧decide p5=true∧decide p6=true∧x=some r:=⟨(od_ h).1,od5 (od_ h).2⟩
theorem os_ (h:(if p then x else y)=some r):decide p=true∧x=some r∨decide p=false∧y=some r:=by
 by_cases k:p
 ·rw [if_pos k] at h
  exact .inl ⟨decide_eq_true k,h⟩
 ·rw [if_neg k] at h
  exact .inr ⟨decide_eq_false k,h⟩
theorem oe2 {β:Type} [BEq β] [LawfulBEq β] {a b:β} [Decidable (a=b)] (h:(if a=b then x else y)=some r):(a=b∧(a==b)=true∧(a != b)=false)∧x=some r∨((¬a=b)∧(a==b)=false∧(a != b)=true)∧y=some r:=by
 by_cases k:a=b
 ·rw [if_pos k] at h
  exact .inl ⟨⟨k,bt_ k,bu_ k⟩,h⟩
 ·rw [if_neg k] at h
  exact .inr ⟨⟨k,bv_ k,bw_ k⟩,h⟩
end
section
variable {α:Type} {p:Prop} {x y:Option α} {r:α}
theorem op_ [Decidable p] (h:(if p then x else y)=some r):p∧x=some r∨¬p∧y=some r:=by
 by_cases k:p
 ·rw [if_pos k] at h
  exact .inl ⟨k,h⟩
 ·rw [if_neg k] at h
  exact .inr ⟨k,h⟩
theorem ox_ {b:Bool} (h:(if b=true then x else y)=some r):b=true∧x=some r∨b=false∧y=some r:=by
 cases b with
 | true=>exact .inl ⟨rfl,by rw [if_pos rfl] at h;exact h⟩
 | false=>exact .inr ⟨rfl,by rw [if_neg nf_] at h;exact h⟩
end
end Go.Proofs.Ytacifhahfamipaa.P

namespace Go.Proofs.Ytacifhahfamipaa.P
open Go.RowKit Go.Proofs.YtacifhahfamipaaW.PrintWords Go.Proofs.YtacifhahfamipaaW.PrintLast Go.Proofs.YtacifhahfamipaaW.PrintMore
attribute [local go_sem] max2_int min2_int max_two min_two max_three min_three max_four min_four
set_option linter.unusedVariables false
set_option linter.unusedSimpArgs false
theorem z6_3 {p:Prop} (h:p:=by have:=a9.out;have:=HK2.out;have:=d7.out;have:=HK4.out;have:=d3.out;omega):p:=h
theorem z6_2 {p:Prop} (h:p:=by have:=a9.out;have:=HK2.out;have:=HK3.out;have:=HK4.out;have:=HK5.out;omega):p:=h
theorem z6_1 {p:Prop} (h:p:=by first|rfl|(simp;done)|(simp [*];done)):p:=h
theorem z6_0 {p:Prop} (h:p:=by repeat (first|exact Drawn0.refl _|apply Drawn0.step)):p:=h
set_option maxHeartbeats 8000000 in
set_option maxRecDepth 100000 in
theorem impl_OrderOk.calls (k:Nat) (A0:Option Addr) (c0:Nat) (l0:List (List Int)) (r:Bool) (w:World) (hr0:Kd.C (Kd.slice 3 (Kd.int .i64)) w A0 l0.length l0) (hc0:l0.length≤c0) (h:impl_OrderOk.f k l0=some r) :
 Calls Try.prog 67 #[.slice A0 l0.length c0] w fun e w'=>e = .returned (.bool r)∧Drawn0 w w':=by
 have HR0:=ak hr0
 have m8:=ak hc0
 clear hr0 hc0
 have H:(if (l0.length:Int)<1 then (impl_OrderOk.j0 k l0 (l0.length:Int) true) else (impl_OrderOk.j0 k l0 (l0.length:Int) (decide ((l0.length:Int)>12))))=some r:=h
 clear h
 have h4:=ak H
 clear H
 go_enter Try.func67,Try.ntmps67
 go_upto_region 2 with (fail)
 go_cut [18] (fun k8 wc=>∃ (kq:Nat) (b6:Bool),k8 = .bool b6∧Aside0 (impl_OrderOk.j0 kq l0 (l0.length:Int) b6=some r)∧Aside0 (kq≤k)∧Drawn0 w wc)
 case first =>
  have H:=h4.out
  clear h4
  replace H:=op_ H
  rcases H with ⟨c3,H⟩|⟨c3,H⟩
  ·
   have b7:decide ((l0.length:Int)<1)=true:=dT_ c3
   have h5:decide (l0.length<1)=true:=dT_ (by omega)
   clear c3
   (first|rw [b7]|(simp only [i64_w,i32_w];rw [b7])|skip)
   have H':=ak H
   clear H
   go_wp2
   go_meet
   case rel=>exact ⟨_,(true),z6_1,H',⟨(by first|omega|exact Nat.le_refl _)⟩,z6_0⟩
  have b7:decide ((l0.length:Int)<1)=false:=dF_ c3
  have h5:decide (l0.length<1)=false:=dF_ (by omega)
  clear c3
  (first|rw [b7]|(simp only [i64_w,i32_w];rw [b7])|skip)
  have H':=ak H
  clear H
  go_wp2
  go_meet
  case rel=>exact ⟨_,(decide ((l0.length:Int)>12)),z6_1,H',⟨(by first|omega|exact Nat.le_refl _)⟩,z6_0⟩
 case rest =>
  clear h4
  obtain ⟨kq,b6,rfl,HA,a9,⟨mc1,rfl⟩⟩:=hcut
  cases kq with
  | zero=>exact absurd HA.out (by simp [impl_OrderOk.j0])
  | succ i6 =>
   have H:=HA.out
   clear HA
   simp only [impl_OrderOk.j0] at H
   replace H:=ox_ H
   rcases H with ⟨rfl,H⟩|⟨rfl,H⟩
   ·
    obtain rfl:=Option.some.inj H
    go_wp2
    go_ret
    exact ⟨z6_1,z6_0⟩
   have H':=ak H
   clear H
   go_wp2
   go_loopg [21] i6 (fun kq k9 w'=>∃ (a0:Int),k9 = .int .i64 a0∧Aside0 (impl_OrderOk.l0 kq l0 (l0.length:Int) l0 (l0.length:Int) a0=some r)∧Aside0 (kq≤i6)∧Drawn0 w w')
   case atStart=>exact ⟨(0),z6_1,H',⟨Nat.le_refl _⟩,z6_0⟩
   case round =>
    clear H'
    try clear c4
    obtain ⟨a0,rfl,HA,HK2,⟨m2,rfl⟩⟩:=hrel
    cases gk with
    | zero=>exact absurd HA.out (by simp [impl_OrderOk.l0])
    | succ k2 =>
     have H:=HA.out
     clear HA
     simp only [impl_OrderOk.l0] at H
     replace H:=os_ H
     rcases H with ⟨b1,H⟩|⟨b1,H⟩
     ·
      replace H:=od2 H
      obtain ⟨e0,e1,H⟩:=H
      have h6:=ak H
      clear H
      obtain ⟨ad148,h7,h8,e148,hx148_0,h3,HR148_0,e2,q148⟩:=al_ HR0.out a0
      cases e148
      go_upto_region 7 with (fail)
      go_cut [36] (fun l5 wc=>∃ (kq:Nat) (b8:Bool),l5 = .bool b8∧Aside0 (impl_OrderOk.j2 kq l0 (l0.length:Int) a0 (rd_L1 l0 a0) l0 (l0.length:Int) a0 b8=some r)∧Aside0 (kq≤k2)∧Drawn0 w wc)
      case first =>
       have H:=h6.out
       clear h6
       replace H:=oe2 H
       rcases H with ⟨⟨c9,b9,h9⟩,H⟩|⟨⟨c9,b9,h9⟩,H⟩
       ·
        have i0:((rd_L1 l0 a0).length==l0.length)=true:=by first|simpa using c9|(simp at c9 ⊢;omega)
        clear c9
        (first|rw [b9]|(simp only [i64_w,i32_w];rw [b9])|skip)
        replace H:=od_ H
        obtain ⟨i7,H⟩:=H
        have H':=ak H
        clear H
        obtain ⟨ad149,e149,hx149_0,l6,q149⟩:=ai_ HR148_0.out a0
        cases e149
        go_wp2
        go_meet
        case rel=>exact ⟨_,(((rd (rd_L1 l0 a0) a0) != 1)),z6_1,H',⟨(by have:=a9.out;have:=HK2.out;first|omega|exact Nat.le_refl _)⟩,z6_0⟩
       have i0:((rd_L1 l0 a0).length==l0.length)=false:=by first|simpa using c9|(simp at c9 ⊢;omega)
       (first|rw [b9]|(simp only [i64_w,i32_w];rw [b9])|skip)
       have H':=ak H
       clear H
       go_wp2
       go_meet
       case rel=>exact ⟨_,(true),z6_1,H',⟨(by have:=a9.out;have:=HK2.out;first|omega|exact Nat.le_refl _)⟩,z6_0⟩
      case rest =>
       clear h6
       try clear c4
       try clear c5
       try clear b1
       try clear c6
       try clear e0
       try clear c7
       try clear e1
       try clear hx148_0
       try clear e2
       try clear q148
       obtain ⟨kq,b8,rfl,HA,d7,⟨mc7,rfl⟩⟩:=hcut
       cases kq with
       | zero=>exact absurd HA.out (by simp [impl_OrderOk.j2])
       | succ i8 =>
        have H:=HA.out
        clear HA
        simp only [impl_OrderOk.j2] at H
        replace H:=ox_ H
        rcases H with ⟨rfl,H⟩|⟨rfl,H⟩
        ·
         obtain rfl:=Option.some.inj H
         go_wp2
         go_ret
         exact ⟨z6_1,z6_0⟩
        have H':=ak H
        clear H
        go_wp2
        go_loopg [39] i8 (fun kq l7 w'=>∃ (a1:Int),l7 = .int .i64 a1∧Aside0 (impl_OrderOk.l1 kq l0 (l0.length:Int) a0 l0 (l0.length:Int) a0 (rd_L1 l0 a0) ((rd_L1 l0 a0).length:Int) a1=some r)∧Aside0 (kq≤i8)∧Drawn0 w w')
        case atStart=>exact ⟨(0),z6_1,H',⟨Nat.le_refl _⟩,z6_0⟩
        case round =>
         clear H'
         try clear c4
         try clear c5
         try clear b1
         try clear c6
         try clear e0
         try clear c7
         try clear e1
         try clear l8
         try clear hx148_0
         try clear e2
         try clear q148
         obtain ⟨a1,rfl,HA,HK4,⟨m4,rfl⟩⟩:=hrel
         cases gk with
         | zero=>exact absurd HA.out (by simp [impl_OrderOk.l1])
         | succ k4 =>
          have H:=HA.out
          clear HA
          simp only [impl_OrderOk.l1] at H
          replace H:=os_ H
          rcases H with ⟨d8,H⟩|⟨d8,H⟩
          ·
           replace H:=od2 H
           obtain ⟨f2,f3,H⟩:=H
           have e3:=ak H
           clear H
           obtain ⟨ad150,e150,hx150_0,i1,q150⟩:=ai_ HR148_0.out a1
           cases e150
           go_upto_region 12 with (fail)
           go_cut [49] (fun l9 wc=>∃ (kq:Nat) (b2:Bool),l9 = .bool b2∧Aside0 (impl_OrderOk.j4 kq l0 (l0.length:Int) a0 a1 (rd (rd_L1 l0 a0) a1) l0 (l0.length:Int) a0 (rd_L1 l0 a0) ((rd_L1 l0 a0).length:Int) a1 b2=some r)∧Aside0 (kq≤k4)∧Drawn0 w wc)
           case first =>
            have H:=e3.out
            clear e3
            replace H:=oe2 H
            rcases H with ⟨⟨-,b0,f4⟩,H⟩|⟨⟨m9,b0,f4⟩,H⟩
            ·
             (first|rw [b0]|(simp only [i64_w,i32_w];rw [b0])|skip)
             have H':=ak H
             clear H
             go_wp2
             go_meet
             case rel=>exact ⟨_,(false),z6_1,H',⟨(by have:=a9.out;have:=HK2.out;have:=d7.out;have:=HK4.out;first|omega|exact Nat.le_refl _)⟩,z6_0⟩
            (first|rw [b0]|(simp only [i64_w,i32_w];rw [b0])|skip)
            have H':=ak H
            clear H
            go_wp2
            go_meet
            case rel=>exact ⟨_,(((rd (rd_L1 l0 a0) a1) != 1)),z6_1,H',⟨(by have:=a9.out;have:=HK2.out;have:=d7.out;have:=HK4.out;first|omega|exact Nat.le_refl _)⟩,z6_0⟩
           case rest =>
            clear e3
            try clear c4
            try clear c5
            try clear b1
            try clear c6
            try clear e0
            try clear c7
            try clear e1
            try clear l8
            try clear n0
            try clear d8
            try clear n1
            try clear f2
            try clear n2
            try clear f3
            try clear hx148_0
            try clear hx150_0
            try clear e2
            try clear i1
            try clear q148
            try clear q150
            obtain ⟨kq,b2,rfl,HA,d3,⟨mc14,rfl⟩⟩:=hcut
            cases kq with
            | zero=>exact absurd HA.out (by simp [impl_OrderOk.j4])
            | succ e4 =>
             have H:=HA.out
             clear HA
             simp only [impl_OrderOk.j4] at H
             replace H:=ox_ H
             rcases H with ⟨rfl,H⟩|⟨rfl,H⟩
             ·
              obtain rfl:=Option.some.inj H
              go_wp2
              go_ret
              exact ⟨z6_1,z6_0⟩
             replace H:=od2 H
             obtain ⟨i9,j1,H⟩:=H
             replace H:=oe2 H
             rcases H with ⟨⟨f1,f5,f6⟩,H⟩|⟨⟨f1,f5,f6⟩,H⟩
             ·
              have f7:((rd_L1 l0 a1).length==l0.length)=true:=by first|simpa using f1|(simp at f1 ⊢;omega)
              clear f1
              replace H:=oe2 H
              rcases H with ⟨⟨-,f8,f9⟩,H⟩|⟨⟨n3,f8,f9⟩,H⟩
              ·
               replace H:=oe2 H
               rcases H with ⟨⟨-,g0,g1⟩,H⟩|⟨⟨n4,g0,g1⟩,H⟩
               ·
                have H':=ak H
                clear H
                obtain ⟨ad151,a6,a7,e151,hx151_0,a5,HR151_0,d4,q151⟩:=al_ HR0.out a1
                obtain rfl:=ij_ e151
                go_wp2
                go_roundg e4
                case measure=>have:=a9.out;have:=HK2.out;have:=d7.out;have:=HK4.out;have:=d3.out;omega
                case rel=>exact ⟨(wrap64 (a1+1)),z6_1,H',⟨z6_3⟩,z6_0⟩
               replace H:=od2 H
               obtain ⟨j3,j5,H⟩:=H
               replace H:=oe2 H
               rcases H with ⟨⟨-,g2,g3⟩,H⟩|⟨⟨n5,g2,g3⟩,H⟩
               ·
                obtain rfl:=Option.some.inj H
                obtain ⟨ad151,a6,a7,e151,hx151_0,a5,HR151_0,d4,q151⟩:=al_ HR0.out a1
                obtain rfl:=ij_ e151
                obtain ⟨ad152,e5,e6,e152,hx152_0,d5,HR152_0,i2,q152⟩:=al_ HR0.out a1
                obtain rfl:=ij_ e152
                obtain ⟨rfl,rfl⟩:=is_ hx151_0 hx152_0
                obtain ⟨ad153,e153,hx153_0,i3,q153⟩:=ai_ HR152_0.out a0
                cases e153
                go_wp2
                go_ret
                exact ⟨z6_1,z6_0⟩
               have H':=ak H
               clear H
               obtain ⟨ad151,a6,a7,e151,hx151_0,a5,HR151_0,d4,q151⟩:=al_ HR0.out a1
               obtain rfl:=ij_ e151
               obtain ⟨ad152,e5,e6,e152,hx152_0,d5,HR152_0,i2,q152⟩:=al_ HR0.out a1
               obtain rfl:=ij_ e152
               obtain ⟨rfl,rfl⟩:=is_ hx151_0 hx152_0
               obtain ⟨ad153,e153,hx153_0,i3,q153⟩:=ai_ HR152_0.out a0
               cases e153
               go_wp2
               go_roundg e4
               case measure=>have:=a9.out;have:=HK2.out;have:=d7.out;have:=HK4.out;have:=d3.out;omega
               case rel=>exact ⟨(wrap64 (a1+1)),z6_1,H',⟨z6_3⟩,z6_0⟩
              have H':=ak H
              clear H
              obtain ⟨ad151,a6,a7,e151,hx151_0,a5,HR151_0,d4,q151⟩:=al_ HR0.out a1
              obtain rfl:=ij_ e151
              go_wp2
              go_roundg e4
              case measure=>have:=a9.out;have:=HK2.out;have:=d7.out;have:=HK4.out;have:=d3.out;omega
              case rel=>exact ⟨(wrap64 (a1+1)),z6_1,H',⟨z6_3⟩,z6_0⟩
             have f7:((rd_L1 l0 a1).length==l0.length)=false:=by first|simpa using f1|(simp at f1 ⊢;omega)
             obtain rfl:=Option.some.inj H
             obtain ⟨ad151,a6,a7,e151,hx151_0,a5,HR151_0,d4,q151⟩:=al_ HR0.out a1
             obtain rfl:=ij_ e151
             go_wp2
             go_ret
             exact ⟨z6_1,z6_0⟩
          have H':=ak H
          clear H
          go_wp2
          go_roundg k4
          case measure=>have:=a9.out;have:=HK2.out;have:=d7.out;have:=HK4.out;omega
          case rel=>exact ⟨(wrap64 (a0+1)),z6_1,H',⟨(by have:=a9.out;have:=HK2.out;have:=d7.out;have:=HK4.out;omega)⟩,z6_0⟩
     have H':=ak H
     clear H
     go_wp2
     go_loopg [79] k2 (fun kq m0 w'=>∃ (a2:Int),m0 = .int .i64 a2∧Aside0 (impl_OrderOk.l2 kq l0 (l0.length:Int) (l0.length:Int) a2=some r)∧Aside0 (kq≤k2)∧Drawn0 w w')
     case atStart=>exact ⟨(0),z6_1,H',⟨Nat.le_refl _⟩,z6_0⟩
     case round =>
      clear H'
      try clear c4
      try clear c5
      try clear b1
      obtain ⟨a2,rfl,HA,HK3,⟨m3,rfl⟩⟩:=hrel
      cases gk with
      | zero=>exact absurd HA.out (by simp [impl_OrderOk.l2])
      | succ k3 =>
       have H:=HA.out
       clear HA
       simp only [impl_OrderOk.l2] at H
       replace H:=os_ H
       rcases H with ⟨d0,H⟩|⟨d0,H⟩
       ·
        have H':=ak H
        clear H
        go_wp2
        go_loopg [83] k3 (fun kq m1 w'=>∃ (a3:Int),m1 = .int .i64 a3∧Aside0 (impl_OrderOk.l3 kq l0 (l0.length:Int) a2 (l0.length:Int) a2 (l0.length:Int) a3=some r)∧Aside0 (kq≤k3)∧Drawn0 w w')
        case atStart=>exact ⟨(0),z6_1,H',⟨Nat.le_refl _⟩,z6_0⟩
        case round =>
         clear H'
         try clear c4
         try clear c5
         try clear b1
         try clear m6
         try clear d0
         obtain ⟨a3,rfl,HA,HK4,⟨m4,rfl⟩⟩:=hrel
         cases gk with
         | zero=>exact absurd HA.out (by simp [impl_OrderOk.l3])
         | succ k4 =>
          have H:=HA.out
          clear HA
          simp only [impl_OrderOk.l3] at H
          replace H:=os_ H
          rcases H with ⟨d9,H⟩|⟨d9,H⟩
          ·
           have H':=ak H
           clear H
           go_wp2
           go_loopg [87] k4 (fun kq m7 w'=>∃ (a4:Int),m7 = .int .i64 a4∧Aside0 (impl_OrderOk.l4 kq l0 (l0.length:Int) a2 a3 (l0.length:Int) a2 (l0.length:Int) a3 (l0.length:Int) a4=some r)∧Aside0 (kq≤k4)∧Drawn0 w w')
           case atStart=>exact ⟨(0),z6_1,H',⟨Nat.le_refl _⟩,z6_0⟩
           case round =>
            clear H'
            try clear c4
            try clear c5
            try clear b1
            try clear m6
            try clear d0
            try clear n6
            try clear d9
            obtain ⟨a4,rfl,HA,HK5,⟨m5,rfl⟩⟩:=hrel
            cases gk with
            | zero=>exact absurd HA.out (by simp [impl_OrderOk.l4])
            | succ k5 =>
             have H:=HA.out
             clear HA
             simp only [impl_OrderOk.l4] at H
             replace H:=os_ H
             rcases H with ⟨g4,H⟩|⟨g4,H⟩
             ·
              replace H:=od4 H
              obtain ⟨j6,j7,j8,j9,H⟩:=H
              replace H:=oe2 H
              rcases H with ⟨⟨-,g5,g6⟩,H⟩|⟨⟨n7,g5,g6⟩,H⟩
              ·
               replace H:=od3 H
               obtain ⟨k0,k1,k6,H⟩:=H
               replace H:=oe2 H
               rcases H with ⟨⟨-,g7,g8⟩,H⟩|⟨⟨n8,g7,g8⟩,H⟩
               ·
                replace H:=od_ H
                obtain ⟨k7,H⟩:=H
                replace H:=oe2 H
                rcases H with ⟨⟨-,g9,h0⟩,H⟩|⟨⟨n9,g9,h0⟩,H⟩
                ·
                 have H':=ak H
                 clear H
                 obtain ⟨ad154,b3,b4,e154,hx154_0,a8,HR154_0,e7,q154⟩:=al_ HR0.out a2
                 cases e154
                 obtain ⟨ad155,e155,hx155_0,e8,q155⟩:=ai_ HR154_0.out a3
                 cases e155
                 obtain ⟨ad156,d1,d2,e156,hx156_0,b5,HR156_0,h1,q156⟩:=al_ HR0.out a3
                 obtain rfl:=ij_ e156
                 obtain ⟨ad157,e157,hx157_0,h2,q157⟩:=ai_ HR156_0.out a4
                 cases e157
                 obtain ⟨ad158,e9,f0,e158,hx158_0,d6,HR158_0,i4,q158⟩:=al_ HR0.out a2
                 obtain rfl:=ij_ e158
                 obtain ⟨rfl,rfl⟩:=is_ hx154_0 hx158_0
                 obtain ⟨ad159,e159,hx159_0,i5,q159⟩:=ai_ HR158_0.out a4
                 cases e159
                 go_wp2
                 go_roundg k5
                 case measure=>have:=a9.out;have:=HK2.out;have:=HK3.out;have:=HK4.out;have:=HK5.out;omega
                 case rel=>exact ⟨(wrap64 (a4+1)),z6_1,H',⟨z6_2⟩,z6_0⟩
                obtain rfl:=Option.some.inj H
                obtain ⟨ad154,b3,b4,e154,hx154_0,a8,HR154_0,e7,q154⟩:=al_ HR0.out a2
                cases e154
                obtain ⟨ad155,e155,hx155_0,e8,q155⟩:=ai_ HR154_0.out a3
                cases e155
                obtain ⟨ad156,d1,d2,e156,hx156_0,b5,HR156_0,h1,q156⟩:=al_ HR0.out a3
                obtain rfl:=ij_ e156
                obtain ⟨ad157,e157,hx157_0,h2,q157⟩:=ai_ HR156_0.out a4
                cases e157
                obtain ⟨ad158,e9,f0,e158,hx158_0,d6,HR158_0,i4,q158⟩:=al_ HR0.out a2
                obtain rfl:=ij_ e158
                obtain ⟨rfl,rfl⟩:=is_ hx154_0 hx158_0
                obtain ⟨ad159,e159,hx159_0,i5,q159⟩:=ai_ HR158_0.out a4
                cases e159
                go_wp2
                go_ret
                exact ⟨z6_1,z6_0⟩
               have H':=ak H
               clear H
               obtain ⟨ad154,b3,b4,e154,hx154_0,a8,HR154_0,e7,q154⟩:=al_ HR0.out a2
               cases e154
               obtain ⟨ad155,e155,hx155_0,e8,q155⟩:=ai_ HR154_0.out a3
               cases e155
               obtain ⟨ad156,d1,d2,e156,hx156_0,b5,HR156_0,h1,q156⟩:=al_ HR0.out a3
               obtain rfl:=ij_ e156
               obtain ⟨ad157,e157,hx157_0,h2,q157⟩:=ai_ HR156_0.out a4
               cases e157
               go_wp2
               go_roundg k5
               case measure=>have:=a9.out;have:=HK2.out;have:=HK3.out;have:=HK4.out;have:=HK5.out;omega
               case rel=>exact ⟨(wrap64 (a4+1)),z6_1,H',⟨z6_2⟩,z6_0⟩
              have H':=ak H
              clear H
              obtain ⟨ad154,b3,b4,e154,hx154_0,a8,HR154_0,e7,q154⟩:=al_ HR0.out a2
              cases e154
              obtain ⟨ad155,e155,hx155_0,e8,q155⟩:=ai_ HR154_0.out a3
              cases e155
              go_wp2
              go_roundg k5
              case measure=>have:=a9.out;have:=HK2.out;have:=HK3.out;have:=HK4.out;have:=HK5.out;omega
              case rel=>exact ⟨(wrap64 (a4+1)),z6_1,H',⟨z6_2⟩,z6_0⟩
             have H':=ak H
             clear H
             go_wp2
             go_roundg k5
             case measure=>have:=a9.out;have:=HK2.out;have:=HK3.out;have:=HK4.out;have:=HK5.out;omega
             case rel=>exact ⟨(wrap64 (a3+1)),z6_1,H',⟨z6_2⟩,z6_0⟩
          have H':=ak H
          clear H
          go_wp2
          go_roundg k4
          case measure=>have:=a9.out;have:=HK2.out;have:=HK3.out;have:=HK4.out;omega
          case rel=>exact ⟨(wrap64 (a2+1)),z6_1,H',⟨(by have:=a9.out;have:=HK2.out;have:=HK3.out;have:=HK4.out;omega)⟩,z6_0⟩
       obtain rfl:=Option.some.inj H
       go_wp2
       go_ret
       exact ⟨z6_1,z6_0⟩

end Go.Proofs.Ytacifhahfamipaa.P

namespace Go.Proofs.Ytacifhahfamipaa.P
open Go.RowKit Go.Proofs.YtacifhahfamipaaW.PrintWords Go.Proofs.YtacifhahfamipaaW.PrintLast Go.Proofs.YtacifhahfamipaaW.PrintMore
attribute [local go_sem] max2_int min2_int max_two min_two max_three min_three max_four min_four
set_option linter.unusedVariables false
set_option linter.unusedSimpArgs false
theorem z8_0 {p:Prop} (h:p:=by repeat (first|(with_reducible first|exact HB.out|apply below_alloc|apply pw_below_drewN|apply below_drew1)|exact HB.out)):p:=h
set_option maxHeartbeats 8000000 in
set_option maxRecDepth 100000 in
theorem laws_alive.calls (k:Nat)  (r:Bool) (w:World) (h:laws_alive.f k  = some r) :
 Calls Try.prog 19 #[] w fun e w'=>e = .returned (.bool r)∧Below w.heap.size w w':=by
 have HB:=ak (Below.refl w.heap.size w)
 have H:((impl_OrderOk.f k (([(([1]:List Int))]:List (List Int)))).bind fun a4=>(if a4=true then ((impl_OrderOk.f k (([(([0]:List Int))]:List (List Int)))).bind fun a2=>(some (!a2))) else (some false)))=some r:=h
 clear h
 obtain ⟨y160,hy160⟩ : ∃ y_:List Int,y_=(([1]:List Int)):=⟨_,rfl⟩
 replace H:((impl_OrderOk.f k (([y160]:List (List Int)))).bind fun a4=>(if a4=true then ((impl_OrderOk.f k (([(([0]:List Int))]:List (List Int)))).bind fun a2=>(some (!a2))) else (some false)))=some r:=by first|(rw [hy160];with_reducible exact H)|(have H2_:=(Option.bind_some _ _).symm.trans H;rw [hy160];with_reducible exact H2_)|(have H2_:=(Option.bind_some _ _).symm.trans H;with_reducible exact H2_)|with_reducible exact H|(rw [hy160];exact H)|exact H
 have Ny160:=ak hy160
 clear hy160
 obtain ⟨y163,hy163⟩ : ∃ y_:List (List Int),y_=(([y160]:List (List Int))):=⟨_,rfl⟩
 replace H:((impl_OrderOk.f k y163).bind fun a4=>(if a4=true then ((impl_OrderOk.f k (([(([0]:List Int))]:List (List Int)))).bind fun a2=>(some (!a2))) else (some false)))=some r:=by first|(rw [hy163];with_reducible exact H)|(have H2_:=(Option.bind_some _ _).symm.trans H;rw [hy163];with_reducible exact H2_)|(have H2_:=(Option.bind_some _ _).symm.trans H;with_reducible exact H2_)|with_reducible exact H|(rw [hy163];exact H)|exact H
 have Ny163:=ak hy163
 clear hy163
 replace H:=bd_ H
 obtain ⟨a4,A1,H⟩:=H
 try dsimp only at H
 replace H:=ox_ H
 rcases H with ⟨rfl,H⟩|⟨rfl,H⟩
 ·
  obtain ⟨y167,hy167⟩ : ∃ y_:List Int,y_=(([0]:List Int)):=⟨_,rfl⟩
  replace H:((impl_OrderOk.f k (([y167]:List (List Int)))).bind fun a2=>(some (!a2)))=some r:=by first|(rw [hy167];with_reducible exact H)|(have H2_:=(Option.bind_some _ _).symm.trans H;rw [hy167];with_reducible exact H2_)|(have H2_:=(Option.bind_some _ _).symm.trans H;with_reducible exact H2_)|with_reducible exact H|(rw [hy167];exact H)|exact H
  have Ny167:=ak hy167
  clear hy167
  obtain ⟨y170,hy170⟩ : ∃ y_:List (List Int),y_=(([y167]:List (List Int))):=⟨_,rfl⟩
  replace H:((impl_OrderOk.f k y170).bind fun a2=>(some (!a2)))=some r:=by first|(rw [hy170];with_reducible exact H)|(have H2_:=(Option.bind_some _ _).symm.trans H;rw [hy170];with_reducible exact H2_)|(have H2_:=(Option.bind_some _ _).symm.trans H;with_reducible exact H2_)|with_reducible exact H|(rw [hy170];exact H)|exact H
  have Ny170:=ak hy170
  clear hy170
  replace H:=bd_ H
  obtain ⟨a2,A3,H⟩:=H
  try dsimp only at H
  obtain rfl:=Option.some.inj H
  go_enter Try.func19,Try.ntmps19
  go_wp2_with (first|((with_reducible refine gate_dst (N:=1) rfl ?_);(try (refine gate_guard (by rfl) ?_;dsimp only));refine Kd.R_lit (Kd.int .i64) _ 3 ?hg (N:=1) ?hd (xs:=([1]:List Int)) (inner:=[.int .i64 1]) (ok:=fun _=>True) (okp:=fun _=>True) ?hr ?hp (fun _ hk=>hk) trivial (Below.refl _ _) (Nat.le_refl _) (by simp) ?_;(case hd=>rfl);(case hg=>rfl);(case hr=>first|(go_simp;done)|(go_simp;rfl));(case hp=>exact (Reps.one (show Kd.M (Kd.int .i64) _ _ _ 1 [.int .i64 1] from rfl) (Reps.none _ _)));intro b2 w4 ho5 hb hg_ hnew_;clear hg_ hnew_;(first|rw [← Ny160.out] at ho5|(simp only [Int.reduceToNat] at ho5;rw [← Ny160.out] at ho5));have a1:=ak (Kd.R_lower ho5 (below_size z8_0));replace HB:=ak (below_step z8_0 hb);clear hb ho5;obtain ⟨d0,d1,d2⟩:=Kd.R_slice a1.out;subst d2)|((with_reducible refine gate_dst (N:=2) rfl ?_);(try (refine gate_guard (by rfl) ?_;dsimp only));refine Kd.N_lit (Kd.slice 3 (Kd.int .i64)) _ 25 ?hg (N':=2) ?hd (xs:=([y160]:List (List Int))) (inner:=[.slice d0 y160.length d1]) (ok:=(fun _=>True)) (okp:=(fun _=>True)) ?hr ?hp (fun _ hk=>hk) ((show ∀ k_,w4.heap.size≤k_→(fun _=>True) k_ from fun k_ hk=>trivial) _ (Nat.le_refl _)) (Below.refl _ _) (Nat.le_refl _) (by simp) ?_;(case hd=>rfl);(case hg=>rfl);(case hr=>first|(go_simp;done)|(go_simp;rfl));(case hp=>exact (Reps.one (show Kd.FK (Kd.slice 3 (Kd.int .i64)) _ _ y160 [.slice d0 y160.length d1] from (Kd.FK_slice_mk (Kd.R_reads' (Kd.R_mono (ok':=(fun _=>True)) (a1.out) (fun k_ hk=>trivial))).2.1 (Kd.R_F (Kd.R_mono (ok':=(fun _=>True)) (a1.out) (fun k_ hk=>trivial))))) (Reps.none _ _)));intro b3 w7 ho8 hb hg_ hnew_;clear hg_ hnew_;(first|rw [← Ny163.out] at ho8|(simp only [Int.reduceToNat] at ho8;rw [← Ny163.out] at ho8));have a0:=ak (Kd.N_lower ho8 (below_size z8_0));replace HB:=ak (below_step z8_0 hb);clear a1;clear hb ho8;obtain ⟨a6,a7,d3⟩:=Kd.N_slice a0.out;subst d3)|((with_reducible refine gate_callee (f:=67) rfl ?_);refine gl_ (some 3) Try.func67 #[.slice a6 y163.length a7] ?_;(with_reducible refine (impl_OrderOk.calls k _ _ y163 true _ (y1 a0.out) (y2 a0.out) A1.out).mono ?_);rintro e w' ⟨rfl,⟨nd,rfl⟩⟩;refine ⟨_,rfl,?_⟩)|((with_reducible refine gate_dst (N:=5) rfl ?_);(try (refine gate_guard (by rfl) ?_;dsimp only));refine Kd.R_lit (Kd.int .i64) _ 3 ?hg (N:=5) ?hd (xs:=([0]:List Int)) (inner:=[.int .i64 0]) (ok:=fun _=>True) (okp:=fun _=>True) ?hr ?hp (fun _ hk=>hk) trivial (Below.refl _ _) (Nat.le_refl _) (by simp) ?_;(case hd=>rfl);(case hg=>rfl);(case hr=>first|(go_simp;done)|(go_simp;rfl));(case hp=>exact (Reps.one (show Kd.M (Kd.int .i64) _ _ _ 0 [.int .i64 0] from rfl) (Reps.none _ _)));intro d4 d5 ho11 hb hg_ hnew_;clear hg_ hnew_;(first|rw [← Ny167.out] at ho11|(simp only [Int.reduceToNat] at ho11;rw [← Ny167.out] at ho11));replace a0:=ak (Kd.N_elder' (xN a0.out) (Kd.R_base ho11) hb);have a3:=ak (Kd.R_lower ho11 (below_size z8_0));replace HB:=ak (below_step z8_0 hb);clear hb ho11;obtain ⟨a8,a9,b4⟩:=Kd.R_slice a3.out;subst b4)|((with_reducible refine gate_dst (N:=6) rfl ?_);(try (refine gate_guard (by rfl) ?_;dsimp only));refine Kd.N_lit (Kd.slice 3 (Kd.int .i64)) _ 25 ?hg (N':=6) ?hd (xs:=([y167]:List (List Int))) (inner:=[.slice a8 y167.length a9]) (ok:=(fun k_=>some k_≠(.slice a6 y163.length a7:Value).ownBlock)) (okp:=(fun k_=>some k_≠(.slice a6 y163.length a7:Value).ownBlock)) ?hr ?hp (fun _ hk=>hk) ((show ∀ k_,d5.heap.size≤k_→(fun k_=>some k_≠(.slice a6 y163.length a7:Value).ownBlock) k_ from fun k_ hk=>Kd.fresh' (Kd.N_lt (xN a0.out)) k_ hk) _ (Nat.le_refl _)) (Below.refl _ _) (Nat.le_refl _) (by simp) ?_;(case hd=>rfl);(case hg=>rfl);(case hr=>first|(go_simp;done)|(go_simp;rfl));(case hp=>exact (Reps.one (show Kd.FK (Kd.slice 3 (Kd.int .i64)) _ _ y167 [.slice a8 y167.length a9] from (Kd.FK_slice_mk (Kd.R_reads' (Kd.R_mono (ok':=(fun k_=>some k_≠(.slice a6 y163.length a7:Value).ownBlock)) (Kd.R_apart' (a3.out) (Kd.N_typed a0.out) (by decide)) (fun k_ hk=>hk.2))).2.1 (Kd.R_F (Kd.R_mono (ok':=(fun k_=>some k_≠(.slice a6 y163.length a7:Value).ownBlock)) (Kd.R_apart' (a3.out) (Kd.N_typed a0.out) (by decide)) (fun k_ hk=>hk.2))))) (Reps.none _ _)));intro d6 e0 ho14 hb hg_ hnew_;clear hg_ hnew_;(first|rw [← Ny170.out] at ho14|(simp only [Int.reduceToNat] at ho14;rw [← Ny170.out] at ho14));replace a0:=ak (Kd.N_elder' (xN a0.out) (Kd.N_base ho14) hb);have a5:=ak (Kd.N_lower ho14 (below_size z8_0));replace HB:=ak (below_step z8_0 hb);clear a3;clear hb ho14;obtain ⟨d7,d8,b5⟩:=Kd.N_slice a5.out;subst b5)|(go_at_call 67;(with_reducible refine (impl_OrderOk.calls k _ _ y170 a2 _ (y1 a5.out) (y2 a5.out) A3.out).mono ?_);rintro e w' ⟨rfl,⟨nd,rfl⟩⟩))
  go_ret
  exact ⟨(by first|rfl|(simp [errW_none,errW_some] <;> rfl)|(simp [*,errW_none,errW_some] <;> rfl)),z8_0⟩
 obtain rfl:=Option.some.inj H
 go_enter Try.func19,Try.ntmps19
 go_wp2_with (first|((with_reducible refine gate_dst (N:=1) rfl ?_);(try (refine gate_guard (by rfl) ?_;dsimp only));refine Kd.R_lit (Kd.int .i64) _ 3 ?hg (N:=1) ?hd (xs:=([1]:List Int)) (inner:=[.int .i64 1]) (ok:=fun _=>True) (okp:=fun _=>True) ?hr ?hp (fun _ hk=>hk) trivial (Below.refl _ _) (Nat.le_refl _) (by simp) ?_;(case hd=>rfl);(case hg=>rfl);(case hr=>first|(go_simp;done)|(go_simp;rfl));(case hp=>exact (Reps.one (show Kd.M (Kd.int .i64) _ _ _ 1 [.int .i64 1] from rfl) (Reps.none _ _)));intro b2 d9 ho17 hb hg_ hnew_;clear hg_ hnew_;(first|rw [← Ny160.out] at ho17|(simp only [Int.reduceToNat] at ho17;rw [← Ny160.out] at ho17));have a1:=ak (Kd.R_lower ho17 (below_size z8_0));replace HB:=ak (below_step z8_0 hb);clear hb ho17;obtain ⟨b0,b1,b6⟩:=Kd.R_slice a1.out;subst b6)|((with_reducible refine gate_dst (N:=2) rfl ?_);(try (refine gate_guard (by rfl) ?_;dsimp only));refine Kd.N_lit (Kd.slice 3 (Kd.int .i64)) _ 25 ?hg (N':=2) ?hd (xs:=([y160]:List (List Int))) (inner:=[.slice b0 y160.length b1]) (ok:=(fun _=>True)) (okp:=(fun _=>True)) ?hr ?hp (fun _ hk=>hk) ((show ∀ k_,d9.heap.size≤k_→(fun _=>True) k_ from fun k_ hk=>trivial) _ (Nat.le_refl _)) (Below.refl _ _) (Nat.le_refl _) (by simp) ?_;(case hd=>rfl);(case hg=>rfl);(case hr=>first|(go_simp;done)|(go_simp;rfl));(case hp=>exact (Reps.one (show Kd.FK (Kd.slice 3 (Kd.int .i64)) _ _ y160 [.slice b0 y160.length b1] from (Kd.FK_slice_mk (Kd.R_reads' (Kd.R_mono (ok':=(fun _=>True)) (a1.out) (fun k_ hk=>trivial))).2.1 (Kd.R_F (Kd.R_mono (ok':=(fun _=>True)) (a1.out) (fun k_ hk=>trivial))))) (Reps.none _ _)));intro b3 e1 ho20 hb hg_ hnew_;clear hg_ hnew_;(first|rw [← Ny163.out] at ho20|(simp only [Int.reduceToNat] at ho20;rw [← Ny163.out] at ho20));have a0:=ak (Kd.N_lower ho20 (below_size z8_0));replace HB:=ak (below_step z8_0 hb);clear a1;clear hb ho20;obtain ⟨b7,b8,b9⟩:=Kd.N_slice a0.out;subst b9)|((with_reducible refine gate_callee (f:=67) rfl ?_);refine gl_ (some 3) Try.func67 #[.slice b7 y163.length b8] ?_;(with_reducible refine (impl_OrderOk.calls k _ _ y163 false _ (y1 a0.out) (y2 a0.out) A1.out).mono ?_);rintro e w' ⟨rfl,⟨nd,rfl⟩⟩;refine ⟨_,rfl,?_⟩))
 go_ret
 exact ⟨(by first|rfl|(simp [errW_none,errW_some] <;> rfl)|(simp [*,errW_none,errW_some] <;> rfl)),z8_0⟩

end Go.Proofs.Ytacifhahfamipaa.P

namespace Go.Proofs.Ytacifhahfamipaa.P
open Go.RowKit Go.Proofs.YtacifhahfamipaaW.PrintWords Go.Proofs.YtacifhahfamipaaW.PrintLast Go.Proofs.YtacifhahfamipaaW.PrintMore
attribute [local go_sem] max2_int min2_int max_two min_two max_three min_three max_four min_four
set_option linter.unusedVariables false
set_option linter.unusedSimpArgs false
theorem zm_1 {p:Prop} (h:p:=by first|rfl|(simp;done)|(simp [*];done)):p:=h
theorem zm_0 {p:Prop} (h:p:=by repeat (first|exact Drawn0.refl _|apply Drawn0.step)):p:=h
set_option maxHeartbeats 8000000 in
set_option maxRecDepth 100000 in
theorem laws_sameInts.calls (k:Nat) (A0:Option Addr) (c0:Nat) (l0:List Int) (A1:Option Addr) (c1:Nat) (l1:List Int) (r:Bool) (w:World) (hr0:Kd.C (Kd.int .i64) w A0 l0.length l0) (hc0:l0.length≤c0) (hr1:Kd.C (Kd.int .i64) w A1 l1.length l1) (hc1:l1.length≤c1) (h:laws_sameInts.f k l0 l1=some r) :
 Calls Try.prog 58 #[.slice A0 l0.length c0,.slice A1 l1.length c1] w fun e w'=>e = .returned (.bool r)∧Drawn0 w w':=by
 have HR0:=ak hr0
 have b1:=ak hc0
 clear hr0 hc0
 have HR1:=ak hr1
 have b2:=ak hc1
 clear hr1 hc1
 have H:(if (l0.length:Int)=(l1.length:Int) then (laws_sameInts.l0 k l0 l1 0) else (some false))=some r:=h
 clear h
 replace H:=oe2 H
 rcases H with ⟨⟨c3,a1,a2⟩,H⟩|⟨⟨c3,a1,a2⟩,H⟩
 ·
  have a3:(l0.length==l1.length)=true:=by first|simpa using c3|(simp at c3 ⊢;omega)
  clear c3
  have H':=ak H
  clear H
  go_enter Try.func58,Try.ntmps58
  go_wp2
  repeat (go_quiet (fail);try go_wp2)
  go_loopg [5] k (fun kq v5 w'=>∃ (a0:Int),v5 = .int .i64 a0∧Aside0 (laws_sameInts.l0 kq l0 l1 a0=some r)∧Aside0 (kq≤k)∧Drawn0 w w')
  case atStart=>exact ⟨(0),zm_1,H',⟨Nat.le_refl _⟩,zm_0⟩
  case round =>
   clear H'
   try clear c1
   try clear c3
   try clear a1
   try clear a2
   try clear a3
   obtain ⟨a0,rfl,HA,HK1,⟨m1,rfl⟩⟩:=hrel
   cases gk with
   | zero=>exact absurd HA.out (by simp [laws_sameInts.l0])
   | succ k1 =>
    have H:=HA.out
    clear HA
    simp only [laws_sameInts.l0] at H
    replace H:=os_ H
    rcases H with ⟨a4,H⟩|⟨a4,H⟩
    ·
     replace H:=od2 H
     obtain ⟨a9,b0,H⟩:=H
     replace H:=oe2 H
     rcases H with ⟨⟨-,a5,a6⟩,H⟩|⟨⟨c7,a5,a6⟩,H⟩
     ·
      have H':=ak H
      clear H
      obtain ⟨ad137,e137,hx137_0,a7,q137⟩:=ai_ HR0.out a0
      cases e137
      obtain ⟨ad138,e138,hx138_0,a8,q138⟩:=ai_ HR1.out a0
      cases e138
      go_wp2
      repeat (go_quiet (fail);try go_wp2)
      go_roundg k1
      case measure=>have:=HK1.out;omega
      case rel=>exact ⟨(wrap64 (a0+1)),zm_1,H',⟨(by have:=HK1.out;omega)⟩,zm_0⟩
     obtain rfl:=Option.some.inj H
     obtain ⟨ad137,e137,hx137_0,a7,q137⟩:=ai_ HR0.out a0
     cases e137
     obtain ⟨ad138,e138,hx138_0,a8,q138⟩:=ai_ HR1.out a0
     cases e138
     go_wp2
     repeat (go_quiet (fail);try go_wp2)
     go_ret
     exact ⟨zm_1,zm_0⟩
    obtain rfl:=Option.some.inj H
    go_wp2
    repeat (go_quiet (fail);try go_wp2)
    go_ret
    exact ⟨zm_1,zm_0⟩
 have a3:(l0.length==l1.length)=false:=by first|simpa using c3|(simp at c3 ⊢;omega)
 obtain rfl:=Option.some.inj H
 go_enter Try.func58,Try.ntmps58
 go_wp2
 repeat (go_quiet (fail);try go_wp2)
 go_ret
 exact ⟨zm_1,zm_0⟩

end Go.Proofs.Ytacifhahfamipaa.P

namespace Go.Proofs.Ytacifhahfamipaa.P
open Go.RowKit Go.Proofs.YtacifhahfamipaaW.PrintWords Go.Proofs.YtacifhahfamipaaW.PrintLast Go.Proofs.YtacifhahfamipaaW.PrintMore
attribute [local go_sem] max2_int min2_int max_two min_two max_three min_three max_four min_four
set_option linter.unusedVariables false
set_option linter.unusedSimpArgs false
theorem zo_1 {p:Prop} (h:p:=by first|rfl|(simp;done)|(simp [*];done)):p:=h
theorem zo_0 {p:Prop} (h:p:=by repeat (first|exact Drawn0.refl _|apply Drawn0.step)):p:=h
set_option maxHeartbeats 8000000 in
set_option maxRecDepth 100000 in
theorem laws_sameRows.calls (k:Nat) (A0:Option Addr) (c0:Nat) (l0:List (List Int)) (A1:Option Addr) (c1:Nat) (l1:List (List Int)) (r:Bool) (w:World) (hr0:Kd.C (Kd.slice 3 (Kd.int .i64)) w A0 l0.length l0) (hc0:l0.length≤c0) (hr1:Kd.C (Kd.slice 3 (Kd.int .i64)) w A1 l1.length l1) (hc1:l1.length≤c1) (h:laws_sameRows.f k l0 l1=some r) :
 Calls Try.prog 66 #[.slice A0 l0.length c0,.slice A1 l1.length c1] w fun e w'=>e = .returned (.bool r)∧Drawn0 w w':=by
 have HR0:=ak hr0
 have b6:=ak hc0
 clear hr0 hc0
 have HR1:=ak hr1
 have b7:=ak hc1
 clear hr1 hc1
 have H:(if (l0.length:Int)=(l1.length:Int) then (laws_sameRows.l0 k l0 l1 0) else (some false))=some r:=h
 clear h
 replace H:=oe2 H
 rcases H with ⟨⟨c3,a7,a8⟩,H⟩|⟨⟨c3,a7,a8⟩,H⟩
 ·
  have a9:(l0.length==l1.length)=true:=by first|simpa using c3|(simp at c3 ⊢;omega)
  clear c3
  have H':=ak H
  clear H
  go_enter Try.func66,Try.ntmps66
  go_wp2
  repeat (go_quiet (fail);try go_wp2)
  go_loopg [5] k (fun kq v5 w'=>∃ (a0:Int),v5 = .int .i64 a0∧Aside0 (laws_sameRows.l0 kq l0 l1 a0=some r)∧Aside0 (kq≤k)∧Drawn0 w w')
  case atStart=>exact ⟨(0),zo_1,H',⟨Nat.le_refl _⟩,zo_0⟩
  case round =>
   clear H'
   try clear c1
   try clear c3
   try clear a7
   try clear a8
   try clear a9
   obtain ⟨a0,rfl,HA,HK1,⟨m1,rfl⟩⟩:=hrel
   cases gk with
   | zero=>exact absurd HA.out (by simp [laws_sameRows.l0])
   | succ k1 =>
    have H:=HA.out
    clear HA
    simp only [laws_sameRows.l0] at H
    replace H:=os_ H
    rcases H with ⟨b0,H⟩|⟨b0,H⟩
    ·
     replace H:=od2 H
     obtain ⟨b3,b4,H⟩:=H
     replace H:=bd_ H
     obtain ⟨b5,A7,H⟩:=H
     try dsimp only at H
     replace H:=ox_ H
     rcases H with ⟨rfl,H⟩|⟨rfl,H⟩
     ·
      have H':=ak H
      clear H
      obtain ⟨ad139,a3,a4,e139,hx139_0,a1,HR139_0,b1,q139⟩:=al_ HR0.out a0
      cases e139
      obtain ⟨ad140,a5,a6,e140,hx140_0,a2,HR140_0,b2,q140⟩:=al_ HR1.out a0
      cases e140
      go_wp2_with (first|(go_at_call 58;(with_reducible refine (laws_sameInts.calls k1 _ _ (rd_L1 l0 a0) _ _ (rd_L1 l1 a0) true _ (y4 HR139_0.out) a1.out (y4 HR140_0.out) a2.out A7.out).mono ?_);rintro e w' ⟨rfl,⟨nd,rfl⟩⟩;(try first|exact ⟨rfl,_,World.drewN_drewN _ _ _⟩|exact ⟨rfl,_,Eq.trans (World.drewN_drewN _ _ _) (congrArg (World.drewN _) (Nat.add_assoc _ _ _))⟩)))
      repeat (go_quiet (first|(go_at_call 58;(with_reducible refine (laws_sameInts.calls k1 _ _ (rd_L1 l0 a0) _ _ (rd_L1 l1 a0) true _ (y4 HR139_0.out) a1.out (y4 HR140_0.out) a2.out A7.out).mono ?_);rintro e w' ⟨rfl,⟨nd,rfl⟩⟩;(try first|exact ⟨rfl,_,World.drewN_drewN _ _ _⟩|exact ⟨rfl,_,Eq.trans (World.drewN_drewN _ _ _) (congrArg (World.drewN _) (Nat.add_assoc _ _ _))⟩)));try go_wp2_with (first|(go_at_call 58;(with_reducible refine (laws_sameInts.calls k1 _ _ (rd_L1 l0 a0) _ _ (rd_L1 l1 a0) true _ (y4 HR139_0.out) a1.out (y4 HR140_0.out) a2.out A7.out).mono ?_);rintro e w' ⟨rfl,⟨nd,rfl⟩⟩;(try first|exact ⟨rfl,_,World.drewN_drewN _ _ _⟩|exact ⟨rfl,_,Eq.trans (World.drewN_drewN _ _ _) (congrArg (World.drewN _) (Nat.add_assoc _ _ _))⟩))))
      go_roundg k1
      case measure=>have:=HK1.out;omega
      case rel=>exact ⟨(wrap64 (a0+1)),zo_1,H',⟨(by have:=HK1.out;omega)⟩,zo_0⟩
     obtain rfl:=Option.some.inj H
     obtain ⟨ad139,a3,a4,e139,hx139_0,a1,HR139_0,b1,q139⟩:=al_ HR0.out a0
     cases e139
     obtain ⟨ad140,a5,a6,e140,hx140_0,a2,HR140_0,b2,q140⟩:=al_ HR1.out a0
     cases e140
     go_wp2_with (first|(go_at_call 58;(with_reducible refine (laws_sameInts.calls k1 _ _ (rd_L1 l0 a0) _ _ (rd_L1 l1 a0) false _ (y4 HR139_0.out) a1.out (y4 HR140_0.out) a2.out A7.out).mono ?_);rintro e w' ⟨rfl,⟨nd,rfl⟩⟩;(try first|exact ⟨rfl,_,World.drewN_drewN _ _ _⟩|exact ⟨rfl,_,Eq.trans (World.drewN_drewN _ _ _) (congrArg (World.drewN _) (Nat.add_assoc _ _ _))⟩)))
     repeat (go_quiet (first|(go_at_call 58;(with_reducible refine (laws_sameInts.calls k1 _ _ (rd_L1 l0 a0) _ _ (rd_L1 l1 a0) false _ (y4 HR139_0.out) a1.out (y4 HR140_0.out) a2.out A7.out).mono ?_);rintro e w' ⟨rfl,⟨nd,rfl⟩⟩;(try first|exact ⟨rfl,_,World.drewN_drewN _ _ _⟩|exact ⟨rfl,_,Eq.trans (World.drewN_drewN _ _ _) (congrArg (World.drewN _) (Nat.add_assoc _ _ _))⟩)));try go_wp2_with (first|(go_at_call 58;(with_reducible refine (laws_sameInts.calls k1 _ _ (rd_L1 l0 a0) _ _ (rd_L1 l1 a0) false _ (y4 HR139_0.out) a1.out (y4 HR140_0.out) a2.out A7.out).mono ?_);rintro e w' ⟨rfl,⟨nd,rfl⟩⟩;(try first|exact ⟨rfl,_,World.drewN_drewN _ _ _⟩|exact ⟨rfl,_,Eq.trans (World.drewN_drewN _ _ _) (congrArg (World.drewN _) (Nat.add_assoc _ _ _))⟩))))
     go_ret
     exact ⟨zo_1,zo_0⟩
    obtain rfl:=Option.some.inj H
    go_wp2
    repeat (go_quiet (fail);try go_wp2)
    go_ret
    exact ⟨zo_1,zo_0⟩
 have a9:(l0.length==l1.length)=false:=by first|simpa using c3|(simp at c3 ⊢;omega)
 obtain rfl:=Option.some.inj H
 go_enter Try.func66,Try.ntmps66
 go_wp2
 repeat (go_quiet (fail);try go_wp2)
 go_ret
 exact ⟨zo_1,zo_0⟩

end Go.Proofs.Ytacifhahfamipaa.P

namespace Go.Proofs.Ytacifhahfamipaa.P
open Go.RowKit Go.Proofs.YtacifhahfamipaaW.PrintWords Go.Proofs.YtacifhahfamipaaW.PrintLast Go.Proofs.YtacifhahfamipaaW.PrintMore
attribute [local go_sem] max2_int min2_int max_two min_two max_three min_three max_four min_four
set_option linter.unusedVariables false
set_option linter.unusedSimpArgs false
theorem zn_2 {p:Prop} (h:p:=by repeat (first|(with_reducible first|exact HB.out|apply below_alloc|apply pw_below_drewN|apply below_drew1|refine below_set ?_ a6.out|refine below_set ?_ b1.out)|exact HB.out)):p:=h
theorem zn_1 {p:Prop} (h:p:=by repeat (first|(with_reducible first|exact HB.out|apply below_alloc|apply pw_below_drewN|apply below_drew1)|exact HB.out)):p:=h
theorem zn_0 {p:Prop} (h:p:=by repeat (first|(with_reducible first|exact HB.out|apply below_alloc|apply pw_below_drewN|apply below_drew1|refine below_set ?_ a6.out)|exact HB.out)):p:=h
set_option maxHeartbeats 8000000 in
set_option maxRecDepth 100000 in
theorem laws_sameLogic.calls (k:Nat) (A0_0:Option Addr) (c0_0:Nat) (l0_0:List (List Int)) (A0_1:Option Addr) (c0_1:Nat) (l0_1:List Int) (A1_0:Option Addr) (c1_0:Nat) (l1_0:List (List Int)) (A1_1:Option Addr) (c1_1:Nat) (l1_1:List Int) (r:Bool) (w:World) (hr0_0:Kd.C (Kd.slice 3 (Kd.int .i64)) w A0_0 l0_0.length l0_0) (hc0_0:l0_0.length≤c0_0) (hr0_1:Kd.C (Kd.int .i64) w A0_1 l0_1.length l0_1) (hc0_1:l0_1.length≤c0_1) (hr1_0:Kd.C (Kd.slice 3 (Kd.int .i64)) w A1_0 l1_0.length l1_0) (hc1_0:l1_0.length≤c1_0) (hr1_1:Kd.C (Kd.int .i64) w A1_1 l1_1.length l1_1) (hc1_1:l1_1.length≤c1_1) (h:laws_sameLogic.f k l0_0 l0_1 l1_0 l1_1=some r) :
 Calls Try.prog 17 #[.agg #[.slice A0_0 l0_0.length c0_0,.slice A0_1 l0_1.length c0_1],.agg #[.slice A1_0 l1_0.length c1_0,.slice A1_1 l1_1.length c1_1]] w fun e w'=>e = .returned (.bool r)∧Below w.heap.size w w':=by
 have hu27:=Try.underlying27
 have HR0_0:=ak hr0_0
 have b2:=ak hc0_0
 clear hr0_0 hc0_0
 have HR0_1:=ak hr0_1
 have b5:=ak hc0_1
 clear hr0_1 hc0_1
 have HR1_0:=ak hr1_0
 have b3:=ak hc1_0
 clear hr1_0 hc1_0
 have HR1_1:=ak hr1_1
 have b6:=ak hc1_1
 clear hr1_1 hc1_1
 have HB:=ak (Below.refl w.heap.size w)
 have H:((laws_sameRows.f k l0_0 l1_0).bind fun b7=>(if b7=true then ((laws_sameInts.f k l0_1 l1_1).bind fun b4=>(some b4)) else (some false)))=some r:=h
 clear h
 replace H:=bd_ H
 obtain ⟨b7,A3,H⟩:=H
 try dsimp only at H
 replace H:=ox_ H
 rcases H with ⟨rfl,H⟩|⟨rfl,H⟩
 ·
  replace H:=bd_ H
  obtain ⟨b4,A5,H⟩:=H
  try dsimp only at H
  obtain rfl:=Option.some.inj H
  go_enter Try.func17,Try.ntmps17
  go_wp2_with (first|((with_reducible refine gate_dst (N:=2) rfl ?_);refine bx_ (N:=2) (cs:=#[.slice A0_0 l0_0.length c0_0,.slice A0_1 l0_1.length c0_1]) (t:=27) ?_;intro a1 hg w6 hbox hb;have a0:=ak (hbox);have b8:=ak ((by rw [hg];exact (below_size zn_1):w.heap.size≤a1));have a6:=ak ((by rw [hg];exact (below_size zn_1):w.heap.size≤a1));replace HB:=ak (below_step zn_1 hb);clear hb hbox hg)|((with_reducible refine gate_dst (N:=3) rfl ?_);refine bx_ (N:=3) (cs:=#[.slice A1_0 l1_0.length c1_0,.slice A1_1 l1_1.length c1_1]) (t:=27) ?_;intro a2 hg w7 hbox hb;have a3:=ak (hbox);have b9:=ak ((by rw [hg];exact (below_size zn_0):w.heap.size≤a2));have b1:=ak ((by rw [hg];exact (below_size zn_0):w.heap.size≤a2));replace HB:=ak (below_step zn_0 hb);have a4:=ak ((by rw [hg];exact Nat.ne_of_lt (blk_lt (g:=a1) (o:=.cells #[.slice A0_0 l0_0.length c0_0,.slice A0_1 l0_1.length c0_1] 27 (0,0)) (xb a0.out)):a1≠a2));have a5:=ak ((by rw [hg];exact Nat.ne_of_gt (blk_lt (g:=a1) (o:=.cells #[.slice A0_0 l0_0.length c0_0,.slice A0_1 l0_1.length c0_1] 27 (0,0)) (xb a0.out)):a2≠a1));replace a0:=ak (blk_below (g:=a1) (o:=.cells #[.slice A0_0 l0_0.length c0_0,.slice A0_1 l0_1.length c0_1] 27 (0,0)) (xb a0.out) hb);clear hb hbox hg;have d2:=a4.out;have d3:=a5.out;have a7:=cz20 a0.out;have a8:=cz21 a0.out;have a9:=blk_frozen a0.out 0;have b0:=blk_frozen a0.out 1;have a7:=cz20 a3.out;have a8:=cz21 a3.out;have a9:=blk_frozen a3.out 0;have b0:=blk_frozen a3.out 1)|((with_reducible refine gate_callee (f:=66) rfl ?_);refine gl_ (some 9) Try.func66 #[.slice A0_0 l0_0.length c0_0,.slice A1_0 l1_0.length c1_0] ?_;(with_reducible refine (laws_sameRows.calls k _ _ l0_0 _ _ l1_0 true _ (y3 HR0_0.out HB.out) b2.out (y3 HR1_0.out HB.out) b3.out A3.out).mono ?_);rintro e w' ⟨rfl,⟨nd,rfl⟩⟩;refine ⟨_,rfl,?_⟩)|(go_at_call 58;(with_reducible refine (laws_sameInts.calls k _ _ l0_1 _ _ l1_1 b4 _ (by repeat (first|exact (Kd.C_below HR0_1.out zn_2)|(with_reducible refine Kd.C_alloc ?_ _)|(with_reducible refine Kd.C_drewN ?_ _)|(with_reducible refine Kd.C_drew ?_))) b5.out (by repeat (first|exact (Kd.C_below HR1_1.out zn_2)|(with_reducible refine Kd.C_alloc ?_ _)|(with_reducible refine Kd.C_drewN ?_ _)|(with_reducible refine Kd.C_drew ?_))) b6.out A5.out).mono ?_);rintro e w' ⟨rfl,⟨nd,rfl⟩⟩))
  go_ret
  exact ⟨(by first|rfl|(simp [errW_none,errW_some] <;> rfl)|(simp [*,errW_none,errW_some] <;> rfl)),zn_2⟩
 obtain rfl:=Option.some.inj H
 go_enter Try.func17,Try.ntmps17
 go_wp2_with (first|((with_reducible refine gate_dst (N:=2) rfl ?_);refine bx_ (N:=2) (cs:=#[.slice A0_0 l0_0.length c0_0,.slice A0_1 l0_1.length c0_1]) (t:=27) ?_;intro a1 hg d4 hbox hb;have a0:=ak (hbox);have b8:=ak ((by rw [hg];exact (below_size zn_1):w.heap.size≤a1));have a6:=ak ((by rw [hg];exact (below_size zn_1):w.heap.size≤a1));replace HB:=ak (below_step zn_1 hb);clear hb hbox hg)|((with_reducible refine gate_dst (N:=3) rfl ?_);refine bx_ (N:=3) (cs:=#[.slice A1_0 l1_0.length c1_0,.slice A1_1 l1_1.length c1_1]) (t:=27) ?_;intro a2 hg d5 hbox hb;have a3:=ak (hbox);have b9:=ak ((by rw [hg];exact (below_size zn_0):w.heap.size≤a2));have b1:=ak ((by rw [hg];exact (below_size zn_0):w.heap.size≤a2));replace HB:=ak (below_step zn_0 hb);have a4:=ak ((by rw [hg];exact Nat.ne_of_lt (blk_lt (g:=a1) (o:=.cells #[.slice A0_0 l0_0.length c0_0,.slice A0_1 l0_1.length c0_1] 27 (0,0)) (xb a0.out)):a1≠a2));have a5:=ak ((by rw [hg];exact Nat.ne_of_gt (blk_lt (g:=a1) (o:=.cells #[.slice A0_0 l0_0.length c0_0,.slice A0_1 l0_1.length c0_1] 27 (0,0)) (xb a0.out)):a2≠a1));replace a0:=ak (blk_below (g:=a1) (o:=.cells #[.slice A0_0 l0_0.length c0_0,.slice A0_1 l0_1.length c0_1] 27 (0,0)) (xb a0.out) hb);clear hb hbox hg;have d0:=a4.out;have d1:=a5.out;have a7:=cz20 a0.out;have a8:=cz21 a0.out;have a9:=blk_frozen a0.out 0;have b0:=blk_frozen a0.out 1;have a7:=cz20 a3.out;have a8:=cz21 a3.out;have a9:=blk_frozen a3.out 0;have b0:=blk_frozen a3.out 1)|((with_reducible refine gate_callee (f:=66) rfl ?_);refine gl_ (some 9) Try.func66 #[.slice A0_0 l0_0.length c0_0,.slice A1_0 l1_0.length c1_0] ?_;(with_reducible refine (laws_sameRows.calls k _ _ l0_0 _ _ l1_0 false _ (y3 HR0_0.out HB.out) b2.out (y3 HR1_0.out HB.out) b3.out A3.out).mono ?_);rintro e w' ⟨rfl,⟨nd,rfl⟩⟩;refine ⟨_,rfl,?_⟩))
 go_ret
 exact ⟨(by first|rfl|(simp [errW_none,errW_some] <;> rfl)|(simp [*,errW_none,errW_some] <;> rfl)),zn_2⟩

end Go.Proofs.Ytacifhahfamipaa.P

namespace Go.Proofs.Ytacifhahfamipaa.P
open Go.RowKit Go.Proofs.YtacifhahfamipaaW.PrintWords Go.Proofs.YtacifhahfamipaaW.PrintLast Go.Proofs.YtacifhahfamipaaW.PrintMore
attribute [local go_sem] max2_int min2_int max_two min_two max_three min_three max_four min_four
set_option linter.unusedVariables false
set_option linter.unusedSimpArgs false
theorem zl_1 {p:Prop} (h:p:=by repeat (first|(with_reducible first|exact HB.out|apply below_alloc|apply pw_below_drewN|apply below_drew1|refine below_set ?_ a3.out)|exact HB.out)):p:=h
theorem zl_0 {p:Prop} (h:p:=by repeat (first|(with_reducible first|exact HB.out|apply below_alloc|apply pw_below_drewN|apply below_drew1)|exact HB.out)):p:=h
set_option maxHeartbeats 8000000 in
set_option maxRecDepth 100000 in
theorem laws_noLogic.calls (k:Nat) (A0_0:Option Addr) (c0_0:Nat) (l0_0:List (List Int)) (A0_1:Option Addr) (c0_1:Nat) (l0_1:List Int) (r:Bool) (w:World) (hr0_0:Kd.C (Kd.slice 3 (Kd.int .i64)) w A0_0 l0_0.length l0_0) (hc0_0:l0_0.length≤c0_0) (hr0_1:Kd.C (Kd.int .i64) w A0_1 l0_1.length l0_1) (hc0_1:l0_1.length≤c0_1) (h:laws_noLogic.f k l0_0 l0_1=some r) :
 Calls Try.prog 18 #[.agg #[.slice A0_0 l0_0.length c0_0,.slice A0_1 l0_1.length c0_1]] w fun e w'=>e = .returned (.bool r)∧Below w.heap.size w w':=by
 have hu27:=Try.underlying27
 have HR0_0:=ak hr0_0
 have a4:=ak hc0_0
 clear hr0_0 hc0_0
 have HR0_1:=ak hr0_1
 have a5:=ak hc0_1
 clear hr0_1 hc0_1
 have HB:=ak (Below.refl w.heap.size w)
 have H:((laws_sameLogic.f k l0_0 l0_1 ([]:List (List Int)) ([]:List Int)).bind fun a2=>(some a2))=some r:=h
 clear h
 replace H:=bd_ H
 obtain ⟨a2,A2,H⟩:=H
 try dsimp only at H
 obtain rfl:=Option.some.inj H
 go_enter Try.func18,Try.ntmps18
 go_wp2_with (first|((with_reducible refine gate_dst (N:=1) rfl ?_);refine bx_ (N:=1) (cs:=#[.slice A0_0 l0_0.length c0_0,.slice A0_1 l0_1.length c0_1]) (t:=27) ?_;intro a1 hg w3 hbox hb;have a0:=ak (hbox);have a6:=ak ((by rw [hg];exact (below_size zl_0):w.heap.size≤a1));have a3:=ak ((by rw [hg];exact (below_size zl_0):w.heap.size≤a1));replace HB:=ak (below_step zl_0 hb);clear hb hbox hg;have a7:=cz20 a0.out;have a8:=cz21 a0.out;have a9:=blk_frozen a0.out 0;have b0:=blk_frozen a0.out 1)|((with_reducible refine gate_callee (f:=17) rfl ?_);refine gl_ (some 5) Try.func17 #[.agg #[.slice A0_0 l0_0.length c0_0,.slice A0_1 l0_1.length c0_1],.agg #[.slice none 0 0,.slice none 0 0]] ?_;(refine (laws_sameLogic.calls k _ _ l0_0 _ _ l0_1 _ _ ([]:List (List Int)) _ _ ([]:List Int) a2 _ (y3 HR0_0.out HB.out) a4.out (y3 HR0_1.out HB.out) a5.out (by exact Kd.C_nil _ _) (by exact Nat.le_refl _) (by exact Kd.C_nil _ _) (by exact Nat.le_refl _) A2.out).mono ?_);rintro e w' ⟨rfl,hb⟩;refine ⟨_,rfl,?_⟩;replace a0:=ak (blk_below (g:=a1) (o:=.cells #[.slice A0_0 l0_0.length c0_0,.slice A0_1 l0_1.length c0_1] 27 (0,0)) (xb a0.out) hb);replace HB:=ak (below_step zl_1 hb);(try clear hb);(try clear hb2);(try clear hk);(try clear hi)))
 go_ret
 exact ⟨(by first|rfl|(simp [errW_none,errW_some] <;> rfl)|(simp [*,errW_none,errW_some] <;> rfl)),zl_1⟩

end Go.Proofs.Ytacifhahfamipaa.P

namespace Go.Proofs.Ytacifhahfamipaa.P
open Go.RowKit Go.Proofs.YtacifhahfamipaaW.PrintWords Go.Proofs.YtacifhahfamipaaW.PrintLast Go.Proofs.YtacifhahfamipaaW.PrintMore
attribute [local go_sem] max2_int min2_int max_two min_two max_three min_three max_four min_four
set_option linter.unusedVariables false
set_option linter.unusedSimpArgs false
theorem z1f_3 {p:Prop} (h:p:=by (with_reducible repeat (first|apply Kd.S_alloc|apply Kd.S_drewN|apply Kd.S_drew));exact Kd.S_mono a4.out (fun _ hk=>⟨trivial,hk⟩)):p:=h
theorem z1f_2 {p:Prop} (h:p:=by first|rfl|(simp;done)|(simp [*];done)):p:=h
theorem z1f_1 {p:Prop} (h:p:=by (with_reducible repeat (first|apply Kd.S_alloc|apply Kd.S_drewN|apply Kd.S_drew));exact Kd.S_mono a4.out (fun _ hk=>hk.2)):p:=h
theorem z1f_0 {p:Prop} (h:p:=by repeat (first|(with_reducible first|exact HB.out|apply below_alloc|apply pw_below_drewN|apply below_drew1)|exact HB.out)):p:=h
set_option maxHeartbeats 8000000 in
set_option maxRecDepth 100000 in
theorem spec_l20Sets.calls (k:Nat) (a0:Int) (r:List (List Int)) (w:World) (h:spec_l20Sets.f k a0=some r) :
 Calls Try.prog 114 #[.int .i64 a0] w fun e w'=>∃ v0_:Value,e = .returned (v0_)∧Kd.S (Kd.slice 3 (Kd.int .i64)) 25 w' w.heap.size (fun _=>True) v0_ r∧Below w.heap.size w w':=by
 have HB:=ak (Below.refl w.heap.size w)
 have H:(spec_l20Sets.l0 k a0 (([]:List (List Int))) 0)=some r:=h
 clear h
 obtain ⟨y289,hy289⟩ : ∃ y_:List (List Int),y_=(([]:List (List Int))):=⟨_,rfl⟩
 replace H:(spec_l20Sets.l0 k a0 y289 0)=some r:=by first|(rw [hy289];with_reducible exact H)|(have H2_:=(Option.bind_some _ _).symm.trans H;rw [hy289];with_reducible exact H2_)|(have H2_:=(Option.bind_some _ _).symm.trans H;with_reducible exact H2_)|with_reducible exact H|(rw [hy289];exact H)|exact H
 have Ny289:=ak hy289
 clear hy289
 have H':=ak H
 clear H
 go_enter Try.func114,Try.ntmps114
 go_wp2_with (first|((with_reducible refine gate_dst (N:=8) rfl ?_);refine Kd.S_lit (Kd.slice 3 (Kd.int .i64)) _ 25 ?hg (N:=8) ?hd (xs:=([]:List (List Int))) (inner:=[]) (ok:=fun _=>True) (okp:=fun _=>True) ?hr ?hp (fun _ hk=>hk) trivial (Below.refl _ _) (Nat.le_refl _) (by simp) ?_;(case hd=>rfl);(case hg=>rfl);(case hr=>first|(go_simp;done)|(go_simp;rfl));(case hp=>exact (Reps.none _ _));intro d4 w2 ho3 hb hg_ hnew_;clear hg_ hnew_;(first|rw [← Ny289.out] at ho3|(simp only [Int.reduceToNat] at ho3;rw [← Ny289.out] at ho3));have a7:=ak (Kd.S_lower ho3 (below_size z1f_0));replace HB:=ak (below_step z1f_0 hb);clear hb ho3))
 go_loopg [3,4] k (fun kq v3 v4 w'=>∃ (a1:List (List Int)) (a2:Int),v4 = .int .i64 a2∧Aside0 (spec_l20Sets.l0 kq a0 a1 a2=some r)∧Aside0 (kq≤k)∧Aside0 (Kd.S (Kd.slice 3 (Kd.int .i64)) 25 w' w.heap.size (fun _=>True) v3 a1)∧Aside0 (Below w.heap.size w w'))
 case atStart=>exact ⟨(y289),(0),z1f_2,H',⟨Nat.le_refl _⟩,⟨(xS a7.out)⟩,⟨z1f_0⟩⟩
 case round =>
  clear H'
  obtain ⟨a1,a2,rfl,HA,HK1,a4,HB⟩:=hrel
  cases gk with
  | zero=>exact absurd HA.out (by simp [spec_l20Sets.l0])
  | succ k1 =>
   have H:=HA.out
   clear HA
   simp only [spec_l20Sets.l0] at H
   replace H:=ok_ H
   obtain ⟨c4,H⟩:=H
   have b8:=eq_true c4
   have b9:decide (0≤a0)=true:=dT_ c4
   clear c4
   obtain ⟨ji5,hji5⟩ : ∃ j_:Int,(shl .i64 1 a0)=j_:=⟨_,rfl⟩
   replace H:(if a2<(ji5) then (spec_l20Sets.l1 k1 a0 a1 a2 (([]:List Int)) 0) else (some a1))=some r:=by first|(rw [hji5] at H;exact H)|(simp only [hji5] at H ⊢;exact H)
   have hji5_:(IntKind.i64.wrap (1*2 ^ min a0.toNat 64))=ji5:=hji5
   have hji5z:a0≤64→(IntKind.i64.wrap (1*2 ^ a0.toNat))=ji5:=shl_small hji5
   have hji5u:(IntKind.i64.wrap (2 ^ min a0.toNat 64))=ji5:=by have h_:=hji5_;rw [Int.one_mul] at h_;exact h_
   have hji5v:a0≤64→(IntKind.i64.wrap (2 ^ a0.toNat))=ji5:=fun hle_=>by have h_:=hji5z hle_;rw [Int.one_mul] at h_;exact h_
   have hji5y:(wrap64 (1*2 ^ min a0.toNat 64))=ji5:=(i64_w _).symm.trans hji5_
   have hji5x:a0≤64→(wrap64 (1*2 ^ a0.toNat))=ji5:=fun h_=>(i64_w _).symm.trans (hji5z h_)
   replace H:=os_ H
   rcases H with ⟨a8,H⟩|⟨a8,H⟩
   ·
    obtain ⟨y292,hy292⟩ : ∃ y_:List Int,y_=(([]:List Int)):=⟨_,rfl⟩
    replace H:(spec_l20Sets.l1 k1 a0 a1 a2 y292 0)=some r:=by first|(rw [hy292];with_reducible exact H)|(have H2_:=(Option.bind_some _ _).symm.trans H;rw [hy292];with_reducible exact H2_)|(have H2_:=(Option.bind_some _ _).symm.trans H;with_reducible exact H2_)|with_reducible exact H|(rw [hy292];exact H)|exact H
    have Ny292:=ak hy292
    clear hy292
    have H':=ak H
    clear H
    go_wp2_with (first|((with_reducible refine gate_dst (N:=15) rfl ?_);refine Kd.R_lit (Kd.int .i64) _ 3 ?hg (N:=15) ?hd (xs:=([]:List Int)) (inner:=[]) (ok:=fun _=>True) (okp:=fun _=>True) ?hr ?hp (fun _ hk=>hk) trivial (Below.refl _ _) (Nat.le_refl _) (by simp) ?_;(case hd=>rfl);(case hg=>rfl);(case hr=>first|(go_simp;done)|(go_simp;rfl));(case hp=>exact (Reps.none _ _));intro d5 w7 ho8 hb hg_ hnew_;clear hg_ hnew_;(first|rw [← Ny292.out] at ho8|(simp only [Int.reduceToNat] at ho8;rw [← Ny292.out] at ho8));replace a4:=ak (Kd.S_elder' (xS a4.out) (Kd.R_base ho8) hb);have a9:=ak (Kd.R_lower ho8 (below_size z1f_0));replace HB:=ak (below_step z1f_0 hb);clear hb ho8))
    go_loopg [5,6] k1 (fun kq v5 v6 w'=>∃ (a3:List Int) (a5:Int),v6 = .int .i64 a5∧Aside0 (spec_l20Sets.l1 kq a0 a1 a2 a3 a5=some r)∧Aside0 (kq≤k1)∧Aside0 (Kd.S (Kd.slice 3 (Kd.int .i64)) 25 w' w.heap.size (fun k_=>some k_≠(v5:Value).ownBlock) u3 a1)∧Aside0 (Kd.R (Kd.int .i64) 3 w' w.heap.size (fun _=>True) v5 a3)∧Aside0 (Below w.heap.size w w'))
    case atStart=>exact ⟨(y292),(0),z1f_2,H',⟨Nat.le_refl _⟩,⟨z1f_1⟩,⟨(xR a9.out)⟩,⟨z1f_0⟩⟩
    case round =>
     clear H'
     try clear c4
     try clear b8
     try clear b9
     try clear c6
     try clear a8
     obtain ⟨a3,a5,rfl,HA,HK2,a4,a6,HB⟩:=hrel
     cases gk with
     | zero=>exact absurd HA.out (by simp [spec_l20Sets.l1])
     | succ k2 =>
      have H:=HA.out
      clear HA
      simp only [spec_l20Sets.l1] at H
      replace H:=ok_ H
      obtain ⟨c9,H⟩:=H
      have d6:=eq_true c9
      have d7:decide (0≤a0)=true:=dT_ c9
      clear c9
      (try clear hji5_);(try clear hji5z);(try clear hji5u);(try clear hji5v);(try clear hji5y);(try clear hji5x);(try clear hji5)
      obtain ⟨ji10,hji10⟩ : ∃ j_:Int,(shl .i64 1 a0)=j_:=⟨_,rfl⟩
      replace H:(if a5<(ji10) then (if (Go.bits .and .i64 a2 a5)=a2 then (if a3.length<17592186044416 then (spec_l20Sets.l1 k2 a0 a1 a2 (a3 ++ [1]) (wrap64 (a5+1))) else (none)) else (if a3.length<17592186044416 then (spec_l20Sets.l1 k2 a0 a1 a2 (a3 ++ [0]) (wrap64 (a5+1))) else (none))) else (if a1.length<5864062014805 then (spec_l20Sets.l0 k2 a0 (a1 ++ [a3]) (wrap64 (a2+1))) else (none)))=some r:=by first|(rw [hji10] at H;exact H)|(simp only [hji10] at H ⊢;exact H)
      have hji10_:(IntKind.i64.wrap (1*2 ^ min a0.toNat 64))=ji10:=hji10
      have hji10z:a0≤64→(IntKind.i64.wrap (1*2 ^ a0.toNat))=ji10:=shl_small hji10
      have hji10u:(IntKind.i64.wrap (2 ^ min a0.toNat 64))=ji10:=by have h_:=hji10_;rw [Int.one_mul] at h_;exact h_
      have hji10v:a0≤64→(IntKind.i64.wrap (2 ^ a0.toNat))=ji10:=fun hle_=>by have h_:=hji10z hle_;rw [Int.one_mul] at h_;exact h_
      have hji10y:(wrap64 (1*2 ^ min a0.toNat 64))=ji10:=(i64_w _).symm.trans hji10_
      have hji10x:a0≤64→(wrap64 (1*2 ^ a0.toNat))=ji10:=fun h_=>(i64_w _).symm.trans (hji10z h_)
      replace H:=os_ H
      rcases H with ⟨b0,H⟩|⟨b0,H⟩
      ·
       replace H:=oe2 H
       rcases H with ⟨⟨-,b1,b2⟩,H⟩|⟨⟨e1,b1,b2⟩,H⟩
       ·
        replace H:=ok_ H
        obtain ⟨d1,H⟩:=H
        have LMc13:=ak d1
        clear d1
        obtain ⟨y295,hy295⟩ : ∃ y_:List Int,y_=(a3 ++ [1]):=⟨_,rfl⟩
        replace H:(spec_l20Sets.l1 k2 a0 a1 a2 y295 (wrap64 (a5+1)))=some r:=by first|(rw [hy295];with_reducible exact H)|(have H2_:=(Option.bind_some _ _).symm.trans H;rw [hy295];with_reducible exact H2_)|(have H2_:=(Option.bind_some _ _).symm.trans H;with_reducible exact H2_)|with_reducible exact H|(rw [hy295];exact H)|exact H
        have Ny295:=ak hy295
        clear hy295
        have H':=ak H
        clear H
        go_wp2_with (first|((with_reducible refine gate_builtin (b:=.append) (xs:=#[.tmp 27,.tmp 29]) rfl ?_);at_builtin;refine Kd.R_append (Kd.int .i64) (w0:=w) w.heap.size rfl (.tmp 27) (.tmp 29) 25 3 (.int .i64 0) 8 rfl Try.underlying25 info3 rfl (by decide) (by omega) u5 a3 1 [.int .i64 1] (fun _=>True) (fun _=>False) rfl rfl ?aP (fun _ hk=>hk.elim) ?aF ?aO ?aB ?aS ?aL ?_;(case aP=>exact rfl);(case aB=>exact z1f_0);(case aF=>exact (fun _ _=>trivial));(case aO=>exact (xR a6.out));(case aS=>exact (below_size z1f_0));(case aL=>have:=LMc13.out;omega);intro d8 e2 ho hb hg hat;rw [← Ny295.out] at ho;replace a4:=ak (Kd.S_after (ok:=(fun _=>True)) z1f_3 hg hat);replace HB:=ak (hb);have b3:=ak (ho);clear a6;clear ho hb hg hat))
        go_roundg k2
        case measure=>have:=HK1.out;have:=HK2.out;omega
        case rel=>exact ⟨(y295),(wrap64 (a5+1)),z1f_2,H',⟨(by have:=HK1.out;have:=HK2.out;omega)⟩,⟨z1f_1⟩,⟨(xR b3.out)⟩,⟨z1f_0⟩⟩
       replace H:=ok_ H
       obtain ⟨d2,H⟩:=H
       have LMc15:=ak d2
       clear d2
       obtain ⟨y298,hy298⟩ : ∃ y_:List Int,y_=(a3 ++ [0]):=⟨_,rfl⟩
       replace H:(spec_l20Sets.l1 k2 a0 a1 a2 y298 (wrap64 (a5+1)))=some r:=by first|(rw [hy298];with_reducible exact H)|(have H2_:=(Option.bind_some _ _).symm.trans H;rw [hy298];with_reducible exact H2_)|(have H2_:=(Option.bind_some _ _).symm.trans H;with_reducible exact H2_)|with_reducible exact H|(rw [hy298];exact H)|exact H
       have Ny298:=ak hy298
       clear hy298
       have H':=ak H
       clear H
       go_wp2_with (first|((with_reducible refine gate_builtin (b:=.append) (xs:=#[.tmp 27,.tmp 29]) rfl ?_);at_builtin;refine Kd.R_append (Kd.int .i64) (w0:=w) w.heap.size rfl (.tmp 27) (.tmp 29) 25 3 (.int .i64 0) 8 rfl Try.underlying25 info3 rfl (by decide) (by omega) u5 a3 0 [.int .i64 0] (fun _=>True) (fun _=>False) rfl rfl ?aP (fun _ hk=>hk.elim) ?aF ?aO ?aB ?aS ?aL ?_;(case aP=>exact rfl);(case aB=>exact z1f_0);(case aF=>exact (fun _ _=>trivial));(case aO=>exact (xR a6.out));(case aS=>exact (below_size z1f_0));(case aL=>have:=LMc15.out;omega);intro d9 e3 ho hb hg hat;rw [← Ny298.out] at ho;replace a4:=ak (Kd.S_after (ok:=(fun _=>True)) z1f_3 hg hat);replace HB:=ak (hb);have b4:=ak (ho);clear a6;clear ho hb hg hat))
       go_roundg k2
       case measure=>have:=HK1.out;have:=HK2.out;omega
       case rel=>exact ⟨(y298),(wrap64 (a5+1)),z1f_2,H',⟨(by have:=HK1.out;have:=HK2.out;omega)⟩,⟨z1f_1⟩,⟨(xR b4.out)⟩,⟨z1f_0⟩⟩
      replace H:=ok_ H
      obtain ⟨d3,H⟩:=H
      have LMc17:=ak d3
      clear d3
      obtain ⟨y301,hy301⟩ : ∃ y_:List (List Int),y_=(a1 ++ [a3]):=⟨_,rfl⟩
      replace H:(spec_l20Sets.l0 k2 a0 y301 (wrap64 (a2+1)))=some r:=by first|(rw [hy301];with_reducible exact H)|(have H2_:=(Option.bind_some _ _).symm.trans H;rw [hy301];with_reducible exact H2_)|(have H2_:=(Option.bind_some _ _).symm.trans H;with_reducible exact H2_)|with_reducible exact H|(rw [hy301];exact H)|exact H
      have Ny301:=ak hy301
      clear hy301
      have H':=ak H
      clear H
      obtain ⟨b5,b6,d0⟩:=Kd.R_slice a6.out
      subst d0
      go_wp2_with (first|((with_reducible refine gate_builtin (b:=.append) (xs:=#[.tmp 31,.tmp 33]) rfl ?_);at_builtin;refine Kd.S_append (Kd.slice 3 (Kd.int .i64)) (w0:=w) w.heap.size rfl (.tmp 31) (.tmp 33) 24 25 (.slice none 0 0) 24 rfl Try.underlying24 info25 rfl (by decide) (by omega) u3 a1 a3 [.slice b5 a3.length b6] (fun _=>True) (fun k_=>some k_=(.slice b5 a3.length b6:Value).ownBlock) rfl rfl ?aP (fun k_ hk_=>((Kd.R_mono (ok':=fun k_=>((fun _=>True)) k_∧some k_≠(u3:Value).ownBlock) (Kd.R_apart' (a6.out) (Kd.S_typed a4.out) (by decide)) (fun k_ hk=>⟨trivial,hk.2⟩))).1 k_ hk_.symm) ?aF ?aO ?aB ?aS ?aL ?_;(case aP=>exact Kd.M_row (Kd.R_mono (Kd.R_tight rfl (Kd.R_mono (ok':=fun k_=>((fun _=>True)) k_∧some k_≠(u3:Value).ownBlock) (Kd.R_apart' (a6.out) (Kd.S_typed a4.out) (by decide)) (fun k_ hk=>⟨trivial,hk.2⟩))) (fun _ h_=>h_)));(case aB=>exact z1f_0);(case aF=>exact (fun _ _=>trivial));(case aO=>exact (by (with_reducible repeat (first|apply Kd.S_alloc|apply Kd.S_drewN|apply Kd.S_drew));exact Kd.S_mono a4.out (fun k_ hk=>⟨trivial,fun e_=>hk e_⟩)));(case aS=>exact (below_size z1f_0));(case aL=>have:=LMc17.out;omega);intro e0 e4 ho hb hg hat;rw [← Ny301.out] at ho;replace HB:=ak (hb);have b7:=ak (ho);clear a4 a6;clear ho hb hg hat))
      go_roundg k2
      case measure=>have:=HK1.out;have:=HK2.out;omega
      case rel=>exact ⟨(y301),(wrap64 (a2+1)),z1f_2,H',⟨(by have:=HK1.out;have:=HK2.out;omega)⟩,⟨(xS b7.out)⟩,⟨z1f_0⟩⟩
   obtain rfl:=Option.some.inj H
   go_wp2
   go_ret
   exact ⟨_,(by first|rfl|(simp [errW_none,errW_some] <;> rfl)|(simp only [← hji5];first|rfl|(simp [errW_none,errW_some] <;> rfl))|(simp [*,errW_none,errW_some] <;> rfl)),(xS a4.out),z1f_0⟩

end Go.Proofs.Ytacifhahfamipaa.P

namespace Go.Proofs.Ytacifhahfamipaa.P
open Go.RowKit Go.Proofs.YtacifhahfamipaaW.PrintWords Go.Proofs.YtacifhahfamipaaW.PrintLast Go.Proofs.YtacifhahfamipaaW.PrintMore
attribute [local go_sem] max2_int min2_int max_two min_two max_three min_three max_four min_four
set_option linter.unusedVariables false
set_option linter.unusedSimpArgs false
def spec_l20Boole.T5:Bool × List (List Nat × List Nat):=(true,[([],[]),([0],[0]),([],[]),([2],[2]),([3],[3]),([],[]),([4,5],[4,5]),([6],[6]),([1,7],[1,7]),([0,1,2,3,4,5,6,7,8],[]),([9,8,8,0,1,2,3,4,5,6,7,8],[8,9])])
def spec_l20Boole.B5:List Nat:=[0,1,0,4,12,0,60,124,255,511,1023]
theorem spec_l20Boole.tab5:rtab .any (opsOf Try.f91 5)=spec_l20Boole.T5:=by kernel_rfl
theorem spec_l20Boole.bits5:waitsOk spec_l20Boole.T5.2 spec_l20Boole.B5=true:=by kernel_rfl
theorem z17_2 {p:Prop} (h:p:=by repeat (first|(with_reducible first|exact HB.out|apply below_alloc|apply pw_below_drewN|apply below_drew1)|exact HB.out)):p:=h
theorem z17_1 {p:Prop} (h:p:=by repeat (first|(with_reducible first|exact HB.out|apply below_alloc|apply pw_below_drewN|apply below_drew1|refine below_set ?_ b9.out)|exact HB.out)):p:=h
theorem z17_0 {p:Prop} (h:p:=by repeat (first|(with_reducible first|exact HB.out|apply below_alloc|apply pw_below_drewN|apply below_drew1|refine below_set ?_ b9.out|refine below_set ?_ d5.out)|exact HB.out)):p:=h
set_option maxHeartbeats 8000000 in
set_option maxRecDepth 100000 in
theorem spec_l20Boole.calls (k:Nat) (a0:Int) (r1:List (List Int)) (r2:List Int) (w:World) (h:spec_l20Boole.f k a0=some (r1,r2)) :
 Calls Try.prog 91 #[.int .i64 a0] w fun e w'=>∃ v0_ v1_:Value,e = .returned (.agg #[v0_,v1_])∧Kd.S (Kd.slice 3 (Kd.int .i64)) 25 w' w.heap.size (fun k_=>some k_≠(v1_:Value).ownBlock) v0_ r1∧Kd.R (Kd.int .i64) 3 w' w.heap.size (fun _=>True) v1_ r2∧Below w.heap.size w w':=by
 have hu27:=Try.underlying27
 have HB:=ak (Below.refl w.heap.size w)
 have H:((spec_l20Sets.f k a0).bind fun a8=>(spec_l20Boole.l0 k a0 0 a8 ([]:List Int)))=some (r1,r2):=h
 clear h
 obtain ⟨a8,A2,H⟩:=bd_ H
 try dsimp only at H
 have H':=ak H
 clear H
 go_enter Try.func91,Try.ntmps91
 go_wp2_with (first|((with_reducible refine gate_dst (N:=2) rfl ?_);refine bx_ (N:=2) (cs:=#[.slice none 0 0,.slice none 0 0]) (t:=27) ?_;intro a7 hg w3 hbox hb;have a4:=ak (hbox);have d9:=ak ((by rw [hg];exact (below_size z17_2):w.heap.size≤a7));have b9:=ak ((by rw [hg];exact (below_size z17_2):w.heap.size≤a7));replace HB:=ak (below_step z17_2 hb);clear hb hbox hg)|((with_reducible refine gate_callee (f:=114) rfl ?_);refine gl_ (some 6) Try.func114 #[.int .i64 a0] ?_;(with_reducible refine (spec_l20Sets.calls k a0 a8 _ A2.out).mono ?_);rintro e w' ⟨e5,rfl,ho0,hb⟩;refine ⟨_,rfl,?_⟩;have b2:=ak (Kd.S_lower ho0 (below_size z17_1));replace a4:=ak (blk_below (g:=a7) (o:=.cells #[.slice none 0 0,.slice none 0 0] 27 (0,0)) (xb a4.out) hb);replace HB:=ak (below_step z17_1 hb);(try clear hb);(try clear hb2);(try clear hk);(try clear hi);(try clear ho0);obtain ⟨b3,b4,e6⟩:=Kd.S_slice b2.out;subst e6)|((with_reducible refine gate_dst (N:=3) rfl ?_);refine bx_ (N:=3) (cs:=#[.slice none 0 0,.slice none 0 0]) (t:=27) ?_;intro a9 hg w6 hbox hb;replace b2:=ak (Kd.S_below (xS b2.out) hb);have a1:=ak (hbox);have e0:=ak ((by rw [hg];exact (below_size z17_1):w.heap.size≤a9));have d5:=ak ((by rw [hg];exact (below_size z17_1):w.heap.size≤a9));replace HB:=ak (below_step z17_1 hb);have a6:=ak ((by rw [hg];exact Nat.ne_of_lt (blk_lt (g:=a7) (o:=.cells #[.slice none 0 0,.slice none 0 0] 27 (0,0)) (xb a4.out)):a7≠a9));have b0:=ak ((by rw [hg];exact Nat.ne_of_gt (blk_lt (g:=a7) (o:=.cells #[.slice none 0 0,.slice none 0 0] 27 (0,0)) (xb a4.out)):a9≠a7));replace a4:=ak (blk_below (g:=a7) (o:=.cells #[.slice none 0 0,.slice none 0 0] 27 (0,0)) (xb a4.out) hb);clear hb hbox hg;have e7:=b0.out;have e8:=a6.out;have b5:=cz20 a1.out;have b6:=cz21 a1.out;have b7:=blk_frozen a1.out 0;have b8:=blk_frozen a1.out 1))
 go_loopg [4] k (fun kq v4 w'=>∃ (b1:Int) (a2:List Int) (u309001:Value),v4 = .int .i64 b1∧Aside0 (spec_l20Boole.l0 kq a0 b1 a8 a2=some (r1,r2))∧Aside0 (kq≤k)∧Aside0 (Kd.S (Kd.slice 3 (Kd.int .i64)) 25 w' w.heap.size (fun k_=>some k_≠(u309001:Value).ownBlock) (.slice b3 a8.length b4) a8)∧Aside0 (Kd.R (Kd.int .i64) 3 w' w.heap.size (fun _=>True) u309001 a2)∧Aside0 (w'.heap[a7]?=some (.cells #[(.slice none 0 0),(.slice none 0 0)] 27 (0,0)))∧Aside0 (w'.heap[a9]?=some (.cells #[(.slice b3 a8.length b4),u309001] 27 (0,0)))∧Aside0 (Below w.heap.size w w'))
 case atStart=>exact ⟨(0),(([]:List Int)),(.slice none 0 0),(by first|rfl|(simp;done)|(simp [*];done)),H',⟨Nat.le_refl _⟩,⟨(by (with_reducible repeat (first|apply Kd.S_alloc|apply Kd.S_drewN|apply Kd.S_drew));exact Kd.S_mono (Kd.S_far (p:=⟨a9,1,none⟩) (Kd.S_far (p:=⟨a9,0,none⟩) (Kd.S_types b2.out a1.out (by decide)) (fun _ hk=>hk.2) (.slice b3 a8.length b4)) (fun _ hk=>hk.2) (.slice none 0 0)) (fun _ hk=>(by simp [Value.ownBlock])))⟩,⟨(by first|exact Kd.R_nil _ _ _ _ _|exact Kd.N_nil _ _ _ _ _|exact Kd.V_nil _ _ _ _ _|exact Kd.Q_nil _ _ _ _ _|exact Kd.S_nil _ _ _ _ _)⟩,⟨(by (with_reducible repeat (first|refine blk_drewN ?_ _|refine blk_drew ?_|refine blk_alloc ?_ _));refine blk_far ?_ a6.out _;(with_reducible repeat (first|refine blk_drewN ?_ _|refine blk_drew ?_|refine blk_alloc ?_ _));refine blk_far ?_ a6.out _;(with_reducible repeat (first|refine blk_drewN ?_ _|refine blk_drew ?_|refine blk_alloc ?_ _));exact a4.out)⟩,⟨(by (with_reducible repeat (first|refine blk_drewN ?_ _|refine blk_drew ?_|refine blk_alloc ?_ _));refine blk_put (cs:=#[.slice b3 a8.length b4,.slice none 0 0]) ?_ 1 _ rfl;(with_reducible repeat (first|refine blk_drewN ?_ _|refine blk_drew ?_|refine blk_alloc ?_ _));refine blk_put (cs:=#[.slice none 0 0,.slice none 0 0]) ?_ 0 _ rfl;(with_reducible repeat (first|refine blk_drewN ?_ _|refine blk_drew ?_|refine blk_alloc ?_ _));exact a1.out)⟩,⟨z17_0⟩⟩
 case round =>
  clear H'
  try clear b5
  try clear b6
  try clear b7
  try clear b8
  obtain ⟨b1,a2,u309001,rfl,HA,HK1,a5,a3,a4,a1,HB⟩:=hrel
  cases gk with
  | zero=>exact absurd HA.out (by simp [spec_l20Boole.l0])
  | succ k1 =>
   have H:=HA.out
   clear HA
   simp only [spec_l20Boole.l0] at H
   replace H:=ok_ H
   obtain ⟨c9,H⟩:=H
   have e9:=eq_true c9
   have f0:decide (0≤a0)=true:=dT_ c9
   clear c9
   obtain ⟨ji10,hji10⟩ : ∃ j_:Int,(shl .i64 1 a0)=j_:=⟨_,rfl⟩
   replace H:(if b1<(ji10) then (if a2.length<17592186044416 then (spec_l20Boole.l0 k1 a0 (wrap64 (b1+1)) a8 (a2 ++ [wrap64 ((wrap64 ((ji10)-1))-b1)])) else (none)) else (some (a8,a2)))=some (r1,r2):=by first|(rw [hji10] at H;exact H)|(simp only [hji10] at H ⊢;exact H)
   have hji10_:(IntKind.i64.wrap (1*2 ^ min a0.toNat 64))=ji10:=hji10
   have hji10z:a0≤64→(IntKind.i64.wrap (1*2 ^ a0.toNat))=ji10:=shl_small hji10
   have hji10u:(IntKind.i64.wrap (2 ^ min a0.toNat 64))=ji10:=by have h_:=hji10_;rw [Int.one_mul] at h_;exact h_
   have hji10v:a0≤64→(IntKind.i64.wrap (2 ^ a0.toNat))=ji10:=fun hle_=>by have h_:=hji10z hle_;rw [Int.one_mul] at h_;exact h_
   have hji10y:(wrap64 (1*2 ^ min a0.toNat 64))=ji10:=(i64_w _).symm.trans hji10_
   have hji10x:a0≤64→(wrap64 (1*2 ^ a0.toNat))=ji10:=fun h_=>(i64_w _).symm.trans (hji10z h_)
   replace H:=os_ H
   rcases H with ⟨d6,H⟩|⟨d6,H⟩
   ·
    have e1:=eq_true (oa_:0≤a0)
    replace H:=ok_ H
    obtain ⟨e2,H⟩:=H
    have LMc14:=ak e2
    clear e2
    obtain ⟨y309,hy309⟩ : ∃ y_:List Int,y_=(a2 ++ [wrap64 ((wrap64 ((ji10)-1))-b1)]):=⟨_,rfl⟩
    replace H:(spec_l20Boole.l0 k1 a0 (wrap64 (b1+1)) a8 y309)=some (r1,r2):=by first|(rw [hy309];with_reducible exact H)|(have H2_:=(Option.bind_some _ _).symm.trans H;rw [hy309];with_reducible exact H2_)|(have H2_:=(Option.bind_some _ _).symm.trans H;with_reducible exact H2_)|with_reducible exact H|(rw [hy309];exact H)|exact H
    have Ny309:=ak hy309
    clear hy309
    have H':=ak H
    clear H
    try go_wp2
    replace a5:=ak (Kd.S_drew a5.out)
    replace a3:=ak (Kd.R_drew a3.out)
    replace a4:=ak (blk_drew a4.out)
    replace a1:=ak (blk_drew a1.out)
    replace HB:=ak (below_drew1 HB.out)
    refine start_ (n:=11) (S:=fun w'=>w'.cell? ⟨a9,0,none⟩=some (.slice b3 a8.length b4)∧w'.cell? ⟨a9,1,none⟩=some (u309001)) (ds:=[10]) (bA 11 0) (by kernel_rfl) rfl rfl ⟨(blk_cell a1.out 0).trans rfl,(blk_cell a1.out 1).trans rfl⟩ (fun hHeld=>?_);refine with_tabW spec_l20Boole.tab5 spec_l20Boole.bits5 (fun HT_ HW_=>?_)
    generalize wr.drew=f2 at a5 a3 a4 a1 HB hHeld ⊢
    refine pu_ (i:=0) (N:=some 14) (bA 11 1) ?_
    refine pu_ (i:=2) (N:=some 16) (bA 11 5) ?_
    refine pu_ (i:=3) (N:=some 17) (bA 11 13) ?_
    refine pu_ (i:=4) (N:=some 18) (bA 11 29) ?_
    refine pu_ (i:=5) (N:=some 19) (bA 11 61) ?_
    refine pu_ (i:=6) (N:=some 20) (bA 11 125) ?_
    refine tk_ (i:=1) (N:=some 15) (bA 11 127) ?_
    refine one_ (i:=7) (N:=some 21) (bA 11 255) rfl rfl (one_of HT_.out (by kernel_rfl)) (by decide) (fun K hK=>?_)
    refine value_ (w1:=?_) (v:=?_) (by rfl) rfl ?_ ?_
    rotate_left 2
    ·
     go_simp
     constructor
     ·
      rfl
     rfl
    refine hK.out _ _ ⟨(blk_cell (blk_alloc a1.out _) 0).trans rfl,(blk_cell (blk_alloc a1.out _) 1).trans rfl⟩ (fun hHeld=>?_)
    clear hK K
    refine no_ (N:=some 21) ?_
    refine one_ (i:=8) (N:=some 22) (bA 11 511) rfl rfl (one_of HT_.out (by kernel_rfl)) (by decide) (fun K hK=>?_)
    refine Kd.R_append_step (Kd.int .i64) (w0:=w) w.heap.size (by rfl) (.tmp 15) (.tmp 21) 25 3 (.int .i64 0) 8 rfl Try.underlying25 info3 rfl (by decide) (by omega) u309001 a2 (wrap64 ((wrap64 ((ji10)-1))-b1)) [.int .i64 (wrap64 ((wrap64 ((ji10)-1))-b1))] (fun _=>True) (fun _=>False) rfl rfl ?aP (fun _ hk=>hk.elim) ?aF ?aO ?aB ?aS ?aL ?_
    (case aP=>exact rfl)
    (case aB=>exact z17_0)
    (case aF=>exact (fun _ _=>trivial))
    (case aO=>exact (xR a3.out))
    (case aS=>exact (below_size z17_0))
    (case aL=>have:=LMc14.out;omega)
    intro f1 f3 ho hb hg hat
    rw [← Ny309.out] at ho
    replace a5:=ak (Kd.S_after (ok:=(fun _=>True)) (by (with_reducible repeat (first|apply Kd.S_alloc|apply Kd.S_drewN|apply Kd.S_drew));exact Kd.S_mono a5.out (fun _ hk=>⟨trivial,hk⟩)) hg hat)
    replace a4:=ak (blk_grown (g:=a7) (o:=.cells #[.slice none 0 0,.slice none 0 0] 27 (0,0)) (xb a4.out) hg (Kd.R_ne a3.out a4.out (by decide)))
    replace a1:=ak (blk_grown (g:=a9) (o:=.cells #[.slice b3 a8.length b4,u309001] 27 (0,0)) (xb a1.out) hg (Kd.R_ne a3.out a1.out (by decide)))
    replace HB:=ak (hb)
    have d0:=ak (ho)
    clear a3 ho hb hg hat
    obtain ⟨d1,d2,d7⟩:=Kd.R_slice d0.out
    (first|subst d7|(injection d7 with f1_ f2_ f3_;have f4_:=f1_.symm;have f5_:=f3_.symm;clear f1_ f2_ f3_;subst f4_;subst f5_))
    refine hK.out _ _ ⟨(blk_cell a1.out 0).trans rfl,(blk_cell a1.out 1).trans rfl⟩ (fun hHeld=>?_)
    clear hK K
    refine no_ (N:=some 22) ?_
    refine pu_ (i:=9) (N:=some 23) (bA 11 1023) ?_
    refine last_ (i:=10) (N:=none) (bA 11 2047) rfl rfl (one_of HT_.out (by kernel_rfl)) (by decide) (fun K hK=>?_)
    have hs18:_:=cz21 a1.out
    have hfs18:=blk_frozen a1.out 1
    have hns18_0:=a6.out
    have hms18_0:=b0.out
    refine skip_ (w1:=?_) (by rfl) rfl ?_ ?_
    rotate_left
    ·
     go_simp
     rfl
    refine hK.out _ _ ?_
    clear hK K
    refine done_ (done_of HT_.out (by kernel_rfl)) ?_
    try go_wp2
    go_roundg k1
    case measure=>have:=HK1.out;omega
    case rel=>exact ⟨(wrap64 (b1+1)),(y309),(.slice d1 y309.length d2),(by first|rfl|(simp;done)|(simp [*];done)),H',⟨(by have:=HK1.out;omega)⟩,⟨(by (with_reducible repeat (first|apply Kd.S_alloc|apply Kd.S_drewN|apply Kd.S_drew));exact Kd.S_mono (Kd.S_far (p:=⟨a9,1,none⟩) (Kd.S_types a5.out a1.out (by decide)) (fun _ hk=>hk.2) (.slice d1 y309.length d2)) (fun _ hk=>hk.1.2))⟩,⟨(by (with_reducible repeat (first|apply Kd.R_alloc|apply Kd.R_drewN|apply Kd.R_drew));exact Kd.R_mono (Kd.R_far (p:=⟨a9,1,none⟩) (Kd.R_types d0.out a1.out (by decide)) (fun _ hk=>hk.2) (.slice d1 y309.length d2)) (fun _ hk=>trivial))⟩,⟨(by (with_reducible repeat (first|refine blk_drewN ?_ _|refine blk_drew ?_|refine blk_alloc ?_ _));refine blk_far ?_ a6.out _;(with_reducible repeat (first|refine blk_drewN ?_ _|refine blk_drew ?_|refine blk_alloc ?_ _));exact a4.out)⟩,⟨(by (with_reducible repeat (first|refine blk_drewN ?_ _|refine blk_drew ?_|refine blk_alloc ?_ _));refine blk_put (cs:=#[.slice b3 a8.length b4,u309001]) ?_ 1 _ rfl;(with_reducible repeat (first|refine blk_drewN ?_ _|refine blk_drew ?_|refine blk_alloc ?_ _));exact a1.out)⟩,⟨z17_0⟩⟩
   simp only [Option.some.injEq,Prod.mk.injEq] at H
   obtain ⟨rfl,rfl⟩:=H
   have e3:=b0.out
   have e4:=a6.out
   have b5:=cz20 a1.out
   have b6:=cz21 a1.out
   have b7:=blk_frozen a1.out 0
   have b8:=blk_frozen a1.out 1
   have b5:=cz20 a4.out
   have b6:=cz21 a4.out
   have b7:=blk_frozen a4.out 0
   have b8:=blk_frozen a4.out 1
   obtain ⟨d3,d4,d8⟩:=Kd.R_slice a3.out
   subst d8
   go_wp2
   refine bodyPost_ret (results_cell_row rfl _ _ a7 27 #[.slice b3 a8.length b4,.slice d3 a2.length d4] (0,0) _ rfl (by (with_reducible repeat (first|refine blk_drewN ?_ _|refine blk_drew ?_|refine blk_alloc ?_ _));refine blk_put (cs:=#[.slice b3 a8.length b4,.slice none 0 0]) ?_ 1 _ rfl;(with_reducible repeat (first|refine blk_drewN ?_ _|refine blk_drew ?_|refine blk_alloc ?_ _));refine blk_put (cs:=#[.slice none 0 0,.slice none 0 0]) ?_ 0 _ rfl;(with_reducible repeat (first|refine blk_drewN ?_ _|refine blk_drew ?_|refine blk_alloc ?_ _));exact a4.out) Try.underlying27 rfl (by kernel_rfl)) rfl ?_
   exact ⟨_,_,(by first|rfl|(simp [errW_none,errW_some] <;> rfl)|(simp only [← hji10];first|rfl|(simp [errW_none,errW_some] <;> rfl))|(simp [*,errW_none,errW_some] <;> rfl)),(by (with_reducible repeat (first|apply Kd.S_alloc|apply Kd.S_drewN|apply Kd.S_drew));exact Kd.S_mono (Kd.S_far (p:=⟨a7,1,none⟩) (Kd.S_far (p:=⟨a7,0,none⟩) (Kd.S_types a5.out a4.out (by decide)) (fun _ hk=>hk.2) (.slice b3 a8.length b4)) (fun _ hk=>hk.2) (.slice d3 a2.length d4)) (fun _ hk=>hk.1)),(by (with_reducible repeat (first|apply Kd.R_alloc|apply Kd.R_drewN|apply Kd.R_drew));exact Kd.R_mono (Kd.R_far (p:=⟨a7,1,none⟩) (Kd.R_far (p:=⟨a7,0,none⟩) (Kd.R_types a3.out a4.out (by decide)) (fun _ hk=>hk.2) (.slice b3 a8.length b4)) (fun _ hk=>hk.2) (.slice d3 a2.length d4)) (fun _ hk=>trivial)),z17_0⟩

end Go.Proofs.Ytacifhahfamipaa.P
