/- 20 texts of this seat joined: walks, and the laws of what they compute. -/
import Derived.Test.YtacifhahfamipaaPk2
import Derived.Test.YtacifhahfamipaaPk4
import Derived.Test.YtacifhahfamipaaPk5
import Derived.Lib.Hide
import Derived.Deep.AppendLies
import Derived.Deep.RegionHeldLaw
import Derived.Maps.Own
import Derived.Maps.OwnSet
import Derived.Maps.OwnOps
import Derived.Maps.Views
import Derived.Carry
import Derived.Deep.RegionWith
import Derived.Shelf.Abstract
import Derived.LaidEqlPtr
namespace Go.Proofs.Ytacifhahfamipaa.P
open Go.RowKit Go.Proofs.YtacifhahfamipaaW.PrintWords Go.Proofs.YtacifhahfamipaaW.PrintLast Go.Proofs.YtacifhahfamipaaW.PrintMore
set_option linter.unusedVariables false
set_option linter.unusedSimpArgs false
def ints (xs:List Int):List Value:=xs.map fun n=>.int .i64 n
theorem R_blk {W:World} {g base:Nat} {xs:List Int} (h:W.heap[g]?=some (.cells (ints xs).toArray 3 (0,0))) (hb:base≤g) (hm:xs.length≤maxLen) :
 Kd.R (Kd.int .i64) 3 W base (fun k=>k=g) (.slice (some ⟨g,0,none⟩) xs.length xs.length) xs:=by
 have hl:(ints xs).length=xs.length:=by simp [ints]
 refine ⟨fun k hk=>?_,ints xs,⟨?_,.inr ⟨g,xs.length,_,rfl,hb,h,Nat.le_refl _,hm,?_,?_⟩⟩,?_,fun j p hj=>?_⟩
 ·
  simpa [Value.ownBlock] using hk.symm
 ·
  show (ints xs).length=xs.length*1
  omega
 ·
  show (ints xs).toArray.size=xs.length*1
  simp [hl]
 ·
  show ((ints xs).toArray.toList).take (xs.length*1)=ints xs
  exact List.take_of_length_le (by simp [hl])
 ·
  show (ints xs).length=xs.length*1
  omega
 show ((ints xs).drop (j*1)).take 1 = [.int .i64 p]
 have hj2:(ints xs)[j]?=some (.int .i64 p):=by simp [ints,hj]
 rw [Nat.mul_one]
 obtain ⟨hlt,e⟩:=List.getElem?_eq_some_iff.1 hj2
 rw [List.drop_eq_getElem_cons hlt,e]
 rfl
def rowsAt (b:Nat) (u:List (List Int)):List Value:=u.zipIdx.map fun p=>.slice (some ⟨b+p.2,0,none⟩) p.1.length p.1.length
theorem S_blk {W:World} {g b base:Nat} {u:List (List Int)} (h:W.heap[g]?=some (.cells (rowsAt b u).toArray 25 (0,0))) (hb:base≤b) (hg:base≤g) (hm:u.length≤maxLen) (hne : ∀ j,j<u.length→b+j≠g)
 (hr : ∀ j x,u[j]?=some x→W.heap[b+j]?=some (.cells (ints x).toArray 3 (0,0))∧x.length≤maxLen) :
 Kd.S (Kd.slice 3 (Kd.int .i64)) 25 W base (fun k=>k=g∨(b≤k∧k<b+u.length)) (.slice (some ⟨g,0,none⟩) u.length u.length) u:=by
 have hl:(rowsAt b u).length=u.length:=by simp [rowsAt]
 have hat : ∀ j x,u[j]?=some x→((rowsAt b u).drop (j*1)).take 1 = [.slice (some ⟨b+j,0,none⟩) x.length x.length]:=by
  intro j x hj
  have hj2:(rowsAt b u)[j]?=some (.slice (some ⟨b+j,0,none⟩) x.length x.length):=by simp [rowsAt,hj]
  obtain ⟨hlt,e⟩:=List.getElem?_eq_some_iff.1 hj2
  rw [Nat.mul_one,List.drop_eq_getElem_cons hlt,e]
  rfl
 obtain ⟨f,hf⟩:=Kd.reps_tag (d:=Kd.slice 3 (Kd.int .i64)) (w:=W) (base:=base) (ok:=fun k=>(k=g∨(b≤k∧k<b+u.length))∧some k≠(Value.slice (some ⟨g,0,none⟩) u.length u.length).ownBlock) (xs:=u) (inner:=rowsAt b u) (fun j k=>k=b+j∧j<u.length)
  (fun i j k hi hj=>by omega) (fun j k hk=>⟨.inr ⟨(by omega),(by omega)⟩,(by have:=hne j hk.2;simp [Value.ownBlock];omega)⟩) (by show _=u.length*1;omega)
  (fun j x hj=>by
   have q:=hr j x hj
   have hlt:j<u.length:=(List.getElem?_eq_some_iff.1 hj).1
   rw [show (Kd.slice 3 (Kd.int .i64)).sz=1 from rfl,hat j x hj]
   exact ⟨_,rfl,Kd.R_mono (R_blk q.1 (by omega) q.2) (fun k hk=>⟨hk,hlt⟩)⟩)
 refine ⟨f,fun k hk=>.inl (by simpa [Value.ownBlock] using hk.symm),rowsAt b u,?_,hf⟩
 rw [List.length_zipIdx]
 refine ⟨?_,.inr ⟨g,u.length,_,rfl,hg,h,Nat.le_refl _,hm,?_,?_⟩⟩
 ·
  show (rowsAt b u).length=u.length*1
  omega
 ·
  show (rowsAt b u).toArray.size=u.length*1
  simp [hl]
 show ((rowsAt b u).toArray.toList).take (u.length*1)=rowsAt b u
 exact List.take_of_length_le (by simp [hl])
theorem allocs_below : ∀ (xs:List Obj) (w:World),Below w.heap.size w (xs.foldl World.alloc w)
 | [],w=>Below.refl _ _
 | x::xs,w=>below_step (below_alloc (Below.refl _ _) x) (allocs_below xs (w.alloc x))
theorem allocs_at : ∀ (xs:List Obj) (w:World) (i:Nat) (cs:Array Value) (t:Nat),xs[i]?=some (.cells cs t (0,0))→(xs.foldl World.alloc w).heap[w.heap.size+i]?=some (.cells cs t (0,0))
 | [],w,i,cs,t,h=>by simp at h
 | x::xs,w,0,cs,t,h=>by
  have e:x = .cells cs t (0,0):=by simpa using h
  subst e
  exact blk_below (blk_new w _) (allocs_below xs _)
 | x::xs,w,i+1,cs,t,h=>by
  have q:=allocs_at xs (w.alloc x) i cs t (by simpa using h)
  have e:(w.alloc x).heap.size=w.heap.size+1:=by simp
  rw [e,Nat.add_assoc,Nat.add_comm 1 i] at q
  exact q
set_option maxHeartbeats 8000000 in
set_option maxRecDepth 100000 in
theorem six_calls (w:World) :
 Calls Try.prog 109 #[] w fun e w'=>∃ v0_ v1_:Value,e = .returned (.agg #[v0_,v1_])∧Kd.S (Kd.slice 3 (Kd.int .i64)) 25 w' w.heap.size (fun k_=>some k_≠(v1_:Value).ownBlock) v0_ sixU∧Kd.R (Kd.int .i64) 3 w' w.heap.size (fun _=>True) v1_ sixN∧Below w.heap.size w w':=by
 have hul:=Try.underlying27
 go_enter Try.func109,Try.ntmps109
 go_wp2
 obtain ⟨W,hW⟩ : ∃ W,W = [Obj.cells #[.slice (some ⟨w.heap.size+7,0,none⟩) 6 6,.slice (some ⟨w.heap.size+8,0,none⟩) 6 6] 27,.cells (ints [1,1,1,1,1,1]).toArray 3,.cells (ints [0,1,1,0,0,1]).toArray 3,.cells (ints [0,0,1,0,0,1]).toArray 3,.cells (ints [0,0,0,1,1,1]).toArray 3,.cells (ints [0,0,0,0,1,1]).toArray 3,.cells (ints [0,0,0,0,0,1]).toArray 3,.cells (rowsAt (w.heap.size+1) sixU).toArray 25,.cells (ints sixN).toArray 3].foldl World.alloc w:=⟨_,rfl⟩
 have HB:Below w.heap.size w W:=by rw [hW];exact allocs_below _ _
 have HA : ∀ i cs t,_→W.heap[w.heap.size+i]?=some (.cells cs t (0,0)):=fun i cs t h=>by rw [hW];exact allocs_at _ w i cs t h
 show bodyPost _ _ _ _ _ ([Obj.cells #[.slice (some ⟨w.heap.size+7,0,none⟩) 6 6,.slice (some ⟨w.heap.size+8,0,none⟩) 6 6] 27,.cells (ints [1,1,1,1,1,1]).toArray 3,.cells (ints [0,1,1,0,0,1]).toArray 3,.cells (ints [0,0,1,0,0,1]).toArray 3,.cells (ints [0,0,0,1,1,1]).toArray 3,.cells (ints [0,0,0,0,1,1]).toArray 3,.cells (ints [0,0,0,0,0,1]).toArray 3,.cells (rowsAt (w.heap.size+1) sixU).toArray 25,.cells (ints sixN).toArray 3].foldl World.alloc w)
 rw [← hW]
 clear hW
 refine bodyPost_ret (results_cell_row rfl _ _ w.heap.size 27 #[.slice (some ⟨w.heap.size+7,0,none⟩) 6 6,.slice (some ⟨w.heap.size+8,0,none⟩) 6 6] (0,0) _ rfl (HA 0 _ _ rfl) hul rfl (by kernel_rfl)) rfl ?_
 refine ⟨_,_,rfl,Kd.S_mono (S_blk (g:=w.heap.size+7) (b:=w.heap.size+1) (u:=sixU) (HA 7 _ _ rfl) (by omega) (by omega) (by decide) (fun j hj=>by simp [sixU] at hj;omega) ?_) ?_,Kd.R_mono (R_blk (g:=w.heap.size+8) (xs:=sixN) (HA 8 _ _ rfl) (by omega) (by decide)) (fun _ _=>trivial),HB⟩
 ·
  intro j x hj
  have hlt:j<6:=(List.getElem?_eq_some_iff.1 hj).1
  rcases j with _|_|_|_|_|_|j
  all_goals first|omega|skip
  all_goals
   obtain rfl:=(Option.some.inj hj)
   exact ⟨HA _ _ _ rfl,(by decide)⟩
 intro k hk
 simp [Value.ownBlock,sixU] at hk ⊢
 omega
end Go.Proofs.Ytacifhahfamipaa.P

namespace Go.Proofs.Ytacifhahfamipaa.P
open Go.RowKit Go.Proofs.YtacifhahfamipaaW.PrintWords Go.Proofs.YtacifhahfamipaaW.PrintLast Go.Proofs.YtacifhahfamipaaW.PrintMore Go.Proofs.Cl
set_option linter.unusedVariables false
theorem spec_l20Six.calls  (r1:List (List Int)) (r2:List Int) (w:World) (h:spec_l20Six.f  = some (r1,r2)) :
    Calls Try.prog 109 #[] w fun e w'=>∃ v0_ v1_:Value,e = .returned (.agg #[v0_,v1_])∧Kd.S (Kd.slice 3 (Kd.int .i64)) 25 w' w.heap.size (fun k_=>some k_≠(v1_:Value).ownBlock) v0_ r1∧Kd.R (Kd.int .i64) 3 w' w.heap.size (fun _=>True) v1_ r2∧Below w.heap.size w w':=by
  obtain ⟨e1,e2⟩:=Prod.mk.inj (Option.some.inj h)
  subst e1
  subst e2
  exact six_calls w
end Go.Proofs.Ytacifhahfamipaa.P

namespace Go.Proofs.Ytacifhahfamipaa.P
open Go.RowKit Go.Proofs.YtacifhahfamipaaW.PrintWords Go.Proofs.YtacifhahfamipaaW.PrintLast Go.Proofs.YtacifhahfamipaaW.PrintMore
set_option linter.unusedVariables false
set_option linter.unusedSimpArgs false

def AlgAt (w:World) (g:Nat) (u a o:List (List Int)) (nt:List Int) (no yes:Int):Prop :=
 ∃ Au cu Aa ca Ao co An cn,w.heap[g]?=some (.cells #[.slice Au u.length cu,.slice Aa a.length ca,.slice Ao o.length co,.slice An nt.length cn,.int .i64 no,.int .i64 yes] 69 (0,0)) ∧
  Kd.C (Kd.slice 3 (Kd.int .i64)) w Au u.length u∧u.length≤cu∧Kd.C (Kd.slice 3 (Kd.int .i64)) w Aa a.length a∧a.length≤ca∧Kd.C (Kd.slice 3 (Kd.int .i64)) w Ao o.length o∧o.length≤co∧Kd.C (Kd.int .i64) w An nt.length nt∧nt.length≤cn
theorem AlgAt.drewN {w:World} {g:Nat} {u a o:List (List Int)} {nt:List Int} {no yes:Int} (h:AlgAt w g u a o nt no yes) (n:Nat):AlgAt (w.drewN n) g u a o nt no yes:=by
 obtain ⟨Au,cu,Aa,ca,Ao,co,An,cn,h0,h1,h2,h3,h4,h5,h6,h7,h8⟩:=h
 have hb:Below w.heap.size w (w.drewN n):=pw_below_drewN (Below.refl _ _) n
 exact ⟨Au,cu,Aa,ca,Ao,co,An,cn,h0,Kd.C_below h1 hb,h2,Kd.C_below h3 hb,h4,Kd.C_below h5 hb,h6,Kd.C_below h7 hb,h8⟩
theorem AlgAt.below {w w1:World} {g:Nat} {u a o:List (List Int)} {nt:List Int} {no yes:Int} (h:AlgAt w g u a o nt no yes) (hb:Below w.heap.size w w1):AlgAt w1 g u a o nt no yes:=by
 obtain ⟨Au,cu,Aa,ca,Ao,co,An,cn,h0,h1,h2,h3,h4,h5,h6,h7,h8⟩:=h
 have hg:g<w.heap.size:=(Array.getElem?_eq_some_iff.1 h0).1
 exact ⟨Au,cu,Aa,ca,Ao,co,An,cn,(hb.block g hg).trans h0,Kd.C_below h1 hb,h2,Kd.C_below h3 hb,h4,Kd.C_below h5 hb,h6,Kd.C_below h7 hb,h8⟩
end Go.Proofs.Ytacifhahfamipaa.P

namespace Go.Proofs.Ytacifhahfamipaa.P
open Go.RowKit Go.Proofs.YtacifhahfamipaaW.PrintWords Go.Proofs.YtacifhahfamipaaW.PrintLast Go.Proofs.YtacifhahfamipaaW.PrintMore Go.Proofs.Cl
set_option linter.unusedVariables false
set_option linter.unusedSimpArgs false
set_option maxHeartbeats 4000000 in
set_option maxRecDepth 100000 in
theorem told_nolat (Au:Option Addr) (cu:Nat) (u:List (List Int)) (An:Option Addr) (cn:Nat) (nt:List Int) (w:World)
    (hu:Kd.C (Kd.slice 3 (Kd.int .i64)) w Au u.length u) (hcu:u.length≤cu) (h : ¬Lat u) :
    Calls Try.prog 68 #[.agg #[.slice Au u.length cu,.slice An nt.length cn]] w fun e w'=>e = .returned (.pointer none)∧Below w.heap.size w w':=by
  have HU:=Aside0.mk hu
  have HC:=Aside0.mk hcu
  clear hu hcu
  have HB:=Aside0.mk (Below.refl w.heap.size w)
  obtain ⟨kk,hk⟩:=Q.impl_lat_ev u
  have HL:Aside0 (impl_LatticeOk.f kk u=some false):=⟨by rw [← decide_eq_false h];exact hk kk (Nat.le_refl _)⟩
  clear hk
  go_enter Try.func68,Try.ntmps68
  go_wp2_with (first
    | ((with_reducible refine gate_dst (N:=1) rfl ?_);refine box_event ?hg (N:=1) ?hd (cs:=#[.slice Au u.length cu,.slice An nt.length cn]) (t:=27) ?hr ?_;(case hd=>rfl);(case hg=>rfl);(case hr=>first|(go_simp;done)|(go_simp;rfl));intro gb hg w4 hbox hb;have hc0:w4.cell? ⟨gb,0,none⟩=some (.slice Au u.length cu):=(blk_cell hbox 0).trans rfl;have hc1:w4.cell? ⟨gb,1,none⟩=some (.slice An nt.length cn):=(blk_cell hbox 1).trans rfl;have HB4:=Aside0.mk hb;have HX:=Aside0.mk hbox;have HG:=Aside0.mk hg;clear hb hg hbox)
    | (go_at_call 104;refine (impl_LatticeOk.calls kk _ _ u false _ (by repeat (first|exact (Kd.C_below HU.out HB4.out)|(with_reducible refine Kd.C_alloc ?_ _)|(with_reducible refine Kd.C_drewN ?_ _)|(with_reducible refine Kd.C_drew ?_))) HC.out HL.out).mono ?_;rintro e w2 ⟨rfl,hD⟩;have HB5:=Aside0.mk (below_step HB4.out hD);clear hD))
  go_ret
  exact ⟨rfl,(by repeat (first|(with_reducible first|exact HB5.out|apply below_alloc|apply pw_below_drewN|apply below_drew1)|exact HB5.out))⟩

structure Grow (w W:World) (gb g:Nat) (LU LN ca co va vo vv:Value) (tu a o:List (List Int)) (no yes:Int):Prop where
 below:Below w.heap.size w W
 ne:gb≠g
 geb:w.heap.size≤gb
 geg:w.heap.size≤g
 box:W.heap[gb]?=some (.cells #[LU,LN] 27 (0,0))
 alg:W.heap[g]?=some (.cells #[LU,ca,co,LN,.int .i64 no,.int .i64 yes] 69 (0,0))
 A:Kd.R (Kd.slice 3 (Kd.int .i64)) 25 W w.heap.size (fun k=>some k≠vo.ownBlock) va a
 O:Kd.R (Kd.slice 3 (Kd.int .i64)) 25 W w.heap.size (fun k=>some k≠va.ownBlock) vo o
 V:Kd.R (Kd.slice 3 (Kd.int .i64)) 25 W w.heap.size (fun k=>some k≠va.ownBlock∧some k≠vo.ownBlock) vv tu

namespace Grow
variable {w W w1:World} {gb g:Nat} {LU LN ca co va vo vv:Value} {tu a o:List (List Int)} {no yes:Int}
theorem up (G:Grow w W gb g LU LN ca co va vo vv tu a o no yes) (h:Below W.heap.size W w1):Grow w w1 gb g LU LN ca co va vo vv tu a o no yes :=
 ⟨below_step G.below h,G.ne,G.geb,G.geg,blk_below G.box h,blk_below G.alg h,Kd.R_below G.A h,Kd.R_below G.O h,Kd.R_below G.V h⟩
theorem alloc (G:Grow w W gb g LU LN ca co va vo vv tu a o no yes) (x:Obj):Grow w (W.alloc x) gb g LU LN ca co va vo vv tu a o no yes:=G.up (below_alloc (Below.refl _ _) x)
theorem drewN (G:Grow w W gb g LU LN ca co va vo vv tu a o no yes) (n:Nat):Grow w (W.drewN n) gb g LU LN ca co va vo vv tu a o no yes:=G.up (pw_below_drewN (Below.refl _ _) n)
theorem drew (G:Grow w W gb g LU LN ca co va vo vv tu a o no yes):Grow w W.drew gb g LU LN ca co va vo vv tu a o no yes:=G.up (below_drew (Below.refl _ _))
theorem neA (G:Grow w W gb g LU LN ca co va vo vv tu a o no yes):some g≠va.ownBlock:=Kd.R_ne G.A G.alg (by decide)
theorem neO (G:Grow w W gb g LU LN ca co va vo vv tu a o no yes):some g≠vo.ownBlock:=Kd.R_ne G.O G.alg (by decide)
theorem setA (G:Grow w W gb g LU LN ca co va vo vv tu a o no yes):Grow w (W.setCell ⟨g,1,none⟩ va) gb g LU LN va co va vo vv tu a o no yes :=
 ⟨below_set G.below G.geg,G.ne,G.geb,G.geg,blk_far G.box G.ne _,blk_put G.alg 1 _ rfl,Kd.R_set G.A G.alg (by decide) 1 _,Kd.R_set G.O G.alg (by decide) 1 _,Kd.R_set G.V G.alg (by decide) 1 _⟩
theorem setO (G:Grow w W gb g LU LN ca co va vo vv tu a o no yes):Grow w (W.setCell ⟨g,2,none⟩ vo) gb g LU LN ca vo va vo vv tu a o no yes :=
 ⟨below_set G.below G.geg,G.ne,G.geb,G.geg,blk_far G.box G.ne _,blk_put G.alg 2 _ rfl,Kd.R_set G.A G.alg (by decide) 2 _,Kd.R_set G.O G.alg (by decide) 2 _,Kd.R_set G.V G.alg (by decide) 2 _⟩
theorem setNo (G:Grow w W gb g LU LN ca co va vo vv tu a o no yes) (x:Int):Grow w (W.setCell ⟨g,4,none⟩ (.int .i64 x)) gb g LU LN ca co va vo vv tu a o x yes :=
 ⟨below_set G.below G.geg,G.ne,G.geb,G.geg,blk_far G.box G.ne _,blk_put G.alg 4 _ rfl,Kd.R_set G.A G.alg (by decide) 4 _,Kd.R_set G.O G.alg (by decide) 4 _,Kd.R_set G.V G.alg (by decide) 4 _⟩
theorem setYes (G:Grow w W gb g LU LN ca co va vo vv tu a o no yes) (x:Int):Grow w (W.setCell ⟨g,5,none⟩ (.int .i64 x)) gb g LU LN ca co va vo vv tu a o no x :=
 ⟨below_set G.below G.geg,G.ne,G.geb,G.geg,blk_far G.box G.ne _,blk_put G.alg 5 _ rfl,Kd.R_set G.A G.alg (by decide) 5 _,Kd.R_set G.O G.alg (by decide) 5 _,Kd.R_set G.V G.alg (by decide) 5 _⟩
theorem grownA {va1:Value} {row:List Int} (G:Grow w W gb g LU LN ca co va vo vv tu a o no yes)
    (hR:Kd.R (Kd.slice 3 (Kd.int .i64)) 25 w1 w.heap.size (fun k=>some k≠vo.ownBlock) va1 (a ++ [row])) (hB:Below w.heap.size w w1)
    (hg:W.grownBy w1 va.ownBlock) (hat:va1.ownBlock=va.ownBlock∨∃ b,va1.ownBlock=some b∧W.heap.size≤b):Grow w w1 gb g LU LN ca co va1 vo vv tu (a ++ [row]) o no yes :=
  ⟨hB,G.ne,G.geb,G.geg,blk_grown G.box hg (Kd.R_ne G.A G.box (by decide)),blk_grown G.alg hg G.neA,hR,
    Kd.R_mono (Kd.R_after (ok:=fun _=>True) (Kd.R_mono G.O (fun _ hk=>⟨trivial,hk⟩)) hg hat) (fun _ hk=>hk.2),
    Kd.R_mono (Kd.R_after (ok:=fun k=>some k≠vo.ownBlock) (Kd.R_mono G.V (fun _ hk=>⟨hk.2,hk.1⟩)) hg hat) (fun _ hk=>⟨hk.2,hk.1⟩)⟩
theorem grownO {vo1:Value} {row:List Int} (G:Grow w W gb g LU LN ca co va vo vv tu a o no yes)
    (hR:Kd.R (Kd.slice 3 (Kd.int .i64)) 25 w1 w.heap.size (fun k=>some k≠va.ownBlock) vo1 (o ++ [row])) (hB:Below w.heap.size w w1)
    (hg:W.grownBy w1 vo.ownBlock) (hat:vo1.ownBlock=vo.ownBlock∨∃ b,vo1.ownBlock=some b∧W.heap.size≤b):Grow w w1 gb g LU LN ca co va vo1 vv tu a (o ++ [row]) no yes :=
  ⟨hB,G.ne,G.geb,G.geg,blk_grown G.box hg (Kd.R_ne G.O G.box (by decide)),blk_grown G.alg hg G.neO,
    Kd.R_mono (Kd.R_after (ok:=fun _=>True) (Kd.R_mono G.A (fun _ hk=>⟨trivial,hk⟩)) hg hat) (fun _ hk=>hk.2),hR,
    Kd.R_after (ok:=fun k=>some k≠va.ownBlock) G.V hg hat⟩
end Grow

theorem step_append_row {P:Program} {ops:Array Oper} {op:Oper} {act:Act} {K:Act→World→Prop} {Q:Exit→Act→World→Prop} {E:Prop} {w W:World} {v x0:Value} {a:List (List Int)} {row:List Int} {B b':Nat} {ok okx:Nat→Prop}
    (hgd:op.guard=none) (s x:Operand) (ho:op.op = .call { callee:=.builtin .append,args:=#[s,x],argTypes:=#[24,24] })
    (ht:P.underlying 24=some (.slice 25)) (hinfo:(P.info? 25).map (fun i=>(i.zero,i.size,i.bytes))=some (some (.slice none 0 0),1,24))
    (hA:Kd.R (Kd.slice 3 (Kd.int .i64)) 25 W w.heap.size ok v a) (hfresh : ∀ k,W.heap.size≤k→ok k)
    (hX:Kd.R (Kd.int .i64) 3 W b' okx x0 row) (hb':w.heap.size≤b') (hok : ∀ k,x0.ownBlock=some k→ok k)
    (hB:W.heap[B]?=some (.cells #[x0] 25 (0,0))) (hbel:Below w.heap.size w W) (hl:a.length≤1000000)
    (hs:act.eval s=v) (hx:act.eval x = .slice (some ⟨B,0,none⟩) 1 1)
    (h : ∀ v1 w1,Kd.R (Kd.slice 3 (Kd.int .i64)) 25 w1 w.heap.size ok v1 (a ++ [row])→Below w.heap.size w w1→W.grownBy w1 v.ownBlock→(v1.ownBlock=v.ownBlock∨∃ b,v1.ownBlock=some b∧W.heap.size≤b)→K (act.put op.dst v1) w1) :
    if Region.wanted op (yielded ops act.tmps)=true then Oper.wp P op act W K Q else E:=by
  obtain ⟨h0,inner,hown,hr⟩:=hA
  obtain ⟨i0,hi,hzz⟩:=Option.map_eq_some_iff.1 hinfo
  simp only [Prod.mk.injEq] at hzz
  obtain ⟨hz0,hz1,hz2⟩:=hzz
  have hM:(Kd.slice 3 (Kd.int .i64)).M W w.heap.size (fun k=>some k=x0.ownBlock) row [x0]:=by
    obtain ⟨Ao,co,eo⟩:=Kd.R_slice hX
    subst eo
    exact Kd.M_row (Kd.R_lower (Kd.R_mono (Kd.R_tight rfl hX) (fun _ h_=>h_)) hb')
  have hxt : ∀ k,x0.ownBlock=some k→some k≠v.ownBlock:=by
    intro k hk hv
    obtain ⟨c1,e1⟩:=Kd.R_typed hX k hk
    obtain ⟨c2,e2⟩:=own_typed hown k hv.symm
    rw [e1] at e2
    simp at e2
  refine step_append_lies W hgd s x _ ho w.heap.size 25 i0 (.slice none 0 0) 1 24 ht hi hz0 hz1 hz2 rfl (by decide) v a.length inner hs hown ⟨B,0,none⟩ 1 1 [x0] hx rfl
    (by simpa using World.news_of_block (cs:=#[x0]) hB) (by intro y hy;simp only [List.mem_singleton] at hy;subst hy;exact (Kd.R_val hX).2) (by decide) (by simp only [maxLen];omega) (by omega) (below_size hbel) W.heap.size rfl ?_
  intro g cap w1 h2 h3 h4 h5
  have hat:(Value.slice (some ⟨g,0,none⟩) (a.length+1) cap).ownBlock=v.ownBlock∨∃ b,(Value.slice (some ⟨g,0,none⟩) (a.length+1) cap).ownBlock=some b∧W.heap.size≤b:=by
    rcases h4 with h4|h4
    · exact .inl (by rw [h4];rfl)
    · exact .inr ⟨g,rfl,by omega⟩
  exact h _ w1 (Kd.R_appended h0 hr hM (fun k hk=>⟨hok k hk.symm,hxt k hk.symm⟩) hfresh h2 h3 hat) (hbel.grown h3 (below_size hbel) (own_base hown)) h3 hat
theorem blk_new' (w:World) (o:Obj) (n:Nat) (h:n=w.heap.size):(w.alloc o).heap[n]?=some o:=by subst h;exact blk_new w o
theorem row_grown {W w1:World} {va x0:Value} {a:List (List Int)} {row:List Int} {base b:Nat} {ok okx:Nat→Prop} (hA:Kd.R (Kd.slice 3 (Kd.int .i64)) 25 W base ok va a) (hg:W.grownBy w1 va.ownBlock) (hX:Kd.R (Kd.int .i64) 3 W b okx x0 row):Kd.R (Kd.int .i64) 3 w1 b okx x0 row:=by
 refine Kd.R_mono (Kd.R_grown (Kd.R_mono (Kd.R_tight rfl hX) (fun _ h=>h)) hg ?_) (fun k hk=>hX.1 k hk.symm)
 intro k hk hv
 obtain ⟨c1,e1⟩:=Kd.R_typed hX k hk.symm
 obtain ⟨c2,e2⟩:=Kd.R_typed hA k hv.symm
 rw [e1] at e2
 simp at e2
theorem own_apart {W:World} {va x0:Value} {a:List (List Int)} {row:List Int} {base b:Nat} {ok okx:Nat→Prop} (hA:Kd.R (Kd.slice 3 (Kd.int .i64)) 25 W base ok va a) (hX:Kd.R (Kd.int .i64) 3 W b okx x0 row) : ∀ k,x0.ownBlock=some k→some k≠va.ownBlock:=by
 intro k hk hv
 obtain ⟨c1,e1⟩:=Kd.R_typed hX k hk
 obtain ⟨c2,e2⟩:=Kd.R_typed hA k hv.symm
 rw [e1] at e2
 simp at e2
section
variable {P:Program} {ops:Array Oper} {op:Oper} {act:Act} {K:Act→World→Prop} {Q:Exit→Act→World→Prop} {E:Prop} {w W0 W:World} {gb g:Nat} {LU LN ca co va vo vv x0:Value} {tu a o:List (List Int)} {no yes:Int} {row:List Int} {B b':Nat} {okx:Nat→Prop}
theorem step_appA (G:Grow w W0 gb g LU LN ca co va vo vv tu a o no yes) (hX:Kd.R (Kd.int .i64) 3 W0 b' okx x0 row) (hb':w.heap.size≤b') (hl:a.length≤1000000)
    (hgd:op.guard=none) (s x:Operand) (ho:op.op = .call { callee:=.builtin .append,args:=#[s,x],argTypes:=#[24,24] })
    (ht:P.underlying 24=some (.slice 25)) (hinfo:(P.info? 25).map (fun i=>(i.zero,i.size,i.bytes))=some (some (.slice none 0 0),1,24))
    (hs:act.eval s=va) (hx:act.eval x = .slice (some ⟨B,0,none⟩) 1 1) (hW:Below W0.heap.size W0 W) (hB:W.heap[B]?=some (.cells #[x0] 25 (0,0)))
    (h : ∀ v1 w1,Grow w w1 gb g LU LN ca co v1 vo vv tu (a ++ [row]) o no yes→(∀ b ok x row,Kd.R (Kd.int .i64) 3 W0 b ok x row→Kd.R (Kd.int .i64) 3 w1 b ok x row)→(∀ k ob,W0.heap.size≤k→W.heap[k]?=some ob→w1.heap[k]?=some ob)→K (act.put op.dst v1) w1) :
    if Region.wanted op (yielded ops act.tmps)=true then Oper.wp P op act W K Q else E:=by
  have G1:=G.up hW
  have hX1:=Kd.R_below hX hW
  refine step_append_row hgd s x ho ht hinfo G1.A (fun k hk=>Kd.fresh' (Kd.R_lt G1.O) k hk) hX1 hb' (own_apart G1.O hX1) hB G1.below hl hs hx ?_
  intro v1 w1 h1 h2 h3 h4
  exact h v1 w1 (G1.grownA h1 h2 h3 h4) (fun b ok x row k=>row_grown G1.A h3 (Kd.R_below k hW)) (fun k ob hk hh=>blk_grown hh h3 (fun e=>absurd (Kd.R_lt G.A k e.symm) (by omega)))
theorem step_appO (G:Grow w W0 gb g LU LN ca co va vo vv tu a o no yes) (hX:Kd.R (Kd.int .i64) 3 W0 b' okx x0 row) (hb':w.heap.size≤b') (hl:o.length≤1000000)
    (hgd:op.guard=none) (s x:Operand) (ho:op.op = .call { callee:=.builtin .append,args:=#[s,x],argTypes:=#[24,24] })
    (ht:P.underlying 24=some (.slice 25)) (hinfo:(P.info? 25).map (fun i=>(i.zero,i.size,i.bytes))=some (some (.slice none 0 0),1,24))
    (hs:act.eval s=vo) (hx:act.eval x = .slice (some ⟨B,0,none⟩) 1 1) (hW:Below W0.heap.size W0 W) (hB:W.heap[B]?=some (.cells #[x0] 25 (0,0)))
    (h : ∀ v1 w1,Grow w w1 gb g LU LN ca co va v1 vv tu a (o ++ [row]) no yes→K (act.put op.dst v1) w1) :
    if Region.wanted op (yielded ops act.tmps)=true then Oper.wp P op act W K Q else E:=by
  have G1:=G.up hW
  have hX1:=Kd.R_below hX hW
  refine step_append_row hgd s x ho ht hinfo G1.O (fun k hk=>Kd.fresh' (Kd.R_lt G1.A) k hk) hX1 hb' (own_apart G1.A hX1) hB G1.below hl hs hx ?_
  intro v1 w1 h1 h2 h3 h4
  exact h v1 w1 (G1.grownO h1 h2 h3 h4)
end
theorem Ev.get {α:Type} {f:Nat→Option α} {r:α} (h:Ev f r) : ∃ k,f k=some r:=by
 obtain ⟨k,hk⟩:=h
 exact ⟨k,hk k (Nat.le_refl _)⟩
theorem z2g_10 {p:Prop} (h:p:=by repeat (first|(with_reducible first|exact HBj.out|apply below_alloc|apply pw_below_drewN|apply below_drew1)|exact HBj.out)):p:=h
theorem z2g_9 {p:Prop} (h:p:=by repeat (first|(with_reducible first|exact HBk.out|apply below_alloc|apply pw_below_drewN|apply below_drew1)|exact HBk.out)):p:=h
theorem z2g_8 {p:Prop} (h:p:=by first|exact blk_new' _ _ _ (by simp)|exact HKA.out _ _ (by simp) z2g_4):p:=h
theorem z2g_7 {p:Prop} (h:p:=by kernel_rfl):p:=h
theorem z2g_6 {p:Prop} (h:p:=by simp only [List.length_map,List.length_range];omega):p:=h
theorem z2g_5 {p:Prop} (h:p:=by rw [List.range_succ,List.map_append,List.map_append];have q:=GCO.out.setA.setO;simp only [List.length_append,List.length_map,List.length_range,List.length_singleton] at q;exact q):p:=h
theorem z2g_4 {p:Prop} (h:p:=by first|exact blk_new' _ _ _ (by simp)|exact blk_alloc (blk_new' _ _ _ (by simp)) _):p:=h
theorem z2g_3 {p:Prop} (h:p:=by (with_reducible repeat (first|refine blk_drewN ?_ _|refine blk_drew ?_|refine blk_alloc ?_ _));exact GCO.out.alg):p:=h
theorem z2g_2 {p:Prop} (h:p:=by repeat (first|exact Below.refl _ _|(with_reducible first|apply below_alloc|apply pw_below_drewN|apply below_drew1))):p:=h
theorem z2g_1 {p:Prop} (h:p:=by (with_reducible repeat (first|refine blk_drewN ?_ _|refine blk_drew ?_|refine blk_alloc ?_ _));exact GC0.out.alg):p:=h
theorem z2g_0 {p:Prop} (h:p:=by (with_reducible repeat (first|refine blk_drewN ?_ _|refine blk_drew ?_|refine blk_alloc ?_ _));exact GCA.out.alg):p:=h
set_option maxHeartbeats 8000000 in
set_option maxRecDepth 100000 in
theorem told_lat (Au:Option Addr) (cu:Nat) (u:List (List Int)) (An:Option Addr) (cn:Nat) (nt:List Int) (w:World)
 (hu:Kd.C (Kd.slice 3 (Kd.int .i64)) w Au u.length u) (hcu:u.length≤cu) (hn:Kd.C (Kd.int .i64) w An nt.length nt) (hcn:nt.length≤cn) (h:Lat u) (hlen:nt.length=u.length) :
 Calls Try.prog 68 #[.agg #[.slice Au u.length cu,.slice An nt.length cn]] w fun e w'=>Below w.heap.size w w' ∧
  ((¬OL u nt∧e = .returned (.pointer none))∨(OL u nt∧∃ g,e = .returned (.pointer (some ⟨g,0,none⟩))∧w.heap.size≤g∧AlgAt w' g u (mtab u) (jtab u) nt (leastI u) (rd nt (leastI u)))):=by
 have HU:=ak hu
 have HC:=ak hcu
 have HN:=ak hn
 have HCN:=ak hcn
 have HL:=ak h
 have HE:=ak hlen
 have h12:u.length≤12:=h.1.le12
 clear hu hcu hn hcn h
 obtain ⟨k1,hk1⟩:=Ev.get (Q.impl_lat_ev u)
 rw [dT_ HL.out] at hk1
 obtain ⟨k2,hk2⟩:=Ev.get (Q.turned_ev HL.out.1)
 obtain ⟨tu,htu⟩ : ∃ tu,tu=turn u:=⟨_,rfl⟩
 rw [← htu] at hk2
 have HTU:=ak htu
 clear htu
 have E1:=ak hk1
 have E2:=ak hk2
 clear hk1 hk2
 go_enter Try.func68,Try.ntmps68
 go_wp2_with (first
  | ((with_reducible refine gate_dst (N:=1) rfl ?_);refine bx_ (N:=1) (cs:=#[.slice Au u.length cu,.slice An nt.length cn]) (t:=27) ?_;intro gb hg w4 hbox hb;have hc0:w4.cell? ⟨gb,0,none⟩=some (.slice Au u.length cu):=(blk_cell hbox 0).trans rfl;have hc1:w4.cell? ⟨gb,1,none⟩=some (.slice An nt.length cn):=(blk_cell hbox 1).trans rfl;have HB4:=ak hb;have HX4:=ak hbox;have HGE:=ak (Nat.le_of_eq hg.symm);clear hb hg hbox)
  | (go_at_call 104;(with_reducible refine (impl_LatticeOk.calls k1 _ _ u true _ ?s1 ?s2 E1.out).mono ?_);(case s1=>repeat (first|exact (Kd.C_below HU.out HB4.out)|(with_reducible refine Kd.C_alloc ?_ _)|(with_reducible refine Kd.C_drewN ?_ _)|(with_reducible refine Kd.C_drew ?_)));(case s2=>exact HC.out);rintro e w5 ⟨rfl,hD⟩;have HX5:=ak (blk_below HX4.out hD);have HB5:=ak (below_step HB4.out hD);have hd0:w5.cell? ⟨gb,0,none⟩=some (.slice Au u.length cu):=(blk_cell HX5.out 0).trans rfl;have hd1:w5.cell? ⟨gb,1,none⟩=some (.slice An nt.length cn):=(blk_cell HX5.out 1).trans rfl;clear hD)
  | ((with_reducible refine gate_dst (N:=33) rfl ?_);refine bx_ (N:=33) (cs:=#[.slice Au u.length cu,.slice none 0 0,.slice none 0 0,.slice An nt.length cn,.int .i64 0,.int .i64 0]) (t:=69) ?_;intro g hg w6 hbox hb;have HNE:Aside0 (gb≠g):=⟨(by rw [hg];exact Nat.ne_of_lt (blk_lt HX5.out))⟩;have HGG:Aside0 (w.heap.size≤g):=⟨(by rw [hg];exact (below_size HB5.out))⟩;have HX6:=ak (blk_below HX5.out hb);have HB6:=ak (below_step HB5.out hb);have HG6:=ak hbox;have he0:w6.cell? ⟨gb,0,none⟩=some (.slice Au u.length cu):=(blk_cell HX6.out 0).trans rfl;clear hb hg hbox)
  | (go_at_call 105;(with_reducible refine (impl_turned.calls k2 _ _ u tu _ ?s1 ?s2 E2.out).mono ?_);(case s1=>repeat (first|exact (Kd.C_below HU.out HB6.out)|(with_reducible refine Kd.C_alloc ?_ _)|(with_reducible refine Kd.C_drewN ?_ _)|(with_reducible refine Kd.C_drew ?_)));(case s2=>exact HC.out);rintro e w7 ⟨vv,rfl,hS,hD⟩;have G7:Aside0 (Grow w w7 gb g (.slice Au u.length cu) (.slice An nt.length cn) (.slice none 0 0) (.slice none 0 0) (.slice none 0 0) (.slice none 0 0) vv tu [] [] 0 0):=⟨⟨below_step HB6.out hD,HNE.out,HGE.out,HGG.out,blk_below HX6.out hD,blk_below HG6.out hD,Kd.R_nil _ _ _ _ _,Kd.R_nil _ _ _ _ _,Kd.R_lower (Kd.R_mono (Kd.S_R hS) (fun k _=>by simp [Value.ownBlock])) (below_size HB6.out)⟩⟩;have hf0:w7.cell? ⟨gb,0,none⟩=some (.slice Au u.length cu):=(blk_cell G7.out.box 0).trans rfl;clear hS hD hlen HX4 HB4 HX5 HB5 HX6 HB6 HG6))
 go_loopw [40] (fun a3 wr=>∃ (i:Nat) (va vo:Value),i≤u.length∧a3 = .int .i64 i∧Aside0 (Grow w wr gb g (.slice Au u.length cu) (.slice An nt.length cn) va vo va vo vv tu ((List.range i).map (mrow u)) ((List.range i).map (jrow u)) 0 0)) (fun a3 _=>u.length-(intOf a3).toNat)
 case atStart=>exact ⟨0,_,_,Nat.zero_le _,rfl,G7⟩
 case round =>
  obtain ⟨i,va,vo,hi,rfl,⟨G⟩⟩:=hrel
  clear G7 hf0
  obtain ⟨W1,hW1⟩ : ∃ W1,W1=wr:=⟨_,rfl⟩
  subst hW1
  obtain ⟨Av,cv,ev⟩:=Kd.R_slice G.V
  subst ev
  by_cases hlt:i<u.length
  ·
   have hf0:W1.cell? ⟨gb,0,none⟩=some (.slice Au u.length cu):=(blk_cell G.box 0).trans rfl
   have GA:=ak G
   clear G
   go_wp2_with (first
    | ((with_reducible refine gate_dst (N:=43) rfl ?_);refine Kd.R_lit (Kd.int .i64) _ 3 ?hg (N:=43) ?hd (xs:=([]:List Int)) (inner:=[]) (ok:=fun _=>True) (okp:=fun _=>True) ?hr ?hp (fun _ hk=>hk) trivial (Below.refl _ _) (Nat.le_refl _) (by simp) ?_;(case hd=>rfl);(case hg=>rfl);(case hr=>first|(go_simp;done)|(go_simp;rfl));(case hp=>exact (Reps.none _ _));intro vx wa ho5 hb hg_ hnew_;clear hg_ hnew_;have HX1:=ak ho5;have HBa:=ak hb;clear ho5 hb)
    | ((with_reducible refine gate_dst (N:=44) rfl ?_);refine Kd.R_lit (Kd.int .i64) _ 3 ?hg (N:=44) ?hd (xs:=([]:List Int)) (inner:=[]) (ok:=fun _=>True) (okp:=fun _=>True) ?hr ?hp (fun _ hk=>hk) trivial (Below.refl _ _) (Nat.le_refl _) (by simp) ?_;(case hd=>rfl);(case hg=>rfl);(case hr=>first|(go_simp;done)|(go_simp;rfl));(case hp=>exact (Reps.none _ _));intro vy wb ho5 hb hg_ hnew_;clear hg_ hnew_;have HY1:=ak ho5;have HX2:Aside0 (Kd.R (Kd.int .i64) 3 wb W1.heap.size (fun k=>some k≠vy.ownBlock) vx []):=⟨Kd.R_mono (Kd.R_below (Kd.R_bound HX1.out) hb) (fun k hk e=>absurd (Kd.R_base HY1.out k e.symm) (by have:=hk.2.2.1;omega))⟩;have HY2:Aside0 (Kd.R (Kd.int .i64) 3 wb W1.heap.size (fun k=>some k≠vx.ownBlock) vy []):=⟨Kd.R_lower (Kd.R_mono (Kd.R_bound HY1.out) (fun k hk e=>absurd (Kd.R_lt HX1.out k e.symm) (by have:=hk.2.1;omega))) (below_size HBa.out)⟩;have HBb:=ak (below_step HBa.out hb);have hf1:wb.cell? ⟨gb,0,none⟩=some (.slice Au u.length cu):=(blk_cell (GA.out.up HBb.out).box 0).trans rfl;clear ho5 hb HX1 HY1 HBa))
   go_loopw [48,6,7] (fun a4 v6 v7 wj=>∃ (j:Nat),j≤u.length∧a4 = .int .i64 j∧Aside0 (Kd.R (Kd.int .i64) 3 wj W1.heap.size (fun k=>some k≠v7.ownBlock) v6 ((List.range j).map fun b=>meetI u i b))∧Aside0 (Kd.R (Kd.int .i64) 3 wj W1.heap.size (fun k=>some k≠v6.ownBlock) v7 ((List.range j).map fun b=>joinI u i b))∧Aside0 (Below W1.heap.size W1 wj)) (fun a4 _ _ _=>u.length-(intOf a4).toNat)
   case atStart=>exact ⟨0,Nat.zero_le _,rfl,HX2,HY2,HBb⟩
   case round =>
    obtain ⟨j,hj,rfl,HXj,HYj,HBj⟩:=hrel
    clear HX2 HY2 HBb hf1
    by_cases hjt:j<u.length
    ·
     have hf2:wr.cell? ⟨gb,0,none⟩=some (.slice Au u.length cu):=(blk_cell (GA.out.up HBj.out).box 0).trans rfl
     obtain ⟨k3,hk3⟩:=Ev.get (Q.impl_meet_ev HL.out.1 hlt hjt)
     obtain ⟨k4,hk4⟩:=Ev.get (Q.impl_meet_ev (u:=turn u) (turn_ord HL.out.1) (by rw [turn_len];exact hlt) (by rw [turn_len];exact hjt))
     rw [meetI_turn hlt hjt,← HTU.out] at hk4
     have E3:=ak hk3
     have E4:=ak hk4
     clear hk3 hk4
     go_wp2_with (first
      | (go_at_call 106;(with_reducible refine (impl_meet.calls k3 _ _ u i j (meetI u i j) _ ?s1 ?s2 E3.out).mono ?_);(case s1=>repeat (first|exact (Kd.C_below HU.out (below_step GA.out.below HBj.out))|(with_reducible refine Kd.C_alloc ?_ _)|(with_reducible refine Kd.C_drewN ?_ _)|(with_reducible refine Kd.C_drew ?_)));(case s2=>exact HC.out);rintro e w2 ⟨rfl,hD⟩;obtain ⟨nd,rfl⟩:=hD)
      | ((with_reducible refine gate_builtin (b:=.append) (xs:=#[.tmp 51,.tmp 57]) rfl ?_);at_builtin;refine Kd.R_append (Kd.int .i64) (w0:=W1) W1.heap.size rfl (.tmp 51) (.tmp 57) 25 3 (.int .i64 0) 8 rfl Try.underlying25 info3 rfl (by decide) (by omega) u6 ((List.range j).map fun b=>meetI u i b) (meetI u i j) [.int .i64 (meetI u i j)] (fun k=>some k≠u7.ownBlock) (fun _=>False) rfl rfl rfl (fun _ hk=>hk.elim) (fun k hk=>Kd.fresh' (Kd.R_lt (xR HYj.out)) k hk) (xR HXj.out) z2g_10 (below_size z2g_10) z2g_6 ?_;intro vx1 wk ho hb hg hat;have HBk:=ak hb;have HXk:=ak ho;have HYk:Aside0 (Kd.R (Kd.int .i64) 3 wk W1.heap.size (fun k=>some k≠vx1.ownBlock) u7 _):=ak (Kd.R_mono (Kd.R_after (ok:=fun _=>True) (Kd.R_mono (xR HYj.out) (fun _ hk=>⟨trivial,hk⟩)) hg hat) (fun _ hk=>hk.2));clear hb ho hg hat)
      | (go_at_call 106;(with_reducible refine (impl_meet.calls k4 _ _ tu i j (joinI u i j) _ ?s1 ?s2 E4.out).mono ?_);(case s1=>repeat (first|exact (Kd.C_below (Kd.R_reads' GA.out.V).2.2 HBk.out)|(with_reducible refine Kd.C_alloc ?_ _)|(with_reducible refine Kd.C_drewN ?_ _)|(with_reducible refine Kd.C_drew ?_)));(case s2=>exact (Kd.R_reads' GA.out.V).2.1);rintro e w2 ⟨rfl,hD⟩;obtain ⟨nd2,rfl⟩:=hD)
      | ((with_reducible refine gate_builtin (b:=.append) (xs:=#[.tmp 59,.tmp 64]) rfl ?_);at_builtin;refine Kd.R_append (Kd.int .i64) (w0:=W1) W1.heap.size rfl (.tmp 59) (.tmp 64) 25 3 (.int .i64 0) 8 rfl Try.underlying25 info3 rfl (by decide) (by omega) u7 ((List.range j).map fun b=>joinI u i b) (joinI u i j) [.int .i64 (joinI u i j)] (fun k=>some k≠vx1.ownBlock) (fun _=>False) rfl rfl rfl (fun _ hk=>hk.elim) (fun k hk=>Kd.fresh' (Kd.R_lt (xR HXk.out)) k hk) (xR HYk.out) z2g_9 (below_size z2g_9) z2g_6 ?_;intro vy1 wl ho hb hg hat;have HBl:=ak hb;have HYl:=ak ho;have HXl:Aside0 (Kd.R (Kd.int .i64) 3 wl W1.heap.size (fun k=>some k≠vy1.ownBlock) vx1 _):=ak (Kd.R_mono (Kd.R_after (ok:=fun _=>True) (Kd.R_mono (xR HXk.out) (fun _ hk=>⟨trivial,hk⟩)) hg hat) (fun _ hk=>hk.2));clear hb ho hg hat))
     go_roundw
     case rel=>exact ⟨j+1,(by omega),(by go_num),⟨(by rw [List.range_succ,List.map_append];exact HXl.out)⟩,⟨(by rw [List.range_succ,List.map_append];exact HYl.out)⟩,HBl⟩
     case measure=>simp [intOf];omega
    have ej:j=u.length:=by omega
    have HX:Aside0 (Kd.R (Kd.int .i64) 3 wr W1.heap.size (fun k=>some k≠u7.ownBlock) u6 (mrow u i)):=⟨(by have:=HXj.out;rw [ej] at this;exact this)⟩
    have HY:Aside0 (Kd.R (Kd.int .i64) 3 wr W1.heap.size (fun k=>some k≠u6.ownBlock) u7 (jrow u i)):=⟨(by have:=HYj.out;rw [ej] at this;exact this)⟩
    have GB:=ak (GA.out.up HBj.out)
    have HBB:=HBj
    have hs1:wr.cell? ⟨g,1,none⟩=some va:=(blk_cell GB.out.alg 1).trans rfl
    have hs2:wr.cell? ⟨g,2,none⟩=some vo:=(blk_cell GB.out.alg 2).trans rfl
    clear HXj HYj HBj ej
    obtain ⟨Ax,cx,ex⟩:=Kd.R_slice HX.out
    subst ex
    obtain ⟨Ay,cy,ey⟩:=Kd.R_slice HY.out
    subst ey
    go_wp2
    refine start_ (n:=22) (S:=(fun w'=>w'.cell? ⟨g,1,none⟩=some va∧w'.cell? ⟨g,2,none⟩=some vo)) (ds:=[18,21]) (bA 22 0) z2g_7 rfl rfl ⟨hs1,hs2⟩ (fun hHeld=>?_)
    have GC0:=ak (GB.out.drew)
    have HX0:=ak (Kd.R_drew HX.out)
    have HY0:=ak (Kd.R_drew HY.out)
    clear GB HX HY hs1 hs2 HBB
    generalize wr.drew=wd at GC0 HX0 HY0 hHeld ⊢
    refine pu_ (i:=0) (N:=some 67) (bA 22 1) ?_
    refine pu_ (i:=1) (N:=some 68) (bA 22 3) ?_
    refine pu_ (i:=2) (N:=some 69) (bA 22 7) ?_
    refine pu_ (i:=3) (N:=some 70) (bA 22 15) ?_
    refine pu_ (i:=4) (N:=some 71) (bA 22 31) ?_
    refine tk_ (i:=5) (N:=some 72) (bA 22 63) ?_
    refine pu_ (i:=6) (N:=some 73) (bA 22 127) ?_
    refine pu_ (i:=9) (N:=some 76) (bA 22 639) ?_
    refine pu_ (i:=10) (N:=some 77) (bA 22 1663) ?_
    refine pu_ (i:=11) (N:=some 78) (bA 22 3711) ?_
    refine tk_ (i:=12) (N:=some 79) (bA 22 7807) ?_
    refine pu_ (i:=13) (N:=some 80) (bA 22 15999) ?_
    refine two_ (i:=7) (j:=14) (Ni:=some 74) (Nj:=some 81) (bA 22 16127) (bA 22 32383) rfl rfl rfl rfl z2g_7 (by decide) (by decide) (fun K hK=>?_) (fun K hK=>?_)
    ·
     refine value_ (w1:=?_) (v:=?_) (by rfl) rfl ?_ ?_
     rotate_left 2
     ·
      go_simp
      constructor
      ·
       rfl
      rfl
     refine hK.out _ _ ⟨(blk_cell z2g_1 1).trans rfl,(blk_cell z2g_1 2).trans rfl⟩ (fun hHeld=>?_)
     clear hK K
     refine no_ (N:=some 74) ?_
     refine two_ (i:=8) (j:=14) (Ni:=some 75) (Nj:=some 81) (bA 22 16383) (bA 22 32511) rfl rfl rfl rfl z2g_7 (by decide) (by decide) (fun K hK=>?_) (fun K hK=>?_)
     ·
      refine step_appA GC0.out HX0.out (below_size GA.out.below) z2g_6 (by rfl) (.tmp 72) (.tmp 74) (by rfl) Try.underlying24 info25 (by rfl) (by rfl) z2g_2 z2g_4 ?_
      intro va1 wA g1 g2 g3
      obtain ⟨Ap,cp,ep⟩:=Kd.R_slice g1.A
      subst ep
      have GCA:=ak g1
      have HRA:=ak g2
      have HKA:=ak g3
      clear g1 g2 g3
      refine hK.out _ _ ⟨(blk_cell z2g_0 1).trans rfl,(blk_cell z2g_0 2).trans rfl⟩ (fun hHeld=>?_)
      clear hK K
      refine no_ (N:=some 75) ?_
      refine one_ (i:=14) (N:=some 81) (bA 22 32767) rfl rfl z2g_7 (by decide) (fun K hK=>?_)
      refine value_ (w1:=?_) (v:=?_) (by rfl) rfl ?_ ?_
      rotate_left 2
      ·
       go_simp
       constructor
       ·
        rfl
       rfl
      refine hK.out _ _ ⟨(blk_cell z2g_0 1).trans rfl,(blk_cell z2g_0 2).trans rfl⟩ (fun hHeld=>?_)
      clear hK K
      refine no_ (N:=some 81) ?_
      refine one_ (i:=15) (N:=some 82) (bA 22 65535) rfl rfl z2g_7 (by decide) (fun K hK=>?_)
      refine step_appO GCA.out (HRA.out _ _ _ _ HY0.out) (below_size GA.out.below) z2g_6 (by rfl) (.tmp 79) (.tmp 81) (by rfl) Try.underlying24 info25 (by rfl) (by rfl) z2g_2 z2g_8 ?_
      intro vo1 wO g1
      obtain ⟨Aq,cq,eq_⟩:=Kd.R_slice g1.O
      subst eq_
      have GCO:=ak g1
      have hq1:wO.cell? ⟨g,1,none⟩=some va:=(blk_cell g1.alg 1).trans rfl
      have hq2:wO.cell? ⟨g,2,none⟩=some vo:=(blk_cell g1.alg 2).trans rfl
      have hz1:=blk_frozen g1.alg 1
      have hz2:=blk_frozen g1.alg 2
      clear g1
      refine hK.out _ _ ⟨(blk_cell z2g_3 1).trans rfl,(blk_cell z2g_3 2).trans rfl⟩ (fun hHeld=>?_)
      clear hK K
      refine no_ (N:=some 82) ?_
      refine pu_ (i:=16) (N:=some 83) (bA 22 131071) ?_
      refine pu_ (i:=17) (N:=some 84) (bA 22 262143) ?_
      refine last_ (i:=18) (N:=none) (bA 22 524287) rfl rfl z2g_7 (by decide) (fun K hK=>?_)
      refine skip_ (w1:=?_) (by rfl) rfl ?_ ?_
      rotate_left
      ·
       go_simp
       rfl
      refine hK.out _ _ ?_
      clear hK K
      refine pu_ (i:=19) (N:=some 85) (bA 22 1048575) ?_
      refine pu_ (i:=20) (N:=some 86) (bA 22 2097151) ?_
      refine last_ (i:=21) (N:=none) (bA 22 4194303) rfl rfl z2g_7 (by decide) (fun K hK=>?_)
      refine skip_ (w1:=?_) (by rfl) rfl ?_ ?_
      rotate_left
      ·
       go_simp
       rfl
      refine hK.out _ _ ?_
      clear hK K
      refine done_ z2g_7 ?_
      go_wp2
      go_roundw
      case rel=>exact ⟨i+1,_,_,(by omega),(by go_num),⟨z2g_5⟩⟩
      case measure=>simp [intOf];omega
     refine value_ (w1:=?_) (v:=?_) (by rfl) rfl ?_ ?_
     rotate_left 2
     ·
      go_simp
      constructor
      ·
       rfl
      rfl
     refine hK.out _ _ ⟨(blk_cell z2g_1 1).trans rfl,(blk_cell z2g_1 2).trans rfl⟩ (fun hHeld=>?_)
     clear hK K
     refine no_ (N:=some 81) ?_
     refine one_ (i:=8) (N:=some 75) (bA 22 32767) rfl rfl z2g_7 (by decide) (fun K hK=>?_)
     refine step_appA GC0.out HX0.out (below_size GA.out.below) z2g_6 (by rfl) (.tmp 72) (.tmp 74) (by rfl) Try.underlying24 info25 (by rfl) (by rfl) z2g_2 z2g_4 ?_
     intro va1 wA g1 g2 g3
     obtain ⟨Ap,cp,ep⟩:=Kd.R_slice g1.A
     subst ep
     have GCA:=ak g1
     have HRA:=ak g2
     have HKA:=ak g3
     clear g1 g2 g3
     refine hK.out _ _ ⟨(blk_cell z2g_0 1).trans rfl,(blk_cell z2g_0 2).trans rfl⟩ (fun hHeld=>?_)
     clear hK K
     refine no_ (N:=some 75) ?_
     refine one_ (i:=15) (N:=some 82) (bA 22 65535) rfl rfl z2g_7 (by decide) (fun K hK=>?_)
     refine step_appO GCA.out (HRA.out _ _ _ _ HY0.out) (below_size GA.out.below) z2g_6 (by rfl) (.tmp 79) (.tmp 81) (by rfl) Try.underlying24 info25 (by rfl) (by rfl) z2g_2 z2g_8 ?_
     intro vo1 wO g1
     obtain ⟨Aq,cq,eq_⟩:=Kd.R_slice g1.O
     subst eq_
     have GCO:=ak g1
     have hq1:wO.cell? ⟨g,1,none⟩=some va:=(blk_cell g1.alg 1).trans rfl
     have hq2:wO.cell? ⟨g,2,none⟩=some vo:=(blk_cell g1.alg 2).trans rfl
     have hz1:=blk_frozen g1.alg 1
     have hz2:=blk_frozen g1.alg 2
     clear g1
     refine hK.out _ _ ⟨(blk_cell z2g_3 1).trans rfl,(blk_cell z2g_3 2).trans rfl⟩ (fun hHeld=>?_)
     clear hK K
     refine no_ (N:=some 82) ?_
     refine pu_ (i:=16) (N:=some 83) (bA 22 131071) ?_
     refine pu_ (i:=17) (N:=some 84) (bA 22 262143) ?_
     refine last_ (i:=18) (N:=none) (bA 22 524287) rfl rfl z2g_7 (by decide) (fun K hK=>?_)
     refine skip_ (w1:=?_) (by rfl) rfl ?_ ?_
     rotate_left
     ·
      go_simp
      rfl
     refine hK.out _ _ ?_
     clear hK K
     refine pu_ (i:=19) (N:=some 85) (bA 22 1048575) ?_
     refine pu_ (i:=20) (N:=some 86) (bA 22 2097151) ?_
     refine last_ (i:=21) (N:=none) (bA 22 4194303) rfl rfl z2g_7 (by decide) (fun K hK=>?_)
     refine skip_ (w1:=?_) (by rfl) rfl ?_ ?_
     rotate_left
     ·
      go_simp
      rfl
     refine hK.out _ _ ?_
     clear hK K
     refine done_ z2g_7 ?_
     go_wp2
     go_roundw
     case rel=>exact ⟨i+1,_,_,(by omega),(by go_num),⟨z2g_5⟩⟩
     case measure=>simp [intOf];omega
    refine value_ (w1:=?_) (v:=?_) (by rfl) rfl ?_ ?_
    rotate_left 2
    ·
     go_simp
     constructor
     ·
      rfl
     rfl
    refine hK.out _ _ ⟨(blk_cell z2g_1 1).trans rfl,(blk_cell z2g_1 2).trans rfl⟩ (fun hHeld=>?_)
    clear hK K
    refine no_ (N:=some 81) ?_
    refine one_ (i:=7) (N:=some 74) (bA 22 32511) rfl rfl z2g_7 (by decide) (fun K hK=>?_)
    refine value_ (w1:=?_) (v:=?_) (by rfl) rfl ?_ ?_
    rotate_left 2
    ·
     go_simp
     constructor
     ·
      rfl
     rfl
    refine hK.out _ _ ⟨(blk_cell z2g_1 1).trans rfl,(blk_cell z2g_1 2).trans rfl⟩ (fun hHeld=>?_)
    clear hK K
    refine no_ (N:=some 74) ?_
    refine one_ (i:=8) (N:=some 75) (bA 22 32767) rfl rfl z2g_7 (by decide) (fun K hK=>?_)
    refine step_appA GC0.out HX0.out (below_size GA.out.below) z2g_6 (by rfl) (.tmp 72) (.tmp 74) (by rfl) Try.underlying24 info25 (by rfl) (by rfl) z2g_2 z2g_4 ?_
    intro va1 wA g1 g2 g3
    obtain ⟨Ap,cp,ep⟩:=Kd.R_slice g1.A
    subst ep
    have GCA:=ak g1
    have HRA:=ak g2
    have HKA:=ak g3
    clear g1 g2 g3
    refine hK.out _ _ ⟨(blk_cell z2g_0 1).trans rfl,(blk_cell z2g_0 2).trans rfl⟩ (fun hHeld=>?_)
    clear hK K
    refine no_ (N:=some 75) ?_
    refine one_ (i:=15) (N:=some 82) (bA 22 65535) rfl rfl z2g_7 (by decide) (fun K hK=>?_)
    refine step_appO GCA.out (HRA.out _ _ _ _ HY0.out) (below_size GA.out.below) z2g_6 (by rfl) (.tmp 79) (.tmp 81) (by rfl) Try.underlying24 info25 (by rfl) (by rfl) z2g_2 z2g_8 ?_
    intro vo1 wO g1
    obtain ⟨Aq,cq,eq_⟩:=Kd.R_slice g1.O
    subst eq_
    have GCO:=ak g1
    have hq1:wO.cell? ⟨g,1,none⟩=some va:=(blk_cell g1.alg 1).trans rfl
    have hq2:wO.cell? ⟨g,2,none⟩=some vo:=(blk_cell g1.alg 2).trans rfl
    have hz1:=blk_frozen g1.alg 1
    have hz2:=blk_frozen g1.alg 2
    clear g1
    refine hK.out _ _ ⟨(blk_cell z2g_3 1).trans rfl,(blk_cell z2g_3 2).trans rfl⟩ (fun hHeld=>?_)
    clear hK K
    refine no_ (N:=some 82) ?_
    refine pu_ (i:=16) (N:=some 83) (bA 22 131071) ?_
    refine pu_ (i:=17) (N:=some 84) (bA 22 262143) ?_
    refine last_ (i:=18) (N:=none) (bA 22 524287) rfl rfl z2g_7 (by decide) (fun K hK=>?_)
    refine skip_ (w1:=?_) (by rfl) rfl ?_ ?_
    rotate_left
    ·
     go_simp
     rfl
    refine hK.out _ _ ?_
    clear hK K
    refine pu_ (i:=19) (N:=some 85) (bA 22 1048575) ?_
    refine pu_ (i:=20) (N:=some 86) (bA 22 2097151) ?_
    refine last_ (i:=21) (N:=none) (bA 22 4194303) rfl rfl z2g_7 (by decide) (fun K hK=>?_)
    refine skip_ (w1:=?_) (by rfl) rfl ?_ ?_
    rotate_left
    ·
     go_simp
     rfl
    refine hK.out _ _ ?_
    clear hK K
    refine done_ z2g_7 ?_
    go_wp2
    go_roundw
    case rel=>exact ⟨i+1,_,_,(by omega),(by go_num),⟨z2g_5⟩⟩
    case measure=>simp [intOf];omega
  have ei:i=u.length:=by omega
  have GT:Grow w W1 gb g (.slice Au u.length cu) (.slice An nt.length cn) va vo va vo (.slice Av tu.length cv) tu (mtab u) (jtab u) 0 0:=by have q:=G;rw [ei] at q;exact q
  obtain ⟨Aa,ca,ea⟩:=Kd.R_slice GT.A
  subst ea
  obtain ⟨Ao,co,eo⟩:=Kd.R_slice GT.O
  subst eo
  obtain ⟨k5,hk5⟩:=Ev.get (Q.impl_least_ev u)
  have E5:Aside0 (impl_LeastOf.f k5 u=some (leastI u,true)):=⟨(by obtain ⟨ml,hml,hmlt,hmle⟩:=HL.out.least;rw [hk5];unfold leastOfP;rw [if_pos HL.out.1,hml];simp)⟩
  have GA:=ak GT
  clear G GT ei hk5
  have hf0:W1.cell? ⟨gb,0,none⟩=some (.slice Au u.length cu):=(blk_cell GA.out.box 0).trans rfl
  go_wp2_with (go_at_call 69;(with_reducible refine (impl_LeastOf.calls k5 _ _ u (leastI u) true _ ?s1 ?s2 E5.out).mono ?_);(case s1=>repeat (first|exact (Kd.C_below HU.out GA.out.below)|(with_reducible refine Kd.C_alloc ?_ _)|(with_reducible refine Kd.C_drewN ?_ _)|(with_reducible refine Kd.C_drew ?_)));(case s2=>exact HC.out);rintro e w2 ⟨rfl,hD⟩;obtain ⟨nd,rfl⟩:=hD;have hst:(W1.drewN nd).cell? ⟨g,4,none⟩=some (.int .i64 0):=(blk_cell GA.out.alg 4).trans rfl;have hfz:=blk_frozen (blk_drewN GA.out.alg nd) 4;have hn1:=HNE.out;have hn2:=Ne.symm HNE.out;have hm1:(W1.drewN nd).cell? ⟨gb,1,none⟩=some (.slice An nt.length cn):=(blk_cell GA.out.box 1).trans rfl)
  go_loopw [100] (fun a0 wr=>∃ c,c≤nt.length∧a0 = .int .i64 (c:Nat)∧Aside0 (∀ d,d<c→OppAt u nt d)∧Aside0 (Grow w wr gb g (.slice Au u.length cu) (.slice An nt.length cn) (.slice Aa (mtab u).length ca) (.slice Ao (jtab u).length co) (.slice Aa (mtab u).length ca) (.slice Ao (jtab u).length co) (.slice Av tu.length cv) tu (mtab u) (jtab u) (leastI u) 0)) (fun a0 _=>nt.length-(intOf a0).toNat)
  case atStart=>exact ⟨0,Nat.zero_le _,rfl,⟨fun d h=>absurd h (Nat.not_lt_zero _)⟩,⟨(GA.out.drewN _).setNo _⟩⟩
  case round =>
   clear hf0 hst hfz hm1 hc0 hc1 hd0 hd1 he0
   obtain ⟨c,hc,rfl,HP,GP⟩:=hrel
   have hn12:nt.length≤12:=by rw [HE.out];exact h12
   by_cases hct:c<nt.length
   ·
    obtain ⟨adn,eA,hcN⟩:=Kd.at_int (Kd.C_below HN.out GP.out.below) (c:Int) (by omega) (by omega)
    subst eA
    rw [Int.toNat_natCast] at hcN
    have hg0:wr.cell? ⟨gb,0,none⟩=some (.slice Au u.length cu):=(blk_cell GP.out.box 0).trans rfl
    have hg1:wr.cell? ⟨gb,1,none⟩=some (.slice (some adn) nt.length cn):=(blk_cell GP.out.box 1).trans rfl
    generalize hx:rd nt (c:Int)=x at hcN
    have HXE:=ak hx
    clear hx
    by_cases hok:0≤x∧x<u.length
    ·
     have EA:Aside0 (impl_isAnswer.f u x=some true):=⟨(by rw [Q.isAnswer_eq,dT_ hok])⟩
     have hx0:0≤x:=hok.1
     have hx1:x<(nt.length:Int):=by have:=HE.out;omega
     obtain ⟨ad2,e2,hcX⟩:=Kd.at_int (Kd.C_below HN.out GP.out.below) x hx0 hx1
     obtain rfl:adn=ad2:=by injection e2
     generalize hy:rd nt x=y at hcX
     have HYE:=ak hy
     clear hy e2
     by_cases hyc:y=c
     ·
      have hy1:=bt_ hyc
      have hy2:(y != (c:Int))=false:=by rw [hyc];simp
      have HYC:=ak hyc
      clear hyc
      have hcm:(c:Int)<(mtab u).length:=by have:=HE.out;simp only [mtab,List.length_map,List.length_range];omega
      have hc0:(0:Int)≤(c:Int):=by omega
      obtain ⟨adr,Ar,cr,er,hr1,hr2,hr3⟩:=at_L1 (Kd.R_reads' GP.out.A).2.2 (c:Int) hc0 hcm
      subst er
      rw [Int.toNat_natCast] at hr1
      have hrow:rd_L1 (mtab u) (c:Int)=mrow u c:=by rw [Q.row_nat];exact getD_map_range _ _ (by have:=HE.out;omega)
      have hxr:x<((rd_L1 (mtab u) (c:Int)).length:Int):=by rw [hrow];simp only [mrow,List.length_map,List.length_range];exact hok.2
      obtain ⟨adx,ex,hm1⟩:=Kd.at_int hr3 x hx0 hxr
      subst ex
      generalize hm:rd (rd_L1 (mtab u) (c:Int)) x=m at hm1
      have HM:Aside0 (m=meetI u c x.toNat):=⟨(by rw [← hm,hrow];obtain ⟨xn,rfl,hxn⟩:=Q.nat_of hok;rw [Int.toNat_natCast,Q.rd_nat];exact getD_map_range _ _ hxn)⟩
      have hgA:wr.cell? ⟨g,1,none⟩=some (.slice (some adr) (mtab u).length ca):=(blk_cell GP.out.alg 1).trans rfl
      have hg4:wr.cell? ⟨g,4,none⟩=some (.int .i64 (leastI u)):=(blk_cell GP.out.alg 4).trans rfl
      have HOK:=ak hok
      clear hm hrow hr2 hr3 hok
      by_cases hml:m=leastI u
      ·
       have hm2:(m != leastI u)=false:=by rw [hml];simp
       have hm3:=bt_ hml
       have HPC:Aside0 (OppAt u nt c):=⟨(by refine ⟨?_,?_,?_⟩ <;> rw [HXE.out];exact HOK.out;rw [HYE.out];exact HYC.out;rw [← HM.out];exact hml)⟩
       clear hml
       go_wp2
       refine start_ (n:=31) (S:=fun w'=>w'.cell? ⟨gb,0,none⟩=some (.slice Au u.length cu)∧w'.cell? ⟨gb,1,none⟩=some (.slice (some adn) nt.length cn)∧w'.cell? (adn.add x.toNat)=some (.int .i64 y)∧w'.cell? ⟨g,1,none⟩=some (.slice (some adr) (mtab u).length ca)∧w'.cell? (adr.add c)=some (.slice (some adx) (rd_L1 (mtab u) c).length cr)∧w'.cell? (adx.add x.toNat)=some (.int .i64 m)∧w'.cell? ⟨g,4,none⟩=some (.int .i64 (leastI u))) (ds:=[]) (bA 31 0) z2g_7 rfl rfl ⟨hg0,hg1,hcX,hgA,hr1,hm1,hg4⟩ (fun hHeld=>?_)
       have GQ:=ak GP.out.drew
       clear GP hg0 hg1 hcX hgA hr1 hm1 hg4 hcN
       generalize wr.drew=wd at GQ hHeld ⊢
       refine pu_ (i:=0) (N:=some 105) (bA 31 1) ?_
       refine tk_ (i:=1) (N:=some 106) (bA 31 3) ?_
       refine pu_ (i:=2) (N:=some 107) (bA 31 7) ?_
       refine one_ (i:=3) (N:=some 108) (bA 31 15) rfl rfl z2g_7 (by decide) (fun K hK=>?_)
       refine ge_ Try.func107 #[.slice Au u.length cu,.int .i64 x] ?_
       with_reducible refine (impl_isAnswer.calls _ _ u x true _ ?s1 ?s2 EA.out).mono ?_
       (case s1=>repeat (first|exact (Kd.C_below HU.out GQ.out.below)|(with_reducible refine Kd.C_alloc ?_ _)|(with_reducible refine Kd.C_drewN ?_ _)|(with_reducible refine Kd.C_drew ?_)))
       (case s2=>exact HC.out)
       rintro e w' ⟨rfl,⟨nd2,rfl⟩⟩
       refine ⟨_,rfl,?_⟩
       refine hK.out _ _ hHeld (fun hHeld=>?_)
       clear hK K
       refine no_ (N:=some 108) ?_
       refine pu_ (i:=4) (N:=some 109) (bA 31 31) ?_
       refine pu_ (i:=5) (N:=some 110) (bA 31 63) ?_
       refine pu_ (i:=6) (N:=some 111) (bA 31 127) ?_
       refine tk_ (i:=7) (N:=some 112) (bA 31 255) ?_
       refine pu_ (i:=8) (N:=some 113) (bA 31 511) ?_
       refine pu_ (i:=9) (N:=some 114) (bA 31 1023) ?_
       refine tk_ (i:=10) (N:=some 115) (bA 31 2047) ?_
       refine pu_ (i:=11) (N:=some 116) (bA 31 4095) ?_
       refine pu_ (i:=12) (N:=some 117) (bA 31 8191) ?_
       refine pu_ (i:=13) (N:=some 118) (bA 31 16383) ?_
       refine pu_ (i:=14) (N:=some 119) (bA 31 32767) ?_
       refine pu_ (i:=15) (N:=some 120) (bA 31 65535) ?_
       refine pu_ (i:=16) (N:=some 121) (bA 31 131071) ?_
       refine pu_ (i:=17) (N:=some 122) (bA 31 262143) ?_
       refine tk_ (i:=18) (N:=some 123) (bA 31 524287) ?_
       refine pu_ (i:=19) (N:=some 124) (bA 31 1048575) ?_
       refine pu_ (i:=20) (N:=some 125) (bA 31 2097151) ?_
       refine tk_ (i:=21) (N:=some 126) (bA 31 4194303) ?_
       refine pu_ (i:=22) (N:=some 127) (bA 31 8388607) ?_
       refine pu_ (i:=23) (N:=some 128) (bA 31 16777215) ?_
       refine tk_ (i:=24) (N:=some 129) (bA 31 33554431) ?_
       refine pu_ (i:=25) (N:=some 130) (bA 31 67108863) ?_
       refine pu_ (i:=26) (N:=some 131) (bA 31 134217727) ?_
       refine pu_ (i:=27) (N:=some 132) (bA 31 268435455) ?_
       refine tk_ (i:=28) (N:=some 133) (bA 31 536870911) ?_
       refine pu_ (i:=29) (N:=some 134) (bA 31 1073741823) ?_
       refine pu_ (i:=30) (N:=some 135) (bA 31 2147483647) ?_
       refine done_ z2g_7 ?_
       go_wp2
       go_roundw
       case rel=>exact ⟨c+1,(by omega),(by go_num),⟨fun d hd=>if h:d<c then HP.out d h else (show d=c by omega)▸HPC.out⟩,⟨GQ.out.drewN _⟩⟩
       case measure=>simp [intOf];omega
      have hm2:=bw_ hml
      have hm3:=bv_ hml
      have HNO:Aside0 (¬OL u nt):=⟨fun h=>hml (by have q:=(h.2.2.1 c (by have:=HE.out;omega)).2.2;rw [HXE.out] at q;rw [HM.out];exact q)⟩
      clear hml
      go_wp2
      refine start_ (n:=31) (S:=fun w'=>w'.cell? ⟨gb,0,none⟩=some (.slice Au u.length cu)∧w'.cell? ⟨gb,1,none⟩=some (.slice (some adn) nt.length cn)∧w'.cell? (adn.add x.toNat)=some (.int .i64 y)∧w'.cell? ⟨g,1,none⟩=some (.slice (some adr) (mtab u).length ca)∧w'.cell? (adr.add c)=some (.slice (some adx) (rd_L1 (mtab u) c).length cr)∧w'.cell? (adx.add x.toNat)=some (.int .i64 m)∧w'.cell? ⟨g,4,none⟩=some (.int .i64 (leastI u))) (ds:=[]) (bA 31 0) z2g_7 rfl rfl ⟨hg0,hg1,hcX,hgA,hr1,hm1,hg4⟩ (fun hHeld=>?_)
      have GQ:=ak GP.out.drew
      clear GP hg0 hg1 hcX hgA hr1 hm1 hg4 hcN
      generalize wr.drew=wd at GQ hHeld ⊢
      refine pu_ (i:=0) (N:=some 105) (bA 31 1) ?_
      refine tk_ (i:=1) (N:=some 106) (bA 31 3) ?_
      refine pu_ (i:=2) (N:=some 107) (bA 31 7) ?_
      refine one_ (i:=3) (N:=some 108) (bA 31 15) rfl rfl z2g_7 (by decide) (fun K hK=>?_)
      refine ge_ Try.func107 #[.slice Au u.length cu,.int .i64 x] ?_
      with_reducible refine (impl_isAnswer.calls _ _ u x true _ ?s1 ?s2 EA.out).mono ?_
      (case s1=>repeat (first|exact (Kd.C_below HU.out GQ.out.below)|(with_reducible refine Kd.C_alloc ?_ _)|(with_reducible refine Kd.C_drewN ?_ _)|(with_reducible refine Kd.C_drew ?_)))
      (case s2=>exact HC.out)
      rintro e w' ⟨rfl,⟨nd2,rfl⟩⟩
      refine ⟨_,rfl,?_⟩
      refine hK.out _ _ hHeld (fun hHeld=>?_)
      clear hK K
      refine no_ (N:=some 108) ?_
      refine pu_ (i:=4) (N:=some 109) (bA 31 31) ?_
      refine pu_ (i:=5) (N:=some 110) (bA 31 63) ?_
      refine pu_ (i:=6) (N:=some 111) (bA 31 127) ?_
      refine tk_ (i:=7) (N:=some 112) (bA 31 255) ?_
      refine pu_ (i:=8) (N:=some 113) (bA 31 511) ?_
      refine pu_ (i:=9) (N:=some 114) (bA 31 1023) ?_
      refine tk_ (i:=10) (N:=some 115) (bA 31 2047) ?_
      refine pu_ (i:=11) (N:=some 116) (bA 31 4095) ?_
      refine pu_ (i:=12) (N:=some 117) (bA 31 8191) ?_
      refine pu_ (i:=13) (N:=some 118) (bA 31 16383) ?_
      refine pu_ (i:=14) (N:=some 119) (bA 31 32767) ?_
      refine pu_ (i:=15) (N:=some 120) (bA 31 65535) ?_
      refine pu_ (i:=16) (N:=some 121) (bA 31 131071) ?_
      refine pu_ (i:=17) (N:=some 122) (bA 31 262143) ?_
      refine tk_ (i:=18) (N:=some 123) (bA 31 524287) ?_
      refine pu_ (i:=19) (N:=some 124) (bA 31 1048575) ?_
      refine pu_ (i:=20) (N:=some 125) (bA 31 2097151) ?_
      refine tk_ (i:=21) (N:=some 126) (bA 31 4194303) ?_
      refine pu_ (i:=22) (N:=some 127) (bA 31 8388607) ?_
      refine pu_ (i:=23) (N:=some 128) (bA 31 16777215) ?_
      refine tk_ (i:=24) (N:=some 129) (bA 31 33554431) ?_
      refine pu_ (i:=25) (N:=some 130) (bA 31 67108863) ?_
      refine pu_ (i:=26) (N:=some 131) (bA 31 134217727) ?_
      refine pu_ (i:=27) (N:=some 132) (bA 31 268435455) ?_
      refine tk_ (i:=28) (N:=some 133) (bA 31 536870911) ?_
      refine pu_ (i:=29) (N:=some 134) (bA 31 1073741823) ?_
      refine pu_ (i:=30) (N:=some 135) (bA 31 2147483647) ?_
      refine done_ z2g_7 ?_
      go_wp2
      go_ret
      exact ⟨pw_below_drewN GQ.out.below _,.inl ⟨HNO.out,rfl⟩⟩
     have hy1:=bv_ hyc
     have hy2:=bw_ hyc
     have HNO:Aside0 (¬OL u nt):=⟨fun h=>hyc (by have q:=(h.2.2.1 c (by have:=HE.out;omega)).2.1;rw [HXE.out,HYE.out] at q;exact q)⟩
     have HOK:=ak hok
     clear hyc hok
     go_wp2
     refine start_ (n:=31) (S:=fun w'=>w'.cell? ⟨gb,0,none⟩=some (.slice Au u.length cu)∧w'.cell? ⟨gb,1,none⟩=some (.slice (some adn) nt.length cn)∧w'.cell? (adn.add x.toNat)=some (.int .i64 y)) (ds:=[]) (bA 31 0) z2g_7 rfl rfl ⟨hg0,hg1,hcX⟩ (fun hHeld=>?_)
     have GQ:=ak GP.out.drew
     clear GP hg0 hg1 hcX hcN
     generalize wr.drew=wd at GQ hHeld ⊢
     refine pu_ (i:=0) (N:=some 105) (bA 31 1) ?_
     refine tk_ (i:=1) (N:=some 106) (bA 31 3) ?_
     refine pu_ (i:=2) (N:=some 107) (bA 31 7) ?_
     refine one_ (i:=3) (N:=some 108) (bA 31 15) rfl rfl z2g_7 (by decide) (fun K hK=>?_)
     refine ge_ Try.func107 #[.slice Au u.length cu,.int .i64 x] ?_
     with_reducible refine (impl_isAnswer.calls _ _ u x true _ ?s1 ?s2 EA.out).mono ?_
     (case s1=>repeat (first|exact (Kd.C_below HU.out GQ.out.below)|(with_reducible refine Kd.C_alloc ?_ _)|(with_reducible refine Kd.C_drewN ?_ _)|(with_reducible refine Kd.C_drew ?_)))
     (case s2=>exact HC.out)
     rintro e w' ⟨rfl,⟨nd2,rfl⟩⟩
     refine ⟨_,rfl,?_⟩
     refine hK.out _ _ hHeld (fun hHeld=>?_)
     clear hK K
     refine no_ (N:=some 108) ?_
     refine pu_ (i:=4) (N:=some 109) (bA 31 31) ?_
     refine pu_ (i:=5) (N:=some 110) (bA 31 63) ?_
     refine pu_ (i:=6) (N:=some 111) (bA 31 127) ?_
     refine tk_ (i:=7) (N:=some 112) (bA 31 255) ?_
     refine pu_ (i:=8) (N:=some 113) (bA 31 511) ?_
     refine pu_ (i:=9) (N:=some 114) (bA 31 1023) ?_
     refine tk_ (i:=10) (N:=some 115) (bA 31 2047) ?_
     refine pu_ (i:=11) (N:=some 116) (bA 31 4095) ?_
     refine pu_ (i:=12) (N:=some 117) (bA 31 8191) ?_
     refine pu_ (i:=13) (N:=some 118) (bA 31 16383) ?_
     refine pu_ (i:=14) (N:=some 119) (bA 31 32767) ?_
     refine of_ (i:=15) (N:=some 120) (bA 31 65535) ?_
     refine of_ (i:=16) (N:=some 121) (bA 31 131071) ?_
     refine of_ (i:=17) (N:=some 122) (bA 31 262143) ?_
     refine of_ (i:=18) (N:=some 123) (bA 31 524287) ?_
     refine of_ (i:=19) (N:=some 124) (bA 31 1048575) ?_
     refine of_ (i:=20) (N:=some 125) (bA 31 2097151) ?_
     refine of_ (i:=21) (N:=some 126) (bA 31 4194303) ?_
     refine of_ (i:=22) (N:=some 127) (bA 31 8388607) ?_
     refine of_ (i:=23) (N:=some 128) (bA 31 16777215) ?_
     refine of_ (i:=24) (N:=some 129) (bA 31 33554431) ?_
     refine of_ (i:=25) (N:=some 130) (bA 31 67108863) ?_
     refine of_ (i:=26) (N:=some 131) (bA 31 134217727) ?_
     refine of_ (i:=27) (N:=some 132) (bA 31 268435455) ?_
     refine of_ (i:=28) (N:=some 133) (bA 31 536870911) ?_
     refine of_ (i:=29) (N:=some 134) (bA 31 1073741823) ?_
     refine pu_ (i:=30) (N:=some 135) (bA 31 2147483647) ?_
     refine done_ z2g_7 ?_
     go_wp2
     go_ret
     exact ⟨pw_below_drewN GQ.out.below _,.inl ⟨HNO.out,rfl⟩⟩
    have EA:Aside0 (impl_isAnswer.f u x=some false):=⟨(by rw [Q.isAnswer_eq,dF_ hok])⟩
    have HNO:Aside0 (¬OL u nt):=⟨fun h=>hok (HXE.out▸(h.2.2.1 c (by have:=HE.out;omega)).1)⟩
    clear hok
    go_wp2
    refine start_ (n:=31) (S:=fun w'=>w'.cell? ⟨gb,0,none⟩=some (.slice Au u.length cu)∧w'.cell? ⟨gb,1,none⟩=some (.slice (some adn) nt.length cn)) (ds:=[]) (bA 31 0) z2g_7 rfl rfl ⟨hg0,hg1⟩ (fun hHeld=>?_)
    have GQ:=ak GP.out.drew
    clear GP hg0 hg1 hcN
    generalize wr.drew=wd at GQ hHeld ⊢
    refine pu_ (i:=0) (N:=some 105) (bA 31 1) ?_
    refine tk_ (i:=1) (N:=some 106) (bA 31 3) ?_
    refine pu_ (i:=2) (N:=some 107) (bA 31 7) ?_
    refine one_ (i:=3) (N:=some 108) (bA 31 15) rfl rfl z2g_7 (by decide) (fun K hK=>?_)
    refine ge_ Try.func107 #[.slice Au u.length cu,.int .i64 x] ?_
    with_reducible refine (impl_isAnswer.calls _ _ u x false _ ?s1 ?s2 EA.out).mono ?_
    (case s1=>repeat (first|exact (Kd.C_below HU.out GQ.out.below)|(with_reducible refine Kd.C_alloc ?_ _)|(with_reducible refine Kd.C_drewN ?_ _)|(with_reducible refine Kd.C_drew ?_)))
    (case s2=>exact HC.out)
    rintro e w' ⟨rfl,⟨nd2,rfl⟩⟩
    refine ⟨_,rfl,?_⟩
    refine hK.out _ _ hHeld (fun hHeld=>?_)
    clear hK K
    refine no_ (N:=some 108) ?_
    refine pu_ (i:=4) (N:=some 109) (bA 31 31) ?_
    refine pu_ (i:=5) (N:=some 110) (bA 31 63) ?_
    refine of_ (i:=6) (N:=some 111) (bA 31 127) ?_
    refine of_ (i:=7) (N:=some 112) (bA 31 255) ?_
    refine of_ (i:=8) (N:=some 113) (bA 31 511) ?_
    refine of_ (i:=9) (N:=some 114) (bA 31 1023) ?_
    refine of_ (i:=10) (N:=some 115) (bA 31 2047) ?_
    refine of_ (i:=11) (N:=some 116) (bA 31 4095) ?_
    refine of_ (i:=12) (N:=some 117) (bA 31 8191) ?_
    refine pu_ (i:=13) (N:=some 118) (bA 31 16383) ?_
    refine pu_ (i:=14) (N:=some 119) (bA 31 32767) ?_
    refine of_ (i:=15) (N:=some 120) (bA 31 65535) ?_
    refine of_ (i:=16) (N:=some 121) (bA 31 131071) ?_
    refine of_ (i:=17) (N:=some 122) (bA 31 262143) ?_
    refine of_ (i:=18) (N:=some 123) (bA 31 524287) ?_
    refine of_ (i:=19) (N:=some 124) (bA 31 1048575) ?_
    refine of_ (i:=20) (N:=some 125) (bA 31 2097151) ?_
    refine of_ (i:=21) (N:=some 126) (bA 31 4194303) ?_
    refine of_ (i:=22) (N:=some 127) (bA 31 8388607) ?_
    refine of_ (i:=23) (N:=some 128) (bA 31 16777215) ?_
    refine of_ (i:=24) (N:=some 129) (bA 31 33554431) ?_
    refine of_ (i:=25) (N:=some 130) (bA 31 67108863) ?_
    refine of_ (i:=26) (N:=some 131) (bA 31 134217727) ?_
    refine of_ (i:=27) (N:=some 132) (bA 31 268435455) ?_
    refine of_ (i:=28) (N:=some 133) (bA 31 536870911) ?_
    refine of_ (i:=29) (N:=some 134) (bA 31 1073741823) ?_
    refine pu_ (i:=30) (N:=some 135) (bA 31 2147483647) ?_
    refine done_ z2g_7 ?_
    go_wp2
    go_ret
    exact ⟨pw_below_drewN GQ.out.below _,.inl ⟨HNO.out,rfl⟩⟩
   have HP2:Aside0 (∀ d,d<u.length→OppAt u nt d):=⟨fun d hd=>HP.out d (by have:=HE.out;omega)⟩
   clear HP
   have hg0:wr.cell? ⟨gb,0,none⟩=some (.slice Au u.length cu):=(blk_cell GP.out.box 0).trans rfl
   go_wp2
   go_loopw [140] (fun a1 wr=>∃ p,p≤u.length∧a1 = .int .i64 (p:Nat)∧Aside0 (∀ a,a<p→∀ b,b<u.length→OppTo u nt a b)∧Aside0 (Grow w wr gb g (.slice Au u.length cu) (.slice An nt.length cn) (.slice Aa (mtab u).length ca) (.slice Ao (jtab u).length co) (.slice Aa (mtab u).length ca) (.slice Ao (jtab u).length co) (.slice Av tu.length cv) tu (mtab u) (jtab u) (leastI u) 0)) (fun a1 _=>u.length-(intOf a1).toNat)
   case atStart=>exact ⟨0,Nat.zero_le _,rfl,⟨fun d h=>absurd h (Nat.not_lt_zero _)⟩,GP⟩
   case round =>
    clear hg0 GP
    obtain ⟨p,hp,rfl,HQ,GP⟩:=hrel
    by_cases hpt:p<u.length
    ·
     obtain ⟨adu,Ar,cr,eu,hru,hrl,hrc⟩:=at_L1 (Kd.C_below HU.out GP.out.below) (p:Int) (by omega) (by omega)
     subst eu
     rw [Int.toNat_natCast] at hru
     have HRL:Aside0 ((rd_L1 u (p:Int)).length=u.length):=⟨(by rw [Q.row_nat];exact HL.out.1.row hpt)⟩
     rw [HRL.out] at hru hrl hrc
     have HRC:=ak hrc
     clear hrl hrc
     go_wp2
     obtain ⟨W2,hW2⟩ : ∃ W2,W2=wr:=⟨_,rfl⟩
     subst hW2
     have GP0:=GP
     go_loopw [147] (fun a2 wr=>∃ q,q≤u.length∧a2 = .int .i64 (q:Nat)∧Aside0 (∀ b,b<q→OppTo u nt p b)∧Aside0 (Below W2.heap.size W2 wr)) (fun a2 _=>u.length-(intOf a2).toNat)
     case atStart=>exact ⟨0,Nat.zero_le _,rfl,⟨fun d h=>absurd h (Nat.not_lt_zero _)⟩,⟨Below.refl _ _⟩⟩
     case round =>
      clear hru
      obtain ⟨q,hq,rfl,HR,HBW⟩:=hrel
      have GP:Aside0 (Grow w wr gb g _ _ _ _ _ _ _ _ _ _ _ _):=⟨GP0.out.up HBW.out⟩
      by_cases hqt:q<u.length
      ·
       obtain ⟨adr,er,hel⟩:=Kd.at_int (Kd.C_below HRC.out HBW.out) (q:Int) (by omega) (by omega)
       subst er
       rw [Int.toNat_natCast] at hel
       generalize hz:rd (rd_L1 u (p:Int)) (q:Int)=z at hel
       have HZ:Aside0 (rdN u p q=z):=⟨(by rw [← hz,Q.at_nat])⟩
       clear hz
       by_cases hz1:z=1
       ·
        have hb1:=bt_ hz1
        have HZ1:=ak hz1
        clear hz1
        obtain ⟨adn,eA,hnq⟩:=Kd.at_int (Kd.C_below HN.out GP.out.below) (q:Int) (by omega) (by have:=HE.out;omega)
        subst eA
        obtain ⟨ad2,e2,hnp⟩:=Kd.at_int (Kd.C_below HN.out GP.out.below) (p:Int) (by omega) (by have:=HE.out;omega)
        obtain rfl:adn=ad2:=by injection e2
        clear e2
        rw [Int.toNat_natCast] at hnq hnp
        have hqn:(q:Int)<nt.length:=by have:=HE.out;omega
        have hpn:(p:Int)<nt.length:=by have:=HE.out;omega
        have hoq:=(HP2.out q hqt).1
        have hop:=(HP2.out p hpt).1
        generalize hx:rd nt (q:Int)=x at hnq hoq
        generalize hy:rd nt (p:Int)=y at hnp hop
        have HX:=ak hx
        have HY:=ak hy
        clear hx hy
        have hx0:0≤x:=hoq.1
        have hx1:x<(u.length:Int):=hoq.2
        have hy0:0≤y:=hop.1
        have hy1:y<(u.length:Int):=hop.2
        obtain ⟨ad3,Aw,cw,e3,hw1,hwl,hwc⟩:=at_L1 (Kd.C_below HU.out GP.out.below) x hx0 hx1
        obtain rfl:adu=ad3:=by injection e3
        have HWL:Aside0 ((rd_L1 u x).length=u.length):=⟨(by obtain ⟨xn,rfl,hxn⟩:=Q.nat_of hoq;rw [Q.row_nat];exact HL.out.1.row hxn)⟩
        rw [HWL.out] at hw1 hwc
        obtain ⟨adw,ew,hw2⟩:=Kd.at_int hwc y hy0 hy1
        subst ew
        generalize hv:rd (rd_L1 u x) y=v at hw2
        have HV:Aside0 (rdN u (rd nt q).toNat (rd nt p).toNat=v):=⟨(by rw [← hv,HX.out,HY.out];obtain ⟨xn,rfl,hxn⟩:=Q.nat_of hoq;obtain ⟨yn,rfl,hyn⟩:=Q.nat_of hop;rw [Int.toNat_natCast,Int.toNat_natCast,Q.at_nat])⟩
        clear hv hwl hwc e3 hoq hop
        have hg0:wr.cell? ⟨gb,0,none⟩=some (.slice (some adu) u.length cu):=(blk_cell GP.out.box 0).trans rfl
        have hg1:wr.cell? ⟨gb,1,none⟩=some (.slice (some adn) nt.length cn):=(blk_cell GP.out.box 1).trans rfl
        by_cases hv1:v=1
        ·
         have hb2:(v != 1)=false:=by rw [hv1];rfl
         have hb3:=bt_ hv1
         have HT:Aside0 (OppTo u nt p q):=⟨fun _=>by rw [HV.out];exact hv1⟩
         clear hv1
         go_wp2
         refine start_ (n:=21) (S:=fun w'=>w'.cell? ⟨gb,0,none⟩=some (.slice (some adu) u.length cu)∧w'.cell? ⟨gb,1,none⟩=some (.slice (some adn) nt.length cn)∧w'.cell? (adn.add q)=some (.int .i64 x)∧w'.cell? (adn.add p)=some (.int .i64 y)∧w'.cell? (adu.add x.toNat)=some (.slice (some adw) u.length cw)∧w'.cell? (adw.add y.toNat)=some (.int .i64 v)) (ds:=[]) (bA 21 0) z2g_7 rfl rfl ⟨hg0,hg1,hnq,hnp,hw1,hw2⟩ (fun hHeld=>?_)
         refine pu_ (i:=0) (N:=some 152) (bA 21 1) ?_
         refine pu_ (i:=1) (N:=some 153) (bA 21 3) ?_
         refine pu_ (i:=2) (N:=some 154) (bA 21 7) ?_
         refine pu_ (i:=3) (N:=some 155) (bA 21 15) ?_
         refine tk_ (i:=4) (N:=some 156) (bA 21 31) ?_
         refine pu_ (i:=5) (N:=some 157) (bA 21 63) ?_
         refine tk_ (i:=6) (N:=some 158) (bA 21 127) ?_
         refine pu_ (i:=7) (N:=some 159) (bA 21 255) ?_
         refine pu_ (i:=8) (N:=some 160) (bA 21 511) ?_
         refine tk_ (i:=9) (N:=some 161) (bA 21 1023) ?_
         refine pu_ (i:=10) (N:=some 162) (bA 21 2047) ?_
         refine tk_ (i:=11) (N:=some 163) (bA 21 4095) ?_
         refine pu_ (i:=12) (N:=some 164) (bA 21 8191) ?_
         refine tk_ (i:=13) (N:=some 165) (bA 21 16383) ?_
         refine pu_ (i:=14) (N:=some 166) (bA 21 32767) ?_
         refine pu_ (i:=15) (N:=some 167) (bA 21 65535) ?_
         refine tk_ (i:=16) (N:=some 168) (bA 21 131071) ?_
         refine pu_ (i:=17) (N:=some 169) (bA 21 262143) ?_
         refine tk_ (i:=18) (N:=some 170) (bA 21 524287) ?_
         refine pu_ (i:=19) (N:=some 171) (bA 21 1048575) ?_
         refine pu_ (i:=20) (N:=some 172) (bA 21 2097151) ?_
         refine done_ z2g_7 ?_
         go_wp2
         go_roundw
         case rel=>exact ⟨q+1,(by omega),(by go_num),⟨fun d hd=>if h:d<q then HR.out d h else (show d=q by omega)▸HT.out⟩,⟨pw_below_drewN HBW.out 1⟩⟩
         case measure=>simp [intOf];omega
        have hb2:=bw_ hv1
        have hb3:=bv_ hv1
        have HNO:Aside0 (¬OL u nt):=⟨fun h=>hv1 (by have k:=h.2.2.2 p hpt q hqt (HZ.out.trans HZ1.out);rw [HV.out] at k;exact k)⟩
        clear hv1
        go_wp2
        refine start_ (n:=21) (S:=fun w'=>w'.cell? ⟨gb,0,none⟩=some (.slice (some adu) u.length cu)∧w'.cell? ⟨gb,1,none⟩=some (.slice (some adn) nt.length cn)∧w'.cell? (adn.add q)=some (.int .i64 x)∧w'.cell? (adn.add p)=some (.int .i64 y)∧w'.cell? (adu.add x.toNat)=some (.slice (some adw) u.length cw)∧w'.cell? (adw.add y.toNat)=some (.int .i64 v)) (ds:=[]) (bA 21 0) z2g_7 rfl rfl ⟨hg0,hg1,hnq,hnp,hw1,hw2⟩ (fun hHeld=>?_)
        refine pu_ (i:=0) (N:=some 152) (bA 21 1) ?_
        refine pu_ (i:=1) (N:=some 153) (bA 21 3) ?_
        refine pu_ (i:=2) (N:=some 154) (bA 21 7) ?_
        refine pu_ (i:=3) (N:=some 155) (bA 21 15) ?_
        refine tk_ (i:=4) (N:=some 156) (bA 21 31) ?_
        refine pu_ (i:=5) (N:=some 157) (bA 21 63) ?_
        refine tk_ (i:=6) (N:=some 158) (bA 21 127) ?_
        refine pu_ (i:=7) (N:=some 159) (bA 21 255) ?_
        refine pu_ (i:=8) (N:=some 160) (bA 21 511) ?_
        refine tk_ (i:=9) (N:=some 161) (bA 21 1023) ?_
        refine pu_ (i:=10) (N:=some 162) (bA 21 2047) ?_
        refine tk_ (i:=11) (N:=some 163) (bA 21 4095) ?_
        refine pu_ (i:=12) (N:=some 164) (bA 21 8191) ?_
        refine tk_ (i:=13) (N:=some 165) (bA 21 16383) ?_
        refine pu_ (i:=14) (N:=some 166) (bA 21 32767) ?_
        refine pu_ (i:=15) (N:=some 167) (bA 21 65535) ?_
        refine tk_ (i:=16) (N:=some 168) (bA 21 131071) ?_
        refine pu_ (i:=17) (N:=some 169) (bA 21 262143) ?_
        refine tk_ (i:=18) (N:=some 170) (bA 21 524287) ?_
        refine pu_ (i:=19) (N:=some 171) (bA 21 1048575) ?_
        refine pu_ (i:=20) (N:=some 172) (bA 21 2097151) ?_
        refine done_ z2g_7 ?_
        go_wp2
        go_ret
        exact ⟨pw_below_drewN GP.out.below 1,.inl ⟨HNO.out,rfl⟩⟩
       have hb1:=bv_ hz1
       have HT:Aside0 (OppTo u nt p q):=⟨fun h=>absurd (HZ.out.symm.trans h) hz1⟩
       clear hz1
       go_wp2
       refine start_ (n:=21) (S:=fun w'=>w'.cell? (adr.add q)=some (.int .i64 z)) (ds:=[]) (bA 21 0) z2g_7 rfl rfl hel (fun hHeld=>?_)
       refine pu_ (i:=0) (N:=some 152) (bA 21 1) ?_
       refine pu_ (i:=1) (N:=some 153) (bA 21 3) ?_
       refine pu_ (i:=2) (N:=some 154) (bA 21 7) ?_
       refine of_ (i:=3) (N:=some 155) (bA 21 15) ?_
       refine of_ (i:=4) (N:=some 156) (bA 21 31) ?_
       refine of_ (i:=5) (N:=some 157) (bA 21 63) ?_
       refine of_ (i:=6) (N:=some 158) (bA 21 127) ?_
       refine of_ (i:=7) (N:=some 159) (bA 21 255) ?_
       refine of_ (i:=8) (N:=some 160) (bA 21 511) ?_
       refine of_ (i:=9) (N:=some 161) (bA 21 1023) ?_
       refine of_ (i:=10) (N:=some 162) (bA 21 2047) ?_
       refine of_ (i:=11) (N:=some 163) (bA 21 4095) ?_
       refine of_ (i:=12) (N:=some 164) (bA 21 8191) ?_
       refine of_ (i:=13) (N:=some 165) (bA 21 16383) ?_
       refine of_ (i:=14) (N:=some 166) (bA 21 32767) ?_
       refine of_ (i:=15) (N:=some 167) (bA 21 65535) ?_
       refine of_ (i:=16) (N:=some 168) (bA 21 131071) ?_
       refine of_ (i:=17) (N:=some 169) (bA 21 262143) ?_
       refine of_ (i:=18) (N:=some 170) (bA 21 524287) ?_
       refine of_ (i:=19) (N:=some 171) (bA 21 1048575) ?_
       refine pu_ (i:=20) (N:=some 172) (bA 21 2097151) ?_
       refine done_ z2g_7 ?_
       go_wp2
       go_roundw
       case rel=>exact ⟨q+1,(by omega),(by go_num),⟨fun d hd=>if h:d<q then HR.out d h else (show d=q by omega)▸HT.out⟩,⟨pw_below_drewN HBW.out 1⟩⟩
       case measure=>simp [intOf];omega
      have HT:Aside0 (∀ b,b<u.length→OppTo u nt p b):=⟨fun b hb=>HR.out b (by omega)⟩
      clear HR
      go_wp2
      go_roundw
      case rel=>exact ⟨p+1,(by omega),(by go_num),⟨fun d hd=>if h:d<p then HQ.out d h else (show d=p by omega)▸HT.out⟩,GP⟩
      case measure=>simp [intOf];omega
    have HOL:Aside0 (OL u nt):=⟨HL.out,HE.out,HP2.out,fun a ha=>HQ.out a (by omega)⟩
    clear HQ HP2
    obtain ⟨ml,hml,hmlt,hmle⟩:=HL.out.least
    have hl0:0≤leastI u:=by omega
    have hl1:leastI u<(nt.length:Int):=by have:=HE.out;omega
    have hl2:leastI u<(u.length:Int):=by omega
    clear hml hmlt hmle
    obtain ⟨adn,eA,hnl⟩:=Kd.at_int (Kd.C_below HN.out GP.out.below) (leastI u) hl0 hl1
    subst eA
    have hg1:wr.cell? ⟨gb,1,none⟩=some (.slice (some adn) nt.length cn):=(blk_cell GP.out.box 1).trans rfl
    have hg4:wr.cell? ⟨g,4,none⟩=some (.int .i64 (leastI u)):=(blk_cell GP.out.alg 4).trans rfl
    have hq5:wr.cell? ⟨g,5,none⟩=some (.int .i64 0):=(blk_cell GP.out.alg 5).trans rfl
    have hz5:=blk_frozen GP.out.alg 5
    go_wp2
    refine start_ (n:=12) (S:=fun w'=>w'.cell? ⟨gb,1,none⟩=some (.slice (some adn) nt.length cn)∧w'.cell? ⟨g,4,none⟩=some (.int .i64 (leastI u))∧w'.cell? (adn.add (leastI u).toNat)=some (.int .i64 (rd nt (leastI u)))) (ds:=[11]) (bA 12 0) z2g_7 rfl rfl ⟨hg1,hg4,hnl⟩ (fun hHeld=>?_)
    refine pu_ (i:=0) (N:=some 175) (bA 12 1) ?_
    refine pu_ (i:=1) (N:=some 176) (bA 12 3) ?_
    refine tk_ (i:=2) (N:=some 177) (bA 12 7) ?_
    refine pu_ (i:=3) (N:=some 178) (bA 12 15) ?_
    refine pu_ (i:=4) (N:=some 179) (bA 12 31) ?_
    refine pu_ (i:=5) (N:=some 180) (bA 12 63) ?_
    refine tk_ (i:=6) (N:=some 181) (bA 12 127) ?_
    refine pu_ (i:=7) (N:=some 182) (bA 12 255) ?_
    refine tk_ (i:=8) (N:=some 183) (bA 12 511) ?_
    refine pu_ (i:=9) (N:=some 184) (bA 12 1023) ?_
    refine pu_ (i:=10) (N:=some 185) (bA 12 2047) ?_
    have hq6:wr.drew.cell? ⟨g,5,none⟩=some (.int .i64 0):=hq5
    have hz6:wr.drew.frozen? ⟨g,5,none⟩=false:=hz5
    refine last_ (i:=11) (N:=none) (bA 12 4095) rfl rfl z2g_7 (by decide) (fun K hK=>?_)
    refine skip_ (w1:=?_) (by rfl) rfl ?_ ?_
    rotate_left
    ·
     go_simp
     rfl
    refine hK.out _ _ ?_
    clear hK K
    refine done_ z2g_7 ?_
    go_wp2
    go_ret
    have GZ:=(GP.out.drewN 1).setYes (rd nt (leastI u))
    refine ⟨GZ.below,.inr ⟨HOL.out,g,rfl,HGG.out,_,_,_,_,_,_,_,_,GZ.alg,Kd.C_below HU.out GZ.below,HC.out,(Kd.R_reads' GZ.A).2.2,(Kd.R_reads' GZ.A).2.1,(Kd.R_reads' GZ.O).2.2,(Kd.R_reads' GZ.O).2.1,Kd.C_below HN.out GZ.below,HCN.out⟩⟩
set_option maxHeartbeats 4000000 in
set_option maxRecDepth 100000 in
theorem told_len (Au:Option Addr) (cu:Nat) (u:List (List Int)) (An:Option Addr) (cn:Nat) (nt:List Int) (w:World)
 (hu:Kd.C (Kd.slice 3 (Kd.int .i64)) w Au u.length u) (hcu:u.length≤cu) (h:Lat u) (hlen:nt.length≠u.length) :
 Calls Try.prog 68 #[.agg #[.slice Au u.length cu,.slice An nt.length cn]] w fun e w'=>e = .returned (.pointer none)∧Below w.heap.size w w':=by
 have HU:=ak hu
 have HC:=ak hcu
 clear hu hcu
 have HB:=ak (Below.refl w.heap.size w)
 have hb1:((nt.length:Int)==(u.length:Int))=false:=by
  rw [beq_eq_false_iff_ne]
  omega
 have hb2:((nt.length:Int) != (u.length:Int))=true:=by
  rw [bne_iff_ne]
  omega
 clear hlen
 obtain ⟨kk,hk⟩:=Ev.get (Q.impl_lat_ev u)
 rw [dT_ h] at hk
 have HL:=ak hk
 clear hk h
 go_enter Try.func68,Try.ntmps68
 go_wp2_with (first
  | ((with_reducible refine gate_dst (N:=1) rfl ?_);refine bx_ (N:=1) (cs:=#[.slice Au u.length cu,.slice An nt.length cn]) (t:=27) ?_;intro gb hg w4 hbox hb;have hc0:w4.cell? ⟨gb,0,none⟩=some (.slice Au u.length cu):=(blk_cell hbox 0).trans rfl;have hc1:w4.cell? ⟨gb,1,none⟩=some (.slice An nt.length cn):=(blk_cell hbox 1).trans rfl;have HB4:=ak hb;have HX:=ak hbox;have HG:=ak hg;clear hb hg hbox)
  | (go_at_call 104;(with_reducible refine (impl_LatticeOk.calls kk _ _ u true _ ?s1 ?s2 HL.out).mono ?_);(case s1=>repeat (first|exact (Kd.C_below HU.out HB4.out)|(with_reducible refine Kd.C_alloc ?_ _)|(with_reducible refine Kd.C_drewN ?_ _)|(with_reducible refine Kd.C_drew ?_)));(case s2=>exact HC.out);rintro e w5 ⟨rfl,hD⟩;have HX5:=ak (blk_below HX.out hD);have HB5:=ak (below_step HB4.out hD);have hd0:w5.cell? ⟨gb,0,none⟩=some (.slice Au u.length cu):=(blk_cell HX5.out 0).trans rfl;have hd1:w5.cell? ⟨gb,1,none⟩=some (.slice An nt.length cn):=(blk_cell HX5.out 1).trans rfl;clear hD))
 go_ret
 exact ⟨rfl,(by repeat (first|(with_reducible first|exact HB5.out|apply below_alloc|apply pw_below_drewN|apply below_drew1)|exact HB5.out))⟩
theorem told_calls (Au:Option Addr) (cu:Nat) (u:List (List Int)) (An:Option Addr) (cn:Nat) (nt:List Int) (w:World)
 (hu:Kd.C (Kd.slice 3 (Kd.int .i64)) w Au u.length u) (hcu:u.length≤cu) (hn:Kd.C (Kd.int .i64) w An nt.length nt) (hcn:nt.length≤cn) :
 Calls Try.prog 68 #[.agg #[.slice Au u.length cu,.slice An nt.length cn]] w fun e w'=>Below w.heap.size w w' ∧
  ((¬OL u nt∧e = .returned (.pointer none))∨(OL u nt∧∃ g,e = .returned (.pointer (some ⟨g,0,none⟩))∧w.heap.size≤g∧AlgAt w' g u (mtab u) (jtab u) nt (leastI u) (rd nt (leastI u)))):=by
 by_cases h:Lat u
 ·
  by_cases hlen:nt.length=u.length
  ·
   exact told_lat Au cu u An cn nt w hu hcu hn hcn h hlen
  exact (told_len Au cu u An cn nt w hu hcu h hlen).mono fun e w' k=>⟨k.2,.inl ⟨fun o=>hlen o.2.1,k.1⟩⟩
 exact (told_nolat Au cu u An cn nt w hu hcu h).mono fun e w' k=>⟨k.2,.inl ⟨fun o=>h o.1,k.1⟩⟩
theorem told_none (Au:Option Addr) (cu:Nat) (u:List (List Int)) (An:Option Addr) (cn:Nat) (nt:List Int) (w:World)
 (hu:Kd.C (Kd.slice 3 (Kd.int .i64)) w Au u.length u) (hcu:u.length≤cu) (hn:Kd.C (Kd.int .i64) w An nt.length nt) (hcn:nt.length≤cn) (h : ¬OL u nt) :
 Calls Try.prog 68 #[.agg #[.slice Au u.length cu,.slice An nt.length cn]] w fun e w'=>e = .returned (.pointer none)∧Below w.heap.size w w' :=
 (told_calls Au cu u An cn nt w hu hcu hn hcn).mono fun e w' k=>⟨(k.2.resolve_right fun q=>h q.1).2,k.1⟩
theorem told_some (Au:Option Addr) (cu:Nat) (u:List (List Int)) (An:Option Addr) (cn:Nat) (nt:List Int) (w:World)
 (hu:Kd.C (Kd.slice 3 (Kd.int .i64)) w Au u.length u) (hcu:u.length≤cu) (hn:Kd.C (Kd.int .i64) w An nt.length nt) (hcn:nt.length≤cn) (h:OL u nt) :
 Calls Try.prog 68 #[.agg #[.slice Au u.length cu,.slice An nt.length cn]] w fun e w'=>∃ g,e = .returned (.pointer (some ⟨g,0,none⟩))∧w.heap.size≤g∧AlgAt w' g u (mtab u) (jtab u) nt (leastI u) (rd nt (leastI u))∧Below w.heap.size w w' :=
 (told_calls Au cu u An cn nt w hu hcu hn hcn).mono fun e w' k=>by
  obtain ⟨hb,⟨h1,_⟩|⟨_,g,h1,h2,h3⟩⟩:=k
  ·
   exact absurd h h1
  exact ⟨g,h1,h2,h3,hb⟩
set_option linter.unusedSimpArgs false
theorem z2j_0 {p:Prop} (h:p:=by repeat (first|exact HB5.out|(with_reducible first|apply below_alloc|apply pw_below_drewN|apply below_drew1))):p:=h
set_option maxHeartbeats 4000000 in
set_option maxRecDepth 100000 in
theorem noOf_core (Au:Option Addr) (cu:Nat) (u:List (List Int)) (An:Option Addr) (cn:Nat) (nt:List Int) (w:World)
 (hu:Kd.C (Kd.slice 3 (Kd.int .i64)) w Au u.length u) (hcu:u.length≤cu) (hn:Kd.C (Kd.int .i64) w An nt.length nt) (hcn:nt.length≤cn) :
 Calls Try.prog 54 #[.agg #[.slice Au u.length cu,.slice An nt.length cn]] w fun e w'=>e = .returned (.int .i64 (noF u nt))∧Below w.heap.size w w':=by
 have hul:=Try.underlying27
 have HU:=ak hu
 have HC:=ak hcu
 have HN:=ak hn
 have HCN:=ak hcn
 clear hu hcu hn hcn
 by_cases hl:OL u nt
 ·
  have HL:=ak hl
  clear hl
  go_enter Try.func54,Try.ntmps54
  go_wp2_with (first
   | ((with_reducible refine gate_dst (N:=1) rfl ?_);refine bx_ (N:=1) (cs:=#[.slice Au u.length cu,.slice An nt.length cn]) (t:=27) ?_;intro gb hg w4 hbox hb;have hc0:w4.cell? ⟨gb,0,none⟩=some (.slice Au u.length cu):=(blk_cell hbox 0).trans rfl;have hc1:w4.cell? ⟨gb,1,none⟩=some (.slice An nt.length cn):=(blk_cell hbox 1).trans rfl;have HB4:=ak hb;clear hb hg hbox)
   | (go_at_call 68;(with_reducible refine (told_some _ _ u _ _ nt _ ?s1 ?s2 ?s3 ?s4 HL.out).mono ?_);(case s1=>repeat (first|exact (Kd.C_below HU.out HB4.out)|(with_reducible refine Kd.C_alloc ?_ _)|(with_reducible refine Kd.C_drewN ?_ _)|(with_reducible refine Kd.C_drew ?_)));(case s2=>exact HC.out);(case s3=>repeat (first|exact (Kd.C_below HN.out HB4.out)|(with_reducible refine Kd.C_alloc ?_ _)|(with_reducible refine Kd.C_drewN ?_ _)|(with_reducible refine Kd.C_drew ?_)));(case s4=>exact HCN.out);rintro e w5 ⟨g,rfl,hge,hAl,hD⟩;have HB5:=ak (below_step HB4.out hD);have HA:=ak hAl;clear hD hge hAl;obtain ⟨_,_,_,_,_,_,_,_,h0,_⟩:=HA.out;have hv:w5.cell? ⟨g,4,none⟩=some (.int .i64 (leastI u)):=(blk_cell h0 4).trans rfl;clear h0))
  go_ret
  exact ⟨(by unfold noF;rw [if_pos HL.out];rfl),z2j_0⟩
 have HL:=ak hl
 clear hl
 go_enter Try.func54,Try.ntmps54
 go_wp2_with (first
  | ((with_reducible refine gate_dst (N:=1) rfl ?_);refine bx_ (N:=1) (cs:=#[.slice Au u.length cu,.slice An nt.length cn]) (t:=27) ?_;intro gb hg w4 hbox hb;have hc0:w4.cell? ⟨gb,0,none⟩=some (.slice Au u.length cu):=(blk_cell hbox 0).trans rfl;have hc1:w4.cell? ⟨gb,1,none⟩=some (.slice An nt.length cn):=(blk_cell hbox 1).trans rfl;have HB4:=ak hb;clear hb hg hbox)
  | (go_at_call 68;(with_reducible refine (told_none _ _ u _ _ nt _ ?s1 ?s2 ?s3 ?s4 HL.out).mono ?_);(case s1=>repeat (first|exact (Kd.C_below HU.out HB4.out)|(with_reducible refine Kd.C_alloc ?_ _)|(with_reducible refine Kd.C_drewN ?_ _)|(with_reducible refine Kd.C_drew ?_)));(case s2=>exact HC.out);(case s3=>repeat (first|exact (Kd.C_below HN.out HB4.out)|(with_reducible refine Kd.C_alloc ?_ _)|(with_reducible refine Kd.C_drewN ?_ _)|(with_reducible refine Kd.C_drew ?_)));(case s4=>exact HCN.out);rintro e w5 ⟨rfl,hD⟩;have HB5:=ak (below_step HB4.out hD);clear hD))
 go_ret
 exact ⟨(by unfold noF;rw [if_neg HL.out];rfl),z2j_0⟩
set_option maxHeartbeats 4000000 in
set_option maxRecDepth 100000 in
theorem yesOf_core (Au:Option Addr) (cu:Nat) (u:List (List Int)) (An:Option Addr) (cn:Nat) (nt:List Int) (w:World)
 (hu:Kd.C (Kd.slice 3 (Kd.int .i64)) w Au u.length u) (hcu:u.length≤cu) (hn:Kd.C (Kd.int .i64) w An nt.length nt) (hcn:nt.length≤cn) :
 Calls Try.prog 55 #[.agg #[.slice Au u.length cu,.slice An nt.length cn]] w fun e w'=>e = .returned (.int .i64 (yesF u nt))∧Below w.heap.size w w':=by
 have hul:=Try.underlying27
 have HU:=ak hu
 have HC:=ak hcu
 have HN:=ak hn
 have HCN:=ak hcn
 clear hu hcu hn hcn
 by_cases hl:OL u nt
 ·
  have HL:=ak hl
  clear hl
  go_enter Try.func55,Try.ntmps55
  go_wp2_with (first
   | ((with_reducible refine gate_dst (N:=1) rfl ?_);refine bx_ (N:=1) (cs:=#[.slice Au u.length cu,.slice An nt.length cn]) (t:=27) ?_;intro gb hg w4 hbox hb;have hc0:w4.cell? ⟨gb,0,none⟩=some (.slice Au u.length cu):=(blk_cell hbox 0).trans rfl;have hc1:w4.cell? ⟨gb,1,none⟩=some (.slice An nt.length cn):=(blk_cell hbox 1).trans rfl;have HB4:=ak hb;clear hb hg hbox)
   | (go_at_call 68;(with_reducible refine (told_some _ _ u _ _ nt _ ?s1 ?s2 ?s3 ?s4 HL.out).mono ?_);(case s1=>repeat (first|exact (Kd.C_below HU.out HB4.out)|(with_reducible refine Kd.C_alloc ?_ _)|(with_reducible refine Kd.C_drewN ?_ _)|(with_reducible refine Kd.C_drew ?_)));(case s2=>exact HC.out);(case s3=>repeat (first|exact (Kd.C_below HN.out HB4.out)|(with_reducible refine Kd.C_alloc ?_ _)|(with_reducible refine Kd.C_drewN ?_ _)|(with_reducible refine Kd.C_drew ?_)));(case s4=>exact HCN.out);rintro e w5 ⟨g,rfl,hge,hAl,hD⟩;have HB5:=ak (below_step HB4.out hD);have HA:=ak hAl;clear hD hge hAl;obtain ⟨_,_,_,_,_,_,_,_,h0,_⟩:=HA.out;have hv:w5.cell? ⟨g,5,none⟩=some (.int .i64 (rd nt (leastI u))):=(blk_cell h0 5).trans rfl;clear h0))
  go_ret
  exact ⟨(by unfold yesF;rw [if_pos HL.out];rfl),z2j_0⟩
 have HL:=ak hl
 clear hl
 go_enter Try.func55,Try.ntmps55
 go_wp2_with (first
  | ((with_reducible refine gate_dst (N:=1) rfl ?_);refine bx_ (N:=1) (cs:=#[.slice Au u.length cu,.slice An nt.length cn]) (t:=27) ?_;intro gb hg w4 hbox hb;have hc0:w4.cell? ⟨gb,0,none⟩=some (.slice Au u.length cu):=(blk_cell hbox 0).trans rfl;have hc1:w4.cell? ⟨gb,1,none⟩=some (.slice An nt.length cn):=(blk_cell hbox 1).trans rfl;have HB4:=ak hb;clear hb hg hbox)
  | (go_at_call 68;(with_reducible refine (told_none _ _ u _ _ nt _ ?s1 ?s2 ?s3 ?s4 HL.out).mono ?_);(case s1=>repeat (first|exact (Kd.C_below HU.out HB4.out)|(with_reducible refine Kd.C_alloc ?_ _)|(with_reducible refine Kd.C_drewN ?_ _)|(with_reducible refine Kd.C_drew ?_)));(case s2=>exact HC.out);(case s3=>repeat (first|exact (Kd.C_below HN.out HB4.out)|(with_reducible refine Kd.C_alloc ?_ _)|(with_reducible refine Kd.C_drewN ?_ _)|(with_reducible refine Kd.C_drew ?_)));(case s4=>exact HCN.out);rintro e w5 ⟨rfl,hD⟩;have HB5:=ak (below_step HB4.out hD);clear hD))
 go_ret
 exact ⟨(by unfold yesF;rw [if_neg HL.out];rfl),z2j_0⟩
set_option maxHeartbeats 4000000 in
set_option maxRecDepth 100000 in
theorem logicOk_core (Au:Option Addr) (cu:Nat) (u:List (List Int)) (An:Option Addr) (cn:Nat) (nt:List Int) (w:World)
 (hu:Kd.C (Kd.slice 3 (Kd.int .i64)) w Au u.length u) (hcu:u.length≤cu) (hn:Kd.C (Kd.int .i64) w An nt.length nt) (hcn:nt.length≤cn) :
 Calls Try.prog 20 #[.agg #[.slice Au u.length cu,.slice An nt.length cn]] w fun e w'=>e = .returned (.bool (logicF u nt))∧Below w.heap.size w w':=by
 have hul:=Try.underlying27
 have HU:=ak hu
 have HC:=ak hcu
 have HN:=ak hn
 have HCN:=ak hcn
 clear hu hcu hn hcn
 by_cases hl:OL u nt
 ·
  have HL:=ak hl
  clear hl
  go_enter Try.func20,Try.ntmps20
  go_wp2_with (first
   | ((with_reducible refine gate_dst (N:=1) rfl ?_);refine bx_ (N:=1) (cs:=#[.slice Au u.length cu,.slice An nt.length cn]) (t:=27) ?_;intro gb hg w4 hbox hb;have hc0:w4.cell? ⟨gb,0,none⟩=some (.slice Au u.length cu):=(blk_cell hbox 0).trans rfl;have hc1:w4.cell? ⟨gb,1,none⟩=some (.slice An nt.length cn):=(blk_cell hbox 1).trans rfl;have HB4:=ak hb;clear hb hg hbox)
   | (go_at_call 68;(with_reducible refine (told_some _ _ u _ _ nt _ ?s1 ?s2 ?s3 ?s4 HL.out).mono ?_);(case s1=>repeat (first|exact (Kd.C_below HU.out HB4.out)|(with_reducible refine Kd.C_alloc ?_ _)|(with_reducible refine Kd.C_drewN ?_ _)|(with_reducible refine Kd.C_drew ?_)));(case s2=>exact HC.out);(case s3=>repeat (first|exact (Kd.C_below HN.out HB4.out)|(with_reducible refine Kd.C_alloc ?_ _)|(with_reducible refine Kd.C_drewN ?_ _)|(with_reducible refine Kd.C_drew ?_)));(case s4=>exact HCN.out);rintro e w5 ⟨g,rfl,hge,hAl,hD⟩;have HB5:=ak (below_step HB4.out hD);have HA:=ak hAl;clear hD hge hAl;skip))
  go_ret
  exact ⟨(by unfold logicF;rw [dT_ HL.out];rfl),z2j_0⟩
 have HL:=ak hl
 clear hl
 go_enter Try.func20,Try.ntmps20
 go_wp2_with (first
  | ((with_reducible refine gate_dst (N:=1) rfl ?_);refine bx_ (N:=1) (cs:=#[.slice Au u.length cu,.slice An nt.length cn]) (t:=27) ?_;intro gb hg w4 hbox hb;have hc0:w4.cell? ⟨gb,0,none⟩=some (.slice Au u.length cu):=(blk_cell hbox 0).trans rfl;have hc1:w4.cell? ⟨gb,1,none⟩=some (.slice An nt.length cn):=(blk_cell hbox 1).trans rfl;have HB4:=ak hb;clear hb hg hbox)
  | (go_at_call 68;(with_reducible refine (told_none _ _ u _ _ nt _ ?s1 ?s2 ?s3 ?s4 HL.out).mono ?_);(case s1=>repeat (first|exact (Kd.C_below HU.out HB4.out)|(with_reducible refine Kd.C_alloc ?_ _)|(with_reducible refine Kd.C_drewN ?_ _)|(with_reducible refine Kd.C_drew ?_)));(case s2=>exact HC.out);(case s3=>repeat (first|exact (Kd.C_below HN.out HB4.out)|(with_reducible refine Kd.C_alloc ?_ _)|(with_reducible refine Kd.C_drewN ?_ _)|(with_reducible refine Kd.C_drew ?_)));(case s4=>exact HCN.out);rintro e w5 ⟨rfl,hD⟩;have HB5:=ak (below_step HB4.out hD);clear hD))
 go_ret
 exact ⟨(by unfold logicF;rw [dF_ HL.out];rfl),z2j_0⟩
theorem impl_LogicOk.calls (A0_0:Option Addr) (c0_0:Nat) (l0_0:List (List Int)) (A0_1:Option Addr) (c0_1:Nat) (l0_1:List Int) (r:Bool) (w:World) (hr0_0:Kd.C (Kd.slice 3 (Kd.int .i64)) w A0_0 l0_0.length l0_0) (hc0_0:l0_0.length≤c0_0) (hr0_1:Kd.C (Kd.int .i64) w A0_1 l0_1.length l0_1) (hc0_1:l0_1.length≤c0_1) (h:impl_LogicOk.f l0_0 l0_1=some r) :
    Calls Try.prog 20 #[.agg #[.slice A0_0 l0_0.length c0_0,.slice A0_1 l0_1.length c0_1]] w fun e w'=>e = .returned (.bool r)∧Below w.heap.size w w':=by
  have e:=Option.some.inj h
  subst e
  exact logicOk_core A0_0 c0_0 l0_0 A0_1 c0_1 l0_1  w hr0_0 hc0_0 hr0_1 hc0_1
theorem impl_NoOf.calls (A0_0:Option Addr) (c0_0:Nat) (l0_0:List (List Int)) (A0_1:Option Addr) (c0_1:Nat) (l0_1:List Int) (r:Int) (w:World) (hr0_0:Kd.C (Kd.slice 3 (Kd.int .i64)) w A0_0 l0_0.length l0_0) (hc0_0:l0_0.length≤c0_0) (hr0_1:Kd.C (Kd.int .i64) w A0_1 l0_1.length l0_1) (hc0_1:l0_1.length≤c0_1) (h:impl_NoOf.f l0_0 l0_1=some r) :
    Calls Try.prog 54 #[.agg #[.slice A0_0 l0_0.length c0_0,.slice A0_1 l0_1.length c0_1]] w fun e w'=>e = .returned (.int .i64 r)∧Below w.heap.size w w':=by
  have e:=Option.some.inj h
  subst e
  exact noOf_core A0_0 c0_0 l0_0 A0_1 c0_1 l0_1  w hr0_0 hc0_0 hr0_1 hc0_1
theorem impl_YesOf.calls (A0_0:Option Addr) (c0_0:Nat) (l0_0:List (List Int)) (A0_1:Option Addr) (c0_1:Nat) (l0_1:List Int) (r:Int) (w:World) (hr0_0:Kd.C (Kd.slice 3 (Kd.int .i64)) w A0_0 l0_0.length l0_0) (hc0_0:l0_0.length≤c0_0) (hr0_1:Kd.C (Kd.int .i64) w A0_1 l0_1.length l0_1) (hc0_1:l0_1.length≤c0_1) (h:impl_YesOf.f l0_0 l0_1=some r) :
    Calls Try.prog 55 #[.agg #[.slice A0_0 l0_0.length c0_0,.slice A0_1 l0_1.length c0_1]] w fun e w'=>e = .returned (.int .i64 r)∧Below w.heap.size w w':=by
  have e:=Option.some.inj h
  subst e
  exact yesOf_core A0_0 c0_0 l0_0 A0_1 c0_1 l0_1  w hr0_0 hc0_0 hr0_1 hc0_1
end Go.Proofs.Ytacifhahfamipaa.P

namespace Go.Proofs.Ytacifhahfamipaa.P
open Go.RowKit Go.Proofs.YtacifhahfamipaaW.PrintWords Go.Proofs.YtacifhahfamipaaW.PrintLast Go.Proofs.YtacifhahfamipaaW.PrintMore
set_option linter.unusedVariables false
set_option linter.unusedSimpArgs false
structure Res where
 At:Nat→World→Nat→Nat→Prop
 mv : ∀ {B:Nat} {W W1:World} {b e:Nat} {ok:Nat→Prop},At B W b e→Kept W W1 ok→(∀ k,ok k→k<b∨e≤k)→At B W1 b e
 up : ∀ {B:Nat} {W:World} {b e e':Nat},At B W b e→e≤e'→At B W b e'
namespace Res
def box (g:Nat) (cs:Array Value) (t:Nat):Res where
 At:=fun _ W b e=>(b≤g∧g<e)∧W.heap[g]?=some (.cells cs t (0,0))
 mv:=fun h hk hn=>⟨h.1,blk_kept h.2 hk (fun q=>by have:=hn g q;have:=h.1;omega)⟩
 up:=fun h he=>⟨⟨h.1.1,Nat.lt_of_lt_of_le h.1.2 he⟩,h.2⟩
def rows (v:Value) (u:List (List Int)):Res where
 At:=fun B W b e=>Kd.S (Kd.slice 3 (Kd.int .i64)) 25 W B (fun k=>b≤k∧k<e) v u
 mv:=fun h hk hn=>Kd.S_kept h hk (fun k q r=>by have:=hn k r;omega)
 up:=fun h he=>Kd.S_mono h (fun k q=>⟨q.1,Nat.lt_of_lt_of_le q.2 he⟩)
def ints (v:Value) (n:List Int):Res where
 At:=fun B W b e=>Kd.R (Kd.int .i64) 3 W B (fun k=>b≤k∧k<e) v n
 mv:=fun h hk hn=>Kd.R_kept h hk (fun k q r=>by have:=hn k r;omega)
 up:=fun h he=>Kd.R_mono h (fun k q=>⟨q.1,Nat.lt_of_lt_of_le q.2 he⟩)
def logic (v0 v1:Value) (u:List (List Int)) (n:List Int):Res where
 At:=fun B W b e=>Kd.S (Kd.slice 3 (Kd.int .i64)) 25 W B (fun k=>(b≤k∧k<e)∧some k≠v1.ownBlock) v0 u∧Kd.R (Kd.int .i64) 3 W B (fun k=>(b≤k∧k<e)∧some k=v1.ownBlock) v1 n
 mv:=fun h hk hn=>⟨Kd.S_kept h.1 hk (fun k q r=>by have:=hn k r;have:=q.1;omega),Kd.R_kept h.2 hk (fun k q r=>by have:=hn k r;have:=q.1;omega)⟩
 up:=fun h he=>⟨Kd.S_mono h.1 (fun k q=>⟨⟨q.1.1,Nat.lt_of_lt_of_le q.1.2 he⟩,q.2⟩),Kd.R_mono h.2 (fun k q=>⟨⟨q.1.1,Nat.lt_of_lt_of_le q.1.2 he⟩,q.2⟩)⟩
end Res
def LiveTo (B:Nat) (W:World):Nat→List Res→Prop
 | e,[]=>B≤e
 | e,r::rs=>∃ b,b≤e∧r.At B W b e∧LiveTo B W b rs
namespace LiveTo
variable {B:Nat} {W W1:World} {e e':Nat} {r:Res} {rs post:List Res}
theorem up (h:LiveTo B W e rs) (he:e≤e'):LiveTo B W e' rs:=by
 cases rs with
 | nil=>exact Nat.le_trans h he
 | cons r rs =>
  obtain ⟨b,hb,hr,hs⟩:=h
  exact ⟨b,Nat.le_trans hb he,r.up hr he,hs⟩
theorem ge (h:LiveTo B W e rs):B≤e:=by
 induction rs generalizing e with
 | nil=>exact h
 | cons r rs ih =>
  obtain ⟨b,hb,_,hs⟩:=h
  exact Nat.le_trans (ih hs) hb
theorem mv {ok:Nat→Prop} (h:LiveTo B W e rs) (hk:Kept W W1 ok) (hn : ∀ k,ok k→e≤k):LiveTo B W1 e rs:=by
 induction rs generalizing e with
 | nil=>exact h
 | cons r rs ih =>
  obtain ⟨b,hb,hr,hs⟩:=h
  exact ⟨b,hb,r.mv hr hk (fun k q=>.inr (hn k q)),ih hs (fun k q=>Nat.le_trans hb (hn k q))⟩
theorem at_ (pre:List Res) (h:LiveTo B W e (pre++r::post)) : ∃ b e1,e1≤e∧B≤b∧r.At B W b e1∧∀ W1 r',Kept W W1 (fun k=>b≤k∧k<e1)→r'.At B W1 b e1→LiveTo B W1 e (pre++r'::post):=by
 induction pre generalizing e with
 | nil =>
  obtain ⟨b,hb,hr,hs⟩:=h
  exact ⟨b,e,Nat.le_refl _,hs.ge,hr,fun W1 r' hk hr'=>⟨b,hb,hr',hs.mv hk (fun k q=>q.1)⟩⟩
 | cons x pre ih =>
  obtain ⟨b0,hb,hx,hs⟩:=h
  obtain ⟨b,e1,he,hB,hr,hput⟩:=ih hs
  exact ⟨b,e1,Nat.le_trans he hb,hB,hr,fun W1 r' hk hr'=>⟨b0,hb,x.mv hx hk (fun k q=>.inl (Nat.lt_of_lt_of_le q.2 he)),hput W1 r' hk hr'⟩⟩
end LiveTo
structure Live (w W:World) (rs:List Res):Prop where
 below:Below w.heap.size w W
 its:LiveTo w.heap.size W W.heap.size rs
namespace Live
variable {w W W1:World} {r:Res} {rs post:List Res} {g t:Nat} {cs:Array Value} {v v0 v1:Value} {u:List (List Int)} {n:List Int} {ok:Nat→Prop}
theorem start (w:World):Live w w []:=⟨Below.refl _ _,Nat.le_refl _⟩
theorem mv_ (h:Live w W rs) (hb:Below W.heap.size W W1):LiveTo w.heap.size W1 W.heap.size rs:=h.its.mv (Kept.of_below hb (fun _=>False)) (fun _ q=>q.elim)
theorem step (h:Live w W rs) (hb:Below W.heap.size W W1):Live w W1 rs:=⟨below_step h.below hb,(h.mv_ hb).up hb.size⟩
theorem drewN (h:Live w W rs) (m:Nat):Live w (W.drewN m) rs:=h.step (pw_below_drewN (Below.refl _ _) m)
theorem drew (h:Live w W rs):Live w W.drew rs:=h.step (below_drew (Below.refl _ _))
theorem box (h:Live w W rs) (hb:Below W.heap.size W W1) (hg:g=W.heap.size) (hc:W1.heap[g]?=some (.cells cs t (0,0))):Live w W1 (.box g cs t::rs) :=
 ⟨below_step h.below hb,W.heap.size,hb.size,⟨⟨Nat.le_of_eq hg.symm,blk_lt hc⟩,hc⟩,h.mv_ hb⟩
theorem rows (h:Live w W rs) (hs:Kd.S (Kd.slice 3 (Kd.int .i64)) 25 W1 W.heap.size ok v u) (hb:Below W.heap.size W W1):Live w W1 (.rows v u::rs) :=
 ⟨below_step h.below hb,W.heap.size,hb.size,Kd.S_mono (Kd.S_lower (Kd.S_bound hs) h.its.ge) (fun k q=>⟨q.2.1,q.2.2.1⟩),h.mv_ hb⟩
theorem ints (h:Live w W rs) (hs:Kd.R (Kd.int .i64) 3 W1 W.heap.size ok v n) (hb:Below W.heap.size W W1):Live w W1 (.ints v n::rs) :=
 ⟨below_step h.below hb,W.heap.size,hb.size,Kd.R_mono (Kd.R_lower (Kd.R_bound hs) h.its.ge) (fun k q=>⟨q.2.1,q.2.2.1⟩),h.mv_ hb⟩
theorem logic (h:Live w W rs) (hs:Kd.S (Kd.slice 3 (Kd.int .i64)) 25 W1 W.heap.size (fun k=>some k≠v1.ownBlock) v0 u) (hr:Kd.R (Kd.int .i64) 3 W1 W.heap.size ok v1 n) (hb:Below W.heap.size W W1):Live w W1 (.logic v0 v1 u n::rs) :=
 ⟨below_step h.below hb,W.heap.size,hb.size,⟨Kd.S_mono (Kd.S_lower (Kd.S_bound hs) h.its.ge) (fun k q=>⟨⟨q.2.1,q.2.2.1⟩,q.1⟩),Kd.R_mono (Kd.R_lower (Kd.R_bound (Kd.R_tight rfl hr)) h.its.ge) (fun k q=>⟨⟨q.2.1,q.2.2.1⟩,q.1⟩)⟩,h.mv_ hb⟩
theorem at_ (pre:List Res) (h:Live w W (pre++r::post)) : ∃ b e,w.heap.size≤b∧e≤W.heap.size∧r.At w.heap.size W b e∧∀ W1 r',Below w.heap.size w W1→Kept W W1 (fun k=>b≤k∧k<e)→r'.At w.heap.size W1 b e→Live w W1 (pre++r'::post):=by
 obtain ⟨b,e,he,hb,hr,hput⟩:=h.its.at_ pre
 exact ⟨b,e,hb,he,hr,fun W1 r' h1 hk hr'=>⟨h1,(hput W1 r' hk hr').up hk.1⟩⟩
theorem put (pre:List Res) (h:Live w W (pre ++ .box g cs t::post)) (j:Nat) (x:Value) {cs':Array Value} (hc:cs.setIfInBounds j x=cs'):Live w (W.setCell ⟨g,j,none⟩ x) (pre ++ .box g cs' t::post):=by
 obtain ⟨b,e,hb,he,hr,hput⟩:=h.at_ pre
 exact hput _ _ (below_set h.below (Nat.le_trans hb hr.1.1)) ((Kept.refl W _).setCell (.inl hr.1) x) ⟨hr.1,blk_put hr.2 j x hc⟩
theorem set0 {a b x:Value} (h:Live w W (.box g #[a,b] t::post)):Live w (W.setCell ⟨g,0,none⟩ x) (.box g #[x,b] t::post):=put [] h 0 x rfl
theorem set1 {a b x:Value} (h:Live w W (.box g #[a,b] t::post)):Live w (W.setCell ⟨g,1,none⟩ x) (.box g #[a,x] t::post):=put [] h 1 x rfl
theorem seti {a x:Value} (h:Live w W (.box g #[a] t::post)):Live w (W.setCell ⟨g,0,none⟩ x) (.box g #[x] t::post):=put [] h 0 x rfl
theorem cells (pre:List Res) (h:Live w W (pre ++ .box g cs t::post)):W.heap[g]?=some (.cells cs t (0,0)):=by
 obtain ⟨b,e,hb,he,hr,hput⟩:=h.at_ pre
 exact hr.2
theorem cell (pre:List Res) (h:Live w W (pre ++ .box g cs t::post)) (j:Nat) {x:Value} (hx:cs[j]?=some x):W.cell? ⟨g,j,none⟩=some x:=(blk_cell (cells pre h) j).trans hx
theorem frozen (pre:List Res) (h:Live w W (pre ++ .box g cs t::post)) (j:Nat):W.frozen? ⟨g,j,none⟩=false:=blk_frozen (cells pre h) j
variable {A A1:Option Addr} {c c1 m m1:Nat}
theorem rowsAt (pre:List Res) (h:Live w W (pre ++ .rows v u::post)) : ∃ b e,(w.heap.size≤b∧e≤W.heap.size)∧Kd.S (Kd.slice 3 (Kd.int .i64)) 25 W w.heap.size (fun k=>b≤k∧k<e) v u ∧
    ∀ W1 u',Below w.heap.size w W1→Kept W W1 (fun k=>b≤k∧k<e)→Kd.S (Kd.slice 3 (Kd.int .i64)) 25 W1 w.heap.size (fun k=>b≤k∧k<e) v u'→Live w W1 (pre ++ .rows v u'::post):=by
  obtain ⟨b,e,hb,he,hr,hput⟩:=h.at_ pre
  exact ⟨b,e,⟨hb,he⟩,hr,fun W1 u' h1 hk hs=>hput W1 (.rows v u') h1 hk hs⟩
theorem intsAt (pre:List Res) (h:Live w W (pre ++ .ints v n::post)) : ∃ b e,(w.heap.size≤b∧e≤W.heap.size)∧Kd.R (Kd.int .i64) 3 W w.heap.size (fun k=>b≤k∧k<e) v n ∧
    ∀ W1 n',Below w.heap.size w W1→Kept W W1 (fun k=>b≤k∧k<e)→Kd.R (Kd.int .i64) 3 W1 w.heap.size (fun k=>b≤k∧k<e) v n'→Live w W1 (pre ++ .ints v n'::post):=by
  obtain ⟨b,e,hb,he,hr,hput⟩:=h.at_ pre
  exact ⟨b,e,⟨hb,he⟩,hr,fun W1 n' h1 hk hs=>hput W1 (.ints v n') h1 hk hs⟩
theorem logicAt (pre:List Res) (h:Live w W (pre ++ .logic v0 v1 u n::post)) : ∃ b e,(w.heap.size≤b∧e≤W.heap.size)∧Kd.S (Kd.slice 3 (Kd.int .i64)) 25 W w.heap.size (fun k=>(b≤k∧k<e)∧some k≠v1.ownBlock) v0 u∧Kd.R (Kd.int .i64) 3 W w.heap.size (fun k=>(b≤k∧k<e)∧some k=v1.ownBlock) v1 n ∧
    ∀ W1 u' n',Below w.heap.size w W1→Kept W W1 (fun k=>b≤k∧k<e)→Kd.S (Kd.slice 3 (Kd.int .i64)) 25 W1 w.heap.size (fun k=>(b≤k∧k<e)∧some k≠v1.ownBlock) v0 u'→Kd.R (Kd.int .i64) 3 W1 w.heap.size (fun k=>(b≤k∧k<e)∧some k=v1.ownBlock) v1 n'→Live w W1 (pre ++ .logic v0 v1 u' n'::post):=by
  obtain ⟨b,e,hb,he,hr,hput⟩:=h.at_ pre
  exact ⟨b,e,⟨hb,he⟩,hr.1,hr.2,fun W1 u' n' h1 hk hs ht=>hput W1 (.logic v0 v1 u' n') h1 hk ⟨hs,ht⟩⟩
theorem iC_ {B:Nat} (h:Kd.R (Kd.int .i64) 3 W B ok (.slice A m c) n):Kd.C (Kd.int .i64) W A m n∧m≤c:=by
 obtain ⟨h1,h2,h3⟩:=Kd.R_reads' h
 exact ⟨by rw [h1];exact h3,h2⟩
theorem intsC (pre:List Res) (h:Live w W (pre ++ .ints (.slice A m c) n::post)):Kd.C (Kd.int .i64) W A m n∧m≤c:=by
 obtain ⟨b,e,hb,hr,hput⟩:=h.intsAt pre
 exact iC_ hr
theorem ret (h:Live w W (.logic v0 v1 u n::rs)):Kd.S (Kd.slice 3 (Kd.int .i64)) 25 W w.heap.size (fun k_=>some k_≠v1.ownBlock) v0 u∧Kd.R (Kd.int .i64) 3 W w.heap.size (fun _=>True) v1 n∧Below w.heap.size w W:=by
 obtain ⟨b,e,hb,hr,ht,hput⟩:=logicAt [] h
 exact ⟨Kd.S_mono hr (fun k q=>q.2),Kd.R_mono ht (fun k q=>trivial),h.below⟩
theorem came {α:Type} {d:Kd α} {xs:List α} (h:Live w W rs) (hc:d.C w A m xs):d.C W A m xs:=Kd.C_below hc h.below
end Live
theorem arm_ {P:Program} {f:FuncId} {args:Array Value} {K:Ending→World→Prop} {w W W':World} {rs rs':List Res} (HL:Aside0 (Live w W rs)) (h:Aside0 (Live w W' rs')→Calls P f args W' K)
    (k:Live w W rs→Live w W' rs':=by intro y0_;repeat (first|exact y0_|(with_reducible apply Live.drewN)|(with_reducible apply Live.drew)|apply Live.set1|apply Live.set0|apply Live.seti)):Calls P f args W' K:=h ⟨k HL.out⟩
theorem armb_ {P:Program} {ops:Array Oper} {l:List Oper} {Q:Exit→Act→World→Prop} {a:Act} {w W W':World} {rs rs':List Res} (HL:Aside0 (Live w W rs)) (h:Aside0 (Live w W' rs')→wpList P ops Q l a W')
    (k:Live w W rs→Live w W' rs':=by intro y0_;repeat (first|exact y0_|(with_reducible apply Live.drewN)|(with_reducible apply Live.drew)|apply Live.set1|apply Live.set0|apply Live.seti)):wpList P ops Q l a W':=h ⟨k HL.out⟩
theorem Live.ne_ {w W:World} {g g1 t t1:Nat} {cs cs1:Array Value} {post:List Res} (pre:List Res) (h:Live w W (.box g cs t::(pre ++ .box g1 cs1 t1::post))):g≠g1:=by
 obtain ⟨b,hb,hr,hs⟩:=h.its
 obtain ⟨b1,e1,he,hB,hr1,_⟩:=hs.at_ pre
 have q1:=hr.1.1
 have q2:=hr1.1.2
 omega
theorem key_lit (x:Int):WideAt.IsKeyLit (.int .i64 x):=by unfold WideAt.IsKeyLit;exact True.intro
structure MapIs (l:List Int) (k:Nat) (D:DataW Unit):Prop where
 tidy:Maps.Tidy D
 at_ : ∀ x,D.atKey (.int .i64 x) (.lit (.int .i64 0)) = .lit (.int .i64 (lastP l k x))
 has_ : ∀ x,Maps.has D (.int .i64 x)=inP l k x
 size_:Maps.size D=szP l k
theorem MapIs.none (l:List Int):MapIs l 0 (.map []):=⟨Maps.tidy_empty,fun _=>rfl,fun _=>rfl,rfl⟩
theorem MapIs.step {l:List Int} {k:Nat} {D:DataW Unit} (h:MapIs l k D):MapIs l (k+1) (D.put (.int .i64 (l.getD k 0)) (.lit (.int .i64 k))):=by
 refine ⟨h.tidy.put (key_lit _) _,fun x=>?_,fun x=>?_,?_⟩
 ·unfold lastP
  by_cases q:x=l.getD k 0
  ·subst q
   rw [if_pos rfl]
   exact Maps.atKey_put_same h.tidy.isMap (key_lit _) _ _
  ·rw [if_neg q,Maps.atKey_put_other (fun e=>q (by injection e)) _ _]
   exact h.at_ x
 ·unfold inP
  by_cases q:x=l.getD k 0
  ·subst q
   rw [if_pos rfl]
   exact Maps.has_put_same h.tidy.isMap (key_lit _) _
  ·rw [if_neg q,Maps.has_put_other (fun e=>q (by injection e)) _]
   exact h.has_ x
 ·rw [Maps.size_put h.tidy,h.has_,h.size_]
  rfl
def MapAt (w:World) (g:Nat) (l:List Int) (k:Nat):Prop:=∃ D:DataW Unit,w.ownsMap Try.prog 3 (plainElem Try.prog 3) g k D∧MapIs l k D
theorem MapAt.lt {w:World} {g:Nat} {l:List Int} {k:Nat} (h:MapAt w g l k):g<w.heap.size:=by obtain ⟨D,h1,h2⟩:=h;exact h1.lt
theorem MapAt.of {w w1:World} {g:Nat} {l:List Int} {k:Nat} (h:MapAt w g l k) (he:w1.heap[g]?=w.heap[g]?):MapAt w1 g l k:=by
 obtain ⟨D,⟨es,clock,hb,F,hs,hD⟩,h2⟩:=h
 exact ⟨D,⟨es,clock,he.trans hb,F,hs,hD⟩,h2⟩
theorem MapAt.below {w w1:World} {g:Nat} {l:List Int} {k:Nat} (h:MapAt w g l k) (hb:Below w.heap.size w w1):MapAt w1 g l k:=h.of (hb.block g h.lt)
theorem MapAt.len {w:World} {g:Nat} {l:List Int} {k:Nat} (h:MapAt w g l k) (ty:TypeId):(Builtin.len_ #[75] ty #[.map (some g)]).run Try.prog w = .ok (.int .i64 (szP l k)) w:=by
 obtain ⟨D,h1,h2⟩:=h
 rw [← h2.size_]
 exact h1.len Try.underlying75 ty
namespace Res
def map (g:Nat) (l:List Int) (k:Nat):Res where
 At:=fun _ W b e=>(b≤g∧g<e)∧MapAt W g l k
 mv:=fun h hk hn=>⟨h.1,h.2.of (hk.2 g h.2.lt (fun q=>by have:=hn g q;have:=h.1;omega))⟩
 up:=fun h he=>⟨⟨h.1.1,Nat.lt_of_lt_of_le h.1.2 he⟩,h.2⟩
end Res
namespace Live
variable {w W W1:World} {rs post:List Res} {g t k:Nat} {l:List Int}
theorem low {cs:Array Value} (pre:List Res) (h:Live w W (pre ++ .box g cs t::post)):g<W.heap.size:=blk_lt (Live.cells pre h)
theorem high {cs:Array Value} (pre:List Res) (h:Live w W (pre ++ .box g cs t::post)):w.heap.size≤g:=by
 obtain ⟨b,e,hb,he,hr,hput⟩:=h.at_ pre
 have:=hr.1
 omega
end Live
structure MadeSt (w W:World) (cu cn vu vn:Value) (u:List (List Int)) (nt:List Int):Prop where
 below:Below w.heap.size w W
 res:W.heap[w.heap.size]?=some (.cells #[.slice none 0 0,.slice none 0 0] 27 (0,0))
 box:W.heap[w.heap.size+1]?=some (.cells #[cu,cn] 27 (0,0))
 A:Kd.S (Kd.slice 3 (Kd.int .i64)) 25 W w.heap.size (fun k=>some k≠vn.ownBlock) vu u
 B:Kd.R (Kd.int .i64) 3 W w.heap.size (fun _=>True) vn nt
namespace MadeSt
variable {w W w1:World} {cu cn vu vn:Value} {u:List (List Int)} {nt:List Int}
theorem up (G:MadeSt w W cu cn vu vn u nt) (h:Below W.heap.size W w1):MadeSt w w1 cu cn vu vn u nt :=
 ⟨below_step G.below h,blk_below G.res h,blk_below G.box h,Kd.S_below G.A h,Kd.R_below G.B h⟩
theorem alloc (G:MadeSt w W cu cn vu vn u nt) (x:Obj):MadeSt w (W.alloc x) cu cn vu vn u nt:=G.up (below_alloc (Below.refl _ _) x)
theorem drew (G:MadeSt w W cu cn vu vn u nt):MadeSt w W.drew cu cn vu vn u nt:=G.up (below_drew (Below.refl _ _))
theorem drewN (G:MadeSt w W cu cn vu vn u nt) (n:Nat):MadeSt w (W.drewN n) cu cn vu vn u nt:=G.up (pw_below_drewN (Below.refl _ _) n)
theorem ge (G:MadeSt w W cu cn vu vn u nt):w.heap.size≤w.heap.size+1:=Nat.le_succ _
theorem setU (G:MadeSt w W cu cn vu vn u nt) (x:Value):MadeSt w (W.setCell ⟨w.heap.size+1,0,none⟩ x) x cn vu vn u nt :=
 ⟨below_set G.below (Nat.le_succ _),blk_far G.res (by show w.heap.size≠w.heap.size+1;omega) _,blk_put G.box 0 _ rfl,Kd.S_set G.A G.box (by decide) 0 _,Kd.R_set G.B G.box (by decide) 0 _⟩
theorem setN (G:MadeSt w W cu cn vu vn u nt) (x:Value):MadeSt w (W.setCell ⟨w.heap.size+1,1,none⟩ x) cu x vu vn u nt :=
 ⟨below_set G.below (Nat.le_succ _),blk_far G.res (by show w.heap.size≠w.heap.size+1;omega) _,blk_put G.box 1 _ rfl,Kd.S_set G.A G.box (by decide) 1 _,Kd.R_set G.B G.box (by decide) 1 _⟩
theorem grownU {v1:Value} {u1:List (List Int)} (G:MadeSt w W cu cn vu vn u nt) (hS:Kd.S (Kd.slice 3 (Kd.int .i64)) 25 w1 w.heap.size (fun k=>some k≠vn.ownBlock) v1 u1) (hB:Below w.heap.size w w1)
 (hg:W.grownBy w1 vu.ownBlock) (hat:v1.ownBlock=vu.ownBlock∨∃ b,v1.ownBlock=some b∧W.heap.size≤b):MadeSt w w1 cu cn v1 vn u1 nt :=
 ⟨hB,blk_grown G.res hg (Kd.S_ne G.A G.res (by decide)),blk_grown G.box hg (Kd.S_ne G.A G.box (by decide)),hS,
  Kd.R_mono (Kd.R_after (ok:=fun _=>True) (Kd.R_apart' G.B (Kd.S_typed G.A) (by decide)) hg hat) (fun _ _=>trivial)⟩
theorem grownN {v1:Value} {n1:List Int} (G:MadeSt w W cu cn vu vn u nt) (hR:Kd.R (Kd.int .i64) 3 w1 w.heap.size (fun _=>True) v1 n1) (hB:Below w.heap.size w w1)
 (hg:W.grownBy w1 vn.ownBlock) (hat:v1.ownBlock=vn.ownBlock∨∃ b,v1.ownBlock=some b∧W.heap.size≤b):MadeSt w w1 cu cn vu v1 u n1 :=
 ⟨hB,blk_grown G.res hg (Kd.R_ne G.B G.res (by decide)),blk_grown G.box hg (Kd.R_ne G.B G.box (by decide)),
  Kd.S_mono (Kd.S_after (ok:=fun _=>True) (Kd.S_mono G.A (fun _ hk=>⟨trivial,hk⟩)) hg hat) (fun _ hk=>hk.2),hR⟩
theorem cell0 (G:MadeSt w W cu cn vu vn u nt):W.cell? ⟨w.heap.size+1,0,none⟩=some cu:=(blk_cell G.box 0).trans rfl
theorem cell1 (G:MadeSt w W cu cn vu vn u nt):W.cell? ⟨w.heap.size+1,1,none⟩=some cn:=(blk_cell G.box 1).trans rfl
end MadeSt
def rowB (n:Nat) (U:Nat→Nat→Bool) (a b:Nat):List Int:=((List.range b).map fun c=>if U a c=true then 1 else 0)++List.replicate (n-b) 0
theorem rowB_len (n:Nat) (U:Nat→Nat→Bool) (a b:Nat) (h:b≤n):(rowB n U a b).length=n:=by simp [rowB];omega
theorem rowB_zero (n:Nat) (U:Nat→Nat→Bool) (a:Nat):rowB n U a 0=List.replicate n 0:=by simp [rowB]
theorem rowB_full (n:Nat) (U:Nat→Nat→Bool) (a:Nat):rowB n U a n=(List.range n).map fun c=>if U a c=true then 1 else 0:=by simp [rowB]
theorem rowB_one (n:Nat) (U:Nat→Nat→Bool) (a b:Nat) (h:b<n) (hU:U a b=true):(rowB n U a b).set b 1=rowB n U a (b+1):=by
 unfold rowB
 rw [List.set_append,if_neg (by simp),List.length_map,List.length_range,Nat.sub_self,show n-b=(n-(b+1))+1 by omega,List.replicate_succ,List.set_cons_zero,List.range_succ,List.map_append,List.append_assoc]
 simp [hU]
theorem rowB_no (n:Nat) (U:Nat→Nat→Bool) (a b:Nat) (h:b<n) (hU:U a b=false):rowB n U a b=rowB n U a (b+1):=by
 unfold rowB
 rw [show n-b=(n-(b+1))+1 by omega,List.replicate_succ,List.range_succ,List.map_append,List.append_assoc]
 simp [hU]
def rowsB (n:Nat) (U:Nat→Nat→Bool) (i:Nat):List (List Int):=(List.range i).map fun a=>(List.range n).map fun b=>if U a b=true then 1 else 0
theorem rowsB_succ (n:Nat) (U:Nat→Nat→Bool) (i:Nat):rowsB n U (i+1)=rowsB n U i ++ [(List.range n).map fun b=>if U i b=true then 1 else 0]:=by simp [rowsB,List.range_succ]
theorem rowsB_len (n:Nat) (U:Nat→Nat→Bool) (i:Nat):(rowsB n U i).length=i:=by simp [rowsB]
theorem madeN_succ (N:Nat→Int) (i:Nat):madeN (i+1) N=madeN i N ++ [N i]:=by simp [madeN,List.range_succ]
theorem madeN_len (N:Nat→Int) (i:Nat):(madeN i N).length=i:=by simp [madeN]
set_option maxHeartbeats 8000000 in
set_option maxRecDepth 100000 in
theorem made_calls {w:World} (n:Nat) (hn:n≤12) (k1 k2:Nat) (cap1 cap2:Array Value) (hk1:Enters Try.prog k1) (hk2:Enters Try.prog k2) (U:Nat→Nat→Bool) (N:Nat→Int)
 (h1 : ∀ w' (a b:Nat),Below w.heap.size w w'→a<n→b<n→Calls Try.prog k1 (#[.int .i64 a,.int .i64 b]++cap1) w' fun e w2=>e = .returned (.bool (U a b))∧Drawn0 w' w2)
 (h2 : ∀ w' (a:Nat),Below w.heap.size w w'→a<n→Calls Try.prog k2 (#[.int .i64 a]++cap2) w' fun e w2=>e = .returned (.int .i64 (N a))∧Drawn0 w' w2) :
 Calls Try.prog 63 #[.int .i64 n,.func (.func k1) #[] cap1,.func (.func k2) #[] cap2] w fun e w'=>∃ v0_ v1_:Value,e = .returned (.agg #[v0_,v1_])∧Kd.S (Kd.slice 3 (Kd.int .i64)) 25 w' w.heap.size (fun k_=>some k_≠(v1_:Value).ownBlock) v0_ (madeU n U)∧Kd.R (Kd.int .i64) 3 w' w.heap.size (fun _=>True) v1_ (madeN n N)∧Below w.heap.size w w':=by
 have eg1 : ∀ (args:Array Value) (w:World),(callFunc k1 args).run Try.prog w = .ok (.enter k1 args) w:=hk1
 have eg2 : ∀ (args:Array Value) (w:World),(callFunc k2 args).run Try.prog w = .ok (.enter k2 args) w:=hk2
 have hul:=Try.underlying27
 have H1:=ak h1
 have H2:=ak h2
 clear h1 h2 hk1 hk2
 go_enter Try.func63,Try.ntmps63
 go_wp2
 go_loopw [12] (fun a0 wr=>∃ (i:Nat) (vu vn:Value),i≤n∧a0 = .int .i64 i∧Aside0 (MadeSt w wr vu vn vu vn (rowsB n U i) (madeN i N))) (fun a0 _=>n-(intOf a0).toNat)
 case atStart=>exact ⟨0,.slice none 0 0,.slice none 0 0,Nat.zero_le _,rfl,⟨⟨below_alloc (below_alloc (Below.refl _ _) _) _,blk_alloc (blk_new w _) _,(by have:=blk_new (w.alloc (.cells #[.slice none 0 0,.slice none 0 0] 27)) (.cells #[.slice none 0 0,.slice none 0 0] 27);rw [show (w.alloc (.cells #[.slice none 0 0,.slice none 0 0] 27)).heap.size=w.heap.size+1 by simp] at this;exact this),Kd.S_nil _ _ _ _ _,Kd.R_nil _ _ _ _ _⟩⟩⟩
 case round =>
  obtain ⟨i,vu,vn,hi,rfl,G⟩:=hrel
  by_cases hlt:i<n
  ·
   obtain ⟨W1,hW1⟩ : ∃ W1,W1=wr:=⟨_,rfl⟩
   subst hW1
   go_wp2_with ((with_reducible refine gate_dst (N:=16) rfl ?_);refine Kd.R_make (Kd.int .i64) _ 3 rfl (N:=16) rfl 25 _ _ rfl (n:Int) rfl rfl Try.underlying25 (.int .i64 0) 8 info3 rfl (by decide) (by omega) 0 (ok:=fun _=>True) (okp:=fun _=>True) rfl (fun _ hk=>hk) trivial (by omega) (by omega) (Below.refl _ _) (Nat.le_refl _) ?_;intro v9 w4 ho hb hg_ hnew_;clear hg_ hnew_;rw [Int.toNat_natCast] at ho;have HO:=ak ho;have HB:=ak hb;clear ho hb)
   go_loopw [18] (fun a1 wr=>∃ (b:Nat),b≤n∧a1 = .int .i64 b∧Aside0 (Kd.R (Kd.int .i64) 3 wr W1.heap.size (fun _=>True) v9 (rowB n U i b))∧Aside0 (Below W1.heap.size W1 wr)) (fun a1 _=>n-(intOf a1).toNat)
   case atStart=>exact ⟨0,Nat.zero_le _,rfl,⟨(by rw [rowB_zero];exact HO.out)⟩,HB⟩
   case round =>
    clear HO HB
    obtain ⟨b,hb,rfl,HO,HB⟩:=hrel
    by_cases hbt:b<n
    ·
     cases hU:U i b with
     | true =>
      have HU:=ak hU
      clear hU
      have HL:=ak (rowB_len n U i b hb)
      obtain ⟨g9,c9,rfl,hg9,hl9,cl9,hc9⟩:=Kd.R_form HO.out (by rw [HL.out];omega)
      obtain ⟨hx9,hf9⟩:=Kd.R_celln 0 HO.out (b:Int) (by omega) (by rw [HL.out];omega)
      rw [Int.toNat_natCast] at hx9 hf9
      generalize rdOf 0 (rowB n U i b) (b:Int)=x9 at hx9
      rw [HL.out] at HO ⊢
      have a2:=ak hg9
      clear hc9 cl9 hg9 hl9
      go_wp2_with (go_at_fn k1;(with_reducible refine (H1.out _ i b (below_step G.out.below HB.out) hlt hbt).mono ?_);rw [HU.out];rintro e w5 ⟨rfl,hD⟩;obtain ⟨nd,rfl⟩:=hD)
      go_roundw
      case rel=>exact ⟨b+1,(by omega),(by go_num),⟨(by have:=(Kd.R_putg (Kd.R_drewN HO.out nd) (b:Int) 1).1;rw [Int.toNat_natCast,rowB_one n U i b hbt HU.out] at this;exact this)⟩,⟨below_set (pw_below_drewN HB.out nd) a2.out⟩⟩
      case measure=>simp [intOf];omega
     | false =>
      have HU:=ak hU
      clear hU
      go_wp2_with (go_at_fn k1;(with_reducible refine (H1.out _ i b (below_step G.out.below HB.out) hlt hbt).mono ?_);rw [HU.out];rintro e w5 ⟨rfl,hD⟩;obtain ⟨nd,rfl⟩:=hD)
      go_roundw
      case rel=>exact ⟨b+1,(by omega),(by go_num),⟨(by rw [← rowB_no n U i b hbt HU.out];exact Kd.R_drewN HO.out nd)⟩,⟨pw_below_drewN HB.out nd⟩⟩
      case measure=>simp [intOf];omega
    have eb:n=b:=by omega
    subst eb
    rw [rowB_full] at HO
    have GA:=ak (G.out.up HB.out)
    have hq0:=GA.out.cell0
    obtain ⟨Ax,cx,ex⟩:=Kd.R_slice HO.out
    rw [List.length_map,List.length_range] at ex
    subst ex
    generalize hrow:((List.range n).map fun c=>if U i c=true then (1:Int) else 0)=row at HO
    have HROW:=ak hrow
    clear hrow
    have HR:=HO
    clear HO
    go_wp2_with (first
     | ((with_reducible refine gate_builtin (b:=.append) (xs:=#[.tmp 30,.tmp 32]) rfl ?_);at_builtin;refine Kd.S_append (Kd.slice 3 (Kd.int .i64)) (w0:=w) w.heap.size rfl (.tmp 30) (.tmp 32) 24 25 (.slice none 0 0) 24 rfl Try.underlying24 info25 rfl (by decide) (by omega) vu (rowsB n U i) row [.slice Ax n cx] (fun k=>some k≠vn.ownBlock) (fun k=>some k=(Value.slice Ax n cx).ownBlock) rfl rfl ?aP ?aK ?aF ?aO ?aB ?aS ?aL ?_;(case aP=>exact Kd.M_row (Kd.R_mono (Kd.R_tight rfl (Kd.R_lower HR.out (below_size G.out.below))) (fun _ h_=>h_)));(case aK=>exact fun k hk=>⟨fun e=>by have h1:=Kd.R_base HR.out k hk.symm;have h2:=Kd.R_lt G.out.B k e.symm;omega,fun e=>by have h1:=Kd.R_base HR.out k hk.symm;have h2:=Kd.S_lt G.out.A k e.symm;omega⟩);(case aF=>exact fun k hk e=>by have h2:=Kd.R_lt GA.out.B k e.symm;omega);(case aO=>exact Kd.S_mono (Kd.S_below (Kd.S_bound G.out.A) HB.out) (fun k hk=>⟨hk.1,fun e=>by have h1:=Kd.R_base HR.out k e.symm;have h2:=hk.2.2.1;omega⟩));(case aB=>exact GA.out.below);(case aS=>exact below_size GA.out.below);(case aL=>rw [rowsB_len];omega);intro v1 w4 ho hb_ hg hat;have GB:=ak (GA.out.grownU ho hb_ hg hat);rw [← HROW.out,← rowsB_succ] at GB;clear ho hb_ hg hat GA hq0;obtain ⟨A4,c4,e4⟩:=Kd.S_slice GB.out.A;subst e4;have hq1:=GB.out.cell0;have hz1:=blk_frozen GB.out.box 0))
    have GC:=ak (GB.out.setU (.slice A4 (rowsB n U (i+1)).length c4))
    clear GB hq1 hz1 HR HROW G
    generalize w4.setCell ⟨w.heap.size+1,0,none⟩ (.slice A4 (rowsB n U (i+1)).length c4)=w5 at GC ⊢
    have hs1:=GC.out.cell1
    refine start_ (n:=9) (S:=fun w'=>w'.cell? ⟨w.heap.size+1,1,none⟩=some vn) (ds:=[8]) (bA 9 0) (by kernel_rfl) rfl rfl hs1 (fun hHeld=>?_)
    have GD:=ak GC.out.drew
    clear GC hs1
    generalize w5.drew=wd at GD hHeld ⊢
    refine pu_ (i:=0) (N:=some 35) (bA 9 1) ?_
    refine tk_ (i:=1) (N:=some 36) (bA 9 3) ?_
    refine pu_ (i:=2) (N:=some 37) (bA 9 7) ?_
    refine pu_ (i:=3) (N:=some 38) (bA 9 15) ?_
    refine one_ (i:=4) (N:=some 39) (bA 9 31) rfl rfl (by kernel_rfl) (by decide) (fun K hK=>?_)
    go_simp
    go_wp2_with (go_at_fn k2;(with_reducible refine (H2.out _ i GD.out.below hlt).mono ?_);rintro e w' ⟨rfl,hD⟩;obtain ⟨nd,rfl⟩:=hD)
    refine hK.out _ _ hHeld (fun hHeld=>?_)
    clear hK K
    have GE:=ak (GD.out.drewN nd)
    clear GD
    generalize wd.drewN nd=we at GE hHeld ⊢
    refine one_ (i:=5) (N:=some 40) (bA 9 63) rfl rfl (by kernel_rfl) (by decide) (fun K hK=>?_)
    refine value_ (w1:=?_) (v:=?_) (by rfl) rfl ?_ ?_
    rotate_left 2
    ·
     go_simp
     constructor
     ·
      rfl
     rfl
    refine hK.out _ _ (GE.out.alloc _).cell1 (fun hHeld=>?_)
    clear hK K
    refine no_ (N:=some 40) ?_
    refine one_ (i:=6) (N:=some 41) (bA 9 127) rfl rfl (by kernel_rfl) (by decide) (fun K hK=>?_)
    refine Kd.R_append_step (Kd.int .i64) (w0:=w) w.heap.size (by rfl) (.tmp 36) (.tmp 40) 25 3 (.int .i64 0) 8 rfl Try.underlying25 info3 rfl (by decide) (by omega) vn (madeN i N) (N i) [.int .i64 (N i)] (fun _=>True) (fun _=>False) rfl rfl ?aP (fun _ hk=>hk.elim) ?aF ?aO ?aB ?aS ?aL ?_
    case aP=>exact rfl
    case aF=>exact (fun _ _=>trivial)
    case aO=>exact GE.out.B
    case aB=>exact GE.out.below
    case aS=>exact below_size GE.out.below
    case aL=>rw [madeN_len];omega
    intro v2 w7 ho hb hg hat
    have GF:=ak (GE.out.grownN ho hb hg hat)
    clear GE ho hb hg hat
    rw [← madeN_succ] at GF
    obtain ⟨A6,c6,e6⟩:=Kd.R_slice GF.out.B
    subst e6
    refine hK.out _ _ GF.out.cell1 (fun hHeld=>?_)
    clear hK K
    refine no_ (N:=some 41) ?_
    refine pu_ (i:=7) (N:=some 42) (bA 9 255) ?_
    have hs2:=GF.out.cell1
    have hz2:=blk_frozen GF.out.box 1
    refine last_ (i:=8) (N:=none) (bA 9 511) rfl rfl (by kernel_rfl) (by decide) (fun K hK=>?_)
    refine skip_ (w1:=?_) (by rfl) rfl ?_ ?_
    rotate_left
    ·
     go_simp
     rfl
    refine hK.out _ _ ?_
    clear hK K
    refine done_ (by kernel_rfl) ?_
    go_wp2
    go_roundw
    case rel=>exact ⟨i+1,_,_,(by omega),(by go_num),⟨GF.out.setN _⟩⟩
    case measure=>simp [intOf];omega
  have ei:n=i:=by omega
  subst ei
  have hq0:=G.out.cell0
  have hq1:=G.out.cell1
  have hz0:=blk_frozen G.out.res 0
  have hz1:=blk_frozen G.out.res 1
  have hr0:wr.cell? ⟨w.heap.size,0,none⟩=some (.slice none 0 0):=(blk_cell G.out.res 0).trans rfl
  have hr1:wr.cell? ⟨w.heap.size,1,none⟩=some (.slice none 0 0):=(blk_cell G.out.res 1).trans rfl
  obtain ⟨Au,cu,eu⟩:=Kd.S_slice G.out.A
  obtain ⟨An,cn,en⟩:=Kd.R_slice G.out.B
  subst eu
  subst en
  go_wp2
  refine bodyPost_ret (results_cell_row rfl _ _ w.heap.size 27 #[.slice Au (rowsB n U n).length cu,.slice An (madeN n N).length cn] (0,0) _ rfl (blk_put (cs:=#[.slice Au (rowsB n U n).length cu,.slice none 0 0]) (blk_put (cs:=#[.slice none 0 0,.slice none 0 0]) G.out.res 0 _ rfl) 1 _ rfl) hul rfl (by kernel_rfl)) rfl ?_
  exact ⟨_,_,rfl,Kd.S_set (Kd.S_set G.out.A G.out.res (by decide) 0 _) (blk_put G.out.res 0 _ rfl) (by decide) 1 _,Kd.R_set (Kd.R_set G.out.B G.out.res (by decide) 0 _) (blk_put G.out.res 0 _ rfl) (by decide) 1 _,below_set (below_set G.out.below (Nat.le_refl _)) (Nat.le_refl _)⟩
theorem made_int {w:World} (n:Nat) (m:Int) (hm:m=n) (hn:n≤12) (k1 k2:Nat) (cap1 cap2:Array Value) (hk1:Enters Try.prog k1) (hk2:Enters Try.prog k2) (U:Nat→Nat→Bool) (N:Nat→Int)
 (h1 : ∀ w' (a b:Nat),Below w.heap.size w w'→a<n→b<n→Calls Try.prog k1 (#[.int .i64 a,.int .i64 b]++cap1) w' fun e w2=>e = .returned (.bool (U a b))∧Drawn0 w' w2)
 (h2 : ∀ w' (a:Nat),Below w.heap.size w w'→a<n→Calls Try.prog k2 (#[.int .i64 a]++cap2) w' fun e w2=>e = .returned (.int .i64 (N a))∧Drawn0 w' w2) :
 Calls Try.prog 63 #[.int .i64 m,.func (.func k1) #[] cap1,.func (.func k2) #[] cap2] w fun e w'=>∃ v0_ v1_:Value,e = .returned (.agg #[v0_,v1_])∧Kd.S (Kd.slice 3 (Kd.int .i64)) 25 w' w.heap.size (fun k_=>some k_≠(v1_:Value).ownBlock) v0_ (madeU n U)∧Kd.R (Kd.int .i64) 3 w' w.heap.size (fun _=>True) v1_ (madeN n N)∧Below w.heap.size w w':=by
 subst hm
 exact made_calls n hn k1 k2 cap1 cap2 hk1 hk2 U N h1 h2
end Go.Proofs.Ytacifhahfamipaa.P

namespace Go.Proofs.Ytacifhahfamipaa.P
open Go.RowKit Go.Proofs.YtacifhahfamipaaW.PrintWords Go.Proofs.YtacifhahfamipaaW.PrintLast Go.Proofs.YtacifhahfamipaaW.PrintMore Go.Proofs.Cl
set_option linter.unusedVariables false
set_option linter.unusedSimpArgs false
theorem ng_in {u:List (List Int)} {nt:List Int} (h:OL u nt) {a:Int} (ha:0≤a∧a<u.length):0≤rd nt a∧rd nt a<u.length:=by
 obtain ⟨n,rfl,hn⟩:=Q.nat_of ha
 exact (h.2.2.1 n hn).1
def Tl (u:List (List Int)) (nt:List Int) (x:Value) (W:World):Prop:=(OL u nt∧∃ g,x = .pointer (some ⟨g,0,none⟩)∧AlgAt W g u (mtab u) (jtab u) nt (leastI u) (rd nt (leastI u)))∨(¬OL u nt∧x = .pointer none)
theorem Tl.below {u:List (List Int)} {nt:List Int} {x:Value} {W W1:World} (h:Tl u nt x W) (hb:Below W.heap.size W W1):Tl u nt x W1:=by
 rcases h with ⟨h1,g,e,h2⟩|h
 ·
  exact .inl ⟨h1,g,e,h2.below hb⟩
 exact .inr h
theorem Tl.ptr {u:List (List Int)} {nt:List Int} {x:Value} {W:World} (h:Tl u nt x W) : ∃ p,x = .pointer p:=by
 rcases h with ⟨_,g,e,_⟩|⟨_,e⟩
 ·
  exact ⟨_,e⟩
 exact ⟨_,e⟩
def TmF (u:List (List Int)) (nt:List Int) (v:List (List Int)) (mtt:List Int) (w3:World) (p1 p2 s6 s7:Bool) (s:Value × Value × Nat × Nat) (W:World):Prop :=
 Below w3.heap.size w3 W∧(p1=true→Tl u nt s.1 W)∧(p2=true→Tl v mtt s.2.1 W)∧(s6=true→W.heap[s.2.2.1]?=some (.cells #[.pointer none] 61 (0,0))∧w3.heap.size≤s.2.2.1)∧(s7=true→W.heap[s.2.2.2]?=some (.cells #[.pointer none] 61 (0,0))∧w3.heap.size≤s.2.2.2)∧(s6=true→s7=true→s.2.2.1≠s.2.2.2)
section
variable {u:List (List Int)} {nt:List Int} {v:List (List Int)} {mtt:List Int} {w3 W W1:World} {p1 p2 s6 s7:Bool} {s:Value × Value × Nat × Nat}
theorem TmF.start (W:World) (s:Value × Value × Nat × Nat):TmF u nt v mtt W false false false false s W:=⟨Below.refl _ _,fun h=>(by cases h),fun h=>(by cases h),fun h=>(by cases h),fun h=>(by cases h),fun h=>(by cases h)⟩
theorem TmF.below (h:TmF u nt v mtt w3 p1 p2 s6 s7 s W):Below w3.heap.size w3 W:=h.1
end
theorem under_reads {w:World} {g:Nat} {u:List (List Int)} {nt:List Int} {no yes:Int} (h:AlgAt w g u (mtab u) (jtab u) nt no yes) (hl:OL u nt) {a b:Nat} (ha:a<u.length) (hb:b<u.length) :
 ∃ (v:Int) (ad ar:Addr) (bu c1:Nat),rdN u a b=v∧w.cell? ⟨g,0,none⟩=some (.slice (some ad) u.length bu)∧w.cell? (ad.add a)=some (.slice (some ar) u.length c1)∧w.cell? (ar.add b)=some (.int .i64 v):=by
 obtain ⟨Bu,bu,Ba,ba,Bo,be,Bn,bn,h0,h1,h2,h3,h4,h5,h6,h7,h8⟩:=h
 obtain ⟨ad,A0,c1,e1,k1,k2,k3⟩:=at_L1 h1 (a:Int) (by omega) (by omega)
 have hr:(rd_L1 u (a:Int)).length=u.length:=by rw [Q.row_nat];exact hl.1.1.row ha
 rw [hr] at k1 k3
 obtain ⟨ar,e2,k4⟩:=Kd.at_int k3 (b:Int) (by omega) (by omega)
 subst e1
 subst e2
 rw [Q.at_nat] at k4
 simp only [Int.toNat_natCast] at k1 k4
 exact ⟨_,ad,ar,bu,c1,rfl,(blk_cell h0 0).trans rfl,k1,k4⟩
theorem not_reads {w:World} {g:Nat} {u:List (List Int)} {nt:List Int} {no yes:Int} (h:AlgAt w g u (mtab u) (jtab u) nt no yes) (hl:OL u nt) {a:Nat} (ha:a<u.length) :
 ∃ (z:Int) (an:Addr) (bn:Nat),rd nt (a:Int)=z∧(0≤z∧z<(u.length:Int))∧w.cell? ⟨g,3,none⟩=some (.slice (some an) u.length bn)∧w.cell? (an.add a)=some (.int .i64 z):=by
 obtain ⟨Bu,bu,Ba,ba,Bo,be,Bn,bn,h0,h1,h2,h3,h4,h5,h6,h7,h8⟩:=h
 have hz:=ng_in hl (a:=(a:Int)) ⟨(by omega),(by omega)⟩
 rw [hl.2.1] at h0
 obtain ⟨an,e5,k9⟩:=Kd.at_int h7 (a:Int) (by omega) (by rw [hl.2.1];omega)
 subst e5
 rw [Int.toNat_natCast] at k9
 exact ⟨_,an,bn,rfl,hz,(blk_cell h0 3).trans rfl,k9⟩
theorem n0_ {n:Nat} (h:0<n) : ¬n=0:=by omega
theorem r1_ {q n:Nat} (h:q<n):(q:Int)<(n:Int):=Int.ofNat_lt.2 h
abbrev KP:Kd (Option Addr):=Kd.scalar Value.pointer (fun _=>rfl)
theorem info_pa:(Try.prog.info? 61).map (fun i=>(i.zero,i.size,i.bytes))=some (some (.pointer none),1,8):=by kernel_rfl
section
variable {α:Type} {enc:α→Value} {h1 : ∀ x:α,(enc x).oneCell'=true} {W W1:World} {t e base:Nat} {x:α}
theorem one_C (h:W.heap[t]?=some (.cells #[enc x] e (0,0))):(Kd.scalar enc h1).C W (some ⟨t,0,none⟩) 1 [x]:=by
 refine ⟨rfl,(by decide),fun _=>⟨_,rfl,fun j p hj=>?_⟩⟩
 cases j with
 | succ j=>simp at hj
 | zero =>
  have e1:x=p:=by simpa using hj
  subst e1
  refine ⟨[enc x],rfl,rfl,fun i u hu=>?_⟩
  cases i with
  | succ i=>simp at hu
  | zero =>
   have e2:enc x=u:=by simpa using hu
   subst e2
   exact (blk_cell h 0).trans rfl
theorem one_R (h:W.heap[t]?=some (.cells #[enc x] e (0,0))) (hb:base≤t):(Kd.scalar enc h1).R e W base (fun _=>True) (.slice (some ⟨t,0,none⟩) 1 1) [x] :=
 Kd.R_of_own ⟨rfl,.inr ⟨t,1,#[enc x],rfl,hb,h,Nat.le_refl _,(by decide),rfl,rfl⟩⟩ (fun _ _=>trivial)
theorem at_sc {A:Option Addr} {n:Nat} {xs:List α} (d:α) (h:(Kd.scalar enc h1).C W A n xs) {i:Nat} (hi:i<n) : ∃ ad,A=some ad∧W.cell? (ad.add i)=some (enc (xs.getD i d)):=by
 obtain ⟨ad,c,e1,hs,hr,hc⟩:=ReadsRow.get_ h d (i:Int) (by omega) (by omega)
 have hr2:c = [enc (xs.getD (i:Int).toNat d)]:=hr
 subst hr2
 have:=hc 0 _ rfl
 rw [Int.toNat_natCast] at this
 have e2:i*(Kd.scalar enc h1).sz+0=i:=by show i*1+0=i;omega
 rw [e2] at this
 exact ⟨ad,e1,this⟩
end
theorem R_other {α β:Type} {d:Kd α} {d':Kd β} {e e' base:Nat} {W W1:World} {v v':Value} {xs:List α} {ys:List β} (hI:d.R e W base (fun _=>True) v xs) (hO:d'.R e' W base (fun _=>True) v' ys) (hg:W.grownBy W1 v'.ownBlock) (ht : ∀ q,q∈e::d.E→q≠e'):d.R e W1 base (fun _=>True) v xs :=
 Kd.R_mono (Kd.R_grown (Kd.R_bound hI) hg (fun k hk e1=>by
  obtain ⟨_,_,_,q,hq,cells,hc⟩:=hk
  obtain ⟨inner,ho⟩:=Kd.R_own hO
  obtain ⟨cells',hc'⟩:=own_typed ho k e1.symm
  rw [hc] at hc'
  injection hc' with hc'
  injection hc' with _ h2
  exact ht q hq h2)) (fun _ _=>trivial)
section
variable {P:Program} {ops:Array Oper} {rest:List Oper} {o:Oper} {a:Act} {Q:Exit→Act→World→Prop}
theorem bs_ {W:World} {N:Tmp} {cs:Array Value} {t:TypeId} {n:Nat} (h : ∀ g,g=W.heap.size→∀ w1,w1.heap[g]?=some (.cells cs t (0,0))→Below W.heap.size W w1→wpList P ops Q rest (a.put o.dst (.slice (some ⟨g,0,none⟩) n n)) w1) (hd:o.dst=some N:=by rfl) (hgd:o.guard=none:=by rfl)
 (hrun:(execOp a.eval o).run P W = .ok (.value (.slice (some ⟨W.heap.size,0,none⟩) n n)) (W.alloc (.cells cs t (0,0))):=by first|(go_simp;done)|(go_simp;rfl))
  : wpList P ops Q (o::rest) a W:=Kd.event_run hgd hrun (h _ rfl _ (blk_new W _) (below_alloc (Below.refl _ _) _))
end
structure Gl (wb W:World) (g8 g9 b:Nat) (bc:Array Value) (cO cI vO vI:Value) (os:List (Option Addr)) (is:List Int):Prop where
 below:Below wb.heap.size wb W
 h8:wb.heap.size≤g8
 h9:wb.heap.size≤g9
 b8:W.heap[g8]?=some (.cells #[cO] 71 (0,0))
 b9:W.heap[g9]?=some (.cells #[cI] 25 (0,0))
 bb:W.heap[b]?=some (.cells bc 61 (0,0))
 nb:some b≠vO.ownBlock
 O:KP.R 61 W wb.heap.size (fun _=>True) vO os
 I:(Kd.int .i64).R 3 W wb.heap.size (fun _=>True) vI is
namespace Gl
variable {wb W W1:World} {g8 g9 b:Nat} {bc:Array Value} {cO cI vO vI v1:Value} {os os1:List (Option Addr)} {is is1:List Int}
theorem step (h:Gl wb W g8 g9 b bc cO cI vO vI os is) (hb:Below W.heap.size W W1):Gl wb W1 g8 g9 b bc cO cI vO vI os is :=
 ⟨below_step h.below hb,h.h8,h.h9,blk_below h.b8 hb,blk_below h.b9 hb,blk_below h.bb hb,h.nb,Kd.R_below h.O hb,Kd.R_below h.I hb⟩
theorem drew (h:Gl wb W g8 g9 b bc cO cI vO vI os is):Gl wb W.drew g8 g9 b bc cO cI vO vI os is:=h.step (below_drew (Below.refl _ _))
theorem alloc (h:Gl wb W g8 g9 b bc cO cI vO vI os is) (o:Obj):Gl wb (W.alloc o) g8 g9 b bc cO cI vO vI os is:=h.step (below_alloc (Below.refl _ _) o)
theorem cell8 (h:Gl wb W g8 g9 b bc cO cI vO vI os is):W.cell? ⟨g8,0,none⟩=some cO:=(blk_cell h.b8 0).trans rfl
theorem cell9 (h:Gl wb W g8 g9 b bc cO cI vO vI os is):W.cell? ⟨g9,0,none⟩=some cI:=(blk_cell h.b9 0).trans rfl
theorem set8 (h:Gl wb W g8 g9 b bc cO cI vO vI os is) (x:Value):Gl wb (W.setCell ⟨g8,0,none⟩ x) g8 g9 b bc x cI vO vI os is :=
 ⟨below_set h.below h.h8,h.h8,h.h9,blk_put h.b8 0 x rfl,blk_far h.b9 (p:=⟨g8,0,none⟩) (blk_ne h.b9 h.b8 (by decide)) x,blk_far h.bb (p:=⟨g8,0,none⟩) (blk_ne h.bb h.b8 (by decide)) x,h.nb,Kd.R_set h.O h.b8 (by decide) 0 x,Kd.R_set h.I h.b8 (by decide) 0 x⟩
theorem set9 (h:Gl wb W g8 g9 b bc cO cI vO vI os is) (x:Value):Gl wb (W.setCell ⟨g9,0,none⟩ x) g8 g9 b bc cO x vO vI os is :=
 ⟨below_set h.below h.h9,h.h8,h.h9,blk_far h.b8 (p:=⟨g9,0,none⟩) (blk_ne h.b8 h.b9 (by decide)) x,blk_put h.b9 0 x rfl,blk_far h.bb (p:=⟨g9,0,none⟩) (blk_ne h.bb h.b9 (by decide)) x,h.nb,Kd.R_set h.O h.b9 (by decide) 0 x,Kd.R_set h.I h.b9 (by decide) 0 x⟩
theorem growO (h:Gl wb W g8 g9 b bc cO cI vO vI os is) (ho:KP.R 61 W1 wb.heap.size (fun _=>True) v1 os1) (hb:Below wb.heap.size wb W1) (hg:W.grownBy W1 vO.ownBlock) (hat:v1.ownBlock=vO.ownBlock∨∃ k,v1.ownBlock=some k∧W.heap.size≤k):Gl wb W1 g8 g9 b bc cO cI v1 vI os1 is :=
 ⟨hb,h.h8,h.h9,blk_grown h.b8 hg (Kd.R_ne h.O h.b8 (by decide)),blk_grown h.b9 hg (Kd.R_ne h.O h.b9 (by decide)),blk_grown h.bb hg h.nb,by
  rcases hat with e|⟨k,e,hk⟩
  ·
   rw [e];exact h.nb
  rw [e]
  intro q
  injection q with q
  have:=blk_lt h.bb
  omega,ho,R_other h.I h.O hg (by decide)⟩
theorem growI (h:Gl wb W g8 g9 b bc cO cI vO vI os is) (ho:(Kd.int .i64).R 3 W1 wb.heap.size (fun _=>True) v1 is1) (hb:Below wb.heap.size wb W1) (hg:W.grownBy W1 vI.ownBlock):Gl wb W1 g8 g9 b bc cO cI vO v1 os is1 :=
 ⟨hb,h.h8,h.h9,blk_grown h.b8 hg (Kd.R_ne h.I h.b8 (by decide)),blk_grown h.b9 hg (Kd.R_ne h.I h.b9 (by decide)),blk_grown h.bb hg (Kd.R_ne h.I h.bb (by decide)),h.nb,R_other h.O h.I hg (by decide),ho⟩
end Gl
structure ApF (wb:World) (g8 g9 b:Nat) (bc:Array Value) (cO cI:Value) (os:List (Option Addr)) (is:List Int) (p:Option Addr) (x:Int) (m2 m3 m6:Bool) (s:Nat × Nat × Value) (vO vI:Value) (W:World):Prop where
 G:Gl wb W g8 g9 b bc cO cI (if m3 then s.2.2 else vO) vI (if m3 then os ++ [p] else os) is
 O:m2=true→m3=false→W.heap[s.1]?=some (.cells #[.pointer p] 61 (0,0))
 I:m6=true→W.heap[s.2.1]?=some (.cells #[.int .i64 x] 3 (0,0))
namespace ApF
variable {wb W W1:World} {g8 g9 b:Nat} {bc:Array Value} {cO cI vO vI v1:Value} {os:List (Option Addr)} {is:List Int} {p:Option Addr} {x:Int} {m2 m3 m6:Bool} {s:Nat × Nat × Value}
theorem start (h:Gl wb W g8 g9 b bc cO cI vO vI os is) (p:Option Addr) (x:Int) (s:Nat × Nat × Value):ApF wb g8 g9 b bc cO cI os is p x false false false s vO vI W:=⟨h,fun q=>(by cases q),fun q=>(by cases q)⟩
theorem mk2 (h:ApF wb g8 g9 b bc cO cI os is p x false false m6 s vO vI W):ApF wb g8 g9 b bc cO cI os is p x true false m6 (W.heap.size,s.2) vO vI (W.alloc (.cells #[.pointer p] 61 (0,0))) :=
 ⟨h.G.alloc _,fun _ _=>blk_new _ _,fun q=>blk_below (h.I q) (below_alloc (Below.refl _ _) _)⟩
theorem mk6 (h:ApF wb g8 g9 b bc cO cI os is p x m2 m3 false s vO vI W):ApF wb g8 g9 b bc cO cI os is p x m2 m3 true (s.1,W.heap.size,s.2.2) vO vI (W.alloc (.cells #[.int .i64 x] 3 (0,0))) :=
 ⟨h.G.alloc _,fun q r=>blk_below (h.O q r) (below_alloc (Below.refl _ _) _),fun _=>blk_new _ _⟩
theorem app (h:ApF wb g8 g9 b bc cO cI os is p x true false m6 s vO vI W) (ho:KP.R 61 W1 wb.heap.size (fun _=>True) v1 (os ++ [p])) (hb:Below wb.heap.size wb W1) (hg:W.grownBy W1 vO.ownBlock) (hat:v1.ownBlock=vO.ownBlock∨∃ k,v1.ownBlock=some k∧W.heap.size≤k) :
 ApF wb g8 g9 b bc cO cI os is p x true true m6 (s.1,s.2.1,v1) vO vI W1 :=
 ⟨Gl.growO (cO:=cO) h.G ho hb hg hat,fun _ q=>(by cases q),fun q=>blk_grown (h.I q) hg (Kd.R_ne (e:=61) (d:=KP) h.G.O (h.I q) (by decide))⟩
end ApF
theorem info_al : ∃ j,Try.prog.info? 69=some j∧j.size≠0:=⟨_,rfl,(by decide)⟩
theorem cmp_same (a:Addr) (w:World):(binOp .eql 61 (.pointer (some a)) (.pointer (some a))).run Try.prog w = .ok (.bool true) w:=by
 obtain ⟨j,h1,h2⟩:=info_al
 exact run_eql_ptr_same w a Try.underlying61 h1
theorem cmp_other {g g':Nat} {ca cb:Array Value} {ta tb:TypeId} {w:World} (hne:g≠g') (ha:w.heap[g]?=some (.cells ca ta (0,0))) (hb:w.heap[g']?=some (.cells cb tb (0,0))):(binOp .eql 61 (.pointer (some ⟨g,0,none⟩)) (.pointer (some ⟨g',0,none⟩))).run Try.prog w = .ok (.bool false) w:=by
 obtain ⟨j,h1,h2⟩:=info_al
 exact run_eql_ptr_other w Try.underlying61 h1 h2 (fun e=>hne (by injection e)) ha hb
theorem cmp_none_to (a:Addr) (w:World):(binOp .eql 61 (.pointer none) (.pointer (some a))).run Try.prog w = .ok (.bool false) w:=by
 have h : ∀ d:Nat,(Op.equalIn (d+1) 61 (.pointer none) (.pointer (some a))).run Try.prog w = .ok false w:=fun d=>by
  simp [Op.equalIn,run_underlying Try.underlying61]
 simp only [binOp]
 simp [Op.equal,Op.maxDepth,h 9999]
def pt (gx gy:Nat):Nat→Option Addr
 | 0=>none
 | 1=>some ⟨gx,0,none⟩
 | _=>some ⟨gy,0,none⟩
def osG (gx gy:Nat) (G:List (Nat × Int)):List (Option Addr):=G.map fun p=>pt gx gy p.1
def isG (G:List (Nat × Int)):List Int:=G.map fun p=>p.2
theorem osG_len (gx gy:Nat) (G:List (Nat × Int)):(osG gx gy G).length=G.length:=by simp [osG]
theorem isG_len (G:List (Nat × Int)):(isG G).length=G.length:=by simp [isG]
theorem osG_at (gx gy:Nat) (G:List (Nat × Int)) (i:Nat):(osG gx gy G).getD i none=pt gx gy (G.getD i (0,0)).1:=by
 unfold osG
 rw [List.getD_eq_getElem?_getD,List.getD_eq_getElem?_getD,List.getElem?_map]
 cases G[i]? <;> rfl
theorem isG_at (G:List (Nat × Int)) (i:Nat):(isG G).getD i 0=(G.getD i (0,0)).2:=by
 unfold isG
 rw [List.getD_eq_getElem?_getD,List.getD_eq_getElem?_getD,List.getElem?_map]
 cases G[i]? <;> rfl
theorem osG_app (gx gy:Nat) (G:List (Nat × Int)) (p:Nat × Int):osG gx gy (G ++ [p])=osG gx gy G ++ [pt gx gy p.1]:=by simp [osG]
theorem isG_app (G:List (Nat × Int)) (p:Nat × Int):isG (G ++ [p])=isG G ++ [p.2]:=by simp [isG]
def innTo (u:List (List Int)) (nt:List Int) (k:Nat):List Int:=castL ((List.range k).filter fun k=>decide ((k:Int)≠leastI u∧(k:Int)≠rd nt (leastI u)))
theorem innTo_yes {u:List (List Int)} {nt:List Int} {k:Nat} (h1:(k:Int)≠leastI u) (h2:(k:Int)≠rd nt (leastI u)):innTo u nt (k+1)=innTo u nt k ++ [(k:Int)]:=by
 unfold innTo castL
 rw [List.range_succ,List.filter_append,List.map_append]
 simp [h1,h2]
theorem innTo_no {u:List (List Int)} {nt:List Int} {k:Nat} (h:(k:Int)=leastI u∨(k:Int)=rd nt (leastI u)):innTo u nt (k+1)=innTo u nt k:=by
 unfold innTo castL
 rw [List.range_succ,List.filter_append,List.map_append]
 have:decide ((k:Int)≠leastI u∧(k:Int)≠rd nt (leastI u))=false:=dF_ (fun q=>h.elim q.1 q.2)
 simp only [List.filter_cons,this,List.filter_nil]
 simp
theorem innTo_all (u:List (List Int)) (nt:List Int):innTo u nt u.length=innerL u nt:=rfl
theorem innTo_len (u:List (List Int)) (nt:List Int) (k:Nat):(innTo u nt k).length≤k:=by
 unfold innTo castL
 rw [List.length_map]
 exact Nat.le_trans (List.length_filter_le _ _) (by rw [List.length_range];exact Nat.le_refl _)
set_option maxHeartbeats 8000000 in
set_option maxRecDepth 100000 in
theorem glue1_same {w:World} {g8 g9 bl:Nat} {ao ai:Addr} {N co ci:Nat} {g n bu c1 i k:Nat} {ad ar:Addr} {x y v:Int} (k8:w.cell? ⟨g8,0,none⟩=some (.slice (some ao) N co)) (k9:w.cell? ⟨g9,0,none⟩=some (.slice (some ai) N ci)) (kl:w.cell? ⟨bl,0,none⟩=some (.int .i64 ((N-1:Nat):Int)))
 (o1:w.cell? (ao.add i)=some (.pointer (some ⟨g,0,none⟩))) (o2:w.cell? (ao.add k)=some (.pointer (some ⟨g,0,none⟩))) (i1:w.cell? (ai.add i)=some (.int .i64 x)) (i2:w.cell? (ai.add k)=some (.int .i64 y))
 (u0:w.cell? ⟨g,0,none⟩=some (.slice (some ad) n bu)) (u1:w.cell? (ad.add x.toNat)=some (.slice (some ar) n c1)) (u2:w.cell? (ar.add y.toNat)=some (.int .i64 v)) (hx0:0≤x) (hx1:x<(n:Int)) (hy0:0≤y) (hy1:y<(n:Int)) (hi:0<i) (hiN:i<N-1) (hk:0<k) (hkN:k<N-1) (hik : ¬i=k) :
 Calls Try.prog 78 (#[.int .i64 i,.int .i64 k] ++ #[.pointer (some ⟨bl,0,none⟩),.pointer (some ⟨g8,0,none⟩),.pointer (some ⟨g9,0,none⟩)]) w fun e w2=>e = .returned (.bool (v==1))∧Drawn0 w w2:=by
 obtain ⟨R,eR⟩ : ∃ R,(v==1)=R:=⟨_,rfl⟩
 rw [eR]
 have HR:=ak eR
 clear eR
 obtain ⟨l,hl⟩ : ∃ l,N-1=l:=⟨_,rfl⟩
 rw [hl] at kl
 have hi0:(0:Int)≤i:=by omega
 have hk0:(0:Int)≤k:=by omega
 have hi1:(i:Int)<(N:Int):=by omega
 have hk1:(k:Int)<(N:Int):=by omega
 have qa0 : ¬i=0:=by omega
 have qa1 : ¬(i:Int)=0:=by omega
 have qa2:((i:Int)==0)=false:=by rw [beq_eq_false_iff_ne];exact qa1
 have qa3:decide ((i:Int)=0)=false:=dF_ qa1
 have qa4:decide (i=0)=false:=dF_ qa0
 have qa5:(i==0)=false:=by rw [beq_eq_false_iff_ne];exact qa0
 have qb0 : ¬k=l:=by omega
 have qb1 : ¬(k:Int)=(l:Int):=by omega
 have qb2:((k:Int)==(l:Int))=false:=by rw [beq_eq_false_iff_ne];exact qb1
 have qb3:decide ((k:Int)=(l:Int))=false:=dF_ qb1
 have qb4:decide (k=l)=false:=dF_ qb0
 have qb5:(k==l)=false:=by rw [beq_eq_false_iff_ne];exact qb0
 have qc0 : ¬i=k:=by omega
 have qc1 : ¬(i:Int)=(k:Int):=by omega
 have qc2:((i:Int)==(k:Int))=false:=by rw [beq_eq_false_iff_ne];exact qc1
 have qc3:decide ((i:Int)=(k:Int))=false:=dF_ qc1
 have qc4:decide (i=k)=false:=dF_ qc0
 have qc5:(i==k)=false:=by rw [beq_eq_false_iff_ne];exact qc0
 have qd0 : ¬i=l:=by omega
 have qd1 : ¬(i:Int)=(l:Int):=by omega
 have qd2:((i:Int)==(l:Int))=false:=by rw [beq_eq_false_iff_ne];exact qd1
 have qd3:decide ((i:Int)=(l:Int))=false:=dF_ qd1
 have qd4:decide (i=l)=false:=dF_ qd0
 have qd5:(i==l)=false:=by rw [beq_eq_false_iff_ne];exact qd0
 have qe0 : ¬k=0:=by omega
 have qe1 : ¬(k:Int)=0:=by omega
 have qe2:((k:Int)==0)=false:=by rw [beq_eq_false_iff_ne];exact qe1
 have qe3:decide ((k:Int)=0)=false:=dF_ qe1
 have qe4:decide (k=0)=false:=dF_ qe0
 have qe5:(k==0)=false:=by rw [beq_eq_false_iff_ne];exact qe0
 have f0:=k8
 have f1:=o1
 have f2:=o2
 have f3:=u0
 have f4:=k9
 have f5:=i1
 have f6:=i2
 have f7:=u1
 have f8:=u2
 have f9:=cmp_same ⟨g,0,none⟩ w.drew
 clear hi hiN hk hkN hik hl
 go_enter Try.func78,Try.ntmps78
 try go_wp2
 refine start_ (n:=32) (S:=fun w'=>w'.cell? ⟨g8,0,none⟩=some (.slice (some ao) N co)∧w'.cell? (ao.add i)=some (.pointer (some ⟨g,0,none⟩))∧w'.cell? (ao.add k)=some (.pointer (some ⟨g,0,none⟩))∧w'.cell? ⟨g,0,none⟩=some (.slice (some ad) n bu)∧w'.cell? ⟨g9,0,none⟩=some (.slice (some ai) N ci)∧w'.cell? (ai.add i)=some (.int .i64 x)∧w'.cell? (ai.add k)=some (.int .i64 y)∧w'.cell? (ad.add x.toNat)=some (.slice (some ar) n c1)∧w'.cell? (ar.add y.toNat)=some (.int .i64 v)∧(binOp BinOp.eql 61 (.pointer (some ⟨g,0,none⟩)) (.pointer (some ⟨g,0,none⟩))).run Try.prog w' = .ok (.bool true) w') (ds:=[]) (bA 32 0) (by kernel_rfl) rfl rfl ⟨f0,f1,f2,f3,f4,f5,f6,f7,f8,f9⟩ (fun hHeld=>?_)
 refine tk_ (i:=0) (N:=some 29) (bA 32 1) ?_
 refine pu_ (i:=1) (N:=some 30) (bA 32 3) ?_
 refine pu_ (i:=2) (N:=some 31) (bA 32 7) ?_
 refine tk_ (i:=3) (N:=some 32) (bA 32 15) ?_
 refine tk_ (i:=4) (N:=some 33) (bA 32 31) ?_
 refine pu_ (i:=5) (N:=some 34) (bA 32 63) ?_
 refine pu_ (i:=6) (N:=some 35) (bA 32 127) ?_
 refine tk_ (i:=7) (N:=some 36) (bA 32 255) ?_
 refine tk_ (i:=8) (N:=some 37) (bA 32 511) ?_
 refine pu_ (i:=9) (N:=some 38) (bA 32 1023) ?_
 refine tk_ (i:=10) (N:=some 39) (bA 32 2047) ?_
 refine pu_ (i:=11) (N:=some 40) (bA 32 4095) ?_
 refine pu_ (i:=12) (N:=some 41) (bA 32 8191) ?_
 refine tk_ (i:=13) (N:=some 42) (bA 32 16383) ?_
 refine pu_ (i:=14) (N:=some 43) (bA 32 32767) ?_
 refine pu_ (i:=15) (N:=some 44) (bA 32 65535) ?_
 refine tk_ (i:=16) (N:=some 45) (bA 32 131071) ?_
 refine tk_ (i:=17) (N:=some 46) (bA 32 262143) ?_
 refine pu_ (i:=18) (N:=some 47) (bA 32 524287) ?_
 refine pu_ (i:=19) (N:=some 48) (bA 32 1048575) ?_
 refine tk_ (i:=20) (N:=some 49) (bA 32 2097151) ?_
 refine pu_ (i:=21) (N:=some 50) (bA 32 4194303) ?_
 refine tk_ (i:=22) (N:=some 51) (bA 32 8388607) ?_
 refine tk_ (i:=23) (N:=some 52) (bA 32 16777215) ?_
 refine pu_ (i:=24) (N:=some 53) (bA 32 33554431) ?_
 refine pu_ (i:=25) (N:=some 54) (bA 32 67108863) ?_
 refine tk_ (i:=26) (N:=some 55) (bA 32 134217727) ?_
 refine pu_ (i:=27) (N:=some 56) (bA 32 268435455) ?_
 refine tk_ (i:=28) (N:=some 57) (bA 32 536870911) ?_
 refine pu_ (i:=29) (N:=some 58) (bA 32 1073741823) ?_
 refine pu_ (i:=30) (N:=some 59) (bA 32 2147483647) ?_
 refine pu_ (i:=31) (N:=some 7) (bA 32 4294967295) ?_
 refine done_ (by kernel_rfl) ?_
 try go_wp2
 go_ret
 exact ⟨(by rw [← HR.out];rfl),⟨_,rfl⟩⟩
set_option maxHeartbeats 8000000 in
set_option maxRecDepth 100000 in
theorem glue1_other {w:World} {g8 g9 bl:Nat} {ao ai:Addr} {N co ci:Nat} {i k:Nat} {p q:Option Addr} (k8:w.cell? ⟨g8,0,none⟩=some (.slice (some ao) N co)) (k9:w.cell? ⟨g9,0,none⟩=some (.slice (some ai) N ci)) (kl:w.cell? ⟨bl,0,none⟩=some (.int .i64 ((N-1:Nat):Int)))
 (o1:w.cell? (ao.add i)=some (.pointer p)) (o2:w.cell? (ao.add k)=some (.pointer q)) (hc:(binOp .eql 61 (.pointer p) (.pointer q)).run Try.prog w.drew = .ok (.bool false) w.drew) (hi:0<i) (hiN:i<N-1) (hk:0<k) (hkN:k<N-1) (hik : ¬i=k) :
 Calls Try.prog 78 (#[.int .i64 i,.int .i64 k] ++ #[.pointer (some ⟨bl,0,none⟩),.pointer (some ⟨g8,0,none⟩),.pointer (some ⟨g9,0,none⟩)]) w fun e w2=>e = .returned (.bool false)∧Drawn0 w w2:=by
 obtain ⟨l,hl⟩ : ∃ l,N-1=l:=⟨_,rfl⟩
 rw [hl] at kl
 have hi0:(0:Int)≤i:=by omega
 have hk0:(0:Int)≤k:=by omega
 have hi1:(i:Int)<(N:Int):=by omega
 have hk1:(k:Int)<(N:Int):=by omega
 have qa0 : ¬i=0:=by omega
 have qa1 : ¬(i:Int)=0:=by omega
 have qa2:((i:Int)==0)=false:=by rw [beq_eq_false_iff_ne];exact qa1
 have qa3:decide ((i:Int)=0)=false:=dF_ qa1
 have qa4:decide (i=0)=false:=dF_ qa0
 have qa5:(i==0)=false:=by rw [beq_eq_false_iff_ne];exact qa0
 have qb0 : ¬k=l:=by omega
 have qb1 : ¬(k:Int)=(l:Int):=by omega
 have qb2:((k:Int)==(l:Int))=false:=by rw [beq_eq_false_iff_ne];exact qb1
 have qb3:decide ((k:Int)=(l:Int))=false:=dF_ qb1
 have qb4:decide (k=l)=false:=dF_ qb0
 have qb5:(k==l)=false:=by rw [beq_eq_false_iff_ne];exact qb0
 have qc0 : ¬i=k:=by omega
 have qc1 : ¬(i:Int)=(k:Int):=by omega
 have qc2:((i:Int)==(k:Int))=false:=by rw [beq_eq_false_iff_ne];exact qc1
 have qc3:decide ((i:Int)=(k:Int))=false:=dF_ qc1
 have qc4:decide (i=k)=false:=dF_ qc0
 have qc5:(i==k)=false:=by rw [beq_eq_false_iff_ne];exact qc0
 have qd0 : ¬i=l:=by omega
 have qd1 : ¬(i:Int)=(l:Int):=by omega
 have qd2:((i:Int)==(l:Int))=false:=by rw [beq_eq_false_iff_ne];exact qd1
 have qd3:decide ((i:Int)=(l:Int))=false:=dF_ qd1
 have qd4:decide (i=l)=false:=dF_ qd0
 have qd5:(i==l)=false:=by rw [beq_eq_false_iff_ne];exact qd0
 have qe0 : ¬k=0:=by omega
 have qe1 : ¬(k:Int)=0:=by omega
 have qe2:((k:Int)==0)=false:=by rw [beq_eq_false_iff_ne];exact qe1
 have qe3:decide ((k:Int)=0)=false:=dF_ qe1
 have qe4:decide (k=0)=false:=dF_ qe0
 have qe5:(k==0)=false:=by rw [beq_eq_false_iff_ne];exact qe0
 have f0:=k8
 have f1:=o1
 have f2:=o2
 have f3:=hc
 clear hi hiN hk hkN hik hl
 go_enter Try.func78,Try.ntmps78
 try go_wp2
 refine start_ (n:=32) (S:=fun w'=>w'.cell? ⟨g8,0,none⟩=some (.slice (some ao) N co)∧w'.cell? (ao.add i)=some (.pointer p)∧w'.cell? (ao.add k)=some (.pointer q)∧(binOp BinOp.eql 61 (.pointer p) (.pointer q)).run Try.prog w' = .ok (.bool false) w') (ds:=[]) (bA 32 0) (by kernel_rfl) rfl rfl ⟨f0,f1,f2,f3⟩ (fun hHeld=>?_)
 refine tk_ (i:=0) (N:=some 29) (bA 32 1) ?_
 refine pu_ (i:=1) (N:=some 30) (bA 32 3) ?_
 refine pu_ (i:=2) (N:=some 31) (bA 32 7) ?_
 refine tk_ (i:=3) (N:=some 32) (bA 32 15) ?_
 refine tk_ (i:=4) (N:=some 33) (bA 32 31) ?_
 refine pu_ (i:=5) (N:=some 34) (bA 32 63) ?_
 refine pu_ (i:=6) (N:=some 35) (bA 32 127) ?_
 refine tk_ (i:=7) (N:=some 36) (bA 32 255) ?_
 refine tk_ (i:=8) (N:=some 37) (bA 32 511) ?_
 refine pu_ (i:=9) (N:=some 38) (bA 32 1023) ?_
 refine of_ (i:=10) (N:=some 39) (bA 32 2047) ?_
 refine of_ (i:=11) (N:=some 40) (bA 32 4095) ?_
 refine of_ (i:=12) (N:=some 41) (bA 32 8191) ?_
 refine of_ (i:=13) (N:=some 42) (bA 32 16383) ?_
 refine of_ (i:=14) (N:=some 43) (bA 32 32767) ?_
 refine of_ (i:=15) (N:=some 44) (bA 32 65535) ?_
 refine of_ (i:=16) (N:=some 45) (bA 32 131071) ?_
 refine of_ (i:=17) (N:=some 46) (bA 32 262143) ?_
 refine of_ (i:=18) (N:=some 47) (bA 32 524287) ?_
 refine of_ (i:=19) (N:=some 48) (bA 32 1048575) ?_
 refine of_ (i:=20) (N:=some 49) (bA 32 2097151) ?_
 refine of_ (i:=21) (N:=some 50) (bA 32 4194303) ?_
 refine of_ (i:=22) (N:=some 51) (bA 32 8388607) ?_
 refine of_ (i:=23) (N:=some 52) (bA 32 16777215) ?_
 refine of_ (i:=24) (N:=some 53) (bA 32 33554431) ?_
 refine of_ (i:=25) (N:=some 54) (bA 32 67108863) ?_
 refine of_ (i:=26) (N:=some 55) (bA 32 134217727) ?_
 refine of_ (i:=27) (N:=some 56) (bA 32 268435455) ?_
 refine of_ (i:=28) (N:=some 57) (bA 32 536870911) ?_
 refine of_ (i:=29) (N:=some 58) (bA 32 1073741823) ?_
 refine pu_ (i:=30) (N:=some 59) (bA 32 2147483647) ?_
 refine pu_ (i:=31) (N:=some 7) (bA 32 4294967295) ?_
 refine done_ (by kernel_rfl) ?_
 try go_wp2
 go_ret
 exact ⟨rfl,⟨_,rfl⟩⟩
set_option maxHeartbeats 8000000 in
set_option maxRecDepth 100000 in
theorem glue1_z {w:World} {g8 g9 bl l:Nat} {i k:Nat} (kl:w.cell? ⟨bl,0,none⟩=some (.int .i64 (l:Int))) :
 Calls Try.prog 78 (#[.int .i64 0,.int .i64 k] ++ #[.pointer (some ⟨bl,0,none⟩),.pointer (some ⟨g8,0,none⟩),.pointer (some ⟨g9,0,none⟩)]) w fun e w2=>e = .returned (.bool true)∧Drawn0 w w2:=by
 skip
 go_enter Try.func78,Try.ntmps78
 try go_wp2
 try go_ret
 exact ⟨rfl,⟨0,rfl⟩⟩
set_option maxHeartbeats 8000000 in
set_option maxRecDepth 100000 in
theorem glue1_l {w:World} {g8 g9 bl l:Nat} {i k:Nat} (kl:w.cell? ⟨bl,0,none⟩=some (.int .i64 (l:Int))) (hi:0<i) :
 Calls Try.prog 78 (#[.int .i64 i,.int .i64 l] ++ #[.pointer (some ⟨bl,0,none⟩),.pointer (some ⟨g8,0,none⟩),.pointer (some ⟨g9,0,none⟩)]) w fun e w2=>e = .returned (.bool true)∧Drawn0 w w2:=by
 have qa0 : ¬i=0:=by omega
 have qa1 : ¬(i:Int)=0:=by omega
 have qa2:((i:Int)==0)=false:=by rw [beq_eq_false_iff_ne];exact qa1
 have qa3:decide ((i:Int)=0)=false:=dF_ qa1
 have qa4:decide (i=0)=false:=dF_ qa0
 have qa5:(i==0)=false:=by rw [beq_eq_false_iff_ne];exact qa0
 clear hi
 go_enter Try.func78,Try.ntmps78
 try go_wp2
 try go_ret
 exact ⟨rfl,⟨0,rfl⟩⟩
set_option maxHeartbeats 8000000 in
set_option maxRecDepth 100000 in
theorem glue1_e {w:World} {g8 g9 bl l:Nat} {i k:Nat} (kl:w.cell? ⟨bl,0,none⟩=some (.int .i64 (l:Int))) (hi:0<i) (hil : ¬i=l) :
 Calls Try.prog 78 (#[.int .i64 i,.int .i64 i] ++ #[.pointer (some ⟨bl,0,none⟩),.pointer (some ⟨g8,0,none⟩),.pointer (some ⟨g9,0,none⟩)]) w fun e w2=>e = .returned (.bool true)∧Drawn0 w w2:=by
 have qa0 : ¬i=0:=by omega
 have qa1 : ¬(i:Int)=0:=by omega
 have qa2:((i:Int)==0)=false:=by rw [beq_eq_false_iff_ne];exact qa1
 have qa3:decide ((i:Int)=0)=false:=dF_ qa1
 have qa4:decide (i=0)=false:=dF_ qa0
 have qa5:(i==0)=false:=by rw [beq_eq_false_iff_ne];exact qa0
 have qb0 : ¬i=l:=by omega
 have qb1 : ¬(i:Int)=(l:Int):=by omega
 have qb2:((i:Int)==(l:Int))=false:=by rw [beq_eq_false_iff_ne];exact qb1
 have qb3:decide ((i:Int)=(l:Int))=false:=dF_ qb1
 have qb4:decide (i=l)=false:=dF_ qb0
 have qb5:(i==l)=false:=by rw [beq_eq_false_iff_ne];exact qb0
 clear hi hil
 go_enter Try.func78,Try.ntmps78
 try go_wp2
 try go_ret
 exact ⟨rfl,⟨0,rfl⟩⟩
set_option maxHeartbeats 8000000 in
set_option maxRecDepth 100000 in
theorem glue1_fl {w:World} {g8 g9 bl l:Nat} {i k:Nat} (kl:w.cell? ⟨bl,0,none⟩=some (.int .i64 (l:Int))) (hi:0<l) (hkl : ¬k=l) :
 Calls Try.prog 78 (#[.int .i64 l,.int .i64 k] ++ #[.pointer (some ⟨bl,0,none⟩),.pointer (some ⟨g8,0,none⟩),.pointer (some ⟨g9,0,none⟩)]) w fun e w2=>e = .returned (.bool false)∧Drawn0 w w2:=by
 have qa0 : ¬l=0:=by omega
 have qa1 : ¬(l:Int)=0:=by omega
 have qa2:((l:Int)==0)=false:=by rw [beq_eq_false_iff_ne];exact qa1
 have qa3:decide ((l:Int)=0)=false:=dF_ qa1
 have qa4:decide (l=0)=false:=dF_ qa0
 have qa5:(l==0)=false:=by rw [beq_eq_false_iff_ne];exact qa0
 have qb0 : ¬k=l:=by omega
 have qb1 : ¬(k:Int)=(l:Int):=by omega
 have qb2:((k:Int)==(l:Int))=false:=by rw [beq_eq_false_iff_ne];exact qb1
 have qb3:decide ((k:Int)=(l:Int))=false:=dF_ qb1
 have qb4:decide (k=l)=false:=dF_ qb0
 have qb5:(k==l)=false:=by rw [beq_eq_false_iff_ne];exact qb0
 have qc0 : ¬l=k:=by omega
 have qc1 : ¬(l:Int)=(k:Int):=by omega
 have qc2:((l:Int)==(k:Int))=false:=by rw [beq_eq_false_iff_ne];exact qc1
 have qc3:decide ((l:Int)=(k:Int))=false:=dF_ qc1
 have qc4:decide (l=k)=false:=dF_ qc0
 have qc5:(l==k)=false:=by rw [beq_eq_false_iff_ne];exact qc0
 clear hi hkl
 go_enter Try.func78,Try.ntmps78
 try go_wp2
 try go_ret
 exact ⟨rfl,⟨0,rfl⟩⟩
set_option maxHeartbeats 8000000 in
set_option maxRecDepth 100000 in
theorem glue1_fz {w:World} {g8 g9 bl l:Nat} {i k:Nat} (kl:w.cell? ⟨bl,0,none⟩=some (.int .i64 (l:Int))) (hi:0<i) (hil : ¬i=l) (hl:0<l) :
 Calls Try.prog 78 (#[.int .i64 i,.int .i64 0] ++ #[.pointer (some ⟨bl,0,none⟩),.pointer (some ⟨g8,0,none⟩),.pointer (some ⟨g9,0,none⟩)]) w fun e w2=>e = .returned (.bool false)∧Drawn0 w w2:=by
 have qa0 : ¬i=0:=by omega
 have qa1 : ¬(i:Int)=0:=by omega
 have qa2:((i:Int)==0)=false:=by rw [beq_eq_false_iff_ne];exact qa1
 have qa3:decide ((i:Int)=0)=false:=dF_ qa1
 have qa4:decide (i=0)=false:=dF_ qa0
 have qa5:(i==0)=false:=by rw [beq_eq_false_iff_ne];exact qa0
 have qb0 : ¬i=l:=by omega
 have qb1 : ¬(i:Int)=(l:Int):=by omega
 have qb2:((i:Int)==(l:Int))=false:=by rw [beq_eq_false_iff_ne];exact qb1
 have qb3:decide ((i:Int)=(l:Int))=false:=dF_ qb1
 have qb4:decide (i=l)=false:=dF_ qb0
 have qb5:(i==l)=false:=by rw [beq_eq_false_iff_ne];exact qb0
 have qc0 : ¬l=0:=by omega
 have qc1 : ¬(l:Int)=0:=by omega
 have qc2:((l:Int)==0)=false:=by rw [beq_eq_false_iff_ne];exact qc1
 have qc3:decide ((l:Int)=0)=false:=dF_ qc1
 have qc4:decide (l=0)=false:=dF_ qc0
 have qc5:(l==0)=false:=by rw [beq_eq_false_iff_ne];exact qc0
 have qd0 : ¬(0:Int)=(l:Int):=by omega
 have qd1:((0:Int)==(l:Int))=false:=by rw [beq_eq_false_iff_ne];exact qd0
 have qd2:decide ((0:Int)=(l:Int))=false:=dF_ qd0
 have qd3 : ¬0=l:=by omega
 clear hi hil hl
 go_enter Try.func78,Try.ntmps78
 try go_wp2
 try go_ret
 exact ⟨rfl,⟨0,rfl⟩⟩
set_option maxHeartbeats 8000000 in
set_option maxRecDepth 100000 in
theorem glue2_z {w:World} {g8 g9 bl l:Nat} (kl:w.cell? ⟨bl,0,none⟩=some (.int .i64 (l:Int))) (hl:l≤12) :
 Calls Try.prog 79 (#[.int .i64 0] ++ #[.pointer (some ⟨bl,0,none⟩),.pointer (some ⟨g8,0,none⟩),.pointer (some ⟨g9,0,none⟩)]) w fun e w2=>e = .returned (.int .i64 (l:Int))∧Drawn0 w w2:=by
 have hw:wrap64 ((l:Int)-0)=(l:Int):=by rw [Q.wrap_of _ (by omega) (by omega)];omega
 have hw2:wrap64 (l:Int)=(l:Int):=Q.wrap_of _ (by omega) (by omega)
 have HW:=ak hw
 have HW2:=ak hw2
 clear hl
 go_enter Try.func79,Try.ntmps79
 try go_wp2
 try go_ret
 exact ⟨(by first|rfl|(rw [HW.out];done)|(rw [HW2.out];done)|(simp [HW.out,HW2.out];done)),⟨0,rfl⟩⟩
set_option maxHeartbeats 8000000 in
set_option maxRecDepth 100000 in
theorem glue2_l {w:World} {g8 g9 bl l:Nat} (kl:w.cell? ⟨bl,0,none⟩=some (.int .i64 (l:Int))) (hi:0<l) :
 Calls Try.prog 79 (#[.int .i64 l] ++ #[.pointer (some ⟨bl,0,none⟩),.pointer (some ⟨g8,0,none⟩),.pointer (some ⟨g9,0,none⟩)]) w fun e w2=>e = .returned (.int .i64 0)∧Drawn0 w w2:=by
 have qa0 : ¬l=0:=by omega
 have qa1 : ¬(l:Int)=0:=by omega
 have qa2:((l:Int)==0)=false:=by rw [beq_eq_false_iff_ne];exact qa1
 have qa3:decide ((l:Int)=0)=false:=dF_ qa1
 have qa4:decide (l=0)=false:=dF_ qa0
 have qa5:(l==0)=false:=by rw [beq_eq_false_iff_ne];exact qa0
 have hw:wrap64 ((l:Int)-(l:Int))=0:=by rw [Int.sub_self];exact Q.wrap_of _ (by decide) (by decide)
 have HW:=ak hw
 clear hi
 go_enter Try.func79,Try.ntmps79
 try go_wp2
 try go_ret
 exact ⟨(by first|rfl|(rw [HW.out];done)|(simp [HW.out];done)),⟨0,rfl⟩⟩
theorem dr_next {w wr:World} (h : ∃ m,wr=w.drewN m) : ∃ m,wr.drew=w.drewN m:=by
 obtain ⟨m,rfl⟩:=h
 exact ⟨m+1,rfl⟩
theorem dr_cell {w wr:World} (h : ∃ m,wr=w.drewN m) (a:Addr):wr.cell? a=w.cell? a:=by
 obtain ⟨m,rfl⟩:=h
 rfl
theorem dr_zero (w:World) : ∃ m,w=w.drewN m:=⟨0,rfl⟩
set_option maxHeartbeats 8000000 in
set_option maxRecDepth 100000 in
theorem glue2_in {w:World} {g8 g9 bl:Nat} {ao ai:Addr} {N co ci:Nat} {g n bn i:Nat} {an:Addr} {x z:Int} (P:Nat→Option Addr) (Y:Nat→Int) (m:Nat) (k8:w.cell? ⟨g8,0,none⟩=some (.slice (some ao) N co)) (k9:w.cell? ⟨g9,0,none⟩=some (.slice (some ai) N ci)) (kl:w.cell? ⟨bl,0,none⟩=some (.int .i64 ((N-1:Nat):Int)))
 (hO : ∀ k,k<N→w.cell? (ao.add k)=some (.pointer (P k))) (hI : ∀ k,k<N→w.cell? (ai.add k)=some (.int .i64 (Y k))) (hpi:P i=some ⟨g,0,none⟩) (hyi:Y i=x)
 (hc : ∀ k wr,(∃ m,wr=w.drewN m)→k<N→¬P k=some ⟨g,0,none⟩→(binOp .eql 61 (.pointer (P k)) (.pointer (some ⟨g,0,none⟩))).run Try.prog wr.drew = .ok (.bool false) wr.drew)
 (n3:w.cell? ⟨g,3,none⟩=some (.slice (some an) n bn)) (n4:w.cell? (an.add x.toNat)=some (.int .i64 z)) (hx0:0≤x) (hx1:x<(n:Int)) (hi:0<i) (hiN:i<N-1) (hN:N≤12)
 (hm:m<N) (hm1:P m=some ⟨g,0,none⟩∧Y m=z) (hm2 : ∀ j,j<m→¬(P j=some ⟨g,0,none⟩∧Y j=z)) :
 Calls Try.prog 79 (#[.int .i64 i] ++ #[.pointer (some ⟨bl,0,none⟩),.pointer (some ⟨g8,0,none⟩),.pointer (some ⟨g9,0,none⟩)]) w fun e w2=>e = .returned (.int .i64 (m:Int))∧Drawn0 w w2:=by
 obtain ⟨l,hl⟩ : ∃ l,N-1=l:=⟨_,rfl⟩
 rw [hl] at kl
 have hi0:(0:Int)≤i:=by omega
 have hi1:(i:Int)<(N:Int):=by omega
 have qa0 : ¬i=0:=by omega
 have qa1 : ¬(i:Int)=0:=by omega
 have qa2:((i:Int)==0)=false:=by rw [beq_eq_false_iff_ne];exact qa1
 have qa3:decide ((i:Int)=0)=false:=dF_ qa1
 have qa4:decide (i=0)=false:=dF_ qa0
 have qa5:(i==0)=false:=by rw [beq_eq_false_iff_ne];exact qa0
 have qb0 : ¬i=l:=by omega
 have qb1 : ¬(i:Int)=(l:Int):=by omega
 have qb2:((i:Int)==(l:Int))=false:=by rw [beq_eq_false_iff_ne];exact qb1
 have qb3:decide ((i:Int)=(l:Int))=false:=dF_ qb1
 have qb4:decide (i=l)=false:=dF_ qb0
 have qb5:(i==l)=false:=by rw [beq_eq_false_iff_ne];exact qb0
 have HO:=ak hO
 have HI:=ak hI
 have HC:=ak hc
 have HM1:=ak hm1
 have HM2:=ak hm2
 have o1:=hO i (by omega)
 rw [hpi] at o1
 have i1:=hI i (by omega)
 rw [hyi] at i1
 clear hO hI hc hm1 hm2 hpi hyi hi hiN hl
 go_enter Try.func79,Try.ntmps79
 go_wp2
 go_loopw [19] (fun a0 wr=>∃ k:Nat,k≤m∧a0 = .int .i64 k∧Aside0 (∃ q,wr=w.drewN q)) (fun a0 _=>N-(intOf a0).toNat)
 case atStart=>exact ⟨0,Nat.zero_le _,rfl,⟨dr_zero w⟩⟩
 case round =>
  obtain ⟨k,hk,rfl,HD⟩:=hrel
  have hkN:k<N:=by omega
  have hk0:(0:Int)≤k:=by omega
  have hk1:(k:Int)<(N:Int):=by omega
  have dc : ∀ a,wr.cell? a=w.cell? a:=dr_cell HD.out
  have f0:=(dc _).trans k8
  have f2:=(dc _).trans o1
  by_cases hp:P k=some ⟨g,0,none⟩
  ·
   have f1:=(dc _).trans (HO.out k hkN)
   rw [hp] at f1
   have f3:=(dc _).trans k9
   have f4:=(dc _).trans (HI.out k hkN)
   have f5:=(dc _).trans n3
   have f6:=(dc _).trans i1
   have f7:=(dc _).trans n4
   have f8:=cmp_same ⟨g,0,none⟩ wr.drew
   by_cases hy:Y k=z
   ·
    have ek:k=m:=by
     have:=HM2.out k
     by_cases q:k<m
     ·
      exact absurd ⟨hp,hy⟩ (this q)
     omega
    rw [hy] at f4
    have EK:=ak ek
    clear dc ek hy hp
    try go_wp2
    obtain ⟨y,ey⟩ : ∃ y,y=z:=⟨_,rfl⟩
    rw [← ey] at f4
    have hyz:(y==z)=true:=by rw [ey];simp
    refine start_ (n:=29) (S:=fun w'=>w'.cell? ⟨g8,0,none⟩=some (.slice (some ao) N co)∧w'.cell? (ao.add k)=some (.pointer (some ⟨g,0,none⟩))∧w'.cell? (ao.add i)=some (.pointer (some ⟨g,0,none⟩))∧w'.cell? ⟨g9,0,none⟩=some (.slice (some ai) N ci)∧w'.cell? (ai.add k)=some (.int .i64 y)∧w'.cell? ⟨g,3,none⟩=some (.slice (some an) n bn)∧w'.cell? (ai.add i)=some (.int .i64 x)∧w'.cell? (an.add x.toNat)=some (.int .i64 z)∧(binOp BinOp.eql 61 (.pointer (some ⟨g,0,none⟩)) (.pointer (some ⟨g,0,none⟩))).run Try.prog w' = .ok (.bool true) w') (ds:=[]) (bA 29 0) (by kernel_rfl) rfl rfl ⟨f0,f1,f2,f3,f4,f5,f6,f7,f8⟩ (fun hHeld=>?_)
    refine tk_ (i:=0) (N:=some 22) (bA 29 1) ?_
    refine pu_ (i:=1) (N:=some 23) (bA 29 3) ?_
    refine pu_ (i:=2) (N:=some 24) (bA 29 7) ?_
    refine tk_ (i:=3) (N:=some 25) (bA 29 15) ?_
    refine tk_ (i:=4) (N:=some 26) (bA 29 31) ?_
    refine pu_ (i:=5) (N:=some 27) (bA 29 63) ?_
    refine pu_ (i:=6) (N:=some 28) (bA 29 127) ?_
    refine tk_ (i:=7) (N:=some 29) (bA 29 255) ?_
    refine tk_ (i:=8) (N:=some 30) (bA 29 511) ?_
    refine pu_ (i:=9) (N:=some 31) (bA 29 1023) ?_
    refine tk_ (i:=10) (N:=some 32) (bA 29 2047) ?_
    refine pu_ (i:=11) (N:=some 33) (bA 29 4095) ?_
    refine pu_ (i:=12) (N:=some 34) (bA 29 8191) ?_
    refine tk_ (i:=13) (N:=some 35) (bA 29 16383) ?_
    refine tk_ (i:=14) (N:=some 36) (bA 29 32767) ?_
    refine pu_ (i:=15) (N:=some 37) (bA 29 65535) ?_
    refine pu_ (i:=16) (N:=some 38) (bA 29 131071) ?_
    refine tk_ (i:=17) (N:=some 39) (bA 29 262143) ?_
    refine pu_ (i:=18) (N:=some 40) (bA 29 524287) ?_
    refine pu_ (i:=19) (N:=some 41) (bA 29 1048575) ?_
    refine tk_ (i:=20) (N:=some 42) (bA 29 2097151) ?_
    refine tk_ (i:=21) (N:=some 43) (bA 29 4194303) ?_
    refine pu_ (i:=22) (N:=some 44) (bA 29 8388607) ?_
    refine pu_ (i:=23) (N:=some 45) (bA 29 16777215) ?_
    refine tk_ (i:=24) (N:=some 46) (bA 29 33554431) ?_
    refine pu_ (i:=25) (N:=some 47) (bA 29 67108863) ?_
    refine tk_ (i:=26) (N:=some 48) (bA 29 134217727) ?_
    refine pu_ (i:=27) (N:=some 49) (bA 29 268435455) ?_
    refine pu_ (i:=28) (N:=some 50) (bA 29 536870911) ?_
    refine done_ (by kernel_rfl) ?_
    try go_wp2
    try go_ret
    exact ⟨(by rw [← EK.out];rfl),(by obtain ⟨q,hq⟩:=dr_next HD.out;exact ⟨⟨q,hq⟩⟩)⟩
   obtain ⟨y,ey⟩ : ∃ y,Y k=y:=⟨_,rfl⟩
   rw [ey] at f4 hy
   have hyz:(y==z)=false:=by rw [beq_eq_false_iff_ne];exact hy
   have hyd:decide (y=z)=false:=dF_ hy
   have hlt:k<m:=by
    by_cases q:k=m
    ·
     exact absurd (by rw [← ey,q];exact HM1.out.2) hy
    omega
   clear dc
   try go_wp2
   refine start_ (n:=29) (S:=fun w'=>w'.cell? ⟨g8,0,none⟩=some (.slice (some ao) N co)∧w'.cell? (ao.add k)=some (.pointer (some ⟨g,0,none⟩))∧w'.cell? (ao.add i)=some (.pointer (some ⟨g,0,none⟩))∧w'.cell? ⟨g9,0,none⟩=some (.slice (some ai) N ci)∧w'.cell? (ai.add k)=some (.int .i64 y)∧w'.cell? ⟨g,3,none⟩=some (.slice (some an) n bn)∧w'.cell? (ai.add i)=some (.int .i64 x)∧w'.cell? (an.add x.toNat)=some (.int .i64 z)∧(binOp BinOp.eql 61 (.pointer (some ⟨g,0,none⟩)) (.pointer (some ⟨g,0,none⟩))).run Try.prog w' = .ok (.bool true) w') (ds:=[]) (bA 29 0) (by kernel_rfl) rfl rfl ⟨f0,f1,f2,f3,f4,f5,f6,f7,f8⟩ (fun hHeld=>?_)
   refine tk_ (i:=0) (N:=some 22) (bA 29 1) ?_
   refine pu_ (i:=1) (N:=some 23) (bA 29 3) ?_
   refine pu_ (i:=2) (N:=some 24) (bA 29 7) ?_
   refine tk_ (i:=3) (N:=some 25) (bA 29 15) ?_
   refine tk_ (i:=4) (N:=some 26) (bA 29 31) ?_
   refine pu_ (i:=5) (N:=some 27) (bA 29 63) ?_
   refine pu_ (i:=6) (N:=some 28) (bA 29 127) ?_
   refine tk_ (i:=7) (N:=some 29) (bA 29 255) ?_
   refine tk_ (i:=8) (N:=some 30) (bA 29 511) ?_
   refine pu_ (i:=9) (N:=some 31) (bA 29 1023) ?_
   refine tk_ (i:=10) (N:=some 32) (bA 29 2047) ?_
   refine pu_ (i:=11) (N:=some 33) (bA 29 4095) ?_
   refine pu_ (i:=12) (N:=some 34) (bA 29 8191) ?_
   refine tk_ (i:=13) (N:=some 35) (bA 29 16383) ?_
   refine tk_ (i:=14) (N:=some 36) (bA 29 32767) ?_
   refine pu_ (i:=15) (N:=some 37) (bA 29 65535) ?_
   refine pu_ (i:=16) (N:=some 38) (bA 29 131071) ?_
   refine tk_ (i:=17) (N:=some 39) (bA 29 262143) ?_
   refine pu_ (i:=18) (N:=some 40) (bA 29 524287) ?_
   refine pu_ (i:=19) (N:=some 41) (bA 29 1048575) ?_
   refine tk_ (i:=20) (N:=some 42) (bA 29 2097151) ?_
   refine tk_ (i:=21) (N:=some 43) (bA 29 4194303) ?_
   refine pu_ (i:=22) (N:=some 44) (bA 29 8388607) ?_
   refine pu_ (i:=23) (N:=some 45) (bA 29 16777215) ?_
   refine tk_ (i:=24) (N:=some 46) (bA 29 33554431) ?_
   refine pu_ (i:=25) (N:=some 47) (bA 29 67108863) ?_
   refine tk_ (i:=26) (N:=some 48) (bA 29 134217727) ?_
   refine pu_ (i:=27) (N:=some 49) (bA 29 268435455) ?_
   refine pu_ (i:=28) (N:=some 50) (bA 29 536870911) ?_
   refine done_ (by kernel_rfl) ?_
   go_wp2
   go_roundw
   case rel=>exact ⟨k+1,(by omega),(by go_num),⟨dr_next HD.out⟩⟩
   case measure=>simp [intOf];omega
  have hlt:k<m:=by
   by_cases q:k=m
   ·
    exact absurd (by rw [q];exact HM1.out.1) hp
   omega
  have f1:=(dc _).trans (HO.out k hkN)
  have f3:=HC.out k wr HD.out hkN hp
  obtain ⟨p,ep⟩ : ∃ p,P k=p:=⟨_,rfl⟩
  rw [ep] at f1 f3
  clear dc hp
  try go_wp2
  refine start_ (n:=29) (S:=fun w'=>w'.cell? ⟨g8,0,none⟩=some (.slice (some ao) N co)∧w'.cell? (ao.add k)=some (.pointer p)∧w'.cell? (ao.add i)=some (.pointer (some ⟨g,0,none⟩))∧(binOp BinOp.eql 61 (.pointer p) (.pointer (some ⟨g,0,none⟩))).run Try.prog w' = .ok (.bool false) w') (ds:=[]) (bA 29 0) (by kernel_rfl) rfl rfl ⟨f0,f1,f2,f3⟩ (fun hHeld=>?_)
  refine tk_ (i:=0) (N:=some 22) (bA 29 1) ?_
  refine pu_ (i:=1) (N:=some 23) (bA 29 3) ?_
  refine pu_ (i:=2) (N:=some 24) (bA 29 7) ?_
  refine tk_ (i:=3) (N:=some 25) (bA 29 15) ?_
  refine tk_ (i:=4) (N:=some 26) (bA 29 31) ?_
  refine pu_ (i:=5) (N:=some 27) (bA 29 63) ?_
  refine pu_ (i:=6) (N:=some 28) (bA 29 127) ?_
  refine tk_ (i:=7) (N:=some 29) (bA 29 255) ?_
  refine tk_ (i:=8) (N:=some 30) (bA 29 511) ?_
  refine pu_ (i:=9) (N:=some 31) (bA 29 1023) ?_
  refine of_ (i:=10) (N:=some 32) (bA 29 2047) ?_
  refine of_ (i:=11) (N:=some 33) (bA 29 4095) ?_
  refine of_ (i:=12) (N:=some 34) (bA 29 8191) ?_
  refine of_ (i:=13) (N:=some 35) (bA 29 16383) ?_
  refine of_ (i:=14) (N:=some 36) (bA 29 32767) ?_
  refine of_ (i:=15) (N:=some 37) (bA 29 65535) ?_
  refine of_ (i:=16) (N:=some 38) (bA 29 131071) ?_
  refine of_ (i:=17) (N:=some 39) (bA 29 262143) ?_
  refine of_ (i:=18) (N:=some 40) (bA 29 524287) ?_
  refine of_ (i:=19) (N:=some 41) (bA 29 1048575) ?_
  refine of_ (i:=20) (N:=some 42) (bA 29 2097151) ?_
  refine of_ (i:=21) (N:=some 43) (bA 29 4194303) ?_
  refine of_ (i:=22) (N:=some 44) (bA 29 8388607) ?_
  refine of_ (i:=23) (N:=some 45) (bA 29 16777215) ?_
  refine of_ (i:=24) (N:=some 46) (bA 29 33554431) ?_
  refine of_ (i:=25) (N:=some 47) (bA 29 67108863) ?_
  refine of_ (i:=26) (N:=some 48) (bA 29 134217727) ?_
  refine of_ (i:=27) (N:=some 49) (bA 29 268435455) ?_
  refine pu_ (i:=28) (N:=some 50) (bA 29 536870911) ?_
  refine done_ (by kernel_rfl) ?_
  go_wp2
  go_roundw
  case rel=>exact ⟨k+1,(by omega),(by go_num),⟨dr_next HD.out⟩⟩
  case measure=>simp [intOf];omega
theorem AlgAt.blk {w:World} {g:Nat} {u a o:List (List Int)} {nt:List Int} {no yes:Int} (h:AlgAt w g u a o nt no yes) : ∃ cs,w.heap[g]?=some (.cells cs 69 (0,0)):=by
 obtain ⟨Au,cu,Aa,ca,Ao,co,An,cn,h0,_⟩:=h
 exact ⟨_,h0⟩
structure GlR (w:World) (g8 g9 bl gx gy:Nat) (u:List (List Int)) (nt:List Int) (v:List (List Int)) (mtt:List Int) (G:List (Nat × Int)):Prop where
 hG:G=glueL u nt v mtt
 c8 : ∃ ao co,w.cell? ⟨g8,0,none⟩=some (.slice (some ao) G.length co)∧∀ k,k<G.length→w.cell? (ao.add k)=some (.pointer (pt gx gy (G.getD k (0,0)).1))
 c9 : ∃ ai ci,w.cell? ⟨g9,0,none⟩=some (.slice (some ai) G.length ci)∧∀ k,k<G.length→w.cell? (ai.add k)=some (.int .i64 (G.getD k (0,0)).2)
 cl:w.cell? ⟨bl,0,none⟩=some (.int .i64 ((G.length-1:Nat):Int))
 ax:AlgAt w gx u (mtab u) (jtab u) nt (leastI u) (rd nt (leastI u))
 ay:AlgAt w gy v (mtab v) (jtab v) mtt (leastI v) (rd mtt (leastI v))
 hx:OL u nt
 hy:OL v mtt
 k1:2≤u.length
 k2:2≤v.length
 hN:G.length≤12
 hne:gx≠gy
namespace GlR
variable {w w1:World} {g8 g9 bl gx gy:Nat} {u:List (List Int)} {nt:List Int} {v:List (List Int)} {mtt:List Int} {G:List (Nat × Int)}
theorem cell_ {a:Addr} {x:Value} (h:w.cell? a=some x) (hb:Below w.heap.size w w1):w1.cell? a=some x:=(hb.cell (World.block_lt_of_cell? _ _ h)).trans h
theorem below (R:GlR w g8 g9 bl gx gy u nt v mtt G) (hb:Below w.heap.size w w1):GlR w1 g8 g9 bl gx gy u nt v mtt G:=by
 obtain ⟨ao,co,p1,p2⟩:=R.c8
 obtain ⟨ai,ci,q1,q2⟩:=R.c9
 exact ⟨R.hG,⟨ao,co,cell_ p1 hb,fun k hk=>cell_ (p2 k hk) hb⟩,⟨ai,ci,cell_ q1 hb,fun k hk=>cell_ (q2 k hk) hb⟩,cell_ R.cl hb,R.ax.below hb,R.ay.below hb,R.hx,R.hy,R.k1,R.k2,R.hN,R.hne⟩
theorem len2 (R:GlR w g8 g9 bl gx gy u nt v mtt G):2≤G.length:=by
 rw [R.hG,Q.glue_len]
 omega
theorem inner (R:GlR w g8 g9 bl gx gy u nt v mtt G) {i:Nat} (h0:0<i) (h1:i<G.length-1) : ∃ (t:Nat) (x:Int) (g:Nat) (uu:List (List Int)) (ntt:List Int),G.getD i (0,0)=(t,x)∧(t=1∨t=2)∧pt gx gy t=some ⟨g,0,none⟩∧OL uu ntt∧AlgAt w g uu (mtab uu) (jtab uu) ntt (leastI uu) (rd ntt (leastI uu))∧(if t=1 then u else v)=uu∧(if t=1 then nt else mtt)=ntt∧(0≤x∧x<(uu.length:Int))∧(t,rd ntt x)∈G:=by
 have h2:=h1
 rw [R.hG] at h2
 have hm:=Q.glue_mid h0 h2
 rw [← R.hG] at hm
 obtain ⟨⟨t,x⟩,e⟩ : ∃ p,G.getD i (0,0)=p:=⟨_,rfl⟩
 rw [e] at hm
 rcases Q.mids_mem.1 hm with ⟨e1,k⟩|⟨e1,k⟩
 ·
  have e1:t=1:=e1
  subst e1
  exact ⟨1,x,gx,u,nt,e,.inl rfl,rfl,R.hx,R.ax,if_pos rfl,if_pos rfl,(Q.inn_mem.1 k).1,(by rw [R.hG];exact Q.glue_has (Q.mids_mem.2 (.inl ⟨rfl,Q.inn_ng R.hx k⟩)))⟩
 have e1:t=2:=e1
 subst e1
 exact ⟨2,x,gy,v,mtt,e,.inr rfl,rfl,R.hy,R.ay,if_neg (by decide),if_neg (by decide),(Q.inn_mem.1 k).1,(by rw [R.hG];exact Q.glue_has (Q.mids_mem.2 (.inr ⟨rfl,Q.inn_ng R.hy k⟩)))⟩
theorem tag (R:GlR w g8 g9 bl gx gy u nt v mtt G) {k:Nat} (hk:k<G.length):(G.getD k (0,0)).1=0∨(G.getD k (0,0)).1=1∨(G.getD k (0,0)).1=2:=by
 have hk2:=hk
 rw [R.hG] at hk2
 rcases Q.glue_in hk2 with ⟨_,e⟩|⟨_,e⟩|⟨_,_,e⟩
 ·
  rw [← R.hG] at e;exact .inl (by rw [e])
 ·
  rw [← R.hG] at e;exact .inl (by rw [e])
 rw [← R.hG] at e
 rcases Q.mids_mem.1 e with ⟨q,_⟩|⟨q,_⟩
 ·
  exact .inr (.inl q)
 exact .inr (.inr q)
theorem cmp (R:GlR w g8 g9 bl gx gy u nt v mtt G) {s t:Nat} (hs:s=0∨s=1∨s=2) (ht:t=1∨t=2) (hst:s≠t):(binOp .eql 61 (.pointer (pt gx gy s)) (.pointer (pt gx gy t))).run Try.prog w = .ok (.bool false) w:=by
 obtain ⟨cx,bx⟩:=R.ax.blk
 obtain ⟨cy,by_⟩:=R.ay.blk
 rcases hs with rfl|rfl|rfl <;> rcases ht with rfl|rfl
 ·
  exact cmp_none_to _ _
 ·
  exact cmp_none_to _ _
 ·
  exact absurd rfl hst
 ·
  exact cmp_other R.hne bx by_
 ·
  exact cmp_other (fun e=>R.hne e.symm) by_ bx
 exact absurd rfl hst
theorem pt_inj (R:GlR w g8 g9 bl gx gy u nt v mtt G) {s t:Nat} (hs:s=0∨s=1∨s=2) (ht:t=1∨t=2) (e:pt gx gy s=pt gx gy t):s=t:=by
 have hne:=R.hne
 rcases hs with rfl|rfl|rfl <;> rcases ht with rfl|rfl
 ·
  simp [pt] at e
 ·
  simp [pt] at e
 ·
  rfl
 ·
  simp [pt] at e;try exact absurd e hne
 ·
  simp [pt] at e;try exact absurd e.symm hne
 rfl
theorem one (R:GlR w g8 g9 bl gx gy u nt v mtt G) {i k:Nat} (hi:i<G.length) (hk:k<G.length) :
 Calls Try.prog 78 (#[.int .i64 i,.int .i64 k] ++ #[.pointer (some ⟨bl,0,none⟩),.pointer (some ⟨g8,0,none⟩),.pointer (some ⟨g9,0,none⟩)]) w fun e w2=>e = .returned (.bool (glueB u v G i k))∧Drawn0 w w2:=by
 have h2:=R.len2
 unfold glueB
 by_cases c1:i=0∨k=G.length-1∨i=k
 ·
  rw [if_pos c1]
  by_cases a:i=0
  ·
   subst a
   exact glue1_z (i:=0) R.cl
  by_cases b:k=G.length-1
  ·
   have kl:=R.cl
   rw [← b] at kl
   exact glue1_l (k:=0) kl (by omega)
  obtain rfl:i=k:=by omega
  exact glue1_e (k:=0) R.cl (by omega) b
 rw [if_neg c1]
 by_cases c2:i=G.length-1∨k=0
 ·
  rw [if_pos c2]
  by_cases a:i=G.length-1
  ·
   have kl:=R.cl
   rw [← a] at kl
   exact glue1_fl (i:=0) kl (by omega) (by omega)
  obtain rfl:k=0:=by omega
  exact glue1_fz (k:=0) R.cl (by omega) a (by omega)
 rw [if_neg c2]
 obtain ⟨t,x,g,uu,ntt,e,ht,hp,hl,hA,eu,en,hx,_⟩:=R.inner (i:=i) (by omega) (by omega)
 obtain ⟨t',x',g',uu',ntt',e',ht',hp',hl',hA',eu',en',hx',_⟩:=R.inner (i:=k) (by omega) (by omega)
 obtain ⟨ao,co,p1,p2⟩:=R.c8
 obtain ⟨ai,ci,q1,q2⟩:=R.c9
 have o1:=p2 i hi
 have o2:=p2 k hk
 have i1:=q2 i hi
 have i2:=q2 k hk
 rw [e] at o1 i1
 rw [e'] at o2 i2
 rw [e,e']
 by_cases q:t=t'
 ·
  subst q
  obtain rfl:uu=uu':=eu.symm.trans eu'
  have eg:g=g':=by
   have:=hp.symm.trans hp'
   injection this with this
   injection this
  subst eg
  obtain ⟨a,rfl⟩:=Int.eq_ofNat_of_zero_le hx.1
  obtain ⟨b,rfl⟩:=Int.eq_ofNat_of_zero_le hx'.1
  obtain ⟨y,ad,ar,bu,c1',ey,u0,u1,u2⟩:=under_reads hA hl (a:=a) (b:=b) (by omega) (by omega)
  have er:decide (t=t∧rdN (if t=1 then u else v) (Int.toNat (a:Int)) (Int.toNat (b:Int))=1)=(y==1):=by
   rw [eu,Int.toNat_natCast,Int.toNat_natCast,ey,Bool.eq_iff_iff,decide_eq_true_iff,beq_iff_eq]
   exact ⟨fun q=>q.2,fun q=>⟨rfl,q⟩⟩
  show Calls _ _ _ _ fun e w2=>e = .returned (.bool (decide (t=t∧rdN (if t=1 then u else v) (Int.toNat (a:Int)) (Int.toNat (b:Int))=1)))∧Drawn0 w w2
  rw [er]
  exact glue1_same p1 q1 R.cl (by rw [← hp];exact o1) (by rw [← hp];exact o2) i1 i2 u0 u1 u2 hx.1 hx.2 hx'.1 hx'.2 (by omega) (by omega) (by omega) (by omega) (by omega)
 have er:decide (t=t'∧rdN (if t=1 then u else v) x.toNat x'.toNat=1)=false:=dF_ (fun r=>q r.1)
 show Calls _ _ _ _ fun e w2=>e = .returned (.bool (decide (t=t'∧rdN (if t=1 then u else v) x.toNat x'.toNat=1)))∧Drawn0 w w2
 rw [er]
 exact glue1_other p1 q1 R.cl o1 o2 ((R.below (below_drew (Below.refl _ _))).cmp (.inr ht) ht' q) (by omega) (by omega) (by omega) (by omega) (by omega)
theorem two (R:GlR w g8 g9 bl gx gy u nt v mtt G) {i:Nat} (hi:i<G.length) :
 Calls Try.prog 79 (#[.int .i64 i] ++ #[.pointer (some ⟨bl,0,none⟩),.pointer (some ⟨g8,0,none⟩),.pointer (some ⟨g9,0,none⟩)]) w fun e w2=>e = .returned (.int .i64 (glueO nt mtt G i))∧Drawn0 w w2:=by
 have h2:=R.len2
 have hN:=R.hN
 unfold glueO
 by_cases c1:i=0∨i=G.length-1
 ·
  rw [if_pos c1]
  by_cases a:i=0
  ·
   subst a
   exact glue2_z R.cl (by omega)
  have b:i=G.length-1:=by omega
  have kl:=R.cl
  rw [← b] at kl
  rw [← b,Nat.sub_self]
  exact glue2_l kl (by omega)
 rw [if_neg c1]
 obtain ⟨t,x,g,uu,ntt,e,ht,hp,hl,hA,eu,en,hx,hin⟩:=R.inner (i:=i) (by omega) (by omega)
 obtain ⟨ao,co,p1,p2⟩:=R.c8
 obtain ⟨ai,ci,q1,q2⟩:=R.c9
 rw [e]
 show Calls _ _ _ _ fun e w2=>e = .returned (.int .i64 ((G.idxOf (t,rd (if t=1 then nt else mtt) x):Nat):Int))∧Drawn0 w w2
 rw [en]
 obtain ⟨a,rfl⟩:=Int.eq_ofNat_of_zero_le hx.1
 obtain ⟨z,an,bn,ez,hz,n3,n4⟩:=not_reads hA hl (a:=a) (by omega)
 rw [ez] at hin ⊢
 obtain ⟨m1,m2⟩:=Q.idx_at (d:=(0,0)) hin
 refine glue2_in (g:=g) (x:=(a:Int)) (z:=z) (fun k=>pt gx gy (G.getD k (0,0)).1) (fun k=>(G.getD k (0,0)).2) _ p1 q1 R.cl p2 q2 (by show pt gx gy (G.getD i (0,0)).1=_;rw [e];exact hp) (by show (G.getD i (0,0)).2=_;rw [e]) ?_ n3 n4 hx.1 hx.2 (by omega) (by omega) hN m1 ⟨(by show pt gx gy (G.getD _ (0,0)).1=_;rw [m2];exact hp),(by show (G.getD _ (0,0)).2=_;rw [m2])⟩ ?_
 ·
  rintro k wr ⟨m,rfl⟩ hk hne
  have R1:=R.below (w1:=(w.drewN m).drew) (below_drew (pw_below_drewN (Below.refl _ _) m))
  rw [← hp]
  exact R1.cmp (R.tag hk) ht (fun q=>hne (by show pt gx gy (G.getD k (0,0)).1=_;rw [q];exact hp))
 rintro j hj ⟨r1,r2⟩
 have hjl:j<G.length:=Nat.lt_trans hj m1
 have r3:(G.getD j (0,0)).1=t:=R.pt_inj (R.tag hjl) ht (r1.trans hp.symm)
 exact Q.idx_first (d:=(0,0)) hj (Prod.ext r3 r2)
end GlR
def PLs (u:List (List Int)) (nt:List Int) (v:List (List Int)) (mtt:List Int):Nat→List (Nat × Int)
 | 0=>[(0,0)]
 | 1=>(0,0)::(innerL u nt).map fun k=>(1,k)
 | _=>(0,0)::Q.midL u nt v mtt
theorem inn_le (u:List (List Int)) (nt:List Int):(innerL u nt).length≤u.length:=innTo_len u nt u.length
theorem PLs_len (u:List (List Int)) (nt:List Int) (v:List (List Int)) (mtt:List Int) (j:Nat):(PLs u nt v mtt j).length≤1+u.length+v.length:=by
 have a:=inn_le u nt
 have b:=inn_le v mtt
 unfold PLs
 split
 ·
  simp;omega
 ·
  simp;omega
 rw [List.length_cons,Q.mids_len];omega
theorem PLs_end (u:List (List Int)) (nt:List Int) (v:List (List Int)) (mtt:List Int):PLs u nt v mtt 2 ++ [(0,0)]=glueL u nt v mtt:=by
 rw [Q.glue_eq]
 rfl
theorem round_data {w:World} {gx gy:Nat} {u:List (List Int)} {nt:List Int} {v:List (List Int)} {mtt:List Int} (hx:OL u nt) (hy:OL v mtt) (ax:AlgAt w gx u (mtab u) (jtab u) nt (leastI u) (rd nt (leastI u))) (ay:AlgAt w gy v (mtab v) (jtab v) mtt (leastI v) (rd mtt (leastI v))) {j:Nat} (hj:j<2) :
 ∃ (tag g:Nat) (uu:List (List Int)) (ntt:List Int),(#[Value.pointer (some ⟨gx,0,none⟩),Value.pointer (some ⟨gy,0,none⟩)]:Array Value)[j]?=some (.pointer (some ⟨g,0,none⟩))∧pt gx gy tag=some ⟨g,0,none⟩∧OL uu ntt∧uu.length≤12∧AlgAt w g uu (mtab uu) (jtab uu) ntt (leastI uu) (rd ntt (leastI uu))∧PLs u nt v mtt (j+1)=PLs u nt v mtt j++(innerL uu ntt).map fun k=>(tag,k):=by
 have:j=0∨j=1:=by omega
 rcases this with rfl|rfl
 ·
  exact ⟨1,gx,u,nt,rfl,rfl,hx,hx.1.1.le12,ax,rfl⟩
 exact ⟨2,gy,v,mtt,rfl,rfl,hy,hy.1.1.le12,ay,rfl⟩
theorem alg_cells {w:World} {g:Nat} {u a o:List (List Int)} {nt:List Int} {no yes:Int} (h:AlgAt w g u a o nt no yes) : ∃ (A:Option Addr) (b:Nat),w.cell? ⟨g,0,none⟩=some (.slice A u.length b)∧w.cell? ⟨g,4,none⟩=some (.int .i64 no)∧w.cell? ⟨g,5,none⟩=some (.int .i64 yes):=by
 obtain ⟨Au,cu,Aa,ca,Ao,co,An,cn,h0,_⟩:=h
 exact ⟨Au,cu,(blk_cell h0 0).trans rfl,(blk_cell h0 4).trans rfl,(blk_cell h0 5).trans rfl⟩
theorem told_tg (Au:Option Addr) (cu:Nat) (u:List (List Int)) (An:Option Addr) (cn:Nat) (nt:List Int) (w:World)
 (hu:Kd.C (Kd.slice 3 (Kd.int .i64)) w Au u.length u) (hcu:u.length≤cu) (hn:Kd.C (Kd.int .i64) w An nt.length nt) (hcn:nt.length≤cn) :
 Calls Try.prog 68 #[.agg #[.slice Au u.length cu,.slice An nt.length cn]] w fun e w'=>∃ x,e = .returned x∧Tl u nt x w'∧Below w.heap.size w w'∧∀ g,x = .pointer (some ⟨g,0,none⟩)→w.heap.size≤g:=by
 by_cases hl:OL u nt
 ·
  refine (told_some Au cu u An cn nt w hu hcu hn hcn hl).mono ?_
  rintro e w' ⟨g,rfl,hge,hA,hb⟩
  exact ⟨_,rfl,.inl ⟨hl,g,rfl,hA⟩,hb,fun g' e=>by injection e with e;injection e with e;injection e with e;omega⟩
 refine (told_none Au cu u An cn nt w hu hcu hn hcn hl).mono ?_
 rintro e w' ⟨rfl,hb⟩
 exact ⟨_,rfl,.inr ⟨hl,rfl⟩,hb,fun g' e=>by injection e with e;cases e⟩
theorem Gl.reads {wf W:World} {g8 g9 b bl gx gy:Nat} {bc:Array Value} {vO vI:Value} {u:List (List Int)} {nt:List Int} {v:List (List Int)} {mtt:List Int} {G:List (Nat × Int)} (h:Gl wf W g8 g9 b bc vO vI vO vI (osG gx gy G) (isG G)) (hG:G=glueL u nt v mtt)
 (cl:W.cell? ⟨bl,0,none⟩=some (.int .i64 ((G.length-1:Nat):Int))) (ax:AlgAt wf gx u (mtab u) (jtab u) nt (leastI u) (rd nt (leastI u))) (ay:AlgAt wf gy v (mtab v) (jtab v) mtt (leastI v) (rd mtt (leastI v))) (hx:OL u nt) (hy:OL v mtt) (k1:2≤u.length) (k2:2≤v.length) (hN:G.length≤12) (hne:gx≠gy):GlR W g8 g9 bl gx gy u nt v mtt G:=by
 have h2:0<G.length:=by rw [hG,Q.glue_len];omega
 obtain ⟨A,c,e1,_,hC⟩:=Kd.R_reads h.O
 obtain ⟨A',c',e1',_,hC'⟩:=Kd.R_reads h.I
 rw [osG_len] at e1 hC
 rw [isG_len] at e1' hC'
 have r8:=h.cell8
 have r9:=h.cell9
 rw [e1] at r8
 rw [e1'] at r9
 obtain ⟨ao,ea,_⟩:=at_sc none hC h2
 obtain ⟨ai,ea',_⟩:=at_sc 0 hC' h2
 subst ea
 subst ea'
 refine ⟨hG,⟨ao,c,r8,fun k hk=>?_⟩,⟨ai,c',r9,fun k hk=>?_⟩,cl,ax.below h.below,ay.below h.below,hx,hy,k1,k2,hN,hne⟩
 ·
  obtain ⟨ad,e,q⟩:=at_sc none hC hk
  injection e with e
  subst e
  rw [osG_at] at q
  exact q
 obtain ⟨ad,e,q⟩:=at_sc 0 hC' hk
 injection e with e
 subst e
 rw [isG_at] at q
 exact q
theorem sum_w {a b:Nat} (ha:a≤12) (hb:b≤12):wrap64 ((a:Int)+(b:Int))=((a+b:Nat):Int):=by
 rw [Q.wrap_of _ (by omega) (by omega)]
 omega
theorem sum_w2 {a b:Nat} (ha:a≤12) (hb:b≤12) (h:2≤a+b):wrap64 (wrap64 ((a:Int)+(b:Int))-2)=((a+b-2:Nat):Int):=by
 rw [sum_w ha hb,Q.wrap_of _ (by omega) (by omega)]
 omega
theorem z22_1 {p:Prop} (h:p:=by kernel_rfl):p:=h
theorem z22_0 {p:Prop} (h:p:=by first|(simp only [putAll,Act.put,List.setIfInBounds_toArray,List.set_cons_zero,List.set_cons_succ];done)|(simp only [putAll,Act.put,List.setIfInBounds_toArray,List.set_cons_zero,List.set_cons_succ];rfl)):p:=h
set_option maxHeartbeats 8000000 in
set_option maxRecDepth 100000 in
theorem gluedOf_core (Au:Option Addr) (cu:Nat) (u:List (List Int)) (An:Option Addr) (cn:Nat) (nt:List Int) (Av:Option Addr) (cv:Nat) (v:List (List Int)) (Am:Option Addr) (cm:Nat) (mtt:List Int) (w:World)
 (hu:Kd.C (Kd.slice 3 (Kd.int .i64)) w Au u.length u) (hcu:u.length≤cu) (hn:Kd.C (Kd.int .i64) w An nt.length nt) (hcn:nt.length≤cn)
 (hv:Kd.C (Kd.slice 3 (Kd.int .i64)) w Av v.length v) (hcv:v.length≤cv) (hm:Kd.C (Kd.int .i64) w Am mtt.length mtt) (hcm:mtt.length≤cm) (r1:List (List Int)) (r2:List Int) (r3:Bool) (h:gluedF u nt v mtt=(r1,r2,r3)) :
 Calls Try.prog 29 #[.agg #[.slice Au u.length cu,.slice An nt.length cn],.agg #[.slice Av v.length cv,.slice Am mtt.length cm]] w fun e w'=>∃ v0_ v1_:Value,e = .returned (.tuple #[.agg #[v0_,v1_],.bool r3])∧Kd.S (Kd.slice 3 (Kd.int .i64)) 25 w' w.heap.size (fun k_=>some k_≠(v1_:Value).ownBlock) v0_ r1∧Kd.R (Kd.int .i64) 3 w' w.heap.size (fun _=>True) v1_ r2∧Below w.heap.size w w':=by
 have hul:=Try.underlying27
 have HU:=ak hu
 have HC:=ak hcu
 have HN:=ak hn
 have HCN:=ak hcn
 have HV:=ak hv
 have HCV:=ak hcv
 have HMt:=ak hm
 have HCM:=ak hcm
 have HRES:=ak h
 have HL:=ak (Live.start w)
 have s0:=ak True.intro
 clear hu hcu hn hcn hv hcv hm hcm h
 go_enter Try.func29,Try.ntmps29
 go_wp2_with (first
  | (clear s0;(with_reducible refine gate_dst (N:=2) rfl ?_);refine armb_ (rs':=[]) HL (fun HL_=>?_);refine bx_ (N:=2) (cs:=#[.slice Au u.length cu,.slice An nt.length cn]) (t:=27) ?_;intro b2 hg w1 hbox hb;have HL1:Aside0 (Live w w1 [.box b2 #[.slice Au u.length cu,.slice An nt.length cn] 27]):=⟨HL_.out.box hb hg hbox⟩;clear HL HL_ hb hg hbox ; have HL:=HL1;clear HL1;have s1:=ak True.intro)
  | (clear s1;(with_reducible refine gate_dst (N:=3) rfl ?_);refine armb_ (rs':=[.box b2 #[.slice Au u.length cu,.slice An nt.length cn] 27]) HL (fun HL_=>?_);refine bx_ (N:=3) (cs:=#[.slice Av v.length cv,.slice Am mtt.length cm]) (t:=27) ?_;intro b3 hg w2 hbox hb;have HL1:Aside0 (Live w w2 [.box b3 #[.slice Av v.length cv,.slice Am mtt.length cm] 27,.box b2 #[.slice Au u.length cu,.slice An nt.length cn] 27]):=⟨HL_.out.box hb hg hbox⟩;clear HL HL_ hb hg hbox ; have HL:=HL1;clear HL1;have s2:=ak True.intro)
  | (clear s2;(with_reducible refine gate_dst (N:=4) rfl ?_);refine armb_ (rs':=[.box b3 #[.slice Av v.length cv,.slice Am mtt.length cm] 27,.box b2 #[.slice Au u.length cu,.slice An nt.length cn] 27]) HL (fun HL_=>?_);refine bx_ (N:=4) (cs:=#[.slice none 0 0,.slice none 0 0]) (t:=27) ?_;intro b4 hg w3 hbox hb;have HL1:Aside0 (Live w w3 [.box b4 #[.slice none 0 0,.slice none 0 0] 27,.box b3 #[.slice Av v.length cv,.slice Am mtt.length cm] 27,.box b2 #[.slice Au u.length cu,.slice An nt.length cn] 27]):=⟨HL_.out.box hb hg hbox⟩;clear HL HL_ hb hg hbox ; have HL:=HL1;clear HL1;have s3:=ak True.intro))
 have HD:=ak (Live.drew HL.out)
 refine start_ (n:=6) (S:=fun w'=>w'.cell? ⟨b2,0,none⟩=some (.slice Au u.length cu)∧w'.cell? ⟨b2,1,none⟩=some (.slice An nt.length cn)∧w'.cell? ⟨b3,0,none⟩=some (.slice Av v.length cv)∧w'.cell? ⟨b3,1,none⟩=some (.slice Am mtt.length cm)) (ds:=[]) (bA 6 0) z22_1 rfl rfl ⟨Live.cell [_,_] HD.out 0 rfl,Live.cell [_,_] HD.out 1 rfl,Live.cell [_] HD.out 0 rfl,Live.cell [_] HD.out 1 rfl⟩ (fun hHeld=>?_)
 refine tk_ (i:=0) (N:=some 14) (bA 6 1) ?_
 refine tk_ (i:=2) (N:=some 16) (bA 6 5) ?_
 refine one_ (i:=1) (N:=some 15) (bA 6 7) rfl rfl z22_1 (by decide) (fun K hK=>?_)
 refine ge_ Try.func68 #[.agg #[.slice Au u.length cu,.slice An nt.length cn]] ?_
 with_reducible refine (told_tg Au cu u An cn nt _ (HD.out.came HU.out) HC.out (HD.out.came HN.out) HCN.out).mono ?_
 rintro e W1 ⟨x,rfl,hTX,hb,hgx⟩
 have HD1:=ak (HD.out.step hb)
 have TX:=ak hTX
 have HGx:=ak hgx
 clear HD hTX hb hgx
 have HD:=HD1
 clear HD1
 refine ⟨_,rfl,?_⟩
 refine hK.out _ _ ⟨Live.cell [_,_] HD.out 0 rfl,Live.cell [_,_] HD.out 1 rfl,Live.cell [_] HD.out 0 rfl,Live.cell [_] HD.out 1 rfl⟩ (fun hHeld=>?_)
 clear hK K
 refine no_ (N:=some 15) ?_
 refine one_ (i:=3) (N:=some 17) (bA 6 15) rfl rfl z22_1 (by decide) (fun K hK=>?_)
 refine ge_ Try.func68 #[.agg #[.slice Av v.length cv,.slice Am mtt.length cm]] ?_
 with_reducible refine (told_tg Av cv v Am cm mtt _ (HD.out.came HV.out) HCV.out (HD.out.came HMt.out) HCM.out).mono ?_
 rintro e wf ⟨y,rfl,hTY,hb,hgy⟩
 have HD1:=ak (HD.out.step hb)
 have TY:=ak hTY
 have HGy:=ak hgy
 have TX1:=ak (TX.out.below hb)
 have HB1:=ak hb
 have TX0:=TX
 clear HD TX hTY hb hgy
 have HD:=HD1
 have TX:=TX1
 clear HD1 TX1
 refine ⟨_,rfl,?_⟩
 refine hK.out _ _ ⟨Live.cell [_,_] HD.out 0 rfl,Live.cell [_,_] HD.out 1 rfl,Live.cell [_] HD.out 0 rfl,Live.cell [_] HD.out 1 rfl⟩ (fun hHeld=>?_)
 clear hK K
 refine no_ (N:=some 17) ?_
 refine pu_ (i:=4) (N:=some 6) (bA 6 31) ?_
 refine pu_ (i:=5) (N:=some 7) (bA 6 63) ?_
 refine done_ z22_1 ?_
 clear hHeld s3
 have hr0:wf.cell? ⟨b4,0,none⟩=some (.slice none 0 0):=Live.cell [] HD.out 0 rfl
 have hr1:wf.cell? ⟨b4,1,none⟩=some (.slice none 0 0):=Live.cell [] HD.out 1 rfl
 have hx0:=Live.frozen [] HD.out 0
 have hx1:=Live.frozen [] HD.out 1
 rcases TX.out with ⟨hl1,gx,ex,hAx⟩|⟨hl1,ex⟩
 ·
  subst ex
  rcases TY.out with ⟨hl2,gy,ey,hAy⟩|⟨hl2,ey⟩
  ·
   subst ey
   have HAx:=ak hAx
   have HAy:=ak hAy
   have a1:=ak hl1
   have a2:=ak hl2
   have EN1:=ak hl1.2.1
   have EN2:=ak hl2.2.1
   have u12:=hl1.1.1.le12
   have a0:=hl2.1.1.le12
   have hne:Aside0 (gx≠gy):=⟨by
    intro e
    rcases TX0.out with ⟨_,g0,e0,hA0⟩|⟨_,e0⟩
    ·
     injection e0 with e0
     injection e0 with e0
     injection e0 with e0
     obtain ⟨cs,hcs⟩:=hA0.blk
     have q1:=blk_lt hcs
     have q2:=HGy.out gy rfl
     omega
    injection e0 with e0
    cases e0⟩
   have hb1:wf.cell? ⟨b2,1,none⟩=some (.slice An u.length cn):=(Live.cell [_,_] HD.out 1 rfl).trans (congrArg (fun n=>some (Value.slice An n cn)) EN1.out)
   have hb3:wf.cell? ⟨b3,1,none⟩=some (.slice Am v.length cm):=(Live.cell [_] HD.out 1 rfl).trans (congrArg (fun n=>some (Value.slice Am n cm)) EN2.out)
   clear hAx hAy
   by_cases k1:2≤u.length
   ·
    have d1:decide ((u.length:Int)<2)=false:=dF_ (by omega)
    have d1b:decide (u.length<2)=false:=dF_ (by omega)
    by_cases k2:2≤v.length
    ·
     have d2:decide ((v.length:Int)<2)=false:=dF_ (by omega)
     have d2b:decide (v.length<2)=false:=dF_ (by omega)
     have w1_:=sum_w (a:=u.length) (b:=v.length) u12 a0
     have w2_:=sum_w2 (a:=u.length) (b:=v.length) u12 a0 (by omega)
     obtain ⟨N,hN⟩ : ∃ N,u.length+v.length-2=N:=⟨_,rfl⟩
     rw [hN] at w2_
     have w4_:wrap64 ((u.length:Int)+(v.length:Int)-2)=(N:Int):=by rw [Q.wrap_of _ (by omega) (by omega)];omega
     have hN40:N≤22:=by omega
     have w3_:wrap64 (N:Int)=(N:Int):=Q.wrap_of _ (by omega) (by omega)
     by_cases k3:N≤12
     ·
      have d3:decide ((N:Int)>12)=false:=dF_ (by omega)
      have d3b:decide (12<N)=false:=dF_ (by omega)
      have d3c:decide (12<(N:Int))=false:=d3
      have d3e:decide (12<wrap64 ((u.length:Int)+(v.length:Int)-2))=false:=by rw [w4_];exact d3
      have HK3:=ak k3
      have HK1:=ak k1
      have HK2:=ak k2
      have HNN:=ak hN
      have HU12:=ak u12
      have HV12:=ak a0
      clear k1 k2 k3 hN hN40 hl1 hl2 u12 a0 hr0 hr1 hx0 hx1
      have HM:=ak (Live.start wf)
      have s0:=ak True.intro
      go_wp2_with (first
       | (clear s0;(with_reducible refine gate_dst (N:=48) rfl ?_);refine armb_ (rs':=[]) HM (fun HM_=>?_);refine bs_ (N:=48) (n:=1) (cs:=#[.pointer none]) (t:=61) ?_;intro b48 hg w4 hbox hb;have HM1:Aside0 (Live wf w4 [.box b48 #[.pointer none] 61]):=⟨HM_.out.box hb hg hbox⟩;clear HM HM_ hb hg hbox;have HM:=HM1;clear HM1;have s1:=ak True.intro)
       | (clear s1;(with_reducible refine gate_dst (N:=49) rfl ?_);refine armb_ (rs':=[.box b48 #[.pointer none] 61]) HM (fun HM_=>?_);refine bs_ (N:=49) (n:=1) (cs:=#[.int .i64 0]) (t:=3) ?_;intro b49 hg w5 hbox hb;have HM1:Aside0 (Live wf w5 [.box b49 #[.int .i64 0] 3,.box b48 #[.pointer none] 61]):=⟨HM_.out.box hb hg hbox⟩;clear HM HM_ hb hg hbox;have HM:=HM1;clear HM1;have s2:=ak True.intro)
       | (clear s2;(with_reducible refine gate_dst (N:=8) rfl ?_);refine armb_ (rs':=[.box b49 #[.int .i64 0] 3,.box b48 #[.pointer none] 61]) HM (fun HM_=>?_);refine bx_ (N:=8) (cs:=#[.slice none 0 0]) (t:=71) ?_;intro g8 hg w6 hbox hb;have HM1:Aside0 (Live wf w6 [.box g8 #[.slice none 0 0] 71,.box b49 #[.int .i64 0] 3,.box b48 #[.pointer none] 61]):=⟨HM_.out.box hb hg hbox⟩;clear HM HM_ hb hg hbox ; have HM:=HM1;clear HM1;have s3:=ak True.intro)
       | (clear s3;(with_reducible refine gate_dst (N:=9) rfl ?_);refine armb_ (rs':=[.box g8 #[.slice none 0 0] 71,.box b49 #[.int .i64 0] 3,.box b48 #[.pointer none] 61]) HM (fun HM_=>?_);refine bx_ (N:=9) (cs:=#[.slice none 0 0]) (t:=25) ?_;intro g9 hg w7 hbox hb;have HM1:Aside0 (Live wf w7 [.box g9 #[.slice none 0 0] 25,.box g8 #[.slice none 0 0] 71,.box b49 #[.int .i64 0] 3,.box b48 #[.pointer none] 61]):=⟨HM_.out.box hb hg hbox⟩;clear HM HM_ hb hg hbox ; have HM:=HM1;clear HM1;have y8:w7.cell? ⟨g8,0,none⟩=some (.slice none 0 0):=Live.cell [_] HM.out 0 rfl;have y9:w7.cell? ⟨g9,0,none⟩=some (.slice none 0 0):=Live.cell [] HM.out 0 rfl;have z8:=Live.frozen [_] HM.out 0;have z9:=Live.frozen [] HM.out 0;have n98:g9≠g8:=Live.ne_ [] HM.out;have n89:g8≠g9:=Ne.symm n98;have s4:=ak True.intro)
       | (clear s4;(with_reducible refine gate_dst (N:=52) rfl ?_);refine armb_ (rs':=[.box g9 #[.slice (some ⟨b49,0,none⟩) 1 1] 25,.box g8 #[.slice (some ⟨b48,0,none⟩) 1 1] 71,.box b49 #[.int .i64 0] 3,.box b48 #[.pointer none] 61]) HM (fun HM_=>?_) (fun y_=>Live.seti (Live.put [_] y_ 0 _ rfl));refine bs_ (N:=52) (n:=2) (cs:=#[.pointer (some ⟨gx,0,none⟩),.pointer (some ⟨gy,0,none⟩)]) (t:=61) ?_;intro b52 hg w8 hbox hb;have HM1:Aside0 (Live wf w8 [.box b52 #[.pointer (some ⟨gx,0,none⟩),.pointer (some ⟨gy,0,none⟩)] 61,.box g9 #[.slice (some ⟨b49,0,none⟩) 1 1] 25,.box g8 #[.slice (some ⟨b48,0,none⟩) 1 1] 71,.box b49 #[.int .i64 0] 3,.box b48 #[.pointer none] 61]):=⟨HM_.out.box hb hg hbox⟩;clear HM HM_ hb hg hbox;have HM:=HM1;clear HM1;have s5:=ak True.intro))
      have HG0:Aside0 (Gl wf w8 g8 g9 b52 #[.pointer (some ⟨gx,0,none⟩),.pointer (some ⟨gy,0,none⟩)] (.slice (some ⟨b48,0,none⟩) 1 1) (.slice (some ⟨b49,0,none⟩) 1 1) (.slice (some ⟨b48,0,none⟩) 1 1) (.slice (some ⟨b49,0,none⟩) 1 1) (osG gx gy (PLs u nt v mtt 0)) (isG (PLs u nt v mtt 0))):=⟨⟨HM.out.below,Live.high [_,_] HM.out,Live.high [_] HM.out,Live.cells [_,_] HM.out,Live.cells [_] HM.out,Live.cells [] HM.out,fun e=>Live.ne_ [_,_,_] HM.out (by injection e),one_R (Live.cells [_,_,_,_] HM.out) (Live.high [_,_,_,_] HM.out),one_R (Live.cells [_,_,_] HM.out) (Live.high [_,_,_] HM.out)⟩⟩
      clear HM y8 y9 z8 z9 n98 n89 s5 w1_ w2_ w3_ d1 d1b d2 d2b d3 d3b d3c d3e w4_ hb1 hb3
      obtain ⟨BC,hBC⟩ : ∃ bc:Array Value,bc = #[.pointer (some ⟨gx,0,none⟩),.pointer (some ⟨gy,0,none⟩)]:=⟨_,rfl⟩
      rw [← hBC] at HG0
      have HBC:=ak hBC
      clear hBC
      go_loopw [54] (fun a3 wr=>∃ (j:Nat) (vO vI:Value),j≤2∧a3 = .int .i64 j∧Aside0 (Gl wf wr g8 g9 b52 BC vO vI vO vI (osG gx gy (PLs u nt v mtt j)) (isG (PLs u nt v mtt j)))) (fun a3 _=>2-(intOf a3).toNat)
      case atStart=>exact ⟨0,_,_,(by omega),rfl,HG0⟩
      case round =>
       obtain ⟨j,vO,vI,hj,rfl,HG⟩:=hrel
       clear HG0
       by_cases hlt:j<2
       ·
        obtain ⟨tag,g,uu,ntt,eb,hp,hl,hlu,hA,hPL⟩:=round_data (w:=wf) a1.out a2.out HAx.out HAy.out hlt
        have HP_:=ak hp
        have HL_:=ak hl
        have HA_:=ak hA
        have HPL:=ak hPL
        rw [← HBC.out] at eb
        have hcj:wr.cell? ⟨b52,j,none⟩=some (.pointer (some ⟨g,0,none⟩)):=(blk_cell HG.out.bb j).trans eb
        obtain ⟨Au_,bu_,e0,e4,e5⟩:=alg_cells (hA.below HG.out.below)
        have hj0:(0:Int)≤j:=by omega
        have hj2:(j:Int)<2:=by omega
        clear eb hp hl hA hPL e4 e5
        go_wp2
        go_loopw [63] (fun a4 wr=>∃ (k:Nat) (vO vI:Value),k≤uu.length∧a4 = .int .i64 k∧Aside0 (Gl wf wr g8 g9 b52 BC vO vI vO vI (osG gx gy (PLs u nt v mtt j++(innTo uu ntt k).map fun k=>(tag,k))) (isG (PLs u nt v mtt j++(innTo uu ntt k).map fun k=>(tag,k))))) (fun a4 _=>uu.length-(intOf a4).toNat)
        case atStart=>exact ⟨0,vO,vI,Nat.zero_le _,rfl,⟨(by rw [show PLs u nt v mtt j++((innTo uu ntt 0).map fun k=>(tag,k))=PLs u nt v mtt j from by simp [innTo,castL]];exact HG.out)⟩⟩
        case round =>
         clear hcj e0 HG
         obtain ⟨k,vO,vI,hk,rfl,HG⟩:=hrel
         by_cases hlk:k<uu.length
         ·
          obtain ⟨Au_,bu_,e0,e4,e5⟩:=alg_cells (HA_.out.below HG.out.below)
          obtain ⟨no,hno⟩ : ∃ x,leastI uu=x:=⟨_,rfl⟩
          obtain ⟨ye,hye⟩ : ∃ x,rd ntt no=x:=⟨_,rfl⟩
          rw [hno] at e4
          rw [hno,hye] at e5
          clear e0
          by_cases kn:(k:Int)=no
          ·
           have HKN:Aside0 ((k:Int)=leastI uu∨(k:Int)=rd ntt (leastI uu)):=⟨.inl (by rw [hno];exact kn)⟩
           clear hno hye
           obtain ⟨kk,hkk⟩ : ∃ x:Int,x=(k:Int):=⟨_,rfl⟩
           subst kn
           go_wp2
           go_roundw
           case rel=>exact ⟨k+1,vO,vI,(by omega),(by go_num),⟨(by rw [innTo_no HKN.out];exact HG.out)⟩⟩
           case measure=>simp [intOf];omega
          have kn1:decide ((k:Int)=no)=false:=dF_ kn
          have kn2:((k:Int)==no)=false:=by rw [beq_eq_false_iff_ne];exact kn
          have kn3:((k:Int) != no)=true:=by rw [bne,kn2];rfl
          by_cases ky:(k:Int)=ye
          ·
           have HKN:Aside0 ((k:Int)=leastI uu∨(k:Int)=rd ntt (leastI uu)):=⟨.inr (by rw [hno,hye];exact ky)⟩
           clear hno hye
           subst ky
           go_wp2
           go_roundw
           case rel=>exact ⟨k+1,vO,vI,(by omega),(by go_num),⟨(by rw [innTo_no HKN.out];exact HG.out)⟩⟩
           case measure=>simp [intOf];omega
          have ky1:decide ((k:Int)=ye)=false:=dF_ ky
          have ky2:((k:Int)==ye)=false:=by rw [beq_eq_false_iff_ne];exact ky
          have ky3:((k:Int) != ye)=true:=by rw [bne,ky2];rfl
          have HKY:Aside0 (innTo uu ntt (k+1)=innTo uu ntt k ++ [(k:Int)]):=⟨innTo_yes (by rw [hno];exact kn) (by rw [hno,hye];exact ky)⟩
          clear hno hye kn ky
          go_wp2
          obtain ⟨LL,hLL⟩ : ∃ l,(PLs u nt v mtt j++(innTo uu ntt k).map fun k=>(tag,k))=l:=⟨_,rfl⟩
          have hlen:LL.length≤40:=by
           have q1:=PLs_len u nt v mtt j
           have q2:=innTo_len uu ntt k
           have q3:=HU12.out
           have q4:=HV12.out
           rw [← hLL,List.length_append,List.length_map]
           omega
          rw [hLL] at HG
          have hlO:(osG gx gy LL).length≤40:=by rw [osG_len];exact hlen
          have hlI:(isG LL).length≤40:=by rw [isG_len];exact hlen
          have HGd:=ak HG.out.drew
          clear HG
          refine start_ (n:=10) (S:=fun w'=>w'.cell? ⟨g8,0,none⟩=some vO∧w'.cell? ⟨g9,0,none⟩=some vI) (ds:=[8,9]) (bA 10 0) z22_1 rfl rfl ⟨HGd.out.cell8,HGd.out.cell9⟩ (fun hHeld=>?_)
          refine pu_ (i:=1) (N:=some 81) (bA 10 2) ?_
          refine pu_ (i:=5) (N:=some 85) (bA 10 34) ?_
          refine tk_ (i:=0) (N:=some 80) (bA 10 35) ?_
          refine tk_ (i:=4) (N:=some 84) (bA 10 51) ?_
          refine join_ (σ:=Nat × Nat × Value) 3 (bA 10 127) (fun s=>[(82,.slice (some ⟨s.1,0,none⟩) 1 1),(83,s.2.2),(86,.slice (some ⟨s.2.1,0,none⟩) 1 1)]) (fun s W=>ApF wf g8 g9 b52 BC vO vI (osG gx gy LL) (isG LL) (some ⟨g,0,none⟩:Option Addr) ((k:Int)) true true true s vO vI W) ?_ ?_
          rotate_left
          ·
           intro hJ2_3_6
           refine join_ (σ:=Nat × Nat × Value) 4 (bA 10 63) (fun s=>[(82,.slice (some ⟨s.1,0,none⟩) 1 1),(83,s.2.2)]) (fun s W=>ApF wf g8 g9 b52 BC vO vI (osG gx gy LL) (isG LL) (some ⟨g,0,none⟩:Option Addr) ((k:Int)) true true false s vO vI W) ?_ ?_
           rotate_left
           ·
            intro hJ2_3
            refine join_ (σ:=Nat × Nat × Value) 4 (bA 10 119) (fun s=>[(82,.slice (some ⟨s.1,0,none⟩) 1 1),(86,.slice (some ⟨s.2.1,0,none⟩) 1 1)]) (fun s W=>ApF wf g8 g9 b52 BC vO vI (osG gx gy LL) (isG LL) (some ⟨g,0,none⟩:Option Addr) ((k:Int)) true false true s vO vI W) ?_ ?_
            rotate_left
            ·
             intro hJ2_6
             refine join_ (σ:=Nat × Nat × Value) 5 (bA 10 55) (fun s=>[(82,.slice (some ⟨s.1,0,none⟩) 1 1)]) (fun s W=>ApF wf g8 g9 b52 BC vO vI (osG gx gy LL) (isG LL) (some ⟨g,0,none⟩:Option Addr) ((k:Int)) true false false s vO vI W) ?_ ?_
             rotate_left
             ·
              intro hJ2
              refine join_ (σ:=Nat × Nat × Value) 5 (bA 10 115) (fun s=>[(86,.slice (some ⟨s.2.1,0,none⟩) 1 1)]) (fun s W=>ApF wf g8 g9 b52 BC vO vI (osG gx gy LL) (isG LL) (some ⟨g,0,none⟩:Option Addr) ((k:Int)) false false true s vO vI W) ?_ ?_
              rotate_left
              ·
               intro hJ6
               refine two_ (i:=2) (j:=6) (Ni:=some 82) (Nj:=some 86) (bA 10 55) (bA 10 115) rfl rfl rfl rfl z22_1 (by decide) (by decide) (fun K hK=>?_) (fun K hK=>?_)
               ·
                skip
                have HG:=ApF.start HGd.out (some ⟨g,0,none⟩:Option Addr) ((k:Int)) ((0,0,vO):Nat × Nat × Value)
                refine value_ (w1:=?_) (v:=?_) (by rfl) rfl ?_ ?_
                rotate_left 2
                ·
                 go_simp
                 constructor
                 ·
                  rfl
                 rfl
                have HG1:=ApF.mk2 HG
                refine hK.out _ _ ⟨HG1.G.cell8,HG1.G.cell9⟩ (fun hHeld=>?_)
                clear hK K
                refine no_ (N:=some 82) ?_
                exact norm_ z22_0 (hJ2 (_,0,vO) _ HG1)
               skip
               have HG:=ApF.start HGd.out (some ⟨g,0,none⟩:Option Addr) ((k:Int)) ((0,0,vO):Nat × Nat × Value)
               refine value_ (w1:=?_) (v:=?_) (by rfl) rfl ?_ ?_
               rotate_left 2
               ·
                go_simp
                constructor
                ·
                 rfl
                rfl
               have HG1:=ApF.mk6 HG
               refine hK.out _ _ ⟨HG1.G.cell8,HG1.G.cell9⟩ (fun hHeld=>?_)
               clear hK K
               refine no_ (N:=some 86) ?_
               exact norm_ z22_0 (hJ6 (0,_,vO) _ HG1)
              skip
              rintro ⟨t2,t6,v3⟩ W HG
              refine norm_ (a':=?_) ?_ ?_
              rotate_left
              ·
               simp only [putAll,Act.put,List.setIfInBounds_toArray,List.set_cons_zero,List.set_cons_succ]
               rfl
              refine one_ (i:=2) (N:=some 82) (bA 10 119) rfl rfl z22_1 (by decide) (fun K hK=>?_)
              refine value_ (w1:=?_) (v:=?_) (by rfl) rfl ?_ ?_
              rotate_left 2
              ·
               go_simp
               constructor
               ·
                rfl
               rfl
              have HG1:=ApF.mk2 HG
              refine hK.out _ _ ⟨HG1.G.cell8,HG1.G.cell9⟩ (fun hHeld=>?_)
              clear hK K
              refine no_ (N:=some 82) ?_
              exact norm_ z22_0 (hJ2_6 (_,t6,v3) _ HG1)
             skip
             rintro ⟨t2,t6,v3⟩ W HG
             refine norm_ (a':=?_) ?_ ?_
             rotate_left
             ·
              simp only [putAll,Act.put,List.setIfInBounds_toArray,List.set_cons_zero,List.set_cons_succ]
              rfl
             refine two_ (i:=3) (j:=6) (Ni:=some 83) (Nj:=some 86) (bA 10 63) (bA 10 119) rfl rfl rfl rfl z22_1 (by decide) (by decide) (fun K hK=>?_) (fun K hK=>?_)
             ·
              skip
              refine Kd.R_append_rows_step KP (Rr:=fun x cs=>cs = [Value.pointer x]) (w0:=wf) wf.heap.size (by rfl) (.tmp 80) (.tmp 82) 71 61 (.pointer none) 8 rfl Try.underlying71 info_pa rfl (by decide) (by omega) vO (osG gx gy LL) [(some ⟨g,0,none⟩:Option Addr)] (some ⟨t2,0,none⟩) 1 1 (fun _=>True) (fun _=>False) rfl rfl ?aO ?aR ?aM ?aK ?aF ?aB ?aS ?aL ?_
              case aO=>exact HG.G.O
              case aR=>exact one_C (h1:=fun _=>rfl) (HG.O rfl rfl)
              case aM=>exact (fun x cs h=>h)
              case aK=>exact (fun _ hk=>hk.elim)
              case aF=>exact (fun _ _=>trivial)
              case aB=>exact HG.G.below
              case aS=>exact HG.G.below.size
              case aL=>omega
              intro v6 W1 ho hb hg hat
              have HG1:=ApF.app HG ho hb hg hat
              refine hK.out _ _ ⟨HG1.G.cell8,HG1.G.cell9⟩ (fun hHeld=>?_)
              clear hK K
              refine no_ (N:=some 83) ?_
              exact norm_ z22_0 (hJ2_3 (t2,t6,v6) _ HG1)
             skip
             refine value_ (w1:=?_) (v:=?_) (by rfl) rfl ?_ ?_
             rotate_left 2
             ·
              go_simp
              constructor
              ·
               rfl
              rfl
             have HG1:=ApF.mk6 HG
             refine hK.out _ _ ⟨HG1.G.cell8,HG1.G.cell9⟩ (fun hHeld=>?_)
             clear hK K
             refine no_ (N:=some 86) ?_
             exact norm_ z22_0 (hJ2_6 (t2,_,v3) _ HG1)
            skip
            rintro ⟨t2,t6,v3⟩ W HG
            refine norm_ (a':=?_) ?_ ?_
            rotate_left
            ·
             simp only [putAll,Act.put,List.setIfInBounds_toArray,List.set_cons_zero,List.set_cons_succ]
             rfl
            refine one_ (i:=3) (N:=some 83) (bA 10 127) rfl rfl z22_1 (by decide) (fun K hK=>?_)
            refine Kd.R_append_rows_step KP (Rr:=fun x cs=>cs = [Value.pointer x]) (w0:=wf) wf.heap.size (by rfl) (.tmp 80) (.tmp 82) 71 61 (.pointer none) 8 rfl Try.underlying71 info_pa rfl (by decide) (by omega) vO (osG gx gy LL) [(some ⟨g,0,none⟩:Option Addr)] (some ⟨t2,0,none⟩) 1 1 (fun _=>True) (fun _=>False) rfl rfl ?aO ?aR ?aM ?aK ?aF ?aB ?aS ?aL ?_
            case aO=>exact HG.G.O
            case aR=>exact one_C (h1:=fun _=>rfl) (HG.O rfl rfl)
            case aM=>exact (fun x cs h=>h)
            case aK=>exact (fun _ hk=>hk.elim)
            case aF=>exact (fun _ _=>trivial)
            case aB=>exact HG.G.below
            case aS=>exact HG.G.below.size
            case aL=>omega
            intro v6 W1 ho hb hg hat
            have HG1:=ApF.app HG ho hb hg hat
            refine hK.out _ _ ⟨HG1.G.cell8,HG1.G.cell9⟩ (fun hHeld=>?_)
            clear hK K
            refine no_ (N:=some 83) ?_
            exact norm_ z22_0 (hJ2_3_6 (t2,t6,v6) _ HG1)
           skip
           rintro ⟨t2,t6,v3⟩ W HG
           refine norm_ (a':=?_) ?_ ?_
           rotate_left
           ·
            simp only [putAll,Act.put,List.setIfInBounds_toArray,List.set_cons_zero,List.set_cons_succ]
            rfl
           refine one_ (i:=6) (N:=some 86) (bA 10 127) rfl rfl z22_1 (by decide) (fun K hK=>?_)
           refine value_ (w1:=?_) (v:=?_) (by rfl) rfl ?_ ?_
           rotate_left 2
           ·
            go_simp
            constructor
            ·
             rfl
            rfl
           have HG1:=ApF.mk6 HG
           refine hK.out _ _ ⟨HG1.G.cell8,HG1.G.cell9⟩ (fun hHeld=>?_)
           clear hK K
           refine no_ (N:=some 86) ?_
           exact norm_ z22_0 (hJ2_3_6 (t2,_,v3) _ HG1)
          rintro ⟨t2,t6,v3⟩ W HG
          refine norm_ (a':=?_) ?_ ?_
          rotate_left
          ·
           simp only [putAll,Act.put,List.setIfInBounds_toArray,List.set_cons_zero,List.set_cons_succ]
           rfl
          refine one_ (i:=7) (N:=some 87) (bA 10 255) rfl rfl z22_1 (by decide) (fun K hK=>?_)
          refine Kd.R_append_rows_step (Kd.int .i64) (Rr:=fun x cs=>cs = [Value.int .i64 x]) (w0:=wf) wf.heap.size (by rfl) (.tmp 84) (.tmp 86) 25 3 (.int .i64 0) 8 rfl Try.underlying25 info3 rfl (by decide) (by omega) vI (isG LL) [(k:Int)] (some ⟨t6,0,none⟩) 1 1 (fun _=>True) (fun _=>False) rfl rfl ?aO ?aR ?aM ?aK ?aF ?aB ?aS ?aL ?_
          case aO=>exact HG.G.I
          case aR=>exact one_C (h1:=fun _=>rfl) (HG.I rfl)
          case aM=>exact (fun x cs h=>h)
          case aK=>exact (fun _ hk=>hk.elim)
          case aF=>exact (fun _ _=>trivial)
          case aB=>exact HG.G.below
          case aS=>exact HG.G.below.size
          case aL=>omega
          intro v7 W1 ho hb hg hat
          have HG2:Gl wf W1 g8 g9 b52 BC vO vI v3 v7 ((osG gx gy LL) ++ [(some ⟨g,0,none⟩:Option Addr)]) ((isG LL) ++ [(k:Int)]):=Gl.growI HG.G ho hb hg
          clear ho hb hg hat HG
          obtain ⟨A3,c3,e3⟩:=Kd.R_slice HG2.O
          obtain ⟨n3,h3⟩ : ∃ n,((osG gx gy LL) ++ [(some ⟨g,0,none⟩:Option Addr)]).length=n:=⟨_,rfl⟩
          rw [h3] at e3
          have H3:=ak h3
          clear h3
          subst e3
          obtain ⟨A7,c7,e7⟩:=Kd.R_slice HG2.I
          obtain ⟨n7,h7⟩ : ∃ n,((isG LL) ++ [(k:Int)]).length=n:=⟨_,rfl⟩
          rw [h7] at e7
          clear h7
          subst e7
          have c8:=HG2.cell8
          have z8:=blk_frozen HG2.b8 0
          have HG3:=HG2.set8 (.slice A3 n3 c3)
          have c9:=HG3.cell9
          have z9:=blk_frozen HG3.b9 0
          have HG4:=ak (HG3.set9 (.slice A7 n7 c7))
          refine hK.out _ _ ⟨c8,HG2.cell9⟩ (fun hHeld=>?_)
          clear hK K
          refine no_ (N:=some 87) ?_
          refine last_ (i:=8) (N:=none) (bA 10 511) rfl rfl z22_1 (by decide) (fun K hK=>?_)
          refine skip_ (w1:=?_) (by rfl) rfl ?_ ?_
          rotate_left
          ·
           go_simp
           rfl
          refine hK.out _ _ ?_
          clear hK K
          refine last_ (i:=9) (N:=none) (bA 10 1023) rfl rfl z22_1 (by decide) (fun K hK=>?_)
          refine skip_ (w1:=?_) (by rfl) rfl ?_ ?_
          rotate_left
          ·
           go_simp
           rfl
          refine hK.out _ _ ?_
          clear hK K
          refine done_ z22_1 ?_
          generalize (World.setCell (World.setCell W1 ⟨g8,0,none⟩ (.slice A3 n3 c3)) ⟨g9,0,none⟩ (.slice A7 n7 c7))=wn at HG4 ⊢
          clear HG2 HG3 c8 z8 c9 z9 hHeld
          go_wp2
          go_roundw
          case rel=>exact ⟨k+1,_,_,(by omega),(by go_num),⟨(by rw [HKY.out,List.map_append,← List.append_assoc,hLL,List.map_cons,List.map_nil,osG_app,isG_app,HP_.out];exact HG4.out)⟩⟩
          case measure=>simp [intOf];omega
         have ek:k=uu.length:=by omega
         subst ek
         go_wp2
         go_roundw
         case rel=>exact ⟨j+1,vO,vI,(by omega),(by go_num),⟨(by rw [HPL.out,← innTo_all];exact HG.out)⟩⟩
         case measure=>simp [intOf];omega
       have ej:j=2:=by omega
       subst ej
       go_wp2
       have hlen:(PLs u nt v mtt 2).length≤40:=by
        have q1:=PLs_len u nt v mtt 2
        have q3:=HU12.out
        have q4:=HV12.out
        omega
       have hlO:(osG gx gy (PLs u nt v mtt 2)).length≤40:=by rw [osG_len];exact hlen
       have hlI:(isG (PLs u nt v mtt 2)).length≤40:=by rw [isG_len];exact hlen
       have HGd:=ak HG.out.drew
       clear HG
       refine start_ (n:=8) (S:=fun w'=>w'.cell? ⟨g8,0,none⟩=some vO∧w'.cell? ⟨g9,0,none⟩=some vI) (ds:=[6,7]) (bA 8 0) z22_1 rfl rfl ⟨HGd.out.cell8,HGd.out.cell9⟩ (fun hHeld=>?_)
       refine tk_ (i:=0) (N:=some 90) (bA 8 1) ?_
       refine tk_ (i:=3) (N:=some 93) (bA 8 9) ?_
       refine join_ (σ:=Nat × Nat × Value) 3 (bA 8 31) (fun s=>[(91,.slice (some ⟨s.1,0,none⟩) 1 1),(92,s.2.2),(94,.slice (some ⟨s.2.1,0,none⟩) 1 1)]) (fun s W=>ApF wf g8 g9 b52 BC vO vI (osG gx gy (PLs u nt v mtt 2)) (isG (PLs u nt v mtt 2)) (none:Option Addr) ((0:Int)) true true true s vO vI W) ?_ ?_
       rotate_left
       ·
        intro hJ1_2_4
        refine join_ (σ:=Nat × Nat × Value) 4 (bA 8 15) (fun s=>[(91,.slice (some ⟨s.1,0,none⟩) 1 1),(92,s.2.2)]) (fun s W=>ApF wf g8 g9 b52 BC vO vI (osG gx gy (PLs u nt v mtt 2)) (isG (PLs u nt v mtt 2)) (none:Option Addr) ((0:Int)) true true false s vO vI W) ?_ ?_
        rotate_left
        ·
         intro hJ1_2
         refine join_ (σ:=Nat × Nat × Value) 4 (bA 8 27) (fun s=>[(91,.slice (some ⟨s.1,0,none⟩) 1 1),(94,.slice (some ⟨s.2.1,0,none⟩) 1 1)]) (fun s W=>ApF wf g8 g9 b52 BC vO vI (osG gx gy (PLs u nt v mtt 2)) (isG (PLs u nt v mtt 2)) (none:Option Addr) ((0:Int)) true false true s vO vI W) ?_ ?_
         rotate_left
         ·
          intro hJ1_4
          refine join_ (σ:=Nat × Nat × Value) 5 (bA 8 11) (fun s=>[(91,.slice (some ⟨s.1,0,none⟩) 1 1)]) (fun s W=>ApF wf g8 g9 b52 BC vO vI (osG gx gy (PLs u nt v mtt 2)) (isG (PLs u nt v mtt 2)) (none:Option Addr) ((0:Int)) true false false s vO vI W) ?_ ?_
          rotate_left
          ·
           intro hJ1
           refine join_ (σ:=Nat × Nat × Value) 5 (bA 8 25) (fun s=>[(94,.slice (some ⟨s.2.1,0,none⟩) 1 1)]) (fun s W=>ApF wf g8 g9 b52 BC vO vI (osG gx gy (PLs u nt v mtt 2)) (isG (PLs u nt v mtt 2)) (none:Option Addr) ((0:Int)) false false true s vO vI W) ?_ ?_
           rotate_left
           ·
            intro hJ4
            refine two_ (i:=1) (j:=4) (Ni:=some 91) (Nj:=some 94) (bA 8 11) (bA 8 25) rfl rfl rfl rfl z22_1 (by decide) (by decide) (fun K hK=>?_) (fun K hK=>?_)
            ·
             skip
             have HG:=ApF.start HGd.out (none:Option Addr) ((0:Int)) ((0,0,vO):Nat × Nat × Value)
             refine value_ (w1:=?_) (v:=?_) (by rfl) rfl ?_ ?_
             rotate_left 2
             ·
              go_simp
              constructor
              ·
               rfl
              rfl
             have HG1:=ApF.mk2 HG
             refine hK.out _ _ ⟨HG1.G.cell8,HG1.G.cell9⟩ (fun hHeld=>?_)
             clear hK K
             refine no_ (N:=some 91) ?_
             exact norm_ z22_0 (hJ1 (_,0,vO) _ HG1)
            skip
            have HG:=ApF.start HGd.out (none:Option Addr) ((0:Int)) ((0,0,vO):Nat × Nat × Value)
            refine value_ (w1:=?_) (v:=?_) (by rfl) rfl ?_ ?_
            rotate_left 2
            ·
             go_simp
             constructor
             ·
              rfl
             rfl
            have HG1:=ApF.mk6 HG
            refine hK.out _ _ ⟨HG1.G.cell8,HG1.G.cell9⟩ (fun hHeld=>?_)
            clear hK K
            refine no_ (N:=some 94) ?_
            exact norm_ z22_0 (hJ4 (0,_,vO) _ HG1)
           skip
           rintro ⟨t2,t6,v3⟩ W HG
           refine norm_ (a':=?_) ?_ ?_
           rotate_left
           ·
            simp only [putAll,Act.put,List.setIfInBounds_toArray,List.set_cons_zero,List.set_cons_succ]
            rfl
           refine one_ (i:=1) (N:=some 91) (bA 8 27) rfl rfl z22_1 (by decide) (fun K hK=>?_)
           refine value_ (w1:=?_) (v:=?_) (by rfl) rfl ?_ ?_
           rotate_left 2
           ·
            go_simp
            constructor
            ·
             rfl
            rfl
           have HG1:=ApF.mk2 HG
           refine hK.out _ _ ⟨HG1.G.cell8,HG1.G.cell9⟩ (fun hHeld=>?_)
           clear hK K
           refine no_ (N:=some 91) ?_
           exact norm_ z22_0 (hJ1_4 (_,t6,v3) _ HG1)
          skip
          rintro ⟨t2,t6,v3⟩ W HG
          refine norm_ (a':=?_) ?_ ?_
          rotate_left
          ·
           simp only [putAll,Act.put,List.setIfInBounds_toArray,List.set_cons_zero,List.set_cons_succ]
           rfl
          refine two_ (i:=2) (j:=4) (Ni:=some 92) (Nj:=some 94) (bA 8 15) (bA 8 27) rfl rfl rfl rfl z22_1 (by decide) (by decide) (fun K hK=>?_) (fun K hK=>?_)
          ·
           skip
           refine Kd.R_append_rows_step KP (Rr:=fun x cs=>cs = [Value.pointer x]) (w0:=wf) wf.heap.size (by rfl) (.tmp 90) (.tmp 91) 71 61 (.pointer none) 8 rfl Try.underlying71 info_pa rfl (by decide) (by omega) vO (osG gx gy (PLs u nt v mtt 2)) [(none:Option Addr)] (some ⟨t2,0,none⟩) 1 1 (fun _=>True) (fun _=>False) rfl rfl ?aO ?aR ?aM ?aK ?aF ?aB ?aS ?aL ?_
           case aO=>exact HG.G.O
           case aR=>exact one_C (h1:=fun _=>rfl) (HG.O rfl rfl)
           case aM=>exact (fun x cs h=>h)
           case aK=>exact (fun _ hk=>hk.elim)
           case aF=>exact (fun _ _=>trivial)
           case aB=>exact HG.G.below
           case aS=>exact HG.G.below.size
           case aL=>omega
           intro v6 W1 ho hb hg hat
           have HG1:=ApF.app HG ho hb hg hat
           refine hK.out _ _ ⟨HG1.G.cell8,HG1.G.cell9⟩ (fun hHeld=>?_)
           clear hK K
           refine no_ (N:=some 92) ?_
           exact norm_ z22_0 (hJ1_2 (t2,t6,v6) _ HG1)
          skip
          refine value_ (w1:=?_) (v:=?_) (by rfl) rfl ?_ ?_
          rotate_left 2
          ·
           go_simp
           constructor
           ·
            rfl
           rfl
          have HG1:=ApF.mk6 HG
          refine hK.out _ _ ⟨HG1.G.cell8,HG1.G.cell9⟩ (fun hHeld=>?_)
          clear hK K
          refine no_ (N:=some 94) ?_
          exact norm_ z22_0 (hJ1_4 (t2,_,v3) _ HG1)
         skip
         rintro ⟨t2,t6,v3⟩ W HG
         refine norm_ (a':=?_) ?_ ?_
         rotate_left
         ·
          simp only [putAll,Act.put,List.setIfInBounds_toArray,List.set_cons_zero,List.set_cons_succ]
          rfl
         refine one_ (i:=2) (N:=some 92) (bA 8 31) rfl rfl z22_1 (by decide) (fun K hK=>?_)
         refine Kd.R_append_rows_step KP (Rr:=fun x cs=>cs = [Value.pointer x]) (w0:=wf) wf.heap.size (by rfl) (.tmp 90) (.tmp 91) 71 61 (.pointer none) 8 rfl Try.underlying71 info_pa rfl (by decide) (by omega) vO (osG gx gy (PLs u nt v mtt 2)) [(none:Option Addr)] (some ⟨t2,0,none⟩) 1 1 (fun _=>True) (fun _=>False) rfl rfl ?aO ?aR ?aM ?aK ?aF ?aB ?aS ?aL ?_
         case aO=>exact HG.G.O
         case aR=>exact one_C (h1:=fun _=>rfl) (HG.O rfl rfl)
         case aM=>exact (fun x cs h=>h)
         case aK=>exact (fun _ hk=>hk.elim)
         case aF=>exact (fun _ _=>trivial)
         case aB=>exact HG.G.below
         case aS=>exact HG.G.below.size
         case aL=>omega
         intro v6 W1 ho hb hg hat
         have HG1:=ApF.app HG ho hb hg hat
         refine hK.out _ _ ⟨HG1.G.cell8,HG1.G.cell9⟩ (fun hHeld=>?_)
         clear hK K
         refine no_ (N:=some 92) ?_
         exact norm_ z22_0 (hJ1_2_4 (t2,t6,v6) _ HG1)
        skip
        rintro ⟨t2,t6,v3⟩ W HG
        refine norm_ (a':=?_) ?_ ?_
        rotate_left
        ·
         simp only [putAll,Act.put,List.setIfInBounds_toArray,List.set_cons_zero,List.set_cons_succ]
         rfl
        refine one_ (i:=4) (N:=some 94) (bA 8 31) rfl rfl z22_1 (by decide) (fun K hK=>?_)
        refine value_ (w1:=?_) (v:=?_) (by rfl) rfl ?_ ?_
        rotate_left 2
        ·
         go_simp
         constructor
         ·
          rfl
         rfl
        have HG1:=ApF.mk6 HG
        refine hK.out _ _ ⟨HG1.G.cell8,HG1.G.cell9⟩ (fun hHeld=>?_)
        clear hK K
        refine no_ (N:=some 94) ?_
        exact norm_ z22_0 (hJ1_2_4 (t2,_,v3) _ HG1)
       rintro ⟨t2,t6,v3⟩ W HG
       refine norm_ (a':=?_) ?_ ?_
       rotate_left
       ·
        simp only [putAll,Act.put,List.setIfInBounds_toArray,List.set_cons_zero,List.set_cons_succ]
        rfl
       refine one_ (i:=5) (N:=some 95) (bA 8 63) rfl rfl z22_1 (by decide) (fun K hK=>?_)
       refine Kd.R_append_rows_step (Kd.int .i64) (Rr:=fun x cs=>cs = [Value.int .i64 x]) (w0:=wf) wf.heap.size (by rfl) (.tmp 93) (.tmp 94) 25 3 (.int .i64 0) 8 rfl Try.underlying25 info3 rfl (by decide) (by omega) vI (isG (PLs u nt v mtt 2)) [(0:Int)] (some ⟨t6,0,none⟩) 1 1 (fun _=>True) (fun _=>False) rfl rfl ?aO ?aR ?aM ?aK ?aF ?aB ?aS ?aL ?_
       case aO=>exact HG.G.I
       case aR=>exact one_C (h1:=fun _=>rfl) (HG.I rfl)
       case aM=>exact (fun x cs h=>h)
       case aK=>exact (fun _ hk=>hk.elim)
       case aF=>exact (fun _ _=>trivial)
       case aB=>exact HG.G.below
       case aS=>exact HG.G.below.size
       case aL=>omega
       intro v7 W1 ho hb hg hat
       have HG2:Gl wf W1 g8 g9 b52 BC vO vI v3 v7 ((osG gx gy (PLs u nt v mtt 2)) ++ [(none:Option Addr)]) ((isG (PLs u nt v mtt 2)) ++ [(0:Int)]):=Gl.growI HG.G ho hb hg
       clear ho hb hg hat HG
       obtain ⟨A3,c3,e3⟩:=Kd.R_slice HG2.O
       obtain ⟨n3,h3⟩ : ∃ n,((osG gx gy (PLs u nt v mtt 2)) ++ [(none:Option Addr)]).length=n:=⟨_,rfl⟩
       rw [h3] at e3
       have H3:=ak h3
       clear h3
       subst e3
       obtain ⟨A7,c7,e7⟩:=Kd.R_slice HG2.I
       obtain ⟨n7,h7⟩ : ∃ n,((isG (PLs u nt v mtt 2)) ++ [(0:Int)]).length=n:=⟨_,rfl⟩
       rw [h7] at e7
       clear h7
       subst e7
       have c8:=HG2.cell8
       have z8:=blk_frozen HG2.b8 0
       have HG3:=HG2.set8 (.slice A3 n3 c3)
       have c9:=HG3.cell9
       have z9:=blk_frozen HG3.b9 0
       have HG4:=ak (HG3.set9 (.slice A7 n7 c7))
       refine hK.out _ _ ⟨c8,HG2.cell9⟩ (fun hHeld=>?_)
       clear hK K
       refine no_ (N:=some 95) ?_
       refine last_ (i:=6) (N:=none) (bA 8 127) rfl rfl z22_1 (by decide) (fun K hK=>?_)
       refine skip_ (w1:=?_) (by rfl) rfl ?_ ?_
       rotate_left
       ·
        go_simp
        rfl
       refine hK.out _ _ ?_
       clear hK K
       refine last_ (i:=7) (N:=none) (bA 8 255) rfl rfl z22_1 (by decide) (fun K hK=>?_)
       refine skip_ (w1:=?_) (by rfl) rfl ?_ ?_
       rotate_left
       ·
        go_simp
        rfl
       refine hK.out _ _ ?_
       clear hK K
       refine done_ z22_1 ?_
       generalize (World.setCell (World.setCell W1 ⟨g8,0,none⟩ (.slice A3 n3 c3)) ⟨g9,0,none⟩ (.slice A7 n7 c7))=wn at HG4 ⊢
       clear HG2 HG3 c8 z8 c9 z9 hHeld
       have HB13:=ak (PLs_end u nt v mtt)
       have hGn:Aside0 ((glueL u nt v mtt).length=N):=⟨(Q.glue_n a1.out a2.out HK1.out HK2.out).trans HNN.out⟩
       have e3n:n3=N:=by rw [← H3.out,show osG gx gy (PLs u nt v mtt 2) ++ [none]=osG gx gy (glueL u nt v mtt) from by rw [← HB13.out,osG_app];rfl,osG_len,hGn.out]
       have HG5:Aside0 (Gl wf wn g8 g9 b52 BC (.slice A3 n3 c3) (.slice A7 n7 c7) (.slice A3 n3 c3) (.slice A7 n7 c7) (osG gx gy (glueL u nt v mtt)) (isG (glueL u nt v mtt))):=⟨(by rw [← HB13.out,osG_app,isG_app];exact HG4.out)⟩
       clear HG4 H3
       rw [e3n] at HG5 ⊢
       clear e3n hlen hlO hlI HGd
       have c8:=HG5.out.cell8
       have hN2:Aside0 (2≤N):=⟨(by have:=hGn.out;rw [Q.glue_len] at this;omega)⟩
       have w5_:wrap64 ((N:Int)-1)=((N-1:Nat):Int):=by have:=hN2.out;have:=HK3.out;rw [Q.wrap_of _ (by omega) (by omega)];omega
       have w6_:wrap64 (((N-1:Nat):Int)+1)=(N:Int):=by have:=hN2.out;have:=HK3.out;rw [Q.wrap_of _ (by omega) (by omega)];omega
       obtain ⟨N1,hN1⟩ : ∃ m,N-1=m:=⟨_,rfl⟩
       rw [hN1] at w5_ w6_
       have HN1:=ak hN1
       have W6:=ak w6_
       clear hN1
       have HM:=ak (Live.start wn)
       have s0:=ak True.intro
       go_wp2_with (first
        | (clear s0;(with_reducible refine gate_dst (N:=13) rfl ?_);refine armb_ (rs':=[]) HM (fun HM_=>?_);refine bx_ (N:=13) (cs:=#[.int .i64 0]) (t:=3) ?_;intro b13 hg a5 hbox hb;have HM1:Aside0 (Live wn a5 [.box b13 #[.int .i64 0] 3]):=⟨HM_.out.box hb hg hbox⟩;clear HM HM_ hb hg hbox ; have HM:=HM1;clear HM1;have hg0:a5.cell? ⟨b13,0,none⟩=some (.int .i64 0):=Live.cell [] HM.out 0 rfl;have hy0:=Live.frozen [] HM.out 0;have s1:=ak True.intro)
        | (clear s1;go_at_call 63;refine arm_ (rs':=[.box b13 #[.int .i64 (N1:Int)] 3]) HM ?_;clear HM;intro HM;have RG:=ak (Gl.reads (HG5.out.step HM.out.below) rfl ((Live.cell [] HM.out 0 rfl).trans (congrArg (fun n:Nat=>some (Value.int .i64 (n:Int))) (by rw [hGn.out];exact HN1.out.symm))) HAx.out HAy.out a1.out a2.out HK1.out HK2.out (hGn.out▸HK3.out) hne.out);(with_reducible refine (made_int (glueL u nt v mtt).length _ ?u0 (hGn.out▸HK3.out) 78 79 #[.pointer (some ⟨b13,0,none⟩),.pointer (some ⟨g8,0,none⟩),.pointer (some ⟨g9,0,none⟩)] #[.pointer (some ⟨b13,0,none⟩),.pointer (some ⟨g8,0,none⟩),.pointer (some ⟨g9,0,none⟩)] (enters_of Try.func78 z22_1 rfl) (enters_of Try.func79 z22_1 rfl) (glueB u v (glueL u nt v mtt)) (glueO nt mtt (glueL u nt v mtt)) ?u1 ?u2).mono ?_);(case u0=>first|exact congrArg (fun n:Nat=>(n:Int)) hGn.out.symm|exact W6.out.trans (congrArg (fun n:Nat=>(n:Int)) hGn.out.symm));(case u1=>exact fun w' i k hw hi hk=>(RG.out.below hw).one hi hk);(case u2=>exact fun w' i hw hi=>(RG.out.below hw).two hi);rintro e wc ⟨v0,v1,rfl,hS,hR,hb⟩;obtain ⟨A0,c0,e0⟩:=Kd.S_slice hS;subst e0;obtain ⟨A1,c1,e1⟩:=Kd.R_slice hR;subst e1;have HX:=ak ((HD.out.step (HG5.out.step HM.out.below).below).logic hS hR hb);have hr0:wc.cell? ⟨b4,0,none⟩=some (.slice none 0 0):=Live.cell [_] HX.out 0 rfl;have hr1:wc.cell? ⟨b4,1,none⟩=some (.slice none 0 0):=Live.cell [_] HX.out 1 rfl;have hx0:=Live.frozen [_] HX.out 0;have hx1:=Live.frozen [_] HX.out 1;have s2:=ak True.intro))
       have er:gluedF u nt v mtt=((madeU (glueL u nt v mtt).length (glueB u v (glueL u nt v mtt))),(madeN (glueL u nt v mtt).length (glueO nt mtt (glueL u nt v mtt))),true):=by unfold gluedF;rw [if_pos ⟨a1.out,a2.out,HK1.out,HK2.out,(by have:=HNN.out;have:=HK3.out;omega)⟩]
       rw [er] at HRES
       obtain ⟨e1,e23⟩:=Prod.mk.inj HRES.out
       obtain ⟨e2,e3⟩:=Prod.mk.inj e23
       clear HRES er e23
       subst e3
       have HP:=Live.put [_] (Live.put [_] HX.out 0 (.slice A0 (madeU (glueL u nt v mtt).length (glueB u v (glueL u nt v mtt))).length c0) rfl) 1 (.slice A1 (madeN (glueL u nt v mtt).length (glueO nt mtt (glueL u nt v mtt))).length c1) rfl
       refine bodyPost_ret (results_ct rfl _ _ b4 27 #[.slice A0 (madeU (glueL u nt v mtt).length (glueB u v (glueL u nt v mtt))).length c0,.slice A1 (madeN (glueL u nt v mtt).length (glueO nt mtt (glueL u nt v mtt))).length c1] (0,0) _ rfl (Live.cells [_] HP) hul rfl z22_1) rfl ?_
       obtain ⟨q1,q2,q3⟩:=Live.ret HP
       rw [← e1,← e2]
       exact ⟨_,_,rfl,q1,q2,q3⟩
     have d3:decide ((N:Int)>12)=true:=dT_ (by omega)
     have d3b:decide (12<N)=true:=dT_ (by omega)
     have d3c:decide (12<(N:Int))=true:=d3
     have d3e:decide (12<wrap64 ((u.length:Int)+(v.length:Int)-2))=true:=by rw [w4_];exact d3
     have er:gluedF u nt v mtt=([],[],false):=if_neg (fun q=>k3 (hN▸q.2.2.2.2))
     rw [er] at HRES
     obtain ⟨e1,e23⟩:=Prod.mk.inj HRES.out
     obtain ⟨e2,e3⟩:=Prod.mk.inj e23
     clear HRES er e23
     subst e1
     subst e2
     subst e3
     clear hN hN40 k1 k2 k3 hl1 hl2 u12 a0
     go_wp2
     have HP:=Live.put [] (Live.put [] HD.out 0 (.slice none 0 0) rfl) 1 (.slice none 0 0) rfl
     refine bodyPost_ret (results_ct rfl _ _ b4 27 #[.slice none 0 0,.slice none 0 0] (0,0) _ rfl (Live.cells [] HP) hul rfl z22_1) rfl ?_
     exact ⟨_,_,rfl,Kd.S_nil _ _ _ _ _,Kd.R_nil _ _ _ _ _,HP.below⟩
    have d2:decide ((v.length:Int)<2)=true:=dT_ (by omega)
    have d2b:decide (v.length<2)=true:=dT_ (by omega)
    have er:gluedF u nt v mtt=([],[],false):=if_neg (fun q=>k2 q.2.2.2.1)
    rw [er] at HRES
    obtain ⟨e1,e23⟩:=Prod.mk.inj HRES.out
    obtain ⟨e2,e3⟩:=Prod.mk.inj e23
    clear HRES er e23
    subst e1
    subst e2
    subst e3
    clear k1 k2 hl1 hl2 u12 a0
    go_wp2
    have HP:=Live.put [] (Live.put [] HD.out 0 (.slice none 0 0) rfl) 1 (.slice none 0 0) rfl
    refine bodyPost_ret (results_ct rfl _ _ b4 27 #[.slice none 0 0,.slice none 0 0] (0,0) _ rfl (Live.cells [] HP) hul rfl z22_1) rfl ?_
    exact ⟨_,_,rfl,Kd.S_nil _ _ _ _ _,Kd.R_nil _ _ _ _ _,HP.below⟩
   have d1:decide ((u.length:Int)<2)=true:=dT_ (by omega)
   have d1b:decide (u.length<2)=true:=dT_ (by omega)
   have er:gluedF u nt v mtt=([],[],false):=if_neg (fun q=>k1 q.2.2.1)
   rw [er] at HRES
   obtain ⟨e1,e23⟩:=Prod.mk.inj HRES.out
   obtain ⟨e2,e3⟩:=Prod.mk.inj e23
   clear HRES er e23
   subst e1
   subst e2
   subst e3
   clear k1 hl1 hl2 u12 a0
   go_wp2
   have HP:=Live.put [] (Live.put [] HD.out 0 (.slice none 0 0) rfl) 1 (.slice none 0 0) rfl
   refine bodyPost_ret (results_ct rfl _ _ b4 27 #[.slice none 0 0,.slice none 0 0] (0,0) _ rfl (Live.cells [] HP) hul rfl z22_1) rfl ?_
   exact ⟨_,_,rfl,Kd.S_nil _ _ _ _ _,Kd.R_nil _ _ _ _ _,HP.below⟩
  subst ey
  have er:gluedF u nt v mtt=([],[],false):=if_neg (fun q=>hl2 q.2.1)
  rw [er] at HRES
  obtain ⟨e1,e23⟩:=Prod.mk.inj HRES.out
  obtain ⟨e2,e3⟩:=Prod.mk.inj e23
  clear HRES er e23
  subst e1
  subst e2
  subst e3
  clear hl1 hl2 hAx
  go_wp2
  have HP:=Live.put [] (Live.put [] HD.out 0 (.slice none 0 0) rfl) 1 (.slice none 0 0) rfl
  refine bodyPost_ret (results_ct rfl _ _ b4 27 #[.slice none 0 0,.slice none 0 0] (0,0) _ rfl (Live.cells [] HP) hul rfl z22_1) rfl ?_
  exact ⟨_,_,rfl,Kd.S_nil _ _ _ _ _,Kd.R_nil _ _ _ _ _,HP.below⟩
 subst ex
 obtain ⟨py,ey⟩:=TY.out.ptr
 subst ey
 have er:gluedF u nt v mtt=([],[],false):=if_neg (fun q=>hl1 q.1)
 rw [er] at HRES
 obtain ⟨e1,e23⟩:=Prod.mk.inj HRES.out
 obtain ⟨e2,e3⟩:=Prod.mk.inj e23
 clear HRES er e23
 subst e1
 subst e2
 subst e3
 clear hl1
 go_wp2
 have HP:=Live.put [] (Live.put [] HD.out 0 (.slice none 0 0) rfl) 1 (.slice none 0 0) rfl
 refine bodyPost_ret (results_ct rfl _ _ b4 27 #[.slice none 0 0,.slice none 0 0] (0,0) _ rfl (Live.cells [] HP) hul rfl z22_1) rfl ?_
 exact ⟨_,_,rfl,Kd.S_nil _ _ _ _ _,Kd.R_nil _ _ _ _ _,HP.below⟩
theorem impl_GluedOf.calls (A0_0:Option Addr) (c0_0:Nat) (l0_0:List (List Int)) (A0_1:Option Addr) (c0_1:Nat) (l0_1:List Int) (A1_0:Option Addr) (c1_0:Nat) (l1_0:List (List Int)) (A1_1:Option Addr) (c1_1:Nat) (l1_1:List Int) (r1:List (List Int)) (r2:List Int) (r3:Bool) (w:World) (hr0_0:Kd.C (Kd.slice 3 (Kd.int .i64)) w A0_0 l0_0.length l0_0) (hc0_0:l0_0.length≤c0_0) (hr0_1:Kd.C (Kd.int .i64) w A0_1 l0_1.length l0_1) (hc0_1:l0_1.length≤c0_1) (hr1_0:Kd.C (Kd.slice 3 (Kd.int .i64)) w A1_0 l1_0.length l1_0) (hc1_0:l1_0.length≤c1_0) (hr1_1:Kd.C (Kd.int .i64) w A1_1 l1_1.length l1_1) (hc1_1:l1_1.length≤c1_1) (h:impl_GluedOf.f l0_0 l0_1 l1_0 l1_1=some (r1,r2,r3)) :
    Calls Try.prog 29 #[.agg #[.slice A0_0 l0_0.length c0_0,.slice A0_1 l0_1.length c0_1],.agg #[.slice A1_0 l1_0.length c1_0,.slice A1_1 l1_1.length c1_1]] w fun e w'=>∃ v0_ v1_:Value,e = .returned (.tuple #[.agg #[v0_,v1_],.bool r3])∧Kd.S (Kd.slice 3 (Kd.int .i64)) 25 w' w.heap.size (fun k_=>some k_≠(v1_:Value).ownBlock) v0_ r1∧Kd.R (Kd.int .i64) 3 w' w.heap.size (fun _=>True) v1_ r2∧Below w.heap.size w w':=gluedOf_core A0_0 c0_0 l0_0 A0_1 c0_1 l0_1 A1_0 c1_0 l1_0 A1_1 c1_1 l1_1 w hr0_0 hc0_0 hr0_1 hc0_1 hr1_0 hc1_0 hr1_1 hc1_1 r1 r2 r3 (Option.some.inj h)
end Go.Proofs.Ytacifhahfamipaa.P
