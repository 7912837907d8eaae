import PyProof.Rows.All
import Wide.All
import OpenK.AllK
import Wide.FinOn
import HandS.Base
import HandS.Call
import HandS.List
import HandS.Comp
import HandS.Iter
import HandS.Ends
import HandS.Words
import HandS.WordsList
import HandS.Evl
import HandS.Walk
import HandS.RevRange
import HandS.Conv
import HandS.Text
import HandS.Rev
import HandS.SortKw
import HandS.SortInts
import HandS.IsInst
import KE.DataMinMax
import HandS.Exc
import HandS.ExcOwn
import HandS.ExcIs
import HandS.WordsExc
import HandS.Set
import HandS.SetFor
import HandS.Strs
import PyProof.Rows.SetFrom
import PyProof.WalksS
import KE.GoesMore
import KE.GoesEnum
import KE.GoesZip
import PyProof.Draws
import PyProof.ListStr
import KE.DataEq
import HandS.RevTup
import PyProof.StrOps
import PySem.Challenge.RW_turnscript_k11_view
set_option Elab.async false
set_option linter.all false
set_option maxRecDepth 100000
set_option maxHeartbeats 8000000
/-! data by value over the heap, what a reading gives, local objects -/
namespace Tx
open PySem PySem.Spec PyProof.Rows L2 Evl

/-! ### data -/
inductive D where
  | v (x : V) | l (xs : List D) | t (xs : List D)
abbrev di (n : Int) : D := .v (.int n)
abbrev dn (n : Nat) : D := .v (.int (n : Int))
abbrev ds (x : Str) : D := .v (.str x)
abbrev db (b : Bool) : D := .v (.bl b)
abbrev d0 : D := .v .non
abbrev dI (ns : List Int) : D := .l (ns.map di)

section
variable (K : PySem.W.Frag) (H0 H : Hp)
mutual
def Dat : D → V → Prop
  | .v x, y => y = x
  | .l xs, y => ∃ p ys, y = .ref p ∧ SqL K H p ys ∧ Dats xs ys
  | .t xs, y => ∃ p ys, y = .ref p ∧ SqT K H p ys ∧ Dats xs ys
def Dats : List D → List V → Prop
  | [], ys => ys = []
  | d :: r, ys => ∃ y s, ys = y :: s ∧ Dat d y ∧ Dats r s
end
mutual
/-- all of it new since H0 -/
def DatN : D → V → Prop
  | .v x, y => y = x
  | .l xs, y => ∃ p ys, y = .ref p ∧ H0 p = none ∧ H p = some (.lst ys) ∧ DatsN xs ys
  | .t xs, y => ∃ p ys, y = .ref p ∧ H0 p = none ∧ H p = some (.tup ys) ∧ DatsN xs ys
def DatsN : List D → List V → Prop
  | [], ys => ys = []
  | d :: r, ys => ∃ y s, ys = y :: s ∧ DatN d y ∧ DatsN r s
end
end
section
variable {K : PySem.W.Frag} {H0 H H1 H2 : Hp}
theorem Dat.v {x : V} : Dat K H (.v x) x := by unfold Dat; rfl
theorem Dat.v_iff {x y : V} : Dat K H (.v x) y ↔ y = x := by unfold Dat; exact Iff.rfl
theorem Dat.l_iff {xs : List D} {y : V} : Dat K H (.l xs) y ↔ ∃ p ys, y = .ref p ∧ SqL K H p ys ∧ Dats K H xs ys := by rw [Dat]
theorem Dat.t_iff {xs : List D} {y : V} : Dat K H (.t xs) y ↔ ∃ p ys, y = .ref p ∧ SqT K H p ys ∧ Dats K H xs ys := by rw [Dat]
theorem Dats.nil_iff {ys : List V} : Dats K H [] ys ↔ ys = [] := by rw [Dats]
theorem Dats.cons_iff {d : D} {r : List D} {ys : List V} : Dats K H (d :: r) ys ↔ ∃ y s, ys = y :: s ∧ Dat K H d y ∧ Dats K H r s := by rw [Dats]
theorem Dats.nil : Dats K H [] [] := Dats.nil_iff.mpr rfl
theorem Dats.cons {d : D} {r : List D} {y : V} {s : List V} (a : Dat K H d y) (b : Dats K H r s) : Dats K H (d :: r) (y :: s) := Dats.cons_iff.mpr ⟨y, s, rfl, a, b⟩
theorem DatN.v_iff {x y : V} : DatN H0 H (.v x) y ↔ y = x := by unfold DatN; exact Iff.rfl
theorem DatN.l_iff {xs : List D} {y : V} : DatN H0 H (.l xs) y ↔ ∃ p ys, y = .ref p ∧ H0 p = none ∧ H p = some (.lst ys) ∧ DatsN H0 H xs ys := by rw [DatN]
theorem DatN.t_iff {xs : List D} {y : V} : DatN H0 H (.t xs) y ↔ ∃ p ys, y = .ref p ∧ H0 p = none ∧ H p = some (.tup ys) ∧ DatsN H0 H xs ys := by rw [DatN]
theorem DatsN.nil_iff {ys : List V} : DatsN H0 H [] ys ↔ ys = [] := by rw [DatsN]
theorem DatsN.cons_iff {d : D} {r : List D} {ys : List V} : DatsN H0 H (d :: r) ys ↔ ∃ y s, ys = y :: s ∧ DatN H0 H d y ∧ DatsN H0 H r s := by rw [DatsN]
theorem DatsN.nil : DatsN H0 H [] [] := DatsN.nil_iff.mpr rfl
theorem DatsN.cons {d : D} {r : List D} {y : V} {s : List V} (a : DatN H0 H d y) (b : DatsN H0 H r s) : DatsN H0 H (d :: r) (y :: s) := DatsN.cons_iff.mpr ⟨y, s, rfl, a, b⟩

mutual
theorem Dat.mono (e : Ex H H1) : ∀ {d : D} {y : V}, Dat K H d y → Dat K H1 d y
  | .v _, _, h => Dat.v_iff.mpr (Dat.v_iff.mp h)
  | .l xs, _, h => by
    obtain ⟨p, ys, r, s, q⟩ := Dat.l_iff.mp h
    exact Dat.l_iff.mpr ⟨p, ys, r, ex_l e s, Dats.mono e q⟩
  | .t xs, _, h => by
    obtain ⟨p, ys, r, s, q⟩ := Dat.t_iff.mp h
    exact Dat.t_iff.mpr ⟨p, ys, r, ex_t e s, Dats.mono e q⟩
theorem Dats.mono (e : Ex H H1) : ∀ {d : List D} {y : List V}, Dats K H d y → Dats K H1 d y
  | [], _, h => Dats.nil_iff.mpr (Dats.nil_iff.mp h)
  | d :: r, _, h => by
    obtain ⟨y, s, e1, a, b⟩ := Dats.cons_iff.mp h
    exact Dats.cons_iff.mpr ⟨y, s, e1, Dat.mono e a, Dats.mono e b⟩
end
mutual
theorem DatN.d : ∀ {d : D} {y : V}, DatN H0 H d y → Dat K H d y
  | .v _, _, h => Dat.v_iff.mpr (DatN.v_iff.mp h)
  | .l xs, _, h => by
    obtain ⟨p, ys, r, _, s, q⟩ := DatN.l_iff.mp h
    exact Dat.l_iff.mpr ⟨p, ys, r, sq_of s, DatsN.d q⟩
  | .t xs, _, h => by
    obtain ⟨p, ys, r, _, s, q⟩ := DatN.t_iff.mp h
    exact Dat.t_iff.mpr ⟨p, ys, r, st_of s, DatsN.d q⟩
theorem DatsN.d : ∀ {d : List D} {y : List V}, DatsN H0 H d y → Dats K H d y
  | [], _, h => Dats.nil_iff.mpr (DatsN.nil_iff.mp h)
  | d :: r, _, h => by
    obtain ⟨y, s, e1, a, b⟩ := DatsN.cons_iff.mp h
    exact Dats.cons_iff.mpr ⟨y, s, e1, DatN.d a, DatsN.d b⟩
end
mutual
theorem DatN.mono (e0 : Ex H2 H0) (e : Ex H H1) : ∀ {d : D} {y : V}, DatN H0 H d y → DatN H2 H1 d y
  | .v _, _, h => DatN.v_iff.mpr (DatN.v_iff.mp h)
  | .l xs, _, h => by
    obtain ⟨p, ys, r, n, s, q⟩ := DatN.l_iff.mp h
    exact DatN.l_iff.mpr ⟨p, ys, r, fresh_back e0 n, e p _ s, DatsN.mono e0 e q⟩
  | .t xs, _, h => by
    obtain ⟨p, ys, r, n, s, q⟩ := DatN.t_iff.mp h
    exact DatN.t_iff.mpr ⟨p, ys, r, fresh_back e0 n, e p _ s, DatsN.mono e0 e q⟩
theorem DatsN.mono (e0 : Ex H2 H0) (e : Ex H H1) : ∀ {d : List D} {y : List V}, DatsN H0 H d y → DatsN H2 H1 d y
  | [], _, h => DatsN.nil_iff.mpr (DatsN.nil_iff.mp h)
  | d :: r, _, h => by
    obtain ⟨y, s, e1, a, b⟩ := DatsN.cons_iff.mp h
    exact DatsN.cons_iff.mpr ⟨y, s, e1, DatN.mono e0 e a, DatsN.mono e0 e b⟩
end
theorem Dats.length : ∀ {d : List D} {y : List V}, Dats K H d y → y.length = d.length
  | [], _, h => by rw [Dats.nil_iff.mp h] <;> rfl
  | d :: r, _, h => by
    obtain ⟨y, s, e1, a, b⟩ := Dats.cons_iff.mp h
    rw [e1, List.length_cons, List.length_cons, Dats.length b]
theorem Dats.get : ∀ {d : List D} {y : List V} {i : Nat} {z : D}, Dats K H d y → d[i]? = some z → ∃ u, y[i]? = some u ∧ Dat K H z u
  | [], _, _, _, _, h => by simp at h
  | d :: r, _, 0, z, h, e => by
    obtain ⟨y, s, rfl, a, b⟩ := Dats.cons_iff.mp h
    have e1 : d = z := Option.some.inj e
    subst e1
    exact ⟨y, rfl, a⟩
  | d :: r, _, i + 1, z, h, e => by
    obtain ⟨y, s, rfl, a, b⟩ := Dats.cons_iff.mp h
    exact Dats.get (i := i) b e
theorem Dats.getV {d : List D} {y : List V} {i : Nat} {u : V} (h : Dats K H d y) (e : y[i]? = some u) : ∃ z, d[i]? = some z ∧ Dat K H z u := by
  have hl := h.length
  have hi : i < y.length := (List.getElem?_eq_some_iff.mp e).1
  have hd : d[i]? = some d[i] := List.getElem?_eq_getElem (by omega)
  obtain ⟨w, e1, q⟩ := h.get hd
  rw [e] at e1
  cases e1
  exact ⟨_, hd, q⟩
theorem Dats.at {d : List D} {y : List V} {i : Int} {z : D} (h : Dats K H d y) (e : atI d i = some z) : ∃ u, atI y i = some u ∧ Dat K H z u := by
  unfold atI at e ⊢
  rw [h.length]
  cases hj : ixN d.length i with
  | none =>
    rw [hj] at e
    cases e
  | some j =>
    rw [hj] at e
    exact h.get e
theorem Dats.app : ∀ {a b : List D} {x y : List V}, Dats K H a x → Dats K H b y → Dats K H (a ++ b) (x ++ y)
  | [], _, _, _, h, q => by
    rw [Dats.nil_iff.mp h]
    exact q
  | d :: r, _, _, _, h, q => by
    obtain ⟨y, s, rfl, a, b⟩ := Dats.cons_iff.mp h
    exact Dats.cons a (Dats.app b q)
theorem Dats.take : ∀ {a : List D} {x : List V} (n : Nat), Dats K H a x → Dats K H (a.take n) (x.take n)
  | _, _, 0, h => by rw [List.take_zero, List.take_zero]; exact Dats.nil
  | [], _, n + 1, h => by
    rw [Dats.nil_iff.mp h]
    exact Dats.nil
  | d :: r, _, n + 1, h => by
    obtain ⟨y, s, rfl, a, b⟩ := Dats.cons_iff.mp h
    exact Dats.cons a (Dats.take n b)
theorem Dats.drop : ∀ {a : List D} {x : List V} (n : Nat), Dats K H a x → Dats K H (a.drop n) (x.drop n)
  | _, _, 0, h => h
  | [], _, n + 1, h => by
    rw [Dats.nil_iff.mp h]
    exact Dats.nil
  | d :: r, _, n + 1, h => by
    obtain ⟨y, s, rfl, a, b⟩ := Dats.cons_iff.mp h
    exact Dats.drop n b
theorem Dats.rev : ∀ {a : List D} {x : List V}, Dats K H a x → Dats K H a.reverse x.reverse
  | [], _, h => by
    rw [Dats.nil_iff.mp h]
    exact Dats.nil
  | d :: r, _, h => by
    obtain ⟨y, s, rfl, a, b⟩ := Dats.cons_iff.mp h
    rw [List.reverse_cons, List.reverse_cons]
    exact Dats.app (Dats.rev b) (Dats.cons a Dats.nil)
/-- flat data -/
theorem Dats.flat : ∀ {xs : List V}, Dats K H (xs.map .v) xs
  | [] => Dats.nil
  | x :: r => Dats.cons Dat.v Dats.flat
theorem Dats.flat_eq : ∀ {xs ys : List V}, Dats K H (xs.map .v) ys → ys = xs
  | [], _, h => Dats.nil_iff.mp h
  | x :: r, _, h => by
    obtain ⟨y, s, rfl, a, b⟩ := Dats.cons_iff.mp h
    rw [Dat.v_iff.mp a, Dats.flat_eq b]
theorem Dats.map {α : Type} {f : α → V} : ∀ {xs : List α}, Dats K H (xs.map fun a => .v (f a)) (xs.map f)
  | [] => Dats.nil
  | x :: r => Dats.cons Dat.v Dats.map
theorem Dats.map_eq {α : Type} {f : α → V} : ∀ {xs : List α} {ys : List V}, Dats K H (xs.map fun a => .v (f a)) ys → ys = xs.map f
  | [], _, h => Dats.nil_iff.mp h
  | x :: r, _, h => by
    obtain ⟨y, s, rfl, a, b⟩ := Dats.cons_iff.mp h
    rw [Dat.v_iff.mp a, Dats.map_eq b] <;> rfl
theorem DatsN.map {α : Type} {f : α → V} : ∀ {xs : List α}, DatsN H0 H (xs.map fun a => .v (f a)) (xs.map f)
  | [] => DatsN.nil
  | x :: r => DatsN.cons (DatN.v_iff.mpr rfl) DatsN.map
theorem DatsN.map_eq {α : Type} {f : α → V} {xs : List α} {ys : List V} (h : DatsN H0 H (xs.map fun a => .v (f a)) ys) : ys = xs.map f := Dats.map_eq (K := default) h.d
theorem Dat.flatL {α : Type} {f : α → V} {xs : List α} {p : Addr} (h : SqL K H p (xs.map f)) : Dat K H (.l (xs.map fun a => .v (f a))) (.ref p) := Dat.l_iff.mpr ⟨p, _, rfl, h, Dats.map⟩
theorem Dat.ints {xs : List Int} {p : Addr} (h : SqL K H p (xs.map V.int)) : Dat K H (dI xs) (.ref p) := Dat.flatL h
end
end Tx
namespace Tx
open PySem PySem.Spec PyProof.Rows L2 Evl

/-- a mark by which K is found -/
class IsK (K : outParam PySem.W.Frag) : Prop where
  mk ::
/-! ### local objects -/
def Own (H H' : Hp) (L : List (Addr × HO)) : Prop := Ex H H' ∧ (∀ x ∈ L, H x.1 = none) ∧ (L.map (·.1)).Nodup ∧ ∀ x ∈ L, H' x.1 = some x.2
section
variable {K : PySem.W.Frag} {H0 H H' H1 H2 : Hp} {L : List (Addr × HO)} {p q r : Addr} {o u w : HO} {a b c : Addr × HO}
theorem Own.nil : Own H H [] := ⟨Ex.refl H, fun _ h => (nomatch h), List.nodup_nil, fun _ h => nomatch h⟩
theorem Own.nil' (e : Ex H H') : Own H H' [] := ⟨e, fun _ h => (nomatch h), List.nodup_nil, fun _ h => nomatch h⟩
theorem Own.ex (x : Own H H' L) : Ex H H' := x.1
theorem Own.grow (x : Own H H' L) (e : Ex H' H1) : Own H H1 L := ⟨x.1.trans e, x.2.1, x.2.2.1, fun y hy => e _ _ (x.2.2.2 y hy)⟩
theorem Own.new (x : Own H H' L) (n : H' p = none) (e : Ex H' H1) (h : H1 p = some o) : Own H H1 ((p, o) :: L) := by
  refine ⟨x.1.trans e, fun y hy => ?_, ?_, fun y hy => ?_⟩
  · rcases List.mem_cons.mp hy with rfl | hy
    · exact fresh_back x.1 n
    · exact x.2.1 y hy
  · rw [List.map_cons, List.nodup_cons]
    refine ⟨fun hm => ?_, x.2.2.1⟩
    obtain ⟨y, hy, e1⟩ := List.mem_map.mp hm
    have h2 := x.2.2.2 y hy
    rw [e1] at h2
    rw [n] at h2
    cases h2
  · rcases List.mem_cons.mp hy with rfl | hy
    · exact h
    · exact e _ _ (x.2.2.2 y hy)
theorem Own.made (x : Own H H' L) (n : H' p = none) : Own H (upd H' p o) ((p, o) :: L) := x.new n (Ex.new n) upd_same
theorem Own.put0 (x : Own H H' ((p, o) :: L)) : Own H (upd H' p u) ((p, u) :: L) := by
  obtain ⟨e, n, d, g⟩ := x
  rw [List.map_cons, List.nodup_cons] at d
  refine ⟨Ex.mut e (n _ List.mem_cons_self), fun y hy => ?_, ?_, fun y hy => ?_⟩
  · rcases List.mem_cons.mp hy with rfl | hy
    · exact n (p, o) List.mem_cons_self
    · exact n y (List.mem_cons_of_mem _ hy)
  · rw [List.map_cons, List.nodup_cons]
    exact d
  · rcases List.mem_cons.mp hy with rfl | hy
    · exact upd_same
    · have ne : y.1 ≠ p := fun z => d.1 (List.mem_map.mpr ⟨y, hy, z⟩)
      rw [upd_ne ne]
      exact g y (List.mem_cons_of_mem _ hy)
theorem Own.perm {M : List (Addr × HO)} (x : Own H H' L) (h : M.Perm L) : Own H H' M :=
  ⟨x.1, fun y hy => x.2.1 y (h.mem_iff.mp hy), ((h.map _).nodup_iff).mpr x.2.2.1, fun y hy => x.2.2.2 y (h.mem_iff.mp hy)⟩
theorem Own.swap (x : Own H H' (a :: b :: L)) : Own H H' (b :: a :: L) := x.perm (List.Perm.swap _ _ _)
theorem Own.rot (x : Own H H' (a :: b :: c :: L)) : Own H H' (c :: a :: b :: L) := x.perm (List.perm_middle (l₁ := [a, b])).symm
theorem Own.unrot (x : Own H H' (c :: a :: b :: L)) : Own H H' (a :: b :: c :: L) := x.perm (List.perm_middle (l₁ := [a, b]))
theorem Own.drop0 (x : Own H H' (a :: L)) : Own H H' L := by
  obtain ⟨e, n, d, g⟩ := x
  rw [List.map_cons, List.nodup_cons] at d
  exact ⟨e, fun y hy => n y (List.mem_cons_of_mem _ hy), d.2, fun y hy => g y (List.mem_cons_of_mem _ hy)⟩
theorem Own.drop1 (x : Own H H' (a :: b :: L)) : Own H H' (a :: L) := x.swap.drop0
theorem Own.drop2 (x : Own H H' (a :: b :: c :: L)) : Own H H' (a :: b :: L) := x.rot.drop0
theorem Own.put1 (x : Own H H' (a :: (p, o) :: L)) : Own H (upd H' p u) (a :: (p, u) :: L) := x.swap.put0.swap
theorem Own.put2 (x : Own H H' (a :: b :: (p, o) :: L)) : Own H (upd H' p u) (a :: b :: (p, u) :: L) := x.rot.put0.unrot
theorem Own.get0 (x : Own H H' ((p, o) :: L)) : H' p = some o := x.2.2.2 _ List.mem_cons_self
theorem Own.get1 (x : Own H H' (a :: (p, o) :: L)) : H' p = some o := x.drop0.get0
theorem Own.get2 (x : Own H H' (a :: b :: (p, o) :: L)) : H' p = some o := x.drop0.get1
theorem Own.get3 (x : Own H H' (a :: b :: c :: (p, o) :: L)) : H' p = some o := x.drop0.get2
theorem Own.free0 (x : Own H H' ((p, o) :: L)) : H p = none := x.2.1 _ List.mem_cons_self
theorem Own.free1 (x : Own H H' (a :: (p, o) :: L)) : H p = none := x.drop0.free0
theorem Own.free2 (x : Own H H' (a :: b :: (p, o) :: L)) : H p = none := x.drop0.free1
/-- the base moved back -/
theorem Own.back (e : Ex H0 H) (x : Own H H' L) : Own H0 H' L := ⟨e.trans x.1, fun y hy => fresh_back e (x.2.1 y hy), x.2.2⟩
theorem Own.dat0 {α : Type} {f : α → V} {xs : List α} (x : Own H H' ((p, .lst (xs.map f)) :: L)) : Dat K H' (.l (xs.map fun a => .v (f a))) (.ref p) := Dat.flatL (sq_of x.get0)
end

/-! ### what a reading gives -/
def EvD (K : PySem.W.Frag) (te : TE) (σ : L2.St) (H : Hp) (d : D) : Prop := ∀ H1, Ex H H1 → ∀ Q : VK, (∀ v H2, Ex H1 H2 → Dat K H2 d v → Q v H2) → te σ H1 Q
def EvN (te : TE) (σ : L2.St) (H : Hp) (d : D) : Prop := ∀ H1, Ex H H1 → ∀ Q : VK, (∀ v H2, Ex H1 H2 → DatN H1 H2 d v → Q v H2) → te σ H1 Q
def EvDs (K : PySem.W.Frag) (ta : TA) (σ : L2.St) (H : Hp) (d : List D) : Prop := ∀ H1, Ex H H1 → ∀ Q : List V → Hp → Prop, (∀ v H2, Ex H1 H2 → Dats K H2 d v → Q v H2) → ta σ H1 Q
/-- a two-place operation on data, a call on data -/
def RD (K : PySem.W.Frag) (r : R2) (x y : D) (z : D) : Prop := ∀ H vx vy, Dat K H x vx → Dat K H y vy → ∀ Q : VK, (∀ v H2, Ex H H2 → Dat K H2 z v → Q v H2) → r vx vy H Q
def RN (K : PySem.W.Frag) (r : R2) (x y : D) (z : D) : Prop := ∀ H vx vy, Dat K H x vx → Dat K H y vy → ∀ Q : VK, (∀ v H2, Ex H H2 → DatN H H2 z v → Q v H2) → r vx vy H Q
def CD (K : PySem.W.Frag) (r : List V → Hp → VK → Prop) (xs : List D) (z : D) : Prop := ∀ H vs, Dats K H xs vs → ∀ Q : VK, (∀ v H2, Ex H H2 → Dat K H2 z v → Q v H2) → r vs H Q
def CN (K : PySem.W.Frag) (r : List V → Hp → VK → Prop) (xs : List D) (z : D) : Prop := ∀ H vs, Dats K H xs vs → ∀ Q : VK, (∀ v H2, Ex H H2 → DatN H H2 z v → Q v H2) → r vs H Q

section
variable {K : PySem.W.Frag} {σ : L2.St} {H H' H0 : Hp} {ta tb te tx : TE} {tas : TA} {t u : TT} {x y z z0 : D} {xs ys : List D} {r : R2}
theorem EvD.mono (e : Ex H H') (h : EvD K te σ H z) : EvD K te σ H' z := fun H1 a Q q => h H1 (e.trans a) Q q
theorem EvN.mono (e : Ex H H') (h : EvN te σ H z) : EvN te σ H' z := fun H1 a Q q => h H1 (e.trans a) Q q
theorem EvN.d (h : EvN te σ H z) : EvD K te σ H z := fun H1 e Q q => h H1 e Q fun v H2 e2 n => q v H2 e2 n.d
theorem EvD.n {x : V} (h : EvD K te σ H (.v x)) : EvN te σ H (.v x) := fun H1 e Q q => h H1 e Q fun v H2 e2 n => q v H2 e2 (DatN.v_iff.mpr (Dat.v_iff.mp n))
theorem EvD.e {x : V} (h : EvD K te σ H (.v x)) : Ev te σ H x := fun H1 e Q q => h H1 e Q fun v H2 e2 n => by
  rw [Dat.v_iff.mp n]
  exact q H2 e2
theorem EvD.is {z' : D} (h : EvD K te σ H z) (e : z = z') : EvD K te σ H z' := e ▸ h
theorem EvN.is {z' : D} (h : EvN te σ H z) (e : z = z') : EvN te σ H z' := e ▸ h
theorem RN.d (h : RN K r x y z) : RD K r x y z := fun H vx vy dx dy Q q => h H vx vy dx dy Q fun v H2 e n => q v H2 e n.d
theorem CN.d {r : List V → Hp → VK → Prop} (h : CN K r xs z) : CD K r xs z := fun H vs dv Q q => h H vs dv Q fun v H2 e n => q v H2 e n.d
theorem ev_var {i : Nat} {x : V} (h : σ[i]? = some (some x)) (hd : Dat K H z x) : EvD K (tVar i) σ H z := fun H1 e _ q => ⟨x, h, q x H1 (Ex.refl H1) (hd.mono e)⟩
theorem ev_c {x : V} : EvD K (tC x) σ H (.v x) := fun H1 _ _ q => q x H1 (Ex.refl H1) Dat.v
theorem ev_op (ha : EvD K ta σ H x) (hb : EvD K tb σ H y) (hr : RD K r x y z) : EvD K (tOp r ta tb) σ H z := fun H1 e Q q =>
  ha H1 e _ fun vx H2 e2 dx => hb H2 (e.trans e2) _ fun vy H3 e3 dy => hr H3 vx vy (dx.mono e3) dy Q fun v H4 e4 dz => q v H4 ((e2.trans e3).trans e4) dz
theorem en_op (ha : EvD K ta σ H x) (hb : EvD K tb σ H y) (hr : RN K r x y z) : EvN (tOp r ta tb) σ H z := fun H1 e Q q =>
  ha H1 e _ fun vx H2 e2 dx => hb H2 (e.trans e2) _ fun vy H3 e3 dy => hr H3 vx vy (dx.mono e3) dy Q fun v H4 e4 dz => q v H4 ((e2.trans e3).trans e4) (dz.mono (e2.trans e3) (Ex.refl _))
theorem ev_neg {i : Int} (ha : EvD K ta σ H (di i)) : EvD K (tUn (rU fun i => .int (-i)) ta) σ H (di (-i)) := fun H1 e Q q =>
  ha H1 e _ fun vx H2 e2 dx => ⟨i, Dat.v_iff.mp dx, q _ H2 e2 Dat.v⟩
theorem eds_nil : EvDs K tNil σ H [] := fun H1 _ _ q => q [] H1 (Ex.refl H1) Dats.nil
theorem eds_cons (h : EvD K ta σ H x) (hr : EvDs K tas σ H xs) : EvDs K (tCons ta tas) σ H (x :: xs) := fun H1 e _ q =>
  h H1 e _ fun vx H2 e2 dx => hr H2 (e.trans e2) _ fun vs H3 e3 dv => q _ H3 (e2.trans e3) (Dats.cons (dx.mono e3) dv)
theorem ev_cb {r : List V → Hp → VK → Prop} (h : EvDs K tas σ H xs) (hr : CD K r xs z) : EvD K (tCB r tas) σ H z := fun H1 e Q q =>
  h H1 e _ fun vs H2 e2 dv => hr H2 vs dv Q fun v H3 e3 dz => q v H3 (e2.trans e3) dz
theorem en_cb {r : List V → Hp → VK → Prop} (h : EvDs K tas σ H xs) (hr : CN K r xs z) : EvN (tCB r tas) σ H z := fun H1 e Q q =>
  h H1 e _ fun vs H2 e2 dv => hr H2 vs dv Q fun v H3 e3 dz => q v H3 (e2.trans e3) (dz.mono e2 (Ex.refl _))
theorem Dats.n1 {x : D} {H : Hp} {vs : List V} (h : Dats K H [x] vs) : ∃ v, vs = [v] ∧ Dat K H x v := by
  obtain ⟨v, s, e, a, b⟩ := Dats.cons_iff.mp h
  rw [Dats.nil_iff.mp b] at e
  exact ⟨v, e, a⟩
theorem Dats.n2 {x y : D} {H : Hp} {vs : List V} (h : Dats K H [x, y] vs) : ∃ v w, vs = [v, w] ∧ Dat K H x v ∧ Dat K H y w := by
  obtain ⟨v, s, e, a, b⟩ := Dats.cons_iff.mp h
  obtain ⟨w, rfl, c⟩ := b.n1
  exact ⟨v, w, e, a, c⟩
theorem Dats.n3 {x y z : D} {H : Hp} {vs : List V} (h : Dats K H [x, y, z] vs) : ∃ v w u, vs = [v, w, u] ∧ Dat K H x v ∧ Dat K H y w ∧ Dat K H z u := by
  obtain ⟨v, s, e, a, b⟩ := Dats.cons_iff.mp h
  obtain ⟨w, u, rfl, c, g⟩ := b.n2
  exact ⟨v, w, u, e, a, c, g⟩
theorem Dats.n4 {x y z z' : D} {H : Hp} {vs : List V} (h : Dats K H [x, y, z, z'] vs) : ∃ v w u u', vs = [v, w, u, u'] ∧ Dat K H x v ∧ Dat K H y w ∧ Dat K H z u ∧ Dat K H z' u' := by
  obtain ⟨v, s, e, a, b⟩ := Dats.cons_iff.mp h
  obtain ⟨w, u, u', rfl, c, g, k⟩ := b.n3
  exact ⟨v, w, u, u', e, a, c, g, k⟩

/-! ### displays, slices -/
/-- fresh items: DatsN of scalars, or new things -/
def EvNs (ta : TA) (σ : L2.St) (H : Hp) (d : List D) : Prop := ∀ H1, Ex H H1 → ∀ Q : List V → Hp → Prop, (∀ v H2, Ex H1 H2 → DatsN H1 H2 d v → Q v H2) → ta σ H1 Q
theorem ens_nil : EvNs tNil σ H [] := fun H1 _ _ q => q [] H1 (Ex.refl H1) DatsN.nil
theorem ens_cons (h : EvN ta σ H x) (hr : EvNs tas σ H xs) : EvNs (tCons ta tas) σ H (x :: xs) := fun H1 e _ q =>
  h H1 e _ fun vx H2 e2 dx => hr H2 (e.trans e2) _ fun vs H3 e3 dv => q _ H3 (e2.trans e3) (DatsN.cons (dx.mono (Ex.refl _) e3) (dv.mono e2 (Ex.refl _)))
theorem DatsN.length {H0 H : Hp} {d : List D} {y : List V} (h : DatsN H0 H d y) : y.length = d.length := Dats.length (K := default) h.d
theorem en_lst (h : EvNs tas σ H xs) (hl : xs.length ≤ 100000) : EvN (tLst tas) σ H (.l xs) := fun H1 e _ q =>
  h H1 e _ fun vs H2 e2 dv => ⟨sz_of (by rw [dv.length]; exact hl), fun p hp => q _ _ (e2.trans (Ex.new hp)) (DatN.l_iff.mpr ⟨p, vs, rfl, fresh_back e2 hp, upd_same, dv.mono (Ex.refl _) (Ex.new hp)⟩)⟩
theorem en_tup (h : EvNs tas σ H xs) (hl : xs.length ≤ 100000) : EvN (tTup tas) σ H (.t xs) := fun H1 e _ q =>
  h H1 e _ fun vs H2 e2 dv => ⟨sz_of (by rw [dv.length]; exact hl), fun p hp => q _ _ (e2.trans (Ex.new hp)) (DatN.t_iff.mpr ⟨p, vs, rfl, fresh_back e2 hp, upd_same, dv.mono (Ex.refl _) (Ex.new hp)⟩)⟩
/-- a display of things that stand -/
theorem ev_lst (h : EvDs K tas σ H xs) (hl : xs.length ≤ 100000) : EvD K (tLst tas) σ H (.l xs) := fun H1 e _ q =>
  h H1 e _ fun vs H2 e2 dv => ⟨sz_of (by rw [dv.length]; exact hl), fun p hp => q _ _ (e2.trans (Ex.new hp)) (Dat.l_iff.mpr ⟨p, vs, rfl, sq_of upd_same, dv.mono (Ex.new hp)⟩)⟩
theorem ev_tup (h : EvDs K tas σ H xs) (hl : xs.length ≤ 100000) : EvD K (tTup tas) σ H (.t xs) := fun H1 e _ q =>
  h H1 e _ fun vs H2 e2 dv => ⟨sz_of (by rw [dv.length]; exact hl), fun p hp => q _ _ (e2.trans (Ex.new hp)) (Dat.t_iff.mpr ⟨p, vs, rfl, st_of upd_same, dv.mono (Ex.new hp)⟩)⟩
def cutD (xs : List D) (lo hi : Option Int) : List D := (xs.drop (HT.sIx xs.length 0 lo)).take (HT.sIx xs.length xs.length hi - HT.sIx xs.length 0 lo)
theorem Dats.cut {H : Hp} {vs : List V} (lo hi : Option Int) (h : Dats K H xs vs) : Dats K H (cutD xs lo hi) (cutV vs lo hi) := by
  unfold cutD cutV
  rw [h.length]
  exact (h.drop _).take _
def EvO (K : PySem.W.Frag) (to : TO) (σ : L2.St) (H : Hp) (o : Option Int) : Prop := ∀ H1, Ex H H1 → ∀ Q : Option Int → Hp → Prop, (∀ H2, Ex H1 H2 → Q o H2) → to σ H1 Q
theorem eo_none : EvO K tNoPart σ H none := fun H1 _ _ q => q H1 (Ex.refl H1)
theorem eo_some {i : Int} (h : EvD K te σ H (di i)) : EvO K (tPart te) σ H (some i) := fun H1 e _ q => h H1 e _ fun v H2 e2 dv => ⟨i, Dat.v_iff.mp dv, q H2 e2⟩
theorem cutD_map {α : Type} (f : α → D) (xs : List α) (lo hi : Option Int) : cutD (xs.map f) lo hi = ((xs.drop (HT.sIx xs.length 0 lo)).take (HT.sIx xs.length xs.length hi - HT.sIx xs.length 0 lo)).map f := by
  unfold cutD
  rw [List.length_map, List.map_take, List.map_drop]
/-- a slice of a flat list -/
theorem en_sl {tl th : TO} {α : Type} {f : α → V} {ns : List α} {lo hi : Option Int} (h : EvD K te σ H (.l (ns.map fun a => .v (f a)))) (h1 : EvO K tl σ H lo) (h2 : EvO K th σ H hi) :
    EvN (tSl (rSlL K) te tl th) σ H (.l (((ns.drop (HT.sIx ns.length 0 lo)).take (HT.sIx ns.length ns.length hi - HT.sIx ns.length 0 lo)).map fun a => .v (f a))) := fun H1 e _ q =>
  h H1 e _ fun v H2 e2 dv => h1 H2 (e.trans e2) _ fun H3 e3 => h2 H3 ((e.trans e2).trans e3) _ fun H4 e4 => by
    obtain ⟨p, ys, rfl, s, dd⟩ := Dat.l_iff.mp dv
    have ey := Dats.map_eq dd
    subst ey
    refine ⟨p, ns.map f, rfl, ex_l (e3.trans e4) s, fun l hl => ?_⟩
    refine q _ _ (((e2.trans e3).trans e4).trans (Ex.new hl)) (DatN.l_iff.mpr ⟨l, _, rfl, fresh_back ((e2.trans e3).trans e4) hl, upd_same, ?_⟩)
    have ec : cutV (ns.map f) lo hi = ((ns.drop (HT.sIx ns.length 0 lo)).take (HT.sIx ns.length ns.length hi - HT.sIx ns.length 0 lo)).map f := by
      unfold cutV
      rw [List.length_map, List.map_take, List.map_drop]
    rw [ec]
    exact DatsN.map
/-- a slice of anything, as it stands -/
theorem ev_sl {tl th : TO} {lo hi : Option Int} (h : EvD K te σ H (.l xs)) (h1 : EvO K tl σ H lo) (h2 : EvO K th σ H hi) : EvD K (tSl (rSlL K) te tl th) σ H (.l (cutD xs lo hi)) := fun H1 e _ q =>
  h H1 e _ fun v H2 e2 dv => h1 H2 (e.trans e2) _ fun H3 e3 => h2 H3 ((e.trans e2).trans e3) _ fun H4 e4 => by
    obtain ⟨p, ys, rfl, s, dd⟩ := Dat.l_iff.mp dv
    exact ⟨p, ys, rfl, ex_l (e3.trans e4) s, fun l hl => q _ _ (((e2.trans e3).trans e4).trans (Ex.new hl)) (Dat.l_iff.mpr ⟨l, _, rfl, sq_of upd_same, (dd.cut lo hi).mono ((e3.trans e4).trans (Ex.new hl))⟩)⟩

/-! ### operations -/
theorem rd_val {x y z : V} (h : ∀ H, ∀ Q : VK, Q z H → r x y H Q) : RD K r (.v x) (.v y) (.v z) := fun H vx vy dx dy Q q => by
  rw [Dat.v_iff.mp dx, Dat.v_iff.mp dy]
  exact h H Q (q z H (Ex.refl H) Dat.v)
theorem rd_I0 {g : Int → Int → V} {i j : Int} : RD K (rI0 g) (di i) (di j) (.v (g i j)) := rd_val fun _ _ q => ⟨i, j, rfl, rfl, q⟩
theorem rd_I {C : Int → Int → Prop} {g : Int → Int → V} {i j : Int} (hc : C i j) : RD K (rI C g) (di i) (di j) (.v (g i j)) := rd_val fun _ _ q => ⟨i, j, rfl, rfl, hc, q⟩
theorem rd_eq {x y : V} (h : scal x y = true) : RD K rEq (.v x) (.v y) (db (decide (x = y))) := rd_val fun _ _ q => ⟨h, q⟩
theorem rd_ne {x y : V} (h : scal x y = true) : RD K rNe (.v x) (.v y) (db (!decide (x = y))) := rd_val fun _ _ q => ⟨h, q⟩
theorem dec_V {α : Type} [DecidableEq α] {c : α → V} (hc : ∀ a b, c a = c b → a = b) (a b : α) : decide (c a = c b) = decide (a = b) := by
  by_cases e : a = b
  · subst e
    simp
  · rw [decide_eq_false e, decide_eq_false fun z => e (hc a b z)]
theorem rd_eqI {i j : Int} : RD K rEq (di i) (di j) (db (decide (i = j))) := rd_val fun _ _ q => ⟨rfl, by rw [dec_V fun a b e => V.int.inj e]; exact q⟩
theorem rd_neI {i j : Int} : RD K rNe (di i) (di j) (db (!decide (i = j))) := rd_val fun _ _ q => ⟨rfl, by rw [dec_V fun a b e => V.int.inj e]; exact q⟩
theorem rd_eqS {i j : Str} : RD K rEq (ds i) (ds j) (db (decide (i = j))) := rd_val fun _ _ q => ⟨rfl, by rw [dec_V fun a b e => V.str.inj e]; exact q⟩
theorem rd_neS {i j : Str} : RD K rNe (ds i) (ds j) (db (!decide (i = j))) := rd_val fun _ _ q => ⟨rfl, by rw [dec_V fun a b e => V.str.inj e]; exact q⟩
theorem rd_ixL {i : Int} (h : atI xs i = some z) : RD K (rIxL K) (.l xs) (di i) z := fun H vx vy dx dy Q q => by
  obtain ⟨p, ys, rfl, s, dd⟩ := Dat.l_iff.mp dx
  obtain ⟨u, e, du⟩ := dd.at h
  exact ⟨p, ys, i, u, rfl, Dat.v_iff.mp dy, s, e, q u H (Ex.refl H) du⟩
theorem rd_ixT {i : Int} (h : atI xs i = some z) : RD K (rIxT K) (.t xs) (di i) z := fun H vx vy dx dy Q q => by
  obtain ⟨p, ys, rfl, s, dd⟩ := Dat.t_iff.mp dx
  obtain ⟨u, e, du⟩ := dd.at h
  exact ⟨p, ys, i, u, rfl, Dat.v_iff.mp dy, s, e, q u H (Ex.refl H) du⟩
theorem rd_ixS {w : Str} {i : Int} {c : Nat} (hl : w.length ≤ 100000) (h : atI w.cps.toList i = some c) : RD K rIxS (ds w) (di i) (ds ⟨#[c]⟩) := rd_val fun _ _ q => ⟨w, i, c, rfl, rfl, sz_of hl, h, q⟩
theorem rd_addS {a b : Str} (h : a.length + b.length ≤ 100000) : RD K (fun x y H Q => ∃ i j, x = .str i ∧ y = .str j ∧ i.length + j.length ≤ sizeLine ∧ Q (.str (i ++ j)) H) (ds a) (ds b) (ds (a ++ b)) := rd_val fun _ _ q => ⟨a, b, rfl, rfl, sz_of h, q⟩
theorem rd_inS {c : Nat} {w : Str} : RD K (fun x y H Q => ∃ (c : Nat) (z : Str), x = .str ⟨#[c]⟩ ∧ y = .str z ∧ Q (.bl (decide (c ∈ z.cps.toList))) H) (ds ⟨#[c]⟩) (ds w) (db (decide (c ∈ w.cps.toList))) := rd_val fun _ _ q => ⟨c, w, rfl, rfl, q⟩
theorem rd_isN {x : V} : RD K (fun x y H Q => y = .non ∧ Q (.bl (decide (x = .non))) H) (.v x) d0 (db (decide (x = .non))) := rd_val fun _ _ q => ⟨rfl, q⟩
theorem rd_notN {x : V} : RD K (fun x y H Q => y = .non ∧ Q (.bl (!decide (x = .non))) H) (.v x) d0 (db (!decide (x = .non))) := rd_val fun _ _ q => ⟨rfl, q⟩
/-- among flat things -/
theorem rd_inL {α : Type} {f : α → V} {ns : List α} {neg : Bool} {x : V} (hx : flatV x = true) (ha : (ns.map f).all flatV = true) : RD K (rIn K neg) (.v x) (.l (ns.map fun a => .v (f a))) (db (if neg then !inV x (ns.map f) else inV x (ns.map f))) := fun H vx vy dx dy Q q => by
  obtain ⟨p, ys, rfl, s, dd⟩ := Dat.l_iff.mp dy
  have e := Dats.map_eq dd
  subst e
  rw [Dat.v_iff.mp dx]
  exact ⟨p, _, rfl, Or.inl s, hx, ha, q _ H (Ex.refl H) Dat.v⟩
theorem rd_inT {α : Type} {f : α → V} {ns : List α} {neg : Bool} {x : V} (hx : flatV x = true) (ha : (ns.map f).all flatV = true) : RD K (rIn K neg) (.v x) (.t (ns.map fun a => .v (f a))) (db (if neg then !inV x (ns.map f) else inV x (ns.map f))) := fun H vx vy dx dy Q q => by
  obtain ⟨p, ys, rfl, s, dd⟩ := Dat.t_iff.mp dy
  have e := Dats.map_eq dd
  subst e
  rw [Dat.v_iff.mp dx]
  exact ⟨p, _, rfl, Or.inr s, hx, ha, q _ H (Ex.refl H) Dat.v⟩
/-- two lists that stand: a new one -/
theorem rn_cat {α : Type} {f : α → V} {ns ms : List α} (hl : ns.length + ms.length ≤ 100000) {H : Hp} {p q : Addr} {Q : VK} (h1 : H p = some (.lst (ns.map f))) (h2 : H q = some (.lst (ms.map f))) (k : ∀ v H2, Ex H H2 → DatN H H2 (.l ((ns ++ ms).map fun a => .v (f a))) v → Q v H2) : rCat (.ref p) (.ref q) H Q :=
  ⟨p, q, _, _, rfl, rfl, h1, h2, sz_of (by rw [List.length_map, List.length_map]; exact hl), fun l hl => k _ _ (Ex.new hl) (DatN.l_iff.mpr ⟨l, _, rfl, hl, upd_same, by rw [← List.map_append]; exact DatsN.map⟩)⟩

/-! ### calls of built-ins -/
theorem cd_len : CD K (fun xs H Q => ∃ p ys, xs = [.ref p] ∧ (SqL K H p ys ∨ SqT K H p ys) ∧ Q (.int ys.length) H) [.l xs] (dn xs.length) := fun H vs dv Q q => by
  obtain ⟨v, rfl, a⟩ := dv.n1
  obtain ⟨p, ys, rfl, s, dd⟩ := Dat.l_iff.mp a
  exact ⟨p, ys, rfl, Or.inl s, by rw [dd.length]; exact q _ H (Ex.refl H) Dat.v⟩
theorem cd_lenT : CD K (fun xs H Q => ∃ p ys, xs = [.ref p] ∧ (SqL K H p ys ∨ SqT K H p ys) ∧ Q (.int ys.length) H) [.t xs] (dn xs.length) := fun H vs dv Q q => by
  obtain ⟨v, rfl, a⟩ := dv.n1
  obtain ⟨p, ys, rfl, s, dd⟩ := Dat.t_iff.mp a
  exact ⟨p, ys, rfl, Or.inr s, by rw [dd.length]; exact q _ H (Ex.refl H) Dat.v⟩
theorem cd_lenS {w : Str} (hl : w.length ≤ 100000) : CD K (fun xs H Q => ∃ z, xs = [.str z] ∧ z.length ≤ sizeLine ∧ Q (.int z.length) H) [ds w] (dn w.length) := fun H vs dv Q q => by
  obtain ⟨v, rfl, a⟩ := dv.n1
  rw [Dat.v_iff.mp a]
  exact ⟨w, rfl, sz_of hl, q _ H (Ex.refl H) Dat.v⟩
theorem cd_max2 {i j : Int} : CD K (fun xs H Q => ∃ i j, xs = [.int i, .int j] ∧ Q (.int (if j > i then j else i)) H) [di i, di j] (di (max i j)) := fun H vs dv Q q => by
  obtain ⟨v, w, rfl, a, b⟩ := dv.n2
  rw [Dat.v_iff.mp a, Dat.v_iff.mp b]
  refine ⟨i, j, rfl, ?_⟩
  have e : (if j > i then j else i) = max i j := by split <;> omega
  rw [e]
  exact q _ H (Ex.refl H) Dat.v
theorem cd_min2 {i j : Int} : CD K (fun xs H Q => ∃ i j, xs = [.int i, .int j] ∧ Q (.int (if j < i then j else i)) H) [di i, di j] (di (min i j)) := fun H vs dv Q q => by
  obtain ⟨v, w, rfl, a, b⟩ := dv.n2
  rw [Dat.v_iff.mp a, Dat.v_iff.mp b]
  refine ⟨i, j, rfl, ?_⟩
  have e : (if j < i then j else i) = min i j := by split <;> omega
  rw [e]
  exact q _ H (Ex.refl H) Dat.v
theorem cd_intB {b : Bool} : CD K (fun xs H Q => (∃ i, xs = [.int i] ∧ Q (.int i) H) ∨ ∃ k, xs = [.bl k] ∧ Q (.int (if k then 1 else 0)) H) [db b] (di (if b then 1 else 0)) := fun H vs dv Q q => by
  obtain ⟨v, rfl, a⟩ := dv.n1
  rw [Dat.v_iff.mp a]
  exact Or.inr ⟨b, rfl, q _ H (Ex.refl H) Dat.v⟩
theorem cn_list {α : Type} {f : α → V} {ns : List α} : CN K (fun xs H Q => ∃ p ys, xs = [.ref p] ∧ (SqL K H p ys ∨ SqT K H p ys) ∧ ∀ l, H l = none → Q (.ref l) (upd H l (.lst ys))) [.l (ns.map fun a => .v (f a))] (.l (ns.map fun a => .v (f a))) := fun H vs dv Q q => by
  obtain ⟨v, rfl, a⟩ := dv.n1
  obtain ⟨p, ys, rfl, s, dd⟩ := Dat.l_iff.mp a
  have e := Dats.map_eq dd
  subst e
  exact ⟨p, _, rfl, Or.inl s, fun l hl => q _ _ (Ex.new hl) (DatN.l_iff.mpr ⟨l, _, rfl, hl, upd_same, DatsN.map⟩)⟩

/-! ### calls of defs -/
/-- a def that reads data and hands back new data -/
def PSp (K : PySem.W.Frag) (R : List D → D → Prop) : Sp := fun vs H Q _ => ∃ xs d, R xs d ∧ Dats K H xs vs ∧ ∀ v H2, Ex H H2 → DatN H H2 d v → Q v H2
theorem PSp.len {R : List D → D → Prop} {n : Nat} (h : ∀ xs d, R xs d → xs.length = n) : ∀ vs H Q E, PSp K R vs H Q E → vs.length = n := fun vs H Q E ⟨xs, d, a, b, _⟩ => by
  rw [b.length]
  exact h xs d a
theorem en_call {R : List D → D → Prop} {E : XK} (h : EvDs K tas σ H xs) (hr : R xs z) : EvN (tCall (PSp K R) [] E tas) σ H z := fun H1 e Q q =>
  h H1 e _ fun vs H2 e2 dv => by
    rw [List.append_nil]
    exact ⟨xs, z, hr, dv, fun v H3 e3 dz => q v H3 (e2.trans e3) (dz.mono e2 (Ex.refl _))⟩
theorem ev_call {R : List D → D → Prop} {E : XK} (h : EvDs K tas σ H xs) (hr : R xs z) : EvD K (tCall (PSp K R) [] E tas) σ H z := EvN.d (en_call h hr)

/-! ### tests -/
theorem et_test {b : Bool} (h : EvD K te σ H (db b)) : EvT (tTest te) σ H b := fun H1 e _ q => h H1 e _ fun v H2 e2 dv => ⟨b, Dat.v_iff.mp dv, q H2 e2⟩
theorem et_B {b : Bool} (h : EvD K te σ H (db b)) : EvT (tB te) σ H b := fun H1 e _ q => h H1 e _ fun v H2 e2 dv => ⟨b, Dat.v_iff.mp dv, q H2 e2⟩
theorem ev_andV {a b : Bool} (h1 : EvD K ta σ H (db a)) (h2 : a = true → EvD K tb σ H (db b)) : EvD K (tAndV ta tb) σ H (db (a && b)) := fun H1 e Q q =>
  h1 H1 e _ fun v H2 e2 dv => ⟨a, Dat.v_iff.mp dv, by
    cases a with
    | true =>
      show tb σ H2 Q
      exact h2 rfl H2 (e.trans e2) Q fun v H3 e3 dv => q v H3 (e2.trans e3) dv
    | false =>
      show Q (.bl false) H2
      exact q _ H2 e2 Dat.v⟩
theorem ev_orV {a b : Bool} (h1 : EvD K ta σ H (db a)) (h2 : a = false → EvD K tb σ H (db b)) : EvD K (tOrV ta tb) σ H (db (a || b)) := fun H1 e Q q =>
  h1 H1 e _ fun v H2 e2 dv => ⟨a, Dat.v_iff.mp dv, by
    cases a with
    | true =>
      show Q (.bl true) H2
      exact q _ H2 e2 Dat.v
    | false =>
      show tb σ H2 Q
      exact h2 rfl H2 (e.trans e2) Q fun v H3 e3 dv => q v H3 (e2.trans e3) dv⟩
theorem ev_notV {a : Bool} (h1 : EvD K ta σ H (db a)) : EvD K (tNotV ta) σ H (db (!a)) := fun H1 e _ q => h1 H1 e _ fun v H2 e2 dv => ⟨a, Dat.v_iff.mp dv, q _ H2 e2 Dat.v⟩
theorem EvT.is {a b : Bool} (h : EvT t σ H a) (e : a = b) : EvT t σ H b := e ▸ h
/-- a < b < c -/
theorem ev_chain {r r' : R2} {tc : TE} {a b : Bool} (ha : EvD K ta σ H x) (hb : EvD K tb σ H y) (hr : RD K r x y (db a)) (hc : a = true → EvD K tc σ H z) (hr' : a = true → RD K r' y z (db b)) : EvD K (tChain r r' ta tb tc) σ H (db (a && b)) := fun H1 e Q q =>
  ha H1 e _ fun vx H2 e2 dx => hb H2 (e.trans e2) _ fun vy H3 e3 dy => hr H3 vx vy (dx.mono e3) dy _ fun v H4 e4 dv => ⟨a, Dat.v_iff.mp dv, by
    cases a with
    | true => exact hc rfl H4 (((e.trans e2).trans e3).trans e4) _ fun vz H5 e5 dz => hr' rfl H5 vy vz (dy.mono (e4.trans e5)) dz Q fun v H6 e6 dv => q v H6 ((((e2.trans e3).trans e4).trans e5).trans e6) dv
    | false => exact q _ H4 ((e2.trans e3).trans e4) Dat.v⟩
end
end Tx
namespace Tx
open PySem PySem.Spec PyProof.Rows L2 Evl

section
variable {K : PySem.W.Frag} {σ : L2.St} {H H' H0 : Hp} {L L' : List (Addr × HO)} {ta tb te tx tl : TE} {tas : TA} {t u : TT} {x y z w : D} {xs ys : List D} {r : R2} {De : Ends} {tu tw tz : TS} {g : TG} {p q : Addr}

/-! ### statements -/
theorem q_set {i : Nat} (o : Own H0 H L) [IsK K] (h : EvD K te σ H x) (k : ∀ v H1, Own H0 H1 L → Dat K H1 x v → tz De (σ.set i (some v)) H1) : tSeq (tAsg te (gName i)) tz De σ H :=
  h H (Ex.refl H) _ fun v H1 e d => k v H1 (o.grow e) d
theorem q_setV {i : Nat} {v : V} (o : Own H0 H L) [IsK K] (h : EvD K te σ H (.v v)) (k : ∀ H1, Own H0 H1 L → tz De (σ.set i (some v)) H1) : tSeq (tAsg te (gName i)) tz De σ H :=
  h H (Ex.refl H) _ fun v H1 e d => by
    rw [Dat.v_iff.mp d]
    exact k H1 (o.grow e)
theorem s_setV {i : Nat} {v : V} (o : Own H0 H L) [IsK K] (h : EvD K te σ H (.v v)) (k : ∀ H1, Own H0 H1 L → De.nx (σ.set i (some v)) H1) : tAsg te (gName i) De σ H :=
  h H (Ex.refl H) _ fun v H1 e d => by
    rw [Dat.v_iff.mp d]
    exact k H1 (o.grow e)
theorem q_setN {i : Nat} (o : Own H0 H L) (h : EvN te σ H x) (k : ∀ v H1, Own H0 H1 L → Ex H H1 → DatN H H1 x v → tz De (σ.set i (some v)) H1) : tSeq (tAsg te (gName i)) tz De σ H :=
  h H (Ex.refl H) _ fun v H1 e d => k v H1 (o.grow e) e d
/-- a new flat list -/
theorem q_setL {α : Type} {f : α → V} {ns : List α} {i : Nat} (o : Own H0 H L) (h : EvN te σ H (.l (ns.map fun a => .v (f a)))) (k : ∀ p H1, Own H0 H1 ((p, .lst (ns.map f)) :: L) → tz De (σ.set i (some (.ref p))) H1) : tSeq (tAsg te (gName i)) tz De σ H :=
  h H (Ex.refl H) _ fun v H1 e d => by
    obtain ⟨p, ys, rfl, n, hp, dd⟩ := DatN.l_iff.mp d
    have ey := DatsN.map_eq dd
    subst ey
    exact k p H1 (o.new n e hp)
theorem s_setL {α : Type} {f : α → V} {ns : List α} {i : Nat} (o : Own H0 H L) (h : EvN te σ H (.l (ns.map fun a => .v (f a)))) (k : ∀ p H1, Own H0 H1 ((p, .lst (ns.map f)) :: L) → De.nx (σ.set i (some (.ref p))) H1) : tAsg te (gName i) De σ H :=
  h H (Ex.refl H) _ fun v H1 e d => by
    obtain ⟨p, ys, rfl, n, hp, dd⟩ := DatN.l_iff.mp d
    have ey := DatsN.map_eq dd
    subst ey
    exact k p H1 (o.new n e hp)
theorem q_setE {i : Nat} (o : Own H0 H L) (h : EvN te σ H (.l [])) (k : ∀ p H1, Own H0 H1 ((p, .lst []) :: L) → tz De (σ.set i (some (.ref p))) H1) : tSeq (tAsg te (gName i)) tz De σ H :=
  q_setL (α := V) (f := id) (ns := []) o h k
theorem s_setE {i : Nat} (o : Own H0 H L) (h : EvN te σ H (.l [])) (k : ∀ p H1, Own H0 H1 ((p, .lst []) :: L) → De.nx (σ.set i (some (.ref p))) H1) : tAsg te (gName i) De σ H :=
  s_setL (α := V) (f := id) (ns := []) o h k
theorem s_retN (o : Own H0 H L) (h : EvN te σ H x) (k : ∀ v H2, Ex H0 H2 → DatN H0 H2 x v → De.rt v H2) : tRet te De σ H :=
  h H (Ex.refl H) _ fun v H1 e d => k v H1 (o.ex.trans e) (d.mono o.ex (Ex.refl _))
theorem s_retV {v : V} (o : Own H0 H L) [IsK K] (h : EvD K te σ H (.v v)) (k : ∀ u H2, Ex H0 H2 → DatN H0 H2 (.v v) u → De.rt u H2) : tRet te De σ H := s_retN o h.n k
/-- a local list handed back -/
theorem s_retO {α : Type} {f : α → V} {ns : List α} {i : Nat} (o : Own H0 H L) (hs : σ[i]? = some (some (.ref p))) (hp : H p = some (.lst (ns.map f))) (hn : H0 p = none) (k : ∀ v H2, Ex H0 H2 → DatN H0 H2 (.l (ns.map fun a => .v (f a))) v → De.rt v H2) : tRet (tVar i) De σ H :=
  ⟨.ref p, hs, k _ H o.ex (DatN.l_iff.mpr ⟨p, _, rfl, hn, hp, DatsN.map⟩)⟩

theorem s_app {i : Nat} {vs : List V} {v : V} {M : HO → List (Addr × HO)} (o : Own H0 H L) (hs : σ[i]? = some (some (.ref p))) (hl : H p = some (.lst vs)) (put : ∀ (H1 : Hp) (u : HO), Own H0 H1 L → Own H0 (upd H1 p u) (M u)) (hz : vs.length < 100000)
    (h : EvD K te σ H (.v v)) (k : ∀ H1, Own H0 H1 (M (.lst (vs ++ [v]))) → De.nx σ H1) : tDrop (tBM K "list" rAppend (tVar i) (tCons te tNil)) De σ H :=
  ⟨.ref p, hs, Or.inl ⟨rfl, vs, sq_of hl⟩, h H (Ex.refl H) _ fun y H2 e2 d => ⟨p, vs, y, rfl, rfl, e2 p _ hl, sz_lt hz, by
    rw [Dat.v_iff.mp d]
    exact k _ (put _ _ (o.grow e2))⟩⟩
theorem q_app {i : Nat} {vs : List V} {v : V} {M : HO → List (Addr × HO)} (o : Own H0 H L) (hs : σ[i]? = some (some (.ref p))) (hl : H p = some (.lst vs)) (put : ∀ (H1 : Hp) (u : HO), Own H0 H1 L → Own H0 (upd H1 p u) (M u)) (hz : vs.length < 100000)
    (h : EvD K te σ H (.v v)) (k : ∀ H1, Own H0 H1 (M (.lst (vs ++ [v]))) → tz De σ H1) : tSeq (tDrop (tBM K "list" rAppend (tVar i) (tCons te tNil))) tz De σ H := s_app (De := { De with nx := tz De }) o hs hl put hz h k
/-- .. of a new thing -/
theorem s_appN {i : Nat} {vs : List V} {M : HO → List (Addr × HO)} (o : Own H0 H L) (hs : σ[i]? = some (some (.ref p))) (hl : H p = some (.lst vs)) (put : ∀ (H1 : Hp) (u : HO), Own H0 H1 L → Own H0 (upd H1 p u) (M u)) (hz : vs.length < 100000)
    (h : EvN te σ H x) (k : ∀ v H1, Ex H H1 → DatN H H1 x v → Own H0 (upd H1 p (.lst (vs ++ [v]))) (M (.lst (vs ++ [v]))) → De.nx σ (upd H1 p (.lst (vs ++ [v])))) : tDrop (tBM K "list" rAppend (tVar i) (tCons te tNil)) De σ H :=
  ⟨.ref p, hs, Or.inl ⟨rfl, vs, sq_of hl⟩, h H (Ex.refl H) _ fun y H2 e2 d => ⟨p, vs, y, rfl, rfl, e2 p _ hl, sz_lt hz, k y H2 e2 d (put _ _ (o.grow e2))⟩⟩
theorem q_appN {i : Nat} {vs : List V} {M : HO → List (Addr × HO)} (o : Own H0 H L) (hs : σ[i]? = some (some (.ref p))) (hl : H p = some (.lst vs)) (put : ∀ (H1 : Hp) (u : HO), Own H0 H1 L → Own H0 (upd H1 p u) (M u)) (hz : vs.length < 100000)
    (h : EvN te σ H x) (k : ∀ v H1, Ex H H1 → DatN H H1 x v → Own H0 (upd H1 p (.lst (vs ++ [v]))) (M (.lst (vs ++ [v]))) → tz De σ (upd H1 p (.lst (vs ++ [v])))) : tSeq (tDrop (tBM K "list" rAppend (tVar i) (tCons te tNil))) tz De σ H := s_appN (De := { De with nx := tz De }) o hs hl put hz h k
/-- xs.extend(a new flat list) -/
theorem s_ext {i : Nat} {α : Type} {f : α → V} {ns : List α} {vs : List V} {M : HO → List (Addr × HO)} (o : Own H0 H L) (hs : σ[i]? = some (some (.ref p))) (hl : H p = some (.lst vs)) (put : ∀ (H1 : Hp) (u : HO), Own H0 H1 L → Own H0 (upd H1 p u) (M u))
    (h : EvN te σ H (.l (ns.map fun a => .v (f a)))) (hz : vs.length + ns.length ≤ 100000) (k : ∀ H1, Own H0 H1 (M (.lst (vs ++ ns.map f))) → De.nx σ H1) : tDrop (tBM K "list" rExtend (tVar i) (tCons te tNil)) De σ H :=
  ⟨.ref p, hs, Or.inl ⟨rfl, vs, sq_of hl⟩, h H (Ex.refl H) _ fun y H2 e2 d => by
    obtain ⟨q, ys, rfl, n, hq, dd⟩ := DatN.l_iff.mp d
    have ey := DatsN.map_eq dd
    subst ey
    exact ⟨p, q, vs, _, rfl, rfl, e2 p _ hl, hq, sz_of (by rw [List.length_map]; exact hz), k _ (put _ _ (o.grow e2))⟩⟩
theorem q_ext {i : Nat} {α : Type} {f : α → V} {ns : List α} {vs : List V} {M : HO → List (Addr × HO)} (o : Own H0 H L) (hs : σ[i]? = some (some (.ref p))) (hl : H p = some (.lst vs)) (put : ∀ (H1 : Hp) (u : HO), Own H0 H1 L → Own H0 (upd H1 p u) (M u))
    (h : EvN te σ H (.l (ns.map fun a => .v (f a)))) (hz : vs.length + ns.length ≤ 100000) (k : ∀ H1, Own H0 H1 (M (.lst (vs ++ ns.map f))) → tz De σ H1) : tSeq (tDrop (tBM K "list" rExtend (tVar i) (tCons te tNil))) tz De σ H := s_ext (De := { De with nx := tz De }) o hs hl put h hz k
/-- xs[e] = v -/
theorem s_put {i j : Nat} {n : Int} {vs : List V} {v : V} {M : HO → List (Addr × HO)} (o : Own H0 H L) [IsK K] (hs : σ[i]? = some (some (.ref p))) (hl : H p = some (.lst vs)) (put : ∀ (H1 : Hp) (u : HO), Own H0 H1 L → Own H0 (upd H1 p u) (M u))
    (h : EvD K te σ H (.v v)) (hi : ∀ H1, Ex H H1 → EvD K tb σ H1 (di n)) (hj : ixN vs.length n = some j) (k : ∀ H1, Own H0 H1 (M (.lst (vs.set j v))) → De.nx σ H1) : tAsg te (gSub (tVar i) tb rSetL) De σ H :=
  h H (Ex.refl H) _ fun y H2 e2 d => ⟨.ref p, hs, hi H2 e2 H2 (Ex.refl _) _ fun z H3 e3 dz => ⟨p, vs, n, j, rfl, Dat.v_iff.mp dz, (e2.trans e3) p _ hl, hj, by
    rw [Dat.v_iff.mp d]
    exact k _ (put _ _ (o.grow (e2.trans e3)))⟩⟩
theorem q_put {i j : Nat} {n : Int} {vs : List V} {v : V} {M : HO → List (Addr × HO)} (o : Own H0 H L) [IsK K] (hs : σ[i]? = some (some (.ref p))) (hl : H p = some (.lst vs)) (put : ∀ (H1 : Hp) (u : HO), Own H0 H1 L → Own H0 (upd H1 p u) (M u))
    (h : EvD K te σ H (.v v)) (hi : ∀ H1, Ex H H1 → EvD K tb σ H1 (di n)) (hj : ixN vs.length n = some j) (k : ∀ H1, Own H0 H1 (M (.lst (vs.set j v))) → tz De σ H1) : tSeq (tAsg te (gSub (tVar i) tb rSetL)) tz De σ H := s_put (De := { De with nx := tz De }) o hs hl put h hi hj k
/-- xs.pop() -/
theorem q_pop {i : Nat} {vs : List V} {v : V} {M : HO → List (Addr × HO)} (o : Own H0 H L) (hs : σ[i]? = some (some (.ref p))) (hl : H p = some (.lst (vs ++ [v]))) (put : ∀ (H1 : Hp) (u : HO), Own H0 H1 L → Own H0 (upd H1 p u) (M u))
    (k : ∀ H1, Own H0 H1 (M (.lst vs)) → tz De σ H1) : tSeq (tDrop (tBM0 K "list" rPop (tVar i))) tz De σ H :=
  ⟨.ref p, hs, Or.inl ⟨rfl, _, sq_of hl⟩, ⟨p, vs ++ [v], v, rfl, rfl, hl, by rw [List.length_append] <;> simp, by
    rw [List.dropLast_concat]
    exact k _ (put _ _ o)⟩⟩
theorem s_pop {i : Nat} {vs : List V} {v : V} {M : HO → List (Addr × HO)} (o : Own H0 H L) (hs : σ[i]? = some (some (.ref p))) (hl : H p = some (.lst (vs ++ [v]))) (put : ∀ (H1 : Hp) (u : HO), Own H0 H1 L → Own H0 (upd H1 p u) (M u))
    (k : ∀ H1, Own H0 H1 (M (.lst vs)) → De.nx σ H1) : tDrop (tBM0 K "list" rPop (tVar i)) De σ H :=
  ⟨.ref p, hs, Or.inl ⟨rfl, _, sq_of hl⟩, ⟨p, vs ++ [v], v, rfl, rfl, hl, by rw [List.length_append] <;> simp, by
    rw [List.dropLast_concat]
    exact k _ (put _ _ o)⟩⟩
theorem q_if {b : Bool} (o : Own H0 H L) (h : EvT t σ H b) (h1 : b = true → ∀ H1, Own H0 H1 L → tu { De with nx := tz De } σ H1) (h2 : b = false → ∀ H1, Own H0 H1 L → tw { De with nx := tz De } σ H1) : tSeq (tIfS t tu tw) tz De σ H :=
  Evl.q_if h (fun hb H1 e => h1 hb H1 (o.grow e)) (fun hb H1 e => h2 hb H1 (o.grow e))
theorem s_if {b : Bool} (o : Own H0 H L) (h : EvT t σ H b) (h1 : b = true → ∀ H1, Own H0 H1 L → tu De σ H1) (h2 : b = false → ∀ H1, Own H0 H1 L → tw De σ H1) : tIfS t tu tw De σ H :=
  Evl.s_if h (fun hb H1 e => h1 hb H1 (o.grow e)) (fun hb H1 e => h2 hb H1 (o.grow e))
theorem q_when {b : Bool} (o : Own H0 H L) (h : EvT t σ H b) (h1 : b = true → ∀ H1, Own H0 H1 L → tu { De with nx := tz De } σ H1) (h2 : b = false → ∀ H1, Own H0 H1 L → tz De σ H1) : tSeq (tIfS t tu tNext) tz De σ H :=
  Evl.q_when h (fun hb H1 e => h1 hb H1 (o.grow e)) (fun hb H1 e => h2 hb H1 (o.grow e))
theorem s_when {b : Bool} (o : Own H0 H L) (h : EvT t σ H b) (h1 : b = true → ∀ H1, Own H0 H1 L → tu De σ H1) (h2 : b = false → ∀ H1, Own H0 H1 L → De.nx σ H1) : tIfS t tu tNext De σ H :=
  Evl.s_when h (fun hb H1 e => h1 hb H1 (o.grow e)) (fun hb H1 e => h2 hb H1 (o.grow e))
theorem q_cut {M : L2.St → Hp → Prop} (h : tu { De with nx := M } σ H) (k : ∀ σ' H', M σ' H' → tz De σ' H') : tCut tu tz De σ H := ⟨M, h, k⟩

/-! ### loops; pre: what is gone through -/
theorem take_snoc {α : Type} {l : List α} {i : Nat} (h : i < l.length) : l.take (i + 1) = l.take i ++ [l[i]] := by
  rw [List.take_add_one, List.getElem?_eq_getElem h] <;> rfl
theorem split_at {α : Type} {l : List α} {i : Nat} (h : i < l.length) : l = l.take i ++ l[i] :: l.drop (i + 1) := by
  rw [List.getElem_cons_drop, List.take_append_drop]
/-- over a flat list at p -/
theorem for_flat {α : Type} {f : α → V} {ns : List α} {j : Nat} (Pv : List α → L2.St → Hp → Prop) (h0 : Pv [] σ H) (hl : ∀ pre σ' H', Pv pre σ' H' → SqL K H' p (ns.map f))
    (hs : ∀ pre a post σ' H', ns = pre ++ a :: post → Pv pre σ' H' → tu { De with nx := Pv (pre ++ [a]), ct := Pv (pre ++ [a]), bk := De.nx } (σ'.set j (some (f a))) H') (hd : ∀ σ' H', Pv ns σ' H' → De.nx σ' H') :
    ∃ W : Nat → Nat → L2.St → Hp → Prop, (∃ m, W 0 m σ H) ∧ ∀ i m σ H, W i m σ H →
      ((Itl K p).stop i H ∧ De.nx σ H) ∨ ((Itl K p).go i H ∧ ∃ N : L2.St → Hp → Prop, (∀ σ' H', N σ' H' → ∃ m', m' < m ∧ W (i + 1) m' σ' H') ∧ ∀ x H', (Itl K p).yld i H x H' → gName j x σ H' fun σ2 H2 => tu { De with nx := N, ct := N, bk := De.nx } σ2 H2) :=
  for_it (walk_list (xs := ns.map f)) (fun i σ' H' => i ≤ ns.length ∧ Pv (ns.take i) σ' H') ⟨Nat.zero_le _, h0⟩ (fun i σ' H' _ h => hl _ σ' H' h.2) (fun i x σ' H' H'' hi h hy => by
    obtain ⟨rfl, hx⟩ := hy
    rw [List.length_map] at hi
    rw [List.getElem?_map, List.getElem?_eq_getElem hi] at hx
    have hx' : f ns[i] = x := Option.some.inj hx
    subst hx'
    have g := hs (ns.take i) ns[i] (ns.drop (i + 1)) σ' H'' (split_at hi) h.2
    have e : (fun σ' H' => i + 1 ≤ ns.length ∧ Pv (ns.take (i + 1)) σ' H') = Pv (ns.take i ++ [ns[i]]) := by
      funext s h
      rw [take_snoc hi]
      exact propext ⟨fun q => q.2, fun q => ⟨hi, q⟩⟩
    rw [e]
    exact g) (fun σ' H' h => hd σ' H' (by
      have e := h.2
      rw [List.length_map, List.take_length] at e
      exact e))
/-- .. a name's list that stands in the base -/
theorem s_forV {α : Type} {f : α → V} {ns : List α} {i j : Nat} (hσ : σ[i]? = some (some (.ref p))) (hx : SqL K H p (ns.map f)) (Pv : List α → L2.St → Hp → Prop) (h0 : Pv [] σ H) (hl : ∀ pre σ' H', Pv pre σ' H' → SqL K H' p (ns.map f))
    (hs : ∀ pre a post σ' H', ns = pre ++ a :: post → Pv pre σ' H' → tu { De with nx := Pv (pre ++ [a]), ct := Pv (pre ++ [a]), bk := De.nx } (σ'.set j (some (f a))) H') (hd : ∀ σ' H', Pv ns σ' H' → De.nx σ' H') :
    tFor (iList K (tVar i)) (gName j) tu De σ H := ⟨.ref p, hσ, p, rfl, ⟨_, hx⟩, for_flat Pv h0 hl hs hd⟩
theorem q_forV {α : Type} {f : α → V} {ns : List α} {i j : Nat} (hσ : σ[i]? = some (some (.ref p))) (hx : SqL K H p (ns.map f)) (Pv : List α → L2.St → Hp → Prop) (h0 : Pv [] σ H) (hl : ∀ pre σ' H', Pv pre σ' H' → SqL K H' p (ns.map f))
    (hs : ∀ pre a post σ' H', ns = pre ++ a :: post → Pv pre σ' H' → tu { De with nx := Pv (pre ++ [a]), ct := Pv (pre ++ [a]), bk := tz De } (σ'.set j (some (f a))) H') (hd : ∀ σ' H', Pv ns σ' H' → tz De σ' H') :
    tSeq (tFor (iList K (tVar i)) (gName j) tu) tz De σ H := s_forV (De := { De with nx := tz De }) hσ hx Pv h0 hl hs hd
/-- .. a new list -/
theorem s_forN {α : Type} {f : α → V} {ns : List α} {j : Nat} (o : Own H0 H L) (h : EvN tl σ H (.l (ns.map fun a => .v (f a)))) (Pv : Addr → List α → L2.St → Hp → Prop) (h0 : ∀ p H1, Own H0 H1 ((p, .lst (ns.map f)) :: L) → Pv p [] σ H1) (hl : ∀ p pre σ' H', Pv p pre σ' H' → SqL K H' p (ns.map f))
    (hs : ∀ p pre a post σ' H', ns = pre ++ a :: post → Pv p pre σ' H' → tu { De with nx := Pv p (pre ++ [a]), ct := Pv p (pre ++ [a]), bk := De.nx } (σ'.set j (some (f a))) H') (hd : ∀ p σ' H', Pv p ns σ' H' → De.nx σ' H') :
    tFor (iList K tl) (gName j) tu De σ H := h H (Ex.refl H) _ fun v H1 e d => by
  obtain ⟨p, ys, rfl, n, hp, dd⟩ := DatN.l_iff.mp d
  have ey := DatsN.map_eq dd
  subst ey
  exact ⟨p, rfl, ⟨_, sq_of hp⟩, for_flat (Pv p) (h0 p H1 (o.new n e hp)) (hl p) (hs p) (hd p)⟩
theorem q_forN {α : Type} {f : α → V} {ns : List α} {j : Nat} (o : Own H0 H L) (h : EvN tl σ H (.l (ns.map fun a => .v (f a)))) (Pv : Addr → List α → L2.St → Hp → Prop) (h0 : ∀ p H1, Own H0 H1 ((p, .lst (ns.map f)) :: L) → Pv p [] σ H1) (hl : ∀ p pre σ' H', Pv p pre σ' H' → SqL K H' p (ns.map f))
    (hs : ∀ p pre a post σ' H', ns = pre ++ a :: post → Pv p pre σ' H' → tu { De with nx := Pv p (pre ++ [a]), ct := Pv p (pre ++ [a]), bk := tz De } (σ'.set j (some (f a))) H') (hd : ∀ p σ' H', Pv p ns σ' H' → tz De σ' H') :
    tSeq (tFor (iList K tl) (gName j) tu) tz De σ H := s_forN (De := { De with nx := tz De }) o h Pv h0 hl hs hd
/-- turns by number -/
theorem for_num {J : It} {n : Nat} {f : Nat → V} {G : Hp → Prop} (w : Walk J n G (YFn f)) {j : Nat} (Pv : Nat → L2.St → Hp → Prop) (h0 : Pv 0 σ H) (hG : ∀ i σ' H', i ≤ n → Pv i σ' H' → G H')
    (hs : ∀ i σ' H', i < n → Pv i σ' H' → tu { De with nx := Pv (i + 1), ct := Pv (i + 1), bk := De.nx } (σ'.set j (some (f i))) H') (hd : ∀ σ' H', Pv n σ' H' → De.nx σ' H') :
    ∃ W : Nat → Nat → L2.St → Hp → Prop, (∃ m, W 0 m σ H) ∧ ∀ i m σ H, W i m σ H →
      (J.stop i H ∧ De.nx σ H) ∨ (J.go i H ∧ ∃ N : L2.St → Hp → Prop, (∀ σ' H', N σ' H' → ∃ m', m' < m ∧ W (i + 1) m' σ' H') ∧ ∀ x H', J.yld i H x H' → gName j x σ H' fun σ2 H2 => tu { De with nx := N, ct := N, bk := De.nx } σ2 H2) :=
  for_it w Pv h0 hG (fun i x σ' H' H'' hi h hy => by
    obtain ⟨rfl, rfl⟩ := hy
    exact hs i σ' H'' hi h) hd
/-- for j in range(n) -/
theorem s_forR {j : Nat} {n : Int} (o : Own H0 H L) [IsK K] (h : EvDs K tas σ H [di n]) (hn : n ≤ 100000 ∧ -100000 ≤ n) (Pv : Nat → L2.St → Hp → Prop) (h0 : ∀ H1, Own H0 H1 L → Pv 0 σ H1)
    (hs : ∀ (i : Nat) σ' H', (i : Int) < n → Pv i σ' H' → tu { De with nx := Pv (i + 1), ct := Pv (i + 1), bk := De.nx } (σ'.set j (some (.int (i : Int)))) H') (hd : ∀ σ' H', Pv n.toNat σ' H' → De.nx σ' H') :
    tFor (iRng1 tas) (gName j) tu De σ H := h H (Ex.refl H) _ fun vs H1 e d => by
  obtain ⟨v, rfl, a⟩ := d.n1
  have a' := Dat.v_iff.mp a
  subst a'
  refine ⟨n, rfl, by omega, by omega, for_num (walk_range.mono (G' := fun _ => True) (fun _ _ => trivial) fun i H x H' _ _ y => y) Pv (h0 H1 (o.grow e)) (fun _ _ _ _ _ => trivial) (fun i σ' H' hi p => ?_) hd⟩
  have e0 : (0 : Int) + (i : Int) = (i : Int) := Int.zero_add _
  show tu { De with nx := Pv (i + 1), ct := Pv (i + 1), bk := De.nx } (σ'.set j (some (.int ((0 : Int) + (i : Int))))) H'
  rw [e0]
  exact hs i σ' H' (by omega) p
theorem q_forR {j : Nat} {n : Int} (o : Own H0 H L) [IsK K] (h : EvDs K tas σ H [di n]) (hn : n ≤ 100000 ∧ -100000 ≤ n) (Pv : Nat → L2.St → Hp → Prop) (h0 : ∀ H1, Own H0 H1 L → Pv 0 σ H1)
    (hs : ∀ (i : Nat) σ' H', (i : Int) < n → Pv i σ' H' → tu { De with nx := Pv (i + 1), ct := Pv (i + 1), bk := tz De } (σ'.set j (some (.int (i : Int)))) H') (hd : ∀ σ' H', Pv n.toNat σ' H' → tz De σ' H') :
    tSeq (tFor (iRng1 tas) (gName j) tu) tz De σ H := s_forR (De := { De with nx := tz De }) o h hn Pv h0 hs hd
/-- for j in range(lo, n) -/
theorem s_forR2 {j : Nat} {lo n : Int} (o : Own H0 H L) [IsK K] (h : EvDs K tas σ H [di lo, di n]) (hn : n ≤ 100000 ∧ -100000 ≤ n ∧ -100000 ≤ lo ∧ lo ≤ 100000) (Pv : Nat → L2.St → Hp → Prop) (h0 : ∀ H1, Own H0 H1 L → Pv 0 σ H1)
    (hs : ∀ (i : Nat) σ' H', lo + (i : Int) < n → Pv i σ' H' → tu { De with nx := Pv (i + 1), ct := Pv (i + 1), bk := De.nx } (σ'.set j (some (.int (lo + (i : Int))))) H') (hd : ∀ σ' H', Pv (n - lo).toNat σ' H' → De.nx σ' H') :
    tFor (iRng2 tas) (gName j) tu De σ H := h H (Ex.refl H) _ fun vs H1 e d => by
  obtain ⟨v, v', rfl, a, b⟩ := d.n2
  have a' := Dat.v_iff.mp a
  have b' := Dat.v_iff.mp b
  subst a' b'
  exact ⟨lo, n, rfl, ⟨by omega, by omega, by omega, by omega⟩, for_num (walk_range.mono (G' := fun _ => True) (fun _ _ => trivial) fun i H x H' _ _ y => y) Pv (h0 H1 (o.grow e)) (fun _ _ _ _ _ => trivial) (fun i σ' H' hi p => hs i σ' H' (by omega) p) hd⟩
theorem q_forR2 {j : Nat} {lo n : Int} (o : Own H0 H L) [IsK K] (h : EvDs K tas σ H [di lo, di n]) (hn : n ≤ 100000 ∧ -100000 ≤ n ∧ -100000 ≤ lo ∧ lo ≤ 100000) (Pv : Nat → L2.St → Hp → Prop) (h0 : ∀ H1, Own H0 H1 L → Pv 0 σ H1)
    (hs : ∀ (i : Nat) σ' H', lo + (i : Int) < n → Pv i σ' H' → tu { De with nx := Pv (i + 1), ct := Pv (i + 1), bk := tz De } (σ'.set j (some (.int (lo + (i : Int))))) H') (hd : ∀ σ' H', Pv (n - lo).toNat σ' H' → tz De σ' H') :
    tSeq (tFor (iRng2 tas) (gName j) tu) tz De σ H := s_forR2 (De := { De with nx := tz De }) o h hn Pv h0 hs hd
/-- for j in reversed(range(lo, n)) -/
theorem q_forRevR {j : Nat} {lo n : Int} (o : Own H0 H L) [IsK K] (ha : EvD K ta σ H (di lo)) (hb : EvD K tb σ H (di n)) (hn : n ≤ 100000 ∧ -100000 ≤ n ∧ -100000 ≤ lo ∧ lo ≤ 100000) (Pv : Nat → L2.St → Hp → Prop) (h0 : ∀ H1, Own H0 H1 L → Pv 0 σ H1)
    (hs : ∀ (i : Nat) σ' H', lo + (i : Int) < n → Pv i σ' H' → tu { De with nx := Pv (i + 1), ct := Pv (i + 1), bk := tz De } (σ'.set j (some (.int (n - 1 - (i : Int))))) H') (hd : ∀ σ' H', Pv (n - lo).toNat σ' H' → tz De σ' H') :
    tSeq (tFor (iRevR (tRg2 ta tb)) (gName j) tu) tz De σ H := ha H (Ex.refl H) _ fun v H1 e d => hb H1 e _ fun v' H2 e2 d' => by
  refine ⟨lo, n, Dat.v_iff.mp d, Dat.v_iff.mp d', by omega, by omega, by omega, by omega, for_num (De := { De with nx := tz De }) (walk_rangeC.mono (G' := fun _ => True) (fun _ _ => trivial) fun i H x H' _ _ y => y) Pv (h0 H2 (o.grow (e.trans e2))) (fun _ _ _ _ _ => trivial) (fun i σ' H' hi p => ?_) hd⟩
  have e0 : lo + (((n - lo).toNat : Nat) : Int) - 1 + ((i : Nat) : Int) * (-1) = n - 1 - (i : Int) := by omega
  show tu { De with nx := Pv (i + 1), ct := Pv (i + 1), bk := tz De } (σ'.set j (some (.int (lo + (((n - lo).toNat : Nat) : Int) - 1 + ((i : Nat) : Int) * (-1))))) H'
  rw [e0]
  exact hs i σ' H' (by omega) p
/-- for j in a text -/
def sg (c : Nat) : Str := ⟨#[c]⟩
theorem s_forS {j : Nat} {w : Str} (o : Own H0 H L) [IsK K] (h : EvD K te σ H (ds w)) (Pv : List Nat → L2.St → Hp → Prop) (h0 : ∀ H1, Own H0 H1 L → Pv [] σ H1)
    (hs : ∀ pre c post σ' H', w.cps.toList = pre ++ c :: post → Pv pre σ' H' → tu { De with nx := Pv (pre ++ [c]), ct := Pv (pre ++ [c]), bk := De.nx } (σ'.set j (some (.str (sg c)))) H') (hd : ∀ σ' H', Pv w.cps.toList σ' H' → De.nx σ' H') :
    tFor (iStr te) (gName j) tu De σ H := h H (Ex.refl H) _ fun v H1 e d => by
  refine ⟨w, Dat.v_iff.mp d, for_it (walk_str (z := w)) (fun i σ' H' => i ≤ w.cps.toList.length ∧ Pv (w.cps.toList.take i) σ' H') ⟨Nat.zero_le _, h0 H1 (o.grow e)⟩ (fun _ _ _ _ _ => trivial) (fun i x σ' H' H'' hi h hy => ?_) (fun σ' H' h => hd σ' H' (by
      have e := h.2
      rw [show w.cps.size = w.cps.toList.length by simp, List.take_length] at e
      exact e))⟩
  obtain ⟨rfl, c, hc, rfl⟩ := hy
  have hi' : i < w.cps.toList.length := by simpa using hi
  have hc' : w.cps.toList[i] = c := by
    have e1 : w.cps.toList[i]? = some c := by simpa using hc
    rw [List.getElem?_eq_getElem hi'] at e1
    exact Option.some.inj e1
  have g := hs (w.cps.toList.take i) w.cps.toList[i] (w.cps.toList.drop (i + 1)) σ' H'' (split_at hi') h.2
  rw [hc'] at g
  have e : (fun σ' H' => i + 1 ≤ w.cps.toList.length ∧ Pv (w.cps.toList.take (i + 1)) σ' H') = Pv (w.cps.toList.take i ++ [c]) := by
    funext s h
    rw [take_snoc hi', hc']
    exact propext ⟨fun q => q.2, fun q => ⟨hi', q⟩⟩
  rw [e]
  exact g
theorem q_forS {j : Nat} {w : Str} (o : Own H0 H L) [IsK K] (h : EvD K te σ H (ds w)) (Pv : List Nat → L2.St → Hp → Prop) (h0 : ∀ H1, Own H0 H1 L → Pv [] σ H1)
    (hs : ∀ pre c post σ' H', w.cps.toList = pre ++ c :: post → Pv pre σ' H' → tu { De with nx := Pv (pre ++ [c]), ct := Pv (pre ++ [c]), bk := tz De } (σ'.set j (some (.str (sg c)))) H') (hd : ∀ σ' H', Pv w.cps.toList σ' H' → tz De σ' H') :
    tSeq (tFor (iStr te) (gName j) tu) tz De σ H := s_forS (De := { De with nx := tz De }) o h Pv h0 hs hd
end
end Tx
namespace Tx
open PySem PySem.Spec PyProof.Rows L2 Evl

section
variable {K : PySem.W.Frag} {H H' H0 H1 H2 : Hp}
mutual
theorem DatN.mono' (e0 : ∀ p, H0 p = none → H2 p = none) (e : Ex H H1) : ∀ {d : D} {y : V}, DatN H0 H d y → DatN H2 H1 d y
  | .v _, _, h => DatN.v_iff.mpr (DatN.v_iff.mp h)
  | .l xs, _, h => by
    obtain ⟨p, ys, r, n, s, q⟩ := DatN.l_iff.mp h
    exact DatN.l_iff.mpr ⟨p, ys, r, e0 p n, e p _ s, DatsN.mono' e0 e q⟩
  | .t xs, _, h => by
    obtain ⟨p, ys, r, n, s, q⟩ := DatN.t_iff.mp h
    exact DatN.t_iff.mpr ⟨p, ys, r, e0 p n, e p _ s, DatsN.mono' e0 e q⟩
theorem DatsN.mono' (e0 : ∀ p, H0 p = none → H2 p = none) (e : Ex H H1) : ∀ {d : List D} {y : List V}, DatsN H0 H d y → DatsN H2 H1 d y
  | [], _, h => DatsN.nil_iff.mpr (DatsN.nil_iff.mp h)
  | d :: r, _, h => by
    obtain ⟨y, s, e1, a, b⟩ := DatsN.cons_iff.mp h
    exact DatsN.cons_iff.mpr ⟨y, s, e1, DatN.mono' e0 e a, DatsN.mono' e0 e b⟩
end
mutual
/-- a store to what is not among it -/
theorem DatN.upd {q : Addr} {o : HO} (hq : H0 q ≠ none) : ∀ {d : D} {y : V}, DatN H0 H d y → DatN H0 (L2.upd H q o) d y
  | .v _, _, h => DatN.v_iff.mpr (DatN.v_iff.mp h)
  | .l xs, _, h => by
    obtain ⟨p, ys, r, n, s, w⟩ := DatN.l_iff.mp h
    exact DatN.l_iff.mpr ⟨p, ys, r, n, by rw [upd_ne (fun z => hq (by rw [← z]; exact n))]; exact s, DatsN.upd hq w⟩
  | .t xs, _, h => by
    obtain ⟨p, ys, r, n, s, w⟩ := DatN.t_iff.mp h
    exact DatN.t_iff.mpr ⟨p, ys, r, n, by rw [upd_ne (fun z => hq (by rw [← z]; exact n))]; exact s, DatsN.upd hq w⟩
theorem DatsN.upd {q : Addr} {o : HO} (hq : H0 q ≠ none) : ∀ {d : List D} {y : List V}, DatsN H0 H d y → DatsN H0 (L2.upd H q o) d y
  | [], _, h => DatsN.nil_iff.mpr (DatsN.nil_iff.mp h)
  | d :: r, _, h => by
    obtain ⟨y, s, e1, a, b⟩ := DatsN.cons_iff.mp h
    exact DatsN.cons_iff.mpr ⟨y, s, e1, DatN.upd hq a, DatsN.upd hq b⟩
end
theorem DatsN.app : ∀ {a b : List D} {x y : List V}, DatsN H0 H a x → DatsN H0 H b y → DatsN H0 H (a ++ b) (x ++ y)
  | [], _, _, _, h, q => by
    rw [DatsN.nil_iff.mp h]
    exact q
  | d :: r, _, _, _, h, q => by
    obtain ⟨y, s, rfl, a, b⟩ := DatsN.cons_iff.mp h
    exact DatsN.cons a (DatsN.app b q)
end

section
variable {K : PySem.W.Frag} {σ : L2.St} {H H' H0 : Hp} {L L' : List (Addr × HO)} {ta tb te tx tl : TE} {tas : TA} {t u : TT} {x y z w : D} {xs ys : List D} {r : R2} {De : Ends} {tu tw tz : TS} {p q : Addr}

/-! ### comprehensions -/
theorem et_yes : EvT tYes σ H true := fun H1 _ _ q => q H1 (Ex.refl H1)
theorem lc_any {α : Type} {ns : List α} {f : α → V} {J : It} {G : Hp → Prop} {Y : Nat → Hp → V → Hp → Prop} (wk : Walk J ns.length G Y) (hY : ∀ i H x H', Y i H x H' → H' = H ∧ ∃ a, ns[i]? = some a ∧ x = f a) {j : Nat} {vs : List Nat} (b : α → Bool) (e : α → D)
    (hz : ns.length ≤ 40000) (hw : ∀ x, wipe ((wipe σ vs).set j (some x)) vs = wipe σ vs) {H1 : Hp} (hG : ∀ H', Ex H1 H' → G H')
    (ht : ∀ a ∈ ns, ∀ H2, Ex H1 H2 → EvT t ((wipe σ vs).set j (some (f a))) H2 (b a)) (he : ∀ a ∈ ns, ∀ H2, Ex H1 H2 → b a = true → EvN te ((wipe σ vs).set j (some (f a))) H2 (e a))
    {Q : VK} (q : ∀ v H2, Ex H1 H2 → DatN H1 H2 (.l ((ns.filter b).map e)) v → Q v H2) {Dl : Addr} (hD : H1 Dl = none) :
    ∃ W : Nat → Nat → Hp → Prop, (∃ m, W 0 m (upd H1 Dl (.lst []))) ∧ ∀ i m H, W i m H →
      (J.stop i H ∧ Q (.ref Dl) H) ∨ (J.go i H ∧ ∃ Nx : Hp → Prop, (∀ H', Nx H' → ∃ m', m' < m ∧ W (i + 1) m' H') ∧ ∀ x H', J.yld i H x H' → gName j x (wipe σ vs) H' fun σ2 H2 => wipe σ2 vs = wipe σ vs ∧ t σ2 H2 fun b H3 =>
        if b = true then te σ2 H3 fun y H4 => ∃ acc, H4 Dl = some (.lst acc) ∧ acc.length < sizeLine ∧ Nx (upd H4 Dl (.lst (acc ++ [y]))) else Nx H3) := by
  have hDn : (upd H1 Dl (.lst [])) Dl ≠ none := by rw [upd_same]; exact fun z => nomatch z
  refine lc_it wk (fun i H' => i ≤ ns.length ∧ Ex H1 H' ∧ (∃ ys, H' Dl = some (.lst ys) ∧ ys.length ≤ i ∧ DatsN (upd H1 Dl (.lst [])) H' (((ns.take i).filter b).map e) ys) ∧ ∀ p, H' p = none → (upd H1 Dl (.lst [])) p = none) ?_ ?_ ?_ ?_
  · exact ⟨Nat.zero_le _, Ex.new hD, ⟨[], upd_same, Nat.le_refl _, DatsN.nil⟩, fun _ h => h⟩
  · exact fun i H' _ h => hG H' h.2.1
  · intro i x Ha Hb hi ⟨_, hex, ⟨ys, hys, hlen, hdat⟩, hback⟩ hy
    obtain ⟨rfl, a, ha, rfl⟩ := hY _ _ _ _ hy
    obtain ⟨hi', ea⟩ := List.getElem?_eq_some_iff.mp ha
    have hmem : a ∈ ns := by rw [← ea]; exact List.getElem_mem hi'
    refine ⟨hw _, ?_⟩
    refine ht a hmem Hb hex Hb (Ex.refl _) _ fun H3 e3 => ?_
    have back3 : ∀ p, H3 p = none → (upd H1 Dl (.lst [])) p = none := fun p hp => hback p (fresh_back e3 hp)
    cases hb : b a with
    | true =>
      show te _ H3 _
      refine he a hmem H3 (hex.trans e3) hb H3 (Ex.refl _) _ fun y H4 e4 dn => ?_
      have hD4 : H4 Dl = some (.lst ys) := e4 _ _ (e3 _ _ hys)
      refine ⟨ys, hD4, sz_lt (by omega), hi', Ex.mut ((hex.trans e3).trans e4) hD, ⟨ys ++ [y], upd_same, by simp; omega, ?_⟩, fun p hp => ?_⟩
      · have e1 : ((ns.take (i + 1)).filter b).map e = ((ns.take i).filter b).map e ++ [e a] := by
          rw [take_snoc hi', ea, List.filter_append, List.map_append]
          simp [hb]
        rw [e1]
        refine DatsN.app ?_ (DatsN.cons ?_ DatsN.nil)
        · exact DatsN.upd hDn (hdat.mono' (fun _ h => h) (e3.trans e4))
        · exact DatN.upd hDn (dn.mono' back3 (Ex.refl _))
      · by_cases hpD : p = Dl
        · subst hpD
          rw [upd_same] at hp
          cases hp
        · rw [upd_ne hpD] at hp
          exact back3 p (fresh_back e4 hp)
    | false =>
      show _ ∧ _
      have e1 : ((ns.take (i + 1)).filter b).map e = ((ns.take i).filter b).map e := by
        rw [take_snoc hi', ea, List.filter_append, List.map_append]
        simp [hb]
      rw [e1]
      exact ⟨hi', hex.trans e3, ⟨ys, e3 _ _ hys, by omega, hdat.mono' (fun _ h => h) e3⟩, back3⟩
  · intro H' ⟨_, hex, ⟨ys, hys, _, hdat⟩, _⟩
    rw [List.take_length] at hdat
    have back1 : ∀ p, (upd H1 Dl (.lst [])) p = none → H1 p = none := fun p hp => by
      by_cases hpD : p = Dl
      · subst hpD
        exact hD
      · rw [upd_ne hpD] at hp
        exact hp
    exact q _ H' hex (DatN.l_iff.mpr ⟨Dl, ys, rfl, hD, hys, hdat.mono' back1 (Ex.refl _)⟩)
/-- [e for a in xs if b], xs a flat list that stands or is made on the way -/
theorem en_lcL {α : Type} {ns : List α} {f : α → V} {j : Nat} {vs : List Nat} (b : α → Bool) (e : α → D) (h : EvD K tl σ H (.l (ns.map fun a => .v (f a)))) (hz : ns.length ≤ 40000) (hw : ∀ x, wipe ((wipe σ vs).set j (some x)) vs = wipe σ vs)
    (ht : ∀ a ∈ ns, ∀ H2, Ex H H2 → EvT t ((wipe σ vs).set j (some (f a))) H2 (b a)) (he : ∀ a ∈ ns, ∀ H2, Ex H H2 → b a = true → EvN te ((wipe σ vs).set j (some (f a))) H2 (e a)) :
    EvN (tLc (iList K tl) (gName j) t te vs) σ H (.l ((ns.filter b).map e)) := fun H0 e0 Q q => h H0 e0 _ fun v H1 e1 d => by
  obtain ⟨p, ys, rfl, s, dd⟩ := Dat.l_iff.mp d
  have ey := Dats.map_eq dd
  subst ey
  refine ⟨p, rfl, ⟨_, s⟩, fun Dl hD => ?_⟩
  have hlen : (ns.map f).length = ns.length := List.length_map ..
  exact lc_any (hlen ▸ walk_list) (fun i H x H' hy => ⟨hy.1, by
    have h2 := hy.2
    rw [List.getElem?_map] at h2
    cases hn : ns[i]? with
    | none => rw [hn] at h2; cases h2
    | some a =>
      rw [hn] at h2
      exact ⟨a, rfl, (Option.some.inj h2).symm⟩⟩) b e hz hw (fun H' e' => ex_l e' s) (fun a ha H2 e2 => ht a ha H2 ((e0.trans e1).trans e2)) (fun a ha H2 e2 hb => he a ha H2 ((e0.trans e1).trans e2) hb) (fun v H2 e2 dn => q v H2 (e1.trans e2) (dn.mono e1 (Ex.refl _))) hD
theorem en_lcL1 {α : Type} {ns : List α} {f : α → V} {j : Nat} {vs : List Nat} (e : α → D) (h : EvD K tl σ H (.l (ns.map fun a => .v (f a)))) (hz : ns.length ≤ 40000) (hw : ∀ x, wipe ((wipe σ vs).set j (some x)) vs = wipe σ vs)
    (he : ∀ a ∈ ns, ∀ H2, Ex H H2 → EvN te ((wipe σ vs).set j (some (f a))) H2 (e a)) : EvN (tLc (iList K tl) (gName j) tYes te vs) σ H (.l (ns.map e)) := by
  have g := en_lcL (t := tYes) (fun _ => true) e h hz hw (fun _ _ _ _ => et_yes) (fun a ha H2 e2 _ => he a ha H2 e2)
  rw [List.filter_eq_self.mpr (fun _ _ => rfl)] at g
  exact g
/-- .. over range(n) -/
theorem en_lcR {j : Nat} {vs : List Nat} {n : Int} (b : Nat → Bool) (e : Nat → D) [IsK K] (h : EvDs K tas σ H [di n]) (hn : n ≤ 40000 ∧ -100000 ≤ n) (hw : ∀ x, wipe ((wipe σ vs).set j (some x)) vs = wipe σ vs)
    (ht : ∀ a : Nat, (a : Int) < n → ∀ H2, Ex H H2 → EvT t ((wipe σ vs).set j (some (.int (a : Int)))) H2 (b a)) (he : ∀ a : Nat, (a : Int) < n → ∀ H2, Ex H H2 → b a = true → EvN te ((wipe σ vs).set j (some (.int (a : Int)))) H2 (e a)) :
    EvN (tLc (iRng1 tas) (gName j) t te vs) σ H (.l (((List.range n.toNat).filter b).map e)) := fun H0 e0 Q q => h H0 e0 _ fun v H1 e1 d => by
  obtain ⟨v, rfl, a⟩ := d.n1
  have a' := Dat.v_iff.mp a
  subst a'
  refine ⟨n, rfl, by omega, by omega, fun Dl hD => ?_⟩
  have hlen : (List.range n.toNat).length = n.toNat := List.length_range ..
  have hm : ∀ a : Nat, a ∈ List.range n.toNat → (a : Int) < n := fun a ha => by
    have := List.mem_range.mp ha
    omega
  have wk : Walk (Itr 0 n.toNat) (List.range n.toNat).length (fun _ => True) (fun i H x H' => H' = H ∧ i < n.toNat ∧ x = V.int (i : Int)) := by
    rw [hlen]
    refine (walk_range (lo := 0) (n := n.toNat)).mono (fun _ _ => trivial) fun i H x H' hi _ y => ⟨y.1, hi, ?_⟩
    have y2 : x = V.int (0 + (i : Int)) := y.2
    rw [Int.zero_add] at y2
    exact y2
  exact lc_any (ns := List.range n.toNat) (f := fun a => V.int (a : Int)) wk (fun i H x H' hy => ⟨hy.1, i, by rw [List.getElem?_range hy.2.1], hy.2.2⟩) b e (by rw [hlen]; omega) hw (fun _ _ => trivial)
    (fun a ha H2 e2 => ht a (hm a ha) H2 ((e0.trans e1).trans e2)) (fun a ha H2 e2 hb => he a (hm a ha) H2 ((e0.trans e1).trans e2) hb) (fun v H2 e2 dn => q v H2 (e1.trans e2) (dn.mono e1 (Ex.refl _))) hD
theorem en_lcR1 {j : Nat} {vs : List Nat} {n : Int} (e : Nat → D) [IsK K] (h : EvDs K tas σ H [di n]) (hn : n ≤ 40000 ∧ -100000 ≤ n) (hw : ∀ x, wipe ((wipe σ vs).set j (some x)) vs = wipe σ vs)
    (he : ∀ a : Nat, (a : Int) < n → ∀ H2, Ex H H2 → EvN te ((wipe σ vs).set j (some (.int (a : Int)))) H2 (e a)) :
    EvN (tLc (iRng1 tas) (gName j) tYes te vs) σ H (.l ((List.range n.toNat).map e)) := by
  have g := en_lcR (t := tYes) (fun _ => true) e h hn hw (fun _ _ _ _ => et_yes) (fun a ha H2 e2 _ => he a ha H2 e2)
  rw [List.filter_eq_self.mpr (fun _ _ => rfl)] at g
  exact g
/-- .. over a text -/
theorem en_lcS {j : Nat} {vs : List Nat} {w : Str} (b : Nat → Bool) (e : Nat → D) [IsK K] (h : EvD K tl σ H (ds w)) (hz : w.cps.toList.length ≤ 40000) (hw : ∀ x, wipe ((wipe σ vs).set j (some x)) vs = wipe σ vs)
    (ht : ∀ a ∈ w.cps.toList, ∀ H2, Ex H H2 → EvT t ((wipe σ vs).set j (some (.str (sg a)))) H2 (b a)) (he : ∀ a ∈ w.cps.toList, ∀ H2, Ex H H2 → b a = true → EvN te ((wipe σ vs).set j (some (.str (sg a)))) H2 (e a)) :
    EvN (tLc (iStr tl) (gName j) t te vs) σ H (.l ((w.cps.toList.filter b).map e)) := fun H0 e0 Q q => h H0 e0 _ fun v H1 e1 d => by
  refine ⟨w, Dat.v_iff.mp d, fun Dl hD => ?_⟩
  have hlen : w.cps.size = w.cps.toList.length := by simp
  exact lc_any (ns := w.cps.toList) (f := fun a => .str (sg a)) (G := fun _ => True) (hlen ▸ walk_str) (fun i H x H' hy => ⟨hy.1, by
    obtain ⟨c, h1, h2⟩ := hy.2
    exact ⟨c, by simpa using h1, h2⟩⟩) b e hz hw (fun _ _ => trivial)
    (fun a ha H2 e2 => ht a ha H2 ((e0.trans e1).trans e2)) (fun a ha H2 e2 hb => he a ha H2 ((e0.trans e1).trans e2) hb) (fun v H2 e2 dn => q v H2 (e1.trans e2) (dn.mono e1 (Ex.refl _))) hD
theorem en_lcS1 {j : Nat} {vs : List Nat} {w : Str} (e : Nat → D) [IsK K] (h : EvD K tl σ H (ds w)) (hz : w.cps.toList.length ≤ 40000) (hw : ∀ x, wipe ((wipe σ vs).set j (some x)) vs = wipe σ vs)
    (he : ∀ a ∈ w.cps.toList, ∀ H2, Ex H H2 → EvN te ((wipe σ vs).set j (some (.str (sg a)))) H2 (e a)) :
    EvN (tLc (iStr tl) (gName j) tYes te vs) σ H (.l (w.cps.toList.map e)) := by
  have g := en_lcS (t := tYes) (fun _ => true) e h hz hw (fun _ _ _ _ => et_yes) (fun a ha H2 e2 _ => he a ha H2 e2)
  rw [List.filter_eq_self.mpr (fun _ _ => rfl)] at g
  exact g

/-! ### loops over pairs -/
theorem for_pair {J : It} {n : Nat} {G : Hp → Prop} {fa fb : Nat → Option V} (wk : Walk J n G (YPair fa fb)) {i j : Nat} (Pv : Nat → L2.St → Hp → Prop) (h0 : Pv 0 σ H) (hG : ∀ m σ' H', m ≤ n → Pv m σ' H' → G H')
    (hs : ∀ m a b σ' H' H'', m < n → fa m = some a → fb m = some b → Pv m σ' H' → Ex H' H'' → tu { De with nx := Pv (m + 1), ct := Pv (m + 1), bk := De.nx } ((σ'.set i (some a)).set j (some b)) H'') (hd : ∀ σ' H', Pv n σ' H' → De.nx σ' H') :
    ∃ W : Nat → Nat → L2.St → Hp → Prop, (∃ m, W 0 m σ H) ∧ ∀ m k σ H, W m k σ H →
      (J.stop m H ∧ De.nx σ H) ∨ (J.go m H ∧ ∃ N : L2.St → Hp → Prop, (∀ σ' H', N σ' H' → ∃ m', m' < k ∧ W (m + 1) m' σ' H') ∧ ∀ x H', J.yld m H x H' → gTup K 2 (gCons (gName i) (gCons (gName j) gNil)) x σ H' fun σ2 H2 => tu { De with nx := N, ct := N, bk := De.nx } σ2 H2) :=
  for_it wk Pv h0 hG (fun m v σ' H' H'' hm h hy => by
    obtain ⟨T, a, b, rfl, hT, rfl, ha, hb⟩ := hy
    exact ⟨T, [a, b], rfl, st_of upd_same, rfl, a, [b], rfl, b, [], rfl, rfl, hs m a b σ' H' _ hm ha hb h (Ex.new hT)⟩) hd
/-- for i, j in enumerate(a new flat list) -/
theorem q_forEN {α : Type} {f : α → V} {ns : List α} {i j : Nat} (o : Own H0 H L) (h : EvN te σ H (.l (ns.map fun a => .v (f a)))) (Pv : Addr → Nat → L2.St → Hp → Prop) (h0 : ∀ p H1, Own H0 H1 ((p, .lst (ns.map f)) :: L) → Pv p 0 σ H1) (hl : ∀ p m σ' H', Pv p m σ' H' → SqL K H' p (ns.map f))
    (hs : ∀ p m a σ' H' H'', ns[m]? = some a → Pv p m σ' H' → Ex H' H'' → tu { De with nx := Pv p (m + 1), ct := Pv p (m + 1), bk := tz De } ((σ'.set i (some (.int (m : Nat)))).set j (some (f a))) H'') (hd : ∀ p σ' H', Pv p ns.length σ' H' → tz De σ' H') :
    tSeq (tFor (iEnum K (tCons te tNil)) (gTup K 2 (gCons (gName i) (gCons (gName j) gNil))) tu) tz De σ H := h H (Ex.refl H) _ fun v H1 e d => by
  obtain ⟨p, ys, rfl, n, hp, dd⟩ := DatN.l_iff.mp d
  have ey := DatsN.map_eq dd
  subst ey
  refine ⟨p, _, rfl, sq_of hp, for_pair (De := { De with nx := tz De }) walk_enum (Pv p) (h0 p H1 (o.new n e hp)) (fun m σ' H' _ h => hl p m σ' H' h) (fun m a b σ' H' H'' hm ha hb h e' => ?_) (fun σ' H' h => hd p σ' H' (by
    rw [List.length_map] at h
    exact h))⟩
  rw [List.getElem?_map] at hb
  cases hn : ns[m]? with
  | none => rw [hn] at hb; cases hb
  | some c =>
    rw [hn] at hb
    have e1 : f c = b := Option.some.inj hb
    have e2 : V.int (m : Nat) = a := Option.some.inj ha
    subst e1 e2
    exact hs p m c σ' H' H'' hn h e'
/-- for i, j in zip(two names' flat lists) -/
theorem s_forZ {α β : Type} {f : α → V} {g : β → V} {ns : List α} {ms : List β} {a b i j : Nat} (hl : ns.length = ms.length) (ha : σ[a]? = some (some (.ref p))) (hb : σ[b]? = some (some (.ref q))) (hp : SqL K H p (ns.map f)) (hq : SqL K H q (ms.map g)) (Pv : Nat → L2.St → Hp → Prop) (h0 : Pv 0 σ H)
    (hG : ∀ m σ' H', Pv m σ' H' → SqL K H' p (ns.map f) ∧ SqL K H' q (ms.map g))
    (hs : ∀ m x y σ' H' H'', ns[m]? = some x → ms[m]? = some y → Pv m σ' H' → Ex H' H'' → tu { De with nx := Pv (m + 1), ct := Pv (m + 1), bk := De.nx } ((σ'.set i (some (f x))).set j (some (g y))) H'') (hd : ∀ σ' H', Pv ns.length σ' H' → De.nx σ' H') :
    tFor (iZip K (tCons (tVar a) (tCons (tVar b) tNil))) (gTup K 2 (gCons (gName i) (gCons (gName j) gNil))) tu De σ H :=
  ⟨.ref p, ha, .ref q, hb, p, q, _, _, rfl, hp, hq, for_pair (walk_zip (n := ns.length) (by rw [List.length_map, List.length_map, hl, Nat.min_self])) Pv h0 (fun m σ' H' _ h => hG m σ' H' h) (fun m x y σ' H' H'' hm hx hy h e' => by
    rw [List.getElem?_map] at hx hy
    cases hn : ns[m]? with
    | none => rw [hn] at hx; cases hx
    | some c =>
      cases hm : ms[m]? with
      | none => rw [hm] at hy; cases hy
      | some d =>
        rw [hn] at hx
        rw [hm] at hy
        have e1 : f c = x := Option.some.inj hx
        have e2 : g d = y := Option.some.inj hy
        subst e1 e2
        exact hs m c d σ' H' H'' hn hm h e') hd⟩
/-- zip(a name's list, a new one) -/
theorem q_forZN {α β : Type} {f : α → V} {g : β → V} {ns : List α} {ms : List β} {a i j : Nat} (o : Own H0 H L) (hl : ns.length = ms.length) (ha : σ[a]? = some (some (.ref p))) (hp : SqL K H p (ns.map f)) (h : EvN te σ H (.l (ms.map fun a => .v (g a)))) (Pv : Addr → Nat → L2.St → Hp → Prop)
    (h0 : ∀ q H1, Own H0 H1 ((q, .lst (ms.map g)) :: L) → Pv q 0 σ H1) (hG : ∀ q m σ' H', Pv q m σ' H' → SqL K H' p (ns.map f) ∧ SqL K H' q (ms.map g))
    (hs : ∀ q m x y σ' H' H'', ns[m]? = some x → ms[m]? = some y → Pv q m σ' H' → Ex H' H'' → tu { De with nx := Pv q (m + 1), ct := Pv q (m + 1), bk := tz De } ((σ'.set i (some (f x))).set j (some (g y))) H'') (hd : ∀ q σ' H', Pv q ns.length σ' H' → tz De σ' H') :
    tSeq (tFor (iZip K (tCons (tVar a) (tCons te tNil))) (gTup K 2 (gCons (gName i) (gCons (gName j) gNil))) tu) tz De σ H :=
  ⟨.ref p, ha, h H (Ex.refl H) _ fun v H1 e d => by
    obtain ⟨q, ys, rfl, n, hq, dd⟩ := DatN.l_iff.mp d
    have ey := DatsN.map_eq dd
    subst ey
    exact ⟨p, q, _, _, rfl, ex_l e hp, sq_of hq, for_pair (De := { De with nx := tz De }) (walk_zip (n := ns.length) (by rw [List.length_map, List.length_map, hl, Nat.min_self])) (Pv q) (h0 q H1 (o.new n e hq)) (fun m σ' H' _ h => hG q m σ' H' h) (fun m x y σ' H' H'' hm hx hy h e' => by
      rw [List.getElem?_map] at hx hy
      cases hn : ns[m]? with
      | none => rw [hn] at hx; cases hx
      | some c =>
        cases hm : ms[m]? with
        | none => rw [hm] at hy; cases hy
        | some d =>
          rw [hn] at hx
          rw [hm] at hy
          have e1 : f c = x := Option.some.inj hx
          have e2 : g d = y := Option.some.inj hy
          subst e1 e2
          exact hs q m c d σ' H' H'' hn hm h e') (hd q)⟩⟩
end
end Tx
namespace Tx
open PySem PySem.Spec PyProof.Rows L2 Evl

/-! ### list(reversed(a list)) -/
section
variable {prog : Program} {w : World} {A : Around} {E : Value → Shared → Prop} {s : Shared}
theorem extend_rev {R : Result → Shared → Prop} {it l S : Addr} {items : Array Value} {c0 : Nat} (res : Value) (hh : A.handled = none) (hit : s.heap.IsRevIter it l ((items.size : Int) - 1)) (hl : s.heap.IsList l items) (hne : l ≠ it) (hn : items.size ≤ sizeLine)
    (hS : s.heap.get? S = some { cls := .type "list", data := .seq #[] c0 }) (hSl : S ≠ l) (hSi : S ≠ it)
    (hR : ∀ (h' : Heap) (tk : Nat) (acc : Array Value) (c' : Nat), (∀ b o, b ≠ S → b ≠ it → s.heap.get? b = some o → h'.get? b = some o) → h'.get? S = some { cls := .type "list", dict := none, data := .seq acc c', slots := #[] } →
      ItemsOf (fun i v => items[items.size - 1 - i]? = some v) acc items.size → R (.ok (.ret res)) { s with heap := h', toks := tk }) :
    wpAny (model prog w) A.in1 (Builtin.List.listExtendWith (.ref S) (.ref it) res)
      (fun fin s' => match fin with | .done f => R (.ok f) s' | .again c' => c'.quiet = true ∧ codeAny (model prog w) A c' R s') (fun e s' => R (.error e) s') s := by
  have W := (Walks.listRev (prog := prog) (w := w) (A := A.in1) hh it l hne items).toS
  have hSf : S ∉ [it, l] := by simp only [List.mem_cons, List.not_mem_nil, or_false, not_or]; exact ⟨hSi, hSl⟩
  have hT : s.TypeIs (.ref it) "list_reverseiterator" := hit.typeIs
  have h1 : Builtin.List.listSameRef (.ref S) (.ref it) = false := by simp [Builtin.List.listSameRef, hSi]
  unfold Builtin.List.listExtendWith
  refine wpAny_bind (wpAny_typeOf hT ?_)
  rw [if_neg (by rw [h1]; decide)]
  refine wpAny_bind (wpAny_pyIter_revIter hit ?_)
  refine wpAny_bind (wpAny_holding ?_)
  unfold Builtin.List.listLengthHint
  refine wpAny_bind (wpAny_specialOf hT RT.nolen_lri ?_)
  show wpAny _ A.in1 (specialOf (Value.ref it) (Str.ofString "__length_hint__") >>= _) _ _ _
  refine wpAny_bind (wpAny_specialOf hT RT.hint_lri ?_)
  generalize hid : ("list_reverseiterator.__length_hint__" : String) = id0
  wp_delta
  rw [show splitId id0 = some ("list_reverseiterator", "__length_hint__") from by subst hid; decide +kernel]
  subst hid
  refine wpAny_bind (wpAny_isInstance (b := true) hT (by rw [isSubtype_type]; kernel_rfl) ?_)
  refine wpAny_pure ?_
  rw [if_neg (by decide)]
  have e0 : ((items.size : Nat) : Int) - 1 - ((0 : Nat) : Int) = (items.size : Int) - 1 := by omega
  refine wpAny_pure ⟨plainId_quiet F.plain_extend_loop _, codeAny_extend_loopS W hn _ hSf _ items.size 0 _ _ _ rfl (Nat.zero_le _) ⟨Nat.zero_le _, by rw [e0]; exact hit, hl⟩ hS (ItemsOf.nil _) fun s' acc' c' hm hS' hacc => ?_⟩
  rw [Moved.eq_with hm]
  refine hR s'.heap s'.toks acc' c' (fun b o hb hi e => hm.heap b o (fun hmem => ?_) e) hS' hacc
  rcases List.mem_cons.mp hmem with e' | hmem
  · exact hb e'
  · exact hi (List.mem_singleton.mp hmem)
theorem list_init_rev {R : Result → Shared → Prop} {it l S : Addr} {items : Array Value} (hh : A.handled = none) (hit : s.heap.IsRevIter it l ((items.size : Int) - 1)) (hl : s.heap.IsList l items) (hne : l ≠ it) (hn : items.size ≤ sizeLine)
    (hS : s.heap.get? S = some { cls := .type "list", data := .seq #[] }) (hSl : S ≠ l) (hSi : S ≠ it)
    (hR : ∀ (h' : Heap) (tk : Nat) (acc : Array Value) (c' : Nat), (∀ b o, b ≠ S → b ≠ it → s.heap.get? b = some o → h'.get? b = some o) → h'.get? S = some { cls := .type "list", dict := none, data := .seq acc c', slots := #[] } →
      ItemsOf (fun i v => items[items.size - 1 - i]? = some v) acc items.size → R (.ok (.ret .none)) { s with heap := h', toks := tk }) :
    wpAny (model prog w) A.in1 (Builtin.«list.__init__» ⟨[.ref S, .ref it], []⟩)
      (fun fin s' => match fin with | .done f => R (.ok f) s' | .again c' => c'.quiet = true ∧ codeAny (model prog w) A c' R s') (fun e s' => R (.error e) s') s := by
  show wpAny _ _ (do let old ← Builtin.List.listItems (.ref S); Builtin.List.listUpdate (.ref S) (fun _ => #[]); letGo old.toList.reverse; Builtin.List.listExtendWith (.ref S) (.ref it) .none) _ _ s
  refine wpAny_bind ?_
  unfold Builtin.List.listItems
  refine wpAny_bind (wpAny_seqItems hS rfl (wpAny_pure ?_))
  show wpAny _ _ (updateSeq S (fun _ => #[]) >>= fun _ => letGo (#[] : Array Value).toList.reverse >>= fun _ => Builtin.List.listExtendWith (.ref S) (.ref it) .none) _ _ s
  refine wpAny_bind (wpAny_updateSeq hS rfl ?_)
  have hS2 := Heap.get?_update_self (Obj.mapSeq (fun _ => (#[] : Array Value))) hS rfl
  have oth : ∀ b o, b ≠ S → s.heap.get? b = some o → (s.heap.update S (Obj.mapSeq (fun _ => (#[] : Array Value)))).get? b = some o :=
    fun b o hb e => (Heap.get?_update_other _ _ (Ne.symm hb)).trans e
  refine wpAny_bind (wpAny_letGo ?_)
  refine extend_rev (s := { s with heap := s.heap.update S (Obj.mapSeq (fun _ => (#[] : Array Value))) }) .none hh (hit.at fun o e => oth it o (Ne.symm hSi) e) (hl.at fun o e => oth l o (Ne.symm hSl) e) hne hn hS2 hSl hSi fun h' tk acc' c' hk hS' hacc => ?_
  exact hR h' tk acc' c' (fun b o hb hi e => hk b o hb hi (oth b o hb e)) hS' hacc
theorem call_list_rev {it l : Addr} {items : Array Value} {Q : Value → Shared → Prop} (hh : A.handled = none) (hit : s.heap.IsRevIter it l ((items.size : Int) - 1)) (hl : s.heap.IsList l items) (hne : l ≠ it) (hn : items.size ≤ sizeLine)
    (hQ : ∀ (h' : Heap) (tk : Nat) (acc : Array Value) (c' : Nat), (∀ b o, b ≠ it → s.heap.get? b = some o → h'.get? b = some o) → h'.get? s.heap.objs.size = some { cls := .type "list", dict := none, data := .seq acc c', slots := #[] } →
      ItemsOf (fun i v => items[items.size - 1 - i]? = some v) acc items.size → Q (.ref s.heap.objs.size) { s with heap := h', toks := tk }) :
    wpAny (model prog w) A (call (.type "list") [.ref it]) Q E s := by
  refine callType_codes (Q₁ := fun obj s₁ => obj = .ref s.heap.objs.size ∧ s₁ = { s with heap := s.heap.push { cls := .type "list", data := .seq #[] } }) F.called_list (F.typeCall_list_1 _) F.entry_list_init
    (code_list_new _ ⟨rfl, rfl⟩) fun obj s₁ h₁ => ?_
  obtain ⟨rfl, rfl⟩ := h₁
  obtain ⟨oi, hoi, _⟩ := id hit
  obtain ⟨ol, hol, _⟩ := id hl
  have hSi : s.heap.objs.size ≠ it := Nat.ne_of_gt (Heap.lt_size hoi)
  have hSl : s.heap.objs.size ≠ l := Nat.ne_of_gt (Heap.lt_size hol)
  have hS : (s.heap.push { cls := .type "list", data := .seq #[] }).get? s.heap.objs.size = some { cls := .type "list", data := .seq #[] } := Heap.get?_push_size _ rfl
  refine ⟨⟨_, hS, rfl⟩, F.args_list_init_2 _ _, list_init_rev (A := A.in1) (s := { s with heap := s.heap.push { cls := .type "list", data := .seq #[] } }) hh (hit.at fun o e => Heap.get?_push_of_some _ e) (hl.push _) hne hn hS hSl hSi fun h' tk acc' c' hk hS' hacc => ?_⟩
  exact ⟨rfl, hQ h' tk acc' c' (fun b o hb e => hk b o (Nat.ne_of_lt (Heap.lt_size e)) hb (Heap.get?_push_of_some _ e)) hS' hacc⟩
end
def tLstRev (K : PySem.W.Frag) (te : TE) : TE := fun σ H Q => te σ H fun v H1 => ∃ (a : Addr) (xs : List V), v = .ref a ∧ SqL K H1 a xs ∧ ∀ q, H1 q = none → Q (.ref q) (upd H1 q (.lst xs.reverse))
theorem pe_listRev {X : Cx} {e : Expr} {te : TE} {p p2 pos pos2 : Pos} (hc : X.calm = true) (hg : Gl X "list") (hm : X.mg "list" = none) (hg2 : Gl X "reversed") (hm2 : X.mg "reversed" = none) (he : PE X e te)
    (hs : starEach [e] X.env = (false, eval e X.env) :: starEach [] X.env := by rfl)
    (hs2 : starEach [.Call (.Name "reversed" p2) [e] [] pos2] X.env = (false, eval (.Call (.Name "reversed" p2) [e] [] pos2) X.env) :: starEach [] X.env := by rfl) :
    PE X (.Call (.Name "list" p) [.Call (.Name "reversed" p2) [e] [] pos2] [] pos) (tLstRev X.K te) := by
  refine ⟨fun pins s σ H Q I h => ?_⟩
  refine Call_ (ld_blt I hg hm boot_list (PyProof.Rows.callWith_type1 (args_cons (Call_ (ld_blt I hg2 hm2 PyProof.Rows.boot_reversed (PyProof.Rows.callWith_type1 (args_cons (thn (he.run pins s σ H _ I h) fun u s1 ⟨v, H1, I1, r1, q1⟩ => args_nil ?_) hs) hs rfl))) hs2) hs2 rfl))
  obtain ⟨a, xs, ev, hq, q⟩ := q1
  subst ev
  obtain rfl : u = Value.ref a := r1
  obtain ⟨its, rv, p', hz⟩ := I1.list hq
  refine call_reversed_list p'.isList (args_nil ?_)
  have k0 : ∀ b o, s1.heap.get? b = some o → (s1.heap.push (revObj a ((its.toArray.size : Int) - 1))).get? b = some o := fun b o e => Heap.get?_push_of_some _ e
  have I2 : Inv X pins σ H1 { s1 with heap := s1.heap.push (revObj a ((its.toArray.size : Int) - 1)) } := I1.kept (t' := s1.toks) k0
  obtain ⟨f0, f1, f2, f3, f4, f5⟩ := I1.fpOk (H' := H1) (b := s1.heap.objs.size) (Nat.le_refl _) (I1.hok.fresh (Nat.le_refl _))
  have hl := p'.isList
  obtain ⟨ol, hol, _⟩ := id hl
  have hne : a ≠ s1.heap.objs.size := Nat.ne_of_lt (Heap.lt_size hol)
  have hn : its.toArray.size ≤ sizeLine := by rw [List.size_toArray, ← rv.length]; exact hz
  refine call_list_rev (s := { s1 with heap := s1.heap.push (revObj a ((its.toArray.size : Int) - 1)) }) (I1.ok.hd hc) ⟨_, Heap.get?_push_size _ rfl, rfl, rfl⟩ (hl.push _) hne hn fun h' tk acc c' hk hS' hi => ?_
  have hlt : s1.heap.objs.size < (s1.heap.push (revObj a ((its.toArray.size : Int) - 1))).objs.size := by
    obtain ⟨o, e⟩ : ∃ o, (s1.heap.push (revObj a ((its.toArray.size : Int) - 1))).get? s1.heap.objs.size = some o := ⟨_, Heap.get?_push_size _ rfl⟩
    exact Heap.lt_size e
  have k1 : ∀ b o, s1.heap.get? b = some o → h'.get? b = some o := fun b o e => hk b o (Nat.ne_of_lt (Heap.lt_size e)) (k0 b o e)
  refine ⟨.ref (s1.heap.push (revObj a ((its.toArray.size : Int) - 1))).objs.size, upd H1 (s1.heap.push (revObj a ((its.toArray.size : Int) - 1))).objs.size (.lst xs.reverse), I1.laid (t' := tk) k1 (Nat.le_of_lt hlt) (show ObjOk X.prog X.w _ _ _ (.lst xs.reverse) from ⟨by rw [List.length_reverse]; exact hz, acc.toList, c', RT.vals_rev rv hi, ?_⟩), rfl, q _ (I2.hok.fresh (Nat.le_refl _))⟩
  rw [Array.toArray_toList]
  exact hS'

/-! ### max(ints, default=k) -/
theorem readsAll_of {h : Heap} : ∀ {ns : List Int} {us : List Value}, Vals (ns.map V.int) us → ReadsAll h us (ns.map .int) []
  | [], _, r => by
    cases r
    exact .nil
  | n :: ns, _, r => by
    cases r with
    | cons r1 r2 =>
      obtain ⟨t, rfl⟩ := r1
      exact .cons (.int n t) (readsAll_of r2)
theorem depthAll_ints : ∀ ns : List Int, PyData.depthAll (ns.map .int) = 0
  | [] => rfl
  | n :: ns => by
    rw [List.map_cons]
    show max (PyData.depth (.int n)) (PyData.depthAll (ns.map .int)) = 0
    rw [depthAll_ints ns] <;> rfl
theorem alikeAll_ints (ns : List Int) : PySem.W.AlikeAll (ns.map .int) := by
  refine ⟨fun x hx y hy => ?_, fun x hx => ?_⟩
  · obtain ⟨i, _, rfl⟩ := List.mem_map.mp hx
    obtain ⟨j, _, rfl⟩ := List.mem_map.mp hy
    rfl
  · obtain ⟨i, _, rfl⟩ := List.mem_map.mp hx
    exact fun z => nomatch z
def maxd (k : Int) : List Int → Int
  | [] => k
  | n :: r => r.foldl max n
section
variable {X : Cx}
def rMaxD (K : PySem.W.Frag) : List V → List V → Hp → VK → Prop := fun xs zs H Q => ∃ (a : Addr) (ns : List Int) (k : Int), xs = [.ref a] ∧ zs = [.int k] ∧ SqL K H a (ns.map V.int) ∧ Q (.int (maxd k ns)) H
theorem crk_max (hc : X.calm = true) (hu0 : X.A.units + 1 < cLine) : CallRK X (.builtin "max") ["default"] (rMaxD X.K) := by
  intro pins s σ H xs zs us ws Q I rx rz h
  obtain ⟨a, ns, k, rfl, rfl, hs, q⟩ := h
  obtain ⟨u, rfl, ru⟩ := vals1 rx
  obtain ⟨u2, rfl, ru2⟩ := vals1 rz
  obtain rfl : u = Value.ref a := ru
  obtain ⟨t, rfl⟩ := ru2
  obtain ⟨its, rv, p', hz⟩ := I.list hs
  have hr : ReadsAll s.heap its.toArray.toList (ns.map .int) [] := by
    have := readsAll_of (h := s.heap) rv
    simpa using this
  have hu : X.A.units + 1 + PyData.depthAll (ns.map PyData.int) < cLine := by
    rw [depthAll_ints]
    exact hu0
  show wpAny _ X.A (call (.builtin "max") [.ref a] [(Str.ofString "default", .int k t)]) _ _ _
  refine PySem.W.max_list_default (A := X.A) (I.ok.hd hc) p'.isList hr (alikeAll_ints ns) hu ?_ ?_
  · intro e0 h' tk kp
    have e1 : ns = [] := by
      cases ns with
      | nil => rfl
      | cons n r => cases e0
    subst e1
    exact ⟨.int k, H, I.kept (t' := tk) kp, ⟨t, rfl⟩, q⟩
  · intro y ys i v h' tk bs e0 hv hrd kp
    cases ns with
    | nil => cases e0
    | cons n r =>
      rw [List.map_cons] at e0
      injection e0 with e1 e2
      subst e1 e2
      rw [PySem.W.maxD_ints] at hrd
      cases hrd with
      | int _ t' => exact ⟨.int (r.foldl max n), H, I.kept (t' := tk) kp, ⟨t', rfl⟩, q⟩
theorem pt_chain3 {a b c d : Expr} {ta tb tc td : TE} {pos : Pos} {op op' op2 : CmpOp} {r r' r2 : R2} (ho : OpR X (compareOp op) r) (ho' : OpR X (compareOp op') r') (ho2 : OpR X (compareOp op2) r2) (ha : PE X a ta) (hb : PE X b tb) (hc : PE X c tc) (hd : PE X d td)
    (hm : lastMarks [op, op', op2] [b, c, d] = false := by with_unfolding_all rfl) : PT X (.Compare a [op, op', op2] [b, c, d] pos) (tTest (fun σ H Q => ta σ H fun x H1 => tb σ H1 fun y H2 => r x y H2 fun z H3 => ∃ k, z = .bl k ∧
      (if k = true then tc σ H3 fun w' H4 => r' y w' H4 fun z' H5 => ∃ k', z' = .bl k' ∧ (if k' = true then td σ H5 fun u' H6 => r2 w' u' H6 Q else Q (.bl false) H5) else Q (.bl false) H3))) := by
  refine ⟨fun pins s σ H Q I h => ?_⟩
  refine isTrue_chain (thn (ha.run pins s σ H _ I h) fun v s1 ⟨x, H1, I1, r1, q1⟩ => test_link (thn (hb.run pins s1 σ H1 _ I1 q1) fun u s2 ⟨y, H2, I2, r2, q2⟩ =>
    thn (ho pins s2 σ H2 x y v u _ I2 r1 r2 q2) fun d s3 ⟨z, H3, I3, r3, k, e, q3⟩ => ?_)) hm
  subst e
  cases r3
  refine wpAny_truthy_bool ?_
  cases k with
  | false =>
    obtain ⟨k', e', q'⟩ := q3
    cases e'
    exact ite_ff ⟨H3, I3, q'⟩
  | true =>
    refine ite_tt (test_link (thn (hc.run pins s3 σ H3 _ I3 q3) fun w' s4 ⟨z', H4, I4, r4, q4⟩ => thn (ho' pins s4 σ H4 y z' u w' _ I4 r2 r4 q4) fun d' s5 ⟨z2, H5, I5, r5, k2, e2, q5⟩ => ?_))
    subst e2
    cases r5
    refine wpAny_truthy_bool ?_
    cases k2 with
    | false =>
      obtain ⟨k', e', q'⟩ := q5
      cases e'
      exact ite_ff ⟨H5, I5, q'⟩
    | true =>
      refine ite_tt (test_last (thn (hd.run pins s5 σ H5 _ I5 q5) fun u' s6 ⟨z3, H6, I6, r6, q6⟩ => thn (ho2 pins s6 σ H6 z' z3 w' u' _ I6 r4 r6 q6) fun d2 s7 ⟨z4, H7, I7, r7, k4, e4, q7⟩ => ?_))
      subst e4
      cases r7
      exact wpAny_truthy_bool ⟨H7, I7, q7⟩
end

/-! ### defs -/
def Cal (P : Program) (w : World) (K : PySem.W.Frag) (mg : Str → Option Value) (base : Heap) (k : Nat) (x : Str) (ps : List Str) (sp : Sp) : Prop :=
  ∃ (f : Addr) (fd : FuncData), FnOk P w K mg base CX0 k f fd ps sp ∧ mg x = some (.ref f) ∧ PySem.W.keepIn K (.ref f) = true ∧ Binds K fd ps []
theorem pe_callC {X : Cx} {j k : Nat} {x : Str} {ps : List Str} {sp : Sp} {e : Expr} {es : List Expr} {p pos : Pos} {t : TA} (C : Cal X.prog X.w X.K X.mg X.base j x ps sp) (hr : Room k X.A) (ha : PA X (e :: es) t) (hj : j ≤ k := by decide) (hg : Gl X x := by rfl) (hdb : (x == ("__debug__" : Str)) = false := by decide)
    (he : starEach (e :: es) X.env = (false, eval e X.env) :: starEach es X.env := by rfl) (hpl : (backTo pos (starEach es X.env)).any (·.1) = false := by rfl) : PE X (.Call (.Name x p) (e :: es) [] pos) (tCall sp [] E0 t) := by
  obtain ⟨f, fd, F, hm, hk, hb⟩ := C
  exact pe_call F (hr.mono hj) hg hm hk hb .nil pass0 ha hdb he hpl
theorem Cal.mk {P : Program} {w : World} {K : PySem.W.Frag} {mg : Str → Option Value} {base : Heap} {k : Nat} {x qual : Str} {ps : List Str} {sp : Sp} {st : Stmt} {f : Addr} {fd : FuncData} (F : Fun K x qual st f fd) (g : mg x = some (.ref f)) (b : Binds K fd ps []) (ok : FnOk P w K mg base CX0 k f fd ps sp) : Cal P w K mg base k x ps sp := ⟨f, fd, ok, g, F.kp, b⟩

section
variable {K : PySem.W.Frag} {σ : L2.St} {H H' H0 : Hp} {L L' : List (Addr × HO)} {ta tb tc td te tx tl : TE} {tas tks : TA} {t u : TT} {x y z w : D} {xs ys : List D} {De : Ends} {tu tw tz : TS} {p q : Addr}
theorem en_lrev {α : Type} {f : α → V} {ns : List α} (h : EvD K te σ H (.l (ns.map fun a => .v (f a)))) : EvN (tLstRev K te) σ H (.l (ns.reverse.map fun a => .v (f a))) := fun H1 e Q q => h H1 e _ fun v H2 e2 d => by
  obtain ⟨p, ys, rfl, s, dd⟩ := Dat.l_iff.mp d
  have ey := Dats.map_eq dd
  subst ey
  refine ⟨p, _, rfl, s, fun l hl => q _ _ (e2.trans (Ex.new hl)) (DatN.l_iff.mpr ⟨l, _, rfl, fresh_back e2 hl, upd_same, ?_⟩)⟩
  rw [← List.map_reverse]
  exact DatsN.map
theorem en_lrg {n : Int} (h : EvD K ta σ H (di n)) (hn : n ≤ 100000 ∧ -100000 ≤ n) : EvN (tLstRg (tRg1 ta)) σ H (.l ((List.range n.toNat).map fun i => dn i)) := fun H1 e Q q => h H1 e _ fun v H2 e2 d => by
  refine ⟨n, Dat.v_iff.mp d, ⟨by omega, by omega, by omega, by omega, by omega⟩, fun l hl => q _ _ (e2.trans (Ex.new hl)) (DatN.l_iff.mpr ⟨l, _, rfl, fresh_back e2 hl, upd_same, ?_⟩)⟩
  have ee : rgV 0 n = (List.range n.toNat).map fun i => V.int (i : Nat) := by
    unfold rgV
    rw [Int.sub_zero]
    exact List.map_congr_left fun i _ => by rw [Int.zero_add]
  rw [ee]
  exact DatsN.map
theorem en_lrg2 {lo n : Int} (h : EvD K ta σ H (di lo)) (h2 : EvD K tb σ H (di n)) (hn : n ≤ 100000 ∧ -100000 ≤ n ∧ lo ≤ 100000 ∧ -100000 ≤ lo) : EvN (tLstRg (tRg2 ta tb)) σ H (.l ((List.range (n - lo).toNat).map fun i => di (lo + (i : Nat)))) := fun H1 e Q q => h H1 e _ fun v H2 e2 d => h2 H2 (e.trans e2) _ fun v' H3 e3 d' => by
  refine ⟨lo, n, Dat.v_iff.mp d, Dat.v_iff.mp d', ⟨by omega, by omega, by omega, by omega, by omega⟩, fun l hl => q _ _ ((e2.trans e3).trans (Ex.new hl)) (DatN.l_iff.mpr ⟨l, _, rfl, fresh_back (e2.trans e3) hl, upd_same, ?_⟩)⟩
  exact DatsN.map
theorem ev_maxD {ns : List Int} {k : Int} (h : EvD K ta σ H (dI ns)) (hk : EvD K tb σ H (di k)) : EvD K (tCKw (rMaxD K) (tCons ta tNil) (tCons tb tNil)) σ H (di (maxd k ns)) := fun H1 e Q q => h H1 e _ fun v H2 e2 d => hk H2 (e.trans e2) _ fun v' H3 e3 d' => by
  obtain ⟨p, ys, rfl, s, dd⟩ := Dat.l_iff.mp d
  have ey := Dats.map_eq (f := V.int) dd
  subst ey
  exact ⟨p, ns, k, rfl, by rw [Dat.v_iff.mp d'], ex_l e3 s, q _ H3 (e2.trans e3) Dat.v⟩
/-- a < b < c < d -/
theorem et_chain3 {r r' r2 : R2} {a b c : Bool} (ha : EvD K ta σ H x) (hb : EvD K tb σ H y) (hr : RD K r x y (db a)) (hc : a = true → EvD K tc σ H z) (hr' : a = true → RD K r' y z (db b)) (hd : a = true → b = true → EvD K td σ H w) (hr2 : a = true → b = true → RD K r2 z w (db c)) :
    EvT (tTest (fun σ H Q => ta σ H fun x H1 => tb σ H1 fun y H2 => r x y H2 fun z H3 => ∃ k, z = .bl k ∧
      (if k = true then tc σ H3 fun w' H4 => r' y w' H4 fun z' H5 => ∃ k', z' = .bl k' ∧ (if k' = true then td σ H5 fun u' H6 => r2 w' u' H6 Q else Q (.bl false) H5) else Q (.bl false) H3))) σ H (a && (b && c)) := fun H1 e Q q =>
  ha H1 e _ fun vx H2 e2 dx => hb H2 (e.trans e2) _ fun vy H3 e3 dy => hr H3 vx vy (dx.mono e3) dy _ fun v H4 e4 dv => ⟨a, Dat.v_iff.mp dv, by
    cases a with
    | true => exact hc rfl H4 (((e.trans e2).trans e3).trans e4) _ fun vz H5 e5 dz => hr' rfl H5 vy vz (dy.mono (e4.trans e5)) dz _ fun v H6 e6 dv => ⟨b, Dat.v_iff.mp dv, by
        cases b with
        | true => exact hd rfl rfl H6 (((((e.trans e2).trans e3).trans e4).trans e5).trans e6) _ fun vw H7 e7 dw => hr2 rfl rfl H7 vz vw (dz.mono (e6.trans e7)) dw _ fun v H8 e8 dv => ⟨c, Dat.v_iff.mp dv, q H8 ((((((e2.trans e3).trans e4).trans e5).trans e6).trans e7).trans e8)⟩
        | false => exact ⟨false, rfl, q H6 ((((e2.trans e3).trans e4).trans e5).trans e6)⟩⟩
    | false => exact ⟨false, rfl, q H4 ((e2.trans e3).trans e4)⟩⟩
/-- sorted, all, max, min of flat lists -/
theorem en_sorted {ns : List Int} (hl : ns.length < 64) {P : List Int → Prop} (h : EvD K ta σ H (dI ns)) : ∀ H1, Ex H H1 → ∀ Q : VK, (∀ ms v H2, ms.Perm ns → ms.Pairwise (· ≤ ·) → Ex H1 H2 → DatN H1 H2 (dI ms) v → Q v H2) → (tCB (rSorted K) (tCons ta tNil)) σ H1 Q := fun H1 e Q q =>
  h H1 e _ fun v H2 e2 d => by
    obtain ⟨p, ys, rfl, s, dd⟩ := Dat.l_iff.mp d
    have ey := Dats.map_eq (f := V.int) dd
    subst ey
    exact ⟨p, ns, rfl, s, hl, fun ms l hp hw hn => q ms _ _ hp hw (e2.trans (Ex.new hn)) (DatN.l_iff.mpr ⟨l, _, rfl, fresh_back e2 hn, upd_same, DatsN.map⟩)⟩
theorem cd_all {bs : List Bool} : CD K (rAll K) [.l (bs.map fun b => .v (.bl b))] (db (bs.all id)) := fun H vs dv Q q => by
  obtain ⟨v, rfl, a⟩ := dv.n1
  obtain ⟨p, ys, rfl, s, dd⟩ := Dat.l_iff.mp a
  have e := Dats.map_eq (f := V.bl) dd
  subst e
  exact ⟨p, bs, rfl, s, q _ H (Ex.refl H) Dat.v⟩
end
end Tx
namespace Tx
open PySem PySem.Spec PyProof.Rows L2 Evl
abbrev dN (ns : List Nat) : D := .l (ns.map dn)
abbrev dS (ns : List Str) : D := .l (ns.map ds)
theorem Dat.flatE {K : PySem.W.Frag} {H : Hp} {α : Type} {f : α → V} {xs : List α} {y : V} (h : Dat K H (.l (xs.map fun a => .v (f a))) y) : ∃ p, y = .ref p ∧ SqL K H p (xs.map f) := by
  obtain ⟨p, ys, rfl, s, dd⟩ := Dat.l_iff.mp h
  have e := Dats.map_eq dd
  subst e
  exact ⟨p, rfl, s⟩
theorem atI_getD {α : Type} {f : α → D} {ns : List α} {k : Int} (z : α) (h0 : 0 ≤ k) (h1 : k < ns.length) : atI (ns.map f) k = some (f (ns.getD k.toNat z)) := by
  obtain ⟨j, rfl⟩ := Int.eq_ofNat_of_zero_le h0
  refine atI_nat ?_
  have hj : j < ns.length := by omega
  rw [List.getElem?_map, List.getElem?_eq_getElem hj]
  simp [List.getD, hj]

section
variable {K : PySem.W.Frag} {σ : L2.St} {H : Hp} {ta tb te : TE}
theorem cd_lenM {α : Type} {f : α → D} {ns : List α} : CD K (fun xs H Q => ∃ p ys, xs = [.ref p] ∧ (SqL K H p ys ∨ SqT K H p ys) ∧ Q (.int ys.length) H) [.l (ns.map f)] (dn ns.length) := by
  have h := cd_len (K := K) (xs := ns.map f)
  rw [List.length_map] at h
  exact h
theorem et_testK (_ : IsK K) {b : Bool} (h : EvD K te σ H (db b)) : EvT (tTest te) σ H b := et_test h
theorem et_BK (_ : IsK K) {b : Bool} (h : EvD K te σ H (db b)) : EvT (tB te) σ H b := et_B h
theorem EvD.nK (_ : IsK K) {x : V} (h : EvD K te σ H (.v x)) : EvN te σ H (.v x) := h.n
theorem en_lrgK (_ : IsK K) {n : Int} (h : EvD K ta σ H (di n)) (hn : n ≤ 100000 ∧ -100000 ≤ n) : EvN (tLstRg (tRg1 ta)) σ H (.l ((List.range n.toNat).map fun i => dn i)) := en_lrg h hn
theorem en_lrgN (_ : IsK K) {n : Nat} (h : EvD K ta σ H (dn n)) (hn : n ≤ 100000) : EvN (tLstRg (tRg1 ta)) σ H (.l ((List.range n).map fun i => dn i)) := by
  have g := en_lrg h ⟨by omega, by omega⟩
  rw [Int.toNat_natCast] at g
  exact g
theorem en_lrg2K (_ : IsK K) {lo n : Int} (h : EvD K ta σ H (di lo)) (h2 : EvD K tb σ H (di n)) (hn : n ≤ 100000 ∧ -100000 ≤ n ∧ lo ≤ 100000 ∧ -100000 ≤ lo) : EvN (tLstRg (tRg2 ta tb)) σ H (.l ((List.range (n - lo).toNat).map fun i => di (lo + (i : Nat)))) := en_lrg2 h h2 hn
end

/-! ### turned, order, seen_at -/
def tstep (hi : Nat → Bool) (s : List Nat × List Nat) (p : Nat) : List Nat × List Nat := if hi p then (s.1, s.2 ++ [p]) else (s.1 ++ s.2.reverse ++ [p], [])
def tfold (hi : Nat → Bool) (ps : List Nat) : List Nat × List Nat := ps.foldl (tstep hi) ([], [])
theorem tfold_snoc (hi : Nat → Bool) (ps : List Nat) (p : Nat) : tfold hi (ps ++ [p]) = tstep hi (tfold hi ps) p := by
  unfold tfold
  rw [List.foldl_append] <;> rfl
theorem tfold_len (hi : Nat → Bool) (ps : List Nat) : (tfold hi ps).1.length + (tfold hi ps).2.length = ps.length := by
  unfold tfold
  suffices h : ∀ (s : List Nat × List Nat), (ps.foldl (tstep hi) s).1.length + (ps.foldl (tstep hi) s).2.length = s.1.length + s.2.length + ps.length by
    simpa using h ([], [])
  induction ps with
  | nil => intro s; simp
  | cons p r ih =>
    intro s
    rw [List.foldl_cons, ih, tstep]
    split <;> simp <;> omega
def hiF (row : List Int) (lv : Int) (p : Nat) : Bool := decide (lv ≤ row.getD p 0)
def turnedF (row : List Int) (lv : Int) (ps : List Nat) : List Nat := (tfold (hiF row lv) ps).1 ++ (tfold (hiF row lv) ps).2.reverse
theorem turnedF_len (row : List Int) (lv : Int) (ps : List Nat) : (turnedF row lv ps).length = ps.length := by
  unfold turnedF
  rw [List.length_append, List.length_reverse, tfold_len]
def R_turned (xs : List D) (d : D) : Prop := ∃ ps rs lv, xs = [dN ps, dI rs, di lv] ∧ ((∀ p ∈ ps, p < rs.length) ∧ ps.length ≤ 100) ∧ d = dN (turnedF rs lv ps)
end Tx
namespace Tx
open PySem PySem.Spec PyProof.Rows L2 Evl
/-! ### rows of levels -/
def Lv (rs : List Int) : Prop := rs.length ≤ 60 ∧ ∀ x ∈ rs, 0 ≤ x ∧ x ≤ 10
theorem foldl_max_bounds {lo hi : Int} : ∀ (r : List Int) (n : Int), lo ≤ n → n ≤ hi → (∀ x ∈ r, lo ≤ x ∧ x ≤ hi) → lo ≤ r.foldl max n ∧ r.foldl max n ≤ hi
  | [], n, h1, h2, _ => ⟨h1, h2⟩
  | x :: r, n, h1, h2, h => by
    rw [List.foldl_cons]
    have hx := h x List.mem_cons_self
    exact foldl_max_bounds r (max n x) (by omega) (by omega) fun y hy => h y (List.mem_cons_of_mem _ hy)
theorem Lv.max {rs : List Int} (h : Lv rs) : 0 ≤ maxd 0 rs ∧ maxd 0 rs ≤ 10 := by
  cases rs with
  | nil => exact ⟨Int.le_refl _, by decide⟩
  | cons n r =>
    have hn := h.2 n List.mem_cons_self
    exact foldl_max_bounds r n hn.1 hn.2 fun y hy => h.2 y (List.mem_cons_of_mem _ hy)
theorem tfold_perm (hi : Nat → Bool) (ps : List Nat) : ((tfold hi ps).1 ++ (tfold hi ps).2).Perm ps := by
  unfold tfold
  suffices h : ∀ (s : List Nat × List Nat), ((ps.foldl (tstep hi) s).1 ++ (ps.foldl (tstep hi) s).2).Perm (s.1 ++ s.2 ++ ps) by
    simpa using h ([], [])
  induction ps with
  | nil => intro s; simp
  | cons p r ih =>
    intro s
    rw [List.foldl_cons]
    refine (ih _).trans ?_
    unfold tstep
    split
    · simp
    · simp only [List.append_nil]
      have h1 : (s.1 ++ s.2.reverse ++ [p] ++ r).Perm (s.1 ++ s.2 ++ [p] ++ r) :=
        ((((List.reverse_perm s.2).append_left s.1).append_right [p]).append_right r)
      refine h1.trans ?_
      simp
theorem turnedF_perm (row : List Int) (lv : Int) (ps : List Nat) : (turnedF row lv ps).Perm ps :=
  ((List.reverse_perm _).append_left _).trans (tfold_perm _ ps)
def ordS (row : List Int) (m : Int) : Nat → List Nat
  | 0 => List.range row.length
  | i + 1 => turnedF row (m - i) (ordS row m i)
theorem ordS_perm (row : List Int) (m : Int) : ∀ i, (ordS row m i).Perm (List.range row.length)
  | 0 => List.Perm.refl _
  | i + 1 => (turnedF_perm row _ _).trans (ordS_perm row m i)
theorem ordS_lt {row : List Int} {m : Int} {i p : Nat} (h : p ∈ ordS row m i) : p < row.length := List.mem_range.mp ((ordS_perm row m i).mem_iff.mp h)
theorem ordS_len (row : List Int) (m : Int) (i : Nat) : (ordS row m i).length = row.length := (ordS_perm row m i).length_eq.trans (List.length_range ..)
def orderF (row : List Int) : List Nat := ordS row (maxd 0 row) (maxd 0 row).toNat
theorem orderF_perm (row : List Int) : (orderF row).Perm (List.range row.length) := ordS_perm _ _ _
theorem orderF_lt {row : List Int} {p : Nat} (h : p ∈ orderF row) : p < row.length := ordS_lt h
theorem orderF_len (row : List Int) : (orderF row).length = row.length := ordS_len _ _ _
def R_order (xs : List D) (d : D) : Prop := ∃ rs, xs = [dI rs] ∧ Lv rs ∧ d = dN (orderF rs)
def seenS (ps : List Nat) (n : Nat) : Nat → List Nat
  | 0 => List.replicate n 0
  | m + 1 => (seenS ps n m).set (ps.getD m 0) m
theorem seenS_len (ps : List Nat) (n m : Nat) : (seenS ps n m).length = n := by
  induction m with
  | zero => exact List.length_replicate ..
  | succ m ih => rw [seenS, List.length_set, ih]
def seenF (row : List Int) : List Nat := seenS (orderF row) row.length row.length
theorem seenF_len (row : List Int) : (seenF row).length = row.length := seenS_len _ _ _
def R_seen_at (xs : List D) (d : D) : Prop := ∃ rs, xs = [dI rs] ∧ Lv rs ∧ d = dN (seenF rs)
theorem zeros_eq {α : Type} (ns : List α) : D.l (ns.map fun _ => di 0) = .l ((List.replicate ns.length 0).map fun p : Nat => .v (.int (p : Int))) := by
  rw [List.map_const', List.map_replicate] <;> rfl

/-! ### the law's own numbers -/
def cellF (ns : List Int) (k : Int) : Int := if k < ns.length then ns.getD k.toNat 0 else 0
def R_law_cell_at (xs : List D) (d : D) : Prop := ∃ ns k, xs = [dI ns, di k] ∧ 0 ≤ k ∧ d = di (cellF ns k)
def pickF (ns : List Int) (k : Int) : Int := if k < ns.length then ns.getD k.toNat 0 else (cellF ns 0 + 7 * k + 3) * 48271 % 2147483647 / 13
def R_law_pick (xs : List D) (d : D) : Prop := ∃ ns k, xs = [dI ns, di k] ∧ 0 ≤ k ∧ d = di (pickF ns k)
def mixF (cell k : Int) : Int :=
  let m := (cell * 69621 + 7001 * k + 3) % 2147483629
  (m * m + 39373 * m + k) % 2147483647
def R_law_mix (xs : List D) (d : D) : Prop := ∃ c k, xs = [di c, di k] ∧ d = di (mixF c k)
theorem mixF_nn (c k : Int) : 0 ≤ mixF c k := Int.emod_nonneg _ (by decide)
theorem mixF_lt (c k : Int) : mixF c k < 2147483647 := Int.emod_lt_of_pos _ (by decide)
def sizeF (cell : Int) : Int := if cell / 20 % 9 = 1 then 60 else cell % 20
def R_law_size (xs : List D) (d : D) : Prop := ∃ c, xs = [di c] ∧ d = di (sizeF c)
theorem sizeF_nn (c : Int) : 0 ≤ sizeF c := by unfold sizeF; split; decide; exact Int.emod_nonneg _ (by decide)
theorem sizeF_le (c : Int) : sizeF c ≤ 60 := by
  unfold sizeF
  split
  · decide
  · have := Int.emod_lt_of_pos c (show (0 : Int) < 20 by decide)
    omega
def R_law_whole (xs : List D) (d : D) : Prop := ∃ n, xs = [di n] ∧ d = db true
def R_law_list (xs : List D) (d : D) : Prop := ∃ as bs, xs = [dI as, dI bs] ∧ bs.length ≤ 1000 ∧ d = db (decide (as = bs))
end Tx
namespace Tx
open PySem PySem.Spec PyProof.Rows L2 Evl
/-! ### isinstance -/
section
variable {K : PySem.W.Frag} {σ : L2.St} {H H' H0 : Hp} {L L' : List (Addr × HO)} {ta tb te tx tl : TE} {tas : TA} {x y z : D} {xs ys : List D} {p q : Addr}
theorem tyx_list {vs : List V} (h : SqL K H p vs) : TyX K H (.ref p) (.type "list") := by
  rcases h with (h | ⟨o, h⟩) | ⟨o, its, n, hk, hc, _⟩
  · exact .base (.lst h)
  · exact .base (.frz h)
  · exact .kList hk hc
theorem tyx_tup {vs : List V} (h : SqT K H p vs) : TyX K H (.ref p) (.type "tuple") := by
  rcases h with (h | ⟨o, h⟩) | ⟨o, its, n, hk, hc, _⟩
  · exact .base (.tup h)
  · exact .fTuple h
  · exact .kTuple hk hc
theorem cd_isi {t T : String} {b : Bool} (hk : kitB t T = some b) (ht : ∀ H v, Dat K H x v → TyX K H v (.type t)) : CD K (rIsi K) [x, .v (.ty T)] (db b) := fun H vs dv Q q => by
  obtain ⟨v, w, rfl, a, c⟩ := dv.n2
  exact ⟨v, w, _, _, b, rfl, by rw [Dat.v_iff.mp c]; exact .ty T, ht H v a, kit_ty hk, q _ H (Ex.refl H) Dat.v⟩
theorem cd_isi_II {n : Int} : CD K (rIsi K) [di n, .v (.ty "int")] (db true) := cd_isi (t := "int") (by decide +kernel) fun H v h => by rw [Dat.v_iff.mp h]; exact .base (.int n)
theorem cd_isi_IB {n : Int} : CD K (rIsi K) [di n, .v (.ty "bool")] (db false) := cd_isi (t := "int") (by decide +kernel) fun H v h => by rw [Dat.v_iff.mp h]; exact .base (.int n)
theorem cd_isi_LL : CD K (rIsi K) [.l xs, .v (.ty "list")] (db true) := cd_isi (t := "list") (by decide +kernel) fun H v h => by
  obtain ⟨p, ys, rfl, s, _⟩ := Dat.l_iff.mp h
  exact tyx_list s
theorem cd_isi_TT : CD K (rIsi K) [.t xs, .v (.ty "tuple")] (db true) := cd_isi (t := "tuple") (by decide +kernel) fun H v h => by
  obtain ⟨p, ys, rfl, s, _⟩ := Dat.t_iff.mp h
  exact tyx_tup s
theorem cd_isi_SS {x : Str} : CD K (rIsi K) [ds x, .v (.ty "str")] (db true) := cd_isi (t := "str") (by decide +kernel) fun H v h => by rw [Dat.v_iff.mp h]; exact .base (.str x)

/-! ### == of lists -/
mutual
def py : D → PyData
  | .v (.bl b) => .bool b
  | .v (.int n) => .int n
  | .v (.str x) => .str x
  | .v _ => .none
  | .l xs => .list (pys xs)
  | .t xs => .tuple (pys xs)
def pys : List D → List PyData
  | [] => []
  | d :: r => py d :: pys r
end
mutual
def good : D → Bool
  | .v .non | .v (.bl _) | .v (.int _) | .v (.str _) => true
  | .v _ => false
  | .l xs | .t xs => goods xs
def goods : List D → Bool
  | [] => true
  | d :: r => good d && goods r
end
mutual
theorem dp_of : ∀ {d : D} {v : V}, good d = true → Dat K H d v → Dp K H v (py d)
  | .v .non, _, _, h => by rw [Dat.v_iff.mp h, py.eq_4] <;> first | exact .non | (intros; contradiction)
  | .v (.bl b), _, _, h => by rw [Dat.v_iff.mp h, py]; exact .bl b
  | .v (.int n), _, _, h => by rw [Dat.v_iff.mp h, py]; exact .int n
  | .v (.str x), _, _, h => by rw [Dat.v_iff.mp h, py]; exact .str x
  | .v (.byt _), _, g, _ => by simp [good] at g
  | .v (.flt _), _, g, _ => by simp [good] at g
  | .v (.ref _), _, g, _ => by simp [good] at g
  | .v (.ty _), _, g, _ => by simp [good] at g
  | .l xs, _, g, h => by
    obtain ⟨p, ys, rfl, s, dd⟩ := Dat.l_iff.mp h
    rw [py]
    exact .lst s (dps_of (by simpa [good] using g) dd)
  | .t xs, _, g, h => by
    obtain ⟨p, ys, rfl, s, dd⟩ := Dat.t_iff.mp h
    rw [py]
    exact .tup s (dps_of (by simpa [good] using g) dd)
theorem dps_of : ∀ {d : List D} {v : List V}, goods d = true → Dats K H d v → DpAll K H v (pys d)
  | [], _, _, h => by rw [Dats.nil_iff.mp h, pys]; exact .nil
  | d :: r, _, g, h => by
    obtain ⟨y, s, rfl, a, b⟩ := Dats.cons_iff.mp h
    rw [goods, Bool.and_eq_true] at g
    rw [pys]
    exact .cons (dp_of g.1 a) (dps_of g.2 b)
end
theorem pys_map {α : Type} (f : α → D) : ∀ ns : List α, pys (ns.map f) = ns.map fun a => py (f a)
  | [] => by rw [List.map_nil, pys] <;> rfl
  | n :: r => by rw [List.map_cons, pys, pys_map f r] <;> rfl
theorem goods_map {α : Type} (f : α → D) (h : ∀ a, good (f a) = true) : ∀ ns : List α, goods (ns.map f) = true
  | [] => by rw [List.map_nil, goods]
  | n :: r => by rw [List.map_cons, goods, h n, goods_map f h r] <;> rfl
theorem canLayAll_map {α : Type} (f : α → PyData) (h : ∀ a, (f a).canLay0 = true) : ∀ ns : List α, PyData.canLayAll0 (ns.map f) = true
  | [] => rfl
  | n :: r => by
    rw [List.map_cons]
    show ((f n).canLay0 && PyData.canLayAll0 (r.map f)) = true
    rw [h n, canLayAll_map f h r] <;> rfl
theorem depthAll_map {α : Type} (f : α → PyData) (k : Nat) (h : ∀ a, (f a).depth ≤ k) : ∀ ns : List α, PyData.depthAll (ns.map f) ≤ k
  | [] => Nat.zero_le _
  | n :: r => by
    rw [List.map_cons]
    show max (f n).depth (PyData.depthAll (r.map f)) ≤ k
    have h1 := h n
    have h2 := depthAll_map f k h r
    omega
theorem eqvAll_map {α : Type} [DecidableEq α] (f : α → PyData) (h : ∀ a b, (f a).eqv (f b) = decide (a = b)) : ∀ as bs : List α, PyData.eqvAll (as.map f) (bs.map f) = decide (as = bs)
  | [], [] => by rw [List.map_nil, PyData.eqvAll]; simp
  | [], b :: bs => by rw [List.map_nil, List.map_cons, PyData.eqvAll.eq_3]; simp
  | a :: as, [] => by
    rw [List.map_nil, List.map_cons]
    show PyData.eqvAll (f a :: as.map f) [] = _
    rw [PyData.eqvAll.eq_4] <;> simp
  | a :: as, b :: bs => by
    rw [List.map_cons, List.map_cons, PyData.eqvAll, h, eqvAll_map f h as bs]
    simp
theorem rd_eqD {x y : D} (gx : good x = true) (gy : good y = true) (sx : SeqAt.shaped (py x) = true) (sy : SeqAt.shaped (py y) = true) : RD K (rEqD K) x y (db (PyData.eqv (py x) (py y))) := fun H vx vy dx dy Q q =>
  ⟨py x, py y, dp_of gx dx, dp_of gy dy, sx, sy, q _ H (Ex.refl H) Dat.v⟩
theorem rd_neD {x y : D} (gx : good x = true) (gy : good y = true) (sx : SeqAt.shaped (py x) = true) (sy : SeqAt.shaped (py y) = true) : RD K (rNeD K) x y (db (!PyData.eqv (py x) (py y))) := fun H vx vy dx dy Q q =>
  ⟨py x, py y, dp_of gx dx, dp_of gy dy, sx, sy, q _ H (Ex.refl H) Dat.v⟩
/-- flat lists of one kind of sign -/
structure FlatK {α : Type} [DecidableEq α] (f : α → V) (pf : α → PyData) : Prop where
  g : ∀ a, good (.v (f a)) = true
  p : ∀ a, py (.v (f a)) = pf a
  c : ∀ a, (pf a).canLay0 = true
  d : ∀ a, (pf a).depth ≤ 0
  e : ∀ a b, (pf a).eqv (pf b) = decide (a = b)
theorem flatI : FlatK V.int PyData.int := ⟨fun _ => by simp [good], fun _ => by simp [py], fun _ => rfl, fun _ => Nat.le_refl _, fun a b => by simp [PyData.eqv]; rfl⟩
theorem FlatK.sh {α : Type} [DecidableEq α] {f : α → V} {pf : α → PyData} (k : FlatK f pf) (ns : List α) : SeqAt.shaped (py (.l (ns.map fun a => .v (f a)))) = true := by
  rw [py, pys_map]
  have e : (ns.map fun a => py (.v (f a))) = ns.map pf := List.map_congr_left fun a _ => k.p a
  rw [e]
  unfold SeqAt.shaped
  rw [Bool.and_eq_true]
  refine ⟨canLayAll_map pf k.c ns, decide_eq_true ?_⟩
  have h := depthAll_map pf 0 k.d ns
  show PyData.depthAll (ns.map pf) + 1 ≤ 64
  omega
theorem FlatK.gd {α : Type} [DecidableEq α] {f : α → V} {pf : α → PyData} (k : FlatK f pf) (ns : List α) : good (.l (ns.map fun a => .v (f a))) = true := by
  rw [good]
  exact goods_map _ k.g ns
theorem FlatK.eq {α : Type} [DecidableEq α] {f : α → V} {pf : α → PyData} (k : FlatK f pf) (as bs : List α) : PyData.eqv (py (.l (as.map fun a => .v (f a)))) (py (.l (bs.map fun a => .v (f a)))) = decide (as = bs) := by
  have e : ∀ ns : List α, (ns.map fun a => py (.v (f a))) = ns.map pf := fun ns => List.map_congr_left fun a _ => k.p a
  rw [py, py, pys_map, pys_map, e, e, PyData.eqv]
  exact eqvAll_map pf k.e as bs
theorem rd_eqFl {α : Type} [DecidableEq α] {f : α → V} {pf : α → PyData} (k : FlatK f pf) {as bs : List α} : RD K (rEqD K) (.l (as.map fun a => .v (f a))) (.l (bs.map fun a => .v (f a))) (db (decide (as = bs))) := by
  rw [← k.eq]
  exact rd_eqD (k.gd _) (k.gd _) (k.sh _) (k.sh _)
theorem rd_neFl {α : Type} [DecidableEq α] {f : α → V} {pf : α → PyData} (k : FlatK f pf) {as bs : List α} : RD K (rNeD K) (.l (as.map fun a => .v (f a))) (.l (bs.map fun a => .v (f a))) (db (!decide (as = bs))) := by
  rw [← k.eq]
  exact rd_neD (k.gd _) (k.gd _) (k.sh _) (k.sh _)
theorem rd_eqLI {as bs : List Int} : RD K (rEqD K) (dI as) (dI bs) (db (decide (as = bs))) := rd_eqFl flatI
theorem rd_neLI {as bs : List Int} : RD K (rNeD K) (dI as) (dI bs) (db (!decide (as = bs))) := rd_neFl flatI
theorem dN_dI (ns : List Nat) : dN ns = dI (ns.map fun n : Nat => (n : Int)) := by
  show D.l _ = D.l _
  rw [List.map_map] <;> rfl

/-! ### + of lists -/
theorem en_catNV {α : Type} {f : α → V} {ns ms : List α} {i : Nat} (h : EvN ta σ H (.l (ns.map fun a => .v (f a)))) (hs : σ[i]? = some (some (.ref p))) (hp : H p = some (.lst (ms.map f))) (hl : ns.length + ms.length ≤ 100000) : EvN (tOp rCat ta (tVar i)) σ H (.l ((ns ++ ms).map fun a => .v (f a))) := fun H1 e Q q =>
  h H1 e _ fun v H2 e2 d => by
    obtain ⟨l, ys, rfl, n, hq, dd⟩ := DatN.l_iff.mp d
    have ey := DatsN.map_eq dd
    subst ey
    exact ⟨_, hs, rn_cat hl hq ((e.trans e2) p _ hp) fun v H3 e3 dn => q v H3 (e2.trans e3) (dn.mono e2 (Ex.refl _))⟩
theorem en_catVN {α : Type} {f : α → V} {ns ms : List α} {i : Nat} (hs : σ[i]? = some (some (.ref p))) (hp : H p = some (.lst (ns.map f))) (h : EvN tb σ H (.l (ms.map fun a => .v (f a)))) (hl : ns.length + ms.length ≤ 100000) : EvN (tOp rCat (tVar i) tb) σ H (.l ((ns ++ ms).map fun a => .v (f a))) := fun H1 e Q q =>
  ⟨_, hs, h H1 e _ fun v H2 e2 d => by
    obtain ⟨l, ys, rfl, n, hq, dd⟩ := DatN.l_iff.mp d
    have ey := DatsN.map_eq dd
    subst ey
    exact rn_cat hl ((e.trans e2) p _ hp) hq fun v H3 e3 dn => q v H3 (e2.trans e3) (dn.mono e2 (Ex.refl _))⟩
theorem en_catNN {α : Type} {f : α → V} {ns ms : List α} (h : EvN ta σ H (.l (ns.map fun a => .v (f a)))) (h2 : EvN tb σ H (.l (ms.map fun a => .v (f a)))) (hl : ns.length + ms.length ≤ 100000) : EvN (tOp rCat ta tb) σ H (.l ((ns ++ ms).map fun a => .v (f a))) := fun H1 e Q q =>
  h H1 e _ fun v H2 e2 d => h2 H2 (e.trans e2) _ fun v' H3 e3 d' => by
    obtain ⟨l, ys, rfl, n, hq, dd⟩ := DatN.l_iff.mp d
    have ey := DatsN.map_eq dd
    subst ey
    obtain ⟨l', ys', rfl, n', hq', dd'⟩ := DatN.l_iff.mp d'
    have ey' := DatsN.map_eq dd'
    subst ey'
    exact rn_cat hl (e3 _ _ hq) hq' fun v H4 e4 dn => q v H4 ((e2.trans e3).trans e4) (dn.mono (e2.trans e3) (Ex.refl _))
theorem atI_neg1 {α : Type} {f : α → D} {ns : List α} (z : α) (h : ns ≠ []) : atI (ns.map f) (-1) = some (f (ns.getLastD z)) := by
  obtain ⟨r, x, rfl⟩ : ∃ r x, ns = r ++ [x] := ⟨ns.dropLast, ns.getLast h, (List.dropLast_concat_getLast h).symm⟩
  rw [List.map_append, List.map_singleton]
  have e : (r ++ [x]).getLastD z = x := by simp
  rw [e]
  exact atI_last _ _
/-- xs.index(y) -/
theorem ev_index {α : Type} {f : α → V} {ns : List α} {x : V} {j : Nat} {c : α} (h : EvD K ta σ H (.l (ns.map fun a => .v (f a)))) (hy : EvD K tb σ H (.v x)) (hx : flatV x = true) (ha : (ns.map f).all flatV = true) (hj : ns[j]? = some c) (hc : eqV (f c) x = true) (hn : ∀ m c', m < j → ns[m]? = some c' → eqV (f c') x = false) :
    EvD K (tBM K "list" (rIndex K) ta (tCons tb tNil)) σ H (dn j) := fun H1 e Q q => h H1 e _ fun v H2 e2 d => by
  obtain ⟨p, ys, rfl, s, dd⟩ := Dat.l_iff.mp d
  have ey := Dats.map_eq dd
  subst ey
  refine ⟨Or.inl ⟨rfl, _, s⟩, hy H2 (e.trans e2) _ fun w H3 e3 d' => ⟨p, _, w, j, f c, rfl, rfl, ex_l e3 s, by rw [Dat.v_iff.mp d']; exact hx, ha, by rw [List.getElem?_map, hj] <;> rfl, by rw [Dat.v_iff.mp d']; exact hc, fun m z hm hz => ?_, q _ H3 (e2.trans e3) Dat.v⟩⟩
  rw [List.getElem?_map] at hz
  cases hk : ns[m]? with
  | none => rw [hk] at hz; cases hz
  | some c' =>
    rw [hk] at hz
    cases hz
    rw [Dat.v_iff.mp d']
    exact hn m c' hm hk
end

/-! ### rules with K told (within a comprehension) -/
section
variable {X : Cx} {a b o e : Expr} {ta tb to te : TE} {pos apos : Pos} {es : List Expr} {t : TA}
theorem pe_ixL (K : PySem.W.Frag) (ha : PE X a ta) (hb : PE X b tb) (hK : X.K = K := by rfl) (hs : PlainIx b := by exact fun _ _ => rfl) : PE X (.Subscript a b pos) (tOp (rIxL K) ta tb) := by
  subst hK
  exact pe_ix ix_list ha hb hs
theorem pe_ixTu (K : PySem.W.Frag) (ha : PE X a ta) (hb : PE X b tb) (hK : X.K = K := by rfl) (hs : PlainIx b := by exact fun _ _ => rfl) : PE X (.Subscript a b pos) (tOp (rIxT K) ta tb) := by
  subst hK
  exact pe_ix ix_tup ha hb hs
theorem op_in_seqK (K : PySem.W.Frag) (hK : X.K = K := by rfl) : OpR X (compareOp .In) (rIn K false) := by
  subst hK
  exact op_in_seq
theorem call_len_seqK (K : PySem.W.Frag) (hK : X.K = K := by rfl) : CallR X (.builtin "len") (fun xs H Q => ∃ p ys, xs = [.ref p] ∧ (SqL K H p ys ∨ SqT K H p ys) ∧ Q (.int ys.length) H) := by
  subst hK
  exact call_len_seq
theorem pe_index (K : PySem.W.Frag) (ho : PE X o to) (he : PA X (e :: es) t) (hK : X.K = K := by rfl) (hbase : attributeBase o "index" X.env (eval o X.env) = eval o X.env := by rfl)
    (hfew : ((backTo pos (starEach (e :: es) X.env)).all (fun x => !x.1) && (backToKw pos (keywordEach [] X.env)).all (fun x => x.1.isSome)
      && decide ((e :: es).length + ([] : List Keyword).length + (if ([] : List Keyword).isEmpty then 0 else 1) < 30)) = true := by rfl)
    (hline : (apos.endLine == pos.line) = true := by rfl) (hs : starEach (e :: es) X.env = (false, eval e X.env) :: starEach es X.env := by rfl) (hplain : (backTo pos (starEach es X.env)).any (·.1) = false := by rfl) :
    PE X (.Call (.Attribute o "index" apos) (e :: es) [] pos) (tBM K "list" (rIndex K) to t) := by
  subst hK
  exact pe_bm PySem.F.plainAttrs_list PySem.F.slot_list_index PySem.F.type_list_index mt_index ho he hbase hfew hline hs hplain
end
/-! ### no call at all -/
theorem fnOk_no {P : Program} {w : World} {K : PySem.W.Frag} {mg : Str → Option Value} {base : Heap} {k : Nat} {f : Addr} {fd : FuncData} {ps : List Str} : FnOk P w K mg base CX0 k f fd ps (PSp K fun _ _ => False) :=
  ⟨fun _ _ _ _ ⟨_, _, h, _⟩ => h.elim, fun _ _ _ _ _ _ _ _ _ _ _ _ _ ⟨_, _, h, _⟩ => h.elim⟩
end Tx
namespace Tx
open PySem PySem.Spec PyProof.Rows L2 Evl
/-! ### the law's rows -/
def tblF (k : Int) : Int := if k = 2 then 1 else if k = 3 then -1 else if k = 4 then 2 else if k = 5 then -2 else 0
theorem tbl_at {k : Int} (h0 : 0 ≤ k) (h1 : k < 6) : atI [di 0, di 0, di 1, di (-1), di 2, di (-2)] k = some (di (tblF k)) := by
  have h : k = 0 ∨ k = 1 ∨ k = 2 ∨ k = 3 ∨ k = 4 ∨ k = 5 := by omega
  rcases h with rfl | rfl | rfl | rfl | rfl | rfl <;> rfl
def rowE (ns : List Int) (start way : Int) (acc : List Int) (k : Nat) : Int :=
  let m := mixF (pickF ns (start + k)) k
  if way = 0 then m / 7 % 10 else if way = 1 then m / 7 % 3 else min 9 (max 0 (acc.getLastD 0 + tblF (m / 7 % 6)))
def rowS (ns : List Int) (start way : Int) : Nat → List Int
  | 0 => []
  | k + 1 => rowS ns start way k ++ [rowE ns start way (rowS ns start way k) k]
theorem rowS_len (ns : List Int) (start way : Int) : ∀ k, (rowS ns start way k).length = k
  | 0 => rfl
  | k + 1 => by rw [rowS, List.length_append, rowS_len ns start way k] <;> rfl
theorem rowE_bound (ns : List Int) (start way : Int) (acc : List Int) (k : Nat) : 0 ≤ rowE ns start way acc k ∧ rowE ns start way acc k ≤ 9 := by
  unfold rowE
  dsimp only
  split
  · omega
  · split
    · omega
    · omega
theorem rowS_bound (ns : List Int) (start way : Int) : ∀ k, ∀ x ∈ rowS ns start way k, 0 ≤ x ∧ x ≤ 9
  | 0, x, h => nomatch h
  | k + 1, x, h => by
    rw [rowS, List.mem_append] at h
    rcases h with h | h
    · exact rowS_bound ns start way k x h
    · rw [List.mem_singleton] at h
      subst h
      exact rowE_bound ..
def R_law_row (xs : List D) (d : D) : Prop := ∃ ns start size way, xs = [dI ns, di start, di size, di way] ∧ (0 ≤ start ∧ start ≤ 10 ∧ 0 ≤ size ∧ size ≤ 60) ∧ d = dI (rowS ns start way size.toNat)
/-- longest rows of neighbours that are hi, each by F -/
def segs (hi : Nat → Bool) (F : List Nat → List Nat) : List Nat → List Nat
  | [] => []
  | p :: r => if hi p then F (p :: r.takeWhile hi) ++ segs hi F (r.dropWhile hi) else p :: segs hi F r
termination_by ps => ps.length
decreasing_by
  · have := (List.dropWhile_sublist hi (l := r)).length_le
    simp only [List.length_cons]
    omega
  · simp only [List.length_cons]
    omega
theorem segs_nil (hi : Nat → Bool) (F : List Nat → List Nat) : segs hi F [] = [] := by rw [segs]
theorem segs_cons (hi : Nat → Bool) (F : List Nat → List Nat) (p : Nat) (r : List Nat) : segs hi F (p :: r) = if hi p then F (p :: r.takeWhile hi) ++ segs hi F (r.dropWhile hi) else p :: segs hi F r := by rw [segs]
theorem segs_yes {hi : Nat → Bool} {F : List Nat → List Nat} {ps : List Nat} (h : ps.takeWhile hi ≠ []) : segs hi F ps = F (ps.takeWhile hi) ++ segs hi F (ps.dropWhile hi) := by
  cases ps with
  | nil => exact absurd rfl h
  | cons p r =>
    rw [segs_cons]
    by_cases hp : hi p = true
    · rw [if_pos hp, List.takeWhile_cons_of_pos hp, List.dropWhile_cons_of_pos hp]
    · rw [List.takeWhile_cons_of_neg hp] at h
      exact absurd rfl h
def above (row : List Int) (lv : Int) (p : Nat) : Bool := decide (lv < row.getD p 0)
def lord (row : List Int) : Nat → Int → List Nat → List Nat
  | 0, _, ps => ps
  | f + 1, lv, ps => segs (above row lv) (fun g => (lord row f (lv + 1) g).reverse) ps
theorem segs_len {hi : Nat → Bool} {F : List Nat → List Nat} (hF : ∀ g, (F g).length = g.length) : ∀ (n : Nat) (ps : List Nat), ps.length ≤ n → (segs hi F ps).length = ps.length
  | _, [], _ => by rw [segs_nil]
  | 0, p :: r, h => by simp at h
  | n + 1, p :: r, h => by
    rw [segs_cons]
    have hd := (List.dropWhile_sublist hi (l := r)).length_le
    have he : (r.takeWhile hi).length + (r.dropWhile hi).length = r.length := by rw [← List.length_append, List.takeWhile_append_dropWhile]
    simp only [List.length_cons] at h
    split
    · rw [List.length_append, hF, segs_len hF n _ (by omega), List.length_cons, List.length_cons]
      omega
    · rw [List.length_cons, segs_len hF n r (by omega), List.length_cons]
theorem lord_len (row : List Int) : ∀ (f : Nat) (lv : Int) (ps : List Nat), (lord row f lv ps).length = ps.length
  | 0, _, _ => rfl
  | f + 1, lv, ps => by
    rw [lord]
    exact segs_len (fun g => by rw [List.length_reverse, lord_len row f]) _ _ (Nat.le_refl _)
def R_lord (f : Nat) (xs : List D) (d : D) : Prop := ∃ rs ps lv, xs = [dI rs, dN ps, di lv] ∧ (rs.length ≤ 60 ∧ (∀ p ∈ ps, p < rs.length) ∧ ps.length ≤ 60 ∧ ∀ x ∈ rs, x ≤ lv + f) ∧ d = dN (lord rs f lv ps)
/-- the order put together from the inside -/
def R_law_order (xs : List D) (d : D) : Prop := ∃ rs ps, xs = [dI rs, dN ps, di 0] ∧ (Lv rs ∧ (∀ p ∈ ps, p < rs.length) ∧ ps.length ≤ 60) ∧ d = dN (lord rs 10 0 ps)
end Tx
namespace Tx
open PySem PySem.Spec PyProof.Rows L2 Evl
section
variable {K : PySem.W.Frag} {σ : L2.St} {H : Hp} {t : TT} {De : Ends} {tu tz : TS}
/-- while, the word with a number that falls -/
theorem q_whileO (Pv : Nat → L2.St → Hp → Prop) {m0 : Nat} (h0 : Pv m0 σ H)
    (hs : ∀ m σ' H', Pv m σ' H' → ∃ b, EvT t σ' H' b ∧ (b = true → ∀ H1, Ex H' H1 → tu { De with nx := fun σ2 H2 => ∃ m', m' < m ∧ Pv m' σ2 H2, ct := fun σ2 H2 => ∃ m', m' < m ∧ Pv m' σ2 H2, bk := tz De } σ' H1) ∧ (b = false → ∀ H1, Ex H' H1 → tz De σ' H1)) : tSeq (tWhile t tu) tz De σ H :=
  Evl.q_while Pv m0 h0 fun m σ' H' p => by
    obtain ⟨b, h1, h2, h3⟩ := hs m σ' H' p
    exact ⟨b, h1, fun hb H1 e => ⟨fun σ2 H2 => ∃ m', m' < m ∧ Pv m' σ2 H2, fun _ _ h => h, h2 hb H1 e⟩, h3⟩
end
theorem takeWhile_of {hi : Nat → Bool} : ∀ {l : List Nat} {k : Nat}, (∀ x ∈ l.take k, hi x = true) → (∀ y, l[k]? = some y → hi y = false) → l.takeWhile hi = l.take k ∧ l.dropWhile hi = l.drop k
  | [], k, _, _ => by simp
  | x :: r, 0, _, h => by
    have hx := h x rfl
    simp [List.takeWhile_cons, List.dropWhile_cons, hx]
  | x :: r, k + 1, h1, h2 => by
    have hx := h1 x (by simp)
    obtain ⟨e1, e2⟩ := takeWhile_of (l := r) (k := k) (fun y hy => h1 y (by simp [hy])) (fun y hy => h2 y (by simpa using hy))
    rw [List.takeWhile_cons_of_pos hx, List.dropWhile_cons_of_pos hx, e1, e2]
    exact ⟨rfl, rfl⟩
theorem cut_nat {α : Type} (l : List α) {a e : Nat} (h : e ≤ l.length) : (l.drop (HT.sIx l.length 0 (some (a : Int)))).take (HT.sIx l.length l.length (some (e : Int)) - HT.sIx l.length 0 (some (a : Int))) = (l.drop a).take (e - a) := by
  rw [HT.sIx_nat, HT.sIx_nat, Nat.min_eq_left h]
  by_cases ha : a ≤ l.length
  · rw [Nat.min_eq_left ha]
  · have h1 : l.drop (min a l.length) = [] := List.drop_eq_nil_iff.mpr (by omega)
    have h2 : l.drop a = [] := List.drop_eq_nil_iff.mpr (by omega)
    rw [h1, h2, List.take_nil, List.take_nil]
theorem cut_to {α : Type} (l : List α) {e : Nat} : (l.drop (HT.sIx l.length 0 none)).take (HT.sIx l.length l.length (some (e : Int)) - HT.sIx l.length 0 none) = l.take e := by
  rw [HT.sIx_nat, HT.sIx_none, List.drop_zero, Nat.sub_zero]
  by_cases h : e ≤ l.length
  · rw [Nat.min_eq_left h]
  · rw [Nat.min_eq_right (by omega), List.take_length, List.take_of_length_le (by omega)]
theorem cut_from {α : Type} (l : List α) {a : Nat} : (l.drop (HT.sIx l.length 0 (some (a : Int)))).take (HT.sIx l.length l.length none - HT.sIx l.length 0 (some (a : Int))) = l.drop a := by
  rw [HT.sIx_nat, HT.sIx_none]
  by_cases ha : a ≤ l.length
  · rw [Nat.min_eq_left ha, List.take_of_length_le (by rw [List.length_drop]; omega)]
  · have h1 : l.drop (min a l.length) = [] := List.drop_eq_nil_iff.mpr (by omega)
    have h2 : l.drop a = [] := List.drop_eq_nil_iff.mpr (by omega)
    rw [h1, h2, List.take_nil]
/-- what is asked of a call of the law's order, and of the calls within it -/
def LordStep (R' Rn : List D → D → Prop) : Prop := ∀ xs d, Rn xs d → ∃ (rs : List Int) (ps : List Nat) (lv : Int) (G : List Nat → List Nat), xs = [dI rs, dN ps, di lv] ∧ (rs.length ≤ 60 ∧ (∀ p ∈ ps, p < rs.length) ∧ ps.length ≤ 60) ∧
  (∀ g, g.Sublist ps → g ≠ [] → (∀ p ∈ g, above rs lv p = true) → R' [dI rs, dN g, di (lv + 1)] (dN (G g)) ∧ (G g).length = g.length) ∧ d = dN (segs (above rs lv) (fun g => (G g).reverse) ps)
theorem segs_no {hi : Nat → Bool} {F : List Nat → List Nat} : ∀ {ps : List Nat}, (∀ p ∈ ps, hi p = false) → segs hi F ps = ps
  | [], _ => segs_nil _ _
  | p :: r, h => by
    rw [segs_cons, if_neg (by rw [h p List.mem_cons_self]; decide), segs_no fun q hq => h q (List.mem_cons_of_mem _ hq)]
theorem above_no {rs : List Int} {lv : Int} (hm : ∀ x ∈ rs, x ≤ lv) {p : Nat} (hp : p < rs.length) : above rs lv p = false := by
  unfold above
  rw [decide_eq_false]
  have h : rs.getD p 0 ∈ rs := by
    rw [List.getD_eq_getElem?_getD, List.getElem?_eq_getElem hp]
    exact List.getElem_mem hp
  have := hm _ h
  omega
theorem lordStep0 : LordStep (fun _ _ => False) (R_lord 0) := by
  rintro xs d ⟨rs, ps, lv, rfl, ⟨h1, h2, h3, h4⟩, rfl⟩
  have hno : ∀ p ∈ ps, above rs lv p = false := fun p hp => above_no (fun x hx => by have := h4 x hx; omega) (h2 p hp)
  refine ⟨rs, ps, lv, id, rfl, ⟨h1, h2, h3⟩, fun g hg hne ha => ?_, ?_⟩
  · cases g with
    | nil => exact absurd rfl hne
    | cons p r =>
      have e1 := ha p List.mem_cons_self
      rw [hno p (hg.subset List.mem_cons_self)] at e1
      cases e1
  · rw [segs_no hno] <;> rfl
theorem lordStepS (n : Nat) : LordStep (R_lord n) (R_lord (n + 1)) := by
  rintro xs d ⟨rs, ps, lv, rfl, ⟨h1, h2, h3, h4⟩, rfl⟩
  refine ⟨rs, ps, lv, lord rs n (lv + 1), rfl, ⟨h1, h2, h3⟩, fun g hg hne ha => ⟨⟨rs, g, lv + 1, rfl, ⟨h1, fun p hp => h2 p (hg.subset hp), Nat.le_trans hg.length_le h3, fun x hx => ?_⟩, rfl⟩, lord_len ..⟩, rfl⟩
  have := h4 x hx
  omega
end Tx
namespace Tx
/-! ### rows of neighbours: plain lists -/
/-- what is made of a row of neighbours: as many, all hi again -/
def Keeps (hi : Nat → Bool) (F : List Nat → List Nat) : Prop := ∀ g, g ≠ [] → (∀ p ∈ g, hi p = true) → F g ≠ [] ∧ ∀ p ∈ F g, hi p = true
theorem segs_append_hi {hi : Nat → Bool} {F : List Nat → List Nat} {g r : List Nat} (hg : g ≠ []) (ha : ∀ p ∈ g, hi p = true) (hr : ∀ y s, r = y :: s → hi y = false) : segs hi F (g ++ r) = F g ++ segs hi F r := by
  have h1 : ∀ g : List Nat, (∀ p ∈ g, hi p = true) → (g ++ r).takeWhile hi = g ∧ (g ++ r).dropWhile hi = r := by
    intro g
    induction g with
    | nil =>
      intro _
      cases r with
      | nil => simp
      | cons y s =>
        have := hr y s rfl
        simp [List.takeWhile_cons, List.dropWhile_cons, this]
    | cons p s ih =>
      intro h
      obtain ⟨e1, e2⟩ := ih fun q hq => h q (List.mem_cons_of_mem _ hq)
      have hp := h p List.mem_cons_self
      rw [List.cons_append, List.takeWhile_cons_of_pos hp, List.dropWhile_cons_of_pos hp, e1, e2]
      exact ⟨rfl, rfl⟩
  obtain ⟨e1, e2⟩ := h1 g ha
  rw [segs_yes (by rw [e1]; exact hg), e1, e2]
theorem dropWhile_head {hi : Nat → Bool} : ∀ {l : List Nat} {y : Nat} {s : List Nat}, l.dropWhile hi = y :: s → hi y = false
  | [], _, _, h => by simp at h
  | x :: r, y, s, h => by
    by_cases hx : hi x = true
    · rw [List.dropWhile_cons_of_pos hx] at h
      exact dropWhile_head h
    · rw [List.dropWhile_cons_of_neg hx] at h
      have e : x = y := (List.cons.inj h).1
      rw [← e]
      exact Bool.eq_false_iff.mpr hx
theorem takeWhile_all {hi : Nat → Bool} : ∀ {l : List Nat}, ∀ p ∈ l.takeWhile hi, hi p = true
  | [], _, h => by simp at h
  | x :: r, p, h => by
    by_cases hx : hi x = true
    · rw [List.takeWhile_cons_of_pos hx] at h
      rcases List.mem_cons.mp h with rfl | h
      · exact hx
      · exact takeWhile_all p h
    · rw [List.takeWhile_cons_of_neg hx] at h
      simp at h
/-- the first row of segs is not hi if none of the list's is -/
theorem segs_head {hi : Nat → Bool} {F : List Nat → List Nat} {r : List Nat} (h : ∀ y s, r = y :: s → hi y = false) : ∀ y s, segs hi F r = y :: s → hi y = false := by
  intro y s e
  cases r with
  | nil => rw [segs_nil] at e; cases e
  | cons p t =>
    have hp := h p t rfl
    rw [segs_cons, if_neg (by rw [hp]; decide)] at e
    rw [← (List.cons.inj e).1]
    exact hp
theorem segs_comp {hi : Nat → Bool} {F G : List Nat → List Nat} (kF : Keeps hi F) : ∀ (n : Nat) (ps : List Nat), ps.length ≤ n → segs hi G (segs hi F ps) = segs hi (fun g => G (F g)) ps
  | _, [], _ => by rw [segs_nil, segs_nil, segs_nil]
  | 0, p :: r, h => by simp at h
  | n + 1, p :: r, h => by
    have hd := (List.dropWhile_sublist hi (l := r)).length_le
    simp only [List.length_cons] at h
    rw [segs_cons, segs_cons (F := fun g => G (F g))]
    by_cases hp : hi p = true
    · rw [if_pos hp, if_pos hp]
      have hall : ∀ q ∈ p :: r.takeWhile hi, hi q = true := fun q hq => by
        rcases List.mem_cons.mp hq with rfl | hq
        · exact hp
        · exact takeWhile_all q hq
      obtain ⟨k1, k2⟩ := kF (p :: r.takeWhile hi) (by simp) hall
      rw [segs_append_hi k1 k2 (segs_head fun y s e => dropWhile_head e), segs_comp kF n _ (by omega)]
    · rw [if_neg hp, if_neg hp, segs_cons, if_neg hp, segs_comp kF n r (by omega)]
theorem segs_congr {hi : Nat → Bool} {F G : List Nat → List Nat} (h : ∀ g, g ≠ [] → (∀ p ∈ g, hi p = true) → F g = G g) : ∀ (n : Nat) (ps : List Nat), ps.length ≤ n → segs hi F ps = segs hi G ps
  | _, [], _ => by rw [segs_nil, segs_nil]
  | 0, p :: r, h => by simp at h
  | n + 1, p :: r, hl => by
    have hd := (List.dropWhile_sublist hi (l := r)).length_le
    simp only [List.length_cons] at hl
    rw [segs_cons, segs_cons]
    by_cases hp : hi p = true
    · rw [if_pos hp, if_pos hp, segs_congr h n _ (by omega), h _ (by simp) fun q hq => by
        rcases List.mem_cons.mp hq with rfl | hq
        · exact hp
        · exact takeWhile_all q hq]
    · rw [if_neg hp, if_neg hp, segs_congr h n r (by omega)]
/-- F works within the rows of neighbours that are hi -/
def Loc (hi : Nat → Bool) (F : List Nat → List Nat) : Prop := ∀ ps, F ps = segs hi F ps
theorem Loc.comp {hi : Nat → Bool} {F G : List Nat → List Nat} (lF : Loc hi F) (lG : Loc hi G) (kF : Keeps hi F) : Loc hi (fun ps => G (F ps)) := fun ps => by
  show G (F ps) = _
  rw [← segs_comp kF _ _ (Nat.le_refl _), ← lF ps]
  exact lG _
theorem Loc.id {hi : Nat → Bool} : Loc hi (fun ps => ps) := fun ps => by
  suffices h : ∀ (n : Nat) (ps : List Nat), ps.length ≤ n → ps = segs hi (fun ps => ps) ps from h _ ps (Nat.le_refl _)
  intro n
  induction n with
  | zero =>
    intro ps h
    cases ps with
    | nil => rw [segs_nil]
    | cons p r => simp at h
  | succ n ih =>
    intro ps h
    cases ps with
    | nil => rw [segs_nil]
    | cons p r =>
      simp only [List.length_cons] at h
      have hd := (List.dropWhile_sublist hi (l := r)).length_le
      rw [segs_cons]
      by_cases hp : hi p = true
      · rw [if_pos hp, ← ih _ (by omega), List.cons_append, List.takeWhile_append_dropWhile]
      · rw [if_neg hp, ← ih r (by omega)]
/-- rows of neighbours of fewer lie within rows of neighbours of more -/
theorem Loc.segs {hi hi' : Nat → Bool} {F : List Nat → List Nat} (hs : ∀ p, hi' p = true → hi p = true) (hn : F [] = []) : Loc hi (segs hi' F) := fun ps => by
  suffices h : ∀ (n : Nat) (ps : List Nat), ps.length ≤ n → Tx.segs hi' F ps = Tx.segs hi (Tx.segs hi' F) ps from h _ ps (Nat.le_refl _)
  -- a list of hi ones ahead of one that is not
  have split : ∀ (n : Nat) (g r : List Nat), g.length ≤ n → (∀ y s, r = y :: s → hi y = false) → Tx.segs hi' F (g ++ r) = Tx.segs hi' F g ++ Tx.segs hi' F r := by
    intro n
    induction n with
    | zero =>
      intro g r h _
      cases g with
      | nil => rw [segs_nil] <;> rfl
      | cons p s => simp at h
    | succ n ih =>
      intro g r h hr
      cases g with
      | nil => rw [segs_nil] <;> rfl
      | cons p s =>
        simp only [List.length_cons] at h
        have hd := (List.dropWhile_sublist hi' (l := s)).length_le
        rw [List.cons_append, segs_cons, segs_cons]
        by_cases hp : hi' p = true
        · rw [if_pos hp, if_pos hp]
          by_cases ha : s.dropWhile hi' = []
          · have hall : ∀ q ∈ s, hi' q = true := fun q hq => by
              have e := List.takeWhile_append_dropWhile (p := hi') (l := s)
              rw [ha, List.append_nil] at e
              rw [← e] at hq
              exact takeWhile_all q hq
            have hr' : ∀ y t, r = y :: t → hi' y = false := fun y t e => by
              cases hy : hi' y with
              | false => rfl
              | true => exact absurd (hs y hy) (by rw [hr y t e]; decide)
            have e1 : (s ++ r).takeWhile hi' = s ∧ (s ++ r).dropWhile hi' = r := by
              have h3 := takeWhile_of (hi := hi') (l := s ++ r) (k := s.length) (fun x hx => by
                rw [List.take_left] at hx
                exact hall x hx) (fun y hy => by
                  rw [List.getElem?_append_right (Nat.le_refl _), Nat.sub_self] at hy
                  cases r with
                  | nil => simp at hy
                  | cons z t =>
                    have : z = y := Option.some.inj hy
                    subst this
                    exact hr' z t rfl)
              rw [List.take_left, List.drop_left] at h3
              exact h3
            have e2 : s.takeWhile hi' = s := by
              have e := List.takeWhile_append_dropWhile (p := hi') (l := s)
              rw [ha, List.append_nil] at e
              exact e
            rw [e1.1, e1.2, ha, e2, segs_nil, List.append_nil]
          · have e1 : (s ++ r).takeWhile hi' = s.takeWhile hi' ∧ (s ++ r).dropWhile hi' = s.dropWhile hi' ++ r := by
              clear h ih
              induction s with
              | nil => exact absurd rfl ha
              | cons x t iht =>
                by_cases hx : hi' x = true
                · rw [List.dropWhile_cons_of_pos hx] at ha
                  have hd' := (List.dropWhile_sublist hi' (l := t)).length_le
                  obtain ⟨e1, e2⟩ := iht hd' ha
                  rw [List.cons_append, List.takeWhile_cons_of_pos hx, List.takeWhile_cons_of_pos hx, List.dropWhile_cons_of_pos hx, List.dropWhile_cons_of_pos hx, e1, e2]
                  exact ⟨rfl, rfl⟩
                · rw [List.cons_append, List.takeWhile_cons_of_neg hx, List.takeWhile_cons_of_neg hx, List.dropWhile_cons_of_neg hx, List.dropWhile_cons_of_neg hx]
                  exact ⟨rfl, rfl⟩
            rw [e1.1, e1.2, ih _ r (by omega) hr, List.append_assoc]
        · rw [if_neg hp, if_neg hp, ih s r (by omega) hr, List.cons_append]
  intro n
  induction n with
  | zero =>
    intro ps h
    cases ps with
    | nil => rw [segs_nil, segs_nil]
    | cons p r => simp at h
  | succ n ih =>
    intro ps h
    cases ps with
    | nil => rw [segs_nil, segs_nil]
    | cons p r =>
      simp only [List.length_cons] at h
      have hd := (List.dropWhile_sublist hi (l := r)).length_le
      rw [segs_cons (hi := hi)]
      by_cases hp : hi p = true
      · rw [if_pos hp, ← ih _ (by omega), ← split _ (p :: r.takeWhile hi) (r.dropWhile hi) (Nat.le_refl _) (fun y s e => dropWhile_head e), List.cons_append, List.takeWhile_append_dropWhile]
      · rw [if_neg hp, ← ih r (by omega), segs_cons, if_neg (fun h' => hp (hs p h'))]

/-! ### turned is segs -/
theorem tfold_run (hi : Nat → Bool) : ∀ (n : Nat) (ps : List Nat), ps.length ≤ n → ∀ f g : List Nat, (∀ p ∈ g, hi p = true) →
    (ps.foldl (tstep hi) (f, g)).1 ++ (ps.foldl (tstep hi) (f, g)).2.reverse = f ++ (g ++ ps.takeWhile hi).reverse ++ segs hi List.reverse (ps.dropWhile hi)
  | _, [], _, f, g, _ => by simp [segs_nil]
  | 0, p :: r, h, _, _, _ => by simp at h
  | n + 1, p :: r, h, f, g, hg => by
    simp only [List.length_cons] at h
    rw [List.foldl_cons]
    by_cases hp : hi p = true
    · rw [show tstep hi (f, g) p = (f, g ++ [p]) by unfold tstep; rw [if_pos hp], tfold_run hi n r (by omega) f (g ++ [p]) (fun q hq => by
        rcases List.mem_append.mp hq with hq | hq
        · exact hg q hq
        · rw [List.mem_singleton.mp hq]; exact hp), List.takeWhile_cons_of_pos hp, List.dropWhile_cons_of_pos hp]
      simp
    · rw [show tstep hi (f, g) p = (f ++ g.reverse ++ [p], []) by unfold tstep; rw [if_neg hp], tfold_run hi n r (by omega) _ [] (fun _ h => nomatch h), List.takeWhile_cons_of_neg hp, List.dropWhile_cons_of_neg hp, segs_cons, if_neg hp]
      have e : segs hi List.reverse r = (r.takeWhile hi).reverse ++ segs hi List.reverse (r.dropWhile hi) := by
        cases r with
        | nil => simp [segs_nil]
        | cons x t =>
          by_cases hx : hi x = true
          · exact segs_yes (by rw [List.takeWhile_cons_of_pos hx]; simp)
          · rw [List.takeWhile_cons_of_neg hx, List.dropWhile_cons_of_neg hx] <;> simp
      rw [e]
      simp
theorem turnedF_segs (row : List Int) (lv : Int) (ps : List Nat) : turnedF row lv ps = segs (hiF row lv) List.reverse ps := by
  unfold turnedF tfold
  rw [tfold_run _ _ _ (Nat.le_refl _) [] [] (fun _ h => nomatch h)]
  simp only [List.nil_append]
  cases ps with
  | nil => simp [segs_nil]
  | cons x t =>
    by_cases hx : hiF row lv x = true
    · exact (segs_yes (by rw [List.takeWhile_cons_of_pos hx]; simp)).symm
    · rw [List.takeWhile_cons_of_neg hx, List.dropWhile_cons_of_neg hx] <;> simp
/-- from the level l + f down to l + 1 -/
def down (row : List Int) : Nat → Int → List Nat → List Nat
  | 0, _, ps => ps
  | f + 1, l, ps => turnedF row (l + 1) (down row f (l + 1) ps)
theorem keeps_rev (hi : Nat → Bool) : Keeps hi List.reverse := fun g hg ha => ⟨by simpa using hg, fun p hp => ha p (List.mem_reverse.mp hp)⟩
theorem down_perm (row : List Int) : ∀ (f : Nat) (l : Int) (ps : List Nat), (down row f l ps).Perm ps
  | 0, _, _ => List.Perm.refl _
  | f + 1, l, ps => (turnedF_perm _ _ _).trans (down_perm row f (l + 1) ps)
theorem keeps_perm {hi : Nat → Bool} {F : List Nat → List Nat} (h : ∀ ps, (F ps).Perm ps) : Keeps hi F := fun g hg ha => ⟨fun z => hg (by
    have := (h g).length_eq
    rw [z] at this
    exact List.eq_nil_of_length_eq_zero this.symm), fun p hp => ha p ((h g).mem_iff.mp hp)⟩
theorem hiF_mono {row : List Int} {a b : Int} (h : a ≤ b) {p : Nat} (hp : hiF row b p = true) : hiF row a p = true := by
  unfold hiF at hp ⊢
  exact decide_eq_true (Int.le_trans h (of_decide_eq_true hp))
theorem turnedF_loc (row : List Int) {a b : Int} (h : a ≤ b) : Loc (hiF row a) (turnedF row b) := by
  have e : turnedF row b = segs (hiF row b) List.reverse := funext fun ps => turnedF_segs row b ps
  rw [e]
  exact Loc.segs (fun p hp => hiF_mono h hp) rfl
theorem down_loc (row : List Int) : ∀ (f : Nat) {a l : Int}, a ≤ l + 1 → Loc (hiF row a) (down row f l)
  | 0, _, _, _ => Loc.id
  | f + 1, a, l, h => by
    have g := Loc.comp (F := down row f (l + 1)) (G := turnedF row (l + 1)) (down_loc row f (by omega)) (turnedF_loc row h) (keeps_perm (down_perm row f (l + 1)))
    exact g
theorem above_hi (row : List Int) (l : Int) : above row l = hiF row (l + 1) := by
  funext p
  unfold above hiF
  by_cases h : l < row.getD p 0
  · rw [decide_eq_true h, decide_eq_true (by omega)]
  · rw [decide_eq_false h, decide_eq_false (by omega)]
theorem lord_down (row : List Int) : ∀ (f : Nat) (l : Int) (ps : List Nat), lord row f l ps = down row f l ps
  | 0, _, _ => rfl
  | f + 1, l, ps => by
    rw [lord, down, turnedF_segs, above_hi]
    rw [down_loc row f (a := l + 1) (l := l + 1) (by omega) ps]
    rw [segs_comp (keeps_perm (down_perm row f (l + 1))) _ _ (Nat.le_refl _)]
    exact segs_congr (fun g _ _ => by rw [lord_down row f]) _ _ (Nat.le_refl _)
theorem getD_le_max {row : List Int} (h : Lv row) (p : Nat) : row.getD p 0 ≤ maxd 0 row := by
  have hall : ∀ (r : List Int) (n : Int), n ≤ r.foldl max n ∧ ∀ x ∈ r, x ≤ r.foldl max n := by
    intro r
    induction r with
    | nil => intro n; exact ⟨Int.le_refl _, fun _ h => nomatch h⟩
    | cons y s ih =>
      intro n
      rw [List.foldl_cons]
      obtain ⟨h1, h2⟩ := ih (max n y)
      refine ⟨by omega, fun x hx => ?_⟩
      rcases List.mem_cons.mp hx with rfl | hx
      · omega
      · exact h2 x hx
  have h0 := h.max.1
  cases row with
  | nil => simp [maxd]
  | cons n r =>
    obtain ⟨h1, h2⟩ := hall r n
    rw [List.getD_eq_getElem?_getD]
    cases e : (n :: r)[p]? with
    | none => simp only [Option.getD_none]; exact h0
    | some x =>
      simp only [Option.getD_some]
      have hx : x ∈ n :: r := List.mem_of_getElem? e
      rcases List.mem_cons.mp hx with rfl | hx
      · exact h1
      · exact h2 x hx
theorem down_id {row : List Int} (h : Lv row) : ∀ (f : Nat) (l : Int) (ps : List Nat), maxd 0 row ≤ l → down row f l ps = ps
  | 0, _, _, _ => rfl
  | f + 1, l, ps, hl => by
    rw [down, down_id h f (l + 1) ps (by omega), turnedF_segs]
    exact segs_no fun p _ => by
      unfold hiF
      have := getD_le_max h p
      exact decide_eq_false (by omega)
theorem down_ord {row : List Int} (h : Lv row) : ∀ (f : Nat) (l : Int), l ≤ maxd 0 row → maxd 0 row ≤ l + f → down row f l (List.range row.length) = ordS row (maxd 0 row) (maxd 0 row - l).toNat
  | 0, l, h1, h2 => by
    rw [show (maxd 0 row - l).toNat = 0 by omega] <;> rfl
  | f + 1, l, h1, h2 => by
    by_cases hl : l = maxd 0 row
    · rw [down_id h _ _ _ (by omega), hl, show (maxd 0 row - maxd 0 row).toNat = 0 by omega] <;> rfl
    · obtain ⟨k, hk⟩ : ∃ k : Nat, (maxd 0 row - l).toNat = k + 1 := ⟨(maxd 0 row - l).toNat - 1, by omega⟩
      rw [down, down_ord h f (l + 1) (by omega) (by omega), hk, ordS, show (maxd 0 row - (l + 1)).toNat = k by omega, show maxd 0 row - (k : Int) = l + 1 by omega]
theorem order_down {row : List Int} (h : Lv row) : orderF row = down row 10 0 (List.range row.length) := by
  have := h.max
  rw [down_ord h 10 0 (by omega) (by omega), orderF, Int.sub_zero]
/-- both orders agree -/
theorem order_lord {row : List Int} (h : Lv row) : lord row 10 0 (List.range row.length) = orderF row := by rw [lord_down, order_down h]
/-! ### seen_at is the place in the order -/
theorem seenS_get {ps : List Nat} {n : Nat} (hnd : ps.Nodup) (hlt : ∀ p ∈ ps, p < n) : ∀ m, m ≤ ps.length → ∀ j, j < m → ∀ p, ps[j]? = some p → (seenS ps n m)[p]? = some j
  | 0, _, j, hj, _, _ => by omega
  | m + 1, hm, j, hj, p, hp => by
    rw [seenS]
    have hmlt : m < ps.length := by omega
    have em : ps.getD m 0 = ps[m] := by rw [List.getD_eq_getElem?_getD, List.getElem?_eq_getElem hmlt] <;> rfl
    rw [em]
    have hpm : p < n := hlt p (List.mem_of_getElem? hp)
    by_cases e : j = m
    · subst e
      rw [List.getElem?_eq_getElem hmlt] at hp
      have : ps[j] = p := Option.some.inj hp
      rw [this, List.getElem?_set_self (by rw [seenS_len]; exact hpm)]
    · have hne : ps[m] ≠ p := fun z => by
        obtain ⟨h1, h2⟩ := List.getElem?_eq_some_iff.mp hp
        exact e ((List.getElem_inj hnd).mp (h2.trans z.symm))
      rw [List.getElem?_set_ne hne]
      exact seenS_get hnd hlt m (by omega) j (by omega) p hp
theorem orderF_nodup (row : List Int) : (orderF row).Nodup := (orderF_perm row).nodup_iff.mpr List.nodup_range
theorem orderF_mem {row : List Int} {p : Nat} (h : p < row.length) : p ∈ orderF row := (orderF_perm row).mem_iff.mpr (List.mem_range.mpr h)
theorem seenF_get {row : List Int} {j p : Nat} (h : (orderF row)[j]? = some p) : (seenF row)[p]? = some j := by
  have hj := (List.getElem?_eq_some_iff.mp h).1
  have hl := orderF_len row
  unfold seenF
  exact seenS_get (orderF_nodup row) (fun p hp => orderF_lt hp) row.length (by omega) j (by omega) p h
theorem seenF_idx (row : List Int) : seenF row = (List.range row.length).map fun a => (orderF row).idxOf a := by
  apply List.ext_getElem?
  intro p
  by_cases hp : p < row.length
  · rw [List.getElem?_map, List.getElem?_range hp]
    have hm := orderF_mem hp
    have hi := List.idxOf_lt_length_of_mem hm
    refine seenF_get ?_
    rw [List.getElem?_eq_getElem hi, List.getElem_idxOf]
  · rw [List.getElem?_eq_none (by rw [seenF_len]; omega), List.getElem?_eq_none (by rw [List.length_map, List.length_range]; omega)]
end Tx
namespace Tx
open PySem PySem.Spec PyProof.Rows L2 Evl
def R_law (xs : List D) (d : D) : Prop := ∃ ns, xs = [dI ns] ∧ ns.length ≤ 63 ∧ d = db true
theorem Dat.evVar {K : PySem.W.Frag} {σ : L2.St} {H : Hp} {i : Nat} {x : V} {z : D} (h : σ[i]? = some (some x)) (hd : Dat K H z x) : EvD K (tVar i) σ H z := ev_var h hd
theorem idx_get {l : List Nat} {a : Nat} (h : a ∈ l) : l[l.idxOf a]? = some a := by
  have hi := List.idxOf_lt_length_of_mem h
  rw [List.getElem?_eq_getElem hi, List.getElem_idxOf]
theorem idx_no {l : List Nat} {a m c : Nat} (hm : m < l.idxOf a) (hc : l[m]? = some c) : eqV (V.int c) (V.int a) = false := by
  have hne : c ≠ a := fun z => by
    subst z
    obtain ⟨h1, h2⟩ := List.getElem?_eq_some_iff.mp hc
    unfold List.idxOf at hm
    have := List.not_of_lt_findIdx hm
    rw [h2] at this
    simp at this
  unfold eqV
  simp
  omega
end Tx
namespace Tx
open PySem PySem.Spec PyProof.Rows L2 Evl
/-! ### naming the places anew -/
theorem takeWhile_map {hi hi' : Nat → Bool} {g : Nat → Nat} : ∀ {ps : List Nat}, (∀ p ∈ ps, hi' p = hi (g p)) → (ps.map g).takeWhile hi = (ps.takeWhile hi').map g ∧ (ps.map g).dropWhile hi = (ps.dropWhile hi').map g
  | [], _ => by simp
  | p :: r, h => by
    obtain ⟨e1, e2⟩ := takeWhile_map (ps := r) fun q hq => h q (List.mem_cons_of_mem _ hq)
    have hp := h p List.mem_cons_self
    by_cases hx : hi' p = true
    · have hy : hi (g p) = true := hp ▸ hx
      rw [List.map_cons, List.takeWhile_cons_of_pos hy, List.takeWhile_cons_of_pos hx, List.dropWhile_cons_of_pos hy, List.dropWhile_cons_of_pos hx, e1, e2]
      exact ⟨rfl, rfl⟩
    · have hy : ¬ hi (g p) = true := hp ▸ hx
      rw [List.map_cons, List.takeWhile_cons_of_neg hy, List.takeWhile_cons_of_neg hx, List.dropWhile_cons_of_neg hy, List.dropWhile_cons_of_neg hx]
      exact ⟨rfl, rfl⟩
theorem segs_map {hi hi' : Nat → Bool} {g : Nat → Nat} {F F' : List Nat → List Nat} (hF : ∀ l, (F' l).map g = F (l.map g)) : ∀ (n : Nat) (ps : List Nat), ps.length ≤ n → (∀ p ∈ ps, hi' p = hi (g p)) → (segs hi' F' ps).map g = segs hi F (ps.map g)
  | _, [], _, _ => by rw [segs_nil, List.map_nil, segs_nil]
  | 0, p :: r, h, _ => by simp at h
  | n + 1, p :: r, hl, h => by
    simp only [List.length_cons] at hl
    have hd := (List.dropWhile_sublist hi' (l := r)).length_le
    have hr : ∀ q ∈ r, hi' q = hi (g q) := fun q hq => h q (List.mem_cons_of_mem _ hq)
    have hp := h p List.mem_cons_self
    obtain ⟨e1, e2⟩ := takeWhile_map hr
    rw [List.map_cons, segs_cons, segs_cons, ← hp]
    by_cases hx : hi' p = true
    · rw [if_pos hx, if_pos hx, List.map_append, hF, List.map_cons, e1, e2, segs_map hF n _ (by omega) fun q hq => hr q ((List.dropWhile_sublist hi').subset hq)]
    · rw [if_neg hx, if_neg hx, List.map_cons, segs_map hF n r (by omega) hr]
theorem turnedF_map {row row' : List Int} {lv lv' : Int} {g : Nat → Nat} {ps : List Nat} (h : ∀ p ∈ ps, hiF row' lv' p = hiF row lv (g p)) : (turnedF row' lv' ps).map g = turnedF row lv (ps.map g) := by
  rw [turnedF_segs, turnedF_segs]
  exact segs_map (fun l => List.map_reverse) _ _ (Nat.le_refl _) h
theorem down_map {row row' : List Int} {g : Nat → Nat} : ∀ (f : Nat) (l : Int) (ps : List Nat), (∀ p ∈ ps, row'.getD p 0 = row.getD (g p) 0) → (down row' f l ps).map g = down row f l (ps.map g)
  | 0, _, _, _ => rfl
  | f + 1, l, ps, h => by
    rw [down, down, turnedF_map (row := row) (lv := l + 1) (g := g) (fun p hp => ?_), down_map f (l + 1) ps h]
    unfold hiF
    rw [h p ((down_perm row' f (l + 1) ps).mem_iff.mp hp)]
/-! ### turned about twice -/
theorem segs_snoc {hi : Nat → Bool} {F : List Nat → List Nat} (y : Nat) (hy : hi y = false) : ∀ (n : Nat) (ps : List Nat), ps.length ≤ n → segs hi F (ps ++ [y]) = segs hi F ps ++ [y]
  | _, [], _ => by rw [List.nil_append, segs_cons, if_neg (by rw [hy]; decide), segs_nil] <;> rfl
  | 0, p :: r, h => by simp at h
  | n + 1, p :: r, h => by
    simp only [List.length_cons] at h
    have hd := (List.dropWhile_sublist hi (l := r)).length_le
    have e : ∀ r : List Nat, (r ++ [y]).takeWhile hi = r.takeWhile hi ∧ (r ++ [y]).dropWhile hi = r.dropWhile hi ++ [y] := by
      intro r
      induction r with
      | nil => simp [List.takeWhile_cons, List.dropWhile_cons, hy]
      | cons x t ih =>
        by_cases hx : hi x = true
        · rw [List.cons_append, List.takeWhile_cons_of_pos hx, List.takeWhile_cons_of_pos hx, List.dropWhile_cons_of_pos hx, List.dropWhile_cons_of_pos hx, ih.1, ih.2]
          exact ⟨rfl, rfl⟩
        · rw [List.cons_append, List.takeWhile_cons_of_neg hx, List.takeWhile_cons_of_neg hx, List.dropWhile_cons_of_neg hx, List.dropWhile_cons_of_neg hx]
          exact ⟨rfl, rfl⟩
    rw [List.cons_append, segs_cons, segs_cons]
    by_cases hp : hi p = true
    · rw [if_pos hp, if_pos hp, (e r).1, (e r).2, segs_snoc y hy n _ (by omega), List.append_assoc]
    · rw [if_neg hp, if_neg hp, segs_snoc y hy n r (by omega), List.cons_append]
/-- apart where a place is not hi -/
theorem segs_split {hi : Nat → Bool} {F : List Nat → List Nat} (y : Nat) (hy : hi y = false) : ∀ (n : Nat) (ps qs : List Nat), ps.length ≤ n → segs hi F (ps ++ y :: qs) = segs hi F ps ++ y :: segs hi F qs
  | _, [], qs, _ => by rw [List.nil_append, segs_cons, if_neg (by rw [hy]; decide), segs_nil] <;> rfl
  | 0, p :: r, _, h => by simp at h
  | n + 1, p :: r, qs, h => by
    simp only [List.length_cons] at h
    have hd := (List.dropWhile_sublist hi (l := r)).length_le
    have e : ∀ r : List Nat, (r ++ y :: qs).takeWhile hi = r.takeWhile hi ∧ (r ++ y :: qs).dropWhile hi = r.dropWhile hi ++ y :: qs := by
      intro r
      induction r with
      | nil => simp [List.takeWhile_cons, List.dropWhile_cons, hy]
      | cons x t ih =>
        by_cases hx : hi x = true
        · rw [List.cons_append, List.takeWhile_cons_of_pos hx, List.takeWhile_cons_of_pos hx, List.dropWhile_cons_of_pos hx, List.dropWhile_cons_of_pos hx, ih.1, ih.2]
          exact ⟨rfl, rfl⟩
        · rw [List.cons_append, List.takeWhile_cons_of_neg hx, List.takeWhile_cons_of_neg hx, List.dropWhile_cons_of_neg hx, List.dropWhile_cons_of_neg hx]
          exact ⟨rfl, rfl⟩
    rw [List.cons_append, segs_cons, segs_cons]
    by_cases hp : hi p = true
    · rw [if_pos hp, if_pos hp, (e r).1, (e r).2, segs_split y hy n _ qs (by omega), List.append_assoc]
    · rw [if_neg hp, if_neg hp, segs_split y hy n r qs (by omega), List.cons_append]
theorem segs_all {hi : Nat → Bool} {F : List Nat → List Nat} {g : List Nat} (hg : g ≠ []) (h : ∀ p ∈ g, hi p = true) : segs hi F g = F g := by
  have e := segs_append_hi (F := F) (r := []) hg h (fun _ _ z => nomatch z)
  rw [List.append_nil, segs_nil, List.append_nil] at e
  exact e
/-- the whole list backwards -/
theorem segs_backwards {hi : Nat → Bool} {F : List Nat → List Nat} (hF : ∀ l, F l.reverse = (F l).reverse) : ∀ (n : Nat) (ps : List Nat), ps.length ≤ n → segs hi F ps.reverse = (segs hi F ps).reverse
  | _, [], _ => by rw [List.reverse_nil, segs_nil] <;> rfl
  | 0, p :: r, h => by simp at h
  | n + 1, p :: r, h => by
    simp only [List.length_cons] at h
    by_cases hp : hi p = true
    · -- the first row, then one that is not hi
      cases hdw : r.dropWhile hi with
      | nil =>
        have hall : ∀ q ∈ p :: r, hi q = true := fun q hq => by
          have e := List.takeWhile_append_dropWhile (p := hi) (l := r)
          rw [hdw, List.append_nil] at e
          rcases List.mem_cons.mp hq with rfl | hq
          · exact hp
          · rw [← e] at hq
            exact takeWhile_all q hq
        rw [segs_all (by simp) (fun q hq => hall q (List.mem_reverse.mp hq)), segs_all (by simp) hall, hF]
      | cons y s =>
        have hy := dropWhile_head hdw
        have e : p :: r = (p :: r.takeWhile hi) ++ y :: s := by rw [List.cons_append, ← hdw, List.takeWhile_append_dropWhile]
        have hls : (r.takeWhile hi).length + (s.length + 1) = r.length := by
          have := congrArg List.length (List.takeWhile_append_dropWhile (p := hi) (l := r))
          rw [hdw, List.length_append, List.length_cons] at this
          exact this
        have hall : ∀ q ∈ p :: r.takeWhile hi, hi q = true := fun q hq => by
          rcases List.mem_cons.mp hq with rfl | hq
          · exact hp
          · exact takeWhile_all q hq
        have hne : p :: r.takeWhile hi ≠ [] := by simp
        rw [e]
        generalize p :: r.takeWhile hi = g at hall hne
        rw [List.reverse_append, List.reverse_cons, List.append_assoc, List.singleton_append, segs_split y hy _ _ _ (Nat.le_refl _), segs_split y hy _ _ _ (Nat.le_refl _), List.reverse_append, List.reverse_cons,
          segs_backwards hF n s (by omega), segs_all (g := g.reverse) (by simpa using hne) (fun q hq => hall q (List.mem_reverse.mp hq)), segs_all hne hall, hF, List.append_assoc] <;> rfl
    · have hp' : hi p = false := Bool.eq_false_iff.mpr hp
      rw [List.reverse_cons, segs_snoc p hp' _ _ (Nat.le_refl _), segs_cons, if_neg hp, List.reverse_cons, segs_backwards hF n r (by omega)]
theorem turnedF_rev (row : List Int) (lv : Int) (ps : List Nat) : turnedF row lv ps.reverse = (turnedF row lv ps).reverse := by
  rw [turnedF_segs, turnedF_segs]
  exact segs_backwards (fun l => rfl) _ _ (Nat.le_refl _)
theorem turnedF_twice (row : List Int) (lv : Int) (ps : List Nat) : turnedF row lv (turnedF row lv ps) = ps := by
  rw [turnedF_segs, turnedF_segs, segs_comp (keeps_rev _) _ _ (Nat.le_refl _), segs_congr (G := fun g => g) (fun g _ _ => List.reverse_reverse g) _ _ (Nat.le_refl _)]
  exact (Loc.id ps).symm
theorem turnedF_comm (row : List Int) {a b : Int} (h : a ≤ b) (ps : List Nat) : turnedF row a (turnedF row b ps) = turnedF row b (turnedF row a ps) := by
  have hb : Loc (hiF row a) (turnedF row b) := turnedF_loc row h
  have ha : Loc (hiF row a) (turnedF row a) := turnedF_loc row (Int.le_refl a)
  have kb : Keeps (hiF row a) (turnedF row b) := keeps_perm (turnedF_perm row b)
  have ka : Keeps (hiF row a) (turnedF row a) := keeps_perm (turnedF_perm row a)
  rw [show turnedF row a (turnedF row b ps) = segs (hiF row a) (fun g => turnedF row a (turnedF row b g)) ps from Loc.comp hb ha kb ps,
    show turnedF row b (turnedF row a ps) = segs (hiF row a) (fun g => turnedF row b (turnedF row a g)) ps from Loc.comp ha hb ka ps]
  refine segs_congr (fun g hg hall => ?_) _ _ (Nat.le_refl _)
  have e1 : ∀ g : List Nat, g ≠ [] → (∀ p ∈ g, hiF row a p = true) → turnedF row a g = g.reverse := fun g hg hall => by
    rw [turnedF_segs, segs_all hg hall]
  obtain ⟨k1, k2⟩ := kb g hg hall
  rw [e1 _ k1 k2, e1 g hg hall, turnedF_rev]
theorem down_turned (row : List Int) : ∀ (f : Nat) {a l : Int} (ps : List Nat), a ≤ l + 1 → down row f l (turnedF row a ps) = turnedF row a (down row f l ps)
  | 0, _, _, _, _ => rfl
  | f + 1, a, l, ps, h => by
    rw [down, down, down_turned row f ps (by omega), turnedF_comm row h]
theorem down_twice (row : List Int) : ∀ (f : Nat) (l : Int) (ps : List Nat), down row f l (down row f l ps) = ps
  | 0, _, _ => rfl
  | f + 1, l, ps => by
    rw [down, down, down_turned row f _ (by omega), turnedF_twice, down_twice row f (l + 1) ps]
/-! ### turned once more by its levels as seen -/
theorem map_getD_range {α : Type} (z : α) (l : List α) : (List.range l.length).map (fun i => l.getD i z) = l := by
  apply List.ext_getElem?
  intro i
  by_cases h : i < l.length
  · rw [List.getElem?_map, List.getElem?_range h, List.getElem?_eq_getElem h]
    simp [List.getD, h]
  · rw [List.getElem?_eq_none (by rw [List.length_map, List.length_range]; omega), List.getElem?_eq_none (by omega)]
def seenRow (rs : List Int) : List Int := (orderF rs).map fun p => rs.getD p 0
theorem seenRow_len (rs : List Int) : (seenRow rs).length = rs.length := by rw [seenRow, List.length_map, orderF_len]
theorem getD_mem {α : Type} {l : List α} {i : Nat} (z : α) (h : i < l.length) : l.getD i z ∈ l := by
  rw [List.getD_eq_getElem?_getD, List.getElem?_eq_getElem h]
  exact List.getElem_mem h
theorem seenRow_lv {rs : List Int} (h : Lv rs) : Lv (seenRow rs) := by
  refine ⟨by rw [seenRow_len]; exact h.1, fun x hx => ?_⟩
  obtain ⟨p, hp, rfl⟩ := List.mem_map.mp hx
  exact h.2 _ (getD_mem 0 (orderF_lt hp))
theorem order_again {rs : List Int} (h : Lv rs) : (orderF (seenRow rs)).map (fun i => (orderF rs).getD i 0) = List.range rs.length := by
  have e : (List.range (seenRow rs).length).map (fun i => (orderF rs).getD i 0) = orderF rs := by
    rw [seenRow_len, ← orderF_len rs]
    exact map_getD_range 0 _
  rw [order_down (seenRow_lv h), down_map (row := rs) 10 0 _ (fun p hp => ?_), e, order_down h, down_twice]
  have hp' : p < (orderF rs).length := by
    have := List.mem_range.mp hp
    rw [seenRow_len] at this
    rw [orderF_len]
    exact this
  rw [seenRow, List.getD_eq_getElem?_getD, List.getElem?_map, List.getElem?_eq_getElem hp']
  simp [List.getD, hp']
end Tx
namespace Tx
open PySem PySem.Spec PyProof.Rows L2 Evl
section
variable {K : PySem.W.Frag} {σ : L2.St} {H H' H0 : Hp} {ta tb te : TE} {p q : Addr}
theorem flatN : FlatK (fun n : Nat => V.int n) (fun n : Nat => PyData.int n) := ⟨fun _ => by simp [good], fun _ => by simp [py], fun _ => rfl, fun _ => Nat.le_refl _, fun a b => by
  rw [PyData.eqv]
  by_cases h : a = b
  · subst h; simp
  · rw [decide_eq_false h]
    simp
    omega⟩
theorem rd_eqLN {as bs : List Nat} : RD K (rEqD K) (dN as) (dN bs) (db (decide (as = bs))) := rd_eqFl flatN
theorem rd_neLN {as bs : List Nat} : RD K (rNeD K) (dN as) (dN bs) (db (!decide (as = bs))) := rd_neFl flatN
theorem en_sortedI {ns ms : List Int} (hl : ns.length < 64) (hp : ms.Perm ns) (hw : ms.Pairwise (· ≤ ·)) (h : EvD K ta σ H (dI ns)) : EvN (tCB (rSorted K) (tCons ta tNil)) σ H (dI ms) := fun H1 e Q q => by
  refine en_sorted (P := fun _ => True) hl h H1 e Q fun ms' v H2 p w e2 d => ?_
  have ee : ms' = ms := List.Perm.eq_of_pairwise (fun x y _ _ h1 h2 => Int.le_antisymm h1 h2) w hw (p.trans hp.symm)
  subst ee
  exact q v H2 e2 d
theorem range_sorted (n : Nat) : ((List.range n).map fun i : Nat => (i : Int)).Pairwise (· ≤ ·) := by
  rw [List.pairwise_map]
  exact List.pairwise_lt_range.imp fun h => by omega
theorem en_sortedR {ns : List Nat} {n : Nat} (hl : n < 64) (hp : ns.Perm (List.range n)) (h : EvD K ta σ H (dN ns)) : EvN (tCB (rSorted K) (tCons ta tNil)) σ H (dN (List.range n)) := by
  rw [dN_dI]
  rw [dN_dI] at h
  exact en_sortedI (by rw [List.length_map, hp.length_eq, List.length_range]; exact hl) (hp.symm.map _) (range_sorted n) h
end
end Tx
namespace Tx
open PySem PySem.Spec PyProof.Rows L2 Evl
section
variable {K : PySem.W.Frag} {σ : L2.St} {H H' H0 H1 Hb : Hp} {L L' : List (Addr × HO)} {ta tb te tx tl : TE} {tas : TA} {t u : TT} {x y z : D} {xs ys : List D} {De : Ends} {tu tw tz : TS} {p q : Addr}
/-! ### a list that gathers new things; Hb: the heap in which it was made -/
def AccD (Hb H : Hp) (ys : List V) (ds : List D) : Prop := DatsN Hb H ds ys ∧ ∀ p, H p = none → Hb p = none
theorem AccD.nil (n : ∀ p, H p = none → Hb p = none) : AccD Hb H [] [] := ⟨DatsN.nil, n⟩
theorem AccD.grow {vs : List V} (a : AccD Hb H vs xs) (e : Ex H H1) : AccD Hb H1 vs xs := ⟨a.1.mono' (fun _ h => h) e, fun p hp => a.2 p (fresh_back e hp)⟩
theorem AccD.length {vs : List V} (a : AccD Hb H vs xs) : vs.length = xs.length := a.1.length
theorem AccD.upd {vs : List V} {o : HO} (a : AccD Hb H vs xs) (h : Hb p ≠ none) : AccD Hb (L2.upd H p o) vs xs := ⟨a.1.upd h, fun q hq => by
  by_cases e : q = p
  · subst e
    rw [upd_same] at hq
    cases hq
  · rw [upd_ne e] at hq
    exact a.2 q hq⟩
theorem AccD.snoc {vs : List V} {v : V} {o : HO} (a : AccD Hb H vs xs) (h : Hb p ≠ none) (e : Ex H H1) (d : DatN H H1 x v) : AccD Hb (L2.upd H1 p o) (vs ++ [v]) (xs ++ [x]) := by
  refine ⟨DatsN.app ((a.grow e).upd h).1 (DatsN.cons ((d.mono' a.2 (Ex.refl _)).upd h) DatsN.nil), ((a.grow e).upd h).2⟩
/-- .. at p; all since H0 -/
def Acc (H0 H : Hp) (p : Addr) (vs : List V) (xs : List D) : Prop := ∃ Hb, Ex H0 Hb ∧ Hb p ≠ none ∧ AccD Hb H vs xs
theorem Acc.nil {u : HO} (e : Ex H0 H) (h : H p = some u) : Acc H0 H p [] [] := ⟨H, e, by rw [h]; exact fun z => (nomatch z), AccD.nil fun _ h => h⟩
theorem Acc.grow {vs : List V} (a : Acc H0 H p vs xs) (e : Ex H H1) : Acc H0 H1 p vs xs := by
  obtain ⟨Hb, h1, h2, h3⟩ := a
  exact ⟨Hb, h1, h2, h3.grow e⟩
theorem Acc.length {vs : List V} (a : Acc H0 H p vs xs) : vs.length = xs.length := by
  obtain ⟨Hb, h1, h2, h3⟩ := a
  exact h3.length
theorem Acc.dat {vs : List V} (a : Acc H0 H p vs xs) (h : H p = some (.lst vs)) : Dat K H (.l xs) (.ref p) := by
  obtain ⟨Hb, h1, h2, h3⟩ := a
  exact Dat.l_iff.mpr ⟨p, vs, rfl, sq_of h, h3.1.d⟩
theorem s_appA {i : Nat} {vs : List V} {M : HO → List (Addr × HO)} (o : Own H0 H L) (a : Acc H' H p vs xs) (hs : σ[i]? = some (some (.ref p))) (hl : H p = some (.lst vs)) (put : ∀ (H1 : Hp) (u : HO), Own H0 H1 L → Own H0 (upd H1 p u) (M u)) (hz : xs.length < 100000)
    (h : EvN te σ H x) (k : ∀ vs' H1, Own H0 H1 (M (.lst vs')) → Acc H' H1 p vs' (xs ++ [x]) → De.nx σ H1) : tDrop (tBM K "list" rAppend (tVar i) (tCons te tNil)) De σ H := by
  have hlen := a.length
  obtain ⟨Hb, h1, hb, a⟩ := a
  exact s_appN o hs hl put (by rw [hlen]; exact hz) h fun v H1 e d o => k _ _ o ⟨Hb, h1, hb, a.snoc hb e d⟩
theorem q_appA {i : Nat} {vs : List V} {M : HO → List (Addr × HO)} (o : Own H0 H L) (a : Acc H' H p vs xs) (hs : σ[i]? = some (some (.ref p))) (hl : H p = some (.lst vs)) (put : ∀ (H1 : Hp) (u : HO), Own H0 H1 L → Own H0 (upd H1 p u) (M u)) (hz : xs.length < 100000)
    (h : EvN te σ H x) (k : ∀ vs' H1, Own H0 H1 (M (.lst vs')) → Acc H' H1 p vs' (xs ++ [x]) → tz De σ H1) : tSeq (tDrop (tBM K "list" rAppend (tVar i) (tCons te tNil))) tz De σ H := s_appA (De := { De with nx := tz De }) o a hs hl put hz h k
theorem s_retA {i : Nat} {vs : List V} (o : Own H0 H L) (a : Acc H0 H p vs xs) (hs : σ[i]? = some (some (.ref p))) (hl : H p = some (.lst vs)) (hn : H0 p = none) (k : ∀ v H2, Ex H0 H2 → DatN H0 H2 (.l xs) v → De.rt v H2) : tRet (tVar i) De σ H := by
  obtain ⟨Hb, e, hb, a⟩ := a
  exact ⟨.ref p, hs, k _ H o.ex (DatN.l_iff.mpr ⟨p, vs, rfl, hn, hl, a.1.mono' (fun _ h => fresh_back e h) (Ex.refl _)⟩)⟩
/-! ### loops over data as they stand; the heap grows -/
theorem s_forD {j : Nat} (o : Own H0 H L) (h : EvD K tl σ H (.l xs)) (Pv : Hp → List D → L2.St → Hp → Prop) (h0 : ∀ H1, Own H0 H1 L → Pv H1 [] σ H1) (hG : ∀ H1 pre σ' H', Pv H1 pre σ' H' → Ex H1 H')
    (hs : ∀ H1 pre d post v σ' H', Own H0 H1 L → xs = pre ++ d :: post → Pv H1 pre σ' H' → Dat K H' d v → tu { De with nx := Pv H1 (pre ++ [d]), ct := Pv H1 (pre ++ [d]), bk := De.nx } (σ'.set j (some v)) H') (hd : ∀ H1 σ' H', Own H0 H1 L → Pv H1 xs σ' H' → De.nx σ' H') :
    tFor (iList K tl) (gName j) tu De σ H := h H (Ex.refl H) _ fun v H1 e d => by
  obtain ⟨p, ys, rfl, s, dd⟩ := Dat.l_iff.mp d
  have o1 := o.grow e
  refine ⟨p, rfl, ⟨_, s⟩, for_it walk_list (fun i σ' H' => i ≤ xs.length ∧ Pv H1 (xs.take i) σ' H') ⟨Nat.zero_le _, h0 H1 o1⟩ (fun i σ' H' _ h => ex_l (hG H1 _ σ' H' h.2) s) (fun i x σ' H' H'' hi h hy => ?_) (fun σ' H' h => hd H1 σ' H' o1 (by
    have e := h.2
    rw [dd.length, List.take_length] at e
    exact e))⟩
  obtain ⟨rfl, hx⟩ := hy
  rw [dd.length] at hi
  obtain ⟨w, hw, dw⟩ := dd.getV hx
  rw [List.getElem?_eq_getElem hi] at hw
  have hw' : xs[i] = w := Option.some.inj hw
  have g := hs H1 (xs.take i) xs[i] (xs.drop (i + 1)) x σ' H'' o1 (split_at hi) h.2 (by rw [hw']; exact dw.mono (hG H1 _ σ' H'' h.2))
  have e : (fun σ' H' => i + 1 ≤ xs.length ∧ Pv H1 (xs.take (i + 1)) σ' H') = Pv H1 (xs.take i ++ [xs[i]]) := by
    funext s h
    rw [Tx.take_snoc hi]
    exact propext ⟨fun q => q.2, fun q => ⟨hi, q⟩⟩
  rw [e]
  exact g
theorem q_forD {j : Nat} (o : Own H0 H L) (h : EvD K tl σ H (.l xs)) (Pv : Hp → List D → L2.St → Hp → Prop) (h0 : ∀ H1, Own H0 H1 L → Pv H1 [] σ H1) (hG : ∀ H1 pre σ' H', Pv H1 pre σ' H' → Ex H1 H')
    (hs : ∀ H1 pre d post v σ' H', Own H0 H1 L → xs = pre ++ d :: post → Pv H1 pre σ' H' → Dat K H' d v → tu { De with nx := Pv H1 (pre ++ [d]), ct := Pv H1 (pre ++ [d]), bk := tz De } (σ'.set j (some v)) H') (hd : ∀ H1 σ' H', Own H0 H1 L → Pv H1 xs σ' H' → tz De σ' H') :
    tSeq (tFor (iList K tl) (gName j) tu) tz De σ H := s_forD (De := { De with nx := tz De }) o h Pv h0 hG hs hd
/-- for i, j in zip(two names' data) -/
theorem q_forZD {a b i j : Nat} (hl : xs.length = ys.length) (ha : σ[a]? = some (some (.ref p))) (hb : σ[b]? = some (some (.ref q))) (D0 : Dat K H (.l xs) (.ref p)) (D1 : Dat K H (.l ys) (.ref q)) (Pv : Nat → L2.St → Hp → Prop) (h0 : Pv 0 σ H) (hG : ∀ m σ' H', Pv m σ' H' → Ex H H')
    (hs : ∀ m d e v w σ' H' H'', xs[m]? = some d → ys[m]? = some e → Pv m σ' H' → Ex H' H'' → Dat K H'' d v → Dat K H'' e w → tu { De with nx := Pv (m + 1), ct := Pv (m + 1), bk := tz De } ((σ'.set i (some v)).set j (some w)) H'') (hd : ∀ σ' H', Pv xs.length σ' H' → tz De σ' H') :
    tSeq (tFor (iZip K (tCons (tVar a) (tCons (tVar b) tNil))) (gTup K 2 (gCons (gName i) (gCons (gName j) gNil))) tu) tz De σ H := by
  obtain ⟨_, vs, e, s, dd⟩ := Dat.l_iff.mp D0
  cases e
  obtain ⟨_, ws, e, s', dd'⟩ := Dat.l_iff.mp D1
  cases e
  refine s_forZ (De := { De with nx := tz De }) (f := fun v : V => v) (g := fun v : V => v) (ns := vs) (ms := ws) (by rw [dd.length, dd'.length]; exact hl) ha hb (by rw [List.map_id']; exact s) (by rw [List.map_id']; exact s') Pv h0 (fun m σ' H' h => by
    rw [List.map_id', List.map_id']
    exact ⟨ex_l (hG m σ' H' h) s, ex_l (hG m σ' H' h) s'⟩) (fun m v w σ' H' H'' hv hw h e' => ?_) (fun σ' H' h => hd σ' H' (by rw [dd.length] at h; exact h))
  obtain ⟨d, h1, h2⟩ := dd.getV hv
  obtain ⟨d', h3, h4⟩ := dd'.getV hw
  have ex := (hG m σ' H' h).trans e'
  exact hs m d d' v w σ' H' H'' h1 h3 h e' (h2.mono ex) (h4.mono ex)
end
section
variable {K : PySem.W.Frag} {σ : L2.St} {H H0 : Hp} {L : List (Addr × HO)} {te : TE} {t : TT} {De : Ends} {tz : TS}
/-- if c: x = e, told by x's value behind it -/
theorem q_ifSet [IsK K] {b : Bool} {i : Nat} {v0 v1 : V} (o : Own H0 H L) (hσ : σ[i]? = some (some v0)) (h : EvT t σ H b) (h1 : b = true → ∀ H1, Own H0 H1 L → EvD K te σ H1 (.v v1)) (k : ∀ H1, Own H0 H1 L → tz De (σ.set i (some (if b = true then v1 else v0))) H1) : tSeq (tIfS t (tAsg te (gName i)) tNext) tz De σ H :=
  Tx.q_when o h (fun hb H1 o => s_setV o (h1 hb H1 o) fun H2 o => by
    have g := k H2 o
    rw [if_pos hb] at g
    exact g) (fun hb H1 o => by
    have g := k H1 o
    rw [if_neg (by rw [hb]; decide)] at g
    have e : σ.set i (some v0) = σ := by
      apply List.ext_getElem?
      intro j
      by_cases hj : i = j
      · subst hj
        rw [List.getElem?_set_self (List.getElem?_eq_some_iff.mp hσ).1, hσ]
      · rw [List.getElem?_set_ne hj]
    rw [e] at g
    exact g)
end
/-! ### carets -/
def ov : Option Int → V
  | none => .non
  | some n => .int n
abbrev oi (a : Option Int) : D := .v (ov a)
def caE (rs : List Int) (p : Nat) : Option Int := if 0 < p then some ((seenF rs).getD (p - 1) 0 + 1 - rs.getD (p - 1) 0 % 2) else none
def caB (rs : List Int) (p : Nat) : Option Int := if p < rs.length then some ((seenF rs).getD p 0 + rs.getD p 0 % 2) else none
def caD (rs : List Int) (p : Nat) : D := .t [oi (caE rs p), oi (caB rs p)]
def R_carets (xs : List D) (d : D) : Prop := ∃ rs, xs = [dI rs] ∧ Lv rs ∧ d = .l ((List.range (rs.length + 1)).map (caD rs))
def R_law_face (xs : List D) (d : D) : Prop := ∃ a, xs = [oi a, oi a] ∧ d = db true
def R_law_same9 (xs : List D) (d : D) : Prop := ∃ fs : List (Option Int × Option Int), xs = [.l (fs.map fun f => .t [oi f.1, oi f.2]), .l (fs.map fun f => .t [oi f.1, oi f.2])] ∧ d = db true
end Tx
namespace Tx
open PySem PySem.Spec PyProof.Rows L2 Evl
/-! ### two places side by side -/
def Adj (a b : Nat) (ps : List Nat) : Prop := ∃ A B, ps = A ++ a :: b :: B
theorem Adj.rev {a b : Nat} {ps : List Nat} (h : Adj a b ps) : Adj b a ps.reverse := by
  obtain ⟨A, B, rfl⟩ := h
  exact ⟨B.reverse, A.reverse, by simp⟩
theorem Adj.left {a b : Nat} {ps : List Nat} (h : Adj a b ps) (qs : List Nat) : Adj a b (qs ++ ps) := by
  obtain ⟨A, B, rfl⟩ := h
  exact ⟨qs ++ A, B, by simp⟩
theorem Adj.right {a b : Nat} {ps : List Nat} (h : Adj a b ps) (qs : List Nat) : Adj a b (ps ++ qs) := by
  obtain ⟨A, B, rfl⟩ := h
  exact ⟨A, B ++ qs, by simp⟩
/-- a list with a place that is not hi: the part ahead -/
theorem hi_split (hi : Nat → Bool) : ∀ A : List Nat, (∀ p ∈ A, hi p = true) ∨ ∃ C y E, A = C ++ y :: E ∧ hi y = false
  | [] => .inl fun _ h => nomatch h
  | p :: r => by
    by_cases hp : hi p = true
    · rcases hi_split hi r with h | ⟨C, y, E, rfl, hy⟩
      · exact .inl fun q hq => by
          rcases List.mem_cons.mp hq with rfl | hq
          · exact hp
          · exact h q hq
      · exact .inr ⟨p :: C, y, E, rfl, hy⟩
    · exact .inr ⟨[], p, r, rfl, Bool.eq_false_iff.mpr hp⟩
theorem adj_segs {hi : Nat → Bool} {a b : Nat} : ∀ (n : Nat) (A B : List Nat), A.length ≤ n → hi a = true → hi b = true → Adj b a (segs hi List.reverse (A ++ a :: b :: B))
  | n, A, B, h, ha, hb => by
    rcases hi_split hi A with hA | ⟨C, y, E, rfl, hy⟩
    · have e : A ++ a :: b :: B = (A ++ a :: b :: B.takeWhile hi) ++ B.dropWhile hi := by simp [List.takeWhile_append_dropWhile]
      rw [e, segs_append_hi (by simp) (fun p hp => by
        rcases List.mem_append.mp hp with hp | hp
        · exact hA p hp
        · rcases List.mem_cons.mp hp with rfl | hp
          · exact ha
          · rcases List.mem_cons.mp hp with rfl | hp
            · exact hb
            · exact takeWhile_all p hp) (fun y s e => dropWhile_head e)]
      exact (Adj.rev ⟨A, B.takeWhile hi, rfl⟩).right _
    · rw [List.append_assoc, List.cons_append, segs_split y hy _ _ _ (Nat.le_refl _)]
      cases n with
      | zero => simp at h
      | succ n =>
        have hE : E.length ≤ n := by simp at h; omega
        have g := adj_segs n E B hE ha hb
        have g2 := (g.left [y]).left (segs hi List.reverse C)
        rw [List.singleton_append] at g2
        exact g2
theorem adj_turned_yes {row : List Int} {lv : Int} {a b : Nat} {ps : List Nat} (h : Adj a b ps) (ha : hiF row lv a = true) (hb : hiF row lv b = true) : Adj b a (turnedF row lv ps) := by
  obtain ⟨A, B, rfl⟩ := h
  rw [turnedF_segs]
  exact adj_segs _ A B (Nat.le_refl _) ha hb
theorem adj_turned_no {row : List Int} {lv : Int} {a b : Nat} {ps : List Nat} (h : Adj a b ps) (ha : hiF row lv a = false) (hb : hiF row lv b = false) : Adj a b (turnedF row lv ps) := by
  obtain ⟨A, B, rfl⟩ := h
  rw [turnedF_segs, segs_split a ha _ _ _ (Nat.le_refl _), segs_cons, if_neg (by rw [hb]; decide)]
  exact ⟨_, _, rfl⟩
/-- how often two places of the level r are turned about -/
def flips : Nat → Int → Int → Nat
  | 0, _, _ => 0
  | f + 1, l, r => flips f (l + 1) r + (if l + 1 ≤ r then 1 else 0)
theorem flips_eq : ∀ (f : Nat) (l r : Int), r ≤ l + f → flips f l r = (r - l).toNat
  | 0, l, r, h => by rw [flips]; omega
  | f + 1, l, r, h => by
    rw [flips, flips_eq f (l + 1) r (by omega)]
    split <;> omega
theorem down_adj {row : List Int} {a b : Nat} (hab : row.getD a 0 = row.getD b 0) {ps : List Nat} (h : Adj a b ps) : ∀ (f : Nat) (l : Int), (flips f l (row.getD a 0) % 2 = 0 → Adj a b (down row f l ps)) ∧ (flips f l (row.getD a 0) % 2 = 1 → Adj b a (down row f l ps))
  | 0, l => ⟨fun _ => h, fun z => by rw [flips] at z; omega⟩
  | f + 1, l => by
    obtain ⟨h1, h2⟩ := down_adj hab h f (l + 1)
    rw [flips, down]
    by_cases hl : l + 1 ≤ row.getD a 0
    · have ha : hiF row (l + 1) a = true := decide_eq_true hl
      have hb : hiF row (l + 1) b = true := decide_eq_true (by rw [← hab]; exact hl)
      rw [if_pos hl]
      exact ⟨fun z => adj_turned_yes (h2 (by omega)) hb ha, fun z => adj_turned_yes (h1 (by omega)) ha hb⟩
    · have ha : hiF row (l + 1) a = false := decide_eq_false hl
      have hb : hiF row (l + 1) b = false := decide_eq_false (by rw [← hab]; exact hl)
      rw [if_neg hl]
      exact ⟨fun z => adj_turned_no (h1 (by omega)) ha hb, fun z => adj_turned_no (h2 (by omega)) hb ha⟩
theorem range_adj {n p : Nat} (h : p + 1 < n) : Adj p (p + 1) (List.range n) := by
  refine ⟨List.range p, (List.range n).drop (p + 2), ?_⟩
  apply List.ext_getElem?
  intro i
  by_cases hi : i < n
  · rw [List.getElem?_range hi]
    by_cases h1 : i < p
    · rw [List.getElem?_append_left (by rw [List.length_range]; exact h1), List.getElem?_range h1]
    · rw [List.getElem?_append_right (by rw [List.length_range]; omega), List.length_range]
      by_cases h2 : i = p
      · subst h2; simp
      · by_cases h3 : i = p + 1
        · subst h3
          rw [show p + 1 - p = 1 by omega] <;> rfl
        · obtain ⟨k, rfl⟩ : ∃ k, i = p + 2 + k := ⟨i - (p + 2), by omega⟩
          rw [show p + 2 + k - p = k + 2 by omega, List.getElem?_cons_succ, List.getElem?_cons_succ, List.getElem?_drop, List.getElem?_range (by omega)]
  · rw [List.getElem?_eq_none (by rw [List.length_range]; omega), List.getElem?_eq_none (by simp; omega)]
theorem seen_of_adj {rs : List Int} {a b : Nat} (h : Adj a b (orderF rs)) : (seenF rs).getD b 0 = (seenF rs).getD a 0 + 1 := by
  obtain ⟨A, B, e⟩ := h
  have h1 : (orderF rs)[A.length]? = some a := by rw [e]; simp
  have h2 : (orderF rs)[A.length + 1]? = some b := by
    rw [e, List.getElem?_append_right (by omega)]
    simp
  rw [List.getD_eq_getElem?_getD, List.getD_eq_getElem?_getD, seenF_get h1, seenF_get h2] <;> rfl
theorem caret_same {rs : List Int} (hv : Lv rs) {p : Nat} (h0 : 0 < p) (h1 : p < rs.length) (he : rs.getD (p - 1) 0 = rs.getD p 0) :
    (seenF rs).getD (p - 1) 0 + 1 - rs.getD (p - 1) 0 % 2 = (seenF rs).getD p 0 + rs.getD p 0 % 2 := by
  obtain ⟨q, rfl⟩ : ∃ q, p = q + 1 := ⟨p - 1, by omega⟩
  rw [Nat.add_sub_cancel] at he ⊢
  have hm : rs.getD q 0 ∈ rs := getD_mem 0 (by omega)
  have hr := hv.2 _ hm
  have hf := flips_eq 10 0 (rs.getD q 0) (by omega)
  obtain ⟨g1, g2⟩ := down_adj he (range_adj (n := rs.length) h1) 10 0
  rw [← order_down hv, hf] at g1 g2
  rw [he] at g1 g2 hr ⊢
  by_cases hpar : (rs.getD (q + 1) 0 - 0).toNat % 2 = 0
  · have := seen_of_adj (g1 hpar)
    omega
  · have := seen_of_adj (g2 (by omega))
    omega
theorem seen_idx {rs : List Int} {p : Nat} (h : p < rs.length) : (seenF rs).getD p 0 = (orderF rs).idxOf p := by
  rw [seenF_idx, List.getD_eq_getElem?_getD, List.getElem?_map, List.getElem?_range h] <;> rfl
end Tx
namespace Tx
open PySem PySem.Spec PyProof.Rows L2 Evl
section
variable {K : PySem.W.Frag} {σ : L2.St} {H H0 : Hp} {L : List (Addr × HO)} {te tb : TE} {t : TT} {De : Ends} {tz : TS} {p : Addr}
/-- if c: xs[j] = e, told by what xs holds behind it -/
theorem q_ifPut [IsK K] {b : Bool} {i j : Nat} {n : Int} {vs : List V} {v : V} {M : HO → List (Addr × HO)} (o : Own H0 H L) (hs : σ[i]? = some (some (.ref p))) (hl : ∀ H1, Own H0 H1 L → H1 p = some (.lst vs)) (put : ∀ (H1 : Hp) (u : HO), Own H0 H1 L → Own H0 (upd H1 p u) (M u)) (hM : M (.lst vs) = L)
    (h : EvT t σ H b) (h1 : b = true → ∀ H1, Own H0 H1 L → EvD K te σ H1 (.v v)) (hi : ∀ H1, Own H0 H1 L → EvD K tb σ H1 (di n)) (hj : b = true → ixN vs.length n = some j) (k : ∀ H1, Own H0 H1 (M (.lst (if b = true then vs.set j v else vs))) → tz De σ H1) : tSeq (tIfS t (tAsg te (gSub (tVar i) tb rSetL)) tNext) tz De σ H :=
  Tx.q_when o h (fun hb H1 o => s_put o hs (hl H1 o) put (h1 hb H1 o) (fun H2 e => hi H2 (o.grow e)) (hj hb) fun H2 o => by
    have g := k H2
    rw [if_pos hb] at g
    exact g o) (fun hb H1 o => by
    have g := k H1
    rw [if_neg (by rw [hb]; decide), hM] at g
    exact g o)
end
end Tx
namespace Tx
open PySem PySem.Spec PyProof.Rows L2 Evl
/-! ### a longest row of neighbours stays together -/
def Blk (hi : Nat → Bool) (g ps : List Nat) : Prop := ∃ A g' B, ps = A ++ (g' ++ B) ∧ g'.Perm g ∧ (∀ x, A.getLast? = some x → hi x = false) ∧ (∀ y s, B = y :: s → hi y = false)
theorem getLast_cases {α : Type} (A : List α) : A = [] ∨ ∃ C x, A = C ++ [x] ∧ A.getLast? = some x := by
  rcases A.eq_nil_or_concat with h | ⟨C, x, h⟩
  · exact .inl h
  · refine .inr ⟨C, x, by simpa using h, ?_⟩
    rw [h]
    simp
theorem blk_in {hi : Nat → Bool} {T : List Nat → List Nat} (hT : Loc hi T) (hp : ∀ l, (T l).Perm l) {g ps : List Nat} (hg : g ≠ []) (ha : ∀ p ∈ g, hi p = true) (h : Blk hi g ps) : Blk hi g (T ps) := by
  obtain ⟨A, g', B, rfl, hpm, h1, h2⟩ := h
  have hg' : g' ≠ [] := fun z => hg (by rw [z] at hpm; exact List.nil_perm.mp hpm)
  have ha' : ∀ p ∈ g', hi p = true := fun p hp => ha p (hpm.mem_iff.mp hp)
  rw [hT]
  rcases getLast_cases A with rfl | ⟨C, x, rfl, hx⟩
  · rw [List.nil_append, segs_append_hi hg' ha' h2]
    exact ⟨[], T g', _, rfl, (hp g').trans hpm, fun _ z => (nomatch z), segs_head h2⟩
  · have hx' := h1 x hx
    rw [List.append_assoc, List.singleton_append, segs_split x hx' _ _ _ (Nat.le_refl _), segs_append_hi hg' ha' h2]
    refine ⟨segs hi T C ++ [x], T g', segs hi T B, by simp, (hp g').trans hpm, fun y hy => ?_, segs_head h2⟩
    rw [List.getLast?_concat] at hy
    cases hy
    exact hx'
theorem blk_out {hi hi' : Nat → Bool} (hs : ∀ p, hi p = true → hi' p = true) {g : List Nat} (ha : ∀ p ∈ g, hi p = true) : ∀ (n : Nat) (A g' B : List Nat), A.length ≤ n → g' ≠ [] → g'.Perm g → (∀ x, A.getLast? = some x → hi x = false) → (∀ y s, B = y :: s → hi y = false) → Blk hi g (segs hi' List.reverse (A ++ (g' ++ B)))
  | n, A, g', B, hn, hg', hpm, h1, h2 => by
    have ha' : ∀ p ∈ g', hi' p = true := fun p hp => hs p (ha p (hpm.mem_iff.mp hp))
    have hno : ∀ y, hi' y = false → hi y = false := fun y hy => by
      cases h : hi y with
      | false => rfl
      | true => rw [hs y h] at hy; cases hy
    rcases hi_split hi' A with hA | ⟨C, y, E, rfl, hy⟩
    · have e : A ++ (g' ++ B) = (A ++ (g' ++ B.takeWhile hi')) ++ B.dropWhile hi' := by simp [List.takeWhile_append_dropWhile]
      rw [e, segs_append_hi (by simp [hg']) (fun p hp => by
        rcases List.mem_append.mp hp with hp | hp
        · exact hA p hp
        · rcases List.mem_append.mp hp with hp | hp
          · exact ha' p hp
          · exact takeWhile_all p hp) (fun y s e => dropWhile_head e)]
      refine ⟨(B.takeWhile hi').reverse, g'.reverse, A.reverse ++ segs hi' List.reverse (B.dropWhile hi'), by simp, (List.reverse_perm g').trans hpm, fun x hx => ?_, fun y s e => ?_⟩
      · rw [List.getLast?_reverse] at hx
        cases B with
        | nil => simp at hx
        | cons z t =>
          by_cases hz : hi' z = true
          · rw [List.takeWhile_cons_of_pos hz] at hx
            cases hx
            exact h2 _ _ rfl
          · rw [List.takeWhile_cons_of_neg hz] at hx
            simp at hx
      · rcases getLast_cases A with rfl | ⟨C, x, rfl, hx⟩
        · rw [List.reverse_nil, List.nil_append] at e
          exact hno y (segs_head (fun y s e => dropWhile_head e) y s e)
        · rw [List.reverse_append] at e
          have e2 : x = y := (List.cons.inj e).1
          rw [← e2]
          exact h1 x hx
    · rw [List.append_assoc, List.cons_append, segs_split y hy _ _ _ (Nat.le_refl _)]
      cases n with
      | zero => simp at hn
      | succ n =>
        have hE : E.length ≤ n := by simp at hn; omega
        obtain ⟨A2, g2, B2, e2, p2, q1, q2⟩ := blk_out hs ha n E g' B hE hg' hpm (fun x hx => h1 x (by
          rw [List.getLast?_append, List.getLast?_cons, hx] <;> rfl)) h2
        rw [e2]
        refine ⟨segs hi' List.reverse C ++ y :: A2, g2, B2, by simp, p2, fun x hx => ?_, q2⟩
        rw [List.getLast?_append, List.getLast?_cons] at hx
        cases hl : A2.getLast? with
        | none =>
          rw [hl] at hx
          cases hx
          exact hno _ hy
        | some z =>
          rw [hl] at hx
          cases hx
          exact q1 _ hl
theorem blk_turned {row : List Int} {l b : Int} {g ps : List Nat} (hg : g ≠ []) (ha : ∀ p ∈ g, hiF row l p = true) (h : Blk (hiF row l) g ps) : Blk (hiF row l) g (turnedF row b ps) := by
  by_cases hb : l ≤ b
  · exact blk_in (turnedF_loc row hb) (turnedF_perm row b) hg ha h
  · obtain ⟨A, g', B, rfl, hpm, h1, h2⟩ := h
    rw [turnedF_segs]
    exact blk_out (fun p hp => hiF_mono (by omega) hp) ha _ A g' B (Nat.le_refl _) (fun z => hg (by rw [z] at hpm; exact List.nil_perm.mp hpm)) hpm h1 h2
theorem blk_down {row : List Int} {l : Int} {g ps : List Nat} (hg : g ≠ []) (ha : ∀ p ∈ g, hiF row l p = true) (h : Blk (hiF row l) g ps) : ∀ (f : Nat) (k : Int), Blk (hiF row l) g (down row f k ps)
  | 0, _ => h
  | f + 1, k => blk_turned hg ha (blk_down hg ha h f (k + 1))
/-! ### groups -/
def gstep (hi : Nat → Bool) (s : List (List Nat) × List Nat) (p : Nat) : List (List Nat) × List Nat := if hi p then (s.1, s.2 ++ [p]) else if s.2 = [] then (s.1, []) else (s.1 ++ [s.2], [])
def gfold (hi : Nat → Bool) (ps : List Nat) : List (List Nat) × List Nat := ps.foldl (gstep hi) ([], [])
theorem gfold_snoc (hi : Nat → Bool) (ps : List Nat) (p : Nat) : gfold hi (ps ++ [p]) = gstep hi (gfold hi ps) p := by
  unfold gfold
  rw [List.foldl_append] <;> rfl
def groupsF (hi : Nat → Bool) (ps : List Nat) : List (List Nat) := if (gfold hi ps).2 = [] then (gfold hi ps).1 else (gfold hi ps).1 ++ [(gfold hi ps).2]
/-- a group in ps: shut off at both ends -/
def InG (hi : Nat → Bool) (ps g : List Nat) : Prop := g ≠ [] ∧ (∀ p ∈ g, hi p = true) ∧ ∃ A B, ps = A ++ (g ++ B) ∧ (∀ x, A.getLast? = some x → hi x = false) ∧ (∀ y s, B = y :: s → hi y = false)
theorem gfold_inv (hi : Nat → Bool) (ps : List Nat) : (∃ P, ps = P ++ (gfold hi ps).2 ∧ (∀ x, P.getLast? = some x → hi x = false) ∧ ∀ g ∈ (gfold hi ps).1, g ≠ [] ∧ (∀ p ∈ g, hi p = true) ∧ ∃ A B y s, B = y :: s ∧ hi y = false ∧ P = A ++ (g ++ B) ∧ ∀ x, A.getLast? = some x → hi x = false) ∧ ∀ p ∈ (gfold hi ps).2, hi p = true := by
  suffices h : ∀ qs : List Nat, (∃ P, qs.reverse = P ++ (gfold hi qs.reverse).2 ∧ (∀ x, P.getLast? = some x → hi x = false) ∧ ∀ g ∈ (gfold hi qs.reverse).1, g ≠ [] ∧ (∀ p ∈ g, hi p = true) ∧ ∃ A B y s, B = y :: s ∧ hi y = false ∧ P = A ++ (g ++ B) ∧ ∀ x, A.getLast? = some x → hi x = false) ∧ ∀ p ∈ (gfold hi qs.reverse).2, hi p = true by
    have := h ps.reverse
    rw [List.reverse_reverse] at this
    exact this
  intro qs
  induction qs with
  | nil => exact ⟨⟨[], rfl, fun _ z => (nomatch z), fun g hg => nomatch hg⟩, fun _ h => nomatch h⟩
  | cons q r ih =>
    obtain ⟨⟨P, e, hP, hG⟩, hall⟩ := ih
    rw [List.reverse_cons, gfold_snoc]
    generalize gfold hi r.reverse = s at e hG hall
    generalize r.reverse = ps at e
    unfold gstep
    by_cases hq : hi q = true
    · rw [if_pos hq]
      refine ⟨⟨P, by rw [e]; simp, hP, hG⟩, fun p hp => ?_⟩
      rcases List.mem_append.mp hp with hp | hp
      · exact hall p hp
      · rw [List.mem_singleton.mp hp]
        exact hq
    · have hq' : hi q = false := Bool.eq_false_iff.mpr hq
      rw [if_neg hq]
      have hlast : ∀ (X : List Nat) x, (X ++ [q]).getLast? = some x → hi x = false := fun X x hx => by
        rw [List.getLast?_concat] at hx
        cases hx
        exact hq'
      have old : ∀ g ∈ s.1, g ≠ [] ∧ (∀ p ∈ g, hi p = true) ∧ ∃ A B y t, B = y :: t ∧ hi y = false ∧ ps ++ [q] = A ++ (g ++ B) ∧ ∀ x, A.getLast? = some x → hi x = false := fun g hg => by
        obtain ⟨k1, k2, A, B, y, t, eB, hy, eP, hA⟩ := hG g hg
        exact ⟨k1, k2, A, B ++ s.2 ++ [q], y, t ++ s.2 ++ [q], by rw [eB]; simp, hy, by rw [e, eP]; simp, hA⟩
      split
      · exact ⟨⟨ps ++ [q], by simp, hlast ps, old⟩, fun _ h => nomatch h⟩
      · rename_i hne
        refine ⟨⟨ps ++ [q], by simp, hlast ps, fun g hg => ?_⟩, fun _ h => nomatch h⟩
        rcases List.mem_append.mp hg with hg | hg
        · exact old g hg
        · rw [List.mem_singleton.mp hg]
          exact ⟨hne, hall, P, [q], q, [], rfl, hq', by rw [e]; simp, hP⟩
theorem groupsF_in {hi : Nat → Bool} {ps g : List Nat} (h : g ∈ groupsF hi ps) : InG hi ps g := by
  obtain ⟨⟨P, e, hP, hG⟩, hall⟩ := gfold_inv hi ps
  have old : ∀ g ∈ (gfold hi ps).1, InG hi ps g := fun g hg => by
    obtain ⟨k1, k2, A, B, y, t, eB, hy, eP, hA⟩ := hG g hg
    exact ⟨k1, k2, A, B ++ (gfold hi ps).2, by rw [← List.append_assoc g, ← List.append_assoc A, ← eP]; exact e, hA, fun z s ez => by
      rw [eB, List.cons_append] at ez
      rw [← (List.cons.inj ez).1]
      exact hy⟩
  unfold groupsF at h
  split at h
  · exact old g h
  · rename_i hne
    rcases List.mem_append.mp h with h | h
    · exact old g h
    · rw [List.mem_singleton.mp h]
      exact ⟨hne, hall, P, [], by rw [List.append_nil]; exact e, hP, fun _ _ z => nomatch z⟩
/-- where a group is seen -/
theorem group_seen {rs : List Int} (hv : Lv rs) {l : Int} {g : List Nat} (h : g ∈ groupsF (hiF rs l) (List.range rs.length)) : ∃ a, (g.map fun p => (seenF rs).getD p 0).Perm ((List.range g.length).map fun i => a + i) := by
  obtain ⟨hg, ha, A, B, e, h1, h2⟩ := groupsF_in h
  obtain ⟨A', g', B', e', hp, _, _⟩ := blk_down hg ha ⟨A, g, B, e, List.Perm.refl _, h1, h2⟩ 10 0
  rw [← order_down hv] at e'
  refine ⟨A'.length, ?_⟩
  have h3 : g'.map (fun p => (seenF rs).getD p 0) = (List.range g'.length).map fun i => A'.length + i := by
    apply List.ext_getElem?
    intro i
    by_cases hi : i < g'.length
    · rw [List.getElem?_map, List.getElem?_map, List.getElem?_range hi, List.getElem?_eq_getElem hi]
      have h4 : (orderF rs)[A'.length + i]? = some g'[i] := by
        rw [e', List.getElem?_append_right (by omega), Nat.add_sub_cancel_left, List.getElem?_append_left hi, List.getElem?_eq_getElem hi]
      simp only [Option.map_some]
      rw [List.getD_eq_getElem?_getD, seenF_get h4] <;> rfl
    · rw [List.getElem?_eq_none (by rw [List.length_map]; omega), List.getElem?_eq_none (by rw [List.length_map, List.length_range]; omega)]
  rw [← hp.length_eq, ← h3]
  exact (hp.symm.map _)
theorem group_lt {hi : Nat → Bool} {n : Nat} {g : List Nat} (h : g ∈ groupsF hi (List.range n)) : (∀ p ∈ g, p < n) ∧ g.length ≤ n ∧ g ≠ [] := by
  obtain ⟨hg, _, A, B, e, _, _⟩ := groupsF_in h
  refine ⟨fun p hp => List.mem_range.mp (by rw [e]; simp [hp]), ?_, hg⟩
  have := congrArg List.length e
  rw [List.length_range, List.length_append, List.length_append] at this
  omega
theorem gfold_len (hi : Nat → Bool) (ps : List Nat) : (gfold hi ps).1.length + (gfold hi ps).2.length ≤ ps.length := by
  unfold gfold
  suffices h : ∀ (s : List (List Nat) × List Nat), (ps.foldl (gstep hi) s).1.length + (ps.foldl (gstep hi) s).2.length ≤ s.1.length + s.2.length + ps.length by
    simpa using h ([], [])
  induction ps with
  | nil => intro s; simp
  | cons p r ih =>
    intro s
    rw [List.foldl_cons]
    refine Nat.le_trans (ih _) ?_
    unfold gstep
    split
    · simp; omega
    · split
      · simp; omega
      · rename_i h
        have : 0 < s.2.length := List.length_pos_iff.mpr h
        simp
        omega
/-! ### all levels one more -/
theorem down_snoc (row : List Int) : ∀ (f : Nat) (l : Int) (ps : List Nat), down row (f + 1) l ps = down row f l (turnedF row (l + f + 1) ps)
  | 0, l, ps => by
    rw [down, down, down, show l + ((0 : Nat) : Int) + 1 = l + 1 by omega]
  | f + 1, l, ps => by
    rw [down, down_snoc row f (l + 1) ps, down, show l + 1 + (f : Int) + 1 = l + ((f + 1 : Nat) : Int) + 1 by omega]
theorem down_up {row row' : List Int} : ∀ (f : Nat) (l : Int) (ps : List Nat), (∀ p ∈ ps, row'.getD p 0 = row.getD p 0 + 1) → down row' f (l + 1) ps = down row f l ps
  | 0, _, _, _ => rfl
  | f + 1, l, ps, h => by
    rw [down, down, down_up f (l + 1) ps h]
    have g := turnedF_map (row := row) (row' := row') (lv := l + 1) (lv' := l + 1 + 1) (g := id) (ps := down row f (l + 1) ps) (fun p hp => ?_)
    · rw [List.map_id, List.map_id] at g
      exact g
    · unfold hiF
      have := h p ((down_perm row f (l + 1) ps).mem_iff.mp hp)
      by_cases h2 : l + 1 ≤ row.getD p 0
      · show decide _ = decide (l + 1 ≤ row.getD p 0)
        rw [decide_eq_true h2, decide_eq_true (by omega)]
      · show decide _ = decide (l + 1 ≤ row.getD p 0)
        rw [decide_eq_false h2, decide_eq_false (by omega)]
theorem order_up {rs : List Int} (hl : rs.length ≤ 60) (h : ∀ x ∈ rs, 0 ≤ x ∧ x ≤ 9) : orderF (rs.map fun x => x + 1) = (orderF rs).reverse := by
  have h1 : Lv rs := ⟨hl, fun x hx => by have := h x hx; omega⟩
  have h2 : Lv (rs.map fun x => x + 1) := ⟨by rw [List.length_map]; exact hl, fun x hx => by
    obtain ⟨y, hy, rfl⟩ := List.mem_map.mp hx
    have := h y hy
    omega⟩
  have hg : ∀ p ∈ List.range rs.length, (rs.map fun x => x + 1).getD p 0 = rs.getD p 0 + 1 := fun p hp => by
    have hp' := List.mem_range.mp hp
    rw [List.getD_eq_getElem?_getD, List.getD_eq_getElem?_getD, List.getElem?_map, List.getElem?_eq_getElem hp'] <;> rfl
  rw [order_down h2, order_down h1, List.length_map, down, down_snoc rs 9 0]
  have e10 : turnedF rs (0 + ((9 : Nat) : Int) + 1) (List.range rs.length) = List.range rs.length := by
    rw [turnedF_segs]
    refine segs_no fun p hp => ?_
    have := h _ (getD_mem 0 (List.mem_range.mp hp))
    exact decide_eq_false (by omega)
  rw [e10, down_up 9 0 _ hg]
  have hall : ∀ p ∈ down rs 9 0 (List.range rs.length), hiF (rs.map fun x => x + 1) (0 + 1) p = true := fun p hp => by
    have hm := (down_perm rs 9 0 (List.range rs.length)).mem_iff.mp hp
    have h3 := hg p hm
    have h4 := h _ (getD_mem 0 (List.mem_range.mp hm))
    exact decide_eq_true (by omega)
  rw [turnedF_segs]
  generalize down rs 9 0 (List.range rs.length) = X at hall
  cases X with
  | nil => rw [segs_nil] <;> rfl
  | cons p r => exact segs_all (by simp) hall
end Tx
namespace Tx
open PySem PySem.Spec PyProof.Rows L2 Evl
/-! ### groups, greatest and least -/
def entG (e : Addr × List Nat) : Addr × HO := (e.1, .lst (e.2.map fun p : Nat => V.int p))
def R_law_groups (xs : List D) (d : D) : Prop := ∃ rs l, xs = [dI rs, di l] ∧ rs.length ≤ 60 ∧ d = .l ((groupsF (hiF rs l) (List.range rs.length)).map dN)
section
variable {K : PySem.W.Frag} {σ : L2.St} {H H0 H1 : Hp} {L : List (Addr × HO)} {ta tb te : TE} {p : Addr}
theorem ev_maxL {ns : List Nat} {v : Int} (h : EvD K ta σ H (dN ns)) (h0 : 0 < ns.length) (hv : ∀ m, m ∈ ns → (∀ y, y ∈ ns → y ≤ m) → (m : Int) = v) : EvD K (tCB (rMax K) (tCons ta tNil)) σ H (di v) := fun H1 e Q q => h H1 e _ fun x H2 e2 d => by
  obtain ⟨p, ys, rfl, s, dd⟩ := Dat.l_iff.mp d
  have ey := Dats.map_eq (f := fun n : Nat => V.int n) dd
  subst ey
  refine ⟨p, ns.map fun n : Nat => (n : Int), rfl, by rw [List.map_map]; exact s, by rw [List.length_map]; exact h0, fun m hm hle => ?_⟩
  obtain ⟨k, hk, rfl⟩ := List.mem_map.mp hm
  rw [hv k hk fun y hy => by have := hle y (List.mem_map.mpr ⟨y, hy, rfl⟩); omega]
  exact q _ H2 e2 Dat.v
theorem ev_minL {ns : List Nat} {v : Int} (h : EvD K ta σ H (dN ns)) (h0 : 0 < ns.length) (hv : ∀ m, m ∈ ns → (∀ y, y ∈ ns → m ≤ y) → (m : Int) = v) : EvD K (tCB (rMin K) (tCons ta tNil)) σ H (di v) := fun H1 e Q q => h H1 e _ fun x H2 e2 d => by
  obtain ⟨p, ys, rfl, s, dd⟩ := Dat.l_iff.mp d
  have ey := Dats.map_eq (f := fun n : Nat => V.int n) dd
  subst ey
  refine ⟨p, ns.map fun n : Nat => (n : Int), rfl, by rw [List.map_map]; exact s, by rw [List.length_map]; exact h0, fun m hm hle => ?_⟩
  obtain ⟨k, hk, rfl⟩ := List.mem_map.mp hm
  rw [hv k hk fun y hy => by have := hle y (List.mem_map.mpr ⟨y, hy, rfl⟩); omega]
  exact q _ H2 e2 Dat.v
theorem entG_dat (es : List (Addr × List Nat)) (h0 : ∀ e ∈ es, H0 e.1 = none) (h : ∀ e ∈ es, H e.1 = some (.lst (e.2.map fun p : Nat => V.int p))) : DatsN H0 H (es.map fun e => dN e.2) (es.map fun e => V.ref e.1) := by
  induction es with
  | nil => exact DatsN.nil
  | cons e r ih =>
    exact DatsN.cons (DatN.l_iff.mpr ⟨e.1, _, rfl, h0 e List.mem_cons_self, h e List.mem_cons_self, DatsN.map⟩) (ih (fun x hx => h0 x (List.mem_cons_of_mem _ hx)) fun x hx => h x (List.mem_cons_of_mem _ hx))
theorem Own.last (a : Addr × HO) (x : Own H0 H (a :: L)) : Own H0 H (L ++ [a]) := x.perm (List.perm_append_comm (l₁ := L) (l₂ := [a]))
end
theorem range_max {ns : List Nat} {a n : Nat} (hn : 0 < n) (h : ns.Perm ((List.range n).map fun i => a + i)) : 0 < ns.length ∧ (∀ m, m ∈ ns → (∀ y, y ∈ ns → y ≤ m) → (m : Int) = ((a + n - 1 : Nat) : Int)) ∧ (∀ m, m ∈ ns → (∀ y, y ∈ ns → m ≤ y) → (m : Int) = (a : Int)) := by
  have hm : ∀ x, x ∈ ns ↔ a ≤ x ∧ x < a + n := fun x => by
    rw [h.mem_iff, List.mem_map]
    constructor
    · rintro ⟨i, hi, rfl⟩
      have := List.mem_range.mp hi
      omega
    · rintro ⟨h1, h2⟩
      exact ⟨x - a, List.mem_range.mpr (by omega), by omega⟩
  refine ⟨by rw [h.length_eq, List.length_map, List.length_range]; exact hn, fun m h1 h2 => ?_, fun m h1 h2 => ?_⟩
  · have h3 := (hm m).mp h1
    have h4 := h2 (a + n - 1) ((hm _).mpr ⟨by omega, by omega⟩)
    omega
  · have h3 := (hm m).mp h1
    have h4 := h2 a ((hm _).mpr ⟨by omega, by omega⟩)
    omega
end Tx
/-! own errors -/
namespace Tx
open PySem PySem.Spec PyProof.Rows L2 Evl
/-- an own class over ValueError -/
structure ClsX (K : PySem.W.Frag) (mg : Str → Option Value) (n : Str) (C : Addr) : Prop where
  g : mg n = some (.ref C)
  x : PySem.W.excIn K C [.type "ValueError", .type "Exception", .type "BaseException", .type "object"] "ValueError.__new__" = true
  k : PySem.W.keepIn K (.ref C) = true
  b : PySem.W.subIn K (.ref C) (.type "BaseException") = some true
  t : PySem.W.typeIn K (.ref C) = some (.type "type")
/-- what an error of D answers, T the class over it, O another -/
structure RefX (K : PySem.W.Frag) (mg : Str → Option Value) (D T O : Addr) (nD nT nO : Str) : Prop where
  gD : mg nD = some (.ref D)
  gT : mg nT = some (.ref T)
  gO : mg nO = some (.ref O)
  ex : PySem.W.exmOne K (.ref D) (.ref T) = some true
  iD : PySem.W.kitOne K (.ref D) (.ref D) = some true
  iV : PySem.W.kitOne K (.ref D) (.type "ValueError") = some true
  iO : PySem.W.kitOne K (.ref D) (.ref O) = some false
  ec : ExcC K D
def CalX (P : Program) (w : World) (K : PySem.W.Frag) (mg : Str → Option Value) (base : Heap) (k : Nat) (x : Str) (ps : List Str) (sp : Sp) : Prop :=
  ∃ (f : Addr) (fd : FuncData), FnOk P w K mg base (L2.CX P w) k f fd ps sp ∧ mg x = some (.ref f) ∧ PySem.W.keepIn K (.ref f) = true ∧ Binds K fd ps []
theorem pe_callX {X : Cx} {j k : Nat} {x : Str} {ps : List Str} {sp : Sp} {e : Expr} {es : List Expr} {p pos : Pos} {t : TA} (C : CalX X.prog X.w X.K X.mg X.base j x ps sp) (hr : Room k X.A) (ha : PA X (e :: es) t) (hj : j ≤ k := by decide) (hg : Gl X x := by rfl) (hdb : (x == ("__debug__" : Str)) = false := by decide)
    (he : starEach (e :: es) X.env = (false, eval e X.env) :: starEach es X.env := by rfl) (hpl : (backTo pos (starEach es X.env)).any (·.1) = false := by rfl) : PE X (.Call (.Name x p) (e :: es) [] pos) (tCall sp [] E0 t) := by
  obtain ⟨f, fd, F, hm, hk, hb⟩ := C
  exact pe_call F (hr.mono hj) hg hm hk hb .nil passL ha hdb he hpl
theorem pe_callSX {X : Cx} {j k : Nat} {x : Str} {ps : List Str} {sp : Sp} {e : Expr} {es : List Expr} {p pos : Pos} {t : TA} {W : WX} (C : CalX X.prog X.w X.K X.mg X.base j x ps sp) (tk : Takes X W) (hr : Room k X.A) (ha : PA X (e :: es) t) (hj : j ≤ k := by decide) (hg : Gl X x := by rfl) (hdb : (x == ("__debug__" : Str)) = false := by decide)
    (he : starEach (e :: es) X.env = (false, eval e X.env) :: starEach es X.env := by rfl) (hpl : (backTo pos (starEach es X.env)).any (·.1) = false := by rfl) : PE X (.Call (.Name x p) (e :: es) [] pos) (tCallS sp (WE W) t) := by
  obtain ⟨f, fd, F, hm, hk, hb⟩ := C
  exact pe_callS F (hr.mono hj) hg hm hk hb (fun σ => passAt tk σ) ha hdb he hpl
theorem CalX.mk {P : Program} {w : World} {K : PySem.W.Frag} {mg : Str → Option Value} {base : Heap} {k : Nat} {x qual : Str} {ps : List Str} {sp : Sp} {st : Stmt} {f : Addr} {fd : FuncData} (F : Fun K x qual st f fd) (g : mg x = some (.ref f)) (b : Binds K fd ps []) (ok : FnOk P w K mg base (L2.CX P w) k f fd ps sp) : CalX P w K mg base k x ps sp := ⟨f, fd, ok, g, F.kp, b⟩
/-- a def that hands back new data, or raises -/
def PSpX (K : PySem.W.Frag) (C : Addr) (R : List D → D → Prop) (Rx : List D → Prop) : Sp := fun vs H Q E => ∃ xs, Dats K H xs vs ∧ ((∃ d, R xs d ∧ ∀ v H2, Ex H H2 → DatN H H2 d v → Q v H2) ∨ (Rx xs ∧ ∀ H2, Ex H H2 → E (.ref C) none H2))
theorem PSpX.len {K : PySem.W.Frag} {C : Addr} {R : List D → D → Prop} {Rx : List D → Prop} {n : Nat} (h : ∀ xs d, R xs d → xs.length = n) (h' : ∀ xs, Rx xs → xs.length = n) : ∀ vs H Q E, PSpX K C R Rx vs H Q E → vs.length = n := fun vs H Q E ⟨xs, a, b⟩ => by
  rcases b with ⟨d, r, _⟩ | ⟨r, _⟩
  · rw [a.length, h _ _ r]
  · rw [a.length, h' _ r]
section
variable {K : PySem.W.Frag} {σ : L2.St} {H H' H0 : Hp} {L L' : List (Addr × HO)} {te : TE} {tas : TA} {x y z w : D} {xs ys : List D} {De : Ends} {C : Addr} {R : List D → D → Prop} {Rx : List D → Prop}
theorem en_callX {E : XK} (h : EvDs K tas σ H xs) (hr : R xs z) : EvN (tCall (PSpX K C R Rx) [] E tas) σ H z := fun H1 e Q q =>
  h H1 e _ fun v H2 e2 d => by
    rw [List.append_nil]
    exact ⟨xs, d, .inl ⟨z, hr, fun u H3 e3 n => q u H3 (e2.trans e3) (n.mono e2 (Ex.refl H3))⟩⟩
theorem q_raises {W : WX} (h : EvDs K tas σ H xs) (hr : Rx xs) (k : ∀ H2, Ex H H2 → W (.ref C) none σ H2) : tDrop (tCallS (PSpX K C R Rx) (WE W) tas) De σ H := h H (Ex.refl H) _ fun v H2 e2 d => ⟨xs, d, .inr ⟨hr, fun H3 e3 => k H3 (e2.trans e3)⟩⟩
end
theorem call_is {X : Cx} {a D : Addr} {oe : Obj} {cls : Value} {d : Option Addr} {pn : List (Addr × Obj)} (C : ExcC X.K D) (hz : Zc cls d oe) (hf : ∃ vs, oe.data = .fields vs) : CallR (X.suite a ((a, oe) :: pn)) (.builtin "isinstance") (fun xs H Q => (cls = .ref D ∧ d = none) ∧ rIsE X.K D a xs H Q) := by
  intro pins s σ H xs us Q I r h
  obtain ⟨⟨rfl, rfl⟩, h⟩ := h
  exact call_isE C hz hf pins s σ H xs us Q I r h
section
variable {K : PySem.W.Frag} {x y : D}
theorem cd_isE {D a : Addr} {cls : Value} {dd : Option Addr} {c : V} {cv : Value} {b : Bool} (hc : cls = .ref D ∧ dd = none) (hv : ∀ u, RelV c u → u = cv) (hk : PySem.W.kitOne K (.ref D) cv = some b) : CD K (fun xs H Q => (cls = .ref D ∧ dd = none) ∧ rIsE K D a xs H Q) [.v (.ref a), .v c] (db b) := fun H vs dv Q q => by
  obtain ⟨v, w, rfl, h1, h2⟩ := dv.n2
  rw [Dat.v_iff.mp h1, Dat.v_iff.mp h2]
  exact ⟨hc, c, cv, b, rfl, hv, hk, q _ H (Ex.refl H) Dat.v⟩
end
end Tx
/-! runs of marked places in the order -/
namespace Tx
open PySem PySem.Spec PyProof.Rows L2 Evl
/-- closed runs and the begin of the open one, after n places -/
def rn (m : Nat → Bool) : Nat → List (Nat × Nat) × Option Nat
  | 0 => ([], none)
  | n + 1 => if m n = true then ((rn m n).1, some ((rn m n).2.getD n)) else match (rn m n).2 with
    | none => ((rn m n).1, none)
    | some b => ((rn m n).1 ++ [(b, n)], none)
def rnO (s : List (Nat × Nat) × Option Nat) (n : Nat) : List (Nat × Nat) := match s.2 with
  | none => s.1
  | some b => s.1 ++ [(b, n)]
def rnAt (m : Nat → Bool) (n : Nat) : List (Nat × Nat) := rnO (rn m n) n
def mstep (acc : List (Nat × Nat)) (s : Nat) : List (Nat × Nat) := match acc.getLast? with
  | none => acc ++ [(s, s + 1)]
  | some (a, b) => if b = s then acc.dropLast ++ [(a, s + 1)] else acc ++ [(s, s + 1)]
def mfold (l : List Nat) : List (Nat × Nat) := l.foldl mstep []
theorem mfold_snoc (l : List Nat) (s : Nat) : mfold (l ++ [s]) = mstep (mfold l) s := by
  unfold mfold
  rw [List.foldl_append] <;> rfl
theorem rn_last (m : Nat → Bool) : ∀ n, (∀ p ∈ (rn m n).1, p.1 < p.2 ∧ p.2 < n) ∧ (∀ b, (rn m n).2 = some b → b < n ∧ ∀ p ∈ (rn m n).1, p.2 < b) ∧ (rn m n).1.Pairwise (fun x y => x.2 < y.1)
  | 0 => ⟨fun _ h => (nomatch h), fun _ h => (nomatch h), List.Pairwise.nil⟩
  | n + 1 => by
    obtain ⟨h1, h2, h3⟩ := rn_last m n
    rw [rn]
    split
    · refine ⟨fun p hp => ⟨(h1 p hp).1, by have := (h1 p hp).2; omega⟩, fun b hb => ?_, h3⟩
      have hb' : (rn m n).2.getD n = b := Option.some.inj hb
      cases hc : (rn m n).2 with
      | none =>
        rw [hc] at hb'
        have : n = b := hb'
        subst this
        exact ⟨Nat.lt_succ_self _, fun p hp => (h1 p hp).2⟩
      | some c =>
        rw [hc] at hb'
        have : c = b := hb'
        subst this
        exact ⟨by have := (h2 c hc).1; omega, (h2 c hc).2⟩
    · cases hc : (rn m n).2 with
      | none => exact ⟨fun p hp => ⟨(h1 p hp).1, by have := (h1 p hp).2; omega⟩, fun b hb => (nomatch hb), h3⟩
      | some c =>
        have hc2 := h2 c hc
        refine ⟨fun p hp => ?_, fun b hb => (nomatch hb), ?_⟩
        · rcases List.mem_append.mp hp with hp | hp
          · exact ⟨(h1 p hp).1, by have := (h1 p hp).2; omega⟩
          · have : p = (c, n) := List.mem_singleton.mp hp
            subst this
            exact ⟨hc2.1, Nat.lt_succ_self _⟩
        · refine List.pairwise_append.mpr ⟨h3, List.pairwise_singleton _ _, fun x hx y hy => ?_⟩
          have : y = (c, n) := List.mem_singleton.mp hy
          subst this
          exact hc2.2 x hx
theorem mfold_rn (m : Nat → Bool) : ∀ n, mfold ((List.range n).filter m) = rnAt m n
  | 0 => rfl
  | n + 1 => by
    have ih := mfold_rn m n
    obtain ⟨h1, h2, _⟩ := rn_last m n
    rw [List.range_succ, List.filter_append]
    unfold rnAt at ih ⊢
    rw [rn]
    by_cases hm : m n = true
    · rw [if_pos hm, List.filter_cons_of_pos hm, List.filter_nil, mfold_snoc, ih]
      cases hc : (rn m n).2 with
      | none =>
        rw [rnO, hc]
        show mstep (rn m n).1 n = (rn m n).1 ++ [(n, n + 1)]
        unfold mstep
        split
        · rfl
        · rename_i a b e
          have hb := (h1 _ (List.mem_of_getLast? e)).2
          rw [if_neg (by have : b < n := hb; omega)]
      | some c =>
        rw [rnO, hc]
        show mstep ((rn m n).1 ++ [(c, n)]) n = (rn m n).1 ++ [(c, n + 1)]
        unfold mstep
        rw [List.getLast?_concat]
        show (if n = n then _ else _) = _
        rw [if_pos rfl, List.dropLast_concat]
    · rw [if_neg hm, List.filter_cons_of_neg hm, List.filter_nil, List.append_nil, ih]
      cases hc : (rn m n).2 with
      | none => rw [rnO, hc] <;> rfl
      | some c => rw [rnO, hc] <;> rfl
theorem rnAt_ok (m : Nat → Bool) (n : Nat) : (∀ p ∈ rnAt m n, p.1 < p.2) ∧ (rnAt m n).Pairwise (fun x y => x.2 < y.1) := by
  obtain ⟨h1, h2, h3⟩ := rn_last m n
  unfold rnAt rnO
  cases hc : (rn m n).2 with
  | none => exact ⟨fun p hp => (h1 p hp).1, h3⟩
  | some c =>
    refine ⟨fun p hp => ?_, List.pairwise_append.mpr ⟨h3, List.pairwise_singleton _ _, fun x hx y hy => ?_⟩⟩
    · rcases List.mem_append.mp hp with hp | hp
      · exact (h1 p hp).1
      · have : p = (c, n) := List.mem_singleton.mp hp
        subst this
        exact (h2 c hc).1
    · have : y = (c, n) := List.mem_singleton.mp hy
      subst this
      exact (h2 c hc).2 x hx
def tot (l : List (Nat × Nat)) : Nat := (l.map fun p => p.2 - p.1).sum
theorem tot_snoc (l : List (Nat × Nat)) (p : Nat × Nat) : tot (l ++ [p]) = tot l + (p.2 - p.1) := by simp [tot]
theorem rnAt_tot (m : Nat → Bool) : ∀ n, tot (rnAt m n) = ((List.range n).filter m).length
  | 0 => rfl
  | n + 1 => by
    have ih := rnAt_tot m n
    obtain ⟨h1, h2, _⟩ := rn_last m n
    rw [List.range_succ, List.filter_append, List.length_append, ← ih]
    unfold rnAt
    rw [rn]
    by_cases hm : m n = true
    · rw [if_pos hm, List.filter_cons_of_pos hm, List.filter_nil]
      cases hc : (rn m n).2 with
      | none =>
        rw [rnO, rnO, hc]
        show tot ((rn m n).1 ++ [(n, n + 1)]) = tot (rn m n).1 + 1
        rw [tot_snoc]
        show _ + (n + 1 - n) = _
        omega
      | some c =>
        rw [rnO, rnO, hc]
        show tot ((rn m n).1 ++ [(c, n + 1)]) = tot ((rn m n).1 ++ [(c, n)]) + 1
        rw [tot_snoc, tot_snoc]
        show _ + (n + 1 - c) = _ + (n - c) + 1
        have := (h2 c hc).1
        omega
    · rw [if_neg hm, List.filter_cons_of_neg hm, List.filter_nil]
      cases hc : (rn m n).2 with
      | none => rw [rnO, rnO, hc] <;> rfl
      | some c => rw [rnO, rnO, hc] <;> rfl
/-! ### changes -/
def ch : Bool → List Bool → Bool → Nat
  | s, [], e => if s = e then 0 else 1
  | s, x :: r, e => (if s = x then 0 else 1) + ch x r e
theorem ch_app (x e : Bool) (r : List Bool) : ∀ (s : Bool) (l : List Bool), ch s (l ++ x :: r) e = ch s l x + ch x r e
  | s, [] => rfl
  | s, y :: l => by rw [List.cons_append, ch, ch, ch_app x e r y l, Nat.add_assoc]
theorem ch_rev : ∀ (l : List Bool) (s e : Bool), ch s l e = ch e l.reverse s
  | [], s, e => by cases s <;> cases e <;> rfl
  | x :: l, s, e => by
    rw [ch, List.reverse_cons, ch_app, ch_rev l x e]
    have : ch x [] s = if s = x then 0 else 1 := by cases s <;> cases x <;> rfl
    rw [this]
    omega
theorem ch_end (l : List Bool) : ∀ (s e e' : Bool), ch s l e ≤ 1 + ch s l e' := by
  induction l with
  | nil => intro s e e'; cases s <;> cases e <;> cases e' <;> decide
  | cons x l ih =>
    intro s e e'
    rw [ch, ch]
    have := ih x e e'
    omega
theorem ch_flip (l : List Bool) : ch true l false ≤ 2 + ch false l true := by
  have h1 := ch_end l true false true
  have h2 := ch_end l.reverse true true false
  rw [ch_rev l true true] at h1
  rw [ch_rev l false true]
  omega
theorem ch_xor {α : Type} (f g : α → Bool) : ∀ (l : List α) (s s' e e' : Bool), ch (s ^^ s') (l.map fun p => f p ^^ g p) (e ^^ e') ≤ ch s (l.map f) e + ch s' (l.map g) e'
  | [], s, s', e, e' => by
    rw [List.map_nil, List.map_nil, List.map_nil]
    cases s <;> cases s' <;> cases e <;> cases e' <;> decide
  | x :: l, s, s', e, e' => by
    have ih := ch_xor f g l (f x) (g x) e e'
    rw [List.map_cons, List.map_cons, List.map_cons, ch, ch, ch]
    have : (if (s ^^ s') = (f x ^^ g x) then 0 else 1) ≤ (if s = f x then 0 else 1) + (if s' = g x then 0 else 1) := by
      cases s <;> cases s' <;> cases f x <;> cases g x <;> decide
    omega
theorem ch_same (x : Bool) : ∀ (l : List Bool), (∀ y ∈ l, y = x) → ∀ r e, ch x (l ++ r) e = ch x r e
  | [], _, r, e => rfl
  | y :: l, h, r, e => by
    have hy := h y List.mem_cons_self
    subst hy
    rw [List.cons_append, ch, if_pos rfl, ch_same y l (fun z hz => h z (List.mem_cons_of_mem _ hz)), Nat.zero_add]
theorem ch_tail (x : Bool) (l r : List Bool) (h : ∀ y ∈ r, y = x) (s : Bool) : ch s (l ++ r) x = ch s l x := by
  rw [ch_rev, List.reverse_append, ch_same x r.reverse (fun y hy => h y (List.mem_reverse.mp hy)), ← ch_rev]
theorem ch_rn (m : Nat → Bool) : ∀ n e, ch false ((List.range n).map m) e = 2 * (rn m n).1.length + (match (rn m n).2 with | none => if e = true then 1 else 0 | some _ => if e = true then 1 else 2)
  | 0, e => by cases e <;> rfl
  | n + 1, e => by
    have ih := ch_rn m n (m n)
    rw [List.range_succ, List.map_append, List.map_cons, List.map_nil, ch_app, ih, rn]
    cases hm : m n with
    | true =>
      rw [if_pos rfl]
      cases hc : (rn m n).2 with
      | none => cases e <;> simp [ch]
      | some c => cases e <;> simp [ch]
    | false =>
      rw [if_neg (by decide)]
      cases hc : (rn m n).2 with
      | none => cases e <;> simp [ch]
      | some c => cases e <;> simp [ch] <;> omega
theorem ch_rnAt (m : Nat → Bool) (n : Nat) : ch false ((List.range n).map m) false = 2 * (rnAt m n).length := by
  rw [ch_rn]
  unfold rnAt rnO
  cases hc : (rn m n).2 with
  | none => simp
  | some c => simp; omega
/-! ### the order's marks -/
theorem segs_perm {hi : Nat → Bool} {F : List Nat → List Nat} (hF : ∀ g, (F g).Perm g) : ∀ (n : Nat) (ps : List Nat), ps.length ≤ n → (segs hi F ps).Perm ps
  | 0, [], _ => by rw [segs_nil]
  | n + 1, [], _ => by rw [segs_nil]
  | n + 1, p :: r, h => by
    rw [segs_cons]
    have hl : r.length ≤ n := by simpa using h
    split
    · have hd : (r.dropWhile hi).length ≤ n := Nat.le_trans (List.dropWhile_sublist _).length_le hl
      refine ((hF _).append (segs_perm hF n _ hd)).trans ?_
      rw [List.cons_append, List.takeWhile_append_dropWhile]
    · exact (segs_perm hF n r hl).cons p
theorem lord_perm (row : List Int) : ∀ (f : Nat) (l : Int) (ps : List Nat), (lord row f l ps).Perm ps
  | 0, _, _ => by rw [lord]
  | f + 1, l, ps => by
    rw [lord]
    exact segs_perm (fun g => (List.reverse_perm _).trans (lord_perm row f (l + 1) g)) _ _ (Nat.le_refl _)
theorem ch_pre (row : List Int) (c : Nat) : ∀ (f k : Nat) (l : Int) (ps : List Nat), k ≤ f → ps.Pairwise (· < ·) → (∀ p ∈ ps, row.getD p 0 ≤ l + k) → ch true ((lord row f l ps).map fun p => decide (p < c)) false ≤ 1 + 2 * k := by
  have flat : ∀ ps : List Nat, ps.Pairwise (· < ·) → ch true (ps.map fun p => decide (p < c)) false ≤ 1 := by
    intro ps
    induction ps with
    | nil => intro _; exact Nat.le_refl 1
    | cons p r ih =>
      intro h
      obtain ⟨h1, h2⟩ := List.pairwise_cons.mp h
      rw [List.map_cons, ch]
      by_cases hp : p < c
      · rw [if_pos (decide_eq_true hp).symm, decide_eq_true hp]
        have := ih h2
        omega
      · rw [decide_eq_false hp, if_neg (by decide)]
        have e : ch false (r.map fun p => decide (p < c)) false = 0 := by
          have z := ch_same false (r.map fun p => decide (p < c)) (fun y hy => by
            obtain ⟨q, hq, rfl⟩ := List.mem_map.mp hy
            exact decide_eq_false (by have := h1 q hq; omega)) [] false
          rw [List.append_nil] at z
          rw [z] <;> rfl
        omega
  intro f
  induction f with
  | zero =>
    intro k l ps hk hs _
    rw [lord]
    have := flat ps hs
    omega
  | succ f ih =>
    intro k l ps hk hs hm
    rw [lord]
    cases k with
    | zero =>
      rw [segs_no (hi := above row l) fun p hp => by
        unfold above
        exact decide_eq_false (by have := hm p hp; omega)]
      exact flat ps hs
    | succ k =>
      suffices h : ∀ (n : Nat) (ps : List Nat), ps.length ≤ n → ps.Pairwise (· < ·) → (∀ p ∈ ps, row.getD p 0 ≤ l + (k + 1 : Nat)) → ch true ((segs (above row l) (fun g => (lord row f (l + 1) g).reverse) ps).map fun p => decide (p < c)) false ≤ 1 + 2 * (k + 1) from h _ ps (Nat.le_refl _) hs hm
      intro n
      have FP : ∀ g : List Nat, ((lord row f (l + 1) g).reverse).Perm g := fun g => (List.reverse_perm _).trans (lord_perm row f (l + 1) g)
      have tailF : ∀ r : List Nat, (∀ q ∈ r, c ≤ q) → ∀ y ∈ (segs (above row l) (fun g => (lord row f (l + 1) g).reverse) r).map (fun p => decide (p < c)), y = false := fun r hr y hy => by
        obtain ⟨q, hq, rfl⟩ := List.mem_map.mp hy
        have := hr q ((segs_perm FP _ r (Nat.le_refl _)).mem_iff.mp hq)
        exact decide_eq_false (by omega)
      induction n with
      | zero =>
        intro ps hl _ _
        have : ps = [] := List.length_eq_zero_iff.mp (Nat.le_zero.mp hl)
        subst this
        rw [segs_nil]
        show (1 : Nat) ≤ _
        omega
      | succ n ihn =>
        intro ps hl hs hm
        cases ps with
        | nil =>
          rw [segs_nil]
          show (1 : Nat) ≤ _
          omega
        | cons p r =>
          have hlr : r.length ≤ n := by simpa using hl
          obtain ⟨h1, h2⟩ := List.pairwise_cons.mp hs
          rw [segs_cons]
          by_cases hp : above row l p = true
          · rw [if_pos hp, List.map_append]
            have hg : (p :: r.takeWhile (above row l)) ++ r.dropWhile (above row l) = p :: r := by rw [List.cons_append, List.takeWhile_append_dropWhile]
            rw [← hg] at hs hm
            obtain ⟨s1, s2, s3⟩ := List.pairwise_append.mp hs
            generalize p :: r.takeWhile (above row l) = g at hg s1 s3 hm
            have hd : (r.dropWhile (above row l)).length ≤ n := Nat.le_trans (List.dropWhile_sublist _).length_le hlr
            generalize r.dropWhile (above row l) = t at hd s2 s3 hm
            by_cases ha : ∀ q ∈ g, q < c
            · rw [ch_same true _ (fun y hy => by
                obtain ⟨q, hq, rfl⟩ := List.mem_map.mp hy
                exact decide_eq_true (ha q ((FP g).mem_iff.mp hq)))]
              exact ihn t hd s2 fun q hq => hm q (List.mem_append_right _ hq)
            · obtain ⟨q, hq⟩ := Classical.not_forall.mp ha
              obtain ⟨hq, hqc⟩ := Classical.not_imp.mp hq
              rw [ch_tail false _ _ (tailF t fun u hu => by have := s3 q hq u hu; omega)]
              have i1 := ih k (l + 1) g (by omega) s1 fun u hu => by have := hm u (List.mem_append_left _ hu); omega
              rw [List.map_reverse]
              have i2 := ch_flip ((lord row f (l + 1) g).map fun p => decide (p < c)).reverse
              rw [ch_rev _ false true, List.reverse_reverse] at i2
              omega
          · rw [if_neg hp, List.map_cons, ch]
            by_cases hc : p < c
            · rw [decide_eq_true hc, if_pos rfl]
              have := ihn r hlr h2 fun q hq => hm q (List.mem_cons_of_mem _ hq)
              omega
            · rw [decide_eq_false hc, if_neg (by decide)]
              have z := ch_same false _ (tailF r fun u hu => by have := h1 u hu; omega) [] false
              rw [List.append_nil] at z
              rw [z]
              show 1 + 0 ≤ _
              omega
/-- is the s-th of the order marked -/
def mrk (rs : List Int) (a b s : Nat) : Bool := decide (a ≤ (orderF rs).getD s 0) && decide ((orderF rs).getD s 0 < b)
theorem mrk_map (rs : List Int) (a b : Nat) : (List.range rs.length).map (mrk rs a b) = (orderF rs).map fun p => decide (a ≤ p) && decide (p < b) := by
  have h := congrArg (List.map fun p => decide (a ≤ p) && decide (p < b)) (map_getD_range 0 (orderF rs))
  rw [List.map_map, orderF_len] at h
  exact h
theorem pieces_few {rs : List Int} (hv : Lv rs) {k a b : Nat} (hk : k ≤ 10) (hm : ∀ x ∈ rs, x ≤ k) (hab : a ≤ b) : (rnAt (mrk rs a b) rs.length).length ≤ 1 + 2 * k := by
  have h := ch_rnAt (mrk rs a b) rs.length
  rw [mrk_map] at h
  have x := ch_xor (fun p : Nat => decide (p < b)) (fun p : Nat => decide (p < a)) (orderF rs) true true false false
  have e : ((orderF rs).map fun p => decide (p < b) ^^ decide (p < a)) = (orderF rs).map fun p => decide (a ≤ p) && decide (p < b) := List.map_congr_left fun p _ => by
    by_cases h1 : p < a
    · rw [decide_eq_true (show p < b by omega), decide_eq_true h1, decide_eq_false (show ¬ a ≤ p by omega)] <;> rfl
    · by_cases h2 : p < b
      · rw [decide_eq_true h2, decide_eq_false h1, decide_eq_true (show a ≤ p by omega)] <;> rfl
      · rw [decide_eq_false h2, decide_eq_false h1, Bool.and_false] <;> rfl
  rw [e] at x
  have hp : ∀ c, ch true ((orderF rs).map fun p => decide (p < c)) false ≤ 1 + 2 * k := fun c => by
    rw [← order_lord hv]
    refine ch_pre rs c 10 k 0 _ hk List.pairwise_lt_range fun p hp => ?_
    have hp := List.mem_range.mp hp
    have := hm _ (getD_mem 0 hp)
    omega
  have h1 := hp a
  have h2 := hp b
  have x' : ch false (List.map (fun p => decide (a ≤ p) && decide (p < b)) (orderF rs)) false ≤ ch true ((orderF rs).map fun p => decide (p < b)) false + ch true ((orderF rs).map fun p => decide (p < a)) false := x
  omega
theorem seen_order {rs : List Int} {p s : Nat} : (seenF rs)[p]? = some s ↔ (orderF rs)[s]? = some p := by
  constructor
  · intro h
    rw [seenF_idx, List.getElem?_map] at h
    cases hp : (List.range rs.length)[p]? with
    | none => rw [hp] at h; cases h
    | some p' =>
      have hl : p < rs.length := by
        have := (List.getElem?_eq_some_iff.mp hp).1
        rwa [List.length_range] at this
      have e : p' = p := by
        rw [List.getElem?_range hl] at hp
        exact (Option.some.inj hp).symm
      subst e
      rw [hp] at h
      have : (orderF rs).idxOf p' = s := Option.some.inj h
      subst this
      exact idx_get (orderF_mem hl)
  · exact seenF_get
theorem slice_get {α : Type} {l : List α} {a b : Nat} {x : α} : x ∈ (l.drop a).take (b - a) ↔ ∃ p, a ≤ p ∧ p < b ∧ l[p]? = some x := by
  constructor
  · intro h
    obtain ⟨i, hi⟩ := List.mem_iff_getElem?.mp h
    rw [List.getElem?_take] at hi
    split at hi
    · rw [List.getElem?_drop] at hi
      exact ⟨a + i, by omega, by omega, hi⟩
    · cases hi
  · intro ⟨p, h1, h2, h3⟩
    refine List.mem_iff_getElem?.mpr ⟨p - a, ?_⟩
    rw [List.getElem?_take, if_pos (by omega), List.getElem?_drop]
    have : a + (p - a) = p := by omega
    rw [this]
    exact h3
theorem seenF_nodup (rs : List Int) : (seenF rs).Nodup := by
  rw [seenF_idx]
  unfold List.Nodup
  rw [List.pairwise_map]
  refine List.nodup_range.imp_of_mem fun {a b} ha hb hne e => hne ?_
  have h1 := idx_get (orderF_mem (List.mem_range.mp ha))
  have h2 := idx_get (orderF_mem (List.mem_range.mp hb))
  rw [e, h2] at h1
  exact (Option.some.inj h1).symm
theorem slice_perm (rs : List Int) (a b : Nat) : ((List.range rs.length).filter (mrk rs a b)).Perm (((seenF rs).drop a).take (b - a)) := by
  refine (List.perm_ext_iff_of_nodup (List.nodup_range.filter _) (((seenF_nodup rs).sublist (List.drop_sublist a _)).sublist (List.take_sublist _ _))).mpr fun s => ?_
  rw [slice_get, List.mem_filter, List.mem_range]
  constructor
  · intro ⟨h1, h2⟩
    have hs : (orderF rs)[s]? = some ((orderF rs).getD s 0) := by
      rw [List.getD, List.getElem?_eq_getElem (by rw [orderF_len]; exact h1)] <;> rfl
    have h3 := (Bool.and_eq_true _ _).mp h2
    exact ⟨_, of_decide_eq_true h3.1, of_decide_eq_true h3.2, seen_order.mpr hs⟩
  · intro ⟨p, h1, h2, h3⟩
    have hs := seen_order.mp h3
    have hl := (List.getElem?_eq_some_iff.mp hs).1
    rw [orderF_len] at hl
    refine ⟨hl, ?_⟩
    unfold mrk
    rw [List.getD, hs]
    show (decide (a ≤ p) && decide (p < b)) = true
    rw [decide_eq_true h1, decide_eq_true h2] <;> rfl
theorem slice_sorted (rs : List Int) (a b : Nat) : ((List.range rs.length).filter (mrk rs a b)).Pairwise (· ≤ ·) := (List.pairwise_lt_range.filter _).imp fun h => Nat.le_of_lt h
theorem pieces_tot {rs : List Int} {a b : Nat} (h1 : a ≤ b) (h2 : b ≤ rs.length) : tot (rnAt (mrk rs a b) rs.length) = b - a := by
  rw [rnAt_tot, (slice_perm rs a b).length_eq, List.length_take, List.length_drop, seenF_len]
  omega
/-- one piece, for a longest row of places -/
theorem pieces_one {rs : List Int} (hv : Lv rs) {a b : Nat} (hab : a < b) (hb : b ≤ rs.length) {l : Int} (hi : ∀ p, a ≤ p → p < b → l ≤ rs.getD p 0) (h1 : 0 < a → rs.getD (a - 1) 0 < l) (h2 : b < rs.length → rs.getD b 0 < l) : (rnAt (mrk rs a b) rs.length).length = 1 := by
  have h := ch_rnAt (mrk rs a b) rs.length
  rw [mrk_map] at h
  have hr : List.range rs.length = List.range a ++ ((List.range' a (b - a)) ++ List.range' b (rs.length - b)) := by
    rw [List.range_eq_range', List.range_eq_range']
    have e1 : List.range' a (b - a) ++ List.range' b (rs.length - b) = List.range' a (rs.length - a) := by
      have z := List.range'_append_1 (s := a) (m := b - a) (n := rs.length - b)
      have e : a + (b - a) = b := by omega
      have e' : b - a + (rs.length - b) = rs.length - a := by omega
      rw [e, e'] at z
      exact z
    rw [e1]
    have z := List.range'_append_1 (s := 0) (m := a) (n := rs.length - a)
    have e : 0 + a = a := by omega
    have e' : a + (rs.length - a) = rs.length := by omega
    rw [e, e'] at z
    exact z.symm
  have hg : List.range' a (b - a) ≠ [] := fun z => by
    have := congrArg List.length z
    rw [List.length_range'] at this
    have : b - a = 0 := this
    omega
  have hh : ∀ p ∈ List.range' a (b - a), hiF rs l p = true := fun p hp => by
    have := List.mem_range'_1.mp hp
    exact decide_eq_true (hi p this.1 (by omega))
  have bl : Blk (hiF rs l) (List.range' a (b - a)) (List.range rs.length) := by
    refine ⟨_, _, _, hr, List.Perm.refl _, fun x hx => ?_, fun y s hy => ?_⟩
    · cases a with
      | zero => simp at hx
      | succ c =>
        rw [List.range_succ, List.getLast?_concat] at hx
        have e : c = x := Option.some.inj hx
        subst e
        have := h1 (by omega)
        rw [Nat.add_sub_cancel] at this
        exact decide_eq_false (by omega)
    · cases hn : rs.length - b with
      | zero => rw [hn] at hy; cases hy
      | succ k =>
        rw [hn, List.range'_succ] at hy
        have e : b = y := (List.cons.inj hy).1
        subst e
        have := h2 (by omega)
        exact decide_eq_false (by omega)
  have bo := blk_down hg hh bl 10 0
  rw [← order_down hv] at bo
  obtain ⟨A, g', B, e, hp, _, _⟩ := bo
  have nd := orderF_nodup rs
  rw [e] at h nd
  obtain ⟨_, nd2, nd3⟩ := List.nodup_append.mp nd
  obtain ⟨_, _, nd4⟩ := List.nodup_append.mp nd2
  have inG : ∀ p, p ∈ g' ↔ a ≤ p ∧ p < b := fun p => by
    rw [hp.mem_iff, List.mem_range'_1]
    omega
  have out : ∀ p, p ∉ g' → (decide (a ≤ p) && decide (p < b)) = false := fun p hn => by
    by_cases x : a ≤ p
    · by_cases y : p < b
      · exact absurd ((inG p).mpr ⟨x, y⟩) hn
      · rw [decide_eq_false y, Bool.and_false]
    · rw [decide_eq_false x, Bool.false_and]
  have hA : ∀ y ∈ A.map (fun p => decide (a ≤ p) && decide (p < b)), y = false := fun y hy => by
    obtain ⟨p, hp, rfl⟩ := List.mem_map.mp hy
    exact out p fun hm => nd3 p hp p (List.mem_append_left _ hm) rfl
  have hB : ∀ y ∈ B.map (fun p => decide (a ≤ p) && decide (p < b)), y = false := fun y hy => by
    obtain ⟨p, hp, rfl⟩ := List.mem_map.mp hy
    exact out p fun hm => nd4 p hm p hp rfl
  have hG : ∀ y ∈ g'.map (fun p => decide (a ≤ p) && decide (p < b)), y = true := fun y hy => by
    obtain ⟨p, hp, rfl⟩ := List.mem_map.mp hy
    have := (inG p).mp hp
    rw [decide_eq_true this.1, decide_eq_true this.2] <;> rfl
  rw [List.map_append, List.map_append, ch_same false _ hA, ch_tail false _ _ hB] at h
  cases hgc : g' with
  | nil =>
    subst hgc
    exact absurd (hp.symm.eq_nil) hg
  | cons x t =>
    rw [hgc, List.map_cons] at h
    rw [hgc, List.map_cons] at hG
    have hx := hG _ List.mem_cons_self
    rw [hx, ch, if_neg (by decide)] at h
    have z := ch_same true _ (fun y hy => hG y (List.mem_cons_of_mem _ hy)) [] false
    rw [List.append_nil] at z
    rw [z] at h
    have : ch true [] false = 1 := rfl
    omega
end Tx
/-! lists of pairs -/
namespace Tx
open PySem PySem.Spec PyProof.Rows L2 Evl
section
variable {K : PySem.W.Frag} {σ : L2.St} {H H' H0 H1 Hb : Hp} {L : List (Addr × HO)} {te tb tl : TE} {t : TT} {x y z : D} {xs ys : List D} {De : Ends} {tz tu : TS} {p q : Addr}
theorem DatsN.snoc_inv : ∀ {xs : List D} {vs : List V}, DatsN H0 H (xs ++ [z]) vs → ∃ vs0 v0, vs = vs0 ++ [v0] ∧ DatsN H0 H xs vs0
  | [], vs, h => by
    obtain ⟨y, s, rfl, a, b⟩ := DatsN.cons_iff.mp (show DatsN H0 H (z :: []) vs from h)
    rw [DatsN.nil_iff.mp b]
    exact ⟨[], y, rfl, DatsN.nil⟩
  | x :: r, vs, h => by
    obtain ⟨y, s, rfl, a, b⟩ := DatsN.cons_iff.mp (show DatsN H0 H (x :: (r ++ [z])) vs from h)
    obtain ⟨vs0, v0, rfl, c⟩ := DatsN.snoc_inv b
    exact ⟨y :: vs0, v0, rfl, DatsN.cons a c⟩
theorem ixN_last (n : Nat) : ixN (n + 1) (-1) = some n := by
  unfold ixN
  simp
  omega
theorem s_putA {i : Nat} {vs : List V} {M : HO → List (Addr × HO)} (o : Own H0 H L) (a : Acc H' H p vs (xs ++ [z])) (hs : σ[i]? = some (some (.ref p))) (hl : H p = some (.lst vs)) (put : ∀ (H1 : Hp) (u : HO), Own H0 H1 L → Own H0 (upd H1 p u) (M u))
    (h : EvN te σ H x) (hi : ∀ H1, Ex H H1 → EvD K tb σ H1 (di (-1))) (k : ∀ vs' H1, Own H0 H1 (M (.lst vs')) → Acc H' H1 p vs' (xs ++ [x]) → De.nx σ H1) : tAsg te (gSub (tVar i) tb rSetL) De σ H :=
  h H (Ex.refl H) _ fun y H2 e2 d => ⟨.ref p, hs, hi H2 e2 H2 (Ex.refl _) _ fun zv H3 e3 dz => by
    obtain ⟨Hb, h1, hb, a1, a2⟩ := a
    obtain ⟨vs0, v0, rfl, a0⟩ := a1.snoc_inv
    have hj : ixN (vs0 ++ [v0]).length (-1) = some vs0.length := by rw [List.length_append]; exact ixN_last _
    refine ⟨p, vs0 ++ [v0], -1, vs0.length, rfl, Dat.v_iff.mp dz, (e2.trans e3) p _ hl, hj, ?_⟩
    have es : (vs0 ++ [v0]).set vs0.length y = vs0 ++ [y] := by simp
    rw [es]
    have s : AccD Hb (upd H3 p (.lst (vs0 ++ [y]))) (vs0 ++ [y]) (xs ++ [x]) := AccD.snoc (H := H) ⟨a0, a2⟩ hb (e2.trans e3) (d.mono (Ex.refl _) e3)
    exact k _ _ (put _ _ (o.grow (e2.trans e3))) ⟨Hb, h1, hb, s⟩⟩
theorem q_putA {i : Nat} {vs : List V} {M : HO → List (Addr × HO)} (o : Own H0 H L) (a : Acc H' H p vs (xs ++ [z])) (hs : σ[i]? = some (some (.ref p))) (hl : H p = some (.lst vs)) (put : ∀ (H1 : Hp) (u : HO), Own H0 H1 L → Own H0 (upd H1 p u) (M u))
    (h : EvN te σ H x) (hi : ∀ H1, Ex H H1 → EvD K tb σ H1 (di (-1))) (k : ∀ vs' H1, Own H0 H1 (M (.lst vs')) → Acc H' H1 p vs' (xs ++ [x]) → tz De σ H1) : tSeq (tAsg te (gSub (tVar i) tb rSetL)) tz De σ H := s_putA (De := { De with nx := tz De }) o a hs hl put h hi k
theorem en_lcT1 {α : Type} {ns : List α} {f : α → V} {j : Nat} {vs : List Nat} (e : α → D) (h : EvD K tl σ H (.t (ns.map fun a => .v (f a)))) (hz : ns.length ≤ 40000) (hw : ∀ x, wipe ((wipe σ vs).set j (some x)) vs = wipe σ vs)
    (he : ∀ a ∈ ns, ∀ H2, Ex H H2 → EvN te ((wipe σ vs).set j (some (f a))) H2 (e a)) : EvN (tLc (iTup K tl) (gName j) tYes te vs) σ H (.l (ns.map e)) := by
  have g : EvN (tLc (iTup K tl) (gName j) tYes te vs) σ H (.l ((ns.filter fun _ => true).map e)) := fun H0 e0 Q q => h H0 e0 _ fun v H1 e1 d => by
    obtain ⟨p, ys, rfl, s, dd⟩ := Dat.t_iff.mp d
    have ey := Dats.map_eq dd
    subst ey
    refine ⟨p, rfl, ⟨_, s⟩, fun Dl hD => ?_⟩
    have hlen : (ns.map f).length = ns.length := List.length_map ..
    exact lc_any (t := tYes) (hlen ▸ walk_tup) (fun i H x H' hy => ⟨hy.1, by
      have h2 := hy.2
      rw [List.getElem?_map] at h2
      cases hn : ns[i]? with
      | none => rw [hn] at h2; cases h2
      | some a =>
        rw [hn] at h2
        exact ⟨a, rfl, (Option.some.inj h2).symm⟩⟩) (fun _ => true) e hz hw (fun H' e' => ex_t e' s) (fun a ha H2 e2 => et_yes) (fun a ha H2 e2 hb => he a ha H2 ((e0.trans e1).trans e2)) (fun v H2 e2 dn => q v H2 (e1.trans e2) (dn.mono e1 (Ex.refl _))) hD
  rw [List.filter_eq_self.mpr (fun _ _ => rfl)] at g
  exact g
theorem en_sortedN {ns ms : List Nat} (hl : ns.length < 64) (hp : ms.Perm ns) (hw : ms.Pairwise (· ≤ ·)) {ta : TE} (h : EvD K ta σ H (dN ns)) : EvN (tCB (rSorted K) (tCons ta tNil)) σ H (dN ms) := by
  rw [dN_dI]
  rw [dN_dI] at h
  exact en_sortedI (by rw [List.length_map]; exact hl) (hp.map _) (List.pairwise_map.mpr (hw.imp fun h => by omega)) h
end
/-- a pair -/
abbrev pD (p : Nat × Nat) : D := .t [dn p.1, dn p.2]
theorem rd_neT {K : PySem.W.Frag} {a : Nat × Nat} : RD K (rNeD K) (pD a) (pD a) (db false) := by
  have h := rd_neD (K := K) (x := pD a) (y := pD a) (by simp [good, goods]) (by simp [good, goods]) (by simp only [py, pys]; rfl) (by simp only [py, pys]; rfl)
  have e : PyData.eqv (py (pD a)) (py (pD a)) = true := by simp [py, pys, PyData.eqv, PyData.eqvAll]
  rw [e] at h
  exact h
def mrkI (rs : List Int) (a b : Int) (s : Nat) : Bool := mrk rs a.toNat b.toNat s
def R_pieces (xs : List D) (d : D) : Prop := ∃ rs a b, xs = [dI rs, di a, di b] ∧ (Lv rs ∧ 0 ≤ a ∧ a ≤ b ∧ b ≤ rs.length) ∧ d = .l ((rnAt (mrk rs a.toNat b.toNat) rs.length).map pD)
def X_pieces (xs : List D) : Prop := ∃ rs a b, xs = [dI rs, di a, di b] ∧ ¬ (0 ≤ a ∧ a ≤ b ∧ b ≤ (rs.length : Int))
def R_law_pieces (xs : List D) (d : D) : Prop := R_pieces xs d
def R_law_same7 (xs : List D) (d : D) : Prop := ∃ fs : List (Nat × Nat), xs = [.l (fs.map pD), .l (fs.map pD)] ∧ fs.length ≤ 1000 ∧ d = db true
def R_law_refused7 (xs : List D) (d : D) : Prop := X_pieces xs ∧ d = db true
end Tx
namespace Tx
open PySem PySem.Spec PyProof.Rows L2 Evl
theorem et_chain3K {K : PySem.W.Frag} {σ : L2.St} {H : Hp} {ta tb tc td : TE} {x y z w : D} (_ : IsK K) {r r' r2 : R2} {a b c : Bool} (ha : EvD K ta σ H x) (hb : EvD K tb σ H y) (hr : RD K r x y (db a)) (hc : a = true → EvD K tc σ H z) (hr' : a = true → RD K r' y z (db b)) (hd : a = true → b = true → EvD K td σ H w) (hr2 : a = true → b = true → RD K r2 z w (db c)) :
    EvT (tTest (fun σ H Q => ta σ H fun x H1 => tb σ H1 fun y H2 => r x y H2 fun z H3 => ∃ k, z = .bl k ∧
      (if k = true then tc σ H3 fun w' H4 => r' y w' H4 fun z' H5 => ∃ k', z' = .bl k' ∧ (if k' = true then td σ H5 fun u' H6 => r2 w' u' H6 Q else Q (.bl false) H5) else Q (.bl false) H3))) σ H (a && (b && c)) := et_chain3 ha hb hr hc hr' hd hr2
theorem ev_chainK {K : PySem.W.Frag} {σ : L2.St} {H : Hp} {ta tb tc : TE} {x y z : D} {r r' : R2} {a b : Bool} (ha : EvD K ta σ H x) (hb : EvD K tb σ H y) (hr : RD K r x y (db a)) (hc : a = true → EvD K tc σ H z) (hr' : a = true → RD K r' y z (db b)) : EvD K (tChain r r' ta tb tc) σ H (db (a && b)) := ev_chain ha hb hr hc hr'
theorem en_cut {K : PySem.W.Frag} {σ : L2.St} {H : Hp} {te : TE} {tl th : TO} {α : Type} {f : α → V} {ns : List α} {a z : Nat} (h : EvD K te σ H (.l (ns.map fun a => .v (f a)))) (h1 : EvO K tl σ H (some (a : Int))) (h2 : EvO K th σ H (some (z : Int))) (hz : z ≤ ns.length) : EvN (tSl (rSlL K) te tl th) σ H (.l (((ns.drop a).take (z - a)).map fun a => .v (f a))) := by
  have g := en_sl h h1 h2
  rw [cut_nat _ hz] at g
  exact g
theorem en_pair {σ : L2.St} {H : Hp} {tas : TA} {a b : Int} {m n : Nat} (h : EvNs tas σ H [di a, di b]) (ha : a = (m : Int)) (hb : b = (n : Int)) : EvN (tTup tas) σ H (pD (m, n)) := by
  subst ha hb
  exact en_tup h (Nat.le_of_ble_eq_true rfl)
theorem rn_congr {m m' : Nat → Bool} : ∀ n, (∀ i, i < n → m i = m' i) → rn m n = rn m' n
  | 0, _ => rfl
  | n + 1, h => by rw [rn, rn, h n (Nat.lt_succ_self n), rn_congr n fun i hi => h i (Nat.lt_succ_of_lt hi)]
theorem rn_fin (m : Nat → Bool) (n : Nat) : (rn (fun i => decide (i < n) && m i) (n + 1)).1 = rnAt m n := by
  have e : rn (fun i => decide (i < n) && m i) n = rn m n := rn_congr n fun i hi => by rw [decide_eq_true hi, Bool.true_and]
  rw [rn, e, decide_eq_false (Nat.lt_irrefl n), Bool.false_and, if_neg (by decide)]
  unfold rnAt rnO
  cases (rn m n).2 <;> rfl
def onV : Option Nat → V
  | none => .non
  | some b => .int (b : Int)
end Tx
namespace Tx
open PySem PySem.Spec PyProof.Rows L2 Evl
theorem q_whenM {σ : L2.St} {H H0 : Hp} {L : List (Addr × HO)} {t : TT} {tu tz : TS} {De : Ends} (M : L2.St → Hp → Prop) {b : Bool} (o : Own H0 H L) (h : EvT t σ H b) (k : ∀ σ' H', M σ' H' → tz De σ' H') (h1 : b = true → ∀ H1, Own H0 H1 L → (∀ σ' H', M σ' H' → tz De σ' H') → tu { De with nx := tz De } σ H1) (h2 : b = false → ∀ H1, Own H0 H1 L → M σ H1) : tSeq (tIfS t tu tNext) tz De σ H :=
  Tx.q_when o h (fun hb H1 o => h1 hb H1 o k) (fun hb H1 o => k _ _ (h2 hb H1 o))
theorem tbl3_at {a b c k : Int} (h0 : 0 ≤ k) (h1 : k < 3) : ∃ v, atI [di a, di b, di c] k = some (di v) := by
  obtain ⟨j, rfl⟩ := Int.eq_ofNat_of_zero_le h0
  have : j = 0 ∨ j = 1 ∨ j = 2 := by omega
  rcases this with rfl | rfl | rfl <;> exact ⟨_, rfl⟩
theorem tbl2_at {a b k : Int} (h0 : 0 ≤ k) (h1 : k < 2) : ∃ v, atI [di a, di b] k = some (di v) ∧ (v = a ∨ v = b) := by
  obtain ⟨j, rfl⟩ := Int.eq_ofNat_of_zero_le h0
  have : j = 0 ∨ j = 1 := by omega
  rcases this with rfl | rfl
  · exact ⟨_, rfl, .inl rfl⟩
  · exact ⟨_, rfl, .inr rfl⟩
end Tx
namespace Tx
open PySem PySem.Spec PyProof.Rows L2 Evl
theorem kit_V {K : PySem.W.Frag} {D : Addr} (h : PySem.W.subIn K (.ref D) (.type "ValueError") = some true) : PySem.W.kitOne K (.ref D) (.type "ValueError") = some true := by
  unfold PySem.W.kitOne
  rw [if_neg (by simp)]
  show (if PySem.W.kitMeta "ValueError" = true then _ else none) = _
  rw [if_pos (by decide +kernel)]
  exact h
theorem kit_O {K : PySem.W.Frag} {D O : Addr} (hne : (Value.ref D == Value.ref O) = false) (b : PySem.W.subIn K (.ref O) (.type "BaseException") = some true) (hd : PySem.W.hasDictIn K O = true) (t : PySem.W.typeIn K (.ref O) = some (.type "type")) (s : PySem.W.subIn K (.ref D) (.ref O) = some false) : PySem.W.kitOne K (.ref D) (.ref O) = some false := by
  have h := PySem.W.exm_ref (cls := .ref D) b hd t s
  unfold PySem.W.exmOne at h
  rw [if_pos (by rw [b]; rfl)] at h
  unfold PySem.W.kitOne
  rw [if_neg (by rw [hne]; decide)]
  exact h
end Tx
namespace Tx
open PySem PySem.Spec PyProof.Rows L2 Evl
section
variable {K : PySem.W.Frag} {σ : L2.St} {H H0 H1 : Hp} {L : List (Addr × HO)} {ta tb te : TE} {p : Addr}
theorem ev_maxI {ns : List Int} {v : Int} (h : EvD K ta σ H (dI ns)) (h0 : v ∈ ns) (hv : ∀ y ∈ ns, y ≤ v) : EvD K (tCB (rMax K) (tCons ta tNil)) σ H (di v) := fun H1 e Q q => h H1 e _ fun x H2 e2 d => by
  obtain ⟨p, ys, rfl, s, dd⟩ := Dat.l_iff.mp d
  have ey := Dats.map_eq (f := V.int) dd
  subst ey
  refine ⟨p, ns, rfl, s, List.length_pos_of_mem h0, fun m hm hle => ?_⟩
  have e9 : m = v := Int.le_antisymm (hv m hm) (hle v h0)
  subst e9
  exact q _ H2 e2 Dat.v
theorem ev_minI {ns : List Int} {v : Int} (h : EvD K ta σ H (dI ns)) (h0 : v ∈ ns) (hv : ∀ y ∈ ns, v ≤ y) : EvD K (tCB (rMin K) (tCons ta tNil)) σ H (di v) := fun H1 e Q q => h H1 e _ fun x H2 e2 d => by
  obtain ⟨p, ys, rfl, s, dd⟩ := Dat.l_iff.mp d
  have ey := Dats.map_eq (f := V.int) dd
  subst ey
  refine ⟨p, ns, rfl, s, List.length_pos_of_mem h0, fun m hm hle => ?_⟩
  have e9 : m = v := Int.le_antisymm (hle v h0) (hv m hm)
  subst e9
  exact q _ H2 e2 Dat.v
end
theorem has_max : ∀ {ns : List Int}, ns ≠ [] → ∃ v ∈ ns, ∀ y ∈ ns, y ≤ v
  | [], h => absurd rfl h
  | [x], _ => ⟨x, List.mem_cons_self, fun y hy => by rw [List.mem_singleton.mp hy]; exact Int.le_refl _⟩
  | x :: z :: r, _ => by
    obtain ⟨v, h1, h2⟩ := has_max (ns := z :: r) (by simp)
    by_cases hx : x ≤ v
    · exact ⟨v, List.mem_cons_of_mem _ h1, fun y hy => by
        rcases List.mem_cons.mp hy with rfl | hy
        · exact hx
        · exact h2 y hy⟩
    · exact ⟨x, List.mem_cons_self, fun y hy => by
        rcases List.mem_cons.mp hy with rfl | hy
        · exact Int.le_refl _
        · have := h2 y hy
          omega⟩
theorem has_min : ∀ {ns : List Int}, ns ≠ [] → ∃ v ∈ ns, ∀ y ∈ ns, v ≤ y
  | [], h => absurd rfl h
  | [x], _ => ⟨x, List.mem_cons_self, fun y hy => by rw [List.mem_singleton.mp hy]; exact Int.le_refl _⟩
  | x :: z :: r, _ => by
    obtain ⟨v, h1, h2⟩ := has_min (ns := z :: r) (by simp)
    by_cases hx : v ≤ x
    · exact ⟨v, List.mem_cons_of_mem _ h1, fun y hy => by
        rcases List.mem_cons.mp hy with rfl | hy
        · exact hx
        · exact h2 y hy⟩
    · exact ⟨x, List.mem_cons_self, fun y hy => by
        rcases List.mem_cons.mp hy with rfl | hy
        · exact Int.le_refl _
        · have := h2 y hy
          omega⟩
def lastF (l : List (Nat × Nat)) : Int := match l.getLast? with
  | none => -1
  | some p => (p.2 : Int)
theorem lastF_snoc (l : List (Nat × Nat)) (p : Nat × Nat) : lastF (l ++ [p]) = (p.2 : Int) := by
  unfold lastF
  rw [List.getLast?_concat]
def R_law_right (xs : List D) (d : D) : Prop := ∃ (fs : List (Nat × Nat)) (size most : Int), xs = [.l (fs.map pD), di size, di most] ∧ ((∀ p ∈ fs, p.1 < p.2) ∧ fs.Pairwise (fun x y => x.2 < y.1) ∧ (tot fs : Int) = size ∧ (fs.length : Int) ≤ most) ∧ d = db true
theorem lastF_lt {fs : List (Nat × Nat)} (h : fs.Pairwise (fun x y => x.2 < y.1)) {i : Nat} {p : Nat × Nat} (hi : fs[i]? = some p) : lastF (fs.take i) < (p.1 : Int) := by
  unfold lastF
  cases hc : (fs.take i).getLast? with
  | none => show (-1 : Int) < _; omega
  | some q =>
    have hq := List.mem_of_getLast? hc
    obtain ⟨hl, he⟩ := List.getElem?_eq_some_iff.mp hi
    have hs := split_at hl
    rw [he] at hs
    rw [hs] at h
    have := (List.pairwise_append.mp h).2.2 q hq p List.mem_cons_self
    show (q.2 : Int) < _
    omega
end Tx
/-! sorted(set(a list of ints)) -/
namespace Tx
open PySem PySem.Spec PySem.Calls PyProof.Rows L2 Evl
section
variable {P : Program} {w : World} {A : Around} {E : Value → Shared → Prop} {s : Shared}
abbrev setO0 (w : World) : Obj := { cls := .type "set", dict := none, data := .set #[] 0 (.fresh 0 0 (!w.params.followText "set-order")) }
theorem call_set_ints {l : Addr} {items : Array Value} (ns : List Int) {Q : Value → Shared → Prop} (hh : A.handled = none) (hl : s.heap.IsList l items) (hit : IntsAre items.toList ns) (hb : ns.length + 1 < scanBound)
    (h : ∀ (h' : Heap) (tk c : Nat), SetR w h' s.heap.objs.size (fun j => decide (j ∈ ns)) c → c ≤ ns.length → (∀ b o, s.heap.get? b = some o → h'.get? b = some o) → Q (.ref s.heap.objs.size) { s with heap := h', toks := tk }) :
    wpAny (model P w) A (call (.type "set") [.ref l]) Q E s := by
  have hisz : items.size = ns.length := by rw [← Array.length_toList]; exact hit.length
  obtain ⟨_, _, hmro⟩ := F.called_set.mro
  have h0 := F.called_set.made
  have h3 := F.called_set.sub
  have h1 := F.called_set.notType
  have h2 := F.called_set.canCreate
  have hct := F.typeCall_set_1 (.ref l)
  have lt0 : ∀ {b o}, s.heap.get? b = some o → b ≠ s.heap.objs.size := fun e => Nat.ne_of_lt (Heap.lt_size e)
  refine wpAny_call (codeAny_of_tree ?_)
  show wpAny _ _ (callAny (.type "set") _) _ _ _
  refine wpAny_pure ⟨Code.quiet_builtin _ (by decide +kernel), codeAny_builtin F.entry_type_call ?_⟩
  rw [Around.under_plain (weight_type_call_type "set" [.ref l] []) rfl]
  repeat (any_goals (first | assumption | wp_step))
  refine codeAny_mono (code_set_led1 (.ref l) (E := E) (Q₁ := fun x s₁ => x = .ref s.heap.objs.size ∧ s₁ = { s with heap := s.heap.push (setO0 w) }) ⟨rfl, rfl⟩) fun r s₁ hr => ?_
  rcases r with e | fl
  · exact hr
  rcases fl with _ | _ | _ | x
  · exact hr.elim
  · exact hr.elim
  · exact hr.elim
  obtain ⟨rfl, rfl⟩ := hr
  have hS : (s.heap.push (setO0 w)).get? s.heap.objs.size = some (setO0 w) := Heap.get?_push_size _ rfl
  have hT : Shared.TypeIs { s with heap := s.heap.push (setO0 w) } (.ref s.heap.objs.size) "set" := ⟨_, hS, rfl⟩
  have hli := F.called_set.init.lookup
  have hbi := F.called_set.init.bind (.ref s.heap.objs.size)
  repeat (any_goals (first | assumption | wp_step))
  refine codeAny_mono (codeAny_call_builtin (R := wants (fun r s₂ => r = .none ∧ ∃ h' tk c, s₂ = { s with heap := h', toks := tk } ∧ SetR w h' s.heap.objs.size (fun j => decide (j ∈ ns)) c ∧ c ≤ ns.length ∧ ∀ b o, s.heap.get? b = some o → h'.get? b = some o) E)
    F.called_set.init.plain F.entry_set_init (check_set_init_1 hT ?_)) fun r₂ s₂ hr₂ => ?_
  · obtain ⟨⟨ocls, odict, odata, oslots⟩, hol, hcl, nl, hdl⟩ := hl
    simp only at hcl hdl
    subst hcl; subst hdl
    have hlS : l < s.heap.objs.size := Heap.lt_size hol
    have hol' : (s.heap.push (setO0 w)).get? l = some { cls := .type "list", dict := odict, data := .seq items nl, slots := oslots } := Heap.get?_push_of_some _ hol
    have hl1 : (s.heap.push (setO0 w)).IsList l items := ⟨_, hol', rfl, nl, rfl⟩
    have hsls := F.sub_list_set
    have hslf := F.sub_list_frozenset
    have hne : (Value.type "list" == Value.type "dict") = false := by decide
    unfold Builtin.«set.__init__» noKeywords Builtin.Frozenset.updateFrom
    generalize hPI : pyIter = PI
    wp_walk
    subst hPI
    refine wpAny_pyIter_list hl1 (wpAny_bind (wpAny_runValue ?_))
    have hh3 : A.in1.in1.in1.handled = none := by simp [hh]
    have hz1 : (s.heap.push (setO0 w)).objs.size = s.heap.objs.size + 1 := Heap.size_push ..
    have hneI : l ≠ (s.heap.push (setO0 w)).objs.size := by rw [hz1]; exact Nat.ne_of_lt (Nat.lt_succ_of_lt hlS)
    have hSf : s.heap.objs.size ∉ [(s.heap.push (setO0 w)).objs.size, l] := by
      rw [hz1]
      simp only [List.mem_cons, List.not_mem_nil, or_false, not_or]
      exact ⟨Nat.ne_of_lt (Nat.lt_succ_self _), Nat.ne_of_gt hlS⟩
    have hval : ∀ (i : Nat) (v : Value), items[i]? = some v → ∃ k t, ns[i]? = some k ∧ v = .int k t := fun i v hv => by
      have hi : i < ns.length := by rw [← hisz]; exact (Array.getElem?_eq_some_iff.mp hv).1
      obtain ⟨t, e⟩ := PyProof.Rows.IntsAre.int_at hit i v (by rw [Array.getElem?_toList]; exact hv)
      refine ⟨ns[i], t, List.getElem?_eq_getElem hi, ?_⟩
      rw [e, List.getD_eq_getElem?_getD, List.getElem?_eq_getElem hi] <;> rfl
    refine set_update_ints ((Walks.list hh3 _ l hneI items).toS) s.heap.objs.size hSf ns hisz hb hval (items.size - 0) 0 _ (by omega) (Nat.zero_le _)
      ⟨⟨_, Heap.get?_push_size _ rfl, rfl, rfl⟩, (hl1.push _)⟩ ⟨0, Nat.le_refl 0, setR_new_at (Heap.get?_push_of_some _ hS)⟩ fun s' c' hm hc' hS' => ?_
    obtain ⟨h', g2, d', tk', os'⟩ := s'
    have eg : g2 = s.gens := hm.gens
    have ed : d' = s.drawn := hm.drawn
    have eo : os' = s.os := hm.os
    subst eg; subst ed; subst eo
    show wpAny _ _ _ _ _ _
    refine wpAny_pure ?_
    show wpAny _ _ (ret Value.none) _ _ _
    rw [hisz] at hc'
    refine wpAny_pure ⟨rfl, h', tk', c', rfl, hS', hc', fun b o e => hm.heap b o ?_ (Heap.get?_push_of_some _ (Heap.get?_push_of_some _ e))⟩
    simp only [List.mem_cons, List.not_mem_nil, or_false, not_or]
    exact ⟨lt0 e, by rw [hz1]; exact Nat.ne_of_lt (Nat.lt_succ_of_lt (Heap.lt_size e))⟩
  · rcases r₂ with e | fl₂
    · exact hr₂
    rcases fl₂ with _ | _ | _ | r
    · exact hr₂.elim
    · exact hr₂.elim
    · exact hr₂.elim
    obtain ⟨rfl, h', tk, c', rfl, hS', hc', hk'⟩ := hr₂
    repeat (any_goals (first | assumption | wp_step))
    exact h _ _ _ hS' hc' hk'
end
/-- set(xs), xs ints -/
def rSetI (K : PySem.W.Frag) (w : World) : List V → Hp → VK → Prop := fun xs H Q => ∃ (l : Addr) (ns : List Int), xs = [V.ref l] ∧ SqL K H l (ns.map V.int) ∧ ns.length < 64 ∧
  ∀ a c, H a = none → c ≤ ns.length → Q (.ref a) (upd H a (SetO w a (fun j => decide (j ∈ ns)) c))
theorem cr_setI {X : Cx} (hc : X.calm = true) : CallR X (.type "set") (rSetI X.K X.w) := by
  intro pins s σ H xs us Q I r h
  obtain ⟨l, ns, rfl, hl, hf, q⟩ := h
  rw [Vals.ref1 r]
  obtain ⟨its, rv, pl, hz⟩ := I.list hl
  have hn : H s.heap.objs.size = none := I.hok.fresh (Nat.le_refl _)
  refine call_set_ints ns (I.ok.hd hc) pl.isList (by simpa using ints_of_vals rv) (by unfold scanBound; omega) fun h' tk c R hcn k => ?_
  exact ⟨.ref s.heap.objs.size, upd H s.heap.objs.size (SetO X.w s.heap.objs.size (fun j => decide (j ∈ ns)) c), I.laid (t' := tk) k (Nat.le_refl _) (setO_new R), rfl, q _ c hn hcn⟩
/-- rising, each once -/
def insI (k : Int) : List Int → List Int
  | [] => [k]
  | x :: r => if k < x then k :: x :: r else if k = x then x :: r else x :: insI k r
def sset : List Int → List Int
  | [] => []
  | k :: r => insI k (sset r)
theorem insI_mem (k y : Int) : ∀ l, y ∈ insI k l ↔ y = k ∨ y ∈ l
  | [] => by simp [insI]
  | x :: r => by
    rw [insI]
    split
    · simp
    · split
      · rename_i h; subst h; simp
      · rw [List.mem_cons, insI_mem k y r, List.mem_cons]
        constructor
        · rintro (h | h | h)
          · exact .inr (.inl h)
          · exact .inl h
          · exact .inr (.inr h)
        · rintro (h | h | h)
          · exact .inr (.inl h)
          · exact .inl h
          · exact .inr (.inr h)
theorem insI_rise (k : Int) : ∀ l, l.Pairwise (· < ·) → (insI k l).Pairwise (· < ·)
  | [], _ => List.pairwise_singleton _ _
  | x :: r, h => by
    obtain ⟨h1, h2⟩ := List.pairwise_cons.mp h
    rw [insI]
    split
    · rename_i hk
      exact List.pairwise_cons.mpr ⟨fun y hy => by
        rcases List.mem_cons.mp hy with rfl | hy
        · exact hk
        · have := h1 y hy; omega, h⟩
    · split
      · exact h
      · exact List.pairwise_cons.mpr ⟨fun y hy => by
          rcases (insI_mem k y r).mp hy with rfl | hy
          · omega
          · exact h1 y hy, insI_rise k r h2⟩
theorem sset_mem (y : Int) : ∀ l, y ∈ sset l ↔ y ∈ l
  | [] => Iff.rfl
  | k :: r => by rw [sset, insI_mem, sset_mem y r, List.mem_cons]
theorem sset_rise : ∀ l, (sset l).Pairwise (· < ·)
  | [] => List.Pairwise.nil
  | k :: r => insI_rise k _ (sset_rise r)
theorem rise_eq {a b : List Int} (ha : a.Pairwise (· < ·)) (hb : b.Pairwise (· < ·)) (h : ∀ y, y ∈ a ↔ y ∈ b) : a = b := by
  have na : a.Nodup := ha.imp fun h => by omega
  have nb : b.Nodup := hb.imp fun h => by omega
  exact List.Perm.eq_of_pairwise (fun x y _ _ h1 h2 => by omega) ha hb ((List.perm_ext_iff_of_nodup na nb).mpr h)
theorem sset_self {l : List Int} : l = sset l ↔ l.Pairwise (· < ·) := ⟨fun h => by rw [h]; exact sset_rise l, fun h => rise_eq h (sset_rise l) fun y => (sset_mem y l).symm⟩
theorem en_sset {K : PySem.W.Frag} {w : World} {σ : L2.St} {H : Hp} {ta : TE} {ns : List Int} (h : EvD K ta σ H (dI ns)) (hl : ns.length < 64) : EvN (tCB (rSortedSet w) (tCons (tCB (rSetI K w) (tCons ta tNil)) tNil)) σ H (dI (sset ns)) := fun H1 e Q q => h H1 e _ fun v H2 e2 d => by
  obtain ⟨p, ys, rfl, s, dd⟩ := Dat.l_iff.mp d
  have ey := Dats.map_eq (f := V.int) dd
  subst ey
  refine ⟨p, ns, rfl, s, hl, fun a c ha hc => ⟨a, _, c, rfl, upd_same, by omega, fun ms p2 h1 h2 _ hp => ?_⟩⟩
  have em : ms = sset ns := rise_eq h1 (sset_rise ns) fun y => by rw [h2, sset_mem, decide_eq_true_eq]
  subst em
  exact q _ _ ((e2.trans (Ex.new ha)).trans (Ex.new hp)) (DatN.l_iff.mpr ⟨p2, _, rfl, fresh_back (e2.trans (Ex.new ha)) hp, upd_same, DatsN.map⟩)
end Tx
/-! zip of three lists -/
namespace Tx
open PySem PySem.Spec PyProof.Rows L2 Evl
def Itz3 (K : PySem.W.Frag) (a b c : Addr) : It :=
  ⟨fun i H => ∃ (xs ys zs : List V) (x y u : V), SqL K H a xs ∧ SqL K H b ys ∧ SqL K H c zs ∧ xs[i]? = some x ∧ ys[i]? = some y ∧ zs[i]? = some u,
    fun i H v H' => ∃ T x y u, v = .ref T ∧ H T = none ∧ H' = upd H T (.tup [x, y, u]) ∧ (∀ xs, SqL K H a xs → xs[i]? = some x) ∧ (∀ ys, SqL K H b ys → ys[i]? = some y) ∧ ∀ zs, SqL K H c zs → zs[i]? = some u,
    fun i H => ∃ xs ys zs : List V, SqL K H a xs ∧ SqL K H b ys ∧ SqL K H c zs ∧ i ≤ xs.length ∧ i ≤ ys.length ∧ i ≤ zs.length ∧ (i = xs.length ∨ i = ys.length ∨ i = zs.length)⟩
theorem turn_zip3 {P : Program} {w : World} {K : PySem.W.Frag} {elts : List Expr} {kk : Nat} {tpos : Pos} {a b c z TI TO i1 i2 i3 : Addr} (D : ZipSep3 z TI TO i1 i2 i3 [i1, a] [i2, b] [i3, c]) :
    Turn P w K (.Tuple elts kk tpos) (Itz3 K a b c) [z, TI, TO, i1, i2, i3] z (fun i h => IsZip h z TI TO .none ∧ IsTupOf3 h TI (.ref i1) (.ref i2) (.ref i3) ∧ (∃ x y u, IsTupOf3 h TO x y u) ∧ h.IsListIter i1 a i ∧ h.IsListIter i2 b i ∧ h.IsListIter i3 c i) where
  mem := by simp
  obj := fun i h st d hd => by
    obtain ⟨hz, hTI, ⟨x, y, u, hTO⟩, ⟨o1, e1, _, d1⟩, ⟨o2, e2, _, d2⟩, ⟨o3, e3, _, d3⟩⟩ := st
    have e' : d = z ∨ d = TI ∨ d = TO ∨ d = i1 ∨ d = i2 ∨ d = i3 := by simpa using hd
    rcases e' with q | q | q | q | q | q
    · rw [q]; exact ⟨_, hz, fun v q => nomatch q⟩
    · rw [q]; exact ⟨_, hTI, fun v q => nomatch q⟩
    · rw [q]; exact ⟨_, hTO, fun v q => nomatch q⟩
    · rw [q]; exact ⟨o1, e1, fun v q => by rw [d1] at q; cases q⟩
    · rw [q]; exact ⟨o2, e2, fun v q => by rw [d2] at q; cases q⟩
    · rw [q]; exact ⟨o3, e3, fun v q => by rw [d3] at q; cases q⟩
  keep := fun i h h' st k => by
    obtain ⟨hz, hTI, ⟨x, y, u, hTO⟩, h1, h2, h3⟩ := st
    exact ⟨k z (by simp) _ hz, k TI (by simp) _ hTI, ⟨x, y, u, k TO (by simp) _ hTO⟩, h1.at fun o q => k i1 (by simp) o q, h2.at fun o q => k i2 (by simp) o q, h3.at fun o q => k i3 (by simp) o q⟩
  item := by
    intro X hP hw hK hc i pins s σ H E I hf st hg
    subst hP hw hK
    obtain ⟨hz, hTI, ⟨x0, y0, u0, hTO⟩, h1, h2, h3⟩ := st
    obtain ⟨xs, ys, zs, x, y, u, hqx, hqy, hqz, hx, hy, hu⟩ := hg
    obtain ⟨its, rv, p, _⟩ := I.list hqx
    obtain ⟨its2, rv2, p2, _⟩ := I.list hqy
    obtain ⟨its3, rv3, p3, _⟩ := I.list hqz
    obtain ⟨w1, hw1, r1⟩ := rv.get hx
    obtain ⟨w2, hw2, r2⟩ := rv2.get hy
    obtain ⟨w3, hw3, r3⟩ := rv3.get hu
    have hzl : z < s.heap.objs.size := Heap.lt_size hz
    have hh := (show X.A.in1.handled = none from I.ok.hd hc)
    have g1 : i < its.toArray.size := by rw [List.size_toArray]; exact (List.getElem?_eq_some_iff.mp hw1).1
    have g2 : i < its2.toArray.size := by rw [List.size_toArray]; exact (List.getElem?_eq_some_iff.mp hw2).1
    have g3 : i < its3.toArray.size := by rw [List.size_toArray]; exact (List.getElem?_eq_some_iff.mp hw3).1
    have n1 : a ≠ i1 := fun e => by
      obtain ⟨o, ho, hcl, _⟩ := h1
      obtain ⟨o', ho', hcl', _⟩ := p.isList
      rw [e, ho] at ho'; cases ho'
      rw [hcl] at hcl'; exact absurd hcl' (by decide)
    have n2 : b ≠ i2 := fun e => by
      obtain ⟨o, ho, hcl, _⟩ := h2
      obtain ⟨o', ho', hcl', _⟩ := p2.isList
      rw [e, ho] at ho'; cases ho'
      rw [hcl] at hcl'; exact absurd hcl' (by decide)
    have n3 : c ≠ i3 := fun e => by
      obtain ⟨o, ho, hcl, _⟩ := h3
      obtain ⟨o', ho', hcl', _⟩ := p3.isList
      rw [e, ho] at ho'; cases ho'
      rw [hcl] at hcl'; exact absurd hcl' (by decide)
    refine wpAny_pyNext_zipD3_item D (Draws.list hh i1 a n1 its.toArray) (Draws.list hh i2 b n2 its2.toArray) (Draws.list hh i3 c n3 its3.toArray) hz hTI hTO ⟨h1, p.isList⟩ ⟨h2, p2.isList⟩ ⟨h3, p3.isList⟩ g1 g2 g3 fun x1 x2 x3 h' tk q1 q2 q3 z' TO' h1' h2' h3' hT hsz hk => ?_
    have ex1 : x1 = w1 := by
      have : its[i]? = some x1 := by simpa using q1
      rw [hw1] at this; exact (Option.some.inj this).symm
    have ex2 : x2 = w2 := by
      have : its2[i]? = some x2 := by simpa using q2
      rw [hw2] at this; exact (Option.some.inj this).symm
    have ex3 : x3 = w3 := by
      have : its3[i]? = some x3 := by simpa using q3
      rw [hw3] at this; exact (Option.some.inj this).symm
    subst ex1 ex2 ex3
    refine ⟨_, rfl, wpAny_letOwnedTupleGo_zip (s := { s with heap := h', toks := tk }) z' fun h'' z'' sb => ?_⟩
    have hT2 : h''.get? s.heap.objs.size = some { cls := .type "tuple", data := .seq #[x1, x2, x3] } := (sb.2 _ (Nat.ne_of_gt hzl)).trans hT
    have new : ObjOk X.prog X.w (upd H s.heap.objs.size (.tup [x, y, u])) h'' s.heap.objs.size (.tup [x, y, u]) :=
      ⟨by show 3 ≤ sizeLine; decide, [x1, x2, x3], .cons r1 (.cons r2 (.cons r3 .nil)), ⟨_, hT2, rfl, _, rfl⟩⟩
    have I1 : Inv X pins σ (upd H s.heap.objs.size (.tup [x, y, u])) { s with heap := h'', toks := tk } :=
      I.turnedNew (t' := tk) (ch := [z, TI, TO, i1, i2, i3]) (fun c o hb q => (sb.2 c (fun q' => hb (by simp [q']))).trans (hk c o (fun q' => hb (by simp [q'])) (fun q' => hb (by simp [q'])) (fun q' => hb (by simp [q'])) (fun q' => hb (by simp [q'])) (fun q' => hb (by simp [q'])) q)) hf (Nat.le_refl _) new
    refine ⟨.ref s.heap.objs.size, _, I1, rfl, ⟨_, x, y, u, rfl, I.hok.fresh (Nat.le_refl _), rfl, fun l hl => by rw [I.list_inj hl hqx]; exact hx, fun l hl => by rw [I.list_inj hl hqy]; exact hy, fun l hl => by rw [I.list_inj hl hqz]; exact hu⟩, ⟨z'', ?_, ⟨x1, x2, x3, ?_⟩, ?_, ?_, ?_⟩, fun d hcm => ?_⟩
    · exact (sb.2 _ D.TIz).trans (hk _ _ D.TIz D.TITO D.TIi1 D.TIi2 D.TIi3 hTI)
    · exact (sb.2 _ D.TOz).trans TO'
    · exact h1'.1.at fun o q => (sb.2 _ D.zi1.symm).trans q
    · exact h2'.1.at fun o q => (sb.2 _ D.zi2.symm).trans q
    · exact h3'.1.at fun o q => (sb.2 _ D.zi3.symm).trans q
    · have hlt : d < s.heap.objs.size := by
        have e' : d = z ∨ d = TI ∨ d = TO ∨ d = i1 ∨ d = i2 ∨ d = i3 := by simpa using hcm
        rcases e' with q | q | q | q | q | q
        · rw [q]; exact hzl
        · rw [q]; exact Heap.lt_size hTI
        · rw [q]; exact Heap.lt_size hTO
        · rw [q]; obtain ⟨_, e1, _⟩ := h1; exact Heap.lt_size e1
        · rw [q]; obtain ⟨_, e2, _⟩ := h2; exact Heap.lt_size e2
        · rw [q]; obtain ⟨_, e2, _⟩ := h3; exact Heap.lt_size e2
      rw [upd_ne (Nat.ne_of_lt hlt)]
      exact (hf d hcm).1
  done := by
    intro X hP hw hK hc i pins s σ H E I hf st hg
    subst hP hw hK
    obtain ⟨hz, hTI, ⟨x0, y0, u0, hTO⟩, h1, h2, h3⟩ := st
    obtain ⟨xs, ys, zs, hqx, hqy, hqz, l1, l2, l3, hend⟩ := hg
    obtain ⟨its, rv, p, _⟩ := I.list hqx
    obtain ⟨its2, rv2, p2, _⟩ := I.list hqy
    obtain ⟨its3, rv3, p3, _⟩ := I.list hqz
    have hh := (show X.A.in1.handled = none from I.ok.hd hc)
    have e1 := rv.length
    have e2 := rv2.length
    have e3 := rv3.length
    have n1 : a ≠ i1 := fun e => by
      obtain ⟨o, ho, hcl, _⟩ := h1
      obtain ⟨o', ho', hcl', _⟩ := p.isList
      rw [e, ho] at ho'; cases ho'
      rw [hcl] at hcl'; exact absurd hcl' (by decide)
    have n2 : b ≠ i2 := fun e => by
      obtain ⟨o, ho, hcl, _⟩ := h2
      obtain ⟨o', ho', hcl', _⟩ := p2.isList
      rw [e, ho] at ho'; cases ho'
      rw [hcl] at hcl'; exact absurd hcl' (by decide)
    have n3 : c ≠ i3 := fun e => by
      obtain ⟨o, ho, hcl, _⟩ := h3
      obtain ⟨o', ho', hcl', _⟩ := p3.isList
      rw [e, ho] at ho'; cases ho'
      rw [hcl] at hcl'; exact absurd hcl' (by decide)
    refine wpAny_pyNext_zipD3_end D (Draws.list hh i1 a n1 its.toArray) (Draws.list hh i2 b n2 its2.toArray) (Draws.list hh i3 c n3 its3.toArray) hz hTI hTO ⟨h1, p.isList⟩ ⟨h2, p2.isList⟩ ⟨h3, p3.isList⟩ (by rw [List.size_toArray]; omega) (by rw [List.size_toArray]; omega) (by rw [List.size_toArray]; omega) (by rw [List.size_toArray, List.size_toArray, List.size_toArray]; omega) fun h' tk hk => ?_
    exact ⟨rfl, I.turnedL (t' := tk) (ch := [z, TI, TO, i1, i2, i3]) (fun c o hb q =>
      hk c o (fun q' => hb (by simp [q'])) (fun q' => hb (by simp [q'])) (fun q' => hb (by simp [q'])) (fun q' => hb (by simp [q'])) (fun q' => hb (by simp [q'])) q) hf⟩
  self := fun A i s Q E st h => wpAny_pyIter_zip st.1 h
def iZip3 (K : PySem.W.Frag) (ta : TA) : TI := fun σ H R => ta σ H fun vs H1 => ∃ a b c xs ys zs, vs = [.ref a, .ref b, .ref c] ∧ SqL K H1 a xs ∧ SqL K H1 b ys ∧ SqL K H1 c zs ∧ R (Itz3 K a b c) H1
theorem pi_zip3 {X : Cx} {e e2 e3 : Expr} {ta : TA} {p pos tpos : Pos} {elts : List Expr} {kk : Nat} (hg : Gl X "zip") (hm : X.mg "zip" = none) (ha : PA X [e, e2, e3] ta)
    (hs : starEach [e, e2, e3] X.env = (false, eval e X.env) :: starEach [e2, e3] X.env := by rfl) (hpl : (backTo pos (starEach [e2, e3] X.env)).any (·.1) = false := by rfl) :
    PI X (.Tuple elts kk tpos) (.Call (.Name "zip" p) [e, e2, e3] [] pos) (iZip3 X.K ta) := by
  refine ⟨fun pins s σ H R I h => ?_⟩
  refine Call_ (ld_blt I hg hm PyProof.Rows.boot_zip (PyProof.Rows.callWith_type1 (thn (ha.run pos pins s σ H _ I h) fun us s1 ⟨vs, H1, I1, r1, q1⟩ => ?_) hs hpl))
  obtain ⟨a, b, c, xs, ys, zs, ex, hqx, hqy, hqz, q⟩ := q1
  subst ex
  cases r1 with
  | cons r rr =>
    cases rr with
    | cons r' rr =>
      cases rr with
      | cons r'' rr =>
        cases rr
        cases r
        cases r'
        cases r''
        obtain ⟨its, rv, p1, _⟩ := I1.list hqx
        obtain ⟨its2, rv2, p2, _⟩ := I1.list hqy
        obtain ⟨its3, rv3, p3, _⟩ := I1.list hqz
        have la : a < s1.heap.objs.size := p1.lt
        have lb : b < s1.heap.objs.size := p2.lt
        have lc : c < s1.heap.objs.size := p3.lt
        refine zip_begins3 (begins_list a its.toArray) (begins_list b its2.toArray) (begins_list c its3.toArray) p1.isList p2.isList p3.isList fun h' hz hTI hTO h1 h2 h3 hsz hk => wpAny_pyIter_zip hz ?_
        have I2 : Inv X pins σ H1 { s1 with heap := h' } := I1.kept (t' := s1.toks) hk
        have sep := zip_sep3 (N := s1.heap.objs.size) (fp1 := [a]) (fp2 := [b]) (fp3 := [c]) (fun x hx => by rw [List.mem_singleton.mp hx]; exact la) (fun x hx => by rw [List.mem_singleton.mp hx]; exact lb) (fun x hx => by rw [List.mem_singleton.mp hx]; exact lc)
        refine ⟨s1.heap.objs.size + 5, [s1.heap.objs.size + 5, s1.heap.objs.size + 3, s1.heap.objs.size + 4, s1.heap.objs.size, s1.heap.objs.size + 1, s1.heap.objs.size + 2], _, _, H1, rfl, I2, turn_zip3 sep, ⟨hz, hTI, ⟨_, _, _, hTO⟩, ⟨_, h1, rfl, rfl⟩, ⟨_, h2, rfl, rfl⟩, ⟨_, h3, rfl, rfl⟩⟩, fun d hcm => ?_, q⟩
        have hle : s1.heap.objs.size ≤ d := by
          have e' : d = s1.heap.objs.size + 5 ∨ d = s1.heap.objs.size + 3 ∨ d = s1.heap.objs.size + 4 ∨ d = s1.heap.objs.size ∨ d = s1.heap.objs.size + 1 ∨ d = s1.heap.objs.size + 2 := by simpa using hcm
          rcases e' with z | z | z | z | z | z
          · rw [z]; exact Nat.le_add_right _ _
          · rw [z]; exact Nat.le_add_right _ _
          · rw [z]; exact Nat.le_add_right _ _
          · rw [z]; exact Nat.le_refl _
          · rw [z]; exact Nat.le_add_right _ _
          · rw [z]; exact Nat.le_add_right _ _
        exact I1.fpOk hle (I1.hok.fresh hle)
section
variable {K : PySem.W.Frag} {σ : L2.St} {H : Hp} {De : Ends} {tu tz : TS} {xs ys zs : List D}
/-- for i, j, k in zip(three names' data), all of one length -/
theorem s_forZ3 {a b c i j k : Nat} {p q r : Addr} (hl : xs.length = ys.length) (hl2 : xs.length = zs.length) (ha : σ[a]? = some (some (.ref p))) (hb : σ[b]? = some (some (.ref q))) (hc : σ[c]? = some (some (.ref r))) (D0 : Dat K H (.l xs) (.ref p)) (D1 : Dat K H (.l ys) (.ref q)) (D2 : Dat K H (.l zs) (.ref r)) (Pv : Nat → L2.St → Hp → Prop) (h0 : Pv 0 σ H) (hG : ∀ m σ' H', Pv m σ' H' → Ex H H')
    (hs : ∀ m d e f v w u σ' H' H'', xs[m]? = some d → ys[m]? = some e → zs[m]? = some f → Pv m σ' H' → Ex H' H'' → Dat K H'' d v → Dat K H'' e w → Dat K H'' f u → tu { De with nx := Pv (m + 1), ct := Pv (m + 1), bk := De.nx } (((σ'.set i (some v)).set j (some w)).set k (some u)) H'') (hd : ∀ σ' H', Pv xs.length σ' H' → De.nx σ' H') :
    tFor (iZip3 K (tCons (tVar a) (tCons (tVar b) (tCons (tVar c) tNil)))) (gTup K 3 (gCons (gName i) (gCons (gName j) (gCons (gName k) gNil)))) tu De σ H := by
  obtain ⟨_, us, e1, hp, dp⟩ := Dat.l_iff.mp D0
  obtain ⟨_, ws, e2, hq, dq⟩ := Dat.l_iff.mp D1
  obtain ⟨_, ts, e3, hr, dr⟩ := Dat.l_iff.mp D2
  cases e1; cases e2; cases e3
  have l1 := dp.length
  have l2 := dq.length
  have l3 := dr.length
  have wk : Walk (Itz3 K p q r) xs.length (fun H => SqL K H p us ∧ SqL K H q ws ∧ SqL K H r ts) (fun m H v H' => ∃ T x y u, v = .ref T ∧ H T = none ∧ H' = upd H T (.tup [x, y, u]) ∧ us[m]? = some x ∧ ws[m]? = some y ∧ ts[m]? = some u) := by
    refine ⟨fun m _ hm g => ⟨us, ws, ts, us[m], ws[m], ts[m], g.1, g.2.1, g.2.2, List.getElem?_eq_getElem _, List.getElem?_eq_getElem _, List.getElem?_eq_getElem _⟩, fun _ g => ⟨us, ws, ts, g.1, g.2.1, g.2.2, by omega, by omega, by omega, by omega⟩, fun m H v H' _ g y => ?_⟩
    obtain ⟨T, x, y, u, h1, h2, h3, h4, h5, h6⟩ := y
    exact ⟨T, x, y, u, h1, h2, h3, h4 us g.1, h5 ws g.2.1, h6 ts g.2.2⟩
  refine ⟨.ref p, ha, .ref q, hb, .ref r, hc, p, q, r, _, _, _, rfl, hp, hq, hr, for_it wk Pv h0 (fun m σ' H' _ h => ⟨ex_l (hG m _ _ h) hp, ex_l (hG m _ _ h) hq, ex_l (hG m _ _ h) hr⟩) (fun m v σ' H' H'' hm h hy => ?_) hd⟩
  obtain ⟨T, x, y, u, rfl, hT, rfl, hx, hy, hu⟩ := hy
  obtain ⟨d, hd1, dd⟩ := dp.getV hx
  obtain ⟨e, he1, de⟩ := dq.getV hy
  obtain ⟨f, hf1, df⟩ := dr.getV hu
  have ex := (hG m _ _ h).trans (Ex.new hT (o := .tup [x, y, u]))
  exact ⟨T, [x, y, u], rfl, st_of upd_same, rfl, x, [y, u], rfl, y, [u], rfl, u, [], rfl, rfl, hs m d e f x y u σ' H' _ hd1 he1 hf1 h (Ex.new hT) (dd.mono ex) (de.mono ex) (df.mono ex)⟩
theorem q_forZ3 {a b c i j k : Nat} {p q r : Addr} (hl : xs.length = ys.length) (hl2 : xs.length = zs.length) (ha : σ[a]? = some (some (.ref p))) (hb : σ[b]? = some (some (.ref q))) (hc : σ[c]? = some (some (.ref r))) (D0 : Dat K H (.l xs) (.ref p)) (D1 : Dat K H (.l ys) (.ref q)) (D2 : Dat K H (.l zs) (.ref r)) (Pv : Nat → L2.St → Hp → Prop) (h0 : Pv 0 σ H) (hG : ∀ m σ' H', Pv m σ' H' → Ex H H')
    (hs : ∀ m d e f v w u σ' H' H'', xs[m]? = some d → ys[m]? = some e → zs[m]? = some f → Pv m σ' H' → Ex H' H'' → Dat K H'' d v → Dat K H'' e w → Dat K H'' f u → tu { De with nx := Pv (m + 1), ct := Pv (m + 1), bk := tz De } (((σ'.set i (some v)).set j (some w)).set k (some u)) H'') (hd : ∀ σ' H', Pv xs.length σ' H' → tz De σ' H') :
    tSeq (tFor (iZip3 K (tCons (tVar a) (tCons (tVar b) (tCons (tVar c) tNil)))) (gTup K 3 (gCons (gName i) (gCons (gName j) (gCons (gName k) gNil)))) tu) tz De σ H := s_forZ3 (De := { De with nx := tz De }) hl hl2 ha hb hc D0 D1 D2 Pv h0 hG hs hd
end
end Tx
/-! lines -/
namespace Tx
open PySem PySem.Spec PyProof.Rows L2 Evl
def lineF (rs : List Int) (b e : Nat) : List Nat := (orderF ((rs.drop b).take (e - b))).map fun p => b + p
def linesF (rs : List Int) : Nat → List Nat → List (List Nat)
  | b, [] => [lineF rs b rs.length]
  | b, c :: r => lineF rs b c :: linesF rs c r
def Rising (n : Nat) : Nat → List Int → Prop
  | _, [] => True
  | b, c :: r => (b : Int) < c ∧ c < n ∧ Rising n c.toNat r
theorem slice_lv {rs : List Int} (h : Lv rs) (b e : Nat) : Lv ((rs.drop b).take (e - b)) := ⟨by rw [List.length_take, List.length_drop]; have := h.1; omega, fun x hx => h.2 x (List.mem_of_mem_drop (List.mem_of_mem_take hx))⟩
theorem lineF_len {rs : List Int} {b e : Nat} (h : e ≤ rs.length) : (lineF rs b e).length = e - b := by
  rw [lineF, List.length_map, orderF_len, List.length_take, List.length_drop]
  omega
theorem lineF_lord {rs : List Int} (h : Lv rs) {b e : Nat} (he : e ≤ rs.length) : lineF rs b e = lord rs 10 0 ((List.range (e - b)).map fun i => b + i) := by
  have hl : ((rs.drop b).take (e - b)).length = e - b := by rw [List.length_take, List.length_drop]; omega
  rw [lineF, order_down (slice_lv h b e), lord_down, hl]
  refine down_map 10 0 _ fun p hp => ?_
  have hp := List.mem_range.mp hp
  rw [List.getD_eq_getElem?_getD, List.getD_eq_getElem?_getD, List.getElem?_take, if_pos hp, List.getElem?_drop]
theorem lineF_perm (rs : List Int) {b e : Nat} (he : e ≤ rs.length) : (lineF rs b e).Perm (List.range' b (e - b)) := by
  have hl : ((rs.drop b).take (e - b)).length = e - b := by rw [List.length_take, List.length_drop]; omega
  have h := (orderF_perm ((rs.drop b).take (e - b))).map fun p => b + p
  rw [hl] at h
  refine h.trans (List.Perm.of_eq ?_)
  rw [List.range'_eq_map_range]
theorem linesF_perm (rs : List Int) : ∀ (ks : List Nat) (b : Nat), b ≤ rs.length → Rising rs.length b (ks.map fun k : Nat => (k : Int)) → (linesF rs b ks).flatten.Perm (List.range' b (rs.length - b))
  | [], b, hb, _ => by
    rw [linesF, List.flatten_cons, List.flatten_nil, List.append_nil]
    exact lineF_perm rs (Nat.le_refl _)
  | c :: r, b, hb, h => by
    obtain ⟨h1, h2, h3⟩ := h
    have h1 : (b : Int) < (c : Int) := h1
    have h2 : (c : Int) < (rs.length : Int) := h2
    rw [Int.toNat_natCast] at h3
    have hc : c ≤ rs.length := by omega
    rw [linesF, List.flatten_cons]
    refine ((lineF_perm rs hc).append (linesF_perm rs r c hc h3)).trans (List.Perm.of_eq ?_)
    have z := List.range'_append_1 (s := b) (m := c - b) (n := rs.length - c)
    have e : b + (c - b) = c := by omega
    have e' : c - b + (rs.length - c) = rs.length - b := by omega
    rw [e, e'] at z
    exact z
theorem linesF_len (rs : List Int) : ∀ (ks : List Nat) (b : Nat), (linesF rs b ks).length = ks.length + 1
  | [], b => rfl
  | c :: r, b => by rw [linesF, List.length_cons, linesF_len rs r c, List.length_cons]
theorem linesF_get (rs : List Int) : ∀ (ks : List Nat) (b m : Nat), m ≤ ks.length → (linesF rs b ks)[m]? = some (lineF rs ((b :: ks).getD m 0) ((ks ++ [rs.length]).getD m 0))
  | [], b, 0, _ => rfl
  | [], b, m + 1, h => absurd h (by simp)
  | c :: r, b, 0, _ => rfl
  | c :: r, b, m + 1, h => by
    have ih := linesF_get rs r c m (by simpa using h)
    rw [linesF, List.getElem?_cons_succ, ih]
    rfl
theorem rising_nat {n : Nat} : ∀ {cs : List Int} {b : Nat}, Rising n b cs → ∃ ks : List Nat, cs = ks.map fun k : Nat => (k : Int)
  | [], _, _ => ⟨[], rfl⟩
  | c :: r, b, ⟨h1, h2, h3⟩ => by
    obtain ⟨ks, rfl⟩ := rising_nat h3
    refine ⟨c.toNat :: ks, ?_⟩
    rw [List.map_cons, Int.toNat_of_nonneg (by omega)]
theorem rising_bound {n : Nat} : ∀ {ks : List Nat} {b : Nat}, Rising n b (ks.map fun k : Nat => (k : Int)) → ∀ k ∈ ks, b < k ∧ k < n
  | [], _, _, _, hk => nomatch hk
  | c :: r, b, ⟨h1, h2, h3⟩, k, hk => by
    rw [Int.toNat_natCast] at h3
    have h1' : (b : Int) < (c : Int) := h1
    have h2' : (c : Int) < (n : Int) := h2
    rcases List.mem_cons.mp hk with rfl | hk
    · omega
    · have := rising_bound h3 k hk
      omega
theorem rising_iff {n : Nat} : ∀ {cs : List Int} {b : Nat}, Rising n b cs ↔ cs.Pairwise (· < ·) ∧ ∀ c ∈ cs, (b : Int) < c ∧ c < n
  | [], b => ⟨fun _ => ⟨List.Pairwise.nil, fun _ h => nomatch h⟩, fun _ => trivial⟩
  | c :: r, b => by
    rw [Rising, List.pairwise_cons]
    constructor
    · rintro ⟨h1, h2, h3⟩
      obtain ⟨h4, h5⟩ := rising_iff.mp h3
      have hc : ((c.toNat : Nat) : Int) = c := Int.toNat_of_nonneg (by omega)
      rw [hc] at h5
      refine ⟨⟨fun x hx => (h5 x hx).1, h4⟩, fun x hx => ?_⟩
      rcases List.mem_cons.mp hx with rfl | hx
      · exact ⟨h1, h2⟩
      · have := h5 x hx
        omega
    · rintro ⟨⟨h1, h2⟩, h3⟩
      have h4 := h3 c List.mem_cons_self
      have hc : ((c.toNat : Nat) : Int) = c := Int.toNat_of_nonneg (by omega)
      refine ⟨h4.1, h4.2, rising_iff.mpr ⟨h2, fun x hx => ?_⟩⟩
      rw [hc]
      exact ⟨h1 x hx, (h3 x (List.mem_cons_of_mem _ hx)).2⟩
/-- lines hands back lists that stand apart, or raises -/
def PSpL (K : PySem.W.Frag) (C : Addr) : Sp := fun vs H Q E => ∃ rs cs, Dats K H [dI rs, dI cs] vs ∧ (Lv rs ∧ cs.length ≤ 60) ∧
  ((Rising rs.length 0 cs ∧ ∀ p (es : List (Addr × List Nat)) H2, Own H H2 ((p, .lst (es.map fun e => V.ref e.1)) :: es.map entG) → es.map (·.2) = linesF rs 0 (cs.map Int.toNat) → Q (.ref p) H2) ∨ (¬ Rising rs.length 0 cs ∧ ∀ H2, Ex H H2 → E (.ref C) none H2))
theorem PSpL.len {K : PySem.W.Frag} {C : Addr} : ∀ vs H Q E, PSpL K C vs H Q E → vs.length = 2 := fun vs H Q E ⟨rs, cs, a, _⟩ => by rw [a.length] <;> rfl
section
variable {K : PySem.W.Frag} {σ : L2.St} {H H' H0 H1 : Hp} {L : List (Addr × HO)} {te : TE} {tas : TA} {De : Ends} {tz : TS} {C : Addr} {p : Addr} {es : List (Addr × List Nat)}
theorem own_lines (o : Own H0 H1 ((p, .lst (es.map fun e => V.ref e.1)) :: (es.map entG ++ L))) : DatN H0 H1 (.l (es.map fun e => dN e.2)) (.ref p) :=
  DatN.l_iff.mpr ⟨p, _, rfl, o.free0, o.get0, entG_dat es (fun e he => o.2.1 (entG e) (List.mem_cons_of_mem _ (List.mem_append_left _ (List.mem_map_of_mem he)))) (fun e he => o.2.2.2 (entG e) (List.mem_cons_of_mem _ (List.mem_append_left _ (List.mem_map_of_mem he))))⟩
theorem q_setLn {i : Nat} {rs cs : List Int} (h : EvDs K tas σ H [dI rs, dI cs]) (hv : Lv rs) (hc : cs.length ≤ 60) (hr : Rising rs.length 0 cs) (k : ∀ p (es : List (Addr × List Nat)) H1, Own H H1 ((p, .lst (es.map fun e => V.ref e.1)) :: es.map entG) → es.map (·.2) = linesF rs 0 (cs.map Int.toNat) → tz De (σ.set i (some (.ref p))) H1) :
    tSeq (tAsg (tCall (PSpL K C) [] E0 tas) (gName i)) tz De σ H := h H (Ex.refl H) _ fun v H2 e2 d => by
  rw [List.append_nil]
  exact ⟨rs, cs, d, ⟨hv, hc⟩, .inl ⟨hr, fun p es H3 o he => k p es H3 (Own.back e2 o) he⟩⟩
theorem q_raisesL {W : WX} {rs cs : List Int} (h : EvDs K tas σ H [dI rs, dI cs]) (hv : Lv rs) (hc : cs.length ≤ 60) (hr : ¬ Rising rs.length 0 cs) (k : ∀ H2, Ex H H2 → W (.ref C) none σ H2) : tDrop (tCallS (PSpL K C) (WE W) tas) De σ H := h H (Ex.refl H) _ fun v H2 e2 d => ⟨rs, cs, d, ⟨hv, hc⟩, .inr ⟨hr, fun H3 e3 => k H3 (e2.trans e3)⟩⟩
/-- xs[0].append(n), xs a list of lists -/
theorem q_appIx {i : Nat} {q : Addr} {rest : List V} {vs : List V} {v : V} {M : HO → List (Addr × HO)} (o : Own H0 H L) (hs : σ[i]? = some (some (.ref p))) (hp : H p = some (.lst (.ref q :: rest))) (hq : H q = some (.lst vs)) (put : ∀ (H1 : Hp) (u : HO), Own H0 H1 L → Own H0 (upd H1 q u) (M u)) (hz : vs.length < 100000)
    (h : EvD K te σ H (.v v)) (k : ∀ H1, Own H0 H1 (M (.lst (vs ++ [v]))) → tz De σ H1) : tSeq (tDrop (tBM K "list" rAppend (tOp (rIxL K) (tVar i) (tC (.int 0))) (tCons te tNil))) tz De σ H :=
  ⟨.ref p, hs, p, .ref q :: rest, 0, .ref q, rfl, rfl, sq_of hp, by simp [atI, ixN], .inl ⟨rfl, vs, sq_of hq⟩, h H (Ex.refl H) _ fun y H2 e2 d => ⟨q, vs, y, rfl, rfl, e2 q _ hq, sz_lt hz, by
    rw [Dat.v_iff.mp d]
    exact k _ (put _ _ (o.grow e2))⟩⟩
end
/-- some cuts -/
def PSpU (K : PySem.W.Frag) (R : List D → D → Prop) : Sp := fun vs H Q _ => ∃ xs, Dats K H xs vs ∧ (∃ d, R xs d) ∧ ∀ d v H2, R xs d → Ex H H2 → DatN H H2 d v → Q v H2
def R_law_cuts (xs : List D) (d : D) : Prop := ∃ (cell size : Int) (ms : List Int), xs = [di cell, di size] ∧ (0 ≤ size ∧ size ≤ 60) ∧ ms.length ≤ 8 ∧ d = dI ms
theorem q_setU {K : PySem.W.Frag} {σ : L2.St} {H H0 : Hp} {L : List (Addr × HO)} {tas : TA} {De : Ends} {tz : TS} {i : Nat} {xs : List D} {R : List D → D → Prop} {E : XK} (o : Own H0 H L) (h : EvDs K tas σ H xs) (hr : ∃ d, R xs d) (k : ∀ d v H1, R xs d → Own H0 H1 L → Ex H H1 → DatN H H1 d v → tz De (σ.set i (some v)) H1) : tSeq (tAsg (tCall (PSpU K R) [] E tas) (gName i)) tz De σ H := h H (Ex.refl H) _ fun v H2 e2 d => by
  rw [List.append_nil]
  exact ⟨xs, d, hr, fun d u H3 hR e3 n => k d u H3 hR (o.grow (e2.trans e3)) (e2.trans e3) (n.mono e2 (Ex.refl H3))⟩
theorem tbl4_at {a b c d k : Int} (h0 : 0 ≤ k) (h1 : k < 4) : ∃ v, atI [di a, di b, di c, di d] k = some (di v) := by
  obtain ⟨j, rfl⟩ := Int.eq_ofNat_of_zero_le h0
  have : j = 0 ∨ j = 1 ∨ j = 2 ∨ j = 3 := by omega
  rcases this with rfl | rfl | rfl | rfl <;> exact ⟨_, rfl⟩
/-! ### == of lists of lists -/
theorem eqv_dN (as bs : List Nat) : PyData.eqv (py (dN as)) (py (dN bs)) = decide (as = bs) := flatN.eq as bs
theorem ok_ll {α : Type} [DecidableEq α] {f : α → V} {pf : α → PyData} (k : FlatK f pf) (ls : List (List α)) : good (.l (ls.map fun l => .l (l.map fun a => .v (f a)))) = true ∧ SeqAt.shaped (py (.l (ls.map fun l => .l (l.map fun a => .v (f a))))) = true := by
  constructor
  · rw [good]
    exact goods_map _ (fun l => k.gd l) ls
  · rw [py, pys_map]
    unfold SeqAt.shaped
    rw [Bool.and_eq_true]
    have hs : ∀ l : List α, (py (.l (l.map fun a => .v (f a)))).canLay0 = true ∧ (py (.l (l.map fun a => .v (f a)))).depth ≤ 1 := fun l => by
      rw [py, pys_map]
      have e : (l.map fun a => py (.v (f a))) = l.map pf := List.map_congr_left fun a _ => k.p a
      rw [e]
      refine ⟨canLayAll_map pf k.c l, ?_⟩
      have h := depthAll_map pf 0 k.d l
      show PyData.depthAll (l.map pf) + 1 ≤ 1
      omega
    refine ⟨canLayAll_map _ (fun l => (hs l).1) ls, decide_eq_true ?_⟩
    have h := depthAll_map (fun l : List α => py (.l (l.map fun a => .v (f a)))) 1 (fun l => (hs l).2) ls
    show PyData.depthAll (ls.map _) + 1 ≤ 64
    omega
theorem eqv_ll {α : Type} [DecidableEq α] {f : α → V} {pf : α → PyData} (k : FlatK f pf) (as bs : List (List α)) : PyData.eqv (py (.l (as.map fun l => .l (l.map fun a => .v (f a))))) (py (.l (bs.map fun l => .l (l.map fun a => .v (f a))))) = decide (as = bs) := by
  rw [py, py, pys_map, pys_map, PyData.eqv]
  exact eqvAll_map (fun l : List α => py (.l (l.map fun a => .v (f a)))) (fun a b => k.eq a b) as bs
theorem rd_eqLL {K : PySem.W.Frag} {α : Type} [DecidableEq α] {f : α → V} {pf : α → PyData} (k : FlatK f pf) {as bs : List (List α)} : RD K (rEqD K) (.l (as.map fun l => .l (l.map fun a => .v (f a)))) (.l (bs.map fun l => .l (l.map fun a => .v (f a)))) (db (decide (as = bs))) := by
  rw [← eqv_ll k]
  exact rd_eqD (ok_ll k _).1 (ok_ll k _).1 (ok_ll k _).2 (ok_ll k _).2
theorem rd_neLL {K : PySem.W.Frag} {α : Type} [DecidableEq α] {f : α → V} {pf : α → PyData} (k : FlatK f pf) {as bs : List (List α)} : RD K (rNeD K) (.l (as.map fun l => .l (l.map fun a => .v (f a)))) (.l (bs.map fun l => .l (l.map fun a => .v (f a)))) (db (!decide (as = bs))) := by
  rw [← eqv_ll k]
  exact rd_neD (ok_ll k _).1 (ok_ll k _).1 (ok_ll k _).2 (ok_ll k _).2
theorem en_cutT {K : PySem.W.Frag} {σ : L2.St} {H : Hp} {te : TE} {tl : TO} {α : Type} {f : α → V} {ns : List α} {a : Nat} (h : EvD K te σ H (.l (ns.map fun a => .v (f a)))) (h1 : EvO K tl σ H (some (a : Int))) : EvN (tSl (rSlL K) te tl tNoPart) σ H (.l ((ns.drop a).map fun a => .v (f a))) := by
  have g := en_sl h h1 eo_none
  rw [cut_from] at g
  exact g
theorem en_cutH {K : PySem.W.Frag} {σ : L2.St} {H : Hp} {te : TE} {th : TO} {α : Type} {f : α → V} {ns : List α} {z : Nat} (h : EvD K te σ H (.l (ns.map fun a => .v (f a)))) (h1 : EvO K th σ H (some (z : Int))) : EvN (tSl (rSlL K) te tNoPart th) σ H (.l ((ns.take z).map fun a => .v (f a))) := by
  have g := en_sl h eo_none h1
  rw [cut_to] at g
  exact g
theorem dn_add (b p : Nat) : di ((b : Int) + (p : Int)) = dn (b + p) := rfl
theorem lineF_d (rs : List Int) (b e : Nat) : D.l ((orderF ((rs.drop b).take (e - b))).map fun p : Nat => di ((b : Int) + (p : Int))) = dN (lineF rs b e) := by
  show _ = D.l ((List.map (fun p => b + p) (orderF ((rs.drop b).take (e - b)))).map dn)
  rw [List.map_map] <;> rfl
theorem slice_end (rs : List Int) (b : Nat) : (rs.drop b).take (rs.length - b) = rs.drop b := List.take_of_length_le (by rw [List.length_drop]; exact Nat.le_refl _)
def R_law_refused10 (xs : List D) (d : D) : Prop := ∃ rs cs, xs = [dI rs, dI cs] ∧ (Lv rs ∧ cs.length ≤ 60 ∧ ¬ Rising rs.length 0 cs) ∧ d = db true
end Tx
namespace Tx
open PySem PySem.Spec PyProof.Rows L2 Evl
section
variable {K : PySem.W.Frag} {σ : L2.St} {H H' H0 H1 : Hp} {te : TE} {a b : Addr × HO} {q p : Addr} {l : List Nat} {es : List (Addr × List Nat)}
theorem cutD_one (xs : List D) : cutD xs (some 1) none = xs.drop 1 := cut_from xs (a := 1)
theorem own_mem (o : Own H0 H1 ((q, .lst (l.map fun n : Nat => V.int n)) :: a :: b :: (p, .lst (V.ref q :: es.map fun e => V.ref e.1)) :: es.map entG)) : ∀ e ∈ (q, l) :: es, H0 e.1 = none ∧ H1 e.1 = some (.lst (e.2.map fun n : Nat => V.int n)) := fun e he => by
  have hm : entG e ∈ (q, HO.lst (l.map fun n : Nat => V.int n)) :: a :: b :: (p, HO.lst (V.ref q :: es.map fun e => V.ref e.1)) :: es.map entG := by
    rcases List.mem_cons.mp he with rfl | he
    · exact List.mem_cons_self
    · exact List.mem_cons_of_mem _ (List.mem_cons_of_mem _ (List.mem_cons_of_mem _ (List.mem_cons_of_mem _ (List.mem_map_of_mem he))))
  exact ⟨o.2.1 _ hm, o.2.2.2 _ hm⟩
theorem own_found (o : Own H0 H1 ((q, .lst (l.map fun n : Nat => V.int n)) :: a :: b :: (p, .lst (V.ref q :: es.map fun e => V.ref e.1)) :: es.map entG)) : DatN H0 H1 (.l (dN l :: es.map fun e => dN e.2)) (.ref p) :=
  DatN.l_iff.mpr ⟨p, _, rfl, o.drop0.drop0.drop0.free0, o.get3, entG_dat ((q, l) :: es) (fun e he => (own_mem o e he).1) (fun e he => (own_mem o e he).2)⟩
theorem rising_good {n : Nat} {cs : List Int} (g : Bool) (h : g = (decide (cs = sset cs) && (cs.map fun c => decide (0 < c) && decide (c < (n : Int))).all id)) : g = true ↔ Rising n 0 cs := by
  rw [h, rising_iff, Bool.and_eq_true, decide_eq_true_eq, sset_self, List.all_eq_true]
  refine and_congr_right fun _ => ⟨fun h c hc => ?_, fun h x hx => ?_⟩
  · have := h _ (List.mem_map_of_mem (f := fun c => decide (0 < c) && decide (c < (n : Int))) hc)
    simp only [id, Bool.and_eq_true, decide_eq_true_eq] at this
    exact this
  · obtain ⟨c, hc, rfl⟩ := List.mem_map.mp hx
    have := h c hc
    simp only [id, Bool.and_eq_true, decide_eq_true_eq]
    exact this
theorem all_bs (cs : List Int) (n : Int) : D.l (cs.map fun c => D.v (.bl (decide (0 < c) && decide (c < n)))) = .l ((cs.map fun c => decide (0 < c) && decide (c < n)).map fun b => .v (.bl b)) := by rw [List.map_map] <;> rfl
theorem toNat_cast (ks : List Nat) : (ks.map fun k : Nat => (k : Int)).map Int.toNat = ks := by
  rw [List.map_map]
  have : (Int.toNat ∘ fun k : Nat => (k : Int)) = id := funext fun k => Int.toNat_natCast k
  rw [this, List.map_id]
theorem rg_cast (B E : Nat) : D.l ((List.range ((E : Int) - (B : Int)).toNat).map fun i => di ((B : Int) + (i : Nat))) = dN ((List.range (E - B)).map fun i => B + i) := by
  have e : ((E : Int) - (B : Int)).toNat = E - B := by omega
  rw [e]
  show _ = D.l (List.map dn _)
  rw [List.map_map] <;> rfl
theorem law_list_same (l : List Nat) (h : l.length ≤ 1000) : R_law_list [dN l, dN l] (db true) := ⟨l.map fun n : Nat => (n : Int), l.map fun n : Nat => (n : Int), by rw [← dN_dI], by rw [List.length_map]; exact h, by rw [decide_eq_true rfl]⟩
end
theorem en_catVV {σ : L2.St} {H : Hp} {p q : Addr} {α : Type} {f : α → V} {ns ms : List α} {i j : Nat} (hs : σ[i]? = some (some (.ref p))) (hp : H p = some (.lst (ns.map f))) (hs2 : σ[j]? = some (some (.ref q))) (hq : H q = some (.lst (ms.map f))) (hl : ns.length + ms.length ≤ 100000) : EvN (tOp rCat (tVar i) (tVar j)) σ H (.l ((ns ++ ms).map fun a => .v (f a))) := fun H1 e Q k =>
  ⟨.ref p, hs, .ref q, hs2, rn_cat hl (e p _ hp) (e q _ hq) k⟩
end Tx
/-! texts, kinds -/
namespace Tx
open PySem PySem.Spec PyProof.Rows L2 Evl
theorem pe_globS {X : Cx} {x : Str} {s : Str} {pos : Pos} (hg : Gl X x) (h : ∃ t, X.mg x = some (.str s t)) (hd : (x == ("__debug__" : Str)) = false := by decide) : PE X (.Name x pos) (tC (.str s)) := by
  obtain ⟨t, h⟩ := h
  exact pe_glob hg h ⟨t, rfl⟩ hd
theorem pe_globI {X : Cx} {x : Str} {n : Int} {pos : Pos} (hg : Gl X x) (h : ∃ t, X.mg x = some (.int n t)) (hd : (x == ("__debug__" : Str)) = false := by decide) : PE X (.Name x pos) (tC (.int n)) := by
  obtain ⟨t, h⟩ := h
  exact pe_glob hg h ⟨t, rfl⟩ hd
abbrev tx (T : List Nat) : Str := ⟨T.toArray⟩
theorem tx_cps (T : List Nat) : (tx T).cps.toList = T := List.toList_toArray ..
theorem tx_len (T : List Nat) : (tx T).length = T.length := List.size_toArray ..
theorem tx_of (z : Str) : tx z.cps.toList = z := by cases z; simp [tx]
theorem tx_inj {S T : List Nat} (h : tx S = tx T) : S = T := by
  have := congrArg (fun z : Str => z.cps.toList) h
  simpa [tx] using this
/-- the signs of a text -/
abbrev dT (T : List Nat) : D := .l (T.map fun c => .v (.str (sg c)))
def rListS : List V → Hp → VK → Prop := fun xs H Q => ∃ z : Str, xs = [.str z] ∧ z.length ≤ 100000 ∧ ∀ l, H l = none → Q (.ref l) (upd H l (.lst (z.cps.toList.map fun c => V.str (sg c))))
theorem vals_signs (z : Str) : ∀ (l : List Nat) (us : List Value) (k : Nat), z.cps.toList.drop k = l → us.length = l.length → (∀ j v, us[j]? = some v → SignAt z (k + j) v) → Vals (l.map fun c => V.str (sg c)) us
  | [], [], _, _, _, _ => .nil
  | [], _ :: _, _, _, h, _ => by cases h
  | _ :: _, [], _, _, h, _ => by cases h
  | c :: l, u :: us, k, hd, hl, hv => by
    obtain ⟨c', t, hc, rfl⟩ := hv 0 u rfl
    have hk : z.cps.toList[k]? = some c := by
      have := congrArg (fun l => l[0]?) hd
      simpa using this
    have e : c' = c := by
      have h9 : z.cps.toList[k]? = some c' := by simpa using hc
      rw [hk] at h9
      exact (Option.some.inj h9).symm
    subst e
    refine .cons ⟨t, rfl⟩ (vals_signs z l us (k + 1) ?_ (by simpa using hl) fun j v hj => ?_)
    · have := congrArg List.tail hd
      simpa using this
    · have := hv (j + 1) v (by simpa using hj)
      rw [show k + 1 + j = k + (j + 1) by omega]
      exact this
theorem call_listS {X : Cx} (hc : X.calm = true) : CallR X (.type "list") rListS := by
  intro pins s σ H xs us Q I r h
  obtain ⟨z, rfl, hz, q⟩ := h
  cases r with
  | cons r rr =>
    cases rr
    obtain ⟨t, rfl⟩ := r
    have hz' : z.cps.size ≤ sizeLine := by
      have : z.cps.size = z.length := rfl
      rw [sizeLine_eq]; omega
    have hn : H s.heap.objs.size = none := I.hok.fresh (Nat.le_refl _)
    refine PySem.call_list_str (hn := hz') (I.ok.hd hc) z t fun h' tk acc c' hk hS hi => ?_
    have hv : Vals (z.cps.toList.map fun c => V.str (sg c)) acc.toList := vals_signs z _ _ 0 rfl (by rw [Array.length_toList, Array.length_toList]; exact hi.1) fun j v hj => by
      rw [Nat.zero_add]
      exact hi.2 j v (by simpa using hj)
    refine ⟨.ref s.heap.objs.size, upd H s.heap.objs.size (.lst (z.cps.toList.map fun c => V.str (sg c))), I.laid (t' := tk) hk (Nat.le_refl _) (show ObjOk X.prog X.w _ _ _ (.lst (z.cps.toList.map fun c => V.str (sg c))) from ⟨by rw [List.length_map, Array.length_toList]; exact hz', acc.toList, c', hv, ?_⟩), rfl, q _ hn⟩
    rw [Array.toArray_toList]
    exact hS
section
variable {K : PySem.W.Frag} {σ : L2.St} {H : Hp} {ta te : TE}
theorem cn_listS {z : Str} (hz : z.length ≤ 100000) : CN K rListS [ds z] (dT z.cps.toList) := fun H vs dv Q q => by
  obtain ⟨v, rfl, a⟩ := dv.n1
  rw [Dat.v_iff.mp a]
  exact ⟨z, rfl, hz, fun l hl => q _ _ (Ex.new hl) (DatN.l_iff.mpr ⟨l, _, rfl, hl, upd_same, DatsN.map⟩)⟩
end
/-! ### kinds -/
def eastC : List Nat := (Str.ofString "abcdefghijklmnopqrstuvwxyz").cps.toList
def westC : List Nat := (Str.ofString "ABCDEFGHIJKLMNOPQRSTUVWXYZ").cps.toList
def figC : List Nat := (Str.ofString "0123456789").cps.toList
def openC : List Nat := (Str.ofString "{[").cps.toList
theorem openC_eq : openC = [123, 91] := by decide +kernel
def kindS (c : Nat) : Str := if c ∈ eastC then "east" else if c ∈ westC then "west" else if c ∈ figC then "figure" else if c ∈ openC then "open" else if sg c = ("|" : Str) then "close" else "between"
def R_kind (xs : List D) (d : D) : Prop := ∃ c, xs = [ds (sg c)] ∧ d = ds (kindS c)
def R_law_kind (xs : List D) (d : D) : Prop := ∃ c, xs = [ds (sg c)] ∧ d = ds (kindS c)
theorem sg_eq {c d : Nat} : sg c = sg d ↔ c = d := ⟨fun h => by
  have := congrArg (fun z : Str => z.cps.toList) h
  simpa [sg] using this, fun h => by rw [h]⟩
theorem brace_eq : (Str.ofString "{") = sg 123 := by decide +kernel
theorem brack_eq : (Str.ofString "[") = sg 91 := by decide +kernel
theorem bar_eq : (Str.ofString "|") = sg 124 := by decide +kernel
theorem inV_open (c : Nat) : inV (.str (sg c)) ([Str.ofString "{", Str.ofString "["].map V.str) = decide (c ∈ openC) := by
  rw [openC_eq, brace_eq, brack_eq]
  unfold inV
  simp only [List.map_cons, List.map_nil, List.any_cons, List.any_nil, Bool.or_false, List.mem_cons, List.not_mem_nil, or_false]
  show (sg 123 == sg c || sg 91 == sg c) = _
  rw [Bool.eq_iff_iff]
  simp only [Bool.or_eq_true, beq_iff_eq, decide_eq_true_eq, sg_eq]
  omega
end Tx
namespace Tx
open PySem PySem.Spec PyProof.Rows L2 Evl
theorem atI_getN {l : List Nat} {i : Int} (h0 : 0 ≤ i) (h1 : i < l.length) : atI l i = some (l.getD i.toNat 0) := by
  obtain ⟨j, rfl⟩ := Int.eq_ofNat_of_zero_le h0
  have hj : j < l.length := by omega
  refine atI_nat ?_
  rw [Int.toNat_natCast, List.getD, List.getElem?_eq_getElem hj] <;> rfl
theorem cps_len (z : Str) : z.cps.toList.length = z.length := Array.length_toList ..
end Tx
/-! the laws' texts; walked -/
namespace Tx
open PySem PySem.Spec PyProof.Rows L2 Evl
theorem foldl_glue (e : Str) (he : e.cps = #[]) : ∀ (r : List Nat) (acc : Array Nat), (r.map sg).foldl (fun acc (p : Str) => acc ++ e.cps ++ p.cps) acc = acc ++ r.toArray
  | [], acc => by simp
  | c :: r, acc => by
    rw [List.map_cons, List.foldl_cons, foldl_glue e he r, he]
    simp [sg]
theorem join_sg (T : List Nat) : Txt.join (Str.ofString "") (T.map sg) = tx T := by
  have he : (Str.ofString "").cps = #[] := by decide +kernel
  cases T with
  | nil =>
    show Builtin.Str.glued _ [] = _
    unfold Builtin.Str.glued
    rfl
  | cons c r =>
    show Builtin.Str.glued _ (sg c :: r.map sg) = _
    unfold Builtin.Str.glued
    have := foldl_glue _ he r (sg c).cps
    rw [show (sg c :: r.map sg).drop 1 = r.map sg from rfl, show (sg c :: r.map sg).headD Str.empty = sg c from rfl, this]
    simp [sg, tx]
section
variable {K : PySem.W.Frag} {σ : L2.St} {H H' H0 H1 : Hp} {L : List (Addr × HO)} {ta tb te : TE} {De : Ends} {p q : Addr} {xs : List D} {z : D}
abbrev rJoin (K : PySem.W.Frag) : V → List V → Hp → VK → Prop := fun x xs H Q => ∃ a p, ∃ ys : List Str, x = .str a ∧ xs = [.ref p] ∧ (SqL K H p (ys.map V.str) ∨ SqT K H p (ys.map V.str)) ∧ (ys.map (·.length)).sum + ys.length * a.length ≤ 16777216 ∧ Q (.str (Txt.join a ys)) H
theorem ev_join {T : List Nat} (h : EvD K te σ H (dT T)) (hl : T.length ≤ 100000) : EvD K (tM1 (rJoin K) (tC (.str "")) te) σ H (ds (tx T)) := fun H1 e Q k => ⟨⟨_, rfl⟩, h H1 e _ fun v H2 e2 d => by
  obtain ⟨p, ys, rfl, s, dd⟩ := Dat.l_iff.mp d
  have ey := Dats.map_eq (f := fun c : Nat => V.str (sg c)) dd
  subst ey
  refine ⟨Str.ofString "", p, T.map sg, rfl, rfl, .inl (by rw [List.map_map]; exact s), ?_, by rw [join_sg]; exact k _ H2 e2 Dat.v⟩
  have h0 : (Str.ofString "").length = 0 := by decide +kernel
  have h1 : ((T.map sg).map (·.length)).sum = T.length := by
    clear hl s dd d h k
    induction T with
    | nil => rfl
    | cons c r ih =>
      rw [List.map_cons, List.map_cons, List.sum_cons, ih, List.length_cons]
      show 1 + _ = _
      omega
  rw [h0, h1]
  omega⟩
/-- s[:n] -/
theorem ev_slS {T : List Nat} {n : Nat} {th : TO} (h : EvD K te σ H (ds (tx T))) (hh : EvO K th σ H (some (n : Int))) (hl : T.length ≤ 100000) : EvD K (tSl rSlS te tNoPart th) σ H (ds (tx (T.take n))) := fun H1 e Q k => h H1 e _ fun v H2 e2 d => hh H2 (e.trans e2) _ fun H3 e3 => by
  rw [Dat.v_iff.mp d]
  refine ⟨tx T, rfl, sz_of (by rw [tx_len]; exact hl), ?_⟩
  have he : cutS (tx T) none (some (n : Int)) = tx (T.take n) := by
    unfold cutS
    rw [tx_cps, tx_len]
    have := cut_to T (e := n)
    rw [this]
  rw [he]
  exact k _ H3 (e2.trans e3) Dat.v
theorem ev_addS {S T : List Nat} (h : EvD K ta σ H (ds (tx S))) (h2 : EvD K tb σ H (ds (tx T))) (hl : S.length + T.length ≤ 100000) : EvD K (tOp (fun x y H Q => ∃ i j, x = .str i ∧ y = .str j ∧ i.length + j.length ≤ sizeLine ∧ Q (.str (i ++ j)) H) ta tb) σ H (ds (tx (S ++ T))) := by
  have e : tx S ++ tx T = tx (S ++ T) := by
    show Str.append _ _ = _
    unfold Str.append tx
    simp
  rw [← e]
  exact ev_op h h2 (rd_addS (by rw [tx_len, tx_len]; exact hl))
/-- s[i] -/
theorem ev_ixS {T : List Nat} {i : Int} {c : Nat} (h : EvD K ta σ H (ds (tx T))) (h2 : EvD K tb σ H (di i)) (hl : T.length ≤ 100000) (hi : atI T i = some c) : EvD K (tOp rIxS ta tb) σ H (ds (sg c)) := ev_op h h2 (rd_ixS (by rw [tx_len]; exact hl) (by rw [tx_cps]; exact hi))
/-- a new pair's part -/
theorem en_ixT {i : Int} (h : EvN ta σ H (.t xs)) (h2 : EvD K tb σ H (di i)) (hi : atI xs i = some z) : EvN (tOp (rIxT K) ta tb) σ H z := fun H1 e Q k => h H1 e _ fun v H2 e2 d => h2 H2 (e.trans e2) _ fun w H3 e3 d2 => by
  obtain ⟨p, ys, rfl, hp, hl, dd⟩ := DatN.t_iff.mp d
  rw [Dat.v_iff.mp d2]
  have hat : ∃ u, atI ys i = some u ∧ DatN H1 H2 z u := by
    unfold atI at hi ⊢
    rw [dd.length]
    cases hj : ixN xs.length i with
    | none => rw [hj] at hi; cases hi
    | some j =>
      rw [hj] at hi
      clear hl h k d hj
      induction xs generalizing ys j with
      | nil => simp at hi
      | cons x r ih =>
        obtain ⟨y, s, rfl, a, b⟩ := DatsN.cons_iff.mp dd
        cases j with
        | zero =>
          have e9 : x = z := Option.some.inj hi
          subst e9
          exact ⟨y, rfl, a⟩
        | succ j => exact ih _ b j hi
  obtain ⟨u, hu, du⟩ := hat
  exact ⟨p, ys, i, u, rfl, rfl, Or.inl (Or.inl (e3 _ _ hl)), hu, k u H3 (e2.trans e3) (du.mono (Ex.refl _) e3)⟩
/-- return (a, b), both local lists -/
theorem s_ret2 {α β : Type} {f : α → V} {g : β → V} {as : List α} {bs : List β} {i j : Nat} (o : Own H0 H L) (hi : σ[i]? = some (some (.ref p))) (hj : σ[j]? = some (some (.ref q))) (hp : H p = some (.lst (as.map f))) (hq : H q = some (.lst (bs.map g))) (np : H0 p = none) (nq : H0 q = none)
    (k : ∀ v H2, Ex H0 H2 → DatN H0 H2 (.t [.l (as.map fun a => .v (f a)), .l (bs.map fun b => .v (g b))]) v → De.rt v H2) : tRet (tTup (tCons (tVar i) (tCons (tVar j) tNil))) De σ H :=
  ⟨.ref p, hi, .ref q, hj, (Nat.le_of_ble_eq_true rfl : 2 ≤ sizeLine), fun l hl => k _ _ (o.ex.trans (Ex.new hl)) (DatN.t_iff.mpr ⟨l, _, rfl, fresh_back o.ex hl, upd_same, DatsN.cons (DatN.l_iff.mpr ⟨p, _, rfl, np, Ex.new hl _ _ hp, DatsN.map⟩) (DatsN.cons (DatN.l_iff.mpr ⟨q, _, rfl, nq, Ex.new hl _ _ hq, DatsN.map⟩) DatsN.nil)⟩)⟩
end
/-! ### signs and texts of the laws -/
def shareT : List (List Int) := [[0, 0, 1, 1, 2, 3, 4, 5, 5], [0, 1, 2, 5], [3, 3, 3, 4, 0, 1, 2, 5], [0, 1, 1, 5, 5]]
def stockT : List Str := ["abz", "ABZ", "059", "{[", "|", " .-(~"]
def shareF (way : Int) : List Int := shareT.getD way.toNat []
def rowT (mixed way : Int) : Str := stockT.getD ((shareF way).getD (mixed / 7 % (shareF way).length).toNat 0).toNat ""
def signF (mixed way : Int) : Nat := (rowT mixed way).cps.toList.getD (mixed / 700 % (rowT mixed way).length).toNat 0
def R_law_sign (xs : List D) (d : D) : Prop := ∃ mixed way, xs = [di mixed, di way] ∧ (0 ≤ way ∧ way < 4) ∧ d = ds (sg (signF mixed way))
theorem shareF_ok {way : Int} (h0 : 0 ≤ way) (h1 : way < 4) : atI (shareT.map dI) way = some (dI (shareF way)) ∧ 0 < (shareF way).length ∧ (shareF way).length ≤ 9 ∧ ∀ x ∈ shareF way, 0 ≤ x ∧ x < 6 := by
  refine ⟨atI_getD [] h0 (show way < 4 from h1), ?_⟩
  obtain ⟨j, rfl⟩ := Int.eq_ofNat_of_zero_le h0
  unfold shareF
  rw [Int.toNat_natCast]
  have : j = 0 ∨ j = 1 ∨ j = 2 ∨ j = 3 := by omega
  rcases this with rfl | rfl | rfl | rfl <;> decide
theorem stockT_ok {k : Int} (h0 : 0 ≤ k) (h1 : k < 6) : atI (stockT.map ds) k = some (ds (stockT.getD k.toNat "")) ∧ 0 < (stockT.getD k.toNat "").length ∧ (stockT.getD k.toNat "").length ≤ 9 := by
  refine ⟨atI_getD (f := ds) "" h0 (show k < 6 from h1), ?_⟩
  obtain ⟨j, rfl⟩ := Int.eq_ofNat_of_zero_le h0
  rw [Int.toNat_natCast]
  have : j = 0 ∨ j = 1 ∨ j = 2 ∨ j = 3 ∨ j = 4 ∨ j = 5 := by omega
  rcases this with rfl | rfl | rfl | rfl | rfl | rfl <;> decide +kernel
def textF (ns : List Int) (start way : Int) (n : Nat) : List Nat := (List.range n).map fun k : Nat => signF (mixF (pickF ns (start + (k : Int))) (k : Int)) way
def R_law_text (xs : List D) (d : D) : Prop := ∃ ns start size way, xs = [dI ns, di start, di size, di way] ∧ (0 ≤ start ∧ start ≤ 10 ∧ 0 ≤ size ∧ size ≤ 60 ∧ 0 ≤ way ∧ way < 4) ∧ d = ds (tx (textF ns start way size.toNat))
def aheadF (cell : Int) : List Nat := (List.range (cell / 600 % 9).toNat).map fun k : Nat => openC.getD (mixF cell (90 + (k : Int)) / 7 % 2).toNat 0
def openedF (cell : Int) (T : List Nat) : List Nat := if cell / 200 % 3 = 1 then (aheadF cell ++ T).take 60 else T
theorem openedF_len {cell : Int} {T : List Nat} (h : T.length ≤ 60) : (openedF cell T).length ≤ 60 := by
  unfold openedF
  split
  · rw [List.length_take]; omega
  · exact h
def R_law_opened (xs : List D) (d : D) : Prop := ∃ cell T, xs = [di cell, ds (tx T)] ∧ T.length ≤ 60 ∧ d = ds (tx (openedF cell T))
/-! ### walked -/
structure Wk where
  found : List Nat
  floors : List Int
  rest : List (Nat × Nat)
  top : Nat × Nat
def deepF (c : Nat) (g : Int) : Int := if sg c = ("{" : Str) then g + 2 - g % 2 else g + 1 + g % 2
def R_deeper (xs : List D) (d : D) : Prop := ∃ c g, xs = [ds (sg c), di g] ∧ d = di (deepF c g)
/-- a closing sign -/
def wclose (c : Nat) (s : Wk) : Wk := if sg c = ("|" : Str) then (if 0 < s.top.2 then { s with top := (s.top.1, s.top.2 - 1) } else match s.rest.getLast? with
  | none => s
  | some t => { s with rest := s.rest.dropLast, top := t }) else s
def wmark (s : Wk) : Wk := { s with found := s.found ++ [s.top.1] }
def wopen (c : Nat) (s : Wk) : Wk := if c ∈ openC then (if deepF c (s.floors.getD s.top.1 0) > 6 then { s with top := (s.top.1, s.top.2 + 1) } else { s with rest := s.rest ++ [s.top], top := (s.floors.length, 0), floors := s.floors ++ [deepF c (s.floors.getD s.top.1 0)] }) else s
def wstep (s : Wk) (c : Nat) : Wk := wopen c (wmark (wclose c s))
def wfold (b : Int) (T : List Nat) : Wk := T.foldl wstep ⟨[], [b], [], (0, 0)⟩
theorem wfold_snoc (b : Int) (T : List Nat) (c : Nat) : wfold b (T ++ [c]) = wstep (wfold b T) c := by
  unfold wfold
  rw [List.foldl_append] <;> rfl
def stF (b : Int) (T : List Nat) : List Nat := (wfold b T).found
def flF (b : Int) (T : List Nat) : List Int := (wfold b T).floors
/-- what holds of the walk after n signs -/
structure WkOk (n : Nat) (s : Wk) : Prop where
  len : s.found.length = n
  fl : s.floors.length ≤ n + 1
  pos : 0 < s.floors.length
  rl : s.rest.length ≤ n
  sp : s.top.2 ≤ n ∧ ∀ e ∈ s.rest, e.2 ≤ n
  num : s.top.1 < s.floors.length ∧ ∀ e ∈ s.rest, e.1 < s.floors.length
  all : ∀ x ∈ s.found, x < s.floors.length
  deep : ∀ g ∈ s.floors, 0 ≤ g ∧ g ≤ 6
theorem deepF_ge (c : Nat) {g : Int} (h : 0 ≤ g) : 0 ≤ deepF c g := by unfold deepF; split <;> omega
theorem wclose_ok {n : Nat} {s : Wk} (h : WkOk n s) (c : Nat) : WkOk n (wclose c s) := by
  unfold wclose
  split
  · split
    · exact { h with sp := ⟨Nat.le_trans (Nat.sub_le _ _) h.sp.1, h.sp.2⟩ }
    · split
      · exact h
      · rename_i t ht
        have hm := List.mem_of_getLast? ht
        exact { h with rl := Nat.le_trans (List.dropLast_sublist _).length_le h.rl, sp := ⟨h.sp.2 t hm, fun e he => h.sp.2 e (List.dropLast_subset _ he)⟩, num := ⟨h.num.2 t hm, fun e he => h.num.2 e (List.dropLast_subset _ he)⟩ }
  · exact h
theorem wopen_ok {n : Nat} {s : Wk} (h : WkOk n s) (c : Nat) : WkOk (n + 1) (wopen c (wmark s)) := by
  have hm : WkOk (n + 1) (wmark s) := by
    refine ⟨by show (s.found ++ [s.top.1]).length = _; rw [List.length_append, h.len] <;> rfl, Nat.le_succ_of_le h.fl, h.pos, Nat.le_succ_of_le h.rl, ⟨Nat.le_succ_of_le h.sp.1, fun e he => Nat.le_succ_of_le (h.sp.2 e he)⟩, h.num, fun x hx => ?_, h.deep⟩
    rcases List.mem_append.mp hx with hx | hx
    · exact h.all x hx
    · rw [List.mem_singleton.mp hx]; exact h.num.1
  unfold wopen
  split
  · split
    · refine { hm with sp := ⟨?_, hm.sp.2⟩ }
      show s.top.2 + 1 ≤ n + 1
      exact Nat.succ_le_succ h.sp.1
    · rename_i hd
      have hg : s.floors.getD s.top.1 0 ∈ s.floors := getD_mem 0 h.num.1
      have h0 := h.deep _ hg
      refine ⟨hm.len, ?_, ?_, ?_, ⟨Nat.zero_le _, fun e he => ?_⟩, ⟨?_, fun e he => ?_⟩, fun x hx => ?_, fun g hg => ?_⟩
      · show (s.floors ++ [_]).length ≤ _
        rw [List.length_append]
        exact Nat.succ_le_succ h.fl
      · show 0 < (s.floors ++ [_]).length
        rw [List.length_append]
        exact Nat.succ_pos _
      · show (s.rest ++ [s.top]).length ≤ _
        rw [List.length_append]
        exact Nat.succ_le_succ h.rl
      · rcases List.mem_append.mp he with he | he
        · exact hm.sp.2 e he
        · rw [List.mem_singleton.mp he]; exact hm.sp.1
      · show s.floors.length < (s.floors ++ [_]).length
        rw [List.length_append]
        exact Nat.lt_succ_self _
      · show e.1 < (s.floors ++ [_]).length
        rw [List.length_append]
        rcases List.mem_append.mp he with he | he
        · exact Nat.lt_succ_of_lt (h.num.2 e he)
        · rw [List.mem_singleton.mp he]; exact Nat.lt_succ_of_lt h.num.1
      · show x < (s.floors ++ [_]).length
        rw [List.length_append]
        exact Nat.lt_succ_of_lt (hm.all x hx)
      · rcases List.mem_append.mp hg with hg | hg
        · exact h.deep g hg
        · rw [List.mem_singleton.mp hg]
          exact ⟨deepF_ge c h0.1, by
            have : ¬ deepF c (s.floors.getD s.top.1 0) > 6 := hd
            show deepF c (s.floors.getD s.top.1 0) ≤ 6
            omega⟩
  · exact hm
theorem wfold_ok {b : Int} (hb : 0 ≤ b ∧ b ≤ 1) (T : List Nat) : WkOk T.length (wfold b T) := by
  have gen : ∀ (T : List Nat) (n : Nat) (s : Wk), WkOk n s → WkOk (n + T.length) (T.foldl wstep s) := by
    intro T
    induction T with
    | nil => intro n s h; exact h
    | cons c r ih =>
      intro n s h
      rw [List.foldl_cons, List.length_cons, ← Nat.add_assoc, Nat.add_right_comm]
      exact ih (n + 1) _ (wopen_ok (wclose_ok h c) c)
  have := gen T 0 ⟨[], [b], [], (0, 0)⟩ ⟨rfl, Nat.le_refl _, Nat.zero_lt_one, Nat.zero_le _, ⟨Nat.zero_le _, fun _ h => nomatch h⟩, ⟨Nat.zero_lt_one, fun _ h => nomatch h⟩, fun _ h => (nomatch h), fun g hg => by rw [List.mem_singleton.mp hg]; omega⟩
  rw [Nat.zero_add] at this
  exact this
def R_walked (xs : List D) (d : D) : Prop := ∃ T b, xs = [ds (tx T), di b] ∧ (T.length ≤ 60 ∧ 0 ≤ b ∧ b ≤ 1) ∧ d = .t [dN (stF b T), dI (flF b T)]
def R_stretches (xs : List D) (d : D) : Prop := ∃ T b, xs = [ds (tx T), di b] ∧ (T.length ≤ 60 ∧ 0 ≤ b ∧ b ≤ 1) ∧ d = dN (stF b T)
def R_grounds (xs : List D) (d : D) : Prop := ∃ T b, xs = [ds (tx T), di b] ∧ (T.length ≤ 60 ∧ 0 ≤ b ∧ b ≤ 1) ∧ d = dI (flF b T)
def R_law_walk (xs : List D) (d : D) : Prop := R_walked xs d
end Tx
namespace Tx
open PySem PySem.Spec PyProof.Rows L2 Evl
theorem Own.put3 {H H' : Hp} {L : List (Addr × HO)} {a b c : Addr × HO} {p : Addr} {o u : HO} (x : Own H H' (a :: b :: c :: (p, o) :: L)) : Own H (upd H' p u) (a :: b :: c :: (p, u) :: L) :=
  (x.perm (List.perm_middle (l₁ := [a, b, c])).symm).put0.perm (List.perm_middle (l₁ := [a, b, c]))
theorem kindS_close (c : Nat) : kindS c = ("close" : Str) ↔ sg c = ("|" : Str) := by
  have n1 : (Str.ofString "east") ≠ Str.ofString "close" := by decide +kernel
  have n2 : (Str.ofString "west") ≠ Str.ofString "close" := by decide +kernel
  have n3 : (Str.ofString "figure") ≠ Str.ofString "close" := by decide +kernel
  have n4 : (Str.ofString "open") ≠ Str.ofString "close" := by decide +kernel
  have n5 : (Str.ofString "between") ≠ Str.ofString "close" := by decide +kernel
  have m1 : 124 ∉ eastC := by decide +kernel
  have m2 : 124 ∉ westC := by decide +kernel
  have m3 : 124 ∉ figC := by decide +kernel
  have m4 : 124 ∉ openC := by decide +kernel
  constructor
  · intro h
    unfold kindS at h
    split at h
    · exact absurd h n1
    · split at h
      · exact absurd h n2
      · split at h
        · exact absurd h n3
        · split at h
          · exact absurd h n4
          · split at h
            · assumption
            · exact absurd h n5
  · intro h
    have hc : c = 124 := by
      rw [bar_eq] at h
      exact sg_eq.mp h
    subst hc
    unfold kindS
    rw [if_neg m1, if_neg m2, if_neg m3, if_neg m4, if_pos h]
theorem kindS_open (c : Nat) : kindS c = ("open" : Str) ↔ c ∈ openC := by
  have n1 : (Str.ofString "east") ≠ Str.ofString "open" := by decide +kernel
  have n2 : (Str.ofString "west") ≠ Str.ofString "open" := by decide +kernel
  have n3 : (Str.ofString "figure") ≠ Str.ofString "open" := by decide +kernel
  have n4 : (Str.ofString "close") ≠ Str.ofString "open" := by decide +kernel
  have n5 : (Str.ofString "between") ≠ Str.ofString "open" := by decide +kernel
  have m1 : ∀ x ∈ openC, x ∉ eastC := by decide +kernel
  have m2 : ∀ x ∈ openC, x ∉ westC := by decide +kernel
  have m3 : ∀ x ∈ openC, x ∉ figC := by decide +kernel
  constructor
  · intro h
    unfold kindS at h
    split at h
    · exact absurd h n1
    · split at h
      · exact absurd h n2
      · split at h
        · exact absurd h n3
        · split at h
          · assumption
          · split at h
            · exact absurd h n4
            · exact absurd h n5
  · intro h
    unfold kindS
    rw [if_neg (m1 c h), if_neg (m2 c h), if_neg (m3 c h), if_pos h]
theorem set_last {α : Type} (xs : List α) (x y : α) : (xs ++ [x]).set xs.length y = xs ++ [y] := by simp
theorem map_snoc {α β : Type} (f : α → β) (xs : List α) (x : α) : (xs ++ [x]).map f = xs.map f ++ [f x] := by rw [List.map_append] <;> rfl
end Tx
/-! the law's own walk: a pile of small lists -/
namespace Tx
open PySem PySem.Spec PyProof.Rows L2 Evl
def entP (e : Addr × (Nat × Nat)) : Addr × HO := (e.1, .lst [.int (e.2.1 : Int), .int (e.2.2 : Int)])
abbrev dP (e : Nat × Nat) : D := .l [dn e.1, dn e.2]
/-- found, floors, pile, the topmost first -/
def WOwn (H0 H : Hp) (pf pl pp a : Addr) (er : List (Addr × (Nat × Nat))) (s : Wk) : Prop :=
  Own H0 H ((a, .lst [.int (s.top.1 : Int), .int (s.top.2 : Int)]) :: (pf, .lst (s.found.map fun n : Nat => V.int n)) :: (pl, .lst (s.floors.map V.int)) :: (pp, .lst ((er.map (·.1) ++ [a]).map V.ref)) :: er.map entP) ∧ er.map (·.2) = s.rest
section
variable {K : PySem.W.Frag} {σ : L2.St} {H H' H0 H1 : Hp} {L : List (Addr × HO)} {ta tb te to : TE} {De : Ends} {p q : Addr} {pf pl pp a : Addr} {er : List (Addr × (Nat × Nat))} {s : Wk}
theorem entP_dat : ∀ (es : List (Addr × (Nat × Nat))), (∀ e ∈ es, H e.1 = some (.lst [.int (e.2.1 : Int), .int (e.2.2 : Int)])) → Dats K H (es.map fun e => dP e.2) (es.map fun e => V.ref e.1)
  | [], _ => Dats.nil
  | e :: r, h => Dats.cons (Dat.l_iff.mpr ⟨e.1, _, rfl, sq_of (h e List.mem_cons_self), Dats.cons Dat.v (Dats.cons Dat.v Dats.nil)⟩) (entP_dat r fun x hx => h x (List.mem_cons_of_mem _ hx))
theorem WOwn.nest (w : WOwn H0 H pf pl pp a er s) : Dat K H (.l ((s.rest ++ [s.top]).map dP)) (.ref pp) := by
  obtain ⟨o, e⟩ := w
  refine Dat.l_iff.mpr ⟨pp, _, rfl, sq_of o.get3, ?_⟩
  have d := entP_dat (K := K) (H := H) (er ++ [(a, s.top)]) fun x hx => by
    rcases List.mem_append.mp hx with hx | hx
    · exact o.2.2.2 (entP x) (List.mem_cons_of_mem _ (List.mem_cons_of_mem _ (List.mem_cons_of_mem _ (List.mem_cons_of_mem _ (List.mem_map_of_mem hx)))))
    · rw [List.mem_singleton.mp hx]
      exact o.get0
  have e1 : ((er ++ [(a, s.top)]).map fun e => dP e.2) = (s.rest ++ [s.top]).map dP := by
    rw [← e, List.map_append, List.map_append, List.map_map] <;> rfl
  have e2 : ((er ++ [(a, s.top)]).map fun e => V.ref e.1) = (er.map (·.1) ++ [a]).map V.ref := by
    rw [List.map_append, List.map_append, List.map_map] <;> rfl
  rw [e1, e2] at d
  exact d
theorem WOwn.flat (w : WOwn H0 H pf pl pp a er s) : Dat K H (.l ((er.map (·.1) ++ [a]).map fun x : Addr => .v (.ref x))) (.ref pp) := Dat.flatL (sq_of w.1.get3)
theorem WOwn.flo (w : WOwn H0 H pf pl pp a er s) : Dat K H (dI s.floors) (.ref pl) := Dat.flatL (sq_of w.1.get2)
theorem WOwn.grow (w : WOwn H0 H pf pl pp a er s) (e : Ex H H1) : WOwn H0 H1 pf pl pp a er s := ⟨w.1.grow e, w.2⟩
/-- (an expression that gives a list)[e] = v -/
theorem s_putE {j : Nat} {n : Int} {vs : List V} {v : V} {M : HO → List (Addr × HO)} (o : Own H0 H L) [IsK K] (ht : ∀ H1, Ex H H1 → EvD K to σ H1 (.v (.ref p))) (hl : H p = some (.lst vs)) (put : ∀ (H1 : Hp) (u : HO), Own H0 H1 L → Own H0 (upd H1 p u) (M u))
    (h : EvD K te σ H (.v v)) (hi : ∀ H1, Ex H H1 → EvD K tb σ H1 (di n)) (hj : ixN vs.length n = some j) (k : ∀ H1, Own H0 H1 (M (.lst (vs.set j v))) → De.nx σ H1) : tAsg te (gSub to tb rSetL) De σ H :=
  h H (Ex.refl H) _ fun y H2 e2 d => ht H2 e2 H2 (Ex.refl _) _ fun x H3 e3 dx => hi H3 (e2.trans e3) H3 (Ex.refl _) _ fun z H4 e4 dz => by
    rw [Dat.v_iff.mp dx]
    exact ⟨p, vs, n, j, rfl, Dat.v_iff.mp dz, ((e2.trans e3).trans e4) p _ hl, hj, by
      rw [Dat.v_iff.mp d]
      exact k _ (put _ _ (o.grow ((e2.trans e3).trans e4)))⟩
/-- the first small list in a pile of one -/
theorem WOwn.start (o : Own H0 H ((pf, .lst []) :: (pp, .lst [.ref a]) :: L)) (hn : H0 a = none) (ha : H a = some (.lst [.int 0, .int 0])) (hl : ∀ x ∈ L, x.1 ≠ a) (hpf : pf ≠ a) (hpp : pp ≠ a) : Own H0 H ((a, .lst [.int 0, .int 0]) :: (pf, .lst []) :: (pp, .lst [.ref a]) :: L) := by
  obtain ⟨h1, h2, h3, h4⟩ := o
  refine ⟨h1, fun x hx => ?_, ?_, fun x hx => ?_⟩
  · rcases List.mem_cons.mp hx with rfl | hx
    · exact hn
    · exact h2 x hx
  · rw [List.map_cons]
    refine List.nodup_cons.mpr ⟨fun hm => ?_, h3⟩
    obtain ⟨x, hx, e⟩ := List.mem_map.mp hm
    rcases List.mem_cons.mp hx with rfl | hx
    · exact hpf e
    · rcases List.mem_cons.mp hx with rfl | hx
      · exact hpp e
      · exact hl x hx e
  · rcases List.mem_cons.mp hx with rfl | hx
    · exact ha
    · exact h4 x hx
end
theorem law_deep (c : Nat) (g : Int) (hc : c ∈ openC) : (if (!decide ((g + 1) % 2 = if decide (sg c = ("[" : Str)) = true then (1 : Int) else 0)) = true then V.int (g + 1 + 1) else V.int (g + 1)) = V.int (deepF c g) := by
  have hx : (if (!decide ((g + 1) % 2 = if decide (sg c = ("[" : Str)) = true then (1 : Int) else 0)) = true then g + 1 + 1 else g + 1) = deepF c g := by
    unfold deepF
    rw [openC_eq] at hc
    have h1 : ¬ sg 123 = ("[" : Str) := by rw [brack_eq, sg_eq]; decide
    have h2 : sg 123 = ("{" : Str) := brace_eq.symm
    have h3 : sg 91 = ("[" : Str) := brack_eq.symm
    have h4 : ¬ sg 91 = ("{" : Str) := by rw [brace_eq, sg_eq]; decide
    simp only [List.mem_cons, List.not_mem_nil, or_false] at hc
    rcases hc with rfl | rfl
    · rw [decide_eq_false h1, if_pos h2, if_neg Bool.false_ne_true]
      by_cases hg : (g + 1) % 2 = 0
      · rw [decide_eq_true hg, if_neg (by decide)]; omega
      · rw [decide_eq_false hg, if_pos (by decide)]; omega
    · rw [decide_eq_true h3, if_neg h4, if_pos rfl]
      by_cases hg : (g + 1) % 2 = 1
      · rw [decide_eq_true hg, if_neg (by decide)]; omega
      · rw [decide_eq_false hg, if_pos (by decide)]; omega
  rw [← hx]
  exact (apply_ite V.int _ _ _).symm
theorem open_or (c : Nat) : (decide (sg c = ("{" : Str)) || decide (sg c = ("[" : Str))) = decide (c ∈ openC) := by
  rw [← Bool.decide_or, openC_eq, brace_eq, brack_eq]
  exact decide_eq_decide.mpr (by rw [sg_eq, sg_eq]; simp)
end Tx
namespace Tx
open PySem PySem.Spec PyProof.Rows L2 Evl
theorem Own.new2 {H H' H1 : Hp} {L : List (Addr × HO)} {p q : Addr} {o1 o2 : HO} (x : Own H H' L) (n1 : H' p = none) (n2 : H' q = none) (e : Ex H' H1) (h1 : H1 p = some o1) (h2 : H1 q = some o2) (hne : p ≠ q) : Own H H1 ((p, o1) :: (q, o2) :: L) := by
  obtain ⟨y1, y2, y3, y4⟩ := x.new n2 e h2
  refine ⟨y1, fun z hz => ?_, ?_, fun z hz => ?_⟩
  · rcases List.mem_cons.mp hz with rfl | hz
    · exact fresh_back x.ex n1
    · exact y2 z hz
  · rw [List.map_cons]
    refine List.nodup_cons.mpr ⟨fun hm => ?_, y3⟩
    obtain ⟨z, hz, ez⟩ := List.mem_map.mp hm
    rcases List.mem_cons.mp hz with rfl | hz
    · exact hne ez.symm
    · have := x.2.2.2 z hz
      have ez' : z.1 = p := ez
      rw [ez', n1] at this
      cases this
  · rcases List.mem_cons.mp hz with rfl | hz
    · exact h1
    · exact y4 z hz
theorem Own.putAt {H H' : Hp} {A L : List (Addr × HO)} {p : Addr} {o u : HO} (x : Own H H' (A ++ (p, o) :: L)) : Own H (upd H' p u) (A ++ (p, u) :: L) := (x.perm List.perm_middle.symm).put0.perm List.perm_middle
theorem q_ifM {σ : L2.St} {H H0 : Hp} {L : List (Addr × HO)} {t : TT} {tu tw tz : TS} {De : Ends} (M : L2.St → Hp → Prop) {b : Bool} (o : Own H0 H L) (h : EvT t σ H b) (k : ∀ σ' H', M σ' H' → tz De σ' H') (h1 : b = true → ∀ H1, Own H0 H1 L → (∀ σ' H', M σ' H' → tz De σ' H') → tu { De with nx := tz De } σ H1) (h2 : b = false → ∀ H1, Own H0 H1 L → (∀ σ' H', M σ' H' → tz De σ' H') → tw { De with nx := tz De } σ H1) : tSeq (tIfS t tu tw) tz De σ H :=
  Tx.q_if o h (fun hb H1 o => h1 hb H1 o k) (fun hb H1 o => h2 hb H1 o k)
theorem cut_init {α : Type} (l : List α) (x : α) : (((l ++ [x]).drop (HT.sIx (l ++ [x]).length 0 none)).take (HT.sIx (l ++ [x]).length (l ++ [x]).length (some (-1)) - HT.sIx (l ++ [x]).length 0 none)) = l := by
  have h1 : HT.sIx (l ++ [x]).length 0 none = 0 := rfl
  have h2 : HT.sIx (l ++ [x]).length (l ++ [x]).length (some (-1)) = l.length := by
    unfold HT.sIx
    rw [List.length_append, List.length_singleton]
    simp
    omega
  rw [h1, h2, List.drop_zero, Nat.sub_zero]
  exact List.take_left
end Tx
/-! sides and levels: the plain law -/
namespace Tx
open PySem PySem.Spec PyProof.Rows L2 Evl
abbrev eaS : Str := "east"
abbrev weS : Str := "west"
abbrev fiS : Str := "figure"
def isL (k : Str) : Bool := inV (.str k) ([eaS, weS].map V.str)
def isF (k : Str) : Bool := inV (.str k) ([eaS, weS, fiS].map V.str)
theorem isF_eq (k : Str) : isF k = (isL k || decide (k = fiS)) := by
  unfold isF isL inV
  simp only [List.map_cons, List.map_nil, List.any_cons, List.any_nil, Bool.or_false]
  show (eaS == k || (weS == k || fiS == k)) = ((eaS == k || weS == k) || decide (k = fiS))
  rw [Bool.eq_iff_iff]
  simp only [Bool.or_eq_true, beq_iff_eq, decide_eq_true_eq]
  constructor
  · rintro (h | h | h)
    · exact .inl (.inl h)
    · exact .inl (.inr h)
    · exact .inr h.symm
  · rintro ((h | h) | h)
    · exact .inl h
    · exact .inr (.inl h)
    · exact .inr (.inr h.symm)
theorem isL_fig : isL fiS = false := by decide +kernel
def ownS (g : Int) : Str := if g % 2 = 0 then eaS else weS
def stepL (k last : Str) : Str := if isL k = true then k else last
/-- the program's lists -/
def laF : Str → List Str → List Str
  | _, [] => []
  | last, k :: r => last :: laF (stepL k last) r
def fmO (k ahead : Str) : Option Str := if isL k = true then some k else if k = fiS then some ahead else none
def fmF : Str → List Str → List (Option Str)
  | _, [] => []
  | last, k :: r => fmO k last :: fmF (stepL k last) r
def caF : Str → List (Option Str) → List Str
  | _, [] => []
  | last, s :: r => last :: caF (s.getD last) r
def cbF (own : Str) : List (Option Str) → List Str
  | [] => []
  | s :: r => r.foldr (fun s acc => s.getD acc) own :: cbF own r
def pick (own : Str) (f : Option Str) (a b : Str) : Str := match f with
  | some x => x
  | none => if a = b then a else own
def ssF (own : Str) (ks : List Str) : List Str := (List.range ks.length).map fun i => pick own ((fmF own ks).getD i none) ((caF own (fmF own ks)).getD i own) ((caF own (fmF own ks).reverse).reverse.getD i own)
theorem laF_len : ∀ (ks : List Str) (l : Str), (laF l ks).length = ks.length
  | [], _ => rfl
  | k :: r, l => by rw [laF, List.length_cons, laF_len r, List.length_cons]
theorem fmF_len : ∀ (ks : List Str) (l : Str), (fmF l ks).length = ks.length
  | [], _ => rfl
  | k :: r, l => by rw [fmF, List.length_cons, fmF_len r, List.length_cons]
theorem caF_len : ∀ (ks : List (Option Str)) (l : Str), (caF l ks).length = ks.length
  | [], _ => rfl
  | k :: r, l => by rw [caF, List.length_cons, caF_len r, List.length_cons]
theorem caF_snoc : ∀ (xs : List (Option Str)) (s : Option Str) (l : Str), caF l (xs ++ [s]) = caF l xs ++ [xs.foldl (fun acc s => s.getD acc) l]
  | [], s, l => rfl
  | x :: xs, s, l => by rw [List.cons_append, caF, caF_snoc xs s, caF, List.foldl_cons] <;> rfl
theorem laF_snoc : ∀ (xs : List Str) (s l : Str), laF l (xs ++ [s]) = laF l xs ++ [xs.foldl (fun acc k => stepL k acc) l]
  | [], s, l => rfl
  | x :: xs, s, l => by rw [List.cons_append, laF, laF_snoc xs s, laF, List.foldl_cons] <;> rfl
theorem fmF_zip : ∀ (ks : List Str) (l : Str), fmF l ks = List.zipWith fmO ks (laF l ks)
  | [], l => rfl
  | k :: r, l => by rw [fmF, laF, List.zipWith_cons_cons, fmF_zip r]
theorem ca_cb (own : Str) : ∀ l : List (Option Str), (caF own l.reverse).reverse = cbF own l
  | [] => rfl
  | s :: r => by
    rw [List.reverse_cons, caF_snoc, List.reverse_append, List.reverse_singleton, List.foldl_reverse, ca_cb own r, cbF] <;> rfl
theorem caF_get : ∀ (A B : List (Option Str)) (s : Option Str) (l d : Str), (caF l (A ++ s :: B)).getD A.length d = A.foldl (fun acc s => s.getD acc) l
  | [], B, s, l, d => rfl
  | a :: A, B, s, l, d => by
    rw [List.cons_append, caF, List.length_cons, List.getD_cons_succ, caF_get A B s, List.foldl_cons]
theorem cbF_get (own : Str) : ∀ (A B : List (Option Str)) (s : Option Str) (d : Str), (cbF own (A ++ s :: B)).getD A.length d = B.foldr (fun s acc => s.getD acc) own
  | [], B, s, d => rfl
  | a :: A, B, s, d => by
    rw [List.cons_append, cbF, List.length_cons, List.getD_cons_succ, cbF_get own A B s]
/-! the law's: the nearest ahead and behind -/
def nearB (P : Nat → Bool) : Nat → Option Nat
  | 0 => none
  | n + 1 => if P n = true then some n else nearB P n
def nearA (P : Nat → Bool) : Nat → Nat → Option Nat
  | _, 0 => none
  | n, k + 1 => if P n = true then some n else nearA P (n + 1) k
def onO {α : Type} (d : α) (f : Nat → α) : Option Nat → α
  | none => d
  | some j => f j
theorem nearB_fold {α : Type} (same Q : Nat → Bool) (f : Nat → α) (d : α) : ∀ n, onO d f (nearB (fun j => same j && Q j) n) = ((List.range n).filter same).foldl (fun acc j => if Q j = true then f j else acc) d
  | 0 => rfl
  | n + 1 => by
    have ih := nearB_fold same Q f d n
    rw [nearB, List.range_succ, List.filter_append]
    cases hs : same n with
    | false =>
      rw [Bool.false_and, if_neg (by decide), List.filter_cons_of_neg (by rw [hs]; decide), List.filter_nil, List.append_nil]
      exact ih
    | true =>
      rw [Bool.true_and, List.filter_cons_of_pos hs, List.filter_nil, List.foldl_append]
      show onO d f (if Q n = true then some n else _) = if Q n = true then f n else _
      split
      · rfl
      · exact ih
theorem nearA_fold {α : Type} (same Q : Nat → Bool) (f : Nat → α) (d : α) : ∀ k n, onO d f (nearA (fun j => same j && Q j) n k) = ((List.range' n k).filter same).foldr (fun j acc => if Q j = true then f j else acc) d
  | 0, n => rfl
  | k + 1, n => by
    have ih := nearA_fold same Q f d k (n + 1)
    rw [nearA, List.range'_succ]
    cases hs : same n with
    | false =>
      rw [Bool.false_and, if_neg (by decide), List.filter_cons_of_neg (by rw [hs]; decide)]
      exact ih
    | true =>
      rw [Bool.true_and, List.filter_cons_of_pos hs, List.foldr_cons]
      show onO d f (if Q n = true then some n else _) = if Q n = true then f n else _
      split
      · rfl
      · exact ih
section
variable (st : List Nat) (kd : List Str) (fl : List Int)
def kdA (j : Nat) : Str := kd.getD j ""
def sameA (s j : Nat) : Bool := decide (st.getD j 0 = s)
def ownA (s : Nat) : Str := ownS (fl.getD s 0)
def firmA (at9 : Nat) : Str := if kdA kd at9 = fiS then onO (ownA fl (st.getD at9 0)) (kdA kd) (nearB (fun j => sameA st (st.getD at9 0) j && isL (kdA kd j)) at9) else kdA kd at9
def sideA (at9 : Nat) : Str := if isF (kdA kd at9) = true then firmA st kd fl at9 else
  (let b := onO (ownA fl (st.getD at9 0)) (firmA st kd fl) (nearB (fun j => sameA st (st.getD at9 0) j && isF (kdA kd j)) at9)
   let a := onO (ownA fl (st.getD at9 0)) (firmA st kd fl) (nearA (fun j => sameA st (st.getD at9 0) j && isF (kdA kd j)) (at9 + 1) (kd.length - (at9 + 1)))
   if b = a then b else ownA fl (st.getD at9 0))
def placesA (s : Nat) : List Nat := (List.range kd.length).filter (sameA st s)
end
theorem filter_split {same : Nat → Bool} : ∀ {n : Nat} {A B : List Nat} {p : Nat}, (List.range n).filter same = A ++ p :: B → p < n ∧ same p = true ∧ A = (List.range p).filter same ∧ B = (List.range' (p + 1) (n - (p + 1))).filter same := by
  intro n A B p h
  have hp : p ∈ (List.range n).filter same := by rw [h]; simp
  obtain ⟨h1, h2⟩ := List.mem_filter.mp hp
  have h1 := List.mem_range.mp h1
  refine ⟨h1, h2, ?_⟩
  have hs : (List.range n).filter same = (List.range p).filter same ++ p :: (List.range' (p + 1) (n - (p + 1))).filter same := by
    have e : List.range n = List.range p ++ p :: List.range' (p + 1) (n - (p + 1)) := by
      have z := List.range'_append_1 (s := 0) (m := p) (n := n - p)
      rw [Nat.zero_add, show p + (n - p) = n by omega] at z
      rw [List.range_eq_range', List.range_eq_range', ← z]
      have e2 : n - p = (n - (p + 1)) + 1 := by omega
      rw [e2, List.range'_succ]
    rw [e, List.filter_append, List.filter_cons_of_pos h2]
  have nd : ((List.range n).filter same).Nodup := List.nodup_range.filter _
  have h9 := h.symm.trans hs
  have nA : p ∉ A := fun hm => by
    rw [h] at nd
    exact (List.nodup_append.mp nd).2.2 p hm p List.mem_cons_self rfl
  have nR : p ∉ (List.range p).filter same := fun hm => by
    have := List.mem_range.mp (List.mem_filter.mp hm).1
    omega
  have key : ∀ (A R B S : List Nat), p ∉ A → p ∉ R → A ++ p :: B = R ++ p :: S → A = R ∧ B = S := by
    intro A
    induction A with
    | nil =>
      intro R B S _ hR he
      cases R with
      | nil => exact ⟨rfl, (List.cons.inj he).2⟩
      | cons r R => exact absurd (show p ∈ r :: R by rw [(List.cons.inj he).1]; exact List.mem_cons_self) hR
    | cons a A ih =>
      intro R B S hA hR he
      cases R with
      | nil => exact absurd (show p ∈ a :: A by rw [← (List.cons.inj he).1]; exact List.mem_cons_self) hA
      | cons r R =>
        obtain ⟨e1, e2⟩ := List.cons.inj he
        obtain ⟨h1, h2⟩ := ih R B S (fun h => hA (List.mem_cons_of_mem _ h)) (fun h => hR (List.mem_cons_of_mem _ h)) e2
        exact ⟨by rw [e1, h1], h2⟩
  exact key _ _ _ _ nA nR h9
section
variable {st : List Nat} {kd : List Str} {fl : List Int} {s : Nat}
def fmA (st : List Nat) (kd : List Str) (fl : List Int) (j : Nat) : Option Str := if isF (kdA kd j) = true then some (firmA st kd fl j) else none
theorem same_st {j : Nat} (h : sameA st s j = true) : st.getD j 0 = s := of_decide_eq_true h
theorem firm_prog : ∀ (B A : List Nat), placesA st kd s = A ++ B → fmF (A.foldl (fun acc j => stepL (kdA kd j) acc) (ownA fl s)) (B.map (kdA kd)) = B.map (fmA st kd fl)
  | [], A, _ => rfl
  | p :: B, A, h => by
    obtain ⟨h1, h2, h3, h4⟩ := filter_split h
    have ih := firm_prog B (A ++ [p]) (by rw [List.append_assoc]; exact h)
    rw [List.foldl_append] at ih
    rw [List.map_cons, List.map_cons, fmF]
    refine congr (congrArg _ ?_) ih
    have hsp := same_st h2
    unfold fmO fmA firmA
    rw [isF_eq, hsp]
    by_cases hl : isL (kdA kd p) = true
    · have hn : kdA kd p ≠ fiS := fun e => by rw [e, isL_fig] at hl; cases hl
      rw [if_pos hl, hl, Bool.true_or, if_pos rfl, if_neg hn]
    · rw [if_neg hl, show isL (kdA kd p) = false by simpa using hl, Bool.false_or]
      by_cases hf : kdA kd p = fiS
      · rw [if_pos hf, decide_eq_true hf, if_pos rfl, if_pos hf, nearB_fold, ← h3] <;> rfl
      · rw [if_neg hf, decide_eq_false hf, if_neg (by decide)]
theorem fm_get (j : Nat) (acc : Str) : (fmA st kd fl j).getD acc = if isF (kdA kd j) = true then firmA st kd fl j else acc := by
  unfold fmA
  split <;> rfl
/-- the program's sides of a stretch are the law's -/
theorem ss_law : ssF (ownA fl s) ((placesA st kd s).map (kdA kd)) = (placesA st kd s).map (sideA st kd fl) := by
  have hfm : fmF (ownA fl s) ((placesA st kd s).map (kdA kd)) = (placesA st kd s).map (fmA st kd fl) := firm_prog (placesA st kd s) [] (by rw [List.nil_append])
  unfold ssF
  rw [hfm, ca_cb, List.length_map]
  refine List.ext_getElem? fun i => ?_
  rw [List.getElem?_map, List.getElem?_map]
  by_cases hi : i < (placesA st kd s).length
  · rw [List.getElem?_range hi]
    have hsplit := split_at hi
    have hget := List.getElem?_eq_getElem hi
    rw [hget]
    generalize (placesA st kd s)[i] = p at hsplit hget
    have hA : ((placesA st kd s).take i).length = i := by rw [List.length_take]; omega
    generalize (placesA st kd s).take i = A at hsplit hA
    generalize (placesA st kd s).drop (i + 1) = B at hsplit
    subst hA
    obtain ⟨h1, h2, h3, h4⟩ := filter_split hsplit
    have hsp := same_st h2
    show some _ = some _
    refine congrArg some ?_
    rw [hsplit, List.map_append, List.map_cons]
    have l1 : A.length = (A.map (fmA st kd fl)).length := (List.length_map ..).symm
    have g1 : ((A.map (fmA st kd fl)) ++ fmA st kd fl p :: B.map (fmA st kd fl)).getD A.length none = fmA st kd fl p := by
      rw [l1, List.getD_eq_getElem?_getD, List.getElem?_append_right (Nat.le_refl _), Nat.sub_self] <;> rfl
    have g2 : (caF (ownA fl s) ((A.map (fmA st kd fl)) ++ fmA st kd fl p :: B.map (fmA st kd fl))).getD A.length (ownA fl s) = A.foldl (fun acc j => if isF (kdA kd j) = true then firmA st kd fl j else acc) (ownA fl s) := by
      have := caF_get (A.map (fmA st kd fl)) (B.map (fmA st kd fl)) (fmA st kd fl p) (ownA fl s) (ownA fl s)
      rw [← l1, List.foldl_map] at this
      rw [this]
      refine congrFun (congrFun (congrArg _ ?_) _) _
      funext acc j
      exact fm_get j acc
    have g3 : (cbF (ownA fl s) ((A.map (fmA st kd fl)) ++ fmA st kd fl p :: B.map (fmA st kd fl))).getD A.length (ownA fl s) = B.foldr (fun j acc => if isF (kdA kd j) = true then firmA st kd fl j else acc) (ownA fl s) := by
      have := cbF_get (ownA fl s) (A.map (fmA st kd fl)) (B.map (fmA st kd fl)) (fmA st kd fl p) (ownA fl s)
      rw [← l1, List.foldr_map] at this
      rw [this]
      refine congrFun (congrFun (congrArg _ ?_) _) _
      funext j acc
      exact fm_get j acc
    dsimp only
    rw [g1, g2, g3]
    unfold sideA
    rw [hsp, nearB_fold, nearA_fold, ← h3, ← h4]
    unfold fmA pick
    split
    · rename_i x hx
      split at hx
      · rename_i hf
        rw [if_pos hf]
        exact (Option.some.inj hx).symm
      · cases hx
    · rename_i hx
      split at hx
      · cases hx
      · rename_i hf
        rw [if_neg hf]
  · rw [List.getElem?_eq_none (by rw [List.length_range]; omega), List.getElem?_eq_none (by omega)]
    rfl
end
end Tx
/-! sides and levels: what each def gives -/
namespace Tx
open PySem PySem.Spec PyProof.Rows L2 Evl
def oSV : Option Str → V
  | none => .non
  | some s => .str s
abbrev dO (os : List (Option Str)) : D := .l (os.map fun o => .v (oSV o))
def R_own_side (xs : List D) (d : D) : Prop := ∃ g, xs = [di g] ∧ d = ds (ownS g)
theorem own_at (g : Int) : atI [ds eaS, ds weS] (g % 2) = some (ds (ownS g)) := by
  have h0 := Int.emod_nonneg g (show (2 : Int) ≠ 0 by decide)
  have h1 := Int.emod_lt_of_pos g (show (0 : Int) < 2 by decide)
  unfold ownS
  by_cases h : g % 2 = 0
  · rw [if_pos h, h] <;> rfl
  · have h2 : g % 2 = 1 := by omega
    rw [if_neg h, h2] <;> rfl
def R_letters_ahead (xs : List D) (d : D) : Prop := ∃ ks own, xs = [dS ks, ds own] ∧ ks.length ≤ 60 ∧ d = dS (laF own ks)
def R_firm_sides (xs : List D) (d : D) : Prop := ∃ ks own, xs = [dS ks, ds own] ∧ ks.length ≤ 60 ∧ d = dO (fmF own ks)
def R_carried (xs : List D) (d : D) : Prop := ∃ os own, xs = [dO os, ds own] ∧ os.length ≤ 60 ∧ d = dS (caF own os)
def R_stretch_sides (xs : List D) (d : D) : Prop := ∃ ks own, xs = [dS ks, ds own] ∧ ks.length ≤ 60 ∧ d = dS (ssF own ks)
def sidesF (T : List Nat) (b : Int) : List Str := (List.range T.length).map (sideA (stF b T) (T.map kindS) (flF b T))
def levA (st : List Nat) (kd : List Str) (fl : List Int) (j : Nat) : Int :=
  let g := fl.getD (st.getD j 0) 0
  let l := if sideA st kd fl j = ownS g then g else g + 1
  if kdA kd j = fiS then l + l % 2 else l
def levF (T : List Nat) (b : Int) : List Int := (List.range T.length).map (levA (stF b T) (T.map kindS) (flF b T))
def R_sides (xs : List D) (d : D) : Prop := ∃ T b, xs = [ds (tx T), di b] ∧ (T.length ≤ 60 ∧ 0 ≤ b ∧ b ≤ 1) ∧ d = dS (sidesF T b)
def R_levels (xs : List D) (d : D) : Prop := ∃ T b, xs = [ds (tx T), di b] ∧ (T.length ≤ 60 ∧ 0 ≤ b ∧ b ≤ 1) ∧ d = dI (levF T b)
def R_law_levels (xs : List D) (d : D) : Prop := R_levels xs d
structure ToldOk (T st : List Nat) (fl : List Int) : Prop where
  n : T.length ≤ 60
  s : st.length = T.length
  a : ∀ x ∈ st, x < fl.length
abbrev dTold (st : List Nat) (fl : List Int) : D := .t [dN st, dI fl]
theorem told_ok {T : List Nat} {b : Int} (hT : T.length ≤ 60) (hb : 0 ≤ b ∧ b ≤ 1) : ToldOk T (stF b T) (flF b T) := ⟨hT, (wfold_ok hb T).len, (wfold_ok hb T).all⟩
def nearF (T st : List Nat) (ks : List Str) (at9 : Nat) (step : Int) : Option Nat :=
  if step = -1 then nearB (fun j => sameA st (st.getD at9 0) j && inV (.str (kdA (T.map kindS) j)) (ks.map V.str)) at9
  else nearA (fun j => sameA st (st.getD at9 0) j && inV (.str (kdA (T.map kindS) j)) (ks.map V.str)) (at9 + 1) (T.length - (at9 + 1))
def R_law_near (xs : List D) (d : D) : Prop := ∃ T st fl at9 step ks, xs = [ds (tx T), dTold st fl, dn at9, di step, dS ks] ∧ (ToldOk T st fl ∧ at9 < T.length ∧ (step = -1 ∨ step = 1)) ∧ d = .v (onV (nearF T st ks at9 step))
def R_law_firm (xs : List D) (d : D) : Prop := ∃ T st fl at9, xs = [ds (tx T), dTold st fl, dn at9] ∧ (ToldOk T st fl ∧ at9 < T.length) ∧ d = ds (firmA st (T.map kindS) fl at9)
def R_law_side (xs : List D) (d : D) : Prop := ∃ T st fl at9, xs = [ds (tx T), dTold st fl, dn at9] ∧ (ToldOk T st fl ∧ at9 < T.length) ∧ d = ds (sideA st (T.map kindS) fl at9)
theorem kd_at {T : List Nat} {j : Nat} (h : j < T.length) : kdA (T.map kindS) j = kindS (T.getD j 0) := by
  unfold kdA
  rw [List.getD_eq_getElem?_getD, List.getElem?_map, List.getD_eq_getElem?_getD, List.getElem?_eq_getElem h] <;> rfl
theorem nearB_lt {P : Nat → Bool} : ∀ {n j : Nat}, nearB P n = some j → j < n ∧ P j = true
  | n + 1, j, h => by
    rw [nearB] at h
    split at h
    · rename_i hp
      have := Option.some.inj h
      subst this
      exact ⟨Nat.lt_succ_self _, hp⟩
    · have := nearB_lt h
      exact ⟨Nat.lt_succ_of_lt this.1, this.2⟩
theorem nearA_lt {P : Nat → Bool} : ∀ {k n j : Nat}, nearA P n k = some j → j < n + k
  | k + 1, n, j, h => by
    rw [nearA] at h
    split at h
    · have := Option.some.inj h
      omega
    · have := nearA_lt h
      omega
section
variable {K : PySem.W.Frag} {σ : L2.St} {H : Hp} {ta tb : TE} {st : List Nat} {fl : List Int}
theorem ev_told0 {j : Nat} (h : EvD K ta σ H (dTold st fl)) (hi : EvD K tb σ H (dn j)) (hj : j < st.length) : EvD K (tOp (rIxL K) (tOp (rIxT K) ta (tC (.int 0))) tb) σ H (dn (st.getD j 0)) :=
  ev_op (ev_op h ev_c (rd_ixT rfl)) hi (rd_ixL (atI_getD (f := dn) (ns := st) 0 (by omega) (by omega)))
theorem ev_told1 {j : Nat} (h : EvD K ta σ H (dTold st fl)) (hi : EvD K tb σ H (dn j)) (hj : j < fl.length) : EvD K (tOp (rIxL K) (tOp (rIxT K) ta (tC (.int 1))) tb) σ H (di (fl.getD j 0)) :=
  ev_op (ev_op h ev_c (rd_ixT rfl)) hi (rd_ixL (atI_getD (f := di) (ns := fl) 0 (by omega) (by omega)))
theorem ev_sign {T : List Nat} {j : Nat} (h : EvD K ta σ H (ds (tx T))) (hi : EvD K tb σ H (dn j)) (hl : T.length ≤ 60) (hj : j < T.length) : EvD K (tOp rIxS ta tb) σ H (ds (sg (T.getD j 0))) := ev_ixS h hi (by omega) (atI_getN (by omega) (by omega))
end
/-! == of lists of any texts -/
def rEqP (K : PySem.W.Frag) : R2 := fun x y H Q => ∃ d e, Dp K H x d ∧ Dp K H y e ∧ (d.plain = true ∧ d.depth ≤ 64) ∧ e.plain = true ∧ Q (.bl (PyData.eqv d e)) H
def rNeP (K : PySem.W.Frag) : R2 := fun x y H Q => ∃ d e, Dp K H x d ∧ Dp K H y e ∧ (d.plain = true ∧ d.depth ≤ 64) ∧ e.plain = true ∧ Q (.bl (!PyData.eqv d e)) H
theorem op_eqP {X : Cx} (hu : X.A.units + 64 < cLine) : OpR X (compareOp .Eq) (rEqP X.K) := by
  intro pins s σ H x y v u Q I rx ry h
  obtain ⟨d, e, hd, he, ⟨sd, dd⟩, se, q⟩ := h
  obtain ⟨as, r1⟩ := Dp.reads I d x v hd rx
  obtain ⟨bs, r2⟩ := Dp.reads I e y u he ry
  exact SeqAt.eq_plain r1 r2 sd se (by have := Nat.min_le_left d.depth e.depth; omega) ⟨.bl _, H, I, rfl, q⟩
theorem op_neP {X : Cx} (hu : X.A.units + 64 < cLine) : OpR X (compareOp .NotEq) (rNeP X.K) := by
  intro pins s σ H x y v u Q I rx ry h
  obtain ⟨d, e, hd, he, ⟨sd, dd⟩, se, q⟩ := h
  obtain ⟨as, r1⟩ := Dp.reads I d x v hd rx
  obtain ⟨bs, r2⟩ := Dp.reads I e y u he ry
  exact SeqAt.ne_plain r1 r2 sd se (by have := Nat.min_le_left d.depth e.depth; omega) ⟨.bl _, H, I, rfl, q⟩
theorem plainAll_str : ∀ l : List Str, PyData.plainAll (l.map PyData.str) = true
  | [] => rfl
  | s :: r => by rw [List.map_cons, PyData.plainAll, plainAll_str r] <;> rfl
theorem py_dS (l : List Str) : py (dS l) = .list (l.map PyData.str) := by
  rw [py, pys_map]
  refine congrArg _ (List.map_congr_left fun a _ => ?_)
  simp [py]
theorem good_dS (l : List Str) : good (dS l) = true := by
  rw [good]
  exact goods_map _ (fun a => by simp [good]) l
theorem eqv_dS (as bs : List Str) : PyData.eqv (py (dS as)) (py (dS bs)) = decide (as = bs) := by
  rw [py_dS, py_dS, PyData.eqv]
  exact eqvAll_map PyData.str (fun a b => by simp [PyData.eqv]; rfl) as bs
theorem plain_dS (l : List Str) : (py (dS l)).plain = true ∧ (py (dS l)).depth ≤ 64 := by
  rw [py_dS]
  refine ⟨by rw [PyData.plain]; exact plainAll_str l, ?_⟩
  have h := depthAll_map PyData.str 0 (fun _ => Nat.le_refl _) l
  show PyData.depthAll (l.map PyData.str) + 1 ≤ 64
  omega
theorem rd_eqP {K : PySem.W.Frag} {as bs : List Str} : RD K (rEqP K) (dS as) (dS bs) (db (decide (as = bs))) := fun H vx vy dx dy Q q => by
  rw [← eqv_dS] at q
  exact ⟨py (dS as), py (dS bs), dp_of (good_dS as) dx, dp_of (good_dS bs) dy, plain_dS as, (plain_dS bs).1, q _ H (Ex.refl H) Dat.v⟩
theorem rd_neP {K : PySem.W.Frag} {as bs : List Str} : RD K (rNeP K) (dS as) (dS bs) (db (!decide (as = bs))) := fun H vx vy dx dy Q q => by
  rw [← eqv_dS] at q
  exact ⟨py (dS as), py (dS bs), dp_of (good_dS as) dx, dp_of (good_dS bs) dy, plain_dS as, (plain_dS bs).1, q _ H (Ex.refl H) Dat.v⟩
end Tx
namespace Tx
open PySem PySem.Spec PyProof.Rows L2 Evl
theorem foldl_set_get {α : Type} (g : Nat → α) : ∀ (P : List Nat) (acc : List α) (j : Nat), j < acc.length → (P.foldl (fun acc p => acc.set p (g p)) acc)[j]? = if j ∈ P then some (g j) else acc[j]?
  | [], acc, j, _ => by simp
  | p :: P, acc, j, h => by
    rw [List.foldl_cons, foldl_set_get g P _ j (by rw [List.length_set]; exact h)]
    by_cases hj : j ∈ P
    · rw [if_pos hj, if_pos (List.mem_cons_of_mem _ hj)]
    · rw [if_neg hj, List.getElem?_set]
      by_cases hp : p = j
      · subst hp
        rw [if_pos rfl, if_pos h, if_pos List.mem_cons_self]
      · rw [if_neg hp, if_neg (fun hm => by
          rcases List.mem_cons.mp hm with e | e
          · exact hp e.symm
          · exact hj e)]
theorem foldl_set_len {α : Type} (g : Nat → α) : ∀ (P : List Nat) (acc : List α), (P.foldl (fun acc p => acc.set p (g p)) acc).length = acc.length
  | [], acc => rfl
  | p :: P, acc => by rw [List.foldl_cons, foldl_set_len g P, List.length_set]
/-- what is found when the stretches below m are done -/
def foundM (T st : List Nat) (fl : List Int) (m : Nat) : List (Option Str) := (List.range T.length).map fun j => if st.getD j 0 < m then some (sideA st (T.map kindS) fl j) else none
theorem foundM_len (T st : List Nat) (fl : List Int) (m : Nat) : (foundM T st fl m).length = T.length := by rw [foundM, List.length_map, List.length_range]
theorem foundM_zero (T st : List Nat) (fl : List Int) : D.l (T.map fun _ => d0) = dO (foundM T st fl 0) := by
  have e : foundM T st fl 0 = List.replicate T.length none := by
    have e1 : foundM T st fl 0 = (List.range T.length).map fun _ => none := List.map_congr_left fun j _ => if_neg (Nat.not_lt_zero _)
    rw [e1, List.map_const', List.length_range]
  rw [e, List.map_const']
  show _ = D.l (List.map (fun o => D.v (oSV o)) (List.replicate T.length none))
  rw [List.map_replicate] <;> rfl
theorem foundM_succ (T st : List Nat) (fl : List Int) (m : Nat) : (placesA st (T.map kindS) m).foldl (fun acc p => acc.set p (some (sideA st (T.map kindS) fl p))) (foundM T st fl m) = foundM T st fl (m + 1) := by
  refine List.ext_getElem? fun j => ?_
  by_cases hj : j < T.length
  · rw [foldl_set_get (fun p => some (sideA st (T.map kindS) fl p)) _ _ _ (by rw [foundM_len]; exact hj)]
    unfold foundM
    rw [List.getElem?_map, List.getElem?_map, List.getElem?_range hj]
    show _ = some (if st.getD j 0 < m + 1 then _ else _)
    by_cases hm : j ∈ placesA st (T.map kindS) m
    · have hs := same_st (List.mem_filter.mp hm).2
      rw [if_pos hm, if_pos (by omega)]
    · rw [if_neg hm]
      have hs : st.getD j 0 ≠ m := fun e => hm (List.mem_filter.mpr ⟨List.mem_range.mpr (by rw [List.length_map]; exact hj), decide_eq_true e⟩)
      show some (if st.getD j 0 < m then _ else _) = _
      by_cases hl : st.getD j 0 < m
      · rw [if_pos hl, if_pos (by omega)]
      · rw [if_neg hl, if_neg (by omega)]
  · rw [List.getElem?_eq_none (by rw [foldl_set_len, foundM_len]; omega), List.getElem?_eq_none (by rw [foundM_len]; omega)]
theorem foundM_all {T st : List Nat} {fl : List Int} (h : ToldOk T st fl) : (foundM T st fl fl.length).map oSV = ((List.range T.length).map (sideA st (T.map kindS) fl)).map V.str := by
  unfold foundM
  rw [List.map_map, List.map_map]
  refine List.map_congr_left fun j hj => ?_
  have hl : st.getD j 0 < fl.length := h.a _ (getD_mem 0 (by rw [h.s]; exact List.mem_range.mp hj))
  show oSV (if st.getD j 0 < fl.length then _ else _) = _
  rw [if_pos hl] <;> rfl
theorem places_lt {T st : List Nat} {m j : Nat} (h : j ∈ placesA st (T.map kindS) m) : j < T.length := by
  have := List.mem_range.mp (List.mem_filter.mp h).1
  rwa [List.length_map] at this
theorem places_kd {T st : List Nat} {m : Nat} : D.l ((placesA st (T.map kindS) m).map fun j => ds (kindS (T.getD j 0))) = dS ((placesA st (T.map kindS) m).map (kdA (T.map kindS))) := by
  show _ = D.l (List.map ds _)
  rw [List.map_map]
  refine congrArg D.l (List.map_congr_left fun j hj => ?_)
  show ds _ = ds _
  rw [kd_at (places_lt hj)]
theorem map_set_oSV (l : List (Option Str)) (j : Nat) (s : Str) : (l.map oSV).set j (.str s) = (l.set j (some s)).map oSV := by rw [List.map_set] <;> rfl
end Tx
namespace Tx
open PySem PySem.Spec PyProof.Rows L2 Evl
theorem Dats.n5 {K : PySem.W.Frag} {x y z z' z2 : D} {H : Hp} {vs : List V} (h : Dats K H [x, y, z, z', z2] vs) : ∃ v w u u' u2, vs = [v, w, u, u', u2] ∧ Dat K H x v ∧ Dat K H y w ∧ Dat K H z u ∧ Dat K H z' u' ∧ Dat K H z2 u2 := by
  obtain ⟨v, s, rfl, a, b⟩ := Dats.cons_iff.mp h
  obtain ⟨w, u, u', u2, rfl, c⟩ := b.n4
  exact ⟨v, w, u, u', u2, rfl, a, c⟩
end Tx
/-! zip(a text, a list) -/
namespace Tx
open PySem PySem.Spec PyProof.Rows L2 Evl
def ItzS (K : PySem.W.Frag) (x : Str) (b : Addr) : It :=
  ⟨fun i H => ∃ (ys : List V) (c : Nat) (y : V), SqL K H b ys ∧ x.cps[i]? = some c ∧ ys[i]? = some y,
    fun i H v H' => ∃ T c y, v = .ref T ∧ H T = none ∧ H' = upd H T (.tup [.str (sg c), y]) ∧ x.cps[i]? = some c ∧ ∀ ys, SqL K H b ys → ys[i]? = some y,
    fun i H => ∃ ys : List V, SqL K H b ys ∧ i ≤ x.cps.size ∧ i ≤ ys.length ∧ (i = x.cps.size ∨ i = ys.length)⟩
theorem strIter_at {h h' : Heap} {it : Addr} {n : String} {x : Str} {t : Tok} {i : Nat} (st : h.IsStrIter it n x t i) (k : ∀ o, h.get? it = some o → h'.get? it = some o) : h'.IsStrIter it n x t i := let ⟨o, ho, r⟩ := st; ⟨o, k o ho, r⟩
theorem turn_zipS {P : Program} {w : World} {K : PySem.W.Frag} {elts : List Expr} {kk : Nat} {tpos : Pos} {x : Str} {t : Tok} {b z TI TO i1 i2 : Addr} (D : ZipSep2 z TI TO i1 i2 [i1] [i2, b]) :
    Turn P w K (.Tuple elts kk tpos) (ItzS K x b) [z, TI, TO, i1, i2] z (fun i h => IsZip h z TI TO .none ∧ IsTupOf2 h TI (.ref i1) (.ref i2) ∧ (∃ x y, IsTupOf2 h TO x y) ∧ h.IsStrIter i1 (strIterType x) x t i ∧ h.IsListIter i2 b i) where
  mem := by simp
  obj := fun i h st d hd => by
    obtain ⟨hz, hTI, ⟨x0, y0, hTO⟩, ⟨o1, e1, _, d1⟩, ⟨o2, e2, _, d2⟩⟩ := st
    have e' : d = z ∨ d = TI ∨ d = TO ∨ d = i1 ∨ d = i2 := by simpa using hd
    rcases e' with q | q | q | q | q
    · rw [q]; exact ⟨_, hz, fun v q => nomatch q⟩
    · rw [q]; exact ⟨_, hTI, fun v q => nomatch q⟩
    · rw [q]; exact ⟨_, hTO, fun v q => nomatch q⟩
    · rw [q]; exact ⟨o1, e1, fun v q => by rw [d1] at q; cases q⟩
    · rw [q]; exact ⟨o2, e2, fun v q => by rw [d2] at q; cases q⟩
  keep := fun i h h' st k => by
    obtain ⟨hz, hTI, ⟨x0, y0, hTO⟩, h1, h2⟩ := st
    exact ⟨k z (by simp) _ hz, k TI (by simp) _ hTI, ⟨x0, y0, k TO (by simp) _ hTO⟩, strIter_at h1 fun o q => k i1 (by simp) o q, h2.at fun o q => k i2 (by simp) o q⟩
  item := by
    intro X hP hw hK hc i pins s σ H E I hf st hg
    subst hP hw hK
    obtain ⟨hz, hTI, ⟨x0, y0, hTO⟩, h1, h2⟩ := st
    obtain ⟨ys, c, y, hqy, hx, hy⟩ := hg
    obtain ⟨its2, rv2, p2, _⟩ := I.list hqy
    obtain ⟨w2, hw2, r2⟩ := rv2.get hy
    have hzl : z < s.heap.objs.size := Heap.lt_size hz
    have hh := (show X.A.in1.handled = none from I.ok.hd hc)
    have g1 : i < x.cps.size := (Array.getElem?_eq_some_iff.mp hx).1
    have g2 : i < its2.toArray.size := by rw [List.size_toArray]; exact (List.getElem?_eq_some_iff.mp hw2).1
    have n2 : b ≠ i2 := fun e => by
      obtain ⟨o, ho, hcl, _⟩ := h2
      obtain ⟨o', ho', hcl', _⟩ := p2.isList
      rw [e, ho] at ho'; cases ho'
      rw [hcl] at hcl'; exact absurd hcl' (by decide)
    refine wpAny_pyNext_zipD2_item D (Draws.text hh i1 x t) (Draws.list hh i2 b n2 its2.toArray) hz hTI hTO h1 ⟨h2, p2.isList⟩ g1 g2 fun x1 x2 h' tk q1 q2 z' TO' h1' h2' hT hsz hk => ?_
    obtain ⟨c1, u1, hc1, rfl⟩ := q1
    rw [hx] at hc1
    have ec : c = c1 := Option.some.inj hc1
    subst ec
    have ex2 : x2 = w2 := by
      have : its2[i]? = some x2 := by simpa using q2
      rw [hw2] at this; exact (Option.some.inj this).symm
    subst ex2
    refine ⟨_, rfl, wpAny_letOwnedTupleGo_zip (s := { s with heap := h', toks := tk }) z' fun h'' z'' sb => ?_⟩
    have hT2 : h''.get? s.heap.objs.size = some { cls := .type "tuple", data := .seq #[.str ⟨#[c]⟩ u1, x2] } := (sb.2 _ (Nat.ne_of_gt hzl)).trans hT
    have new : ObjOk X.prog X.w (upd H s.heap.objs.size (.tup [.str (sg c), y])) h'' s.heap.objs.size (.tup [.str (sg c), y]) :=
      ⟨by show 2 ≤ sizeLine; decide, [.str ⟨#[c]⟩ u1, x2], .cons ⟨u1, rfl⟩ (.cons r2 .nil), ⟨_, hT2, rfl, _, rfl⟩⟩
    have I1 : Inv X pins σ (upd H s.heap.objs.size (.tup [.str (sg c), y])) { s with heap := h'', toks := tk } :=
      I.turnedNew (t' := tk) (ch := [z, TI, TO, i1, i2]) (fun c o hb q => (sb.2 c (fun q' => hb (by simp [q']))).trans (hk c o (fun q' => hb (by simp [q'])) (fun q' => hb (by simp [q'])) (fun q' => hb (by simp [q'])) (fun q' => hb (by simp [q'])) q)) hf (Nat.le_refl _) new
    refine ⟨.ref s.heap.objs.size, _, I1, rfl, ⟨_, c, y, rfl, I.hok.fresh (Nat.le_refl _), rfl, hx, fun l hl => by rw [I.list_inj hl hqy]; exact hy⟩, ⟨z'', ?_, ⟨.str ⟨#[c]⟩ u1, x2, ?_⟩, ?_, ?_⟩, fun d hcm => ?_⟩
    · exact (sb.2 _ D.TIz).trans (hk _ _ D.TIz D.TITO D.TIi1 D.TIi2 hTI)
    · exact (sb.2 _ D.TOz).trans TO'
    · exact strIter_at h1' fun o q => (sb.2 _ D.zi1.symm).trans q
    · exact h2'.1.at fun o q => (sb.2 _ D.zi2.symm).trans q
    · have hlt : d < s.heap.objs.size := by
        have e' : d = z ∨ d = TI ∨ d = TO ∨ d = i1 ∨ d = i2 := by simpa using hcm
        rcases e' with q | q | q | q | q
        · rw [q]; exact hzl
        · rw [q]; exact Heap.lt_size hTI
        · rw [q]; exact Heap.lt_size hTO
        · rw [q]; obtain ⟨_, e1, _⟩ := h1; exact Heap.lt_size e1
        · rw [q]; obtain ⟨_, e2, _⟩ := h2; exact Heap.lt_size e2
      rw [upd_ne (Nat.ne_of_lt hlt)]
      exact (hf d hcm).1
  done := by
    intro X hP hw hK hc i pins s σ H E I hf st hg
    subst hP hw hK
    obtain ⟨hz, hTI, ⟨x0, y0, hTO⟩, h1, h2⟩ := st
    obtain ⟨ys, hqy, l1, l2, hend⟩ := hg
    obtain ⟨its2, rv2, p2, _⟩ := I.list hqy
    have hh := (show X.A.in1.handled = none from I.ok.hd hc)
    have e2 := rv2.length
    have n2 : b ≠ i2 := fun e => by
      obtain ⟨o, ho, hcl, _⟩ := h2
      obtain ⟨o', ho', hcl', _⟩ := p2.isList
      rw [e, ho] at ho'; cases ho'
      rw [hcl] at hcl'; exact absurd hcl' (by decide)
    refine wpAny_pyNext_zipD2_end D (Draws.text hh i1 x t) (Draws.list hh i2 b n2 its2.toArray) hz hTI hTO h1 ⟨h2, p2.isList⟩ l1 (by rw [List.size_toArray]; omega) (hend.imp id fun h => by rw [List.size_toArray]; omega) fun h' tk hk => ?_
    exact ⟨rfl, I.turnedL (t' := tk) (ch := [z, TI, TO, i1, i2]) (fun c o hb q =>
      hk c o (fun q' => hb (by simp [q'])) (fun q' => hb (by simp [q'])) (fun q' => hb (by simp [q'])) (fun q' => hb (by simp [q'])) q) hf⟩
  self := fun A i s Q E st h => wpAny_pyIter_zip st.1 h
def iZipS (K : PySem.W.Frag) (ta : TA) : TI := fun σ H R => ta σ H fun vs H1 => ∃ x b ys, vs = [.str x, .ref b] ∧ SqL K H1 b ys ∧ R (ItzS K x b) H1
theorem pi_zipSL {X : Cx} {e e2 : Expr} {ta : TA} {p pos tpos : Pos} {elts : List Expr} {kk : Nat} (hg : Gl X "zip") (hm : X.mg "zip" = none) (ha : PA X [e, e2] ta)
    (hs : starEach [e, e2] X.env = (false, eval e X.env) :: starEach [e2] X.env := by rfl) (hpl : (backTo pos (starEach [e2] X.env)).any (·.1) = false := by rfl) :
    PI X (.Tuple elts kk tpos) (.Call (.Name "zip" p) [e, e2] [] pos) (iZipS X.K ta) := by
  refine ⟨fun pins s σ H R I h => ?_⟩
  refine Call_ (ld_blt I hg hm PyProof.Rows.boot_zip (PyProof.Rows.callWith_type1 (thn (ha.run pos pins s σ H _ I h) fun us s1 ⟨vs, H1, I1, r1, q1⟩ => ?_) hs hpl))
  obtain ⟨x, b, ys, ex, hqy, q⟩ := q1
  subst ex
  cases r1 with
  | cons r rr =>
    cases rr with
    | cons r' rr =>
      cases rr
      obtain ⟨t, rfl⟩ := r
      cases r'
      obtain ⟨its2, rv2, p2, _⟩ := I1.list hqy
      have lb : b < s1.heap.objs.size := p2.lt
      refine zip_begins2 (begins_text x t) (begins_list b its2.toArray) trivial p2.isList fun h' hz hTI hTO h1 h2 hsz hk => wpAny_pyIter_zip hz ?_
      have I2 : Inv X pins σ H1 { s1 with heap := h' } := I1.kept (t' := s1.toks) hk
      have sep := zip_sep2 (N := s1.heap.objs.size) (fp1 := []) (fp2 := [b]) (fun x hx => nomatch hx) (fun x hx => by rw [List.mem_singleton.mp hx]; exact lb)
      refine ⟨s1.heap.objs.size + 4, [s1.heap.objs.size + 4, s1.heap.objs.size + 2, s1.heap.objs.size + 3, s1.heap.objs.size, s1.heap.objs.size + 1], _, _, H1, rfl, I2, turn_zipS (t := t) sep, ⟨hz, hTI, ⟨_, _, hTO⟩, ⟨_, h1, rfl, rfl⟩, ⟨_, h2, rfl, rfl⟩⟩, fun d hcm => ?_, q⟩
      have hle : s1.heap.objs.size ≤ d := by
        have e' : d = s1.heap.objs.size + 4 ∨ d = s1.heap.objs.size + 2 ∨ d = s1.heap.objs.size + 3 ∨ d = s1.heap.objs.size ∨ d = s1.heap.objs.size + 1 := by simpa using hcm
        rcases e' with z | z | z | z | z
        · rw [z]; exact Nat.le_add_right _ _
        · rw [z]; exact Nat.le_add_right _ _
        · rw [z]; exact Nat.le_add_right _ _
        · rw [z]; exact Nat.le_refl _
        · rw [z]; exact Nat.le_add_right _ _
      exact I1.fpOk hle (I1.hok.fresh hle)
section
variable {K : PySem.W.Frag} {σ : L2.St} {H : Hp} {De : Ends} {tu tz : TS} {p : Addr}
/-- for i, j in zip(a text, a name's flat list) -/
theorem q_forZS {α : Type} {f : α → V} {ns : List α} {T : List Nat} {a b i j : Nat} (hl : T.length = ns.length) (ha : σ[a]? = some (some (.str (tx T)))) (hb : σ[b]? = some (some (.ref p))) (hp : SqL K H p (ns.map f)) (Pv : Nat → L2.St → Hp → Prop) (h0 : Pv 0 σ H) (hG : ∀ m σ' H', Pv m σ' H' → SqL K H' p (ns.map f))
    (hs : ∀ m c x σ' H' H'', T[m]? = some c → ns[m]? = some x → Pv m σ' H' → Ex H' H'' → tu { De with nx := Pv (m + 1), ct := Pv (m + 1), bk := tz De } ((σ'.set i (some (.str (sg c)))).set j (some (f x))) H'') (hd : ∀ σ' H', Pv ns.length σ' H' → tz De σ' H') :
    tSeq (tFor (iZipS K (tCons (tVar a) (tCons (tVar b) tNil))) (gTup K 2 (gCons (gName i) (gCons (gName j) gNil))) tu) tz De σ H := by
  have hsz : (tx T).cps.size = ns.length := by rw [← hl]; exact List.size_toArray ..
  have wk : Walk (ItzS K (tx T) p) ns.length (fun H => SqL K H p (ns.map f)) (YPair (fun m => (T[m]?).map fun c => V.str (sg c)) (fun m => (ns.map f)[m]?)) := by
    refine ⟨fun m _ hm g => ⟨ns.map f, T[m], (ns.map f)[m]'(by rw [List.length_map]; exact hm), g, by simp [tx, hl ▸ hm], List.getElem?_eq_getElem _⟩, fun _ g => ⟨ns.map f, g, by rw [hsz]; exact Nat.le_refl _, by rw [List.length_map]; exact Nat.le_refl _, .inl hsz.symm⟩, fun m H v H' hm g y => ?_⟩
    obtain ⟨T', c, u, h1, h2, h3, h4, h5⟩ := y
    have hc : T[m]? = some c := by simpa [tx] using h4
    exact ⟨T', .str (sg c), u, h1, h2, h3, by show Option.map _ (T[m]?) = _; rw [hc] <;> rfl, h5 _ g⟩
  refine ⟨.str (tx T), ha, .ref p, hb, tx T, p, _, rfl, hp, for_pair (De := { De with nx := tz De }) wk Pv h0 (fun m σ' H' _ h => hG m _ _ h) (fun m x y σ' H' H'' hm hx hy h e' => ?_) hd⟩
  rw [List.getElem?_map] at hy
  have hmT : m < T.length := by omega
  rw [List.getElem?_eq_getElem hmT] at hx
  rw [List.getElem?_eq_getElem hm] at hy
  have e1 : V.str (sg T[m]) = x := Option.some.inj hx
  have e2 : f ns[m] = y := Option.some.inj hy
  subst e1 e2
  exact hs m _ _ σ' H' H'' (List.getElem?_eq_getElem hmT) (List.getElem?_eq_getElem hm) h e'
end
end Tx
/-! the view -/
namespace Tx
open PySem PySem.Spec PyProof.Rows L2 Evl
theorem levF_lv {T : List Nat} {b : Int} (hT : T.length ≤ 60) (hb : 0 ≤ b ∧ b ≤ 1) : Lv (levF T b) := by
  refine ⟨by unfold levF; rw [List.length_map, List.length_range]; exact hT, fun x hx => ?_⟩
  obtain ⟨j, hj, rfl⟩ := List.mem_map.mp hx
  have hj := List.mem_range.mp hj
  have hok := wfold_ok hb T
  have hst : (stF b T).getD j 0 < (flF b T).length := hok.all _ (getD_mem 0 (by show j < (wfold b T).found.length; rw [hok.len]; exact hj))
  have hg := hok.deep _ (getD_mem (l := flF b T) 0 hst)
  have hg0 : 0 ≤ (flF b T).getD ((stF b T).getD j 0) 0 ∧ (flF b T).getD ((stF b T).getD j 0) 0 ≤ 6 := hg
  unfold levA
  dsimp only
  generalize (flF b T).getD ((stF b T).getD j 0) 0 = g at hg0
  split <;> split <;> omega
theorem levF_len (T : List Nat) (b : Int) : (levF T b).length = T.length := by unfold levF; rw [List.length_map, List.length_range]
def viewF (T : List Nat) (b : Int) : List Nat := (orderF (levF T b)).map fun p => T.getD p 0
theorem viewF_len (T : List Nat) (b : Int) : (viewF T b).length = T.length := by unfold viewF; rw [List.length_map, orderF_len, levF_len]
def R_view (xs : List D) (d : D) : Prop := ∃ T b, xs = [ds (tx T), di b] ∧ (T.length ≤ 60 ∧ 0 ≤ b ∧ b ≤ 1) ∧ d = ds (tx (viewF T b))
theorem viewF_get {T : List Nat} {b : Int} {i : Nat} (h : i < T.length) : (viewF T b).getD i 0 = T.getD ((orderF (levF T b)).getD i 0) 0 := by
  have hl : i < (orderF (levF T b)).length := by rw [orderF_len, levF_len]; exact h
  unfold viewF
  rw [List.getD_eq_getElem?_getD, List.getElem?_map, List.getElem?_eq_getElem hl, List.getD_eq_getElem?_getD (l := orderF (levF T b)), List.getElem?_eq_getElem hl] <;> rfl
theorem range_getD (T : List Nat) : (List.range T.length).map (fun i => T.getD i 0) = T := map_getD_range 0 T
theorem view_back {T : List Nat} {b : Int} (hT : T.length ≤ 60) (hb : 0 ≤ b ∧ b ≤ 1) : (orderF (seenRow (levF T b))).map (fun i => (viewF T b).getD i 0) = T := by
  have h := congrArg (List.map fun p => T.getD p 0) (order_again (levF_lv hT hb))
  rw [List.map_map, levF_len, range_getD] at h
  refine Eq.trans (List.map_congr_left fun i hi => ?_) h
  have hi := orderF_lt hi
  rw [seenRow_len, levF_len] at hi
  exact viewF_get hi
theorem view_seen {T : List Nat} {b : Int} (hT : T.length ≤ 60) (hb : 0 ≤ b ∧ b ≤ 1) : (seenF (levF T b)).map (fun i => (viewF T b).getD i 0) = T := by
  rw [seenF_idx, List.map_map, levF_len]
  refine Eq.trans (List.map_congr_left fun a ha => ?_) (range_getD T)
  have ha : a < (levF T b).length := by rw [levF_len]; exact List.mem_range.mp ha
  have h1 := idx_get (orderF_mem ha)
  have h2 := (List.getElem?_eq_some_iff.mp h1).1
  rw [orderF_len, levF_len] at h2
  show (viewF T b).getD ((orderF (levF T b)).idxOf a) 0 = _
  rw [viewF_get h2, List.getD_eq_getElem?_getD (l := orderF (levF T b)), h1] <;> rfl
theorem isF_letters (k : Str) : isL k = (decide (k = eaS) || decide (k = weS)) := by
  unfold isL inV
  simp only [List.map_cons, List.map_nil, List.any_cons, List.any_nil, Bool.or_false]
  show (eaS == k || weS == k) = _
  rw [Bool.eq_iff_iff]
  simp only [Bool.or_eq_true, beq_iff_eq, decide_eq_true_eq]
  exact ⟨fun h => h.imp Eq.symm Eq.symm, fun h => h.imp Eq.symm Eq.symm⟩
theorem ea_ne_we : eaS ≠ weS := by decide +kernel
theorem ea_ne_fi : eaS ≠ fiS := by decide +kernel
theorem we_ne_fi : weS ≠ fiS := by decide +kernel
/-- the parities -/
theorem lev_parity (st : List Nat) (kd : List Str) (fl : List Int) (j : Nat) : (kdA kd j = eaS ∨ kdA kd j = fiS → levA st kd fl j % 2 = 0) ∧ (kdA kd j = weS → levA st kd fl j % 2 = 1) := by
  have hside : ∀ k, kdA kd j = k → isL k = true → k ≠ fiS → sideA st kd fl j = k := fun k hk hl hn => by
    unfold sideA firmA
    rw [isF_eq, hk, hl, Bool.true_or, if_pos rfl, if_neg hn]
  have hown : ∀ g : Int, (eaS = ownS g ↔ g % 2 = 0) ∧ (weS = ownS g ↔ ¬ g % 2 = 0) := fun g => by
    unfold ownS
    by_cases h : g % 2 = 0
    · rw [if_pos h]
      exact ⟨⟨fun _ => h, fun _ => rfl⟩, ⟨fun e => absurd e.symm ea_ne_we, fun e => absurd h e⟩⟩
    · rw [if_neg h]
      exact ⟨⟨fun e => absurd e ea_ne_we, fun e => absurd e h⟩, ⟨fun _ => h, fun _ => rfl⟩⟩
  refine ⟨fun h => ?_, fun h => ?_⟩
  · unfold levA
    dsimp only
    rcases h with h | h
    · rw [hside eaS h (by rw [isF_letters]; simp) ea_ne_fi, h, if_neg ea_ne_fi]
      split
      · rename_i e; exact (hown _).1.mp e
      · rename_i e
        have := mt (hown _).1.mpr e
        omega
    · rw [h, if_pos rfl]
      generalize (if sideA st kd fl j = _ then _ else _ : Int) = l
      omega
  · unfold levA
    dsimp only
    rw [hside weS h (by rw [isF_letters]; simp) we_ne_fi, h, if_neg we_ne_fi]
    split
    · rename_i e
      have := (hown _).2.mp e
      omega
    · rename_i e
      have : ¬ ¬ _ := mt (hown _).2.mpr e
      omega
def isEF (k : Str) : Bool := inV (.str k) ([eaS, fiS].map V.str)
theorem isEF_or {k : Str} (h : isEF k = true) : k = eaS ∨ k = fiS := by
  unfold isEF inV at h
  simp only [List.map_cons, List.map_nil, List.any_cons, List.any_nil, Bool.or_false] at h
  have h : (eaS == k || fiS == k) = true := h
  simp only [Bool.or_eq_true, beq_iff_eq] at h
  exact h.imp Eq.symm Eq.symm
theorem dT_dS (T : List Nat) : dT T = dS (T.map sg) := by
  show _ = D.l (List.map ds (T.map sg))
  rw [List.map_map] <;> rfl
theorem lc_signs {ns : List Nat} {f : Nat → Nat} {T : List Nat} (h : ns.map f = T) : D.l (ns.map fun p => ds (sg (f p))) = dT T := by
  subst h
  show _ = D.l (List.map (fun c => D.v (.str (sg c))) (ns.map f))
  rw [List.map_map] <;> rfl
theorem tx_ne {S T : List Nat} (h : S = T) : decide (tx S = tx T) = true := decide_eq_true (by rw [h])
end Tx
/-! list(reversed(a text)) -/
namespace Tx
open PySem PySem.Spec PyProof.Rows L2 Evl RT
theorem norev_str : typeLookup (.type "str") "__reversed__" = pure none := by rw [typeLookup_type, builtinLookup_eq_fast]; kernel_rfl
theorem get_str : typeLookup (.type "str") "__getitem__" = pure (some (.builtin "str.__getitem__")) := by rw [typeLookup_type, builtinLookup_eq_fast]; kernel_rfl
theorem nolen_rs : typeLookup (.type "reversed") "__len__" = pure none := by rw [typeLookup_type, builtinLookup_eq_fast]; kernel_rfl
theorem hint_rs : typeLookup (.type "reversed") "__length_hint__" = pure (some (.builtin "reversed.__length_hint__")) := by rw [typeLookup_type, builtinLookup_eq_fast]; kernel_rfl
theorem entry_rs_hint : entryFor table "reversed.__length_hint__" = some Builtin.«reversed.__length_hint__» := entryFor_of_tree (by kernel_rfl)
def rsObj (x : Str) (t : Tok) (i : Int) : Obj := { cls := .type "reversed", data := .fields #[.str x t, rawInt i] }
/-- reversed(a text), the next place i -/
def IsRs (h : Heap) (a : Addr) (x : Str) (t : Tok) (i : Int) : Prop := ∃ o, h.get? a = some o ∧ o.cls = .type "reversed" ∧ o.data = .fields #[.str x t, rawInt i]
theorem IsRs.at {h h' : Heap} {a : Addr} {x : Str} {t : Tok} {i : Int} (st : IsRs h a x t i) (e : ∀ o, h.get? a = some o → h'.get? a = some o) : IsRs h' a x t i := let ⟨o, ho, r⟩ := st; ⟨o, e _ ho, r⟩
section
variable {prog : Program} {w : World} {A : Around} {E : Value → Shared → Prop} {s : Shared} {x : Str} {t : Tok}
theorem IsRs.typeIs {a : Addr} {i : Int} (st : IsRs s.heap a x t i) : s.TypeIs (.ref a) "reversed" := let ⟨o, ho, hc, _⟩ := st; ⟨o, ho, hc⟩
theorem code_reversed_str {Q₁ : Value → Shared → Prop} (hz : x.length ≤ 100000)
    (h : Q₁ (.ref s.heap.objs.size) { s with heap := s.heap.push (rsObj x t ((x.length : Int) - 1)), toks := s.toks + 1 + 1 }) :
    codeAny (model prog w) A (.call (.builtin "reversed.__new__") ⟨[.type "reversed", .str x t], []⟩) (wants Q₁ E) s := by
  have hT : s.TypeIs (.str x t) "str" := rfl
  refine codeAny_of_tree ?_
  show wpAny _ A.in1 (do checkBuiltinCall "reversed.__new__" ⟨[.type "reversed", .str x t], []⟩; again (.builtin "reversed.__new__" ⟨[.type "reversed", .str x t], []⟩)) _ _ s
  refine wpAny_bind (wpAny_of_eq (F.newCall_reversed_1 _) (wpAny_pure ⟨plainId_quiet F.plain_reversed_new _, codeAny_builtin F.entry_reversed_new ?_⟩))
  rw [Around.under_plainId F.plain_reversed_new _]
  unfold Builtin.«reversed.__new__»
  refine wpAny_bind (wpAny_of_eq (newClass_reversed _) ?_)
  try dsimp only
  refine wpAny_bind (wpAny_of_eq (a := ()) (by first | rfl | kernel_rfl) ?_)
  try dsimp only
  refine wpAny_bind (wpAny_of_eq (a := ()) (by first | rfl | kernel_rfl) ?_)
  try dsimp only
  refine wpAny_bind (wpAny_specialOf hT norev_str ?_)
  try dsimp only
  refine wpAny_bind ?_
  wp_delta
  refine wpAny_bind (wpAny_isInstance (T := "str") (U := "dict") (b := false) hT (by rw [isSubtype_type]; kernel_rfl) ?_)
  try dsimp only
  try rw [if_neg Bool.false_ne_true]
  try dsimp only
  refine wpAny_bind (wpAny_specialOf hT get_str ?_)
  try dsimp only
  try rw [if_pos (by decide +kernel)]
  refine wpAny_pure ?_
  try dsimp only
  try rw [if_neg (by decide)]
  try dsimp only
  refine wpAny_bind (PyProof.Rows.len_str (by omega) ?_)
  refine wpAny_bind (wpAny_of_eq (a := some ((x.length : Nat) : Int)) rfl ?_)
  try dsimp only
  refine wpAny_bind ?_
  show wpAny _ _ (newObj (.type "reversed") (.fields #[.str x t, rawInt ((x.length : Int) - 1)])) _ _ _
  refine wpAny_newObj_type ?_
  exact wpAny_pure h
theorem call_reversed_str {Q : Value → Shared → Prop} (hz : x.length ≤ 100000)
    (h : Q (.ref s.heap.objs.size) { s with heap := s.heap.push (rsObj x t ((x.length : Int) - 1)), toks := s.toks + 1 + 1 }) : wpAny (model prog w) A (call (.type "reversed") [.str x t]) Q E s := by
  refine callType_codes (Q₁ := fun obj s₁ => s₁.TypeIs obj "reversed" ∧ Q obj s₁) called_rt (F.typeCall_reversed_1 _) F.entry_object_init
    (code_reversed_str (A := A.in1) hz ⟨⟨_, Heap.get?_push_size _ rfl, rfl⟩, h⟩) fun obj s₁ h₁ => ?_
  exact ⟨h₁.1, F.args_object_init_2 obj _, object_init_meets called_rt.init.lookup called_rt.made (by decide) prog w A.in1 _ s₁ ⟨h₁.1, rfl, h₁.2⟩⟩
theorem next_rs_item {it : Addr} {i c : Nat} {Q : Option Value → Shared → Prop} (hit : IsRs s.heap it x t (i : Int)) (hx : x.cps[i]? = some c) (hsz : x.length ≤ 100000)
    (hQ : ∀ h' k u, IsRs h' it x t ((i : Int) - 1) → Heap.SameBut it s.heap h' → Q (some (.str ⟨#[c]⟩ u)) { s with heap := h', toks := k }) : wpAny (model prog w) A (pyNext (.ref it)) Q E s := by
  obtain ⟨o, ho, hc, hd⟩ := id hit
  have hi : i < x.cps.size := (Array.getElem?_eq_some_iff.mp hx).1
  have hl : x.cps.size = x.length := rfl
  have hT : s.TypeIs (.str x t) "str" := rfl
  unfold pyNext
  refine wpAny_bind (wpAny_attempt (wpAny_callSpecial?_slot (name := Str.ofString "__next__") hit.typeIs slot_rt_next
    (wpAny_call_entry slot_rt_next hit.typeIs entry_rt_next ?_ (args_rt_next _))))
  unfold Builtin.«reversed.__next__»
  refine wpAny_bind (wpAny_of_eq (a := (Value.ref it, [])) rfl ?_)
  try dsimp only
  refine wpAny_bind (wpAny_field ho hd (x := .str x t) rfl ?_)
  try dsimp only
  refine wpAny_bind (wpAny_field ho hd (x := rawInt (i : Int)) rfl ?_)
  show wpAny _ _ (if (i : Int) < 0 then _ else _) _ _ s
  rw [if_neg (by omega)]
  try dsimp only
  refine wpAny_bind (wpAny_specialOf hT get_str ?_)
  try dsimp only
  try rw [if_neg (by decide)]
  try dsimp only
  refine wpAny_bind (wpAny_mkInt ?_)
  refine wpAny_bind (wpAny_attempt ?_)
  have fin : seqIndex? (i : Int) x.length = some i := seqIndex_of (by omega) (by omega)
  refine PyProof.Rows.getItem_str (s := { s with toks := s.toks + 1 }) (c := c) (by
    have e1 : decide ((i : Int) < -(2 ^ 63 : Int)) = false := decide_eq_false (by omega)
    have e2 : decide ((i : Int) ≥ 2 ^ 63) = false := decide_eq_false (by omega)
    rw [e1, e2, Bool.or_false]) (by rw [fin]; exact hx) ?_
  try dsimp only
  refine wpAny_bind (wpAny_field (s := { s with toks := s.toks + 1 + 1 }) ho hd (x := rawInt (i : Int)) rfl ?_)
  try dsimp only
  refine wpAny_bind (wpAny_setField (s := { s with toks := s.toks + 1 + 1 }) ho hd (by simp) ?_)
  first
  | refine wpAny_pure ⟨_, rfl, wpAny_pure (hQ _ _ _ ?_ (Heap.SameBut.update ..))⟩
  | refine wpAny_bind (wpAny_pure (wpAny_pure ⟨_, rfl, wpAny_pure (hQ _ _ _ ?_ (Heap.SameBut.update ..))⟩))
  exact ⟨_, Heap.get?_update_self _ ho (Obj.isFreed_of_fields (Obj.data_mapFields hd _)), (Obj.cls_mapFields ..).trans hc, by
    rw [Obj.data_mapFields hd]; simp⟩
theorem next_rs_end {it : Addr} {Q : Option Value → Shared → Prop} (hh : A.handled = none) (hit : IsRs s.heap it x t (-1))
    (hQ : ∀ h', Heap.ExtBut it s.heap h' → Q none { s with heap := h' }) : wpAny (model prog w) A (pyNext (.ref it)) Q E s := by
  obtain ⟨o, ho, hc, hd⟩ := id hit
  unfold pyNext
  refine wpAny_bind (wpAny_attempt (wpAny_callSpecial?_slot (name := Str.ofString "__next__") hit.typeIs slot_rt_next
    (wpAny_call_entry slot_rt_next hit.typeIs entry_rt_next ?_ (args_rt_next _))))
  unfold Builtin.«reversed.__next__»
  refine wpAny_bind (wpAny_of_eq (a := (Value.ref it, [])) rfl ?_)
  try dsimp only
  refine wpAny_bind (wpAny_field ho hd (x := .str x t) rfl ?_)
  try dsimp only
  refine wpAny_bind (wpAny_field ho hd (x := rawInt (-1)) rfl ?_)
  show wpAny _ _ (if (-1 : Int) < 0 then _ else _) _ _ s
  rw [if_pos (by decide)]
  try dsimp only
  refine wpAny_bind (wpAny_rule ?_)
  refine wpAny_bind ?_
  wp_delta
  refine wpAny_bind (wpAny_setField ho hd (by simp) ?_)
  have ho2 := Heap.get?_update_self (Obj.mapFields (·.setIfInBounds 1 (rawInt (-1)))) ho (Obj.isFreed_of_fields (Obj.data_mapFields hd _))
  refine wpAny_setField (s := { s with heap := s.heap.update it (Obj.mapFields (·.setIfInBounds 1 (rawInt (-1)))) }) ho2 (Obj.data_mapFields hd _) (by simp) ?_
  try dsimp only
  first
  | show wpAny _ _ (newExc (.type "StopIteration") [] >>= _) _ _ _
  | (refine wpAny_bind ?_; show wpAny _ _ (newExc (.type "StopIteration") [] >>= _) _ _ _)
  | (refine wpAny_bind ?_; wp_delta; show wpAny _ _ (newExc (.type "StopIteration") [] >>= _) _ _ _)
  refine wpAny_bind ?_
  simp only [newExc, newTuple]
  refine wpAny_bind (wpAny_newObj_type ?_ (by size_fits))
  refine wpAny_bind (m := firstArgMember _ _) (wpAny_of_eq (a := Value.none) (by first | rfl | (simp only [firstArgMember]; rfl)) ?_)
  refine wpAny_newObj_type ?_ (by size_fits)
  simp only [raiseNew]
  refine wpAny_bind (wpAny_handled ?_)
  first | rw [show A.in1.handled = none from hh] | rw [hh]
  refine wpAny_bind (wpAny_pure (wpAny_throw ?_))
  refine wpAny_bind (wpAny_isInstance (T := "StopIteration") (b := true) ⟨_, Heap.get?_push_size _ rfl, rfl⟩ isSubtype_stop ?_)
  refine wpAny_pure (hQ _ ?_)
  refine ((?_ : Heap.ExtBut it s.heap _).push _).push _
  exact fun b ob hb e => (Heap.get?_update_other _ _ (Ne.symm hb)).trans ((Heap.get?_update_other _ _ (Ne.symm hb)).trans e)
theorem iter_rs {it : Addr} {i : Int} {Q : Value → Shared → Prop} (hit : IsRs s.heap it x t i) (h : Q (.ref it) s) : wpAny (model prog w) A (pyIter (.ref it)) Q E s := by
  refine wpAny_pyIter_slot hit.typeIs slot_rt_iter (wpAny_call_entry slot_rt_iter hit.typeIs entry_rt_iter ?_ (args_rt_iter _))
  show wpAny _ _ (ret (.ref it)) _ _ s
  exact wpAny_pure ⟨_, rfl, "reversed", _, hit.typeIs, slot_rt_next.lookup, h⟩
end
end Tx
namespace Tx
open PySem PySem.Spec PyProof.Rows L2 Evl RT
theorem owner_rs_hint (a : Value) : argsOk "reversed.__length_hint__" ⟨[a], []⟩ := by
  unfold argsOk; rw [signature?_of (id := "reversed.__length_hint__") (n := ['_', '_', 't', 'n', 'i', 'h', '_', 'h', 't', 'g', 'n', 'e', 'l', '_', '_']) (o := ['d', 'e', 's', 'r', 'e', 'v', 'e', 'r']) (by kernel_rfl) owner_rt]; kernel_rfl
theorem slot_rs_hint : Slot "reversed" "__length_hint__" "reversed.__length_hint__" :=
  .of (owner := "reversed") (n := "__length_hint__") (by rw [typeLookup_type, builtinLookup_eq_fast]; kernel_rfl) (by decide +kernel) (by decide +kernel) (by decide +kernel)
    (by first | exact .inl (by decide +kernel) | exact .inr (by decide +kernel)) (by rw [isSubtype_type]; kernel_rfl)
def RsAt (x : Str) (i : Nat) (v : Value) : Prop := ∃ c u, x.cps[x.cps.size - 1 - i]? = some c ∧ v = .str ⟨#[c]⟩ u
theorem Walks.revStr {prog : Program} {w : World} {A : Around} (hh : A.handled = none) (I : Addr) (x : Str) (t : Tok) (hz : x.length ≤ 100000) :
    Walks prog w A I [I] [I] x.cps.size (RsAt x) (fun i h => i ≤ x.cps.size ∧ IsRs h I x t ((x.cps.size : Int) - 1 - (i : Int))) where
  sub := fun _ hb => hb
  frame := fun _ _ _ y hk => ⟨y.1, y.2.at fun o e => hk I (by simp) o e⟩
  item := fun i s Q E hi y hQ => by
    have e : (x.cps.size : Int) - 1 - (i : Int) = ((x.cps.size - 1 - i : Nat) : Int) := by omega
    have hit := y.2
    rw [e] at hit
    have hx : x.cps[x.cps.size - 1 - i]? = some (x.cps[x.cps.size - 1 - i]'(by omega)) := Array.getElem?_eq_getElem (by omega)
    refine next_rs_item hit hx hz fun h' k u hit' hs' => ?_
    have e2 : ((x.cps.size - 1 - i : Nat) : Int) - 1 = (x.cps.size : Int) - 1 - ((i + 1 : Nat) : Int) := by omega
    rw [e2] at hit'
    exact hQ _ h' k ⟨_, u, hx, rfl⟩ ⟨hi, hit'⟩ fun b o hb eo => hs'.extBut b o (fun h => hb (by simp [h])) eo
  done := fun s Q E y hQ => by
    have e : (x.cps.size : Int) - 1 - (x.cps.size : Int) = -1 := by omega
    have hit := y.2
    rw [e] at hit
    exact next_rs_end hh hit fun h' he' => hQ h' s.toks fun b o hb eo => he' b o (fun h => hb (by simp [h])) eo
  self := fun _ _ _ _ y hQ => iter_rs y.2 hQ
section
variable {prog : Program} {w : World} {A : Around} {E : Value → Shared → Prop} {s : Shared} {x : Str} {t : Tok}
theorem hint_rs_run {it : Addr} {Q : Bool → Shared → Prop} (hit : IsRs s.heap it x t ((x.cps.size : Int) - 1)) (hz : x.length ≤ 100000)
    (hQ : ∀ b k, Q b { s with toks := k }) : wpAny (model prog w) A (Builtin.List.listLengthHint (.ref it)) Q E s := by
  obtain ⟨o, ho, hc, hd⟩ := id hit
  have hT := hit.typeIs
  unfold Builtin.List.listLengthHint
  refine wpAny_bind (wpAny_specialOf hT nolen_rs ?_)
  show wpAny _ A (specialOf (Value.ref it) (Str.ofString "__length_hint__") >>= _) _ _ _
  refine wpAny_bind (wpAny_specialOf hT hint_rs ?_)
  generalize hid : ("reversed.__length_hint__" : String) = id0
  wp_delta
  rw [show splitId id0 = some ("reversed", "__length_hint__") from by subst hid; decide +kernel]
  subst hid
  refine wpAny_bind (wpAny_isInstance (b := true) hT (by rw [isSubtype_type]; kernel_rfl) ?_)
  rw [if_neg (by decide)]
  try dsimp only
  rw [if_neg (by decide +kernel)]
  refine wpAny_bind (wpAny_rule ?_)
  rw [slot_rs_hint.bind (.ref it)]
  refine wpAny_bind (wpAny_pure ?_)
  try dsimp only
  refine wpAny_bind (wpAny_attempt (wpAny_call_entry slot_rs_hint hT entry_rs_hint ?_ (owner_rs_hint _)))
  unfold Builtin.«reversed.__length_hint__»
  have hl : x.cps.size = x.length := rfl
  refine wpAny_bind (wpAny_of_eq (a := Value.ref it) (by first | rfl | kernel_rfl) ?_)
  try dsimp only
  refine wpAny_bind (wpAny_field ho hd (x := .str x t) rfl ?_)
  try dsimp only
  rw [if_neg (by simp)]
  refine wpAny_bind (PyProof.Rows.len_str (by omega) ?_)
  refine wpAny_bind (wpAny_of_eq (a := some ((x.length : Nat) : Int)) rfl ?_)
  try dsimp only
  refine wpAny_bind (wpAny_field (s := { s with toks := s.toks + 1 + 1 }) ho hd (x := rawInt ((x.cps.size : Int) - 1)) rfl ?_)
  show wpAny _ _ (if (x.length : Int) < (x.cps.size : Int) - 1 + 1 then _ else _) _ _ _
  rw [if_neg (by omega)]
  show wpAny _ _ (mkInt ((x.cps.size : Int) - 1 + 1) >>= _) _ _ _
  refine wpAny_bind (wpAny_mkInt ?_)
  refine wpAny_pure ⟨_, rfl, ?_⟩
  try dsimp only
  refine wpAny_bind (wpAny_of_eq (a := some ((x.cps.size : Int) - 1 + 1)) rfl ?_)
  try dsimp only
  rw [if_neg (by
    unfold Builtin.List.listFitsIndex
    simp
    omega), if_neg (by omega), if_neg (by
    unfold Builtin.List.listTooLong
    rw [sizeLine_eq]
    simp
    omega)]
  exact wpAny_pure (hQ _ _)
theorem extend_rs {R : Result → Shared → Prop} {it S : Addr} {c0 : Nat} (res : Value) (hh : A.handled = none) (hit : IsRs s.heap it x t ((x.cps.size : Int) - 1)) (hz : x.length ≤ 100000)
    (hS : s.heap.get? S = some { cls := .type "list", data := .seq #[] c0 }) (hSi : S ≠ it)
    (hR : ∀ (h' : Heap) (tk : Nat) (acc : Array Value) (c' : Nat), (∀ b o, b ≠ S → b ≠ it → s.heap.get? b = some o → h'.get? b = some o) → h'.get? S = some { cls := .type "list", dict := none, data := .seq acc c', slots := #[] } →
      ItemsOf (RsAt x) acc x.cps.size → R (.ok (.ret res)) { s with heap := h', toks := tk }) :
    wpAny (model prog w) A.in1 (Builtin.List.listExtendWith (.ref S) (.ref it) res)
      (fun fin s' => match fin with | .done f => R (.ok f) s' | .again c' => c'.quiet = true ∧ codeAny (model prog w) A c' R s') (fun e s' => R (.error e) s') s := by
  have W := (Walks.revStr (prog := prog) (w := w) (A := A.in1) hh it x t hz).toS
  have hSf : S ∉ [it] := fun hm => hSi (List.mem_singleton.mp hm)
  have hT : s.TypeIs (.ref it) "reversed" := hit.typeIs
  have h1 : Builtin.List.listSameRef (.ref S) (.ref it) = false := by simp [Builtin.List.listSameRef, hSi]
  have hn : x.cps.size ≤ sizeLine := by rw [sizeLine_eq]; exact Nat.le_trans hz (by decide)
  unfold Builtin.List.listExtendWith
  refine wpAny_bind (wpAny_typeOf hT ?_)
  rw [if_neg (by rw [h1]; decide)]
  refine wpAny_bind (iter_rs hit ?_)
  refine wpAny_bind (wpAny_holding ?_)
  refine hint_rs_run hit hz fun b k => ?_
  have fin : ∀ (h2 : Heap) (k : Nat) (c1 : Nat), (∀ b o, b ≠ S → s.heap.get? b = some o → h2.get? b = some o) → h2.get? S = some { cls := .type "list", dict := none, data := .seq #[] c1, slots := #[] } →
      wpAny (model prog w) A.in1 (again (.builtin "list.extend.loop" ⟨[.ref S, .ref it, res], []⟩))
      (fun fin s' => match fin with | .done f => R (.ok f) s' | .again c' => c'.quiet = true ∧ codeAny (model prog w) A c' R s') (fun e s' => R (.error e) s') { s with heap := h2, toks := k } := fun h2 k c1 ho hS2 => by
    have e0 : (x.cps.size : Int) - 1 - ((0 : Nat) : Int) = (x.cps.size : Int) - 1 := by omega
    refine wpAny_pure ⟨plainId_quiet F.plain_extend_loop _, codeAny_extend_loopS W hn _ hSf _ x.cps.size 0 _ _ _ rfl (Nat.zero_le _) ⟨Nat.zero_le _, by rw [e0]; exact hit.at fun o e => ho it o (Ne.symm hSi) e⟩ hS2 (ItemsOf.nil _) fun s' acc' c' hm hS' hacc => ?_⟩
    rw [Moved.eq_with hm]
    refine hR s'.heap s'.toks acc' c' (fun b o hb hi e => hm.heap b o (fun hmem => ?_) (ho b o hb e)) hS' hacc
    rcases List.mem_cons.mp hmem with e' | hmem
    · exact hb e'
    · exact hi (List.mem_singleton.mp hmem)
  have touch : ∀ k, wpAny (model prog w) A.in1 (rule "list.extend.makes-room" >>= fun _ => Builtin.List.listTouch (.ref S) >>= fun _ => again (.builtin "list.extend.loop" ⟨[.ref S, .ref it, res], []⟩))
      (fun fin s' => match fin with | .done f => R (.ok f) s' | .again c' => c'.quiet = true ∧ codeAny (model prog w) A c' R s') (fun e s' => R (.error e) s') { s with toks := k } := fun k => by
    refine wpAny_bind (wpAny_rule ?_)
    refine wpAny_bind ?_
    show wpAny _ A.in1 (updateSeq S (·.push .none) >>= fun _ => updateSeq S (·.pop)) _ _ _
    refine wpAny_bind (wpAny_updateSeq hS rfl ?_)
    have hS₂ := Heap.get?_update_self (Obj.mapSeq (·.push Value.none)) hS rfl
    refine wpAny_updateSeq (hz := by seq_fits) hS₂ rfl ?_
    have hS₃ := Heap.get?_update_self (Obj.mapSeq (·.pop)) hS₂ rfl
    have oth : ∀ b o, b ≠ S → s.heap.get? b = some o → ((s.heap.update S (Obj.mapSeq (·.push Value.none))).update S (Obj.mapSeq (·.pop))).get? b = some o :=
      fun b o hb e => (Heap.get?_update_other _ _ (Ne.symm hb)).trans ((Heap.get?_update_other _ _ (Ne.symm hb)).trans e)
    exact fin _ k _ oth hS₃
  cases b with
  | true => exact touch k
  | false =>
    first
    | (rw [if_neg (by decide +kernel)]; exact fin s.heap k c0 (fun _ _ _ e => e) hS)
    | exact touch k
theorem list_init_rs {R : Result → Shared → Prop} {it S : Addr} (hh : A.handled = none) (hit : IsRs s.heap it x t ((x.cps.size : Int) - 1)) (hz : x.length ≤ 100000)
    (hS : s.heap.get? S = some { cls := .type "list", data := .seq #[] }) (hSi : S ≠ it)
    (hR : ∀ (h' : Heap) (tk : Nat) (acc : Array Value) (c' : Nat), (∀ b o, b ≠ S → b ≠ it → s.heap.get? b = some o → h'.get? b = some o) → h'.get? S = some { cls := .type "list", dict := none, data := .seq acc c', slots := #[] } →
      ItemsOf (RsAt x) acc x.cps.size → R (.ok (.ret .none)) { s with heap := h', toks := tk }) :
    wpAny (model prog w) A.in1 (Builtin.«list.__init__» ⟨[.ref S, .ref it], []⟩)
      (fun fin s' => match fin with | .done f => R (.ok f) s' | .again c' => c'.quiet = true ∧ codeAny (model prog w) A c' R s') (fun e s' => R (.error e) s') s := by
  show wpAny _ _ (do let old ← Builtin.List.listItems (.ref S); Builtin.List.listUpdate (.ref S) (fun _ => #[]); letGo old.toList.reverse; Builtin.List.listExtendWith (.ref S) (.ref it) .none) _ _ s
  refine wpAny_bind ?_
  unfold Builtin.List.listItems
  refine wpAny_bind (wpAny_seqItems hS rfl (wpAny_pure ?_))
  show wpAny _ _ (updateSeq S (fun _ => #[]) >>= fun _ => letGo (#[] : Array Value).toList.reverse >>= fun _ => Builtin.List.listExtendWith (.ref S) (.ref it) .none) _ _ s
  refine wpAny_bind (wpAny_updateSeq hS rfl ?_)
  have hS2 := Heap.get?_update_self (Obj.mapSeq (fun _ => (#[] : Array Value))) hS rfl
  have oth : ∀ b o, b ≠ S → s.heap.get? b = some o → (s.heap.update S (Obj.mapSeq (fun _ => (#[] : Array Value)))).get? b = some o :=
    fun b o hb e => (Heap.get?_update_other _ _ (Ne.symm hb)).trans e
  refine wpAny_bind (wpAny_letGo ?_)
  refine extend_rs (s := { s with heap := s.heap.update S (Obj.mapSeq (fun _ => (#[] : Array Value))) }) .none hh (hit.at fun o e => oth it o (Ne.symm hSi) e) hz hS2 hSi fun h' tk acc' c' hk hS' hacc => ?_
  exact hR h' tk acc' c' (fun b o hb hi e => hk b o hb hi (oth b o hb e)) hS' hacc
theorem call_list_rs {it : Addr} {Q : Value → Shared → Prop} (hh : A.handled = none) (hit : IsRs s.heap it x t ((x.cps.size : Int) - 1)) (hz : x.length ≤ 100000)
    (hQ : ∀ (h' : Heap) (tk : Nat) (acc : Array Value) (c' : Nat), (∀ b o, b ≠ it → s.heap.get? b = some o → h'.get? b = some o) → h'.get? s.heap.objs.size = some { cls := .type "list", dict := none, data := .seq acc c', slots := #[] } →
      ItemsOf (RsAt x) acc x.cps.size → Q (.ref s.heap.objs.size) { s with heap := h', toks := tk }) :
    wpAny (model prog w) A (call (.type "list") [.ref it]) Q E s := by
  refine callType_codes (Q₁ := fun obj s₁ => obj = .ref s.heap.objs.size ∧ s₁ = { s with heap := s.heap.push { cls := .type "list", data := .seq #[] } }) F.called_list (F.typeCall_list_1 _) F.entry_list_init
    (code_list_new _ ⟨rfl, rfl⟩) fun obj s₁ h₁ => ?_
  obtain ⟨rfl, rfl⟩ := h₁
  obtain ⟨oi, hoi, _⟩ := id hit
  have hSi : s.heap.objs.size ≠ it := Nat.ne_of_gt (Heap.lt_size hoi)
  have hS : (s.heap.push { cls := .type "list", data := .seq #[] }).get? s.heap.objs.size = some { cls := .type "list", data := .seq #[] } := Heap.get?_push_size _ rfl
  refine ⟨⟨_, hS, rfl⟩, F.args_list_init_2 _ _, list_init_rs (A := A.in1) (s := { s with heap := s.heap.push { cls := .type "list", data := .seq #[] } }) hh (hit.at fun o e => Heap.get?_push_of_some _ e) hz hS hSi fun h' tk acc' c' hk hS' hacc => ?_⟩
  exact ⟨rfl, hQ h' tk acc' c' (fun b o hb e => hk b o (Nat.ne_of_lt (Heap.lt_size e)) hb (Heap.get?_push_of_some _ e)) hS' hacc⟩
end
end Tx
namespace Tx
open PySem PySem.Spec PyProof.Rows L2 Evl RT
theorem vals_rs (z : Str) (acc : Array Value) (h : ItemsOf (RsAt z) acc z.cps.size) : Vals (z.cps.toList.reverse.map fun c => V.str (sg c)) acc.toList := by
  have gen : ∀ (l : List Nat) (us : List Value) (k : Nat), z.cps.toList.reverse.drop k = l → us.length = l.length → (∀ j v, us[j]? = some v → RsAt z (k + j) v) → Vals (l.map fun c => V.str (sg c)) us := by
    intro l
    induction l with
    | nil =>
      intro us k _ hl _
      cases us with
      | nil => exact .nil
      | cons _ _ => cases hl
    | cons c l ih =>
      intro us k hd hl hv
      cases us with
      | nil => cases hl
      | cons u us =>
        obtain ⟨c', t, hc, rfl⟩ := hv 0 u rfl
        have hk : z.cps.toList.reverse[k]? = some c := by
          have := congrArg (fun l => l[0]?) hd
          simpa using this
        have hlt : k < z.cps.toList.length := by
          have := (List.getElem?_eq_some_iff.mp hk).1
          rwa [List.length_reverse] at this
        have e : c' = c := by
          rw [List.getElem?_reverse hlt] at hk
          have h9 : z.cps.toList[z.cps.size - 1 - k]? = some c' := by simpa using hc
          rw [Array.length_toList] at hk
          rw [h9] at hk
          exact Option.some.inj hk
        subst e
        refine .cons ⟨t, rfl⟩ (ih us (k + 1) ?_ (by simpa using hl) fun j v hj => ?_)
        · have := congrArg List.tail hd
          simpa using this
        · have := hv (j + 1) v (by simpa using hj)
          rw [show k + 1 + j = k + (j + 1) by omega]
          exact this
  refine gen _ _ 0 rfl (by rw [Array.length_toList, List.length_reverse, Array.length_toList]; exact h.1) fun j v hj => ?_
  rw [Nat.zero_add]
  exact h.2 j v (by simpa using hj)
def tLstRevS (te : TE) : TE := fun σ H Q => te σ H fun v H1 => ∃ z : Str, v = .str z ∧ z.length ≤ 100000 ∧ ∀ q, H1 q = none → Q (.ref q) (upd H1 q (.lst (z.cps.toList.reverse.map fun c => V.str (sg c))))
theorem pe_listRevS {X : Cx} {e : Expr} {te : TE} {p p2 pos pos2 : Pos} (hc : X.calm = true) (hg : Gl X "list") (hm : X.mg "list" = none) (hg2 : Gl X "reversed") (hm2 : X.mg "reversed" = none) (he : PE X e te)
    (hs : starEach [e] X.env = (false, eval e X.env) :: starEach [] X.env := by rfl)
    (hs2 : starEach [.Call (.Name "reversed" p2) [e] [] pos2] X.env = (false, eval (.Call (.Name "reversed" p2) [e] [] pos2) X.env) :: starEach [] X.env := by rfl) :
    PE X (.Call (.Name "list" p) [.Call (.Name "reversed" p2) [e] [] pos2] [] pos) (tLstRevS te) := by
  refine ⟨fun pins s σ H Q I h => ?_⟩
  refine Call_ (ld_blt I hg hm boot_list (PyProof.Rows.callWith_type1 (args_cons (Call_ (ld_blt I hg2 hm2 PyProof.Rows.boot_reversed (PyProof.Rows.callWith_type1 (args_cons (thn (he.run pins s σ H _ I h) fun u s1 ⟨v, H1, I1, r1, q1⟩ => args_nil ?_) hs) hs rfl))) hs2) hs2 rfl))
  obtain ⟨z, ev, hz, q⟩ := q1
  subst ev
  obtain ⟨t, rfl⟩ := r1
  refine call_reversed_str hz (args_nil ?_)
  have k0 : ∀ b o, s1.heap.get? b = some o → (s1.heap.push (rsObj z t ((z.length : Int) - 1))).get? b = some o := fun b o e => Heap.get?_push_of_some _ e
  have I2 : Inv X pins σ H1 { s1 with heap := s1.heap.push (rsObj z t ((z.length : Int) - 1)), toks := s1.toks + 1 + 1 } := I1.kept (t' := s1.toks + 1 + 1) k0
  have hz' : z.cps.size ≤ sizeLine := by
    have : z.cps.size = z.length := rfl
    rw [sizeLine_eq]; omega
  refine call_list_rs (s := { s1 with heap := s1.heap.push (rsObj z t ((z.length : Int) - 1)), toks := s1.toks + 1 + 1 }) (x := z) (t := t) (I1.ok.hd hc) ⟨_, Heap.get?_push_size _ rfl, rfl, rfl⟩ hz fun h' tk acc c' hk hS' hi => ?_
  have hlt : s1.heap.objs.size < (s1.heap.push (rsObj z t ((z.length : Int) - 1))).objs.size := by
    obtain ⟨o, e⟩ : ∃ o, (s1.heap.push (rsObj z t ((z.length : Int) - 1))).get? s1.heap.objs.size = some o := ⟨_, Heap.get?_push_size _ rfl⟩
    exact Heap.lt_size e
  have k1 : ∀ b o, s1.heap.get? b = some o → h'.get? b = some o := fun b o e => hk b o (Nat.ne_of_lt (Heap.lt_size e)) (k0 b o e)
  refine ⟨.ref (s1.heap.push (rsObj z t ((z.length : Int) - 1))).objs.size, upd H1 (s1.heap.push (rsObj z t ((z.length : Int) - 1))).objs.size (.lst (z.cps.toList.reverse.map fun c => V.str (sg c))), I1.laid (t' := tk) k1 (Nat.le_of_lt hlt) (show ObjOk X.prog X.w _ _ _ (.lst (z.cps.toList.reverse.map fun c => V.str (sg c))) from ⟨by rw [List.length_map, List.length_reverse, Array.length_toList]; exact hz', acc.toList, c', vals_rs z acc hi, ?_⟩), rfl, q _ (I2.hok.fresh (Nat.le_refl _))⟩
  rw [Array.toArray_toList]
  exact hS'
theorem en_revS {K : PySem.W.Frag} {σ : L2.St} {H : Hp} {te : TE} {T : List Nat} (h : EvD K te σ H (ds (tx T))) (hl : T.length ≤ 100000) : EvN (tLstRevS te) σ H (dT T.reverse) := fun H1 e Q q => h H1 e _ fun v H2 e2 d => by
  refine ⟨tx T, Dat.v_iff.mp d, by rw [tx_len]; exact hl, fun l hn => q _ _ (e2.trans (Ex.new hn)) (DatN.l_iff.mpr ⟨l, _, rfl, fresh_back e2 hn, upd_same, ?_⟩)⟩
  rw [tx_cps]
  exact DatsN.map
/-! ### levels all 0, all 1 -/
end Tx
namespace Tx
open PySem PySem.Spec PyProof.Rows L2 Evl
theorem wfold_flat (b : Int) : ∀ (T : List Nat), (∀ c ∈ T, kindS c ≠ ("open" : Str) ∧ kindS c ≠ ("close" : Str)) → wfold b T = ⟨List.replicate T.length 0, [b], [], (0, 0)⟩ := by
  have gen : ∀ (T : List Nat) (F : List Nat), (∀ c ∈ T, kindS c ≠ ("open" : Str) ∧ kindS c ≠ ("close" : Str)) → T.foldl wstep ⟨F, [b], [], (0, 0)⟩ = ⟨F ++ List.replicate T.length 0, [b], [], (0, 0)⟩ := by
    intro T
    induction T with
    | nil => intro F _; simp
    | cons c r ih =>
      intro F h
      obtain ⟨h1, h2⟩ := h c List.mem_cons_self
      have hs : wstep ⟨F, [b], [], (0, 0)⟩ c = ⟨F ++ [0], [b], [], (0, 0)⟩ := by
        unfold wstep wclose
        rw [if_neg fun e => h2 ((kindS_close c).mpr e)]
        unfold wopen
        rw [if_neg fun e => h1 ((kindS_open c).mpr e)]
        rfl
      rw [List.foldl_cons, hs, ih _ fun c hc => h c (List.mem_cons_of_mem _ hc), List.append_assoc, List.length_cons, List.replicate_succ] <;> rfl
  intro T h
  have := gen T [] h
  rw [List.nil_append] at this
  exact this
section
variable {st : List Nat} {kd : List Str} {fl : List Int}
theorem near_ok {P : Nat → Bool} : ∀ {k n j : Nat}, nearA P n k = some j → P j = true
  | k + 1, n, j, h => by
    rw [nearA] at h
    split at h
    · rename_i hp
      have := Option.some.inj h
      subst this
      exact hp
    · exact near_ok h
theorem firm_own {own : Str} (h : ∀ j, isL (kdA kd j) = true → kdA kd j = own) (hf : ∀ j, ownA fl (st.getD j 0) = own) {j : Nat} (hj : isF (kdA kd j) = true) : firmA st kd fl j = own := by
  unfold firmA
  split
  · cases hn : nearB (fun i => sameA st (st.getD j 0) i && isL (kdA kd i)) j with
    | none => exact hf _
    | some i =>
      have := (nearB_lt hn).2
      exact h i ((Bool.and_eq_true _ _).mp this).2
  · rename_i hn
    rw [isF_eq, decide_eq_false hn, Bool.or_false] at hj
    exact h j hj
theorem side_own {own : Str} (h : ∀ j, isL (kdA kd j) = true → kdA kd j = own) (hf : ∀ j, ownA fl (st.getD j 0) = own) (j : Nat) : sideA st kd fl j = own := by
  unfold sideA
  split
  · rename_i hj
    exact firm_own h hf hj
  · dsimp only
    have hb : onO (ownA fl (st.getD j 0)) (firmA st kd fl) (nearB (fun i => sameA st (st.getD j 0) i && isF (kdA kd i)) j) = own := by
      cases hn : nearB (fun i => sameA st (st.getD j 0) i && isF (kdA kd i)) j with
      | none => exact hf _
      | some i => exact firm_own h hf ((Bool.and_eq_true _ _).mp (nearB_lt hn).2).2
    have ha : onO (ownA fl (st.getD j 0)) (firmA st kd fl) (nearA (fun i => sameA st (st.getD j 0) i && isF (kdA kd i)) (j + 1) (kd.length - (j + 1))) = own := by
      cases hn : nearA (fun i => sameA st (st.getD j 0) i && isF (kdA kd i)) (j + 1) (kd.length - (j + 1)) with
      | none => exact hf _
      | some i => exact firm_own h hf ((Bool.and_eq_true _ _).mp (near_ok hn)).2
    rw [hb, ha, if_pos rfl]
end

theorem rep_getD (n j : Nat) : (List.replicate n 0).getD j 0 = 0 := by
  rw [List.getD_eq_getElem?_getD, List.getElem?_replicate]
  split <;> rfl
theorem lev_flat {T : List Nat} {b : Int} {own : Str} (hb : ownS b = own) (h1 : ∀ c ∈ T, kindS c ≠ ("open" : Str) ∧ kindS c ≠ ("close" : Str)) (h2 : ∀ c ∈ T, isL (kindS c) = true → kindS c = own) (h3 : ∀ c ∈ T, kindS c = fiS → b = 0) : levF T b = List.replicate T.length b := by
  have hw := wfold_flat b T h1
  have hs : stF b T = List.replicate T.length 0 := by unfold stF; rw [hw]
  have hf : flF b T = [b] := by unfold flF; rw [hw]
  have hown : ∀ j, ownA [b] ((List.replicate T.length 0).getD j 0) = own := fun j => by
    rw [rep_getD]
    exact hb
  have hk : ∀ j, isL (kdA (T.map kindS) j) = true → kdA (T.map kindS) j = own := fun j hj => by
    by_cases h : j < T.length
    · rw [kd_at h] at hj ⊢
      rw [List.getD_eq_getElem?_getD, List.getElem?_eq_getElem h] at hj ⊢
      exact h2 _ (List.getElem_mem h) hj
    · have : kdA (T.map kindS) j = "" := by
        unfold kdA
        rw [List.getD_eq_getElem?_getD, List.getElem?_eq_none (by rw [List.length_map]; omega)] <;> rfl
      rw [this] at hj
      exact absurd hj (by decide +kernel)
  unfold levF
  rw [hs, hf]
  refine List.ext_getElem (by rw [List.length_map, List.length_range, List.length_replicate]) fun i hi hi2 => ?_
  rw [List.getElem_map, List.getElem_range, List.getElem_replicate]
  rw [List.length_replicate] at hi2
  unfold levA
  rw [side_own hk hown, rep_getD]
  dsimp only
  rw [show ([b] : List Int).getD 0 0 = b from rfl, if_pos hb.symm]
  split
  · rename_i e
    rw [kd_at hi2, List.getD_eq_getElem?_getD, List.getElem?_eq_getElem hi2] at e
    rw [h3 _ (List.getElem_mem hi2) e] <;> rfl
  · rfl
theorem lv_rep {n : Nat} {b : Int} (hn : n ≤ 60) (hb : 0 ≤ b ∧ b ≤ 10) : Lv (List.replicate n b) := ⟨by rw [List.length_replicate]; exact hn, fun x hx => by rw [List.eq_of_mem_replicate hx]; exact hb⟩
theorem order_zero (n : Nat) : orderF (List.replicate n 0) = List.range n := by
  have h : maxd 0 (List.replicate n 0) = 0 := by
    cases n with
    | zero => rfl
    | succ n =>
      rw [List.replicate_succ]
      show (List.replicate n (0 : Int)).foldl max 0 = 0
      induction n with
      | zero => rfl
      | succ n ih => rw [List.replicate_succ]; exact ih
  unfold orderF
  rw [h]
  show List.range (List.replicate n (0 : Int)).length = _
  rw [List.length_replicate]
theorem order_one {n : Nat} (hn : n ≤ 60) : orderF (List.replicate n 1) = (List.range n).reverse := by
  have := order_up (rs := List.replicate n 0) (by rw [List.length_replicate]; exact hn) fun x hx => by rw [List.eq_of_mem_replicate hx]; decide
  rw [List.map_replicate, order_zero] at this
  exact this
theorem kind_notoc {k : Str} (h : k = eaS ∨ k = fiS ∨ k = weS ∨ k = ("between" : Str)) : k ≠ ("open" : Str) ∧ k ≠ ("close" : Str) := by
  rcases h with rfl | rfl | rfl | rfl <;> decide +kernel
def inEast (k : Str) : Bool := inV (.str k) ([eaS, fiS, "between"].map V.str)
def inWest (k : Str) : Bool := inV (.str k) ([weS, "between"].map V.str)
theorem inEast_or {k : Str} (h : inEast k = true) : k = eaS ∨ k = fiS ∨ k = ("between" : Str) := by
  unfold inEast inV at h
  simp only [List.map_cons, List.map_nil, List.any_cons, List.any_nil, Bool.or_false] at h
  have h : (eaS == k || (fiS == k || (("between" : Str) == k))) = true := h
  simp only [Bool.or_eq_true, beq_iff_eq] at h
  exact h.imp Eq.symm fun h => h.imp Eq.symm Eq.symm
theorem inWest_or {k : Str} (h : inWest k = true) : k = weS ∨ k = ("between" : Str) := by
  unfold inWest inV at h
  simp only [List.map_cons, List.map_nil, List.any_cons, List.any_nil, Bool.or_false] at h
  have h : (weS == k || (("between" : Str) == k)) = true := h
  simp only [Bool.or_eq_true, beq_iff_eq] at h
  exact h.imp Eq.symm Eq.symm
theorem isL_or {k : Str} (h : isL k = true) : k = eaS ∨ k = weS := by
  rw [isF_letters] at h
  simp only [Bool.or_eq_true, decide_eq_true_eq] at h
  exact h
theorem view_east {T : List Nat} (h : ∀ c ∈ T, inEast (kindS c) = true) : viewF T 0 = T := by
  have hl : levF T 0 = List.replicate T.length 0 := lev_flat (own := eaS) rfl (fun c hc => kind_notoc ((inEast_or (h c hc)).elim Or.inl fun e => e.elim (fun e => Or.inr (Or.inl e)) fun e => Or.inr (Or.inr (Or.inr e))))
    (fun c hc hj => (isL_or hj).elim id fun e => by
      have := inEast_or (h c hc)
      rw [e] at this
      exact absurd this (by decide +kernel)) (fun _ _ _ => rfl)
  unfold viewF
  rw [hl, order_zero]
  exact range_getD T
theorem view_west {T : List Nat} (hT : T.length ≤ 60) (h : ∀ c ∈ T, inWest (kindS c) = true) : viewF T 1 = T.reverse := by
  have hl : levF T 1 = List.replicate T.length 1 := lev_flat (own := weS) rfl (fun c hc => kind_notoc ((inWest_or (h c hc)).elim (fun e => Or.inr (Or.inr (Or.inl e))) fun e => Or.inr (Or.inr (Or.inr e))))
    (fun c hc hj => (isL_or hj).elim (fun e => by
      have := inWest_or (h c hc)
      rw [e] at this
      exact absurd this (by decide +kernel)) id) (fun c hc e => by
      have := inWest_or (h c hc)
      rw [e] at this
      exact absurd this (by decide +kernel))
  unfold viewF
  rw [hl, order_one hT, List.map_reverse, range_getD]
theorem due_view {T : List Nat} {b : Int} (hT : T.length ≤ 60) (hb : 0 ≤ b ∧ b ≤ 1) : (lord (levF T b) 10 0 (List.range T.length)).map (fun p => T.getD p 0) = viewF T b := by
  have := order_lord (levF_lv hT hb)
  rw [levF_len] at this
  rw [this] <;> rfl
end Tx
namespace Wk11
open PySem PySem.Spec PyProof.Rows L2 Tx
open Evl (Ex EvT et_and et_or et_not sz_of sz_lt ex_l ex_t sq_of st_of)
def topS (i : Nat) : Stmt := PySem.Challenge.pw_turnscript_k11_view.main.body.getD i (.Pass ⟨0, 0, 0, 0⟩)
abbrev s_kind : Stmt := topS 5
theorem sc_kind : FnScope ["sign"] ["sign"] (defScope s_kind) := ⟨rfl, rfl, rfl, by decide +kernel, rfl, by decide +kernel, by decide +kernel⟩
abbrev s_deeper : Stmt := topS 6
theorem sc_deeper : FnScope ["sign", "ground"] ["sign", "ground"] (defScope s_deeper) := ⟨rfl, rfl, rfl, by decide +kernel, rfl, by decide +kernel, by decide +kernel⟩
abbrev s_walked : Stmt := topS 7
theorem sc_walked : FnScope ["text", "base", "found", "levels", "pile", "spare", "sign", "ground"] ["text", "base"] (defScope s_walked) := ⟨rfl, rfl, rfl, by decide +kernel, rfl, by decide +kernel, by decide +kernel⟩
abbrev s_own_side : Stmt := topS 9
theorem sc_own_side : FnScope ["ground"] ["ground"] (defScope s_own_side) := ⟨rfl, rfl, rfl, by decide +kernel, rfl, by decide +kernel, by decide +kernel⟩
abbrev s_letters_ahead : Stmt := topS 10
theorem sc_letters_ahead : FnScope ["kinds", "own", "found", "last", "one"] ["kinds", "own"] (defScope s_letters_ahead) := ⟨rfl, rfl, rfl, by decide +kernel, rfl, by decide +kernel, by decide +kernel⟩
abbrev s_firm_sides : Stmt := topS 11
theorem sc_firm_sides : FnScope ["kinds", "own", "found", "one", "ahead"] ["kinds", "own"] (defScope s_firm_sides) := ⟨rfl, rfl, rfl, by decide +kernel, rfl, by decide +kernel, by decide +kernel⟩
abbrev s_carried : Stmt := topS 12
theorem sc_carried : FnScope ["sides", "own", "found", "last", "side"] ["sides", "own"] (defScope s_carried) := ⟨rfl, rfl, rfl, by decide +kernel, rfl, by decide +kernel, by decide +kernel⟩
abbrev s_stretch_sides : Stmt := topS 13
theorem sc_stretch_sides : FnScope ["kinds", "own", "firm", "ahead", "behind", "found", "at"] ["kinds", "own"] (defScope s_stretch_sides) := ⟨rfl, rfl, rfl, by decide +kernel, rfl, by decide +kernel, by decide +kernel⟩
abbrev s_sides : Stmt := topS 14
theorem sc_sides : FnScope ["text", "base", "told", "found", "sign", "number", "places", "row", "at", "side"] ["text", "base"] (defScope s_sides) := ⟨rfl, rfl, rfl, by decide +kernel, rfl, by decide +kernel, by decide +kernel⟩
abbrev s_levels : Stmt := topS 15
theorem sc_levels : FnScope ["text", "base", "told", "found", "at", "side", "level"] ["text", "base"] (defScope s_levels) := ⟨rfl, rfl, rfl, by decide +kernel, rfl, by decide +kernel, by decide +kernel⟩
abbrev s_turned : Stmt := topS 17
theorem sc_turned : FnScope ["places", "row", "level", "found", "group", "place"] ["places", "row", "level"] (defScope s_turned) := ⟨rfl, rfl, rfl, by decide +kernel, rfl, by decide +kernel, by decide +kernel⟩
abbrev s_order : Stmt := topS 18
theorem sc_order : FnScope ["row", "found", "level"] ["row"] (defScope s_order) := ⟨rfl, rfl, rfl, by decide +kernel, rfl, by decide +kernel, by decide +kernel⟩
abbrev s_view : Stmt := topS 19
theorem sc_view : FnScope ["text", "base", "place"] ["text", "base"] (defScope s_view) := ⟨rfl, rfl, rfl, by decide +kernel, rfl, by decide +kernel, by decide +kernel⟩
abbrev s_law_cell_at : Stmt := topS 21
theorem sc_law_cell_at : FnScope ["script", "k"] ["script", "k"] (defScope s_law_cell_at) := ⟨rfl, rfl, rfl, by decide +kernel, rfl, by decide +kernel, by decide +kernel⟩
abbrev s_law_pick : Stmt := topS 22
theorem sc_law_pick : FnScope ["script", "k"] ["script", "k"] (defScope s_law_pick) := ⟨rfl, rfl, rfl, by decide +kernel, rfl, by decide +kernel, by decide +kernel⟩
abbrev s_law_mix : Stmt := topS 23
theorem sc_law_mix : FnScope ["cell", "k", "mixed"] ["cell", "k"] (defScope s_law_mix) := ⟨rfl, rfl, rfl, by decide +kernel, rfl, by decide +kernel, by decide +kernel⟩
abbrev s_law_sign : Stmt := topS 24
theorem sc_law_sign : FnScope ["mixed", "way", "stock", "share", "row"] ["mixed", "way"] (defScope s_law_sign) := ⟨rfl, rfl, rfl, by decide +kernel, rfl, by decide +kernel, by decide +kernel⟩
abbrev s_law_text : Stmt := topS 25
theorem sc_law_text : FnScope ["script", "start", "size", "way", "k"] ["script", "start", "size", "way"] (defScope s_law_text) := ⟨rfl, rfl, rfl, by decide +kernel, rfl, by decide +kernel, by decide +kernel⟩
abbrev s_law_size : Stmt := topS 26
theorem sc_law_size : FnScope ["cell"] ["cell"] (defScope s_law_size) := ⟨rfl, rfl, rfl, by decide +kernel, rfl, by decide +kernel, by decide +kernel⟩
abbrev s_law_kind : Stmt := topS 27
theorem sc_law_kind : FnScope ["sign"] ["sign"] (defScope s_law_kind) := ⟨rfl, rfl, rfl, by decide +kernel, rfl, by decide +kernel, by decide +kernel⟩
abbrev s_law_walk : Stmt := topS 28
theorem sc_law_walk : FnScope ["text", "base", "floors", "pile", "found", "sign", "ground"] ["text", "base"] (defScope s_law_walk) := ⟨rfl, rfl, rfl, by decide +kernel, rfl, by decide +kernel, by decide +kernel⟩
abbrev s_law_near : Stmt := topS 29
theorem sc_law_near : FnScope ["text", "told", "at", "step", "kinds", "place"] ["text", "told", "at", "step", "kinds"] (defScope s_law_near) := ⟨rfl, rfl, rfl, by decide +kernel, rfl, by decide +kernel, by decide +kernel⟩
abbrev s_law_firm : Stmt := topS 30
theorem sc_law_firm : FnScope ["text", "told", "at", "place"] ["text", "told", "at"] (defScope s_law_firm) := ⟨rfl, rfl, rfl, by decide +kernel, rfl, by decide +kernel, by decide +kernel⟩
abbrev s_law_side : Stmt := topS 31
theorem sc_law_side : FnScope ["text", "told", "at", "own", "found", "step", "place"] ["text", "told", "at"] (defScope s_law_side) := ⟨rfl, rfl, rfl, by decide +kernel, rfl, by decide +kernel, by decide +kernel⟩
abbrev s_law_levels : Stmt := topS 32
theorem sc_law_levels : FnScope ["text", "base", "told", "found", "at", "ground", "level"] ["text", "base"] (defScope s_law_levels) := ⟨rfl, rfl, rfl, by decide +kernel, rfl, by decide +kernel, by decide +kernel⟩
abbrev s_law_order : Stmt := topS 33
theorem sc_law_order : FnScope ["row", "places", "level", "found", "at", "end"] ["row", "places", "level"] (defScope s_law_order) := ⟨rfl, rfl, rfl, by decide +kernel, rfl, by decide +kernel, by decide +kernel⟩
abbrev s_law_opened : Stmt := topS 34
theorem sc_law_opened : FnScope ["cell", "text", "ahead", "k"] ["cell", "text"] (defScope s_law_opened) := ⟨rfl, rfl, rfl, by decide +kernel, rfl, by decide +kernel, by decide +kernel⟩
abbrev s_law : Stmt := topS 35
theorem sc_law : FnScope ["script", "cell", "text", "base", "row", "due", "place", "found", "plain", "sign", "west"] ["script"] (defScope s_law) := ⟨rfl, rfl, rfl, by decide +kernel, rfl, by decide +kernel, by decide +kernel⟩
structure Txt (mg : Str → Option Value) : Prop where
  len_ : mg "len" = none
  zip_ : mg "zip" = none
  list_ : mg "list" = none
  reversed_ : mg "reversed" = none
  range_ : mg "range" = none
  enumerate_ : mg "enumerate" = none
  max_ : mg "max" = none
  int_ : mg "int" = none
  isinstance_ : mg "isinstance" = none
  str_ : mg "str" = none
structure Glo (mg : Str → Option Value) : Prop where
  EAST : ∃ t, mg "EAST" = some (.str "abcdefghijklmnopqrstuvwxyz" t)
  WEST : ∃ t, mg "WEST" = some (.str "ABCDEFGHIJKLMNOPQRSTUVWXYZ" t)
  FIGURES : ∃ t, mg "FIGURES" = some (.str "0123456789" t)
  DEEPEST : ∃ t, mg "DEEPEST" = some (.int 6 t)
local macro_rules | `(tactic| wtm_at "dat") => `(tactic| first | assumption | exact Own.dat0 (by assumption) | exact Own.dat0 (Own.drop0 (by assumption)) | exact Own.dat0 (Own.drop0 (Own.drop0 (by assumption))) | exact Own.dat0 (Own.drop0 (Own.drop0 (Own.drop0 (by assumption)))) | exact Own.dat0 (Own.drop0 (Own.drop0 (Own.drop0 (Own.drop0 (by assumption))))) | exact Own.dat0 (Own.drop0 (Own.drop0 (Own.drop0 (Own.drop0 (Own.drop0 (by assumption)))))) | exact Dat.mono (Own.ex (by assumption)) (by assumption) | exact Dat.mono (by assumption) (by assumption) | exact Dat.v)
local macro_rules | `(tactic| wtm_at "num") => `(tactic| first | decide | omega | exact Nat.le_of_ble_eq_true rfl | assumption | exact ⟨by decide, by decide⟩ | exact ⟨by omega, by omega⟩)
local macro_rules | `(tactic| wtm_at "cond") => `(tactic| first | exact (show (0 : Int) < _ by first | decide | omega) | exact (show CDiv _ _ from ⟨by first | decide | omega, by first | decide | omega⟩) | exact (show CMul _ _ from Or.inr ⟨by first | decide | omega, by first | decide | omega⟩) | exact (show CMul _ _ from Or.inl ⟨by first | decide | omega, by first | decide | omega⟩) | exact (show CPow _ _ from ⟨by decide, by decide, by decide⟩) | assumption)
local macro_rules | `(tactic| wtm_at "idx") => `(tactic| first | assumption | exact atI_nat (by assumption) | rfl | exact atI_last _ _)
local macro_rules | `(tactic| wtm_at "rd") => `(tactic| first
  | with_reducible exact rd_I0
  | ((with_reducible refine' rd_I ?c); (case c => wtm_at "cond"))
  | with_reducible exact rd_eqI | with_reducible exact rd_neI | with_reducible exact rd_eqS | with_reducible exact rd_neS
  | ((with_reducible refine' rd_ixL ?c); (case c => wtm_at "idx"))
  | ((with_reducible refine' rd_ixT ?c); (case c => wtm_at "idx"))
  | ((with_reducible refine' rd_ixS ?l ?c); (case l => wtm_at "num"); (case c => wtm_at "idx"))
  | ((with_reducible refine' rd_eq ?c); (case c => first | rfl | assumption)) | ((with_reducible refine' rd_ne ?c); (case c => first | rfl | assumption))
  | with_reducible exact rd_eqLI | with_reducible exact rd_neLI
  | exact rd_isN | exact rd_notN | exact rd_inS | (refine' rd_addS ?c; (case c => wtm_at "num"))
  | assumption)
local macro_rules | `(tactic| wtm_at "cd") => `(tactic| first | exact cd_lenM | exact cd_len | exact cd_lenT | (refine' cd_lenS ?c; (case c => wtm_at "num")) | exact cd_max2 | exact cd_min2 | exact cd_intB | exact cd_all | exact cd_isi_II | exact cd_isi_IB | exact cd_isi_LL | exact cd_isi_TT | exact cd_isi_SS | assumption)
local macro_rules | `(tactic| wtm_at "rel") => `(tactic| first | assumption | exact ⟨_, rfl, rfl⟩ | exact ⟨_, _, rfl, rfl⟩ | exact ⟨_, _, _, rfl, rfl⟩ | exact ⟨_, _, _, _, rfl, rfl⟩ | exact ⟨_, rfl, by wtm_at "num", rfl⟩ | exact ⟨_, _, rfl, by wtm_at "num", rfl⟩ | exact ⟨_, _, _, rfl, by wtm_at "num", rfl⟩ | exact ⟨_, _, _, _, rfl, by wtm_at "num", rfl⟩)
local macro_rules | `(tactic| wtm_at "ev") => `(tactic| first
  | with_reducible exact ev_c
  | ((with_reducible refine' ev_var ?h ?d); (case h => rfl); (case d => wtm_at "dat"))
  | ((with_reducible refine' ev_neg ?a); (case a => wtm_at "ev"))
  | ((with_reducible refine' ev_op ?a ?b ?r); (case a => wtm_at "ev"); (case b => wtm_at "ev"); (case r => wtm_at "rd"))
  | ((with_reducible refine' ev_call ?a ?r); (case a => wtm_at "eds"); (case r => wtm_at "rel"))
  | ((with_reducible refine' ev_cb ?a ?r); (case a => wtm_at "eds"); (case r => wtm_at "cd"))
  | ((with_reducible refine' ev_maxD ?a ?r); (case a => wtm_at "ev"); (case r => wtm_at "ev"))
  | ((with_reducible refine' ev_lst ?a ?r); (case a => wtm_at "eds"); (case r => wtm_at "num"))
  | ((with_reducible refine' ev_tup ?a ?r); (case a => wtm_at "eds"); (case r => wtm_at "num"))
  | ((with_reducible refine' ev_andV ?a ?r); (case a => wtm_at "ev"); (case r => intro _; wtm_at "ev"))
  | ((with_reducible refine' ev_orV ?a ?r); (case a => wtm_at "ev"); (case r => intro _; wtm_at "ev"))
  | ((with_reducible refine' ev_notV ?a); (case a => wtm_at "ev"))
  | ((with_reducible refine' EvN.d ?a); (case a => wtm_at "enx"))
  | assumption)
local macro_rules | `(tactic| wtm_at "eds") => `(tactic| first
  | with_reducible exact eds_nil
  | ((with_reducible refine' eds_cons ?a ?b); (case a => wtm_at "ev"); (case b => wtm_at "eds")))
local macro_rules | `(tactic| wtm_at "ens") => `(tactic| first
  | with_reducible exact ens_nil
  | ((with_reducible refine' ens_cons ?a ?b); (case a => wtm_at "en"); (case b => wtm_at "ens")))
local macro_rules | `(tactic| wtm_at "enx") => `(tactic| first
  | ((with_reducible refine' en_call ?a ?r); (case a => wtm_at "eds"); (case r => wtm_at "rel"))
  | ((with_reducible refine' en_lst ?a ?r); (case a => wtm_at "ens"); (case r => wtm_at "num"))
  | ((with_reducible refine' en_tup ?a ?r); (case a => wtm_at "ens"); (case r => wtm_at "num"))
  | ((with_reducible refine' en_lrev ?a); (case a => wtm_at "ev"))
  | ((with_reducible refine' en_lrgN (by assumption) ?a ?r); (case a => wtm_at "ev"); (case r => wtm_at "num"))
  | ((with_reducible refine' en_lrgK (by assumption) ?a ?r); (case a => wtm_at "ev"); (case r => wtm_at "num"))
  | ((with_reducible refine' en_lrg2K (by assumption) ?a ?b ?r); (case a => wtm_at "ev"); (case b => wtm_at "ev"); (case r => wtm_at "num"))
  | (refine' en_cb ?a cn_list; (case a => wtm_at "eds"))
  | ((with_reducible refine' en_sl ?a ?l ?h); (case a => wtm_at "ev"); (case l => wtm_at "eo"); (case h => wtm_at "eo")))
local macro_rules | `(tactic| wtm_at "en") => `(tactic| first | wtm_at "enx" | ((with_reducible refine' EvD.nK (by assumption) ?a); (case a => wtm_at "ev")))
local macro_rules | `(tactic| wtm_at "eo") => `(tactic| first | exact eo_none | (refine' eo_some ?a; (case a => wtm_at "ev")))
local macro_rules | `(tactic| wtm_at "et") => `(tactic| first
  | exact et_yes
  | ((with_reducible refine' et_testK (by assumption) ?a); (case a => wtm_at "ev"))
  | ((with_reducible refine' et_BK (by assumption) ?a); (case a => wtm_at "ev"))
  | ((with_reducible refine' et_not ?a); (case a => wtm_at "et"))
  | ((with_reducible refine' et_and ?a ?b); (case a => wtm_at "et"); (case b => intro _; wtm_at "et"))
  | ((with_reducible refine' et_or ?a ?b); (case a => wtm_at "et"); (case b => intro _; wtm_at "et")))
local macro_rules | `(tactic| wtm_at "et3") => `(tactic| ((with_reducible refine' et_chain3K (by assumption) ?a ?b ?r ?c ?s ?d ?u); (case a => wtm_at "ev"); (case b => wtm_at "ev"); (case r => wtm_at "rd"); (case c => intro _; wtm_at "ev"); (case s => intro _; wtm_at "rd"); (case d => intro _ _; wtm_at "ev"); (case u => intro _ _; wtm_at "rd")))
local macro_rules | `(tactic| wtm_at "ch") => `(tactic| ((with_reducible refine' ev_chainK ?a ?b ?r ?c ?s); (case a => wtm_at "ev"); (case b => wtm_at "ev"); (case r => wtm_at "rd"); (case c => intro _; wtm_at "ev"); (case s => intro _; wtm_at "rd")))

section
variable {P : Program} {w : World} {K : PySem.W.Frag} {mg : Str → Option Value} {base : Heap}
theorem ok_kind (T : Txt mg) (G : Glo mg) {f : Addr} {fd : FuncData} (F : Fun K "kind" "kind" s_kind f fd) (g : mg "kind" = some (.ref f)) (b : Binds K fd ["sign"] []) : Cal P w K mg base 1 "kind" ["sign"] (PSp K R_kind) := by
  refine .mk F g b (F.ok sc_kind (PSp.len fun _ _ h => by obtain ⟨c, rfl, rfl⟩ := h; rfl) (fun cdv A outer s H vs Q E hr h => ?_))
  obtain ⟨xs, d, hR, hD, q⟩ := h
  obtain ⟨c, rfl, rfl⟩ := hR
  obtain ⟨v0, rfl, D0⟩ := hD.n1
  obtain rfl := Dat.v_iff.mp D0
  refine ⟨_, (pss_cons (ps_if (pt_cmpR op_in_sign (pv 0) (pe_globS (by rfl) G.EAST) (by rfl))
    (pss_one (ps_ret pe_str))
    pss_nil)
    (pss_cons (ps_if (pt_cmpR op_in_sign (pv 0) (pe_globS (by rfl) G.WEST) (by rfl))
    (pss_one (ps_ret pe_str))
    pss_nil)
    (pss_cons (ps_if (pt_cmpR op_in_sign (pv 0) (pe_globS (by rfl) G.FIGURES) (by rfl))
    (pss_one (ps_ret pe_str))
    pss_nil)
    (pss_cons (ps_if (pt_cmpR op_in_sign (pv 0) pe_str (by rfl))
    (pss_one (ps_ret pe_str))
    pss_nil)
    (pss_cons (ps_if (pt_cmpR op_eq (pv 0) pe_str (nomark _))
    (pss_one (ps_ret pe_str))
    pss_nil)
    (pss_one (ps_ret pe_str))))))), ?_⟩
  try dsimp only [cxOf, Cx.nox, Cx.wish]
  have hk : IsK K := ⟨⟩
  have o : Own H H [] := Own.nil
  refine q_when o (by wtm_at "et") (fun hb H1 o => ?_) (fun hb H1 o => ?_)
  · refine s_retV o (by wtm_at "ev") (by rw [kindS, if_pos (show c ∈ eastC from of_decide_eq_true hb)] at q; exact q)
  rw [kindS, if_neg (show ¬ c ∈ eastC from of_decide_eq_false hb)] at q
  refine q_when o (by wtm_at "et") (fun hb H1 o => ?_) (fun hb H1 o => ?_)
  · refine s_retV o (by wtm_at "ev") (by rw [if_pos (show c ∈ westC from of_decide_eq_true hb)] at q; exact q)
  rw [if_neg (show ¬ c ∈ westC from of_decide_eq_false hb)] at q
  refine q_when o (by wtm_at "et") (fun hb H1 o => ?_) (fun hb H1 o => ?_)
  · refine s_retV o (by wtm_at "ev") (by rw [if_pos (show c ∈ figC from of_decide_eq_true hb)] at q; exact q)
  rw [if_neg (show ¬ c ∈ figC from of_decide_eq_false hb)] at q
  refine q_when o (by wtm_at "et") (fun hb H1 o => ?_) (fun hb H1 o => ?_)
  · refine s_retV o (by wtm_at "ev") (by rw [if_pos (show c ∈ openC from of_decide_eq_true hb)] at q; exact q)
  rw [if_neg (show ¬ c ∈ openC from of_decide_eq_false hb)] at q
  refine q_when o (by wtm_at "et") (fun hb H1 o => ?_) (fun hb H1 o => ?_)
  · refine s_retV o (by wtm_at "ev") (by rw [if_pos (of_decide_eq_true hb)] at q; exact q)
  rw [if_neg (of_decide_eq_false hb)] at q
  exact s_retV o (by wtm_at "ev") q

theorem ok_deeper (T : Txt mg) (G : Glo mg) {f : Addr} {fd : FuncData} (F : Fun K "deeper" "deeper" s_deeper f fd) (g : mg "deeper" = some (.ref f)) (b : Binds K fd ["sign", "ground"] []) : Cal P w K mg base 1 "deeper" ["sign", "ground"] (PSp K R_deeper) := by
  refine .mk F g b (F.ok sc_deeper (PSp.len fun _ _ h => by obtain ⟨c, g0, rfl, rfl⟩ := h; rfl) (fun cdv A outer s H vs Q E hr h => ?_))
  obtain ⟨xs, d, hR, hD, q⟩ := h
  obtain ⟨c, g0, rfl, rfl⟩ := hR
  obtain ⟨v0, v1, rfl, D0, D1⟩ := hD.n2
  obtain rfl := Dat.v_iff.mp D0
  obtain rfl := Dat.v_iff.mp D1
  refine ⟨_, (pss_cons (ps_if (pt_cmpR op_eq (pv 0) pe_str (nomark _))
    (pss_one (ps_ret (pe_op op_sub (pe_op op_add (pv 1) pe_int) (pe_op op_mod (pv 1) pe_int))))
    pss_nil)
    (pss_one (ps_ret (pe_op op_add (pe_op op_add (pv 1) pe_int) (pe_op op_mod (pv 1) pe_int))))), ?_⟩
  try dsimp only [cxOf, Cx.nox, Cx.wish]
  have hk : IsK K := ⟨⟩
  have o : Own H H [] := Own.nil
  refine q_when o (by wtm_at "et") (fun hb H1 o => ?_) (fun hb H1 o => ?_)
  · refine s_retV o (by wtm_at "ev") (by rw [deepF, if_pos (of_decide_eq_true hb)] at q; exact q)
  refine s_retV o (by wtm_at "ev") (by rw [deepF, if_neg (of_decide_eq_false hb)] at q; exact q)

theorem ok_walked (T : Txt mg) (G : Glo mg) {f : Addr} {fd : FuncData} (F : Fun K "walked" "walked" s_walked f fd) (g : mg "walked" = some (.ref f)) (b : Binds K fd ["text", "base"] []) (C_kind : Cal P w K mg base 1 "kind" ["sign"] (PSp K R_kind)) (C_deeper : Cal P w K mg base 1 "deeper" ["sign", "ground"] (PSp K R_deeper)) : Cal P w K mg base 2 "walked" ["text", "base"] (PSp K R_walked) := by
  refine .mk F g b (F.ok sc_walked (PSp.len fun _ _ h => by obtain ⟨T9, b9, rfl, ⟨hT, hb0, hb1⟩, rfl⟩ := h; rfl) (fun cdv A outer s H vs Q E hr h => ?_))
  obtain ⟨xs, d, hR, hD, q⟩ := h
  obtain ⟨T9, b9, rfl, ⟨hT, hb0, hb1⟩, rfl⟩ := hR
  obtain ⟨v0, v1, rfl, D0, D1⟩ := hD.n2
  obtain rfl := Dat.v_iff.mp D0
  obtain rfl := Dat.v_iff.mp D1
  refine ⟨_, (pss_cons (ps_set (i := 2) sc_walked.nd rfl (by first | exact Or.inl rfl | exact Or.inr rfl) (pe_lst pa_nil))
    (pss_cons (ps_set (i := 3) sc_walked.nd rfl (by first | exact Or.inl rfl | exact Or.inr rfl) (pe_lst (pa_cons (pv 1) pa_nil)))
    (pss_cons (ps_set (i := 4) sc_walked.nd rfl (by first | exact Or.inl rfl | exact Or.inr rfl) (pe_lst (pa_cons pe_int pa_nil)))
    (pss_cons (ps_set (i := 5) sc_walked.nd rfl (by first | exact Or.inl rfl | exact Or.inr rfl) (pe_lst (pa_cons pe_int pa_nil)))
    (pss_cons (ps_for PassesOwn.never rfl (pi_str (pv 0)) (pg_name (i := 6) sc_walked.nd rfl (by first | exact Or.inl rfl | exact Or.inr rfl))
    (pss_cons (ps_if (pt_cmpR op_eq (pe_callC C_kind hr (pa_cons (pv 6) pa_nil)) pe_str (nomark _))
      (pss_one (ps_if (pt_cmpR op_gt (pe_ixL K (pv 5) (pe_un un_neg pe_int)) pe_int (nomark _))
        (pss_one (ps_asg (pe_op op_sub (pe_ixL K (pv 5) (pe_un un_neg pe_int)) pe_int) (pg_sub (pv 5) (pe_un un_neg pe_int) set_list)))
        (pss_one (ps_if (pt_cmpR op_gt (pe_callB (call_len_seqK K) (by rfl) T.len_ PySem.boot_len (pa_cons (pv 4) pa_nil)) pe_int (nomark _))
          (pss_cons (ps_expr (pe_bm0 PySem.F.plainAttrs_list PySem.F.slot_list_pop PySem.F.type_list_pop mt_pop (pv 4)))
            (pss_one (ps_expr (pe_bm0 PySem.F.plainAttrs_list PySem.F.slot_list_pop PySem.F.type_list_pop mt_pop (pv 5)))))
          pss_nil))))
      pss_nil)
      (pss_cons (ps_expr (pe_bm PySem.F.plainAttrs_list PySem.F.slot_list_append PySem.F.type_list_append mt_append (pv 2) (pa_cons (pe_ixL K (pv 4) (pe_un un_neg pe_int)) pa_nil)))
      (pss_one (ps_if (pt_cmpR op_eq (pe_callC C_kind hr (pa_cons (pv 6) pa_nil)) pe_str (nomark _))
      (pss_cons (ps_set (i := 7) sc_walked.nd rfl (by first | exact Or.inl rfl | exact Or.inr rfl) (pe_callC C_deeper hr (pa_cons (pv 6) (pa_cons (pe_ixL K (pv 3) (pe_ixL K (pv 4) (pe_un un_neg pe_int))) pa_nil))))
        (pss_one (ps_if (pt_cmpR op_gt (pv 7) (pe_globI (by rfl) G.DEEPEST) (nomark _))
        (pss_one (ps_asg (pe_op op_add (pe_ixL K (pv 5) (pe_un un_neg pe_int)) pe_int) (pg_sub (pv 5) (pe_un un_neg pe_int) set_list)))
        (pss_cons (ps_expr (pe_bm PySem.F.plainAttrs_list PySem.F.slot_list_append PySem.F.type_list_append mt_append (pv 4) (pa_cons (pe_callB (call_len_seqK K) (by rfl) T.len_ PySem.boot_len (pa_cons (pv 3) pa_nil)) pa_nil)))
          (pss_cons (ps_expr (pe_bm PySem.F.plainAttrs_list PySem.F.slot_list_append PySem.F.type_list_append mt_append (pv 5) (pa_cons pe_int pa_nil)))
          (pss_one (ps_expr (pe_bm PySem.F.plainAttrs_list PySem.F.slot_list_append PySem.F.type_list_append mt_append (pv 3) (pa_cons (pv 7) pa_nil)))))))))
      pss_nil)))))
    (pss_one (ps_ret (pe_tup (pa_cons (pv 2) (pa_cons (pv 3) pa_nil)))))))))), ?_⟩
  try dsimp only [cxOf, Cx.nox, Cx.wish]
  have hk : IsK K := ⟨⟩
  have o : Own H H [] := Own.nil
  refine q_setE o (by wtm_at "en") fun pf Hb o => ?_
  refine q_setL (f := V.int) (ns := [b9]) o (show EvN _ _ _ (.l [di b9]) by wtm_at "en") fun pl Hb o => ?_
  refine q_setL (f := fun n : Nat => V.int n) (ns := [0]) o (show EvN _ _ _ (.l [di 0]) by wtm_at "en") fun pp Hb o => ?_
  refine q_setL (f := fun n : Nat => V.int n) (ns := [0]) o (show EvN _ _ _ (.l [di 0]) by wtm_at "en") fun ps Hb o => ?_
  have hOwn : ∀ {H1 : Hp} {s : Wk}, Own H H1 [(ps, .lst ((s.rest.map (·.2) ++ [s.top.2]).map fun n : Nat => V.int n)), (pp, .lst ((s.rest.map (·.1) ++ [s.top.1]).map fun n : Nat => V.int n)), (pl, .lst (s.floors.map V.int)), (pf, .lst (s.found.map fun n : Nat => V.int n))] → True := fun _ => trivial
  refine q_forS (w := tx T9) (j := 6) o (by wtm_at "ev") (fun pre σ' H' => ∃ x y, σ' = [some (.str (tx T9)), some (.int b9), some (.ref pf), some (.ref pl), some (.ref pp), some (.ref ps), x, y] ∧
    Own H H' [(ps, .lst (((wfold b9 pre).rest.map (·.2) ++ [(wfold b9 pre).top.2]).map fun n : Nat => V.int n)), (pp, .lst (((wfold b9 pre).rest.map (·.1) ++ [(wfold b9 pre).top.1]).map fun n : Nat => V.int n)), (pl, .lst ((wfold b9 pre).floors.map V.int)), (pf, .lst ((wfold b9 pre).found.map fun n : Nat => V.int n))]) (fun H1 o => ⟨none, none, rfl, o⟩) ?_ ?_
  rotate_left
  · rintro σ' H' ⟨x, y, rfl, o⟩
    rw [tx_cps] at o
    exact s_ret2 (f := fun n : Nat => V.int n) (g := V.int) o rfl rfl o.get3 o.get2 o.drop0.free2 o.free2 q
  rintro pre c post σ' H' hsp ⟨x, y, rfl, o⟩
  rw [tx_cps] at hsp
  have hpl : pre.length < 60 := by rw [hsp, List.length_append, List.length_cons] at hT; omega
  have hok := wfold_ok ⟨hb0, hb1⟩ pre
  rw [wfold_snoc, wstep]
  generalize wfold b9 pre = s at hok o
  have rk : R_kind [ds (sg c)] (ds (kindS c)) := ⟨_, rfl, rfl⟩
  refine q_whenM (fun σ' H' => σ' = [some (.str (tx T9)), some (.int b9), some (.ref pf), some (.ref pl), some (.ref pp), some (.ref ps), some (.str (sg c)), y] ∧
    Own H H' [(ps, .lst (((wclose c s).rest.map (·.2) ++ [(wclose c s).top.2]).map fun n : Nat => V.int n)), (pp, .lst (((wclose c s).rest.map (·.1) ++ [(wclose c s).top.1]).map fun n : Nat => V.int n)), (pl, .lst ((wclose c s).floors.map V.int)), (pf, .lst ((wclose c s).found.map fun n : Nat => V.int n))]) o (by wtm_at "et") ?_ (fun hb H1 o k => ?_) (fun hb H1 o => ⟨rfl, by
      rw [wclose, if_neg fun h => of_decide_eq_false hb ((kindS_close c).mpr h)]
      exact o⟩)
  rotate_left
  · have hcl : sg c = ("|" : Str) := (kindS_close c).mp (of_decide_eq_true hb)
    have ixs : atI ((s.rest.map (·.2) ++ [s.top.2]).map dn) (-1) = some (dn s.top.2) := by rw [List.map_append]; exact atI_last _ _
    have Ds : Dat K H1 (dN (s.rest.map (·.2) ++ [s.top.2])) (.ref ps) := Own.dat0 o
    refine s_if o (by wtm_at "et") (fun hb2 H2 o => ?_) (fun hb2 H2 o => ?_)
    · have h0 : 0 < s.top.2 := by have := of_decide_eq_true hb2; omega
      have Ds : Dat K H2 (dN (s.rest.map (·.2) ++ [s.top.2])) (.ref ps) := Own.dat0 o
      refine s_put (K := K) (j := s.rest.length) (n := -1) (v := .int ((s.top.2 - 1 : Nat) : Int)) o rfl o.get0 (fun _ _ o => o.put0) (EvD.is (by wtm_at "ev") (show D.v (.int ((s.top.2 : Int) - 1)) = _ by rw [show (s.top.2 : Int) - 1 = ((s.top.2 - 1 : Nat) : Int) by omega])) (fun H3 e3 => by wtm_at "ev") (by rw [List.length_map, List.length_append, List.length_map]; exact ixN_last _) fun H3 o => ?_
      refine k _ _ ⟨rfl, ?_⟩
      rw [wclose, if_pos hcl, if_pos h0]
      have es : ((s.rest.map (·.2) ++ [s.top.2]).map fun n : Nat => V.int n).set s.rest.length (.int ((s.top.2 - 1 : Nat) : Int)) = (s.rest.map (·.2) ++ [s.top.2 - 1]).map fun n : Nat => V.int n := by
        rw [map_snoc, map_snoc]
        have := set_last ((s.rest.map (·.2)).map fun n : Nat => V.int n) (V.int s.top.2) (V.int ((s.top.2 - 1 : Nat) : Int))
        rw [List.length_map, List.length_map] at this
        exact this
      rw [es] at o
      exact o
    · have h0 : ¬ 0 < s.top.2 := by have := of_decide_eq_false hb2; omega
      have Dp : Dat K H2 (dN (s.rest.map (·.1) ++ [s.top.1])) (.ref pp) := Own.dat0 o.drop0
      refine s_when o (by wtm_at "et") (fun hb3 H3 o => ?_) (fun hb3 H3 o => ?_)
      · have h1 : 0 < s.rest.length := by
          have := of_decide_eq_true hb3
          rw [List.length_append, List.length_map] at this
          simp at this
          omega
        rcases getLast_cases s.rest with hn | ⟨R9, t9, hn, hlast⟩
        · rw [hn] at h1; cases h1
        · rw [map_snoc, map_snoc] at o
          refine q_pop (v := .int s.top.1) o rfl o.get1 (fun _ _ o => o.put1) fun H4 o => ?_
          refine s_pop (v := .int s.top.2) o rfl o.get0 (fun _ _ o => o.put0) fun H5 o => ?_
          refine k _ _ ⟨rfl, ?_⟩
          rw [wclose, if_pos hcl, if_neg h0, hlast]
          show Own H _ [(ps, .lst ((s.rest.dropLast.map (·.2) ++ [t9.2]).map fun n : Nat => V.int n)), (pp, .lst ((s.rest.dropLast.map (·.1) ++ [t9.1]).map fun n : Nat => V.int n)), (pl, .lst (s.floors.map V.int)), (pf, .lst (s.found.map fun n : Nat => V.int n))]
          rw [hn, List.dropLast_concat]
          rw [hn] at o
          simp only [List.map_append, List.map_cons, List.map_nil] at o ⊢
          exact o
      · have h1 : s.rest = [] := by
          have := of_decide_eq_false hb3
          rw [List.length_append, List.length_map] at this
          simp at this
          exact List.length_eq_zero_iff.mp (by omega)
        refine k _ _ ⟨rfl, ?_⟩
        have e9 : wclose c s = s := by
          rw [wclose, if_pos hcl, if_neg h0, h1] <;> rfl
        rw [e9]
        exact o
  rintro σ' H2 ⟨rfl, o⟩
  have hok := wclose_ok hok c
  generalize wclose c s = s at hok o
  have ixp : atI ((s.rest.map (·.1) ++ [s.top.1]).map dn) (-1) = some (dn s.top.1) := by rw [List.map_append]; exact atI_last _ _
  have Dp : Dat K H2 (dN (s.rest.map (·.1) ++ [s.top.1])) (.ref pp) := Own.dat0 o.drop0
  refine q_app (v := .int (s.top.1 : Int)) o rfl o.get3 (fun _ _ o => o.put3) (by rw [List.length_map, hok.len]; omega) (by wtm_at "ev") fun H3 o => ?_
  rw [show (s.found.map fun n : Nat => V.int n) ++ [V.int (s.top.1 : Int)] = ((wmark s).found).map (fun n : Nat => V.int n) by rw [wmark, map_snoc]] at o
  refine s_when o (by wtm_at "et") (fun hb H4 o => ?_) (fun hb H4 o => ⟨_, _, rfl, by
    rw [wopen, if_neg fun h => of_decide_eq_false hb ((kindS_open c).mpr h)]
    exact o⟩)
  have hop : c ∈ openC := (kindS_open c).mp (of_decide_eq_true hb)
  have ixf : atI (s.floors.map di) (s.top.1 : Int) = some (di (s.floors.getD s.top.1 0)) := atI_getD 0 (by omega) (by have := hok.num.1; omega)
  have Dp : Dat K H4 (dN (s.rest.map (·.1) ++ [s.top.1])) (.ref pp) := Own.dat0 o.drop0
  have Df : Dat K H4 (dI s.floors) (.ref pl) := Own.dat0 o.drop0.drop0
  have rd9 : R_deeper [ds (sg c), di (s.floors.getD s.top.1 0)] (di (deepF c (s.floors.getD s.top.1 0))) := ⟨_, _, rfl, rfl⟩
  refine q_setV o (by wtm_at "ev") fun H5 o => ?_
  refine s_if o (by wtm_at "et") (fun hb2 H6 o => ?_) (fun hb2 H6 o => ?_)
  · have hd : deepF c (s.floors.getD s.top.1 0) > 6 := of_decide_eq_true hb2
    have ixs : atI ((s.rest.map (·.2) ++ [s.top.2]).map dn) (-1) = some (dn s.top.2) := by rw [List.map_append]; exact atI_last _ _
    have Ds : Dat K H6 (dN (s.rest.map (·.2) ++ [s.top.2])) (.ref ps) := Own.dat0 o
    refine s_put (K := K) (j := s.rest.length) (n := -1) (v := .int ((s.top.2 : Int) + 1)) o rfl o.get0 (fun _ _ o => o.put0) (by wtm_at "ev") (fun H3 e3 => by wtm_at "ev") (by rw [List.length_map, List.length_append, List.length_map]; exact ixN_last _) fun H3 o => ?_
    refine ⟨_, _, rfl, ?_⟩
    rw [wopen, if_pos hop]
    have hd' : deepF c ((wmark s).floors.getD (wmark s).top.1 0) > 6 := hd
    rw [if_pos hd']
    have es : ((s.rest.map (·.2) ++ [s.top.2]).map fun n : Nat => V.int n).set s.rest.length (.int ((s.top.2 : Int) + 1)) = (s.rest.map (·.2) ++ [s.top.2 + 1]).map fun n : Nat => V.int n := by
      rw [map_snoc, map_snoc]
      have := set_last ((s.rest.map (·.2)).map fun n : Nat => V.int n) (V.int s.top.2) (V.int ((s.top.2 : Int) + 1))
      rw [List.length_map, List.length_map] at this
      exact this
    rw [es] at o
    exact o
  · have hd : ¬ deepF c (s.floors.getD s.top.1 0) > 6 := of_decide_eq_false hb2
    have Df : Dat K H6 (dI s.floors) (.ref pl) := Own.dat0 o.drop0.drop0
    have hfl := hok.fl
    have hrl := hok.rl
    refine q_app (v := .int (s.floors.length : Int)) o rfl o.get1 (fun _ _ o => o.put1) (by rw [List.length_map, List.length_append, List.length_map]; show _ + 1 < _; omega) (by wtm_at "ev") fun H7 o => ?_
    refine q_app (v := .int 0) o rfl o.get0 (fun _ _ o => o.put0) (by rw [List.length_map, List.length_append, List.length_map]; show _ + 1 < _; omega) (by wtm_at "ev") fun H7 o => ?_
    refine s_app (v := .int (deepF c (s.floors.getD s.top.1 0))) o rfl o.get2 (fun _ _ o => o.put2) (by rw [List.length_map]; omega) (by wtm_at "ev") fun H8 o => ?_
    refine ⟨_, _, rfl, ?_⟩
    rw [wopen, if_pos hop]
    have hd' : ¬ deepF c ((wmark s).floors.getD (wmark s).top.1 0) > 6 := hd
    rw [if_neg hd']
    show Own H _ [(ps, .lst (((s.rest ++ [s.top]).map (fun e : Nat × Nat => e.2) ++ [0]).map fun n : Nat => V.int n)), (pp, .lst (((s.rest ++ [s.top]).map (fun e : Nat × Nat => e.1) ++ [s.floors.length]).map fun n : Nat => V.int n)), (pl, .lst ((s.floors ++ [deepF c (s.floors.getD s.top.1 0)]).map V.int)), (pf, .lst ((wmark s).found.map fun n : Nat => V.int n))]
    simp only [List.map_append, List.map_cons, List.map_nil] at o ⊢
    exact o

theorem ok_own_side (T : Txt mg) (G : Glo mg) {f : Addr} {fd : FuncData} (F : Fun K "own_side" "own_side" s_own_side f fd) (g : mg "own_side" = some (.ref f)) (b : Binds K fd ["ground"] []) : Cal P w K mg base 1 "own_side" ["ground"] (PSp K R_own_side) := by
  refine .mk F g b (F.ok sc_own_side (PSp.len fun _ _ h => by obtain ⟨g9, rfl, rfl⟩ := h; rfl) (fun cdv A outer s H vs Q E hr h => ?_))
  obtain ⟨xs, d, hR, hD, q⟩ := h
  obtain ⟨g9, rfl, rfl⟩ := hR
  obtain ⟨v0, rfl, D0⟩ := hD.n1
  obtain rfl := Dat.v_iff.mp D0
  refine ⟨_, (pss_one (ps_ret (pe_ixL K (pe_lst (pa_cons pe_str (pa_cons pe_str pa_nil))) (pe_op op_mod (pv 0) pe_int)))), ?_⟩
  try dsimp only [cxOf, Cx.nox, Cx.wish]
  have hk : IsK K := ⟨⟩
  have o : Own H H [] := Own.nil
  exact s_retV (K := K) o (ev_op (EvN.d (show EvN _ _ _ (.l [ds eaS, ds weS]) by wtm_at "en")) (by wtm_at "ev") (rd_ixL (own_at g9))) q

theorem ok_letters_ahead (T : Txt mg) (G : Glo mg) {f : Addr} {fd : FuncData} (F : Fun K "letters_ahead" "letters_ahead" s_letters_ahead f fd) (g : mg "letters_ahead" = some (.ref f)) (b : Binds K fd ["kinds", "own"] []) : Cal P w K mg base 1 "letters_ahead" ["kinds", "own"] (PSp K R_letters_ahead) := by
  refine .mk F g b (F.ok sc_letters_ahead (PSp.len fun _ _ h => by obtain ⟨ks, own, rfl, hks, rfl⟩ := h; rfl) (fun cdv A outer s H vs Q E hr h => ?_))
  obtain ⟨xs, d, hR, hD, q⟩ := h
  obtain ⟨ks, own, rfl, hks, rfl⟩ := hR
  obtain ⟨v0, v1, rfl, D0, D1⟩ := hD.n2
  obtain ⟨p0, rfl, S0⟩ := Dat.flatE D0
  obtain rfl := Dat.v_iff.mp D1
  refine ⟨_, (pss_cons (ps_set (i := 2) sc_letters_ahead.nd rfl (by first | exact Or.inl rfl | exact Or.inr rfl) (pe_lst pa_nil))
    (pss_cons (ps_set (i := 3) sc_letters_ahead.nd rfl (by first | exact Or.inl rfl | exact Or.inr rfl) (pv 1))
    (pss_cons (ps_for PassesOwn.never rfl (pi_list (pv 0)) (pg_name (i := 4) sc_letters_ahead.nd rfl (by first | exact Or.inl rfl | exact Or.inr rfl))
    (pss_cons (ps_expr (pe_bm PySem.F.plainAttrs_list PySem.F.slot_list_append PySem.F.type_list_append mt_append (pv 2) (pa_cons (pv 3) pa_nil)))
      (pss_one (ps_if (pt_cmpR (op_in_seqK K) (pv 4) (pe_tup (pa_cons pe_str (pa_cons pe_str pa_nil))) (by rfl))
      (pss_one (ps_set (i := 3) sc_letters_ahead.nd rfl (by first | exact Or.inl rfl | exact Or.inr rfl) (pv 4)))
      pss_nil))))
    (pss_one (ps_ret (pv 2)))))), ?_⟩
  try dsimp only [cxOf, Cx.nox, Cx.wish]
  have hk : IsK K := ⟨⟩
  have o : Own H H [] := Own.nil
  refine q_setE o (by wtm_at "en") fun pf Hb o => ?_
  refine q_setV o (by wtm_at "ev") fun H1 o => ?_
  refine q_forV (f := V.str) (ns := ks) (p := p0) (j := 4) rfl (ex_l o.ex S0) (fun pre σ' H' => ∃ x, σ' = [some (.ref p0), some (.str own), some (.ref pf), some (.str (pre.foldl (fun acc k => stepL k acc) own)), x] ∧ Own H H' [(pf, .lst ((laF own pre).map V.str))]) ⟨none, rfl, o⟩ (fun pre σ' H' ⟨_, _, o⟩ => ex_l o.ex S0) ?_ ?_
  rotate_left
  · rintro σ' H' ⟨x, rfl, o⟩
    exact s_retO o rfl o.get0 o.free0 q
  rintro pre k9 post σ' H' hsp ⟨x, rfl, o⟩
  have hpl : pre.length < 60 := by rw [hsp, List.length_append, List.length_cons] at hks; omega
  refine q_app (v := .str (pre.foldl (fun acc k => stepL k acc) own)) o rfl o.get0 (fun _ _ o => o.put0) (by rw [List.length_map, laF_len]; omega) (by wtm_at "ev") fun H2 o => ?_
  rw [show (laF own pre).map V.str ++ [V.str (pre.foldl (fun acc k => stepL k acc) own)] = (laF own (pre ++ [k9])).map V.str by rw [laF_snoc, map_snoc]] at o
  refine s_when (b := isL k9) o (et_testK hk (ev_op (ev_var rfl Dat.v) (ev_tup (eds_cons ev_c (eds_cons ev_c eds_nil)) (Nat.le_of_ble_eq_true rfl)) (rd_inT (f := V.str) (ns := [eaS, weS]) rfl rfl))) (fun hb H3 o => ?_) (fun hb H3 o => ?_)
  · refine s_setV o (by wtm_at "ev") fun H4 o => ⟨some (.str k9), ?_, o⟩
    rw [List.foldl_append]
    show _ = [_, _, _, some (V.str (stepL k9 _)), _]
    rw [stepL, if_pos hb] <;> rfl
  · refine ⟨some (.str k9), ?_, o⟩
    rw [List.foldl_append]
    show _ = [_, _, _, some (V.str (stepL k9 _)), _]
    rw [stepL, if_neg (by rw [hb]; decide)] <;> rfl

theorem ok_firm_sides (T : Txt mg) (G : Glo mg) {f : Addr} {fd : FuncData} (F : Fun K "firm_sides" "firm_sides" s_firm_sides f fd) (g : mg "firm_sides" = some (.ref f)) (b : Binds K fd ["kinds", "own"] []) (C_letters_ahead : Cal P w K mg base 1 "letters_ahead" ["kinds", "own"] (PSp K R_letters_ahead)) : Cal P w K mg base 2 "firm_sides" ["kinds", "own"] (PSp K R_firm_sides) := by
  refine .mk F g b (F.ok sc_firm_sides (PSp.len fun _ _ h => by obtain ⟨ks, own, rfl, hks, rfl⟩ := h; rfl) (fun cdv A outer s H vs Q E hr h => ?_))
  obtain ⟨xs, d, hR, hD, q⟩ := h
  obtain ⟨ks, own, rfl, hks, rfl⟩ := hR
  obtain ⟨v0, v1, rfl, D0, D1⟩ := hD.n2
  obtain ⟨p0, rfl, S0⟩ := Dat.flatE D0
  obtain rfl := Dat.v_iff.mp D1
  refine ⟨_, (pss_cons (ps_set (i := 2) sc_firm_sides.nd rfl (by first | exact Or.inl rfl | exact Or.inr rfl) (pe_lst pa_nil))
    (pss_cons (ps_for PassesOwn.never rfl (pi_zip (by rfl) T.zip_ (pa_cons (pv 0) (pa_cons (pe_callC C_letters_ahead hr (pa_cons (pv 0) (pa_cons (pv 1) pa_nil))) pa_nil))) (pg_tup rfl (pgs_cons (pg_name (i := 3) sc_firm_sides.nd rfl (by first | exact Or.inl rfl | exact Or.inr rfl)) (pgs_cons (pg_name (i := 4) sc_firm_sides.nd rfl (by first | exact Or.inl rfl | exact Or.inr rfl)) pgs_nil)))
    (pss_one (ps_if (pt_cmpR (op_in_seqK K) (pv 3) (pe_tup (pa_cons pe_str (pa_cons pe_str pa_nil))) (by rfl))
      (pss_one (ps_expr (pe_bm PySem.F.plainAttrs_list PySem.F.slot_list_append PySem.F.type_list_append mt_append (pv 2) (pa_cons (pv 3) pa_nil))))
      (pss_one (ps_if (pt_cmpR op_eq (pv 3) pe_str (nomark _))
        (pss_one (ps_expr (pe_bm PySem.F.plainAttrs_list PySem.F.slot_list_append PySem.F.type_list_append mt_append (pv 2) (pa_cons (pv 4) pa_nil))))
        (pss_one (ps_expr (pe_bm PySem.F.plainAttrs_list PySem.F.slot_list_append PySem.F.type_list_append mt_append (pv 2) (pa_cons pe_non pa_nil)))))))))
    (pss_one (ps_ret (pv 2))))), ?_⟩
  try dsimp only [cxOf, Cx.nox, Cx.wish]
  have hk : IsK K := ⟨⟩
  have o : Own H H [] := Own.nil
  refine q_setE o (by wtm_at "en") fun pf Hb o => ?_
  have rl : R_letters_ahead [dS ks, ds own] (dS (laF own ks)) := ⟨_, _, rfl, hks, rfl⟩
  have hle := laF_len ks own
  refine q_forZN (f := V.str) (g := V.str) (ns := ks) (ms := laF own ks) (a := 0) (i := 3) (j := 4) o hle.symm rfl (ex_l o.ex S0) (en_call (by wtm_at "eds") rl) (fun q9 m σ' H' => ∃ x y, σ' = [some (.ref p0), some (.str own), some (.ref pf), x, y] ∧ Own H H' [(pf, .lst (((fmF own ks).take m).map oSV)), (q9, .lst ((laF own ks).map V.str))]) (fun q9 H1 o => ⟨none, none, rfl, o.swap⟩) (fun q9 m σ' H' ⟨_, _, _, o⟩ => ⟨ex_l o.ex S0, sq_of o.get1⟩) ?_ ?_
  rotate_left
  · rintro q9 σ' H' ⟨x, y, rfl, o⟩
    rw [List.take_of_length_le (by rw [fmF_len]; exact Nat.le_refl _)] at o
    exact s_retO (f := oSV) (ns := fmF own ks) o rfl o.get0 o.free0 q
  rintro q9 m k9 a9 σ' H' H'' hx hy ⟨x, y, rfl, o⟩ ex
  have o := o.grow ex
  have hm : m < ks.length := (List.getElem?_eq_some_iff.mp hx).1
  have hget : (fmF own ks)[m]? = some (fmO k9 a9) := by rw [fmF_zip, List.getElem?_zipWith, hx, hy]
  have htk : (fmF own ks).take (m + 1) = (fmF own ks).take m ++ [fmO k9 a9] := by
    obtain ⟨hl, he⟩ := List.getElem?_eq_some_iff.mp hget
    rw [Tx.take_snoc hl, he]
  have hml : (((fmF own ks).take m).map oSV).length < 100000 := by rw [List.length_map, List.length_take]; omega
  rw [htk, map_snoc]
  refine s_if (b := isL k9) o (et_testK hk (ev_op (ev_var rfl Dat.v) (ev_tup (eds_cons ev_c (eds_cons ev_c eds_nil)) (Nat.le_of_ble_eq_true rfl)) (rd_inT (f := V.str) (ns := [eaS, weS]) rfl rfl))) (fun hb H3 o => ?_) (fun hb H3 o => ?_)
  · refine s_app (v := .str k9) o rfl o.get0 (fun _ _ o => o.put0) hml (by wtm_at "ev") fun H4 o => ⟨_, _, rfl, ?_⟩
    rw [fmO, if_pos hb]
    exact o
  · rw [fmO, if_neg (by rw [hb]; decide)]
    refine s_if o (by wtm_at "et") (fun hb2 H4 o => ?_) (fun hb2 H4 o => ?_)
    · refine s_app (v := .str a9) o rfl o.get0 (fun _ _ o => o.put0) hml (by wtm_at "ev") fun H4 o => ⟨_, _, rfl, ?_⟩
      rw [if_pos (of_decide_eq_true hb2)]
      exact o
    · refine s_app (v := .non) o rfl o.get0 (fun _ _ o => o.put0) hml (by wtm_at "ev") fun H4 o => ⟨_, _, rfl, ?_⟩
      rw [if_neg (of_decide_eq_false hb2)]
      exact o

theorem ok_carried (T : Txt mg) (G : Glo mg) {f : Addr} {fd : FuncData} (F : Fun K "carried" "carried" s_carried f fd) (g : mg "carried" = some (.ref f)) (b : Binds K fd ["sides", "own"] []) : Cal P w K mg base 1 "carried" ["sides", "own"] (PSp K R_carried) := by
  refine .mk F g b (F.ok sc_carried (PSp.len fun _ _ h => by obtain ⟨os, own, rfl, hks, rfl⟩ := h; rfl) (fun cdv A outer s H vs Q E hr h => ?_))
  obtain ⟨xs, d, hR, hD, q⟩ := h
  obtain ⟨os, own, rfl, hks, rfl⟩ := hR
  obtain ⟨v0, v1, rfl, D0, D1⟩ := hD.n2
  obtain ⟨p0, rfl, S0⟩ := Dat.flatE D0
  obtain rfl := Dat.v_iff.mp D1
  refine ⟨_, (pss_cons (ps_set (i := 2) sc_carried.nd rfl (by first | exact Or.inl rfl | exact Or.inr rfl) (pe_lst pa_nil))
    (pss_cons (ps_set (i := 3) sc_carried.nd rfl (by first | exact Or.inl rfl | exact Or.inr rfl) (pv 1))
    (pss_cons (ps_for PassesOwn.never rfl (pi_list (pv 0)) (pg_name (i := 4) sc_carried.nd rfl (by first | exact Or.inl rfl | exact Or.inr rfl))
    (pss_cons (ps_expr (pe_bm PySem.F.plainAttrs_list PySem.F.slot_list_append PySem.F.type_list_append mt_append (pv 2) (pa_cons (pv 3) pa_nil)))
      (pss_one (ps_if (pt_cmpR op_notN (pv 4) pe_non (nomark _))
      (pss_one (ps_set (i := 3) sc_carried.nd rfl (by first | exact Or.inl rfl | exact Or.inr rfl) (pv 4)))
      pss_nil))))
    (pss_one (ps_ret (pv 2)))))), ?_⟩
  try dsimp only [cxOf, Cx.nox, Cx.wish]
  have hk : IsK K := ⟨⟩
  have o : Own H H [] := Own.nil
  refine q_setE o (by wtm_at "en") fun pf Hb o => ?_
  refine q_setV o (by wtm_at "ev") fun H1 o => ?_
  refine q_forV (f := oSV) (ns := os) (p := p0) (j := 4) rfl (ex_l o.ex S0) (fun pre σ' H' => ∃ x, σ' = [some (.ref p0), some (.str own), some (.ref pf), some (.str (pre.foldl (fun acc s => s.getD acc) own)), x] ∧ Own H H' [(pf, .lst ((caF own pre).map V.str))]) ⟨none, rfl, o⟩ (fun pre σ' H' ⟨_, _, o⟩ => ex_l o.ex S0) ?_ ?_
  rotate_left
  · rintro σ' H' ⟨x, rfl, o⟩
    exact s_retO o rfl o.get0 o.free0 q
  rintro pre k9 post σ' H' hsp ⟨x, rfl, o⟩
  have hpl : pre.length < 60 := by rw [hsp, List.length_append, List.length_cons] at hks; omega
  refine q_app (v := .str (pre.foldl (fun acc s => s.getD acc) own)) o rfl o.get0 (fun _ _ o => o.put0) (by rw [List.length_map, caF_len]; omega) (by wtm_at "ev") fun H2 o => ?_
  rw [show (caF own pre).map V.str ++ [V.str (pre.foldl (fun acc s => s.getD acc) own)] = (caF own (pre ++ [k9])).map V.str by rw [caF_snoc, map_snoc]] at o
  cases k9 with
  | none =>
    refine s_when (b := false) o (EvT.is (by wtm_at "et") (by rfl)) (fun hb => by cases hb) (fun hb H3 o => ?_)
    refine ⟨some .non, ?_, o⟩
    rw [List.foldl_append] <;> rfl
  | some s9 =>
    refine s_when (b := true) o (EvT.is (by wtm_at "et") (by rfl)) (fun hb H3 o => ?_) (fun hb => by cases hb)
    refine s_setV o (by wtm_at "ev") fun H4 o => ⟨some (.str s9), ?_, o⟩
    rw [List.foldl_append] <;> rfl

theorem ok_stretch_sides (T : Txt mg) (G : Glo mg) {f : Addr} {fd : FuncData} (F : Fun K "stretch_sides" "stretch_sides" s_stretch_sides f fd) (g : mg "stretch_sides" = some (.ref f)) (b : Binds K fd ["kinds", "own"] []) (C_firm_sides : Cal P w K mg base 2 "firm_sides" ["kinds", "own"] (PSp K R_firm_sides)) (C_carried : Cal P w K mg base 1 "carried" ["sides", "own"] (PSp K R_carried)) : Cal P w K mg base 3 "stretch_sides" ["kinds", "own"] (PSp K R_stretch_sides) := by
  refine .mk F g b (F.ok sc_stretch_sides (PSp.len fun _ _ h => by obtain ⟨ks, own, rfl, hks, rfl⟩ := h; rfl) (fun cdv A outer s H vs Q E hr h => ?_))
  obtain ⟨xs, d, hR, hD, q⟩ := h
  obtain ⟨ks, own, rfl, hks, rfl⟩ := hR
  obtain ⟨v0, v1, rfl, D0, D1⟩ := hD.n2
  obtain ⟨p0, rfl, S0⟩ := Dat.flatE D0
  obtain rfl := Dat.v_iff.mp D1
  refine ⟨_, (pss_cons (ps_set (i := 2) sc_stretch_sides.nd rfl (by first | exact Or.inl rfl | exact Or.inr rfl) (pe_callC C_firm_sides hr (pa_cons (pv 0) (pa_cons (pv 1) pa_nil))))
    (pss_cons (ps_set (i := 3) sc_stretch_sides.nd rfl (by first | exact Or.inl rfl | exact Or.inr rfl) (pe_callC C_carried hr (pa_cons (pv 2) (pa_cons (pv 1) pa_nil))))
    (pss_cons (ps_set (i := 4) sc_stretch_sides.nd rfl (by first | exact Or.inl rfl | exact Or.inr rfl) (pe_listRev rfl (by rfl) T.list_ (by rfl) T.reversed_ (pe_callC C_carried hr (pa_cons (pe_listRev rfl (by rfl) T.list_ (by rfl) T.reversed_ (pv 2)) (pa_cons (pv 1) pa_nil)))))
    (pss_cons (ps_set (i := 5) sc_stretch_sides.nd rfl (by first | exact Or.inl rfl | exact Or.inr rfl) (pe_lst pa_nil))
    (pss_cons (ps_for PassesOwn.never rfl (pi_range1 (by rfl) T.range_ (pa_cons (pe_callB (call_len_seqK K) (by rfl) T.len_ PySem.boot_len (pa_cons (pv 2) pa_nil)) pa_nil)) (pg_name (i := 6) sc_stretch_sides.nd rfl (by first | exact Or.inl rfl | exact Or.inr rfl))
    (pss_one (ps_if (pt_cmpR op_notN (pe_ixL K (pv 2) (pv 6)) pe_non (nomark _))
      (pss_one (ps_expr (pe_bm PySem.F.plainAttrs_list PySem.F.slot_list_append PySem.F.type_list_append mt_append (pv 5) (pa_cons (pe_ixL K (pv 2) (pv 6)) pa_nil))))
      (pss_one (ps_if (pt_cmpR op_eq (pe_ixL K (pv 3) (pv 6)) (pe_ixL K (pv 4) (pv 6)) (nomark _))
        (pss_one (ps_expr (pe_bm PySem.F.plainAttrs_list PySem.F.slot_list_append PySem.F.type_list_append mt_append (pv 5) (pa_cons (pe_ixL K (pv 3) (pv 6)) pa_nil))))
        (pss_one (ps_expr (pe_bm PySem.F.plainAttrs_list PySem.F.slot_list_append PySem.F.type_list_append mt_append (pv 5) (pa_cons (pv 1) pa_nil)))))))))
    (pss_one (ps_ret (pv 5)))))))), ?_⟩
  try dsimp only [cxOf, Cx.nox, Cx.wish]
  have hk : IsK K := ⟨⟩
  have o : Own H H [] := Own.nil
  have rf : R_firm_sides [dS ks, ds own] (dO (fmF own ks)) := ⟨_, _, rfl, hks, rfl⟩
  have hfl := fmF_len ks own
  have rc1 : R_carried [dO (fmF own ks), ds own] (dS (caF own (fmF own ks))) := ⟨_, _, rfl, by omega, rfl⟩
  have rc2 : R_carried [dO (fmF own ks).reverse, ds own] (dS (caF own (fmF own ks).reverse)) := ⟨_, _, rfl, by rw [List.length_reverse]; omega, rfl⟩
  have h1l := caF_len (fmF own ks) own
  have h2l : (caF own (fmF own ks).reverse).reverse.length = ks.length := by rw [List.length_reverse, caF_len, List.length_reverse, hfl]
  unfold ssF at q
  generalize fmF own ks = fm at rf hfl rc1 rc2 h1l h2l q
  generalize caF own fm = ca at rc1 h1l q
  generalize hcb : (caF own fm.reverse).reverse = cb at h2l q
  refine q_setL (f := oSV) (ns := fm) o (en_call (by wtm_at "eds") rf) fun p2 H1 o => ?_
  have Df : Dat K H1 (dO fm) (.ref p2) := Own.dat0 o
  refine q_setL (f := V.str) (ns := ca) o (en_call (by wtm_at "eds") rc1) fun p3 H2 o => ?_
  have Df : Dat K H2 (dO fm) (.ref p2) := Own.dat0 o.drop0
  refine q_setL (f := V.str) (ns := cb) o (by
    rw [← hcb]
    exact en_lrev (f := V.str) (ev_call (eds_cons (EvN.d (en_lrev (f := oSV) (ev_var rfl Df))) (eds_cons (ev_var rfl Dat.v) eds_nil)) rc2)) fun p4 H3 o => ?_
  refine q_setE o (by wtm_at "en") fun pf Hb o => ?_
  have Df : Dat K Hb (dO fm) (.ref p2) := Own.dat0 o.drop0.drop0.drop0
  refine q_forR (n := (fm.length : Int)) o (by wtm_at "eds") (by omega) (fun i σ' H' => ∃ x, σ' = [some (.ref p0), some (.str own), some (.ref p2), some (.ref p3), some (.ref p4), some (.ref pf), x] ∧ Own H H' [(pf, .lst (((List.range i).map fun i => pick own (fm.getD i none) (ca.getD i own) (cb.getD i own)).map V.str)), (p4, .lst (cb.map V.str)), (p3, .lst (ca.map V.str)), (p2, .lst (fm.map oSV))]) (fun H1 o => ⟨none, rfl, o⟩) ?_ ?_
  rotate_left
  · rintro σ' H' ⟨x, rfl, o⟩
    rw [Int.toNat_natCast, hfl] at o
    exact s_retO o rfl o.get0 o.free0 q
  rintro i σ' H' hi ⟨x, rfl, o⟩
  have hi : i < ks.length := by omega
  have ixf : atI (fm.map fun o => D.v (oSV o)) (i : Int) = some (.v (oSV (fm.getD i none))) := atI_getD none (by omega) (by omega)
  have ixa : atI (ca.map ds) (i : Int) = some (ds (ca.getD i own)) := atI_getD (f := ds) own (by omega) (by omega)
  have ixb : atI (cb.map ds) (i : Int) = some (ds (cb.getD i own)) := atI_getD (f := ds) own (by omega) (by omega)
  have hml : (((List.range i).map fun i => pick own (fm.getD i none) (ca.getD i own) (cb.getD i own)).map V.str).length < 100000 := by rw [List.length_map, List.length_map, List.length_range]; omega
  rw [List.range_succ, map_snoc, map_snoc]
  have Df : Dat K H' (dO fm) (.ref p2) := Own.dat0 o.drop0.drop0.drop0
  have Da : Dat K H' (dS ca) (.ref p3) := Own.dat0 o.drop0.drop0
  have Db : Dat K H' (dS cb) (.ref p4) := Own.dat0 o.drop0
  have ho : Own H' H' [] := Own.nil
  generalize fm.getD i none = f9 at ixf
  generalize ca.getD i own = a9 at ixa
  generalize cb.getD i own = b9 at ixb
  cases f9 with
  | some s9 =>
    refine s_if (b := true) o (EvT.is (et_testK hk (ev_op (ev_op (ev_var rfl Df) (ev_var rfl Dat.v) (rd_ixL ixf)) ev_c rd_notN)) (by rfl)) (fun hb H3 o => ?_) (fun hb => by cases hb)
    have Df : Dat K H3 (dO fm) (.ref p2) := Own.dat0 o.drop0.drop0.drop0
    exact s_app (v := .str s9) o rfl o.get0 (fun _ _ o => o.put0) hml (ev_op (ev_var rfl Df) (ev_var rfl Dat.v) (rd_ixL ixf)) fun H4 o => ⟨_, rfl, o⟩
  | none =>
    refine s_if (b := false) o (EvT.is (et_testK hk (ev_op (ev_op (ev_var rfl Df) (ev_var rfl Dat.v) (rd_ixL ixf)) ev_c rd_notN)) (by rfl)) (fun hb => by cases hb) (fun hb H3 o => ?_)
    have Da : Dat K H3 (dS ca) (.ref p3) := Own.dat0 o.drop0.drop0
    have Db : Dat K H3 (dS cb) (.ref p4) := Own.dat0 o.drop0
    refine s_if (b := decide (a9 = b9)) o (et_testK hk (ev_op (ev_op (ev_var rfl Da) (ev_var rfl Dat.v) (rd_ixL ixa)) (ev_op (ev_var rfl Db) (ev_var rfl Dat.v) (rd_ixL ixb)) rd_eqS)) (fun hb H4 o => ?_) (fun hb H4 o => ?_)
    · have Da : Dat K H4 (dS ca) (.ref p3) := Own.dat0 o.drop0.drop0
      refine s_app (v := .str a9) o rfl o.get0 (fun _ _ o => o.put0) hml (ev_op (ev_var rfl Da) (ev_var rfl Dat.v) (rd_ixL ixa)) fun H5 o => ⟨_, rfl, ?_⟩
      rw [show pick own none a9 b9 = a9 from if_pos (of_decide_eq_true hb)]
      exact o
    · refine s_app (v := .str own) o rfl o.get0 (fun _ _ o => o.put0) hml (by wtm_at "ev") fun H5 o => ⟨_, rfl, ?_⟩
      rw [show pick own none a9 b9 = own from if_neg (of_decide_eq_false hb)]
      exact o

theorem ok_sides (T : Txt mg) (G : Glo mg) {f : Addr} {fd : FuncData} (F : Fun K "sides" "sides" s_sides f fd) (g : mg "sides" = some (.ref f)) (b : Binds K fd ["text", "base"] []) (C_walked : Cal P w K mg base 2 "walked" ["text", "base"] (PSp K R_walked)) (C_stretch_sides : Cal P w K mg base 3 "stretch_sides" ["kinds", "own"] (PSp K R_stretch_sides)) (C_kind : Cal P w K mg base 1 "kind" ["sign"] (PSp K R_kind)) (C_own_side : Cal P w K mg base 1 "own_side" ["ground"] (PSp K R_own_side)) : Cal P w K mg base 4 "sides" ["text", "base"] (PSp K R_sides) := by
  refine .mk F g b (F.ok sc_sides (PSp.len fun _ _ h => by obtain ⟨T9, b9, rfl, ⟨hT, hb0, hb1⟩, rfl⟩ := h; rfl) (fun cdv A outer s H vs Q E hr h => ?_))
  obtain ⟨xs, d, hR, hD, q⟩ := h
  obtain ⟨T9, b9, rfl, ⟨hT, hb0, hb1⟩, rfl⟩ := hR
  obtain ⟨v0, v1, rfl, D0, D1⟩ := hD.n2
  obtain rfl := Dat.v_iff.mp D0
  obtain rfl := Dat.v_iff.mp D1
  refine ⟨_, (pss_cons (ps_set (i := 2) sc_sides.nd rfl (by first | exact Or.inl rfl | exact Or.inr rfl) (pe_callC C_walked hr (pa_cons (pv 0) (pa_cons (pv 1) pa_nil))))
    (pss_cons (ps_setLc (i := 3) (own := [("sign", 4)]) (g := gName 4) rfl sc_sides.nd rfl rfl (sw_true rfl rfl rfl (by decide +kernel)) (pi_str (pv 0)) (blkOk_by (N := ["text", "base", "told", "found", "sign", "number", "places", "row", "at", "side"]) (sc := defScope s_sides) (by decide +kernel)) (fun _ _ _ _ _ => pg_name (i := 4) sc_sides.nd rfl (Or.inl rfl)) (fun _ _ _ _ _ => pts_nil) (fun _ _ _ _ _ => pe_non))
    (pss_cons (ps_for PassesOwn.never rfl (pi_range1 (by rfl) T.range_ (pa_cons (pe_callB (call_len_seqK K) (by rfl) T.len_ PySem.boot_len (pa_cons (pe_ixTu K (pv 2) pe_int) pa_nil)) pa_nil)) (pg_name (i := 5) sc_sides.nd rfl (by first | exact Or.inl rfl | exact Or.inr rfl))
    (pss_cons (ps_setLc (i := 6) (own := [("at", 8)]) (g := gName 8) rfl sc_sides.nd rfl rfl (sw_true rfl rfl rfl (by decide +kernel)) (pi_range1 (by rfl) T.range_ (pa_cons (pe_callB call_len_str (by rfl) T.len_ PySem.boot_len (pa_cons (pv 0) pa_nil)) pa_nil)) (blkOk_by (N := ["text", "base", "told", "found", "sign", "number", "places", "row", "at", "side"]) (sc := defScope s_sides) (by decide +kernel)) (fun _ _ _ _ _ => pg_name (i := 8) sc_sides.nd rfl (Or.inl rfl)) (fun _ _ _ _ _ => (pts_one (pt_cmpR op_eq (pe_ixL K (pe_ixTu K (pv 2) pe_int) (pv 8)) (pv 5) (nomark _)))) (fun _ _ _ _ _ => (pv 8)))
      (pss_cons (ps_set (i := 7) sc_sides.nd rfl (by first | exact Or.inl rfl | exact Or.inr rfl) (pe_callC C_stretch_sides hr (pa_cons (pe_lc (own := [("at", 8)]) (g := gName 8) rfl sc_sides.nd (pi_list (pv 6)) (blkOk_by (N := ["text", "base", "told", "found", "sign", "number", "places", "row", "at", "side"]) (sc := defScope s_sides) (by decide +kernel)) (fun _ _ _ _ _ => pg_name (i := 8) sc_sides.nd rfl (Or.inl rfl)) (fun _ _ _ _ _ => pts_nil) (fun _ _ _ _ _ => (pe_callC C_kind hr (pa_cons (pe_ix ix_str (pv 0) (pv 8) (fun _ _ => rfl)) pa_nil)))) (pa_cons (pe_callC C_own_side hr (pa_cons (pe_ixL K (pe_ixTu K (pv 2) pe_int) (pv 5)) pa_nil)) pa_nil))))
      (pss_one (ps_for PassesOwn.never rfl (pi_zip (by rfl) T.zip_ (pa_cons (pv 6) (pa_cons (pv 7) pa_nil))) (pg_tup rfl (pgs_cons (pg_name (i := 8) sc_sides.nd rfl (by first | exact Or.inl rfl | exact Or.inr rfl)) (pgs_cons (pg_name (i := 9) sc_sides.nd rfl (by first | exact Or.inl rfl | exact Or.inr rfl)) pgs_nil)))
      (pss_one (ps_asg (pv 9) (pg_sub (pv 3) (pv 8) set_list))))))))
    (pss_one (ps_ret (pv 3)))))), ?_⟩
  try dsimp only [cxOf, Cx.nox, Cx.wish]
  have hk : IsK K := ⟨⟩
  have o : Own H H [] := Own.nil
  have rw9 : R_walked [ds (tx T9), di b9] (dTold (stF b9 T9) (flF b9 T9)) := ⟨_, _, rfl, ⟨hT, hb0, hb1⟩, rfl⟩
  have htd := told_ok hT ⟨hb0, hb1⟩
  have hfl : (flF b9 T9).length ≤ 61 := by have := (wfold_ok ⟨hb0, hb1⟩ T9).fl; exact Nat.le_trans this (by omega)
  unfold sidesF at q
  generalize stF b9 T9 = st at rw9 htd q
  generalize flF b9 T9 = fl at rw9 htd hfl q
  refine q_setN o (en_call (by wtm_at "eds") rw9) fun v2 H1 o e1 dd => ?_
  have eb := o.ex
  have Dt : Dat K H1 (dTold st fl) v2 := dd.d
  clear o dd
  have o : Own H1 H1 [] := Own.nil
  refine q_setL (f := oSV) (ns := foundM T9 st fl 0) o (EvN.is (en_lcS1 (K := K) (w := tx T9) (fun _ => d0) (ev_var rfl Dat.v) (by rw [tx_cps]; omega) (fun _ => rfl) (fun _ _ H2 e2 => EvD.nK hk ev_c)) (by rw [tx_cps]; exact foundM_zero T9 st fl)) fun pf H2 o => ?_
  refine q_forR (n := (fl.length : Int)) o (eds_cons (ev_cb (eds_cons (ev_op (ev_var rfl (Dt.mono o.ex)) ev_c (rd_ixT rfl)) eds_nil) cd_lenM) eds_nil) (by omega) (fun m σ' H' => ∃ x y z u w, σ' = [some (.str (tx T9)), some (.int b9), some v2, some (.ref pf), none, x, y, z, u, w] ∧ Own H1 H' [(pf, .lst ((foundM T9 st fl m).map oSV))]) (fun H1 o => ⟨none, none, none, none, none, rfl, o⟩) ?_ ?_
  rotate_left
  · rintro σ' H' ⟨x, y, z, u, w, rfl, o⟩
    rw [Int.toNat_natCast, foundM_all htd] at o
    exact s_retO (f := V.str) (ns := (List.range T9.length).map (sideA st (T9.map kindS) fl)) o rfl o.get0 o.free0 fun v H2 e d => q v H2 (eb.trans e) (d.mono eb (Evl.Ex.refl _))
  rintro m σ' H' hm ⟨x, y, z, u, w, rfl, o⟩
  have hm : m < fl.length := by omega
  have Dt' := Dt.mono o.ex
  refine q_setL (f := fun n : Nat => V.int n) (ns := placesA st (T9.map kindS) m) o (EvN.is (en_lcR (K := K) (n := (T9.length : Int)) (sameA st m) (fun j => dn j) (eds_cons (EvD.is (ev_cb (eds_cons (ev_var rfl Dat.v) eds_nil) (cd_lenS (by rw [tx_len]; omega))) (by rw [tx_len])) eds_nil) (by omega) (fun _ => rfl) (fun j hj H3 e3 => EvT.is (et_testK hk (ev_op (ev_told0 (ev_var rfl (Dt'.mono e3)) (ev_var rfl Dat.v) (by rw [htd.s]; omega)) (ev_var rfl Dat.v) rd_eqI)) (decide_eq_decide.mpr (by omega))) (fun j hj H3 e3 _ => EvD.nK hk (ev_var rfl Dat.v))) (by
    unfold placesA
    rw [Int.toNat_natCast, List.length_map] <;> rfl)) fun pp H3 o => ?_
  have Dp : Dat K H3 (dN (placesA st (T9.map kindS) m)) (.ref pp) := Own.dat0 o
  have Dt3 := Dt.mono o.ex
  have hpl : (placesA st (T9.map kindS) m).length ≤ 60 := by
    unfold placesA
    have := List.length_filter_le (sameA st m) (List.range (T9.map kindS).length)
    rw [List.length_range, List.length_map] at this
    rw [List.length_map]
    omega
  have ro : R_own_side [di (fl.getD m 0)] (ds (ownA fl m)) := ⟨_, rfl, rfl⟩
  have rs : R_stretch_sides [dS ((placesA st (T9.map kindS) m).map (kdA (T9.map kindS))), ds (ownA fl m)] (dS ((placesA st (T9.map kindS) m).map (sideA st (T9.map kindS) fl))) := ⟨_, _, rfl, by rw [List.length_map]; exact hpl, by rw [ss_law]⟩
  refine q_setL (f := V.str) (ns := (placesA st (T9.map kindS) m).map (sideA st (T9.map kindS) fl)) o (en_call (eds_cons (EvN.d (EvN.is (en_lcL1 (K := K) (ns := placesA st (T9.map kindS) m) (f := fun n : Nat => V.int n) (fun j => ds (kindS (T9.getD j 0))) (ev_var rfl Dp) (by omega) (fun _ => rfl) (fun j hj H4 e4 => by
    have rk : R_kind [ds (sg (T9.getD j 0))] (ds (kindS (T9.getD j 0))) := ⟨_, rfl, rfl⟩
    exact en_call (eds_cons (ev_sign (ev_var rfl Dat.v) (ev_var rfl Dat.v) hT (places_lt hj)) eds_nil) rk)) places_kd)) (eds_cons (ev_call (eds_cons (ev_told1 (ev_var rfl Dt3) (ev_var rfl Dat.v) hm) eds_nil) ro) eds_nil)) rs) fun pr H4 o => ?_
  refine s_forZ (f := fun n : Nat => V.int n) (g := V.str) (ns := placesA st (T9.map kindS) m) (ms := (placesA st (T9.map kindS) m).map (sideA st (T9.map kindS) fl)) (a := 6) (b := 7) (i := 8) (j := 9) (by rw [List.length_map]) rfl rfl (sq_of o.get1) (sq_of o.get0) (fun i σ' H' => ∃ u w, σ' = [some (.str (tx T9)), some (.int b9), some v2, some (.ref pf), none, some (.int (m : Int)), some (.ref pp), some (.ref pr), u, w] ∧ Own H1 H' [(pr, .lst (((placesA st (T9.map kindS) m).map (sideA st (T9.map kindS) fl)).map V.str)), (pp, .lst ((placesA st (T9.map kindS) m).map fun n : Nat => V.int n)), (pf, .lst ((((placesA st (T9.map kindS) m).take i).foldl (fun acc p => acc.set p (some (sideA st (T9.map kindS) fl p))) (foundM T9 st fl m)).map oSV))]) ⟨_, _, rfl, o⟩ (fun i σ' H' ⟨_, _, _, o⟩ => ⟨sq_of o.get1, sq_of o.get0⟩) ?_ ?_
  rotate_left
  · rintro σ' H' ⟨u, w, rfl, o⟩
    rw [List.take_length, foundM_succ] at o
    exact ⟨_, _, _, _, _, rfl, o.drop0.drop0⟩
  rintro i j9 s9 σ' H' H'' hj hs ⟨u, w, rfl, o⟩ ex
  have o := o.grow ex
  rw [List.getElem?_map, hj] at hs
  have hs9 : sideA st (T9.map kindS) fl j9 = s9 := Option.some.inj hs
  subst hs9
  obtain ⟨hil, hie⟩ := List.getElem?_eq_some_iff.mp hj
  have hjl : j9 < T9.length := places_lt (List.mem_of_getElem? hj)
  refine s_put (K := K) (j := j9) (n := (j9 : Int)) (v := .str (sideA st (T9.map kindS) fl j9)) o rfl o.get2 (fun _ _ o => o.put2) (ev_var rfl Dat.v) (fun H5 e5 => ev_var rfl Dat.v) (Evl.ixN_nat (by rw [List.length_map, foldl_set_len, foundM_len]; exact hjl)) fun H5 o => ⟨_, _, rfl, ?_⟩
  rw [map_set_oSV] at o
  rw [Tx.take_snoc hil, hie, List.foldl_append]
  exact o

theorem ok_levels (T : Txt mg) (G : Glo mg) {f : Addr} {fd : FuncData} (F : Fun K "levels" "levels" s_levels f fd) (g : mg "levels" = some (.ref f)) (b : Binds K fd ["text", "base"] []) (C_walked : Cal P w K mg base 2 "walked" ["text", "base"] (PSp K R_walked)) (C_sides : Cal P w K mg base 4 "sides" ["text", "base"] (PSp K R_sides)) (C_own_side : Cal P w K mg base 1 "own_side" ["ground"] (PSp K R_own_side)) (C_kind : Cal P w K mg base 1 "kind" ["sign"] (PSp K R_kind)) : Cal P w K mg base 5 "levels" ["text", "base"] (PSp K R_levels) := by
  refine .mk F g b (F.ok sc_levels (PSp.len fun _ _ h => by obtain ⟨T9, b9, rfl, ⟨hT, hb0, hb1⟩, rfl⟩ := h; rfl) (fun cdv A outer s H vs Q E hr h => ?_))
  obtain ⟨xs, d, hR, hD, q⟩ := h
  obtain ⟨T9, b9, rfl, ⟨hT, hb0, hb1⟩, rfl⟩ := hR
  obtain ⟨v0, v1, rfl, D0, D1⟩ := hD.n2
  obtain rfl := Dat.v_iff.mp D0
  obtain rfl := Dat.v_iff.mp D1
  refine ⟨_, (pss_cons (ps_set (i := 2) sc_levels.nd rfl (by first | exact Or.inl rfl | exact Or.inr rfl) (pe_callC C_walked hr (pa_cons (pv 0) (pa_cons (pv 1) pa_nil))))
    (pss_cons (ps_set (i := 3) sc_levels.nd rfl (by first | exact Or.inl rfl | exact Or.inr rfl) (pe_lst pa_nil))
    (pss_cons (ps_for PassesOwn.never rfl (pi_enum (by rfl) T.enumerate_ (pa_cons (pe_callC C_sides hr (pa_cons (pv 0) (pa_cons (pv 1) pa_nil))) pa_nil)) (pg_tup rfl (pgs_cons (pg_name (i := 4) sc_levels.nd rfl (by first | exact Or.inl rfl | exact Or.inr rfl)) (pgs_cons (pg_name (i := 5) sc_levels.nd rfl (by first | exact Or.inl rfl | exact Or.inr rfl)) pgs_nil)))
    (pss_cons (ps_set (i := 6) sc_levels.nd rfl (by first | exact Or.inl rfl | exact Or.inr rfl) (pe_ixL K (pe_ixTu K (pv 2) pe_int) (pe_ixL K (pe_ixTu K (pv 2) pe_int) (pv 4))))
      (pss_cons (ps_if (pt_cmpR op_ne (pv 5) (pe_callC C_own_side hr (pa_cons (pv 6) pa_nil)) (nomark _))
      (pss_one (ps_set (i := 6) sc_levels.nd rfl (by first | exact Or.inl rfl | exact Or.inr rfl) (pe_op op_add (pv 6) pe_int)))
      pss_nil)
      (pss_cons (ps_if (pt_cmpR op_eq (pe_callC C_kind hr (pa_cons (pe_ix ix_str (pv 0) (pv 4) (fun _ _ => rfl)) pa_nil)) pe_str (nomark _))
      (pss_one (ps_set (i := 6) sc_levels.nd rfl (by first | exact Or.inl rfl | exact Or.inr rfl) (pe_op op_add (pv 6) (pe_op op_mod (pv 6) pe_int))))
      pss_nil)
      (pss_one (ps_expr (pe_bm PySem.F.plainAttrs_list PySem.F.slot_list_append PySem.F.type_list_append mt_append (pv 3) (pa_cons (pv 6) pa_nil))))))))
    (pss_one (ps_ret (pv 3)))))), ?_⟩
  try dsimp only [cxOf, Cx.nox, Cx.wish]
  have hk : IsK K := ⟨⟩
  have o : Own H H [] := Own.nil
  have rw9 : R_walked [ds (tx T9), di b9] (dTold (stF b9 T9) (flF b9 T9)) := ⟨_, _, rfl, ⟨hT, hb0, hb1⟩, rfl⟩
  have rs9 : R_sides [ds (tx T9), di b9] (dS (sidesF T9 b9)) := ⟨_, _, rfl, ⟨hT, hb0, hb1⟩, rfl⟩
  have htd := told_ok hT ⟨hb0, hb1⟩
  unfold sidesF at rs9
  unfold levF at q
  generalize stF b9 T9 = st at rw9 htd q rs9
  generalize flF b9 T9 = fl at rw9 htd q rs9
  refine q_setN o (en_call (by wtm_at "eds") rw9) fun v2 H1 o e1 dd => ?_
  have eb := o.ex
  have Dt : Dat K H1 (dTold st fl) v2 := dd.d
  clear o dd
  have o : Own H1 H1 [] := Own.nil
  refine q_setE o (by wtm_at "en") fun pf H2 o => ?_
  refine q_forEN (f := V.str) (ns := (List.range T9.length).map (sideA st (T9.map kindS) fl)) o (en_call (by wtm_at "eds") rs9) (fun p m σ' H' => ∃ x y z, σ' = [some (.str (tx T9)), some (.int b9), some v2, some (.ref pf), x, y, z] ∧ Own H1 H' [(p, .lst (((List.range T9.length).map (sideA st (T9.map kindS) fl)).map V.str)), (pf, .lst (((List.range m).map (levA st (T9.map kindS) fl)).map V.int))]) (fun p H1 o => ⟨none, none, none, rfl, o⟩) (fun p m σ' H' ⟨_, _, _, _, o⟩ => sq_of o.get0) ?_ ?_
  rotate_left
  · rintro p σ' H' ⟨x, y, z, rfl, o⟩
    rw [List.length_map, List.length_range] at o
    exact s_retO (f := V.int) o rfl o.get1 o.free1 fun v H2 e d => q v H2 (eb.trans e) (d.mono eb (Evl.Ex.refl _))
  rintro p m s9 σ' H' H'' hs ⟨x, y, z, rfl, o⟩ ex
  have o := o.grow ex
  have hm : m < T9.length := by
    have := (List.getElem?_eq_some_iff.mp hs).1
    rwa [List.length_map, List.length_range] at this
  rw [List.getElem?_map, List.getElem?_range hm] at hs
  have hs9 : sideA st (T9.map kindS) fl m = s9 := Option.some.inj hs
  subst hs9
  have hst : st.getD m 0 < fl.length := htd.a _ (getD_mem 0 (by rw [htd.s]; exact hm))
  have Dt2 := Dt.mono o.ex
  have ro : ∀ g, R_own_side [di g] (ds (ownS g)) := fun g => ⟨_, rfl, rfl⟩
  have rk : R_kind [ds (sg (T9.getD m 0))] (ds (kindS (T9.getD m 0))) := ⟨_, rfl, rfl⟩
  refine q_setV (v := .int (fl.getD (st.getD m 0) 0)) o (ev_told1 (ev_var rfl Dt2) (ev_told0 (ev_var rfl Dt2) (ev_var rfl Dat.v) (by rw [htd.s]; exact hm)) hst) fun H3 o => ?_
  have hlev : levA st (T9.map kindS) fl m = (let l := if sideA st (T9.map kindS) fl m = ownS (fl.getD (st.getD m 0) 0) then fl.getD (st.getD m 0) 0 else fl.getD (st.getD m 0) 0 + 1; if kindS (T9.getD m 0) = fiS then l + l % 2 else l) := by
    unfold levA
    rw [kd_at hm]
  generalize fl.getD (st.getD m 0) 0 = g9 at hlev
  refine q_ifSet (v0 := .int g9) (v1 := .int (g9 + 1)) o rfl (et_testK hk (ev_op (ev_var rfl Dat.v) (ev_call (eds_cons (ev_var rfl Dat.v) eds_nil) (ro g9)) rd_neS)) (fun _ H4 o => by wtm_at "ev") fun H4 o => ?_
  have e1 : (if (!decide (sideA st (T9.map kindS) fl m = ownS g9)) = true then V.int (g9 + 1) else V.int g9) = V.int (if sideA st (T9.map kindS) fl m = ownS g9 then g9 else g9 + 1) := by
    by_cases h : sideA st (T9.map kindS) fl m = ownS g9
    · rw [decide_eq_true h, if_pos h] <;> rfl
    · rw [decide_eq_false h, if_neg h] <;> rfl
  rw [e1]
  dsimp only at hlev
  generalize (if sideA st (T9.map kindS) fl m = ownS g9 then g9 else g9 + 1) = l9 at hlev
  refine q_ifSet (v0 := .int l9) (v1 := .int (l9 + l9 % 2)) o rfl (et_testK hk (ev_op (ev_call (eds_cons (ev_sign (ev_var rfl Dat.v) (ev_var rfl Dat.v) hT hm) eds_nil) rk) ev_c rd_eqS)) (fun _ H4 o => by wtm_at "ev") fun H5 o => ?_
  have e2 : (if decide (kindS (T9.getD m 0) = Str.ofString "figure") = true then V.int (l9 + l9 % 2) else V.int l9) = V.int (levA st (T9.map kindS) fl m) := by
    rw [hlev]
    by_cases h : kindS (T9.getD m 0) = fiS
    · rw [if_pos h, decide_eq_true h] <;> rfl
    · rw [if_neg h, decide_eq_false h] <;> rfl
  rw [e2]
  refine s_app (v := .int (levA st (T9.map kindS) fl m)) o rfl o.get1 (fun _ _ o => o.put1) (by rw [List.length_map, List.length_map, List.length_range]; omega) (ev_var rfl Dat.v) fun H6 o => ⟨_, _, _, rfl, ?_⟩
  rw [List.range_succ, map_snoc, map_snoc]
  exact o

theorem ok_turned (T : Txt mg) (G : Glo mg) {f : Addr} {fd : FuncData} (F : Fun K "turned" "turned" s_turned f fd) (g : mg "turned" = some (.ref f)) (b : Binds K fd ["places", "row", "level"] []) : Cal P w K mg base 1 "turned" ["places", "row", "level"] (PSp K R_turned) := by
  refine .mk F g b (F.ok sc_turned (PSp.len fun _ _ h => by obtain ⟨ps, rs, lv, rfl, ⟨hp, hn⟩, rfl⟩ := h; rfl) (fun cdv A outer s H vs Q E hr h => ?_))
  obtain ⟨xs, d, hR, hD, q⟩ := h
  obtain ⟨ps, rs, lv, rfl, ⟨hp, hn⟩, rfl⟩ := hR
  obtain ⟨v0, v1, v2, rfl, D0, D1, D2⟩ := hD.n3
  obtain ⟨p0, rfl, S0⟩ := Dat.flatE D0
  obtain ⟨p1, rfl, S1⟩ := Dat.flatE D1
  obtain rfl := Dat.v_iff.mp D2
  refine ⟨_, (pss_cons (ps_set (i := 3) sc_turned.nd rfl (by first | exact Or.inl rfl | exact Or.inr rfl) (pe_lst pa_nil))
    (pss_cons (ps_set (i := 4) sc_turned.nd rfl (by first | exact Or.inl rfl | exact Or.inr rfl) (pe_lst pa_nil))
    (pss_cons (ps_for PassesOwn.never rfl (pi_list (pv 0)) (pg_name (i := 5) sc_turned.nd rfl (by first | exact Or.inl rfl | exact Or.inr rfl))
    (pss_one (ps_if (pt_cmpR op_ge (pe_ixL K (pv 1) (pv 5)) (pv 2) (nomark _))
      (pss_one (ps_expr (pe_bm PySem.F.plainAttrs_list PySem.F.slot_list_append PySem.F.type_list_append mt_append (pv 4) (pa_cons (pv 5) pa_nil))))
      (pss_cons (ps_expr (pe_bm PySem.F.plainAttrs_list PySem.F.slot_list_extend PySem.F.type_list_extend mt_extend (pv 3) (pa_cons (pe_listRev rfl (by rfl) T.list_ (by rfl) T.reversed_ (pv 4)) pa_nil)))
        (pss_cons (ps_expr (pe_bm PySem.F.plainAttrs_list PySem.F.slot_list_append PySem.F.type_list_append mt_append (pv 3) (pa_cons (pv 5) pa_nil)))
        (pss_one (ps_set (i := 4) sc_turned.nd rfl (by first | exact Or.inl rfl | exact Or.inr rfl) (pe_lst pa_nil))))))))
    (pss_cons (ps_expr (pe_bm PySem.F.plainAttrs_list PySem.F.slot_list_extend PySem.F.type_list_extend mt_extend (pv 3) (pa_cons (pe_listRev rfl (by rfl) T.list_ (by rfl) T.reversed_ (pv 4)) pa_nil)))
    (pss_one (ps_ret (pv 3))))))), ?_⟩
  try dsimp only [cxOf, Cx.nox, Cx.wish]
  have hk : IsK K := ⟨⟩
  have o : Own H H [] := Own.nil
  refine q_setE o (by wtm_at "en") fun pf H1 o => ?_
  refine q_setE o (by wtm_at "en") fun pg H2 o => ?_
  refine q_forV (f := fun p : Nat => V.int p) (ns := ps) (p := p0) rfl (ex_l o.ex S0) (fun pre σ' H' => ∃ pg x, σ' = [some (.ref p0), some (.ref p1), some (.int lv), some (.ref pf), some (.ref pg), x] ∧ Own H H' [(pg, .lst ((tfold (hiF rs lv) pre).2.map fun p : Nat => V.int p)), (pf, .lst ((tfold (hiF rs lv) pre).1.map fun p : Nat => V.int p))]) ⟨pg, none, rfl, o⟩ (fun pre σ' H' ⟨_, _, _, o⟩ => ex_l o.ex S0) ?_ ?_
  · rintro pre a post σ' H' e ⟨pg, x, rfl, o⟩
    have ha : a < rs.length := hp a (by rw [e]; simp)
    have hl := tfold_len (hiF rs lv) pre
    have hpre : pre.length < 100 := by
      have := congrArg List.length e
      rw [List.length_append, List.length_cons] at this
      omega
    have ix : atI (rs.map di) (a : Int) = some (di (rs.getD a 0)) := atI_getD 0 (by omega) (by omega)
    refine s_if o (by wtm_at "et") (fun hb H1 o => ?_) (fun hb H1 o => ?_)
    · have hb' : hiF rs lv a = true := hb
      refine s_app o rfl o.get0 (fun _ _ o => o.put0) (by rw [List.length_map]; omega) (by wtm_at "ev") fun H1 o => ?_
      refine ⟨pg, _, rfl, ?_⟩
      rw [tfold_snoc, tstep, if_pos hb', List.map_append]
      exact o
    · have hb' : hiF rs lv a = false := hb
      refine q_ext o rfl o.get1 (fun _ _ o => o.put1) (by wtm_at "en") (by rw [List.length_map, List.length_reverse]; omega) fun H1 o => ?_
      refine q_app o rfl o.get1 (fun _ _ o => o.put1) (by rw [List.length_append, List.length_map, List.length_map, List.length_reverse]; omega) (by wtm_at "ev") fun H1 o => ?_
      refine s_setE o (by wtm_at "en") fun pg2 H1 o => ?_
      refine ⟨pg2, _, rfl, ?_⟩
      rw [tfold_snoc, tstep, if_neg (by rw [hb']; decide), List.map_append, List.map_append]
      exact o.drop1
  · rintro σ' H' ⟨pg, x, rfl, o⟩
    have hl := tfold_len (hiF rs lv) ps
    refine q_ext o rfl o.get1 (fun _ _ o => o.put1) (by wtm_at "en") (by rw [List.length_map, List.length_reverse]; omega) fun H1 o => ?_
    rw [← List.map_append] at o
    exact s_retO o rfl o.get1 o.free1 q

theorem ok_order (T : Txt mg) (G : Glo mg) {f : Addr} {fd : FuncData} (F : Fun K "order" "order" s_order f fd) (g : mg "order" = some (.ref f)) (b : Binds K fd ["row"] []) (C_turned : Cal P w K mg base 1 "turned" ["places", "row", "level"] (PSp K R_turned)) : Cal P w K mg base 2 "order" ["row"] (PSp K R_order) := by
  refine .mk F g b (F.ok sc_order (PSp.len fun _ _ h => by obtain ⟨rs, rfl, hv, rfl⟩ := h; rfl) (fun cdv A outer s H vs Q E hr h => ?_))
  obtain ⟨xs, d, hR, hD, q⟩ := h
  obtain ⟨rs, rfl, hv, rfl⟩ := hR
  obtain ⟨v0, rfl, D0⟩ := hD.n1
  obtain ⟨p0, rfl, S0⟩ := Dat.flatE D0
  refine ⟨_, (pss_cons (ps_set (i := 1) sc_order.nd rfl (by first | exact Or.inl rfl | exact Or.inr rfl) (pe_listRg rfl (by rfl) T.list_ (prg_1 (by rfl) T.range_ (pe_callB (call_len_seqK K) (by rfl) T.len_ PySem.boot_len (pa_cons (pv 0) pa_nil)))))
    (pss_cons (ps_for PassesOwn.never rfl (pi_revR (by rfl) T.reversed_ (prg_2 (by rfl) T.range_ pe_int (pe_op op_add (pe_callBK (crk_max rfl (hu_of hr)) (by rfl) T.max_ (by decide +kernel) (pa_cons (pv 0) pa_nil) (pk_cons pe_int pk_nil)) pe_int))) (pg_name (i := 2) sc_order.nd rfl (by first | exact Or.inl rfl | exact Or.inr rfl))
    (pss_one (ps_set (i := 1) sc_order.nd rfl (by first | exact Or.inl rfl | exact Or.inr rfl) (pe_callC C_turned hr (pa_cons (pv 1) (pa_cons (pv 0) (pa_cons (pv 2) pa_nil)))))))
    (pss_one (ps_ret (pv 1))))), ?_⟩
  try dsimp only [cxOf, Cx.nox, Cx.wish]
  have hk : IsK K := ⟨⟩
  have o : Own H H [] := Own.nil
  have hl := hv.1
  have hm := hv.max
  refine q_setL o (by wtm_at "en") fun pf H1 o => ?_
  refine q_forRevR o (by wtm_at "ev") (by wtm_at "ev") (by omega) (fun i σ' H' => ∃ pf x, σ' = [some (.ref p0), some (.ref pf), x] ∧ Own H H' [(pf, .lst ((ordS rs (maxd 0 rs) i).map fun p : Nat => V.int p))]) (fun H1 o => ⟨pf, none, rfl, o⟩) ?_ ?_
  · rintro i σ' H' hi ⟨pf, x, rfl, o⟩
    have e1 : maxd 0 rs + 1 - 1 - (i : Int) = maxd 0 rs - i := by omega
    rw [e1]
    have r1 : R_turned [dN (ordS rs (maxd 0 rs) i), dI rs, di (maxd 0 rs - i)] (dN (ordS rs (maxd 0 rs) (i + 1))) := ⟨_, _, _, rfl, ⟨fun p hp => ordS_lt hp, by rw [ordS_len]; omega⟩, rfl⟩
    refine s_setL o (by wtm_at "en") fun pf2 H1 o => ?_
    exact ⟨pf2, _, rfl, o.drop1⟩
  · rintro σ' H' ⟨pf, x, rfl, o⟩
    have e2 : (maxd 0 rs + 1 - 1).toNat = (maxd 0 rs).toNat := by omega
    rw [e2] at o
    exact s_retO o rfl o.get0 o.free0 q

theorem ok_view (T : Txt mg) (G : Glo mg) {f : Addr} {fd : FuncData} (F : Fun K "view" "view" s_view f fd) (g : mg "view" = some (.ref f)) (b : Binds K fd ["text", "base"] []) (C_order : Cal P w K mg base 2 "order" ["row"] (PSp K R_order)) (C_levels : Cal P w K mg base 5 "levels" ["text", "base"] (PSp K R_levels)) : Cal P w K mg base 6 "view" ["text", "base"] (PSp K R_view) := by
  refine .mk F g b (F.ok sc_view (PSp.len fun _ _ h => by obtain ⟨T9, b9, rfl, ⟨hT, hb0, hb1⟩, rfl⟩ := h; rfl) (fun cdv A outer s H vs Q E hr h => ?_))
  obtain ⟨xs, d, hR, hD, q⟩ := h
  obtain ⟨T9, b9, rfl, ⟨hT, hb0, hb1⟩, rfl⟩ := hR
  obtain ⟨v0, v1, rfl, D0, D1⟩ := hD.n2
  obtain rfl := Dat.v_iff.mp D0
  obtain rfl := Dat.v_iff.mp D1
  refine ⟨_, (pss_one (ps_ret (pe_join pe_str (pe_lc (own := [("place", 2)]) (g := gName 2) rfl sc_view.nd (pi_list (pe_callC C_order hr (pa_cons (pe_callC C_levels hr (pa_cons (pv 0) (pa_cons (pv 1) pa_nil))) pa_nil))) (blkOk_by (N := ["text", "base", "place"]) (sc := defScope s_view) (by decide +kernel)) (fun _ _ _ _ _ => pg_name (i := 2) sc_view.nd rfl (Or.inl rfl)) (fun _ _ _ _ _ => pts_nil) (fun _ _ _ _ _ => (pe_ix ix_str (pv 0) (pv 2) (fun _ _ => rfl))))))), ?_⟩
  try dsimp only [cxOf, Cx.nox, Cx.wish]
  have hk : IsK K := ⟨⟩
  have o : Own H H [] := Own.nil
  have rl9 : R_levels [ds (tx T9), di b9] (dI (levF T9 b9)) := ⟨_, _, rfl, ⟨hT, hb0, hb1⟩, rfl⟩
  have hv := levF_lv hT ⟨hb0, hb1⟩
  have ro9 : R_order [dI (levF T9 b9)] (dN (orderF (levF T9 b9))) := ⟨_, rfl, hv, rfl⟩
  have hvl := viewF_len T9 b9
  have hll := levF_len T9 b9
  refine s_retV (K := K) o (ev_join (T := viewF T9 b9) (EvN.d (EvN.is (en_lcL1 (K := K) (ns := orderF (levF T9 b9)) (f := fun n : Nat => V.int n) (fun p => ds (sg (T9.getD p 0))) (ev_call (eds_cons (ev_call (by wtm_at "eds") rl9) eds_nil) ro9) (by rw [orderF_len]; omega) (fun _ => rfl) (fun p hp H2 e2 => EvD.nK hk (ev_sign (ev_var rfl Dat.v) (ev_var (x := .int (p : Int)) rfl Dat.v) hT (by have := orderF_lt hp; omega)))) (lc_signs rfl))) (by omega)) q

theorem ok_law_cell_at (T : Txt mg) (G : Glo mg) {f : Addr} {fd : FuncData} (F : Fun K "_law_cell_at" "_law_cell_at" s_law_cell_at f fd) (g : mg "_law_cell_at" = some (.ref f)) (b : Binds K fd ["script", "k"] []) : Cal P w K mg base 1 "_law_cell_at" ["script", "k"] (PSp K R_law_cell_at) := by
  refine .mk F g b (F.ok sc_law_cell_at (PSp.len fun _ _ h => by obtain ⟨ns, k, rfl, hk0, rfl⟩ := h; rfl) (fun cdv A outer s H vs Q E hr h => ?_))
  obtain ⟨xs, d, hR, hD, q⟩ := h
  obtain ⟨ns, k, rfl, hk0, rfl⟩ := hR
  obtain ⟨v0, v1, rfl, D0, D1⟩ := hD.n2
  obtain ⟨p0, rfl, S0⟩ := Dat.flatE D0
  obtain rfl := Dat.v_iff.mp D1
  refine ⟨_, (pss_cons (ps_if (pt_cmpR op_lt (pv 1) (pe_callB (call_len_seqK K) (by rfl) T.len_ PySem.boot_len (pa_cons (pv 0) pa_nil)) (nomark _))
    (pss_one (ps_ret (pe_ixL K (pv 0) (pv 1))))
    pss_nil)
    (pss_one (ps_ret pe_int))), ?_⟩
  try dsimp only [cxOf, Cx.nox, Cx.wish]
  have hk : IsK K := ⟨⟩
  have o : Own H H [] := Own.nil
  refine q_when o (by wtm_at "et") (fun hb H1 o => ?_) (fun hb H1 o => ?_)
  · have hb' : k < ns.length := of_decide_eq_true hb
    have ix : atI (ns.map di) k = some (di (ns.getD k.toNat 0)) := atI_getD 0 hk0 hb'
    rw [cellF, if_pos hb'] at q
    exact s_retV o (by wtm_at "ev") q
  · have hb' : ¬ k < ns.length := of_decide_eq_false hb
    rw [cellF, if_neg hb'] at q
    exact s_retV o (by wtm_at "ev") q

theorem ok_law_pick (T : Txt mg) (G : Glo mg) {f : Addr} {fd : FuncData} (F : Fun K "_law_pick" "_law_pick" s_law_pick f fd) (g : mg "_law_pick" = some (.ref f)) (b : Binds K fd ["script", "k"] []) (C_law_cell_at : Cal P w K mg base 1 "_law_cell_at" ["script", "k"] (PSp K R_law_cell_at)) : Cal P w K mg base 2 "_law_pick" ["script", "k"] (PSp K R_law_pick) := by
  refine .mk F g b (F.ok sc_law_pick (PSp.len fun _ _ h => by obtain ⟨ns, k, rfl, hk0, rfl⟩ := h; rfl) (fun cdv A outer s H vs Q E hr h => ?_))
  obtain ⟨xs, d, hR, hD, q⟩ := h
  obtain ⟨ns, k, rfl, hk0, rfl⟩ := hR
  obtain ⟨v0, v1, rfl, D0, D1⟩ := hD.n2
  obtain ⟨p0, rfl, S0⟩ := Dat.flatE D0
  obtain rfl := Dat.v_iff.mp D1
  refine ⟨_, (pss_cons (ps_if (pt_cmpR op_lt (pv 1) (pe_callB (call_len_seqK K) (by rfl) T.len_ PySem.boot_len (pa_cons (pv 0) pa_nil)) (nomark _))
    (pss_one (ps_ret (pe_ixL K (pv 0) (pv 1))))
    pss_nil)
    (pss_one (ps_ret (pe_op op_fdiv (pe_op op_mod (pe_op op_mul (pe_op op_add (pe_op op_add (pe_callC C_law_cell_at hr (pa_cons (pv 0) (pa_cons pe_int pa_nil))) (pe_op op_mul pe_int (pv 1))) pe_int) pe_int) pe_int) pe_int)))), ?_⟩
  try dsimp only [cxOf, Cx.nox, Cx.wish]
  have hk : IsK K := ⟨⟩
  have o : Own H H [] := Own.nil
  refine q_when o (by wtm_at "et") (fun hb H1 o => ?_) (fun hb H1 o => ?_)
  · have hb' : k < ns.length := of_decide_eq_true hb
    have ix : atI (ns.map di) k = some (di (ns.getD k.toNat 0)) := atI_getD 0 hk0 hb'
    rw [pickF, if_pos hb'] at q
    exact s_retV o (by wtm_at "ev") q
  · have hb' : ¬ k < ns.length := of_decide_eq_false hb
    rw [pickF, if_neg hb'] at q
    have r1 : R_law_cell_at [dI ns, di 0] (di (cellF ns 0)) := ⟨_, _, rfl, Int.le_refl _, rfl⟩
    exact s_retV o (by wtm_at "ev") q

theorem ok_law_mix (T : Txt mg) (G : Glo mg) {f : Addr} {fd : FuncData} (F : Fun K "_law_mix" "_law_mix" s_law_mix f fd) (g : mg "_law_mix" = some (.ref f)) (b : Binds K fd ["cell", "k"] []) : Cal P w K mg base 1 "_law_mix" ["cell", "k"] (PSp K R_law_mix) := by
  refine .mk F g b (F.ok sc_law_mix (PSp.len fun _ _ h => by obtain ⟨c, k, rfl, rfl⟩ := h; rfl) (fun cdv A outer s H vs Q E hr h => ?_))
  obtain ⟨xs, d, hR, hD, q⟩ := h
  obtain ⟨c, k, rfl, rfl⟩ := hR
  obtain ⟨v0, v1, rfl, D0, D1⟩ := hD.n2
  obtain rfl := Dat.v_iff.mp D0
  obtain rfl := Dat.v_iff.mp D1
  refine ⟨_, (pss_cons (ps_set (i := 2) sc_law_mix.nd rfl (by first | exact Or.inl rfl | exact Or.inr rfl) (pe_op op_mod (pe_op op_add (pe_op op_add (pe_op op_mul (pv 0) pe_int) (pe_op op_mul pe_int (pv 1))) pe_int) pe_int))
    (pss_one (ps_ret (pe_op op_mod (pe_op op_add (pe_op op_add (pe_op op_mul (pv 2) (pv 2)) (pe_op op_mul pe_int (pv 2))) (pv 1)) pe_int)))), ?_⟩
  try dsimp only [cxOf, Cx.nox, Cx.wish]
  have hk : IsK K := ⟨⟩
  have o : Own H H [] := Own.nil
  have hm := Int.emod_nonneg (c * 69621 + 7001 * k + 3) (show (2147483629 : Int) ≠ 0 by decide)
  have hm2 := Int.emod_lt_of_pos (c * 69621 + 7001 * k + 3) (show (0 : Int) < 2147483629 by decide)
  refine q_setV o (by wtm_at "ev") fun H1 o => ?_
  generalize hm' : (c * 69621 + 7001 * k + 3) % 2147483629 = m at hm hm2
  rw [show mixF c k = (m * m + 39373 * m + k) % 2147483647 by rw [mixF, hm']] at q
  exact s_retV o (by wtm_at "ev") q

theorem ok_law_sign (T : Txt mg) (G : Glo mg) {f : Addr} {fd : FuncData} (F : Fun K "_law_sign" "_law_sign" s_law_sign f fd) (g : mg "_law_sign" = some (.ref f)) (b : Binds K fd ["mixed", "way"] []) : Cal P w K mg base 1 "_law_sign" ["mixed", "way"] (PSp K R_law_sign) := by
  refine .mk F g b (F.ok sc_law_sign (PSp.len fun _ _ h => by obtain ⟨mixed, way, rfl, ⟨h0, h1⟩, rfl⟩ := h; rfl) (fun cdv A outer s H vs Q E hr h => ?_))
  obtain ⟨xs, d, hR, hD, q⟩ := h
  obtain ⟨mixed, way, rfl, ⟨h0, h1⟩, rfl⟩ := hR
  obtain ⟨v0, v1, rfl, D0, D1⟩ := hD.n2
  obtain rfl := Dat.v_iff.mp D0
  obtain rfl := Dat.v_iff.mp D1
  refine ⟨_, (pss_cons (ps_set (i := 2) sc_law_sign.nd rfl (by first | exact Or.inl rfl | exact Or.inr rfl) (pe_lst (pa_cons pe_str (pa_cons pe_str (pa_cons pe_str (pa_cons pe_str (pa_cons pe_str (pa_cons pe_str pa_nil))))))))
    (pss_cons (ps_set (i := 3) sc_law_sign.nd rfl (by first | exact Or.inl rfl | exact Or.inr rfl) (pe_ixL K (pe_lst (pa_cons (pe_lst (pa_cons pe_int (pa_cons pe_int (pa_cons pe_int (pa_cons pe_int (pa_cons pe_int (pa_cons pe_int (pa_cons pe_int (pa_cons pe_int (pa_cons pe_int pa_nil)))))))))) (pa_cons (pe_lst (pa_cons pe_int (pa_cons pe_int (pa_cons pe_int (pa_cons pe_int pa_nil))))) (pa_cons (pe_lst (pa_cons pe_int (pa_cons pe_int (pa_cons pe_int (pa_cons pe_int (pa_cons pe_int (pa_cons pe_int (pa_cons pe_int (pa_cons pe_int pa_nil))))))))) (pa_cons (pe_lst (pa_cons pe_int (pa_cons pe_int (pa_cons pe_int (pa_cons pe_int (pa_cons pe_int pa_nil)))))) pa_nil))))) (pv 1)))
    (pss_cons (ps_set (i := 4) sc_law_sign.nd rfl (by first | exact Or.inl rfl | exact Or.inr rfl) (pe_ixL K (pv 2) (pe_ixL K (pv 3) (pe_op op_mod (pe_op op_fdiv (pv 0) pe_int) (pe_callB (call_len_seqK K) (by rfl) T.len_ PySem.boot_len (pa_cons (pv 3) pa_nil))))))
    (pss_one (ps_ret (pe_ix ix_str (pv 4) (pe_op op_mod (pe_op op_fdiv (pv 0) pe_int) (pe_callB call_len_str (by rfl) T.len_ PySem.boot_len (pa_cons (pv 4) pa_nil))) (fun _ _ => rfl))))))), ?_⟩
  try dsimp only [cxOf, Cx.nox, Cx.wish]
  have hk : IsK K := ⟨⟩
  have o : Own H H [] := Own.nil
  obtain ⟨ixa, la0, la1, hx⟩ := shareF_ok h0 h1
  refine q_setL (f := V.str) (ns := stockT) o (show EvN _ _ _ (.l [ds "abz", ds "ABZ", ds "059", ds "{[", ds "|", ds " .-(~"]) by wtm_at "en") fun pst H1 o => ?_
  have Dst : Dat K H1 (.l (stockT.map ds)) (.ref pst) := Own.dat0 o
  have eb := o.ex
  clear o
  have o : Own H1 H1 [] := Own.nil
  refine q_set (K := K) (x := dI (shareF way)) o (ev_op (x := .l (shareT.map dI)) (y := di way) (EvN.d (show EvN _ _ _ (.l [.l [di 0, di 0, di 1, di 1, di 2, di 3, di 4, di 5, di 5], .l [di 0, di 1, di 2, di 5], .l [di 3, di 3, di 3, di 4, di 0, di 1, di 2, di 5], .l [di 0, di 1, di 1, di 5, di 5]]) by wtm_at "en")) (ev_var rfl Dat.v) (rd_ixL ixa)) fun v3 H2 o Dsh => ?_
  have hm0 : 0 ≤ mixed / 7 % ((shareF way).length : Int) := Int.emod_nonneg _ (by omega)
  have hm1 : mixed / 7 % ((shareF way).length : Int) < ((shareF way).length : Int) := Int.emod_lt_of_pos _ (by omega)
  have hlp : (0 : Int) < ((shareF way).length : Int) := by omega
  have ixb : atI ((shareF way).map di) (mixed / 7 % ((shareF way).length : Int)) = some (di ((shareF way).getD (mixed / 7 % ((shareF way).length : Int)).toNat 0)) := atI_getD 0 hm0 hm1
  have hk := hx _ (getD_mem (l := shareF way) (i := (mixed / 7 % ((shareF way).length : Int)).toNat) 0 (by omega))
  obtain ⟨ixc, ls0, ls1⟩ := stockT_ok hk.1 hk.2
  have hk : IsK K := ⟨⟩
  have Dst := Dst.mono o.ex
  refine q_setV (v := .str (rowT mixed way)) o (ev_op (ev_var rfl Dst) (ev_op (ev_var rfl Dsh) (ev_op (ev_op (ev_var rfl Dat.v) ev_c (rd_I (by wtm_at "cond"))) (ev_cb (eds_cons (ev_var rfl Dsh) eds_nil) cd_lenM) (rd_I hlp)) (rd_ixL ixb)) (rd_ixL ixc)) fun H3 o => ?_
  have hr0 : 0 < (rowT mixed way).length := ls0
  have hr1 : (rowT mixed way).length ≤ 9 := ls1
  unfold signF at q
  generalize rowT mixed way = z at hr0 hr1 q
  have zp : (0 : Int) < (z.length : Int) := by omega
  have zl : z.length ≤ 100000 := by omega
  have ixd : atI z.cps.toList (mixed / 700 % (z.length : Int)) = some (z.cps.toList.getD (mixed / 700 % (z.length : Int)).toNat 0) := atI_getN (Int.emod_nonneg _ (by omega)) (by rw [cps_len]; exact Int.emod_lt_of_pos _ zp)
  exact s_retV (K := K) o (ev_op (ev_var rfl Dat.v) (ev_op (ev_op (ev_var rfl Dat.v) ev_c (rd_I (by wtm_at "cond"))) (ev_cb (eds_cons (ev_var rfl Dat.v) eds_nil) (cd_lenS zl)) (rd_I zp)) (rd_ixS zl ixd)) fun u H2 e d => q u H2 (eb.trans e) (DatN.v_iff.mpr (DatN.v_iff.mp d))

theorem ok_law_text (T : Txt mg) (G : Glo mg) {f : Addr} {fd : FuncData} (F : Fun K "_law_text" "_law_text" s_law_text f fd) (g : mg "_law_text" = some (.ref f)) (b : Binds K fd ["script", "start", "size", "way"] []) (C_law_sign : Cal P w K mg base 1 "_law_sign" ["mixed", "way"] (PSp K R_law_sign)) (C_law_mix : Cal P w K mg base 1 "_law_mix" ["cell", "k"] (PSp K R_law_mix)) (C_law_pick : Cal P w K mg base 2 "_law_pick" ["script", "k"] (PSp K R_law_pick)) : Cal P w K mg base 3 "_law_text" ["script", "start", "size", "way"] (PSp K R_law_text) := by
  refine .mk F g b (F.ok sc_law_text (PSp.len fun _ _ h => by obtain ⟨ns, start, size, way, rfl, ⟨hs0, hs1, hz0, hz1, hw0, hw1⟩, rfl⟩ := h; rfl) (fun cdv A outer s H vs Q E hr h => ?_))
  obtain ⟨xs, d, hR, hD, q⟩ := h
  obtain ⟨ns, start, size, way, rfl, ⟨hs0, hs1, hz0, hz1, hw0, hw1⟩, rfl⟩ := hR
  obtain ⟨v0, v1, v2, v3, rfl, D0, D1, D2, D3⟩ := hD.n4
  obtain ⟨p0, rfl, S0⟩ := Dat.flatE D0
  obtain rfl := Dat.v_iff.mp D1
  obtain rfl := Dat.v_iff.mp D2
  obtain rfl := Dat.v_iff.mp D3
  refine ⟨_, (pss_one (ps_ret (pe_join pe_str (pe_lc (own := [("k", 4)]) (g := gName 4) rfl sc_law_text.nd (pi_range1 (by rfl) T.range_ (pa_cons (pv 2) pa_nil)) (blkOk_by (N := ["script", "start", "size", "way", "k"]) (sc := defScope s_law_text) (by decide +kernel)) (fun _ _ _ _ _ => pg_name (i := 4) sc_law_text.nd rfl (Or.inl rfl)) (fun _ _ _ _ _ => pts_nil) (fun _ _ _ _ _ => (pe_callC C_law_sign hr (pa_cons (pe_callC C_law_mix hr (pa_cons (pe_callC C_law_pick hr (pa_cons (pv 0) (pa_cons (pe_op op_add (pv 1) (pv 4)) pa_nil))) (pa_cons (pv 4) pa_nil))) (pa_cons (pv 3) pa_nil)))))))), ?_⟩
  try dsimp only [cxOf, Cx.nox, Cx.wish]
  have hk : IsK K := ⟨⟩
  have o : Own H H [] := Own.nil
  refine s_retV (K := K) o (ev_join (T := textF ns start way size.toNat) (EvN.d (EvN.is (en_lcR1 (K := K) (n := size) (fun k : Nat => ds (sg (signF (mixF (pickF ns (start + (k : Int))) (k : Int)) way))) (eds_cons (ev_var rfl Dat.v) eds_nil) (by omega) (fun _ => rfl) (fun k _ H2 e2 => ?_)) ?_)) (by unfold textF; rw [List.length_map, List.length_range]; omega)) q
  · have rp : R_law_pick [dI ns, di (start + (k : Int))] (di (pickF ns (start + (k : Int)))) := ⟨_, _, rfl, by omega, rfl⟩
    have rm : R_law_mix [di (pickF ns (start + (k : Int))), di (k : Int)] (di (mixF (pickF ns (start + (k : Int))) (k : Int))) := ⟨_, _, rfl, rfl⟩
    have rs : R_law_sign [di (mixF (pickF ns (start + (k : Int))) (k : Int)), di way] (ds (sg (signF (mixF (pickF ns (start + (k : Int))) (k : Int)) way))) := ⟨_, _, rfl, ⟨hw0, hw1⟩, rfl⟩
    have D0 := D0.mono e2
    exact en_call (eds_cons (ev_call (eds_cons (ev_call (eds_cons (ev_var rfl D0) (eds_cons (ev_op (ev_var rfl Dat.v) (ev_var rfl Dat.v) rd_I0) eds_nil)) rp) (eds_cons (ev_var rfl Dat.v) eds_nil)) rm) (eds_cons (ev_var rfl Dat.v) eds_nil)) rs
  · show D.l _ = D.l (List.map (fun c => D.v (.str (sg c))) (textF ns start way size.toNat))
    unfold textF
    rw [List.map_map] <;> rfl

theorem ok_law_size (T : Txt mg) (G : Glo mg) {f : Addr} {fd : FuncData} (F : Fun K "_law_size" "_law_size" s_law_size f fd) (g : mg "_law_size" = some (.ref f)) (b : Binds K fd ["cell"] []) : Cal P w K mg base 1 "_law_size" ["cell"] (PSp K R_law_size) := by
  refine .mk F g b (F.ok sc_law_size (PSp.len fun _ _ h => by obtain ⟨c, rfl, rfl⟩ := h; rfl) (fun cdv A outer s H vs Q E hr h => ?_))
  obtain ⟨xs, d, hR, hD, q⟩ := h
  obtain ⟨c, rfl, rfl⟩ := hR
  obtain ⟨v0, rfl, D0⟩ := hD.n1
  obtain rfl := Dat.v_iff.mp D0
  refine ⟨_, (pss_cons (ps_if (pt_cmpR op_eq (pe_op op_mod (pe_op op_fdiv (pv 0) pe_int) pe_int) pe_int (nomark _))
    (pss_one (ps_ret pe_int))
    pss_nil)
    (pss_one (ps_ret (pe_op op_mod (pv 0) pe_int)))), ?_⟩
  try dsimp only [cxOf, Cx.nox, Cx.wish]
  have hk : IsK K := ⟨⟩
  have o : Own H H [] := Own.nil
  refine q_when o (by wtm_at "et") (fun hb H1 o => ?_) (fun hb H1 o => ?_)
  · rw [sizeF, if_pos (of_decide_eq_true hb)] at q
    exact s_retV o (by wtm_at "ev") q
  · rw [sizeF, if_neg (of_decide_eq_false hb)] at q
    exact s_retV o (by wtm_at "ev") q

theorem ok_law_kind (T : Txt mg) (G : Glo mg) {f : Addr} {fd : FuncData} (F : Fun K "_law_kind" "_law_kind" s_law_kind f fd) (g : mg "_law_kind" = some (.ref f)) (b : Binds K fd ["sign"] []) : Cal P w K mg base 1 "_law_kind" ["sign"] (PSp K R_law_kind) := by
  refine .mk F g b (F.ok sc_law_kind (PSp.len fun _ _ h => by obtain ⟨c, rfl, rfl⟩ := h; rfl) (fun cdv A outer s H vs Q E hr h => ?_))
  obtain ⟨xs, d, hR, hD, q⟩ := h
  obtain ⟨c, rfl, rfl⟩ := hR
  obtain ⟨v0, rfl, D0⟩ := hD.n1
  obtain rfl := Dat.v_iff.mp D0
  refine ⟨_, (pss_cons (ps_if (pt_cmpR op_in_sign (pv 0) pe_str (by rfl))
    (pss_one (ps_ret pe_str))
    pss_nil)
    (pss_cons (ps_if (pt_cmpR op_in_sign (pv 0) pe_str (by rfl))
    (pss_one (ps_ret pe_str))
    pss_nil)
    (pss_cons (ps_if (pt_cmpR op_in_sign (pv 0) pe_str (by rfl))
    (pss_one (ps_ret pe_str))
    pss_nil)
    (pss_cons (ps_if (pt_cmpR (op_in_seqK K) (pv 0) (pe_tup (pa_cons pe_str (pa_cons pe_str pa_nil))) (by rfl))
    (pss_one (ps_ret pe_str))
    pss_nil)
    (pss_cons (ps_if (pt_cmpR op_eq (pv 0) pe_str (nomark _))
    (pss_one (ps_ret pe_str))
    pss_nil)
    (pss_one (ps_ret pe_str))))))), ?_⟩
  try dsimp only [cxOf, Cx.nox, Cx.wish]
  have hk : IsK K := ⟨⟩
  have o : Own H H [] := Own.nil
  refine q_when o (by wtm_at "et") (fun hb H1 o => ?_) (fun hb H1 o => ?_)
  · refine s_retV o (by wtm_at "ev") (by rw [kindS, if_pos (show c ∈ eastC from of_decide_eq_true hb)] at q; exact q)
  rw [kindS, if_neg (show ¬ c ∈ eastC from of_decide_eq_false hb)] at q
  refine q_when o (by wtm_at "et") (fun hb H1 o => ?_) (fun hb H1 o => ?_)
  · refine s_retV o (by wtm_at "ev") (by rw [if_pos (show c ∈ westC from of_decide_eq_true hb)] at q; exact q)
  rw [if_neg (show ¬ c ∈ westC from of_decide_eq_false hb)] at q
  refine q_when o (by wtm_at "et") (fun hb H1 o => ?_) (fun hb H1 o => ?_)
  · refine s_retV o (by wtm_at "ev") (by rw [if_pos (show c ∈ figC from of_decide_eq_true hb)] at q; exact q)
  rw [if_neg (show ¬ c ∈ figC from of_decide_eq_false hb)] at q
  refine q_when (b := decide (c ∈ openC)) o (by
    rw [← inV_open]
    exact et_testK hk (ev_op (ev_var rfl Dat.v) (ev_tup (eds_cons ev_c (eds_cons ev_c eds_nil)) (Nat.le_of_ble_eq_true rfl)) (rd_inT (f := V.str) (ns := [Str.ofString "{", Str.ofString "["]) rfl rfl))) (fun hb H1 o => ?_) (fun hb H1 o => ?_)
  · refine s_retV o (by wtm_at "ev") (by rw [if_pos (show c ∈ openC from of_decide_eq_true hb)] at q; exact q)
  rw [if_neg (show ¬ c ∈ openC from of_decide_eq_false hb)] at q
  refine q_when o (by wtm_at "et") (fun hb H1 o => ?_) (fun hb H1 o => ?_)
  · refine s_retV o (by wtm_at "ev") (by rw [if_pos (of_decide_eq_true hb)] at q; exact q)
  rw [if_neg (of_decide_eq_false hb)] at q
  exact s_retV o (by wtm_at "ev") q

theorem ok_law_walk (T : Txt mg) (G : Glo mg) {f : Addr} {fd : FuncData} (F : Fun K "_law_walk" "_law_walk" s_law_walk f fd) (g : mg "_law_walk" = some (.ref f)) (b : Binds K fd ["text", "base"] []) : Cal P w K mg base 1 "_law_walk" ["text", "base"] (PSp K R_law_walk) := by
  refine .mk F g b (F.ok sc_law_walk (PSp.len fun _ _ h => by obtain ⟨T9, b9, rfl, ⟨hT, hb0, hb1⟩, rfl⟩ := h; rfl) (fun cdv A outer s H vs Q E hr h => ?_))
  obtain ⟨xs, d, hR, hD, q⟩ := h
  obtain ⟨T9, b9, rfl, ⟨hT, hb0, hb1⟩, rfl⟩ := hR
  obtain ⟨v0, v1, rfl, D0, D1⟩ := hD.n2
  obtain rfl := Dat.v_iff.mp D0
  obtain rfl := Dat.v_iff.mp D1
  refine ⟨_, (pss_cons (ps_set (i := 2) sc_law_walk.nd rfl (by first | exact Or.inl rfl | exact Or.inr rfl) (pe_lst (pa_cons (pv 1) pa_nil)))
    (pss_cons (ps_set (i := 3) sc_law_walk.nd rfl (by first | exact Or.inl rfl | exact Or.inr rfl) (pe_lst (pa_cons (pe_lst (pa_cons pe_int (pa_cons pe_int pa_nil))) pa_nil)))
    (pss_cons (ps_set (i := 4) sc_law_walk.nd rfl (by first | exact Or.inl rfl | exact Or.inr rfl) (pe_lst pa_nil))
    (pss_cons (ps_for PassesOwn.never rfl (pi_str (pv 0)) (pg_name (i := 5) sc_law_walk.nd rfl (by first | exact Or.inl rfl | exact Or.inr rfl))
    (pss_cons (ps_if (PW.pt (pw_and (pt_cmpR op_eq (pv 5) pe_str (nomark _)) (pw_and1 (pt_cmpR op_gt (pe_ixL K (pe_ixL K (pv 3) (pe_un un_neg pe_int)) pe_int) pe_int (nomark _)))))
      (pss_one (ps_asg (pe_op op_sub (pe_ixL K (pe_ixL K (pv 3) (pe_un un_neg pe_int)) pe_int) pe_int) (pg_sub (pe_ixL K (pv 3) (pe_un un_neg pe_int)) pe_int set_list)))
      (pss_one (ps_if (PW.pt (pw_and (pt_cmpR op_eq (pv 5) pe_str (nomark _)) (pw_and1 (pt_cmpR op_gt (pe_callB (call_len_seqK K) (by rfl) T.len_ PySem.boot_len (pa_cons (pv 3) pa_nil)) pe_int (nomark _)))))
        (pss_one (ps_set (i := 3) sc_law_walk.nd rfl (by first | exact Or.inl rfl | exact Or.inr rfl) (pe_slice sl_list (pv 3) po_none (po_some (pe_un un_neg pe_int)))))
        pss_nil)))
      (pss_cons (ps_expr (pe_bm PySem.F.plainAttrs_list PySem.F.slot_list_append PySem.F.type_list_append mt_append (pv 4) (pa_cons (pe_ixL K (pe_ixL K (pv 3) (pe_un un_neg pe_int)) pe_int) pa_nil)))
      (pss_one (ps_if (PW.pt (pw_or (pt_cmpR op_eq (pv 5) pe_str (nomark _)) (pw_or1 (pt_cmpR op_eq (pv 5) pe_str (nomark _)))))
      (pss_cons (ps_set (i := 6) sc_law_walk.nd rfl (by first | exact Or.inl rfl | exact Or.inr rfl) (pe_op op_add (pe_ixL K (pv 2) (pe_ixL K (pe_ixL K (pv 3) (pe_un un_neg pe_int)) pe_int)) pe_int))
        (pss_cons (ps_if (pt_cmpR op_ne (pe_op op_mod (pv 6) pe_int) (pe_callTy call_int1 (by rfl) T.int_ (by decide +kernel) (pa_cons (pe_cmpR op_eq (pv 5) pe_str (nomark _)) pa_nil)) (nomark _))
        (pss_one (ps_set (i := 6) sc_law_walk.nd rfl (by first | exact Or.inl rfl | exact Or.inr rfl) (pe_op op_add (pv 6) pe_int)))
        pss_nil)
        (pss_one (ps_if (pt_cmpR op_gt (pv 6) pe_int (nomark _))
        (pss_one (ps_asg (pe_op op_add (pe_ixL K (pe_ixL K (pv 3) (pe_un un_neg pe_int)) pe_int) pe_int) (pg_sub (pe_ixL K (pv 3) (pe_un un_neg pe_int)) pe_int set_list)))
        (pss_cons (ps_expr (pe_bm PySem.F.plainAttrs_list PySem.F.slot_list_append PySem.F.type_list_append mt_append (pv 3) (pa_cons (pe_lst (pa_cons (pe_callB (call_len_seqK K) (by rfl) T.len_ PySem.boot_len (pa_cons (pv 2) pa_nil)) (pa_cons pe_int pa_nil))) pa_nil)))
          (pss_one (ps_expr (pe_bm PySem.F.plainAttrs_list PySem.F.slot_list_append PySem.F.type_list_append mt_append (pv 2) (pa_cons (pv 6) pa_nil)))))))))
      pss_nil)))))
    (pss_one (ps_ret (pe_tup (pa_cons (pv 4) (pa_cons (pv 2) pa_nil))))))))), ?_⟩
  try dsimp only [cxOf, Cx.nox, Cx.wish]
  have hk : IsK K := ⟨⟩
  have o : Own H H [] := Own.nil
  refine q_setL (f := V.int) (ns := [b9]) o (show EvN _ _ _ (.l [di b9]) by wtm_at "en") fun pl H1 o => ?_
  refine q_setN (x := .l [.l [di 0, di 0]]) o (by wtm_at "en") fun v3 H2 o2 e2 d3 => ?_
  obtain ⟨pp, ys3, rfl, hn3, hp3, d3⟩ := DatN.l_iff.mp d3
  obtain ⟨y3, s3, rfl, d4, d5⟩ := DatsN.cons_iff.mp d3
  obtain rfl := DatsN.nil_iff.mp d5
  obtain ⟨a0, ys4, rfl, hn4, hp4, d6⟩ := DatN.l_iff.mp d4
  have ey := DatsN.map_eq (f := V.int) (xs := [0, 0]) d6
  subst ey
  have hne : a0 ≠ pp := fun e => by
    rw [e, hp3] at hp4
    cases hp4
  have o := Own.new2 o hn4 hn3 e2 hp4 hp3 hne
  clear o2
  refine q_setE o (by wtm_at "en") fun pf H3 o => ?_
  have w0 : WOwn H H3 pf pl pp a0 [] (wfold b9 []) := ⟨o.swap.perm (.cons _ (.cons _ (.swap _ _ _))), rfl⟩
  have o3 : Own H3 H3 [] := Own.nil
  refine q_forS (w := tx T9) (j := 5) o3 (by wtm_at "ev") (fun pre σ' H' => ∃ pp a er x y, σ' = [some (.str (tx T9)), some (.int b9), some (.ref pl), some (.ref pp), some (.ref pf), x, y] ∧ WOwn H H' pf pl pp a er (wfold b9 pre)) (fun H4 o4 => ⟨pp, a0, [], none, none, rfl, w0.grow o4.ex⟩) ?_ ?_
  rotate_left
  · rintro σ' H' ⟨pp, a, er, x, y, rfl, w⟩
    rw [tx_cps] at w
    exact s_ret2 (f := fun n : Nat => V.int n) (g := V.int) w.1 rfl rfl w.1.get1 w.1.get2 w.1.free1 w.1.free2 q
  rintro pre c post σ' H' hsp ⟨pp, a, er, x, y, rfl, w⟩
  rw [tx_cps] at hsp
  have hpl : pre.length < 60 := by rw [hsp, List.length_append, List.length_cons] at hT; omega
  have hok := wfold_ok ⟨hb0, hb1⟩ pre
  rw [wfold_snoc, wstep]
  generalize wfold b9 pre = s at hok w
  have ixn : ∀ s : Wk, atI ((s.rest ++ [s.top]).map dP) (-1) = some (dP s.top) := fun s => by rw [List.map_append]; exact atI_last _ _
  have ixf : ∀ (l : List Addr) (a : Addr), atI ((l ++ [a]).map fun x : Addr => D.v (.ref x)) (-1) = some (.v (.ref a)) := fun l a => by rw [List.map_append]; exact atI_last _ _
  have i0 : ∀ e : Nat × Nat, atI [dn e.1, dn e.2] 0 = some (dn e.1) := fun _ => rfl
  have i1 : ∀ e : Nat × Nat, atI [dn e.1, dn e.2] 1 = some (dn e.2) := fun _ => rfl
  have top1 : ∀ {σ : L2.St} {Hx : Hp} {pp a : Addr} {er : List (Addr × (Nat × Nat))} {s : Wk}, σ[3]? = some (some (.ref pp)) → WOwn H Hx pf pl pp a er s → EvD K (tOp (rIxL K) (tOp (rIxL K) (tVar 3) (tUn (rU fun i => V.int (-i)) (tC (V.int 1)))) (tC (V.int 0))) σ Hx (dn s.top.1) := fun h w => ev_op (ev_op (ev_var h w.nest) (ev_neg ev_c) (rd_ixL (ixn _))) ev_c (rd_ixL (i0 _))
  have top2 : ∀ {σ : L2.St} {Hx : Hp} {pp a : Addr} {er : List (Addr × (Nat × Nat))} {s : Wk}, σ[3]? = some (some (.ref pp)) → WOwn H Hx pf pl pp a er s → EvD K (tOp (rIxL K) (tOp (rIxL K) (tVar 3) (tUn (rU fun i => V.int (-i)) (tC (V.int 1)))) (tC (V.int 1))) σ Hx (dn s.top.2) := fun h w => ev_op (ev_op (ev_var h w.nest) (ev_neg ev_c) (rd_ixL (ixn _))) ev_c (rd_ixL (i1 _))
  have last : ∀ {σ : L2.St} {Hx Hy : Hp} {pp a : Addr} {er : List (Addr × (Nat × Nat))} {s : Wk}, σ[3]? = some (some (.ref pp)) → WOwn H Hx pf pl pp a er s → Evl.Ex Hx Hy → EvD K (tOp (rIxL K) (tVar 3) (tUn (rU fun i => V.int (-i)) (tC (V.int 1)))) σ Hy (.v (.ref a)) := fun h w e => ev_op (ev_var h (w.flat.mono e)) (ev_neg ev_c) (rd_ixL (ixf _ _))
  refine q_ifM (fun σ' H' => ∃ pp a er, σ' = [some (.str (tx T9)), some (.int b9), some (.ref pl), some (.ref pp), some (.ref pf), some (.str (sg c)), y] ∧ WOwn H H' pf pl pp a er (wclose c s)) w.1 (et_and (by wtm_at "et") fun _ => et_testK hk (ev_op (top2 rfl w) ev_c rd_I0)) ?_ (fun hb H1 o k => ?_) (fun hb H1 o k => ?_)
  rotate_left
  · have hb2 := (Bool.and_eq_true _ _).mp hb
    have hcl : sg c = ("|" : Str) := of_decide_eq_true hb2.1
    have h0 : 0 < s.top.2 := by have := of_decide_eq_true hb2.2; omega
    have w : WOwn H H1 pf pl pp a er s := ⟨o, w.2⟩
    refine s_putE (K := K) (j := 1) (n := 1) (v := .int ((s.top.2 : Int) - 1)) (p := a) o (fun H2 e2 => last rfl w e2) o.get0 (fun _ _ o => o.put0) (ev_op (top2 rfl w) ev_c rd_I0) (fun H2 e2 => by wtm_at "ev") (Evl.ixN_nat (show 1 < 2 by decide)) fun H2 o => ?_
    refine k _ _ ⟨pp, a, er, rfl, ?_⟩
    rw [wclose, if_pos hcl, if_pos h0]
    have e1 : V.int ((s.top.2 : Int) - 1) = V.int ((s.top.2 - 1 : Nat) : Int) := by rw [show (s.top.2 : Int) - 1 = ((s.top.2 - 1 : Nat) : Int) by omega]
    rw [e1] at o
    exact ⟨o, w.2⟩
  · have w : WOwn H H1 pf pl pp a er s := ⟨o, w.2⟩
    have hel : er.length = s.rest.length := by rw [← w.2, List.length_map]
    refine s_when o (et_and (by wtm_at "et") fun _ => et_testK hk (ev_op (ev_cb (eds_cons (ev_var rfl w.flat) eds_nil) cd_lenM) ev_c rd_I0)) (fun hb2 H2 o => ?_) (fun hb2 H2 o => ?_)
    · have hb2 := (Bool.and_eq_true _ _).mp hb2
      have hcl : sg c = ("|" : Str) := of_decide_eq_true hb2.1
      have h0 : ¬ 0 < s.top.2 := fun h9 => by
        rw [decide_eq_true hcl, decide_eq_true (show (0 : Int) < ((s.top.2 : Nat) : Int) by omega)] at hb
        cases hb
      have h1 : 0 < er.length := by
        have := of_decide_eq_true hb2.2
        rw [List.length_append, List.length_map] at this
        simp at this
        omega
      have w : WOwn H H2 pf pl pp a er s := ⟨o, w.2⟩
      rcases getLast_cases er with hn | ⟨R9, ⟨a9, t9⟩, hn, hlast⟩
      · rw [hn] at h1; cases h1
      · refine s_setL (f := V.ref) (ns := er.map (·.1)) o (EvN.is (en_sl (f := V.ref) (ns := er.map (·.1) ++ [a]) (ev_var rfl w.flat) eo_none (eo_some (ev_neg ev_c))) (by rw [cut_init])) fun p2 H3 o => ?_
        refine k _ _ ⟨p2, a9, R9, rfl, ?_⟩
        have hrest : s.rest = R9.map (·.2) ++ [t9] := by rw [← w.2, hn, List.map_append] <;> rfl
        rw [wclose, if_pos hcl, if_neg h0, hrest, List.getLast?_concat]
        show WOwn H H3 pf pl p2 a9 R9 { s with rest := (R9.map (·.2) ++ [t9]).dropLast, top := t9 }
        rw [List.dropLast_concat]
        refine ⟨?_, rfl⟩
        have o := o.drop1
        have o := (o.perm (List.perm_middle (l₁ := [(p2, HO.lst ((er.map (·.1)).map V.ref)), (pf, HO.lst (s.found.map fun n : Nat => V.int n)), (pl, HO.lst (s.floors.map V.int))])).symm).drop0
        rw [hn] at o
        show Own H H3 ((a9, .lst [.int (t9.1 : Int), .int (t9.2 : Int)]) :: (pf, .lst (s.found.map fun n : Nat => V.int n)) :: (pl, .lst (s.floors.map V.int)) :: (p2, .lst ((R9.map (·.1) ++ [a9]).map V.ref)) :: R9.map entP)
        simp only [List.map_append, List.map_cons, List.map_nil, List.cons_append, List.nil_append] at o ⊢
        have o := o.perm (List.perm_append_comm (l₁ := [entP (a9, t9)]) (l₂ := (p2, _) :: (pf, _) :: (pl, _) :: R9.map entP))
        exact o.perm (.cons _ (List.perm_middle (l₁ := [(pf, _), (pl, _)])))
    · refine k _ _ ⟨pp, a, er, rfl, ?_⟩
      have e9 : wclose c s = s := by
        rw [wclose]
        split
        · rename_i hcl
          split
          · rename_i h0
            rw [decide_eq_true hcl, decide_eq_true (show (0 : Int) < ((s.top.2 : Nat) : Int) by omega)] at hb
            cases hb
          · cases hr : s.rest with
            | nil => rfl
            | cons x r =>
              exfalso
              rw [decide_eq_true hcl] at hb2
              have := of_decide_eq_false hb2
              rw [List.length_append, List.length_map, hel, hr] at this
              simp at this
              omega
        · rfl
      rw [e9]
      exact ⟨o, w.2⟩
  rintro σ' H2 ⟨pp, a, er, rfl, w⟩
  have hok := wclose_ok hok c
  generalize wclose c s = s at hok w
  have hel : er.length = s.rest.length := by rw [← w.2, List.length_map]
  refine q_app (v := .int (s.top.1 : Int)) w.1 rfl w.1.get1 (fun _ _ o => o.put1) (by rw [List.length_map, hok.len]; omega) (top1 rfl w) fun H3 o => ?_
  have w : WOwn H H3 pf pl pp a er (wmark s) := ⟨by
    show Own H H3 ((a, .lst [.int (s.top.1 : Int), .int (s.top.2 : Int)]) :: (pf, .lst ((s.found ++ [s.top.1]).map fun n : Nat => V.int n)) :: _)
    rw [map_snoc]
    exact o, w.2⟩
  clear o
  refine s_when (b := decide (c ∈ openC)) w.1 (EvT.is (by wtm_at "et") (open_or c)) (fun hb H4 o => ?_) (fun hb H4 o => ⟨pp, a, er, _, _, rfl, by
    rw [wopen, if_neg (of_decide_eq_false hb)]
    exact ⟨o, w.2⟩⟩)
  have hop : c ∈ openC := of_decide_eq_true hb
  have w : WOwn H H4 pf pl pp a er (wmark s) := ⟨o, w.2⟩
  have ixg : atI (s.floors.map di) (s.top.1 : Int) = some (di (s.floors.getD s.top.1 0)) := atI_getD 0 (by omega) (by have := hok.num.1; omega)
  refine q_setV (v := .int (s.floors.getD s.top.1 0 + 1)) o (ev_op (ev_op (ev_var rfl w.flo) (top1 rfl w) (rd_ixL ixg)) ev_c rd_I0) fun H5 o => ?_
  refine q_ifSet (v0 := .int (s.floors.getD s.top.1 0 + 1)) (v1 := .int (s.floors.getD s.top.1 0 + 1 + 1)) o rfl (by wtm_at "et") (fun _ H6 o => by wtm_at "ev") fun H6 o => ?_
  rw [law_deep c (s.floors.getD s.top.1 0) hop]
  have w : WOwn H H6 pf pl pp a er (wmark s) := ⟨o, w.2⟩
  have hfl := hok.fl
  have hrl := hok.rl
  refine s_if o (by wtm_at "et") (fun hb2 H7 o => ?_) (fun hb2 H7 o => ?_)
  · have hd : deepF c (s.floors.getD s.top.1 0) > 6 := of_decide_eq_true hb2
    have w : WOwn H H7 pf pl pp a er (wmark s) := ⟨o, w.2⟩
    refine s_putE (K := K) (j := 1) (n := 1) (v := .int ((s.top.2 : Int) + 1)) (p := a) o (fun H2 e2 => last rfl w e2) o.get0 (fun _ _ o => o.put0) (ev_op (top2 rfl w) ev_c rd_I0) (fun H2 e2 => by wtm_at "ev") (Evl.ixN_nat (show 1 < 2 by decide)) fun H8 o => ?_
    refine ⟨pp, a, er, _, _, rfl, ?_⟩
    rw [wopen, if_pos hop]
    have hd' : deepF c ((wmark s).floors.getD (wmark s).top.1 0) > 6 := hd
    rw [if_pos hd']
    exact ⟨o, w.2⟩
  · have hd : ¬ deepF c (s.floors.getD s.top.1 0) > 6 := of_decide_eq_false hb2
    have w : WOwn H H7 pf pl pp a er (wmark s) := ⟨o, w.2⟩
    refine q_appN (x := dP (s.floors.length, 0)) o rfl o.get3 (fun _ _ o => Own.putAt (A := [_, _, _]) o) (by rw [List.length_map, List.length_append, List.length_map, hel]; show _ + 1 < _; omega) (en_lst (ens_cons (EvD.nK hk (ev_cb (eds_cons (ev_var rfl w.flo) eds_nil) cd_lenM)) (ens_cons (EvD.nK hk ev_c) ens_nil)) (Nat.le_of_ble_eq_true rfl)) fun v8 H8 e8 d8 _ => ?_
    obtain ⟨b8, ys8, rfl, hn8, hp8, dd8⟩ := DatN.l_iff.mp d8
    have ey := DatsN.map_eq (f := fun n : Nat => V.int n) (xs := [s.floors.length, 0]) dd8
    subst ey
    have o := Own.putAt (A := [_, _, _, _]) (u := .lst ((er.map (·.1) ++ [a]).map V.ref ++ [V.ref b8])) (o.new hn8 e8 hp8)
    refine s_app (v := .int (deepF c (s.floors.getD s.top.1 0))) o rfl o.get3 (fun _ _ o => Own.put3 o) (by rw [List.length_map]; show s.floors.length < _; omega) (by wtm_at "ev") fun H9 o => ?_
    refine ⟨pp, b8, er ++ [(a, s.top)], _, _, rfl, ?_⟩
    rw [wopen, if_pos hop]
    have hd' : ¬ deepF c ((wmark s).floors.getD (wmark s).top.1 0) > 6 := hd
    rw [if_neg hd']
    refine ⟨?_, by rw [List.map_append, w.2] <;> rfl⟩
    show Own H H9 ((b8, .lst [.int (s.floors.length : Int), .int ((0 : Nat) : Int)]) :: (pf, .lst ((wmark s).found.map fun n : Nat => V.int n)) :: (pl, .lst ((s.floors ++ [deepF c (s.floors.getD s.top.1 0)]).map V.int)) :: (pp, .lst (((er ++ [(a, s.top)]).map (·.1) ++ [b8]).map V.ref)) :: (er ++ [(a, s.top)]).map entP)
    simp only [List.map_append, List.map_cons, List.map_nil] at o ⊢
    exact o.perm (.cons _ (List.perm_append_comm (l₁ := (pf, _) :: (pl, _) :: (pp, _) :: er.map entP) (l₂ := [entP (a, s.top)])))

theorem ok_law_near (T : Txt mg) (G : Glo mg) {f : Addr} {fd : FuncData} (F : Fun K "_law_near" "_law_near" s_law_near f fd) (g : mg "_law_near" = some (.ref f)) (b : Binds K fd ["text", "told", "at", "step", "kinds"] []) (C_law_kind : Cal P w K mg base 1 "_law_kind" ["sign"] (PSp K R_law_kind)) : Cal P w K mg base 2 "_law_near" ["text", "told", "at", "step", "kinds"] (PSp K R_law_near) := by
  refine .mk F g b (F.ok sc_law_near (PSp.len fun _ _ h => by obtain ⟨T9, st, fl, at9, step, ks, rfl, ⟨htd, hat, hst⟩, rfl⟩ := h; rfl) (fun cdv A outer s H vs Q E hr h => ?_))
  obtain ⟨xs, d, hR, hD, q⟩ := h
  obtain ⟨T9, st, fl, at9, step, ks, rfl, ⟨htd, hat, hst⟩, rfl⟩ := hR
  obtain ⟨v0, v1, v2, v3, v4, rfl, D0, D1, D2, D3, D4⟩ := hD.n5
  obtain rfl := Dat.v_iff.mp D0
  obtain ⟨p1, ys1, rfl, S1, N1⟩ := Dat.t_iff.mp D1
  obtain rfl := Dat.v_iff.mp D2
  obtain rfl := Dat.v_iff.mp D3
  obtain ⟨p4, rfl, S4⟩ := Dat.flatE D4
  refine ⟨_, (pss_cons (ps_set (i := 5) sc_law_near.nd rfl (by first | exact Or.inl rfl | exact Or.inr rfl) (pe_op op_add (pv 2) (pv 3)))
    (pss_cons (ps_while PassesOwn.never (pt_chain op_le op_lt pe_int (pv 5) (pe_callB call_len_str (by rfl) T.len_ PySem.boot_len (pa_cons (pv 0) pa_nil)))
    (pss_cons (ps_if (PW.pt (pw_and (pt_cmpR op_eq (pe_ixL K (pe_ixTu K (pv 1) pe_int) (pv 5)) (pe_ixL K (pe_ixTu K (pv 1) pe_int) (pv 2)) (nomark _)) (pw_and1 (pt_cmpR (op_in_seqK K) (pe_callC C_law_kind hr (pa_cons (pe_ix ix_str (pv 0) (pv 5) (fun _ _ => rfl)) pa_nil)) (pv 4) (by rfl)))))
      (pss_one (ps_ret (pv 5)))
      pss_nil)
      (pss_one (ps_set (i := 5) sc_law_near.nd rfl (by first | exact Or.inl rfl | exact Or.inr rfl) (pe_op op_add (pv 5) (pv 3))))))
    (pss_one (ps_ret pe_non)))), ?_⟩
  try dsimp only [cxOf, Cx.nox, Cx.wish]
  have hk : IsK K := ⟨⟩
  have o : Own H H [] := Own.nil
  have hT := htd.n
  have test : ∀ {p : Nat} {Hx : Hp} {stp : Int}, p < T9.length → Evl.Ex H Hx → EvT (tAnd (tTest (tOp rEq (tOp (rIxL K) (tOp (rIxT K) (tVar 1) (tC (.int 0))) (tVar 5)) (tOp (rIxL K) (tOp (rIxT K) (tVar 1) (tC (.int 0))) (tVar 2)))) (tTest (tOp (rIn K false) (tCall (PSp K R_law_kind) [] E0 (tCons (tOp rIxS (tVar 0) (tVar 5)) tNil)) (tVar 4)))) [some (.str (tx T9)), some (.ref p1), some (.int (at9 : Int)), some (.int stp), some (.ref p4), some (.int (p : Int))] Hx (sameA st (st.getD at9 0) p && inV (.str (kdA (T9.map kindS) p)) (ks.map V.str)) := fun {p Hx stp} hp ex => by
    have rk : R_law_kind [ds (sg (T9.getD p 0))] (ds (kindS (T9.getD p 0))) := ⟨_, rfl, rfl⟩
    refine et_and (EvT.is (et_testK hk (ev_op (ev_told0 (ev_var rfl (D1.mono ex)) (ev_var rfl Dat.v) (by rw [htd.s]; exact hp)) (ev_told0 (ev_var rfl (D1.mono ex)) (ev_var rfl Dat.v) (by rw [htd.s]; exact hat)) rd_eqI)) (decide_eq_decide.mpr (by omega))) fun _ => ?_
    rw [kd_at hp]
    exact et_testK hk (ev_op (ev_call (eds_cons (ev_sign (ev_var rfl Dat.v) (ev_var rfl Dat.v) hT hp) eds_nil) rk) (ev_var rfl (D4.mono ex)) (rd_inL (f := V.str) (ns := ks) rfl (by
      rw [List.all_eq_true]
      intro x hx
      obtain ⟨s9, _, rfl⟩ := List.mem_map.mp hx
      rfl)))
  have lenT : ∀ {σ : L2.St} {Hx : Hp}, σ[0]? = some (some (.str (tx T9))) → EvD K (tCB (fun xs H Q => ∃ z, xs = [.str z] ∧ z.length ≤ sizeLine ∧ Q (.int z.length) H) (tCons (tVar 0) tNil)) σ Hx (dn T9.length) := fun h => EvD.is (ev_cb (eds_cons (ev_var h Dat.v) eds_nil) (cd_lenS (by rw [tx_len]; omega))) (by rw [tx_len])
  refine q_setV o (by wtm_at "ev") fun H1 o => ?_
  rcases hst with rfl | rfl
  · rw [nearF, if_pos rfl] at q
    refine q_whileO (m0 := at9) (fun m σ' H' => ∃ p : Nat, σ' = [some (.str (tx T9)), some (.ref p1), some (.int (at9 : Int)), some (.int (-1)), some (.ref p4), some (.int ((p : Int) - 1))] ∧ m = p ∧ p ≤ at9 ∧ nearB (fun j => sameA st (st.getD at9 0) j && inV (.str (kdA (T9.map kindS) j)) (ks.map V.str)) at9 = nearB (fun j => sameA st (st.getD at9 0) j && inV (.str (kdA (T9.map kindS) j)) (ks.map V.str)) p ∧ Own H H' []) ⟨at9, rfl, rfl, Nat.le_refl _, rfl, o⟩ ?_
    rintro m σ' H' ⟨p, rfl, rfl, hpa, hnr, o⟩
    refine ⟨decide (0 ≤ (m : Int) - 1) && decide ((m : Int) - 1 < (T9.length : Int)), et_testK hk (ev_chainK ev_c (ev_var rfl Dat.v) rd_I0 (fun _ => lenT rfl) (fun _ => rd_I0)), fun hb H1 e1 => ?_, fun hb H1 e1 => ?_⟩
    · have hb2 := (Bool.and_eq_true _ _).mp hb
      have hp0 := of_decide_eq_true hb2.1
      obtain ⟨p, rfl⟩ : ∃ p, m = p + 1 := ⟨m - 1, by omega⟩
      have ep : ((p + 1 : Nat) : Int) - 1 = (p : Int) := by omega
      rw [ep]
      have o := o.grow e1
      rw [nearB] at hnr
      refine q_when o (test (by omega) o.ex) (fun hb H2 o => ?_) (fun hb H2 o => ?_)
      · rw [if_pos hb] at hnr
        rw [hnr] at q
        exact s_retV (v := .int (p : Int)) o (by wtm_at "ev") q
      · rw [if_neg (by rw [hb]; decide)] at hnr
        exact s_setV (v := .int ((p : Int) + (-1))) o (by wtm_at "ev") fun H3 o => ⟨p, Nat.lt_succ_self _, p, rfl, rfl, by omega, hnr, o⟩
    · have o := o.grow e1
      have hm0 : m = 0 := by
        rcases Nat.eq_zero_or_pos m with h | h
        · exact h
        · rw [decide_eq_true (by omega), decide_eq_true (by omega)] at hb
          cases hb
      subst hm0
      rw [hnr] at q
      exact s_retV (v := .non) o (by wtm_at "ev") q
  · rw [nearF, if_neg (by decide)] at q
    have e0 : (at9 : Int) + 1 = ((at9 + 1 : Nat) : Int) := by omega
    refine q_whileO (m0 := T9.length - (at9 + 1)) (fun m σ' H' => ∃ p : Nat, σ' = [some (.str (tx T9)), some (.ref p1), some (.int (at9 : Int)), some (.int 1), some (.ref p4), some (.int (p : Int))] ∧ m = T9.length - p ∧ p ≤ T9.length ∧ nearA (fun j => sameA st (st.getD at9 0) j && inV (.str (kdA (T9.map kindS) j)) (ks.map V.str)) (at9 + 1) (T9.length - (at9 + 1)) = nearA (fun j => sameA st (st.getD at9 0) j && inV (.str (kdA (T9.map kindS) j)) (ks.map V.str)) p (T9.length - p) ∧ Own H H' []) ⟨at9 + 1, by rw [← e0] <;> rfl, rfl, hat, rfl, o⟩ ?_
    rintro m σ' H' ⟨p, rfl, rfl, hpa, hnr, o⟩
    refine ⟨decide (0 ≤ (p : Int)) && decide ((p : Int) < (T9.length : Int)), et_testK hk (ev_chainK ev_c (ev_var rfl Dat.v) rd_I0 (fun _ => lenT rfl) (fun _ => rd_I0)), fun hb H1 e1 => ?_, fun hb H1 e1 => ?_⟩
    · have hb2 := (Bool.and_eq_true _ _).mp hb
      have hp0 := of_decide_eq_true hb2.2
      have hp : p < T9.length := by omega
      have o := o.grow e1
      rw [show T9.length - p = (T9.length - (p + 1)) + 1 by omega, nearA] at hnr
      refine q_when o (test hp o.ex) (fun hb H2 o => ?_) (fun hb H2 o => ?_)
      · rw [if_pos hb] at hnr
        rw [hnr] at q
        exact s_retV (v := .int (p : Int)) o (by wtm_at "ev") q
      · rw [if_neg (by rw [hb]; decide)] at hnr
        exact s_setV (v := .int ((p : Int) + 1)) o (by wtm_at "ev") fun H3 o => ⟨T9.length - (p + 1), by omega, p + 1, rfl, rfl, by omega, hnr, o⟩
    · have o := o.grow e1
      have hm0 : p = T9.length := by
        rcases Nat.lt_or_ge p T9.length with h | h
        · rw [decide_eq_true (by omega), decide_eq_true (by omega)] at hb
          cases hb
        · omega
      subst hm0
      rw [Nat.sub_self] at hnr
      rw [hnr] at q
      exact s_retV (v := .non) o (by wtm_at "ev") q

theorem ok_law_firm (T : Txt mg) (G : Glo mg) {f : Addr} {fd : FuncData} (F : Fun K "_law_firm" "_law_firm" s_law_firm f fd) (g : mg "_law_firm" = some (.ref f)) (b : Binds K fd ["text", "told", "at"] []) (C_law_kind : Cal P w K mg base 1 "_law_kind" ["sign"] (PSp K R_law_kind)) (C_law_near : Cal P w K mg base 2 "_law_near" ["text", "told", "at", "step", "kinds"] (PSp K R_law_near)) : Cal P w K mg base 3 "_law_firm" ["text", "told", "at"] (PSp K R_law_firm) := by
  refine .mk F g b (F.ok sc_law_firm (PSp.len fun _ _ h => by obtain ⟨T9, st, fl, at9, rfl, ⟨htd, hat⟩, rfl⟩ := h; rfl) (fun cdv A outer s H vs Q E hr h => ?_))
  obtain ⟨xs, d, hR, hD, q⟩ := h
  obtain ⟨T9, st, fl, at9, rfl, ⟨htd, hat⟩, rfl⟩ := hR
  obtain ⟨v0, v1, v2, rfl, D0, D1, D2⟩ := hD.n3
  obtain rfl := Dat.v_iff.mp D0
  obtain ⟨p1, ys1, rfl, S1, N1⟩ := Dat.t_iff.mp D1
  obtain rfl := Dat.v_iff.mp D2
  refine ⟨_, (pss_cons (ps_if (pt_cmpR op_ne (pe_callC C_law_kind hr (pa_cons (pe_ix ix_str (pv 0) (pv 2) (fun _ _ => rfl)) pa_nil)) pe_str (nomark _))
    (pss_one (ps_ret (pe_callC C_law_kind hr (pa_cons (pe_ix ix_str (pv 0) (pv 2) (fun _ _ => rfl)) pa_nil))))
    pss_nil)
    (pss_cons (ps_set (i := 3) sc_law_firm.nd rfl (by first | exact Or.inl rfl | exact Or.inr rfl) (pe_callC C_law_near hr (pa_cons (pv 0) (pa_cons (pv 1) (pa_cons (pv 2) (pa_cons (pe_un un_neg pe_int) (pa_cons (pe_lst (pa_cons pe_str (pa_cons pe_str pa_nil))) pa_nil)))))))
    (pss_cons (ps_if (pt_cmpR op_isN (pv 3) pe_non (nomark _))
    (pss_one (ps_ret (pe_ixL K (pe_lst (pa_cons pe_str (pa_cons pe_str pa_nil))) (pe_op op_mod (pe_ixL K (pe_ixTu K (pv 1) pe_int) (pe_ixL K (pe_ixTu K (pv 1) pe_int) (pv 2))) pe_int))))
    pss_nil)
    (pss_one (ps_ret (pe_callC C_law_kind hr (pa_cons (pe_ix ix_str (pv 0) (pv 3) (fun _ _ => rfl)) pa_nil))))))), ?_⟩
  try dsimp only [cxOf, Cx.nox, Cx.wish]
  have hk : IsK K := ⟨⟩
  have o : Own H H [] := Own.nil
  have hT := htd.n
  have hsl : st.getD at9 0 < fl.length := htd.a _ (getD_mem 0 (by rw [htd.s]; exact hat))
  have rk : ∀ p, R_law_kind [ds (sg (T9.getD p 0))] (ds (kindS (T9.getD p 0))) := fun p => ⟨_, rfl, rfl⟩
  have rn : R_law_near [ds (tx T9), dTold st fl, dn at9, di (-1), dS [eaS, weS]] (.v (onV (nearF T9 st [eaS, weS] at9 (-1)))) := ⟨_, _, _, _, _, _, rfl, ⟨htd, hat, .inl rfl⟩, rfl⟩
  unfold firmA at q
  rw [kd_at hat] at q
  refine q_when o (et_testK hk (ev_op (ev_call (eds_cons (ev_sign (ev_var rfl Dat.v) (ev_var rfl Dat.v) hT hat) eds_nil) (rk at9)) ev_c rd_neS)) (fun hb H1 o => ?_) (fun hb H1 o => ?_)
  · have hn : ¬ kindS (T9.getD at9 0) = fiS := fun h9 => by
      rw [decide_eq_true h9] at hb
      cases hb
    rw [if_neg hn] at q
    exact s_retV (K := K) o (ev_call (eds_cons (ev_sign (ev_var rfl Dat.v) (ev_var rfl Dat.v) hT hat) eds_nil) (rk at9)) q
  have hn : kindS (T9.getD at9 0) = fiS := by
    by_cases h9 : kindS (T9.getD at9 0) = fiS
    · exact h9
    · rw [decide_eq_false h9] at hb
      cases hb
  rw [if_pos hn] at q
  rw [nearF, if_pos rfl] at rn
  refine q_setV (K := K) o (ev_call (eds_cons (ev_var rfl Dat.v) (eds_cons (ev_var rfl (D1.mono o.ex)) (eds_cons (ev_var rfl Dat.v) (eds_cons (ev_neg ev_c) (eds_cons (EvN.d (show EvN _ _ _ (dS [eaS, weS]) from en_lst (ens_cons (EvD.nK hk ev_c) (ens_cons (EvD.nK hk ev_c) ens_nil)) (Nat.le_of_ble_eq_true rfl))) eds_nil))))) rn) fun H2 o => ?_
  cases hnb : nearB (fun j => sameA st (st.getD at9 0) j && inV (.str (kdA (T9.map kindS) j)) ([eaS, weS].map V.str)) at9 with
  | none =>
    have hq : nearB (fun j => sameA st (st.getD at9 0) j && isL (kdA (T9.map kindS) j)) at9 = none := hnb
    rw [hq] at q
    refine q_when (b := true) o (EvT.is (by wtm_at "et") (by rfl)) (fun hb H3 o => ?_) (fun hb => by cases hb)
    exact s_retV (K := K) o (ev_op (EvN.d (show EvN _ _ _ (.l [ds eaS, ds weS]) by wtm_at "en")) (ev_op (ev_told1 (ev_var rfl (D1.mono o.ex)) (ev_told0 (ev_var rfl (D1.mono o.ex)) (ev_var rfl Dat.v) (by rw [htd.s]; exact hat)) hsl) ev_c (rd_I (by decide))) (rd_ixL (own_at _))) q
  | some j9 =>
    have hq : nearB (fun j => sameA st (st.getD at9 0) j && isL (kdA (T9.map kindS) j)) at9 = some j9 := hnb
    have hj : j9 < T9.length := Nat.lt_trans (nearB_lt hq).1 hat
    rw [hq] at q
    have q : ∀ (v : V) (H2 : Hp), Evl.Ex H H2 → DatN H H2 (ds (kindS (T9.getD j9 0))) v → Q v H2 := by
      rw [← kd_at hj]
      exact q
    refine q_when (b := false) o (EvT.is (by wtm_at "et") (by rfl)) (fun hb => by cases hb) (fun hb H3 o => ?_)
    exact s_retV (K := K) o (ev_call (eds_cons (ev_sign (ev_var rfl Dat.v) (ev_var (x := .int (j9 : Int)) rfl Dat.v) hT hj) eds_nil) (rk j9)) q

theorem ok_law_side (T : Txt mg) (G : Glo mg) {f : Addr} {fd : FuncData} (F : Fun K "_law_side" "_law_side" s_law_side f fd) (g : mg "_law_side" = some (.ref f)) (b : Binds K fd ["text", "told", "at"] []) (C_law_kind : Cal P w K mg base 1 "_law_kind" ["sign"] (PSp K R_law_kind)) (C_law_firm : Cal P w K mg base 3 "_law_firm" ["text", "told", "at"] (PSp K R_law_firm)) (C_law_near : Cal P w K mg base 2 "_law_near" ["text", "told", "at", "step", "kinds"] (PSp K R_law_near)) : Cal P w K mg base 4 "_law_side" ["text", "told", "at"] (PSp K R_law_side) := by
  refine .mk F g b (F.ok sc_law_side (PSp.len fun _ _ h => by obtain ⟨T9, st, fl, at9, rfl, ⟨htd, hat⟩, rfl⟩ := h; rfl) (fun cdv A outer s H vs Q E hr h => ?_))
  obtain ⟨xs, d, hR, hD, q⟩ := h
  obtain ⟨T9, st, fl, at9, rfl, ⟨htd, hat⟩, rfl⟩ := hR
  obtain ⟨v0, v1, v2, rfl, D0, D1, D2⟩ := hD.n3
  obtain rfl := Dat.v_iff.mp D0
  obtain ⟨p1, ys1, rfl, S1, N1⟩ := Dat.t_iff.mp D1
  obtain rfl := Dat.v_iff.mp D2
  refine ⟨_, (pss_cons (ps_set (i := 3) sc_law_side.nd rfl (by first | exact Or.inl rfl | exact Or.inr rfl) (pe_ixL K (pe_lst (pa_cons pe_str (pa_cons pe_str pa_nil))) (pe_op op_mod (pe_ixL K (pe_ixTu K (pv 1) pe_int) (pe_ixL K (pe_ixTu K (pv 1) pe_int) (pv 2))) pe_int)))
    (pss_cons (ps_if (pt_cmpR (op_in_seqK K) (pe_callC C_law_kind hr (pa_cons (pe_ix ix_str (pv 0) (pv 2) (fun _ _ => rfl)) pa_nil)) (pe_tup (pa_cons pe_str (pa_cons pe_str (pa_cons pe_str pa_nil)))) (by rfl))
    (pss_one (ps_ret (pe_callC C_law_firm hr (pa_cons (pv 0) (pa_cons (pv 1) (pa_cons (pv 2) pa_nil))))))
    pss_nil)
    (pss_cons (ps_set (i := 4) sc_law_side.nd rfl (by first | exact Or.inl rfl | exact Or.inr rfl) (pe_lst pa_nil))
    (pss_cons (ps_for PassesOwn.never rfl (pi_list (pe_lst (pa_cons (pe_un un_neg pe_int) (pa_cons pe_int pa_nil)))) (pg_name (i := 5) sc_law_side.nd rfl (by first | exact Or.inl rfl | exact Or.inr rfl))
    (pss_cons (ps_set (i := 6) sc_law_side.nd rfl (by first | exact Or.inl rfl | exact Or.inr rfl) (pe_callC C_law_near hr (pa_cons (pv 0) (pa_cons (pv 1) (pa_cons (pv 2) (pa_cons (pv 5) (pa_cons (pe_lst (pa_cons pe_str (pa_cons pe_str (pa_cons pe_str pa_nil)))) pa_nil)))))))
      (pss_one (ps_if (pt_cmpR op_isN (pv 6) pe_non (nomark _))
      (pss_one (ps_expr (pe_bm PySem.F.plainAttrs_list PySem.F.slot_list_append PySem.F.type_list_append mt_append (pv 4) (pa_cons (pv 3) pa_nil))))
      (pss_one (ps_expr (pe_bm PySem.F.plainAttrs_list PySem.F.slot_list_append PySem.F.type_list_append mt_append (pv 4) (pa_cons (pe_callC C_law_firm hr (pa_cons (pv 0) (pa_cons (pv 1) (pa_cons (pv 6) pa_nil)))) pa_nil))))))))
    (pss_cons (ps_if (pt_cmpR op_eq (pe_ixL K (pv 4) pe_int) (pe_ixL K (pv 4) pe_int) (nomark _))
    (pss_one (ps_ret (pe_ixL K (pv 4) pe_int)))
    pss_nil)
    (pss_one (ps_ret (pv 3)))))))), ?_⟩
  try dsimp only [cxOf, Cx.nox, Cx.wish]
  have hk : IsK K := ⟨⟩
  have o : Own H H [] := Own.nil
  have hT := htd.n
  have hsl : st.getD at9 0 < fl.length := htd.a _ (getD_mem 0 (by rw [htd.s]; exact hat))
  have rk : ∀ p, R_law_kind [ds (sg (T9.getD p 0))] (ds (kindS (T9.getD p 0))) := fun p => ⟨_, rfl, rfl⟩
  have rf : ∀ p, p < T9.length → R_law_firm [ds (tx T9), dTold st fl, dn p] (ds (firmA st (T9.map kindS) fl p)) := fun p hp => ⟨_, _, _, _, rfl, ⟨htd, hp⟩, rfl⟩
  have rn1 : R_law_near [ds (tx T9), dTold st fl, dn at9, di (-1), dS [eaS, weS, fiS]] (.v (onV (nearF T9 st [eaS, weS, fiS] at9 (-1)))) := ⟨_, _, _, _, _, _, rfl, ⟨htd, hat, .inl rfl⟩, rfl⟩
  have rn2 : R_law_near [ds (tx T9), dTold st fl, dn at9, di 1, dS [eaS, weS, fiS]] (.v (onV (nearF T9 st [eaS, weS, fiS] at9 1))) := ⟨_, _, _, _, _, _, rfl, ⟨htd, hat, .inr rfl⟩, rfl⟩
  rw [nearF, if_pos rfl] at rn1
  rw [nearF, if_neg (by decide)] at rn2
  unfold sideA at q
  rw [kd_at hat, List.length_map] at q
  refine q_setV (K := K) (v := .str (ownA fl (st.getD at9 0))) o (ev_op (EvN.d (show EvN _ _ _ (.l [ds eaS, ds weS]) by wtm_at "en")) (ev_op (ev_told1 (ev_var rfl D1) (ev_told0 (ev_var rfl D1) (ev_var rfl Dat.v) (by rw [htd.s]; exact hat)) hsl) ev_c (rd_I (by decide))) (rd_ixL (own_at _))) fun H1 o => ?_
  refine q_when (b := isF (kindS (T9.getD at9 0))) o (et_testK hk (ev_op (ev_call (eds_cons (ev_sign (ev_var rfl Dat.v) (ev_var rfl Dat.v) hT hat) eds_nil) (rk at9)) (ev_tup (eds_cons ev_c (eds_cons ev_c (eds_cons ev_c eds_nil))) (Nat.le_of_ble_eq_true rfl)) (rd_inT (f := V.str) (ns := [eaS, weS, fiS]) rfl rfl))) (fun hb H2 o => ?_) (fun hb H2 o => ?_)
  · rw [if_pos hb] at q
    exact s_retV (K := K) o (ev_call (eds_cons (ev_var rfl Dat.v) (eds_cons (ev_var rfl (D1.mono o.ex)) (eds_cons (ev_var rfl Dat.v) eds_nil))) (rf at9 hat)) q
  rw [if_neg (by rw [hb]; decide)] at q
  refine q_setE o (by wtm_at "en") fun pf H3 o => ?_
  generalize hown : ownA fl (st.getD at9 0) = own9 at q
  have hnb : ∀ j, nearB (fun j => sameA st (st.getD at9 0) j && inV (.str (kdA (T9.map kindS) j)) ([eaS, weS, fiS].map V.str)) at9 = some j → j < T9.length := fun j h => Nat.lt_trans (nearB_lt h).1 hat
  have hna : ∀ j, nearA (fun j => sameA st (st.getD at9 0) j && inV (.str (kdA (T9.map kindS) j)) ([eaS, weS, fiS].map V.str)) (at9 + 1) (T9.length - (at9 + 1)) = some j → j < T9.length := fun j h => by have := nearA_lt h; omega
  have q : ∀ (v : V) (H2 : Hp), Evl.Ex H H2 → DatN H H2 (ds (if onO own9 (firmA st (T9.map kindS) fl) (nearB (fun j => sameA st (st.getD at9 0) j && inV (.str (kdA (T9.map kindS) j)) ([eaS, weS, fiS].map V.str)) at9) = onO own9 (firmA st (T9.map kindS) fl) (nearA (fun j => sameA st (st.getD at9 0) j && inV (.str (kdA (T9.map kindS) j)) ([eaS, weS, fiS].map V.str)) (at9 + 1) (T9.length - (at9 + 1))) then onO own9 (firmA st (T9.map kindS) fl) (nearB (fun j => sameA st (st.getD at9 0) j && inV (.str (kdA (T9.map kindS) j)) ([eaS, weS, fiS].map V.str)) at9) else own9)) v → Q v H2 := q
  generalize nearB (fun j => sameA st (st.getD at9 0) j && inV (.str (kdA (T9.map kindS) j)) ([eaS, weS, fiS].map V.str)) at9 = nb at rn1 hnb q
  generalize nearA (fun j => sameA st (st.getD at9 0) j && inV (.str (kdA (T9.map kindS) j)) ([eaS, weS, fiS].map V.str)) (at9 + 1) (T9.length - (at9 + 1)) = na at rn2 hna q
  refine q_forN (f := V.int) (ns := [-1, 1]) (j := 5) o (show EvN _ _ _ (.l [di (-1), di 1]) from en_lst (ens_cons (EvD.nK hk (ev_neg ev_c)) (ens_cons (EvD.nK hk ev_c) ens_nil)) (Nat.le_of_ble_eq_true rfl)) (fun pl pre σ' H' => ∃ x y, σ' = [some (.str (tx T9)), some (.ref p1), some (.int (at9 : Int)), some (.str own9), some (.ref pf), x, y] ∧ Own H H' [(pf, .lst ((pre.map fun s : Int => onO own9 (firmA st (T9.map kindS) fl) (if s = -1 then nb else na)).map V.str)), (pl, .lst ([-1, 1].map V.int))]) (fun pl H1 o => ⟨none, none, rfl, o.swap⟩) (fun pl pre σ' H' ⟨_, _, _, o⟩ => sq_of o.get1) ?_ ?_
  · rintro pl pre s post σ' H' hsp ⟨x, y, rfl, o⟩
    have hs : s = -1 ∨ s = 1 := by
      have : s ∈ ([-1, 1] : List Int) := by rw [hsp]; simp
      simpa using this
    have hpre : pre.length ≤ 2 := by
      have := congrArg List.length hsp
      rw [List.length_append] at this
      simp at this
      omega
    have hml : ((pre.map fun s : Int => onO own9 (firmA st (T9.map kindS) fl) (if s = -1 then nb else na)).map V.str).length < 100000 := by rw [List.length_map, List.length_map]; omega
    have hnr : R_law_near [ds (tx T9), dTold st fl, dn at9, di s, dS [eaS, weS, fiS]] (.v (onV (if s = -1 then nb else na))) ∧ ∀ j, (if s = -1 then nb else na) = some j → j < T9.length := by
      rcases hs with rfl | rfl
      · rw [if_pos rfl]; exact ⟨rn1, hnb⟩
      · rw [if_neg (by decide)]; exact ⟨rn2, hna⟩
    obtain ⟨hnr, hlt⟩ := hnr
    rw [map_snoc, map_snoc]
    generalize (if s = -1 then nb else na) = n9 at hnr hlt
    refine q_setV (K := K) o (ev_call (eds_cons (ev_var rfl Dat.v) (eds_cons (ev_var rfl (D1.mono o.ex)) (eds_cons (ev_var rfl Dat.v) (eds_cons (ev_var (x := .int s) rfl Dat.v) (eds_cons (EvN.d (show EvN _ _ _ (dS [eaS, weS, fiS]) from en_lst (ens_cons (EvD.nK hk ev_c) (ens_cons (EvD.nK hk ev_c) (ens_cons (EvD.nK hk ev_c) ens_nil))) (Nat.le_of_ble_eq_true rfl))) eds_nil))))) hnr) fun H4 o => ?_
    cases n9 with
    | none =>
      refine s_if (b := true) o (EvT.is (by wtm_at "et") (by rfl)) (fun hb H5 o => ?_) (fun hb => by cases hb)
      exact s_app (v := .str own9) o rfl o.get0 (fun _ _ o => o.put0) hml (ev_var rfl Dat.v) fun H6 o => ⟨_, _, rfl, o⟩
    | some j9 =>
      have hj := hlt j9 rfl
      refine s_if (b := false) o (EvT.is (by wtm_at "et") (by rfl)) (fun hb => by cases hb) (fun hb H5 o => ?_)
      exact s_app (v := .str (firmA st (T9.map kindS) fl j9)) o rfl o.get0 (fun _ _ o => o.put0) hml (ev_call (eds_cons (ev_var rfl Dat.v) (eds_cons (ev_var rfl (D1.mono o.ex)) (eds_cons (ev_var (x := .int (j9 : Int)) rfl Dat.v) eds_nil))) (rf j9 hj)) fun H6 o => ⟨_, _, rfl, o⟩
  · rintro pl σ' H' ⟨x, y, rfl, o⟩
    have ix0 : atI [ds (onO own9 (firmA st (T9.map kindS) fl) nb), ds (onO own9 (firmA st (T9.map kindS) fl) na)] 0 = some (ds (onO own9 (firmA st (T9.map kindS) fl) nb)) := rfl
    have ix1 : atI [ds (onO own9 (firmA st (T9.map kindS) fl) nb), ds (onO own9 (firmA st (T9.map kindS) fl) na)] 1 = some (ds (onO own9 (firmA st (T9.map kindS) fl) na)) := rfl
    have o : Own H H' [(pf, .lst [.str (onO own9 (firmA st (T9.map kindS) fl) nb), .str (onO own9 (firmA st (T9.map kindS) fl) na)])] := by
      have := Own.drop1 o
      exact this
    have Df : ∀ {Hx : Hp}, Evl.Ex H' Hx → Dat K Hx (.l [ds (onO own9 (firmA st (T9.map kindS) fl) nb), ds (onO own9 (firmA st (T9.map kindS) fl) na)]) (.ref pf) := fun e => Dat.mono e (Dat.l_iff.mpr ⟨pf, _, rfl, sq_of o.get0, Dats.cons Dat.v (Dats.cons Dat.v Dats.nil)⟩)
    generalize onO own9 (firmA st (T9.map kindS) fl) nb = b9 at *
    generalize onO own9 (firmA st (T9.map kindS) fl) na = a9 at *
    have eb := o.ex
    have o9 : Own H' H' [] := Own.nil
    refine q_when (b := decide (b9 = a9)) o9 (et_testK hk (ev_op (ev_op (ev_var rfl (Df (Evl.Ex.refl _))) ev_c (rd_ixL ix0)) (ev_op (ev_var rfl (Df (Evl.Ex.refl _))) ev_c (rd_ixL ix1)) rd_eqS)) (fun hb H3 o9 => ?_) (fun hb H3 o9 => ?_)
    · rw [if_pos (of_decide_eq_true hb)] at q
      exact s_retV (K := K) o9 (ev_op (ev_var rfl (Df o9.ex)) ev_c (rd_ixL ix0)) fun u H2 e d => q u H2 (eb.trans e) (DatN.v_iff.mpr (DatN.v_iff.mp d))
    · rw [if_neg (of_decide_eq_false hb)] at q
      exact s_retV (K := K) o9 (ev_var rfl Dat.v) fun u H2 e d => q u H2 (eb.trans e) (DatN.v_iff.mpr (DatN.v_iff.mp d))

theorem ok_law_levels (T : Txt mg) (G : Glo mg) {f : Addr} {fd : FuncData} (F : Fun K "_law_levels" "_law_levels" s_law_levels f fd) (g : mg "_law_levels" = some (.ref f)) (b : Binds K fd ["text", "base"] []) (C_law_walk : Cal P w K mg base 1 "_law_walk" ["text", "base"] (PSp K R_law_walk)) (C_law_side : Cal P w K mg base 4 "_law_side" ["text", "told", "at"] (PSp K R_law_side)) (C_law_kind : Cal P w K mg base 1 "_law_kind" ["sign"] (PSp K R_law_kind)) : Cal P w K mg base 5 "_law_levels" ["text", "base"] (PSp K R_law_levels) := by
  refine .mk F g b (F.ok sc_law_levels (PSp.len fun _ _ h => by obtain ⟨T9, b9, rfl, ⟨hT, hb0, hb1⟩, rfl⟩ := h; rfl) (fun cdv A outer s H vs Q E hr h => ?_))
  obtain ⟨xs, d, hR, hD, q⟩ := h
  obtain ⟨T9, b9, rfl, ⟨hT, hb0, hb1⟩, rfl⟩ := hR
  obtain ⟨v0, v1, rfl, D0, D1⟩ := hD.n2
  obtain rfl := Dat.v_iff.mp D0
  obtain rfl := Dat.v_iff.mp D1
  refine ⟨_, (pss_cons (ps_set (i := 2) sc_law_levels.nd rfl (by first | exact Or.inl rfl | exact Or.inr rfl) (pe_callC C_law_walk hr (pa_cons (pv 0) (pa_cons (pv 1) pa_nil))))
    (pss_cons (ps_set (i := 3) sc_law_levels.nd rfl (by first | exact Or.inl rfl | exact Or.inr rfl) (pe_lst pa_nil))
    (pss_cons (ps_for PassesOwn.never rfl (pi_range1 (by rfl) T.range_ (pa_cons (pe_callB call_len_str (by rfl) T.len_ PySem.boot_len (pa_cons (pv 0) pa_nil)) pa_nil)) (pg_name (i := 4) sc_law_levels.nd rfl (by first | exact Or.inl rfl | exact Or.inr rfl))
    (pss_cons (ps_set (i := 5) sc_law_levels.nd rfl (by first | exact Or.inl rfl | exact Or.inr rfl) (pe_ixL K (pe_ixTu K (pv 2) pe_int) (pe_ixL K (pe_ixTu K (pv 2) pe_int) (pv 4))))
      (pss_cons (ps_set (i := 6) sc_law_levels.nd rfl (by first | exact Or.inl rfl | exact Or.inr rfl) (pe_op op_add (pv 5) (pe_callTy call_int1 (by rfl) T.int_ (by decide +kernel) (pa_cons (pe_cmpR op_ne (pe_callC C_law_side hr (pa_cons (pv 0) (pa_cons (pv 2) (pa_cons (pv 4) pa_nil)))) (pe_ixL K (pe_lst (pa_cons pe_str (pa_cons pe_str pa_nil))) (pe_op op_mod (pv 5) pe_int)) (nomark _)) pa_nil))))
      (pss_cons (ps_if (PW.pt (pw_and (pt_cmpR op_eq (pe_callC C_law_kind hr (pa_cons (pe_ix ix_str (pv 0) (pv 4) (fun _ _ => rfl)) pa_nil)) pe_str (nomark _)) (pw_and1 (pt_cmpR op_eq (pe_op op_mod (pv 6) pe_int) pe_int (nomark _)))))
      (pss_one (ps_set (i := 6) sc_law_levels.nd rfl (by first | exact Or.inl rfl | exact Or.inr rfl) (pe_op op_add (pv 6) pe_int)))
      pss_nil)
      (pss_one (ps_expr (pe_bm PySem.F.plainAttrs_list PySem.F.slot_list_append PySem.F.type_list_append mt_append (pv 3) (pa_cons (pv 6) pa_nil))))))))
    (pss_one (ps_ret (pv 3)))))), ?_⟩
  try dsimp only [cxOf, Cx.nox, Cx.wish]
  have hk : IsK K := ⟨⟩
  have o : Own H H [] := Own.nil
  have rw9 : R_law_walk [ds (tx T9), di b9] (dTold (stF b9 T9) (flF b9 T9)) := ⟨_, _, rfl, ⟨hT, hb0, hb1⟩, rfl⟩
  have htd := told_ok hT ⟨hb0, hb1⟩
  unfold levF at q
  generalize stF b9 T9 = st at rw9 htd q
  generalize flF b9 T9 = fl at rw9 htd q
  refine q_setN o (en_call (by wtm_at "eds") rw9) fun v2 H1 o e1 dd => ?_
  have eb := o.ex
  have Dt : Dat K H1 (dTold st fl) v2 := dd.d
  clear o dd
  have o : Own H1 H1 [] := Own.nil
  refine q_setE o (by wtm_at "en") fun pf H2 o => ?_
  refine q_forR (n := (T9.length : Int)) o (eds_cons (EvD.is (ev_cb (eds_cons (ev_var rfl Dat.v) eds_nil) (cd_lenS (by rw [tx_len]; omega))) (by rw [tx_len])) eds_nil) (by omega) (fun m σ' H' => ∃ x y z, σ' = [some (.str (tx T9)), some (.int b9), some v2, some (.ref pf), x, y, z] ∧ Own H1 H' [(pf, .lst (((List.range m).map (levA st (T9.map kindS) fl)).map V.int))]) (fun H1 o => ⟨none, none, none, rfl, o⟩) ?_ ?_
  rotate_left
  · rintro σ' H' ⟨x, y, z, rfl, o⟩
    rw [Int.toNat_natCast] at o
    exact s_retO (f := V.int) o rfl o.get0 o.free0 fun v H2 e d => q v H2 (eb.trans e) (d.mono eb (Evl.Ex.refl _))
  rintro m σ' H' hm ⟨x, y, z, rfl, o⟩
  have hm : m < T9.length := by omega
  have hst : st.getD m 0 < fl.length := htd.a _ (getD_mem 0 (by rw [htd.s]; exact hm))
  have rk : R_law_kind [ds (sg (T9.getD m 0))] (ds (kindS (T9.getD m 0))) := ⟨_, rfl, rfl⟩
  have rs : R_law_side [ds (tx T9), dTold st fl, dn m] (ds (sideA st (T9.map kindS) fl m)) := ⟨_, _, _, _, rfl, ⟨htd, hm⟩, rfl⟩
  have Dt2 := Dt.mono o.ex
  refine q_setV (v := .int (fl.getD (st.getD m 0) 0)) o (ev_told1 (ev_var rfl Dt2) (ev_told0 (ev_var rfl Dt2) (ev_var rfl Dat.v) (by rw [htd.s]; exact hm)) hst) fun H3 o => ?_
  have hlev : levA st (T9.map kindS) fl m = (let l := if sideA st (T9.map kindS) fl m = ownS (fl.getD (st.getD m 0) 0) then fl.getD (st.getD m 0) 0 else fl.getD (st.getD m 0) 0 + 1; if kindS (T9.getD m 0) = fiS then l + l % 2 else l) := by
    unfold levA
    rw [kd_at hm]
  generalize fl.getD (st.getD m 0) 0 = g9 at hlev
  have Dt3 := Dt.mono o.ex
  have e1 : g9 + (if (!decide (sideA st (T9.map kindS) fl m = ownS g9)) = true then (1 : Int) else 0) = (if sideA st (T9.map kindS) fl m = ownS g9 then g9 else g9 + 1) := by
    by_cases h : sideA st (T9.map kindS) fl m = ownS g9
    · rw [decide_eq_true h, if_pos h]
      show g9 + 0 = g9
      omega
    · rw [decide_eq_false h, if_neg h] <;> rfl
  refine q_setV (K := K) (v := .int (if sideA st (T9.map kindS) fl m = ownS g9 then g9 else g9 + 1)) o (EvD.is (ev_op (ev_var (x := .int g9) rfl Dat.v) (ev_cb (eds_cons (ev_op (ev_call (eds_cons (ev_var rfl Dat.v) (eds_cons (ev_var rfl Dt3) (eds_cons (ev_var (x := .int (m : Int)) rfl Dat.v) eds_nil))) rs) (ev_op (EvN.d (show EvN _ _ _ (.l [ds eaS, ds weS]) by wtm_at "en")) (ev_op (ev_var (x := .int g9) rfl Dat.v) ev_c (rd_I (by decide))) (rd_ixL (own_at g9))) rd_neS) eds_nil) cd_intB) rd_I0) (by rw [e1])) fun H4 o => ?_
  dsimp only at hlev
  generalize (if sideA st (T9.map kindS) fl m = ownS g9 then g9 else g9 + 1) = l9 at hlev
  refine q_ifSet (v0 := .int l9) (v1 := .int (l9 + 1)) o rfl (et_and (et_testK hk (ev_op (ev_call (eds_cons (ev_sign (ev_var rfl Dat.v) (ev_var (x := .int (m : Int)) rfl Dat.v) hT hm) eds_nil) rk) ev_c rd_eqS)) fun _ => by wtm_at "et") (fun _ H4 o => by wtm_at "ev") fun H5 o => ?_
  have e2 : (if (decide (kindS (T9.getD m 0) = Str.ofString "figure") && decide (l9 % 2 = 1)) = true then V.int (l9 + 1) else V.int l9) = V.int (levA st (T9.map kindS) fl m) := by
    rw [hlev]
    by_cases h : kindS (T9.getD m 0) = fiS
    · rw [if_pos h, decide_eq_true h, Bool.true_and]
      by_cases h2 : l9 % 2 = 1
      · rw [decide_eq_true h2, if_pos rfl, h2]
      · rw [decide_eq_false h2, if_neg (by decide), show l9 % 2 = 0 by omega, Int.add_zero]
    · rw [if_neg h, decide_eq_false h] <;> rfl
  rw [e2]
  refine s_app (v := .int (levA st (T9.map kindS) fl m)) o rfl o.get0 (fun _ _ o => o.put0) (by rw [List.length_map, List.length_map, List.length_range]; omega) (ev_var rfl Dat.v) fun H6 o => ⟨_, _, _, rfl, ?_⟩
  rw [List.range_succ, map_snoc, map_snoc]
  exact o

--RAW
--SUB pe_callC C_law_order hr => pe_callC (hj := Nat.le_refl _) C_law_order hr
theorem lord_step (T : Txt mg) {f : Addr} {fd : FuncData} (F : Fun K "_law_order" "_law_order" s_law_order f fd) (g : mg "_law_order" = some (.ref f)) (b : Binds K fd ["row", "places", "level"] []) {j : Nat} {R' Rn : List D → D → Prop} (hR : LordStep R' Rn)
    (C_law_order : Cal P w K mg base j "_law_order" ["row", "places", "level"] (PSp K R')) : Cal P w K mg base (j + 1) "_law_order" ["row", "places", "level"] (PSp K Rn) := by
  refine .mk F g b (F.ok sc_law_order (PSp.len fun xs d h => by obtain ⟨rs, ps, lv, G, rfl, _⟩ := hR xs d h; rfl) (fun cdv A outer s H vs Q E hr h => ?_))
  obtain ⟨xs, d, hRn, hD, q⟩ := h
  obtain ⟨rs, ps, lv, G, rfl, ⟨hrs, hp, hn⟩, hG, rfl⟩ := hR xs d hRn
  obtain ⟨v0, v1, v2, rfl, D0, D1, D2⟩ := hD.n3
  obtain ⟨p0, rfl, S0⟩ := Dat.flatE D0
  obtain ⟨p1, rfl, S1⟩ := Dat.flatE D1
  obtain rfl := Dat.v_iff.mp D2
  refine ⟨_, (pss_cons (ps_set (i := 3) sc_law_order.nd rfl (by first | exact Or.inl rfl | exact Or.inr rfl) (pe_lst pa_nil))
    (pss_cons (ps_set (i := 4) sc_law_order.nd rfl (by first | exact Or.inl rfl | exact Or.inr rfl) pe_int)
    (pss_cons (ps_while PassesOwn.never (pt_cmpR op_lt (pv 4) (pe_callB (call_len_seqK K) (by rfl) T.len_ PySem.boot_len (pa_cons (pv 1) pa_nil)) (nomark _))
    (pss_cons (ps_set (i := 5) sc_law_order.nd rfl (by first | exact Or.inl rfl | exact Or.inr rfl) (pv 4))
      (pss_cons (ps_while PassesOwn.never (PW.pt (pw_and (pt_cmpR op_lt (pv 5) (pe_callB (call_len_seqK K) (by rfl) T.len_ PySem.boot_len (pa_cons (pv 1) pa_nil)) (nomark _)) (pw_and1 (pt_cmpR op_gt (pe_ixL K (pv 0) (pe_ixL K (pv 1) (pv 5))) (pv 2) (nomark _)))))
      (pss_one (ps_set (i := 5) sc_law_order.nd rfl (by first | exact Or.inl rfl | exact Or.inr rfl) (pe_op op_add (pv 5) pe_int))))
      (pss_one (ps_if (pt_cmpR op_gt (pv 5) (pv 4) (nomark _))
      (pss_cons (ps_set (i := 3) sc_law_order.nd rfl (by first | exact Or.inl rfl | exact Or.inr rfl) (pe_op op_cat (pv 3) (pe_listRev rfl (by rfl) T.list_ (by rfl) T.reversed_ (pe_callC (hj := Nat.le_refl _) C_law_order hr (pa_cons (pv 0) (pa_cons (pe_slice sl_list (pv 1) (po_some (pv 4)) (po_some (pv 5))) (pa_cons (pe_op op_add (pv 2) pe_int) pa_nil)))))))
        (pss_one (ps_set (i := 4) sc_law_order.nd rfl (by first | exact Or.inl rfl | exact Or.inr rfl) (pv 5))))
      (pss_cons (ps_expr (pe_bm PySem.F.plainAttrs_list PySem.F.slot_list_append PySem.F.type_list_append mt_append (pv 3) (pa_cons (pe_ixL K (pv 1) (pv 4)) pa_nil)))
        (pss_one (ps_set (i := 4) sc_law_order.nd rfl (by first | exact Or.inl rfl | exact Or.inr rfl) (pe_op op_add (pv 4) pe_int)))))))))
    (pss_one (ps_ret (pv 3)))))), ?_⟩
  try dsimp only [cxOf, Cx.nox, Cx.wish]
  have hk : IsK K := ⟨⟩
  have o : Own H H [] := Own.nil
  refine q_setE o (by wtm_at "en") fun pf H1 o => ?_
  refine q_setV o (by wtm_at "ev") fun H2 o => ?_
  refine q_whileO (m0 := ps.length) (fun m σ' H' => ∃ (a : Nat) (pf : Addr) (x : Option V) (fs : List Nat), σ' = [some (.ref p0), some (.ref p1), some (.int lv), some (.ref pf), some (.int (a : Int)), x] ∧ a ≤ ps.length ∧ m = ps.length - a ∧ fs.length ≤ a ∧
      Own H H' [(pf, .lst (fs.map fun p : Nat => V.int p))] ∧ fs ++ segs (above rs lv) (fun g => (G g).reverse) (ps.drop a) = segs (above rs lv) (fun g => (G g).reverse) ps) ⟨0, pf, none, [], rfl, Nat.zero_le _, rfl, Nat.le_refl _, o, rfl⟩ ?_
  rintro m σ' H' ⟨a, pf, x, fs, rfl, ha, rfl, hfs, o, hseg⟩
  refine ⟨_, by wtm_at "et", fun hb H1 e1 => ?_, fun hb H1 e1 => ?_⟩
  · have halt : a < ps.length := by have := of_decide_eq_true hb; omega
    have o := o.grow e1
    refine q_setV o (by wtm_at "ev") fun H1 o => ?_
    refine q_whileO (m0 := ps.length - a) (fun m σ' H' => ∃ (e : Nat), σ' = [some (.ref p0), some (.ref p1), some (.int lv), some (.ref pf), some (.int (a : Int)), some (.int (e : Int))] ∧ a ≤ e ∧ e ≤ ps.length ∧ m = ps.length - e ∧
      (∀ x ∈ (ps.drop a).take (e - a), above rs lv x = true) ∧ Own H H' [(pf, .lst (fs.map fun p : Nat => V.int p))]) ⟨a, rfl, Nat.le_refl _, ha, rfl, by simp, o⟩ ?_
    rintro m σ' H' ⟨e, rfl, hae, hel, rfl, hall, o⟩
    refine ⟨decide ((e : Int) < (ps.length : Int)) && above rs lv (ps.getD e 0), et_and (by wtm_at "et") (fun hlt => ?_), fun hb H1 e1 => ?_, fun hb H1 e1 => ?_⟩
    · have hlt' : e < ps.length := by have := of_decide_eq_true hlt; omega
      have hpe : ps.getD e 0 < rs.length := by
        rw [List.getD_eq_getElem?_getD, List.getElem?_eq_getElem hlt']
        exact hp _ (List.getElem_mem hlt')
      have ix1 : atI (ps.map dn) (e : Int) = some (dn (ps.getD e 0)) := atI_getD 0 (by omega) (by omega)
      have ix2 : atI (rs.map di) ((ps.getD e 0 : Nat) : Int) = some (di (rs.getD (ps.getD e 0) 0)) := atI_getD 0 (by omega) (by omega)
      unfold above
      wtm_at "et"
    · rw [Bool.and_eq_true] at hb
      have hlt' : e < ps.length := by have := of_decide_eq_true hb.1; omega
      have o := o.grow e1
      refine s_setV o (by wtm_at "ev") fun H1 o => ?_
      refine ⟨ps.length - (e + 1), by omega, e + 1, rfl, by omega, by omega, rfl, fun x hx => ?_, o⟩
      rw [show e + 1 - a = (e - a) + 1 by omega, Tx.take_snoc (by rw [List.length_drop]; omega), List.mem_append, List.mem_singleton] at hx
      rcases hx with hx | hx
      · exact hall x hx
      · have e2 : (ps.drop a)[e - a]'(by rw [List.length_drop]; omega) = ps.getD e 0 := by
          rw [List.getElem_drop, List.getD_eq_getElem?_getD, List.getElem?_eq_getElem hlt']
          simp only [Option.getD_some]
          congr 1
          omega
        rw [hx, e2]
        exact hb.2
    · have o := o.grow e1
      have hstop : ∀ y, (ps.drop a)[e - a]? = some y → above rs lv y = false := by
        intro y hy
        rw [List.getElem?_drop, show a + (e - a) = e by omega] at hy
        have hlt' : e < ps.length := (List.getElem?_eq_some_iff.mp hy).1
        rw [decide_eq_true (by omega), Bool.true_and] at hb
        rw [List.getD_eq_getElem?_getD, hy] at hb
        exact hb
      obtain ⟨etw, edw⟩ := takeWhile_of hall hstop
      rw [List.drop_drop, show a + (e - a) = e by omega] at edw
      refine Tx.s_if o (by wtm_at "et") (fun hb H1 o => ?_) (fun hb H1 o => ?_)
      · have hlt : a < e := by have := of_decide_eq_true hb; omega
        have hgl : ((ps.drop a).take (e - a)).length = e - a := by rw [List.length_take, List.length_drop]; omega
        have hgne : (ps.drop a).take (e - a) ≠ [] := fun z => by rw [z] at hgl; simp at hgl; omega
        obtain ⟨r1, hGl⟩ := hG ((ps.drop a).take (e - a)) ((List.take_sublist _ _).trans (List.drop_sublist _ _)) hgne hall
        have sl : ∀ H1, Own H H1 [(pf, .lst (fs.map fun p : Nat => V.int p))] → EvN (tSl (rSlL K) (tVar 1) (tPart (tVar 4)) (tPart (tVar 5))) [some (.ref p0), some (.ref p1), some (.int lv), some (.ref pf), some (.int (a : Int)), some (.int (e : Int))] H1 (dN ((ps.drop a).take (e - a))) := fun H1 o =>
          EvN.is (en_sl (ns := ps) (lo := some (a : Int)) (hi := some (e : Int)) (by wtm_at "ev") (eo_some (by wtm_at "ev")) (eo_some (by wtm_at "ev"))) (by rw [cut_nat ps hel])
        have sl := sl H1 o
        refine q_setL o (en_catVN (ns := fs) (ms := (G ((ps.drop a).take (e - a))).reverse) (f := fun p : Nat => V.int p) rfl o.get0 (en_lrev (ns := G ((ps.drop a).take (e - a))) (f := fun p : Nat => V.int p) (ev_call (eds_cons (by wtm_at "ev") (eds_cons sl.d (eds_cons (by wtm_at "ev") eds_nil))) r1)) (by rw [List.length_reverse, hGl, hgl]; omega)) fun pf2 H1 o => ?_
        refine s_setV o (by wtm_at "ev") fun H1 o => ?_
        refine ⟨ps.length - e, by omega, e, pf2, _, fs ++ (G ((ps.drop a).take (e - a))).reverse, rfl, hel, rfl, by rw [List.length_append, List.length_reverse, hGl, hgl]; omega, o.drop1, ?_⟩
        rw [← hseg, segs_yes (ps := ps.drop a) (by rw [etw]; exact hgne), etw, edw, List.append_assoc]
      · have hlt : e = a := by have := of_decide_eq_false hb; omega
        subst hlt
        rw [Nat.sub_self, List.take_zero] at etw
        have ix1 : atI (ps.map dn) (e : Int) = some (dn (ps.getD e 0)) := atI_getD 0 (by omega) (by omega)
        refine q_app o rfl o.get0 (fun _ _ o => o.put0) (by rw [List.length_map]; omega) (by wtm_at "ev") fun H1 o => ?_
        refine s_setV o (by wtm_at "ev") fun H1 o => ?_
        refine ⟨ps.length - (e + 1), by omega, e + 1, pf, _, fs ++ [ps.getD e 0], rfl, by omega, rfl, by rw [List.length_append, List.length_singleton]; omega, by rw [List.map_append]; exact o, ?_⟩
        have ed : ps.drop e = ps.getD e 0 :: ps.drop (e + 1) := by
          rw [List.getD_eq_getElem?_getD, List.getElem?_eq_getElem halt]
          exact (List.getElem_cons_drop (h := halt)).symm
        have hno : above rs lv (ps.getD e 0) = false := hstop _ (by rw [Nat.sub_self, ed] <;> rfl)
        rw [← hseg, ed, segs_cons, if_neg (by rw [hno]; decide), List.append_assoc] <;> rfl
  · have halt : a = ps.length := by have := of_decide_eq_false hb; omega
    have o := o.grow e1
    rw [halt, List.drop_length, segs_nil, List.append_nil] at hseg
    rw [hseg] at o
    exact s_retO o rfl o.get0 o.free0 q
theorem lord_all (T : Txt mg) {f : Addr} {fd : FuncData} (F : Fun K "_law_order" "_law_order" s_law_order f fd) (g : mg "_law_order" = some (.ref f)) (b : Binds K fd ["row", "places", "level"] []) : ∀ n : Nat, Cal P w K mg base (n + 1) "_law_order" ["row", "places", "level"] (PSp K (R_lord n))
  | 0 => lord_step T F g b lordStep0 (.mk F g b fnOk_no)
  | n + 1 => lord_step T F g b (lordStepS n) (lord_all T F g b n)
theorem ok_law_order (T : Txt mg) (G : Glo mg) {f : Addr} {fd : FuncData} (F : Fun K "_law_order" "_law_order" s_law_order f fd) (g : mg "_law_order" = some (.ref f)) (b : Binds K fd ["row", "places", "level"] []) : Cal P w K mg base 21 "_law_order" ["row", "places", "level"] (PSp K R_law_order) := by
  obtain ⟨f, fd, ok, h1, h2, h3⟩ := lord_all (P := P) (w := w) (base := base) T F g b 10
  refine ⟨f, fd, (ok.mono (by decide)).imp ?_, h1, h2, h3⟩
  · rintro vs H Q E ⟨xs, d, ⟨rs, ps, rfl, ⟨hv, hp, hn⟩, rfl⟩, hD, q⟩
    exact ⟨_, _, ⟨rs, ps, 0, rfl, ⟨hv.1, hp, hn, fun x hx => by have := (hv.2 x hx).2; omega⟩, rfl⟩, hD, q⟩

theorem ok_law_opened (T : Txt mg) (G : Glo mg) {f : Addr} {fd : FuncData} (F : Fun K "_law_opened" "_law_opened" s_law_opened f fd) (g : mg "_law_opened" = some (.ref f)) (b : Binds K fd ["cell", "text"] []) (C_law_mix : Cal P w K mg base 1 "_law_mix" ["cell", "k"] (PSp K R_law_mix)) : Cal P w K mg base 2 "_law_opened" ["cell", "text"] (PSp K R_law_opened) := by
  refine .mk F g b (F.ok sc_law_opened (PSp.len fun _ _ h => by obtain ⟨cell, T9, rfl, hT, rfl⟩ := h; rfl) (fun cdv A outer s H vs Q E hr h => ?_))
  obtain ⟨xs, d, hR, hD, q⟩ := h
  obtain ⟨cell, T9, rfl, hT, rfl⟩ := hR
  obtain ⟨v0, v1, rfl, D0, D1⟩ := hD.n2
  obtain rfl := Dat.v_iff.mp D0
  obtain rfl := Dat.v_iff.mp D1
  refine ⟨_, (pss_cons (ps_if (pt_cmpR op_ne (pe_op op_mod (pe_op op_fdiv (pv 0) pe_int) pe_int) pe_int (nomark _))
    (pss_one (ps_ret (pv 1)))
    pss_nil)
    (pss_cons (ps_setLc (i := 2) (own := [("k", 3)]) (g := gName 3) rfl sc_law_opened.nd rfl rfl (sw_true rfl rfl rfl (by decide +kernel)) (pi_range1 (by rfl) T.range_ (pa_cons (pe_op op_mod (pe_op op_fdiv (pv 0) pe_int) pe_int) pa_nil)) (blkOk_by (N := ["cell", "text", "ahead", "k"]) (sc := defScope s_law_opened) (by decide +kernel)) (fun _ _ _ _ _ => pg_name (i := 3) sc_law_opened.nd rfl (Or.inl rfl)) (fun _ _ _ _ _ => pts_nil) (fun _ _ _ _ _ => (pe_ix ix_str pe_str (pe_op op_mod (pe_op op_fdiv (pe_callC C_law_mix hr (pa_cons (pv 0) (pa_cons (pe_op op_add pe_int (pv 3)) pa_nil))) pe_int) pe_int) (fun _ _ => rfl))))
    (pss_one (ps_ret (pe_slice sl_str (pe_op op_add_str (pe_join pe_str (pv 2)) (pv 1)) po_none (po_some pe_int)))))), ?_⟩
  try dsimp only [cxOf, Cx.nox, Cx.wish]
  have hk : IsK K := ⟨⟩
  have o : Own H H [] := Own.nil
  refine q_when o (by wtm_at "et") (fun hb H1 o => ?_) (fun hb H1 o => ?_)
  · have hb : ¬ cell / 200 % 3 = 1 := by
      intro h9
      rw [decide_eq_true h9] at hb
      cases hb
    rw [openedF, if_neg hb] at q
    exact s_retV (K := K) o (ev_var rfl Dat.v) q
  have hb : cell / 200 % 3 = 1 := by
    by_cases h9 : cell / 200 % 3 = 1
    · exact h9
    · rw [decide_eq_false h9] at hb
      cases hb
  rw [openedF, if_pos hb] at q
  have hn0 : 0 ≤ cell / 600 % 9 := Int.emod_nonneg _ (by decide)
  have hn1 : cell / 600 % 9 < 9 := Int.emod_lt_of_pos _ (by decide)
  refine q_setL (f := fun c : Nat => V.str (sg c)) (ns := aheadF cell) o (EvN.is (en_lcR1 (K := K) (n := cell / 600 % 9) (fun k : Nat => ds (sg (openC.getD (mixF cell (90 + (k : Int)) / 7 % 2).toNat 0))) (by wtm_at "eds") (by omega) (fun _ => rfl) (fun k _ H2 e2 => by
    have rm : R_law_mix [di cell, di (90 + (k : Int))] (di (mixF cell (90 + (k : Int)))) := ⟨_, _, rfl, rfl⟩
    have ix : atI (Str.ofString "{[").cps.toList (mixF cell (90 + (k : Int)) / 7 % 2) = some (openC.getD (mixF cell (90 + (k : Int)) / 7 % 2).toNat 0) := atI_getN (Int.emod_nonneg _ (by decide)) (by rw [show ((Str.ofString "{[").cps.toList.length) = 2 by decide +kernel]; exact Int.emod_lt_of_pos _ (by decide))
    exact EvD.nK hk (ev_op (y := di (mixF cell (90 + (k : Int)) / 7 % 2)) ev_c (by wtm_at "ev") (rd_ixS (by decide +kernel) ix)))) (by unfold aheadF; rw [List.map_map] <;> rfl)) fun pa H2 o => ?_
  have Da : Dat K H2 (dT (aheadF cell)) (.ref pa) := Own.dat0 o
  have hal : (aheadF cell).length ≤ 9 := by unfold aheadF; rw [List.length_map, List.length_range]; omega
  exact s_retV (K := K) o (ev_slS (n := 60) (ev_addS (ev_join (ev_var rfl Da) (by omega)) (ev_var rfl Dat.v) (by omega)) (eo_some ev_c) (by rw [List.length_append]; omega)) q

theorem ok_law (T : Txt mg) (G : Glo mg) {f : Addr} {fd : FuncData} (F : Fun K "law" "law" s_law f fd) (g : mg "law" = some (.ref f)) (b : Binds K fd ["script"] []) (C_law_cell_at : Cal P w K mg base 1 "_law_cell_at" ["script", "k"] (PSp K R_law_cell_at)) (C_law_opened : Cal P w K mg base 2 "_law_opened" ["cell", "text"] (PSp K R_law_opened)) (C_law_text : Cal P w K mg base 3 "_law_text" ["script", "start", "size", "way"] (PSp K R_law_text)) (C_law_size : Cal P w K mg base 1 "_law_size" ["cell"] (PSp K R_law_size)) (C_law_levels : Cal P w K mg base 5 "_law_levels" ["text", "base"] (PSp K R_law_levels)) (C_law_order : Cal P w K mg base 21 "_law_order" ["row", "places", "level"] (PSp K R_law_order)) (C_view : Cal P w K mg base 6 "view" ["text", "base"] (PSp K R_view)) (C_law_kind : Cal P w K mg base 1 "_law_kind" ["sign"] (PSp K R_law_kind)) : FnOk P w K mg base CX0 22 f fd ["script"] (PSp K R_law) := by
  refine (F.ok sc_law (PSp.len fun _ _ h => by obtain ⟨ns, rfl, hns, rfl⟩ := h; rfl) (fun cdv A outer s H vs Q E hr h => ?_))
  obtain ⟨xs, d, hR, hD, q⟩ := h
  obtain ⟨ns, rfl, hns, rfl⟩ := hR
  obtain ⟨v0, rfl, D0⟩ := hD.n1
  obtain ⟨p0, rfl, S0⟩ := Dat.flatE D0
  refine ⟨_, (pss_cons (ps_set (i := 1) sc_law.nd rfl (by first | exact Or.inl rfl | exact Or.inr rfl) (pe_callC C_law_cell_at hr (pa_cons (pv 0) (pa_cons pe_int pa_nil))))
    (pss_cons (ps_set (i := 2) sc_law.nd rfl (by first | exact Or.inl rfl | exact Or.inr rfl) (pe_callC C_law_opened hr (pa_cons (pv 1) (pa_cons (pe_callC C_law_text hr (pa_cons (pv 0) (pa_cons pe_int (pa_cons (pe_callC C_law_size hr (pa_cons (pv 1) pa_nil)) (pa_cons (pe_op op_mod (pe_callC C_law_cell_at hr (pa_cons (pv 0) (pa_cons pe_int pa_nil))) pe_int) pa_nil))))) pa_nil))))
    (pss_cons (ps_set (i := 3) sc_law.nd rfl (by first | exact Or.inl rfl | exact Or.inr rfl) (pe_op op_mod (pe_op op_fdiv (pe_callC C_law_cell_at hr (pa_cons (pv 0) (pa_cons pe_int pa_nil))) pe_int) pe_int))
    (pss_cons (ps_set (i := 4) sc_law.nd rfl (by first | exact Or.inl rfl | exact Or.inr rfl) (pe_callC C_law_levels hr (pa_cons (pv 2) (pa_cons (pv 3) pa_nil))))
    (pss_cons (ps_set (i := 5) sc_law.nd rfl (by first | exact Or.inl rfl | exact Or.inr rfl) (pe_join pe_str (pe_lc (own := [("place", 6)]) (g := gName 6) rfl sc_law.nd (pi_list (pe_callC C_law_order hr (pa_cons (pv 4) (pa_cons (pe_listRg rfl (by rfl) T.list_ (prg_1 (by rfl) T.range_ (pe_callB call_len_str (by rfl) T.len_ PySem.boot_len (pa_cons (pv 2) pa_nil)))) (pa_cons pe_int pa_nil))))) (blkOk_by (N := ["script", "cell", "text", "base", "row", "due", "place", "found", "plain", "sign", "west"]) (sc := defScope s_law) (by decide +kernel)) (fun _ _ _ _ _ => pg_name (i := 6) sc_law.nd rfl (Or.inl rfl)) (fun _ _ _ _ _ => pts_nil) (fun _ _ _ _ _ => (pe_ix ix_str (pv 2) (pv 6) (fun _ _ => rfl))))))
    (pss_cons (ps_set (i := 7) sc_law.nd rfl (by first | exact Or.inl rfl | exact Or.inr rfl) (pe_callC C_view hr (pa_cons (pv 2) (pa_cons (pv 3) pa_nil))))
    (pss_cons (ps_if (PW.pt (pw_or (pt_not (pt_val (pe_callB call_isi (by rfl) T.isinstance_ (by decide +kernel) (pa_cons (pv 7) (pa_cons (pe_bltn (v := .ty "str") (by rfl) T.str_ (by decide +kernel) rfl) pa_nil))))) (pw_or1 (pt_cmpR op_ne (pv 7) (pv 5) (nomark _)))))
    (pss_one (ps_ret pe_bl))
    pss_nil)
    (pss_cons (ps_set (i := 8) sc_law.nd rfl (by first | exact Or.inl rfl | exact Or.inr rfl) (pe_join pe_str (pe_lc (own := [("sign", 9)]) (g := gName 9) rfl sc_law.nd (pi_str (pv 2)) (blkOk_by (N := ["script", "cell", "text", "base", "row", "due", "place", "found", "plain", "sign", "west"]) (sc := defScope s_law) (by decide +kernel)) (fun _ _ _ _ _ => pg_name (i := 9) sc_law.nd rfl (Or.inl rfl)) (fun _ _ _ _ _ => (pts_one (pt_cmpR (op_in_seqK K) (pe_callC C_law_kind hr (pa_cons (pv 9) pa_nil)) (pe_tup (pa_cons pe_str (pa_cons pe_str (pa_cons pe_str pa_nil)))) (by rfl)))) (fun _ _ _ _ _ => (pv 9)))))
    (pss_cons (ps_if (pt_cmpR op_ne (pe_callC C_view hr (pa_cons (pv 8) (pa_cons pe_int pa_nil))) (pv 8) (nomark _))
    (pss_one (ps_ret pe_bl))
    pss_nil)
    (pss_cons (ps_set (i := 10) sc_law.nd rfl (by first | exact Or.inl rfl | exact Or.inr rfl) (pe_join pe_str (pe_lc (own := [("sign", 9)]) (g := gName 9) rfl sc_law.nd (pi_str (pv 2)) (blkOk_by (N := ["script", "cell", "text", "base", "row", "due", "place", "found", "plain", "sign", "west"]) (sc := defScope s_law) (by decide +kernel)) (fun _ _ _ _ _ => pg_name (i := 9) sc_law.nd rfl (Or.inl rfl)) (fun _ _ _ _ _ => (pts_one (pt_cmpR (op_in_seqK K) (pe_callC C_law_kind hr (pa_cons (pv 9) pa_nil)) (pe_tup (pa_cons pe_str (pa_cons pe_str pa_nil))) (by rfl)))) (fun _ _ _ _ _ => (pv 9)))))
    (pss_one (ps_ret (pe_cmpR op_eq (pe_callC C_view hr (pa_cons (pv 10) (pa_cons pe_int pa_nil))) (pe_join pe_str (pe_listRevS rfl (by rfl) T.list_ (by rfl) T.reversed_ (pv 10))) (nomark _)))))))))))))), ?_⟩
  try dsimp only [cxOf, Cx.nox, Cx.wish]
  have hk : IsK K := ⟨⟩
  have o : Own H H [] := Own.nil
  have r1 : R_law_cell_at [dI ns, di 0] (di (cellF ns 0)) := ⟨_, _, rfl, Int.le_refl _, rfl⟩
  have r1b : R_law_cell_at [dI ns, di 1] (di (cellF ns 1)) := ⟨_, _, rfl, by decide, rfl⟩
  refine q_setV o (by wtm_at "ev") fun H1 o => ?_
  generalize cellF ns 0 = cell at r1
  generalize cellF ns 1 = c1 at r1b
  have hs0 := sizeF_nn cell
  have hs1 := sizeF_le cell
  have r2 : R_law_size [di cell] (di (sizeF cell)) := ⟨_, rfl, rfl⟩
  have r3 : R_law_text [dI ns, di 2, di (sizeF cell), di (c1 % 4)] (ds (tx (textF ns 2 (c1 % 4) (sizeF cell).toNat))) := ⟨_, _, _, _, rfl, ⟨by decide, by decide, hs0, hs1, Int.emod_nonneg _ (by decide), Int.emod_lt_of_pos _ (by decide)⟩, rfl⟩
  have hT0 : (textF ns 2 (c1 % 4) (sizeF cell).toNat).length ≤ 60 := by unfold textF; rw [List.length_map, List.length_range]; omega
  generalize textF ns 2 (c1 % 4) (sizeF cell).toNat = T0 at r3 hT0
  have r4 : R_law_opened [di cell, ds (tx T0)] (ds (tx (openedF cell T0))) := ⟨_, _, rfl, hT0, rfl⟩
  have hT : (openedF cell T0).length ≤ 60 := openedF_len hT0
  generalize openedF cell T0 = T9 at r4 hT
  refine q_setV o (by wtm_at "ev") fun H1 o => ?_
  refine q_setV o (by wtm_at "ev") fun H1 o => ?_
  have hb0 : 0 ≤ c1 / 4 % 2 := Int.emod_nonneg _ (by decide)
  have hb1 : c1 / 4 % 2 ≤ 1 := by have := Int.emod_lt_of_pos (c1 / 4) (show (0 : Int) < 2 by decide); omega
  generalize c1 / 4 % 2 = b9 at hb0 hb1
  have rl9 : R_law_levels [ds (tx T9), di b9] (dI (levF T9 b9)) := ⟨_, _, rfl, ⟨hT, hb0, hb1⟩, rfl⟩
  have rv9 : R_view [ds (tx T9), di b9] (ds (tx (viewF T9 b9))) := ⟨_, _, rfl, ⟨hT, hb0, hb1⟩, rfl⟩
  have hv := levF_lv hT ⟨hb0, hb1⟩
  have hll := levF_len T9 b9
  have hvl := viewF_len T9 b9
  have hdue := due_view hT ⟨hb0, hb1⟩
  have ro9 : R_law_order [dI (levF T9 b9), dN (List.range T9.length), di 0] (dN (lord (levF T9 b9) 10 0 (List.range T9.length))) := ⟨_, _, rfl, ⟨hv, fun p hp => by rw [hll]; exact List.mem_range.mp hp, by rw [List.length_range]; exact hT⟩, rfl⟩
  have hop : ∀ p ∈ lord (levF T9 b9) 10 0 (List.range T9.length), p < T9.length := fun p hp => List.mem_range.mp ((lord_perm _ _ _ _).mem_iff.mp hp)
  have hol : (lord (levF T9 b9) 10 0 (List.range T9.length)).length = T9.length := by rw [lord_len, List.length_range]
  generalize viewF T9 b9 = vw at rv9 hvl hdue
  generalize lord (levF T9 b9) 10 0 (List.range T9.length) = od at ro9 hdue hop hol
  have hE : ((T9.filter fun c => inEast (kindS c))).length ≤ 60 := Nat.le_trans (List.length_filter_le _ _) hT
  have hW : ((T9.filter fun c => inWest (kindS c))).length ≤ 60 := Nat.le_trans (List.length_filter_le _ _) hT
  have reE : R_view [ds (tx (T9.filter fun c => inEast (kindS c))), di 0] (ds (tx (T9.filter fun c => inEast (kindS c)))) := ⟨_, _, rfl, ⟨hE, by decide, by decide⟩, by rw [view_east fun c hc => (List.mem_filter.mp hc).2]⟩
  have reW : R_view [ds (tx (T9.filter fun c => inWest (kindS c))), di 1] (ds (tx (T9.filter fun c => inWest (kindS c)).reverse)) := ⟨_, _, rfl, ⟨hW, by decide, by decide⟩, by rw [view_west hW fun c hc => (List.mem_filter.mp hc).2]⟩
  have lenS : ∀ {σ : L2.St} {Hx : Hp} {S : List Nat} {i : Nat}, σ[i]? = some (some (.str (tx S))) → S.length ≤ 60 → EvD K (tCB (fun xs H Q => ∃ z, xs = [.str z] ∧ z.length ≤ sizeLine ∧ Q (.int z.length) H) (tCons (tVar i) tNil)) σ Hx (dn S.length) := fun h hl => EvD.is (ev_cb (eds_cons (ev_var h Dat.v) eds_nil) (cd_lenS (by rw [tx_len]; omega))) (by rw [tx_len])
  refine q_setL (f := V.int) (ns := levF T9 b9) o (en_call (by wtm_at "eds") rl9) fun pr H1 o => ?_
  have Dr : Dat K H1 (dI (levF T9 b9)) (.ref pr) := Own.dat0 o
  refine q_setV (v := .str (tx vw)) o (ev_join (T := vw) (EvN.d (EvN.is (en_lcL1 (K := K) (ns := od) (f := fun n : Nat => V.int n) (fun p => ds (sg (T9.getD p 0))) (ev_call (eds_cons (ev_var rfl Dr) (eds_cons (EvN.d (en_lrgN hk (lenS rfl hT) (by omega))) (eds_cons ev_c eds_nil))) ro9) (by omega) (fun _ => rfl) (fun p hp H6 e6 => EvD.nK hk (ev_sign (ev_var (x := .str (tx T9)) rfl Dat.v) (ev_var (x := .int (p : Int)) rfl Dat.v) (by omega) (hop p hp)))) (lc_signs hdue))) (by omega)) fun H2 o => ?_
  refine q_setV (v := .str (tx vw)) o (ev_call (eds_cons (ev_var (x := .str (tx T9)) rfl Dat.v) (eds_cons (ev_var (x := .int b9) rfl Dat.v) eds_nil)) rv9) fun H3 o => ?_
  refine q_when (b := false) o (EvT.is (by wtm_at "et") (by simp)) (fun hb => by cases hb) (fun _ H4 o => ?_)
  have lcs : ∀ (g : Nat → Bool), D.l (((tx T9).cps.toList.filter g).map fun c => ds (sg c)) = dT (T9.filter g) := fun g => by rw [tx_cps] <;> rfl
  refine q_setV (v := .str (tx (T9.filter fun c => inEast (kindS c)))) o (ev_join (EvN.d (EvN.is (en_lcS (K := K) (w := tx T9) (fun c => inEast (kindS c)) (fun c => ds (sg c)) (ev_var (x := .str (tx T9)) rfl Dat.v) (by rw [tx_cps]; omega) (fun _ => rfl) (fun c hc H5 e5 => et_testK hk (ev_op (ev_call (eds_cons (ev_var (x := .str (sg c)) rfl Dat.v) eds_nil) (⟨_, rfl, rfl⟩ : R_law_kind [ds (sg c)] (ds (kindS c)))) (ev_tup (eds_cons ev_c (eds_cons ev_c (eds_cons ev_c eds_nil))) (Nat.le_of_ble_eq_true rfl)) (rd_inT (f := V.str) (ns := [eaS, fiS, "between"]) rfl rfl))) (fun c hc H5 e5 _ => EvD.nK hk (ev_var (x := .str (sg c)) rfl Dat.v))) (lcs _))) (by omega)) fun H5 o => ?_
  refine q_when (b := false) o (EvT.is (et_testK hk (ev_op (ev_call (eds_cons (ev_var (x := .str (tx (T9.filter fun c => inEast (kindS c)))) rfl Dat.v) (eds_cons ev_c eds_nil)) reE) (ev_var (x := .str (tx (T9.filter fun c => inEast (kindS c)))) rfl Dat.v) rd_neS)) (by rw [decide_eq_true rfl] <;> rfl)) (fun hb => by cases hb) (fun _ H6 o => ?_)
  refine q_setV (v := .str (tx (T9.filter fun c => inWest (kindS c)))) o (ev_join (EvN.d (EvN.is (en_lcS (K := K) (w := tx T9) (fun c => inWest (kindS c)) (fun c => ds (sg c)) (ev_var (x := .str (tx T9)) rfl Dat.v) (by rw [tx_cps]; omega) (fun _ => rfl) (fun c hc H7 e7 => et_testK hk (ev_op (ev_call (eds_cons (ev_var (x := .str (sg c)) rfl Dat.v) eds_nil) (⟨_, rfl, rfl⟩ : R_law_kind [ds (sg c)] (ds (kindS c)))) (ev_tup (eds_cons ev_c (eds_cons ev_c eds_nil)) (Nat.le_of_ble_eq_true rfl)) (rd_inT (f := V.str) (ns := [weS, "between"]) rfl rfl))) (fun c hc H7 e7 _ => EvD.nK hk (ev_var (x := .str (sg c)) rfl Dat.v))) (lcs _))) (by omega)) fun H7 o => ?_
  have eW : ∀ {σ : L2.St} {Hx : Hp}, σ[10]? = some (some (.str (tx (T9.filter fun c => inWest (kindS c))))) → EvD K (tVar 10) σ Hx (ds (tx (T9.filter fun c => inWest (kindS c)))) := fun h => ev_var h Dat.v
  exact s_retV (K := K) (v := .bl true) o (EvD.is (K := K) (ev_op (K := K) (ev_call (K := K) (eds_cons (K := K) (eW rfl) (eds_cons (K := K) ev_c eds_nil)) reW) (ev_join (K := K) (T := (T9.filter fun c => inWest (kindS c)).reverse) (EvN.d (en_revS (K := K) (eW rfl) (by omega))) (by rw [List.length_reverse]; omega)) rd_eqS) (by rw [decide_eq_true rfl])) q

end
theorem all_mk {l : PySem.W.OpenLaw} {w : World} {K : PySem.W.Frag} {h : Heap} {mg : Str → Option Value} {fa : Addr} (X : K.In h) (G0 : h.Ns mainGlobals mg) (hfa : mg "law" = some (.ref fa))
    {f_kind : Addr} {od_kind an_kind : Option Addr} {sl_kind : Array (Option Value)} {oc_kind kV_kind dc_kind pm_kind cd_kind ct_kind : Value}
    (a_kind : PySem.W.nsIn K mainGlobals "kind" = some (some (.ref f_kind)))
    (l_kind : K.lookup f_kind = some ⟨oc_kind, od_kind, .func (PySem.W.fnOf "kind" "kind" (defArgs s_kind) (defBody s_kind) (defScope s_kind) .none kV_kind dc_kind pm_kind an_kind cd_kind ct_kind), sl_kind⟩)
    (c_kind : PySem.W.codeIn K cd_kind "kind" = true) (k_kind : PySem.W.keepIn K (.ref f_kind) = true)
    {f_deeper : Addr} {od_deeper an_deeper : Option Addr} {sl_deeper : Array (Option Value)} {oc_deeper kV_deeper dc_deeper pm_deeper cd_deeper ct_deeper : Value}
    (a_deeper : PySem.W.nsIn K mainGlobals "deeper" = some (some (.ref f_deeper)))
    (l_deeper : K.lookup f_deeper = some ⟨oc_deeper, od_deeper, .func (PySem.W.fnOf "deeper" "deeper" (defArgs s_deeper) (defBody s_deeper) (defScope s_deeper) .none kV_deeper dc_deeper pm_deeper an_deeper cd_deeper ct_deeper), sl_deeper⟩)
    (c_deeper : PySem.W.codeIn K cd_deeper "deeper" = true) (k_deeper : PySem.W.keepIn K (.ref f_deeper) = true)
    {f_walked : Addr} {od_walked an_walked : Option Addr} {sl_walked : Array (Option Value)} {oc_walked kV_walked dc_walked pm_walked cd_walked ct_walked : Value}
    (a_walked : PySem.W.nsIn K mainGlobals "walked" = some (some (.ref f_walked)))
    (l_walked : K.lookup f_walked = some ⟨oc_walked, od_walked, .func (PySem.W.fnOf "walked" "walked" (defArgs s_walked) (defBody s_walked) (defScope s_walked) .none kV_walked dc_walked pm_walked an_walked cd_walked ct_walked), sl_walked⟩)
    (c_walked : PySem.W.codeIn K cd_walked "walked" = true) (k_walked : PySem.W.keepIn K (.ref f_walked) = true)
    {f_own_side : Addr} {od_own_side an_own_side : Option Addr} {sl_own_side : Array (Option Value)} {oc_own_side kV_own_side dc_own_side pm_own_side cd_own_side ct_own_side : Value}
    (a_own_side : PySem.W.nsIn K mainGlobals "own_side" = some (some (.ref f_own_side)))
    (l_own_side : K.lookup f_own_side = some ⟨oc_own_side, od_own_side, .func (PySem.W.fnOf "own_side" "own_side" (defArgs s_own_side) (defBody s_own_side) (defScope s_own_side) .none kV_own_side dc_own_side pm_own_side an_own_side cd_own_side ct_own_side), sl_own_side⟩)
    (c_own_side : PySem.W.codeIn K cd_own_side "own_side" = true) (k_own_side : PySem.W.keepIn K (.ref f_own_side) = true)
    {f_letters_ahead : Addr} {od_letters_ahead an_letters_ahead : Option Addr} {sl_letters_ahead : Array (Option Value)} {oc_letters_ahead kV_letters_ahead dc_letters_ahead pm_letters_ahead cd_letters_ahead ct_letters_ahead : Value}
    (a_letters_ahead : PySem.W.nsIn K mainGlobals "letters_ahead" = some (some (.ref f_letters_ahead)))
    (l_letters_ahead : K.lookup f_letters_ahead = some ⟨oc_letters_ahead, od_letters_ahead, .func (PySem.W.fnOf "letters_ahead" "letters_ahead" (defArgs s_letters_ahead) (defBody s_letters_ahead) (defScope s_letters_ahead) .none kV_letters_ahead dc_letters_ahead pm_letters_ahead an_letters_ahead cd_letters_ahead ct_letters_ahead), sl_letters_ahead⟩)
    (c_letters_ahead : PySem.W.codeIn K cd_letters_ahead "letters_ahead" = true) (k_letters_ahead : PySem.W.keepIn K (.ref f_letters_ahead) = true)
    {f_firm_sides : Addr} {od_firm_sides an_firm_sides : Option Addr} {sl_firm_sides : Array (Option Value)} {oc_firm_sides kV_firm_sides dc_firm_sides pm_firm_sides cd_firm_sides ct_firm_sides : Value}
    (a_firm_sides : PySem.W.nsIn K mainGlobals "firm_sides" = some (some (.ref f_firm_sides)))
    (l_firm_sides : K.lookup f_firm_sides = some ⟨oc_firm_sides, od_firm_sides, .func (PySem.W.fnOf "firm_sides" "firm_sides" (defArgs s_firm_sides) (defBody s_firm_sides) (defScope s_firm_sides) .none kV_firm_sides dc_firm_sides pm_firm_sides an_firm_sides cd_firm_sides ct_firm_sides), sl_firm_sides⟩)
    (c_firm_sides : PySem.W.codeIn K cd_firm_sides "firm_sides" = true) (k_firm_sides : PySem.W.keepIn K (.ref f_firm_sides) = true)
    {f_carried : Addr} {od_carried an_carried : Option Addr} {sl_carried : Array (Option Value)} {oc_carried kV_carried dc_carried pm_carried cd_carried ct_carried : Value}
    (a_carried : PySem.W.nsIn K mainGlobals "carried" = some (some (.ref f_carried)))
    (l_carried : K.lookup f_carried = some ⟨oc_carried, od_carried, .func (PySem.W.fnOf "carried" "carried" (defArgs s_carried) (defBody s_carried) (defScope s_carried) .none kV_carried dc_carried pm_carried an_carried cd_carried ct_carried), sl_carried⟩)
    (c_carried : PySem.W.codeIn K cd_carried "carried" = true) (k_carried : PySem.W.keepIn K (.ref f_carried) = true)
    {f_stretch_sides : Addr} {od_stretch_sides an_stretch_sides : Option Addr} {sl_stretch_sides : Array (Option Value)} {oc_stretch_sides kV_stretch_sides dc_stretch_sides pm_stretch_sides cd_stretch_sides ct_stretch_sides : Value}
    (a_stretch_sides : PySem.W.nsIn K mainGlobals "stretch_sides" = some (some (.ref f_stretch_sides)))
    (l_stretch_sides : K.lookup f_stretch_sides = some ⟨oc_stretch_sides, od_stretch_sides, .func (PySem.W.fnOf "stretch_sides" "stretch_sides" (defArgs s_stretch_sides) (defBody s_stretch_sides) (defScope s_stretch_sides) .none kV_stretch_sides dc_stretch_sides pm_stretch_sides an_stretch_sides cd_stretch_sides ct_stretch_sides), sl_stretch_sides⟩)
    (c_stretch_sides : PySem.W.codeIn K cd_stretch_sides "stretch_sides" = true) (k_stretch_sides : PySem.W.keepIn K (.ref f_stretch_sides) = true)
    {f_sides : Addr} {od_sides an_sides : Option Addr} {sl_sides : Array (Option Value)} {oc_sides kV_sides dc_sides pm_sides cd_sides ct_sides : Value}
    (a_sides : PySem.W.nsIn K mainGlobals "sides" = some (some (.ref f_sides)))
    (l_sides : K.lookup f_sides = some ⟨oc_sides, od_sides, .func (PySem.W.fnOf "sides" "sides" (defArgs s_sides) (defBody s_sides) (defScope s_sides) .none kV_sides dc_sides pm_sides an_sides cd_sides ct_sides), sl_sides⟩)
    (c_sides : PySem.W.codeIn K cd_sides "sides" = true) (k_sides : PySem.W.keepIn K (.ref f_sides) = true)
    {f_levels : Addr} {od_levels an_levels : Option Addr} {sl_levels : Array (Option Value)} {oc_levels kV_levels dc_levels pm_levels cd_levels ct_levels : Value}
    (a_levels : PySem.W.nsIn K mainGlobals "levels" = some (some (.ref f_levels)))
    (l_levels : K.lookup f_levels = some ⟨oc_levels, od_levels, .func (PySem.W.fnOf "levels" "levels" (defArgs s_levels) (defBody s_levels) (defScope s_levels) .none kV_levels dc_levels pm_levels an_levels cd_levels ct_levels), sl_levels⟩)
    (c_levels : PySem.W.codeIn K cd_levels "levels" = true) (k_levels : PySem.W.keepIn K (.ref f_levels) = true)
    {f_turned : Addr} {od_turned an_turned : Option Addr} {sl_turned : Array (Option Value)} {oc_turned kV_turned dc_turned pm_turned cd_turned ct_turned : Value}
    (a_turned : PySem.W.nsIn K mainGlobals "turned" = some (some (.ref f_turned)))
    (l_turned : K.lookup f_turned = some ⟨oc_turned, od_turned, .func (PySem.W.fnOf "turned" "turned" (defArgs s_turned) (defBody s_turned) (defScope s_turned) .none kV_turned dc_turned pm_turned an_turned cd_turned ct_turned), sl_turned⟩)
    (c_turned : PySem.W.codeIn K cd_turned "turned" = true) (k_turned : PySem.W.keepIn K (.ref f_turned) = true)
    {f_order : Addr} {od_order an_order : Option Addr} {sl_order : Array (Option Value)} {oc_order kV_order dc_order pm_order cd_order ct_order : Value}
    (a_order : PySem.W.nsIn K mainGlobals "order" = some (some (.ref f_order)))
    (l_order : K.lookup f_order = some ⟨oc_order, od_order, .func (PySem.W.fnOf "order" "order" (defArgs s_order) (defBody s_order) (defScope s_order) .none kV_order dc_order pm_order an_order cd_order ct_order), sl_order⟩)
    (c_order : PySem.W.codeIn K cd_order "order" = true) (k_order : PySem.W.keepIn K (.ref f_order) = true)
    {f_view : Addr} {od_view an_view : Option Addr} {sl_view : Array (Option Value)} {oc_view kV_view dc_view pm_view cd_view ct_view : Value}
    (a_view : PySem.W.nsIn K mainGlobals "view" = some (some (.ref f_view)))
    (l_view : K.lookup f_view = some ⟨oc_view, od_view, .func (PySem.W.fnOf "view" "view" (defArgs s_view) (defBody s_view) (defScope s_view) .none kV_view dc_view pm_view an_view cd_view ct_view), sl_view⟩)
    (c_view : PySem.W.codeIn K cd_view "view" = true) (k_view : PySem.W.keepIn K (.ref f_view) = true)
    {f_law_cell_at : Addr} {od_law_cell_at an_law_cell_at : Option Addr} {sl_law_cell_at : Array (Option Value)} {oc_law_cell_at kV_law_cell_at dc_law_cell_at pm_law_cell_at cd_law_cell_at ct_law_cell_at : Value}
    (a_law_cell_at : PySem.W.nsIn K mainGlobals "_law_cell_at" = some (some (.ref f_law_cell_at)))
    (l_law_cell_at : K.lookup f_law_cell_at = some ⟨oc_law_cell_at, od_law_cell_at, .func (PySem.W.fnOf "_law_cell_at" "_law_cell_at" (defArgs s_law_cell_at) (defBody s_law_cell_at) (defScope s_law_cell_at) .none kV_law_cell_at dc_law_cell_at pm_law_cell_at an_law_cell_at cd_law_cell_at ct_law_cell_at), sl_law_cell_at⟩)
    (c_law_cell_at : PySem.W.codeIn K cd_law_cell_at "_law_cell_at" = true) (k_law_cell_at : PySem.W.keepIn K (.ref f_law_cell_at) = true)
    {f_law_pick : Addr} {od_law_pick an_law_pick : Option Addr} {sl_law_pick : Array (Option Value)} {oc_law_pick kV_law_pick dc_law_pick pm_law_pick cd_law_pick ct_law_pick : Value}
    (a_law_pick : PySem.W.nsIn K mainGlobals "_law_pick" = some (some (.ref f_law_pick)))
    (l_law_pick : K.lookup f_law_pick = some ⟨oc_law_pick, od_law_pick, .func (PySem.W.fnOf "_law_pick" "_law_pick" (defArgs s_law_pick) (defBody s_law_pick) (defScope s_law_pick) .none kV_law_pick dc_law_pick pm_law_pick an_law_pick cd_law_pick ct_law_pick), sl_law_pick⟩)
    (c_law_pick : PySem.W.codeIn K cd_law_pick "_law_pick" = true) (k_law_pick : PySem.W.keepIn K (.ref f_law_pick) = true)
    {f_law_mix : Addr} {od_law_mix an_law_mix : Option Addr} {sl_law_mix : Array (Option Value)} {oc_law_mix kV_law_mix dc_law_mix pm_law_mix cd_law_mix ct_law_mix : Value}
    (a_law_mix : PySem.W.nsIn K mainGlobals "_law_mix" = some (some (.ref f_law_mix)))
    (l_law_mix : K.lookup f_law_mix = some ⟨oc_law_mix, od_law_mix, .func (PySem.W.fnOf "_law_mix" "_law_mix" (defArgs s_law_mix) (defBody s_law_mix) (defScope s_law_mix) .none kV_law_mix dc_law_mix pm_law_mix an_law_mix cd_law_mix ct_law_mix), sl_law_mix⟩)
    (c_law_mix : PySem.W.codeIn K cd_law_mix "_law_mix" = true) (k_law_mix : PySem.W.keepIn K (.ref f_law_mix) = true)
    {f_law_sign : Addr} {od_law_sign an_law_sign : Option Addr} {sl_law_sign : Array (Option Value)} {oc_law_sign kV_law_sign dc_law_sign pm_law_sign cd_law_sign ct_law_sign : Value}
    (a_law_sign : PySem.W.nsIn K mainGlobals "_law_sign" = some (some (.ref f_law_sign)))
    (l_law_sign : K.lookup f_law_sign = some ⟨oc_law_sign, od_law_sign, .func (PySem.W.fnOf "_law_sign" "_law_sign" (defArgs s_law_sign) (defBody s_law_sign) (defScope s_law_sign) .none kV_law_sign dc_law_sign pm_law_sign an_law_sign cd_law_sign ct_law_sign), sl_law_sign⟩)
    (c_law_sign : PySem.W.codeIn K cd_law_sign "_law_sign" = true) (k_law_sign : PySem.W.keepIn K (.ref f_law_sign) = true)
    {f_law_text : Addr} {od_law_text an_law_text : Option Addr} {sl_law_text : Array (Option Value)} {oc_law_text kV_law_text dc_law_text pm_law_text cd_law_text ct_law_text : Value}
    (a_law_text : PySem.W.nsIn K mainGlobals "_law_text" = some (some (.ref f_law_text)))
    (l_law_text : K.lookup f_law_text = some ⟨oc_law_text, od_law_text, .func (PySem.W.fnOf "_law_text" "_law_text" (defArgs s_law_text) (defBody s_law_text) (defScope s_law_text) .none kV_law_text dc_law_text pm_law_text an_law_text cd_law_text ct_law_text), sl_law_text⟩)
    (c_law_text : PySem.W.codeIn K cd_law_text "_law_text" = true) (k_law_text : PySem.W.keepIn K (.ref f_law_text) = true)
    {f_law_size : Addr} {od_law_size an_law_size : Option Addr} {sl_law_size : Array (Option Value)} {oc_law_size kV_law_size dc_law_size pm_law_size cd_law_size ct_law_size : Value}
    (a_law_size : PySem.W.nsIn K mainGlobals "_law_size" = some (some (.ref f_law_size)))
    (l_law_size : K.lookup f_law_size = some ⟨oc_law_size, od_law_size, .func (PySem.W.fnOf "_law_size" "_law_size" (defArgs s_law_size) (defBody s_law_size) (defScope s_law_size) .none kV_law_size dc_law_size pm_law_size an_law_size cd_law_size ct_law_size), sl_law_size⟩)
    (c_law_size : PySem.W.codeIn K cd_law_size "_law_size" = true) (k_law_size : PySem.W.keepIn K (.ref f_law_size) = true)
    {f_law_kind : Addr} {od_law_kind an_law_kind : Option Addr} {sl_law_kind : Array (Option Value)} {oc_law_kind kV_law_kind dc_law_kind pm_law_kind cd_law_kind ct_law_kind : Value}
    (a_law_kind : PySem.W.nsIn K mainGlobals "_law_kind" = some (some (.ref f_law_kind)))
    (l_law_kind : K.lookup f_law_kind = some ⟨oc_law_kind, od_law_kind, .func (PySem.W.fnOf "_law_kind" "_law_kind" (defArgs s_law_kind) (defBody s_law_kind) (defScope s_law_kind) .none kV_law_kind dc_law_kind pm_law_kind an_law_kind cd_law_kind ct_law_kind), sl_law_kind⟩)
    (c_law_kind : PySem.W.codeIn K cd_law_kind "_law_kind" = true) (k_law_kind : PySem.W.keepIn K (.ref f_law_kind) = true)
    {f_law_walk : Addr} {od_law_walk an_law_walk : Option Addr} {sl_law_walk : Array (Option Value)} {oc_law_walk kV_law_walk dc_law_walk pm_law_walk cd_law_walk ct_law_walk : Value}
    (a_law_walk : PySem.W.nsIn K mainGlobals "_law_walk" = some (some (.ref f_law_walk)))
    (l_law_walk : K.lookup f_law_walk = some ⟨oc_law_walk, od_law_walk, .func (PySem.W.fnOf "_law_walk" "_law_walk" (defArgs s_law_walk) (defBody s_law_walk) (defScope s_law_walk) .none kV_law_walk dc_law_walk pm_law_walk an_law_walk cd_law_walk ct_law_walk), sl_law_walk⟩)
    (c_law_walk : PySem.W.codeIn K cd_law_walk "_law_walk" = true) (k_law_walk : PySem.W.keepIn K (.ref f_law_walk) = true)
    {f_law_near : Addr} {od_law_near an_law_near : Option Addr} {sl_law_near : Array (Option Value)} {oc_law_near kV_law_near dc_law_near pm_law_near cd_law_near ct_law_near : Value}
    (a_law_near : PySem.W.nsIn K mainGlobals "_law_near" = some (some (.ref f_law_near)))
    (l_law_near : K.lookup f_law_near = some ⟨oc_law_near, od_law_near, .func (PySem.W.fnOf "_law_near" "_law_near" (defArgs s_law_near) (defBody s_law_near) (defScope s_law_near) .none kV_law_near dc_law_near pm_law_near an_law_near cd_law_near ct_law_near), sl_law_near⟩)
    (c_law_near : PySem.W.codeIn K cd_law_near "_law_near" = true) (k_law_near : PySem.W.keepIn K (.ref f_law_near) = true)
    {f_law_firm : Addr} {od_law_firm an_law_firm : Option Addr} {sl_law_firm : Array (Option Value)} {oc_law_firm kV_law_firm dc_law_firm pm_law_firm cd_law_firm ct_law_firm : Value}
    (a_law_firm : PySem.W.nsIn K mainGlobals "_law_firm" = some (some (.ref f_law_firm)))
    (l_law_firm : K.lookup f_law_firm = some ⟨oc_law_firm, od_law_firm, .func (PySem.W.fnOf "_law_firm" "_law_firm" (defArgs s_law_firm) (defBody s_law_firm) (defScope s_law_firm) .none kV_law_firm dc_law_firm pm_law_firm an_law_firm cd_law_firm ct_law_firm), sl_law_firm⟩)
    (c_law_firm : PySem.W.codeIn K cd_law_firm "_law_firm" = true) (k_law_firm : PySem.W.keepIn K (.ref f_law_firm) = true)
    {f_law_side : Addr} {od_law_side an_law_side : Option Addr} {sl_law_side : Array (Option Value)} {oc_law_side kV_law_side dc_law_side pm_law_side cd_law_side ct_law_side : Value}
    (a_law_side : PySem.W.nsIn K mainGlobals "_law_side" = some (some (.ref f_law_side)))
    (l_law_side : K.lookup f_law_side = some ⟨oc_law_side, od_law_side, .func (PySem.W.fnOf "_law_side" "_law_side" (defArgs s_law_side) (defBody s_law_side) (defScope s_law_side) .none kV_law_side dc_law_side pm_law_side an_law_side cd_law_side ct_law_side), sl_law_side⟩)
    (c_law_side : PySem.W.codeIn K cd_law_side "_law_side" = true) (k_law_side : PySem.W.keepIn K (.ref f_law_side) = true)
    {f_law_levels : Addr} {od_law_levels an_law_levels : Option Addr} {sl_law_levels : Array (Option Value)} {oc_law_levels kV_law_levels dc_law_levels pm_law_levels cd_law_levels ct_law_levels : Value}
    (a_law_levels : PySem.W.nsIn K mainGlobals "_law_levels" = some (some (.ref f_law_levels)))
    (l_law_levels : K.lookup f_law_levels = some ⟨oc_law_levels, od_law_levels, .func (PySem.W.fnOf "_law_levels" "_law_levels" (defArgs s_law_levels) (defBody s_law_levels) (defScope s_law_levels) .none kV_law_levels dc_law_levels pm_law_levels an_law_levels cd_law_levels ct_law_levels), sl_law_levels⟩)
    (c_law_levels : PySem.W.codeIn K cd_law_levels "_law_levels" = true) (k_law_levels : PySem.W.keepIn K (.ref f_law_levels) = true)
    {f_law_order : Addr} {od_law_order an_law_order : Option Addr} {sl_law_order : Array (Option Value)} {oc_law_order kV_law_order dc_law_order pm_law_order cd_law_order ct_law_order : Value}
    (a_law_order : PySem.W.nsIn K mainGlobals "_law_order" = some (some (.ref f_law_order)))
    (l_law_order : K.lookup f_law_order = some ⟨oc_law_order, od_law_order, .func (PySem.W.fnOf "_law_order" "_law_order" (defArgs s_law_order) (defBody s_law_order) (defScope s_law_order) .none kV_law_order dc_law_order pm_law_order an_law_order cd_law_order ct_law_order), sl_law_order⟩)
    (c_law_order : PySem.W.codeIn K cd_law_order "_law_order" = true) (k_law_order : PySem.W.keepIn K (.ref f_law_order) = true)
    {f_law_opened : Addr} {od_law_opened an_law_opened : Option Addr} {sl_law_opened : Array (Option Value)} {oc_law_opened kV_law_opened dc_law_opened pm_law_opened cd_law_opened ct_law_opened : Value}
    (a_law_opened : PySem.W.nsIn K mainGlobals "_law_opened" = some (some (.ref f_law_opened)))
    (l_law_opened : K.lookup f_law_opened = some ⟨oc_law_opened, od_law_opened, .func (PySem.W.fnOf "_law_opened" "_law_opened" (defArgs s_law_opened) (defBody s_law_opened) (defScope s_law_opened) .none kV_law_opened dc_law_opened pm_law_opened an_law_opened cd_law_opened ct_law_opened), sl_law_opened⟩)
    (c_law_opened : PySem.W.codeIn K cd_law_opened "_law_opened" = true) (k_law_opened : PySem.W.keepIn K (.ref f_law_opened) = true)
    {f_law : Addr} {od_law an_law : Option Addr} {sl_law : Array (Option Value)} {oc_law kV_law dc_law pm_law cd_law ct_law : Value}
    (a_law : PySem.W.nsIn K mainGlobals "law" = some (some (.ref f_law)))
    (l_law : K.lookup f_law = some ⟨oc_law, od_law, .func (PySem.W.fnOf "law" "law" (defArgs s_law) (defBody s_law) (defScope s_law) .none kV_law dc_law pm_law an_law cd_law ct_law), sl_law⟩)
    (c_law : PySem.W.codeIn K cd_law "law" = true) (k_law : PySem.W.keepIn K (.ref f_law) = true)
    (z_len : PySem.W.nsIn K mainGlobals "len" = some none)
    (z_zip : PySem.W.nsIn K mainGlobals "zip" = some none)
    (z_list : PySem.W.nsIn K mainGlobals "list" = some none)
    (z_reversed : PySem.W.nsIn K mainGlobals "reversed" = some none)
    (z_range : PySem.W.nsIn K mainGlobals "range" = some none)
    (z_enumerate : PySem.W.nsIn K mainGlobals "enumerate" = some none)
    (z_max : PySem.W.nsIn K mainGlobals "max" = some none)
    (z_int : PySem.W.nsIn K mainGlobals "int" = some none)
    (z_isinstance : PySem.W.nsIn K mainGlobals "isinstance" = some none)
    (z_str : PySem.W.nsIn K mainGlobals "str" = some none)
    {t_EAST : Tok} (y_EAST : PySem.W.nsIn K mainGlobals "EAST" = some (some (.str "abcdefghijklmnopqrstuvwxyz" t_EAST)))
    {t_WEST : Tok} (y_WEST : PySem.W.nsIn K mainGlobals "WEST" = some (some (.str "ABCDEFGHIJKLMNOPQRSTUVWXYZ" t_WEST)))
    {t_FIGURES : Tok} (y_FIGURES : PySem.W.nsIn K mainGlobals "FIGURES" = some (some (.str "0123456789" t_FIGURES)))
    {t_DEEPEST : Tok} (y_DEEPEST : PySem.W.nsIn K mainGlobals "DEEPEST" = some (some (.int 6 t_DEEPEST)))
    : ∃ fd : FuncData, (∀ (s : Shared) (v : Value), BindsTo s fd ⟨[v], []⟩ [("script", v)]) ∧ ∀ base : Heap, K.In base → base.Ns mainGlobals mg → FnOk l.prog w K mg base CX0 22 fa fd ["script"] (PSp K R_law) := by
  have e := hfa.symm.trans (PySem.W.mg_of X G0 a_law)
  cases e
  have T : Txt mg := ⟨PySem.W.mg_none_of X G0 z_len, PySem.W.mg_none_of X G0 z_zip, PySem.W.mg_none_of X G0 z_list, PySem.W.mg_none_of X G0 z_reversed, PySem.W.mg_none_of X G0 z_range, PySem.W.mg_none_of X G0 z_enumerate, PySem.W.mg_none_of X G0 z_max, PySem.W.mg_none_of X G0 z_int, PySem.W.mg_none_of X G0 z_isinstance, PySem.W.mg_none_of X G0 z_str⟩
  have G : Glo mg := ⟨⟨_, PySem.W.mg_of X G0 y_EAST⟩, ⟨_, PySem.W.mg_of X G0 y_WEST⟩, ⟨_, PySem.W.mg_of X G0 y_FIGURES⟩, ⟨_, PySem.W.mg_of X G0 y_DEEPEST⟩⟩
  have F_kind := fun_mk (st := s_kind) l_kind c_kind k_kind
  have b_kind := F_kind.binds (ps := ["sign"]) fun _ _ _ _ _ _ us hl => match us, hl with | [_], _ => rfl
  have F_deeper := fun_mk (st := s_deeper) l_deeper c_deeper k_deeper
  have b_deeper := F_deeper.binds (ps := ["sign", "ground"]) fun _ _ _ _ _ _ us hl => match us, hl with | [_, _], _ => rfl
  have F_walked := fun_mk (st := s_walked) l_walked c_walked k_walked
  have b_walked := F_walked.binds (ps := ["text", "base"]) fun _ _ _ _ _ _ us hl => match us, hl with | [_, _], _ => rfl
  have F_own_side := fun_mk (st := s_own_side) l_own_side c_own_side k_own_side
  have b_own_side := F_own_side.binds (ps := ["ground"]) fun _ _ _ _ _ _ us hl => match us, hl with | [_], _ => rfl
  have F_letters_ahead := fun_mk (st := s_letters_ahead) l_letters_ahead c_letters_ahead k_letters_ahead
  have b_letters_ahead := F_letters_ahead.binds (ps := ["kinds", "own"]) fun _ _ _ _ _ _ us hl => match us, hl with | [_, _], _ => rfl
  have F_firm_sides := fun_mk (st := s_firm_sides) l_firm_sides c_firm_sides k_firm_sides
  have b_firm_sides := F_firm_sides.binds (ps := ["kinds", "own"]) fun _ _ _ _ _ _ us hl => match us, hl with | [_, _], _ => rfl
  have F_carried := fun_mk (st := s_carried) l_carried c_carried k_carried
  have b_carried := F_carried.binds (ps := ["sides", "own"]) fun _ _ _ _ _ _ us hl => match us, hl with | [_, _], _ => rfl
  have F_stretch_sides := fun_mk (st := s_stretch_sides) l_stretch_sides c_stretch_sides k_stretch_sides
  have b_stretch_sides := F_stretch_sides.binds (ps := ["kinds", "own"]) fun _ _ _ _ _ _ us hl => match us, hl with | [_, _], _ => rfl
  have F_sides := fun_mk (st := s_sides) l_sides c_sides k_sides
  have b_sides := F_sides.binds (ps := ["text", "base"]) fun _ _ _ _ _ _ us hl => match us, hl with | [_, _], _ => rfl
  have F_levels := fun_mk (st := s_levels) l_levels c_levels k_levels
  have b_levels := F_levels.binds (ps := ["text", "base"]) fun _ _ _ _ _ _ us hl => match us, hl with | [_, _], _ => rfl
  have F_turned := fun_mk (st := s_turned) l_turned c_turned k_turned
  have b_turned := F_turned.binds (ps := ["places", "row", "level"]) fun _ _ _ _ _ _ us hl => match us, hl with | [_, _, _], _ => rfl
  have F_order := fun_mk (st := s_order) l_order c_order k_order
  have b_order := F_order.binds (ps := ["row"]) fun _ _ _ _ _ _ us hl => match us, hl with | [_], _ => rfl
  have F_view := fun_mk (st := s_view) l_view c_view k_view
  have b_view := F_view.binds (ps := ["text", "base"]) fun _ _ _ _ _ _ us hl => match us, hl with | [_, _], _ => rfl
  have F_law_cell_at := fun_mk (st := s_law_cell_at) l_law_cell_at c_law_cell_at k_law_cell_at
  have b_law_cell_at := F_law_cell_at.binds (ps := ["script", "k"]) fun _ _ _ _ _ _ us hl => match us, hl with | [_, _], _ => rfl
  have F_law_pick := fun_mk (st := s_law_pick) l_law_pick c_law_pick k_law_pick
  have b_law_pick := F_law_pick.binds (ps := ["script", "k"]) fun _ _ _ _ _ _ us hl => match us, hl with | [_, _], _ => rfl
  have F_law_mix := fun_mk (st := s_law_mix) l_law_mix c_law_mix k_law_mix
  have b_law_mix := F_law_mix.binds (ps := ["cell", "k"]) fun _ _ _ _ _ _ us hl => match us, hl with | [_, _], _ => rfl
  have F_law_sign := fun_mk (st := s_law_sign) l_law_sign c_law_sign k_law_sign
  have b_law_sign := F_law_sign.binds (ps := ["mixed", "way"]) fun _ _ _ _ _ _ us hl => match us, hl with | [_, _], _ => rfl
  have F_law_text := fun_mk (st := s_law_text) l_law_text c_law_text k_law_text
  have b_law_text := F_law_text.binds (ps := ["script", "start", "size", "way"]) fun _ _ _ _ _ _ us hl => match us, hl with | [_, _, _, _], _ => rfl
  have F_law_size := fun_mk (st := s_law_size) l_law_size c_law_size k_law_size
  have b_law_size := F_law_size.binds (ps := ["cell"]) fun _ _ _ _ _ _ us hl => match us, hl with | [_], _ => rfl
  have F_law_kind := fun_mk (st := s_law_kind) l_law_kind c_law_kind k_law_kind
  have b_law_kind := F_law_kind.binds (ps := ["sign"]) fun _ _ _ _ _ _ us hl => match us, hl with | [_], _ => rfl
  have F_law_walk := fun_mk (st := s_law_walk) l_law_walk c_law_walk k_law_walk
  have b_law_walk := F_law_walk.binds (ps := ["text", "base"]) fun _ _ _ _ _ _ us hl => match us, hl with | [_, _], _ => rfl
  have F_law_near := fun_mk (st := s_law_near) l_law_near c_law_near k_law_near
  have b_law_near := F_law_near.binds (ps := ["text", "told", "at", "step", "kinds"]) fun _ _ _ _ _ _ us hl => match us, hl with | [_, _, _, _, _], _ => rfl
  have F_law_firm := fun_mk (st := s_law_firm) l_law_firm c_law_firm k_law_firm
  have b_law_firm := F_law_firm.binds (ps := ["text", "told", "at"]) fun _ _ _ _ _ _ us hl => match us, hl with | [_, _, _], _ => rfl
  have F_law_side := fun_mk (st := s_law_side) l_law_side c_law_side k_law_side
  have b_law_side := F_law_side.binds (ps := ["text", "told", "at"]) fun _ _ _ _ _ _ us hl => match us, hl with | [_, _, _], _ => rfl
  have F_law_levels := fun_mk (st := s_law_levels) l_law_levels c_law_levels k_law_levels
  have b_law_levels := F_law_levels.binds (ps := ["text", "base"]) fun _ _ _ _ _ _ us hl => match us, hl with | [_, _], _ => rfl
  have F_law_order := fun_mk (st := s_law_order) l_law_order c_law_order k_law_order
  have b_law_order := F_law_order.binds (ps := ["row", "places", "level"]) fun _ _ _ _ _ _ us hl => match us, hl with | [_, _, _], _ => rfl
  have F_law_opened := fun_mk (st := s_law_opened) l_law_opened c_law_opened k_law_opened
  have b_law_opened := F_law_opened.binds (ps := ["cell", "text"]) fun _ _ _ _ _ _ us hl => match us, hl with | [_, _], _ => rfl
  have F_law := fun_mk (st := s_law) l_law c_law k_law
  have b_law := F_law.binds (ps := ["script"]) fun _ _ _ _ _ _ us hl => match us, hl with | [_], _ => rfl
  refine ⟨PySem.W.fnOf "law" "law" (defArgs s_law) (defBody s_law) (defScope s_law) .none kV_law dc_law pm_law an_law cd_law ct_law, fun s v => .of_eq rfl, fun base _ _ => ?_⟩
  have C_law_cell_at := ok_law_cell_at (P := l.prog) (w := w) (base := base) T G F_law_cell_at (PySem.W.mg_of X G0 a_law_cell_at) b_law_cell_at
  have C_law_mix := ok_law_mix (P := l.prog) (w := w) (base := base) T G F_law_mix (PySem.W.mg_of X G0 a_law_mix) b_law_mix
  have C_law_opened := ok_law_opened (P := l.prog) (w := w) (base := base) T G F_law_opened (PySem.W.mg_of X G0 a_law_opened) b_law_opened C_law_mix
  have C_law_sign := ok_law_sign (P := l.prog) (w := w) (base := base) T G F_law_sign (PySem.W.mg_of X G0 a_law_sign) b_law_sign
  have C_law_pick := ok_law_pick (P := l.prog) (w := w) (base := base) T G F_law_pick (PySem.W.mg_of X G0 a_law_pick) b_law_pick C_law_cell_at
  have C_law_text := ok_law_text (P := l.prog) (w := w) (base := base) T G F_law_text (PySem.W.mg_of X G0 a_law_text) b_law_text C_law_sign C_law_mix C_law_pick
  have C_law_size := ok_law_size (P := l.prog) (w := w) (base := base) T G F_law_size (PySem.W.mg_of X G0 a_law_size) b_law_size
  have C_law_walk := ok_law_walk (P := l.prog) (w := w) (base := base) T G F_law_walk (PySem.W.mg_of X G0 a_law_walk) b_law_walk
  have C_law_kind := ok_law_kind (P := l.prog) (w := w) (base := base) T G F_law_kind (PySem.W.mg_of X G0 a_law_kind) b_law_kind
  have C_law_near := ok_law_near (P := l.prog) (w := w) (base := base) T G F_law_near (PySem.W.mg_of X G0 a_law_near) b_law_near C_law_kind
  have C_law_firm := ok_law_firm (P := l.prog) (w := w) (base := base) T G F_law_firm (PySem.W.mg_of X G0 a_law_firm) b_law_firm C_law_kind C_law_near
  have C_law_side := ok_law_side (P := l.prog) (w := w) (base := base) T G F_law_side (PySem.W.mg_of X G0 a_law_side) b_law_side C_law_kind C_law_firm C_law_near
  have C_law_levels := ok_law_levels (P := l.prog) (w := w) (base := base) T G F_law_levels (PySem.W.mg_of X G0 a_law_levels) b_law_levels C_law_walk C_law_side C_law_kind
  have C_law_order := ok_law_order (P := l.prog) (w := w) (base := base) T G F_law_order (PySem.W.mg_of X G0 a_law_order) b_law_order
  have C_turned := ok_turned (P := l.prog) (w := w) (base := base) T G F_turned (PySem.W.mg_of X G0 a_turned) b_turned
  have C_order := ok_order (P := l.prog) (w := w) (base := base) T G F_order (PySem.W.mg_of X G0 a_order) b_order C_turned
  have C_kind := ok_kind (P := l.prog) (w := w) (base := base) T G F_kind (PySem.W.mg_of X G0 a_kind) b_kind
  have C_deeper := ok_deeper (P := l.prog) (w := w) (base := base) T G F_deeper (PySem.W.mg_of X G0 a_deeper) b_deeper
  have C_walked := ok_walked (P := l.prog) (w := w) (base := base) T G F_walked (PySem.W.mg_of X G0 a_walked) b_walked C_kind C_deeper
  have C_letters_ahead := ok_letters_ahead (P := l.prog) (w := w) (base := base) T G F_letters_ahead (PySem.W.mg_of X G0 a_letters_ahead) b_letters_ahead
  have C_firm_sides := ok_firm_sides (P := l.prog) (w := w) (base := base) T G F_firm_sides (PySem.W.mg_of X G0 a_firm_sides) b_firm_sides C_letters_ahead
  have C_carried := ok_carried (P := l.prog) (w := w) (base := base) T G F_carried (PySem.W.mg_of X G0 a_carried) b_carried
  have C_stretch_sides := ok_stretch_sides (P := l.prog) (w := w) (base := base) T G F_stretch_sides (PySem.W.mg_of X G0 a_stretch_sides) b_stretch_sides C_firm_sides C_carried
  have C_own_side := ok_own_side (P := l.prog) (w := w) (base := base) T G F_own_side (PySem.W.mg_of X G0 a_own_side) b_own_side
  have C_sides := ok_sides (P := l.prog) (w := w) (base := base) T G F_sides (PySem.W.mg_of X G0 a_sides) b_sides C_walked C_stretch_sides C_kind C_own_side
  have C_levels := ok_levels (P := l.prog) (w := w) (base := base) T G F_levels (PySem.W.mg_of X G0 a_levels) b_levels C_walked C_sides C_own_side C_kind
  have C_view := ok_view (P := l.prog) (w := w) (base := base) T G F_view (PySem.W.mg_of X G0 a_view) b_view C_order C_levels
  exact ok_law T G F_law (PySem.W.mg_of X G0 a_law) b_law C_law_cell_at C_law_opened C_law_text C_law_size C_law_levels C_law_order C_view C_law_kind
end Wk11
open PySem PySem.W PyProof.Rows
set_option maxHeartbeats 0 in
theorem PySem.Challenge.cw_turnscript_k11_view_holds : PySem.Challenge.rw_turnscript_k11_view.Holds := by
  w_on; o_law; k_head; (case hw => w_witness2)
  k_fill
  refine L2.walk_of (l := PySem.Challenge.rw_turnscript_k11_view) (n := 63) (k := 22) (x := "script") (CX := fun _ => L2.CX0) (sp := fun w => Tx.PSp _ Tx.R_law) rfl (by decide) rfl ⟨rfl, by decide, by decide⟩ (fun w h Y => PySem.W.kIn_of Y) ?F (fun _ _ a ns hl _ hS => ⟨[Tx.dI ns], Tx.db true, ⟨ns, rfl, hl, rfl⟩, Tx.Dats.cons (Tx.Dat.ints hS) Tx.Dats.nil, fun v H2 _ dn => Tx.DatN.v_iff.mp dn⟩) (fun _ _ _ _ _ h => h)
  case F =>
    intro w mg fa h KX G hmg
    refine' Wk11.all_mk KX G hmg ?a_kind ?l_kind ?c_kind ?k_kind ?a_deeper ?l_deeper ?c_deeper ?k_deeper ?a_walked ?l_walked ?c_walked ?k_walked ?a_own_side ?l_own_side ?c_own_side ?k_own_side ?a_letters_ahead ?l_letters_ahead ?c_letters_ahead ?k_letters_ahead ?a_firm_sides ?l_firm_sides ?c_firm_sides ?k_firm_sides ?a_carried ?l_carried ?c_carried ?k_carried ?a_stretch_sides ?l_stretch_sides ?c_stretch_sides ?k_stretch_sides ?a_sides ?l_sides ?c_sides ?k_sides ?a_levels ?l_levels ?c_levels ?k_levels ?a_turned ?l_turned ?c_turned ?k_turned ?a_order ?l_order ?c_order ?k_order ?a_view ?l_view ?c_view ?k_view ?a_law_cell_at ?l_law_cell_at ?c_law_cell_at ?k_law_cell_at ?a_law_pick ?l_law_pick ?c_law_pick ?k_law_pick ?a_law_mix ?l_law_mix ?c_law_mix ?k_law_mix ?a_law_sign ?l_law_sign ?c_law_sign ?k_law_sign ?a_law_text ?l_law_text ?c_law_text ?k_law_text ?a_law_size ?l_law_size ?c_law_size ?k_law_size ?a_law_kind ?l_law_kind ?c_law_kind ?k_law_kind ?a_law_walk ?l_law_walk ?c_law_walk ?k_law_walk ?a_law_near ?l_law_near ?c_law_near ?k_law_near ?a_law_firm ?l_law_firm ?c_law_firm ?k_law_firm ?a_law_side ?l_law_side ?c_law_side ?k_law_side ?a_law_levels ?l_law_levels ?c_law_levels ?k_law_levels ?a_law_order ?l_law_order ?c_law_order ?k_law_order ?a_law_opened ?l_law_opened ?c_law_opened ?k_law_opened ?a_law ?l_law ?c_law ?k_law ?z_len ?z_zip ?z_list ?z_reversed ?z_range ?z_enumerate ?z_max ?z_int ?z_isinstance ?z_str ?y_EAST ?y_WEST ?y_FIGURES ?y_DEEPEST
    (case a_kind => k_is); (case l_kind => k_is); (case c_kind => k_is); (case k_kind => k_is); (case a_deeper => k_is); (case l_deeper => k_is); (case c_deeper => k_is); (case k_deeper => k_is); (case a_walked => k_is); (case l_walked => k_is); (case c_walked => k_is); (case k_walked => k_is); (case a_own_side => k_is); (case l_own_side => k_is); (case c_own_side => k_is); (case k_own_side => k_is); (case a_letters_ahead => k_is); (case l_letters_ahead => k_is); (case c_letters_ahead => k_is); (case k_letters_ahead => k_is); (case a_firm_sides => k_is); (case l_firm_sides => k_is); (case c_firm_sides => k_is); (case k_firm_sides => k_is); (case a_carried => k_is); (case l_carried => k_is); (case c_carried => k_is); (case k_carried => k_is); (case a_stretch_sides => k_is); (case l_stretch_sides => k_is); (case c_stretch_sides => k_is); (case k_stretch_sides => k_is); (case a_sides => k_is); (case l_sides => k_is); (case c_sides => k_is); (case k_sides => k_is); (case a_levels => k_is); (case l_levels => k_is); (case c_levels => k_is); (case k_levels => k_is); (case a_turned => k_is); (case l_turned => k_is); (case c_turned => k_is); (case k_turned => k_is); (case a_order => k_is); (case l_order => k_is); (case c_order => k_is); (case k_order => k_is); (case a_view => k_is); (case l_view => k_is); (case c_view => k_is); (case k_view => k_is); (case a_law_cell_at => k_is); (case l_law_cell_at => k_is); (case c_law_cell_at => k_is); (case k_law_cell_at => k_is); (case a_law_pick => k_is); (case l_law_pick => k_is); (case c_law_pick => k_is); (case k_law_pick => k_is); (case a_law_mix => k_is); (case l_law_mix => k_is); (case c_law_mix => k_is); (case k_law_mix => k_is); (case a_law_sign => k_is); (case l_law_sign => k_is); (case c_law_sign => k_is); (case k_law_sign => k_is); (case a_law_text => k_is); (case l_law_text => k_is); (case c_law_text => k_is); (case k_law_text => k_is); (case a_law_size => k_is); (case l_law_size => k_is); (case c_law_size => k_is); (case k_law_size => k_is); (case a_law_kind => k_is); (case l_law_kind => k_is); (case c_law_kind => k_is); (case k_law_kind => k_is); (case a_law_walk => k_is); (case l_law_walk => k_is); (case c_law_walk => k_is); (case k_law_walk => k_is); (case a_law_near => k_is); (case l_law_near => k_is); (case c_law_near => k_is); (case k_law_near => k_is); (case a_law_firm => k_is); (case l_law_firm => k_is); (case c_law_firm => k_is); (case k_law_firm => k_is); (case a_law_side => k_is); (case l_law_side => k_is); (case c_law_side => k_is); (case k_law_side => k_is); (case a_law_levels => k_is); (case l_law_levels => k_is); (case c_law_levels => k_is); (case k_law_levels => k_is); (case a_law_order => k_is); (case l_law_order => k_is); (case c_law_order => k_is); (case k_law_order => k_is); (case a_law_opened => k_is); (case l_law_opened => k_is); (case c_law_opened => k_is); (case k_law_opened => k_is); (case a_law => k_is); (case l_law => k_is); (case c_law => k_is); (case k_law => k_is); (case z_len => k_is); (case z_zip => k_is); (case z_list => k_is); (case z_reversed => k_is); (case z_range => k_is); (case z_enumerate => k_is); (case z_max => k_is); (case z_int => k_is); (case z_isinstance => k_is); (case z_str => k_is); (case y_EAST => k_is); (case y_WEST => k_is); (case y_FIGURES => k_is); (case y_DEEPEST => k_is)

